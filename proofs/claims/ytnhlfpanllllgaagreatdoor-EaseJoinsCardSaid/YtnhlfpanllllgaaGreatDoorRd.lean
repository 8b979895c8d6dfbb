/-
  The moves that are tried and those that are possible; the reducing search.
-/
import Derived.Test.YtnhlfpanllllgaaGreatDoorUe
import Derived.Test.YtnhlfpanllllgaaGreatDoorRa
set_option linter.all false
open List renaming length->I
set_option maxRecDepth 100000
set_option maxHeartbeats 16000000
namespace Go.Abs
variable{f g O x y j t1 Z T Y:Nat}{L X:ae}{H:dB}{Q:fM}{B:bn}{vs:dN}{R N:Int}
section
variable{z:Int}{h M:dB}{D:aG}{F A:Nat}{u:ae}{E:cV}{m:dx}
def Gu(q:aU->Bool):Prop:=∀p f:aU,p.l.kind=f.l.kind->q p=q f
def acX{q:aU->Bool}(l:cY)(drop:Nat->aU->Bool):(nb l drop).countP q<=l.countP q:=by
 have key:∀k,k<=I l->(ux l drop k).countP q<=(l.take k).countP q:=by
  intro k
  induction k with
  |zero=>intro _;exact cT _
  |succ k f=>
   intro H;obtain⟨p,hp⟩:=aR (L:=l) (k:=k) J;have:=f J;rw[iJ,hp,vH];cases h:drop k p
   .rw[Kp hp h,vH];exact Nat.add_le_add_right this _
   rw[Bp hp h];omega
 have:=key (I l) (cT _);rwa[jN]at this
def acy{q:aU->Bool}(H:Gu q){f:aU->aU}(h:∀p,(f p).l.kind=p.l.kind)(l:cY):(l.map f).countP q=l.countP q:=by rw[CJ];exact Ka λp _=>by rw[Function.comp_apply,H _ _ (h p)]
def azX(g A b:Int)(p:aU):(sn g A b p).l.kind=p.l.kind:=by unfold sn;split<;>rfl
def anU(ids:cV)(p:aU):(oZ ids p).l.kind=p.l.kind:=by unfold oZ;split<;>rfl
section
variable {F:Nat} {u:ae}
def ak1(g:cK F u){q:aU->Bool}:∀(H:aG) (l:cY),I l=I u->(∀e∈H,e<I u)->(jQ u l H).countP q=l.countP q:=by
 intro H
 induction H with
 |nil=>intro l _ _;rfl
 |cons e H j=>intro l hl f;show(jQ u (jl u l e) H).countP q=_;rw[j _ (by rw[GA,hl]) λe h=>f e (by simp[h]),J2 hl (f e aQ) (adr g (f e aQ))]
def aiF{q:aU->Bool}(H:Gu q)(l:cY)(i:Nat)(r:Int):(kn l i r).countP q=l.countP q:=by
 by_cases h:i<I l
 .obtain⟨p,hp⟩:=aR h;exact W8 hp λp=>H _ _ rfl
 unfold kn;rw[Xc J]
def ef (k:Int):Prop:=k=1\/k=3\/k=4\/k=6\/k=8
def Uw(g:cK F u){q:aU->Bool}(f:Gu q){k:Int}(y:ef k){a b c:Nat}{l o:Bool}{sg:Int}(x:a<I u)(H:b<I u\/(k≠3/\k≠8))(m:c<I u\/k≠8){L:cY}(h:qi F u k a b c l o sg=some L):L.countP q<=(cq u).countP q:=by
 have B:=cU u;rcases y with rfl|rfl|rfl|rfl|rfl
 .have h:yz u a=some L:=h;unfold yz at h;simp only at h;split at h
  .cases h;show(List.map _ _).countP q<=_;rw[acy f (azX _ _ _)];exact acX (q:=q) (cq u) _
  cases h
 .have h:vQ F u a b=some L:=h;unfold vQ at h;split at h
  .cases h;rw[ak1 g _ _ (by rw[Bq,Bq,B]) (by
    intro e j;simp only[dk,iu,or_false]at j;rcases j with rfl|rfl
    .exact x
    rcases H with H|H
    .exact H
    exact absurd rfl H.1),aiF f,aiF f]
   exact cT _
  cases h
 .have h:yj u a=some L:=h;unfold yj at h;simp only at h;split at h
  .cases h;show(List.map _ _).countP q<=_;rw[acy f (anU _)];exact acX (q:=q) (cq u) _
  cases h
 .have h:vS F u a b=some L:=h;unfold vS at h;split at h
  .cases h;show(List.map _ _).countP q<=_;rw[acy f (anU _)];exact acX (q:=q) (cq u) _
  cases h
 have h:ui F u a b c=some L:=h;unfold ui at h;split at h
 .cases h;rw[ak1 g _ _ B (by
   intro e j;simp only[dk,iu,or_false]at j;rcases j with rfl|rfl|rfl
   .exact x
   .rcases H with H|H
    .exact H
    exact absurd rfl H.2
   rcases m with m|m
   .exact m
   exact absurd rfl m)]
  exact cT _
 cases h
def amZ(g:cK F u){k:Int}(E:ef k)(a b c:Int)(l o:Bool)(sg:Int):aJ S 83 [.one (.p (gT F u)),gP k a b c l o sg] (rj F u k a b c l o sg):=by
 have pa:=aqs (F:=F) (h:=u) (a:=a) (b:=b) (c:=c) (l:=l) (o:=o) (sg:=sg) k;have f:=g.len;have z:=g.cr;unfold rj;cases H:dc F u k a b c l o sg with
 |false=>rw[H]at pa;exact aBN pa
 |true=>
  rw[H]at pa;rw[aH rfl];have j:∀L,qi F u k a.toNat b.toNat c.toNat l o sg=some L->I L<=1000000:=λL h=>by have:=aGL h;omega
  have ne:=g.ne;have Y:¬I u=0:=by have:=jr.2 ne;omega
  unfold dc at H;by_cases N:k=1
  .subst N;simp only[Int.reduceEq,if_true,if_false,false_or,or_false,or_true,true_or,reduceIte,or_self]at H;simp only[dj,mP,dI]at H;obtain⟨rfl,rfl,rfl,m,rfl,rfl⟩:=H;obtain⟨A,rfl,x⟩:=oY m;simp only[s9]at j |-;exact OL f z (k:=1) rfl U ah pa (azU g x) j
  by_cases R:k=3
  .subst R;simp only[Int.reduceEq,if_true,if_false,false_or,or_false,or_true,true_or,reduceIte,or_self]at H;simp only[dj,mP,dI,kB]at H;obtain⟨rfl,rfl,rfl,m,rfl,B,D⟩:=H;obtain⟨A,rfl,x⟩:=oY m;obtain⟨bv,rfl,y⟩:=oY B;simp only[s9]at j |-;exact OL f z (k:=3) rfl U ah pa (axR g x y) j
  by_cases M:k=4
  .subst M;simp only[Int.reduceEq,if_true,if_false,false_or,or_false,or_true,true_or,reduceIte,or_self]at H;simp only[dj,mP,dI]at H;obtain⟨rfl,rfl,rfl,m,rfl,rfl⟩:=H;obtain⟨A,rfl,x⟩:=oY m;simp only[s9]at j |-;exact OL f z (k:=4) rfl U ah pa (aCo g x) j
  by_cases T:k=6
  .subst T;simp only[Int.reduceEq,if_true,if_false,false_or,or_false,or_true,true_or,reduceIte,or_self]at H;simp only[dj,mP,dI,kB]at H;obtain⟨rfl,rfl,rfl,m,rfl,B,D⟩:=H;obtain⟨A,rfl,x⟩:=oY m;obtain⟨bv,rfl,y⟩:=oY B;simp only[s9]at j |-;exact OL f z (k:=6) rfl U ah pa (aEr g x y) j
  by_cases Q:k=8
  .subst Q;simp only[Int.reduceEq,if_true,if_false,false_or,or_false,or_true,true_or,reduceIte,or_self]at H;simp only[dj,mP,dI,kB]at H;obtain⟨rfl,rfl,rfl,m,B,O,_,_⟩:=H;obtain⟨A,rfl,x⟩:=oY m;obtain⟨bv,rfl,y⟩:=oY B;obtain⟨Z,rfl,X⟩:=oY O;simp only[s9]at j |-;exact OL f z (k:=8) rfl U ah pa (aqt g x y X) j
  exact absurd E (by rintro(h|h|h|h|h)<;>contradiction)
def alo(g:cK F u){k:Int}(h:ef k)(a b c:Int)(l o:Bool)(sg:Int):aJ S 41 [df F u,gP k a b c l o sg] (rj F u k a b c l o sg):=aBt (WU g) (amZ g h a b c l o sg) awI
def QL(g:cK F u){k:Int}(D:ef k)(a b c:Int)(l o:Bool)(sg:Int):(∃e,e≠0/\rj F u k a b c l o sg=sV e)\/ ∃M,rj F u k a b c l o sg=nm F M/\dA F M=0/\dc F u k a b c l o sg/\ ∃L,qi F u k a.toNat b.toNat c.toNat l o sg=some L/\M=oo L:=by
 unfold rj;cases f:dc F u k a b c l o sg
 .exact .inl ⟨2,U,rfl⟩
 rw[aH rfl];cases y:qi F u k a.toNat b.toNat c.toNat l o sg with
 |none=>exact .inl ⟨4,U,rfl⟩
 |some L=>
  unfold AJ;by_cases O:(400:Int)<(I u:Int)+(og k).1\/(100:Int)<((ai aa.aF u/2:Nat):Int)+(og k).2
  .exact .inl ⟨7,U,aH O⟩
  refine .inr ⟨oo L,aw O,?_,rfl,L,rfl,rfl⟩;have N:=g.len;have hU:=g.cr;have hF:=g.fing;have ne:=g.ne;have ke:¬I u=0:=by have:=jr.2 ne;omega
  have eB:ai aa.aF u%2=0:=by have:=g.cz.ev;rwa[nV]at this
  have bN:=cU u;have kT:Gu (λ_=>true):=λ_ _ _=>rfl;have X:Gu (λp=>p.l.aF):=λp p' h=>by show(p.l.kind==2)=(p'.l.kind==2);rw[h]
  have pC:(cq u).countP (λp=>p.l.aF)=ai aa.aF u:=by rw[<-UA (h:=u) aa.aF];show _=List.countP _ (List.map _ _);rw[CJ];rfl
  have Q:ai aa.aF (L.map aU.l)=L.countP (λp=>p.l.aF):=by show List.countP _ (List.map _ _)=_;rw[CJ];rfl
  have T:∀l:cY,l.countP (λ_=>true)=I l:=λl=>aQ;have fin:L=[]\/oD F L->(∀ {A bv x:Nat},a=(A:Int)->b=(bv:Int)->c=(x:Int)->A<I u->(bv<I u\/(k≠3/\k≠8))->(x<I u\/k≠8)->dA F (oo L)=0):=by
   intro z A bv x e1 e2 e3 H j E;subst e1 e2 e3;simp only[s9]at y;have c1:=Uw g kT D H j E y;have c2:=Uw g X D H j E y;rw[T,T,bN]at c1;rw[pC]at c2;rcases z with rfl|z
   .unfold dA;have:oo []=[]:=rfl;rw[this];rw[aw (by simp[ai]),aw J,aH rfl]
   exact z.check J (by rw[Q];omega) hF
  unfold dc at f;by_cases Z:k=1
  .subst Z;simp only[Int.reduceEq,if_true,if_false,false_or,or_false,or_true,true_or,reduceIte,or_self]at f;simp only[dj,mP,dI]at f;obtain⟨rfl,rfl,rfl,m,rfl,rfl⟩:=f;obtain⟨A,rfl,H⟩:=oY m;exact fin (as7 g H (by simpa [qi]using y)) rfl (bv:=0) rfl (x:=0) rfl H (.inr ⟨U,U⟩) (.inr U)
  by_cases h3:k=3
  .subst h3;simp only[Int.reduceEq,if_true,if_false,false_or,or_false,or_true,true_or,reduceIte,or_self]at f;simp only[dj,mP,dI,kB]at f;obtain⟨rfl,rfl,rfl,m,rfl,B,R⟩:=f;obtain⟨A,rfl,H⟩:=oY m;obtain⟨bv,rfl,j⟩:=oY B;exact fin (.inr (avK g H j J (by simpa [qi]using y))) rfl rfl (x:=0) rfl H (.inl j) (.inr U)
  by_cases Y:k=4
  .subst Y;simp only[Int.reduceEq,if_true,if_false,false_or,or_false,or_true,true_or,reduceIte,or_self]at f;simp only[dj,mP,dI]at f;obtain⟨rfl,rfl,rfl,m,rfl,rfl⟩:=f;obtain⟨A,rfl,H⟩:=oY m;exact fin (.inr (awl g H (by simpa [qi]using y))) rfl (bv:=0) rfl (x:=0) rfl H (.inr ⟨U,U⟩) (.inr U)
  by_cases h6:k=6
  .subst h6;simp only[Int.reduceEq,if_true,if_false,false_or,or_false,or_true,true_or,reduceIte,or_self]at f;simp only[dj,mP,dI,kB]at f;obtain⟨rfl,rfl,rfl,m,rfl,B,R⟩:=f;obtain⟨A,rfl,H⟩:=oY m;obtain⟨bv,rfl,j⟩:=oY B;exact fin (.inr (atB g H j (by simpa [qi]using y))) rfl rfl (x:=0) rfl H (.inr ⟨U,U⟩) (.inr U)
  by_cases h8:k=8
  .subst h8;simp only[Int.reduceEq,if_true,if_false,false_or,or_false,or_true,true_or,reduceIte,or_self]at f;simp only[dj,mP,dI,kB]at f;obtain⟨rfl,rfl,rfl,m,B,hz,_,_⟩:=f;obtain⟨A,rfl,H⟩:=oY m;obtain⟨bv,rfl,j⟩:=oY B;obtain⟨x,rfl,z⟩:=oY hz;exact fin (.inr (aGE g H j z (by simpa [qi]using y))) rfl rfl rfl H (.inl j) (.inl z)
  exact absurd D (by rintro(h|h|h|h|h)<;>contradiction)
end
def rb(x y:dx):Bool:=decide (x.b<y.b)||(decide (x.b=y.b)&&decide (x.c<y.c))
def Du(m:dx):Prop:=(0<=m.b/\m.b<=1000000)/\0<=m.c/\m.c<=1000000
def Wm:Vq rb:=⟨λa b h=>by unfold rb at*;simp at*;omega,λa b c h k=>by unfold rb at*;simp at*;omega⟩
def av4(x y:dx)(g:Du x)(H:Du y):∃n:Int,aJ S 197 [D_ x,D_ y] (fQ n)/\(decide (n<0)=rb x y):=by
 obtain⟨⟨z,m⟩,X,x4⟩:=g;obtain⟨⟨N,A⟩,u,Y⟩:=H;have f:IntKind.i64.wrap (x.b-y.b)=x.b-y.b:=nK J J;have j:IntKind.i64.wrap (x.c-y.c)=x.c-y.c:=nK J J;cases h:(x.b==y.b)with
 |true=>
  have e:x.b=y.b:=eq_of_beq h;refine⟨x.c-y.c,?_,?_⟩
  .refine bt akS ?_;simp only[go_sem,aeA,bne,h,j,af,au]
  unfold rb;rw[sH];simp;omega
 |false=>
  have e:¬x.b=y.b:=by simpa using h
  refine⟨x.b-y.b,?_,?_⟩
  .refine bt akS ?_;simp only[go_sem,aeA,bne,h,f,af,au]
  unfold rb;rw[sH];simp;omega
abbrev aS(o:dB):s_:=o.map dx.ps
def apz(o:dB)(k:Nat)(v:dx):(aS o).set k v.ps=aS (o.set k v):=by simp[xf]
def k_(o:dB):I (aS o)=I o:=cH _
def KT(id g O:Nat)(H:dB)(aj:aB)(v:V)(A:aB):Prop:=v=.tup []/\(∃f:dB,A id=(g,some (.arr O 7 (aS f)))/\f.Perm H/\xj rb f 0 (I f))/\dG (· =id) aj A
abbrev Eg:V:=.one (.p (.fn 197 [] []))
def aHl{al:cG}{aj:aB}{id:Nat}(o:al.ok id)(hl:I H<=1000000)(HB:∀m∈H,Du m)(hC:aj id=(g,some (.arr O 7 (aS H)))):
  ∃v A,je S 249 [.one (.hsl id g 7 0 (I H)),aC 0,aC (I H),Eg] al aj v A/\KT id g O H aj v A:=by
 have z:S.shared 197=false:=ah;refine nc al8 (jn rfl) ?_;have w0:IntKind.i64.wrap (0+1)=((0+1:Nat):Int):=U;simp only[go_sem,Z4,w0,af,au];refine c_ (λk B A=>B 0=.one (.hsl id g 7 0 (I H))/\B 1=aC 0/\B 2=aC (I H)/\B 3=Eg/\B 8=aC ((k+1:Nat):Int)/\ ∃zs:dB,A id=(g,some (.arr O 7 (aS zs)))/\zs.Perm H/\xj rb zs 0 (k+1)/\dG (· =id) aj A) 0 (I H) (cE _) ?_ ?_
 .simp only[go_sem];exact⟨rfl,H,hC,.refl _,λp q x y _ L D=>J,dG.refl _ _⟩
 rintro k B bY hk ⟨h0,L,D,X,h6,zs,hZ,hp,hs,dD⟩
 have pW:=hp.length_eq;by_cases aq:k+1<I H
 .have R:((k+1:Nat):Int)<(I H:Int):=J;obtain⟨x,hx⟩:=aR (L:=zs) (k:=k+1) J;have sx:Du x:=HB x (hp.mem_iff.1 (ch hx));simp only[go_sem,Ve,h0,L,D,X,h6,R,af,au];refine c_ (λq B A=>B 0=.one (.hsl id g 7 0 (I H))/\B 1=aC 0/\B 2=aC (I H)/\B 3=Eg/\B 8=aC ((k+1:Nat):Int)/\B 9=aC ((k+1-q:Nat):Int)/\ ∃f:dB,A id=(g,some (.arr O 7 (aS f)))/\AL rb zs f x 0 (k+1) (k+1-q)/\dG (· =id) aj A) 0 (k+1) (cE _) ?_ ?_
  .simp only[go_sem,h0,L,D,X,h6];exact⟨zs,hZ,AL.start (cE _) hx hs,dD⟩
  rintro q dz bJ hq ⟨k0,k1,Z,Q,k6,F,f,hW,h,Ja⟩
  have iX:I f=I H:=h.perm.length_eq.trans pW;have wk:IntKind.i64.wrap (((k+1:Nat):Int)+1)=((k+1+1:Nat):Int):=cP (n:=k+1) J;by_cases Y:k+1-q=0
  .have e7:¬((0:Int)<((k+1-q:Nat):Int)):=J;simp only[go_sem,So,QQ,k0,k1,Z,Q,k6,F,e7,wk,af,au];refine⟨aI,J,f,hW,h.perm.trans hp,h.stop Wm (.inl Y),Ja⟩
  obtain⟨j,hj⟩:∃j,k+1-q=j+1:=⟨k-q,J⟩;have e7:((0:Int)<((j+1:Nat):Int)):=J;obtain⟨y,M⟩:=aR (L:=f) (k:=j) J;have sy:Du y:=HB y ((h.perm.trans hp).mem_iff.1 (ch M));rw[hj]at h F;have wj:IntKind.i64.wrap (((j+1:Nat):Int)-1)=(j:Int):=by rw[u9 J];omega
  have wR:=Ii h.at';have F2:=Ii M;have j1:j+1<I H:=by have:=h.le;omega
  have j2:j<I H:=J;obtain⟨n,pl,N⟩:=av4 x y sx sy;cases E:rb x y with
  |false=>
   rw[E]at N;have T:¬(n<0):=by simpa using N
   simp only[go_sem,So,QQ,k0,k1,Z,Q,k6,F,e7,wk,wj,hW,wR,F2,dx.ps,j1,j2,o,z,T2 pl,T,af,au];refine⟨aI,J,f,rfl,h.perm.trans hp,h.stop Wm (.inr ⟨y,J,M,E⟩),Ja⟩
  |true=>
   rw[E]at N;have T:n<0:=by simpa using N
   have zH:=h.step Wm (cE _) M E;have ab:¬(j+1=j):=J;have l1:j+1<I f:=J;have l2:j<I f:=J;simp only[go_sem,So,QQ,k0,k1,Z,Q,k6,F,e7,wk,wj,hW,wR,F2,dx.ps,j1,j2,l1,l2,ab,o,z,T2 pl,T,mA,kI,k_,af,au];have PU:k+1-(q+1)=j:=J;refine⟨aI,aI,J,by rw[PU],(f.set (j+1) y).set j x,by rw[<-apz,<-apz];rfl,by rw[PU];exact zH,(Ja.dE rfl _).dE rfl _⟩
 have R:¬(((k+1:Nat):Int)<(I H:Int)):=J;simp only[go_sem,Ve,h0,L,D,X,h6,R,af,au];exact⟨rfl,⟨zs,hZ,hp,hs.mono (.inl J)⟩,dD⟩
def avf{al:cG}{aj:aB}{id:Nat}(o:al.ok id)(F:al.fs.contains 249)(hl:I H<=12)(x:∀m∈H,Du m)(h:aj id=(g,some (.arr O 7 (aS H))))(lim:Int):
  ∃v A,je S 223 [.one (.hsl id g 7 0 (I H)),aC 0,aC (I H),aC lim,Eg] al aj v A/\KT id g O H aj v A:=by
 refine nc agk (jn rfl) ?_;have j:IntKind.i64.wrap ((I H:Int)-0)=(I H:Int):=by rw[Int.sub_zero];exact nK J J
 have z:(I H:Int)<=12:=J;simp only[go_sem,WM,af,au];refine mx ?_;simp only[go_sem,WG,j,z,aiA,af,au];refine Bl h (by rfl) (.inr ⟨o,by rw[show S.sites 249=[249] by kernel_rfl];simp only[mN,oc,F,wX]⟩) (P:=KT id g O H aj) (λT y _=>aHl y J x h) λv A u=>?_;obtain⟨rfl,f⟩:=u;simp only[go_sem,af,au];exact⟨rfl,f⟩
def aqA{al:cG}{aj:aB}{id:Nat}(o:al.ok id)(F:(S.sites 223).all al.fs.contains)(hl:I H<=12)(y:∀m∈H,Du m)(j:aj id=(g,some (.arr O 7 (aS H)))):
  ∃v A,je S 196 [.one (.hsl id g 7 0 (I H)),Eg] al aj v A/\KT id g O H aj v A:=by
 obtain⟨k,pb⟩:=acW (I H) J;have x:IntKind.u64.wrap (I H:Int)=(I H:Int):=by
  have e:IntKind.u64.wrap (I H:Int)=(I H:Int)%18446744073709551616:=by unfold IntKind.wrap;rfl
  rw[e];omega
 refine nc al2 (jn rfl) ?_;have f:S.shared 194=false:=ah;simp only[go_sem,aeG,x,f,G4 pb,aqa,af,au];refine Bl j (by rfl) (.inr ⟨o,F⟩) (P:=KT id g O H aj) (λT z h=>avf z (by rw[h];kernel_rfl) hl y j k) λv A u=>?_;obtain⟨rfl,h⟩:=u;simp only[go_sem,af,au];exact⟨rfl,h⟩
def ary(o:cV)(x:Int)(hl:I o<=1000000):aJ S 158 [.one (.p (.sl (dR o))),aC x] (fQ (match (List.range (I o)).find? (pZ o x)with|some k=>(k:Int)|none=> -1)):=by
 refine bt axm ?_;simp only[go_sem,apq,af,au];refine c_ (λk B aj=>B 0=.one (.p (.sl (dR o)))/\B 1=aC x/\B 7=aC (I o)/\B 8=aC k/\ ∀j,j<k->pZ o x j=false) 0 (I o) (cE _) ?_ ?_
 .simp only[go_sem];exact⟨rfl,λj D=>absurd D (mX j)⟩
 rintro k B aj T ⟨m,M,E,g,z⟩
 by_cases A:k<I o
 .have N:((k:Int)<(I o:Int)):=J;obtain⟨y,L⟩:=aR A;have F:=vT L;have R:=cP (n:=k) J;have u:pZ o x k=(y==x):=by simp[pZ,L]
  cases H:(y==x)with
  |true=>
   have Q:(x==y):=by have:=dI.1 H;simp[this]
   rw[H]at u;have f:=Cz (p:=pZ o x) A z u;simp only[go_sem,SL,m,M,E,g,A,N,F,H,Q,f,af,au]
  |false=>
   have Q:(x==y)=false:=by
    have:¬y=x:=by simpa using H
    simp;exactλh=>this h.symm
   rw[H]at u;have O:∀j,j<k+1->pZ o x j=false:=λj D=>by
    rcases m_.1 D with h|rfl
    .exact z j h
    exact u
   simp only[go_sem,SL,m,M,E,g,A,N,F,H,Q,R,af,au];exact O
 have:k=I o:=J;subst this;have f:=Gb (p:=pZ o x) z;simp only[go_sem,SL,agh,m,E,g,dW,f,af,au]
def amB(o:cV)(x:Int)(hl:I o<=1000000):aJ S 126 [.one (.p (.sl (dR o))),aC x] (dn (o.contains x)):=by
 have f:=ary o x hl;refine bt avA ?_;cases u:o.contains x with
 |true=>
  have N:x∈o:=by simpa using u
  obtain⟨k,z⟩:=jL N;have F:=(cD.1 z).1;cases h:(List.range (I o)).find? (pZ o x)with
  |none=>have:=GU.1 h k (gI.2 F);simp[pZ,z]at this
  |some j=>rw[h]at f;have m:(0:Int)<=(j:Int):=J;simp only[go_sem,aeC,akv,dP f,m,af,au]
 |false=>
  have N:x∉o:=by simpa using u
  cases h:(List.range (I o)).find? (pZ o x)with
  |some j=>
   have H:=IK h;unfold pZ at H;cases g:o[j]? with
   |none=>rw[g]at H;cases H
   |some y=>
    rw[g]at H;have:y=x:=by simpa using H
    subst this;exact absurd (ch g) N
  |none=>rw[h]at f;have m:¬(0:Int)<= -1:=U;simp only[go_sem,aeC,akv,dP f,m,af,au]
def Ic(a b:dx):Bool:=(a.k==b.k)&&((a.a==b.a)&&((a.b==b.b)&&((a.c==b.c)&&((a.l==b.l)&&((a.o==b.o)&&(a.s==b.s))))))
def avU(x y:dx):vD [true,true,true,true,false,false,true] [.p (.int .i64 x.k),.p (.int .i64 x.a),.p (.int .i64 x.b),.p (.int .i64 x.c),.p (.bool x.l),.p (.bool x.o),.p (.int .i64 x.s)] [.p (.int .i64 y.k),.p (.int .i64 y.a),.p (.int .i64 y.b),.p (.int .i64 y.c),.p (.bool y.l),.p (.bool y.o),.p (.int .i64 y.s)]=some (Ic x y):=by
 have e:∀a b:Int,uF true (.int .i64 a) (.int .i64 b)=some (a==b):=λa b=>by simp[uF]
 have e2:∀a b:Bool,uF false (.bool a) (.bool b)=some (a==b):=λa b=>by simp[uF]
 simp only[vD,Ic,e,e2];cases(x.k==y.k)<;>cases(x.a==y.a)<;>cases(x.b==y.b)<;>cases(x.c==y.c)<;>cases(x.l==y.l)<;>cases(x.o==y.o)<;>cases(x.s==y.s)<;>rfl
def avl{a b:dx}(h:Ic a b):a=b:=by cases a;cases b;unfold Ic at h;simp only[dj,dI]at h;obtain⟨j,f,x,g,u,H,m⟩:=h;subst j f x g u H m;rfl
def aCw(a:dx):Ic a a:=by unfold Ic;simp
def aCI(h:dB)(x:dx)(N:I h<=1000000):∃i:Int,((0<=i->x∈h)/\(i<0->x∉h))/\aJ S 222 [.one (.p (.sl (aS h))),D_ x] (fQ i):=by
 have:∃r,(∃i:Int,((0<=i->x∈h)/\(i<0->x∉h))/\r=fQ i)/\aJ S 222 [.one (.p (.sl (aS h))),D_ x] r:=by
  refine JP rfl avg (jn rfl) ?_;simp only[go_sem,anq,af,au];refine c_ (λk B aj=>B 0=.one (.p (.sl (aS h)))/\B 3=.one (.bh 14208000000 1 0)/\aj 14208000000=(1,some (.var [.p (.int .i64 x.k),.p (.int .i64 x.a),.p (.int .i64 x.b),.p (.int .i64 x.c),.p (.bool x.l),.p (.bool x.o),.p (.int .i64 x.s)]))/\B 7=aC (I h)/\B 8=aC k/\x∉h.take k) 0 (I h) (cE _) ?_ ?_
  .simp only[go_sem];simp
  rintro k B aj Q ⟨u,E,F,y,j,Z⟩
  by_cases A:k<I h
  .have L:((k:Int)<(I h:Int)):=J;obtain⟨m,O⟩:=aR A;have D:=Ii O;have z:=cP (n:=k) J;have g:=avU x m;cases f:Ic x m with
   |true=>rw[f]at g;simp only[go_sem,VA,u,E,F,y,j,A,L,D,dx.ps,z,g,af,au];exact⟨aI,_,⟨_,⟨λ_=>(avl f)▸ch O,λH=>J⟩,rfl⟩,rfl⟩
   |false=>
    rw[f]at g;simp only[go_sem,VA,u,E,F,y,j,A,L,D,dx.ps,z,g,af,au];refine⟨aI,λH=>?_⟩;rw[iJ,O]at H;rcases fc.1 H with H|H
    .exact Z H
    simp only[Option.toList_some,kV]at H;rw[H,aCw]at f;cases f
  have:k=I h:=J;subst this;simp only[go_sem,VA,am8,u,y,j,dW,af,au];exact⟨_,⟨_,⟨λH=>absurd H U,λ_=>by rwa[jN]at Z⟩,rfl⟩,rfl⟩
 obtain⟨_,⟨i,M,rfl⟩,H⟩:=this;exact⟨i,M,H⟩
def ale(h:dB)(x:dx)(f:I h<=1000000):∃b,((b=true->x∈h)/\(b=false->x∉h))/\aJ S 195 [.one (.p (.sl (aS h))),D_ x] (dn b):=by obtain⟨i,H,j⟩:=aCI h x f;refine⟨decide (0<=i),⟨λg=>H.1 (lp g),λg=>H.2 (by have:=gU g;omega)⟩,?_⟩;refine bt azO ?_;simp only[go_sem,ae3,aGV,dP j,af,au]
abbrev iN:Nat:=57
abbrev ajG:Nat:=3
def JG(k:Int)(A:Nat)(m:dx):Prop:=m.k=k/\m.a=(A:Int)/\m.l=false/\m.o=false/\m.s=0/\Du m
def aAg{l:cV}(h:I l=2):∃a b,l=[a,b]:=by
 match l,h with
 |[a,b],_=>exact⟨a,b,rfl⟩
def aGX{l:cV}(h:I l=3):∃a b c,l=[a,b,c]:=by
 match l,h with
 |[a,b,c],_=>exact⟨a,b,c,rfl⟩
def Mo(aj:aB)(v:V)(A:aB):Prop:=v=.tup []/\A=aj
def Xi{al:cG}{aj:aB}{os:eZ}{d:eh}{P:V->aB->Prop}(u:(vs.map (jA aj)).flatten=[])(g:al=.all\/(S.sites f).all al.fs.contains)
  (h:∀T,T.fs=S.sites f->∃v A,je S f vs T aj v A/\P v A) (j:∀v A,P v A->iH S al os Q (dF B d v) A):iU S al (.sc f vs) d os Q B aj:=by
 refine qq (P:=P) ?_ (h _ rfl) j;rcases g with rfl|H
 .rfl
 refine E9 ?_ H;show al.gH (vs.map (jA aj)).flatten=true;rw[u];rfl
def auz{al:cG}{aj:aB}:∃v A,je S 249 [.one (.p .nils),aC 0,aC 0,Eg] al aj v A/\Mo aj v A:=by refine nc al8 (jn rfl) ?_;have f:IntKind.i64.wrap 1=1:=U;have h:¬((1:Int)<0):=U;simp only[go_sem,Z4,af,au];refine mx ?_;simp only[go_sem,Ve,f,h,af,au];first|done|exact⟨rfl,rfl⟩|trace_state
def aEl{al:cG}{aj:aB}(f:al.fs.contains 249)(lim:Int):∃v A,je S 223 [.one (.p .nils),aC 0,aC 0,aC lim,Eg] al aj v A/\Mo aj v A:=by refine nc agk (jn rfl) ?_;have g:IntKind.i64.wrap (0-0)=0:=U;have j:((0:Int)<=12):=U;simp only[go_sem,WM,af,au];refine mx ?_;simp only[go_sem,WG,g,j,aiA,af,au];refine Xi (by rfl) (.inr (by rw[show S.sites 249=[249] by kernel_rfl];simp only[mN,oc,f,wX])) (P:=Mo aj) (λT _=>auz) λv A h=>?_;obtain⟨rfl,H⟩:=h;simp only[go_sem,af,au];exact⟨rfl,H⟩
def aFK{al:cG}{aj:aB}(F:(S.sites 223).all al.fs.contains):∃v A,je S 196 [.one (.p .nils),Eg] al aj v A/\Mo aj v A:=by obtain⟨k,pb⟩:=acW 0 J;have g:IntKind.u64.wrap ((0:Nat):Int)=((0:Nat):Int):=U;refine nc al2 (jn rfl) ?_;have f:S.shared 194=false:=ah;simp only[go_sem,aeG,g,f,G4 pb,aqa,af,au];refine Xi (by rfl) (.inr F) (P:=Mo aj) (λT h=>aEl (by rw[h];kernel_rfl) k) λv A H=>?_;obtain⟨rfl,h⟩:=H;simp only[go_sem,af,au];exact⟨rfl,h⟩
def lR(z:Int)(A:Nat)(D:aG)(h:dB):Prop:=
 (z≠8->∀b:Nat,A<b->I D=2->(∃d∈D,d/2=A)->(∃d∈D,d/2=b)->(⟨z,A,b,0,false,false,0⟩:dx)∈h)/\
 (z=8->∀b c:Nat,A<b->b<c->I D=3->(∃d∈D,d/2=A)->(∃d∈D,d/2=b)->(∃d∈D,d/2=c)->(⟨z,A,b,c,false,false,0⟩:dx)∈h)
def lR.app(H:lR z A D h)(x:dB):lR z A D (h++x):=
 ⟨λa b c d e f=>AI _ (H.1 a b c d e f),λa b c d e f g i j=>AI _ (H.2 a b c d e f g i j)⟩
def avP(h:I D=2)(f:x∈D)(H:y∈D)(A:x≠y):∀z∈D,z=x\/z=y:=by
 match D,h with
 |[a,b],_=>intro z g;simp only[dk,iu,or_false]at f H g;omega
def aAj(h:I D=3){w:Nat}(g:x∈D)(f:y∈D)(H:w∈D)(N:x≠y)(m:x≠w)(u:y≠w):∀z∈D,z=x\/z=y\/z=w:=by
 match D,h with
 |[a,b,c],_=>intro z j;simp only[dk,iu,or_false]at g f H j;omega
def lR.low{d:Nat}(g:d∈D)(N:d/2<A):lR z A D h:=by
 constructor
 .rintro _ b m u ⟨x,f,E⟩ ⟨y,H,F⟩
  have:=avP u f H J d g;omega
 rintro _ b c m L B ⟨x,f,E⟩ ⟨y,H,F⟩ ⟨w,j,M⟩
 have:=aAj B f H j J J J d g;omega
def lR.far(g:I D=1\/3<I D):lR z A D h:=
 ⟨λ_ b _ f=>J,λ_ b c _ _ H=>J⟩
def lR.two8(f:I D=2)(H:z=8):lR z A D h:=
 ⟨λf=>absurd H f,λ_ b c _ _ g=>J⟩
def lR.three(f:I D=3)(H:z≠8):lR z A D h:=
 ⟨λ_ b _ g=>J,λf=>absurd f H⟩
def lR.two(L:I D=2)(hp:[R,N].Perm (D.map λd=>((d/2:Nat):Int)))(hs:xj s6 [R,N] 0 2)(H:z≠8)(u:(⟨z,A,N,0,false,false,0⟩:dx)∈h):lR z A D h:=by
 refine⟨?_,λL=>absurd L H⟩;rintro _ b M _ ⟨x,m,E⟩ ⟨y,g,B⟩
 have F:((A:Nat):Int)∈[R,N]:=hp.mem_iff.2 (eg.2 ⟨x,m,by rw[E]⟩);have f:((b:Nat):Int)∈[R,N]:=hp.mem_iff.2 (eg.2 ⟨y,g,by rw[B]⟩);have j:=hs 0 1 R N J J J rfl rfl;simp only[decide_eq_false_iff_not]at j;simp only[dk,iu,or_false]at F f;have:N=(b:Int):=J;rw[<-this];exact u
def lR.thr{Y:Int}(ab:I D=3)(hp:[R,N,Y].Perm (D.map λd=>((d/2:Nat):Int)))(hs:xj s6 [R,N,Y] 0 3)(B:(⟨z,A,N,Y,false,false,0⟩:dx)∈h):lR z A D h:=by
 refine⟨λ_ b _ H=>J,?_⟩;rintro _ b c X Z _ ⟨x,u,E⟩ ⟨y,j,M⟩ ⟨w,g,T⟩
 have O:((A:Nat):Int)∈[R,N,Y]:=hp.mem_iff.2 (eg.2 ⟨x,u,by rw[E]⟩);have H:((b:Nat):Int)∈[R,N,Y]:=hp.mem_iff.2 (eg.2 ⟨y,j,by rw[M]⟩);have L:((c:Nat):Int)∈[R,N,Y]:=hp.mem_iff.2 (eg.2 ⟨w,g,by rw[T]⟩);have m:=hs 0 1 R N J J J rfl rfl;have Q:=hs 1 2 N Y J J J rfl rfl;simp only[decide_eq_false_iff_not]at m Q;simp only[dk,iu,or_false]at O H L;have f:N=(b:Int):=J;have F:Y=(c:Int):=J;rw[<-f,<-F];exact B
def ajy{l:dB}{x:dx}(h:l.Nodup)(g:x∉l):(l++[x]).Nodup:=by rw[BI];refine⟨h,aQ,λa H b f e=>?_⟩;rw[kV.1 f]at e;exact g (e▸H)
def aGf{f:dB}{k:Int}(E:∀m∈f,JG k A m)(O:f.Nodup)(hs:xj rb f 0 (I f)):f.Pairwise λx y=>rb x y=true:=by
 rw[Gf];intro i j z h L;have B:=hs i j f[i] f[j] (cE _) L h (sT z) (sT h);have N:f[i]≠f[j]:=λe=>by have:=(List.getElem_inj O).1 e;omega
 have F:=E _ (UI z);have Q:=E _ (UI h);generalize f[i]=x at*;generalize f[j]=y at*;cases H:rb x y with
 |true=>rfl
 |false=>exfalso;apply N;obtain⟨R,T,D,g,X,_⟩:=F;obtain⟨Y,M,u,c5,c4,_⟩:=Q;cases x;cases y;unfold rb at B H;simp only[HG,aem,decide_eq_false_iff_not]at B H R T D g X Y M u c5 c4;simp only[dx.mk.injEq];refine⟨J,J,J,J,by rw[D,u],by rw[g,c5],J⟩
def atz(g:cK F u)(z:Int)(ha:A<I u):∃h:dB,(I h<=2/\(∀m∈h,JG z A m)/\(∀j,j<2->lR z A (nh F u (2*A+j)).cn h)/\h.Pairwise λx y=>rb x y=true)/\aJ S 162 [.one (.p (gT F u)),aC z,aC A] (.one (aX iN 7 (aS h))):=by
 have bi:=g.len;have hN:ct u<=1600:=by have:=uq u (I u);unfold ct;have:I (aL u)<=I u:=uq u (I u);omega
 suffices T:∃r,(∃h:dB,(I h<=2/\(∀m∈h,JG z A m)/\(∀j,j<2->lR z A (nh F u (2*A+j)).cn h)/\h.Pairwise λx y=>rb x y=true)/\r=.one (aX iN 7 (aS h)))/\aJ S 162 [.one (.p (gT F u)),aC z,aC A] r by obtain⟨r,⟨h,h1,rfl⟩,Y⟩:=T;exact⟨h,h1,Y⟩
 refine JP rfl aBb (jn rfl) ?_;simp only[go_sem,ak5];refine c_ (λk B aj=>B 0=.one (.p (gT F u))/\B 1=aC z/\B 2=aC A/\B 14=aC k/\ ∃h c,I h<=k/\(∀m∈h,JG z A m)/\(∀j,j<k->lR z A (nh F u (2*A+j)).cn h)/\h.Nodup/\B 7=.one c/\aY 10369280192 iN 7 (aS h) (.one c) aj) 0 2 (cE _) ?_ ?_
 .simp only[go_sem];exact⟨rfl,[],.p .nils,cT _,λm T=>(by cases T),λj T=>absurd T (mX _),tA,rfl,aY.nil⟩
 rintro k B aj hk ⟨h0,h1,Y,wC,h,c,tj,X,ad,gk,h7,gm⟩
 by_cases O:k<2
 .have aO:((k:Int)<2):=J;obtain⟨j,bd,oR,Cs⟩:=Y1 g (d:=2*A+k) J;have an:=ch oR;have FQ:=jZ bd;have I4:=Ul oR;have m2:=tP (a:=A) J;have m3:=vR (a:=2*A) (b:=k) J;have Q:=cP (n:=k) J;have DT:2*A+k<I (p_ F u):=by rw[aby];omega
  have a1:=abl an;have bg:=RZ g.ok an;obtain⟨_,_,a2,_⟩:=U7 (F:=F) (g:=u) (d:=2*A+k) J;have ab:∀QD:dB,lR z A (nh F u (2*A+k)).cn (h++QD)->∀j,j<k+1->lR z A (nh F u (2*A+j)).cn (h++QD):=λQD T j hj=>by
   by_cases e:j=k
   .rw[e];exact T
   exact(ad j J).app QD
  have JK:lR z A (nh F u (2*A+k)).cn h->∀j,j<k+1->lR z A (nh F u (2*A+j)).cn h:=λT=>by have:=ab [] (by rw[lg];exact T);rwa[lg]at this
  generalize bl:nh F u (2*A+k)=f at*;simp only[go_sem,abk,h0,h1,Y,h7,wC,aO,m2,m3,DT,FQ,Cs,I4,dV.ps];refine⟨aI,?_⟩;obtain⟨g9,hg9⟩:∃g9,(aj 10368321024).fst+1=g9:=⟨_,rfl⟩;rw[hg9];refine c_ (λq dz bJ=>dz 0=.one (.p (gT F u))/\dz 1=aC z/\dz 2=aC A/\dz 14=aC k/\dz 7=.one c/\aY 10369280192 iN 7 (aS h) (.one c) bJ/\dz 9=.one (.bh 10368321024 g9 0)/\bJ 10368321024=(g9,some (.var (f.ps.map .p)))/\dz 34=.one (.p (.sl (cg f.cn)))/\dz 35=aC (I f.cn)/\dz 36=aC q/\(0<q->I f.cn<=3)/\ ∃zs ce,I zs=q/\zs=(f.cn.take q).map (λd=>((d/2:Nat):Int))/\(∀a6∈zs,0<=a6/\a6<=1000000)/\dz 10=.one ce/\aY 10368704256 ajG 1 (dR zs) (.one ce) bJ) 0 (I f.cn) (cE _) ?_ ?_
  .have a4:aY 10369280192 iN 7 (aS h) (.one c) (dE (dE aj 10368321024 (g9,some (fZ.var [c6.p (PV.bool false),c6.p PV.nils,c6.p PV.nils,c6.p PV.nils,c6.p (PV.bool false)]))) 10368321024 (g9,some (fZ.var (f.ps.map .p)))):=gm.of_eq ((bU U).trans (bU U));simp only[go_sem,h0,h1,Y,h7,wC,dV.ps]at a4 |-;refine⟨a4,rfl,λT=>T.elim,[],.p .nils,rfl,rfl,λa6 T=>(by cases T),rfl,aY.nil⟩
  rintro q dz bJ hq ⟨H,E,D,M,L,AR,p9,b9,xT,EB,EC,h3,zs,ce,pW,Mg,ap,EA,gz⟩
  simp only[dV.ps,eR,jS]at b9;by_cases sD:q<I f.cn
  .have a0:((q:Int)<(I f.cn:Int)):=J;obtain⟨d,hd⟩:=aR sD;have mf:=jZ hd;have bj:=a1 d (ch hd);have wq:=wrap_small (n:=d/2) J;have w2:=cP (n:=q) J;by_cases c1:d/2<A
   .have ac:(((d/2:Nat):Int)<(A:Int)):=J;simp only[go_sem,Ow,EE,H,E,D,M,L,p9,EA,xT,EB,EC,b9,sD,a0,mf,fF,ik,wq,ac,Q,O];exact⟨h,c,J,X,JK (.low (ch hd) c1),gk,rfl,AR⟩
   have ac:¬(((d/2:Nat):Int)<(A:Int)):=J;by_cases c2:3<I f.cn
   .have az:((3:Int)<(I f.cn:Int)):=J;simp only[go_sem,Ow,EE,H,E,D,M,L,p9,EA,xT,EB,EC,b9,sD,a0,mf,fF,ik,wq,ac,az,Q,O];exact⟨h,c,J,X,JK (.far (.inr c2)),gk,rfl,AR⟩
   have az:¬((3:Int)<(I f.cn:Int)):=J;simp only[go_sem,Ow,H,E,D,M,L,p9,EA,xT,EB,EC,b9,sD,a0,mf,fF,ik,wq,ac,az,w2];refine l_ (B:=[[.int .i64 ((d/2:Nat):Int)]]) (gz.of_eq (bU U)) (by simp only[fz,aT,if_true];rfl) (.inl rfl) (by simp only[qy,dw,eK];omega) λc2 fy bc hb=>?_;have q9:=hb 10368321024 U U;have Z:=AR.of_eq ((hb 10369280192 U U).trans (bU U));simp only[go_sem,b9]at q9;simp only[go_sem,H,E,D,M,L,p9,xT,EB,EC,q9,w2,dV.ps];refine⟨sD,Z,λ_=>J,zs++[((d/2:Nat):Int)],c2,by simp;omega,by rw[Mg,iJ,hd];simp,λa6 hz=>?_,rfl,?_⟩
   .rcases fc.1 hz with T|T
    .exact ap a6 T
    have:=kV.1 T;omega
   rw[show dR (zs++[((d/2:Nat):Int)])=dR zs++[[.int .i64 ((d/2:Nat):Int)]] by simp[dR]];exact bc
  have:q=I f.cn:=J;subst this;have a7:0<I f.cn:=Ij a2;have tX:=h3 a7;rcases gz with⟨e,_⟩|⟨_,gg,e,bz⟩
  .have be:I (dR zs)=0:=by rw[e];rfl
   rw[qy]at be;omega
  cases e;have sS:S.shared 186:=ah;simp only[go_sem,Ow,aj4,H,E,D,M,L,p9,EA,xT,EB,EC,dW,sS,qy];refine Bl bz (by rfl) (.inl rfl) (P:=E0 s6 10368704256 gg ajG zs bJ) (λtO h1 Y=>abe h1 (by rw[Y];kernel_rfl) J bz) λv fy hP=>?_;obtain⟨rfl,⟨ws,bw,pw,sw⟩,kw⟩:=hP;have Z:=AR.of_eq (kw 10369280192 U);have iX:=pw.length_eq;have rG:ws.Perm (f.cn.map λd=>((d/2:Nat):Int)):=by rw[Mg,jN]at pw;exact pw
  have ar:∀a6∈ws,0<=a6/\a6<=1000000:=λa6 hz=>ap a6 (pw.mem_iff.1 hz);rw[pW]at iX;clear pw ap b9 bz;clear h3 sD a1 bg an a2 hq Mg;generalize xH:I f.cn=n at*;have Qs:S.shared 195=false:=ah;have De:(((2:Nat):Int)==2):=U;have a9:(((1:Nat):Int)==2)=false:=U;have a3:(((3:Nat):Int)==2)=false:=U;have a8:(((1:Nat):Int)==3)=false:=U;have rW:(((2:Nat):Int)==3)=false:=U;have a5:(((3:Nat):Int)==3):=U;rcases(by omega:n=1\/n=2\/n=3)with rfl|rfl|rfl
  .simp only[go_sem,EE,H,E,D,M,L,p9,EA,xT,EB,EC,pW,a9,a8,Q,O];exact⟨h,c,J,X,JK (.far (.inl xH)),gk,rfl,Z.of_eq ((bU U).trans (bU U))⟩
  .obtain⟨R,N,rfl⟩:=aAg iX;by_cases h8:z=8
   .have e8:(z !=8)=false:=by rw[h8];rfl
    simp only[go_sem,EE,H,E,D,M,L,p9,EA,xT,EB,EC,pW,De,rW,e8,Q,O];exact⟨h,c,J,X,JK (.two8 xH h8),gk,rfl,Z.of_eq ((bU U).trans (bU U))⟩
   have e8:(z !=8):=by simpa using h8
   simp only[go_sem,EE,H,E,D,M,L,p9,EA,xT,EB,EC,pW,De,rW,e8,Q,O,bw];obtain⟨bb,xC,ag⟩:=ale h ⟨z,A,N,0,false,false,0⟩ J;have ao:aJ S 195 [.one (.p (.sl (aS h))),.agg [.p (.int .i64 z),.p (.int .i64 A),.p (.int .i64 N),.p (.int .i64 0),.p (.bool false),.p (.bool false),.p (.int .i64 0)]] (dn bb):=ag;obtain⟨r,aE,hr⟩:=Z.xW;simp only[go_sem,H,E,D,M,L,Qs,aE,aD ao];cases bb with
   |true=>simp only[go_sem,H,E,D,M,L,Q,O];exact⟨h,c,J,X,JK (.two xH rG sw h8 (xC.1 rfl)),gk,rfl,Z.of_eq (by simp only[aT,Nat.reduceEqDiff,if_false])⟩
   |false=>
    simp only[go_sem,H,E,D,M,L,Q,O];refine l_ (B:=[dx.ps ⟨z,A,N,0,false,false,0⟩]) (Z.of_eq (by simp only[aT,Nat.reduceEqDiff,if_false])) (by simp only[fz,aT,if_true];rfl) (.inl rfl) (by simp only[k_,dw,eK];omega) λc2 jF Cd eQ=>?_;simp only[go_sem,H,E,D,M,Q,O];refine⟨h++[⟨z,A,N,0,false,false,0⟩],c2,by simp;omega,λm hm=>?_,ab _ (.two xH rG sw h8 aQ),ajy gk (xC.2 rfl),rfl,by rw[show aS (h++[⟨z,A,N,0,false,false,0⟩])=aS h++[dx.ps ⟨z,A,N,0,false,false,0⟩] by simp[aS]];exact Cd⟩;rcases fc.1 hm with T|T
    .exact X m T
    have:=kV.1 T;subst this;exact⟨rfl,rfl,rfl,rfl,rfl,ar N aQ,aQ⟩
  obtain⟨R,N,y2,rfl⟩:=aGX iX;by_cases h8:z=8
  .have e8:(z==8):=by rw[h8];rfl
   simp only[go_sem,EE,H,E,D,M,L,p9,EA,xT,EB,EC,pW,a3,a5,e8,Q,O,bw];obtain⟨bb,xC,ag⟩:=ale h ⟨z,A,N,y2,false,false,0⟩ J;have ao:aJ S 195 [.one (.p (.sl (aS h))),.agg [.p (.int .i64 z),.p (.int .i64 A),.p (.int .i64 N),.p (.int .i64 y2),.p (.bool false),.p (.bool false),.p (.int .i64 0)]] (dn bb):=ag;obtain⟨r,aE,hr⟩:=Z.xW;refine⟨aI,?_⟩;simp only[go_sem,H,E,D,M,L,Qs,aE,aD ao];cases bb with
   |true=>simp only[go_sem,H,E,D,M,L,Q,O];exact⟨h,c,J,X,JK (.thr xH rG sw (xC.1 rfl)),gk,rfl,Z.of_eq (by simp only[aT,Nat.reduceEqDiff,if_false])⟩
   |false=>
    simp only[go_sem,H,E,D,M,L,Q,O];refine l_ (B:=[dx.ps ⟨z,A,N,y2,false,false,0⟩]) (Z.of_eq (by simp only[aT,Nat.reduceEqDiff,if_false])) (by simp only[fz,aT,if_true];rfl) (.inl rfl) (by simp only[k_,dw,eK];omega) λc2 jF Cd eQ=>?_;simp only[go_sem,H,E,D,M,Q,O];refine⟨h++[⟨z,A,N,y2,false,false,0⟩],c2,by simp;omega,λm hm=>?_,ab _ (.thr xH rG sw aQ),ajy gk (xC.2 rfl),rfl,by rw[show aS (h++[⟨z,A,N,y2,false,false,0⟩])=aS h++[dx.ps ⟨z,A,N,y2,false,false,0⟩] by simp[aS]];exact Cd⟩;rcases fc.1 hm with T|T
    .exact X m T
    have:=kV.1 T;subst this;exact⟨rfl,rfl,rfl,rfl,rfl,ar N aQ,ar y2 aQ⟩
  have e8:(z==8)=false:=by simpa using h8
  simp only[go_sem,EE,H,E,D,M,L,p9,EA,xT,EB,EC,pW,a3,a5,e8,Q,O];exact⟨h,c,J,X,JK (.three xH h8),gk,rfl,Z.of_eq ((bU U).trans (bU U))⟩
 have:k=2:=J;subst this;have j8:¬(((2:Nat):Int)<2):=U;have sS:S.shared 196:=ah;simp only[go_sem,abk,ak6,h0,h1,Y,h7,wC,j8,sS];rcases gm with⟨e,e2⟩|⟨aN,gg,e2,bm⟩
 .cases e2;have:h=[]:=by simpa [aS]using e
  subst this;refine Xi (by rfl) (.inl rfl) (P:=Mo aj) (λtO Y=>aFK (by rw[Y];kernel_rfl)) λv fy hP=>?_;obtain⟨rfl,rfl⟩:=hP;simp only[go_sem,h7];exact⟨_,⟨[],⟨aQ,(λm T=>by cases T),ad,List.Pairwise.nil⟩,rfl⟩,rfl⟩
 cases e2;rw[k_]at h7 |-;refine Bl bm (by rfl) (.inl rfl) (P:=KT 10369280192 gg iN h aj) (λtO h1 Y=>aqA h1 (by rw[Y];kernel_rfl) J (λm hm=>(X m hm).2.2.2.2.2) bm) λv fy hP=>?_;obtain⟨rfl,⟨ws,bw,pw,sw⟩,kw⟩:=hP;simp only[go_sem,h7];have iX:=pw.length_eq;refine⟨_,⟨ws,⟨J,λm hm=>X m (pw.mem_iff.1 hm),λj hj=>⟨λa b c d e f=>pw.mem_iff.2 ((ad j hj).1 a b c d e f),λa b c d e f g i j'=>pw.mem_iff.2 ((ad j hj).2 a b c d e f g i j')⟩,aGf (λm hm=>X m (pw.mem_iff.1 hm)) (pw.nodup_iff.2 gk) sw⟩,rfl⟩,?_⟩;rw[<-iX,<-k_ ws];refine uX (.inr ⟨λe=>aN ?_,gg,rfl,bw⟩);have h0:I (aS ws)=0:=by rw[e];rfl
 rw[k_,iX]at h0;rw[uE.1 h0];rfl
def By(k:Int)(n:Nat)(m:dx):Prop:= ∃a,a<n/\JG k a m
def aeh{k:Int}{n a:Nat}(u:∀m∈h,By k n m)(g:∀m∈M,JG k a m)(f:a<n):∀m∈h++M,By k n m:=λm H=>(fc.1 H).elim (u m) λj=>⟨a,f,g m j⟩
def Fw (F:Nat)(u:ae)(z:Int)(h:dB):Prop:=(z=1\/z=4->∀a:Nat,a<I u->(⟨z,a,0,0,false,false,0⟩:dx)∈h)/\(z=3\/z=6\/z=8->∀a,a<I u->∀j,j<2->lR z a (nh F u (2*a+j)).cn h)
def lR.rj(H:lR z A D h)(x:dB):lR z A D (x++h):=
 ⟨λa b c d e f=>zt _ (H.1 a b c d e f),λa b c d e f g i j=>zt _ (H.2 a b c d e f g i j)⟩
def zA(x y:dx):Prop:=x.a<y.a\/(x.a=y.a/\rb x y)
section
variable {F:Nat} {u:ae}
def akH{k:Nat}(z:(∀m∈h,m.a<(k:Int))/\h.Pairwise zA)(H:∀m∈M,m.a=(k:Int))(hp:M.Pairwise λx y=>rb x y=true):(∀m∈h++M,m.a<((k+1:Nat):Int))/\(h++M).Pairwise zA:=by
 refine⟨λm u=>?_,Ac.2 ⟨z.2,hp.imp_of_mem λj f hl=>.inr ⟨by rw[H _ j,H _ f],hl⟩,λx j y f=>.inl (by rw[H y f];exact z.1 x j)⟩⟩;rcases fc.1 u with g|g
 .have:=z.1 m g;omega
 have:=H m g;omega
def aAl(g:cK F u)(aN:0<I u)(X:(z==2)=false)(d5:(z==5)=false)(d7:(z==7)=false)(Y:(z==3)=false)(d6:(z==6)=false)(d8:(z==8)=false):∃h:dB,(I h<=2*I u/\(∀m∈h,By z (I u) m)/\Fw F u z h/\h.Pairwise zA)/\aJ S 127 [.one (.p (gT F u)),aC z] (.one (aX iN 7 (aS h))):=by
 have L:=g.len;have O:I (fA (cq u))=I u:=by rw[fA,cH,cU]
 have gh:(((I u:Nat):Int)==0)=false:=by rw[ng];omega
 suffices H:∃r,(∃h:dB,(I h<=2*I u/\(∀m∈h,By z (I u) m)/\Fw F u z h/\h.Pairwise zA)/\r=.one (aX iN 7 (aS h)))/\aJ S 127 [.one (.p (gT F u)),aC z] r by obtain⟨r,⟨h,f,rfl⟩,Z⟩:=H;exact⟨h,f,Z⟩
 refine JP rfl adX (jn rfl) ?_;simp only[go_sem,Sq,Uj,O,gh];refine c_ (λk B aj=>B 0=.one (.p (gT F u))/\B 1=aC z/\B 41=aC (I u)/\B 42=aC k/\ ∃h c,I h<=2*k/\(∀m∈h,By z (I u) m)/\(∀a:Nat,a<k->(⟨z,a,0,0,false,false,0⟩:dx)∈h)/\((∀m∈h,m.a<(k:Int))/\h.Pairwise zA)/\B 5=.one c/\aY 8128768320 iN 7 (aS h) (.one c) aj) 0 (I u) (cE _) ?_ ?_
 .simp only[go_sem,O];exact⟨rfl,[],.p .nils,aQ,λm H=>(by cases H),λa H=>absurd H (mX _),⟨λm H=>(by cases H),List.Pairwise.nil⟩,rfl,aY.nil⟩
 rintro k B aj hk ⟨j,f,y,T,h,c,tj,Q,N,M,E,A⟩
 by_cases D:k<I u
 .have aO:((k:Int)<(I u:Int)):=J;have R:=cP (n:=k) J;simp only[go_sem,FB,O0,j,f,y,T,E,aO,X,d5,d7,Y,d6,d8];refine l_ (B:=[dx.ps ⟨z,k,0,0,false,false,0⟩]) (A.of_eq (by simp only[aT,Nat.reduceEqDiff,if_false])) (by simp only[fz,aT,if_true];rfl) (.inl rfl) (by simp only[k_,dw,eK];omega) λc2 jF Cd eQ=>?_;simp only[go_sem,j,f,y,T,R,D];refine⟨h++[⟨z,k,0,0,false,false,0⟩],c2,by simp;omega,λm x=>?_,λa ha=>?_,akH M (λm x=>by rw[kV.1 x]) (abr _ _),rfl,by rw[show aS (h++[⟨z,k,0,0,false,false,0⟩])=aS h++[dx.ps ⟨z,k,0,0,false,false,0⟩] by simp[aS]];exact Cd⟩
  .rcases fc.1 x with H|H
   .exact Q m H
   have:=kV.1 H;subst this;exact⟨k,D,rfl,rfl,rfl,rfl,rfl,by simp[Du]⟩
  by_cases e:a=k
  .rw[e];simp
  exact AI _ (N a J)
 have:k=I u:=J;subst this;simp only[go_sem,FB,Q_,j,f,y,T,E,dW];exact⟨_,⟨h,⟨tj,Q,⟨λ_=>N,λH=>by rcases H with rfl|rfl|rfl<;>simp_all⟩,M.2⟩,rfl⟩,uX A⟩
def axy(g:cK F u)(aN:0<I u)(wI:z=3\/z=6\/z=8):∃h:dB,(I h<=2*I u/\(∀m∈h,By z (I u) m)/\Fw F u z h/\h.Pairwise zA)/\aJ S 127 [.one (.p (gT F u)),aC z] (.one (aX iN 7 (aS h))):=by
 have ac:=g.len;have lo:S.lone 8130944256=false:=ah;have bN:I (fA (cq u))=I u:=by rw[fA,cH,cU]
 have gh:(((I u:Nat):Int)==0)=false:=by rw[ng];omega
 suffices ab:∃r,(∃h:dB,(I h<=2*I u/\(∀m∈h,By z (I u) m)/\Fw F u z h/\h.Pairwise zA)/\r=.one (aX iN 7 (aS h)))/\aJ S 127 [.one (.p (gT F u)),aC z] r by obtain⟨r,⟨h,H,rfl⟩,h2⟩:=ab;exact⟨h,H,h2⟩
 have Y:(z==2)=false:=by rw[ng];omega
 have d5:(z==5)=false:=by rw[ng];omega
 have d7:(z==7)=false:=by rw[ng];omega
 refine JP rfl adX (jn rfl) ?_;simp only[go_sem,Sq,Uj,bN,gh,Y];refine c_ (λk B aj=>B 0=.one (.p (gT F u))/\B 1=aC z/\B 41=aC (I u)/\B 42=aC k/\ ∃h c,I h<=2*k/\(∀m∈h,By z (I u) m)/\(∀a,a<k->∀j,j<2->lR z a (nh F u (2*a+j)).cn h)/\((∀m∈h,m.a<(k:Int))/\h.Pairwise zA)/\B 5=.one c/\aY 8130944320 iN 7 (aS h) (.one c) aj) 0 (I u) (cE _) ?_ ?_
 .simp only[go_sem,bN];exact⟨rfl,[],.p .nils,aQ,λm ab=>(by cases ab),λa ab=>absurd ab (mX _),⟨λm ab=>(by cases ab),List.Pairwise.nil⟩,rfl,aY.nil⟩
 rintro k B aj hk ⟨f,H,y,T,h,c,tj,aA,DP,mE,D,gm⟩
 by_cases A:k<I u
 .have aO:((k:Int)<(I u:Int)):=J;have w1:=cP (n:=k) J;obtain⟨M,⟨gQ,L4,L2,xI⟩,pc⟩:=atz g z A;have E:=akH mE (λm hm=>(L4 m hm).2.1) xI;have L:∀a,a<k+1->∀j,j<2->lR z a (nh F u (2*a+j)).cn (h++M):=λa ha j hj=>by
   by_cases e:a=k
   .rw[e];exact(L2 j hj).rj h
   exact(DP a J j hj).app M
  cases Z:(z==3)with
  |true=>simp only[go_sem,FB,O0,f,H,y,T,D,aO,Y,d5,d7,Z,aaQ];refine qW pc lo (.inl rfl) λcc bY x O=>?_;have N:=gm.of_eq (O 8130944320 U);obtain⟨r,X,hr⟩:=x.elems;simp only[go_sem,f,H,y,T,D];refine l_ (B:=aS M) N X x.au (by simp only[k_];omega) λQ jF R eQ=>?_;simp only[go_sem,f,H,y,T,w1,A];exact⟨h++M,Q,by simp;omega,aeh aA L4 A,L,E,rfl,by rw[show aS (h++M)=aS h++aS M by simp[aS]];exact R⟩
  |false=>
   cases d6:(z==6)with
   |true=>simp only[go_sem,FB,O0,f,H,y,T,D,aO,Y,d5,d7,Z,d6,aaQ];refine qW pc lo (.inl rfl) λcc bY x O=>?_;have N:=gm.of_eq (O 8130944320 U);obtain⟨r,X,hr⟩:=x.elems;simp only[go_sem,f,H,y,T,D];refine l_ (B:=aS M) N X x.au (by simp only[k_];omega) λQ jF R eQ=>?_;simp only[go_sem,f,H,y,T,w1,A];exact⟨h++M,Q,by simp;omega,aeh aA L4 A,L,E,rfl,by rw[show aS (h++M)=aS h++aS M by simp[aS]];exact R⟩
   |false=>
    have d8:(z==8):=by
     rcases wI with rfl|rfl|rfl
     .cases Z
     .cases d6
     rfl
    simp only[go_sem,FB,O0,f,H,y,T,D,aO,Y,d5,d7,Z,d6,d8,aaQ];refine qW pc lo (.inl rfl) λcc bY x O=>?_;have N:=gm.of_eq (O 8130944320 U);obtain⟨r,X,hr⟩:=x.elems;simp only[go_sem,f,H,y,T,D];refine l_ (B:=aS M) N X x.au (by simp only[k_];omega) λQ jF R eQ=>?_;simp only[go_sem,f,H,y,T,w1,A];exact⟨h++M,Q,by simp;omega,aeh aA L4 A,L,E,rfl,by rw[show aS (h++M)=aS h++aS M by simp[aS]];exact R⟩
 have:k=I u:=J;subst this;simp only[go_sem,FB,Q_,f,H,y,T,D,dW];exact⟨_,⟨h,⟨tj,aA,⟨λab=>J,λ_=>DP⟩,mE.2⟩,rfl⟩,uX gm⟩
end
abbrev Bv:Nat:=24
def SN{a:PV}{id z o l:Nat}:Ce [[.p a,.hsl id g z o l]]=none:=rfl
def arb{aj:aB}{s h T z:Nat}{x:Int}{f:c6}{D:s_}(H:aj s=(g,some (.jw O 2 [[.p (.int .i64 x),f]])))(gd:aY h T z D (.one f) aj):
  ∃fr,fz aj (.one (.hsl s g 2 0 1))=some ([[.int .i64 x,.sl D]],[s],fr)/\rh aj fr/\(fr=[]\/fr=[h]):=by
 obtain⟨r1,N,A,Q⟩:=gd.Rj;refine⟨r1,?_,A,Q⟩;simp only[fz,H];simp[ic,N,St,PV.norm]
abbrev uC(k:Int):Prop:=ef k
def rq(F:Nat)(u:ae)(E:cV)(m:dx):Prop:=m.k∈E/\By m.k (I u) m/\ ∃M,rj F u m.k m.a m.b m.c m.l m.o m.s=nm F M
section
variable {F:Nat} {u:ae}
def atT(g:cK F u)(A:0<I u)(f:uC z):∃h:dB,(I h<=2*I u/\(∀m∈h,By z (I u) m)/\Fw F u z h/\h.Pairwise zA)/\aJ S 127 [.one (.p (gT F u)),aC z] (.one (aX iN 7 (aS h))):=by
 have x:z≠2:=by unfold uC ef at f;omega
 have j:z≠5:=by unfold uC ef at f;omega
 have N:z≠7:=by unfold uC ef at f;omega
 by_cases H:z=3\/z=6\/z=8
 .exact axy g A H
 exact aAl g A (ng.2 x) (ng.2 j) (ng.2 N) (ng.2 λe=>H (.inl e)) (ng.2 λe=>H (.inr (.inl e))) (ng.2 λe=>H (.inr (.inr e)))
def uy(x y:dx):Prop:=x.k<y.k\/(x.k=y.k/\zA x y)
def AG (F:Nat)(u:ae)(E:cV)(n:Int)(h:dB):Prop:=∀z∈E,1<=z->z<=n->∃M,Fw F u z M/\ ∀m∈M,(∃f,rj F u m.k m.a m.b m.c m.l m.o m.s=nm F f)->m∈h
def AG.next{n:Int}(y:AG F u E n h)(f:n+1∈E->∃M,Fw F u (n+1) M/\ ∀m∈M,(∃j,rj F u m.k m.a m.b m.c m.l m.o m.s=nm F j)->m∈h):AG F u E (n+1) h:=λz H g x=>by
 by_cases e:z=n+1
 .subst e;exact f H
 exact y z H g J
def AG.app{n:Int}(y:AG F u E n h)(m:dx):AG F u E n (h++[m]):=λz f g x=>by obtain⟨M,a,b⟩:=y z f g x;exact⟨M,a,λm H j=>AI _ (b m H j)⟩
def avk{e:Int}(H:e≠0):nm F L≠sV e:=λh=>by unfold nm sV at h;simp only[RV.tup.injEq,vN,RV.one.injEq,kJ.p.injEq,PV.int.injEq,and_true,true_and]at h;exact H h.2.symm
def aly{k:Nat}(g:(∀m∈h,m.k<=(k:Int)\/(m.k=((k+1:Nat):Int)/\m∈M.take j))/\h.Pairwise uy):(∀m∈h,m.k<=(k:Int)\/(m.k=((k+1:Nat):Int)/\m∈M.take (j+1)))/\h.Pairwise uy:=
 ⟨λm f=>(g.1 m f).imp_right λH=>⟨H.1,by rw[iJ];exact AI _ H.2⟩,g.2⟩
def aAv{k:Nat}{m:dx}(E:(∀m∈h,m.k<=(k:Int)\/(m.k=((k+1:Nat):Int)/\m∈M.take j))/\h.Pairwise uy)(hp:M.Pairwise zA)(D:m.k=((k+1:Nat):Int))(u:M[j]?=some m):(∀x∈h++[m],x.k<=(k:Int)\/(x.k=((k+1:Nat):Int)/\x∈M.take (j+1)))/\(h++[m]).Pairwise uy:=by
 refine⟨λx g=>?_,Ac.2 ⟨E.2,abr _ _,λx g y A=>?_⟩⟩
 .rcases fc.1 g with H|H
  .exact(aly E).1 x H
  rw[kV.1 H];refine .inr ⟨D,?_⟩;rw[iJ,u];exact zt _ aQ
 rw[kV.1 A];rcases E.1 x g with H|⟨H,B⟩
 .exact .inl J
 refine .inr ⟨J,?_⟩;obtain⟨i,f⟩:=jL B;rw[nN]at f;split at f
 .rename_i F;obtain⟨L,N⟩:=cD.1 f;obtain⟨O,z⟩:=cD.1 u;have:=Gf.1 hp i j L O F;rw[N,z]at this;exact this
 cases f
def afx(g:cK F u)(aN:0<I u)(E:cV)(iX:I E<=10)(hw:∀k∈E,uC k):∃h f,(I h<=8000/\(∀m∈h,rq F u E m)/\AG F u E 10 h/\h.Pairwise uy)/\aJ S 86 [.one (.p (gT F u)),.one (.p (.sl (dR E)))] (.tup [.one (aX iN 7 (aS h)),.one (aX Bv 2 f)]):=by
 have a4:=g.len;have iI:S.lone 5504448128=false:=ah;have mU:S.lone 5504640128=false:=ah
 suffices ab:∃r,(∃h f,(I h<=8000/\(∀m∈h,rq F u E m)/\AG F u E 10 h/\h.Pairwise uy)/\r=.tup [.one (aX iN 7 (aS h)),.one (aX Bv 2 f)])/\aJ S 86 [.one (.p (gT F u)),.one (.p (.sl (dR E)))] r by obtain⟨r,⟨h,f,h1,rfl⟩,h2⟩:=ab;exact⟨h,f,h1,h2⟩
 refine JP rfl ao8 (jn rfl) ?_;simp only[go_sem,ab1];refine c_ (λk B aj=>B 0=.one (.p (gT F u))/\B 1=.one (.p (.sl (dR E)))/\B 8=aC ((k+1:Nat):Int)/\ ∃h f c d,I h<=800*k/\I f<=800*k/\(∀m∈h,rq F u E m)/\AG F u E ((k:Nat):Int) h/\((∀m∈h,m.k<=(k:Int))/\h.Pairwise uy)/\B 6=.one c/\B 7=.one d/\aY 5504768192 iN 7 (aS h) (.one c) aj/\aY 5504768448 Bv 2 f (.one d) aj) 0 10 (cE _) ?_ ?_
 .simp only[go_sem];exact⟨rfl,[],[],.p .nils,.p .nils,aQ,aQ,λm ab=>(by cases ab),λz _ h1 h2=>absurd h2 J,⟨λm ab=>(by cases ab),List.Pairwise.nil⟩,rfl,rfl,aY.nil,aY.nil⟩
 rintro k B aj hk ⟨e0,e1,e8,h,f,c,d,tj,dK,Z,D,y,e6,e7,gm,gc⟩
 by_cases aq:k<10
 .have aO:((k+1:Nat):Int)<=10:=J;have w1:=cP (n:=k+1) J;have ph:=amB E ((k+1:Nat):Int) J;cases hc:E.contains ((k+1:Nat):Int)with
  |false=>rw[hc]at ph;simp only[go_sem,HM,Ll,e0,e1,e6,e7,e8,aO,UD,aD ph,w1];exact⟨aq,h,f,c,d,J,J,Z,D.next λab=>absurd (D1.2 ab) (by rw[show((k:Nat):Int)+1=((k+1:Nat):Int) by omega,hc];decide),⟨λm H=>by have:=y.1 m H;omega,y.2⟩,rfl,rfl,gm,gc⟩
  |true=>
   have pS:((k+1:Nat):Int)∈E:=by simpa using hc
   obtain⟨M,⟨gQ,L4,DP,xI⟩,pc⟩:=atT g aN (hw _ pS);rw[hc]at ph;simp only[go_sem,HM,e0,e1,e6,e7,e8,aO,UD,aD ph,ajQ];refine qW pc iI (.inl rfl) λcc bY gl cF=>?_;have FC:=gm.of_eq (cF 5504768192 U);have ac:=gc.of_eq (cF 5504768448 U);rcases gl with⟨e,e2⟩|⟨_,gg,e,rB⟩
   .cases e2;simp only[go_sem];refine mx ?_;simp only[go_sem,JC,Ll,e0,e1,e6,e7,e8,C8,w1];exact⟨aq,h,f,c,d,J,J,Z,D.next λ_=>⟨M,DP,λm H=>by rw[show M=[] by simpa [aS]using e]at H;cases H⟩,⟨λm H=>by have:=y.1 m H;omega,y.2⟩,rfl,rfl,FC,ac⟩
   cases e;rw[k_];simp only[go_sem];refine c_ (λj B aj=>B 0=.one (.p (gT F u))/\B 1=.one (.p (.sl (dR E)))/\B 8=aC ((k+1:Nat):Int)/\B 23=.one (.hsl 5504448128 gg 7 0 (I M))/\B 24=aC (I M)/\B 25=aC j/\aj 5504448128=(gg,some (.arr iN 7 (aS M)))/\ ∃h f c d,I h<=800*k+j/\I f<=800*k+j/\(∀m∈h,rq F u E m)/\AG F u E ((k:Nat):Int) h/\(∀i,i<j->∀m,M[i]?=some m->(∃a0,rj F u m.k m.a m.b m.c m.l m.o m.s=nm F a0)->m∈h)/\((∀m∈h,m.k<=(k:Int)\/(m.k=((k+1:Nat):Int)/\m∈M.take j))/\h.Pairwise uy)/\B 6=.one c/\B 7=.one d/\aY 5504768192 iN 7 (aS h) (.one c) aj/\aY 5504768448 Bv 2 f (.one d) aj) 0 (I M) (cE _) ?_ ?_
   .simp only[go_sem,e0,e1,e6,e7,e8];exact⟨rfl,rB,h,f,c,d,J,J,Z,D,λi ab=>absurd ab (mX _),⟨λm H=>.inl (y.1 m H),y.2⟩,rfl,rfl,FC,ac⟩
   clear gm gc FC ac Z tj dK rB cF D y e0 e1 e6 e7 e8;rintro j B aj hj ⟨L,T,Q,R,X,Y,bL,h,f,c,d,tj,dK,Z,D,lf,y,O,N,gm,gc⟩
   by_cases vz:j<I M
   .have Jb:((j:Int)<(I M:Int)):=J;have w2:=cP (n:=j) J;obtain⟨m,oU⟩:=aR vz;have jR:=Ii oU;have qP:=L4 m (ch oU);have LU:m.k=((k+1:Nat):Int):=qP.choose_spec.2.1;have LZ:I (aS M)=I M:=k_ M;have Ct:ef m.k:=by rw[LU];exact hw _ pS
    have pd:=amZ g Ct m.a m.b m.c m.l m.o m.s;rcases QL g Ct m.a m.b m.c m.l m.o m.s with⟨e,he,ha⟩|⟨a0,ha,_⟩
    .rw[ha]at pd;have I1:(e==0)=false:=by simpa using he
     simp only[go_sem,JC,L,T,O,N,Q,R,X,Y,bL,vz,Jb,jR,dx.ps,U3,a_ pd aBn,I1,w2];exact⟨h,f,c,d,J,J,Z,D,λi hi x nT A=>by
      by_cases ei:i=j
      .rw[ei,oU]at nT;cases nT;obtain⟨a0,A⟩:=A;rw[ha]at A;exact absurd A.symm (avk he)
      exact lf i J x nT A,aly y,rfl,rfl,gm.of_eq (by simp only[aT,Nat.reduceEqDiff,if_false]),gc.of_eq (by simp only[aT,Nat.reduceEqDiff,if_false])⟩
    have FW:rq F u E m:=⟨by rw[LU];exact pS,by rw[LU];exact qP,a0,ha⟩;rw[ha]at pd;simp only[go_sem,JC,L,T,O,N,Q,R,X,Y,bL,vz,Jb,jR,dx.ps,U3];refine alN pd mU λcx bJ gx bl=>?_;have ad:=bl 5504576128 U;simp only[go_sem]at ad;have ao:=(bl 5504448128 U).trans ((bU U).trans ((bU U).trans bL));have AR:=gm.of_eq ((bl 5504768192 U).trans (by simp only[aT,Nat.reduceEqDiff,if_false]));have uK:=gc.of_eq ((bl 5504768448 U).trans (by simp only[aT,Nat.reduceEqDiff,if_false]));have L1:∀x∈h++[m],rq F u E x:=λx ab=>(fc.1 ab).elim (Z x) λab=>(kV.1 ab)▸FW
    have an:∀i,i<j+1->∀x,M[i]?=some x->(∃a0,rj F u x.k x.a x.b x.c x.l x.o x.s=nm F a0)->x∈h++[m]:=λi hi x nT A=>by
     by_cases ei:i=j
     .rw[ei,oU]at nT;cases nT;simp
     exact AI _ (lf i J x nT A)
    have ar:=D.app m;have ap:=aAv y xI LU oU;have wJ:aS (h++[m])=aS h++[dx.ps m]:=by simp[aS]
    rcases gx with⟨eM,e2⟩|⟨a2,g2,e2,az⟩
    .cases e2;simp only[go_sem,ad,SN,L,T,O,N,Q,R,X,Y];refine nP (y:=5504768192) (id:=5504768192) (bytes:=48) (B:=[dx.ps m]) (rd:=[5504768128]) (AR.of_eq (by simp only[bU,aT,Nat.reduceEqDiff,if_false])) (by simp[fz,aT,dx.ps]) (.inl rfl) (by simp only[k_,dw,eK];omega) λc' fy r1 u1 ji dO iQ=>?_
     have Oe:=dO 5504640384 U U;simp only[go_sem]at Oe;simp only[go_sem,Oe,SN,L,T,O,N,Q,R,X,Y];have Lm:=uK.of_eq ((dO 5504768448 U U).trans (by simp only[aT,Nat.reduceEqDiff,if_false]:_=bJ 5504768448));refine nP (y:=5504768448) (id:=5504768448) (bytes:=32) (B:=[[.int .i64 F,.sl []]]) (rd:=[5504768384]) (Lm.of_eq (bU U)) (by simp[fz,aT]) (.inl rfl) (by simp only[dw,eK];omega) λd' jF r2 u2 DR eQ sE=>?_
     have Og:=(eQ 5504448128 U U).trans ((bU U).trans (dO 5504448128 U U));simp only[aT,Nat.reduceEqDiff,if_false]at Og;have ag:=Og.trans ao;simp only[go_sem,L,T,O,N,Q,R,X,Y,ag,w2,vz];refine⟨?_,h++[m],_,c',d',by simp;omega,by simp;omega,L1,ar,an,ap,rfl,rfl,?_,DR⟩
     .rcases iQ with⟨rfl,rfl⟩|⟨rfl,rfl⟩|⟨rfl,rfl⟩<;>rcases sE with⟨rfl,rfl⟩|⟨rfl,rfl⟩|⟨rfl,rfl⟩<;>kernel_rfl
     rw[wJ];exact ji.of_eq ((eQ 5504768192 U U).trans (bU U))
    cases e2;simp only[go_sem,ad,SN,L,T,O,N,Q,R,X,Y];refine nP (y:=5504768192) (id:=5504768192) (bytes:=48) (B:=[dx.ps m]) (rd:=[5504768128]) (AR.of_eq (by simp only[bU,aT,Nat.reduceEqDiff,if_false])) (by simp[fz,aT,dx.ps]) (.inl rfl) (by simp only[k_,dw,eK];omega) λc' fy r1 u1 ji dO iQ=>?_;have Oe:=dO 5504640384 U U;simp only[go_sem]at Oe;simp only[go_sem,Oe,SN,L,T,O,N,Q,R,X,Y];have aE:=(dO (5504640128+1) U U);simp only[Nat.reduceAdd,aT,Nat.reduceEqDiff,if_false]at aE az;have a3:=aE.trans az;have a1:aY (5504640128+1) fI 6 (bQ a0) (.one (.hsl (5504640128+1) g2 6 0 (I a0))) fy:=.inr ⟨a2,g2,by rw[bQ,cH],a3⟩
    obtain⟨fr,hx,yF,A4⟩:=arb (aj:=dE fy 5504768384 ((fy 5504768384).1+1,some (.jw Bv 2 [[.p (.int .i64 F),.hsl (5504640128+1) g2 6 0 (I a0)]]))) (s:=5504768384) sW (a1.of_eq (bU U));have Lm:=uK.of_eq ((dO 5504768448 U U).trans (by simp only[aT,Nat.reduceEqDiff,if_false]:_=bJ 5504768448));have nf:∀i,i≠5504640128+1->i∉fr:=λi a ab=>by
     rcases A4 with rfl|rfl
     .cases ab
     exact a (kV.1 ab)
    refine ajF (y:=5504768448) (id:=5504768448) (bytes:=32) (Lm.of_eq (bU U)) hx yF (nf _ U) (nf _ U) (.inl rfl) (by simp only[dw,eK];omega) λd' jF r2 u2 DR eQ sE=>?_;have Og:=(eQ 5504448128 U U (nf _ U)).trans ((bU U).trans (dO 5504448128 U U));simp only[aT,Nat.reduceEqDiff,if_false]at Og;have ag:=Og.trans ao;simp only[go_sem,L,T,O,N,Q,R,X,Y,ag,w2,vz];refine⟨?_,h++[m],_,c',d',by simp;omega,by simp;omega,L1,ar,an,ap,rfl,rfl,?_,DR⟩
    .rcases A4 with rfl|rfl<;>rcases iQ with⟨rfl,rfl⟩|⟨rfl,rfl⟩|⟨rfl,rfl⟩<;>rcases sE with⟨rfl,rfl⟩|⟨rfl,rfl⟩|⟨rfl,rfl⟩<;>kernel_rfl
    rw[wJ];exact ji.of_eq ((eQ 5504768192 U U (nf _ U)).trans (bU U))
   have:j=I M:=J;subst this;simp only[go_sem,JC,Ll,L,T,O,N,Q,R,X,Y,dW,w1];exact⟨aq,h,f,c,d,J,J,Z,D.next λ_=>⟨M,DP,λm H A=>by obtain⟨i,hi⟩:=jL H;exact lf i (cD.1 hi).1 m hi A⟩,⟨λm H=>by rcases y.1 m H with ab|ab<;>omega,y.2⟩,rfl,rfl,gm,gc⟩
 have:k=10:=J;subst this;have ke:¬(((10+1:Nat):Int)<=10):=U;simp only[go_sem,HM,aew,e0,e1,e6,e7,e8,ke];exact⟨_,⟨h,f,⟨tj,Z,D,y.2⟩,rfl⟩,Kl U gm gc⟩
def auk(g:cK F u)(A:0<I u)(E:cV)(y:I E<=10)(H:∀k∈E,uC k):∃h f,(I h<=8000/\ ∀m∈h,rq F u E m)/\aJ S 86 [.one (.p (gT F u)),.one (.p (.sl (dR E)))] (.tup [.one (aX iN 7 (aS h)),.one (aX Bv 2 f)]):=by obtain⟨h,f,⟨x,j,_⟩,z⟩:=afx g A E y H;exact⟨h,f,⟨x,j⟩,z⟩
end
def adU{l:cY}{drop:Nat->aU->Bool}{i:Nat}{p:aU}(hp:l[i]?=some p)(f:drop i p):I (nb l drop)<I l:=by
 have g:=(cD.1 hp).1;have key:∀k,k<=I l->i<k->I (ux l drop k)<k:=by
  intro k
  induction k with
  |zero=>intro _ h;exact absurd h (mX i)
  |succ k j=>
   intro x m;by_cases e:i=k
   .subst e;rw[Bp hp f];have:=GF l drop i;omega
   obtain⟨q,H⟩:=aR (L:=l) (k:=k) J;have:=j J J;cases A:drop k q
   .rw[Kp H A,fv];simp only[dw,eK];omega
   rw[Bp H A];omega
 exact key (I l) (cT _) g
def agE{q:aa->Bool}(l:cY):ai q (oo l)=l.countP λp=>q p.l:=by
 have e:ai q (l.map aU.l)=l.countP λp=>q p.l:=by show List.countP _ (List.map _ _)=_;rw[CJ];rfl
 rw[<-e];have H:(tL l).getD 0<=I l:=by
  cases h:tL l with
  |none=>exact cE _
  |some f=>have:=Eo h;simp at this;simp only[mO];omega
 unfold oo;rw[adS H];show List.countP _ _=List.countP _ _;rw[lU,vH,IL,<-vH,<-lU,ot]
section
variable {F:Nat} {u:ae}
def atI{k:Int}(g:k=1\/k=4\/k=6){a b c:Nat}{l o:Bool}{sg:Int}(j:a<I u){L:cY}(h:qi F u k a b c l o sg=some L):I L<I u:=by
 obtain⟨p,hp⟩:=aR (L:=cq u) (k:=a) (by rw[cU];exact j);have B:=cU u;have f:(cq u).getD a ⟨lD,false⟩=p:=by simp[dS,hp]
 rcases g with rfl|rfl|rfl
 .have h:yz u a=some L:=h;unfold yz at h;simp only at h;split at h
  .cases h;show(List.map _ _).length<_;rw[cH,<-B];exact adU hp aQ
  cases h
 .have h:yj u a=some L:=h;unfold yj at h;simp only at h;rw[f]at h;split at h
  .rename_i H;cases h;show(List.map _ _).length<_;rw[cH,<-B];simp only[dj]at H;exact adU hp (by unfold ri;rw[H.1];simp)
  cases h
 have h:vS F u a b=some L:=h;unfold vS at h;rw[ml hp]at h;split at h
 .rename_i H;cases h;show(List.map _ _).length<_;rw[cH,<-B];have m:(p.l.kind==2):=by
   simp only[dj,oG]at H;unfold jY at H;rw[ml hp]at H;simp only[dj]at H;rcases H.1 with h|h
   .exact h.1.1
   exact h.1.1
  exact adU hp (by unfold ri;rw[m];simp)
 cases h
def az5(g:cK F u)(T:rq F u E m)(X:m.k=1\/m.k=4\/m.k=6):∃M,rj F u m.k m.a m.b m.c m.l m.o m.s=nm F M/\dA F M=0/\I M<I u/\ai aa.aM M<=ai aa.aM u/\ai aa.aF M<=ai aa.aF u:=by
 obtain⟨_,⟨A,j,_,ea,_⟩,M0,N⟩:=T;have f:ef m.k:=by unfold ef;omega
 rcases QL g f m.a m.b m.c m.l m.o m.s with⟨e,Z,h⟩|⟨M,h,hc,_,L,H,rfl⟩
 .rw[N]at h;unfold nm sV at h;simp only[RV.tup.injEq,vN,RV.one.injEq,kJ.p.injEq,PV.int.injEq,and_true,true_and]at h;exact absurd h.2.symm Z
 rw[ea,s9]at H;have bN:=cU u;have R:=atI X j H;have z:m.b.toNat<I u\/(m.k≠3/\m.k≠8):=.inr ⟨J,J⟩;have B:m.c.toNat<I u\/m.k≠8:=.inr J;have Y:Gu (λp=>p.l.aF):=λp x h=>by show(p.l.kind==2)=(x.l.kind==2);rw[h]
 have O:Gu (λp=>p.l.aM):=λp x h=>by show(p.l.kind==1)=(x.l.kind==1);rw[h]
 have Q:∀q:aa->Bool,(cq u).countP (λp=>q p.l)=ai q u:=λq=>by rw[<-UA (h:=u) q];show _=List.countP _ (List.map _ _);rw[CJ];rfl
 have D:=Uw g O f j z B H;have y:=Uw g Y f j z B H;rw[Q]at D y;exact⟨_,h,hc,by rw[akZ];exact R,by rw[agE];exact D,by rw[agE];exact y⟩
end
section
variable {F:Nat}
def ar3{k:Int}(H:(k==2)=false):aJ S 127 [.one (.p (gT F [])),aC k] (.one (aX iN 7 [])):=by have B:I (fA (cq []))=0:=rfl;have h:(((0:Nat):Int)==0):=U;refine bt adX ?_;simp only[go_sem,Sq,Uj,B,h,H];refine mx ?_;simp only[go_sem,FB,Q_,C8];rfl
def ax8(E:cV)(N:I E<=10)(u:∀k∈E,uC k):aJ S 86 [.one (.p (gT F [])),.one (.p (.sl (dR E)))] (.tup [.one (aX iN 7 []),.one (aX Bv 2 [])]):=by
 have z:S.lone 5504448128=false:=ah;refine bt ao8 ?_;simp only[go_sem,ab1];refine c_ (λk B aj=>B 0=.one (.p (gT F []))/\B 1=.one (.p (.sl (dR E)))/\B 8=aC ((k+1:Nat):Int)/\B 6=.one (.p .nils)/\B 7=.one (.p .nils)) 0 10 (cE _) ?_ ?_
 .simp only[go_sem];rfl
 rintro k B aj O ⟨f,e1,e8,e6,e7⟩
 by_cases A:k<10
 .have m:((k+1:Nat):Int)<=10:=J;have j:=cP (n:=k+1) J;have g:=amB E ((k+1:Nat):Int) J;cases H:E.contains ((k+1:Nat):Int)with
  |false=>rw[H]at g;simp only[go_sem,HM,Ll,f,e1,e6,e7,e8,m,UD,aD g,j];exact A
  |true=>
   have D:((k+1:Nat):Int)∈E:=by simpa using H
   have pc:=ar3 (F:=F) (k:=((k+1:Nat):Int)) (ng.2 (by have:=u _ D;unfold uC ef at this;omega));rw[H]at g;simp only[go_sem,HM,f,e1,e6,e7,e8,m,UD,aD g,ajQ];refine qW pc z (.inl rfl) λL Q x M=>?_;rcases x with⟨e,e2⟩|⟨h,_⟩
   .cases e2;simp only[go_sem];refine mx ?_;simp only[go_sem,JC,Ll,f,e1,e6,e7,e8,C8,j];exact A
   exact absurd rfl h
 have:k=10:=J;subst this;have y:¬(((10+1:Nat):Int)<=10):=U;simp only[go_sem,HM,aew,f,e1,e6,e7,e8,y];rfl
end
section
variable {F:Nat} {u:ae}
def anf(h:dA (F:Int) []=0):F<=40:=by
 unfold dA at h;rw[aw U]at h;by_cases H:(F:Int)<0\/40<(F:Int)
 .rw[aH H]at h;cases h
 omega
def aAF(j:dA (F:Int) u=0)(E:cV)(f:I E<=10)(H:∀k∈E,uC k):∃h x,(I h<=8000/\ ∀m∈h,rq F u E m)/\aJ S 86 [.one (.p (gT F u)),.one (.p (.sl (dR E)))] (.tup [.one (aX iN 7 (aS h)),.one (aX Bv 2 x)]):=by
 by_cases A:u=[]
 .subst A;exact⟨[],[],⟨aQ,λm j=>by cases j⟩,ax8 E f H⟩
 obtain⟨G,e,g⟩:=uU j A;have:F=G:=J;subst this;exact auk g (jr.2 A) E f H
def aG7(h:dA (F:Int) u=0):aJ S 82 [df F u] (AM (gT F u) (.int .i64 0)):=by
 by_cases A:u=[]
 .subst A;exact aHt (anf h)
 obtain⟨G,e,g⟩:=uU h A;have:F=G:=J;subst this;exact WU g
def Y6(y:dA (F:Int) u=0)(E:cV)(f:I E<=10)(H:∀k∈E,uC k):∃h,(I h<=8000/\ ∀m∈h,rq F u E m)/\aJ S 45 [df F u,.one (.p (.sl (dR E)))] (.tup [.one (aX iN 7 (aS h)),.one (.p (.int .i64 0))]):=by obtain⟨h,A,j,ps⟩:=aAF y E f H;have x:=aG7 y;have lo:S.lone 2880256128=false:=ah;refine⟨h,j,?_⟩;refine bt alR ?_;simp only[go_sem,acG,U4,a_ x cS,agu];refine Mf ps lo λc d B g gd z=>?_;simp only[go_sem];exact zU g
def acA(g:cK F u)(E:cV)(j:I E<=10)(H:∀k∈E,uC k):∃h,(I h<=8000/\(∀m∈h,rq F u E m)/\AG F u E 10 h/\h.Pairwise uy)/\aJ S 45 [df F u,.one (.p (.sl (dR E)))] (.tup [.one (aX iN 7 (aS h)),.one (.p (.int .i64 0))]):=by obtain⟨h,A,x,ps⟩:=afx g (jr.2 g.ne) E j H;have y:=WU g;have lo:S.lone 2880256128=false:=ah;refine⟨h,x,?_⟩;refine bt alR ?_;simp only[go_sem,acG,U4,a_ y cS,agu];refine Mf ps lo λc d B f gd z=>?_;simp only[go_sem];exact zU f
abbrev w8:cV:=[1,4,6]
def Qt:∀k∈w8,uC k:=by intro k h;simp only[dk,iu,or_false]at h;unfold uC ef;omega
abbrev xY(m:dx)(b:Bool):RV:=.tup [.agg (m.ps.map .p),.one (.p (.bool b))]
def aey(h:dB):((aS h).all λe=>e.all PV.scalar):=by rw[jP];intro e H;obtain⟨i,_,rfl⟩:=eg.1 H;rfl
abbrev LD:dx:=⟨0,0,0,0,false,false,0⟩
def afb:dB->RV
 |[]=>xY LD false
 |m::_=>xY m true
def WD(ps:aJ S 45 [df F u,.one (.p (.sl (dR w8)))] (.tup [.one (aX iN 7 (aS h)),.one (.p (.int .i64 0))])):aJ S 27 [df F u] (afb h):=by
 have M:aJ S 45 [df F u,.one (.p (.sl [[.int .i64 1],[.int .i64 4],[.int .i64 6]]))] (.tup [.one (aX iN 7 (aS h)),.one (.p (.int .i64 0))]):=ps;have lo:S.lone 1728064128=false:=ah;refine bt arE ?_;simp only[go_sem,akg,afP];refine aBC M lo (aey _) rfl λc E g y=>?_;have B:=y 1728000064 U;simp only[go_sem]at B;cases h with
 |nil=>
  rcases g with⟨_,e2⟩|⟨z,_⟩
  .cases e2;have f:(((0:Nat):Int)==0):=U;simp only[go_sem,f,B];rfl
  exact absurd rfl z
 |cons m r=>
  rcases g with⟨z,_⟩|⟨_,D,e2,j⟩
  .cases z
  cases e2;have hl:I (aS (m::r))=I r+1:=by simp[aS]
  have f:(((I r+1:Nat):Int)==0)=false:=by rw[ng];omega
  have A:0<I r+1:=J;have x:(aS (m::r))[0]?=some m.ps:=rfl;rw[hl];generalize aS (m::r)=H at*;simp only[go_sem,f,B,j,x,A,dx.ps];rfl
def alg(f:dA (F:Int) u=0):(∃m,rq F u w8 m/\(¬aJ S 45 [df F u,.one (.p (.sl (dR w8)))] (.tup [.one (aX iN 7 []),.one (.p (.int .i64 0))]))/\aJ S 27 [df F u] (xY m true))\/(aJ S 45 [df F u,.one (.p (.sl (dR w8)))] (.tup [.one (aX iN 7 []),.one (.p (.int .i64 0))])/\aJ S 27 [df F u] (xY LD false)):=by
 obtain⟨h,⟨_,H⟩,ps⟩:=Y6 f w8 U Qt;have pr:=WD ps;cases h with
 |nil=>exact .inr ⟨ps,pr⟩
 |cons m r=>
  exact .inl ⟨m,H m aQ,(λf=>by have:=ps.yv f;simp[aX]at this),pr⟩
end
def aGC{aj:aB}{os:eZ}{d:eh}{s:Nat}{rd:aG}{H fs:s_}{x:PV}(hp:aJ S f vs (.tup [.agg [.p x,aX t1 Z H],.one (aX T Y fs)]))(X:S.lone s=false)(R:x.scalar)
  (a1:(H.all λe=>e.all PV.scalar)) (a2:(fs.all λe=>e.all PV.scalar))
  (F:∀(c e:c6) A,aY (s+1) t1 Z H (.one c) A->aY (s+2) T Y fs (.one e) A->(∀i,i≠s+1->i≠s+2->A i=aj i)->iH S .all os Q (dF B d (.tup [.agg [.p x,c],.one e])) A):iU S .all (.pc f vs rd s) d os Q B aj:=by
 obtain⟨L,D,_⟩:=tZ (aj:=aj) (s:=s+1) (m:=t1) (z:=Z) (j:=H);have E:∀(b g:aB) (k:Nat) (r:kJ),g k=b k->d_ b k r=d_ g k r:=by
  intro b g k r h;cases r with
  |p v=>rfl
  |own O sz H=>simp only[d_,h]
 have e2:d_ aj (s+2) (aX T Y fs)=d_ (app (d_ aj (s+1) (aX t1 Z H)).2 aj) (s+2) (aX T Y fs):=E _ _ _ _ (D (s+2) J);obtain⟨y,m,_⟩:=tZ (aj:=app (d_ aj (s+1) (aX t1 Z H)).2 aj) (s:=s+2) (m:=T) (z:=Y) (j:=fs);rw[<-e2]at y m;have j:∀(a b:lA) (c:aB),app (a++b) c=app b (app a c):=by
  intro a
  induction a with
  |nil=>intro b c;rfl
  |cons x a ih=>intro b c;exact ih b _
 have N:(RV.tup [.agg [.p x,aX t1 Z H],.one (aX T Y fs)]).alone:=by
  have a:=pA (m:=t1) (z:=Z) a1;have b:=pA (m:=T) (z:=Y) a2;have M:(RV.one (.p x)).alone:=by show(x.scalar&&true)=true;rw[R];rfl
  skip
  simp only[RV.alone,iV,ja,mN,oc,r5]at a b M;simp only[RV.alone,iV,oL,ja,nA,fN,lg,mN,oc,r5,a,b,M,tg]
 refine(a_ (v:=.tup [.agg [.p x,(d_ aj (s+1) (aX t1 Z H)).1],.one (d_ aj (s+2) (aX T Y fs)).1]) (u:=(d_ aj (s+1) (aX t1 Z H)).2++(d_ aj (s+2) (aX T Y fs)).2) hp ?_).2 (F _ _ _ ?_ ?_ ?_)
 .rw[X,uD];unfold eF;rw[aH (.inr N)];simp[jf,iV,oL,ja,kC,sJ,ti,ox,d_]
 .rw[j];exact L.of_eq (m (s+1) J)
 .rw[j];exact y
 intro i a b;rw[j,m i b,D i a]
def al0{f g:Nat}{H fs:s_}{c d:c6}{x:PV}{aj:aB}(hs:f≠g)(h:aY f t1 Z H (.one c) aj)(z:aY g T Y fs (.one d) aj):gr aj (.tup [.agg [.p x,c],.one d])=some (.tup [.agg [.p x,aX t1 Z H],.one (aX T Y fs)]):=by obtain⟨D,o,B,m,u⟩:=h.gR;cases B;obtain⟨E,q,j,y,A⟩:=z.gR;cases j;have e1:gR aj (.p x)=some (.p x,[],[]):=rfl;rcases u with rfl|rfl<;>rcases A with rfl|rfl<;>simp[gr,nx,tH,k5,kj,m,y,e1,lG,pB,nD,zu,hs]
def HE{aj:aB}{rd:aG}{s:Nat}{b:Bool}{l:Bool}:eF aj rd s ((xY m b).fi l)=some (.tup [.agg [.p (.int .i64 m.k),.p (.int .i64 m.a),.p (.int .i64 m.b),.p (.int .i64 m.c),.p (.bool m.l),.p (.bool m.o),.p (.int .i64 m.s)],.one (.p (.bool b))],[]):=by cases l<;>(unfold eF;rw[aH (.inr rfl)];rfl)
def Ik(F:Nat)(L:ae):Prop:=aJ S 45 [df F L,.one (.p (.sl (dR w8)))] (.tup [.one (aX iN 7 []),.one (.p (.int .i64 0))])
def aBu:∀ {A B:ae},bQ A=bQ B->A=B:=by
 intro A
 induction A with
 |nil=>intro B h;cases B with
  |nil=>rfl
  |cons _ _=>cases h
 |cons a A f=>
  intro B h;cases B with
  |nil=>cases h
  |cons b B=>have h:a.ps::bQ A=b.ps::bQ B:=h;rw[vN]at h;rw[f h.2];have H:=h.1;cases a;cases b;simp only[aa.ps,vN,PV.int.injEq,PV.bool.injEq,and_true,true_and]at H;obtain⟨rfl,rfl,rfl,rfl,rfl,rfl⟩:=H;rfl
def aEi{A B:ae}(h:nm F A=nm F B):A=B:=by
 unfold nm at h;simp only[RV.tup.injEq,vN,RV.agg.injEq,and_true,true_and]at h;unfold aX at h;by_cases f:bQ A=[]
 .by_cases H:bQ B=[]
  .rw[QE.1 f,QE.1 H]
  rw[aH f,aw H]at h;cases h
 by_cases H:bQ B=[]
 .rw[aw f,aH H]at h;cases h
 rw[aw f,aw H]at h;simp only[kJ.own.injEq,true_and]at h;exact aBu h
def UR{e:Int}(H:e≠0):nm F L≠sV e:=λh=>by unfold nm sV at h;simp only[RV.tup.injEq,vN,RV.one.injEq,kJ.p.injEq,PV.int.injEq,and_true,true_and]at h;exact H h.2.symm
def adK{M:ae}(A:u≠[])(h:rj F u m.k m.a m.b m.c m.l m.o m.s=nm F M):iY F u m=some M:=by
 unfold iY;rw[aw A];unfold rj at h;by_cases g:dc F u m.k m.a m.b m.c m.l m.o m.s
 .rw[aH g]at h |-;cases f:qi F u m.k m.a.toNat m.b.toNat m.c.toNat m.l m.o m.s with
  |none=>rw[f]at h;exact absurd h.symm (UR U)
  |some L=>
   rw[f]at h;dsimp only;by_cases H:(400:Int)<(I u:Int)+(og m.k).1\/(100:Int)<((ai aa.aF u/2:Nat):Int)+(og m.k).2
   .have e2:AJ F u m.k (some L)=sV 7:=aH H;rw[e2]at h;exact absurd h.symm (UR U)
   have e2:AJ F u m.k (some L)=nm F (oo L):=aw H;rw[e2]at h;rw[aw H,aEi h]
 rw[aw g]at h;exact absurd h.symm (UR U)
def adl(F:Nat)(L:ae)(m:dx):Prop:=rq F L w8 m/\aJ S 27 [df F L] (xY m true)
structure BO (F:Nat) (ls:ae) (ms:dB) (L:ae):Prop where
 len:I L+I ms<=I ls
 chk:dA (F:Int) L=0
 rep:pJ F ls ms=some L
 kind:∀m∈ms,m.k∈w8
 rdg:∀(i:Nat) (m:dx),ms[i]?=some m->∃bK,pJ F ls (ms.take i)=some bK/\dA (F:Int) bK=0/\aJ S 27 [df F bK] (xY m true)
def adP(F:Nat)(u:ae)(h:dB)(L:ae)(c:c6)(aj:aB):Prop:=(c=.p (c8 L)/\h=[]/\L=u)\/aY 1536320129 fI 6 (bQ L) (.one c) aj
def adP.snap{c:c6}{aj:aB}(H:adP F u h L c aj):∃r,∀B:aB,B 1536320129=aj 1536320129->Go.Abs.snap B ia c=some (c8 L,r):=by
 rcases H with⟨rfl,_,_⟩|H
 .exact⟨[],λB _=>rfl⟩
 obtain⟨r,f,_⟩:=H.xW;exact⟨r,f⟩
def BO.step(z:BO F u h L)(R:I u<=400)(f:adl F L m):∃M,aJ S 41 [df F L,D_ m] (nm F M)/\BO F u (h++[m]) M:=by
 have y:=f.1;have B:L≠[]:=by obtain⟨_,⟨a,j,_⟩,_⟩:=y;intro e;rw[e]at j;exact absurd j (mX a)
 obtain⟨G,e,g⟩:=uU z.chk B;have:F=G:=J;subst this;have E:m.k=1\/m.k=4\/m.k=6:=by
  have:=y.1
  simpa using this
 obtain⟨M,j,O,Q,_,_⟩:=az5 g y E;have N:ef m.k:=by unfold ef;omega
 have pa:=alo g N m.a m.b m.c m.l m.o m.s;rw[j]at pa;have hl:=z.len;refine⟨M,pa,⟨by rw[fv];simp only[dw,eK];omega,O,by rw[ade m z.rep];exact adK B j,λx H=>?_,λi x H=>?_⟩⟩
 .rcases fc.1 H with A|A
  .exact z.kind x A
  rw[kV.1 A];exact y.1
 by_cases D:i<I h
 .rw[xv D]at H;rw[J8 J];exact z.rdg i x H
 have e:i=I h:=by have:=(cD.1 H).1;simp only[fv,dw,eK]at this;omega
 subst e;rw[vI (cT _),ze]at H;cases H;rw[Gn];exact⟨L,z.rep,z.chk,f.2⟩
def BO.start(h:dA (F:Int) u=0):BO F u [] u:=⟨cT _,h,rfl,λm h=>(by cases h),λi m h=>(by cases h)⟩
def WN(F:Nat)(u:ae)(h:dB)(M:ae)(r:RV):Prop:=(h=[]/\M=u/\r=.tup [.agg [.p (.int .i64 F),.p (c8 u)],.one (.p .nils)])\/r=.tup [.agg [.p (.int .i64 F),aX fI 6 (bQ M)],.one (aX iN 7 (aS h))]
def atf(my:dA (F:Int) u=0)(A:I u<=400):∃r,(∃h M,BO F u h M/\Ik F M/\WN F u h M r)/\aJ S 24 [df F u] r:=by
 have iI:S.lone 1536320128=false:=ah;have red:∀L,dA (F:Int) L=0->∃m b,aJ S 27 [df F L] (xY m b)/\(b=true->adl F L m)/\(b=false->Ik F L):=by
  intro L an;rcases alg an with⟨m,f,_,H⟩|⟨f,H⟩
  .exact⟨m,true,H,λ_=>⟨f,H⟩,λan=>(by cases an)⟩
  exact⟨LD,false,H,λan=>(by cases an),λ_=>f⟩
 refine JP rfl aw4 (jn rfl) ?_;obtain⟨m0,b0,ab,k1,k2⟩:=red u my;simp only[go_sem,afZ,RO,a_ ab HE];refine c_ (λk B aj=>∃L h c d m b gm g,(g=1536128320\/g=1536512000)/\B 1=.one (.bh 1536000000 1 0)/\B 2=.one (.bh 1536000064 1 0)/\aj 1536000064=(1,some (.var [.p (.int .i64 0),.p .nils]))/\B 6=.one (.p (.bool b))/\B 4=.one d/\B 5=.one (.bh g gm 0)/\aj g=(gm,some (.var (m.ps.map .p)))/\aj 1536000000=(1,some (.var [.p (.int .i64 F),c]))/\adP F u h L c aj/\aY 1536384192 iN 7 (aS h) (.one d) aj/\I h=k/\BO F u h L/\(b=true->adl F L m)/\(b=false->Ik F L)) 0 (I u) (cE _) ?_ ?_
 .simp only[go_sem];refine⟨u,[],.p (c8 u),.p .nils,m0,b0,1,1536128320,.inl rfl,?_⟩;exact⟨rfl,rfl,rfl,rfl,rfl,.inl ⟨rfl,rfl,rfl⟩,aY.nil,rfl,BO.start my,k1,k2⟩
 rintro k B aj hk ⟨L,h,c,d,m,b,gm,g,ad,f,H,bZ,E,y,z,D,b0,hc,gp,qP,N,aA,dL⟩
 rcases ad with rfl|rfl
 .have Z:=hc;obtain⟨rd,km⟩:=Z.snap;simp only[dx.ps,eR,jS]at D;cases b with
  |false=>
   simp only[go_sem,P1,Z8,f,H,y,z,E,D,b0,bZ];rcases hc with⟨rfl,rfl,rfl⟩|X
   .rcases gp with⟨_,e2⟩|⟨aN,_⟩
    .cases e2;exact⟨_,⟨[],_,N,dL rfl,.inl ⟨rfl,rfl,rfl⟩⟩,rfl⟩
    exact absurd rfl aN
   exact⟨_,⟨h,L,N,dL rfl,.inr rfl⟩,al0 U (X.of_eq (bU U)) (gp.of_eq (bU U))⟩
  |true=>
   obtain⟨M,pa,IU⟩:=N.step A (aA rfl);obtain⟨m2,b2,O,k1,k2⟩:=red M IU.chk;have ac:=N.len;simp only[go_sem,P1,f,H,y,z,E,D,b0,bZ,km,adE];refine amN pa iI rfl rfl (zf _) λR bY X j=>?_;have Q:=j 1536000000 U;have T:=j 1536128320 U;have q2:=j 1536000064 U;simp only[go_sem,b0,D,bZ]at Q T q2;have IM:=gp.of_eq (j 1536384192 U);simp only[go_sem,f,H,y,z,E,Q,T,q2];refine l_ (B:=[dx.ps m]) (IM.of_eq (by simp only[aT,Nat.reduceEqDiff,if_false])) (by simp only[fz,aT,if_true];rfl) (.inl rfl) (by simp only[k_,dw,eK];omega) λd2 bJ Y x=>?_
   have r0:=x 1536000000 U U;have r1:=x 1536128320 U U;have r2:=x 1536000064 U U;simp only[go_sem,Q,T,q2]at r0 r1 r2;have uK:aY 1536320129 fI 6 (bQ M) (.one R) bJ:=(show aY 1536320129 fI 6 (bQ M) (.one R) bY from X).of_eq ((x 1536320129 U U).trans (by simp only[aT,Nat.reduceEqDiff,if_false]));obtain⟨ag,gV,_⟩:=uK.xW;simp only[go_sem,f,H,y,z,E,r0,r1,r2,gV,RO,a_ O HE];have kL:=IU.len;rw[fv]at kL
   simp only[dw,eK]at kL;refine⟨J,M,h++[m],R,d2,m2,b2,_,1536512000,.inr rfl,rfl,rfl,rfl,aH rfl,rfl,.inr (uK.of_eq (by simp only[aT,Nat.reduceEqDiff,if_false])),?_,by simp[qP],IU,k1,k2⟩;rw[show aS (h++[m])=aS h++[dx.ps m] by simp[aS]];exact Y.of_eq (by simp only[aT,Nat.reduceEqDiff,if_false])
 have Z:=hc;obtain⟨rd,km⟩:=Z.snap;simp only[dx.ps,eR,jS]at D;cases b with
 |false=>
  simp only[go_sem,P1,Z8,f,H,y,z,E,D,b0,bZ];rcases hc with⟨rfl,rfl,rfl⟩|X
  .rcases gp with⟨_,e2⟩|⟨aN,_⟩
   .cases e2;exact⟨_,⟨[],_,N,dL rfl,.inl ⟨rfl,rfl,rfl⟩⟩,rfl⟩
   exact absurd rfl aN
  exact⟨_,⟨h,L,N,dL rfl,.inr rfl⟩,al0 U (X.of_eq (bU U)) (gp.of_eq (bU U))⟩
 |true=>
  obtain⟨M,pa,IU⟩:=N.step A (aA rfl);obtain⟨m2,b2,O,k1,k2⟩:=red M IU.chk;have ac:=N.len;simp only[go_sem,P1,f,H,y,z,E,D,b0,bZ,km,adE];refine amN pa iI rfl rfl (zf _) λR bY X j=>?_;have Q:=j 1536000000 U;have T:=j 1536512000 U;have q2:=j 1536000064 U;simp only[go_sem,b0,D,bZ]at Q T q2;have IM:=gp.of_eq (j 1536384192 U);simp only[go_sem,f,H,y,z,E,Q,T,q2];refine l_ (B:=[dx.ps m]) (IM.of_eq (by simp only[aT,Nat.reduceEqDiff,if_false])) (by simp only[fz,aT,if_true];rfl) (.inl rfl) (by simp only[k_,dw,eK];omega) λd2 bJ Y x=>?_
  have r0:=x 1536000000 U U;have r1:=x 1536512000 U U;have r2:=x 1536000064 U U;simp only[go_sem,Q,T,q2]at r0 r1 r2;have uK:aY 1536320129 fI 6 (bQ M) (.one R) bJ:=(show aY 1536320129 fI 6 (bQ M) (.one R) bY from X).of_eq ((x 1536320129 U U).trans (by simp only[aT,Nat.reduceEqDiff,if_false]));obtain⟨ag,gV,_⟩:=uK.xW;simp only[go_sem,f,H,y,z,E,r0,r1,r2,gV,RO,a_ O HE];have kL:=IU.len;rw[fv]at kL
  simp only[dw,eK]at kL;refine⟨J,M,h++[m],R,d2,m2,b2,_,1536512000,.inr rfl,rfl,rfl,rfl,aH rfl,rfl,.inr (uK.of_eq (by simp only[aT,Nat.reduceEqDiff,if_false])),?_,by simp[qP],IU,k1,k2⟩;rw[show aS (h++[m])=aS h++[dx.ps m] by simp[aS]];exact Y.of_eq (by simp only[aT,Nat.reduceEqDiff,if_false])
section
variable {F:Nat} {L:ae}
def aar(g:cK F L)(H:ef m.k):iY F L m=if dc F L m.k m.a m.b m.c m.l m.o m.s=true then(qi F L m.k m.a.toNat m.b.toNat m.c.toNat m.l m.o m.s).map oo else none:=by
 have f:og m.k=(0,0):=by unfold ef at H;rcases H with h|h|h|h|h<;>rw[h]<;>rfl
 have u:=g.len;have j:=g.cr;unfold iY;rw[aw g.ne,f];split
 .cases qi F L m.k m.a.toNat m.b.toNat m.c.toNat m.l m.o m.s with
  |none=>rfl
  |some X=>dsimp only;rw[aw J];rfl
 rfl
def Kh(g:cK F L)(f:ef m.k)(h:iY F L m=some X):dA (F:Int) X=0/\dc F L m.k m.a m.b m.c m.l m.o m.s/\ ∃P,qi F L m.k m.a.toNat m.b.toNat m.c.toNat m.l m.o m.s=some P/\X=oo P:=by
 rw[aar g f]at h;split at h
 case isFalse=>cases h
 rename_i x;obtain⟨P,j,rfl⟩:=eU.1 h;refine⟨?_,x,P,j,rfl⟩;rcases QL g f m.a m.b m.c m.l m.o m.s with⟨e,A,H⟩|⟨M,H,y,D,Q,u,rfl⟩
 .exfalso;have z:og m.k=(0,0):=by
   unfold ef at f;rcases f with h|h|h|h|h<;>rw[h]<;>rfl
  have B:=g.len;have E:=g.cr;unfold rj at H;rw[aH x,j]at H;have e2:AJ F L m.k (some P)=nm F (oo P):=aw (by rw[z];dsimp only;omega);rw[e2]at H;exact axu A H
 rw[j]at u;cases u;exact y
abbrev agV(k:Int)(a b:Nat):dx:=⟨k,a,b,0,false,false,0⟩
abbrev agz(k:Int)(a b c:Nat):dx:=⟨k,a,b,c,false,false,0⟩
def zx{k a b c sg:Int}{l o:Bool}(H:k=1\/k=4):dc F L k a b c l o sg↔ ∃A:Nat,A<I L/\a=A/\b=0/\c=0/\l=false/\o=false/\sg=0:=by
 unfold dc;rcases H with rfl|rfl
 all_goals
  simp only[Int.reduceEq,if_true,if_false,false_or,or_false,true_or,or_true,dj,mP,dI];constructor
  .rintro ⟨rfl,rfl,rfl,f,rfl,rfl⟩
   obtain⟨A,rfl,h⟩:=oY f;exact⟨A,h,rfl,rfl,rfl,rfl,rfl,rfl⟩
  rintro⟨A,h,rfl,rfl,rfl,rfl,rfl,rfl⟩
  exact⟨rfl,rfl,rfl,by unfold kR;simp;omega,rfl,rfl⟩
def BG{k a b c sg:Int}{l o:Bool}(g:k=3\/k=6):dc F L k a b c l o sg↔ ∃A bv:Nat,A<bv/\bv<I L/\a=A/\b=bv/\c=0/\l=false/\o=false/\sg=0:=by
 unfold dc;rcases g with rfl|rfl
 all_goals
  simp only[Int.reduceEq,if_true,if_false,false_or,or_false,true_or,or_true,dj,mP,dI,kB];constructor
  .rintro ⟨rfl,rfl,rfl,f,rfl,H,j⟩
   obtain⟨A,rfl,m⟩:=oY f;obtain⟨bv,rfl,h⟩:=oY H;exact⟨A,bv,J,h,rfl,rfl,rfl,rfl,rfl,rfl⟩
  rintro⟨A,bv,E,h,rfl,rfl,rfl,rfl,rfl,rfl⟩
  exact⟨rfl,rfl,rfl,by unfold kR;simp;omega,rfl,by unfold kR;simp;omega,J⟩
def Us{a b c sg:Int}{l o:Bool}:dc F L 8 a b c l o sg↔ ∃A bv f:Nat,A<bv/\bv<f/\f<I L/\a=A/\b=bv/\c=f/\l=false/\o=false/\sg=0:=by
 unfold dc;simp only[Int.reduceEq,if_true,if_false,false_or,or_false,true_or,or_true,or_self,dj,mP,dI,kB];constructor
 .rintro ⟨rfl,rfl,rfl,g,H,j,z,m⟩
  obtain⟨A,rfl,x⟩:=oY g;obtain⟨bv,rfl,u⟩:=oY H;obtain⟨f,rfl,h⟩:=oY j;exact⟨A,bv,f,J,J,h,rfl,rfl,rfl,rfl,rfl,rfl⟩
 rintro⟨A,bv,f,E,y,h,rfl,rfl,rfl,rfl,rfl,rfl⟩
 exact⟨rfl,rfl,rfl,by unfold kR;simp;omega,by unfold kR;simp;omega,by unfold kR;simp;omega,J,J⟩
def al6:∀ {A B:dB},aS A=aS B->A=B:=by
 intro A
 induction A with
 |nil=>intro B h;cases B with
  |nil=>rfl
  |cons b B=>cases h
 |cons a A f=>
  intro B h;cases B with
  |nil=>cases h
  |cons b B=>
   have h:dx.ps a::aS A=dx.ps b::aS B:=h;obtain⟨H,g⟩:=FJ h;rw[f g];cases a;cases b;unfold dx.ps at H;simp only[vN,PV.int.injEq,PV.bool.injEq,true_and,and_true]at H;simp only[vN,dx.mk.injEq,and_true]
   simp_all
def aEo{A B:dB}(h:(RV.tup [.one (aX iN 7 (aS A)),.one (.p (.int .i64 0))])=.tup [.one (aX iN 7 (aS B)),.one (.p (.int .i64 0))]):A=B:=by
 simp only[RV.tup.injEq,vN,RV.one.injEq,and_true]at h;apply al6;unfold aX at h;by_cases a:aS A=[]<;>by_cases b:aS B=[]
 .rw[a,b]
 .rw[aH a,aw b]at h;cases h
 .rw[aw a,aH b]at h;cases h
 rw[aw a,aw b]at h;simp only[kJ.own.injEq]at h;exact h.2.2
def alT{pl a b:Nat}(m:a<b)(h:oT F L pl [a,b] a)(hs:∀j,j<2->lR z a (nh F L (2*a+j)).cn M)(u:z≠8):agV z a b∈M:=by
 have key:∀f:dV,wT f pl [a,b]->lR z a f.cn M->agV z a b∈M:=λf H hs=>by
  unfold wT at H;simp only[dj,dI,jP]at H;obtain⟨B,_,x⟩:=H;have E:∀e∈[a,b],∃d∈f.cn,d/2=e:=λe y=>by have A:=x e y;unfold vL at A;obtain⟨d,g,T⟩:=xk.1 (show 0<f.cn.countP λd=>d/2==e by omega);exact⟨d,g,dI.1 T⟩
  exact hs.1 u b m B (E a aQ) (E b aQ)
 unfold oT at h;rw[oG]at h;rcases h with h|h
 .exact key _ h (hs 0 U)
 exact key _ h (hs 1 U)
def aCZ{pl a b c:Nat}(m:a<b)(z:b<c)(h:oT F L pl [a,b,c] a)(hs:∀j,j<2->lR 8 a (nh F L (2*a+j)).cn M):agz 8 a b c∈M:=by
 have key:∀f:dV,wT f pl [a,b,c]->lR 8 a f.cn M->agz 8 a b c∈M:=λf H hs=>by
  unfold wT at H;simp only[dj,dI,jP]at H;obtain⟨A,_,u⟩:=H;have E:∀e∈[a,b,c],∃d∈f.cn,d/2=e:=λe x=>by have y:=u e x;unfold vL at y;obtain⟨d,g,T⟩:=xk.1 (show 0<f.cn.countP λd=>d/2==e by omega);exact⟨d,g,dI.1 T⟩
  exact hs.2 rfl b c m z A (E a aQ) (E b aQ) (E c aQ)
 unfold oT at h;rw[oG]at h;rcases h with h|h
 .exact key _ h (hs 0 U)
 exact key _ h (hs 1 U)
def avb(g:cK F L)(x:ef m.k)(h:iY F L m=some X)(u:Fw F L m.k M):m∈M:=by
 obtain⟨k,a,b,c,l,o,sg⟩:=m;obtain⟨_,j,P,H,_⟩:=Kh g x h;simp only at j H u;have x:ef k:=x;unfold ef at x;rcases x with rfl|rfl|rfl|rfl|rfl
 .obtain⟨A,y,rfl,rfl,rfl,rfl,rfl,rfl⟩:=(zx (.inl rfl)).1 j;exact u.1 (.inl rfl) A y
 .obtain⟨A,bv,E,z,rfl,rfl,rfl,rfl,rfl,rfl⟩:=(BG (.inl rfl)).1 j;have H:vQ F L A bv=some P:=H;unfold vQ at H;split at H
  case isFalse=>cases H
  rename_i f;simp only[dj]at f;exact alT E f.2.2.2.2 (u.2 (.inl rfl) A J) U
 .obtain⟨A,y,rfl,rfl,rfl,rfl,rfl,rfl⟩:=(zx (.inr rfl)).1 j;exact u.1 (.inr rfl) A y
 .obtain⟨A,bv,E,z,rfl,rfl,rfl,rfl,rfl,rfl⟩:=(BG (.inr rfl)).1 j;have H:vS F L A bv=some P:=H;unfold vS at H;split at H
  case isFalse=>cases H
  rename_i f;simp only[dj]at f;exact alT E f.2.2.2.2.2 (u.2 (.inr (.inl rfl)) A J) U
 obtain⟨A,bv,B,E,D,N,rfl,rfl,rfl,rfl,rfl,rfl⟩:=Us.1 j;have H:ui F L A bv B=some P:=H;unfold ui at H;split at H
 case isFalse=>cases H
 rename_i f;unfold EO at f;simp only[dj]at f;exact aCZ E D f.2.2.2.2.2 (u.2 (.inr (.inr rfl)) A J)
def aqj(g:cK F L)(H:ef m.k)(h:iY F L m=some X):rj F L m.k m.a m.b m.c m.l m.o m.s=nm F X:=by
 obtain⟨_,u,P,f,rfl⟩:=Kh g H h;have j:og m.k=(0,0):=by unfold ef at H;rcases H with h|h|h|h|h<;>rw[h]<;>rfl
 have x:=g.len;have y:=g.cr;unfold rj;rw[aH u,f];exact aw (by rw[j];dsimp only;omega)
def ahS(g:cK F L)(y:I E<=10)(f:∀k∈E,uC k)(hs:aJ S 45 [df F L,.one (.p (.sl (dR E)))] (.tup [.one (aX iN 7 (aS h)),.one (.p (.int .i64 0))]))(j:m.k∈E)(A:iY F L m=some X):m∈h:=by obtain⟨B,⟨_,_,z,_⟩,Q⟩:=acA g E y f;rw[aEo (aJ.yv hs Q)];have H:ef m.k:=f _ j;obtain⟨M,x,u⟩:=z m.k j (by unfold ef at H;omega) (by unfold ef at H;omega);exact u m (avb g H A x) ⟨X,aqj g H A⟩
def abR(h:dA (F:Int) L=0)(u:∀k∈E,uC k)(x:rq F L E m):m.k∈E/\cK F L/\ ∃X,iY F L m=some X/\dA (F:Int) X=0:=by
 obtain⟨j,⟨a,H,_⟩,X,y⟩:=x;have A:L≠[]:=λe=>by rw[e]at H;simp at H
 obtain⟨G,e,g⟩:=uU h A;have:F=G:=J;subst this;have f:=adK A y;exact⟨j,g,X,f,(Kh g (u _ j) f).1⟩
end

end
end Go.Abs
