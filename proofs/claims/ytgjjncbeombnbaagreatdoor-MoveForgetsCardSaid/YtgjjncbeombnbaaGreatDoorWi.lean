/- A part. -/
import Derived.Test.YtgjjncbeombnbaaGreatDoorWh
set_option linter.all false
open List renaming length->I
set_option maxHeartbeats 16000000
namespace Go.Abs
variable{m u j:Nat}{R:Nat->Nat->Prop}{L:aC}{f T B:Nat->Nat->Nat}{h:af}
section
variable{F N n A v x y:Nat}
structure sJ (n:Nat) (p:Nat->Nat):Prop where
 lt:∀x,x<n->p x<n
 inj:∀x y,x<n->y<n->p x=p y->x=y
abbrev gY(n:Nat)(p:Nat->Nat)(x y:Nat):Prop:=x<n/\y=p x
def tr (p:Nat->Nat)(t:Nat×Nat)(x:Nat):Nat:=if x=t.1 then p t.2 else if x=t.2 then p t.1 else p x
def JG(p:Nat->Nat)(a b x:Nat):tr p (a,b) x=p (if x=a then b else if x=b then a else x):=by
 unfold tr;simp only
 grind
def sJ.tr{p:Nat->Nat}(h:sJ n p){a b:Nat}(j:a<n)(m:b<n):sJ n (tr p (a,b)):=by
 have ae:∀x,x<n->(if x=a then b else if x=b then a else x)<n:=λx H=>by split<;>(try split)<;>assumption
 refine⟨λx H=>by rw[JG];exact h.lt _ (ae x H),λx y H f e=>?_⟩;rw[JG,JG]at e;have e:=h.inj _ _ (ae x H) (ae y f) e;by_cases X:x=a
 .rw[an X]at e;by_cases Y:y=a
  .omega
  rw[ai Y]at e;split at e<;>omega
 rw[ai X]at e;by_cases Y:y=a
 .rw[an Y]at e;split at e<;>omega
 rw[ai Y]at e;split at e<;>split at e<;>omega
def it (p:Nat->Nat):Nat->Nat->Nat
 |0,x=>x
 |k+1,x=>p (it p k x)
def sJ.Il{p:Nat->Nat}(h:sJ n p)(H:x<n):∀k,it p k x<n:=by
 intro k
 induction k with
 |zero=>exact H
 |succ k f=>exact h.lt _ f
def sJ.back{p:Nat->Nat}(h:sJ n p)(H:x<n):∀i j,it p (i+j) x=it p i x->it p j x=x:=by
 intro i
 induction i with
 |zero=>intro j e;rw[jO]at e;exact e
 |succ i f=>intro j e;rw[show i+1+j=(i+j)+1 by omega]at e;exact f j (h.inj _ _ (h.Il H _) (h.Il H _) e)
def Ij:∀(L M:aC),L.Nodup->(∀x∈L,x∈M)->I L<=I M:=by
 intro L
 induction L with
 |nil=>intro M _ _;exact bN _
 |cons a L f=>
  intro M m ae;obtain⟨j,H⟩:=qH.1 m;have:=f _ H λx h=>(O_ (by rintro rfl;exact j h)).2 (ae x (by simp[h]))
  grind
def sJ.abz{p:Nat->Nat}(h:sJ n p)(u:x<n):∃m,it p (m+1) x=x:=by
 apply Classical.byContradiction;intro E;have f:∀k,((List.range k).map λi=>it p i x).Nodup:=by
  intro k
  induction k with
  |zero=>simp
  |succ k A=>rw[mD,fE,S6];refine⟨A,aH,λa z b H=>?_⟩;obtain⟨i,j,rfl⟩:=cD.1 z;have j:=fA.1 j;simp only[eQ,oO,nY]at H;subst H;intro e;have:=h.back u i (k-i) (by rw[show i+(k-i)=k by omega];exact e.symm);exact E ⟨k-i-1,by rw[show k-i-1+1=k-i by omega];exact this⟩
 have:=Ij _ (List.range n) (f (n+1)) λy v=>by obtain⟨i,_,rfl⟩:=cD.1 v;exact fA.2 (h.Il u i)
 rw[bG,rY,rY]at this;omega
def aeS(p:Nat->Nat)(x:Nat):∀k,it p (k+1) x=it p k (p x):=by
 intro k
 induction k with
 |zero=>rfl
 |succ k f=>show p _=p _;rw[f]
def afy{p:Nat->Nat}(h:sJ n p){a b:Nat}(v:a<n)(H:b<n)(x:¬cg (gY n p) a b):cg (gY n (tr p (a,b))) a b:=by
 obtain⟨m,u⟩:=h.abz H;have E:tr p (a,b) a=p b:=by unfold tr;rw[an rfl]
 have D:∀k,cg (gY n p) b (it p k b):=by
  intro k
  induction k with
  |zero=>exact .refl _
  |succ k f=>exact f.trans (.rel ⟨h.Il H k,rfl⟩)
 have j:∀k,cg (gY n (tr p (a,b))) a b\/cg (gY n (tr p (a,b))) a (it p k (p b)):=by
  intro k
  induction k with
  |zero=>exact .inr (.rel ⟨v,E.symm⟩)
  |succ k f=>
   rcases f with f|f
   .exact .inl f
   by_cases c:it p k (p b)=b
   .grind
   refine .inr (f.trans (.rel ⟨h.Il (h.lt _ H) k,?_⟩));have N:it p k (p b)≠a:=λe=>x (by have:=D (k+1);rw[aeS,e]at this;exact this.symm)
   unfold tr;rw[ai N,ai c];rfl
 rcases j m with k|k
 .exact k
 rw[<-aeS,u]at k;exact k
def Y1{p:Nat->Nat}{a b:Nat}(f:a<n)(H:b<n){S:Nat->Nat->Prop}{x y:Nat}:cg (sv (λx y=>gY n (tr p (a,b)) x y\/S x y) a b) x y↔cg (sv (λx y=>gY n p x y\/S x y) a b) x y:=by
 have A:∀R:Nat->Nat->Prop,cg (sv R a b) a b:=λR=>.rel (.inr ⟨rfl,rfl⟩);constructor
 .refine cg.mono λu v r=>?_;rcases r with(⟨h,rfl⟩|s)|⟨rfl,rfl⟩
  .unfold tr;by_cases c:u=a
   .subst c;rw[an rfl];exact(A _).trans (.rel (.inl (.inl ⟨H,rfl⟩)))
   rw[ai c];by_cases d:u=b
   .subst d;rw[an rfl];exact(A _).symm.trans (.rel (.inl (.inl ⟨f,rfl⟩)))
   rw[ai d];exact .rel (.inl (.inl ⟨h,rfl⟩))
  .exact .rel (.inl (.inr s))
  exact A _
 refine cg.mono λu v r=>?_;rcases r with(⟨h,rfl⟩|s)|⟨rfl,rfl⟩
 .by_cases c:u=a
  .subst c;refine(A _).trans (.rel (.inl (.inl ⟨H,?_⟩)));unfold tr;simp only
   grind
  by_cases d:u=b
  .subst d;refine(A _).symm.trans (.rel (.inl (.inl ⟨f,?_⟩)));unfold tr;rw[an rfl]
  refine .rel (.inl (.inl ⟨h,?_⟩));unfold tr;rw[ai c,ai d]
 .exact .rel (.inl (.inr s))
 exact A _
abbrev ag1(ts:pB)(x y:Nat):Prop:=(x,y)∈ts
abbrev yh(n:Nat)(p:Nat->Nat)(ts:pB)(x y:Nat):Prop:=gY n p x y\/ag1 ts x y
def ad1:∀(ts:pB) (p:Nat->Nat),sJ n p->(∀t∈ts,t.1<n/\t.2<n)->
  aY (cg (gY n (ts.foldl tr p))) n+aY (cg (gY n p)) n<=2*aY (cg (yh n p ts)) n+I ts:=by
 intro ts
 induction ts with
 |nil=>
  intro p _ _;have:aY (cg (yh n p [])) n=aY (cg (gY n p)) n:=GQ (λx y=>⟨cg.mono (R:=yh n p []) (R':=gY n p) (λu v r=>by
   rcases r with r|r
   .exact .rel r
   cases r),cg.mono (R:=gY n p) (R':=yh n p []) (λu v r=>.rel (.inl r))⟩) n
  rw[this];simp only[LV,gk];omega
 |cons t ts z=>
  intro p hp m;obtain⟨a,b⟩:=t;obtain⟨f,H⟩:=m (a,b) aH
  replace f:a<n:=f
  replace H:b<n:=H
  have z:=z (tr p (a,b)) (hp.tr f H) λt h=>m t (by simp[h]);have all:∀x y,cg (yh n p ((a,b)::ts)) x y↔cg (sv (yh n (tr p (a,b)) ts) a b) x y:=λx y=>by
   refine Iff.trans ⟨cg.mono λu v r=>?_,cg.mono λu v r=>?_⟩ (Y1 (S:=ag1 ts) f H).symm
   .rcases r with r|r
    .exact .rel (.inl (.inl r))
    rcases dt.1 r with r|r
    .cases r;exact .rel (.inr ⟨rfl,rfl⟩)
    exact .rel (.inl (.inr r))
   rcases r with(r|r)|⟨rfl,rfl⟩
   .exact .rel (.inl r)
   .exact .rel (.inr (zj _ r))
   exact .rel (.inr (I1 ..))
  have one:∀x y,cg (sv (gY n (tr p (a,b))) a b) x y↔cg (sv (gY n p) a b) x y:=λx y=>by have h:=Y1 (p:=p) (S:=λ_ _=>False) f H (x:=x) (y:=y);have e:∀q:Nat->Nat,(λx y=>gY n q x y\/False)=gY n q:=λq=>funext λx=>funext λy=>propext aH;rw[e,e]at h;exact h
  rw[GQ all];simp only[zg,fG];have A:aY (cg (sv (gY n (tr p (a,b))) a b)) n=aY (cg (sv (gY n p) a b)) n:=GQ one n;have eH:∀R:Nat->Nat->Prop,cg R a b->aY (cg (sv R a b)) n=aY (cg R) n:=λR h=>YI h n;have j:∀R:Nat->Nat->Prop,¬cg R a b->aY (cg R) n=aY (cg (sv R a b)) n+1:=λR h=>TQ f H h;rcases Classical.em (cg (gY n p) a b)with c|c
  .have k1:=eH _ c;rcases Classical.em (cg (gY n (tr p (a,b))) a b)with d|d
   .have k2:=eH _ d;have k3:=eH _ (d.mono (R':=yh n (tr p (a,b)) ts) λu v r=>.rel (.inl r));omega
   have k2:=j _ d;rcases Classical.em (cg (yh n (tr p (a,b)) ts) a b)with D|D
   .have k3:=eH _ D;omega
   have k3:=j _ D;omega
  have k1:=j _ c;have d:=afy hp f H c;have k2:=eH _ d;have k3:=eH _ (d.mono (R':=yh n (tr p (a,b)) ts) λu v r=>.rel (.inl r));omega
def rv (x:Nat):Nat:=if x%2=0 then x+1 else x-1
theorem rh(k:Nat):rv (2*k)=2*k+1:=by unfold rv;rw[an J]
theorem y9(k:Nat):rv (2*k+1)=2*k:=by unfold rv;rw[ai J];rfl
theorem tp(x:Nat):rv (rv x)=x:=by
 rcases oH x with h|h
 .rw[show x=2*(x/2) by omega,rh,y9]
 rw[show x=2*(x/2)+1 by omega,y9,rh]
theorem tD(h:x<2*m):rv x<2*m:=by unfold rv;split<;>omega
theorem tc(n v:Nat)(g:Bool):rv (dx n v g)=gn n v (!g):=by
 cases g with
 |true=>exact rh _
 |false=>exact y9 _
def aj8(n v:Nat)(g:Bool):rv (gn n v g)=dx n v (!g):=by
 cases g with
 |true=>exact rh _
 |false=>exact y9 _
theorem uB(h:v<n)(g:Bool):gn n v g<2*n:=by have:=cJ (v+n-1) (show 0<n by omega);unfold gn;split<;>omega
def My(H:x<2*n):x=gn n (if x%2=0 then(x/2+1)%n else x/2) (x%2==0):=by
 unfold gn;rcases oH x with h|h
 .simp[h];rw[vi J];omega
 grind
section
variable {F:Nat} {h:af}
def ajM{l:U}(hl:h[v]?=some l)(f:Bool):aO h (gn (I h) v f)=if l.kind==2 then dx (I h) (gC h v) (f==(l.over==(l.sign==1)))
   else if dn h v==f then 2*I h+2*(ay h).idxOf v else 2*I h+2*(((ay h).idxOf v+I (ay h)-1)%I (ay h))+1:=by
 have H:=(bd.1 hl).1;have A:=uB H f;refine adC J ?_ ?_ hl
 .unfold gn;cases f<;>simp
 unfold gn;cases f with
 |true=>simp only[if_true];rw[show 2*((v+I h-1)%I h)/2=(v+I h-1)%I h by omega,uE H]
 |false=>simp;omega
theorem uk{l:U}(hl:h[v]?=some l)(H:l.aq)(f:Bool):aO h (gn (I h) v f)=dx (I h) (gC h v) (f==(l.over==(l.sign==1))):=by rw[ajM hl];unfold U.aq at H;rw[an H]
def B1{l:U}(hl:h[v]?=some l)(hp:l.aw)(f:Bool):aO h (gn (I h) v f)=if dn h v==f then 2*I h+2*(ay h).idxOf v else 2*I h+2*(((ay h).idxOf v+I (ay h)-1)%I (ay h))+1:=by have:=nv hp;unfold U.aq at this;rw[ajM hl,ai (by grind)]
def Ae(k:Nat):aO h (2*I h+2*k)=dx (I h) ((ay h).getD ((k+1)%I (ay h)) 0) (!dn h ((ay h).getD ((k+1)%I (ay h)) 0)):=by
 show gU _ _ _=_;unfold gU
 grind
theorem A_(k:Nat):aO h (2*I h+2*k+1)=dx (I h) ((ay h).getD k 0) (dn h ((ay h).getD k 0)):=by
 show gU _ _ _=_;unfold gU
 grind
def zt{k:Nat}(f:k<I (ay h)):∃l,h[(ay h).getD k 0]?=some l/\l.aw:=by obtain⟨v,H⟩:=aM f;rw[dz,H,nm];exact qD.1 (aX H)
def GA{l:U}(ok:fY F h)(hl:h[v]?=some l)(hp:l.aw):(ay h).idxOf v<I (ay h)/\(ay h).getD ((ay h).idxOf v) 0=v:=by
 have H:=Qi ok.ax hl hp
 grind
def Vm(ok:fY F h)(y:v<I h)(f:Bool):aO h (rv (aO h (gn (I h) v f)))=dx (I h) v f:=by
 obtain⟨l,hl⟩:=aM y;rcases ok.kinds l (aX hl)with hp|n
 .obtain⟨H,j⟩:=GA ok hl hp;rw[B1 hl hp];by_cases c:(dn h v==f)
  .rw[an c,show 2*I h+2*(ay h).idxOf v=2*(I h+(ay h).idxOf v) by omega,rh,show 2*(I h+(ay h).idxOf v)+1=2*I h+2*(ay h).idxOf v+1 by omega,A_,j];rw[eq_of_beq c]
  rw[ai c];have c:dn h v= !f:=by revert c;cases dn h v<;>cases f<;>simp
  rw[show 2*I h+2*(((ay h).idxOf v+I (ay h)-1)%I (ay h))+1=2*(I h+((ay h).idxOf v+I (ay h)-1)%I (ay h))+1 by omega,y9,
   show 2*(I h+((ay h).idxOf v+I (ay h)-1)%I (ay h))=2*I h+2*(((ay h).idxOf v+I (ay h)-1)%I (ay h)) by omega,Ae,uE H,j,c,AB]
 obtain⟨H,m,u,z,A,x,M⟩:=pE ok.cr hl n;rw[uk hl n,tc,uk u z,H,x,M];cases f<;>cases l.over<;>cases(l.sign==1)<;>rfl
def sB(h:af)(x:Nat):Nat:=
 if 2*I h<=x then(if x%2=0 then(ay h).getD (((x-2*I h)/2+1)%I (ay h)) 0 else(ay h).getD ((x-2*I h)/2) 0)
 else if x%2=0 then(x/2+1)%I h else x/2
def Ah(h:af)(x:Nat):Bool:=decide (2*I h<=x)||(match h[sB h x]? with|some l=>l.aq&&l.over|none=>false)
def kJ(h:af)(i:Nat):Int×Int:=match h[i]? with|some l=>if l.aq then(1,l.id)else(0,i)|none=>(2,0)
theorem FX(H:v<I h)(f:Bool):sB h (gn (I h) v f)=v:=by
 have A:=uB H f;unfold sB;rw[ai J];unfold gn;cases f with
 |true=>simp only[if_true];rw[an J,show 2*((v+I h-1)%I h)/2=(v+I h-1)%I h by omega,uE H]
 |false=>simp only[gJ,if_false];rw[ai J];omega
def XI{l:U}(hl:h[v]?=some l)(f:Bool):Ah h (gn (I h) v f)=(l.aq&&l.over):=by
 have H:=(bd.1 hl).1;have A:=uB H f;unfold Ah;rw[FX H,hl]
 grind
def ZE(k:Nat):sB h (2*I h+2*k)=(ay h).getD ((k+1)%I (ay h)) 0:=by
 unfold sB
 grind
def ajl(k:Nat):sB h (2*I h+2*k+1)=(ay h).getD k 0:=by
 unfold sB
 grind
def Zh(H:2*I h<=x):Ah h x:=by unfold Ah;simp[H]
def X_(ok:fY F h)(A:x<nD h):kJ h (sB h (rv (aO h x)))=kJ h (sB h x)/\Ah h (rv (aO h x))= !Ah h x:=by
 unfold nD at A;rcases KZ x (2*I h)with c|c
 .have j:(if x%2=0 then(x/2+1)%I h else x/2)<I h:=by
   have:=cJ (x/2+1) (show 0<I h by omega);split<;>omega
  rw[My c];generalize(if x%2=0 then(x/2+1)%I h else x/2)=v at j;generalize(x%2==0)=fw;obtain⟨l,hl⟩:=aM j;rw[FX j,XI hl];rcases ok.kinds l (aX hl)with hp|n
  .obtain⟨y,u⟩:=GA ok hl hp;rw[nv hp,B1 hl hp];by_cases d:(dn h v==fw)
   .rw[an d,show 2*I h+2*(ay h).idxOf v=2*(I h+(ay h).idxOf v) by omega,rh,show 2*(I h+(ay h).idxOf v)+1=2*I h+2*(ay h).idxOf v+1 by omega,ajl,u,Zh J];exact⟨rfl,rfl⟩
   rw[ai d,show 2*I h+2*(((ay h).idxOf v+I (ay h)-1)%I (ay h))+1=2*(I h+((ay h).idxOf v+I (ay h)-1)%I (ay h))+1 by omega,y9,
    show 2*(I h+((ay h).idxOf v+I (ay h)-1)%I (ay h))=2*I h+2*(((ay h).idxOf v+I (ay h)-1)%I (ay h)) by omega,ZE,uE y,u,Zh J]
   exact⟨rfl,rfl⟩
  obtain⟨y,m,H,E,B,M,L⟩:=pE ok.cr hl n;have z:=(bd.1 H).1;rw[uk hl n,tc,FX z,XI H];unfold kJ;simp[hl,H,n,E,B,M]
 rw[Zh c];have f:∀k,k<I (ay h)->∀g,kJ h (sB h (rv (dx (I h) ((ay h).getD k 0) g)))=kJ h ((ay h).getD k 0)/\Ah h (rv (dx (I h) ((ay h).getD k 0) g))= !true:=λk D g=>by obtain⟨l,hl,hp⟩:=zt D;rw[tc,FX (bd.1 hl).1,XI hl,nv hp];exact⟨rfl,rfl⟩
 rcases oH x with d|d
 .rw[show x=2*I h+2*((x-2*I h)/2) by omega,Ae,ZE];exact f _ (cJ _ J) _
 rw[show x=2*I h+2*((x-2*I h)/2)+1 by omega,A_,ajl];exact f _ J _
end
def avb{next:Nat->Nat}(A:∀x,x<N->next x<N)(h:∀x,x<N->cg R x (next x)):∀(k x:Nat) (S:fT),x<N->∀y∈(gG next k x S).1,cg R x y:=by
 intro k
 induction k with
 |zero=>intro x S _ y H;simp[gG]at H
 |succ k j=>
  intro x S f y H;unfold gG at H;split at H
  .simp at H
  rcases dt.1 H with rfl|H
  .exact .refl _
  exact(h x f).trans (j _ _ (A x f) y H)
def alM{next:Nat->Nat}(m:za next A N)(h:∀x,x<N->cg R x (next x)):∀k,k<=N->∀w∈(fi next N k).1,∀x∈w,∀y∈w,cg R x y:=by
 intro k
 induction k with
 |zero=>intro _ w H;simp[fi]at H
 |succ k v=>
  intro u w H x n y j;rw[yJ]at H;unfold u6 at H;split at H
  .grind
  rcases iR.1 H with H|H
  .grind
  simp at H;subst H;have f:=avb m.lt h ((fi next N k).2.length+1) k (fi next N k).2 J;exact(f x n).symm.trans (f y j)
def av9{next:Nat->Nat}(m:za next A N):∀k,k<=A->∀w∈(fi next N k).1,∀x∈w,next x∈w:=by
 intro k
 induction k with
 |zero=>intro _ w h;simp[fi]at h
 |succ k y=>
  intro H w h x n;obtain⟨f,_⟩:=Ps m k J;obtain⟨c1,_⟩:=Ps m (k+1) H;rw[yJ]at h c1;unfold u6 at h c1;cases ae:(fi next N k).2.getD k true with
  |true=>grind
  |false=>
   rw[ae,ai aa]at h c1;rcases iR.1 h with h|h
   .grind
   simp only[nY]at h;subst h;obtain⟨g1,u,z⟩:=aie next ((fi next N k).2.length+1) k (fi next N k).2;have E:x<N:=by grind [FZ]
   have j:=f x E;have v:=c1 x E
   grind
theorem yO{next:Nat->Nat}(m:za next A N){w:aC}(h:w∈fF next N)(H:x∈w):next x∈w:=by unfold fF at h;rw[Vp m N m.le (ct _)]at h;exact av9 m A (ct _) w h x H
def Ru{next:Nat->Nat}(m:za next A N)(h:∀x,x<N->cg R x (next x)){w:aC}(H:w∈fF next N){x:Nat}(j:x∈w)(f:y∈w):cg R x y:=alM m h N (ct _) w H x j y f
def w8(L:List aC)(x:Nat):Nat:=L.findIdx λw=>w.contains x
theorem Ha{L:List aC}(h:L.flatten.Nodup){i:Nat}{w:aC}(H:L[i]?=some w)(f:x∈w):w8 L x=i:=by exact T8 h (re (aau ⟨w,aX H,by simpa using f⟩)) H (by grind) f
def adV:∀ {L:List aC},L.flatten.Nodup->(∀w∈L,w≠[])->((L.map (·.headD 0)).map (w8 L))=List.range (I L):=by
 intro L h A;apply nj;intro i;rw[dy,dy];by_cases H:i<I L
 .have e:=re H;rw[e,sy H];simp;rw[Ha h e (by
   cases f:L[i]with
   |nil=>exact absurd f (A _ (aX e))
   |cons a r=>simp)]
 grind
def aeq{α:Type}{f:Nat->α×Bool}{g:Nat->α}{c:Nat->Bool}(j:∀x,f (2*x)=(g x,c x))(n:∀x,f (2*x+1)=(g x,!c x)):∀ {L:aC},(L.map g).Nodup->((L.flatMap λx=>[2*x,2*x+1]).map f).Nodup:=by
 intro L
 induction L with
 |nil=>intro _;exact qX
 |cons a L v=>
  intro h;rw[eQ,qH]at h;have E:∀b,(g a,b)∉(L.flatMap λx=>[2*x,2*x+1]).map f:=by
   intro b m;obtain⟨y,H,e⟩:=cD.1 m;obtain⟨x,u,H⟩:=sY.1 H;have:g x=g a:=by
    simp only[dt,gH,or_false]at H;rcases H with rfl|rfl
    .rw[j]at e;exact congrArg Prod.fst e
    rw[n]at e;exact congrArg Prod.fst e
   grind
  grind
def afV:∀L:aC,I (L.flatMap λx=>[2*x,2*x+1])=2*I L:=by
 intro L
 induction L with
 |nil=>rfl
 |cons a L f=>rw[List.flatMap_cons,fU,f];simp;omega
def ZW(h:∀x∈L,x<N):∀y∈(L.flatMap λx=>[2*x,2*x+1]),y<2*N:=by grind
def iD (b:Bool)(s:Nat):Nat:=if b then 1-s else s
def AY{b:Bool}{s:Nat}(h:s<2):iD b s<2:=by unfold iD;split<;>omega
def Ig{b:Bool}{s:Nat}(h:s<2):iD b (iD b s)=s:=by unfold iD;cases b<;>simp;omega
def pN(p:Nat->Bool)(y:Nat):Nat:=2*rv (y/2)+iD (p (y/2)) (y%2)
def s5(p:Nat->Bool)(nx:Nat->Nat)(y:Nat):Nat:=2*nx (rv (y/2))+iD (p (y/2)) (y%2)
def um(p:Nat->Bool)(k:Nat):pB:=(List.range k).flatMap λe=>[(4*e,pN p (4*e)),(4*e+1,pN p (4*e+1))]
theorem He(p:Nat->Bool)(e:Nat):pN p (4*e)=if p (2*e)then 4*e+3 else 4*e+2:=by unfold pN iD;rw[show 4*e/2=2*e by omega,rh,show 4*e%2=0 by omega];split<;>omega
theorem Iu(p:Nat->Bool)(e:Nat):pN p (4*e+1)=if p (2*e)then 4*e+2 else 4*e+3:=by unfold pN iD;rw[show(4*e+1)/2=2*e by omega,rh,show _%2=1 by omega];split<;>omega
def agu{p:Nat->Bool}(hp:∀x,p (rv x)=p x)(e:Nat):pN p (4*e+2)=if p (2*e)then 4*e+1 else 4*e:=by unfold pN iD;rw[show _/2=2*e+1 by omega,y9,show _%2=0 by omega,<-hp (2*e),rh];split<;>omega
def agF{p:Nat->Bool}(hp:∀x,p (rv x)=p x)(e:Nat):pN p (4*e+3)=if p (2*e)then 4*e else 4*e+1:=by unfold pN iD;rw[show _/2=2*e+1 by omega,y9,show _%2=1 by omega,<-hp (2*e),rh];split<;>omega
def agG(p:Nat->Bool)(k:Nat):um p (k+1)=um p k++[(4*k,pN p (4*k)),(4*k+1,pN p (4*k+1))]:=by unfold um;rw[mD,List.flatMap_append];simp
def aAm(p:Nat->Bool)(k:Nat):I (um p k)=2*k:=by
 induction k with
 |zero=>rfl
 |succ k f=>rw[agG,fU,f];simp;omega
def asF(p:Nat->Bool)(k:Nat):∀t∈um p k,t.1<4*k/\t.2<4*k:=by
 intro t H;obtain⟨e,f,h⟩:=sY.1 H;simp[dt,gH,or_false,He,Iu]at h
 grind
def avU(p:Nat->Bool){k e:Nat}(h:e<k):(4*e,pN p (4*e))∈um p k/\(4*e+1,pN p (4*e+1))∈um p k:=
 ⟨sY.2 ⟨e,fA.2 h,aH⟩,sY.2 ⟨e,fA.2 h,aH⟩⟩
def akN{p:Nat->Bool}(hp:∀x,p (rv x)=p x)(q:Nat->Nat):∀k y,(um p k).foldl tr q y=if y<4*k then q (pN p y)else q y:=by
 intro k
 induction k with
 |zero=>intro y;simp[um]
 |succ k f=>
  intro y;rw[agG,zx,zg,zg,LV,JG,JG,f,He,Iu];by_cases c:y<4*k
  .grind
  have h:=agu hp k;have m:=agF hp k;have A:=He p k;have j:=Iu p k
  grind
def ayI{p:Nat->Bool}(hp:∀x,p (rv x)=p x)(nx:Nat->Nat){k:Nat}(h:y<4*k):(um p k).foldl tr (s5 p nx) y=2*nx (y/2)+y%2:=by
 rw[akN hp,an h];unfold s5;have hf:iD (p (y/2)) (y%2)<2:=AY J;have f:pN p y/2=rv (y/2):=by unfold pN;omega
 have H:pN p y%2=iD (p (y/2)) (y%2):=by unfold pN;omega
 rw[f,H,tp,hp,Ig J]
def Ys{α β:Type}{P:α->β->Prop}{f:β->α}(hf:∀a b,P a b->f b=a):∀ {L:List α},(∀a∈L,∃b,P a b)->∃M:List β,M.map f=L/\ ∀b∈M,∃a∈L,P a b:=by
 intro L
 induction L with
 |nil=>intro _;exact⟨[],rfl,aH⟩
 |cons a L m=>
  intro h;obtain⟨b,j⟩:=h a aH;obtain⟨M,n,u⟩:=m λx H=>h x (by simp[H]);refine⟨b::M,by rw[eQ,n,hf a b j],λx H=>?_⟩
  grind
section
variable {F:Nat} {h:af}
def ayk(ok:fY F h):(ay h).Nodup:=by
 have:=ZF ok.ax (I h) (ct _);refine T_ (λ{a b} H e=>?_) this
 grind
def Ve(ok:fY F h):I h=au U.aw h+au U.aq h:=by
 have:∀l:af,(∀x∈l,x.aw\/x.aq)->I l=au U.aw l+au U.aq l:=by
  intro l
  induction l with
  |nil=>intro _;rfl
  |cons a l f=>
   intro j;have f:=f λx H=>j x (by simp[H]);unfold au at f |-;rw[CY,CY,fG,f];rcases j a aH with c|c
   .rw[c,nv c];simp;omega
   have:a.aw=false:=by cases hp:a.aw;rfl;rw[nv hp]at c;cases c
   grind
 exact this h ok.kinds
def afT(ok:fY F h):∃L:aC,I L=au U.aw h+au U.aq h/2/\(∀j∈L,j<I h)/\(L.map (kJ h)).Nodup:=by
 have x:=ok.cr;unfold lA at x;simp only[cN,cW]at x;have v:=x.2
 let ids:ji:=(fx h (I h)).map λid=>(1,id)
 have A:∀a∈ids,∃j,(kJ h j=a/\j<I h):=by intro a N;obtain⟨id,n,rfl⟩:=cD.1 N;obtain⟨j,o,H,B⟩:=(Gw (ct _)).1 n;obtain⟨m,E,O,D,_⟩:=CI B;refine⟨j,?_,H⟩;unfold kJ;rw[E];simp[O,D]
 obtain⟨M,y,z⟩:=Ys (P:=λa j=>kJ h j=a/\j<I h) (f:=kJ h) (λa b u=>u.1) A;have kI:∀i∈ay h,i<I h/\kJ h i=(0,(i:Int)):=λi n=>by obtain⟨l,hl,hp⟩:=qD.1 n;refine⟨(bd.1 hl).1,?_⟩;unfold kJ;rw[hl];simp[nv hp]
 refine⟨ay h++M,?_,λj H=>?_,?_⟩
 .have:I M=I (fx h (I h)):=by
   have:=congrArg List.length y
   simpa [ids]using this
  rw[fU,this,v,Br]
 .rcases iR.1 H with H|H
  .exact(kI j H).1
  obtain⟨_,_,u⟩:=z j H;exact u.2
 rw[fE,y,S6];refine⟨?_,?_,?_⟩
 .have:(ay h).map (kJ h)=(ay h).map λi:Nat=>((0:Int),(i:Int)):=kD λi n=>(kI i n).2;rw[this];refine wE.2 (T_ (λ{a b} u e=>u ?_) (ayk ok));have:=congrArg Prod.snd e;simp only at this;omega
 .refine wE.2 (T_ (λ{a b} u e=>u ?_) (R4 h (I h)));exact congrArg Prod.snd e
 grind
def ax9(ok:fY F h)(p:Nat->Bool):sJ (2*nD h) (s5 p (aO h)):=by
 have m:=n0 ok;have n:nD h=2*(I h+I (ay h)):=by unfold nD;omega
 have f:∀y,y<2*nD h->rv (y/2)<nD h:=λy H=>by rw[n];exact tD J
 have hf:∀y,iD (p (y/2)) (y%2)<2:=λy=>AY J;refine⟨λy H=>?_,λx y u H e=>?_⟩
 .have:=m.lt _ (f y H);have:=hf y;unfold s5;omega
 unfold s5 at e;have:=hf x;have:=hf y;have j:x/2=y/2:=by rw[<-tp (x/2),m.inj _ _ (f x u) (f y H) J,tp]
 have E:iD (p (x/2)) (x%2)=iD (p (y/2)) (y%2):=J;rw[j]at E;have v:x%2=y%2:=by rw[<-Ig (s:=x%2) J,E,Ig J]
 omega
end
section
variable {F:Nat} {h:af} {p:Nat->Bool}
abbrev wc(ls:af)(p:Nat->Bool):Nat->Nat->Prop:=yh (2*nD ls) (s5 p (aO ls)) (um p (I ls+I (ay ls)))
def Dk(h:af):nD h=2*(I h+I (ay h)):=by unfold nD;omega
def aun(hp:∀x,p (rv x)=p x)(m:y<2*nD h):cg (wc h p) y (pN p y):=by
 have n:=Dk h;obtain⟨j,H⟩:=avU p (k:=I h+I (ay h)) (e:=y/4) J;have r1:cg (wc h p) _ _:=.rel (.inr j);have R:cg (wc h p) _ _:=.rel (.inr H);have A:=agu hp (y/4);have f:=agF hp (y/4);rcases(by omega:y=4*(y/4)\/y=4*(y/4)+1\/y=4*(y/4)+2\/y=4*(y/4)+3)with e|e|e|e
 .rw[<-e]at r1;exact r1
 .rw[<-e]at R;exact R
 .rw[<-e]at A;rw[A];rw[He]at r1;rw[Iu]at R;by_cases c:p (2*(y/4))
  .rw[an c]at R |-;rw[<-e]at R;exact R.symm
  rw[ai c]at r1 |-;rw[<-e]at r1;exact r1.symm
 rw[<-e]at f;rw[f];rw[He]at r1;rw[Iu]at R;by_cases c:p (2*(y/4))
 .rw[an c]at r1 |-;rw[<-e]at r1;exact r1.symm
 rw[ai c]at R |-;rw[<-e]at R;exact R.symm
def Lm(hp:∀x,p (rv x)=p x){x s:Nat}(H:x<nD h)(ae:s<2):cg (wc h p) (2*x+s) (2*rv x+iD (p x) s):=by
 have:=aun (h:=h) hp (y:=2*x+s) J;unfold pN at this
 grind
def LX(hp:∀x,p (rv x)=p x){x s:Nat}(f:x<nD h)(ae:s<2):cg (wc h p) (2*x+s) (2*aO h x+s):=by
 have H:=Dk h;have hf:iD (p x) s<2:=AY ae;refine(Lm hp f ae).trans (.rel (.inl ⟨?_,?_⟩))
 .have:rv x<nD h:=by rw[H];exact tD J
  omega
 unfold s5;rw[show _/2=rv x by omega,show _%2=iD (p x) s by omega,tp,hp,Ig ae]
def Ag(h:af)(p:Nat->Bool)(x:Nat):Prop:= ∃b,∀s,s<2->cg (wc h p) (2*x+s) (iD b s)
def am7(h:af)(p:Nat->Bool):Ag h p 0:=⟨false,λs _=>by rw[show 2*0+s=s by omega];exact .refl _⟩
def adW(a b:Bool){s:Nat}(h:s<2):iD a (iD b s)=iD (a !=b) s:=by unfold iD;cases a<;>cases b<;>simp;omega
def aiF(hp:∀x,p (rv x)=p x){x:Nat}(j:x<nD h)(H:Ag h p x):Ag h p (rv x):=by obtain⟨b,H⟩:=H;refine⟨b !=p x,λs ae=>?_⟩;have f:=(Lm hp j (AY ae)).symm.trans (H (iD (p x) s) (AY ae));rwa[Ig ae,adW _ _ ae]at f
def afH(hp:∀x,p (rv x)=p x){x:Nat}(f:x<nD h)(H:Ag h p x):Ag h p (aO h x):=by obtain⟨t,H⟩:=H;exact⟨t,λs ae=>(LX hp f ae).symm.trans (H s ae)⟩
def aqo(hp:∀x,p (rv x)=p x){x:Nat}(f:x<nD h)(H:Ag h p (aO h x)):Ag h p x:=by obtain⟨t,H⟩:=H;exact⟨t,λs ae=>(LX hp f ae).trans (H s ae)⟩
def Vb(hp:∀x,p (rv x)=p x)(ok:fY F h){x:Nat}(n:x<nD h):Ag h p x:=by
 have m:=n0 ok;have E:=Dk h;have z:∀y,y<nD h->rv y<nD h:=λy H=>by rw[E]at H |-;exact tD H
 have f:∀i,i<I h->Ag h p (2*i):=by
  intro i
  induction i with
  |zero=>intro _;exact am7 h p
  |succ i L=>
   intro D;have A:=L J;have j:2*i<nD h:=J;have B:=afH hp j A;have u:=m.lt _ j;have v:=afH hp (z _ u) (aiF hp u B);have e:2*i=gn (I h) (i+1) true:=by unfold gn;rw[an rfl,show i+1+I h-1=i+I h by omega,mT,eN J]
   rw[e,Vm ok D]at v;exact v
 have str:∀y,y<2*I h->Ag h p y:=λy H=>by
  rcases oH y with c|c
  .rw[show y=2*(y/2) by omega];exact f _ J
  have:=aiF hp (x:=2*(y/2)) J (f (y/2) J);rw[rh]at this
  grind
 rcases KZ x (2*I h)with c|c
 .exact str x c
 exact aqo hp n (str _ (m.ax x n c))
def aec(g:a_ F h)(hp:∀x,p (rv x)=p x){c:Nat->Bool}(hc:∀x,x<nD h->c (rv (aO h x))=(c x !=p x)):¬cg (wc h p) 0 1:=by
 intro A;have ok:=g.ok;have hN:=Dk h;have F1:∀y,y<nD h->rv y<nD h:=λy H=>by rw[hN]at H |-;exact tD H
 obtain⟨O,Rs⟩:=yZ (aO h) (nD h);have E:=ad1 (um p (I h+I (ay h))) (s5 p (aO h)) (ax9 ok p) (λt v=>by have:=asF p _ t v;omega)
 rw[aAm]at E;have K1:aY (cg (wc h p)) (2*nD h)<=1:=ajk λy H=>by
  obtain⟨b,v⟩:=Vb hp ok (x:=y/2) J;have e:=v (y%2) J;rw[show 2*(y/2)+y%2=y by omega]at e;have hf:iD b (y%2)<2:=AY J;rcases(by omega:iD b (y%2)=0\/iD b (y%2)=1)with k|k
  .rw[k]at e;exact e
  rw[k]at e;exact e.trans A.symm
 have K2:2*fp h<=aY (cg (gY (2*nD h) ((um p (I h+I (ay h))).foldl tr (s5 p (aO h))))) (2*nD h):=by
  have z:∀w∈fF (aO h) (nD h),w≠[]:=λw B=>by obtain⟨⟨d,t,e,_⟩,_⟩:=zn ok w B;rw[e];simp
  have:=PW (R:=gY (2*nD h) ((um p (I h+I (ay h))).foldl tr (s5 p (aO h)))) (f:=λy=>(w8 (fF (aO h) (nD h)) (y/2),decide (y%2=1))) (n:=2*nD h)
   (j:=((fF (aO h) (nD h)).map (·.headD 0)).flatMap λx=>[2*x,2*x+1]) ?_ ?_ ?_
  .rw[afV,bG]at this;exact this
  .rintro a b ⟨ha,rfl⟩
   rw[ayI hp _ J];have H:a/2<nD h:=J;obtain⟨u,Q,m⟩:=BH.1 (Rs _ H);obtain⟨i,T⟩:=fX Q;simp only[show(2*aO h (a/2)+a%2)/2=aO h (a/2) by omega,show(2*aO h (a/2)+a%2)%2=a%2 by omega];rw[Ha O T m,Ha O T (yO (n0 ok) Q m)]
  .refine ZW λx D=>?_;obtain⟨w,B,rfl⟩:=cD.1 D;obtain⟨⟨d,t,e,hd⟩,_⟩:=zn ok w B;rw[e];simp only[List.headD_cons];omega
  refine aeq (g:=w8 (fF (aO h) (nD h))) (c:=λ_=>false) (λx=>?_) (λx=>?_) ?_
  .simp only[show 2*x/2=x by omega,show 2*x%2=0 by omega];simp
  .simp only[show(2*x+1)/2=x by omega,show(2*x+1)%2=1 by omega];simp
  rw[adV O z];exact B0
 have K3:2*(au U.aw h+au U.aq h/2)<=aY (cg (gY (2*nD h) (s5 p (aO h)))) (2*nD h):=by
  obtain⟨L,l1,X,l3⟩:=afT ok;have:=PW (R:=gY (2*nD h) (s5 p (aO h))) (f:=λy=>(kJ h (sB h (rv (y/2))),(c (rv (y/2))!=decide (y%2=1)))) (n:=2*nD h)
   (j:=(L.map (2* ·)).flatMap λx=>[2*x,2*x+1]) ?_ ?_ ?_
  .rw[afV,bG,l1]at this;exact this
  .rintro a b ⟨ha,rfl⟩
   have H:rv (a/2)<nD h:=F1 _ J;have Z:=(X_ ok H).1;have Y:=hc _ H;have hf:iD (p (a/2)) (a%2)<2:=AY J;unfold s5;simp only[show(2*aO h (rv (a/2))+iD (p (a/2)) (a%2))/2=aO h (rv (a/2)) by omega,show(2*aO h (rv (a/2))+iD (p (a/2)) (a%2))%2=iD (p (a/2)) (a%2) by omega,Z,Y,hp];rcases oH a with k|k<;>rw[k]<;>cases c (rv (a/2))<;>cases p (a/2)<;>rfl
  .refine ZW λx D=>?_;obtain⟨j,M,rfl⟩:=cD.1 D;have:=X j M;omega
  refine aeq (g:=λx=>kJ h (sB h (rv x))) (c:=λx=>c (rv x)) (λx=>?_) (λx=>?_) ?_
  .simp only[show 2*x/2=x by omega,show 2*x%2=0 by omega];simp
  .simp only[show(2*x+1)/2=x by omega,show(2*x+1)%2=1 by omega];simp
  rw[gi];have:L.map ((λx=>kJ h (sB h (rv x))) ∘ (2* ·))=L.map (kJ h):=kD λj M=>by have:=FX (h:=h) (X j M) false;simp only[Function.comp_apply,rh];rw[show 2*j+1=gn (I h) j false from rfl,this]
  rw[this];exact l3
 have ab:=Ve ok;have kI:=Br (h:=h);have Kz:=g.nw;have N:=ok.cr;unfold lA at N;simp only[cN,cW]at N;have eD:=N.1.1;have E:aY (cg (gY (2*nD h) ((um p (I h+I (ay h))).foldl tr (s5 p (aO h))))) (2*nD h)+aY (cg (gY (2*nD h) (s5 p (aO h)))) (2*nD h)<=2*aY (cg (wc h p)) (2*nD h)+2*(I h+I (ay h)):=E;omega
def aen(g:a_ F h)(hp:∀x,p (rv x)=p x){w:aC}(f:w∈fF (aO h) (nD h)){x s:Nat}(j:x∈w)(H:y∈w)(ae:s<2):cg (wc h p) (2*x+s) (2*y+s):=by
 have base:∀a b,cg (λu v=>cg (wc h p) (2*u+s) (2*v+s)) a b->cg (wc h p) (2*a+s) (2*b+s):=by
  intro a b n
  induction n with
  |rel r=>exact r
  |refl a=>exact .refl _
  |symm _ m=>exact m.symm
  |trans _ _ i1 i2=>exact i1.trans i2
 exact base _ _ (Ru (n0 g.ok) (λy H=>.rel (LX hp H ae)) f j H)
def aqO(g:a_ F h)(hp:∀x,p (rv x)=p x){c:Nat->Bool}(f:∀x,x<nD h->c (rv (aO h x))=(c x !=p x)){x:Nat}(j:x<nD h)(m:cg (wc h p) (2*x+0) (2*x+1)):False:=by
 obtain⟨b,H⟩:=Vb hp g.ok j;have E:=(H 0 aa).symm.trans (m.trans (H 1 aa));refine aec g hp f ?_;cases b with
 |true=>exact E.symm
 |false=>exact E
def aa6(g:a_ F h)(H:x<nD h){w:aC}(f:w∈fF (aO h) (nD h))(m:x∈w)(j:rv x∈w):False:=by
 have hp:∀x:Nat,(λ_:Nat=>true) (rv x)=(λ_:Nat=>true) x:=λ_=>rfl;have n:∀x,x<nD h->Ah h _=(Ah h x !=(λ_:Nat=>true) x):=λx H=>by rw[(X_ g.ok H).2];cases Ah h x<;>rfl
 exact aqO g hp n H ((aen g hp f m j aa).trans (Lm hp H (s:=1) aa).symm)
end
section
variable {F:Nat} {h:af}
def r6(h:af)(x:Nat):Bool:=decide (2*I h<=x)
def z_(h:af)(x:Nat):Bool:=if 2*I h<=x then x%2==1 else match h[sB h x]? with|some l=>l.aw&&(dn h (sB h x)==(x%2==0))|none=>false
def acB(x:Nat):r6 h (rv x)=r6 h x:=by
 unfold r6 rv
 grind
theorem Qk{l:U}(hl:h[v]?=some l)(f:Bool):z_ h (gn (I h) v f)=(l.aw&&(dn h v==f)):=by
 have A:=uB ((bd.1 hl).1) f
 grind [z_,FX,gn]
def anw(ok:fY F h)(j:x<nD h):z_ h (rv (aO h x))=(z_ h x !=r6 h x):=by
 unfold nD at j;rcases KZ x (2*I h)with c|c
 .have H:r6 h x=false:=by unfold r6;simp;omega
  rw[H];have f:(if x%2=0 then(x/2+1)%I h else x/2)<I h:=by have:=cJ (x/2+1) (show 0<I h by omega);split<;>omega
  rw[My c];generalize(if x%2=0 then(x/2+1)%I h else x/2)=v at f;generalize(x%2==0)=fw;obtain⟨l,hl⟩:=aM f;rw[Qk hl];rcases ok.kinds l (aX hl)with hp|y
  .obtain⟨u,A⟩:=GA ok hl hp;rw[B1 hl hp,hp];by_cases d:(dn h v==fw)
   .rw[an d,d,show 2*I h+2*(ay h).idxOf v=2*(I h+(ay h).idxOf v) by omega,rh]
    grind [z_]
   rw[ai d,Bool.eq_false_iff.2 d,show 2*I h+2*(((ay h).idxOf v+I (ay h)-1)%I (ay h))+1=2*(I h+((ay h).idxOf v+I (ay h)-1)%I (ay h))+1 by omega,y9]
   grind [z_]
  obtain⟨u,m,D,E,B,z,M⟩:=pE ok.cr hl y
  grind [nv,uk,tc,Qk]
 have H:r6 h x:=by unfold r6;simpa using c
 rw[H];rcases oH x with d|d
 .obtain⟨l,hl,hp⟩:=zt (cJ ((x-2*I h)/2+1) (show 0<I (ay h) by omega));have e:z_ h x=false:=by unfold z_;rw[an c,d];rfl
  rw[e,show x=2*I h+2*((x-2*I h)/2) by omega,Ae,tc,AB];rw[Qk hl,hp];simp
 have n:(x-2*I h)/2<I (ay h):=J;obtain⟨l,hl,hp⟩:=zt n;have e:z_ h x:=by unfold z_;rw[an c,d];rfl
 rw[e,show x=2*I h+2*((x-2*I h)/2)+1 by omega,A_,tc]
 grind [Qk]
abbrev T0(ls:af):Nat->Nat->Prop:=wc ls (r6 ls)
def aeA(g:a_ F h){s:Nat}(v:x<2*I h)(ae:s<2):cg (T0 h) (2*x+s) (iD (dn h (x/2+1)!=dn h 1) s):=by
 have ok:=g.ok;have N:=Dk h;have hp:=acB (h:=h);have str:∀y,y<2*I h->r6 h y=false:=λy R=>by unfold r6;simp;omega
 have f:∀i,i<I h->∀s,s<2->cg (T0 h) (2*(2*i)+s) (iD (dn h (i+1)!=dn h 1) s):=by
  intro i
  induction i with
  |zero=>intro _ s _;simp only[jO];cases dn h 1<;>(rw[show 2*(2*0)+s=s by omega];exact .refl _)
  |succ i M=>
   intro z s ae;obtain⟨l,hl⟩:=aM z;have e:2*i=gn (I h) (i+1) true:=by unfold gn;rw[an rfl,show i+1+I h-1=i+I h by omega,mT,eN J]
   have D:=Vm ok z true;rw[<-e]at D;have H:2*i<nD h:=J;have m:=(n0 ok).lt _ H;have step:∀t,t<2->cg (T0 h) (2*(2*i)+t) (2*(2*(i+1))+iD (r6 h (aO h (2*i))) t):=λt j=>by have A:=LX hp (by rw[N]at m |-;exact tD m) (s:=iD (r6 h (aO h (2*i))) t) (AY j);rw[D]at A;exact(LX hp H j).trans ((Lm hp m j).trans A)
   have n:=(step (iD (r6 h (aO h (2*i))) s) (AY ae)).symm.trans (M J (iD (r6 h (aO h (2*i))) s) (AY ae));rw[Ig ae,adW _ _ ae]at n;rcases ok.kinds l (aX hl)with u|B
   .have Q:=(GA ok hl u).1;have v:r6 h (aO h (2*i)):=by
     rw[e,B1 hl u];unfold r6;simp only[jn];split<;>omega
    rw[v]at n;rw[Dy hl u];have:((dn h (i+1)!=dn h 1)!=true)=((!dn h (i+1))!=dn h 1):=by cases dn h (i+1)<;>cases dn h 1<;>rfl
    rwa[this]at n
   obtain⟨_,w,E,O,_⟩:=pE ok.cr hl B;have v:r6 h (aO h (2*i))=false:=by rw[e,uk hl B];exact str _ (Gy (bd.1 E).1)
   grind [JJ,nv,dn]
 rcases oH x with c|c
 .have:=f (x/2) J s ae;rwa[show 2*(x/2)=x by omega]at this
 have H:=Lm (h:=h) hp (x:=2*(x/2)) J ae;rw[rh,str _ J]at H;have L:iD false s=s:=rfl;rw[L,show 2*(x/2)+1=x by omega]at H;exact H.symm.trans (f (x/2) J s ae)
theorem Y7(g:a_ F h){w:aC}(f:w∈fF (aO h) (nD h))(H:x∈w)(j:y∈w)(u:x<2*I h)(m:y<2*I h):dn h (x/2+1)=dn h (y/2+1):=by have hp:=acB (h:=h);have E:=(aeA g u aa).symm.trans ((aen g hp f H j aa).trans (aeA g m (s:=0) aa));have n:=aec g hp λx H=>anw g.ok H;revert E;cases dn h _<;>cases dn h (y/2+1)<;>cases dn h 1<;>intro E<;>first|rfl|exact absurd E n|exact absurd E.symm n
end
def Z5{next:Nat->Nat}(m:za next A N){α:Type}{φ:Nat->α}(F:∀x,x<N->φ (next x)=φ x){R:aC}(Q:∀x∈R,x<N)(M:(R.map φ).Nodup):I R<=I (fF next N):=by
 have O:=yZ next N;have T:∀x,x<N->∃(i:Nat) (w:aC),(fF next N)[i]?=some w/\x∈w/\w8 (fF next N) x=i:=λx n=>by obtain⟨w,hw,B⟩:=BH.1 (O.2 x n);obtain⟨i,H⟩:=fX hw;exact⟨i,w,H,B,Ha O.1 H B⟩
 have f:∀a b,cg (λx y=>x<N/\y=next x) a b->φ a=φ b:=λa b h=>by
  induction h with
  |rel h=>rw[h.2,F _ h.1]
  |refl _=>rfl
  |symm _ ih=>exact ih.symm
  |trans _ _ E u=>exact E.trans u
 have Y:∀x,x<N->∀y,y<N->w8 (fF next N) x=w8 (fF next N) y->φ x=φ y:=λx n y L e=>by obtain⟨i,w,H,B,e1⟩:=T x n;obtain⟨j,v,X,D,Z⟩:=T y L;rw[e1,Z]at e;subst e;rw[H]at X;cases X;exact f x y (Ru m (λz hz=>.rel ⟨hz,rfl⟩) (aX H) B D)
 have E:(R.map (w8 (fF next N))).Nodup:=by unfold List.Nodup at M |-;rw[wE]at M |-;refine M.imp_of_mem λ{x y} n L h e=>?_;exact h (Y x (Q x n) y (Q y L) e)
 have u:∀i∈R.map (w8 (fF next N)),i∈List.range (I (fF next N)):=λi H=>by grind
 have:=Ij _ _ E u;rwa[bG,rY]at this
def ajC(h:∀x,x<n->∃r∈L,cg R x r):aY (cg R) n<=I L:=by
 have f:∀M:aC,M.Nodup->(∀x∈M,x<n/\s7 (cg R) x)->∃N:aC,I N=I M/\N.Nodup/\ ∀r∈N,r∈L/\ ∃x∈M,cg R x r:=by
  intro M
  induction M with
  |nil=>intro _ _;exact⟨[],rfl,qX,aH⟩
  |cons a M O=>
   intro D j;obtain⟨Z,A⟩:=qH.1 D;obtain⟨N,m,u,v⟩:=O A λx H=>j x (by simp[H]);obtain⟨F,B⟩:=j a aH;obtain⟨r,y,e⟩:=h a F;refine⟨r::N,by simp[m],qH.2 ⟨λT=>?_,u⟩,λq Y=>?_⟩
   .obtain⟨_,x,H,E⟩:=v r T;have X:=B x (e.trans E.symm);have e2:=(j x (by simp[H])).2 a (E.trans e.symm)
    grind
   grind
 obtain⟨N,m,u,v⟩:=f _ (B0.filter _) λx H=>by obtain⟨Q,z⟩:=pg.1 H;exact⟨fA.1 Q,HI.1 z⟩
 unfold aY;rw[LJ,<-m];exact Ij _ _ u λr y=>(v r y).1
def Om(p:Nat->Nat)(x:Nat):∀i j,it p (i+j) x=it p i (it p j x):=by
 intro i j
 induction i with
 |zero=>rw[jO];rfl
 |succ i f=>rw[show i+1+j=(i+j)+1 by omega];show p _=p _;rw[f]
def arp{p:Nat->Nat}(h:it p m x=x):∀k,it p (k*m) x=x:=by
 intro k
 induction k with
 |zero=>rw[CD];rfl
 |succ k f=>rw[Nat.succ_mul,Om,h,f]
def ayD{p:Nat->Nat}(h:sJ n p){a b:Nat}(e:cg (gY n p) a b):a=b\/(a<n/\b<n/\ ∃k,it p k a=b):=by
 induction e with
 | @rel a b r=>obtain⟨H,rfl⟩:=r;exact .inr ⟨H,h.lt _ H,1,rfl⟩
 |refl _=>exact .inl rfl
 | @symm a b _ y=>
  rcases y with rfl|⟨H,u,k,f⟩
  .exact .inl rfl
  obtain⟨m,v⟩:=h.abz H;refine .inr ⟨u,H,k*m,?_⟩;rw[<-f,<-Om,show k*m+k=k*(m+1) by rw[Nat.mul_succ]];exact arp v k
 |trans _ _ i1 i2=>
  rcases i1 with rfl|⟨H,u,k,f⟩
  .exact i2
  rcases i2 with rfl|⟨_,z,j,x⟩
  .grind
  exact .inr ⟨H,z,j+k,by rw[Om,f,x]⟩
theorem aop{p:Nat->Nat}(h:sJ n p){a b:Nat}(D:a≠b)(e:cg (gY n p) a b):¬cg (gY n (tr p (a,b))) a b:=by
 rcases ayD h e with F|⟨v,z,L,M⟩
 .exact absurd F D
 obtain⟨k,H,R⟩:=abg (p:=λk=>it p k a=b) L M;have k1:1<=k:=by
  rcases Nat.eq_zero_or_pos k with rfl|h
  .exact absurd H D
  exact h
 have N:∀j,1<=j->j<=k->it p j a≠a:=λj u m E=>by
  rcases Nat.lt_or_eq_of_le m with c|rfl
  .have:it p (k-j) a=b:=by
    rw[<-H,show k=(k-j)+j by omega,Om,E];congr 1;omega
   have:=R _ this;omega
  exact D (E.symm.trans H)
 have B:∀j,j<k->it p j a≠b:=λj u E=>by have:=R j E;omega
 intro O;have inv:∀x y,gY n (tr p (a,b)) x y->(∃j,1<=j/\j<=k/\x=it p j a)=(∃j,1<=j/\j<=k/\y=it p j a):=by
  rintro x y ⟨A,rfl⟩
  apply propext;unfold tr;simp only;constructor
  .rintro ⟨j,u,m,rfl⟩
   rw[ai (N j u m)];by_cases c:it p j a=b
   .rw[an c];exact⟨1,J,k1,rfl⟩
   rw[ai c];refine⟨j+1,J,?_,rfl⟩;rcases Nat.lt_or_eq_of_le m with d|rfl
   .exact d
   exact absurd H c
  by_cases c:x=a
  .rw[an c];rintro⟨j,u,m,E⟩
   exfalso;have:=h.inj _ _ z (h.Il v (j-1)) (by rw[E,show j=(j-1)+1 by omega];rfl);by_cases d:j=1
   .subst d;exact D this.symm
   exact B (j-1) J this.symm
  rw[ai c];by_cases d:x=b
  .subst d;intro _;exact⟨k,k1,ct _,H.symm⟩
  rw[ai d];rintro⟨j,u,m,E⟩
  have:=h.inj _ _ A (h.Il v (j-1)) (by rw[E,show j=(j-1)+1 by omega];rfl);by_cases f:j=1
  .subst f;exact absurd this c
  exact⟨j-1,J,J,this⟩
 have:=O.inv inv
 grind
def amF{p:Nat->Nat}(h:sJ n p){a b:Nat}(H:a<n)(f:b<n)(D:a≠b):(aY (cg (gY n (tr p (a,b)))) n+aY (cg (gY n p)) n)%2=1:=by
 have one:∀x y,cg (sv (gY n (tr p (a,b))) a b) x y↔cg (sv (gY n p) a b) x y:=λx y=>by
  have h:=Y1 (p:=p) (S:=λ_ _=>False) H f (x:=x) (y:=y)
  grind
 have j:=GQ one n;rcases Classical.em (cg (gY n p) a b)with c|c
 .grind [YI,TQ,aop]
 have k1:=TQ H f c;have k2:=YI (afy h H f c) n;omega
def axa:∀(ts:pB) (p:Nat->Nat),sJ n p->(∀t∈ts,t.1<n/\t.2<n/\t.1≠t.2)->(aY (cg (gY n (ts.foldl tr p))) n+aY (cg (gY n p)) n+I ts)%2=0:=by
 intro ts
 induction ts with
 |nil=>intro p _ _;simp only[LV,gk];omega
 |cons t ts m=>
  intro p hp j;obtain⟨a,b⟩:=t;obtain⟨f,H,D⟩:=j (a,b) aH
  replace f:a<n:=f
  replace H:b<n:=H
  replace D:a≠b:=D
  have E:=m _ (hp.tr f H) λt h=>j t (by simp[h]);have u:=amF hp f H D;simp only[zg,fG];omega
def l9(h:af)(x:Nat):Nat:=aO h (rv x)
def wo(k:Nat):pB:=(List.range k).map λe=>(2*e,2*e+1)
theorem awC(q:Nat->Nat):∀k y,(wo k).foldl tr q y=if y<2*k then q (rv y)else q y:=by
 intro k
 induction k with
 |zero=>intro y;rw[ai J];rfl
 |succ k f=>
  intro y;have e:wo (k+1)=wo k++[(2*k,2*k+1)]:=by unfold wo;rw[mD,fE];rfl
  rw[e,zx,zg,LV,JG]
  grind [rh,y9]
def cg.push{j:Nat->Nat->Prop}{f:Nat->Nat}(h:∀a b,R a b->cg j (f a) (f b))(e:cg R x y):cg j (f x) (f y):=by
 induction e with
 |rel r=>exact h _ _ r
 |refl a=>exact .refl _
 |symm _ m=>exact m.symm
 |trans _ _ i1 i2=>exact i1.trans i2
section
variable {F:Nat} {h:af}
def Vw(ok:fY F h):sJ (nD h) (l9 h):=by
 have m:=n0 ok;have f:∀y,y<nD h->rv y<nD h:=λy H=>by rw[Dk h]at H |-;exact tD H
 refine⟨λy H=>m.lt _ (f y H),λx y j H e=>?_⟩;have:=m.inj _ _ (f x j) (f y H) e;rw[<-tp x,this,tp]
abbrev Eb(ls:af):Nat:=I ls+I (ay ls)
def ag3(H:y<nD h):(wo (Eb h)).foldl tr (l9 h) y=aO h y:=by grind [awC,l9,tp]
def anz(x y:Nat):cg (gY (nD h) ((wo (Eb h)).foldl tr (l9 h))) x y↔cg (gY (nD h) (aO h)) x y:=
 ⟨cg.mono λa b r=>by obtain⟨H,rfl⟩:=r;exact .rel ⟨H,ag3 H⟩,cg.mono λa b r=>by obtain⟨H,rfl⟩:=r;exact .rel ⟨H,(ag3 H).symm⟩⟩
def aef{k:Nat}:∀t∈wo k,t.1<2*k/\t.2<2*k/\t.1≠t.2:=by
 intro t h;obtain _:=cD.1 h
 grind
def auZ(ok:fY F h):aY (cg (gY (nD h) (aO h))) (nD h)=fp h:=by
 obtain⟨E,R⟩:=yZ (aO h) (nD h);have n:∀w∈fF (aO h) (nD h),w≠[]:=λw j=>by obtain⟨⟨d,t,e,_⟩,_⟩:=zn ok w j;rw[e];simp
 have H:I ((fF (aO h) (nD h)).map (·.headD 0))=fp h:=by rw[bG];rfl
 refine Nat.le_antisymm ?_ ?_
 .rw[<-H];refine ajC λx m=>?_;obtain⟨w,j,B⟩:=BH.1 (R x m);obtain⟨⟨d,t,e,_⟩,_⟩:=zn ok w j;refine⟨w.headD 0,cD.2 ⟨w,j,rfl⟩,?_⟩;exact Ru (n0 ok) (λy v=>.rel ⟨v,rfl⟩) j B (by grind)
 rw[<-H];refine PW (f:=w8 (fF (aO h) (nD h))) ?_ (λx m=>?_) ?_
 .rintro a b ⟨D,rfl⟩
  obtain⟨u,z,A⟩:=BH.1 (R a D);obtain⟨i,M⟩:=fX z
  grind [Ha,yO,n0]
 .obtain⟨w,j,rfl⟩:=cD.1 m;obtain⟨⟨d,t,e,L⟩,_⟩:=zn ok w j
  grind
 rw[adV E n];exact B0
abbrev C7(ls:af):Nat->Nat->Prop:=gY (nD ls) (l9 ls)
def WZ(H:v<I h)(g:Bool):dx (I h) v g<nD h:=by
 have f:=uB H (!g)
 grind [tc,tD,tp]
def agK(v:Nat)(g:Bool):l9 h (dx (I h) v g)=aO h (gn (I h) v (!g)):=by unfold l9;rw[tc]
def ao5(ok:fY F h)(H:v<I h):cg (C7 h) (dx (I h) v true) (dx (I h) v false):=by
 obtain _:=aM H;have:l9 h (l9 h (dx (I h) v true))=dx (I h) v false:=by rw[agK];exact Vm ok H false
 rw[<-this];exact(cg.rel ⟨WZ H true,rfl⟩).trans (.rel ⟨(Vw ok).lt _ (WZ H true),rfl⟩)
def Oh(ok:fY F h)(H:v<I h)(g f:Bool):cg (C7 h) (dx (I h) v g) (dx (I h) v f):=by
 have e:=ao5 ok H;cases g<;>cases f
 .exact .refl _
 .exact e.symm
 .exact e
 exact .refl _
theorem awx(ok:fY F h){l:U}(hl:h[v]?=some l)(H:l.aq):cg (C7 h) (dx (I h) v true) (dx (I h) (gC h v) true):=by
 obtain⟨u,m,f,n,x,j,M⟩:=pE ok.cr hl H;have:l9 h (dx (I h) v true)=dx (I h) (gC h v) (false==(l.over==(l.sign==1))):=by rw[agK,uk hl H];rfl
 exact(cg.rel ⟨WZ ((bd.1 hl).1) true,this.symm⟩).trans (Oh ok ((bd.1 f).1) _ _)
theorem an3(ok:fY F h){k:Nat}(f:k<I (ay h)):cg (C7 h) (2*I h+2*k) (dx (I h) ((ay h).getD k 0) true):=by
 obtain⟨l,H,j⟩:=zt f;have:l9 h (2*I h+2*k)=dx (I h) ((ay h).getD k 0) (dn h ((ay h).getD k 0)):=by unfold l9;rw[show 2*I h+2*k=2*(I h+k) by omega,rh,show 2*(I h+k)+1=2*I h+2*k+1 by omega,A_]
 exact(cg.rel ⟨by unfold nD;omega,this.symm⟩).trans (Oh ok ((bd.1 H).1) _ _)
theorem axS(ok:fY F h){k:Nat}(f:k<I (ay h)):cg (C7 h) (2*I h+2*k+1) (dx (I h) ((ay h).getD ((k+1)%I (ay h)) 0) true):=by
 obtain⟨l,H,j⟩:=zt (cJ _ (show 0<I (ay h) by omega));have:l9 h (2*I h+2*k+1)=dx (I h) ((ay h).getD ((k+1)%I (ay h)) 0) (!dn h ((ay h).getD ((k+1)%I (ay h)) 0)):=by unfold l9;rw[show 2*I h+2*k+1=2*(I h+k)+1 by omega,y9,show 2*(I h+k)=2*I h+2*k by omega,Ae]
 exact(cg.rel ⟨by unfold nD;omega,this.symm⟩).trans (Oh ok ((bd.1 H).1) _ _)
def anC(ok:fY F h)(z:x<nD h):∃v,v<I h/\cg (C7 h) x (dx (I h) v true):=by
 by_cases c:x<2*I h
 .have m:=tD c;obtain⟨v,f,hv,e⟩:∃v f,v<I h/\rv x=gn (I h) v f:=⟨_,_,by
   split
   .exact cJ _ J
   omega,My m⟩
  have:x=dx (I h) v (!f):=by rw[<-aj8,<-e,tp]
  exact⟨v,hv,by rw[this];exact Oh ok hv _ _⟩
 have y:nD h=2*I h+2*I (ay h):=rfl;have j:(x-2*I h)/2<I (ay h):=J;rcases oH x with u|u
 .obtain⟨l,H,n⟩:=zt j;refine⟨_,(bd.1 H).1,?_⟩
  grind [an3]
 obtain⟨l,H,n⟩:=zt (cJ ((x-2*I h)/2+1) (show 0<I (ay h) by omega));refine⟨_,(bd.1 H).1,?_⟩
 grind [axS]
def ayQ(ok:fY F h):∃L:aC,I L=au U.aw h+au U.aq h/2/\(∀j∈L,j<I h)/\(L.map (kJ h)).Nodup/\ ∀v,v<I h->∃j∈L,kJ h j=kJ h v:=by
 have u:=ok.cr;unfold lA at u;simp only[cN,cW]at u;obtain⟨L,O,B,y⟩:=afT ok;refine⟨L,O,B,y,λv f=>?_⟩
 let A:ji:=(ay h).map (λi:Nat=>((0:Int),(i:Int)))++(fx h (I h)).map λid=>((1:Int),id)
 have T:I A=au U.aw h+au U.aq h/2:=by simp only[A,fU,bG,Br,u.2]
 have z:∀v,v<I h->kJ h v∈A:=λv f=>by
  obtain⟨l,hl⟩:=aM f;unfold kJ;rw[hl];rcases ok.kinds l (aX hl)with hp|D
  .simp only[nv hp,gJ,if_false];exact Jv _ (cD.2 ⟨v,qD.2 ⟨l,hl,hp⟩,rfl⟩)
  simp only[D,if_true];refine vx _ (cD.2 ⟨l.id,?_,rfl⟩);exact(Gw (ct _)).2 ⟨v,l.over,f,by rw[H2 hl D];simp⟩
 refine Classical.byContradiction λM=>?_;have m:kJ h v∉L.map (kJ h):=λab=>by obtain⟨j,n,e⟩:=cD.1 ab;exact M ⟨j,n,e⟩
 have R:∀(X Y:ji),X.Nodup->(∀x∈X,x∈Y)->I X<=I Y:=by
  intro X
  induction X with
  |nil=>intro Y _ _;exact bN _
  |cons a X Q=>
   intro Y m ae;obtain⟨N,E⟩:=qH.1 m;have Z:=ae a aH;have:=Q (Y.erase a) E λx H=>(O_ (by rintro rfl;exact N H)).2 (ae x (by simp[H]))
   grind
 have:=R (kJ h v::L.map (kJ h)) A (qH.2 ⟨m,y⟩) λx H=>by
  rcases dt.1 H with rfl|H
  .exact z v f
  obtain⟨j,n,rfl⟩:=cD.1 H;exact z j (B j n)
 grind
def au9(ok:fY F h)(A:u<I h)(E:v<I h)(e:kJ h u=kJ h v):cg (C7 h) (dx (I h) v true) (dx (I h) u true):=by
 obtain⟨l,hl⟩:=aM A;obtain⟨m,H⟩:=aM E;unfold kJ at e;rw[hl,H]at e;cases f:l.aq<;>cases j:m.aq
 .simp only[f,j,gJ,if_false,me,true_and]at e;have:u=v:=J;subst this;exact .refl _
 .simp[f,j]at e
 .simp[f,j]at e
 simp only[f,j,if_true,me,true_and]at e;have n:=ok.cr;have hp:E0 h:=by unfold lA at n;simp at n;exact(GI.1 n.1.2).2
 by_cases z:u=v
 .subst z;exact .refl _
 obtain⟨Q,w,x,D,y,M,N⟩:=pE ok.cr H j;have:gC h v=u:=by
  refine Classical.byContradiction λB=>?_;have O:=(hp _ _ w l x hl D f (by rw[y,e]) B).1;have L:=(hp _ _ l m hl H f j e z).1
  grind
 grind [awx]
def azJ(ok:fY F h):aY (cg (C7 h)) (nD h)=au U.aw h+au U.aq h/2:=by
 obtain⟨L,M,z,N,B⟩:=ayQ ok;have H:I (L.map (2* ·))=au U.aw h+au U.aq h/2:=by rw[bG,M]
 refine Nat.le_antisymm ?_ ?_
 .rw[<-H];refine ajC λx u=>?_;obtain⟨v,A,e⟩:=anC ok u;obtain⟨j,m,E⟩:=B v A;exact⟨2*j,cD.2 ⟨j,m,rfl⟩,e.trans (au9 ok (z j m) A E)⟩
 rw[<-H];refine PW (f:=λx=>kJ h (sB h (rv x))) ?_ (λx u=>?_) ?_
 .rintro a b ⟨D,rfl⟩
  exact(X_ ok ((λy n=>by rw[Dk h]at n |-;exact tD n) a D)).1.symm
 .grind
 rw[gi];have:L.map ((λx=>kJ h (sB h (rv x))) ∘ (2* ·))=L.map (kJ h):=kD λj m=>by
  have:=FX (z j m) false
  grind [rh,gn]
 rw[this];exact N
def anB(ok:fY F h):aY (cg (yh (nD h) (l9 h) (wo (Eb h)))) (nD h)<=1:=by
 refine ajk λx m=>?_;obtain⟨b,j⟩:=Vb (p:=λ_=>false) (λ_=>rfl) ok m;have:=(j 0 aa).push (j:=yh (nD h) (l9 h) (wo (Eb h))) (f:=λy=>y/2) ?_
 .grind [iD]
 intro u v r;rcases r with _|r
 .refine .rel (.inl ⟨J,?_⟩)
  grind [s5,l9,iD]
 refine .rel (.inr ?_);obtain⟨e,H,n⟩:=sY.1 r;have z:(2*e,2*e+1)∈wo _:=cD.2 ⟨e,H,rfl⟩
 grind [He,Iu]
def alc(ok:fY F h):fp h<=au U.aw h+au U.aq h/2+2/\(fp h+(au U.aw h+au U.aq h/2))%2=0:=by
 have E:=ad1 (wo (Eb h)) _ (Vw ok) λt H=>by
  have:=aef t H
  grind
 have m:=axa (wo _) _ (Vw ok) λt H=>by have:=aef t H;rw[Dk h];exact this
 have hl:I (wo (Eb h))=I h+I (ay h):=by simp[wo]
 rw[GQ anz,auZ ok,show aY _ _=_ from azJ ok,hl]at E m;have n:=anB ok;have j:=Ve ok;have kI:=Br (h:=h);have f:=ok.cr;unfold lA at f
 grind
end
structure dW where
 l:Nat
 r:Nat
 b:Bool
structure aT where
 p:aK
 i:dW
 o:dW
abbrev fI:=List aT
abbrev aT.k(x:aT):U:=x.p.l
def ie:dW->fI->dW->Prop
 |s,[],t=>s=t
 |s,x::r,t=>x.i=s/\ie x.o r t
def wJ{s t:dW}{a b:fI}:ie s (a++b) t↔ ∃m,ie s a m/\ie m b t:=by
 induction a generalizing s with
 |nil=>exact⟨λh=>⟨s,rfl,h⟩,λ⟨m,f,H⟩=>by cases f;exact H⟩
 |cons x a j=>grind [ie]
def atK{s:dW}{a b:fI}(h:ie s (a++b) s):∃m,ie m (b++a) m:=by obtain⟨m,H,f⟩:=wJ.1 h;exact⟨m,wJ.2 ⟨s,f,H⟩⟩
structure rb (g:Bool) (i o j q:dW):Prop where
 a:if g then i.l=q.l else i.l=j.r
 b:if g then o.r=j.r else o.r=q.l
 c:if g then j.l=i.r else j.l=o.l
 d:if g then q.r=o.l else q.r=i.r
def eY (l:U):Bool:=l.over==(l.sign==1)
structure yx (x y:aT):Prop where
 ov:x.k.over= !y.k.over
 sg:x.k.sign=y.k.sign
 x4:rb (eY x.k) x.i x.o y.i y.o
def yx.symm{x y:aT}(h:yx x y):yx y x:=by
 obtain⟨j,f,a,b,c,d⟩:=h;have e:eY y.k= !eY x.k:=by grind [eY]
 refine⟨by rw[j];simp,f.symm,?_⟩;rw[e];cases H:eY x.k
 .rw[H]at a b c d;constructor<;>simp
  .exact c
  .exact d
  .exact a
  exact b
 rw[H]at a b c d;constructor<;>simp
 .exact c
 .exact d
 .exact a
 exact b
def iZ(s:dW):dW:=⟨s.r,s.l,s.b⟩
def aT.up(x:aT):dW:=if x.p.d then x.i else iZ x.o
def aT.lo(x:aT):dW:=if x.p.d then x.o else iZ x.i
structure vA (F:Nat) (x:aT):Prop where
 bad:d_ F x.k=false
 cb:x.k.aq->x.i.b=x.o.b
 pb:x.k.aw->x.o.b=x.p.d/\x.i.b= !x.p.d
def mj (x y:aT):Prop:=x.k.aq=true->y.k.aq->x.k.id=y.k.id->yx x y
def mj.symm{x y:aT}(h:mj x y):mj y x:=λa b c=>(h b a c.symm).symm
def xR (x y:aT):Prop:=x.k.aw=true->y.k.aw->x.k.gate=y.k.gate->x.k.ao≠y.k.ao
def xR.symm{x y:aT}(h:xR x y):xR y x:=λa b c d=>h b a c.symm d.symm
structure Aj (T B:Nat->Nat->Nat) (x:aT):Prop where
 wt:x.up.r=T x.k.gate.toNat (x.k.ao.toNat-1)
 et:x.up.l=T x.k.gate.toNat x.k.ao.toNat
 wb:x.lo.r=B x.k.gate.toNat (x.k.ao.toNat-1)
 eb:x.lo.l=B x.k.gate.toNat x.k.ao.toNat
abbrev aP(z:fI):af:=z.map aT.k
structure gE (F:Nat) (z:fI) (T B:Nat->Nat->Nat) (S:aC):Prop where
 path:∃s,ie s z s
 ok:∀x∈z,vA F x
 cr:z.Pairwise mj
 ev:au U.aq (aP z)%2=0
 ids:∀x∈z,x.k.aq->1<=x.k.id/\x.k.id<=((au U.aq (aP z)/2:Nat):Int)
 rk:z.Pairwise xR
 rr:∀x∈z,x.k.aw->1<=x.k.ao/\x.k.ao<=(aJ (aP z) x.k.gate.toNat:Int)
 pl:∀x∈z,x.k.aw->Aj T B x
 gt:∀g,g<F->T g (aJ (aP z) g)=T (g+1) 0/\B g (aJ (aP z) g)=B (g+1) 0
 gz:T F (aJ (aP z) F)=T 0 0/\B F (aJ (aP z) F)=B 0 0
 one:∃x∈z,x.k.aw
 nd:S.Nodup
 wit:∀s∈S,∃x∈z,s=x.o.l\/s=x.o.r
 num:au U.aw (aP z)+au U.aq (aP z)/2+1<=I S
def fP(F:Nat)(l:aU):Prop:= ∃z T B S,z.map aT.p=l/\gE F z T B S
def x_{p:U->Bool}{z Z:fI}(h:z.Perm Z):au p (aP z)=au p (aP Z):=(h.map aT.k).countP_eq p
def gE.perm{z Z:fI}{S:aC}(c:gE F z T B S)(h:z.Perm Z)(hp:∃s,ie s Z s):gE F Z T B S:=by
 have f:∀ {x},x∈Z↔x∈z:=λ{x}=>h.symm.mem_iff;have e:∀p,au p _=au p _:=λp=>(x_ h).symm;have E:∀g,aJ _ g=aJ _ g:=λg=>e _;refine⟨hp,λx H=>c.ok x (f.1 H),(h.pairwise_iff λ{x y}=>mj.symm).1 c.cr,by rw[e];exact c.ev,λx H=>by rw[e];exact c.ids x (f.1 H),(h.pairwise_iff λ{x y}=>xR.symm).1 c.rk,
  λx H=>by rw[E];exact c.rr x (f.1 H),λx H=>c.pl x (f.1 H),λg m=>by rw[E];exact c.gt g m,by rw[E];exact c.gz,?_,c.nd,λs ae=>?_,by rw[e,e];exact c.num⟩
 .obtain⟨x,H,j⟩:=c.one;exact⟨x,f.2 H,j⟩
 obtain⟨x,H,j⟩:=c.wit s ae;exact⟨x,f.2 H,j⟩
def gE.l9{a b:fI}{S:aC}(c:gE F (a++b) T B S):gE F (b++a) T B S:=by obtain⟨s,h⟩:=c.path;exact c.perm (Fe) (atK h)
def fP.l9{a b:aU}(c:fP F (a++b)):fP F (b++a):=by obtain⟨z,T,B,S,h,c⟩:=c;obtain⟨x,y,rfl,rfl,rfl⟩:=List.map_eq_append_iff.1 h;exact⟨y++x,T,B,S,by rw[fE],c.l9⟩
def amw:∀ {z:fI}{s t:dW},(∀x∈z,vA F x)->ie s z t->s.b=false->t.b->∃x∈z,x.k.aw/\x.p.d:=by
 intro z
 induction z with
 |nil=>intro s t _ h f H;cases h;rw[f]at H;cases H
 |cons x z u=>
  intro s t ok h f H;obtain⟨rfl,h⟩:=h;have O:=ok x aH;by_cases m:x.k.aw/\x.p.d
  .grind
  have n:x.o.b=false:=by
   rcases xj O.bad with hp|j
   .rw[(O.pb hp).1]
    grind
   rw[<-O.cb j];exact f
  grind
def gE.down{z:fI}{S:aC}(c:gE F z T B S):∃x∈z,x.k.aw/\x.p.d:=by
 obtain⟨x,j,hp⟩:=c.one;cases f:x.p.d
 .obtain⟨a,b,rfl⟩:=List.append_of_mem j;obtain⟨s,h⟩:=(c.l9).path;obtain⟨rfl,h⟩:=h;obtain⟨E,m⟩:=(c.ok x aH).pb hp;rw[f]at E m;obtain⟨y,H,e⟩:=amw (λy H=>c.ok y (by
   rcases iR.1 H with H|H
   .simp[H]
   simp[H])) h E m
  refine⟨y,?_,e⟩;rcases iR.1 H with H|H
  .simp[H]
  simp[H]
 exact⟨x,j,hp,f⟩
theorem L8{l:aU}{f:Nat}(hf:f<=I l):tA l f (I l)=(l.drop f++l.take f).map aK.l:=by
 apply nj;intro i;by_cases j:i<I l
 .have h:(tA l f (I l))[i]?=some (l.getD ((f+i)%I l) ⟨ga,false⟩).l:=by
   simp[tA,j]
  rw[h,dy];by_cases H:f+i<I l
  .rw[sC (by simp;omega),C0,eN H];simp[H]
  rw[o_ (by simp;omega),pS];have m:(f+i)%I l=i-(I l-f):=by rw[Mk J,eN J];omega
  grind
 have h:I (tA l f (I l))=I l:=by simp[tA]
 rw[kQ (by rw[h];omega),kQ (by simp;omega)]
def fP.fin{l:aU}(c:fP F l):∃z T B S x r,z=x::r/\x.k.aw/\x.p.d/\aP z=cL l/\I z=I l/\gE F z T B S:=by
 obtain⟨z,T,B,S,h,c⟩:=c;subst h;obtain⟨x,A,hp,L⟩:=c.down;have M:∀y:aT,y.k.aw=(y.p.l.kind==1):=λy=>rfl;obtain⟨j,n⟩:=fX A;have v:=(bd.1 n).1;obtain⟨f,hf⟩:∃f,mh (z.map aT.p)=some f:=by
  cases h:mh (z.map aT.p)with
  |some f=>exact⟨f,rfl⟩
  |none=>
   have:=CR.1 h j (by simpa using v);rw[FJ (by rw[dy,n];rfl)]at this
   grind [ya]
 have H:=CO hf;have u:f<I z:=by
  have:=Cv hf
  simpa using this
 obtain⟨y,m⟩:=bd.2 ⟨u,rfl⟩ |> λh=>(⟨_,h⟩:∃y,z[f]?=some y)
 rw[FJ (by rw[dy,m];rfl)]at H;unfold ya at H;rw[cN]at H;have E:z=z.take f++y::z.drop (f+1):=by obtain⟨hl,e⟩:=bd.1 m;rw[<-e,uA,jC]
 have D:z.drop f=y::z.drop (f+1):=by grind
 refine⟨y::z.drop (f+1)++z.take f,T,B,S,y,z.drop (f+1)++z.take f,rfl,H.1,H.2,?_,?_,?_⟩
 .unfold cL;rw[hf,nm,L8 (by rw[bG];omega),<-D];simp only[fE,uy,sh,gi];rfl
 .grind
 rw[E]at c;exact c.l9
def alT(x:au U.aq h%2=0)(n:Uh h)(hp:E0 h):lA h:=by
 rw[W8 x (GI.2 ⟨n,hp⟩)];have A:=Y6 h;have H:∀id∈fx h (I h),au (nP id) h<=2:=λid _=>by grind [N5,Dg]
 have N:=aiE _ H;have z:I (fx h (I h))<=au U.aq h/2:=by
  have B:∀id∈fx h (I h),1<=id/\id<=((au U.aq h/2:Nat):Int):=λid f=>by obtain⟨j,o,L,u⟩:=(Gw (ct _)).1 f;obtain⟨m,v,y,M,_⟩:=CI u;rw[<-M];exact n m (aX v) y
  have:=Ij ((fx h (I h)).map Int.toNat) (List.range' 1 (au U.aq h/2)) ?_ ?_
  .grind
  .refine wE.2 (P2 (λ{a b} F D E e=>E ?_) (R4 h (I h)))
   grind
  grind
 grind
theorem JL{s t:dW}{z:fI}{x:aT}(h:ie s z t)(H:z[0]?=some x):x.i=s:=by
 cases z with
 |nil=>cases H
 |cons y z=>cases H;exact h.1
def aiW:∀ {z:fI}{s t:dW}{i:Nat}{x y:aT},ie s z t->z[i]?=some x->z[i+1]?=some y->x.o=y.i:=by
 intro z
 induction z with
 |nil=>intro s t i x y _ H;cases H
 |cons a z j=>
  intro s t i x y h H f;cases i with
  |zero=>cases H;exact(JL h.2 f).symm
  |succ i=>exact j h.2 H f
theorem U3:∀ {z:fI}{s t:dW}{x:aT},ie s z t->z[I z-1]?=some x->x.o=t:=by
 intro z
 induction z with
 |nil=>intro s t x _ H;cases H
 |cons a z f=>
  intro s t x h H;cases z with
  |nil=>cases H;exact h.2
  |cons b z=>exact f h.2 H
def aho{z:fI}{s:dW}{x y:aT}(h:ie s z s)(f:z[j]?=some x)(H:z[(j+1)%I z]?=some y):x.o=y.i:=by
 by_cases c:j+1<I z
 .rw[eN c]at H;exact aiW h f H
 grind [vv,U3,JL]
def zk{z:fI}{i:Nat}{x:aT}(h:z[i]?=some x):(aP z)[i]?=some x.k:=by rw[dy,h];rfl
def As{z:fI}{i:Nat}{l:U}(h:(aP z)[i]?=some l):∃x,z[i]?=some x/\x.k=l:=by grind
def SD{z:fI}{s t:dW}(ok:∀x∈z,vA F x)(u:ie s z t)(ae:s.b=false):∀i x,z[i]?=some x->x.i.b= !dn (aP z) i/\x.o.b= !dn (aP z) (i+1):=by
 have step:∀i x,z[i]?=some x->x.i.b=(!dn (aP z) i)->x.o.b= !dn _ _:=λi x H m=>by
  have O:=ok x (aX H);rcases xj O.bad with hp|f
  .rw[Dy (zk H) hp,AB,(O.pb hp).1];have:=(O.pb hp).2
   grind
  rw[JJ (zk H) (by
   cases hp:x.k.aw
   .rfl
   rw[nv hp]at f;cases f),<-m,O.cb f]
 intro i
 induction i with
 |zero=>
  intro x H;have:x.i.b= !dn (aP z) 0:=by rw[JL u H,ae];rfl
  grind
 |succ i n=>
  intro y j;obtain⟨x,H⟩:=aM (h:=z) (k:=i) (by grind);have e:=(n x H).2;rw[aiW u H j]at e
  grind
def afF(hf:∀g,g<F->f g (aJ h g)=f (g+1) 0):∀(d g k g' j:Nat),g'=g+d->g'<=F->k<=aJ h g->j<=aJ h g'->cX h g+k=cX h g'+j->f g k=f g' j:=by
 intro d
 induction d with
 |zero=>simp_all
 |succ d n=>
  intro g k g' j e u m Q v;have H:=wO (h:=h) (show g+1<=g' by omega);have ae:=lz h g
  grind
def H_(hf:∀g,g<F->f g (aJ h g)=f (g+1) 0){g k g' j:Nat}(m:g<=F)(D:g'<=F)(H:k<=aJ h g)(Q:j<=aJ h g')(n:cX h g+k=cX h g'+j):f g k=f g' j:=by
 rcases Nat.le_total g g' with c|c
 .exact afF hf (g'-g) g k g' j J D H Q n
 exact(afF hf (g-g') g' j g k J m Q H n.symm).symm
def Ln:aT:=⟨⟨ga,false⟩,⟨0,0,false⟩,⟨0,0,false⟩⟩
def km(z:fI)(x:Nat):Nat:=
 if x<2*I z then(if x%2=0 then(z.getD (x/2) Ln).o.l else(z.getD (x/2) Ln).o.r)
 else if x%2=0 then(z.getD ((ay (aP z)).getD ((x-2*I z)/2) 0) Ln).up.l else(z.getD ((ay (aP z)).getD ((x-2*I z)/2) 0) Ln).lo.l
def aee{z:fI}{i:Nat}{x:aT}(h:z[i]?=some x):z.getD i Ln=x:=by rw[dz,h];rfl
section
variable {F:Nat} {z:fI} {s:dW}
def U_(m:ie s z s){x:aT}(H:z[v]?=some x)(g:Bool):km z (dx (I z) v g)=if g then x.o.l else x.i.r:=by
 have f:=(bd.1 H).1;cases g with
 |true=>
  show km z (2*v)=_;unfold km
  grind
 |false=>
  show km z (2*((v+I z-1)%I z)+1)=_;obtain⟨y,j⟩:=aM (h:=z) (cJ (v+I z-1) (show 0<I z by omega));have e:=aho m j (by rw[uE f];exact H);unfold km
  grind
def aqI(m:ie s z s){x:aT}(H:z[v]?=some x)(g:Bool):km z (gn (I z) v g)=if g then x.i.l else x.o.r:=by
 have f:=(bd.1 H).1;cases g with
 |false=>
  show km z (2*v+1)=_;unfold km
  grind
 |true=>
  show km z (2*((v+I z-1)%I z))=_;obtain⟨y,j⟩:=aM (h:=z) (cJ (v+I z-1) (show 0<I z by omega));have e:=aho m j (by rw[uE f];exact H);unfold km
  grind
def YP{k:Nat}{x:aT}(h:(ay (aP z)).getD k 0=v)(H:z[v]?=some x):km z (2*I z+2*k)=x.up.l:=by
 unfold km
 grind
def W3{k:Nat}{x:aT}(h:(ay (aP z)).getD k 0=v)(H:z[v]?=some x):km z (2*I z+2*k+1)=x.lo.l:=by
 unfold km
 grind
def gE.Iv{S:aC}(c:gE F z T B S){i:Nat}{x y:aT}(v:z[i]?=some x)(m:z[j]?=some y)(u:i≠j):mj x y/\xR x y:=by
 obtain⟨f,E⟩:=bd.1 v;obtain⟨H,n⟩:=bd.1 m;subst E n;rcases Hs u with h|h
 .exact⟨F_.1 c.cr i j f H h,F_.1 c.rk i j f H h⟩
 exact⟨(F_.1 c.cr j i H f h).symm,(F_.1 c.rk j i H f h).symm⟩
def gE.eO{S:aC}(c:gE F z T B S){x:aT}(h:x∈z)(hp:x.k.aw):rB F (aP z) x.k:=by obtain⟨⟨⟨⟨g0,g1⟩,_⟩,_⟩,_⟩:=(kL hp).1 (c.ok x h).bad;obtain⟨r0,r1⟩:=c.rr x h hp;exact⟨g0,g1,r0,r1⟩
def gE.dg{S:aC}(c:gE F z T B S)(hl:I z<=1000000):fY F (aP z):=by
 refine⟨by rw[bG];exact hl,⟨λl hl hp=>?_,λi j l m n u pl v e=>?_⟩,alT c.ev (λl hl M=>?_) (λi j l m n u D E e f=>?_),λl hl=>?_⟩
 .obtain⟨x,h,rfl⟩:=cD.1 hl;exact c.eO h hp
 .obtain⟨x,h,rfl⟩:=As n;obtain⟨y,H,rfl⟩:=As u;refine Decidable.byContradiction λf=>?_;obtain⟨L,A⟩:=(Gp (c.eO (aX h) pl) (c.eO (aX H) v)).1 e;exact(c.Iv h H f).2 pl v L A
 .obtain⟨x,h,rfl⟩:=cD.1 hl;exact c.ids x h M
 .obtain⟨x,h,rfl⟩:=As n;obtain⟨y,H,rfl⟩:=As u;have:=(c.Iv h H f).1 D E e;refine⟨?_,this.sg⟩;rw[this.ov];cases y.k.over<;>simp
 obtain⟨x,h,rfl⟩:=cD.1 hl;exact xj (c.ok x h).bad
def gE.tM{S:aC}(c:gE F z T B S):tM F (aP z):=λl hl hp=>by obtain⟨x,h,rfl⟩:=cD.1 hl;exact((kL hp).1 (c.ok x h).bad).1.1.1
def gE.Dv{S:aC}(c:gE F z T B S)(hl:I z<=1000000){k:Nat}{x y:aT}(E:(ay (aP z))[k]?=some u)(hv:(ay (aP z))[(k+1)%I (ay (aP z))]?=some v)(n:z[u]?=some x)(j:z[v]?=some y):x.up.l=y.up.r/\x.lo.l=y.lo.r:=by
 have ok:=c.dg hl;have hk:=(bd.1 E).1;obtain⟨l,N,O,X⟩:=uh ok.ax E;obtain⟨m,L,D,M⟩:=uh ok.ax hv;rw[zk n]at N;cases N;rw[zk j]at L;cases L;have Z:=c.eO (aX n) O;have R:=c.eO (aX j) D;have A:=c.pl x (aX n) O;have Q:=c.pl y (aX j) D;obtain⟨x1,x2,x3,x4⟩:=Z;obtain⟨y1,y2,y3,y4⟩:=R;have h:∀f:Nat->Nat->Nat,(∀g,g<F->f g (aJ (aP z) g)=f (g+1) 0)->f F (aJ (aP z) F)=f 0 0->f x.k.gate.toNat x.k.ao.toNat=f y.k.gate.toNat (y.k.ao.toNat-1):=by
  intro f hf Y;unfold eC at X M;by_cases c1:k+1<I (ay (aP z))
  .rw[eN c1]at M;exact H_ hf J J J J J
  have hT:=AK c.tM;have ae:=lz (aP z) F;have:k+1=I (ay (aP z)):=J;rw[this,vv]at M;rw[H_ hf (g:=x.k.gate.toNat) (k:=x.k.ao.toNat) (g':=F) (j:=aJ (aP z) F) J (ct _) J (ct _) J,Y];exact H_ hf (bN _) J (bN _) J (by show 0+0=_;omega)
 exact⟨by rw[A.et,Q.wt];exact h T (λg H=>(c.gt g H).1) c.gz.1,by rw[A.eb,Q.wb];exact h B (λg H=>(c.gt g H).2) c.gz.2⟩
def gE.walk{S:aC}(c:gE F z T B S)(hl:I z<=1000000)(ab:ie s z s)(ae:s.b=false)(hx:x<nD (aP z)):km z (aO (aP z) x)=km z x:=by
 have ok:=c.dg hl;have M:I (aP z)=I z:=bG ..;have hN:nD (aP z)=2*I z+2*I (ay (aP z)):=by unfold nD;rw[M]
 have iz:=SD c.ok ab ae;by_cases c1:x<2*I z
 .obtain⟨v,D,hv,rfl⟩:∃v D,v<I z/\x=gn (I z) v D:=⟨_,_,by
   split
   .exact cJ _ J
   omega,My c1⟩
  obtain⟨e,H⟩:=aM (h:=z) hv;have f:=zk H;have oe:=c.ok e (aX H);rw[aqI ab H];rcases xj oe.bad with hp|Z
  .have E:dn (aP z) v=e.p.d:=by
    have:=(iz v e H).1;rw[(oe.pb hp).2]at this;revert this;cases e.p.d<;>cases dn (aP z) v<;>simp
   obtain⟨a1,a2⟩:=GA ok f hp;have t:=B1 f hp D;rw[M]at t;rw[t,E];by_cases N:(e.p.d==D)
   .rw[an N,YP a2 H];unfold aT.up;have:=eq_of_beq N;subst this;cases e.p.d<;>rfl
   rw[ai N];have A:=cJ ((ay (aP z)).idxOf v+I (ay (aP z))-1) (show 0<I (ay (aP z)) by omega);obtain⟨u,n⟩:=aM A;obtain⟨l,u1,u2⟩:=qD.1 (aX n);obtain⟨y,j,rfl⟩:=As u1;have R:(ay (aP z))[(ay (aP z)).idxOf v]?=some v:=by obtain⟨q,hq⟩:=aM a1;rw[dz,hq]at a2;rw[hq];exact congrArg some a2
   have:=(c.Dv hl n (by rw[uE a1];exact R) j H).2;rw[W3 (by rw[dz,n];rfl) j,this];unfold aT.lo;revert N;cases e.p.d<;>cases D<;>simp[iZ]
  obtain⟨b1,m,A,mc,mi,mo,ms⟩:=pE ok.cr f Z;obtain⟨y,j,rfl⟩:=As A;have aN:v≠gC (aP z) v:=by intro ee;rw[<-ee,f]at A;have:=ld A;rw[<-this]at mo;revert mo;cases e.k.over<;>simp
  obtain⟨_,_,X,xb,xc,xd⟩:=(c.Iv H j aN).1 Z mc mi.symm;have t:=uk f Z D;rw[M]at t;rw[t,U_ ab j];unfold eY at X xb;cases hg:(e.k.over==(e.k.sign==1))<;>rw[hg]at X xb<;>simp only[gJ,if_false,if_true]at X xb<;>cases D<;>simp_all
 have hk:(x-2*I z)/2<I (ay (aP z)):=J;obtain⟨u,n⟩:=aM hk;obtain⟨l,u1,u2⟩:=qD.1 (aX n);obtain⟨e,H,rfl⟩:=As u1;have Y:(ay (aP z)).getD ((x-2*I z)/2) 0=u:=by rw[dz,n];rfl
 rcases oH x with uT|uT
 .have L:x=2*I z+2*((x-2*I z)/2):=J;have A:=cJ ((x-2*I z)/2+1) (show 0<I (ay (aP z)) by omega);obtain⟨w,hw⟩:=aM A;obtain⟨l,w1,w2⟩:=qD.1 (aX hw);obtain⟨y,j,rfl⟩:=As w1;have Q:(ay (aP z)).getD (((x-2*I z)/2+1)%I (ay (aP z))) 0=w:=by rw[dz,hw];rfl
  have O:=c.ok y (aX j);have E:dn (aP z) w=y.p.d:=by have:=(iz w y j).1;rw[(O.pb w2).2]at this;revert this;cases y.p.d<;>cases dn (aP z) w<;>simp
  have t:=Ae (h:=aP z) ((x-2*I z)/2);rw[M,<-L]at t;rw[t,Q,U_ ab j,E];have a:=(c.Dv hl n hw H j).1;have r:=YP Y H;rw[<-L]at r;rw[r,a];unfold aT.up;cases y.p.d<;>simp[iZ]
 have L:x=2*I z+2*((x-2*I z)/2)+1:=J;have O:=c.ok e (aX H);have E:dn (aP z) u=e.p.d:=by have:=(iz u e H).1;rw[(O.pb u2).2]at this;revert this;cases e.p.d<;>cases dn (aP z) u<;>simp
 have t:=A_ (h:=aP z) ((x-2*I z)/2);rw[M,<-L]at t;rw[t,Y,U_ ab H,E];have r:=W3 Y H;rw[<-L]at r;rw[r];unfold aT.lo;cases e.p.d<;>simp[iZ]
def gE.check{S:aC}(c:gE F z T B S){x:aT}{r:fI}(D:z=x::r)(hp:x.k.aw)(n:x.p.d)(hl:I z<=400)(fj:au U.aq (aP z)<=200)(hF:F<=40):dM F (aP z)=0:=by
 have ok:=c.dg J;have m:I (aP z)=I z:=bG ..;obtain⟨s,v⟩:=c.path;have O:z[0]?=some x:=by rw[D];rfl
 have ae:s.b=false:=by rw[<-JL v O,((c.ok x (aX O)).pb hp).2,n];rfl
 have jd:0<I z:=by rw[D];simp
 have iz:=SD c.ok v ae;have Y:au U.aw (aP z)%2=0:=by
  obtain⟨y,H⟩:=aM (h:=z) (k:=I z-1) J;have:=(iz _ y H).2;rw[U3 v H,ae,show I z-1+1=I (aP z) by rw[m];omega]at this;unfold dn at this;rw[jz]at this
  simpa using this
 have R:fp (aP z)=au U.aw (aP z)+au U.aq (aP z)/2+2:=by
  obtain⟨b1,b2⟩:=alc ok;have u:∀a∈S,∃d,km z d=a/\d<2*I z:=λa ha=>by
   obtain⟨y,H,e⟩:=c.wit a ha;obtain⟨j,A⟩:=fX H;have vV:=(bd.1 A).1;rcases e with e|e
   .exact⟨2*j,by unfold km;rw[an J,an J,show 2*j/2=j by omega,aee A,e],J⟩
   exact⟨2*j+1,by unfold km;rw[an J,ai J,show(2*j+1)/2=j by omega,aee A,e],J⟩
  obtain⟨M,E,Q⟩:=Ys (P:=λa d=>km z d=a/\d<2*I z) (f:=km z) (λa d v=>v.1) u;have hN:nD (aP z)=2*I z+2*I (ay (aP z)):=by unfold nD;rw[m]
  have:=Z5 (n0 ok) (φ:=km z) (λy H=>c.walk J v ae H) (R:=M) (λd n=>by obtain⟨_,_,v⟩:=Q d n;omega) (by rw[E];exact c.nd)
  have hM:I M=I S:=by rw[<-E,bG]
  have L:=c.num;have:I M<=fp (aP z):=this;omega
 have aN:aP z≠[]:=by intro e;rw[e]at m;simp at m;omega
 unfold dM;rw[ai (by rw[m];omega),ai J,ai aN,an];unfold mA;have N:=(D9 c.tM).2 ⟨ok.ax.eO,ok.ax.inj⟩;have X:(aP z).any (d_ F)=false:=Cz.2 λl hl=>by obtain⟨y,H,rfl⟩:=cD.1 hl;rw[(c.ok y H).bad];decide
 rw[zk O,G0.2 ⟨X,N,ok.cr⟩,R,Y];have Z:(x.k.kind==1):=hp;simp only[Z,CT,Dq]
def fP.check{l:aU}(c:fP F l)(hl:I l<=400)(v:au U.aq (l.map aK.l)<=200)(u:F<=40):dM F (cL l)=0:=by
 obtain⟨w,T,B,S,x,r,n,hp,m,j,H,cz⟩:=c.fin;have y:au U.aq (aP w)=au U.aq (l.map aK.l):=by
  rw[j];have hf:(mh l).getD 0<=I l:=by
   cases h:mh l with
   |none=>exact bN _
   |some f=>
    have:=Cv h
    grind
  unfold cL;rw[L8 hf];show List.countP _ _=List.countP _ _;rw[fE,vz,S1,<-vz,<-fE,jC]
 rw[<-j];exact cz.check n hp m J J u
end
end
end Go.Abs
