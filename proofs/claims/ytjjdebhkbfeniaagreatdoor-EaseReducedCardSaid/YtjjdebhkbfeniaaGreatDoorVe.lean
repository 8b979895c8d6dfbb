/-
  Walks around faces; a bound on the number of faces.
-/
import Derived.Test.YtjjdebhkbfeniaaGreatDoorWt
set_option linter.unusedSimpArgs false
set_option linter.unusedVariables false
set_option linter.unusedSectionVars false
set_option maxHeartbeats 16000000
namespace Go.Abs
theorem sn_lt{S:List Bool}{x:Nat}(h:sn S x=false):x<S.length:=by
 rcases Nat.lt_or_ge x S.length with h1|h1
 ·exact h1
 ·rw[sn,List.getD_eq_getElem?_getD,List.getElem?_eq_none h1] at h;cases h
theorem walkF_spec(next:Nat→Nat): ∀ (k x:Nat) (S:List Bool),(∀ y∈(walkF next k x S).1,sn S y=false)∧(walkF next k x S).1.Nodup∧ ∀ y,sn (walkF next k x S).2 y=(sn S y||decide (y∈(walkF next k x S).1)):=by
 intro k
 induction k with
 |zero=>intro x S;simp[walkF]
 |succ k ih=>
  intro x S;unfold walkF;cases hx:S.getD x true with
  |true=>simp
  |false=>
   have hl:=sn_lt (S:=S) (x:=x) hx;obtain⟨h1,h2,h3⟩:=ih (next x) (S.set x true);simp only[Bool.false_eq_true,if_false];have hset: ∀ y,sn (S.set x true) y=if y=x then true else sn S y:=fun y=>sn_set hl
   refine⟨fun y hy=> ?_,?_,fun y=> ?_⟩
   ·rcases List.mem_cons.1 hy with rfl|hy
    ·exact hx
    ·have:=h1 y hy;rw[hset] at this;split at this
     ·cases this
     ·exact this
   ·refine List.nodup_cons.2 ⟨fun hm=> ?_,h2⟩;have:=h1 x hm;rw[hset,if_pos rfl] at this;cases this
   ·rw[h3,hset];by_cases e:y=x
    ·subst e;simp
    ·rw[if_neg e];have:decide (y∈x::(walkF next k (next x) (S.set x true)).1)=decide (y∈(walkF next k (next x) (S.set x true)).1):=by simp[e]
     rw[this]
theorem walksK_part(next:Nat→Nat)(N:Nat): ∀ k,(walksK next N k).1.flatten.Nodup∧(∀ y,y<N→sn (walksK next N k).2 y=decide (y∈(walksK next N k).1.flatten))∧(∀ y∈(walksK next N k).1.flatten,y<N)∧ ∀ x,x<k→x<N→sn (walksK next N k).2 x=true:=by
 intro k
 induction k with
 |zero=>
  refine⟨by simp[walksK],fun y hy=> ?_,by simp[walksK],fun x hx=>absurd hx (Nat.not_lt_zero x)⟩;have:(walksK next N 0).2=List.replicate N false:=rfl;rw[this,sn_rep hy];simp[walksK]
 |succ k ih=>
  obtain⟨h1,h2,h4,h3⟩:=ih;rw[walksK_succ];unfold walkStep;have hlen:=walksK_len next N k;cases hk:(walksK next N k).2.getD k true with
  |true=>
   rw[if_pos rfl];refine⟨h1,h2,h4,fun x hx hxN=> ?_⟩;rcases Nat.lt_succ_iff_lt_or_eq.1 hx with h|rfl
   ·exact h3 x h hxN
   ·exact hk
  |false=>
   rw[if_neg (by decide)];have hkN:k<N:=by have:=sn_lt (S:=(walksK next N k).2) hk;omega
   obtain⟨g1,g2,g3⟩:=walkF_spec next ((walksK next N k).2.length+1) k (walksK next N k).2;have hfirst:=walkF_first next ((walksK next N k).2.length+1) k (walksK next N k).2 (by have:=unseen_le (walksK next N k).2;omega);refine⟨?_,fun y hy=> ?_,?_,fun x hx hxN=> ?_⟩
   ·rw[List.flatten_append,List.nodup_append];refine⟨h1,by simpa using g2,fun y hy z hz=> ?_⟩;rintro rfl
    have e1:=g1 y (by simpa using hz);have hyN:=h4 y hy;rw[h2 y hyN] at e1;simp[hy] at e1
   ·rw[g3,h2 y hy,List.flatten_append,Bool.eq_iff_iff];simp
   ·intro y hy;rw[List.flatten_append,List.mem_append] at hy;rcases hy with hy|hy
    ·exact h4 y hy
    ·have:=sn_lt (g1 y (by simpa using hy));omega
   ·rcases Nat.lt_succ_iff_lt_or_eq.1 hx with h|rfl
    ·rw[g3,h3 x h hxN];rfl
    ·exact hfirst
theorem walksL_part(next:Nat→Nat)(N:Nat):(walksL next N).flatten.Nodup∧ ∀ y,y<N→y∈(walksL next N).flatten:=by
 obtain⟨h1,h2,_,h3⟩:=walksK_part next N N;refine⟨h1,fun y hy=> ?_⟩;have:=h3 y hy hy;rw[h2 y hy] at this;exact of_decide_eq_true this
theorem nodup_idx{L:List (List Nat)}(h:L.flatten.Nodup){i j:Nat}{a b:List Nat}{x:Nat}(hi:L[i]? =some a)(hj:L[j]? =some b)(ha:x∈a)(hb:x∈b):i=j:=by
 induction L generalizing i j with
 |nil=>simp at hi
 |cons l L ih=>
  rw[List.flatten_cons,List.nodup_append] at h;obtain⟨_,h2,h3⟩:=h;cases i with
  |zero=>
   simp at hi;subst hi;cases j with
   |zero=>rfl
   |succ j=>simp at hj;exact absurd rfl (h3 x ha x (List.mem_flatten.2 ⟨b,List.mem_of_getElem? hj,hb⟩))
  |succ i=>
   simp at hi;cases j with
   |zero=>simp at hj;subst hj;exact absurd rfl (h3 x hb x (List.mem_flatten.2 ⟨a,List.mem_of_getElem? hi,ha⟩))
   |succ j=>simp at hj;rw[ih h2 hi hj]
section
variable {F:Nat} {ls:List Let}
theorem facesL_at{j:Nat}{f:Fc}(h:(facesL F ls)[j]? =some f): ∃ w,(walksL (nxt ls) (nD ls))[j]? =some w∧f=faceW F ls w:=by
 unfold facesL at h;rw[List.getElem?_map] at h;cases hw:(walksL (nxt ls) (nD ls))[j]? with
 |none=>rw[hw] at h;cases h
 |some w=>rw[hw] at h;cases h;exact⟨w,rfl,rfl⟩
theorem dart_idx{i j:Nat}{a b:Fc}{d:Nat}(hi:(facesL F ls)[i]? =some a)(hj:(facesL F ls)[j]? =some b)(ha:d∈a.darts)(hb:d∈b.darts):i=j:=by
 obtain⟨v,hv,rfl⟩:=facesL_at hi;obtain⟨w,hw,rfl⟩:=facesL_at hj;rw[faceW_dl] at ha hb;exact nodup_idx (walksL_part _ _).1 hv hw (List.mem_filter.1 ha).1 (List.mem_filter.1 hb).1
theorem dart_in{d:Nat}(hd:d<2*ls.length): ∃ (j:Nat) (f:Fc),(facesL F ls)[j]? =some f∧d∈f.darts:=by
 have:=(walksL_part (nxt ls) (nD ls)).2 d (by unfold nD;omega);obtain⟨w,hw,hdw⟩:=List.mem_flatten.1 this;obtain⟨j,hj⟩:=List.getElem?_of_mem hw;have hj2:(facesL F ls)[j]? =some (faceW F ls w):=by unfold facesL;rw[List.getElem?_map,hj];rfl
 refine⟨j,faceW F ls w,hj2,?_⟩;rw[faceW_dl];exact List.mem_filter.2 ⟨hdw,by simpa using hd⟩
theorem setAll_get{ds:List Nat}{v:Nat}{d:Nat}: ∀ {L:List Nat},d<L.length→(setAll L ds v)[d]? =if d∈ds then some v else L[d]? :=by
 induction ds with
 |nil=>intro L _;simp[setAll]
 |cons e ds ih=>
  intro L hd;show(setAll (L.set e v) ds v)[d]? =_;rw[ih (by simpa using hd),List.getElem?_set];by_cases h1:d∈ds
  ·simp[h1]
  ·by_cases h2:e=d
   ·subst h2;simp[hd]
   ·have:d≠e:=fun h=>h2 h.symm
    simp[h1,h2,this]
theorem leftR_no{d:Nat}: ∀ {fs:List Fc} {j:Nat} {L:List Nat},d<L.length→(∀ f∈fs,d∉f.darts)→(leftR fs j L)[d]? =L[d]? :=by
 intro fs
 induction fs with
 |nil=>intro j L _ _;rfl
 |cons f fs ih=>
  intro j L hd h;show(leftR fs (j+1) (setAll L f.darts j))[d]? =_;rw[ih (by rw[setAll_len];exact hd) fun g hg=>h g (by simp[hg]),setAll_get hd,if_neg (h f (by simp))]
theorem leftR_at{d:Nat}: ∀ {fs:List Fc} {j i:Nat} {L:List Nat} {f:Fc},d<L.length→fs[i]? =some f→d∈f.darts→(∀ i' f',fs[i']? =some f'→d∈f'.darts→i'=i)→(leftR fs j L)[d]? =some (j+i):=by
 intro fs
 induction fs with
 |nil=>intro j i L f _ h;simp at h
 |cons g fs ih=>
  intro j i L f hd hi hf hu;show(leftR fs (j+1) (setAll L g.darts j))[d]? =_;cases i with
  |zero=>
   simp at hi;subst hi;rw[leftR_no (by rw[setAll_len];exact hd),setAll_get hd,if_pos hf]
   ·rfl
   ·intro f' hf' hd';obtain⟨i',hi'⟩:=List.getElem?_of_mem hf';have:=hu (i'+1) f' (by simpa using hi') hd';omega
  |succ i=>
   simp at hi;rw[ih (by rw[setAll_len];exact hd) hi hf fun i' f' h1 h2=>by have:=hu (i'+1) f' (by simpa using h1) h2;omega];congr 1;omega
theorem left_at{d j:Nat}{f:Fc}(hd:d<2*ls.length)(hf:(facesL F ls)[j]? =some f)(hm:d∈f.darts):(leftL F ls)[d]? =some j:=by
 unfold leftL;rw[leftR_at (by simpa using hd) hf hm fun i' f' h1 h2=>dart_idx h1 hf h2 hm];congr 1;omega
theorem faceAt_has{d:Nat}(hd:d<2*ls.length): ∃ j,(facesL F ls)[j]? =some (faceAt F ls d)∧d∈(faceAt F ls d).darts∧(leftL F ls)[d]? =some j:=by
 obtain⟨j,f,hf,hm⟩:=dart_in (F:=F) hd;have hl:=left_at hd hf hm;have e:faceAt F ls d=f:=by
  unfold faceAt;rw[List.getD_eq_getElem?_getD (l:=leftL F ls),hl,Option.getD_some,List.getD_eq_getElem?_getD,hf,Option.getD_some]
 exact⟨j,e▸hf,e▸hm,hl⟩
theorem faceAt_mem{d:Nat}(hd:d<2*ls.length):faceAt F ls d∈facesL F ls:=by
 obtain⟨j,h1,_⟩:=faceAt_has (F:=F) hd;exact List.mem_of_getElem? h1
end
inductive Eqv (R:Nat→Nat→Prop):Nat→Nat→Prop
 |rel {a b:Nat}:R a b→Eqv R a b
 |refl (a:Nat):Eqv R a a
 |symm {a b:Nat}:Eqv R a b→Eqv R b a
 |trans {a b c:Nat}:Eqv R a b→Eqv R b c→Eqv R a c
theorem Eqv.mono{R R':Nat→Nat→Prop}(h: ∀ a b,R a b→Eqv R' a b){x y:Nat}(e:Eqv R x y):Eqv R' x y:=by
 induction e with
 |rel r=>exact h _ _ r
 |refl a=>exact .refl a
 |symm _ ih=>exact .symm ih
 |trans _ _ i1 i2=>exact .trans i1 i2
theorem Eqv.inv{R:Nat→Nat→Prop}{α:Type}{f:Nat→α}(h: ∀ a b,R a b→f a=f b){x y:Nat}(e:Eqv R x y):f x=f y:=by
 induction e with
 |rel r=>exact h _ _ r
 |refl a=>rfl
 |symm _ ih=>exact ih.symm
 |trans _ _ i1 i2=>exact i1.trans i2
def ld (E:Nat→Nat→Prop)(x:Nat):Prop:= ∀ y,E x y→x≤y
noncomputable def ldB (E:Nat→Nat→Prop) (x:Nat):Bool:= @decide (ld E x) (Classical.propDecidable _)
theorem ldB_iff{E:Nat→Nat→Prop}{x:Nat}:ldB E x=true↔ld E x:=by
 unfold ldB;exact @decide_eq_true_iff _ (Classical.propDecidable _)
noncomputable def K (E:Nat→Nat→Prop) (n:Nat):Nat:=(List.range n).countP (ldB E)
theorem K_congr{E E':Nat→Nat→Prop}(h: ∀ x y,E x y↔E' x y)(n:Nat):K E n=K E' n:=by
 have:E=E':=funext fun x=>funext fun y=>propext (h x y)
 rw[this]
theorem exists_least{p:Nat→Prop}: ∀ n,p n→ ∃ m,p m∧ ∀ k,p k→m≤k:=by
 intro n
 induction n using Nat.strongRecOn with
 |ind n ih=>
  intro h;rcases Classical.em (∃ k,k<n∧p k) with ⟨k,hk,hp⟩|hno
  ·exact ih k hk hp
  ·exact⟨n,h,fun k hk=>Nat.le_of_not_lt fun hlt=>hno ⟨k,hlt,hk⟩⟩
theorem leader(R:Nat→Nat→Prop)(x:Nat): ∃ m,Eqv R x m∧ld (Eqv R) m∧m≤x:=by
 obtain⟨m,h1,h2⟩:=exists_least (p:=fun y=>Eqv R x y) x (.refl x);exact⟨m,h1,fun y hy=>h2 y (h1.trans hy),h2 x (.refl x)⟩
theorem countP_drop{p:Nat→Bool}{x:Nat}(hp:p x=true): ∀ {l:List Nat},l.Nodup→x∈l→l.countP p=l.countP (fun y=>p y&&y !=x)+1:=by
 intro l
 induction l with
 |nil=>intro _ h;cases h
 |cons a l ih=>
  intro hn hm;obtain⟨h1,h2⟩:=List.nodup_cons.1 hn;rw[List.countP_cons,List.countP_cons];by_cases e:a=x
  ·subst e;have hc:l.countP p=l.countP (fun y=>p y&&y !=a):=List.countP_congr fun y hy=>by
    have:(y !=a)=true:=by simp;rintro rfl;exact h1 hy
    simp[this]
   simp[hp,hc]
  ·have hx:x∈l:=by rcases List.mem_cons.1 hm with h|h;exact absurd h.symm e;exact h
   rw[ih h2 hx];have:(a !=x)=true:=by simp[e]
   simp only[this,Bool.and_true];omega
abbrev addR(R:Nat→Nat→Prop)(a b:Nat)(x y:Nat):Prop:=R x y∨(x=a∧y=b)
theorem eqv_add{R:Nat→Nat→Prop}{a b x y:Nat}:Eqv (addR R a b) x y↔Eqv R x y∨(Eqv R x a∧Eqv R b y)∨(Eqv R x b∧Eqv R a y):=by
 constructor
 ·intro h
  induction h with
  |rel r=>
   rcases r with r|⟨rfl,rfl⟩
   ·exact .inl (.rel r)
   ·exact .inr (.inl ⟨.refl _, .refl _⟩)
  |refl a=>exact .inl (.refl a)
  |symm _ ih=>
   rcases ih with h|⟨h1,h2⟩|⟨h1,h2⟩
   ·exact .inl h.symm
   ·exact .inr (.inr ⟨h2.symm,h1.symm⟩)
   ·exact .inr (.inl ⟨h2.symm,h1.symm⟩)
  |trans _ _ i1 i2=>
   rcases i1 with h|⟨h1,h2⟩|⟨h1,h2⟩<;>rcases i2 with k|⟨k1,k2⟩|⟨k1,k2⟩
   ·exact .inl (h.trans k)
   ·exact .inr (.inl ⟨h.trans k1,k2⟩)
   ·exact .inr (.inr ⟨h.trans k1,k2⟩)
   ·exact .inr (.inl ⟨h1,h2.trans k⟩)
   ·exact .inr (.inl ⟨h1,k2⟩)
   ·exact .inl (h1.trans k2)
   ·exact .inr (.inr ⟨h1,h2.trans k⟩)
   ·exact .inl (h1.trans k2)
   ·exact .inr (.inr ⟨h1,k2⟩)
 ·have up: ∀ {u v},Eqv R u v→Eqv (addR R a b) u v:=fun h=>h.mono fun _ _ r=> .rel (.inl r)
  have ab:Eqv (addR R a b) a b:= .rel (.inr ⟨rfl,rfl⟩);rintro (h|⟨h1,h2⟩|⟨h1,h2⟩)
  ·exact up h
  ·exact(up h1).trans (ab.trans (up h2))
  ·exact(up h1).trans (ab.symm.trans (up h2))
theorem K_same{R:Nat→Nat→Prop}{a b:Nat}(h:Eqv R a b)(n:Nat):K (Eqv (addR R a b)) n=K (Eqv R) n:=by
 refine K_congr (fun x y=> ?_) n;rw[eqv_add];constructor
 ·rintro (k|⟨h1,h2⟩|⟨h1,h2⟩)
  ·exact k
  ·exact h1.trans (h.trans h2)
  ·exact h1.trans (h.symm.trans h2)
 ·exact .inl
theorem K_drop{E E':Nat→Nat→Prop}{n m:Nat}(hm:m<n)(h0:ld E m)(h: ∀ x,ld E' x↔ld E x∧x≠m):K E n=K E' n+1:=by
 unfold K;rw[countP_drop (p:=ldB E) (x:=m) (ldB_iff.2 h0) List.nodup_range (List.mem_range.2 hm)];congr 1;refine List.countP_congr fun x _=> ?_
 rw[ldB_iff,h,Bool.and_eq_true,ldB_iff];simp
theorem K_join{R:Nat→Nat→Prop}{a b n:Nat}(ha:a<n)(hb:b<n)(h: ¬ Eqv R a b):K (Eqv R) n=K (Eqv (addR R a b)) n+1:=by
 obtain⟨p,p1,p2,p3⟩:=leader R a;obtain⟨q,q1,q2,q3⟩:=leader R b;have hpq:p≠q:=fun e=>h (p1.trans (e▸q1.symm))
 rcases Nat.lt_or_gt_of_ne hpq with c|c
 ·refine K_drop (m:=q) (by omega) q2 fun x=>⟨fun hx=>⟨fun y hy=>hx y (eqv_add.2 (.inl hy)),?_⟩,fun⟨hx,hxq⟩ y hy=> ?_⟩
  ·rintro rfl
   have:=hx p (eqv_add.2 (.inr (.inr ⟨q1.symm,p1⟩)));omega
  ·rcases eqv_add.1 hy with hy|⟨h1,h2⟩|⟨h1,h2⟩
   ·exact hx y hy
   ·have e1:=hx p (h1.trans p1);have e2:=q2 y (q1.symm.trans h2);omega
   ·have e1:=hx q (h1.trans q1);have e2:=q2 x (q1.symm.trans h1.symm);omega
 ·refine K_drop (m:=p) (by omega) p2 fun x=>⟨fun hx=>⟨fun y hy=>hx y (eqv_add.2 (.inl hy)),?_⟩,fun⟨hx,hxq⟩ y hy=> ?_⟩
  ·rintro rfl
   have:=hx q (eqv_add.2 (.inr (.inl ⟨p1.symm,q1⟩)));omega
  ·rcases eqv_add.1 hy with hy|⟨h1,h2⟩|⟨h1,h2⟩
   ·exact hx y hy
   ·have e1:=hx p (h1.trans p1);have e2:=p2 x (p1.symm.trans h1.symm);omega
   ·have e1:=hx q (h1.trans q1);have e2:=p2 y (p1.symm.trans h2);omega
theorem K_ge{R:Nat→Nat→Prop}{α:Type}{f:Nat→α}(h: ∀ a b,R a b→f a=f b){n:Nat}{reps:List Nat}(hr: ∀ x∈reps,x<n)(hn:(reps.map f).Nodup):reps.length≤K (Eqv R) n:=by
 have key: ∀ reps:List Nat,(∀ x∈reps,x<n)→(reps.map f).Nodup→ ∃ L:List Nat,L.length=reps.length∧L.Nodup∧(∀ m∈L,m<n∧ld (Eqv R) m)∧ ∀ m∈L,f m∈reps.map f:=by
  intro reps
  induction reps with
  |nil=>intro _ _;exact⟨[],rfl,List.nodup_nil,by simp,by simp⟩
  |cons a r ih=>
   intro hr hn;rw[List.map_cons,List.nodup_cons] at hn;obtain⟨L,l1,l2,l3,l4⟩:=ih (fun x hx=>hr x (by simp[hx])) hn.2;obtain⟨m,m1,m2,m3⟩:=leader R a;have hfm:f m=f a:=(m1.inv h).symm;have ha:=hr a (by simp);refine⟨m::L,by simp[l1],List.nodup_cons.2 ⟨fun hm=>hn.1 (hfm▸l4 m hm),l2⟩,fun x hx=> ?_,fun x hx=> ?_⟩
   ·rcases List.mem_cons.1 hx with rfl|hx
    ·exact⟨by omega,m2⟩
    ·exact l3 x hx
   ·rcases List.mem_cons.1 hx with rfl|hx
    ·rw[hfm];simp
    ·rw[List.map_cons];exact List.mem_cons_of_mem _ (l4 x hx)
 obtain⟨L,l1,l2,l3,_⟩:=key reps hr hn;rw[← l1];unfold K;rw[List.countP_eq_length_filter];have sub: ∀ (L M:List Nat),L.Nodup→(∀ x∈L,x∈M)→L.length≤M.length:=by
  intro L
  induction L with
  |nil=>intro M _ _;exact Nat.zero_le _
  |cons a L ih=>
   intro M hn hs;obtain⟨h1,h2⟩:=List.nodup_cons.1 hn;have ha:=hs a (by simp);have:=ih (M.erase a) h2 fun x hx=>(List.mem_erase_of_ne (by rintro rfl;exact h1 hx)).2 (hs x (by simp[hx]))
   rw[List.length_erase_of_mem ha] at this;have:0<M.length:=List.length_pos_of_mem ha;simp only[List.length_cons];omega
 exact sub L _ l2 fun x hx=>List.mem_filter.2 ⟨List.mem_range.2 (l3 x hx).1,ldB_iff.2 (l3 x hx).2⟩
theorem K_one{R:Nat→Nat→Prop}{n:Nat}(h: ∀ x,x<n→Eqv R x 0):K (Eqv R) n≤1:=by
 unfold K;have hz: ∀ x∈List.range n,ldB (Eqv R) x=true→x=0:=fun x hx hl=>by
  have:=ldB_iff.1 hl 0 (h x (List.mem_range.1 hx));omega
 have: ∀ l:List Nat,l.Nodup→(∀ x∈l,ldB (Eqv R) x=true→x=0)→l.countP (ldB (Eqv R))≤1:=by
  intro l
  induction l with
  |nil=>intro _ _;simp
  |cons a l ih=>
   intro hn hl;obtain⟨h1,h2⟩:=List.nodup_cons.1 hn;rw[List.countP_cons];by_cases c:ldB (Eqv R) a=true
   ·have ha:=hl a (by simp) c;subst ha;have:l.countP (ldB (Eqv R))=0:=List.countP_eq_zero.2 fun x hx hxl=>h1 (by have:=hl x (by simp[hx]) hxl;subst this;exact hx)
    simp[c,this]
   ·have:=ih h2 fun x hx=>hl x (by simp[hx])
    simp[c,this]
 exact this _ List.nodup_range hz
structure Perm (n:Nat) (p:Nat→Nat):Prop where
 lt: ∀ x,x<n→p x<n
 inj: ∀ x y,x<n→y<n→p x=p y→x=y
abbrev gr(n:Nat)(p:Nat→Nat)(x y:Nat):Prop:=x<n∧y=p x
def tr (p:Nat→Nat)(t:Nat × Nat)(x:Nat):Nat:=if x=t.1 then p t.2 else if x=t.2 then p t.1 else p x
theorem tr_eq(p:Nat→Nat)(a b x:Nat):tr p (a,b) x=p (if x=a then b else if x=b then a else x):=by
 unfold tr;simp only;split
 ·rfl
 ·split<;>rfl
theorem Perm.tr{n:Nat}{p:Nat→Nat}(h:Perm n p){a b:Nat}(ha:a<n)(hb:b<n):Perm n (tr p (a,b)):=by
 have hs: ∀ x,x<n→(if x=a then b else if x=b then a else x)<n:=fun x hx=>by split<;>(try split)<;>assumption
 refine⟨fun x hx=>by rw[tr_eq];exact h.lt _ (hs x hx),fun x y hx hy e=> ?_⟩;rw[tr_eq,tr_eq] at e;have e:=h.inj _ _ (hs x hx) (hs y hy) e;by_cases x1:x=a
 ·rw[if_pos x1] at e;by_cases y1:y=a
  ·omega
  ·rw[if_neg y1] at e;split at e<;>omega
 ·rw[if_neg x1] at e;by_cases y1:y=a
  ·rw[if_pos y1] at e;split at e<;>omega
  ·rw[if_neg y1] at e;split at e<;>split at e<;>omega
def it (p:Nat→Nat):Nat→Nat→Nat
 |0,x=>x
 |k+1,x=>p (it p k x)
theorem Perm.it_lt{n:Nat}{p:Nat→Nat}(h:Perm n p){x:Nat}(hx:x<n): ∀ k,it p k x<n:=by
 intro k
 induction k with
 |zero=>exact hx
 |succ k ih=>exact h.lt _ ih
theorem Perm.back{n:Nat}{p:Nat→Nat}(h:Perm n p){x:Nat}(hx:x<n): ∀ i j,it p (i+j) x=it p i x→it p j x=x:=by
 intro i
 induction i with
 |zero=>intro j e;rw[Nat.zero_add] at e;exact e
 |succ i ih=>
  intro j e;rw[show i+1+j=(i+j)+1 by omega] at e;exact ih j (h.inj _ _ (h.it_lt hx _) (h.it_lt hx _) e)
theorem sub_len: ∀ (L M:List Nat),L.Nodup→(∀ x∈L,x∈M)→L.length≤M.length:=by
 intro L
 induction L with
 |nil=>intro M _ _;exact Nat.zero_le _
 |cons a L ih=>
  intro M hn hs;obtain⟨h1,h2⟩:=List.nodup_cons.1 hn;have ha:=hs a (by simp);have:=ih (M.erase a) h2 fun x hx=>(List.mem_erase_of_ne (by rintro rfl;exact h1 hx)).2 (hs x (by simp[hx]))
  rw[List.length_erase_of_mem ha] at this;have:0<M.length:=List.length_pos_of_mem ha;simp only[List.length_cons];omega
theorem Perm.cycle{n:Nat}{p:Nat→Nat}(h:Perm n p){x:Nat}(hx:x<n): ∃ m,it p (m+1) x=x:=by
 apply Classical.byContradiction;intro hno;have key: ∀ k,((List.range k).map fun i=>it p i x).Nodup:=by
  intro k
  induction k with
  |zero=>simp
  |succ k ih=>
   rw[List.range_succ,List.map_append,List.nodup_append];refine⟨ih,by simp,fun a ha b hb=> ?_⟩;obtain⟨i,hi,rfl⟩:=List.mem_map.1 ha;have hi:=List.mem_range.1 hi;simp only[List.map_cons,List.map_nil,List.mem_singleton] at hb;subst hb;intro e;have:=h.back hx i (k - i) (by rw[show i+(k - i)=k by omega];exact e.symm);exact hno ⟨k - i - 1,by rw[show k - i - 1+1=k - i by omega];exact this⟩
 have:=sub_len _ (List.range n) (key (n+1)) fun y hy=>by
  obtain⟨i,_,rfl⟩:=List.mem_map.1 hy;exact List.mem_range.2 (h.it_lt hx i)
 rw[List.length_map,List.length_range,List.length_range] at this;omega
theorem it_succ'(p:Nat→Nat)(x:Nat): ∀ k,it p (k+1) x=it p k (p x):=by
 intro k
 induction k with
 |zero=>rfl
 |succ k ih=>show p (it p (k+1) x)=p (it p k (p x));rw[ih]
theorem tr_join{n:Nat}{p:Nat→Nat}(h:Perm n p){a b:Nat}(ha:a<n)(hb:b<n)(hab: ¬ Eqv (gr n p) a b):Eqv (gr n (tr p (a,b))) a b:=by
 obtain⟨m,hm⟩:=h.cycle hb;have e0:tr p (a,b) a=p b:=by unfold tr;rw[if_pos rfl]
 have hcl: ∀ k,Eqv (gr n p) b (it p k b):=by
  intro k
  induction k with
  |zero=>exact .refl _
  |succ k ih=>exact ih.trans (.rel ⟨h.it_lt hb k,rfl⟩)
 have key: ∀ k,Eqv (gr n (tr p (a,b))) a b∨Eqv (gr n (tr p (a,b))) a (it p k (p b)):=by
  intro k
  induction k with
  |zero=>exact .inr (.rel ⟨ha,e0.symm⟩)
  |succ k ih=>
   rcases ih with ih|ih
   ·exact .inl ih
   ·by_cases c:it p k (p b)=b
    ·rw[c] at ih;exact .inl ih
    ·refine .inr (ih.trans (.rel ⟨h.it_lt (h.lt _ hb) k,?_⟩));have na:it p k (p b)≠a:=fun e=>hab (by
      have:=hcl (k+1);rw[it_succ',e] at this;exact this.symm)
     unfold tr;rw[if_neg na,if_neg c];rfl
 rcases key m with k|k
 ·exact k
 ·rw[← it_succ',hm] at k;exact k
theorem add_tr{n:Nat}{p:Nat→Nat}{a b:Nat}(ha:a<n)(hb:b<n){S:Nat→Nat→Prop}{x y:Nat}:Eqv (addR (fun x y=>gr n (tr p (a,b)) x y∨S x y) a b) x y↔Eqv (addR (fun x y=>gr n p x y∨S x y) a b) x y:=by
 have ab: ∀ R:Nat→Nat→Prop,Eqv (addR R a b) a b:=fun R=> .rel (.inr ⟨rfl,rfl⟩)
 constructor
 ·refine Eqv.mono fun u v r=> ?_
  rcases r with (⟨hu,rfl⟩|s)|⟨rfl,rfl⟩
  ·unfold tr;simp only;by_cases c:u=a
   ·subst c;rw[if_pos rfl];exact(ab _).trans (.rel (.inl (.inl ⟨hb,rfl⟩)))
   ·rw[if_neg c];by_cases d:u=b
    ·subst d;rw[if_pos rfl];exact(ab _).symm.trans (.rel (.inl (.inl ⟨ha,rfl⟩)))
    ·rw[if_neg d];exact .rel (.inl (.inl ⟨hu,rfl⟩))
  ·exact .rel (.inl (.inr s))
  ·exact ab _
 ·refine Eqv.mono fun u v r=> ?_
  rcases r with (⟨hu,rfl⟩|s)|⟨rfl,rfl⟩
  ·by_cases c:u=a
   ·subst c;refine(ab _).trans (.rel (.inl (.inl ⟨hb,?_⟩)));unfold tr;simp only;by_cases d:b=u
    ·rw[if_pos d,d]
    ·rw[if_neg d];simp
   ·by_cases d:u=b
    ·subst d;refine(ab _).symm.trans (.rel (.inl (.inl ⟨ha,?_⟩)));unfold tr;rw[if_pos rfl]
    ·refine .rel (.inl (.inl ⟨hu,?_⟩));unfold tr;rw[if_neg c,if_neg d]
  ·exact .rel (.inl (.inr s))
  ·exact ab _
abbrev inT(ts:List (Nat × Nat))(x y:Nat):Prop:=(x,y)∈ts
abbrev grT(n:Nat)(p:Nat→Nat)(ts:List (Nat × Nat))(x y:Nat):Prop:=gr n p x y∨inT ts x y
theorem euler{n:Nat}: ∀ (ts:List (Nat × Nat)) (p:Nat→Nat),Perm n p→(∀ t∈ts,t.1<n∧t.2<n)→
  K (Eqv (gr n (ts.foldl tr p))) n+K (Eqv (gr n p)) n≤2*K (Eqv (grT n p ts)) n+ts.length:=by
 intro ts
 induction ts with
 |nil=>
  intro p _ _;have:K (Eqv (grT n p [])) n=K (Eqv (gr n p)) n:=K_congr (fun x y=>⟨Eqv.mono (R:=grT n p []) (R':=gr n p) (fun u v r=>by
   rcases r with r|r
   ·exact .rel r
   ·cases r),Eqv.mono (R:=gr n p) (R':=grT n p []) (fun u v r=> .rel (.inl r))⟩) n
  rw[this];simp only[List.foldl_nil,List.length_nil];omega
 |cons t ts ih=>
  intro p hp ht;obtain⟨a,b⟩:=t;obtain⟨ha,hb⟩:=ht (a,b) (by simp)
  replace ha:a<n:=ha
  replace hb:b<n:=hb
  have ih:=ih (tr p (a,b)) (hp.tr ha hb) fun t h=>ht t (by simp[h])
  have all: ∀ x y,Eqv (grT n p ((a,b)::ts)) x y↔Eqv (addR (grT n (tr p (a,b)) ts) a b) x y:=fun x y=>by
   refine Iff.trans ⟨Eqv.mono fun u v r=> ?_,Eqv.mono fun u v r=> ?_⟩ (add_tr (S:=inT ts) ha hb).symm
   ·rcases r with r|r
    ·exact .rel (.inl (.inl r))
    ·rcases List.mem_cons.1 r with r|r
     ·cases r;exact .rel (.inr ⟨rfl,rfl⟩)
     ·exact .rel (.inl (.inr r))
   ·rcases r with (r|r)|⟨rfl,rfl⟩
    ·exact .rel (.inl r)
    ·exact .rel (.inr (List.mem_cons_of_mem _ r))
    ·exact .rel (.inr (List.mem_cons_self ..))
  have one: ∀ x y,Eqv (addR (gr n (tr p (a,b))) a b) x y↔Eqv (addR (gr n p) a b) x y:=fun x y=>by
   have h:=add_tr (p:=p) (S:=fun _ _=>False) ha hb (x:=x) (y:=y);have e: ∀ q:Nat→Nat,(fun x y=>gr n q x y∨False)=gr n q:=fun q=>funext fun x=>funext fun y=>propext (by simp)
   rw[e,e] at h;exact h
  rw[K_congr all];simp only[List.foldl_cons,List.length_cons];have kj:K (Eqv (addR (gr n (tr p (a,b))) a b)) n=K (Eqv (addR (gr n p) a b)) n:=K_congr one n;have sm: ∀ R:Nat→Nat→Prop,Eqv R a b→K (Eqv (addR R a b)) n=K (Eqv R) n:=fun R h=>K_same h n
  have jn: ∀ R:Nat→Nat→Prop,¬ Eqv R a b→K (Eqv R) n=K (Eqv (addR R a b)) n+1:=fun R h=>K_join ha hb h
  rcases Classical.em (Eqv (gr n p) a b) with c|c
  ·have k1:=sm _ c;rcases Classical.em (Eqv (gr n (tr p (a,b))) a b) with d|d
   ·have k2:=sm _ d;have k3:=sm _ (d.mono (R':=grT n (tr p (a,b)) ts) fun u v r=> .rel (.inl r));omega
   ·have k2:=jn _ d;rcases Classical.em (Eqv (grT n (tr p (a,b)) ts) a b) with d2|d2
    ·have k3:=sm _ d2;omega
    ·have k3:=jn _ d2;omega
  ·have k1:=jn _ c;have d:=tr_join hp ha hb c;have k2:=sm _ d;have k3:=sm _ (d.mono (R':=grT n (tr p (a,b)) ts) fun u v r=> .rel (.inl r));omega
def rv (x:Nat):Nat:=if x%2=0 then x+1 else x - 1
theorem rv0(k:Nat):rv (2*k)=2*k+1:=by unfold rv;rw[if_pos (by omega)]
theorem rv1(k:Nat):rv (2*k+1)=2*k:=by unfold rv;rw[if_neg (by omega)];rfl
theorem rv_rv(x:Nat):rv (rv x)=x:=by
 rcases Nat.mod_two_eq_zero_or_one x with h|h
 ·rw[show x=2*(x/2) by omega,rv0,rv1]
 ·rw[show x=2*(x/2)+1 by omega,rv1,rv0]
theorem rv_lt{x m:Nat}(h:x<2*m):rv x<2*m:=by unfold rv;split<;>omega
theorem rv_along(n v:Nat)(g:Bool):rv (alongD n v g)=arrD n v (!g):=by
 cases g with
 |true=>exact rv0 _
 |false=>exact rv1 _
theorem rv_arr(n v:Nat)(g:Bool):rv (arrD n v g)=alongD n v (!g):=by
 cases g with
 |true=>exact rv0 _
 |false=>exact rv1 _
theorem arr_lt{n v:Nat}(hv:v<n)(g:Bool):arrD n v g<2*n:=by
 have:=Nat.mod_lt (v+n - 1) (show 0<n by omega);unfold arrD;split<;>omega
theorem arr_of{n x:Nat}(hx:x<2*n):x=arrD n (if x%2=0 then (x/2+1)%n else x/2) (x%2==0):=by
 unfold arrD;rcases Nat.mod_two_eq_zero_or_one x with h|h
 ·simp only[h,beq_self_eq_true,if_true];rw[mod_fore (by omega)];omega
 ·simp only[h,show((1:Nat)==0)=false from rfl,Bool.false_eq_true,if_false,Nat.one_ne_zero];omega
section
variable {F:Nat} {ls:List Let}
theorem turn_arr{v:Nat}{l:Let}(hl:ls[v]? =some l)(fw:Bool):nxt ls (arrD ls.length v fw)=if l.kind==2 then alongD ls.length (otherR ls v) (fw==(l.over==(l.sign==1)))
   else if dn ls v==fw then 2*ls.length+2*(axisR ls).idxOf v else 2*ls.length+2*(((axisR ls).idxOf v+(axisR ls).length - 1)%(axisR ls).length)+1:=by
 have hv:=(List.getElem?_eq_some_iff.1 hl).1;have hlt:=arr_lt hv fw;refine turnD_str (by omega) ?_ ?_ hl
 ·unfold arrD;cases fw<;>simp
 ·unfold arrD;cases fw with
  |true=>
   simp only[if_true];rw[show 2*((v+ls.length - 1)%ls.length)/2=(v+ls.length - 1)%ls.length by omega,mod_back hv]
  |false=>simp only[Bool.false_eq_true,if_false];omega
theorem turn_C{v:Nat}{l:Let}(hl:ls[v]? =some l)(hc:l.isC=true)(fw:Bool):nxt ls (arrD ls.length v fw)=alongD ls.length (otherR ls v) (fw==(l.over==(l.sign==1))):=by
 rw[turn_arr hl];unfold Let.isC at hc;rw[if_pos hc]
theorem turn_P{v:Nat}{l:Let}(hl:ls[v]? =some l)(hp:l.isP=true)(fw:Bool):nxt ls (arrD ls.length v fw)=if dn ls v==fw then 2*ls.length+2*(axisR ls).idxOf v else 2*ls.length+2*(((axisR ls).idxOf v+(axisR ls).length - 1)%(axisR ls).length)+1:=by
 have:=notBoth hp;unfold Let.isC at this;rw[turn_arr hl,if_neg (by rw[this];decide)]
theorem turn_R(k:Nat):nxt ls (2*ls.length+2*k)=alongD ls.length ((axisR ls).getD ((k+1)%(axisR ls).length) 0) (!dn ls ((axisR ls).getD ((k+1)%(axisR ls).length) 0)):=by
 show turnD _ _ _=_;unfold turnD;rw[if_pos (by omega),if_pos (by omega),show(2*ls.length+2*k - 2*ls.length)/2=k by omega]
theorem turn_L(k:Nat):nxt ls (2*ls.length+2*k+1)=alongD ls.length ((axisR ls).getD k 0) (dn ls ((axisR ls).getD k 0)):=by
 show turnD _ _ _=_;unfold turnD;rw[if_pos (by omega),if_neg (by omega),show(2*ls.length+2*k+1 - 2*ls.length)/2=k by omega]
theorem ax_get{k:Nat}(hk:k<(axisR ls).length): ∃ l,ls[(axisR ls).getD k 0]? =some l∧l.isP=true:=by
 obtain⟨v,hv⟩:=at_lt hk;rw[List.getD_eq_getElem?_getD,hv,Option.getD_some];exact axisR_mem.1 (List.mem_of_getElem? hv)
theorem ax_idx{v:Nat}{l:Let}(ok:dgOK F ls)(hl:ls[v]? =some l)(hp:l.isP=true):(axisR ls).idxOf v<(axisR ls).length∧(axisR ls).getD ((axisR ls).idxOf v) 0=v:=by
 have h1:=axis_place ok.ax hl hp;rw[axis_idx ok.ax hl hp];exact⟨(List.getElem?_eq_some_iff.1 h1).1,by rw[List.getD_eq_getElem?_getD,h1];rfl⟩
theorem straight(ok:dgOK F ls){v:Nat}(hv:v<ls.length)(fw:Bool):nxt ls (rv (nxt ls (arrD ls.length v fw)))=alongD ls.length v fw:=by
 obtain⟨l,hl⟩:=at_lt hv;rcases ok.kinds l (List.mem_of_getElem? hl) with hp|hc
 ·obtain⟨h1,h2⟩:=ax_idx ok hl hp;rw[turn_P hl hp];by_cases c:(dn ls v==fw)=true
  ·rw[if_pos c,show 2*ls.length+2*(axisR ls).idxOf v=2*(ls.length+(axisR ls).idxOf v) by omega,rv0,show 2*(ls.length+(axisR ls).idxOf v)+1=2*ls.length+2*(axisR ls).idxOf v+1 by omega,turn_L,h2];rw[eq_of_beq c]
  ·rw[if_neg c];have c:dn ls v= !fw:=by revert c;cases dn ls v<;>cases fw<;>simp
   have hm:=Nat.mod_lt ((axisR ls).idxOf v+(axisR ls).length - 1) (show 0<(axisR ls).length by omega);rw[show 2*ls.length+2*(((axisR ls).idxOf v+(axisR ls).length - 1)%(axisR ls).length)+1=2*(ls.length+((axisR ls).idxOf v+(axisR ls).length - 1)%(axisR ls).length)+1 by omega,rv1,
    show 2*(ls.length+((axisR ls).idxOf v+(axisR ls).length - 1)%(axisR ls).length)=2*ls.length+2*(((axisR ls).idxOf v+(axisR ls).length - 1)%(axisR ls).length) by omega,turn_R,mod_back h1,h2,c,Bool.not_not]
 ·obtain⟨h1,m,hm,mc,mi,mo,ms⟩:=otherR_back ok.cr hl hc;rw[turn_C hl hc,rv_along,turn_C hm mc,h1,mo,ms];cases fw<;>cases l.over<;>cases (l.sign==1)<;>rfl
def headL(ls:List Let)(x:Nat):Nat:=
 if 2*ls.length≤x then (if x%2=0 then (axisR ls).getD (((x - 2*ls.length)/2+1)%(axisR ls).length) 0 else (axisR ls).getD ((x - 2*ls.length)/2) 0)
 else if x%2=0 then (x/2+1)%ls.length else x/2
def acL(ls:List Let)(x:Nat):Bool:=decide (2*ls.length≤x)||(match ls[headL ls x]? with|some l=>l.isC&&l.over|none=>false)
def vlL(ls:List Let)(i:Nat):Int × Int:=match ls[i]? with|some l=>if l.isC then (1,l.id) else (0,i)|none=>(2,0)
theorem head_arr{v:Nat}(hv:v<ls.length)(fw:Bool):headL ls (arrD ls.length v fw)=v:=by
 have hlt:=arr_lt hv fw;unfold headL;rw[if_neg (by omega)];unfold arrD;cases fw with
 |true=>
  simp only[if_true];rw[if_pos (by omega),show 2*((v+ls.length - 1)%ls.length)/2=(v+ls.length - 1)%ls.length by omega,mod_back hv]
 |false=>simp only[Bool.false_eq_true,if_false];rw[if_neg (by omega)];omega
theorem ac_arr{v:Nat}{l:Let}(hl:ls[v]? =some l)(fw:Bool):acL ls (arrD ls.length v fw)=(l.isC&&l.over):=by
 have hv:=(List.getElem?_eq_some_iff.1 hl).1;have hlt:=arr_lt hv fw;unfold acL;rw[head_arr hv,hl];have: ¬ 2*ls.length≤arrD ls.length v fw:=by omega
 simp[this]
theorem head_R(k:Nat):headL ls (2*ls.length+2*k)=(axisR ls).getD ((k+1)%(axisR ls).length) 0:=by
 unfold headL;rw[if_pos (by omega),if_pos (by omega),show(2*ls.length+2*k - 2*ls.length)/2=k by omega]
theorem head_L(k:Nat):headL ls (2*ls.length+2*k+1)=(axisR ls).getD k 0:=by
 unfold headL;rw[if_pos (by omega),if_neg (by omega),show(2*ls.length+2*k+1 - 2*ls.length)/2=k by omega]
theorem ac_ax{x:Nat}(h:2*ls.length≤x):acL ls x=true:=by unfold acL;simp[h]
theorem turn_lab(ok:dgOK F ls){x:Nat}(hx:x<nD ls):vlL ls (headL ls (rv (nxt ls x)))=vlL ls (headL ls x)∧acL ls (rv (nxt ls x))= !acL ls x:=by
 unfold nD at hx;rcases Nat.lt_or_ge x (2*ls.length) with c|c
 ·have hv:(if x%2=0 then (x/2+1)%ls.length else x/2)<ls.length:=by
   have:=Nat.mod_lt (x/2+1) (show 0<ls.length by omega);split<;>omega
  rw[arr_of c];generalize (if x%2=0 then (x/2+1)%ls.length else x/2)=v at hv;generalize (x%2==0)=fw;obtain⟨l,hl⟩:=at_lt hv;rw[head_arr hv,ac_arr hl];rcases ok.kinds l (List.mem_of_getElem? hl) with hp|hc
  ·obtain⟨h1,h2⟩:=ax_idx ok hl hp;rw[notBoth hp,turn_P hl hp];by_cases d:(dn ls v==fw)=true
   ·rw[if_pos d,show 2*ls.length+2*(axisR ls).idxOf v=2*(ls.length+(axisR ls).idxOf v) by omega,rv0,show 2*(ls.length+(axisR ls).idxOf v)+1=2*ls.length+2*(axisR ls).idxOf v+1 by omega,head_L,h2,ac_ax (by omega)];exact⟨rfl,rfl⟩
   ·rw[if_neg d,show 2*ls.length+2*(((axisR ls).idxOf v+(axisR ls).length - 1)%(axisR ls).length)+1=2*(ls.length+((axisR ls).idxOf v+(axisR ls).length - 1)%(axisR ls).length)+1 by omega,rv1,
     show 2*(ls.length+((axisR ls).idxOf v+(axisR ls).length - 1)%(axisR ls).length)=2*ls.length+2*(((axisR ls).idxOf v+(axisR ls).length - 1)%(axisR ls).length) by omega,head_R,mod_back h1,h2,ac_ax (by omega)]
    exact⟨rfl,rfl⟩
  ·obtain⟨h1,m,hm,mc,mi,mo,ms⟩:=otherR_back ok.cr hl hc;have hw:=(List.getElem?_eq_some_iff.1 hm).1;rw[turn_C hl hc,rv_along,head_arr hw,ac_arr hm];unfold vlL;simp[hl,hm,hc,mc,mi,mo]
 ·rw[ac_ax c];have key: ∀ k,k<(axisR ls).length→ ∀ g,vlL ls (headL ls (rv (alongD ls.length ((axisR ls).getD k 0) g)))=vlL ls ((axisR ls).getD k 0)∧acL ls (rv (alongD ls.length ((axisR ls).getD k 0) g))= !true:=fun k hk g=>by
   obtain⟨l,hl,hp⟩:=ax_get hk;rw[rv_along,head_arr (List.getElem?_eq_some_iff.1 hl).1,ac_arr hl,notBoth hp];exact⟨rfl,rfl⟩
  rcases Nat.mod_two_eq_zero_or_one x with d|d
  ·rw[show x=2*ls.length+2*((x - 2*ls.length)/2) by omega,turn_R,head_R];exact key _ (Nat.mod_lt _ (by omega)) _
  ·rw[show x=2*ls.length+2*((x - 2*ls.length)/2)+1 by omega,turn_L,head_L];exact key _ (by omega) _
end
theorem walkF_joined{next:Nat→Nat}{N:Nat}{R:Nat→Nat→Prop}(hlt: ∀ x,x<N→next x<N)(h: ∀ x,x<N→Eqv R x (next x)): ∀ (k x:Nat) (S:List Bool),x<N→ ∀ y∈(walkF next k x S).1,Eqv R x y:=by
 intro k
 induction k with
 |zero=>intro x S _ y hy;simp[walkF] at hy
 |succ k ih=>
  intro x S hx y hy;unfold walkF at hy;split at hy
  ·simp at hy
  ·rcases List.mem_cons.1 hy with rfl|hy
   ·exact .refl _
   ·exact(h x hx).trans (ih (next x) _ (hlt x hx) y hy)
theorem walksK_joined{next:Nat→Nat}{n2 N:Nat}(m:Maps next n2 N){R:Nat→Nat→Prop}(h: ∀ x,x<N→Eqv R x (next x)): ∀ k,k≤N→ ∀ w∈(walksK next N k).1,∀ x∈w,∀ y∈w,Eqv R x y:=by
 intro k
 induction k with
 |zero=>intro _ w hw;simp[walksK] at hw
 |succ k ih=>
  intro hk w hw x hx y hy;rw[walksK_succ] at hw;unfold walkStep at hw;split at hw
  ·exact ih (by omega) w hw x hx y hy
  ·rcases List.mem_append.1 hw with hw|hw
   ·exact ih (by omega) w hw x hx y hy
   ·simp only[List.mem_singleton] at hw;subst hw;have hj:=walkF_joined (R:=R) m.lt h ((walksK next N k).2.length+1) k (walksK next N k).2 (by omega);exact(hj x hx).symm.trans (hj y hy)
theorem walks_next{next:Nat→Nat}{n2 N:Nat}(m:Maps next n2 N): ∀ k,k≤n2→ ∀ w∈(walksK next N k).1,∀ x∈w,next x∈w:=by
 intro k
 induction k with
 |zero=>intro _ w hw;simp[walksK] at hw
 |succ k ih=>
  intro hk w hw x hx;obtain⟨c0,_⟩:=walksK_closed m k (by omega);obtain⟨c1,_⟩:=walksK_closed m (k+1) hk;rw[walksK_succ] at hw c1;unfold walkStep at hw c1;cases hs:(walksK next N k).2.getD k true with
  |true=>
   rw[hs,if_pos rfl] at hw;exact ih (by omega) w hw x hx
  |false=>
   rw[hs,if_neg (by decide)] at hw c1;rcases List.mem_append.1 hw with hw|hw
   ·exact ih (by omega) w hw x hx
   ·simp only[List.mem_singleton] at hw;subst hw;obtain⟨g1,g2,g3⟩:=walkF_spec next ((walksK next N k).2.length+1) k (walksK next N k).2;have hxN:x<N:=by
     have:=sn_lt (g1 x hx);have:=walksK_len next N k;omega
    have e0:=c0 x hxN;have e1:=c1 x hxN;rw[g3,g3,g1 x hx] at e1;rw[g1 x hx] at e0;simp only[Bool.false_or,hx,decide_true,← e0] at e1;exact of_decide_eq_true e1.symm
theorem walksL_next{next:Nat→Nat}{n2 N:Nat}(m:Maps next n2 N){w:List Nat}(hw:w∈walksL next N){x:Nat}(hx:x∈w):next x∈w:=by
 unfold walksL at hw;rw[walksK_end m N m.le (Nat.le_refl _)] at hw;exact walks_next m n2 (Nat.le_refl _) w hw x hx
theorem walksL_joined{next:Nat→Nat}{n2 N:Nat}(m:Maps next n2 N){R:Nat→Nat→Prop}(h: ∀ x,x<N→Eqv R x (next x)){w:List Nat}(hw:w∈walksL next N){x y:Nat}(hx:x∈w)(hy:y∈w):Eqv R x y:=
 walksK_joined m h N (Nat.le_refl _) w hw x hx y hy
def widx(L:List (List Nat))(x:Nat):Nat:=L.findIdx fun w=>w.contains x
theorem widx_of{L:List (List Nat)}(h:L.flatten.Nodup){i x:Nat}{w:List Nat}(hi:L[i]? =some w)(hx:x∈w):widx L x=i:=by
 have hm:w.contains x=true:=by simpa using hx
 have hlt:L.findIdx (fun w=>w.contains x)<L.length:=List.findIdx_lt_length_of_exists ⟨w,List.mem_of_getElem? hi,hm⟩;have hp:=List.findIdx_getElem (w:=hlt);have hj:L[L.findIdx fun w=>w.contains x]? =some (L[L.findIdx fun w=>w.contains x]'hlt):=List.getElem?_eq_getElem hlt;exact nodup_idx h hj hi (by simpa using hp) hx
theorem idx_nodup: ∀ {L:List (List Nat)},L.flatten.Nodup→(∀ w∈L,w≠[])→((L.map (·.headD 0)).map (widx L))=List.range L.length:=by
 intro L h hne;apply List.ext_getElem?;intro i;rw[List.getElem?_map,List.getElem?_map];by_cases hi:i<L.length
 ·have e:=List.getElem?_eq_getElem hi;rw[e,List.getElem?_range hi];simp only[Option.map_some];have hw:=hne _ (List.mem_of_getElem? e);rw[widx_of h e (x:=L[i].headD 0) (by
   cases hL:L[i] with
   |nil=>exact absurd hL hw
   |cons a r=>simp)]
 ·rw[List.getElem?_eq_none (by omega),List.getElem?_eq_none (by simp;omega)];rfl
end Go.Abs
