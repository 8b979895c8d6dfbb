/-
  Euler's inequality for permutations, and the plain laws of the moves.
-/
import Derived.Test.YtnbfnkckmfibpaaGreatDoorVo
set_option linter.unusedSimpArgs false
set_option linter.unusedVariables false
set_option linter.unusedSectionVars false
set_option maxHeartbeats 16000000
namespace Go.Abs
theorem find_congr{α:Type}{l:List α}{p q:α->Bool}(h: ∀ x∈l,p x=q x):l.find? p=l.find? q:=by
 induction l with
 |nil=>rfl
 |cons a l ih=>
  rw[List.find?_cons,List.find?_cons,h a (adc ..),ih fun x hx=>h x (acl _ hx)]
theorem Ki{l:List Pc}{f:Nat}(hf:f<=l.length):qD l f l.length=(l.drop f++l.take f).map Pc.l:=by
 apply ade;intro i;by_cases hi:i<l.length
 ·have h1:(qD l f l.length)[i]? =some (l.getD ((f+i)%l.length) ⟨hH,false⟩).l:=by
   simp[qD,hi]
  rw[h1,aaA];by_cases h2:f+i<l.length
  ·rw[acr (by simp;omega),act,abF h2];simp[h2]
  ·rw[acn (by simp;omega),abY];have h3:(f+i)%l.length=i - (l.length - f):=by
    rw[Nat.mod_eq_sub_mod (by omega),abF (by omega)];omega
   have h4:i - (l.length - f)<l.length:=by omega
   rw[h3,abi,if_pos (by omega)];simp[h4]
 ·have h1:(qD l f l.length).length=l.length:=by simp[qD]
  rw[abI (by rw[h1];omega),abI (by simp;omega)]
theorem Oo{l:List Pc}{L:List ae}{D:List Bool}(hL:l.map Pc.l=L)(hd:D.length=l.length)(h: ∀ (i:Nat) (p:Pc),l[i]? =some p->(p.l.kind==1)=true->D[i]? =some p.d):qc l=mP L D:=by
 subst hL;have hf:iX l=Sl (l.map Pc.l) D:=by
  unfold iX Sl;rw[aak];refine find_congr fun i hi=> ?_
  have hi:i<l.length:=by simpa using hi
  obtain⟨p,hp⟩:=ao hi;obtain⟨d,hD⟩:=ao (ls:=D) (k:=i) (by omega);have UX:(l.map Pc.l)[i]? =some p.l:=by rw[aaA,hp];rfl
  simp only[Sq,Qu,hp,UX,hD,Sc];cases hk:(p.l.kind==1) with
  |false=>simp
  |true=>
   have:=h i p hp hk;rw[hD] at this;cases this
   simp
 unfold qc mP;rw[<- hf];cases hq:iX l with
 |none=>
  simp only[Option.getD_none];rw[Ki (aah _)];simp
 |some i=>
  have hi:i<l.length:=by
   have:=adt hq
   simpa using this
  simp only[aaS];rw[Ki (Nat.le_of_lt hi),abQ,List.map_drop,List.map_take]
inductive dT (R:Nat->Nat->Prop):Nat->Nat->Prop
 |rel {a b:Nat}:R a b->dT R a b
 |refl (a:Nat):dT R a a
 |symm {a b:Nat}:dT R a b->dT R b a
 |trans {a b c:Nat}:dT R a b->dT R b c->dT R a c
theorem dT.mono{R R':Nat->Nat->Prop}(h: ∀ a b,R a b->dT R' a b){x y:Nat}(e:dT R x y):dT R' x y:=by
 induction e with
 |rel r=>exact h _ _ r
 |refl a=>exact .refl a
 |symm _ ih=>exact .symm ih
 |trans _ _ i1 i2=>exact .trans i1 i2
theorem dT.inv{R:Nat->Nat->Prop}{α:Type}{f:Nat->α}(h: ∀ a b,R a b->f a=f b){x y:Nat}(e:dT R x y):f x=f y:=by
 induction e with
 |rel r=>exact h _ _ r
 |refl a=>rfl
 |symm _ ih=>exact ih.symm
 |trans _ _ i1 i2=>exact i1.trans i2
def ld (E:Nat->Nat->Prop)(x:Nat):Prop:= ∀ y,E x y->x<=y
noncomputable def N6 (E:Nat->Nat->Prop) (x:Nat):Bool:= @decide (ld E x) (Classical.propDecidable _)
theorem qX{E:Nat->Nat->Prop}{x:Nat}:N6 E x=true↔ld E x:=by
 unfold N6;exact @decide_eq_true_iff _ (Classical.propDecidable _)
noncomputable def K (E:Nat->Nat->Prop) (n:Nat):Nat:=(List.range n).countP (N6 E)
theorem uC{E E':Nat->Nat->Prop}(h: ∀ x y,E x y↔E' x y)(n:Nat):K E n=K E' n:=by
 have:E=E':=funext fun x=>funext fun y=>propext (h x y)
 rw[this]
theorem Aw{p:Nat->Prop}: ∀ n,p n-> ∃ m,p m/\ ∀ k,p k->m<=k:=by
 intro n
 induction n using Nat.strongRecOn with
 |ind n ih=>
  intro h;rcases Classical.em (∃ k,k<n/\p k) with ⟨k,hk,hp⟩|TW
  ·exact ih k hk hp
  ·exact⟨n,h,fun k hk=>Nat.le_of_not_lt fun Ti=>TW ⟨k,Ti,hk⟩⟩
theorem EX(R:Nat->Nat->Prop)(x:Nat): ∃ m,dT R x m/\ld (dT R) m/\m<=x:=by
 obtain⟨m,h1,h2⟩:=Aw (p:=fun y=>dT R x y) x (.refl x);exact⟨m,h1,fun y hy=>h2 y (h1.trans hy),h2 x (.refl x)⟩
theorem Dd{p:Nat->Bool}{x:Nat}(hp:p x=true): ∀ {l:List Nat},l.Nodup->x∈l->l.countP p=l.countP (fun y=>p y&&y !=x)+1:=by
 intro l
 induction l with
 |nil=>intro _ h;cases h
 |cons a l ih=>
  intro hn hm;obtain⟨h1,h2⟩:=abD.1 hn;rw[abV,abV];by_cases e:a=x
  ·subst e;have hc:l.countP p=l.countP (fun y=>p y&&y !=a):=List.countP_congr fun y hy=>by
    have:(y !=a)=true:=by simp;rintro rfl;exact h1 hy
    simp[this]
   simp[hp,hc]
  ·have hx:x∈l:=by rcases aat.1 hm with h|h;exact absurd h.symm e;exact h
   rw[ih h2 hx];have:(a !=x)=true:=by simp[e]
   simp only[this,ach];omega
abbrev qm(R:Nat->Nat->Prop)(a b:Nat)(x y:Nat):Prop:=R x y\/(x=a/\y=b)
theorem mB{R:Nat->Nat->Prop}{a b x y:Nat}:dT (qm R a b) x y↔dT R x y\/(dT R x a/\dT R b y)\/(dT R x b/\dT R a y):=by
 constructor
 ·intro h
  induction h with
  |rel r=>
   rcases r with r|⟨rfl,rfl⟩
   ·exact .inl (.rel r)
   ·exact .inr (.inl ⟨.refl _, .refl _⟩)
  |refl a=>exact .inl (.refl a)
  |symm _ ih=>
   rcases ih with h|⟨h1,h2⟩|⟨h1,h2⟩
   ·exact .inl h.symm
   ·exact .inr (.inr ⟨h2.symm,h1.symm⟩)
   ·exact .inr (.inl ⟨h2.symm,h1.symm⟩)
  |trans _ _ i1 i2=>
   rcases i1 with h|⟨h1,h2⟩|⟨h1,h2⟩<;>rcases i2 with k|⟨k1,k2⟩|⟨k1,k2⟩
   ·exact .inl (h.trans k)
   ·exact .inr (.inl ⟨h.trans k1,k2⟩)
   ·exact .inr (.inr ⟨h.trans k1,k2⟩)
   ·exact .inr (.inl ⟨h1,h2.trans k⟩)
   ·exact .inr (.inl ⟨h1,k2⟩)
   ·exact .inl (h1.trans k2)
   ·exact .inr (.inr ⟨h1,h2.trans k⟩)
   ·exact .inl (h1.trans k2)
   ·exact .inr (.inr ⟨h1,k2⟩)
 ·have up: ∀ {u v},dT R u v->dT (qm R a b) u v:=fun h=>h.mono fun _ _ r=> .rel (.inl r)
  have ab:dT (qm R a b) a b:= .rel (.inr ⟨rfl,rfl⟩);rintro (h|⟨h1,h2⟩|⟨h1,h2⟩)
  ·exact up h
  ·exact(up h1).trans (ab.trans (up h2))
  ·exact(up h1).trans (ab.symm.trans (up h2))
theorem R6{R:Nat->Nat->Prop}{a b:Nat}(h:dT R a b)(n:Nat):K (dT (qm R a b)) n=K (dT R) n:=by
 refine uC (fun x y=> ?_) n;rw[mB];constructor
 ·rintro (k|⟨h1,h2⟩|⟨h1,h2⟩)
  ·exact k
  ·exact h1.trans (h.trans h2)
  ·exact h1.trans (h.symm.trans h2)
 ·exact .inl
theorem MD{E E':Nat->Nat->Prop}{n m:Nat}(hm:m<n)(h0:ld E m)(h: ∀ x,ld E' x↔ld E x/\x≠m):K E n=K E' n+1:=by
 unfold K;rw[Dd (p:=N6 E) (x:=m) (qX.2 h0) List.nodup_range (aaE.2 hm)];congr 1;refine List.countP_congr fun x _=> ?_
 rw[qX,h,aan,qX];simp
theorem R7{R:Nat->Nat->Prop}{a b n:Nat}(ha:a<n)(hb:b<n)(h: ¬ dT R a b):K (dT R) n=K (dT (qm R a b)) n+1:=by
 obtain⟨p,p1,p2,p3⟩:=EX R a;obtain⟨q,q1,q2,q3⟩:=EX R b;have hpq:p≠q:=fun e=>h (p1.trans (e▸q1.symm))
 rcases Nat.lt_or_gt_of_ne hpq with c|c
 ·refine MD (m:=q) (by omega) q2 fun x=>⟨fun hx=>⟨fun y hy=>hx y (mB.2 (.inl hy)),?_⟩,fun⟨hx,hxq⟩ y hy=> ?_⟩
  ·rintro rfl
   have:=hx p (mB.2 (.inr (.inr ⟨q1.symm,p1⟩)));omega
  ·rcases mB.1 hy with hy|⟨h1,h2⟩|⟨h1,h2⟩
   ·exact hx y hy
   ·have e1:=hx p (h1.trans p1);have e2:=q2 y (q1.symm.trans h2);omega
   ·have e1:=hx q (h1.trans q1);have e2:=q2 x (q1.symm.trans h1.symm);omega
 ·refine MD (m:=p) (by omega) p2 fun x=>⟨fun hx=>⟨fun y hy=>hx y (mB.2 (.inl hy)),?_⟩,fun⟨hx,hxq⟩ y hy=> ?_⟩
  ·rintro rfl
   have:=hx q (mB.2 (.inr (.inl ⟨p1.symm,q1⟩)));omega
  ·rcases mB.1 hy with hy|⟨h1,h2⟩|⟨h1,h2⟩
   ·exact hx y hy
   ·have e1:=hx p (h1.trans p1);have e2:=p2 x (p1.symm.trans h1.symm);omega
   ·have e1:=hx q (h1.trans q1);have e2:=p2 y (p1.symm.trans h2);omega
theorem Ta{R:Nat->Nat->Prop}{α:Type}{f:Nat->α}(h: ∀ a b,R a b->f a=f b){n:Nat}{reps:List Nat}(hr: ∀ x∈reps,x<n)(hn:(reps.map f).Nodup):reps.length<=K (dT R) n:=by
 have key: ∀ reps:List Nat,(∀ x∈reps,x<n)->(reps.map f).Nodup-> ∃ L:List Nat,L.length=reps.length/\L.Nodup/\(∀ m∈L,m<n/\ld (dT R) m)/\ ∀ m∈L,f m∈reps.map f:=by
  intro reps
  induction reps with
  |nil=>intro _ _;exact⟨[],rfl,ace,by simp,by simp⟩
  |cons a r ih=>
   intro hr hn;rw[aas,abD] at hn;obtain⟨L,l1,l2,l3,l4⟩:=ih (fun x hx=>hr x (by simp[hx])) hn.2;obtain⟨m,m1,m2,m3⟩:=EX R a;have hfm:f m=f a:=(m1.inv h).symm;have ha:=hr a (by simp);refine⟨m::L,by simp[l1],abD.2 ⟨fun hm=>hn.1 (hfm▸l4 m hm),l2⟩,fun x hx=> ?_,fun x hx=> ?_⟩
   ·rcases aat.1 hx with rfl|hx
    ·exact⟨by omega,m2⟩
    ·exact l3 x hx
   ·rcases aat.1 hx with rfl|hx
    ·rw[hfm];simp
    ·rw[aas];exact acl _ (l4 x hx)
 obtain⟨L,l1,l2,l3,_⟩:=key reps hr hn;rw[<- l1];unfold K;rw[List.countP_eq_length_filter];have sub: ∀ (L M:List Nat),L.Nodup->(∀ x∈L,x∈M)->L.length<=M.length:=by
  intro L
  induction L with
  |nil=>intro M _ _;exact aah _
  |cons a L ih=>
   intro M hn hs;obtain⟨h1,h2⟩:=abD.1 hn;have ha:=hs a (by simp);have:=ih (M.erase a) h2 fun x hx=>(List.mem_erase_of_ne (by rintro rfl;exact h1 hx)).2 (hs x (by simp[hx]))
   rw[List.length_erase_of_mem ha] at this;have:0<M.length:=List.length_pos_of_mem ha;simp only[aar];omega
 exact sub L _ l2 fun x hx=>acf.2 ⟨aaE.2 (l3 x hx).1,qX.2 (l3 x hx).2⟩
theorem S9{R:Nat->Nat->Prop}{n:Nat}(h: ∀ x,x<n->dT R x 0):K (dT R) n<=1:=by
 unfold K;have hz: ∀ x∈List.range n,N6 (dT R) x=true->x=0:=fun x hx hl=>by
  have:=qX.1 hl 0 (h x (aaE.1 hx));omega
 have: ∀ l:List Nat,l.Nodup->(∀ x∈l,N6 (dT R) x=true->x=0)->l.countP (N6 (dT R))<=1:=by
  intro l
  induction l with
  |nil=>intro _ _;simp
  |cons a l ih=>
   intro hn hl;obtain⟨h1,h2⟩:=abD.1 hn;rw[abV];by_cases c:N6 (dT R) a=true
   ·have ha:=hl a (by simp) c;subst ha;have:l.countP (N6 (dT R))=0:=adw.2 fun x hx XC=>h1 (by have:=hl x (by simp[hx]) XC;subst this;exact hx)
    simp[c,this]
   ·have:=ih h2 fun x hx=>hl x (by simp[hx])
    simp[c,this]
 exact this _ List.nodup_range hz
structure Perm (n:Nat) (p:Nat->Nat):Prop where
 lt: ∀ x,x<n->p x<n
 inj: ∀ x y,x<n->y<n->p x=p y->x=y
abbrev gr(n:Nat)(p:Nat->Nat)(x y:Nat):Prop:=x<n/\y=p x
def tr (p:Nat->Nat)(t:Nat × Nat)(x:Nat):Nat:=if x=t.1 then p t.2 else if x=t.2 then p t.1 else p x
theorem Bh(p:Nat->Nat)(a b x:Nat):tr p (a,b) x=p (if x=a then b else if x=b then a else x):=by
 unfold tr;simp only;split
 ·rfl
 ·split<;>rfl
theorem Perm.tr{n:Nat}{p:Nat->Nat}(h:Perm n p){a b:Nat}(ha:a<n)(hb:b<n):Perm n (tr p (a,b)):=by
 have hs: ∀ x,x<n->(if x=a then b else if x=b then a else x)<n:=fun x hx=>by split<;>(try split)<;>assumption
 refine⟨fun x hx=>by rw[Bh];exact h.lt _ (hs x hx),fun x y hx hy e=> ?_⟩;rw[Bh,Bh] at e;have e:=h.inj _ _ (hs x hx) (hs y hy) e;by_cases x1:x=a
 ·rw[if_pos x1] at e;by_cases y1:y=a
  ·omega
  ·rw[if_neg y1] at e;split at e<;>omega
 ·rw[if_neg x1] at e;by_cases y1:y=a
  ·rw[if_pos y1] at e;split at e<;>omega
  ·rw[if_neg y1] at e;split at e<;>split at e<;>omega
def it (p:Nat->Nat):Nat->Nat->Nat
 |0,x=>x
 |k+1,x=>p (it p k x)
theorem Perm.Cu{n:Nat}{p:Nat->Nat}(h:Perm n p){x:Nat}(hx:x<n): ∀ k,it p k x<n:=by
 intro k
 induction k with
 |zero=>exact hx
 |succ k ih=>exact h.lt _ ih
theorem Perm.back{n:Nat}{p:Nat->Nat}(h:Perm n p){x:Nat}(hx:x<n): ∀ i j,it p (i+j) x=it p i x->it p j x=x:=by
 intro i
 induction i with
 |zero=>intro j e;rw[abC] at e;exact e
 |succ i ih=>
  intro j e;rw[show i+1+j=(i+j)+1 by omega] at e;exact ih j (h.inj _ _ (h.Cu hx _) (h.Cu hx _) e)
theorem M6: ∀ (L M:List Nat),L.Nodup->(∀ x∈L,x∈M)->L.length<=M.length:=by
 intro L
 induction L with
 |nil=>intro M _ _;exact aah _
 |cons a L ih=>
  intro M hn hs;obtain⟨h1,h2⟩:=abD.1 hn;have ha:=hs a (by simp);have:=ih (M.erase a) h2 fun x hx=>(List.mem_erase_of_ne (by rintro rfl;exact h1 hx)).2 (hs x (by simp[hx]))
  rw[List.length_erase_of_mem ha] at this;have:0<M.length:=List.length_pos_of_mem ha;simp only[aar];omega
theorem Perm.SP{n:Nat}{p:Nat->Nat}(h:Perm n p){x:Nat}(hx:x<n): ∃ m,it p (m+1) x=x:=by
 apply Classical.byContradiction;intro TW;have key: ∀ k,((List.range k).map fun i=>it p i x).Nodup:=by
  intro k
  induction k with
  |zero=>simp
  |succ k ih=>
   rw[abE,abQ,adb];refine⟨ih,by simp,fun a ha b hb=> ?_⟩;obtain⟨i,hi,rfl⟩:=aaF.1 ha;have hi:=aaE.1 hi;simp only[aas,aaG,adq] at hb;subst hb;intro e;have:=h.back hx i (k - i) (by rw[show i+(k - i)=k by omega];exact e.symm);exact TW ⟨k - i - 1,by rw[show k - i - 1+1=k - i by omega];exact this⟩
 have:=M6 _ (List.range n) (key (n+1)) fun y hy=>by
  obtain⟨i,_,rfl⟩:=aaF.1 hy;exact aaE.2 (h.Cu hx i)
 rw[aak,List.length_range,List.length_range] at this;omega
theorem Ct(p:Nat->Nat)(x:Nat): ∀ k,it p (k+1) x=it p k (p x):=by
 intro k
 induction k with
 |zero=>rfl
 |succ k ih=>show p (it p (k+1) x)=p (it p k (p x));rw[ih]
theorem MU{n:Nat}{p:Nat->Nat}(h:Perm n p){a b:Nat}(ha:a<n)(hb:b<n)(WP: ¬ dT (gr n p) a b):dT (gr n (tr p (a,b))) a b:=by
 obtain⟨m,hm⟩:=h.SP hb;have e0:tr p (a,b) a=p b:=by unfold tr;rw[if_pos rfl]
 have Uk: ∀ k,dT (gr n p) b (it p k b):=by
  intro k
  induction k with
  |zero=>exact .refl _
  |succ k ih=>exact ih.trans (.rel ⟨h.Cu hb k,rfl⟩)
 have key: ∀ k,dT (gr n (tr p (a,b))) a b\/dT (gr n (tr p (a,b))) a (it p k (p b)):=by
  intro k
  induction k with
  |zero=>exact .inr (.rel ⟨ha,e0.symm⟩)
  |succ k ih=>
   rcases ih with ih|ih
   ·exact .inl ih
   ·by_cases c:it p k (p b)=b
    ·rw[c] at ih;exact .inl ih
    ·refine .inr (ih.trans (.rel ⟨h.Cu (h.lt _ hb) k,?_⟩));have na:it p k (p b)≠a:=fun e=>WP (by
      have:=Uk (k+1);rw[Ct,e] at this;exact this.symm)
     unfold tr;rw[if_neg na,if_neg c];rfl
 rcases key m with k|k
 ·exact k
 ·rw[<- Ct,hm] at k;exact k
theorem Ms{n:Nat}{p:Nat->Nat}{a b:Nat}(ha:a<n)(hb:b<n){S:Nat->Nat->Prop}{x y:Nat}:dT (qm (fun x y=>gr n (tr p (a,b)) x y\/S x y) a b) x y↔dT (qm (fun x y=>gr n p x y\/S x y) a b) x y:=by
 have ab: ∀ R:Nat->Nat->Prop,dT (qm R a b) a b:=fun R=> .rel (.inr ⟨rfl,rfl⟩)
 constructor
 ·refine dT.mono fun u v r=> ?_
  rcases r with (⟨hu,rfl⟩|s)|⟨rfl,rfl⟩
  ·unfold tr;simp only;by_cases c:u=a
   ·subst c;rw[if_pos rfl];exact(ab _).trans (.rel (.inl (.inl ⟨hb,rfl⟩)))
   ·rw[if_neg c];by_cases d:u=b
    ·subst d;rw[if_pos rfl];exact(ab _).symm.trans (.rel (.inl (.inl ⟨ha,rfl⟩)))
    ·rw[if_neg d];exact .rel (.inl (.inl ⟨hu,rfl⟩))
  ·exact .rel (.inl (.inr s))
  ·exact ab _
 ·refine dT.mono fun u v r=> ?_
  rcases r with (⟨hu,rfl⟩|s)|⟨rfl,rfl⟩
  ·by_cases c:u=a
   ·subst c;refine(ab _).trans (.rel (.inl (.inl ⟨hb,?_⟩)));unfold tr;simp only;by_cases d:b=u
    ·rw[if_pos d,d]
    ·rw[if_neg d];simp
   ·by_cases d:u=b
    ·subst d;refine(ab _).symm.trans (.rel (.inl (.inl ⟨ha,?_⟩)));unfold tr;rw[if_pos rfl]
    ·refine .rel (.inl (.inl ⟨hu,?_⟩));unfold tr;rw[if_neg c,if_neg d]
  ·exact .rel (.inl (.inr s))
  ·exact ab _
abbrev inT(ts:List (Nat × Nat))(x y:Nat):Prop:=(x,y)∈ts
abbrev MH(n:Nat)(p:Nat->Nat)(ts:List (Nat × Nat))(x y:Nat):Prop:=gr n p x y\/inT ts x y
theorem SL{n:Nat}: ∀ (ts:List (Nat × Nat)) (p:Nat->Nat),Perm n p->(∀ t∈ts,t.1<n/\t.2<n)->
  K (dT (gr n (ts.foldl tr p))) n+K (dT (gr n p)) n<=2*K (dT (MH n p ts)) n+ts.length:=by
 intro ts
 induction ts with
 |nil=>
  intro p _ _;have:K (dT (MH n p [])) n=K (dT (gr n p)) n:=uC (fun x y=>⟨dT.mono (R:=MH n p []) (R':=gr n p) (fun u v r=>by
   rcases r with r|r
   ·exact .rel r
   ·cases r),dT.mono (R:=gr n p) (R':=MH n p []) (fun u v r=> .rel (.inl r))⟩) n
  rw[this];simp only[List.foldl_nil,aav];omega
 |cons t ts ih=>
  intro p hp ht;obtain⟨a,b⟩:=t;obtain⟨ha,hb⟩:=ht (a,b) (by simp)
  replace ha:a<n:=ha
  replace hb:b<n:=hb
  have ih:=ih (tr p (a,b)) (hp.tr ha hb) fun t h=>ht t (by simp[h])
  have all: ∀ x y,dT (MH n p ((a,b)::ts)) x y↔dT (qm (MH n (tr p (a,b)) ts) a b) x y:=fun x y=>by
   refine Iff.trans ⟨dT.mono fun u v r=> ?_,dT.mono fun u v r=> ?_⟩ (Ms (S:=inT ts) ha hb).symm
   ·rcases r with r|r
    ·exact .rel (.inl (.inl r))
    ·rcases aat.1 r with r|r
     ·cases r;exact .rel (.inr ⟨rfl,rfl⟩)
     ·exact .rel (.inl (.inr r))
   ·rcases r with (r|r)|⟨rfl,rfl⟩
    ·exact .rel (.inl r)
    ·exact .rel (.inr (acl _ r))
    ·exact .rel (.inr (adc ..))
  have one: ∀ x y,dT (qm (gr n (tr p (a,b))) a b) x y↔dT (qm (gr n p) a b) x y:=fun x y=>by
   have h:=Ms (p:=p) (S:=fun _ _=>False) ha hb (x:=x) (y:=y);have e: ∀ q:Nat->Nat,(fun x y=>gr n q x y\/False)=gr n q:=fun q=>funext fun x=>funext fun y=>propext (by simp)
   rw[e,e] at h;exact h
  rw[uC all];simp only[abN,aar];have kj:K (dT (qm (gr n (tr p (a,b))) a b)) n=K (dT (qm (gr n p) a b)) n:=uC one n;have sm: ∀ R:Nat->Nat->Prop,dT R a b->K (dT (qm R a b)) n=K (dT R) n:=fun R h=>R6 h n
  have jn: ∀ R:Nat->Nat->Prop,¬ dT R a b->K (dT R) n=K (dT (qm R a b)) n+1:=fun R h=>R7 ha hb h
  rcases Classical.em (dT (gr n p) a b) with c|c
  ·have k1:=sm _ c;rcases Classical.em (dT (gr n (tr p (a,b))) a b) with d|d
   ·have k2:=sm _ d;have k3:=sm _ (d.mono (R':=MH n (tr p (a,b)) ts) fun u v r=> .rel (.inl r));omega
   ·have k2:=jn _ d;rcases Classical.em (dT (MH n (tr p (a,b)) ts) a b) with d2|d2
    ·have k3:=sm _ d2;omega
    ·have k3:=jn _ d2;omega
  ·have k1:=jn _ c;have d:=MU hp ha hb c;have k2:=sm _ d;have k3:=sm _ (d.mono (R':=MH n (tr p (a,b)) ts) fun u v r=> .rel (.inl r));omega
def rv (x:Nat):Nat:=if x%2=0 then x+1 else x - 1
theorem Gg(k:Nat):rv (2*k)=2*k+1:=by unfold rv;rw[if_pos (by omega)]
theorem Pt(k:Nat):rv (2*k+1)=2*k:=by unfold rv;rw[if_neg (by omega)];rfl
theorem Gf(x:Nat):rv (rv x)=x:=by
 rcases adg x with h|h
 ·rw[show x=2*(x/2) by omega,Gg,Pt]
 ·rw[show x=2*(x/2)+1 by omega,Pt,Gg]
theorem xT{x m:Nat}(h:x<2*m):rv x<2*m:=by unfold rv;split<;>omega
theorem Qz(x:Nat):rv x/2=x/2:=by unfold rv;split<;>omega
theorem iv(n v:Nat)(g:Bool):rv (cP n v g)=ij n v (!g):=by
 cases g with
 |true=>exact Gg _
 |false=>exact Pt _
theorem AY{n v:Nat}(hv:v<n)(g:Bool):ij n v g<2*n:=by
 have:=aax (v+n - 1) (show 0<n by omega);unfold ij;split<;>omega
theorem AX{n x:Nat}(hx:x<2*n):x=ij n (if x%2=0 then (x/2+1)%n else x/2) (x%2==0):=by
 unfold ij;rcases adg x with h|h
 ·simp only[h,beq_self_eq_true,if_true];rw[vC (by omega)];omega
 ·simp only[h,show((1:Nat)==0)=false from rfl,aaL,if_false,Nat.one_ne_zero];omega
section
variable {F:Nat} {ls:List ae}
theorem Bf{v:Nat}{l:ae}(hl:ls[v]? =some l)(fw:Bool):cM ls (ij ls.length v fw)=if l.kind==2 then cP ls.length (dk ls v) (fw==(l.over==(l.sign==1)))
   else if dn ls v==fw then 2*ls.length+2*(ah ls).idxOf v else 2*ls.length+2*(((ah ls).idxOf v+(ah ls).length - 1)%(ah ls).length)+1:=by
 have hv:=(aag.1 hl).1;have Ti:=AY hv fw;refine xJ (by omega) ?_ ?_ hl
 ·unfold ij;cases fw<;>simp
 ·unfold ij;cases fw with
  |true=>
   simp only[if_true];rw[show 2*((v+ls.length - 1)%ls.length)/2=(v+ls.length - 1)%ls.length by omega,j8 hv]
  |false=>simp only[aaL,if_false];omega
theorem rW{v:Nat}{l:ae}(hl:ls[v]? =some l)(hc:l.aJ=true)(fw:Bool):cM ls (ij ls.length v fw)=cP ls.length (dk ls v) (fw==(l.over==(l.sign==1))):=by
 rw[Bf hl];unfold ae.aJ at hc;rw[if_pos hc]
theorem uO{v:Nat}{l:ae}(hl:ls[v]? =some l)(hp:l.bq=true)(fw:Bool):cM ls (ij ls.length v fw)=if dn ls v==fw then 2*ls.length+2*(ah ls).idxOf v else 2*ls.length+2*(((ah ls).idxOf v+(ah ls).length - 1)%(ah ls).length)+1:=by
 have:=jf hp;unfold ae.aJ at this;rw[Bf hl,if_neg (by rw[this];decide)]
theorem zC(k:Nat):cM ls (2*ls.length+2*k)=cP ls.length ((ah ls).getD ((k+1)%(ah ls).length) 0) (!dn ls ((ah ls).getD ((k+1)%(ah ls).length) 0)):=by
 show ce _ _ _=_;unfold ce;rw[if_pos (by omega),if_pos (by omega),show(2*ls.length+2*k - 2*ls.length)/2=k by omega]
theorem zE(k:Nat):cM ls (2*ls.length+2*k+1)=cP ls.length ((ah ls).getD k 0) (dn ls ((ah ls).getD k 0)):=by
 show ce _ _ _=_;unfold ce;rw[if_pos (by omega),if_neg (by omega),show(2*ls.length+2*k+1 - 2*ls.length)/2=k by omega]
theorem wW{k:Nat}(hk:k<(ah ls).length): ∃ l,ls[(ah ls).getD k 0]? =some l/\l.bq=true:=by
 obtain⟨v,hv⟩:=ao hk;rw[aap,hv,aaS];exact eE.1 (aaf hv)
theorem wV{v:Nat}{l:ae}(ok:eN F ls)(hl:ls[v]? =some l)(hp:l.bq=true):(ah ls).idxOf v<(ah ls).length/\(ah ls).getD ((ah ls).idxOf v) 0=v:=by
 have h1:=mL ok.ax hl hp;rw[n9 ok.ax hl hp];exact⟨(aag.1 h1).1,by rw[aap,h1];rfl⟩
theorem Bn(ok:eN F ls){v:Nat}(hv:v<ls.length)(fw:Bool):cM ls (rv (cM ls (ij ls.length v fw)))=cP ls.length v fw:=by
 obtain⟨l,hl⟩:=ao hv;rcases ok.kinds l (aaf hl) with hp|hc
 ·obtain⟨h1,h2⟩:=wV ok hl hp;rw[uO hl hp];by_cases c:(dn ls v==fw)=true
  ·rw[if_pos c,show 2*ls.length+2*(ah ls).idxOf v=2*(ls.length+(ah ls).idxOf v) by omega,Gg,show 2*(ls.length+(ah ls).idxOf v)+1=2*ls.length+2*(ah ls).idxOf v+1 by omega,zE,h2];rw[eq_of_beq c]
  ·rw[if_neg c];have c:dn ls v= !fw:=by revert c;cases dn ls v<;>cases fw<;>simp
   have hm:=aax ((ah ls).idxOf v+(ah ls).length - 1) (show 0<(ah ls).length by omega);rw[show 2*ls.length+2*(((ah ls).idxOf v+(ah ls).length - 1)%(ah ls).length)+1=2*(ls.length+((ah ls).idxOf v+(ah ls).length - 1)%(ah ls).length)+1 by omega,Pt,
    show 2*(ls.length+((ah ls).idxOf v+(ah ls).length - 1)%(ah ls).length)=2*ls.length+2*(((ah ls).idxOf v+(ah ls).length - 1)%(ah ls).length) by omega,zC,j8 h1,h2,c,Bool.not_not]
 ·obtain⟨h1,m,hm,mc,mi,mo,ms⟩:=g9 ok.cr hl hc;rw[rW hl hc,iv,rW hm mc,h1,mo,ms];cases fw<;>cases l.over<;>cases (l.sign==1)<;>rfl
def fm(ls:List ae)(x:Nat):Nat:=
 if 2*ls.length<=x then (if x%2=0 then (ah ls).getD (((x - 2*ls.length)/2+1)%(ah ls).length) 0 else (ah ls).getD ((x - 2*ls.length)/2) 0)
 else if x%2=0 then (x/2+1)%ls.length else x/2
def MK(ls:List ae)(x:Nat):Bool:=decide (2*ls.length<=x)||(match ls[fm ls x]? with|some l=>l.aJ&&l.over|none=>false)
def Bd(ls:List ae)(i:Nat):Int × Int:=match ls[i]? with|some l=>if l.aJ then (1,l.id) else (0,i)|none=>(2,0)
theorem iE{v:Nat}(hv:v<ls.length)(fw:Bool):fm ls (ij ls.length v fw)=v:=by
 have Ti:=AY hv fw;unfold fm;rw[if_neg (by omega)];unfold ij;cases fw with
 |true=>
  simp only[if_true];rw[if_pos (by omega),show 2*((v+ls.length - 1)%ls.length)/2=(v+ls.length - 1)%ls.length by omega,j8 hv]
 |false=>simp only[aaL,if_false];rw[if_neg (by omega)];omega
theorem FT{v:Nat}{l:ae}(hl:ls[v]? =some l)(fw:Bool):MK ls (ij ls.length v fw)=(l.aJ&&l.over):=by
 have hv:=(aag.1 hl).1;have Ti:=AY hv fw;unfold MK;rw[iE hv,hl];have: ¬ 2*ls.length<=ij ls.length v fw:=by omega
 simp[this]
theorem Lk(k:Nat):fm ls (2*ls.length+2*k)=(ah ls).getD ((k+1)%(ah ls).length) 0:=by
 unfold fm;rw[if_pos (by omega),if_pos (by omega),show(2*ls.length+2*k - 2*ls.length)/2=k by omega]
theorem Ll(k:Nat):fm ls (2*ls.length+2*k+1)=(ah ls).getD k 0:=by
 unfold fm;rw[if_pos (by omega),if_neg (by omega),show(2*ls.length+2*k+1 - 2*ls.length)/2=k by omega]
theorem Mu{x:Nat}(h:2*ls.length<=x):MK ls x=true:=by unfold MK;simp[h]
theorem Be(ok:eN F ls){x:Nat}(hx:x<nD ls):Bd ls (fm ls (rv (cM ls x)))=Bd ls (fm ls x)/\MK ls (rv (cM ls x))= !MK ls x:=by
 unfold nD at hx;rcases Nat.lt_or_ge x (2*ls.length) with c|c
 ·have hv:(if x%2=0 then (x/2+1)%ls.length else x/2)<ls.length:=by
   have:=aax (x/2+1) (show 0<ls.length by omega);split<;>omega
  rw[AX c];generalize (if x%2=0 then (x/2+1)%ls.length else x/2)=v at hv;generalize (x%2==0)=fw;obtain⟨l,hl⟩:=ao hv;rw[iE hv,FT hl];rcases ok.kinds l (aaf hl) with hp|hc
  ·obtain⟨h1,h2⟩:=wV ok hl hp;rw[jf hp,uO hl hp];by_cases d:(dn ls v==fw)=true
   ·rw[if_pos d,show 2*ls.length+2*(ah ls).idxOf v=2*(ls.length+(ah ls).idxOf v) by omega,Gg,show 2*(ls.length+(ah ls).idxOf v)+1=2*ls.length+2*(ah ls).idxOf v+1 by omega,Ll,h2,Mu (by omega)];exact⟨rfl,rfl⟩
   ·rw[if_neg d,show 2*ls.length+2*(((ah ls).idxOf v+(ah ls).length - 1)%(ah ls).length)+1=2*(ls.length+((ah ls).idxOf v+(ah ls).length - 1)%(ah ls).length)+1 by omega,Pt,
     show 2*(ls.length+((ah ls).idxOf v+(ah ls).length - 1)%(ah ls).length)=2*ls.length+2*(((ah ls).idxOf v+(ah ls).length - 1)%(ah ls).length) by omega,Lk,j8 h1,h2,Mu (by omega)]
    exact⟨rfl,rfl⟩
  ·obtain⟨h1,m,hm,mc,mi,mo,ms⟩:=g9 ok.cr hl hc;have hw:=(aag.1 hm).1;rw[rW hl hc,iv,iE hw,FT hm];unfold Bd;simp[hl,hm,hc,mc,mi,mo]
 ·rw[Mu c];have key: ∀ k,k<(ah ls).length-> ∀ g,Bd ls (fm ls (rv (cP ls.length ((ah ls).getD k 0) g)))=Bd ls ((ah ls).getD k 0)/\MK ls (rv (cP ls.length ((ah ls).getD k 0) g))= !true:=fun k hk g=>by
   obtain⟨l,hl,hp⟩:=wW hk;rw[iv,iE (aag.1 hl).1,FT hl,jf hp];exact⟨rfl,rfl⟩
  rcases adg x with d|d
  ·rw[show x=2*ls.length+2*((x - 2*ls.length)/2) by omega,zC,Lk];exact key _ (aax _ (by omega)) _
  ·rw[show x=2*ls.length+2*((x - 2*ls.length)/2)+1 by omega,zE,Ll];exact key _ (by omega) _
end
theorem zy{next:Nat->Nat}{N:Nat}{R:Nat->Nat->Prop}(Ti: ∀ x,x<N->next x<N)(h: ∀ x,x<N->dT R x (next x)): ∀ (k x:Nat) (S:List Bool),x<N-> ∀ y∈(bQ next k x S).1,dT R x y:=by
 intro k
 induction k with
 |zero=>intro x S _ y hy;simp[bQ] at hy
 |succ k ih=>
  intro x S hx y hy;unfold bQ at hy;split at hy
  ·simp at hy
  ·rcases aat.1 hy with rfl|hy
   ·exact .refl _
   ·exact(h x hx).trans (ih (next x) _ (Ti x hx) y hy)
theorem xj{next:Nat->Nat}{n2 N:Nat}(m:xF next n2 N){R:Nat->Nat->Prop}(h: ∀ x,x<N->dT R x (next x)): ∀ k,k<=N-> ∀ w∈(aL next N k).1,∀ x∈w,∀ y∈w,dT R x y:=by
 intro k
 induction k with
 |zero=>intro _ w hw;simp[aL] at hw
 |succ k ih=>
  intro hk w hw x hx y hy;rw[de] at hw;unfold d9 at hw;split at hw
  ·exact ih (by omega) w hw x hx y hy
  ·rcases aaM.1 hw with hw|hw
   ·exact ih (by omega) w hw x hx y hy
   ·simp only[adq] at hw;subst hw;have hj:=zy (R:=R) m.lt h ((aL next N k).2.length+1) k (aL next N k).2 (by omega);exact(hj x hx).symm.trans (hj y hy)
theorem DT{next:Nat->Nat}{n2 N:Nat}(m:xF next n2 N): ∀ k,k<=n2-> ∀ w∈(aL next N k).1,∀ x∈w,next x∈w:=by
 intro k
 induction k with
 |zero=>intro _ w hw;simp[aL] at hw
 |succ k ih=>
  intro hk w hw x hx;obtain⟨c0,_⟩:=jd m k (by omega);obtain⟨c1,_⟩:=jd m (k+1) hk;rw[de] at hw c1;unfold d9 at hw c1;cases hs:(aL next N k).2.getD k true with
  |true=>
   rw[hs,if_pos rfl] at hw;exact ih (by omega) w hw x hx
  |false=>
   rw[hs,if_neg (by decide)] at hw c1;rcases aaM.1 hw with hw|hw
   ·exact ih (by omega) w hw x hx
   ·simp only[adq] at hw;subst hw;obtain⟨g1,g2,g3⟩:=uI next ((aL next N k).2.length+1) k (aL next N k).2;have hxN:x<N:=by
     have:=Gb (g1 x hx);have:=gH next N k;omega
    have e0:=c0 x hxN;have e1:=c1 x hxN;rw[g3,g3,g1 x hx] at e1;rw[g1 x hx] at e0;simp only[aca,hx,decide_true,<- e0] at e1;exact of_decide_eq_true e1.symm
theorem jj{next:Nat->Nat}{n2 N:Nat}(m:xF next n2 N){w:List Nat}(hw:w∈bt next N){x:Nat}(hx:x∈w):next x∈w:=by
 unfold bt at hw;rw[pQ m N m.le (aal _)] at hw;exact DT m n2 (aal _) w hw x hx
theorem xh{next:Nat->Nat}{n2 N:Nat}(m:xF next n2 N){R:Nat->Nat->Prop}(h: ∀ x,x<N->dT R x (next x)){w:List Nat}(hw:w∈bt next N){x y:Nat}(hx:x∈w)(hy:y∈w):dT R x y:=
 xj m h N (aal _) w hw x hx y hy
def MM(L:List (List Nat))(x:Nat):Nat:=L.findIdx fun w=>w.contains x
theorem zt{L:List (List Nat)}(h:L.flatten.Nodup){i x:Nat}{w:List Nat}(hi:L[i]? =some w)(hx:x∈w):MM L x=i:=by
 have hm:w.contains x=true:=by simpa using hx
 have Ti:L.findIdx (fun w=>w.contains x)<L.length:=List.findIdx_lt_length_of_exists ⟨w,aaf hi,hm⟩;have hp:=List.findIdx_getElem (w:=Ti);have hj:L[L.findIdx fun w=>w.contains x]? =some (L[L.findIdx fun w=>w.contains x]'Ti):=abJ Ti;exact yo h hj hi (by simpa using hp) hx
theorem Iq: ∀ {L:List (List Nat)},L.flatten.Nodup->(∀ w∈L,w≠[])->((L.map (·.headD 0)).map (MM L))=List.range L.length:=by
 intro L h TA;apply ade;intro i;rw[aaA,aaA];by_cases hi:i<L.length
 ·have e:=abJ hi;rw[e,abH hi];simp only[aa4];have hw:=TA _ (aaf e);rw[zt h e (x:=L[i].headD 0) (by
   cases hL:L[i] with
   |nil=>exact absurd hL hw
   |cons a r=>simp)]
 ·rw[abI (by omega),abI (by simp;omega)];rfl
theorem xI{α:Type}{f:Nat->α × Bool}{g:Nat->α}{c:Nat->Bool}(h0: ∀ x,f (2*x)=(g x,c x))(h1: ∀ x,f (2*x+1)=(g x,!c x)): ∀ {L:List Nat},(L.map g).Nodup->((L.flatMap fun x=>[2*x,2*x+1]).map f).Nodup:=by
 intro L
 induction L with
 |nil=>intro _;exact ace
 |cons a L ih=>
  intro h;rw[aas,abD] at h;have ih:=ih h.2;have TW: ∀ b,(g a,b)∉(L.flatMap fun x=>[2*x,2*x+1]).map f:=by
   intro b hb;obtain⟨y,hy,e⟩:=aaF.1 hb;obtain⟨x,hx,hy⟩:=List.mem_flatMap.1 hy;have:g x=g a:=by
    simp only[aat,abG,or_false] at hy;rcases hy with rfl|rfl
    ·rw[h0] at e;exact congrArg Prod.fst e
    ·rw[h1] at e;exact congrArg Prod.fst e
   exact h.1 (aaF.2 ⟨x,hx,this⟩)
  rw[List.flatMap_cons,abQ,adb];refine⟨?_,ih,?_⟩
  ·simp only[aas,aaG,h0,h1,abD,adq,abG,not_false_eq_true,ace,and_true];intro e;have:=congrArg Prod.snd e;revert this;cases c a<;>simp
  ·intro u hu v hv e;subst e;simp only[aas,aaG,h0,h1,aat,abG,or_false] at hu;rcases hu with rfl|rfl
   ·exact TW _ hv
   ·exact TW _ hv
theorem F3: ∀ L:List Nat,(L.flatMap fun x=>[2*x,2*x+1]).length=2*L.length:=by
 intro L
 induction L with
 |nil=>rfl
 |cons a L ih=>rw[List.flatMap_cons,aay,ih];simp only[aar,aav];omega
theorem Jw{L:List Nat}{N:Nat}(h: ∀ x∈L,x<N): ∀ y∈(L.flatMap fun x=>[2*x,2*x+1]),y<2*N:=by
 intro y hy;obtain⟨x,hx,hy⟩:=List.mem_flatMap.1 hy;have:=h x hx;simp only[aat,abG,or_false] at hy;rcases hy with rfl|rfl<;>omega
def fx (b:Bool)(s:Nat):Nat:=if b then 1 - s else s
theorem pK{b:Bool}{s:Nat}(h:s<2):fx b s<2:=by unfold fx;split<;>omega
theorem yJ{b:Bool}{s:Nat}(h:s<2):fx b (fx b s)=s:=by unfold fx;cases b<;>simp;omega
def wZ(p:Nat->Bool)(y:Nat):Nat:=2*rv (y/2)+fx (p (y/2)) (y%2)
def En(p:Nat->Bool)(nx:Nat->Nat)(y:Nat):Nat:=2*nx (rv (y/2))+fx (p (y/2)) (y%2)
def DX(p:Nat->Bool)(k:Nat):List (Nat × Nat):=(List.range k).flatMap fun e=>[(4*e,wZ p (4*e)),(4*e+1,wZ p (4*e+1))]
theorem DA(p:Nat->Bool)(e:Nat):wZ p (4*e)=if p (2*e) then 4*e+3 else 4*e+2:=by
 unfold wZ fx;rw[show 4*e/2=2*e by omega,Gg,show 4*e%2=0 by omega];split<;>omega
theorem Dz(p:Nat->Bool)(e:Nat):wZ p (4*e+1)=if p (2*e) then 4*e+2 else 4*e+3:=by
 unfold wZ fx;rw[show(4*e+1)/2=2*e by omega,Gg,show(4*e+1)%2=1 by omega];split<;>omega
theorem PZ{p:Nat->Bool}(hp: ∀ x,p (rv x)=p x)(e:Nat):wZ p (4*e+2)=if p (2*e) then 4*e+1 else 4*e:=by
 unfold wZ fx;rw[show(4*e+2)/2=2*e+1 by omega,Pt,show(4*e+2)%2=0 by omega,<- hp (2*e),Gg];split<;>omega
theorem PY{p:Nat->Bool}(hp: ∀ x,p (rv x)=p x)(e:Nat):wZ p (4*e+3)=if p (2*e) then 4*e else 4*e+1:=by
 unfold wZ fx;rw[show(4*e+3)/2=2*e+1 by omega,Pt,show(4*e+3)%2=1 by omega,<- hp (2*e),Gg];split<;>omega
theorem Bg(p:Nat->Bool)(k:Nat):DX p (k+1)=DX p k++[(4*k,wZ p (4*k)),(4*k+1,wZ p (4*k+1))]:=by
 unfold DX;rw[abE,List.flatMap_append];simp
theorem MS(p:Nat->Bool)(k:Nat):(DX p k).length=2*k:=by
 induction k with
 |zero=>rfl
 |succ k ih=>rw[Bg,aay,ih];simp only[aar,aav];omega
theorem Qi(p:Nat->Bool)(k:Nat): ∀ t∈DX p k,t.1<4*k/\t.2<4*k:=by
 intro t ht;obtain⟨e,he,h⟩:=List.mem_flatMap.1 ht;have he:=aaE.1 he;simp only[aat,abG,or_false,DA,Dz] at h;rcases h with rfl|rfl<;>refine⟨by simp only;omega,?_⟩<;>simp only<;>split<;>omega
theorem MR(p:Nat->Bool){k e:Nat}(h:e<k):(4*e,wZ p (4*e))∈DX p k/\(4*e+1,wZ p (4*e+1))∈DX p k:=
 ⟨List.mem_flatMap.2 ⟨e,aaE.2 h,by simp⟩,List.mem_flatMap.2 ⟨e,aaE.2 h,by simp⟩⟩
theorem JA{p:Nat->Bool}(hp: ∀ x,p (rv x)=p x)(q:Nat->Nat): ∀ k y,(DX p k).foldl tr q y=if y<4*k then q (wZ p y) else q y:=by
 intro k
 induction k with
 |zero=>intro y;simp[DX]
 |succ k ih=>
  intro y;rw[Bg,ads,abN,abN,List.foldl_nil,Bh,Bh,ih,DA,Dz];by_cases c:y<4*k
  ·have h1:(if y=4*k+1 then (if p (2*k) then 4*k+2 else 4*k+3) else if y=(if p (2*k) then 4*k+2 else 4*k+3) then 4*k+1 else y)=y:=by rw[if_neg (by omega),if_neg (by split<;>omega)]
   rw[h1];have h2:(if y=4*k then (if p (2*k) then 4*k+3 else 4*k+2) else if y=(if p (2*k) then 4*k+3 else 4*k+2) then 4*k else y)=y:=by rw[if_neg (by omega),if_neg (by split<;>omega)]
   rw[h2,if_pos c,if_pos (by omega)]
  ·have a2:=PZ hp k;have a3:=PY hp k;have a0:=DA p k;have a1:=Dz p k;cases hpk:p (2*k) with
   |true=>
    rw[hpk] at a0 a1 a2 a3;simp only[if_true] at a0 a1 a2 a3 ⊢;by_cases c0:y=4*k
    ·subst c0;rw[a0,if_neg (show ¬ 4*k=4*k+1 by omega),if_neg (show ¬ 4*k=4*k+2 by omega),if_pos rfl,if_neg (by omega),if_pos (by omega)]
    ·by_cases c1:y=4*k+1
     ·subst c1;rw[a1,if_pos rfl,if_neg (show ¬ 4*k+2=4*k by omega),if_neg (show ¬ 4*k+2=4*k+3 by omega),if_neg (by omega),if_pos (by omega)]
     ·by_cases c2:y=4*k+2
      ·subst c2;rw[a2,if_neg (show ¬ 4*k+2=4*k+1 by omega),if_pos rfl,if_neg (show ¬ 4*k+1=4*k by omega),if_neg (show ¬ 4*k+1=4*k+3 by omega),if_neg (by omega),if_pos (by omega)]
      ·by_cases c3:y=4*k+3
       ·subst c3;rw[a3,if_neg (show ¬ 4*k+3=4*k+1 by omega),if_neg (show ¬ 4*k+3=4*k+2 by omega),if_neg (show ¬ 4*k+3=4*k by omega),if_pos rfl,if_neg (by omega),if_pos (by omega)]
       ·rw[if_neg c1,if_neg c2,if_neg c0,if_neg c3,if_neg c,if_neg (by omega)]
   |false=>
    rw[hpk] at a0 a1 a2 a3;simp only[aaL,if_false] at a0 a1 a2 a3 ⊢;by_cases c0:y=4*k
    ·subst c0;rw[a0,if_neg (show ¬ 4*k=4*k+1 by omega),if_neg (show ¬ 4*k=4*k+3 by omega),if_pos rfl,if_neg (by omega),if_pos (by omega)]
    ·by_cases c1:y=4*k+1
     ·subst c1;rw[a1,if_pos rfl,if_neg (show ¬ 4*k+3=4*k by omega),if_neg (show ¬ 4*k+3=4*k+2 by omega),if_neg (by omega),if_pos (by omega)]
     ·by_cases c3:y=4*k+3
      ·subst c3;rw[a3,if_neg (show ¬ 4*k+3=4*k+1 by omega),if_pos rfl,if_neg (show ¬ 4*k+1=4*k by omega),if_neg (show ¬ 4*k+1=4*k+2 by omega),if_neg (by omega),if_pos (by omega)]
      ·by_cases c2:y=4*k+2
       ·subst c2;rw[a2,if_neg (show ¬ 4*k+2=4*k+1 by omega),if_neg (show ¬ 4*k+2=4*k+3 by omega),if_neg (show ¬ 4*k+2=4*k by omega),if_pos rfl,if_neg (by omega),if_pos (by omega)]
       ·rw[if_neg c1,if_neg c3,if_neg c0,if_neg c2,if_neg c,if_neg (by omega)]
theorem Mr{p:Nat->Bool}(hp: ∀ x,p (rv x)=p x)(nx:Nat->Nat){k y:Nat}(h:y<4*k):(DX p k).foldl tr (En p nx) y=2*nx (y/2)+y%2:=by
 rw[JA hp,if_pos h];unfold En;have hf:fx (p (y/2)) (y%2)<2:=pK (by omega);have h1:wZ p y/2=rv (y/2):=by unfold wZ;omega
 have h2:wZ p y%2=fx (p (y/2)) (y%2):=by unfold wZ;omega
 rw[h1,h2,Gf,hp,yJ (by omega)]
theorem Cl{α β:Type}{P:α->β->Prop}{f:β->α}(hf: ∀ a b,P a b->f b=a): ∀ {L:List α},(∀ a∈L,∃ b,P a b)-> ∃ M:List β,M.map f=L/\ ∀ b∈M,∃ a∈L,P a b:=by
 intro L
 induction L with
 |nil=>intro _;exact⟨[],rfl,by simp⟩
 |cons a L ih=>
  intro h;obtain⟨b,hb⟩:=h a (by simp);obtain⟨M,h1,h2⟩:=ih fun x hx=>h x (by simp[hx])
  refine⟨b::M,by rw[aas,h1,hf a b hb],fun x hx=> ?_⟩;rcases aat.1 hx with rfl|hx
  ·exact⟨a,by simp,hb⟩
  ·obtain⟨c,hc,hp⟩:=h2 x hx;exact⟨c,by simp[hc],hp⟩
section
variable {F:Nat} {ls:List ae}
theorem Ds(ok:eN F ls):(ah ls).Nodup:=by
 have:=rL ok.ax ls.length (aal _);refine List.Pairwise.imp (fun {a b} h e=> ?_) this;subst e;exact absurd h (Nat.lt_irrefl _)
theorem KU(ok:eN F ls):ls.length=aD ae.bq ls+aD ae.aJ ls:=by
 have: ∀ l:List ae,(∀ x∈l,x.bq=true\/x.aJ=true)->l.length=aD ae.bq l+aD ae.aJ l:=by
  intro l
  induction l with
  |nil=>intro _;rfl
  |cons a l ih=>
   intro h;have ih:=ih fun x hx=>h x (by simp[hx])
   unfold aD at ih ⊢;rw[abV,abV,aar,ih];rcases h a (by simp) with c|c
   ·rw[c,jf c];simp;omega
   ·have:a.bq=false:=by cases hp:a.bq;rfl;rw[jf hp] at c;cases c
    rw[c,this];simp;omega
 exact this ls ok.kinds
theorem Ju(ok:eN F ls): ∃ L:List Nat,L.length=aD ae.bq ls+aD ae.aJ ls/2/\(∀ j∈L,j<ls.length)/\(L.map (Bd ls)).Nodup:=by
 have hc:=ok.cr;unfold ed at hc;simp only[aan,beq_iff_eq] at hc;have Ts:=hc.2
 let ids:List (Int × Int):=(dR ls ls.length).map fun id=>(1,id)
 have aiF: ∀ a∈ids,∃ j,(Bd ls j=a/\j<ls.length):=by
  intro a ha;obtain⟨id,hi,rfl⟩:=aaF.1 ha;obtain⟨j,o,hj,hh⟩:=(rl (aal _)).1 hi;obtain⟨m,hm,mc,mi,_⟩:=iD hh;refine⟨j,?_,hj⟩;unfold Bd;rw[hm];simp[mc,mi]
 obtain⟨M,m1,m2⟩:=Cl (P:=fun a j=>Bd ls j=a/\j<ls.length) (f:=Bd ls) (fun a b h=>h.1) aiF;have nJ: ∀ i∈ah ls,i<ls.length/\Bd ls i=(0,(i:Int)):=fun i hi=>by
  obtain⟨l,hl,hp⟩:=eE.1 hi;refine⟨(aag.1 hl).1,?_⟩;unfold Bd;rw[hl];simp[jf hp]
 refine⟨ah ls++M,?_,fun j hj=> ?_,?_⟩
 ·have:M.length=(dR ls ls.length).length:=by
   have:=congrArg List.length m1
   simpa [ids] using this
  rw[aay,this,Ts,lX]
 ·rcases aaM.1 hj with hj|hj
  ·exact(nJ j hj).1
  ·obtain⟨_,_,h⟩:=m2 j hj;exact h.2
 ·rw[abQ,m1,adb];refine⟨?_,?_,?_⟩
  ·have:(ah ls).map (Bd ls)=(ah ls).map fun i:Nat=>((0:Int),(i:Int)):=ac9 fun i hi=>(nJ i hi).2
   rw[this];refine List.pairwise_map.2 (List.Pairwise.imp (fun {a b} h e=>h ?_) (Ds ok));have:=congrArg Prod.snd e;simp only at this;omega
  ·refine List.pairwise_map.2 (List.Pairwise.imp (fun {a b} h e=>h ?_) (sA ls ls.length));exact congrArg Prod.snd e
  ·intro a ha b hb e;obtain⟨i,hi,rfl⟩:=aaF.1 ha;obtain⟨id,_,rfl⟩:=aaF.1 hb;rw[(nJ i hi).2] at e;have:=congrArg Prod.fst e;simp at this
theorem Kd(ok:eN F ls)(p:Nat->Bool):Perm (2*nD ls) (En p (cM ls)):=by
 have m:=maps ok;have hN:nD ls=2*(ls.length+(ah ls).length):=by unfold nD;omega
 have hr: ∀ y,y<2*nD ls->rv (y/2)<nD ls:=fun y hy=>by rw[hN];exact xT (by omega)
 have hf: ∀ y,fx (p (y/2)) (y%2)<2:=fun y=>pK (by omega)
 refine⟨fun y hy=> ?_,fun x y hx hy e=> ?_⟩
 ·have:=m.lt _ (hr y hy);have:=hf y;unfold En;omega
 ·unfold En at e;have:=hf x;have:=hf y;have e1:cM ls (rv (x/2))=cM ls (rv (y/2)):=by omega
  have e2:=m.inj _ _ (hr x hx) (hr y hy) e1;have e3:x/2=y/2:=by rw[<- Gf (x/2),e2,Gf]
  have e4:fx (p (x/2)) (x%2)=fx (p (y/2)) (y%2):=by omega
  rw[e3] at e4;have e5:x%2=y%2:=by rw[<- yJ (b:=p (y/2)) (s:=x%2) (by omega),e4,yJ (by omega)]
  omega
end
section
variable {F:Nat} {ls:List ae} {p:Nat->Bool}
abbrev Fz(ls:List ae)(p:Nat->Bool):Nat->Nat->Prop:=MH (2*nD ls) (En p (cM ls)) (DX p (ls.length+(ah ls).length))
theorem Cg(ls:List ae):nD ls=2*(ls.length+(ah ls).length):=by unfold nD;omega
theorem SQ(hp: ∀ x,p (rv x)=p x){y:Nat}(hy:y<2*nD ls):dT (Fz ls p) y (wZ p y):=by
 have hN:=Cg ls;obtain⟨h1,h2⟩:=MR p (k:=ls.length+(ah ls).length) (e:=y/4) (by omega);have r1:dT (Fz ls p) (4*(y/4)) (wZ p (4*(y/4))):= .rel (.inr h1);have r2:dT (Fz ls p) (4*(y/4)+1) (wZ p (4*(y/4)+1)):= .rel (.inr h2);have a2:=PZ hp (y/4);have a3:=PY hp (y/4);rcases(by omega:y=4*(y/4)\/y=4*(y/4)+1\/y=4*(y/4)+2\/y=4*(y/4)+3) with e|e|e|e
 ·rw[<- e] at r1;exact r1
 ·rw[<- e] at r2;exact r2
 ·rw[<- e] at a2;rw[a2];rw[DA] at r1;rw[Dz] at r2;by_cases c:p (2*(y/4))=true
  ·rw[if_pos c] at r2 ⊢;rw[<- e] at r2;exact r2.symm
  ·rw[if_neg c] at r1 ⊢;rw[<- e] at r1;exact r1.symm
 ·rw[<- e] at a3;rw[a3];rw[DA] at r1;rw[Dz] at r2;by_cases c:p (2*(y/4))=true
  ·rw[if_pos c] at r1 ⊢;rw[<- e] at r1;exact r1.symm
  ·rw[if_neg c] at r2 ⊢;rw[<- e] at r2;exact r2.symm
theorem wI(hp: ∀ x,p (rv x)=p x){x s:Nat}(hx:x<nD ls)(hs:s<2):dT (Fz ls p) (2*x+s) (2*rv x+fx (p x) s):=by
 have:=SQ (ls:=ls) hp (y:=2*x+s) (by omega);unfold wZ at this;rwa[show(2*x+s)/2=x by omega,show(2*x+s)%2=s by omega] at this
theorem rC(hp: ∀ x,p (rv x)=p x){x s:Nat}(hx:x<nD ls)(hs:s<2):dT (Fz ls p) (2*x+s) (2*cM ls x+s):=by
 have hN:=Cg ls;have hf:fx (p x) s<2:=pK hs;refine(wI hp hx hs).trans (.rel (.inl ⟨?_,?_⟩))
 ·have:rv x<nD ls:=by rw[hN];exact xT (by omega)
  omega
 ·unfold En;rw[show(2*rv x+fx (p x) s)/2=rv x by omega,show(2*rv x+fx (p x) s)%2=fx (p x) s by omega,Gf,hp,yJ hs]
def MI(ls:List ae)(p:Nat->Bool)(x:Nat):Prop:= ∃ b,∀ s,s<2->dT (Fz ls p) (2*x+s) (fx b s)
theorem Oj(ls:List ae)(p:Nat->Bool):MI ls p 0:=⟨false,fun s _=>by rw[show 2*0+s=s by omega];exact .refl _⟩
theorem GP(a b:Bool){s:Nat}(h:s<2):fx a (fx b s)=fx (a !=b) s:=by unfold fx;cases a<;>cases b<;>simp;omega
theorem Lp(hp: ∀ x,p (rv x)=p x){x:Nat}(hx:x<nD ls)(h:MI ls p x):MI ls p (rv x):=by
 obtain⟨b,h⟩:=h;refine⟨b !=p x,fun s hs=> ?_⟩;have h1:=(wI hp hx (s:=fx (p x) s) (pK hs)).symm.trans (h (fx (p x) s) (pK hs));rwa[yJ hs,GP _ _ hs] at h1
theorem GH(hp: ∀ x,p (rv x)=p x){x:Nat}(hx:x<nD ls)(h:MI ls p x):MI ls p (cM ls x):=by
 obtain⟨t,h⟩:=h;exact⟨t,fun s hs=>(rC hp hx hs).symm.trans (h s hs)⟩
theorem Ol(hp: ∀ x,p (rv x)=p x){x:Nat}(hx:x<nD ls)(h:MI ls p (cM ls x)):MI ls p x:=by
 obtain⟨t,h⟩:=h;exact⟨t,fun s hs=>(rC hp hx hs).trans (h s hs)⟩
theorem Lq(hp: ∀ x,p (rv x)=p x)(ok:eN F ls){x:Nat}(hx:x<nD ls):MI ls p x:=by
 have m:=maps ok;have hN:=Cg ls;have hrv: ∀ y,y<nD ls->rv y<nD ls:=fun y hy=>by rw[hN] at hy ⊢;exact xT hy
 have fwd: ∀ i,i<ls.length->MI ls p (2*i):=by
  intro i
  induction i with
  |zero=>intro _;exact Oj ls p
  |succ i ih=>
   intro hi;have h0:=ih (by omega);have h2:2*i<nD ls:=by omega
   have h3:=GH hp h2 h0;have h4:=m.lt _ h2;have h5:=GH hp (hrv _ h4) (Lp hp h4 h3);have e:2*i=ij ls.length (i+1) true:=by unfold ij;rw[if_pos rfl,show i+1+ls.length - 1=i+ls.length by omega,Nat.add_mod_right,abF (by omega)]
   rw[e,Bn ok hi] at h5;exact h5
 have str: ∀ y,y<2*ls.length->MI ls p y:=fun y hy=>by
  rcases adg y with c|c
  ·rw[show y=2*(y/2) by omega];exact fwd _ (by omega)
  ·have:=Lp hp (x:=2*(y/2)) (by omega) (fwd (y/2) (by omega));rw[Gg] at this;rw[show y=2*(y/2)+1 by omega];exact this
 rcases Nat.lt_or_ge x (2*ls.length) with c|c
 ·exact str x c
 ·exact Ol hp hx (str _ (m.ax x hx c))
theorem uN(g:bj F ls)(hp: ∀ x,p (rv x)=p x){c:Nat->Bool}(hc: ∀ x,x<nD ls->c (rv (cM ls x))=(c x !=p x)): ¬ dT (Fz ls p) 0 1:=by
 intro h01;have ok:=g.ok;have hN:=Cg ls;have hrv: ∀ y,y<nD ls->rv y<nD ls:=fun y hy=>by rw[hN] at hy ⊢;exact xT hy
 obtain⟨U3,aiE⟩:=kC (cM ls) (nD ls);have E:=SL (DX p (ls.length+(ah ls).length)) (En p (cM ls)) (Kd ok p) (fun t ht=>by
  have:=Qi p _ t ht;omega)
 rw[MS] at E;have K1:K (dT (Fz ls p)) (2*nD ls)<=1:=S9 fun y hy=>by
  obtain⟨b,ht⟩:=Lq hp ok (x:=y/2) (by omega);have e:=ht (y%2) (by omega);rw[show 2*(y/2)+y%2=y by omega] at e;have hf:fx b (y%2)<2:=pK (by omega);rcases(by omega:fx b (y%2)=0\/fx b (y%2)=1) with k|k
  ·rw[k] at e;exact e
  ·rw[k] at e;exact e.trans h01.symm
 have K2:2*iU ls<=K (dT (gr (2*nD ls) ((DX p (ls.length+(ah ls).length)).foldl tr (En p (cM ls))))) (2*nD ls):=by
  have hfs: ∀ w∈bt (cM ls) (nD ls),w≠[]:=fun w hw=>by
   obtain⟨⟨d,t,e,_⟩,_⟩:=fe ok w hw;rw[e];simp
  have:=Ta (R:=gr (2*nD ls) ((DX p (ls.length+(ah ls).length)).foldl tr (En p (cM ls)))) (f:=fun y=>(MM (bt (cM ls) (nD ls)) (y/2),decide (y%2=1))) (n:=2*nD ls)
   (reps:=((bt (cM ls) (nD ls)).map (·.headD 0)).flatMap fun x=>[2*x,2*x+1]) ?_ ?_ ?_
  ·rw[F3,aak] at this;exact this
  ·rintro a b ⟨ha,rfl⟩
   rw[Mr hp _ (by omega)];have hy:a/2<nD ls:=by omega
   obtain⟨u,hu,hau⟩:=List.mem_flatten.1 (aiE _ hy);obtain⟨i,hi⟩:=aaC hu;simp only[show(2*cM ls (a/2)+a%2)/2=cM ls (a/2) by omega,show(2*cM ls (a/2)+a%2)%2=a%2 by omega];rw[zt U3 hi hau,zt U3 hi (jj (maps ok) hu hau)]
  ·refine Jw fun x hx=> ?_
   obtain⟨w,hw,rfl⟩:=aaF.1 hx;obtain⟨⟨d,t,e,hd⟩,_⟩:=fe ok w hw;rw[e];simp only[List.headD_cons];omega
  ·refine xI (g:=MM (bt (cM ls) (nD ls))) (c:=fun _=>false) (fun x=> ?_) (fun x=> ?_) ?_
   ·simp only[show 2*x/2=x by omega,show 2*x%2=0 by omega];simp
   ·simp only[show(2*x+1)/2=x by omega,show(2*x+1)%2=1 by omega];simp
   ·rw[Iq U3 hfs];exact List.nodup_range
 have K3:2*(aD ae.bq ls+aD ae.aJ ls/2)<=K (dT (gr (2*nD ls) (En p (cM ls)))) (2*nD ls):=by
  obtain⟨L,l1,l2,l3⟩:=Ju ok;have:=Ta (R:=gr (2*nD ls) (En p (cM ls))) (f:=fun y=>(Bd ls (fm ls (rv (y/2))),(c (rv (y/2))!=decide (y%2=1)))) (n:=2*nD ls)
   (reps:=(L.map (2* ·)).flatMap fun x=>[2*x,2*x+1]) ?_ ?_ ?_
  ·rw[F3,aak,l1] at this;exact this
  ·rintro a b ⟨ha,rfl⟩
   have hy:rv (a/2)<nD ls:=hrv _ (by omega);have t1:=(Be ok hy).1;have t2:=hc _ hy;have hf:fx (p (a/2)) (a%2)<2:=pK (by omega);unfold En;simp only[show(2*cM ls (rv (a/2))+fx (p (a/2)) (a%2))/2=cM ls (rv (a/2)) by omega,show(2*cM ls (rv (a/2))+fx (p (a/2)) (a%2))%2=fx (p (a/2)) (a%2) by omega,t1,t2,hp];rcases adg a with k|k<;>rw[k]<;>cases c (rv (a/2))<;>cases p (a/2)<;>rfl
  ·refine Jw fun x hx=> ?_
   obtain⟨j,hj,rfl⟩:=aaF.1 hx;have:=l2 j hj;omega
  ·refine xI (g:=fun x=>Bd ls (fm ls (rv x))) (c:=fun x=>c (rv x)) (fun x=> ?_) (fun x=> ?_) ?_
   ·simp only[show 2*x/2=x by omega,show 2*x%2=0 by omega];simp
   ·simp only[show(2*x+1)/2=x by omega,show(2*x+1)%2=1 by omega];simp
   ·rw[acq];have:L.map ((fun x=>Bd ls (fm ls (rv x))) ∘ (2* ·))=L.map (Bd ls):=ac9 fun j hj=>by
     have:=iE (ls:=ls) (l2 j hj) false;simp only[Function.comp_apply,Gg];rw[show 2*j+1=ij ls.length j false from rfl,this]
    rw[this];exact l3
 have hPC:=KU ok;have nJ:=lX (ls:=ls);have hnw:=g.nw;have UD:=ok.cr;unfold ed at UD;simp only[aan,beq_iff_eq] at UD;have Uf:=UD.1.1;have E:K (dT (gr (2*nD ls) ((DX p (ls.length+(ah ls).length)).foldl tr (En p (cM ls))))) (2*nD ls)+K (dT (gr (2*nD ls) (En p (cM ls)))) (2*nD ls)<=2*K (dT (Fz ls p)) (2*nD ls)+2*(ls.length+(ah ls).length):=E;omega
theorem G0(g:bj F ls)(hp: ∀ x,p (rv x)=p x){w:List Nat}(hw:w∈bt (cM ls) (nD ls)){x y s:Nat}(hx:x∈w)(hy:y∈w)(hs:s<2):dT (Fz ls p) (2*x+s) (2*y+s):=by
 have base: ∀ a b,dT (fun u v=>dT (Fz ls p) (2*u+s) (2*v+s)) a b->dT (Fz ls p) (2*a+s) (2*b+s):=by
  intro a b h
  induction h with
  |rel r=>exact r
  |refl a=>exact .refl _
  |symm _ ih=>exact ih.symm
  |trans _ _ i1 i2=>exact i1.trans i2
 exact base _ _ (xh (maps g.ok) (R:=fun u v=>dT (Fz ls p) (2*u+s) (2*v+s)) (fun y hy=> .rel (rC hp hy hs)) hw hx hy)
theorem LY(g:bj F ls)(hp: ∀ x,p (rv x)=p x){c:Nat->Bool}(hc: ∀ x,x<nD ls->c (rv (cM ls x))=(c x !=p x)){x:Nat}(hx:x<nD ls)(h:dT (Fz ls p) (2*x+0) (2*x+1)):False:=by
 obtain⟨b,ht⟩:=Lq hp g.ok hx;have e1:=ht 0 (by decide);have e2:=ht 1 (by decide);have e4:=e1.symm.trans (h.trans e2);refine uN g hp hc ?_;cases b with
 |true=>exact e4.symm
 |false=>exact e4
theorem Ie(g:bj F ls){x:Nat}(hx:x<nD ls){w:List Nat}(hw:w∈bt (cM ls) (nD ls))(h1:x∈w)(h2:rv x∈w):False:=by
 have hp: ∀ x:Nat,(fun _:Nat=>true) (rv x)=(fun _:Nat=>true) x:=fun _=>rfl
 have hc: ∀ x,x<nD ls->MK ls (rv (cM ls x))=(MK ls x !=(fun _:Nat=>true) x):=fun x hx=>by rw[(Be g.ok hx).2];cases MK ls x<;>rfl
 have e1:=G0 (p:=fun _=>true) g hp hw h1 h2 (s:=0) (by decide);have e2:=wI (ls:=ls) (p:=fun _=>true) hp hx (s:=1) (by decide);exact LY (p:=fun _=>true) g hp hc hx (e1.trans e2.symm)
end
section
variable {F:Nat} {ls:List ae}
def AU(ls:List ae)(x:Nat):Bool:=decide (2*ls.length<=x)
def Kg(ls:List ae)(x:Nat):Bool:=
 if 2*ls.length<=x then x%2==1 else match ls[fm ls x]? with|some l=>l.bq&&(dn ls (fm ls x)==(x%2==0))|none=>false
theorem Mk(x:Nat):AU ls (rv x)=AU ls x:=by
 unfold AU rv;rw[abj];simp only[decide_eq_true_eq];split<;>omega
theorem zS{v:Nat}{l:ae}(hl:ls[v]? =some l)(fw:Bool):Kg ls (ij ls.length v fw)=(l.bq&&(dn ls v==fw)):=by
 have hv:=(aag.1 hl).1;have Ti:=AY hv fw;unfold Kg;rw[iE hv,hl,if_neg (by omega)];have:(ij ls.length v fw%2==0)=fw:=by unfold ij;cases fw<;>simp
 rw[this]
theorem Np(ok:eN F ls){x:Nat}(hx:x<nD ls):Kg ls (rv (cM ls x))=(Kg ls x !=AU ls x):=by
 unfold nD at hx;rcases Nat.lt_or_ge x (2*ls.length) with c|c
 ·have hE:AU ls x=false:=by unfold AU;simp;omega
  rw[hE];have hv:(if x%2=0 then (x/2+1)%ls.length else x/2)<ls.length:=by
   have:=aax (x/2+1) (show 0<ls.length by omega);split<;>omega
  rw[AX c];generalize (if x%2=0 then (x/2+1)%ls.length else x/2)=v at hv;generalize (x%2==0)=fw;obtain⟨l,hl⟩:=ao hv;rw[zS hl];rcases ok.kinds l (aaf hl) with hp|hc
  ·obtain⟨h1,h2⟩:=wV ok hl hp;rw[uO hl hp,hp];by_cases d:(dn ls v==fw)=true
   ·rw[if_pos d,d,show 2*ls.length+2*(ah ls).idxOf v=2*(ls.length+(ah ls).idxOf v) by omega,Gg];unfold Kg;rw[if_pos (by omega)];have:(2*(ls.length+(ah ls).idxOf v)+1)%2=1:=by omega
    rw[this];rfl
   ·rw[if_neg d,Bool.eq_false_iff.2 d,show 2*ls.length+2*(((ah ls).idxOf v+(ah ls).length - 1)%(ah ls).length)+1=2*(ls.length+((ah ls).idxOf v+(ah ls).length - 1)%(ah ls).length)+1 by omega,Pt];unfold Kg;rw[if_pos (by omega)];have:(2*(ls.length+((ah ls).idxOf v+(ah ls).length - 1)%(ah ls).length))%2=0:=by omega
    rw[this];rfl
  ·obtain⟨h1,m,hm,mc,mi,mo,ms⟩:=g9 ok.cr hl hc;have hp:l.bq=false:=by cases hp:l.bq;rfl;rw[jf hp] at hc;cases hc
   have hq:m.bq=false:=by cases hp:m.bq;rfl;rw[jf hp] at mc;cases mc
   rw[rW hl hc,iv,zS hm,hp,hq];rfl
 ·have hE:AU ls x=true:=by unfold AU;simpa using c
  rw[hE];rcases adg x with d|d
  ·have hk:=aax ((x - 2*ls.length)/2+1) (show 0<(ah ls).length by omega);obtain⟨l,hl,hp⟩:=wW hk;have e:Kg ls x=false:=by unfold Kg;rw[if_pos c,d];rfl
   rw[e,show x=2*ls.length+2*((x - 2*ls.length)/2) by omega,zC,iv,Bool.not_not];rw[zS hl,hp];simp
  ·have hk:(x - 2*ls.length)/2<(ah ls).length:=by omega
   obtain⟨l,hl,hp⟩:=wW hk;have e:Kg ls x=true:=by unfold Kg;rw[if_pos c,d];rfl
   rw[e,show x=2*ls.length+2*((x - 2*ls.length)/2)+1 by omega,zE,iv];rw[zS hl,hp];cases dn ls ((ah ls).getD ((x - 2*ls.length)/2) 0)<;>rfl
abbrev axR(ls:List ae):Nat->Nat->Prop:=Fz ls (AU ls)
theorem wX(g:bj F ls){x s:Nat}(hx:x<2*ls.length)(hs:s<2):dT (axR ls) (2*x+s) (fx (dn ls (x/2+1)!=dn ls 1) s):=by
 have ok:=g.ok;have m:=maps ok;have hN:=Cg ls;have hp:=Mk (ls:=ls);have str: ∀ y,y<2*ls.length->AU ls y=false:=fun y hy=>by unfold AU;simp;omega
 have fwd: ∀ i,i<ls.length-> ∀ s,s<2->dT (axR ls) (2*(2*i)+s) (fx (dn ls (i+1)!=dn ls 1) s):=by
  intro i
  induction i with
  |zero=>intro _ s _;simp only[abC];cases dn ls 1<;>(rw[show 2*(2*0)+s=s by omega];exact .refl _)
  |succ i ih=>
   intro hi s hs;obtain⟨l,hl⟩:=ao hi;have e:2*i=ij ls.length (i+1) true:=by unfold ij;rw[if_pos rfl,show i+1+ls.length - 1=i+ls.length by omega,Nat.add_mod_right,abF (by omega)]
   have TE:=Bn ok hi true;rw[<- e] at TE;have h2:2*i<nD ls:=by omega
   have h4:=m.lt _ h2;have h6:rv (cM ls (2*i))<nD ls:=by rw[hN] at h4 ⊢;exact xT h4
   have step: ∀ t,t<2->dT (axR ls) (2*(2*i)+t) (2*(2*(i+1))+fx (AU ls (cM ls (2*i))) t):=fun t ht=>by
    have a1:=rC hp h2 ht;have a2:=wI hp h4 ht;have a3:=rC hp h6 (s:=fx (AU ls (cM ls (2*i))) t) (pK ht);rw[TE] at a3;exact a1.trans (a2.trans a3)
   have h7:=(step (fx (AU ls (cM ls (2*i))) s) (pK hs)).symm.trans (ih (by omega) (fx (AU ls (cM ls (2*i))) s) (pK hs));rw[yJ hs,GP _ _ hs] at h7;rcases ok.kinds l (aaf hl) with TD|hc
   ·have h1:=(wV ok hl TD).1;have hx:AU ls (cM ls (2*i))=true:=by
     rw[e,uO hl TD];unfold AU;simp only[decide_eq_true_eq];split<;>omega
    rw[hx] at h7;rw[AL hl TD];have:((dn ls (i+1)!=dn ls 1)!=true)=((!dn ls (i+1))!=dn ls 1):=by cases dn ls (i+1)<;>cases dn ls 1<;>rfl
    rw[this] at h7;exact h7
   ·obtain⟨_,w,hw,mc,_,_,_⟩:=g9 ok.cr hl hc;have TD:l.bq=false:=by cases hp:l.bq;rfl;rw[jf hp] at hc;cases hc
    have hx:AU ls (cM ls (2*i))=false:=by
     rw[e,rW hl hc];exact str _ (ft (aag.1 hw).1)
    rw[hx] at h7;rw[ux hl TD];have:((dn ls (i+1)!=dn ls 1)!=false)=(dn ls (i+1)!=dn ls 1):=by cases dn ls (i+1)<;>cases dn ls 1<;>rfl
    rw[this] at h7;exact h7
 rcases adg x with c|c
 ·have:=fwd (x/2) (by omega) s hs;rwa[show 2*(x/2)=x by omega] at this
 ·have h1:=fwd (x/2) (by omega) s hs;have h2:=wI (ls:=ls) hp (x:=2*(x/2)) (by omega) hs;rw[Gg,str _ (by omega)] at h2;have h3:fx false s=s:=rfl;rw[h3,show 2*(x/2)+1=x by omega] at h2;exact h2.symm.trans h1
theorem HM(g:bj F ls){w:List Nat}(hw:w∈bt (cM ls) (nD ls)){x y:Nat}(hx:x∈w)(hy:y∈w)(h1:x<2*ls.length)(h2:y<2*ls.length):dn ls (x/2+1)=dn ls (y/2+1):=by
 have hp:=Mk (ls:=ls);have e0:=G0 (p:=AU ls) g hp hw hx hy (s:=0) (by decide);have e1:=wX g h1 (s:=0) (by decide);have e2:=wX g h2 (s:=0) (by decide);have e3:=e1.symm.trans (e0.trans e2);have no: ¬ dT (axR ls) 0 1:=uN g hp (c:=Kg ls) fun x hx=>Np g.ok hx
 revert e3;cases dn ls (x/2+1)<;>cases dn ls (y/2+1)<;>cases dn ls 1<;>intro e3<;>first|rfl|exact absurd e3 no|exact absurd e3.symm no
end
def Rel(l:List Pc)(L:List ae)(D:List Bool):Prop:= ∃ z:List (Pc × Bool),z.map (·.1)=l/\z.map (·.1.l)=L/\z.map (·.2)=D/\ ∀ x∈z,(x.1.l.kind==1)=true->x.2=x.1.d
theorem Rel.fin{l:List Pc}{L:List ae}{D:List Bool}(h:Rel l L D):qc l=mP L D:=by
 obtain⟨z,rfl,rfl,rfl,hz⟩:=h;refine Oo (by simp) (by simp) fun i p hp hk=> ?_
 rw[aaA] at hp ⊢;cases hx:z[i]? with
 |none=>rw[hx] at hp;cases hp
 |some x=>
  rw[hx] at hp;cases hp;have:=hz x (aaf hx) hk;rw[<- this];rfl
theorem Rel.base(ls:List ae):Rel (pieces ls) ls (fj ls):=by
 refine⟨(List.range ls.length).map fun i=>(⟨ls.getD i hH,DO ls i⟩,dn ls i),?_,?_,?_,?_⟩
 ·simp[pieces]
 ·rw[acq];apply ade;intro i;rw[aaA];by_cases hi:i<ls.length
  ·rw[abH hi];simp[hi]
  ·rw[abI (by simp;omega),abI (by omega)];rfl
 ·rw[acq];rfl
 ·intro x hx hk;obtain⟨i,hi,rfl⟩:=aaF.1 hx;have hi:=aaE.1 hi;obtain⟨l,hl⟩:=ao hi;simp only[aap,hl,aaS] at hk ⊢;unfold DO;rw[hl];simp only;unfold ae.bq;rw[hk,acm]
theorem vD{α β:Type}(f:α->β)(l x:List α)(k:Nat):(dQ l x k).map f=dQ (l.map f) (x.map f) k:=by
 unfold dQ;simp[List.map_take,List.map_drop]
theorem Rel.ins{l x:List Pc}{L X:List ae}{D E:List Bool}(h:Rel l L D)(hx:Rel x X E)(k:Nat):Rel (bz l x k) (dQ L X k) (dQ D E k):=by
 obtain⟨z,rfl,rfl,rfl,hz⟩:=h;obtain⟨y,rfl,rfl,rfl,hy⟩:=hx;refine⟨dQ z y k,by rw[vD];rfl,by rw[vD],by rw[vD],fun x hx=> ?_⟩;unfold dQ at hx;rcases aaM.1 hx with hx|hx
 ·rcases aaM.1 hx with hx|hx
  ·exact hz x (abM hx)
  ·exact hy x hx
 ·exact hz x (abL hx)
theorem Af{α β:Type}(f:α->β)(l:List α)(out:List Nat):(lq l out).map f=lq (l.map f) out:=by
 unfold lq DI;rw[List.map_filterMap,aak];congr 1;funext i;unfold Pg;split
 ·rfl
 ·rw[aaA]
theorem Rel.wo{l:List Pc}{L:List ae}{D:List Bool}(h:Rel l L D)(out:List Nat):Rel (lq l out) (lq L out) (lq D out):=by
 obtain⟨z,rfl,rfl,rfl,hz⟩:=h;exact⟨lq z out,Af _ _ _,Af _ _ _,Af _ _ _,fun x hx=>hz x (t8 hx)⟩
theorem Ag{α β:Type}(f:α->β)(l:List α)(i j:Nat):(iO l i j).map f=iO (l.map f) i j:=by
 unfold iO;rw[aaA,aaA];cases l[i]? <;>cases l[j]? <;>simp[abU]
theorem M1{α:Type}{l:List α}{i j:Nat}{x:α}(h:x∈iO l i j):x∈l:=by
 unfold iO at h;cases hi:l[i]? with
 |none=>rw[hi] at h;exact h
 |some a=>
  cases hj:l[j]? with
  |none=>rw[hi,hj] at h;exact h
  |some b=>
   rw[hi,hj] at h;rcases adB h with h|rfl
   ·rcases adB h with h|rfl
    ·exact h
    ·exact aaf hj
   ·exact aaf hi
theorem Rel.sw{l:List Pc}{L:List ae}{D:List Bool}(h:Rel l L D)(i j:Nat):Rel (iO l i j) (iO L i j) (iO D i j):=by
 obtain⟨z,rfl,rfl,rfl,hz⟩:=h;exact⟨iO z i j,Ag _ _ _ _,Ag _ _ _ _,Ag _ _ _ _,fun x hx=>hz x (M1 hx)⟩
theorem Rel.map{l:List Pc}{L:List ae}{D:List Bool}(h:Rel l L D){f:Pc->Pc}{g:ae->ae}(hf: ∀ p∈l,(f p).l=g p.l/\(f p).d=p.d/\(f p).l.kind=p.l.kind):Rel (l.map f) (L.map g) D:=by
 obtain⟨z,rfl,rfl,rfl,hz⟩:=h;refine⟨z.map fun x=>(f x.1,x.2),?_,?_,?_,?_⟩
 ·rw[acq,acq];rfl
 ·rw[acq,acq];exact ac9 fun x hx=>(hf x.1 (aaF.2 ⟨x,hx,rfl⟩)).1
 ·rw[acq];rfl
 ·intro x hx hk;obtain⟨y,hy,rfl⟩:=aaF.1 hx;obtain⟨_,h2,h3⟩:=hf y.1 (aaF.2 ⟨y,hy,rfl⟩);simp only at hk ⊢;rw[h3] at hk;rw[h2];exact hz y hy hk
theorem Rel.set{l:List Pc}{L:List ae}{D:List Bool}(h:Rel l L D){i:Nat}{p q:Pc}(hp:l[i]? =some p)(hd:q.d=p.d)(hk:q.l.kind=p.l.kind):Rel (l.set i q) (L.set i q.l) D:=by
 obtain⟨z,rfl,rfl,rfl,hz⟩:=h;rw[aaA] at hp;cases hx:z[i]? with
 |none=>rw[hx] at hp;cases hp
 |some x=>
  rw[hx] at hp;cases hp;refine⟨z.set i (q,x.2),by rw[abU],by rw[abU],?_,fun y hy hky=> ?_⟩
  ·rw[abU];apply ade;intro j;rw[aa3];by_cases e:i=j
   ·subst e;rw[if_pos rfl,aaA,hx];have:i<z.length:=(aag.1 hx).1;simp[this]
   ·rw[if_neg e]
  ·rcases adB hy with hy|rfl
   ·exact hz y hy hky
   ·simp only at hky ⊢;rw[hd];exact hz x (aaf hx) (by rw[<- hk];exact hky)
theorem Rel.two{p q:Pc}{d e:Bool}(hp:(p.l.kind==1)=true->d=p.d)(hq:(q.l.kind==1)=true->e=q.d):Rel [p,q] [p.l,q.l] [d,e]:=
 ⟨[(p,d),(q,e)],rfl,rfl,rfl,fun x hx=>by
  simp only[aat,abG,or_false] at hx;rcases hx with rfl|rfl
  ·exact hp
  ·exact hq⟩
theorem Rel.len{l:List Pc}{L:List ae}{D:List Bool}(h:Rel l L D):L.length=l.length/\D.length=l.length:=by
 obtain⟨z,rfl,rfl,rfl,_⟩:=h;simp
theorem jB(ls:List ae)(i:Nat):(pA ls i).l=lA ls i:=by
 by_cases h:i<ls.length
 ·obtain⟨l,hl⟩:=ao h;show((pieces ls).getD i _).l=ls.getD i hH;rw[aap,aap,eB hl,hl];rfl
 ·show((pieces ls).getD i _).l=ls.getD i hH;rw[aap,aap,abI (by rw[aF];omega),abI (by omega)];rfl
theorem yz{ls:List ae}{i:Nat}(h:i<ls.length):ls[i]? =some (lA ls i):=by
 obtain⟨l,hl⟩:=ao h;rw[hl];show some l=some (ls.getD i hH);rw[aap,hl];rfl
theorem filterMap_eq{α β:Type}{f g:α->Option β}: ∀ {l:List α},(∀ x∈l,f x=g x)->l.filterMap f=l.filterMap g:=by
 intro l
 induction l with
 |nil=>intro _;rfl
 |cons a l ih=>
  intro h;rw[List.filterMap_cons,List.filterMap_cons,h a (by simp),ih fun x hx=>h x (by simp[hx])]
theorem Gk{ls:List ae}{i:Nat}(h:i<ls.length):(pieces ls)[i]? =some (pA ls i):=by
 rw[eB (yz h)];congr 1;show _=(pieces ls).getD i _;rw[aap,eB (yz h)];rfl
theorem ke{l:ae}(h:l.kind=2):l.aJ=true:=by unfold ae.aJ;rw[h];rfl
theorem mh{l:ae}(h:l.kind=1):l.bq=true:=by unfold ae.bq;rw[h];rfl
theorem K5{l:ae}(h:l.aJ=true):l.kind=2:=by unfold ae.aJ at h;exact eq_of_beq h
theorem EZ{l:ae}(h:l.bq=true):l.kind=1:=by unfold ae.bq at h;exact eq_of_beq h
theorem An(l:List Pc)(drop:Nat->Pc->Bool)(out:List Nat)(h: ∀ i p,l[i]? =some p->(drop i p=true↔i∈out)):iB l drop=lq l out:=by
 unfold iB nC lq DI;refine filterMap_eq fun i hi=> ?_
 unfold sy Pg;cases hp:l[i]? with
 |none=>simp
 |some p=>
  simp only;by_cases c:i∈out
  ·rw[if_pos c,if_pos ((h i p hp).2 c)]
  ·rw[if_neg c,if_neg fun d=>c ((h i p hp).1 d)]
theorem Qd{α:Type}{l:List α}{out:List Nat}{x:α}(h:x∈lq l out): ∃ i,i∉out/\l[i]? =some x:=by
 unfold lq DI at h;obtain⟨i,_,hi⟩:=List.mem_filterMap.1 h;unfold Pg at hi;split at hi
 ·cases hi
 ·rename_i c;exact⟨i,c,hi⟩
section
variable {F:Nat} {ls:List ae}
theorem bj.pos(g:bj F ls):0<ls.length:=abn.2 g.ne
theorem bj.nv(g:bj F ls)(e:Nat):nx ls e<ls.length:=aax _ g.pos
theorem bj.tD(g:bj F ls){i:Nat}{l:ae}(hl:ls[i]? =some l)(hp:l.bq=true):jq F ls l:=g.ok.ax.good l (aaf hl) hp
theorem bj.one(g:bj F ls){i j:Nat}{l m:ae}(hl:ls[i]? =some l)(hm:ls[j]? =some m)(pl:l.bq=true)(pm:m.bq=true)(hg:l.gate=m.gate)(hr:l.Th=m.Th):i=j:=
 g.ok.ax.inj i j l m hl hm pl pm ((Ky (g.tD hl pl) (g.tD hm pm)).2 ⟨hg,hr⟩)
theorem mv1(g:bj F ls){a:Nat}(ha:a<ls.length):
  (RW ls a).isSome=(lG (lA ls a) (lA ls (nx ls a))&&(decide ((2:Int)<(aD ae.bq ls:Nat))||(((aD ae.aJ ls/2:Nat):Int)==0)))/\
  ∀ L,RW ls a=some L->Rel L ((lq ls [a,nx ls a]).map (jV (lA ls a).gate (if (lA ls (nx ls a)).Th<(lA ls a).Th then (lA ls (nx ls a)).Th else (lA ls a).Th) 2)) (lq (fj ls) [a,nx ls a]):=by
 have hn:=g.nv a;have e1:=jB ls a;have e2:=jB ls (nx ls a);unfold RW;simp only
 change ((if ((pA ls a).l.kind==1)&&(((pA ls (nx ls a)).l.kind==1)&&(((pA ls a).l.gate==(pA ls (nx ls a)).l.gate)&&((DM (pA ls a).l.Th (pA ls (nx ls a)).l.Th - KJ (pA ls a).l.Th (pA ls (nx ls a)).l.Th==1)&& !(decide (aD ae.bq ls<=2)&&decide (0<aD ae.aJ ls/2))))) then some (aU (iB (pieces ls) fun k _=>decide (k=a)||decide (k=nx ls a)) (pA ls a).l.gate (DM (pA ls a).l.Th (pA ls (nx ls a)).l.Th) (-2)) else none).isSome=_/\ ∀ L,(if ((pA ls a).l.kind==1)&&(((pA ls (nx ls a)).l.kind==1)&&(((pA ls a).l.gate==(pA ls (nx ls a)).l.gate)&&((DM (pA ls a).l.Th (pA ls (nx ls a)).l.Th - KJ (pA ls a).l.Th (pA ls (nx ls a)).l.Th==1)&& !(decide (aD ae.bq ls<=2)&&decide (0<aD ae.aJ ls/2))))) then some (aU (iB (pieces ls) fun k _=>decide (k=a)||decide (k=nx ls a)) (pA ls a).l.gate (DM (pA ls a).l.Th (pA ls (nx ls a)).l.Th) (-2)) else none)=some L->_)
 rw[e1,e2];have h1:=yz ha;have h2:=yz hn;generalize hx:lA ls a=x at*;generalize hy:lA ls (nx ls a)=y at*;have hmm:(DM x.Th y.Th - KJ x.Th y.Th==1)=((x.Th==y.Th+1)||(y.Th==x.Th+1)):=by
  rw[abj];unfold DM KJ;simp only[beq_iff_eq,abk];split<;>split<;>omega
 have Wt:(!(decide (aD ae.bq ls<=2)&&decide (0<aD ae.aJ ls/2)))=(decide ((2:Int)<(aD ae.bq ls:Nat))||(((aD ae.aJ ls/2:Nat):Int)==0)):=by
  rw[abj];simp only[aaH,Bool.and_eq_false_iff,decide_eq_false_iff_not,abk,decide_eq_true_eq,beq_iff_eq];omega
 rw[hmm,Wt];have UM:((x.kind==1)&&((y.kind==1)&&((x.gate==y.gate)&&(((x.Th==y.Th+1)||(y.Th==x.Th+1))&&(decide ((2:Int)<(aD ae.bq ls:Nat))||(((aD ae.aJ ls/2:Nat):Int)==0))))))=(lG x y&&(decide ((2:Int)<(aD ae.bq ls:Nat))||(((aD ae.aJ ls/2:Nat):Int)==0))):=by
  unfold lG;simp only[Bool.and_assoc]
 rw[UM];refine⟨by split<;>simp_all,fun L hL=> ?_⟩;split at hL
 ·rename_i hc;cases hL
  rw[aan] at hc;have hn:=hc.1;unfold lG at hn;simp only[aan,abk,beq_iff_eq] at hn;obtain⟨k1,k2,k3,k4⟩:=hn;rw[An (pieces ls) (fun k _=>decide (k=a)||decide (k=nx ls a)) [a,nx ls a] (fun i p _=>by simp)];refine((Rel.base ls).wo _).map fun p hp=> ?_
  obtain⟨i,hi,Ut⟩:=Qd hp;simp only[aat,abG,or_false,not_or] at hi;have Vj:i<ls.length:=by have:=(aag.1 Ut).1;rwa[aF] at this
  have TD:ls[i]? =some p.l:=by
   rw[eB (yz Vj)] at Ut;cases Ut
   exact yz Vj
  unfold ue jV;by_cases c1:(p.l.kind==1)=true
  ·rw[c1];by_cases c2:(p.l.gate==x.gate)=true
   ·rw[c2];simp only[acm,decide_eq_true_eq];have nx1:p.l.Th≠x.Th:=fun e=>hi.1 (g.one TD h1 c1 (by unfold ae.bq;simp[k1]) (eq_of_beq c2) e)
    have nx2:p.l.Th≠y.Th:=fun e=>hi.2 (g.one TD h2 c1 (by unfold ae.bq;simp[k2]) (by rw[eq_of_beq c2,k3]) e)
    have:(DM x.Th y.Th<p.l.Th)↔((if y.Th<x.Th then y.Th else x.Th)<p.l.Th):=by
     unfold DM;split<;>split<;>omega
    by_cases c3:(if y.Th<x.Th then y.Th else x.Th)<p.l.Th
    ·rw[if_pos (this.2 c3),if_pos c3];exact⟨rfl,rfl,rfl⟩
    ·rw[if_neg (fun h=>c3 (this.1 h)),if_neg c3];exact⟨rfl,rfl,rfl⟩
   ·rw[Bool.eq_false_iff.2 c2];exact⟨rfl,rfl,rfl⟩
  ·rw[Bool.eq_false_iff.2 c1];exact⟨rfl,rfl,rfl⟩
 ·cases hL
end
section
variable {F:Nat} {ls:List ae}
theorem bj.two(g:bj F ls):2<=ls.length:=by
 have h:=KU g.ok;obtain⟨l,hl,hp⟩:=g.first;have h1:0<aD ae.bq ls:=adz.2 ⟨l,aaf hl,hp⟩;have h2:=g.even;omega
theorem bj.Id(g:bj F ls){a:Nat}(ha:a<ls.length):a≠nx ls a:=yh g.two ha
theorem bj.three(g:bj F ls){i j k:Nat}{l m x:ae}(hi:ls[i]? =some l)(hj:ls[j]? =some m)(hk:ls[k]? =some x)(cl:l.aJ=true)(cm:m.aJ=true)(cx:x.aJ=true)(e1:l.id=m.id)(e2:l.id=x.id)(WK:i≠j):k=i\/k=j:=by
 have hp:=g.ids.2;by_cases h1:k=i
 ·exact .inl h1
 ·by_cases h2:k=j
  ·exact .inr h2
  ·have o1:=(hp i j l m hi hj cl cm e1 WK).1;have o2:=(hp i k l x hi hk cl cx e2 fun e=>h1 e.symm).1;have o3:=(hp j k m x hj hk cm cx (e1▸e2) fun e=>h2 e.symm).1;revert o1 o2 o3;cases l.over<;>cases m.over<;>cases x.over<;>simp
theorem KQ(ids:List Int)(p:Pc):(oY ids p).l=r6 ids p.l/\(oY ids p).d=p.d/\(oY ids p).l.kind=p.l.kind:=by
 unfold oY r6;split
 ·refine⟨?_,rfl,rfl⟩;unfold gx nz;simp only[aa7,List.countP_eq_length_filter]
 ·exact⟨rfl,rfl,rfl⟩
theorem mv4(g:bj F ls){a:Nat}(ha:a<ls.length):
  (QS ls a).isSome=(xB ls a&&((lA ls a).id==(lA ls (nx ls a)).id))/\
  ∀ L,QS ls a=some L->Rel L ((lq ls [a,nx ls a]).map (r6 [(lA ls a).id])) (lq (fj ls) [a,nx ls a]):=by
 have hn:=g.nv a;have TA:=g.Id ha;have h1:=dD ha;have h2:=dD hn;unfold QS xB;simp only;change ((if ((pA ls a).l.kind==2)&&(((pA ls (nx ls a)).l.kind==2)&&((pA ls a).l.id==(pA ls (nx ls a)).l.id)) then some (tI (pieces ls) [(pA ls a).l.id]) else none).isSome=_/\ ∀ L,(if ((pA ls a).l.kind==2)&&(((pA ls (nx ls a)).l.kind==2)&&((pA ls a).l.id==(pA ls (nx ls a)).l.id)) then some (tI (pieces ls) [(pA ls a).l.id]) else none)=some L->_);rw[jB,jB,<- Bool.and_assoc];refine⟨by split<;>simp_all,fun L hL=> ?_⟩;split at hL
 ·rename_i hc;cases hL
  simp only[aan,beq_iff_eq] at hc;obtain⟨⟨k1,k2⟩,k3⟩:=hc;have hk:iB (pieces ls) (kx [(lA ls a).id])=lq (pieces ls) [a,nx ls a]:=by
   refine An _ _ _ fun i p hp=> ?_
   have Vj:i<ls.length:=by have:=(aag.1 hp).1;rwa[aF] at this
   have TD:ls[i]? =some p.l:=by
    rw[eB (dD Vj)] at hp;cases hp
    exact dD Vj
   unfold kx;simp only[aan,beq_iff_eq,adD,aat,abG,or_false,decide_eq_true_eq];constructor
   ·rintro ⟨q1,q2⟩
    exact g.three h1 h2 TD (ke k1) (ke k2) (ke q1) k3 q2.symm TA
   ·have get: ∀ j,j<ls.length->i=j->p.l=lA ls j:=fun j hj e=>by subst e;rw[dD hj] at TD;exact(ab2 TD).symm
    rintro (e|e)
    ·rw[get _ ha e];exact⟨k1,rfl⟩
    ·rw[get _ hn e];exact⟨k2,k3.symm⟩
  show Rel ((iB (pieces ls) (kx [(lA ls a).id])).map (oY [(lA ls a).id])) _ _;rw[hk];exact((Rel.base ls).wo _).map fun p _=>KQ _ p
 ·cases hL
theorem mv5(a:Nat)(sg:Int)(o:Bool):Rel (Sw ls a sg o) (dQ ls [⟨2,0,0,(aD ae.aJ ls/2:Nat)+1,sg,o⟩,⟨2,0,0,(aD ae.aJ ls/2:Nat)+1,sg,!o⟩] a) (dQ (fj ls) [false,!false] a):=by
 unfold Sw;refine(Rel.base ls).ins ?_ a;exact Rel.two (p:=⟨⟨2,0,0,((aD ae.aJ ls/2+1:Nat):Int),sg,o⟩,false⟩) (q:=⟨⟨2,0,0,((aD ae.aJ ls/2+1:Nat):Int),sg,!o⟩,false⟩) (by intro h;cases h) (by intro h;cases h)
theorem Mc(ls:List ae)(e:Nat)(ov:Bool):nY ls e ov=(xB ls e&&(((lA ls e).over==ov)&&((lA ls (nx ls e)).over==ov))):=by
 unfold nY xB;rw[jB,jB,Bool.and_assoc]
theorem mv6(g:bj F ls){a b:Nat}(ha:a<ls.length)(hb:b<ls.length):
  (QJ F ls a b).isSome=Rh F ls a b/\
  ∀ L,QJ F ls a b=some L->Rel L ((lq ls [a,nx ls a,b,nx ls b]).map (r6 [(lA ls a).id,(lA ls (nx ls a)).id])) (lq (fj ls) [a,nx ls a,b,nx ls b]):=by
 have hn:=g.nv a;have hm:=g.nv b;have na:=g.Id ha;have nb:=g.Id hb;have h1:=dD ha;have h2:=dD hn;have h3:=dD hb;have h4:=dD hm;have UM:(((nY ls a true&&nY ls b false)||(nY ls a false&&nY ls b true))&&(!((pA ls a).l.id==(pA ls (nx ls a)).l.id)&&
  (((((pA ls b).l.id==(pA ls a).l.id)&&((pA ls (nx ls b)).l.id==(pA ls (nx ls a)).l.id))||(((pA ls b).l.id==(pA ls (nx ls a)).l.id)&&((pA ls (nx ls b)).l.id==(pA ls a).l.id)))&&
  (!((a+2)%ls.length==b)&&(!((b+2)%ls.length==a)&&jJ F ls 0 [a,b] a)))))=Rh F ls a b:=by
  rw[qd rfl ha];unfold Rh;simp only[Mc,jB];have e1:((a+2)%ls.length==b)=((((a+2)%ls.length:Nat):Int)==(b:Int)):=by rw[abj];simp only[beq_iff_eq];omega
  have e2:((b+2)%ls.length==a)=((((b+2)%ls.length:Nat):Int)==(a:Int)):=by rw[abj];simp only[beq_iff_eq];omega
  rw[e1,e2];have s1:((lA ls b).id==(lA ls a).id)=((lA ls a).id==(lA ls b).id):=by rw[abj];simp only[beq_iff_eq];exact eq_comm
  have s2:((lA ls (nx ls b)).id==(lA ls (nx ls a)).id)=((lA ls (nx ls a)).id==(lA ls (nx ls b)).id):=by rw[abj];simp only[beq_iff_eq];exact eq_comm
  have s3:((lA ls b).id==(lA ls (nx ls a)).id)=((lA ls (nx ls a)).id==(lA ls b).id):=by rw[abj];simp only[beq_iff_eq];exact eq_comm
  have s4:((lA ls (nx ls b)).id==(lA ls a).id)=((lA ls a).id==(lA ls (nx ls b)).id):=by rw[abj];simp only[beq_iff_eq];exact eq_comm
  rw[s1,s2,s3,s4];generalize xB ls a=p1;generalize xB ls b=p2;generalize ((lA ls a).id==(lA ls (nx ls a)).id)=p3;generalize ((((a+2)%ls.length:Nat):Int)==(b:Int))=p4;generalize ((((b+2)%ls.length:Nat):Int)==(a:Int))=p5;generalize ((lA ls a).id==(lA ls b).id)=p6;generalize ((lA ls (nx ls a)).id==(lA ls (nx ls b)).id)=p7;generalize ((lA ls (nx ls a)).id==(lA ls b).id)=p8;generalize ((lA ls a).id==(lA ls (nx ls b)).id)=p9;generalize jZ F ls 0 [a,b]=p10;generalize (lA ls a).over=o1;generalize (lA ls b).over=o2;generalize (lA ls (nx ls a)).over=o3;generalize (lA ls (nx ls b)).over=o4
  cases p1<;>cases p2<;>cases p3<;>simp
  all_goals(cases o1<;>cases o2<;>cases o3<;>cases o4<;>simp)
  all_goals(cases p6<;>cases p7<;>cases p8<;>cases p9<;>cases p4<;>cases p5<;>simp)
 unfold QJ;rw[UM];refine⟨by split<;>simp_all,fun L hL=> ?_⟩;split at hL
 ·rename_i hc;cases hL
  unfold Rh at hc;simp only[aan,abk,aaH,beq_iff_eq,beq_eq_false_iff_ne] at hc;obtain⟨c1,c2,c3,c4,c5,c6,c7,c8,c9,_⟩:=hc;unfold xB at c1 c2;simp only[aan,beq_iff_eq] at c1 c2;have ka:(lA ls a).aJ=true:=ke c1.1;have kna:(lA ls (nx ls a)).aJ=true:=ke c1.2;have kb:(lA ls b).aJ=true:=ke c2.1;have knb:(lA ls (nx ls b)).aJ=true:=ke c2.2;have hk:iB (pieces ls) (kx [(pA ls a).l.id,(pA ls (nx ls a)).l.id])=lq (pieces ls) [a,nx ls a,b,nx ls b]:=by
   rw[jB,jB];refine An _ _ _ fun i p hp=> ?_
   have Vj:i<ls.length:=by have:=(aag.1 hp).1;rwa[aF] at this
   have TD:ls[i]? =some p.l:=by
    rw[eB (dD Vj)] at hp;cases hp
    exact dD Vj
   have ab:a≠b:=fun e=>c9 (by rw[e])
   unfold kx;simp only[aan,beq_iff_eq,adD,aat,abG,or_false,decide_eq_true_eq];constructor
   ·rintro ⟨q1,q2⟩
    have kp:p.l.aJ=true:=ke q1;have over: ∀ {i j:Nat} {l m:ae},ls[i]? =some l->ls[j]? =some m->l.over≠m.over->i≠j:=fun h k ho e=>by subst e;rw[h] at k;cases k;exact ho rfl
    rcases q2 with q2|q2<;>rcases c6 with ⟨d1,d2⟩|⟨d1,d2⟩
    ·rcases g.three h1 h3 TD ka kb kp d1 q2.symm ab with e|e<;>subst e<;>simp
    ·rcases g.three h1 h4 TD ka knb kp d1 q2.symm (over h1 h4 (by rw[<- c8];exact c9)) with e|e<;>subst e<;>simp
    ·rcases g.three h2 h4 TD kna knb kp d2 q2.symm (over h2 h4 (by rw[<- c8,<- c7];exact c9)) with e|e<;>subst e<;>simp
    ·rcases g.three h2 h3 TD kna kb kp d2 q2.symm (over h2 h3 (by rw[<- c7];exact c9)) with e|e<;>subst e<;>simp
   ·have get: ∀ j,j<ls.length->i=j->p.l=lA ls j:=fun j hj e=>by subst e;rw[dD hj] at TD;exact(ab2 TD).symm
    rintro (e|e|e|e)
    ·rw[get _ ha e];exact⟨c1.1, .inl rfl⟩
    ·rw[get _ hn e];exact⟨c1.2, .inr rfl⟩
    ·rw[get _ hb e];exact⟨c2.1,c6.elim (fun d=> .inl d.1.symm) (fun d=> .inr d.2.symm)⟩
    ·rw[get _ hm e];exact⟨c2.2,c6.elim (fun d=> .inr d.2.symm) (fun d=> .inl d.1.symm)⟩
  show Rel ((iB (pieces ls) (kx [(pA ls a).l.id,(pA ls (nx ls a)).l.id])).map (oY [(pA ls a).l.id,(pA ls (nx ls a)).l.id])) _ _;rw[hk,jB,jB];exact((Rel.base ls).wo _).map fun p _=>KQ _ p
 ·cases hL
end
theorem uS: ∀ (L M:List Int),L.Nodup->(∀ x∈L,x∈M)->L.length<=M.length:=by
 intro L
 induction L with
 |nil=>intro M _ _;exact aah _
 |cons a L ih=>
  intro M hn hs;obtain⟨h1,h2⟩:=abD.1 hn;have ha:=hs a (by simp);have:=ih (M.erase a) h2 fun x hx=>(List.mem_erase_of_ne (by rintro rfl;exact h1 hx)).2 (hs x (by simp[hx]))
  rw[List.length_erase_of_mem ha] at this;have:0<M.length:=List.length_pos_of_mem ha;simp only[aar];omega
theorem LS: ∀ l:List Int,(sM l).Nodup:=by
 intro l
 induction l with
 |nil=>exact ace
 |cons a l ih=>
  unfold sM;split
  ·exact ih
  ·rename_i h;exact abD.2 ⟨fun hm=>h (rA.1 hm),ih⟩
theorem LT{l:List Int}:(sM l).length=l.length↔l.Nodup:=by
 induction l with
 |nil=>simp[sM]
 |cons a l ih=>
  have hle:(sM l).length<=l.length:=uS _ _ (LS l) fun x hx=>rA.1 hx
  unfold sM;rw[abD];split
  ·rename_i h;constructor
   ·intro e;simp only[aar] at e;omega
   ·intro e;exact absurd h e.1
  ·rename_i h;simp only[aar];rw[<- ih];exact⟨fun e=>⟨h,by omega⟩,fun e=>by omega⟩
theorem Lj{l:List Int}{x:Int}(h:l.Nodup):(kO l x).Nodup:=by
 unfold kO;split
 ·exact h
 ·rename_i hx;rw[adb];exact⟨h,by simp,fun a ha b hb e=>hx (by simp at hb;subst hb;subst e;exact ha)⟩
theorem GE{l:List Int}{x y:Int}:y∈kO l x↔y∈l\/y=x:=by
 unfold kO;split
 ·rename_i hx;exact⟨.inl,fun h=>h.elim id fun e=>e▸hx⟩
 ·simp
section
variable {F:Nat} {ls:List ae}
theorem QY{l:List Int}(h:l.Nodup)(e:Nat):(Li ls l e).Nodup:=Lj (Lj h)
theorem JJ(es:List Nat): ∀ l:List Int,l.Nodup->(es.foldl (Li ls) l).Nodup/\ ∀ y,y∈es.foldl (Li ls) l↔y∈l\/y∈es.flatMap fun e:Nat=>[(lA ls e).id,(lA ls (nx ls e)).id]:=by
 induction es with
 |nil=>intro l h;exact⟨h,fun y=>by simp⟩
 |cons e es ih=>
  intro l h;obtain⟨h1,h2⟩:=ih (Li ls l e) (QY h e);refine⟨h1,fun y=> ?_⟩;rw[abN,h2];unfold Li;rw[GE,GE,List.flatMap_cons,aaM];simp only[aat,abG,or_false];constructor
  ·rintro (((h|h)|h)|h)
   ·exact .inl h
   ·exact .inr (.inl (.inl h))
   ·exact .inr (.inl (.inr h))
   ·exact .inr (.inr h)
  ·rintro (h|(h|h)|h)
   ·exact .inl (.inl (.inl h))
   ·exact .inl (.inl (.inr h))
   ·exact .inl (.inr h)
   ·exact .inr h
theorem Lg(es:List Nat):(sM (DL ls es)).length=(pF ls es).length:=by
 obtain⟨h1,h2⟩:=JJ (ls:=ls) es [] ace;have hm: ∀ y,y∈sM (DL ls es)↔y∈pF ls es:=fun y=>by
  rw[rA];unfold pF;rw[h2];unfold DL;simp only[jB,abG,false_or]
 have a:=uS _ _ (LS _) fun x hx=>(hm x).1 hx
 have b:=uS _ _ h1 fun x hx=>(hm x).2 hx
 exact Nat.le_antisymm a b
theorem Sd{e:Nat}(h:xB ls e=true):nY ls e true=(PJ ls e==2)/\nY ls e false=(PJ ls e==0):=by
 rw[Mc,Mc,h];unfold PJ;cases (lA ls e).over<;>cases (lA ls (nx ls e)).over<;>exact⟨rfl,rfl⟩
theorem LZ(e:Nat):Jc ls e=xB ls e:=by unfold Jc xB;rw[jB,jB]
theorem Sk(g:bj F ls){a b c:Nat}(ha:a<ls.length)(hb:b<ls.length)(hc:c<ls.length):R9 F ls a b c=MY F ls [a,b,c]:=by
 have na:=g.Id ha;have nb:=g.Id hb;have nc:=g.Id hc;unfold R9 MY;rw[qd rfl ha,Lg];have U3:((sM (A7 ls [a,b,c])).length==6)=decide ((A7 ls [a,b,c]).Nodup):=by
  rw[abj];simp only[beq_iff_eq,decide_eq_true_eq];rw[<- LT];unfold A7;simp
 rw[U3];have Ty:(List.range [a,b,c].length).all (JI ls [a,b,c])=([a,b,c].all (Jc ls)&&decide ((A7 ls [a,b,c]).Nodup)):=by
  have:List.range [a,b,c].length=[0,1,2]:=rfl;rw[this];unfold JI DK A7;simp only[abR,abZ,List.getElem?_cons_zero,List.getElem?_cons_succ,List.take_succ_cons,List.take_zero,List.flatMap_cons,List.flatMap_nil,List.cons_append,abK,LZ];rw[abj];simp only[aan,aaH,decide_eq_false_iff_not,decide_eq_true_eq,aat,abG,or_false,abD,not_or,not_false_eq_true,ace,and_true];constructor
  ·rintro ⟨h1,⟨h2,h3,h4⟩,h5,h6,h7⟩
   refine⟨⟨h1,h2,h5⟩,?_⟩;omega
  ·rintro ⟨⟨h1,h2,h5⟩,h⟩
   refine⟨h1,⟨h2,?_,?_⟩,h5,?_,?_⟩<;>omega
 rw[Ty];cases h1:[a,b,c].all (Jc ls) with
 |false=>rfl
 |true=>
  simp only[abR,abZ,ach,aan,LZ] at h1;obtain⟨q1,q2,q3⟩:=h1;have e1:([a,b,c].any (nY ls · true))=decide ((2:Int)∈xL ls [a,b,c]):=by
   rw[abj];unfold xL;simp only[List.any_cons,List.any_nil,Bool.or_false,(Sd q1).1,(Sd q2).1,(Sd q3).1,abk,beq_iff_eq,decide_eq_true_eq,aas,aaG,aat,abG,or_false];omega
  have e2:([a,b,c].any (nY ls · false))=decide ((0:Int)∈xL ls [a,b,c]):=by
   rw[abj];unfold xL;simp only[List.any_cons,List.any_nil,Bool.or_false,(Sd q1).2,(Sd q2).2,(Sd q3).2,abk,beq_iff_eq,decide_eq_true_eq,aas,aaG,aat,abG,or_false];omega
  rw[e1,e2];simp only[acm]
theorem Bm(g:bj F ls){l:List Pc}(hl:l.length=ls.length){e:Nat}(he:e<ls.length):Ja ls l e=iO l e (nx ls e):=by
 have hn:=g.nv e;obtain⟨p,hp⟩:=ao (ls:=l) (k:=e) (by omega);obtain⟨q,hq⟩:=ao (ls:=l) (k:=nx ls e) (by omega);unfold Ja iO;rw[hp,hq];simp only[aap,hp,hq,aaS]
theorem mv8(g:bj F ls){a b c:Nat}(ha:a<ls.length)(hb:b<ls.length)(hc:c<ls.length):
  (MZ F ls a b c).isSome=MY F ls [a,b,c]/\
  ∀ L,MZ F ls a b c=some L->Rel L (iO (iO (iO ls a (nx ls a)) b (nx ls b)) c (nx ls c)) (iO (iO (iO (fj ls) a (nx ls a)) b (nx ls b)) c (nx ls c)):=by
 unfold MZ;rw[Sk g ha hb hc];refine⟨by split<;>simp_all,fun L hL=> ?_⟩;split at hL
 ·cases hL
  unfold xr;simp only[abN,List.foldl_nil];rw[Bm g (aF ls) ha,Bm g (by rw[fF,aF]) hb,Bm g (by rw[fF,fF,aF]) hc];exact(((Rel.base ls).sw _ _).sw _ _).sw _ _
 ·cases hL
theorem zR(g' ab Uu:Int)(p:Pc):(ue g' ab Uu p).l=jV g' ab (-Uu) p.l/\(ue g' ab Uu p).d=p.d/\(ue g' ab Uu p).l.kind=p.l.kind:=by
 unfold ue jV;split
 ·exact⟨by simp only[Int.sub_neg],rfl,rfl⟩
 ·exact⟨rfl,rfl,rfl⟩
theorem mv9(g:bj F ls){a:Nat}(ha:a<ls.length):
  (Qj F ls a).isSome=(((lA ls a).kind==1)&&(decide ((lA ls a).gate<(F:Int))&&((lA ls a).Th==((aD (o0 (lA ls a).gate) ls:Nat):Int))))/\
  ∀ L,Qj F ls a=some L->Rel L ((ls.map (jV ((lA ls a).gate+1) 0 (-1))).set a {jV ((lA ls a).gate+1) 0 (-1) (lA ls a) with gate:=(lA ls a).gate+1,Th:=1}) (fj ls):=by
 have h1:=dD ha;have hcg:(lA ls a).kind=1->cg ls (lA ls a).gate.toNat=aD (o0 (lA ls a).gate) ls:=fun hk=>by
  have:=(g.tD h1 (mh hk)).g0;exact List.countP_congr fun l _=>by rw[mr _ this]
 unfold Qj;rw[jB];refine⟨?_,fun L hL=> ?_⟩
 ·cases hk:((lA ls a).kind==1) with
  |false=>rfl
  |true=>
   rw[hcg (eq_of_beq hk)];split<;>simp_all
 ·split at hL
  ·cases hL
   have hp:(aU (pieces ls) ((lA ls a).gate+1) 0 1)[a]? =some (ue ((lA ls a).gate+1) 0 1 (pA ls a)):=by
    unfold aU;rw[aaA,Gk ha];rfl
   have hr:Rel (aU (pieces ls) ((lA ls a).gate+1) 0 1) (ls.map (jV ((lA ls a).gate+1) 0 (-1))) (fj ls):=(Rel.base ls).map fun p _=>zR _ _ _ p
   unfold pH;rw[aap,hp,aaS];have:=hr.set hp (q:={ue ((lA ls a).gate+1) 0 1 (pA ls a) with l:={(ue ((lA ls a).gate+1) 0 1 (pA ls a)).l with gate:=(lA ls a).gate+1,Th:=1}}) rfl rfl;have e:({(ue ((lA ls a).gate+1) 0 1 (pA ls a)).l with gate:=(lA ls a).gate+1,Th:=1}:ae)={jV ((lA ls a).gate+1) 0 (-1) (lA ls a) with gate:=(lA ls a).gate+1,Th:=1}:=by
    rw[(zR ((lA ls a).gate+1) 0 1 (pA ls a)).1,jB]
   rw[<- e];exact this
  ·cases hL
theorem mv10(g:bj F ls){a:Nat}(ha:a<ls.length):
  (Ql ls a).isSome=(((lA ls a).kind==1)&&(decide (0<(lA ls a).gate)&&((lA ls a).Th==1)))/\
  ∀ L,Ql ls a=some L->Rel L ((ls.set a {lA ls a with gate:=(lA ls a).gate - 1,Th:=((aD (o0 ((lA ls a).gate - 1)) ls:Nat):Int)+1}).map (jV (lA ls a).gate 1 1)) (fj ls):=by
 have h1:=dD ha;unfold Ql;rw[jB];refine⟨by split<;>simp_all,fun L hL=> ?_⟩;split at hL
 ·rename_i hc;cases hL
  simp only[aan,beq_iff_eq,decide_eq_true_eq] at hc;obtain⟨k1,k2,k3⟩:=hc;have hcg:cg ls ((lA ls a).gate - 1).toNat=aD (o0 ((lA ls a).gate - 1)) ls:=List.countP_congr fun l _=>by rw[mr _ (by omega)]
  have hp:(aU (pieces ls) (lA ls a).gate 1 (-1))[a]? =some (ue (lA ls a).gate 1 (-1) (pA ls a)):=by
   unfold aU;rw[aaA,Gk ha];rfl
  have T4:ue (lA ls a).gate 1 (-1) (pA ls a)=pA ls a:=by
   unfold ue;rw[jB,k3];simp
  have hr:Rel (aU (pieces ls) (lA ls a).gate 1 (-1)) (ls.map (jV (lA ls a).gate 1 1)) (fj ls):=(Rel.base ls).map fun p _=>zR _ _ _ p
  rw[T4] at hp;have:=hr.set hp (q:={pA ls a with l:={(pA ls a).l with gate:=(lA ls a).gate - 1,Th:=((cg ls ((lA ls a).gate - 1).toNat+1:Nat):Int)}}) rfl rfl;unfold pH;rw[aap,hp,aaS,abU];have e:jV (lA ls a).gate 1 1 {lA ls a with gate:=(lA ls a).gate - 1,Th:=((aD (o0 ((lA ls a).gate - 1)) ls:Nat):Int)+1}={lA ls a with gate:=(lA ls a).gate - 1,Th:=((aD (o0 ((lA ls a).gate - 1)) ls:Nat):Int)+1}:=by
   unfold jV;have:((lA ls a).gate - 1==(lA ls a).gate)=false:=by
    rw[beq_eq_false_iff_ne];omega
   simp only[this,Bool.false_and,Bool.and_false,aaL,if_false]
  rw[e];simp only[jB] at this ⊢;rw[hcg] at this ⊢;exact this
 ·cases hL
end
section
variable {F:Nat} {ls:List ae}
theorem uu{d e:Nat}(hd:d<2*ls.length)(he:e<2*ls.length):tC F ls d=tC F ls e↔d∈(aA F ls e).Tl:=by
 obtain⟨i,i1,i2,i3⟩:=fR (F:=F) hd;obtain⟨j,j1,j2,j3⟩:=fR (F:=F) he;have ei:tC F ls d=i:=by show(dr F ls).getD d 0=i;rw[aap,i3];rfl
 have ej:tC F ls e=j:=by show(dr F ls).getD e 0=j;rw[aap,j3];rfl
 rw[ei,ej];constructor
 ·rintro rfl
  rw[i1] at j1;rw[<- ab2 j1];exact i2
 ·intro h;exact rB i1 j1 i2 h
theorem KD(g:bj F ls){f:Fc}(hf:f∈ay F ls){e:Nat}(h1:2*e∈f.Tl)(h2:2*e+1∈f.Tl):False:=by
 obtain⟨w,hw,rfl⟩:=aaF.1 hf;rw[jr] at h1 h2;obtain⟨a1,a2⟩:=acf.1 h1;obtain⟨b1,_⟩:=acf.1 h2;have:2*e<2*ls.length:=by simpa using a2
 exact Ie g (x:=2*e) (by unfold nD;omega) hw a1 (by rw[Gg];exact b1)
theorem Aa(g:bj F ls){a b:Nat}(WP:a≠b)(l o same other:Bool)(hs:uy F ls a b l=same):
  ∀ L,lY ls a b l o same other=some L->Rel L (OD F ls a b l o) (OF ls a b):=by
 intro L hL;unfold lY at hL;split at hL
 ·cases hL
 ·simp only[aaw] at hL;have hsg:(if o==(same==l) then 1 else -1:Int)=wD (uy F ls a b l) l o:=by
   rw[hs];unfold wD;cases o<;>cases same<;>cases l<;>rfl
  rw[hsg] at hL;subst hL;have r1:Rel (A8 (aD ae.aJ ls/2) (wD (uy F ls a b l) l o) o) [Rj (IK ls) (wD (uy F ls a b l) l o) o,Ri (IK ls) (wD (uy F ls a b l) l o) o] [false,true]:=
   Rel.two (p:=DJ (aD ae.aJ ls/2) 1 (wD (uy F ls a b l) l o) o) (q:=DJ (aD ae.aJ ls/2) 2 (-(wD (uy F ls a b l) l o)) o) (by intro h;cases h) (by intro h;cases h)
  have r2:Rel (xx (aD ae.aJ ls/2) (wD (uy F ls a b l) l o) o same) (if uy F ls a b l then [Ri (IK ls) (wD (uy F ls a b l) l o) !o,Rj (IK ls) (wD (uy F ls a b l) l o) !o] else [Rj (IK ls) (wD (uy F ls a b l) l o) !o,Ri (IK ls) (wD (uy F ls a b l) l o) !o]) [false,true]:=by
   rw[hs];unfold xx;cases same with
   |true=>
    simp only[if_true];exact Rel.two (p:=DJ (aD ae.aJ ls/2) 2 (-(wD true l o)) (!o)) (q:=DJ (aD ae.aJ ls/2) 1 (wD true l o) (!o)) (by intro h;cases h) (by intro h;cases h)
   |false=>
    simp only[aaL,if_false];exact Rel.two (p:=DJ (aD ae.aJ ls/2) 1 (wD false l o) (!o)) (q:=DJ (aD ae.aJ ls/2) 2 (-(wD false l o)) (!o)) (by intro h;cases h) (by intro h;cases h)
  unfold OD OF Se;by_cases c:a<b
  ·rw[if_pos c,if_neg (show ¬ b<a by omega),if_neg (show ¬ b<a by omega)];exact((Rel.base ls).ins r2 b).ins r1 a
  ·rw[if_neg c,if_pos (show b<a by omega),if_pos (show b<a by omega)];exact((Rel.base ls).ins r1 a).ins r2 b
theorem E6(a b:Nat):((a:Int)==(b:Int))=decide (a=b):=by
 rw[abj];simp only[beq_iff_eq,decide_eq_true_eq];omega
theorem mv7(g:bj F ls){a b:Nat}(ha:a<ls.length)(hb:b<ls.length)(WP:a≠b)(l o:Bool):
  (QE F ls a b l o).isSome=(decide (2*b∈(aA F ls (if l then 2*a else 2*a+1)).Tl)||decide (2*b+1∈(aA F ls (if l then 2*a else 2*a+1)).Tl))/\
  ∀ L,QE F ls a b l o=some L->Rel L (OD F ls a b l o) (OF ls a b):=by
 have key: ∀ same other,(lY ls a b l o same other).isSome=(same||other):=fun same other=>by
  unfold lY;cases same<;>cases other<;>rfl
 unfold QE;simp only[E6];cases l with
 |true=>
  have e1:decide (tC F ls (2*b)=tC F ls (2*a))=decide (2*b∈(aA F ls (2*a)).Tl):=by
   rw[abj];simp only[decide_eq_true_eq];exact uu (by omega) (by omega)
  have e2:decide (tC F ls (2*b+1)=tC F ls (2*a))=decide (2*b+1∈(aA F ls (2*a)).Tl):=by
   rw[abj];simp only[decide_eq_true_eq];exact uu (by omega) (by omega)
  simp only[if_true];rw[e1,e2];refine⟨key _ _,Aa g WP true o _ _ ?_⟩;unfold uy;simp only[if_true];cases decide (2*b∈(aA F ls (2*a)).Tl)<;>rfl
 |false=>
  have e1:decide (tC F ls (2*b+1)=tC F ls (2*a+1))=decide (2*b+1∈(aA F ls (2*a+1)).Tl):=by
   rw[abj];simp only[decide_eq_true_eq];exact uu (by omega) (by omega)
  have e2:decide (tC F ls (2*b)=tC F ls (2*a+1))=decide (2*b∈(aA F ls (2*a+1)).Tl):=by
   rw[abj];simp only[decide_eq_true_eq];exact uu (by omega) (by omega)
  simp only[aaL,if_false];rw[e1,e2];refine⟨by rw[key,Bool.or_comm],fun L hL=> ?_⟩;by_cases c1:2*b∈(aA F ls (2*a+1)).Tl
  ·have c2:2*b+1∉(aA F ls (2*a+1)).Tl:=fun h=>KD g (iY (by omega)) c1 h
   refine Aa g WP false o _ _ ?_ L hL;unfold uy;simp only[aaL,if_false];simp[c1,c2]
  ·by_cases c2:2*b+1∈(aA F ls (2*a+1)).Tl
   ·refine Aa g WP false o _ _ ?_ L hL;unfold uy;simp only[aaL,if_false];simp[c1,c2]
   ·have:=key (decide (2*b+1∈(aA F ls (2*a+1)).Tl)) (decide (2*b∈(aA F ls (2*a+1)).Tl));rw[hL] at this;simp[c1,c2] at this
end
section
variable {F:Nat} {ls:List ae}
theorem A4: ∀ (w:List Nat) (f:Fc),(w.foldl (Fc.add F ls) f).Tu=f.Tu:=by
 intro w
 induction w with
 |nil=>intro f;rfl
 |cons x w ih=>
  intro f;rw[abN,ih];unfold Fc.add;split<;>rfl
theorem pO: ∀ (w:List Nat) (f:Fc),f.places.length<=(w.foldl (Fc.add F ls) f).places.length/\ ∀ x∈w,2*ls.length<=x->(gM F ls ((x - 2*ls.length)/2)).length<=(w.foldl (Fc.add F ls) f).places.length:=by
 intro w
 induction w with
 |nil=>intro f;exact⟨aal _,fun x hx=>nomatch hx⟩
 |cons x w ih=>
  intro f;rw[abN];obtain⟨h1,h2⟩:=ih (Fc.add F ls f x);have h3:f.places.length<=(Fc.add F ls f x).places.length:=by
   unfold Fc.add;split
   ·exact aal _
   ·simp only[aay];omega
  refine⟨aa5 h3 h1,fun y hy hl=> ?_⟩;rcases aat.1 hy with rfl|hy
  ·refine aa5 ?_ h1;unfold Fc.add;rw[if_neg (by omega)];simp only[aay];split<;>(try rw[abh])<;>omega
  ·exact h2 y hy hl
theorem DC(g:bj F ls){d:Nat}(hd:d<2*ls.length):(aA F ls d).Tu=dn ls (d/2+1):=by
 obtain⟨j,_,h2,_⟩:=fR (F:=F) hd;obtain⟨w,hw,hf⟩:=aaF.1 (iY (F:=F) hd);rw[<- hf,jr] at h2;rw[<- hf];have hdw:=(acf.1 h2).1;obtain⟨⟨e,t,he,TS⟩,_,_⟩:=fe g.ok w hw;unfold dM;rw[A4];show dn ls (w.headD 0/2+1)=_;have hh:w.headD 0=e:=by rw[he];rfl
 rw[hh];exact HM g hw (by rw[he];exact adc) hdw TS hd
theorem mv2(g:bj F ls){a b c:Nat}(ha:a<ls.length):
  (Jd F ls a b c).isSome=(decide ((b,c)∈(aA F ls (2*a)).places)||decide ((b,c)∈(aA F ls (2*a+1)).places))/\
  ∀ L,Jd F ls a b c=some L->Rel L (OL F ls a b c) (ON ls a):=by
 have a1:=DC (F:=F) g (d:=2*a) (by omega);have a2:=DC (F:=F) g (d:=2*a+1) (by omega);rw[show 2*a/2=a by omega] at a1;rw[show(2*a+1)/2=a by omega] at a2;have hr:Rel (aU (pieces ls) b c 2) (ls.map (jV b c (-2))) (fj ls):=(Rel.base ls).map fun p _=>zR _ _ _ p
 have r12: ∀ d,Rel [mR b ((c+1:Nat):Int) d,mR b ((c+2:Nat):Int) (!d)] [Ba b c 1,Ba b c 2] [d,!d]:=fun d=>Rel.two (p:=mR b ((c+1:Nat):Int) d) (q:=mR b ((c+2:Nat):Int) (!d)) (fun _=>rfl) (fun _=>rfl)
 have r21: ∀ d,Rel [mR b ((c+2:Nat):Int) d,mR b ((c+1:Nat):Int) (!d)] [Ba b c 2,Ba b c 1] [d,!d]:=fun d=>Rel.two (p:=mR b ((c+2:Nat):Int) d) (q:=mR b ((c+1:Nat):Int) (!d)) (fun _=>rfl) (fun _=>rfl)
 unfold Jd OL ON daF;by_cases h1:(b,c)∈(aA F ls (2*a)).places
 ·rw[if_pos h1,decide_eq_true h1];refine⟨by simp,fun L hL=> ?_⟩;cases hL
  unfold rQ;rw[a1];cases dn ls (a+1) with
  |true=>exact hr.ins (r21 true) a
  |false=>exact hr.ins (r12 false) a
 ·rw[if_neg h1,decide_eq_false h1];by_cases h2:(b,c)∈(aA F ls (2*a+1)).places
  ·rw[if_pos h2,decide_eq_true h2];refine⟨by simp,fun L hL=> ?_⟩;cases hL
   unfold rQ;rw[a2];cases dn ls (a+1) with
   |true=>exact hr.ins (r12 true) a
   |false=>exact hr.ins (r21 false) a
  ·rw[if_neg h2,decide_eq_false h2];exact⟨rfl,fun L hL=>by cases hL⟩
theorem KF(ok:eN F ls){v:Nat}{l:ae}(hl:ls[v]? =some l)(hp:l.bq=true)(fw:Bool): ∃ k,k<(ah ls).length/\
  ((cM ls (ij ls.length v fw)=2*ls.length+2*k/\(ah ls).getD k 0=v)\/(cM ls (ij ls.length v fw)=2*ls.length+2*k+1/\(ah ls).getD ((k+1)%(ah ls).length) 0=v)):=by
 obtain⟨h1,h2⟩:=wV ok hl hp;rw[uO hl hp];by_cases c:(dn ls v==fw)=true
 ·rw[if_pos c];exact⟨(ah ls).idxOf v,h1, .inl ⟨rfl,h2⟩⟩
 ·rw[if_neg c];refine⟨((ah ls).idxOf v+(ah ls).length - 1)%(ah ls).length,aax _ (by omega), .inr ⟨rfl,?_⟩⟩;rw[j8 h1,h2]
theorem Om(ok:eN F ls){k u v:Nat}(hk:k+1<(ah ls).length)(hu:(ah ls).getD k 0=u)(hv:(ah ls).getD (k+1) 0=v){l m:ae}(hl:ls[u]? =some l)(hm:ls[v]? =some m)
  (pl:l.bq=true) (pm:m.bq=true) (hg:m.gate<=l.gate):l.gate=m.gate/\m.Th=l.Th+1:=by
 obtain⟨u',hu'⟩:=ao (ls:=ah ls) (k:=k) (by omega);obtain⟨v',hv'⟩:=ao hk;rw[aap,hu',aaS] at hu;rw[aap,hv',aaS] at hv;subst hu hv;obtain⟨l',e1,_,e2⟩:=mM ok.ax hu';obtain⟨m',e3,_,e4⟩:=mM ok.ax hv';rw[hl] at e1;cases e1;rw[hm] at e3;cases e3;have gl:=ok.ax.good l (aaf hl) pl;have gm:=ok.ax.good m (aaf hm) pm;have Ti:=(Px gl gm).2 (by omega);unfold tA at Ti;simp only[abk,aan,decide_eq_true_eq,beq_iff_eq] at Ti;have hgm:l.gate=m.gate:=by omega
 refine⟨hgm,?_⟩;unfold cR at e2 e4;rw[hgm] at e2;have:=gl.r0;have:=gm.r0;omega
end
section
variable {F:Nat} {ls:List ae}
theorem sa(e:Nat):(iI ls e).2.2=(fy ls e).2.2/\((fy ls e).2.2=true->(fy ls e).1=lA ls (iI ls e).2.1/\(fy ls e).2.1=lA ls (iI ls e).1/\(lA ls (iI ls e).1).kind=1/\(lA ls (iI ls e).2.1).kind=2/\
  (((iI ls e).1=e/\(iI ls e).2.1=nx ls e)\/((iI ls e).1=nx ls e/\(iI ls e).2.1=e))):=by
 unfold iI fy;rw[jB,jB];by_cases h1:(lA ls e).kind=1
 ·have e2:((lA ls e).kind==2)=false:=by rw[h1];rfl
  have e1:((lA ls e).kind==1)=true:=by rw[h1];rfl
  rw[if_neg (by rw[e2];decide),if_pos e1];simp only[e1,acm,ach];exact⟨trivial,fun h=>⟨trivial,trivial,h1,eq_of_beq h, .inl ⟨trivial,trivial⟩⟩⟩
 ·have e1:((lA ls e).kind==1)=false:=by rw[beq_eq_false_iff_ne];exact h1
  by_cases h2:(lA ls e).kind=2
  ·have e2:((lA ls e).kind==2)=true:=by rw[h2];rfl
   rw[if_pos e2,if_neg (by rw[e1];decide)];simp only[e2,acm];exact⟨trivial,fun h=>⟨trivial,trivial,eq_of_beq h,h2, .inr ⟨trivial,trivial⟩⟩⟩
  ·have e2:((lA ls e).kind==2)=false:=by rw[beq_eq_false_iff_ne];exact h2
   rw[if_neg (by rw[e2];decide),if_neg (by rw[e1];decide)];simp only[e1,e2,Bool.false_and];exact⟨trivial,fun h=>by cases h⟩
theorem rm{x:Nat}(hx:x<2*ls.length):fm ls x=if x%2=0 then nx ls (x/2) else x/2:=by
 unfold fm;rw[if_neg (by omega)]
theorem yq(g:bj F ls){w:List Nat}(hw:w∈bt (cM ls) (nD ls))(hp1:(dM F ls w).places.length=1){x u:Nat}(hx:x∈w)(XC:x<2*ls.length)(hu:fm ls x=u){l:ae}(hl:ls[u]? =some l)(pl:l.bq=true):
  ∃ y v m,y∈w/\y<2*ls.length/\fm ls (rv y)=v/\ls[v]? =some m/\m.bq=true/\l.gate=m.gate/\(l.Th=m.Th+1\/m.Th=l.Th+1):=by
 have ok:=g.ok;have m:=maps ok;have hxa:=AX XC;have hv:(if x%2=0 then (x/2+1)%ls.length else x/2)=u:=by
  rw[<- hu,rm XC]
 rw[hv] at hxa;have hz:=jj m hw hx;rw[hxa] at hz;obtain⟨k,hk,hc⟩:=KF ok hl pl (x%2==0);have hpc:(gM F ls k).length<=1:=by
  rw[<- hp1];unfold dM;rcases hc with ⟨e,_⟩|⟨e,_⟩
  ·have:=(pO (F:=F) (ls:=ls) w (Fc.new ls (w.headD 0))).2 _ (e▸hz) (by omega);rwa[show(2*ls.length+2*k - 2*ls.length)/2=k by omega] at this
  ·have:=(pO (F:=F) (ls:=ls) w (Fc.new ls (w.headD 0))).2 _ (e▸hz) (by omega);rwa[show(2*ls.length+2*k+1 - 2*ls.length)/2=k by omega] at this
 have Wl:=aax (k+1) (show 0<(ah ls).length by omega);obtain⟨l1,T9,pl1⟩:=wW hk;obtain⟨l2,VG,pl2⟩:=wW Wl;have g1:=g.tD T9 pl1;have g2:=g.tD VG pl2;have Y0:k+1<(ah ls).length/\gN ls ((ah ls).getD ((k+1)%(ah ls).length) 0)<=gN ls ((ah ls).getD k 0):=by
  unfold gM at hpc;simp only at hpc;split at hpc
  ·rename_i h;rw[gZ] at hpc;exact⟨h,by omega⟩
  ·rw[aay,gZ,gZ] at hpc;omega
 obtain⟨TH,hgn⟩:=Y0;rw[abF TH] at VG hgn;rw[vU T9,vU VG] at hgn;have Va:l2.gate<=l1.gate:=by
  have:=g1.g0;have:=g2.g0;omega
 obtain⟨r1,r2⟩:=Om ok TH rfl rfl T9 VG pl1 pl2 Va;rcases hc with ⟨e,hA⟩|⟨e,hA⟩
 ·rw[e] at hz;have hz2:=jj m hw hz;rw[zC,abF TH] at hz2;rw[hA,hl] at T9;cases T9
  have Ti:=(aag.1 VG).1;exact⟨_,_,l2,hz2,ft Ti,by rw[iv,iE Ti],VG,pl2,r1, .inr r2⟩
 ·rw[e] at hz;have hz2:=jj m hw hz;rw[zE] at hz2;rw[abF TH] at hA;rw[hA,hl] at VG;cases VG
  have Ti:=(aag.1 T9).1;exact⟨_,_,l1,hz2,ft Ti,by rw[iv,iE Ti],T9,pl1,r1.symm, .inl r2⟩
theorem FA(g:bj F ls){w:List Nat}(hw:w∈bt (cM ls) (nD ls)){x u:Nat}(hx:x∈w)(XC:x<2*ls.length)(hu:fm ls x=u){l:ae}(hl:ls[u]? =some l)(cl:l.aJ=true):
  ∃ y v m,y∈w/\y<2*ls.length/\fm ls (rv y)=v/\ls[v]? =some m/\m.aJ=true:=by
 have ok:=g.ok;have m:=maps ok;have hxa:=AX XC;have hv:(if x%2=0 then (x/2+1)%ls.length else x/2)=u:=by
  rw[<- hu,rm XC]
 rw[hv] at hxa;have hz:=jj m hw hx;rw[hxa,rW hl cl] at hz;obtain⟨_,k,hk,ck,_⟩:=g9 ok.cr hl cl;have Ti:=(aag.1 hk).1;exact⟨_,_,k,hz,ft Ti,by rw[iv,iE Ti],hk,ck⟩
theorem MQ{D:List Nat}(h:D.length=2){x y:Nat}(hx:x∈D)(hy:y∈D)(TA:x≠y){z:Nat}(hz:z∈D):z=x\/z=y:=by
 match D,h with
 |[p,q],_=>
  simp only[aat,abG,or_false] at hx hy hz;omega
theorem PD{l:ae}(h1:l.kind=1)(h2:l.aJ=true):False:=by rw[K5 h2] at h1;cases h1
theorem Ig(g:bj F ls){a b:Nat}(ha:a<ls.length)(hb:b<ls.length)(WP:a≠b)(ma:(fy ls a).2.2=true)(mb:(fy ls b).2.2=true)(ho:jZ F ls 1 [a,b]=true):lG (fy ls a).2.1 (fy ls b).2.1=true:=by
 obtain⟨_,p1,p2,p3,p4⟩:=And.intro (sa (ls:=ls) a).1 ((sa (ls:=ls) a).2 ma);obtain⟨_,q1,q2,q3,q4⟩:=And.intro (sa (ls:=ls) b).1 ((sa (ls:=ls) b).2 mb);rw[p2,q2];unfold jZ at ho;obtain⟨f,hf,h⟩:=acu.1 ho;obtain⟨w,hw,rfl⟩:=aaF.1 hf;unfold pI at h;simp only[aan,beq_iff_eq,aar,aav,abR,abZ,ach,aaH] at h;obtain⟨hd2,hp1,xa,xb⟩:=h;have mem: ∀ x,x∈(dM F ls w).Tl↔x∈w/\x<2*ls.length:=fun x=>by rw[jr,acf,decide_eq_true_eq]
 have ex: ∀ e,(decide (2*e∈(dM F ls w).Tl)==decide (2*e+1∈(dM F ls w).Tl))=false-> ∃ d,d∈(dM F ls w).Tl/\d/2=e:=by
  intro e h;by_cases h1:2*e∈(dM F ls w).Tl
  ·exact⟨_,h1,by omega⟩
  ·by_cases h2:2*e+1∈(dM F ls w).Tl
   ·exact⟨_,h2,by omega⟩
   ·rw[decide_eq_false h1,decide_eq_false h2] at h;cases h
 obtain⟨x,hx,xe⟩:=ex a xa;obtain⟨y,hy,ye⟩:=ex b xb;have hxy:x≠y:=fun e=>WP (by rw[<- xe,<- ye,e])
 obtain⟨xw,xl⟩:=(mem x).1 hx;obtain⟨yw,yl⟩:=(mem y).1 hy;have only: ∀ z,z∈w->z<2*ls.length->z=x\/z=y:=fun z h1 h2=>MQ hd2 hx hy hxy ((mem z).2 ⟨h1,h2⟩)
 -- the ends of a dart of a mixed edge
 have ends: ∀ {d e:Nat},d/2=e->d<2*ls.length->(((iI ls e).1=e/\(iI ls e).2.1=nx ls e)\/((iI ls e).1=nx ls e/\(iI ls e).2.1=e))->
   (fm ls d=(iI ls e).1/\fm ls (rv d)=(iI ls e).2.1)\/(fm ls d=(iI ls e).2.1/\fm ls (rv d)=(iI ls e).1):=by
  intro d e Y4 hdl hc;have hr:=xT hdl;rw[rm hdl,rm hr,Qz,Y4];rcases adg d with c|c
  ·have c':rv d%2=1:=by unfold rv;rw[if_pos c];omega
   rw[if_pos c,if_neg (by omega)];rcases hc with ⟨c1,c2⟩|⟨c1,c2⟩<;>rw[c1,c2]<;>simp
  ·have c':rv d%2=0:=by unfold rv;rw[if_neg (by omega)];omega
   rw[if_neg (by omega),if_pos c'];rcases hc with ⟨c1,c2⟩|⟨c1,c2⟩<;>rw[c1,c2]<;>simp
 have pvl: ∀ {e:Nat},e<ls.length->(((iI ls e).1=e/\(iI ls e).2.1=nx ls e)\/((iI ls e).1=nx ls e/\(iI ls e).2.1=e))->(iI ls e).1<ls.length/\(iI ls e).2.1<ls.length:=fun he hc=>by
  have:=g.nv ‹Nat›;rcases hc with ⟨c1,c2⟩|⟨c1,c2⟩<;>rw[c1,c2]
  ·exact⟨he,g.nv _⟩
  ·exact⟨g.nv _,he⟩
 obtain⟨pl1,pl2⟩:=pvl ha p4.2;obtain⟨ql1,ql2⟩:=pvl hb q4.2;have hP:=dD pl1;have hV:=dD pl2;have hQ:=dD ql1;have hW:=dD ql2;have Ex:=ends xe xl p4.2;have Ey:=ends ye yl q4.2;have fin: ∀ {P Q:ae},P.kind=1->Q.kind=1->P.gate=Q.gate->(P.Th=Q.Th+1\/Q.Th=P.Th+1)->lG P Q=true:=fun h1 h2 h3 h4=>by
  unfold lG;simp[h1,h2,h3,h4]
 rcases Ex with ⟨x1,x2⟩|⟨x1,x2⟩
 ·obtain⟨z,v,mm,zw,zl,zv,hv,pm,r1,r2⟩:=yq g hw hp1 xw xl x1 hP (mh p3);rcases only z zw zl with rfl|rfl
  ·rw[x2] at zv;subst zv;rw[hV] at hv;cases hv;rw[EZ pm] at p4;exact absurd p4.1 (by decide)
  ·rcases Ey with ⟨y1,y2⟩|⟨y1,y2⟩
   ·rw[y2] at zv;subst zv;rw[hW] at hv;cases hv;rw[EZ pm] at q4;exact absurd q4.1 (by decide)
   ·rw[y2] at zv;subst zv;rw[hQ] at hv;cases hv;exact fin p3 q3 r1 r2
 ·rcases Ey with ⟨y1,y2⟩|⟨y1,y2⟩
  ·obtain⟨z,v,mm,zw,zl,zv,hv,pm,r1,r2⟩:=yq g hw hp1 yw yl y1 hQ (mh q3);rcases only z zw zl with rfl|rfl
   ·rw[x2] at zv;subst zv;rw[hP] at hv;cases hv;exact fin p3 q3 r1.symm r2.symm
   ·rw[y2] at zv;subst zv;rw[hW] at hv;cases hv;rw[EZ pm] at q4;exact absurd q4.1 (by decide)
  ·obtain⟨z,v,mm,zw,zl,zv,hv,cm⟩:=FA g hw xw xl x1 hV (ke p4.1);rcases only z zw zl with rfl|rfl
   ·rw[x2] at zv;subst zv;rw[hP] at hv;cases hv;exact absurd cm fun h=>PD p3 h
   ·rw[y2] at zv;subst zv;rw[hQ] at hv;cases hv;exact absurd cm fun h=>PD q3 h
theorem Ai(x y:ae):leq x y=true↔x=y:=by
 constructor
 ·intro h;unfold leq at h;simp only[aan,beq_iff_eq] at h;obtain⟨h1,h2,h3,h4,h5,h6⟩:=h;cases x;cases y
  simp only at h1 h2 h3 h4 h5 h6;subst h1 h2 h3 h4 h5 h6;rfl
 ·rintro rfl;exact qW x
theorem yI(g:bj F ls){i:Nat}{l:ae}(hl:ls[i]? =some l)(hk:l.kind=1):l=⟨1,l.gate,l.Th,0,0,false⟩:=by
 have hb:=g.bad l (aaf hl);rw[jk (mh hk)] at hb;obtain⟨⟨⟨_,h1⟩,h2⟩,h3⟩:=hb;cases l
 simp only at hk h1 h2 h3 ⊢;subst hk h1 h2 h3;rfl
theorem QD(g:bj F ls){i j:Nat}(hi:i<ls.length)(hj:j<ls.length)(ki:(lA ls i).kind=1)(kj:(lA ls j).kind=1)(hg:(lA ls i).gate=(lA ls j).gate)(hr:(lA ls i).Th≠(lA ls j).Th):
  (ls.set i (lA ls j)).set j (lA ls i)=ls.map (se (lA ls i) (lA ls j)):=by
 have h1:=dD hi;have h2:=dD hj;have TA:i≠j:=fun e=>hr (by rw[e])
 apply ade;intro k;rw[aaA,aa3,aa3,aaD];have hpq:se (lA ls i) (lA ls j) (lA ls i)=lA ls j:=by unfold se;rw[if_pos (qW _)]
 have hqp:se (lA ls i) (lA ls j) (lA ls j)=lA ls i:=by
  unfold se;rw[if_neg (fun h=>hr (by rw[(Ai _ _).1 h])),if_pos (qW _)]
 by_cases e1:j=k
 ·subst e1;rw[if_pos rfl,if_pos hj,h2,aa4,hqp]
 ·rw[if_neg e1];by_cases e2:i=k
  ·subst e2;rw[if_pos rfl,if_pos hi,h1,aa4,hpq]
  ·rw[if_neg e2];by_cases hk:k<ls.length
   ·have h3:=dD hk;rw[h3,aa4];congr 1;unfold se;rw[if_neg,if_neg]
    ·intro h;have h:=(Ai _ _).1 h;exact e1 (g.one h2 h3 (mh kj) (by rw[h];exact mh kj) (by rw[h]) (by rw[h]))
    ·intro h;have h:=(Ai _ _).1 h;exact e2 (g.one h1 h3 (mh ki) (by rw[h];exact mh ki) (by rw[h]) (by rw[h]))
   ·rw[abI (by omega)];rfl
theorem BE{l:List Pc}{i:Nat}{p:Pc}{r:Int}(h:l[i]? =some p):gb l i r=l.set i {p with l:={p.l with Th:=r}}:=by
 unfold gb;rw[aap,h];rfl
theorem mv3(g:bj F ls){a b:Nat}(ha:a<ls.length)(hb:b<ls.length)(WP:a≠b):
  (Ry F ls a b).isSome=Qw F ls a b/\
  ∀ L,Ry F ls a b=some L->Rel L (iO (iO (ls.map (se (fy ls a).2.1 (fy ls b).2.1)) a (nx ls a)) b (nx ls b)) (iO (iO (fj ls) a (nx ls a)) b (nx ls b)):=by
 have Uk:=qd (F:=F) (ls:=ls) (pl:=1) (edges:=[a,b]) rfl ha;obtain⟨ea,pa⟩:=sa (ls:=ls) a;obtain⟨eb,pb⟩:=sa (ls:=ls) b;obtain⟨pl1,pl2⟩:=z7 ha;obtain⟨ql1,ql2⟩:=z7 hb;have UM:((iI ls a).2.2&&((iI ls b).2.2&&(!((iI ls a).2.1==(iI ls b).2.1)&&(((pA ls (iI ls a).2.1).l.id==(pA ls (iI ls b).2.1).l.id)&&jJ F ls 1 [a,b] a))))=Qw F ls a b:=by
  unfold Qw;rw[ea,eb,Uk,jB,jB];cases h1:(fy ls a).2.2 with
  |false=>rfl
  |true=>
  cases h2:(fy ls b).2.2 with
  |false=>rfl
  |true=>
  obtain⟨p1,p2,p3,p4,p5⟩:=pa h1;obtain⟨q1,q2,q3,q4,q5⟩:=pb h2;cases h3:jZ F ls 1 [a,b] with
  |false=>simp
  |true=>
  have hn:=Ig g ha hb WP h1 h2 h3;rw[hn,p1,q1];simp only[acm,ach];cases h4:((lA ls (iI ls a).2.1).id==(lA ls (iI ls b).2.1).id) with
  |false=>simp
  |true=>
  simp only[ach,acm];congr 1;rw[abj,beq_iff_eq,beq_iff_eq];constructor
  ·intro e;rw[e]
  ·intro e;apply Classical.byContradiction;intro TA;exact(g.ids.2 _ _ _ _ (dD pl2) (dD ql2) (ke p4) (ke q4) (eq_of_beq h4) TA).1 e
 unfold Ry;rw[UM];refine⟨by split<;>simp_all,fun L hL=> ?_⟩;split at hL
 ·rename_i hc;cases hL
  unfold Qw at hc;simp only[aan] at hc;obtain⟨h1,h2,_,_,hn,_⟩:=hc;obtain⟨p1,p2,p3,p4,p5⟩:=pa h1;obtain⟨q1,q2,q3,q4,q5⟩:=pb h2;rw[p2,q2] at hn ⊢;unfold lG at hn;simp only[aan,abk,beq_iff_eq] at hn;obtain⟨_,_,hg,hr⟩:=hn;have afs:(lA ls (iI ls a).1).Th≠(lA ls (iI ls b).1).Th:=by omega
  have TA:(iI ls a).1≠(iI ls b).1:=fun e=>afs (by rw[e])
  have gp:=yI g (dD pl1) p3;have gq:=yI g (dD ql1) q3;generalize Ut:(iI ls a).1=pi at*;generalize hqi:(iI ls b).1=qi at*;have s1:=Gk pl1;have s2:=Gk ql1;have r1:=(Rel.base ls).set s1 (q:={pA ls pi with l:={(pA ls pi).l with Th:=(pA ls qi).l.Th}}) rfl rfl;have t2:((pieces ls).set pi {pA ls pi with l:={(pA ls pi).l with Th:=(pA ls qi).l.Th}})[qi]? =some (pA ls qi):=by rw[List.getElem?_set_ne TA];exact s2
  have r2:=r1.set t2 (q:={pA ls qi with l:={(pA ls qi).l with Th:=(pA ls pi).l.Th}}) rfl rfl;have eL:(ls.set pi ({(pA ls pi).l with Th:=(pA ls qi).l.Th}:ae)).set qi ({(pA ls qi).l with Th:=(pA ls pi).l.Th}:ae)=ls.map (se (lA ls pi) (lA ls qi)):=by
   rw[<- QD g pl1 ql1 p3 q3 hg afs,jB,jB];have x1:({lA ls pi with Th:=(lA ls qi).Th}:ae)=lA ls qi:=by rw[gp,gq,hg]
   have x2:({lA ls qi with Th:=(lA ls pi).Th}:ae)=lA ls pi:=by rw[gp,gq,hg]
   rw[x1,x2]
  have eS:gb (gb (pieces ls) pi (pA ls qi).l.Th) qi (pA ls pi).l.Th=((pieces ls).set pi {pA ls pi with l:={(pA ls pi).l with Th:=(pA ls qi).l.Th}}).set qi {pA ls qi with l:={(pA ls qi).l with Th:=(pA ls pi).l.Th}}:=by
   rw[BE s1,BE t2]
  simp only at r2;rw[eL] at r2;rw[eS];unfold xr;simp only[abN,List.foldl_nil];have KW:(((pieces ls).set pi {pA ls pi with l:={(pA ls pi).l with Th:=(pA ls qi).l.Th}}).set qi {pA ls qi with l:={(pA ls qi).l with Th:=(pA ls pi).l.Th}}).length=ls.length:=by simp[aF]
  rw[Bm g KW ha,Bm g (by rw[fF,KW]) hb];exact(r2.sw _ _).sw _ _
 ·cases hL
end
end Go.Abs
