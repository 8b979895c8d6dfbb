/-
  Certificates: names of faces at each letter show that a code is valid.
-/
import Derived.Test.YtjjdebhkbfeniaaGreatDoorVf
set_option linter.unusedSimpArgs false
set_option linter.unusedVariables false
set_option linter.unusedSectionVars false
set_option maxHeartbeats 16000000
namespace Go.Abs
theorem K_le{R:Nat→Nat→Prop}{n:Nat}{L:List Nat}(h: ∀ x,x<n→ ∃ r∈L,Eqv R x r):K (Eqv R) n≤L.length:=by
 have key: ∀ M:List Nat,M.Nodup→(∀ x∈M,x<n∧ld (Eqv R) x)→ ∃ N:List Nat,N.length=M.length∧N.Nodup∧ ∀ r∈N,r∈L∧ ∃ x∈M,Eqv R x r:=by
  intro M
  induction M with
  |nil=>intro _ _;exact⟨[],rfl,List.nodup_nil,by simp⟩
  |cons a M ih=>
   intro hn hm;obtain⟨n1,n2⟩:=List.nodup_cons.1 hn;obtain⟨N,l1,l2,l3⟩:=ih n2 fun x hx=>hm x (by simp[hx])
   obtain⟨ha,la⟩:=hm a (by simp);obtain⟨r,hr,e⟩:=h a ha;refine⟨r::N,by simp[l1],List.nodup_cons.2 ⟨fun hN=> ?_,l2⟩,fun q hq=> ?_⟩
   ·obtain⟨_,x,hx,ex⟩:=l3 r hN;have e1:=la x (e.trans ex.symm);have e2:=(hm x (by simp[hx])).2 a (ex.trans e.symm);have:a=x:=by omega
    exact n1 (this▸hx)
   ·rcases List.mem_cons.1 hq with rfl|hq
    ·exact⟨hr,a,by simp,e⟩
    ·obtain⟨q1,x,hx,ex⟩:=l3 q hq;exact⟨q1,x,by simp[hx],ex⟩
 obtain⟨N,l1,l2,l3⟩:=key ((List.range n).filter (ldB (Eqv R))) (List.nodup_range.filter _) fun x hx=>by
  obtain⟨h1,h2⟩:=List.mem_filter.1 hx;exact⟨List.mem_range.1 h1,ldB_iff.1 h2⟩
 unfold K;rw[List.countP_eq_length_filter,← l1];exact sub_len _ _ l2 fun r hr=>(l3 r hr).1
theorem it_add(p:Nat→Nat)(x:Nat): ∀ i j,it p (i+j) x=it p i (it p j x):=by
 intro i j
 induction i with
 |zero=>rw[Nat.zero_add];rfl
 |succ i ih=>rw[show i+1+j=(i+j)+1 by omega];show p (it p (i+j) x)=p (it p i (it p j x));rw[ih]
theorem it_mul{p:Nat→Nat}{x m:Nat}(h:it p m x=x): ∀ k,it p (k*m) x=x:=by
 intro k
 induction k with
 |zero=>rw[Nat.zero_mul];rfl
 |succ k ih=>rw[Nat.succ_mul,it_add,h,ih]
theorem orbit{n:Nat}{p:Nat→Nat}(h:Perm n p){a b:Nat}(e:Eqv (gr n p) a b):a=b∨(a<n∧b<n∧ ∃ k,it p k a=b):=by
 induction e with
 | @rel a b r=>obtain⟨ha,rfl⟩:=r;exact .inr ⟨ha,h.lt _ ha,1,rfl⟩
 |refl _=>exact .inl rfl
 | @symm a b _ ih=>
  rcases ih with rfl|⟨ha,hb,k,hk⟩
  ·exact .inl rfl
  ·obtain⟨m,hm⟩:=h.cycle ha;refine .inr ⟨hb,ha,k*m,?_⟩;rw[← hk,← it_add,show k*m+k=k*(m+1) by rw[Nat.mul_succ]];exact it_mul hm k
 |trans _ _ i1 i2=>
  rcases i1 with rfl|⟨ha,hb,k,hk⟩
  ·exact i2
  ·rcases i2 with rfl|⟨_,hc,j,hj⟩
   ·exact .inr ⟨ha,hb,k,hk⟩
   ·exact .inr ⟨ha,hc,j+k,by rw[it_add,hk,hj]⟩
theorem tr_part{n:Nat}{p:Nat→Nat}(h:Perm n p){a b:Nat}(hab:a≠b)(e:Eqv (gr n p) a b): ¬ Eqv (gr n (tr p (a,b))) a b:=by
 rcases orbit h e with he|⟨ha,hb,k0,hk0⟩
 ·exact absurd he hab
 obtain⟨k,hk,hmin⟩:=exists_least (p:=fun k=>it p k a=b) k0 hk0;have k1:1≤k:=by
  rcases Nat.eq_zero_or_pos k with rfl|h
  ·exact absurd hk hab
  ·exact h
 have na: ∀ j,1≤j→j≤k→it p j a≠a:=fun j j1 j2 ej=>by
  rcases Nat.lt_or_eq_of_le j2 with c|rfl
  ·have:it p (k - j) a=b:=by
    rw[← hk,show k=(k - j)+j by omega,it_add,ej];congr 1;omega
   have:=hmin _ this;omega
  ·exact hab (ej.symm.trans hk)
 have nb: ∀ j,j<k→it p j a≠b:=fun j j1 ej=>by
  have:=hmin j ej;omega
 intro e2;have inv: ∀ x y,gr n (tr p (a,b)) x y→(∃ j,1≤j∧j≤k∧x=it p j a)=(∃ j,1≤j∧j≤k∧y=it p j a):=by
  rintro x y ⟨hx,rfl⟩
  apply propext;unfold tr;simp only;constructor
  ·rintro ⟨j,j1,j2,rfl⟩
   rw[if_neg (na j j1 j2)];by_cases c:it p j a=b
   ·rw[if_pos c];exact⟨1,by omega,k1,rfl⟩
   ·rw[if_neg c];refine⟨j+1,by omega,?_,rfl⟩;rcases Nat.lt_or_eq_of_le j2 with d|rfl
    ·exact d
    ·exact absurd hk c
  ·by_cases c:x=a
   ·rw[if_pos c];rintro ⟨j,j1,j2,ej⟩
    exfalso;have:=h.inj _ _ hb (h.it_lt ha (j - 1)) (by rw[ej,show j=(j - 1)+1 by omega];rfl);by_cases d:j=1
    ·subst d;exact hab this.symm
    ·exact nb (j - 1) (by omega) this.symm
   ·rw[if_neg c];by_cases d:x=b
    ·subst d;intro _;exact⟨k,k1,Nat.le_refl _,hk.symm⟩
    ·rw[if_neg d];rintro ⟨j,j1,j2,ej⟩
     have:=h.inj _ _ hx (h.it_lt ha (j - 1)) (by rw[ej,show j=(j - 1)+1 by omega];rfl);by_cases f:j=1
     ·subst f;exact absurd this c
     ·exact⟨j - 1,by omega,by omega,this⟩
 have:=e2.inv inv;have hb': ∃ j,1≤j∧j≤k∧b=it p j a:=⟨k,k1,Nat.le_refl _,hk.symm⟩;rw[← this] at hb';obtain⟨j,j1,j2,ej⟩:=hb';exact na j j1 j2 ej.symm
theorem K_tr{n:Nat}{p:Nat→Nat}(h:Perm n p){a b:Nat}(ha:a<n)(hb:b<n)(hab:a≠b):(K (Eqv (gr n (tr p (a,b)))) n+K (Eqv (gr n p)) n)%2=1:=by
 have one: ∀ x y,Eqv (addR (gr n (tr p (a,b))) a b) x y↔Eqv (addR (gr n p) a b) x y:=fun x y=>by
  have h:=add_tr (p:=p) (S:=fun _ _=>False) ha hb (x:=x) (y:=y);have e: ∀ q:Nat→Nat,(fun x y=>gr n q x y∨False)=gr n q:=fun q=>funext fun x=>funext fun y=>propext (by simp)
  rw[e,e] at h;exact h
 have kj:K (Eqv (addR (gr n (tr p (a,b))) a b)) n=K (Eqv (addR (gr n p) a b)) n:=K_congr one n;rcases Classical.em (Eqv (gr n p) a b) with c|c
 ·have k1:=K_same c n;have k2:=K_join ha hb (tr_part h hab c);omega
 ·have k1:=K_join ha hb c;have k2:=K_same (tr_join h ha hb c) n;omega
theorem K_trs{n:Nat}: ∀ (ts:List (Nat × Nat)) (p:Nat→Nat),Perm n p→(∀ t∈ts,t.1<n∧t.2<n∧t.1≠t.2)→(K (Eqv (gr n (ts.foldl tr p))) n+K (Eqv (gr n p)) n+ts.length)%2=0:=by
 intro ts
 induction ts with
 |nil=>intro p _ _;simp only[List.foldl_nil,List.length_nil];omega
 |cons t ts ih=>
  intro p hp ht;obtain⟨a,b⟩:=t;obtain⟨ha,hb,hab⟩:=ht (a,b) (by simp)
  replace ha:a<n:=ha
  replace hb:b<n:=hb
  replace hab:a≠b:=hab
  have e1:=ih (tr p (a,b)) (hp.tr ha hb) fun t h=>ht t (by simp[h])
  have e2:(K (Eqv (gr n (tr p (a,b)))) n+K (Eqv (gr n p)) n)%2=1:=K_tr hp ha hb hab;simp only[List.foldl_cons,List.length_cons];omega
def rot(ls:List Let)(x:Nat):Nat:=nxt ls (rv x)
def tsS(k:Nat):List (Nat × Nat):=(List.range k).map fun e=>(2*e,2*e+1)
theorem tsS_fold(q:Nat→Nat): ∀ k y,(tsS k).foldl tr q y=if y<2*k then q (rv y) else q y:=by
 intro k
 induction k with
 |zero=>intro y;rw[if_neg (by omega)];rfl
 |succ k ih=>
  intro y;have e:tsS (k+1)=tsS k++[(2*k,2*k+1)]:=by unfold tsS;rw[List.range_succ,List.map_append];rfl
  rw[e,List.foldl_append,List.foldl_cons,List.foldl_nil,tr_eq];by_cases c1:y=2*k
  ·subst c1;rw[if_pos rfl,ih,if_neg (by omega),if_pos (by omega),rv0]
  ·rw[if_neg c1];by_cases c2:y=2*k+1
   ·subst c2;rw[if_pos rfl,ih,if_neg (by omega),if_pos (by omega),rv1]
   ·rw[if_neg c2,ih];by_cases c3:y<2*k
    ·rw[if_pos c3,if_pos (by omega)]
    ·rw[if_neg c3,if_neg (by omega)]
theorem Eqv.push{R R':Nat→Nat→Prop}{f:Nat→Nat}(h: ∀ a b,R a b→Eqv R' (f a) (f b)){x y:Nat}(e:Eqv R x y):Eqv R' (f x) (f y):=by
 induction e with
 |rel r=>exact h _ _ r
 |refl a=>exact .refl _
 |symm _ ih=>exact ih.symm
 |trans _ _ i1 i2=>exact i1.trans i2
section
variable {F:Nat} {ls:List Let}
theorem rot_perm(ok:dgOK F ls):Perm (nD ls) (rot ls):=by
 have m:=maps ok;have hN:=nD_eq ls;have hr: ∀ y,y<nD ls→rv y<nD ls:=fun y hy=>by rw[hN] at hy ⊢;exact rv_lt hy
 refine⟨fun y hy=>m.lt _ (hr y hy),fun x y hx hy e=> ?_⟩;have:=m.inj _ _ (hr x hx) (hr y hy) e;rw[← rv_rv x,this,rv_rv]
abbrev E2(ls:List Let):Nat:=ls.length+(axisR ls).length
theorem rot_fold{y:Nat}(hy:y<nD ls):(tsS (E2 ls)).foldl tr (rot ls) y=nxt ls y:=by
 rw[tsS_fold,if_pos (by rw[nD_eq] at hy;exact hy)];unfold rot;rw[rv_rv]
theorem gr_fold(x y:Nat):Eqv (gr (nD ls) ((tsS (E2 ls)).foldl tr (rot ls))) x y↔Eqv (gr (nD ls) (nxt ls)) x y:=
 ⟨Eqv.mono fun a b r=>by obtain⟨h,rfl⟩:=r;exact .rel ⟨h,rot_fold h⟩,Eqv.mono fun a b r=>by obtain⟨h,rfl⟩:=r;exact .rel ⟨h,(rot_fold h).symm⟩⟩
theorem tsS_lt{k:Nat}: ∀ t∈tsS k,t.1<2*k∧t.2<2*k∧t.1≠t.2:=by
 intro t ht;obtain⟨e,he,rfl⟩:=List.mem_map.1 ht;have:=List.mem_range.1 he;refine⟨?_,?_,?_⟩<;>simp only<;>omega
theorem K_nxt(ok:dgOK F ls):K (Eqv (gr (nD ls) (nxt ls))) (nD ls)=nWalks ls:=by
 obtain⟨hnd,hcov⟩:=walksL_part (nxt ls) (nD ls);have hfs: ∀ w∈walksL (nxt ls) (nD ls),w≠[]:=fun w hw=>by
  obtain⟨⟨d,t,e,_⟩,_⟩:=walksL_facts ok w hw;rw[e];simp
 have hlen:((walksL (nxt ls) (nD ls)).map (·.headD 0)).length=nWalks ls:=by rw[List.length_map];rfl
 refine Nat.le_antisymm ?_ ?_
 ·rw[← hlen];refine K_le fun x hx=> ?_
  obtain⟨w,hw,hxw⟩:=List.mem_flatten.1 (hcov x hx);obtain⟨⟨d,t,e,_⟩,_⟩:=walksL_facts ok w hw;refine⟨w.headD 0,List.mem_map.2 ⟨w,hw,rfl⟩,?_⟩;exact walksL_joined (maps ok) (R:=gr (nD ls) (nxt ls)) (fun y hy=> .rel ⟨hy,rfl⟩) hw hxw (by rw[e];simp)
 ·rw[← hlen];refine K_ge (f:=widx (walksL (nxt ls) (nD ls))) ?_ (fun x hx=> ?_) ?_
  ·rintro a b ⟨ha,rfl⟩
   obtain⟨u,hu,hau⟩:=List.mem_flatten.1 (hcov a ha);obtain⟨i,hi⟩:=List.getElem?_of_mem hu;rw[widx_of hnd hi hau,widx_of hnd hi (walksL_next (maps ok) hu hau)]
  ·obtain⟨w,hw,rfl⟩:=List.mem_map.1 hx;obtain⟨⟨d,t,e,hd⟩,_⟩:=walksL_facts ok w hw;rw[e];simp only[List.headD_cons];have:nD ls=2*ls.length+2*(axisR ls).length:=rfl;omega
  ·rw[idx_nodup hnd hfs];exact List.nodup_range
abbrev rtR(ls:List Let):Nat→Nat→Prop:=gr (nD ls) (rot ls)
theorem al_lt{v:Nat}(hv:v<ls.length)(g:Bool):alongD ls.length v g<nD ls:=by
 have h:=arr_lt hv (!g);rw[← rv_along] at h;have:=rv_lt h;rw[rv_rv] at this;have:nD ls=2*ls.length+2*(axisR ls).length:=rfl;omega
theorem rot_al(v:Nat)(g:Bool):rot ls (alongD ls.length v g)=nxt ls (arrD ls.length v (!g)):=by unfold rot;rw[rv_along]
theorem rot_ends(ok:dgOK F ls){v:Nat}(hv:v<ls.length):Eqv (rtR ls) (alongD ls.length v true) (alongD ls.length v false):=by
 obtain⟨l,hl⟩:=at_lt hv;have st:=straight ok hv false;have:rot ls (rot ls (alongD ls.length v true))=alongD ls.length v false:=by rw[rot_al];exact st
 have p:=rot_perm ok;rw[← this];exact(Eqv.rel ⟨al_lt hv true,rfl⟩).trans (.rel ⟨p.lt _ (al_lt hv true),rfl⟩)
theorem rot_any(ok:dgOK F ls){v:Nat}(hv:v<ls.length)(g h:Bool):Eqv (rtR ls) (alongD ls.length v g) (alongD ls.length v h):=by
 have e:=rot_ends ok hv;cases g<;>cases h
 ·exact .refl _
 ·exact e.symm
 ·exact e
 ·exact .refl _
theorem rot_other(ok:dgOK F ls){v:Nat}{l:Let}(hl:ls[v]? =some l)(hc:l.isC=true):Eqv (rtR ls) (alongD ls.length v true) (alongD ls.length (otherR ls v) true):=by
 obtain⟨h1,m,hm,mc,mi,mo,ms⟩:=otherR_back ok.cr hl hc;have hv:=(List.getElem?_eq_some_iff.1 hl).1;have hw:=(List.getElem?_eq_some_iff.1 hm).1;have:rot ls (alongD ls.length v true)=alongD ls.length (otherR ls v) (false==(l.over==(l.sign==1))):=by rw[rot_al,turn_C hl hc];rfl
 exact(Eqv.rel ⟨al_lt hv true,this.symm⟩).trans (rot_any ok hw _ _)
theorem rot_axR(ok:dgOK F ls){k:Nat}(hk:k<(axisR ls).length):Eqv (rtR ls) (2*ls.length+2*k) (alongD ls.length ((axisR ls).getD k 0) true):=by
 have hlt:2*ls.length+2*k<nD ls:=by unfold nD;omega
 obtain⟨l,h1,h2⟩:=ax_get hk;have hv:=(List.getElem?_eq_some_iff.1 h1).1;have:rot ls (2*ls.length+2*k)=alongD ls.length ((axisR ls).getD k 0) (dn ls ((axisR ls).getD k 0)):=by
  unfold rot;rw[show 2*ls.length+2*k=2*(ls.length+k) by omega,rv0,show 2*(ls.length+k)+1=2*ls.length+2*k+1 by omega,turn_L]
 exact(Eqv.rel ⟨hlt,this.symm⟩).trans (rot_any ok hv _ _)
theorem rot_axL(ok:dgOK F ls){k:Nat}(hk:k<(axisR ls).length):Eqv (rtR ls) (2*ls.length+2*k+1) (alongD ls.length ((axisR ls).getD ((k+1)%(axisR ls).length) 0) true):=by
 have hlt:2*ls.length+2*k+1<nD ls:=by unfold nD;omega
 obtain⟨l,h1,h2⟩:=ax_get (Nat.mod_lt (k+1) (show 0<(axisR ls).length by omega));have hv:=(List.getElem?_eq_some_iff.1 h1).1;have:rot ls (2*ls.length+2*k+1)=alongD ls.length ((axisR ls).getD ((k+1)%(axisR ls).length) 0) (!dn ls ((axisR ls).getD ((k+1)%(axisR ls).length) 0)):=by
  unfold rot;rw[show 2*ls.length+2*k+1=2*(ls.length+k)+1 by omega,rv1,show 2*(ls.length+k)=2*ls.length+2*k by omega,turn_R]
 exact(Eqv.rel ⟨hlt,this.symm⟩).trans (rot_any ok hv _ _)
theorem rot_tail(ok:dgOK F ls){x:Nat}(hx:x<nD ls): ∃ v,v<ls.length∧Eqv (rtR ls) x (alongD ls.length v true):=by
 by_cases c:x<2*ls.length
 ·have hy:rv x<2*ls.length:=rv_lt c;obtain⟨v,fw,hv,e⟩: ∃ v fw,v<ls.length∧rv x=arrD ls.length v fw:=⟨_,_,by
   split
   ·exact Nat.mod_lt _ (by omega)
   ·omega,arr_of hy⟩
  have:x=alongD ls.length v (!fw):=by rw[← rv_arr,← e,rv_rv]
  exact⟨v,hv,by rw[this];exact rot_any ok hv _ _⟩
 ·have hN:nD ls=2*ls.length+2*(axisR ls).length:=rfl;have hk:(x - 2*ls.length)/2<(axisR ls).length:=by omega
  rcases Nat.mod_two_eq_zero_or_one x with h|h
  ·obtain⟨l,h1,h2⟩:=ax_get hk;refine⟨_,(List.getElem?_eq_some_iff.1 h1).1,?_⟩;have:=rot_axR ok hk;rwa[show 2*ls.length+2*((x - 2*ls.length)/2)=x by omega] at this
  ·obtain⟨l,h1,h2⟩:=ax_get (Nat.mod_lt ((x - 2*ls.length)/2+1) (show 0<(axisR ls).length by omega));refine⟨_,(List.getElem?_eq_some_iff.1 h1).1,?_⟩;have:=rot_axL ok hk;rwa[show 2*ls.length+2*((x - 2*ls.length)/2)+1=x by omega] at this
theorem vertices2(ok:dgOK F ls): ∃ L:List Nat,L.length=cnt Let.isP ls+cnt Let.isC ls/2∧(∀ j∈L,j<ls.length)∧(L.map (vlL ls)).Nodup∧ ∀ v,v<ls.length→ ∃ j∈L,vlL ls j=vlL ls v:=by
 have hc:=ok.cr;unfold crossR at hc;simp only[Bool.and_eq_true,beq_iff_eq] at hc;obtain⟨L,l1,l2,l3⟩:=vertices ok;refine⟨L,l1,l2,l3,fun v hv=> ?_⟩
 -- all the names there are
 let A:List (Int × Int):=(axisR ls).map (fun i:Nat=>((0:Int),(i:Int)))++(idsK ls ls.length).map fun id=>((1:Int),id)
 have hA:A.length=cnt Let.isP ls+cnt Let.isC ls/2:=by simp only[A,List.length_append,List.length_map,axisR_len,hc.2]
 have hin: ∀ v,v<ls.length→vlL ls v∈A:=fun v hv=>by
  obtain⟨l,hl⟩:=at_lt hv;unfold vlL;rw[hl];rcases ok.kinds l (List.mem_of_getElem? hl) with hp|hcr
  ·simp only[notBoth hp,Bool.false_eq_true,if_false];exact List.mem_append_left _ (List.mem_map.2 ⟨v,axisR_mem.2 ⟨l,hl,hp⟩,rfl⟩)
  ·simp only[hcr,if_true];refine List.mem_append_right _ (List.mem_map.2 ⟨l.id,?_,rfl⟩);exact(ids_mem (Nat.le_refl _)).2 ⟨v,l.over,hv,by rw[hit_of hl hcr];simp⟩
 refine Classical.byContradiction fun hno=> ?_
 have hn:vlL ls v∉L.map (vlL ls):=fun h=>by
  obtain⟨j,hj,e⟩:=List.mem_map.1 h;exact hno ⟨j,hj,e⟩
 have hsub: ∀ (X Y:List (Int × Int)),X.Nodup→(∀ x∈X,x∈Y)→X.length≤Y.length:=by
  intro X
  induction X with
  |nil=>intro Y _ _;exact Nat.zero_le _
  |cons a X ih=>
   intro Y hn hs;obtain⟨h1,h2⟩:=List.nodup_cons.1 hn;have ha:=hs a (by simp);have:=ih (Y.erase a) h2 fun x hx=>(List.mem_erase_of_ne (by rintro rfl;exact h1 hx)).2 (hs x (by simp[hx]))
   rw[List.length_erase_of_mem ha] at this;have:0<Y.length:=List.length_pos_of_mem ha;simp only[List.length_cons];omega
 have:=hsub (vlL ls v::L.map (vlL ls)) A (List.nodup_cons.2 ⟨hn,l3⟩) fun x hx=>by
  rcases List.mem_cons.1 hx with rfl|hx
  ·exact hin v hv
  ·obtain⟨j,hj,rfl⟩:=List.mem_map.1 hx;exact hin j (l2 j hj)
 rw[List.length_cons,List.length_map,l1,hA] at this;omega
theorem vl_same(ok:dgOK F ls){u v:Nat}(hu:u<ls.length)(hv:v<ls.length)(e:vlL ls u=vlL ls v):Eqv (rtR ls) (alongD ls.length v true) (alongD ls.length u true):=by
 obtain⟨l,hl⟩:=at_lt hu;obtain⟨m,hm⟩:=at_lt hv;unfold vlL at e;rw[hl,hm] at e;simp only at e;cases cl:l.isC<;>cases cm:m.isC
 ·simp only[cl,cm,Bool.false_eq_true,if_false,Prod.mk.injEq,true_and] at e;have:u=v:=by omega
  subst this;exact .refl _
 ·simp[cl,cm] at e
 ·simp[cl,cm] at e
 ·simp only[cl,cm,if_true,Prod.mk.injEq,true_and] at e;have hcr:=ok.cr;have hp:pairsOK ls:=by
   unfold crossR at hcr;simp only[Bool.and_eq_true,beq_iff_eq,List.all_eq_true,List.mem_range] at hcr;exact(x_all.1 hcr.1.2).2
  by_cases huv:u=v
  ·subst huv;exact .refl _
  ·obtain⟨h1,w,hw,wc,wi,wo,ws⟩:=otherR_back ok.cr hm cm;have:otherR ls v=u:=by
    refine Classical.byContradiction fun hne=> ?_
    have d1:=(hp _ _ w l hw hl wc cl (by rw[wi,e]) hne).1;have d2:=(hp _ _ l m hl hm cl cm e huv).1;rw[wo] at d1;revert d1 d2;cases l.over<;>cases m.over<;>simp
   have:=rot_other ok hm cm;rwa[‹otherR ls v=u›] at this
theorem K_rot(ok:dgOK F ls):K (Eqv (rtR ls)) (nD ls)=cnt Let.isP ls+cnt Let.isC ls/2:=by
 obtain⟨L,l1,l2,l3,l4⟩:=vertices2 ok;have hN:=nD_eq ls;have hN':nD ls=2*ls.length+2*(axisR ls).length:=rfl;have hrv: ∀ y,y<nD ls→rv y<nD ls:=fun y hy=>by rw[hN] at hy ⊢;exact rv_lt hy
 have hlen:(L.map (2* ·)).length=cnt Let.isP ls+cnt Let.isC ls/2:=by rw[List.length_map,l1]
 refine Nat.le_antisymm ?_ ?_
 ·rw[← hlen];refine K_le fun x hx=> ?_
  obtain⟨v,hv,e⟩:=rot_tail ok hx;obtain⟨j,hj,ej⟩:=l4 v hv;exact⟨2*j,List.mem_map.2 ⟨j,hj,rfl⟩,e.trans (vl_same ok (l2 j hj) hv ej)⟩
 ·rw[← hlen];refine K_ge (f:=fun x=>vlL ls (headL ls (rv x))) ?_ (fun x hx=> ?_) ?_
  ·rintro a b ⟨ha,rfl⟩
   exact(turn_lab ok (hrv a ha)).1.symm
  ·obtain⟨j,hj,rfl⟩:=List.mem_map.1 hx;have:=l2 j hj;omega
  ·rw[List.map_map];have:L.map ((fun x=>vlL ls (headL ls (rv x))) ∘ (2* ·))=L.map (vlL ls):=List.map_congr_left fun j hj=>by
    have:=head_arr (ls:=ls) (l2 j hj) false;simp only[Function.comp_apply,rv0];rw[show 2*j+1=arrD ls.length j false from rfl,this]
   rw[this];exact l3
theorem one_piece(ok:dgOK F ls):K (Eqv (grT (nD ls) (rot ls) (tsS (E2 ls)))) (nD ls)≤1:=by
 refine K_one fun x hx=> ?_
 obtain⟨b,hb⟩:=gd_all (p:=fun _=>false) (fun _=>rfl) ok hx;have h:=hb 0 (by decide);have:=h.push (R':=grT (nD ls) (rot ls) (tsS (E2 ls))) (f:=fun y=>y/2) ?_
 ·have hf:fx b 0<2:=fx_lt (by decide);rw[show(2*x+0)/2=x by omega,show fx b 0/2=0 by omega] at this;exact this
 ·intro u v r;rcases r with ⟨hu,rfl⟩|r
  ·refine .rel (.inl ⟨by omega,?_⟩);unfold sgC rot fx;simp only[Bool.false_eq_true,if_false];omega
  ·refine .rel (.inr ?_);obtain⟨e,he,hm⟩:=List.mem_flatMap.1 r;have hmem:(2*e,2*e+1)∈tsS (E2 ls):=List.mem_map.2 ⟨e,he,rfl⟩;simp only[List.mem_cons,List.not_mem_nil,or_false,Prod.mk.injEq] at hm;rcases hm with ⟨rfl,rfl⟩|⟨rfl,rfl⟩
   ·rw[alC_0];simp only[Bool.false_eq_true,if_false];rw[show 4*e/2=2*e by omega,show(4*e+2)/2=2*e+1 by omega];exact hmem
   ·rw[alC_1];simp only[Bool.false_eq_true,if_false];rw[show(4*e+1)/2=2*e by omega,show(4*e+3)/2=2*e+1 by omega];exact hmem
theorem faces_bound(ok:dgOK F ls):nWalks ls≤cnt Let.isP ls+cnt Let.isC ls/2+2∧(nWalks ls+(cnt Let.isP ls+cnt Let.isC ls/2))%2=0:=by
 have hN:=nD_eq ls;have e1:=euler (tsS (E2 ls)) (rot ls) (rot_perm ok) fun t ht=>by
  have:=tsS_lt t ht;rw[hN];exact⟨this.1,this.2.1⟩
 have e2:=K_trs (tsS (E2 ls)) (rot ls) (rot_perm ok) fun t ht=>by
  have:=tsS_lt t ht;rw[hN];exact this
 have hl:(tsS (E2 ls)).length=ls.length+(axisR ls).length:=by simp[tsS]
 rw[K_congr gr_fold,K_nxt ok,show K (Eqv (gr (nD ls) (rot ls))) (nD ls)=_ from K_rot ok,hl] at e1 e2;have h1:=one_piece ok;have hPC:=len_PC ok;have hax:=axisR_len (ls:=ls);have hcr:=ok.cr;unfold crossR at hcr;simp only[Bool.and_eq_true,beq_iff_eq] at hcr;have hev:=hcr.1.1;omega
end
structure SdE where
 l:Nat
 r:Nat
 b:Bool
structure EnT where
 p:Pc
 i:SdE
 o:SdE
abbrev EnT.k(x:EnT):Let:=x.p.l
def PathE:SdE→List EnT→SdE→Prop
 |s,[],t=>s=t
 |s,x::r,t=>x.i=s∧PathE x.o r t
theorem path_app{s t:SdE}{a b:List EnT}:PathE s (a++b) t↔ ∃ m,PathE s a m∧PathE m b t:=by
 induction a generalizing s with
 |nil=>exact⟨fun h=>⟨s,rfl,h⟩,fun⟨m,h1,h2⟩=>by cases h1;exact h2⟩
 |cons x a ih=>
  show(x.i=s∧PathE x.o (a++b) t)↔_;rw[ih];exact⟨fun⟨h,m,h1,h2⟩=>⟨m,⟨h,h1⟩,h2⟩,fun⟨m,⟨h,h1⟩,h2⟩=>⟨h,m,h1,h2⟩⟩
theorem path_rot{s:SdE}{a b:List EnT}(h:PathE s (a++b) s): ∃ m,PathE m (b++a) m:=by
 obtain⟨m,h1,h2⟩:=path_app.1 h;exact⟨m,path_app.2 ⟨s,h2,h1⟩⟩
structure X4 (g:Bool) (i o j q:SdE):Prop where
 a:if g then i.l=q.l else i.l=j.r
 b:if g then o.r=j.r else o.r=q.l
 c:if g then j.l=i.r else j.l=o.l
 d:if g then q.r=o.l else q.r=i.r
def gX (l:Let):Bool:=l.over==(l.sign==1)
structure Xc (x y:EnT):Prop where
 ov:x.k.over= !y.k.over
 sg:x.k.sign=y.k.sign
 x4:X4 (gX x.k) x.i x.o y.i y.o
theorem Xc.symm{x y:EnT}(h:Xc x y):Xc y x:=by
 obtain⟨h1,h2,a,b,c,d⟩:=h;have e:gX y.k= !gX x.k:=by
  unfold gX;rw[h1,h2];cases y.k.over<;>cases (y.k.sign==1)<;>rfl
 refine⟨by rw[h1];simp,h2.symm,?_⟩;rw[e];cases hg:gX x.k
 ·rw[hg] at a b c d;simp only[Bool.false_eq_true,if_false] at a b c d;constructor<;>simp only[Bool.not_false,if_true]
  ·exact c
  ·exact d
  ·exact a
  ·exact b
 ·rw[hg] at a b c d;simp only[if_true] at a b c d;constructor<;>simp only[Bool.not_true,Bool.false_eq_true,if_false]
  ·exact c
  ·exact d
  ·exact a
  ·exact b
def flS(s:SdE):SdE:=⟨s.r,s.l,s.b⟩
def EnT.up(x:EnT):SdE:=if x.p.d then x.i else flS x.o
def EnT.lo(x:EnT):SdE:=if x.p.d then x.o else flS x.i
structure okE (F:Nat) (x:EnT):Prop where
 bad:badL F x.k=false
 cb:x.k.isC=true→x.i.b=x.o.b
 pb:x.k.isP=true→x.o.b=x.p.d∧x.i.b= !x.p.d
def Xr (x y:EnT):Prop:=x.k.isC=true→y.k.isC=true→x.k.id=y.k.id→Xc x y
theorem Xr.symm{x y:EnT}(h:Xr x y):Xr y x:=fun a b c=>(h b a c.symm).symm
def Dr (x y:EnT):Prop:=x.k.isP=true→y.k.isP=true→x.k.gate=y.k.gate→x.k.rank≠y.k.rank
theorem Dr.symm{x y:EnT}(h:Dr x y):Dr y x:=fun a b c d=>h b a c.symm d.symm
structure plE (T B:Nat→Nat→Nat) (x:EnT):Prop where
 wt:x.up.r=T x.k.gate.toNat (x.k.rank.toNat - 1)
 et:x.up.l=T x.k.gate.toNat x.k.rank.toNat
 wb:x.lo.r=B x.k.gate.toNat (x.k.rank.toNat - 1)
 eb:x.lo.l=B x.k.gate.toNat x.k.rank.toNat
abbrev lsE(z:List EnT):List Let:=z.map EnT.k
structure Cz (F:Nat) (z:List EnT) (T B:Nat→Nat→Nat) (S:List Nat):Prop where
 path: ∃ s,PathE s z s
 ok: ∀ x∈z,okE F x
 cr:z.Pairwise Xr
 ev:cnt Let.isC (lsE z)%2=0
 ids: ∀ x∈z,x.k.isC=true→1≤x.k.id∧x.k.id≤((cnt Let.isC (lsE z)/2:Nat):Int)
 rk:z.Pairwise Dr
 rr: ∀ x∈z,x.k.isP=true→1≤x.k.rank∧x.k.rank≤(cg (lsE z) x.k.gate.toNat:Int)
 pl: ∀ x∈z,x.k.isP=true→plE T B x
 gt: ∀ g,g<F→T g (cg (lsE z) g)=T (g+1) 0∧B g (cg (lsE z) g)=B (g+1) 0
 gz:T F (cg (lsE z) F)=T 0 0∧B F (cg (lsE z) F)=B 0 0
 one: ∃ x∈z,x.k.isP=true
 nd:S.Nodup
 wit: ∀ s∈S,∃ x∈z,s=x.o.l∨s=x.o.r
 num:cnt Let.isP (lsE z)+cnt Let.isC (lsE z)/2+1≤S.length
def Cert(F:Nat)(l:List Pc):Prop:= ∃ z T B S,z.map EnT.p=l∧Cz F z T B S
theorem cnt_perm{p:Let→Bool}{z z':List EnT}(h:z.Perm z'):cnt p (lsE z)=cnt p (lsE z'):=(h.map EnT.k).countP_eq p
theorem Cz.perm{F:Nat}{z z':List EnT}{T B:Nat→Nat→Nat}{S:List Nat}(c:Cz F z T B S)(h:z.Perm z')(hp: ∃ s,PathE s z' s):Cz F z' T B S:=by
 have hm: ∀ {x},x∈z'↔x∈z:=fun {x}=>h.symm.mem_iff
 have e: ∀ p,cnt p (lsE z')=cnt p (lsE z):=fun p=>(cnt_perm h).symm
 have eg: ∀ g,cg (lsE z') g=cg (lsE z) g:=fun g=>e _
 refine⟨hp,fun x hx=>c.ok x (hm.1 hx),(h.pairwise_iff fun {x y}=>Xr.symm).1 c.cr,by rw[e];exact c.ev,fun x hx=>by rw[e];exact c.ids x (hm.1 hx),(h.pairwise_iff fun {x y}=>Dr.symm).1 c.rk,
  fun x hx=>by rw[eg];exact c.rr x (hm.1 hx),fun x hx=>c.pl x (hm.1 hx),fun g hg=>by rw[eg];exact c.gt g hg,by rw[eg];exact c.gz,?_,c.nd,fun s hs=> ?_,by rw[e,e];exact c.num⟩
 ·obtain⟨x,hx,h1⟩:=c.one;exact⟨x,hm.2 hx,h1⟩
 ·obtain⟨x,hx,h1⟩:=c.wit s hs;exact⟨x,hm.2 hx,h1⟩
theorem Cz.rot{F:Nat}{a b:List EnT}{T B:Nat→Nat→Nat}{S:List Nat}(c:Cz F (a++b) T B S):Cz F (b++a) T B S:=by
 obtain⟨s,h⟩:=c.path;exact c.perm (List.perm_append_comm) (path_rot h)
theorem Cert.rot{F:Nat}{a b:List Pc}(c:Cert F (a++b)):Cert F (b++a):=by
 obtain⟨z,T,B,S,h,c⟩:=c;obtain⟨x,y,rfl,rfl,rfl⟩:=List.map_eq_append_iff.1 h;exact⟨y++x,T,B,S,by rw[List.map_append],c.rot⟩
theorem path_down{F:Nat}: ∀ {z:List EnT} {s t:SdE},(∀ x∈z,okE F x)→PathE s z t→s.b=false→t.b=true→ ∃ x∈z,x.k.isP=true∧x.p.d=true:=by
 intro z
 induction z with
 |nil=>intro s t _ h h1 h2;cases h;rw[h1] at h2;cases h2
 |cons x z ih=>
  intro s t ok h h1 h2;obtain⟨rfl,h⟩:=h;have ox:=ok x (by simp);by_cases hd:x.k.isP=true∧x.p.d=true
  ·exact⟨x,by simp,hd⟩
  ·have hb:x.o.b=false:=by
    rcases bad_kind ox.bad with hp|hc
    ·rw[(ox.pb hp).1];cases hd':x.p.d
     ·rfl
     ·exact absurd ⟨hp,hd'⟩ hd
    ·rw[← ox.cb hc];exact h1
   obtain⟨y,hy,e⟩:=ih (fun x hx=>ok x (by simp[hx])) h hb h2;exact⟨y,by simp[hy],e⟩
theorem Cz.down{F:Nat}{z:List EnT}{T B:Nat→Nat→Nat}{S:List Nat}(c:Cz F z T B S): ∃ x∈z,x.k.isP=true∧x.p.d=true:=by
 obtain⟨x,hx,hp⟩:=c.one;cases hd:x.p.d
 ·obtain⟨a,b,rfl⟩:=List.append_of_mem hx;have c2:=c.rot;obtain⟨s,h⟩:=c2.path;obtain⟨rfl,h⟩:=h;obtain⟨e1,e2⟩:=(c.ok x (by simp)).pb hp;rw[hd] at e1 e2;obtain⟨y,hy,e⟩:=path_down (fun y hy=>c.ok y (by
   rcases List.mem_append.1 hy with hy|hy
   ·simp[hy]
   ·simp[hy])) h e1 e2
  refine⟨y,?_,e⟩;rcases List.mem_append.1 hy with hy|hy
  ·simp[hy]
  ·simp[hy]
 ·exact⟨x,hx,hp,hd⟩
theorem rot_eq2{l:List Pc}{f:Nat}(hf:f≤l.length):rotK l f l.length=(l.drop f++l.take f).map Pc.l:=by
 apply List.ext_getElem?;intro i;by_cases hi:i<l.length
 ·have h1:(rotK l f l.length)[i]? =some (l.getD ((f+i)%l.length) ⟨noLet,false⟩).l:=by
   simp[rotK,hi]
  rw[h1,List.getElem?_map];by_cases h2:f+i<l.length
  ·rw[List.getElem?_append_left (by simp;omega),List.getElem?_drop,Nat.mod_eq_of_lt h2];simp[h2]
  ·rw[List.getElem?_append_right (by simp;omega),List.length_drop];have h3:(f+i)%l.length=i - (l.length - f):=by
    rw[Nat.mod_eq_sub_mod (by omega),Nat.mod_eq_of_lt (by omega)];omega
   have h4:i - (l.length - f)<l.length:=by omega
   rw[h3,List.getElem?_take,if_pos (by omega)];simp[h4]
 ·have h1:(rotK l f l.length).length=l.length:=by simp[rotK]
  rw[List.getElem?_eq_none (by rw[h1];omega),List.getElem?_eq_none (by simp;omega)]
theorem Cert.fin{F:Nat}{l:List Pc}(c:Cert F l): ∃ z T B S x r,z=x::r∧x.k.isP=true∧x.p.d=true∧lsE z=finL l∧z.length=l.length∧Cz F z T B S:=by
 obtain⟨z,T,B,S,h,c⟩:=c;subst h;obtain⟨x,hx,hp,hd⟩:=c.down;have hP: ∀ y:EnT,y.k.isP=(y.p.l.kind==1):=fun y=>rfl
 obtain⟨j,hj⟩:=List.getElem?_of_mem hx;have hjl:=(List.getElem?_eq_some_iff.1 hj).1;have hjp:(z.map EnT.p)[j]? =some x.p:=by rw[List.getElem?_map,hj];rfl
 obtain⟨f,hf⟩: ∃ f,firstD (z.map EnT.p)=some f:=by
  cases h:firstD (z.map EnT.p) with
  |some f=>exact⟨f,rfl⟩
  |none=>
   have:=List.find?_eq_none.1 h j (by simpa using hjl);rw[pdA_of hjp] at this;unfold pdn at this;rw[hP] at hp;simp[hp,hd] at this
 have h1:=List.find?_some hf;have h2:f<z.length:=by
  have:=List.mem_of_find?_eq_some hf
  simpa using this
 obtain⟨y,hy⟩:=List.getElem?_eq_some_iff.2 ⟨h2,rfl⟩ |> fun h=>(⟨_,h⟩: ∃ y,z[f]? =some y)
 have hyp:(z.map EnT.p)[f]? =some y.p:=by rw[List.getElem?_map,hy];rfl
 rw[pdA_of hyp] at h1;unfold pdn at h1;rw[Bool.and_eq_true] at h1;have hz:z=z.take f++y::z.drop (f+1):=by
  obtain⟨hl,e⟩:=List.getElem?_eq_some_iff.1 hy;rw[← e,List.getElem_cons_drop,List.take_append_drop]
 have hdr:z.drop f=y::z.drop (f+1):=by
  obtain⟨hl,e⟩:=List.getElem?_eq_some_iff.1 hy;rw[← e,List.getElem_cons_drop]
 refine⟨y::z.drop (f+1)++z.take f,T,B,S,y,z.drop (f+1)++z.take f,rfl,h1.1,h1.2,?_,?_,?_⟩
 ·unfold finL;rw[hf,Option.getD_some,rot_eq2 (by rw[List.length_map];omega),← hdr];simp only[List.map_append,List.map_drop,List.map_take,List.map_map];rfl
 ·rw[← hdr,List.length_append,List.length_drop,List.length_take,List.length_map];omega
 ·rw[hz] at c;exact c.rot
theorem crossR_of{ls:List Let}(he:cnt Let.isC ls%2=0)(hi:idsOK ls)(hp:pairsOK ls):crossR ls=true:=by
 rw[cross_yes he (x_all.2 ⟨hi,hp⟩)];have hsum:=sum_all ls;have hle: ∀ id∈idsK ls ls.length,cnt (isId id) ls≤2:=fun id _=>by
  rw[isId_split id];have:=hitO_le hp id true;have:=hitO_le hp id false;omega
 have h1:=sum_le (f:=fun id=>cnt (isId id) ls) _ hle;have h2:(idsK ls ls.length).length≤cnt Let.isC ls/2:=by
  have hr: ∀ id∈idsK ls ls.length,1≤id∧id≤((cnt Let.isC ls/2:Nat):Int):=fun id hid=>by
   obtain⟨j,o,hj,hh⟩:=(ids_mem (Nat.le_refl _)).1 hid;obtain⟨m,hm,mc,mi,_⟩:=hit_some hh;rw[← mi];exact hi m (List.mem_of_getElem? hm) mc
  have:=sub_len ((idsK ls ls.length).map Int.toNat) (List.range' 1 (cnt Let.isC ls/2)) ?_ ?_
  ·rwa[List.length_map,List.length_range'] at this
  ·refine List.pairwise_map.2 (List.Pairwise.imp_of_mem (fun {a b} ha hb h e=>h ?_) (ids_nodup ls ls.length));have:=hr a ha;have:=hr b hb;omega
  ·intro x hx;obtain⟨id,hid,rfl⟩:=List.mem_map.1 hx;have:=hr id hid;rw[List.mem_range'_1];omega
 simp only[beq_iff_eq];omega
theorem path_head{s t:SdE}{z:List EnT}{x:EnT}(h:PathE s z t)(hx:z[0]? =some x):x.i=s:=by
 cases z with
 |nil=>cases hx
 |cons y z=>cases hx;exact h.1
theorem path_next: ∀ {z:List EnT} {s t:SdE} {i:Nat} {x y:EnT},PathE s z t→z[i]? =some x→z[i+1]? =some y→x.o=y.i:=by
 intro z
 induction z with
 |nil=>intro s t i x y _ hx;cases hx
 |cons a z ih=>
  intro s t i x y h hx hy;cases i with
  |zero=>cases hx;exact(path_head h.2 hy).symm
  |succ i=>exact ih h.2 hx hy
theorem path_last: ∀ {z:List EnT} {s t:SdE} {x:EnT},PathE s z t→z[z.length - 1]? =some x→x.o=t:=by
 intro z
 induction z with
 |nil=>intro s t x _ hx;cases hx
 |cons a z ih=>
  intro s t x h hx;cases z with
  |nil=>cases hx;exact h.2
  |cons b z=>exact ih h.2 hx
theorem path_cyc{z:List EnT}{s:SdE}{j:Nat}{x y:EnT}(h:PathE s z s)(hx:z[j]? =some x)(hy:z[(j+1)%z.length]? =some y):x.o=y.i:=by
 have hj:=(List.getElem?_eq_some_iff.1 hx).1;by_cases c:j+1<z.length
 ·rw[Nat.mod_eq_of_lt c] at hy;exact path_next h hx hy
 ·have:j+1=z.length:=by omega
  rw[this,Nat.mod_self] at hy;rw[path_last h (by rw[← this];exact hx),path_head h hy]
theorem lsE_at{z:List EnT}{i:Nat}{x:EnT}(h:z[i]? =some x):(lsE z)[i]? =some x.k:=by rw[List.getElem?_map,h];rfl
theorem lsE_of{z:List EnT}{i:Nat}{l:Let}(h:(lsE z)[i]? =some l): ∃ x,z[i]? =some x∧x.k=l:=by
 rw[List.getElem?_map,Option.map_eq_some_iff] at h;exact h
theorem path_dn{F:Nat}{z:List EnT}{s t:SdE}(ok: ∀ x∈z,okE F x)(h:PathE s z t)(hs:s.b=false): ∀ i x,z[i]? =some x→x.i.b= !dn (lsE z) i∧x.o.b= !dn (lsE z) (i+1):=by
 have step: ∀ i x,z[i]? =some x→x.i.b=(!dn (lsE z) i)→x.o.b= !dn (lsE z) (i+1):=fun i x hx hb=>by
  have ox:=ok x (List.mem_of_getElem? hx);rcases bad_kind ox.bad with hp|hc
  ·rw[dn_hit (lsE_at hx) hp,Bool.not_not,(ox.pb hp).1];have:=(ox.pb hp).2;rw[hb] at this;revert this;cases dn (lsE z) i<;>cases x.p.d<;>simp
  ·rw[dn_miss (lsE_at hx) (by
    cases hp:x.k.isP
    ·rfl
    ·rw[notBoth hp] at hc;cases hc),← hb,ox.cb hc]
 intro i
 induction i with
 |zero=>
  intro x hx;have:x.i.b= !dn (lsE z) 0:=by rw[path_head h hx,hs];rfl
  exact⟨this,step 0 x hx this⟩
 |succ i ih=>
  intro y hy;obtain⟨x,hx⟩:=at_lt (ls:=z) (k:=i) (by have:=(List.getElem?_eq_some_iff.1 hy).1;omega);have e:=(ih x hx).2;rw[path_next h hx hy] at e;exact⟨e,step (i+1) y hy e⟩
theorem place_eq{F:Nat}{ls:List Let}{f:Nat→Nat→Nat}(hf: ∀ g,g<F→f g (cg ls g)=f (g+1) 0): ∀ (d g k g' k':Nat),g'=g+d→g'≤F→k≤cg ls g→k'≤cg ls g'→firstG ls g+k=firstG ls g'+k'→f g k=f g' k':=by
 intro d
 induction d with
 |zero=>
  intro g k g' k' e _ _ _ h;rw[Nat.add_zero] at e;subst e;rw[show k=k' by omega]
 |succ d ih=>
  intro g k g' k' e hF hk hk' h;have hm:=firstG_mono (ls:=ls) (show g+1≤g' by omega);have hs:=firstG_succ ls g;have:k=cg ls g:=by omega
  subst this;rw[hf g (by omega)];exact ih (g+1) 0 g' k' (by omega) hF (Nat.zero_le _) hk' (by omega)
theorem place_eq2{F:Nat}{ls:List Let}{f:Nat→Nat→Nat}(hf: ∀ g,g<F→f g (cg ls g)=f (g+1) 0){g k g' k':Nat}(hg:g≤F)(hg':g'≤F)(hk:k≤cg ls g)(hk':k'≤cg ls g')(h:firstG ls g+k=firstG ls g'+k'):f g k=f g' k':=by
 rcases Nat.le_total g g' with c|c
 ·exact place_eq hf (g' - g) g k g' k' (by omega) hg' hk hk' h
 ·exact(place_eq hf (g - g') g' k' g k (by omega) hg hk' hk h.symm).symm
def noE:EnT:=⟨⟨noLet,false⟩,⟨0,0,false⟩,⟨0,0,false⟩⟩
def lbE(z:List EnT)(x:Nat):Nat:=
 if x<2*z.length then (if x%2=0 then (z.getD (x/2) noE).o.l else (z.getD (x/2) noE).o.r)
 else if x%2=0 then (z.getD ((axisR (lsE z)).getD ((x - 2*z.length)/2) 0) noE).up.l else (z.getD ((axisR (lsE z)).getD ((x - 2*z.length)/2) 0) noE).lo.l
theorem getD_of{z:List EnT}{i:Nat}{x:EnT}(h:z[i]? =some x):z.getD i noE=x:=by rw[List.getD_eq_getElem?_getD,h];rfl
section
variable {F:Nat} {z:List EnT} {s:SdE}
theorem lb_al(h:PathE s z s){v:Nat}{x:EnT}(hx:z[v]? =some x)(g:Bool):lbE z (alongD z.length v g)=if g then x.o.l else x.i.r:=by
 have hv:=(List.getElem?_eq_some_iff.1 hx).1;cases g with
 |true=>
  show lbE z (2*v)=_;unfold lbE;rw[if_pos (by omega),if_pos (by omega),show 2*v/2=v by omega,getD_of hx];rfl
 |false=>
  show lbE z (2*((v+z.length - 1)%z.length)+1)=_;have hm:=Nat.mod_lt (v+z.length - 1) (show 0<z.length by omega);obtain⟨y,hy⟩:=at_lt (ls:=z) hm;have e:=path_cyc h hy (by rw[mod_back hv];exact hx);unfold lbE;rw[if_pos (by omega),if_neg (by omega),show(2*((v+z.length - 1)%z.length)+1)/2=(v+z.length - 1)%z.length by omega,getD_of hy,e];rfl
theorem lb_arr(h:PathE s z s){v:Nat}{x:EnT}(hx:z[v]? =some x)(g:Bool):lbE z (arrD z.length v g)=if g then x.i.l else x.o.r:=by
 have hv:=(List.getElem?_eq_some_iff.1 hx).1;cases g with
 |false=>
  show lbE z (2*v+1)=_;unfold lbE;rw[if_pos (by omega),if_neg (by omega),show(2*v+1)/2=v by omega,getD_of hx];rfl
 |true=>
  show lbE z (2*((v+z.length - 1)%z.length))=_;have hm:=Nat.mod_lt (v+z.length - 1) (show 0<z.length by omega);obtain⟨y,hy⟩:=at_lt (ls:=z) hm;have e:=path_cyc h hy (by rw[mod_back hv];exact hx);unfold lbE;rw[if_pos (by omega),if_pos (by omega),show(2*((v+z.length - 1)%z.length))/2=(v+z.length - 1)%z.length by omega,getD_of hy,e];rfl
theorem lb_R{k v:Nat}{x:EnT}(ha:(axisR (lsE z)).getD k 0=v)(hx:z[v]? =some x):lbE z (2*z.length+2*k)=x.up.l:=by
 unfold lbE;rw[if_neg (by omega),if_pos (by omega),show(2*z.length+2*k - 2*z.length)/2=k by omega,ha,getD_of hx]
theorem lb_L{k v:Nat}{x:EnT}(ha:(axisR (lsE z)).getD k 0=v)(hx:z[v]? =some x):lbE z (2*z.length+2*k+1)=x.lo.l:=by
 unfold lbE;rw[if_neg (by omega),if_neg (by omega),show(2*z.length+2*k+1 - 2*z.length)/2=k by omega,ha,getD_of hx]
theorem Cz.pairs{T B:Nat→Nat→Nat}{S:List Nat}(c:Cz F z T B S){i j:Nat}{x y:EnT}(hx:z[i]? =some x)(hy:z[j]? =some y)(hij:i≠j):Xr x y∧Dr x y:=by
 obtain⟨hi,ex⟩:=List.getElem?_eq_some_iff.1 hx;obtain⟨hj,ey⟩:=List.getElem?_eq_some_iff.1 hy;subst ex ey;rcases Nat.lt_or_gt_of_ne hij with h|h
 ·exact⟨List.pairwise_iff_getElem.1 c.cr i j hi hj h,List.pairwise_iff_getElem.1 c.rk i j hi hj h⟩
 ·exact⟨(List.pairwise_iff_getElem.1 c.cr j i hj hi h).symm,(List.pairwise_iff_getElem.1 c.rk j i hj hi h).symm⟩
theorem Cz.good{T B:Nat→Nat→Nat}{S:List Nat}(c:Cz F z T B S){x:EnT}(hx:x∈z)(hp:x.k.isP=true):goodP F (lsE z) x.k:=by
 obtain⟨⟨⟨⟨g0,g1⟩,_⟩,_⟩,_⟩:=(not_badP hp).1 (c.ok x hx).bad;obtain⟨r0,r1⟩:=c.rr x hx hp;exact⟨g0,g1,r0,r1⟩
theorem Cz.dg{T B:Nat→Nat→Nat}{S:List Nat}(c:Cz F z T B S)(hl:z.length≤1000000):dgOK F (lsE z):=by
 refine⟨by rw[List.length_map];exact hl,⟨fun l hl hp=> ?_,fun i j l m hi hj pl pm e=> ?_⟩,crossR_of c.ev (fun l hl hc=> ?_) (fun i j l m hi hj cl cm e hij=> ?_),fun l hl=> ?_⟩
 ·obtain⟨x,hx,rfl⟩:=List.mem_map.1 hl;exact c.good hx hp
 ·obtain⟨x,hx,rfl⟩:=lsE_of hi;obtain⟨y,hy,rfl⟩:=lsE_of hj;refine Decidable.byContradiction fun hij=> ?_
  obtain⟨h1,h2⟩:=(pl_eq (c.good (List.mem_of_getElem? hx) pl) (c.good (List.mem_of_getElem? hy) pm)).1 e;exact(c.pairs hx hy hij).2 pl pm h1 h2
 ·obtain⟨x,hx,rfl⟩:=List.mem_map.1 hl;exact c.ids x hx hc
 ·obtain⟨x,hx,rfl⟩:=lsE_of hi;obtain⟨y,hy,rfl⟩:=lsE_of hj;have:=(c.pairs hx hy hij).1 cl cm e;refine⟨?_,this.sg⟩;rw[this.ov];cases y.k.over<;>simp
 ·obtain⟨x,hx,rfl⟩:=List.mem_map.1 hl;exact bad_kind (c.ok x hx).bad
theorem Cz.gates{T B:Nat→Nat→Nat}{S:List Nat}(c:Cz F z T B S):gates F (lsE z):=fun l hl hp=>by
 obtain⟨x,hx,rfl⟩:=List.mem_map.1 hl;exact((not_badP hp).1 (c.ok x hx).bad).1.1.1
theorem Cz.axis{T B:Nat→Nat→Nat}{S:List Nat}(c:Cz F z T B S)(hl:z.length≤1000000){k u v:Nat}{x y:EnT}(hu:(axisR (lsE z))[k]? =some u)(hv:(axisR (lsE z))[(k+1)%(axisR (lsE z)).length]? =some v)(hx:z[u]? =some x)(hy:z[v]? =some y):x.up.l=y.up.r∧x.lo.l=y.lo.r:=by
 have ok:=c.dg hl;have hk:=(List.getElem?_eq_some_iff.1 hu).1;obtain⟨l,l1,l2,l3⟩:=axis_at ok.ax hu;obtain⟨m,m1,m2,m3⟩:=axis_at ok.ax hv;rw[lsE_at hx] at l1;cases l1;rw[lsE_at hy] at m1;cases m1;have gx:=c.good (List.mem_of_getElem? hx) l2;have gy:=c.good (List.mem_of_getElem? hy) m2;have px:=c.pl x (List.mem_of_getElem? hx) l2;have py:=c.pl y (List.mem_of_getElem? hy) m2;obtain⟨x1,x2,x3,x4⟩:=gx;obtain⟨y1,y2,y3,y4⟩:=gy;have key: ∀ f:Nat→Nat→Nat,(∀ g,g<F→f g (cg (lsE z) g)=f (g+1) 0)→f F (cg (lsE z) F)=f 0 0→f x.k.gate.toNat x.k.rank.toNat=f y.k.gate.toNat (y.k.rank.toNat - 1):=by
  intro f hf hz;unfold plOf at l3 m3;by_cases c1:k+1<(axisR (lsE z)).length
  ·rw[Nat.mod_eq_of_lt c1] at m3;exact place_eq2 hf (by omega) (by omega) (by omega) (by omega) (by omega)
  ·have hT:=T_len c.gates;have hs:=firstG_succ (lsE z) F;have:k+1=(axisR (lsE z)).length:=by omega
   rw[this,Nat.mod_self] at m3;rw[place_eq2 hf (g:=x.k.gate.toNat) (k:=x.k.rank.toNat) (g':=F) (k':=cg (lsE z) F) (by omega) (Nat.le_refl _) (by omega) (Nat.le_refl _) (by omega),hz];exact place_eq2 hf (Nat.zero_le _) (by omega) (Nat.zero_le _) (by omega) (by show 0+0=_;omega)
 exact⟨by rw[px.et,py.wt];exact key T (fun g hg=>(c.gt g hg).1) c.gz.1,by rw[px.eb,py.wb];exact key B (fun g hg=>(c.gt g hg).2) c.gz.2⟩
theorem Cz.walk{T B:Nat→Nat→Nat}{S:List Nat}(c:Cz F z T B S)(hl:z.length≤1000000)(h:PathE s z s)(hs:s.b=false){x:Nat}(hx:x<nD (lsE z)):lbE z (nxt (lsE z) x)=lbE z x:=by
 have ok:=c.dg hl;have hn:(lsE z).length=z.length:=List.length_map ..;have hN:nD (lsE z)=2*z.length+2*(axisR (lsE z)).length:=by unfold nD;rw[hn]
 have hdn:=path_dn c.ok h hs;by_cases c1:x<2*z.length
 ·obtain⟨v,fw,hv,rfl⟩: ∃ v fw,v<z.length∧x=arrD z.length v fw:=⟨_,_,by
   split
   ·exact Nat.mod_lt _ (by omega)
   ·omega,arr_of c1⟩
  obtain⟨e,he⟩:=at_lt (ls:=z) hv;have hle:=lsE_at he;have oe:=c.ok e (List.mem_of_getElem? he);rw[lb_arr h he];rcases bad_kind oe.bad with hp|hc
  ·have hd:dn (lsE z) v=e.p.d:=by
    have:=(hdn v e he).1;rw[(oe.pb hp).2] at this;revert this;cases e.p.d<;>cases dn (lsE z) v<;>simp
   obtain⟨a1,a2⟩:=ax_idx ok hle hp;have t:=turn_P hle hp fw;rw[hn] at t;rw[t,hd];by_cases c2:(e.p.d==fw)=true
   ·rw[if_pos c2,lb_R a2 he];unfold EnT.up;have:=eq_of_beq c2;subst this;cases e.p.d<;>rfl
   ·rw[if_neg c2];have hm:=Nat.mod_lt ((axisR (lsE z)).idxOf v+(axisR (lsE z)).length - 1) (show 0<(axisR (lsE z)).length by omega);obtain⟨u,hu⟩:=at_lt hm;obtain⟨l,u1,u2⟩:=axisR_mem.1 (List.mem_of_getElem? hu);obtain⟨y,hy,rfl⟩:=lsE_of u1;have hv':(axisR (lsE z))[(axisR (lsE z)).idxOf v]? =some v:=by
     obtain⟨q,hq⟩:=at_lt a1;rw[List.getD_eq_getElem?_getD,hq] at a2;rw[hq];exact congrArg some a2
    have:=(c.axis hl hu (by rw[mod_back a1];exact hv') hy he).2;rw[lb_L (by rw[List.getD_eq_getElem?_getD,hu];rfl) hy,this];unfold EnT.lo;revert c2;cases e.p.d<;>cases fw<;>simp[flS]
  ·obtain⟨b1,m,hm,mc,mi,mo,ms⟩:=otherR_back ok.cr hle hc;obtain⟨y,hy,rfl⟩:=lsE_of hm;have hne:v≠otherR (lsE z) v:=by
    intro ee;rw[← ee,hle] at hm;have:=Option.some.inj hm;rw[← this] at mo;revert mo;cases e.k.over<;>simp
   obtain⟨_,_,xa,xb,xc,xd⟩:=(c.pairs he hy hne).1 hc mc mi.symm;have t:=turn_C hle hc fw;rw[hn] at t;rw[t,lb_al h hy];unfold gX at xa xb;cases hg:(e.k.over==(e.k.sign==1))<;>rw[hg] at xa xb<;>simp only[Bool.false_eq_true,if_false,if_true] at xa xb<;>cases fw<;>simp_all
 ·have hk:(x - 2*z.length)/2<(axisR (lsE z)).length:=by omega
  obtain⟨u,hu⟩:=at_lt hk;obtain⟨l,u1,u2⟩:=axisR_mem.1 (List.mem_of_getElem? hu);obtain⟨e,he,rfl⟩:=lsE_of u1;have hgu:(axisR (lsE z)).getD ((x - 2*z.length)/2) 0=u:=by rw[List.getD_eq_getElem?_getD,hu];rfl
  rcases Nat.mod_two_eq_zero_or_one x with hx2|hx2
  ·have ex:x=2*z.length+2*((x - 2*z.length)/2):=by omega
   have hm:=Nat.mod_lt ((x - 2*z.length)/2+1) (show 0<(axisR (lsE z)).length by omega);obtain⟨w,hw⟩:=at_lt hm;obtain⟨l,w1,w2⟩:=axisR_mem.1 (List.mem_of_getElem? hw);obtain⟨y,hy,rfl⟩:=lsE_of w1;have hgw:(axisR (lsE z)).getD (((x - 2*z.length)/2+1)%(axisR (lsE z)).length) 0=w:=by rw[List.getD_eq_getElem?_getD,hw];rfl
   have oy:=c.ok y (List.mem_of_getElem? hy);have hd:dn (lsE z) w=y.p.d:=by
    have:=(hdn w y hy).1;rw[(oy.pb w2).2] at this;revert this;cases y.p.d<;>cases dn (lsE z) w<;>simp
   have t:=turn_R (ls:=lsE z) ((x - 2*z.length)/2);rw[hn,← ex] at t;rw[t,hgw,lb_al h hy,hd];have a:=(c.axis hl hu hw he hy).1;have r:=lb_R hgu he;rw[← ex] at r;rw[r,a];unfold EnT.up;cases y.p.d<;>simp[flS]
  ·have ex:x=2*z.length+2*((x - 2*z.length)/2)+1:=by omega
   have oy:=c.ok e (List.mem_of_getElem? he);have hd:dn (lsE z) u=e.p.d:=by
    have:=(hdn u e he).1;rw[(oy.pb u2).2] at this;revert this;cases e.p.d<;>cases dn (lsE z) u<;>simp
   have t:=turn_L (ls:=lsE z) ((x - 2*z.length)/2);rw[hn,← ex] at t;rw[t,hgu,lb_al h he,hd];have r:=lb_L hgu he;rw[← ex] at r;rw[r];unfold EnT.lo;cases e.p.d<;>simp[flS]
theorem Cz.check{T B:Nat→Nat→Nat}{S:List Nat}(c:Cz F z T B S){x:EnT}{r:List EnT}(hz:z=x::r)(hp:x.k.isP=true)(hd:x.p.d=true)(hl:z.length≤400)(hcr:cnt Let.isC (lsE z)≤200)(hF:F≤40):checkR F (lsE z)=0:=by
 have ok:=c.dg (by omega);have hn:(lsE z).length=z.length:=List.length_map ..;obtain⟨s,h⟩:=c.path;have hx0:z[0]? =some x:=by rw[hz];rfl
 have hs:s.b=false:=by
  rw[← path_head h hx0,((c.ok x (List.mem_of_getElem? hx0)).pb hp).2,hd];rfl
 have hpos:0<z.length:=by rw[hz];simp
 have hdn:=path_dn c.ok h hs;have hev:cnt Let.isP (lsE z)%2=0:=by
  obtain⟨y,hy⟩:=at_lt (ls:=z) (k:=z.length - 1) (by omega);have:=(hdn _ y hy).2;rw[path_last h hy,hs,show z.length - 1+1=(lsE z).length by rw[hn];omega] at this;unfold dn at this;rw[List.take_length] at this
  simpa using this
 have hnw:nWalks (lsE z)=cnt Let.isP (lsE z)+cnt Let.isC (lsE z)/2+2:=by
  obtain⟨b1,b2⟩:=faces_bound ok;have key: ∀ a∈S,∃ d,lbE z d=a∧d<2*z.length:=fun a ha=>by
   obtain⟨y,hy,e⟩:=c.wit a ha;obtain⟨j,hj⟩:=List.getElem?_of_mem hy;have hjl:=(List.getElem?_eq_some_iff.1 hj).1;rcases e with e|e
   ·exact⟨2*j,by unfold lbE;rw[if_pos (by omega),if_pos (by omega),show 2*j/2=j by omega,getD_of hj,e],by omega⟩
   ·exact⟨2*j+1,by unfold lbE;rw[if_pos (by omega),if_neg (by omega),show(2*j+1)/2=j by omega,getD_of hj,e],by omega⟩
  obtain⟨M,m1,m2⟩:=list_choose (P:=fun a d=>lbE z d=a∧d<2*z.length) (f:=lbE z) (fun a d h=>h.1) key;have hN:nD (lsE z)=2*z.length+2*(axisR (lsE z)).length:=by unfold nD;rw[hn]
  have:=walks_ge (maps ok) (φ:=lbE z) (fun y hy=>c.walk (by omega) h hs hy) (reps:=M) (fun d hd=>by
   obtain⟨_,_,h⟩:=m2 d hd;omega) (by rw[m1];exact c.nd)
  have hM:M.length=S.length:=by rw[← m1,List.length_map]
  have hnum:=c.num;have:M.length≤nWalks (lsE z):=this;omega
 have hne:lsE z≠[]:=by
  intro e;rw[e] at hn;simp at hn;omega
 unfold checkR;rw[if_neg (by rw[hn];omega),if_neg (by omega),if_neg hne,if_pos];unfold validR;have hrk:=(ranks_iff c.gates).2 ⟨ok.ax.good,ok.ax.inj⟩;have hbad:(lsE z).any (badL F)=false:=List.any_eq_false.2 fun l hl=>by
  obtain⟨y,hy,rfl⟩:=List.mem_map.1 hl;rw[(c.ok y hy).bad];decide
 rw[lsE_at hx0,letters_law.2 ⟨hbad,hrk,ok.cr⟩,hnw,hev];have hk:(x.k.kind==1)=true:=hp;simp only[hk,beq_self_eq_true,Bool.and_self]
theorem Cert.check{l:List Pc}(c:Cert F l)(hl:l.length≤400)(hcr:cnt Let.isC (l.map Pc.l)≤200)(hF:F≤40):checkR F (finL l)=0:=by
 obtain⟨w,T,B,S,x,r,hz,hp,hd,hls,hlen,cz⟩:=c.fin;have hperm:cnt Let.isC (lsE w)=cnt Let.isC (l.map Pc.l):=by
  rw[hls];have hf:(firstD l).getD 0≤l.length:=by
   cases h:firstD l with
   |none=>exact Nat.zero_le _
   |some f=>
    have:=List.mem_of_find?_eq_some h;simp at this;simp only[Option.getD_some];omega
  unfold finL;rw[rot_eq2 hf];show List.countP _ _=List.countP _ _;rw[List.map_append,List.countP_append,Nat.add_comm,← List.countP_append,← List.map_append,List.take_append_drop]
 rw[← hls];exact cz.check hz hp hd (by omega) (by omega) hF
end
end Go.Abs
