/-
  No face has both sides of an edge.
-/
import Derived.Test.YtjjdebhkbfeniaaGreatDoorVe
set_option linter.unusedSimpArgs false
set_option linter.unusedVariables false
set_option linter.unusedSectionVars false
set_option maxHeartbeats 16000000
namespace Go.Abs
def fx (b:Bool)(s:Nat):Nat:=if b then 1 - s else s
theorem fx_lt{b:Bool}{s:Nat}(h:s<2):fx b s<2:=by unfold fx;split<;>omega
theorem fx_fx{b:Bool}{s:Nat}(h:s<2):fx b (fx b s)=s:=by unfold fx;cases b<;>simp;omega
def alC(p:Nat→Bool)(y:Nat):Nat:=2*rv (y/2)+fx (p (y/2)) (y%2)
def sgC(p:Nat→Bool)(nx:Nat→Nat)(y:Nat):Nat:=2*nx (rv (y/2))+fx (p (y/2)) (y%2)
def tsC(p:Nat→Bool)(k:Nat):List (Nat × Nat):=(List.range k).flatMap fun e=>[(4*e,alC p (4*e)),(4*e+1,alC p (4*e+1))]
theorem alC_0(p:Nat→Bool)(e:Nat):alC p (4*e)=if p (2*e) then 4*e+3 else 4*e+2:=by
 unfold alC fx;rw[show 4*e/2=2*e by omega,rv0,show 4*e%2=0 by omega];split<;>omega
theorem alC_1(p:Nat→Bool)(e:Nat):alC p (4*e+1)=if p (2*e) then 4*e+2 else 4*e+3:=by
 unfold alC fx;rw[show(4*e+1)/2=2*e by omega,rv0,show(4*e+1)%2=1 by omega];split<;>omega
theorem alC_2{p:Nat→Bool}(hp: ∀ x,p (rv x)=p x)(e:Nat):alC p (4*e+2)=if p (2*e) then 4*e+1 else 4*e:=by
 unfold alC fx;rw[show(4*e+2)/2=2*e+1 by omega,rv1,show(4*e+2)%2=0 by omega,← hp (2*e),rv0];split<;>omega
theorem alC_3{p:Nat→Bool}(hp: ∀ x,p (rv x)=p x)(e:Nat):alC p (4*e+3)=if p (2*e) then 4*e else 4*e+1:=by
 unfold alC fx;rw[show(4*e+3)/2=2*e+1 by omega,rv1,show(4*e+3)%2=1 by omega,← hp (2*e),rv0];split<;>omega
theorem tsC_mem(p:Nat→Bool){k e:Nat}(h:e<k):(4*e,alC p (4*e))∈tsC p k∧(4*e+1,alC p (4*e+1))∈tsC p k:=
 ⟨List.mem_flatMap.2 ⟨e,List.mem_range.2 h,by simp⟩,List.mem_flatMap.2 ⟨e,List.mem_range.2 h,by simp⟩⟩
theorem list_choose{α β:Type}{P:α→β→Prop}{f:β→α}(hf: ∀ a b,P a b→f b=a): ∀ {L:List α},(∀ a∈L,∃ b,P a b)→ ∃ M:List β,M.map f=L∧ ∀ b∈M,∃ a∈L,P a b:=by
 intro L
 induction L with
 |nil=>intro _;exact⟨[],rfl,by simp⟩
 |cons a L ih=>
  intro h;obtain⟨b,hb⟩:=h a (by simp);obtain⟨M,h1,h2⟩:=ih fun x hx=>h x (by simp[hx])
  refine⟨b::M,by rw[List.map_cons,h1,hf a b hb],fun x hx=> ?_⟩;rcases List.mem_cons.1 hx with rfl|hx
  ·exact⟨a,by simp,hb⟩
  ·obtain⟨c,hc,hp⟩:=h2 x hx;exact⟨c,by simp[hc],hp⟩
section
variable {F:Nat} {ls:List Let}
theorem axisR_nodup(ok:dgOK F ls):(axisR ls).Nodup:=by
 have:=axisK_sorted ok.ax ls.length (Nat.le_refl _);refine List.Pairwise.imp (fun {a b} h e=> ?_) this;subst e;exact absurd h (Nat.lt_irrefl _)
theorem len_PC(ok:dgOK F ls):ls.length=cnt Let.isP ls+cnt Let.isC ls:=by
 have: ∀ l:List Let,(∀ x∈l,x.isP=true∨x.isC=true)→l.length=cnt Let.isP l+cnt Let.isC l:=by
  intro l
  induction l with
  |nil=>intro _;rfl
  |cons a l ih=>
   intro h;have ih:=ih fun x hx=>h x (by simp[hx])
   unfold cnt at ih ⊢;rw[List.countP_cons,List.countP_cons,List.length_cons,ih];rcases h a (by simp) with c|c
   ·rw[c,notBoth c];simp;omega
   ·have:a.isP=false:=by cases hp:a.isP;rfl;rw[notBoth hp] at c;cases c
    rw[c,this];simp;omega
 exact this ls ok.kinds
theorem vertices(ok:dgOK F ls): ∃ L:List Nat,L.length=cnt Let.isP ls+cnt Let.isC ls/2∧(∀ j∈L,j<ls.length)∧(L.map (vlL ls)).Nodup:=by
 have hc:=ok.cr;unfold crossR at hc;simp only[Bool.and_eq_true,beq_iff_eq] at hc;have hid:=hc.2
 let ids:List (Int × Int):=(idsK ls ls.length).map fun id=>(1,id)
 have hcho: ∀ a∈ids,∃ j,(vlL ls j=a∧j<ls.length):=by
  intro a ha;obtain⟨id,hi,rfl⟩:=List.mem_map.1 ha;obtain⟨j,o,hj,hh⟩:=(ids_mem (Nat.le_refl _)).1 hi;obtain⟨m,hm,mc,mi,_⟩:=hit_some hh;refine⟨j,?_,hj⟩;unfold vlL;rw[hm];simp[mc,mi]
 obtain⟨M,m1,m2⟩:=list_choose (P:=fun a j=>vlL ls j=a∧j<ls.length) (f:=vlL ls) (fun a b h=>h.1) hcho;have hax: ∀ i∈axisR ls,i<ls.length∧vlL ls i=(0,(i:Int)):=fun i hi=>by
  obtain⟨l,hl,hp⟩:=axisR_mem.1 hi;refine⟨(List.getElem?_eq_some_iff.1 hl).1,?_⟩;unfold vlL;rw[hl];simp[notBoth hp]
 refine⟨axisR ls++M,?_,fun j hj=> ?_,?_⟩
 ·have:M.length=(idsK ls ls.length).length:=by
   have:=congrArg List.length m1
   simpa [ids] using this
  rw[List.length_append,this,hid,axisR_len]
 ·rcases List.mem_append.1 hj with hj|hj
  ·exact(hax j hj).1
  ·obtain⟨_,_,h⟩:=m2 j hj;exact h.2
 ·rw[List.map_append,m1,List.nodup_append];refine⟨?_,?_,?_⟩
  ·have:(axisR ls).map (vlL ls)=(axisR ls).map fun i:Nat=>((0:Int),(i:Int)):=List.map_congr_left fun i hi=>(hax i hi).2
   rw[this];refine List.pairwise_map.2 (List.Pairwise.imp (fun {a b} h e=>h ?_) (axisR_nodup ok));have:=congrArg Prod.snd e;simp only at this;omega
  ·refine List.pairwise_map.2 (List.Pairwise.imp (fun {a b} h e=>h ?_) (ids_nodup ls ls.length));exact congrArg Prod.snd e
  ·intro a ha b hb e;obtain⟨i,hi,rfl⟩:=List.mem_map.1 ha;obtain⟨id,_,rfl⟩:=List.mem_map.1 hb;rw[(hax i hi).2] at e;have:=congrArg Prod.fst e;simp at this
end
section
variable {F:Nat} {ls:List Let} {p:Nat→Bool}
abbrev cvR(ls:List Let)(p:Nat→Bool):Nat→Nat→Prop:=grT (2*nD ls) (sgC p (nxt ls)) (tsC p (ls.length+(axisR ls).length))
theorem nD_eq(ls:List Let):nD ls=2*(ls.length+(axisR ls).length):=by unfold nD;omega
theorem cv_al(hp: ∀ x,p (rv x)=p x){y:Nat}(hy:y<2*nD ls):Eqv (cvR ls p) y (alC p y):=by
 have hN:=nD_eq ls;obtain⟨h1,h2⟩:=tsC_mem p (k:=ls.length+(axisR ls).length) (e:=y/4) (by omega);have r1:Eqv (cvR ls p) (4*(y/4)) (alC p (4*(y/4))):= .rel (.inr h1);have r2:Eqv (cvR ls p) (4*(y/4)+1) (alC p (4*(y/4)+1)):= .rel (.inr h2);have a2:=alC_2 hp (y/4);have a3:=alC_3 hp (y/4);rcases(by omega:y=4*(y/4)∨y=4*(y/4)+1∨y=4*(y/4)+2∨y=4*(y/4)+3) with e|e|e|e
 ·rw[← e] at r1;exact r1
 ·rw[← e] at r2;exact r2
 ·rw[← e] at a2;rw[a2];rw[alC_0] at r1;rw[alC_1] at r2;by_cases c:p (2*(y/4))=true
  ·rw[if_pos c] at r2 ⊢;rw[← e] at r2;exact r2.symm
  ·rw[if_neg c] at r1 ⊢;rw[← e] at r1;exact r1.symm
 ·rw[← e] at a3;rw[a3];rw[alC_0] at r1;rw[alC_1] at r2;by_cases c:p (2*(y/4))=true
  ·rw[if_pos c] at r1 ⊢;rw[← e] at r1;exact r1.symm
  ·rw[if_neg c] at r2 ⊢;rw[← e] at r2;exact r2.symm
theorem cv_rev(hp: ∀ x,p (rv x)=p x){x s:Nat}(hx:x<nD ls)(hs:s<2):Eqv (cvR ls p) (2*x+s) (2*rv x+fx (p x) s):=by
 have:=cv_al (ls:=ls) hp (y:=2*x+s) (by omega);unfold alC at this;rwa[show(2*x+s)/2=x by omega,show(2*x+s)%2=s by omega] at this
theorem cv_next(hp: ∀ x,p (rv x)=p x){x s:Nat}(hx:x<nD ls)(hs:s<2):Eqv (cvR ls p) (2*x+s) (2*nxt ls x+s):=by
 have hN:=nD_eq ls;have hf:fx (p x) s<2:=fx_lt hs;refine(cv_rev hp hx hs).trans (.rel (.inl ⟨?_,?_⟩))
 ·have:rv x<nD ls:=by rw[hN];exact rv_lt (by omega)
  omega
 ·unfold sgC;rw[show(2*rv x+fx (p x) s)/2=rv x by omega,show(2*rv x+fx (p x) s)%2=fx (p x) s by omega,rv_rv,hp,fx_fx hs]
def gdC(ls:List Let)(p:Nat→Bool)(x:Nat):Prop:= ∃ b,∀ s,s<2→Eqv (cvR ls p) (2*x+s) (fx b s)
theorem gd_zero(ls:List Let)(p:Nat→Bool):gdC ls p 0:=⟨false,fun s _=>by rw[show 2*0+s=s by omega];exact .refl _⟩
theorem fx_comp(a b:Bool){s:Nat}(h:s<2):fx a (fx b s)=fx (a !=b) s:=by unfold fx;cases a<;>cases b<;>simp;omega
theorem gd_rev(hp: ∀ x,p (rv x)=p x){x:Nat}(hx:x<nD ls)(h:gdC ls p x):gdC ls p (rv x):=by
 obtain⟨b,h⟩:=h;refine⟨b !=p x,fun s hs=> ?_⟩;have h1:=(cv_rev hp hx (s:=fx (p x) s) (fx_lt hs)).symm.trans (h (fx (p x) s) (fx_lt hs));rwa[fx_fx hs,fx_comp _ _ hs] at h1
theorem gd_next(hp: ∀ x,p (rv x)=p x){x:Nat}(hx:x<nD ls)(h:gdC ls p x):gdC ls p (nxt ls x):=by
 obtain⟨t,h⟩:=h;exact⟨t,fun s hs=>(cv_next hp hx hs).symm.trans (h s hs)⟩
theorem gd_prev(hp: ∀ x,p (rv x)=p x){x:Nat}(hx:x<nD ls)(h:gdC ls p (nxt ls x)):gdC ls p x:=by
 obtain⟨t,h⟩:=h;exact⟨t,fun s hs=>(cv_next hp hx hs).trans (h s hs)⟩
theorem gd_all(hp: ∀ x,p (rv x)=p x)(ok:dgOK F ls){x:Nat}(hx:x<nD ls):gdC ls p x:=by
 have m:=maps ok;have hN:=nD_eq ls;have hrv: ∀ y,y<nD ls→rv y<nD ls:=fun y hy=>by rw[hN] at hy ⊢;exact rv_lt hy
 have fwd: ∀ i,i<ls.length→gdC ls p (2*i):=by
  intro i
  induction i with
  |zero=>intro _;exact gd_zero ls p
  |succ i ih=>
   intro hi;have h0:=ih (by omega);have h2:2*i<nD ls:=by omega
   have h3:=gd_next hp h2 h0;have h4:=m.lt _ h2;have h5:=gd_next hp (hrv _ h4) (gd_rev hp h4 h3);have e:2*i=arrD ls.length (i+1) true:=by unfold arrD;rw[if_pos rfl,show i+1+ls.length - 1=i+ls.length by omega,Nat.add_mod_right,Nat.mod_eq_of_lt (by omega)]
   rw[e,straight ok hi] at h5;exact h5
 have str: ∀ y,y<2*ls.length→gdC ls p y:=fun y hy=>by
  rcases Nat.mod_two_eq_zero_or_one y with c|c
  ·rw[show y=2*(y/2) by omega];exact fwd _ (by omega)
  ·have:=gd_rev hp (x:=2*(y/2)) (by omega) (fwd (y/2) (by omega));rw[rv0] at this;rw[show y=2*(y/2)+1 by omega];exact this
 rcases Nat.lt_or_ge x (2*ls.length) with c|c
 ·exact str x c
 ·exact gd_prev hp hx (str _ (m.ax x hx c))
end
section
variable {F:Nat} {ls:List Let}
end
theorem walks_ge{next:Nat→Nat}{n2 N:Nat}(m:Maps next n2 N){α:Type}{φ:Nat→α}(hφ: ∀ x,x<N→φ (next x)=φ x){reps:List Nat}(hr: ∀ x∈reps,x<N)(hn:(reps.map φ).Nodup):reps.length≤(walksL next N).length:=by
 have hpart:=walksL_part next N;have hin: ∀ x,x<N→ ∃ (i:Nat) (w:List Nat),(walksL next N)[i]? =some w∧x∈w∧widx (walksL next N) x=i:=fun x hx=>by
  obtain⟨w,hw,hxw⟩:=List.mem_flatten.1 (hpart.2 x hx);obtain⟨i,hi⟩:=List.getElem?_of_mem hw;exact⟨i,w,hi,hxw,widx_of hpart.1 hi hxw⟩
 have hcon: ∀ a b,Eqv (fun x y=>x<N∧y=next x) a b→φ a=φ b:=fun a b h=>by
  induction h with
  |rel h=>rw[h.2,hφ _ h.1]
  |refl _=>rfl
  |symm _ ih=>exact ih.symm
  |trans _ _ h1 h2=>exact h1.trans h2
 have hsame: ∀ x,x<N→ ∀ y,y<N→widx (walksL next N) x=widx (walksL next N) y→φ x=φ y:=fun x hx y hy e=>by
  obtain⟨i,w,hi,hxw,e1⟩:=hin x hx;obtain⟨j,v,hj,hyv,e2⟩:=hin y hy;rw[e1,e2] at e;subst e;rw[hi] at hj;cases hj
  exact hcon x y (walksL_joined m (R:=fun x y=>x<N∧y=next x) (fun z hz=> .rel ⟨hz,rfl⟩) (List.mem_of_getElem? hi) hxw hyv)
 have h1:(reps.map (widx (walksL next N))).Nodup:=by
  unfold List.Nodup at hn ⊢;rw[List.pairwise_map] at hn ⊢;refine hn.imp_of_mem fun {x y} hx hy h e=> ?_
  exact h (hsame x (hr x hx) y (hr y hy) e)
 have h2: ∀ i∈reps.map (widx (walksL next N)),i∈List.range (walksL next N).length:=fun i hi=>by
  obtain⟨x,hx,rfl⟩:=List.mem_map.1 hi;obtain⟨i,w,hi,_,e⟩:=hin x (hr x hx);rw[e];exact List.mem_range.2 (List.getElem?_eq_some_iff.1 hi).1
 have:=sub_len _ _ h1 h2;rwa[List.length_map,List.length_range] at this
end Go.Abs
