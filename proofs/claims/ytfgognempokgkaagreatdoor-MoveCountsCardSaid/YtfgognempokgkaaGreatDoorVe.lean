/-
  Walks around faces.
-/
import Derived.Test.YtfgognempokgkaaGreatDoorRa
set_option linter.all false
set_option maxHeartbeats 16000000
namespace Go.Abs
inductive tR (R:Nat->Nat->Prop):Nat->Nat->Prop
 |rel {a b:Nat}:R a b->tR R a b
 |refl (a:Nat):tR R a a
 |symm {a b:Nat}:tR R a b->tR R b a
 |trans {a b c:Nat}:tR R a b->tR R b c->tR R a c
theorem tR.mono{R R':Nat->Nat->Prop}(h:∀a b,R a b->tR R' a b){x y:Nat}(e:tR R x y):tR R' x y:=by
 induction e with
 |rel r=>exact h _ _ r
 |refl a=>exact .refl a
 |symm _ ih=>exact .symm ih
 |trans _ _ i1 i2=>exact .trans i1 i2
def ld (E:Nat->Nat->Prop)(x:Nat):Prop:=∀y,E x y->x<=y
noncomputable def ldB (E:Nat->Nat->Prop) (x:Nat):Bool:= @decide (ld E x) (Classical.propDecidable _)
noncomputable def K (E:Nat->Nat->Prop) (n:Nat):Nat:=(List.range n).countP (ldB E)
structure Perm (n:Nat) (p:Nat->Nat):Prop where
 lt:∀x,x<n->p x<n
 inj:∀x y,x<n->y<n->p x=p y->x=y
abbrev gr(n:Nat)(p:Nat->Nat)(x y:Nat):Prop:=x<n/\y=p x
def it (p:Nat->Nat):Nat->Nat->Nat
 |0,x=>x
 |k+1,x=>p (it p k x)
theorem V2:∀(L M:List Nat),L.Nodup->(∀x∈L,x∈M)->L.length<=M.length:=by
 intro L
 induction L with
 |nil=>intro M _ _;exact bc _
 |cons a L ih=>intro M hn hs;obtain⟨h1,h2⟩:=DK.1 hn;have ha:=hs a af;have:=ih (M.erase a) h2 fun x hx=>(List.mem_erase_of_ne (by rintro rfl;exact h1 hx)).2 (hs x (by simp[hx]));rw[List.length_erase_of_mem ha] at this;have:0<M.length:=List.length_pos_of_mem ha;simp only[dN];omega
def rv (x:Nat):Nat:=if x%2=0 then x+1 else x-1
theorem rv0(k:Nat):rv (2*k)=2*k+1:=by unfold rv;rw[if_pos aa]
theorem rv1(k:Nat):rv (2*k+1)=2*k:=by unfold rv;rw[if_neg aa];rfl
theorem aeR(x:Nat):rv (rv x)=x:=by
 rcases DM x with h|h
 .rw[show x=2*(x/2) by omega,rv0,rv1]
 rw[show x=2*(x/2)+1 by omega,rv1,rv0]
theorem aeQ{x m:Nat}(h:x<2*m):rv x<2*m:=by unfold rv;split<;>omega
theorem aeP(n v:Nat)(g:Bool):rv (gn n v g)=kO n v (!g):=by
 cases g with
 |true=>exact rv0 _
 |false=>exact rv1 _
theorem Jz{n v:Nat}(hv:v<n)(g:Bool):kO n v g<2*n:=by have:=eJ (v+n-1) (show 0<n by omega);unfold kO;split<;>omega
theorem XD{n x:Nat}(hx:x<2*n):x=kO n (if x%2=0 then (x/2+1)%n else x/2) (x%2==0):=by
 unfold kO;rcases DM x with h|h
 .simp only[h,beq_self_eq_true,if_true];rw[Io aa];omega
 simp only[h,show((1:Nat)==0)=false from rfl,iF,if_false,Nat.one_ne_zero];omega
section
variable {F:Nat} {ls:List Let}
theorem Wi{v:Nat}{l:Let}(hl:ls[v]?=some l)(fw:Bool):bR ls (kO ls.length v fw)=if l.kind==2 then gn ls.length (fL ls v) (fw==(l.over==(l.sign==1)))
   else if dn ls v==fw then 2*ls.length+2*(aD ls).idxOf v else 2*ls.length+2*(((aD ls).idxOf v+(aD ls).length-1)%(aD ls).length)+1:=by
 have hv:=(bn.1 hl).1;have au:=Jz hv fw;refine We aa ?_ ?_ hl
 .unfold kO;cases fw<;>simp
 unfold kO;cases fw with
 |true=>simp only[if_true];rw[show 2*((v+ls.length-1)%ls.length)/2=(v+ls.length-1)%ls.length by omega,y8 hv]
 |false=>simp only[iF,if_false];omega
theorem GL{v:Nat}{l:Let}(hl:ls[v]?=some l)(hc:l.aC=true)(fw:Bool):bR ls (kO ls.length v fw)=gn ls.length (fL ls v) (fw==(l.over==(l.sign==1))):=by rw[Wi hl];unfold Let.aC at hc;rw[if_pos hc]
theorem Wg{v:Nat}{l:Let}(hl:ls[v]?=some l)(hp:l.aG=true)(fw:Bool):bR ls (kO ls.length v fw)=if dn ls v==fw then 2*ls.length+2*(aD ls).idxOf v else 2*ls.length+2*(((aD ls).idxOf v+(aD ls).length-1)%(aD ls).length)+1:=by have:=Iv hp;unfold Let.aC at this;rw[Wi hl,if_neg (by rw[this];decide)]
theorem Wh(k:Nat):bR ls (2*ls.length+2*k)=gn ls.length ((aD ls).getD ((k+1)%(aD ls).length) 0) (!dn ls ((aD ls).getD ((k+1)%(aD ls).length) 0)):=by show eL _ _ _=_;unfold eL;rw[if_pos aa,if_pos aa,show(2*ls.length+2*k-2*ls.length)/2=k by omega]
theorem Wf(k:Nat):bR ls (2*ls.length+2*k+1)=gn ls.length ((aD ls).getD k 0) (dn ls ((aD ls).getD k 0)):=by show eL _ _ _=_;unfold eL;rw[if_pos aa,if_neg aa,show(2*ls.length+2*k+1-2*ls.length)/2=k by omega]
theorem Pa{v:Nat}{l:Let}(ok:gU F ls)(hl:ls[v]?=some l)(hp:l.aG=true):(aD ls).idxOf v<(aD ls).length/\(aD ls).getD ((aD ls).idxOf v) 0=v:=by have h1:=JC ok.ax hl hp;rw[BO ok.ax hl hp];exact⟨(bn.1 h1).1,by rw[cP,h1];rfl⟩
end
theorem ag3{next:Nat->Nat}{n2 N:Nat}(m:xY next n2 N):∀k,k<=n2->∀w∈(cR next N k).1,∀x∈w,next x∈w:=by
 intro k
 induction k with
 |zero=>intro _ w hw;simp[cR] at hw
 |succ k ih=>
  intro hk w hw x hx;obtain⟨c0,_⟩:=Jg m k aa;obtain⟨c1,_⟩:=Jg m (k+1) hk;rw[uR] at hw c1;unfold rq at hw c1;cases hs:(cR next N k).2.getD k true with
  |true=>rw[hs,if_pos rfl] at hw;exact ih aa w hw x hx
  |false=>
   rw[hs,if_neg ae] at hw c1;rcases fk.1 hw with hw|hw
   .exact ih aa w hw x hx
   simp only[sK] at hw;subst hw;obtain⟨g1,g2,g3⟩:=Wp next ((cR next N k).2.length+1) k (cR next N k).2;have vp:x<N:=by have:=I0 (g1 x hx);have:=Bh next N k;omega
   have e0:=c0 x vp;have e1:=c1 x vp;rw[g3,g3,g1 x hx] at e1;rw[g1 x hx] at e0;simp only[xM,hx,decide_true,<- e0] at e1;exact of_decide_eq_true e1.symm
theorem Wr{next:Nat->Nat}{n2 N:Nat}(m:xY next n2 N){w:List Nat}(hw:w∈lN next N){x:Nat}(hx:x∈w):next x∈w:=by unfold lN at hw;rw[Ov m N m.le (bo _)] at hw;exact ag3 m n2 (bo _) w hw x hx
def Wv(L:List (List Nat))(x:Nat):Nat:=L.findIdx fun w=>w.contains x
theorem ag7{L:List (List Nat)}(h:L.flatten.Nodup){i x:Nat}{w:List Nat}(hi:L[i]?=some w)(hx:x∈w):Wv L x=i:=by
 have hm:w.contains x=true:=by simpa using hx
 have au:L.findIdx (fun w=>w.contains x)<L.length:=List.findIdx_lt_length_of_exists ⟨w,ba hi,hm⟩;have hp:=List.findIdx_getElem (w:=au);have hj:L[L.findIdx fun w=>w.contains x]?=some (L[L.findIdx fun w=>w.contains x]'au):=ry au;exact Uh h hj hi (by simpa using hp) hx
section
variable {F:Nat} {ls:List Let}
end
section
variable {F:Nat} {ls:List Let} {p:Nat->Bool}
end
section
variable {F:Nat} {ls:List Let}
end

end Go.Abs
