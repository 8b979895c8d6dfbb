/-
  A part of a proof.
-/
import Derived.Test.YtjjdebhkbfeniaaGreatDoorWh
set_option linter.unusedSimpArgs false
set_option linter.unusedVariables false
set_option linter.unusedSectionVars false
set_option maxRecDepth 100000
set_option maxHeartbeats 16000000
namespace Go.Abs
section
variable{F:Nat}{ls:List Let}
def arrD(n v:Nat)(fw:Bool):Nat:=if fw then 2*((v+n - 1)%n) else 2*v+1
def lvV(n e:Nat):Nat:=if e%2=0 then e/2 else (e/2+1)%n
theorem mod_back{n v:Nat}(hv:v<n):((v+n - 1)%n+1)%n=v:=by
 by_cases h:v=0
 ·subst h;rw[Nat.zero_add,Nat.mod_eq_of_lt (show n - 1<n by omega),show n - 1+1=n by omega,Nat.mod_self]
 ·rw[show v+n - 1=(v - 1)+n by omega,Nat.add_mod_right,Nat.mod_eq_of_lt (show v - 1<n by omega),show v - 1+1=v by omega,Nat.mod_eq_of_lt hv]
theorem mod_fore{n v:Nat}(hv:v<n):((v+1)%n+n - 1)%n=v:=by
 by_cases h:v+1=n
 ·rw[h,Nat.mod_self,Nat.zero_add,Nat.mod_eq_of_lt (show n - 1<n by omega)];omega
 ·rw[Nat.mod_eq_of_lt (show v+1<n by omega),show v+1+n - 1=v+n by omega,Nat.add_mod_right,Nat.mod_eq_of_lt hv]
theorem lv_along{n v:Nat}(hv:v<n)(g:Bool):lvV n (alongD n v g)=v∧(alongD n v g%2==0)=g:=by
 unfold lvV alongD;cases g with
 |true=>
  have h1:(2*v)%2=0:=by omega
  simp only[if_true,h1];exact⟨by omega,rfl⟩
 |false=>
  have h1:(2*((v+n - 1)%n)+1)%2=1:=by omega
  have h2:(2*((v+n - 1)%n)+1)/2=(v+n - 1)%n:=by omega
  simp only[Bool.false_eq_true,if_false,h1,h2,Nat.one_ne_zero,mod_back hv];exact⟨trivial,rfl⟩
def prevD(ls:List Let)(ax:List Nat)(e:Nat):Nat:=
 if 2*ls.length≤e then
  if e%2=0 then arrD ls.length (ax.getD ((e - 2*ls.length)/2) 0) (dn ls (ax.getD ((e - 2*ls.length)/2) 0))
  else arrD ls.length (ax.getD (((e - 2*ls.length)/2+1)%ax.length) 0) (!dn ls (ax.getD (((e - 2*ls.length)/2+1)%ax.length) 0))
 else
  let v:=lvV ls.length e
  let g:=e%2==0
  match ls[v]? with
  |none=>0
  |some l=>if l.kind==2 then
    match ls[otherR ls v]? with
    |some u=>arrD ls.length (otherR ls v) (g==(u.over==(u.sign==1)))
    |none=>0
   else if g==dn ls v then 2*ls.length+2*ax.idxOf v+1 else 2*ls.length+2*((ax.idxOf v+ax.length - 1)%ax.length)
theorem otherR_back(hr:crossR ls=true){i:Nat}{l:Let}(hl:ls[i]? =some l)(hc:l.isC=true):otherR ls (otherR ls i)=i∧ ∃ m,ls[otherR ls i]? =some m∧m.isC=true∧m.id=l.id∧m.over= !l.over∧m.sign=l.sign:=by
 obtain⟨h1,h2⟩:=other_law hr hl hc;obtain⟨_,h3⟩:=visJ_some h1;obtain⟨m,hm,mc,mi,mo⟩:=hit_some h3;have hp:pairsOK ls:=by
  have:=hr;unfold crossR at this;simp only[Bool.and_eq_true,beq_iff_eq,List.all_eq_true,List.mem_range] at this;exact(x_all.1 this.1.2).2
 have hne:i≠otherR ls i:=by
  intro e;rw[← e,hl] at hm;cases hm
  revert mo;cases l.over<;>simp
 obtain⟨h4,h5⟩:=other_law hr hm mc;obtain⟨_,h6⟩:=visJ_some h4;obtain⟨x,hx,xc,xi,xo⟩:=hit_some h6;refine⟨?_,m,hm,mc,mi,mo,((hp i _ l m hl hm hc mc mi.symm hne).2).symm⟩;refine Decidable.byContradiction fun hn=> ?_
 have:=(hp _ i x l hx hl xc hc (by rw[xi,mi]) hn).1;rw[xo,mo] at this;revert this;cases l.over<;>simp
theorem turnD_str{ax:List Nat}{d v:Nat}{fw:Bool}{l:Let}(h: ¬ 2*ls.length≤d)(hfw:(d%2==0)=fw)(hv:v=if fw then (d/2+1)%ls.length else d/2)(hl:ls[v]? =some l):
  turnD ls ax d=if l.kind==2 then alongD ls.length (otherR ls v) (fw==(l.over==(l.sign==1)))
   else if dn ls v==fw then 2*ls.length+2*ax.idxOf v else 2*ls.length+2*((ax.idxOf v+ax.length - 1)%ax.length)+1:=by
 subst hfw;subst hv;unfold turnD;rw[if_neg h];simp only[hl]
theorem prev_turn(ok:dgOK F ls){d:Nat}(hd:d<2*ls.length+2*(axisR ls).length):prevD ls (axisR ls) (turnD ls (axisR ls) d)=d:=by
 have hax: ∀ x∈axisR ls,x<ls.length∧ ∃ l,ls[x]? =some l∧l.isP=true:=fun x hx=>by
  obtain⟨l,h1,h2⟩:=axisR_mem.1 hx;exact⟨(List.getElem?_eq_some_iff.1 h1).1,l,h1,h2⟩
 have hidx: ∀ {p v:Nat},(axisR ls)[p]? =some v→(axisR ls).idxOf v=p:=fun {p v} hp=>by
  obtain⟨l,hl,hlp,he⟩:=axis_at ok.ax hp;rw[axis_idx ok.ax hl hlp,he]
 have along_small: ∀ {v:Nat} (g:Bool),v<ls.length→ ¬ 2*ls.length≤alongD ls.length v g:=fun {v} g hv=>by
  have:=alongD_lt (n:=ls.length) (fw:=g) hv;omega
 have notC: ∀ {l:Let},l.isP=true→(l.kind==2)=false:=fun {l} h=>notBoth h
 have fromAxis: ∀ {p v:Nat} (g:Bool),(axisR ls)[p]? =some v→prevD ls (axisR ls) (alongD ls.length v g)=if g==dn ls v then 2*ls.length+2*p+1 else 2*ls.length+2*((p+(axisR ls).length - 1)%(axisR ls).length):=by
  intro p v g hp;obtain⟨hv,l,hl,hlp⟩:=hax v (List.mem_of_getElem? hp);obtain⟨e1,e2⟩:=lv_along hv g;unfold prevD;rw[if_neg (along_small g hv)];simp only[e1,e2,hl,notC hlp,hidx hp];rfl
 by_cases h:2*ls.length≤d
 ·unfold turnD;rw[if_pos h];have hm:=Nat.mod_lt ((d - 2*ls.length)/2+1) (show 0<(axisR ls).length by omega);by_cases h2:d%2=0
  ·rw[if_pos h2];obtain⟨v,hv⟩:=at_lt hm;have hv2:(axisR ls).getD (((d - 2*ls.length)/2+1)%(axisR ls).length) 0=v:=by rw[List.getD_eq_getElem?_getD,hv];rfl
   rw[hv2,fromAxis _ hv];have hb:((!dn ls v)==dn ls v)=false:=by cases dn ls v<;>rfl
   rw[hb,mod_fore (show(d - 2*ls.length)/2<(axisR ls).length by omega)];simp only[Bool.false_eq_true,if_false];omega
  ·rw[if_neg h2];obtain⟨v,hv⟩:=at_lt (ls:=axisR ls) (k:=(d - 2*ls.length)/2) (by omega);have hv2:(axisR ls).getD ((d - 2*ls.length)/2) 0=v:=by rw[List.getD_eq_getElem?_getD,hv];rfl
   rw[hv2,fromAxis _ hv];simp only[beq_self_eq_true,if_true];omega
 ·have hn:0<ls.length:=by omega
  have hm0:=Nat.mod_lt (d/2+1) hn;have key: ∀ (v:Nat) (fw:Bool),v<ls.length→(d%2==0)=fw→v=(if fw then (d/2+1)%ls.length else d/2)→arrD ls.length v fw=d:=by
   intro v fw hv hfw hvf;unfold arrD;cases fw with
   |true=>
    have hfw:d%2=0:=by simpa using hfw
    simp only[if_true] at hvf ⊢;rw[hvf,mod_fore (show d/2<ls.length by omega)];omega
   |false=>
    have hfw:d%2≠0:=by simpa using hfw
    simp only[Bool.false_eq_true,if_false] at hvf ⊢;omega
  generalize hv:(if (d%2==0)=true then (d/2+1)%ls.length else d/2)=v;generalize hfw:(d%2==0)=fw at hv;have hvl:v<ls.length:=by rw[← hv];split<;>omega
  have hkey:=key v fw hvl hfw hv.symm;obtain⟨l,hl⟩:=at_lt hvl;rw[turnD_str h hfw hv.symm hl];cases hk:(l.kind==2) with
  |true=>
   have hc:l.isC=true:=hk;obtain⟨hb,m,hm,mc,mi,mo,ms⟩:=otherR_back ok.cr hl hc;have hol:=(other_law ok.cr hl hc).2;rw[if_pos rfl];obtain⟨e1,e2⟩:=lv_along hol (fw==(l.over==(l.sign==1)));unfold prevD;rw[if_neg (along_small _ hol)];have mk:(m.kind==2)=true:=mc;simp only[e1,e2,hm,mk,if_true,hb,hl];have hbb:((fw==(l.over==(l.sign==1)))==(l.over==(l.sign==1)))=fw:=by
    cases fw<;>cases (l.over==(l.sign==1))<;>rfl
   rw[hbb];exact hkey
  |false=>
   have hp:=ok.kind1 hl hk;have hix:=axis_idx ok.ax hl hp;have hpl:=axis_place ok.ax hl hp;have hpT:=(List.getElem?_eq_some_iff.1 hpl).1;rw[if_neg (by simp),hix];cases hq:(dn ls v==fw) with
   |true=>
    simp only[if_true];unfold prevD;rw[if_pos (by omega),if_pos (by omega)];have e1:(2*ls.length+2*plOf ls l - 2*ls.length)/2=plOf ls l:=by omega
    have e2:(axisR ls).getD (plOf ls l) 0=v:=by rw[List.getD_eq_getElem?_getD,hpl];rfl
    rw[e1,e2,show dn ls v=fw by simpa using hq];exact hkey
   |false=>
    have hml:=Nat.mod_lt (plOf ls l+(axisR ls).length - 1) (show 0<(axisR ls).length by omega);simp only[Bool.false_eq_true,if_false];unfold prevD;rw[if_pos (by omega),if_neg (by omega)];have e1:(2*ls.length+2*((plOf ls l+(axisR ls).length - 1)%(axisR ls).length)+1 - 2*ls.length)/2=(plOf ls l+(axisR ls).length - 1)%(axisR ls).length:=by omega
    have e2:(axisR ls).getD (plOf ls l) 0=v:=by rw[List.getD_eq_getElem?_getD,hpl];rfl
    rw[e1,mod_back hpT,e2,show(!dn ls v)=fw by revert hq;cases dn ls v<;>cases fw<;>simp];exact hkey
theorem turn_inj(ok:dgOK F ls){d e:Nat}(hd:d<2*ls.length+2*(axisR ls).length)(he:e<2*ls.length+2*(axisR ls).length)(h:nxt ls d=nxt ls e):d=e:=by
 have h1:=prev_turn ok hd;have h2:=prev_turn ok he;rw[← h1,← h2];exact congrArg _ h
def pwF(next:Nat→Nat)(n2:Nat):Nat→Nat→List Bool→List Nat × List Bool
 |0,_,sp=>([],sp)
 |k+1,x,sp=>if x<n2 then
   if sp.getD x true then ([],sp) else (x::(pwF next n2 k (next x) (sp.set x true)).1,(pwF next n2 k (next x) (sp.set x true)).2)
  else (x::(pwF next n2 k (next x) sp).1,(pwF next n2 k (next x) sp).2)
abbrev sn(S:List Bool)(x:Nat):Bool:=S.getD x true
theorem sn_set{S:List Bool}{x y:Nat}(hx:x<S.length):sn (S.set x true) y=if y=x then true else sn S y:=by
 unfold sn;rw[List.getD_eq_getElem?_getD,List.getD_eq_getElem?_getD,List.getElem?_set];by_cases h:x=y
 ·subst h;simp[hx]
 ·rw[if_neg h,if_neg (fun e=>h e.symm)]
structure Maps (next:Nat→Nat) (n2 N:Nat):Prop where
 le:n2≤N
 lt: ∀ x,x<N→next x<N
 inj: ∀ x y,x<N→y<N→next x=next y→x=y
 ax: ∀ x,x<N→n2≤x→next x<n2
def Closed(next:Nat→Nat)(N:Nat)(S:List Bool):Prop:= ∀ y,y<N→sn S y=sn S (next y)
structure Inv (next:Nat→Nat) (N d:Nat) (S:List Bool) (x:Nat):Prop where
 i1: ∀ y,y<N→sn S (next y)=true→sn S y=true∨next y=d
 i2: ∀ y,y<N→sn S y=true→sn S (next y)=true∨next y=x
 i4:sn S x=true→x=d
 pr:(x=d∧sn S x=false)∨ ∃ p,p<N∧next p=x∧sn S p=true
theorem Inv.start{next:Nat→Nat}{N d:Nat}{S:List Bool}(h:Closed next N S)(hd:sn S d=false):Inv next N d S d:=
 ⟨fun y hy hs=> .inl (by rw[h y hy];exact hs),fun y hy hs=> .inl (by rw[← h y hy];exact hs),fun _=>rfl, .inl ⟨rfl,hd⟩⟩
theorem Inv.stop{next:Nat→Nat}{n2 N d:Nat}{S:List Bool}{x:Nat}(m:Maps next n2 N)(h:Inv next N d S x)(hx:sn S x=true):Closed next N S:=by
 have hxd:=h.i4 hx;subst hxd;intro y hy;cases h1:sn S y with
 |true=>
  rcases h.i2 y hy h1 with h2|h2
  ·rw[h2]
  ·rw[h2,hx]
 |false=>
  cases h2:sn S (next y) with
  |false=>rfl
  |true=>
   rcases h.i1 y hy h2 with h3|h3
   ·rw[h3] at h1;cases h1
   ·rcases h.pr with ⟨_,h4⟩|⟨p,hp,hpx,hps⟩
    ·rw[hx] at h4;cases h4
    ·have:=m.inj y p hy hp (by rw[h3,hpx]);rw[this,hps] at h1;cases h1
theorem Inv.step{next:Nat→Nat}{n2 N d:Nat}{S:List Bool}{x:Nat}(m:Maps next n2 N)(hl:S.length=N)(hxN:x<N)(h:Inv next N d S x)(hx:sn S x=false):Inv next N d (S.set x true) (next x):=by
 have hxl:x<S.length:=by omega
 refine⟨fun y hy hs=> ?_,fun y hy hs=> ?_,fun hs=> ?_, .inr ⟨x,hxN,rfl,by rw[sn_set hxl,if_pos rfl]⟩⟩
 ·rw[sn_set hxl] at hs ⊢;by_cases e:next y=x
  ·rcases h.pr with ⟨h1,_⟩|⟨p,hp,hpx,hps⟩
   ·exact .inr (by rw[e,h1])
   ·have:=m.inj y p hy hp (by rw[e,hpx]);left;rw[this];split
    ·rfl
    ·exact hps
  ·rw[if_neg e] at hs;rcases h.i1 y hy hs with h2|h2
   ·left;split
    ·rfl
    ·exact h2
   ·exact .inr h2
 ·rw[sn_set hxl] at hs ⊢;by_cases e:y=x
  ·subst e;exact .inr rfl
  ·rw[if_neg e] at hs;rcases h.i2 y hy hs with h2|h2
   ·left;split
    ·rfl
    ·exact h2
   ·left;rw[if_pos h2]
 ·rw[sn_set hxl] at hs;by_cases e:next x=x
  ·rcases h.pr with ⟨h1,_⟩|⟨p,hp,hpx,hps⟩
   ·rw[e,h1]
   ·have:=m.inj p x hp hxN (by rw[hpx,e]);rw[this,hx] at hps;cases hps
  ·rw[if_neg e] at hs;rcases h.i1 x hxN hs with h2|h2
   ·rw[hx] at h2;cases h2
   ·exact h2
theorem sn_take{S:List Bool}{n2 x:Nat}(hx:x<n2)(hl:n2≤S.length):(S.take n2).getD x true=sn S x:=by
 unfold sn;rw[List.getD_eq_getElem?_getD,List.getD_eq_getElem?_getD,List.getElem?_take,if_pos hx]
theorem take_set_lt{S:List Bool}{n2 x:Nat}:(S.take n2).set x true=(S.set x true).take n2:=by
 rw[← List.take_set]
theorem take_set_ge{S:List Bool}{n2 x:Nat}(hx:n2≤x):(S.set x true).take n2=S.take n2:=by
 rw[List.take_set];exact List.set_eq_of_length_le (by rw[List.length_take];omega)
theorem walk_same{next:Nat→Nat}{n2 N d:Nat}(m:Maps next n2 N)(hd:d<n2): ∀ (fuel x:Nat) (S:List Bool),S.length=N→x<N→Inv next N d S x→unseen S<fuel→
  Closed next N (walkF next fuel x S).2∧pwF next n2 fuel x (S.take n2)=((walkF next fuel x S).1,(walkF next fuel x S).2.take n2):=by
 intro fuel
 induction fuel with
 |zero=>intro x S _ _ _ h;omega
 |succ fuel ih=>
  intro x S hl hx hi hu;have hle:=m.le;unfold walkF pwF;cases hs:S.getD x true with
  |true=>
   have hxd:=hi.i4 hs;have hlt:x<n2:=by omega
   rw[if_pos hlt,sn_take hlt (by omega),show sn S x=true from hs];exact⟨hi.stop m hs,rfl⟩
  |false=>
   have hsx:S[x]? =some false:=by
    rw[List.getD_eq_getElem?_getD] at hs;cases h1:S[x]? with
    |none=>rw[h1] at hs;cases hs
    |some b=>rw[h1] at hs;exact congrArg some hs
   have hun:=unseen_set hsx;obtain⟨c1,c2⟩:=ih (next x) (S.set x true) (by rw[List.length_set,hl]) (m.lt x hx) (hi.step m hl hx hs) (by omega);simp only[Bool.false_eq_true,if_false];refine⟨c1,?_⟩;by_cases hlt:x<n2
   ·rw[if_pos hlt,sn_take hlt (by omega),show sn S x=false from hs];simp only[Bool.false_eq_true,if_false];rw[take_set_lt,c2]
   ·rw[if_neg hlt];rw[take_set_ge (by omega)] at c2;rw[c2]
theorem dgOK.hax(_:dgOK F ls): ∀ x∈axisR ls,x<ls.length:=fun _ h=>axisK_lt h
theorem dgOK.hp(ok:dgOK F ls): ∀ v l,ls[v]? =some l→(l.kind==2)=false→v∈axisR ls:=fun _ l hv h2=>axisR_mem.2 ⟨l,hv,ok.kind1 hv h2⟩
abbrev nD(ls:List Let):Nat:=2*ls.length+2*(axisR ls).length
theorem maps(ok:dgOK F ls):Maps (nxt ls) (2*ls.length) (nD ls):=by
 refine⟨by unfold nD;omega,fun x hx=>turnD_lt ok.hax ok.hp hx,fun x y hx hy h=>turn_inj ok hx hy h,fun x hx hn=> ?_⟩;have hx:x<2*ls.length+2*(axisR ls).length:=hx;have hget: ∀ k,k<(axisR ls).length→(axisR ls).getD k 0<ls.length:=fun k hk=>by
  obtain⟨v,hv⟩:=at_lt hk;rw[List.getD_eq_getElem?_getD,hv];exact ok.hax v (List.mem_of_getElem? hv)
 have hm:=Nat.mod_lt ((x - 2*ls.length)/2+1) (show 0<(axisR ls).length by omega);show turnD ls (axisR ls) x<_;unfold turnD;rw[if_pos hn];split
 ·exact alongD_lt (hget _ hm)
 ·exact alongD_lt (hget _ (by omega))
theorem walkF_sub(next:Nat→Nat): ∀ (k x:Nat) (S:List Bool) (y:Nat),sn S y=true→sn (walkF next k x S).2 y=true:=by
 intro k
 induction k with
 |zero=>intro x S y h;exact h
 |succ k ih=>
  intro x S y h;unfold walkF;split
  ·exact h
  ·refine ih _ _ _ ?_;unfold sn;rw[List.getD_eq_getElem?_getD,List.getElem?_set];split
   ·split<;>rfl
   ·rw[← List.getD_eq_getElem?_getD];exact h
theorem walkF_first(next:Nat→Nat)(k x:Nat)(S:List Bool)(hk:unseen S<k):sn (walkF next k x S).2 x=true:=by
 cases k with
 |zero=>omega
 |succ k=>
  unfold walkF;cases hs:S.getD x true with
  |true=>simpa using hs
  |false=>
   simp only[Bool.false_eq_true,if_false];refine walkF_sub _ _ _ _ _ ?_;unfold sn;rw[List.getD_eq_getElem?_getD,List.getElem?_set];split
   ·split<;>rfl
   ·rename_i h;exact absurd rfl h
section
variable {next:Nat→Nat} {n2 N:Nat}
theorem sn_rep{x:Nat}(h:x<N):sn (List.replicate N false) x=false:=by
 unfold sn;rw[List.getD_eq_getElem?_getD,List.getElem?_replicate,if_pos h];rfl
theorem walksK_closed(m:Maps next n2 N): ∀ k,k≤n2→Closed next N (walksK next N k).2∧ ∀ x,x<k→sn (walksK next N k).2 x=true:=by
 intro k
 induction k with
 |zero=>
  intro _;refine⟨fun y hy=> ?_,fun x h=>absurd h (Nat.not_lt_zero x)⟩;show sn (List.replicate N false) y=sn (List.replicate N false) (next y);rw[sn_rep hy,sn_rep (m.lt y hy)]
 |succ k ih=>
  intro hk;obtain⟨c,s⟩:=ih (by omega);have hlen:=walksK_len next N k;have hle:=m.le;rw[walksK_succ];unfold walkStep;cases hs:(walksK next N k).2.getD k true with
  |true=>
   simp only[if_true];refine⟨c,fun x hx=> ?_⟩;rcases Nat.lt_succ_iff_lt_or_eq.1 hx with h|rfl
   ·exact s x h
   ·exact hs
  |false=>
   simp only[Bool.false_eq_true,if_false];have hul:=unseen_le (walksK next N k).2;obtain⟨c1,_⟩:=walk_same m (show k<n2 by omega) ((walksK next N k).2.length+1) k (walksK next N k).2 hlen (by omega) (Inv.start c hs) (by omega);refine⟨c1,fun x hx=> ?_⟩;rcases Nat.lt_succ_iff_lt_or_eq.1 hx with h|rfl
   ·exact walkF_sub _ _ _ _ _ (s x h)
   ·exact walkF_first _ _ _ _ (by omega)
theorem walksK_end(m:Maps next n2 N): ∀ k,n2≤k→k≤N→walksK next N k=walksK next N n2:=by
 intro k
 induction k with
 |zero=>intro h _;rw[show n2=0 by omega]
 |succ k ih=>
  intro h1 h2;by_cases e:n2=k+1
  ·rw[e]
  ·rw[walksK_succ,ih (by omega) (by omega)];obtain⟨c,s⟩:=walksK_closed m n2 (Nat.le_refl _);unfold walkStep;have:(walksK next N n2).2.getD k true=true:=by
    have h3:=c k (by omega);have h4:=s (next k) (m.ax k (by omega) (by omega));show sn (walksK next N n2).2 k=true;rw[h3,h4]
   rw[this];rfl
end

abbrev plP(o:List (Nat × Nat)):List (List PV):=o.map fun p=>[PV.int .i64 (p.1:Int),PV.int .i64 (p.2:Int)]
def spanP(g r to:Nat):List (Nat × Nat):=(g,r)::(List.range (to - g)).map fun i=>(g+1+i,0)
def spanF(g to:Nat):List Nat:=(List.range (to - g)).map fun i=>g+1+i
abbrev plTy:Nat:=149
def gN (ls:List Let)(i:Nat):Nat:=match ls[i]? with|some l=>l.gate.toNat|none=>0
def rN (ls:List Let)(i:Nat):Nat:=match ls[i]? with|some l=>l.rank.toNat|none=>0
theorem gN_of{i:Nat}{l:Let}(h:ls[i]? =some l):gN ls i=l.gate.toNat:=by simp[gN,h]
theorem rN_of{i:Nat}{l:Let}(h:ls[i]? =some l):rN ls i=l.rank.toNat:=by simp[rN,h]
def pieceP(F:Nat)(ls:List Let)(j:Nat):List (Nat × Nat):=
 let u:=(axisR ls).getD j 0
 let v:=(axisR ls).getD ((j+1)%(axisR ls).length) 0
 if j+1<(axisR ls).length then spanP (gN ls u) (rN ls u) (gN ls v) else spanP (gN ls u) (rN ls u) F++spanP 0 0 (gN ls v)
def pieceF(F:Nat)(ls:List Let)(j:Nat):List Nat:=
 let u:=(axisR ls).getD j 0
 let v:=(axisR ls).getD ((j+1)%(axisR ls).length) 0
 if j+1<(axisR ls).length then spanF (gN ls u) (gN ls v) else spanF (gN ls u) F++spanF 0 (gN ls v)
theorem plP_app(a b:List (Nat × Nat)):plP (a++b)=plP a++plP b:=by simp
theorem nP_app(a b:List Nat):nP (a++b)=nP a++nP b:=by simp
theorem spanP_len(g r to:Nat):(spanP g r to).length=to - g+1:=by simp[spanP]
theorem spanF_len(g to:Nat):(spanF g to).length=to - g:=by simp[spanF]
theorem axis_get(ok:dgOK F ls){j:Nat}(hj:j<(axisR ls).length): ∃ u l,(axisR ls)[j]? =some u∧(axisR ls).getD j 0=u∧ls[u]? =some l∧l.isP=true∧goodP F ls l:=by
 obtain⟨u,hu⟩:=at_lt hj;obtain⟨l,h1,h2⟩:=axisR_mem.1 (List.mem_of_getElem? hu);exact⟨u,l,hu,by rw[List.getD_eq_getElem?_getD,hu];rfl,h1,h2,ok.ax.good l (List.mem_of_getElem? h1) h2⟩
end
end Go.Abs
