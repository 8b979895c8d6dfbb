/-
  AxisCut keeps a code valid.
-/
import Derived.Test.YtjjdebhkbfeniaaGreatDoorUb
set_option linter.unusedSimpArgs false
set_option linter.unusedVariables false
set_option linter.unusedSectionVars false
set_option maxHeartbeats 16000000
namespace Go.Abs
def mrgN(c e a:Nat):Nat:=if a=c then e else a
theorem mrg_c(c e:Nat):mrgN c e c=e:=if_pos rfl
theorem mrg_e(c e:Nat):mrgN c e e=e:=by unfold mrgN;split<;>rfl
theorem mrg_n{c e a:Nat}(h:a≠c):mrgN c e a=a:=if_neg h
def shL(g ab by':Int)(l:Let):Let:=if (l.kind==1)&&((l.gate==g)&&decide (ab<l.rank)) then {l with rank:=l.rank+by'} else l
theorem shP_L(g ab by':Int)(p:Pc):shP g ab by' p=⟨shL g ab by' p.l,p.d⟩:=by
 unfold shP shL;split<;>rfl
theorem shL_same(g ab by':Int):Same3 (shL g ab by'):=by
 refine⟨fun l=> ?_,fun l=> ?_,fun l=> ?_⟩<;>unfold shL<;>split<;>rfl
theorem shL_gate(g ab by':Int)(l:Let):(shL g ab by' l).gate=l.gate:=by unfold shL;split<;>rfl
theorem shL_id(g ab by':Int)(l:Let):(shL g ab by' l).id=l.id:=by unfold shL;split<;>rfl
theorem shL_C{g ab by':Int}{l:Let}(h:l.isC=true):shL g ab by' l=l:=by
 unfold shL;have:=isP_notC h;unfold Let.isP at this;rw[this];simp
theorem shL_atG(g ab by':Int)(k:Nat)(l:Let):atG k (shL g ab by' l)=atG k l:=by
 unfold atG;rw[(shL_same g ab by').isP,shL_gate]
theorem shL_rank{g ab by':Int}{l:Let}(h:l.isP=true):(shL g ab by' l).rank=if l.gate=g∧ab<l.rank then l.rank+by' else l.rank:=by
 unfold shL;unfold Let.isP at h;rw[h];by_cases c:l.gate=g∧ab<l.rank
 ·rw[if_pos c,if_pos (by simp[c.1,c.2])]
 ·rw[if_neg c,if_neg (by simpa using c)]
theorem shL_bad{F:Nat}{g ab by':Int}{l:Let}(h:badL F l=false):badL F (shL g ab by' l)=false:=by
 rcases bad_kind h with hp|hc
 ·have hp':(shL g ab by' l).isP=true:=by rw[(shL_same g ab by').isP];exact hp
  rw[not_badP hp] at h;rw[not_badP hp',shL_gate,shL_id,(shL_same g ab by').sign,(shL_same g ab by').over];exact h
 ·rw[shL_C hc];exact h
theorem keep_seg{l:List Pc}{drop:Nat→Pc→Bool}: ∀ d j,j+d≤l.length→(∀ i p,j≤i→i<j+d→drop i p=false)→keepK l drop (j+d)=keepK l drop j++(l.drop j).take d:=by
 intro d
 induction d with
 |zero=>intro j _ _;simp
 |succ d ih=>
  intro j hj h;obtain⟨p,hp⟩:=at_lt (ls:=l) (k:=j+d) (by omega);rw[show j+(d+1)=(j+d)+1 by omega,keepK_keep hp (h _ _ (by omega) (by omega)),ih j (by omega) fun i p h1 h2=>h i p h1 (by omega),List.take_add_one,List.getElem?_drop,hp,List.append_assoc];rfl
theorem keep_two{l:List Pc}{a:Nat}(ha:a<l.length)(h2:2≤l.length){p q:Pc}{r:List Pc}(e:l.drop a++l.take a=p::q::r): ∃ u v,(keepL l fun k _=>decide (k=a)||decide (k=(a+1)%l.length))=u++v∧r=v++u:=by
 have hd0: ∀ i (p:Pc),i≠a→i≠(a+1)%l.length→(fun(k:Nat) (_:Pc)=>decide (k=a)||decide (k=(a+1)%l.length)) i p=false:=fun i p h1 h2=>by simp[h1,h2]
 have hd1: ∀ i (p:Pc),i=a∨i=(a+1)%l.length→(fun(k:Nat) (_:Pc)=>decide (k=a)||decide (k=(a+1)%l.length)) i p=true:=fun i p h=>by simpa using h
 obtain⟨x,hx⟩:=at_lt ha;by_cases c:a+1<l.length
 ·obtain⟨y,hy⟩:=at_lt c;have hm:(a+1)%l.length=a+1:=Nat.mod_eq_of_lt c;rw[hm] at hd0 hd1 ⊢;have k0:=keep_seg (l:=l) (drop:=fun k _=>decide (k=a)||decide (k=a+1)) a 0 (by omega) fun i p _ h=>hd0 i p (by omega) (by omega)
  have k1:=keepK_drop (drop:=fun k _=>decide (k=a)||decide (k=a+1)) hx (hd1 a x (.inl rfl));have k2:=keepK_drop (drop:=fun k _=>decide (k=a)||decide (k=a+1)) hy (hd1 (a+1) y (.inr rfl));have k3:=keep_seg (l:=l) (drop:=fun k _=>decide (k=a)||decide (k=a+1)) (l.length - (a+2)) (a+1+1) (by omega) fun i p h _=>hd0 i p (by omega) (by omega)
  refine⟨l.take a,l.drop (a+2),?_,?_⟩
  ·unfold keepL;rw[show a+1+1+(l.length - (a+2))=l.length by omega,k2,k1] at k3;rw[Nat.zero_add] at k0;rw[k3,k0];have:keepK l (fun k _=>decide (k=a)||decide (k=a+1)) 0=[]:=rfl;rw[this,List.drop_zero,List.nil_append,List.take_of_length_le (l:=l.drop (a+1+1)) (by rw[List.length_drop];omega)]
  ·have e1:l.drop a=x::y::l.drop (a+2):=by
    obtain⟨h1,e1⟩:=List.getElem?_eq_some_iff.1 hx;obtain⟨h2,e2⟩:=List.getElem?_eq_some_iff.1 hy;rw[← List.getElem_cons_drop h1,e1,← List.getElem_cons_drop h2,e2]
   rw[e1] at e;simp only[List.cons_append,List.cons.injEq] at e;exact e.2.2.symm
 ·have ea:a+1=l.length:=by omega
  have hm:(a+1)%l.length=0:=by rw[ea,Nat.mod_self]
  rw[hm] at hd0 hd1 ⊢;obtain⟨y,hy⟩:=at_lt (ls:=l) (k:=0) (by omega);have k1:=keepK_drop (drop:=fun k _=>decide (k=a)||decide (k=0)) hy (hd1 0 y (.inr rfl));have k2:=keep_seg (l:=l) (drop:=fun k _=>decide (k=a)||decide (k=0)) (a - 1) 1 (by omega) fun i p h h'=>hd0 i p (by omega) (by omega)
  have k3:=keepK_drop (drop:=fun k _=>decide (k=a)||decide (k=0)) hx (hd1 a x (.inl rfl));refine⟨[],(l.drop 1).take (a - 1),?_,?_⟩
  ·unfold keepL;rw[← ea,k3];rw[show 1+(a - 1)=a by omega] at k2;rw[k2];rw[show(1:Nat)=0+1 from rfl,k1];rfl
  ·have e1:l.drop a=[x]:=by
    obtain⟨h1,e1⟩:=List.getElem?_eq_some_iff.1 hx;rw[← List.getElem_cons_drop h1,e1,List.drop_eq_nil_of_le (by omega)]
   have e2:l.take a=y::(l.drop 1).take (a - 1):=by
    obtain⟨h1,e1⟩:=List.getElem?_eq_some_iff.1 hy;have:l=y::l.drop 1:=by
     have:=List.getElem_cons_drop h1;rw[e1,List.drop_zero] at this;exact this.symm
    conv=>lhs;rw[this]
    rw[show a=(a - 1)+1 by omega,List.take_succ_cons];rfl
   rw[e1,e2] at e;simp only[List.cons_append,List.nil_append,List.cons.injEq] at e;rw[List.append_nil];exact e.2.2.symm
section
variable {F:Nat} {ls:List Let}
theorem SdE.ext'{s t:SdE}(h1:s.l=t.l)(h2:s.r=t.r)(h3:s.b=t.b):s=t:=by
 cases s;cases t;simp_all
theorem cert1(g:Fine F ls){a:Nat}(ha:a<ls.length){L:List Pc}(h:acR ls a=some L):L=[]∨Cert F L:=by
 obtain⟨x,y,r,s,e,hx,hy,c,hp,hrot,_,_,hperm⟩:=zF_get g ha;have q:=c.q;unfold acR at h;have e1:(pieces ls).getD a ⟨noLet,false⟩=x.p:=by rw[List.getD_eq_getElem?_getD,hx];rfl
 have e2:(pieces ls).getD ((a+1)%ls.length) ⟨noLet,false⟩=y.p:=by rw[List.getD_eq_getElem?_getD,hy];rfl
 simp only[e1,e2] at h;split at h
 case isFalse=>cases h
 rename_i hc;simp only[Bool.and_eq_true,beq_iff_eq,Bool.not_eq_true',Bool.and_eq_false_iff,decide_eq_false_iff_not] at hc;obtain⟨hc1,hc2,hgt,hrk,hfew⟩:=hc;cases h
 have px:x.k.isP=true:=by show(x.k.kind==1)=true;simp[hc1]
 have py:y.k.isP=true:=by show(y.k.kind==1)=true;simp[hc2]
 obtain⟨hs1,hs2,hpr⟩:=hp;have ox:=(q.ok x (by simp)).pb px;have oy:=(q.ok y (by simp)).pb py;have plx:=q.pl x (by simp) px;have ply:=q.pl y (by simp) py;have gx:=((not_badP px).1 (q.ok x (by simp)).bad).1.1.1;have rx:=q.rr x (by simp) px;have ry:=q.rr y (by simp) py;have hgy:y.k.gate=x.k.gate:=hgt.symm;rw[hgy] at ry
 -- the counts
 have hcC: ∀ z:List EnT,cnt Let.isC (lsE (x::y::z))=cnt Let.isC (lsE z):=fun z=>by rw[cnt_cons,cnt_cons,(ifP px).1,(ifP py).1];omega
 have hcP: ∀ z:List EnT,cnt Let.isP (lsE (x::y::z))=cnt Let.isP (lsE z)+2:=fun z=>by rw[cnt_cons,cnt_cons,(ifP px).2,(ifP py).2];omega
 have hGi:((x.k.gate.toNat:Nat):Int)=x.k.gate:=Int.toNat_of_nonneg gx.1;have hcG: ∀ (z:List EnT) k,cg (lsE (x::y::z)) k=cg (lsE z) k+if k=x.k.gate.toNat then 2 else 0:=fun z k=>by
  show cnt _ _=cnt _ _+_;rw[cnt_cons,cnt_cons];have: ∀ w:EnT,w.k.isP=true→w.k.gate=x.k.gate→(if atG k w.k=true then 1 else 0)=if k=x.k.gate.toNat then 1 else 0:=fun w hw hgw=>by
   unfold atG;rw[hw,hgw];by_cases ck:k=x.k.gate.toNat
   ·subst ck;simp[hGi]
   ·have:(x.k.gate==(k:Int))=false:=by rw[beq_eq_false_iff_ne];omega
    simp[this,ck]
  rw[this x px rfl,this y py hgy];split<;>omega
 have h2:cnt Let.isC (lsE (x::y::r))=cnt Let.isC ls:=by rw[cnt_perm hperm,zF_ls]
 have h3:cnt Let.isP (lsE (x::y::r))=cnt Let.isP ls:=by rw[cnt_perm hperm,zF_ls]
 have hlen:ls.length=r.length+2:=by
  have:=hperm.length_eq;rw[zF_len] at this;simpa using this.symm
 -- ranks
 obtain⟨lo,hlo1,hlo2,hmx⟩: ∃ lo:Nat,1≤lo∧((x.k.rank=lo∧y.k.rank=lo+1)∨(x.k.rank=lo+1∧y.k.rank=lo))∧mxI x.k.rank y.k.rank=lo+1:=by
  have hrk':mxI x.k.rank y.k.rank - mnI x.k.rank y.k.rank=1:=hrk;unfold mxI mnI at hrk';unfold mxI;by_cases c1:x.k.rank<y.k.rank
  ·rw[if_pos c1] at hrk' ⊢;rw[if_neg (by omega)] at hrk';exact⟨x.k.rank.toNat,by omega, .inl ⟨by omega,by omega⟩,by omega⟩
  ·rw[if_neg c1] at hrk' ⊢;by_cases c2:y.k.rank<x.k.rank
   ·rw[if_pos c2] at hrk';exact⟨y.k.rank.toNat,by omega, .inr ⟨by omega,by omega⟩,by omega⟩
   ·rw[if_neg c2] at hrk';omega
 have hcgx:lo+1≤cg (lsE (x::y::r)) x.k.gate.toNat:=by rcases hlo2 with ⟨h1,h2⟩|⟨h1,h2⟩<;>omega
 -- which names are merged
 obtain⟨mc,me,m1,m2,m3,m4,m5⟩: ∃ mc me:Nat,(y.o.mp (mrgN mc me)=s.mp (mrgN mc me))∧mrgN mc me (TF ls x.k.gate.toNat (lo+1))=mrgN mc me (TF ls x.k.gate.toNat (lo - 1))∧mrgN mc me (BF ls x.k.gate.toNat (lo+1))=mrgN mc me (BF ls x.k.gate.toNat (lo - 1))∧
   (∀ t,(t=y.o.l∨t=y.o.r)→t=mc∨t=s.l∨t=s.r)∧True:=by
  have hdy:y.p.d= !x.p.d:=by
   have h1:=oy.2;rw[hs2,ox.1] at h1;revert h1;cases x.p.d<;>cases y.p.d<;>simp
  have hb:y.o.b=s.b:=by rw[oy.1,hdy,← hs1,ox.2]
  obtain⟨p1,p2,p3,p4⟩:=plx;obtain⟨p5,p6,p7,p8⟩:=ply;rw[hgy] at p5 p6 p7 p8;unfold EnT.up at p1 p2 p5 p6;unfold EnT.lo at p3 p4 p7 p8;rw[hdy] at p5 p6 p7 p8;rw[hs1] at p1 p2 p3 p4;rw[hs2] at p5 p6 p7 p8;have done: ∀ mc me,(mrgN mc me y.o.l=mrgN mc me s.l)→(mrgN mc me y.o.r=mrgN mc me s.r)→y.o.mp (mrgN mc me)=s.mp (mrgN mc me):=fun mc me h1 h2=>SdE.ext' h1 h2 hb
  rcases hlo2 with ⟨r1,r2⟩|⟨r1,r2⟩
  ·have n1:x.k.rank.toNat=lo:=by omega
   have n2:y.k.rank.toNat=lo+1:=by omega
   rw[n1] at p1 p2 p3 p4;rw[n2] at p5 p6 p7 p8;rw[Nat.add_sub_cancel] at p5 p7;cases hd:x.p.d<;>rw[hd] at p1 p2 p3 p4 p5 p6 p7 p8<;>simp only[Bool.not_false,Bool.not_true,Bool.false_eq_true,if_false,if_true,flS] at p1 p2 p3 p4 p5 p6 p7 p8
   ·have ee:y.o.r=s.r:=by rw[p7,p4]
    refine⟨y.o.l,s.l,done _ _ ?_ (by rw[ee]),by rw[← p6,p1],by rw[← p8,← p3,mrg_c,mrg_e],?_,trivial⟩
    ·rw[mrg_c,mrg_e]
    ·rintro t (rfl|rfl)
     ·exact .inl rfl
     ·exact .inr (.inr ee)
   ·have ee:y.o.l=s.l:=by rw[p5,p2]
    refine⟨y.o.r,s.r,done _ _ (by rw[ee]) ?_,by rw[← p6,← p1,mrg_c,mrg_e],by rw[← p8,p3],?_,trivial⟩
    ·rw[mrg_c,mrg_e]
    ·rintro t (rfl|rfl)
     ·exact .inr (.inl ee)
     ·exact .inl rfl
  ·have n1:x.k.rank.toNat=lo+1:=by omega
   have n2:y.k.rank.toNat=lo:=by omega
   rw[n1] at p1 p2 p3 p4;rw[n2] at p5 p6 p7 p8;rw[Nat.add_sub_cancel] at p1 p3;cases hd:x.p.d<;>rw[hd] at p1 p2 p3 p4 p5 p6 p7 p8<;>simp only[Bool.not_false,Bool.not_true,Bool.false_eq_true,if_false,if_true,flS] at p1 p2 p3 p4 p5 p6 p7 p8
   ·have ee:y.o.l=s.l:=by rw[p8,p3]
    refine⟨y.o.r,s.r,done _ _ (by rw[ee]) ?_,by rw[← p2,p5],by rw[← p4,← p7,mrg_c,mrg_e],?_,trivial⟩
    ·rw[mrg_c,mrg_e]
    ·rintro t (rfl|rfl)
     ·exact .inr (.inl ee)
     ·exact .inl rfl
   ·have ee:y.o.r=s.r:=by rw[p6,p1]
    refine⟨y.o.l,s.l,done _ _ ?_ (by rw[ee]),by rw[← p2,← p5,mrg_c,mrg_e],by rw[← p4,p7],?_,trivial⟩
    ·rw[mrg_c,mrg_e]
    ·rintro t (rfl|rfl)
     ·exact .inl rfl
     ·exact .inr (.inr ee)
 clear m5;by_cases hr: ∃ w∈r,w.k.isP=true
 case neg=>
  left;have hP0:cnt Let.isP (lsE r)=0:=List.countP_eq_zero.2 fun l hl hlp=>by
   obtain⟨w,hw,rfl⟩:=List.mem_map.1 hl;exact hr ⟨w,hw,hlp⟩
  have hC0:cnt Let.isC ls=0:=by
   have hev:=q.ev;rw[h2] at hev;rw[hcP] at h3;rcases hfew with h|h<;>omega
  have:ls.length=2:=by
   have:=len_PC g.ok;rw[hcP] at h3;omega
  have hk0:r=[]:=List.length_eq_zero_iff.1 (by omega);obtain⟨u,v,k1,k2⟩:=keep_two (l:=pieces ls) (a:=a) (by rw[pieces_len];exact ha) (by rw[pieces_len];omega) (by rw[hrot];rfl);rw[pieces_len] at k1;rw[hk0] at k2;have k2:=k2.symm;simp only[List.map_nil,List.append_eq_nil_iff] at k2;unfold shiftL;rw[k1,k2.1,k2.2];rfl
 right;obtain⟨w0,hw0,pw0⟩:=hr;have hrne:r≠[]:=List.ne_nil_of_mem hw0
 let ψ:=mrgN mc me
 let hL:=shL x.k.gate (lo+1) (-2)
 let T':Nat→Nat→Nat:=fun G k=>if G=x.k.gate.toNat then (if k≤lo - 1 then ψ (TF ls G k) else ψ (TF ls G (k+2))) else ψ (TF ls G k)
 let B':Nat→Nat→Nat:=fun G k=>if G=x.k.gate.toNat then (if k≤lo - 1 then ψ (BF ls G k) else ψ (BF ls G (k+2))) else ψ (BF ls G k)
 have mC:cnt Let.isC (lsE (r.map (EnT.mp ψ hL)))=cnt Let.isC (lsE r):=cnt_mp (fun l=>(shL_same _ _ _).isC l) r;have mP:cnt Let.isP (lsE (r.map (EnT.mp ψ hL)))=cnt Let.isP (lsE r):=cnt_mp (fun l=>(shL_same _ _ _).isP l) r;have mG: ∀ k,cg (lsE (r.map (EnT.mp ψ hL))) k=cg (lsE r) k:=fun k=>cnt_mp (fun l=>shL_atG _ _ _ k l) r
 have inr: ∀ w∈r,w∈x::y::r:=fun w hw=>by simp[hw]
 -- the others have other ranks
 have oth: ∀ w∈r,w.k.isP=true→w.k.gate=x.k.gate→w.k.rank<lo∨(lo:Int)+1<w.k.rank:=fun w hw pw gw=>by
  obtain⟨d1,d2⟩:=List.pairwise_cons.1 q.rk;obtain⟨d3,_⟩:=List.pairwise_cons.1 d2;have n1:=d1 w (by simp[hw]) px pw gw.symm;have n2:=d3 w hw py pw (by rw[hgy,gw]);rcases hlo2 with ⟨r1,r2⟩|⟨r1,r2⟩<;>omega
 have rk': ∀ w∈r,w.k.isP=true→(hL w.k).rank=if w.k.gate=x.k.gate∧(lo:Int)+1<w.k.rank then w.k.rank - 2 else w.k.rank:=fun w hw pw=>by
  have:=shL_rank (g:=x.k.gate) (ab:=(lo:Int)+1) (by':= -2) pw;rw[show w.k.rank+ -2=w.k.rank - 2 by omega] at this;exact this
 have key: ∀ f:Nat→Nat→Nat,ψ (f x.k.gate.toNat (lo+1))=ψ (f x.k.gate.toNat (lo - 1))→ ∀ w∈r,w.k.isP=true→
   (ψ (f w.k.gate.toNat (w.k.rank.toNat - 1))=(fun G k=>if G=x.k.gate.toNat then (if k≤lo - 1 then ψ (f G k) else ψ (f G (k+2))) else ψ (f G k)) (hL w.k).gate.toNat ((hL w.k).rank.toNat - 1))∧
   ψ (f w.k.gate.toNat w.k.rank.toNat)=(fun G k=>if G=x.k.gate.toNat then (if k≤lo - 1 then ψ (f G k) else ψ (f G (k+2))) else ψ (f G k)) (hL w.k).gate.toNat (hL w.k).rank.toNat:=by
  intro f hf w hw pw;have hg':(hL w.k).gate=w.k.gate:=shL_gate _ _ _ _;have gw:=((not_badP pw).1 (q.ok w (inr w hw)).bad).1.1.1;have rw1:=(q.rr w (inr w hw) pw).1;rw[rk' w hw pw,hg'];by_cases cg':w.k.gate=x.k.gate
  ·have ho:=oth w hw pw cg';simp only[cg',if_true,true_and];by_cases cr:(lo:Int)+1<w.k.rank
   ·rw[if_pos cr];constructor
    ·by_cases c3:(w.k.rank - 2).toNat - 1≤lo - 1
     ·rw[if_pos c3];have e3:w.k.rank.toNat - 1=lo+1:=by omega
      have e4:(w.k.rank - 2).toNat - 1=lo - 1:=by omega
      rw[e3,e4];exact hf
     ·rw[if_neg c3];congr 2;omega
    ·rw[if_neg (by omega)];congr 2;omega
   ·rw[if_neg cr];constructor
    ·rw[if_pos (by omega)]
    ·rw[if_pos (by omega)]
  ·have: ¬ (w.k.gate.toNat=x.k.gate.toNat):=by omega
   simp only[cg',false_and,if_false,if_neg this];exact⟨trivial,trivial⟩
 have keyg: ∀ f:Nat→Nat→Nat,ψ (f x.k.gate.toNat (lo+1))=ψ (f x.k.gate.toNat (lo - 1))→ ∀ k,
   ((fun G k=>if G=x.k.gate.toNat then (if k≤lo - 1 then ψ (f G k) else ψ (f G (k+2))) else ψ (f G k)) k (cg (lsE r) k)=ψ (f k (cg (lsE (x::y::r)) k)))∧
   (fun G k=>if G=x.k.gate.toNat then (if k≤lo - 1 then ψ (f G k) else ψ (f G (k+2))) else ψ (f G k)) k 0=ψ (f k 0):=by
  intro f hf k;rw[hcG r k];by_cases ck:k=x.k.gate.toNat
  ·subst ck;simp only[if_true];rw[if_pos (Nat.zero_le _)];refine⟨?_,rfl⟩;rw[hcG r x.k.gate.toNat,if_pos rfl] at hcgx;by_cases c3:cg (lsE r) x.k.gate.toNat≤lo - 1
   ·rw[if_pos c3];have e3:cg (lsE r) x.k.gate.toNat=lo - 1:=by omega
    rw[e3,show lo - 1+2=lo+1 by omega];exact hf.symm
   ·rw[if_neg c3]
  ·simp only[if_neg ck,Nat.add_zero];exact⟨trivial,trivial⟩
 have qn:Cq F ([]++r.map (EnT.mp ψ hL)) T' B':=by
  refine Cq.edit (X:=[x,y]) (r:=r) q (shL_same _ _ _) (fun w hw=>shL_bad (q.ok w (inr w hw)).bad) (fun u hu v hv cu cv e=> ?_) (fun u hu v hv pu pv e1 e2=> ?_) (fun _ h=>by cases h) List.Pairwise.nil List.Pairwise.nil (fun _ h=>by cases h) (fun _ h=>by cases h) ?_ (fun _ h=>by cases h) (fun u hu cu=> ?_) (fun _ h=>by cases h) (fun u hu pu=> ?_) (fun _ h=>by cases h) (fun u hu pu=> ?_) (fun k hk=> ?_) ?_
  ·rw[shL_id,shL_id] at e;exact e
  ·have e1':u.k.gate=v.k.gate:=by rw[shL_gate,shL_gate] at e1;exact e1
   refine⟨e1',?_⟩;have e2:(hL u.k).rank=(hL v.k).rank:=e2;rw[rk' u hu pu,rk' v hv pv] at e2;by_cases cg':u.k.gate=x.k.gate
   ·have o1:=oth u hu pu cg';have o2:=oth v hv pv (e1'▸cg');have cv:v.k.gate=x.k.gate:=e1'▸cg';simp only[cg',cv,true_and] at e2;split at e2<;>split at e2<;>omega
   ·have cv: ¬ v.k.gate=x.k.gate:=e1'▸cg';simp only[cg',cv,false_and,if_false] at e2;exact e2
  ·rw[List.nil_append,mC,← hcC r];exact q.ev
  ·rw[List.nil_append,mC,shL_id,← hcC r];exact q.ids u (inr u hu) cu
  ·rw[List.nil_append,shL_gate,mG];show 1≤(hL u.k).rank∧(hL u.k).rank≤_;rw[rk' u hu pu];have h1:=q.rr u (inr u hu) pu;rw[hcG r] at h1;have gu:=((not_badP pu).1 (q.ok u (inr u hu)).bad).1.1.1;by_cases cg':u.k.gate=x.k.gate
   ·have o1:=oth u hu pu cg';rw[cg'] at h1 ⊢;rw[if_pos rfl] at h1;rw[hcG r,if_pos rfl] at hcgx;simp only[true_and];split<;>omega
   ·simp only[cg',false_and,if_false];rw[if_neg (by omega)] at h1;exact h1
  ·obtain⟨t1,t2⟩:=key (TF ls) m2 u hu pu;obtain⟨b1,b2⟩:=key (BF ls) m3 u hu pu;exact⟨⟨t1,b1⟩,t2,b2⟩
  ·rw[List.nil_append,mG];obtain⟨t1,t2⟩:=keyg (TF ls) m2 k;obtain⟨b1,b2⟩:=keyg (BF ls) m3 k;obtain⟨_,t3⟩:=keyg (TF ls) m2 (k+1);obtain⟨_,b3⟩:=keyg (BF ls) m3 (k+1);have:=q.gt k hk;exact⟨by rw[show T' k _=_ from t1,this.1];exact t3.symm,by rw[show B' k _=_ from b1,this.2];exact b3.symm⟩
  ·rw[List.nil_append,mG];obtain⟨t1,t2⟩:=keyg (TF ls) m2 F;obtain⟨b1,b2⟩:=keyg (BF ls) m3 F;obtain⟨_,t3⟩:=keyg (TF ls) m2 0;obtain⟨_,b3⟩:=keyg (BF ls) m3 0;have:=q.gz;exact⟨by rw[show T' F _=_ from t1,this.1];exact t3.symm,by rw[show B' F _=_ from b1,this.2];exact b3.symm⟩
 have hdone:Cert F (r.map fun w=>shP x.k.gate (lo+1) (-2) w.p):=by
  refine Cq.done (X:=[x,y]) (r:=r) (X':=[]) (L:=[mc,x.o.l,x.o.r]) (N:=[]) (V:=nWalks ls) (z':=r.map (EnT.mp ψ hL)) qn c.nd (fun t ht=>c.wit t ht) (List.Perm.refl _) ⟨s.mp ψ,?_⟩ ?_ ?_ (fun t _ ht=>mrg_n fun e=>ht (by simp[e])) (fun w hw t ht ew hL'=> ?_) List.nodup_nil (fun t ht=>by cases ht) (fun t ht=>by cases ht) (by rw[List.length_range];exact Nat.le_refl _) ?_
  ·have:=path_mp (ψ:=ψ) (h:=hL) hpr;rwa[show y.o.mp ψ=s.mp ψ from m1] at this
  ·rw[List.map_map];refine List.map_congr_left fun w _=> ?_
   rw[shP_L];rfl
  ·refine⟨w0.mp ψ hL,?_,?_⟩
   ·rw[List.nil_append];exact List.mem_map.2 ⟨w0,hw0,rfl⟩
   ·show(hL w0.k).isP=true;rw[(shL_same _ _ _).isP];exact pw0
  ·obtain⟨v,hv,hvo⟩:=path_lastm hpr hrne;simp only[List.mem_cons,List.not_mem_nil,or_false,not_or] at hw hL';have key:t=s.l∨t=s.r:=by
    rcases hw with rfl|rfl
    ·rcases ew with ew|ew
     ·exact absurd ew hL'.2.1
     ·exact absurd ew hL'.2.2
    ·rcases m4 t ew with h|h
     ·exact absurd h hL'.1
     ·exact h
   refine⟨v.mp ψ hL,by rw[List.nil_append];exact List.mem_map.2 ⟨v,hv,rfl⟩,?_⟩;show t=ψ v.o.l∨t=ψ v.o.r;rw[hvo];have:ψ t=t:=mrg_n hL'.1;rcases key with h|h
   ·left;rw[← h,this]
   ·right;rw[← h,this]
  ·rw[List.nil_append,mC,mP];have h1:=g.nw;rw[hcC] at h2;rw[hcP] at h3;simp only[List.length_nil,List.length_cons];omega
 obtain⟨u,v,k1,k2⟩:=keep_two (l:=pieces ls) (a:=a) (by rw[pieces_len];exact ha) (by rw[pieces_len];omega) (by rw[hrot];rfl);rw[pieces_len] at k1;show Cert F ((keepL (pieces ls) fun k _=>decide (k=a)||decide (k=(a+1)%ls.length)).map (shP x.k.gate (mxI x.k.rank y.k.rank) (-2)));rw[k1,hmx,List.map_append];refine Cert.rot ?_;rw[← List.map_append,← k2,List.map_map];exact hdone
end
end Go.Abs
