/-
  Cells that hold letters.
-/
import Derived.Test.YtjjdebhkbfeniaaGreatDoorRd
set_option linter.unusedSimpArgs false
set_option linter.unusedVariables false
set_option linter.unusedSectionVars false
set_option maxRecDepth 100000
set_option maxHeartbeats 16000000
namespace Go.Abs
theorem small4_r{f:Int}{ls:List Let}{n:Int}(hn:n≤1000000):PEv S 6 [codeV f ls,vi n] (rb (decide ((ls.length:Int)≤n)&&(checkR f ls==0))):=by
 by_cases h:(ls.length:Int)≤n
 ·have pc:=check_r f ls (by omega);have hd:decide ((ls.length:Int)≤n)=true:=decide_eq_true h;rw[hd];generalize checkR f ls=e at*;refine pev1 c6 ?_;simp only[go_sem,i6,h,s20,gP_int pc];all_goals(first|done|exact okd|exact⟨okd,rfl⟩|rfl)
 ·have hd:decide ((ls.length:Int)≤n)=false:=decide_eq_false h;rw[hd];refine pev1 c6 ?_;simp only[go_sem,i6,h];all_goals(first|done|exact okd|exact⟨okd,rfl⟩|rfl)
theorem equal_same(f:Int)(ls:List Let)(hl:ls.length≤1000000):PEv S 11 [codeV f ls,codeV f ls] (rb true):=by
 refine pev1 c11 ?_;simp only[go_sem,i11,bne];refine R_for (fun k env blk=>env 2= .one (.href 704000000 1 0)∧env 3= .one (.href 704000064 1 0)∧env 5=vi k∧blk 704000000=(1,some (.var (codeC f ls)))∧blk 704000064=(1,some (.var (codeC f ls)))) 0 ls.length (Nat.zero_le _) ?_ ?_
 ·simp only[go_sem];first|done|rfl
 ·rintro k env blk hk ⟨h2,h3,h5,b0,b1⟩
  by_cases hlt:k<ls.length
  ·have hlt':((k:Int)<(ls.length:Int)):=by omega
   have w1:=wrap_succ (n:=k) (by omega);obtain⟨x,hx⟩:=at_lt hlt;have hxp:=ps_of hx;have es:=eq_let x x;rw[leq_self] at es;simp only[go_sem,i11_l1,h2,h3,h5,b0,b1,hlt,hlt',hxp,Let.ps,w1,es];first|done|exact okd|exact⟨okd,rfl⟩
  ·have:k=ls.length:=by omega
   subst this;simp only[go_sem,i11_l1,i11_r2,h2,h5,b0,no_more];first|done|rfl
def cellA(s:Nat)(L:List Let)(c:C)(blk:Blk):Prop:=c= .p (lsP L)∨grown s lsTy 6 (letP L) (.one c) blk
theorem cellA.snap{s:Nat}{L:List Let}{c:C}{blk:Blk}(h:cellA s L c blk): ∃ r,∀ B:Blk,B s=blk s→Go.Abs.snap B snapN c=some (lsP L,r):=by
 rcases h with rfl|h
 ·exact⟨[],fun B _=>rfl⟩
 ·obtain⟨r,h1,_⟩:=h.snapB;exact⟨r,h1⟩
theorem grown.snapE{site ty z:Nat}{es:List (List PV)}{c:C}{blk:Blk}(h:grown site ty z es (.one c) blk): ∃ r,(∀ B:Blk,B site=blk site→Go.Abs.snap B Go.Abs.snapN c=some (.sl es,r))∧(es=[]→r=[]):=by
 rcases h with ⟨h1,h2⟩|⟨h1,g,h2,h3⟩
 ·cases h2
  exact⟨[],fun B _=>by rw[h1];rfl,fun _=>rfl⟩
 ·obtain⟨r,h4,_⟩:=grown.snapB (.inr ⟨h1,g,h2,h3⟩);exact⟨r,h4,fun e=>absurd e h1⟩
section
variable {Q:Post} {env:Env} {blk:Blk} {os:List IOper} {d:Option Nat}
theorem gP_gT3r{f:Nat}{vs:List V}{s ty z:Nat}{rd:List Nat}{es:List (List PV)}{x y w:PV}(hp:PEv S f vs (.tup [.agg [.p x,grownR ty z es], .one (.p y), .one (.p w)]))(hlo:S.lone s=false)(hx:x.scalar=true)(hy:y.scalar=true)(hw:w.scalar=true)(hs:(es.all fun e=>e.all PV.scalar)=true)
  (hK: ∀ (c:C) blk',grown (s+1) ty z es (.one c) blk'→(∀ i,i≠s+1→blk' i=blk i)→RN S .all os Q (put env d (.tup [.agg [.p x,c], .one (.p y), .one (.p w)])) blk'):gP S .all (.pc f vs rd s) d os Q env blk:=by
 obtain⟨h1,h2,_⟩:=inC_grown (blk:=blk) (s:=s+1) (ty:=ty) (z:=z) (es:=es);have hal:(RV.tup [.agg [.p x,grownR ty z es], .one (.p y), .one (.p w)]).alone=true:=by
  have a:=alone_grown (ty:=ty) (z:=z) hs;simp only[RV.alone,flatR,flatR1,List.all_cons,List.all_nil,Bool.and_true] at a;simp only[RV.alone,flatR,flatRs,flatR1,List.cons_append,List.nil_append,List.append_nil,List.all_cons,List.all_nil,Bool.and_true,a,Bool.true_and];show(x.scalar&&(y.scalar&&w.scalar))=true;rw[hx,hy,hw];rfl
 refine(gP_land (v:= .tup [.agg [.p x,(inC blk (s+1) (grownR ty z es)).1], .one (.p y), .one (.p w)]) (u:=(inC blk (s+1) (grownR ty z es)).2) hp ?_).2 (hK _ _ h1 h2);rw[hlo,pureIf_false];unfold land;rw[if_pos (.inr hal)];simp[inV,flatR,flatRs,flatR1,inCs,reshV,reshVs,reshV1,inC]
theorem gP_Red{F:Nat}{ls M:List Let}{ms:List Mov}{r:RV}{f:Nat}{vs:List V}{s:Nat}(hp:PEv S f vs r)(hr:rdR F ls ms M r)(hlo:S.lone s=false)
  (hK: ∀ (c e:C) blk',cellA (s+1) M c blk'→grown (s+2) mvT 7 (mP ms) (.one e) blk'→(∀ i,i≠s+1→i≠s+2→blk' i=blk i)→RN S .all os Q (put env d (.tup [.agg [.p (.int .i64 F),c], .one e, .one (.p (.int .i64 0))])) blk'):gP S .all (.pc f vs [] s) d os Q env blk:=by
 rcases hr with ⟨rfl,rfl,rfl⟩|rfl
 ·exact(gP_land hp (by rw[hlo];rfl)).2 (hK _ _ _ (.inl rfl) grown.nil fun _ _ _=>rfl)
 ·exact gP_gTg3 hp hlo rfl rfl (sc_let _) (sc_mP _) fun c e blk' h1 h2 h3=>hK c e blk' (.inr h1) h2 h3
theorem gP_Rep{F:Nat}{M:List Let}{ms:List Mov}{r:RV}{f:Nat}{vs:List V}{rd:List Nat}{s:Nat}(hp:PEv S f vs r)(hr:repP F M ms r)(hrd:ms=[]→rd=[])(hlo:S.lone s=false)
  (hK: ∀ (c:C) blk',cellA (s+1) M c blk'→(∀ i,i≠s+1→blk' i=blk i)→RN S .all os Q (put env d (.tup [.agg [.p (.int .i64 F),c], .one (.p (.int .i64 ms.length)), .one (.p (.int .i64 0))])) blk'):gP S .all (.pc f vs rd s) d os Q env blk:=by
 rcases hr with rfl|⟨rfl,rfl,rfl⟩
 ·exact gP_gT3r hp hlo rfl rfl rfl (sc_let _) fun c blk' h1 h2=>hK c blk' (.inr h1) h2
 ·obtain rfl:=hrd rfl;exact(gP_land hp land_rep3).2 (hK _ _ (.inl rfl) fun _ _=>rfl)
end
end Go.Abs
