/-
  Which moves are wrong: the first part.
-/
import Derived.Test.YtnbfnkckmfibpaaGreatDoorVd
set_option linter.unusedSimpArgs false
set_option linter.unusedVariables false
set_option linter.unusedSectionVars false
set_option maxRecDepth 100000
set_option maxHeartbeats 16000000
namespace Go.Abs
abbrev jx(s:ByteArray):V:= .one (.p (.str s))
abbrev uT(s:ByteArray):RV:= .one (.p (.str s))
theorem Pp:aH S 89 [vi 1] (uT ⟨#[65]⟩):=ba S 20 (by kernel_rfl)
theorem Po:aH S 89 [vi 2] (uT ⟨#[65,66,67]⟩):=ba S 20 (by kernel_rfl)
theorem Pn:aH S 89 [vi 3] (uT ⟨#[65,66]⟩):=ba S 20 (by kernel_rfl)
theorem Pm:aH S 89 [vi 4] (uT ⟨#[65]⟩):=ba S 20 (by kernel_rfl)
theorem Pl:aH S 89 [vi 5] (uT ⟨#[65,79,83]⟩):=ba S 20 (by kernel_rfl)
theorem Pk:aH S 89 [vi 6] (uT ⟨#[65,66]⟩):=ba S 20 (by kernel_rfl)
theorem Pj:aH S 89 [vi 7] (uT ⟨#[65,66,76,79]⟩):=ba S 20 (by kernel_rfl)
theorem Pi:aH S 89 [vi 8] (uT ⟨#[65,66,67]⟩):=ba S 20 (by kernel_rfl)
theorem Ph:aH S 89 [vi 9] (uT ⟨#[65]⟩):=ba S 20 (by kernel_rfl)
theorem Jv:aH S 89 [vi 10] (uT ⟨#[65]⟩):=ba S 20 (by kernel_rfl)
theorem nu:aH S 90 [jx ⟨#[65]⟩, .one (.p (.int .u8 66))] (rb false):=ba S 30 (by kernel_rfl)
theorem nr:aH S 90 [jx ⟨#[65]⟩, .one (.p (.int .u8 67))] (rb false):=ba S 30 (by kernel_rfl)
theorem nq:aH S 90 [jx ⟨#[65]⟩, .one (.p (.int .u8 76))] (rb false):=ba S 30 (by kernel_rfl)
theorem nn:aH S 90 [jx ⟨#[65]⟩, .one (.p (.int .u8 79))] (rb false):=ba S 30 (by kernel_rfl)
theorem nl:aH S 90 [jx ⟨#[65]⟩, .one (.p (.int .u8 83))] (rb false):=ba S 30 (by kernel_rfl)
theorem uq:aH S 90 [jx ⟨#[65,66]⟩, .one (.p (.int .u8 66))] (rb true):=ba S 30 (by kernel_rfl)
theorem uo:aH S 90 [jx ⟨#[65,66]⟩, .one (.p (.int .u8 67))] (rb false):=ba S 30 (by kernel_rfl)
theorem um:aH S 90 [jx ⟨#[65,66]⟩, .one (.p (.int .u8 76))] (rb false):=ba S 30 (by kernel_rfl)
theorem uk:aH S 90 [jx ⟨#[65,66]⟩, .one (.p (.int .u8 79))] (rb false):=ba S 30 (by kernel_rfl)
theorem uj:aH S 90 [jx ⟨#[65,66]⟩, .one (.p (.int .u8 83))] (rb false):=ba S 30 (by kernel_rfl)
theorem qN:aH S 90 [jx ⟨#[65,66,67]⟩, .one (.p (.int .u8 66))] (rb true):=ba S 30 (by kernel_rfl)
theorem qM:aH S 90 [jx ⟨#[65,66,67]⟩, .one (.p (.int .u8 67))] (rb true):=ba S 30 (by kernel_rfl)
theorem qL:aH S 90 [jx ⟨#[65,66,67]⟩, .one (.p (.int .u8 76))] (rb false):=ba S 30 (by kernel_rfl)
theorem qK:aH S 90 [jx ⟨#[65,66,67]⟩, .one (.p (.int .u8 79))] (rb false):=ba S 30 (by kernel_rfl)
theorem qJ:aH S 90 [jx ⟨#[65,66,67]⟩, .one (.p (.int .u8 83))] (rb false):=ba S 30 (by kernel_rfl)
theorem yc:aH S 90 [jx ⟨#[65,66,76,79]⟩, .one (.p (.int .u8 66))] (rb true):=ba S 30 (by kernel_rfl)
theorem ya:aH S 90 [jx ⟨#[65,66,76,79]⟩, .one (.p (.int .u8 67))] (rb false):=ba S 30 (by kernel_rfl)
theorem x8:aH S 90 [jx ⟨#[65,66,76,79]⟩, .one (.p (.int .u8 76))] (rb true):=ba S 30 (by kernel_rfl)
theorem xZ:aH S 90 [jx ⟨#[65,66,76,79]⟩, .one (.p (.int .u8 79))] (rb true):=ba S 30 (by kernel_rfl)
theorem xY:aH S 90 [jx ⟨#[65,66,76,79]⟩, .one (.p (.int .u8 83))] (rb false):=ba S 30 (by kernel_rfl)
theorem B9:aH S 90 [jx ⟨#[65,79,83]⟩, .one (.p (.int .u8 66))] (rb false):=ba S 30 (by kernel_rfl)
theorem B8:aH S 90 [jx ⟨#[65,79,83]⟩, .one (.p (.int .u8 67))] (rb false):=ba S 30 (by kernel_rfl)
theorem B7:aH S 90 [jx ⟨#[65,79,83]⟩, .one (.p (.int .u8 76))] (rb false):=ba S 30 (by kernel_rfl)
theorem B6:aH S 90 [jx ⟨#[65,79,83]⟩, .one (.p (.int .u8 79))] (rb true):=ba S 30 (by kernel_rfl)
theorem B5:aH S 90 [jx ⟨#[65,79,83]⟩, .one (.p (.int .u8 83))] (rb true):=ba S 30 (by kernel_rfl)
theorem PG:mJ .eql ⟨#[65]⟩ ⟨#[]⟩=some (.bool false):=by kernel_rfl
theorem NW:mJ .eql ⟨#[65,66]⟩ ⟨#[]⟩=some (.bool false):=by kernel_rfl
theorem Gt:mJ .eql ⟨#[65,66,67]⟩ ⟨#[]⟩=some (.bool false):=by kernel_rfl
theorem KI:mJ .eql ⟨#[65,66,76,79]⟩ ⟨#[]⟩=some (.bool false):=by kernel_rfl
theorem PE:mJ .eql ⟨#[65,79,83]⟩ ⟨#[]⟩=some (.bool false):=by kernel_rfl
theorem not_lt{a b:Int}:decide (a<b)= !decide (b<=a):=by
 by_cases h:a<b
 ·have: ¬ b<=a:=by omega
  simp[h,this]
 ·have:b<=a:=by omega
  simp[h,this]
section
variable {F:Nat} {ls:List ae} {a b c:Int} {l o:Bool} {sg:Int}
theorem H8(F:Nat)(ls:List ae)(b c:Int):(decide (0<=b)&&(decide (b<=(F:Int))&&(decide (0<=c)&&decide (c<=((aD (o0 b) ls:Nat):Int)))))=(decide (0<=b)&&(decide (b<=(F:Int))&&(decide (0<=c)&&decide (c<=(cg ls b.toNat:Int))))):=by
 by_cases h:0<=b
 ·rw[show aD (o0 b) ls=cg ls b.toNat by rw[cg,aD,aD];congr 1;funext x;exact mr b h x]
 ·simp[h]
theorem Jm(hl:ls.length<=1000000):aH S 54 [kZ F ls,dL 1 a b c l o sg] (rb (!aK F ls 1 a b c l o sg)):=by
 unfold aK;simp only[Int.reduceEq,if_true,if_false,or_false,or_self,not_lt];refine aG c54 ?_;simp only[go_sem,i54,s89,eM Pp,PG,s90,aa nu,bne]
 repeat' ((first|apply gO|apply gQ|apply gT|apply gU|apply gV|apply gX)<;>intro he<;>simp only[go_sem, *,s90,aa nu,aa nr,aa nq,aa nn,aa nl,s91,aa (cV a),bne])
 all_goals(first|done|exact au|exact⟨au,rfl⟩|rfl)
theorem Jl(hl:ls.length<=1000000):aH S 54 [kZ F ls,dL 2 a b c l o sg] (rb (!aK F ls 2 a b c l o sg)):=by
 unfold aK;simp only[Int.reduceEq,if_true,if_false,or_self,not_lt];have pl:=NI (F:=F) b c hl;rw[H8] at pl;generalize (decide (0<=b)&&(decide (b<=(F:Int))&&(decide (0<=c)&&decide (c<=(cg ls b.toNat:Int)))))=PB at pl ⊢;have hz:(ls.length==0)=((ls.length:Int)==0):=by rw[abj];simp
 rw[hz];refine aG c54 ?_;simp only[go_sem,i54,s89,eM Po,Gt,s90,aa qN,aa qM,aa qL];repeat' ((first|apply gO|apply gQ|apply gT|apply gU|apply gV|apply gX)<;>intro he<;>simp only[go_sem, *,s90,aa qK,aa qJ,s91,aa (cV a),s92,aa pl,bne])
 all_goals(first|done|exact au|exact⟨au,rfl⟩|rfl)
theorem Jj(hl:ls.length<=1000000):aH S 54 [kZ F ls,dL 4 a b c l o sg] (rb (!aK F ls 4 a b c l o sg)):=by
 unfold aK;simp only[Int.reduceEq,if_true,if_false,or_false,or_true,or_self,not_lt];refine aG c54 ?_;simp only[go_sem,i54,s89,eM Pm,PG,s90,aa nu,bne]
 repeat' ((first|apply gO|apply gQ|apply gT|apply gU|apply gV|apply gX)<;>intro he<;>simp only[go_sem, *,s90,aa nu,aa nr,aa nq,aa nn,aa nl,s91,aa (cV a),bne])
 all_goals(first|done|exact au|exact⟨au,rfl⟩|rfl)
end
section
variable {F:Nat} {ls:List ae} {a b c:Int} {l o:Bool} {sg:Int}
theorem Jk(hl:ls.length<=1000000):aH S 54 [kZ F ls,dL 3 a b c l o sg] (rb (!aK F ls 3 a b c l o sg)):=by
 unfold aK;simp only[Int.reduceEq,if_true,if_false,or_false,or_self,not_lt];refine aG c54 ?_;simp only[go_sem,i54,s89,eM Pn,NW,s90,aa uq,aa uo,bne]
 repeat' ((first|apply gO|apply gQ|apply gT|apply gU|apply gV|apply gX)<;>intro he<;>simp only[go_sem, *,s90,aa uq,aa uo,aa um,aa uk,aa uj,s91,aa (cV a),aa (cV b),bne])
 all_goals(first|done|exact au|exact⟨au,rfl⟩|rfl)
theorem Jh(hl:ls.length<=1000000):aH S 54 [kZ F ls,dL 6 a b c l o sg] (rb (!aK F ls 6 a b c l o sg)):=by
 unfold aK;simp only[Int.reduceEq,if_true,if_false,or_true,or_self,not_lt];refine aG c54 ?_;simp only[go_sem,i54,s89,eM Pk,NW,s90,aa uq,aa uo,bne]
 repeat' ((first|apply gO|apply gQ|apply gT|apply gU|apply gV|apply gX)<;>intro he<;>simp only[go_sem, *,s90,aa uq,aa uo,aa um,aa uk,aa uj,s91,aa (cV a),aa (cV b),bne])
 all_goals(first|done|exact au|exact⟨au,rfl⟩|rfl)
theorem Je(hl:ls.length<=1000000):aH S 54 [kZ F ls,dL 9 a b c l o sg] (rb (!aK F ls 9 a b c l o sg)):=by
 unfold aK;simp only[Int.reduceEq,if_true,if_false,or_false,or_true,or_self,not_lt];refine aG c54 ?_;simp only[go_sem,i54,s89,eM Ph,PG,s90,aa nu,bne]
 repeat' ((first|apply gO|apply gQ|apply gT|apply gU|apply gV|apply gX)<;>intro he<;>simp only[go_sem, *,s90,aa nu,aa nr,aa nq,aa nn,aa nl,s91,aa (cV a),bne])
 all_goals(first|done|exact au|exact⟨au,rfl⟩|rfl)
theorem Hl(hl:ls.length<=1000000):aH S 54 [kZ F ls,dL 10 a b c l o sg] (rb (!aK F ls 10 a b c l o sg)):=by
 unfold aK;simp only[Int.reduceEq,if_true,if_false,or_true,or_self,not_lt];refine aG c54 ?_;simp only[go_sem,i54,s89,eM Jv,PG,s90,aa nu,bne]
 repeat' ((first|apply gO|apply gQ|apply gT|apply gU|apply gV|apply gX)<;>intro he<;>simp only[go_sem, *,s90,aa nu,aa nr,aa nq,aa nn,aa nl,s91,aa (cV a),bne])
 all_goals(first|done|exact au|exact⟨au,rfl⟩|rfl)
end
end Go.Abs
