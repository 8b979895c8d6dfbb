/-
  Which moves are wrong: the second part.
-/
import Derived.Test.YtnbfnkckmfibpaaGreatDoorVe
set_option linter.unusedSimpArgs false
set_option linter.unusedVariables false
set_option linter.unusedSectionVars false
set_option maxRecDepth 100000
set_option maxHeartbeats 16000000
namespace Go.Abs
section
variable {F:Nat} {ls:List ae} {a b c:Int} {l o:Bool} {sg:Int}
theorem Ji(hl:ls.length<=1000000):aH S 54 [kZ F ls,dL 5 a b c l o sg] (rb (!aK F ls 5 a b c l o sg)):=by
 unfold aK;simp only[Int.reduceEq,if_true,if_false,or_self,not_lt];refine aG c54 ?_;simp only[go_sem,i54,s89,eM Pl,PE,s90,aa B9,bne]
 repeat' ((first|apply gO|apply gQ|apply gT|apply gU|apply gV|apply gX)<;>intro he<;>simp only[go_sem, *,s90,aa B9,aa B8,aa B7,aa B6,aa B5,s91,aa (cV a),bne])
 all_goals(first|done|exact au|exact⟨au,rfl⟩|rfl)
theorem Jg(hl:ls.length<=1000000):aH S 54 [kZ F ls,dL 7 a b c l o sg] (rb (!aK F ls 7 a b c l o sg)):=by
 unfold aK;simp only[Int.reduceEq,if_true,if_false,or_self,not_lt];refine aG c54 ?_;simp only[go_sem,i54,s89,eM Pj,KI,s90,aa yc,aa ya,bne]
 repeat' ((first|apply gO|apply gQ|apply gT|apply gU|apply gV|apply gX)<;>intro he<;>simp only[go_sem, *,s90,aa yc,aa ya,aa x8,aa xZ,aa xY,s91,aa (cV a),aa (cV b),bne])
 all_goals(first|done|exact au|exact⟨au,rfl⟩|rfl)
theorem Jf(hl:ls.length<=1000000):aH S 54 [kZ F ls,dL 8 a b c l o sg] (rb (!aK F ls 8 a b c l o sg)):=by
 unfold aK;simp only[Int.reduceEq,if_true,if_false,or_self,not_lt];refine aG c54 ?_;simp only[go_sem,i54,s89,eM Pi,Gt,s90,aa qN,aa qM,aa qL]
 repeat' ((first|apply gO|apply gQ|apply gT|apply gU|apply gV|apply gX)<;>intro he<;>simp only[go_sem, *,s90,aa qN,aa qM,aa qK,aa qJ,s91,aa (cV a),aa (cV b),aa (cV c),bne])
 all_goals(first|done|exact au|exact⟨au,rfl⟩|rfl)
end
end Go.Abs
