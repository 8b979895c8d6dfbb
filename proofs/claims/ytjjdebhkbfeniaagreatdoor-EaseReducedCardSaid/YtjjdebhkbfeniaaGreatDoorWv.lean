/-
  A part of a proof.
-/
import Derived.Test.YtjjdebhkbfeniaaGreatDoorWt
set_option linter.unusedSimpArgs false
set_option linter.unusedVariables false
set_option linter.unusedSectionVars false
set_option maxRecDepth 100000
set_option maxHeartbeats 16000000
namespace Go.Abs
def setGR(l:List Pc)(i:Nat)(g r:Int):List Pc:=l.set i {(l.getD i ⟨noLet,false⟩) with l:={(l.getD i ⟨noLet,false⟩).l with gate:=g,rank:=r}}
def trR(F:Nat)(ls:List Let)(av:Nat):Option (List Pc):=
 if ((pA ls av).l.kind==1)&&(decide ((pA ls av).l.gate<(F:Int))&&((pA ls av).l.rank==(cg ls (pA ls av).l.gate.toNat:Int)))
 then some (setGR (shiftL (pieces ls) ((pA ls av).l.gate+1) 0 1) av ((pA ls av).l.gate+1) 1) else none
def tlR(ls:List Let)(av:Nat):Option (List Pc):=
 if ((pA ls av).l.kind==1)&&(decide (0<(pA ls av).l.gate)&&((pA ls av).l.rank==1))
 then some (setGR (shiftL (pieces ls) (pA ls av).l.gate 1 (-1)) av ((pA ls av).l.gate - 1) ((cg ls ((pA ls av).l.gate - 1).toNat+1:Nat):Int)) else none
end Go.Abs
