/-
  The examples of layer 3 hold.
-/
import Derived.Test.YtnbfnkckmfibpaaGreatDoorSa
set_option linter.unusedSimpArgs false
set_option linter.unusedVariables false
set_option linter.unusedSectionVars false
set_option maxRecDepth 1000000
namespace Go.Abs
theorem QU : nX S 60 5 [] = some (.one (.p (.bool true))) := by kernel_rfl
theorem N8 : aH S 5 [] (.one (.p (.bool true))) := ba S 60 QU
end Go.Abs
