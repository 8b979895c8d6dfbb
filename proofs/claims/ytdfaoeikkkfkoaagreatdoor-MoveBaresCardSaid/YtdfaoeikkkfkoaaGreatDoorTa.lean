/-
  The examples that the statements of layer 3 check hold: the abstract machine, run by the kernel.
-/
import Derived.Test.YtdfaoeikkkfkoaaGreatDoorSa
set_option linter.unusedSimpArgs false
set_option linter.unusedVariables false
set_option linter.unusedSectionVars false
namespace Go.Abs
set_option maxRecDepth 1000000
theorem known3 : callPF S 60 4 [] = some (.one (.p (.bool true))) := by kernel_rfl
theorem known3' : PEv S 4 [] (.one (.p (.bool true))) := PEv_eval S 60 known3
end Go.Abs
