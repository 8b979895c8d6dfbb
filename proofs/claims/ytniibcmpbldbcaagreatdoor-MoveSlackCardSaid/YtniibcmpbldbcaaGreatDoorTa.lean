/-
  The examples of layer 3 hold.
-/
import Derived.Test.YtniibcmpbldbcaaGreatDoorSa
set_option linter.all false
set_option maxRecDepth 1000000
namespace Go.Abs
theorem alS:BO S 60 5 []=some (.one (.p (.bool true))):=ah
theorem alT:aH S 5 [] (.one (.p (.bool true))):=WI S 60 alS
end Go.Abs
