/-
  The examples of layer 3 hold.
-/
import Derived.Test.YtgjjncbeombnbaaGreatDoorSa
set_option linter.all false
set_option maxRecDepth 1000000
namespace Go.Abs
abbrev il(k:Int):PV:=.int .i64 k
theorem ars:DC S 60 5 []=some (.one (.p (.bool true))):=ah
theorem art:aI S 5 [] (.one (.p (.bool true))):=ZL S 60 ars
end Go.Abs
