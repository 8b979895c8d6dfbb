/-
  The examples of layer 3 hold.
-/
import Derived.Test.YtenindeoffokoaaGreatDoorSa
set_option linter.all false
set_option maxRecDepth 1000000
namespace Go.Abs
abbrev il(k:Int):PV:=.int .i64 k
theorem asG:Fm S 60 5 []=some (.one (.p (.bool true))):=ah
theorem asH:aL S 5 [] (.one (.p (.bool true))):=acq S 60 asG
end Go.Abs
