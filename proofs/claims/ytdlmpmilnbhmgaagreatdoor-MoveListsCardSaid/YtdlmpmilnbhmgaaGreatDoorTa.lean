/-
  The examples of layer 3 hold.
-/
import Derived.Test.YtdlmpmilnbhmgaaGreatDoorSa
set_option linter.all false
set_option maxRecDepth 1000000
namespace Go.Abs
abbrev il(k:Int):PV:=.int .i64 k
theorem aiY:Av S 60 5 []=some (.one (.p (.bool true))):=ah
theorem aiZ:aC S 5 [] (.one (.p (.bool true))):=gQ S 60 aiY
end Go.Abs
