/-
  The examples of layer 3 hold.
-/
import Derived.Test.YtpfkjhlcoghioaaGreatDoorSa
set_option linter.all false
set_option maxRecDepth 1000000
namespace Go.Abs
abbrev il(k:Int):PV:=.int .i64 k
theorem avy:HH S 60 5 []=some (.one (.p (.bool true))):=ah
theorem avz:aC S 5 [] (.one (.p (.bool true))):=jY S 60 avy
end Go.Abs
