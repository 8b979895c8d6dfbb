/-
  The examples of layer 3 hold.
-/
import Derived.Test.YtfgognempokgkaaGreatDoorSa
set_option linter.all false
set_option maxRecDepth 1000000
namespace Go.Abs
theorem acd:wg S 60 5 []=some (.one (.p (.bool true))):=ah
theorem ace:aE S 5 [] (.one (.p (.bool true))):=OG S 60 acd
end Go.Abs
