/-
  A part of a proof.
-/
import Derived.Test.YtjjdebhkbfeniaaGreatDoorWw
set_option linter.unusedSimpArgs false
set_option linter.unusedVariables false
set_option linter.unusedSectionVars false
set_option maxRecDepth 100000
set_option maxHeartbeats 16000000
namespace Go.Abs
abbrev vis(x k:Nat)(sg:Int)(ov:Bool):Pc:=⟨⟨2,0,0,((x+k:Nat):Int),sg,ov⟩,false⟩
abbrev lAt(F:Nat)(ls:List Let)(d:Nat):Nat:=(leftL F ls).getD d 0
abbrev pmF(x:Nat)(sg:Int)(o:Bool):List Pc:=[vis x 1 sg o,vis x 2 (-sg) o]
abbrev pmS(x:Nat)(sg:Int)(o same:Bool):List Pc:=if same then [vis x 2 (-sg) (!o),vis x 1 sg (!o)] else [vis x 1 sg (!o),vis x 2 (-sg) (!o)]
def pmV(ls:List Let)(av bv:Nat)(l o same other:Bool):Option (List Pc):=
 if !same&& !other then none
 else
  let sg:Int:=if o==(same==l) then 1 else -1
  let first:=pmF (cnt Let.isC ls/2) sg o
  let second:=pmS (cnt Let.isC ls/2) sg o same
  some (if av<bv then insAt (insAt (pieces ls) second bv) first av else insAt (insAt (pieces ls) first av) second bv)
def pmR(F:Nat)(ls:List Let)(av bv:Nat)(l o:Bool):Option (List Pc):=
 if l then pmV ls av bv l o ((lAt F ls (2*bv):Int)==(lAt F ls (2*av):Int)) ((lAt F ls (2*bv+1):Int)==(lAt F ls (2*av):Int))
 else pmV ls av bv l o ((lAt F ls (2*bv+1):Int)==(lAt F ls (2*av+1):Int)) ((lAt F ls (2*bv):Int)==(lAt F ls (2*av+1):Int))
end Go.Abs
