/-
  A part of a proof.
-/
import Derived.Test.YtchbcakfkniimaaGreatDoorWa
set_option linter.unusedSimpArgs false
set_option linter.unusedVariables false
set_option linter.unusedSectionVars false
set_option maxRecDepth 100000
set_option maxHeartbeats 16000000
namespace Go.Abs
def sameB(l o:Let):Bool:=(o.kind==l.kind&&o.gate==l.gate)&&o.rank==l.rank
def pairB(l o:Let):Bool:=((o.kind==l.kind&&o.id==l.id)&&o.sign==l.sign)&& !(o.over==l.over)
def okP(f:Int)(ls:List Let)(l:Let):Bool:= !(((((((l.id !=0||l.sign !=0)||l.over)||decide (l.gate<0))||decide (f<l.gate))||decide (l.rank<1))||decide ((cnt (inG l.gate) ls:Int)<l.rank))||(((cnt (sameB l) ls:Nat):Int)!=1))
def okC(ls:List Let)(l:Let):Bool:= !((((((l.gate !=0||l.rank !=0)||(l.sign !=1&&l.sign != -1))||decide (l.id<1))||decide (((cnt Let.isC ls/2:Nat):Int)<l.id))||(((cnt (pairB l) ls:Nat):Int)!=1))||(((cnt (isId l.id) ls:Nat):Int)!=2))
def okL(f:Int)(ls:List Let)(l:Let):Bool:=if l.kind==1 then okP f ls l else if l.kind==2 then okC ls l else false
end Go.Abs
