/-
  The examples of layer 4 hold.
-/
import Derived.Test.YtjdfokaegjgddaaGreatDoorSa
set_option linter.all false
set_option maxRecDepth 1000000
namespace Go.Abs
def Q9:List PV:=[il 1,il 0,il 1,il 0,il 0,.bool false]
def U2:List PV:=[il 1,il 1,il 1,il 0,il 0,.bool false]
def ua2_:List PV:=[il 2,il 0,il 0,il 1,il 1,.bool false]
def ua3_:List PV:=[il 2,il 0,il 0,il 1,il 1,.bool true]
def KV:List PV:=[il 4,il 1,il 0,il 0,.bool false,.bool false,il 0]
def ua5_:List PV:=[il 1,il 0,il 2,il 0,il 0,.bool false]
def U1:List PV:=[il 1,il 0,il 0,il 0,.bool false,.bool false,il 0]
def CF:List (List PV):=[Q9,ua3_,ua2_,U2]
def sL:List (List PV):=[Q9,U2]
def KU:List (List PV):=[U2,Q9]
def KT:List (List PV):=[Q9,ua5_]
def Xw:iA:=(38,[.agg [.p (il 2),.p (.sl CF)]],.tup [.agg [.p (il 4),.p (il 1),.p (il 0),.p (il 0),.p (.bool false),.p (.bool false),.p (il 0)],.one (.p (.bool true))])::([]:iA)
theorem Xv:cZ S Xw:=.cons (cQ cZ.nil 60 (by kernel_rfl)) cZ.nil
def Xu:iA:=(38,[.agg [.p (il 2),.p (.sl sL)]],.tup [.agg [.p (il 0),.p (il 0),.p (il 0),.p (il 0),.p (.bool false),.p (.bool false),.p (il 0)],.one (.p (.bool false))])::Xw
theorem Xt:cZ S Xu:=.cons (cQ Xv 60 (by kernel_rfl)) Xv
def Xp:iA:=(32,[.agg [.p (il 2),.p (.sl CF)]],.tup [.agg [.p (il 2),.own 44 6 sL],.one (.own 36 7 [KV])])::Xu
theorem Xo:cZ S Xp:=.cons (cQ Xt 60 (by kernel_rfl)) Xt
def Xn:iA:=(13,[.agg [.p (il 2),.p (.sl CF)]],.tup [.agg [.p (il 2),.own 44 6 sL],.one (.own 36 7 [KV]),.one (.p (il 0))])::Xp
theorem Xm:cZ S Xn:=.cons (cQ Xo 60 (by kernel_rfl)) Xo
def Xl:iA:=(6,[.agg [.p (il 2),.p (.sl CF)]],.tup [.agg [.p (il 2),.p (.sl CF)],.one (.p (il 0))])::Xn
theorem Xk:cZ S Xl:=.cons (cQ Xm 60 (by kernel_rfl)) Xm
def Xj:iA:=(6,[.agg [.p (il 2),.p (.sl sL)]],.tup [.agg [.p (il 2),.p (.sl sL)],.one (.p (il 0))])::Xl
theorem Xi:cZ S Xj:=.cons (cQ Xk 60 (by kernel_rfl)) Xk
def Xh:iA:=(58,[.agg [.p (il 2),.p (.sl sL)],.one (.p (.sl []))],.agg [.p (il 2),.p (.sl sL),.p (il 2),.p (.sl sL),.p (.sl [])])::Xj
theorem Xg:cZ S Xh:=.cons (cQ Xi 60 (by kernel_rfl)) Xi
def Xf:iA:=(16,[.agg [.p (il 2),.p (.sl CF)],.one (.p (il 10))],.tup [.agg [.p (il 2),.p (.sl sL),.own 36 7 [KV],.p (.bool true)],.one (.p (il 0))])::Xh
theorem Xe:cZ S Xf:=.cons (cQ Xg 60 (by kernel_rfl)) Xg
def Xd:iA:=(6,[.agg [.p (il 2),.p (.sl KU)]],.tup [.agg [.p (il 2),.p (.sl sL)],.one (.p (il 0))])::Xf
theorem Xb:cZ S Xd:=.cons (cQ Xe 60 (by kernel_rfl)) Xe
def Xa:iA:=(32,[.agg [.p (il 2),.p (.sl sL)]],.tup [.agg [.p (il 2),.p (.sl sL)],.one (.p (.nils))])::Xd
theorem W9:cZ S Xa:=.cons (cQ Xb 60 (by kernel_rfl)) Xb
def Uy:iA:=(16,[.agg [.p (il 2),.p (.sl KU)],.one (.p (il 10))],.tup [.agg [.p (il 2),.p (.sl sL),.p (.nils),.p (.bool true)],.one (.p (il 0))])::Xa
theorem Ux:cZ S Uy:=.cons (cQ W9 60 (by kernel_rfl)) W9
def Uw:iA:=(14,[.agg [.p (il 2),.p (.sl CF)],.agg [.p (il 2),.p (.sl KU)],.one (.p (il 10))],.tup [.agg [.own 36 7 [KV],.p (.nils)],.one (.p (il 0))])::Uy
theorem Uv:cZ S Uw:=.cons (cQ Ux 60 (by kernel_rfl)) Ux
def Uu:iA:=(6,[.agg [.p (il 1),.p (.sl KT)]],.tup [.agg [.p (il 1),.p (.sl KT)],.one (.p (il 0))])::Uw
theorem Ut:cZ S Uu:=.cons (cQ Uv 60 (by kernel_rfl)) Uv
def Us:iA:=(38,[.agg [.p (il 1),.p (.sl KT)]],.tup [.agg [.p (il 1),.p (il 0),.p (il 0),.p (il 0),.p (.bool false),.p (.bool false),.p (il 0)],.one (.p (.bool true))])::Uu
theorem Ur:cZ S Us:=.cons (cQ Ut 60 (by kernel_rfl)) Ut
def Uq:iA:=(38,[.agg [.p (il 1),.p (.sl [])]],.tup [.agg [.p (il 0),.p (il 0),.p (il 0),.p (il 0),.p (.bool false),.p (.bool false),.p (il 0)],.one (.p (.bool false))])::Us
theorem Up:cZ S Uq:=.cons (cQ Ur 60 (by kernel_rfl)) Ur
def Uo:iA:=(32,[.agg [.p (il 1),.p (.sl KT)]],.tup [.agg [.p (il 1),.p (.nils)],.one (.own 36 7 [U1])])::Uq
theorem Un:cZ S Uo:=.cons (cQ Up 60 (by kernel_rfl)) Up
def Um:iA:=(6,[.agg [.p (il 1),.p (.sl [])]],.tup [.agg [.p (il 1),.p (.nils)],.one (.p (il 0))])::Uo
theorem Ul:cZ S Um:=.cons (cQ Un 60 (by kernel_rfl)) Un
def Uk:iA:=(58,[.agg [.p (il 1),.p (.sl [])],.one (.p (.sl []))],.agg [.p (il 1),.p (.sl []),.p (il 1),.p (.nils),.p (.sl [])])::Um
theorem Uj:cZ S Uk:=.cons (cQ Ul 60 (by kernel_rfl)) Ul
def Ui:iA:=(16,[.agg [.p (il 1),.p (.sl KT)],.one (.p (il 10))],.tup [.agg [.p (il 1),.p (.sl []),.own 36 7 [U1],.p (.bool true)],.one (.p (il 0))])::Uk
theorem Uh:cZ S Ui:=.cons (cQ Uj 60 (by kernel_rfl)) Uj
def Ug:iA:=(15,[.agg [.p (il 1),.p (.sl KT)],.one (.p (il 10))],.tup [.one (.own 36 7 [U1]),.one (.p (il 0))])::Ui
theorem Uf:cZ S Ug:=.cons (cQ Uh 60 (by kernel_rfl)) Uh
def Ue:iA:=(15,[.agg [.p (il 2),.p (.sl KU)],.one (.p (il 10))],.tup [.one (.p (.nils)),.one (.p (il 9))])::Ug
theorem Ud:cZ S Ue:=.cons (cQ Uf 60 (by kernel_rfl)) Uf
def Uc:iA:=(25,[.agg [.p (il 2),.p (.sl CF)],.one (.p (.sl [KV]))],.tup [.agg [.p (il 2),.own 44 6 sL],.one (.p (.bool true))])::Ue
theorem Ub:cZ S Uc:=.cons (cQ Ud 60 (by kernel_rfl)) Ud
def Ua:iA:=(25,[.agg [.p (il 2),.p (.sl KU)],.one (.p (.sl []))],.tup [.agg [.p (il 2),.own 44 6 sL],.one (.p (.bool true))])::Uc
theorem T9:cZ S Ua:=.cons (cQ Ub 60 (by kernel_rfl)) Ub
def Xs:iA:=(9,[.agg [.p (il 2),.p (.sl CF)],.agg [.p (il 2),.p (.sl KU)],.agg [.p (.sl [KV]),.p (.sl [])]],.one (.p (.bool true)))::Ua
theorem Xq:cZ S Xs:=.cons (cQ T9 60 (by kernel_rfl)) T9
theorem SJ:bz S 5 [] (.one (.p (.bool true))):=cQ Xq 60 (by kernel_rfl)
end Go.Abs
