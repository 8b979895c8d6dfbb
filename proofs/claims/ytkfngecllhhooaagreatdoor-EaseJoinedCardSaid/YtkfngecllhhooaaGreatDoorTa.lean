/-
  The examples of layer 4 hold.
-/
import Derived.Test.YtkfngecllhhooaaGreatDoorSa
set_option linter.all false
set_option maxRecDepth 1000000
namespace Go.Abs
def SB:List PV:=[il 1,il 0,il 1,il 0,il 0,.bool false]
def Wo:List PV:=[il 1,il 1,il 1,il 0,il 0,.bool false]
def ua2_:List PV:=[il 2,il 0,il 0,il 1,il 1,.bool false]
def ua3_:List PV:=[il 2,il 0,il 0,il 1,il 1,.bool true]
def Ln:List PV:=[il 4,il 1,il 0,il 0,.bool false,.bool false,il 0]
def ua5_:List PV:=[il 1,il 0,il 2,il 0,il 0,.bool false]
def Wn:List PV:=[il 1,il 0,il 0,il 0,.bool false,.bool false,il 0]
def CV:List (List PV):=[SB,ua3_,ua2_,Wo]
def sY:List (List PV):=[SB,Wo]
def Lm:List (List PV):=[Wo,SB]
def Ll:List (List PV):=[SB,ua5_]
def Zp:iu:=(26,[.agg [.p (il 2),.p (.sl CV)]],.tup [.agg [.p (il 4),.p (il 1),.p (il 0),.p (il 0),.p (.bool false),.p (.bool false),.p (il 0)],.one (.p (.bool true))])::([]:iu)
theorem Zo:cQ S Zp:=.cons (cn cQ.nil 60 (by kernel_rfl)) cQ.nil
def Zn:iu:=(26,[.agg [.p (il 2),.p (.sl sY)]],.tup [.agg [.p (il 0),.p (il 0),.p (il 0),.p (il 0),.p (.bool false),.p (.bool false),.p (il 0)],.one (.p (.bool false))])::Zp
theorem Zm:cQ S Zn:=.cons (cn Zo 60 (by kernel_rfl)) Zo
def Zj:iu:=(21,[.agg [.p (il 2),.p (.sl CV)]],.tup [.agg [.p (il 2),.own 38 6 sY],.one (.own 52 7 [Ln])])::Zn
theorem Zi:cQ S Zj:=.cons (cn Zm 60 (by kernel_rfl)) Zm
def Zh:iu:=(11,[.agg [.p (il 2),.p (.sl CV)]],.tup [.agg [.p (il 2),.own 38 6 sY],.one (.own 52 7 [Ln]),.one (.p (il 0))])::Zj
theorem Zg:cQ S Zh:=.cons (cn Zi 60 (by kernel_rfl)) Zi
def Zf:iu:=(23,[.agg [.p (il 2),.p (.sl CV)]],.tup [.agg [.p (il 2),.p (.sl CV)],.one (.p (il 0))])::Zh
theorem Ze:cQ S Zf:=.cons (cn Zg 60 (by kernel_rfl)) Zg
def Zd:iu:=(23,[.agg [.p (il 2),.p (.sl sY)]],.tup [.agg [.p (il 2),.p (.sl sY)],.one (.p (il 0))])::Zf
theorem Zc:cQ S Zd:=.cons (cn Ze 60 (by kernel_rfl)) Ze
def Zb:iu:=(41,[.agg [.p (il 2),.p (.sl sY)],.one (.p (.sl []))],.agg [.p (il 2),.p (.sl sY),.p (il 2),.p (.sl sY),.p (.sl [])])::Zd
theorem Za:cQ S Zb:=.cons (cn Zc 60 (by kernel_rfl)) Zc
def Y0:iu:=(13,[.agg [.p (il 2),.p (.sl CV)],.one (.p (il 10))],.tup [.agg [.p (il 2),.p (.sl sY),.own 52 7 [Ln],.p (.bool true)],.one (.p (il 0))])::Zb
theorem YZ:cQ S Y0:=.cons (cn Za 60 (by kernel_rfl)) Za
def YY:iu:=(23,[.agg [.p (il 2),.p (.sl Lm)]],.tup [.agg [.p (il 2),.p (.sl sY)],.one (.p (il 0))])::Y0
theorem YX:cQ S YY:=.cons (cn YZ 60 (by kernel_rfl)) YZ
def YW:iu:=(21,[.agg [.p (il 2),.p (.sl sY)]],.tup [.agg [.p (il 2),.p (.sl sY)],.one (.p (.nils))])::YY
theorem YV:cQ S YW:=.cons (cn YX 60 (by kernel_rfl)) YX
def VY:iu:=(13,[.agg [.p (il 2),.p (.sl Lm)],.one (.p (il 10))],.tup [.agg [.p (il 2),.p (.sl sY),.p (.nils),.p (.bool true)],.one (.p (il 0))])::YW
theorem VX:cQ S VY:=.cons (cn YV 60 (by kernel_rfl)) YV
def VW:iu:=(5,[.agg [.p (il 2),.p (.sl CV)],.agg [.p (il 2),.p (.sl Lm)],.one (.p (il 10))],.tup [.agg [.own 52 7 [Ln],.p (.nils)],.one (.p (il 0))])::VY
theorem VV:cQ S VW:=.cons (cn VX 60 (by kernel_rfl)) VX
def VU:iu:=(23,[.agg [.p (il 1),.p (.sl Ll)]],.tup [.agg [.p (il 1),.p (.sl Ll)],.one (.p (il 0))])::VW
theorem VT:cQ S VU:=.cons (cn VV 60 (by kernel_rfl)) VV
def VS:iu:=(26,[.agg [.p (il 1),.p (.sl Ll)]],.tup [.agg [.p (il 1),.p (il 0),.p (il 0),.p (il 0),.p (.bool false),.p (.bool false),.p (il 0)],.one (.p (.bool true))])::VU
theorem VR:cQ S VS:=.cons (cn VT 60 (by kernel_rfl)) VT
def VQ:iu:=(26,[.agg [.p (il 1),.p (.sl [])]],.tup [.agg [.p (il 0),.p (il 0),.p (il 0),.p (il 0),.p (.bool false),.p (.bool false),.p (il 0)],.one (.p (.bool false))])::VS
theorem VP:cQ S VQ:=.cons (cn VR 60 (by kernel_rfl)) VR
def VO:iu:=(21,[.agg [.p (il 1),.p (.sl Ll)]],.tup [.agg [.p (il 1),.p (.nils)],.one (.own 52 7 [Wn])])::VQ
theorem VN:cQ S VO:=.cons (cn VP 60 (by kernel_rfl)) VP
def VM:iu:=(23,[.agg [.p (il 1),.p (.sl [])]],.tup [.agg [.p (il 1),.p (.nils)],.one (.p (il 0))])::VO
theorem VL:cQ S VM:=.cons (cn VN 60 (by kernel_rfl)) VN
def VK:iu:=(41,[.agg [.p (il 1),.p (.sl [])],.one (.p (.sl []))],.agg [.p (il 1),.p (.sl []),.p (il 1),.p (.nils),.p (.sl [])])::VM
theorem VJ:cQ S VK:=.cons (cn VL 60 (by kernel_rfl)) VL
def VI:iu:=(13,[.agg [.p (il 1),.p (.sl Ll)],.one (.p (il 10))],.tup [.agg [.p (il 1),.p (.sl []),.own 52 7 [Wn],.p (.bool true)],.one (.p (il 0))])::VK
theorem VH:cQ S VI:=.cons (cn VJ 60 (by kernel_rfl)) VJ
def VG:iu:=(12,[.agg [.p (il 1),.p (.sl Ll)],.one (.p (il 10))],.tup [.one (.own 52 7 [Wn]),.one (.p (il 0))])::VI
theorem VF:cQ S VG:=.cons (cn VH 60 (by kernel_rfl)) VH
def VE:iu:=(12,[.agg [.p (il 2),.p (.sl Lm)],.one (.p (il 10))],.tup [.one (.p (.nils)),.one (.p (il 9))])::VG
theorem VD:cQ S VE:=.cons (cn VF 60 (by kernel_rfl)) VF
def VC:iu:=(18,[.agg [.p (il 2),.p (.sl CV)],.one (.p (.sl [Ln]))],.tup [.agg [.p (il 2),.own 38 6 sY],.one (.p (.bool true))])::VE
theorem VB:cQ S VC:=.cons (cn VD 60 (by kernel_rfl)) VD
def VA:iu:=(18,[.agg [.p (il 2),.p (.sl Lm)],.one (.p (.sl []))],.tup [.agg [.p (il 2),.own 38 6 sY],.one (.p (.bool true))])::VC
theorem Vz:cQ S VA:=.cons (cn VB 60 (by kernel_rfl)) VB
def Zl:iu:=(6,[.agg [.p (il 2),.p (.sl CV)],.agg [.p (il 2),.p (.sl Lm)],.agg [.p (.sl [Ln]),.p (.sl [])]],.one (.p (.bool true)))::VA
theorem Zk:cQ S Zl:=.cons (cn Vz 60 (by kernel_rfl)) Vz
theorem T4:aP S 4 [] (.one (.p (.bool true))):=cn Zk 60 (by kernel_rfl)
end Go.Abs
