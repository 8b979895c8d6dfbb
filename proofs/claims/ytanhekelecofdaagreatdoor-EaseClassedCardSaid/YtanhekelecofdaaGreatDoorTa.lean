/-
  The examples of layer 4 hold.
-/
import Derived.Test.YtanhekelecofdaaGreatDoorSa
set_option linter.all false
set_option maxRecDepth 1000000
namespace Go.Abs
def Vy:b_:=[il 1,il 0,il 1,il 0,il 0,.bool false]
def ZW:b_:=[il 1,il 1,il 1,il 0,il 0,.bool false]
def ua2_:b_:=[il 2,il 0,il 0,il 1,il 1,.bool false]
def ua3_:b_:=[il 2,il 0,il 0,il 1,il 1,.bool true]
def LK:b_:=[il 4,il 1,il 0,il 0,.bool false,.bool false,il 0]
def ua5_:b_:=[il 1,il 0,il 2,il 0,il 0,.bool false]
def ZX:b_:=[il 1,il 0,il 0,il 0,.bool false,.bool false,il 0]
def EB:s_:=[Vy,ua3_,ua2_,ZW]
def vS:s_:=[Vy,ZW]
def LN:s_:=[ZW,Vy]
def LP:s_:=[Vy,ua5_]
def aeB:jK:=(36,[.agg [.p (il 2),.p (.sl EB)]],.tup [.agg [.p (il 4),.p (il 1),.p (il 0),.p (il 0),.p (.bool false),.p (.bool false),.p (il 0)],.one (.p (.bool true))])::([]:jK)
theorem aeC:jz S aeB:=.cons (mW jz.nil 60 ah) jz.nil
def aeX:jK:=(36,[.agg [.p (il 2),.p (.sl vS)]],.tup [.agg [.p (il 0),.p (il 0),.p (il 0),.p (il 0),.p (.bool false),.p (.bool false),.p (il 0)],.one (.p (.bool false))])::aeB
theorem aeY:jz S aeX:=.cons (mW aeC 60 ah) aeC
def ae5:jK:=(32,[.agg [.p (il 2),.p (.sl EB)]],.tup [.agg [.p (il 2),.own 37 6 vS],.one (.own 56 7 [LK])])::aeX
theorem ae6:jz S ae5:=.cons (mW aeY 60 ah) aeY
def ae7:jK:=(13,[.agg [.p (il 2),.p (.sl EB)]],.tup [.agg [.p (il 2),.own 37 6 vS],.one (.own 56 7 [LK]),.one (.p (il 0))])::ae5
theorem ae8:jz S ae7:=.cons (mW ae6 60 ah) ae6
def ae9:jK:=(21,[.agg [.p (il 2),.p (.sl EB)]],.tup [.agg [.p (il 2),.p (.sl EB)],.one (.p (il 0))])::ae7
theorem afa:jz S ae9:=.cons (mW ae8 60 ah) ae8
def afb:jK:=(21,[.agg [.p (il 2),.p (.sl vS)]],.tup [.agg [.p (il 2),.p (.sl vS)],.one (.p (il 0))])::ae9
theorem afc:jz S afb:=.cons (mW afa 60 ah) afa
def afd:jK:=(42,[.agg [.p (il 2),.p (.sl vS)],.one (.p (.sl []))],.agg [.p (il 2),.p (.sl vS),.p (il 2),.p (.sl vS),.p (.sl [])])::afb
theorem afe:jz S afd:=.cons (mW afc 60 ah) afc
def aff:jK:=(16,[.agg [.p (il 2),.p (.sl EB)],.one (.p (il 10))],.tup [.agg [.p (il 2),.p (.sl vS),.own 56 7 [LK],.p (.bool true)],.one (.p (il 0))])::afd
theorem afg:jz S aff:=.cons (mW afe 60 ah) afe
def afh:jK:=(21,[.agg [.p (il 2),.p (.sl LN)]],.tup [.agg [.p (il 2),.p (.sl vS)],.one (.p (il 0))])::aff
theorem afi:jz S afh:=.cons (mW afg 60 ah) afg
def afj:jK:=(32,[.agg [.p (il 2),.p (.sl vS)]],.tup [.agg [.p (il 2),.p (.sl vS)],.one (.p (.nils))])::afh
theorem afk:jz S afj:=.cons (mW afi 60 ah) afi
def aeD:jK:=(16,[.agg [.p (il 2),.p (.sl LN)],.one (.p (il 10))],.tup [.agg [.p (il 2),.p (.sl vS),.p (.nils),.p (.bool true)],.one (.p (il 0))])::afj
theorem aeE:jz S aeD:=.cons (mW afk 60 ah) afk
def aeF:jK:=(14,[.agg [.p (il 2),.p (.sl EB)],.agg [.p (il 2),.p (.sl LN)],.one (.p (il 10))],.tup [.agg [.own 56 7 [LK],.p (.nils)],.one (.p (il 0))])::aeD
theorem aeG:jz S aeF:=.cons (mW aeE 60 ah) aeE
def aeH:jK:=(21,[.agg [.p (il 1),.p (.sl LP)]],.tup [.agg [.p (il 1),.p (.sl LP)],.one (.p (il 0))])::aeF
theorem aeI:jz S aeH:=.cons (mW aeG 60 ah) aeG
def aeJ:jK:=(36,[.agg [.p (il 1),.p (.sl LP)]],.tup [.agg [.p (il 1),.p (il 0),.p (il 0),.p (il 0),.p (.bool false),.p (.bool false),.p (il 0)],.one (.p (.bool true))])::aeH
theorem aeK:jz S aeJ:=.cons (mW aeI 60 ah) aeI
def aeL:jK:=(36,[.agg [.p (il 1),.p (.sl [])]],.tup [.agg [.p (il 0),.p (il 0),.p (il 0),.p (il 0),.p (.bool false),.p (.bool false),.p (il 0)],.one (.p (.bool false))])::aeJ
theorem aeM:jz S aeL:=.cons (mW aeK 60 ah) aeK
def aeN:jK:=(32,[.agg [.p (il 1),.p (.sl LP)]],.tup [.agg [.p (il 1),.p (.nils)],.one (.own 56 7 [ZX])])::aeL
theorem aeO:jz S aeN:=.cons (mW aeM 60 ah) aeM
def aeP:jK:=(21,[.agg [.p (il 1),.p (.sl [])]],.tup [.agg [.p (il 1),.p (.nils)],.one (.p (il 0))])::aeN
theorem aeQ:jz S aeP:=.cons (mW aeO 60 ah) aeO
def aeR:jK:=(42,[.agg [.p (il 1),.p (.sl [])],.one (.p (.sl []))],.agg [.p (il 1),.p (.sl []),.p (il 1),.p (.nils),.p (.sl [])])::aeP
theorem aeS:jz S aeR:=.cons (mW aeQ 60 ah) aeQ
def aeT:jK:=(16,[.agg [.p (il 1),.p (.sl LP)],.one (.p (il 10))],.tup [.agg [.p (il 1),.p (.sl []),.own 56 7 [ZX],.p (.bool true)],.one (.p (il 0))])::aeR
theorem aeU:jz S aeT:=.cons (mW aeS 60 ah) aeS
def aeV:jK:=(15,[.agg [.p (il 1),.p (.sl LP)],.one (.p (il 10))],.tup [.one (.own 56 7 [ZX]),.one (.p (il 0))])::aeT
theorem aeW:jz S aeV:=.cons (mW aeU 60 ah) aeU
def aeZ:jK:=(15,[.agg [.p (il 2),.p (.sl LN)],.one (.p (il 10))],.tup [.one (.p (.nils)),.one (.p (il 9))])::aeV
theorem ae0:jz S aeZ:=.cons (mW aeW 60 ah) aeW
def ae1:jK:=(38,[.agg [.p (il 2),.p (.sl EB)],.one (.p (.sl [LK]))],.tup [.agg [.p (il 2),.own 37 6 vS],.one (.p (.bool true))])::aeZ
theorem ae2:jz S ae1:=.cons (mW ae0 60 ah) ae0
def ae3:jK:=(38,[.agg [.p (il 2),.p (.sl LN)],.one (.p (.sl []))],.tup [.agg [.p (il 2),.own 37 6 vS],.one (.p (.bool true))])::ae1
theorem ae4:jz S ae3:=.cons (mW ae2 60 ah) ae2
def apl:jK:=(19,[.agg [.p (il 2),.p (.sl EB)],.agg [.p (il 2),.p (.sl LN)],.agg [.p (.sl [LK]),.p (.sl [])]],.one (.p (.bool true)))::ae3
theorem apm:jz S apl:=.cons (mW ae4 60 ah) ae4
theorem apn:aO S 5 [] (.one (.p (.bool true))):=mW apm 60 ah
end Go.Abs
