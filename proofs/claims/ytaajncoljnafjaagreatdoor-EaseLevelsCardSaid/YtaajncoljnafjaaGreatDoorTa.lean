/-
  The examples of layer 4 hold.
-/
import Derived.Test.YtaajncoljnafjaaGreatDoorSa
set_option linter.all false
set_option maxRecDepth 1000000
namespace Go.Abs
def TE:b_:=[il 1,il 0,il 1,il 0,il 0,.bool false]
def Z2:b_:=[il 1,il 1,il 1,il 0,il 0,.bool false]
def ua2_:b_:=[il 2,il 0,il 0,il 1,il 1,.bool false]
def ua3_:b_:=[il 2,il 0,il 0,il 1,il 1,.bool true]
def LX:b_:=[il 4,il 1,il 0,il 0,.bool false,.bool false,il 0]
def ua5_:b_:=[il 1,il 0,il 2,il 0,il 0,.bool false]
def Z4:b_:=[il 1,il 0,il 0,il 0,.bool false,.bool false,il 0]
def EO:s_:=[TE,ua3_,ua2_,Z2]
def wC:s_:=[TE,Z2]
def LY:s_:=[Z2,TE]
def LZ:s_:=[TE,ua5_]
def afW:jR:=(27,[.agg [.p (il 2),.p (.sl EO)]],.tup [.agg [.p (il 4),.p (il 1),.p (il 0),.p (il 0),.p (.bool false),.p (.bool false),.p (il 0)],.one (.p (.bool true))])::([]:jR)
theorem afX:jH S afW:=.cons (mW jH.nil 60 ah) jH.nil
def agj:jR:=(27,[.agg [.p (il 2),.p (.sl wC)]],.tup [.agg [.p (il 0),.p (il 0),.p (il 0),.p (il 0),.p (.bool false),.p (.bool false),.p (il 0)],.one (.p (.bool false))])::afW
theorem agk:jH S agj:=.cons (mW afX 60 ah) afX
def agr:jR:=(25,[.agg [.p (il 2),.p (.sl EO)]],.tup [.agg [.p (il 2),.own 45 6 wC],.one (.own 57 7 [LX])])::agj
theorem ags:jH S agr:=.cons (mW agk 60 ah) agk
def agt:jR:=(14,[.agg [.p (il 2),.p (.sl EO)]],.tup [.agg [.p (il 2),.own 45 6 wC],.one (.own 57 7 [LX]),.one (.p (il 0))])::agr
theorem agu:jH S agt:=.cons (mW ags 60 ah) ags
def agv:jR:=(20,[.agg [.p (il 2),.p (.sl EO)]],.tup [.agg [.p (il 2),.p (.sl EO)],.one (.p (il 0))])::agt
theorem agw:jH S agv:=.cons (mW agu 60 ah) agu
def agx:jR:=(20,[.agg [.p (il 2),.p (.sl wC)]],.tup [.agg [.p (il 2),.p (.sl wC)],.one (.p (il 0))])::agv
theorem agy:jH S agx:=.cons (mW agw 60 ah) agw
def agz:jR:=(41,[.agg [.p (il 2),.p (.sl wC)],.one (.p (.sl []))],.agg [.p (il 2),.p (.sl wC),.p (il 2),.p (.sl wC),.p (.sl [])])::agx
theorem agA:jH S agz:=.cons (mW agy 60 ah) agy
def agB:jR:=(8,[.agg [.p (il 2),.p (.sl EO)],.one (.p (il 10))],.tup [.agg [.p (il 2),.p (.sl wC),.own 57 7 [LX],.p (.bool true)],.one (.p (il 0))])::agz
theorem agC:jH S agB:=.cons (mW agA 60 ah) agA
def agD:jR:=(20,[.agg [.p (il 2),.p (.sl LY)]],.tup [.agg [.p (il 2),.p (.sl wC)],.one (.p (il 0))])::agB
theorem agE:jH S agD:=.cons (mW agC 60 ah) agC
def agF:jR:=(25,[.agg [.p (il 2),.p (.sl wC)]],.tup [.agg [.p (il 2),.p (.sl wC)],.one (.p (.nils))])::agD
theorem agG:jH S agF:=.cons (mW agE 60 ah) agE
def afY:jR:=(8,[.agg [.p (il 2),.p (.sl LY)],.one (.p (il 10))],.tup [.agg [.p (il 2),.p (.sl wC),.p (.nils),.p (.bool true)],.one (.p (il 0))])::agF
theorem afZ:jH S afY:=.cons (mW agG 60 ah) agG
def af0:jR:=(15,[.agg [.p (il 2),.p (.sl EO)],.agg [.p (il 2),.p (.sl LY)],.one (.p (il 10))],.tup [.agg [.own 57 7 [LX],.p (.nils)],.one (.p (il 0))])::afY
theorem af1:jH S af0:=.cons (mW afZ 60 ah) afZ
def af2:jR:=(20,[.agg [.p (il 1),.p (.sl LZ)]],.tup [.agg [.p (il 1),.p (.sl LZ)],.one (.p (il 0))])::af0
theorem af3:jH S af2:=.cons (mW af1 60 ah) af1
def af4:jR:=(27,[.agg [.p (il 1),.p (.sl LZ)]],.tup [.agg [.p (il 1),.p (il 0),.p (il 0),.p (il 0),.p (.bool false),.p (.bool false),.p (il 0)],.one (.p (.bool true))])::af2
theorem af5:jH S af4:=.cons (mW af3 60 ah) af3
def af6:jR:=(27,[.agg [.p (il 1),.p (.sl [])]],.tup [.agg [.p (il 0),.p (il 0),.p (il 0),.p (il 0),.p (.bool false),.p (.bool false),.p (il 0)],.one (.p (.bool false))])::af4
theorem af7:jH S af6:=.cons (mW af5 60 ah) af5
def af8:jR:=(25,[.agg [.p (il 1),.p (.sl LZ)]],.tup [.agg [.p (il 1),.p (.nils)],.one (.own 57 7 [Z4])])::af6
theorem af9:jH S af8:=.cons (mW af7 60 ah) af7
def aga:jR:=(20,[.agg [.p (il 1),.p (.sl [])]],.tup [.agg [.p (il 1),.p (.nils)],.one (.p (il 0))])::af8
theorem agb:jH S aga:=.cons (mW af9 60 ah) af9
def agc:jR:=(41,[.agg [.p (il 1),.p (.sl [])],.one (.p (.sl []))],.agg [.p (il 1),.p (.sl []),.p (il 1),.p (.nils),.p (.sl [])])::aga
theorem agd:jH S agc:=.cons (mW agb 60 ah) agb
def age:jR:=(8,[.agg [.p (il 1),.p (.sl LZ)],.one (.p (il 10))],.tup [.agg [.p (il 1),.p (.sl []),.own 57 7 [Z4],.p (.bool true)],.one (.p (il 0))])::agc
theorem agf:jH S age:=.cons (mW agd 60 ah) agd
def agh:jR:=(16,[.agg [.p (il 1),.p (.sl LZ)],.one (.p (il 10))],.tup [.one (.own 57 7 [Z4]),.one (.p (il 0))])::age
theorem agi:jH S agh:=.cons (mW agf 60 ah) agf
def agl:jR:=(16,[.agg [.p (il 2),.p (.sl LY)],.one (.p (il 10))],.tup [.one (.p (.nils)),.one (.p (il 9))])::agh
theorem agm:jH S agl:=.cons (mW agi 60 ah) agi
def agn:jR:=(37,[.agg [.p (il 2),.p (.sl EO)],.one (.p (.sl [LX]))],.tup [.agg [.p (il 2),.own 45 6 wC],.one (.p (.bool true))])::agl
theorem ago:jH S agn:=.cons (mW agm 60 ah) agm
def agp:jR:=(37,[.agg [.p (il 2),.p (.sl LY)],.one (.p (.sl []))],.tup [.agg [.p (il 2),.own 45 6 wC],.one (.p (.bool true))])::agn
theorem agq:jH S agp:=.cons (mW ago 60 ah) ago
def arp:jR:=(18,[.agg [.p (il 2),.p (.sl EO)],.agg [.p (il 2),.p (.sl LY)],.agg [.p (.sl [LX]),.p (.sl [])]],.one (.p (.bool true)))::agp
theorem arq:jH S arp:=.cons (mW agq 60 ah) agq
theorem ars:aK S 5 [] (.one (.p (.bool true))):=mW arq 60 ah
end Go.Abs
