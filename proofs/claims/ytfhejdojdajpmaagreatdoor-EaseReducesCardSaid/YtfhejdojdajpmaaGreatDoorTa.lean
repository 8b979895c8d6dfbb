/-
  The examples of layer 4 hold.
-/
import Derived.Test.YtfhejdojdajpmaaGreatDoorSa
set_option linter.all false
set_option maxRecDepth 1000000
namespace Go.Abs
def O9:List PV:=[il 1,il 0,il 1,il 0,il 0,.bool false]
def VP:List PV:=[il 1,il 1,il 1,il 0,il 0,.bool false]
def ua2_:List PV:=[il 2,il 0,il 0,il 1,il 1,.bool false]
def ua3_:List PV:=[il 2,il 0,il 0,il 1,il 1,.bool true]
def Iu:List PV:=[il 4,il 1,il 0,il 0,.bool false,.bool false,il 0]
def ua5_:List PV:=[il 1,il 0,il 2,il 0,il 0,.bool false]
def VQ:List PV:=[il 1,il 0,il 0,il 0,.bool false,.bool false,il 0]
def Bz:List (List PV):=[O9,ua3_,ua2_,VP]
def tn:List (List PV):=[O9,VP]
def Iv:List (List PV):=[VP,O9]
def Iw:List (List PV):=[O9,ua5_]
def abq:iG:=(34,[.agg [.p (il 2),.p (.sl Bz)]],.tup [.agg [.p (il 4),.p (il 1),.p (il 0),.p (il 0),.p (.bool false),.p (.bool false),.p (il 0)],.one (.p (.bool true))])::([]:iG)
theorem abr:iz S abq:=.cons (kG iz.nil 60 ah) iz.nil
def abN:iG:=(34,[.agg [.p (il 2),.p (.sl tn)]],.tup [.agg [.p (il 0),.p (il 0),.p (il 0),.p (il 0),.p (.bool false),.p (.bool false),.p (il 0)],.one (.p (.bool false))])::abq
theorem abO:iz S abN:=.cons (kG abr 60 ah) abr
def abV:iG:=(19,[.agg [.p (il 2),.p (.sl Bz)]],.tup [.agg [.p (il 2),.own 38 6 tn],.one (.own 54 7 [Iu])])::abN
theorem abW:iz S abV:=.cons (kG abO 60 ah) abO
def abX:iG:=(5,[.agg [.p (il 2),.p (.sl Bz)]],.tup [.agg [.p (il 2),.own 38 6 tn],.one (.own 54 7 [Iu]),.one (.p (il 0))])::abV
theorem abY:iz S abX:=.cons (kG abW 60 ah) abW
def abZ:iG:=(31,[.agg [.p (il 2),.p (.sl Bz)]],.tup [.agg [.p (il 2),.p (.sl Bz)],.one (.p (il 0))])::abX
theorem ab0:iz S abZ:=.cons (kG abY 60 ah) abY
def ab1:iG:=(31,[.agg [.p (il 2),.p (.sl tn)]],.tup [.agg [.p (il 2),.p (.sl tn)],.one (.p (il 0))])::abZ
theorem ab2:iz S ab1:=.cons (kG ab0 60 ah) ab0
def ab3:iG:=(63,[.agg [.p (il 2),.p (.sl tn)],.one (.p (.sl []))],.agg [.p (il 2),.p (.sl tn),.p (il 2),.p (.sl tn),.p (.sl [])])::ab1
theorem ab4:iz S ab3:=.cons (kG ab2 60 ah) ab2
def ab5:iG:=(14,[.agg [.p (il 2),.p (.sl Bz)],.one (.p (il 10))],.tup [.agg [.p (il 2),.p (.sl tn),.own 54 7 [Iu],.p (.bool true)],.one (.p (il 0))])::ab3
theorem ab6:iz S ab5:=.cons (kG ab4 60 ah) ab4
def ab7:iG:=(31,[.agg [.p (il 2),.p (.sl Iv)]],.tup [.agg [.p (il 2),.p (.sl tn)],.one (.p (il 0))])::ab5
theorem ab8:iz S ab7:=.cons (kG ab6 60 ah) ab6
def ab9:iG:=(19,[.agg [.p (il 2),.p (.sl tn)]],.tup [.agg [.p (il 2),.p (.sl tn)],.one (.p (.nils))])::ab7
theorem aca:iz S ab9:=.cons (kG ab8 60 ah) ab8
def abt:iG:=(14,[.agg [.p (il 2),.p (.sl Iv)],.one (.p (il 10))],.tup [.agg [.p (il 2),.p (.sl tn),.p (.nils),.p (.bool true)],.one (.p (il 0))])::ab9
theorem abu:iz S abt:=.cons (kG aca 60 ah) aca
def abv:iG:=(12,[.agg [.p (il 2),.p (.sl Bz)],.agg [.p (il 2),.p (.sl Iv)],.one (.p (il 10))],.tup [.agg [.own 54 7 [Iu],.p (.nils)],.one (.p (il 0))])::abt
theorem abw:iz S abv:=.cons (kG abu 60 ah) abu
def abx:iG:=(31,[.agg [.p (il 1),.p (.sl Iw)]],.tup [.agg [.p (il 1),.p (.sl Iw)],.one (.p (il 0))])::abv
theorem aby:iz S abx:=.cons (kG abw 60 ah) abw
def abz:iG:=(34,[.agg [.p (il 1),.p (.sl Iw)]],.tup [.agg [.p (il 1),.p (il 0),.p (il 0),.p (il 0),.p (.bool false),.p (.bool false),.p (il 0)],.one (.p (.bool true))])::abx
theorem abA:iz S abz:=.cons (kG aby 60 ah) aby
def abB:iG:=(34,[.agg [.p (il 1),.p (.sl [])]],.tup [.agg [.p (il 0),.p (il 0),.p (il 0),.p (il 0),.p (.bool false),.p (.bool false),.p (il 0)],.one (.p (.bool false))])::abz
theorem abC:iz S abB:=.cons (kG abA 60 ah) abA
def abD:iG:=(19,[.agg [.p (il 1),.p (.sl Iw)]],.tup [.agg [.p (il 1),.p (.nils)],.one (.own 54 7 [VQ])])::abB
theorem abE:iz S abD:=.cons (kG abC 60 ah) abC
def abF:iG:=(31,[.agg [.p (il 1),.p (.sl [])]],.tup [.agg [.p (il 1),.p (.nils)],.one (.p (il 0))])::abD
theorem abG:iz S abF:=.cons (kG abE 60 ah) abE
def abH:iG:=(63,[.agg [.p (il 1),.p (.sl [])],.one (.p (.sl []))],.agg [.p (il 1),.p (.sl []),.p (il 1),.p (.nils),.p (.sl [])])::abF
theorem abI:iz S abH:=.cons (kG abG 60 ah) abG
def abJ:iG:=(14,[.agg [.p (il 1),.p (.sl Iw)],.one (.p (il 10))],.tup [.agg [.p (il 1),.p (.sl []),.own 54 7 [VQ],.p (.bool true)],.one (.p (il 0))])::abH
theorem abK:iz S abJ:=.cons (kG abI 60 ah) abI
def abL:iG:=(13,[.agg [.p (il 1),.p (.sl Iw)],.one (.p (il 10))],.tup [.one (.own 54 7 [VQ]),.one (.p (il 0))])::abJ
theorem abM:iz S abL:=.cons (kG abK 60 ah) abK
def abP:iG:=(13,[.agg [.p (il 2),.p (.sl Iv)],.one (.p (il 10))],.tup [.one (.p (.nils)),.one (.p (il 9))])::abL
theorem abQ:iz S abP:=.cons (kG abM 60 ah) abM
def abR:iG:=(36,[.agg [.p (il 2),.p (.sl Bz)],.one (.p (.sl [Iu]))],.tup [.agg [.p (il 2),.own 38 6 tn],.one (.p (.bool true))])::abP
theorem abS:iz S abR:=.cons (kG abQ 60 ah) abQ
def abT:iG:=(36,[.agg [.p (il 2),.p (.sl Iv)],.one (.p (.sl []))],.tup [.agg [.p (il 2),.own 38 6 tn],.one (.p (.bool true))])::abR
theorem abU:iz S abT:=.cons (kG abS 60 ah) abS
def alZ:iG:=(17,[.agg [.p (il 2),.p (.sl Bz)],.agg [.p (il 2),.p (.sl Iv)],.agg [.p (.sl [Iu]),.p (.sl [])]],.one (.p (.bool true)))::abT
theorem al0:iz S alZ:=.cons (kG abU 60 ah) abU
theorem al1:aJ S 4 [] (.one (.p (.bool true))):=kG al0 60 ah
end Go.Abs
