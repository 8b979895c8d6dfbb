/-
  The examples of layer 4 hold.
-/
import Derived.Test.YtffbakabajjgcaaGreatDoorSa
set_option linter.all false
set_option maxRecDepth 1000000
namespace Go.Abs
def Rm:List PV:=[il 1,il 0,il 1,il 0,il 0,.bool false]
def Wp:List PV:=[il 1,il 1,il 1,il 0,il 0,.bool false]
def ua2_:List PV:=[il 2,il 0,il 0,il 1,il 1,.bool false]
def ua3_:List PV:=[il 2,il 0,il 0,il 1,il 1,.bool true]
def Ky:List PV:=[il 4,il 1,il 0,il 0,.bool false,.bool false,il 0]
def ua5_:List PV:=[il 1,il 0,il 2,il 0,il 0,.bool false]
def Wq:List PV:=[il 1,il 0,il 0,il 0,.bool false,.bool false,il 0]
def Dw:List (List PV):=[Rm,ua3_,ua2_,Wp]
def uW:List (List PV):=[Rm,Wp]
def Kz:List (List PV):=[Wp,Rm]
def KA:List (List PV):=[Rm,ua5_]
def abo:jo:=(31,[.agg [.p (il 2),.p (.sl Dw)]],.tup [.agg [.p (il 4),.p (il 1),.p (il 0),.p (il 0),.p (.bool false),.p (.bool false),.p (il 0)],.one (.p (.bool true))])::([]:jo)
theorem abp:je S abo:=.cons (l9 je.nil 60 ah) je.nil
def abL:jo:=(31,[.agg [.p (il 2),.p (.sl uW)]],.tup [.agg [.p (il 0),.p (il 0),.p (il 0),.p (il 0),.p (.bool false),.p (.bool false),.p (il 0)],.one (.p (.bool false))])::abo
theorem abM:je S abL:=.cons (l9 abp 60 ah) abp
def abT:jo:=(27,[.agg [.p (il 2),.p (.sl Dw)]],.tup [.agg [.p (il 2),.own 38 6 uW],.one (.own 57 7 [Ky])])::abL
theorem abU:je S abT:=.cons (l9 abM 60 ah) abM
def abV:jo:=(12,[.agg [.p (il 2),.p (.sl Dw)]],.tup [.agg [.p (il 2),.own 38 6 uW],.one (.own 57 7 [Ky]),.one (.p (il 0))])::abT
theorem abW:je S abV:=.cons (l9 abU 60 ah) abU
def abX:jo:=(20,[.agg [.p (il 2),.p (.sl Dw)]],.tup [.agg [.p (il 2),.p (.sl Dw)],.one (.p (il 0))])::abV
theorem abY:je S abX:=.cons (l9 abW 60 ah) abW
def abZ:jo:=(20,[.agg [.p (il 2),.p (.sl uW)]],.tup [.agg [.p (il 2),.p (.sl uW)],.one (.p (il 0))])::abX
theorem ab0:je S abZ:=.cons (l9 abY 60 ah) abY
def ab1:jo:=(37,[.agg [.p (il 2),.p (.sl uW)],.one (.p (.sl []))],.agg [.p (il 2),.p (.sl uW),.p (il 2),.p (.sl uW),.p (.sl [])])::abZ
theorem ab2:je S ab1:=.cons (l9 ab0 60 ah) ab0
def ab3:jo:=(15,[.agg [.p (il 2),.p (.sl Dw)],.one (.p (il 10))],.tup [.agg [.p (il 2),.p (.sl uW),.own 57 7 [Ky],.p (.bool true)],.one (.p (il 0))])::ab1
theorem ab4:je S ab3:=.cons (l9 ab2 60 ah) ab2
def ab5:jo:=(20,[.agg [.p (il 2),.p (.sl Kz)]],.tup [.agg [.p (il 2),.p (.sl uW)],.one (.p (il 0))])::ab3
theorem ab6:je S ab5:=.cons (l9 ab4 60 ah) ab4
def ab7:jo:=(27,[.agg [.p (il 2),.p (.sl uW)]],.tup [.agg [.p (il 2),.p (.sl uW)],.one (.p (.nils))])::ab5
theorem ab8:je S ab7:=.cons (l9 ab6 60 ah) ab6
def abq:jo:=(15,[.agg [.p (il 2),.p (.sl Kz)],.one (.p (il 10))],.tup [.agg [.p (il 2),.p (.sl uW),.p (.nils),.p (.bool true)],.one (.p (il 0))])::ab7
theorem abr:je S abq:=.cons (l9 ab8 60 ah) ab8
def abt:jo:=(13,[.agg [.p (il 2),.p (.sl Dw)],.agg [.p (il 2),.p (.sl Kz)],.one (.p (il 10))],.tup [.agg [.own 57 7 [Ky],.p (.nils)],.one (.p (il 0))])::abq
theorem abu:je S abt:=.cons (l9 abr 60 ah) abr
def abv:jo:=(20,[.agg [.p (il 1),.p (.sl KA)]],.tup [.agg [.p (il 1),.p (.sl KA)],.one (.p (il 0))])::abt
theorem abw:je S abv:=.cons (l9 abu 60 ah) abu
def abx:jo:=(31,[.agg [.p (il 1),.p (.sl KA)]],.tup [.agg [.p (il 1),.p (il 0),.p (il 0),.p (il 0),.p (.bool false),.p (.bool false),.p (il 0)],.one (.p (.bool true))])::abv
theorem aby:je S abx:=.cons (l9 abw 60 ah) abw
def abz:jo:=(31,[.agg [.p (il 1),.p (.sl [])]],.tup [.agg [.p (il 0),.p (il 0),.p (il 0),.p (il 0),.p (.bool false),.p (.bool false),.p (il 0)],.one (.p (.bool false))])::abx
theorem abA:je S abz:=.cons (l9 aby 60 ah) aby
def abB:jo:=(27,[.agg [.p (il 1),.p (.sl KA)]],.tup [.agg [.p (il 1),.p (.nils)],.one (.own 57 7 [Wq])])::abz
theorem abC:je S abB:=.cons (l9 abA 60 ah) abA
def abD:jo:=(20,[.agg [.p (il 1),.p (.sl [])]],.tup [.agg [.p (il 1),.p (.nils)],.one (.p (il 0))])::abB
theorem abE:je S abD:=.cons (l9 abC 60 ah) abC
def abF:jo:=(37,[.agg [.p (il 1),.p (.sl [])],.one (.p (.sl []))],.agg [.p (il 1),.p (.sl []),.p (il 1),.p (.nils),.p (.sl [])])::abD
theorem abG:je S abF:=.cons (l9 abE 60 ah) abE
def abH:jo:=(15,[.agg [.p (il 1),.p (.sl KA)],.one (.p (il 10))],.tup [.agg [.p (il 1),.p (.sl []),.own 57 7 [Wq],.p (.bool true)],.one (.p (il 0))])::abF
theorem abI:je S abH:=.cons (l9 abG 60 ah) abG
def abJ:jo:=(14,[.agg [.p (il 1),.p (.sl KA)],.one (.p (il 10))],.tup [.one (.own 57 7 [Wq]),.one (.p (il 0))])::abH
theorem abK:je S abJ:=.cons (l9 abI 60 ah) abI
def abN:jo:=(14,[.agg [.p (il 2),.p (.sl Kz)],.one (.p (il 10))],.tup [.one (.p (.nils)),.one (.p (il 9))])::abJ
theorem abO:je S abN:=.cons (l9 abK 60 ah) abK
def abP:jo:=(33,[.agg [.p (il 2),.p (.sl Dw)],.one (.p (.sl [Ky]))],.tup [.agg [.p (il 2),.own 38 6 uW],.one (.p (.bool true))])::abN
theorem abQ:je S abP:=.cons (l9 abO 60 ah) abO
def abR:jo:=(33,[.agg [.p (il 2),.p (.sl Kz)],.one (.p (.sl []))],.tup [.agg [.p (il 2),.own 38 6 uW],.one (.p (.bool true))])::abP
theorem abS:je S abR:=.cons (l9 abQ 60 ah) abQ
def amO:jo:=(18,[.agg [.p (il 2),.p (.sl Dw)],.agg [.p (il 2),.p (.sl Kz)],.agg [.p (.sl [Ky]),.p (.sl [])]],.one (.p (.bool true)))::abR
theorem amP:je S amO:=.cons (l9 abS 60 ah) abS
theorem amQ:aF S 5 [] (.one (.p (.bool true))):=l9 amP 60 ah
end Go.Abs
