/-
  The examples of layer 4 hold.
-/
import Derived.Test.YthcnadmehopfcaaGreatDoorSa
set_option linter.all false
set_option maxRecDepth 1000000
namespace Go.Abs
def RY:List PV:=[il 1,il 0,il 1,il 0,il 0,.bool false]
def X7:List PV:=[il 1,il 1,il 1,il 0,il 0,.bool false]
def ua2_:List PV:=[il 2,il 0,il 0,il 1,il 1,.bool false]
def ua3_:List PV:=[il 2,il 0,il 0,il 1,il 1,.bool true]
def KM:List PV:=[il 4,il 1,il 0,il 0,.bool false,.bool false,il 0]
def ua5_:List PV:=[il 1,il 0,il 2,il 0,il 0,.bool false]
def X8:List PV:=[il 1,il 0,il 0,il 0,.bool false,.bool false,il 0]
def Ds:List (List PV):=[RY,ua3_,ua2_,X7]
def uW:List (List PV):=[RY,X7]
def KN:List (List PV):=[X7,RY]
def KO:List (List PV):=[RY,ua5_]
def adR:jr:=(30,[.agg [.p (il 2),.p (.sl Ds)]],.tup [.agg [.p (il 4),.p (il 1),.p (il 0),.p (il 0),.p (.bool false),.p (.bool false),.p (il 0)],.one (.p (.bool true))])::([]:jr)
theorem adS:jg S adR:=.cons (lS jg.nil 60 ah) jg.nil
def aee:jr:=(30,[.agg [.p (il 2),.p (.sl uW)]],.tup [.agg [.p (il 0),.p (il 0),.p (il 0),.p (il 0),.p (.bool false),.p (.bool false),.p (il 0)],.one (.p (.bool false))])::adR
theorem aef:jg S aee:=.cons (lS adS 60 ah) adS
def aem:jr:=(28,[.agg [.p (il 2),.p (.sl Ds)]],.tup [.agg [.p (il 2),.own 50 6 uW],.one (.own 42 7 [KM])])::aee
theorem aen:jg S aem:=.cons (lS aef 60 ah) aef
def aeo:jr:=(17,[.agg [.p (il 2),.p (.sl Ds)]],.tup [.agg [.p (il 2),.own 50 6 uW],.one (.own 42 7 [KM]),.one (.p (il 0))])::aem
theorem aep:jg S aeo:=.cons (lS aen 60 ah) aen
def aeq:jr:=(8,[.agg [.p (il 2),.p (.sl Ds)]],.tup [.agg [.p (il 2),.p (.sl Ds)],.one (.p (il 0))])::aeo
theorem aer:jg S aeq:=.cons (lS aep 60 ah) aep
def aes:jr:=(8,[.agg [.p (il 2),.p (.sl uW)]],.tup [.agg [.p (il 2),.p (.sl uW)],.one (.p (il 0))])::aeq
theorem aet:jg S aes:=.cons (lS aer 60 ah) aer
def aeu:jr:=(41,[.agg [.p (il 2),.p (.sl uW)],.one (.p (.sl []))],.agg [.p (il 2),.p (.sl uW),.p (il 2),.p (.sl uW),.p (.sl [])])::aes
theorem aev:jg S aeu:=.cons (lS aet 60 ah) aet
def aew:jr:=(9,[.agg [.p (il 2),.p (.sl Ds)],.one (.p (il 10))],.tup [.agg [.p (il 2),.p (.sl uW),.own 42 7 [KM],.p (.bool true)],.one (.p (il 0))])::aeu
theorem aex:jg S aew:=.cons (lS aev 60 ah) aev
def aey:jr:=(8,[.agg [.p (il 2),.p (.sl KN)]],.tup [.agg [.p (il 2),.p (.sl uW)],.one (.p (il 0))])::aew
theorem aez:jg S aey:=.cons (lS aex 60 ah) aex
def aeA:jr:=(28,[.agg [.p (il 2),.p (.sl uW)]],.tup [.agg [.p (il 2),.p (.sl uW)],.one (.p (.nils))])::aey
theorem aeB:jg S aeA:=.cons (lS aez 60 ah) aez
def adT:jr:=(9,[.agg [.p (il 2),.p (.sl KN)],.one (.p (il 10))],.tup [.agg [.p (il 2),.p (.sl uW),.p (.nils),.p (.bool true)],.one (.p (il 0))])::aeA
theorem adU:jg S adT:=.cons (lS aeB 60 ah) aeB
def adV:jr:=(18,[.agg [.p (il 2),.p (.sl Ds)],.agg [.p (il 2),.p (.sl KN)],.one (.p (il 10))],.tup [.agg [.own 42 7 [KM],.p (.nils)],.one (.p (il 0))])::adT
theorem adW:jg S adV:=.cons (lS adU 60 ah) adU
def adX:jr:=(8,[.agg [.p (il 1),.p (.sl KO)]],.tup [.agg [.p (il 1),.p (.sl KO)],.one (.p (il 0))])::adV
theorem adY:jg S adX:=.cons (lS adW 60 ah) adW
def adZ:jr:=(30,[.agg [.p (il 1),.p (.sl KO)]],.tup [.agg [.p (il 1),.p (il 0),.p (il 0),.p (il 0),.p (.bool false),.p (.bool false),.p (il 0)],.one (.p (.bool true))])::adX
theorem ad1:jg S adZ:=.cons (lS adY 60 ah) adY
def ad2:jr:=(30,[.agg [.p (il 1),.p (.sl [])]],.tup [.agg [.p (il 0),.p (il 0),.p (il 0),.p (il 0),.p (.bool false),.p (.bool false),.p (il 0)],.one (.p (.bool false))])::adZ
theorem ad3:jg S ad2:=.cons (lS ad1 60 ah) ad1
def ad4:jr:=(28,[.agg [.p (il 1),.p (.sl KO)]],.tup [.agg [.p (il 1),.p (.nils)],.one (.own 42 7 [X8])])::ad2
theorem ad5:jg S ad4:=.cons (lS ad3 60 ah) ad3
def ad6:jr:=(8,[.agg [.p (il 1),.p (.sl [])]],.tup [.agg [.p (il 1),.p (.nils)],.one (.p (il 0))])::ad4
theorem ad7:jg S ad6:=.cons (lS ad5 60 ah) ad5
def ad8:jr:=(41,[.agg [.p (il 1),.p (.sl [])],.one (.p (.sl []))],.agg [.p (il 1),.p (.sl []),.p (il 1),.p (.nils),.p (.sl [])])::ad6
theorem ad9:jg S ad8:=.cons (lS ad7 60 ah) ad7
def aea:jr:=(9,[.agg [.p (il 1),.p (.sl KO)],.one (.p (il 10))],.tup [.agg [.p (il 1),.p (.sl []),.own 42 7 [X8],.p (.bool true)],.one (.p (il 0))])::ad8
theorem aeb:jg S aea:=.cons (lS ad9 60 ah) ad9
def aec:jr:=(19,[.agg [.p (il 1),.p (.sl KO)],.one (.p (il 10))],.tup [.one (.own 42 7 [X8]),.one (.p (il 0))])::aea
theorem aed:jg S aec:=.cons (lS aeb 60 ah) aeb
def aeg:jr:=(19,[.agg [.p (il 2),.p (.sl KN)],.one (.p (il 10))],.tup [.one (.p (.nils)),.one (.p (il 9))])::aec
theorem aeh:jg S aeg:=.cons (lS aed 60 ah) aed
def aei:jr:=(39,[.agg [.p (il 2),.p (.sl Ds)],.one (.p (.sl [KM]))],.tup [.agg [.p (il 2),.own 50 6 uW],.one (.p (.bool true))])::aeg
theorem aej:jg S aei:=.cons (lS aeh 60 ah) aeh
def aek:jr:=(39,[.agg [.p (il 2),.p (.sl KN)],.one (.p (.sl []))],.tup [.agg [.p (il 2),.own 50 6 uW],.one (.p (.bool true))])::aei
theorem ael:jg S aek:=.cons (lS aej 60 ah) aej
def ao0:jr:=(22,[.agg [.p (il 2),.p (.sl Ds)],.agg [.p (il 2),.p (.sl KN)],.agg [.p (.sl [KM]),.p (.sl [])]],.one (.p (.bool true)))::aek
theorem ao1:jg S ao0:=.cons (lS ael 60 ah) ael
theorem ao2:aK S 6 [] (.one (.p (.bool true))):=lS ao1 60 ah
end Go.Abs
