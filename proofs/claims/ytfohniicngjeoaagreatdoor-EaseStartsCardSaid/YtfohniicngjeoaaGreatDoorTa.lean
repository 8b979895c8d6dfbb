/-
  The examples of layer 4 hold.
-/
import Derived.Test.YtfohniicngjeoaaGreatDoorSa
set_option linter.all false
set_option maxRecDepth 1000000
namespace Go.Abs
def QE:List PV:=[il 1,il 0,il 1,il 0,il 0,.bool false]
def Wp:List PV:=[il 1,il 1,il 1,il 0,il 0,.bool false]
def ua2_:List PV:=[il 2,il 0,il 0,il 1,il 1,.bool false]
def ua3_:List PV:=[il 2,il 0,il 0,il 1,il 1,.bool true]
def JN:List PV:=[il 4,il 1,il 0,il 0,.bool false,.bool false,il 0]
def ua5_:List PV:=[il 1,il 0,il 2,il 0,il 0,.bool false]
def Wq:List PV:=[il 1,il 0,il 0,il 0,.bool false,.bool false,il 0]
def CY:List (List PV):=[QE,ua3_,ua2_,Wp]
def uK:List (List PV):=[QE,Wp]
def JO:List (List PV):=[Wp,QE]
def JP:List (List PV):=[QE,ua5_]
def abJ:jB:=(28,[.agg [.p (il 2),.p (.sl CY)]],.tup [.agg [.p (il 4),.p (il 1),.p (il 0),.p (il 0),.p (.bool false),.p (.bool false),.p (il 0)],.one (.p (.bool true))])::([]:jB)
theorem abK:jq S abJ:=.cons (l9 jq.nil 60 ah) jq.nil
def ab5:jB:=(28,[.agg [.p (il 2),.p (.sl uK)]],.tup [.agg [.p (il 0),.p (il 0),.p (il 0),.p (il 0),.p (.bool false),.p (.bool false),.p (il 0)],.one (.p (.bool false))])::abJ
theorem ab6:jq S ab5:=.cons (l9 abK 60 ah) abK
def ace:jB:=(25,[.agg [.p (il 2),.p (.sl CY)]],.tup [.agg [.p (il 2),.own 41 6 uK],.one (.own 55 7 [JN])])::ab5
theorem acf:jq S ace:=.cons (l9 ab6 60 ah) ab6
def acg:jB:=(13,[.agg [.p (il 2),.p (.sl CY)]],.tup [.agg [.p (il 2),.own 41 6 uK],.one (.own 55 7 [JN]),.one (.p (il 0))])::ace
theorem ach:jq S acg:=.cons (l9 acf 60 ah) acf
def aci:jB:=(24,[.agg [.p (il 2),.p (.sl CY)]],.tup [.agg [.p (il 2),.p (.sl CY)],.one (.p (il 0))])::acg
theorem acj:jq S aci:=.cons (l9 ach 60 ah) ach
def ack:jB:=(24,[.agg [.p (il 2),.p (.sl uK)]],.tup [.agg [.p (il 2),.p (.sl uK)],.one (.p (il 0))])::aci
theorem acm:jq S ack:=.cons (l9 acj 60 ah) acj
def acn:jB:=(48,[.agg [.p (il 2),.p (.sl uK)],.one (.p (.sl []))],.agg [.p (il 2),.p (.sl uK),.p (il 2),.p (.sl uK),.p (.sl [])])::ack
theorem aco:jq S acn:=.cons (l9 acm 60 ah) acm
def acp:jB:=(8,[.agg [.p (il 2),.p (.sl CY)],.one (.p (il 10))],.tup [.agg [.p (il 2),.p (.sl uK),.own 55 7 [JN],.p (.bool true)],.one (.p (il 0))])::acn
theorem acq:jq S acp:=.cons (l9 aco 60 ah) aco
def acr:jB:=(24,[.agg [.p (il 2),.p (.sl JO)]],.tup [.agg [.p (il 2),.p (.sl uK)],.one (.p (il 0))])::acp
theorem acs:jq S acr:=.cons (l9 acq 60 ah) acq
def acu:jB:=(25,[.agg [.p (il 2),.p (.sl uK)]],.tup [.agg [.p (il 2),.p (.sl uK)],.one (.p (.nils))])::acr
theorem acv:jq S acu:=.cons (l9 acs 60 ah) acs
def abL:jB:=(8,[.agg [.p (il 2),.p (.sl JO)],.one (.p (il 10))],.tup [.agg [.p (il 2),.p (.sl uK),.p (.nils),.p (.bool true)],.one (.p (il 0))])::acu
theorem abM:jq S abL:=.cons (l9 acv 60 ah) acv
def abN:jB:=(14,[.agg [.p (il 2),.p (.sl CY)],.agg [.p (il 2),.p (.sl JO)],.one (.p (il 10))],.tup [.agg [.own 55 7 [JN],.p (.nils)],.one (.p (il 0))])::abL
theorem abO:jq S abN:=.cons (l9 abM 60 ah) abM
def abP:jB:=(24,[.agg [.p (il 1),.p (.sl JP)]],.tup [.agg [.p (il 1),.p (.sl JP)],.one (.p (il 0))])::abN
theorem abQ:jq S abP:=.cons (l9 abO 60 ah) abO
def abR:jB:=(28,[.agg [.p (il 1),.p (.sl JP)]],.tup [.agg [.p (il 1),.p (il 0),.p (il 0),.p (il 0),.p (.bool false),.p (.bool false),.p (il 0)],.one (.p (.bool true))])::abP
theorem abS:jq S abR:=.cons (l9 abQ 60 ah) abQ
def abT:jB:=(28,[.agg [.p (il 1),.p (.sl [])]],.tup [.agg [.p (il 0),.p (il 0),.p (il 0),.p (il 0),.p (.bool false),.p (.bool false),.p (il 0)],.one (.p (.bool false))])::abR
theorem abU:jq S abT:=.cons (l9 abS 60 ah) abS
def abV:jB:=(25,[.agg [.p (il 1),.p (.sl JP)]],.tup [.agg [.p (il 1),.p (.nils)],.one (.own 55 7 [Wq])])::abT
theorem abW:jq S abV:=.cons (l9 abU 60 ah) abU
def abX:jB:=(24,[.agg [.p (il 1),.p (.sl [])]],.tup [.agg [.p (il 1),.p (.nils)],.one (.p (il 0))])::abV
theorem abY:jq S abX:=.cons (l9 abW 60 ah) abW
def abZ:jB:=(48,[.agg [.p (il 1),.p (.sl [])],.one (.p (.sl []))],.agg [.p (il 1),.p (.sl []),.p (il 1),.p (.nils),.p (.sl [])])::abX
theorem ab0:jq S abZ:=.cons (l9 abY 60 ah) abY
def ab1:jB:=(8,[.agg [.p (il 1),.p (.sl JP)],.one (.p (il 10))],.tup [.agg [.p (il 1),.p (.sl []),.own 55 7 [Wq],.p (.bool true)],.one (.p (il 0))])::abZ
theorem ab2:jq S ab1:=.cons (l9 ab0 60 ah) ab0
def ab3:jB:=(15,[.agg [.p (il 1),.p (.sl JP)],.one (.p (il 10))],.tup [.one (.own 55 7 [Wq]),.one (.p (il 0))])::ab1
theorem ab4:jq S ab3:=.cons (l9 ab2 60 ah) ab2
def ab7:jB:=(15,[.agg [.p (il 2),.p (.sl JO)],.one (.p (il 10))],.tup [.one (.p (.nils)),.one (.p (il 9))])::ab3
theorem ab8:jq S ab7:=.cons (l9 ab4 60 ah) ab4
def ab9:jB:=(40,[.agg [.p (il 2),.p (.sl CY)],.one (.p (.sl [JN]))],.tup [.agg [.p (il 2),.own 41 6 uK],.one (.p (.bool true))])::ab7
theorem aca:jq S ab9:=.cons (l9 ab8 60 ah) ab8
def acb:jB:=(40,[.agg [.p (il 2),.p (.sl JO)],.one (.p (.sl []))],.tup [.agg [.p (il 2),.own 41 6 uK],.one (.p (.bool true))])::ab9
theorem acd:jq S acb:=.cons (l9 aca 60 ah) aca
def al7:jB:=(18,[.agg [.p (il 2),.p (.sl CY)],.agg [.p (il 2),.p (.sl JO)],.agg [.p (.sl [JN]),.p (.sl [])]],.one (.p (.bool true)))::acb
theorem al8:jq S al7:=.cons (l9 acd 60 ah) acd
theorem al9:aI S 5 [] (.one (.p (.bool true))):=l9 al8 60 ah
end Go.Abs
