/-
  The examples of layer 4 hold.
-/
import Derived.Test.YtkdkhndppjfpmaaGreatDoorSa
set_option linter.all false
set_option maxRecDepth 1000000
namespace Go.Abs
abbrev il(k:Int):PV:=.int .i64 k
def VH:b_:=[il 1,il 0,il 1,il 0,il 0,.bool false]
def acY:b_:=[il 1,il 1,il 1,il 0,il 0,.bool false]
def ua2_:b_:=[il 2,il 0,il 0,il 1,il 1,.bool false]
def ua3_:b_:=[il 2,il 0,il 0,il 1,il 1,.bool true]
def Nz:b_:=[il 4,il 1,il 0,il 0,.bool false,.bool false,il 0]
def ua5_:b_:=[il 1,il 0,il 2,il 0,il 0,.bool false]
def acZ:b_:=[il 1,il 0,il 0,il 0,.bool false,.bool false,il 0]
def GU:q_:=[VH,ua3_,ua2_,acY]
def yj:q_:=[VH,acY]
def NA:q_:=[acY,VH]
def NB:q_:=[VH,ua5_]
def ah3:lV:=(30,[.agg [.p (il 2),.p (.sl GU)]],.tup [.agg [.p (il 4),.p (il 1),.p (il 0),.p (il 0),.p (.bool false),.p (.bool false),.p (il 0)],.one (.p (.bool true))])::([]:lV)
theorem ah4:lM S ah3:=.cons (pW lM.nil 60 ah) lM.nil
def aiq:lV:=(30,[.agg [.p (il 2),.p (.sl yj)]],.tup [.agg [.p (il 0),.p (il 0),.p (il 0),.p (il 0),.p (.bool false),.p (.bool false),.p (il 0)],.one (.p (.bool false))])::ah3
theorem air:lM S aiq:=.cons (pW ah4 60 ah) ah4
def aiy:lV:=(23,[.agg [.p (il 2),.p (.sl GU)]],.tup [.agg [.p (il 2),.own 32 6 yj],.one (.own 49 7 [Nz])])::aiq
theorem aiz:lM S aiy:=.cons (pW air 60 ah) air
def aiA:lV:=(9,[.agg [.p (il 2),.p (.sl GU)]],.tup [.agg [.p (il 2),.own 32 6 yj],.one (.own 49 7 [Nz]),.one (.p (il 0))])::aiy
theorem aiB:lM S aiA:=.cons (pW aiz 60 ah) aiz
def aiC:lV:=(27,[.agg [.p (il 2),.p (.sl GU)]],.tup [.agg [.p (il 2),.p (.sl GU)],.one (.p (il 0))])::aiA
theorem aiD:lM S aiC:=.cons (pW aiB 60 ah) aiB
def aiE:lV:=(27,[.agg [.p (il 2),.p (.sl yj)]],.tup [.agg [.p (il 2),.p (.sl yj)],.one (.p (il 0))])::aiC
theorem aiF:lM S aiE:=.cons (pW aiD 60 ah) aiD
def aiG:lV:=(58,[.agg [.p (il 2),.p (.sl yj)],.one (.p (.sl []))],.agg [.p (il 2),.p (.sl yj),.p (il 2),.p (.sl yj),.p (.sl [])])::aiE
theorem aiH:lM S aiG:=.cons (pW aiF 60 ah) aiF
def aiI:lV:=(12,[.agg [.p (il 2),.p (.sl GU)],.one (.p (il 10))],.tup [.agg [.p (il 2),.p (.sl yj),.own 49 7 [Nz],.p (.bool true)],.one (.p (il 0))])::aiG
theorem aiJ:lM S aiI:=.cons (pW aiH 60 ah) aiH
def aiK:lV:=(27,[.agg [.p (il 2),.p (.sl NA)]],.tup [.agg [.p (il 2),.p (.sl yj)],.one (.p (il 0))])::aiI
theorem aiL:lM S aiK:=.cons (pW aiJ 60 ah) aiJ
def aiM:lV:=(23,[.agg [.p (il 2),.p (.sl yj)]],.tup [.agg [.p (il 2),.p (.sl yj)],.one (.p (.nils))])::aiK
theorem aiN:lM S aiM:=.cons (pW aiL 60 ah) aiL
def ah5:lV:=(12,[.agg [.p (il 2),.p (.sl NA)],.one (.p (il 10))],.tup [.agg [.p (il 2),.p (.sl yj),.p (.nils),.p (.bool true)],.one (.p (il 0))])::aiM
theorem ah6:lM S ah5:=.cons (pW aiN 60 ah) aiN
def ah7:lV:=(10,[.agg [.p (il 2),.p (.sl GU)],.agg [.p (il 2),.p (.sl NA)],.one (.p (il 10))],.tup [.agg [.own 49 7 [Nz],.p (.nils)],.one (.p (il 0))])::ah5
theorem ah8:lM S ah7:=.cons (pW ah6 60 ah) ah6
def ah9:lV:=(27,[.agg [.p (il 1),.p (.sl NB)]],.tup [.agg [.p (il 1),.p (.sl NB)],.one (.p (il 0))])::ah7
theorem aia:lM S ah9:=.cons (pW ah8 60 ah) ah8
def aib:lV:=(30,[.agg [.p (il 1),.p (.sl NB)]],.tup [.agg [.p (il 1),.p (il 0),.p (il 0),.p (il 0),.p (.bool false),.p (.bool false),.p (il 0)],.one (.p (.bool true))])::ah9
theorem aic:lM S aib:=.cons (pW aia 60 ah) aia
def aid:lV:=(30,[.agg [.p (il 1),.p (.sl [])]],.tup [.agg [.p (il 0),.p (il 0),.p (il 0),.p (il 0),.p (.bool false),.p (.bool false),.p (il 0)],.one (.p (.bool false))])::aib
theorem aie:lM S aid:=.cons (pW aic 60 ah) aic
def aif:lV:=(23,[.agg [.p (il 1),.p (.sl NB)]],.tup [.agg [.p (il 1),.p (.nils)],.one (.own 49 7 [acZ])])::aid
theorem aih:lM S aif:=.cons (pW aie 60 ah) aie
def aii:lV:=(27,[.agg [.p (il 1),.p (.sl [])]],.tup [.agg [.p (il 1),.p (.nils)],.one (.p (il 0))])::aif
theorem aij:lM S aii:=.cons (pW aih 60 ah) aih
def aik:lV:=(58,[.agg [.p (il 1),.p (.sl [])],.one (.p (.sl []))],.agg [.p (il 1),.p (.sl []),.p (il 1),.p (.nils),.p (.sl [])])::aii
theorem ail:lM S aik:=.cons (pW aij 60 ah) aij
def aim:lV:=(12,[.agg [.p (il 1),.p (.sl NB)],.one (.p (il 10))],.tup [.agg [.p (il 1),.p (.sl []),.own 49 7 [acZ],.p (.bool true)],.one (.p (il 0))])::aik
theorem ain:lM S aim:=.cons (pW ail 60 ah) ail
def aio:lV:=(11,[.agg [.p (il 1),.p (.sl NB)],.one (.p (il 10))],.tup [.one (.own 49 7 [acZ]),.one (.p (il 0))])::aim
theorem aip:lM S aio:=.cons (pW ain 60 ah) ain
def ais:lV:=(11,[.agg [.p (il 2),.p (.sl NA)],.one (.p (il 10))],.tup [.one (.p (.nils)),.one (.p (il 9))])::aio
theorem ait:lM S ais:=.cons (pW aip 60 ah) aip
def aiu:lV:=(15,[.agg [.p (il 2),.p (.sl GU)],.one (.p (.sl [Nz]))],.tup [.agg [.p (il 2),.own 32 6 yj],.one (.p (.bool true))])::ais
theorem aiv:lM S aiu:=.cons (pW ait 60 ah) ait
def aiw:lV:=(15,[.agg [.p (il 2),.p (.sl NA)],.one (.p (.sl []))],.tup [.agg [.p (il 2),.own 32 6 yj],.one (.p (.bool true))])::aiu
theorem aix:lM S aiw:=.cons (pW aiv 60 ah) aiv
def atF:lV:=(5,[.agg [.p (il 2),.p (.sl GU)],.agg [.p (il 2),.p (.sl NA)],.agg [.p (.sl [Nz]),.p (.sl [])]],.one (.p (.bool true)))::aiw
theorem atH:lM S atF:=.cons (pW aix 60 ah) aix
theorem atI:aK S 4 [] (.one (.p (.bool true))):=pW atH 60 ah
end Go.Abs
