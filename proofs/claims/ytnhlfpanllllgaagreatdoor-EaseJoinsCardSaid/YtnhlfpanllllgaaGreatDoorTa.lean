/-
  The examples of layer 4 hold.
-/
import Derived.Test.YtnhlfpanllllgaaGreatDoorSa
set_option linter.all false
set_option maxRecDepth 1000000
namespace Go.Abs
abbrev il(k:Int):PV:=.int .i64 k
def VF:b_:=[il 1,il 0,il 1,il 0,il 0,.bool false]
def ada:b_:=[il 1,il 1,il 1,il 0,il 0,.bool false]
def ua2_:b_:=[il 2,il 0,il 0,il 1,il 1,.bool false]
def ua3_:b_:=[il 2,il 0,il 0,il 1,il 1,.bool true]
def Nt:b_:=[il 4,il 1,il 0,il 0,.bool false,.bool false,il 0]
def ua5_:b_:=[il 1,il 0,il 2,il 0,il 0,.bool false]
def adb:b_:=[il 1,il 0,il 0,il 0,.bool false,.bool false,il 0]
def Gr:s_:=[VF,ua3_,ua2_,ada]
def xX:s_:=[VF,ada]
def Nu:s_:=[ada,VF]
def Nv:s_:=[VF,ua5_]
def aiH:kX:=(27,[.agg [.p (il 2),.p (.sl Gr)]],.tup [.agg [.p (il 4),.p (il 1),.p (il 0),.p (il 0),.p (.bool false),.p (.bool false),.p (il 0)],.one (.p (.bool true))])::([]:kX)
theorem aiI:kD S aiH:=.cons (pz kD.nil 60 ah) kD.nil
def ai3:kX:=(27,[.agg [.p (il 2),.p (.sl xX)]],.tup [.agg [.p (il 0),.p (il 0),.p (il 0),.p (il 0),.p (.bool false),.p (.bool false),.p (il 0)],.one (.p (.bool false))])::aiH
theorem ai4:kD S ai3:=.cons (pz aiI 60 ah) aiI
def ajb:kX:=(24,[.agg [.p (il 2),.p (.sl Gr)]],.tup [.agg [.p (il 2),.own 49 6 xX],.one (.own 57 7 [Nt])])::ai3
theorem ajc:kD S ajb:=.cons (pz ai4 60 ah) ai4
def ajd:kX:=(18,[.agg [.p (il 2),.p (.sl Gr)]],.tup [.agg [.p (il 2),.own 49 6 xX],.one (.own 57 7 [Nt]),.one (.p (il 0))])::ajb
theorem aje:kD S ajd:=.cons (pz ajc 60 ah) ajc
def ajf:kX:=(23,[.agg [.p (il 2),.p (.sl Gr)]],.tup [.agg [.p (il 2),.p (.sl Gr)],.one (.p (il 0))])::ajd
theorem ajg:kD S ajf:=.cons (pz aje 60 ah) aje
def ajh:kX:=(23,[.agg [.p (il 2),.p (.sl xX)]],.tup [.agg [.p (il 2),.p (.sl xX)],.one (.p (il 0))])::ajf
theorem aji:kD S ajh:=.cons (pz ajg 60 ah) ajg
def ajj:kX:=(42,[.agg [.p (il 2),.p (.sl xX)],.one (.p (.sl []))],.agg [.p (il 2),.p (.sl xX),.p (il 2),.p (.sl xX),.p (.sl [])])::ajh
theorem ajk:kD S ajj:=.cons (pz aji 60 ah) aji
def ajl:kX:=(8,[.agg [.p (il 2),.p (.sl Gr)],.one (.p (il 10))],.tup [.agg [.p (il 2),.p (.sl xX),.own 57 7 [Nt],.p (.bool true)],.one (.p (il 0))])::ajj
theorem ajm:kD S ajl:=.cons (pz ajk 60 ah) ajk
def ajn:kX:=(23,[.agg [.p (il 2),.p (.sl Nu)]],.tup [.agg [.p (il 2),.p (.sl xX)],.one (.p (il 0))])::ajl
theorem ajo:kD S ajn:=.cons (pz ajm 60 ah) ajm
def ajp:kX:=(24,[.agg [.p (il 2),.p (.sl xX)]],.tup [.agg [.p (il 2),.p (.sl xX)],.one (.p (.nils))])::ajn
theorem ajq:kD S ajp:=.cons (pz ajo 60 ah) ajo
def aiJ:kX:=(8,[.agg [.p (il 2),.p (.sl Nu)],.one (.p (il 10))],.tup [.agg [.p (il 2),.p (.sl xX),.p (.nils),.p (.bool true)],.one (.p (il 0))])::ajp
theorem aiK:kD S aiJ:=.cons (pz ajq 60 ah) ajq
def aiL:kX:=(14,[.agg [.p (il 2),.p (.sl Gr)],.agg [.p (il 2),.p (.sl Nu)],.one (.p (il 10))],.tup [.agg [.own 57 7 [Nt],.p (.nils)],.one (.p (il 0))])::aiJ
theorem aiM:kD S aiL:=.cons (pz aiK 60 ah) aiK
def aiN:kX:=(23,[.agg [.p (il 1),.p (.sl Nv)]],.tup [.agg [.p (il 1),.p (.sl Nv)],.one (.p (il 0))])::aiL
theorem aiO:kD S aiN:=.cons (pz aiM 60 ah) aiM
def aiP:kX:=(27,[.agg [.p (il 1),.p (.sl Nv)]],.tup [.agg [.p (il 1),.p (il 0),.p (il 0),.p (il 0),.p (.bool false),.p (.bool false),.p (il 0)],.one (.p (.bool true))])::aiN
theorem aiQ:kD S aiP:=.cons (pz aiO 60 ah) aiO
def aiR:kX:=(27,[.agg [.p (il 1),.p (.sl [])]],.tup [.agg [.p (il 0),.p (il 0),.p (il 0),.p (il 0),.p (.bool false),.p (.bool false),.p (il 0)],.one (.p (.bool false))])::aiP
theorem aiS:kD S aiR:=.cons (pz aiQ 60 ah) aiQ
def aiT:kX:=(24,[.agg [.p (il 1),.p (.sl Nv)]],.tup [.agg [.p (il 1),.p (.nils)],.one (.own 57 7 [adb])])::aiR
theorem aiU:kD S aiT:=.cons (pz aiS 60 ah) aiS
def aiV:kX:=(23,[.agg [.p (il 1),.p (.sl [])]],.tup [.agg [.p (il 1),.p (.nils)],.one (.p (il 0))])::aiT
theorem aiW:kD S aiV:=.cons (pz aiU 60 ah) aiU
def aiX:kX:=(42,[.agg [.p (il 1),.p (.sl [])],.one (.p (.sl []))],.agg [.p (il 1),.p (.sl []),.p (il 1),.p (.nils),.p (.sl [])])::aiV
theorem aiY:kD S aiX:=.cons (pz aiW 60 ah) aiW
def aiZ:kX:=(8,[.agg [.p (il 1),.p (.sl Nv)],.one (.p (il 10))],.tup [.agg [.p (il 1),.p (.sl []),.own 57 7 [adb],.p (.bool true)],.one (.p (il 0))])::aiX
theorem ai0:kD S aiZ:=.cons (pz aiY 60 ah) aiY
def ai1:kX:=(12,[.agg [.p (il 1),.p (.sl Nv)],.one (.p (il 10))],.tup [.one (.p (.sl [adb])),.one (.p (il 0))])::aiZ
theorem ai2:kD S ai1:=.cons (pz ai0 60 ah) ai0
def ai5:kX:=(12,[.agg [.p (il 2),.p (.sl Nu)],.one (.p (il 10))],.tup [.one (.p (.nils)),.one (.p (il 9))])::ai1
theorem ai6:kD S ai5:=.cons (pz ai2 60 ah) ai2
def ai7:kX:=(37,[.agg [.p (il 2),.p (.sl Gr)],.one (.p (.sl [Nt]))],.tup [.agg [.p (il 2),.own 49 6 xX],.one (.p (.bool true))])::ai5
theorem ai8:kD S ai7:=.cons (pz ai6 60 ah) ai6
def ai9:kX:=(37,[.agg [.p (il 2),.p (.sl Nu)],.one (.p (.sl []))],.tup [.agg [.p (il 2),.own 49 6 xX],.one (.p (.bool true))])::ai7
theorem aja:kD S ai9:=.cons (pz ai8 60 ah) ai8
def auH:kX:=(21,[.agg [.p (il 2),.p (.sl Gr)],.agg [.p (il 2),.p (.sl Nu)],.agg [.p (.sl [Nt]),.p (.sl [])]],.one (.p (.bool true)))::ai9
theorem auI:kD S auH:=.cons (pz aja 60 ah) aja
theorem auJ:aJ S 7 [] (.one (.p (.bool true))):=pz auI 60 ah
end Go.Abs
