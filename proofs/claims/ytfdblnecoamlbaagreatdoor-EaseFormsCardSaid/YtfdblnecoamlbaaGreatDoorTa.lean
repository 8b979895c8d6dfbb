/-
  The examples of layer 4 hold.
-/
import Derived.Test.YtfdblnecoamlbaaGreatDoorSa
set_option linter.all false
set_option maxRecDepth 1000000
namespace Go.Abs
def SC:b_:=[il 1,il 0,il 1,il 0,il 0,.bool false]
def YV:b_:=[il 1,il 1,il 1,il 0,il 0,.bool false]
def ua2_:b_:=[il 2,il 0,il 0,il 1,il 1,.bool false]
def ua3_:b_:=[il 2,il 0,il 0,il 1,il 1,.bool true]
def Lm:b_:=[il 4,il 1,il 0,il 0,.bool false,.bool false,il 0]
def ua5_:b_:=[il 1,il 0,il 2,il 0,il 0,.bool false]
def YW:b_:=[il 1,il 0,il 0,il 0,.bool false,.bool false,il 0]
def Ec:s_:=[SC,ua3_,ua2_,YV]
def vQ:s_:=[SC,YV]
def Ln:s_:=[YV,SC]
def Lo:s_:=[SC,ua5_]
def aeI:jY:=(25,[.agg [.p (il 2),.p (.sl Ec)]],.tup [.agg [.p (il 4),.p (il 1),.p (il 0),.p (il 0),.p (.bool false),.p (.bool false),.p (il 0)],.one (.p (.bool true))])::([]:jY)
theorem aeJ:jP S aeI:=.cons (nc jP.nil 60 ah) jP.nil
def ae4:jY:=(25,[.agg [.p (il 2),.p (.sl vQ)]],.tup [.agg [.p (il 0),.p (il 0),.p (il 0),.p (il 0),.p (.bool false),.p (.bool false),.p (il 0)],.one (.p (.bool false))])::aeI
theorem ae5:jP S ae4:=.cons (nc aeJ 60 ah) aeJ
def afc:jY:=(22,[.agg [.p (il 2),.p (.sl Ec)]],.tup [.agg [.p (il 2),.own 48 6 vQ],.one (.own 44 7 [Lm])])::ae4
theorem afd:jP S afc:=.cons (nc ae5 60 ah) ae5
def afe:jY:=(15,[.agg [.p (il 2),.p (.sl Ec)]],.tup [.agg [.p (il 2),.own 48 6 vQ],.one (.own 44 7 [Lm]),.one (.p (il 0))])::afc
theorem aff:jP S afe:=.cons (nc afd 60 ah) afd
def afg:jY:=(7,[.agg [.p (il 2),.p (.sl Ec)]],.tup [.agg [.p (il 2),.p (.sl Ec)],.one (.p (il 0))])::afe
theorem afh:jP S afg:=.cons (nc aff 60 ah) aff
def afi:jY:=(7,[.agg [.p (il 2),.p (.sl vQ)]],.tup [.agg [.p (il 2),.p (.sl vQ)],.one (.p (il 0))])::afg
theorem afj:jP S afi:=.cons (nc afh 60 ah) afh
def afk:jY:=(43,[.agg [.p (il 2),.p (.sl vQ)],.one (.p (.sl []))],.agg [.p (il 2),.p (.sl vQ),.p (il 2),.p (.sl vQ),.p (.sl [])])::afi
theorem afl:jP S afk:=.cons (nc afj 60 ah) afj
def afm:jY:=(6,[.agg [.p (il 2),.p (.sl Ec)],.one (.p (il 10))],.tup [.agg [.p (il 2),.p (.sl vQ),.own 44 7 [Lm],.p (.bool true)],.one (.p (il 0))])::afk
theorem afn:jP S afm:=.cons (nc afl 60 ah) afl
def afo:jY:=(7,[.agg [.p (il 2),.p (.sl Ln)]],.tup [.agg [.p (il 2),.p (.sl vQ)],.one (.p (il 0))])::afm
theorem afp:jP S afo:=.cons (nc afn 60 ah) afn
def afq:jY:=(22,[.agg [.p (il 2),.p (.sl vQ)]],.tup [.agg [.p (il 2),.p (.sl vQ)],.one (.p (.nils))])::afo
theorem afr:jP S afq:=.cons (nc afp 60 ah) afp
def aeK:jY:=(6,[.agg [.p (il 2),.p (.sl Ln)],.one (.p (il 10))],.tup [.agg [.p (il 2),.p (.sl vQ),.p (.nils),.p (.bool true)],.one (.p (il 0))])::afq
theorem aeL:jP S aeK:=.cons (nc afr 60 ah) afr
def aeM:jY:=(16,[.agg [.p (il 2),.p (.sl Ec)],.agg [.p (il 2),.p (.sl Ln)],.one (.p (il 10))],.tup [.agg [.own 44 7 [Lm],.p (.nils)],.one (.p (il 0))])::aeK
theorem aeN:jP S aeM:=.cons (nc aeL 60 ah) aeL
def aeO:jY:=(7,[.agg [.p (il 1),.p (.sl Lo)]],.tup [.agg [.p (il 1),.p (.sl Lo)],.one (.p (il 0))])::aeM
theorem aeP:jP S aeO:=.cons (nc aeN 60 ah) aeN
def aeQ:jY:=(25,[.agg [.p (il 1),.p (.sl Lo)]],.tup [.agg [.p (il 1),.p (il 0),.p (il 0),.p (il 0),.p (.bool false),.p (.bool false),.p (il 0)],.one (.p (.bool true))])::aeO
theorem aeR:jP S aeQ:=.cons (nc aeP 60 ah) aeP
def aeS:jY:=(25,[.agg [.p (il 1),.p (.sl [])]],.tup [.agg [.p (il 0),.p (il 0),.p (il 0),.p (il 0),.p (.bool false),.p (.bool false),.p (il 0)],.one (.p (.bool false))])::aeQ
theorem aeT:jP S aeS:=.cons (nc aeR 60 ah) aeR
def aeU:jY:=(22,[.agg [.p (il 1),.p (.sl Lo)]],.tup [.agg [.p (il 1),.p (.nils)],.one (.own 44 7 [YW])])::aeS
theorem aeV:jP S aeU:=.cons (nc aeT 60 ah) aeT
def aeW:jY:=(7,[.agg [.p (il 1),.p (.sl [])]],.tup [.agg [.p (il 1),.p (.nils)],.one (.p (il 0))])::aeU
theorem aeX:jP S aeW:=.cons (nc aeV 60 ah) aeV
def aeY:jY:=(43,[.agg [.p (il 1),.p (.sl [])],.one (.p (.sl []))],.agg [.p (il 1),.p (.sl []),.p (il 1),.p (.nils),.p (.sl [])])::aeW
theorem aeZ:jP S aeY:=.cons (nc aeX 60 ah) aeX
def ae0:jY:=(6,[.agg [.p (il 1),.p (.sl Lo)],.one (.p (il 10))],.tup [.agg [.p (il 1),.p (.sl []),.own 44 7 [YW],.p (.bool true)],.one (.p (il 0))])::aeY
theorem ae1:jP S ae0:=.cons (nc aeZ 60 ah) aeZ
def ae2:jY:=(17,[.agg [.p (il 1),.p (.sl Lo)],.one (.p (il 10))],.tup [.one (.own 44 7 [YW]),.one (.p (il 0))])::ae0
theorem ae3:jP S ae2:=.cons (nc ae1 60 ah) ae1
def ae6:jY:=(17,[.agg [.p (il 2),.p (.sl Ln)],.one (.p (il 10))],.tup [.one (.p (.nils)),.one (.p (il 9))])::ae2
theorem ae7:jP S ae6:=.cons (nc ae3 60 ah) ae3
def ae8:jY:=(42,[.agg [.p (il 2),.p (.sl Ec)],.one (.p (.sl [Lm]))],.tup [.agg [.p (il 2),.own 48 6 vQ],.one (.p (.bool true))])::ae6
theorem ae9:jP S ae8:=.cons (nc ae7 60 ah) ae7
def afa:jY:=(42,[.agg [.p (il 2),.p (.sl Ln)],.one (.p (.sl []))],.tup [.agg [.p (il 2),.own 48 6 vQ],.one (.p (.bool true))])::ae8
theorem afb:jP S afa:=.cons (nc ae9 60 ah) ae9
def apB:jY:=(20,[.agg [.p (il 2),.p (.sl Ec)],.agg [.p (il 2),.p (.sl Ln)],.agg [.p (.sl [Lm]),.p (.sl [])]],.one (.p (.bool true)))::afa
theorem apC:jP S apB:=.cons (nc afb 60 ah) afb
theorem apD:aK S 5 [] (.one (.p (.bool true))):=nc apC 60 ah
end Go.Abs
