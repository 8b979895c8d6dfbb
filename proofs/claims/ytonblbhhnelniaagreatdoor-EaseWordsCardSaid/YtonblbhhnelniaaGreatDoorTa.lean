/-
  The examples of layer 4 hold.
-/
import Derived.Test.YtonblbhhnelniaaGreatDoorSa
set_option linter.all false
set_option maxRecDepth 1000000
namespace Go.Abs
def Rc:List PV:=[il 1,il 0,il 1,il 0,il 0,.bool false]
def Xn:List PV:=[il 1,il 1,il 1,il 0,il 0,.bool false]
def ua2_:List PV:=[il 2,il 0,il 0,il 1,il 1,.bool false]
def ua3_:List PV:=[il 2,il 0,il 0,il 1,il 1,.bool true]
def Kc:List PV:=[il 4,il 1,il 0,il 0,.bool false,.bool false,il 0]
def ua5_:List PV:=[il 1,il 0,il 2,il 0,il 0,.bool false]
def Xo:List PV:=[il 1,il 0,il 0,il 0,.bool false,.bool false,il 0]
def Dm:List (List PV):=[Rc,ua3_,ua2_,Xn]
def uJ:List (List PV):=[Rc,Xn]
def Kd:List (List PV):=[Xn,Rc]
def Ke:List (List PV):=[Rc,ua5_]
def acZ:ju:=(31,[.agg [.p (il 2),.p (.sl Dm)]],.tup [.agg [.p (il 4),.p (il 1),.p (il 0),.p (il 0),.p (.bool false),.p (.bool false),.p (il 0)],.one (.p (.bool true))])::([]:ju)
theorem ac0:ji S acZ:=.cons (lU ji.nil 60 ah) ji.nil
def adn:ju:=(31,[.agg [.p (il 2),.p (.sl uJ)]],.tup [.agg [.p (il 0),.p (il 0),.p (il 0),.p (il 0),.p (.bool false),.p (.bool false),.p (il 0)],.one (.p (.bool false))])::acZ
theorem ado:ji S adn:=.cons (lU ac0 60 ah) ac0
def adv:ju:=(26,[.agg [.p (il 2),.p (.sl Dm)]],.tup [.agg [.p (il 2),.own 42 6 uJ],.one (.own 56 7 [Kc])])::adn
theorem adw:ji S adv:=.cons (lU ado 60 ah) ado
def adx:ju:=(12,[.agg [.p (il 2),.p (.sl Dm)]],.tup [.agg [.p (il 2),.own 42 6 uJ],.one (.own 56 7 [Kc]),.one (.p (il 0))])::adv
theorem ady:ji S adx:=.cons (lU adw 60 ah) adw
def adz:ju:=(28,[.agg [.p (il 2),.p (.sl Dm)]],.tup [.agg [.p (il 2),.p (.sl Dm)],.one (.p (il 0))])::adx
theorem adA:ji S adz:=.cons (lU ady 60 ah) ady
def adB:ju:=(28,[.agg [.p (il 2),.p (.sl uJ)]],.tup [.agg [.p (il 2),.p (.sl uJ)],.one (.p (il 0))])::adz
theorem adC:ji S adB:=.cons (lU adA 60 ah) adA
def adD:ju:=(49,[.agg [.p (il 2),.p (.sl uJ)],.one (.p (.sl []))],.agg [.p (il 2),.p (.sl uJ),.p (il 2),.p (.sl uJ),.p (.sl [])])::adB
theorem adE:ji S adD:=.cons (lU adC 60 ah) adC
def adF:ju:=(14,[.agg [.p (il 2),.p (.sl Dm)],.one (.p (il 10))],.tup [.agg [.p (il 2),.p (.sl uJ),.own 56 7 [Kc],.p (.bool true)],.one (.p (il 0))])::adD
theorem adG:ji S adF:=.cons (lU adE 60 ah) adE
def adH:ju:=(28,[.agg [.p (il 2),.p (.sl Kd)]],.tup [.agg [.p (il 2),.p (.sl uJ)],.one (.p (il 0))])::adF
theorem adI:ji S adH:=.cons (lU adG 60 ah) adG
def adJ:ju:=(26,[.agg [.p (il 2),.p (.sl uJ)]],.tup [.agg [.p (il 2),.p (.sl uJ)],.one (.p (.nils))])::adH
theorem adK:ji S adJ:=.cons (lU adI 60 ah) adI
def ac1:ju:=(14,[.agg [.p (il 2),.p (.sl Kd)],.one (.p (il 10))],.tup [.agg [.p (il 2),.p (.sl uJ),.p (.nils),.p (.bool true)],.one (.p (il 0))])::adJ
theorem ac2:ji S ac1:=.cons (lU adK 60 ah) adK
def ac3:ju:=(5,[.agg [.p (il 2),.p (.sl Dm)],.agg [.p (il 2),.p (.sl Kd)],.one (.p (il 10))],.tup [.agg [.own 56 7 [Kc],.p (.nils)],.one (.p (il 0))])::ac1
theorem ac4:ji S ac3:=.cons (lU ac2 60 ah) ac2
def ac5:ju:=(28,[.agg [.p (il 1),.p (.sl Ke)]],.tup [.agg [.p (il 1),.p (.sl Ke)],.one (.p (il 0))])::ac3
theorem ac6:ji S ac5:=.cons (lU ac4 60 ah) ac4
def ac7:ju:=(31,[.agg [.p (il 1),.p (.sl Ke)]],.tup [.agg [.p (il 1),.p (il 0),.p (il 0),.p (il 0),.p (.bool false),.p (.bool false),.p (il 0)],.one (.p (.bool true))])::ac5
theorem ac8:ji S ac7:=.cons (lU ac6 60 ah) ac6
def ac9:ju:=(31,[.agg [.p (il 1),.p (.sl [])]],.tup [.agg [.p (il 0),.p (il 0),.p (il 0),.p (il 0),.p (.bool false),.p (.bool false),.p (il 0)],.one (.p (.bool false))])::ac7
theorem ada:ji S ac9:=.cons (lU ac8 60 ah) ac8
def adb:ju:=(26,[.agg [.p (il 1),.p (.sl Ke)]],.tup [.agg [.p (il 1),.p (.nils)],.one (.own 56 7 [Xo])])::ac9
theorem ade:ji S adb:=.cons (lU ada 60 ah) ada
def adf:ju:=(28,[.agg [.p (il 1),.p (.sl [])]],.tup [.agg [.p (il 1),.p (.nils)],.one (.p (il 0))])::adb
theorem adg:ji S adf:=.cons (lU ade 60 ah) ade
def adh:ju:=(49,[.agg [.p (il 1),.p (.sl [])],.one (.p (.sl []))],.agg [.p (il 1),.p (.sl []),.p (il 1),.p (.nils),.p (.sl [])])::adf
theorem adi:ji S adh:=.cons (lU adg 60 ah) adg
def adj:ju:=(14,[.agg [.p (il 1),.p (.sl Ke)],.one (.p (il 10))],.tup [.agg [.p (il 1),.p (.sl []),.own 56 7 [Xo],.p (.bool true)],.one (.p (il 0))])::adh
theorem adk:ji S adj:=.cons (lU adi 60 ah) adi
def adl:ju:=(13,[.agg [.p (il 1),.p (.sl Ke)],.one (.p (il 10))],.tup [.one (.own 56 7 [Xo]),.one (.p (il 0))])::adj
theorem adm:ji S adl:=.cons (lU adk 60 ah) adk
def adp:ju:=(13,[.agg [.p (il 2),.p (.sl Kd)],.one (.p (il 10))],.tup [.one (.p (.nils)),.one (.p (il 9))])::adl
theorem adq:ji S adp:=.cons (lU adm 60 ah) adm
def adr:ju:=(33,[.agg [.p (il 2),.p (.sl Dm)],.one (.p (.sl [Kc]))],.tup [.agg [.p (il 2),.own 42 6 uJ],.one (.p (.bool true))])::adp
theorem ads:ji S adr:=.cons (lU adq 60 ah) adq
def adt:ju:=(33,[.agg [.p (il 2),.p (.sl Kd)],.one (.p (.sl []))],.tup [.agg [.p (il 2),.own 42 6 uJ],.one (.p (.bool true))])::adr
theorem adu:ji S adt:=.cons (lU ads 60 ah) ads
def an6:ju:=(17,[.agg [.p (il 2),.p (.sl Dm)],.agg [.p (il 2),.p (.sl Kd)],.agg [.p (.sl [Kc]),.p (.sl [])]],.one (.p (.bool true)))::adt
theorem an7:ji S an6:=.cons (lU adu 60 ah) adu
theorem an8:aI S 4 [] (.one (.p (.bool true))):=lU an7 60 ah
end Go.Abs
