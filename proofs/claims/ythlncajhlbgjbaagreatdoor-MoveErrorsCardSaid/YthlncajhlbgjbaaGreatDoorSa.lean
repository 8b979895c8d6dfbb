/-
  The program of this seat as a system of the abstract machine.
-/
import Derived.Test.YthlncajhlbgjbaaGreatDoorMa
import Derived.Test.YthlncajhlbgjbaaGreatDoorMd
import Derived.Test.YthlncajhlbgjbaaGreatDoorMc
import Derived.Test.YthlncajhlbgjbaaGreatDoorMf
import Derived.KernelRfl
import Derived.Test.YthlncajhlbgjbaaGreatDoorProg
set_option linter.unusedSimpArgs false
set_option linter.unusedVariables false
set_option linter.unusedSectionVars false
namespace Go.Abs
set_option maxRecDepth 100000
def i26 : IFn :=
⟨11, [(2, none)],
 (.seq (.region false [
 ⟨(some (1)), .box 1664000000 (.t 0), none, 0⟩,
 ⟨(some (2)), .mov (.i 0), none, 0⟩]) (.seq (.region false [
 ⟨(some (6)), .load (some (2)) (.t 1), none, 0⟩,
 ⟨(some (7)), .call 1664064064 (.k (.one (.p (.fn 50 [] [])))) [.t 6], none, 0⟩,
 ⟨(some (5)), .mov (.t 7), none, 0⟩,
 ⟨(some (8)), .extract (.t 5) 0, none, 0⟩,
 ⟨(some (9)), .extract (.t 5) 1, none, 0⟩,
 ⟨(some (3)), .mov (.t 8), none, 0⟩,
 ⟨(some (4)), .mov (.t 9), none, 0⟩]) (.seq (.region false [
 ⟨(some (10)), .mov (.t 4), none, 0⟩,
 ⟨(some (2)), .mov (.t 10), none, 0⟩]) (.ret))))⟩
def i50 : IFn :=
⟨29, [(2, none), (3, none)],
 (.seq (.region false [
 ⟨(some (1)), .box 3200000000 (.t 0), none, 0⟩,
 ⟨(some (2)), .mov (.k (.one (.p (.nilp)))), none, 0⟩,
 ⟨(some (3)), .mov (.i 0), none, 0⟩]) (.seq (.seq (.region false [
 ⟨(some (5)), .faddr 1 (.t 1), none, 0⟩,
 ⟨(some (6)), .load none (.t 5), none, 0⟩,
 ⟨(some (7)), .llen (.t 6), none, 0⟩,
 ⟨(some (8)), .bin .gtr (.t 7) (.i 400), none, 0⟩,
 ⟨(some (9)), .mov (.t 8), none, 0⟩,
 ⟨(some (10)), .load (some (2)) (.t 1), (some (9, false)), 0⟩,
 ⟨(some (11)), .call 3200064384 (.k (.one (.p (.fn 63 [] [])))) [.t 10], (some (9, false)), 0⟩,
 ⟨(some (12)), .bin .gtr (.t 11) (.i 200), (some (9, false)), 0⟩,
 ⟨(some (13)), .pick (.t 9) (.b true) (.t 12), none, 0⟩]) (.cond (.t 13) (.seq (.region false [
 ⟨(some (2)), .mov (.k (.one (.p (.nilp)))), none, 0⟩,
 ⟨(some (3)), .mov (.i 7), none, 0⟩]) (.ret)) (.skip))) (.seq (.seq (.region false [
 ⟨(some (14)), .faddr 0 (.t 1), none, 0⟩,
 ⟨(some (15)), .load none (.t 14), none, 0⟩,
 ⟨(some (16)), .bin .lss (.t 15) (.i 0), none, 0⟩,
 ⟨(some (17)), .mov (.t 16), none, 0⟩,
 ⟨(some (18)), .faddr 0 (.t 1), (some (17, false)), 0⟩,
 ⟨(some (19)), .load none (.t 18), (some (17, false)), 0⟩,
 ⟨(some (20)), .bin .gtr (.t 19) (.i 40), (some (17, false)), 0⟩,
 ⟨(some (21)), .pick (.t 17) (.b true) (.t 20), none, 0⟩]) (.cond (.t 21) (.seq (.region false [
 ⟨(some (2)), .mov (.k (.one (.p (.nilp)))), none, 0⟩,
 ⟨(some (3)), .mov (.i 2), none, 0⟩]) (.ret)) (.skip))) (.seq (.region false [
 ⟨(some (22)), .load (some (2)) (.t 1), none, 0⟩,
 ⟨(some (23)), .build [.int .i64 0, .nils, .nils, .nils, .nils, .nilm, .nils] [(0, 2, .t 22)], none, 0⟩,
 ⟨(some (24)), .box 3200320128 (.t 23), none, 0⟩,
 ⟨(some (4)), .mov (.t 24), none, 0⟩]) (.seq (.seq (.region false [
 ⟨(some (25)), .mov (.t 4), none, 0⟩,
 ⟨(some (26)), .call 3200384064 (.k (.one (.p (.fn 82 [] [])))) [.t 25], none, 0⟩,
 ⟨(some (27)), .un .not (.t 26), none, 0⟩]) (.cond (.t 27) (.seq (.region false [
 ⟨(some (2)), .mov (.k (.one (.p (.nilp)))), none, 0⟩,
 ⟨(some (3)), .mov (.i 3), none, 0⟩]) (.ret)) (.skip))) (.seq (.region false [
 ⟨(some (28)), .mov (.t 4), none, 0⟩,
 ⟨(some (2)), .mov (.t 28), none, 0⟩,
 ⟨(some (3)), .mov (.i 0), none, 0⟩]) (.ret)))))))⟩
def i63_l1 : ICode :=
(.seq (.region false [
 ⟨(some (10)), .bin .lss (.t 9) (.t 8), none, 0⟩]) (.seq (.cond (.t 10) (.skip) (.exit 0)) (.seq (.block 1 (.seq (.region false [
 ⟨(some (11)), .iaddr 6 (.t 7) (.t 9), none, 0⟩,
 ⟨(some (12)), .load (some (6)) (.t 11), none, 0⟩,
 ⟨(some (5)), .alloc 4032256128 [.int .i64 0, .int .i64 0, .int .i64 0, .int .i64 0, .int .i64 0, .bool false], none, 0⟩,
 ⟨none, .store 6 (.t 5) (.t 12), none, 0⟩]) (.seq (.region false [
 ⟨(some (13)), .faddr 0 (.t 5), none, 0⟩,
 ⟨(some (14)), .load none (.t 13), none, 0⟩,
 ⟨(some (15)), .bin .eql (.t 14) (.i 2), none, 0⟩]) (.cond (.t 15) (.region false [
 ⟨(some (16)), .mov (.t 3), none, 0⟩,
 ⟨(some (17)), .bin .add (.t 16) (.i 1), none, 0⟩,
 ⟨(some (3)), .mov (.t 17), none, 0⟩]) (.skip))))) (.region false [
 ⟨(some (18)), .bin .add (.t 9) (.i 1), none, 0⟩,
 ⟨(some (9)), .mov (.t 18), none, 0⟩]))))
def i63_r2 : ICode :=
(.seq (.region false [
 ⟨(some (19)), .mov (.t 3), none, 0⟩,
 ⟨(some (2)), .mov (.t 19), none, 0⟩]) (.ret))
def i63 : IFn :=
⟨20, [(2, none)],
 (.seq (.region false [
 ⟨(some (1)), .box 4032000000 (.t 0), none, 0⟩,
 ⟨(some (2)), .mov (.i 0), none, 0⟩]) (.seq (.region false [
 ⟨(some (3)), .mov (.i 0), none, 0⟩]) (.seq (.seq (.region false [
 ⟨(some (6)), .faddr 1 (.t 1), none, 0⟩,
 ⟨(some (7)), .load none (.t 6), none, 0⟩,
 ⟨(some (8)), .llen (.t 7), none, 0⟩,
 ⟨(some (9)), .mov (.i 0), none, 0⟩]) (.block 0 (.loop i63_l1))) i63_r2)))⟩
def i40_l1 : ICode :=
(.seq (.region false [
 ⟨(some (10)), .bin .lss (.t 9) (.t 8), none, 0⟩]) (.seq (.cond (.t 10) (.skip) (.exit 0)) (.seq (.block 1 (.seq (.region false [
 ⟨(some (11)), .iaddr 6 (.t 7) (.t 9), none, 0⟩,
 ⟨(some (12)), .load (some (6)) (.t 11), none, 0⟩,
 ⟨(some (5)), .alloc 2560256128 [.int .i64 0, .int .i64 0, .int .i64 0, .int .i64 0, .int .i64 0, .bool false], none, 0⟩,
 ⟨none, .store 6 (.t 5) (.t 12), none, 0⟩]) (.seq (.region false [
 ⟨(some (13)), .faddr 0 (.t 5), none, 0⟩,
 ⟨(some (14)), .load none (.t 13), none, 0⟩,
 ⟨(some (15)), .bin .eql (.t 14) (.i 1), none, 0⟩]) (.cond (.t 15) (.region false [
 ⟨(some (16)), .mov (.t 3), none, 0⟩,
 ⟨(some (17)), .bin .add (.t 16) (.i 1), none, 0⟩,
 ⟨(some (3)), .mov (.t 17), none, 0⟩]) (.skip))))) (.region false [
 ⟨(some (18)), .bin .add (.t 9) (.i 1), none, 0⟩,
 ⟨(some (9)), .mov (.t 18), none, 0⟩]))))
def i40_r2 : ICode :=
(.seq (.region false [
 ⟨(some (19)), .mov (.t 3), none, 0⟩,
 ⟨(some (2)), .mov (.t 19), none, 0⟩]) (.ret))
def i40 : IFn :=
⟨20, [(2, none)],
 (.seq (.region false [
 ⟨(some (1)), .box 2560000000 (.t 0), none, 0⟩,
 ⟨(some (2)), .mov (.i 0), none, 0⟩]) (.seq (.region false [
 ⟨(some (3)), .mov (.i 0), none, 0⟩]) (.seq (.seq (.region false [
 ⟨(some (6)), .faddr 1 (.t 1), none, 0⟩,
 ⟨(some (7)), .load none (.t 6), none, 0⟩,
 ⟨(some (8)), .llen (.t 7), none, 0⟩,
 ⟨(some (9)), .mov (.i 0), none, 0⟩]) (.block 0 (.loop i40_l1))) i40_r2)))⟩
def i41 : IFn :=
⟨6, [(2, none)],
 (.seq (.region false [
 ⟨(some (1)), .box 2624000000 (.t 0), none, 0⟩,
 ⟨(some (2)), .mov (.i 0), none, 0⟩]) (.seq (.region false [
 ⟨(some (3)), .load (some (2)) (.t 1), none, 0⟩,
 ⟨(some (4)), .call 2624064064 (.k (.one (.p (.fn 63 [] [])))) [.t 3], none, 0⟩,
 ⟨(some (5)), .bin .quo (.t 4) (.i 2), none, 0⟩,
 ⟨(some (2)), .mov (.t 5), none, 0⟩]) (.ret)))⟩
def i115 : IFn :=
⟨11, [(2, none)],
 (.seq (.region false [
 ⟨(some (1)), .box 7360000000 (.t 0), none, 0⟩,
 ⟨(some (2)), .mov (.b false), none, 0⟩]) (.seq (.region false [
 ⟨(some (3)), .load none (.t 1), none, 0⟩,
 ⟨(some (4)), .nilchk (.t 3), none, 0⟩,
 ⟨(some (5)), .faddr 0 (.t 4), none, 0⟩,
 ⟨(some (6)), .faddr 1 (.t 5), none, 0⟩,
 ⟨(some (7)), .load none (.t 6), none, 0⟩,
 ⟨(some (8)), .mkfn 150 [] [.t 1], none, 0⟩,
 ⟨(some (9)), .call 7360064384 (.k (.one (.p (.fn 149 [] [])))) [.t 7, .t 8], none, 0⟩,
 ⟨(some (10)), .un .not (.t 9), none, 0⟩,
 ⟨(some (2)), .mov (.t 10), none, 0⟩]) (.ret)))⟩
def i150 : IFn :=
⟨55, [(3, none)],
 (.seq (.region false [
 ⟨(some (2)), .box 9600000000 (.t 0), none, 0⟩,
 ⟨(some (3)), .mov (.b false), none, 0⟩]) (.seq (.seq (.region false [
 ⟨(some (4)), .faddr 0 (.t 2), none, 0⟩,
 ⟨(some (5)), .load none (.t 4), none, 0⟩]) (.block 0 (.seq (.region false [
 ⟨(some (7)), .bin .eql (.t 5) (.i 1), none, 0⟩,
 ⟨(some (6)), .mov (.t 7), none, 0⟩]) (.cond (.t 6) (.seq (.region true [
 ⟨(some (8)), .faddr 1 (.t 2), none, 0⟩,
 ⟨(some (9)), .load none (.t 8), none, 1⟩,
 ⟨(some (10)), .bin .lss (.t 9) (.i 0), none, 3⟩,
 ⟨(some (11)), .mov (.t 10), none, 7⟩,
 ⟨(some (12)), .faddr 1 (.t 2), (some (11, false)), 15⟩,
 ⟨(some (13)), .load none (.t 12), (some (11, false)), 31⟩,
 ⟨(some (14)), .load none (.t 1), (some (11, false)), 15⟩,
 ⟨(some (15)), .nilchk (.t 14), (some (11, false)), 79⟩,
 ⟨(some (16)), .faddr 0 (.t 15), (some (11, false)), 207⟩,
 ⟨(some (17)), .faddr 0 (.t 16), (some (11, false)), 463⟩,
 ⟨(some (18)), .load none (.t 17), (some (11, false)), 975⟩,
 ⟨(some (19)), .bin .gtr (.t 13) (.t 18), (some (11, false)), 2047⟩,
 ⟨(some (20)), .pick (.t 11) (.b true) (.t 19), none, 4095⟩,
 ⟨(some (21)), .mov (.t 20), none, 8191⟩,
 ⟨(some (22)), .faddr 3 (.t 2), (some (21, false)), 16383⟩,
 ⟨(some (23)), .load none (.t 22), (some (21, false)), 32767⟩,
 ⟨(some (24)), .bin .neq (.t 23) (.i 0), (some (21, false)), 65535⟩,
 ⟨(some (25)), .pick (.t 21) (.b true) (.t 24), none, 131071⟩,
 ⟨(some (26)), .mov (.t 25), none, 262143⟩,
 ⟨(some (27)), .faddr 4 (.t 2), (some (26, false)), 524287⟩,
 ⟨(some (28)), .load none (.t 27), (some (26, false)), 1048575⟩,
 ⟨(some (29)), .bin .neq (.t 28) (.i 0), (some (26, false)), 2097151⟩,
 ⟨(some (30)), .pick (.t 26) (.b true) (.t 29), none, 4194303⟩,
 ⟨(some (31)), .mov (.t 30), none, 8388607⟩,
 ⟨(some (32)), .faddr 5 (.t 2), (some (31, false)), 16777215⟩,
 ⟨(some (33)), .load none (.t 32), (some (31, false)), 33554431⟩,
 ⟨(some (34)), .pick (.t 31) (.b true) (.t 33), none, 67108863⟩,
 ⟨(some (3)), .mov (.t 34), none, 134217727⟩]) (.ret)) (.seq (.region false [
 ⟨(some (36)), .bin .eql (.t 5) (.i 2), none, 0⟩,
 ⟨(some (35)), .mov (.t 36), none, 0⟩]) (.cond (.t 35) (.seq (.region false [
 ⟨(some (37)), .faddr 1 (.t 2), none, 0⟩,
 ⟨(some (38)), .load none (.t 37), none, 0⟩,
 ⟨(some (39)), .bin .neq (.t 38) (.i 0), none, 0⟩,
 ⟨(some (40)), .mov (.t 39), none, 0⟩,
 ⟨(some (41)), .faddr 2 (.t 2), (some (40, false)), 0⟩,
 ⟨(some (42)), .load none (.t 41), (some (40, false)), 0⟩,
 ⟨(some (43)), .bin .neq (.t 42) (.i 0), (some (40, false)), 0⟩,
 ⟨(some (44)), .pick (.t 40) (.b true) (.t 43), none, 0⟩,
 ⟨(some (45)), .mov (.t 44), none, 0⟩,
 ⟨(some (46)), .faddr 4 (.t 2), (some (45, false)), 0⟩,
 ⟨(some (47)), .load none (.t 46), (some (45, false)), 0⟩,
 ⟨(some (48)), .bin .neq (.t 47) (.i 1), (some (45, false)), 0⟩,
 ⟨(some (49)), .mov (.t 48), (some (45, false)), 0⟩,
 ⟨(some (50)), .faddr 4 (.t 2), (some (49, true)), 0⟩,
 ⟨(some (51)), .load none (.t 50), (some (49, true)), 0⟩,
 ⟨(some (52)), .bin .neq (.t 51) (.i (-1)), (some (49, true)), 0⟩,
 ⟨(some (53)), .pick (.t 49) (.t 52) (.b false), (some (45, false)), 0⟩,
 ⟨(some (54)), .pick (.t 45) (.b true) (.t 53), none, 0⟩,
 ⟨(some (3)), .mov (.t 54), none, 0⟩]) (.ret)) (.skip))))))) (.seq (.region false [
 ⟨(some (3)), .mov (.b true), none, 0⟩]) (.ret))))⟩
def i116 : IFn :=
⟨21, [(2, none)],
 (.seq (.region false [
 ⟨(some (2)), .mov (.b false), none, 0⟩]) (.seq (.region false [
 ⟨(some (3)), .mov (.t 0), none, 0⟩,
 ⟨(some (4)), .nilchk (.t 3), none, 0⟩,
 ⟨(some (5)), .faddr 0 (.t 4), none, 0⟩,
 ⟨(some (6)), .faddr 1 (.t 5), none, 0⟩,
 ⟨(some (7)), .load none (.t 6), none, 0⟩,
 ⟨(some (8)), .iaddr 6 (.t 7) (.i 0), none, 0⟩,
 ⟨(some (9)), .faddr 0 (.t 8), none, 0⟩,
 ⟨(some (10)), .load none (.t 9), none, 0⟩,
 ⟨(some (11)), .bin .eql (.t 10) (.i 1), none, 0⟩,
 ⟨(some (12)), .mov (.t 11), none, 0⟩,
 ⟨(some (13)), .mov (.t 0), (some (12, true)), 0⟩,
 ⟨(some (14)), .nilchk (.t 13), (some (12, true)), 0⟩,
 ⟨(some (15)), .faddr 0 (.t 14), (some (12, true)), 0⟩,
 ⟨(some (16)), .load (some (2)) (.t 15), (some (12, true)), 0⟩,
 ⟨(some (17)), .call 7424064896 (.k (.one (.p (.fn 40 [] [])))) [.t 16], (some (12, true)), 0⟩,
 ⟨(some (18)), .bin .rem (.t 17) (.i 2), (some (12, true)), 0⟩,
 ⟨(some (19)), .bin .eql (.t 18) (.i 0), (some (12, true)), 0⟩,
 ⟨(some (20)), .pick (.t 12) (.t 19) (.b false), none, 0⟩,
 ⟨(some (2)), .mov (.t 20), none, 0⟩]) (.ret)))⟩
def i117_l1 : ICode :=
(.seq (.region false [
 ⟨(some (51)), .bin .lss (.t 50) (.t 49), none, 0⟩]) (.seq (.cond (.t 51) (.skip) (.exit 0)) (.seq (.block 1 (.seq (.region false [
 ⟨(some (52)), .mov (.t 50), none, 0⟩,
 ⟨(some (53)), .iaddr 6 (.t 48) (.t 50), none, 0⟩,
 ⟨(some (54)), .load (some (6)) (.t 53), none, 0⟩,
 ⟨(some (5)), .alloc 7488448192 [.int .i64 0, .int .i64 0, .int .i64 0, .int .i64 0, .int .i64 0, .bool false], none, 0⟩,
 ⟨(some (4)), .mov (.t 52), none, 0⟩,
 ⟨none, .store 6 (.t 5) (.t 54), none, 0⟩]) (.seq (.region false [
 ⟨(some (55)), .faddr 0 (.t 5), none, 0⟩,
 ⟨(some (56)), .load none (.t 55), none, 0⟩,
 ⟨(some (57)), .bin .eql (.t 56) (.i 1), none, 0⟩]) (.cond (.t 57) (.seq (.region true [
 ⟨(some (58)), .mov (.t 0), none, 0⟩,
 ⟨(some (59)), .nilchk (.t 58), none, 1⟩,
 ⟨(some (60)), .faddr 6 (.t 59), none, 3⟩,
 ⟨(some (61)), .load none (.t 60), none, 7⟩,
 ⟨(some (62)), .faddr 1 (.t 5), none, 0⟩,
 ⟨(some (63)), .load none (.t 62), none, 16⟩,
 ⟨(some (64)), .iaddr 1 (.t 61) (.t 63), none, 63⟩,
 ⟨(some (65)), .load none (.t 64), none, 127⟩,
 ⟨(some (66)), .bin .add (.t 65) (.i 1), none, 255⟩,
 ⟨(some (67)), .iaddr 1 (.t 61) (.t 63), none, 511⟩,
 ⟨none, .store 1 (.t 67) (.t 66), none, 1023⟩]) (.seq (.region false [
 ⟨(some (68)), .mov (.t 0), none, 0⟩,
 ⟨(some (69)), .nilchk (.t 68), none, 0⟩,
 ⟨(some (70)), .faddr 2 (.t 69), none, 0⟩,
 ⟨(some (71)), .load none (.t 70), none, 0⟩,
 ⟨(some (72)), .mov (.t 4), none, 0⟩,
 ⟨(some (73)), .mov (.t 3), none, 0⟩,
 ⟨(some (74)), .iaddr 1 (.t 71) (.t 72), none, 0⟩,
 ⟨none, .store 1 (.t 74) (.t 73), none, 0⟩]) (.region false [
 ⟨(some (75)), .mov (.t 3), none, 0⟩,
 ⟨(some (76)), .un .not (.t 75), none, 0⟩,
 ⟨(some (3)), .mov (.t 76), none, 0⟩]))) (.skip))))) (.region false [
 ⟨(some (77)), .bin .add (.t 50) (.i 1), none, 0⟩,
 ⟨(some (50)), .mov (.t 77), none, 0⟩]))))
def i117_l2 : ICode :=
(.seq (.region false [
 ⟨(some (91)), .bin .lss (.t 90) (.t 89), none, 0⟩]) (.seq (.cond (.t 91) (.skip) (.exit 2)) (.seq (.block 3 (.seq (.region false [
 ⟨(some (92)), .mov (.t 90), none, 0⟩,
 ⟨(some (93)), .iaddr 1 (.t 88) (.t 90), none, 0⟩,
 ⟨(some (94)), .load none (.t 93), none, 0⟩,
 ⟨(some (8)), .mov (.t 92), none, 0⟩,
 ⟨(some (9)), .mov (.t 94), none, 0⟩]) (.seq (.region false [
 ⟨(some (95)), .mov (.t 6), none, 0⟩,
 ⟨(some (96)), .mov (.t 8), none, 0⟩,
 ⟨(some (97)), .mov (.t 7), none, 0⟩,
 ⟨(some (98)), .iaddr 1 (.t 95) (.t 96), none, 0⟩,
 ⟨none, .store 1 (.t 98) (.t 97), none, 0⟩]) (.region false [
 ⟨(some (99)), .mov (.t 7), none, 0⟩,
 ⟨(some (100)), .mov (.t 9), none, 0⟩,
 ⟨(some (101)), .bin .add (.t 99) (.t 100), none, 0⟩,
 ⟨(some (7)), .mov (.t 101), none, 0⟩])))) (.region false [
 ⟨(some (102)), .bin .add (.t 90) (.i 1), none, 0⟩,
 ⟨(some (90)), .mov (.t 102), none, 0⟩]))))
def i117_l3 : ICode :=
(.seq (.region false [
 ⟨(some (117)), .bin .lss (.t 116) (.t 115), none, 0⟩]) (.seq (.cond (.t 117) (.skip) (.exit 4)) (.seq (.block 5 (.seq (.region false [
 ⟨(some (118)), .mov (.t 116), none, 0⟩,
 ⟨(some (119)), .iaddr 6 (.t 114) (.t 116), none, 0⟩,
 ⟨(some (120)), .load (some (6)) (.t 119), none, 0⟩,
 ⟨(some (12)), .alloc 7489600192 [.int .i64 0, .int .i64 0, .int .i64 0, .int .i64 0, .int .i64 0, .bool false], none, 0⟩,
 ⟨(some (11)), .mov (.t 118), none, 0⟩,
 ⟨none, .store 6 (.t 12) (.t 120), none, 0⟩]) (.seq (.seq (.region false [
 ⟨(some (121)), .faddr 0 (.t 12), none, 0⟩,
 ⟨(some (122)), .load none (.t 121), none, 0⟩,
 ⟨(some (123)), .bin .neq (.t 122) (.i 1), none, 0⟩]) (.cond (.t 123) (.exit 5) (.skip))) (.seq (.seq (.region true [
 ⟨(some (124)), .faddr 2 (.t 12), none, 0⟩,
 ⟨(some (125)), .load none (.t 124), none, 1⟩,
 ⟨(some (126)), .bin .lss (.t 125) (.i 1), none, 3⟩,
 ⟨(some (127)), .mov (.t 126), none, 7⟩,
 ⟨(some (128)), .faddr 2 (.t 12), (some (127, false)), 15⟩,
 ⟨(some (129)), .load none (.t 128), (some (127, false)), 31⟩,
 ⟨(some (130)), .mov (.t 0), (some (127, false)), 15⟩,
 ⟨(some (131)), .nilchk (.t 130), (some (127, false)), 79⟩,
 ⟨(some (132)), .faddr 6 (.t 131), (some (127, false)), 207⟩,
 ⟨(some (133)), .load none (.t 132), (some (127, false)), 463⟩,
 ⟨(some (134)), .faddr 1 (.t 12), (some (127, false)), 15⟩,
 ⟨(some (135)), .load none (.t 134), (some (127, false)), 1039⟩,
 ⟨(some (136)), .iaddr 1 (.t 133) (.t 135), (some (127, false)), 4047⟩,
 ⟨(some (137)), .load none (.t 136), (some (127, false)), 8143⟩,
 ⟨(some (138)), .bin .gtr (.t 129) (.t 137), (some (127, false)), 16383⟩,
 ⟨(some (139)), .pick (.t 127) (.b true) (.t 138), none, 32767⟩]) (.cond (.t 139) (.seq (.region false [
 ⟨(some (2)), .mov (.b false), none, 0⟩]) (.ret)) (.skip))) (.seq (.region true [
 ⟨(some (140)), .mov (.t 6), none, 0⟩,
 ⟨(some (141)), .faddr 1 (.t 12), none, 0⟩,
 ⟨(some (142)), .load none (.t 141), none, 2⟩,
 ⟨(some (143)), .iaddr 1 (.t 140) (.t 142), none, 7⟩,
 ⟨(some (144)), .load none (.t 143), none, 15⟩,
 ⟨(some (145)), .faddr 2 (.t 12), none, 0⟩,
 ⟨(some (146)), .load none (.t 145), none, 32⟩,
 ⟨(some (147)), .bin .add (.t 144) (.t 146), none, 127⟩,
 ⟨(some (148)), .bin .sub (.t 147) (.i 1), none, 255⟩,
 ⟨(some (13)), .mov (.t 148), none, 511⟩]) (.seq (.seq (.region false [
 ⟨(some (149)), .mov (.t 10), none, 0⟩,
 ⟨(some (150)), .mov (.t 13), none, 0⟩,
 ⟨(some (151)), .iaddr 1 (.t 149) (.t 150), none, 0⟩,
 ⟨(some (152)), .load none (.t 151), none, 0⟩]) (.cond (.t 152) (.seq (.region false [
 ⟨(some (2)), .mov (.b false), none, 0⟩]) (.ret)) (.skip))) (.region true [
 ⟨(some (153)), .mov (.t 10), none, 0⟩,
 ⟨(some (154)), .mov (.t 13), none, 0⟩,
 ⟨(some (155)), .mov (.t 0), none, 0⟩,
 ⟨(some (156)), .nilchk (.t 155), none, 4⟩,
 ⟨(some (157)), .faddr 3 (.t 156), none, 12⟩,
 ⟨(some (158)), .load none (.t 157), none, 28⟩,
 ⟨(some (159)), .mov (.t 13), none, 0⟩,
 ⟨(some (160)), .mov (.t 0), none, 0⟩,
 ⟨(some (161)), .nilchk (.t 160), none, 128⟩,
 ⟨(some (162)), .faddr 4 (.t 161), none, 384⟩,
 ⟨(some (163)), .load none (.t 162), none, 896⟩,
 ⟨(some (164)), .mov (.t 11), none, 0⟩,
 ⟨(some (165)), .mov (.t 11), none, 0⟩,
 ⟨(some (166)), .mov (.t 13), none, 0⟩,
 ⟨(some (167)), .iaddr 1 (.t 153) (.t 154), none, 1983⟩,
 ⟨none, .store 1 (.t 167) (.b true), none, 18367⟩,
 ⟨(some (168)), .iaddr 1 (.t 158) (.t 159), none, 55295⟩,
 ⟨none, .store 1 (.t 168) (.t 165), none, 120831⟩,
 ⟨(some (169)), .iaddr 1 (.t 163) (.t 164), none, 262143⟩,
 ⟨none, .store 1 (.t 169) (.t 166), none, 524287⟩]))))))) (.region false [
 ⟨(some (170)), .bin .add (.t 116) (.i 1), none, 0⟩,
 ⟨(some (116)), .mov (.t 170), none, 0⟩]))))
def i117_r4 : ICode :=
(.seq (.region false [
 ⟨(some (2)), .mov (.b true), none, 0⟩]) (.ret))
def i117_r5 : ICode :=
(.seq (.region false [
 ⟨(some (103)), .mov (.t 0), none, 0⟩,
 ⟨(some (104)), .mov (.t 7), none, 0⟩,
 ⟨(some (105)), .mkslice 7489344128 3 1 8 [.int .i64 0] (.t 104) (.t 104), none, 0⟩,
 ⟨(some (106)), .nilchk (.t 103), none, 0⟩,
 ⟨(some (107)), .faddr 3 (.t 106), none, 0⟩,
 ⟨none, .store 1 (.t 107) (.t 105), none, 0⟩]) (.seq (.region false [
 ⟨(some (108)), .mov (.t 7), none, 0⟩,
 ⟨(some (109)), .mkslice 7489408064 4 1 1 [.bool false] (.t 108) (.t 108), none, 0⟩,
 ⟨(some (10)), .mov (.t 109), none, 0⟩]) (.seq (.seq (.region false [
 ⟨(some (110)), .mov (.t 0), none, 0⟩,
 ⟨(some (111)), .nilchk (.t 110), none, 0⟩,
 ⟨(some (112)), .faddr 0 (.t 111), none, 0⟩,
 ⟨(some (113)), .faddr 1 (.t 112), none, 0⟩,
 ⟨(some (114)), .load none (.t 113), none, 0⟩,
 ⟨(some (115)), .llen (.t 114), none, 0⟩,
 ⟨(some (116)), .mov (.i 0), none, 0⟩]) (.block 4 (.loop i117_l3))) i117_r4)))
def i117_r6 : ICode :=
(.seq (.region false [
 ⟨(some (78)), .mov (.t 0), none, 0⟩,
 ⟨(some (79)), .nilchk (.t 78), none, 0⟩,
 ⟨(some (80)), .faddr 0 (.t 79), none, 0⟩,
 ⟨(some (81)), .faddr 0 (.t 80), none, 0⟩,
 ⟨(some (82)), .load none (.t 81), none, 0⟩,
 ⟨(some (83)), .bin .add (.t 82) (.i 1), none, 0⟩,
 ⟨(some (84)), .mkslice 7488832384 3 1 8 [.int .i64 0] (.t 83) (.t 83), none, 0⟩,
 ⟨(some (6)), .mov (.t 84), none, 0⟩]) (.seq (.region false [
 ⟨(some (7)), .mov (.i 0), none, 0⟩]) (.seq (.seq (.region false [
 ⟨(some (85)), .mov (.t 0), none, 0⟩,
 ⟨(some (86)), .nilchk (.t 85), none, 0⟩,
 ⟨(some (87)), .faddr 6 (.t 86), none, 0⟩,
 ⟨(some (88)), .load none (.t 87), none, 0⟩,
 ⟨(some (89)), .llen (.t 88), none, 0⟩,
 ⟨(some (90)), .mov (.i 0), none, 0⟩]) (.block 2 (.loop i117_l2))) i117_r5)))
def i117 : IFn :=
⟨171, [(2, none)],
 (.seq (.region false [
 ⟨(some (2)), .mov (.b false), none, 0⟩]) (.seq (.region false [
 ⟨(some (14)), .mov (.t 0), none, 0⟩,
 ⟨(some (15)), .mov (.t 0), none, 0⟩,
 ⟨(some (16)), .nilchk (.t 15), none, 0⟩,
 ⟨(some (17)), .faddr 0 (.t 16), none, 0⟩,
 ⟨(some (18)), .faddr 0 (.t 17), none, 0⟩,
 ⟨(some (19)), .load none (.t 18), none, 0⟩,
 ⟨(some (20)), .bin .add (.t 19) (.i 1), none, 0⟩,
 ⟨(some (21)), .mkslice 7488064448 3 1 8 [.int .i64 0] (.t 20) (.t 20), none, 0⟩,
 ⟨(some (22)), .nilchk (.t 14), none, 0⟩,
 ⟨(some (23)), .faddr 6 (.t 22), none, 0⟩,
 ⟨none, .store 1 (.t 23) (.t 21), none, 0⟩]) (.seq (.region false [
 ⟨(some (24)), .mov (.t 0), none, 0⟩,
 ⟨(some (25)), .mov (.t 0), none, 0⟩,
 ⟨(some (26)), .nilchk (.t 25), none, 0⟩,
 ⟨(some (27)), .faddr 0 (.t 26), none, 0⟩,
 ⟨(some (28)), .faddr 1 (.t 27), none, 0⟩,
 ⟨(some (29)), .load none (.t 28), none, 0⟩,
 ⟨(some (30)), .llen (.t 29), none, 0⟩,
 ⟨(some (31)), .mkslice 7488128448 4 1 1 [.bool false] (.t 30) (.t 30), none, 0⟩,
 ⟨(some (32)), .nilchk (.t 24), none, 0⟩,
 ⟨(some (33)), .faddr 2 (.t 32), none, 0⟩,
 ⟨none, .store 1 (.t 33) (.t 31), none, 0⟩]) (.seq (.region false [
 ⟨(some (34)), .mov (.t 0), none, 0⟩,
 ⟨(some (35)), .mov (.t 0), none, 0⟩,
 ⟨(some (36)), .nilchk (.t 35), none, 0⟩,
 ⟨(some (37)), .faddr 0 (.t 36), none, 0⟩,
 ⟨(some (38)), .faddr 1 (.t 37), none, 0⟩,
 ⟨(some (39)), .load none (.t 38), none, 0⟩,
 ⟨(some (40)), .llen (.t 39), none, 0⟩,
 ⟨(some (41)), .mkslice 7488192448 3 1 8 [.int .i64 0] (.t 40) (.t 40), none, 0⟩,
 ⟨(some (42)), .nilchk (.t 34), none, 0⟩,
 ⟨(some (43)), .faddr 4 (.t 42), none, 0⟩,
 ⟨none, .store 1 (.t 43) (.t 41), none, 0⟩]) (.seq (.region false [
 ⟨(some (3)), .mov (.b true), none, 0⟩]) (.seq (.seq (.region false [
 ⟨(some (44)), .mov (.t 0), none, 0⟩,
 ⟨(some (45)), .nilchk (.t 44), none, 0⟩,
 ⟨(some (46)), .faddr 0 (.t 45), none, 0⟩,
 ⟨(some (47)), .faddr 1 (.t 46), none, 0⟩,
 ⟨(some (48)), .load none (.t 47), none, 0⟩,
 ⟨(some (49)), .llen (.t 48), none, 0⟩,
 ⟨(some (50)), .mov (.i 0), none, 0⟩]) (.block 0 (.loop i117_l1))) i117_r6))))))⟩
def i118_l1 : ICode :=
(.seq (.region false [
 ⟨(some (28)), .bin .lss (.t 27) (.t 26), none, 0⟩]) (.seq (.cond (.t 28) (.skip) (.exit 0)) (.seq (.block 1 (.seq (.region false [
 ⟨(some (29)), .mov (.t 27), none, 0⟩,
 ⟨(some (30)), .iaddr 6 (.t 25) (.t 27), none, 0⟩,
 ⟨(some (31)), .load (some (6)) (.t 30), none, 0⟩,
 ⟨(some (5)), .alloc 7552448192 [.int .i64 0, .int .i64 0, .int .i64 0, .int .i64 0, .int .i64 0, .bool false], none, 0⟩,
 ⟨(some (4)), .mov (.t 29), none, 0⟩,
 ⟨none, .store 6 (.t 5) (.t 31), none, 0⟩]) (.seq (.seq (.region false [
 ⟨(some (32)), .faddr 0 (.t 5), none, 0⟩,
 ⟨(some (33)), .load none (.t 32), none, 0⟩,
 ⟨(some (34)), .bin .neq (.t 33) (.i 2), none, 0⟩]) (.cond (.t 34) (.exit 1) (.skip))) (.seq (.seq (.region false [
 ⟨(some (35)), .faddr 3 (.t 5), none, 0⟩,
 ⟨(some (36)), .load none (.t 35), none, 0⟩,
 ⟨(some (37)), .bin .lss (.t 36) (.i 1), none, 0⟩,
 ⟨(some (38)), .mov (.t 37), none, 0⟩,
 ⟨(some (39)), .faddr 3 (.t 5), (some (38, false)), 0⟩,
 ⟨(some (40)), .load none (.t 39), (some (38, false)), 0⟩,
 ⟨(some (41)), .mov (.t 3), (some (38, false)), 0⟩,
 ⟨(some (42)), .bin .quo (.t 41) (.i 2), (some (38, false)), 0⟩,
 ⟨(some (43)), .bin .gtr (.t 40) (.t 42), (some (38, false)), 0⟩,
 ⟨(some (44)), .pick (.t 38) (.b true) (.t 43), none, 0⟩]) (.cond (.t 44) (.seq (.region false [
 ⟨(some (2)), .mov (.b false), none, 0⟩]) (.ret)) (.skip))) (.seq (.region true [
 ⟨(some (46)), .mov (.t 0), none, 0⟩,
 ⟨(some (47)), .nilchk (.t 46), none, 1⟩,
 ⟨(some (48)), .faddr 5 (.t 47), none, 3⟩,
 ⟨(some (49)), .load none (.t 48), none, 7⟩,
 ⟨(some (50)), .faddr 3 (.t 5), none, 0⟩,
 ⟨(some (51)), .load none (.t 50), none, 16⟩,
 ⟨(some (52)), .lookup 0 [.int .i64 0, .int .i64 0] true true (.t 49) (.t 51), none, 63⟩,
 ⟨(some (45)), .mov (.t 52), none, 127⟩,
 ⟨(some (53)), .extract (.t 45) 0, none, 255⟩,
 ⟨(some (54)), .extract (.t 45) 1, none, 255⟩,
 ⟨(some (6)), .alloc 7552704640 [.int .i64 0, .int .i64 0], none, 0⟩,
 ⟨none, .store 2 (.t 6) (.t 53), none, 1535⟩,
 ⟨(some (7)), .mov (.t 54), none, 4095⟩]) (.seq (.seq (.region false [
 ⟨(some (55)), .mov (.t 7), none, 0⟩,
 ⟨(some (56)), .un .not (.t 55), none, 0⟩]) (.cond (.t 56) (.region false [
 ⟨(some (57)), .build [.int .i64 0, .int .i64 0] [(0, 1, .i (-1)), (1, 1, .i (-1))], none, 0⟩,
 ⟨none, .store 2 (.t 6) (.t 57), none, 0⟩]) (.skip))) (.seq (.region false [
 ⟨(some (8)), .mov (.i 0), none, 0⟩]) (.seq (.seq (.region false [
 ⟨(some (58)), .faddr 5 (.t 5), none, 0⟩,
 ⟨(some (59)), .load none (.t 58), none, 0⟩]) (.cond (.t 59) (.region false [
 ⟨(some (8)), .mov (.i 1), none, 0⟩]) (.skip))) (.seq (.seq (.region true [
 ⟨(some (60)), .mov (.t 8), none, 0⟩,
 ⟨(some (61)), .aaddr 2 1 (.t 6) (.t 60), none, 1⟩,
 ⟨(some (62)), .load none (.t 61), none, 3⟩,
 ⟨(some (63)), .bin .geq (.t 62) (.i 0), none, 7⟩,
 ⟨(some (64)), .mov (.t 63), none, 15⟩,
 ⟨(some (65)), .mov (.t 7), (some (64, false)), 31⟩,
 ⟨(some (66)), .mov (.t 65), (some (64, false)), 63⟩,
 ⟨(some (67)), .mov (.t 0), (some (66, true)), 127⟩,
 ⟨(some (68)), .nilchk (.t 67), (some (66, true)), 255⟩,
 ⟨(some (69)), .faddr 0 (.t 68), (some (66, true)), 511⟩,
 ⟨(some (70)), .faddr 1 (.t 69), (some (66, true)), 1023⟩,
 ⟨(some (71)), .load none (.t 70), (some (66, true)), 2047⟩,
 ⟨(some (72)), .mov (.t 8), (some (66, true)), 127⟩,
 ⟨(some (73)), .bin .sub (.i 1) (.t 72), (some (66, true)), 4223⟩,
 ⟨(some (74)), .aaddr 2 1 (.t 6) (.t 73), (some (66, true)), 12415⟩,
 ⟨(some (75)), .load none (.t 74), (some (66, true)), 28799⟩,
 ⟨(some (76)), .iaddr 6 (.t 71) (.t 75), (some (66, true)), 65535⟩,
 ⟨(some (77)), .faddr 4 (.t 76), (some (66, true)), 131071⟩,
 ⟨(some (78)), .load none (.t 77), (some (66, true)), 262143⟩,
 ⟨(some (79)), .faddr 4 (.t 5), (some (66, true)), 127⟩,
 ⟨(some (80)), .load none (.t 79), (some (66, true)), 524415⟩,
 ⟨(some (81)), .bin .neq (.t 78) (.t 80), (some (66, true)), 2097151⟩,
 ⟨(some (82)), .pick (.t 66) (.t 81) (.b false), (some (64, false)), 4194303⟩,
 ⟨(some (83)), .pick (.t 64) (.b true) (.t 82), none, 8388607⟩]) (.cond (.t 83) (.seq (.region false [
 ⟨(some (2)), .mov (.b false), none, 0⟩]) (.ret)) (.skip))) (.seq (.region false [
 ⟨(some (84)), .mov (.t 8), none, 0⟩,
 ⟨(some (85)), .mov (.t 4), none, 0⟩,
 ⟨(some (86)), .aaddr 2 1 (.t 6) (.t 84), none, 0⟩,
 ⟨none, .store 1 (.t 86) (.t 85), none, 0⟩]) (.region true [
 ⟨(some (87)), .mov (.t 0), none, 0⟩,
 ⟨(some (88)), .nilchk (.t 87), none, 1⟩,
 ⟨(some (89)), .faddr 5 (.t 88), none, 3⟩,
 ⟨(some (90)), .load none (.t 89), none, 7⟩,
 ⟨(some (91)), .faddr 3 (.t 5), none, 0⟩,
 ⟨(some (92)), .load none (.t 91), none, 16⟩,
 ⟨(some (93)), .load (some (2)) (.t 6), none, 0⟩,
 ⟨none, .mupd 0 true (.t 90) (.t 92) (.t 93), none, 127⟩]))))))))))) (.region false [
 ⟨(some (94)), .bin .add (.t 27) (.i 1), none, 0⟩,
 ⟨(some (27)), .mov (.t 94), none, 0⟩]))))
def i118_r2 : ICode :=
(.seq (.region false [
 ⟨(some (95)), .mov (.t 0), none, 0⟩,
 ⟨(some (96)), .nilchk (.t 95), none, 0⟩,
 ⟨(some (97)), .faddr 5 (.t 96), none, 0⟩,
 ⟨(some (98)), .load none (.t 97), none, 0⟩,
 ⟨(some (99)), .mlen (.t 98), none, 0⟩,
 ⟨(some (100)), .mov (.t 3), none, 0⟩,
 ⟨(some (101)), .bin .quo (.t 100) (.i 2), none, 0⟩,
 ⟨(some (102)), .bin .eql (.t 99) (.t 101), none, 0⟩,
 ⟨(some (2)), .mov (.t 102), none, 0⟩]) (.ret))
def i118 : IFn :=
⟨103, [(2, none)],
 (.seq (.region false [
 ⟨(some (2)), .mov (.b false), none, 0⟩]) (.seq (.region false [
 ⟨(some (9)), .mov (.t 0), none, 0⟩,
 ⟨(some (10)), .nilchk (.t 9), none, 0⟩,
 ⟨(some (11)), .faddr 0 (.t 10), none, 0⟩,
 ⟨(some (12)), .load (some (2)) (.t 11), none, 0⟩,
 ⟨(some (13)), .call 7552064256 (.k (.one (.p (.fn 63 [] [])))) [.t 12], none, 0⟩,
 ⟨(some (3)), .mov (.t 13), none, 0⟩]) (.seq (.seq (.region false [
 ⟨(some (14)), .mov (.t 3), none, 0⟩,
 ⟨(some (15)), .bin .rem (.t 14) (.i 2), none, 0⟩,
 ⟨(some (16)), .bin .neq (.t 15) (.i 0), none, 0⟩]) (.cond (.t 16) (.seq (.region false [
 ⟨(some (2)), .mov (.b false), none, 0⟩]) (.ret)) (.skip))) (.seq (.region false [
 ⟨(some (17)), .mov (.t 0), none, 0⟩,
 ⟨(some (18)), .mkmap 7552256064 true, none, 0⟩,
 ⟨(some (19)), .nilchk (.t 17), none, 0⟩,
 ⟨(some (20)), .faddr 5 (.t 19), none, 0⟩,
 ⟨none, .store 1 (.t 20) (.t 18), none, 0⟩]) (.seq (.seq (.region false [
 ⟨(some (21)), .mov (.t 0), none, 0⟩,
 ⟨(some (22)), .nilchk (.t 21), none, 0⟩,
 ⟨(some (23)), .faddr 0 (.t 22), none, 0⟩,
 ⟨(some (24)), .faddr 1 (.t 23), none, 0⟩,
 ⟨(some (25)), .load none (.t 24), none, 0⟩,
 ⟨(some (26)), .llen (.t 25), none, 0⟩,
 ⟨(some (27)), .mov (.i 0), none, 0⟩]) (.block 0 (.loop i118_l1))) i118_r2)))))⟩
def i119_l1 : ICode :=
(.seq (.seq (.region false [
 ⟨(some (35)), .mov (.t 4), none, 0⟩,
 ⟨(some (36)), .mov (.t 7), none, 0⟩,
 ⟨(some (37)), .iaddr 1 (.t 35) (.t 36), none, 0⟩,
 ⟨(some (38)), .load none (.t 37), none, 0⟩,
 ⟨(some (39)), .un .not (.t 38), none, 0⟩]) (.cond (.t 39) (.skip) (.exit 2))) (.seq (.block 3 (.region false [
 ⟨(some (43)), .mov (.t 4), none, 0⟩,
 ⟨(some (44)), .mov (.t 7), none, 0⟩,
 ⟨(some (45)), .iaddr 1 (.t 43) (.t 44), none, 0⟩,
 ⟨none, .store 1 (.t 45) (.b true), none, 0⟩])) (.region false [
 ⟨(some (40)), .mov (.t 0), none, 0⟩,
 ⟨(some (41)), .mov (.t 7), none, 0⟩,
 ⟨(some (42)), .call 7616704128 (.k (.one (.p (.fn 86 [] [])))) [.t 40, .t 41], none, 0⟩,
 ⟨(some (7)), .mov (.t 42), none, 0⟩])))
def i119_r2 : ICode :=
(.region false [
 ⟨(some (46)), .bin .add (.t 25) (.i 1), none, 0⟩,
 ⟨(some (25)), .mov (.t 46), none, 0⟩])
def i119_l3 : ICode :=
(.seq (.region false [
 ⟨(some (26)), .bin .lss (.t 25) (.t 24), none, 0⟩]) (.seq (.cond (.t 26) (.skip) (.exit 0)) (.seq (.block 1 (.seq (.region false [
 ⟨(some (27)), .mov (.t 25), none, 0⟩,
 ⟨(some (6)), .mov (.t 27), none, 0⟩]) (.seq (.seq (.region false [
 ⟨(some (28)), .mov (.t 4), none, 0⟩,
 ⟨(some (29)), .mov (.t 6), none, 0⟩,
 ⟨(some (30)), .iaddr 1 (.t 28) (.t 29), none, 0⟩,
 ⟨(some (31)), .load none (.t 30), none, 0⟩]) (.cond (.t 31) (.exit 1) (.skip))) (.seq (.region false [
 ⟨(some (32)), .mov (.t 5), none, 0⟩,
 ⟨(some (33)), .bin .add (.t 32) (.i 1), none, 0⟩,
 ⟨(some (5)), .mov (.t 33), none, 0⟩]) (.seq (.region false [
 ⟨(some (34)), .mov (.t 6), none, 0⟩,
 ⟨(some (7)), .mov (.t 34), none, 0⟩]) (.block 2 (.loop i119_l1))))))) i119_r2)))
def i119_r4 : ICode :=
(.seq (.region true [
 ⟨(some (47)), .mov (.t 5), none, 0⟩,
 ⟨(some (48)), .mov (.t 0), none, 0⟩,
 ⟨(some (49)), .nilchk (.t 48), none, 2⟩,
 ⟨(some (50)), .faddr 3 (.t 49), none, 6⟩,
 ⟨(some (51)), .load none (.t 50), none, 14⟩,
 ⟨(some (52)), .llen (.t 51), none, 30⟩,
 ⟨(some (53)), .mov (.t 0), none, 0⟩,
 ⟨(some (54)), .nilchk (.t 53), none, 64⟩,
 ⟨(some (55)), .faddr 5 (.t 54), none, 192⟩,
 ⟨(some (56)), .load none (.t 55), none, 448⟩,
 ⟨(some (57)), .mlen (.t 56), none, 960⟩,
 ⟨(some (58)), .bin .add (.t 52) (.t 57), none, 2046⟩,
 ⟨(some (59)), .bin .add (.t 58) (.i 2), none, 4094⟩,
 ⟨(some (60)), .bin .eql (.t 47) (.t 59), none, 8191⟩,
 ⟨(some (2)), .mov (.t 60), none, 16383⟩]) (.ret))
def i119 : IFn :=
⟨61, [(2, none)],
 (.seq (.region false [
 ⟨(some (2)), .mov (.b false), none, 0⟩]) (.seq (.region true [
 ⟨(some (8)), .mov (.t 0), none, 0⟩,
 ⟨(some (9)), .nilchk (.t 8), none, 1⟩,
 ⟨(some (10)), .faddr 0 (.t 9), none, 3⟩,
 ⟨(some (11)), .faddr 1 (.t 10), none, 7⟩,
 ⟨(some (12)), .load none (.t 11), none, 15⟩,
 ⟨(some (13)), .llen (.t 12), none, 31⟩,
 ⟨(some (14)), .bin .mul (.i 2) (.t 13), none, 63⟩,
 ⟨(some (15)), .mov (.t 0), none, 0⟩,
 ⟨(some (16)), .nilchk (.t 15), none, 128⟩,
 ⟨(some (17)), .faddr 3 (.t 16), none, 384⟩,
 ⟨(some (18)), .load none (.t 17), none, 896⟩,
 ⟨(some (19)), .llen (.t 18), none, 1920⟩,
 ⟨(some (20)), .bin .mul (.i 2) (.t 19), none, 3968⟩,
 ⟨(some (21)), .bin .add (.t 14) (.t 20), none, 8191⟩,
 ⟨(some (3)), .mov (.t 21), none, 16383⟩]) (.seq (.region false [
 ⟨(some (22)), .mov (.t 3), none, 0⟩,
 ⟨(some (23)), .mkslice 7616128064 4 1 1 [.bool false] (.t 22) (.t 22), none, 0⟩,
 ⟨(some (4)), .mov (.t 23), none, 0⟩]) (.seq (.region false [
 ⟨(some (5)), .mov (.i 0), none, 0⟩]) (.seq (.seq (.region false [
 ⟨(some (24)), .mov (.t 3), none, 0⟩,
 ⟨(some (25)), .mov (.i 0), none, 0⟩]) (.block 0 (.loop i119_l3))) i119_r4)))))⟩
def i82_l1 : ICode :=
(.seq (.region false [
 ⟨(some (25)), .bin .lss (.t 24) (.t 23), none, 0⟩]) (.seq (.cond (.t 25) (.skip) (.exit 0)) (.seq (.block 1 (.seq (.region false [
 ⟨(some (26)), .iaddr 1 (.t 22) (.t 24), none, 0⟩,
 ⟨(some (27)), .load none (.t 26), none, 0⟩,
 ⟨(some (4)), .mov (.t 27), none, 0⟩]) (.seq (.region false [
 ⟨(some (28)), .mov (.t 4), none, 0⟩,
 ⟨(some (29)), .call 5248384064 (.t 28) [], none, 0⟩,
 ⟨(some (30)), .un .not (.t 29), none, 0⟩]) (.cond (.t 30) (.seq (.region false [
 ⟨(some (2)), .mov (.b false), none, 0⟩]) (.ret)) (.skip))))) (.region false [
 ⟨(some (31)), .bin .add (.t 24) (.i 1), none, 0⟩,
 ⟨(some (24)), .mov (.t 31), none, 0⟩]))))
def i82_r2 : ICode :=
(.seq (.region false [
 ⟨(some (2)), .mov (.b true), none, 0⟩]) (.ret))
def i82 : IFn :=
⟨32, [(2, none)],
 (.seq (.region false [
 ⟨(some (2)), .mov (.b false), none, 0⟩]) (.seq (.seq (.region false [
 ⟨(some (5)), .mov (.t 0), none, 0⟩,
 ⟨(some (6)), .nilchk (.t 5), none, 0⟩,
 ⟨(some (7)), .faddr 0 (.t 6), none, 0⟩,
 ⟨(some (8)), .faddr 1 (.t 7), none, 0⟩,
 ⟨(some (9)), .load none (.t 8), none, 0⟩,
 ⟨(some (10)), .llen (.t 9), none, 0⟩,
 ⟨(some (11)), .bin .eql (.t 10) (.i 0), none, 0⟩]) (.cond (.t 11) (.seq (.region false [
 ⟨(some (2)), .mov (.b true), none, 0⟩]) (.ret)) (.skip))) (.seq (.seq (.region false [
 ⟨(some (12)), .mov (.t 0), none, 0⟩,
 ⟨(some (13)), .mkfn 115 [.t 12] [], none, 0⟩,
 ⟨(some (14)), .mov (.t 0), none, 0⟩,
 ⟨(some (15)), .mkfn 116 [.t 14] [], none, 0⟩,
 ⟨(some (16)), .mov (.t 0), none, 0⟩,
 ⟨(some (17)), .mkfn 117 [.t 16] [], none, 0⟩,
 ⟨(some (18)), .mov (.t 0), none, 0⟩,
 ⟨(some (19)), .mkfn 118 [.t 18] [], none, 0⟩,
 ⟨(some (20)), .mov (.t 0), none, 0⟩,
 ⟨(some (21)), .mkfn 119 [.t 20] [], none, 0⟩,
 ⟨(some (22)), .bslice 5248192640 30 1 [.t 13, .t 15, .t 17, .t 19, .t 21], none, 0⟩,
 ⟨(some (23)), .llen (.t 22), none, 0⟩,
 ⟨(some (24)), .mov (.i 0), none, 0⟩]) (.block 0 (.loop i82_l1))) i82_r2)))⟩
def i86 : IFn :=
⟨156, [(4, none)],
 (.seq (.region false [
 ⟨(some (4)), .mov (.i 0), none, 0⟩]) (.seq (.region true [
 ⟨(some (15)), .mov (.t 0), none, 0⟩,
 ⟨(some (16)), .nilchk (.t 15), none, 1⟩,
 ⟨(some (17)), .faddr 0 (.t 16), none, 3⟩,
 ⟨(some (18)), .faddr 1 (.t 17), none, 7⟩,
 ⟨(some (19)), .load none (.t 18), none, 15⟩,
 ⟨(some (20)), .llen (.t 19), none, 31⟩,
 ⟨(some (21)), .mov (.t 0), none, 0⟩,
 ⟨(some (22)), .nilchk (.t 21), none, 64⟩,
 ⟨(some (23)), .faddr 3 (.t 22), none, 192⟩,
 ⟨(some (24)), .load none (.t 23), none, 448⟩,
 ⟨(some (25)), .llen (.t 24), none, 960⟩,
 ⟨(some (5)), .mov (.t 20), none, 63⟩,
 ⟨(some (6)), .mov (.t 25), none, 4095⟩]) (.seq (.seq (.region false [
 ⟨(some (26)), .mov (.t 1), none, 0⟩,
 ⟨(some (27)), .mov (.t 5), none, 0⟩,
 ⟨(some (28)), .bin .mul (.i 2) (.t 27), none, 0⟩,
 ⟨(some (29)), .bin .geq (.t 26) (.t 28), none, 0⟩]) (.cond (.t 29) (.seq (.region false [
 ⟨(some (30)), .mov (.t 1), none, 0⟩,
 ⟨(some (31)), .mov (.t 5), none, 0⟩,
 ⟨(some (32)), .bin .mul (.i 2) (.t 31), none, 0⟩,
 ⟨(some (33)), .bin .sub (.t 30) (.t 32), none, 0⟩,
 ⟨(some (34)), .bin .quo (.t 33) (.i 2), none, 0⟩,
 ⟨(some (7)), .mov (.t 34), none, 0⟩]) (.seq (.region false [
 ⟨(some (35)), .mov (.t 1), none, 0⟩,
 ⟨(some (36)), .bin .rem (.t 35) (.i 2), none, 0⟩,
 ⟨(some (37)), .bin .eql (.t 36) (.i 0), none, 0⟩,
 ⟨(some (8)), .mov (.t 37), none, 0⟩]) (.seq (.region false [
 ⟨(some (38)), .mov (.t 0), none, 0⟩,
 ⟨(some (39)), .nilchk (.t 38), none, 0⟩,
 ⟨(some (40)), .faddr 3 (.t 39), none, 0⟩,
 ⟨(some (41)), .load none (.t 40), none, 0⟩,
 ⟨(some (42)), .mov (.t 7), none, 0⟩,
 ⟨(some (43)), .iaddr 1 (.t 41) (.t 42), none, 0⟩,
 ⟨(some (44)), .load none (.t 43), none, 0⟩,
 ⟨(some (9)), .mov (.t 44), none, 0⟩]) (.seq (.seq (.region false [
 ⟨(some (45)), .mov (.t 8), none, 0⟩]) (.cond (.t 45) (.region true [
 ⟨(some (46)), .mov (.t 0), none, 0⟩,
 ⟨(some (47)), .nilchk (.t 46), none, 1⟩,
 ⟨(some (48)), .faddr 3 (.t 47), none, 3⟩,
 ⟨(some (49)), .load none (.t 48), none, 7⟩,
 ⟨(some (50)), .mov (.t 7), none, 0⟩,
 ⟨(some (51)), .bin .add (.t 50) (.i 1), none, 16⟩,
 ⟨(some (52)), .mov (.t 6), none, 0⟩,
 ⟨(some (53)), .bin .rem (.t 51) (.t 52), none, 112⟩,
 ⟨(some (54)), .iaddr 1 (.t 49) (.t 53), none, 255⟩,
 ⟨(some (55)), .load none (.t 54), none, 511⟩,
 ⟨(some (9)), .mov (.t 55), none, 1023⟩]) (.skip))) (.seq (.seq (.region false [
 ⟨(some (56)), .mov (.t 8), none, 0⟩,
 ⟨(some (57)), .mov (.t 0), none, 0⟩,
 ⟨(some (58)), .nilchk (.t 57), none, 0⟩,
 ⟨(some (59)), .faddr 2 (.t 58), none, 0⟩,
 ⟨(some (60)), .load none (.t 59), none, 0⟩,
 ⟨(some (61)), .mov (.t 9), none, 0⟩,
 ⟨(some (62)), .iaddr 1 (.t 60) (.t 61), none, 0⟩,
 ⟨(some (63)), .load none (.t 62), none, 0⟩,
 ⟨(some (64)), .eqc .bool false (.t 56) (.t 63), none, 0⟩]) (.cond (.t 64) (.seq (.region false [
 ⟨(some (65)), .mov (.t 0), none, 0⟩,
 ⟨(some (66)), .mov (.t 9), none, 0⟩,
 ⟨(some (67)), .call 5504576128 (.k (.one (.p (.fn 126 [] [])))) [.t 65, .t 66], none, 0⟩,
 ⟨(some (4)), .mov (.t 67), none, 0⟩]) (.ret)) (.skip))) (.seq (.region false [
 ⟨(some (68)), .mov (.t 0), none, 0⟩,
 ⟨(some (69)), .mov (.t 9), none, 0⟩,
 ⟨(some (70)), .call 5504640128 (.k (.one (.p (.fn 127 [] [])))) [.t 68, .t 69], none, 0⟩,
 ⟨(some (4)), .mov (.t 70), none, 0⟩]) (.ret))))))) (.skip))) (.seq (.region false [
 ⟨(some (71)), .mov (.t 1), none, 0⟩,
 ⟨(some (72)), .bin .rem (.t 71) (.i 2), none, 0⟩,
 ⟨(some (73)), .bin .eql (.t 72) (.i 0), none, 0⟩,
 ⟨(some (10)), .mov (.t 73), none, 0⟩]) (.seq (.region false [
 ⟨(some (74)), .mov (.t 1), none, 0⟩,
 ⟨(some (75)), .bin .quo (.t 74) (.i 2), none, 0⟩,
 ⟨(some (11)), .mov (.t 75), none, 0⟩]) (.seq (.seq (.region false [
 ⟨(some (76)), .mov (.t 10), none, 0⟩]) (.cond (.t 76) (.region false [
 ⟨(some (77)), .mov (.t 11), none, 0⟩,
 ⟨(some (78)), .bin .add (.t 77) (.i 1), none, 0⟩,
 ⟨(some (79)), .mov (.t 5), none, 0⟩,
 ⟨(some (80)), .bin .rem (.t 78) (.t 79), none, 0⟩,
 ⟨(some (11)), .mov (.t 80), none, 0⟩]) (.skip))) (.seq (.region false [
 ⟨(some (81)), .mov (.t 0), none, 0⟩,
 ⟨(some (82)), .nilchk (.t 81), none, 0⟩,
 ⟨(some (83)), .faddr 0 (.t 82), none, 0⟩,
 ⟨(some (84)), .faddr 1 (.t 83), none, 0⟩,
 ⟨(some (85)), .load none (.t 84), none, 0⟩,
 ⟨(some (86)), .mov (.t 11), none, 0⟩,
 ⟨(some (87)), .iaddr 6 (.t 85) (.t 86), none, 0⟩,
 ⟨(some (88)), .load (some (6)) (.t 87), none, 0⟩,
 ⟨(some (12)), .alloc 5504960512 [.int .i64 0, .int .i64 0, .int .i64 0, .int .i64 0, .int .i64 0, .bool false], none, 0⟩,
 ⟨none, .store 6 (.t 12) (.t 88), none, 0⟩]) (.seq (.seq (.region false [
 ⟨(some (89)), .faddr 0 (.t 12), none, 0⟩,
 ⟨(some (90)), .load none (.t 89), none, 0⟩,
 ⟨(some (91)), .bin .eql (.t 90) (.i 1), none, 0⟩]) (.cond (.t 91) (.seq (.seq (.region false [
 ⟨(some (92)), .mov (.t 10), none, 0⟩,
 ⟨(some (93)), .mov (.t 0), none, 0⟩,
 ⟨(some (94)), .nilchk (.t 93), none, 0⟩,
 ⟨(some (95)), .faddr 2 (.t 94), none, 0⟩,
 ⟨(some (96)), .load none (.t 95), none, 0⟩,
 ⟨(some (97)), .mov (.t 11), none, 0⟩,
 ⟨(some (98)), .iaddr 1 (.t 96) (.t 97), none, 0⟩,
 ⟨(some (99)), .load none (.t 98), none, 0⟩,
 ⟨(some (100)), .eqc .bool false (.t 92) (.t 99), none, 0⟩]) (.cond (.t 100) (.seq (.region false [
 ⟨(some (101)), .mov (.t 5), none, 0⟩,
 ⟨(some (102)), .bin .mul (.i 2) (.t 101), none, 0⟩,
 ⟨(some (103)), .mov (.t 0), none, 0⟩,
 ⟨(some (104)), .nilchk (.t 103), none, 0⟩,
 ⟨(some (105)), .faddr 4 (.t 104), none, 0⟩,
 ⟨(some (106)), .load none (.t 105), none, 0⟩,
 ⟨(some (107)), .mov (.t 11), none, 0⟩,
 ⟨(some (108)), .iaddr 1 (.t 106) (.t 107), none, 0⟩,
 ⟨(some (109)), .load none (.t 108), none, 0⟩,
 ⟨(some (110)), .bin .mul (.i 2) (.t 109), none, 0⟩,
 ⟨(some (111)), .bin .add (.t 102) (.t 110), none, 0⟩,
 ⟨(some (4)), .mov (.t 111), none, 0⟩]) (.ret)) (.skip))) (.seq (.region false [
 ⟨(some (112)), .mov (.t 5), none, 0⟩,
 ⟨(some (113)), .bin .mul (.i 2) (.t 112), none, 0⟩,
 ⟨(some (114)), .mov (.t 0), none, 0⟩,
 ⟨(some (115)), .nilchk (.t 114), none, 0⟩,
 ⟨(some (116)), .faddr 4 (.t 115), none, 0⟩,
 ⟨(some (117)), .load none (.t 116), none, 0⟩,
 ⟨(some (118)), .mov (.t 11), none, 0⟩,
 ⟨(some (119)), .iaddr 1 (.t 117) (.t 118), none, 0⟩,
 ⟨(some (120)), .load none (.t 119), none, 0⟩,
 ⟨(some (121)), .bin .sub (.t 120) (.i 1), none, 0⟩,
 ⟨(some (122)), .mov (.t 6), none, 0⟩,
 ⟨(some (123)), .bin .add (.t 121) (.t 122), none, 0⟩,
 ⟨(some (124)), .mov (.t 6), none, 0⟩,
 ⟨(some (125)), .bin .rem (.t 123) (.t 124), none, 0⟩,
 ⟨(some (126)), .bin .mul (.i 2) (.t 125), none, 0⟩,
 ⟨(some (127)), .bin .add (.t 113) (.t 126), none, 0⟩,
 ⟨(some (128)), .bin .add (.t 127) (.i 1), none, 0⟩,
 ⟨(some (4)), .mov (.t 128), none, 0⟩]) (.ret))) (.skip))) (.seq (.region true [
 ⟨(some (129)), .mov (.t 0), none, 0⟩,
 ⟨(some (130)), .nilchk (.t 129), none, 1⟩,
 ⟨(some (131)), .faddr 5 (.t 130), none, 3⟩,
 ⟨(some (132)), .load none (.t 131), none, 7⟩,
 ⟨(some (133)), .faddr 3 (.t 12), none, 0⟩,
 ⟨(some (134)), .load none (.t 133), none, 16⟩,
 ⟨(some (135)), .lookup 0 [.int .i64 0, .int .i64 0] true false (.t 132) (.t 134), none, 63⟩,
 ⟨(some (13)), .alloc 5505280448 [.int .i64 0, .int .i64 0], none, 0⟩,
 ⟨none, .store 2 (.t 13) (.t 135), none, 255⟩]) (.seq (.region false [
 ⟨(some (136)), .aaddr 2 1 (.t 13) (.i 1), none, 0⟩,
 ⟨(some (137)), .load none (.t 136), none, 0⟩,
 ⟨(some (14)), .mov (.t 137), none, 0⟩]) (.seq (.seq (.region false [
 ⟨(some (138)), .faddr 5 (.t 12), none, 0⟩,
 ⟨(some (139)), .load none (.t 138), none, 0⟩]) (.cond (.t 139) (.region false [
 ⟨(some (140)), .aaddr 2 1 (.t 13) (.i 0), none, 0⟩,
 ⟨(some (141)), .load none (.t 140), none, 0⟩,
 ⟨(some (14)), .mov (.t 141), none, 0⟩]) (.skip))) (.seq (.seq (.region false [
 ⟨(some (142)), .mov (.t 10), none, 0⟩,
 ⟨(some (143)), .faddr 5 (.t 12), none, 0⟩,
 ⟨(some (144)), .load none (.t 143), none, 0⟩,
 ⟨(some (145)), .faddr 4 (.t 12), none, 0⟩,
 ⟨(some (146)), .load none (.t 145), none, 0⟩,
 ⟨(some (147)), .bin .eql (.t 146) (.i 1), none, 0⟩,
 ⟨(some (148)), .eqc .bool false (.t 144) (.t 147), none, 0⟩,
 ⟨(some (149)), .eqc .bool false (.t 142) (.t 148), none, 0⟩]) (.cond (.t 149) (.seq (.region false [
 ⟨(some (150)), .mov (.t 0), none, 0⟩,
 ⟨(some (151)), .mov (.t 14), none, 0⟩,
 ⟨(some (152)), .call 5505600128 (.k (.one (.p (.fn 127 [] [])))) [.t 150, .t 151], none, 0⟩,
 ⟨(some (4)), .mov (.t 152), none, 0⟩]) (.ret)) (.skip))) (.seq (.region false [
 ⟨(some (153)), .mov (.t 0), none, 0⟩,
 ⟨(some (154)), .mov (.t 14), none, 0⟩,
 ⟨(some (155)), .call 5505664128 (.k (.one (.p (.fn 126 [] [])))) [.t 153, .t 154], none, 0⟩,
 ⟨(some (4)), .mov (.t 155), none, 0⟩]) (.ret))))))))))))))⟩
def i127 : IFn :=
⟨7, [(4, none)],
 (.seq (.region false [
 ⟨(some (4)), .mov (.i 0), none, 0⟩]) (.seq (.region false [
 ⟨(some (5)), .mov (.t 1), none, 0⟩,
 ⟨(some (6)), .bin .mul (.i 2) (.t 5), none, 0⟩,
 ⟨(some (4)), .mov (.t 6), none, 0⟩]) (.ret)))⟩
def i126 : IFn :=
⟨20, [(4, none)],
 (.seq (.region false [
 ⟨(some (4)), .mov (.i 0), none, 0⟩]) (.seq (.region false [
 ⟨(some (6)), .mov (.t 0), none, 0⟩,
 ⟨(some (7)), .nilchk (.t 6), none, 0⟩,
 ⟨(some (8)), .faddr 0 (.t 7), none, 0⟩,
 ⟨(some (9)), .faddr 1 (.t 8), none, 0⟩,
 ⟨(some (10)), .load none (.t 9), none, 0⟩,
 ⟨(some (11)), .llen (.t 10), none, 0⟩,
 ⟨(some (5)), .mov (.t 11), none, 0⟩]) (.seq (.region false [
 ⟨(some (12)), .mov (.t 1), none, 0⟩,
 ⟨(some (13)), .bin .sub (.t 12) (.i 1), none, 0⟩,
 ⟨(some (14)), .mov (.t 5), none, 0⟩,
 ⟨(some (15)), .bin .add (.t 13) (.t 14), none, 0⟩,
 ⟨(some (16)), .mov (.t 5), none, 0⟩,
 ⟨(some (17)), .bin .rem (.t 15) (.t 16), none, 0⟩,
 ⟨(some (18)), .bin .mul (.i 2) (.t 17), none, 0⟩,
 ⟨(some (19)), .bin .add (.t 18) (.i 1), none, 0⟩,
 ⟨(some (4)), .mov (.t 19), none, 0⟩]) (.ret))))⟩
def i149 : IFn :=
⟨9, [(4, none)],
 (.seq (.region false [
 ⟨(some (4)), .mov (.b false), none, 0⟩]) (.seq (.region false [
 ⟨(some (5)), .mov (.t 0), none, 0⟩,
 ⟨(some (6)), .mov (.t 1), none, 0⟩,
 ⟨(some (7)), .call 9536064128 (.k (.one (.p (.fn 179 [] [])))) [.t 5, .t 6], none, 0⟩,
 ⟨(some (8)), .bin .geq (.t 7) (.i 0), none, 0⟩,
 ⟨(some (4)), .mov (.t 8), none, 0⟩]) (.ret)))⟩
def i179_l1 : ICode :=
(.seq (.region false [
 ⟨(some (9)), .bin .lss (.t 8) (.t 7), none, 0⟩]) (.seq (.cond (.t 9) (.skip) (.exit 0)) (.seq (.block 1 (.seq (.region false [
 ⟨(some (10)), .mov (.t 8), none, 0⟩,
 ⟨(some (5)), .mov (.t 10), none, 0⟩]) (.seq (.region false [
 ⟨(some (11)), .mov (.t 1), none, 0⟩,
 ⟨(some (12)), .mov (.t 0), none, 0⟩,
 ⟨(some (13)), .mov (.t 5), none, 0⟩,
 ⟨(some (14)), .iaddr 6 (.t 12) (.t 13), none, 0⟩,
 ⟨(some (15)), .load (some (6)) (.t 14), none, 0⟩,
 ⟨(some (16)), .call 11456256320 (.t 11) [.t 15], none, 0⟩]) (.cond (.t 16) (.seq (.region false [
 ⟨(some (17)), .mov (.t 5), none, 0⟩,
 ⟨(some (4)), .mov (.t 17), none, 0⟩]) (.ret)) (.skip))))) (.region false [
 ⟨(some (18)), .bin .add (.t 8) (.i 1), none, 0⟩,
 ⟨(some (8)), .mov (.t 18), none, 0⟩]))))
def i179_r2 : ICode :=
(.seq (.region false [
 ⟨(some (4)), .mov (.i (-1)), none, 0⟩]) (.ret))
def i179 : IFn :=
⟨19, [(4, none)],
 (.seq (.region false [
 ⟨(some (4)), .mov (.i 0), none, 0⟩]) (.seq (.seq (.region false [
 ⟨(some (6)), .mov (.t 0), none, 0⟩,
 ⟨(some (7)), .llen (.t 6), none, 0⟩,
 ⟨(some (8)), .mov (.i 0), none, 0⟩]) (.block 0 (.loop i179_l1))) i179_r2))⟩
def i4 : IFn :=
⟨54, [(2, none)],
 (.seq (.region false [
 ⟨(some (1)), .box 256000000 (.t 0), none, 0⟩,
 ⟨(some (2)), .mov (.i 0), none, 0⟩]) (.seq (.seq (.region false [
 ⟨(some (4)), .faddr 1 (.t 1), none, 0⟩,
 ⟨(some (5)), .load none (.t 4), none, 0⟩,
 ⟨(some (6)), .llen (.t 5), none, 0⟩,
 ⟨(some (7)), .bin .gtr (.t 6) (.i 400), none, 0⟩,
 ⟨(some (8)), .mov (.t 7), none, 0⟩,
 ⟨(some (9)), .load (some (2)) (.t 1), (some (8, false)), 0⟩,
 ⟨(some (10)), .call 256064384 (.k (.one (.p (.fn 13 [] [])))) [.t 9], (some (8, false)), 0⟩,
 ⟨(some (11)), .bin .gtr (.t 10) (.i 200), (some (8, false)), 0⟩,
 ⟨(some (12)), .pick (.t 8) (.b true) (.t 11), none, 0⟩]) (.cond (.t 12) (.seq (.region false [
 ⟨(some (2)), .mov (.i 7), none, 0⟩]) (.ret)) (.skip))) (.seq (.seq (.region false [
 ⟨(some (13)), .faddr 0 (.t 1), none, 0⟩,
 ⟨(some (14)), .load none (.t 13), none, 0⟩,
 ⟨(some (15)), .bin .lss (.t 14) (.i 0), none, 0⟩,
 ⟨(some (16)), .mov (.t 15), none, 0⟩,
 ⟨(some (17)), .faddr 0 (.t 1), (some (16, false)), 0⟩,
 ⟨(some (18)), .load none (.t 17), (some (16, false)), 0⟩,
 ⟨(some (19)), .bin .gtr (.t 18) (.i 40), (some (16, false)), 0⟩,
 ⟨(some (20)), .pick (.t 16) (.b true) (.t 19), none, 0⟩]) (.cond (.t 20) (.seq (.region false [
 ⟨(some (2)), .mov (.i 2), none, 0⟩]) (.ret)) (.skip))) (.seq (.seq (.region false [
 ⟨(some (21)), .faddr 1 (.t 1), none, 0⟩,
 ⟨(some (22)), .load none (.t 21), none, 0⟩,
 ⟨(some (23)), .llen (.t 22), none, 0⟩,
 ⟨(some (24)), .bin .eql (.t 23) (.i 0), none, 0⟩]) (.cond (.t 24) (.seq (.region false [
 ⟨(some (2)), .mov (.i 0), none, 0⟩]) (.ret)) (.skip))) (.seq (.region false [
 ⟨(some (25)), .load (some (2)) (.t 1), none, 0⟩,
 ⟨(some (26)), .call 256448064 (.k (.one (.p (.fn 14 [] [])))) [.t 25], none, 0⟩,
 ⟨(some (3)), .mov (.t 26), none, 0⟩]) (.seq (.seq (.region true [
 ⟨(some (27)), .faddr 1 (.t 1), none, 0⟩,
 ⟨(some (28)), .load none (.t 27), none, 1⟩,
 ⟨(some (29)), .iaddr 6 (.t 28) (.i 0), none, 3⟩,
 ⟨(some (30)), .faddr 0 (.t 29), none, 7⟩,
 ⟨(some (31)), .load none (.t 30), none, 15⟩,
 ⟨(some (32)), .bin .neq (.t 31) (.i 1), none, 31⟩,
 ⟨(some (33)), .mov (.t 32), none, 63⟩,
 ⟨(some (34)), .mov (.t 3), (some (33, false)), 127⟩,
 ⟨(some (35)), .bin .rem (.t 34) (.i 2), (some (33, false)), 255⟩,
 ⟨(some (36)), .bin .neq (.t 35) (.i 0), (some (33, false)), 511⟩,
 ⟨(some (37)), .pick (.t 33) (.b true) (.t 36), none, 1023⟩,
 ⟨(some (38)), .mov (.t 37), none, 2047⟩,
 ⟨(some (39)), .load (some (2)) (.t 1), (some (38, false)), 4095⟩,
 ⟨(some (40)), .call 256512832 (.k (.one (.p (.fn 15 [] [])))) [.t 39], (some (38, false)), 8191⟩,
 ⟨(some (41)), .un .not (.t 40), (some (38, false)), 16383⟩,
 ⟨(some (42)), .pick (.t 38) (.b true) (.t 41), none, 32767⟩,
 ⟨(some (43)), .mov (.t 42), none, 65535⟩,
 ⟨(some (44)), .load (some (2)) (.t 1), (some (43, false)), 131071⟩,
 ⟨(some (45)), .call 256513152 (.k (.one (.p (.fn 16 [] [])))) [.t 44], (some (43, false)), 262143⟩,
 ⟨(some (46)), .llen (.t 45), (some (43, false)), 524287⟩,
 ⟨(some (47)), .mov (.t 3), (some (43, false)), 131071⟩,
 ⟨(some (48)), .load (some (2)) (.t 1), (some (43, false)), 131071⟩,
 ⟨(some (49)), .call 256513408 (.k (.one (.p (.fn 17 [] [])))) [.t 48], (some (43, false)), 2621439⟩,
 ⟨(some (50)), .bin .add (.t 47) (.t 49), (some (43, false)), 7864319⟩,
 ⟨(some (51)), .bin .add (.t 50) (.i 2), (some (43, false)), 16252927⟩,
 ⟨(some (52)), .bin .neq (.t 46) (.t 51), (some (43, false)), 33554431⟩,
 ⟨(some (53)), .pick (.t 43) (.b true) (.t 52), none, 67108863⟩]) (.cond (.t 53) (.seq (.region false [
 ⟨(some (2)), .mov (.i 3), none, 0⟩]) (.ret)) (.skip))) (.seq (.region false [
 ⟨(some (2)), .mov (.i 0), none, 0⟩]) (.ret))))))))⟩
def i14_l1 : ICode :=
(.seq (.seq (.region false [
 ⟨(some (5)), .mov (.t 4), none, 0⟩,
 ⟨(some (6)), .faddr 1 (.t 1), none, 0⟩,
 ⟨(some (7)), .load none (.t 6), none, 0⟩,
 ⟨(some (8)), .llen (.t 7), none, 0⟩,
 ⟨(some (9)), .bin .lss (.t 5) (.t 8), none, 0⟩]) (.cond (.t 9) (.skip) (.exit 0))) (.seq (.block 1 (.seq (.region false [
 ⟨(some (12)), .faddr 1 (.t 1), none, 0⟩,
 ⟨(some (13)), .load none (.t 12), none, 0⟩,
 ⟨(some (14)), .mov (.t 4), none, 0⟩,
 ⟨(some (15)), .iaddr 6 (.t 13) (.t 14), none, 0⟩,
 ⟨(some (16)), .faddr 0 (.t 15), none, 0⟩,
 ⟨(some (17)), .load none (.t 16), none, 0⟩,
 ⟨(some (18)), .bin .eql (.t 17) (.i 1), none, 0⟩]) (.cond (.t 18) (.region false [
 ⟨(some (19)), .mov (.t 3), none, 0⟩,
 ⟨(some (20)), .bin .add (.t 19) (.i 1), none, 0⟩,
 ⟨(some (3)), .mov (.t 20), none, 0⟩]) (.skip)))) (.region false [
 ⟨(some (10)), .mov (.t 4), none, 0⟩,
 ⟨(some (11)), .bin .add (.t 10) (.i 1), none, 0⟩,
 ⟨(some (4)), .mov (.t 11), none, 0⟩])))
def i14_r2 : ICode :=
(.seq (.region false [
 ⟨(some (21)), .mov (.t 3), none, 0⟩,
 ⟨(some (2)), .mov (.t 21), none, 0⟩]) (.ret))
def i14 : IFn :=
⟨22, [(2, none)],
 (.seq (.region false [
 ⟨(some (1)), .box 896000000 (.t 0), none, 0⟩,
 ⟨(some (2)), .mov (.i 0), none, 0⟩]) (.seq (.region false [
 ⟨(some (3)), .mov (.i 0), none, 0⟩]) (.seq (.seq (.region false [
 ⟨(some (4)), .mov (.i 0), none, 0⟩]) (.block 0 (.loop i14_l1))) i14_r2)))⟩
def i17 : IFn :=
⟨6, [(2, none)],
 (.seq (.region false [
 ⟨(some (1)), .box 1088000000 (.t 0), none, 0⟩,
 ⟨(some (2)), .mov (.i 0), none, 0⟩]) (.seq (.region false [
 ⟨(some (3)), .load (some (2)) (.t 1), none, 0⟩,
 ⟨(some (4)), .call 1088064064 (.k (.one (.p (.fn 13 [] [])))) [.t 3], none, 0⟩,
 ⟨(some (5)), .bin .quo (.t 4) (.i 2), none, 0⟩,
 ⟨(some (2)), .mov (.t 5), none, 0⟩]) (.ret)))⟩
def i13_l1 : ICode :=
(.seq (.seq (.region false [
 ⟨(some (5)), .mov (.t 4), none, 0⟩,
 ⟨(some (6)), .faddr 1 (.t 1), none, 0⟩,
 ⟨(some (7)), .load none (.t 6), none, 0⟩,
 ⟨(some (8)), .llen (.t 7), none, 0⟩,
 ⟨(some (9)), .bin .lss (.t 5) (.t 8), none, 0⟩]) (.cond (.t 9) (.skip) (.exit 0))) (.seq (.block 1 (.seq (.region false [
 ⟨(some (12)), .faddr 1 (.t 1), none, 0⟩,
 ⟨(some (13)), .load none (.t 12), none, 0⟩,
 ⟨(some (14)), .mov (.t 4), none, 0⟩,
 ⟨(some (15)), .iaddr 6 (.t 13) (.t 14), none, 0⟩,
 ⟨(some (16)), .faddr 0 (.t 15), none, 0⟩,
 ⟨(some (17)), .load none (.t 16), none, 0⟩,
 ⟨(some (18)), .bin .eql (.t 17) (.i 2), none, 0⟩]) (.cond (.t 18) (.region false [
 ⟨(some (19)), .mov (.t 3), none, 0⟩,
 ⟨(some (20)), .bin .add (.t 19) (.i 1), none, 0⟩,
 ⟨(some (3)), .mov (.t 20), none, 0⟩]) (.skip)))) (.region false [
 ⟨(some (10)), .mov (.t 4), none, 0⟩,
 ⟨(some (11)), .bin .add (.t 10) (.i 1), none, 0⟩,
 ⟨(some (4)), .mov (.t 11), none, 0⟩])))
def i13_r2 : ICode :=
(.seq (.region false [
 ⟨(some (21)), .mov (.t 3), none, 0⟩,
 ⟨(some (2)), .mov (.t 21), none, 0⟩]) (.ret))
def i13 : IFn :=
⟨22, [(2, none)],
 (.seq (.region false [
 ⟨(some (1)), .box 832000000 (.t 0), none, 0⟩,
 ⟨(some (2)), .mov (.i 0), none, 0⟩]) (.seq (.region false [
 ⟨(some (3)), .mov (.i 0), none, 0⟩]) (.seq (.seq (.region false [
 ⟨(some (4)), .mov (.i 0), none, 0⟩]) (.block 0 (.loop i13_l1))) i13_r2)))⟩
def i28_l1 : ICode :=
(.seq (.seq (.region false [
 ⟨(some (7)), .mov (.t 6), none, 0⟩,
 ⟨(some (8)), .faddr 1 (.t 2), none, 0⟩,
 ⟨(some (9)), .load none (.t 8), none, 0⟩,
 ⟨(some (10)), .llen (.t 9), none, 0⟩,
 ⟨(some (11)), .bin .lss (.t 7) (.t 10), none, 0⟩]) (.cond (.t 11) (.skip) (.exit 0))) (.seq (.block 1 (.seq (.region false [
 ⟨(some (14)), .faddr 1 (.t 2), none, 0⟩,
 ⟨(some (15)), .load none (.t 14), none, 0⟩,
 ⟨(some (16)), .mov (.t 6), none, 0⟩,
 ⟨(some (17)), .iaddr 6 (.t 15) (.t 16), none, 0⟩,
 ⟨(some (18)), .faddr 0 (.t 17), none, 0⟩,
 ⟨(some (19)), .load none (.t 18), none, 0⟩,
 ⟨(some (20)), .bin .eql (.t 19) (.i 1), none, 0⟩,
 ⟨(some (21)), .mov (.t 20), none, 0⟩,
 ⟨(some (22)), .faddr 1 (.t 2), (some (21, true)), 0⟩,
 ⟨(some (23)), .load none (.t 22), (some (21, true)), 0⟩,
 ⟨(some (24)), .mov (.t 6), (some (21, true)), 0⟩,
 ⟨(some (25)), .iaddr 6 (.t 23) (.t 24), (some (21, true)), 0⟩,
 ⟨(some (26)), .faddr 1 (.t 25), (some (21, true)), 0⟩,
 ⟨(some (27)), .load none (.t 26), (some (21, true)), 0⟩,
 ⟨(some (28)), .mov (.t 1), (some (21, true)), 0⟩,
 ⟨(some (29)), .bin .eql (.t 27) (.t 28), (some (21, true)), 0⟩,
 ⟨(some (30)), .pick (.t 21) (.t 29) (.b false), none, 0⟩]) (.cond (.t 30) (.region false [
 ⟨(some (31)), .mov (.t 5), none, 0⟩,
 ⟨(some (32)), .bin .add (.t 31) (.i 1), none, 0⟩,
 ⟨(some (5)), .mov (.t 32), none, 0⟩]) (.skip)))) (.region false [
 ⟨(some (12)), .mov (.t 6), none, 0⟩,
 ⟨(some (13)), .bin .add (.t 12) (.i 1), none, 0⟩,
 ⟨(some (6)), .mov (.t 13), none, 0⟩])))
def i28_r2 : ICode :=
(.seq (.region false [
 ⟨(some (33)), .mov (.t 5), none, 0⟩,
 ⟨(some (4)), .mov (.t 33), none, 0⟩]) (.ret))
def i28 : IFn :=
⟨34, [(4, none)],
 (.seq (.region false [
 ⟨(some (2)), .box 1792000000 (.t 0), none, 0⟩,
 ⟨(some (4)), .mov (.i 0), none, 0⟩]) (.seq (.region false [
 ⟨(some (5)), .mov (.i 0), none, 0⟩]) (.seq (.seq (.region false [
 ⟨(some (6)), .mov (.i 0), none, 0⟩]) (.block 0 (.loop i28_l1))) i28_r2)))⟩
def i53_l1 : ICode :=
(.seq (.seq (.region false [
 ⟨(some (7)), .mov (.t 6), none, 0⟩,
 ⟨(some (8)), .mov (.t 1), none, 0⟩,
 ⟨(some (9)), .bin .lss (.t 7) (.t 8), none, 0⟩]) (.cond (.t 9) (.skip) (.exit 0))) (.seq (.block 1 (.seq (.region false [
 ⟨(some (12)), .faddr 1 (.t 2), none, 0⟩,
 ⟨(some (13)), .load none (.t 12), none, 0⟩,
 ⟨(some (14)), .mov (.t 6), none, 0⟩,
 ⟨(some (15)), .iaddr 6 (.t 13) (.t 14), none, 0⟩,
 ⟨(some (16)), .faddr 0 (.t 15), none, 0⟩,
 ⟨(some (17)), .load none (.t 16), none, 0⟩,
 ⟨(some (18)), .bin .eql (.t 17) (.i 1), none, 0⟩]) (.cond (.t 18) (.region false [
 ⟨(some (19)), .mov (.t 5), none, 0⟩,
 ⟨(some (20)), .bin .add (.t 19) (.i 1), none, 0⟩,
 ⟨(some (5)), .mov (.t 20), none, 0⟩]) (.skip)))) (.region false [
 ⟨(some (10)), .mov (.t 6), none, 0⟩,
 ⟨(some (11)), .bin .add (.t 10) (.i 1), none, 0⟩,
 ⟨(some (6)), .mov (.t 11), none, 0⟩])))
def i53_r2 : ICode :=
(.seq (.region false [
 ⟨(some (21)), .mov (.t 5), none, 0⟩,
 ⟨(some (22)), .bin .rem (.t 21) (.i 2), none, 0⟩,
 ⟨(some (23)), .bin .eql (.t 22) (.i 0), none, 0⟩,
 ⟨(some (4)), .mov (.t 23), none, 0⟩]) (.ret))
def i53 : IFn :=
⟨24, [(4, none)],
 (.seq (.region false [
 ⟨(some (2)), .box 3392000000 (.t 0), none, 0⟩,
 ⟨(some (4)), .mov (.b false), none, 0⟩]) (.seq (.region false [
 ⟨(some (5)), .mov (.i 0), none, 0⟩]) (.seq (.seq (.region false [
 ⟨(some (6)), .mov (.i 0), none, 0⟩]) (.block 0 (.loop i53_l1))) i53_r2)))⟩
def i15_l1 : ICode :=
(.seq (.seq (.region false [
 ⟨(some (21)), .mov (.t 7), none, 0⟩,
 ⟨(some (22)), .faddr 1 (.t 1), none, 0⟩,
 ⟨(some (23)), .load none (.t 22), none, 0⟩,
 ⟨(some (24)), .llen (.t 23), none, 0⟩,
 ⟨(some (25)), .bin .lss (.t 21) (.t 24), none, 0⟩]) (.cond (.t 25) (.skip) (.exit 2))) (.seq (.block 3 (.seq (.region false [
 ⟨(some (28)), .faddr 1 (.t 1), none, 0⟩,
 ⟨(some (29)), .load none (.t 28), none, 0⟩,
 ⟨(some (30)), .mov (.t 7), none, 0⟩,
 ⟨(some (31)), .iaddr 6 (.t 29) (.t 30), none, 0⟩,
 ⟨(some (32)), .load (some (6)) (.t 31), none, 0⟩,
 ⟨(some (8)), .alloc 960576320 [.int .i64 0, .int .i64 0, .int .i64 0, .int .i64 0, .int .i64 0, .bool false], none, 0⟩,
 ⟨none, .store 6 (.t 8) (.t 32), none, 0⟩]) (.seq (.seq (.region false [
 ⟨(some (33)), .faddr 0 (.t 8), none, 0⟩,
 ⟨(some (34)), .load none (.t 33), none, 0⟩,
 ⟨(some (35)), .faddr 0 (.t 4), none, 0⟩,
 ⟨(some (36)), .load none (.t 35), none, 0⟩,
 ⟨(some (37)), .bin .eql (.t 34) (.t 36), none, 0⟩,
 ⟨(some (38)), .mov (.t 37), none, 0⟩,
 ⟨(some (39)), .faddr 1 (.t 8), (some (38, true)), 0⟩,
 ⟨(some (40)), .load none (.t 39), (some (38, true)), 0⟩,
 ⟨(some (41)), .faddr 1 (.t 4), (some (38, true)), 0⟩,
 ⟨(some (42)), .load none (.t 41), (some (38, true)), 0⟩,
 ⟨(some (43)), .bin .eql (.t 40) (.t 42), (some (38, true)), 0⟩,
 ⟨(some (44)), .pick (.t 38) (.t 43) (.b false), none, 0⟩,
 ⟨(some (45)), .mov (.t 44), none, 0⟩,
 ⟨(some (46)), .faddr 2 (.t 8), (some (45, true)), 0⟩,
 ⟨(some (47)), .load none (.t 46), (some (45, true)), 0⟩,
 ⟨(some (48)), .faddr 2 (.t 4), (some (45, true)), 0⟩,
 ⟨(some (49)), .load none (.t 48), (some (45, true)), 0⟩,
 ⟨(some (50)), .bin .eql (.t 47) (.t 49), (some (45, true)), 0⟩,
 ⟨(some (51)), .pick (.t 45) (.t 50) (.b false), none, 0⟩]) (.cond (.t 51) (.region false [
 ⟨(some (52)), .mov (.t 5), none, 0⟩,
 ⟨(some (53)), .bin .add (.t 52) (.i 1), none, 0⟩,
 ⟨(some (5)), .mov (.t 53), none, 0⟩]) (.skip))) (.seq (.region false [
 ⟨(some (54)), .faddr 0 (.t 8), none, 0⟩,
 ⟨(some (55)), .load none (.t 54), none, 0⟩,
 ⟨(some (56)), .faddr 0 (.t 4), none, 0⟩,
 ⟨(some (57)), .load none (.t 56), none, 0⟩,
 ⟨(some (58)), .bin .eql (.t 55) (.t 57), none, 0⟩,
 ⟨(some (59)), .mov (.t 58), none, 0⟩,
 ⟨(some (60)), .faddr 3 (.t 8), (some (59, true)), 0⟩,
 ⟨(some (61)), .load none (.t 60), (some (59, true)), 0⟩,
 ⟨(some (62)), .faddr 3 (.t 4), (some (59, true)), 0⟩,
 ⟨(some (63)), .load none (.t 62), (some (59, true)), 0⟩,
 ⟨(some (64)), .bin .eql (.t 61) (.t 63), (some (59, true)), 0⟩,
 ⟨(some (65)), .pick (.t 59) (.t 64) (.b false), none, 0⟩,
 ⟨(some (66)), .mov (.t 65), none, 0⟩,
 ⟨(some (67)), .faddr 4 (.t 8), (some (66, true)), 0⟩,
 ⟨(some (68)), .load none (.t 67), (some (66, true)), 0⟩,
 ⟨(some (69)), .faddr 4 (.t 4), (some (66, true)), 0⟩,
 ⟨(some (70)), .load none (.t 69), (some (66, true)), 0⟩,
 ⟨(some (71)), .bin .eql (.t 68) (.t 70), (some (66, true)), 0⟩,
 ⟨(some (72)), .pick (.t 66) (.t 71) (.b false), none, 0⟩,
 ⟨(some (73)), .mov (.t 72), none, 0⟩,
 ⟨(some (74)), .faddr 5 (.t 8), (some (73, true)), 0⟩,
 ⟨(some (75)), .load none (.t 74), (some (73, true)), 0⟩,
 ⟨(some (76)), .faddr 5 (.t 4), (some (73, true)), 0⟩,
 ⟨(some (77)), .load none (.t 76), (some (73, true)), 0⟩,
 ⟨(some (78)), .eqc .bool true (.t 75) (.t 77), (some (73, true)), 0⟩,
 ⟨(some (79)), .pick (.t 73) (.t 78) (.b false), none, 0⟩]) (.cond (.t 79) (.region false [
 ⟨(some (80)), .mov (.t 6), none, 0⟩,
 ⟨(some (81)), .bin .add (.t 80) (.i 1), none, 0⟩,
 ⟨(some (6)), .mov (.t 81), none, 0⟩]) (.skip)))))) (.region false [
 ⟨(some (26)), .mov (.t 7), none, 0⟩,
 ⟨(some (27)), .bin .add (.t 26) (.i 1), none, 0⟩,
 ⟨(some (7)), .mov (.t 27), none, 0⟩])))
def i15_r2 : ICode :=
(.seq (.region false [
 ⟨(some (82)), .faddr 0 (.t 4), none, 0⟩,
 ⟨(some (83)), .load none (.t 82), none, 0⟩]) (.block 4 (.seq (.region false [
 ⟨(some (85)), .bin .eql (.t 83) (.i 1), none, 0⟩,
 ⟨(some (84)), .mov (.t 85), none, 0⟩]) (.cond (.t 84) (.seq (.region true [
 ⟨(some (86)), .faddr 3 (.t 4), none, 0⟩,
 ⟨(some (87)), .load none (.t 86), none, 1⟩,
 ⟨(some (88)), .bin .neq (.t 87) (.i 0), none, 3⟩,
 ⟨(some (89)), .mov (.t 88), none, 7⟩,
 ⟨(some (90)), .faddr 4 (.t 4), (some (89, false)), 15⟩,
 ⟨(some (91)), .load none (.t 90), (some (89, false)), 31⟩,
 ⟨(some (92)), .bin .neq (.t 91) (.i 0), (some (89, false)), 63⟩,
 ⟨(some (93)), .pick (.t 89) (.b true) (.t 92), none, 127⟩,
 ⟨(some (94)), .mov (.t 93), none, 255⟩,
 ⟨(some (95)), .faddr 5 (.t 4), (some (94, false)), 511⟩,
 ⟨(some (96)), .load none (.t 95), (some (94, false)), 1023⟩,
 ⟨(some (97)), .pick (.t 94) (.b true) (.t 96), none, 2047⟩,
 ⟨(some (98)), .mov (.t 97), none, 4095⟩,
 ⟨(some (99)), .faddr 1 (.t 4), (some (98, false)), 8191⟩,
 ⟨(some (100)), .load none (.t 99), (some (98, false)), 16383⟩,
 ⟨(some (101)), .bin .lss (.t 100) (.i 0), (some (98, false)), 32767⟩,
 ⟨(some (102)), .pick (.t 98) (.b true) (.t 101), none, 65535⟩,
 ⟨(some (103)), .mov (.t 102), none, 131071⟩,
 ⟨(some (104)), .faddr 1 (.t 4), (some (103, false)), 262143⟩,
 ⟨(some (105)), .load none (.t 104), (some (103, false)), 524287⟩,
 ⟨(some (106)), .faddr 0 (.t 1), (some (103, false)), 262143⟩,
 ⟨(some (107)), .load none (.t 106), (some (103, false)), 1310719⟩,
 ⟨(some (108)), .bin .gtr (.t 105) (.t 107), (some (103, false)), 4194303⟩,
 ⟨(some (109)), .pick (.t 103) (.b true) (.t 108), none, 8388607⟩,
 ⟨(some (110)), .mov (.t 109), none, 16777215⟩,
 ⟨(some (111)), .faddr 2 (.t 4), (some (110, false)), 33554431⟩,
 ⟨(some (112)), .load none (.t 111), (some (110, false)), 67108863⟩,
 ⟨(some (113)), .bin .lss (.t 112) (.i 1), (some (110, false)), 134217727⟩,
 ⟨(some (114)), .pick (.t 110) (.b true) (.t 113), none, 268435455⟩,
 ⟨(some (115)), .mov (.t 114), none, 536870911⟩,
 ⟨(some (116)), .faddr 2 (.t 4), (some (115, false)), 1073741823⟩,
 ⟨(some (117)), .load none (.t 116), (some (115, false)), 2147483647⟩,
 ⟨(some (118)), .load (some (2)) (.t 1), (some (115, false)), 1073741823⟩,
 ⟨(some (119)), .faddr 1 (.t 4), (some (115, false)), 1073741823⟩,
 ⟨(some (120)), .load none (.t 119), (some (115, false)), 9663676415⟩,
 ⟨(some (121)), .call 961090240 (.k (.one (.p (.fn 28 [] [])))) [.t 118, .t 120], (some (115, false)), 31138512895⟩,
 ⟨(some (122)), .bin .gtr (.t 117) (.t 121), (some (115, false)), 68719476735⟩,
 ⟨(some (123)), .pick (.t 115) (.b true) (.t 122), none, 137438953471⟩,
 ⟨(some (124)), .mov (.t 123), none, 274877906943⟩,
 ⟨(some (125)), .mov (.t 5), (some (124, false)), 549755813887⟩,
 ⟨(some (126)), .bin .neq (.t 125) (.i 1), (some (124, false)), 1099511627775⟩,
 ⟨(some (127)), .pick (.t 124) (.b true) (.t 126), none, 2199023255551⟩]) (.cond (.t 127) (.seq (.region false [
 ⟨(some (2)), .mov (.b false), none, 0⟩]) (.ret)) (.skip))) (.seq (.region false [
 ⟨(some (129)), .bin .eql (.t 83) (.i 2), none, 0⟩,
 ⟨(some (128)), .mov (.t 129), none, 0⟩]) (.cond (.t 128) (.seq (.region true [
 ⟨(some (130)), .faddr 1 (.t 4), none, 0⟩,
 ⟨(some (131)), .load none (.t 130), none, 1⟩,
 ⟨(some (132)), .bin .neq (.t 131) (.i 0), none, 3⟩,
 ⟨(some (133)), .mov (.t 132), none, 7⟩,
 ⟨(some (134)), .faddr 2 (.t 4), (some (133, false)), 15⟩,
 ⟨(some (135)), .load none (.t 134), (some (133, false)), 31⟩,
 ⟨(some (136)), .bin .neq (.t 135) (.i 0), (some (133, false)), 63⟩,
 ⟨(some (137)), .pick (.t 133) (.b true) (.t 136), none, 127⟩,
 ⟨(some (138)), .mov (.t 137), none, 255⟩,
 ⟨(some (139)), .faddr 4 (.t 4), (some (138, false)), 511⟩,
 ⟨(some (140)), .load none (.t 139), (some (138, false)), 1023⟩,
 ⟨(some (141)), .bin .neq (.t 140) (.i 1), (some (138, false)), 2047⟩,
 ⟨(some (142)), .mov (.t 141), (some (138, false)), 4095⟩,
 ⟨(some (143)), .faddr 4 (.t 4), (some (142, true)), 8191⟩,
 ⟨(some (144)), .load none (.t 143), (some (142, true)), 16383⟩,
 ⟨(some (145)), .bin .neq (.t 144) (.i (-1)), (some (142, true)), 32767⟩,
 ⟨(some (146)), .pick (.t 142) (.t 145) (.b false), (some (138, false)), 65535⟩,
 ⟨(some (147)), .pick (.t 138) (.b true) (.t 146), none, 131071⟩,
 ⟨(some (148)), .mov (.t 147), none, 262143⟩,
 ⟨(some (149)), .faddr 3 (.t 4), (some (148, false)), 524287⟩,
 ⟨(some (150)), .load none (.t 149), (some (148, false)), 1048575⟩,
 ⟨(some (151)), .bin .lss (.t 150) (.i 1), (some (148, false)), 2097151⟩,
 ⟨(some (152)), .pick (.t 148) (.b true) (.t 151), none, 4194303⟩,
 ⟨(some (153)), .mov (.t 152), none, 8388607⟩,
 ⟨(some (154)), .faddr 3 (.t 4), (some (153, false)), 16777215⟩,
 ⟨(some (155)), .load none (.t 154), (some (153, false)), 33554431⟩,
 ⟨(some (156)), .load (some (2)) (.t 1), (some (153, false)), 16777215⟩,
 ⟨(some (157)), .call 961281728 (.k (.one (.p (.fn 13 [] [])))) [.t 156], (some (153, false)), 83886079⟩,
 ⟨(some (158)), .bin .quo (.t 157) (.i 2), (some (153, false)), 218103807⟩,
 ⟨(some (159)), .bin .gtr (.t 155) (.t 158), (some (153, false)), 536870911⟩,
 ⟨(some (160)), .pick (.t 153) (.b true) (.t 159), none, 1073741823⟩,
 ⟨(some (161)), .mov (.t 160), none, 2147483647⟩,
 ⟨(some (162)), .mov (.t 6), (some (161, false)), 4294967295⟩,
 ⟨(some (163)), .bin .neq (.t 162) (.i 1), (some (161, false)), 8589934591⟩,
 ⟨(some (164)), .pick (.t 161) (.b true) (.t 163), none, 17179869183⟩,
 ⟨(some (165)), .mov (.t 164), none, 34359738367⟩,
 ⟨(some (166)), .load (some (2)) (.t 1), (some (165, false)), 68719476735⟩,
 ⟨(some (167)), .faddr 3 (.t 4), (some (165, false)), 68719476735⟩,
 ⟨(some (168)), .load none (.t 167), (some (165, false)), 206158430207⟩,
 ⟨(some (169)), .call 961282496 (.k (.one (.p (.fn 29 [] [])))) [.t 166, .t 168], (some (165, false)), 549755813887⟩,
 ⟨(some (170)), .bin .neq (.t 169) (.i 2), (some (165, false)), 1099511627775⟩,
 ⟨(some (171)), .pick (.t 165) (.b true) (.t 170), none, 2199023255551⟩]) (.cond (.t 171) (.seq (.region false [
 ⟨(some (2)), .mov (.b false), none, 0⟩]) (.ret)) (.skip))) (.seq (.region false [
 ⟨(some (2)), .mov (.b false), none, 0⟩]) (.ret))))))))
def i15_r3 : ICode :=
(.region false [
 ⟨(some (14)), .mov (.t 3), none, 0⟩,
 ⟨(some (15)), .bin .add (.t 14) (.i 1), none, 0⟩,
 ⟨(some (3)), .mov (.t 15), none, 0⟩])
def i15_l4 : ICode :=
(.seq (.seq (.region false [
 ⟨(some (9)), .mov (.t 3), none, 0⟩,
 ⟨(some (10)), .faddr 1 (.t 1), none, 0⟩,
 ⟨(some (11)), .load none (.t 10), none, 0⟩,
 ⟨(some (12)), .llen (.t 11), none, 0⟩,
 ⟨(some (13)), .bin .lss (.t 9) (.t 12), none, 0⟩]) (.cond (.t 13) (.skip) (.exit 0))) (.seq (.block 1 (.seq (.region false [
 ⟨(some (16)), .faddr 1 (.t 1), none, 0⟩,
 ⟨(some (17)), .load none (.t 16), none, 0⟩,
 ⟨(some (18)), .mov (.t 3), none, 0⟩,
 ⟨(some (19)), .iaddr 6 (.t 17) (.t 18), none, 0⟩,
 ⟨(some (20)), .load (some (6)) (.t 19), none, 0⟩,
 ⟨(some (4)), .alloc 960256320 [.int .i64 0, .int .i64 0, .int .i64 0, .int .i64 0, .int .i64 0, .bool false], none, 0⟩,
 ⟨none, .store 6 (.t 4) (.t 20), none, 0⟩]) (.seq (.region false [
 ⟨(some (5)), .mov (.i 0), none, 0⟩,
 ⟨(some (6)), .mov (.i 0), none, 0⟩]) (.seq (.seq (.region false [
 ⟨(some (7)), .mov (.i 0), none, 0⟩]) (.block 2 (.loop i15_l1))) i15_r2)))) i15_r3))
def i15_r5 : ICode :=
(.seq (.region false [
 ⟨(some (2)), .mov (.b true), none, 0⟩]) (.ret))
def i15 : IFn :=
⟨172, [(2, none)],
 (.seq (.region false [
 ⟨(some (1)), .box 960000000 (.t 0), none, 0⟩,
 ⟨(some (2)), .mov (.b false), none, 0⟩]) (.seq (.seq (.region false [
 ⟨(some (3)), .mov (.i 0), none, 0⟩]) (.block 0 (.loop i15_l4))) i15_r5))⟩
def i29_l1 : ICode :=
(.seq (.seq (.region false [
 ⟨(some (7)), .mov (.t 6), none, 0⟩,
 ⟨(some (8)), .faddr 1 (.t 2), none, 0⟩,
 ⟨(some (9)), .load none (.t 8), none, 0⟩,
 ⟨(some (10)), .llen (.t 9), none, 0⟩,
 ⟨(some (11)), .bin .lss (.t 7) (.t 10), none, 0⟩]) (.cond (.t 11) (.skip) (.exit 0))) (.seq (.block 1 (.seq (.region false [
 ⟨(some (14)), .faddr 1 (.t 2), none, 0⟩,
 ⟨(some (15)), .load none (.t 14), none, 0⟩,
 ⟨(some (16)), .mov (.t 6), none, 0⟩,
 ⟨(some (17)), .iaddr 6 (.t 15) (.t 16), none, 0⟩,
 ⟨(some (18)), .faddr 0 (.t 17), none, 0⟩,
 ⟨(some (19)), .load none (.t 18), none, 0⟩,
 ⟨(some (20)), .bin .eql (.t 19) (.i 2), none, 0⟩,
 ⟨(some (21)), .mov (.t 20), none, 0⟩,
 ⟨(some (22)), .faddr 1 (.t 2), (some (21, true)), 0⟩,
 ⟨(some (23)), .load none (.t 22), (some (21, true)), 0⟩,
 ⟨(some (24)), .mov (.t 6), (some (21, true)), 0⟩,
 ⟨(some (25)), .iaddr 6 (.t 23) (.t 24), (some (21, true)), 0⟩,
 ⟨(some (26)), .faddr 3 (.t 25), (some (21, true)), 0⟩,
 ⟨(some (27)), .load none (.t 26), (some (21, true)), 0⟩,
 ⟨(some (28)), .mov (.t 1), (some (21, true)), 0⟩,
 ⟨(some (29)), .bin .eql (.t 27) (.t 28), (some (21, true)), 0⟩,
 ⟨(some (30)), .pick (.t 21) (.t 29) (.b false), none, 0⟩]) (.cond (.t 30) (.region false [
 ⟨(some (31)), .mov (.t 5), none, 0⟩,
 ⟨(some (32)), .bin .add (.t 31) (.i 1), none, 0⟩,
 ⟨(some (5)), .mov (.t 32), none, 0⟩]) (.skip)))) (.region false [
 ⟨(some (12)), .mov (.t 6), none, 0⟩,
 ⟨(some (13)), .bin .add (.t 12) (.i 1), none, 0⟩,
 ⟨(some (6)), .mov (.t 13), none, 0⟩])))
def i29_r2 : ICode :=
(.seq (.region false [
 ⟨(some (33)), .mov (.t 5), none, 0⟩,
 ⟨(some (4)), .mov (.t 33), none, 0⟩]) (.ret))
def i29 : IFn :=
⟨34, [(4, none)],
 (.seq (.region false [
 ⟨(some (2)), .box 1856000000 (.t 0), none, 0⟩,
 ⟨(some (4)), .mov (.i 0), none, 0⟩]) (.seq (.region false [
 ⟨(some (5)), .mov (.i 0), none, 0⟩]) (.seq (.seq (.region false [
 ⟨(some (6)), .mov (.i 0), none, 0⟩]) (.block 0 (.loop i29_l1))) i29_r2)))⟩
def i54_l1 : ICode :=
(.seq (.seq (.region false [
 ⟨(some (6)), .mov (.t 5), none, 0⟩,
 ⟨(some (7)), .faddr 1 (.t 2), none, 0⟩,
 ⟨(some (8)), .load none (.t 7), none, 0⟩,
 ⟨(some (9)), .llen (.t 8), none, 0⟩,
 ⟨(some (10)), .bin .lss (.t 6) (.t 9), none, 0⟩]) (.cond (.t 10) (.skip) (.exit 0))) (.seq (.block 1 (.seq (.region true [
 ⟨(some (13)), .mov (.t 5), none, 0⟩,
 ⟨(some (14)), .mov (.t 1), none, 0⟩,
 ⟨(some (15)), .bin .neq (.t 13) (.t 14), none, 3⟩,
 ⟨(some (16)), .mov (.t 15), none, 7⟩,
 ⟨(some (17)), .faddr 1 (.t 2), (some (16, true)), 15⟩,
 ⟨(some (18)), .load none (.t 17), (some (16, true)), 31⟩,
 ⟨(some (19)), .mov (.t 5), (some (16, true)), 15⟩,
 ⟨(some (20)), .iaddr 6 (.t 18) (.t 19), (some (16, true)), 127⟩,
 ⟨(some (21)), .faddr 0 (.t 20), (some (16, true)), 255⟩,
 ⟨(some (22)), .load none (.t 21), (some (16, true)), 511⟩,
 ⟨(some (23)), .bin .eql (.t 22) (.i 2), (some (16, true)), 1023⟩,
 ⟨(some (24)), .pick (.t 16) (.t 23) (.b false), none, 2047⟩,
 ⟨(some (25)), .mov (.t 24), none, 4095⟩,
 ⟨(some (26)), .faddr 1 (.t 2), (some (25, true)), 8191⟩,
 ⟨(some (27)), .load none (.t 26), (some (25, true)), 16383⟩,
 ⟨(some (28)), .mov (.t 5), (some (25, true)), 8191⟩,
 ⟨(some (29)), .iaddr 6 (.t 27) (.t 28), (some (25, true)), 65535⟩,
 ⟨(some (30)), .faddr 3 (.t 29), (some (25, true)), 131071⟩,
 ⟨(some (31)), .load none (.t 30), (some (25, true)), 262143⟩,
 ⟨(some (32)), .faddr 1 (.t 2), (some (25, true)), 8191⟩,
 ⟨(some (33)), .load none (.t 32), (some (25, true)), 532479⟩,
 ⟨(some (34)), .mov (.t 1), (some (25, true)), 8191⟩,
 ⟨(some (35)), .iaddr 6 (.t 33) (.t 34), (some (25, true)), 3678207⟩,
 ⟨(some (36)), .faddr 3 (.t 35), (some (25, true)), 7872511⟩,
 ⟨(some (37)), .load none (.t 36), (some (25, true)), 16261119⟩,
 ⟨(some (38)), .bin .eql (.t 31) (.t 37), (some (25, true)), 33554431⟩,
 ⟨(some (39)), .pick (.t 25) (.t 38) (.b false), none, 67108863⟩]) (.cond (.t 39) (.seq (.region false [
 ⟨(some (40)), .mov (.t 5), none, 0⟩,
 ⟨(some (4)), .mov (.t 40), none, 0⟩]) (.ret)) (.skip)))) (.region false [
 ⟨(some (11)), .mov (.t 5), none, 0⟩,
 ⟨(some (12)), .bin .add (.t 11) (.i 1), none, 0⟩,
 ⟨(some (5)), .mov (.t 12), none, 0⟩])))
def i54_r2 : ICode :=
(.seq (.region false [
 ⟨(some (41)), .mov (.t 1), none, 0⟩,
 ⟨(some (4)), .mov (.t 41), none, 0⟩]) (.ret))
def i54 : IFn :=
⟨42, [(4, none)],
 (.seq (.region false [
 ⟨(some (2)), .box 3456000000 (.t 0), none, 0⟩,
 ⟨(some (4)), .mov (.i 0), none, 0⟩]) (.seq (.seq (.region false [
 ⟨(some (5)), .mov (.i 0), none, 0⟩]) (.block 0 (.loop i54_l1))) i54_r2))⟩
def i51 : IFn :=
⟨24, [(4, none)],
 (.seq (.region false [
 ⟨(some (2)), .box 3264000000 (.t 0), none, 0⟩,
 ⟨(some (3)), .box 3264000064 (.t 1), none, 0⟩,
 ⟨(some (4)), .mov (.b false), none, 0⟩]) (.seq (.region false [
 ⟨(some (5)), .faddr 1 (.t 2), none, 0⟩,
 ⟨(some (6)), .load none (.t 5), none, 0⟩,
 ⟨(some (7)), .faddr 1 (.t 3), none, 0⟩,
 ⟨(some (8)), .load none (.t 7), none, 0⟩,
 ⟨(some (9)), .bin .lss (.t 6) (.t 8), none, 0⟩,
 ⟨(some (10)), .mov (.t 9), none, 0⟩,
 ⟨(some (11)), .faddr 1 (.t 2), (some (10, false)), 0⟩,
 ⟨(some (12)), .load none (.t 11), (some (10, false)), 0⟩,
 ⟨(some (13)), .faddr 1 (.t 3), (some (10, false)), 0⟩,
 ⟨(some (14)), .load none (.t 13), (some (10, false)), 0⟩,
 ⟨(some (15)), .bin .eql (.t 12) (.t 14), (some (10, false)), 0⟩,
 ⟨(some (16)), .mov (.t 15), (some (10, false)), 0⟩,
 ⟨(some (17)), .faddr 2 (.t 2), (some (16, true)), 0⟩,
 ⟨(some (18)), .load none (.t 17), (some (16, true)), 0⟩,
 ⟨(some (19)), .faddr 2 (.t 3), (some (16, true)), 0⟩,
 ⟨(some (20)), .load none (.t 19), (some (16, true)), 0⟩,
 ⟨(some (21)), .bin .lss (.t 18) (.t 20), (some (16, true)), 0⟩,
 ⟨(some (22)), .pick (.t 16) (.t 21) (.b false), (some (10, false)), 0⟩,
 ⟨(some (23)), .pick (.t 10) (.b true) (.t 22), none, 0⟩,
 ⟨(some (4)), .mov (.t 23), none, 0⟩]) (.ret)))⟩
def i30_l1 : ICode :=
(.seq (.seq (.region true [
 ⟨(some (20)), .mov (.t 5), none, 0⟩,
 ⟨(some (21)), .mov (.t 3), none, 0⟩,
 ⟨(some (22)), .llen (.t 21), none, 2⟩,
 ⟨(some (23)), .bin .lss (.t 20) (.t 22), none, 7⟩,
 ⟨(some (24)), .mov (.t 23), none, 15⟩,
 ⟨(some (25)), .faddr 1 (.t 1), (some (24, true)), 31⟩,
 ⟨(some (26)), .load none (.t 25), (some (24, true)), 63⟩,
 ⟨(some (27)), .mov (.t 3), (some (24, true)), 31⟩,
 ⟨(some (28)), .mov (.t 5), (some (24, true)), 31⟩,
 ⟨(some (29)), .iaddr 1 (.t 27) (.t 28), (some (24, true)), 415⟩,
 ⟨(some (30)), .load none (.t 29), (some (24, true)), 927⟩,
 ⟨(some (31)), .iaddr 6 (.t 26) (.t 30), (some (24, true)), 2047⟩,
 ⟨(some (32)), .load (some (6)) (.t 31), (some (24, true)), 4095⟩,
 ⟨(some (33)), .faddr 1 (.t 1), (some (24, true)), 31⟩,
 ⟨(some (34)), .load none (.t 33), (some (24, true)), 8223⟩,
 ⟨(some (35)), .mov (.t 4), (some (24, true)), 31⟩,
 ⟨(some (36)), .iaddr 6 (.t 34) (.t 35), (some (24, true)), 57375⟩,
 ⟨(some (37)), .load (some (6)) (.t 36), (some (24, true)), 122911⟩,
 ⟨(some (38)), .call 1920449152 (.k (.one (.p (.fn 51 [] [])))) [.t 32, .t 37], (some (24, true)), 262143⟩,
 ⟨(some (39)), .pick (.t 24) (.t 38) (.b false), none, 524287⟩]) (.cond (.t 39) (.skip) (.exit 2))) (.block 3 (.region false [
 ⟨(some (40)), .mov (.t 5), none, 0⟩,
 ⟨(some (41)), .bin .add (.t 40) (.i 1), none, 0⟩,
 ⟨(some (5)), .mov (.t 41), none, 0⟩])))
def i30_r2 : ICode :=
(.region true [
 ⟨(some (42)), .mov (.t 3), none, 0⟩,
 ⟨(some (43)), .mov (.t 5), none, 0⟩,
 ⟨(some (44)), .slice 1 (.t 42) none (some (.t 43)), none, 3⟩,
 ⟨(some (45)), .append 1920576192 3 1 8 (.k (.one (.p (.nils)))) (.t 44), none, 7⟩,
 ⟨(some (46)), .mov (.t 4), none, 0⟩,
 ⟨(some (47)), .bslice 1920576320 3 1 [.t 46], none, 16⟩,
 ⟨(some (48)), .append 1920576384 3 1 8 (.t 45) (.t 47), none, 63⟩,
 ⟨(some (49)), .mov (.t 3), none, 0⟩,
 ⟨(some (50)), .mov (.t 5), none, 0⟩,
 ⟨(some (51)), .slice 1 (.t 49) (some (.t 50)) none, none, 384⟩,
 ⟨(some (52)), .append 1920576640 3 1 8 (.t 48) (.t 51), none, 1023⟩,
 ⟨(some (3)), .mov (.t 52), none, 2047⟩])
def i30_r3 : ICode :=
(.region false [
 ⟨(some (11)), .mov (.t 4), none, 0⟩,
 ⟨(some (12)), .bin .add (.t 11) (.i 1), none, 0⟩,
 ⟨(some (4)), .mov (.t 12), none, 0⟩])
def i30_l4 : ICode :=
(.seq (.seq (.region false [
 ⟨(some (6)), .mov (.t 4), none, 0⟩,
 ⟨(some (7)), .faddr 1 (.t 1), none, 0⟩,
 ⟨(some (8)), .load none (.t 7), none, 0⟩,
 ⟨(some (9)), .llen (.t 8), none, 0⟩,
 ⟨(some (10)), .bin .lss (.t 6) (.t 9), none, 0⟩]) (.cond (.t 10) (.skip) (.exit 0))) (.seq (.block 1 (.seq (.seq (.region false [
 ⟨(some (13)), .faddr 1 (.t 1), none, 0⟩,
 ⟨(some (14)), .load none (.t 13), none, 0⟩,
 ⟨(some (15)), .mov (.t 4), none, 0⟩,
 ⟨(some (16)), .iaddr 6 (.t 14) (.t 15), none, 0⟩,
 ⟨(some (17)), .faddr 0 (.t 16), none, 0⟩,
 ⟨(some (18)), .load none (.t 17), none, 0⟩,
 ⟨(some (19)), .bin .neq (.t 18) (.i 1), none, 0⟩]) (.cond (.t 19) (.exit 1) (.skip))) (.seq (.region false [
 ⟨(some (5)), .mov (.i 0), none, 0⟩]) (.seq (.block 2 (.loop i30_l1)) i30_r2)))) i30_r3))
def i30_r5 : ICode :=
(.seq (.region false [
 ⟨(some (53)), .mov (.t 3), none, 0⟩,
 ⟨(some (2)), .mov (.t 53), none, 0⟩]) (.ret))
def i30 : IFn :=
⟨54, [(2, none)],
 (.seq (.region false [
 ⟨(some (1)), .box 1920000000 (.t 0), none, 0⟩,
 ⟨(some (2)), .mov (.k (.one (.p (.nils)))), none, 0⟩]) (.seq (.region false [
 ⟨(some (3)), .mov (.k (.one (.p (.nils)))), none, 0⟩]) (.seq (.seq (.region false [
 ⟨(some (4)), .mov (.i 0), none, 0⟩]) (.block 0 (.loop i30_l4))) i30_r5)))⟩
def i55_l1 : ICode :=
(.seq (.seq (.region false [
 ⟨(some (6)), .mov (.t 5), none, 0⟩,
 ⟨(some (7)), .mov (.t 0), none, 0⟩,
 ⟨(some (8)), .llen (.t 7), none, 0⟩,
 ⟨(some (9)), .bin .lss (.t 6) (.t 8), none, 0⟩]) (.cond (.t 9) (.skip) (.exit 0))) (.seq (.block 1 (.seq (.region false [
 ⟨(some (12)), .mov (.t 0), none, 0⟩,
 ⟨(some (13)), .mov (.t 5), none, 0⟩,
 ⟨(some (14)), .iaddr 1 (.t 12) (.t 13), none, 0⟩,
 ⟨(some (15)), .load none (.t 14), none, 0⟩,
 ⟨(some (16)), .mov (.t 1), none, 0⟩,
 ⟨(some (17)), .bin .eql (.t 15) (.t 16), none, 0⟩]) (.cond (.t 17) (.seq (.region false [
 ⟨(some (18)), .mov (.t 5), none, 0⟩,
 ⟨(some (4)), .mov (.t 18), none, 0⟩]) (.ret)) (.skip)))) (.region false [
 ⟨(some (10)), .mov (.t 5), none, 0⟩,
 ⟨(some (11)), .bin .add (.t 10) (.i 1), none, 0⟩,
 ⟨(some (5)), .mov (.t 11), none, 0⟩])))
def i55_r2 : ICode :=
(.seq (.region false [
 ⟨(some (4)), .mov (.i (-1)), none, 0⟩]) (.ret))
def i55 : IFn :=
⟨19, [(4, none)],
 (.seq (.region false [
 ⟨(some (4)), .mov (.i 0), none, 0⟩]) (.seq (.seq (.region false [
 ⟨(some (5)), .mov (.i 0), none, 0⟩]) (.block 0 (.loop i55_l1))) i55_r2))⟩
def i52 : IFn :=
⟨22, [(6, none)],
 (.seq (.region false [
 ⟨(some (3)), .box 3328000000 (.t 0), none, 0⟩,
 ⟨(some (6)), .mov (.i 0), none, 0⟩]) (.seq (.region false [
 ⟨(some (8)), .faddr 1 (.t 3), none, 0⟩,
 ⟨(some (9)), .load none (.t 8), none, 0⟩,
 ⟨(some (10)), .llen (.t 9), none, 0⟩,
 ⟨(some (7)), .mov (.t 10), none, 0⟩]) (.seq (.seq (.region false [
 ⟨(some (11)), .mov (.t 2), none, 0⟩]) (.cond (.t 11) (.seq (.region false [
 ⟨(some (12)), .mov (.t 1), none, 0⟩,
 ⟨(some (13)), .bin .mul (.i 2) (.t 12), none, 0⟩,
 ⟨(some (6)), .mov (.t 13), none, 0⟩]) (.ret)) (.skip))) (.seq (.region false [
 ⟨(some (14)), .mov (.t 1), none, 0⟩,
 ⟨(some (15)), .mov (.t 7), none, 0⟩,
 ⟨(some (16)), .bin .add (.t 14) (.t 15), none, 0⟩,
 ⟨(some (17)), .bin .sub (.t 16) (.i 1), none, 0⟩,
 ⟨(some (18)), .mov (.t 7), none, 0⟩,
 ⟨(some (19)), .bin .rem (.t 17) (.t 18), none, 0⟩,
 ⟨(some (20)), .bin .mul (.i 2) (.t 19), none, 0⟩,
 ⟨(some (21)), .bin .add (.t 20) (.i 1), none, 0⟩,
 ⟨(some (6)), .mov (.t 21), none, 0⟩]) (.ret)))))⟩
def i31 : IFn :=
⟨114, [(6, none)],
 (.seq (.region false [
 ⟨(some (3)), .box 1984000000 (.t 0), none, 0⟩,
 ⟨(some (6)), .mov (.i 0), none, 0⟩]) (.seq (.region false [
 ⟨(some (17)), .faddr 1 (.t 3), none, 0⟩,
 ⟨(some (18)), .load none (.t 17), none, 0⟩,
 ⟨(some (19)), .llen (.t 18), none, 0⟩,
 ⟨(some (20)), .mov (.t 1), none, 0⟩,
 ⟨(some (21)), .llen (.t 20), none, 0⟩,
 ⟨(some (7)), .mov (.t 19), none, 0⟩,
 ⟨(some (8)), .mov (.t 21), none, 0⟩]) (.seq (.seq (.region false [
 ⟨(some (22)), .mov (.t 2), none, 0⟩,
 ⟨(some (23)), .mov (.t 7), none, 0⟩,
 ⟨(some (24)), .bin .mul (.i 2) (.t 23), none, 0⟩,
 ⟨(some (25)), .bin .geq (.t 22) (.t 24), none, 0⟩]) (.cond (.t 25) (.seq (.region false [
 ⟨(some (26)), .mov (.t 2), none, 0⟩,
 ⟨(some (27)), .mov (.t 7), none, 0⟩,
 ⟨(some (28)), .bin .mul (.i 2) (.t 27), none, 0⟩,
 ⟨(some (29)), .bin .sub (.t 26) (.t 28), none, 0⟩,
 ⟨(some (30)), .bin .quo (.t 29) (.i 2), none, 0⟩,
 ⟨(some (9)), .mov (.t 30), none, 0⟩]) (.seq (.seq (.region false [
 ⟨(some (31)), .mov (.t 2), none, 0⟩,
 ⟨(some (32)), .bin .rem (.t 31) (.i 2), none, 0⟩,
 ⟨(some (33)), .bin .eql (.t 32) (.i 0), none, 0⟩]) (.cond (.t 33) (.seq (.region false [
 ⟨(some (34)), .mov (.t 1), none, 0⟩,
 ⟨(some (35)), .mov (.t 9), none, 0⟩,
 ⟨(some (36)), .bin .add (.t 35) (.i 1), none, 0⟩,
 ⟨(some (37)), .mov (.t 8), none, 0⟩,
 ⟨(some (38)), .bin .rem (.t 36) (.t 37), none, 0⟩,
 ⟨(some (39)), .iaddr 1 (.t 34) (.t 38), none, 0⟩,
 ⟨(some (40)), .load none (.t 39), none, 0⟩,
 ⟨(some (10)), .mov (.t 40), none, 0⟩]) (.seq (.region true [
 ⟨(some (41)), .load (some (2)) (.t 3), none, 0⟩,
 ⟨(some (42)), .mov (.t 10), none, 0⟩,
 ⟨(some (43)), .load (some (2)) (.t 3), none, 0⟩,
 ⟨(some (44)), .mov (.t 10), none, 0⟩,
 ⟨(some (45)), .call 1984384256 (.k (.one (.p (.fn 53 [] [])))) [.t 43, .t 44], none, 12⟩,
 ⟨(some (46)), .un .not (.t 45), none, 28⟩,
 ⟨(some (47)), .call 1984384384 (.k (.one (.p (.fn 52 [] [])))) [.t 41, .t 42, .t 46], none, 63⟩,
 ⟨(some (6)), .mov (.t 47), none, 127⟩]) (.ret))) (.skip))) (.seq (.region false [
 ⟨(some (48)), .mov (.t 1), none, 0⟩,
 ⟨(some (49)), .mov (.t 9), none, 0⟩,
 ⟨(some (50)), .iaddr 1 (.t 48) (.t 49), none, 0⟩,
 ⟨(some (51)), .load none (.t 50), none, 0⟩,
 ⟨(some (11)), .mov (.t 51), none, 0⟩]) (.seq (.region true [
 ⟨(some (52)), .load (some (2)) (.t 3), none, 0⟩,
 ⟨(some (53)), .mov (.t 11), none, 0⟩,
 ⟨(some (54)), .load (some (2)) (.t 3), none, 0⟩,
 ⟨(some (55)), .mov (.t 11), none, 0⟩,
 ⟨(some (56)), .call 1984512256 (.k (.one (.p (.fn 53 [] [])))) [.t 54, .t 55], none, 12⟩,
 ⟨(some (57)), .call 1984512320 (.k (.one (.p (.fn 52 [] [])))) [.t 52, .t 53, .t 56], none, 31⟩,
 ⟨(some (6)), .mov (.t 57), none, 63⟩]) (.ret))))) (.skip))) (.seq (.region false [
 ⟨(some (58)), .mov (.t 2), none, 0⟩,
 ⟨(some (59)), .bin .rem (.t 58) (.i 2), none, 0⟩,
 ⟨(some (60)), .bin .eql (.t 59) (.i 0), none, 0⟩,
 ⟨(some (12)), .mov (.t 60), none, 0⟩]) (.seq (.region false [
 ⟨(some (61)), .mov (.t 2), none, 0⟩,
 ⟨(some (62)), .bin .quo (.t 61) (.i 2), none, 0⟩,
 ⟨(some (13)), .mov (.t 62), none, 0⟩]) (.seq (.seq (.region false [
 ⟨(some (63)), .mov (.t 12), none, 0⟩]) (.cond (.t 63) (.region false [
 ⟨(some (64)), .mov (.t 13), none, 0⟩,
 ⟨(some (65)), .bin .add (.t 64) (.i 1), none, 0⟩,
 ⟨(some (66)), .mov (.t 7), none, 0⟩,
 ⟨(some (67)), .bin .rem (.t 65) (.t 66), none, 0⟩,
 ⟨(some (13)), .mov (.t 67), none, 0⟩]) (.skip))) (.seq (.region false [
 ⟨(some (68)), .faddr 1 (.t 3), none, 0⟩,
 ⟨(some (69)), .load none (.t 68), none, 0⟩,
 ⟨(some (70)), .mov (.t 13), none, 0⟩,
 ⟨(some (71)), .iaddr 6 (.t 69) (.t 70), none, 0⟩,
 ⟨(some (72)), .load (some (6)) (.t 71), none, 0⟩,
 ⟨(some (14)), .alloc 1984832320 [.int .i64 0, .int .i64 0, .int .i64 0, .int .i64 0, .int .i64 0, .bool false], none, 0⟩,
 ⟨none, .store 6 (.t 14) (.t 72), none, 0⟩]) (.seq (.seq (.region false [
 ⟨(some (73)), .faddr 0 (.t 14), none, 0⟩,
 ⟨(some (74)), .load none (.t 73), none, 0⟩,
 ⟨(some (75)), .bin .eql (.t 74) (.i 2), none, 0⟩]) (.cond (.t 75) (.seq (.region false [
 ⟨(some (76)), .faddr 5 (.t 14), none, 0⟩,
 ⟨(some (77)), .load none (.t 76), none, 0⟩,
 ⟨(some (78)), .faddr 4 (.t 14), none, 0⟩,
 ⟨(some (79)), .load none (.t 78), none, 0⟩,
 ⟨(some (80)), .bin .eql (.t 79) (.i 1), none, 0⟩,
 ⟨(some (81)), .eqc .bool false (.t 77) (.t 80), none, 0⟩,
 ⟨(some (15)), .mov (.t 81), none, 0⟩]) (.seq (.region true [
 ⟨(some (82)), .load (some (2)) (.t 3), none, 0⟩,
 ⟨(some (83)), .load (some (2)) (.t 3), none, 0⟩,
 ⟨(some (84)), .mov (.t 13), none, 0⟩,
 ⟨(some (85)), .call 1985024192 (.k (.one (.p (.fn 54 [] [])))) [.t 83, .t 84], none, 6⟩,
 ⟨(some (86)), .mov (.t 12), none, 0⟩,
 ⟨(some (87)), .mov (.t 15), none, 0⟩,
 ⟨(some (88)), .eqc .bool false (.t 86) (.t 87), none, 48⟩,
 ⟨(some (89)), .call 1985024448 (.k (.one (.p (.fn 52 [] [])))) [.t 82, .t 85, .t 88], none, 127⟩,
 ⟨(some (6)), .mov (.t 89), none, 255⟩]) (.ret))) (.skip))) (.seq (.region false [
 ⟨(some (90)), .mov (.t 1), none, 0⟩,
 ⟨(some (91)), .mov (.t 13), none, 0⟩,
 ⟨(some (92)), .call 1985088128 (.k (.one (.p (.fn 55 [] [])))) [.t 90, .t 91], none, 0⟩,
 ⟨(some (16)), .mov (.t 92), none, 0⟩]) (.seq (.seq (.region false [
 ⟨(some (93)), .load (some (2)) (.t 3), none, 0⟩,
 ⟨(some (94)), .mov (.t 13), none, 0⟩,
 ⟨(some (95)), .call 1985152128 (.k (.one (.p (.fn 53 [] [])))) [.t 93, .t 94], none, 0⟩,
 ⟨(some (96)), .mov (.t 12), none, 0⟩,
 ⟨(some (97)), .eqc .bool false (.t 95) (.t 96), none, 0⟩]) (.cond (.t 97) (.seq (.region false [
 ⟨(some (98)), .mov (.t 7), none, 0⟩,
 ⟨(some (99)), .bin .mul (.i 2) (.t 98), none, 0⟩,
 ⟨(some (100)), .mov (.t 16), none, 0⟩,
 ⟨(some (101)), .bin .mul (.i 2) (.t 100), none, 0⟩,
 ⟨(some (102)), .bin .add (.t 99) (.t 101), none, 0⟩,
 ⟨(some (6)), .mov (.t 102), none, 0⟩]) (.ret)) (.skip))) (.seq (.region false [
 ⟨(some (103)), .mov (.t 7), none, 0⟩,
 ⟨(some (104)), .bin .mul (.i 2) (.t 103), none, 0⟩,
 ⟨(some (105)), .mov (.t 16), none, 0⟩,
 ⟨(some (106)), .mov (.t 8), none, 0⟩,
 ⟨(some (107)), .bin .add (.t 105) (.t 106), none, 0⟩,
 ⟨(some (108)), .bin .sub (.t 107) (.i 1), none, 0⟩,
 ⟨(some (109)), .mov (.t 8), none, 0⟩,
 ⟨(some (110)), .bin .rem (.t 108) (.t 109), none, 0⟩,
 ⟨(some (111)), .bin .mul (.i 2) (.t 110), none, 0⟩,
 ⟨(some (112)), .bin .add (.t 104) (.t 111), none, 0⟩,
 ⟨(some (113)), .bin .add (.t 112) (.i 1), none, 0⟩,
 ⟨(some (6)), .mov (.t 113), none, 0⟩]) (.ret))))))))))))⟩
def i16_l1 : ICode :=
(.seq (.seq (.region false [
 ⟨(some (31)), .mov (.t 5), none, 0⟩,
 ⟨(some (32)), .mov (.t 8), none, 0⟩,
 ⟨(some (33)), .iaddr 1 (.t 31) (.t 32), none, 0⟩,
 ⟨(some (34)), .load none (.t 33), none, 0⟩,
 ⟨(some (35)), .un .not (.t 34), none, 0⟩]) (.cond (.t 35) (.skip) (.exit 2))) (.seq (.block 3 (.seq (.region false [
 ⟨(some (40)), .mov (.t 5), none, 0⟩,
 ⟨(some (41)), .mov (.t 8), none, 0⟩,
 ⟨(some (42)), .iaddr 1 (.t 40) (.t 41), none, 0⟩,
 ⟨none, .store 1 (.t 42) (.b true), none, 0⟩]) (.region false [
 ⟨(some (43)), .mov (.t 7), none, 0⟩,
 ⟨(some (44)), .mov (.t 8), none, 0⟩,
 ⟨(some (45)), .bslice 1024832128 3 1 [.t 44], none, 0⟩,
 ⟨(some (46)), .append 1024832192 3 1 8 (.t 43) (.t 45), none, 0⟩,
 ⟨(some (7)), .mov (.t 46), none, 0⟩]))) (.region false [
 ⟨(some (36)), .load (some (2)) (.t 1), none, 0⟩,
 ⟨(some (37)), .mov (.t 4), none, 0⟩,
 ⟨(some (38)), .mov (.t 8), none, 0⟩,
 ⟨(some (39)), .call 1024704192 (.k (.one (.p (.fn 31 [] [])))) [.t 36, .t 37, .t 38], none, 0⟩,
 ⟨(some (8)), .mov (.t 39), none, 0⟩])))
def i16_r2 : ICode :=
(.region false [
 ⟨(some (47)), .mov (.t 3), none, 0⟩,
 ⟨(some (48)), .mov (.t 7), none, 0⟩,
 ⟨(some (49)), .bslice 1024896128 67 1 [.t 48], none, 0⟩,
 ⟨(some (50)), .append 1024896192 67 1 24 (.t 47) (.t 49), none, 0⟩,
 ⟨(some (3)), .mov (.t 50), none, 0⟩])
def i16_r3 : ICode :=
(.region false [
 ⟨(some (24)), .mov (.t 6), none, 0⟩,
 ⟨(some (25)), .bin .add (.t 24) (.i 1), none, 0⟩,
 ⟨(some (6)), .mov (.t 25), none, 0⟩])
def i16_l4 : ICode :=
(.seq (.seq (.region false [
 ⟨(some (20)), .mov (.t 6), none, 0⟩,
 ⟨(some (21)), .mov (.t 5), none, 0⟩,
 ⟨(some (22)), .llen (.t 21), none, 0⟩,
 ⟨(some (23)), .bin .lss (.t 20) (.t 22), none, 0⟩]) (.cond (.t 23) (.skip) (.exit 0))) (.seq (.block 1 (.seq (.seq (.region false [
 ⟨(some (26)), .mov (.t 5), none, 0⟩,
 ⟨(some (27)), .mov (.t 6), none, 0⟩,
 ⟨(some (28)), .iaddr 1 (.t 26) (.t 27), none, 0⟩,
 ⟨(some (29)), .load none (.t 28), none, 0⟩]) (.cond (.t 29) (.exit 1) (.skip))) (.seq (.region false [
 ⟨(some (7)), .mov (.k (.one (.p (.nils)))), none, 0⟩]) (.seq (.seq (.region false [
 ⟨(some (30)), .mov (.t 6), none, 0⟩,
 ⟨(some (8)), .mov (.t 30), none, 0⟩]) (.block 2 (.loop i16_l1))) i16_r2)))) i16_r3))
def i16_r5 : ICode :=
(.seq (.region false [
 ⟨(some (51)), .mov (.t 3), none, 0⟩,
 ⟨(some (2)), .mov (.t 51), none, 0⟩]) (.ret))
def i16 : IFn :=
⟨52, [(2, none)],
 (.seq (.region false [
 ⟨(some (1)), .box 1024000000 (.t 0), none, 0⟩,
 ⟨(some (2)), .mov (.k (.one (.p (.nils)))), none, 0⟩]) (.seq (.region false [
 ⟨(some (3)), .mov (.k (.one (.p (.nils)))), none, 0⟩]) (.seq (.region false [
 ⟨(some (9)), .load (some (2)) (.t 1), none, 0⟩,
 ⟨(some (10)), .call 1024128064 (.k (.one (.p (.fn 30 [] [])))) [.t 9], none, 0⟩,
 ⟨(some (4)), .mov (.t 10), none, 0⟩]) (.seq (.region false [
 ⟨(some (11)), .faddr 1 (.t 1), none, 0⟩,
 ⟨(some (12)), .load none (.t 11), none, 0⟩,
 ⟨(some (13)), .llen (.t 12), none, 0⟩,
 ⟨(some (14)), .bin .mul (.i 2) (.t 13), none, 0⟩,
 ⟨(some (15)), .mov (.t 4), none, 0⟩,
 ⟨(some (16)), .llen (.t 15), none, 0⟩,
 ⟨(some (17)), .bin .mul (.i 2) (.t 16), none, 0⟩,
 ⟨(some (18)), .bin .add (.t 14) (.t 17), none, 0⟩,
 ⟨(some (19)), .mkslice 1024192512 4 1 1 [.bool false] (.t 18) (.t 18), none, 0⟩,
 ⟨(some (5)), .mov (.t 19), none, 0⟩]) (.seq (.seq (.region false [
 ⟨(some (6)), .mov (.i 0), none, 0⟩]) (.block 0 (.loop i16_l4))) i16_r5)))))⟩
def i39_l1 : ICode :=
(.seq (.region false [
 ⟨(some (31)), .bin .lss (.t 30) (.t 29), none, 0⟩]) (.seq (.cond (.t 31) (.skip) (.exit 0)) (.seq (.block 1 (.seq (.region false [
 ⟨(some (32)), .mov (.t 30), none, 0⟩,
 ⟨(some (9)), .mov (.t 32), none, 0⟩]) (.seq (.region false [
 ⟨(some (33)), .mov (.t 7), none, 0⟩,
 ⟨(some (34)), .mov (.t 9), none, 0⟩,
 ⟨(some (35)), .iaddr 1 (.t 33) (.t 34), none, 0⟩,
 ⟨(some (36)), .load none (.t 35), none, 0⟩,
 ⟨(some (37)), .un .not (.t 36), none, 0⟩]) (.cond (.t 37) (.region false [
 ⟨(some (38)), .mov (.t 6), none, 0⟩,
 ⟨(some (39)), .mov (.t 4), none, 0⟩,
 ⟨(some (40)), .mov (.t 9), none, 0⟩,
 ⟨(some (41)), .mov (.t 7), none, 0⟩,
 ⟨(some (42)), .mov (.t 8), none, 0⟩,
 ⟨(some (43)), .call 2496704320 (.k (.one (.p (.fn 62 [] [])))) [.t 39, .t 40, .t 41, .t 42], none, 0⟩,
 ⟨(some (44)), .bslice 2496704384 89 5 [.t 43], none, 0⟩,
 ⟨(some (45)), .append 2496704448 89 5 88 (.t 38) (.t 44), none, 0⟩,
 ⟨(some (6)), .mov (.t 45), none, 0⟩]) (.skip))))) (.region false [
 ⟨(some (46)), .bin .add (.t 30) (.i 1), none, 0⟩,
 ⟨(some (30)), .mov (.t 46), none, 0⟩]))))
def i39_r2 : ICode :=
(.seq (.region false [
 ⟨(some (47)), .mov (.t 6), none, 0⟩,
 ⟨(some (2)), .mov (.t 47), none, 0⟩,
 ⟨(some (3)), .mov (.i 0), none, 0⟩]) (.ret))
def i39 : IFn :=
⟨48, [(2, none), (3, none)],
 (.seq (.region false [
 ⟨(some (1)), .box 2496000000 (.t 0), none, 0⟩,
 ⟨(some (2)), .mov (.k (.one (.p (.nils)))), none, 0⟩,
 ⟨(some (3)), .mov (.i 0), none, 0⟩]) (.seq (.region false [
 ⟨(some (11)), .load (some (2)) (.t 1), none, 0⟩,
 ⟨(some (12)), .call 2496064064 (.k (.one (.p (.fn 50 [] [])))) [.t 11], none, 0⟩,
 ⟨(some (10)), .mov (.t 12), none, 0⟩,
 ⟨(some (13)), .extract (.t 10) 0, none, 0⟩,
 ⟨(some (14)), .extract (.t 10) 1, none, 0⟩,
 ⟨(some (4)), .mov (.t 13), none, 0⟩,
 ⟨(some (5)), .mov (.t 14), none, 0⟩]) (.seq (.seq (.region false [
 ⟨(some (15)), .mov (.t 5), none, 0⟩,
 ⟨(some (16)), .bin .neq (.t 15) (.i 0), none, 0⟩]) (.cond (.t 16) (.seq (.region false [
 ⟨(some (17)), .mov (.t 5), none, 0⟩,
 ⟨(some (2)), .mov (.k (.one (.p (.nils)))), none, 0⟩,
 ⟨(some (3)), .mov (.t 17), none, 0⟩]) (.ret)) (.skip))) (.seq (.region false [
 ⟨(some (6)), .mov (.k (.one (.p (.nils)))), none, 0⟩]) (.seq (.region false [
 ⟨(some (18)), .mov (.t 4), none, 0⟩,
 ⟨(some (19)), .nilchk (.t 18), none, 0⟩,
 ⟨(some (20)), .faddr 0 (.t 19), none, 0⟩,
 ⟨(some (21)), .faddr 1 (.t 20), none, 0⟩,
 ⟨(some (22)), .load none (.t 21), none, 0⟩,
 ⟨(some (23)), .llen (.t 22), none, 0⟩,
 ⟨(some (24)), .bin .mul (.i 2) (.t 23), none, 0⟩,
 ⟨(some (25)), .mkslice 2496320448 4 1 1 [.bool false] (.t 24) (.t 24), none, 0⟩,
 ⟨(some (7)), .mov (.t 25), none, 0⟩]) (.seq (.region false [
 ⟨(some (26)), .mov (.t 4), none, 0⟩,
 ⟨(some (27)), .call 2496384064 (.k (.one (.p (.fn 61 [] [])))) [.t 26], none, 0⟩,
 ⟨(some (8)), .mov (.t 27), none, 0⟩]) (.seq (.seq (.region false [
 ⟨(some (28)), .mov (.t 7), none, 0⟩,
 ⟨(some (29)), .llen (.t 28), none, 0⟩,
 ⟨(some (30)), .mov (.i 0), none, 0⟩]) (.block 0 (.loop i39_l1))) i39_r2)))))))⟩
def i21_l1 : ICode :=
(.seq (.region false [
 ⟨(some (45)), .bin .lss (.t 44) (.t 43), none, 0⟩]) (.seq (.cond (.t 45) (.skip) (.exit 0)) (.seq (.block 1 (.seq (.region false [
 ⟨(some (46)), .iaddr 6 (.t 42) (.t 44), none, 0⟩,
 ⟨(some (47)), .load (some (6)) (.t 46), none, 0⟩,
 ⟨(some (9)), .alloc 1344512128 [.int .i64 0, .int .i64 0, .int .i64 0, .int .i64 0, .int .i64 0, .bool false], none, 0⟩,
 ⟨none, .store 6 (.t 9) (.t 47), none, 0⟩]) (.seq (.region false [
 ⟨(some (48)), .load (some (6)) (.t 9), none, 0⟩,
 ⟨(some (49)), .build [.int .i64 0, .int .i64 0, .int .i64 0, .int .i64 0, .int .i64 0, .bool false, .bool false] [(0, 6, .t 48)], none, 0⟩,
 ⟨(some (10)), .alloc 1344576128 [.int .i64 0, .int .i64 0, .int .i64 0, .int .i64 0, .int .i64 0, .bool false, .bool false], none, 0⟩,
 ⟨none, .store 7 (.t 10) (.t 49), none, 0⟩]) (.seq (.seq (.region false [
 ⟨(some (50)), .faddr 0 (.t 9), none, 0⟩,
 ⟨(some (51)), .load none (.t 50), none, 0⟩,
 ⟨(some (52)), .bin .eql (.t 51) (.i 1), none, 0⟩]) (.cond (.t 52) (.seq (.region false [
 ⟨(some (53)), .mov (.t 7), none, 0⟩,
 ⟨(some (54)), .faddr 6 (.t 10), none, 0⟩,
 ⟨none, .store 1 (.t 54) (.t 53), none, 0⟩]) (.seq (.region false [
 ⟨(some (55)), .mov (.t 7), none, 0⟩,
 ⟨(some (56)), .un .not (.t 55), none, 0⟩,
 ⟨(some (7)), .mov (.t 56), none, 0⟩]) (.region true [
 ⟨(some (57)), .mov (.t 6), none, 0⟩,
 ⟨(some (58)), .nilchk (.t 57), none, 1⟩,
 ⟨(some (59)), .faddr 6 (.t 58), none, 3⟩,
 ⟨(some (60)), .load none (.t 59), none, 7⟩,
 ⟨(some (61)), .faddr 1 (.t 9), none, 0⟩,
 ⟨(some (62)), .load none (.t 61), none, 16⟩,
 ⟨(some (63)), .iaddr 1 (.t 60) (.t 62), none, 63⟩,
 ⟨(some (64)), .load none (.t 63), none, 127⟩,
 ⟨(some (65)), .bin .add (.t 64) (.i 1), none, 255⟩,
 ⟨(some (66)), .iaddr 1 (.t 60) (.t 62), none, 511⟩,
 ⟨none, .store 1 (.t 66) (.t 65), none, 1023⟩]))) (.skip))) (.region true [
 ⟨(some (67)), .mov (.t 6), none, 0⟩,
 ⟨(some (68)), .mov (.t 6), none, 0⟩,
 ⟨(some (69)), .nilchk (.t 68), none, 2⟩,
 ⟨(some (70)), .faddr 1 (.t 69), none, 6⟩,
 ⟨(some (71)), .load none (.t 70), none, 14⟩,
 ⟨(some (72)), .load (some (7)) (.t 10), none, 0⟩,
 ⟨(some (73)), .bslice 1344896384 86 7 [.t 72], none, 32⟩,
 ⟨(some (74)), .append 1344896448 86 7 56 (.t 71) (.t 73), none, 126⟩,
 ⟨(some (75)), .nilchk (.t 67), none, 255⟩,
 ⟨(some (76)), .faddr 1 (.t 75), none, 511⟩,
 ⟨none, .store 1 (.t 76) (.t 74), none, 1023⟩]))))) (.region false [
 ⟨(some (77)), .bin .add (.t 44) (.i 1), none, 0⟩,
 ⟨(some (44)), .mov (.t 77), none, 0⟩]))))
def i21_l2 : ICode :=
(.seq (.region false [
 ⟨(some (89)), .bin .lss (.t 88) (.t 87), none, 0⟩]) (.seq (.cond (.t 89) (.skip) (.exit 4)) (.seq (.block 5 (.seq (.region false [
 ⟨(some (90)), .iaddr 1 (.t 86) (.t 88), none, 0⟩,
 ⟨(some (91)), .load none (.t 90), none, 0⟩,
 ⟨(some (14)), .mov (.t 91), none, 0⟩]) (.region false [
 ⟨(some (92)), .mov (.t 6), none, 0⟩,
 ⟨(some (93)), .nilchk (.t 92), none, 0⟩,
 ⟨(some (94)), .faddr 3 (.t 93), none, 0⟩,
 ⟨(some (95)), .load none (.t 94), none, 0⟩,
 ⟨(some (96)), .mov (.t 14), none, 0⟩,
 ⟨(some (97)), .mov (.t 11), none, 0⟩,
 ⟨(some (98)), .iaddr 1 (.t 95) (.t 96), none, 0⟩,
 ⟨none, .store 1 (.t 98) (.t 97), none, 0⟩]))) (.region false [
 ⟨(some (99)), .bin .add (.t 88) (.i 1), none, 0⟩,
 ⟨(some (88)), .mov (.t 99), none, 0⟩]))))
def i21_r3 : ICode :=
(.region false [
 ⟨(some (100)), .bin .add (.t 80) (.i 1), none, 0⟩,
 ⟨(some (80)), .mov (.t 100), none, 0⟩])
def i21_l4 : ICode :=
(.seq (.region false [
 ⟨(some (81)), .bin .lss (.t 80) (.t 79), none, 0⟩]) (.seq (.cond (.t 81) (.skip) (.exit 2)) (.seq (.block 3 (.seq (.region false [
 ⟨(some (82)), .mov (.t 80), none, 0⟩,
 ⟨(some (83)), .iaddr 5 (.t 78) (.t 80), none, 0⟩,
 ⟨(some (84)), .load (some (5)) (.t 83), none, 0⟩,
 ⟨(some (12)), .alloc 1345152192 [.bool false, .nils, .nils, .nils, .bool false], none, 0⟩,
 ⟨(some (11)), .mov (.t 82), none, 0⟩,
 ⟨none, .store 5 (.t 12) (.t 84), none, 0⟩]) (.seq (.region false [
 ⟨(some (85)), .faddr 1 (.t 12), none, 0⟩,
 ⟨(some (86)), .load none (.t 85), none, 0⟩,
 ⟨(some (87)), .llen (.t 86), none, 0⟩,
 ⟨(some (88)), .mov (.i 0), none, 0⟩]) (.block 4 (.loop i21_l2))))) i21_r3)))
def i21_r5 : ICode :=
(.seq (.region false [
 ⟨(some (101)), .mov (.t 6), none, 0⟩,
 ⟨(some (2)), .mov (.t 101), none, 0⟩,
 ⟨(some (3)), .mov (.i 0), none, 0⟩]) (.ret))
def i21_r6 : ICode :=
(.seq (.seq (.region false [
 ⟨(some (78)), .mov (.t 4), none, 0⟩,
 ⟨(some (79)), .llen (.t 78), none, 0⟩,
 ⟨(some (80)), .mov (.i 0), none, 0⟩]) (.block 2 (.loop i21_l4))) i21_r5)
def i21 : IFn :=
⟨102, [(2, none), (3, none)],
 (.seq (.region false [
 ⟨(some (1)), .box 1344000000 (.t 0), none, 0⟩,
 ⟨(some (2)), .mov (.k (.one (.p (.nilp)))), none, 0⟩,
 ⟨(some (3)), .mov (.i 0), none, 0⟩]) (.seq (.region false [
 ⟨(some (16)), .load (some (2)) (.t 1), none, 0⟩,
 ⟨(some (17)), .call 1344064064 (.k (.one (.p (.fn 39 [] [])))) [.t 16], none, 0⟩,
 ⟨(some (15)), .mov (.t 17), none, 0⟩,
 ⟨(some (18)), .extract (.t 15) 0, none, 0⟩,
 ⟨(some (19)), .extract (.t 15) 1, none, 0⟩,
 ⟨(some (4)), .mov (.t 18), none, 0⟩,
 ⟨(some (5)), .mov (.t 19), none, 0⟩]) (.seq (.seq (.region false [
 ⟨(some (20)), .mov (.t 5), none, 0⟩,
 ⟨(some (21)), .bin .neq (.t 20) (.i 0), none, 0⟩]) (.cond (.t 21) (.seq (.region false [
 ⟨(some (22)), .mov (.t 5), none, 0⟩,
 ⟨(some (2)), .mov (.k (.one (.p (.nilp)))), none, 0⟩,
 ⟨(some (3)), .mov (.t 22), none, 0⟩]) (.ret)) (.skip))) (.seq (.region true [
 ⟨(some (23)), .faddr 0 (.t 1), none, 0⟩,
 ⟨(some (24)), .load none (.t 23), none, 1⟩,
 ⟨(some (25)), .mov (.t 4), none, 0⟩,
 ⟨(some (26)), .faddr 1 (.t 1), none, 0⟩,
 ⟨(some (27)), .load none (.t 26), none, 8⟩,
 ⟨(some (28)), .llen (.t 27), none, 24⟩,
 ⟨(some (29)), .bin .mul (.i 2) (.t 28), none, 56⟩,
 ⟨(some (30)), .mkslice 1344256448 3 1 8 [.int .i64 0] (.t 29) (.t 29), none, 120⟩,
 ⟨(some (31)), .load (some (2)) (.t 1), none, 0⟩,
 ⟨(some (32)), .call 1344256576 (.k (.one (.p (.fn 40 [] [])))) [.t 31], none, 256⟩,
 ⟨(some (33)), .load (some (2)) (.t 1), none, 0⟩,
 ⟨(some (34)), .call 1344256704 (.k (.one (.p (.fn 41 [] [])))) [.t 33], none, 1792⟩,
 ⟨(some (35)), .faddr 0 (.t 1), none, 0⟩,
 ⟨(some (36)), .load none (.t 35), none, 4096⟩,
 ⟨(some (37)), .bin .add (.t 36) (.i 1), none, 12288⟩,
 ⟨(some (38)), .mkslice 1344256960 3 1 8 [.int .i64 0] (.t 37) (.t 37), none, 28672⟩,
 ⟨(some (39)), .build [.int .i64 0, .nils, .nils, .nils, .int .i64 0, .int .i64 0, .nils] [(0, 1, .t 24), (2, 1, .t 25), (3, 1, .t 30), (4, 1, .t 32), (5, 1, .t 34), (6, 1, .t 38)], none, 65535⟩,
 ⟨(some (40)), .box 1344257088 (.t 39), none, 131071⟩,
 ⟨(some (6)), .mov (.t 40), none, 262143⟩]) (.seq (.region false [
 ⟨(some (7)), .mov (.b true), none, 0⟩]) (.seq (.seq (.region false [
 ⟨(some (41)), .faddr 1 (.t 1), none, 0⟩,
 ⟨(some (42)), .load none (.t 41), none, 0⟩,
 ⟨(some (43)), .llen (.t 42), none, 0⟩,
 ⟨(some (44)), .mov (.i 0), none, 0⟩]) (.block 0 (.loop i21_l1))) i21_r6))))))⟩
def i6 : IFn :=
⟨22, [(4, some (some (2))), (5, none)],
 (.seq (.region false [
 ⟨(some (2)), .box 384000000 (.t 0), none, 0⟩,
 ⟨(some (3)), .box 384000064 (.t 1), none, 0⟩,
 ⟨(some (4)), .alloc 384000128 [.int .i64 0, .nils], none, 0⟩,
 ⟨(some (5)), .mov (.i 0), none, 0⟩]) (.seq (.region false [
 ⟨(some (9)), .load (some (2)) (.t 2), none, 0⟩,
 ⟨(some (10)), .call 384064064 (.k (.one (.p (.fn 21 [] [])))) [.t 9], none, 0⟩,
 ⟨(some (8)), .mov (.t 10), none, 0⟩,
 ⟨(some (11)), .extract (.t 8) 0, none, 0⟩,
 ⟨(some (12)), .extract (.t 8) 1, none, 0⟩,
 ⟨(some (6)), .mov (.t 11), none, 0⟩,
 ⟨(some (7)), .mov (.t 12), none, 0⟩]) (.seq (.seq (.region false [
 ⟨(some (13)), .mov (.t 7), none, 0⟩,
 ⟨(some (14)), .bin .neq (.t 13) (.i 0), none, 0⟩]) (.cond (.t 14) (.seq (.region false [
 ⟨(some (15)), .build [.int .i64 0, .nils] [], none, 0⟩,
 ⟨(some (16)), .mov (.t 7), none, 0⟩,
 ⟨none, .store 2 (.t 4) (.t 15), none, 0⟩,
 ⟨(some (5)), .mov (.t 16), none, 0⟩]) (.ret)) (.skip))) (.seq (.region false [
 ⟨(some (17)), .mov (.t 6), none, 0⟩,
 ⟨(some (18)), .load (some (7)) (.t 3), none, 0⟩,
 ⟨(some (19)), .call 384256128 (.k (.one (.p (.fn 22 [] [])))) [.t 17, .t 18], none, 0⟩,
 ⟨(some (20)), .extract (.t 19) 0, none, 0⟩,
 ⟨(some (21)), .extract (.t 19) 1, none, 0⟩,
 ⟨none, .store 2 (.t 4) (.t 20), none, 0⟩,
 ⟨(some (5)), .mov (.t 21), none, 0⟩]) (.ret)))))⟩
def i8 : IFn :=
⟨25, [(4, none), (5, none)],
 (.seq (.region false [
 ⟨(some (2)), .box 512000000 (.t 0), none, 0⟩,
 ⟨(some (4)), .mov (.k (.one (.p (.nils)))), none, 0⟩,
 ⟨(some (5)), .mov (.i 0), none, 0⟩]) (.seq (.region false [
 ⟨(some (11)), .load (some (2)) (.t 2), none, 0⟩,
 ⟨(some (12)), .call 512064064 (.k (.one (.p (.fn 21 [] [])))) [.t 11], none, 0⟩,
 ⟨(some (10)), .mov (.t 12), none, 0⟩,
 ⟨(some (13)), .extract (.t 10) 0, none, 0⟩,
 ⟨(some (14)), .extract (.t 10) 1, none, 0⟩,
 ⟨(some (6)), .mov (.t 13), none, 0⟩,
 ⟨(some (7)), .mov (.t 14), none, 0⟩]) (.seq (.seq (.region false [
 ⟨(some (15)), .mov (.t 7), none, 0⟩,
 ⟨(some (16)), .bin .neq (.t 15) (.i 0), none, 0⟩]) (.cond (.t 16) (.seq (.region false [
 ⟨(some (17)), .mov (.t 7), none, 0⟩,
 ⟨(some (4)), .mov (.k (.one (.p (.nils)))), none, 0⟩,
 ⟨(some (5)), .mov (.t 17), none, 0⟩]) (.ret)) (.skip))) (.seq (.region false [
 ⟨(some (19)), .mov (.t 6), none, 0⟩,
 ⟨(some (20)), .mov (.t 1), none, 0⟩,
 ⟨(some (21)), .call 512256128 (.k (.one (.p (.fn 23 [] [])))) [.t 19, .t 20], none, 0⟩,
 ⟨(some (18)), .mov (.t 21), none, 0⟩,
 ⟨(some (22)), .extract (.t 18) 0, none, 0⟩,
 ⟨(some (23)), .extract (.t 18) 1, none, 0⟩,
 ⟨(some (8)), .mov (.t 22), none, 0⟩,
 ⟨(some (9)), .mov (.t 23), none, 0⟩]) (.seq (.region false [
 ⟨(some (24)), .mov (.t 8), none, 0⟩,
 ⟨(some (4)), .mov (.t 24), none, 0⟩,
 ⟨(some (5)), .mov (.i 0), none, 0⟩]) (.ret))))))⟩
def i7_l1 : ICode :=
(.seq (.seq (.region false [
 ⟨(some (6)), .mov (.t 5), none, 0⟩,
 ⟨(some (7)), .bin .leq (.t 6) (.i 10), none, 0⟩]) (.cond (.t 7) (.skip) (.exit 0))) (.seq (.block 1 (.region false [
 ⟨(some (10)), .mov (.t 4), none, 0⟩,
 ⟨(some (11)), .mov (.t 5), none, 0⟩,
 ⟨(some (12)), .bslice 448320128 25 1 [.t 11], none, 0⟩,
 ⟨(some (13)), .append 448320192 25 1 8 (.t 10) (.t 12), none, 0⟩,
 ⟨(some (4)), .mov (.t 13), none, 0⟩])) (.region false [
 ⟨(some (8)), .mov (.t 5), none, 0⟩,
 ⟨(some (9)), .bin .add (.t 8) (.i 1), none, 0⟩,
 ⟨(some (5)), .mov (.t 9), none, 0⟩])))
def i7_r2 : ICode :=
(.seq (.region false [
 ⟨(some (14)), .load (some (2)) (.t 1), none, 0⟩,
 ⟨(some (15)), .mov (.t 4), none, 0⟩,
 ⟨(some (16)), .call 448384128 (.k (.one (.p (.fn 8 [] [])))) [.t 14, .t 15], none, 0⟩,
 ⟨(some (17)), .extract (.t 16) 0, none, 0⟩,
 ⟨(some (18)), .extract (.t 16) 1, none, 0⟩,
 ⟨(some (2)), .mov (.t 17), none, 0⟩,
 ⟨(some (3)), .mov (.t 18), none, 0⟩]) (.ret))
def i7 : IFn :=
⟨19, [(2, none), (3, none)],
 (.seq (.region false [
 ⟨(some (1)), .box 448000000 (.t 0), none, 0⟩,
 ⟨(some (2)), .mov (.k (.one (.p (.nils)))), none, 0⟩,
 ⟨(some (3)), .mov (.i 0), none, 0⟩]) (.seq (.region false [
 ⟨(some (4)), .mov (.k (.one (.p (.nils)))), none, 0⟩]) (.seq (.seq (.region false [
 ⟨(some (5)), .mov (.i 1), none, 0⟩]) (.block 0 (.loop i7_l1))) i7_r2)))⟩
def i9 : IFn :=
⟨32, [(4, some (some (7))), (5, none)],
 (.seq (.region false [
 ⟨(some (2)), .box 576000000 (.t 0), none, 0⟩,
 ⟨(some (3)), .box 576000064 (.t 1), none, 0⟩,
 ⟨(some (4)), .alloc 576000128 [.int .i64 0, .int .i64 0, .int .i64 0, .int .i64 0, .bool false, .bool false, .int .i64 0], none, 0⟩,
 ⟨(some (5)), .mov (.i 0), none, 0⟩]) (.seq (.region false [
 ⟨(some (11)), .load (some (2)) (.t 2), none, 0⟩,
 ⟨(some (12)), .load (some (7)) (.t 3), none, 0⟩,
 ⟨(some (13)), .call 576064128 (.k (.one (.p (.fn 6 [] [])))) [.t 11, .t 12], none, 0⟩,
 ⟨(some (10)), .mov (.t 13), none, 0⟩,
 ⟨(some (14)), .extract (.t 10) 0, none, 0⟩,
 ⟨(some (15)), .extract (.t 10) 1, none, 0⟩,
 ⟨(some (6)), .alloc 576064384 [.int .i64 0, .nils], none, 0⟩,
 ⟨none, .store 2 (.t 6) (.t 14), none, 0⟩,
 ⟨(some (7)), .mov (.t 15), none, 0⟩]) (.seq (.seq (.region false [
 ⟨(some (16)), .mov (.t 7), none, 0⟩,
 ⟨(some (17)), .bin .neq (.t 16) (.i 0), none, 0⟩]) (.cond (.t 17) (.seq (.region false [
 ⟨(some (18)), .build [.int .i64 0, .int .i64 0, .int .i64 0, .int .i64 0, .bool false, .bool false, .int .i64 0] [], none, 0⟩,
 ⟨(some (19)), .mov (.t 7), none, 0⟩,
 ⟨none, .store 7 (.t 4) (.t 18), none, 0⟩,
 ⟨(some (5)), .mov (.t 19), none, 0⟩]) (.ret)) (.skip))) (.seq (.region true [
 ⟨(some (21)), .load (some (2)) (.t 6), none, 0⟩,
 ⟨(some (22)), .load (some (2)) (.t 2), none, 0⟩,
 ⟨(some (23)), .faddr 0 (.t 3), none, 0⟩,
 ⟨(some (24)), .load none (.t 23), none, 4⟩,
 ⟨(some (25)), .call 576256256 (.k (.one (.p (.fn 25 [] [])))) [.t 24], none, 12⟩,
 ⟨(some (26)), .call 576256320 (.k (.one (.p (.fn 24 [] [])))) [.t 21, .t 22, .t 25], none, 31⟩,
 ⟨(some (20)), .mov (.t 26), none, 63⟩,
 ⟨(some (27)), .extract (.t 20) 0, none, 127⟩,
 ⟨(some (28)), .extract (.t 20) 1, none, 127⟩,
 ⟨(some (29)), .extract (.t 20) 2, none, 127⟩,
 ⟨(some (8)), .alloc 576256640 [.int .i64 0, .int .i64 0, .int .i64 0, .int .i64 0, .bool false, .bool false, .int .i64 0], none, 0⟩,
 ⟨(some (9)), .alloc 576256704 [.int .i64 0, .nils], none, 0⟩,
 ⟨none, .store 7 (.t 8) (.t 27), none, 3327⟩,
 ⟨none, .store 2 (.t 9) (.t 28), none, 7679⟩,
 ⟨(some (7)), .mov (.t 29), none, 16383⟩]) (.seq (.region false [
 ⟨(some (30)), .load (some (7)) (.t 8), none, 0⟩,
 ⟨(some (31)), .mov (.t 7), none, 0⟩,
 ⟨none, .store 7 (.t 4) (.t 30), none, 0⟩,
 ⟨(some (5)), .mov (.t 31), none, 0⟩]) (.ret))))))⟩
def i10_l1 : ICode :=
(.seq (.region false [
 ⟨(some (25)), .bin .lss (.t 24) (.t 23), none, 0⟩]) (.seq (.cond (.t 25) (.skip) (.exit 0)) (.seq (.block 1 (.seq (.region false [
 ⟨(some (26)), .mov (.t 24), none, 0⟩,
 ⟨(some (27)), .iaddr 7 (.t 22) (.t 24), none, 0⟩,
 ⟨(some (28)), .load (some (7)) (.t 27), none, 0⟩,
 ⟨(some (9)), .alloc 640448192 [.int .i64 0, .int .i64 0, .int .i64 0, .int .i64 0, .bool false, .bool false, .int .i64 0], none, 0⟩,
 ⟨(some (8)), .mov (.t 26), none, 0⟩,
 ⟨none, .store 7 (.t 9) (.t 28), none, 0⟩]) (.seq (.region false [
 ⟨(some (30)), .load (some (2)) (.t 2), none, 0⟩,
 ⟨(some (31)), .load (some (7)) (.t 9), none, 0⟩,
 ⟨(some (32)), .call 640512128 (.k (.one (.p (.fn 6 [] [])))) [.t 30, .t 31], none, 0⟩,
 ⟨(some (29)), .mov (.t 32), none, 0⟩,
 ⟨(some (33)), .extract (.t 29) 0, none, 0⟩,
 ⟨(some (34)), .extract (.t 29) 1, none, 0⟩,
 ⟨(some (10)), .alloc 640512384 [.int .i64 0, .nils], none, 0⟩,
 ⟨none, .store 2 (.t 10) (.t 33), none, 0⟩,
 ⟨(some (11)), .mov (.t 34), none, 0⟩]) (.seq (.seq (.region false [
 ⟨(some (35)), .mov (.t 11), none, 0⟩,
 ⟨(some (36)), .bin .neq (.t 35) (.i 0), none, 0⟩]) (.cond (.t 36) (.seq (.region false [
 ⟨(some (37)), .build [.int .i64 0, .nils] [], none, 0⟩,
 ⟨(some (38)), .mov (.t 8), none, 0⟩,
 ⟨(some (39)), .mov (.t 11), none, 0⟩,
 ⟨none, .store 2 (.t 4) (.t 37), none, 0⟩,
 ⟨(some (5)), .mov (.t 38), none, 0⟩,
 ⟨(some (6)), .mov (.t 39), none, 0⟩]) (.ret)) (.skip))) (.region false [
 ⟨(some (40)), .load (some (2)) (.t 10), none, 0⟩,
 ⟨none, .store 2 (.t 2) (.t 40), none, 0⟩]))))) (.region false [
 ⟨(some (41)), .bin .add (.t 24) (.i 1), none, 0⟩,
 ⟨(some (24)), .mov (.t 41), none, 0⟩]))))
def i10_r2 : ICode :=
(.seq (.region false [
 ⟨(some (42)), .load (some (2)) (.t 2), none, 0⟩,
 ⟨(some (43)), .mov (.t 1), none, 0⟩,
 ⟨(some (44)), .llen (.t 43), none, 0⟩,
 ⟨none, .store 2 (.t 4) (.t 42), none, 0⟩,
 ⟨(some (5)), .mov (.t 44), none, 0⟩,
 ⟨(some (6)), .mov (.i 0), none, 0⟩]) (.ret))
def i10 : IFn :=
⟨45, [(4, some (some (2))), (5, none), (6, none)],
 (.seq (.region false [
 ⟨(some (2)), .box 640000000 (.t 0), none, 0⟩,
 ⟨(some (4)), .alloc 640000064 [.int .i64 0, .nils], none, 0⟩,
 ⟨(some (5)), .mov (.i 0), none, 0⟩,
 ⟨(some (6)), .mov (.i 0), none, 0⟩]) (.seq (.seq (.region false [
 ⟨(some (12)), .load (some (2)) (.t 2), none, 0⟩,
 ⟨(some (13)), .call 640064064 (.k (.one (.p (.fn 26 [] [])))) [.t 12], none, 0⟩,
 ⟨(some (7)), .mov (.t 13), none, 0⟩]) (.seq (.region false [
 ⟨(some (14)), .mov (.t 7), none, 0⟩,
 ⟨(some (15)), .bin .neq (.t 14) (.i 0), none, 0⟩]) (.cond (.t 15) (.seq (.region false [
 ⟨(some (16)), .build [.int .i64 0, .nils] [], none, 0⟩,
 ⟨(some (17)), .mov (.t 7), none, 0⟩,
 ⟨none, .store 2 (.t 4) (.t 16), none, 0⟩,
 ⟨(some (5)), .mov (.i 0), none, 0⟩,
 ⟨(some (6)), .mov (.t 17), none, 0⟩]) (.ret)) (.skip)))) (.seq (.region false [
 ⟨(some (18)), .faddr 1 (.t 2), none, 0⟩,
 ⟨(some (19)), .load none (.t 18), none, 0⟩,
 ⟨(some (20)), .call 640256128 (.k (.one (.p (.fn 27 [] [])))) [.t 19], none, 0⟩,
 ⟨(some (21)), .faddr 1 (.t 2), none, 0⟩,
 ⟨none, .store 1 (.t 21) (.t 20), none, 0⟩]) (.seq (.seq (.region false [
 ⟨(some (22)), .mov (.t 1), none, 0⟩,
 ⟨(some (23)), .llen (.t 22), none, 0⟩,
 ⟨(some (24)), .mov (.i 0), none, 0⟩]) (.block 0 (.loop i10_l1))) i10_r2))))⟩
def i11_l1 : ICode :=
(.seq (.region false [
 ⟨(some (28)), .bin .lss (.t 27) (.t 26), none, 0⟩]) (.seq (.cond (.t 28) (.skip) (.exit 0)) (.seq (.block 1 (.seq (.region false [
 ⟨(some (29)), .iaddr 7 (.t 25) (.t 27), none, 0⟩,
 ⟨(some (30)), .load (some (7)) (.t 29), none, 0⟩,
 ⟨(some (9)), .alloc 704448128 [.int .i64 0, .int .i64 0, .int .i64 0, .int .i64 0, .bool false, .bool false, .int .i64 0], none, 0⟩,
 ⟨none, .store 7 (.t 9) (.t 30), none, 0⟩]) (.seq (.region true [
 ⟨(some (32)), .mov (.t 7), none, 0⟩,
 ⟨(some (33)), .mov (.t 7), none, 0⟩,
 ⟨(some (34)), .llen (.t 33), none, 2⟩,
 ⟨(some (35)), .bin .sub (.t 34) (.i 1), none, 6⟩,
 ⟨(some (36)), .iaddr 2 (.t 32) (.t 35), none, 15⟩,
 ⟨(some (37)), .load (some (2)) (.t 36), none, 31⟩,
 ⟨(some (38)), .load (some (7)) (.t 9), none, 0⟩,
 ⟨(some (39)), .call 704512448 (.k (.one (.p (.fn 6 [] [])))) [.t 37, .t 38], none, 127⟩,
 ⟨(some (31)), .mov (.t 39), none, 255⟩,
 ⟨(some (40)), .extract (.t 31) 0, none, 511⟩,
 ⟨(some (41)), .extract (.t 31) 1, none, 511⟩,
 ⟨(some (10)), .alloc 704512704 [.int .i64 0, .nils], none, 0⟩,
 ⟨none, .store 2 (.t 10) (.t 40), none, 3071⟩,
 ⟨(some (11)), .mov (.t 41), none, 8191⟩]) (.seq (.seq (.region false [
 ⟨(some (42)), .mov (.t 11), none, 0⟩,
 ⟨(some (43)), .bin .neq (.t 42) (.i 0), none, 0⟩]) (.cond (.t 43) (.seq (.region false [
 ⟨(some (44)), .mov (.t 11), none, 0⟩,
 ⟨(some (4)), .mov (.k (.one (.p (.nils)))), none, 0⟩,
 ⟨(some (5)), .mov (.t 44), none, 0⟩]) (.ret)) (.skip))) (.region false [
 ⟨(some (45)), .mov (.t 7), none, 0⟩,
 ⟨(some (46)), .load (some (2)) (.t 10), none, 0⟩,
 ⟨(some (47)), .bslice 704704128 24 2 [.t 46], none, 0⟩,
 ⟨(some (48)), .append 704704192 24 2 32 (.t 45) (.t 47), none, 0⟩,
 ⟨(some (7)), .mov (.t 48), none, 0⟩]))))) (.region false [
 ⟨(some (49)), .bin .add (.t 27) (.i 1), none, 0⟩,
 ⟨(some (27)), .mov (.t 49), none, 0⟩]))))
def i11_l2 : ICode :=
(.seq (.seq (.region false [
 ⟨(some (58)), .mov (.t 14), none, 0⟩,
 ⟨(some (59)), .bin .geq (.t 58) (.i 0), none, 0⟩]) (.cond (.t 59) (.skip) (.exit 2))) (.seq (.block 3 (.seq (.region true [
 ⟨(some (63)), .load (some (2)) (.t 13), none, 0⟩,
 ⟨(some (64)), .mov (.t 7), none, 0⟩,
 ⟨(some (65)), .mov (.t 14), none, 0⟩,
 ⟨(some (66)), .iaddr 2 (.t 64) (.t 65), none, 6⟩,
 ⟨(some (67)), .load (some (2)) (.t 66), none, 14⟩,
 ⟨(some (68)), .mov (.t 1), none, 0⟩,
 ⟨(some (69)), .mov (.t 14), none, 0⟩,
 ⟨(some (70)), .iaddr 7 (.t 68) (.t 69), none, 96⟩,
 ⟨(some (71)), .faddr 0 (.t 70), none, 224⟩,
 ⟨(some (72)), .load none (.t 71), none, 480⟩,
 ⟨(some (73)), .call 705152640 (.k (.one (.p (.fn 25 [] [])))) [.t 72], none, 992⟩,
 ⟨(some (74)), .call 705152704 (.k (.one (.p (.fn 24 [] [])))) [.t 63, .t 67, .t 73], none, 2047⟩,
 ⟨(some (62)), .mov (.t 74), none, 4095⟩,
 ⟨(some (75)), .extract (.t 62) 0, none, 8191⟩,
 ⟨(some (76)), .extract (.t 62) 1, none, 8191⟩,
 ⟨(some (77)), .extract (.t 62) 2, none, 8191⟩,
 ⟨(some (15)), .alloc 705153024 [.int .i64 0, .int .i64 0, .int .i64 0, .int .i64 0, .bool false, .bool false, .int .i64 0], none, 0⟩,
 ⟨(some (16)), .alloc 705153088 [.int .i64 0, .nils], none, 0⟩,
 ⟨none, .store 7 (.t 15) (.t 75), none, 212991⟩,
 ⟨none, .store 2 (.t 16) (.t 76), none, 491519⟩,
 ⟨(some (17)), .mov (.t 77), none, 1048575⟩]) (.seq (.seq (.region false [
 ⟨(some (78)), .mov (.t 17), none, 0⟩,
 ⟨(some (79)), .bin .neq (.t 78) (.i 0), none, 0⟩]) (.cond (.t 79) (.seq (.region false [
 ⟨(some (80)), .mov (.t 17), none, 0⟩,
 ⟨(some (4)), .mov (.k (.one (.p (.nils)))), none, 0⟩,
 ⟨(some (5)), .mov (.t 80), none, 0⟩]) (.ret)) (.skip))) (.region true [
 ⟨(some (81)), .mov (.t 12), none, 0⟩,
 ⟨(some (82)), .load (some (7)) (.t 15), none, 0⟩,
 ⟨(some (83)), .bslice 705344128 27 7 [.t 82], none, 2⟩,
 ⟨(some (84)), .append 705344192 27 7 48 (.t 81) (.t 83), none, 7⟩,
 ⟨(some (85)), .load (some (2)) (.t 16), none, 0⟩,
 ⟨(some (12)), .mov (.t 84), none, 15⟩,
 ⟨none, .store 2 (.t 13) (.t 85), none, 63⟩])))) (.region false [
 ⟨(some (60)), .mov (.t 14), none, 0⟩,
 ⟨(some (61)), .bin .sub (.t 60) (.i 1), none, 0⟩,
 ⟨(some (14)), .mov (.t 61), none, 0⟩])))
def i11_r3 : ICode :=
(.seq (.region false [
 ⟨(some (86)), .mov (.t 12), none, 0⟩,
 ⟨(some (4)), .mov (.t 86), none, 0⟩,
 ⟨(some (5)), .mov (.i 0), none, 0⟩]) (.ret))
def i11_r4 : ICode :=
(.seq (.region false [
 ⟨(some (12)), .mov (.k (.one (.p (.nils)))), none, 0⟩]) (.seq (.region false [
 ⟨(some (50)), .mov (.t 7), none, 0⟩,
 ⟨(some (51)), .mov (.t 1), none, 0⟩,
 ⟨(some (52)), .llen (.t 51), none, 0⟩,
 ⟨(some (53)), .iaddr 2 (.t 50) (.t 52), none, 0⟩,
 ⟨(some (54)), .load (some (2)) (.t 53), none, 0⟩,
 ⟨(some (13)), .alloc 704896320 [.int .i64 0, .nils], none, 0⟩,
 ⟨none, .store 2 (.t 13) (.t 54), none, 0⟩]) (.seq (.seq (.region false [
 ⟨(some (55)), .mov (.t 1), none, 0⟩,
 ⟨(some (56)), .llen (.t 55), none, 0⟩,
 ⟨(some (57)), .bin .sub (.t 56) (.i 1), none, 0⟩,
 ⟨(some (14)), .mov (.t 57), none, 0⟩]) (.block 2 (.loop i11_l2))) i11_r3)))
def i11 : IFn :=
⟨87, [(4, none), (5, none)],
 (.seq (.region false [
 ⟨(some (2)), .box 704000000 (.t 0), none, 0⟩,
 ⟨(some (4)), .mov (.k (.one (.p (.nils)))), none, 0⟩,
 ⟨(some (5)), .mov (.i 0), none, 0⟩]) (.seq (.seq (.region false [
 ⟨(some (18)), .load (some (2)) (.t 2), none, 0⟩,
 ⟨(some (19)), .call 704064064 (.k (.one (.p (.fn 26 [] [])))) [.t 18], none, 0⟩,
 ⟨(some (6)), .mov (.t 19), none, 0⟩]) (.seq (.region false [
 ⟨(some (20)), .mov (.t 6), none, 0⟩,
 ⟨(some (21)), .bin .neq (.t 20) (.i 0), none, 0⟩]) (.cond (.t 21) (.seq (.region false [
 ⟨(some (22)), .mov (.t 6), none, 0⟩,
 ⟨(some (4)), .mov (.k (.one (.p (.nils)))), none, 0⟩,
 ⟨(some (5)), .mov (.t 22), none, 0⟩]) (.ret)) (.skip)))) (.seq (.region false [
 ⟨(some (23)), .load (some (2)) (.t 2), none, 0⟩,
 ⟨(some (24)), .bslice 704256064 24 2 [.t 23], none, 0⟩,
 ⟨(some (7)), .mov (.t 24), none, 0⟩]) (.seq (.seq (.region false [
 ⟨(some (25)), .mov (.t 1), none, 0⟩,
 ⟨(some (26)), .llen (.t 25), none, 0⟩,
 ⟨(some (27)), .mov (.i 0), none, 0⟩]) (.block 0 (.loop i11_l1))) i11_r4))))⟩
def i3 : IFn :=
⟨128, [(4, none)],
 (.seq (.region false [
 ⟨(some (2)), .box 192000000 (.t 0), none, 0⟩,
 ⟨(some (3)), .box 192000064 (.t 1), none, 0⟩,
 ⟨(some (4)), .mov (.b false), none, 0⟩]) (.seq (.seq (.region false [
 ⟨(some (19)), .faddr 1 (.t 2), none, 0⟩,
 ⟨(some (20)), .load none (.t 19), none, 0⟩,
 ⟨(some (21)), .llen (.t 20), none, 0⟩,
 ⟨(some (22)), .bin .gtr (.t 21) (.i 40), none, 0⟩,
 ⟨(some (23)), .mov (.t 22), none, 0⟩,
 ⟨(some (24)), .load (some (2)) (.t 2), (some (23, false)), 0⟩,
 ⟨(some (25)), .call 192064384 (.k (.one (.p (.fn 4 [] [])))) [.t 24], (some (23, false)), 0⟩,
 ⟨(some (26)), .bin .eql (.t 25) (.i 0), (some (23, false)), 0⟩,
 ⟨(some (27)), .pick (.t 23) (.b true) (.t 26), none, 0⟩]) (.cond (.t 27) (.seq (.region false [
 ⟨(some (28)), .call 192128000 (.k (.one (.p (.fn 5 [] [])))) [], none, 0⟩,
 ⟨(some (4)), .mov (.t 28), none, 0⟩]) (.ret)) (.skip))) (.seq (.region false [
 ⟨(some (29)), .load (some (2)) (.t 2), none, 0⟩,
 ⟨(some (30)), .call 192192064 (.k (.one (.p (.fn 4 [] [])))) [.t 29], none, 0⟩,
 ⟨(some (5)), .mov (.t 30), none, 0⟩]) (.seq (.region false [
 ⟨(some (32)), .load (some (2)) (.t 2), none, 0⟩,
 ⟨(some (33)), .load (some (7)) (.t 3), none, 0⟩,
 ⟨(some (34)), .call 192256128 (.k (.one (.p (.fn 6 [] [])))) [.t 32, .t 33], none, 0⟩,
 ⟨(some (31)), .mov (.t 34), none, 0⟩,
 ⟨(some (35)), .extract (.t 31) 0, none, 0⟩,
 ⟨(some (36)), .extract (.t 31) 1, none, 0⟩,
 ⟨(some (6)), .alloc 192256384 [.int .i64 0, .nils], none, 0⟩,
 ⟨none, .store 2 (.t 6) (.t 35), none, 0⟩,
 ⟨(some (7)), .mov (.t 36), none, 0⟩]) (.seq (.region false [
 ⟨(some (38)), .load (some (2)) (.t 2), none, 0⟩,
 ⟨(some (39)), .call 192320064 (.k (.one (.p (.fn 7 [] [])))) [.t 38], none, 0⟩,
 ⟨(some (37)), .mov (.t 39), none, 0⟩,
 ⟨(some (40)), .extract (.t 37) 0, none, 0⟩,
 ⟨(some (41)), .extract (.t 37) 1, none, 0⟩,
 ⟨(some (8)), .mov (.t 40), none, 0⟩,
 ⟨(some (9)), .mov (.t 41), none, 0⟩]) (.seq (.region false [
 ⟨(some (43)), .load (some (2)) (.t 2), none, 0⟩,
 ⟨(some (44)), .faddr 0 (.t 3), none, 0⟩,
 ⟨(some (45)), .load none (.t 44), none, 0⟩,
 ⟨(some (46)), .bslice 192384192 25 1 [.t 45], none, 0⟩,
 ⟨(some (47)), .call 192384256 (.k (.one (.p (.fn 8 [] [])))) [.t 43, .t 46], none, 0⟩,
 ⟨(some (42)), .mov (.t 47), none, 0⟩,
 ⟨(some (48)), .extract (.t 42) 0, none, 0⟩,
 ⟨(some (49)), .extract (.t 42) 1, none, 0⟩,
 ⟨(some (10)), .mov (.t 48), none, 0⟩,
 ⟨(some (11)), .mov (.t 49), none, 0⟩]) (.seq (.region false [
 ⟨(some (51)), .load (some (2)) (.t 2), none, 0⟩,
 ⟨(some (52)), .load (some (7)) (.t 3), none, 0⟩,
 ⟨(some (53)), .call 192448128 (.k (.one (.p (.fn 9 [] [])))) [.t 51, .t 52], none, 0⟩,
 ⟨(some (50)), .mov (.t 53), none, 0⟩,
 ⟨(some (54)), .extract (.t 50) 0, none, 0⟩,
 ⟨(some (55)), .extract (.t 50) 1, none, 0⟩,
 ⟨(some (12)), .alloc 192448384 [.int .i64 0, .int .i64 0, .int .i64 0, .int .i64 0, .bool false, .bool false, .int .i64 0], none, 0⟩,
 ⟨none, .store 7 (.t 12) (.t 54), none, 0⟩,
 ⟨(some (13)), .mov (.t 55), none, 0⟩]) (.seq (.region false [
 ⟨(some (57)), .load (some (2)) (.t 2), none, 0⟩,
 ⟨(some (58)), .call 192512064 (.k (.one (.p (.fn 10 [] [])))) [.t 57, .k (.one (.p (.nils)))], none, 0⟩,
 ⟨(some (56)), .mov (.t 58), none, 0⟩,
 ⟨(some (59)), .extract (.t 56) 0, none, 0⟩,
 ⟨(some (60)), .extract (.t 56) 1, none, 0⟩,
 ⟨(some (61)), .extract (.t 56) 2, none, 0⟩,
 ⟨(some (14)), .alloc 192512384 [.int .i64 0, .nils], none, 0⟩,
 ⟨none, .store 2 (.t 14) (.t 59), none, 0⟩,
 ⟨(some (15)), .mov (.t 60), none, 0⟩,
 ⟨(some (16)), .mov (.t 61), none, 0⟩]) (.seq (.region false [
 ⟨(some (63)), .load (some (2)) (.t 2), none, 0⟩,
 ⟨(some (64)), .load (some (7)) (.t 3), none, 0⟩,
 ⟨(some (65)), .bslice 192576128 27 7 [.t 64], none, 0⟩,
 ⟨(some (66)), .call 192576192 (.k (.one (.p (.fn 11 [] [])))) [.t 63, .t 65], none, 0⟩,
 ⟨(some (62)), .mov (.t 66), none, 0⟩,
 ⟨(some (67)), .extract (.t 62) 0, none, 0⟩,
 ⟨(some (68)), .extract (.t 62) 1, none, 0⟩,
 ⟨(some (17)), .mov (.t 67), none, 0⟩,
 ⟨(some (18)), .mov (.t 68), none, 0⟩]) (.seq (.seq (.region false [
 ⟨(some (69)), .mov (.t 7), none, 0⟩,
 ⟨(some (70)), .mov (.t 5), none, 0⟩,
 ⟨(some (71)), .bin .neq (.t 69) (.t 70), none, 0⟩,
 ⟨(some (72)), .mov (.t 71), none, 0⟩,
 ⟨(some (73)), .mov (.t 9), (some (72, false)), 0⟩,
 ⟨(some (74)), .mov (.t 5), (some (72, false)), 0⟩,
 ⟨(some (75)), .bin .neq (.t 73) (.t 74), (some (72, false)), 0⟩,
 ⟨(some (76)), .pick (.t 72) (.b true) (.t 75), none, 0⟩,
 ⟨(some (77)), .mov (.t 76), none, 0⟩,
 ⟨(some (78)), .mov (.t 11), (some (77, false)), 0⟩,
 ⟨(some (79)), .mov (.t 5), (some (77, false)), 0⟩,
 ⟨(some (80)), .bin .neq (.t 78) (.t 79), (some (77, false)), 0⟩,
 ⟨(some (81)), .pick (.t 77) (.b true) (.t 80), none, 0⟩,
 ⟨(some (82)), .mov (.t 81), none, 0⟩,
 ⟨(some (83)), .mov (.t 13), (some (82, false)), 0⟩,
 ⟨(some (84)), .mov (.t 5), (some (82, false)), 0⟩,
 ⟨(some (85)), .bin .neq (.t 83) (.t 84), (some (82, false)), 0⟩,
 ⟨(some (86)), .pick (.t 82) (.b true) (.t 85), none, 0⟩,
 ⟨(some (87)), .mov (.t 86), none, 0⟩,
 ⟨(some (88)), .mov (.t 16), (some (87, false)), 0⟩,
 ⟨(some (89)), .mov (.t 5), (some (87, false)), 0⟩,
 ⟨(some (90)), .bin .neq (.t 88) (.t 89), (some (87, false)), 0⟩,
 ⟨(some (91)), .pick (.t 87) (.b true) (.t 90), none, 0⟩,
 ⟨(some (92)), .mov (.t 91), none, 0⟩,
 ⟨(some (93)), .mov (.t 18), (some (92, false)), 0⟩,
 ⟨(some (94)), .mov (.t 5), (some (92, false)), 0⟩,
 ⟨(some (95)), .bin .neq (.t 93) (.t 94), (some (92, false)), 0⟩,
 ⟨(some (96)), .pick (.t 92) (.b true) (.t 95), none, 0⟩]) (.cond (.t 96) (.seq (.region false [
 ⟨(some (4)), .mov (.b false), none, 0⟩]) (.ret)) (.skip))) (.seq (.region false [
 ⟨(some (97)), .load (some (2)) (.t 6), none, 0⟩,
 ⟨(some (98)), .build [.int .i64 0, .nils] [], none, 0⟩,
 ⟨(some (99)), .call 192768128 (.k (.one (.p (.fn 12 [] [])))) [.t 97, .t 98], none, 0⟩,
 ⟨(some (100)), .mov (.t 99), none, 0⟩,
 ⟨(some (101)), .mov (.t 8), (some (100, true)), 0⟩,
 ⟨(some (102)), .llen (.t 101), (some (100, true)), 0⟩,
 ⟨(some (103)), .mov (.t 10), (some (100, true)), 0⟩,
 ⟨(some (104)), .llen (.t 103), (some (100, true)), 0⟩,
 ⟨(some (105)), .bin .add (.t 102) (.t 104), (some (100, true)), 0⟩,
 ⟨(some (106)), .mov (.t 17), (some (100, true)), 0⟩,
 ⟨(some (107)), .llen (.t 106), (some (100, true)), 0⟩,
 ⟨(some (108)), .bin .add (.t 105) (.t 107), (some (100, true)), 0⟩,
 ⟨(some (109)), .bin .eql (.t 108) (.i 0), (some (100, true)), 0⟩,
 ⟨(some (110)), .pick (.t 100) (.t 109) (.b false), none, 0⟩,
 ⟨(some (111)), .mov (.t 110), none, 0⟩,
 ⟨(some (112)), .load (some (7)) (.t 12), (some (111, true)), 0⟩,
 ⟨(some (113)), .build [.int .i64 0, .int .i64 0, .int .i64 0, .int .i64 0, .bool false, .bool false, .int .i64 0] [], (some (111, true)), 0⟩,
 ⟨(some (114)), .eqc (.str [true, true, true, true, false, false, true]) false (.t 112) (.t 113), (some (111, true)), 0⟩,
 ⟨(some (115)), .pick (.t 111) (.t 114) (.b false), none, 0⟩,
 ⟨(some (116)), .mov (.t 115), none, 0⟩,
 ⟨(some (117)), .load (some (2)) (.t 14), (some (116, true)), 0⟩,
 ⟨(some (118)), .build [.int .i64 0, .nils] [], (some (116, true)), 0⟩,
 ⟨(some (119)), .call 192769408 (.k (.one (.p (.fn 12 [] [])))) [.t 117, .t 118], (some (116, true)), 0⟩,
 ⟨(some (120)), .pick (.t 116) (.t 119) (.b false), none, 0⟩,
 ⟨(some (121)), .mov (.t 120), none, 0⟩,
 ⟨(some (122)), .mov (.t 15), (some (121, true)), 0⟩,
 ⟨(some (123)), .bin .eql (.t 122) (.i 0), (some (121, true)), 0⟩,
 ⟨(some (124)), .pick (.t 121) (.t 123) (.b false), none, 0⟩,
 ⟨(some (125)), .mov (.t 124), none, 0⟩,
 ⟨(some (126)), .call 192769856 (.k (.one (.p (.fn 5 [] [])))) [], (some (125, true)), 0⟩,
 ⟨(some (127)), .pick (.t 125) (.t 126) (.b false), none, 0⟩,
 ⟨(some (4)), .mov (.t 127), none, 0⟩]) (.ret))))))))))))⟩
def i12_l1 : ICode :=
(.seq (.seq (.region false [
 ⟨(some (20)), .mov (.t 5), none, 0⟩,
 ⟨(some (21)), .faddr 1 (.t 2), none, 0⟩,
 ⟨(some (22)), .load none (.t 21), none, 0⟩,
 ⟨(some (23)), .llen (.t 22), none, 0⟩,
 ⟨(some (24)), .bin .lss (.t 20) (.t 23), none, 0⟩]) (.cond (.t 24) (.skip) (.exit 0))) (.seq (.block 1 (.seq (.region true [
 ⟨(some (27)), .faddr 1 (.t 2), none, 0⟩,
 ⟨(some (28)), .load none (.t 27), none, 1⟩,
 ⟨(some (29)), .mov (.t 5), none, 0⟩,
 ⟨(some (30)), .iaddr 6 (.t 28) (.t 29), none, 7⟩,
 ⟨(some (31)), .load (some (6)) (.t 30), none, 15⟩,
 ⟨(some (32)), .faddr 1 (.t 3), none, 0⟩,
 ⟨(some (33)), .load none (.t 32), none, 32⟩,
 ⟨(some (34)), .mov (.t 5), none, 0⟩,
 ⟨(some (35)), .iaddr 6 (.t 33) (.t 34), none, 224⟩,
 ⟨(some (36)), .load (some (6)) (.t 35), none, 480⟩,
 ⟨(some (37)), .eqc (.str [true, true, true, true, true, false]) true (.t 31) (.t 36), none, 1023⟩]) (.cond (.t 37) (.seq (.region false [
 ⟨(some (4)), .mov (.b false), none, 0⟩]) (.ret)) (.skip)))) (.region false [
 ⟨(some (25)), .mov (.t 5), none, 0⟩,
 ⟨(some (26)), .bin .add (.t 25) (.i 1), none, 0⟩,
 ⟨(some (5)), .mov (.t 26), none, 0⟩])))
def i12_r2 : ICode :=
(.seq (.region false [
 ⟨(some (4)), .mov (.b true), none, 0⟩]) (.ret))
def i12 : IFn :=
⟨38, [(4, none)],
 (.seq (.region false [
 ⟨(some (2)), .box 768000000 (.t 0), none, 0⟩,
 ⟨(some (3)), .box 768000064 (.t 1), none, 0⟩,
 ⟨(some (4)), .mov (.b false), none, 0⟩]) (.seq (.seq (.region false [
 ⟨(some (6)), .faddr 0 (.t 2), none, 0⟩,
 ⟨(some (7)), .load none (.t 6), none, 0⟩,
 ⟨(some (8)), .faddr 0 (.t 3), none, 0⟩,
 ⟨(some (9)), .load none (.t 8), none, 0⟩,
 ⟨(some (10)), .bin .neq (.t 7) (.t 9), none, 0⟩,
 ⟨(some (11)), .mov (.t 10), none, 0⟩,
 ⟨(some (12)), .faddr 1 (.t 2), (some (11, false)), 0⟩,
 ⟨(some (13)), .load none (.t 12), (some (11, false)), 0⟩,
 ⟨(some (14)), .llen (.t 13), (some (11, false)), 0⟩,
 ⟨(some (15)), .faddr 1 (.t 3), (some (11, false)), 0⟩,
 ⟨(some (16)), .load none (.t 15), (some (11, false)), 0⟩,
 ⟨(some (17)), .llen (.t 16), (some (11, false)), 0⟩,
 ⟨(some (18)), .bin .neq (.t 14) (.t 17), (some (11, false)), 0⟩,
 ⟨(some (19)), .pick (.t 11) (.b true) (.t 18), none, 0⟩]) (.cond (.t 19) (.seq (.region false [
 ⟨(some (4)), .mov (.b false), none, 0⟩]) (.ret)) (.skip))) (.seq (.seq (.region false [
 ⟨(some (5)), .mov (.i 0), none, 0⟩]) (.block 0 (.loop i12_l1))) i12_r2)))⟩
end Go.Abs
namespace Go.Abs
open Go.Proofs
set_option maxRecDepth 100000
def memN : List Nat → Nat → Bool
  | [], _ => false
  | a :: r, n => bif Nat.beq a n then true else memN r n
def lookN : List (Nat × List Nat) → Nat → List Nat
  | [], _ => []
  | (a, l) :: r, n => bif Nat.beq a n then l else lookN r n
def sharedT : List Nat := [62, 77, 82, 88, 89, 93, 102, 103, 106, 109, 117, 118, 128, 134, 135, 136, 137, 138, 139, 140, 141, 142, 146, 147, 157, 158, 159, 160, 161, 162, 164, 165, 166, 168, 169, 170, 171, 172, 173, 174, 175, 176, 177, 178, 182, 183, 184, 186, 187, 188, 189, 190, 191]
def sitesT : List (Nat × List Nat) := [(62, [62, 88, 89]), (77, [77, 106, 135, 136, 137, 138, 139, 140, 141, 142, 166, 168, 169, 170, 186]), (82, [82, 117, 118]), (88, [88]), (89, [89]), (93, [93]), (102, [102]), (103, [103, 134, 157, 158, 159, 160, 161, 162, 164, 165, 168, 182, 183, 184, 190]), (106, [106, 135, 136, 137, 138, 139, 140, 141, 142, 166, 168, 169, 170, 186]), (109, [109, 146, 168, 171, 172, 173, 174, 175, 176, 177, 178, 187, 188, 189, 191]), (117, [117]), (118, [118]), (128, [128]), (134, [134, 157, 158, 159, 160, 161, 162, 164, 165, 168, 182, 183, 184, 190]), (135, [135]), (136, [136, 166]), (137, [137, 168]), (138, [138, 169, 170, 186]), (139, [139]), (140, [140]), (141, [141]), (142, [142]), (146, [146, 168, 171, 172, 173, 174, 175, 176, 177, 178, 187, 188, 189, 191]), (147, [147]), (157, [157]), (158, [158, 182]), (159, [159, 168]), (160, [160, 183, 184, 190]), (161, [161]), (162, [162]), (164, [164]), (165, [165]), (166, [166]), (168, [168]), (169, [169, 170, 186]), (170, [170, 186]), (171, [171]), (172, [172, 187]), (173, [168, 173]), (174, [174, 188, 189, 191]), (175, [175]), (176, [176]), (177, [177]), (178, [178]), (182, [182]), (183, [183, 184, 190]), (184, [184, 190]), (186, [186]), (187, [187]), (188, [188, 189, 191]), (189, [189, 191]), (190, [190]), (191, [191])]
def loneT : List Nat := [81]
def prim0 (f : Nat) (args : List V) : Option (Option RV) :=
  bif Nat.beq f 36 then some (primItoa args)
  else bif Nat.beq f 38 then some (primJoin args)
  else bif Nat.beq f 107 then some (primBits args)
  else bif memN [27, 95] f then primClone args
  else none
noncomputable def S : Sys := { P := Tryz.prog, shared := memN sharedT, sites := lookN sitesT, lone := fun s => memN loneT (s / 64000000), fns := compF Tryz.prog, prim := prim0 }
theorem c26 : S.fns 26 = some i26 := by kernel_rfl
theorem s26 : S.shared 26 = false := by kernel_rfl
theorem c50 : S.fns 50 = some i50 := by kernel_rfl
theorem s50 : S.shared 50 = false := by kernel_rfl
theorem c63 : S.fns 63 = some i63 := by kernel_rfl
theorem s63 : S.shared 63 = false := by kernel_rfl
theorem c40 : S.fns 40 = some i40 := by kernel_rfl
theorem s40 : S.shared 40 = false := by kernel_rfl
theorem c41 : S.fns 41 = some i41 := by kernel_rfl
theorem s41 : S.shared 41 = false := by kernel_rfl
theorem c115 : S.fns 115 = some i115 := by kernel_rfl
theorem s115 : S.shared 115 = false := by kernel_rfl
theorem c150 : S.fns 150 = some i150 := by kernel_rfl
theorem s150 : S.shared 150 = false := by kernel_rfl
theorem c116 : S.fns 116 = some i116 := by kernel_rfl
theorem s116 : S.shared 116 = false := by kernel_rfl
theorem c117 : S.fns 117 = some i117 := by kernel_rfl
theorem s117 : S.shared 117 = true := by kernel_rfl
theorem c118 : S.fns 118 = some i118 := by kernel_rfl
theorem s118 : S.shared 118 = true := by kernel_rfl
theorem c119 : S.fns 119 = some i119 := by kernel_rfl
theorem s119 : S.shared 119 = false := by kernel_rfl
theorem c82 : S.fns 82 = some i82 := by kernel_rfl
theorem s82 : S.shared 82 = true := by kernel_rfl
theorem c86 : S.fns 86 = some i86 := by kernel_rfl
theorem s86 : S.shared 86 = false := by kernel_rfl
theorem c127 : S.fns 127 = some i127 := by kernel_rfl
theorem s127 : S.shared 127 = false := by kernel_rfl
theorem c126 : S.fns 126 = some i126 := by kernel_rfl
theorem s126 : S.shared 126 = false := by kernel_rfl
theorem c149 : S.fns 149 = some i149 := by kernel_rfl
theorem s149 : S.shared 149 = false := by kernel_rfl
theorem c179 : S.fns 179 = some i179 := by kernel_rfl
theorem s179 : S.shared 179 = false := by kernel_rfl
theorem c4 : S.fns 4 = some i4 := by kernel_rfl
theorem s4 : S.shared 4 = false := by kernel_rfl
theorem c14 : S.fns 14 = some i14 := by kernel_rfl
theorem s14 : S.shared 14 = false := by kernel_rfl
theorem c17 : S.fns 17 = some i17 := by kernel_rfl
theorem s17 : S.shared 17 = false := by kernel_rfl
theorem c13 : S.fns 13 = some i13 := by kernel_rfl
theorem s13 : S.shared 13 = false := by kernel_rfl
theorem c28 : S.fns 28 = some i28 := by kernel_rfl
theorem s28 : S.shared 28 = false := by kernel_rfl
theorem c53 : S.fns 53 = some i53 := by kernel_rfl
theorem s53 : S.shared 53 = false := by kernel_rfl
theorem c15 : S.fns 15 = some i15 := by kernel_rfl
theorem s15 : S.shared 15 = false := by kernel_rfl
theorem c29 : S.fns 29 = some i29 := by kernel_rfl
theorem s29 : S.shared 29 = false := by kernel_rfl
theorem c54 : S.fns 54 = some i54 := by kernel_rfl
theorem s54 : S.shared 54 = false := by kernel_rfl
theorem c51 : S.fns 51 = some i51 := by kernel_rfl
theorem s51 : S.shared 51 = false := by kernel_rfl
theorem c30 : S.fns 30 = some i30 := by kernel_rfl
theorem s30 : S.shared 30 = false := by kernel_rfl
theorem c55 : S.fns 55 = some i55 := by kernel_rfl
theorem s55 : S.shared 55 = false := by kernel_rfl
theorem c52 : S.fns 52 = some i52 := by kernel_rfl
theorem s52 : S.shared 52 = false := by kernel_rfl
theorem c31 : S.fns 31 = some i31 := by kernel_rfl
theorem s31 : S.shared 31 = false := by kernel_rfl
theorem c16 : S.fns 16 = some i16 := by kernel_rfl
theorem s16 : S.shared 16 = false := by kernel_rfl
theorem c39 : S.fns 39 = some i39 := by kernel_rfl
theorem s39 : S.shared 39 = false := by kernel_rfl
theorem c21 : S.fns 21 = some i21 := by kernel_rfl
theorem s21 : S.shared 21 = false := by kernel_rfl
theorem c6 : S.fns 6 = some i6 := by kernel_rfl
theorem s6 : S.shared 6 = false := by kernel_rfl
theorem c8 : S.fns 8 = some i8 := by kernel_rfl
theorem s8 : S.shared 8 = false := by kernel_rfl
theorem c7 : S.fns 7 = some i7 := by kernel_rfl
theorem s7 : S.shared 7 = false := by kernel_rfl
theorem c9 : S.fns 9 = some i9 := by kernel_rfl
theorem s9 : S.shared 9 = false := by kernel_rfl
theorem c10 : S.fns 10 = some i10 := by kernel_rfl
theorem s10 : S.shared 10 = false := by kernel_rfl
theorem c11 : S.fns 11 = some i11 := by kernel_rfl
theorem s11 : S.shared 11 = false := by kernel_rfl
theorem c3 : S.fns 3 = some i3 := by kernel_rfl
theorem s3 : S.shared 3 = false := by kernel_rfl
theorem c12 : S.fns 12 = some i12 := by kernel_rfl
theorem s12 : S.shared 12 = false := by kernel_rfl
end Go.Abs
