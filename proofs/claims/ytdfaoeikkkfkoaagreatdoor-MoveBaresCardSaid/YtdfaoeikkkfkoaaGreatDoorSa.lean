/-
  The program of this seat as a system of the abstract machine.
-/
import Derived.Test.YtdfaoeikkkfkoaaGreatDoorMa
import Derived.Test.YtdfaoeikkkfkoaaGreatDoorMd
import Derived.Test.YtdfaoeikkkfkoaaGreatDoorMc
import Derived.Test.YtdfaoeikkkfkoaaGreatDoorMf
import Derived.KernelRfl
import Derived.Test.YtdfaoeikkkfkoaaGreatDoorProg
set_option linter.unusedSimpArgs false
set_option linter.unusedVariables false
set_option linter.unusedSectionVars false
namespace Go.Abs
set_option maxRecDepth 100000
def i34 : IFn :=
⟨29, [(2, none), (3, none)],
 (.seq (.region false [
 ⟨(some (1)), .box 2176000000 (.t 0), none, 0⟩,
 ⟨(some (2)), .mov (.k (.one (.p (.nilp)))), none, 0⟩,
 ⟨(some (3)), .mov (.i 0), none, 0⟩]) (.seq (.seq (.region false [
 ⟨(some (5)), .faddr 1 (.t 1), none, 0⟩,
 ⟨(some (6)), .load none (.t 5), none, 0⟩,
 ⟨(some (7)), .llen (.t 6), none, 0⟩,
 ⟨(some (8)), .bin .gtr (.t 7) (.i 400), none, 0⟩,
 ⟨(some (9)), .mov (.t 8), none, 0⟩,
 ⟨(some (10)), .load (some (2)) (.t 1), (some (9, false)), 0⟩,
 ⟨(some (11)), .call 2176064384 (.k (.one (.p (.fn 44 [] [])))) [.t 10], (some (9, false)), 0⟩,
 ⟨(some (12)), .bin .gtr (.t 11) (.i 200), (some (9, false)), 0⟩,
 ⟨(some (13)), .pick (.t 9) (.b true) (.t 12), none, 0⟩]) (.cond (.t 13) (.seq (.region false [
 ⟨(some (2)), .mov (.k (.one (.p (.nilp)))), none, 0⟩,
 ⟨(some (3)), .mov (.i 7), none, 0⟩]) (.ret)) (.skip))) (.seq (.seq (.region false [
 ⟨(some (14)), .faddr 0 (.t 1), none, 0⟩,
 ⟨(some (15)), .load none (.t 14), none, 0⟩,
 ⟨(some (16)), .bin .lss (.t 15) (.i 0), none, 0⟩,
 ⟨(some (17)), .mov (.t 16), none, 0⟩,
 ⟨(some (18)), .faddr 0 (.t 1), (some (17, false)), 0⟩,
 ⟨(some (19)), .load none (.t 18), (some (17, false)), 0⟩,
 ⟨(some (20)), .bin .gtr (.t 19) (.i 40), (some (17, false)), 0⟩,
 ⟨(some (21)), .pick (.t 17) (.b true) (.t 20), none, 0⟩]) (.cond (.t 21) (.seq (.region false [
 ⟨(some (2)), .mov (.k (.one (.p (.nilp)))), none, 0⟩,
 ⟨(some (3)), .mov (.i 2), none, 0⟩]) (.ret)) (.skip))) (.seq (.region false [
 ⟨(some (22)), .load (some (2)) (.t 1), none, 0⟩,
 ⟨(some (23)), .build [.int .i64 0, .nils, .nils, .nils, .nils, .nilm, .nils] [(0, 2, .t 22)], none, 0⟩,
 ⟨(some (24)), .box 2176320128 (.t 23), none, 0⟩,
 ⟨(some (4)), .mov (.t 24), none, 0⟩]) (.seq (.seq (.region false [
 ⟨(some (25)), .mov (.t 4), none, 0⟩,
 ⟨(some (26)), .call 2176384064 (.k (.one (.p (.fn 57 [] [])))) [.t 25], none, 0⟩,
 ⟨(some (27)), .un .not (.t 26), none, 0⟩]) (.cond (.t 27) (.seq (.region false [
 ⟨(some (2)), .mov (.k (.one (.p (.nilp)))), none, 0⟩,
 ⟨(some (3)), .mov (.i 3), none, 0⟩]) (.ret)) (.skip))) (.seq (.region false [
 ⟨(some (28)), .mov (.t 4), none, 0⟩,
 ⟨(some (2)), .mov (.t 28), none, 0⟩,
 ⟨(some (3)), .mov (.i 0), none, 0⟩]) (.ret)))))))⟩
def i44_l1 : ICode :=
(.seq (.region false [
 ⟨(some (10)), .bin .lss (.t 9) (.t 8), none, 0⟩]) (.seq (.cond (.t 10) (.skip) (.exit 0)) (.seq (.block 1 (.seq (.region false [
 ⟨(some (11)), .iaddr 6 (.t 7) (.t 9), none, 0⟩,
 ⟨(some (12)), .load (some (6)) (.t 11), none, 0⟩,
 ⟨(some (5)), .alloc 2816256128 [.int .i64 0, .int .i64 0, .int .i64 0, .int .i64 0, .int .i64 0, .bool false], none, 0⟩,
 ⟨none, .store 6 (.t 5) (.t 12), none, 0⟩]) (.seq (.region false [
 ⟨(some (13)), .faddr 0 (.t 5), none, 0⟩,
 ⟨(some (14)), .load none (.t 13), none, 0⟩,
 ⟨(some (15)), .bin .eql (.t 14) (.i 2), none, 0⟩]) (.cond (.t 15) (.region false [
 ⟨(some (16)), .mov (.t 3), none, 0⟩,
 ⟨(some (17)), .bin .add (.t 16) (.i 1), none, 0⟩,
 ⟨(some (3)), .mov (.t 17), none, 0⟩]) (.skip))))) (.region false [
 ⟨(some (18)), .bin .add (.t 9) (.i 1), none, 0⟩,
 ⟨(some (9)), .mov (.t 18), none, 0⟩]))))
def i44_r2 : ICode :=
(.seq (.region false [
 ⟨(some (19)), .mov (.t 3), none, 0⟩,
 ⟨(some (2)), .mov (.t 19), none, 0⟩]) (.ret))
def i44 : IFn :=
⟨20, [(2, none)],
 (.seq (.region false [
 ⟨(some (1)), .box 2816000000 (.t 0), none, 0⟩,
 ⟨(some (2)), .mov (.i 0), none, 0⟩]) (.seq (.region false [
 ⟨(some (3)), .mov (.i 0), none, 0⟩]) (.seq (.seq (.region false [
 ⟨(some (6)), .faddr 1 (.t 1), none, 0⟩,
 ⟨(some (7)), .load none (.t 6), none, 0⟩,
 ⟨(some (8)), .llen (.t 7), none, 0⟩,
 ⟨(some (9)), .mov (.i 0), none, 0⟩]) (.block 0 (.loop i44_l1))) i44_r2)))⟩
def i28_l1 : ICode :=
(.seq (.region false [
 ⟨(some (10)), .bin .lss (.t 9) (.t 8), none, 0⟩]) (.seq (.cond (.t 10) (.skip) (.exit 0)) (.seq (.block 1 (.seq (.region false [
 ⟨(some (11)), .iaddr 6 (.t 7) (.t 9), none, 0⟩,
 ⟨(some (12)), .load (some (6)) (.t 11), none, 0⟩,
 ⟨(some (5)), .alloc 1792256128 [.int .i64 0, .int .i64 0, .int .i64 0, .int .i64 0, .int .i64 0, .bool false], none, 0⟩,
 ⟨none, .store 6 (.t 5) (.t 12), none, 0⟩]) (.seq (.region false [
 ⟨(some (13)), .faddr 0 (.t 5), none, 0⟩,
 ⟨(some (14)), .load none (.t 13), none, 0⟩,
 ⟨(some (15)), .bin .eql (.t 14) (.i 1), none, 0⟩]) (.cond (.t 15) (.region false [
 ⟨(some (16)), .mov (.t 3), none, 0⟩,
 ⟨(some (17)), .bin .add (.t 16) (.i 1), none, 0⟩,
 ⟨(some (3)), .mov (.t 17), none, 0⟩]) (.skip))))) (.region false [
 ⟨(some (18)), .bin .add (.t 9) (.i 1), none, 0⟩,
 ⟨(some (9)), .mov (.t 18), none, 0⟩]))))
def i28_r2 : ICode :=
(.seq (.region false [
 ⟨(some (19)), .mov (.t 3), none, 0⟩,
 ⟨(some (2)), .mov (.t 19), none, 0⟩]) (.ret))
def i28 : IFn :=
⟨20, [(2, none)],
 (.seq (.region false [
 ⟨(some (1)), .box 1792000000 (.t 0), none, 0⟩,
 ⟨(some (2)), .mov (.i 0), none, 0⟩]) (.seq (.region false [
 ⟨(some (3)), .mov (.i 0), none, 0⟩]) (.seq (.seq (.region false [
 ⟨(some (6)), .faddr 1 (.t 1), none, 0⟩,
 ⟨(some (7)), .load none (.t 6), none, 0⟩,
 ⟨(some (8)), .llen (.t 7), none, 0⟩,
 ⟨(some (9)), .mov (.i 0), none, 0⟩]) (.block 0 (.loop i28_l1))) i28_r2)))⟩
def i29 : IFn :=
⟨6, [(2, none)],
 (.seq (.region false [
 ⟨(some (1)), .box 1856000000 (.t 0), none, 0⟩,
 ⟨(some (2)), .mov (.i 0), none, 0⟩]) (.seq (.region false [
 ⟨(some (3)), .load (some (2)) (.t 1), none, 0⟩,
 ⟨(some (4)), .call 1856064064 (.k (.one (.p (.fn 44 [] [])))) [.t 3], none, 0⟩,
 ⟨(some (5)), .bin .quo (.t 4) (.i 2), none, 0⟩,
 ⟨(some (2)), .mov (.t 5), none, 0⟩]) (.ret)))⟩
def i86 : IFn :=
⟨11, [(2, none)],
 (.seq (.region false [
 ⟨(some (1)), .box 5504000000 (.t 0), none, 0⟩,
 ⟨(some (2)), .mov (.b false), none, 0⟩]) (.seq (.region false [
 ⟨(some (3)), .load none (.t 1), none, 0⟩,
 ⟨(some (4)), .nilchk (.t 3), none, 0⟩,
 ⟨(some (5)), .faddr 0 (.t 4), none, 0⟩,
 ⟨(some (6)), .faddr 1 (.t 5), none, 0⟩,
 ⟨(some (7)), .load none (.t 6), none, 0⟩,
 ⟨(some (8)), .mkfn 112 [] [.t 1], none, 0⟩,
 ⟨(some (9)), .call 5504064384 (.k (.one (.p (.fn 111 [] [])))) [.t 7, .t 8], none, 0⟩,
 ⟨(some (10)), .un .not (.t 9), none, 0⟩,
 ⟨(some (2)), .mov (.t 10), none, 0⟩]) (.ret)))⟩
def i112 : IFn :=
⟨55, [(3, none)],
 (.seq (.region false [
 ⟨(some (2)), .box 7168000000 (.t 0), none, 0⟩,
 ⟨(some (3)), .mov (.b false), none, 0⟩]) (.seq (.seq (.region false [
 ⟨(some (4)), .faddr 0 (.t 2), none, 0⟩,
 ⟨(some (5)), .load none (.t 4), none, 0⟩]) (.block 0 (.seq (.region false [
 ⟨(some (7)), .bin .eql (.t 5) (.i 1), none, 0⟩,
 ⟨(some (6)), .mov (.t 7), none, 0⟩]) (.cond (.t 6) (.seq (.region true [
 ⟨(some (8)), .faddr 1 (.t 2), none, 0⟩,
 ⟨(some (9)), .load none (.t 8), none, 1⟩,
 ⟨(some (10)), .bin .lss (.t 9) (.i 0), none, 3⟩,
 ⟨(some (11)), .mov (.t 10), none, 7⟩,
 ⟨(some (12)), .faddr 1 (.t 2), (some (11, false)), 15⟩,
 ⟨(some (13)), .load none (.t 12), (some (11, false)), 31⟩,
 ⟨(some (14)), .load none (.t 1), (some (11, false)), 15⟩,
 ⟨(some (15)), .nilchk (.t 14), (some (11, false)), 79⟩,
 ⟨(some (16)), .faddr 0 (.t 15), (some (11, false)), 207⟩,
 ⟨(some (17)), .faddr 0 (.t 16), (some (11, false)), 463⟩,
 ⟨(some (18)), .load none (.t 17), (some (11, false)), 975⟩,
 ⟨(some (19)), .bin .gtr (.t 13) (.t 18), (some (11, false)), 2047⟩,
 ⟨(some (20)), .pick (.t 11) (.b true) (.t 19), none, 4095⟩,
 ⟨(some (21)), .mov (.t 20), none, 8191⟩,
 ⟨(some (22)), .faddr 3 (.t 2), (some (21, false)), 16383⟩,
 ⟨(some (23)), .load none (.t 22), (some (21, false)), 32767⟩,
 ⟨(some (24)), .bin .neq (.t 23) (.i 0), (some (21, false)), 65535⟩,
 ⟨(some (25)), .pick (.t 21) (.b true) (.t 24), none, 131071⟩,
 ⟨(some (26)), .mov (.t 25), none, 262143⟩,
 ⟨(some (27)), .faddr 4 (.t 2), (some (26, false)), 524287⟩,
 ⟨(some (28)), .load none (.t 27), (some (26, false)), 1048575⟩,
 ⟨(some (29)), .bin .neq (.t 28) (.i 0), (some (26, false)), 2097151⟩,
 ⟨(some (30)), .pick (.t 26) (.b true) (.t 29), none, 4194303⟩,
 ⟨(some (31)), .mov (.t 30), none, 8388607⟩,
 ⟨(some (32)), .faddr 5 (.t 2), (some (31, false)), 16777215⟩,
 ⟨(some (33)), .load none (.t 32), (some (31, false)), 33554431⟩,
 ⟨(some (34)), .pick (.t 31) (.b true) (.t 33), none, 67108863⟩,
 ⟨(some (3)), .mov (.t 34), none, 134217727⟩]) (.ret)) (.seq (.region false [
 ⟨(some (36)), .bin .eql (.t 5) (.i 2), none, 0⟩,
 ⟨(some (35)), .mov (.t 36), none, 0⟩]) (.cond (.t 35) (.seq (.region false [
 ⟨(some (37)), .faddr 1 (.t 2), none, 0⟩,
 ⟨(some (38)), .load none (.t 37), none, 0⟩,
 ⟨(some (39)), .bin .neq (.t 38) (.i 0), none, 0⟩,
 ⟨(some (40)), .mov (.t 39), none, 0⟩,
 ⟨(some (41)), .faddr 2 (.t 2), (some (40, false)), 0⟩,
 ⟨(some (42)), .load none (.t 41), (some (40, false)), 0⟩,
 ⟨(some (43)), .bin .neq (.t 42) (.i 0), (some (40, false)), 0⟩,
 ⟨(some (44)), .pick (.t 40) (.b true) (.t 43), none, 0⟩,
 ⟨(some (45)), .mov (.t 44), none, 0⟩,
 ⟨(some (46)), .faddr 4 (.t 2), (some (45, false)), 0⟩,
 ⟨(some (47)), .load none (.t 46), (some (45, false)), 0⟩,
 ⟨(some (48)), .bin .neq (.t 47) (.i 1), (some (45, false)), 0⟩,
 ⟨(some (49)), .mov (.t 48), (some (45, false)), 0⟩,
 ⟨(some (50)), .faddr 4 (.t 2), (some (49, true)), 0⟩,
 ⟨(some (51)), .load none (.t 50), (some (49, true)), 0⟩,
 ⟨(some (52)), .bin .neq (.t 51) (.i (-1)), (some (49, true)), 0⟩,
 ⟨(some (53)), .pick (.t 49) (.t 52) (.b false), (some (45, false)), 0⟩,
 ⟨(some (54)), .pick (.t 45) (.b true) (.t 53), none, 0⟩,
 ⟨(some (3)), .mov (.t 54), none, 0⟩]) (.ret)) (.skip))))))) (.seq (.region false [
 ⟨(some (3)), .mov (.b true), none, 0⟩]) (.ret))))⟩
def i87 : IFn :=
⟨21, [(2, none)],
 (.seq (.region false [
 ⟨(some (2)), .mov (.b false), none, 0⟩]) (.seq (.region false [
 ⟨(some (3)), .mov (.t 0), none, 0⟩,
 ⟨(some (4)), .nilchk (.t 3), none, 0⟩,
 ⟨(some (5)), .faddr 0 (.t 4), none, 0⟩,
 ⟨(some (6)), .faddr 1 (.t 5), none, 0⟩,
 ⟨(some (7)), .load none (.t 6), none, 0⟩,
 ⟨(some (8)), .iaddr 6 (.t 7) (.i 0), none, 0⟩,
 ⟨(some (9)), .faddr 0 (.t 8), none, 0⟩,
 ⟨(some (10)), .load none (.t 9), none, 0⟩,
 ⟨(some (11)), .bin .eql (.t 10) (.i 1), none, 0⟩,
 ⟨(some (12)), .mov (.t 11), none, 0⟩,
 ⟨(some (13)), .mov (.t 0), (some (12, true)), 0⟩,
 ⟨(some (14)), .nilchk (.t 13), (some (12, true)), 0⟩,
 ⟨(some (15)), .faddr 0 (.t 14), (some (12, true)), 0⟩,
 ⟨(some (16)), .load (some (2)) (.t 15), (some (12, true)), 0⟩,
 ⟨(some (17)), .call 5568064896 (.k (.one (.p (.fn 28 [] [])))) [.t 16], (some (12, true)), 0⟩,
 ⟨(some (18)), .bin .rem (.t 17) (.i 2), (some (12, true)), 0⟩,
 ⟨(some (19)), .bin .eql (.t 18) (.i 0), (some (12, true)), 0⟩,
 ⟨(some (20)), .pick (.t 12) (.t 19) (.b false), none, 0⟩,
 ⟨(some (2)), .mov (.t 20), none, 0⟩]) (.ret)))⟩
def i88_l1 : ICode :=
(.seq (.region false [
 ⟨(some (51)), .bin .lss (.t 50) (.t 49), none, 0⟩]) (.seq (.cond (.t 51) (.skip) (.exit 0)) (.seq (.block 1 (.seq (.region false [
 ⟨(some (52)), .mov (.t 50), none, 0⟩,
 ⟨(some (53)), .iaddr 6 (.t 48) (.t 50), none, 0⟩,
 ⟨(some (54)), .load (some (6)) (.t 53), none, 0⟩,
 ⟨(some (5)), .alloc 5632448192 [.int .i64 0, .int .i64 0, .int .i64 0, .int .i64 0, .int .i64 0, .bool false], none, 0⟩,
 ⟨(some (4)), .mov (.t 52), none, 0⟩,
 ⟨none, .store 6 (.t 5) (.t 54), none, 0⟩]) (.seq (.region false [
 ⟨(some (55)), .faddr 0 (.t 5), none, 0⟩,
 ⟨(some (56)), .load none (.t 55), none, 0⟩,
 ⟨(some (57)), .bin .eql (.t 56) (.i 1), none, 0⟩]) (.cond (.t 57) (.seq (.region true [
 ⟨(some (58)), .mov (.t 0), none, 0⟩,
 ⟨(some (59)), .nilchk (.t 58), none, 1⟩,
 ⟨(some (60)), .faddr 6 (.t 59), none, 3⟩,
 ⟨(some (61)), .load none (.t 60), none, 7⟩,
 ⟨(some (62)), .faddr 1 (.t 5), none, 0⟩,
 ⟨(some (63)), .load none (.t 62), none, 16⟩,
 ⟨(some (64)), .iaddr 1 (.t 61) (.t 63), none, 63⟩,
 ⟨(some (65)), .load none (.t 64), none, 127⟩,
 ⟨(some (66)), .bin .add (.t 65) (.i 1), none, 255⟩,
 ⟨(some (67)), .iaddr 1 (.t 61) (.t 63), none, 511⟩,
 ⟨none, .store 1 (.t 67) (.t 66), none, 1023⟩]) (.seq (.region false [
 ⟨(some (68)), .mov (.t 0), none, 0⟩,
 ⟨(some (69)), .nilchk (.t 68), none, 0⟩,
 ⟨(some (70)), .faddr 2 (.t 69), none, 0⟩,
 ⟨(some (71)), .load none (.t 70), none, 0⟩,
 ⟨(some (72)), .mov (.t 4), none, 0⟩,
 ⟨(some (73)), .mov (.t 3), none, 0⟩,
 ⟨(some (74)), .iaddr 1 (.t 71) (.t 72), none, 0⟩,
 ⟨none, .store 1 (.t 74) (.t 73), none, 0⟩]) (.region false [
 ⟨(some (75)), .mov (.t 3), none, 0⟩,
 ⟨(some (76)), .un .not (.t 75), none, 0⟩,
 ⟨(some (3)), .mov (.t 76), none, 0⟩]))) (.skip))))) (.region false [
 ⟨(some (77)), .bin .add (.t 50) (.i 1), none, 0⟩,
 ⟨(some (50)), .mov (.t 77), none, 0⟩]))))
def i88_l2 : ICode :=
(.seq (.region false [
 ⟨(some (91)), .bin .lss (.t 90) (.t 89), none, 0⟩]) (.seq (.cond (.t 91) (.skip) (.exit 2)) (.seq (.block 3 (.seq (.region false [
 ⟨(some (92)), .mov (.t 90), none, 0⟩,
 ⟨(some (93)), .iaddr 1 (.t 88) (.t 90), none, 0⟩,
 ⟨(some (94)), .load none (.t 93), none, 0⟩,
 ⟨(some (8)), .mov (.t 92), none, 0⟩,
 ⟨(some (9)), .mov (.t 94), none, 0⟩]) (.seq (.region false [
 ⟨(some (95)), .mov (.t 6), none, 0⟩,
 ⟨(some (96)), .mov (.t 8), none, 0⟩,
 ⟨(some (97)), .mov (.t 7), none, 0⟩,
 ⟨(some (98)), .iaddr 1 (.t 95) (.t 96), none, 0⟩,
 ⟨none, .store 1 (.t 98) (.t 97), none, 0⟩]) (.region false [
 ⟨(some (99)), .mov (.t 7), none, 0⟩,
 ⟨(some (100)), .mov (.t 9), none, 0⟩,
 ⟨(some (101)), .bin .add (.t 99) (.t 100), none, 0⟩,
 ⟨(some (7)), .mov (.t 101), none, 0⟩])))) (.region false [
 ⟨(some (102)), .bin .add (.t 90) (.i 1), none, 0⟩,
 ⟨(some (90)), .mov (.t 102), none, 0⟩]))))
def i88_l3 : ICode :=
(.seq (.region false [
 ⟨(some (117)), .bin .lss (.t 116) (.t 115), none, 0⟩]) (.seq (.cond (.t 117) (.skip) (.exit 4)) (.seq (.block 5 (.seq (.region false [
 ⟨(some (118)), .mov (.t 116), none, 0⟩,
 ⟨(some (119)), .iaddr 6 (.t 114) (.t 116), none, 0⟩,
 ⟨(some (120)), .load (some (6)) (.t 119), none, 0⟩,
 ⟨(some (12)), .alloc 5633600192 [.int .i64 0, .int .i64 0, .int .i64 0, .int .i64 0, .int .i64 0, .bool false], none, 0⟩,
 ⟨(some (11)), .mov (.t 118), none, 0⟩,
 ⟨none, .store 6 (.t 12) (.t 120), none, 0⟩]) (.seq (.seq (.region false [
 ⟨(some (121)), .faddr 0 (.t 12), none, 0⟩,
 ⟨(some (122)), .load none (.t 121), none, 0⟩,
 ⟨(some (123)), .bin .neq (.t 122) (.i 1), none, 0⟩]) (.cond (.t 123) (.exit 5) (.skip))) (.seq (.seq (.region true [
 ⟨(some (124)), .faddr 2 (.t 12), none, 0⟩,
 ⟨(some (125)), .load none (.t 124), none, 1⟩,
 ⟨(some (126)), .bin .lss (.t 125) (.i 1), none, 3⟩,
 ⟨(some (127)), .mov (.t 126), none, 7⟩,
 ⟨(some (128)), .faddr 2 (.t 12), (some (127, false)), 15⟩,
 ⟨(some (129)), .load none (.t 128), (some (127, false)), 31⟩,
 ⟨(some (130)), .mov (.t 0), (some (127, false)), 15⟩,
 ⟨(some (131)), .nilchk (.t 130), (some (127, false)), 79⟩,
 ⟨(some (132)), .faddr 6 (.t 131), (some (127, false)), 207⟩,
 ⟨(some (133)), .load none (.t 132), (some (127, false)), 463⟩,
 ⟨(some (134)), .faddr 1 (.t 12), (some (127, false)), 15⟩,
 ⟨(some (135)), .load none (.t 134), (some (127, false)), 1039⟩,
 ⟨(some (136)), .iaddr 1 (.t 133) (.t 135), (some (127, false)), 4047⟩,
 ⟨(some (137)), .load none (.t 136), (some (127, false)), 8143⟩,
 ⟨(some (138)), .bin .gtr (.t 129) (.t 137), (some (127, false)), 16383⟩,
 ⟨(some (139)), .pick (.t 127) (.b true) (.t 138), none, 32767⟩]) (.cond (.t 139) (.seq (.region false [
 ⟨(some (2)), .mov (.b false), none, 0⟩]) (.ret)) (.skip))) (.seq (.region true [
 ⟨(some (140)), .mov (.t 6), none, 0⟩,
 ⟨(some (141)), .faddr 1 (.t 12), none, 0⟩,
 ⟨(some (142)), .load none (.t 141), none, 2⟩,
 ⟨(some (143)), .iaddr 1 (.t 140) (.t 142), none, 7⟩,
 ⟨(some (144)), .load none (.t 143), none, 15⟩,
 ⟨(some (145)), .faddr 2 (.t 12), none, 0⟩,
 ⟨(some (146)), .load none (.t 145), none, 32⟩,
 ⟨(some (147)), .bin .add (.t 144) (.t 146), none, 127⟩,
 ⟨(some (148)), .bin .sub (.t 147) (.i 1), none, 255⟩,
 ⟨(some (13)), .mov (.t 148), none, 511⟩]) (.seq (.seq (.region false [
 ⟨(some (149)), .mov (.t 10), none, 0⟩,
 ⟨(some (150)), .mov (.t 13), none, 0⟩,
 ⟨(some (151)), .iaddr 1 (.t 149) (.t 150), none, 0⟩,
 ⟨(some (152)), .load none (.t 151), none, 0⟩]) (.cond (.t 152) (.seq (.region false [
 ⟨(some (2)), .mov (.b false), none, 0⟩]) (.ret)) (.skip))) (.region true [
 ⟨(some (153)), .mov (.t 10), none, 0⟩,
 ⟨(some (154)), .mov (.t 13), none, 0⟩,
 ⟨(some (155)), .mov (.t 0), none, 0⟩,
 ⟨(some (156)), .nilchk (.t 155), none, 4⟩,
 ⟨(some (157)), .faddr 3 (.t 156), none, 12⟩,
 ⟨(some (158)), .load none (.t 157), none, 28⟩,
 ⟨(some (159)), .mov (.t 13), none, 0⟩,
 ⟨(some (160)), .mov (.t 0), none, 0⟩,
 ⟨(some (161)), .nilchk (.t 160), none, 128⟩,
 ⟨(some (162)), .faddr 4 (.t 161), none, 384⟩,
 ⟨(some (163)), .load none (.t 162), none, 896⟩,
 ⟨(some (164)), .mov (.t 11), none, 0⟩,
 ⟨(some (165)), .mov (.t 11), none, 0⟩,
 ⟨(some (166)), .mov (.t 13), none, 0⟩,
 ⟨(some (167)), .iaddr 1 (.t 153) (.t 154), none, 1983⟩,
 ⟨none, .store 1 (.t 167) (.b true), none, 18367⟩,
 ⟨(some (168)), .iaddr 1 (.t 158) (.t 159), none, 55295⟩,
 ⟨none, .store 1 (.t 168) (.t 165), none, 120831⟩,
 ⟨(some (169)), .iaddr 1 (.t 163) (.t 164), none, 262143⟩,
 ⟨none, .store 1 (.t 169) (.t 166), none, 524287⟩]))))))) (.region false [
 ⟨(some (170)), .bin .add (.t 116) (.i 1), none, 0⟩,
 ⟨(some (116)), .mov (.t 170), none, 0⟩]))))
def i88_r4 : ICode :=
(.seq (.region false [
 ⟨(some (2)), .mov (.b true), none, 0⟩]) (.ret))
def i88_r5 : ICode :=
(.seq (.region false [
 ⟨(some (103)), .mov (.t 0), none, 0⟩,
 ⟨(some (104)), .mov (.t 7), none, 0⟩,
 ⟨(some (105)), .mkslice 5633344128 3 1 8 [.int .i64 0] (.t 104) (.t 104), none, 0⟩,
 ⟨(some (106)), .nilchk (.t 103), none, 0⟩,
 ⟨(some (107)), .faddr 3 (.t 106), none, 0⟩,
 ⟨none, .store 1 (.t 107) (.t 105), none, 0⟩]) (.seq (.region false [
 ⟨(some (108)), .mov (.t 7), none, 0⟩,
 ⟨(some (109)), .mkslice 5633408064 4 1 1 [.bool false] (.t 108) (.t 108), none, 0⟩,
 ⟨(some (10)), .mov (.t 109), none, 0⟩]) (.seq (.seq (.region false [
 ⟨(some (110)), .mov (.t 0), none, 0⟩,
 ⟨(some (111)), .nilchk (.t 110), none, 0⟩,
 ⟨(some (112)), .faddr 0 (.t 111), none, 0⟩,
 ⟨(some (113)), .faddr 1 (.t 112), none, 0⟩,
 ⟨(some (114)), .load none (.t 113), none, 0⟩,
 ⟨(some (115)), .llen (.t 114), none, 0⟩,
 ⟨(some (116)), .mov (.i 0), none, 0⟩]) (.block 4 (.loop i88_l3))) i88_r4)))
def i88_r6 : ICode :=
(.seq (.region false [
 ⟨(some (78)), .mov (.t 0), none, 0⟩,
 ⟨(some (79)), .nilchk (.t 78), none, 0⟩,
 ⟨(some (80)), .faddr 0 (.t 79), none, 0⟩,
 ⟨(some (81)), .faddr 0 (.t 80), none, 0⟩,
 ⟨(some (82)), .load none (.t 81), none, 0⟩,
 ⟨(some (83)), .bin .add (.t 82) (.i 1), none, 0⟩,
 ⟨(some (84)), .mkslice 5632832384 3 1 8 [.int .i64 0] (.t 83) (.t 83), none, 0⟩,
 ⟨(some (6)), .mov (.t 84), none, 0⟩]) (.seq (.region false [
 ⟨(some (7)), .mov (.i 0), none, 0⟩]) (.seq (.seq (.region false [
 ⟨(some (85)), .mov (.t 0), none, 0⟩,
 ⟨(some (86)), .nilchk (.t 85), none, 0⟩,
 ⟨(some (87)), .faddr 6 (.t 86), none, 0⟩,
 ⟨(some (88)), .load none (.t 87), none, 0⟩,
 ⟨(some (89)), .llen (.t 88), none, 0⟩,
 ⟨(some (90)), .mov (.i 0), none, 0⟩]) (.block 2 (.loop i88_l2))) i88_r5)))
def i88 : IFn :=
⟨171, [(2, none)],
 (.seq (.region false [
 ⟨(some (2)), .mov (.b false), none, 0⟩]) (.seq (.region false [
 ⟨(some (14)), .mov (.t 0), none, 0⟩,
 ⟨(some (15)), .mov (.t 0), none, 0⟩,
 ⟨(some (16)), .nilchk (.t 15), none, 0⟩,
 ⟨(some (17)), .faddr 0 (.t 16), none, 0⟩,
 ⟨(some (18)), .faddr 0 (.t 17), none, 0⟩,
 ⟨(some (19)), .load none (.t 18), none, 0⟩,
 ⟨(some (20)), .bin .add (.t 19) (.i 1), none, 0⟩,
 ⟨(some (21)), .mkslice 5632064448 3 1 8 [.int .i64 0] (.t 20) (.t 20), none, 0⟩,
 ⟨(some (22)), .nilchk (.t 14), none, 0⟩,
 ⟨(some (23)), .faddr 6 (.t 22), none, 0⟩,
 ⟨none, .store 1 (.t 23) (.t 21), none, 0⟩]) (.seq (.region false [
 ⟨(some (24)), .mov (.t 0), none, 0⟩,
 ⟨(some (25)), .mov (.t 0), none, 0⟩,
 ⟨(some (26)), .nilchk (.t 25), none, 0⟩,
 ⟨(some (27)), .faddr 0 (.t 26), none, 0⟩,
 ⟨(some (28)), .faddr 1 (.t 27), none, 0⟩,
 ⟨(some (29)), .load none (.t 28), none, 0⟩,
 ⟨(some (30)), .llen (.t 29), none, 0⟩,
 ⟨(some (31)), .mkslice 5632128448 4 1 1 [.bool false] (.t 30) (.t 30), none, 0⟩,
 ⟨(some (32)), .nilchk (.t 24), none, 0⟩,
 ⟨(some (33)), .faddr 2 (.t 32), none, 0⟩,
 ⟨none, .store 1 (.t 33) (.t 31), none, 0⟩]) (.seq (.region false [
 ⟨(some (34)), .mov (.t 0), none, 0⟩,
 ⟨(some (35)), .mov (.t 0), none, 0⟩,
 ⟨(some (36)), .nilchk (.t 35), none, 0⟩,
 ⟨(some (37)), .faddr 0 (.t 36), none, 0⟩,
 ⟨(some (38)), .faddr 1 (.t 37), none, 0⟩,
 ⟨(some (39)), .load none (.t 38), none, 0⟩,
 ⟨(some (40)), .llen (.t 39), none, 0⟩,
 ⟨(some (41)), .mkslice 5632192448 3 1 8 [.int .i64 0] (.t 40) (.t 40), none, 0⟩,
 ⟨(some (42)), .nilchk (.t 34), none, 0⟩,
 ⟨(some (43)), .faddr 4 (.t 42), none, 0⟩,
 ⟨none, .store 1 (.t 43) (.t 41), none, 0⟩]) (.seq (.region false [
 ⟨(some (3)), .mov (.b true), none, 0⟩]) (.seq (.seq (.region false [
 ⟨(some (44)), .mov (.t 0), none, 0⟩,
 ⟨(some (45)), .nilchk (.t 44), none, 0⟩,
 ⟨(some (46)), .faddr 0 (.t 45), none, 0⟩,
 ⟨(some (47)), .faddr 1 (.t 46), none, 0⟩,
 ⟨(some (48)), .load none (.t 47), none, 0⟩,
 ⟨(some (49)), .llen (.t 48), none, 0⟩,
 ⟨(some (50)), .mov (.i 0), none, 0⟩]) (.block 0 (.loop i88_l1))) i88_r6))))))⟩
def i89_l1 : ICode :=
(.seq (.region false [
 ⟨(some (28)), .bin .lss (.t 27) (.t 26), none, 0⟩]) (.seq (.cond (.t 28) (.skip) (.exit 0)) (.seq (.block 1 (.seq (.region false [
 ⟨(some (29)), .mov (.t 27), none, 0⟩,
 ⟨(some (30)), .iaddr 6 (.t 25) (.t 27), none, 0⟩,
 ⟨(some (31)), .load (some (6)) (.t 30), none, 0⟩,
 ⟨(some (5)), .alloc 5696448192 [.int .i64 0, .int .i64 0, .int .i64 0, .int .i64 0, .int .i64 0, .bool false], none, 0⟩,
 ⟨(some (4)), .mov (.t 29), none, 0⟩,
 ⟨none, .store 6 (.t 5) (.t 31), none, 0⟩]) (.seq (.seq (.region false [
 ⟨(some (32)), .faddr 0 (.t 5), none, 0⟩,
 ⟨(some (33)), .load none (.t 32), none, 0⟩,
 ⟨(some (34)), .bin .neq (.t 33) (.i 2), none, 0⟩]) (.cond (.t 34) (.exit 1) (.skip))) (.seq (.seq (.region false [
 ⟨(some (35)), .faddr 3 (.t 5), none, 0⟩,
 ⟨(some (36)), .load none (.t 35), none, 0⟩,
 ⟨(some (37)), .bin .lss (.t 36) (.i 1), none, 0⟩,
 ⟨(some (38)), .mov (.t 37), none, 0⟩,
 ⟨(some (39)), .faddr 3 (.t 5), (some (38, false)), 0⟩,
 ⟨(some (40)), .load none (.t 39), (some (38, false)), 0⟩,
 ⟨(some (41)), .mov (.t 3), (some (38, false)), 0⟩,
 ⟨(some (42)), .bin .quo (.t 41) (.i 2), (some (38, false)), 0⟩,
 ⟨(some (43)), .bin .gtr (.t 40) (.t 42), (some (38, false)), 0⟩,
 ⟨(some (44)), .pick (.t 38) (.b true) (.t 43), none, 0⟩]) (.cond (.t 44) (.seq (.region false [
 ⟨(some (2)), .mov (.b false), none, 0⟩]) (.ret)) (.skip))) (.seq (.region true [
 ⟨(some (46)), .mov (.t 0), none, 0⟩,
 ⟨(some (47)), .nilchk (.t 46), none, 1⟩,
 ⟨(some (48)), .faddr 5 (.t 47), none, 3⟩,
 ⟨(some (49)), .load none (.t 48), none, 7⟩,
 ⟨(some (50)), .faddr 3 (.t 5), none, 0⟩,
 ⟨(some (51)), .load none (.t 50), none, 16⟩,
 ⟨(some (52)), .lookup 0 [.int .i64 0, .int .i64 0] true true (.t 49) (.t 51), none, 63⟩,
 ⟨(some (45)), .mov (.t 52), none, 127⟩,
 ⟨(some (53)), .extract (.t 45) 0, none, 255⟩,
 ⟨(some (54)), .extract (.t 45) 1, none, 255⟩,
 ⟨(some (6)), .alloc 5696704640 [.int .i64 0, .int .i64 0], none, 0⟩,
 ⟨none, .store 2 (.t 6) (.t 53), none, 1535⟩,
 ⟨(some (7)), .mov (.t 54), none, 4095⟩]) (.seq (.seq (.region false [
 ⟨(some (55)), .mov (.t 7), none, 0⟩,
 ⟨(some (56)), .un .not (.t 55), none, 0⟩]) (.cond (.t 56) (.region false [
 ⟨(some (57)), .build [.int .i64 0, .int .i64 0] [(0, 1, .i (-1)), (1, 1, .i (-1))], none, 0⟩,
 ⟨none, .store 2 (.t 6) (.t 57), none, 0⟩]) (.skip))) (.seq (.region false [
 ⟨(some (8)), .mov (.i 0), none, 0⟩]) (.seq (.seq (.region false [
 ⟨(some (58)), .faddr 5 (.t 5), none, 0⟩,
 ⟨(some (59)), .load none (.t 58), none, 0⟩]) (.cond (.t 59) (.region false [
 ⟨(some (8)), .mov (.i 1), none, 0⟩]) (.skip))) (.seq (.seq (.region true [
 ⟨(some (60)), .mov (.t 8), none, 0⟩,
 ⟨(some (61)), .aaddr 2 1 (.t 6) (.t 60), none, 1⟩,
 ⟨(some (62)), .load none (.t 61), none, 3⟩,
 ⟨(some (63)), .bin .geq (.t 62) (.i 0), none, 7⟩,
 ⟨(some (64)), .mov (.t 63), none, 15⟩,
 ⟨(some (65)), .mov (.t 7), (some (64, false)), 31⟩,
 ⟨(some (66)), .mov (.t 65), (some (64, false)), 63⟩,
 ⟨(some (67)), .mov (.t 0), (some (66, true)), 127⟩,
 ⟨(some (68)), .nilchk (.t 67), (some (66, true)), 255⟩,
 ⟨(some (69)), .faddr 0 (.t 68), (some (66, true)), 511⟩,
 ⟨(some (70)), .faddr 1 (.t 69), (some (66, true)), 1023⟩,
 ⟨(some (71)), .load none (.t 70), (some (66, true)), 2047⟩,
 ⟨(some (72)), .mov (.t 8), (some (66, true)), 127⟩,
 ⟨(some (73)), .bin .sub (.i 1) (.t 72), (some (66, true)), 4223⟩,
 ⟨(some (74)), .aaddr 2 1 (.t 6) (.t 73), (some (66, true)), 12415⟩,
 ⟨(some (75)), .load none (.t 74), (some (66, true)), 28799⟩,
 ⟨(some (76)), .iaddr 6 (.t 71) (.t 75), (some (66, true)), 65535⟩,
 ⟨(some (77)), .faddr 4 (.t 76), (some (66, true)), 131071⟩,
 ⟨(some (78)), .load none (.t 77), (some (66, true)), 262143⟩,
 ⟨(some (79)), .faddr 4 (.t 5), (some (66, true)), 127⟩,
 ⟨(some (80)), .load none (.t 79), (some (66, true)), 524415⟩,
 ⟨(some (81)), .bin .neq (.t 78) (.t 80), (some (66, true)), 2097151⟩,
 ⟨(some (82)), .pick (.t 66) (.t 81) (.b false), (some (64, false)), 4194303⟩,
 ⟨(some (83)), .pick (.t 64) (.b true) (.t 82), none, 8388607⟩]) (.cond (.t 83) (.seq (.region false [
 ⟨(some (2)), .mov (.b false), none, 0⟩]) (.ret)) (.skip))) (.seq (.region false [
 ⟨(some (84)), .mov (.t 8), none, 0⟩,
 ⟨(some (85)), .mov (.t 4), none, 0⟩,
 ⟨(some (86)), .aaddr 2 1 (.t 6) (.t 84), none, 0⟩,
 ⟨none, .store 1 (.t 86) (.t 85), none, 0⟩]) (.region true [
 ⟨(some (87)), .mov (.t 0), none, 0⟩,
 ⟨(some (88)), .nilchk (.t 87), none, 1⟩,
 ⟨(some (89)), .faddr 5 (.t 88), none, 3⟩,
 ⟨(some (90)), .load none (.t 89), none, 7⟩,
 ⟨(some (91)), .faddr 3 (.t 5), none, 0⟩,
 ⟨(some (92)), .load none (.t 91), none, 16⟩,
 ⟨(some (93)), .load (some (2)) (.t 6), none, 0⟩,
 ⟨none, .mupd 0 true (.t 90) (.t 92) (.t 93), none, 127⟩]))))))))))) (.region false [
 ⟨(some (94)), .bin .add (.t 27) (.i 1), none, 0⟩,
 ⟨(some (27)), .mov (.t 94), none, 0⟩]))))
def i89_r2 : ICode :=
(.seq (.region false [
 ⟨(some (95)), .mov (.t 0), none, 0⟩,
 ⟨(some (96)), .nilchk (.t 95), none, 0⟩,
 ⟨(some (97)), .faddr 5 (.t 96), none, 0⟩,
 ⟨(some (98)), .load none (.t 97), none, 0⟩,
 ⟨(some (99)), .mlen (.t 98), none, 0⟩,
 ⟨(some (100)), .mov (.t 3), none, 0⟩,
 ⟨(some (101)), .bin .quo (.t 100) (.i 2), none, 0⟩,
 ⟨(some (102)), .bin .eql (.t 99) (.t 101), none, 0⟩,
 ⟨(some (2)), .mov (.t 102), none, 0⟩]) (.ret))
def i89 : IFn :=
⟨103, [(2, none)],
 (.seq (.region false [
 ⟨(some (2)), .mov (.b false), none, 0⟩]) (.seq (.region false [
 ⟨(some (9)), .mov (.t 0), none, 0⟩,
 ⟨(some (10)), .nilchk (.t 9), none, 0⟩,
 ⟨(some (11)), .faddr 0 (.t 10), none, 0⟩,
 ⟨(some (12)), .load (some (2)) (.t 11), none, 0⟩,
 ⟨(some (13)), .call 5696064256 (.k (.one (.p (.fn 44 [] [])))) [.t 12], none, 0⟩,
 ⟨(some (3)), .mov (.t 13), none, 0⟩]) (.seq (.seq (.region false [
 ⟨(some (14)), .mov (.t 3), none, 0⟩,
 ⟨(some (15)), .bin .rem (.t 14) (.i 2), none, 0⟩,
 ⟨(some (16)), .bin .neq (.t 15) (.i 0), none, 0⟩]) (.cond (.t 16) (.seq (.region false [
 ⟨(some (2)), .mov (.b false), none, 0⟩]) (.ret)) (.skip))) (.seq (.region false [
 ⟨(some (17)), .mov (.t 0), none, 0⟩,
 ⟨(some (18)), .mkmap 5696256064 true, none, 0⟩,
 ⟨(some (19)), .nilchk (.t 17), none, 0⟩,
 ⟨(some (20)), .faddr 5 (.t 19), none, 0⟩,
 ⟨none, .store 1 (.t 20) (.t 18), none, 0⟩]) (.seq (.seq (.region false [
 ⟨(some (21)), .mov (.t 0), none, 0⟩,
 ⟨(some (22)), .nilchk (.t 21), none, 0⟩,
 ⟨(some (23)), .faddr 0 (.t 22), none, 0⟩,
 ⟨(some (24)), .faddr 1 (.t 23), none, 0⟩,
 ⟨(some (25)), .load none (.t 24), none, 0⟩,
 ⟨(some (26)), .llen (.t 25), none, 0⟩,
 ⟨(some (27)), .mov (.i 0), none, 0⟩]) (.block 0 (.loop i89_l1))) i89_r2)))))⟩
def i90_l1 : ICode :=
(.seq (.seq (.region false [
 ⟨(some (35)), .mov (.t 4), none, 0⟩,
 ⟨(some (36)), .mov (.t 7), none, 0⟩,
 ⟨(some (37)), .iaddr 1 (.t 35) (.t 36), none, 0⟩,
 ⟨(some (38)), .load none (.t 37), none, 0⟩,
 ⟨(some (39)), .un .not (.t 38), none, 0⟩]) (.cond (.t 39) (.skip) (.exit 2))) (.seq (.block 3 (.region false [
 ⟨(some (43)), .mov (.t 4), none, 0⟩,
 ⟨(some (44)), .mov (.t 7), none, 0⟩,
 ⟨(some (45)), .iaddr 1 (.t 43) (.t 44), none, 0⟩,
 ⟨none, .store 1 (.t 45) (.b true), none, 0⟩])) (.region false [
 ⟨(some (40)), .mov (.t 0), none, 0⟩,
 ⟨(some (41)), .mov (.t 7), none, 0⟩,
 ⟨(some (42)), .call 5760704128 (.k (.one (.p (.fn 66 [] [])))) [.t 40, .t 41], none, 0⟩,
 ⟨(some (7)), .mov (.t 42), none, 0⟩])))
def i90_r2 : ICode :=
(.region false [
 ⟨(some (46)), .bin .add (.t 25) (.i 1), none, 0⟩,
 ⟨(some (25)), .mov (.t 46), none, 0⟩])
def i90_l3 : ICode :=
(.seq (.region false [
 ⟨(some (26)), .bin .lss (.t 25) (.t 24), none, 0⟩]) (.seq (.cond (.t 26) (.skip) (.exit 0)) (.seq (.block 1 (.seq (.region false [
 ⟨(some (27)), .mov (.t 25), none, 0⟩,
 ⟨(some (6)), .mov (.t 27), none, 0⟩]) (.seq (.seq (.region false [
 ⟨(some (28)), .mov (.t 4), none, 0⟩,
 ⟨(some (29)), .mov (.t 6), none, 0⟩,
 ⟨(some (30)), .iaddr 1 (.t 28) (.t 29), none, 0⟩,
 ⟨(some (31)), .load none (.t 30), none, 0⟩]) (.cond (.t 31) (.exit 1) (.skip))) (.seq (.region false [
 ⟨(some (32)), .mov (.t 5), none, 0⟩,
 ⟨(some (33)), .bin .add (.t 32) (.i 1), none, 0⟩,
 ⟨(some (5)), .mov (.t 33), none, 0⟩]) (.seq (.region false [
 ⟨(some (34)), .mov (.t 6), none, 0⟩,
 ⟨(some (7)), .mov (.t 34), none, 0⟩]) (.block 2 (.loop i90_l1))))))) i90_r2)))
def i90_r4 : ICode :=
(.seq (.region true [
 ⟨(some (47)), .mov (.t 5), none, 0⟩,
 ⟨(some (48)), .mov (.t 0), none, 0⟩,
 ⟨(some (49)), .nilchk (.t 48), none, 2⟩,
 ⟨(some (50)), .faddr 3 (.t 49), none, 6⟩,
 ⟨(some (51)), .load none (.t 50), none, 14⟩,
 ⟨(some (52)), .llen (.t 51), none, 30⟩,
 ⟨(some (53)), .mov (.t 0), none, 0⟩,
 ⟨(some (54)), .nilchk (.t 53), none, 64⟩,
 ⟨(some (55)), .faddr 5 (.t 54), none, 192⟩,
 ⟨(some (56)), .load none (.t 55), none, 448⟩,
 ⟨(some (57)), .mlen (.t 56), none, 960⟩,
 ⟨(some (58)), .bin .add (.t 52) (.t 57), none, 2046⟩,
 ⟨(some (59)), .bin .add (.t 58) (.i 2), none, 4094⟩,
 ⟨(some (60)), .bin .eql (.t 47) (.t 59), none, 8191⟩,
 ⟨(some (2)), .mov (.t 60), none, 16383⟩]) (.ret))
def i90 : IFn :=
⟨61, [(2, none)],
 (.seq (.region false [
 ⟨(some (2)), .mov (.b false), none, 0⟩]) (.seq (.region true [
 ⟨(some (8)), .mov (.t 0), none, 0⟩,
 ⟨(some (9)), .nilchk (.t 8), none, 1⟩,
 ⟨(some (10)), .faddr 0 (.t 9), none, 3⟩,
 ⟨(some (11)), .faddr 1 (.t 10), none, 7⟩,
 ⟨(some (12)), .load none (.t 11), none, 15⟩,
 ⟨(some (13)), .llen (.t 12), none, 31⟩,
 ⟨(some (14)), .bin .mul (.i 2) (.t 13), none, 63⟩,
 ⟨(some (15)), .mov (.t 0), none, 0⟩,
 ⟨(some (16)), .nilchk (.t 15), none, 128⟩,
 ⟨(some (17)), .faddr 3 (.t 16), none, 384⟩,
 ⟨(some (18)), .load none (.t 17), none, 896⟩,
 ⟨(some (19)), .llen (.t 18), none, 1920⟩,
 ⟨(some (20)), .bin .mul (.i 2) (.t 19), none, 3968⟩,
 ⟨(some (21)), .bin .add (.t 14) (.t 20), none, 8191⟩,
 ⟨(some (3)), .mov (.t 21), none, 16383⟩]) (.seq (.region false [
 ⟨(some (22)), .mov (.t 3), none, 0⟩,
 ⟨(some (23)), .mkslice 5760128064 4 1 1 [.bool false] (.t 22) (.t 22), none, 0⟩,
 ⟨(some (4)), .mov (.t 23), none, 0⟩]) (.seq (.region false [
 ⟨(some (5)), .mov (.i 0), none, 0⟩]) (.seq (.seq (.region false [
 ⟨(some (24)), .mov (.t 3), none, 0⟩,
 ⟨(some (25)), .mov (.i 0), none, 0⟩]) (.block 0 (.loop i90_l3))) i90_r4)))))⟩
def i57_l1 : ICode :=
(.seq (.region false [
 ⟨(some (25)), .bin .lss (.t 24) (.t 23), none, 0⟩]) (.seq (.cond (.t 25) (.skip) (.exit 0)) (.seq (.block 1 (.seq (.region false [
 ⟨(some (26)), .iaddr 1 (.t 22) (.t 24), none, 0⟩,
 ⟨(some (27)), .load none (.t 26), none, 0⟩,
 ⟨(some (4)), .mov (.t 27), none, 0⟩]) (.seq (.region false [
 ⟨(some (28)), .mov (.t 4), none, 0⟩,
 ⟨(some (29)), .call 3648384064 (.t 28) [], none, 0⟩,
 ⟨(some (30)), .un .not (.t 29), none, 0⟩]) (.cond (.t 30) (.seq (.region false [
 ⟨(some (2)), .mov (.b false), none, 0⟩]) (.ret)) (.skip))))) (.region false [
 ⟨(some (31)), .bin .add (.t 24) (.i 1), none, 0⟩,
 ⟨(some (24)), .mov (.t 31), none, 0⟩]))))
def i57_r2 : ICode :=
(.seq (.region false [
 ⟨(some (2)), .mov (.b true), none, 0⟩]) (.ret))
def i57 : IFn :=
⟨32, [(2, none)],
 (.seq (.region false [
 ⟨(some (2)), .mov (.b false), none, 0⟩]) (.seq (.seq (.region false [
 ⟨(some (5)), .mov (.t 0), none, 0⟩,
 ⟨(some (6)), .nilchk (.t 5), none, 0⟩,
 ⟨(some (7)), .faddr 0 (.t 6), none, 0⟩,
 ⟨(some (8)), .faddr 1 (.t 7), none, 0⟩,
 ⟨(some (9)), .load none (.t 8), none, 0⟩,
 ⟨(some (10)), .llen (.t 9), none, 0⟩,
 ⟨(some (11)), .bin .eql (.t 10) (.i 0), none, 0⟩]) (.cond (.t 11) (.seq (.region false [
 ⟨(some (2)), .mov (.b true), none, 0⟩]) (.ret)) (.skip))) (.seq (.seq (.region false [
 ⟨(some (12)), .mov (.t 0), none, 0⟩,
 ⟨(some (13)), .mkfn 86 [.t 12] [], none, 0⟩,
 ⟨(some (14)), .mov (.t 0), none, 0⟩,
 ⟨(some (15)), .mkfn 87 [.t 14] [], none, 0⟩,
 ⟨(some (16)), .mov (.t 0), none, 0⟩,
 ⟨(some (17)), .mkfn 88 [.t 16] [], none, 0⟩,
 ⟨(some (18)), .mov (.t 0), none, 0⟩,
 ⟨(some (19)), .mkfn 89 [.t 18] [], none, 0⟩,
 ⟨(some (20)), .mov (.t 0), none, 0⟩,
 ⟨(some (21)), .mkfn 90 [.t 20] [], none, 0⟩,
 ⟨(some (22)), .bslice 3648192640 22 1 [.t 13, .t 15, .t 17, .t 19, .t 21], none, 0⟩,
 ⟨(some (23)), .llen (.t 22), none, 0⟩,
 ⟨(some (24)), .mov (.i 0), none, 0⟩]) (.block 0 (.loop i57_l1))) i57_r2)))⟩
def i66 : IFn :=
⟨156, [(4, none)],
 (.seq (.region false [
 ⟨(some (4)), .mov (.i 0), none, 0⟩]) (.seq (.region true [
 ⟨(some (15)), .mov (.t 0), none, 0⟩,
 ⟨(some (16)), .nilchk (.t 15), none, 1⟩,
 ⟨(some (17)), .faddr 0 (.t 16), none, 3⟩,
 ⟨(some (18)), .faddr 1 (.t 17), none, 7⟩,
 ⟨(some (19)), .load none (.t 18), none, 15⟩,
 ⟨(some (20)), .llen (.t 19), none, 31⟩,
 ⟨(some (21)), .mov (.t 0), none, 0⟩,
 ⟨(some (22)), .nilchk (.t 21), none, 64⟩,
 ⟨(some (23)), .faddr 3 (.t 22), none, 192⟩,
 ⟨(some (24)), .load none (.t 23), none, 448⟩,
 ⟨(some (25)), .llen (.t 24), none, 960⟩,
 ⟨(some (5)), .mov (.t 20), none, 63⟩,
 ⟨(some (6)), .mov (.t 25), none, 4095⟩]) (.seq (.seq (.region false [
 ⟨(some (26)), .mov (.t 1), none, 0⟩,
 ⟨(some (27)), .mov (.t 5), none, 0⟩,
 ⟨(some (28)), .bin .mul (.i 2) (.t 27), none, 0⟩,
 ⟨(some (29)), .bin .geq (.t 26) (.t 28), none, 0⟩]) (.cond (.t 29) (.seq (.region false [
 ⟨(some (30)), .mov (.t 1), none, 0⟩,
 ⟨(some (31)), .mov (.t 5), none, 0⟩,
 ⟨(some (32)), .bin .mul (.i 2) (.t 31), none, 0⟩,
 ⟨(some (33)), .bin .sub (.t 30) (.t 32), none, 0⟩,
 ⟨(some (34)), .bin .quo (.t 33) (.i 2), none, 0⟩,
 ⟨(some (7)), .mov (.t 34), none, 0⟩]) (.seq (.region false [
 ⟨(some (35)), .mov (.t 1), none, 0⟩,
 ⟨(some (36)), .bin .rem (.t 35) (.i 2), none, 0⟩,
 ⟨(some (37)), .bin .eql (.t 36) (.i 0), none, 0⟩,
 ⟨(some (8)), .mov (.t 37), none, 0⟩]) (.seq (.region false [
 ⟨(some (38)), .mov (.t 0), none, 0⟩,
 ⟨(some (39)), .nilchk (.t 38), none, 0⟩,
 ⟨(some (40)), .faddr 3 (.t 39), none, 0⟩,
 ⟨(some (41)), .load none (.t 40), none, 0⟩,
 ⟨(some (42)), .mov (.t 7), none, 0⟩,
 ⟨(some (43)), .iaddr 1 (.t 41) (.t 42), none, 0⟩,
 ⟨(some (44)), .load none (.t 43), none, 0⟩,
 ⟨(some (9)), .mov (.t 44), none, 0⟩]) (.seq (.seq (.region false [
 ⟨(some (45)), .mov (.t 8), none, 0⟩]) (.cond (.t 45) (.region true [
 ⟨(some (46)), .mov (.t 0), none, 0⟩,
 ⟨(some (47)), .nilchk (.t 46), none, 1⟩,
 ⟨(some (48)), .faddr 3 (.t 47), none, 3⟩,
 ⟨(some (49)), .load none (.t 48), none, 7⟩,
 ⟨(some (50)), .mov (.t 7), none, 0⟩,
 ⟨(some (51)), .bin .add (.t 50) (.i 1), none, 16⟩,
 ⟨(some (52)), .mov (.t 6), none, 0⟩,
 ⟨(some (53)), .bin .rem (.t 51) (.t 52), none, 112⟩,
 ⟨(some (54)), .iaddr 1 (.t 49) (.t 53), none, 255⟩,
 ⟨(some (55)), .load none (.t 54), none, 511⟩,
 ⟨(some (9)), .mov (.t 55), none, 1023⟩]) (.skip))) (.seq (.seq (.region false [
 ⟨(some (56)), .mov (.t 8), none, 0⟩,
 ⟨(some (57)), .mov (.t 0), none, 0⟩,
 ⟨(some (58)), .nilchk (.t 57), none, 0⟩,
 ⟨(some (59)), .faddr 2 (.t 58), none, 0⟩,
 ⟨(some (60)), .load none (.t 59), none, 0⟩,
 ⟨(some (61)), .mov (.t 9), none, 0⟩,
 ⟨(some (62)), .iaddr 1 (.t 60) (.t 61), none, 0⟩,
 ⟨(some (63)), .load none (.t 62), none, 0⟩,
 ⟨(some (64)), .eqc .bool false (.t 56) (.t 63), none, 0⟩]) (.cond (.t 64) (.seq (.region false [
 ⟨(some (65)), .mov (.t 0), none, 0⟩,
 ⟨(some (66)), .mov (.t 9), none, 0⟩,
 ⟨(some (67)), .call 4224576128 (.k (.one (.p (.fn 102 [] [])))) [.t 65, .t 66], none, 0⟩,
 ⟨(some (4)), .mov (.t 67), none, 0⟩]) (.ret)) (.skip))) (.seq (.region false [
 ⟨(some (68)), .mov (.t 0), none, 0⟩,
 ⟨(some (69)), .mov (.t 9), none, 0⟩,
 ⟨(some (70)), .call 4224640128 (.k (.one (.p (.fn 103 [] [])))) [.t 68, .t 69], none, 0⟩,
 ⟨(some (4)), .mov (.t 70), none, 0⟩]) (.ret))))))) (.skip))) (.seq (.region false [
 ⟨(some (71)), .mov (.t 1), none, 0⟩,
 ⟨(some (72)), .bin .rem (.t 71) (.i 2), none, 0⟩,
 ⟨(some (73)), .bin .eql (.t 72) (.i 0), none, 0⟩,
 ⟨(some (10)), .mov (.t 73), none, 0⟩]) (.seq (.region false [
 ⟨(some (74)), .mov (.t 1), none, 0⟩,
 ⟨(some (75)), .bin .quo (.t 74) (.i 2), none, 0⟩,
 ⟨(some (11)), .mov (.t 75), none, 0⟩]) (.seq (.seq (.region false [
 ⟨(some (76)), .mov (.t 10), none, 0⟩]) (.cond (.t 76) (.region false [
 ⟨(some (77)), .mov (.t 11), none, 0⟩,
 ⟨(some (78)), .bin .add (.t 77) (.i 1), none, 0⟩,
 ⟨(some (79)), .mov (.t 5), none, 0⟩,
 ⟨(some (80)), .bin .rem (.t 78) (.t 79), none, 0⟩,
 ⟨(some (11)), .mov (.t 80), none, 0⟩]) (.skip))) (.seq (.region false [
 ⟨(some (81)), .mov (.t 0), none, 0⟩,
 ⟨(some (82)), .nilchk (.t 81), none, 0⟩,
 ⟨(some (83)), .faddr 0 (.t 82), none, 0⟩,
 ⟨(some (84)), .faddr 1 (.t 83), none, 0⟩,
 ⟨(some (85)), .load none (.t 84), none, 0⟩,
 ⟨(some (86)), .mov (.t 11), none, 0⟩,
 ⟨(some (87)), .iaddr 6 (.t 85) (.t 86), none, 0⟩,
 ⟨(some (88)), .load (some (6)) (.t 87), none, 0⟩,
 ⟨(some (12)), .alloc 4224960512 [.int .i64 0, .int .i64 0, .int .i64 0, .int .i64 0, .int .i64 0, .bool false], none, 0⟩,
 ⟨none, .store 6 (.t 12) (.t 88), none, 0⟩]) (.seq (.seq (.region false [
 ⟨(some (89)), .faddr 0 (.t 12), none, 0⟩,
 ⟨(some (90)), .load none (.t 89), none, 0⟩,
 ⟨(some (91)), .bin .eql (.t 90) (.i 1), none, 0⟩]) (.cond (.t 91) (.seq (.seq (.region false [
 ⟨(some (92)), .mov (.t 10), none, 0⟩,
 ⟨(some (93)), .mov (.t 0), none, 0⟩,
 ⟨(some (94)), .nilchk (.t 93), none, 0⟩,
 ⟨(some (95)), .faddr 2 (.t 94), none, 0⟩,
 ⟨(some (96)), .load none (.t 95), none, 0⟩,
 ⟨(some (97)), .mov (.t 11), none, 0⟩,
 ⟨(some (98)), .iaddr 1 (.t 96) (.t 97), none, 0⟩,
 ⟨(some (99)), .load none (.t 98), none, 0⟩,
 ⟨(some (100)), .eqc .bool false (.t 92) (.t 99), none, 0⟩]) (.cond (.t 100) (.seq (.region false [
 ⟨(some (101)), .mov (.t 5), none, 0⟩,
 ⟨(some (102)), .bin .mul (.i 2) (.t 101), none, 0⟩,
 ⟨(some (103)), .mov (.t 0), none, 0⟩,
 ⟨(some (104)), .nilchk (.t 103), none, 0⟩,
 ⟨(some (105)), .faddr 4 (.t 104), none, 0⟩,
 ⟨(some (106)), .load none (.t 105), none, 0⟩,
 ⟨(some (107)), .mov (.t 11), none, 0⟩,
 ⟨(some (108)), .iaddr 1 (.t 106) (.t 107), none, 0⟩,
 ⟨(some (109)), .load none (.t 108), none, 0⟩,
 ⟨(some (110)), .bin .mul (.i 2) (.t 109), none, 0⟩,
 ⟨(some (111)), .bin .add (.t 102) (.t 110), none, 0⟩,
 ⟨(some (4)), .mov (.t 111), none, 0⟩]) (.ret)) (.skip))) (.seq (.region false [
 ⟨(some (112)), .mov (.t 5), none, 0⟩,
 ⟨(some (113)), .bin .mul (.i 2) (.t 112), none, 0⟩,
 ⟨(some (114)), .mov (.t 0), none, 0⟩,
 ⟨(some (115)), .nilchk (.t 114), none, 0⟩,
 ⟨(some (116)), .faddr 4 (.t 115), none, 0⟩,
 ⟨(some (117)), .load none (.t 116), none, 0⟩,
 ⟨(some (118)), .mov (.t 11), none, 0⟩,
 ⟨(some (119)), .iaddr 1 (.t 117) (.t 118), none, 0⟩,
 ⟨(some (120)), .load none (.t 119), none, 0⟩,
 ⟨(some (121)), .bin .sub (.t 120) (.i 1), none, 0⟩,
 ⟨(some (122)), .mov (.t 6), none, 0⟩,
 ⟨(some (123)), .bin .add (.t 121) (.t 122), none, 0⟩,
 ⟨(some (124)), .mov (.t 6), none, 0⟩,
 ⟨(some (125)), .bin .rem (.t 123) (.t 124), none, 0⟩,
 ⟨(some (126)), .bin .mul (.i 2) (.t 125), none, 0⟩,
 ⟨(some (127)), .bin .add (.t 113) (.t 126), none, 0⟩,
 ⟨(some (128)), .bin .add (.t 127) (.i 1), none, 0⟩,
 ⟨(some (4)), .mov (.t 128), none, 0⟩]) (.ret))) (.skip))) (.seq (.region true [
 ⟨(some (129)), .mov (.t 0), none, 0⟩,
 ⟨(some (130)), .nilchk (.t 129), none, 1⟩,
 ⟨(some (131)), .faddr 5 (.t 130), none, 3⟩,
 ⟨(some (132)), .load none (.t 131), none, 7⟩,
 ⟨(some (133)), .faddr 3 (.t 12), none, 0⟩,
 ⟨(some (134)), .load none (.t 133), none, 16⟩,
 ⟨(some (135)), .lookup 0 [.int .i64 0, .int .i64 0] true false (.t 132) (.t 134), none, 63⟩,
 ⟨(some (13)), .alloc 4225280448 [.int .i64 0, .int .i64 0], none, 0⟩,
 ⟨none, .store 2 (.t 13) (.t 135), none, 255⟩]) (.seq (.region false [
 ⟨(some (136)), .aaddr 2 1 (.t 13) (.i 1), none, 0⟩,
 ⟨(some (137)), .load none (.t 136), none, 0⟩,
 ⟨(some (14)), .mov (.t 137), none, 0⟩]) (.seq (.seq (.region false [
 ⟨(some (138)), .faddr 5 (.t 12), none, 0⟩,
 ⟨(some (139)), .load none (.t 138), none, 0⟩]) (.cond (.t 139) (.region false [
 ⟨(some (140)), .aaddr 2 1 (.t 13) (.i 0), none, 0⟩,
 ⟨(some (141)), .load none (.t 140), none, 0⟩,
 ⟨(some (14)), .mov (.t 141), none, 0⟩]) (.skip))) (.seq (.seq (.region false [
 ⟨(some (142)), .mov (.t 10), none, 0⟩,
 ⟨(some (143)), .faddr 5 (.t 12), none, 0⟩,
 ⟨(some (144)), .load none (.t 143), none, 0⟩,
 ⟨(some (145)), .faddr 4 (.t 12), none, 0⟩,
 ⟨(some (146)), .load none (.t 145), none, 0⟩,
 ⟨(some (147)), .bin .eql (.t 146) (.i 1), none, 0⟩,
 ⟨(some (148)), .eqc .bool false (.t 144) (.t 147), none, 0⟩,
 ⟨(some (149)), .eqc .bool false (.t 142) (.t 148), none, 0⟩]) (.cond (.t 149) (.seq (.region false [
 ⟨(some (150)), .mov (.t 0), none, 0⟩,
 ⟨(some (151)), .mov (.t 14), none, 0⟩,
 ⟨(some (152)), .call 4225600128 (.k (.one (.p (.fn 103 [] [])))) [.t 150, .t 151], none, 0⟩,
 ⟨(some (4)), .mov (.t 152), none, 0⟩]) (.ret)) (.skip))) (.seq (.region false [
 ⟨(some (153)), .mov (.t 0), none, 0⟩,
 ⟨(some (154)), .mov (.t 14), none, 0⟩,
 ⟨(some (155)), .call 4225664128 (.k (.one (.p (.fn 102 [] [])))) [.t 153, .t 154], none, 0⟩,
 ⟨(some (4)), .mov (.t 155), none, 0⟩]) (.ret))))))))))))))⟩
def i103 : IFn :=
⟨7, [(4, none)],
 (.seq (.region false [
 ⟨(some (4)), .mov (.i 0), none, 0⟩]) (.seq (.region false [
 ⟨(some (5)), .mov (.t 1), none, 0⟩,
 ⟨(some (6)), .bin .mul (.i 2) (.t 5), none, 0⟩,
 ⟨(some (4)), .mov (.t 6), none, 0⟩]) (.ret)))⟩
def i102 : IFn :=
⟨20, [(4, none)],
 (.seq (.region false [
 ⟨(some (4)), .mov (.i 0), none, 0⟩]) (.seq (.region false [
 ⟨(some (6)), .mov (.t 0), none, 0⟩,
 ⟨(some (7)), .nilchk (.t 6), none, 0⟩,
 ⟨(some (8)), .faddr 0 (.t 7), none, 0⟩,
 ⟨(some (9)), .faddr 1 (.t 8), none, 0⟩,
 ⟨(some (10)), .load none (.t 9), none, 0⟩,
 ⟨(some (11)), .llen (.t 10), none, 0⟩,
 ⟨(some (5)), .mov (.t 11), none, 0⟩]) (.seq (.region false [
 ⟨(some (12)), .mov (.t 1), none, 0⟩,
 ⟨(some (13)), .bin .sub (.t 12) (.i 1), none, 0⟩,
 ⟨(some (14)), .mov (.t 5), none, 0⟩,
 ⟨(some (15)), .bin .add (.t 13) (.t 14), none, 0⟩,
 ⟨(some (16)), .mov (.t 5), none, 0⟩,
 ⟨(some (17)), .bin .rem (.t 15) (.t 16), none, 0⟩,
 ⟨(some (18)), .bin .mul (.i 2) (.t 17), none, 0⟩,
 ⟨(some (19)), .bin .add (.t 18) (.i 1), none, 0⟩,
 ⟨(some (4)), .mov (.t 19), none, 0⟩]) (.ret))))⟩
def i111 : IFn :=
⟨9, [(4, none)],
 (.seq (.region false [
 ⟨(some (4)), .mov (.b false), none, 0⟩]) (.seq (.region false [
 ⟨(some (5)), .mov (.t 0), none, 0⟩,
 ⟨(some (6)), .mov (.t 1), none, 0⟩,
 ⟨(some (7)), .call 7104064128 (.k (.one (.p (.fn 140 [] [])))) [.t 5, .t 6], none, 0⟩,
 ⟨(some (8)), .bin .geq (.t 7) (.i 0), none, 0⟩,
 ⟨(some (4)), .mov (.t 8), none, 0⟩]) (.ret)))⟩
def i140_l1 : ICode :=
(.seq (.region false [
 ⟨(some (9)), .bin .lss (.t 8) (.t 7), none, 0⟩]) (.seq (.cond (.t 9) (.skip) (.exit 0)) (.seq (.block 1 (.seq (.region false [
 ⟨(some (10)), .mov (.t 8), none, 0⟩,
 ⟨(some (5)), .mov (.t 10), none, 0⟩]) (.seq (.region false [
 ⟨(some (11)), .mov (.t 1), none, 0⟩,
 ⟨(some (12)), .mov (.t 0), none, 0⟩,
 ⟨(some (13)), .mov (.t 5), none, 0⟩,
 ⟨(some (14)), .iaddr 6 (.t 12) (.t 13), none, 0⟩,
 ⟨(some (15)), .load (some (6)) (.t 14), none, 0⟩,
 ⟨(some (16)), .call 8960256320 (.t 11) [.t 15], none, 0⟩]) (.cond (.t 16) (.seq (.region false [
 ⟨(some (17)), .mov (.t 5), none, 0⟩,
 ⟨(some (4)), .mov (.t 17), none, 0⟩]) (.ret)) (.skip))))) (.region false [
 ⟨(some (18)), .bin .add (.t 8) (.i 1), none, 0⟩,
 ⟨(some (8)), .mov (.t 18), none, 0⟩]))))
def i140_r2 : ICode :=
(.seq (.region false [
 ⟨(some (4)), .mov (.i (-1)), none, 0⟩]) (.ret))
def i140 : IFn :=
⟨19, [(4, none)],
 (.seq (.region false [
 ⟨(some (4)), .mov (.i 0), none, 0⟩]) (.seq (.seq (.region false [
 ⟨(some (6)), .mov (.t 0), none, 0⟩,
 ⟨(some (7)), .llen (.t 6), none, 0⟩,
 ⟨(some (8)), .mov (.i 0), none, 0⟩]) (.block 0 (.loop i140_l1))) i140_r2))⟩
def i27_l1 : ICode :=
(.seq (.region false [
 ⟨(some (31)), .bin .lss (.t 30) (.t 29), none, 0⟩]) (.seq (.cond (.t 31) (.skip) (.exit 0)) (.seq (.block 1 (.seq (.region false [
 ⟨(some (32)), .mov (.t 30), none, 0⟩,
 ⟨(some (9)), .mov (.t 32), none, 0⟩]) (.seq (.region false [
 ⟨(some (33)), .mov (.t 7), none, 0⟩,
 ⟨(some (34)), .mov (.t 9), none, 0⟩,
 ⟨(some (35)), .iaddr 1 (.t 33) (.t 34), none, 0⟩,
 ⟨(some (36)), .load none (.t 35), none, 0⟩,
 ⟨(some (37)), .un .not (.t 36), none, 0⟩]) (.cond (.t 37) (.region false [
 ⟨(some (38)), .mov (.t 6), none, 0⟩,
 ⟨(some (39)), .mov (.t 4), none, 0⟩,
 ⟨(some (40)), .mov (.t 9), none, 0⟩,
 ⟨(some (41)), .mov (.t 7), none, 0⟩,
 ⟨(some (42)), .mov (.t 8), none, 0⟩,
 ⟨(some (43)), .call 1728704320 (.k (.one (.p (.fn 43 [] [])))) [.t 39, .t 40, .t 41, .t 42], none, 0⟩,
 ⟨(some (44)), .bslice 1728704384 78 5 [.t 43], none, 0⟩,
 ⟨(some (45)), .append 1728704448 78 5 88 (.t 38) (.t 44), none, 0⟩,
 ⟨(some (6)), .mov (.t 45), none, 0⟩]) (.skip))))) (.region false [
 ⟨(some (46)), .bin .add (.t 30) (.i 1), none, 0⟩,
 ⟨(some (30)), .mov (.t 46), none, 0⟩]))))
def i27_r2 : ICode :=
(.seq (.region false [
 ⟨(some (47)), .mov (.t 6), none, 0⟩,
 ⟨(some (2)), .mov (.t 47), none, 0⟩,
 ⟨(some (3)), .mov (.i 0), none, 0⟩]) (.ret))
def i27 : IFn :=
⟨48, [(2, none), (3, none)],
 (.seq (.region false [
 ⟨(some (1)), .box 1728000000 (.t 0), none, 0⟩,
 ⟨(some (2)), .mov (.k (.one (.p (.nils)))), none, 0⟩,
 ⟨(some (3)), .mov (.i 0), none, 0⟩]) (.seq (.region false [
 ⟨(some (11)), .load (some (2)) (.t 1), none, 0⟩,
 ⟨(some (12)), .call 1728064064 (.k (.one (.p (.fn 34 [] [])))) [.t 11], none, 0⟩,
 ⟨(some (10)), .mov (.t 12), none, 0⟩,
 ⟨(some (13)), .extract (.t 10) 0, none, 0⟩,
 ⟨(some (14)), .extract (.t 10) 1, none, 0⟩,
 ⟨(some (4)), .mov (.t 13), none, 0⟩,
 ⟨(some (5)), .mov (.t 14), none, 0⟩]) (.seq (.seq (.region false [
 ⟨(some (15)), .mov (.t 5), none, 0⟩,
 ⟨(some (16)), .bin .neq (.t 15) (.i 0), none, 0⟩]) (.cond (.t 16) (.seq (.region false [
 ⟨(some (17)), .mov (.t 5), none, 0⟩,
 ⟨(some (2)), .mov (.k (.one (.p (.nils)))), none, 0⟩,
 ⟨(some (3)), .mov (.t 17), none, 0⟩]) (.ret)) (.skip))) (.seq (.region false [
 ⟨(some (6)), .mov (.k (.one (.p (.nils)))), none, 0⟩]) (.seq (.region false [
 ⟨(some (18)), .mov (.t 4), none, 0⟩,
 ⟨(some (19)), .nilchk (.t 18), none, 0⟩,
 ⟨(some (20)), .faddr 0 (.t 19), none, 0⟩,
 ⟨(some (21)), .faddr 1 (.t 20), none, 0⟩,
 ⟨(some (22)), .load none (.t 21), none, 0⟩,
 ⟨(some (23)), .llen (.t 22), none, 0⟩,
 ⟨(some (24)), .bin .mul (.i 2) (.t 23), none, 0⟩,
 ⟨(some (25)), .mkslice 1728320448 4 1 1 [.bool false] (.t 24) (.t 24), none, 0⟩,
 ⟨(some (7)), .mov (.t 25), none, 0⟩]) (.seq (.region false [
 ⟨(some (26)), .mov (.t 4), none, 0⟩,
 ⟨(some (27)), .call 1728384064 (.k (.one (.p (.fn 42 [] [])))) [.t 26], none, 0⟩,
 ⟨(some (8)), .mov (.t 27), none, 0⟩]) (.seq (.seq (.region false [
 ⟨(some (28)), .mov (.t 7), none, 0⟩,
 ⟨(some (29)), .llen (.t 28), none, 0⟩,
 ⟨(some (30)), .mov (.i 0), none, 0⟩]) (.block 0 (.loop i27_l1))) i27_r2)))))))⟩
def i15_l1 : ICode :=
(.seq (.region false [
 ⟨(some (45)), .bin .lss (.t 44) (.t 43), none, 0⟩]) (.seq (.cond (.t 45) (.skip) (.exit 0)) (.seq (.block 1 (.seq (.region false [
 ⟨(some (46)), .iaddr 6 (.t 42) (.t 44), none, 0⟩,
 ⟨(some (47)), .load (some (6)) (.t 46), none, 0⟩,
 ⟨(some (9)), .alloc 960512128 [.int .i64 0, .int .i64 0, .int .i64 0, .int .i64 0, .int .i64 0, .bool false], none, 0⟩,
 ⟨none, .store 6 (.t 9) (.t 47), none, 0⟩]) (.seq (.region false [
 ⟨(some (48)), .load (some (6)) (.t 9), none, 0⟩,
 ⟨(some (49)), .build [.int .i64 0, .int .i64 0, .int .i64 0, .int .i64 0, .int .i64 0, .bool false, .bool false] [(0, 6, .t 48)], none, 0⟩,
 ⟨(some (10)), .alloc 960576128 [.int .i64 0, .int .i64 0, .int .i64 0, .int .i64 0, .int .i64 0, .bool false, .bool false], none, 0⟩,
 ⟨none, .store 7 (.t 10) (.t 49), none, 0⟩]) (.seq (.seq (.region false [
 ⟨(some (50)), .faddr 0 (.t 9), none, 0⟩,
 ⟨(some (51)), .load none (.t 50), none, 0⟩,
 ⟨(some (52)), .bin .eql (.t 51) (.i 1), none, 0⟩]) (.cond (.t 52) (.seq (.region false [
 ⟨(some (53)), .mov (.t 7), none, 0⟩,
 ⟨(some (54)), .faddr 6 (.t 10), none, 0⟩,
 ⟨none, .store 1 (.t 54) (.t 53), none, 0⟩]) (.seq (.region false [
 ⟨(some (55)), .mov (.t 7), none, 0⟩,
 ⟨(some (56)), .un .not (.t 55), none, 0⟩,
 ⟨(some (7)), .mov (.t 56), none, 0⟩]) (.region true [
 ⟨(some (57)), .mov (.t 6), none, 0⟩,
 ⟨(some (58)), .nilchk (.t 57), none, 1⟩,
 ⟨(some (59)), .faddr 6 (.t 58), none, 3⟩,
 ⟨(some (60)), .load none (.t 59), none, 7⟩,
 ⟨(some (61)), .faddr 1 (.t 9), none, 0⟩,
 ⟨(some (62)), .load none (.t 61), none, 16⟩,
 ⟨(some (63)), .iaddr 1 (.t 60) (.t 62), none, 63⟩,
 ⟨(some (64)), .load none (.t 63), none, 127⟩,
 ⟨(some (65)), .bin .add (.t 64) (.i 1), none, 255⟩,
 ⟨(some (66)), .iaddr 1 (.t 60) (.t 62), none, 511⟩,
 ⟨none, .store 1 (.t 66) (.t 65), none, 1023⟩]))) (.skip))) (.region true [
 ⟨(some (67)), .mov (.t 6), none, 0⟩,
 ⟨(some (68)), .mov (.t 6), none, 0⟩,
 ⟨(some (69)), .nilchk (.t 68), none, 2⟩,
 ⟨(some (70)), .faddr 1 (.t 69), none, 6⟩,
 ⟨(some (71)), .load none (.t 70), none, 14⟩,
 ⟨(some (72)), .load (some (7)) (.t 10), none, 0⟩,
 ⟨(some (73)), .bslice 960896384 75 7 [.t 72], none, 32⟩,
 ⟨(some (74)), .append 960896448 75 7 56 (.t 71) (.t 73), none, 126⟩,
 ⟨(some (75)), .nilchk (.t 67), none, 255⟩,
 ⟨(some (76)), .faddr 1 (.t 75), none, 511⟩,
 ⟨none, .store 1 (.t 76) (.t 74), none, 1023⟩]))))) (.region false [
 ⟨(some (77)), .bin .add (.t 44) (.i 1), none, 0⟩,
 ⟨(some (44)), .mov (.t 77), none, 0⟩]))))
def i15_l2 : ICode :=
(.seq (.region false [
 ⟨(some (89)), .bin .lss (.t 88) (.t 87), none, 0⟩]) (.seq (.cond (.t 89) (.skip) (.exit 4)) (.seq (.block 5 (.seq (.region false [
 ⟨(some (90)), .iaddr 1 (.t 86) (.t 88), none, 0⟩,
 ⟨(some (91)), .load none (.t 90), none, 0⟩,
 ⟨(some (14)), .mov (.t 91), none, 0⟩]) (.region false [
 ⟨(some (92)), .mov (.t 6), none, 0⟩,
 ⟨(some (93)), .nilchk (.t 92), none, 0⟩,
 ⟨(some (94)), .faddr 3 (.t 93), none, 0⟩,
 ⟨(some (95)), .load none (.t 94), none, 0⟩,
 ⟨(some (96)), .mov (.t 14), none, 0⟩,
 ⟨(some (97)), .mov (.t 11), none, 0⟩,
 ⟨(some (98)), .iaddr 1 (.t 95) (.t 96), none, 0⟩,
 ⟨none, .store 1 (.t 98) (.t 97), none, 0⟩]))) (.region false [
 ⟨(some (99)), .bin .add (.t 88) (.i 1), none, 0⟩,
 ⟨(some (88)), .mov (.t 99), none, 0⟩]))))
def i15_r3 : ICode :=
(.region false [
 ⟨(some (100)), .bin .add (.t 80) (.i 1), none, 0⟩,
 ⟨(some (80)), .mov (.t 100), none, 0⟩])
def i15_l4 : ICode :=
(.seq (.region false [
 ⟨(some (81)), .bin .lss (.t 80) (.t 79), none, 0⟩]) (.seq (.cond (.t 81) (.skip) (.exit 2)) (.seq (.block 3 (.seq (.region false [
 ⟨(some (82)), .mov (.t 80), none, 0⟩,
 ⟨(some (83)), .iaddr 5 (.t 78) (.t 80), none, 0⟩,
 ⟨(some (84)), .load (some (5)) (.t 83), none, 0⟩,
 ⟨(some (12)), .alloc 961152192 [.bool false, .nils, .nils, .nils, .bool false], none, 0⟩,
 ⟨(some (11)), .mov (.t 82), none, 0⟩,
 ⟨none, .store 5 (.t 12) (.t 84), none, 0⟩]) (.seq (.region false [
 ⟨(some (85)), .faddr 1 (.t 12), none, 0⟩,
 ⟨(some (86)), .load none (.t 85), none, 0⟩,
 ⟨(some (87)), .llen (.t 86), none, 0⟩,
 ⟨(some (88)), .mov (.i 0), none, 0⟩]) (.block 4 (.loop i15_l2))))) i15_r3)))
def i15_r5 : ICode :=
(.seq (.region false [
 ⟨(some (101)), .mov (.t 6), none, 0⟩,
 ⟨(some (2)), .mov (.t 101), none, 0⟩,
 ⟨(some (3)), .mov (.i 0), none, 0⟩]) (.ret))
def i15_r6 : ICode :=
(.seq (.seq (.region false [
 ⟨(some (78)), .mov (.t 4), none, 0⟩,
 ⟨(some (79)), .llen (.t 78), none, 0⟩,
 ⟨(some (80)), .mov (.i 0), none, 0⟩]) (.block 2 (.loop i15_l4))) i15_r5)
def i15 : IFn :=
⟨102, [(2, none), (3, none)],
 (.seq (.region false [
 ⟨(some (1)), .box 960000000 (.t 0), none, 0⟩,
 ⟨(some (2)), .mov (.k (.one (.p (.nilp)))), none, 0⟩,
 ⟨(some (3)), .mov (.i 0), none, 0⟩]) (.seq (.region false [
 ⟨(some (16)), .load (some (2)) (.t 1), none, 0⟩,
 ⟨(some (17)), .call 960064064 (.k (.one (.p (.fn 27 [] [])))) [.t 16], none, 0⟩,
 ⟨(some (15)), .mov (.t 17), none, 0⟩,
 ⟨(some (18)), .extract (.t 15) 0, none, 0⟩,
 ⟨(some (19)), .extract (.t 15) 1, none, 0⟩,
 ⟨(some (4)), .mov (.t 18), none, 0⟩,
 ⟨(some (5)), .mov (.t 19), none, 0⟩]) (.seq (.seq (.region false [
 ⟨(some (20)), .mov (.t 5), none, 0⟩,
 ⟨(some (21)), .bin .neq (.t 20) (.i 0), none, 0⟩]) (.cond (.t 21) (.seq (.region false [
 ⟨(some (22)), .mov (.t 5), none, 0⟩,
 ⟨(some (2)), .mov (.k (.one (.p (.nilp)))), none, 0⟩,
 ⟨(some (3)), .mov (.t 22), none, 0⟩]) (.ret)) (.skip))) (.seq (.region true [
 ⟨(some (23)), .faddr 0 (.t 1), none, 0⟩,
 ⟨(some (24)), .load none (.t 23), none, 1⟩,
 ⟨(some (25)), .mov (.t 4), none, 0⟩,
 ⟨(some (26)), .faddr 1 (.t 1), none, 0⟩,
 ⟨(some (27)), .load none (.t 26), none, 8⟩,
 ⟨(some (28)), .llen (.t 27), none, 24⟩,
 ⟨(some (29)), .bin .mul (.i 2) (.t 28), none, 56⟩,
 ⟨(some (30)), .mkslice 960256448 3 1 8 [.int .i64 0] (.t 29) (.t 29), none, 120⟩,
 ⟨(some (31)), .load (some (2)) (.t 1), none, 0⟩,
 ⟨(some (32)), .call 960256576 (.k (.one (.p (.fn 28 [] [])))) [.t 31], none, 256⟩,
 ⟨(some (33)), .load (some (2)) (.t 1), none, 0⟩,
 ⟨(some (34)), .call 960256704 (.k (.one (.p (.fn 29 [] [])))) [.t 33], none, 1792⟩,
 ⟨(some (35)), .faddr 0 (.t 1), none, 0⟩,
 ⟨(some (36)), .load none (.t 35), none, 4096⟩,
 ⟨(some (37)), .bin .add (.t 36) (.i 1), none, 12288⟩,
 ⟨(some (38)), .mkslice 960256960 3 1 8 [.int .i64 0] (.t 37) (.t 37), none, 28672⟩,
 ⟨(some (39)), .build [.int .i64 0, .nils, .nils, .nils, .int .i64 0, .int .i64 0, .nils] [(0, 1, .t 24), (2, 1, .t 25), (3, 1, .t 30), (4, 1, .t 32), (5, 1, .t 34), (6, 1, .t 38)], none, 65535⟩,
 ⟨(some (40)), .box 960257088 (.t 39), none, 131071⟩,
 ⟨(some (6)), .mov (.t 40), none, 262143⟩]) (.seq (.region false [
 ⟨(some (7)), .mov (.b true), none, 0⟩]) (.seq (.seq (.region false [
 ⟨(some (41)), .faddr 1 (.t 1), none, 0⟩,
 ⟨(some (42)), .load none (.t 41), none, 0⟩,
 ⟨(some (43)), .llen (.t 42), none, 0⟩,
 ⟨(some (44)), .mov (.i 0), none, 0⟩]) (.block 0 (.loop i15_l1))) i15_r6))))))⟩
def i6 : IFn :=
⟨22, [(4, some (some (2))), (5, none)],
 (.seq (.region false [
 ⟨(some (2)), .box 384000000 (.t 0), none, 0⟩,
 ⟨(some (3)), .box 384000064 (.t 1), none, 0⟩,
 ⟨(some (4)), .alloc 384000128 [.int .i64 0, .nils], none, 0⟩,
 ⟨(some (5)), .mov (.i 0), none, 0⟩]) (.seq (.region false [
 ⟨(some (9)), .load (some (2)) (.t 2), none, 0⟩,
 ⟨(some (10)), .call 384064064 (.k (.one (.p (.fn 15 [] [])))) [.t 9], none, 0⟩,
 ⟨(some (8)), .mov (.t 10), none, 0⟩,
 ⟨(some (11)), .extract (.t 8) 0, none, 0⟩,
 ⟨(some (12)), .extract (.t 8) 1, none, 0⟩,
 ⟨(some (6)), .mov (.t 11), none, 0⟩,
 ⟨(some (7)), .mov (.t 12), none, 0⟩]) (.seq (.seq (.region false [
 ⟨(some (13)), .mov (.t 7), none, 0⟩,
 ⟨(some (14)), .bin .neq (.t 13) (.i 0), none, 0⟩]) (.cond (.t 14) (.seq (.region false [
 ⟨(some (15)), .build [.int .i64 0, .nils] [], none, 0⟩,
 ⟨(some (16)), .mov (.t 7), none, 0⟩,
 ⟨none, .store 2 (.t 4) (.t 15), none, 0⟩,
 ⟨(some (5)), .mov (.t 16), none, 0⟩]) (.ret)) (.skip))) (.seq (.region false [
 ⟨(some (17)), .mov (.t 6), none, 0⟩,
 ⟨(some (18)), .load (some (7)) (.t 3), none, 0⟩,
 ⟨(some (19)), .call 384256128 (.k (.one (.p (.fn 16 [] [])))) [.t 17, .t 18], none, 0⟩,
 ⟨(some (20)), .extract (.t 19) 0, none, 0⟩,
 ⟨(some (21)), .extract (.t 19) 1, none, 0⟩,
 ⟨none, .store 2 (.t 4) (.t 20), none, 0⟩,
 ⟨(some (5)), .mov (.t 21), none, 0⟩]) (.ret)))))⟩
def i14 : IFn :=
⟨25, [(4, none), (5, none)],
 (.seq (.region false [
 ⟨(some (2)), .box 896000000 (.t 0), none, 0⟩,
 ⟨(some (4)), .mov (.k (.one (.p (.nils)))), none, 0⟩,
 ⟨(some (5)), .mov (.i 0), none, 0⟩]) (.seq (.region false [
 ⟨(some (11)), .load (some (2)) (.t 2), none, 0⟩,
 ⟨(some (12)), .call 896064064 (.k (.one (.p (.fn 15 [] [])))) [.t 11], none, 0⟩,
 ⟨(some (10)), .mov (.t 12), none, 0⟩,
 ⟨(some (13)), .extract (.t 10) 0, none, 0⟩,
 ⟨(some (14)), .extract (.t 10) 1, none, 0⟩,
 ⟨(some (6)), .mov (.t 13), none, 0⟩,
 ⟨(some (7)), .mov (.t 14), none, 0⟩]) (.seq (.seq (.region false [
 ⟨(some (15)), .mov (.t 7), none, 0⟩,
 ⟨(some (16)), .bin .neq (.t 15) (.i 0), none, 0⟩]) (.cond (.t 16) (.seq (.region false [
 ⟨(some (17)), .mov (.t 7), none, 0⟩,
 ⟨(some (4)), .mov (.k (.one (.p (.nils)))), none, 0⟩,
 ⟨(some (5)), .mov (.t 17), none, 0⟩]) (.ret)) (.skip))) (.seq (.region false [
 ⟨(some (19)), .mov (.t 6), none, 0⟩,
 ⟨(some (20)), .mov (.t 1), none, 0⟩,
 ⟨(some (21)), .call 896256128 (.k (.one (.p (.fn 26 [] [])))) [.t 19, .t 20], none, 0⟩,
 ⟨(some (18)), .mov (.t 21), none, 0⟩,
 ⟨(some (22)), .extract (.t 18) 0, none, 0⟩,
 ⟨(some (23)), .extract (.t 18) 1, none, 0⟩,
 ⟨(some (8)), .mov (.t 22), none, 0⟩,
 ⟨(some (9)), .mov (.t 23), none, 0⟩]) (.seq (.region false [
 ⟨(some (24)), .mov (.t 8), none, 0⟩,
 ⟨(some (4)), .mov (.t 24), none, 0⟩,
 ⟨(some (5)), .mov (.i 0), none, 0⟩]) (.ret))))))⟩
def i5_l1 : ICode :=
(.seq (.seq (.region false [
 ⟨(some (6)), .mov (.t 5), none, 0⟩,
 ⟨(some (7)), .bin .leq (.t 6) (.i 10), none, 0⟩]) (.cond (.t 7) (.skip) (.exit 0))) (.seq (.block 1 (.region false [
 ⟨(some (10)), .mov (.t 4), none, 0⟩,
 ⟨(some (11)), .mov (.t 5), none, 0⟩,
 ⟨(some (12)), .bslice 320320128 30 1 [.t 11], none, 0⟩,
 ⟨(some (13)), .append 320320192 30 1 8 (.t 10) (.t 12), none, 0⟩,
 ⟨(some (4)), .mov (.t 13), none, 0⟩])) (.region false [
 ⟨(some (8)), .mov (.t 5), none, 0⟩,
 ⟨(some (9)), .bin .add (.t 8) (.i 1), none, 0⟩,
 ⟨(some (5)), .mov (.t 9), none, 0⟩])))
def i5_r2 : ICode :=
(.seq (.region false [
 ⟨(some (14)), .load (some (2)) (.t 1), none, 0⟩,
 ⟨(some (15)), .mov (.t 4), none, 0⟩,
 ⟨(some (16)), .call 320384128 (.k (.one (.p (.fn 14 [] [])))) [.t 14, .t 15], none, 0⟩,
 ⟨(some (17)), .extract (.t 16) 0, none, 0⟩,
 ⟨(some (18)), .extract (.t 16) 1, none, 0⟩,
 ⟨(some (2)), .mov (.t 17), none, 0⟩,
 ⟨(some (3)), .mov (.t 18), none, 0⟩]) (.ret))
def i5 : IFn :=
⟨19, [(2, none), (3, none)],
 (.seq (.region false [
 ⟨(some (1)), .box 320000000 (.t 0), none, 0⟩,
 ⟨(some (2)), .mov (.k (.one (.p (.nils)))), none, 0⟩,
 ⟨(some (3)), .mov (.i 0), none, 0⟩]) (.seq (.region false [
 ⟨(some (4)), .mov (.k (.one (.p (.nils)))), none, 0⟩]) (.seq (.seq (.region false [
 ⟨(some (5)), .mov (.i 1), none, 0⟩]) (.block 0 (.loop i5_l1))) i5_r2)))⟩
def i9_l1 : ICode :=
(.seq (.seq (.region false [
 ⟨(some (20)), .mov (.t 5), none, 0⟩,
 ⟨(some (21)), .faddr 1 (.t 2), none, 0⟩,
 ⟨(some (22)), .load none (.t 21), none, 0⟩,
 ⟨(some (23)), .llen (.t 22), none, 0⟩,
 ⟨(some (24)), .bin .lss (.t 20) (.t 23), none, 0⟩]) (.cond (.t 24) (.skip) (.exit 0))) (.seq (.block 1 (.seq (.region true [
 ⟨(some (27)), .faddr 1 (.t 2), none, 0⟩,
 ⟨(some (28)), .load none (.t 27), none, 1⟩,
 ⟨(some (29)), .mov (.t 5), none, 0⟩,
 ⟨(some (30)), .iaddr 6 (.t 28) (.t 29), none, 7⟩,
 ⟨(some (31)), .load (some (6)) (.t 30), none, 15⟩,
 ⟨(some (32)), .faddr 1 (.t 3), none, 0⟩,
 ⟨(some (33)), .load none (.t 32), none, 32⟩,
 ⟨(some (34)), .mov (.t 5), none, 0⟩,
 ⟨(some (35)), .iaddr 6 (.t 33) (.t 34), none, 224⟩,
 ⟨(some (36)), .load (some (6)) (.t 35), none, 480⟩,
 ⟨(some (37)), .eqc (.str [true, true, true, true, true, false]) true (.t 31) (.t 36), none, 1023⟩]) (.cond (.t 37) (.seq (.region false [
 ⟨(some (4)), .mov (.b false), none, 0⟩]) (.ret)) (.skip)))) (.region false [
 ⟨(some (25)), .mov (.t 5), none, 0⟩,
 ⟨(some (26)), .bin .add (.t 25) (.i 1), none, 0⟩,
 ⟨(some (5)), .mov (.t 26), none, 0⟩])))
def i9_r2 : ICode :=
(.seq (.region false [
 ⟨(some (4)), .mov (.b true), none, 0⟩]) (.ret))
def i9 : IFn :=
⟨38, [(4, none)],
 (.seq (.region false [
 ⟨(some (2)), .box 576000000 (.t 0), none, 0⟩,
 ⟨(some (3)), .box 576000064 (.t 1), none, 0⟩,
 ⟨(some (4)), .mov (.b false), none, 0⟩]) (.seq (.seq (.region false [
 ⟨(some (6)), .faddr 0 (.t 2), none, 0⟩,
 ⟨(some (7)), .load none (.t 6), none, 0⟩,
 ⟨(some (8)), .faddr 0 (.t 3), none, 0⟩,
 ⟨(some (9)), .load none (.t 8), none, 0⟩,
 ⟨(some (10)), .bin .neq (.t 7) (.t 9), none, 0⟩,
 ⟨(some (11)), .mov (.t 10), none, 0⟩,
 ⟨(some (12)), .faddr 1 (.t 2), (some (11, false)), 0⟩,
 ⟨(some (13)), .load none (.t 12), (some (11, false)), 0⟩,
 ⟨(some (14)), .llen (.t 13), (some (11, false)), 0⟩,
 ⟨(some (15)), .faddr 1 (.t 3), (some (11, false)), 0⟩,
 ⟨(some (16)), .load none (.t 15), (some (11, false)), 0⟩,
 ⟨(some (17)), .llen (.t 16), (some (11, false)), 0⟩,
 ⟨(some (18)), .bin .neq (.t 14) (.t 17), (some (11, false)), 0⟩,
 ⟨(some (19)), .pick (.t 11) (.b true) (.t 18), none, 0⟩]) (.cond (.t 19) (.seq (.region false [
 ⟨(some (4)), .mov (.b false), none, 0⟩]) (.ret)) (.skip))) (.seq (.seq (.region false [
 ⟨(some (5)), .mov (.i 0), none, 0⟩]) (.block 0 (.loop i9_l1))) i9_r2)))⟩
def i3_l1 : ICode :=
(.seq (.seq (.region false [
 ⟨(some (34)), .mov (.t 6), none, 0⟩,
 ⟨(some (35)), .mov (.t 0), none, 0⟩,
 ⟨(some (36)), .bin .leq (.t 34) (.t 35), none, 0⟩]) (.cond (.t 36) (.skip) (.exit 0))) (.seq (.block 1 (.seq (.seq (.region false [
 ⟨(some (39)), .mov (.t 4), none, 0⟩,
 ⟨(some (40)), .mov (.t 6), none, 0⟩,
 ⟨(some (41)), .iaddr 7 (.t 39) (.t 40), none, 0⟩,
 ⟨(some (42)), .load (some (7)) (.t 41), none, 0⟩,
 ⟨(some (43)), .mov (.t 6), none, 0⟩,
 ⟨(some (44)), .build [.int .i64 0, .int .i64 0, .int .i64 0, .int .i64 0, .bool false, .bool false, .int .i64 0] [(0, 1, .i 2), (2, 1, .t 43)], none, 0⟩,
 ⟨(some (45)), .eqc (.str [true, true, true, true, false, false, true]) true (.t 42) (.t 44), none, 0⟩]) (.cond (.t 45) (.seq (.region false [
 ⟨(some (2)), .mov (.b false), none, 0⟩]) (.ret)) (.skip))) (.seq (.region true [
 ⟨(some (47)), .load (some (2)) (.t 3), none, 0⟩,
 ⟨(some (48)), .mov (.t 4), none, 0⟩,
 ⟨(some (49)), .mov (.t 6), none, 0⟩,
 ⟨(some (50)), .iaddr 7 (.t 48) (.t 49), none, 6⟩,
 ⟨(some (51)), .load (some (7)) (.t 50), none, 14⟩,
 ⟨(some (52)), .call 192768320 (.k (.one (.p (.fn 6 [] [])))) [.t 47, .t 51], none, 31⟩,
 ⟨(some (46)), .mov (.t 52), none, 63⟩,
 ⟨(some (53)), .extract (.t 46) 0, none, 127⟩,
 ⟨(some (54)), .extract (.t 46) 1, none, 127⟩,
 ⟨(some (7)), .alloc 192768576 [.int .i64 0, .nils], none, 0⟩,
 ⟨none, .store 2 (.t 7) (.t 53), none, 767⟩,
 ⟨(some (8)), .mov (.t 54), none, 2047⟩]) (.seq (.region false [
 ⟨(some (56)), .load (some (2)) (.t 7), none, 0⟩,
 ⟨(some (57)), .build [.int .i64 0, .int .i64 0, .int .i64 0, .int .i64 0, .bool false, .bool false, .int .i64 0] [(0, 1, .i 1), (1, 1, .i 1)], none, 0⟩,
 ⟨(some (58)), .call 192832128 (.k (.one (.p (.fn 6 [] [])))) [.t 56, .t 57], none, 0⟩,
 ⟨(some (55)), .mov (.t 58), none, 0⟩,
 ⟨(some (59)), .extract (.t 55) 0, none, 0⟩,
 ⟨(some (60)), .extract (.t 55) 1, none, 0⟩,
 ⟨(some (9)), .alloc 192832384 [.int .i64 0, .nils], none, 0⟩,
 ⟨none, .store 2 (.t 9) (.t 59), none, 0⟩,
 ⟨(some (10)), .mov (.t 60), none, 0⟩]) (.seq (.region false [
 ⟨(some (61)), .mov (.t 8), none, 0⟩,
 ⟨(some (62)), .bin .neq (.t 61) (.i 0), none, 0⟩,
 ⟨(some (63)), .mov (.t 62), none, 0⟩,
 ⟨(some (64)), .mov (.t 10), (some (63, false)), 0⟩,
 ⟨(some (65)), .bin .neq (.t 64) (.i 0), (some (63, false)), 0⟩,
 ⟨(some (66)), .pick (.t 63) (.b true) (.t 65), none, 0⟩,
 ⟨(some (67)), .mov (.t 66), none, 0⟩,
 ⟨(some (68)), .load (some (2)) (.t 7), (some (67, false)), 0⟩,
 ⟨(some (69)), .call 192896512 (.k (.one (.p (.fn 8 [] [])))) [.t 68], (some (67, false)), 0⟩,
 ⟨(some (70)), .mov (.t 6), (some (67, false)), 0⟩,
 ⟨(some (71)), .mov (.t 6), (some (67, false)), 0⟩,
 ⟨(some (72)), .bslice 192896704 3 1 [.t 70, .t 71], (some (67, false)), 0⟩,
 ⟨(some (73)), .call 192896768 (.k (.one (.p (.fn 7 [] [])))) [.t 69, .t 72], (some (67, false)), 0⟩,
 ⟨(some (74)), .un .not (.t 73), (some (67, false)), 0⟩,
 ⟨(some (75)), .pick (.t 67) (.b true) (.t 74), none, 0⟩,
 ⟨(some (76)), .mov (.t 75), none, 0⟩,
 ⟨(some (77)), .load (some (2)) (.t 9), (some (76, false)), 0⟩,
 ⟨(some (78)), .load (some (2)) (.t 3), (some (76, false)), 0⟩,
 ⟨(some (79)), .call 192897152 (.k (.one (.p (.fn 9 [] [])))) [.t 77, .t 78], (some (76, false)), 0⟩,
 ⟨(some (80)), .un .not (.t 79), (some (76, false)), 0⟩,
 ⟨(some (81)), .pick (.t 76) (.b true) (.t 80), none, 0⟩]) (.cond (.t 81) (.seq (.region false [
 ⟨(some (2)), .mov (.b false), none, 0⟩]) (.ret)) (.skip))))))) (.region false [
 ⟨(some (37)), .mov (.t 6), none, 0⟩,
 ⟨(some (38)), .bin .add (.t 37) (.i 1), none, 0⟩,
 ⟨(some (6)), .mov (.t 38), none, 0⟩])))
def i3_r2 : ICode :=
(.seq (.region false [
 ⟨(some (82)), .call 193024000 (.k (.one (.p (.fn 4 [] [])))) [], none, 0⟩,
 ⟨(some (2)), .mov (.t 82), none, 0⟩]) (.ret))
def i3 : IFn :=
⟨83, [(2, none)],
 (.seq (.region false [
 ⟨(some (2)), .mov (.b false), none, 0⟩]) (.seq (.seq (.region false [
 ⟨(some (11)), .mov (.t 0), none, 0⟩,
 ⟨(some (12)), .bin .lss (.t 11) (.i 0), none, 0⟩,
 ⟨(some (13)), .mov (.t 12), none, 0⟩,
 ⟨(some (14)), .mov (.t 0), (some (13, false)), 0⟩,
 ⟨(some (15)), .bin .gtr (.t 14) (.i 40), (some (13, false)), 0⟩,
 ⟨(some (16)), .pick (.t 13) (.b true) (.t 15), none, 0⟩]) (.cond (.t 16) (.seq (.region false [
 ⟨(some (17)), .call 192128000 (.k (.one (.p (.fn 4 [] [])))) [], none, 0⟩,
 ⟨(some (2)), .mov (.t 17), none, 0⟩]) (.ret)) (.skip))) (.seq (.region false [
 ⟨(some (18)), .mov (.t 0), none, 0⟩,
 ⟨(some (19)), .build [.int .i64 0, .nils] [(0, 1, .t 18)], none, 0⟩,
 ⟨(some (3)), .alloc 192192128 [.int .i64 0, .nils], none, 0⟩,
 ⟨none, .store 2 (.t 3) (.t 19), none, 0⟩]) (.seq (.region false [
 ⟨(some (21)), .load (some (2)) (.t 3), none, 0⟩,
 ⟨(some (22)), .call 192256064 (.k (.one (.p (.fn 5 [] [])))) [.t 21], none, 0⟩,
 ⟨(some (20)), .mov (.t 22), none, 0⟩,
 ⟨(some (23)), .extract (.t 20) 0, none, 0⟩,
 ⟨(some (24)), .extract (.t 20) 1, none, 0⟩,
 ⟨(some (4)), .mov (.t 23), none, 0⟩,
 ⟨(some (5)), .mov (.t 24), none, 0⟩]) (.seq (.seq (.region false [
 ⟨(some (25)), .mov (.t 5), none, 0⟩,
 ⟨(some (26)), .bin .neq (.t 25) (.i 0), none, 0⟩,
 ⟨(some (27)), .mov (.t 26), none, 0⟩,
 ⟨(some (28)), .mov (.t 4), (some (27, false)), 0⟩,
 ⟨(some (29)), .llen (.t 28), (some (27, false)), 0⟩,
 ⟨(some (30)), .mov (.t 0), (some (27, false)), 0⟩,
 ⟨(some (31)), .bin .add (.t 30) (.i 1), (some (27, false)), 0⟩,
 ⟨(some (32)), .bin .neq (.t 29) (.t 31), (some (27, false)), 0⟩,
 ⟨(some (33)), .pick (.t 27) (.b true) (.t 32), none, 0⟩]) (.cond (.t 33) (.seq (.region false [
 ⟨(some (2)), .mov (.b false), none, 0⟩]) (.ret)) (.skip))) (.seq (.seq (.region false [
 ⟨(some (6)), .mov (.i 0), none, 0⟩]) (.block 0 (.loop i3_l1))) i3_r2))))))⟩
def i8_l1 : ICode :=
(.seq (.seq (.region false [
 ⟨(some (5)), .mov (.t 4), none, 0⟩,
 ⟨(some (6)), .faddr 1 (.t 1), none, 0⟩,
 ⟨(some (7)), .load none (.t 6), none, 0⟩,
 ⟨(some (8)), .llen (.t 7), none, 0⟩,
 ⟨(some (9)), .bin .lss (.t 5) (.t 8), none, 0⟩]) (.cond (.t 9) (.skip) (.exit 0))) (.seq (.block 1 (.seq (.region false [
 ⟨(some (12)), .faddr 1 (.t 1), none, 0⟩,
 ⟨(some (13)), .load none (.t 12), none, 0⟩,
 ⟨(some (14)), .mov (.t 4), none, 0⟩,
 ⟨(some (15)), .iaddr 6 (.t 13) (.t 14), none, 0⟩,
 ⟨(some (16)), .faddr 0 (.t 15), none, 0⟩,
 ⟨(some (17)), .load none (.t 16), none, 0⟩,
 ⟨(some (18)), .bin .eql (.t 17) (.i 1), none, 0⟩]) (.cond (.t 18) (.region false [
 ⟨(some (19)), .mov (.t 3), none, 0⟩,
 ⟨(some (20)), .faddr 1 (.t 1), none, 0⟩,
 ⟨(some (21)), .load none (.t 20), none, 0⟩,
 ⟨(some (22)), .mov (.t 4), none, 0⟩,
 ⟨(some (23)), .iaddr 6 (.t 21) (.t 22), none, 0⟩,
 ⟨(some (24)), .faddr 1 (.t 23), none, 0⟩,
 ⟨(some (25)), .load none (.t 24), none, 0⟩,
 ⟨(some (26)), .bslice 512384448 3 1 [.t 25], none, 0⟩,
 ⟨(some (27)), .append 512384512 3 1 8 (.t 19) (.t 26), none, 0⟩,
 ⟨(some (3)), .mov (.t 27), none, 0⟩]) (.skip)))) (.region false [
 ⟨(some (10)), .mov (.t 4), none, 0⟩,
 ⟨(some (11)), .bin .add (.t 10) (.i 1), none, 0⟩,
 ⟨(some (4)), .mov (.t 11), none, 0⟩])))
def i8_r2 : ICode :=
(.seq (.region false [
 ⟨(some (28)), .mov (.t 3), none, 0⟩,
 ⟨(some (2)), .mov (.t 28), none, 0⟩]) (.ret))
def i8 : IFn :=
⟨29, [(2, none)],
 (.seq (.region false [
 ⟨(some (1)), .box 512000000 (.t 0), none, 0⟩,
 ⟨(some (2)), .mov (.k (.one (.p (.nils)))), none, 0⟩]) (.seq (.region false [
 ⟨(some (3)), .mov (.k (.one (.p (.nils)))), none, 0⟩]) (.seq (.seq (.region false [
 ⟨(some (4)), .mov (.i 0), none, 0⟩]) (.block 0 (.loop i8_l1))) i8_r2)))⟩
def i7_l1 : ICode :=
(.seq (.seq (.region false [
 ⟨(some (11)), .mov (.t 5), none, 0⟩,
 ⟨(some (12)), .mov (.t 0), none, 0⟩,
 ⟨(some (13)), .llen (.t 12), none, 0⟩,
 ⟨(some (14)), .bin .lss (.t 11) (.t 13), none, 0⟩]) (.cond (.t 14) (.skip) (.exit 0))) (.seq (.block 1 (.seq (.region true [
 ⟨(some (17)), .mov (.t 0), none, 0⟩,
 ⟨(some (18)), .mov (.t 5), none, 0⟩,
 ⟨(some (19)), .iaddr 1 (.t 17) (.t 18), none, 3⟩,
 ⟨(some (20)), .load none (.t 19), none, 7⟩,
 ⟨(some (21)), .mov (.t 1), none, 0⟩,
 ⟨(some (22)), .mov (.t 5), none, 0⟩,
 ⟨(some (23)), .iaddr 1 (.t 21) (.t 22), none, 48⟩,
 ⟨(some (24)), .load none (.t 23), none, 112⟩,
 ⟨(some (25)), .bin .neq (.t 20) (.t 24), none, 255⟩]) (.cond (.t 25) (.seq (.region false [
 ⟨(some (4)), .mov (.b false), none, 0⟩]) (.ret)) (.skip)))) (.region false [
 ⟨(some (15)), .mov (.t 5), none, 0⟩,
 ⟨(some (16)), .bin .add (.t 15) (.i 1), none, 0⟩,
 ⟨(some (5)), .mov (.t 16), none, 0⟩])))
def i7_r2 : ICode :=
(.seq (.region false [
 ⟨(some (4)), .mov (.b true), none, 0⟩]) (.ret))
def i7 : IFn :=
⟨26, [(4, none)],
 (.seq (.region false [
 ⟨(some (4)), .mov (.b false), none, 0⟩]) (.seq (.seq (.region false [
 ⟨(some (6)), .mov (.t 0), none, 0⟩,
 ⟨(some (7)), .llen (.t 6), none, 0⟩,
 ⟨(some (8)), .mov (.t 1), none, 0⟩,
 ⟨(some (9)), .llen (.t 8), none, 0⟩,
 ⟨(some (10)), .bin .neq (.t 7) (.t 9), none, 0⟩]) (.cond (.t 10) (.seq (.region false [
 ⟨(some (4)), .mov (.b false), none, 0⟩]) (.ret)) (.skip))) (.seq (.seq (.region false [
 ⟨(some (5)), .mov (.i 0), none, 0⟩]) (.block 0 (.loop i7_l1))) i7_r2)))⟩
def i16 : IFn :=
⟨55, [(4, some (some (2))), (5, none)],
 (.seq (.region false [
 ⟨(some (3)), .box 1024000000 (.t 1), none, 0⟩,
 ⟨(some (4)), .alloc 1024000064 [.int .i64 0, .nils], none, 0⟩,
 ⟨(some (5)), .mov (.i 0), none, 0⟩]) (.seq (.seq (.region false [
 ⟨(some (10)), .mov (.t 0), none, 0⟩,
 ⟨(some (11)), .load (some (7)) (.t 3), none, 0⟩,
 ⟨(some (12)), .call 1024064128 (.k (.one (.p (.fn 30 [] [])))) [.t 10, .t 11], none, 0⟩,
 ⟨(some (13)), .un .not (.t 12), none, 0⟩]) (.cond (.t 13) (.seq (.region false [
 ⟨(some (14)), .build [.int .i64 0, .nils] [], none, 0⟩,
 ⟨none, .store 2 (.t 4) (.t 14), none, 0⟩,
 ⟨(some (5)), .mov (.i 2), none, 0⟩]) (.ret)) (.skip))) (.seq (.region true [
 ⟨(some (16)), .call 1024192000 (.k (.one (.p (.fn 31 [] [])))) [], none, 0⟩,
 ⟨(some (17)), .faddr 0 (.t 3), none, 0⟩,
 ⟨(some (18)), .load none (.t 17), none, 2⟩,
 ⟨(some (19)), .aidx 11 1 none (.t 16) (.t 18), none, 7⟩,
 ⟨(some (20)), .mov (.t 0), none, 0⟩,
 ⟨(some (21)), .load (some (7)) (.t 3), none, 0⟩,
 ⟨(some (22)), .call 1024192384 (.t 19) [.t 20, .t 21], none, 63⟩,
 ⟨(some (15)), .mov (.t 22), none, 127⟩,
 ⟨(some (23)), .extract (.t 15) 0, none, 255⟩,
 ⟨(some (24)), .extract (.t 15) 1, none, 255⟩,
 ⟨(some (6)), .mov (.t 23), none, 511⟩,
 ⟨(some (7)), .mov (.t 24), none, 2047⟩]) (.seq (.seq (.region false [
 ⟨(some (25)), .mov (.t 7), none, 0⟩,
 ⟨(some (26)), .un .not (.t 25), none, 0⟩]) (.cond (.t 26) (.seq (.region false [
 ⟨(some (27)), .build [.int .i64 0, .nils] [], none, 0⟩,
 ⟨none, .store 2 (.t 4) (.t 27), none, 0⟩,
 ⟨(some (5)), .mov (.i 4), none, 0⟩]) (.ret)) (.skip))) (.seq (.seq (.region false [
 ⟨(some (29)), .faddr 0 (.t 3), none, 0⟩,
 ⟨(some (30)), .load none (.t 29), none, 0⟩,
 ⟨(some (31)), .call 1024384128 (.k (.one (.p (.fn 32 [] [])))) [.t 30], none, 0⟩,
 ⟨(some (28)), .mov (.t 31), none, 0⟩,
 ⟨(some (32)), .extract (.t 28) 0, none, 0⟩,
 ⟨(some (33)), .extract (.t 28) 1, none, 0⟩,
 ⟨(some (8)), .mov (.t 32), none, 0⟩,
 ⟨(some (9)), .mov (.t 33), none, 0⟩]) (.seq (.region false [
 ⟨(some (34)), .mov (.t 0), none, 0⟩,
 ⟨(some (35)), .nilchk (.t 34), none, 0⟩,
 ⟨(some (36)), .faddr 1 (.t 35), none, 0⟩,
 ⟨(some (37)), .load none (.t 36), none, 0⟩,
 ⟨(some (38)), .llen (.t 37), none, 0⟩,
 ⟨(some (39)), .mov (.t 8), none, 0⟩,
 ⟨(some (40)), .bin .add (.t 38) (.t 39), none, 0⟩,
 ⟨(some (41)), .bin .gtr (.t 40) (.i 400), none, 0⟩,
 ⟨(some (42)), .mov (.t 41), none, 0⟩,
 ⟨(some (43)), .mov (.t 0), (some (42, false)), 0⟩,
 ⟨(some (44)), .nilchk (.t 43), (some (42, false)), 0⟩,
 ⟨(some (45)), .faddr 5 (.t 44), (some (42, false)), 0⟩,
 ⟨(some (46)), .load none (.t 45), (some (42, false)), 0⟩,
 ⟨(some (47)), .mov (.t 9), (some (42, false)), 0⟩,
 ⟨(some (48)), .bin .add (.t 46) (.t 47), (some (42, false)), 0⟩,
 ⟨(some (49)), .bin .gtr (.t 48) (.i 100), (some (42, false)), 0⟩,
 ⟨(some (50)), .pick (.t 42) (.b true) (.t 49), none, 0⟩]) (.cond (.t 50) (.seq (.region false [
 ⟨(some (51)), .build [.int .i64 0, .nils] [], none, 0⟩,
 ⟨none, .store 2 (.t 4) (.t 51), none, 0⟩,
 ⟨(some (5)), .mov (.i 7), none, 0⟩]) (.ret)) (.skip)))) (.seq (.region false [
 ⟨(some (52)), .mov (.t 0), none, 0⟩,
 ⟨(some (53)), .mov (.t 6), none, 0⟩,
 ⟨(some (54)), .call 1024576128 (.k (.one (.p (.fn 33 [] [])))) [.t 52, .t 53], none, 0⟩,
 ⟨none, .store 2 (.t 4) (.t 54), none, 0⟩,
 ⟨(some (5)), .mov (.i 0), none, 0⟩]) (.ret)))))))⟩
def i26_l1 : ICode :=
(.seq (.region false [
 ⟨(some (26)), .bin .lss (.t 25) (.t 24), none, 0⟩]) (.seq (.cond (.t 26) (.skip) (.exit 2)) (.seq (.block 3 (.seq (.region false [
 ⟨(some (27)), .iaddr 7 (.t 23) (.t 25), none, 0⟩,
 ⟨(some (28)), .load (some (7)) (.t 27), none, 0⟩,
 ⟨(some (10)), .alloc 1664576128 [.int .i64 0, .int .i64 0, .int .i64 0, .int .i64 0, .bool false, .bool false, .int .i64 0], none, 0⟩,
 ⟨none, .store 7 (.t 10) (.t 28), none, 0⟩]) (.seq (.region false [
 ⟨(some (30)), .mov (.t 0), none, 0⟩,
 ⟨(some (31)), .load (some (7)) (.t 10), none, 0⟩,
 ⟨(some (32)), .call 1664640128 (.k (.one (.p (.fn 16 [] [])))) [.t 30, .t 31], none, 0⟩,
 ⟨(some (29)), .mov (.t 32), none, 0⟩,
 ⟨(some (33)), .extract (.t 29) 0, none, 0⟩,
 ⟨(some (34)), .extract (.t 29) 1, none, 0⟩,
 ⟨(some (11)), .alloc 1664640384 [.int .i64 0, .nils], none, 0⟩,
 ⟨none, .store 2 (.t 11) (.t 33), none, 0⟩,
 ⟨(some (12)), .mov (.t 34), none, 0⟩]) (.seq (.region false [
 ⟨(some (35)), .mov (.t 12), none, 0⟩,
 ⟨(some (36)), .bin .eql (.t 35) (.i 0), none, 0⟩]) (.cond (.t 36) (.region true [
 ⟨(some (37)), .mov (.t 6), none, 0⟩,
 ⟨(some (38)), .load (some (7)) (.t 10), none, 0⟩,
 ⟨(some (39)), .bslice 1664768128 32 7 [.t 38], none, 2⟩,
 ⟨(some (40)), .append 1664768192 32 7 48 (.t 37) (.t 39), none, 7⟩,
 ⟨(some (41)), .mov (.t 7), none, 0⟩,
 ⟨(some (42)), .load (some (2)) (.t 11), none, 0⟩,
 ⟨(some (43)), .bslice 1664768384 25 2 [.t 42], none, 32⟩,
 ⟨(some (44)), .append 1664768448 25 2 32 (.t 41) (.t 43), none, 127⟩,
 ⟨(some (6)), .mov (.t 40), none, 255⟩,
 ⟨(some (7)), .mov (.t 44), none, 511⟩]) (.skip)))))) (.region false [
 ⟨(some (45)), .bin .add (.t 25) (.i 1), none, 0⟩,
 ⟨(some (25)), .mov (.t 45), none, 0⟩]))))
def i26_r2 : ICode :=
(.region false [
 ⟨(some (15)), .mov (.t 8), none, 0⟩,
 ⟨(some (16)), .bin .add (.t 15) (.i 1), none, 0⟩,
 ⟨(some (8)), .mov (.t 16), none, 0⟩])
def i26_l3 : ICode :=
(.seq (.seq (.region false [
 ⟨(some (13)), .mov (.t 8), none, 0⟩,
 ⟨(some (14)), .bin .leq (.t 13) (.i 10), none, 0⟩]) (.cond (.t 14) (.skip) (.exit 0))) (.seq (.block 1 (.seq (.seq (.region false [
 ⟨(some (17)), .mov (.t 1), none, 0⟩,
 ⟨(some (18)), .mov (.t 8), none, 0⟩,
 ⟨(some (19)), .call 1664384128 (.k (.one (.p (.fn 40 [] [])))) [.t 17, .t 18], none, 0⟩,
 ⟨(some (20)), .un .not (.t 19), none, 0⟩]) (.cond (.t 20) (.exit 1) (.skip))) (.seq (.region false [
 ⟨(some (21)), .mov (.t 0), none, 0⟩,
 ⟨(some (22)), .mov (.t 8), none, 0⟩,
 ⟨(some (23)), .call 1664448128 (.k (.one (.p (.fn 41 [] [])))) [.t 21, .t 22], none, 0⟩,
 ⟨(some (24)), .llen (.t 23), none, 0⟩,
 ⟨(some (25)), .mov (.i 0), none, 0⟩]) (.block 2 (.loop i26_l1))))) i26_r2))
def i26_r4 : ICode :=
(.seq (.region false [
 ⟨(some (46)), .mov (.t 6), none, 0⟩,
 ⟨(some (47)), .mov (.t 7), none, 0⟩,
 ⟨(some (4)), .mov (.t 46), none, 0⟩,
 ⟨(some (5)), .mov (.t 47), none, 0⟩]) (.ret))
def i26 : IFn :=
⟨48, [(4, none), (5, none)],
 (.seq (.region false [
 ⟨(some (4)), .mov (.k (.one (.p (.nils)))), none, 0⟩,
 ⟨(some (5)), .mov (.k (.one (.p (.nils)))), none, 0⟩]) (.seq (.region false [
 ⟨(some (6)), .mov (.k (.one (.p (.nils)))), none, 0⟩]) (.seq (.region false [
 ⟨(some (7)), .mov (.k (.one (.p (.nils)))), none, 0⟩]) (.seq (.seq (.region false [
 ⟨(some (8)), .mov (.i 1), none, 0⟩]) (.block 0 (.loop i26_l3))) i26_r4))))⟩
def i30 : IFn :=
⟨190, [(4, none)],
 (.seq (.region false [
 ⟨(some (3)), .box 1920000000 (.t 1), none, 0⟩,
 ⟨(some (4)), .mov (.b false), none, 0⟩]) (.seq (.region false [
 ⟨(some (11)), .mov (.t 0), none, 0⟩,
 ⟨(some (12)), .nilchk (.t 11), none, 0⟩,
 ⟨(some (13)), .faddr 1 (.t 12), none, 0⟩,
 ⟨(some (14)), .load none (.t 13), none, 0⟩,
 ⟨(some (15)), .llen (.t 14), none, 0⟩,
 ⟨(some (5)), .alloc 1920064320 [.int .i64 0], none, 0⟩,
 ⟨none, .store 1 (.t 5) (.t 15), none, 0⟩]) (.seq (.region false [
 ⟨(some (16)), .mkfn 45 [] [.t 5], none, 0⟩,
 ⟨(some (6)), .mov (.t 16), none, 0⟩]) (.seq (.region false [
 ⟨(some (7)), .mov (.i 1), none, 0⟩,
 ⟨(some (8)), .mov (.b false), none, 0⟩,
 ⟨(some (9)), .mov (.b false), none, 0⟩,
 ⟨(some (10)), .mov (.b false), none, 0⟩]) (.seq (.seq (.region false [
 ⟨(some (17)), .faddr 0 (.t 3), none, 0⟩,
 ⟨(some (18)), .load none (.t 17), none, 0⟩]) (.block 0 (.seq (.region false [
 ⟨(some (20)), .bin .eql (.t 18) (.i 2), none, 0⟩,
 ⟨(some (19)), .mov (.t 20), none, 0⟩]) (.cond (.t 19) (.region false [
 ⟨(some (8)), .mov (.b true), none, 0⟩]) (.seq (.seq (.region false [
 ⟨(some (22)), .bin .eql (.t 18) (.i 3), none, 0⟩,
 ⟨(some (21)), .mov (.t 22), none, 0⟩]) (.cond (.t 21) (.skip) (.region false [
 ⟨(some (23)), .bin .eql (.t 18) (.i 6), none, 0⟩,
 ⟨(some (21)), .mov (.t 23), none, 0⟩]))) (.cond (.t 21) (.region false [
 ⟨(some (7)), .mov (.i 2), none, 0⟩]) (.seq (.region false [
 ⟨(some (25)), .bin .eql (.t 18) (.i 5), none, 0⟩,
 ⟨(some (24)), .mov (.t 25), none, 0⟩]) (.cond (.t 24) (.region false [
 ⟨(some (10)), .mov (.b true), none, 0⟩]) (.seq (.region false [
 ⟨(some (27)), .bin .eql (.t 18) (.i 7), none, 0⟩,
 ⟨(some (26)), .mov (.t 27), none, 0⟩]) (.cond (.t 26) (.region false [
 ⟨(some (7)), .mov (.i 2), none, 0⟩,
 ⟨(some (9)), .mov (.b true), none, 0⟩]) (.seq (.region false [
 ⟨(some (29)), .bin .eql (.t 18) (.i 8), none, 0⟩,
 ⟨(some (28)), .mov (.t 29), none, 0⟩]) (.cond (.t 28) (.region false [
 ⟨(some (7)), .mov (.i 3), none, 0⟩]) (.seq (.seq (.region false [
 ⟨(some (31)), .bin .eql (.t 18) (.i 1), none, 0⟩,
 ⟨(some (30)), .mov (.t 31), none, 0⟩]) (.cond (.t 30) (.skip) (.seq (.region false [
 ⟨(some (32)), .bin .eql (.t 18) (.i 4), none, 0⟩,
 ⟨(some (30)), .mov (.t 32), none, 0⟩]) (.cond (.t 30) (.skip) (.seq (.region false [
 ⟨(some (33)), .bin .eql (.t 18) (.i 9), none, 0⟩,
 ⟨(some (30)), .mov (.t 33), none, 0⟩]) (.cond (.t 30) (.skip) (.region false [
 ⟨(some (34)), .bin .eql (.t 18) (.i 10), none, 0⟩,
 ⟨(some (30)), .mov (.t 34), none, 0⟩]))))))) (.cond (.t 30) (.skip) (.seq (.region false [
 ⟨(some (4)), .mov (.b false), none, 0⟩]) (.ret)))))))))))))))) (.seq (.seq (.region false [
 ⟨(some (35)), .mov (.t 9), none, 0⟩,
 ⟨(some (36)), .un .not (.t 35), none, 0⟩,
 ⟨(some (37)), .mov (.t 36), none, 0⟩,
 ⟨(some (38)), .faddr 4 (.t 3), (some (37, true)), 0⟩,
 ⟨(some (39)), .load none (.t 38), (some (37, true)), 0⟩,
 ⟨(some (40)), .pick (.t 37) (.t 39) (.b false), none, 0⟩,
 ⟨(some (41)), .mov (.t 40), none, 0⟩,
 ⟨(some (42)), .mov (.t 9), (some (41, false)), 0⟩,
 ⟨(some (43)), .un .not (.t 42), (some (41, false)), 0⟩,
 ⟨(some (44)), .mov (.t 43), (some (41, false)), 0⟩,
 ⟨(some (45)), .mov (.t 10), (some (44, true)), 0⟩,
 ⟨(some (46)), .un .not (.t 45), (some (44, true)), 0⟩,
 ⟨(some (47)), .pick (.t 44) (.t 46) (.b false), (some (41, false)), 0⟩,
 ⟨(some (48)), .mov (.t 47), (some (41, false)), 0⟩,
 ⟨(some (49)), .faddr 5 (.t 3), (some (48, true)), 0⟩,
 ⟨(some (50)), .load none (.t 49), (some (48, true)), 0⟩,
 ⟨(some (51)), .pick (.t 48) (.t 50) (.b false), (some (41, false)), 0⟩,
 ⟨(some (52)), .pick (.t 41) (.b true) (.t 51), none, 0⟩,
 ⟨(some (53)), .mov (.t 52), none, 0⟩,
 ⟨(some (54)), .mov (.t 10), (some (53, false)), 0⟩,
 ⟨(some (55)), .faddr 6 (.t 3), (some (53, false)), 0⟩,
 ⟨(some (56)), .load none (.t 55), (some (53, false)), 0⟩,
 ⟨(some (57)), .bin .neq (.t 56) (.i 0), (some (53, false)), 0⟩,
 ⟨(some (58)), .eqc .bool true (.t 54) (.t 57), (some (53, false)), 0⟩,
 ⟨(some (59)), .pick (.t 53) (.b true) (.t 58), none, 0⟩,
 ⟨(some (60)), .mov (.t 59), none, 0⟩,
 ⟨(some (61)), .mov (.t 10), (some (60, false)), 0⟩,
 ⟨(some (62)), .mov (.t 61), (some (60, false)), 0⟩,
 ⟨(some (63)), .faddr 6 (.t 3), (some (62, true)), 0⟩,
 ⟨(some (64)), .load none (.t 63), (some (62, true)), 0⟩,
 ⟨(some (65)), .bin .neq (.t 64) (.i 1), (some (62, true)), 0⟩,
 ⟨(some (66)), .pick (.t 62) (.t 65) (.b false), (some (60, false)), 0⟩,
 ⟨(some (67)), .mov (.t 66), (some (60, false)), 0⟩,
 ⟨(some (68)), .faddr 6 (.t 3), (some (67, true)), 0⟩,
 ⟨(some (69)), .load none (.t 68), (some (67, true)), 0⟩,
 ⟨(some (70)), .bin .neq (.t 69) (.i (-1)), (some (67, true)), 0⟩,
 ⟨(some (71)), .pick (.t 67) (.t 70) (.b false), (some (60, false)), 0⟩,
 ⟨(some (72)), .pick (.t 60) (.b true) (.t 71), none, 0⟩]) (.cond (.t 72) (.seq (.region false [
 ⟨(some (4)), .mov (.b false), none, 0⟩]) (.ret)) (.skip))) (.seq (.seq (.region false [
 ⟨(some (73)), .mov (.t 8), none, 0⟩]) (.cond (.t 73) (.seq (.region true [
 ⟨(some (74)), .mov (.t 6), none, 0⟩,
 ⟨(some (75)), .faddr 1 (.t 3), none, 0⟩,
 ⟨(some (76)), .load none (.t 75), none, 2⟩,
 ⟨(some (77)), .call 1921536192 (.t 74) [.t 76], none, 7⟩,
 ⟨(some (78)), .mov (.t 77), none, 15⟩,
 ⟨(some (79)), .load none (.t 5), (some (78, false)), 31⟩,
 ⟨(some (80)), .bin .eql (.t 79) (.i 0), (some (78, false)), 63⟩,
 ⟨(some (81)), .mov (.t 80), (some (78, false)), 127⟩,
 ⟨(some (82)), .faddr 1 (.t 3), (some (81, true)), 255⟩,
 ⟨(some (83)), .load none (.t 82), (some (81, true)), 511⟩,
 ⟨(some (84)), .bin .eql (.t 83) (.i 0), (some (81, true)), 1023⟩,
 ⟨(some (85)), .pick (.t 81) (.t 84) (.b false), (some (78, false)), 2047⟩,
 ⟨(some (86)), .pick (.t 78) (.b true) (.t 85), none, 4095⟩,
 ⟨(some (87)), .mov (.t 86), none, 8191⟩,
 ⟨(some (88)), .faddr 2 (.t 3), (some (87, true)), 16383⟩,
 ⟨(some (89)), .load none (.t 88), (some (87, true)), 32767⟩,
 ⟨(some (90)), .bin .geq (.t 89) (.i 0), (some (87, true)), 65535⟩,
 ⟨(some (91)), .pick (.t 87) (.t 90) (.b false), none, 131071⟩,
 ⟨(some (92)), .mov (.t 91), none, 262143⟩,
 ⟨(some (93)), .faddr 2 (.t 3), (some (92, true)), 524287⟩,
 ⟨(some (94)), .load none (.t 93), (some (92, true)), 1048575⟩,
 ⟨(some (95)), .mov (.t 0), (some (92, true)), 524287⟩,
 ⟨(some (96)), .nilchk (.t 95), (some (92, true)), 2621439⟩,
 ⟨(some (97)), .faddr 0 (.t 96), (some (92, true)), 6815743⟩,
 ⟨(some (98)), .load none (.t 97), (some (92, true)), 15204351⟩,
 ⟨(some (99)), .bin .leq (.t 94) (.t 98), (some (92, true)), 33554431⟩,
 ⟨(some (100)), .pick (.t 92) (.t 99) (.b false), none, 67108863⟩,
 ⟨(some (101)), .mov (.t 100), none, 134217727⟩,
 ⟨(some (102)), .faddr 3 (.t 3), (some (101, true)), 268435455⟩,
 ⟨(some (103)), .load none (.t 102), (some (101, true)), 536870911⟩,
 ⟨(some (104)), .bin .geq (.t 103) (.i 0), (some (101, true)), 1073741823⟩,
 ⟨(some (105)), .pick (.t 101) (.t 104) (.b false), none, 2147483647⟩,
 ⟨(some (106)), .mov (.t 105), none, 4294967295⟩,
 ⟨(some (107)), .faddr 3 (.t 3), (some (106, true)), 8589934591⟩,
 ⟨(some (108)), .load none (.t 107), (some (106, true)), 17179869183⟩,
 ⟨(some (109)), .mov (.t 0), (some (106, true)), 8589934591⟩,
 ⟨(some (110)), .nilchk (.t 109), (some (106, true)), 42949672959⟩,
 ⟨(some (111)), .faddr 6 (.t 110), (some (106, true)), 111669149695⟩,
 ⟨(some (112)), .load none (.t 111), (some (106, true)), 249108103167⟩,
 ⟨(some (113)), .faddr 2 (.t 3), (some (106, true)), 8589934591⟩,
 ⟨(some (114)), .load none (.t 113), (some (106, true)), 558345748479⟩,
 ⟨(some (115)), .iaddr 1 (.t 112) (.t 114), (some (106, true)), 2173253451775⟩,
 ⟨(some (116)), .load none (.t 115), (some (106, true)), 4372276707327⟩,
 ⟨(some (117)), .bin .leq (.t 108) (.t 116), (some (106, true)), 8796093022207⟩,
 ⟨(some (118)), .pick (.t 106) (.t 117) (.b false), none, 17592186044415⟩,
 ⟨(some (4)), .mov (.t 118), none, 35184372088831⟩]) (.ret)) (.skip))) (.seq (.seq (.region false [
 ⟨(some (119)), .mov (.t 6), none, 0⟩,
 ⟨(some (120)), .faddr 1 (.t 3), none, 0⟩,
 ⟨(some (121)), .load none (.t 120), none, 0⟩,
 ⟨(some (122)), .call 1921600192 (.t 119) [.t 121], none, 0⟩,
 ⟨(some (123)), .un .not (.t 122), none, 0⟩,
 ⟨(some (124)), .mov (.t 123), none, 0⟩,
 ⟨(some (125)), .mov (.t 7), (some (124, false)), 0⟩,
 ⟨(some (126)), .bin .lss (.t 125) (.i 2), (some (124, false)), 0⟩,
 ⟨(some (127)), .mov (.t 126), (some (124, false)), 0⟩,
 ⟨(some (128)), .faddr 2 (.t 3), (some (127, true)), 0⟩,
 ⟨(some (129)), .load none (.t 128), (some (127, true)), 0⟩,
 ⟨(some (130)), .bin .neq (.t 129) (.i 0), (some (127, true)), 0⟩,
 ⟨(some (131)), .pick (.t 127) (.t 130) (.b false), (some (124, false)), 0⟩,
 ⟨(some (132)), .pick (.t 124) (.b true) (.t 131), none, 0⟩,
 ⟨(some (133)), .mov (.t 132), none, 0⟩,
 ⟨(some (134)), .mov (.t 7), (some (133, false)), 0⟩,
 ⟨(some (135)), .bin .lss (.t 134) (.i 3), (some (133, false)), 0⟩,
 ⟨(some (136)), .mov (.t 135), (some (133, false)), 0⟩,
 ⟨(some (137)), .faddr 3 (.t 3), (some (136, true)), 0⟩,
 ⟨(some (138)), .load none (.t 137), (some (136, true)), 0⟩,
 ⟨(some (139)), .bin .neq (.t 138) (.i 0), (some (136, true)), 0⟩,
 ⟨(some (140)), .pick (.t 136) (.t 139) (.b false), (some (133, false)), 0⟩,
 ⟨(some (141)), .pick (.t 133) (.b true) (.t 140), none, 0⟩,
 ⟨(some (142)), .mov (.t 141), none, 0⟩,
 ⟨(some (143)), .mov (.t 7), (some (142, false)), 0⟩,
 ⟨(some (144)), .bin .geq (.t 143) (.i 2), (some (142, false)), 0⟩,
 ⟨(some (145)), .mov (.t 144), (some (142, false)), 0⟩,
 ⟨(some (146)), .mov (.t 6), (some (145, true)), 0⟩,
 ⟨(some (147)), .faddr 2 (.t 3), (some (145, true)), 0⟩,
 ⟨(some (148)), .load none (.t 147), (some (145, true)), 0⟩,
 ⟨(some (149)), .call 1921601920 (.t 146) [.t 148], (some (145, true)), 0⟩,
 ⟨(some (150)), .un .not (.t 149), (some (145, true)), 0⟩,
 ⟨(some (151)), .pick (.t 145) (.t 150) (.b false), (some (142, false)), 0⟩,
 ⟨(some (152)), .pick (.t 142) (.b true) (.t 151), none, 0⟩,
 ⟨(some (153)), .mov (.t 152), none, 0⟩,
 ⟨(some (154)), .mov (.t 7), (some (153, false)), 0⟩,
 ⟨(some (155)), .bin .eql (.t 154) (.i 3), (some (153, false)), 0⟩,
 ⟨(some (156)), .mov (.t 155), (some (153, false)), 0⟩,
 ⟨(some (157)), .mov (.t 6), (some (156, true)), 0⟩,
 ⟨(some (158)), .faddr 3 (.t 3), (some (156, true)), 0⟩,
 ⟨(some (159)), .load none (.t 158), (some (156, true)), 0⟩,
 ⟨(some (160)), .call 1921602624 (.t 157) [.t 159], (some (156, true)), 0⟩,
 ⟨(some (161)), .un .not (.t 160), (some (156, true)), 0⟩,
 ⟨(some (162)), .pick (.t 156) (.t 161) (.b false), (some (153, false)), 0⟩,
 ⟨(some (163)), .pick (.t 153) (.b true) (.t 162), none, 0⟩]) (.cond (.t 163) (.seq (.region false [
 ⟨(some (4)), .mov (.b false), none, 0⟩]) (.ret)) (.skip))) (.seq (.seq (.region false [
 ⟨(some (164)), .mov (.t 9), none, 0⟩]) (.cond (.t 164) (.seq (.region false [
 ⟨(some (165)), .faddr 1 (.t 3), none, 0⟩,
 ⟨(some (166)), .load none (.t 165), none, 0⟩,
 ⟨(some (167)), .faddr 2 (.t 3), none, 0⟩,
 ⟨(some (168)), .load none (.t 167), none, 0⟩,
 ⟨(some (169)), .bin .neq (.t 166) (.t 168), none, 0⟩,
 ⟨(some (4)), .mov (.t 169), none, 0⟩]) (.ret)) (.skip))) (.seq (.region false [
 ⟨(some (170)), .mov (.t 7), none, 0⟩,
 ⟨(some (171)), .bin .lss (.t 170) (.i 2), none, 0⟩,
 ⟨(some (172)), .mov (.t 171), none, 0⟩,
 ⟨(some (173)), .faddr 1 (.t 3), (some (172, false)), 0⟩,
 ⟨(some (174)), .load none (.t 173), (some (172, false)), 0⟩,
 ⟨(some (175)), .faddr 2 (.t 3), (some (172, false)), 0⟩,
 ⟨(some (176)), .load none (.t 175), (some (172, false)), 0⟩,
 ⟨(some (177)), .bin .lss (.t 174) (.t 176), (some (172, false)), 0⟩,
 ⟨(some (178)), .mov (.t 177), (some (172, false)), 0⟩,
 ⟨(some (179)), .mov (.t 7), (some (178, true)), 0⟩,
 ⟨(some (180)), .bin .lss (.t 179) (.i 3), (some (178, true)), 0⟩,
 ⟨(some (181)), .mov (.t 180), (some (178, true)), 0⟩,
 ⟨(some (182)), .faddr 2 (.t 3), (some (181, false)), 0⟩,
 ⟨(some (183)), .load none (.t 182), (some (181, false)), 0⟩,
 ⟨(some (184)), .faddr 3 (.t 3), (some (181, false)), 0⟩,
 ⟨(some (185)), .load none (.t 184), (some (181, false)), 0⟩,
 ⟨(some (186)), .bin .lss (.t 183) (.t 185), (some (181, false)), 0⟩,
 ⟨(some (187)), .pick (.t 181) (.b true) (.t 186), (some (178, true)), 0⟩,
 ⟨(some (188)), .pick (.t 178) (.t 187) (.b false), (some (172, false)), 0⟩,
 ⟨(some (189)), .pick (.t 172) (.b true) (.t 188), none, 0⟩,
 ⟨(some (4)), .mov (.t 189), none, 0⟩]) (.ret)))))))))))⟩
def i31 : IFn :=
⟨2, [(0, some (some (11)))],
 (.seq (.region false [
 ⟨(some (0)), .alloc 1984000000 [.nilf, .nilf, .nilf, .nilf, .nilf, .nilf, .nilf, .nilf, .nilf, .nilf, .nilf], none, 0⟩]) (.seq (.region false [
 ⟨(some (1)), .build [.nilf, .nilf, .nilf, .nilf, .nilf, .nilf, .nilf, .nilf, .nilf, .nilf, .nilf] [(1, 1, .k (.one (.p (.fn 46 [] [])))), (2, 1, .k (.one (.p (.fn 47 [] [])))), (3, 1, .k (.one (.p (.fn 48 [] [])))), (4, 1, .k (.one (.p (.fn 49 [] [])))), (5, 1, .k (.one (.p (.fn 50 [] [])))), (6, 1, .k (.one (.p (.fn 51 [] [])))), (7, 1, .k (.one (.p (.fn 52 [] [])))), (8, 1, .k (.one (.p (.fn 53 [] [])))), (9, 1, .k (.one (.p (.fn 54 [] [])))), (10, 1, .k (.one (.p (.fn 54 [] []))))], none, 0⟩,
 ⟨none, .store 11 (.t 0) (.t 1), none, 0⟩]) (.ret)))⟩
def i32 : IFn :=
⟨11, [(2, none), (3, none)],
 (.seq (.region false [
 ⟨(some (2)), .mov (.i 0), none, 0⟩,
 ⟨(some (3)), .mov (.i 0), none, 0⟩]) (.seq (.seq (.region false [
 ⟨(some (4)), .mov (.t 0), none, 0⟩]) (.block 0 (.seq (.region false [
 ⟨(some (6)), .bin .eql (.t 4) (.i 2), none, 0⟩,
 ⟨(some (5)), .mov (.t 6), none, 0⟩]) (.cond (.t 5) (.seq (.region false [
 ⟨(some (2)), .mov (.i 2), none, 0⟩,
 ⟨(some (3)), .mov (.i 0), none, 0⟩]) (.ret)) (.seq (.region false [
 ⟨(some (8)), .bin .eql (.t 4) (.i 5), none, 0⟩,
 ⟨(some (7)), .mov (.t 8), none, 0⟩]) (.cond (.t 7) (.seq (.region false [
 ⟨(some (2)), .mov (.i 2), none, 0⟩,
 ⟨(some (3)), .mov (.i 1), none, 0⟩]) (.ret)) (.seq (.region false [
 ⟨(some (10)), .bin .eql (.t 4) (.i 7), none, 0⟩,
 ⟨(some (9)), .mov (.t 10), none, 0⟩]) (.cond (.t 9) (.seq (.region false [
 ⟨(some (2)), .mov (.i 4), none, 0⟩,
 ⟨(some (3)), .mov (.i 2), none, 0⟩]) (.ret)) (.skip))))))))) (.seq (.region false [
 ⟨(some (2)), .mov (.i 0), none, 0⟩,
 ⟨(some (3)), .mov (.i 0), none, 0⟩]) (.ret))))⟩
def i33_l1 : ICode :=
(.seq (.region false [
 ⟨(some (19)), .bin .lss (.t 18) (.t 17), none, 0⟩]) (.seq (.cond (.t 19) (.skip) (.exit 0)) (.seq (.block 1 (.seq (.region false [
 ⟨(some (20)), .mov (.t 18), none, 0⟩,
 ⟨(some (7)), .mov (.t 20), none, 0⟩]) (.region true [
 ⟨(some (21)), .faddr 1 (.t 5), none, 0⟩,
 ⟨(some (22)), .load none (.t 21), none, 1⟩,
 ⟨(some (23)), .mov (.t 1), none, 0⟩,
 ⟨(some (24)), .mov (.t 6), none, 0⟩,
 ⟨(some (25)), .mov (.t 7), none, 0⟩,
 ⟨(some (26)), .bin .add (.t 24) (.t 25), none, 24⟩,
 ⟨(some (27)), .mov (.t 1), none, 0⟩,
 ⟨(some (28)), .llen (.t 27), none, 64⟩,
 ⟨(some (29)), .bin .rem (.t 26) (.t 28), none, 248⟩,
 ⟨(some (30)), .iaddr 7 (.t 23) (.t 29), none, 508⟩,
 ⟨(some (31)), .faddr 0 (.t 30), none, 1020⟩,
 ⟨(some (32)), .load (some (6)) (.t 31), none, 2044⟩,
 ⟨(some (33)), .bslice 2112384768 53 6 [.t 32], none, 4092⟩,
 ⟨(some (34)), .append 2112384832 53 6 48 (.t 22) (.t 33), none, 8191⟩,
 ⟨(some (35)), .faddr 1 (.t 5), none, 16383⟩,
 ⟨none, .store 1 (.t 35) (.t 34), none, 32767⟩]))) (.region false [
 ⟨(some (36)), .bin .add (.t 18) (.i 1), none, 0⟩,
 ⟨(some (18)), .mov (.t 36), none, 0⟩]))))
def i33_r2 : ICode :=
(.seq (.region false [
 ⟨(some (37)), .load (some (2)) (.t 5), none, 0⟩,
 ⟨none, .store 2 (.t 4) (.t 37), none, 0⟩]) (.ret))
def i33 : IFn :=
⟨38, [(4, some (some (2)))],
 (.seq (.region false [
 ⟨(some (4)), .alloc 2112000000 [.int .i64 0, .nils], none, 0⟩]) (.seq (.region false [
 ⟨(some (8)), .mov (.t 0), none, 0⟩,
 ⟨(some (9)), .nilchk (.t 8), none, 0⟩,
 ⟨(some (10)), .faddr 0 (.t 9), none, 0⟩,
 ⟨(some (11)), .load none (.t 10), none, 0⟩,
 ⟨(some (12)), .build [.int .i64 0, .nils] [(0, 1, .t 11)], none, 0⟩,
 ⟨(some (5)), .alloc 2112064320 [.int .i64 0, .nils], none, 0⟩,
 ⟨none, .store 2 (.t 5) (.t 12), none, 0⟩]) (.seq (.region false [
 ⟨(some (13)), .mov (.t 1), none, 0⟩,
 ⟨(some (14)), .call 2112128064 (.k (.one (.p (.fn 55 [] [])))) [.t 13, .k (.one (.p (.fn 56 [] [])))], none, 0⟩,
 ⟨(some (15)), .max (.i 0) (.t 14), none, 0⟩,
 ⟨(some (6)), .mov (.t 15), none, 0⟩]) (.seq (.seq (.region false [
 ⟨(some (16)), .mov (.t 1), none, 0⟩,
 ⟨(some (17)), .llen (.t 16), none, 0⟩,
 ⟨(some (18)), .mov (.i 0), none, 0⟩]) (.block 0 (.loop i33_l1))) i33_r2))))⟩
def i41_l1 : ICode :=
(.seq (.seq (.region false [
 ⟨(some (27)), .mov (.t 7), none, 0⟩,
 ⟨(some (28)), .mov (.t 0), none, 0⟩,
 ⟨(some (29)), .nilchk (.t 28), none, 0⟩,
 ⟨(some (30)), .faddr 0 (.t 29), none, 0⟩,
 ⟨(some (31)), .load none (.t 30), none, 0⟩,
 ⟨(some (32)), .bin .leq (.t 27) (.t 31), none, 0⟩]) (.cond (.t 32) (.skip) (.exit 0))) (.seq (.block 1 (.region false [
 ⟨(some (35)), .mov (.t 5), none, 0⟩,
 ⟨(some (36)), .mov (.t 1), none, 0⟩,
 ⟨(some (37)), .mov (.t 7), none, 0⟩,
 ⟨(some (38)), .build [.int .i64 0, .int .i64 0, .int .i64 0, .int .i64 0, .bool false, .bool false, .int .i64 0] [(0, 1, .t 36), (2, 1, .t 37)], none, 0⟩,
 ⟨(some (39)), .bslice 2624448256 32 7 [.t 38], none, 0⟩,
 ⟨(some (40)), .append 2624448320 32 7 48 (.t 35) (.t 39), none, 0⟩,
 ⟨(some (5)), .mov (.t 40), none, 0⟩])) (.region false [
 ⟨(some (33)), .mov (.t 7), none, 0⟩,
 ⟨(some (34)), .bin .add (.t 33) (.i 1), none, 0⟩,
 ⟨(some (7)), .mov (.t 34), none, 0⟩])))
def i41_l2 : ICode :=
(.seq (.region false [
 ⟨(some (55)), .bin .lss (.t 54) (.i 2), none, 0⟩]) (.seq (.cond (.t 55) (.skip) (.exit 5)) (.seq (.block 6 (.seq (.region false [
 ⟨(some (56)), .mov (.t 54), none, 0⟩,
 ⟨(some (10)), .mov (.t 56), none, 0⟩]) (.region true [
 ⟨(some (57)), .mov (.t 9), none, 0⟩,
 ⟨(some (58)), .mov (.t 0), none, 0⟩,
 ⟨(some (59)), .nilchk (.t 58), none, 2⟩,
 ⟨(some (60)), .faddr 2 (.t 59), none, 6⟩,
 ⟨(some (61)), .load none (.t 60), none, 14⟩,
 ⟨(some (62)), .mov (.t 0), none, 0⟩,
 ⟨(some (63)), .nilchk (.t 62), none, 32⟩,
 ⟨(some (64)), .faddr 3 (.t 63), none, 96⟩,
 ⟨(some (65)), .load none (.t 64), none, 224⟩,
 ⟨(some (66)), .mov (.t 8), none, 0⟩,
 ⟨(some (67)), .bin .mul (.i 2) (.t 66), none, 512⟩,
 ⟨(some (68)), .mov (.t 10), none, 0⟩,
 ⟨(some (69)), .bin .add (.t 67) (.t 68), none, 3584⟩,
 ⟨(some (70)), .iaddr 1 (.t 65) (.t 69), none, 8160⟩,
 ⟨(some (71)), .load none (.t 70), none, 16352⟩,
 ⟨(some (72)), .iaddr 5 (.t 61) (.t 71), none, 32766⟩,
 ⟨(some (73)), .faddr 2 (.t 72), none, 65534⟩,
 ⟨(some (74)), .load none (.t 73), none, 131070⟩,
 ⟨(some (75)), .append 2625153152 116 2 16 (.t 57) (.t 74), none, 262143⟩,
 ⟨(some (9)), .mov (.t 75), none, 524287⟩]))) (.region false [
 ⟨(some (76)), .bin .add (.t 54) (.i 1), none, 0⟩,
 ⟨(some (54)), .mov (.t 76), none, 0⟩]))))
def i41_l3 : ICode :=
(.seq (.region false [
 ⟨(some (83)), .bin .lss (.t 82) (.t 81), none, 0⟩]) (.seq (.cond (.t 83) (.skip) (.exit 7)) (.seq (.block 8 (.seq (.region false [
 ⟨(some (84)), .iaddr 2 (.t 80) (.t 82), none, 0⟩,
 ⟨(some (85)), .load (some (2)) (.t 84), none, 0⟩,
 ⟨(some (12)), .alloc 2625472128 [.int .i64 0, .int .i64 0], none, 0⟩,
 ⟨none, .store 2 (.t 12) (.t 85), none, 0⟩]) (.region false [
 ⟨(some (86)), .mov (.t 5), none, 0⟩,
 ⟨(some (87)), .mov (.t 1), none, 0⟩,
 ⟨(some (88)), .mov (.t 8), none, 0⟩,
 ⟨(some (89)), .faddr 0 (.t 12), none, 0⟩,
 ⟨(some (90)), .load none (.t 89), none, 0⟩,
 ⟨(some (91)), .faddr 1 (.t 12), none, 0⟩,
 ⟨(some (92)), .load none (.t 91), none, 0⟩,
 ⟨(some (93)), .build [.int .i64 0, .int .i64 0, .int .i64 0, .int .i64 0, .bool false, .bool false, .int .i64 0] [(0, 1, .t 87), (1, 1, .t 88), (2, 1, .t 90), (3, 1, .t 92)], none, 0⟩,
 ⟨(some (94)), .bslice 2625536512 32 7 [.t 93], none, 0⟩,
 ⟨(some (95)), .append 2625536576 32 7 48 (.t 86) (.t 94), none, 0⟩,
 ⟨(some (5)), .mov (.t 95), none, 0⟩]))) (.region false [
 ⟨(some (96)), .bin .add (.t 82) (.i 1), none, 0⟩,
 ⟨(some (82)), .mov (.t 96), none, 0⟩]))))
def i41_r4 : ICode :=
(.seq (.region false [
 ⟨(some (77)), .mov (.t 9), none, 0⟩,
 ⟨(some (78)), .call 2625280064 (.k (.one (.p (.fn 62 [] [])))) [.t 77, .k (.one (.p (.fn 63 [] [])))], none, 0⟩]) (.seq (.region false [
 ⟨(some (79)), .mov (.t 9), none, 0⟩,
 ⟨(some (80)), .call 2625344064 (.k (.one (.p (.fn 64 [] [])))) [.t 79], none, 0⟩,
 ⟨(some (81)), .llen (.t 80), none, 0⟩,
 ⟨(some (82)), .mov (.i 0), none, 0⟩]) (.block 7 (.loop i41_l3))))
def i41_l5 : ICode :=
(.seq (.region false [
 ⟨(some (100)), .bin .lss (.t 99) (.i 4), none, 0⟩]) (.seq (.cond (.t 100) (.skip) (.exit 9)) (.seq (.block 10 (.seq (.region false [
 ⟨(some (101)), .mov (.t 99), none, 0⟩,
 ⟨(some (13)), .mov (.t 101), none, 0⟩]) (.region false [
 ⟨(some (102)), .mov (.t 5), none, 0⟩,
 ⟨(some (103)), .mov (.t 1), none, 0⟩,
 ⟨(some (104)), .mov (.t 8), none, 0⟩,
 ⟨(some (105)), .mov (.t 13), none, 0⟩,
 ⟨(some (106)), .bin .gtr (.t 105) (.i 1), none, 0⟩,
 ⟨(some (107)), .mov (.t 13), none, 0⟩,
 ⟨(some (108)), .bin .rem (.t 107) (.i 2), none, 0⟩,
 ⟨(some (109)), .bin .mul (.i 2) (.t 108), none, 0⟩,
 ⟨(some (110)), .bin .sub (.t 109) (.i 1), none, 0⟩,
 ⟨(some (111)), .build [.int .i64 0, .int .i64 0, .int .i64 0, .int .i64 0, .bool false, .bool false, .int .i64 0] [(0, 1, .t 103), (1, 1, .t 104), (5, 1, .t 106), (6, 1, .t 110)], none, 0⟩,
 ⟨(some (112)), .bslice 2625920640 32 7 [.t 111], none, 0⟩,
 ⟨(some (113)), .append 2625920704 32 7 48 (.t 102) (.t 112), none, 0⟩,
 ⟨(some (5)), .mov (.t 113), none, 0⟩]))) (.region false [
 ⟨(some (114)), .bin .add (.t 99) (.i 1), none, 0⟩,
 ⟨(some (99)), .mov (.t 114), none, 0⟩]))))
def i41_l6 : ICode :=
(.seq (.region false [
 ⟨(some (122)), .bin .lss (.t 121) (.i 4), none, 0⟩]) (.seq (.cond (.t 122) (.skip) (.exit 13)) (.seq (.block 14 (.seq (.region false [
 ⟨(some (123)), .mov (.t 121), none, 0⟩,
 ⟨(some (15)), .mov (.t 123), none, 0⟩]) (.seq (.region false [
 ⟨(some (124)), .mov (.t 14), none, 0⟩,
 ⟨(some (125)), .mov (.t 8), none, 0⟩,
 ⟨(some (126)), .bin .neq (.t 124) (.t 125), none, 0⟩]) (.cond (.t 126) (.region false [
 ⟨(some (127)), .mov (.t 5), none, 0⟩,
 ⟨(some (128)), .mov (.t 1), none, 0⟩,
 ⟨(some (129)), .mov (.t 8), none, 0⟩,
 ⟨(some (130)), .mov (.t 14), none, 0⟩,
 ⟨(some (131)), .mov (.t 15), none, 0⟩,
 ⟨(some (132)), .bin .gtr (.t 131) (.i 1), none, 0⟩,
 ⟨(some (133)), .mov (.t 15), none, 0⟩,
 ⟨(some (134)), .bin .rem (.t 133) (.i 2), none, 0⟩,
 ⟨(some (135)), .bin .eql (.t 134) (.i 1), none, 0⟩,
 ⟨(some (136)), .build [.int .i64 0, .int .i64 0, .int .i64 0, .int .i64 0, .bool false, .bool false, .int .i64 0] [(0, 1, .t 128), (1, 1, .t 129), (2, 1, .t 130), (4, 1, .t 132), (5, 1, .t 135)], none, 0⟩,
 ⟨(some (137)), .bslice 2626560640 32 7 [.t 136], none, 0⟩,
 ⟨(some (138)), .append 2626560704 32 7 48 (.t 127) (.t 137), none, 0⟩,
 ⟨(some (5)), .mov (.t 138), none, 0⟩]) (.skip))))) (.region false [
 ⟨(some (139)), .bin .add (.t 121) (.i 1), none, 0⟩,
 ⟨(some (121)), .mov (.t 139), none, 0⟩]))))
def i41_r7 : ICode :=
(.region false [
 ⟨(some (140)), .bin .add (.t 118) (.i 1), none, 0⟩,
 ⟨(some (118)), .mov (.t 140), none, 0⟩])
def i41_l8 : ICode :=
(.seq (.region false [
 ⟨(some (119)), .bin .lss (.t 118) (.t 117), none, 0⟩]) (.seq (.cond (.t 119) (.skip) (.exit 11)) (.seq (.block 12 (.seq (.region false [
 ⟨(some (120)), .mov (.t 118), none, 0⟩,
 ⟨(some (14)), .mov (.t 120), none, 0⟩]) (.seq (.region false [
 ⟨(some (121)), .mov (.i 0), none, 0⟩]) (.block 13 (.loop i41_l6))))) i41_r7)))
def i41_r9 : ICode :=
(.region false [
 ⟨(some (151)), .bin .add (.t 42) (.i 1), none, 0⟩,
 ⟨(some (42)), .mov (.t 151), none, 0⟩])
def i41_l10 : ICode :=
(.seq (.region false [
 ⟨(some (43)), .bin .lss (.t 42) (.t 41), none, 0⟩]) (.seq (.cond (.t 43) (.skip) (.exit 2)) (.seq (.block 3 (.seq (.region false [
 ⟨(some (44)), .mov (.t 42), none, 0⟩,
 ⟨(some (8)), .mov (.t 44), none, 0⟩]) (.seq (.region false [
 ⟨(some (45)), .mov (.t 1), none, 0⟩]) (.block 4 (.seq (.region false [
 ⟨(some (53)), .bin .eql (.t 45) (.i 2), none, 0⟩,
 ⟨(some (52)), .mov (.t 53), none, 0⟩]) (.cond (.t 52) (.seq (.region false [
 ⟨(some (9)), .mov (.k (.one (.p (.nils)))), none, 0⟩]) (.seq (.seq (.region false [
 ⟨(some (54)), .mov (.i 0), none, 0⟩]) (.block 5 (.loop i41_l2))) i41_r4)) (.seq (.region false [
 ⟨(some (98)), .bin .eql (.t 45) (.i 5), none, 0⟩,
 ⟨(some (97)), .mov (.t 98), none, 0⟩]) (.cond (.t 97) (.seq (.region false [
 ⟨(some (99)), .mov (.i 0), none, 0⟩]) (.block 9 (.loop i41_l5))) (.seq (.region false [
 ⟨(some (116)), .bin .eql (.t 45) (.i 7), none, 0⟩,
 ⟨(some (115)), .mov (.t 116), none, 0⟩]) (.cond (.t 115) (.seq (.region false [
 ⟨(some (117)), .mov (.t 6), none, 0⟩,
 ⟨(some (118)), .mov (.i 0), none, 0⟩]) (.block 11 (.loop i41_l8))) (.seq (.seq (.region false [
 ⟨(some (142)), .bin .eql (.t 45) (.i 3), none, 0⟩,
 ⟨(some (141)), .mov (.t 142), none, 0⟩]) (.cond (.t 141) (.skip) (.seq (.region false [
 ⟨(some (143)), .bin .eql (.t 45) (.i 6), none, 0⟩,
 ⟨(some (141)), .mov (.t 143), none, 0⟩]) (.cond (.t 141) (.skip) (.region false [
 ⟨(some (144)), .bin .eql (.t 45) (.i 8), none, 0⟩,
 ⟨(some (141)), .mov (.t 144), none, 0⟩]))))) (.cond (.t 141) (.region false [
 ⟨(some (145)), .mov (.t 5), none, 0⟩,
 ⟨(some (146)), .mov (.t 0), none, 0⟩,
 ⟨(some (147)), .mov (.t 1), none, 0⟩,
 ⟨(some (148)), .mov (.t 8), none, 0⟩,
 ⟨(some (149)), .call 2626944256 (.k (.one (.p (.fn 65 [] [])))) [.t 146, .t 147, .t 148], none, 0⟩,
 ⟨(some (150)), .append 2626944320 32 7 48 (.t 145) (.t 149), none, 0⟩,
 ⟨(some (5)), .mov (.t 150), none, 0⟩]) (.region false [
 ⟨(some (46)), .mov (.t 5), none, 0⟩,
 ⟨(some (47)), .mov (.t 1), none, 0⟩,
 ⟨(some (48)), .mov (.t 8), none, 0⟩,
 ⟨(some (49)), .build [.int .i64 0, .int .i64 0, .int .i64 0, .int .i64 0, .bool false, .bool false, .int .i64 0] [(0, 1, .t 47), (1, 1, .t 48)], none, 0⟩,
 ⟨(some (50)), .bslice 2624768256 32 7 [.t 49], none, 0⟩,
 ⟨(some (51)), .append 2624768320 32 7 48 (.t 46) (.t 50), none, 0⟩,
 ⟨(some (5)), .mov (.t 51), none, 0⟩]))))))))))))) i41_r9)))
def i41_r11 : ICode :=
(.seq (.region false [
 ⟨(some (152)), .mov (.t 5), none, 0⟩,
 ⟨(some (4)), .mov (.t 152), none, 0⟩]) (.ret))
def i41_r12 : ICode :=
(.seq (.seq (.region false [
 ⟨(some (41)), .mov (.t 6), none, 0⟩,
 ⟨(some (42)), .mov (.i 0), none, 0⟩]) (.block 2 (.loop i41_l10))) i41_r11)
def i41 : IFn :=
⟨153, [(4, none)],
 (.seq (.region false [
 ⟨(some (4)), .mov (.k (.one (.p (.nils)))), none, 0⟩]) (.seq (.region false [
 ⟨(some (5)), .mov (.k (.one (.p (.nils)))), none, 0⟩]) (.seq (.region false [
 ⟨(some (16)), .mov (.t 0), none, 0⟩,
 ⟨(some (17)), .nilchk (.t 16), none, 0⟩,
 ⟨(some (18)), .faddr 1 (.t 17), none, 0⟩,
 ⟨(some (19)), .load none (.t 18), none, 0⟩,
 ⟨(some (20)), .llen (.t 19), none, 0⟩,
 ⟨(some (6)), .mov (.t 20), none, 0⟩]) (.seq (.seq (.region false [
 ⟨(some (21)), .mov (.t 6), none, 0⟩,
 ⟨(some (22)), .bin .eql (.t 21) (.i 0), none, 0⟩,
 ⟨(some (23)), .mov (.t 22), none, 0⟩,
 ⟨(some (24)), .mov (.t 1), (some (23, true)), 0⟩,
 ⟨(some (25)), .bin .eql (.t 24) (.i 2), (some (23, true)), 0⟩,
 ⟨(some (26)), .pick (.t 23) (.t 25) (.b false), none, 0⟩]) (.cond (.t 26) (.seq (.region false [
 ⟨(some (7)), .mov (.i 0), none, 0⟩]) (.block 0 (.loop i41_l1))) (.skip))) i41_r12))))⟩
def i42_l1 : ICode :=
(.seq (.region false [
 ⟨(some (21)), .bin .lss (.t 20) (.t 19), none, 0⟩]) (.seq (.cond (.t 21) (.skip) (.exit 0)) (.seq (.block 1 (.seq (.region false [
 ⟨(some (22)), .mov (.t 20), none, 0⟩,
 ⟨(some (23)), .iaddr 6 (.t 18) (.t 20), none, 0⟩,
 ⟨(some (24)), .load (some (6)) (.t 23), none, 0⟩,
 ⟨(some (6)), .alloc 2688320192 [.int .i64 0, .int .i64 0, .int .i64 0, .int .i64 0, .int .i64 0, .bool false], none, 0⟩,
 ⟨(some (5)), .mov (.t 22), none, 0⟩,
 ⟨none, .store 6 (.t 6) (.t 24), none, 0⟩]) (.seq (.seq (.region false [
 ⟨(some (25)), .faddr 0 (.t 6), none, 0⟩,
 ⟨(some (26)), .load none (.t 25), none, 0⟩,
 ⟨(some (27)), .bin .eql (.t 26) (.i 1), none, 0⟩]) (.cond (.t 27) (.region false [
 ⟨(some (28)), .mov (.t 0), none, 0⟩,
 ⟨(some (29)), .nilchk (.t 28), none, 0⟩,
 ⟨(some (30)), .faddr 2 (.t 29), none, 0⟩,
 ⟨(some (31)), .load none (.t 30), none, 0⟩,
 ⟨(some (32)), .mov (.t 5), none, 0⟩,
 ⟨(some (33)), .iaddr 1 (.t 31) (.t 32), none, 0⟩,
 ⟨(some (34)), .load none (.t 33), none, 0⟩,
 ⟨(some (4)), .mov (.t 34), none, 0⟩]) (.skip))) (.region false [
 ⟨(some (35)), .mov (.t 3), none, 0⟩,
 ⟨(some (36)), .mov (.t 5), none, 0⟩,
 ⟨(some (37)), .mov (.t 4), none, 0⟩,
 ⟨(some (38)), .iaddr 1 (.t 35) (.t 36), none, 0⟩,
 ⟨none, .store 1 (.t 38) (.t 37), none, 0⟩])))) (.region false [
 ⟨(some (39)), .bin .add (.t 20) (.i 1), none, 0⟩,
 ⟨(some (20)), .mov (.t 39), none, 0⟩]))))
def i42_r2 : ICode :=
(.seq (.region false [
 ⟨(some (40)), .mov (.t 3), none, 0⟩,
 ⟨(some (2)), .mov (.t 40), none, 0⟩]) (.ret))
def i42 : IFn :=
⟨41, [(2, none)],
 (.seq (.region false [
 ⟨(some (2)), .mov (.k (.one (.p (.nils)))), none, 0⟩]) (.seq (.region false [
 ⟨(some (7)), .mov (.t 0), none, 0⟩,
 ⟨(some (8)), .nilchk (.t 7), none, 0⟩,
 ⟨(some (9)), .faddr 0 (.t 8), none, 0⟩,
 ⟨(some (10)), .faddr 1 (.t 9), none, 0⟩,
 ⟨(some (11)), .load none (.t 10), none, 0⟩,
 ⟨(some (12)), .llen (.t 11), none, 0⟩,
 ⟨(some (13)), .mkslice 2688064384 4 1 1 [.bool false] (.t 12) (.t 12), none, 0⟩,
 ⟨(some (3)), .mov (.t 13), none, 0⟩]) (.seq (.region false [
 ⟨(some (4)), .mov (.b false), none, 0⟩]) (.seq (.seq (.region false [
 ⟨(some (14)), .mov (.t 0), none, 0⟩,
 ⟨(some (15)), .nilchk (.t 14), none, 0⟩,
 ⟨(some (16)), .faddr 0 (.t 15), none, 0⟩,
 ⟨(some (17)), .faddr 1 (.t 16), none, 0⟩,
 ⟨(some (18)), .load none (.t 17), none, 0⟩,
 ⟨(some (19)), .llen (.t 18), none, 0⟩,
 ⟨(some (20)), .mov (.i 0), none, 0⟩]) (.block 0 (.loop i42_l1))) i42_r2))))⟩
def i43_l1 : ICode :=
(.seq (.block 1 (.seq (.seq (.region false [
 ⟨(some (38)), .mov (.t 12), none, 0⟩,
 ⟨(some (39)), .mov (.t 9), none, 0⟩,
 ⟨(some (40)), .bin .mul (.i 2) (.t 39), none, 0⟩,
 ⟨(some (41)), .bin .lss (.t 38) (.t 40), none, 0⟩]) (.cond (.t 41) (.seq (.seq (.region false [
 ⟨(some (42)), .mov (.t 2), none, 0⟩,
 ⟨(some (43)), .mov (.t 12), none, 0⟩,
 ⟨(some (44)), .iaddr 1 (.t 42) (.t 43), none, 0⟩,
 ⟨(some (45)), .load none (.t 44), none, 0⟩]) (.cond (.t 45) (.exit 0) (.skip))) (.seq (.region false [
 ⟨(some (46)), .mov (.t 2), none, 0⟩,
 ⟨(some (47)), .mov (.t 12), none, 0⟩,
 ⟨(some (48)), .iaddr 1 (.t 46) (.t 47), none, 0⟩,
 ⟨none, .store 1 (.t 48) (.b true), none, 0⟩]) (.seq (.region false [
 ⟨(some (49)), .faddr 1 (.t 11), none, 0⟩,
 ⟨(some (50)), .load none (.t 49), none, 0⟩,
 ⟨(some (51)), .mov (.t 12), none, 0⟩,
 ⟨(some (52)), .bslice 2752512192 3 1 [.t 51], none, 0⟩,
 ⟨(some (53)), .append 2752512256 3 1 8 (.t 50) (.t 52), none, 0⟩,
 ⟨(some (54)), .faddr 1 (.t 11), none, 0⟩,
 ⟨none, .store 1 (.t 54) (.t 53), none, 0⟩]) (.exit 1)))) (.skip))) (.seq (.region false [
 ⟨(some (55)), .mov (.t 12), none, 0⟩,
 ⟨(some (56)), .mov (.t 9), none, 0⟩,
 ⟨(some (57)), .bin .mul (.i 2) (.t 56), none, 0⟩,
 ⟨(some (58)), .bin .sub (.t 55) (.t 57), none, 0⟩,
 ⟨(some (59)), .bin .quo (.t 58) (.i 2), none, 0⟩,
 ⟨(some (13)), .mov (.t 59), none, 0⟩]) (.seq (.region false [
 ⟨(some (61)), .mov (.t 0), none, 0⟩,
 ⟨(some (62)), .mov (.t 13), none, 0⟩,
 ⟨(some (63)), .call 2752640128 (.k (.one (.p (.fn 67 [] [])))) [.t 61, .t 62], none, 0⟩,
 ⟨(some (60)), .mov (.t 63), none, 0⟩,
 ⟨(some (64)), .extract (.t 60) 0, none, 0⟩,
 ⟨(some (65)), .extract (.t 60) 1, none, 0⟩,
 ⟨(some (14)), .mov (.t 64), none, 0⟩,
 ⟨(some (15)), .mov (.t 65), none, 0⟩]) (.seq (.seq (.region false [
 ⟨(some (66)), .mov (.t 12), none, 0⟩,
 ⟨(some (67)), .bin .rem (.t 66) (.i 2), none, 0⟩,
 ⟨(some (68)), .bin .eql (.t 67) (.i 1), none, 0⟩]) (.cond (.t 68) (.seq (.region false [
 ⟨(some (69)), .mov (.t 14), none, 0⟩,
 ⟨(some (70)), .call 2752768064 (.k (.one (.p (.fn 68 [] [])))) [.t 69], none, 0⟩]) (.region false [
 ⟨(some (71)), .mov (.t 15), none, 0⟩,
 ⟨(some (72)), .call 2752832064 (.k (.one (.p (.fn 69 [] [])))) [.t 71], none, 0⟩])) (.skip))) (.seq (.region true [
 ⟨(some (73)), .faddr 2 (.t 11), none, 0⟩,
 ⟨(some (74)), .load none (.t 73), none, 1⟩,
 ⟨(some (75)), .mov (.t 14), none, 0⟩,
 ⟨(some (76)), .append 2752896192 116 2 16 (.t 74) (.t 75), none, 7⟩,
 ⟨(some (77)), .faddr 3 (.t 11), none, 0⟩,
 ⟨(some (78)), .load none (.t 77), none, 16⟩,
 ⟨(some (79)), .mov (.t 15), none, 0⟩,
 ⟨(some (80)), .append 2752896448 3 1 8 (.t 78) (.t 79), none, 127⟩,
 ⟨(some (81)), .faddr 2 (.t 11), none, 63⟩,
 ⟨none, .store 1 (.t 81) (.t 76), none, 511⟩,
 ⟨(some (82)), .faddr 3 (.t 11), none, 1023⟩,
 ⟨none, .store 1 (.t 82) (.t 80), none, 2047⟩]) (.region false [
 ⟨(some (83)), .faddr 4 (.t 11), none, 0⟩,
 ⟨(some (84)), .load none (.t 83), none, 0⟩,
 ⟨(some (85)), .mov (.t 84), none, 0⟩,
 ⟨(some (86)), .mov (.t 13), (some (85, false)), 0⟩,
 ⟨(some (87)), .mov (.t 10), (some (85, false)), 0⟩,
 ⟨(some (88)), .bin .sub (.t 87) (.i 1), (some (85, false)), 0⟩,
 ⟨(some (89)), .bin .eql (.t 86) (.t 88), (some (85, false)), 0⟩,
 ⟨(some (90)), .pick (.t 85) (.b true) (.t 89), none, 0⟩,
 ⟨(some (91)), .faddr 4 (.t 11), none, 0⟩,
 ⟨none, .store 1 (.t 91) (.t 90), none, 0⟩]))))))) (.region false [
 ⟨(some (35)), .mov (.t 0), none, 0⟩,
 ⟨(some (36)), .mov (.t 12), none, 0⟩,
 ⟨(some (37)), .call 2752256128 (.k (.one (.p (.fn 66 [] [])))) [.t 35, .t 36], none, 0⟩,
 ⟨(some (12)), .mov (.t 37), none, 0⟩]))
def i43_r2 : ICode :=
(.seq (.region false [
 ⟨(some (92)), .load (some (5)) (.t 11), none, 0⟩,
 ⟨none, .store 5 (.t 8) (.t 92), none, 0⟩]) (.ret))
def i43 : IFn :=
⟨93, [(8, some (some (5)))],
 (.seq (.region false [
 ⟨(some (8)), .alloc 2752000000 [.bool false, .nils, .nils, .nils, .bool false], none, 0⟩]) (.seq (.region true [
 ⟨(some (16)), .mov (.t 0), none, 0⟩,
 ⟨(some (17)), .nilchk (.t 16), none, 1⟩,
 ⟨(some (18)), .faddr 0 (.t 17), none, 3⟩,
 ⟨(some (19)), .faddr 1 (.t 18), none, 7⟩,
 ⟨(some (20)), .load none (.t 19), none, 15⟩,
 ⟨(some (21)), .llen (.t 20), none, 31⟩,
 ⟨(some (22)), .mov (.t 0), none, 0⟩,
 ⟨(some (23)), .nilchk (.t 22), none, 64⟩,
 ⟨(some (24)), .faddr 3 (.t 23), none, 192⟩,
 ⟨(some (25)), .load none (.t 24), none, 448⟩,
 ⟨(some (26)), .llen (.t 25), none, 960⟩,
 ⟨(some (9)), .mov (.t 21), none, 63⟩,
 ⟨(some (10)), .mov (.t 26), none, 4095⟩]) (.seq (.region false [
 ⟨(some (27)), .mov (.t 3), none, 0⟩,
 ⟨(some (28)), .mov (.t 1), none, 0⟩,
 ⟨(some (29)), .bin .quo (.t 28) (.i 2), none, 0⟩,
 ⟨(some (30)), .iaddr 1 (.t 27) (.t 29), none, 0⟩,
 ⟨(some (31)), .load none (.t 30), none, 0⟩,
 ⟨(some (32)), .un .not (.t 31), none, 0⟩,
 ⟨(some (33)), .build [.bool false, .nils, .nils, .nils, .bool false] [(0, 1, .t 32)], none, 0⟩,
 ⟨(some (11)), .alloc 2752128448 [.bool false, .nils, .nils, .nils, .bool false], none, 0⟩,
 ⟨none, .store 5 (.t 11) (.t 33), none, 0⟩]) (.seq (.skip) (.seq (.seq (.region false [
 ⟨(some (34)), .mov (.t 1), none, 0⟩,
 ⟨(some (12)), .mov (.t 34), none, 0⟩]) (.block 0 (.loop i43_l1))) i43_r2)))))⟩
def i45 : IFn :=
⟨11, [(3, none)],
 (.seq (.region false [
 ⟨(some (3)), .mov (.b false), none, 0⟩]) (.seq (.region false [
 ⟨(some (4)), .mov (.t 0), none, 0⟩,
 ⟨(some (5)), .bin .geq (.t 4) (.i 0), none, 0⟩,
 ⟨(some (6)), .mov (.t 5), none, 0⟩,
 ⟨(some (7)), .mov (.t 0), (some (6, true)), 0⟩,
 ⟨(some (8)), .load none (.t 1), (some (6, true)), 0⟩,
 ⟨(some (9)), .bin .lss (.t 7) (.t 8), (some (6, true)), 0⟩,
 ⟨(some (10)), .pick (.t 6) (.t 9) (.b false), none, 0⟩,
 ⟨(some (3)), .mov (.t 10), none, 0⟩]) (.ret)))⟩
def i46 : IFn :=
⟨102, [(4, none), (5, none)],
 (.seq (.region false [
 ⟨(some (3)), .box 2944000000 (.t 1), none, 0⟩,
 ⟨(some (4)), .mov (.k (.one (.p (.nils)))), none, 0⟩,
 ⟨(some (5)), .mov (.b false), none, 0⟩]) (.seq (.region false [
 ⟨(some (12)), .mov (.t 0), none, 0⟩,
 ⟨(some (13)), .faddr 1 (.t 3), none, 0⟩,
 ⟨(some (14)), .load none (.t 13), none, 0⟩,
 ⟨(some (15)), .call 2944064192 (.k (.one (.p (.fn 70 [] [])))) [.t 12, .t 14], none, 0⟩,
 ⟨(some (11)), .mov (.t 15), none, 0⟩,
 ⟨(some (16)), .extract (.t 11) 0, none, 0⟩,
 ⟨(some (17)), .extract (.t 11) 1, none, 0⟩,
 ⟨(some (6)), .alloc 2944064448 [.int .i64 0], none, 0⟩,
 ⟨(some (7)), .alloc 2944064512 [.int .i64 0], none, 0⟩,
 ⟨none, .store 1 (.t 6) (.t 16), none, 0⟩,
 ⟨none, .store 1 (.t 7) (.t 17), none, 0⟩]) (.seq (.region true [
 ⟨(some (18)), .mov (.t 0), none, 0⟩,
 ⟨(some (19)), .nilchk (.t 18), none, 1⟩,
 ⟨(some (20)), .faddr 1 (.t 19), none, 3⟩,
 ⟨(some (21)), .load none (.t 20), none, 7⟩,
 ⟨(some (22)), .load none (.t 6), none, 0⟩,
 ⟨(some (23)), .iaddr 7 (.t 21) (.t 22), none, 31⟩,
 ⟨(some (24)), .load (some (7)) (.t 23), none, 63⟩,
 ⟨(some (25)), .mov (.t 0), none, 0⟩,
 ⟨(some (26)), .nilchk (.t 25), none, 128⟩,
 ⟨(some (27)), .faddr 1 (.t 26), none, 384⟩,
 ⟨(some (28)), .load none (.t 27), none, 896⟩,
 ⟨(some (29)), .load none (.t 7), none, 0⟩,
 ⟨(some (30)), .iaddr 7 (.t 28) (.t 29), none, 3968⟩,
 ⟨(some (31)), .load (some (7)) (.t 30), none, 8064⟩,
 ⟨(some (8)), .alloc 2944128896 [.int .i64 0, .int .i64 0, .int .i64 0, .int .i64 0, .int .i64 0, .bool false, .bool false], none, 0⟩,
 ⟨(some (9)), .alloc 2944128960 [.int .i64 0, .int .i64 0, .int .i64 0, .int .i64 0, .int .i64 0, .bool false, .bool false], none, 0⟩,
 ⟨none, .store 7 (.t 8) (.t 24), none, 49279⟩,
 ⟨none, .store 7 (.t 9) (.t 31), none, 131071⟩]) (.seq (.seq (.region false [
 ⟨(some (32)), .faddr 0 (.t 8), none, 0⟩,
 ⟨(some (33)), .faddr 0 (.t 32), none, 0⟩,
 ⟨(some (34)), .load none (.t 33), none, 0⟩,
 ⟨(some (35)), .bin .neq (.t 34) (.i 1), none, 0⟩,
 ⟨(some (36)), .mov (.t 35), none, 0⟩,
 ⟨(some (37)), .faddr 0 (.t 9), (some (36, false)), 0⟩,
 ⟨(some (38)), .faddr 0 (.t 37), (some (36, false)), 0⟩,
 ⟨(some (39)), .load none (.t 38), (some (36, false)), 0⟩,
 ⟨(some (40)), .bin .neq (.t 39) (.i 1), (some (36, false)), 0⟩,
 ⟨(some (41)), .pick (.t 36) (.b true) (.t 40), none, 0⟩,
 ⟨(some (42)), .mov (.t 41), none, 0⟩,
 ⟨(some (43)), .faddr 0 (.t 8), (some (42, false)), 0⟩,
 ⟨(some (44)), .faddr 1 (.t 43), (some (42, false)), 0⟩,
 ⟨(some (45)), .load none (.t 44), (some (42, false)), 0⟩,
 ⟨(some (46)), .faddr 0 (.t 9), (some (42, false)), 0⟩,
 ⟨(some (47)), .faddr 1 (.t 46), (some (42, false)), 0⟩,
 ⟨(some (48)), .load none (.t 47), (some (42, false)), 0⟩,
 ⟨(some (49)), .bin .neq (.t 45) (.t 48), (some (42, false)), 0⟩,
 ⟨(some (50)), .pick (.t 42) (.b true) (.t 49), none, 0⟩,
 ⟨(some (51)), .mov (.t 50), none, 0⟩,
 ⟨(some (52)), .faddr 0 (.t 8), (some (51, false)), 0⟩,
 ⟨(some (53)), .faddr 2 (.t 52), (some (51, false)), 0⟩,
 ⟨(some (54)), .load none (.t 53), (some (51, false)), 0⟩,
 ⟨(some (55)), .faddr 0 (.t 9), (some (51, false)), 0⟩,
 ⟨(some (56)), .faddr 2 (.t 55), (some (51, false)), 0⟩,
 ⟨(some (57)), .load none (.t 56), (some (51, false)), 0⟩,
 ⟨(some (58)), .max (.t 54) (.t 57), (some (51, false)), 0⟩,
 ⟨(some (59)), .faddr 0 (.t 8), (some (51, false)), 0⟩,
 ⟨(some (60)), .faddr 2 (.t 59), (some (51, false)), 0⟩,
 ⟨(some (61)), .load none (.t 60), (some (51, false)), 0⟩,
 ⟨(some (62)), .faddr 0 (.t 9), (some (51, false)), 0⟩,
 ⟨(some (63)), .faddr 2 (.t 62), (some (51, false)), 0⟩,
 ⟨(some (64)), .load none (.t 63), (some (51, false)), 0⟩,
 ⟨(some (65)), .min (.t 61) (.t 64), (some (51, false)), 0⟩,
 ⟨(some (66)), .bin .sub (.t 58) (.t 65), (some (51, false)), 0⟩,
 ⟨(some (67)), .bin .neq (.t 66) (.i 1), (some (51, false)), 0⟩,
 ⟨(some (68)), .pick (.t 51) (.b true) (.t 67), none, 0⟩,
 ⟨(some (69)), .mov (.t 68), none, 0⟩,
 ⟨(some (70)), .mov (.t 0), (some (69, false)), 0⟩,
 ⟨(some (71)), .nilchk (.t 70), (some (69, false)), 0⟩,
 ⟨(some (72)), .faddr 4 (.t 71), (some (69, false)), 0⟩,
 ⟨(some (73)), .load none (.t 72), (some (69, false)), 0⟩,
 ⟨(some (74)), .bin .leq (.t 73) (.i 2), (some (69, false)), 0⟩,
 ⟨(some (75)), .mov (.t 74), (some (69, false)), 0⟩,
 ⟨(some (76)), .mov (.t 0), (some (75, true)), 0⟩,
 ⟨(some (77)), .nilchk (.t 76), (some (75, true)), 0⟩,
 ⟨(some (78)), .faddr 5 (.t 77), (some (75, true)), 0⟩,
 ⟨(some (79)), .load none (.t 78), (some (75, true)), 0⟩,
 ⟨(some (80)), .bin .gtr (.t 79) (.i 0), (some (75, true)), 0⟩,
 ⟨(some (81)), .pick (.t 75) (.t 80) (.b false), (some (69, false)), 0⟩,
 ⟨(some (82)), .pick (.t 69) (.b true) (.t 81), none, 0⟩]) (.cond (.t 82) (.seq (.region false [
 ⟨(some (4)), .mov (.k (.one (.p (.nils)))), none, 0⟩,
 ⟨(some (5)), .mov (.b false), none, 0⟩]) (.ret)) (.skip))) (.seq (.region false [
 ⟨(some (83)), .mov (.t 0), none, 0⟩,
 ⟨(some (84)), .nilchk (.t 83), none, 0⟩,
 ⟨(some (85)), .faddr 1 (.t 84), none, 0⟩,
 ⟨(some (86)), .load none (.t 85), none, 0⟩,
 ⟨(some (87)), .mkfn 72 [] [.t 6, .t 7], none, 0⟩,
 ⟨(some (88)), .call 2944320320 (.k (.one (.p (.fn 71 [] [])))) [.t 86, .t 87], none, 0⟩,
 ⟨(some (10)), .mov (.t 88), none, 0⟩]) (.seq (.region false [
 ⟨(some (89)), .mov (.t 10), none, 0⟩,
 ⟨(some (90)), .faddr 0 (.t 8), none, 0⟩,
 ⟨(some (91)), .faddr 1 (.t 90), none, 0⟩,
 ⟨(some (92)), .load none (.t 91), none, 0⟩,
 ⟨(some (93)), .faddr 0 (.t 8), none, 0⟩,
 ⟨(some (94)), .faddr 2 (.t 93), none, 0⟩,
 ⟨(some (95)), .load none (.t 94), none, 0⟩,
 ⟨(some (96)), .faddr 0 (.t 9), none, 0⟩,
 ⟨(some (97)), .faddr 2 (.t 96), none, 0⟩,
 ⟨(some (98)), .load none (.t 97), none, 0⟩,
 ⟨(some (99)), .max (.t 95) (.t 98), none, 0⟩,
 ⟨(some (100)), .call 2944384704 (.k (.one (.p (.fn 73 [] [])))) [.t 89, .t 92, .t 99, .i (-2)], none, 0⟩]) (.seq (.region false [
 ⟨(some (101)), .mov (.t 10), none, 0⟩,
 ⟨(some (4)), .mov (.t 101), none, 0⟩,
 ⟨(some (5)), .mov (.b true), none, 0⟩]) (.ret))))))))⟩
def i47_l1 : ICode :=
(.seq (.region false [
 ⟨(some (41)), .bin .lss (.t 40) (.i 2), none, 0⟩]) (.seq (.cond (.t 41) (.skip) (.exit 0)) (.seq (.block 1 (.seq (.region false [
 ⟨(some (42)), .mov (.t 40), none, 0⟩,
 ⟨(some (9)), .mov (.t 42), none, 0⟩]) (.seq (.region true [
 ⟨(some (43)), .mov (.t 0), none, 0⟩,
 ⟨(some (44)), .nilchk (.t 43), none, 1⟩,
 ⟨(some (45)), .faddr 2 (.t 44), none, 3⟩,
 ⟨(some (46)), .load none (.t 45), none, 7⟩,
 ⟨(some (47)), .mov (.t 0), none, 0⟩,
 ⟨(some (48)), .nilchk (.t 47), none, 16⟩,
 ⟨(some (49)), .faddr 3 (.t 48), none, 48⟩,
 ⟨(some (50)), .load none (.t 49), none, 112⟩,
 ⟨(some (51)), .faddr 1 (.t 3), none, 0⟩,
 ⟨(some (52)), .load none (.t 51), none, 256⟩,
 ⟨(some (53)), .bin .mul (.i 2) (.t 52), none, 768⟩,
 ⟨(some (54)), .mov (.t 9), none, 0⟩,
 ⟨(some (55)), .bin .add (.t 53) (.t 54), none, 3840⟩,
 ⟨(some (56)), .iaddr 1 (.t 50) (.t 55), none, 8176⟩,
 ⟨(some (57)), .load none (.t 56), none, 16368⟩,
 ⟨(some (58)), .iaddr 5 (.t 46) (.t 57), none, 32767⟩,
 ⟨(some (59)), .load (some (5)) (.t 58), none, 65535⟩,
 ⟨(some (10)), .alloc 3008577088 [.bool false, .nils, .nils, .nils, .bool false], none, 0⟩,
 ⟨none, .store 5 (.t 10) (.t 59), none, 262143⟩]) (.seq (.seq (.region false [
 ⟨(some (60)), .faddr 2 (.t 10), none, 0⟩,
 ⟨(some (61)), .load none (.t 60), none, 0⟩,
 ⟨(some (62)), .load (some (2)) (.t 6), none, 0⟩,
 ⟨(some (63)), .call 3008640192 (.k (.one (.p (.fn 74 [] [])))) [.t 61, .t 62], none, 0⟩,
 ⟨(some (64)), .un .not (.t 63), none, 0⟩]) (.cond (.t 64) (.exit 1) (.skip))) (.seq (.seq (.region false [
 ⟨(some (65)), .faddr 0 (.t 10), none, 0⟩,
 ⟨(some (66)), .load none (.t 65), none, 0⟩,
 ⟨(some (67)), .mov (.t 9), none, 0⟩,
 ⟨(some (68)), .bin .eql (.t 67) (.i 1), none, 0⟩,
 ⟨(some (69)), .eqc .bool true (.t 66) (.t 68), none, 0⟩]) (.cond (.t 69) (.region false [
 ⟨(some (70)), .faddr 0 (.t 8), none, 0⟩,
 ⟨(some (71)), .faddr 2 (.t 70), none, 0⟩,
 ⟨(some (72)), .load none (.t 71), none, 0⟩,
 ⟨(some (73)), .faddr 0 (.t 7), none, 0⟩,
 ⟨(some (74)), .faddr 2 (.t 73), none, 0⟩,
 ⟨(some (75)), .load none (.t 74), none, 0⟩,
 ⟨(some (76)), .faddr 0 (.t 7), none, 0⟩,
 ⟨(some (77)), .faddr 2 (.t 76), none, 0⟩,
 ⟨none, .store 1 (.t 77) (.t 72), none, 0⟩,
 ⟨(some (78)), .faddr 0 (.t 8), none, 0⟩,
 ⟨(some (79)), .faddr 2 (.t 78), none, 0⟩,
 ⟨none, .store 1 (.t 79) (.t 75), none, 0⟩]) (.skip))) (.seq (.region true [
 ⟨(some (80)), .faddr 0 (.t 10), none, 0⟩,
 ⟨(some (81)), .load none (.t 80), none, 1⟩,
 ⟨(some (82)), .faddr 0 (.t 10), none, 0⟩,
 ⟨(some (83)), .load none (.t 82), none, 4⟩,
 ⟨(some (84)), .un .not (.t 83), none, 12⟩,
 ⟨(some (85)), .faddr 6 (.t 7), none, 3⟩,
 ⟨none, .store 1 (.t 85) (.t 81), none, 35⟩,
 ⟨(some (86)), .faddr 6 (.t 8), none, 127⟩,
 ⟨none, .store 1 (.t 86) (.t 84), none, 255⟩]) (.seq (.region false [
 ⟨(some (87)), .mov (.t 0), none, 0⟩,
 ⟨(some (88)), .nilchk (.t 87), none, 0⟩,
 ⟨(some (89)), .faddr 1 (.t 88), none, 0⟩,
 ⟨(some (90)), .load none (.t 89), none, 0⟩,
 ⟨(some (91)), .call 3008896256 (.k (.one (.p (.fn 75 [] [])))) [.t 90], none, 0⟩,
 ⟨(some (11)), .mov (.t 91), none, 0⟩]) (.seq (.region false [
 ⟨(some (92)), .mov (.t 11), none, 0⟩,
 ⟨(some (93)), .faddr 2 (.t 3), none, 0⟩,
 ⟨(some (94)), .load none (.t 93), none, 0⟩,
 ⟨(some (95)), .faddr 3 (.t 3), none, 0⟩,
 ⟨(some (96)), .load none (.t 95), none, 0⟩,
 ⟨(some (97)), .call 3008960320 (.k (.one (.p (.fn 73 [] [])))) [.t 92, .t 94, .t 96, .i 2], none, 0⟩]) (.seq (.region false [
 ⟨(some (98)), .mov (.t 11), none, 0⟩,
 ⟨(some (99)), .faddr 1 (.t 3), none, 0⟩,
 ⟨(some (100)), .load none (.t 99), none, 0⟩,
 ⟨(some (101)), .load (some (7)) (.t 7), none, 0⟩,
 ⟨(some (102)), .load (some (7)) (.t 8), none, 0⟩,
 ⟨(some (103)), .bslice 3009024320 75 7 [.t 101, .t 102], none, 0⟩,
 ⟨(some (104)), .call 3009024384 (.k (.one (.p (.fn 76 [] [])))) [.t 98, .t 100, .t 103], none, 0⟩,
 ⟨(some (4)), .mov (.t 104), none, 0⟩,
 ⟨(some (5)), .mov (.b true), none, 0⟩]) (.ret)))))))))) (.region false [
 ⟨(some (105)), .bin .add (.t 40) (.i 1), none, 0⟩,
 ⟨(some (40)), .mov (.t 105), none, 0⟩]))))
def i47_r2 : ICode :=
(.seq (.region false [
 ⟨(some (4)), .mov (.k (.one (.p (.nils)))), none, 0⟩,
 ⟨(some (5)), .mov (.b false), none, 0⟩]) (.ret))
def i47 : IFn :=
⟨106, [(4, none), (5, none)],
 (.seq (.region false [
 ⟨(some (3)), .box 3008000000 (.t 1), none, 0⟩,
 ⟨(some (4)), .mov (.k (.one (.p (.nils)))), none, 0⟩,
 ⟨(some (5)), .mov (.b false), none, 0⟩]) (.seq (.region false [
 ⟨(some (12)), .faddr 2 (.t 3), none, 0⟩,
 ⟨(some (13)), .load none (.t 12), none, 0⟩,
 ⟨(some (14)), .faddr 3 (.t 3), none, 0⟩,
 ⟨(some (15)), .load none (.t 14), none, 0⟩,
 ⟨(some (16)), .build [.int .i64 0, .int .i64 0] [(0, 1, .t 13), (1, 1, .t 15)], none, 0⟩,
 ⟨(some (6)), .alloc 3008064320 [.int .i64 0, .int .i64 0], none, 0⟩,
 ⟨none, .store 2 (.t 6) (.t 16), none, 0⟩]) (.seq (.region false [
 ⟨(some (17)), .faddr 2 (.t 3), none, 0⟩,
 ⟨(some (18)), .load none (.t 17), none, 0⟩,
 ⟨(some (19)), .faddr 3 (.t 3), none, 0⟩,
 ⟨(some (20)), .load none (.t 19), none, 0⟩,
 ⟨(some (21)), .bin .add (.t 20) (.i 1), none, 0⟩,
 ⟨(some (22)), .build [.int .i64 0, .int .i64 0, .int .i64 0, .int .i64 0, .int .i64 0, .bool false] [(0, 1, .i 1), (1, 1, .t 18), (2, 1, .t 21)], none, 0⟩,
 ⟨(some (23)), .build [.int .i64 0, .int .i64 0, .int .i64 0, .int .i64 0, .int .i64 0, .bool false, .bool false] [(0, 6, .t 22), (6, 1, .b true)], none, 0⟩,
 ⟨(some (7)), .alloc 3008128448 [.int .i64 0, .int .i64 0, .int .i64 0, .int .i64 0, .int .i64 0, .bool false, .bool false], none, 0⟩,
 ⟨none, .store 7 (.t 7) (.t 23), none, 0⟩]) (.seq (.region false [
 ⟨(some (24)), .faddr 2 (.t 3), none, 0⟩,
 ⟨(some (25)), .load none (.t 24), none, 0⟩,
 ⟨(some (26)), .faddr 3 (.t 3), none, 0⟩,
 ⟨(some (27)), .load none (.t 26), none, 0⟩,
 ⟨(some (28)), .bin .add (.t 27) (.i 2), none, 0⟩,
 ⟨(some (29)), .build [.int .i64 0, .int .i64 0, .int .i64 0, .int .i64 0, .int .i64 0, .bool false] [(0, 1, .i 1), (1, 1, .t 25), (2, 1, .t 28)], none, 0⟩,
 ⟨(some (30)), .build [.int .i64 0, .int .i64 0, .int .i64 0, .int .i64 0, .int .i64 0, .bool false, .bool false] [(0, 6, .t 29), (6, 1, .b false)], none, 0⟩,
 ⟨(some (8)), .alloc 3008192448 [.int .i64 0, .int .i64 0, .int .i64 0, .int .i64 0, .int .i64 0, .bool false, .bool false], none, 0⟩,
 ⟨none, .store 7 (.t 8) (.t 30), none, 0⟩]) (.seq (.seq (.region false [
 ⟨(some (31)), .mov (.t 0), none, 0⟩,
 ⟨(some (32)), .nilchk (.t 31), none, 0⟩,
 ⟨(some (33)), .faddr 1 (.t 32), none, 0⟩,
 ⟨(some (34)), .load none (.t 33), none, 0⟩,
 ⟨(some (35)), .llen (.t 34), none, 0⟩,
 ⟨(some (36)), .bin .eql (.t 35) (.i 0), none, 0⟩]) (.cond (.t 36) (.seq (.region false [
 ⟨(some (37)), .load (some (7)) (.t 7), none, 0⟩,
 ⟨(some (38)), .load (some (7)) (.t 8), none, 0⟩,
 ⟨(some (39)), .bslice 3008320128 75 7 [.t 37, .t 38], none, 0⟩,
 ⟨(some (4)), .mov (.t 39), none, 0⟩,
 ⟨(some (5)), .mov (.b true), none, 0⟩]) (.ret)) (.skip))) (.seq (.seq (.region false [
 ⟨(some (40)), .mov (.i 0), none, 0⟩]) (.block 0 (.loop i47_l1))) i47_r2))))))⟩
def i55_l1 : ICode :=
(.seq (.region false [
 ⟨(some (9)), .bin .lss (.t 8) (.t 7), none, 0⟩]) (.seq (.cond (.t 9) (.skip) (.exit 0)) (.seq (.block 1 (.seq (.region false [
 ⟨(some (10)), .mov (.t 8), none, 0⟩,
 ⟨(some (5)), .mov (.t 10), none, 0⟩]) (.seq (.region false [
 ⟨(some (11)), .mov (.t 1), none, 0⟩,
 ⟨(some (12)), .mov (.t 0), none, 0⟩,
 ⟨(some (13)), .mov (.t 5), none, 0⟩,
 ⟨(some (14)), .iaddr 7 (.t 12) (.t 13), none, 0⟩,
 ⟨(some (15)), .load (some (7)) (.t 14), none, 0⟩,
 ⟨(some (16)), .call 3520256320 (.t 11) [.t 15], none, 0⟩]) (.cond (.t 16) (.seq (.region false [
 ⟨(some (17)), .mov (.t 5), none, 0⟩,
 ⟨(some (4)), .mov (.t 17), none, 0⟩]) (.ret)) (.skip))))) (.region false [
 ⟨(some (18)), .bin .add (.t 8) (.i 1), none, 0⟩,
 ⟨(some (8)), .mov (.t 18), none, 0⟩]))))
def i55_r2 : ICode :=
(.seq (.region false [
 ⟨(some (4)), .mov (.i (-1)), none, 0⟩]) (.ret))
def i55 : IFn :=
⟨19, [(4, none)],
 (.seq (.region false [
 ⟨(some (4)), .mov (.i 0), none, 0⟩]) (.seq (.seq (.region false [
 ⟨(some (6)), .mov (.t 0), none, 0⟩,
 ⟨(some (7)), .llen (.t 6), none, 0⟩,
 ⟨(some (8)), .mov (.i 0), none, 0⟩]) (.block 0 (.loop i55_l1))) i55_r2))⟩
def i56 : IFn :=
⟨11, [(2, none)],
 (.seq (.region false [
 ⟨(some (1)), .box 3584000000 (.t 0), none, 0⟩,
 ⟨(some (2)), .mov (.b false), none, 0⟩]) (.seq (.region false [
 ⟨(some (3)), .faddr 0 (.t 1), none, 0⟩,
 ⟨(some (4)), .faddr 0 (.t 3), none, 0⟩,
 ⟨(some (5)), .load none (.t 4), none, 0⟩,
 ⟨(some (6)), .bin .eql (.t 5) (.i 1), none, 0⟩,
 ⟨(some (7)), .mov (.t 6), none, 0⟩,
 ⟨(some (8)), .faddr 6 (.t 1), (some (7, true)), 0⟩,
 ⟨(some (9)), .load none (.t 8), (some (7, true)), 0⟩,
 ⟨(some (10)), .pick (.t 7) (.t 9) (.b false), none, 0⟩,
 ⟨(some (2)), .mov (.t 10), none, 0⟩]) (.ret)))⟩
def i67 : IFn :=
⟨98, [(4, none), (5, none)],
 (.seq (.region false [
 ⟨(some (4)), .mov (.k (.one (.p (.nils)))), none, 0⟩,
 ⟨(some (5)), .mov (.k (.one (.p (.nils)))), none, 0⟩]) (.seq (.region false [
 ⟨(some (14)), .mov (.t 0), none, 0⟩,
 ⟨(some (15)), .nilchk (.t 14), none, 0⟩,
 ⟨(some (16)), .faddr 3 (.t 15), none, 0⟩,
 ⟨(some (17)), .load none (.t 16), none, 0⟩,
 ⟨(some (18)), .llen (.t 17), none, 0⟩,
 ⟨(some (6)), .mov (.t 18), none, 0⟩]) (.seq (.region true [
 ⟨(some (19)), .mov (.t 0), none, 0⟩,
 ⟨(some (20)), .nilchk (.t 19), none, 1⟩,
 ⟨(some (21)), .faddr 0 (.t 20), none, 3⟩,
 ⟨(some (22)), .faddr 1 (.t 21), none, 7⟩,
 ⟨(some (23)), .load none (.t 22), none, 15⟩,
 ⟨(some (24)), .mov (.t 0), none, 0⟩,
 ⟨(some (25)), .nilchk (.t 24), none, 32⟩,
 ⟨(some (26)), .faddr 3 (.t 25), none, 96⟩,
 ⟨(some (27)), .load none (.t 26), none, 224⟩,
 ⟨(some (28)), .mov (.t 1), none, 0⟩,
 ⟨(some (29)), .iaddr 1 (.t 27) (.t 28), none, 992⟩,
 ⟨(some (30)), .load none (.t 29), none, 2016⟩,
 ⟨(some (31)), .iaddr 6 (.t 23) (.t 30), none, 4095⟩,
 ⟨(some (32)), .load (some (6)) (.t 31), none, 8191⟩,
 ⟨(some (33)), .mov (.t 0), none, 0⟩,
 ⟨(some (34)), .nilchk (.t 33), none, 16384⟩,
 ⟨(some (35)), .faddr 0 (.t 34), none, 49152⟩,
 ⟨(some (36)), .faddr 1 (.t 35), none, 114688⟩,
 ⟨(some (37)), .load none (.t 36), none, 245760⟩,
 ⟨(some (38)), .mov (.t 0), none, 0⟩,
 ⟨(some (39)), .nilchk (.t 38), none, 524288⟩,
 ⟨(some (40)), .faddr 3 (.t 39), none, 1572864⟩,
 ⟨(some (41)), .load none (.t 40), none, 3670016⟩,
 ⟨(some (42)), .mov (.t 1), none, 0⟩,
 ⟨(some (43)), .bin .add (.t 42) (.i 1), none, 8388608⟩,
 ⟨(some (44)), .mov (.t 6), none, 0⟩,
 ⟨(some (45)), .bin .rem (.t 43) (.t 44), none, 58720256⟩,
 ⟨(some (46)), .iaddr 1 (.t 41) (.t 45), none, 133693440⟩,
 ⟨(some (47)), .load none (.t 46), none, 267911168⟩,
 ⟨(some (48)), .iaddr 6 (.t 37) (.t 47), none, 536854528⟩,
 ⟨(some (49)), .load (some (6)) (.t 48), none, 1073725440⟩,
 ⟨(some (7)), .alloc 4288129984 [.int .i64 0, .int .i64 0, .int .i64 0, .int .i64 0, .int .i64 0, .bool false], none, 0⟩,
 ⟨(some (8)), .alloc 4288130048 [.int .i64 0, .int .i64 0, .int .i64 0, .int .i64 0, .int .i64 0, .bool false], none, 0⟩,
 ⟨none, .store 6 (.t 7) (.t 32), none, 6442467327⟩,
 ⟨none, .store 6 (.t 8) (.t 49), none, 17179869183⟩]) (.seq (.region false [
 ⟨(some (50)), .faddr 1 (.t 7), none, 0⟩,
 ⟨(some (51)), .load none (.t 50), none, 0⟩,
 ⟨(some (52)), .faddr 2 (.t 7), none, 0⟩,
 ⟨(some (53)), .load none (.t 52), none, 0⟩,
 ⟨(some (54)), .build [.int .i64 0, .int .i64 0] [(0, 1, .t 51), (1, 1, .t 53)], none, 0⟩,
 ⟨(some (9)), .alloc 4288192320 [.int .i64 0, .int .i64 0], none, 0⟩,
 ⟨none, .store 2 (.t 9) (.t 54), none, 0⟩]) (.seq (.region false [
 ⟨(some (55)), .faddr 1 (.t 8), none, 0⟩,
 ⟨(some (56)), .load none (.t 55), none, 0⟩,
 ⟨(some (57)), .faddr 2 (.t 8), none, 0⟩,
 ⟨(some (58)), .load none (.t 57), none, 0⟩,
 ⟨(some (59)), .bin .sub (.t 58) (.i 1), none, 0⟩,
 ⟨(some (60)), .build [.int .i64 0, .int .i64 0] [(0, 1, .t 56), (1, 1, .t 59)], none, 0⟩,
 ⟨(some (10)), .alloc 4288256384 [.int .i64 0, .int .i64 0], none, 0⟩,
 ⟨none, .store 2 (.t 10) (.t 60), none, 0⟩]) (.seq (.seq (.region false [
 ⟨(some (61)), .mov (.t 1), none, 0⟩,
 ⟨(some (62)), .mov (.t 6), none, 0⟩,
 ⟨(some (63)), .bin .sub (.t 62) (.i 1), none, 0⟩,
 ⟨(some (64)), .bin .lss (.t 61) (.t 63), none, 0⟩]) (.cond (.t 64) (.seq (.region false [
 ⟨(some (65)), .load (some (2)) (.t 9), none, 0⟩,
 ⟨(some (66)), .load (some (2)) (.t 10), none, 0⟩,
 ⟨(some (67)), .call 4288384128 (.k (.one (.p (.fn 104 [] [])))) [.t 65, .t 66, .k (.one (.p (.nils))), .k (.one (.p (.nils)))], none, 0⟩,
 ⟨(some (68)), .extract (.t 67) 0, none, 0⟩,
 ⟨(some (69)), .extract (.t 67) 1, none, 0⟩,
 ⟨(some (4)), .mov (.t 68), none, 0⟩,
 ⟨(some (5)), .mov (.t 69), none, 0⟩]) (.ret)) (.skip))) (.seq (.region false [
 ⟨(some (70)), .mov (.t 0), none, 0⟩,
 ⟨(some (71)), .nilchk (.t 70), none, 0⟩,
 ⟨(some (72)), .faddr 0 (.t 71), none, 0⟩,
 ⟨(some (73)), .faddr 0 (.t 72), none, 0⟩,
 ⟨(some (74)), .load none (.t 73), none, 0⟩,
 ⟨(some (75)), .build [.int .i64 0, .int .i64 0] [(0, 1, .t 74)], none, 0⟩,
 ⟨(some (11)), .alloc 4288448384 [.int .i64 0, .int .i64 0], none, 0⟩,
 ⟨none, .store 2 (.t 11) (.t 75), none, 0⟩]) (.seq (.seq (.region true [
 ⟨(some (76)), .faddr 1 (.t 7), none, 0⟩,
 ⟨(some (77)), .load none (.t 76), none, 1⟩,
 ⟨(some (78)), .mov (.t 0), none, 0⟩,
 ⟨(some (79)), .nilchk (.t 78), none, 4⟩,
 ⟨(some (80)), .faddr 0 (.t 79), none, 12⟩,
 ⟨(some (81)), .faddr 0 (.t 80), none, 28⟩,
 ⟨(some (82)), .load none (.t 81), none, 60⟩,
 ⟨(some (83)), .bin .eql (.t 77) (.t 82), none, 127⟩]) (.cond (.t 83) (.region false [
 ⟨(some (84)), .load (some (2)) (.t 9), none, 0⟩,
 ⟨none, .store 2 (.t 11) (.t 84), none, 0⟩]) (.skip))) (.seq (.region false [
 ⟨(some (86)), .load (some (2)) (.t 9), none, 0⟩,
 ⟨(some (87)), .load (some (2)) (.t 11), none, 0⟩,
 ⟨(some (88)), .call 4288640128 (.k (.one (.p (.fn 104 [] [])))) [.t 86, .t 87, .k (.one (.p (.nils))), .k (.one (.p (.nils)))], none, 0⟩,
 ⟨(some (85)), .mov (.t 88), none, 0⟩,
 ⟨(some (89)), .extract (.t 85) 0, none, 0⟩,
 ⟨(some (90)), .extract (.t 85) 1, none, 0⟩,
 ⟨(some (12)), .mov (.t 89), none, 0⟩,
 ⟨(some (13)), .mov (.t 90), none, 0⟩]) (.seq (.region false [
 ⟨(some (91)), .build [.int .i64 0, .int .i64 0] [], none, 0⟩,
 ⟨(some (92)), .load (some (2)) (.t 10), none, 0⟩,
 ⟨(some (93)), .mov (.t 12), none, 0⟩,
 ⟨(some (94)), .mov (.t 13), none, 0⟩,
 ⟨(some (95)), .call 4288704256 (.k (.one (.p (.fn 104 [] [])))) [.t 91, .t 92, .t 93, .t 94], none, 0⟩,
 ⟨(some (96)), .extract (.t 95) 0, none, 0⟩,
 ⟨(some (97)), .extract (.t 95) 1, none, 0⟩,
 ⟨(some (4)), .mov (.t 96), none, 0⟩,
 ⟨(some (5)), .mov (.t 97), none, 0⟩]) (.ret)))))))))))⟩
def i68_l1 : ICode :=
(.seq (.seq (.region false [
 ⟨(some (7)), .mov (.t 2), none, 0⟩,
 ⟨(some (8)), .mov (.t 3), none, 0⟩,
 ⟨(some (9)), .bin .lss (.t 7) (.t 8), none, 0⟩]) (.cond (.t 9) (.skip) (.exit 0))) (.seq (.block 1 (.region true [
 ⟨(some (14)), .mov (.t 0), none, 0⟩,
 ⟨(some (15)), .mov (.t 2), none, 0⟩,
 ⟨(some (16)), .mov (.t 0), none, 0⟩,
 ⟨(some (17)), .mov (.t 3), none, 0⟩,
 ⟨(some (18)), .mov (.t 0), none, 0⟩,
 ⟨(some (19)), .mov (.t 3), none, 0⟩,
 ⟨(some (20)), .iaddr 2 (.t 18) (.t 19), none, 48⟩,
 ⟨(some (21)), .load (some (2)) (.t 20), none, 112⟩,
 ⟨(some (22)), .mov (.t 0), none, 0⟩,
 ⟨(some (23)), .mov (.t 2), none, 0⟩,
 ⟨(some (24)), .iaddr 2 (.t 22) (.t 23), none, 768⟩,
 ⟨(some (25)), .load (some (2)) (.t 24), none, 1792⟩,
 ⟨(some (26)), .iaddr 2 (.t 14) (.t 15), none, 4083⟩,
 ⟨none, .store 2 (.t 26) (.t 21), none, 8179⟩,
 ⟨(some (27)), .iaddr 2 (.t 16) (.t 17), none, 16383⟩,
 ⟨none, .store 2 (.t 27) (.t 25), none, 32767⟩])) (.region false [
 ⟨(some (10)), .mov (.t 2), none, 0⟩,
 ⟨(some (11)), .bin .add (.t 10) (.i 1), none, 0⟩,
 ⟨(some (12)), .mov (.t 3), none, 0⟩,
 ⟨(some (13)), .bin .sub (.t 12) (.i 1), none, 0⟩,
 ⟨(some (2)), .mov (.t 11), none, 0⟩,
 ⟨(some (3)), .mov (.t 13), none, 0⟩])))
def i68 : IFn :=
⟨28, [],
 (.seq (.region false [
 ⟨(some (4)), .mov (.t 0), none, 0⟩,
 ⟨(some (5)), .llen (.t 4), none, 0⟩,
 ⟨(some (6)), .bin .sub (.t 5) (.i 1), none, 0⟩,
 ⟨(some (2)), .mov (.i 0), none, 0⟩,
 ⟨(some (3)), .mov (.t 6), none, 0⟩]) (.block 0 (.loop i68_l1)))⟩
def i69_l1 : ICode :=
(.seq (.seq (.region false [
 ⟨(some (7)), .mov (.t 2), none, 0⟩,
 ⟨(some (8)), .mov (.t 3), none, 0⟩,
 ⟨(some (9)), .bin .lss (.t 7) (.t 8), none, 0⟩]) (.cond (.t 9) (.skip) (.exit 0))) (.seq (.block 1 (.region true [
 ⟨(some (14)), .mov (.t 0), none, 0⟩,
 ⟨(some (15)), .mov (.t 2), none, 0⟩,
 ⟨(some (16)), .mov (.t 0), none, 0⟩,
 ⟨(some (17)), .mov (.t 3), none, 0⟩,
 ⟨(some (18)), .mov (.t 0), none, 0⟩,
 ⟨(some (19)), .mov (.t 3), none, 0⟩,
 ⟨(some (20)), .iaddr 1 (.t 18) (.t 19), none, 48⟩,
 ⟨(some (21)), .load none (.t 20), none, 112⟩,
 ⟨(some (22)), .mov (.t 0), none, 0⟩,
 ⟨(some (23)), .mov (.t 2), none, 0⟩,
 ⟨(some (24)), .iaddr 1 (.t 22) (.t 23), none, 768⟩,
 ⟨(some (25)), .load none (.t 24), none, 1792⟩,
 ⟨(some (26)), .iaddr 1 (.t 14) (.t 15), none, 4083⟩,
 ⟨none, .store 1 (.t 26) (.t 21), none, 8179⟩,
 ⟨(some (27)), .iaddr 1 (.t 16) (.t 17), none, 16383⟩,
 ⟨none, .store 1 (.t 27) (.t 25), none, 32767⟩])) (.region false [
 ⟨(some (10)), .mov (.t 2), none, 0⟩,
 ⟨(some (11)), .bin .add (.t 10) (.i 1), none, 0⟩,
 ⟨(some (12)), .mov (.t 3), none, 0⟩,
 ⟨(some (13)), .bin .sub (.t 12) (.i 1), none, 0⟩,
 ⟨(some (2)), .mov (.t 11), none, 0⟩,
 ⟨(some (3)), .mov (.t 13), none, 0⟩])))
def i69 : IFn :=
⟨28, [],
 (.seq (.region false [
 ⟨(some (4)), .mov (.t 0), none, 0⟩,
 ⟨(some (5)), .llen (.t 4), none, 0⟩,
 ⟨(some (6)), .bin .sub (.t 5) (.i 1), none, 0⟩,
 ⟨(some (2)), .mov (.i 0), none, 0⟩,
 ⟨(some (3)), .mov (.t 6), none, 0⟩]) (.block 0 (.loop i69_l1)))⟩
def i70 : IFn :=
⟨15, [(4, none), (5, none)],
 (.seq (.region false [
 ⟨(some (4)), .mov (.i 0), none, 0⟩,
 ⟨(some (5)), .mov (.i 0), none, 0⟩]) (.seq (.region true [
 ⟨(some (6)), .mov (.t 1), none, 0⟩,
 ⟨(some (7)), .mov (.t 1), none, 0⟩,
 ⟨(some (8)), .bin .add (.t 7) (.i 1), none, 2⟩,
 ⟨(some (9)), .mov (.t 0), none, 0⟩,
 ⟨(some (10)), .nilchk (.t 9), none, 8⟩,
 ⟨(some (11)), .faddr 1 (.t 10), none, 24⟩,
 ⟨(some (12)), .load none (.t 11), none, 56⟩,
 ⟨(some (13)), .llen (.t 12), none, 120⟩,
 ⟨(some (14)), .bin .rem (.t 8) (.t 13), none, 254⟩,
 ⟨(some (4)), .mov (.t 6), none, 1⟩,
 ⟨(some (5)), .mov (.t 14), none, 1023⟩]) (.ret)))⟩
def i71_l1 : ICode :=
(.seq (.region false [
 ⟨(some (11)), .bin .lss (.t 10) (.t 9), none, 0⟩]) (.seq (.cond (.t 11) (.skip) (.exit 0)) (.seq (.block 1 (.seq (.region false [
 ⟨(some (12)), .mov (.t 10), none, 0⟩,
 ⟨(some (13)), .iaddr 7 (.t 8) (.t 10), none, 0⟩,
 ⟨(some (14)), .load (some (7)) (.t 13), none, 0⟩,
 ⟨(some (7)), .alloc 4544256192 [.int .i64 0, .int .i64 0, .int .i64 0, .int .i64 0, .int .i64 0, .bool false, .bool false], none, 0⟩,
 ⟨(some (6)), .mov (.t 12), none, 0⟩,
 ⟨none, .store 7 (.t 7) (.t 14), none, 0⟩]) (.seq (.region false [
 ⟨(some (15)), .mov (.t 1), none, 0⟩,
 ⟨(some (16)), .mov (.t 6), none, 0⟩,
 ⟨(some (17)), .load (some (7)) (.t 7), none, 0⟩,
 ⟨(some (18)), .call 4544320192 (.t 15) [.t 16, .t 17], none, 0⟩,
 ⟨(some (19)), .un .not (.t 18), none, 0⟩]) (.cond (.t 19) (.region false [
 ⟨(some (20)), .mov (.t 5), none, 0⟩,
 ⟨(some (21)), .load (some (7)) (.t 7), none, 0⟩,
 ⟨(some (22)), .bslice 4544384128 75 7 [.t 21], none, 0⟩,
 ⟨(some (23)), .append 4544384192 75 7 56 (.t 20) (.t 22), none, 0⟩,
 ⟨(some (5)), .mov (.t 23), none, 0⟩]) (.skip))))) (.region false [
 ⟨(some (24)), .bin .add (.t 10) (.i 1), none, 0⟩,
 ⟨(some (10)), .mov (.t 24), none, 0⟩]))))
def i71_r2 : ICode :=
(.seq (.region false [
 ⟨(some (25)), .mov (.t 5), none, 0⟩,
 ⟨(some (4)), .mov (.t 25), none, 0⟩]) (.ret))
def i71 : IFn :=
⟨26, [(4, none)],
 (.seq (.region false [
 ⟨(some (4)), .mov (.k (.one (.p (.nils)))), none, 0⟩]) (.seq (.region false [
 ⟨(some (5)), .mov (.k (.one (.p (.nils)))), none, 0⟩]) (.seq (.seq (.region false [
 ⟨(some (8)), .mov (.t 0), none, 0⟩,
 ⟨(some (9)), .llen (.t 8), none, 0⟩,
 ⟨(some (10)), .mov (.i 0), none, 0⟩]) (.block 0 (.loop i71_l1))) i71_r2)))⟩
def i73_l1 : ICode :=
(.seq (.region false [
 ⟨(some (12)), .bin .lss (.t 11) (.t 10), none, 0⟩]) (.seq (.cond (.t 12) (.skip) (.exit 0)) (.seq (.block 1 (.seq (.region false [
 ⟨(some (13)), .mov (.t 11), none, 0⟩,
 ⟨(some (8)), .mov (.t 13), none, 0⟩]) (.seq (.region false [
 ⟨(some (14)), .mov (.t 0), none, 0⟩,
 ⟨(some (15)), .mov (.t 8), none, 0⟩,
 ⟨(some (16)), .iaddr 7 (.t 14) (.t 15), none, 0⟩,
 ⟨(some (17)), .faddr 0 (.t 16), none, 0⟩,
 ⟨(some (18)), .faddr 0 (.t 17), none, 0⟩,
 ⟨(some (19)), .load none (.t 18), none, 0⟩,
 ⟨(some (20)), .bin .eql (.t 19) (.i 1), none, 0⟩,
 ⟨(some (21)), .mov (.t 20), none, 0⟩,
 ⟨(some (22)), .mov (.t 0), (some (21, true)), 0⟩,
 ⟨(some (23)), .mov (.t 8), (some (21, true)), 0⟩,
 ⟨(some (24)), .iaddr 7 (.t 22) (.t 23), (some (21, true)), 0⟩,
 ⟨(some (25)), .faddr 0 (.t 24), (some (21, true)), 0⟩,
 ⟨(some (26)), .faddr 1 (.t 25), (some (21, true)), 0⟩,
 ⟨(some (27)), .load none (.t 26), (some (21, true)), 0⟩,
 ⟨(some (28)), .mov (.t 1), (some (21, true)), 0⟩,
 ⟨(some (29)), .bin .eql (.t 27) (.t 28), (some (21, true)), 0⟩,
 ⟨(some (30)), .pick (.t 21) (.t 29) (.b false), none, 0⟩,
 ⟨(some (31)), .mov (.t 30), none, 0⟩,
 ⟨(some (32)), .mov (.t 0), (some (31, true)), 0⟩,
 ⟨(some (33)), .mov (.t 8), (some (31, true)), 0⟩,
 ⟨(some (34)), .iaddr 7 (.t 32) (.t 33), (some (31, true)), 0⟩,
 ⟨(some (35)), .faddr 0 (.t 34), (some (31, true)), 0⟩,
 ⟨(some (36)), .faddr 2 (.t 35), (some (31, true)), 0⟩,
 ⟨(some (37)), .load none (.t 36), (some (31, true)), 0⟩,
 ⟨(some (38)), .mov (.t 2), (some (31, true)), 0⟩,
 ⟨(some (39)), .bin .gtr (.t 37) (.t 38), (some (31, true)), 0⟩,
 ⟨(some (40)), .pick (.t 31) (.t 39) (.b false), none, 0⟩]) (.cond (.t 40) (.region false [
 ⟨(some (41)), .mov (.t 0), none, 0⟩,
 ⟨(some (42)), .mov (.t 8), none, 0⟩,
 ⟨(some (43)), .iaddr 7 (.t 41) (.t 42), none, 0⟩,
 ⟨(some (44)), .faddr 0 (.t 43), none, 0⟩,
 ⟨(some (45)), .faddr 2 (.t 44), none, 0⟩,
 ⟨(some (46)), .load none (.t 45), none, 0⟩,
 ⟨(some (47)), .mov (.t 3), none, 0⟩,
 ⟨(some (48)), .bin .add (.t 46) (.t 47), none, 0⟩,
 ⟨(some (49)), .iaddr 7 (.t 41) (.t 42), none, 0⟩,
 ⟨(some (50)), .faddr 0 (.t 49), none, 0⟩,
 ⟨(some (51)), .faddr 2 (.t 50), none, 0⟩,
 ⟨none, .store 1 (.t 51) (.t 48), none, 0⟩]) (.skip))))) (.region false [
 ⟨(some (52)), .bin .add (.t 11) (.i 1), none, 0⟩,
 ⟨(some (11)), .mov (.t 52), none, 0⟩]))))
def i73 : IFn :=
⟨53, [],
 (.seq (.region false [
 ⟨(some (9)), .mov (.t 0), none, 0⟩,
 ⟨(some (10)), .llen (.t 9), none, 0⟩,
 ⟨(some (11)), .mov (.i 0), none, 0⟩]) (.block 0 (.loop i73_l1)))⟩
def i72 : IFn :=
⟨15, [(6, none)],
 (.seq (.region false [
 ⟨(some (5)), .box 4608000000 (.t 1), none, 0⟩,
 ⟨(some (6)), .mov (.b false), none, 0⟩]) (.seq (.region false [
 ⟨(some (7)), .mov (.t 0), none, 0⟩,
 ⟨(some (8)), .load none (.t 2), none, 0⟩,
 ⟨(some (9)), .bin .eql (.t 7) (.t 8), none, 0⟩,
 ⟨(some (10)), .mov (.t 9), none, 0⟩,
 ⟨(some (11)), .mov (.t 0), (some (10, false)), 0⟩,
 ⟨(some (12)), .load none (.t 3), (some (10, false)), 0⟩,
 ⟨(some (13)), .bin .eql (.t 11) (.t 12), (some (10, false)), 0⟩,
 ⟨(some (14)), .pick (.t 10) (.b true) (.t 13), none, 0⟩,
 ⟨(some (6)), .mov (.t 14), none, 0⟩]) (.ret)))⟩
def i104_l1 : ICode :=
(.seq (.seq (.region false [
 ⟨(some (10)), .faddr 0 (.t 4), none, 0⟩,
 ⟨(some (11)), .load none (.t 10), none, 0⟩,
 ⟨(some (12)), .faddr 0 (.t 5), none, 0⟩,
 ⟨(some (13)), .load none (.t 12), none, 0⟩,
 ⟨(some (14)), .bin .lss (.t 11) (.t 13), none, 0⟩]) (.cond (.t 14) (.skip) (.exit 0))) (.block 1 (.seq (.region false [
 ⟨(some (15)), .mov (.t 2), none, 0⟩,
 ⟨(some (16)), .load (some (2)) (.t 4), none, 0⟩,
 ⟨(some (17)), .bslice 6656128128 116 2 [.t 16], none, 0⟩,
 ⟨(some (18)), .append 6656128192 116 2 16 (.t 15) (.t 17), none, 0⟩,
 ⟨(some (2)), .mov (.t 18), none, 0⟩]) (.seq (.region false [
 ⟨(some (19)), .faddr 0 (.t 4), none, 0⟩,
 ⟨(some (20)), .load none (.t 19), none, 0⟩,
 ⟨(some (21)), .bin .add (.t 20) (.i 1), none, 0⟩,
 ⟨(some (22)), .build [.int .i64 0, .int .i64 0] [(0, 1, .t 21)], none, 0⟩,
 ⟨none, .store 2 (.t 4) (.t 22), none, 0⟩]) (.region false [
 ⟨(some (23)), .mov (.t 3), none, 0⟩,
 ⟨(some (24)), .faddr 0 (.t 4), none, 0⟩,
 ⟨(some (25)), .load none (.t 24), none, 0⟩,
 ⟨(some (26)), .bslice 6656256192 3 1 [.t 25], none, 0⟩,
 ⟨(some (27)), .append 6656256256 3 1 8 (.t 23) (.t 26), none, 0⟩,
 ⟨(some (3)), .mov (.t 27), none, 0⟩])))))
def i104_r2 : ICode :=
(.seq (.region false [
 ⟨(some (28)), .mov (.t 2), none, 0⟩,
 ⟨(some (29)), .load (some (2)) (.t 5), none, 0⟩,
 ⟨(some (30)), .bslice 6656320128 116 2 [.t 29], none, 0⟩,
 ⟨(some (31)), .append 6656320192 116 2 16 (.t 28) (.t 30), none, 0⟩,
 ⟨(some (32)), .mov (.t 3), none, 0⟩,
 ⟨(some (8)), .mov (.t 31), none, 0⟩,
 ⟨(some (9)), .mov (.t 32), none, 0⟩]) (.ret))
def i104 : IFn :=
⟨33, [(8, none), (9, none)],
 (.seq (.region false [
 ⟨(some (4)), .box 6656000000 (.t 0), none, 0⟩,
 ⟨(some (5)), .box 6656000064 (.t 1), none, 0⟩,
 ⟨(some (8)), .mov (.k (.one (.p (.nils)))), none, 0⟩,
 ⟨(some (9)), .mov (.k (.one (.p (.nils)))), none, 0⟩]) (.seq (.block 0 (.loop i104_l1)) i104_r2))⟩
end Go.Abs
namespace Go.Abs
open Go.Proofs
set_option maxRecDepth 100000
def memN : List Nat → Nat → Bool
  | [], _ => false
  | a :: r, n => bif Nat.beq a n then true else memN r n
def lookN : List (Nat × List Nat) → Nat → List Nat
  | [], _ => []
  | (a, l) :: r, n => bif Nat.beq a n then l else lookN r n
def sharedT : List Nat := [43, 57, 62, 68, 69, 73, 82, 83, 88, 89, 97, 100, 104, 110, 118, 119, 120, 121, 122, 123, 124, 125, 128, 131, 132, 133, 134, 135, 136, 138, 139, 143, 145, 146, 147, 148, 149, 150, 151, 152, 153, 154, 155, 156, 157, 158, 160, 161, 162, 163, 164, 165]
def sitesT : List (Nat × List Nat) := [(43, [43, 68, 69]), (57, [57, 88, 89]), (62, [62, 97, 118, 119, 120, 121, 122, 123, 124, 125, 143, 145, 146, 147, 160]), (68, [68]), (69, [69]), (73, [73]), (82, [82]), (83, [83, 110, 131, 132, 133, 134, 135, 136, 138, 139, 145, 156, 157, 158, 164]), (88, [88]), (89, [89]), (97, [97, 118, 119, 120, 121, 122, 123, 124, 125, 143, 145, 146, 147, 160]), (100, [100, 128, 145, 148, 149, 150, 151, 152, 153, 154, 155, 161, 162, 163, 165]), (104, [104]), (110, [110, 131, 132, 133, 134, 135, 136, 138, 139, 145, 156, 157, 158, 164]), (118, [118]), (119, [119, 143]), (120, [120, 145]), (121, [121, 146, 147, 160]), (122, [122]), (123, [123]), (124, [124]), (125, [125]), (128, [128, 145, 148, 149, 150, 151, 152, 153, 154, 155, 161, 162, 163, 165]), (131, [131]), (132, [132, 156]), (133, [133, 145]), (134, [134, 157, 158, 164]), (135, [135]), (136, [136]), (138, [138]), (139, [139]), (143, [143]), (145, [145]), (146, [146, 147, 160]), (147, [147, 160]), (148, [148]), (149, [149, 161]), (150, [145, 150]), (151, [151, 162, 163, 165]), (152, [152]), (153, [153]), (154, [154]), (155, [155]), (156, [156]), (157, [157, 158, 164]), (158, [158, 164]), (160, [160]), (161, [161]), (162, [162, 163, 165]), (163, [163, 165]), (164, [164]), (165, [165])]
def loneT : List Nat := []
def prim0 (f : Nat) (args : List V) : Option (Option RV) :=
  bif Nat.beq f 23 then some (primItoa args)
  else bif Nat.beq f 25 then some (primJoin args)
  else bif Nat.beq f 98 then some (primBits args)
  else bif memN [18, 75] f then primClone args
  else none
noncomputable def S : Sys := { P := Tryz.prog, shared := memN sharedT, sites := lookN sitesT, lone := fun s => memN loneT (s / 64000000), fns := compF Tryz.prog, prim := prim0 }
theorem c34 : S.fns 34 = some i34 := by kernel_rfl
theorem s34 : S.shared 34 = false := by kernel_rfl
theorem c44 : S.fns 44 = some i44 := by kernel_rfl
theorem s44 : S.shared 44 = false := by kernel_rfl
theorem c28 : S.fns 28 = some i28 := by kernel_rfl
theorem s28 : S.shared 28 = false := by kernel_rfl
theorem c29 : S.fns 29 = some i29 := by kernel_rfl
theorem s29 : S.shared 29 = false := by kernel_rfl
theorem c86 : S.fns 86 = some i86 := by kernel_rfl
theorem s86 : S.shared 86 = false := by kernel_rfl
theorem c112 : S.fns 112 = some i112 := by kernel_rfl
theorem s112 : S.shared 112 = false := by kernel_rfl
theorem c87 : S.fns 87 = some i87 := by kernel_rfl
theorem s87 : S.shared 87 = false := by kernel_rfl
theorem c88 : S.fns 88 = some i88 := by kernel_rfl
theorem c89 : S.fns 89 = some i89 := by kernel_rfl
theorem c90 : S.fns 90 = some i90 := by kernel_rfl
theorem s90 : S.shared 90 = false := by kernel_rfl
theorem c57 : S.fns 57 = some i57 := by kernel_rfl
theorem c66 : S.fns 66 = some i66 := by kernel_rfl
theorem s66 : S.shared 66 = false := by kernel_rfl
theorem c103 : S.fns 103 = some i103 := by kernel_rfl
theorem s103 : S.shared 103 = false := by kernel_rfl
theorem c102 : S.fns 102 = some i102 := by kernel_rfl
theorem s102 : S.shared 102 = false := by kernel_rfl
theorem c111 : S.fns 111 = some i111 := by kernel_rfl
theorem s111 : S.shared 111 = false := by kernel_rfl
theorem c140 : S.fns 140 = some i140 := by kernel_rfl
theorem s140 : S.shared 140 = false := by kernel_rfl
theorem c27 : S.fns 27 = some i27 := by kernel_rfl
theorem s27 : S.shared 27 = false := by kernel_rfl
theorem c15 : S.fns 15 = some i15 := by kernel_rfl
theorem s15 : S.shared 15 = false := by kernel_rfl
theorem c6 : S.fns 6 = some i6 := by kernel_rfl
theorem s6 : S.shared 6 = false := by kernel_rfl
theorem c14 : S.fns 14 = some i14 := by kernel_rfl
theorem s14 : S.shared 14 = false := by kernel_rfl
theorem c5 : S.fns 5 = some i5 := by kernel_rfl
theorem s5 : S.shared 5 = false := by kernel_rfl
theorem c9 : S.fns 9 = some i9 := by kernel_rfl
theorem s9 : S.shared 9 = false := by kernel_rfl
theorem c3 : S.fns 3 = some i3 := by kernel_rfl
theorem s3 : S.shared 3 = false := by kernel_rfl
theorem c8 : S.fns 8 = some i8 := by kernel_rfl
theorem s8 : S.shared 8 = false := by kernel_rfl
theorem c7 : S.fns 7 = some i7 := by kernel_rfl
theorem s7 : S.shared 7 = false := by kernel_rfl
theorem c16 : S.fns 16 = some i16 := by kernel_rfl
theorem s16 : S.shared 16 = false := by kernel_rfl
theorem c26 : S.fns 26 = some i26 := by kernel_rfl
theorem s26 : S.shared 26 = false := by kernel_rfl
theorem c30 : S.fns 30 = some i30 := by kernel_rfl
theorem s30 : S.shared 30 = false := by kernel_rfl
theorem c31 : S.fns 31 = some i31 := by kernel_rfl
theorem s31 : S.shared 31 = false := by kernel_rfl
theorem c32 : S.fns 32 = some i32 := by kernel_rfl
theorem s32 : S.shared 32 = false := by kernel_rfl
theorem c33 : S.fns 33 = some i33 := by kernel_rfl
theorem s33 : S.shared 33 = false := by kernel_rfl
theorem s40 : S.shared 40 = false := by kernel_rfl
theorem c41 : S.fns 41 = some i41 := by kernel_rfl
theorem s41 : S.shared 41 = false := by kernel_rfl
theorem c42 : S.fns 42 = some i42 := by kernel_rfl
theorem s42 : S.shared 42 = false := by kernel_rfl
theorem c43 : S.fns 43 = some i43 := by kernel_rfl
theorem c45 : S.fns 45 = some i45 := by kernel_rfl
theorem s45 : S.shared 45 = false := by kernel_rfl
theorem c46 : S.fns 46 = some i46 := by kernel_rfl
theorem s46 : S.shared 46 = false := by kernel_rfl
theorem c47 : S.fns 47 = some i47 := by kernel_rfl
theorem s47 : S.shared 47 = false := by kernel_rfl
theorem c55 : S.fns 55 = some i55 := by kernel_rfl
theorem s55 : S.shared 55 = false := by kernel_rfl
theorem c56 : S.fns 56 = some i56 := by kernel_rfl
theorem s56 : S.shared 56 = false := by kernel_rfl
theorem c67 : S.fns 67 = some i67 := by kernel_rfl
theorem s67 : S.shared 67 = false := by kernel_rfl
theorem c68 : S.fns 68 = some i68 := by kernel_rfl
theorem c69 : S.fns 69 = some i69 := by kernel_rfl
theorem c70 : S.fns 70 = some i70 := by kernel_rfl
theorem s70 : S.shared 70 = false := by kernel_rfl
theorem c71 : S.fns 71 = some i71 := by kernel_rfl
theorem s71 : S.shared 71 = false := by kernel_rfl
theorem c73 : S.fns 73 = some i73 := by kernel_rfl
theorem c72 : S.fns 72 = some i72 := by kernel_rfl
theorem s72 : S.shared 72 = false := by kernel_rfl
theorem c104 : S.fns 104 = some i104 := by kernel_rfl
end Go.Abs
