/-
  The law EaseLeast on the abstract machine, and the order of codes.
-/
import Derived.Test.YtehnpoeelhggeaaGreatDoorSa
import Derived.KernelRfl
import Derived.Test.YtehnpoeelhggeaaGreatDoorMe
set_option linter.unusedSimpArgs false
set_option linter.unusedVariables false
set_option linter.unusedSectionVars false
namespace Go.Abs
set_option maxRecDepth 100000
def i6 : IFn :=
⟨81, [(6, none)],
(.seq
(.region false [
⟨(some (3)), .box 384000000 (.t 0), none, 0⟩,
⟨(some (4)), .box 384000064 (.t 1), none, 0⟩,
⟨(some (5)), .box 384000128 (.t 2), none, 0⟩,
⟨(some (6)), .mov (.b false), none, 0⟩])
(.seq
(.seq
(.region false [
⟨(some (10)), .load (some (2)) (.t 3), none, 0⟩,
⟨(some (11)), .load (some (2)) (.t 4), none, 0⟩,
⟨(some (12)), .load (some (2)) (.t 5), none, 0⟩,
⟨(some (13)), .bslice 384064192 37 2 [.t 10, .t 11, .t 12], none, 0⟩,
⟨(some (14)), .call 384064256 (.k (.one (.p (.fn 18 [] [])))) [.t 13], none, 0⟩,
⟨(some (15)), .un .not (.t 14), none, 0⟩])
(.cond (.t 15)
(.seq
(.region false [
⟨(some (16)), .call 384128000 (.k (.one (.p (.fn 19 [] [])))) [], none, 0⟩,
⟨(some (6)), .mov (.t 16), none, 0⟩])
(.ret))
(.skip)))
(.seq
(.region true [
⟨(some (17)), .load (some (2)) (.t 3), none, 0⟩,
⟨(some (18)), .load (some (2)) (.t 4), none, 0⟩,
⟨(some (19)), .call 384192128 (.k (.one (.p (.fn 20 [] [])))) [.t 17, .t 18], none, 3⟩,
⟨(some (20)), .load (some (2)) (.t 4), none, 0⟩,
⟨(some (21)), .load (some (2)) (.t 5), none, 0⟩,
⟨(some (22)), .call 384192320 (.k (.one (.p (.fn 20 [] [])))) [.t 20, .t 21], none, 31⟩,
⟨(some (23)), .load (some (2)) (.t 3), none, 0⟩,
⟨(some (24)), .load (some (2)) (.t 5), none, 0⟩,
⟨(some (25)), .call 384192512 (.k (.one (.p (.fn 20 [] [])))) [.t 23, .t 24], none, 255⟩,
⟨(some (7)), .mov (.t 19), none, 511⟩,
⟨(some (8)), .mov (.t 22), none, 1023⟩,
⟨(some (9)), .mov (.t 25), none, 2047⟩])
(.seq
(.seq
(.region false [
⟨(some (26)), .mov (.t 7), none, 0⟩,
⟨(some (27)), .load (some (2)) (.t 3), none, 0⟩,
⟨(some (28)), .load (some (2)) (.t 4), none, 0⟩,
⟨(some (29)), .call 384256192 (.k (.one (.p (.fn 21 [] [])))) [.t 27, .t 28], none, 0⟩,
⟨(some (30)), .bin .neq (.t 26) (.t 29), none, 0⟩,
⟨(some (31)), .mov (.t 30), none, 0⟩,
⟨(some (32)), .mov (.t 8), (some (31, false)), 0⟩,
⟨(some (33)), .load (some (2)) (.t 4), (some (31, false)), 0⟩,
⟨(some (34)), .load (some (2)) (.t 5), (some (31, false)), 0⟩,
⟨(some (35)), .call 384256576 (.k (.one (.p (.fn 21 [] [])))) [.t 33, .t 34], (some (31, false)), 0⟩,
⟨(some (36)), .bin .neq (.t 32) (.t 35), (some (31, false)), 0⟩,
⟨(some (37)), .pick (.t 31) (.b true) (.t 36), none, 0⟩,
⟨(some (38)), .mov (.t 37), none, 0⟩,
⟨(some (39)), .mov (.t 9), (some (38, false)), 0⟩,
⟨(some (40)), .load (some (2)) (.t 3), (some (38, false)), 0⟩,
⟨(some (41)), .load (some (2)) (.t 5), (some (38, false)), 0⟩,
⟨(some (42)), .call 384257024 (.k (.one (.p (.fn 21 [] [])))) [.t 40, .t 41], (some (38, false)), 0⟩,
⟨(some (43)), .bin .neq (.t 39) (.t 42), (some (38, false)), 0⟩,
⟨(some (44)), .pick (.t 38) (.b true) (.t 43), none, 0⟩,
⟨(some (45)), .mov (.t 44), none, 0⟩,
⟨(some (46)), .load (some (2)) (.t 4), (some (45, false)), 0⟩,
⟨(some (47)), .load (some (2)) (.t 3), (some (45, false)), 0⟩,
⟨(some (48)), .call 384257408 (.k (.one (.p (.fn 20 [] [])))) [.t 46, .t 47], (some (45, false)), 0⟩,
⟨(some (49)), .mov (.t 7), (some (45, false)), 0⟩,
⟨(some (50)), .un .neg (.t 49), (some (45, false)), 0⟩,
⟨(some (51)), .bin .neq (.t 48) (.t 50), (some (45, false)), 0⟩,
⟨(some (52)), .pick (.t 45) (.b true) (.t 51), none, 0⟩,
⟨(some (53)), .mov (.t 52), none, 0⟩,
⟨(some (54)), .load (some (2)) (.t 3), (some (53, false)), 0⟩,
⟨(some (55)), .load (some (2)) (.t 3), (some (53, false)), 0⟩,
⟨(some (56)), .call 384257920 (.k (.one (.p (.fn 20 [] [])))) [.t 54, .t 55], (some (53, false)), 0⟩,
⟨(some (57)), .bin .neq (.t 56) (.i 0), (some (53, false)), 0⟩,
⟨(some (58)), .pick (.t 53) (.b true) (.t 57), none, 0⟩])
(.cond (.t 58)
(.seq
(.region false [
⟨(some (6)), .mov (.b false), none, 0⟩])
(.ret))
(.skip)))
(.seq
(.region false [
⟨(some (59)), .mov (.t 7), none, 0⟩,
⟨(some (60)), .bin .gtr (.t 59) (.i 0), none, 0⟩,
⟨(some (61)), .mov (.t 60), none, 0⟩,
⟨(some (62)), .mov (.t 8), (some (61, false)), 0⟩,
⟨(some (63)), .bin .gtr (.t 62) (.i 0), (some (61, false)), 0⟩,
⟨(some (64)), .pick (.t 61) (.b true) (.t 63), none, 0⟩,
⟨(some (65)), .mov (.t 64), none, 0⟩,
⟨(some (66)), .mov (.t 9), (some (65, false)), 0⟩,
⟨(some (67)), .bin .leq (.t 66) (.i 0), (some (65, false)), 0⟩,
⟨(some (68)), .pick (.t 65) (.b true) (.t 67), none, 0⟩,
⟨(some (69)), .mov (.t 68), none, 0⟩,
⟨(some (70)), .mov (.t 7), (some (69, true)), 0⟩,
⟨(some (71)), .bin .neq (.t 70) (.i 0), (some (69, true)), 0⟩,
⟨(some (72)), .mov (.t 71), (some (69, true)), 0⟩,
⟨(some (73)), .load (some (2)) (.t 3), (some (72, false)), 0⟩,
⟨(some (74)), .load (some (2)) (.t 4), (some (72, false)), 0⟩,
⟨(some (75)), .call 384385024 (.k (.one (.p (.fn 22 [] [])))) [.t 73, .t 74], (some (72, false)), 0⟩,
⟨(some (76)), .pick (.t 72) (.b true) (.t 75), (some (69, true)), 0⟩,
⟨(some (77)), .pick (.t 69) (.t 76) (.b false), none, 0⟩,
⟨(some (78)), .mov (.t 77), none, 0⟩,
⟨(some (79)), .call 384385280 (.k (.one (.p (.fn 19 [] [])))) [], (some (78, true)), 0⟩,
⟨(some (80)), .pick (.t 78) (.t 79) (.b false), none, 0⟩,
⟨(some (6)), .mov (.t 80), none, 0⟩])
(.ret))))))⟩
theorem c6 : compF Go.Proofs.Tryz.prog 6 = some i6 := by kernel_rfl
def i7 : IFn :=
⟨15, [(2, none)],
(.seq
(.region false [
⟨(some (2)), .mov (.b false), none, 0⟩])
(.seq
(.seq
(.region false [
⟨(some (3)), .mov (.t 0), none, 0⟩,
⟨(some (4)), .call 448064064 (.k (.one (.p (.fn 18 [] [])))) [.t 3], none, 0⟩,
⟨(some (5)), .un .not (.t 4), none, 0⟩])
(.cond (.t 5)
(.seq
(.region false [
⟨(some (6)), .call 448128000 (.k (.one (.p (.fn 19 [] [])))) [], none, 0⟩,
⟨(some (2)), .mov (.t 6), none, 0⟩])
(.ret))
(.skip)))
(.seq
(.region false [
⟨(some (7)), .mov (.t 0), none, 0⟩,
⟨(some (8)), .call 448192064 (.k (.one (.p (.fn 23 [] [])))) [.t 7], none, 0⟩,
⟨(some (9)), .mov (.t 0), none, 0⟩,
⟨(some (10)), .call 448192192 (.k (.one (.p (.fn 24 [] [])))) [.t 9], none, 0⟩,
⟨(some (11)), .bin .eql (.t 8) (.t 10), none, 0⟩,
⟨(some (12)), .mov (.t 11), none, 0⟩,
⟨(some (13)), .call 448192384 (.k (.one (.p (.fn 19 [] [])))) [], (some (12, true)), 0⟩,
⟨(some (14)), .pick (.t 12) (.t 13) (.b false), none, 0⟩,
⟨(some (2)), .mov (.t 14), none, 0⟩])
(.ret))))⟩
theorem c7 : compF Go.Proofs.Tryz.prog 7 = some i7 := by kernel_rfl
def i18 : IFn :=
⟨20, [(2, none)],
(.seq
(.region false [
⟨(some (2)), .mov (.b false), none, 0⟩])
(.seq
(.seq
(.region false [
⟨(some (3)), .mov (.i 0), none, 0⟩])
(.block 0
(.loop
(.seq
(.seq
(.region false [
⟨(some (4)), .mov (.t 3), none, 0⟩,
⟨(some (5)), .mov (.t 0), none, 0⟩,
⟨(some (6)), .llen (.t 5), none, 0⟩,
⟨(some (7)), .bin .lss (.t 4) (.t 6), none, 0⟩])
(.cond (.t 7)
(.skip)
(.exit 0)))
(.seq
(.block 1
(.seq
(.region false [
⟨(some (10)), .mov (.t 0), none, 0⟩,
⟨(some (11)), .mov (.t 3), none, 0⟩,
⟨(some (12)), .iaddr 2 (.t 10) (.t 11), none, 0⟩,
⟨(some (13)), .faddr 1 (.t 12), none, 0⟩,
⟨(some (14)), .load none (.t 13), none, 0⟩,
⟨(some (15)), .llen (.t 14), none, 0⟩,
⟨(some (16)), .bin .gtr (.t 15) (.i 100), none, 0⟩])
(.cond (.t 16)
(.seq
(.region false [
⟨(some (2)), .mov (.b false), none, 0⟩])
(.ret))
(.skip))))
(.region false [
⟨(some (8)), .mov (.t 3), none, 0⟩,
⟨(some (9)), .bin .add (.t 8) (.i 1), none, 0⟩,
⟨(some (3)), .mov (.t 9), none, 0⟩]))))))
(.seq
(.region false [
⟨(some (17)), .mov (.t 0), none, 0⟩,
⟨(some (18)), .llen (.t 17), none, 0⟩,
⟨(some (19)), .bin .leq (.t 18) (.i 20), none, 0⟩,
⟨(some (2)), .mov (.t 19), none, 0⟩])
(.ret))))⟩
theorem c18 : compF Go.Proofs.Tryz.prog 18 = some i18 := by kernel_rfl
def i20 : IFn :=
⟨83, [(4, none)],
(.seq
(.region false [
⟨(some (2)), .box 1280000000 (.t 0), none, 0⟩,
⟨(some (3)), .box 1280000064 (.t 1), none, 0⟩,
⟨(some (4)), .mov (.i 0), none, 0⟩])
(.seq
(.seq
(.region true [
⟨(some (10)), .faddr 0 (.t 2), none, 0⟩,
⟨(some (11)), .load none (.t 10), none, 1⟩,
⟨(some (12)), .faddr 0 (.t 3), none, 0⟩,
⟨(some (13)), .load none (.t 12), none, 4⟩,
⟨(some (14)), .build [.int .i64 0, .int .i64 0] [(0, 1, .t 11), (1, 1, .t 13)], none, 15⟩,
⟨(some (15)), .load (some (2)) (.t 2), none, 0⟩,
⟨(some (16)), .call 1280064384 (.k (.one (.p (.fn 65 [] [])))) [.t 15], none, 32⟩,
⟨(some (17)), .load (some (2)) (.t 3), none, 0⟩,
⟨(some (18)), .call 1280064512 (.k (.one (.p (.fn 65 [] [])))) [.t 17], none, 224⟩,
⟨(some (19)), .build [.int .i64 0, .int .i64 0] [(0, 1, .t 16), (1, 1, .t 18)], none, 480⟩,
⟨(some (20)), .faddr 1 (.t 2), none, 0⟩,
⟨(some (21)), .load none (.t 20), none, 1024⟩,
⟨(some (22)), .llen (.t 21), none, 3072⟩,
⟨(some (23)), .faddr 1 (.t 3), none, 0⟩,
⟨(some (24)), .load none (.t 23), none, 8192⟩,
⟨(some (25)), .llen (.t 24), none, 24576⟩,
⟨(some (26)), .build [.int .i64 0, .int .i64 0] [(0, 1, .t 22), (1, 1, .t 25)], none, 64512⟩,
⟨(some (27)), .bslice 1280065088 100 2 [.t 14, .t 19, .t 26], none, 131071⟩,
⟨(some (28)), .call 1280065152 (.k (.one (.p (.fn 64 [] [])))) [.t 27], none, 262143⟩,
⟨(some (5)), .mov (.t 28), none, 524287⟩])
(.seq
(.region false [
⟨(some (29)), .mov (.t 5), none, 0⟩,
⟨(some (30)), .bin .neq (.t 29) (.i 0), none, 0⟩])
(.cond (.t 30)
(.seq
(.region false [
⟨(some (31)), .mov (.t 5), none, 0⟩,
⟨(some (4)), .mov (.t 31), none, 0⟩])
(.ret))
(.skip))))
(.seq
(.seq
(.region false [
⟨(some (32)), .faddr 1 (.t 2), none, 0⟩,
⟨(some (33)), .load none (.t 32), none, 0⟩,
⟨(some (34)), .llen (.t 33), none, 0⟩,
⟨(some (35)), .mov (.i 0), none, 0⟩])
(.block 0
(.loop
(.seq
(.region false [
⟨(some (36)), .bin .lss (.t 35) (.t 34), none, 0⟩])
(.seq
(.cond (.t 36)
(.skip)
(.exit 0))
(.seq
(.block 1
(.seq
(.region false [
⟨(some (37)), .mov (.t 35), none, 0⟩,
⟨(some (38)), .iaddr 6 (.t 33) (.t 35), none, 0⟩,
⟨(some (39)), .load (some (6)) (.t 38), none, 0⟩,
⟨(some (7)), .alloc 1280384192 [.int .i64 0, .int .i64 0, .int .i64 0, .int .i64 0, .int .i64 0, .bool false], none, 0⟩,
⟨(some (6)), .mov (.t 37), none, 0⟩,
⟨none, .store 6 (.t 7) (.t 39), none, 0⟩])
(.seq
(.region false [
⟨(some (40)), .faddr 1 (.t 3), none, 0⟩,
⟨(some (41)), .load none (.t 40), none, 0⟩,
⟨(some (42)), .mov (.t 6), none, 0⟩,
⟨(some (43)), .iaddr 6 (.t 41) (.t 42), none, 0⟩,
⟨(some (44)), .load (some (6)) (.t 43), none, 0⟩,
⟨(some (8)), .alloc 1280448320 [.int .i64 0, .int .i64 0, .int .i64 0, .int .i64 0, .int .i64 0, .bool false], none, 0⟩,
⟨none, .store 6 (.t 8) (.t 44), none, 0⟩])
(.seq
(.region true [
⟨(some (45)), .faddr 0 (.t 7), none, 0⟩,
⟨(some (46)), .load none (.t 45), none, 1⟩,
⟨(some (47)), .faddr 0 (.t 8), none, 0⟩,
⟨(some (48)), .load none (.t 47), none, 4⟩,
⟨(some (49)), .build [.int .i64 0, .int .i64 0] [(0, 1, .t 46), (1, 1, .t 48)], none, 15⟩,
⟨(some (50)), .faddr 1 (.t 7), none, 0⟩,
⟨(some (51)), .load none (.t 50), none, 32⟩,
⟨(some (52)), .faddr 1 (.t 8), none, 0⟩,
⟨(some (53)), .load none (.t 52), none, 128⟩,
⟨(some (54)), .build [.int .i64 0, .int .i64 0] [(0, 1, .t 51), (1, 1, .t 53)], none, 480⟩,
⟨(some (55)), .faddr 2 (.t 7), none, 0⟩,
⟨(some (56)), .load none (.t 55), none, 1024⟩,
⟨(some (57)), .faddr 2 (.t 8), none, 0⟩,
⟨(some (58)), .load none (.t 57), none, 4096⟩,
⟨(some (59)), .build [.int .i64 0, .int .i64 0] [(0, 1, .t 56), (1, 1, .t 58)], none, 15360⟩,
⟨(some (60)), .faddr 3 (.t 7), none, 0⟩,
⟨(some (61)), .load none (.t 60), none, 32768⟩,
⟨(some (62)), .faddr 3 (.t 8), none, 0⟩,
⟨(some (63)), .load none (.t 62), none, 131072⟩,
⟨(some (64)), .build [.int .i64 0, .int .i64 0] [(0, 1, .t 61), (1, 1, .t 63)], none, 491520⟩,
⟨(some (65)), .faddr 5 (.t 7), none, 0⟩,
⟨(some (66)), .load none (.t 65), none, 1048576⟩,
⟨(some (67)), .call 1280513408 (.k (.one (.p (.fn 66 [] [])))) [.t 66], none, 3145728⟩,
⟨(some (68)), .faddr 5 (.t 8), none, 0⟩,
⟨(some (69)), .load none (.t 68), none, 8388608⟩,
⟨(some (70)), .call 1280513600 (.k (.one (.p (.fn 66 [] [])))) [.t 69], none, 32505856⟩,
⟨(some (71)), .build [.int .i64 0, .int .i64 0] [(0, 1, .t 67), (1, 1, .t 70)], none, 66060288⟩,
⟨(some (72)), .faddr 4 (.t 7), none, 0⟩,
⟨(some (73)), .load none (.t 72), none, 134217728⟩,
⟨(some (74)), .faddr 4 (.t 8), none, 0⟩,
⟨(some (75)), .load none (.t 74), none, 536870912⟩,
⟨(some (76)), .build [.int .i64 0, .int .i64 0] [(0, 1, .t 73), (1, 1, .t 75)], none, 2013265920⟩,
⟨(some (77)), .bslice 1280514048 100 2 [.t 49, .t 54, .t 59, .t 64, .t 71, .t 76], none, 4294967295⟩,
⟨(some (78)), .call 1280514112 (.k (.one (.p (.fn 64 [] [])))) [.t 77], none, 8589934591⟩,
⟨(some (9)), .mov (.t 78), none, 17179869183⟩])
(.seq
(.region false [
⟨(some (79)), .mov (.t 9), none, 0⟩,
⟨(some (80)), .bin .neq (.t 79) (.i 0), none, 0⟩])
(.cond (.t 80)
(.seq
(.region false [
⟨(some (81)), .mov (.t 9), none, 0⟩,
⟨(some (4)), .mov (.t 81), none, 0⟩])
(.ret))
(.skip)))))))
(.region false [
⟨(some (82)), .bin .add (.t 35) (.i 1), none, 0⟩,
⟨(some (35)), .mov (.t 82), none, 0⟩])))))))
(.seq
(.region false [
⟨(some (4)), .mov (.i 0), none, 0⟩])
(.ret)))))⟩
theorem c20 : compF Go.Proofs.Tryz.prog 20 = some i20 := by kernel_rfl
def i21 : IFn :=
⟨104, [(4, none)],
(.seq
(.region false [
⟨(some (2)), .box 1344000000 (.t 0), none, 0⟩,
⟨(some (3)), .box 1344000064 (.t 1), none, 0⟩,
⟨(some (4)), .mov (.i 0), none, 0⟩])
(.seq
(.seq
(.region false [
⟨(some (15)), .faddr 0 (.t 2), none, 0⟩,
⟨(some (16)), .load none (.t 15), none, 0⟩,
⟨(some (17)), .faddr 0 (.t 3), none, 0⟩,
⟨(some (18)), .load none (.t 17), none, 0⟩,
⟨(some (19)), .call 1344064256 (.k (.one (.p (.fn 67 [] [])))) [.t 16, .t 18], none, 0⟩,
⟨(some (5)), .mov (.t 19), none, 0⟩])
(.seq
(.region false [
⟨(some (20)), .mov (.t 5), none, 0⟩,
⟨(some (21)), .bin .neq (.t 20) (.i 0), none, 0⟩])
(.cond (.t 21)
(.seq
(.region false [
⟨(some (22)), .mov (.t 5), none, 0⟩,
⟨(some (4)), .mov (.t 22), none, 0⟩])
(.ret))
(.skip))))
(.seq
(.seq
(.region true [
⟨(some (23)), .load (some (2)) (.t 2), none, 0⟩,
⟨(some (24)), .call 1344256064 (.k (.one (.p (.fn 68 [] [])))) [.t 23], none, 1⟩,
⟨(some (25)), .load (some (2)) (.t 3), none, 0⟩,
⟨(some (26)), .call 1344256192 (.k (.one (.p (.fn 68 [] [])))) [.t 25], none, 7⟩,
⟨(some (27)), .call 1344256256 (.k (.one (.p (.fn 67 [] [])))) [.t 24, .t 26], none, 15⟩,
⟨(some (6)), .mov (.t 27), none, 31⟩])
(.seq
(.region false [
⟨(some (28)), .mov (.t 6), none, 0⟩,
⟨(some (29)), .bin .neq (.t 28) (.i 0), none, 0⟩])
(.cond (.t 29)
(.seq
(.region false [
⟨(some (30)), .mov (.t 6), none, 0⟩,
⟨(some (4)), .mov (.t 30), none, 0⟩])
(.ret))
(.skip))))
(.seq
(.seq
(.region false [
⟨(some (31)), .faddr 1 (.t 2), none, 0⟩,
⟨(some (32)), .load none (.t 31), none, 0⟩,
⟨(some (33)), .llen (.t 32), none, 0⟩,
⟨(some (34)), .faddr 1 (.t 3), none, 0⟩,
⟨(some (35)), .load none (.t 34), none, 0⟩,
⟨(some (36)), .llen (.t 35), none, 0⟩,
⟨(some (37)), .call 1344448384 (.k (.one (.p (.fn 67 [] [])))) [.t 33, .t 36], none, 0⟩,
⟨(some (7)), .mov (.t 37), none, 0⟩])
(.seq
(.region false [
⟨(some (38)), .mov (.t 7), none, 0⟩,
⟨(some (39)), .bin .neq (.t 38) (.i 0), none, 0⟩])
(.cond (.t 39)
(.seq
(.region false [
⟨(some (40)), .mov (.t 7), none, 0⟩,
⟨(some (4)), .mov (.t 40), none, 0⟩])
(.ret))
(.skip))))
(.seq
(.seq
(.region false [
⟨(some (8)), .mov (.i 0), none, 0⟩])
(.block 0
(.loop
(.seq
(.seq
(.region false [
⟨(some (41)), .mov (.t 8), none, 0⟩,
⟨(some (42)), .faddr 1 (.t 2), none, 0⟩,
⟨(some (43)), .load none (.t 42), none, 0⟩,
⟨(some (44)), .llen (.t 43), none, 0⟩,
⟨(some (45)), .bin .lss (.t 41) (.t 44), none, 0⟩])
(.cond (.t 45)
(.skip)
(.exit 0)))
(.seq
(.block 1
(.seq
(.region true [
⟨(some (48)), .faddr 1 (.t 2), none, 0⟩,
⟨(some (49)), .load none (.t 48), none, 1⟩,
⟨(some (50)), .mov (.t 8), none, 0⟩,
⟨(some (51)), .iaddr 6 (.t 49) (.t 50), none, 7⟩,
⟨(some (52)), .load (some (6)) (.t 51), none, 15⟩,
⟨(some (53)), .faddr 1 (.t 3), none, 0⟩,
⟨(some (54)), .load none (.t 53), none, 32⟩,
⟨(some (55)), .mov (.t 8), none, 0⟩,
⟨(some (56)), .iaddr 6 (.t 54) (.t 55), none, 224⟩,
⟨(some (57)), .load (some (6)) (.t 56), none, 480⟩,
⟨(some (9)), .alloc 1344832640 [.int .i64 0, .int .i64 0, .int .i64 0, .int .i64 0, .int .i64 0, .bool false], none, 0⟩,
⟨(some (10)), .alloc 1344832704 [.int .i64 0, .int .i64 0, .int .i64 0, .int .i64 0, .int .i64 0, .bool false], none, 0⟩,
⟨none, .store 6 (.t 9) (.t 52), none, 3103⟩,
⟨none, .store 6 (.t 10) (.t 57), none, 8191⟩])
(.seq
(.region true [
⟨(some (58)), .faddr 0 (.t 9), none, 0⟩,
⟨(some (59)), .load none (.t 58), none, 1⟩,
⟨(some (60)), .faddr 1 (.t 9), none, 0⟩,
⟨(some (61)), .load none (.t 60), none, 4⟩,
⟨(some (62)), .faddr 2 (.t 9), none, 0⟩,
⟨(some (63)), .load none (.t 62), none, 16⟩,
⟨(some (64)), .faddr 3 (.t 9), none, 0⟩,
⟨(some (65)), .load none (.t 64), none, 64⟩,
⟨(some (66)), .faddr 5 (.t 9), none, 0⟩,
⟨(some (67)), .load none (.t 66), none, 256⟩,
⟨(some (68)), .call 1344896640 (.k (.one (.p (.fn 69 [] [])))) [.t 67], none, 768⟩,
⟨(some (69)), .faddr 4 (.t 9), none, 0⟩,
⟨(some (70)), .load none (.t 69), none, 2048⟩,
⟨(some (71)), .bslice 1344896832 3 1 [.t 59, .t 61, .t 63, .t 65, .t 68, .t 70], none, 8191⟩,
⟨(some (11)), .mov (.t 71), none, 16383⟩])
(.seq
(.region true [
⟨(some (72)), .faddr 0 (.t 10), none, 0⟩,
⟨(some (73)), .load none (.t 72), none, 1⟩,
⟨(some (74)), .faddr 1 (.t 10), none, 0⟩,
⟨(some (75)), .load none (.t 74), none, 4⟩,
⟨(some (76)), .faddr 2 (.t 10), none, 0⟩,
⟨(some (77)), .load none (.t 76), none, 16⟩,
⟨(some (78)), .faddr 3 (.t 10), none, 0⟩,
⟨(some (79)), .load none (.t 78), none, 64⟩,
⟨(some (80)), .faddr 5 (.t 10), none, 0⟩,
⟨(some (81)), .load none (.t 80), none, 256⟩,
⟨(some (82)), .call 1344960640 (.k (.one (.p (.fn 69 [] [])))) [.t 81], none, 768⟩,
⟨(some (83)), .faddr 4 (.t 10), none, 0⟩,
⟨(some (84)), .load none (.t 83), none, 2048⟩,
⟨(some (85)), .bslice 1344960832 3 1 [.t 73, .t 75, .t 77, .t 79, .t 82, .t 84], none, 8191⟩,
⟨(some (12)), .mov (.t 85), none, 16383⟩])
(.seq
(.region false [
⟨(some (13)), .mov (.i 0), none, 0⟩])
(.block 2
(.loop
(.seq
(.seq
(.region false [
⟨(some (86)), .mov (.t 13), none, 0⟩,
⟨(some (87)), .mov (.t 11), none, 0⟩,
⟨(some (88)), .llen (.t 87), none, 0⟩,
⟨(some (89)), .bin .lss (.t 86) (.t 88), none, 0⟩])
(.cond (.t 89)
(.skip)
(.exit 2)))
(.seq
(.block 3
(.seq
(.region true [
⟨(some (92)), .mov (.t 11), none, 0⟩,
⟨(some (93)), .mov (.t 13), none, 0⟩,
⟨(some (94)), .iaddr 1 (.t 92) (.t 93), none, 3⟩,
⟨(some (95)), .load none (.t 94), none, 7⟩,
⟨(some (96)), .mov (.t 12), none, 0⟩,
⟨(some (97)), .mov (.t 13), none, 0⟩,
⟨(some (98)), .iaddr 1 (.t 96) (.t 97), none, 48⟩,
⟨(some (99)), .load none (.t 98), none, 112⟩,
⟨(some (100)), .call 1345216512 (.k (.one (.p (.fn 67 [] [])))) [.t 95, .t 99], none, 255⟩,
⟨(some (14)), .mov (.t 100), none, 511⟩])
(.seq
(.region false [
⟨(some (101)), .mov (.t 14), none, 0⟩,
⟨(some (102)), .bin .neq (.t 101) (.i 0), none, 0⟩])
(.cond (.t 102)
(.seq
(.region false [
⟨(some (103)), .mov (.t 14), none, 0⟩,
⟨(some (4)), .mov (.t 103), none, 0⟩])
(.ret))
(.skip)))))
(.region false [
⟨(some (90)), .mov (.t 13), none, 0⟩,
⟨(some (91)), .bin .add (.t 90) (.i 1), none, 0⟩,
⟨(some (13)), .mov (.t 91), none, 0⟩]))))))))))
(.region false [
⟨(some (46)), .mov (.t 8), none, 0⟩,
⟨(some (47)), .bin .add (.t 46) (.i 1), none, 0⟩,
⟨(some (8)), .mov (.t 47), none, 0⟩]))))))
(.seq
(.region false [
⟨(some (4)), .mov (.i 0), none, 0⟩])
(.ret)))))))⟩
theorem c21 : compF Go.Proofs.Tryz.prog 21 = some i21 := by kernel_rfl
def i22 : IFn :=
⟨38, [(4, none)],
(.seq
(.region false [
⟨(some (2)), .box 1408000000 (.t 0), none, 0⟩,
⟨(some (3)), .box 1408000064 (.t 1), none, 0⟩,
⟨(some (4)), .mov (.b false), none, 0⟩])
(.seq
(.seq
(.region false [
⟨(some (6)), .faddr 0 (.t 2), none, 0⟩,
⟨(some (7)), .load none (.t 6), none, 0⟩,
⟨(some (8)), .faddr 0 (.t 3), none, 0⟩,
⟨(some (9)), .load none (.t 8), none, 0⟩,
⟨(some (10)), .bin .neq (.t 7) (.t 9), none, 0⟩,
⟨(some (11)), .mov (.t 10), none, 0⟩,
⟨(some (12)), .faddr 1 (.t 2), (some (11, false)), 0⟩,
⟨(some (13)), .load none (.t 12), (some (11, false)), 0⟩,
⟨(some (14)), .llen (.t 13), (some (11, false)), 0⟩,
⟨(some (15)), .faddr 1 (.t 3), (some (11, false)), 0⟩,
⟨(some (16)), .load none (.t 15), (some (11, false)), 0⟩,
⟨(some (17)), .llen (.t 16), (some (11, false)), 0⟩,
⟨(some (18)), .bin .neq (.t 14) (.t 17), (some (11, false)), 0⟩,
⟨(some (19)), .pick (.t 11) (.b true) (.t 18), none, 0⟩])
(.cond (.t 19)
(.seq
(.region false [
⟨(some (4)), .mov (.b false), none, 0⟩])
(.ret))
(.skip)))
(.seq
(.seq
(.region false [
⟨(some (5)), .mov (.i 0), none, 0⟩])
(.block 0
(.loop
(.seq
(.seq
(.region false [
⟨(some (20)), .mov (.t 5), none, 0⟩,
⟨(some (21)), .faddr 1 (.t 2), none, 0⟩,
⟨(some (22)), .load none (.t 21), none, 0⟩,
⟨(some (23)), .llen (.t 22), none, 0⟩,
⟨(some (24)), .bin .lss (.t 20) (.t 23), none, 0⟩])
(.cond (.t 24)
(.skip)
(.exit 0)))
(.seq
(.block 1
(.seq
(.region true [
⟨(some (27)), .faddr 1 (.t 2), none, 0⟩,
⟨(some (28)), .load none (.t 27), none, 1⟩,
⟨(some (29)), .mov (.t 5), none, 0⟩,
⟨(some (30)), .iaddr 6 (.t 28) (.t 29), none, 7⟩,
⟨(some (31)), .load (some (6)) (.t 30), none, 15⟩,
⟨(some (32)), .faddr 1 (.t 3), none, 0⟩,
⟨(some (33)), .load none (.t 32), none, 32⟩,
⟨(some (34)), .mov (.t 5), none, 0⟩,
⟨(some (35)), .iaddr 6 (.t 33) (.t 34), none, 224⟩,
⟨(some (36)), .load (some (6)) (.t 35), none, 480⟩,
⟨(some (37)), .eqc (.str [true, true, true, true, true, false]) true (.t 31) (.t 36), none, 1023⟩])
(.cond (.t 37)
(.seq
(.region false [
⟨(some (4)), .mov (.b false), none, 0⟩])
(.ret))
(.skip))))
(.region false [
⟨(some (25)), .mov (.t 5), none, 0⟩,
⟨(some (26)), .bin .add (.t 25) (.i 1), none, 0⟩,
⟨(some (5)), .mov (.t 26), none, 0⟩]))))))
(.seq
(.region false [
⟨(some (4)), .mov (.b true), none, 0⟩])
(.ret)))))⟩
theorem c22 : compF Go.Proofs.Tryz.prog 22 = some i22 := by kernel_rfl
def i23 : IFn :=
⟨27, [(2, none)],
(.seq
(.region false [
⟨(some (2)), .mov (.i 0), none, 0⟩])
(.seq
(.region false [
⟨(some (3)), .mov (.i (-1)), none, 0⟩])
(.seq
(.seq
(.region false [
⟨(some (6)), .mov (.t 0), none, 0⟩,
⟨(some (7)), .llen (.t 6), none, 0⟩,
⟨(some (8)), .mov (.i 0), none, 0⟩])
(.block 0
(.loop
(.seq
(.region false [
⟨(some (9)), .bin .lss (.t 8) (.t 7), none, 0⟩])
(.seq
(.cond (.t 9)
(.skip)
(.exit 0))
(.seq
(.block 1
(.seq
(.region false [
⟨(some (10)), .mov (.t 8), none, 0⟩,
⟨(some (11)), .iaddr 2 (.t 6) (.t 8), none, 0⟩,
⟨(some (12)), .load (some (2)) (.t 11), none, 0⟩,
⟨(some (5)), .alloc 1472256192 [.int .i64 0, .nils], none, 0⟩,
⟨(some (4)), .mov (.t 10), none, 0⟩,
⟨none, .store 2 (.t 5) (.t 12), none, 0⟩])
(.seq
(.region true [
⟨(some (13)), .mov (.t 3), none, 0⟩,
⟨(some (14)), .bin .lss (.t 13) (.i 0), none, 1⟩,
⟨(some (15)), .mov (.t 14), none, 3⟩,
⟨(some (16)), .load (some (2)) (.t 5), (some (15, false)), 7⟩,
⟨(some (17)), .mov (.t 0), (some (15, false)), 7⟩,
⟨(some (18)), .mov (.t 3), (some (15, false)), 7⟩,
⟨(some (19)), .iaddr 2 (.t 17) (.t 18), (some (15, false)), 55⟩,
⟨(some (20)), .load (some (2)) (.t 19), (some (15, false)), 119⟩,
⟨(some (21)), .call 1472320512 (.k (.one (.p (.fn 20 [] [])))) [.t 16, .t 20], (some (15, false)), 255⟩,
⟨(some (22)), .bin .lss (.t 21) (.i 0), (some (15, false)), 511⟩,
⟨(some (23)), .pick (.t 15) (.b true) (.t 22), none, 1023⟩])
(.cond (.t 23)
(.region false [
⟨(some (24)), .mov (.t 4), none, 0⟩,
⟨(some (3)), .mov (.t 24), none, 0⟩])
(.skip)))))
(.region false [
⟨(some (25)), .bin .add (.t 8) (.i 1), none, 0⟩,
⟨(some (8)), .mov (.t 25), none, 0⟩])))))))
(.seq
(.region false [
⟨(some (26)), .mov (.t 3), none, 0⟩,
⟨(some (2)), .mov (.t 26), none, 0⟩])
(.ret)))))⟩
theorem c23 : compF Go.Proofs.Tryz.prog 23 = some i23 := by kernel_rfl
def i24 : IFn :=
⟨27, [(2, none)],
(.seq
(.region false [
⟨(some (2)), .mov (.i 0), none, 0⟩])
(.seq
(.region false [
⟨(some (3)), .mov (.i (-1)), none, 0⟩])
(.seq
(.seq
(.region false [
⟨(some (4)), .mov (.i 0), none, 0⟩])
(.block 0
(.loop
(.seq
(.seq
(.region false [
⟨(some (5)), .mov (.t 4), none, 0⟩,
⟨(some (6)), .mov (.t 0), none, 0⟩,
⟨(some (7)), .llen (.t 6), none, 0⟩,
⟨(some (8)), .bin .lss (.t 5) (.t 7), none, 0⟩])
(.cond (.t 8)
(.skip)
(.exit 0)))
(.seq
(.block 1
(.seq
(.region true [
⟨(some (11)), .mov (.t 3), none, 0⟩,
⟨(some (12)), .bin .lss (.t 11) (.i 0), none, 1⟩,
⟨(some (13)), .mov (.t 12), none, 3⟩,
⟨(some (14)), .mov (.t 0), (some (13, false)), 7⟩,
⟨(some (15)), .mov (.t 4), (some (13, false)), 7⟩,
⟨(some (16)), .iaddr 2 (.t 14) (.t 15), (some (13, false)), 31⟩,
⟨(some (17)), .load (some (2)) (.t 16), (some (13, false)), 63⟩,
⟨(some (18)), .mov (.t 0), (some (13, false)), 7⟩,
⟨(some (19)), .mov (.t 3), (some (13, false)), 7⟩,
⟨(some (20)), .iaddr 2 (.t 18) (.t 19), (some (13, false)), 391⟩,
⟨(some (21)), .load (some (2)) (.t 20), (some (13, false)), 903⟩,
⟨(some (22)), .call 1536320704 (.k (.one (.p (.fn 21 [] [])))) [.t 17, .t 21], (some (13, false)), 2047⟩,
⟨(some (23)), .bin .lss (.t 22) (.i 0), (some (13, false)), 4095⟩,
⟨(some (24)), .pick (.t 13) (.b true) (.t 23), none, 8191⟩])
(.cond (.t 24)
(.region false [
⟨(some (25)), .mov (.t 4), none, 0⟩,
⟨(some (3)), .mov (.t 25), none, 0⟩])
(.skip))))
(.region false [
⟨(some (9)), .mov (.t 4), none, 0⟩,
⟨(some (10)), .bin .add (.t 9) (.i 1), none, 0⟩,
⟨(some (4)), .mov (.t 10), none, 0⟩]))))))
(.seq
(.region false [
⟨(some (26)), .mov (.t 3), none, 0⟩,
⟨(some (2)), .mov (.t 26), none, 0⟩])
(.ret)))))⟩
theorem c24 : compF Go.Proofs.Tryz.prog 24 = some i24 := by kernel_rfl
def i64 : IFn :=
⟨22, [(2, none)],
(.seq
(.region false [
⟨(some (2)), .mov (.i 0), none, 0⟩])
(.seq
(.seq
(.region false [
⟨(some (5)), .mov (.t 0), none, 0⟩,
⟨(some (6)), .llen (.t 5), none, 0⟩,
⟨(some (7)), .mov (.i 0), none, 0⟩])
(.block 0
(.loop
(.seq
(.region false [
⟨(some (8)), .bin .lss (.t 7) (.t 6), none, 0⟩])
(.seq
(.cond (.t 8)
(.skip)
(.exit 0))
(.seq
(.block 1
(.seq
(.region false [
⟨(some (9)), .iaddr 2 (.t 5) (.t 7), none, 0⟩,
⟨(some (10)), .load (some (2)) (.t 9), none, 0⟩,
⟨(some (4)), .alloc 4096192128 [.int .i64 0, .int .i64 0], none, 0⟩,
⟨none, .store 2 (.t 4) (.t 10), none, 0⟩])
(.seq
(.region false [
⟨(some (11)), .aaddr 2 1 (.t 4) (.i 0), none, 0⟩,
⟨(some (12)), .load none (.t 11), none, 0⟩,
⟨(some (13)), .aaddr 2 1 (.t 4) (.i 1), none, 0⟩,
⟨(some (14)), .load none (.t 13), none, 0⟩,
⟨(some (15)), .bin .neq (.t 12) (.t 14), none, 0⟩])
(.cond (.t 15)
(.seq
(.seq
(.region false [
⟨(some (16)), .aaddr 2 1 (.t 4) (.i 0), none, 0⟩,
⟨(some (17)), .load none (.t 16), none, 0⟩,
⟨(some (18)), .aaddr 2 1 (.t 4) (.i 1), none, 0⟩,
⟨(some (19)), .load none (.t 18), none, 0⟩,
⟨(some (20)), .bin .lss (.t 17) (.t 19), none, 0⟩])
(.cond (.t 20)
(.seq
(.region false [
⟨(some (2)), .mov (.i (-1)), none, 0⟩])
(.ret))
(.skip)))
(.seq
(.region false [
⟨(some (2)), .mov (.i 1), none, 0⟩])
(.ret)))
(.skip)))))
(.region false [
⟨(some (21)), .bin .add (.t 7) (.i 1), none, 0⟩,
⟨(some (7)), .mov (.t 21), none, 0⟩])))))))
(.seq
(.region false [
⟨(some (2)), .mov (.i 0), none, 0⟩])
(.ret))))⟩
theorem c64 : compF Go.Proofs.Tryz.prog 64 = some i64 := by kernel_rfl
def i65 : IFn :=
⟨20, [(2, none)],
(.seq
(.region false [
⟨(some (1)), .box 4160000000 (.t 0), none, 0⟩,
⟨(some (2)), .mov (.i 0), none, 0⟩])
(.seq
(.region false [
⟨(some (3)), .mov (.i 0), none, 0⟩])
(.seq
(.seq
(.region false [
⟨(some (6)), .faddr 1 (.t 1), none, 0⟩,
⟨(some (7)), .load none (.t 6), none, 0⟩,
⟨(some (8)), .llen (.t 7), none, 0⟩,
⟨(some (9)), .mov (.i 0), none, 0⟩])
(.block 0
(.loop
(.seq
(.region false [
⟨(some (10)), .bin .lss (.t 9) (.t 8), none, 0⟩])
(.seq
(.cond (.t 10)
(.skip)
(.exit 0))
(.seq
(.block 1
(.seq
(.region false [
⟨(some (11)), .iaddr 6 (.t 7) (.t 9), none, 0⟩,
⟨(some (12)), .load (some (6)) (.t 11), none, 0⟩,
⟨(some (5)), .alloc 4160256128 [.int .i64 0, .int .i64 0, .int .i64 0, .int .i64 0, .int .i64 0, .bool false], none, 0⟩,
⟨none, .store 6 (.t 5) (.t 12), none, 0⟩])
(.seq
(.region false [
⟨(some (13)), .faddr 0 (.t 5), none, 0⟩,
⟨(some (14)), .load none (.t 13), none, 0⟩,
⟨(some (15)), .bin .eql (.t 14) (.i 2), none, 0⟩])
(.cond (.t 15)
(.region false [
⟨(some (16)), .mov (.t 3), none, 0⟩,
⟨(some (17)), .bin .add (.t 16) (.i 1), none, 0⟩,
⟨(some (3)), .mov (.t 17), none, 0⟩])
(.skip)))))
(.region false [
⟨(some (18)), .bin .add (.t 9) (.i 1), none, 0⟩,
⟨(some (9)), .mov (.t 18), none, 0⟩])))))))
(.seq
(.region false [
⟨(some (19)), .mov (.t 3), none, 0⟩,
⟨(some (2)), .mov (.t 19), none, 0⟩])
(.ret)))))⟩
theorem c65 : compF Go.Proofs.Tryz.prog 65 = some i65 := by kernel_rfl
def i66 : IFn :=
⟨4, [(2, none)],
(.seq
(.region false [
⟨(some (2)), .mov (.i 0), none, 0⟩])
(.seq
(.seq
(.region false [
⟨(some (3)), .mov (.t 0), none, 0⟩])
(.cond (.t 3)
(.seq
(.region false [
⟨(some (2)), .mov (.i 1), none, 0⟩])
(.ret))
(.skip)))
(.seq
(.region false [
⟨(some (2)), .mov (.i 0), none, 0⟩])
(.ret))))⟩
theorem c66 : compF Go.Proofs.Tryz.prog 66 = some i66 := by kernel_rfl
def i67 : IFn :=
⟨11, [(4, none)],
(.seq
(.region false [
⟨(some (4)), .mov (.i 0), none, 0⟩])
(.seq
(.seq
(.region false [
⟨(some (5)), .mov (.t 0), none, 0⟩,
⟨(some (6)), .mov (.t 1), none, 0⟩,
⟨(some (7)), .bin .lss (.t 5) (.t 6), none, 0⟩])
(.cond (.t 7)
(.seq
(.region false [
⟨(some (4)), .mov (.i (-1)), none, 0⟩])
(.ret))
(.skip)))
(.seq
(.seq
(.region false [
⟨(some (8)), .mov (.t 0), none, 0⟩,
⟨(some (9)), .mov (.t 1), none, 0⟩,
⟨(some (10)), .bin .gtr (.t 8) (.t 9), none, 0⟩])
(.cond (.t 10)
(.seq
(.region false [
⟨(some (4)), .mov (.i 1), none, 0⟩])
(.ret))
(.skip)))
(.seq
(.region false [
⟨(some (4)), .mov (.i 0), none, 0⟩])
(.ret)))))⟩
theorem c67 : compF Go.Proofs.Tryz.prog 67 = some i67 := by kernel_rfl
def i68 : IFn :=
⟨22, [(2, none)],
(.seq
(.region false [
⟨(some (1)), .box 4352000000 (.t 0), none, 0⟩,
⟨(some (2)), .mov (.i 0), none, 0⟩])
(.seq
(.region false [
⟨(some (3)), .mov (.i 0), none, 0⟩])
(.seq
(.seq
(.region false [
⟨(some (4)), .mov (.i 0), none, 0⟩])
(.block 0
(.loop
(.seq
(.seq
(.region false [
⟨(some (5)), .mov (.t 4), none, 0⟩,
⟨(some (6)), .faddr 1 (.t 1), none, 0⟩,
⟨(some (7)), .load none (.t 6), none, 0⟩,
⟨(some (8)), .llen (.t 7), none, 0⟩,
⟨(some (9)), .bin .lss (.t 5) (.t 8), none, 0⟩])
(.cond (.t 9)
(.skip)
(.exit 0)))
(.seq
(.block 1
(.seq
(.region false [
⟨(some (12)), .faddr 1 (.t 1), none, 0⟩,
⟨(some (13)), .load none (.t 12), none, 0⟩,
⟨(some (14)), .mov (.t 4), none, 0⟩,
⟨(some (15)), .iaddr 6 (.t 13) (.t 14), none, 0⟩,
⟨(some (16)), .faddr 0 (.t 15), none, 0⟩,
⟨(some (17)), .load none (.t 16), none, 0⟩,
⟨(some (18)), .bin .eql (.t 17) (.i 2), none, 0⟩])
(.cond (.t 18)
(.region false [
⟨(some (19)), .mov (.t 3), none, 0⟩,
⟨(some (20)), .bin .add (.t 19) (.i 1), none, 0⟩,
⟨(some (3)), .mov (.t 20), none, 0⟩])
(.skip))))
(.region false [
⟨(some (10)), .mov (.t 4), none, 0⟩,
⟨(some (11)), .bin .add (.t 10) (.i 1), none, 0⟩,
⟨(some (4)), .mov (.t 11), none, 0⟩]))))))
(.seq
(.region false [
⟨(some (21)), .mov (.t 3), none, 0⟩,
⟨(some (2)), .mov (.t 21), none, 0⟩])
(.ret)))))⟩
theorem c68 : compF Go.Proofs.Tryz.prog 68 = some i68 := by kernel_rfl
def i69 : IFn :=
⟨4, [(2, none)],
(.seq
(.region false [
⟨(some (2)), .mov (.i 0), none, 0⟩])
(.seq
(.seq
(.region false [
⟨(some (3)), .mov (.t 0), none, 0⟩])
(.cond (.t 3)
(.seq
(.region false [
⟨(some (2)), .mov (.i 1), none, 0⟩])
(.ret))
(.skip)))
(.seq
(.region false [
⟨(some (2)), .mov (.i 0), none, 0⟩])
(.ret))))⟩
theorem c69 : compF Go.Proofs.Tryz.prog 69 = some i69 := by kernel_rfl
end Go.Abs
namespace Go.Abs
set_option maxRecDepth 100000
theorem S_fns4 {f : Nat} {fn : IFn} (h : compF Go.Proofs.Tryz.prog f = some fn) : S.fns f = some fn := h
structure Let where
  kind : Int
  gate : Int
  rank : Int
  id : Int
  sign : Int
  over : Bool
def Let.ps (l : Let) : List PV := [.int .i64 l.kind, .int .i64 l.gate, .int .i64 l.rank, .int .i64 l.id, .int .i64 l.sign, .bool l.over]
abbrev codeV (k : Int) (ls : List Let) : V := .agg [.p (.int .i64 k), .p (.sl (ls.map Let.ps))]
def cnt (ls : List Let) : Nat := (ls.filter fun l => l.kind == 2).length
theorem cnt_le (ls : List Let) : cnt ls ≤ ls.length := List.length_filter_le _ _
theorem cnt_succ (ls : List Let) (k : Nat) (h : k < ls.length) : cnt (ls.take (k + 1)) = cnt (ls.take k) + if (ls[k].kind == 2) = true then 1 else 0 := by
  unfold cnt
  rw [List.take_succ_eq_append_getElem h, List.filter_append, List.length_append]
  cases hk : ls[k].kind == 2 <;> simp [List.filter_cons, hk]
theorem cnt_take_le (ls : List Let) (k : Nat) : cnt (ls.take k) ≤ ls.length := Nat.le_trans (cnt_le _) (by simp; omega)

theorem crosses65 (f : Int) (ls : List Let) (hl : ls.length ≤ 1000) : PEv S 65 [codeV f ls] (.one (.p (.int .i64 (cnt ls)))) := by
  refine PEv_fn rfl (S_fns4 c65) (Nat.le_of_ble_eq_true rfl) ?_
  simp only [W_seq_iff, W_seq_text, WN_cons_iff, WN_nil_iff, W_ret_iff, W_skip_iff, W_cond_iff, W_block_iff, W_exit_iff, thenQ_normal, thenQ_ret, thenQ_exit, blockQ_normal, blockQ_ret, blockQ_exit, condW_bool, goWN_true, goWN_false, goPN_done, wanted_none, wanted_some, wantV_bool, wantV_undef, plan, ev_t, ev_i, ev_b, ev_k, put_some, put_none, upd_apply, ienv_zero, ienv_succ, binV, binInt, eqV, app, List.map_nil, List.append_nil, List.map_cons, Al.all_oks, true_and, and_true, true_or, if_true, if_false, Option.map_some, reduceIte, Nat.reduceEqDiff, decide_true, decide_false, beq_self_eq_true, reduceCtorEq, ge_iff_le, Bool.false_eq_true, Bool.not_true, Bool.not_false, endQ_ret1, endQ_normal1, ret1_one, ret1_agg, outV_p, norm_int, norm_bool, norm_str, norm_nils, norm_sl, norm_box, norm_fn, norm_nilp, norm_nilf, norm_nilm, norm_mp, snapVs_nil, snapVs_cons, snapCons_some, snapV_p, fnOf, bft, btf, bff, btt, Nat.reduceAdd, List.cons_append, List.nil_append, Bool.and_true, Bool.and_false, Bool.true_and, Bool.false_and, asN_nat, rdAt, takeV, wrAt, splice, cellsV, lenL, List.drop_zero, List.take_zero, List.length_cons, List.length_nil, List.take_succ_cons, Nat.le_refl, ne_eq, not_true_eq_false, and_self, List.drop_nil, Nat.zero_add, Nat.reduceLeDiff, List.drop_succ_cons, not_false_eq_true, List.length_map, snap_p, consR_some, collect_nil, collect_cons, snapV_agg, W_draw, WO_cons_iff, WO_nil_iff, goW_true, goW_false, goP_done, partsV, elemsV, toPss, toPs, toP, fill, List.take_nil, asN_lit, Nat.reduceMul, Nat.reduceLT, Nat.mul_one, Nat.zero_mul, snapV_one, snap_hsl, snapHsl, snap_href, snapHref, snap_ps, i65]
  refine W_for (fun k env _ => env 7 = .one (.p (.sl (ls.map Let.ps))) ∧ env 8 = .one (.p (.int .i64 ls.length)) ∧ env 9 = .one (.p (.int .i64 k)) ∧ env 3 = .one (.p (.int .i64 (cnt (ls.take k))))) 0 ls.length (Nat.zero_le _) ?_ ?_
  · simp only [W_seq_iff, W_seq_text, WN_cons_iff, WN_nil_iff, W_ret_iff, W_skip_iff, W_cond_iff, W_block_iff, W_exit_iff, thenQ_normal, thenQ_ret, thenQ_exit, blockQ_normal, blockQ_ret, blockQ_exit, condW_bool, goWN_true, goWN_false, goPN_done, wanted_none, wanted_some, wantV_bool, wantV_undef, plan, ev_t, ev_i, ev_b, ev_k, put_some, put_none, upd_apply, ienv_zero, ienv_succ, binV, binInt, eqV, app, List.map_nil, List.append_nil, List.map_cons, Al.all_oks, true_and, and_true, true_or, if_true, if_false, Option.map_some, reduceIte, Nat.reduceEqDiff, decide_true, decide_false, beq_self_eq_true, reduceCtorEq, ge_iff_le, Bool.false_eq_true, Bool.not_true, Bool.not_false, endQ_ret1, endQ_normal1, ret1_one, ret1_agg, outV_p, norm_int, norm_bool, norm_str, norm_nils, norm_sl, norm_box, norm_fn, norm_nilp, norm_nilf, norm_nilm, norm_mp, snapVs_nil, snapVs_cons, snapCons_some, snapV_p, fnOf, bft, btf, bff, btt, Nat.reduceAdd, List.cons_append, List.nil_append, Bool.and_true, Bool.and_false, Bool.true_and, Bool.false_and, asN_nat, rdAt, takeV, wrAt, splice, cellsV, lenL, List.drop_zero, List.take_zero, List.length_cons, List.length_nil, List.take_succ_cons, Nat.le_refl, ne_eq, not_true_eq_false, and_self, List.drop_nil, Nat.zero_add, Nat.reduceLeDiff, List.drop_succ_cons, not_false_eq_true, List.length_map, snap_p, consR_some, collect_nil, collect_cons, snapV_agg, W_draw, WO_cons_iff, WO_nil_iff, goW_true, goW_false, goP_done, partsV, elemsV, toPss, toPs, toP, fill, List.take_nil, asN_lit, Nat.reduceMul, Nat.reduceLT, Nat.mul_one, Nat.zero_mul, snapV_one, snap_hsl, snapHsl, snap_href, snapHref, snap_ps]
    exact ⟨rfl, rfl⟩
  · rintro k env blk hk ⟨h7, h8, h9, h3⟩
    by_cases hlt : k < ls.length
    · have hi : (ls.map Let.ps)[k]? = some (ls[k].ps) := by simp [hlt]
      have hlt' : ((k : Int) < (ls.length : Int)) := by omega
      have hc := cnt_succ ls k hlt
      have hb := cnt_take_le ls k
      have w1 := wrap_succ (n := k) (by omega)
      have w2 := wrap_succ (n := cnt (ls.take k)) (by omega)
      simp only [W_seq_iff, W_seq_text, WN_cons_iff, WN_nil_iff, W_ret_iff, W_skip_iff, W_cond_iff, W_block_iff, W_exit_iff, thenQ_normal, thenQ_ret, thenQ_exit, blockQ_normal, blockQ_ret, blockQ_exit, condW_bool, goWN_true, goWN_false, goPN_done, wanted_none, wanted_some, wantV_bool, wantV_undef, plan, ev_t, ev_i, ev_b, ev_k, put_some, put_none, upd_apply, ienv_zero, ienv_succ, binV, binInt, eqV, app, List.map_nil, List.append_nil, List.map_cons, Al.all_oks, true_and, and_true, true_or, if_true, if_false, Option.map_some, reduceIte, Nat.reduceEqDiff, decide_true, decide_false, beq_self_eq_true, reduceCtorEq, ge_iff_le, Bool.false_eq_true, Bool.not_true, Bool.not_false, endQ_ret1, endQ_normal1, ret1_one, ret1_agg, outV_p, norm_int, norm_bool, norm_str, norm_nils, norm_sl, norm_box, norm_fn, norm_nilp, norm_nilf, norm_nilm, norm_mp, snapVs_nil, snapVs_cons, snapCons_some, snapV_p, fnOf, bft, btf, bff, btt, Nat.reduceAdd, List.cons_append, List.nil_append, Bool.and_true, Bool.and_false, Bool.true_and, Bool.false_and, asN_nat, rdAt, takeV, wrAt, splice, cellsV, lenL, List.drop_zero, List.take_zero, List.length_cons, List.length_nil, List.take_succ_cons, Nat.le_refl, ne_eq, not_true_eq_false, and_self, List.drop_nil, Nat.zero_add, Nat.reduceLeDiff, List.drop_succ_cons, not_false_eq_true, List.length_map, snap_p, consR_some, collect_nil, collect_cons, snapV_agg, W_draw, WO_cons_iff, WO_nil_iff, goW_true, goW_false, goP_done, partsV, elemsV, toPss, toPs, toP, fill, List.take_nil, asN_lit, Nat.reduceMul, Nat.reduceLT, Nat.mul_one, Nat.zero_mul, snapV_one, snap_hsl, snapHsl, snap_href, snapHref, snap_ps, h7, h8, h9, h3, hi, hlt', Let.ps, w1, w2]
      split
      · rename_i h; rw [if_pos h] at hc; exact ⟨hlt, by rw [hc]⟩
      · rename_i h; rw [if_neg h] at hc; exact ⟨hlt, by rw [hc]; rfl⟩
    · have : k = ls.length := by omega
      subst this
      have hlt' : ¬ ((ls.length : Int) < (ls.length : Int)) := by omega
      simp only [W_seq_iff, W_seq_text, WN_cons_iff, WN_nil_iff, W_ret_iff, W_skip_iff, W_cond_iff, W_block_iff, W_exit_iff, thenQ_normal, thenQ_ret, thenQ_exit, blockQ_normal, blockQ_ret, blockQ_exit, condW_bool, goWN_true, goWN_false, goPN_done, wanted_none, wanted_some, wantV_bool, wantV_undef, plan, ev_t, ev_i, ev_b, ev_k, put_some, put_none, upd_apply, ienv_zero, ienv_succ, binV, binInt, eqV, app, List.map_nil, List.append_nil, List.map_cons, Al.all_oks, true_and, and_true, true_or, if_true, if_false, Option.map_some, reduceIte, Nat.reduceEqDiff, decide_true, decide_false, beq_self_eq_true, reduceCtorEq, ge_iff_le, Bool.false_eq_true, Bool.not_true, Bool.not_false, endQ_ret1, endQ_normal1, ret1_one, ret1_agg, outV_p, norm_int, norm_bool, norm_str, norm_nils, norm_sl, norm_box, norm_fn, norm_nilp, norm_nilf, norm_nilm, norm_mp, snapVs_nil, snapVs_cons, snapCons_some, snapV_p, fnOf, bft, btf, bff, btt, Nat.reduceAdd, List.cons_append, List.nil_append, Bool.and_true, Bool.and_false, Bool.true_and, Bool.false_and, asN_nat, rdAt, takeV, wrAt, splice, cellsV, lenL, List.drop_zero, List.take_zero, List.length_cons, List.length_nil, List.take_succ_cons, Nat.le_refl, ne_eq, not_true_eq_false, and_self, List.drop_nil, Nat.zero_add, Nat.reduceLeDiff, List.drop_succ_cons, not_false_eq_true, List.length_map, snap_p, consR_some, collect_nil, collect_cons, snapV_agg, W_draw, WO_cons_iff, WO_nil_iff, goW_true, goW_false, goP_done, partsV, elemsV, toPss, toPs, toP, fill, List.take_nil, asN_lit, Nat.reduceMul, Nat.reduceLT, Nat.mul_one, Nat.zero_mul, snapV_one, snap_hsl, snapHsl, snap_href, snapHref, snap_ps, h7, h8, h9, h3, hlt', List.take_length]

theorem visits68 (f : Int) (ls : List Let) (hl : ls.length ≤ 1000) : PEv S 68 [codeV f ls] (.one (.p (.int .i64 (cnt ls)))) := by
  refine PEv_fn rfl (S_fns4 c68) (Nat.le_of_ble_eq_true rfl) ?_
  simp only [W_seq_iff, W_seq_text, WN_cons_iff, WN_nil_iff, W_ret_iff, W_skip_iff, W_cond_iff, W_block_iff, W_exit_iff, thenQ_normal, thenQ_ret, thenQ_exit, blockQ_normal, blockQ_ret, blockQ_exit, condW_bool, goWN_true, goWN_false, goPN_done, wanted_none, wanted_some, wantV_bool, wantV_undef, plan, ev_t, ev_i, ev_b, ev_k, put_some, put_none, upd_apply, ienv_zero, ienv_succ, binV, binInt, eqV, app, List.map_nil, List.append_nil, List.map_cons, Al.all_oks, true_and, and_true, true_or, if_true, if_false, Option.map_some, reduceIte, Nat.reduceEqDiff, decide_true, decide_false, beq_self_eq_true, reduceCtorEq, ge_iff_le, Bool.false_eq_true, Bool.not_true, Bool.not_false, endQ_ret1, endQ_normal1, ret1_one, ret1_agg, outV_p, norm_int, norm_bool, norm_str, norm_nils, norm_sl, norm_box, norm_fn, norm_nilp, norm_nilf, norm_nilm, norm_mp, snapVs_nil, snapVs_cons, snapCons_some, snapV_p, fnOf, bft, btf, bff, btt, Nat.reduceAdd, List.cons_append, List.nil_append, Bool.and_true, Bool.and_false, Bool.true_and, Bool.false_and, asN_nat, rdAt, takeV, wrAt, splice, cellsV, lenL, List.drop_zero, List.take_zero, List.length_cons, List.length_nil, List.take_succ_cons, Nat.le_refl, ne_eq, not_true_eq_false, and_self, List.drop_nil, Nat.zero_add, Nat.reduceLeDiff, List.drop_succ_cons, not_false_eq_true, List.length_map, snap_p, consR_some, collect_nil, collect_cons, snapV_agg, W_draw, WO_cons_iff, WO_nil_iff, goW_true, goW_false, goP_done, partsV, elemsV, toPss, toPs, toP, fill, List.take_nil, asN_lit, Nat.reduceMul, Nat.reduceLT, Nat.mul_one, Nat.zero_mul, snapV_one, snap_hsl, snapHsl, snap_href, snapHref, snap_ps, i68]
  refine W_for (fun k env blk => env 1 = .one (.href 4352000000 1 0) ∧ blk 4352000000 = (1, some (.var [.p (.int .i64 f), .p (.sl (ls.map Let.ps))])) ∧ env 4 = .one (.p (.int .i64 k)) ∧ env 3 = .one (.p (.int .i64 (cnt (ls.take k))))) 0 ls.length (Nat.zero_le _) ?_ ?_
  · simp only [W_seq_iff, W_seq_text, WN_cons_iff, WN_nil_iff, W_ret_iff, W_skip_iff, W_cond_iff, W_block_iff, W_exit_iff, thenQ_normal, thenQ_ret, thenQ_exit, blockQ_normal, blockQ_ret, blockQ_exit, condW_bool, goWN_true, goWN_false, goPN_done, wanted_none, wanted_some, wantV_bool, wantV_undef, plan, ev_t, ev_i, ev_b, ev_k, put_some, put_none, upd_apply, ienv_zero, ienv_succ, binV, binInt, eqV, app, List.map_nil, List.append_nil, List.map_cons, Al.all_oks, true_and, and_true, true_or, if_true, if_false, Option.map_some, reduceIte, Nat.reduceEqDiff, decide_true, decide_false, beq_self_eq_true, reduceCtorEq, ge_iff_le, Bool.false_eq_true, Bool.not_true, Bool.not_false, endQ_ret1, endQ_normal1, ret1_one, ret1_agg, outV_p, norm_int, norm_bool, norm_str, norm_nils, norm_sl, norm_box, norm_fn, norm_nilp, norm_nilf, norm_nilm, norm_mp, snapVs_nil, snapVs_cons, snapCons_some, snapV_p, fnOf, bft, btf, bff, btt, Nat.reduceAdd, List.cons_append, List.nil_append, Bool.and_true, Bool.and_false, Bool.true_and, Bool.false_and, asN_nat, rdAt, takeV, wrAt, splice, cellsV, lenL, List.drop_zero, List.take_zero, List.length_cons, List.length_nil, List.take_succ_cons, Nat.le_refl, ne_eq, not_true_eq_false, and_self, List.drop_nil, Nat.zero_add, Nat.reduceLeDiff, List.drop_succ_cons, not_false_eq_true, List.length_map, snap_p, consR_some, collect_nil, collect_cons, snapV_agg, W_draw, WO_cons_iff, WO_nil_iff, goW_true, goW_false, goP_done, partsV, elemsV, toPss, toPs, toP, fill, List.take_nil, asN_lit, Nat.reduceMul, Nat.reduceLT, Nat.mul_one, Nat.zero_mul, snapV_one, snap_hsl, snapHsl, snap_href, snapHref, snap_ps, noBlk]
    exact ⟨rfl, rfl⟩
  · rintro k env blk hk ⟨h1, hB, h4, h3⟩
    by_cases hlt : k < ls.length
    · have hi : (ls.map Let.ps)[k]? = some (ls[k].ps) := by simp [hlt]
      have hlt' : ((k : Int) < (ls.length : Int)) := by omega
      have hc := cnt_succ ls k hlt
      have hb := cnt_take_le ls k
      have w1 := wrap_succ (n := k) (by omega)
      have w2 := wrap_succ (n := cnt (ls.take k)) (by omega)
      simp only [W_seq_iff, W_seq_text, WN_cons_iff, WN_nil_iff, W_ret_iff, W_skip_iff, W_cond_iff, W_block_iff, W_exit_iff, thenQ_normal, thenQ_ret, thenQ_exit, blockQ_normal, blockQ_ret, blockQ_exit, condW_bool, goWN_true, goWN_false, goPN_done, wanted_none, wanted_some, wantV_bool, wantV_undef, plan, ev_t, ev_i, ev_b, ev_k, put_some, put_none, upd_apply, ienv_zero, ienv_succ, binV, binInt, eqV, app, List.map_nil, List.append_nil, List.map_cons, Al.all_oks, true_and, and_true, true_or, if_true, if_false, Option.map_some, reduceIte, Nat.reduceEqDiff, decide_true, decide_false, beq_self_eq_true, reduceCtorEq, ge_iff_le, Bool.false_eq_true, Bool.not_true, Bool.not_false, endQ_ret1, endQ_normal1, ret1_one, ret1_agg, outV_p, norm_int, norm_bool, norm_str, norm_nils, norm_sl, norm_box, norm_fn, norm_nilp, norm_nilf, norm_nilm, norm_mp, snapVs_nil, snapVs_cons, snapCons_some, snapV_p, fnOf, bft, btf, bff, btt, Nat.reduceAdd, List.cons_append, List.nil_append, Bool.and_true, Bool.and_false, Bool.true_and, Bool.false_and, asN_nat, rdAt, takeV, wrAt, splice, cellsV, lenL, List.drop_zero, List.take_zero, List.length_cons, List.length_nil, List.take_succ_cons, Nat.le_refl, ne_eq, not_true_eq_false, and_self, List.drop_nil, Nat.zero_add, Nat.reduceLeDiff, List.drop_succ_cons, not_false_eq_true, List.length_map, snap_p, consR_some, collect_nil, collect_cons, snapV_agg, W_draw, WO_cons_iff, WO_nil_iff, goW_true, goW_false, goP_done, partsV, elemsV, toPss, toPs, toP, fill, List.take_nil, asN_lit, Nat.reduceMul, Nat.reduceLT, Nat.mul_one, Nat.zero_mul, snapV_one, snap_hsl, snapHsl, snap_href, snapHref, snap_ps, h1, hB, h4, h3, hi, hlt', Let.ps, w1, w2]
      split
      · rename_i h; rw [if_pos h] at hc; exact ⟨hlt, by rw [hc]⟩
      · rename_i h; rw [if_neg h] at hc; exact ⟨hlt, by rw [hc]; rfl⟩
    · have : k = ls.length := by omega
      subst this
      have hlt' : ¬ ((ls.length : Int) < (ls.length : Int)) := by omega
      simp only [W_seq_iff, W_seq_text, WN_cons_iff, WN_nil_iff, W_ret_iff, W_skip_iff, W_cond_iff, W_block_iff, W_exit_iff, thenQ_normal, thenQ_ret, thenQ_exit, blockQ_normal, blockQ_ret, blockQ_exit, condW_bool, goWN_true, goWN_false, goPN_done, wanted_none, wanted_some, wantV_bool, wantV_undef, plan, ev_t, ev_i, ev_b, ev_k, put_some, put_none, upd_apply, ienv_zero, ienv_succ, binV, binInt, eqV, app, List.map_nil, List.append_nil, List.map_cons, Al.all_oks, true_and, and_true, true_or, if_true, if_false, Option.map_some, reduceIte, Nat.reduceEqDiff, decide_true, decide_false, beq_self_eq_true, reduceCtorEq, ge_iff_le, Bool.false_eq_true, Bool.not_true, Bool.not_false, endQ_ret1, endQ_normal1, ret1_one, ret1_agg, outV_p, norm_int, norm_bool, norm_str, norm_nils, norm_sl, norm_box, norm_fn, norm_nilp, norm_nilf, norm_nilm, norm_mp, snapVs_nil, snapVs_cons, snapCons_some, snapV_p, fnOf, bft, btf, bff, btt, Nat.reduceAdd, List.cons_append, List.nil_append, Bool.and_true, Bool.and_false, Bool.true_and, Bool.false_and, asN_nat, rdAt, takeV, wrAt, splice, cellsV, lenL, List.drop_zero, List.take_zero, List.length_cons, List.length_nil, List.take_succ_cons, Nat.le_refl, ne_eq, not_true_eq_false, and_self, List.drop_nil, Nat.zero_add, Nat.reduceLeDiff, List.drop_succ_cons, not_false_eq_true, List.length_map, snap_p, consR_some, collect_nil, collect_cons, snapV_agg, W_draw, WO_cons_iff, WO_nil_iff, goW_true, goW_false, goP_done, partsV, elemsV, toPss, toPs, toP, fill, List.take_nil, asN_lit, Nat.reduceMul, Nat.reduceLT, Nat.mul_one, Nat.zero_mul, snapV_one, snap_hsl, snapHsl, snap_href, snapHref, snap_ps, h1, hB, h4, h3, hlt', List.take_length]

def cmpI (a b : Int) : Int := if a < b then -1 else if b < a then 1 else 0
def ordL : List (Int × Int) → Int
  | [] => 0
  | (a, b) :: r => if cmpI a b = 0 then ordL r else cmpI a b
theorem cmpI_zero {a b : Int} : cmpI a b = 0 ↔ a = b := by
  unfold cmpI
  split
  · simp; omega
  · split
    · simp; omega
    · simp; omega

theorem number67 (a b : Int) : PEv S 67 [.one (.p (.int .i64 a)), .one (.p (.int .i64 b))] (.one (.p (.int .i64 (cmpI a b)))) := by
  refine PEv_fn rfl (S_fns4 c67) (Nat.le_of_ble_eq_true rfl) ?_
  by_cases h1 : a < b <;> by_cases h2 : b < a <;> simp only [W_seq_iff, W_seq_text, WN_cons_iff, WN_nil_iff, W_ret_iff, W_skip_iff, W_cond_iff, W_block_iff, W_exit_iff, thenQ_normal, thenQ_ret, thenQ_exit, blockQ_normal, blockQ_ret, blockQ_exit, condW_bool, goWN_true, goWN_false, goPN_done, wanted_none, wanted_some, wantV_bool, wantV_undef, plan, ev_t, ev_i, ev_b, ev_k, put_some, put_none, upd_apply, ienv_zero, ienv_succ, binV, binInt, eqV, app, List.map_nil, List.append_nil, List.map_cons, Al.all_oks, true_and, and_true, true_or, if_true, if_false, Option.map_some, reduceIte, Nat.reduceEqDiff, decide_true, decide_false, beq_self_eq_true, reduceCtorEq, ge_iff_le, Bool.false_eq_true, Bool.not_true, Bool.not_false, endQ_ret1, endQ_normal1, ret1_one, ret1_agg, outV_p, norm_int, norm_bool, norm_str, norm_nils, norm_sl, norm_box, norm_fn, norm_nilp, norm_nilf, norm_nilm, norm_mp, snapVs_nil, snapVs_cons, snapCons_some, snapV_p, fnOf, bft, btf, bff, btt, Nat.reduceAdd, List.cons_append, List.nil_append, Bool.and_true, Bool.and_false, Bool.true_and, Bool.false_and, asN_nat, rdAt, takeV, wrAt, splice, cellsV, lenL, List.drop_zero, List.take_zero, List.length_cons, List.length_nil, List.take_succ_cons, Nat.le_refl, ne_eq, not_true_eq_false, and_self, List.drop_nil, Nat.zero_add, Nat.reduceLeDiff, List.drop_succ_cons, not_false_eq_true, List.length_map, snap_p, consR_some, collect_nil, collect_cons, snapV_agg, W_draw, WO_cons_iff, WO_nil_iff, goW_true, goW_false, goP_done, partsV, elemsV, toPss, toPs, toP, fill, List.take_nil, asN_lit, Nat.reduceMul, Nat.reduceLT, Nat.mul_one, Nat.zero_mul, snapV_one, snap_hsl, snapHsl, snap_href, snapHref, snap_ps, i67, h1, h2, cmpI]
theorem number66 (b : Bool) : PEv S 66 [.one (.p (.bool b))] (.one (.p (.int .i64 (if b = true then 1 else 0)))) := by
  refine PEv_fn rfl (S_fns4 c66) (Nat.le_of_ble_eq_true rfl) ?_
  cases b <;> simp only [W_seq_iff, W_seq_text, WN_cons_iff, WN_nil_iff, W_ret_iff, W_skip_iff, W_cond_iff, W_block_iff, W_exit_iff, thenQ_normal, thenQ_ret, thenQ_exit, blockQ_normal, blockQ_ret, blockQ_exit, condW_bool, goWN_true, goWN_false, goPN_done, wanted_none, wanted_some, wantV_bool, wantV_undef, plan, ev_t, ev_i, ev_b, ev_k, put_some, put_none, upd_apply, ienv_zero, ienv_succ, binV, binInt, eqV, app, List.map_nil, List.append_nil, List.map_cons, Al.all_oks, true_and, and_true, true_or, if_true, if_false, Option.map_some, reduceIte, Nat.reduceEqDiff, decide_true, decide_false, beq_self_eq_true, reduceCtorEq, ge_iff_le, Bool.false_eq_true, Bool.not_true, Bool.not_false, endQ_ret1, endQ_normal1, ret1_one, ret1_agg, outV_p, norm_int, norm_bool, norm_str, norm_nils, norm_sl, norm_box, norm_fn, norm_nilp, norm_nilf, norm_nilm, norm_mp, snapVs_nil, snapVs_cons, snapCons_some, snapV_p, fnOf, bft, btf, bff, btt, Nat.reduceAdd, List.cons_append, List.nil_append, Bool.and_true, Bool.and_false, Bool.true_and, Bool.false_and, asN_nat, rdAt, takeV, wrAt, splice, cellsV, lenL, List.drop_zero, List.take_zero, List.length_cons, List.length_nil, List.take_succ_cons, Nat.le_refl, ne_eq, not_true_eq_false, and_self, List.drop_nil, Nat.zero_add, Nat.reduceLeDiff, List.drop_succ_cons, not_false_eq_true, List.length_map, snap_p, consR_some, collect_nil, collect_cons, snapV_agg, W_draw, WO_cons_iff, WO_nil_iff, goW_true, goW_false, goP_done, partsV, elemsV, toPss, toPs, toP, fill, List.take_nil, asN_lit, Nat.reduceMul, Nat.reduceLT, Nat.mul_one, Nat.zero_mul, snapV_one, snap_hsl, snapHsl, snap_href, snapHref, snap_ps, i66]
theorem flag69 (b : Bool) : PEv S 69 [.one (.p (.bool b))] (.one (.p (.int .i64 (if b = true then 1 else 0)))) := by
  refine PEv_fn rfl (S_fns4 c69) (Nat.le_of_ble_eq_true rfl) ?_
  cases b <;> simp only [W_seq_iff, W_seq_text, WN_cons_iff, WN_nil_iff, W_ret_iff, W_skip_iff, W_cond_iff, W_block_iff, W_exit_iff, thenQ_normal, thenQ_ret, thenQ_exit, blockQ_normal, blockQ_ret, blockQ_exit, condW_bool, goWN_true, goWN_false, goPN_done, wanted_none, wanted_some, wantV_bool, wantV_undef, plan, ev_t, ev_i, ev_b, ev_k, put_some, put_none, upd_apply, ienv_zero, ienv_succ, binV, binInt, eqV, app, List.map_nil, List.append_nil, List.map_cons, Al.all_oks, true_and, and_true, true_or, if_true, if_false, Option.map_some, reduceIte, Nat.reduceEqDiff, decide_true, decide_false, beq_self_eq_true, reduceCtorEq, ge_iff_le, Bool.false_eq_true, Bool.not_true, Bool.not_false, endQ_ret1, endQ_normal1, ret1_one, ret1_agg, outV_p, norm_int, norm_bool, norm_str, norm_nils, norm_sl, norm_box, norm_fn, norm_nilp, norm_nilf, norm_nilm, norm_mp, snapVs_nil, snapVs_cons, snapCons_some, snapV_p, fnOf, bft, btf, bff, btt, Nat.reduceAdd, List.cons_append, List.nil_append, Bool.and_true, Bool.and_false, Bool.true_and, Bool.false_and, asN_nat, rdAt, takeV, wrAt, splice, cellsV, lenL, List.drop_zero, List.take_zero, List.length_cons, List.length_nil, List.take_succ_cons, Nat.le_refl, ne_eq, not_true_eq_false, and_self, List.drop_nil, Nat.zero_add, Nat.reduceLeDiff, List.drop_succ_cons, not_false_eq_true, List.length_map, snap_p, consR_some, collect_nil, collect_cons, snapV_agg, W_draw, WO_cons_iff, WO_nil_iff, goW_true, goW_false, goP_done, partsV, elemsV, toPss, toPs, toP, fill, List.take_nil, asN_lit, Nat.reduceMul, Nat.reduceLT, Nat.mul_one, Nat.zero_mul, snapV_one, snap_hsl, snapHsl, snap_href, snapHref, snap_ps, i69]
end Go.Abs
namespace Go.Abs
set_option maxRecDepth 100000
def prP (p : Int × Int) : List PV := [.int .i64 p.1, .int .i64 p.2]

theorem ordL_drop (l : List (Int × Int)) (k : Nat) (h : k < l.length) (hz : ∀ p ∈ l.take k, p.1 = p.2) : ordL l = ordL (l.drop k) := by
  induction l generalizing k with
  | nil => simp at h
  | cons p l ih =>
    cases k with
    | zero => rfl
    | succ k =>
      have h0 := hz p (by simp)
      simp only [ordL, List.drop_succ_cons]
      rw [if_pos (cmpI_zero.2 h0)]
      exact ih k (by simpa using h) (fun q hq => hz q (by simp [hq]))

theorem ordL_all (l : List (Int × Int)) (hz : ∀ p ∈ l, p.1 = p.2) : ordL l = 0 := by
  induction l with
  | nil => rfl
  | cons p l ih =>
    obtain ⟨a, b⟩ := p
    simp only [ordL]
    rw [if_pos (cmpI_zero.2 (hz (a, b) (by simp)))]
    exact ih fun q hq => hz q (by simp [hq])

theorem order64 (l : List (Int × Int)) (hl : l.length ≤ 1000) : PEv S 64 [.one (.p (.sl (l.map prP)))] (.one (.p (.int .i64 (ordL l)))) := by
  refine PEv_fn rfl (S_fns4 c64) (Nat.le_of_ble_eq_true rfl) ?_
  simp only [W_seq_iff, W_seq_text, WN_cons_iff, WN_nil_iff, W_ret_iff, W_skip_iff, W_cond_iff, W_block_iff, W_exit_iff, thenQ_normal, thenQ_ret, thenQ_exit, blockQ_normal, blockQ_ret, blockQ_exit, condW_bool, goWN_true, goWN_false, goPN_done, wanted_none, wanted_some, wantV_bool, wantV_undef, plan, ev_t, ev_i, ev_b, ev_k, put_some, put_none, upd_apply, ienv_zero, ienv_succ, binV, binInt, eqV, app, List.map_nil, List.append_nil, List.map_cons, Al.all_oks, true_and, and_true, true_or, if_true, if_false, Option.map_some, reduceIte, Nat.reduceEqDiff, decide_true, decide_false, beq_self_eq_true, reduceCtorEq, ge_iff_le, Bool.false_eq_true, Bool.not_true, Bool.not_false, endQ_ret1, endQ_normal1, ret1_one, ret1_agg, outV_p, norm_int, norm_bool, norm_str, norm_nils, norm_sl, norm_box, norm_fn, norm_nilp, norm_nilf, norm_nilm, norm_mp, snapVs_nil, snapVs_cons, snapCons_some, snapV_p, fnOf, bft, btf, bff, btt, Nat.reduceAdd, List.cons_append, List.nil_append, Bool.and_true, Bool.and_false, Bool.true_and, Bool.false_and, asN_nat, rdAt, takeV, wrAt, splice, cellsV, lenL, List.drop_zero, List.take_zero, List.length_cons, List.length_nil, List.take_succ_cons, Nat.le_refl, ne_eq, not_true_eq_false, and_self, List.drop_nil, Nat.zero_add, Nat.reduceLeDiff, List.drop_succ_cons, not_false_eq_true, List.length_map, snap_p, consR_some, collect_nil, collect_cons, snapV_agg, W_draw, WO_cons_iff, WO_nil_iff, goW_true, goW_false, goP_done, partsV, elemsV, toPss, toPs, toP, fill, List.take_nil, asN_lit, Nat.reduceMul, Nat.reduceLT, Nat.mul_one, Nat.zero_mul, snapV_one, snap_hsl, snapHsl, snap_href, snapHref, snap_ps, i64]
  refine W_for (fun k env _ => env 5 = .one (.p (.sl (l.map prP))) ∧ env 6 = .one (.p (.int .i64 l.length)) ∧ env 7 = .one (.p (.int .i64 k)) ∧ ∀ p ∈ l.take k, p.1 = p.2) 0 l.length (Nat.zero_le _) ?_ ?_
  · simp only [W_seq_iff, W_seq_text, WN_cons_iff, WN_nil_iff, W_ret_iff, W_skip_iff, W_cond_iff, W_block_iff, W_exit_iff, thenQ_normal, thenQ_ret, thenQ_exit, blockQ_normal, blockQ_ret, blockQ_exit, condW_bool, goWN_true, goWN_false, goPN_done, wanted_none, wanted_some, wantV_bool, wantV_undef, plan, ev_t, ev_i, ev_b, ev_k, put_some, put_none, upd_apply, ienv_zero, ienv_succ, binV, binInt, eqV, app, List.map_nil, List.append_nil, List.map_cons, Al.all_oks, true_and, and_true, true_or, if_true, if_false, Option.map_some, reduceIte, Nat.reduceEqDiff, decide_true, decide_false, beq_self_eq_true, reduceCtorEq, ge_iff_le, Bool.false_eq_true, Bool.not_true, Bool.not_false, endQ_ret1, endQ_normal1, ret1_one, ret1_agg, outV_p, norm_int, norm_bool, norm_str, norm_nils, norm_sl, norm_box, norm_fn, norm_nilp, norm_nilf, norm_nilm, norm_mp, snapVs_nil, snapVs_cons, snapCons_some, snapV_p, fnOf, bft, btf, bff, btt, Nat.reduceAdd, List.cons_append, List.nil_append, Bool.and_true, Bool.and_false, Bool.true_and, Bool.false_and, asN_nat, rdAt, takeV, wrAt, splice, cellsV, lenL, List.drop_zero, List.take_zero, List.length_cons, List.length_nil, List.take_succ_cons, Nat.le_refl, ne_eq, not_true_eq_false, and_self, List.drop_nil, Nat.zero_add, Nat.reduceLeDiff, List.drop_succ_cons, not_false_eq_true, List.length_map, snap_p, consR_some, collect_nil, collect_cons, snapV_agg, W_draw, WO_cons_iff, WO_nil_iff, goW_true, goW_false, goP_done, partsV, elemsV, toPss, toPs, toP, fill, List.take_nil, asN_lit, Nat.reduceMul, Nat.reduceLT, Nat.mul_one, Nat.zero_mul, snapV_one, snap_hsl, snapHsl, snap_href, snapHref, snap_ps]
    exact ⟨rfl, fun p hp => by simp at hp⟩
  · rintro k env blk hk ⟨h5, h6, h7, hz⟩
    by_cases hlt : k < l.length
    · have hi : (l.map prP)[k]? = some (prP l[k]) := by simp [hlt]
      have hlt' : ((k : Int) < (l.length : Int)) := by omega
      have w1 := wrap_succ (n := k) (by omega)
      have ho := ordL_drop l k hlt hz
      have hd : l.drop k = l[k] :: l.drop (k + 1) := by rw [List.drop_eq_getElem_cons hlt]
      rw [hd, ordL] at ho
      have ht : l.take (k + 1) = l.take k ++ [l[k]] := by rw [List.take_succ_eq_append_getElem hlt]
      by_cases he : l[k].1 = l[k].2
      · have he' : (l[k].1 != l[k].2) = false := by simp [he]
        simp only [W_seq_iff, W_seq_text, WN_cons_iff, WN_nil_iff, W_ret_iff, W_skip_iff, W_cond_iff, W_block_iff, W_exit_iff, thenQ_normal, thenQ_ret, thenQ_exit, blockQ_normal, blockQ_ret, blockQ_exit, condW_bool, goWN_true, goWN_false, goPN_done, wanted_none, wanted_some, wantV_bool, wantV_undef, plan, ev_t, ev_i, ev_b, ev_k, put_some, put_none, upd_apply, ienv_zero, ienv_succ, binV, binInt, eqV, app, List.map_nil, List.append_nil, List.map_cons, Al.all_oks, true_and, and_true, true_or, if_true, if_false, Option.map_some, reduceIte, Nat.reduceEqDiff, decide_true, decide_false, beq_self_eq_true, reduceCtorEq, ge_iff_le, Bool.false_eq_true, Bool.not_true, Bool.not_false, endQ_ret1, endQ_normal1, ret1_one, ret1_agg, outV_p, norm_int, norm_bool, norm_str, norm_nils, norm_sl, norm_box, norm_fn, norm_nilp, norm_nilf, norm_nilm, norm_mp, snapVs_nil, snapVs_cons, snapCons_some, snapV_p, fnOf, bft, btf, bff, btt, Nat.reduceAdd, List.cons_append, List.nil_append, Bool.and_true, Bool.and_false, Bool.true_and, Bool.false_and, asN_nat, rdAt, takeV, wrAt, splice, cellsV, lenL, List.drop_zero, List.take_zero, List.length_cons, List.length_nil, List.take_succ_cons, Nat.le_refl, ne_eq, not_true_eq_false, and_self, List.drop_nil, Nat.zero_add, Nat.reduceLeDiff, List.drop_succ_cons, not_false_eq_true, List.length_map, snap_p, consR_some, collect_nil, collect_cons, snapV_agg, W_draw, WO_cons_iff, WO_nil_iff, goW_true, goW_false, goP_done, partsV, elemsV, toPss, toPs, toP, fill, List.take_nil, asN_lit, Nat.reduceMul, Nat.reduceLT, Nat.mul_one, Nat.zero_mul, snapV_one, snap_hsl, snapHsl, snap_href, snapHref, snap_ps, h5, h6, h7, hi, hlt', prP, he', w1]
        refine ⟨hlt, fun p hp => ?_⟩
        rw [ht, List.mem_append] at hp
        rcases hp with hp | hp
        · exact hz p hp
        · simp at hp; subst hp; exact he
      · have he' : (l[k].1 != l[k].2) = true := by simp [he]
        rw [if_neg (fun h => he (cmpI_zero.1 h))] at ho
        unfold cmpI at ho
        by_cases hb : l[k].1 < l[k].2
        · rw [if_pos hb] at ho
          simp only [W_seq_iff, W_seq_text, WN_cons_iff, WN_nil_iff, W_ret_iff, W_skip_iff, W_cond_iff, W_block_iff, W_exit_iff, thenQ_normal, thenQ_ret, thenQ_exit, blockQ_normal, blockQ_ret, blockQ_exit, condW_bool, goWN_true, goWN_false, goPN_done, wanted_none, wanted_some, wantV_bool, wantV_undef, plan, ev_t, ev_i, ev_b, ev_k, put_some, put_none, upd_apply, ienv_zero, ienv_succ, binV, binInt, eqV, app, List.map_nil, List.append_nil, List.map_cons, Al.all_oks, true_and, and_true, true_or, if_true, if_false, Option.map_some, reduceIte, Nat.reduceEqDiff, decide_true, decide_false, beq_self_eq_true, reduceCtorEq, ge_iff_le, Bool.false_eq_true, Bool.not_true, Bool.not_false, endQ_ret1, endQ_normal1, ret1_one, ret1_agg, outV_p, norm_int, norm_bool, norm_str, norm_nils, norm_sl, norm_box, norm_fn, norm_nilp, norm_nilf, norm_nilm, norm_mp, snapVs_nil, snapVs_cons, snapCons_some, snapV_p, fnOf, bft, btf, bff, btt, Nat.reduceAdd, List.cons_append, List.nil_append, Bool.and_true, Bool.and_false, Bool.true_and, Bool.false_and, asN_nat, rdAt, takeV, wrAt, splice, cellsV, lenL, List.drop_zero, List.take_zero, List.length_cons, List.length_nil, List.take_succ_cons, Nat.le_refl, ne_eq, not_true_eq_false, and_self, List.drop_nil, Nat.zero_add, Nat.reduceLeDiff, List.drop_succ_cons, not_false_eq_true, List.length_map, snap_p, consR_some, collect_nil, collect_cons, snapV_agg, W_draw, WO_cons_iff, WO_nil_iff, goW_true, goW_false, goP_done, partsV, elemsV, toPss, toPs, toP, fill, List.take_nil, asN_lit, Nat.reduceMul, Nat.reduceLT, Nat.mul_one, Nat.zero_mul, snapV_one, snap_hsl, snapHsl, snap_href, snapHref, snap_ps, h5, h6, h7, hi, hlt', prP, he', w1, hb, ho]
        · rw [if_neg hb, if_pos (by omega)] at ho
          simp only [W_seq_iff, W_seq_text, WN_cons_iff, WN_nil_iff, W_ret_iff, W_skip_iff, W_cond_iff, W_block_iff, W_exit_iff, thenQ_normal, thenQ_ret, thenQ_exit, blockQ_normal, blockQ_ret, blockQ_exit, condW_bool, goWN_true, goWN_false, goPN_done, wanted_none, wanted_some, wantV_bool, wantV_undef, plan, ev_t, ev_i, ev_b, ev_k, put_some, put_none, upd_apply, ienv_zero, ienv_succ, binV, binInt, eqV, app, List.map_nil, List.append_nil, List.map_cons, Al.all_oks, true_and, and_true, true_or, if_true, if_false, Option.map_some, reduceIte, Nat.reduceEqDiff, decide_true, decide_false, beq_self_eq_true, reduceCtorEq, ge_iff_le, Bool.false_eq_true, Bool.not_true, Bool.not_false, endQ_ret1, endQ_normal1, ret1_one, ret1_agg, outV_p, norm_int, norm_bool, norm_str, norm_nils, norm_sl, norm_box, norm_fn, norm_nilp, norm_nilf, norm_nilm, norm_mp, snapVs_nil, snapVs_cons, snapCons_some, snapV_p, fnOf, bft, btf, bff, btt, Nat.reduceAdd, List.cons_append, List.nil_append, Bool.and_true, Bool.and_false, Bool.true_and, Bool.false_and, asN_nat, rdAt, takeV, wrAt, splice, cellsV, lenL, List.drop_zero, List.take_zero, List.length_cons, List.length_nil, List.take_succ_cons, Nat.le_refl, ne_eq, not_true_eq_false, and_self, List.drop_nil, Nat.zero_add, Nat.reduceLeDiff, List.drop_succ_cons, not_false_eq_true, List.length_map, snap_p, consR_some, collect_nil, collect_cons, snapV_agg, W_draw, WO_cons_iff, WO_nil_iff, goW_true, goW_false, goP_done, partsV, elemsV, toPss, toPs, toP, fill, List.take_nil, asN_lit, Nat.reduceMul, Nat.reduceLT, Nat.mul_one, Nat.zero_mul, snapV_one, snap_hsl, snapHsl, snap_href, snapHref, snap_ps, h5, h6, h7, hi, hlt', prP, he', w1, hb, ho]
    · have : k = l.length := by omega
      subst this
      have hlt' : ¬ ((l.length : Int) < (l.length : Int)) := by omega
      rw [List.take_length] at hz
      simp only [W_seq_iff, W_seq_text, WN_cons_iff, WN_nil_iff, W_ret_iff, W_skip_iff, W_cond_iff, W_block_iff, W_exit_iff, thenQ_normal, thenQ_ret, thenQ_exit, blockQ_normal, blockQ_ret, blockQ_exit, condW_bool, goWN_true, goWN_false, goPN_done, wanted_none, wanted_some, wantV_bool, wantV_undef, plan, ev_t, ev_i, ev_b, ev_k, put_some, put_none, upd_apply, ienv_zero, ienv_succ, binV, binInt, eqV, app, List.map_nil, List.append_nil, List.map_cons, Al.all_oks, true_and, and_true, true_or, if_true, if_false, Option.map_some, reduceIte, Nat.reduceEqDiff, decide_true, decide_false, beq_self_eq_true, reduceCtorEq, ge_iff_le, Bool.false_eq_true, Bool.not_true, Bool.not_false, endQ_ret1, endQ_normal1, ret1_one, ret1_agg, outV_p, norm_int, norm_bool, norm_str, norm_nils, norm_sl, norm_box, norm_fn, norm_nilp, norm_nilf, norm_nilm, norm_mp, snapVs_nil, snapVs_cons, snapCons_some, snapV_p, fnOf, bft, btf, bff, btt, Nat.reduceAdd, List.cons_append, List.nil_append, Bool.and_true, Bool.and_false, Bool.true_and, Bool.false_and, asN_nat, rdAt, takeV, wrAt, splice, cellsV, lenL, List.drop_zero, List.take_zero, List.length_cons, List.length_nil, List.take_succ_cons, Nat.le_refl, ne_eq, not_true_eq_false, and_self, List.drop_nil, Nat.zero_add, Nat.reduceLeDiff, List.drop_succ_cons, not_false_eq_true, List.length_map, snap_p, consR_some, collect_nil, collect_cons, snapV_agg, W_draw, WO_cons_iff, WO_nil_iff, goW_true, goW_false, goP_done, partsV, elemsV, toPss, toPs, toP, fill, List.take_nil, asN_lit, Nat.reduceMul, Nat.reduceLT, Nat.mul_one, Nat.zero_mul, snapV_one, snap_hsl, snapHsl, snap_href, snapHref, snap_ps, h5, h6, h7, hlt', ordL_all l hz]

def bI (b : Bool) : Int := if b = true then 1 else 0
def Let.key (x y : Let) : List (Int × Int) := [(x.kind, y.kind), (x.gate, y.gate), (x.rank, y.rank), (x.id, y.id), (bI x.over, bI y.over), (x.sign, y.sign)]
def cmpC (f : Int) (a : List Let) (g : Int) (b : List Let) : Int :=
  let o := ordL [(f, g), ((cnt a : Int), (cnt b : Int)), ((a.length : Int), (b.length : Int))]
  if o = 0 then ordL ((a.zip b).flatMap fun p => p.1.key p.2) else o

theorem ordL_append (l r : List (Int × Int)) : ordL (l ++ r) = if ordL l = 0 then ordL r else ordL l := by
  induction l with
  | nil => simp [ordL]
  | cons p l ih =>
    obtain ⟨a, b⟩ := p
    simp only [List.cons_append, ordL, ih]
    split
    · rfl
    · rfl

theorem key_prefix (a b : List Let) (k : Nat) (hk : k < a.length) (hkb : k < b.length) : ((a.zip b).take (k + 1)).flatMap (fun p => p.1.key p.2) = ((a.zip b).take k).flatMap (fun p => p.1.key p.2) ++ a[k].key b[k] := by
  have hz : k < (a.zip b).length := by simp; omega
  rw [List.take_succ_eq_append_getElem hz, List.flatMap_append]
  simp

theorem key_rest (a b : List Let) (k : Nat) (hk : k < a.length) (hkb : k < b.length) (h : ordL (((a.zip b).take k).flatMap (fun p => p.1.key p.2)) = 0) :
    ordL (((a.zip b).take (k + 1)).flatMap (fun p => p.1.key p.2)) = ordL (a[k].key b[k]) ∧ (ordL (a[k].key b[k]) ≠ 0 → ordL ((a.zip b).flatMap (fun p => p.1.key p.2)) = ordL (a[k].key b[k])) := by
  have h1 : ordL (((a.zip b).take (k + 1)).flatMap (fun p => p.1.key p.2)) = ordL (a[k].key b[k]) := by
    rw [key_prefix a b k hk hkb, ordL_append, if_pos h]
  refine ⟨h1, fun hne => ?_⟩
  have : (a.zip b).flatMap (fun p => p.1.key p.2) = ((a.zip b).take (k + 1)).flatMap (fun p => p.1.key p.2) ++ ((a.zip b).drop (k + 1)).flatMap (fun p => p.1.key p.2) := by
    rw [← List.flatMap_append, List.take_append_drop]
  rw [this, ordL_append, h1, if_neg hne]

set_option maxHeartbeats 1000000 in
theorem compare20 (f g : Int) (a b : List Let) (ha : a.length ≤ 1000) (hb : b.length ≤ 1000) : PEv S 20 [codeV f a, codeV g b] (.one (.p (.int .i64 (cmpC f a g b)))) := by
  have p65a := crosses65 f a ha
  have p65b := crosses65 g b hb
  have p64 := order64 [(f, g), ((cnt a : Int), (cnt b : Int)), ((a.length : Int), (b.length : Int))] (Nat.le_of_ble_eq_true rfl)
  simp only [List.map_cons, List.map_nil, prP] at p64
  have s65 : S.shared 65 = false := by kernel_rfl
  have s64 : S.shared 64 = false := by kernel_rfl
  have s66 : S.shared 66 = false := by kernel_rfl
  refine PEv_fn rfl (S_fns4 c20) (Nat.le_of_ble_eq_true rfl) ?_
  simp only [W_seq_iff, W_seq_text, WN_cons_iff, WN_nil_iff, W_ret_iff, W_skip_iff, W_cond_iff, W_block_iff, W_exit_iff, thenQ_normal, thenQ_ret, thenQ_exit, blockQ_normal, blockQ_ret, blockQ_exit, condW_bool, goWN_true, goWN_false, goPN_done, wanted_none, wanted_some, wantV_bool, wantV_undef, plan, ev_t, ev_i, ev_b, ev_k, put_some, put_none, upd_apply, ienv_zero, ienv_succ, binV, binInt, eqV, app, List.map_nil, List.append_nil, List.map_cons, Al.all_oks, true_and, and_true, true_or, if_true, if_false, Option.map_some, reduceIte, Nat.reduceEqDiff, decide_true, decide_false, beq_self_eq_true, reduceCtorEq, ge_iff_le, Bool.false_eq_true, Bool.not_true, Bool.not_false, endQ_ret1, endQ_normal1, ret1_one, ret1_agg, outV_p, norm_int, norm_bool, norm_str, norm_nils, norm_sl, norm_box, norm_fn, norm_nilp, norm_nilf, norm_nilm, norm_mp, snapVs_nil, snapVs_cons, snapCons_some, snapV_p, fnOf, bft, btf, bff, btt, Nat.reduceAdd, List.cons_append, List.nil_append, Bool.and_true, Bool.and_false, Bool.true_and, Bool.false_and, asN_nat, rdAt, takeV, wrAt, splice, cellsV, lenL, List.drop_zero, List.take_zero, List.length_cons, List.length_nil, List.take_succ_cons, Nat.le_refl, ne_eq, not_true_eq_false, and_self, List.drop_nil, Nat.zero_add, Nat.reduceLeDiff, List.drop_succ_cons, not_false_eq_true, List.length_map, snap_p, consR_some, collect_nil, collect_cons, snapV_agg, W_draw, WO_cons_iff, WO_nil_iff, goW_true, goW_false, goP_done, partsV, elemsV, toPss, toPs, toP, fill, List.take_nil, asN_lit, Nat.reduceMul, Nat.reduceLT, Nat.mul_one, Nat.zero_mul, snapV_one, snap_hsl, snapHsl, snap_href, snapHref, snap_ps, i20, s65, s64, noBlk, goP_int p65a, goP_int p65b, plan, goP_int p64, prP]
  refine ⟨by kernel_rfl, ?_⟩
  by_cases ho : ordL [(f, g), ((cnt a : Int), (cnt b : Int)), ((a.length : Int), (b.length : Int))] = 0
  case neg =>
    rw [if_pos (by simpa using ho)]
    unfold cmpC
    rw [if_neg ho]
  case pos =>
    rw [if_neg (by simpa using ho)]
    have hlen : a.length = b.length := by
      simp only [ordL] at ho
      repeat' split at ho
      all_goals first
        | (rename_i h; have := cmpI_zero.1 h; omega)
        | (exfalso; rename_i h; exact h ho)
        | (exfalso; rename_i h _; exact h ho)
    have hC : cmpC f a g b = ordL ((a.zip b).flatMap fun p => p.1.key p.2) := by unfold cmpC; rw [if_pos ho]
    rw [hC]
    refine W_for (fun k env blk => env 3 = .one (.href 1280000064 1 0) ∧ blk 1280000064 = (1, some (.var [.p (.int .i64 g), .p (.sl (b.map Let.ps))])) ∧ env 33 = .one (.p (.sl (a.map Let.ps))) ∧ env 34 = .one (.p (.int .i64 a.length)) ∧ env 35 = .one (.p (.int .i64 k)) ∧ ordL (((a.zip b).take k).flatMap (fun p => p.1.key p.2)) = 0) 0 a.length (Nat.zero_le _) ?_ ?_
    · simp only [W_seq_iff, W_seq_text, WN_cons_iff, WN_nil_iff, W_ret_iff, W_skip_iff, W_cond_iff, W_block_iff, W_exit_iff, thenQ_normal, thenQ_ret, thenQ_exit, blockQ_normal, blockQ_ret, blockQ_exit, condW_bool, goWN_true, goWN_false, goPN_done, wanted_none, wanted_some, wantV_bool, wantV_undef, plan, ev_t, ev_i, ev_b, ev_k, put_some, put_none, upd_apply, ienv_zero, ienv_succ, binV, binInt, eqV, app, List.map_nil, List.append_nil, List.map_cons, Al.all_oks, true_and, and_true, true_or, if_true, if_false, Option.map_some, reduceIte, Nat.reduceEqDiff, decide_true, decide_false, beq_self_eq_true, reduceCtorEq, ge_iff_le, Bool.false_eq_true, Bool.not_true, Bool.not_false, endQ_ret1, endQ_normal1, ret1_one, ret1_agg, outV_p, norm_int, norm_bool, norm_str, norm_nils, norm_sl, norm_box, norm_fn, norm_nilp, norm_nilf, norm_nilm, norm_mp, snapVs_nil, snapVs_cons, snapCons_some, snapV_p, fnOf, bft, btf, bff, btt, Nat.reduceAdd, List.cons_append, List.nil_append, Bool.and_true, Bool.and_false, Bool.true_and, Bool.false_and, asN_nat, rdAt, takeV, wrAt, splice, cellsV, lenL, List.drop_zero, List.take_zero, List.length_cons, List.length_nil, List.take_succ_cons, Nat.le_refl, ne_eq, not_true_eq_false, and_self, List.drop_nil, Nat.zero_add, Nat.reduceLeDiff, List.drop_succ_cons, not_false_eq_true, List.length_map, snap_p, consR_some, collect_nil, collect_cons, snapV_agg, W_draw, WO_cons_iff, WO_nil_iff, goW_true, goW_false, goP_done, partsV, elemsV, toPss, toPs, toP, fill, List.take_nil, asN_lit, Nat.reduceMul, Nat.reduceLT, Nat.mul_one, Nat.zero_mul, snapV_one, snap_hsl, snapHsl, snap_href, snapHref, snap_ps]
      exact ⟨rfl, rfl⟩
    · rintro k env blk hk ⟨h3, hB, h33, h34, h35, hz⟩
      by_cases hlt : k < a.length
      · have hlb : k < b.length := by omega
        have hi : (a.map Let.ps)[k]? = some (a[k].ps) := by simp [hlt]
        have hj : (b.map Let.ps)[k]? = some (b[k].ps) := by simp [hlb]
        have hlt' : ((k : Int) < (a.length : Int)) := by omega
        have w1 := wrap_succ (n := k) (by omega)
        obtain ⟨hr1, hr2⟩ := key_rest a b k hlt hlb hz
        have p66a := number66 a[k].over
        have p66b := number66 b[k].over
        have p64k := order64 (a[k].key b[k]) (Nat.le_of_ble_eq_true rfl)
        simp only [Let.key, List.map_cons, List.map_nil, prP, bI] at p64k
        simp only [W_seq_iff, W_seq_text, WN_cons_iff, WN_nil_iff, W_ret_iff, W_skip_iff, W_cond_iff, W_block_iff, W_exit_iff, thenQ_normal, thenQ_ret, thenQ_exit, blockQ_normal, blockQ_ret, blockQ_exit, condW_bool, goWN_true, goWN_false, goPN_done, wanted_none, wanted_some, wantV_bool, wantV_undef, plan, ev_t, ev_i, ev_b, ev_k, put_some, put_none, upd_apply, ienv_zero, ienv_succ, binV, binInt, eqV, app, List.map_nil, List.append_nil, List.map_cons, Al.all_oks, true_and, and_true, true_or, if_true, if_false, Option.map_some, reduceIte, Nat.reduceEqDiff, decide_true, decide_false, beq_self_eq_true, reduceCtorEq, ge_iff_le, Bool.false_eq_true, Bool.not_true, Bool.not_false, endQ_ret1, endQ_normal1, ret1_one, ret1_agg, outV_p, norm_int, norm_bool, norm_str, norm_nils, norm_sl, norm_box, norm_fn, norm_nilp, norm_nilf, norm_nilm, norm_mp, snapVs_nil, snapVs_cons, snapCons_some, snapV_p, fnOf, bft, btf, bff, btt, Nat.reduceAdd, List.cons_append, List.nil_append, Bool.and_true, Bool.and_false, Bool.true_and, Bool.false_and, asN_nat, rdAt, takeV, wrAt, splice, cellsV, lenL, List.drop_zero, List.take_zero, List.length_cons, List.length_nil, List.take_succ_cons, Nat.le_refl, ne_eq, not_true_eq_false, and_self, List.drop_nil, Nat.zero_add, Nat.reduceLeDiff, List.drop_succ_cons, not_false_eq_true, List.length_map, snap_p, consR_some, collect_nil, collect_cons, snapV_agg, W_draw, WO_cons_iff, WO_nil_iff, goW_true, goW_false, goP_done, partsV, elemsV, toPss, toPs, toP, fill, List.take_nil, asN_lit, Nat.reduceMul, Nat.reduceLT, Nat.mul_one, Nat.zero_mul, snapV_one, snap_hsl, snapHsl, snap_href, snapHref, snap_ps, h3, hB, h33, h34, h35, hi, hj, hlt', Let.ps, w1, s66, s64, goP_int p66a, goP_int p66b, goP_int p64k]
        refine ⟨by kernel_rfl, ?_⟩
        have hk2 : ordL (a[k].key b[k]) = ordL [(a[k].kind, b[k].kind), (a[k].gate, b[k].gate), (a[k].rank, b[k].rank), (a[k].id, b[k].id), (if a[k].over = true then 1 else 0, if b[k].over = true then 1 else 0), (a[k].sign, b[k].sign)] := rfl
        rw [← hk2]
        by_cases hne : ordL (a[k].key b[k]) = 0
        · rw [if_neg (by simpa using hne)]
          exact ⟨hlt, by rw [hr1]; exact hne⟩
        · rw [if_pos (by simpa using hne), hr2 hne]
      · have : k = a.length := by omega
        subst this
        have hlt' : ¬ ((a.length : Int) < (a.length : Int)) := by omega
        have ht : (a.zip b).take a.length = a.zip b := List.take_of_length_le (by simp; omega)
        rw [ht] at hz
        simp only [W_seq_iff, W_seq_text, WN_cons_iff, WN_nil_iff, W_ret_iff, W_skip_iff, W_cond_iff, W_block_iff, W_exit_iff, thenQ_normal, thenQ_ret, thenQ_exit, blockQ_normal, blockQ_ret, blockQ_exit, condW_bool, goWN_true, goWN_false, goPN_done, wanted_none, wanted_some, wantV_bool, wantV_undef, plan, ev_t, ev_i, ev_b, ev_k, put_some, put_none, upd_apply, ienv_zero, ienv_succ, binV, binInt, eqV, app, List.map_nil, List.append_nil, List.map_cons, Al.all_oks, true_and, and_true, true_or, if_true, if_false, Option.map_some, reduceIte, Nat.reduceEqDiff, decide_true, decide_false, beq_self_eq_true, reduceCtorEq, ge_iff_le, Bool.false_eq_true, Bool.not_true, Bool.not_false, endQ_ret1, endQ_normal1, ret1_one, ret1_agg, outV_p, norm_int, norm_bool, norm_str, norm_nils, norm_sl, norm_box, norm_fn, norm_nilp, norm_nilf, norm_nilm, norm_mp, snapVs_nil, snapVs_cons, snapCons_some, snapV_p, fnOf, bft, btf, bff, btt, Nat.reduceAdd, List.cons_append, List.nil_append, Bool.and_true, Bool.and_false, Bool.true_and, Bool.false_and, asN_nat, rdAt, takeV, wrAt, splice, cellsV, lenL, List.drop_zero, List.take_zero, List.length_cons, List.length_nil, List.take_succ_cons, Nat.le_refl, ne_eq, not_true_eq_false, and_self, List.drop_nil, Nat.zero_add, Nat.reduceLeDiff, List.drop_succ_cons, not_false_eq_true, List.length_map, snap_p, consR_some, collect_nil, collect_cons, snapV_agg, W_draw, WO_cons_iff, WO_nil_iff, goW_true, goW_false, goP_done, partsV, elemsV, toPss, toPs, toP, fill, List.take_nil, asN_lit, Nat.reduceMul, Nat.reduceLT, Nat.mul_one, Nat.zero_mul, snapV_one, snap_hsl, snapHsl, snap_href, snapHref, snap_ps, h3, hB, h33, h34, h35, hlt', hz]
end Go.Abs
namespace Go.Abs
set_option maxRecDepth 100000
def onesP (l : List Int) : List (List PV) := l.map fun n => [PV.int .i64 n]
theorem bne_ne {n : Int} (h : n ≠ 0) : (n != 0) = true := by simp [h]
theorem bne_eq {n : Int} (h : n = 0) : (n != 0) = false := by simp [h]
theorem zip_key (x y : Let) : x.key y = [x.kind, x.gate, x.rank, x.id, bI x.over, x.sign].zip [y.kind, y.gate, y.rank, y.id, bI y.over, y.sign] := rfl
theorem ordL_zip_step (p q : List Int) (j : Nat) (h1 : j < p.length) (h2 : j < q.length) (hz : ordL ((p.zip q).take j) = 0) :
    ordL ((p.zip q).take (j + 1)) = cmpI p[j] q[j] ∧ (cmpI p[j] q[j] ≠ 0 → ordL (p.zip q) = cmpI p[j] q[j]) := by
  have hl : j < (p.zip q).length := by simp; omega
  have e : (p.zip q).take (j + 1) = (p.zip q).take j ++ [(p[j], q[j])] := by
    rw [List.take_succ_eq_append_getElem hl]; simp
  have h3 : ordL ((p.zip q).take (j + 1)) = cmpI p[j] q[j] := by
    rw [e, ordL_append, if_pos hz]
    simp only [ordL]
    split
    · rename_i h; exact h.symm
    · rfl
  refine ⟨h3, fun hne => ?_⟩
  have : p.zip q = (p.zip q).take (j + 1) ++ (p.zip q).drop (j + 1) := (List.take_append_drop _ _).symm
  rw [this, ordL_append, h3, if_neg hne]

set_option maxHeartbeats 2000000 in
theorem compare21 (f g : Int) (a b : List Let) (ha : a.length ≤ 1000) (hb : b.length ≤ 1000) : PEv S 21 [codeV f a, codeV g b] (.one (.p (.int .i64 (cmpC f a g b)))) := by
  have p68a := visits68 f a ha
  have p68b := visits68 g b hb
  have n1 := number67 f g
  have n2 := number67 (cnt a) (cnt b)
  have n3 := number67 a.length b.length
  have s67 : S.shared 67 = false := by kernel_rfl
  have s68 : S.shared 68 = false := by kernel_rfl
  have s69 : S.shared 69 = false := by kernel_rfl
  have hC : cmpC f a g b = if cmpI f g = 0 then if cmpI (cnt a) (cnt b) = 0 then if cmpI a.length b.length = 0 then ordL ((a.zip b).flatMap fun p => p.1.key p.2) else cmpI a.length b.length else cmpI (cnt a) (cnt b) else cmpI f g := by
    unfold cmpC
    simp only [ordL]
    by_cases h1 : cmpI f g = 0
    · simp only [h1, if_true]
      by_cases h2 : cmpI (cnt a) (cnt b) = 0
      · simp only [h2, if_true]
        by_cases h3 : cmpI a.length b.length = 0
        · simp only [h3, if_true]
        · simp only [h3, if_false]
      · simp only [h2, if_false]
    · simp only [h1, if_false]
  rw [hC]
  refine PEv_fn rfl (S_fns4 c21) (Nat.le_of_ble_eq_true rfl) ?_
  simp only [W_seq_iff, W_seq_text, WN_cons_iff, WN_nil_iff, W_ret_iff, W_skip_iff, W_cond_iff, W_block_iff, W_exit_iff, thenQ_normal, thenQ_ret, thenQ_exit, blockQ_normal, blockQ_ret, blockQ_exit, condW_bool, goWN_true, goWN_false, goPN_done, wanted_none, wanted_some, wantV_bool, wantV_undef, plan, ev_t, ev_i, ev_b, ev_k, put_some, put_none, upd_apply, ienv_zero, ienv_succ, binV, binInt, eqV, app, List.map_nil, List.append_nil, List.map_cons, Al.all_oks, true_and, and_true, true_or, if_true, if_false, Option.map_some, reduceIte, Nat.reduceEqDiff, decide_true, decide_false, beq_self_eq_true, reduceCtorEq, ge_iff_le, Bool.false_eq_true, Bool.not_true, Bool.not_false, endQ_ret1, endQ_normal1, ret1_one, ret1_agg, outV_p, norm_int, norm_bool, norm_str, norm_nils, norm_sl, norm_box, norm_fn, norm_nilp, norm_nilf, norm_nilm, norm_mp, snapVs_nil, snapVs_cons, snapCons_some, snapV_p, fnOf, bft, btf, bff, btt, Nat.reduceAdd, List.cons_append, List.nil_append, Bool.and_true, Bool.and_false, Bool.true_and, Bool.false_and, asN_nat, rdAt, takeV, wrAt, splice, cellsV, lenL, List.drop_zero, List.take_zero, List.length_cons, List.length_nil, List.take_succ_cons, Nat.le_refl, ne_eq, not_true_eq_false, and_self, List.drop_nil, Nat.zero_add, Nat.reduceLeDiff, List.drop_succ_cons, not_false_eq_true, List.length_map, snap_p, consR_some, collect_nil, collect_cons, snapV_agg, W_draw, WO_cons_iff, WO_nil_iff, goW_true, goW_false, goP_done, partsV, elemsV, toPss, toPs, toP, fill, List.take_nil, asN_lit, Nat.reduceMul, Nat.reduceLT, Nat.mul_one, Nat.zero_mul, snapV_one, snap_hsl, snapHsl, snap_href, snapHref, snap_ps, i21, s67, s68, s69, noBlk, goP_int p68a, goP_int p68b, goPN_int n1, goP_int n2, goPN_int n3]
  by_cases h1 : cmpI f g = 0
  case neg => rw [if_pos (bne_ne h1), if_neg h1]
  rw [if_neg (by simp [h1]), if_pos h1]
  refine ⟨by kernel_rfl, ?_⟩
  by_cases h2 : cmpI (cnt a) (cnt b) = 0
  case neg => rw [if_pos (bne_ne h2), if_neg h2]
  rw [if_neg (by simp [h2]), if_pos h2]
  by_cases h3 : cmpI a.length b.length = 0
  case neg => rw [if_pos (bne_ne h3), if_neg h3]
  rw [if_neg (by simp [h3]), if_pos h3]
  have hlen : a.length = b.length := by have := cmpI_zero.1 h3; omega
  refine W_for (fun k env blk => env 2 = .one (.href 1344000000 1 0) ∧ blk 1344000000 = (1, some (.var [.p (.int .i64 f), .p (.sl (a.map Let.ps))])) ∧ env 3 = .one (.href 1344000064 1 0) ∧ blk 1344000064 = (1, some (.var [.p (.int .i64 g), .p (.sl (b.map Let.ps))])) ∧ env 8 = .one (.p (.int .i64 k)) ∧ ordL (((a.zip b).take k).flatMap (fun p => p.1.key p.2)) = 0) 0 a.length (Nat.zero_le _) ?_ ?_
  · simp only [W_seq_iff, W_seq_text, WN_cons_iff, WN_nil_iff, W_ret_iff, W_skip_iff, W_cond_iff, W_block_iff, W_exit_iff, thenQ_normal, thenQ_ret, thenQ_exit, blockQ_normal, blockQ_ret, blockQ_exit, condW_bool, goWN_true, goWN_false, goPN_done, wanted_none, wanted_some, wantV_bool, wantV_undef, plan, ev_t, ev_i, ev_b, ev_k, put_some, put_none, upd_apply, ienv_zero, ienv_succ, binV, binInt, eqV, app, List.map_nil, List.append_nil, List.map_cons, Al.all_oks, true_and, and_true, true_or, if_true, if_false, Option.map_some, reduceIte, Nat.reduceEqDiff, decide_true, decide_false, beq_self_eq_true, reduceCtorEq, ge_iff_le, Bool.false_eq_true, Bool.not_true, Bool.not_false, endQ_ret1, endQ_normal1, ret1_one, ret1_agg, outV_p, norm_int, norm_bool, norm_str, norm_nils, norm_sl, norm_box, norm_fn, norm_nilp, norm_nilf, norm_nilm, norm_mp, snapVs_nil, snapVs_cons, snapCons_some, snapV_p, fnOf, bft, btf, bff, btt, Nat.reduceAdd, List.cons_append, List.nil_append, Bool.and_true, Bool.and_false, Bool.true_and, Bool.false_and, asN_nat, rdAt, takeV, wrAt, splice, cellsV, lenL, List.drop_zero, List.take_zero, List.length_cons, List.length_nil, List.take_succ_cons, Nat.le_refl, ne_eq, not_true_eq_false, and_self, List.drop_nil, Nat.zero_add, Nat.reduceLeDiff, List.drop_succ_cons, not_false_eq_true, List.length_map, snap_p, consR_some, collect_nil, collect_cons, snapV_agg, W_draw, WO_cons_iff, WO_nil_iff, goW_true, goW_false, goP_done, partsV, elemsV, toPss, toPs, toP, fill, List.take_nil, asN_lit, Nat.reduceMul, Nat.reduceLT, Nat.mul_one, Nat.zero_mul, snapV_one, snap_hsl, snapHsl, snap_href, snapHref, snap_ps]
    exact ⟨rfl, rfl⟩
  · rintro k env blk hk ⟨e2, b2, e3, b3, e8, hz⟩
    by_cases hlt : k < a.length
    · have hlb : k < b.length := by omega
      have hi : (a.map Let.ps)[k]? = some (a[k].ps) := by simp [hlt]
      have hj : (b.map Let.ps)[k]? = some (b[k].ps) := by simp [hlb]
      have hlt' : ((k : Int) < (a.length : Int)) := by omega
      have w1 := wrap_succ (n := k) (by omega)
      obtain ⟨hr1, hr2⟩ := key_rest a b k hlt hlb hz
      have fa := flag69 a[k].over
      have fb := flag69 b[k].over
      simp only [W_seq_iff, W_seq_text, WN_cons_iff, WN_nil_iff, W_ret_iff, W_skip_iff, W_cond_iff, W_block_iff, W_exit_iff, thenQ_normal, thenQ_ret, thenQ_exit, blockQ_normal, blockQ_ret, blockQ_exit, condW_bool, goWN_true, goWN_false, goPN_done, wanted_none, wanted_some, wantV_bool, wantV_undef, plan, ev_t, ev_i, ev_b, ev_k, put_some, put_none, upd_apply, ienv_zero, ienv_succ, binV, binInt, eqV, app, List.map_nil, List.append_nil, List.map_cons, Al.all_oks, true_and, and_true, true_or, if_true, if_false, Option.map_some, reduceIte, Nat.reduceEqDiff, decide_true, decide_false, beq_self_eq_true, reduceCtorEq, ge_iff_le, Bool.false_eq_true, Bool.not_true, Bool.not_false, endQ_ret1, endQ_normal1, ret1_one, ret1_agg, outV_p, norm_int, norm_bool, norm_str, norm_nils, norm_sl, norm_box, norm_fn, norm_nilp, norm_nilf, norm_nilm, norm_mp, snapVs_nil, snapVs_cons, snapCons_some, snapV_p, fnOf, bft, btf, bff, btt, Nat.reduceAdd, List.cons_append, List.nil_append, Bool.and_true, Bool.and_false, Bool.true_and, Bool.false_and, asN_nat, rdAt, takeV, wrAt, splice, cellsV, lenL, List.drop_zero, List.take_zero, List.length_cons, List.length_nil, List.take_succ_cons, Nat.le_refl, ne_eq, not_true_eq_false, and_self, List.drop_nil, Nat.zero_add, Nat.reduceLeDiff, List.drop_succ_cons, not_false_eq_true, List.length_map, snap_p, consR_some, collect_nil, collect_cons, snapV_agg, W_draw, WO_cons_iff, WO_nil_iff, goW_true, goW_false, goP_done, partsV, elemsV, toPss, toPs, toP, fill, List.take_nil, asN_lit, Nat.reduceMul, Nat.reduceLT, Nat.mul_one, Nat.zero_mul, snapV_one, snap_hsl, snapHsl, snap_href, snapHref, snap_ps, e2, b2, e3, b3, e8, hi, hj, hlt', Let.ps, w1, s67, s69, goP_int fa, goP_int fb]
      refine ⟨by kernel_rfl, by kernel_rfl, by kernel_rfl, ?_⟩
      have kp : ∀ (x : Let), [[PV.int .i64 x.kind], [.int .i64 x.gate], [.int .i64 x.rank], [.int .i64 x.id], [.int .i64 (if x.over = true then 1 else 0)], [.int .i64 x.sign]] = onesP [x.kind, x.gate, x.rank, x.id, bI x.over, x.sign] := fun _ => rfl
      rw [kp, kp]
      have hkey : ordL (a[k].key b[k]) = ordL ([a[k].kind, a[k].gate, a[k].rank, a[k].id, bI a[k].over, a[k].sign].zip [b[k].kind, b[k].gate, b[k].rank, b[k].id, bI b[k].over, b[k].sign]) := by rw [zip_key]
      rw [hkey] at hr1 hr2
      have lp : [a[k].kind, a[k].gate, a[k].rank, a[k].id, bI a[k].over, a[k].sign].length = 6 := rfl
      have lq : [b[k].kind, b[k].gate, b[k].rank, b[k].id, bI b[k].over, b[k].sign].length = 6 := rfl
      generalize [a[k].kind, a[k].gate, a[k].rank, a[k].id, bI a[k].over, a[k].sign] = P at *
      generalize [b[k].kind, b[k].gate, b[k].rank, b[k].id, bI b[k].over, b[k].sign] = Q at *
      refine W_for (fun j env' blk' => env' 2 = .one (.href 1344000000 1 0) ∧ blk' 1344000000 = (1, some (.var [.p (.int .i64 f), .p (.sl (a.map Let.ps))])) ∧ env' 3 = .one (.href 1344000064 1 0) ∧ blk' 1344000064 = (1, some (.var [.p (.int .i64 g), .p (.sl (b.map Let.ps))])) ∧ env' 8 = .one (.p (.int .i64 k)) ∧
        env' 11 = .one (.hsl 1344896832 ((blk 1344896832).1 + 1) 1 0 6) ∧ blk' 1344896832 = ((blk 1344896832).1 + 1, some (.arr 3 1 (onesP P))) ∧ env' 12 = .one (.hsl 1344960832 ((blk 1344960832).1 + 1) 1 0 6) ∧ blk' 1344960832 = ((blk 1344960832).1 + 1, some (.arr 3 1 (onesP Q))) ∧
        env' 13 = .one (.p (.int .i64 j)) ∧ ordL ((P.zip Q).take j) = 0) 0 6 (Nat.zero_le _) ?_ ?_
      · simp only [W_seq_iff, W_seq_text, WN_cons_iff, WN_nil_iff, W_ret_iff, W_skip_iff, W_cond_iff, W_block_iff, W_exit_iff, thenQ_normal, thenQ_ret, thenQ_exit, blockQ_normal, blockQ_ret, blockQ_exit, condW_bool, goWN_true, goWN_false, goPN_done, wanted_none, wanted_some, wantV_bool, wantV_undef, plan, ev_t, ev_i, ev_b, ev_k, put_some, put_none, upd_apply, ienv_zero, ienv_succ, binV, binInt, eqV, app, List.map_nil, List.append_nil, List.map_cons, Al.all_oks, true_and, and_true, true_or, if_true, if_false, Option.map_some, reduceIte, Nat.reduceEqDiff, decide_true, decide_false, beq_self_eq_true, reduceCtorEq, ge_iff_le, Bool.false_eq_true, Bool.not_true, Bool.not_false, endQ_ret1, endQ_normal1, ret1_one, ret1_agg, outV_p, norm_int, norm_bool, norm_str, norm_nils, norm_sl, norm_box, norm_fn, norm_nilp, norm_nilf, norm_nilm, norm_mp, snapVs_nil, snapVs_cons, snapCons_some, snapV_p, fnOf, bft, btf, bff, btt, Nat.reduceAdd, List.cons_append, List.nil_append, Bool.and_true, Bool.and_false, Bool.true_and, Bool.false_and, asN_nat, rdAt, takeV, wrAt, splice, cellsV, lenL, List.drop_zero, List.take_zero, List.length_cons, List.length_nil, List.take_succ_cons, Nat.le_refl, ne_eq, not_true_eq_false, and_self, List.drop_nil, Nat.zero_add, Nat.reduceLeDiff, List.drop_succ_cons, not_false_eq_true, List.length_map, snap_p, consR_some, collect_nil, collect_cons, snapV_agg, W_draw, WO_cons_iff, WO_nil_iff, goW_true, goW_false, goP_done, partsV, elemsV, toPss, toPs, toP, fill, List.take_nil, asN_lit, Nat.reduceMul, Nat.reduceLT, Nat.mul_one, Nat.zero_mul, snapV_one, snap_hsl, snapHsl, snap_href, snapHref, snap_ps, e2, b2, e3, b3, e8]
        exact ⟨rfl, rfl⟩
      · rintro j env' blk' hj ⟨f2, c2, f3, c3, f8, f11, c11, f12, c12, f13, hzj⟩
        by_cases hjl : j < 6
        · have hjP : j < P.length := by omega
          have hjQ : j < Q.length := by omega
          have g1 : (onesP P)[j]? = some [.int .i64 P[j]] := by simp [onesP, hjP]
          have g2 : (onesP Q)[j]? = some [.int .i64 Q[j]] := by simp [onesP, hjQ]
          have hj' : ((j : Int) < ((6 : Nat) : Int)) := by omega
          have w2 := wrap_succ (n := j) (by omega)
          obtain ⟨hs1, hs2⟩ := ordL_zip_step P Q j hjP hjQ hzj
          have pn := number67 P[j] Q[j]
          simp only [W_seq_iff, W_seq_text, WN_cons_iff, WN_nil_iff, W_ret_iff, W_skip_iff, W_cond_iff, W_block_iff, W_exit_iff, thenQ_normal, thenQ_ret, thenQ_exit, blockQ_normal, blockQ_ret, blockQ_exit, condW_bool, goWN_true, goWN_false, goPN_done, wanted_none, wanted_some, wantV_bool, wantV_undef, plan, ev_t, ev_i, ev_b, ev_k, put_some, put_none, upd_apply, ienv_zero, ienv_succ, binV, binInt, eqV, app, List.map_nil, List.append_nil, List.map_cons, Al.all_oks, true_and, and_true, true_or, if_true, if_false, Option.map_some, reduceIte, Nat.reduceEqDiff, decide_true, decide_false, beq_self_eq_true, reduceCtorEq, ge_iff_le, Bool.false_eq_true, Bool.not_true, Bool.not_false, endQ_ret1, endQ_normal1, ret1_one, ret1_agg, outV_p, norm_int, norm_bool, norm_str, norm_nils, norm_sl, norm_box, norm_fn, norm_nilp, norm_nilf, norm_nilm, norm_mp, snapVs_nil, snapVs_cons, snapCons_some, snapV_p, fnOf, bft, btf, bff, btt, Nat.reduceAdd, List.cons_append, List.nil_append, Bool.and_true, Bool.and_false, Bool.true_and, Bool.false_and, asN_nat, rdAt, takeV, wrAt, splice, cellsV, lenL, List.drop_zero, List.take_zero, List.length_cons, List.length_nil, List.take_succ_cons, Nat.le_refl, ne_eq, not_true_eq_false, and_self, List.drop_nil, Nat.zero_add, Nat.reduceLeDiff, List.drop_succ_cons, not_false_eq_true, List.length_map, snap_p, consR_some, collect_nil, collect_cons, snapV_agg, W_draw, WO_cons_iff, WO_nil_iff, goW_true, goW_false, goP_done, partsV, elemsV, toPss, toPs, toP, fill, List.take_nil, asN_lit, Nat.reduceMul, Nat.reduceLT, Nat.mul_one, Nat.zero_mul, snapV_one, snap_hsl, snapHsl, snap_href, snapHref, snap_ps, f2, c2, f3, c3, f8, f11, c11, f12, c12, f13, hj', hjl, g1, g2, w2, s67, goP_int pn]
          refine ⟨by kernel_rfl, ?_⟩
          by_cases hne : cmpI P[j] Q[j] = 0
          · rw [if_neg (by simp [hne])]
            exact hs1.trans hne
          · rw [if_pos (bne_ne hne), hr2 (by rw [hs2 hne]; exact hne), hs2 hne]
        · have : j = 6 := by omega
          subst this
          have ht : (P.zip Q).take 6 = P.zip Q := List.take_of_length_le (by simp; omega)
          rw [ht] at hzj
          have hj' : ¬ (((6 : Nat) : Int) < ((6 : Nat) : Int)) := by omega
          simp only [W_seq_iff, W_seq_text, WN_cons_iff, WN_nil_iff, W_ret_iff, W_skip_iff, W_cond_iff, W_block_iff, W_exit_iff, thenQ_normal, thenQ_ret, thenQ_exit, blockQ_normal, blockQ_ret, blockQ_exit, condW_bool, goWN_true, goWN_false, goPN_done, wanted_none, wanted_some, wantV_bool, wantV_undef, plan, ev_t, ev_i, ev_b, ev_k, put_some, put_none, upd_apply, ienv_zero, ienv_succ, binV, binInt, eqV, app, List.map_nil, List.append_nil, List.map_cons, Al.all_oks, true_and, and_true, true_or, if_true, if_false, Option.map_some, reduceIte, Nat.reduceEqDiff, decide_true, decide_false, beq_self_eq_true, reduceCtorEq, ge_iff_le, Bool.false_eq_true, Bool.not_true, Bool.not_false, endQ_ret1, endQ_normal1, ret1_one, ret1_agg, outV_p, norm_int, norm_bool, norm_str, norm_nils, norm_sl, norm_box, norm_fn, norm_nilp, norm_nilf, norm_nilm, norm_mp, snapVs_nil, snapVs_cons, snapCons_some, snapV_p, fnOf, bft, btf, bff, btt, Nat.reduceAdd, List.cons_append, List.nil_append, Bool.and_true, Bool.and_false, Bool.true_and, Bool.false_and, asN_nat, rdAt, takeV, wrAt, splice, cellsV, lenL, List.drop_zero, List.take_zero, List.length_cons, List.length_nil, List.take_succ_cons, Nat.le_refl, ne_eq, not_true_eq_false, and_self, List.drop_nil, Nat.zero_add, Nat.reduceLeDiff, List.drop_succ_cons, not_false_eq_true, List.length_map, snap_p, consR_some, collect_nil, collect_cons, snapV_agg, W_draw, WO_cons_iff, WO_nil_iff, goW_true, goW_false, goP_done, partsV, elemsV, toPss, toPs, toP, fill, List.take_nil, asN_lit, Nat.reduceMul, Nat.reduceLT, Nat.mul_one, Nat.zero_mul, snapV_one, snap_hsl, snapHsl, snap_href, snapHref, snap_ps, f2, c2, f3, c3, f8, f11, c11, f12, c12, f13, hj', w1]
          exact ⟨hlt, by rw [hr1]; exact hzj⟩
    · have : k = a.length := by omega
      subst this
      have hlt' : ¬ ((a.length : Int) < (a.length : Int)) := by omega
      have ht : (a.zip b).take a.length = a.zip b := List.take_of_length_le (by simp; omega)
      rw [ht] at hz
      simp only [W_seq_iff, W_seq_text, WN_cons_iff, WN_nil_iff, W_ret_iff, W_skip_iff, W_cond_iff, W_block_iff, W_exit_iff, thenQ_normal, thenQ_ret, thenQ_exit, blockQ_normal, blockQ_ret, blockQ_exit, condW_bool, goWN_true, goWN_false, goPN_done, wanted_none, wanted_some, wantV_bool, wantV_undef, plan, ev_t, ev_i, ev_b, ev_k, put_some, put_none, upd_apply, ienv_zero, ienv_succ, binV, binInt, eqV, app, List.map_nil, List.append_nil, List.map_cons, Al.all_oks, true_and, and_true, true_or, if_true, if_false, Option.map_some, reduceIte, Nat.reduceEqDiff, decide_true, decide_false, beq_self_eq_true, reduceCtorEq, ge_iff_le, Bool.false_eq_true, Bool.not_true, Bool.not_false, endQ_ret1, endQ_normal1, ret1_one, ret1_agg, outV_p, norm_int, norm_bool, norm_str, norm_nils, norm_sl, norm_box, norm_fn, norm_nilp, norm_nilf, norm_nilm, norm_mp, snapVs_nil, snapVs_cons, snapCons_some, snapV_p, fnOf, bft, btf, bff, btt, Nat.reduceAdd, List.cons_append, List.nil_append, Bool.and_true, Bool.and_false, Bool.true_and, Bool.false_and, asN_nat, rdAt, takeV, wrAt, splice, cellsV, lenL, List.drop_zero, List.take_zero, List.length_cons, List.length_nil, List.take_succ_cons, Nat.le_refl, ne_eq, not_true_eq_false, and_self, List.drop_nil, Nat.zero_add, Nat.reduceLeDiff, List.drop_succ_cons, not_false_eq_true, List.length_map, snap_p, consR_some, collect_nil, collect_cons, snapV_agg, W_draw, WO_cons_iff, WO_nil_iff, goW_true, goW_false, goP_done, partsV, elemsV, toPss, toPs, toP, fill, List.take_nil, asN_lit, Nat.reduceMul, Nat.reduceLT, Nat.mul_one, Nat.zero_mul, snapV_one, snap_hsl, snapHsl, snap_href, snapHref, snap_ps, e2, b2, e3, b3, e8, hlt', hz]
end Go.Abs
namespace Go.Abs
set_option maxRecDepth 100000
def eqL (x y : Let) : Bool := x.kind == y.kind && (x.gate == y.gate && (x.rank == y.rank && (x.id == y.id && (x.sign == y.sign && x.over == y.over))))
theorem eqL_iff {x y : Let} : eqL x y = true ↔ x = y := by
  obtain ⟨a, b, c, d, e, f⟩ := x
  obtain ⟨a', b', c', d', e', f'⟩ := y
  simp [eqL]
instance : DecidableEq Let := fun x y => if h : eqL x y = true then .isTrue (eqL_iff.1 h) else .isFalse fun e => h (eqL_iff.2 e)
theorem eqC_int (a b : Int) : eqC true (.int .i64 a) (.int .i64 b) = some (a == b) := by simp [eqC]
theorem eqC_bool (a b : Bool) : eqC false (.bool a) (.bool b) = some (a == b) := rfl
def eqNext (x : Option Bool) (r : Option Bool) : Option Bool := match x with
  | some true => r
  | some false => some false
  | none => none
theorem eqCs_step {k : Bool} {ks : List Bool} {a b : PV} {r s : List C} : eqCs (k :: ks) (.p a :: r) (.p b :: s) = eqNext (eqC k a b) (eqCs ks r s) := by
  simp only [eqCs, eqNext]
  cases eqC k a b with
  | none => rfl
  | some x => cases x <;> rfl
theorem eqNext_some (x y : Bool) : eqNext (some x) (some y) = some (x && y) := by cases x <;> rfl
theorem eqCs_end : eqCs [] [] [] = some true := rfl
theorem eqCs_let (x y : Let) : eqCs [true, true, true, true, true, false] (x.ps.map .p) (y.ps.map .p) = some (eqL x y) := by
  simp only [Let.ps, List.map_cons, List.map_nil, eqCs_step, eqC_int, eqC_bool, eqCs_end, eqNext_some, eqL, Bool.and_true]

def codeP (c : Int × List Let) : List PV := [.int .i64 c.1, .sl (c.2.map Let.ps)]
def fits (cs : List (Int × List Let)) : Bool := cs.all (fun c => decide (c.2.length ≤ 100)) && decide (cs.length ≤ 20)

theorem fit18 (cs : List (Int × List Let)) (hl : cs.length ≤ 9223372036854775807) : PEv S 18 [.one (.p (.sl (cs.map codeP)))] (.one (.p (.bool (fits cs)))) := by
  refine PEv_fn rfl (S_fns4 c18) (Nat.le_of_ble_eq_true rfl) ?_
  simp only [W_seq_iff, W_seq_text, WN_cons_iff, WN_nil_iff, W_ret_iff, W_skip_iff, W_cond_iff, W_block_iff, W_exit_iff, thenQ_normal, thenQ_ret, thenQ_exit, blockQ_normal, blockQ_ret, blockQ_exit, condW_bool, goWN_true, goWN_false, goPN_done, wanted_none, wanted_some, wantV_bool, wantV_undef, plan, ev_t, ev_i, ev_b, ev_k, put_some, put_none, upd_apply, ienv_zero, ienv_succ, binV, binInt, eqV, app, List.map_nil, List.append_nil, List.map_cons, Al.all_oks, true_and, and_true, true_or, if_true, if_false, Option.map_some, reduceIte, Nat.reduceEqDiff, decide_true, decide_false, beq_self_eq_true, reduceCtorEq, ge_iff_le, Bool.false_eq_true, Bool.not_true, Bool.not_false, endQ_ret1, endQ_normal1, ret1_one, ret1_agg, outV_p, norm_int, norm_bool, norm_str, norm_nils, norm_sl, norm_box, norm_fn, norm_nilp, norm_nilf, norm_nilm, norm_mp, snapVs_nil, snapVs_cons, snapCons_some, snapV_p, fnOf, bft, btf, bff, btt, Nat.reduceAdd, List.cons_append, List.nil_append, Bool.and_true, Bool.and_false, Bool.true_and, Bool.false_and, asN_nat, rdAt, takeV, wrAt, splice, cellsV, lenL, List.drop_zero, List.take_zero, List.length_cons, List.length_nil, List.take_succ_cons, Nat.le_refl, ne_eq, not_true_eq_false, and_self, List.drop_nil, Nat.zero_add, Nat.reduceLeDiff, List.drop_succ_cons, not_false_eq_true, List.length_map, snap_p, consR_some, collect_nil, collect_cons, snapV_agg, W_draw, WO_cons_iff, WO_nil_iff, goW_true, goW_false, goP_done, partsV, elemsV, toPss, toPs, toP, fill, List.take_nil, asN_lit, Nat.reduceMul, Nat.reduceLT, Nat.mul_one, Nat.zero_mul, snapV_one, snap_hsl, snapHsl, snap_href, snapHref, snap_ps, i18]
  refine W_for (fun k env _ => env 0 = .one (.p (.sl (cs.map codeP))) ∧ env 3 = .one (.p (.int .i64 k)) ∧ (cs.take k).all (fun c => decide (c.2.length ≤ 100)) = true) 0 cs.length (Nat.zero_le _) ?_ ?_
  · simp only [W_seq_iff, W_seq_text, WN_cons_iff, WN_nil_iff, W_ret_iff, W_skip_iff, W_cond_iff, W_block_iff, W_exit_iff, thenQ_normal, thenQ_ret, thenQ_exit, blockQ_normal, blockQ_ret, blockQ_exit, condW_bool, goWN_true, goWN_false, goPN_done, wanted_none, wanted_some, wantV_bool, wantV_undef, plan, ev_t, ev_i, ev_b, ev_k, put_some, put_none, upd_apply, ienv_zero, ienv_succ, binV, binInt, eqV, app, List.map_nil, List.append_nil, List.map_cons, Al.all_oks, true_and, and_true, true_or, if_true, if_false, Option.map_some, reduceIte, Nat.reduceEqDiff, decide_true, decide_false, beq_self_eq_true, reduceCtorEq, ge_iff_le, Bool.false_eq_true, Bool.not_true, Bool.not_false, endQ_ret1, endQ_normal1, ret1_one, ret1_agg, outV_p, norm_int, norm_bool, norm_str, norm_nils, norm_sl, norm_box, norm_fn, norm_nilp, norm_nilf, norm_nilm, norm_mp, snapVs_nil, snapVs_cons, snapCons_some, snapV_p, fnOf, bft, btf, bff, btt, Nat.reduceAdd, List.cons_append, List.nil_append, Bool.and_true, Bool.and_false, Bool.true_and, Bool.false_and, asN_nat, rdAt, takeV, wrAt, splice, cellsV, lenL, List.drop_zero, List.take_zero, List.length_cons, List.length_nil, List.take_succ_cons, Nat.le_refl, ne_eq, not_true_eq_false, and_self, List.drop_nil, Nat.zero_add, Nat.reduceLeDiff, List.drop_succ_cons, not_false_eq_true, List.length_map, snap_p, consR_some, collect_nil, collect_cons, snapV_agg, W_draw, WO_cons_iff, WO_nil_iff, goW_true, goW_false, goP_done, partsV, elemsV, toPss, toPs, toP, fill, List.take_nil, asN_lit, Nat.reduceMul, Nat.reduceLT, Nat.mul_one, Nat.zero_mul, snapV_one, snap_hsl, snapHsl, snap_href, snapHref, snap_ps]
    exact ⟨rfl, rfl⟩
  · rintro k env blk hk ⟨h0, h3, hz⟩
    by_cases hlt : k < cs.length
    · have hi : (cs.map codeP)[k]? = some (codeP cs[k]) := by simp [hlt]
      have hlt' : ((k : Int) < (cs.length : Int)) := by omega
      have w1 := wrap_succ (n := k) (by omega)
      have ht : cs.take (k + 1) = cs.take k ++ [cs[k]] := List.take_succ_eq_append_getElem hlt
      by_cases h1 : cs[k].2.length ≤ 100
      · have h1' : ¬ ((100 : Int) < (cs[k].2.length : Int)) := by omega
        simp only [W_seq_iff, W_seq_text, WN_cons_iff, WN_nil_iff, W_ret_iff, W_skip_iff, W_cond_iff, W_block_iff, W_exit_iff, thenQ_normal, thenQ_ret, thenQ_exit, blockQ_normal, blockQ_ret, blockQ_exit, condW_bool, goWN_true, goWN_false, goPN_done, wanted_none, wanted_some, wantV_bool, wantV_undef, plan, ev_t, ev_i, ev_b, ev_k, put_some, put_none, upd_apply, ienv_zero, ienv_succ, binV, binInt, eqV, app, List.map_nil, List.append_nil, List.map_cons, Al.all_oks, true_and, and_true, true_or, if_true, if_false, Option.map_some, reduceIte, Nat.reduceEqDiff, decide_true, decide_false, beq_self_eq_true, reduceCtorEq, ge_iff_le, Bool.false_eq_true, Bool.not_true, Bool.not_false, endQ_ret1, endQ_normal1, ret1_one, ret1_agg, outV_p, norm_int, norm_bool, norm_str, norm_nils, norm_sl, norm_box, norm_fn, norm_nilp, norm_nilf, norm_nilm, norm_mp, snapVs_nil, snapVs_cons, snapCons_some, snapV_p, fnOf, bft, btf, bff, btt, Nat.reduceAdd, List.cons_append, List.nil_append, Bool.and_true, Bool.and_false, Bool.true_and, Bool.false_and, asN_nat, rdAt, takeV, wrAt, splice, cellsV, lenL, List.drop_zero, List.take_zero, List.length_cons, List.length_nil, List.take_succ_cons, Nat.le_refl, ne_eq, not_true_eq_false, and_self, List.drop_nil, Nat.zero_add, Nat.reduceLeDiff, List.drop_succ_cons, not_false_eq_true, List.length_map, snap_p, consR_some, collect_nil, collect_cons, snapV_agg, W_draw, WO_cons_iff, WO_nil_iff, goW_true, goW_false, goP_done, partsV, elemsV, toPss, toPs, toP, fill, List.take_nil, asN_lit, Nat.reduceMul, Nat.reduceLT, Nat.mul_one, Nat.zero_mul, snapV_one, snap_hsl, snapHsl, snap_href, snapHref, snap_ps, h0, h3, hi, hlt', codeP, w1, h1']
        refine ⟨hlt, ?_⟩
        rw [ht, List.all_append, hz]
        simp [h1]
      · have h1' : ((100 : Int) < (cs[k].2.length : Int)) := by omega
        simp only [W_seq_iff, W_seq_text, WN_cons_iff, WN_nil_iff, W_ret_iff, W_skip_iff, W_cond_iff, W_block_iff, W_exit_iff, thenQ_normal, thenQ_ret, thenQ_exit, blockQ_normal, blockQ_ret, blockQ_exit, condW_bool, goWN_true, goWN_false, goPN_done, wanted_none, wanted_some, wantV_bool, wantV_undef, plan, ev_t, ev_i, ev_b, ev_k, put_some, put_none, upd_apply, ienv_zero, ienv_succ, binV, binInt, eqV, app, List.map_nil, List.append_nil, List.map_cons, Al.all_oks, true_and, and_true, true_or, if_true, if_false, Option.map_some, reduceIte, Nat.reduceEqDiff, decide_true, decide_false, beq_self_eq_true, reduceCtorEq, ge_iff_le, Bool.false_eq_true, Bool.not_true, Bool.not_false, endQ_ret1, endQ_normal1, ret1_one, ret1_agg, outV_p, norm_int, norm_bool, norm_str, norm_nils, norm_sl, norm_box, norm_fn, norm_nilp, norm_nilf, norm_nilm, norm_mp, snapVs_nil, snapVs_cons, snapCons_some, snapV_p, fnOf, bft, btf, bff, btt, Nat.reduceAdd, List.cons_append, List.nil_append, Bool.and_true, Bool.and_false, Bool.true_and, Bool.false_and, asN_nat, rdAt, takeV, wrAt, splice, cellsV, lenL, List.drop_zero, List.take_zero, List.length_cons, List.length_nil, List.take_succ_cons, Nat.le_refl, ne_eq, not_true_eq_false, and_self, List.drop_nil, Nat.zero_add, Nat.reduceLeDiff, List.drop_succ_cons, not_false_eq_true, List.length_map, snap_p, consR_some, collect_nil, collect_cons, snapV_agg, W_draw, WO_cons_iff, WO_nil_iff, goW_true, goW_false, goP_done, partsV, elemsV, toPss, toPs, toP, fill, List.take_nil, asN_lit, Nat.reduceMul, Nat.reduceLT, Nat.mul_one, Nat.zero_mul, snapV_one, snap_hsl, snapHsl, snap_href, snapHref, snap_ps, h0, h3, hi, hlt', codeP, w1, h1']
        have : fits cs = false := by
          unfold fits
          have : cs.all (fun c => decide (c.2.length ≤ 100)) = false := by
            rw [List.all_eq_false]
            exact ⟨cs[k], List.getElem_mem hlt, by simpa using h1⟩
          rw [this]; rfl
        rw [this]
    · have : k = cs.length := by omega
      subst this
      have hlt' : ¬ ((cs.length : Int) < (cs.length : Int)) := by omega
      rw [List.take_length] at hz
      by_cases h2 : cs.length ≤ 20
      · have h2' : ((cs.length : Int) ≤ 20) := by omega
        have : fits cs = true := by unfold fits; rw [hz]; simp [h2]
        simp only [W_seq_iff, W_seq_text, WN_cons_iff, WN_nil_iff, W_ret_iff, W_skip_iff, W_cond_iff, W_block_iff, W_exit_iff, thenQ_normal, thenQ_ret, thenQ_exit, blockQ_normal, blockQ_ret, blockQ_exit, condW_bool, goWN_true, goWN_false, goPN_done, wanted_none, wanted_some, wantV_bool, wantV_undef, plan, ev_t, ev_i, ev_b, ev_k, put_some, put_none, upd_apply, ienv_zero, ienv_succ, binV, binInt, eqV, app, List.map_nil, List.append_nil, List.map_cons, Al.all_oks, true_and, and_true, true_or, if_true, if_false, Option.map_some, reduceIte, Nat.reduceEqDiff, decide_true, decide_false, beq_self_eq_true, reduceCtorEq, ge_iff_le, Bool.false_eq_true, Bool.not_true, Bool.not_false, endQ_ret1, endQ_normal1, ret1_one, ret1_agg, outV_p, norm_int, norm_bool, norm_str, norm_nils, norm_sl, norm_box, norm_fn, norm_nilp, norm_nilf, norm_nilm, norm_mp, snapVs_nil, snapVs_cons, snapCons_some, snapV_p, fnOf, bft, btf, bff, btt, Nat.reduceAdd, List.cons_append, List.nil_append, Bool.and_true, Bool.and_false, Bool.true_and, Bool.false_and, asN_nat, rdAt, takeV, wrAt, splice, cellsV, lenL, List.drop_zero, List.take_zero, List.length_cons, List.length_nil, List.take_succ_cons, Nat.le_refl, ne_eq, not_true_eq_false, and_self, List.drop_nil, Nat.zero_add, Nat.reduceLeDiff, List.drop_succ_cons, not_false_eq_true, List.length_map, snap_p, consR_some, collect_nil, collect_cons, snapV_agg, W_draw, WO_cons_iff, WO_nil_iff, goW_true, goW_false, goP_done, partsV, elemsV, toPss, toPs, toP, fill, List.take_nil, asN_lit, Nat.reduceMul, Nat.reduceLT, Nat.mul_one, Nat.zero_mul, snapV_one, snap_hsl, snapHsl, snap_href, snapHref, snap_ps, h0, h3, hlt', h2', this]
      · have h2' : ¬ ((cs.length : Int) ≤ 20) := by omega
        have : fits cs = false := by unfold fits; rw [hz]; simp [h2]
        simp only [W_seq_iff, W_seq_text, WN_cons_iff, WN_nil_iff, W_ret_iff, W_skip_iff, W_cond_iff, W_block_iff, W_exit_iff, thenQ_normal, thenQ_ret, thenQ_exit, blockQ_normal, blockQ_ret, blockQ_exit, condW_bool, goWN_true, goWN_false, goPN_done, wanted_none, wanted_some, wantV_bool, wantV_undef, plan, ev_t, ev_i, ev_b, ev_k, put_some, put_none, upd_apply, ienv_zero, ienv_succ, binV, binInt, eqV, app, List.map_nil, List.append_nil, List.map_cons, Al.all_oks, true_and, and_true, true_or, if_true, if_false, Option.map_some, reduceIte, Nat.reduceEqDiff, decide_true, decide_false, beq_self_eq_true, reduceCtorEq, ge_iff_le, Bool.false_eq_true, Bool.not_true, Bool.not_false, endQ_ret1, endQ_normal1, ret1_one, ret1_agg, outV_p, norm_int, norm_bool, norm_str, norm_nils, norm_sl, norm_box, norm_fn, norm_nilp, norm_nilf, norm_nilm, norm_mp, snapVs_nil, snapVs_cons, snapCons_some, snapV_p, fnOf, bft, btf, bff, btt, Nat.reduceAdd, List.cons_append, List.nil_append, Bool.and_true, Bool.and_false, Bool.true_and, Bool.false_and, asN_nat, rdAt, takeV, wrAt, splice, cellsV, lenL, List.drop_zero, List.take_zero, List.length_cons, List.length_nil, List.take_succ_cons, Nat.le_refl, ne_eq, not_true_eq_false, and_self, List.drop_nil, Nat.zero_add, Nat.reduceLeDiff, List.drop_succ_cons, not_false_eq_true, List.length_map, snap_p, consR_some, collect_nil, collect_cons, snapV_agg, W_draw, WO_cons_iff, WO_nil_iff, goW_true, goW_false, goP_done, partsV, elemsV, toPss, toPs, toP, fill, List.take_nil, asN_lit, Nat.reduceMul, Nat.reduceLT, Nat.mul_one, Nat.zero_mul, snapV_one, snap_hsl, snapHsl, snap_href, snapHref, snap_ps, h0, h3, hlt', h2', this]

theorem equal22 (f g : Int) (a b : List Let) (ha : a.length ≤ 1000) : PEv S 22 [codeV f a, codeV g b] (.one (.p (.bool (decide (f = g ∧ a = b))))) := by
  refine PEv_fn rfl (S_fns4 c22) (Nat.le_of_ble_eq_true rfl) ?_
  by_cases h1 : f = g
  case neg =>
    have h1' : (f != g) = true := by simp [h1]
    have h1d : decide (f = g ∧ a = b) = false := by simp [h1]
    simp only [W_seq_iff, W_seq_text, WN_cons_iff, WN_nil_iff, W_ret_iff, W_skip_iff, W_cond_iff, W_block_iff, W_exit_iff, thenQ_normal, thenQ_ret, thenQ_exit, blockQ_normal, blockQ_ret, blockQ_exit, condW_bool, goWN_true, goWN_false, goPN_done, wanted_none, wanted_some, wantV_bool, wantV_undef, plan, ev_t, ev_i, ev_b, ev_k, put_some, put_none, upd_apply, ienv_zero, ienv_succ, binV, binInt, eqV, app, List.map_nil, List.append_nil, List.map_cons, Al.all_oks, true_and, and_true, true_or, if_true, if_false, Option.map_some, reduceIte, Nat.reduceEqDiff, decide_true, decide_false, beq_self_eq_true, reduceCtorEq, ge_iff_le, Bool.false_eq_true, Bool.not_true, Bool.not_false, endQ_ret1, endQ_normal1, ret1_one, ret1_agg, outV_p, norm_int, norm_bool, norm_str, norm_nils, norm_sl, norm_box, norm_fn, norm_nilp, norm_nilf, norm_nilm, norm_mp, snapVs_nil, snapVs_cons, snapCons_some, snapV_p, fnOf, bft, btf, bff, btt, Nat.reduceAdd, List.cons_append, List.nil_append, Bool.and_true, Bool.and_false, Bool.true_and, Bool.false_and, asN_nat, rdAt, takeV, wrAt, splice, cellsV, lenL, List.drop_zero, List.take_zero, List.length_cons, List.length_nil, List.take_succ_cons, Nat.le_refl, ne_eq, not_true_eq_false, and_self, List.drop_nil, Nat.zero_add, Nat.reduceLeDiff, List.drop_succ_cons, not_false_eq_true, List.length_map, snap_p, consR_some, collect_nil, collect_cons, snapV_agg, W_draw, WO_cons_iff, WO_nil_iff, goW_true, goW_false, goP_done, partsV, elemsV, toPss, toPs, toP, fill, List.take_nil, asN_lit, Nat.reduceMul, Nat.reduceLT, Nat.mul_one, Nat.zero_mul, snapV_one, snap_hsl, snapHsl, snap_href, snapHref, snap_ps, i22, noBlk, h1', h1d]
  subst h1
  have h1' : (f != f) = false := by simp
  by_cases h2 : a.length = b.length
  case neg =>
    have h2' : ((a.length : Int) != (b.length : Int)) = true := by simp; omega
    have h2d : decide (a = b) = false := by simp; intro h; exact h2 (by rw [h])
    simp only [W_seq_iff, W_seq_text, WN_cons_iff, WN_nil_iff, W_ret_iff, W_skip_iff, W_cond_iff, W_block_iff, W_exit_iff, thenQ_normal, thenQ_ret, thenQ_exit, blockQ_normal, blockQ_ret, blockQ_exit, condW_bool, goWN_true, goWN_false, goPN_done, wanted_none, wanted_some, wantV_bool, wantV_undef, plan, ev_t, ev_i, ev_b, ev_k, put_some, put_none, upd_apply, ienv_zero, ienv_succ, binV, binInt, eqV, app, List.map_nil, List.append_nil, List.map_cons, Al.all_oks, true_and, and_true, true_or, if_true, if_false, Option.map_some, reduceIte, Nat.reduceEqDiff, decide_true, decide_false, beq_self_eq_true, reduceCtorEq, ge_iff_le, Bool.false_eq_true, Bool.not_true, Bool.not_false, endQ_ret1, endQ_normal1, ret1_one, ret1_agg, outV_p, norm_int, norm_bool, norm_str, norm_nils, norm_sl, norm_box, norm_fn, norm_nilp, norm_nilf, norm_nilm, norm_mp, snapVs_nil, snapVs_cons, snapCons_some, snapV_p, fnOf, bft, btf, bff, btt, Nat.reduceAdd, List.cons_append, List.nil_append, Bool.and_true, Bool.and_false, Bool.true_and, Bool.false_and, asN_nat, rdAt, takeV, wrAt, splice, cellsV, lenL, List.drop_zero, List.take_zero, List.length_cons, List.length_nil, List.take_succ_cons, Nat.le_refl, ne_eq, not_true_eq_false, and_self, List.drop_nil, Nat.zero_add, Nat.reduceLeDiff, List.drop_succ_cons, not_false_eq_true, List.length_map, snap_p, consR_some, collect_nil, collect_cons, snapV_agg, W_draw, WO_cons_iff, WO_nil_iff, goW_true, goW_false, goP_done, partsV, elemsV, toPss, toPs, toP, fill, List.take_nil, asN_lit, Nat.reduceMul, Nat.reduceLT, Nat.mul_one, Nat.zero_mul, snapV_one, snap_hsl, snapHsl, snap_href, snapHref, snap_ps, i22, noBlk, h1', h2', h2d]
  have h2' : ((a.length : Int) != (b.length : Int)) = false := by simp; omega
  simp only [W_seq_iff, W_seq_text, WN_cons_iff, WN_nil_iff, W_ret_iff, W_skip_iff, W_cond_iff, W_block_iff, W_exit_iff, thenQ_normal, thenQ_ret, thenQ_exit, blockQ_normal, blockQ_ret, blockQ_exit, condW_bool, goWN_true, goWN_false, goPN_done, wanted_none, wanted_some, wantV_bool, wantV_undef, plan, ev_t, ev_i, ev_b, ev_k, put_some, put_none, upd_apply, ienv_zero, ienv_succ, binV, binInt, eqV, app, List.map_nil, List.append_nil, List.map_cons, Al.all_oks, true_and, and_true, true_or, if_true, if_false, Option.map_some, reduceIte, Nat.reduceEqDiff, decide_true, decide_false, beq_self_eq_true, reduceCtorEq, ge_iff_le, Bool.false_eq_true, Bool.not_true, Bool.not_false, endQ_ret1, endQ_normal1, ret1_one, ret1_agg, outV_p, norm_int, norm_bool, norm_str, norm_nils, norm_sl, norm_box, norm_fn, norm_nilp, norm_nilf, norm_nilm, norm_mp, snapVs_nil, snapVs_cons, snapCons_some, snapV_p, fnOf, bft, btf, bff, btt, Nat.reduceAdd, List.cons_append, List.nil_append, Bool.and_true, Bool.and_false, Bool.true_and, Bool.false_and, asN_nat, rdAt, takeV, wrAt, splice, cellsV, lenL, List.drop_zero, List.take_zero, List.length_cons, List.length_nil, List.take_succ_cons, Nat.le_refl, ne_eq, not_true_eq_false, and_self, List.drop_nil, Nat.zero_add, Nat.reduceLeDiff, List.drop_succ_cons, not_false_eq_true, List.length_map, snap_p, consR_some, collect_nil, collect_cons, snapV_agg, W_draw, WO_cons_iff, WO_nil_iff, goW_true, goW_false, goP_done, partsV, elemsV, toPss, toPs, toP, fill, List.take_nil, asN_lit, Nat.reduceMul, Nat.reduceLT, Nat.mul_one, Nat.zero_mul, snapV_one, snap_hsl, snapHsl, snap_href, snapHref, snap_ps, i22, noBlk, h1', h2']
  refine W_for (fun k env blk => env 2 = .one (.href 1408000000 1 0) ∧ blk 1408000000 = (1, some (.var [.p (.int .i64 f), .p (.sl (a.map Let.ps))])) ∧ env 3 = .one (.href 1408000064 1 0) ∧ blk 1408000064 = (1, some (.var [.p (.int .i64 f), .p (.sl (b.map Let.ps))])) ∧ env 5 = .one (.p (.int .i64 k)) ∧ a.take k = b.take k) 0 a.length (Nat.zero_le _) ?_ ?_
  · simp only [W_seq_iff, W_seq_text, WN_cons_iff, WN_nil_iff, W_ret_iff, W_skip_iff, W_cond_iff, W_block_iff, W_exit_iff, thenQ_normal, thenQ_ret, thenQ_exit, blockQ_normal, blockQ_ret, blockQ_exit, condW_bool, goWN_true, goWN_false, goPN_done, wanted_none, wanted_some, wantV_bool, wantV_undef, plan, ev_t, ev_i, ev_b, ev_k, put_some, put_none, upd_apply, ienv_zero, ienv_succ, binV, binInt, eqV, app, List.map_nil, List.append_nil, List.map_cons, Al.all_oks, true_and, and_true, true_or, if_true, if_false, Option.map_some, reduceIte, Nat.reduceEqDiff, decide_true, decide_false, beq_self_eq_true, reduceCtorEq, ge_iff_le, Bool.false_eq_true, Bool.not_true, Bool.not_false, endQ_ret1, endQ_normal1, ret1_one, ret1_agg, outV_p, norm_int, norm_bool, norm_str, norm_nils, norm_sl, norm_box, norm_fn, norm_nilp, norm_nilf, norm_nilm, norm_mp, snapVs_nil, snapVs_cons, snapCons_some, snapV_p, fnOf, bft, btf, bff, btt, Nat.reduceAdd, List.cons_append, List.nil_append, Bool.and_true, Bool.and_false, Bool.true_and, Bool.false_and, asN_nat, rdAt, takeV, wrAt, splice, cellsV, lenL, List.drop_zero, List.take_zero, List.length_cons, List.length_nil, List.take_succ_cons, Nat.le_refl, ne_eq, not_true_eq_false, and_self, List.drop_nil, Nat.zero_add, Nat.reduceLeDiff, List.drop_succ_cons, not_false_eq_true, List.length_map, snap_p, consR_some, collect_nil, collect_cons, snapV_agg, W_draw, WO_cons_iff, WO_nil_iff, goW_true, goW_false, goP_done, partsV, elemsV, toPss, toPs, toP, fill, List.take_nil, asN_lit, Nat.reduceMul, Nat.reduceLT, Nat.mul_one, Nat.zero_mul, snapV_one, snap_hsl, snapHsl, snap_href, snapHref, snap_ps]
    exact rfl
  · rintro k env blk hk ⟨e2, b2, e3, b3, e5, hz⟩
    by_cases hlt : k < a.length
    · have hlb : k < b.length := by omega
      have hi : (a.map Let.ps)[k]? = some (a[k].ps) := by simp [hlt]
      have hj : (b.map Let.ps)[k]? = some (b[k].ps) := by simp [hlb]
      have hlt' : ((k : Int) < (a.length : Int)) := by omega
      have w1 := wrap_succ (n := k) (by omega)
      have he := eqCs_let a[k] b[k]
      simp only [Let.ps, List.map_cons, List.map_nil] at he
      by_cases h3 : a[k] = b[k]
      · have h4 := eqL_iff.2 h3
        rw [h4] at he
        simp only [W_seq_iff, W_seq_text, WN_cons_iff, WN_nil_iff, W_ret_iff, W_skip_iff, W_cond_iff, W_block_iff, W_exit_iff, thenQ_normal, thenQ_ret, thenQ_exit, blockQ_normal, blockQ_ret, blockQ_exit, condW_bool, goWN_true, goWN_false, goPN_done, wanted_none, wanted_some, wantV_bool, wantV_undef, plan, ev_t, ev_i, ev_b, ev_k, put_some, put_none, upd_apply, ienv_zero, ienv_succ, binV, binInt, eqV, app, List.map_nil, List.append_nil, List.map_cons, Al.all_oks, true_and, and_true, true_or, if_true, if_false, Option.map_some, reduceIte, Nat.reduceEqDiff, decide_true, decide_false, beq_self_eq_true, reduceCtorEq, ge_iff_le, Bool.false_eq_true, Bool.not_true, Bool.not_false, endQ_ret1, endQ_normal1, ret1_one, ret1_agg, outV_p, norm_int, norm_bool, norm_str, norm_nils, norm_sl, norm_box, norm_fn, norm_nilp, norm_nilf, norm_nilm, norm_mp, snapVs_nil, snapVs_cons, snapCons_some, snapV_p, fnOf, bft, btf, bff, btt, Nat.reduceAdd, List.cons_append, List.nil_append, Bool.and_true, Bool.and_false, Bool.true_and, Bool.false_and, asN_nat, rdAt, takeV, wrAt, splice, cellsV, lenL, List.drop_zero, List.take_zero, List.length_cons, List.length_nil, List.take_succ_cons, Nat.le_refl, ne_eq, not_true_eq_false, and_self, List.drop_nil, Nat.zero_add, Nat.reduceLeDiff, List.drop_succ_cons, not_false_eq_true, List.length_map, snap_p, consR_some, collect_nil, collect_cons, snapV_agg, W_draw, WO_cons_iff, WO_nil_iff, goW_true, goW_false, goP_done, partsV, elemsV, toPss, toPs, toP, fill, List.take_nil, asN_lit, Nat.reduceMul, Nat.reduceLT, Nat.mul_one, Nat.zero_mul, snapV_one, snap_hsl, snapHsl, snap_href, snapHref, snap_ps, e2, b2, e3, b3, e5, hi, hj, hlt', Let.ps, w1, he]
        refine ⟨by kernel_rfl, hlt, ?_⟩
        rw [List.take_succ_eq_append_getElem hlt, List.take_succ_eq_append_getElem hlb, hz, h3]
      · have h4 : eqL a[k] b[k] = false := by
          cases hh : eqL a[k] b[k] with
          | false => rfl
          | true => exact (h3 (eqL_iff.1 hh)).elim
        rw [h4] at he
        have h5 : decide (a = b) = false := by
          simp
          rintro rfl
          exact h3 rfl
        simp only [W_seq_iff, W_seq_text, WN_cons_iff, WN_nil_iff, W_ret_iff, W_skip_iff, W_cond_iff, W_block_iff, W_exit_iff, thenQ_normal, thenQ_ret, thenQ_exit, blockQ_normal, blockQ_ret, blockQ_exit, condW_bool, goWN_true, goWN_false, goPN_done, wanted_none, wanted_some, wantV_bool, wantV_undef, plan, ev_t, ev_i, ev_b, ev_k, put_some, put_none, upd_apply, ienv_zero, ienv_succ, binV, binInt, eqV, app, List.map_nil, List.append_nil, List.map_cons, Al.all_oks, true_and, and_true, true_or, if_true, if_false, Option.map_some, reduceIte, Nat.reduceEqDiff, decide_true, decide_false, beq_self_eq_true, reduceCtorEq, ge_iff_le, Bool.false_eq_true, Bool.not_true, Bool.not_false, endQ_ret1, endQ_normal1, ret1_one, ret1_agg, outV_p, norm_int, norm_bool, norm_str, norm_nils, norm_sl, norm_box, norm_fn, norm_nilp, norm_nilf, norm_nilm, norm_mp, snapVs_nil, snapVs_cons, snapCons_some, snapV_p, fnOf, bft, btf, bff, btt, Nat.reduceAdd, List.cons_append, List.nil_append, Bool.and_true, Bool.and_false, Bool.true_and, Bool.false_and, asN_nat, rdAt, takeV, wrAt, splice, cellsV, lenL, List.drop_zero, List.take_zero, List.length_cons, List.length_nil, List.take_succ_cons, Nat.le_refl, ne_eq, not_true_eq_false, and_self, List.drop_nil, Nat.zero_add, Nat.reduceLeDiff, List.drop_succ_cons, not_false_eq_true, List.length_map, snap_p, consR_some, collect_nil, collect_cons, snapV_agg, W_draw, WO_cons_iff, WO_nil_iff, goW_true, goW_false, goP_done, partsV, elemsV, toPss, toPs, toP, fill, List.take_nil, asN_lit, Nat.reduceMul, Nat.reduceLT, Nat.mul_one, Nat.zero_mul, snapV_one, snap_hsl, snapHsl, snap_href, snapHref, snap_ps, e2, b2, e3, b3, e5, hi, hj, hlt', Let.ps, w1, he, h5]
        first | rfl | (refine Eq.trans ?_ rfl; kernel_rfl)
    · have : k = a.length := by omega
      subst this
      have hlt' : ¬ ((a.length : Int) < (a.length : Int)) := by omega
      have h5 : decide (a = b) = true := by
        rw [List.take_length, h2, List.take_length] at hz
        simp [hz]
      simp only [W_seq_iff, W_seq_text, WN_cons_iff, WN_nil_iff, W_ret_iff, W_skip_iff, W_cond_iff, W_block_iff, W_exit_iff, thenQ_normal, thenQ_ret, thenQ_exit, blockQ_normal, blockQ_ret, blockQ_exit, condW_bool, goWN_true, goWN_false, goPN_done, wanted_none, wanted_some, wantV_bool, wantV_undef, plan, ev_t, ev_i, ev_b, ev_k, put_some, put_none, upd_apply, ienv_zero, ienv_succ, binV, binInt, eqV, app, List.map_nil, List.append_nil, List.map_cons, Al.all_oks, true_and, and_true, true_or, if_true, if_false, Option.map_some, reduceIte, Nat.reduceEqDiff, decide_true, decide_false, beq_self_eq_true, reduceCtorEq, ge_iff_le, Bool.false_eq_true, Bool.not_true, Bool.not_false, endQ_ret1, endQ_normal1, ret1_one, ret1_agg, outV_p, norm_int, norm_bool, norm_str, norm_nils, norm_sl, norm_box, norm_fn, norm_nilp, norm_nilf, norm_nilm, norm_mp, snapVs_nil, snapVs_cons, snapCons_some, snapV_p, fnOf, bft, btf, bff, btt, Nat.reduceAdd, List.cons_append, List.nil_append, Bool.and_true, Bool.and_false, Bool.true_and, Bool.false_and, asN_nat, rdAt, takeV, wrAt, splice, cellsV, lenL, List.drop_zero, List.take_zero, List.length_cons, List.length_nil, List.take_succ_cons, Nat.le_refl, ne_eq, not_true_eq_false, and_self, List.drop_nil, Nat.zero_add, Nat.reduceLeDiff, List.drop_succ_cons, not_false_eq_true, List.length_map, snap_p, consR_some, collect_nil, collect_cons, snapV_agg, W_draw, WO_cons_iff, WO_nil_iff, goW_true, goW_false, goP_done, partsV, elemsV, toPss, toPs, toP, fill, List.take_nil, asN_lit, Nat.reduceMul, Nat.reduceLT, Nat.mul_one, Nat.zero_mul, snapV_one, snap_hsl, snapHsl, snap_href, snapHref, snap_ps, e2, b2, e3, b3, e5, hlt', h5]
end Go.Abs
namespace Go.Abs
set_option maxRecDepth 100000
/-- lists of numbers, in order -/
def lexI : List Int → List Int → Int
  | [], [] => 0
  | [], _ :: _ => -1
  | _ :: _, [] => 1
  | x :: xs, y :: ys => if x < y then -1 else if y < x then 1 else lexI xs ys

theorem lexI_self (p : List Int) : lexI p p = 0 := by
  induction p with
  | nil => rfl
  | cons x p ih => simp [lexI, ih]
theorem lexI_anti : ∀ (p q : List Int), lexI q p = - lexI p q := by
  intro p
  induction p with
  | nil => intro q; cases q <;> rfl
  | cons x p ih =>
    intro q
    cases q with
    | nil => rfl
    | cons y q =>
      simp only [lexI]
      by_cases h1 : x < y
      · have h2 : ¬ y < x := by omega
        simp [h1, h2]
      · by_cases h2 : y < x
        · simp [h1, h2]
        · simp only [h1, h2, if_false]; exact ih q
theorem lexI_vals : ∀ (p q : List Int), lexI p q = -1 ∨ lexI p q = 0 ∨ lexI p q = 1 := by
  intro p
  induction p with
  | nil => intro q; cases q <;> simp [lexI]
  | cons x p ih =>
    intro q
    cases q with
    | nil => simp [lexI]
    | cons y q =>
      simp only [lexI]
      split
      · simp
      · split
        · simp
        · exact ih q
theorem lexI_trans : ∀ (p q r : List Int), lexI p q ≤ 0 → lexI q r ≤ 0 → lexI p r ≤ 0 := by
  intro p
  induction p with
  | nil => intro q r _ _; cases r <;> simp [lexI]
  | cons x p ih =>
    intro q r h1 h2
    cases q with
    | nil => simp [lexI] at h1
    | cons y q =>
      cases r with
      | nil => simp [lexI] at h2
      | cons z r =>
        simp only [lexI] at h1 h2 ⊢
        by_cases a1 : x < y
        · by_cases a2 : y < z
          · rw [if_pos (by omega)]; omega
          · rw [if_neg a2] at h2
            by_cases a3 : z < y
            · rw [if_pos a3] at h2; omega
            · rw [if_pos (by omega)]; omega
        · rw [if_neg a1] at h1
          by_cases a3 : y < x
          · rw [if_pos a3] at h1; omega
          · rw [if_neg a3] at h1
            have : x = y := by omega
            subst this
            by_cases a4 : x < z
            · rw [if_pos a4]; omega
            · rw [if_neg a4] at h2 ⊢
              by_cases a5 : z < x
              · rw [if_pos a5] at h2; omega
              · rw [if_neg a5] at h2 ⊢
                exact ih q r h1 h2
theorem lexI_zero : ∀ (p q : List Int), lexI p q = 0 → p = q := by
  intro p
  induction p with
  | nil => intro q h; cases q with
    | nil => rfl
    | cons y q => simp [lexI] at h
  | cons x p ih =>
    intro q h
    cases q with
    | nil => simp [lexI] at h
    | cons y q =>
      simp only [lexI] at h
      by_cases a1 : x < y
      · rw [if_pos a1] at h; omega
      · rw [if_neg a1] at h
        by_cases a2 : y < x
        · rw [if_pos a2] at h; omega
        · rw [if_neg a2] at h
          rw [ih q h, show x = y by omega]

theorem ordL_zip : ∀ (p q : List Int), p.length = q.length → ordL (p.zip q) = lexI p q := by
  intro p
  induction p with
  | nil => intro q h; cases q with
    | nil => rfl
    | cons y q => simp at h
  | cons x p ih =>
    intro q h
    cases q with
    | nil => simp at h
    | cons y q =>
      simp only [List.zip_cons_cons, ordL, lexI, ih q (by simpa using h)]
      by_cases a1 : x < y
      · have : cmpI x y = -1 := by unfold cmpI; rw [if_pos a1]
        rw [this, if_pos a1]; rfl
      · by_cases a2 : y < x
        · have : cmpI x y = 1 := by unfold cmpI; rw [if_neg a1, if_pos a2]
          rw [this, if_neg a1, if_pos a2]; rfl
        · have : cmpI x y = 0 := by unfold cmpI; rw [if_neg a1, if_neg a2]
          rw [this, if_neg a1, if_neg a2]; rfl

def Let.kl (l : Let) : List Int := [l.kind, l.gate, l.rank, l.id, bI l.over, l.sign]
def ckey (f : Int) (a : List Let) : List Int := f :: (cnt a : Int) :: (a.length : Int) :: a.flatMap Let.kl
theorem kl_zip : ∀ (a b : List Let), a.length = b.length → (a.zip b).flatMap (fun p => p.1.key p.2) = (a.flatMap Let.kl).zip (b.flatMap Let.kl) := by
  intro a
  induction a with
  | nil => intro b _; rfl
  | cons x a ih =>
    intro b h
    cases b with
    | nil => simp at h
    | cons y b =>
      simp only [List.zip_cons_cons, List.flatMap_cons]
      rw [ih b (by simpa using h)]
      rfl
theorem kl_len (a : List Let) : (a.flatMap Let.kl).length = 6 * a.length := by
  induction a with
  | nil => rfl
  | cons x a ih => simp only [List.flatMap_cons, List.length_append, ih, List.length_cons, Let.kl, List.length_nil]; omega
theorem kl_inj : ∀ (a b : List Let), a.length = b.length → a.flatMap Let.kl = b.flatMap Let.kl → a = b := by
  intro a
  induction a with
  | nil => intro b h _; cases b with
    | nil => rfl
    | cons y b => simp at h
  | cons x a ih =>
    intro b h he
    cases b with
    | nil => simp at h
    | cons y b =>
      simp only [List.flatMap_cons, Let.kl, List.cons_append, List.nil_append, List.cons.injEq] at he
      obtain ⟨h1, h2, h3, h4, h5, h6, h7⟩ := he
      rw [ih b (by simpa using h) h7]
      obtain ⟨a1, a2, a3, a4, a5, a6⟩ := x
      obtain ⟨b1, b2, b3, b4, b5, b6⟩ := y
      simp only at h1 h2 h3 h4 h5 h6
      subst h1 h2 h3 h4 h6
      have : a6 = b6 := by revert h5; cases a6 <;> cases b6 <;> simp [bI]
      rw [this]
theorem cmpC_lex (f : Int) (a : List Let) (g : Int) (b : List Let) : cmpC f a g b = lexI (ckey f a) (ckey g b) := by
  have h0 := ordL_zip [f, (cnt a : Int), (a.length : Int)] [g, (cnt b : Int), (b.length : Int)] rfl
  have e0 : [f, (cnt a : Int), (a.length : Int)].zip [g, (cnt b : Int), (b.length : Int)] = [(f, g), ((cnt a : Int), (cnt b : Int)), ((a.length : Int), (b.length : Int))] := rfl
  rw [e0] at h0
  have key : ∀ (p q r s : List Int), p.length = q.length → lexI (p ++ r) (q ++ s) = if lexI p q = 0 then lexI r s else lexI p q := by
    intro p
    induction p with
    | nil => intro q r s h; cases q with
      | nil => simp [lexI]
      | cons y q => simp at h
    | cons x p ih =>
      intro q r s h
      cases q with
      | nil => simp at h
      | cons y q =>
        simp only [List.cons_append, lexI]
        by_cases a1 : x < y
        · simp [a1]
        · by_cases a2 : y < x
          · simp [a1, a2]
          · simp only [a1, a2, if_false]; exact ih q r s (by simpa using h)
  have hk : lexI (ckey f a) (ckey g b) = if lexI [f, (cnt a : Int), (a.length : Int)] [g, (cnt b : Int), (b.length : Int)] = 0 then lexI (a.flatMap Let.kl) (b.flatMap Let.kl) else lexI [f, (cnt a : Int), (a.length : Int)] [g, (cnt b : Int), (b.length : Int)] :=
    key [f, (cnt a : Int), (a.length : Int)] [g, (cnt b : Int), (b.length : Int)] _ _ rfl
  rw [hk]
  unfold cmpC
  simp only [h0]
  by_cases hz : lexI [f, (cnt a : Int), (a.length : Int)] [g, (cnt b : Int), (b.length : Int)] = 0
  · rw [if_pos hz, if_pos hz]
    have he := lexI_zero _ _ hz
    simp only [List.cons.injEq] at he
    have hl : a.length = b.length := by have := he.2.2.1; omega
    rw [kl_zip a b hl, ordL_zip _ _ (by rw [kl_len, kl_len, hl])]
  · rw [if_neg hz, if_neg hz]

theorem cmpC_self (f : Int) (a : List Let) : cmpC f a f a = 0 := by rw [cmpC_lex, lexI_self]
theorem cmpC_anti (f : Int) (a : List Let) (g : Int) (b : List Let) : cmpC g b f a = - cmpC f a g b := by rw [cmpC_lex, cmpC_lex, lexI_anti]
theorem cmpC_vals (f : Int) (a : List Let) (g : Int) (b : List Let) : cmpC f a g b = -1 ∨ cmpC f a g b = 0 ∨ cmpC f a g b = 1 := by rw [cmpC_lex]; exact lexI_vals _ _
theorem cmpC_trans (f : Int) (a : List Let) (g : Int) (b : List Let) (h : Int) (d : List Let) (h1 : cmpC f a g b ≤ 0) (h2 : cmpC g b h d ≤ 0) : cmpC f a h d ≤ 0 := by
  rw [cmpC_lex] at *
  exact lexI_trans _ _ _ h1 h2
theorem cmpC_zero (f : Int) (a : List Let) (g : Int) (b : List Let) (h : cmpC f a g b = 0) : f = g ∧ a = b := by
  rw [cmpC_lex] at h
  have := lexI_zero _ _ h
  simp only [ckey, List.cons.injEq] at this
  obtain ⟨h1, _, h3, h4⟩ := this
  exact ⟨h1, kl_inj a b (by omega) h4⟩
end Go.Abs
namespace Go.Abs
set_option maxRecDepth 100000
def codeAt (cs : List (Int × List Let)) (k : Nat) : Int × List Let := cs.getD k (0, [])
def bst (cs : List (Int × List Let)) : Nat → Option Nat
  | 0 => none
  | k + 1 => match bst cs k with
    | none => some k
    | some j => if cmpC (codeAt cs k).1 (codeAt cs k).2 (codeAt cs j).1 (codeAt cs j).2 < 0 then some k else some j
def bstI : Option Nat → Int
  | none => -1
  | some j => j
theorem bst_lt (cs : List (Int × List Let)) : ∀ (k j : Nat), bst cs k = some j → j < k := by
  intro k
  induction k with
  | zero => intro j h; cases h
  | succ k ih =>
    intro j h
    simp only [bst] at h
    split at h
    · cases h; omega
    · rename_i i hi
      split at h
      · cases h; omega
      · cases h; have := ih _ hi; omega
theorem bst_none (cs : List (Int × List Let)) (k : Nat) (h : bst cs k = none) : bst cs (k + 1) = some k := by simp only [bst, h]
theorem bst_some (cs : List (Int × List Let)) (k j : Nat) (h : bst cs k = some j) : bst cs (k + 1) = if cmpC (codeAt cs k).1 (codeAt cs k).2 (codeAt cs j).1 (codeAt cs j).2 < 0 then some k else some j := by simp only [bst, h]
theorem codeAt_get (cs : List (Int × List Let)) (k : Nat) (h : k < cs.length) : (cs.map codeP)[k]? = some [.int .i64 (codeAt cs k).1, .sl ((codeAt cs k).2.map Let.ps)] := by
  simp [codeAt, h, codeP]
theorem codeAt_len {cs : List (Int × List Let)} (hf : fits cs = true) (k : Nat) (h : k < cs.length) : (codeAt cs k).2.length ≤ 1000 := by
  simp only [fits, Bool.and_eq_true, List.all_eq_true, decide_eq_true_eq] at hf
  have := hf.1 cs[k] (List.getElem_mem h)
  simp only [codeAt, List.getD, List.getElem?_eq_getElem h, Option.getD_some]
  omega
theorem neg1 : ((-1 : Int) < 0) = True := by simp

set_option maxHeartbeats 1000000 in
theorem least23 (cs : List (Int × List Let)) (hf : fits cs = true) : PEv S 23 [.one (.p (.sl (cs.map codeP)))] (.one (.p (.int .i64 (bstI (bst cs cs.length))))) := by
  have s20 : S.shared 20 = false := by kernel_rfl
  have hlen : cs.length ≤ 20 := by
    have := hf
    simp only [fits, Bool.and_eq_true, decide_eq_true_eq] at this
    exact this.2
  refine PEv_fn rfl (S_fns4 c23) (Nat.le_of_ble_eq_true rfl) ?_
  simp only [W_seq_iff, W_seq_text, WN_cons_iff, WN_nil_iff, W_ret_iff, W_skip_iff, W_cond_iff, W_block_iff, W_exit_iff, thenQ_normal, thenQ_ret, thenQ_exit, blockQ_normal, blockQ_ret, blockQ_exit, condW_bool, goWN_true, goWN_false, goPN_done, wanted_none, wanted_some, wantV_bool, wantV_undef, plan, ev_t, ev_i, ev_b, ev_k, put_some, put_none, upd_apply, ienv_zero, ienv_succ, binV, binInt, eqV, app, List.map_nil, List.append_nil, List.map_cons, Al.all_oks, true_and, and_true, true_or, if_true, if_false, Option.map_some, reduceIte, Nat.reduceEqDiff, decide_true, decide_false, beq_self_eq_true, reduceCtorEq, ge_iff_le, Bool.false_eq_true, Bool.not_true, Bool.not_false, endQ_ret1, endQ_normal1, ret1_one, ret1_agg, outV_p, norm_int, norm_bool, norm_str, norm_nils, norm_sl, norm_box, norm_fn, norm_nilp, norm_nilf, norm_nilm, norm_mp, snapVs_nil, snapVs_cons, snapCons_some, snapV_p, fnOf, bft, btf, bff, btt, Nat.reduceAdd, List.cons_append, List.nil_append, Bool.and_true, Bool.and_false, Bool.true_and, Bool.false_and, asN_nat, rdAt, takeV, wrAt, splice, cellsV, lenL, List.drop_zero, List.take_zero, List.length_cons, List.length_nil, List.take_succ_cons, Nat.le_refl, ne_eq, not_true_eq_false, and_self, List.drop_nil, Nat.zero_add, Nat.reduceLeDiff, List.drop_succ_cons, not_false_eq_true, List.length_map, snap_p, consR_some, collect_nil, collect_cons, snapV_agg, W_draw, WO_cons_iff, WO_nil_iff, goW_true, goW_false, goP_done, partsV, elemsV, toPss, toPs, toP, fill, List.take_nil, asN_lit, Nat.reduceMul, Nat.reduceLT, Nat.mul_one, Nat.zero_mul, snapV_one, snap_hsl, snapHsl, snap_href, snapHref, snap_ps, i23]
  refine W_for (fun k env _ => env 0 = .one (.p (.sl (cs.map codeP))) ∧ env 6 = .one (.p (.sl (cs.map codeP))) ∧ env 7 = .one (.p (.int .i64 cs.length)) ∧ env 8 = .one (.p (.int .i64 k)) ∧ env 3 = .one (.p (.int .i64 (bstI (bst cs k))))) 0 cs.length (Nat.zero_le _) ?_ ?_
  · simp only [W_seq_iff, W_seq_text, WN_cons_iff, WN_nil_iff, W_ret_iff, W_skip_iff, W_cond_iff, W_block_iff, W_exit_iff, thenQ_normal, thenQ_ret, thenQ_exit, blockQ_normal, blockQ_ret, blockQ_exit, condW_bool, goWN_true, goWN_false, goPN_done, wanted_none, wanted_some, wantV_bool, wantV_undef, plan, ev_t, ev_i, ev_b, ev_k, put_some, put_none, upd_apply, ienv_zero, ienv_succ, binV, binInt, eqV, app, List.map_nil, List.append_nil, List.map_cons, Al.all_oks, true_and, and_true, true_or, if_true, if_false, Option.map_some, reduceIte, Nat.reduceEqDiff, decide_true, decide_false, beq_self_eq_true, reduceCtorEq, ge_iff_le, Bool.false_eq_true, Bool.not_true, Bool.not_false, endQ_ret1, endQ_normal1, ret1_one, ret1_agg, outV_p, norm_int, norm_bool, norm_str, norm_nils, norm_sl, norm_box, norm_fn, norm_nilp, norm_nilf, norm_nilm, norm_mp, snapVs_nil, snapVs_cons, snapCons_some, snapV_p, fnOf, bft, btf, bff, btt, Nat.reduceAdd, List.cons_append, List.nil_append, Bool.and_true, Bool.and_false, Bool.true_and, Bool.false_and, asN_nat, rdAt, takeV, wrAt, splice, cellsV, lenL, List.drop_zero, List.take_zero, List.length_cons, List.length_nil, List.take_succ_cons, Nat.le_refl, ne_eq, not_true_eq_false, and_self, List.drop_nil, Nat.zero_add, Nat.reduceLeDiff, List.drop_succ_cons, not_false_eq_true, List.length_map, snap_p, consR_some, collect_nil, collect_cons, snapV_agg, W_draw, WO_cons_iff, WO_nil_iff, goW_true, goW_false, goP_done, partsV, elemsV, toPss, toPs, toP, fill, List.take_nil, asN_lit, Nat.reduceMul, Nat.reduceLT, Nat.mul_one, Nat.zero_mul, snapV_one, snap_hsl, snapHsl, snap_href, snapHref, snap_ps]
    exact ⟨rfl, rfl⟩
  · rintro k env blk hk ⟨h0, h6, h7, h8, h3⟩
    by_cases hlt : k < cs.length
    · have hi := codeAt_get cs k hlt
      have hlt' : ((k : Int) < (cs.length : Int)) := by omega
      have w1 := wrap_succ (n := k) (by omega)
      cases hb : bst cs k with
      | none =>
        have hn := bst_none cs k hb
        rw [hb] at h3
        simp only [bstI] at h3
        simp only [W_seq_iff, W_seq_text, WN_cons_iff, WN_nil_iff, W_ret_iff, W_skip_iff, W_cond_iff, W_block_iff, W_exit_iff, thenQ_normal, thenQ_ret, thenQ_exit, blockQ_normal, blockQ_ret, blockQ_exit, condW_bool, goWN_true, goWN_false, goPN_done, wanted_none, wanted_some, wantV_bool, wantV_undef, plan, ev_t, ev_i, ev_b, ev_k, put_some, put_none, upd_apply, ienv_zero, ienv_succ, binV, binInt, eqV, app, List.map_nil, List.append_nil, List.map_cons, Al.all_oks, true_and, and_true, true_or, if_true, if_false, Option.map_some, reduceIte, Nat.reduceEqDiff, decide_true, decide_false, beq_self_eq_true, reduceCtorEq, ge_iff_le, Bool.false_eq_true, Bool.not_true, Bool.not_false, endQ_ret1, endQ_normal1, ret1_one, ret1_agg, outV_p, norm_int, norm_bool, norm_str, norm_nils, norm_sl, norm_box, norm_fn, norm_nilp, norm_nilf, norm_nilm, norm_mp, snapVs_nil, snapVs_cons, snapCons_some, snapV_p, fnOf, bft, btf, bff, btt, Nat.reduceAdd, List.cons_append, List.nil_append, Bool.and_true, Bool.and_false, Bool.true_and, Bool.false_and, asN_nat, rdAt, takeV, wrAt, splice, cellsV, lenL, List.drop_zero, List.take_zero, List.length_cons, List.length_nil, List.take_succ_cons, Nat.le_refl, ne_eq, not_true_eq_false, and_self, List.drop_nil, Nat.zero_add, Nat.reduceLeDiff, List.drop_succ_cons, not_false_eq_true, List.length_map, snap_p, consR_some, collect_nil, collect_cons, snapV_agg, W_draw, WO_cons_iff, WO_nil_iff, goW_true, goW_false, goP_done, partsV, elemsV, toPss, toPs, toP, fill, List.take_nil, asN_lit, Nat.reduceMul, Nat.reduceLT, Nat.mul_one, Nat.zero_mul, snapV_one, snap_hsl, snapHsl, snap_href, snapHref, snap_ps, h0, h6, h7, h8, h3, hi, hlt', w1, neg1, hn, bstI]
        first | exact ⟨by kernel_rfl, hlt⟩ | exact ⟨rfl, hlt⟩
      | some j =>
        have hs := bst_some cs k j hb
        have hjl := bst_lt cs k j hb
        have hj := codeAt_get cs j (by omega)
        have hjn : ¬ ((j : Int) < 0) := by omega
        have pc := compare20 (codeAt cs k).1 (codeAt cs j).1 (codeAt cs k).2 (codeAt cs j).2 (codeAt_len hf k hlt) (codeAt_len hf j (by omega))
        rw [hb] at h3
        simp only [bstI] at h3
        by_cases hc : cmpC (codeAt cs k).1 (codeAt cs k).2 (codeAt cs j).1 (codeAt cs j).2 < 0
        · rw [if_pos hc] at hs
          simp only [W_seq_iff, W_seq_text, WN_cons_iff, WN_nil_iff, W_ret_iff, W_skip_iff, W_cond_iff, W_block_iff, W_exit_iff, thenQ_normal, thenQ_ret, thenQ_exit, blockQ_normal, blockQ_ret, blockQ_exit, condW_bool, goWN_true, goWN_false, goPN_done, wanted_none, wanted_some, wantV_bool, wantV_undef, plan, ev_t, ev_i, ev_b, ev_k, put_some, put_none, upd_apply, ienv_zero, ienv_succ, binV, binInt, eqV, app, List.map_nil, List.append_nil, List.map_cons, Al.all_oks, true_and, and_true, true_or, if_true, if_false, Option.map_some, reduceIte, Nat.reduceEqDiff, decide_true, decide_false, beq_self_eq_true, reduceCtorEq, ge_iff_le, Bool.false_eq_true, Bool.not_true, Bool.not_false, endQ_ret1, endQ_normal1, ret1_one, ret1_agg, outV_p, norm_int, norm_bool, norm_str, norm_nils, norm_sl, norm_box, norm_fn, norm_nilp, norm_nilf, norm_nilm, norm_mp, snapVs_nil, snapVs_cons, snapCons_some, snapV_p, fnOf, bft, btf, bff, btt, Nat.reduceAdd, List.cons_append, List.nil_append, Bool.and_true, Bool.and_false, Bool.true_and, Bool.false_and, asN_nat, rdAt, takeV, wrAt, splice, cellsV, lenL, List.drop_zero, List.take_zero, List.length_cons, List.length_nil, List.take_succ_cons, Nat.le_refl, ne_eq, not_true_eq_false, and_self, List.drop_nil, Nat.zero_add, Nat.reduceLeDiff, List.drop_succ_cons, not_false_eq_true, List.length_map, snap_p, consR_some, collect_nil, collect_cons, snapV_agg, W_draw, WO_cons_iff, WO_nil_iff, goW_true, goW_false, goP_done, partsV, elemsV, toPss, toPs, toP, fill, List.take_nil, asN_lit, Nat.reduceMul, Nat.reduceLT, Nat.mul_one, Nat.zero_mul, snapV_one, snap_hsl, snapHsl, snap_href, snapHref, snap_ps, h0, h6, h7, h8, h3, hi, hj, hlt', w1, hjn, s20, goP_int pc, hc, hs, bstI]
          first | exact ⟨by kernel_rfl, hlt⟩ | exact ⟨rfl, hlt⟩
        · rw [if_neg hc] at hs
          simp only [W_seq_iff, W_seq_text, WN_cons_iff, WN_nil_iff, W_ret_iff, W_skip_iff, W_cond_iff, W_block_iff, W_exit_iff, thenQ_normal, thenQ_ret, thenQ_exit, blockQ_normal, blockQ_ret, blockQ_exit, condW_bool, goWN_true, goWN_false, goPN_done, wanted_none, wanted_some, wantV_bool, wantV_undef, plan, ev_t, ev_i, ev_b, ev_k, put_some, put_none, upd_apply, ienv_zero, ienv_succ, binV, binInt, eqV, app, List.map_nil, List.append_nil, List.map_cons, Al.all_oks, true_and, and_true, true_or, if_true, if_false, Option.map_some, reduceIte, Nat.reduceEqDiff, decide_true, decide_false, beq_self_eq_true, reduceCtorEq, ge_iff_le, Bool.false_eq_true, Bool.not_true, Bool.not_false, endQ_ret1, endQ_normal1, ret1_one, ret1_agg, outV_p, norm_int, norm_bool, norm_str, norm_nils, norm_sl, norm_box, norm_fn, norm_nilp, norm_nilf, norm_nilm, norm_mp, snapVs_nil, snapVs_cons, snapCons_some, snapV_p, fnOf, bft, btf, bff, btt, Nat.reduceAdd, List.cons_append, List.nil_append, Bool.and_true, Bool.and_false, Bool.true_and, Bool.false_and, asN_nat, rdAt, takeV, wrAt, splice, cellsV, lenL, List.drop_zero, List.take_zero, List.length_cons, List.length_nil, List.take_succ_cons, Nat.le_refl, ne_eq, not_true_eq_false, and_self, List.drop_nil, Nat.zero_add, Nat.reduceLeDiff, List.drop_succ_cons, not_false_eq_true, List.length_map, snap_p, consR_some, collect_nil, collect_cons, snapV_agg, W_draw, WO_cons_iff, WO_nil_iff, goW_true, goW_false, goP_done, partsV, elemsV, toPss, toPs, toP, fill, List.take_nil, asN_lit, Nat.reduceMul, Nat.reduceLT, Nat.mul_one, Nat.zero_mul, snapV_one, snap_hsl, snapHsl, snap_href, snapHref, snap_ps, h0, h6, h7, h8, h3, hi, hj, hlt', w1, hjn, s20, goP_int pc, hc, hs, bstI]
          first | exact ⟨by kernel_rfl, hlt⟩ | exact ⟨rfl, hlt⟩
    · have : k = cs.length := by omega
      subst this
      have hlt' : ¬ ((cs.length : Int) < (cs.length : Int)) := by omega
      simp only [W_seq_iff, W_seq_text, WN_cons_iff, WN_nil_iff, W_ret_iff, W_skip_iff, W_cond_iff, W_block_iff, W_exit_iff, thenQ_normal, thenQ_ret, thenQ_exit, blockQ_normal, blockQ_ret, blockQ_exit, condW_bool, goWN_true, goWN_false, goPN_done, wanted_none, wanted_some, wantV_bool, wantV_undef, plan, ev_t, ev_i, ev_b, ev_k, put_some, put_none, upd_apply, ienv_zero, ienv_succ, binV, binInt, eqV, app, List.map_nil, List.append_nil, List.map_cons, Al.all_oks, true_and, and_true, true_or, if_true, if_false, Option.map_some, reduceIte, Nat.reduceEqDiff, decide_true, decide_false, beq_self_eq_true, reduceCtorEq, ge_iff_le, Bool.false_eq_true, Bool.not_true, Bool.not_false, endQ_ret1, endQ_normal1, ret1_one, ret1_agg, outV_p, norm_int, norm_bool, norm_str, norm_nils, norm_sl, norm_box, norm_fn, norm_nilp, norm_nilf, norm_nilm, norm_mp, snapVs_nil, snapVs_cons, snapCons_some, snapV_p, fnOf, bft, btf, bff, btt, Nat.reduceAdd, List.cons_append, List.nil_append, Bool.and_true, Bool.and_false, Bool.true_and, Bool.false_and, asN_nat, rdAt, takeV, wrAt, splice, cellsV, lenL, List.drop_zero, List.take_zero, List.length_cons, List.length_nil, List.take_succ_cons, Nat.le_refl, ne_eq, not_true_eq_false, and_self, List.drop_nil, Nat.zero_add, Nat.reduceLeDiff, List.drop_succ_cons, not_false_eq_true, List.length_map, snap_p, consR_some, collect_nil, collect_cons, snapV_agg, W_draw, WO_cons_iff, WO_nil_iff, goW_true, goW_false, goP_done, partsV, elemsV, toPss, toPs, toP, fill, List.take_nil, asN_lit, Nat.reduceMul, Nat.reduceLT, Nat.mul_one, Nat.zero_mul, snapV_one, snap_hsl, snapHsl, snap_href, snapHref, snap_ps, h0, h6, h7, h8, h3, hlt']

set_option maxHeartbeats 1000000 in
theorem least24 (cs : List (Int × List Let)) (hf : fits cs = true) : PEv S 24 [.one (.p (.sl (cs.map codeP)))] (.one (.p (.int .i64 (bstI (bst cs cs.length))))) := by
  have s21 : S.shared 21 = false := by kernel_rfl
  have hlen : cs.length ≤ 20 := by
    have := hf
    simp only [fits, Bool.and_eq_true, decide_eq_true_eq] at this
    exact this.2
  refine PEv_fn rfl (S_fns4 c24) (Nat.le_of_ble_eq_true rfl) ?_
  simp only [W_seq_iff, W_seq_text, WN_cons_iff, WN_nil_iff, W_ret_iff, W_skip_iff, W_cond_iff, W_block_iff, W_exit_iff, thenQ_normal, thenQ_ret, thenQ_exit, blockQ_normal, blockQ_ret, blockQ_exit, condW_bool, goWN_true, goWN_false, goPN_done, wanted_none, wanted_some, wantV_bool, wantV_undef, plan, ev_t, ev_i, ev_b, ev_k, put_some, put_none, upd_apply, ienv_zero, ienv_succ, binV, binInt, eqV, app, List.map_nil, List.append_nil, List.map_cons, Al.all_oks, true_and, and_true, true_or, if_true, if_false, Option.map_some, reduceIte, Nat.reduceEqDiff, decide_true, decide_false, beq_self_eq_true, reduceCtorEq, ge_iff_le, Bool.false_eq_true, Bool.not_true, Bool.not_false, endQ_ret1, endQ_normal1, ret1_one, ret1_agg, outV_p, norm_int, norm_bool, norm_str, norm_nils, norm_sl, norm_box, norm_fn, norm_nilp, norm_nilf, norm_nilm, norm_mp, snapVs_nil, snapVs_cons, snapCons_some, snapV_p, fnOf, bft, btf, bff, btt, Nat.reduceAdd, List.cons_append, List.nil_append, Bool.and_true, Bool.and_false, Bool.true_and, Bool.false_and, asN_nat, rdAt, takeV, wrAt, splice, cellsV, lenL, List.drop_zero, List.take_zero, List.length_cons, List.length_nil, List.take_succ_cons, Nat.le_refl, ne_eq, not_true_eq_false, and_self, List.drop_nil, Nat.zero_add, Nat.reduceLeDiff, List.drop_succ_cons, not_false_eq_true, List.length_map, snap_p, consR_some, collect_nil, collect_cons, snapV_agg, W_draw, WO_cons_iff, WO_nil_iff, goW_true, goW_false, goP_done, partsV, elemsV, toPss, toPs, toP, fill, List.take_nil, asN_lit, Nat.reduceMul, Nat.reduceLT, Nat.mul_one, Nat.zero_mul, snapV_one, snap_hsl, snapHsl, snap_href, snapHref, snap_ps, i24]
  refine W_for (fun k env _ => env 0 = .one (.p (.sl (cs.map codeP))) ∧ env 4 = .one (.p (.int .i64 k)) ∧ env 3 = .one (.p (.int .i64 (bstI (bst cs k))))) 0 cs.length (Nat.zero_le _) ?_ ?_
  · simp only [W_seq_iff, W_seq_text, WN_cons_iff, WN_nil_iff, W_ret_iff, W_skip_iff, W_cond_iff, W_block_iff, W_exit_iff, thenQ_normal, thenQ_ret, thenQ_exit, blockQ_normal, blockQ_ret, blockQ_exit, condW_bool, goWN_true, goWN_false, goPN_done, wanted_none, wanted_some, wantV_bool, wantV_undef, plan, ev_t, ev_i, ev_b, ev_k, put_some, put_none, upd_apply, ienv_zero, ienv_succ, binV, binInt, eqV, app, List.map_nil, List.append_nil, List.map_cons, Al.all_oks, true_and, and_true, true_or, if_true, if_false, Option.map_some, reduceIte, Nat.reduceEqDiff, decide_true, decide_false, beq_self_eq_true, reduceCtorEq, ge_iff_le, Bool.false_eq_true, Bool.not_true, Bool.not_false, endQ_ret1, endQ_normal1, ret1_one, ret1_agg, outV_p, norm_int, norm_bool, norm_str, norm_nils, norm_sl, norm_box, norm_fn, norm_nilp, norm_nilf, norm_nilm, norm_mp, snapVs_nil, snapVs_cons, snapCons_some, snapV_p, fnOf, bft, btf, bff, btt, Nat.reduceAdd, List.cons_append, List.nil_append, Bool.and_true, Bool.and_false, Bool.true_and, Bool.false_and, asN_nat, rdAt, takeV, wrAt, splice, cellsV, lenL, List.drop_zero, List.take_zero, List.length_cons, List.length_nil, List.take_succ_cons, Nat.le_refl, ne_eq, not_true_eq_false, and_self, List.drop_nil, Nat.zero_add, Nat.reduceLeDiff, List.drop_succ_cons, not_false_eq_true, List.length_map, snap_p, consR_some, collect_nil, collect_cons, snapV_agg, W_draw, WO_cons_iff, WO_nil_iff, goW_true, goW_false, goP_done, partsV, elemsV, toPss, toPs, toP, fill, List.take_nil, asN_lit, Nat.reduceMul, Nat.reduceLT, Nat.mul_one, Nat.zero_mul, snapV_one, snap_hsl, snapHsl, snap_href, snapHref, snap_ps]
    exact ⟨rfl, rfl⟩
  · rintro k env blk hk ⟨h0, h4, h3⟩
    by_cases hlt : k < cs.length
    · have hi := codeAt_get cs k hlt
      have hlt' : ((k : Int) < (cs.length : Int)) := by omega
      have w1 := wrap_succ (n := k) (by omega)
      cases hb : bst cs k with
      | none =>
        have hn := bst_none cs k hb
        rw [hb] at h3
        simp only [bstI] at h3
        simp only [W_seq_iff, W_seq_text, WN_cons_iff, WN_nil_iff, W_ret_iff, W_skip_iff, W_cond_iff, W_block_iff, W_exit_iff, thenQ_normal, thenQ_ret, thenQ_exit, blockQ_normal, blockQ_ret, blockQ_exit, condW_bool, goWN_true, goWN_false, goPN_done, wanted_none, wanted_some, wantV_bool, wantV_undef, plan, ev_t, ev_i, ev_b, ev_k, put_some, put_none, upd_apply, ienv_zero, ienv_succ, binV, binInt, eqV, app, List.map_nil, List.append_nil, List.map_cons, Al.all_oks, true_and, and_true, true_or, if_true, if_false, Option.map_some, reduceIte, Nat.reduceEqDiff, decide_true, decide_false, beq_self_eq_true, reduceCtorEq, ge_iff_le, Bool.false_eq_true, Bool.not_true, Bool.not_false, endQ_ret1, endQ_normal1, ret1_one, ret1_agg, outV_p, norm_int, norm_bool, norm_str, norm_nils, norm_sl, norm_box, norm_fn, norm_nilp, norm_nilf, norm_nilm, norm_mp, snapVs_nil, snapVs_cons, snapCons_some, snapV_p, fnOf, bft, btf, bff, btt, Nat.reduceAdd, List.cons_append, List.nil_append, Bool.and_true, Bool.and_false, Bool.true_and, Bool.false_and, asN_nat, rdAt, takeV, wrAt, splice, cellsV, lenL, List.drop_zero, List.take_zero, List.length_cons, List.length_nil, List.take_succ_cons, Nat.le_refl, ne_eq, not_true_eq_false, and_self, List.drop_nil, Nat.zero_add, Nat.reduceLeDiff, List.drop_succ_cons, not_false_eq_true, List.length_map, snap_p, consR_some, collect_nil, collect_cons, snapV_agg, W_draw, WO_cons_iff, WO_nil_iff, goW_true, goW_false, goP_done, partsV, elemsV, toPss, toPs, toP, fill, List.take_nil, asN_lit, Nat.reduceMul, Nat.reduceLT, Nat.mul_one, Nat.zero_mul, snapV_one, snap_hsl, snapHsl, snap_href, snapHref, snap_ps, h0, h4, h3, hi, hlt', w1, neg1, hn, bstI]
        first | exact ⟨by kernel_rfl, hlt⟩ | exact ⟨rfl, hlt⟩
      | some j =>
        have hs := bst_some cs k j hb
        have hjl := bst_lt cs k j hb
        have hj := codeAt_get cs j (by omega)
        have hjn : ¬ ((j : Int) < 0) := by omega
        have pc := compare21 (codeAt cs k).1 (codeAt cs j).1 (codeAt cs k).2 (codeAt cs j).2 (codeAt_len hf k hlt) (codeAt_len hf j (by omega))
        rw [hb] at h3
        simp only [bstI] at h3
        by_cases hc : cmpC (codeAt cs k).1 (codeAt cs k).2 (codeAt cs j).1 (codeAt cs j).2 < 0
        · rw [if_pos hc] at hs
          simp only [W_seq_iff, W_seq_text, WN_cons_iff, WN_nil_iff, W_ret_iff, W_skip_iff, W_cond_iff, W_block_iff, W_exit_iff, thenQ_normal, thenQ_ret, thenQ_exit, blockQ_normal, blockQ_ret, blockQ_exit, condW_bool, goWN_true, goWN_false, goPN_done, wanted_none, wanted_some, wantV_bool, wantV_undef, plan, ev_t, ev_i, ev_b, ev_k, put_some, put_none, upd_apply, ienv_zero, ienv_succ, binV, binInt, eqV, app, List.map_nil, List.append_nil, List.map_cons, Al.all_oks, true_and, and_true, true_or, if_true, if_false, Option.map_some, reduceIte, Nat.reduceEqDiff, decide_true, decide_false, beq_self_eq_true, reduceCtorEq, ge_iff_le, Bool.false_eq_true, Bool.not_true, Bool.not_false, endQ_ret1, endQ_normal1, ret1_one, ret1_agg, outV_p, norm_int, norm_bool, norm_str, norm_nils, norm_sl, norm_box, norm_fn, norm_nilp, norm_nilf, norm_nilm, norm_mp, snapVs_nil, snapVs_cons, snapCons_some, snapV_p, fnOf, bft, btf, bff, btt, Nat.reduceAdd, List.cons_append, List.nil_append, Bool.and_true, Bool.and_false, Bool.true_and, Bool.false_and, asN_nat, rdAt, takeV, wrAt, splice, cellsV, lenL, List.drop_zero, List.take_zero, List.length_cons, List.length_nil, List.take_succ_cons, Nat.le_refl, ne_eq, not_true_eq_false, and_self, List.drop_nil, Nat.zero_add, Nat.reduceLeDiff, List.drop_succ_cons, not_false_eq_true, List.length_map, snap_p, consR_some, collect_nil, collect_cons, snapV_agg, W_draw, WO_cons_iff, WO_nil_iff, goW_true, goW_false, goP_done, partsV, elemsV, toPss, toPs, toP, fill, List.take_nil, asN_lit, Nat.reduceMul, Nat.reduceLT, Nat.mul_one, Nat.zero_mul, snapV_one, snap_hsl, snapHsl, snap_href, snapHref, snap_ps, h0, h4, h3, hi, hj, hlt', w1, hjn, s21, goP_int pc, hc, hs, bstI]
          first | exact ⟨by kernel_rfl, hlt⟩ | exact ⟨rfl, hlt⟩
        · rw [if_neg hc] at hs
          simp only [W_seq_iff, W_seq_text, WN_cons_iff, WN_nil_iff, W_ret_iff, W_skip_iff, W_cond_iff, W_block_iff, W_exit_iff, thenQ_normal, thenQ_ret, thenQ_exit, blockQ_normal, blockQ_ret, blockQ_exit, condW_bool, goWN_true, goWN_false, goPN_done, wanted_none, wanted_some, wantV_bool, wantV_undef, plan, ev_t, ev_i, ev_b, ev_k, put_some, put_none, upd_apply, ienv_zero, ienv_succ, binV, binInt, eqV, app, List.map_nil, List.append_nil, List.map_cons, Al.all_oks, true_and, and_true, true_or, if_true, if_false, Option.map_some, reduceIte, Nat.reduceEqDiff, decide_true, decide_false, beq_self_eq_true, reduceCtorEq, ge_iff_le, Bool.false_eq_true, Bool.not_true, Bool.not_false, endQ_ret1, endQ_normal1, ret1_one, ret1_agg, outV_p, norm_int, norm_bool, norm_str, norm_nils, norm_sl, norm_box, norm_fn, norm_nilp, norm_nilf, norm_nilm, norm_mp, snapVs_nil, snapVs_cons, snapCons_some, snapV_p, fnOf, bft, btf, bff, btt, Nat.reduceAdd, List.cons_append, List.nil_append, Bool.and_true, Bool.and_false, Bool.true_and, Bool.false_and, asN_nat, rdAt, takeV, wrAt, splice, cellsV, lenL, List.drop_zero, List.take_zero, List.length_cons, List.length_nil, List.take_succ_cons, Nat.le_refl, ne_eq, not_true_eq_false, and_self, List.drop_nil, Nat.zero_add, Nat.reduceLeDiff, List.drop_succ_cons, not_false_eq_true, List.length_map, snap_p, consR_some, collect_nil, collect_cons, snapV_agg, W_draw, WO_cons_iff, WO_nil_iff, goW_true, goW_false, goP_done, partsV, elemsV, toPss, toPs, toP, fill, List.take_nil, asN_lit, Nat.reduceMul, Nat.reduceLT, Nat.mul_one, Nat.zero_mul, snapV_one, snap_hsl, snapHsl, snap_href, snapHref, snap_ps, h0, h4, h3, hi, hj, hlt', w1, hjn, s21, goP_int pc, hc, hs, bstI]
          first | exact ⟨by kernel_rfl, hlt⟩ | exact ⟨rfl, hlt⟩
    · have : k = cs.length := by omega
      subst this
      have hlt' : ¬ ((cs.length : Int) < (cs.length : Int)) := by omega
      simp only [W_seq_iff, W_seq_text, WN_cons_iff, WN_nil_iff, W_ret_iff, W_skip_iff, W_cond_iff, W_block_iff, W_exit_iff, thenQ_normal, thenQ_ret, thenQ_exit, blockQ_normal, blockQ_ret, blockQ_exit, condW_bool, goWN_true, goWN_false, goPN_done, wanted_none, wanted_some, wantV_bool, wantV_undef, plan, ev_t, ev_i, ev_b, ev_k, put_some, put_none, upd_apply, ienv_zero, ienv_succ, binV, binInt, eqV, app, List.map_nil, List.append_nil, List.map_cons, Al.all_oks, true_and, and_true, true_or, if_true, if_false, Option.map_some, reduceIte, Nat.reduceEqDiff, decide_true, decide_false, beq_self_eq_true, reduceCtorEq, ge_iff_le, Bool.false_eq_true, Bool.not_true, Bool.not_false, endQ_ret1, endQ_normal1, ret1_one, ret1_agg, outV_p, norm_int, norm_bool, norm_str, norm_nils, norm_sl, norm_box, norm_fn, norm_nilp, norm_nilf, norm_nilm, norm_mp, snapVs_nil, snapVs_cons, snapCons_some, snapV_p, fnOf, bft, btf, bff, btt, Nat.reduceAdd, List.cons_append, List.nil_append, Bool.and_true, Bool.and_false, Bool.true_and, Bool.false_and, asN_nat, rdAt, takeV, wrAt, splice, cellsV, lenL, List.drop_zero, List.take_zero, List.length_cons, List.length_nil, List.take_succ_cons, Nat.le_refl, ne_eq, not_true_eq_false, and_self, List.drop_nil, Nat.zero_add, Nat.reduceLeDiff, List.drop_succ_cons, not_false_eq_true, List.length_map, snap_p, consR_some, collect_nil, collect_cons, snapV_agg, W_draw, WO_cons_iff, WO_nil_iff, goW_true, goW_false, goP_done, partsV, elemsV, toPss, toPs, toP, fill, List.take_nil, asN_lit, Nat.reduceMul, Nat.reduceLT, Nat.mul_one, Nat.zero_mul, snapV_one, snap_hsl, snapHsl, snap_href, snapHref, snap_ps, h0, h4, h3, hlt']

theorem law7 (hk : PEv S 19 [] (.one (.p (.bool true)))) (cs : List (Int × List Let)) (hl : cs.length ≤ 9223372036854775807) : PEv S 7 [.one (.p (.sl (cs.map codeP)))] (.one (.p (.bool true))) := by
  have p18 := fit18 cs hl
  have s18 : S.shared 18 = false := by kernel_rfl
  have s19 : S.shared 19 = false := by kernel_rfl
  have s23 : S.shared 23 = false := by kernel_rfl
  have s24 : S.shared 24 = false := by kernel_rfl
  refine PEv_fn rfl (S_fns4 c7) (Nat.le_of_ble_eq_true rfl) ?_
  cases hf : fits cs with
  | false =>
    rw [hf] at p18
    simp only [W_seq_iff, W_seq_text, WN_cons_iff, WN_nil_iff, W_ret_iff, W_skip_iff, W_cond_iff, W_block_iff, W_exit_iff, thenQ_normal, thenQ_ret, thenQ_exit, blockQ_normal, blockQ_ret, blockQ_exit, condW_bool, goWN_true, goWN_false, goPN_done, wanted_none, wanted_some, wantV_bool, wantV_undef, plan, ev_t, ev_i, ev_b, ev_k, put_some, put_none, upd_apply, ienv_zero, ienv_succ, binV, binInt, eqV, app, List.map_nil, List.append_nil, List.map_cons, Al.all_oks, true_and, and_true, true_or, if_true, if_false, Option.map_some, reduceIte, Nat.reduceEqDiff, decide_true, decide_false, beq_self_eq_true, reduceCtorEq, ge_iff_le, Bool.false_eq_true, Bool.not_true, Bool.not_false, endQ_ret1, endQ_normal1, ret1_one, ret1_agg, outV_p, norm_int, norm_bool, norm_str, norm_nils, norm_sl, norm_box, norm_fn, norm_nilp, norm_nilf, norm_nilm, norm_mp, snapVs_nil, snapVs_cons, snapCons_some, snapV_p, fnOf, bft, btf, bff, btt, Nat.reduceAdd, List.cons_append, List.nil_append, Bool.and_true, Bool.and_false, Bool.true_and, Bool.false_and, asN_nat, rdAt, takeV, wrAt, splice, cellsV, lenL, List.drop_zero, List.take_zero, List.length_cons, List.length_nil, List.take_succ_cons, Nat.le_refl, ne_eq, not_true_eq_false, and_self, List.drop_nil, Nat.zero_add, Nat.reduceLeDiff, List.drop_succ_cons, not_false_eq_true, List.length_map, snap_p, consR_some, collect_nil, collect_cons, snapV_agg, W_draw, WO_cons_iff, WO_nil_iff, goW_true, goW_false, goP_done, partsV, elemsV, toPss, toPs, toP, fill, List.take_nil, asN_lit, Nat.reduceMul, Nat.reduceLT, Nat.mul_one, Nat.zero_mul, snapV_one, snap_hsl, snapHsl, snap_href, snapHref, snap_ps, i7, s18, s19, goPN_bool p18, goPN_bool hk]
  | true =>
    rw [hf] at p18
    have p23 := least23 cs hf
    have p24 := least24 cs hf
    simp only [W_seq_iff, W_seq_text, WN_cons_iff, WN_nil_iff, W_ret_iff, W_skip_iff, W_cond_iff, W_block_iff, W_exit_iff, thenQ_normal, thenQ_ret, thenQ_exit, blockQ_normal, blockQ_ret, blockQ_exit, condW_bool, goWN_true, goWN_false, goPN_done, wanted_none, wanted_some, wantV_bool, wantV_undef, plan, ev_t, ev_i, ev_b, ev_k, put_some, put_none, upd_apply, ienv_zero, ienv_succ, binV, binInt, eqV, app, List.map_nil, List.append_nil, List.map_cons, Al.all_oks, true_and, and_true, true_or, if_true, if_false, Option.map_some, reduceIte, Nat.reduceEqDiff, decide_true, decide_false, beq_self_eq_true, reduceCtorEq, ge_iff_le, Bool.false_eq_true, Bool.not_true, Bool.not_false, endQ_ret1, endQ_normal1, ret1_one, ret1_agg, outV_p, norm_int, norm_bool, norm_str, norm_nils, norm_sl, norm_box, norm_fn, norm_nilp, norm_nilf, norm_nilm, norm_mp, snapVs_nil, snapVs_cons, snapCons_some, snapV_p, fnOf, bft, btf, bff, btt, Nat.reduceAdd, List.cons_append, List.nil_append, Bool.and_true, Bool.and_false, Bool.true_and, Bool.false_and, asN_nat, rdAt, takeV, wrAt, splice, cellsV, lenL, List.drop_zero, List.take_zero, List.length_cons, List.length_nil, List.take_succ_cons, Nat.le_refl, ne_eq, not_true_eq_false, and_self, List.drop_nil, Nat.zero_add, Nat.reduceLeDiff, List.drop_succ_cons, not_false_eq_true, List.length_map, snap_p, consR_some, collect_nil, collect_cons, snapV_agg, W_draw, WO_cons_iff, WO_nil_iff, goW_true, goW_false, goP_done, partsV, elemsV, toPss, toPs, toP, fill, List.take_nil, asN_lit, Nat.reduceMul, Nat.reduceLT, Nat.mul_one, Nat.zero_mul, snapV_one, snap_hsl, snapHsl, snap_href, snapHref, snap_ps, i7, s18, s19, s23, s24, goPN_bool p18, goPN_bool hk, goPN_int p23, goPN_int p24]
end Go.Abs
