/-
  Small functions of layer 3 on the abstract machine: numbers as strings.
-/
import Derived.Test.YtehnpoeelhggeaaGreatDoorSb
import Derived.KernelRfl
import Derived.Test.YtehnpoeelhggeaaGreatDoorMd
import Derived.Test.YtehnpoeelhggeaaGreatDoorMf
set_option linter.unusedSimpArgs false
set_option linter.unusedVariables false
set_option linter.unusedSectionVars false
namespace Go.Abs
set_option maxRecDepth 100000
def i3 : IFn :=
⟨30, [(2, none)],
(.seq
(.region false [
⟨(some (2)), .mov (.b false), none, 0⟩])
(.seq
(.region false [
⟨(some (5)), .mov (.t 0), none, 0⟩,
⟨(some (3)), .mov (.t 5), none, 0⟩])
(.seq
(.region false [
⟨(some (6)), .mov (.t 3), none, 0⟩,
⟨(some (7)), .bin .geq (.t 6) (.i 1), none, 0⟩,
⟨(some (8)), .mov (.t 7), none, 0⟩,
⟨(some (9)), .mov (.t 3), (some (8, true)), 0⟩,
⟨(some (10)), .bin .leq (.t 9) (.i 10), (some (8, true)), 0⟩,
⟨(some (11)), .pick (.t 8) (.t 10) (.b false), none, 0⟩,
⟨(some (4)), .mov (.t 11), none, 0⟩])
(.seq
(.region false [
⟨(some (12)), .mov (.t 3), none, 0⟩,
⟨(some (13)), .call 192192064 (.k (.one (.p (.fn 10 [] [])))) [.t 12], none, 0⟩,
⟨(some (14)), .mov (.t 3), none, 0⟩,
⟨(some (15)), .call 192192192 (.k (.one (.p (.fn 11 [] [])))) [.t 14], none, 0⟩,
⟨(some (16)), .bin .eql (.t 13) (.t 15), none, 0⟩,
⟨(some (17)), .mov (.t 16), none, 0⟩,
⟨(some (18)), .mov (.t 3), (some (17, true)), 0⟩,
⟨(some (19)), .call 192192448 (.k (.one (.p (.fn 12 [] [])))) [.t 18], (some (17, true)), 0⟩,
⟨(some (20)), .mov (.t 4), (some (17, true)), 0⟩,
⟨(some (21)), .mov (.t 20), (some (17, true)), 0⟩,
⟨(some (22)), .mov (.t 3), (some (21, true)), 0⟩,
⟨(some (23)), .bin .lss (.t 22) (.i 9), (some (21, true)), 0⟩,
⟨(some (24)), .pick (.t 21) (.t 23) (.b false), (some (17, true)), 0⟩,
⟨(some (25)), .eqc .bool false (.t 19) (.t 24), (some (17, true)), 0⟩,
⟨(some (26)), .pick (.t 17) (.t 25) (.b false), none, 0⟩,
⟨(some (27)), .mov (.t 26), none, 0⟩,
⟨(some (28)), .call 192193024 (.k (.one (.p (.fn 13 [] [])))) [], (some (27, true)), 0⟩,
⟨(some (29)), .pick (.t 27) (.t 28) (.b false), none, 0⟩,
⟨(some (2)), .mov (.t 29), none, 0⟩])
(.ret)))))⟩
theorem c3 : compF Go.Proofs.Tryz.prog 3 = some i3 := by kernel_rfl
def i10 : IFn :=
⟨22, [(2, none)],
(.seq
(.region false [
⟨(some (2)), .mov (.i 0), none, 0⟩])
(.seq
(.seq
(.region false [
⟨(some (3)), .mov (.t 0), none, 0⟩])
(.block 0
(.seq
(.seq
(.region false [
⟨(some (5)), .bin .eql (.t 3) (.i 1), none, 0⟩,
⟨(some (4)), .mov (.t 5), none, 0⟩])
(.cond (.t 4)
(.skip)
(.seq
(.region false [
⟨(some (6)), .bin .eql (.t 3) (.i 4), none, 0⟩,
⟨(some (4)), .mov (.t 6), none, 0⟩])
(.cond (.t 4)
(.skip)
(.seq
(.region false [
⟨(some (7)), .bin .eql (.t 3) (.i 6), none, 0⟩,
⟨(some (4)), .mov (.t 7), none, 0⟩])
(.cond (.t 4)
(.skip)
(.region false [
⟨(some (8)), .bin .eql (.t 3) (.i 9), none, 0⟩,
⟨(some (4)), .mov (.t 8), none, 0⟩])))))))
(.cond (.t 4)
(.seq
(.region false [
⟨(some (9)), .mov (.t 0), none, 0⟩,
⟨(some (10)), .bin .add (.t 9) (.i 1), none, 0⟩,
⟨(some (2)), .mov (.t 10), none, 0⟩])
(.ret))
(.seq
(.seq
(.region false [
⟨(some (12)), .bin .eql (.t 3) (.i 2), none, 0⟩,
⟨(some (11)), .mov (.t 12), none, 0⟩])
(.cond (.t 11)
(.skip)
(.seq
(.region false [
⟨(some (13)), .bin .eql (.t 3) (.i 5), none, 0⟩,
⟨(some (11)), .mov (.t 13), none, 0⟩])
(.cond (.t 11)
(.skip)
(.seq
(.region false [
⟨(some (14)), .bin .eql (.t 3) (.i 7), none, 0⟩,
⟨(some (11)), .mov (.t 14), none, 0⟩])
(.cond (.t 11)
(.skip)
(.region false [
⟨(some (15)), .bin .eql (.t 3) (.i 10), none, 0⟩,
⟨(some (11)), .mov (.t 15), none, 0⟩])))))))
(.cond (.t 11)
(.seq
(.region false [
⟨(some (16)), .mov (.t 0), none, 0⟩,
⟨(some (17)), .bin .sub (.t 16) (.i 1), none, 0⟩,
⟨(some (2)), .mov (.t 17), none, 0⟩])
(.ret))
(.seq
(.seq
(.region false [
⟨(some (19)), .bin .eql (.t 3) (.i 3), none, 0⟩,
⟨(some (18)), .mov (.t 19), none, 0⟩])
(.cond (.t 18)
(.skip)
(.region false [
⟨(some (20)), .bin .eql (.t 3) (.i 8), none, 0⟩,
⟨(some (18)), .mov (.t 20), none, 0⟩])))
(.cond (.t 18)
(.seq
(.region false [
⟨(some (21)), .mov (.t 0), none, 0⟩,
⟨(some (2)), .mov (.t 21), none, 0⟩])
(.ret))
(.skip)))))))))
(.seq
(.region false [
⟨(some (2)), .mov (.i 0), none, 0⟩])
(.ret))))⟩
theorem c10 : compF Go.Proofs.Tryz.prog 10 = some i10 := by kernel_rfl
def i11 : IFn :=
⟨24, [(2, none)],
(.seq
(.region false [
⟨(some (2)), .mov (.i 0), none, 0⟩])
(.seq
(.seq
(.region false [
⟨(some (3)), .mov (.t 0), none, 0⟩])
(.block 0
(.seq
(.region false [
⟨(some (5)), .bin .eql (.t 3) (.i 1), none, 0⟩,
⟨(some (4)), .mov (.t 5), none, 0⟩])
(.cond (.t 4)
(.seq
(.region false [
⟨(some (2)), .mov (.i 2), none, 0⟩])
(.ret))
(.seq
(.region false [
⟨(some (7)), .bin .eql (.t 3) (.i 2), none, 0⟩,
⟨(some (6)), .mov (.t 7), none, 0⟩])
(.cond (.t 6)
(.seq
(.region false [
⟨(some (2)), .mov (.i 1), none, 0⟩])
(.ret))
(.seq
(.region false [
⟨(some (9)), .bin .eql (.t 3) (.i 4), none, 0⟩,
⟨(some (8)), .mov (.t 9), none, 0⟩])
(.cond (.t 8)
(.seq
(.region false [
⟨(some (2)), .mov (.i 5), none, 0⟩])
(.ret))
(.seq
(.region false [
⟨(some (11)), .bin .eql (.t 3) (.i 5), none, 0⟩,
⟨(some (10)), .mov (.t 11), none, 0⟩])
(.cond (.t 10)
(.seq
(.region false [
⟨(some (2)), .mov (.i 4), none, 0⟩])
(.ret))
(.seq
(.region false [
⟨(some (13)), .bin .eql (.t 3) (.i 6), none, 0⟩,
⟨(some (12)), .mov (.t 13), none, 0⟩])
(.cond (.t 12)
(.seq
(.region false [
⟨(some (2)), .mov (.i 7), none, 0⟩])
(.ret))
(.seq
(.region false [
⟨(some (15)), .bin .eql (.t 3) (.i 7), none, 0⟩,
⟨(some (14)), .mov (.t 15), none, 0⟩])
(.cond (.t 14)
(.seq
(.region false [
⟨(some (2)), .mov (.i 6), none, 0⟩])
(.ret))
(.seq
(.region false [
⟨(some (17)), .bin .eql (.t 3) (.i 9), none, 0⟩,
⟨(some (16)), .mov (.t 17), none, 0⟩])
(.cond (.t 16)
(.seq
(.region false [
⟨(some (2)), .mov (.i 10), none, 0⟩])
(.ret))
(.seq
(.region false [
⟨(some (19)), .bin .eql (.t 3) (.i 10), none, 0⟩,
⟨(some (18)), .mov (.t 19), none, 0⟩])
(.cond (.t 18)
(.seq
(.region false [
⟨(some (2)), .mov (.i 9), none, 0⟩])
(.ret))
(.seq
(.seq
(.region false [
⟨(some (21)), .bin .eql (.t 3) (.i 3), none, 0⟩,
⟨(some (20)), .mov (.t 21), none, 0⟩])
(.cond (.t 20)
(.skip)
(.region false [
⟨(some (22)), .bin .eql (.t 3) (.i 8), none, 0⟩,
⟨(some (20)), .mov (.t 22), none, 0⟩])))
(.cond (.t 20)
(.seq
(.region false [
⟨(some (23)), .mov (.t 0), none, 0⟩,
⟨(some (2)), .mov (.t 23), none, 0⟩])
(.ret))
(.skip)))))))))))))))))))))
(.seq
(.region false [
⟨(some (2)), .mov (.i 0), none, 0⟩])
(.ret))))⟩
theorem c11 : compF Go.Proofs.Tryz.prog 11 = some i11 := by kernel_rfl
def i12 : IFn :=
⟨9, [(2, none)],
(.seq
(.region false [
⟨(some (2)), .mov (.b false), none, 0⟩])
(.seq
(.region false [
⟨(some (3)), .mov (.t 0), none, 0⟩,
⟨(some (4)), .call 768064064 (.k (.one (.p (.fn 40 [] [])))) [.t 3], none, 0⟩,
⟨(some (5)), .mov (.t 4), none, 0⟩,
⟨(some (6)), .mov (.t 0), (some (5, true)), 0⟩,
⟨(some (7)), .bin .lss (.t 6) (.i 9), (some (5, true)), 0⟩,
⟨(some (8)), .pick (.t 5) (.t 7) (.b false), none, 0⟩,
⟨(some (2)), .mov (.t 8), none, 0⟩])
(.ret)))⟩
theorem c12 : compF Go.Proofs.Tryz.prog 12 = some i12 := by kernel_rfl
def i40 : IFn :=
⟨9, [(2, none)],
(.seq
(.region false [
⟨(some (2)), .mov (.b false), none, 0⟩])
(.seq
(.region false [
⟨(some (3)), .mov (.t 0), none, 0⟩,
⟨(some (4)), .bin .geq (.t 3) (.i 1), none, 0⟩,
⟨(some (5)), .mov (.t 4), none, 0⟩,
⟨(some (6)), .mov (.t 0), (some (5, true)), 0⟩,
⟨(some (7)), .bin .leq (.t 6) (.i 10), (some (5, true)), 0⟩,
⟨(some (8)), .pick (.t 5) (.t 7) (.b false), none, 0⟩,
⟨(some (2)), .mov (.t 8), none, 0⟩])
(.ret)))⟩
theorem c40 : compF Go.Proofs.Tryz.prog 40 = some i40 := by kernel_rfl
end Go.Abs
namespace Go.Abs
set_option maxRecDepth 100000
def i4 : IFn :=
⟨90, [(2, none)],
  (.seq
    (.region false [
      ⟨(some (1)), .box 256000000 (.t 0), none, 0⟩,
      ⟨(some (2)), .mov (.b false), none, 0⟩])
    (.seq
      (.region false [
        ⟨(some (6)), .load (some (7)) (.t 1), none, 0⟩,
        ⟨(some (7)), .call 256064064 (.k (.one (.p (.fn 14 [] [])))) [.t 6], none, 0⟩,
        ⟨(some (3)), .mov (.t 7), none, 0⟩])
      (.seq
        (.seq
          (.region false [
            ⟨(some (8)), .mov (.t 3), none, 0⟩,
            ⟨(some (9)), .load (some (7)) (.t 1), none, 0⟩,
            ⟨(some (10)), .call 256128128 (.k (.one (.p (.fn 15 [] [])))) [.t 9], none, 0⟩,
            ⟨(some (11)), .bin .neq (.t 8) (.t 10), none, 0⟩])
          (.cond (.t 11)
            (.seq
              (.region false [
                ⟨(some (2)), .mov (.b false), none, 0⟩])
              (.ret))
            (.skip)))
        (.seq
          (.region false [
            ⟨(some (13)), .mov (.t 3), none, 0⟩,
            ⟨(some (14)), .call 256256064 (.k (.one (.p (.fn 16 [] [])))) [.t 13], none, 0⟩,
            ⟨(some (12)), .mov (.t 14), none, 0⟩,
            ⟨(some (15)), .extract (.t 12) 0, none, 0⟩,
            ⟨(some (16)), .extract (.t 12) 1, none, 0⟩,
            ⟨(some (4)), .alloc 256256320 [.int .i64 0, .int .i64 0, .int .i64 0, .int .i64 0, .bool false, .bool false, .int .i64 0], none, 0⟩,
            ⟨none, .store 7 (.t 4) (.t 15), none, 0⟩,
            ⟨(some (5)), .mov (.t 16), none, 0⟩])
          (.seq
            (.seq
              (.region false [
                ⟨(some (17)), .mov (.t 5), none, 0⟩,
                ⟨(some (18)), .bin .neq (.t 17) (.i 0), none, 0⟩])
              (.cond (.t 18)
                (.seq
                  (.region false [
                    ⟨(some (19)), .mov (.t 5), none, 0⟩,
                    ⟨(some (20)), .bin .eql (.t 19) (.i 6), none, 0⟩,
                    ⟨(some (21)), .mov (.t 20), none, 0⟩,
                    ⟨(some (22)), .load (some (7)) (.t 4), (some (21, true)), 0⟩,
                    ⟨(some (23)), .build [.int .i64 0, .int .i64 0, .int .i64 0, .int .i64 0, .bool false, .bool false, .int .i64 0] [], (some (21, true)), 0⟩,
                    ⟨(some (24)), .eqc (.str [true, true, true, true, false, false, true]) false (.t 22) (.t 23), (some (21, true)), 0⟩,
                    ⟨(some (25)), .pick (.t 21) (.t 24) (.b false), none, 0⟩,
                    ⟨(some (26)), .mov (.t 25), none, 0⟩,
                    ⟨(some (27)), .faddr 0 (.t 1), (some (26, true)), 0⟩,
                    ⟨(some (28)), .load none (.t 27), (some (26, true)), 0⟩,
                    ⟨(some (29)), .bin .lss (.t 28) (.i 1), (some (26, true)), 0⟩,
                    ⟨(some (30)), .mov (.t 29), (some (26, true)), 0⟩,
                    ⟨(some (31)), .faddr 0 (.t 1), (some (30, false)), 0⟩,
                    ⟨(some (32)), .load none (.t 31), (some (30, false)), 0⟩,
                    ⟨(some (33)), .bin .gtr (.t 32) (.i 10), (some (30, false)), 0⟩,
                    ⟨(some (34)), .pick (.t 30) (.b true) (.t 33), (some (26, true)), 0⟩,
                    ⟨(some (35)), .mov (.t 34), (some (26, true)), 0⟩,
                    ⟨(some (36)), .faddr 1 (.t 1), (some (35, false)), 0⟩,
                    ⟨(some (37)), .load none (.t 36), (some (35, false)), 0⟩,
                    ⟨(some (38)), .bin .lss (.t 37) (.i 0), (some (35, false)), 0⟩,
                    ⟨(some (39)), .pick (.t 35) (.b true) (.t 38), (some (26, true)), 0⟩,
                    ⟨(some (40)), .mov (.t 39), (some (26, true)), 0⟩,
                    ⟨(some (41)), .faddr 2 (.t 1), (some (40, false)), 0⟩,
                    ⟨(some (42)), .load none (.t 41), (some (40, false)), 0⟩,
                    ⟨(some (43)), .bin .lss (.t 42) (.i 0), (some (40, false)), 0⟩,
                    ⟨(some (44)), .pick (.t 40) (.b true) (.t 43), (some (26, true)), 0⟩,
                    ⟨(some (45)), .mov (.t 44), (some (26, true)), 0⟩,
                    ⟨(some (46)), .faddr 3 (.t 1), (some (45, false)), 0⟩,
                    ⟨(some (47)), .load none (.t 46), (some (45, false)), 0⟩,
                    ⟨(some (48)), .bin .lss (.t 47) (.i 0), (some (45, false)), 0⟩,
                    ⟨(some (49)), .pick (.t 45) (.b true) (.t 48), (some (26, true)), 0⟩,
                    ⟨(some (50)), .mov (.t 49), (some (26, true)), 0⟩,
                    ⟨(some (51)), .faddr 0 (.t 1), (some (50, false)), 0⟩,
                    ⟨(some (52)), .load none (.t 51), (some (50, false)), 0⟩,
                    ⟨(some (53)), .bin .eql (.t 52) (.i 5), (some (50, false)), 0⟩,
                    ⟨(some (54)), .mov (.t 53), (some (50, false)), 0⟩,
                    ⟨(some (55)), .faddr 6 (.t 1), (some (54, true)), 0⟩,
                    ⟨(some (56)), .load none (.t 55), (some (54, true)), 0⟩,
                    ⟨(some (57)), .bin .neq (.t 56) (.i 1), (some (54, true)), 0⟩,
                    ⟨(some (58)), .pick (.t 54) (.t 57) (.b false), (some (50, false)), 0⟩,
                    ⟨(some (59)), .mov (.t 58), (some (50, false)), 0⟩,
                    ⟨(some (60)), .faddr 6 (.t 1), (some (59, true)), 0⟩,
                    ⟨(some (61)), .load none (.t 60), (some (59, true)), 0⟩,
                    ⟨(some (62)), .bin .neq (.t 61) (.i (-1)), (some (59, true)), 0⟩,
                    ⟨(some (63)), .pick (.t 59) (.t 62) (.b false), (some (50, false)), 0⟩,
                    ⟨(some (64)), .pick (.t 50) (.b true) (.t 63), (some (26, true)), 0⟩,
                    ⟨(some (65)), .pick (.t 26) (.t 64) (.b false), none, 0⟩,
                    ⟨(some (66)), .mov (.t 65), none, 0⟩,
                    ⟨(some (67)), .call 256387072 (.k (.one (.p (.fn 13 [] [])))) [], (some (66, true)), 0⟩,
                    ⟨(some (68)), .pick (.t 66) (.t 67) (.b false), none, 0⟩,
                    ⟨(some (2)), .mov (.t 68), none, 0⟩])
                  (.ret))
                (.skip)))
            (.seq
              (.region false [
                ⟨(some (69)), .load (some (7)) (.t 4), none, 0⟩,
                ⟨(some (70)), .call 256448064 (.k (.one (.p (.fn 15 [] [])))) [.t 69], none, 0⟩,
                ⟨(some (71)), .mov (.t 3), none, 0⟩,
                ⟨(some (72)), .bin .eql (.t 70) (.t 71), none, 0⟩,
                ⟨(some (73)), .mov (.t 72), none, 0⟩,
                ⟨(some (74)), .faddr 0 (.t 4), (some (73, true)), 0⟩,
                ⟨(some (75)), .load none (.t 74), (some (73, true)), 0⟩,
                ⟨(some (76)), .faddr 0 (.t 1), (some (73, true)), 0⟩,
                ⟨(some (77)), .load none (.t 76), (some (73, true)), 0⟩,
                ⟨(some (78)), .bin .eql (.t 75) (.t 77), (some (73, true)), 0⟩,
                ⟨(some (79)), .pick (.t 73) (.t 78) (.b false), none, 0⟩,
                ⟨(some (80)), .mov (.t 79), none, 0⟩,
                ⟨(some (81)), .faddr 1 (.t 4), (some (80, true)), 0⟩,
                ⟨(some (82)), .load none (.t 81), (some (80, true)), 0⟩,
                ⟨(some (83)), .faddr 1 (.t 1), (some (80, true)), 0⟩,
                ⟨(some (84)), .load none (.t 83), (some (80, true)), 0⟩,
                ⟨(some (85)), .bin .eql (.t 82) (.t 84), (some (80, true)), 0⟩,
                ⟨(some (86)), .pick (.t 80) (.t 85) (.b false), none, 0⟩,
                ⟨(some (87)), .mov (.t 86), none, 0⟩,
                ⟨(some (88)), .call 256449216 (.k (.one (.p (.fn 13 [] [])))) [], (some (87, true)), 0⟩,
                ⟨(some (89)), .pick (.t 87) (.t 88) (.b false), none, 0⟩,
                ⟨(some (2)), .mov (.t 89), none, 0⟩])
              (.ret)))))))⟩
theorem c4 : compF Go.Proofs.Tryz.prog 4 = some i4 := by kernel_rfl
def i5 : IFn :=
⟨33, [(2, none)],
  (.seq
    (.region false [
      ⟨(some (2)), .mov (.b false), none, 0⟩])
    (.seq
      (.region false [
        ⟨(some (6)), .mov (.t 0), none, 0⟩,
        ⟨(some (7)), .call 320064064 (.k (.one (.p (.fn 16 [] [])))) [.t 6], none, 0⟩,
        ⟨(some (5)), .mov (.t 7), none, 0⟩,
        ⟨(some (8)), .extract (.t 5) 0, none, 0⟩,
        ⟨(some (9)), .extract (.t 5) 1, none, 0⟩,
        ⟨(some (3)), .alloc 320064320 [.int .i64 0, .int .i64 0, .int .i64 0, .int .i64 0, .bool false, .bool false, .int .i64 0], none, 0⟩,
        ⟨none, .store 7 (.t 3) (.t 8), none, 0⟩,
        ⟨(some (4)), .mov (.t 9), none, 0⟩])
      (.seq
        (.seq
          (.region false [
            ⟨(some (10)), .mov (.t 4), none, 0⟩,
            ⟨(some (11)), .bin .neq (.t 10) (.i 0), none, 0⟩])
          (.cond (.t 11)
            (.seq
              (.region false [
                ⟨(some (12)), .mov (.t 4), none, 0⟩,
                ⟨(some (13)), .bin .eql (.t 12) (.i 6), none, 0⟩,
                ⟨(some (14)), .mov (.t 13), none, 0⟩,
                ⟨(some (15)), .load (some (7)) (.t 3), (some (14, true)), 0⟩,
                ⟨(some (16)), .build [.int .i64 0, .int .i64 0, .int .i64 0, .int .i64 0, .bool false, .bool false, .int .i64 0] [], (some (14, true)), 0⟩,
                ⟨(some (17)), .eqc (.str [true, true, true, true, false, false, true]) false (.t 15) (.t 16), (some (14, true)), 0⟩,
                ⟨(some (18)), .pick (.t 14) (.t 17) (.b false), none, 0⟩,
                ⟨(some (19)), .mov (.t 18), none, 0⟩,
                ⟨(some (20)), .call 320192512 (.k (.one (.p (.fn 13 [] [])))) [], (some (19, true)), 0⟩,
                ⟨(some (21)), .pick (.t 19) (.t 20) (.b false), none, 0⟩,
                ⟨(some (2)), .mov (.t 21), none, 0⟩])
              (.ret))
            (.skip)))
        (.seq
          (.region false [
            ⟨(some (22)), .load (some (7)) (.t 3), none, 0⟩,
            ⟨(some (23)), .call 320256064 (.k (.one (.p (.fn 15 [] [])))) [.t 22], none, 0⟩,
            ⟨(some (24)), .mov (.t 0), none, 0⟩,
            ⟨(some (25)), .bin .eql (.t 23) (.t 24), none, 0⟩,
            ⟨(some (26)), .mov (.t 25), none, 0⟩,
            ⟨(some (27)), .load (some (7)) (.t 3), (some (26, true)), 0⟩,
            ⟨(some (28)), .call 320256384 (.k (.one (.p (.fn 17 [] [])))) [.t 27], (some (26, true)), 0⟩,
            ⟨(some (29)), .pick (.t 26) (.t 28) (.b false), none, 0⟩,
            ⟨(some (30)), .mov (.t 29), none, 0⟩,
            ⟨(some (31)), .call 320256576 (.k (.one (.p (.fn 13 [] [])))) [], (some (30, true)), 0⟩,
            ⟨(some (32)), .pick (.t 30) (.t 31) (.b false), none, 0⟩,
            ⟨(some (2)), .mov (.t 32), none, 0⟩])
          (.ret)))))⟩
theorem c5 : compF Go.Proofs.Tryz.prog 5 = some i5 := by kernel_rfl
def i14 : IFn :=
⟨76, [(2, none)],
  (.seq
    (.region false [
      ⟨(some (1)), .box 896000000 (.t 0), none, 0⟩,
      ⟨(some (2)), .mov (.k (.one (.p (.str ⟨#[]⟩)))), none, 0⟩])
    (.seq
      (.seq
        (.region false [
          ⟨(some (6)), .faddr 0 (.t 1), none, 0⟩,
          ⟨(some (7)), .load none (.t 6), none, 0⟩,
          ⟨(some (8)), .call 896064128 (.k (.one (.p (.fn 40 [] [])))) [.t 7], none, 0⟩,
          ⟨(some (9)), .un .not (.t 8), none, 0⟩])
        (.cond (.t 9)
          (.seq
            (.region false [
              ⟨(some (2)), .mov (.k (.one (.p (.str ⟨#[63]⟩)))), none, 0⟩])
            (.ret))
          (.skip)))
      (.seq
        (.region true [
          ⟨(some (10)), .call 896192000 (.k (.one (.p (.fn 45 [] [])))) [], none, 0⟩,
          ⟨(some (11)), .faddr 0 (.t 1), none, 0⟩,
          ⟨(some (12)), .load none (.t 11), none, 2⟩,
          ⟨(some (13)), .aidx 11 1 none (.t 10) (.t 12), none, 7⟩,
          ⟨(some (14)), .bslice 896192256 9 1 [.t 13], none, 15⟩,
          ⟨(some (3)), .mov (.t 14), none, 31⟩])
        (.seq
          (.seq
            (.region true [
              ⟨(some (15)), .faddr 1 (.t 1), none, 0⟩,
              ⟨(some (16)), .load none (.t 15), none, 1⟩,
              ⟨(some (17)), .faddr 2 (.t 1), none, 0⟩,
              ⟨(some (18)), .load none (.t 17), none, 4⟩,
              ⟨(some (19)), .faddr 3 (.t 1), none, 0⟩,
              ⟨(some (20)), .load none (.t 19), none, 16⟩,
              ⟨(some (21)), .bslice 896256384 3 1 [.t 16, .t 18, .t 20], none, 63⟩,
              ⟨(some (22)), .faddr 0 (.t 1), none, 0⟩,
              ⟨(some (23)), .load none (.t 22), none, 128⟩,
              ⟨(some (24)), .call 896256576 (.k (.one (.p (.fn 46 [] [])))) [.t 23], none, 384⟩,
              ⟨(some (25)), .slice 1 (.t 21) none (some (.t 24)), none, 1023⟩,
              ⟨(some (26)), .llen (.t 25), none, 2047⟩,
              ⟨(some (27)), .mov (.i 0), none, 0⟩])
            (.block 0
              (.loop
                (.seq
                  (.region false [
                    ⟨(some (28)), .bin .lss (.t 27) (.t 26), none, 0⟩])
                  (.seq
                    (.cond (.t 28)
                      (.skip)
                      (.exit 0))
                    (.seq
                      (.block 1
                        (.seq
                          (.region false [
                            ⟨(some (29)), .iaddr 1 (.t 25) (.t 27), none, 0⟩,
                            ⟨(some (30)), .load none (.t 29), none, 0⟩,
                            ⟨(some (5)), .mov (.t 30), none, 0⟩])
                          (.region false [
                            ⟨(some (31)), .mov (.t 3), none, 0⟩,
                            ⟨(some (32)), .mov (.t 5), none, 0⟩,
                            ⟨(some (33)), .call 896448128 (.k (.one (.p (.fn 47 [] [])))) [.t 32], none, 0⟩,
                            ⟨(some (34)), .bslice 896448192 9 1 [.t 33], none, 0⟩,
                            ⟨(some (35)), .append 896448256 9 1 16 (.t 31) (.t 34), none, 0⟩,
                            ⟨(some (3)), .mov (.t 35), none, 0⟩])))
                      (.region false [
                        ⟨(some (36)), .bin .add (.t 27) (.i 1), none, 0⟩,
                        ⟨(some (27)), .mov (.t 36), none, 0⟩])))))))
          (.seq
            (.seq
              (.region false [
                ⟨(some (37)), .faddr 0 (.t 1), none, 0⟩,
                ⟨(some (38)), .load none (.t 37), none, 0⟩,
                ⟨(some (39)), .bin .eql (.t 38) (.i 7), none, 0⟩])
              (.cond (.t 39)
                (.region false [
                  ⟨(some (40)), .mov (.t 3), none, 0⟩,
                  ⟨(some (41)), .faddr 4 (.t 1), none, 0⟩,
                  ⟨(some (42)), .load none (.t 41), none, 0⟩,
                  ⟨(some (43)), .call 896640192 (.k (.one (.p (.fn 48 [] [])))) [.t 42, .k (.one (.p (.str ⟨#[108, 101, 102, 116]⟩))), .k (.one (.p (.str ⟨#[114, 105, 103, 104, 116]⟩)))], none, 0⟩,
                  ⟨(some (44)), .bslice 896640256 9 1 [.t 43], none, 0⟩,
                  ⟨(some (45)), .append 896640320 9 1 16 (.t 40) (.t 44), none, 0⟩,
                  ⟨(some (3)), .mov (.t 45), none, 0⟩])
                (.skip)))
            (.seq
              (.seq
                (.region false [
                  ⟨(some (46)), .faddr 0 (.t 1), none, 0⟩,
                  ⟨(some (47)), .load none (.t 46), none, 0⟩,
                  ⟨(some (48)), .bin .eql (.t 47) (.i 7), none, 0⟩,
                  ⟨(some (49)), .mov (.t 48), none, 0⟩,
                  ⟨(some (50)), .faddr 0 (.t 1), (some (49, false)), 0⟩,
                  ⟨(some (51)), .load none (.t 50), (some (49, false)), 0⟩,
                  ⟨(some (52)), .bin .eql (.t 51) (.i 5), (some (49, false)), 0⟩,
                  ⟨(some (53)), .pick (.t 49) (.b true) (.t 52), none, 0⟩])
                (.cond (.t 53)
                  (.region false [
                    ⟨(some (54)), .mov (.t 3), none, 0⟩,
                    ⟨(some (55)), .faddr 5 (.t 1), none, 0⟩,
                    ⟨(some (56)), .load none (.t 55), none, 0⟩,
                    ⟨(some (57)), .call 896768192 (.k (.one (.p (.fn 48 [] [])))) [.t 56, .k (.one (.p (.str ⟨#[111, 118, 101, 114]⟩))), .k (.one (.p (.str ⟨#[117, 110, 100, 101, 114]⟩)))], none, 0⟩,
                    ⟨(some (58)), .bslice 896768256 9 1 [.t 57], none, 0⟩,
                    ⟨(some (59)), .append 896768320 9 1 16 (.t 54) (.t 58), none, 0⟩,
                    ⟨(some (3)), .mov (.t 59), none, 0⟩])
                  (.skip)))
              (.seq
                (.seq
                  (.region false [
                    ⟨(some (60)), .faddr 0 (.t 1), none, 0⟩,
                    ⟨(some (61)), .load none (.t 60), none, 0⟩,
                    ⟨(some (62)), .bin .eql (.t 61) (.i 5), none, 0⟩])
                  (.cond (.t 62)
                    (.region true [
                      ⟨(some (63)), .mov (.t 3), none, 0⟩,
                      ⟨(some (64)), .faddr 6 (.t 1), none, 0⟩,
                      ⟨(some (65)), .load none (.t 64), none, 2⟩,
                      ⟨(some (66)), .bin .eql (.t 65) (.i 1), none, 6⟩,
                      ⟨(some (67)), .faddr 6 (.t 1), none, 0⟩,
                      ⟨(some (68)), .load none (.t 67), none, 16⟩,
                      ⟨(some (69)), .bin .eql (.t 68) (.i (-1)), none, 48⟩,
                      ⟨(some (70)), .call 896896448 (.k (.one (.p (.fn 48 [] [])))) [.t 69, .k (.one (.p (.str ⟨#[45]⟩))), .k (.one (.p (.str ⟨#[63]⟩)))], none, 112⟩,
                      ⟨(some (71)), .call 896896512 (.k (.one (.p (.fn 48 [] [])))) [.t 66, .k (.one (.p (.str ⟨#[43]⟩))), .t 70], none, 254⟩,
                      ⟨(some (72)), .bslice 896896576 9 1 [.t 71], none, 510⟩,
                      ⟨(some (73)), .append 896896640 9 1 16 (.t 63) (.t 72), none, 1023⟩,
                      ⟨(some (3)), .mov (.t 73), none, 2047⟩])
                    (.skip)))
                (.seq
                  (.region false [
                    ⟨(some (74)), .mov (.t 3), none, 0⟩,
                    ⟨(some (75)), .call 896960064 (.k (.one (.p (.fn 49 [] [])))) [.t 74, .k (.one (.p (.str ⟨#[32]⟩)))], none, 0⟩,
                    ⟨(some (2)), .mov (.t 75), none, 0⟩])
                  (.ret)))))))))⟩
theorem c14 : compF Go.Proofs.Tryz.prog 14 = some i14 := by kernel_rfl
def i15 : IFn :=
⟨70, [(2, none)],
  (.seq
    (.region false [
      ⟨(some (1)), .box 960000000 (.t 0), none, 0⟩,
      ⟨(some (2)), .mov (.k (.one (.p (.str ⟨#[]⟩)))), none, 0⟩])
    (.seq
      (.region false [
        ⟨(some (6)), .faddr 0 (.t 1), none, 0⟩,
        ⟨(some (7)), .load none (.t 6), none, 0⟩,
        ⟨(some (8)), .call 960064128 (.k (.one (.p (.fn 50 [] [])))) [.t 7], none, 0⟩,
        ⟨(some (3)), .mov (.t 8), none, 0⟩])
      (.seq
        (.region false [
          ⟨(some (9)), .faddr 0 (.t 1), none, 0⟩,
          ⟨(some (10)), .load none (.t 9), none, 0⟩,
          ⟨(some (11)), .call 960128128 (.k (.one (.p (.fn 51 [] [])))) [.t 10], none, 0⟩,
          ⟨(some (4)), .mov (.t 11), none, 0⟩])
        (.seq
          (.seq
            (.region false [
              ⟨(some (5)), .mov (.i 0), none, 0⟩])
            (.block 0
              (.loop
                (.seq
                  (.seq
                    (.region false [
                      ⟨(some (12)), .mov (.t 5), none, 0⟩,
                      ⟨(some (13)), .mov (.t 4), none, 0⟩,
                      ⟨(some (14)), .slen (.t 13), none, 0⟩,
                      ⟨(some (15)), .bin .lss (.t 12) (.t 14), none, 0⟩])
                    (.cond (.t 15)
                      (.skip)
                      (.exit 0)))
                  (.seq
                    (.block 1
                      (.seq
                        (.region false [
                          ⟨(some (18)), .mov (.t 4), none, 0⟩,
                          ⟨(some (19)), .mov (.t 5), none, 0⟩,
                          ⟨(some (20)), .sidx (.t 18) (.t 19), none, 0⟩])
                        (.block 2
                          (.seq
                            (.region false [
                              ⟨(some (32)), .bin .eql (.t 20) (.k (.one (.p (.int .u8 65)))), none, 0⟩,
                              ⟨(some (31)), .mov (.t 32), none, 0⟩])
                            (.cond (.t 31)
                              (.region false [
                                ⟨(some (33)), .mov (.t 3), none, 0⟩,
                                ⟨(some (34)), .bin .add (.t 33) (.k (.one (.p (.str ⟨#[32]⟩)))), none, 0⟩,
                                ⟨(some (35)), .faddr 1 (.t 1), none, 0⟩,
                                ⟨(some (36)), .load none (.t 35), none, 0⟩,
                                ⟨(some (37)), .call 960576256 (.k (.one (.p (.fn 52 [] [])))) [.t 36], none, 0⟩,
                                ⟨(some (38)), .bin .add (.t 34) (.t 37), none, 0⟩,
                                ⟨(some (3)), .mov (.t 38), none, 0⟩])
                              (.seq
                                (.region false [
                                  ⟨(some (40)), .bin .eql (.t 20) (.k (.one (.p (.int .u8 66)))), none, 0⟩,
                                  ⟨(some (39)), .mov (.t 40), none, 0⟩])
                                (.cond (.t 39)
                                  (.region false [
                                    ⟨(some (41)), .mov (.t 3), none, 0⟩,
                                    ⟨(some (42)), .bin .add (.t 41) (.k (.one (.p (.str ⟨#[32]⟩)))), none, 0⟩,
                                    ⟨(some (43)), .faddr 2 (.t 1), none, 0⟩,
                                    ⟨(some (44)), .load none (.t 43), none, 0⟩,
                                    ⟨(some (45)), .call 960704256 (.k (.one (.p (.fn 52 [] [])))) [.t 44], none, 0⟩,
                                    ⟨(some (46)), .bin .add (.t 42) (.t 45), none, 0⟩,
                                    ⟨(some (3)), .mov (.t 46), none, 0⟩])
                                  (.seq
                                    (.region false [
                                      ⟨(some (48)), .bin .eql (.t 20) (.k (.one (.p (.int .u8 67)))), none, 0⟩,
                                      ⟨(some (47)), .mov (.t 48), none, 0⟩])
                                    (.cond (.t 47)
                                      (.region false [
                                        ⟨(some (49)), .mov (.t 3), none, 0⟩,
                                        ⟨(some (50)), .bin .add (.t 49) (.k (.one (.p (.str ⟨#[32]⟩)))), none, 0⟩,
                                        ⟨(some (51)), .faddr 3 (.t 1), none, 0⟩,
                                        ⟨(some (52)), .load none (.t 51), none, 0⟩,
                                        ⟨(some (53)), .call 960832256 (.k (.one (.p (.fn 52 [] [])))) [.t 52], none, 0⟩,
                                        ⟨(some (54)), .bin .add (.t 50) (.t 53), none, 0⟩,
                                        ⟨(some (3)), .mov (.t 54), none, 0⟩])
                                      (.seq
                                        (.region false [
                                          ⟨(some (56)), .bin .eql (.t 20) (.k (.one (.p (.int .u8 76)))), none, 0⟩,
                                          ⟨(some (55)), .mov (.t 56), none, 0⟩])
                                        (.cond (.t 55)
                                          (.region false [
                                            ⟨(some (57)), .mov (.t 3), none, 0⟩,
                                            ⟨(some (58)), .faddr 4 (.t 1), none, 0⟩,
                                            ⟨(some (59)), .load none (.t 58), none, 0⟩,
                                            ⟨(some (60)), .call 960960192 (.k (.one (.p (.fn 53 [] [])))) [.t 59, .k (.one (.p (.str ⟨#[32, 108, 101, 102, 116]⟩))), .k (.one (.p (.str ⟨#[32, 114, 105, 103, 104, 116]⟩)))], none, 0⟩,
                                            ⟨(some (61)), .bin .add (.t 57) (.t 60), none, 0⟩,
                                            ⟨(some (3)), .mov (.t 61), none, 0⟩])
                                          (.seq
                                            (.region false [
                                              ⟨(some (63)), .bin .eql (.t 20) (.k (.one (.p (.int .u8 79)))), none, 0⟩,
                                              ⟨(some (62)), .mov (.t 63), none, 0⟩])
                                            (.cond (.t 62)
                                              (.region false [
                                                ⟨(some (64)), .mov (.t 3), none, 0⟩,
                                                ⟨(some (65)), .faddr 5 (.t 1), none, 0⟩,
                                                ⟨(some (66)), .load none (.t 65), none, 0⟩,
                                                ⟨(some (67)), .call 961088192 (.k (.one (.p (.fn 53 [] [])))) [.t 66, .k (.one (.p (.str ⟨#[32, 111, 118, 101, 114]⟩))), .k (.one (.p (.str ⟨#[32, 117, 110, 100, 101, 114]⟩)))], none, 0⟩,
                                                ⟨(some (68)), .bin .add (.t 64) (.t 67), none, 0⟩,
                                                ⟨(some (3)), .mov (.t 68), none, 0⟩])
                                              (.region true [
                                                ⟨(some (21)), .mov (.t 3), none, 0⟩,
                                                ⟨(some (22)), .faddr 6 (.t 1), none, 0⟩,
                                                ⟨(some (23)), .load none (.t 22), none, 2⟩,
                                                ⟨(some (24)), .bin .eql (.t 23) (.i 1), none, 6⟩,
                                                ⟨(some (25)), .faddr 6 (.t 1), none, 0⟩,
                                                ⟨(some (26)), .load none (.t 25), none, 16⟩,
                                                ⟨(some (27)), .bin .eql (.t 26) (.i (-1)), none, 48⟩,
                                                ⟨(some (28)), .call 960448448 (.k (.one (.p (.fn 53 [] [])))) [.t 27, .k (.one (.p (.str ⟨#[32, 45]⟩))), .k (.one (.p (.str ⟨#[32, 63]⟩)))], none, 112⟩,
                                                ⟨(some (29)), .call 960448512 (.k (.one (.p (.fn 53 [] [])))) [.t 24, .k (.one (.p (.str ⟨#[32, 43]⟩))), .t 28], none, 254⟩,
                                                ⟨(some (30)), .bin .add (.t 21) (.t 29), none, 511⟩,
                                                ⟨(some (3)), .mov (.t 30), none, 1023⟩]))))))))))))))
                    (.region false [
                      ⟨(some (16)), .mov (.t 5), none, 0⟩,
                      ⟨(some (17)), .bin .add (.t 16) (.i 1), none, 0⟩,
                      ⟨(some (5)), .mov (.t 17), none, 0⟩]))))))
          (.seq
            (.region false [
              ⟨(some (69)), .mov (.t 3), none, 0⟩,
              ⟨(some (2)), .mov (.t 69), none, 0⟩])
            (.ret))))))⟩
theorem c15 : compF Go.Proofs.Tryz.prog 15 = some i15 := by kernel_rfl
def i17 : IFn :=
⟨82, [(2, none)],
  (.seq
    (.region false [
      ⟨(some (1)), .box 1088000000 (.t 0), none, 0⟩,
      ⟨(some (2)), .mov (.b false), none, 0⟩])
    (.seq
      (.region false [
        ⟨(some (4)), .faddr 0 (.t 1), none, 0⟩,
        ⟨(some (5)), .load none (.t 4), none, 0⟩,
        ⟨(some (6)), .call 1088064128 (.k (.one (.p (.fn 51 [] [])))) [.t 5], none, 0⟩,
        ⟨(some (3)), .mov (.t 6), none, 0⟩])
      (.seq
        (.seq
          (.region false [
            ⟨(some (7)), .mov (.t 3), none, 0⟩,
            ⟨(some (8)), .bin .eql (.t 7) (.k (.one (.p (.str ⟨#[]⟩)))), none, 0⟩,
            ⟨(some (9)), .mov (.t 8), none, 0⟩,
            ⟨(some (10)), .faddr 1 (.t 1), (some (9, false)), 0⟩,
            ⟨(some (11)), .load none (.t 10), (some (9, false)), 0⟩,
            ⟨(some (12)), .bin .lss (.t 11) (.i 0), (some (9, false)), 0⟩,
            ⟨(some (13)), .pick (.t 9) (.b true) (.t 12), none, 0⟩,
            ⟨(some (14)), .mov (.t 13), none, 0⟩,
            ⟨(some (15)), .faddr 2 (.t 1), (some (14, false)), 0⟩,
            ⟨(some (16)), .load none (.t 15), (some (14, false)), 0⟩,
            ⟨(some (17)), .bin .lss (.t 16) (.i 0), (some (14, false)), 0⟩,
            ⟨(some (18)), .pick (.t 14) (.b true) (.t 17), none, 0⟩,
            ⟨(some (19)), .mov (.t 18), none, 0⟩,
            ⟨(some (20)), .faddr 3 (.t 1), (some (19, false)), 0⟩,
            ⟨(some (21)), .load none (.t 20), (some (19, false)), 0⟩,
            ⟨(some (22)), .bin .lss (.t 21) (.i 0), (some (19, false)), 0⟩,
            ⟨(some (23)), .pick (.t 19) (.b true) (.t 22), none, 0⟩])
          (.cond (.t 23)
            (.seq
              (.region false [
                ⟨(some (2)), .mov (.b false), none, 0⟩])
              (.ret))
            (.skip)))
        (.seq
          (.seq
            (.region false [
              ⟨(some (24)), .mov (.t 3), none, 0⟩,
              ⟨(some (25)), .call 1088256064 (.k (.one (.p (.fn 56 [] [])))) [.t 24, .k (.one (.p (.int .u8 66)))], none, 0⟩,
              ⟨(some (26)), .un .not (.t 25), none, 0⟩,
              ⟨(some (27)), .mov (.t 26), none, 0⟩,
              ⟨(some (28)), .faddr 2 (.t 1), (some (27, true)), 0⟩,
              ⟨(some (29)), .load none (.t 28), (some (27, true)), 0⟩,
              ⟨(some (30)), .bin .neq (.t 29) (.i 0), (some (27, true)), 0⟩,
              ⟨(some (31)), .pick (.t 27) (.t 30) (.b false), none, 0⟩,
              ⟨(some (32)), .mov (.t 31), none, 0⟩,
              ⟨(some (33)), .mov (.t 3), (some (32, false)), 0⟩,
              ⟨(some (34)), .call 1088256640 (.k (.one (.p (.fn 56 [] [])))) [.t 33, .k (.one (.p (.int .u8 67)))], (some (32, false)), 0⟩,
              ⟨(some (35)), .un .not (.t 34), (some (32, false)), 0⟩,
              ⟨(some (36)), .mov (.t 35), (some (32, false)), 0⟩,
              ⟨(some (37)), .faddr 3 (.t 1), (some (36, true)), 0⟩,
              ⟨(some (38)), .load none (.t 37), (some (36, true)), 0⟩,
              ⟨(some (39)), .bin .neq (.t 38) (.i 0), (some (36, true)), 0⟩,
              ⟨(some (40)), .pick (.t 36) (.t 39) (.b false), (some (32, false)), 0⟩,
              ⟨(some (41)), .pick (.t 32) (.b true) (.t 40), none, 0⟩,
              ⟨(some (42)), .mov (.t 41), none, 0⟩,
              ⟨(some (43)), .mov (.t 3), (some (42, false)), 0⟩,
              ⟨(some (44)), .call 1088257280 (.k (.one (.p (.fn 56 [] [])))) [.t 43, .k (.one (.p (.int .u8 76)))], (some (42, false)), 0⟩,
              ⟨(some (45)), .un .not (.t 44), (some (42, false)), 0⟩,
              ⟨(some (46)), .mov (.t 45), (some (42, false)), 0⟩,
              ⟨(some (47)), .faddr 4 (.t 1), (some (46, true)), 0⟩,
              ⟨(some (48)), .load none (.t 47), (some (46, true)), 0⟩,
              ⟨(some (49)), .pick (.t 46) (.t 48) (.b false), (some (42, false)), 0⟩,
              ⟨(some (50)), .pick (.t 42) (.b true) (.t 49), none, 0⟩,
              ⟨(some (51)), .mov (.t 50), none, 0⟩,
              ⟨(some (52)), .mov (.t 3), (some (51, false)), 0⟩,
              ⟨(some (53)), .call 1088257856 (.k (.one (.p (.fn 56 [] [])))) [.t 52, .k (.one (.p (.int .u8 79)))], (some (51, false)), 0⟩,
              ⟨(some (54)), .un .not (.t 53), (some (51, false)), 0⟩,
              ⟨(some (55)), .mov (.t 54), (some (51, false)), 0⟩,
              ⟨(some (56)), .faddr 5 (.t 1), (some (55, true)), 0⟩,
              ⟨(some (57)), .load none (.t 56), (some (55, true)), 0⟩,
              ⟨(some (58)), .pick (.t 55) (.t 57) (.b false), (some (51, false)), 0⟩,
              ⟨(some (59)), .pick (.t 51) (.b true) (.t 58), none, 0⟩])
            (.cond (.t 59)
              (.seq
                (.region false [
                  ⟨(some (2)), .mov (.b false), none, 0⟩])
                (.ret))
              (.skip)))
          (.seq
            (.region false [
              ⟨(some (60)), .mov (.t 3), none, 0⟩,
              ⟨(some (61)), .call 1088384064 (.k (.one (.p (.fn 56 [] [])))) [.t 60, .k (.one (.p (.int .u8 83)))], none, 0⟩,
              ⟨(some (62)), .mov (.t 61), none, 0⟩,
              ⟨(some (63)), .faddr 6 (.t 1), (some (62, true)), 0⟩,
              ⟨(some (64)), .load none (.t 63), (some (62, true)), 0⟩,
              ⟨(some (65)), .bin .eql (.t 64) (.i 1), (some (62, true)), 0⟩,
              ⟨(some (66)), .mov (.t 65), (some (62, true)), 0⟩,
              ⟨(some (67)), .faddr 6 (.t 1), (some (66, false)), 0⟩,
              ⟨(some (68)), .load none (.t 67), (some (66, false)), 0⟩,
              ⟨(some (69)), .bin .eql (.t 68) (.i (-1)), (some (66, false)), 0⟩,
              ⟨(some (70)), .pick (.t 66) (.b true) (.t 69), (some (62, true)), 0⟩,
              ⟨(some (71)), .pick (.t 62) (.t 70) (.b false), none, 0⟩,
              ⟨(some (72)), .mov (.t 71), none, 0⟩,
              ⟨(some (73)), .mov (.t 3), (some (72, false)), 0⟩,
              ⟨(some (74)), .call 1088384896 (.k (.one (.p (.fn 56 [] [])))) [.t 73, .k (.one (.p (.int .u8 83)))], (some (72, false)), 0⟩,
              ⟨(some (75)), .un .not (.t 74), (some (72, false)), 0⟩,
              ⟨(some (76)), .mov (.t 75), (some (72, false)), 0⟩,
              ⟨(some (77)), .faddr 6 (.t 1), (some (76, true)), 0⟩,
              ⟨(some (78)), .load none (.t 77), (some (76, true)), 0⟩,
              ⟨(some (79)), .bin .eql (.t 78) (.i 0), (some (76, true)), 0⟩,
              ⟨(some (80)), .pick (.t 76) (.t 79) (.b false), (some (72, false)), 0⟩,
              ⟨(some (81)), .pick (.t 72) (.b true) (.t 80), none, 0⟩,
              ⟨(some (2)), .mov (.t 81), none, 0⟩])
            (.ret))))))⟩
theorem c17 : compF Go.Proofs.Tryz.prog 17 = some i17 := by kernel_rfl
def i45 : IFn :=
⟨2, [(0, some (some (11)))],
  (.seq
    (.region false [
      ⟨(some (0)), .alloc 2880000000 [.str ⟨#[]⟩, .str ⟨#[]⟩, .str ⟨#[]⟩, .str ⟨#[]⟩, .str ⟨#[]⟩, .str ⟨#[]⟩, .str ⟨#[]⟩, .str ⟨#[]⟩, .str ⟨#[]⟩, .str ⟨#[]⟩, .str ⟨#[]⟩], none, 0⟩])
    (.seq
      (.region false [
        ⟨(some (1)), .build [.str ⟨#[]⟩, .str ⟨#[]⟩, .str ⟨#[]⟩, .str ⟨#[]⟩, .str ⟨#[]⟩, .str ⟨#[]⟩, .str ⟨#[]⟩, .str ⟨#[]⟩, .str ⟨#[]⟩, .str ⟨#[]⟩, .str ⟨#[]⟩] [(0, 1, .k (.one (.p (.str ⟨#[]⟩)))), (1, 1, .k (.one (.p (.str ⟨#[97, 120, 105, 115, 45, 99, 117, 116]⟩)))), (2, 1, .k (.one (.p (.str ⟨#[97, 120, 105, 115, 45, 109, 97, 107, 101]⟩)))), (3, 1, .k (.one (.p (.str ⟨#[97, 120, 105, 115, 45, 115, 108, 105, 100, 101]⟩)))), (4, 1, .k (.one (.p (.str ⟨#[108, 111, 111, 112, 45, 99, 117, 116]⟩)))), (5, 1, .k (.one (.p (.str ⟨#[108, 111, 111, 112, 45, 109, 97, 107, 101]⟩)))), (6, 1, .k (.one (.p (.str ⟨#[112, 97, 105, 114, 45, 99, 117, 116]⟩)))), (7, 1, .k (.one (.p (.str ⟨#[112, 97, 105, 114, 45, 109, 97, 107, 101]⟩)))), (8, 1, .k (.one (.p (.str ⟨#[116, 114, 105, 97, 110, 103, 108, 101]⟩)))), (9, 1, .k (.one (.p (.str ⟨#[116, 105, 112, 45, 114, 105, 103, 104, 116]⟩)))), (10, 1, .k (.one (.p (.str ⟨#[116, 105, 112, 45, 108, 101, 102, 116]⟩))))], none, 0⟩,
        ⟨none, .store 11 (.t 0) (.t 1), none, 0⟩])
      (.ret)))⟩
theorem c45 : compF Go.Proofs.Tryz.prog 45 = some i45 := by kernel_rfl
def i46 : IFn :=
⟨11, [(2, none)],
  (.seq
    (.region false [
      ⟨(some (2)), .mov (.i 0), none, 0⟩])
    (.seq
      (.seq
        (.region false [
          ⟨(some (3)), .mov (.t 0), none, 0⟩])
        (.block 0
          (.seq
            (.seq
              (.region false [
                ⟨(some (5)), .bin .eql (.t 3) (.i 2), none, 0⟩,
                ⟨(some (4)), .mov (.t 5), none, 0⟩])
              (.cond (.t 4)
                (.skip)
                (.region false [
                  ⟨(some (6)), .bin .eql (.t 3) (.i 8), none, 0⟩,
                  ⟨(some (4)), .mov (.t 6), none, 0⟩])))
            (.cond (.t 4)
              (.seq
                (.region false [
                  ⟨(some (2)), .mov (.i 3), none, 0⟩])
                (.ret))
              (.seq
                (.seq
                  (.region false [
                    ⟨(some (8)), .bin .eql (.t 3) (.i 3), none, 0⟩,
                    ⟨(some (7)), .mov (.t 8), none, 0⟩])
                  (.cond (.t 7)
                    (.skip)
                    (.seq
                      (.region false [
                        ⟨(some (9)), .bin .eql (.t 3) (.i 6), none, 0⟩,
                        ⟨(some (7)), .mov (.t 9), none, 0⟩])
                      (.cond (.t 7)
                        (.skip)
                        (.region false [
                          ⟨(some (10)), .bin .eql (.t 3) (.i 7), none, 0⟩,
                          ⟨(some (7)), .mov (.t 10), none, 0⟩])))))
                (.cond (.t 7)
                  (.seq
                    (.region false [
                      ⟨(some (2)), .mov (.i 2), none, 0⟩])
                    (.ret))
                  (.skip)))))))
      (.seq
        (.region false [
          ⟨(some (2)), .mov (.i 1), none, 0⟩])
        (.ret))))⟩
theorem c46 : compF Go.Proofs.Tryz.prog 46 = some i46 := by kernel_rfl
def i48 : IFn :=
⟨10, [(6, none)],
  (.seq
    (.region false [
      ⟨(some (6)), .mov (.k (.one (.p (.str ⟨#[]⟩)))), none, 0⟩])
    (.seq
      (.seq
        (.region false [
          ⟨(some (7)), .mov (.t 0), none, 0⟩])
        (.cond (.t 7)
          (.seq
            (.region false [
              ⟨(some (8)), .mov (.t 1), none, 0⟩,
              ⟨(some (6)), .mov (.t 8), none, 0⟩])
            (.ret))
          (.skip)))
      (.seq
        (.region false [
          ⟨(some (9)), .mov (.t 2), none, 0⟩,
          ⟨(some (6)), .mov (.t 9), none, 0⟩])
        (.ret))))⟩
theorem c48 : compF Go.Proofs.Tryz.prog 48 = some i48 := by kernel_rfl
def i50 : IFn :=
⟨16, [(2, none)],
  (.seq
    (.region false [
      ⟨(some (2)), .mov (.k (.one (.p (.str ⟨#[]⟩)))), none, 0⟩])
    (.seq
      (.region false [
        ⟨(some (4)), .bslice 3200064000 9 1 [.k (.one (.p (.str ⟨#[97, 120, 105, 115, 45, 99, 117, 116]⟩))), .k (.one (.p (.str ⟨#[97, 120, 105, 115, 45, 109, 97, 107, 101]⟩))), .k (.one (.p (.str ⟨#[97, 120, 105, 115, 45, 115, 108, 105, 100, 101]⟩))), .k (.one (.p (.str ⟨#[108, 111, 111, 112, 45, 99, 117, 116]⟩))), .k (.one (.p (.str ⟨#[108, 111, 111, 112, 45, 109, 97, 107, 101]⟩))), .k (.one (.p (.str ⟨#[112, 97, 105, 114, 45, 99, 117, 116]⟩))), .k (.one (.p (.str ⟨#[112, 97, 105, 114, 45, 109, 97, 107, 101]⟩))), .k (.one (.p (.str ⟨#[116, 114, 105, 97, 110, 103, 108, 101]⟩))), .k (.one (.p (.str ⟨#[116, 105, 112, 45, 114, 105, 103, 104, 116]⟩))), .k (.one (.p (.str ⟨#[116, 105, 112, 45, 108, 101, 102, 116]⟩)))], none, 0⟩,
        ⟨(some (3)), .mov (.t 4), none, 0⟩])
      (.seq
        (.seq
          (.region false [
            ⟨(some (5)), .mov (.t 0), none, 0⟩,
            ⟨(some (6)), .bin .lss (.t 5) (.i 1), none, 0⟩,
            ⟨(some (7)), .mov (.t 6), none, 0⟩,
            ⟨(some (8)), .mov (.t 0), (some (7, false)), 0⟩,
            ⟨(some (9)), .bin .gtr (.t 8) (.i 10), (some (7, false)), 0⟩,
            ⟨(some (10)), .pick (.t 7) (.b true) (.t 9), none, 0⟩])
          (.cond (.t 10)
            (.seq
              (.region false [
                ⟨(some (2)), .mov (.k (.one (.p (.str ⟨#[63]⟩)))), none, 0⟩])
              (.ret))
            (.skip)))
        (.seq
          (.region false [
            ⟨(some (11)), .mov (.t 3), none, 0⟩,
            ⟨(some (12)), .mov (.t 0), none, 0⟩,
            ⟨(some (13)), .bin .sub (.t 12) (.i 1), none, 0⟩,
            ⟨(some (14)), .iaddr 1 (.t 11) (.t 13), none, 0⟩,
            ⟨(some (15)), .load none (.t 14), none, 0⟩,
            ⟨(some (2)), .mov (.t 15), none, 0⟩])
          (.ret)))))⟩
theorem c50 : compF Go.Proofs.Tryz.prog 50 = some i50 := by kernel_rfl
def i51 : IFn :=
⟨19, [(2, none)],
  (.seq
    (.region false [
      ⟨(some (2)), .mov (.k (.one (.p (.str ⟨#[]⟩)))), none, 0⟩])
    (.seq
      (.seq
        (.region false [
          ⟨(some (3)), .mov (.t 0), none, 0⟩])
        (.block 0
          (.seq
            (.seq
              (.region false [
                ⟨(some (5)), .bin .eql (.t 3) (.i 1), none, 0⟩,
                ⟨(some (4)), .mov (.t 5), none, 0⟩])
              (.cond (.t 4)
                (.skip)
                (.seq
                  (.region false [
                    ⟨(some (6)), .bin .eql (.t 3) (.i 4), none, 0⟩,
                    ⟨(some (4)), .mov (.t 6), none, 0⟩])
                  (.cond (.t 4)
                    (.skip)
                    (.seq
                      (.region false [
                        ⟨(some (7)), .bin .eql (.t 3) (.i 9), none, 0⟩,
                        ⟨(some (4)), .mov (.t 7), none, 0⟩])
                      (.cond (.t 4)
                        (.skip)
                        (.region false [
                          ⟨(some (8)), .bin .eql (.t 3) (.i 10), none, 0⟩,
                          ⟨(some (4)), .mov (.t 8), none, 0⟩])))))))
            (.cond (.t 4)
              (.seq
                (.region false [
                  ⟨(some (2)), .mov (.k (.one (.p (.str ⟨#[65]⟩)))), none, 0⟩])
                (.ret))
              (.seq
                (.seq
                  (.region false [
                    ⟨(some (10)), .bin .eql (.t 3) (.i 2), none, 0⟩,
                    ⟨(some (9)), .mov (.t 10), none, 0⟩])
                  (.cond (.t 9)
                    (.skip)
                    (.region false [
                      ⟨(some (11)), .bin .eql (.t 3) (.i 8), none, 0⟩,
                      ⟨(some (9)), .mov (.t 11), none, 0⟩])))
                (.cond (.t 9)
                  (.seq
                    (.region false [
                      ⟨(some (2)), .mov (.k (.one (.p (.str ⟨#[65, 66, 67]⟩)))), none, 0⟩])
                    (.ret))
                  (.seq
                    (.seq
                      (.region false [
                        ⟨(some (13)), .bin .eql (.t 3) (.i 3), none, 0⟩,
                        ⟨(some (12)), .mov (.t 13), none, 0⟩])
                      (.cond (.t 12)
                        (.skip)
                        (.region false [
                          ⟨(some (14)), .bin .eql (.t 3) (.i 6), none, 0⟩,
                          ⟨(some (12)), .mov (.t 14), none, 0⟩])))
                    (.cond (.t 12)
                      (.seq
                        (.region false [
                          ⟨(some (2)), .mov (.k (.one (.p (.str ⟨#[65, 66]⟩)))), none, 0⟩])
                        (.ret))
                      (.seq
                        (.region false [
                          ⟨(some (16)), .bin .eql (.t 3) (.i 5), none, 0⟩,
                          ⟨(some (15)), .mov (.t 16), none, 0⟩])
                        (.cond (.t 15)
                          (.seq
                            (.region false [
                              ⟨(some (2)), .mov (.k (.one (.p (.str ⟨#[65, 79, 83]⟩)))), none, 0⟩])
                            (.ret))
                          (.seq
                            (.region false [
                              ⟨(some (18)), .bin .eql (.t 3) (.i 7), none, 0⟩,
                              ⟨(some (17)), .mov (.t 18), none, 0⟩])
                            (.cond (.t 17)
                              (.seq
                                (.region false [
                                  ⟨(some (2)), .mov (.k (.one (.p (.str ⟨#[65, 66, 76, 79]⟩)))), none, 0⟩])
                                (.ret))
                              (.skip)))))))))))))
      (.seq
        (.region false [
          ⟨(some (2)), .mov (.k (.one (.p (.str ⟨#[]⟩)))), none, 0⟩])
        (.ret))))⟩
theorem c51 : compF Go.Proofs.Tryz.prog 51 = some i51 := by kernel_rfl
def i52 : IFn :=
⟨5, [(2, none)],
  (.seq
    (.region false [
      ⟨(some (2)), .mov (.k (.one (.p (.str ⟨#[]⟩)))), none, 0⟩])
    (.seq
      (.region false [
        ⟨(some (3)), .mov (.t 0), none, 0⟩,
        ⟨(some (4)), .call 3328064064 (.k (.one (.p (.fn 117 [] [])))) [.t 3], none, 0⟩,
        ⟨(some (2)), .mov (.t 4), none, 0⟩])
      (.ret)))⟩
theorem c52 : compF Go.Proofs.Tryz.prog 52 = some i52 := by kernel_rfl
def i53 : IFn :=
⟨10, [(6, none)],
  (.seq
    (.region false [
      ⟨(some (6)), .mov (.k (.one (.p (.str ⟨#[]⟩)))), none, 0⟩])
    (.seq
      (.seq
        (.region false [
          ⟨(some (7)), .mov (.t 0), none, 0⟩])
        (.cond (.t 7)
          (.seq
            (.region false [
              ⟨(some (8)), .mov (.t 1), none, 0⟩,
              ⟨(some (6)), .mov (.t 8), none, 0⟩])
            (.ret))
          (.skip)))
      (.seq
        (.region false [
          ⟨(some (9)), .mov (.t 2), none, 0⟩,
          ⟨(some (6)), .mov (.t 9), none, 0⟩])
        (.ret))))⟩
theorem c53 : compF Go.Proofs.Tryz.prog 53 = some i53 := by kernel_rfl
def i56 : IFn :=
⟨17, [(4, none)],
  (.seq
    (.region false [
      ⟨(some (4)), .mov (.b false), none, 0⟩])
    (.seq
      (.seq
        (.region false [
          ⟨(some (5)), .mov (.i 0), none, 0⟩])
        (.block 0
          (.loop
            (.seq
              (.seq
                (.region false [
                  ⟨(some (6)), .mov (.t 5), none, 0⟩,
                  ⟨(some (7)), .mov (.t 0), none, 0⟩,
                  ⟨(some (8)), .slen (.t 7), none, 0⟩,
                  ⟨(some (9)), .bin .lss (.t 6) (.t 8), none, 0⟩])
                (.cond (.t 9)
                  (.skip)
                  (.exit 0)))
              (.seq
                (.block 1
                  (.seq
                    (.region false [
                      ⟨(some (12)), .mov (.t 0), none, 0⟩,
                      ⟨(some (13)), .mov (.t 5), none, 0⟩,
                      ⟨(some (14)), .sidx (.t 12) (.t 13), none, 0⟩,
                      ⟨(some (15)), .mov (.t 1), none, 0⟩,
                      ⟨(some (16)), .bin .eql (.t 14) (.t 15), none, 0⟩])
                    (.cond (.t 16)
                      (.seq
                        (.region false [
                          ⟨(some (4)), .mov (.b true), none, 0⟩])
                        (.ret))
                      (.skip))))
                (.region false [
                  ⟨(some (10)), .mov (.t 5), none, 0⟩,
                  ⟨(some (11)), .bin .add (.t 10) (.i 1), none, 0⟩,
                  ⟨(some (5)), .mov (.t 11), none, 0⟩]))))))
      (.seq
        (.region false [
          ⟨(some (4)), .mov (.b false), none, 0⟩])
        (.ret))))⟩
theorem c56 : compF Go.Proofs.Tryz.prog 56 = some i56 := by kernel_rfl
def i117 : IFn :=
⟨27, [(2, none)],
  (.seq
    (.region false [
      ⟨(some (2)), .mov (.k (.one (.p (.str ⟨#[]⟩)))), none, 0⟩])
    (.seq
      (.seq
        (.region false [
          ⟨(some (3)), .mov (.t 0), none, 0⟩,
          ⟨(some (4)), .bin .lss (.t 3) (.i 0), none, 0⟩])
        (.cond (.t 4)
          (.seq
            (.seq
              (.region false [
                ⟨(some (5)), .mov (.t 0), none, 0⟩,
                ⟨(some (6)), .mov (.t 0), none, 0⟩,
                ⟨(some (7)), .un .neg (.t 6), none, 0⟩,
                ⟨(some (8)), .bin .eql (.t 5) (.t 7), none, 0⟩])
              (.cond (.t 8)
                (.seq
                  (.region false [
                    ⟨(some (2)), .mov (.k (.one (.p (.str ⟨#[45, 57, 50, 50, 51, 51, 55, 50, 48, 51, 54, 56, 53, 52, 55, 55, 53, 56, 48, 56]⟩)))), none, 0⟩])
                  (.ret))
                (.skip)))
            (.seq
              (.region false [
                ⟨(some (9)), .mov (.t 0), none, 0⟩,
                ⟨(some (10)), .un .neg (.t 9), none, 0⟩,
                ⟨(some (11)), .call 7488256128 (.k (.one (.p (.fn 117 [] [])))) [.t 10], none, 0⟩,
                ⟨(some (12)), .bin .add (.k (.one (.p (.str ⟨#[45]⟩)))) (.t 11), none, 0⟩,
                ⟨(some (2)), .mov (.t 12), none, 0⟩])
              (.ret)))
          (.skip)))
      (.seq
        (.seq
          (.region false [
            ⟨(some (13)), .mov (.t 0), none, 0⟩,
            ⟨(some (14)), .bin .lss (.t 13) (.i 10), none, 0⟩])
          (.cond (.t 14)
            (.seq
              (.region false [
                ⟨(some (15)), .mov (.t 0), none, 0⟩,
                ⟨(some (16)), .bin .add (.i 48) (.t 15), none, 0⟩,
                ⟨(some (17)), .conv .u8 (.t 16), none, 0⟩,
                ⟨(some (18)), .bslice 7488384192 5 1 [.t 17], none, 0⟩,
                ⟨(some (19)), .bstr (.t 18), none, 0⟩,
                ⟨(some (2)), .mov (.t 19), none, 0⟩])
              (.ret))
            (.skip)))
        (.seq
          (.region false [
            ⟨(some (20)), .mov (.t 0), none, 0⟩,
            ⟨(some (21)), .bin .quo (.t 20) (.i 10), none, 0⟩,
            ⟨(some (22)), .call 7488448128 (.k (.one (.p (.fn 117 [] [])))) [.t 21], none, 0⟩,
            ⟨(some (23)), .mov (.t 0), none, 0⟩,
            ⟨(some (24)), .bin .rem (.t 23) (.i 10), none, 0⟩,
            ⟨(some (25)), .call 7488448320 (.k (.one (.p (.fn 117 [] [])))) [.t 24], none, 0⟩,
            ⟨(some (26)), .bin .add (.t 22) (.t 25), none, 0⟩,
            ⟨(some (2)), .mov (.t 26), none, 0⟩])
          (.ret)))))⟩
theorem c117 : compF Go.Proofs.Tryz.prog 117 = some i117 := by kernel_rfl
end Go.Abs
namespace Go.Abs
set_option maxRecDepth 100000
def i16_l1 : ICode :=
(.seq (.seq (.region false [
                      ⟨(some (17)), .mov (.t 6), none, 0⟩,
                      ⟨(some (18)), .bin .leq (.t 17) (.i 10), none, 0⟩]) (.cond (.t 18) (.skip) (.exit 0))) (.seq (.block 1 (.seq (.region true [
                          ⟨(some (21)), .mov (.t 4), none, 0⟩,
                          ⟨(some (22)), .iaddr 1 (.t 21) (.i 0), none, 1⟩,
                          ⟨(some (23)), .load none (.t 22), none, 3⟩,
                          ⟨(some (24)), .call 1024384192 (.k (.one (.p (.fn 45 [] [])))) [], none, 0⟩,
                          ⟨(some (25)), .mov (.t 6), none, 0⟩,
                          ⟨(some (26)), .aidx 11 1 none (.t 24) (.t 25), none, 24⟩,
                          ⟨(some (27)), .bin .eql (.t 23) (.t 26), none, 63⟩]) (.cond (.t 27) (.region false [
                            ⟨(some (28)), .mov (.t 6), none, 0⟩,
                            ⟨(some (29)), .faddr 0 (.t 5), none, 0⟩,
                            ⟨none, .store 1 (.t 29) (.t 28), none, 0⟩]) (.skip)))) (.region false [
                      ⟨(some (19)), .mov (.t 6), none, 0⟩,
                      ⟨(some (20)), .bin .add (.t 19) (.i 1), none, 0⟩,
                      ⟨(some (6)), .mov (.t 20), none, 0⟩])))
def i16_l2 : ICode :=
(.seq (.region false [
                            ⟨(some (51)), .bin .lss (.t 50) (.t 49), none, 0⟩]) (.seq (.cond (.t 51) (.skip) (.exit 2)) (.seq (.block 3 (.seq (.region false [
                                    ⟨(some (52)), .mov (.t 50), none, 0⟩,
                                    ⟨(some (53)), .iaddr 1 (.t 48) (.t 50), none, 0⟩,
                                    ⟨(some (54)), .load none (.t 53), none, 0⟩,
                                    ⟨(some (8)), .mov (.t 52), none, 0⟩,
                                    ⟨(some (9)), .mov (.t 54), none, 0⟩]) (.seq (.region false [
                                      ⟨(some (56)), .mov (.t 4), none, 0⟩,
                                      ⟨(some (57)), .mov (.t 8), none, 0⟩,
                                      ⟨(some (58)), .bin .add (.t 57) (.i 1), none, 0⟩,
                                      ⟨(some (59)), .iaddr 1 (.t 56) (.t 58), none, 0⟩,
                                      ⟨(some (60)), .load none (.t 59), none, 0⟩,
                                      ⟨(some (61)), .call 1025024320 (.k (.one (.p (.fn 55 [] [])))) [.t 60], none, 0⟩,
                                      ⟨(some (55)), .mov (.t 61), none, 0⟩,
                                      ⟨(some (62)), .extract (.t 55) 0, none, 0⟩,
                                      ⟨(some (63)), .extract (.t 55) 1, none, 0⟩,
                                      ⟨(some (10)), .mov (.t 62), none, 0⟩,
                                      ⟨(some (11)), .mov (.t 63), none, 0⟩]) (.seq (.seq (.region false [
                                          ⟨(some (64)), .mov (.t 11), none, 0⟩,
                                          ⟨(some (65)), .eqc .ifc true (.t 64) (.k (.one (.p (.nili)))), none, 0⟩,
                                          ⟨(some (66)), .mov (.t 65), none, 0⟩,
                                          ⟨(some (67)), .mov (.t 10), (some (66, false)), 0⟩,
                                          ⟨(some (68)), .bin .lss (.t 67) (.i 0), (some (66, false)), 0⟩,
                                          ⟨(some (69)), .pick (.t 66) (.b true) (.t 68), none, 0⟩]) (.cond (.t 69) (.seq (.region false [
                                              ⟨(some (70)), .build [.int .i64 0, .int .i64 0, .int .i64 0, .int .i64 0, .bool false, .bool false, .int .i64 0] [], none, 0⟩,
                                              ⟨none, .store 7 (.t 2) (.t 70), none, 0⟩,
                                              ⟨(some (3)), .mov (.i 6), none, 0⟩]) (.ret)) (.skip))) (.region false [
                                        ⟨(some (71)), .mov (.t 9), none, 0⟩,
                                        ⟨(some (72)), .mov (.t 10), none, 0⟩,
                                        ⟨(some (73)), .nilchk (.t 71), none, 0⟩,
                                        ⟨none, .store 1 (.t 73) (.t 72), none, 0⟩]))))) (.region false [
                                ⟨(some (74)), .bin .add (.t 50) (.i 1), none, 0⟩,
                                ⟨(some (50)), .mov (.t 74), none, 0⟩]))))
def i16_l3 : ICode :=
(.seq (.region false [
                              ⟨(some (81)), .bin .lss (.t 80) (.t 79), none, 0⟩]) (.seq (.cond (.t 81) (.skip) (.exit 4)) (.seq (.block 5 (.seq (.region false [
                                      ⟨(some (82)), .iaddr 1 (.t 78) (.t 80), none, 0⟩,
                                      ⟨(some (83)), .load none (.t 82), none, 0⟩,
                                      ⟨(some (13)), .mov (.t 83), none, 0⟩]) (.seq (.region false [
                                        ⟨(some (84)), .mov (.t 13), none, 0⟩]) (.block 6 (.seq (.region false [
                                            ⟨(some (86)), .bin .eql (.t 84) (.k (.one (.p (.str ⟨#[108, 101, 102, 116]⟩)))), none, 0⟩,
                                            ⟨(some (85)), .mov (.t 86), none, 0⟩]) (.cond (.t 85) (.region false [
                                              ⟨(some (87)), .faddr 4 (.t 5), none, 0⟩,
                                              ⟨none, .store 1 (.t 87) (.b true), none, 0⟩]) (.seq (.region false [
                                                ⟨(some (89)), .bin .eql (.t 84) (.k (.one (.p (.str ⟨#[111, 118, 101, 114]⟩)))), none, 0⟩,
                                                ⟨(some (88)), .mov (.t 89), none, 0⟩]) (.cond (.t 88) (.region false [
                                                  ⟨(some (90)), .faddr 5 (.t 5), none, 0⟩,
                                                  ⟨none, .store 1 (.t 90) (.b true), none, 0⟩]) (.seq (.region false [
                                                    ⟨(some (92)), .bin .eql (.t 84) (.k (.one (.p (.str ⟨#[43]⟩)))), none, 0⟩,
                                                    ⟨(some (91)), .mov (.t 92), none, 0⟩]) (.cond (.t 91) (.region false [
                                                      ⟨(some (93)), .faddr 6 (.t 5), none, 0⟩,
                                                      ⟨none, .store 1 (.t 93) (.i 1), none, 0⟩]) (.seq (.region false [
                                                        ⟨(some (95)), .bin .eql (.t 84) (.k (.one (.p (.str ⟨#[45]⟩)))), none, 0⟩,
                                                        ⟨(some (94)), .mov (.t 95), none, 0⟩]) (.cond (.t 94) (.region false [
                                                          ⟨(some (96)), .faddr 6 (.t 5), none, 0⟩,
                                                          ⟨none, .store 1 (.t 96) (.i (-1)), none, 0⟩]) (.skip))))))))))))) (.region false [
                                  ⟨(some (97)), .bin .add (.t 80) (.i 1), none, 0⟩,
                                  ⟨(some (80)), .mov (.t 97), none, 0⟩]))))
def i16_r4 : ICode :=
(.seq (.seq (.region false [
                          ⟨(some (98)), .load (some (7)) (.t 5), none, 0⟩,
                          ⟨(some (99)), .call 1026176064 (.k (.one (.p (.fn 14 [] [])))) [.t 98], none, 0⟩,
                          ⟨(some (100)), .mov (.t 0), none, 0⟩,
                          ⟨(some (101)), .bin .neq (.t 99) (.t 100), none, 0⟩,
                          ⟨(some (102)), .mov (.t 101), none, 0⟩,
                          ⟨(some (103)), .faddr 0 (.t 5), (some (102, false)), 0⟩,
                          ⟨(some (104)), .load none (.t 103), (some (102, false)), 0⟩,
                          ⟨(some (105)), .bin .eql (.t 104) (.i 5), (some (102, false)), 0⟩,
                          ⟨(some (106)), .mov (.t 105), (some (102, false)), 0⟩,
                          ⟨(some (107)), .faddr 6 (.t 5), (some (106, true)), 0⟩,
                          ⟨(some (108)), .load none (.t 107), (some (106, true)), 0⟩,
                          ⟨(some (109)), .bin .eql (.t 108) (.i 0), (some (106, true)), 0⟩,
                          ⟨(some (110)), .pick (.t 106) (.t 109) (.b false), (some (102, false)), 0⟩,
                          ⟨(some (111)), .pick (.t 102) (.b true) (.t 110), none, 0⟩]) (.cond (.t 111) (.seq (.region false [
                              ⟨(some (112)), .build [.int .i64 0, .int .i64 0, .int .i64 0, .int .i64 0, .bool false, .bool false, .int .i64 0] [], none, 0⟩,
                              ⟨none, .store 7 (.t 2) (.t 112), none, 0⟩,
                              ⟨(some (3)), .mov (.i 6), none, 0⟩]) (.ret)) (.skip))) (.seq (.region false [
                          ⟨(some (113)), .load (some (7)) (.t 5), none, 0⟩,
                          ⟨none, .store 7 (.t 2) (.t 113), none, 0⟩,
                          ⟨(some (3)), .mov (.i 0), none, 0⟩]) (.ret)))
def i16_r5 : ICode :=
(.seq (.seq (.region false [
                        ⟨(some (75)), .mov (.t 4), none, 0⟩,
                        ⟨(some (76)), .mov (.t 7), none, 0⟩,
                        ⟨(some (77)), .bin .add (.t 76) (.i 1), none, 0⟩,
                        ⟨(some (78)), .slice 1 (.t 75) (some (.t 77)) none, none, 0⟩,
                        ⟨(some (79)), .llen (.t 78), none, 0⟩,
                        ⟨(some (80)), .mov (.i 0), none, 0⟩]) (.block 4 (.loop i16_l3))) i16_r4)
def i16_r6 : ICode :=
(.seq (.seq (.region false [
                ⟨(some (30)), .faddr 0 (.t 5), none, 0⟩,
                ⟨(some (31)), .load none (.t 30), none, 0⟩,
                ⟨(some (32)), .bin .eql (.t 31) (.i 0), none, 0⟩]) (.cond (.t 32) (.seq (.region false [
                    ⟨(some (33)), .build [.int .i64 0, .int .i64 0, .int .i64 0, .int .i64 0, .bool false, .bool false, .int .i64 0] [], none, 0⟩,
                    ⟨none, .store 7 (.t 2) (.t 33), none, 0⟩,
                    ⟨(some (3)), .mov (.i 6), none, 0⟩]) (.ret)) (.skip))) (.seq (.region false [
                ⟨(some (34)), .faddr 0 (.t 5), none, 0⟩,
                ⟨(some (35)), .load none (.t 34), none, 0⟩,
                ⟨(some (36)), .call 1024640128 (.k (.one (.p (.fn 46 [] [])))) [.t 35], none, 0⟩,
                ⟨(some (7)), .mov (.t 36), none, 0⟩]) (.seq (.seq (.region false [
                    ⟨(some (37)), .mov (.t 4), none, 0⟩,
                    ⟨(some (38)), .llen (.t 37), none, 0⟩,
                    ⟨(some (39)), .mov (.t 7), none, 0⟩,
                    ⟨(some (40)), .bin .add (.t 39) (.i 1), none, 0⟩,
                    ⟨(some (41)), .bin .lss (.t 38) (.t 40), none, 0⟩]) (.cond (.t 41) (.seq (.region false [
                        ⟨(some (42)), .build [.int .i64 0, .int .i64 0, .int .i64 0, .int .i64 0, .bool false, .bool false, .int .i64 0] [], none, 0⟩,
                        ⟨none, .store 7 (.t 2) (.t 42), none, 0⟩,
                        ⟨(some (3)), .mov (.i 6), none, 0⟩]) (.ret)) (.skip))) (.seq (.seq (.region false [
                      ⟨(some (43)), .faddr 1 (.t 5), none, 0⟩,
                      ⟨(some (44)), .faddr 2 (.t 5), none, 0⟩,
                      ⟨(some (45)), .faddr 3 (.t 5), none, 0⟩,
                      ⟨(some (46)), .bslice 1024832192 75 1 [.t 43, .t 44, .t 45], none, 0⟩,
                      ⟨(some (47)), .mov (.t 7), none, 0⟩,
                      ⟨(some (48)), .slice 1 (.t 46) none (some (.t 47)), none, 0⟩,
                      ⟨(some (49)), .llen (.t 48), none, 0⟩,
                      ⟨(some (50)), .mov (.i 0), none, 0⟩]) (.block 2 (.loop i16_l2))) i16_r5))))
def i16 : IFn :=
⟨114, [(2, some (some (7))), (3, none)],
  (.seq (.region false [
      ⟨(some (2)), .alloc 1024000000 [.int .i64 0, .int .i64 0, .int .i64 0, .int .i64 0, .bool false, .bool false, .int .i64 0], none, 0⟩,
      ⟨(some (3)), .mov (.i 0), none, 0⟩]) (.seq (.region false [
        ⟨(some (14)), .mov (.t 0), none, 0⟩,
        ⟨(some (15)), .call 1024064064 (.k (.one (.p (.fn 54 [] [])))) [.t 14, .k (.one (.p (.str ⟨#[32]⟩)))], none, 0⟩,
        ⟨(some (4)), .mov (.t 15), none, 0⟩]) (.seq (.region false [
          ⟨(some (16)), .build [.int .i64 0, .int .i64 0, .int .i64 0, .int .i64 0, .bool false, .bool false, .int .i64 0] [], none, 0⟩,
          ⟨(some (5)), .alloc 1024128064 [.int .i64 0, .int .i64 0, .int .i64 0, .int .i64 0, .bool false, .bool false, .int .i64 0], none, 0⟩,
          ⟨none, .store 7 (.t 5) (.t 16), none, 0⟩]) (.seq (.seq (.region false [
              ⟨(some (6)), .mov (.i 1), none, 0⟩]) (.block 0 (.loop i16_l1))) i16_r6))))⟩
theorem c16 : compF Go.Proofs.Tryz.prog 16 = some i16 := by kernel_rfl
end Go.Abs
namespace Go.Abs
set_option maxRecDepth 100000
theorem S_fns {f : Nat} {fn : IFn} (h : compF Go.Proofs.Tryz.prog f = some fn) : S.fns f = some fn := h
abbrev vi (k : Int) : V := .one (.p (.int .i64 k))
abbrev ri (k : Int) : RV := .one (.p (.int .i64 k))
abbrev rb (k : Bool) : RV := .one (.p (.bool k))

theorem known40 (k : Int) : PEv S 40 [vi k] (rb (decide (1 ≤ k) && decide (k ≤ 10))) := by
  refine PEv_fn rfl (S_fns c40) (Nat.le_of_ble_eq_true rfl) ?_
  by_cases h1 : 1 ≤ k <;> by_cases h2 : k ≤ 10 <;>
  simp only [W_seq_iff, W_seq_text, WN_cons_iff, WN_nil_iff, W_ret_iff, W_skip_iff, W_cond_iff, W_block_iff, W_exit_iff, thenQ_normal, thenQ_ret, thenQ_exit, blockQ_normal, blockQ_ret, blockQ_exit, condW_bool, goWN_true, goWN_false, goPN_done, wanted_none, wanted_some, wantV_bool, wantV_undef, plan, ev_t, ev_i, ev_b, ev_k, put_some, put_none, upd_apply, ienv_zero, ienv_succ, binV, binInt, eqV, app, List.map_nil, List.append_nil, List.map_cons, Al.all_oks, true_and, and_true, true_or, if_true, if_false, Option.map_some, reduceIte, Nat.reduceEqDiff, decide_true, decide_false, beq_self_eq_true, reduceCtorEq, ge_iff_le, Bool.false_eq_true, Bool.not_true, Bool.not_false, endQ_ret1, endQ_normal1, ret1_one, ret1_agg, outV_p, norm_int, norm_bool, norm_str, norm_nils, norm_sl, norm_box, norm_fn, norm_nilp, norm_nilf, norm_nilm, norm_mp, snapVs_nil, snapVs_cons, snapCons_some, snapV_p, fnOf, bft, btf, bff, btt, Nat.reduceAdd, List.cons_append, List.nil_append, Bool.and_true, Bool.and_false, Bool.true_and, Bool.false_and, i40, h1, h2]

theorem slack_out (k : Int) (h : k < 1 ∨ 10 < k) : PEv S 12 [vi k] (rb false) := by
  have hk : PEv S 40 [vi k] (rb false) := by
    have := known40 k
    have e : (decide (1 ≤ k) && decide (k ≤ 10)) = false := by simp; omega
    rw [e] at this
    exact this
  refine PEv_fn rfl (S_fns c12) (Nat.le_of_ble_eq_true rfl) ?_
  have s40 : S.shared 40 = false := by kernel_rfl
  simp only [W_seq_iff, W_seq_text, WN_cons_iff, WN_nil_iff, W_ret_iff, W_skip_iff, W_cond_iff, W_block_iff, W_exit_iff, thenQ_normal, thenQ_ret, thenQ_exit, blockQ_normal, blockQ_ret, blockQ_exit, condW_bool, goWN_true, goWN_false, goPN_done, wanted_none, wanted_some, wantV_bool, wantV_undef, plan, ev_t, ev_i, ev_b, ev_k, put_some, put_none, upd_apply, ienv_zero, ienv_succ, binV, binInt, eqV, app, List.map_nil, List.append_nil, List.map_cons, Al.all_oks, true_and, and_true, true_or, if_true, if_false, Option.map_some, reduceIte, Nat.reduceEqDiff, decide_true, decide_false, beq_self_eq_true, reduceCtorEq, ge_iff_le, Bool.false_eq_true, Bool.not_true, Bool.not_false, endQ_ret1, endQ_normal1, ret1_one, ret1_agg, outV_p, norm_int, norm_bool, norm_str, norm_nils, norm_sl, norm_box, norm_fn, norm_nilp, norm_nilf, norm_nilm, norm_mp, snapVs_nil, snapVs_cons, snapCons_some, snapV_p, fnOf, bft, btf, bff, btt, Nat.reduceAdd, List.cons_append, List.nil_append, Bool.and_true, Bool.and_false, Bool.true_and, Bool.false_and, i12, s40]
  rw [goPN_pc_iff hk]
  simp only [W_seq_iff, W_seq_text, WN_cons_iff, WN_nil_iff, W_ret_iff, W_skip_iff, W_cond_iff, W_block_iff, W_exit_iff, thenQ_normal, thenQ_ret, thenQ_exit, blockQ_normal, blockQ_ret, blockQ_exit, condW_bool, goWN_true, goWN_false, goPN_done, wanted_none, wanted_some, wantV_bool, wantV_undef, plan, ev_t, ev_i, ev_b, ev_k, put_some, put_none, upd_apply, ienv_zero, ienv_succ, binV, binInt, eqV, app, List.map_nil, List.append_nil, List.map_cons, Al.all_oks, true_and, and_true, true_or, if_true, if_false, Option.map_some, reduceIte, Nat.reduceEqDiff, decide_true, decide_false, beq_self_eq_true, reduceCtorEq, ge_iff_le, Bool.false_eq_true, Bool.not_true, Bool.not_false, endQ_ret1, endQ_normal1, ret1_one, ret1_agg, outV_p, norm_int, norm_bool, norm_str, norm_nils, norm_sl, norm_box, norm_fn, norm_nilp, norm_nilf, norm_nilm, norm_mp, snapVs_nil, snapVs_cons, snapCons_some, snapV_p, fnOf, bft, btf, bff, btt, Nat.reduceAdd, List.cons_append, List.nil_append, Bool.and_true, Bool.and_false, Bool.true_and, Bool.false_and]

theorem opp_out (k : Int) (h : k < 1 ∨ 10 < k) : PEv S 10 [vi k] (ri 0) := by
  have ne : ∀ n : Int, 1 ≤ n → n ≤ 10 → (k == n) = false := fun n h1 h2 => by simp; omega
  refine PEv_fn rfl (S_fns c10) (Nat.le_of_ble_eq_true rfl) ?_
  simp only [W_seq_iff, W_seq_text, WN_cons_iff, WN_nil_iff, W_ret_iff, W_skip_iff, W_cond_iff, W_block_iff, W_exit_iff, thenQ_normal, thenQ_ret, thenQ_exit, blockQ_normal, blockQ_ret, blockQ_exit, condW_bool, goWN_true, goWN_false, goPN_done, wanted_none, wanted_some, wantV_bool, wantV_undef, plan, ev_t, ev_i, ev_b, ev_k, put_some, put_none, upd_apply, ienv_zero, ienv_succ, binV, binInt, eqV, app, List.map_nil, List.append_nil, List.map_cons, Al.all_oks, true_and, and_true, true_or, if_true, if_false, Option.map_some, reduceIte, Nat.reduceEqDiff, decide_true, decide_false, beq_self_eq_true, reduceCtorEq, ge_iff_le, Bool.false_eq_true, Bool.not_true, Bool.not_false, endQ_ret1, endQ_normal1, ret1_one, ret1_agg, outV_p, norm_int, norm_bool, norm_str, norm_nils, norm_sl, norm_box, norm_fn, norm_nilp, norm_nilf, norm_nilm, norm_mp, snapVs_nil, snapVs_cons, snapCons_some, snapV_p, fnOf, bft, btf, bff, btt, Nat.reduceAdd, List.cons_append, List.nil_append, Bool.and_true, Bool.and_false, Bool.true_and, Bool.false_and, i10, ne 1 (by decide) (by decide), ne 2 (by decide) (by decide), ne 3 (by decide) (by decide), ne 4 (by decide) (by decide), ne 5 (by decide) (by decide), ne 6 (by decide) (by decide), ne 7 (by decide) (by decide), ne 8 (by decide) (by decide), ne 9 (by decide) (by decide), ne 10 (by decide) (by decide)]

theorem opp2_out (k : Int) (h : k < 1 ∨ 10 < k) : PEv S 11 [vi k] (ri 0) := by
  have ne : ∀ n : Int, 1 ≤ n → n ≤ 10 → (k == n) = false := fun n h1 h2 => by simp; omega
  refine PEv_fn rfl (S_fns c11) (Nat.le_of_ble_eq_true rfl) ?_
  simp only [W_seq_iff, W_seq_text, WN_cons_iff, WN_nil_iff, W_ret_iff, W_skip_iff, W_cond_iff, W_block_iff, W_exit_iff, thenQ_normal, thenQ_ret, thenQ_exit, blockQ_normal, blockQ_ret, blockQ_exit, condW_bool, goWN_true, goWN_false, goPN_done, wanted_none, wanted_some, wantV_bool, wantV_undef, plan, ev_t, ev_i, ev_b, ev_k, put_some, put_none, upd_apply, ienv_zero, ienv_succ, binV, binInt, eqV, app, List.map_nil, List.append_nil, List.map_cons, Al.all_oks, true_and, and_true, true_or, if_true, if_false, Option.map_some, reduceIte, Nat.reduceEqDiff, decide_true, decide_false, beq_self_eq_true, reduceCtorEq, ge_iff_le, Bool.false_eq_true, Bool.not_true, Bool.not_false, endQ_ret1, endQ_normal1, ret1_one, ret1_agg, outV_p, norm_int, norm_bool, norm_str, norm_nils, norm_sl, norm_box, norm_fn, norm_nilp, norm_nilf, norm_nilm, norm_mp, snapVs_nil, snapVs_cons, snapCons_some, snapV_p, fnOf, bft, btf, bff, btt, Nat.reduceAdd, List.cons_append, List.nil_append, Bool.and_true, Bool.and_false, Bool.true_and, Bool.false_and, i11, ne 1 (by decide) (by decide), ne 2 (by decide) (by decide), ne 3 (by decide) (by decide), ne 4 (by decide) (by decide), ne 5 (by decide) (by decide), ne 6 (by decide) (by decide), ne 7 (by decide) (by decide), ne 8 (by decide) (by decide), ne 9 (by decide) (by decide), ne 10 (by decide) (by decide)]

def oppN (k : Nat) : Int := match k with
  | 1 => 2 | 2 => 1 | 4 => 5 | 5 => 4 | 6 => 7 | 7 => 6 | 9 => 10 | 10 => 9 | 3 => 3 | 8 => 8 | _ => 0
theorem opp_in (k : Int) (h : 1 ≤ k ∧ k ≤ 10) : ∃ m, PEv S 10 [vi k] (ri m) ∧ PEv S 11 [vi k] (ri m) ∧ PEv S 12 [vi k] (rb (decide (k < 9))) := by
  have : k = 1 ∨ k = 2 ∨ k = 3 ∨ k = 4 ∨ k = 5 ∨ k = 6 ∨ k = 7 ∨ k = 8 ∨ k = 9 ∨ k = 10 := by omega
  rcases this with rfl | rfl | rfl | rfl | rfl | rfl | rfl | rfl | rfl | rfl
  · exact ⟨2, PEv_eval S 9 (by kernel_rfl), PEv_eval S 9 (by kernel_rfl), PEv_eval S 9 (by kernel_rfl)⟩
  · exact ⟨1, PEv_eval S 9 (by kernel_rfl), PEv_eval S 9 (by kernel_rfl), PEv_eval S 9 (by kernel_rfl)⟩
  · exact ⟨3, PEv_eval S 9 (by kernel_rfl), PEv_eval S 9 (by kernel_rfl), PEv_eval S 9 (by kernel_rfl)⟩
  · exact ⟨5, PEv_eval S 9 (by kernel_rfl), PEv_eval S 9 (by kernel_rfl), PEv_eval S 9 (by kernel_rfl)⟩
  · exact ⟨4, PEv_eval S 9 (by kernel_rfl), PEv_eval S 9 (by kernel_rfl), PEv_eval S 9 (by kernel_rfl)⟩
  · exact ⟨7, PEv_eval S 9 (by kernel_rfl), PEv_eval S 9 (by kernel_rfl), PEv_eval S 9 (by kernel_rfl)⟩
  · exact ⟨6, PEv_eval S 9 (by kernel_rfl), PEv_eval S 9 (by kernel_rfl), PEv_eval S 9 (by kernel_rfl)⟩
  · exact ⟨8, PEv_eval S 9 (by kernel_rfl), PEv_eval S 9 (by kernel_rfl), PEv_eval S 9 (by kernel_rfl)⟩
  · exact ⟨10, PEv_eval S 9 (by kernel_rfl), PEv_eval S 9 (by kernel_rfl), PEv_eval S 9 (by kernel_rfl)⟩
  · exact ⟨9, PEv_eval S 9 (by kernel_rfl), PEv_eval S 9 (by kernel_rfl), PEv_eval S 9 (by kernel_rfl)⟩

theorem law (hk : PEv S 13 [] (rb true)) (k : Int) : PEv S 3 [vi k] (rb true) := by
  have s10 : S.shared 10 = false := by kernel_rfl
  have s11 : S.shared 11 = false := by kernel_rfl
  have s12 : S.shared 12 = false := by kernel_rfl
  have s13 : S.shared 13 = false := by kernel_rfl
  have core : ∀ (m : Int) (b : Bool), PEv S 10 [vi k] (ri m) → PEv S 11 [vi k] (ri m) → PEv S 12 [vi k] (rb b) → b = ((decide (1 ≤ k) && decide (k ≤ 10)) && decide (k < 9)) → PEv S 3 [vi k] (rb true) := by
    intro m b p10 p11 p12 hb
    refine PEv_fn rfl (S_fns c3) (Nat.le_of_ble_eq_true rfl) ?_
    by_cases h1 : 1 ≤ k <;> by_cases h2 : k ≤ 10 <;> by_cases h3 : k < 9 <;> simp only [h1, h2, h3, decide_true, decide_false, Bool.and_true, Bool.and_false, Bool.true_and, Bool.false_and] at hb <;> subst hb <;>
    simp only [W_seq_iff, W_seq_text, WN_cons_iff, WN_nil_iff, W_ret_iff, W_skip_iff, W_cond_iff, W_block_iff, W_exit_iff, thenQ_normal, thenQ_ret, thenQ_exit, blockQ_normal, blockQ_ret, blockQ_exit, condW_bool, goWN_true, goWN_false, goPN_done, wanted_none, wanted_some, wantV_bool, wantV_undef, plan, ev_t, ev_i, ev_b, ev_k, put_some, put_none, upd_apply, ienv_zero, ienv_succ, binV, binInt, eqV, app, List.map_nil, List.append_nil, List.map_cons, Al.all_oks, true_and, and_true, true_or, if_true, if_false, Option.map_some, reduceIte, Nat.reduceEqDiff, decide_true, decide_false, beq_self_eq_true, reduceCtorEq, ge_iff_le, Bool.false_eq_true, Bool.not_true, Bool.not_false, endQ_ret1, endQ_normal1, ret1_one, ret1_agg, outV_p, norm_int, norm_bool, norm_str, norm_nils, norm_sl, norm_box, norm_fn, norm_nilp, norm_nilf, norm_nilm, norm_mp, snapVs_nil, snapVs_cons, snapCons_some, snapV_p, fnOf, bft, btf, bff, btt, Nat.reduceAdd, List.cons_append, List.nil_append, Bool.and_true, Bool.and_false, Bool.true_and, Bool.false_and, i3, s10, s11, s12, s13, h1, h2, h3, goPN_pc_iff p10, goPN_pc_iff p11, goPN_pc_iff p12, goPN_pc_iff hk]
  by_cases h : 1 ≤ k ∧ k ≤ 10
  · obtain ⟨m, p1, p2, p3⟩ := opp_in k h
    refine core m _ p1 p2 p3 ?_
    simp [h.1, h.2]
  · refine core 0 false (opp_out k (by omega)) (opp2_out k (by omega)) (slack_out k (by omega)) ?_
    symm; simp; omega
end Go.Abs
namespace Go.Abs
set_option maxRecDepth 100000
abbrev rs (s : ByteArray) : RV := .one (.p (.str s))
abbrev vs_ (s : ByteArray) : V := .one (.p (.str s))
abbrev vb_ (b : Bool) : V := .one (.p (.bool b))
section
variable {S : Sys} {d : Option Nat} {env : Env} {blk : Blk}
theorem goP_str {f : Nat} {vs : List V} {rd : List Nat} {s : Nat} {n : ByteArray} {tr : List Eff} {K : Env → Blk → List Eff → Prop} (h : PEv S f vs (.one (.p (.str n)))) : goP S .all (.pc f vs rd s) d env blk tr K ↔ K (put env d (.one (.p (.str n)))) blk (tr ++ [⟨rd, [], []⟩]) := goP_pcs h rfl
theorem goPN_str {f : Nat} {vs : List V} {rd : List Nat} {s : Nat} {n : ByteArray} {K : Env → Blk → Prop} (h : PEv S f vs (.one (.p (.str n)))) : goPN S .all (.pc f vs rd s) d env blk K ↔ K (put env d (.one (.p (.str n)))) blk := goPN_pcs h rfl
end
theorem binStr_add {a b : ByteArray} (h : a.size + b.size ≤ 9223372036854775807) : binStr .add a b = some (.str (a ++ b)) := by simp [binStr, h]

theorem chosen48 (b : Bool) (x y : ByteArray) : PEv S 48 [vb_ b, vs_ x, vs_ y] (rs (if b then x else y)) := by
  refine PEv_fn rfl (S_fns c48) (Nat.le_of_ble_eq_true rfl) ?_
  cases b <;> simp only [W_seq_iff, W_seq_text, WN_cons_iff, WN_nil_iff, W_ret_iff, W_skip_iff, W_cond_iff, W_block_iff, W_exit_iff, thenQ_normal, thenQ_ret, thenQ_exit, blockQ_normal, blockQ_ret, blockQ_exit, condW_bool, goWN_true, goWN_false, goPN_done, wanted_none, wanted_some, wantV_bool, wantV_undef, plan, ev_t, ev_i, ev_b, ev_k, put_some, put_none, upd_apply, ienv_zero, ienv_succ, binV, binInt, eqV, app, List.map_nil, List.append_nil, List.map_cons, Al.all_oks, true_and, and_true, true_or, if_true, if_false, Option.map_some, reduceIte, Nat.reduceEqDiff, decide_true, decide_false, beq_self_eq_true, reduceCtorEq, ge_iff_le, Bool.false_eq_true, Bool.not_true, Bool.not_false, endQ_ret1, endQ_normal1, ret1_one, ret1_agg, outV_p, norm_int, norm_bool, norm_str, norm_nils, norm_sl, norm_box, norm_fn, norm_nilp, norm_nilf, norm_nilm, norm_mp, snapVs_nil, snapVs_cons, snapCons_some, snapV_p, fnOf, bft, btf, bff, btt, Nat.reduceAdd, List.cons_append, List.nil_append, Bool.and_true, Bool.and_false, Bool.true_and, Bool.false_and, asN_nat, rdAt, takeV, wrAt, splice, cellsV, lenL, List.drop_zero, List.take_zero, List.length_cons, List.length_nil, List.take_succ_cons, Nat.le_refl, ne_eq, not_true_eq_false, and_self, List.drop_nil, Nat.zero_add, Nat.reduceLeDiff, List.drop_succ_cons, not_false_eq_true, List.length_map, snap_p, consR_some, collect_nil, collect_cons, snapV_agg, W_draw, WO_cons_iff, WO_nil_iff, goW_true, goW_false, goP_done, partsV, elemsV, toPss, toPs, toP, fill, List.take_nil, asN_lit, Nat.reduceMul, Nat.reduceLT, Nat.mul_one, Nat.zero_mul, snapV_one, snap_hsl, snapHsl, snap_href, snapHref, snap_ps, i48]

theorem choice53 (b : Bool) (x y : ByteArray) : PEv S 53 [vb_ b, vs_ x, vs_ y] (rs (if b then x else y)) := by
  refine PEv_fn rfl (S_fns c53) (Nat.le_of_ble_eq_true rfl) ?_
  cases b <;> simp only [W_seq_iff, W_seq_text, WN_cons_iff, WN_nil_iff, W_ret_iff, W_skip_iff, W_cond_iff, W_block_iff, W_exit_iff, thenQ_normal, thenQ_ret, thenQ_exit, blockQ_normal, blockQ_ret, blockQ_exit, condW_bool, goWN_true, goWN_false, goPN_done, wanted_none, wanted_some, wantV_bool, wantV_undef, plan, ev_t, ev_i, ev_b, ev_k, put_some, put_none, upd_apply, ienv_zero, ienv_succ, binV, binInt, eqV, app, List.map_nil, List.append_nil, List.map_cons, Al.all_oks, true_and, and_true, true_or, if_true, if_false, Option.map_some, reduceIte, Nat.reduceEqDiff, decide_true, decide_false, beq_self_eq_true, reduceCtorEq, ge_iff_le, Bool.false_eq_true, Bool.not_true, Bool.not_false, endQ_ret1, endQ_normal1, ret1_one, ret1_agg, outV_p, norm_int, norm_bool, norm_str, norm_nils, norm_sl, norm_box, norm_fn, norm_nilp, norm_nilf, norm_nilm, norm_mp, snapVs_nil, snapVs_cons, snapCons_some, snapV_p, fnOf, bft, btf, bff, btt, Nat.reduceAdd, List.cons_append, List.nil_append, Bool.and_true, Bool.and_false, Bool.true_and, Bool.false_and, asN_nat, rdAt, takeV, wrAt, splice, cellsV, lenL, List.drop_zero, List.take_zero, List.length_cons, List.length_nil, List.take_succ_cons, Nat.le_refl, ne_eq, not_true_eq_false, and_self, List.drop_nil, Nat.zero_add, Nat.reduceLeDiff, List.drop_succ_cons, not_false_eq_true, List.length_map, snap_p, consR_some, collect_nil, collect_cons, snapV_agg, W_draw, WO_cons_iff, WO_nil_iff, goW_true, goW_false, goP_done, partsV, elemsV, toPss, toPs, toP, fill, List.take_nil, asN_lit, Nat.reduceMul, Nat.reduceLT, Nat.mul_one, Nat.zero_mul, snapV_one, snap_hsl, snapHsl, snap_href, snapHref, snap_ps, i53]

theorem word50_out (k : Int) (h : k < 1 ∨ 10 < k) : PEv S 50 [vi k] (rs ⟨#[63]⟩) := by
  refine PEv_fn rfl (S_fns c50) (Nat.le_of_ble_eq_true rfl) ?_
  by_cases h1 : k < 1
  · simp only [W_seq_iff, W_seq_text, WN_cons_iff, WN_nil_iff, W_ret_iff, W_skip_iff, W_cond_iff, W_block_iff, W_exit_iff, thenQ_normal, thenQ_ret, thenQ_exit, blockQ_normal, blockQ_ret, blockQ_exit, condW_bool, goWN_true, goWN_false, goPN_done, wanted_none, wanted_some, wantV_bool, wantV_undef, plan, ev_t, ev_i, ev_b, ev_k, put_some, put_none, upd_apply, ienv_zero, ienv_succ, binV, binInt, eqV, app, List.map_nil, List.append_nil, List.map_cons, Al.all_oks, true_and, and_true, true_or, if_true, if_false, Option.map_some, reduceIte, Nat.reduceEqDiff, decide_true, decide_false, beq_self_eq_true, reduceCtorEq, ge_iff_le, Bool.false_eq_true, Bool.not_true, Bool.not_false, endQ_ret1, endQ_normal1, ret1_one, ret1_agg, outV_p, norm_int, norm_bool, norm_str, norm_nils, norm_sl, norm_box, norm_fn, norm_nilp, norm_nilf, norm_nilm, norm_mp, snapVs_nil, snapVs_cons, snapCons_some, snapV_p, fnOf, bft, btf, bff, btt, Nat.reduceAdd, List.cons_append, List.nil_append, Bool.and_true, Bool.and_false, Bool.true_and, Bool.false_and, asN_nat, rdAt, takeV, wrAt, splice, cellsV, lenL, List.drop_zero, List.take_zero, List.length_cons, List.length_nil, List.take_succ_cons, Nat.le_refl, ne_eq, not_true_eq_false, and_self, List.drop_nil, Nat.zero_add, Nat.reduceLeDiff, List.drop_succ_cons, not_false_eq_true, List.length_map, snap_p, consR_some, collect_nil, collect_cons, snapV_agg, W_draw, WO_cons_iff, WO_nil_iff, goW_true, goW_false, goP_done, partsV, elemsV, toPss, toPs, toP, fill, List.take_nil, asN_lit, Nat.reduceMul, Nat.reduceLT, Nat.mul_one, Nat.zero_mul, snapV_one, snap_hsl, snapHsl, snap_href, snapHref, snap_ps, i50, noBlk, h1]
  · have h2 : 10 < k := by omega
    simp only [W_seq_iff, W_seq_text, WN_cons_iff, WN_nil_iff, W_ret_iff, W_skip_iff, W_cond_iff, W_block_iff, W_exit_iff, thenQ_normal, thenQ_ret, thenQ_exit, blockQ_normal, blockQ_ret, blockQ_exit, condW_bool, goWN_true, goWN_false, goPN_done, wanted_none, wanted_some, wantV_bool, wantV_undef, plan, ev_t, ev_i, ev_b, ev_k, put_some, put_none, upd_apply, ienv_zero, ienv_succ, binV, binInt, eqV, app, List.map_nil, List.append_nil, List.map_cons, Al.all_oks, true_and, and_true, true_or, if_true, if_false, Option.map_some, reduceIte, Nat.reduceEqDiff, decide_true, decide_false, beq_self_eq_true, reduceCtorEq, ge_iff_le, Bool.false_eq_true, Bool.not_true, Bool.not_false, endQ_ret1, endQ_normal1, ret1_one, ret1_agg, outV_p, norm_int, norm_bool, norm_str, norm_nils, norm_sl, norm_box, norm_fn, norm_nilp, norm_nilf, norm_nilm, norm_mp, snapVs_nil, snapVs_cons, snapCons_some, snapV_p, fnOf, bft, btf, bff, btt, Nat.reduceAdd, List.cons_append, List.nil_append, Bool.and_true, Bool.and_false, Bool.true_and, Bool.false_and, asN_nat, rdAt, takeV, wrAt, splice, cellsV, lenL, List.drop_zero, List.take_zero, List.length_cons, List.length_nil, List.take_succ_cons, Nat.le_refl, ne_eq, not_true_eq_false, and_self, List.drop_nil, Nat.zero_add, Nat.reduceLeDiff, List.drop_succ_cons, not_false_eq_true, List.length_map, snap_p, consR_some, collect_nil, collect_cons, snapV_agg, W_draw, WO_cons_iff, WO_nil_iff, goW_true, goW_false, goP_done, partsV, elemsV, toPss, toPs, toP, fill, List.take_nil, asN_lit, Nat.reduceMul, Nat.reduceLT, Nat.mul_one, Nat.zero_mul, snapV_one, snap_hsl, snapHsl, snap_href, snapHref, snap_ps, i50, noBlk, h1, h2]

theorem uses51_out (k : Int) (h : k < 1 ∨ 10 < k) : PEv S 51 [vi k] (rs ⟨#[]⟩) := by
  have ne : ∀ n : Int, 1 ≤ n → n ≤ 10 → (k == n) = false := fun n h1 h2 => by simp; omega
  refine PEv_fn rfl (S_fns c51) (Nat.le_of_ble_eq_true rfl) ?_
  simp only [W_seq_iff, W_seq_text, WN_cons_iff, WN_nil_iff, W_ret_iff, W_skip_iff, W_cond_iff, W_block_iff, W_exit_iff, thenQ_normal, thenQ_ret, thenQ_exit, blockQ_normal, blockQ_ret, blockQ_exit, condW_bool, goWN_true, goWN_false, goPN_done, wanted_none, wanted_some, wantV_bool, wantV_undef, plan, ev_t, ev_i, ev_b, ev_k, put_some, put_none, upd_apply, ienv_zero, ienv_succ, binV, binInt, eqV, app, List.map_nil, List.append_nil, List.map_cons, Al.all_oks, true_and, and_true, true_or, if_true, if_false, Option.map_some, reduceIte, Nat.reduceEqDiff, decide_true, decide_false, beq_self_eq_true, reduceCtorEq, ge_iff_le, Bool.false_eq_true, Bool.not_true, Bool.not_false, endQ_ret1, endQ_normal1, ret1_one, ret1_agg, outV_p, norm_int, norm_bool, norm_str, norm_nils, norm_sl, norm_box, norm_fn, norm_nilp, norm_nilf, norm_nilm, norm_mp, snapVs_nil, snapVs_cons, snapCons_some, snapV_p, fnOf, bft, btf, bff, btt, Nat.reduceAdd, List.cons_append, List.nil_append, Bool.and_true, Bool.and_false, Bool.true_and, Bool.false_and, asN_nat, rdAt, takeV, wrAt, splice, cellsV, lenL, List.drop_zero, List.take_zero, List.length_cons, List.length_nil, List.take_succ_cons, Nat.le_refl, ne_eq, not_true_eq_false, and_self, List.drop_nil, Nat.zero_add, Nat.reduceLeDiff, List.drop_succ_cons, not_false_eq_true, List.length_map, snap_p, consR_some, collect_nil, collect_cons, snapV_agg, W_draw, WO_cons_iff, WO_nil_iff, goW_true, goW_false, goP_done, partsV, elemsV, toPss, toPs, toP, fill, List.take_nil, asN_lit, Nat.reduceMul, Nat.reduceLT, Nat.mul_one, Nat.zero_mul, snapV_one, snap_hsl, snapHsl, snap_href, snapHref, snap_ps, i51, noBlk, ne 1 (by decide) (by decide), ne 2 (by decide) (by decide), ne 3 (by decide) (by decide), ne 4 (by decide) (by decide), ne 5 (by decide) (by decide), ne 6 (by decide) (by decide), ne 7 (by decide) (by decide), ne 8 (by decide) (by decide), ne 9 (by decide) (by decide), ne 10 (by decide) (by decide)]

theorem print14_out (k : Int) (h : k < 1 ∨ 10 < k) (r : List C) : True := trivial
end Go.Abs
namespace Go.Abs
set_option maxRecDepth 100000
def decB (u : Nat) : ByteArray := ⟨(Lib.decDigits u).toArray⟩
def numB (n : Int) : ByteArray := ⟨(Lib.itoa n).toArray⟩
theorem decD_len : ∀ u : Nat, (Lib.decDigits u).length ≤ u / 10 + 1 := by
  intro u
  induction u using Nat.strongRecOn with
  | ind u ih =>
    rw [Lib.decDigits]
    by_cases h : u < 10
    · rw [dif_pos h]; simp
    · rw [dif_neg h]
      have := ih (u / 10) (by omega)
      simp only [List.length_append, List.length_cons, List.length_nil]
      omega
theorem decB_size (u : Nat) : (decB u).size ≤ u / 10 + 1 := by
  have := decD_len u
  simpa [decB, ByteArray.size] using this
theorem wrapu8 {u : Nat} (h : u < 10) : IntKind.u8.wrap (IntKind.i64.wrap (48 + (u : Int))) = 48 + (u : Int) := by
  have : u = 0 ∨ u = 1 ∨ u = 2 ∨ u = 3 ∨ u = 4 ∨ u = 5 ∨ u = 6 ∨ u = 7 ∨ u = 8 ∨ u = 9 := by omega
  rcases this with rfl | rfl | rfl | rfl | rfl | rfl | rfl | rfl | rfl | rfl <;> decide

theorem number117n : ∀ u : Nat, u ≤ 9223372036854775807 → PEv S 117 [vi u] (rs (decB u)) := by
  have s117 : S.shared 117 = false := by kernel_rfl
  intro u
  induction u using Nat.strongRecOn with
  | ind u ih =>
    intro hu
    by_cases h : u < 10
    · have e : u = 0 ∨ u = 1 ∨ u = 2 ∨ u = 3 ∨ u = 4 ∨ u = 5 ∨ u = 6 ∨ u = 7 ∨ u = 8 ∨ u = 9 := by omega
      rcases e with rfl | rfl | rfl | rfl | rfl | rfl | rfl | rfl | rfl | rfl <;> exact PEv_eval S 9 (by kernel_rfl)
    · have p1 := ih (u / 10) (by omega) (by omega)
      have p2 := ih (u % 10) (by omega) (by omega)
      have e1 : IntKind.i64.wrap ((u : Int).tdiv 10) = ((u / 10 : Nat) : Int) := by
        have : (u : Int).tdiv 10 = ((u / 10 : Nat) : Int) := by rw [Int.tdiv_eq_ediv_of_nonneg (by omega)]; omega
        rw [this]; exact wrap_small (by omega)
      have e2 : (u : Int).tmod 10 = ((u % 10 : Nat) : Int) := by rw [Int.tmod_eq_emod_of_nonneg (by omega)]; omega
      have h0 : ¬ ((u : Int) < 0) := by omega
      have h1 : ¬ ((u : Int) < 10) := by omega
      have hs : (decB (u / 10)).size + (decB (u % 10)).size ≤ 9223372036854775807 := by
        have := decB_size (u / 10)
        have := decB_size (u % 10)
        omega
      have hd : decB u = decB (u / 10) ++ decB (u % 10) := by
        have h9 : u % 10 < 10 := Nat.mod_lt _ (by decide)
        apply ByteArray.ext
        apply Array.toList_inj.1
        simp only [decB, ByteArray.data_append, Array.toList_append]
        conv => lhs; rw [Lib.decDigits, dif_neg h]
        conv => rhs; rhs; rw [Lib.decDigits, dif_pos h9]
      refine PEv_fn rfl (S_fns c117) (Nat.le_of_ble_eq_true rfl) ?_
      simp only [W_seq_iff, W_seq_text, WN_cons_iff, WN_nil_iff, W_ret_iff, W_skip_iff, W_cond_iff, W_block_iff, W_exit_iff, thenQ_normal, thenQ_ret, thenQ_exit, blockQ_normal, blockQ_ret, blockQ_exit, condW_bool, goWN_true, goWN_false, goPN_done, wanted_none, wanted_some, wantV_bool, wantV_undef, plan, ev_t, ev_i, ev_b, ev_k, put_some, put_none, upd_apply, ienv_zero, ienv_succ, binV, binInt, eqV, app, List.map_nil, List.append_nil, List.map_cons, Al.all_oks, true_and, and_true, true_or, if_true, if_false, Option.map_some, reduceIte, Nat.reduceEqDiff, decide_true, decide_false, beq_self_eq_true, reduceCtorEq, ge_iff_le, Bool.false_eq_true, Bool.not_true, Bool.not_false, endQ_ret1, endQ_normal1, ret1_one, ret1_agg, outV_p, norm_int, norm_bool, norm_str, norm_nils, norm_sl, norm_box, norm_fn, norm_nilp, norm_nilf, norm_nilm, norm_mp, snapVs_nil, snapVs_cons, snapCons_some, snapV_p, fnOf, bft, btf, bff, btt, Nat.reduceAdd, List.cons_append, List.nil_append, Bool.and_true, Bool.and_false, Bool.true_and, Bool.false_and, asN_nat, rdAt, takeV, wrAt, splice, cellsV, lenL, List.drop_zero, List.take_zero, List.length_cons, List.length_nil, List.take_succ_cons, Nat.le_refl, ne_eq, not_true_eq_false, and_self, List.drop_nil, Nat.zero_add, Nat.reduceLeDiff, List.drop_succ_cons, not_false_eq_true, List.length_map, snap_p, consR_some, collect_nil, collect_cons, snapV_agg, W_draw, WO_cons_iff, WO_nil_iff, goW_true, goW_false, goP_done, partsV, elemsV, toPss, toPs, toP, fill, List.take_nil, asN_lit, Nat.reduceMul, Nat.reduceLT, Nat.mul_one, Nat.zero_mul, snapV_one, snap_hsl, snapHsl, snap_href, snapHref, snap_ps, i117, noBlk, h0, h1, (by decide : ¬ (10 : Int) = 0), e1, e2, s117, goPN_str p1, goPN_str p2, binStr_add hs, hd]

theorem number117 (n : Int) (h0 : -9223372036854775808 ≤ n) (h1 : n ≤ 9223372036854775807) : PEv S 117 [vi n] (rs (numB n)) := by
  have s117 : S.shared 117 = false := by kernel_rfl
  by_cases hn : n < 0
  · by_cases hm : n = -9223372036854775808
    · subst hm
      have e : numB (-9223372036854775808) = itoaB (-9223372036854775808) := (itoaB_eq _ h0 h1).symm
      rw [e]
      exact PEv_eval S 9 (by kernel_rfl)
    · obtain ⟨u, rfl⟩ : ∃ u : Nat, n = -(u : Int) := ⟨n.natAbs, by omega⟩
      have p1 := number117n u (by omega)
      have e1 : IntKind.i64.wrap (0 - -(u : Int)) = (u : Int) := by
        have : (0 - -(u : Int)) = (u : Int) := by omega
        rw [this]; exact wrap_small (by omega)
      have e2 : ((-(u : Int)) == (u : Int)) = false := by simp; omega
      have hs : (⟨#[45]⟩ : ByteArray).size + (decB u).size ≤ 9223372036854775807 := by
        have := decB_size u
        have e : (⟨#[45]⟩ : ByteArray).size = 1 := rfl
        omega
      have hd : numB (-(u : Int)) = ⟨#[45]⟩ ++ decB u := by
        apply ByteArray.ext
        apply Array.toList_inj.1
        simp only [numB, Lib.itoa, decB, ByteArray.data_append, Array.toList_append, if_pos hn]
        simp
      refine PEv_fn rfl (S_fns c117) (Nat.le_of_ble_eq_true rfl) ?_
      simp only [W_seq_iff, W_seq_text, WN_cons_iff, WN_nil_iff, W_ret_iff, W_skip_iff, W_cond_iff, W_block_iff, W_exit_iff, thenQ_normal, thenQ_ret, thenQ_exit, blockQ_normal, blockQ_ret, blockQ_exit, condW_bool, goWN_true, goWN_false, goPN_done, wanted_none, wanted_some, wantV_bool, wantV_undef, plan, ev_t, ev_i, ev_b, ev_k, put_some, put_none, upd_apply, ienv_zero, ienv_succ, binV, binInt, eqV, app, List.map_nil, List.append_nil, List.map_cons, Al.all_oks, true_and, and_true, true_or, if_true, if_false, Option.map_some, reduceIte, Nat.reduceEqDiff, decide_true, decide_false, beq_self_eq_true, reduceCtorEq, ge_iff_le, Bool.false_eq_true, Bool.not_true, Bool.not_false, endQ_ret1, endQ_normal1, ret1_one, ret1_agg, outV_p, norm_int, norm_bool, norm_str, norm_nils, norm_sl, norm_box, norm_fn, norm_nilp, norm_nilf, norm_nilm, norm_mp, snapVs_nil, snapVs_cons, snapCons_some, snapV_p, fnOf, bft, btf, bff, btt, Nat.reduceAdd, List.cons_append, List.nil_append, Bool.and_true, Bool.and_false, Bool.true_and, Bool.false_and, asN_nat, rdAt, takeV, wrAt, splice, cellsV, lenL, List.drop_zero, List.take_zero, List.length_cons, List.length_nil, List.take_succ_cons, Nat.le_refl, ne_eq, not_true_eq_false, and_self, List.drop_nil, Nat.zero_add, Nat.reduceLeDiff, List.drop_succ_cons, not_false_eq_true, List.length_map, snap_p, consR_some, collect_nil, collect_cons, snapV_agg, W_draw, WO_cons_iff, WO_nil_iff, goW_true, goW_false, goP_done, partsV, elemsV, toPss, toPs, toP, fill, List.take_nil, asN_lit, Nat.reduceMul, Nat.reduceLT, Nat.mul_one, Nat.zero_mul, snapV_one, snap_hsl, snapHsl, snap_href, snapHref, snap_ps, i117, noBlk, hn, e1, e2, s117, goPN_str p1, binStr_add hs, hd]
  · obtain ⟨u, rfl⟩ : ∃ u : Nat, n = (u : Int) := ⟨n.toNat, by omega⟩
    have p1 := number117n u (by omega)
    have hd : numB (u : Int) = decB u := by
      simp only [numB, decB, Lib.itoa, if_neg hn]
      simp
    rw [hd]; exact p1

theorem number52 (n : Int) (h0 : -9223372036854775808 ≤ n) (h1 : n ≤ 9223372036854775807) : PEv S 52 [vi n] (rs (numB n)) := by
  have s117 : S.shared 117 = false := by kernel_rfl
  have p1 := number117 n h0 h1
  refine PEv_fn rfl (S_fns c52) (Nat.le_of_ble_eq_true rfl) ?_
  simp only [W_seq_iff, W_seq_text, WN_cons_iff, WN_nil_iff, W_ret_iff, W_skip_iff, W_cond_iff, W_block_iff, W_exit_iff, thenQ_normal, thenQ_ret, thenQ_exit, blockQ_normal, blockQ_ret, blockQ_exit, condW_bool, goWN_true, goWN_false, goPN_done, wanted_none, wanted_some, wantV_bool, wantV_undef, plan, ev_t, ev_i, ev_b, ev_k, put_some, put_none, upd_apply, ienv_zero, ienv_succ, binV, binInt, eqV, app, List.map_nil, List.append_nil, List.map_cons, Al.all_oks, true_and, and_true, true_or, if_true, if_false, Option.map_some, reduceIte, Nat.reduceEqDiff, decide_true, decide_false, beq_self_eq_true, reduceCtorEq, ge_iff_le, Bool.false_eq_true, Bool.not_true, Bool.not_false, endQ_ret1, endQ_normal1, ret1_one, ret1_agg, outV_p, norm_int, norm_bool, norm_str, norm_nils, norm_sl, norm_box, norm_fn, norm_nilp, norm_nilf, norm_nilm, norm_mp, snapVs_nil, snapVs_cons, snapCons_some, snapV_p, fnOf, bft, btf, bff, btt, Nat.reduceAdd, List.cons_append, List.nil_append, Bool.and_true, Bool.and_false, Bool.true_and, Bool.false_and, asN_nat, rdAt, takeV, wrAt, splice, cellsV, lenL, List.drop_zero, List.take_zero, List.length_cons, List.length_nil, List.take_succ_cons, Nat.le_refl, ne_eq, not_true_eq_false, and_self, List.drop_nil, Nat.zero_add, Nat.reduceLeDiff, List.drop_succ_cons, not_false_eq_true, List.length_map, snap_p, consR_some, collect_nil, collect_cons, snapV_agg, W_draw, WO_cons_iff, WO_nil_iff, goW_true, goW_false, goP_done, partsV, elemsV, toPss, toPs, toP, fill, List.take_nil, asN_lit, Nat.reduceMul, Nat.reduceLT, Nat.mul_one, Nat.zero_mul, snapV_one, snap_hsl, snapHsl, snap_href, snapHref, snap_ps, i52, noBlk, s117, goPN_str p1]
end Go.Abs
namespace Go.Abs
set_option maxRecDepth 100000
section
variable {S : Sys} {al : Al} {d : Option Nat} {env : Env} {blk : Blk} {Q : Post}
theorem PEv_prim {f : Nat} {vs : List V} {r : RV} (h : S.prim f vs = some (some r)) : PEv S f vs r := ⟨1, by simp [callP, h]⟩
theorem W_unroll {c : ICode} (h : W S al c (thenQ (fun e b => W S al (.loop c) Q e b) Q) env blk) : W S al (.loop c) Q env blk := by
  obtain ⟨n, e, env1, blk1, h1, h2⟩ := h
  cases e with
  | normal =>
    obtain ⟨m, e, env2, blk2, h3, h4⟩ := h2
    refine ⟨max n m + 1, e, env2, blk2, ?_, h4⟩
    simp only [exec] at h3 ⊢
    simp only [iter]
    rw [exec_le S (by omega) h1]
    exact iter_le S (by omega) (by omega) h3
  | exit i => exact ⟨n + 1, _, _, _, by simp [exec, iter, exec_le S (Nat.le_succ n) h1], h2⟩
  | ret => exact ⟨n + 1, _, _, _, by simp [exec, iter, exec_le S (Nat.le_succ n) h1], h2⟩
theorem land_agg {rd : List Nat} {s : Nat} {r : RV} {v : V} (h : ∀ b, land blk rd s (r.pureIf b) = some (v, [])) {f : Nat} {vs : List V} {K : Env → Blk → Prop} (hp : PEv S f vs r) : goPN S .all (.pc f vs rd s) d env blk K ↔ K (put env d v) blk := by
  constructor
  · rintro ⟨y, hy, h2⟩
    have := hy.det hp
    subst this
    rw [h] at h2
    exact h2.2
  · intro hK
    refine ⟨_, hp, ?_⟩
    rw [h]
    exact ⟨Al.all_oks _, hK⟩
theorem goP_land {rd : List Nat} {s : Nat} {r : RV} {v : V} (h : ∀ b, land blk rd s (r.pureIf b) = some (v, [])) {f : Nat} {vs : List V} {tr : List Eff} {K : Env → Blk → List Eff → Prop} (hp : PEv S f vs r) : goP S .all (.pc f vs rd s) d env blk tr K ↔ K (put env d v) blk (tr ++ [⟨rd, [], []⟩]) := by
  constructor
  · rintro ⟨y, hy, h2⟩
    have := hy.det hp
    subst this
    rw [h] at h2
    simpa [app] using h2.2
  · intro hK
    refine ⟨_, hp, ?_⟩
    rw [h]
    exact ⟨Al.all_oks _, by simpa [app] using hK⟩
end

theorem itoa47 (n : Int) (h0 : -9223372036854775808 ≤ n) (h1 : n ≤ 9223372036854775807) : PEv S 47 [vi n] (rs (numB n)) := by
  refine PEv_prim ?_
  show some (primItoa [vi n]) = _
  simp only [primItoa]
  rw [if_pos ⟨h0, h1⟩, itoaB_eq n h0 h1]
  rfl

def namesL : List ByteArray := [⟨#[]⟩, "axis-cut".toUTF8, "axis-make".toUTF8, "axis-slide".toUTF8, "loop-cut".toUTF8, "loop-make".toUTF8, "pair-cut".toUTF8, "pair-make".toUTF8, "triangle".toUTF8, "tip-right".toUTF8, "tip-left".toUTF8]
theorem names45 : PEv S 45 [] (.agg [.p (.str ⟨#[]⟩), .p (.str ⟨#[97, 120, 105, 115, 45, 99, 117, 116]⟩), .p (.str ⟨#[97, 120, 105, 115, 45, 109, 97, 107, 101]⟩), .p (.str ⟨#[97, 120, 105, 115, 45, 115, 108, 105, 100, 101]⟩), .p (.str ⟨#[108, 111, 111, 112, 45, 99, 117, 116]⟩), .p (.str ⟨#[108, 111, 111, 112, 45, 109, 97, 107, 101]⟩), .p (.str ⟨#[112, 97, 105, 114, 45, 99, 117, 116]⟩), .p (.str ⟨#[112, 97, 105, 114, 45, 109, 97, 107, 101]⟩), .p (.str ⟨#[116, 114, 105, 97, 110, 103, 108, 101]⟩), .p (.str ⟨#[116, 105, 112, 45, 114, 105, 103, 104, 116]⟩), .p (.str ⟨#[116, 105, 112, 45, 108, 101, 102, 116]⟩)]) := PEv_eval S 9 (by kernel_rfl)
end Go.Abs
