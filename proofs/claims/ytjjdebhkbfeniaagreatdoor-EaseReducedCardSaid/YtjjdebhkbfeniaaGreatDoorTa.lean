/-
  The examples of layer 4 hold.
-/
import Derived.Test.YtjjdebhkbfeniaaGreatDoorSa
set_option linter.unusedSimpArgs false
set_option linter.unusedVariables false
set_option linter.unusedSectionVars false
set_option maxRecDepth 1000000
namespace Go.Abs
/-- catscradle/ease.reducing -/
def k40a : List V := [.agg [.p (.int .i64 2), .p (.sl [[.int .i64 1, .int .i64 0, .int .i64 1, .int .i64 0, .int .i64 0, .bool false], [.int .i64 2, .int .i64 0, .int .i64 0, .int .i64 1, .int .i64 1, .bool true], [.int .i64 2, .int .i64 0, .int .i64 0, .int .i64 1, .int .i64 1, .bool false], [.int .i64 1, .int .i64 1, .int .i64 1, .int .i64 0, .int .i64 0, .bool false]])]]
def k40r : RV := .tup [.agg [.p (.int .i64 4), .p (.int .i64 1), .p (.int .i64 0), .p (.int .i64 0), .p (.bool false), .p (.bool false), .p (.int .i64 0)], .one (.p (.bool true))]
theorem k40e : PEv S 48 k40a k40r := PEv_memo MemoOk.nil 60 (by kernel_rfl)
def k40m : Memo := (48, k40a, k40r) :: ([] : Memo)
theorem k40o : MemoOk S k40m := .cons k40e MemoOk.nil
/-- catscradle/ease.reducing -/
def k41a : List V := [.agg [.p (.int .i64 2), .p (.sl [[.int .i64 1, .int .i64 0, .int .i64 1, .int .i64 0, .int .i64 0, .bool false], [.int .i64 1, .int .i64 1, .int .i64 1, .int .i64 0, .int .i64 0, .bool false]])]]
def k41r : RV := .tup [.agg [.p (.int .i64 0), .p (.int .i64 0), .p (.int .i64 0), .p (.int .i64 0), .p (.bool false), .p (.bool false), .p (.int .i64 0)], .one (.p (.bool false))]
theorem k41e : PEv S 48 k41a k41r := PEv_memo k40o 60 (by kernel_rfl)
def k41m : Memo := (48, k41a, k41r) :: k40m
theorem k41o : MemoOk S k41m := .cons k41e k40o
/-- catscradle/ease.reduce -/
def k42a : List V := [.agg [.p (.int .i64 2), .p (.sl [[.int .i64 1, .int .i64 0, .int .i64 1, .int .i64 0, .int .i64 0, .bool false], [.int .i64 2, .int .i64 0, .int .i64 0, .int .i64 1, .int .i64 1, .bool true], [.int .i64 2, .int .i64 0, .int .i64 0, .int .i64 1, .int .i64 1, .bool false], [.int .i64 1, .int .i64 1, .int .i64 1, .int .i64 0, .int .i64 0, .bool false]])]]
def k42r : RV := .tup [.agg [.p (.int .i64 2), .own 55 6 [[.int .i64 1, .int .i64 0, .int .i64 1, .int .i64 0, .int .i64 0, .bool false], [.int .i64 1, .int .i64 1, .int .i64 1, .int .i64 0, .int .i64 0, .bool false]]], .one (.own 38 7 [[.int .i64 4, .int .i64 1, .int .i64 0, .int .i64 0, .bool false, .bool false, .int .i64 0]])]
theorem k42e : PEv S 27 k42a k42r := PEv_memo k41o 60 (by kernel_rfl)
def k42m : Memo := (27, k42a, k42r) :: k41m
theorem k42o : MemoOk S k42m := .cons k42e k41o
/-- catscradle/ease.Reduce -/
def k43a : List V := [.agg [.p (.int .i64 2), .p (.sl [[.int .i64 1, .int .i64 0, .int .i64 1, .int .i64 0, .int .i64 0, .bool false], [.int .i64 2, .int .i64 0, .int .i64 0, .int .i64 1, .int .i64 1, .bool true], [.int .i64 2, .int .i64 0, .int .i64 0, .int .i64 1, .int .i64 1, .bool false], [.int .i64 1, .int .i64 1, .int .i64 1, .int .i64 0, .int .i64 0, .bool false]])]]
def k43r : RV := .tup [.agg [.p (.int .i64 2), .own 55 6 [[.int .i64 1, .int .i64 0, .int .i64 1, .int .i64 0, .int .i64 0, .bool false], [.int .i64 1, .int .i64 1, .int .i64 1, .int .i64 0, .int .i64 0, .bool false]]], .one (.own 38 7 [[.int .i64 4, .int .i64 1, .int .i64 0, .int .i64 0, .bool false, .bool false, .int .i64 0]]), .one (.p (.int .i64 0))]
theorem k43e : PEv S 8 k43a k43r := PEv_memo k42o 60 (by kernel_rfl)
def k43m : Memo := (8, k43a, k43r) :: k42m
theorem k43o : MemoOk S k43m := .cons k43e k42o
/-- catscradle/code.Normal -/
def k44a : List V := [.agg [.p (.int .i64 2), .p (.sl [[.int .i64 1, .int .i64 0, .int .i64 1, .int .i64 0, .int .i64 0, .bool false], [.int .i64 2, .int .i64 0, .int .i64 0, .int .i64 1, .int .i64 1, .bool true], [.int .i64 2, .int .i64 0, .int .i64 0, .int .i64 1, .int .i64 1, .bool false], [.int .i64 1, .int .i64 1, .int .i64 1, .int .i64 0, .int .i64 0, .bool false]])]]
def k44r : RV := .tup [.agg [.p (.int .i64 2), .p (.sl [[.int .i64 1, .int .i64 0, .int .i64 1, .int .i64 0, .int .i64 0, .bool false], [.int .i64 2, .int .i64 0, .int .i64 0, .int .i64 1, .int .i64 1, .bool true], [.int .i64 2, .int .i64 0, .int .i64 0, .int .i64 1, .int .i64 1, .bool false], [.int .i64 1, .int .i64 1, .int .i64 1, .int .i64 0, .int .i64 0, .bool false]])], .one (.p (.int .i64 0))]
theorem k44e : PEv S 18 k44a k44r := PEv_memo k43o 60 (by kernel_rfl)
def k44m : Memo := (18, k44a, k44r) :: k43m
theorem k44o : MemoOk S k44m := .cons k44e k43o
/-- catscradle/code.Normal -/
def k45a : List V := [.agg [.p (.int .i64 2), .p (.sl [[.int .i64 1, .int .i64 0, .int .i64 1, .int .i64 0, .int .i64 0, .bool false], [.int .i64 1, .int .i64 1, .int .i64 1, .int .i64 0, .int .i64 0, .bool false]])]]
def k45r : RV := .tup [.agg [.p (.int .i64 2), .p (.sl [[.int .i64 1, .int .i64 0, .int .i64 1, .int .i64 0, .int .i64 0, .bool false], [.int .i64 1, .int .i64 1, .int .i64 1, .int .i64 0, .int .i64 0, .bool false]])], .one (.p (.int .i64 0))]
theorem k45e : PEv S 18 k45a k45r := PEv_memo k44o 60 (by kernel_rfl)
def k45m : Memo := (18, k45a, k45r) :: k44m
theorem k45o : MemoOk S k45m := .cons k45e k44o
/-- catscradle/ease.meet -/
def k46a : List V := [.agg [.p (.int .i64 2), .p (.sl [[.int .i64 1, .int .i64 0, .int .i64 1, .int .i64 0, .int .i64 0, .bool false], [.int .i64 1, .int .i64 1, .int .i64 1, .int .i64 0, .int .i64 0, .bool false]])], .one (.p (.sl []))]
def k46r : RV := .agg [.p (.int .i64 2), .p (.sl [[.int .i64 1, .int .i64 0, .int .i64 1, .int .i64 0, .int .i64 0, .bool false], [.int .i64 1, .int .i64 1, .int .i64 1, .int .i64 0, .int .i64 0, .bool false]]), .p (.int .i64 2), .p (.sl [[.int .i64 1, .int .i64 0, .int .i64 1, .int .i64 0, .int .i64 0, .bool false], [.int .i64 1, .int .i64 1, .int .i64 1, .int .i64 0, .int .i64 0, .bool false]]), .p (.sl [])]
theorem k46e : PEv S 69 k46a k46r := PEv_memo k45o 60 (by kernel_rfl)
def k46m : Memo := (69, k46a, k46r) :: k45m
theorem k46o : MemoOk S k46m := .cons k46e k45o
/-- catscradle/ease.Make -/
def k47a : List V := [.agg [.p (.int .i64 2), .p (.sl [[.int .i64 1, .int .i64 0, .int .i64 1, .int .i64 0, .int .i64 0, .bool false], [.int .i64 2, .int .i64 0, .int .i64 0, .int .i64 1, .int .i64 1, .bool true], [.int .i64 2, .int .i64 0, .int .i64 0, .int .i64 1, .int .i64 1, .bool false], [.int .i64 1, .int .i64 1, .int .i64 1, .int .i64 0, .int .i64 0, .bool false]])], .one (.p (.int .i64 10))]
def k47r : RV := .tup [.agg [.p (.int .i64 2), .p (.sl [[.int .i64 1, .int .i64 0, .int .i64 1, .int .i64 0, .int .i64 0, .bool false], [.int .i64 1, .int .i64 1, .int .i64 1, .int .i64 0, .int .i64 0, .bool false]]), .own 38 7 [[.int .i64 4, .int .i64 1, .int .i64 0, .int .i64 0, .bool false, .bool false, .int .i64 0]], .p (.bool true)], .one (.p (.int .i64 0))]
theorem k47e : PEv S 24 k47a k47r := PEv_memo k46o 60 (by kernel_rfl)
def k47m : Memo := (24, k47a, k47r) :: k46m
theorem k47o : MemoOk S k47m := .cons k47e k46o
/-- catscradle/code.Normal -/
def k48a : List V := [.agg [.p (.int .i64 2), .p (.sl [[.int .i64 1, .int .i64 1, .int .i64 1, .int .i64 0, .int .i64 0, .bool false], [.int .i64 1, .int .i64 0, .int .i64 1, .int .i64 0, .int .i64 0, .bool false]])]]
def k48r : RV := .tup [.agg [.p (.int .i64 2), .p (.sl [[.int .i64 1, .int .i64 0, .int .i64 1, .int .i64 0, .int .i64 0, .bool false], [.int .i64 1, .int .i64 1, .int .i64 1, .int .i64 0, .int .i64 0, .bool false]])], .one (.p (.int .i64 0))]
theorem k48e : PEv S 18 k48a k48r := PEv_memo k47o 60 (by kernel_rfl)
def k48m : Memo := (18, k48a, k48r) :: k47m
theorem k48o : MemoOk S k48m := .cons k48e k47o
/-- catscradle/ease.reduce -/
def k49a : List V := [.agg [.p (.int .i64 2), .p (.sl [[.int .i64 1, .int .i64 0, .int .i64 1, .int .i64 0, .int .i64 0, .bool false], [.int .i64 1, .int .i64 1, .int .i64 1, .int .i64 0, .int .i64 0, .bool false]])]]
def k49r : RV := .tup [.agg [.p (.int .i64 2), .p (.sl [[.int .i64 1, .int .i64 0, .int .i64 1, .int .i64 0, .int .i64 0, .bool false], [.int .i64 1, .int .i64 1, .int .i64 1, .int .i64 0, .int .i64 0, .bool false]])], .one (.p (.nils))]
theorem k49e : PEv S 27 k49a k49r := PEv_memo k48o 60 (by kernel_rfl)
def k49m : Memo := (27, k49a, k49r) :: k48m
theorem k49o : MemoOk S k49m := .cons k49e k48o
/-- catscradle/ease.Make -/
def k410a : List V := [.agg [.p (.int .i64 2), .p (.sl [[.int .i64 1, .int .i64 1, .int .i64 1, .int .i64 0, .int .i64 0, .bool false], [.int .i64 1, .int .i64 0, .int .i64 1, .int .i64 0, .int .i64 0, .bool false]])], .one (.p (.int .i64 10))]
def k410r : RV := .tup [.agg [.p (.int .i64 2), .p (.sl [[.int .i64 1, .int .i64 0, .int .i64 1, .int .i64 0, .int .i64 0, .bool false], [.int .i64 1, .int .i64 1, .int .i64 1, .int .i64 0, .int .i64 0, .bool false]]), .p (.nils), .p (.bool true)], .one (.p (.int .i64 0))]
theorem k410e : PEv S 24 k410a k410r := PEv_memo k49o 60 (by kernel_rfl)
def k410m : Memo := (24, k410a, k410r) :: k49m
theorem k410o : MemoOk S k410m := .cons k410e k49o
/-- catscradle/ease.Join -/
def k411a : List V := [.agg [.p (.int .i64 2), .p (.sl [[.int .i64 1, .int .i64 0, .int .i64 1, .int .i64 0, .int .i64 0, .bool false], [.int .i64 2, .int .i64 0, .int .i64 0, .int .i64 1, .int .i64 1, .bool true], [.int .i64 2, .int .i64 0, .int .i64 0, .int .i64 1, .int .i64 1, .bool false], [.int .i64 1, .int .i64 1, .int .i64 1, .int .i64 0, .int .i64 0, .bool false]])], .agg [.p (.int .i64 2), .p (.sl [[.int .i64 1, .int .i64 1, .int .i64 1, .int .i64 0, .int .i64 0, .bool false], [.int .i64 1, .int .i64 0, .int .i64 1, .int .i64 0, .int .i64 0, .bool false]])], .one (.p (.int .i64 10))]
def k411r : RV := .tup [.agg [.own 38 7 [[.int .i64 4, .int .i64 1, .int .i64 0, .int .i64 0, .bool false, .bool false, .int .i64 0]], .p (.nils)], .one (.p (.int .i64 0))]
theorem k411e : PEv S 14 k411a k411r := PEv_memo k410o 60 (by kernel_rfl)
def k411m : Memo := (14, k411a, k411r) :: k410m
theorem k411o : MemoOk S k411m := .cons k411e k410o
/-- catscradle/code.Normal -/
def k412a : List V := [.agg [.p (.int .i64 1), .p (.sl [[.int .i64 1, .int .i64 0, .int .i64 1, .int .i64 0, .int .i64 0, .bool false], [.int .i64 1, .int .i64 0, .int .i64 2, .int .i64 0, .int .i64 0, .bool false]])]]
def k412r : RV := .tup [.agg [.p (.int .i64 1), .p (.sl [[.int .i64 1, .int .i64 0, .int .i64 1, .int .i64 0, .int .i64 0, .bool false], [.int .i64 1, .int .i64 0, .int .i64 2, .int .i64 0, .int .i64 0, .bool false]])], .one (.p (.int .i64 0))]
theorem k412e : PEv S 18 k412a k412r := PEv_memo k411o 60 (by kernel_rfl)
def k412m : Memo := (18, k412a, k412r) :: k411m
theorem k412o : MemoOk S k412m := .cons k412e k411o
/-- catscradle/ease.reducing -/
def k413a : List V := [.agg [.p (.int .i64 1), .p (.sl [[.int .i64 1, .int .i64 0, .int .i64 1, .int .i64 0, .int .i64 0, .bool false], [.int .i64 1, .int .i64 0, .int .i64 2, .int .i64 0, .int .i64 0, .bool false]])]]
def k413r : RV := .tup [.agg [.p (.int .i64 1), .p (.int .i64 0), .p (.int .i64 0), .p (.int .i64 0), .p (.bool false), .p (.bool false), .p (.int .i64 0)], .one (.p (.bool true))]
theorem k413e : PEv S 48 k413a k413r := PEv_memo k412o 60 (by kernel_rfl)
def k413m : Memo := (48, k413a, k413r) :: k412m
theorem k413o : MemoOk S k413m := .cons k413e k412o
/-- catscradle/ease.reducing -/
def k414a : List V := [.agg [.p (.int .i64 1), .p (.sl [])]]
def k414r : RV := .tup [.agg [.p (.int .i64 0), .p (.int .i64 0), .p (.int .i64 0), .p (.int .i64 0), .p (.bool false), .p (.bool false), .p (.int .i64 0)], .one (.p (.bool false))]
theorem k414e : PEv S 48 k414a k414r := PEv_memo k413o 60 (by kernel_rfl)
def k414m : Memo := (48, k414a, k414r) :: k413m
theorem k414o : MemoOk S k414m := .cons k414e k413o
/-- catscradle/ease.reduce -/
def k415a : List V := [.agg [.p (.int .i64 1), .p (.sl [[.int .i64 1, .int .i64 0, .int .i64 1, .int .i64 0, .int .i64 0, .bool false], [.int .i64 1, .int .i64 0, .int .i64 2, .int .i64 0, .int .i64 0, .bool false]])]]
def k415r : RV := .tup [.agg [.p (.int .i64 1), .p (.nils)], .one (.own 38 7 [[.int .i64 1, .int .i64 0, .int .i64 0, .int .i64 0, .bool false, .bool false, .int .i64 0]])]
theorem k415e : PEv S 27 k415a k415r := PEv_memo k414o 60 (by kernel_rfl)
def k415m : Memo := (27, k415a, k415r) :: k414m
theorem k415o : MemoOk S k415m := .cons k415e k414o
/-- catscradle/code.Normal -/
def k416a : List V := [.agg [.p (.int .i64 1), .p (.sl [])]]
def k416r : RV := .tup [.agg [.p (.int .i64 1), .p (.nils)], .one (.p (.int .i64 0))]
theorem k416e : PEv S 18 k416a k416r := PEv_memo k415o 60 (by kernel_rfl)
def k416m : Memo := (18, k416a, k416r) :: k415m
theorem k416o : MemoOk S k416m := .cons k416e k415o
/-- catscradle/ease.meet -/
def k417a : List V := [.agg [.p (.int .i64 1), .p (.sl [])], .one (.p (.sl []))]
def k417r : RV := .agg [.p (.int .i64 1), .p (.sl []), .p (.int .i64 1), .p (.nils), .p (.sl [])]
theorem k417e : PEv S 69 k417a k417r := PEv_memo k416o 60 (by kernel_rfl)
def k417m : Memo := (69, k417a, k417r) :: k416m
theorem k417o : MemoOk S k417m := .cons k417e k416o
/-- catscradle/ease.Make -/
def k418a : List V := [.agg [.p (.int .i64 1), .p (.sl [[.int .i64 1, .int .i64 0, .int .i64 1, .int .i64 0, .int .i64 0, .bool false], [.int .i64 1, .int .i64 0, .int .i64 2, .int .i64 0, .int .i64 0, .bool false]])], .one (.p (.int .i64 10))]
def k418r : RV := .tup [.agg [.p (.int .i64 1), .p (.sl []), .own 38 7 [[.int .i64 1, .int .i64 0, .int .i64 0, .int .i64 0, .bool false, .bool false, .int .i64 0]], .p (.bool true)], .one (.p (.int .i64 0))]
theorem k418e : PEv S 24 k418a k418r := PEv_memo k417o 60 (by kernel_rfl)
def k418m : Memo := (24, k418a, k418r) :: k417m
theorem k418o : MemoOk S k418m := .cons k418e k417o
/-- catscradle/ease.Bare -/
def k419a : List V := [.agg [.p (.int .i64 1), .p (.sl [[.int .i64 1, .int .i64 0, .int .i64 1, .int .i64 0, .int .i64 0, .bool false], [.int .i64 1, .int .i64 0, .int .i64 2, .int .i64 0, .int .i64 0, .bool false]])], .one (.p (.int .i64 10))]
def k419r : RV := .tup [.one (.own 38 7 [[.int .i64 1, .int .i64 0, .int .i64 0, .int .i64 0, .bool false, .bool false, .int .i64 0]]), .one (.p (.int .i64 0))]
theorem k419e : PEv S 23 k419a k419r := PEv_memo k418o 60 (by kernel_rfl)
def k419m : Memo := (23, k419a, k419r) :: k418m
theorem k419o : MemoOk S k419m := .cons k419e k418o
/-- catscradle/ease.Bare -/
def k420a : List V := [.agg [.p (.int .i64 2), .p (.sl [[.int .i64 1, .int .i64 1, .int .i64 1, .int .i64 0, .int .i64 0, .bool false], [.int .i64 1, .int .i64 0, .int .i64 1, .int .i64 0, .int .i64 0, .bool false]])], .one (.p (.int .i64 10))]
def k420r : RV := .tup [.one (.p (.nils)), .one (.p (.int .i64 9))]
theorem k420e : PEv S 23 k420a k420r := PEv_memo k419o 60 (by kernel_rfl)
def k420m : Memo := (23, k420a, k420r) :: k419m
theorem k420o : MemoOk S k420m := .cons k420e k419o
/-- catscradle/ease.led -/
def k421a : List V := [.agg [.p (.int .i64 2), .p (.sl [[.int .i64 1, .int .i64 0, .int .i64 1, .int .i64 0, .int .i64 0, .bool false], [.int .i64 2, .int .i64 0, .int .i64 0, .int .i64 1, .int .i64 1, .bool true], [.int .i64 2, .int .i64 0, .int .i64 0, .int .i64 1, .int .i64 1, .bool false], [.int .i64 1, .int .i64 1, .int .i64 1, .int .i64 0, .int .i64 0, .bool false]])], .one (.p (.sl [[.int .i64 4, .int .i64 1, .int .i64 0, .int .i64 0, .bool false, .bool false, .int .i64 0]]))]
def k421r : RV := .tup [.agg [.p (.int .i64 2), .own 55 6 [[.int .i64 1, .int .i64 0, .int .i64 1, .int .i64 0, .int .i64 0, .bool false], [.int .i64 1, .int .i64 1, .int .i64 1, .int .i64 0, .int .i64 0, .bool false]]], .one (.p (.bool true))]
theorem k421e : PEv S 36 k421a k421r := PEv_memo k420o 60 (by kernel_rfl)
def k421m : Memo := (36, k421a, k421r) :: k420m
theorem k421o : MemoOk S k421m := .cons k421e k420o
/-- catscradle/ease.led -/
def k422a : List V := [.agg [.p (.int .i64 2), .p (.sl [[.int .i64 1, .int .i64 1, .int .i64 1, .int .i64 0, .int .i64 0, .bool false], [.int .i64 1, .int .i64 0, .int .i64 1, .int .i64 0, .int .i64 0, .bool false]])], .one (.p (.sl []))]
def k422r : RV := .tup [.agg [.p (.int .i64 2), .own 55 6 [[.int .i64 1, .int .i64 0, .int .i64 1, .int .i64 0, .int .i64 0, .bool false], [.int .i64 1, .int .i64 1, .int .i64 1, .int .i64 0, .int .i64 0, .bool false]]], .one (.p (.bool true))]
theorem k422e : PEv S 36 k422a k422r := PEv_memo k421o 60 (by kernel_rfl)
def k422m : Memo := (36, k422a, k422r) :: k421m
theorem k422o : MemoOk S k422m := .cons k422e k421o
/-- catscradle/ease.Check -/
def k423a : List V := [.agg [.p (.int .i64 2), .p (.sl [[.int .i64 1, .int .i64 0, .int .i64 1, .int .i64 0, .int .i64 0, .bool false], [.int .i64 2, .int .i64 0, .int .i64 0, .int .i64 1, .int .i64 1, .bool true], [.int .i64 2, .int .i64 0, .int .i64 0, .int .i64 1, .int .i64 1, .bool false], [.int .i64 1, .int .i64 1, .int .i64 1, .int .i64 0, .int .i64 0, .bool false]])], .agg [.p (.int .i64 2), .p (.sl [[.int .i64 1, .int .i64 1, .int .i64 1, .int .i64 0, .int .i64 0, .bool false], [.int .i64 1, .int .i64 0, .int .i64 1, .int .i64 0, .int .i64 0, .bool false]])], .agg [.p (.sl [[.int .i64 4, .int .i64 1, .int .i64 0, .int .i64 0, .bool false, .bool false, .int .i64 0]]), .p (.sl [])]]
def k423r : RV := .one (.p (.bool true))
theorem k423e : PEv S 15 k423a k423r := PEv_memo k422o 60 (by kernel_rfl)
def k423m : Memo := (15, k423a, k423r) :: k422m
theorem k423o : MemoOk S k423m := .cons k423e k422o
theorem k4known : PEv S 7 [] (.one (.p (.bool true))) := PEv_memo k423o 60 (by kernel_rfl)
end Go.Abs
