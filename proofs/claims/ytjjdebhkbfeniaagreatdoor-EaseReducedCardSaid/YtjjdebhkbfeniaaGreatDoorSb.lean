/-
  The system is sound at this seat.
-/
import Derived.Shelf.LaysM
import Derived.Shelf.Strings.OnBuilder
import Derived.Shelf.Small.Bits
import Derived.Shelf.Strconv.Itoa3
import Derived.Test.YtjjdebhkbfeniaaGreatDoorRows
import Derived.Test.YtjjdebhkbfeniaaGreatDoorSa
import Derived.LaidLaws
set_option linter.unusedSimpArgs false
set_option linter.unusedVariables false
set_option linter.unusedSectionVars false
set_option maxRecDepth 100000
namespace Go.Proofs
open Go.Shelf
/-- the name of the table of the powers of ten: the first that the row names -/
def tabName : String := YtjjdebhkbfeniaaGreatDoor.Rows.easeReducedRow.named.headD default
def Tryz.lays125_ren : Go.Shelf.Ren := ⟨fun | 125 => 118 | 128 => 152 | 129 => 153 | n => n, fun | 46 => 175 | 3 => 3 | 51 => 208 | 53 => 210 | 4 => 4 | 5 => 5 | 9 => 9 | n => n, fun | n => n⟩
theorem Tryz.lays125 : Go.Proofs.Lays.n125 Tryz.prog Tryz.lays125_ren := {
  mixed := by kernel_rfl
  f125 := Tryz.func118.trans (congrArg some (by kernel_rfl))
  f128 := Tryz.func152.trans (congrArg some (by kernel_rfl))
  f129 := Tryz.func153.trans (congrArg some (by kernel_rfl))
  t3 := Tryz.underlying3
  a3 := Tryz.isAgg3
  z3 := Tryz.sizeOf3
  v3 := Tryz.zeroValue3
  t4 := Tryz.underlying4
  a4 := Tryz.isAgg4
  z4 := Tryz.sizeOf4
  v4 := Tryz.zeroValue4
  t5 := Tryz.underlying5
  a5 := Tryz.isAgg5
  z5 := Tryz.sizeOf5
  v5 := Tryz.zeroValue5
  t9 := Tryz.underlying9
  a9 := Tryz.isAgg9
  z9 := Tryz.sizeOf9
  v9 := Tryz.zeroValue9
  t46 := Tryz.underlying175
  a46 := Tryz.isAgg175
  z46 := Tryz.sizeOf175
  v46 := Tryz.zeroValue175
  t51 := Tryz.underlying208
  a51 := Tryz.isAgg208
  z51 := Tryz.sizeOf208
  v51 := Tryz.zeroValue208
  t53 := Tryz.underlying210
  a53 := Tryz.isAgg210
  z53 := Tryz.sizeOf210
  v53 := Tryz.zeroValue210 }
/-- bits.Len: "Len returns the minimum number of bits required to represent x; the result is 0 for x == 0.": IT RETURNS 'Lib.bitLen x'; the world is as it was. (A uint has 64 bits in the model.) ITS CALLEE bits.Len64 IS MET BY ITS OWN CONTRACT OFF THE SHELF (lay that first). (LAID: no walk: one application.) -/
theorem Tryz.bits_Len (x : Int) (w : World) (h0 : 0 ≤ x) (h1 : x ≤ 18446744073709551615) :
    Calls Tryz.prog 118 #[.int .u64 x] w fun e w' => e = .returned (.int .i64 (Lib.bitLen x.toNat)) ∧ w' = w := Any.bits_Len Tryz.lays125 x w h0 h1
def Tryz.laysM171_ren : Go.Shelf.Ren := ⟨fun | 171 => 99 | 243 => 125 | 246 => 158 | 283 => 186 | 284 => 187 | 285 => 188 | 286 => 189 | 129 => 153 | 317 => 200 | 318 => 201 | 319 => 202 | 320 => 203 | 337 => 206 | 338 => 207 | n => n, fun | 3 => 3 | 9 => 9 | 2 => 2 | 4 => 4 | 171 => 236 | 0 => 0 | 53 => 210 | 37 => 163 | 5 => 5 | 173 => 238 | 212 => 247 | 51 => 208 | 20 => 20 | 213 => 248 | 46 => 175 | 232 => 251 | 233 => 252 | n => n, fun | 17 => 0 | 18 => 1 | 19 => 2 | n => n⟩
theorem Tryz.laysM171 : Go.Proofs.LaysM.n171 Tryz.prog Tryz.laysM171_ren := {
  mixed := by kernel_rfl
  f129 := Tryz.func153.trans (congrArg some (by kernel_rfl))
  f171 := Tryz.func99.trans (congrArg some (by kernel_rfl))
  f243 := Tryz.func125.trans (congrArg some (by kernel_rfl))
  f246 := Tryz.func158.trans (congrArg some (by kernel_rfl))
  f283 := Tryz.func186.trans (congrArg some (by kernel_rfl))
  f284 := Tryz.func187.trans (congrArg some (by kernel_rfl))
  f285 := Tryz.func188.trans (congrArg some (by kernel_rfl))
  f286 := Tryz.func189.trans (congrArg some (by kernel_rfl))
  f317 := Tryz.func200.trans (congrArg some (by kernel_rfl))
  f318 := Tryz.func201.trans (congrArg some (by kernel_rfl))
  f319 := Tryz.func202.trans (congrArg some (by kernel_rfl))
  f320 := Tryz.func203.trans (congrArg some (by kernel_rfl))
  f337 := Tryz.func206.trans (congrArg some (by kernel_rfl))
  f338 := Tryz.func207.trans (congrArg some (by kernel_rfl))
  t0 := Tryz.underlying0
  a0 := Tryz.isAgg0
  z0 := Tryz.sizeOf0
  v0 := Tryz.zeroValue0
  t2 := Tryz.underlying2
  a2 := Tryz.isAgg2
  z2 := Tryz.sizeOf2
  v2 := Tryz.zeroValue2
  t3 := Tryz.underlying3
  a3 := Tryz.isAgg3
  z3 := Tryz.sizeOf3
  v3 := Tryz.zeroValue3
  t4 := Tryz.underlying4
  a4 := Tryz.isAgg4
  z4 := Tryz.sizeOf4
  v4 := Tryz.zeroValue4
  t5 := Tryz.underlying5
  a5 := Tryz.isAgg5
  z5 := Tryz.sizeOf5
  v5 := Tryz.zeroValue5
  t9 := Tryz.underlying9
  a9 := Tryz.isAgg9
  z9 := Tryz.sizeOf9
  v9 := Tryz.zeroValue9
  t20 := Tryz.underlying20
  a20 := Tryz.isAgg20
  z20 := Tryz.sizeOf20
  v20 := Tryz.zeroValue20
  t37 := Tryz.underlying163
  a37 := Tryz.isAgg163
  z37 := Tryz.sizeOf163
  v37 := Tryz.zeroValue163
  t46 := Tryz.underlying175
  a46 := Tryz.isAgg175
  z46 := Tryz.sizeOf175
  v46 := Tryz.zeroValue175
  t51 := Tryz.underlying208
  a51 := Tryz.isAgg208
  z51 := Tryz.sizeOf208
  v51 := Tryz.zeroValue208
  t53 := Tryz.underlying210
  a53 := Tryz.isAgg210
  z53 := Tryz.sizeOf210
  v53 := Tryz.zeroValue210
  t171 := Tryz.underlying236
  a171 := Tryz.isAgg236
  z171 := Tryz.sizeOf236
  v171 := Tryz.zeroValue236
  t173 := Tryz.underlying238
  a173 := Tryz.isAgg238
  z173 := Tryz.sizeOf238
  v173 := Tryz.zeroValue238
  t212 := Tryz.underlying247
  a212 := Tryz.isAgg247
  z212 := Tryz.sizeOf247
  v212 := Tryz.zeroValue247
  t213 := Tryz.underlying248
  a213 := Tryz.isAgg248
  z213 := Tryz.sizeOf248
  t232 := Tryz.underlying251
  a232 := Tryz.isAgg251
  z232 := Tryz.sizeOf251
  v232 := Tryz.zeroValue251
  t233 := Tryz.underlying252
  a233 := Tryz.isAgg252
  z233 := Tryz.sizeOf252
  v233 := Tryz.zeroValue252
  g17 := by kernel_rfl
  g18 := by kernel_rfl
  g19 := by kernel_rfl
  i0 := by kernel_rfl
  i2 := by kernel_rfl
  i3 := by kernel_rfl
  i4 := by kernel_rfl
  i5 := by kernel_rfl
  i9 := by kernel_rfl
  i20 := by kernel_rfl
  i37 := by kernel_rfl
  i46 := by kernel_rfl
  i51 := by kernel_rfl
  i53 := by kernel_rfl
  i171 := by kernel_rfl
  i173 := by kernel_rfl
  i212 := by kernel_rfl
  i232 := by kernel_rfl
  i233 := by kernel_rfl
  m17 := by kernel_rfl
  m18 := by kernel_rfl
  m19 := by kernel_rfl }
open Go.RowKit Go.Sort Go.Lib in
/-- strconv.Itoa: "Itoa is equivalent to FormatInt(int64(i), 10).": i's DECIMAL NUMERAL ('Lib.itoa': a '-' where i is negative, then the digits), FOR EVERY int. The world behind the call: the world before it, new blocks behind the heap (the library's 'var a [24]byte'), draws. (LAID: no walk: one application.) -/
theorem Tryz.strconv_Itoa (n : Int) (h0 : -9223372036854775808 ≤ n) (h1 : n ≤ 9223372036854775807) (w : World) (htab : Lib.TabIs Tryz.prog w tabName .u64 Lib.pow10Tab) :
    Calls Tryz.prog 99 #[.int .i64 n] w fun e w' => e = .returned (.string ⟨(Lib.itoa n).toArray⟩) ∧ ∃ k os, w' = grow (w.drewN k) os := Any.strconv_Itoa Tryz.laysM171 n h0 h1 w htab
end Go.Proofs
namespace Go.Abs
open Go.Proofs Go.RowKit
def G (w : World) : Prop := Lib.TabIs Tryz.prog w tabName .u64 Lib.pow10Tab
theorem good_of {w : World} (h : G w) : Good G w := by
  refine ⟨h, fun w w' hg hw => ?_⟩
  unfold G Lib.TabIs World.var? at hw ⊢
  cases hn : Tryz.prog.globalNamed tabName with
  | none => rw [hn] at hw; cases hw
  | some g =>
    rw [hn] at hw
    simp only [Option.bind_some] at hw ⊢
    cases hb : w.heap[g]? with
    | none => rw [hb] at hw; cases hw
    | some o => rw [hg.keep g (heap_lt hb)]; exact hw

theorem follow_ok : Tryz.prog.follows .mixedOrders = true := by kernel_rfl
noncomputable def S0 : Sys := { S with prim := fun _ _ => none }
theorem S0_ok : SysOk S0 G := ⟨follow_ok, fun _ _ h => h, fun f vs r h => by cases h⟩
theorem body_enters {f : Nat} {fn : Func} (h : Tryz.prog.funcs[f]? = some fn) (hb : fn.body.isSome = true) (hn : (fn.name == "runtime.NumGoroutine") = false) : Enters Tryz.prog f := by
  cases hc : fn.body with
  | none => rw [hc] at hb; cases hb
  | some c => exact ⟨fn, c, h, hc, hn⟩

theorem clone_prim {f n : Nat} {z i g z' : Nat} {b : BL} (he : Enters Tryz.prog f) (h1 : callPF S0 n f [.one (.p .nils)] = some (.one (.p .nils)))
    (h2 : callSF S0 n f [.one (.hsl 0 0 z 0 0)] .all [] = some (.one (.hsl i g z' 0 0), b)) {fn : IFn} (hfn : compF Tryz.prog f = some fn) {args : List V} {r : RV} (h : primClone args = some (some r)) :
    Enters Tryz.prog f ∧ ∀ (w : World) (O : Nat → Prop) (ar : Array Value), Good G w → (∀ c, O c → c < w.heap.size) → Pw (AVRel w O) args ar.toList → Calls Tryz.prog f ar w (PRes w O r) :=
  ⟨he, primClone_ok (S := S0) S0_ok (n := n) hfn ((callF_ok S0 n).1 _ _ _ h1) ((callF_ok S0 n).2 _ _ _ _ _ _ h2) h⟩

theorem some_isSome {α : Type} {x : Option α} (h : x.isSome = true) : ∃ y, x = some y := by
  cases x with
  | none => cases h
  | some y => exact ⟨y, rfl⟩

theorem memN_mem : ∀ {l : List Nat} {f : Nat}, memN l f = true → f ∈ l := by
  intro l
  induction l with
  | nil => intro f h; cases h
  | cons a l ih =>
    intro f h
    simp only [memN] at h
    cases hb : Nat.beq a f with
    | true => rw [Nat.eq_of_beq_eq_true hb]; simp
    | false => rw [hb] at h; exact List.mem_cons_of_mem _ (ih h)

theorem prim_ok : PrimOk S G := by
  intro f vs r h
  have h : prim0 f vs = some (some r) := h
  unfold prim0 at h
  cases e1 : Nat.beq f 99 with
  | true =>
    rw [e1] at h
    obtain rfl := Nat.eq_of_beq_eq_true e1
    simp only [cond_true, Option.some.injEq] at h
    exact ⟨body_enters Tryz.func99 (by kernel_rfl) (by kernel_rfl), fun w O ar hg _ ha => primItoa_ok (G := G) (fun _ h => h) (fun n h0 h1 w ht => Tryz.strconv_Itoa n h0 h1 w ht) h w O ar hg ha⟩
  | false =>
    rw [e1] at h
    simp only [cond_false] at h
    cases e2 : Nat.beq f 118 with
    | true =>
      rw [e2] at h
      obtain rfl := Nat.eq_of_beq_eq_true e2
      simp only [cond_true, Option.some.injEq] at h
      exact ⟨body_enters Tryz.func118 (by kernel_rfl) (by kernel_rfl), fun w O ar _ _ ha => primBits_ok (fun x w h0 h1 => Tryz.bits_Len x w h0 h1) h w O ar ha⟩
    | false =>
      rw [e2] at h
      simp only [cond_false] at h
      cases e4 : memN [29, 72, 131] f with
      | false => rw [e4] at h; cases h
      | true =>
        rw [e4] at h
        simp only [cond_true] at h
        have hm := memN_mem e4
        simp only [List.mem_cons, List.not_mem_nil, or_false] at hm
        rcases hm with rfl | rfl | rfl
        · obtain ⟨fn, hfn⟩ := some_isSome (x := compF Tryz.prog 29) (by kernel_rfl)
          obtain ⟨⟨v, b⟩, hb⟩ := some_isSome (x := callSF S0 9 29 [.one (.hsl 0 0 6 0 0)] .all []) (by kernel_rfl)
          have hv : (callSF S0 9 29 [.one (.hsl 0 0 6 0 0)] .all []).map (·.1) = some (.one (.hsl 1856192128 1 6 0 0)) := by kernel_rfl
          rw [hb] at hv
          cases hv
          exact clone_prim (body_enters Tryz.func29 (by kernel_rfl) (by kernel_rfl)) (n := 9) (by kernel_rfl) hb hfn h
        · obtain ⟨fn, hfn⟩ := some_isSome (x := compF Tryz.prog 72) (by kernel_rfl)
          obtain ⟨⟨v, b⟩, hb⟩ := some_isSome (x := callSF S0 9 72 [.one (.hsl 0 0 7 0 0)] .all []) (by kernel_rfl)
          have hv : (callSF S0 9 72 [.one (.hsl 0 0 7 0 0)] .all []).map (·.1) = some (.one (.hsl 4608192128 1 7 0 0)) := by kernel_rfl
          rw [hb] at hv
          cases hv
          exact clone_prim (body_enters Tryz.func72 (by kernel_rfl) (by kernel_rfl)) (n := 9) (by kernel_rfl) hb hfn h
        · obtain ⟨fn, hfn⟩ := some_isSome (x := compF Tryz.prog 131) (by kernel_rfl)
          obtain ⟨⟨v, b⟩, hb⟩ := some_isSome (x := callSF S0 9 131 [.one (.hsl 0 0 7 0 0)] .all []) (by kernel_rfl)
          have hv : (callSF S0 9 131 [.one (.hsl 0 0 7 0 0)] .all []).map (·.1) = some (.one (.hsl 8384192128 1 7 0 0)) := by kernel_rfl
          rw [hb] at hv
          cases hv
          exact clone_prim (body_enters Tryz.func131 (by kernel_rfl) (by kernel_rfl)) (n := 9) (by kernel_rfl) hb hfn h

theorem S_ok : SysOk S G := ⟨follow_ok, fun _ _ h => h, prim_ok⟩
end Go.Abs
