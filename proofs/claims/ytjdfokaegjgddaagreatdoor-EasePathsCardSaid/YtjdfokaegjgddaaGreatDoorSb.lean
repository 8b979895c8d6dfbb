/-
  The system is sound at this seat.
-/
import Derived.Shelf.LaysM
import Derived.Shelf.Strings.OnBuilder
import Derived.Shelf.Small.Bits
import Derived.Shelf.Strconv.Itoa3
import Derived.Test.YtjdfokaegjgddaaGreatDoorRows
import Derived.Test.YtjdfokaegjgddaaGreatDoorSa
import Derived.LaidLaws
set_option linter.all false
set_option maxRecDepth 100000
namespace Go.Proofs
open Go.Shelf
/-- the name of the table of the powers of ten: the first that the row names -/
def w9 : String := YtjdfokaegjgddaaGreatDoor.Rows.easePathsRow.named.headD default
def Tryz.FI : Go.Shelf.Ren := ⟨fun | 125 => 143 | 128 => 163 | 129 => 164 | n => n, fun | 46 => 197 | 3 => 3 | 51 => 219 | 53 => 199 | 4 => 4 | 5 => 5 | 9 => 9 | n => n, fun | n => n⟩
theorem Tryz.SF : Go.Proofs.Lays.n125 Tryz.prog Tryz.FI := {
  mixed := by kernel_rfl
  f125 := Tryz.func143.trans (congrArg some (by kernel_rfl))
  f128 := Tryz.func163.trans (congrArg some (by kernel_rfl))
  f129 := Tryz.func164.trans (congrArg some (by kernel_rfl))
  t3 := Tryz.underlying3
  a3 := Tryz.isAgg3
  z3 := Tryz.sizeOf3
  v3 := Tryz.zeroValue3
  t4 := Tryz.underlying4
  a4 := Tryz.isAgg4
  z4 := Tryz.sizeOf4
  v4 := Tryz.zeroValue4
  t5 := Tryz.underlying5
  a5 := Tryz.isAgg5
  z5 := Tryz.sizeOf5
  v5 := Tryz.zeroValue5
  t9 := Tryz.underlying9
  a9 := Tryz.isAgg9
  z9 := Tryz.sizeOf9
  v9 := Tryz.zeroValue9
  t46 := Tryz.underlying197
  a46 := Tryz.isAgg197
  z46 := Tryz.sizeOf197
  v46 := Tryz.zeroValue197
  t51 := Tryz.underlying219
  a51 := Tryz.isAgg219
  z51 := Tryz.sizeOf219
  v51 := Tryz.zeroValue219
  t53 := Tryz.underlying199
  a53 := Tryz.isAgg199
  z53 := Tryz.sizeOf199
  v53 := Tryz.zeroValue199 }
/-- bits.Len: "Len returns the minimum number of bits required to represent x; the result is 0 for x == 0.": IT RETURNS 'Lib.bitLen x'; the world is as it was. (A uint has 64 bits in the model.) ITS CALLEE bits.Len64 IS MET BY ITS OWN CONTRACT OFF THE SHELF (lay that first). (LAID: no walk: one application.) -/
theorem Tryz.bits_Len (x : Int) (w : World) (h0 : 0 ≤ x) (h1 : x ≤ 18446744073709551615) :
    Calls Tryz.prog 143 #[.int .u64 x] w fun e w' => e =.returned (.int .i64 (Lib.bitLen x.toNat)) ∧ w' = w := Any.bits_Len Tryz.SF x w h0 h1
def Tryz.Dp : Go.Shelf.Ren := ⟨fun | 171 => 85 | 243 => 105 | 246 => 130 | 283 => 144 | 284 => 145 | 285 => 146 | 286 => 147 | 129 => 164 | 317 => 165 | 318 => 166 | 319 => 167 | 320 => 168 | 337 => 185 | 338 => 186 | n => n, fun | 3 => 3 | 9 => 9 | 2 => 2 | 4 => 4 | 171 => 198 | 0 => 0 | 53 => 199 | 37 => 149 | 5 => 5 | 173 => 202 | 212 => 220 | 51 => 219 | 20 => 20 | 213 => 221 | 46 => 197 | 232 => 244 | 233 => 245 | n => n, fun | 17 => 0 | 18 => 1 | 19 => 2 | n => n⟩
theorem Tryz.O4 : Go.Proofs.LaysM.n171 Tryz.prog Tryz.Dp := {
  mixed := by kernel_rfl
  f129 := Tryz.func164.trans (congrArg some (by kernel_rfl))
  f171 := Tryz.func85.trans (congrArg some (by kernel_rfl))
  f243 := Tryz.func105.trans (congrArg some (by kernel_rfl))
  f246 := Tryz.func130.trans (congrArg some (by kernel_rfl))
  f283 := Tryz.func144.trans (congrArg some (by kernel_rfl))
  f284 := Tryz.func145.trans (congrArg some (by kernel_rfl))
  f285 := Tryz.func146.trans (congrArg some (by kernel_rfl))
  f286 := Tryz.func147.trans (congrArg some (by kernel_rfl))
  f317 := Tryz.func165.trans (congrArg some (by kernel_rfl))
  f318 := Tryz.func166.trans (congrArg some (by kernel_rfl))
  f319 := Tryz.func167.trans (congrArg some (by kernel_rfl))
  f320 := Tryz.func168.trans (congrArg some (by kernel_rfl))
  f337 := Tryz.func185.trans (congrArg some (by kernel_rfl))
  f338 := Tryz.func186.trans (congrArg some (by kernel_rfl))
  t0 := Tryz.underlying0
  a0 := Tryz.isAgg0
  z0 := Tryz.sizeOf0
  v0 := Tryz.zeroValue0
  t2 := Tryz.underlying2
  a2 := Tryz.isAgg2
  z2 := Tryz.sizeOf2
  v2 := Tryz.zeroValue2
  t3 := Tryz.underlying3
  a3 := Tryz.isAgg3
  z3 := Tryz.sizeOf3
  v3 := Tryz.zeroValue3
  t4 := Tryz.underlying4
  a4 := Tryz.isAgg4
  z4 := Tryz.sizeOf4
  v4 := Tryz.zeroValue4
  t5 := Tryz.underlying5
  a5 := Tryz.isAgg5
  z5 := Tryz.sizeOf5
  v5 := Tryz.zeroValue5
  t9 := Tryz.underlying9
  a9 := Tryz.isAgg9
  z9 := Tryz.sizeOf9
  v9 := Tryz.zeroValue9
  t20 := Tryz.underlying20
  a20 := Tryz.isAgg20
  z20 := Tryz.sizeOf20
  v20 := Tryz.zeroValue20
  t37 := Tryz.underlying149
  a37 := Tryz.isAgg149
  z37 := Tryz.sizeOf149
  v37 := Tryz.zeroValue149
  t46 := Tryz.underlying197
  a46 := Tryz.isAgg197
  z46 := Tryz.sizeOf197
  v46 := Tryz.zeroValue197
  t51 := Tryz.underlying219
  a51 := Tryz.isAgg219
  z51 := Tryz.sizeOf219
  v51 := Tryz.zeroValue219
  t53 := Tryz.underlying199
  a53 := Tryz.isAgg199
  z53 := Tryz.sizeOf199
  v53 := Tryz.zeroValue199
  t171 := Tryz.underlying198
  a171 := Tryz.isAgg198
  z171 := Tryz.sizeOf198
  v171 := Tryz.zeroValue198
  t173 := Tryz.underlying202
  a173 := Tryz.isAgg202
  z173 := Tryz.sizeOf202
  v173 := Tryz.zeroValue202
  t212 := Tryz.underlying220
  a212 := Tryz.isAgg220
  z212 := Tryz.sizeOf220
  v212 := Tryz.zeroValue220
  t213 := Tryz.underlying221
  a213 := Tryz.isAgg221
  z213 := Tryz.sizeOf221
  t232 := Tryz.underlying244
  a232 := Tryz.isAgg244
  z232 := Tryz.sizeOf244
  v232 := Tryz.zeroValue244
  t233 := Tryz.underlying245
  a233 := Tryz.isAgg245
  z233 := Tryz.sizeOf245
  v233 := Tryz.zeroValue245
  g17 := by kernel_rfl
  g18 := by kernel_rfl
  g19 := by kernel_rfl
  i0 := by kernel_rfl
  i2 := by kernel_rfl
  i3 := by kernel_rfl
  i4 := by kernel_rfl
  i5 := by kernel_rfl
  i9 := by kernel_rfl
  i20 := by kernel_rfl
  i37 := by kernel_rfl
  i46 := by kernel_rfl
  i51 := by kernel_rfl
  i53 := by kernel_rfl
  i171 := by kernel_rfl
  i173 := by kernel_rfl
  i212 := by kernel_rfl
  i232 := by kernel_rfl
  i233 := by kernel_rfl
  m17 := by kernel_rfl
  m18 := by kernel_rfl
  m19 := by kernel_rfl }
open Go.RowKit Go.Sort Go.Lib in
/-- strconv.Itoa: "Itoa is equivalent to FormatInt(int64(i), 10).": i's DECIMAL NUMERAL ('Lib.itoa': a '-' where i is negative, then the digits), FOR EVERY int. The world behind the call: the world before it, new blocks behind the heap (the library's 'var a [24]byte'), draws. (LAID: no walk: one application.) -/
theorem Tryz.strconv_Itoa (n : Int) (h0 : -9223372036854775808 ≤ n) (h1 : n ≤ 9223372036854775807) (w : World) (htab : Lib.TabIs Tryz.prog w w9 .u64 Lib.pow10Tab) :
    Calls Tryz.prog 85 #[.int .i64 n] w fun e w' => e =.returned (.string ⟨(Lib.itoa n).toArray⟩) ∧ ∃k os, w' = grow (w.drewN k) os := Any.strconv_Itoa Tryz.O4 n h0 h1 w htab
end Go.Proofs
namespace Go.Abs
open Go.Proofs Go.RowKit
def G (w : World) : Prop := Lib.TabIs Tryz.prog w w9 .u64 Lib.pow10Tab
theorem SS {w : World} (h : G w) : Good G w := by
  refine ⟨h, fun w w' hg hw =>?_⟩;unfold G Lib.TabIs World.var? at hw ⊢;cases hn : Tryz.prog.globalNamed w9 with
  | none => rw [hn] at hw; cases hw
  | some g =>
    rw [hn] at hw;simp only [Option.bind_some] at hw ⊢;cases hb : w.heap[g]? with
    | none => rw [hb] at hw; cases hw
    | some o => rw [hg.keep g (gn hb)]; exact hw

theorem B7 : Tryz.prog.follows .mixedOrders = true := by kernel_rfl
noncomputable def S0 : Sys := { S with prim := fun _ _ => none }
theorem X2 : Cu S0 G := ⟨B7, fun _ _ h => h, fun f vs r h => by cases h⟩
theorem ki {f : Nat} {fn : Func} (h : Tryz.prog.funcs[f]?= some fn) (hb : fn.body.isSome = true) (hn : (fn.name == "runtime.NumGoroutine") = false) : Enters Tryz.prog f := by
  cases hc : fn.body with
  | none => rw [hc] at hb; cases hb
  | some c => exact ⟨fn, c, h, hc, hn⟩

theorem tq {f n : Nat} {z i g z' : Nat} {b : BL} (he : Enters Tryz.prog f) (h1 : tv S0 n f [.one (.p .nils)] = some (.one (.p .nils)))
    (h2 : kA S0 n f [.one (.hsl 0 0 z 0 0)] .all [] = some (.one (.hsl i g z' 0 0), b)) {fn : dD} (hfn : sH Tryz.prog f = some fn) {args : List V} {r : RV} (h : rz args = some (some r)) :
    Enters Tryz.prog f ∧ ∀(w : World) (O : Nat → Prop) (ar : Array Value), Good G w → (∀c, O c → c < w.heap.size) → Pw (kS w O) args ar.toList → Calls Tryz.prog f ar w (vO w O r) :=
  ⟨he, C0 (S := S0) X2 (n := n) hfn ((Af S0 n).1 _ _ _ h1) ((Af S0 n).2 _ _ _ _ _ _ h2) h⟩

theorem iU {α : Type} {x : Option α} (h : x.isSome = true) :∃y, x = some y := by
  cases x with
  | none => cases h
  | some y => exact ⟨y, rfl⟩

theorem OM :∀ {l : List Nat} {f : Nat}, Fy l f = true → f ∈ l := by
  intro l
  induction l with
  | nil => intro f h; cases h
  | cons a l ih =>
    intro f h;simp only [Fy] at h;cases hb : Nat.beq a f with
    | true => rw [Nat.eq_of_beq_eq_true hb]; simp
    | false => rw [hb] at h; exact List.mem_cons_of_mem _ (ih h)

theorem R6 : QT S G := by
  intro f vs r h;have h : Oj f vs = some (some r) := h;unfold Oj at h;cases e1 : Nat.beq f 85 with
  | true =>rw [e1] at h;obtain rfl := Nat.eq_of_beq_eq_true e1;simp only [cond_true, Option.some.injEq] at h;exact ⟨ki Tryz.func85 (by kernel_rfl) (by kernel_rfl), fun w O ar hg _ ha => Fb (G := G) (fun _ h => h) (fun n h0 h1 w ht => Tryz.strconv_Itoa n h0 h1 w ht) h w O ar hg ha⟩
  | false =>
    rw [e1] at h;simp only [cond_false] at h;cases e2 : Nat.beq f 143 with
    | true =>rw [e2] at h;obtain rfl := Nat.eq_of_beq_eq_true e2;simp only [cond_true, Option.some.injEq] at h;exact ⟨ki Tryz.func143 (by kernel_rfl) (by kernel_rfl), fun w O ar _ _ ha => Fd (fun x w h0 h1 => Tryz.bits_Len x w h0 h1) h w O ar ha⟩
    | false =>
      rw [e2] at h;simp only [cond_false] at h;cases e4 : Fy [22, 62, 119] f with
      | false => rw [e4] at h; cases h
      | true =>
        rw [e4] at h;simp only [cond_true] at h;have hm := OM e4;simp only [List.mem_cons, List.not_mem_nil, or_false] at hm;rcases hm with rfl | rfl | rfl
        · obtain ⟨fn, hfn⟩ := iU (x := sH Tryz.prog 22) (by kernel_rfl)
          obtain ⟨⟨v, b⟩, hb⟩ := iU (x := kA S0 9 22 [.one (.hsl 0 0 6 0 0)] .all []) (by kernel_rfl);have hv : (kA S0 9 22 [.one (.hsl 0 0 6 0 0)] .all []).map (·.1) = some (.one (.hsl 1408192128 1 6 0 0)) := by kernel_rfl
          rw [hb] at hv;cases hv;exact tq (ki Tryz.func22 (by kernel_rfl) (by kernel_rfl)) (n := 9) (by kernel_rfl) hb hfn h
        · obtain ⟨fn, hfn⟩ := iU (x := sH Tryz.prog 62) (by kernel_rfl)
          obtain ⟨⟨v, b⟩, hb⟩ := iU (x := kA S0 9 62 [.one (.hsl 0 0 7 0 0)] .all []) (by kernel_rfl);have hv : (kA S0 9 62 [.one (.hsl 0 0 7 0 0)] .all []).map (·.1) = some (.one (.hsl 3968192128 1 7 0 0)) := by kernel_rfl
          rw [hb] at hv;cases hv;exact tq (ki Tryz.func62 (by kernel_rfl) (by kernel_rfl)) (n := 9) (by kernel_rfl) hb hfn h
        · obtain ⟨fn, hfn⟩ := iU (x := sH Tryz.prog 119) (by kernel_rfl)
          obtain ⟨⟨v, b⟩, hb⟩ := iU (x := kA S0 9 119 [.one (.hsl 0 0 7 0 0)] .all []) (by kernel_rfl);have hv : (kA S0 9 119 [.one (.hsl 0 0 7 0 0)] .all []).map (·.1) = some (.one (.hsl 7616192128 1 7 0 0)) := by kernel_rfl
          rw [hb] at hv;cases hv;exact tq (ki Tryz.func119 (by kernel_rfl) (by kernel_rfl)) (n := 9) (by kernel_rfl) hb hfn h

theorem S_ok : Cu S G := ⟨B7, fun _ _ h => h, R6⟩
end Go.Abs
