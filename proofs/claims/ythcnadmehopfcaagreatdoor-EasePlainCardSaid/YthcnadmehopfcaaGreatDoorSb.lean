/-
  The system is sound at this seat.
-/
import Derived.Shelf.LaysM
import Derived.Shelf.Strings.OnBuilder
import Derived.Shelf.Small.Bits
import Derived.Shelf.Strconv.Itoa3
import Derived.Test.YthcnadmehopfcaaGreatDoorRows
import Derived.Test.YthcnadmehopfcaaGreatDoorSa
import Derived.Lib.SliceRun
import Derived.LaidLaws
set_option linter.all false
set_option maxRecDepth 100000
namespace Go.Proofs
open Go.Shelf
/-- the name of the table of the powers of ten: the first that the row names -/
def RP : String := YthcnadmehopfcaaGreatDoor.Rows.easePlainRow.named.headD default
def Tryz.apj : Go.Shelf.Ren := ⟨fun | 125 => 134 | 128 => 168 | 129 => 155 | n => n, fun | 46 => 190 | 3 => 3 | 51 => 211 | 53 => 179 | 4 => 4 | 5 => 5 | 9 => 9 | n => n, fun | n => n⟩
theorem Tryz.api : Go.Proofs.Lays.n125 Tryz.prog Tryz.apj := {
  mixed := by kernel_rfl
  f125 := Tryz.func134.trans (congrArg some (by kernel_rfl))
  f128 := Tryz.func168.trans (congrArg some (by kernel_rfl))
  f129 := Tryz.func155.trans (congrArg some (by kernel_rfl))
  t3 := Tryz.underlying3
  a3 := Tryz.isAgg3
  z3 := Tryz.sizeOf3
  v3 := Tryz.zeroValue3
  t4 := Tryz.underlying4
  a4 := Tryz.isAgg4
  z4 := Tryz.sizeOf4
  v4 := Tryz.zeroValue4
  t5 := Tryz.underlying5
  a5 := Tryz.isAgg5
  z5 := Tryz.sizeOf5
  v5 := Tryz.zeroValue5
  t9 := Tryz.underlying9
  a9 := Tryz.isAgg9
  z9 := Tryz.sizeOf9
  v9 := Tryz.zeroValue9
  t46 := Tryz.underlying190
  a46 := Tryz.isAgg190
  z46 := Tryz.sizeOf190
  v46 := Tryz.zeroValue190
  t51 := Tryz.underlying211
  a51 := Tryz.isAgg211
  z51 := Tryz.sizeOf211
  v51 := Tryz.zeroValue211
  t53 := Tryz.underlying179
  a53 := Tryz.isAgg179
  z53 := Tryz.sizeOf179
  v53 := Tryz.zeroValue179 }
/-- bits.Len: "Len returns the minimum number of bits required to represent x; the result is 0 for x == 0.": IT RETURNS 'Lib.bitLen x'; the world is as it was. (A uint has 64 bits in the model.) ITS CALLEE bits.Len64 IS MET BY ITS OWN CONTRACT OFF THE SHELF (lay that first). (LAID: no walk: one application.) -/
theorem Tryz.bits_Len (x : Int) (w : World) (h0 : 0 ≤ x) (h1 : x ≤ 18446744073709551615) :
    Calls Tryz.prog 134 #[.int .u64 x] w fun e w' => e =.returned (.int .i64 (Lib.bitLen x.toNat)) ∧ w' = w := Any.bits_Len Tryz.api x w h0 h1
def Tryz.apl : Go.Shelf.Ren := ⟨fun | 171 => 70 | 243 => 90 | 246 => 103 | 283 => 126 | 284 => 127 | 285 => 128 | 286 => 129 | 129 => 155 | 317 => 154 | 318 => 156 | 319 => 157 | 320 => 158 | 337 => 176 | 338 => 177 | n => n, fun | 3 => 3 | 9 => 9 | 2 => 2 | 4 => 4 | 171 => 178 | 0 => 0 | 53 => 179 | 37 => 138 | 5 => 5 | 173 => 182 | 212 => 210 | 51 => 211 | 20 => 20 | 213 => 212 | 46 => 190 | 232 => 245 | 233 => 246 | n => n, fun | 17 => 0 | 18 => 1 | 19 => 2 | n => n⟩
theorem Tryz.apk : Go.Proofs.LaysM.n171 Tryz.prog Tryz.apl := {
  mixed := by kernel_rfl
  f129 := Tryz.func155.trans (congrArg some (by kernel_rfl))
  f171 := Tryz.func70.trans (congrArg some (by kernel_rfl))
  f243 := Tryz.func90.trans (congrArg some (by kernel_rfl))
  f246 := Tryz.func103.trans (congrArg some (by kernel_rfl))
  f283 := Tryz.func126.trans (congrArg some (by kernel_rfl))
  f284 := Tryz.func127.trans (congrArg some (by kernel_rfl))
  f285 := Tryz.func128.trans (congrArg some (by kernel_rfl))
  f286 := Tryz.func129.trans (congrArg some (by kernel_rfl))
  f317 := Tryz.func154.trans (congrArg some (by kernel_rfl))
  f318 := Tryz.func156.trans (congrArg some (by kernel_rfl))
  f319 := Tryz.func157.trans (congrArg some (by kernel_rfl))
  f320 := Tryz.func158.trans (congrArg some (by kernel_rfl))
  f337 := Tryz.func176.trans (congrArg some (by kernel_rfl))
  f338 := Tryz.func177.trans (congrArg some (by kernel_rfl))
  t0 := Tryz.underlying0
  a0 := Tryz.isAgg0
  z0 := Tryz.sizeOf0
  v0 := Tryz.zeroValue0
  t2 := Tryz.underlying2
  a2 := Tryz.isAgg2
  z2 := Tryz.sizeOf2
  v2 := Tryz.zeroValue2
  t3 := Tryz.underlying3
  a3 := Tryz.isAgg3
  z3 := Tryz.sizeOf3
  v3 := Tryz.zeroValue3
  t4 := Tryz.underlying4
  a4 := Tryz.isAgg4
  z4 := Tryz.sizeOf4
  v4 := Tryz.zeroValue4
  t5 := Tryz.underlying5
  a5 := Tryz.isAgg5
  z5 := Tryz.sizeOf5
  v5 := Tryz.zeroValue5
  t9 := Tryz.underlying9
  a9 := Tryz.isAgg9
  z9 := Tryz.sizeOf9
  v9 := Tryz.zeroValue9
  t20 := Tryz.underlying20
  a20 := Tryz.isAgg20
  z20 := Tryz.sizeOf20
  v20 := Tryz.zeroValue20
  t37 := Tryz.underlying138
  a37 := Tryz.isAgg138
  z37 := Tryz.sizeOf138
  v37 := Tryz.zeroValue138
  t46 := Tryz.underlying190
  a46 := Tryz.isAgg190
  z46 := Tryz.sizeOf190
  v46 := Tryz.zeroValue190
  t51 := Tryz.underlying211
  a51 := Tryz.isAgg211
  z51 := Tryz.sizeOf211
  v51 := Tryz.zeroValue211
  t53 := Tryz.underlying179
  a53 := Tryz.isAgg179
  z53 := Tryz.sizeOf179
  v53 := Tryz.zeroValue179
  t171 := Tryz.underlying178
  a171 := Tryz.isAgg178
  z171 := Tryz.sizeOf178
  v171 := Tryz.zeroValue178
  t173 := Tryz.underlying182
  a173 := Tryz.isAgg182
  z173 := Tryz.sizeOf182
  v173 := Tryz.zeroValue182
  t212 := Tryz.underlying210
  a212 := Tryz.isAgg210
  z212 := Tryz.sizeOf210
  v212 := Tryz.zeroValue210
  t213 := Tryz.underlying212
  a213 := Tryz.isAgg212
  z213 := Tryz.sizeOf212
  t232 := Tryz.underlying245
  a232 := Tryz.isAgg245
  z232 := Tryz.sizeOf245
  v232 := Tryz.zeroValue245
  t233 := Tryz.underlying246
  a233 := Tryz.isAgg246
  z233 := Tryz.sizeOf246
  v233 := Tryz.zeroValue246
  g17 := by kernel_rfl
  g18 := by kernel_rfl
  g19 := by kernel_rfl
  i0 := by kernel_rfl
  i2 := by kernel_rfl
  i3 := by kernel_rfl
  i4 := by kernel_rfl
  i5 := by kernel_rfl
  i9 := by kernel_rfl
  i20 := by kernel_rfl
  i37 := by kernel_rfl
  i46 := by kernel_rfl
  i51 := by kernel_rfl
  i53 := by kernel_rfl
  i171 := by kernel_rfl
  i173 := by kernel_rfl
  i212 := by kernel_rfl
  i232 := by kernel_rfl
  i233 := by kernel_rfl
  m17 := by kernel_rfl
  m18 := by kernel_rfl
  m19 := by kernel_rfl }
open Go.RowKit Go.Sort Go.Lib in
/-- strconv.Itoa: "Itoa is equivalent to FormatInt(int64(i), 10).": i's DECIMAL NUMERAL ('Lib.itoa': a '-' where i is negative, then the digits), FOR EVERY int. The world behind the call: the world before it, new blocks behind the heap (the library's 'var a [24]byte'), draws. (LAID: no walk: one application.) -/
theorem Tryz.strconv_Itoa (n : Int) (h0 : -9223372036854775808 ≤ n) (h1 : n ≤ 9223372036854775807) (w : World) (htab : Lib.TabIs Tryz.prog w RP .u64 Lib.pow10Tab) :
    Calls Tryz.prog 70 #[.int .i64 n] w fun e w' => e =.returned (.string ⟨(Lib.itoa n).toArray⟩) ∧ ∃k os, w' = grow (w.drewN k) os := Any.strconv_Itoa Tryz.apk n h0 h1 w htab
end Go.Proofs
namespace Go.Abs
open Go.Proofs Go.RowKit Go.Lib
def G (w : World) : Prop := Lib.TabIs Tryz.prog w RP .u64 Lib.pow10Tab
theorem ana {w : World} (h : G w) : Good G w := by
  refine ⟨h, fun w w' hg hw =>?_⟩;unfold G Lib.TabIs World.var? at hw ⊢;cases hn : Tryz.prog.globalNamed RP with
  | none => rw [hn] at hw; cases hw
  | some g =>
    rw [hn] at hw;simp only [Option.bind_some] at hw ⊢;cases hb : w.heap[g]? with
    | none => rw [hb] at hw; cases hw
    | some o => rw [hg.keep g (vn hb)]; exact hw

theorem ach : Tryz.prog.follows .mixedOrders = true := by kernel_rfl
noncomputable def S0 : Sys := { S with prim := fun _ _ => none, trig := fun _ _ => false }
theorem aiH : HW S0 G := ⟨ach, fun _ _ h => h, fun f vs r h => (by cases h), fun _ _ _ _ _ _ h => (by cases h)⟩
theorem Ly {f : Nat} {fn : Func} (h : Tryz.prog.funcs[f]?= some fn) (hb : fn.body.isSome = true) (hn : (fn.name == "runtime.NumGoroutine") = false) : Enters Tryz.prog f := by
  cases hc : fn.body with
  | none => rw [hc] at hb; cases hb
  | some c => exact ⟨fn, c, h, hc, hn⟩

theorem Z5 {f n : Nat} {z i g z' : Nat} {b : BL} (he : Enters Tryz.prog f) (h1 : FH S0 n f [.one (.p .nils)] = some (.one (.p .nils)))
    (h2 : AL S0 n f [.one (.hsl 0 0 z 0 0)] .all [] = some (.one (.hsl i g z' 0 0), b)) {fn : aV} (hfn : Ch Tryz.prog f = some fn) {args : List V} {r : RV} (h : Q6 args = some (some r)) :
    Enters Tryz.prog f ∧ ∀(w : World) (O : Nat → Prop) (ar : Array Value), Good G w → (∀c, O c → c < w.heap.size) → Pw (r4 w O) args ar.toList → Calls Tryz.prog f ar w (u7 w O r) :=
  ⟨he, ar5 (S := S0) aiH (n := n) hfn ((SR S0 n).1 _ _ _ h1) ((SR S0 n).2 _ _ _ _ _ _ h2) h⟩

theorem Rx {α : Type} {x : Option α} (h : x.isSome = true) :∃y, x = some y := by
  cases x with
  | none => cases h
  | some y => exact ⟨y, rfl⟩

theorem ap9 :∀ {l : List Nat} {f : Nat}, EO l f = true → f ∈ l := by
  intro l
  induction l with
  | nil => intro f h; cases h
  | cons a l ih =>
    intro f h;simp only [EO] at h;cases hb : Nat.beq a f with
    | true => rw [Nat.eq_of_beq_eq_true hb]; simp
    | false => rw [hb] at h; exact List.mem_cons_of_mem _ (ih h)

theorem ak6 :∃e i, Tryz.prog.underlying 34 = some (.slice e) ∧ Tryz.prog.info? e = some i := by
  have h : (match Tryz.prog.underlying 34 with | some (.slice e) => (Tryz.prog.info? e).isSome | _ => false) = true := by kernel_rfl
  revert h;split
  · rename_i e he
    intro h;cases hi : Tryz.prog.info? e with
    | none => rw [hi] at h; cases h
    | some i => exact ⟨e, i, he, hi⟩
  · intro h; cases h
set_option maxHeartbeats 2000000 in
theorem ak5 (w : World) (a : Option Addr) (c : Nat) : Calls Tryz.prog 46 #[.slice a 0 c] w fun e w' =>∃b, e =.returned (.slice b 0 0) ∧ fy w w' := by
  obtain ⟨el, i, ht, hi⟩ := ak6;have q0 :∀(w : World) (a : Option Addr) (n c n' c' : Nat), (binOp .eql 34 (.slice a n c) (.slice none n' c')).run Tryz.prog w =.ok (.bool a.isNone) w := fun w a n c n' c' => Lib.run_eql_slice_nil w _ _ a n c n' c' ht;have u0 :∀w, Sem.run Tryz.prog (underlying 34) w =.ok (TypeDesc.slice el) w := run_underlying ht;have z0 :∀w, Sem.run Tryz.prog (sizeOf el) w =.ok i.size w := fun w => by simp [sizeOf, typeInfo, hi]
  cases a with
  | none =>
    go_enter Tryz.func46, Tryz.ntmps46
    go_wp2
    go_ret
    exact ⟨none, rfl, fy.refl _⟩
  | some a =>
    go_enter Tryz.func46, Tryz.ntmps46
    go_wp2
    go_ret
    exact ⟨_, rfl, fy.alloc _ _⟩
theorem ar7 : YO S G := by
  intro f vs r h;have h : XA f vs = some (some r) := h;unfold XA at h;cases e1 : Nat.beq f 70 with
  | true =>rw [e1] at h;obtain rfl := Nat.eq_of_beq_eq_true e1;simp only [cond_true, Option.some.injEq] at h;exact ⟨Ly Tryz.func70 (by kernel_rfl) (by kernel_rfl), fun w O ar hg _ ha => ar6 (G := G) (fun _ h => h) (fun n h0 h1 w ht => Tryz.strconv_Itoa n h0 h1 w ht) h w O ar hg ha⟩
  | false =>
    rw [e1] at h;simp only [cond_false] at h;cases e2 : Nat.beq f 134 with
    | true =>rw [e2] at h;obtain rfl := Nat.eq_of_beq_eq_true e2;simp only [cond_true, Option.some.injEq] at h;exact ⟨Ly Tryz.func134 (by kernel_rfl) (by kernel_rfl), fun w O ar _ _ ha => ar3 (fun x w h0 h1 => Tryz.bits_Len x w h0 h1) h w O ar ha⟩
    | false =>
      rw [e2] at h;simp only [cond_false] at h;cases e4 : EO [60, 144] f with
      | false =>
        rw [e4] at h;simp only [cond_false] at h;cases e5 : Nat.beq f 46 with
        | false => rw [e5] at h; cases h
        | true =>rw [e5] at h;obtain rfl := Nat.eq_of_beq_eq_true e5;have h : Q7 vs = some (some r) := h;exact ⟨Ly Tryz.func46 (by kernel_rfl) (by kernel_rfl), fun w O ar hg hO ha => ar4 ak5 h w O ar hg hO ha⟩
      | true =>
        rw [e4] at h;simp only [cond_true] at h;have hm := ap9 e4;simp only [List.mem_cons, List.not_mem_nil, or_false] at hm;rcases hm with rfl | rfl
        · obtain ⟨fn, hfn⟩ := Rx (x := Ch Tryz.prog 60) (by kernel_rfl)
          obtain ⟨⟨v, b⟩, hb⟩ := Rx (x := AL S0 9 60 [.one (.hsl 0 0 6 0 0)] .all []) (by kernel_rfl);have hv : (AL S0 9 60 [.one (.hsl 0 0 6 0 0)] .all []).map (·.1) = some (.one (.hsl 3840192128 1 6 0 0)) := by kernel_rfl
          rw [hb] at hv;cases hv;exact Z5 (Ly Tryz.func60 (by kernel_rfl) (by kernel_rfl)) (n := 9) (by kernel_rfl) hb hfn h
        · obtain ⟨fn, hfn⟩ := Rx (x := Ch Tryz.prog 144) (by kernel_rfl)
          obtain ⟨⟨v, b⟩, hb⟩ := Rx (x := AL S0 9 144 [.one (.hsl 0 0 7 0 0)] .all []) (by kernel_rfl);have hv : (AL S0 9 144 [.one (.hsl 0 0 7 0 0)] .all []).map (·.1) = some (.one (.hsl 9216192128 1 7 0 0)) := by kernel_rfl
          rw [hb] at hv;cases hv;exact Z5 (Ly Tryz.func144 (by kernel_rfl) (by kernel_rfl)) (n := 9) (by kernel_rfl) hb hfn h

theorem S_ok : HW S G := ⟨ach, fun _ _ h => h, ar7, fun _ _ _ _ _ _ h => (by cases h)⟩
end Go.Abs
