/-
  The system is sound at this seat.
-/
import Derived.Shelf.LaysM
import Derived.Shelf.Strings.OnBuilder
import Derived.Shelf.Small.Bits
import Derived.Shelf.Strconv.Itoa3
import Derived.Test.YtfhejdojdajpmaaGreatDoorRows
import Derived.Test.YtfhejdojdajpmaaGreatDoorSa
import Derived.Lib.SliceRun
import Derived.LaidLaws
set_option linter.all false
set_option maxRecDepth 100000
namespace Go.Proofs
open Go.Shelf
/-- the name of the table of the powers of ten: the first that the row names -/
def O3 : String := YtfhejdojdajpmaaGreatDoor.Rows.easeReducesRow.named.headD default
def Tryz.amk : Go.Shelf.Ren := ⟨fun | 125 => 184 | 128 => 210 | 129 => 198 | n => n, fun | 46 => 232 | 3 => 3 | 51 => 241 | 53 => 225 | 4 => 4 | 5 => 5 | 9 => 9 | n => n, fun | n => n⟩
theorem Tryz.amj : Go.Proofs.Lays.n125 Tryz.prog Tryz.amk := {
  mixed := by kernel_rfl
  f125 := Tryz.func184.trans (congrArg some (by kernel_rfl))
  f128 := Tryz.func210.trans (congrArg some (by kernel_rfl))
  f129 := Tryz.func198.trans (congrArg some (by kernel_rfl))
  t3 := Tryz.underlying3
  a3 := Tryz.isAgg3
  z3 := Tryz.sizeOf3
  v3 := Tryz.zeroValue3
  t4 := Tryz.underlying4
  a4 := Tryz.isAgg4
  z4 := Tryz.sizeOf4
  v4 := Tryz.zeroValue4
  t5 := Tryz.underlying5
  a5 := Tryz.isAgg5
  z5 := Tryz.sizeOf5
  v5 := Tryz.zeroValue5
  t9 := Tryz.underlying9
  a9 := Tryz.isAgg9
  z9 := Tryz.sizeOf9
  v9 := Tryz.zeroValue9
  t46 := Tryz.underlying232
  a46 := Tryz.isAgg232
  z46 := Tryz.sizeOf232
  v46 := Tryz.zeroValue232
  t51 := Tryz.underlying241
  a51 := Tryz.isAgg241
  z51 := Tryz.sizeOf241
  v51 := Tryz.zeroValue241
  t53 := Tryz.underlying225
  a53 := Tryz.isAgg225
  z53 := Tryz.sizeOf225
  v53 := Tryz.zeroValue225 }
/-- bits.Len: "Len returns the minimum number of bits required to represent x; the result is 0 for x == 0.": IT RETURNS 'Lib.bitLen x'; the world is as it was. (A uint has 64 bits in the model.) ITS CALLEE bits.Len64 IS MET BY ITS OWN CONTRACT OFF THE SHELF (lay that first). (LAID: no walk: one application.) -/
theorem Tryz.bits_Len (x : Int) (w : World) (h0 : 0 ≤ x) (h1 : x ≤ 18446744073709551615) :
    Calls Tryz.prog 184 #[.int .u64 x] w fun e w' => e =.returned (.int .i64 (Lib.bitLen x.toNat)) ∧ w' = w := Any.bits_Len Tryz.amj x w h0 h1
def Tryz.amm : Go.Shelf.Ren := ⟨fun | 171 => 98 | 243 => 121 | 246 => 144 | 283 => 179 | 284 => 180 | 285 => 181 | 286 => 182 | 129 => 198 | 317 => 197 | 318 => 199 | 319 => 200 | 320 => 201 | 337 => 224 | 338 => 225 | n => n, fun | 3 => 3 | 9 => 9 | 2 => 2 | 4 => 4 | 171 => 224 | 0 => 0 | 53 => 225 | 37 => 162 | 5 => 5 | 173 => 228 | 212 => 240 | 51 => 241 | 20 => 20 | 213 => 242 | 46 => 232 | 232 => 273 | 233 => 274 | n => n, fun | 17 => 0 | 18 => 1 | 19 => 2 | n => n⟩
theorem Tryz.aml : Go.Proofs.LaysM.n171 Tryz.prog Tryz.amm := {
  mixed := by kernel_rfl
  f129 := Tryz.func198.trans (congrArg some (by kernel_rfl))
  f171 := Tryz.func98.trans (congrArg some (by kernel_rfl))
  f243 := Tryz.func121.trans (congrArg some (by kernel_rfl))
  f246 := Tryz.func144.trans (congrArg some (by kernel_rfl))
  f283 := Tryz.func179.trans (congrArg some (by kernel_rfl))
  f284 := Tryz.func180.trans (congrArg some (by kernel_rfl))
  f285 := Tryz.func181.trans (congrArg some (by kernel_rfl))
  f286 := Tryz.func182.trans (congrArg some (by kernel_rfl))
  f317 := Tryz.func197.trans (congrArg some (by kernel_rfl))
  f318 := Tryz.func199.trans (congrArg some (by kernel_rfl))
  f319 := Tryz.func200.trans (congrArg some (by kernel_rfl))
  f320 := Tryz.func201.trans (congrArg some (by kernel_rfl))
  f337 := Tryz.func224.trans (congrArg some (by kernel_rfl))
  f338 := Tryz.func225.trans (congrArg some (by kernel_rfl))
  t0 := Tryz.underlying0
  a0 := Tryz.isAgg0
  z0 := Tryz.sizeOf0
  v0 := Tryz.zeroValue0
  t2 := Tryz.underlying2
  a2 := Tryz.isAgg2
  z2 := Tryz.sizeOf2
  v2 := Tryz.zeroValue2
  t3 := Tryz.underlying3
  a3 := Tryz.isAgg3
  z3 := Tryz.sizeOf3
  v3 := Tryz.zeroValue3
  t4 := Tryz.underlying4
  a4 := Tryz.isAgg4
  z4 := Tryz.sizeOf4
  v4 := Tryz.zeroValue4
  t5 := Tryz.underlying5
  a5 := Tryz.isAgg5
  z5 := Tryz.sizeOf5
  v5 := Tryz.zeroValue5
  t9 := Tryz.underlying9
  a9 := Tryz.isAgg9
  z9 := Tryz.sizeOf9
  v9 := Tryz.zeroValue9
  t20 := Tryz.underlying20
  a20 := Tryz.isAgg20
  z20 := Tryz.sizeOf20
  v20 := Tryz.zeroValue20
  t37 := Tryz.underlying162
  a37 := Tryz.isAgg162
  z37 := Tryz.sizeOf162
  v37 := Tryz.zeroValue162
  t46 := Tryz.underlying232
  a46 := Tryz.isAgg232
  z46 := Tryz.sizeOf232
  v46 := Tryz.zeroValue232
  t51 := Tryz.underlying241
  a51 := Tryz.isAgg241
  z51 := Tryz.sizeOf241
  v51 := Tryz.zeroValue241
  t53 := Tryz.underlying225
  a53 := Tryz.isAgg225
  z53 := Tryz.sizeOf225
  v53 := Tryz.zeroValue225
  t171 := Tryz.underlying224
  a171 := Tryz.isAgg224
  z171 := Tryz.sizeOf224
  v171 := Tryz.zeroValue224
  t173 := Tryz.underlying228
  a173 := Tryz.isAgg228
  z173 := Tryz.sizeOf228
  v173 := Tryz.zeroValue228
  t212 := Tryz.underlying240
  a212 := Tryz.isAgg240
  z212 := Tryz.sizeOf240
  v212 := Tryz.zeroValue240
  t213 := Tryz.underlying242
  a213 := Tryz.isAgg242
  z213 := Tryz.sizeOf242
  t232 := Tryz.underlying273
  a232 := Tryz.isAgg273
  z232 := Tryz.sizeOf273
  v232 := Tryz.zeroValue273
  t233 := Tryz.underlying274
  a233 := Tryz.isAgg274
  z233 := Tryz.sizeOf274
  v233 := Tryz.zeroValue274
  g17 := by kernel_rfl
  g18 := by kernel_rfl
  g19 := by kernel_rfl
  i0 := by kernel_rfl
  i2 := by kernel_rfl
  i3 := by kernel_rfl
  i4 := by kernel_rfl
  i5 := by kernel_rfl
  i9 := by kernel_rfl
  i20 := by kernel_rfl
  i37 := by kernel_rfl
  i46 := by kernel_rfl
  i51 := by kernel_rfl
  i53 := by kernel_rfl
  i171 := by kernel_rfl
  i173 := by kernel_rfl
  i212 := by kernel_rfl
  i232 := by kernel_rfl
  i233 := by kernel_rfl
  m17 := by kernel_rfl
  m18 := by kernel_rfl
  m19 := by kernel_rfl }
open Go.RowKit Go.Sort Go.Lib in
/-- strconv.Itoa: "Itoa is equivalent to FormatInt(int64(i), 10).": i's DECIMAL NUMERAL ('Lib.itoa': a '-' where i is negative, then the digits), FOR EVERY int. The world behind the call: the world before it, new blocks behind the heap (the library's 'var a [24]byte'), draws. (LAID: no walk: one application.) -/
theorem Tryz.strconv_Itoa (n : Int) (h0 : -9223372036854775808 ≤ n) (h1 : n ≤ 9223372036854775807) (w : World) (htab : Lib.TabIs Tryz.prog w O3 .u64 Lib.pow10Tab) :
    Calls Tryz.prog 98 #[.int .i64 n] w fun e w' => e =.returned (.string ⟨(Lib.itoa n).toArray⟩) ∧ ∃k os, w' = grow (w.drewN k) os := Any.strconv_Itoa Tryz.aml n h0 h1 w htab
end Go.Proofs
namespace Go.Abs
open Go.Proofs Go.RowKit Go.Lib
def G (w : World) : Prop := Lib.TabIs Tryz.prog w O3 .u64 Lib.pow10Tab
theorem akb {w : World} (h : G w) : Good G w := by
  refine ⟨h, fun w w' hg hw =>?_⟩;unfold G Lib.TabIs World.var? at hw ⊢;cases hn : Tryz.prog.globalNamed O3 with
  | none => rw [hn] at hw; cases hw
  | some g =>
    rw [hn] at hw;simp only [Option.bind_some] at hw ⊢;cases hb : w.heap[g]? with
    | none => rw [hb] at hw; cases hw
    | some o => rw [hg.keep g (tR hb)]; exact hw

theorem ZX : Tryz.prog.follows .mixedOrders = true := by kernel_rfl
noncomputable def S0 : Sys := { S with prim := fun _ _ => none, trig := fun _ _ => false }
theorem af8 : FP S0 G := ⟨ZX, fun _ _ h => h, fun f vs r h => (by cases h), fun _ _ _ _ _ _ h => (by cases h)⟩
theorem Jh {f : Nat} {fn : Func} (h : Tryz.prog.funcs[f]?= some fn) (hb : fn.body.isSome = true) (hn : (fn.name == "runtime.NumGoroutine") = false) : Enters Tryz.prog f := by
  cases hc : fn.body with
  | none => rw [hc] at hb; cases hb
  | some c => exact ⟨fn, c, h, hc, hn⟩

theorem XF {f n : Nat} {z i g z' : Nat} {b : BL} (he : Enters Tryz.prog f) (h1 : B1 S0 n f [.one (.p .nils)] = some (.one (.p .nils)))
    (h2 : yM S0 n f [.one (.hsl 0 0 z 0 0)] .all [] = some (.one (.hsl i g z' 0 0), b)) {fn : aX} (hfn : As Tryz.prog f = some fn) {args : List V} {r : RV} (h : OC args = some (some r)) :
    Enters Tryz.prog f ∧ ∀(w : World) (O : Nat → Prop) (ar : Array Value), Good G w → (∀c, O c → c < w.heap.size) → Pw (qN w O) args ar.toList → Calls Tryz.prog f ar w (tC w O r) :=
  ⟨he, aoC (S := S0) af8 (n := n) hfn ((MB S0 n).1 _ _ _ h1) ((MB S0 n).2 _ _ _ _ _ _ h2) h⟩

theorem OZ {α : Type} {x : Option α} (h : x.isSome = true) :∃y, x = some y := by
  cases x with
  | none => cases h
  | some y => exact ⟨y, rfl⟩

theorem amX :∀ {l : List Nat} {f : Nat}, EU l f = true → f ∈ l := by
  intro l
  induction l with
  | nil => intro f h; cases h
  | cons a l ih =>
    intro f h;simp only [EU] at h;cases hb : Nat.beq a f with
    | true => rw [Nat.eq_of_beq_eq_true hb]; simp
    | false => rw [hb] at h; exact List.mem_cons_of_mem _ (ih h)

theorem aim :∃e i, Tryz.prog.underlying 26 = some (.slice e) ∧ Tryz.prog.info? e = some i := by
  have h : (match Tryz.prog.underlying 26 with | some (.slice e) => (Tryz.prog.info? e).isSome | _ => false) = true := by kernel_rfl
  revert h;split
  · rename_i e he
    intro h;cases hi : Tryz.prog.info? e with
    | none => rw [hi] at h; cases h
    | some i => exact ⟨e, i, he, hi⟩
  · intro h; cases h
set_option maxHeartbeats 2000000 in
theorem ail (w : World) (a : Option Addr) (c : Nat) : Calls Tryz.prog 67 #[.slice a 0 c] w fun e w' =>∃b, e =.returned (.slice b 0 0) ∧ eZ w w' := by
  obtain ⟨el, i, ht, hi⟩ := aim;have q0 :∀(w : World) (a : Option Addr) (n c n' c' : Nat), (binOp .eql 26 (.slice a n c) (.slice none n' c')).run Tryz.prog w =.ok (.bool a.isNone) w := fun w a n c n' c' => Lib.run_eql_slice_nil w _ _ a n c n' c' ht;have u0 :∀w, Sem.run Tryz.prog (underlying 26) w =.ok (TypeDesc.slice el) w := run_underlying ht;have z0 :∀w, Sem.run Tryz.prog (sizeOf el) w =.ok i.size w := fun w => by simp [sizeOf, typeInfo, hi]
  cases a with
  | none =>
    go_enter Tryz.func67, Tryz.ntmps67
    go_wp2
    go_ret
    exact ⟨none, rfl, eZ.refl _⟩
  | some a =>
    go_enter Tryz.func67, Tryz.ntmps67
    go_wp2
    go_ret
    exact ⟨_, rfl, eZ.alloc _ _⟩
theorem aoE : WE S G := by
  intro f vs r h;have h : Ve f vs = some (some r) := h;unfold Ve at h;cases e1 : Nat.beq f 98 with
  | true =>rw [e1] at h;obtain rfl := Nat.eq_of_beq_eq_true e1;simp only [cond_true, Option.some.injEq] at h;exact ⟨Jh Tryz.func98 (by kernel_rfl) (by kernel_rfl), fun w O ar hg _ ha => aoD (G := G) (fun _ h => h) (fun n h0 h1 w ht => Tryz.strconv_Itoa n h0 h1 w ht) h w O ar hg ha⟩
  | false =>
    rw [e1] at h;simp only [cond_false] at h;cases e2 : Nat.beq f 184 with
    | true =>rw [e2] at h;obtain rfl := Nat.eq_of_beq_eq_true e2;simp only [cond_true, Option.some.injEq] at h;exact ⟨Jh Tryz.func184 (by kernel_rfl) (by kernel_rfl), fun w O ar _ _ ha => aoA (fun x w h0 h1 => Tryz.bits_Len x w h0 h1) h w O ar ha⟩
    | false =>
      rw [e2] at h;simp only [cond_false] at h;cases e4 : EU [40, 161] f with
      | false =>
        rw [e4] at h;simp only [cond_false] at h;cases e5 : Nat.beq f 67 with
        | false => rw [e5] at h; cases h
        | true =>rw [e5] at h;obtain rfl := Nat.eq_of_beq_eq_true e5;have h : OD vs = some (some r) := h;exact ⟨Jh Tryz.func67 (by kernel_rfl) (by kernel_rfl), fun w O ar hg hO ha => aoB ail h w O ar hg hO ha⟩
      | true =>
        rw [e4] at h;simp only [cond_true] at h;have hm := amX e4;simp only [List.mem_cons, List.not_mem_nil, or_false] at hm;rcases hm with rfl | rfl
        · obtain ⟨fn, hfn⟩ := OZ (x := As Tryz.prog 40) (by kernel_rfl)
          obtain ⟨⟨v, b⟩, hb⟩ := OZ (x := yM S0 9 40 [.one (.hsl 0 0 6 0 0)] .all []) (by kernel_rfl);have hv : (yM S0 9 40 [.one (.hsl 0 0 6 0 0)] .all []).map (·.1) = some (.one (.hsl 2560192128 1 6 0 0)) := by kernel_rfl
          rw [hb] at hv;cases hv;exact XF (Jh Tryz.func40 (by kernel_rfl) (by kernel_rfl)) (n := 9) (by kernel_rfl) hb hfn h
        · obtain ⟨fn, hfn⟩ := OZ (x := As Tryz.prog 161) (by kernel_rfl)
          obtain ⟨⟨v, b⟩, hb⟩ := OZ (x := yM S0 9 161 [.one (.hsl 0 0 7 0 0)] .all []) (by kernel_rfl);have hv : (yM S0 9 161 [.one (.hsl 0 0 7 0 0)] .all []).map (·.1) = some (.one (.hsl 10304192128 1 7 0 0)) := by kernel_rfl
          rw [hb] at hv;cases hv;exact XF (Jh Tryz.func161 (by kernel_rfl) (by kernel_rfl)) (n := 9) (by kernel_rfl) hb hfn h

theorem S_ok : FP S G := ⟨ZX, fun _ _ h => h, aoE, fun _ _ _ _ _ _ h => (by cases h)⟩
end Go.Abs
