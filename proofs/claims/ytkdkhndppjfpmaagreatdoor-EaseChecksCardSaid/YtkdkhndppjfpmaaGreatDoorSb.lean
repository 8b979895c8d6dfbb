/-
  The system is sound at this seat.
-/
import Derived.Shelf.LaysM
import Derived.Shelf.Strings.OnBuilder
import Derived.Shelf.Small.Bits
import Derived.Shelf.Strconv.Itoa3
import Derived.Test.YtkdkhndppjfpmaaGreatDoorRows
import Derived.Test.YtkdkhndppjfpmaaGreatDoorSa
import Derived.Lib.SliceRun
import Derived.LaidLaws
set_option linter.all false
set_option maxRecDepth 100000
namespace Go.Proofs
open Go.Shelf
/-- the name of the table of the powers of ten: the first that the row names -/
def VC : String := YtkdkhndppjfpmaaGreatDoor.Rows.easeChecksRow.named.headD default
def Tryz.atY : Go.Shelf.Ren := ⟨fun | 125 => 193 | 128 => 217 | 129 => 205 | n => n, fun | 46 => 234 | 3 => 3 | 51 => 243 | 53 => 227 | 4 => 4 | 5 => 5 | 9 => 9 | n => n, fun | n => n⟩
theorem Tryz.atX : Go.Proofs.Lays.n125 Tryz.prog Tryz.atY := {
  mixed := by kernel_rfl
  f125 := Tryz.func193.trans (congrArg some (by kernel_rfl))
  f128 := Tryz.func217.trans (congrArg some (by kernel_rfl))
  f129 := Tryz.func205.trans (congrArg some (by kernel_rfl))
  t3 := Tryz.underlying3
  a3 := Tryz.isAgg3
  z3 := Tryz.sizeOf3
  v3 := Tryz.zeroValue3
  t4 := Tryz.underlying4
  a4 := Tryz.isAgg4
  z4 := Tryz.sizeOf4
  v4 := Tryz.zeroValue4
  t5 := Tryz.underlying5
  a5 := Tryz.isAgg5
  z5 := Tryz.sizeOf5
  v5 := Tryz.zeroValue5
  t9 := Tryz.underlying9
  a9 := Tryz.isAgg9
  z9 := Tryz.sizeOf9
  v9 := Tryz.zeroValue9
  t46 := Tryz.underlying234
  a46 := Tryz.isAgg234
  z46 := Tryz.sizeOf234
  v46 := Tryz.zeroValue234
  t51 := Tryz.underlying243
  a51 := Tryz.isAgg243
  z51 := Tryz.sizeOf243
  v51 := Tryz.zeroValue243
  t53 := Tryz.underlying227
  a53 := Tryz.isAgg227
  z53 := Tryz.sizeOf227
  v53 := Tryz.zeroValue227 }
/-- bits.Len: "Len returns the minimum number of bits required to represent x; the result is 0 for x == 0.": IT RETURNS 'Lib.bitLen x'; the world is as it was. (A uint has 64 bits in the model.) ITS CALLEE bits.Len64 IS MET BY ITS OWN CONTRACT OFF THE SHELF (lay that first). (LAID: no walk: one application.) -/
theorem Tryz.bits_Len (x : Int) (w : World) (h0 : 0 ≤ x) (h1 : x ≤ 18446744073709551615) :
    Calls Tryz.prog 193 #[.int .u64 x] w fun e w' => e =.returned (.int .i64 (Lib.bitLen x.toNat)) ∧ w' = w := Any.bits_Len Tryz.atX x w h0 h1
def Tryz.at0 : Go.Shelf.Ren := ⟨fun | 171 => 97 | 243 => 125 | 246 => 157 | 283 => 188 | 284 => 189 | 285 => 190 | 286 => 191 | 129 => 205 | 317 => 204 | 318 => 206 | 319 => 207 | 320 => 208 | 337 => 231 | 338 => 232 | n => n, fun | 3 => 3 | 9 => 9 | 2 => 2 | 4 => 4 | 171 => 226 | 0 => 0 | 53 => 227 | 37 => 152 | 5 => 5 | 173 => 230 | 212 => 242 | 51 => 243 | 20 => 20 | 213 => 244 | 46 => 234 | 232 => 275 | 233 => 276 | n => n, fun | 17 => 0 | 18 => 1 | 19 => 2 | n => n⟩
theorem Tryz.atZ : Go.Proofs.LaysM.n171 Tryz.prog Tryz.at0 := {
  mixed := by kernel_rfl
  f129 := Tryz.func205.trans (congrArg some (by kernel_rfl))
  f171 := Tryz.func97.trans (congrArg some (by kernel_rfl))
  f243 := Tryz.func125.trans (congrArg some (by kernel_rfl))
  f246 := Tryz.func157.trans (congrArg some (by kernel_rfl))
  f283 := Tryz.func188.trans (congrArg some (by kernel_rfl))
  f284 := Tryz.func189.trans (congrArg some (by kernel_rfl))
  f285 := Tryz.func190.trans (congrArg some (by kernel_rfl))
  f286 := Tryz.func191.trans (congrArg some (by kernel_rfl))
  f317 := Tryz.func204.trans (congrArg some (by kernel_rfl))
  f318 := Tryz.func206.trans (congrArg some (by kernel_rfl))
  f319 := Tryz.func207.trans (congrArg some (by kernel_rfl))
  f320 := Tryz.func208.trans (congrArg some (by kernel_rfl))
  f337 := Tryz.func231.trans (congrArg some (by kernel_rfl))
  f338 := Tryz.func232.trans (congrArg some (by kernel_rfl))
  t0 := Tryz.underlying0
  a0 := Tryz.isAgg0
  z0 := Tryz.sizeOf0
  v0 := Tryz.zeroValue0
  t2 := Tryz.underlying2
  a2 := Tryz.isAgg2
  z2 := Tryz.sizeOf2
  v2 := Tryz.zeroValue2
  t3 := Tryz.underlying3
  a3 := Tryz.isAgg3
  z3 := Tryz.sizeOf3
  v3 := Tryz.zeroValue3
  t4 := Tryz.underlying4
  a4 := Tryz.isAgg4
  z4 := Tryz.sizeOf4
  v4 := Tryz.zeroValue4
  t5 := Tryz.underlying5
  a5 := Tryz.isAgg5
  z5 := Tryz.sizeOf5
  v5 := Tryz.zeroValue5
  t9 := Tryz.underlying9
  a9 := Tryz.isAgg9
  z9 := Tryz.sizeOf9
  v9 := Tryz.zeroValue9
  t20 := Tryz.underlying20
  a20 := Tryz.isAgg20
  z20 := Tryz.sizeOf20
  v20 := Tryz.zeroValue20
  t37 := Tryz.underlying152
  a37 := Tryz.isAgg152
  z37 := Tryz.sizeOf152
  v37 := Tryz.zeroValue152
  t46 := Tryz.underlying234
  a46 := Tryz.isAgg234
  z46 := Tryz.sizeOf234
  v46 := Tryz.zeroValue234
  t51 := Tryz.underlying243
  a51 := Tryz.isAgg243
  z51 := Tryz.sizeOf243
  v51 := Tryz.zeroValue243
  t53 := Tryz.underlying227
  a53 := Tryz.isAgg227
  z53 := Tryz.sizeOf227
  v53 := Tryz.zeroValue227
  t171 := Tryz.underlying226
  a171 := Tryz.isAgg226
  z171 := Tryz.sizeOf226
  v171 := Tryz.zeroValue226
  t173 := Tryz.underlying230
  a173 := Tryz.isAgg230
  z173 := Tryz.sizeOf230
  v173 := Tryz.zeroValue230
  t212 := Tryz.underlying242
  a212 := Tryz.isAgg242
  z212 := Tryz.sizeOf242
  v212 := Tryz.zeroValue242
  t213 := Tryz.underlying244
  a213 := Tryz.isAgg244
  z213 := Tryz.sizeOf244
  t232 := Tryz.underlying275
  a232 := Tryz.isAgg275
  z232 := Tryz.sizeOf275
  v232 := Tryz.zeroValue275
  t233 := Tryz.underlying276
  a233 := Tryz.isAgg276
  z233 := Tryz.sizeOf276
  v233 := Tryz.zeroValue276
  g17 := by kernel_rfl
  g18 := by kernel_rfl
  g19 := by kernel_rfl
  i0 := by kernel_rfl
  i2 := by kernel_rfl
  i3 := by kernel_rfl
  i4 := by kernel_rfl
  i5 := by kernel_rfl
  i9 := by kernel_rfl
  i20 := by kernel_rfl
  i37 := by kernel_rfl
  i46 := by kernel_rfl
  i51 := by kernel_rfl
  i53 := by kernel_rfl
  i171 := by kernel_rfl
  i173 := by kernel_rfl
  i212 := by kernel_rfl
  i232 := by kernel_rfl
  i233 := by kernel_rfl
  m17 := by kernel_rfl
  m18 := by kernel_rfl
  m19 := by kernel_rfl }
open Go.RowKit Go.Sort Go.Lib in
/-- strconv.Itoa: "Itoa is equivalent to FormatInt(int64(i), 10).": i's DECIMAL NUMERAL ('Lib.itoa': a '-' where i is negative, then the digits), FOR EVERY int. The world behind the call: the world before it, new blocks behind the heap (the library's 'var a [24]byte'), draws. (LAID: no walk: one application.) -/
theorem Tryz.strconv_Itoa (n : Int) (h0 : -9223372036854775808 ≤ n) (h1 : n ≤ 9223372036854775807) (w : World) (htab : Lib.TabIs Tryz.prog w VC .u64 Lib.pow10Tab) :
    Calls Tryz.prog 97 #[.int .i64 n] w fun e w' => e =.returned (.string ⟨(Lib.itoa n).toArray⟩) ∧ ∃k os, w' = grow (w.drewN k) os := Any.strconv_Itoa Tryz.atZ n h0 h1 w htab
end Go.Proofs
namespace Go.Abs
open Go.Proofs Go.RowKit Go.Lib
def G (w : World) : Prop := Lib.TabIs Tryz.prog w VC .u64 Lib.pow10Tab
theorem arU {w : World} (h : G w) : Good G w := by
  refine⟨h, fun w w' hg hw =>?_⟩;unfold G Lib.TabIs World.var? at hw⊢;cases hn : Tryz.prog.globalNamed VC with
  | none => rw [hn]at hw; cases hw
  | some g =>
    rw [hn]at hw;simp only [Option.bind_some]at hw⊢;cases hb : w.heap[g]? with
    | none => rw [hb]at hw; cases hw
    | some o => rw [hg.keep g (yI hb)]; exact hw

theorem agn : Tryz.prog.follows .mixedOrders = true := by kernel_rfl
noncomputable def S0 : Sys := { S with prim := fun _ _ => none, trig := fun _ _ => false }
theorem ani : KZ S0 G := ⟨agn, fun _ _ h => h, fun f vs r h => (by cases h), fun _ _ _ _ _ _ h => (by cases h)⟩
theorem Om {f : Nat}{fn : Func} (h : Tryz.prog.funcs[f]?= some fn) (hb : fn.body.isSome = true) (hn : (fn.name == "runtime.NumGoroutine") = false) : Enters Tryz.prog f := by
  cases hc : fn.body with
  | none => rw [hc]at hb; cases hb
  | some c => exact⟨fn, c, h, hc, hn⟩

theorem aeV {f n : Nat}{z i g z' : Nat}{b : BL} (he : Enters Tryz.prog f) (h1 : Hm S0 n f [.one (.p .nils)] = some (.one (.p .nils)))
    (h2 : DV S0 n f [.one (.hsl 0 0 z 0 0)] .all [] = some (.one (.hsl i g z' 0 0), b)) {fn : aX} (hfn : FH Tryz.prog f = some fn) {args : List V}{r : RV} (h : U8 args = some (some r)) :
    Enters Tryz.prog f ∧ ∀(w : World) (O : Nat → Prop) (ar : Array Value), Good G w → (∀c, O c → c < w.heap.size) → Pw (uL w O) args ar.toList → Calls Tryz.prog f ar w (yy w O r) :=
  ⟨he, awi (S := S0) ani (n := n) hfn ((Sv S0 n).1 _ _ _ h1) ((Sv S0 n).2 _ _ _ _ _ _ h2) h⟩

theorem Vz {α : Type}{x : Option α} (h : x.isSome = true) :∃y, x = some y := by
  cases x with
  | none => cases h
  | some y => exact⟨y, rfl⟩

theorem auT :∀ {l : List Nat}{f : Nat}, IA l f = true → f ∈ l := by
  intro l
  induction l with
  | nil => intro f h; cases h
  | cons a l ih =>
    intro f h;simp only [IA]at h;cases hb : Nat.beq a f with
    | true => rw [Nat.eq_of_beq_eq_true hb]; simp
    | false => rw [hb]at h; exact List.mem_cons_of_mem _ (ih h)

theorem apS :∃e i, Tryz.prog.underlying 25 = some (.slice e) ∧ Tryz.prog.info? e = some i := by
  have h : (match Tryz.prog.underlying 25 with | some (.slice e) => (Tryz.prog.info? e).isSome | _ => false) = true := by kernel_rfl
  revert h;split
  · rename_i e he
    intro h;cases hi : Tryz.prog.info? e with
    | none => rw [hi]at h; cases h
    | some i => exact⟨e, i, he, hi⟩
  · intro h; cases h
set_option maxHeartbeats 2000000 in
theorem apR (w : World) (a : Option Addr) (c : Nat) : Calls Tryz.prog 62 #[.slice a 0 c] w fun e w' =>∃b, e =.returned (.slice b 0 0) ∧ jP w w' := by
  obtain⟨el, i, ht, hi⟩ := apS;have q0 :∀(w : World) (a : Option Addr) (n c n' c' : Nat), (binOp .eql 25 (.slice a n c) (.slice none n' c')).run Tryz.prog w =.ok (.bool a.isNone) w := fun w a n c n' c' => Lib.run_eql_slice_nil w _ _ a n c n' c' ht;have u0 :∀w, Sem.run Tryz.prog (underlying 25) w =.ok (TypeDesc.slice el) w := run_underlying ht;have z0 :∀w, Sem.run Tryz.prog (sizeOf el) w =.ok i.size w := fun w => by simp [sizeOf, typeInfo, hi]
  cases a with
  | none =>
    go_enter Tryz.func62, Tryz.ntmps62
    go_wp2
    go_ret
    exact⟨none, rfl, jP.refl _⟩
  | some a =>
    go_enter Tryz.func62, Tryz.ntmps62
    go_wp2
    go_ret
    exact⟨_, rfl, jP.alloc _ _⟩
theorem awk : adI S G := by
  intro f vs r h;have h : acd f vs = some (some r) := h;unfold acd at h;cases e1 : Nat.beq f 97 with
  | true =>rw [e1]at h;obtain rfl := Nat.eq_of_beq_eq_true e1;simp only [cond_true, Option.some.injEq]at h;exact⟨Om Tryz.func97 (by kernel_rfl) (by kernel_rfl), fun w O ar hg _ ha => awj (G := G) (fun _ h => h) (fun n h0 h1 w ht => Tryz.strconv_Itoa n h0 h1 w ht) h w O ar hg ha⟩
  | false =>
    rw [e1]at h;simp only [cond_false]at h;cases e2 : Nat.beq f 193 with
    | true =>rw [e2]at h;obtain rfl := Nat.eq_of_beq_eq_true e2;simp only [cond_true, Option.some.injEq]at h;exact⟨Om Tryz.func193 (by kernel_rfl) (by kernel_rfl), fun w O ar _ _ ha => awg (fun x w h0 h1 => Tryz.bits_Len x w h0 h1) h w O ar ha⟩
    | false =>
      rw [e2]at h;simp only [cond_false]at h;cases e4 : IA [53, 177] f with
      | false =>
        rw [e4]at h;simp only [cond_false]at h;cases e5 : Nat.beq f 62 with
        | false => rw [e5]at h; cases h
        | true =>rw [e5]at h;obtain rfl := Nat.eq_of_beq_eq_true e5;have h : U9 vs = some (some r) := h;exact⟨Om Tryz.func62 (by kernel_rfl) (by kernel_rfl), fun w O ar hg hO ha => awh apR h w O ar hg hO ha⟩
      | true =>
        rw [e4]at h;simp only [cond_true]at h;have hm := auT e4;simp only [List.mem_cons, List.not_mem_nil, or_false]at hm;rcases hm with rfl | rfl
        · obtain⟨fn, hfn⟩ := Vz (x := FH Tryz.prog 53) (by kernel_rfl)
          obtain⟨⟨v, b⟩, hb⟩ := Vz (x := DV S0 9 53 [.one (.hsl 0 0 6 0 0)] .all []) (by kernel_rfl);have hv : (DV S0 9 53 [.one (.hsl 0 0 6 0 0)] .all []).map (·.1) = some (.one (.hsl 3392192128 1 6 0 0)) := by kernel_rfl
          rw [hb]at hv;cases hv;exact aeV (Om Tryz.func53 (by kernel_rfl) (by kernel_rfl)) (n := 9) (by kernel_rfl) hb hfn h
        · obtain⟨fn, hfn⟩ := Vz (x := FH Tryz.prog 177) (by kernel_rfl)
          obtain⟨⟨v, b⟩, hb⟩ := Vz (x := DV S0 9 177 [.one (.hsl 0 0 7 0 0)] .all []) (by kernel_rfl);have hv : (DV S0 9 177 [.one (.hsl 0 0 7 0 0)] .all []).map (·.1) = some (.one (.hsl 11328192128 1 7 0 0)) := by kernel_rfl
          rw [hb]at hv;cases hv;exact aeV (Om Tryz.func177 (by kernel_rfl) (by kernel_rfl)) (n := 9) (by kernel_rfl) hb hfn h

theorem S_ok : KZ S G := ⟨agn, fun _ _ h => h, awk, fun _ _ _ _ _ _ h => (by cases h)⟩
end Go.Abs
