/- A part. -/
import Derived.Shelf.LaysM
import Derived.Shelf.Strings.OnBuilder
import Derived.Shelf.Small.Bits
import Derived.Shelf.Strconv.Itoa3
import Derived.Test.YtaajncoljnafjaaGreatDoorRows
import Derived.Test.YtaajncoljnafjaaGreatDoorSa
import Derived.Lib.SliceRun
import Derived.LaidLaws
set_option linter.all false
set_option maxRecDepth 100000
namespace Go.Proofs
open Go.Shelf Tryz
def Ty : String := YtaajncoljnafjaaGreatDoor.Rows.easeLevelsRow.named.headD default
def Tryz.arL : Go.Shelf.Ren := ⟨fun | 125 => 106 | 128 => 137 | 129 => 138 | n => n, fun | 46 => 171 | 3 => 3 | 51 => 193 | 53 => 195 | 4 => 4 | 5 => 5 | 9 => 9 | n => n, fun | n => n⟩
theorem Tryz.arK : Go.Proofs.Lays.n125 Tryz.prog Tryz.arL := {
  mixed := by kernel_rfl
  f125:=func106.trans (congrArg some Abs.ah)
  f128:=func137.trans (congrArg some Abs.ah)
  f129:=func138.trans (congrArg some Abs.ah)
  t3:=underlying3
  a3:=isAgg3
  z3:=sizeOf3
  v3:=zeroValue3
  t4:=underlying4
  a4:=isAgg4
  z4:=sizeOf4
  v4:=zeroValue4
  t5:=underlying5
  a5:=isAgg5
  z5:=sizeOf5
  v5:=zeroValue5
  t9:=underlying9
  a9:=isAgg9
  z9:=sizeOf9
  v9:=zeroValue9
  t46:=underlying171
  a46:=isAgg171
  z46:=sizeOf171
  v46:=zeroValue171
  t51:=underlying193
  a51:=isAgg193
  z51:=sizeOf193
  v51:=zeroValue193
  t53:=underlying195
  a53:=isAgg195
  z53:=sizeOf195
  v53:=zeroValue195 }
theorem Tryz.bits_Len (x : Int) (w : World) (h0 : 0 ≤ x) (h1 : x ≤ 18446744073709551615) :
    Calls Tryz.prog 106 #[.int .u64 x] w fun e w' => e =.returned (.int .i64 (Lib.bitLen x.toNat)) ∧ w' = w := Any.bits_Len Tryz.arK x w h0 h1
def Tryz.arN : Go.Shelf.Ren := ⟨fun | 171 => 73 | 243 => 100 | 246 => 125 | 283 => 158 | 284 => 159 | 285 => 160 | 286 => 161 | 129 => 138 | 317 => 189 | 318 => 190 | 319 => 191 | 320 => 192 | 337 => 203 | 338 => 204 | n => n, fun | 3 => 3 | 9 => 9 | 2 => 2 | 4 => 4 | 171 => 216 | 0 => 0 | 53 => 195 | 37 => 159 | 5 => 5 | 173 => 218 | 212 => 240 | 51 => 193 | 20 => 20 | 213 => 241 | 46 => 171 | 232 => 251 | 233 => 252 | n => n, fun | 17 => 0 | 18 => 1 | 19 => 2 | n => n⟩
theorem Tryz.arM : Go.Proofs.LaysM.n171 Tryz.prog Tryz.arN := {
  mixed := by kernel_rfl
  f129:=func138.trans (congrArg some Abs.ah)
  f171:=func73.trans (congrArg some Abs.ah)
  f243:=func100.trans (congrArg some Abs.ah)
  f246:=func125.trans (congrArg some Abs.ah)
  f283:=func158.trans (congrArg some Abs.ah)
  f284:=func159.trans (congrArg some Abs.ah)
  f285:=func160.trans (congrArg some Abs.ah)
  f286:=func161.trans (congrArg some Abs.ah)
  f317:=func189.trans (congrArg some Abs.ah)
  f318:=func190.trans (congrArg some Abs.ah)
  f319:=func191.trans (congrArg some Abs.ah)
  f320:=func192.trans (congrArg some Abs.ah)
  f337:=func203.trans (congrArg some Abs.ah)
  f338:=func204.trans (congrArg some Abs.ah)
  t0:=underlying0
  a0:=isAgg0
  z0:=sizeOf0
  v0:=zeroValue0
  t2:=underlying2
  a2:=isAgg2
  z2:=sizeOf2
  v2:=zeroValue2
  t3:=underlying3
  a3:=isAgg3
  z3:=sizeOf3
  v3:=zeroValue3
  t4:=underlying4
  a4:=isAgg4
  z4:=sizeOf4
  v4:=zeroValue4
  t5:=underlying5
  a5:=isAgg5
  z5:=sizeOf5
  v5:=zeroValue5
  t9:=underlying9
  a9:=isAgg9
  z9:=sizeOf9
  v9:=zeroValue9
  t20:=underlying20
  a20:=isAgg20
  z20:=sizeOf20
  v20:=zeroValue20
  t37:=underlying159
  a37:=isAgg159
  z37:=sizeOf159
  v37:=zeroValue159
  t46:=underlying171
  a46:=isAgg171
  z46:=sizeOf171
  v46:=zeroValue171
  t51:=underlying193
  a51:=isAgg193
  z51:=sizeOf193
  v51:=zeroValue193
  t53:=underlying195
  a53:=isAgg195
  z53:=sizeOf195
  v53:=zeroValue195
  t171:=underlying216
  a171:=isAgg216
  z171:=sizeOf216
  v171:=zeroValue216
  t173:=underlying218
  a173:=isAgg218
  z173:=sizeOf218
  v173:=zeroValue218
  t212:=underlying240
  a212:=isAgg240
  z212:=sizeOf240
  v212:=zeroValue240
  t213:=underlying241
  a213:=isAgg241
  z213:=sizeOf241
  t232:=underlying251
  a232:=isAgg251
  z232:=sizeOf251
  v232:=zeroValue251
  t233:=underlying252
  a233:=isAgg252
  z233:=sizeOf252
  v233:=zeroValue252
  g17 := by kernel_rfl
  g18 := by kernel_rfl
  g19 := by kernel_rfl
  i0 := by kernel_rfl
  i2 := by kernel_rfl
  i3 := by kernel_rfl
  i4 := by kernel_rfl
  i5 := by kernel_rfl
  i9 := by kernel_rfl
  i20 := by kernel_rfl
  i37 := by kernel_rfl
  i46 := by kernel_rfl
  i51 := by kernel_rfl
  i53 := by kernel_rfl
  i171 := by kernel_rfl
  i173 := by kernel_rfl
  i212 := by kernel_rfl
  i232 := by kernel_rfl
  i233 := by kernel_rfl
  m17 := by kernel_rfl
  m18 := by kernel_rfl
  m19 := by kernel_rfl }
open Go.RowKit Go.Sort Go.Lib in
theorem Tryz.strconv_Itoa (n : Int) (h0 : -9223372036854775808 ≤ n) (h1 : n ≤ 9223372036854775807) (w : World) (htab : Lib.TabIs Tryz.prog w Ty .u64 Lib.pow10Tab) :
    Calls Tryz.prog 73 #[.int .i64 n] w fun e w' => e =.returned (.string ⟨(Lib.itoa n).toArray⟩) ∧ ∃k os, w' = grow (w.drewN k) os := Any.strconv_Itoa Tryz.arM n h0 h1 w htab
end Go.Proofs
namespace Go.Abs
open Go.Proofs Go.RowKit Go.Lib
def G (w : World) : Prop := Lib.TabIs Tryz.prog w Ty .u64 Lib.pow10Tab
theorem apu {w : World} (h : G w) : Good G w := by
  refine⟨h, fun w w' hg hw =>?_⟩;unfold G Lib.TabIs World.var? at hw⊢;cases hn : Tryz.prog.globalNamed Ty with
  | none => rw [hn]at hw; cases hw
  | some g =>
    rw [hn]at hw;simp only [Option.bind_some]at hw⊢;cases hb : w.heap[g]? with
    | none => rw [hb]at hw; cases hw
    | some o => rw [hg.keep g (wZ hb)]; exact hw

theorem aer : Tryz.prog.follows .mixedOrders = true := by kernel_rfl
noncomputable def S0 : Sys := { S with prim := fun _ _ => none, trig := fun _ _ => false }
theorem akS : Jn S0 G := ⟨aer, fun _ _ h => h, fun f vs r h => (by cases h), fun _ _ _ _ _ _ h => (by cases h)⟩
theorem MF {f : Nat}{fn : Func} (h : Tryz.prog.funcs[f]?= some fn) (hb : fn.body.isSome = true) (hn : (fn.name == "runtime.NumGoroutine") = false) : Enters Tryz.prog f := by
  cases hc : fn.body with
  | none => rw [hc]at hb; cases hb
  | some c => exact⟨fn, c, h, hc, hn⟩

theorem abP {f n : Nat}{z i g z' : Nat}{b : BL} (he : Enters Tryz.prog f) (h1 : GZ S0 n f [.one (.p .nils)] = some (.one (.p .nils)))
    (h2 : BM S0 n f [.one (.hsl 0 0 z 0 0)] .all [] = some (.one (.hsl i g z' 0 0), b)) {fn : bd} (hfn : DG Tryz.prog f = some fn) {args : List V}{r : RV} (h : SY args = some (some r)) :
    Enters Tryz.prog f ∧ ∀(w : World) (O : Nat → Prop) (ar : Array Value), Good G w → (∀c, O c → c < w.heap.size) → Pw (tK w O) args ar.toList → Calls Tryz.prog f ar w (wL w O r) :=
  ⟨he, aur (S := S0) akS (n := n) hfn ((UC S0 n).1 _ _ _ h1) ((UC S0 n).2 _ _ _ _ _ _ h2) h⟩

theorem Ts {α : Type}{x : Option α} (h : x.isSome = true) :∃y, x = some y := by
  cases x with
  | none => cases h
  | some y => exact⟨y, rfl⟩

theorem asA :∀ {l : List Nat}{f : Nat}, Gg l f = true → f ∈ l := by
  intro l
  induction l with
  | nil => intro f h; cases h
  | cons a l ih =>
    intro f h;simp only [Gg]at h;cases hb : Nat.beq a f with
    | true => rw [Nat.eq_of_beq_eq_true hb]; simp
    | false => rw [hb]at h; exact List.mem_cons_of_mem _ (ih h)

theorem anA :∃e i, Tryz.prog.underlying 31 = some (.slice e) ∧ Tryz.prog.info? e = some i := by
  have h : (match Tryz.prog.underlying 31 with | some (.slice e) => (Tryz.prog.info? e).isSome | _ => false) = true := by kernel_rfl
  revert h;split
  · rename_i e he
    intro h;cases hi : Tryz.prog.info? e with
    | none => rw [hi]at h; cases h
    | some i => exact⟨e, i, he, hi⟩
  · intro h; cases h
set_option maxHeartbeats 2000000 in
theorem anz (w : World) (a : Option Addr) (c : Nat) : Calls Tryz.prog 45 #[.slice a 0 c] w fun e w' =>∃b, e =.returned (.slice b 0 0) ∧ fU w w' := by
  obtain⟨el, i, ht, hi⟩ := anA;have q0 :∀(w : World) (a : Option Addr) (n c n' c' : Nat), (binOp .eql 31 (.slice a n c) (.slice none n' c')).run Tryz.prog w =.ok (.bool a.isNone) w := fun w a n c n' c' => Lib.run_eql_slice_nil w _ _ a n c n' c' ht;have u0 :∀w, Sem.run Tryz.prog (underlying 31) w =.ok (TypeDesc.slice el) w := run_underlying ht;have z0 :∀w, Sem.run Tryz.prog (sizeOf el) w =.ok i.size w := fun w => by simp [sizeOf, typeInfo, hi]
  cases a with
  | none =>
    go_enter Tryz.func45, Tryz.ntmps45
    go_wp2
    go_ret
    exact⟨none, rfl, fU.refl _⟩
  | some a =>
    go_enter Tryz.func45, Tryz.ntmps45
    go_wp2
    go_ret
    exact⟨_, rfl, fU.alloc _ _⟩
theorem aut : aaM S G := by
  intro f vs r h;have h : Zu f vs = some (some r) := h;unfold Zu at h;cases e1 : Nat.beq f 73 with
  | true =>rw [e1]at h;obtain rfl := Nat.eq_of_beq_eq_true e1;simp only [cond_true, Option.some.injEq]at h;exact⟨MF Tryz.func73 Abs.ah Abs.ah, fun w O ar hg _ ha => aus (G := G) (fun _ h => h) (fun n h0 h1 w ht => Tryz.strconv_Itoa n h0 h1 w ht) h w O ar hg ha⟩
  | false =>
    rw [e1]at h;simp only [cond_false]at h;cases e2 : Nat.beq f 106 with
    | true =>rw [e2]at h;obtain rfl := Nat.eq_of_beq_eq_true e2;simp only [cond_true, Option.some.injEq]at h;exact⟨MF Tryz.func106 Abs.ah Abs.ah, fun w O ar _ _ ha => aup (fun x w h0 h1 => Tryz.bits_Len x w h0 h1) h w O ar ha⟩
    | false =>
      rw [e2]at h;simp only [cond_false]at h;cases e4 : Gg [60, 147] f with
      | false =>
        rw [e4]at h;simp only [cond_false]at h;cases e5 : Nat.beq f 45 with
        | false => rw [e5]at h; cases h
        | true =>rw [e5]at h;obtain rfl := Nat.eq_of_beq_eq_true e5;have h : SZ vs = some (some r) := h;exact⟨MF Tryz.func45 Abs.ah Abs.ah, fun w O ar hg hO ha => auq anz h w O ar hg hO ha⟩
      | true =>
        rw [e4]at h;simp only [cond_true]at h;have hm := asA e4;simp only [List.mem_cons, List.not_mem_nil, or_false]at hm;rcases hm with rfl | rfl
        · obtain⟨fn, hfn⟩ := Ts (x := DG Tryz.prog 60) Abs.ah
          obtain⟨⟨v, b⟩, hb⟩ := Ts (x := BM S0 9 60 [.one (.hsl 0 0 6 0 0)] .all []) Abs.ah;have hv : (BM S0 9 60 [.one (.hsl 0 0 6 0 0)] .all []).map (·.1) = some (.one (.hsl 3840192128 1 6 0 0)) := by kernel_rfl
          rw [hb]at hv;cases hv;exact abP (MF Tryz.func60 Abs.ah Abs.ah) (n := 9) Abs.ah hb hfn h
        · obtain⟨fn, hfn⟩ := Ts (x := DG Tryz.prog 147) Abs.ah
          obtain⟨⟨v, b⟩, hb⟩ := Ts (x := BM S0 9 147 [.one (.hsl 0 0 7 0 0)] .all []) Abs.ah;have hv : (BM S0 9 147 [.one (.hsl 0 0 7 0 0)] .all []).map (·.1) = some (.one (.hsl 9408192128 1 7 0 0)) := by kernel_rfl
          rw [hb]at hv;cases hv;exact abP (MF Tryz.func147 Abs.ah Abs.ah) (n := 9) Abs.ah hb hfn h

theorem S_ok : Jn S G := ⟨aer, fun _ _ h => h, aut, fun _ _ _ _ _ _ h => (by cases h)⟩
end Go.Abs
