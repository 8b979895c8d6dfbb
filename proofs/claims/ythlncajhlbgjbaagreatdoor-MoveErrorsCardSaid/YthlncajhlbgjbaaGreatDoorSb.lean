/-
  The system of the abstract machine is sound at this seat; library functions.
-/
import Derived.Shelf.Strings.OnBuilder
import Derived.Shelf.Small.Bits
import Derived.Shelf.Strconv.Itoa3
import Derived.Test.YthlncajhlbgjbaaGreatDoorProg
import Derived.Test.YthlncajhlbgjbaaGreatDoorRows
import Derived.Test.YthlncajhlbgjbaaGreatDoorSa
import Derived.LaidLaws
set_option linter.unusedSimpArgs false
set_option linter.unusedVariables false
set_option linter.unusedSectionVars false
namespace Go.Proofs
open Go.Shelf
/-- the name of the table of the powers of ten: the first that the row names -/
def tabName : String := YthlncajhlbgjbaaGreatDoor.Rows.moveErrorsRow.named.headD default
def Tryz.lays156_ren : Go.Shelf.Ren := ⟨fun | 156 => 38 | 165 => 58 | 166 => 59 | 169 => 60 | 240 => 84 | 241 => 85 | 276 => 124 | 277 => 125 | n => n, fun | 31 => 75 | 9 => 9 | 3 => 3 | 4 => 4 | 0 => 0 | 20 => 20 | 72 => 112 | 76 => 116 | 70 => 109 | 37 => 110 | 75 => 115 | 127 => 137 | 164 => 175 | 5 => 5 | 80 => 118 | n => n, fun | n => n⟩
theorem Tryz.lays156 : Go.Proofs.Lays.n156 Tryz.prog Tryz.lays156_ren := {
  mixed := by kernel_rfl
  f156 := Tryz.func38.trans (congrArg some (by kernel_rfl))
  f165 := Tryz.func58.trans (congrArg some (by kernel_rfl))
  f166 := Tryz.func59.trans (congrArg some (by kernel_rfl))
  f169 := Tryz.func60.trans (congrArg some (by kernel_rfl))
  f240 := Tryz.func84.trans (congrArg some (by kernel_rfl))
  f241 := Tryz.func85.trans (congrArg some (by kernel_rfl))
  f276 := Tryz.func124.trans (congrArg some (by kernel_rfl))
  f277 := Tryz.func125.trans (congrArg some (by kernel_rfl))
  t0 := Tryz.underlying0
  a0 := Tryz.isAgg0
  z0 := Tryz.sizeOf0
  v0 := Tryz.zeroValue0
  t3 := Tryz.underlying3
  a3 := Tryz.isAgg3
  z3 := Tryz.sizeOf3
  v3 := Tryz.zeroValue3
  t4 := Tryz.underlying4
  a4 := Tryz.isAgg4
  z4 := Tryz.sizeOf4
  v4 := Tryz.zeroValue4
  t9 := Tryz.underlying9
  a9 := Tryz.isAgg9
  z9 := Tryz.sizeOf9
  v9 := Tryz.zeroValue9
  t20 := Tryz.underlying20
  a20 := Tryz.isAgg20
  z20 := Tryz.sizeOf20
  v20 := Tryz.zeroValue20
  t31 := Tryz.underlying75
  a31 := Tryz.isAgg75
  z31 := Tryz.sizeOf75
  v31 := Tryz.zeroValue75
  t37 := Tryz.underlying110
  a37 := Tryz.isAgg110
  z37 := Tryz.sizeOf110
  v37 := Tryz.zeroValue110
  t70 := Tryz.underlying109
  a70 := Tryz.isAgg109
  z70 := Tryz.sizeOf109
  v70 := Tryz.zeroValue109
  t72 := Tryz.underlying112
  a72 := Tryz.isAgg112
  z72 := Tryz.sizeOf112
  v72 := Tryz.zeroValue112
  t75 := Tryz.underlying115
  a75 := Tryz.isAgg115
  z75 := Tryz.sizeOf115
  v75 := Tryz.zeroValue115
  t76 := Tryz.underlying116
  a76 := Tryz.isAgg116
  z76 := Tryz.sizeOf116
  v76 := Tryz.zeroValue116
  t127 := Tryz.underlying137
  a127 := Tryz.isAgg137
  z127 := Tryz.sizeOf137
  v127 := Tryz.zeroValue137
  t164 := Tryz.underlying175
  a164 := Tryz.isAgg175
  z164 := Tryz.sizeOf175
  v164 := Tryz.zeroValue175 }
theorem Tryz.Builder_Extra_156 : Builder.Extra Tryz.prog Tryz.lays156_ren := {
  sizeBuilder := by kernel_rfl
  liesBuilder := by kernel_rfl
  t5 := Tryz.underlying5
  a5 := Tryz.isAgg5
  z5 := Tryz.sizeOf5
  v5 := Tryz.zeroValue5
  infoByte := by kernel_rfl
  cellsByte := by kernel_rfl
  sizeByte := by kernel_rfl
  neB5 := by decide }
open Go.RowKit in
theorem Tryz.strings_Join_none (a : Option Addr) (c : Nat) (sep : ByteArray) (w : World) :
    Calls Tryz.prog 38 #[.slice a 0 c, .string sep] w fun e w' => e = .returned (.string ⟨#[]⟩) ∧ w' = w := Any.strings_Join_none Tryz.lays156 Tryz.Builder_Extra_156 a c sep w
open Go.RowKit in
theorem Tryz.strings_Join (bk o c : Nat) (xs : List ByteArray) (sep : ByteArray) (w : World) (hcells : ∀ (j : Nat) x, xs[j]? = some x → w.cell? ⟨bk, o + j, none⟩ = some (.string x)) (hbk : bk < w.heap.size) (hN : xs.length ≤ 140737488355328) (hcap : xs.length ≤ c) (hlen : (Lib.join (xs.map (·.data.toList)) sep.data.toList).length ≤ 140737488355328) :
    Calls Tryz.prog 38 #[.slice (some ⟨bk, o, none⟩) xs.length c, .string sep] w fun e w' => e = .returned (.string ⟨(Lib.join (xs.map (·.data.toList)) sep.data.toList).toArray⟩) ∧ Below w.heap.size w w' := Any.strings_Join Tryz.lays156 Tryz.Builder_Extra_156 bk o c xs sep w hcells hbk hN hcap hlen
def Tryz.lays125_ren : Go.Shelf.Ren := ⟨fun | 125 => 107 | 128 => 143 | 129 => 144 | n => n, fun | 46 => 161 | 3 => 3 | 51 => 193 | 53 => 170 | 4 => 4 | 5 => 5 | 9 => 9 | n => n, fun | n => n⟩
theorem Tryz.lays125 : Go.Proofs.Lays.n125 Tryz.prog Tryz.lays125_ren := {
  mixed := by kernel_rfl
  f125 := Tryz.func107.trans (congrArg some (by kernel_rfl))
  f128 := Tryz.func143.trans (congrArg some (by kernel_rfl))
  f129 := Tryz.func144.trans (congrArg some (by kernel_rfl))
  t3 := Tryz.underlying3
  a3 := Tryz.isAgg3
  z3 := Tryz.sizeOf3
  v3 := Tryz.zeroValue3
  t4 := Tryz.underlying4
  a4 := Tryz.isAgg4
  z4 := Tryz.sizeOf4
  v4 := Tryz.zeroValue4
  t5 := Tryz.underlying5
  a5 := Tryz.isAgg5
  z5 := Tryz.sizeOf5
  v5 := Tryz.zeroValue5
  t9 := Tryz.underlying9
  a9 := Tryz.isAgg9
  z9 := Tryz.sizeOf9
  v9 := Tryz.zeroValue9
  t46 := Tryz.underlying161
  a46 := Tryz.isAgg161
  z46 := Tryz.sizeOf161
  v46 := Tryz.zeroValue161
  t51 := Tryz.underlying193
  a51 := Tryz.isAgg193
  z51 := Tryz.sizeOf193
  v51 := Tryz.zeroValue193
  t53 := Tryz.underlying170
  a53 := Tryz.isAgg170
  z53 := Tryz.sizeOf170
  v53 := Tryz.zeroValue170 }
theorem Tryz.bits_Len (x : Int) (w : World) (h0 : 0 ≤ x) (h1 : x ≤ 18446744073709551615) :
    Calls Tryz.prog 107 #[.int .u64 x] w fun e w' => e = .returned (.int .i64 (Lib.bitLen x.toNat)) ∧ w' = w := Any.bits_Len Tryz.lays125 x w h0 h1
def Tryz.laysM171_ren : Go.Shelf.Ren := ⟨fun | 171 => 36 | 243 => 57 | 246 => 83 | 283 => 120 | 284 => 121 | 285 => 122 | 286 => 123 | 129 => 144 | 317 => 151 | 318 => 152 | 319 => 153 | 320 => 154 | 337 => 180 | 338 => 181 | n => n, fun | 3 => 3 | 9 => 9 | 2 => 2 | 4 => 4 | 171 => 169 | 0 => 0 | 53 => 170 | 37 => 110 | 5 => 5 | 173 => 173 | 212 => 202 | 51 => 193 | 20 => 20 | 213 => 203 | 46 => 161 | 232 => 229 | 233 => 230 | n => n, fun | 17 => 0 | 18 => 2 | 19 => 3 | n => n⟩
theorem Tryz.laysM171 : Go.Proofs.LaysM.n171 Tryz.prog Tryz.laysM171_ren := {
  mixed := by kernel_rfl
  f129 := Tryz.func144.trans (congrArg some (by kernel_rfl))
  f171 := Tryz.func36.trans (congrArg some (by kernel_rfl))
  f243 := Tryz.func57.trans (congrArg some (by kernel_rfl))
  f246 := Tryz.func83.trans (congrArg some (by kernel_rfl))
  f283 := Tryz.func120.trans (congrArg some (by kernel_rfl))
  f284 := Tryz.func121.trans (congrArg some (by kernel_rfl))
  f285 := Tryz.func122.trans (congrArg some (by kernel_rfl))
  f286 := Tryz.func123.trans (congrArg some (by kernel_rfl))
  f317 := Tryz.func151.trans (congrArg some (by kernel_rfl))
  f318 := Tryz.func152.trans (congrArg some (by kernel_rfl))
  f319 := Tryz.func153.trans (congrArg some (by kernel_rfl))
  f320 := Tryz.func154.trans (congrArg some (by kernel_rfl))
  f337 := Tryz.func180.trans (congrArg some (by kernel_rfl))
  f338 := Tryz.func181.trans (congrArg some (by kernel_rfl))
  t0 := Tryz.underlying0
  a0 := Tryz.isAgg0
  z0 := Tryz.sizeOf0
  v0 := Tryz.zeroValue0
  t2 := Tryz.underlying2
  a2 := Tryz.isAgg2
  z2 := Tryz.sizeOf2
  v2 := Tryz.zeroValue2
  t3 := Tryz.underlying3
  a3 := Tryz.isAgg3
  z3 := Tryz.sizeOf3
  v3 := Tryz.zeroValue3
  t4 := Tryz.underlying4
  a4 := Tryz.isAgg4
  z4 := Tryz.sizeOf4
  v4 := Tryz.zeroValue4
  t5 := Tryz.underlying5
  a5 := Tryz.isAgg5
  z5 := Tryz.sizeOf5
  v5 := Tryz.zeroValue5
  t9 := Tryz.underlying9
  a9 := Tryz.isAgg9
  z9 := Tryz.sizeOf9
  v9 := Tryz.zeroValue9
  t20 := Tryz.underlying20
  a20 := Tryz.isAgg20
  z20 := Tryz.sizeOf20
  v20 := Tryz.zeroValue20
  t37 := Tryz.underlying110
  a37 := Tryz.isAgg110
  z37 := Tryz.sizeOf110
  v37 := Tryz.zeroValue110
  t46 := Tryz.underlying161
  a46 := Tryz.isAgg161
  z46 := Tryz.sizeOf161
  v46 := Tryz.zeroValue161
  t51 := Tryz.underlying193
  a51 := Tryz.isAgg193
  z51 := Tryz.sizeOf193
  v51 := Tryz.zeroValue193
  t53 := Tryz.underlying170
  a53 := Tryz.isAgg170
  z53 := Tryz.sizeOf170
  v53 := Tryz.zeroValue170
  t171 := Tryz.underlying169
  a171 := Tryz.isAgg169
  z171 := Tryz.sizeOf169
  v171 := Tryz.zeroValue169
  t173 := Tryz.underlying173
  a173 := Tryz.isAgg173
  z173 := Tryz.sizeOf173
  v173 := Tryz.zeroValue173
  t212 := Tryz.underlying202
  a212 := Tryz.isAgg202
  z212 := Tryz.sizeOf202
  v212 := Tryz.zeroValue202
  t213 := Tryz.underlying203
  a213 := Tryz.isAgg203
  z213 := Tryz.sizeOf203
  t232 := Tryz.underlying229
  a232 := Tryz.isAgg229
  z232 := Tryz.sizeOf229
  v232 := Tryz.zeroValue229
  t233 := Tryz.underlying230
  a233 := Tryz.isAgg230
  z233 := Tryz.sizeOf230
  v233 := Tryz.zeroValue230
  g17 := by kernel_rfl
  g18 := by kernel_rfl
  g19 := by kernel_rfl
  i0 := by kernel_rfl
  i2 := by kernel_rfl
  i3 := by kernel_rfl
  i4 := by kernel_rfl
  i5 := by kernel_rfl
  i9 := by kernel_rfl
  i20 := by kernel_rfl
  i37 := by kernel_rfl
  i46 := by kernel_rfl
  i51 := by kernel_rfl
  i53 := by kernel_rfl
  i171 := by kernel_rfl
  i173 := by kernel_rfl
  i212 := by kernel_rfl
  i232 := by kernel_rfl
  i233 := by kernel_rfl
  m17 := by kernel_rfl
  m18 := by kernel_rfl
  m19 := by kernel_rfl }
open Go.RowKit Go.Sort Go.Lib in
theorem Tryz.strconv_Itoa (n : Int) (h0 : -9223372036854775808 ≤ n) (h1 : n ≤ 9223372036854775807) (w : World) (htab : Lib.TabIs Tryz.prog w tabName .u64 Lib.pow10Tab) :
    Calls Tryz.prog 36 #[.int .i64 n] w fun e w' => e = .returned (.string ⟨(Lib.itoa n).toArray⟩) ∧ ∃ k os, w' = grow (w.drewN k) os := Any.strconv_Itoa Tryz.laysM171 n h0 h1 w htab
end Go.Proofs
namespace Go.Abs
open Go.Proofs Go.RowKit
set_option maxRecDepth 100000
def G (w : World) : Prop := Lib.TabIs Tryz.prog w tabName .u64 Lib.pow10Tab
theorem good_of {w : World} (h : G w) : Good G w := by
  refine ⟨h, fun w w' hg hw => ?_⟩
  unfold G Lib.TabIs World.var? at hw ⊢
  cases hn : Tryz.prog.globalNamed tabName with
  | none => rw [hn] at hw; cases hw
  | some g =>
    rw [hn] at hw
    simp only [Option.bind_some] at hw ⊢
    cases hb : w.heap[g]? with
    | none => rw [hb] at hw; cases hw
    | some o => rw [hg.keep g (heap_lt hb)]; exact hw

theorem follow_ok : Tryz.prog.follows .mixedOrders = true := by kernel_rfl
noncomputable def S0 : Sys := { S with prim := fun _ _ => none }
theorem S0_ok : SysOk S0 G := ⟨follow_ok, fun _ _ h => h, fun f vs r h => by cases h⟩
theorem body_enters {f : Nat} {fn : Func} (h : Tryz.prog.funcs[f]? = some fn) (hb : fn.body.isSome = true) (hn : (fn.name == "runtime.NumGoroutine") = false) : Enters Tryz.prog f := by
  cases hc : fn.body with
  | none => rw [hc] at hb; cases hb
  | some c => exact ⟨fn, c, h, hc, hn⟩

theorem clone_prim {f n : Nat} {z i g z' : Nat} {b : BL} (he : Enters Tryz.prog f) (h1 : callPF S0 n f [.one (.p .nils)] = some (.one (.p (.sl []))))
    (h2 : callSF S0 n f [.one (.hsl 0 0 z 0 0)] .all [] = some (.one (.hsl i g z' 0 0), b)) {fn : IFn} (hfn : compF Tryz.prog f = some fn) {args : List V} {r : RV} (h : primClone args = some (some r)) :
    Enters Tryz.prog f ∧ ∀ (w : World) (O : Nat → Prop) (ar : Array Value), Good G w → (∀ c, O c → c < w.heap.size) → Pw (AVRel w O) args ar.toList → Calls Tryz.prog f ar w (PRes w O r) :=
  ⟨he, primClone_ok (S := S0) S0_ok (n := n) hfn ((callF_ok S0 n).1 _ _ _ h1) ((callF_ok S0 n).2 _ _ _ _ _ _ h2) h⟩

theorem some_isSome {α : Type} {x : Option α} (h : x.isSome = true) : ∃ y, x = some y := by
  cases x with
  | none => cases h
  | some y => exact ⟨y, rfl⟩

theorem memN_mem : ∀ {l : List Nat} {f : Nat}, memN l f = true → f ∈ l := by
  intro l
  induction l with
  | nil => intro f h; cases h
  | cons a l ih =>
    intro f h
    simp only [memN] at h
    cases hb : Nat.beq a f with
    | true => rw [Nat.eq_of_beq_eq_true hb]; simp
    | false => rw [hb] at h; exact List.mem_cons_of_mem _ (ih h)

theorem prim_ok : PrimOk S G := by
  intro f vs r h
  have h : prim0 f vs = some (some r) := h
  unfold prim0 at h
  cases e1 : Nat.beq f 36 with
  | true =>
    rw [e1] at h
    obtain rfl := Nat.eq_of_beq_eq_true e1
    simp only [cond_true, Option.some.injEq] at h
    exact ⟨body_enters Tryz.func36 (by kernel_rfl) (by kernel_rfl), fun w O ar hg _ ha => primItoa_ok (G := G) (fun _ h => h) (fun n h0 h1 w ht => Tryz.strconv_Itoa n h0 h1 w ht) h w O ar hg ha⟩
  | false =>
    rw [e1] at h
    simp only [cond_false] at h
    cases e2 : Nat.beq f 38 with
    | true =>
      rw [e2] at h
      obtain rfl := Nat.eq_of_beq_eq_true e2
      simp only [cond_true, Option.some.injEq] at h
      exact ⟨body_enters Tryz.func38 (by kernel_rfl) (by kernel_rfl), fun w O ar _ _ ha => primJoin_ok Tryz.strings_Join_none Tryz.strings_Join h w O ar ha⟩
    | false =>
      rw [e2] at h
      simp only [cond_false] at h
      cases e3 : Nat.beq f 107 with
      | true =>
        rw [e3] at h
        obtain rfl := Nat.eq_of_beq_eq_true e3
        simp only [cond_true, Option.some.injEq] at h
        exact ⟨body_enters Tryz.func107 (by kernel_rfl) (by kernel_rfl), fun w O ar _ _ ha => primBits_ok (fun x w h0 h1 => Tryz.bits_Len x w h0 h1) h w O ar ha⟩
      | false =>
        rw [e3] at h
        simp only [cond_false] at h
        cases e4 : memN [27, 95] f with
        | false => rw [e4] at h; cases h
        | true =>
          rw [e4] at h
          simp only [cond_true] at h
          have hm := memN_mem e4
          simp only [List.mem_cons, List.not_mem_nil, or_false] at hm
          rcases hm with rfl | rfl
          · obtain ⟨fn, hfn⟩ := some_isSome (x := compF Tryz.prog 27) (by kernel_rfl)
            obtain ⟨⟨v, b⟩, hb⟩ := some_isSome (x := callSF S0 9 27 [.one (.hsl 0 0 6 0 0)] .all []) (by kernel_rfl)
            have hv : (callSF S0 9 27 [.one (.hsl 0 0 6 0 0)] .all []).map (·.1) = some (.one (.hsl 1728192128 1 6 0 0)) := by kernel_rfl
            rw [hb] at hv
            cases hv
            exact clone_prim (body_enters Tryz.func27 (by kernel_rfl) (by kernel_rfl)) (n := 9) (by kernel_rfl) hb hfn h
          · obtain ⟨fn, hfn⟩ := some_isSome (x := compF Tryz.prog 95) (by kernel_rfl)
            obtain ⟨⟨v, b⟩, hb⟩ := some_isSome (x := callSF S0 9 95 [.one (.hsl 0 0 7 0 0)] .all []) (by kernel_rfl)
            have hv : (callSF S0 9 95 [.one (.hsl 0 0 7 0 0)] .all []).map (·.1) = some (.one (.hsl 6080192128 1 7 0 0)) := by kernel_rfl
            rw [hb] at hv
            cases hv
            exact clone_prim (body_enters Tryz.func95 (by kernel_rfl) (by kernel_rfl)) (n := 9) (by kernel_rfl) hb hfn h

theorem S_ok : SysOk S G := ⟨follow_ok, fun _ _ h => h, prim_ok⟩
end Go.Abs
