/-
  The system is sound at this seat.
-/
import Derived.Shelf.SlSortCmp.NoneTotal
import Derived.Ground.SlsfProg
import Derived.Shelf.LaysM
import Derived.Shelf.Strings.OnBuilder
import Derived.Shelf.Small.Bits
import Derived.Shelf.Strconv.Itoa3
import Derived.Test.YtfgognempokgkaaGreatDoorRows
import Derived.Test.YtfgognempokgkaaGreatDoorSa
import Derived.LaidLaws
set_option linter.all false
set_option maxRecDepth 100000
namespace Go.Proofs
open Go.Shelf
/-- the name of the table of the powers of ten: the first that the row names -/
def Jb : String := YtfgognempokgkaaGreatDoor.Rows.moveCountsRow.named.headD default
def Tryz.TK : Go.Shelf.Ren := ⟨fun | 156 => 30 | 165 => 46 | 166 => 47 | 169 => 48 | 240 => 72 | 241 => 73 | 276 => 105 | 277 => 106 | n => n, fun | 31 => 60 | 9 => 9 | 3 => 3 | 4 => 4 | 0 => 0 | 20 => 20 | 72 => 96 | 76 => 100 | 70 => 93 | 37 => 94 | 75 => 99 | 127 => 119 | 164 => 152 | 5 => 5 | 80 => 102 | n => n, fun | n => n⟩
theorem Tryz.TJ : Go.Proofs.Lays.n156 Tryz.prog Tryz.TK := {
  mixed := by kernel_rfl
  f156 := Tryz.func30.trans (congrArg some (by kernel_rfl))
  f165 := Tryz.func46.trans (congrArg some (by kernel_rfl))
  f166 := Tryz.func47.trans (congrArg some (by kernel_rfl))
  f169 := Tryz.func48.trans (congrArg some (by kernel_rfl))
  f240 := Tryz.func72.trans (congrArg some (by kernel_rfl))
  f241 := Tryz.func73.trans (congrArg some (by kernel_rfl))
  f276 := Tryz.func105.trans (congrArg some (by kernel_rfl))
  f277 := Tryz.func106.trans (congrArg some (by kernel_rfl))
  t0 := Tryz.underlying0
  a0 := Tryz.isAgg0
  z0 := Tryz.sizeOf0
  v0 := Tryz.zeroValue0
  t3 := Tryz.underlying3
  a3 := Tryz.isAgg3
  z3 := Tryz.sizeOf3
  v3 := Tryz.zeroValue3
  t4 := Tryz.underlying4
  a4 := Tryz.isAgg4
  z4 := Tryz.sizeOf4
  v4 := Tryz.zeroValue4
  t9 := Tryz.underlying9
  a9 := Tryz.isAgg9
  z9 := Tryz.sizeOf9
  v9 := Tryz.zeroValue9
  t20 := Tryz.underlying20
  a20 := Tryz.isAgg20
  z20 := Tryz.sizeOf20
  v20 := Tryz.zeroValue20
  t31 := Tryz.underlying60
  a31 := Tryz.isAgg60
  z31 := Tryz.sizeOf60
  v31 := Tryz.zeroValue60
  t37 := Tryz.underlying94
  a37 := Tryz.isAgg94
  z37 := Tryz.sizeOf94
  v37 := Tryz.zeroValue94
  t70 := Tryz.underlying93
  a70 := Tryz.isAgg93
  z70 := Tryz.sizeOf93
  v70 := Tryz.zeroValue93
  t72 := Tryz.underlying96
  a72 := Tryz.isAgg96
  z72 := Tryz.sizeOf96
  v72 := Tryz.zeroValue96
  t75 := Tryz.underlying99
  a75 := Tryz.isAgg99
  z75 := Tryz.sizeOf99
  v75 := Tryz.zeroValue99
  t76 := Tryz.underlying100
  a76 := Tryz.isAgg100
  z76 := Tryz.sizeOf100
  v76 := Tryz.zeroValue100
  t127 := Tryz.underlying119
  a127 := Tryz.isAgg119
  z127 := Tryz.sizeOf119
  v127 := Tryz.zeroValue119
  t164 := Tryz.underlying152
  a164 := Tryz.isAgg152
  z164 := Tryz.sizeOf152
  v164 := Tryz.zeroValue152 }
theorem Tryz.OB : Builder.Extra Tryz.prog Tryz.TK := {
  sizeBuilder := by kernel_rfl
  liesBuilder := by kernel_rfl
  t5 := Tryz.underlying5
  a5 := Tryz.isAgg5
  z5 := Tryz.sizeOf5
  v5 := Tryz.zeroValue5
  infoByte := by kernel_rfl
  cellsByte := by kernel_rfl
  sizeByte := by kernel_rfl
  neB5 := by decide }
open Go.RowKit in
/-- No element: the empty string; the world is as it was. (Whatever the slice's address and capacity: a nil slice too.) (LAID: no walk: one application.) -/
theorem Tryz.strings_Join_none (a : Option Addr) (c : Nat) (sep : ByteArray) (w : World) :
    Calls Tryz.prog 30 #[.slice a 0 c,.string sep] w fun e w' => e =.returned (.string ⟨#[]⟩) ∧ w' = w := Any.strings_Join_none Tryz.TJ Tryz.OB a c sep w
open Go.RowKit in
/-- strings.Join: "Join concatenates the elements of its first argument to create a single string. The separator string sep is placed between elements in the resulting string.": HOWEVER MANY ELEMENTS. Below the heap's end the world is as it was. (LAID: no walk: one application.) -/
theorem Tryz.strings_Join (bk o c : Nat) (xs : List ByteArray) (sep : ByteArray) (w : World) (hcells :∀(j : Nat) x, xs[j]?= some x → w.cell? ⟨bk, o + j, none⟩ = some (.string x)) (hbk : bk < w.heap.size) (hN : xs.length ≤ 140737488355328) (hcap : xs.length ≤ c) (hlen : (Lib.join (xs.map (·.data.toList)) sep.data.toList).length ≤ 140737488355328) :
    Calls Tryz.prog 30 #[.slice (some ⟨bk, o, none⟩) xs.length c,.string sep] w fun e w' => e =.returned (.string ⟨(Lib.join (xs.map (·.data.toList)) sep.data.toList).toArray⟩) ∧ Below w.heap.size w w' := Any.strings_Join Tryz.TJ Tryz.OB bk o c xs sep w hcells hbk hN hcap hlen
def Tryz.acn : Go.Shelf.Ren := ⟨fun | 125 => 121 | 128 => 144 | 129 => 125 | n => n, fun | 46 => 167 | 3 => 3 | 51 => 173 | 53 => 147 | 4 => 4 | 5 => 5 | 9 => 9 | n => n, fun | n => n⟩
theorem Tryz.acm : Go.Proofs.Lays.n125 Tryz.prog Tryz.acn := {
  mixed := by kernel_rfl
  f125 := Tryz.func121.trans (congrArg some (by kernel_rfl))
  f128 := Tryz.func144.trans (congrArg some (by kernel_rfl))
  f129 := Tryz.func125.trans (congrArg some (by kernel_rfl))
  t3 := Tryz.underlying3
  a3 := Tryz.isAgg3
  z3 := Tryz.sizeOf3
  v3 := Tryz.zeroValue3
  t4 := Tryz.underlying4
  a4 := Tryz.isAgg4
  z4 := Tryz.sizeOf4
  v4 := Tryz.zeroValue4
  t5 := Tryz.underlying5
  a5 := Tryz.isAgg5
  z5 := Tryz.sizeOf5
  v5 := Tryz.zeroValue5
  t9 := Tryz.underlying9
  a9 := Tryz.isAgg9
  z9 := Tryz.sizeOf9
  v9 := Tryz.zeroValue9
  t46 := Tryz.underlying167
  a46 := Tryz.isAgg167
  z46 := Tryz.sizeOf167
  v46 := Tryz.zeroValue167
  t51 := Tryz.underlying173
  a51 := Tryz.isAgg173
  z51 := Tryz.sizeOf173
  v51 := Tryz.zeroValue173
  t53 := Tryz.underlying147
  a53 := Tryz.isAgg147
  z53 := Tryz.sizeOf147
  v53 := Tryz.zeroValue147 }
/-- bits.Len: "Len returns the minimum number of bits required to represent x; the result is 0 for x == 0.": IT RETURNS 'Lib.bitLen x'; the world is as it was. (A uint has 64 bits in the model.) ITS CALLEE bits.Len64 IS MET BY ITS OWN CONTRACT OFF THE SHELF (lay that first). (LAID: no walk: one application.) -/
theorem Tryz.bits_Len (x : Int) (w : World) (h0 : 0 ≤ x) (h1 : x ≤ 18446744073709551615) :
    Calls Tryz.prog 121 #[.int .u64 x] w fun e w' => e =.returned (.int .i64 (Lib.bitLen x.toNat)) ∧ w' = w := Any.bits_Len Tryz.acm x w h0 h1
def Tryz.acp : Go.Shelf.Ren := ⟨fun | 171 => 28 | 243 => 45 | 246 => 71 | 283 => 101 | 284 => 102 | 285 => 103 | 286 => 104 | 129 => 125 | 317 => 124 | 318 => 126 | 319 => 127 | 320 => 128 | 337 => 146 | 338 => 147 | n => n, fun | 3 => 3 | 9 => 9 | 2 => 2 | 4 => 4 | 171 => 146 | 0 => 0 | 53 => 147 | 37 => 94 | 5 => 5 | 173 => 150 | 212 => 172 | 51 => 173 | 20 => 20 | 213 => 174 | 46 => 167 | 232 => 204 | 233 => 205 | n => n, fun | 17 => 0 | 18 => 2 | 19 => 3 | n => n⟩
theorem Tryz.aco : Go.Proofs.LaysM.n171 Tryz.prog Tryz.acp := {
  mixed := by kernel_rfl
  f129 := Tryz.func125.trans (congrArg some (by kernel_rfl))
  f171 := Tryz.func28.trans (congrArg some (by kernel_rfl))
  f243 := Tryz.func45.trans (congrArg some (by kernel_rfl))
  f246 := Tryz.func71.trans (congrArg some (by kernel_rfl))
  f283 := Tryz.func101.trans (congrArg some (by kernel_rfl))
  f284 := Tryz.func102.trans (congrArg some (by kernel_rfl))
  f285 := Tryz.func103.trans (congrArg some (by kernel_rfl))
  f286 := Tryz.func104.trans (congrArg some (by kernel_rfl))
  f317 := Tryz.func124.trans (congrArg some (by kernel_rfl))
  f318 := Tryz.func126.trans (congrArg some (by kernel_rfl))
  f319 := Tryz.func127.trans (congrArg some (by kernel_rfl))
  f320 := Tryz.func128.trans (congrArg some (by kernel_rfl))
  f337 := Tryz.func146.trans (congrArg some (by kernel_rfl))
  f338 := Tryz.func147.trans (congrArg some (by kernel_rfl))
  t0 := Tryz.underlying0
  a0 := Tryz.isAgg0
  z0 := Tryz.sizeOf0
  v0 := Tryz.zeroValue0
  t2 := Tryz.underlying2
  a2 := Tryz.isAgg2
  z2 := Tryz.sizeOf2
  v2 := Tryz.zeroValue2
  t3 := Tryz.underlying3
  a3 := Tryz.isAgg3
  z3 := Tryz.sizeOf3
  v3 := Tryz.zeroValue3
  t4 := Tryz.underlying4
  a4 := Tryz.isAgg4
  z4 := Tryz.sizeOf4
  v4 := Tryz.zeroValue4
  t5 := Tryz.underlying5
  a5 := Tryz.isAgg5
  z5 := Tryz.sizeOf5
  v5 := Tryz.zeroValue5
  t9 := Tryz.underlying9
  a9 := Tryz.isAgg9
  z9 := Tryz.sizeOf9
  v9 := Tryz.zeroValue9
  t20 := Tryz.underlying20
  a20 := Tryz.isAgg20
  z20 := Tryz.sizeOf20
  v20 := Tryz.zeroValue20
  t37 := Tryz.underlying94
  a37 := Tryz.isAgg94
  z37 := Tryz.sizeOf94
  v37 := Tryz.zeroValue94
  t46 := Tryz.underlying167
  a46 := Tryz.isAgg167
  z46 := Tryz.sizeOf167
  v46 := Tryz.zeroValue167
  t51 := Tryz.underlying173
  a51 := Tryz.isAgg173
  z51 := Tryz.sizeOf173
  v51 := Tryz.zeroValue173
  t53 := Tryz.underlying147
  a53 := Tryz.isAgg147
  z53 := Tryz.sizeOf147
  v53 := Tryz.zeroValue147
  t171 := Tryz.underlying146
  a171 := Tryz.isAgg146
  z171 := Tryz.sizeOf146
  v171 := Tryz.zeroValue146
  t173 := Tryz.underlying150
  a173 := Tryz.isAgg150
  z173 := Tryz.sizeOf150
  v173 := Tryz.zeroValue150
  t212 := Tryz.underlying172
  a212 := Tryz.isAgg172
  z212 := Tryz.sizeOf172
  v212 := Tryz.zeroValue172
  t213 := Tryz.underlying174
  a213 := Tryz.isAgg174
  z213 := Tryz.sizeOf174
  t232 := Tryz.underlying204
  a232 := Tryz.isAgg204
  z232 := Tryz.sizeOf204
  v232 := Tryz.zeroValue204
  t233 := Tryz.underlying205
  a233 := Tryz.isAgg205
  z233 := Tryz.sizeOf205
  v233 := Tryz.zeroValue205
  g17 := by kernel_rfl
  g18 := by kernel_rfl
  g19 := by kernel_rfl
  i0 := by kernel_rfl
  i2 := by kernel_rfl
  i3 := by kernel_rfl
  i4 := by kernel_rfl
  i5 := by kernel_rfl
  i9 := by kernel_rfl
  i20 := by kernel_rfl
  i37 := by kernel_rfl
  i46 := by kernel_rfl
  i51 := by kernel_rfl
  i53 := by kernel_rfl
  i171 := by kernel_rfl
  i173 := by kernel_rfl
  i212 := by kernel_rfl
  i232 := by kernel_rfl
  i233 := by kernel_rfl
  m17 := by kernel_rfl
  m18 := by kernel_rfl
  m19 := by kernel_rfl }
open Go.RowKit Go.Sort Go.Lib in
/-- strconv.Itoa: "Itoa is equivalent to FormatInt(int64(i), 10).": i's DECIMAL NUMERAL ('Lib.itoa': a '-' where i is negative, then the digits), FOR EVERY int. The world behind the call: the world before it, new blocks behind the heap (the library's 'var a [24]byte'), draws. (LAID: no walk: one application.) -/
theorem Tryz.strconv_Itoa (n : Int) (h0 : -9223372036854775808 ≤ n) (h1 : n ≤ 9223372036854775807) (w : World) (htab : Lib.TabIs Tryz.prog w Jb .u64 Lib.pow10Tab) :
    Calls Tryz.prog 28 #[.int .i64 n] w fun e w' => e =.returned (.string ⟨(Lib.itoa n).toArray⟩) ∧ ∃k os, w' = grow (w.drewN k) os := Any.strconv_Itoa Tryz.aco n h0 h1 w htab
def Tryz.afV : Go.Shelf.Ren := ⟨fun | 6 => 108 | 15 => 121 | 14 => 129 | 28 => 144 | 29 => 125 | 20 => 148 | 21 => 149 | 22 => 150 | 23 => 151 | 24 => 152 | 25 => 153 | 26 => 154 | 27 => 155 | 46 => 164 | 47 => 159 | 48 => 160 | 49 => 165 | 50 => 166 | 57 => 176 | n => n, fun | 22 => 75 | 24 => 127 | 25 => 157 | 3 => 3 | 39 => 167 | 0 => 0 | 53 => 173 | 55 => 147 | 4 => 4 | 46 => 182 | 45 => 181 | 50 => 187 | 5 => 5 | 9 => 9 | 66 => 198 | 70 => 202 | 76 => 213 | 77 => 83 | n => n, fun | n => n⟩
theorem Tryz.VK : Go.Proofs.SlLaysF0.n6 Tryz.prog Tryz.afV := {
  mixed := by kernel_rfl
  f6 := ⟨Tryz.f108.name, by decide, Tryz.func108.trans (congrArg some (by kernel_rfl))⟩
  f14 := ⟨Tryz.f129.name, by decide, Tryz.func129.trans (congrArg some (by kernel_rfl))⟩
  f15 := Tryz.func121.trans (congrArg some (by kernel_rfl))
  f20 := ⟨Tryz.f148.name, by decide, Tryz.func148.trans (congrArg some (by kernel_rfl))⟩
  f21 := ⟨Tryz.f149.name, by decide, Tryz.func149.trans (congrArg some (by kernel_rfl))⟩
  f22 := ⟨Tryz.f150.name, by decide, Tryz.func150.trans (congrArg some (by kernel_rfl))⟩
  f23 := ⟨Tryz.f151.name, by decide, Tryz.func151.trans (congrArg some (by kernel_rfl))⟩
  f24 := ⟨Tryz.f152.name, by decide, Tryz.func152.trans (congrArg some (by kernel_rfl))⟩
  f25 := ⟨Tryz.f153.name, by decide, Tryz.func153.trans (congrArg some (by kernel_rfl))⟩
  f26 := ⟨Tryz.f154.name, by decide, Tryz.func154.trans (congrArg some (by kernel_rfl))⟩
  f27 := ⟨Tryz.f155.name, by decide, Tryz.func155.trans (congrArg some (by kernel_rfl))⟩
  f28 := Tryz.func144.trans (congrArg some (by kernel_rfl))
  f29 := Tryz.func125.trans (congrArg some (by kernel_rfl))
  f46 := ⟨Tryz.f164.name, by decide, Tryz.func164.trans (congrArg some (by kernel_rfl))⟩
  f47 := Tryz.func159.trans (congrArg some (by kernel_rfl))
  f48 := Tryz.func160.trans (congrArg some (by kernel_rfl))
  f49 := ⟨Tryz.f165.name, by decide, Tryz.func165.trans (congrArg some (by kernel_rfl))⟩
  f50 := ⟨Tryz.f166.name, by decide, Tryz.func166.trans (congrArg some (by kernel_rfl))⟩
  f57 := ⟨Tryz.f176.name, by decide, Tryz.func176.trans (congrArg some (by kernel_rfl))⟩
  t0 := Tryz.underlying0
  a0 := Tryz.isAgg0
  z0 := Tryz.sizeOf0
  v0 := Tryz.zeroValue0
  t3 := Tryz.underlying3
  a3 := Tryz.isAgg3
  z3 := Tryz.sizeOf3
  v3 := Tryz.zeroValue3
  t4 := Tryz.underlying4
  a4 := Tryz.isAgg4
  z4 := Tryz.sizeOf4
  v4 := Tryz.zeroValue4
  t5 := Tryz.underlying5
  a5 := Tryz.isAgg5
  z5 := Tryz.sizeOf5
  v5 := Tryz.zeroValue5
  t9 := Tryz.underlying9
  a9 := Tryz.isAgg9
  z9 := Tryz.sizeOf9
  v9 := Tryz.zeroValue9
  t22 := Tryz.underlying75
  a22 := Tryz.isAgg75
  z22 := Tryz.sizeOf75
  v22 := Tryz.zeroValue75
  t25 := Tryz.underlying157
  a25 := Tryz.isAgg157
  z25 := Tryz.sizeOf157
  v25 := Tryz.zeroValue157
  t39 := Tryz.underlying167
  a39 := Tryz.isAgg167
  z39 := Tryz.sizeOf167
  v39 := Tryz.zeroValue167
  t45 := Tryz.underlying181
  a45 := Tryz.isAgg181
  z45 := Tryz.sizeOf181
  v45 := Tryz.zeroValue181
  t46 := Tryz.underlying182
  a46 := Tryz.isAgg182
  z46 := Tryz.sizeOf182
  v46 := Tryz.zeroValue182
  t50 := Tryz.underlying187
  a50 := Tryz.isAgg187
  z50 := Tryz.sizeOf187
  v50 := Tryz.zeroValue187
  t53 := Tryz.underlying173
  a53 := Tryz.isAgg173
  z53 := Tryz.sizeOf173
  v53 := Tryz.zeroValue173
  t55 := Tryz.underlying147
  a55 := Tryz.isAgg147
  z55 := Tryz.sizeOf147
  v55 := Tryz.zeroValue147
  t66 := Tryz.underlying198
  a66 := Tryz.isAgg198
  z66 := Tryz.sizeOf198
  v66 := Tryz.zeroValue198
  t70 := Tryz.underlying202
  a70 := Tryz.isAgg202
  z70 := Tryz.sizeOf202
  v70 := Tryz.zeroValue202
  t76 := Tryz.underlying213
  a76 := Tryz.isAgg213
  z76 := Tryz.sizeOf213
  v76 := Tryz.zeroValue213
  t77 := Tryz.underlying83
  a77 := Tryz.isAgg83
  z77 := Tryz.sizeOf83
  v77 := Tryz.zeroValue83 }
end Go.Proofs
namespace Go.Abs
open Go.Proofs Go.RowKit
def G (w : World) : Prop := Lib.TabIs Tryz.prog w Jb .u64 Lib.pow10Tab
theorem aau {w : World} (h : G w) : Good G w := by
  refine ⟨h, fun w w' hg hw =>?_⟩;unfold G Lib.TabIs World.var? at hw ⊢;cases hn : Tryz.prog.globalNamed Jb with
  | none => rw [hn] at hw; cases hw
  | some g =>
    rw [hn] at hw;simp only [Option.bind_some] at hw ⊢;cases hb : w.heap[g]? with
    | none => rw [hb] at hw; cases hw
    | some o => rw [hg.keep g (qe hb)]; exact hw

theorem Sk : Tryz.prog.follows .mixedOrders = true := by kernel_rfl
noncomputable def S0 : Sys := { S with prim := fun _ _ => none, trig := fun _ _ => false }
theorem WJ : BE S0 G := ⟨Sk, fun _ _ h => h, fun f vs r h => (by cases h), fun _ _ _ _ _ _ h => (by cases h)⟩
theorem Ea {f : Nat} {fn : Func} (h : Tryz.prog.funcs[f]?= some fn) (hb : fn.body.isSome = true) (hn : (fn.name == "runtime.NumGoroutine") = false) : Enters Tryz.prog f := by
  cases hc : fn.body with
  | none => rw [hc] at hb; cases hb
  | some c => exact ⟨fn, c, h, hc, hn⟩

theorem Pv {f n : Nat} {z i g z' : Nat} {b : BL} (he : Enters Tryz.prog f) (h1 : wg S0 n f [.one (.p .nils)] = some (.one (.p .nils)))
    (h2 : uZ S0 n f [.one (.hsl 0 0 z 0 0)] .all [] = some (.one (.hsl i g z' 0 0), b)) {fn : aU} (hfn : wx Tryz.prog f = some fn) {args : List V} {r : RV} (h : IJ args = some (some r)) :
    Enters Tryz.prog f ∧ ∀(w : World) (O : Nat → Prop) (ar : Array Value), Good G w → (∀c, O c → c < w.heap.size) → Pw (mR w O) args ar.toList → Calls Tryz.prog f ar w (qy w O r) :=
  ⟨he, aej (S := S0) WJ (n := n) hfn ((JH S0 n).1 _ _ _ h1) ((JH S0 n).2 _ _ _ _ _ _ h2) h⟩

theorem I5 {α : Type} {x : Option α} (h : x.isSome = true) :∃y, x = some y := by
  cases x with
  | none => cases h
  | some y => exact ⟨y, rfl⟩

theorem acY :∀ {l : List Nat} {f : Nat}, A3 l f = true → f ∈ l := by
  intro l
  induction l with
  | nil => intro f h; cases h
  | cons a l ih =>
    intro f h;simp only [A3] at h;cases hb : Nat.beq a f with
    | true => rw [Nat.eq_of_beq_eq_true hb]; simp
    | false => rw [hb] at h; exact List.mem_cons_of_mem _ (ih h)

theorem aem : OH S G := by
  intro f vs r h;have h : NH f vs = some (some r) := h;unfold NH at h;cases e1 : Nat.beq f 28 with
  | true =>rw [e1] at h;obtain rfl := Nat.eq_of_beq_eq_true e1;simp only [cond_true, Option.some.injEq] at h;exact ⟨Ea Tryz.func28 (by kernel_rfl) (by kernel_rfl), fun w O ar hg _ ha => aek (G := G) (fun _ h => h) (fun n h0 h1 w ht => Tryz.strconv_Itoa n h0 h1 w ht) h w O ar hg ha⟩
  | false =>
    rw [e1] at h;simp only [cond_false] at h;cases e2 : Nat.beq f 30 with
    | true =>rw [e2] at h;obtain rfl := Nat.eq_of_beq_eq_true e2;simp only [cond_true, Option.some.injEq] at h;exact ⟨Ea Tryz.func30 (by kernel_rfl) (by kernel_rfl), fun w O ar _ _ ha => ael Tryz.strings_Join_none Tryz.strings_Join h w O ar ha⟩
    | false =>
      rw [e2] at h;simp only [cond_false] at h;cases e3 : Nat.beq f 121 with
      | true =>rw [e3] at h;obtain rfl := Nat.eq_of_beq_eq_true e3;simp only [cond_true, Option.some.injEq] at h;exact ⟨Ea Tryz.func121 (by kernel_rfl) (by kernel_rfl), fun w O ar _ _ ha => aei (fun x w h0 h1 => Tryz.bits_Len x w h0 h1) h w O ar ha⟩
      | false =>
        rw [e3] at h;simp only [cond_false] at h;cases e4 : A3 [23, 85] f with
        | false =>rw [e4] at h;cases h
        | true =>
          rw [e4] at h;simp only [cond_true] at h;have hm := acY e4;simp only [List.mem_cons, List.not_mem_nil, or_false] at hm;rcases hm with rfl | rfl
          · obtain ⟨fn, hfn⟩ := I5 (x := wx Tryz.prog 23) (by kernel_rfl)
            obtain ⟨⟨v, b⟩, hb⟩ := I5 (x := uZ S0 9 23 [.one (.hsl 0 0 6 0 0)] .all []) (by kernel_rfl);have hv : (uZ S0 9 23 [.one (.hsl 0 0 6 0 0)] .all []).map (·.1) = some (.one (.hsl 1472192128 1 6 0 0)) := by kernel_rfl
            rw [hb] at hv;cases hv;exact Pv (Ea Tryz.func23 (by kernel_rfl) (by kernel_rfl)) (n := 9) (by kernel_rfl) hb hfn h
          · obtain ⟨fn, hfn⟩ := I5 (x := wx Tryz.prog 85) (by kernel_rfl)
            obtain ⟨⟨v, b⟩, hb⟩ := I5 (x := uZ S0 9 85 [.one (.hsl 0 0 7 0 0)] .all []) (by kernel_rfl);have hv : (uZ S0 9 85 [.one (.hsl 0 0 7 0 0)] .all []).map (·.1) = some (.one (.hsl 5440192128 1 7 0 0)) := by kernel_rfl
            rw [hb] at hv;cases hv;exact Pv (Ea Tryz.func85 (by kernel_rfl) (by kernel_rfl)) (n := 9) (by kernel_rfl) hb hfn h

end Go.Abs
namespace Go.Abs
open Go.Proofs Go.Sort Go.RowKit Go.Lib
set_option maxHeartbeats 2000000 in
theorem YC (x y : sP) (W : World) : Calls Tryz.prog 109 #[.agg #[.int .i64 x.1.1,.int .i64 x.1.2],.agg #[.int .i64 y.1.1,.int .i64 y.1.2]] W fun e w' => e =.returned (.int .i64 (u0 x y)) ∧ ∃q os', w' = grow (W.drewN q) os' := by
  obtain ⟨⟨a, b⟩, hx⟩ := x;obtain ⟨⟨c, d⟩, hy⟩ := y;simp only [uP, Bool.and_eq_true, decide_eq_true_eq] at hx hy;unfold u0;dsimp only;by_cases h : a = c
  · subst h
    rw [if_pos rfl]
    go_enter Tryz.func109, Tryz.ntmps109
    go_wp2
    go_ret
    exact ⟨rfl, 0, _, by rw [alloc_eq_grow, alloc_eq_grow, grow_grow]; rfl⟩
  · rw [if_neg h]
    go_enter Tryz.func109, Tryz.ntmps109
    go_wp2
    go_ret
    exact ⟨rfl, 0, _, by rw [alloc_eq_grow, alloc_eq_grow, grow_grow]; rfl⟩
theorem af1 : OT Tryz.prog kG 108 109 := by
  refine ⟨?_, fun w =>?_, fun w blk cap d hH hblk hsz hsm =>?_⟩
  · have h : (Tryz.f108.body).isSome = true := by kernel_rfl
    cases hc : Tryz.f108.body with
    | none => rw [hc] at h; cases h
    | some c => exact ⟨Tryz.f108, c, Tryz.func108, hc, by kernel_rfl⟩
  · exact AnyF.slices_SortFunc_none { Tryz.VK with } none 0 _ w
  · obtain ⟨d', rfl⟩ := acJ d hsm
    have eg :∀args w, (callFunc 109 args).run Tryz.prog w =.ok (.enter 109 args) w := Go.Proofs.enters_of Tryz.func109 (by kernel_rfl) rfl;have hcon := AnyQ.slices_SortFunc_total Tryz.VK 2 Tryz.isAgg127 Tryz.sizeOf127 Hn (fun _ => rfl) (fun x v hv => by simp [encI] at hv; rcases hv with rfl | rfl <;> rfl) u0 swoP 109 #[] blk 0 cap d' w eg (fun _ _ _ _ x y => YC x y _) (abk hH) hblk (by simpa using hsz) totP
    rw [Array.size_map];refine hcon.mono ?_;rintro e w' ⟨rfl, n, os, rfl⟩
    refine ⟨rfl, n, os, ?_⟩;unfold sortWorldK;rw [putS]
theorem S_ok : BE S G := ⟨Sk, fun _ _ h => h, aem, afW af1 rfl rfl⟩
end Go.Abs
