/-
  The system is sound at this seat.
-/
import Derived.Shelf.SlSortCmp.NoneTotal
import Derived.Ground.SlsfProg
import Derived.Shelf.LaysM
import Derived.Shelf.Strings.OnBuilder
import Derived.Shelf.Small.Bits
import Derived.Shelf.Strconv.Itoa3
import Derived.Test.YtgjjncbeombnbaaGreatDoorRows
import Derived.Test.YtgjjncbeombnbaaGreatDoorSa
import Derived.LaidLaws
set_option linter.all false
set_option maxRecDepth 100000
namespace Go.Proofs
open Go.Shelf
/-- the name of the table of the powers of ten: the first that the row names -/
def TH : String := YtgjjncbeombnbaaGreatDoor.Rows.moveForgetsRow.named.headD default
def Tryz.afK : Go.Shelf.Ren := ⟨fun | 156 => 40 | 165 => 63 | 166 => 64 | 169 => 65 | 240 => 97 | 241 => 98 | 276 => 133 | 277 => 134 | n => n, fun | 31 => 78 | 9 => 9 | 3 => 3 | 4 => 4 | 0 => 0 | 20 => 20 | 72 => 113 | 76 => 117 | 70 => 110 | 37 => 111 | 75 => 116 | 127 => 137 | 164 => 177 | 5 => 5 | 80 => 119 | n => n, fun | n => n⟩
theorem Tryz.afJ : Go.Proofs.Lays.n156 Tryz.prog Tryz.afK := {
  mixed := by kernel_rfl
  f156 := Tryz.func40.trans (congrArg some (by kernel_rfl))
  f165 := Tryz.func63.trans (congrArg some (by kernel_rfl))
  f166 := Tryz.func64.trans (congrArg some (by kernel_rfl))
  f169 := Tryz.func65.trans (congrArg some (by kernel_rfl))
  f240 := Tryz.func97.trans (congrArg some (by kernel_rfl))
  f241 := Tryz.func98.trans (congrArg some (by kernel_rfl))
  f276 := Tryz.func133.trans (congrArg some (by kernel_rfl))
  f277 := Tryz.func134.trans (congrArg some (by kernel_rfl))
  t0 := Tryz.underlying0
  a0 := Tryz.isAgg0
  z0 := Tryz.sizeOf0
  v0 := Tryz.zeroValue0
  t3 := Tryz.underlying3
  a3 := Tryz.isAgg3
  z3 := Tryz.sizeOf3
  v3 := Tryz.zeroValue3
  t4 := Tryz.underlying4
  a4 := Tryz.isAgg4
  z4 := Tryz.sizeOf4
  v4 := Tryz.zeroValue4
  t9 := Tryz.underlying9
  a9 := Tryz.isAgg9
  z9 := Tryz.sizeOf9
  v9 := Tryz.zeroValue9
  t20 := Tryz.underlying20
  a20 := Tryz.isAgg20
  z20 := Tryz.sizeOf20
  v20 := Tryz.zeroValue20
  t31 := Tryz.underlying78
  a31 := Tryz.isAgg78
  z31 := Tryz.sizeOf78
  v31 := Tryz.zeroValue78
  t37 := Tryz.underlying111
  a37 := Tryz.isAgg111
  z37 := Tryz.sizeOf111
  v37 := Tryz.zeroValue111
  t70 := Tryz.underlying110
  a70 := Tryz.isAgg110
  z70 := Tryz.sizeOf110
  v70 := Tryz.zeroValue110
  t72 := Tryz.underlying113
  a72 := Tryz.isAgg113
  z72 := Tryz.sizeOf113
  v72 := Tryz.zeroValue113
  t75 := Tryz.underlying116
  a75 := Tryz.isAgg116
  z75 := Tryz.sizeOf116
  v75 := Tryz.zeroValue116
  t76 := Tryz.underlying117
  a76 := Tryz.isAgg117
  z76 := Tryz.sizeOf117
  v76 := Tryz.zeroValue117
  t127 := Tryz.underlying137
  a127 := Tryz.isAgg137
  z127 := Tryz.sizeOf137
  v127 := Tryz.zeroValue137
  t164 := Tryz.underlying177
  a164 := Tryz.isAgg177
  z164 := Tryz.sizeOf177
  v164 := Tryz.zeroValue177 }
theorem Tryz.ZD : Builder.Extra Tryz.prog Tryz.afK := {
  sizeBuilder := by kernel_rfl
  liesBuilder := by kernel_rfl
  t5 := Tryz.underlying5
  a5 := Tryz.isAgg5
  z5 := Tryz.sizeOf5
  v5 := Tryz.zeroValue5
  infoByte := by kernel_rfl
  cellsByte := by kernel_rfl
  sizeByte := by kernel_rfl
  neB5 := by decide }
open Go.RowKit in
/-- No element: the empty string; the world is as it was. (Whatever the slice's address and capacity: a nil slice too.) (LAID: no walk: one application.) -/
theorem Tryz.strings_Join_none (a : Option Addr) (c : Nat) (sep : ByteArray) (w : World) :
    Calls Tryz.prog 40 #[.slice a 0 c,.string sep] w fun e w' => e =.returned (.string ⟨#[]⟩) ∧ w' = w := Any.strings_Join_none Tryz.afJ Tryz.ZD a c sep w
open Go.RowKit in
/-- strings.Join: "Join concatenates the elements of its first argument to create a single string. The separator string sep is placed between elements in the resulting string.": HOWEVER MANY ELEMENTS. Below the heap's end the world is as it was. (LAID: no walk: one application.) -/
theorem Tryz.strings_Join (bk o c : Nat) (xs : List ByteArray) (sep : ByteArray) (w : World) (hcells :∀(j : Nat) x, xs[j]?= some x → w.cell? ⟨bk, o + j, none⟩ = some (.string x)) (hbk : bk < w.heap.size) (hN : xs.length ≤ 140737488355328) (hcap : xs.length ≤ c) (hlen : (Lib.join (xs.map (·.data.toList)) sep.data.toList).length ≤ 140737488355328) :
    Calls Tryz.prog 40 #[.slice (some ⟨bk, o, none⟩) xs.length c,.string sep] w fun e w' => e =.returned (.string ⟨(Lib.join (xs.map (·.data.toList)) sep.data.toList).toArray⟩) ∧ Below w.heap.size w w' := Any.strings_Join Tryz.afJ Tryz.ZD bk o c xs sep w hcells hbk hN hcap hlen
def Tryz.arH : Go.Shelf.Ren := ⟨fun | 125 => 144 | 128 => 167 | 129 => 152 | n => n, fun | 46 => 186 | 3 => 3 | 51 => 194 | 53 => 172 | 4 => 4 | 5 => 5 | 9 => 9 | n => n, fun | n => n⟩
theorem Tryz.arG : Go.Proofs.Lays.n125 Tryz.prog Tryz.arH := {
  mixed := by kernel_rfl
  f125 := Tryz.func144.trans (congrArg some (by kernel_rfl))
  f128 := Tryz.func167.trans (congrArg some (by kernel_rfl))
  f129 := Tryz.func152.trans (congrArg some (by kernel_rfl))
  t3 := Tryz.underlying3
  a3 := Tryz.isAgg3
  z3 := Tryz.sizeOf3
  v3 := Tryz.zeroValue3
  t4 := Tryz.underlying4
  a4 := Tryz.isAgg4
  z4 := Tryz.sizeOf4
  v4 := Tryz.zeroValue4
  t5 := Tryz.underlying5
  a5 := Tryz.isAgg5
  z5 := Tryz.sizeOf5
  v5 := Tryz.zeroValue5
  t9 := Tryz.underlying9
  a9 := Tryz.isAgg9
  z9 := Tryz.sizeOf9
  v9 := Tryz.zeroValue9
  t46 := Tryz.underlying186
  a46 := Tryz.isAgg186
  z46 := Tryz.sizeOf186
  v46 := Tryz.zeroValue186
  t51 := Tryz.underlying194
  a51 := Tryz.isAgg194
  z51 := Tryz.sizeOf194
  v51 := Tryz.zeroValue194
  t53 := Tryz.underlying172
  a53 := Tryz.isAgg172
  z53 := Tryz.sizeOf172
  v53 := Tryz.zeroValue172 }
/-- bits.Len: "Len returns the minimum number of bits required to represent x; the result is 0 for x == 0.": IT RETURNS 'Lib.bitLen x'; the world is as it was. (A uint has 64 bits in the model.) ITS CALLEE bits.Len64 IS MET BY ITS OWN CONTRACT OFF THE SHELF (lay that first). (LAID: no walk: one application.) -/
theorem Tryz.bits_Len (x : Int) (w : World) (h0 : 0 ≤ x) (h1 : x ≤ 18446744073709551615) :
    Calls Tryz.prog 144 #[.int .u64 x] w fun e w' => e =.returned (.int .i64 (Lib.bitLen x.toNat)) ∧ w' = w := Any.bits_Len Tryz.arG x w h0 h1
def Tryz.arJ : Go.Shelf.Ren := ⟨fun | 171 => 38 | 243 => 62 | 246 => 96 | 283 => 129 | 284 => 130 | 285 => 131 | 286 => 132 | 129 => 152 | 317 => 151 | 318 => 153 | 319 => 154 | 320 => 155 | 337 => 178 | 338 => 179 | n => n, fun | 3 => 3 | 9 => 9 | 2 => 2 | 4 => 4 | 171 => 171 | 0 => 0 | 53 => 172 | 37 => 111 | 5 => 5 | 173 => 175 | 212 => 193 | 51 => 194 | 20 => 20 | 213 => 195 | 46 => 186 | 232 => 227 | 233 => 228 | n => n, fun | 17 => 0 | 18 => 2 | 19 => 3 | n => n⟩
theorem Tryz.arI : Go.Proofs.LaysM.n171 Tryz.prog Tryz.arJ := {
  mixed := by kernel_rfl
  f129 := Tryz.func152.trans (congrArg some (by kernel_rfl))
  f171 := Tryz.func38.trans (congrArg some (by kernel_rfl))
  f243 := Tryz.func62.trans (congrArg some (by kernel_rfl))
  f246 := Tryz.func96.trans (congrArg some (by kernel_rfl))
  f283 := Tryz.func129.trans (congrArg some (by kernel_rfl))
  f284 := Tryz.func130.trans (congrArg some (by kernel_rfl))
  f285 := Tryz.func131.trans (congrArg some (by kernel_rfl))
  f286 := Tryz.func132.trans (congrArg some (by kernel_rfl))
  f317 := Tryz.func151.trans (congrArg some (by kernel_rfl))
  f318 := Tryz.func153.trans (congrArg some (by kernel_rfl))
  f319 := Tryz.func154.trans (congrArg some (by kernel_rfl))
  f320 := Tryz.func155.trans (congrArg some (by kernel_rfl))
  f337 := Tryz.func178.trans (congrArg some (by kernel_rfl))
  f338 := Tryz.func179.trans (congrArg some (by kernel_rfl))
  t0 := Tryz.underlying0
  a0 := Tryz.isAgg0
  z0 := Tryz.sizeOf0
  v0 := Tryz.zeroValue0
  t2 := Tryz.underlying2
  a2 := Tryz.isAgg2
  z2 := Tryz.sizeOf2
  v2 := Tryz.zeroValue2
  t3 := Tryz.underlying3
  a3 := Tryz.isAgg3
  z3 := Tryz.sizeOf3
  v3 := Tryz.zeroValue3
  t4 := Tryz.underlying4
  a4 := Tryz.isAgg4
  z4 := Tryz.sizeOf4
  v4 := Tryz.zeroValue4
  t5 := Tryz.underlying5
  a5 := Tryz.isAgg5
  z5 := Tryz.sizeOf5
  v5 := Tryz.zeroValue5
  t9 := Tryz.underlying9
  a9 := Tryz.isAgg9
  z9 := Tryz.sizeOf9
  v9 := Tryz.zeroValue9
  t20 := Tryz.underlying20
  a20 := Tryz.isAgg20
  z20 := Tryz.sizeOf20
  v20 := Tryz.zeroValue20
  t37 := Tryz.underlying111
  a37 := Tryz.isAgg111
  z37 := Tryz.sizeOf111
  v37 := Tryz.zeroValue111
  t46 := Tryz.underlying186
  a46 := Tryz.isAgg186
  z46 := Tryz.sizeOf186
  v46 := Tryz.zeroValue186
  t51 := Tryz.underlying194
  a51 := Tryz.isAgg194
  z51 := Tryz.sizeOf194
  v51 := Tryz.zeroValue194
  t53 := Tryz.underlying172
  a53 := Tryz.isAgg172
  z53 := Tryz.sizeOf172
  v53 := Tryz.zeroValue172
  t171 := Tryz.underlying171
  a171 := Tryz.isAgg171
  z171 := Tryz.sizeOf171
  v171 := Tryz.zeroValue171
  t173 := Tryz.underlying175
  a173 := Tryz.isAgg175
  z173 := Tryz.sizeOf175
  v173 := Tryz.zeroValue175
  t212 := Tryz.underlying193
  a212 := Tryz.isAgg193
  z212 := Tryz.sizeOf193
  v212 := Tryz.zeroValue193
  t213 := Tryz.underlying195
  a213 := Tryz.isAgg195
  z213 := Tryz.sizeOf195
  t232 := Tryz.underlying227
  a232 := Tryz.isAgg227
  z232 := Tryz.sizeOf227
  v232 := Tryz.zeroValue227
  t233 := Tryz.underlying228
  a233 := Tryz.isAgg228
  z233 := Tryz.sizeOf228
  v233 := Tryz.zeroValue228
  g17 := by kernel_rfl
  g18 := by kernel_rfl
  g19 := by kernel_rfl
  i0 := by kernel_rfl
  i2 := by kernel_rfl
  i3 := by kernel_rfl
  i4 := by kernel_rfl
  i5 := by kernel_rfl
  i9 := by kernel_rfl
  i20 := by kernel_rfl
  i37 := by kernel_rfl
  i46 := by kernel_rfl
  i51 := by kernel_rfl
  i53 := by kernel_rfl
  i171 := by kernel_rfl
  i173 := by kernel_rfl
  i212 := by kernel_rfl
  i232 := by kernel_rfl
  i233 := by kernel_rfl
  m17 := by kernel_rfl
  m18 := by kernel_rfl
  m19 := by kernel_rfl }
open Go.RowKit Go.Sort Go.Lib in
/-- strconv.Itoa: "Itoa is equivalent to FormatInt(int64(i), 10).": i's DECIMAL NUMERAL ('Lib.itoa': a '-' where i is negative, then the digits), FOR EVERY int. The world behind the call: the world before it, new blocks behind the heap (the library's 'var a [24]byte'), draws. (LAID: no walk: one application.) -/
theorem Tryz.strconv_Itoa (n : Int) (h0 : -9223372036854775808 ≤ n) (h1 : n ≤ 9223372036854775807) (w : World) (htab : Lib.TabIs Tryz.prog w TH .u64 Lib.pow10Tab) :
    Calls Tryz.prog 38 #[.int .i64 n] w fun e w' => e =.returned (.string ⟨(Lib.itoa n).toArray⟩) ∧ ∃k os, w' = grow (w.drewN k) os := Any.strconv_Itoa Tryz.arI n h0 h1 w htab
def Tryz.awi : Go.Shelf.Ren := ⟨fun | 6 => 122 | 15 => 144 | 14 => 146 | 28 => 167 | 29 => 152 | 20 => 168 | 21 => 169 | 22 => 170 | 23 => 171 | 24 => 172 | 25 => 173 | 26 => 174 | 27 => 175 | 46 => 186 | 47 => 181 | 48 => 182 | 49 => 187 | 50 => 188 | 57 => 198 | n => n, fun | 22 => 91 | 24 => 143 | 25 => 166 | 3 => 3 | 39 => 186 | 0 => 0 | 53 => 194 | 55 => 172 | 4 => 4 | 46 => 199 | 45 => 198 | 50 => 204 | 5 => 5 | 9 => 9 | 66 => 214 | 70 => 218 | 76 => 229 | 77 => 99 | n => n, fun | n => n⟩
theorem Tryz.ail : Go.Proofs.SlLaysF0.n6 Tryz.prog Tryz.awi := {
  mixed := by kernel_rfl
  f6 := ⟨Tryz.f122.name, by decide, Tryz.func122.trans (congrArg some (by kernel_rfl))⟩
  f14 := ⟨Tryz.f146.name, by decide, Tryz.func146.trans (congrArg some (by kernel_rfl))⟩
  f15 := Tryz.func144.trans (congrArg some (by kernel_rfl))
  f20 := ⟨Tryz.f168.name, by decide, Tryz.func168.trans (congrArg some (by kernel_rfl))⟩
  f21 := ⟨Tryz.f169.name, by decide, Tryz.func169.trans (congrArg some (by kernel_rfl))⟩
  f22 := ⟨Tryz.f170.name, by decide, Tryz.func170.trans (congrArg some (by kernel_rfl))⟩
  f23 := ⟨Tryz.f171.name, by decide, Tryz.func171.trans (congrArg some (by kernel_rfl))⟩
  f24 := ⟨Tryz.f172.name, by decide, Tryz.func172.trans (congrArg some (by kernel_rfl))⟩
  f25 := ⟨Tryz.f173.name, by decide, Tryz.func173.trans (congrArg some (by kernel_rfl))⟩
  f26 := ⟨Tryz.f174.name, by decide, Tryz.func174.trans (congrArg some (by kernel_rfl))⟩
  f27 := ⟨Tryz.f175.name, by decide, Tryz.func175.trans (congrArg some (by kernel_rfl))⟩
  f28 := Tryz.func167.trans (congrArg some (by kernel_rfl))
  f29 := Tryz.func152.trans (congrArg some (by kernel_rfl))
  f46 := ⟨Tryz.f186.name, by decide, Tryz.func186.trans (congrArg some (by kernel_rfl))⟩
  f47 := Tryz.func181.trans (congrArg some (by kernel_rfl))
  f48 := Tryz.func182.trans (congrArg some (by kernel_rfl))
  f49 := ⟨Tryz.f187.name, by decide, Tryz.func187.trans (congrArg some (by kernel_rfl))⟩
  f50 := ⟨Tryz.f188.name, by decide, Tryz.func188.trans (congrArg some (by kernel_rfl))⟩
  f57 := ⟨Tryz.f198.name, by decide, Tryz.func198.trans (congrArg some (by kernel_rfl))⟩
  t0 := Tryz.underlying0
  a0 := Tryz.isAgg0
  z0 := Tryz.sizeOf0
  v0 := Tryz.zeroValue0
  t3 := Tryz.underlying3
  a3 := Tryz.isAgg3
  z3 := Tryz.sizeOf3
  v3 := Tryz.zeroValue3
  t4 := Tryz.underlying4
  a4 := Tryz.isAgg4
  z4 := Tryz.sizeOf4
  v4 := Tryz.zeroValue4
  t5 := Tryz.underlying5
  a5 := Tryz.isAgg5
  z5 := Tryz.sizeOf5
  v5 := Tryz.zeroValue5
  t9 := Tryz.underlying9
  a9 := Tryz.isAgg9
  z9 := Tryz.sizeOf9
  v9 := Tryz.zeroValue9
  t22 := Tryz.underlying91
  a22 := Tryz.isAgg91
  z22 := Tryz.sizeOf91
  v22 := Tryz.zeroValue91
  t25 := Tryz.underlying166
  a25 := Tryz.isAgg166
  z25 := Tryz.sizeOf166
  v25 := Tryz.zeroValue166
  t39 := Tryz.underlying186
  a39 := Tryz.isAgg186
  z39 := Tryz.sizeOf186
  v39 := Tryz.zeroValue186
  t45 := Tryz.underlying198
  a45 := Tryz.isAgg198
  z45 := Tryz.sizeOf198
  v45 := Tryz.zeroValue198
  t46 := Tryz.underlying199
  a46 := Tryz.isAgg199
  z46 := Tryz.sizeOf199
  v46 := Tryz.zeroValue199
  t50 := Tryz.underlying204
  a50 := Tryz.isAgg204
  z50 := Tryz.sizeOf204
  v50 := Tryz.zeroValue204
  t53 := Tryz.underlying194
  a53 := Tryz.isAgg194
  z53 := Tryz.sizeOf194
  v53 := Tryz.zeroValue194
  t55 := Tryz.underlying172
  a55 := Tryz.isAgg172
  z55 := Tryz.sizeOf172
  v55 := Tryz.zeroValue172
  t66 := Tryz.underlying214
  a66 := Tryz.isAgg214
  z66 := Tryz.sizeOf214
  v66 := Tryz.zeroValue214
  t70 := Tryz.underlying218
  a70 := Tryz.isAgg218
  z70 := Tryz.sizeOf218
  v70 := Tryz.zeroValue218
  t76 := Tryz.underlying229
  a76 := Tryz.isAgg229
  z76 := Tryz.sizeOf229
  v76 := Tryz.zeroValue229
  t77 := Tryz.underlying99
  a77 := Tryz.isAgg99
  z77 := Tryz.sizeOf99
  v77 := Tryz.zeroValue99 }
end Go.Proofs
namespace Go.Abs
open Go.Proofs Go.RowKit
def G (w : World) : Prop := Lib.TabIs Tryz.prog w TH .u64 Lib.pow10Tab
theorem ao6 {w : World} (h : G w) : Good G w := by
  refine⟨h, fun w w' hg hw =>?_⟩;unfold G Lib.TabIs World.var? at hw⊢;cases hn : Tryz.prog.globalNamed TH with
  | none => rw [hn]at hw; cases hw
  | some g =>
    rw [hn]at hw;simp only [Option.bind_some]at hw⊢;cases hb : w.heap[g]? with
    | none => rw [hb]at hw; cases hw
    | some o => rw [hg.keep g (vR hb)]; exact hw

theorem adL : Tryz.prog.follows .mixedOrders = true := by kernel_rfl
noncomputable def S0 : Sys := { S with prim := fun _ _ => none, trig := fun _ _ => false }
theorem aj7 : Jd S0 G := ⟨adL, fun _ _ h => h, fun f vs r h => (by cases h), fun _ _ _ _ _ _ h => (by cases h)⟩
theorem MI {f : Nat}{fn : Func} (h : Tryz.prog.funcs[f]?= some fn) (hb : fn.body.isSome = true) (hn : (fn.name == "runtime.NumGoroutine") = false) : Enters Tryz.prog f := by
  cases hc : fn.body with
  | none => rw [hc]at hb; cases hb
  | some c => exact⟨fn, c, h, hc, hn⟩

theorem aa5 {f n : Nat}{z i g z' : Nat}{b : BL} (he : Enters Tryz.prog f) (h1 : DC S0 n f [.one (.p .nils)] = some (.one (.p .nils)))
    (h2 : BM S0 n f [.one (.hsl 0 0 z 0 0)] .all [] = some (.one (.hsl i g z' 0 0), b)) {fn : aV} (hfn : DF Tryz.prog f = some fn) {args : List V}{r : RV} (h : S5 args = some (some r)) :
    Enters Tryz.prog f ∧ ∀(w : World) (O : Nat → Prop) (ar : Array Value), Good G w → (∀c, O c → c < w.heap.size) → Pw (tv w O) args ar.toList → Calls Tryz.prog f ar w (xP w O r) :=
  ⟨he, atY (S := S0) aj7 (n := n) hfn ((UX S0 n).1 _ _ _ h1) ((UX S0 n).2 _ _ _ _ _ _ h2) h⟩

theorem Ty {α : Type}{x : Option α} (h : x.isSome = true) :∃y, x = some y := by
  cases x with
  | none => cases h
  | some y => exact⟨y, rfl⟩

theorem asx :∀ {l : List Nat}{f : Nat}, Ip l f = true → f ∈ l := by
  intro l
  induction l with
  | nil => intro f h; cases h
  | cons a l ih =>
    intro f h;simp only [Ip]at h;cases hb : Nat.beq a f with
    | true => rw [Nat.eq_of_beq_eq_true hb]; simp
    | false => rw [hb]at h; exact List.mem_cons_of_mem _ (ih h)

theorem at3 : ZM S G := by
  intro f vs r h;have h : XQ f vs = some (some r) := h;unfold XQ at h;cases e1 : Nat.beq f 38 with
  | true =>rw [e1]at h;obtain rfl := Nat.eq_of_beq_eq_true e1;simp only [cond_true, Option.some.injEq]at h;exact⟨MI Tryz.func38 (by kernel_rfl) (by kernel_rfl), fun w O ar hg _ ha => atZ (G := G) (fun _ h => h) (fun n h0 h1 w ht => Tryz.strconv_Itoa n h0 h1 w ht) h w O ar hg ha⟩
  | false =>
    rw [e1]at h;simp only [cond_false]at h;cases e2 : Nat.beq f 40 with
    | true =>rw [e2]at h;obtain rfl := Nat.eq_of_beq_eq_true e2;simp only [cond_true, Option.some.injEq]at h;exact⟨MI Tryz.func40 (by kernel_rfl) (by kernel_rfl), fun w O ar _ _ ha => at0 Tryz.strings_Join_none Tryz.strings_Join h w O ar ha⟩
    | false =>
      rw [e2]at h;simp only [cond_false]at h;cases e3 : Nat.beq f 144 with
      | true =>rw [e3]at h;obtain rfl := Nat.eq_of_beq_eq_true e3;simp only [cond_true, Option.some.injEq]at h;exact⟨MI Tryz.func144 (by kernel_rfl) (by kernel_rfl), fun w O ar _ _ ha => atX (fun x w h0 h1 => Tryz.bits_Len x w h0 h1) h w O ar ha⟩
      | false =>
        rw [e3]at h;simp only [cond_false]at h;cases e4 : Ip [22, 108] f with
        | false =>rw [e4]at h;cases h
        | true =>
          rw [e4]at h;simp only [cond_true]at h;have hm := asx e4;simp only [List.mem_cons, List.not_mem_nil, or_false]at hm;rcases hm with rfl | rfl
          · obtain⟨fn, hfn⟩ := Ty (x := DF Tryz.prog 22) (by kernel_rfl)
            obtain⟨⟨v, b⟩, hb⟩ := Ty (x := BM S0 9 22 [.one (.hsl 0 0 6 0 0)] .all []) (by kernel_rfl);have hv : (BM S0 9 22 [.one (.hsl 0 0 6 0 0)] .all []).map (·.1) = some (.one (.hsl 1408192128 1 6 0 0)) := by kernel_rfl
            rw [hb]at hv;cases hv;exact aa5 (MI Tryz.func22 (by kernel_rfl) (by kernel_rfl)) (n := 9) (by kernel_rfl) hb hfn h
          · obtain⟨fn, hfn⟩ := Ty (x := DF Tryz.prog 108) (by kernel_rfl)
            obtain⟨⟨v, b⟩, hb⟩ := Ty (x := BM S0 9 108 [.one (.hsl 0 0 7 0 0)] .all []) (by kernel_rfl);have hv : (BM S0 9 108 [.one (.hsl 0 0 7 0 0)] .all []).map (·.1) = some (.one (.hsl 6912192128 1 7 0 0)) := by kernel_rfl
            rw [hb]at hv;cases hv;exact aa5 (MI Tryz.func108 (by kernel_rfl) (by kernel_rfl)) (n := 9) (by kernel_rfl) hb hfn h

end Go.Abs
namespace Go.Abs
open Go.Proofs Go.Sort Go.RowKit Go.Lib
set_option maxHeartbeats 2000000 in
theorem ame (x y : zi) (W : World) : Calls Tryz.prog 123 #[.agg #[.int .i64 x.1.1,.int .i64 x.1.2],.agg #[.int .i64 y.1.1,.int .i64 y.1.2]] W fun e w' => e =.returned (.int .i64 (BN x y)) ∧ ∃q os', w' = grow (W.drewN q) os' := by
  obtain⟨⟨a, b⟩, hx⟩ := x;obtain⟨⟨c, d⟩, hy⟩ := y;simp only [Bw, Bool.and_eq_true, decide_eq_true_eq]at hx hy;unfold BN;dsimp only;by_cases h : a = c
  · subst h
    rw [if_pos rfl]
    go_enter Tryz.func123, Tryz.ntmps123
    go_wp2
    go_ret
    exact⟨rfl, 0, _, by rw [alloc_eq_grow, alloc_eq_grow, grow_grow]; rfl⟩
  · rw [if_neg h]
    go_enter Tryz.func123, Tryz.ntmps123
    go_wp2
    go_ret
    exact⟨rfl, 0, _, by rw [alloc_eq_grow, alloc_eq_grow, grow_grow]; rfl⟩
theorem awo : ZZ Tryz.prog mS 122 123 := by
  refine⟨?_, fun w =>?_, fun w blk cap d hH hblk hsz hsm =>?_⟩
  · have h : (Tryz.f122.body).isSome = true := by kernel_rfl
    cases hc : Tryz.f122.body with
    | none => rw [hc]at h; cases h
    | some c => exact⟨Tryz.f122, c, Tryz.func122, hc, by kernel_rfl⟩
  · exact AnyF.slices_SortFunc_none { Tryz.ail with } none 0 _ w
  · obtain⟨d', rfl⟩ := ar7 d hsm
    have eg :∀args w, (callFunc 123 args).run Tryz.prog w =.ok (.enter 123 args) w := Go.Proofs.enters_of Tryz.func123 (by kernel_rfl) rfl;have hcon := AnyQ.slices_SortFunc_total Tryz.ail 2 Tryz.isAgg143 Tryz.sizeOf143 QP (fun _ => rfl) (fun x v hv => by simp [rD]at hv; rcases hv with rfl | rfl <;> rfl) BN swoP 123 #[] blk 0 cap d' w eg (fun _ _ _ _ x y => ame x y _) (aqh hH) hblk (by simpa using hsz) totP
    rw [Array.size_map];refine hcon.mono ?_;rintro e w' ⟨rfl, n, os, rfl⟩
    refine⟨rfl, n, os, ?_⟩;unfold sortWorldK;rw [putS]
theorem S_ok : Jd S G := ⟨adL, fun _ _ h => h, at3, awj awo rfl rfl⟩
end Go.Abs
