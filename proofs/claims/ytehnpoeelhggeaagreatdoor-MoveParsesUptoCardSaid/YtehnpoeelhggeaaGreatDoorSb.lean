/-
  The program of this seat as a system of the abstract machine.
-/
import Derived.Test.YtehnpoeelhggeaaGreatDoorMd
import Derived.Test.YtehnpoeelhggeaaGreatDoorMc
import Derived.Test.YtehnpoeelhggeaaGreatDoorMf
import Derived.KernelRfl
import Derived.Test.YtehnpoeelhggeaaGreatDoorProg
import Derived.Shelf.Strings.OnBuilder
import Derived.Shelf.Small.Bits
import Derived.Shelf.Strconv.Itoa3
import Derived.Test.YtehnpoeelhggeaaGreatDoorRows
import Derived.Shelf.LaysM
import Derived.Shelf.LaysC
import Derived.Shelf.Strconv.AtoiAll
import Derived.Shelf.Strconv.ErrVarAll
import Derived.Shelf.Strings.SplitShaped
import Derived.LaidLaws
set_option linter.unusedSimpArgs false
set_option linter.unusedVariables false
set_option linter.unusedSectionVars false
namespace Go.Abs
open Go.Proofs
def memN : List Nat → Nat → Bool
  | [], _ => false
  | a :: r, n => bif Nat.beq a n then true else memN r n
def lookN : List (Nat × List Nat) → Nat → List Nat
  | [], _ => []
  | (a, l) :: r, n => bif Nat.beq a n then l else lookN r n
def sharedT : List Nat := [145, 174, 177, 183, 195, 198, 204, 217, 238, 245, 247, 249, 254, 258, 267, 268, 273, 274, 288, 294, 295, 296, 297, 298, 299, 300, 301, 303, 304, 305, 306, 307, 308, 309, 310, 313, 317, 325, 329, 331, 332, 333, 334, 335, 336, 337, 338, 339, 340, 341, 342, 344, 345, 347, 349, 351, 352, 353, 354, 355, 356, 357, 358, 359, 360, 361, 362, 363, 365, 366, 367, 368, 369, 370, 371, 372, 373, 374, 375, 376, 377, 378, 379, 380, 381, 382]
def sitesT : List (Nat × List Nat) := [(145, [145, 195, 247, 294, 295, 296, 297, 298, 299, 300, 301, 329, 331, 332, 333, 351]),
  (174, [174]),
  (177, [177]),
  (183, [183, 195, 238, 247, 294, 295, 296, 297, 298, 299, 300, 301, 329, 331, 332, 333, 351]),
  (195, [195, 247, 294, 295, 296, 297, 298, 299, 300, 301, 329, 331, 332, 333, 351]),
  (198, [198, 249, 303, 304, 305, 306, 307, 308, 309, 310, 331, 334, 335, 336, 352]),
  (204, [204, 245, 254]),
  (217, [217, 273, 274]),
  (238, [238]),
  (245, [245]),
  (247, [247, 294, 295, 296, 297, 298, 299, 300, 301, 329, 331, 332, 333, 351]),
  (249, [249, 303, 304, 305, 306, 307, 308, 309, 310, 331, 334, 335, 336, 352]),
  (254, [254]),
  (258, [258]),
  (267, [267]),
  (268, [268, 317, 331, 337, 338, 339, 340, 341, 342, 344, 345, 353, 354, 355, 366]),
  (273, [273]),
  (274, [274]),
  (288, [288]),
  (294, [294]),
  (295, [295, 329]),
  (296, [296, 331]),
  (297, [297, 332, 333, 351]),
  (298, [298]),
  (299, [299]),
  (300, [300]),
  (301, [301]),
  (303, [303]),
  (304, [304, 334]),
  (305, [305, 331]),
  (306, [306, 335, 336, 352]),
  (307, [307]),
  (308, [308]),
  (309, [309]),
  (310, [310]),
  (313, [313]),
  (317, [317, 331, 337, 338, 339, 340, 341, 342, 344, 345, 353, 354, 355, 366]),
  (325, [325, 331, 347, 356, 357, 358, 359, 360, 361, 362, 363, 367, 368, 369, 378]),
  (329, [329]),
  (331, [331]),
  (332, [332, 333, 351]),
  (333, [333, 351]),
  (334, [334]),
  (335, [335, 336, 352]),
  (336, [336, 352]),
  (337, [337]),
  (338, [338, 353]),
  (339, [331, 339]),
  (340, [340, 354, 355, 366]),
  (341, [341]),
  (342, [342]),
  (344, [344]),
  (345, [345]),
  (347, [331, 347, 356, 357, 358, 359, 360, 361, 362, 363, 367, 368, 369, 378]),
  (349, [331, 349, 365, 370, 371, 372, 373, 374, 375, 376, 377, 379, 380, 381, 382]),
  (351, [351]),
  (352, [352]),
  (353, [353]),
  (354, [354, 355, 366]),
  (355, [355, 366]),
  (356, [356]),
  (357, [357, 367]),
  (358, [331, 358]),
  (359, [359, 368, 369, 378]),
  (360, [360]),
  (361, [361]),
  (362, [362]),
  (363, [363]),
  (365, [331, 365, 370, 371, 372, 373, 374, 375, 376, 377, 379, 380, 381, 382]),
  (366, [366]),
  (367, [367]),
  (368, [368, 369, 378]),
  (369, [369, 378]),
  (370, [370]),
  (371, [371, 379]),
  (372, [331, 372]),
  (373, [373, 380, 381, 382]),
  (374, [374]),
  (375, [375]),
  (376, [376]),
  (377, [377]),
  (378, [378]),
  (379, [379]),
  (380, [380, 381, 382]),
  (381, [381, 382]),
  (382, [382])]
def loneT : List Nat := [171]
def prim0 (f : Nat) (args : List V) : Option (Option RV) :=
  bif Nat.beq f 47 then some (primItoa args)
  else bif Nat.beq f 49 then some (primJoin args)
  else bif Nat.beq f 248 then some (primBits args)
  else bif Nat.beq f 54 then some (primSplit args)
  else bif Nat.beq f 55 then some (primAtoi args)
  else bif memN [112, 148, 176, 260] f then primClone args
  else none
noncomputable def S : Sys := { P := Tryz.prog, shared := memN sharedT, sites := lookN sitesT, lone := fun s => memN loneT (s / 64000000), fns := compF Tryz.prog, prim := prim0 }
set_option maxRecDepth 100000
example : callPF S 10 10 [.one (.p (.int .i64 3))] = some (.one (.p (.int .i64 3))) := by kernel_rfl
end Go.Abs
namespace Go.Proofs
open Go.Shelf
/-- the name of the table of the powers of ten: the first that the row names -/
def tabName : String := YtehnpoeelhggeaaGreatDoor.Rows.moveKindsRow.named.headD default
def Tryz.lays156_ren : Go.Shelf.Ren := ⟨fun | 156 => 49 | 165 => 114 | 166 => 115 | 169 => 116 | 240 => 161 | 241 => 162 | 276 => 222 | 277 => 223 | n => n, fun | 31 => 66 | 9 => 9 | 3 => 3 | 4 => 4 | 0 => 0 | 20 => 20 | 72 => 149 | 76 => 78 | 70 => 146 | 37 => 147 | 75 => 77 | 127 => 213 | 164 => 268 | 5 => 5 | 80 => 151 | n => n, fun | n => n⟩
theorem Tryz.lays156 : Go.Proofs.Lays.n156 Tryz.prog Tryz.lays156_ren := {
  mixed := by kernel_rfl
  f156 := Tryz.func49.trans (congrArg some (by kernel_rfl))
  f165 := Tryz.func114.trans (congrArg some (by kernel_rfl))
  f166 := Tryz.func115.trans (congrArg some (by kernel_rfl))
  f169 := Tryz.func116.trans (congrArg some (by kernel_rfl))
  f240 := Tryz.func161.trans (congrArg some (by kernel_rfl))
  f241 := Tryz.func162.trans (congrArg some (by kernel_rfl))
  f276 := Tryz.func222.trans (congrArg some (by kernel_rfl))
  f277 := Tryz.func223.trans (congrArg some (by kernel_rfl))
  t0 := Tryz.underlying0
  a0 := Tryz.isAgg0
  z0 := Tryz.sizeOf0
  v0 := Tryz.zeroValue0
  t3 := Tryz.underlying3
  a3 := Tryz.isAgg3
  z3 := Tryz.sizeOf3
  v3 := Tryz.zeroValue3
  t4 := Tryz.underlying4
  a4 := Tryz.isAgg4
  z4 := Tryz.sizeOf4
  v4 := Tryz.zeroValue4
  t9 := Tryz.underlying9
  a9 := Tryz.isAgg9
  z9 := Tryz.sizeOf9
  v9 := Tryz.zeroValue9
  t20 := Tryz.underlying20
  a20 := Tryz.isAgg20
  z20 := Tryz.sizeOf20
  v20 := Tryz.zeroValue20
  t31 := Tryz.underlying66
  a31 := Tryz.isAgg66
  z31 := Tryz.sizeOf66
  v31 := Tryz.zeroValue66
  t37 := Tryz.underlying147
  a37 := Tryz.isAgg147
  z37 := Tryz.sizeOf147
  v37 := Tryz.zeroValue147
  t70 := Tryz.underlying146
  a70 := Tryz.isAgg146
  z70 := Tryz.sizeOf146
  v70 := Tryz.zeroValue146
  t72 := Tryz.underlying149
  a72 := Tryz.isAgg149
  z72 := Tryz.sizeOf149
  v72 := Tryz.zeroValue149
  t75 := Tryz.underlying77
  a75 := Tryz.isAgg77
  z75 := Tryz.sizeOf77
  v75 := Tryz.zeroValue77
  t76 := Tryz.underlying78
  a76 := Tryz.isAgg78
  z76 := Tryz.sizeOf78
  v76 := Tryz.zeroValue78
  t127 := Tryz.underlying213
  a127 := Tryz.isAgg213
  z127 := Tryz.sizeOf213
  v127 := Tryz.zeroValue213
  t164 := Tryz.underlying268
  a164 := Tryz.isAgg268
  z164 := Tryz.sizeOf268
  v164 := Tryz.zeroValue268 }
theorem Tryz.Builder_Extra_156 : Builder.Extra Tryz.prog Tryz.lays156_ren := {
  sizeBuilder := by kernel_rfl
  liesBuilder := by kernel_rfl
  t5 := Tryz.underlying5
  a5 := Tryz.isAgg5
  z5 := Tryz.sizeOf5
  v5 := Tryz.zeroValue5
  infoByte := by kernel_rfl
  cellsByte := by kernel_rfl
  sizeByte := by kernel_rfl
  neB5 := by decide }
def Tryz.laysM171_ren : Go.Shelf.Ren := ⟨fun | 171 => 47 | 243 => 113 | 246 => 160 | 283 => 218 | 284 => 219 | 285 => 220 | 286 => 221 | 129 => 277 | 317 => 276 | 318 => 278 | 319 => 279 | 320 => 280 | 337 => 320 | 338 => 321 | n => n, fun | 3 => 3 | 9 => 9 | 2 => 2 | 4 => 4 | 171 => 262 | 0 => 0 | 53 => 263 | 37 => 147 | 5 => 5 | 173 => 266 | 212 => 327 | 51 => 328 | 20 => 20 | 213 => 329 | 46 => 277 | 232 => 384 | 233 => 385 | n => n, fun | 17 => 2 | 18 => 6 | 19 => 7 | n => n⟩
theorem Tryz.laysM171 : Go.Proofs.LaysM.n171 Tryz.prog Tryz.laysM171_ren := {
  mixed := by kernel_rfl
  f129 := Tryz.func277.trans (congrArg some (by kernel_rfl))
  f171 := Tryz.func47.trans (congrArg some (by kernel_rfl))
  f243 := Tryz.func113.trans (congrArg some (by kernel_rfl))
  f246 := Tryz.func160.trans (congrArg some (by kernel_rfl))
  f283 := Tryz.func218.trans (congrArg some (by kernel_rfl))
  f284 := Tryz.func219.trans (congrArg some (by kernel_rfl))
  f285 := Tryz.func220.trans (congrArg some (by kernel_rfl))
  f286 := Tryz.func221.trans (congrArg some (by kernel_rfl))
  f317 := Tryz.func276.trans (congrArg some (by kernel_rfl))
  f318 := Tryz.func278.trans (congrArg some (by kernel_rfl))
  f319 := Tryz.func279.trans (congrArg some (by kernel_rfl))
  f320 := Tryz.func280.trans (congrArg some (by kernel_rfl))
  f337 := Tryz.func320.trans (congrArg some (by kernel_rfl))
  f338 := Tryz.func321.trans (congrArg some (by kernel_rfl))
  t0 := Tryz.underlying0
  a0 := Tryz.isAgg0
  z0 := Tryz.sizeOf0
  v0 := Tryz.zeroValue0
  t2 := Tryz.underlying2
  a2 := Tryz.isAgg2
  z2 := Tryz.sizeOf2
  v2 := Tryz.zeroValue2
  t3 := Tryz.underlying3
  a3 := Tryz.isAgg3
  z3 := Tryz.sizeOf3
  v3 := Tryz.zeroValue3
  t4 := Tryz.underlying4
  a4 := Tryz.isAgg4
  z4 := Tryz.sizeOf4
  v4 := Tryz.zeroValue4
  t5 := Tryz.underlying5
  a5 := Tryz.isAgg5
  z5 := Tryz.sizeOf5
  v5 := Tryz.zeroValue5
  t9 := Tryz.underlying9
  a9 := Tryz.isAgg9
  z9 := Tryz.sizeOf9
  v9 := Tryz.zeroValue9
  t20 := Tryz.underlying20
  a20 := Tryz.isAgg20
  z20 := Tryz.sizeOf20
  v20 := Tryz.zeroValue20
  t37 := Tryz.underlying147
  a37 := Tryz.isAgg147
  z37 := Tryz.sizeOf147
  v37 := Tryz.zeroValue147
  t46 := Tryz.underlying277
  a46 := Tryz.isAgg277
  z46 := Tryz.sizeOf277
  v46 := Tryz.zeroValue277
  t51 := Tryz.underlying328
  a51 := Tryz.isAgg328
  z51 := Tryz.sizeOf328
  v51 := Tryz.zeroValue328
  t53 := Tryz.underlying263
  a53 := Tryz.isAgg263
  z53 := Tryz.sizeOf263
  v53 := Tryz.zeroValue263
  t171 := Tryz.underlying262
  a171 := Tryz.isAgg262
  z171 := Tryz.sizeOf262
  v171 := Tryz.zeroValue262
  t173 := Tryz.underlying266
  a173 := Tryz.isAgg266
  z173 := Tryz.sizeOf266
  v173 := Tryz.zeroValue266
  t212 := Tryz.underlying327
  a212 := Tryz.isAgg327
  z212 := Tryz.sizeOf327
  v212 := Tryz.zeroValue327
  t213 := Tryz.underlying329
  a213 := Tryz.isAgg329
  z213 := Tryz.sizeOf329
  t232 := Tryz.underlying384
  a232 := Tryz.isAgg384
  z232 := Tryz.sizeOf384
  v232 := Tryz.zeroValue384
  t233 := Tryz.underlying385
  a233 := Tryz.isAgg385
  z233 := Tryz.sizeOf385
  v233 := Tryz.zeroValue385
  g17 := by kernel_rfl
  g18 := by kernel_rfl
  g19 := by kernel_rfl
  i0 := by kernel_rfl
  i2 := by kernel_rfl
  i3 := by kernel_rfl
  i4 := by kernel_rfl
  i5 := by kernel_rfl
  i9 := by kernel_rfl
  i20 := by kernel_rfl
  i37 := by kernel_rfl
  i46 := by kernel_rfl
  i51 := by kernel_rfl
  i53 := by kernel_rfl
  i171 := by kernel_rfl
  i173 := by kernel_rfl
  i212 := by kernel_rfl
  i232 := by kernel_rfl
  i233 := by kernel_rfl
  m17 := by kernel_rfl
  m18 := by kernel_rfl
  m19 := by kernel_rfl }
def Tryz.lays125_ren : Go.Shelf.Ren := ⟨fun | 125 => 248 | 128 => 302 | 129 => 277 | n => n, fun | 46 => 277 | 3 => 3 | 51 => 328 | 53 => 263 | 4 => 4 | 5 => 5 | 9 => 9 | n => n, fun | n => n⟩
theorem Tryz.lays125 : Go.Proofs.Lays.n125 Tryz.prog Tryz.lays125_ren := {
  mixed := by kernel_rfl
  f125 := Tryz.func248.trans (congrArg some (by kernel_rfl))
  f128 := Tryz.func302.trans (congrArg some (by kernel_rfl))
  f129 := Tryz.func277.trans (congrArg some (by kernel_rfl))
  t3 := Tryz.underlying3
  a3 := Tryz.isAgg3
  z3 := Tryz.sizeOf3
  v3 := Tryz.zeroValue3
  t4 := Tryz.underlying4
  a4 := Tryz.isAgg4
  z4 := Tryz.sizeOf4
  v4 := Tryz.zeroValue4
  t5 := Tryz.underlying5
  a5 := Tryz.isAgg5
  z5 := Tryz.sizeOf5
  v5 := Tryz.zeroValue5
  t9 := Tryz.underlying9
  a9 := Tryz.isAgg9
  z9 := Tryz.sizeOf9
  v9 := Tryz.zeroValue9
  t46 := Tryz.underlying277
  a46 := Tryz.isAgg277
  z46 := Tryz.sizeOf277
  v46 := Tryz.zeroValue277
  t51 := Tryz.underlying328
  a51 := Tryz.isAgg328
  z51 := Tryz.sizeOf328
  v51 := Tryz.zeroValue328
  t53 := Tryz.underlying263
  a53 := Tryz.isAgg263
  z53 := Tryz.sizeOf263
  v53 := Tryz.zeroValue263 }
open Go.RowKit in
theorem Tryz.strings_Join_none (a : Option Addr) (c : Nat) (sep : ByteArray) (w : World) :
    Calls Tryz.prog 49 #[.slice a 0 c, .string sep] w fun e w' => e = .returned (.string ⟨#[]⟩) ∧ w' = w := Any.strings_Join_none Tryz.lays156 Tryz.Builder_Extra_156 a c sep w
open Go.RowKit in
theorem Tryz.strings_Join (bk o c : Nat) (xs : List ByteArray) (sep : ByteArray) (w : World) (hcells : ∀ (j : Nat) x, xs[j]? = some x → w.cell? ⟨bk, o + j, none⟩ = some (.string x)) (hbk : bk < w.heap.size) (hN : xs.length ≤ 140737488355328) (hcap : xs.length ≤ c) (hlen : (Lib.join (xs.map (·.data.toList)) sep.data.toList).length ≤ 140737488355328) :
    Calls Tryz.prog 49 #[.slice (some ⟨bk, o, none⟩) xs.length c, .string sep] w fun e w' => e = .returned (.string ⟨(Lib.join (xs.map (·.data.toList)) sep.data.toList).toArray⟩) ∧ Below w.heap.size w w' := Any.strings_Join Tryz.lays156 Tryz.Builder_Extra_156 bk o c xs sep w hcells hbk hN hcap hlen
open Go.RowKit Go.Sort Go.Lib in
theorem Tryz.strconv_Itoa (n : Int) (h0 : -9223372036854775808 ≤ n) (h1 : n ≤ 9223372036854775807) (w : World) (htab : Lib.TabIs Tryz.prog w tabName .u64 Lib.pow10Tab) :
    Calls Tryz.prog 47 #[.int .i64 n] w fun e w' => e = .returned (.string ⟨(Lib.itoa n).toArray⟩) ∧ ∃ k os, w' = grow (w.drewN k) os := Any.strconv_Itoa Tryz.laysM171 n h0 h1 w htab
open Go.RowKit in
theorem Tryz.bits_Len (x : Int) (w : World) (h0 : 0 ≤ x) (h1 : x ≤ 18446744073709551615) :
    Calls Tryz.prog 248 #[.int .u64 x] w fun e w' => e = .returned (.int .i64 (Lib.bitLen x.toNat)) ∧ w' = w := Any.bits_Len Tryz.lays125 x w h0 h1
end Go.Proofs
namespace Go.Proofs
open Go.Shelf
def Tryz.laysC172_ren : Go.Shelf.Ren := ⟨fun | 172 => 55 | 244 => 119 | 245 => 120 | 247 => 166 | 279 => 167 | 280 => 168 | 281 => 169 | 282 => 170 | 287 => 228 | 316 => 229 | 171 => 47 | 205 => 230 | 321 => 286 | 322 => 287 | 243 => 113 | 246 => 160 | 283 => 218 | 284 => 219 | 285 => 220 | 286 => 221 | 129 => 277 | 317 => 276 | 318 => 278 | 319 => 279 | 320 => 280 | 337 => 320 | 338 => 321 | n => n, fun | 9 => 9 | 3 => 3 | 75 => 77 | 76 => 78 | 4 => 4 | 5 => 5 | 167 => 216 | 37 => 147 | 0 => 0 | 85 => 217 | 2 => 2 | 168 => 219 | 53 => 263 | 175 => 275 | 46 => 277 | 210 => 280 | 127 => 213 | 145 => 333 | 143 => 331 | 21 => 21 | 171 => 262 | 173 => 266 | 212 => 327 | 51 => 328 | 20 => 20 | 213 => 329 | 232 => 384 | 233 => 385 | 80 => 151 | n => n, fun | 15 => 0 | 16 => 1 | 17 => 2 | 18 => 6 | 19 => 7 | n => n⟩
theorem Tryz.laysC172 : Go.Proofs.LaysC.n172 Tryz.prog Tryz.laysC172_ren := {
  mixed := by kernel_rfl
  f129 := Tryz.func277.trans (congrArg some (by kernel_rfl))
  f171 := Tryz.func47.trans (congrArg some (by kernel_rfl))
  f172 := Tryz.func55.trans (congrArg some (by kernel_rfl))
  f205 := Tryz.func230.trans (congrArg some (by kernel_rfl))
  f243 := Tryz.func113.trans (congrArg some (by kernel_rfl))
  f244 := Tryz.func119.trans (congrArg some (by kernel_rfl))
  f245 := Tryz.func120.trans (congrArg some (by kernel_rfl))
  f246 := Tryz.func160.trans (congrArg some (by kernel_rfl))
  f247 := Tryz.func166.trans (congrArg some (by kernel_rfl))
  f279 := Tryz.func167.trans (congrArg some (by kernel_rfl))
  f280 := Tryz.func168.trans (congrArg some (by kernel_rfl))
  f281 := Tryz.func169.trans (congrArg some (by kernel_rfl))
  f282 := Tryz.func170.trans (congrArg some (by kernel_rfl))
  f283 := Tryz.func218.trans (congrArg some (by kernel_rfl))
  f284 := Tryz.func219.trans (congrArg some (by kernel_rfl))
  f285 := Tryz.func220.trans (congrArg some (by kernel_rfl))
  f286 := Tryz.func221.trans (congrArg some (by kernel_rfl))
  f287 := Tryz.func228.trans (congrArg some (by kernel_rfl))
  f316 := Tryz.func229.trans (congrArg some (by kernel_rfl))
  f317 := Tryz.func276.trans (congrArg some (by kernel_rfl))
  f318 := Tryz.func278.trans (congrArg some (by kernel_rfl))
  f319 := Tryz.func279.trans (congrArg some (by kernel_rfl))
  f320 := Tryz.func280.trans (congrArg some (by kernel_rfl))
  f321 := Tryz.func286.trans (congrArg some (by kernel_rfl))
  f322 := Tryz.func287.trans (congrArg some (by kernel_rfl))
  f337 := Tryz.func320.trans (congrArg some (by kernel_rfl))
  f338 := Tryz.func321.trans (congrArg some (by kernel_rfl))
  t0 := Tryz.underlying0
  a0 := Tryz.isAgg0
  z0 := Tryz.sizeOf0
  v0 := Tryz.zeroValue0
  t2 := Tryz.underlying2
  a2 := Tryz.isAgg2
  z2 := Tryz.sizeOf2
  v2 := Tryz.zeroValue2
  t3 := Tryz.underlying3
  a3 := Tryz.isAgg3
  z3 := Tryz.sizeOf3
  v3 := Tryz.zeroValue3
  t4 := Tryz.underlying4
  a4 := Tryz.isAgg4
  z4 := Tryz.sizeOf4
  v4 := Tryz.zeroValue4
  t5 := Tryz.underlying5
  a5 := Tryz.isAgg5
  z5 := Tryz.sizeOf5
  v5 := Tryz.zeroValue5
  t9 := Tryz.underlying9
  a9 := Tryz.isAgg9
  z9 := Tryz.sizeOf9
  v9 := Tryz.zeroValue9
  t20 := Tryz.underlying20
  a20 := Tryz.isAgg20
  z20 := Tryz.sizeOf20
  v20 := Tryz.zeroValue20
  t21 := Tryz.underlying21
  a21 := Tryz.isAgg21
  z21 := Tryz.sizeOf21
  v21 := Tryz.zeroValue21
  t37 := Tryz.underlying147
  a37 := Tryz.isAgg147
  z37 := Tryz.sizeOf147
  v37 := Tryz.zeroValue147
  t46 := Tryz.underlying277
  a46 := Tryz.isAgg277
  z46 := Tryz.sizeOf277
  v46 := Tryz.zeroValue277
  t51 := Tryz.underlying328
  a51 := Tryz.isAgg328
  z51 := Tryz.sizeOf328
  v51 := Tryz.zeroValue328
  t53 := Tryz.underlying263
  a53 := Tryz.isAgg263
  z53 := Tryz.sizeOf263
  v53 := Tryz.zeroValue263
  t75 := Tryz.underlying77
  a75 := Tryz.isAgg77
  z75 := Tryz.sizeOf77
  v75 := Tryz.zeroValue77
  t76 := Tryz.underlying78
  a76 := Tryz.isAgg78
  z76 := Tryz.sizeOf78
  v76 := Tryz.zeroValue78
  t85 := Tryz.underlying217
  a85 := Tryz.isAgg217
  z85 := Tryz.sizeOf217
  v85 := Tryz.zeroValue217
  t127 := Tryz.underlying213
  a127 := Tryz.isAgg213
  z127 := Tryz.sizeOf213
  v127 := Tryz.zeroValue213
  t143 := Tryz.underlying331
  a143 := Tryz.isAgg331
  z143 := Tryz.sizeOf331
  v143 := Tryz.zeroValue331
  t145 := Tryz.underlying333
  a145 := Tryz.isAgg333
  z145 := Tryz.sizeOf333
  v145 := Tryz.zeroValue333
  t167 := Tryz.underlying216
  a167 := Tryz.isAgg216
  z167 := Tryz.sizeOf216
  v167 := Tryz.zeroValue216
  t168 := Tryz.underlying219
  a168 := Tryz.isAgg219
  z168 := Tryz.sizeOf219
  v168 := Tryz.zeroValue219
  t171 := Tryz.underlying262
  a171 := Tryz.isAgg262
  z171 := Tryz.sizeOf262
  v171 := Tryz.zeroValue262
  t173 := Tryz.underlying266
  a173 := Tryz.isAgg266
  z173 := Tryz.sizeOf266
  v173 := Tryz.zeroValue266
  t175 := Tryz.underlying275
  a175 := Tryz.isAgg275
  z175 := Tryz.sizeOf275
  v175 := Tryz.zeroValue275
  t210 := Tryz.underlying280
  a210 := Tryz.isAgg280
  z210 := Tryz.sizeOf280
  v210 := Tryz.zeroValue280
  t212 := Tryz.underlying327
  a212 := Tryz.isAgg327
  z212 := Tryz.sizeOf327
  v212 := Tryz.zeroValue327
  t213 := Tryz.underlying329
  a213 := Tryz.isAgg329
  z213 := Tryz.sizeOf329
  t232 := Tryz.underlying384
  a232 := Tryz.isAgg384
  z232 := Tryz.sizeOf384
  v232 := Tryz.zeroValue384
  t233 := Tryz.underlying385
  a233 := Tryz.isAgg385
  z233 := Tryz.sizeOf385
  v233 := Tryz.zeroValue385
  g15 := by kernel_rfl
  g16 := by kernel_rfl
  g17 := by kernel_rfl
  g18 := by kernel_rfl
  g19 := by kernel_rfl
  t80 := Tryz.underlying151
  a80 := Tryz.isAgg151
  z80 := Tryz.sizeOf151
  v80 := Tryz.zeroValue151
  i0 := by kernel_rfl
  i2 := by kernel_rfl
  i3 := by kernel_rfl
  i4 := by kernel_rfl
  i5 := by kernel_rfl
  i9 := by kernel_rfl
  i20 := by kernel_rfl
  i21 := by kernel_rfl
  i37 := by kernel_rfl
  i46 := by kernel_rfl
  i51 := by kernel_rfl
  i53 := by kernel_rfl
  i75 := by kernel_rfl
  i76 := by kernel_rfl
  i80 := by kernel_rfl
  i85 := by kernel_rfl
  i127 := by kernel_rfl
  i143 := by kernel_rfl
  i145 := by kernel_rfl
  i167 := by kernel_rfl
  i168 := by kernel_rfl
  i171 := by kernel_rfl
  i173 := by kernel_rfl
  i175 := by kernel_rfl
  i210 := by kernel_rfl
  i212 := by kernel_rfl
  i232 := by kernel_rfl
  i233 := by kernel_rfl
  m15 := by kernel_rfl
  m16 := by kernel_rfl
  m17 := by kernel_rfl
  m18 := by kernel_rfl
  m19 := by kernel_rfl
  c0 := by kernel_rfl
  c2 := by kernel_rfl
  c3 := by kernel_rfl
  c4 := by kernel_rfl
  c5 := by kernel_rfl
  c9 := by kernel_rfl
  c20 := by kernel_rfl
  c21 := by kernel_rfl
  c37 := by kernel_rfl
  c46 := by kernel_rfl
  c51 := by kernel_rfl
  c53 := by kernel_rfl
  c75 := by kernel_rfl
  c76 := by kernel_rfl
  c80 := by kernel_rfl
  c85 := by kernel_rfl
  c127 := by kernel_rfl
  c143 := by kernel_rfl
  c145 := by kernel_rfl
  c167 := by kernel_rfl
  c168 := by kernel_rfl
  c171 := by kernel_rfl
  c173 := by kernel_rfl
  c175 := by kernel_rfl
  c210 := by kernel_rfl
  c212 := by kernel_rfl
  c213 := by kernel_rfl
  c232 := by kernel_rfl
  c233 := by kernel_rfl }
open Go.RowKit in
/-- strconv.Atoi, AT EVERY STRING THAT SPELLS AN int ('Lib.atoiAll .. = .ok v'; of whatever length: leading zeros count): v, AND NO ERROR. The world: as it was, or with the one new row that '[]byte(..)' lays. (LAID: no walk: one application.) -/
theorem Tryz.strconv_Atoi_ok (s : ByteArray) (hmax : s.size ≤ 9223372036854775806) (v : Int) (h : Lib.atoiAll s.data.toList = .ok v) (w : World) :
    Calls Tryz.prog 55 #[.string s] w fun e w' => e = .returned (.tuple #[.int .i64 v, .nilIface]) ∧ (w' = w ∨ ∃ t, w' = Lib.bytesWorld w 5 t) := Any.strconv_Atoi_ok Tryz.laysC172 s hmax v h w
open Go.RowKit in
/-- strconv.Atoi, AT EVERY STRING THAT IS NO DECIMAL NUMERAL : 0, AND AN ERROR THAT IS NOT nil: a *NumError in a new block N: {Func: "Atoi", Num: s's bytes, Err: what the variable ErrSyntax holds}. Of what was there nothing has turned. (LAID: no walk: one application.) -/
theorem Tryz.strconv_Atoi_none (s : ByteArray) (hlim : s.size ≤ 281474976710656) (h : Lib.atoiAll s.data.toList = Lib.atoiAll []) (ev : Value) (w : World) (hv : w.cell? ⟨0, 0, none⟩ = some ev) (hev : ev = .nilIface ∨ ∃ te pe, ev = .iface te pe) :
    Calls Tryz.prog 55 #[.string s] w fun e w' => ∃ N, e = .returned (.tuple #[.int .i64 (0), .iface 219 (.pointer (some ⟨N, 0, none⟩))]) ∧ w.heap.size ≤ N ∧ w'.heap[N]? = some (.cells #[.string ⟨#[65, 116, 111, 105]⟩, .string s, ev] 280 (0, 0)) ∧ Below w.heap.size w w' := Any.strconv_Atoi_syntax Tryz.laysC172 s hlim h ev w hv hev
open Go.RowKit in
/-- strconv.Atoi, AT EVERY NUMERAL THAT NO int HOLDS ('.range'): THE GREATEST OR THE LEAST int, BY THE SIGN ('Lib.atoiSat'), AND AN ERROR THAT IS NOT nil: a *NumError in a new block N: {Func: "Atoi", Num: s's bytes, Err: what the variable ErrRange holds}. Of what was there nothing has turned. (LAID: no walk: one application.) -/
theorem Tryz.strconv_Atoi_range (s : ByteArray) (hlim : s.size ≤ 281474976710656) (h : Lib.atoiAll s.data.toList = .range) (ev : Value) (w : World) (hv : w.cell? ⟨1, 0, none⟩ = some ev) (hev : ev = .nilIface ∨ ∃ te pe, ev = .iface te pe) :
    Calls Tryz.prog 55 #[.string s] w fun e w' => ∃ N, e = .returned (.tuple #[.int .i64 (Lib.atoiSat s.data.toList), .iface 219 (.pointer (some ⟨N, 0, none⟩))]) ∧ w.heap.size ≤ N ∧ w'.heap[N]? = some (.cells #[.string ⟨#[65, 116, 111, 105]⟩, .string s, ev] 280 (0, 0)) ∧ Below w.heap.size w w' := Any.strconv_Atoi_range Tryz.laysC172 s hlim h ev w hv hev
def Tryz.lays146_ren : Go.Shelf.Ren := ⟨fun | 146 => 54 | 221 => 118 | 268 => 163 | 138 => 164 | 143 => 165 | 195 => 224 | 197 => 225 | 218 => 226 | 219 => 227 | 260 => 281 | 217 => 282 | 225 => 283 | 224 => 284 | 267 => 285 | 266 => 322 | 314 => 323 | n => n, fun | 9 => 9 | 31 => 66 | 3 => 3 | 4 => 4 | 0 => 0 | 105 => 272 | 21 => 21 | 5 => 5 | 46 => 277 | 119 => 359 | 139 => 362 | 138 => 361 | 146 => 363 | 51 => 328 | n => n, fun | 1 => 3 | 3 => 4 | 4 => 5 | n => n⟩
theorem Tryz.lays146 : Go.Proofs.Lays.n146 Tryz.prog Tryz.lays146_ren := {
  mixed := by kernel_rfl
  f138 := Tryz.func164.trans (congrArg some (by kernel_rfl))
  f143 := Tryz.func165.trans (congrArg some (by kernel_rfl))
  f146 := Tryz.func54.trans (congrArg some (by kernel_rfl))
  f195 := Tryz.func224.trans (congrArg some (by kernel_rfl))
  f197 := Tryz.func225.trans (congrArg some (by kernel_rfl))
  f217 := Tryz.func282.trans (congrArg some (by kernel_rfl))
  f218 := Tryz.func226.trans (congrArg some (by kernel_rfl))
  f219 := Tryz.func227.trans (congrArg some (by kernel_rfl))
  f221 := Tryz.func118.trans (congrArg some (by kernel_rfl))
  f224 := Tryz.func284.trans (congrArg some (by kernel_rfl))
  f225 := Tryz.func283.trans (congrArg some (by kernel_rfl))
  f260 := Tryz.func281.trans (congrArg some (by kernel_rfl))
  f266 := Tryz.func322.trans (congrArg some (by kernel_rfl))
  f267 := Tryz.func285.trans (congrArg some (by kernel_rfl))
  f268 := Tryz.func163.trans (congrArg some (by kernel_rfl))
  f314 := Tryz.func323.trans (congrArg some (by kernel_rfl))
  t0 := Tryz.underlying0
  a0 := Tryz.isAgg0
  z0 := Tryz.sizeOf0
  v0 := Tryz.zeroValue0
  t3 := Tryz.underlying3
  a3 := Tryz.isAgg3
  z3 := Tryz.sizeOf3
  v3 := Tryz.zeroValue3
  t4 := Tryz.underlying4
  a4 := Tryz.isAgg4
  z4 := Tryz.sizeOf4
  v4 := Tryz.zeroValue4
  t5 := Tryz.underlying5
  a5 := Tryz.isAgg5
  z5 := Tryz.sizeOf5
  v5 := Tryz.zeroValue5
  t9 := Tryz.underlying9
  a9 := Tryz.isAgg9
  z9 := Tryz.sizeOf9
  v9 := Tryz.zeroValue9
  t21 := Tryz.underlying21
  a21 := Tryz.isAgg21
  z21 := Tryz.sizeOf21
  v21 := Tryz.zeroValue21
  t31 := Tryz.underlying66
  a31 := Tryz.isAgg66
  z31 := Tryz.sizeOf66
  v31 := Tryz.zeroValue66
  t46 := Tryz.underlying277
  a46 := Tryz.isAgg277
  z46 := Tryz.sizeOf277
  v46 := Tryz.zeroValue277
  t51 := Tryz.underlying328
  a51 := Tryz.isAgg328
  z51 := Tryz.sizeOf328
  v51 := Tryz.zeroValue328
  t105 := Tryz.underlying272
  a105 := Tryz.isAgg272
  z105 := Tryz.sizeOf272
  v105 := Tryz.zeroValue272
  t119 := Tryz.underlying359
  a119 := Tryz.isAgg359
  z119 := Tryz.sizeOf359
  t138 := Tryz.underlying361
  a138 := Tryz.isAgg361
  z138 := Tryz.sizeOf361
  v138 := Tryz.zeroValue361
  t139 := Tryz.underlying362
  a139 := Tryz.isAgg362
  z139 := Tryz.sizeOf362
  v139 := Tryz.zeroValue362
  t146 := Tryz.underlying363
  a146 := Tryz.isAgg363
  z146 := Tryz.sizeOf363
  v146 := Tryz.zeroValue363
  g1 := by kernel_rfl
  g3 := by kernel_rfl
  g4 := by kernel_rfl }
open Go.RowKit Go.Lib in
/-- strings.Split. (LAID: no walk: one application.) -/
theorem Tryz.strings_Split (s sep : ByteArray) (m : Int) (w : World) (hs : s.size < 4294967281) (hm : w.cell? ⟨3, 0, none⟩ = some (.int .i64 m)) (h1 : 1 ≤ sep.size) :
    Calls Tryz.prog 54 #[.string s, .string sep] w fun e w' =>
      e = .returned (.slice (some ⟨w.heap.size, 0, none⟩) (Lib.countB s sep + 1) (Lib.countB s sep + 1)) ∧ w' = w.alloc (.cells ((Lib.splitB sep 0 (Lib.countB s sep) s).map Value.string).toArray 9) := Any.strings_Split Tryz.lays146 (by kernel_rfl) s sep m w hs hm h1
def Tryz.laysM146_ren : Go.Shelf.Ren := ⟨fun | 146 => 54 | 221 => 118 | 268 => 163 | 138 => 164 | 143 => 165 | 195 => 224 | 197 => 225 | 218 => 226 | 219 => 227 | 260 => 281 | 217 => 282 | 225 => 283 | 224 => 284 | 267 => 285 | 266 => 322 | 314 => 323 | n => n, fun | 9 => 9 | 31 => 66 | 3 => 3 | 4 => 4 | 0 => 0 | 105 => 272 | 21 => 21 | 5 => 5 | 46 => 277 | 119 => 359 | 139 => 362 | 138 => 361 | 146 => 363 | 51 => 328 | n => n, fun | 1 => 3 | 3 => 4 | 4 => 5 | n => n⟩
theorem Tryz.laysM146 : Go.Proofs.LaysM.n146 Tryz.prog Tryz.laysM146_ren := {
  mixed := by kernel_rfl
  f138 := Tryz.func164.trans (congrArg some (by kernel_rfl))
  f143 := Tryz.func165.trans (congrArg some (by kernel_rfl))
  f146 := Tryz.func54.trans (congrArg some (by kernel_rfl))
  f195 := Tryz.func224.trans (congrArg some (by kernel_rfl))
  f197 := Tryz.func225.trans (congrArg some (by kernel_rfl))
  f217 := Tryz.func282.trans (congrArg some (by kernel_rfl))
  f218 := Tryz.func226.trans (congrArg some (by kernel_rfl))
  f219 := Tryz.func227.trans (congrArg some (by kernel_rfl))
  f221 := Tryz.func118.trans (congrArg some (by kernel_rfl))
  f224 := Tryz.func284.trans (congrArg some (by kernel_rfl))
  f225 := Tryz.func283.trans (congrArg some (by kernel_rfl))
  f260 := Tryz.func281.trans (congrArg some (by kernel_rfl))
  f266 := Tryz.func322.trans (congrArg some (by kernel_rfl))
  f267 := Tryz.func285.trans (congrArg some (by kernel_rfl))
  f268 := Tryz.func163.trans (congrArg some (by kernel_rfl))
  f314 := Tryz.func323.trans (congrArg some (by kernel_rfl))
  t0 := Tryz.underlying0
  a0 := Tryz.isAgg0
  z0 := Tryz.sizeOf0
  v0 := Tryz.zeroValue0
  t3 := Tryz.underlying3
  a3 := Tryz.isAgg3
  z3 := Tryz.sizeOf3
  v3 := Tryz.zeroValue3
  t4 := Tryz.underlying4
  a4 := Tryz.isAgg4
  z4 := Tryz.sizeOf4
  v4 := Tryz.zeroValue4
  t5 := Tryz.underlying5
  a5 := Tryz.isAgg5
  z5 := Tryz.sizeOf5
  v5 := Tryz.zeroValue5
  t9 := Tryz.underlying9
  a9 := Tryz.isAgg9
  z9 := Tryz.sizeOf9
  v9 := Tryz.zeroValue9
  t21 := Tryz.underlying21
  a21 := Tryz.isAgg21
  z21 := Tryz.sizeOf21
  v21 := Tryz.zeroValue21
  t31 := Tryz.underlying66
  a31 := Tryz.isAgg66
  z31 := Tryz.sizeOf66
  v31 := Tryz.zeroValue66
  t46 := Tryz.underlying277
  a46 := Tryz.isAgg277
  z46 := Tryz.sizeOf277
  v46 := Tryz.zeroValue277
  t51 := Tryz.underlying328
  a51 := Tryz.isAgg328
  z51 := Tryz.sizeOf328
  v51 := Tryz.zeroValue328
  t105 := Tryz.underlying272
  a105 := Tryz.isAgg272
  z105 := Tryz.sizeOf272
  v105 := Tryz.zeroValue272
  t119 := Tryz.underlying359
  a119 := Tryz.isAgg359
  z119 := Tryz.sizeOf359
  t138 := Tryz.underlying361
  a138 := Tryz.isAgg361
  z138 := Tryz.sizeOf361
  v138 := Tryz.zeroValue361
  t139 := Tryz.underlying362
  a139 := Tryz.isAgg362
  z139 := Tryz.sizeOf362
  v139 := Tryz.zeroValue362
  t146 := Tryz.underlying363
  a146 := Tryz.isAgg363
  z146 := Tryz.sizeOf363
  v146 := Tryz.zeroValue363
  g1 := by kernel_rfl
  g3 := by kernel_rfl
  g4 := by kernel_rfl
  i0 := by kernel_rfl
  i3 := by kernel_rfl
  i4 := by kernel_rfl
  i5 := by kernel_rfl
  i9 := by kernel_rfl
  i21 := by kernel_rfl
  i31 := by kernel_rfl
  i46 := by kernel_rfl
  i51 := by kernel_rfl
  i105 := by kernel_rfl
  i138 := by kernel_rfl
  i139 := by kernel_rfl
  i146 := by kernel_rfl
  m1 := by kernel_rfl
  s1_3 := fun w h => Go.Proofs.cell_of_shapedOpen_int (zero := #[.int .i64 0]) (t := 3) h (of_decide_eq_true (by kernel_rfl)) (by kernel_rfl) rfl (by kernel_rfl) (by kernel_rfl) Tryz.underlying3
  m3 := by kernel_rfl
  m4 := by kernel_rfl }
end Go.Proofs
namespace Go.Abs
open Go.Proofs Go.RowKit
set_option maxRecDepth 100000
def ErrCell (w : World) (g : Nat) : Prop := ∃ v, w.cell? ⟨g, 0, none⟩ = some v ∧ (v = .nilIface ∨ ∃ te pe, v = .iface te pe)
/-- the table of the powers of ten; MaxLen is a number; ErrSyntax and ErrRange are errors -/
def G (w : World) : Prop := Lib.TabIs Tryz.prog w tabName .u64 Lib.pow10Tab ∧ (∃ m, w.cell? ⟨3, 0, none⟩ = some (.int .i64 m)) ∧ ErrCell w 0 ∧ ErrCell w 1
theorem cell_kept {w w' : World} (hg : Grew w w') {b : Nat} {v : Value} (h : w.cell? ⟨b, 0, none⟩ = some v) : w'.cell? ⟨b, 0, none⟩ = some v := by
  rw [World.cell?_of_block (hg.keep b (cell_lt h))]; exact h
theorem good_of {w : World} (h : G w) : Good G w := by
  refine ⟨h, fun w w' hg hw => ?_⟩
  obtain ⟨hw, ⟨m, hm⟩, ⟨v0, c0, k0⟩, ⟨v1, c1, k1⟩⟩ := hw
  refine ⟨?_, ⟨m, cell_kept hg hm⟩, ⟨v0, cell_kept hg c0, k0⟩, ⟨v1, cell_kept hg c1, k1⟩⟩
  unfold Lib.TabIs World.var? at hw ⊢
  cases hn : Tryz.prog.globalNamed tabName with
  | none => rw [hn] at hw; cases hw
  | some g =>
    rw [hn] at hw
    simp only [Option.bind_some] at hw ⊢
    cases hb : w.heap[g]? with
    | none => rw [hb] at hw; cases hw
    | some o => rw [hg.keep g (heap_lt hb)]; exact hw

theorem follow_ok : Tryz.prog.follows .mixedOrders = true := by kernel_rfl
noncomputable def S0 : Sys := { S with prim := fun _ _ => none }
theorem S0_ok : SysOk S0 G := ⟨follow_ok, fun _ _ h => h, fun f vs r h => by cases h⟩
theorem body_enters {f : Nat} {fn : Func} (h : Tryz.prog.funcs[f]? = some fn) (hb : fn.body.isSome = true) (hn : (fn.name == "runtime.NumGoroutine") = false) : Enters Tryz.prog f := by
  cases hc : fn.body with
  | none => rw [hc] at hb; cases hb
  | some c => exact ⟨fn, c, h, hc, hn⟩

theorem clone_prim {f n : Nat} {z i g z' : Nat} {b : BL} (he : Enters Tryz.prog f) (h1 : callPF S0 n f [.one (.p .nils)] = some (.one (.p (.sl []))))
    (h2 : callSF S0 n f [.one (.hsl 0 0 z 0 0)] .all [] = some (.one (.hsl i g z' 0 0), b)) {fn : IFn} (hfn : compF Tryz.prog f = some fn) {args : List V} {r : RV} (h : primClone args = some (some r)) :
    Enters Tryz.prog f ∧ ∀ (w : World) (O : Nat → Prop) (ar : Array Value), Good G w → (∀ c, O c → c < w.heap.size) → Pw (AVRel w O) args ar.toList → Calls Tryz.prog f ar w (PRes w O r) :=
  ⟨he, primClone_ok (S := S0) S0_ok (n := n) hfn ((callF_ok S0 n).1 _ _ _ h1) ((callF_ok S0 n).2 _ _ _ _ _ _ h2) h⟩

theorem some_isSome {α : Type} {x : Option α} (h : x.isSome = true) : ∃ y, x = some y := by
  cases x with
  | none => cases h
  | some y => exact ⟨y, rfl⟩

theorem memN_mem : ∀ {l : List Nat} {f : Nat}, memN l f = true → f ∈ l := by
  intro l
  induction l with
  | nil => intro f h; cases h
  | cons a l ih =>
    intro f h
    simp only [memN] at h
    cases hb : Nat.beq a f with
    | true => rw [Nat.eq_of_beq_eq_true hb]; simp
    | false => rw [hb] at h; exact List.mem_cons_of_mem _ (ih h)

theorem prim_ok : PrimOk S G := by
  intro f vs r h
  have h : prim0 f vs = some (some r) := h
  unfold prim0 at h
  cases e1 : Nat.beq f 47 with
  | true =>
    rw [e1] at h
    obtain rfl := Nat.eq_of_beq_eq_true e1
    simp only [cond_true, Option.some.injEq] at h
    exact ⟨body_enters Tryz.func47 (by kernel_rfl) (by kernel_rfl), fun w O ar hg _ ha => primItoa_ok (G := G) (fun _ h => h.1) (fun n h0 h1 w ht => Tryz.strconv_Itoa n h0 h1 w ht) h w O ar hg ha⟩
  | false =>
    rw [e1] at h
    simp only [cond_false] at h
    cases e2 : Nat.beq f 49 with
    | true =>
      rw [e2] at h
      obtain rfl := Nat.eq_of_beq_eq_true e2
      simp only [cond_true, Option.some.injEq] at h
      exact ⟨body_enters Tryz.func49 (by kernel_rfl) (by kernel_rfl), fun w O ar _ _ ha => primJoin_ok Tryz.strings_Join_none Tryz.strings_Join h w O ar ha⟩
    | false =>
      rw [e2] at h
      simp only [cond_false] at h
      cases e3 : Nat.beq f 248 with
      | true =>
        rw [e3] at h
        obtain rfl := Nat.eq_of_beq_eq_true e3
        simp only [cond_true, Option.some.injEq] at h
        exact ⟨body_enters Tryz.func248 (by kernel_rfl) (by kernel_rfl), fun w O ar _ _ ha => primBits_ok (fun x w h0 h1 => Tryz.bits_Len x w h0 h1) h w O ar ha⟩
      | false =>
        rw [e3] at h
        simp only [cond_false] at h
        cases e5 : Nat.beq f 54 with
        | true =>
          rw [e5] at h
          obtain rfl := Nat.eq_of_beq_eq_true e5
          simp only [cond_true, Option.some.injEq] at h
          exact ⟨body_enters Tryz.func54 (by kernel_rfl) (by kernel_rfl), fun w O ar hg hO ha => primSplit_ok (G := G) (fun s sep w hg hs h1 => by obtain ⟨m, hm⟩ := hg.2.1; exact Tryz.strings_Split s sep m w hs hm h1) h w O ar hg hO ha⟩
        | false =>
          rw [e5] at h
          simp only [cond_false] at h
          cases e6 : Nat.beq f 55 with
          | true =>
            rw [e6] at h
            obtain rfl := Nat.eq_of_beq_eq_true e6
            simp only [cond_true, Option.some.injEq] at h
            refine ⟨body_enters Tryz.func55 (by kernel_rfl) (by kernel_rfl), fun w O ar hg _ ha => primAtoi_ok (G := G) (fun s v w hs hv => ?_) (fun s w hg hs hv => ?_) (fun s w hg hs hv => ?_) h w O ar hg ha⟩
            · refine (Tryz.strconv_Atoi_ok s (by omega) v hv w).mono ?_
              rintro e w' ⟨rfl, hW⟩
              refine ⟨rfl, ?_⟩
              rcases hW with rfl | ⟨t, rfl⟩
              · exact Below.refl _ _
              · exact Lib.bytesWorld_below _ _ _
            · obtain ⟨ev, hc, hk⟩ := hg.2.2.1
              refine (Tryz.strconv_Atoi_none s hs hv ev w hc hk).mono ?_
              rintro e w' ⟨N, rfl, _, _, hb⟩
              exact ⟨⟨_, _, rfl⟩, hb⟩
            · obtain ⟨ev, hc, hk⟩ := hg.2.2.2
              refine (Tryz.strconv_Atoi_range s hs hv ev w hc hk).mono ?_
              rintro e w' ⟨N, rfl, _, _, hb⟩
              exact ⟨⟨_, _, rfl⟩, hb⟩
          | false =>
            rw [e6] at h
            simp only [cond_false] at h
            cases e4 : memN [112, 148, 176, 260] f with
            | false => rw [e4] at h; cases h
            | true =>
              rw [e4] at h
              simp only [cond_true] at h
              have hm := memN_mem e4
              simp only [List.mem_cons, List.not_mem_nil, or_false] at hm
              rcases hm with rfl | rfl | rfl | rfl
              · obtain ⟨fn, hfn⟩ := some_isSome (x := compF Tryz.prog 112) (by kernel_rfl)
                obtain ⟨⟨v, b⟩, hb⟩ := some_isSome (x := callSF S0 9 112 [.one (.hsl 0 0 6 0 0)] .all []) (by kernel_rfl)
                have hv : (callSF S0 9 112 [.one (.hsl 0 0 6 0 0)] .all []).map (·.1) = some (.one (.hsl 7168192128 1 6 0 0)) := by kernel_rfl
                rw [hb] at hv
                cases hv
                exact clone_prim (body_enters Tryz.func112 (by kernel_rfl) (by kernel_rfl)) (n := 9) (by kernel_rfl) hb hfn h
              · obtain ⟨fn, hfn⟩ := some_isSome (x := compF Tryz.prog 148) (by kernel_rfl)
                obtain ⟨⟨v, b⟩, hb⟩ := some_isSome (x := callSF S0 9 148 [.one (.hsl 0 0 1 0 0)] .all []) (by kernel_rfl)
                have hv : (callSF S0 9 148 [.one (.hsl 0 0 1 0 0)] .all []).map (·.1) = some (.one (.hsl 9472192128 1 1 0 0)) := by kernel_rfl
                rw [hb] at hv
                cases hv
                exact clone_prim (body_enters Tryz.func148 (by kernel_rfl) (by kernel_rfl)) (n := 9) (by kernel_rfl) hb hfn h
              · obtain ⟨fn, hfn⟩ := some_isSome (x := compF Tryz.prog 176) (by kernel_rfl)
                obtain ⟨⟨v, b⟩, hb⟩ := some_isSome (x := callSF S0 9 176 [.one (.hsl 0 0 7 0 0)] .all []) (by kernel_rfl)
                have hv : (callSF S0 9 176 [.one (.hsl 0 0 7 0 0)] .all []).map (·.1) = some (.one (.hsl 11264192128 1 7 0 0)) := by kernel_rfl
                rw [hb] at hv
                cases hv
                exact clone_prim (body_enters Tryz.func176 (by kernel_rfl) (by kernel_rfl)) (n := 9) (by kernel_rfl) hb hfn h
              · obtain ⟨fn, hfn⟩ := some_isSome (x := compF Tryz.prog 260) (by kernel_rfl)
                obtain ⟨⟨v, b⟩, hb⟩ := some_isSome (x := callSF S0 9 260 [.one (.hsl 0 0 7 0 0)] .all []) (by kernel_rfl)
                have hv : (callSF S0 9 260 [.one (.hsl 0 0 7 0 0)] .all []).map (·.1) = some (.one (.hsl 16640192128 1 7 0 0)) := by kernel_rfl
                rw [hb] at hv
                cases hv
                exact clone_prim (body_enters Tryz.func260 (by kernel_rfl) (by kernel_rfl)) (n := 9) (by kernel_rfl) hb hfn h

theorem S_ok : SysOk S G := ⟨follow_ok, fun _ _ h => h, prim_ok⟩
end Go.Abs
