/-
  EaseChains: for every three codes and every three lists of moves the call returns true and the arguments read as they did. It holds for every input that the row speaks of; the tables that the row lists hold what the text lays.
-/
import Derived.Test.YtchbcakfkniimaaGreatDoorVd
import Derived.Test.YtchbcakfkniimaaGreatDoorTie
import Derived.Deep.DeepHandedRow
import Derived.Deep.DeepLaidRun
import Derived.Stop.LaidErr
import Derived.Test.YtchbcakfkniimaaGreatDoorSb
import Derived.Test.YtchbcakfkniimaaGreatDoorTa
import Derived.Test.YtchbcakfkniimaaGreatDoorFa
import Derived.Test.YtchbcakfkniimaaGreatDoorGa
set_option linter.unusedSimpArgs false
set_option linter.unusedVariables false
set_option linter.unusedSectionVars false
set_option maxRecDepth 100000
set_option maxHeartbeats 16000000
namespace Go.Abs
theorem law_chains(hcl:cloneE)(hk:PEv S 4 [] (rb true))(f:Int)(A:List Let)(g:Int)(B:List Let)(h:Int)(D:List Let)(p q r:List Mov):PEv S 3 [codeV f A,codeV g B,codeV h D, .one (.p (movP p)), .one (.p (movP q)), .one (.p (movP r))] (rb true):=by
 have hsk:S.shared 4=false:=by kernel_rfl
 by_cases lc0:(24:Int)<(A.length:Int)
 ·refine pev1 c3 ?_;simp only[go_sem,i3,lc0,hsk,gP_bool hk]
 by_cases lc1:(24:Int)<(B.length:Int)
 ·refine pev1 c3 ?_;simp only[go_sem,i3,lc0,lc1,hsk,gP_bool hk]
 by_cases lc2:(24:Int)<(D.length:Int)
 ·refine pev1 c3 ?_;simp only[go_sem,i3,lc0,lc1,lc2,hsk,gP_bool hk]
 by_cases lc3:(20:Int)<(p.length:Int)
 ·refine pev1 c3 ?_;simp only[go_sem,i3,lc0,lc1,lc2,lc3,hsk,gP_bool hk]
 by_cases lc4:(20:Int)<(q.length:Int)
 ·refine pev1 c3 ?_;simp only[go_sem,i3,lc0,lc1,lc2,lc3,lc4,hsk,gP_bool hk]
 by_cases lc5:(20:Int)<(r.length:Int)
 ·refine pev1 c3 ?_;simp only[go_sem,i3,lc0,lc1,lc2,lc3,lc4,lc5,hsk,gP_bool hk]
 have p1:=check_e hcl f g A B p q (by omega) (by omega) (by omega) (by omega);have p2:=check_e hcl g h B D q r (by omega) (by omega) (by omega) (by omega);have p3:=check_e hcl f h A D p r (by omega) (by omega) (by omega) (by omega);cases x1:chkR f A p g B q with
 |false=>
  rw[x1] at p1;refine pev1 c3 ?_;simp only[go_sem,i3,lc0,lc1,lc2,lc3,lc4,lc5,s5,gP_bool p1,hsk,gP_bool hk]
 |true=>
  rw[x1] at p1;cases x2:chkR g B q h D r with
  |false=>
   rw[x2] at p2;refine pev1 c3 ?_;simp only[go_sem,i3,lc0,lc1,lc2,lc3,lc4,lc5,s5,gP_bool p1,gP_bool p2,hsk,gP_bool hk]
  |true=>
   rw[x2] at p2;rw[chkR_trans x1 x2] at p3;refine pev1 c3 ?_;simp only[go_sem,i3,lc0,lc1,lc2,lc3,lc4,lc5,s5,gP_bool p1,gP_bool p2,gP_bool p3,hsk,gP_bool hk]
end Go.Abs
namespace Go.Proofs.YtchbcakfkniimaaGreatDoor.fnEaseChains
open Go.Abs Go.ChangeShapes Go.WideShapes Go.ChangeAt Go.RowKit
theorem hasT_struct {P : Program} {N n : Nat} {t : TypeId} {fs : Array Field} {p : List PV} (hu : P.underlying t = some (.struct fs)) (h : HasT P N (n + 1) t p) :
    ∃ parts : List (List PV), p = parts.flatten ∧ parts.length = fs.toList.length ∧ ∀ (i : Nat) (f : Field) (x : List PV), fs.toList[i]? = some f → parts[i]? = some x → HasT P N n f.type x := by
  simp only [HasT, hu] at h
  exact h
theorem lets_of {es : List (List PV)} (h : ∀ x ∈ es, ∃ l : Let, x = l.ps) : ∃ ls : List Let, es = ls.map Let.ps := by
  induction es with
  | nil => exact ⟨[], rfl⟩
  | cons e es ih =>
    obtain ⟨l, rfl⟩ := h e (by simp)
    obtain ⟨ls, rfl⟩ := ih fun x hx => h x (by simp [hx])
    exact ⟨l :: ls, rfl⟩
theorem let_of {N n : Nat} {p : List PV} (h : HasT S.P N (n + 1 + 1) 33 p) : ∃ l : Let, p = l.ps := by
  obtain ⟨parts, rfl, hl, hp⟩ := hasT_struct Tryz.underlying33 h
  rcases parts with _ | ⟨p0, _ | ⟨p1, _ | ⟨p2, _ | ⟨p3, _ | ⟨p4, _ | ⟨p5, _ | ⟨p6, r⟩⟩⟩⟩⟩⟩⟩ <;> first
    | (simp at hl; done)
    | skip
  obtain ⟨k, rfl, _⟩ := hasT_int Tryz.underlying31 (hp 0 _ _ rfl rfl)
  obtain ⟨g, rfl, _⟩ := hasT_int Tryz.underlying3 (hp 1 _ _ rfl rfl)
  obtain ⟨r, rfl, _⟩ := hasT_int Tryz.underlying3 (hp 2 _ _ rfl rfl)
  obtain ⟨i, rfl, _⟩ := hasT_int Tryz.underlying3 (hp 3 _ _ rfl rfl)
  obtain ⟨s, rfl, _⟩ := hasT_int Tryz.underlying3 (hp 4 _ _ rfl rfl)
  obtain ⟨o, rfl⟩ := hasT_bool Tryz.underlying4 (hp 5 _ _ rfl rfl)
  exact ⟨⟨k, g, r, i, s, o⟩, rfl⟩
theorem code_of {N n : Nat} {p : List PV} (h : HasT S.P N (n + 1 + 1 + 1 + 1) 24 p) : ∃ (k : Int) (ls : List Let), p = [.int .i64 k, .sl (ls.map Let.ps)] := by
  obtain ⟨parts, rfl, hl, hp⟩ := hasT_struct Tryz.underlying24 h
  rcases parts with _ | ⟨p0, _ | ⟨p1, _ | ⟨p2, r⟩⟩⟩ <;> first
    | (simp at hl; done)
    | skip
  obtain ⟨k, rfl, _⟩ := hasT_int Tryz.underlying3 (hp 0 _ _ rfl rfl)
  obtain ⟨es, rfl, _, he⟩ := hasT_slice Tryz.underlying22 (hp 1 _ _ rfl rfl)
  obtain ⟨ls, rfl⟩ := lets_of fun x hx => let_of (he x hx)
  exact ⟨k, ls, rfl⟩
theorem move_of {N n : Nat} {p : List PV} (h : HasT S.P N (n + 1 + 1) 50 p) : ∃ (k a b c : Int) (l o : Bool) (s : Int), p = [.int .i64 k, .int .i64 a, .int .i64 b, .int .i64 c, .bool l, .bool o, .int .i64 s] := by
  obtain ⟨parts, rfl, hl, hp⟩ := hasT_struct Tryz.underlying50 h
  rcases parts with _ | ⟨p0, _ | ⟨p1, _ | ⟨p2, _ | ⟨p3, _ | ⟨p4, _ | ⟨p5, _ | ⟨p6, _ | ⟨p7, r⟩⟩⟩⟩⟩⟩⟩⟩ <;> first
    | (simp at hl; done)
    | skip
  obtain ⟨k, rfl, _⟩ := hasT_int Tryz.underlying48 (hp 0 _ _ rfl rfl)
  obtain ⟨a, rfl, _⟩ := hasT_int Tryz.underlying3 (hp 1 _ _ rfl rfl)
  obtain ⟨b, rfl, _⟩ := hasT_int Tryz.underlying3 (hp 2 _ _ rfl rfl)
  obtain ⟨c, rfl, _⟩ := hasT_int Tryz.underlying3 (hp 3 _ _ rfl rfl)
  obtain ⟨l, rfl⟩ := hasT_bool Tryz.underlying4 (hp 4 _ _ rfl rfl)
  obtain ⟨o, rfl⟩ := hasT_bool Tryz.underlying4 (hp 5 _ _ rfl rfl)
  obtain ⟨s, rfl, _⟩ := hasT_int Tryz.underlying3 (hp 6 _ _ rfl rfl)
  exact ⟨k, a, b, c, l, o, s, rfl⟩
theorem moves_of {N n : Nat} {p : List PV} (h : HasT S.P N (n + 1 + 1 + 1) 25 p) : ∃ l : List Mov, p = [.sl (l.map Mov.ps)] := by
  obtain ⟨es, rfl, hle, he⟩ := hasT_slice Tryz.underlying25 h
  clear h hle
  suffices ∃ l : List Mov, es = l.map Mov.ps by obtain ⟨l, rfl⟩ := this; exact ⟨l, rfl⟩
  induction es with
  | nil => exact ⟨[], rfl⟩
  | cons e es ih =>
    obtain ⟨k, a, b, c, l, o, s, rfl⟩ := move_of (he e (by simp))
    obtain ⟨ms, rfl⟩ := ih fun x hx => he x (by simp [hx])
    exact ⟨⟨k, a, b, c, l, o, s⟩ :: ms, rfl⟩
theorem law_any (pvss : List (List PV)) (h : HasAll S.P maxLen 4 Tryz.f3.params.toList pvss) : PEv S 3 (argVs S.P Tryz.f3.params.toList pvss) (.one (.p (.bool true))) := by
  have hp : Tryz.f3.params.toList = [24, 24, 24, 25, 25, 25] := by rw [Tryz.params3]
  rw [hp] at h ⊢
  rcases pvss with _ | ⟨a0, _ | ⟨a1, _ | ⟨a2, _ | ⟨a3, _ | ⟨a4, _ | ⟨a5, _ | ⟨a6, z6⟩⟩⟩⟩⟩⟩⟩
  · exact h.elim
  · exact h.2.elim
  · exact h.2.2.elim
  · exact h.2.2.2.elim
  · exact h.2.2.2.2.elim
  · exact h.2.2.2.2.2.elim
  · obtain ⟨f0, ls0, rfl⟩ := code_of (n := 0) h.1
    obtain ⟨f1, ls1, rfl⟩ := code_of (n := 0) h.2.1
    obtain ⟨f2, ls2, rfl⟩ := code_of (n := 0) h.2.2.1
    obtain ⟨ms3, rfl⟩ := moves_of (n := 1) h.2.2.2.1
    obtain ⟨ms4, rfl⟩ := moves_of (n := 1) h.2.2.2.2.1
    obtain ⟨ms5, rfl⟩ := moves_of (n := 1) h.2.2.2.2.2.1
    have e3 : ∀ (f : Int) (a : List Let), argV S.P 24 [.int .i64 f, .sl (a.map Let.ps)] = codeV f a := fun f a => argV_struct (P := S.P) Tryz.underlying24
    have e6 : ∀ l : List Mov, argV S.P 25 [.sl (l.map Mov.ps)] = .one (.p (.sl (l.map Mov.ps))) := fun l => argV_one (P := S.P) Tryz.underlying25 (fun fs h => by cases h)
    simp only [argVs, e3, e6]
    exact law_chains cloneE_p k4known f0 ls0 f1 ls1 f2 ls2 ms3 ms4 ms5
  · exact h.2.2.2.2.2.2.elim
theorem gTab : Tryz.prog.globalNamed tabName = some 0 := by kernel_rfl
theorem gTabType : (Tryz.prog.globals[0]?).map (·.type) = some 199 := by kernel_rfl
theorem cellsTab : Tryz.prog.cellsOf 199 = 20 := by kernel_rfl
theorem cellsU64 : Tryz.prog.cellsOf 183 = 1 := by kernel_rfl
/-- what the row's list gives: the table of the powers of ten -/
theorem table {W : World} (h : laidMetH Tryz.prog Rows.easeChainsRow.laid W) : G W := by
  have h1 : laidMet Tryz.prog Rows.easeChainsRow.laid W := h
  have h2 := h1.tail.tail
  have e : (Rows.laid_internal_strconv_uint64pow10 : DataW Unit) = Lib.tabData .u64 Lib.pow10Tab := by kernel_rfl
  rw [e] at h2
  exact Lib.tabIs_of_head (rest := []) gTab gTabType Tryz.underlying199 Tryz.underlying183 cellsU64 cellsTab h2
end Go.Proofs.YtchbcakfkniimaaGreatDoor.fnEaseChains
namespace Go.Proofs.YtchbcakfkniimaaGreatDoor.fnEaseChains
open Go.Abs Go.ChangeShapes Go.WideShapes Go.ChangeAt Go.RowKit
theorem own : ownKnob Tryz.prog.godebug = none := by kernel_rfl
theorem contract (H : Type) (enc : TypeId × Value → H) (W : World) (base : Nat) (args : Array Value) (ds gs : List (DataW H)) (before : List MemPlace)
    (hval : ∀ (j : Nat) t v, Tryz.f3.params[j]? = some t → args[j]? = some v → Value.okWide Tryz.prog W .any base t v)
    (hW : DataW.Whole enc Tryz.prog Tryz.f3.params.toList Rows.easeChainsSpec.vars false W args.toList ds gs before) (hL : laidMetH Tryz.prog Rows.easeChainsRow.laid W) :
    Calls Tryz.prog 3 args W fun e W' => ∃ v, e = .returned v ∧ Rows.easeChainsSpec.post enc Tryz.prog Tryz.f3 false true false false W args v W' := by
  have hk : ∀ t ∈ Tryz.f3.params.toList, okTy S.P 4 t = true := by
    rw [Tryz.params3]
    intro t ht
    have e : t = 24 ∨ t = 25 := by simpa using ht
    have k0 : okTy S.P 4 24 = true := by kernel_rfl
    have k1 : okTy S.P 4 25 = true := by kernel_rfl
    rcases e with e | e
    · exact e ▸ k0
    · exact e ▸ k1
  have hfit : ∀ d ∈ ds, Fits maxLen d := by
    obtain ⟨p, q, hA, _⟩ := hW
    exact (trodAll_fits hk hA).1
  exact law_contract S_ok (fun w h => good_of h) (fn := Tryz.f3) (s := Rows.easeChainsSpec) rfl
    (fun H ds hd => by
      rw [Tryz.params3] at hd
      match ds, hd with
      | [d0, d1, d2, d3, d4, d5], _ => rfl) (tb := 4) (by kernel_rfl) Tryz.underlying4 hk law_any hval hW (table hL) hfit

noncomputable def cellsD (d : DataW Unit) : Array Value :=
  match d with
  | .agg l => (l.map fun
    | .lit (.int k z) => Value.int k z
    | _ => undef).toArray
  | _ => #[]
noncomputable def layD (d : DataW Unit) : Obj → Obj
  | .cells _ t frozen => .cells (cellsD d) t frozen
  | o => o
noncomputable def laidWorld (os : Os) : World :=
  { World.holding Tryz.prog os ⟨#[], #[], []⟩ with heap := (((World.holding Tryz.prog os ⟨#[], #[], []⟩).heap.modify 1 (layD Rows.laid_math_bits_deBruijn32tab)).modify 2 (layD Rows.laid_math_bits_deBruijn64tab)).modify 0 (layD Rows.laid_internal_strconv_uint64pow10) }
theorem laid_met (os : Os) : laidMet Tryz.prog Rows.easeChainsRow.laid ((laidWorld os).forCall (fun _ _ => 0) ⟨#[], #[Value.agg #[.int .i64 0, .slice none 0 0], .agg #[.int .i64 0, .slice none 0 0], .agg #[.int .i64 0, .slice none 0 0], .slice none 0 0, .slice none 0 0, .slice none 0 0], []⟩).memory :=
  laidMet_of_run' 8 (by kernel_rfl) (by kernel_rfl)
theorem reads (os : Os) {H : Type} (enc : TypeId × Value → H) : ∃ places, DataW.whole enc Tryz.prog ((laidWorld os).forCall (fun _ _ => 0) ⟨#[], #[Value.agg #[.int .i64 0, .slice none 0 0], .agg #[.int .i64 0, .slice none 0 0], .agg #[.int .i64 0, .slice none 0 0], .slice none 0 0, .slice none 0 0, .slice none 0 0], []⟩).memory Tryz.f3.params.toList Rows.easeChainsSpec.vars false #[Value.agg #[.int .i64 0, .slice none 0 0], .agg #[.int .i64 0, .slice none 0 0], .agg #[.int .i64 0, .slice none 0 0], .slice none 0 0, .slice none 0 0, .slice none 0 0].toList 8 = some ([.agg [.lit (.int .i64 0), .nil], .agg [.lit (.int .i64 0), .nil], .agg [.lit (.int .i64 0), .nil], .nil, .nil, .nil], [], places) :=
  ⟨[], by kernel_rfl⟩

theorem lifted (os : Os) (started : os.Started) (H : Type) (enc : TypeId × Value → H) (F : Stop.Interp) :
    ReturnsInHanded {} Tryz.checked os 3 .any ((OpenSpec.ofChange Rows.easeChainsSpec).preRow enc Tryz.prog Tryz.f3 Rows.easeChainsRow.domain false Rows.easeChainsRow.laid) (((OpenSpec.ofChange Rows.easeChainsSpec).at F).post enc Tryz.prog Tryz.f3 false true false false) := by
  obtain ⟨places, hx⟩ := reads os enc
  refine returnsInHanded_of_row (C := Tryz.checked) (s := (OpenSpec.ofChange Rows.easeChainsSpec)) own started (by kernel_rfl) Tryz.func3
    (witness_row_at (enc := enc) (C := Tryz.checked) false (laidWorld os) #[Value.agg #[.int .i64 0, .slice none 0 0], .agg #[.int .i64 0, .slice none 0 0], .agg #[.int .i64 0, .slice none 0 0], .slice none 0 0, .slice none 0 0, .slice none 0 0] rfl (by kernel_rfl) (by kernel_rfl) (by kernel_rfl)
      (OpenSpec.preRow_of_cond 8 hx (by kernel_rfl) (fun k hk => by cases hk) (by kernel_rfl) (laid_met os))) ?_
  intro W base args ds gs before hval hW _ _ _ hL _ _
  exact contract H enc W base args ds gs before hval hW hL
end Go.Proofs.YtchbcakfkniimaaGreatDoor.fnEaseChains
namespace Go.Proofs.YtchbcakfkniimaaGreatDoor.fnEaseChains
open Go.Abs Go.ChangeShapes Go.WideShapes Go.ChangeAt Go.RowKit
theorem said : Rows.EaseChainsSaid :=
  OpenClaim.holds_of_cond 3 Tryz.f3 rfl rfl rfl rfl rfl rfl rfl ⟨rfl, rfl, rfl, rfl, rfl⟩ rfl rfl rfl rfl rfl (by kernel_rfl) Tryz.func3 closed
    (of_decide_eq_true (by kernel_rfl)) (by unfold Func.isWrapper; first | (rw [if_pos (by decide +kernel)]; kernel_rfl) | (rw [if_neg (by decide +kernel)]; exact ⟨rfl, rfl⟩))
    (fun os started H enc _ F => by rw [OpenClaim.pre_eq_preRow]; exact lifted os started H enc F)

theorem plain (f : FuncId) (fn : Func) (hf : Tryz.pinned.checked.prog.funcNamed Rows.easeChainsRow.func = some f) (hfn : Tryz.pinned.checked.prog.funcs[f]? = some fn) :
    false = Tryz.pinned.checked.prog.looks [] ∧ ∀ (j : Nat) t, fn.params[j]? = some t → Tryz.pinned.checked.prog.wantsStandIn t = false := by
  obtain rfl : f = 3 := Option.some.inj ((show Tryz.prog.funcNamed Rows.easeChainsRow.func = some 3 by kernel_rfl).symm.trans hf) |>.symm
  obtain rfl : fn = Tryz.f3 := (Option.some.inj (Tryz.func3.symm.trans hfn)).symm
  refine ⟨by kernel_rfl, ?_⟩
  · intro j t ht
    rw [Tryz.params3] at ht
    have e : t = 24 ∨ t = 25 := by simpa using Array.mem_of_getElem? ht
    have k0 : Tryz.prog.wantsStandIn 24 = false := by kernel_rfl
    have k1 : Tryz.prog.wantsStandIn 25 = false := by kernel_rfl
    rcases e with e | e
    · exact e ▸ k0
    · exact e ▸ k1

theorem wfText : Rows.easeChainsRow.wfByText (OpenSpec.ofChange Rows.easeChainsSpec) = true := by kernel_rfl
theorem mainIs : Tryz.pinned.checked.prog.mainIs = some ((true, "4434ed637d37c7633090eb5c678be7350afce944563e70a8e1295d99495b569a").1, (true, "4434ed637d37c7633090eb5c678be7350afce944563e70a8e1295d99495b569a").2.toList) := by kernel_rfl
theorem card : Rows.EaseChainsCardSaid :=
  Claim7.holds_tied_plain_at .later [] _ _ _ _ said (fun _ h => by cases h) wfText (fun _ h => by cases h) easeChains_row_tie rfl ⟨rfl, rfl⟩ mainIs rfl plain goes
end Go.Proofs.YtchbcakfkniimaaGreatDoor.fnEaseChains
