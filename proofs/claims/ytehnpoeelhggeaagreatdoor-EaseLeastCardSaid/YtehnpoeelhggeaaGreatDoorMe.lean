/-
  More rules for a walk; closed calls some of which are known.
-/
import Derived.Test.YtehnpoeelhggeaaGreatDoorMd
set_option linter.unusedSimpArgs false
set_option linter.unusedVariables false
set_option linter.unusedSectionVars false
namespace Go.Abs
theorem asN_nat (k : Nat) : asN (.one (.p (.int .i64 (k : Int)))) = some k := by simp [asN]
theorem asN_lit (n : Nat) : asN (.one (.p (.int .i64 (no_index (@OfNat.ofNat Int n instOfNat))))) = some (@OfNat.ofNat Nat n (instOfNatNat n)) := by
  show asN (.one (.p (.int .i64 (Int.ofNat n)))) = some n
  simp [asN]
theorem snap_p {blk : Blk} {v : PV} : snap blk snapN (.p v) = some (v.norm, []) := rfl
def consR {β : Type} (x : Option (β × List Nat)) (y : Option (List β × List Nat)) : Option (List β × List Nat) := match x, y with
  | some (b, x), some (bs, y) => some (b :: bs, x ++ y)
  | _, _ => none
theorem consR_some {β : Type} {b : β} {x : List Nat} {bs : List β} {y : List Nat} : consR (some (b, x)) (some (bs, y)) = some (b :: bs, x ++ y) := rfl
theorem collect_nil {α β : Type} {f : α → Option (β × List Nat)} : collect f [] = some ([], []) := rfl
theorem collect_cons {α β : Type} {f : α → Option (β × List Nat)} {a : α} {r : List α} : collect f (a :: r) = consR (f a) (collect f r) := by
  simp only [collect, consR]
  cases f a <;> cases collect f r <;> rfl
theorem snapV_one {blk : Blk} {c : C} : snapV blk (.one c) = (snap blk snapN c).map fun (v, r) => (.one (.p v), r) := rfl
theorem snapV_agg {blk : Blk} {cs : List C} : snapV blk (.agg cs) = (collect (snap blk snapN) cs).map fun (vs, r) => (.agg (vs.map .p), r) := rfl

/-- cells that are all pure, as they are handed on -/
theorem collect_ps {blk : Blk} : ∀ (ps : List PV), collect (snap blk snapN) (ps.map .p) = some (ps.map PV.norm, []) := by
  intro ps
  induction ps with
  | nil => rfl
  | cons p ps ih => simp only [List.map_cons, collect_cons, snap_p, ih, consR_some, List.append_nil]

theorem snap_ps {blk : Blk} {n : Nat} {v : PV} : snap blk (n + 1) (.p v) = some (v.norm, []) := rfl
def snapHsl (o : Nat × Option Ob) (col : List (List C) → Option (List (List PV) × List Nat)) (id g off len : Nat) : Option (PV × List Nat) := match o with
  | (g', some (.arr _ _ es)) => if g' = g ∧ off + len ≤ es.length then some (.sl ((es.drop off).take len), [id]) else none
  | (g', some (.farr _ _ es)) => if g' = g ∧ off + len ≤ es.length then some (.sl ((es.drop off).take len), [id]) else none
  | (g', some (.carr _ _ es)) => if g' = g ∧ off + len ≤ es.length then
      match col ((es.drop off).take len) with
      | some (ps, r) => some (.sl ps, id :: r)
      | none => none
    else none
  | _ => none
theorem snap_hsl {blk : Blk} {id g z off len : Nat} : snap blk snapN (.hsl id g z off len) = snapHsl (blk id) (collect (collect (snap blk 5))) id g off len := by
  unfold snapN snapHsl
  rw [snap]
  rfl
def snapHref (o : Nat × Option Ob) (col : List C → Option (List PV × List Nat)) (id g off : Nat) : Option (PV × List Nat) := match o with
  | (g', some (.var cs)) => if g' = g then
      match col cs with
      | some (ps, r) => some (.box (ps.drop off), id :: r)
      | none => none
    else none
  | (g', some (.fvar ps)) => if g' = g then some (.box (ps.drop off), [id]) else none
  | _ => none
theorem snap_href {blk : Blk} {id g off : Nat} : snap blk snapN (.href id g off) = snapHref (blk id) (collect (snap blk 5)) id g off := by
  unfold snapN snapHref
  rw [snap]
  rfl

section
variable {S : Sys} {al : Al} {env : Env} {blk : Blk} {d : Option Nat}
theorem land_scalar {rd : List Nat} {s : Nat} {x : PV} {b : Bool} (hs : x.scalar = true) : land blk rd s ((RV.one (.p x)).pureIf b) = some (.one (.p x), []) := by
  have h1 : (RV.one (.p x)).pureIf b = .one (.p x) := by cases b <;> rfl
  rw [h1]
  have : (RV.one (.p x)).alone = true := by simp [RV.alone, flatR, flatR1, RC.alone, hs]
  simp only [land, this, or_true, if_true]
  rfl
theorem goPN_pcs {f : Nat} {vs : List V} {rd : List Nat} {s : Nat} {x : PV} {K : Env → Blk → Prop} (h : PEv S f vs (.one (.p x))) (hs : x.scalar = true) : goPN S .all (.pc f vs rd s) d env blk K ↔ K (put env d (.one (.p x))) blk := by
  constructor
  · rintro ⟨y, hy, h2⟩
    have := hy.det h
    subst this
    rw [land_scalar hs] at h2
    exact h2.2
  · intro hK
    refine ⟨_, h, ?_⟩
    rw [land_scalar hs]
    exact ⟨Al.all_oks _, hK⟩
theorem goP_pcs {f : Nat} {vs : List V} {rd : List Nat} {s : Nat} {x : PV} {tr : List Eff} {K : Env → Blk → List Eff → Prop} (h : PEv S f vs (.one (.p x))) (hs : x.scalar = true) : goP S .all (.pc f vs rd s) d env blk tr K ↔ K (put env d (.one (.p x))) blk (tr ++ [⟨rd, [], []⟩]) := by
  constructor
  · rintro ⟨y, hy, h2⟩
    have := hy.det h
    subst this
    rw [land_scalar hs] at h2
    simpa [app] using h2.2
  · intro hK
    refine ⟨_, h, ?_⟩
    rw [land_scalar hs]
    exact ⟨Al.all_oks _, by simpa [app] using hK⟩
theorem goP_int {f : Nat} {vs : List V} {rd : List Nat} {s : Nat} {k : IntKind} {n : Int} {tr : List Eff} {K : Env → Blk → List Eff → Prop} (h : PEv S f vs (.one (.p (.int k n)))) : goP S .all (.pc f vs rd s) d env blk tr K ↔ K (put env d (.one (.p (.int k n)))) blk (tr ++ [⟨rd, [], []⟩]) := goP_pcs h rfl
theorem goPN_int {f : Nat} {vs : List V} {rd : List Nat} {s : Nat} {k : IntKind} {n : Int} {K : Env → Blk → Prop} (h : PEv S f vs (.one (.p (.int k n)))) : goPN S .all (.pc f vs rd s) d env blk K ↔ K (put env d (.one (.p (.int k n)))) blk := goPN_pcs h rfl
theorem goPN_bool {f : Nat} {vs : List V} {rd : List Nat} {s : Nat} {n : Bool} {K : Env → Blk → Prop} (h : PEv S f vs (.one (.p (.bool n)))) : goPN S .all (.pc f vs rd s) d env blk K ↔ K (put env d (.one (.p (.bool n)))) blk := goPN_pcs h rfl
theorem W_draw {ops : List IOper} {Q : Post} : W S al (.region true ops) Q env blk ↔ WO S al ops (fun env blk es => okDraw ops [] es = true ∧ Q .normal env blk) env blk [] := by
  rw [W_region_iff]
  constructor
  · rintro ⟨n, e, b, es, h1, h2, h3⟩; exact ⟨n, e, b, es, h1, h2 rfl, h3⟩
  · rintro ⟨n, e, b, es, h1, h2, h3⟩; exact ⟨n, e, b, es, h1, fun _ => h2, h3⟩
end
theorem wrap_small {n : Nat} (h : n ≤ 9223372036854775807) : IntKind.i64.wrap (n : Int) = n := wrap_nat h
theorem wrap_succ {n : Nat} (h : n < 9223372036854775807) : IntKind.i64.wrap ((n : Int) + 1) = ((n + 1 : Nat) : Int) := wrap_nat (n := n + 1) (by omega)
end Go.Abs
namespace Go.Abs

def all2 {α : Type} (f : α → α → Bool) : List α → List α → Bool
  | [], [] => true
  | a :: r, b :: s => f a b && all2 f r s
  | _, _ => false
theorem all2_eq {α : Type} {f : α → α → Bool} (hf : ∀ a b, f a b = true → a = b) : ∀ {l m : List α}, all2 f l m = true → l = m := by
  intro l
  induction l with
  | nil => intro m h; cases m with
    | nil => rfl
    | cons b m => cases h
  | cons a l ih =>
    intro m h
    cases m with
    | nil => cases h
    | cons b m =>
      simp only [all2, Bool.and_eq_true] at h
      rw [hf _ _ h.1, ih h.2]

def eqIx : IntKind → IntKind → Bool
  | .i64, .i64 => true
  | a, b => decide (a = b)
theorem eqIx_eq {a b : IntKind} (h : eqIx a b = true) : a = b := by
  cases a <;> cases b <;> first
    | rfl
    | (simp [eqIx] at h)

/-- equal pure values -/
def eqP : Nat → PV → PV → Bool
  | 0, _, _ => false
  | _ + 1, .int k a, .int k' b => eqIx k k' && a == b
  | _ + 1, .bool a, .bool b => a == b
  | n + 1, .sl a, .sl b => all2 (all2 (eqP n)) a b
  | n + 1, .box a, .box b => all2 (eqP n) a b
  | n + 1, .fn f a b, .fn g c d => Nat.beq f g && (all2 (eqP n) a c && all2 (eqP n) b d)
  | _ + 1, .nils, .nils => true
  | _ + 1, .nilp, .nilp => true
  | _ + 1, _, _ => false

theorem eqP_eq : ∀ (n : Nat) (x y : PV), eqP n x y = true → x = y := by
  intro n
  induction n with
  | zero => intro x y h; cases h
  | succ n ih =>
    intro x y h
    unfold eqP at h
    split at h
    · rename_i h0; cases h0
    · rename_i h0; cases h0; simp only [Bool.and_eq_true, beq_iff_eq] at h; rw [eqIx_eq h.1, h.2]
    · rename_i h0; cases h0; simp only [beq_iff_eq] at h; rw [h]
    · rename_i h0; cases h0; rw [all2_eq (fun _ _ h => all2_eq ih h) h]
    · rename_i h0; cases h0; rw [all2_eq ih h]
    · rename_i h0; cases h0; simp only [Bool.and_eq_true] at h; rw [Nat.eq_of_beq_eq_true h.1, all2_eq ih h.2.1, all2_eq ih h.2.2]
    · rfl
    · rfl
    · cases h

def eqCp : C → C → Bool
  | .p a, .p b => eqP 12 a b
  | _, _ => false
theorem eqCp_eq {a b : C} (h : eqCp a b = true) : a = b := by
  unfold eqCp at h
  split at h
  · rw [eqP_eq _ _ _ h]
  · cases h
def eqVp : V → V → Bool
  | .one a, .one b => eqCp a b
  | .agg a, .agg b => all2 eqCp a b
  | _, _ => false
theorem eqVp_eq {a b : V} (h : eqVp a b = true) : a = b := by
  unfold eqVp at h
  split at h
  · rw [eqCp_eq h]
  · rw [all2_eq (fun _ _ h => eqCp_eq h) h]
  · cases h

abbrev Memo := List (Nat × List V × RV)
def lookM : Memo → Nat → List V → Option RV
  | [], _, _ => none
  | (f, a, r) :: l, g, b => bif Nat.beq f g && all2 eqVp a b then some r else lookM l g b
theorem lookM_mem : ∀ {l : Memo} {f : Nat} {a : List V} {r : RV}, lookM l f a = some r → (f, a, r) ∈ l := by
  intro l
  induction l with
  | nil => intro f a r h; cases h
  | cons e l ih =>
    obtain ⟨g, b, s⟩ := e
    intro f a r h
    simp only [lookM] at h
    cases hb : (Nat.beq g f && all2 eqVp b a) with
    | true =>
      rw [hb] at h
      simp only [cond_true, Option.some.injEq] at h
      simp only [Bool.and_eq_true] at hb
      rw [Nat.eq_of_beq_eq_true hb.1, all2_eq (fun _ _ h => eqVp_eq h) hb.2, h]
      simp
    | false => rw [hb] at h; exact List.mem_cons_of_mem _ (ih h)

def Sys.memo (S : Sys) (l : Memo) : Sys := { S with prim := fun f a => match lookM l f a with
  | some r => some (some r)
  | none => S.prim f a }

def MemoOk (S : Sys) (l : Memo) : Prop := ∀ e ∈ l, PEv S e.1 e.2.1 e.2.2
theorem MemoOk.nil {S : Sys} : MemoOk S [] := fun e h => by simp at h
theorem MemoOk.cons {S : Sys} {l : Memo} {f : Nat} {a : List V} {r : RV} (h : PEv S f a r) (hl : MemoOk S l) : MemoOk S ((f, a, r) :: l) := fun e he => by
  rcases List.mem_cons.1 he with rfl | he
  · exact h
  · exact hl e he
theorem MemoOk.bound {S : Sys} : ∀ {l : Memo}, MemoOk S l → ∃ M, ∀ e ∈ l, callP S M e.1 e.2.1 = some e.2.2 := by
  intro l
  induction l with
  | nil => intro _; exact ⟨0, fun e h => by simp at h⟩
  | cons e l ih =>
    intro h
    obtain ⟨M, hM⟩ := ih fun x hx => h x (by simp [hx])
    obtain ⟨n, hn⟩ := h e (by simp)
    refine ⟨max M n, fun x hx => ?_⟩
    rcases List.mem_cons.1 hx with rfl | hx
    · exact callP_le S (Nat.le_max_right M n) _ _ _ hn
    · exact callP_le S (Nat.le_max_left M n) _ _ _ (hM x hx)

theorem memo_le {S : Sys} {l : Memo} {M : Nat} (hM : ∀ e ∈ l, callP S M e.1 e.2.1 = some e.2.2) : ∀ n, PLe (callP (S.memo l) n) (callP S (n + M)) ∧ SLe (callS (S.memo l) n) (callS S (n + M)) := by
  intro n
  induction n with
  | zero => exact ⟨fun f x r h => by simp [callP] at h, fun f x l k r h => by simp [callS] at h⟩
  | succ n ih =>
    have e1 : n + 1 + M = (n + M) + 1 := by omega
    have hc : ∀ al, (S.memo l).ctx al = S.ctx al := fun _ => rfl
    refine ⟨fun f x r h => ?_, fun f x al k r h => ?_⟩
    · rw [callP] at h
      cases hl : lookM l f x with
      | some r' =>
        have hp : (S.memo l).prim f x = some (some r') := by simp only [Sys.memo, hl]
        rw [hp] at h
        cases h
        exact callP_le S (by omega) _ _ _ (hM _ (lookM_mem hl))
      | none =>
        have hp : (S.memo l).prim f x = S.prim f x := by simp only [Sys.memo, hl]
        rw [hp] at h
        rw [e1, callP]
        split at h
        · exact h
        · have hfn : (S.memo l).fns f = S.fns f := rfl
          rw [hfn] at h
          split at h
          · rename_i fn hf
            split at h
            · rename_i hlen
              rw [if_pos hlen]
              rw [hc] at h
              exact runP_mono ih.1 ih.2 (by omega) h
            · cases h
          · cases h
    · rw [callS] at h
      rw [e1, callS]
      have hfn : (S.memo l).fns f = S.fns f := rfl
      rw [hfn] at h
      split at h
      · rename_i fn hf
        split at h
        · rename_i hlen
          rw [if_pos hlen]
          rw [hc] at h
          exact runS_mono ih.1 ih.2 (by omega) h
        · cases h
      · cases h

/-- a closed call, some calls of which are known -/
theorem PEv_memo {S : Sys} {l : Memo} (hl : MemoOk S l) (n : Nat) {f : Nat} {args : List V} {r : RV} (h : callPF (S.memo l) n f args = some r) : PEv S f args r := by
  obtain ⟨M, hM⟩ := hl.bound
  exact ⟨n + M, (memo_le hM n).1 _ _ _ ((callF_ok (S.memo l) n).1 _ _ _ h)⟩
end Go.Abs
