/-
  More rules for a walk; strings that are split, and numbers that are read.
-/
import Derived.Test.YtehnpoeelhggeaaGreatDoorMd
import Derived.Lib.SplitLaws
import Derived.Lib.AtoiAllCases
import Derived.Lib.Bytes
import Derived.Lib.ItoaNum
set_option linter.unusedSimpArgs false
set_option linter.unusedVariables false
set_option linter.unusedSectionVars false
namespace Go.Abs
theorem asN_nat (k : Nat) : asN (.one (.p (.int .i64 (k : Int)))) = some k := by simp [asN]
theorem asN_lit (n : Nat) : asN (.one (.p (.int .i64 (no_index (@OfNat.ofNat Int n instOfNat))))) = some (@OfNat.ofNat Nat n (instOfNatNat n)) := by
  show asN (.one (.p (.int .i64 (Int.ofNat n)))) = some n
  simp [asN]
theorem snap_p {blk : Blk} {v : PV} : snap blk snapN (.p v) = some (v.norm, []) := rfl
def consR {β : Type} (x : Option (β × List Nat)) (y : Option (List β × List Nat)) : Option (List β × List Nat) := match x, y with
  | some (b, x), some (bs, y) => some (b :: bs, x ++ y)
  | _, _ => none
theorem consR_some {β : Type} {b : β} {x : List Nat} {bs : List β} {y : List Nat} : consR (some (b, x)) (some (bs, y)) = some (b :: bs, x ++ y) := rfl
theorem collect_nil {α β : Type} {f : α → Option (β × List Nat)} : collect f [] = some ([], []) := rfl
theorem collect_cons {α β : Type} {f : α → Option (β × List Nat)} {a : α} {r : List α} : collect f (a :: r) = consR (f a) (collect f r) := by
  simp only [collect, consR]
  cases f a <;> cases collect f r <;> rfl
theorem snapV_one {blk : Blk} {c : C} : snapV blk (.one c) = (snap blk snapN c).map fun (v, r) => (.one (.p v), r) := rfl
theorem snapV_agg {blk : Blk} {cs : List C} : snapV blk (.agg cs) = (collect (snap blk snapN) cs).map fun (vs, r) => (.agg (vs.map .p), r) := rfl

/-- cells that are all pure, as they are handed on -/
theorem collect_ps {blk : Blk} : ∀ (ps : List PV), collect (snap blk snapN) (ps.map .p) = some (ps.map PV.norm, []) := by
  intro ps
  induction ps with
  | nil => rfl
  | cons p ps ih => simp only [List.map_cons, collect_cons, snap_p, ih, consR_some, List.append_nil]

theorem snap_ps {blk : Blk} {n : Nat} {v : PV} : snap blk (n + 1) (.p v) = some (v.norm, []) := rfl
def snapHsl (o : Nat × Option Ob) (col : List (List C) → Option (List (List PV) × List Nat)) (id g off len : Nat) : Option (PV × List Nat) := match o with
  | (g', some (.arr _ _ es)) => if g' = g ∧ off + len ≤ es.length then some (.sl ((es.drop off).take len), [id]) else none
  | (g', some (.farr _ _ es)) => if g' = g ∧ off + len ≤ es.length then some (.sl ((es.drop off).take len), [id]) else none
  | (g', some (.carr _ _ es)) => if g' = g ∧ off + len ≤ es.length then
      match col ((es.drop off).take len) with
      | some (ps, r) => some (.sl ps, id :: r)
      | none => none
    else none
  | _ => none
theorem snap_hsl {blk : Blk} {id g z off len : Nat} : snap blk snapN (.hsl id g z off len) = snapHsl (blk id) (collect (collect (snap blk 5))) id g off len := by
  unfold snapN snapHsl
  rw [snap]
  rfl
def snapHref (o : Nat × Option Ob) (col : List C → Option (List PV × List Nat)) (id g off : Nat) : Option (PV × List Nat) := match o with
  | (g', some (.var cs)) => if g' = g then
      match col cs with
      | some (ps, r) => some (.box (ps.drop off), id :: r)
      | none => none
    else none
  | (g', some (.fvar ps)) => if g' = g then some (.box (ps.drop off), [id]) else none
  | _ => none
theorem snap_href {blk : Blk} {id g off : Nat} : snap blk snapN (.href id g off) = snapHref (blk id) (collect (snap blk 5)) id g off := by
  unfold snapN snapHref
  rw [snap]
  rfl

section
variable {S : Sys} {al : Al} {env : Env} {blk : Blk} {d : Option Nat}
theorem land_scalar {rd : List Nat} {s : Nat} {x : PV} {b : Bool} (hs : x.scalar = true) : land blk rd s ((RV.one (.p x)).pureIf b) = some (.one (.p x), []) := by
  have h1 : (RV.one (.p x)).pureIf b = .one (.p x) := by cases b <;> rfl
  rw [h1]
  have : (RV.one (.p x)).alone = true := by simp [RV.alone, flatR, flatR1, RC.alone, hs]
  simp only [land, this, or_true, if_true]
  rfl
theorem goPN_pcs {f : Nat} {vs : List V} {rd : List Nat} {s : Nat} {x : PV} {K : Env → Blk → Prop} (h : PEv S f vs (.one (.p x))) (hs : x.scalar = true) : goPN S .all (.pc f vs rd s) d env blk K ↔ K (put env d (.one (.p x))) blk := by
  constructor
  · rintro ⟨y, hy, h2⟩
    have := hy.det h
    subst this
    rw [land_scalar hs] at h2
    exact h2.2
  · intro hK
    refine ⟨_, h, ?_⟩
    rw [land_scalar hs]
    exact ⟨Al.all_oks _, hK⟩
theorem goP_pcs {f : Nat} {vs : List V} {rd : List Nat} {s : Nat} {x : PV} {tr : List Eff} {K : Env → Blk → List Eff → Prop} (h : PEv S f vs (.one (.p x))) (hs : x.scalar = true) : goP S .all (.pc f vs rd s) d env blk tr K ↔ K (put env d (.one (.p x))) blk (tr ++ [⟨rd, [], []⟩]) := by
  constructor
  · rintro ⟨y, hy, h2⟩
    have := hy.det h
    subst this
    rw [land_scalar hs] at h2
    simpa [app] using h2.2
  · intro hK
    refine ⟨_, h, ?_⟩
    rw [land_scalar hs]
    exact ⟨Al.all_oks _, by simpa [app] using hK⟩
theorem goP_int {f : Nat} {vs : List V} {rd : List Nat} {s : Nat} {k : IntKind} {n : Int} {tr : List Eff} {K : Env → Blk → List Eff → Prop} (h : PEv S f vs (.one (.p (.int k n)))) : goP S .all (.pc f vs rd s) d env blk tr K ↔ K (put env d (.one (.p (.int k n)))) blk (tr ++ [⟨rd, [], []⟩]) := goP_pcs h rfl
theorem goPN_int {f : Nat} {vs : List V} {rd : List Nat} {s : Nat} {k : IntKind} {n : Int} {K : Env → Blk → Prop} (h : PEv S f vs (.one (.p (.int k n)))) : goPN S .all (.pc f vs rd s) d env blk K ↔ K (put env d (.one (.p (.int k n)))) blk := goPN_pcs h rfl
theorem goPN_bool {f : Nat} {vs : List V} {rd : List Nat} {s : Nat} {n : Bool} {K : Env → Blk → Prop} (h : PEv S f vs (.one (.p (.bool n)))) : goPN S .all (.pc f vs rd s) d env blk K ↔ K (put env d (.one (.p (.bool n)))) blk := goPN_pcs h rfl
theorem W_draw {ops : List IOper} {Q : Post} : W S al (.region true ops) Q env blk ↔ WO S al ops (fun env blk es => okDraw ops [] es = true ∧ Q .normal env blk) env blk [] := by
  rw [W_region_iff]
  constructor
  · rintro ⟨n, e, b, es, h1, h2, h3⟩; exact ⟨n, e, b, es, h1, h2 rfl, h3⟩
  · rintro ⟨n, e, b, es, h1, h2, h3⟩; exact ⟨n, e, b, es, h1, fun _ => h2, h3⟩
end
theorem wrap_small {n : Nat} (h : n ≤ 9223372036854775807) : IntKind.i64.wrap (n : Int) = n := wrap_nat h
theorem wrap_succ {n : Nat} (h : n < 9223372036854775807) : IntKind.i64.wrap ((n : Int) + 1) = ((n + 1 : Nat) : Int) := wrap_nat (n := n + 1) (by omega)
end Go.Abs
namespace Go.Abs
section
variable {S : Sys} {al : Al} {Q : Post} {env : Env} {blk : Blk} {a b : ICode} {ops os all : List IOper} {tr : List Eff} {d : Option Nat} {op : IOp} {n : Nat}
/-- and then b -/
def thenW (S : Sys) (al : Al) (b : ICode) (Q : Post) : Post
  | .normal, env, blk => W S al b Q env blk
  | .exit i, env, blk => Q (.exit i) env blk
  | .ret, env, blk => Q .ret env blk
theorem thenQ_eq : thenQ (W S al b Q) Q = thenW S al b Q := by funext e env blk; cases e <;> rfl
theorem R_seq : W S al (.seq a b) Q env blk ↔ W S al a (thenW S al b Q) env blk := by rw [W_seq_iff, thenQ_eq]
theorem thenW_normal : thenW S al b Q .normal env blk = W S al b Q env blk := rfl
theorem thenW_exit {i : Nat} : thenW S al b Q (.exit i) env blk = Q (.exit i) env blk := rfl
theorem thenW_ret : thenW S al b Q .ret env blk = Q .ret env blk := rfl

/-- one of two branches -/
def cW (S : Sys) (al : Al) (v : V) (a b : ICode) (Q : Post) (env : Env) (blk : Blk) : Prop := condW v (W S al a Q env blk) (W S al b Q env blk)
theorem R_cond {x : IArg} : W S al (.cond x a b) Q env blk ↔ cW S al (ev env x) a b Q env blk := W_cond_iff
theorem cW_true : cW S al (.one (.p (.bool true))) a b Q env blk = W S al a Q env blk := by simp [cW, condW]
theorem cW_false : cW S al (.one (.p (.bool false))) a b Q env blk = W S al b Q env blk := by simp [cW, condW]

/-- the operations of a region that keeps the text's order -/
def RN (S : Sys) (al : Al) (ops : List IOper) (Q : Post) (env : Env) (blk : Blk) : Prop := WN S al ops (fun env blk => Q .normal env blk) env blk
def gP (S : Sys) (al : Al) (p : Plan) (d : Option Nat) (os : List IOper) (Q : Post) (env : Env) (blk : Blk) : Prop := goPN S al p d env blk (WN S al os fun env blk => Q .normal env blk)
def gW (S : Sys) (al : Al) (w : Option Bool) (d : Option Nat) (op : IOp) (os : List IOper) (Q : Post) (env : Env) (blk : Blk) : Prop := goWN S al w ⟨d, op, none, 0⟩ env blk (WN S al os fun env blk => Q .normal env blk)
theorem R_text : W S al (.region false ops) Q env blk ↔ RN S al ops Q env blk := W_seq_text
theorem RN_nil : RN S al [] Q env blk ↔ Q .normal env blk := WN_nil_iff
theorem RN_op : RN S al (⟨d, op, none, n⟩ :: os) Q env blk ↔ gP S al (plan S.shared env blk op) d os Q env blk := WN_cons_iff
theorem RN_guard {t : Nat} {w : Bool} : RN S al (⟨d, op, some (t, w), n⟩ :: os) Q env blk ↔ gW S al (wantV (env t) w) d op os Q env blk := by
  unfold RN gW
  rw [WN_cons_iff]
  have : wanted env (some (t, w)) = wantV (env t) w := rfl
  simp only [this]
  cases wantV (env t) w with
  | none => rfl
  | some x => cases x <;> rfl
theorem gW_true : gW S al (some true) d op os Q env blk ↔ gP S al (plan S.shared env blk op) d os Q env blk := Iff.rfl
theorem gW_false : gW S al (some false) d op os Q env blk ↔ RN S al os Q (put env d .undef) blk := Iff.rfl
theorem gP_done {v : V} {u : List Upd} {r : List Nat} : gP S .all (.done v u r) d os Q env blk ↔ RN S .all os Q (put env d v) (app u blk) := by
  show (Al.all.oks (r ++ u.map (·.1)) = true ∧ _) ↔ _
  rw [Al.all_oks]
  exact ⟨fun h => h.2, fun h => ⟨rfl, h⟩⟩
theorem gP_done_al {v : V} {u : List Upd} {r : List Nat} : gP S al (.done v u r) d os Q env blk ↔ al.oks (r ++ u.map (·.1)) = true ∧ RN S al os Q (put env d v) (app u blk) := Iff.rfl
/-- a pure call whose result is one word -/
theorem gP_call {f : Nat} {vs : List V} {rd : List Nat} {s : Nat} {x : PV} (h : PEv S f vs (.one (.p x))) (hs : x.scalar = true) : gP S .all (.pc f vs rd s) d os Q env blk ↔ RN S .all os Q (put env d (.one (.p x))) blk := goPN_pcs h hs
theorem gP_p {f : Nat} {vs : List V} {s : Nat} {x : PV} (h : PEv S f vs (.one (.p x))) : gP S .all (.pc f vs [] s) d os Q env blk ↔ RN S .all os Q (put env d (.one (.p x))) blk := goPN_pc_iff h
theorem gP_int {f : Nat} {vs : List V} {rd : List Nat} {s : Nat} {k : IntKind} {x : Int} (h : PEv S f vs (.one (.p (.int k x)))) : gP S .all (.pc f vs rd s) d os Q env blk ↔ RN S .all os Q (put env d (.one (.p (.int k x)))) blk := gP_call h rfl
theorem gP_bool {f : Nat} {vs : List V} {rd : List Nat} {s : Nat} {x : Bool} (h : PEv S f vs (.one (.p (.bool x)))) : gP S .all (.pc f vs rd s) d os Q env blk ↔ RN S .all os Q (put env d (.one (.p (.bool x)))) blk := gP_call h rfl
theorem gP_str {f : Nat} {vs : List V} {rd : List Nat} {s : Nat} {x : ByteArray} (h : PEv S f vs (.one (.p (.str x)))) : gP S .all (.pc f vs rd s) d os Q env blk ↔ RN S .all os Q (put env d (.one (.p (.str x)))) blk := gP_call h rfl
/-- a pure call whose result is taken as v, with these changes of blocks -/
theorem gP_land {rd : List Nat} {s : Nat} {r : RV} {v : V} {u : List Upd} {f : Nat} {vs : List V} (hp : PEv S f vs r) (h : land blk rd s (r.pureIf (S.lone s)) = some (v, u)) : gP S .all (.pc f vs rd s) d os Q env blk ↔ RN S .all os Q (put env d v) (app u blk) := by
  constructor
  · rintro ⟨y, hy, h2⟩
    have := hy.det hp
    subst this
    rw [h] at h2
    exact h2.2
  · intro hK
    refine ⟨_, hp, ?_⟩
    rw [h]
    exact ⟨Al.all_oks _, hK⟩

/-- the operations of a drawn region; tr: what they did -/
def RD (S : Sys) (al : Al) (all ops : List IOper) (Q : Post) (env : Env) (blk : Blk) (tr : List Eff) : Prop := WO S al ops (fun env blk es => okDraw all [] es = true ∧ Q .normal env blk) env blk tr
def dP (S : Sys) (al : Al) (p : Plan) (d : Option Nat) (all os : List IOper) (Q : Post) (env : Env) (blk : Blk) (tr : List Eff) : Prop := goP S al p d env blk tr (WO S al os fun env blk es => okDraw all [] es = true ∧ Q .normal env blk)
def dW (S : Sys) (al : Al) (w : Option Bool) (d : Option Nat) (op : IOp) (all os : List IOper) (Q : Post) (env : Env) (blk : Blk) (tr : List Eff) : Prop := goW S al w ⟨d, op, none, 0⟩ env blk tr (WO S al os fun env blk es => okDraw all [] es = true ∧ Q .normal env blk)
theorem R_draw : W S al (.region true ops) Q env blk ↔ RD S al ops ops Q env blk [] := W_draw
theorem RD_nil : RD S al all [] Q env blk tr ↔ okDraw all [] tr = true ∧ Q .normal env blk := WO_nil_iff
theorem RD_op : RD S al all (⟨d, op, none, n⟩ :: os) Q env blk tr ↔ dP S al (plan S.shared env blk op) d all os Q env blk tr := WO_cons_iff
theorem RD_guard {t : Nat} {w : Bool} : RD S al all (⟨d, op, some (t, w), n⟩ :: os) Q env blk tr ↔ dW S al (wantV (env t) w) d op all os Q env blk tr := by
  unfold RD dW
  rw [WO_cons_iff]
  have : wanted env (some (t, w)) = wantV (env t) w := rfl
  simp only [this]
  cases wantV (env t) w with
  | none => rfl
  | some x => cases x <;> rfl
theorem dW_true : dW S al (some true) d op all os Q env blk tr ↔ dP S al (plan S.shared env blk op) d all os Q env blk tr := Iff.rfl
theorem dW_false : dW S al (some false) d op all os Q env blk tr ↔ RD S al all os Q (put env d .undef) blk (tr ++ [⟨[], [], []⟩]) := Iff.rfl
theorem dP_done {v : V} {u : List Upd} {r : List Nat} : dP S .all (.done v u r) d all os Q env blk tr ↔ RD S .all all os Q (put env d v) (app u blk) (tr ++ [⟨r, u.map (·.1), []⟩]) := by
  show (Al.all.oks (r ++ u.map (·.1)) = true ∧ _) ↔ _
  rw [Al.all_oks]
  exact ⟨fun h => h.2, fun h => ⟨rfl, h⟩⟩
theorem dP_done_al {v : V} {u : List Upd} {r : List Nat} : dP S al (.done v u r) d all os Q env blk tr ↔ al.oks (r ++ u.map (·.1)) = true ∧ RD S al all os Q (put env d v) (app u blk) (tr ++ [⟨r, u.map (·.1), []⟩]) := Iff.rfl
theorem dP_call {f : Nat} {vs : List V} {rd : List Nat} {s : Nat} {x : PV} (h : PEv S f vs (.one (.p x))) (hs : x.scalar = true) : dP S .all (.pc f vs rd s) d all os Q env blk tr ↔ RD S .all all os Q (put env d (.one (.p x))) blk (tr ++ [⟨rd, [], []⟩]) := goP_pcs h hs
theorem dP_int {f : Nat} {vs : List V} {rd : List Nat} {s : Nat} {k : IntKind} {x : Int} (h : PEv S f vs (.one (.p (.int k x)))) : dP S .all (.pc f vs rd s) d all os Q env blk tr ↔ RD S .all all os Q (put env d (.one (.p (.int k x)))) blk (tr ++ [⟨rd, [], []⟩]) := dP_call h rfl
theorem dP_bool {f : Nat} {vs : List V} {rd : List Nat} {s : Nat} {x : Bool} (h : PEv S f vs (.one (.p (.bool x)))) : dP S .all (.pc f vs rd s) d all os Q env blk tr ↔ RD S .all all os Q (put env d (.one (.p (.bool x)))) blk (tr ++ [⟨rd, [], []⟩]) := dP_call h rfl
theorem dP_str {f : Nat} {vs : List V} {rd : List Nat} {s : Nat} {x : ByteArray} (h : PEv S f vs (.one (.p (.str x)))) : dP S .all (.pc f vs rd s) d all os Q env blk tr ↔ RD S .all all os Q (put env d (.one (.p (.str x)))) blk (tr ++ [⟨rd, [], []⟩]) := dP_call h rfl
theorem dP_land {rd : List Nat} {s : Nat} {r : RV} {v : V} {u : List Upd} {f : Nat} {vs : List V} (hp : PEv S f vs r) (h : land blk rd s (r.pureIf (S.lone s)) = some (v, u)) : dP S .all (.pc f vs rd s) d all os Q env blk tr ↔ RD S .all all os Q (put env d v) (app u blk) (tr ++ [⟨rd ++ u.map (·.1), u.map (·.1), []⟩]) := by
  constructor
  · rintro ⟨y, hy, h2⟩
    have := hy.det hp
    subst this
    rw [h] at h2
    exact h2.2
  · intro hK
    refine ⟨_, hp, ?_⟩
    rw [h]
    exact ⟨Al.all_oks _, hK⟩

/-- a round's end -/
def nextQ (N : Nat) (I : Nat → Env → Blk → Prop) (k : Nat) (Q : Post) : Post := thenQ (fun env blk => k < N ∧ I (k + 1) env blk) Q
theorem nextQ_normal {N k : Nat} {I : Nat → Env → Blk → Prop} : nextQ N I k Q .normal env blk = (k < N ∧ I (k + 1) env blk) := rfl
theorem nextQ_exit {N k i : Nat} {I : Nat → Env → Blk → Prop} : nextQ N I k Q (.exit i) env blk = Q (.exit i) env blk := rfl
theorem nextQ_ret {N k : Nat} {I : Nat → Env → Blk → Prop} : nextQ N I k Q .ret env blk = Q .ret env blk := rfl
/-- a loop whose rounds are counted by k from k0 up to N: at N it leaves -/
theorem R_for {c : ICode} (I : Nat → Env → Blk → Prop) (k0 N : Nat) (hk : k0 ≤ N) (h0 : I k0 env blk)
    (round : ∀ k env blk, k ≤ N → I k env blk → W S al c (nextQ N I k Q) env blk) : W S al (.loop c) Q env blk := W_for I k0 N hk h0 round
/-- the end of a function -/
def endV (R : V → Blk → Prop) (blk : Blk) : Option (List V) → Prop
  | some vs => R (tupV vs) blk
  | none => False
theorem E_ret {res : List (Nat × Option (Option Nat))} {R : V → Blk → Prop} : endQ al res R .ret env blk = endV R blk (resultsV al env blk res) := by
  simp only [endQ, endV]
  cases resultsV al env blk res <;> rfl
theorem E_normal {res : List (Nat × Option (Option Nat))} {R : V → Blk → Prop} : endQ al res R .normal env blk = endV R blk (resultsV al env blk res) := by
  simp only [endQ, endV]
  cases resultsV al env blk res <;> rfl
theorem endV_some {R : V → Blk → Prop} {vs : List V} : endV R blk (some vs) = R (tupV vs) blk := rfl
end
end Go.Abs
namespace Go.Abs
open Go.RowKit
/-- the words between the places of c -/
def splL (c : UInt8) : List UInt8 → List (List UInt8)
  | [] => [[]]
  | b :: r => if b = c then [] :: splL c r else match splL c r with
    | [] => [[b]]
    | x :: y => (b :: x) :: y
theorem splL_ne (c : UInt8) (l : List UInt8) : splL c l ≠ [] := by
  cases l with
  | nil => simp [splL]
  | cons b r => simp only [splL]; split
                · simp
                · split <;> simp
theorem splL_free {c : UInt8} : ∀ {l : List UInt8}, c ∉ l → splL c l = [l] := by
  intro l
  induction l with
  | nil => intro _; rfl
  | cons b r ih =>
    intro h
    simp only [List.mem_cons, not_or] at h
    simp only [splL, if_neg (fun e => h.1 (Eq.symm e)), ih h.2]
theorem splL_app {c : UInt8} : ∀ {l r : List UInt8}, c ∉ l → splL c (l ++ c :: r) = l :: splL c r := by
  intro l
  induction l with
  | nil => intro r _; simp [splL]
  | cons b l ih =>
    intro r h
    simp only [List.mem_cons, not_or] at h
    simp only [List.cons_append, splL, if_neg (fun e => h.1 (Eq.symm e)), ih h.2]
/-- a joined list of words without the separator splits into itself -/
theorem splL_join {c : UInt8} : ∀ {xs : List ByteArray}, xs ≠ [] → (∀ x ∈ xs, c ∉ x.data.toList) → splL c (joinB [c] xs) = xs.map (·.data.toList) := by
  intro xs
  induction xs with
  | nil => intro h; exact (h rfl).elim
  | cons x xs ih =>
    intro _ h
    cases xs with
    | nil => simp only [joinB, List.map_cons, List.map_nil]; exact splL_free (h x (by simp))
    | cons y ys =>
      have := ih (by simp) (fun z hz => h z (by simp [hz]))
      simp only [joinB, List.cons_append, List.nil_append] at this ⊢
      rw [splL_app (h x (by simp)), this]
      rfl

theorem index_app {c : UInt8} : ∀ l : List UInt8, (Lib.index l [c] = -1 ∧ c ∉ l) ∨ ∃ a b, l = a ++ c :: b ∧ c ∉ a ∧ Lib.index l [c] = ((a.length : Nat) : Int) := by
  intro l
  induction l with
  | nil => left; exact ⟨rfl, by simp⟩
  | cons b r ih =>
    by_cases h : c = b
    · subst h
      right
      exact ⟨[], r, rfl, by simp, by rw [Lib.index]; simp [List.isPrefixOf]⟩
    · have hp : ([c] : List UInt8).isPrefixOf (b :: r) = false := by simp [List.isPrefixOf, h]
      have hix : Lib.index (b :: r) [c] = if Lib.index r [c] == -1 then -1 else Lib.index r [c] + 1 := by rw [Lib.index, hp]; simp
      rcases ih with ⟨i1, i2⟩ | ⟨x, y, rfl, i2, i3⟩
      · left
        exact ⟨by rw [hix, if_pos (beq_iff_eq.2 i1)], by simp [h, i2]⟩
      · right
        refine ⟨b :: x, y, rfl, by simp [h, i2], ?_⟩
        rw [hix, if_neg (by simp [i3]), i3]
        simp

theorem splB_eq (c : UInt8) : ∀ (k : Nat) (s : ByteArray), Lib.countB s ⟨#[c]⟩ = k → (Lib.splitB ⟨#[c]⟩ 0 k s).map (·.data.toList) = splL c s.data.toList := by
  intro k
  induction k with
  | zero =>
    intro s hk
    rcases index_app (c := c) s.data.toList with ⟨h1, h2⟩ | ⟨a, b, h1, h2, h3⟩
    · rw [Lib.splitB_zero, splL_free h2]; rfl
    · have h3' : Lib.indexB s ⟨#[c]⟩ = ((a.length : Nat) : Int) := h3
      rw [Lib.countB_hit s ⟨#[c]⟩ _ (Nat.le_refl _) h3'] at hk
      omega
  | succ k ih =>
    intro s hk
    rcases index_app (c := c) s.data.toList with ⟨h1, h2⟩ | ⟨a, b, h1, h2, h3⟩
    · have h1' : Lib.indexB s ⟨#[c]⟩ = -1 := h1
      rw [Lib.countB_miss s _ h1'] at hk
      omega
    · have h3' : Lib.indexB s ⟨#[c]⟩ = ((a.length : Nat) : Int) := h3
      have hb := Lib.countB_hit s ⟨#[c]⟩ _ (Nat.le_refl _) h3'
      rw [Lib.splitB_hit _ _ _ _ _ h3', h1, splL_app h2, List.map_cons, ih _ (by omega)]
      have e1 : (s.extract 0 (a.length + 0)).data.toList = a := by
        rw [Nat.add_zero, Lib.extract_from_zero, h1, List.take_left]
      have e2 : (s.extract (a.length + (⟨#[c]⟩ : ByteArray).size) s.size).data.toList = b := by
        have hsz : (⟨#[c]⟩ : ByteArray).size = 1 := rfl
        have hs : s.size = s.data.toList.length := by show s.data.size = _; rw [Array.length_toList]
        rw [Lib.extract_data, hsz, hs, h1]
        have : (a ++ c :: b).drop (a.length + 1) = b := by
          rw [← List.drop_drop, List.drop_left]; rfl
        rw [this, List.take_of_length_le (by simp only [List.length_append, List.length_cons]; omega)]
      rw [e1, e2]

def primSplit (args : List V) : Option RV :=
  match args with
  | [.one (.p (.str s)), .one (.p (.str ⟨⟨[c]⟩⟩))] => if s.size < 4294967281 then some (.one (.p (.sl ((splL c s.data.toList).map fun l => [.str ⟨l.toArray⟩])))) else none
  | _ => none

theorem ba_toList (x : ByteArray) : (⟨x.data.toList.toArray⟩ : ByteArray) = x := by cases x; simp

theorem primSplit_ok {P : Program} {f : Nat} {t : TypeId} {G : World → Prop} {args : List V} {r : RV}
    (hf : ∀ (s sep : ByteArray) (w : World), G w → s.size < 4294967281 → 1 ≤ sep.size → Calls P f #[.string s, .string sep] w fun e w' =>
      e = .returned (.slice (some ⟨w.heap.size, 0, none⟩) (Lib.countB s sep + 1) (Lib.countB s sep + 1)) ∧ w' = w.alloc (.cells ((Lib.splitB sep 0 (Lib.countB s sep) s).map Value.string).toArray t))
    (h : primSplit args = some r) : ∀ (w : World) (O : Nat → Prop) (as : Array Value), Good G w → (∀ c, O c → c < w.heap.size) → Pw (AVRel w O) args as.toList → Calls P f as w (PRes w O r) := by
  intro w O as hg hO ha
  unfold primSplit at h
  split at h
  · rename_i s c
    split at h
    · rename_i hs
      cases h
      obtain ⟨v, u, rfl, hp, hq⟩ := pw2 ha
      generalize hx : PV.str s = x at hp
      generalize hy : PV.str ⟨⟨[c]⟩⟩ = y at hq
      cases hp <;> cases hx
      cases hq <;> cases hy
      refine (hf s ⟨#[c]⟩ w hg.1 hs (Nat.le_refl _)).mono ?_
      rintro e w' ⟨rfl, rfl⟩
      refine pres_p (Grew.alloc _ _) ?_
      have hle : Lib.countB s ⟨#[c]⟩ ≤ s.size := Lib.countB_le _ (Nat.le_refl _) _ s (Nat.le_refl _)
      have hl := Lib.splitB_all ⟨#[c]⟩ (Nat.le_refl _) 0 _ s rfl
      have hsp := splB_eq c _ s rfl
      generalize hws : Lib.splitB ⟨#[c]⟩ 0 (Lib.countB s ⟨#[c]⟩) s = ws at hl hsp
      have hes : (splL c s.data.toList).map (fun l => [PV.str ⟨l.toArray⟩]) = ws.map fun x => [PV.str x] := by
        rw [← hsp, List.map_map]
        exact List.map_congr_left fun x _ => by simp [ba_toList]
      rw [hes]
      have hlen : Lib.countB s ⟨#[c]⟩ + 1 = (ws.map fun x => [PV.str x]).length := by rw [List.length_map, hl]
      have hsz2 : Lib.countB s ⟨#[c]⟩ + 1 ≤ maxLen := by unfold maxLen; omega
      generalize Lib.countB s ⟨#[c]⟩ + 1 = n at hlen hsz2
      subst hlen
      have hfl : (ws.map fun x => [PV.str x]).flatten = ws.map PV.str := by
        clear hl hsp hes hws hsz2
        induction ws with
        | nil => rfl
        | cons a l ih => simp [ih]
      refine PRel.sl w.heap.size 0 _ 1 (fun j => (ws.map Value.string).getD j undef) (fun _ hn => ?_) (Nat.le_refl _) hsz2 (fun e he => ?_) (fun j x hx => ?_) (fun j x hx => ?_)
      · have := hO _ hn; omega
      · obtain ⟨y, _, rfl⟩ := List.mem_map.1 he; rfl
      · rw [hfl, List.getElem?_map] at hx
        obtain ⟨y, h1, rfl⟩ := Option.map_eq_some_iff.1 hx
        rw [Nat.zero_add]
        have h2 : (ws.map Value.string)[j]? = some (Value.string y) := by rw [List.getElem?_map, h1]; rfl
        simp only [World.cell?, World.alloc, Array.getElem?_push_size]
        simp [h2]
      · rw [hfl, List.getElem?_map] at hx
        obtain ⟨y, h1, rfl⟩ := Option.map_eq_some_iff.1 hx
        have h2 : (ws.map Value.string)[j]? = some (Value.string y) := by rw [List.getElem?_map, h1]; rfl
        simp only [List.getD_eq_getElem?_getD, h2, Option.getD_some]
        exact .str _
    · cases h
  · cases h
end Go.Abs
namespace Go.Abs
open Go.RowKit
def primAtoi (args : List V) : Option RV :=
  match args with
  | [.one (.p (.str s))] => if s.size ≤ 281474976710656 then
      match Lib.atoiAll s.data.toList with
      | .ok v => some (.tup [.one (.p (.int .i64 v)), .one (.p .nili)])
      | .range => some (.tup [.one (.p (.int .i64 (Lib.atoiSat s.data.toList))), .one (.p .ifc)])
      | _ => some (.tup [.one (.p (.int .i64 0)), .one (.p .ifc)])
    else none
  | _ => none

/-- neither a number nor out of range: as the empty string -/
theorem atoi_else {x : Lib.NumEnd Int} (h1 : ∀ v, x = .ok v → False) (h2 : x = .range → False) : x = Lib.atoiAll [] := by
  cases x
  · exact (h1 _ rfl).elim
  · rfl
  · exact (h2 rfl).elim

theorem pres_p2 {w w' : World} {O : Nat → Prop} {x y : PV} {v u : Value} (hg : Grew w w') (h : PRel w' O x v) (k : PRel w' O y u) : PRes w O (.tup [.one (.p x), .one (.p y)]) (.returned (.tuple #[v, u])) w' := by
  have less : ∀ {x : PV} {v : Value}, PRel w' O x v → PRel w' (fun c => O c ∨ c ∈ ([] : List Nat)) x v := fun h => h.mono fun c _ hn => ⟨rfl, fun hq => hn (hq.elim id fun h => by simp at h)⟩
  refine ⟨_, [], rfl, hg, List.nodup_nil, fun c hc => by simp at hc, [v, u], ⟨#[v, u], rfl, v, [u], [v], [u], rfl, rfl, rfl, u, [], [u], [], rfl, rfl, rfl, rfl, rfl⟩, v, [u], rfl, less h, u, [], rfl, less k, rfl, rfl⟩

theorem primAtoi_ok {P : Program} {f : Nat} {G : World → Prop} {args : List V} {r : RV}
    (hok : ∀ (s : ByteArray) (v : Int) (w : World), s.size ≤ 281474976710656 → Lib.atoiAll s.data.toList = .ok v → Calls P f #[.string s] w fun e w' => e = .returned (.tuple #[.int .i64 v, .nilIface]) ∧ Below w.heap.size w w')
    (hsyn : ∀ (s : ByteArray) (w : World), G w → s.size ≤ 281474976710656 → Lib.atoiAll s.data.toList = Lib.atoiAll [] → Calls P f #[.string s] w fun e w' => (∃ te pe, e = .returned (.tuple #[.int .i64 0, .iface te pe])) ∧ Below w.heap.size w w')
    (hran : ∀ (s : ByteArray) (w : World), G w → s.size ≤ 281474976710656 → Lib.atoiAll s.data.toList = .range → Calls P f #[.string s] w fun e w' => (∃ te pe, e = .returned (.tuple #[.int .i64 (Lib.atoiSat s.data.toList), .iface te pe])) ∧ Below w.heap.size w w')
    (h : primAtoi args = some r) : ∀ (w : World) (O : Nat → Prop) (as : Array Value), Good G w → Pw (AVRel w O) args as.toList → Calls P f as w (PRes w O r) := by
  intro w O as hg ha
  unfold primAtoi at h
  split at h
  · rename_i s
    split at h
    · rename_i hs
      obtain ⟨v, rfl, hp⟩ := pw1 ha
      have hv : v = .string s := by
        generalize hx : PV.str s = x at hp
        cases hp <;> cases hx
        rfl
      subst hv
      split at h
      · rename_i v hv
        cases h
        refine (hok s v w hs hv).mono ?_
        rintro e w' ⟨rfl, hb⟩
        exact pres_p2 (Grew.of_below hb) (.int _ _) .nili
      · rename_i hv
        cases h
        refine (hran s w hg.1 hs hv).mono ?_
        rintro e w' ⟨⟨te, pe, rfl⟩, hb⟩
        exact pres_p2 (Grew.of_below hb) (.int _ _) (.ifc _ _)
      · rename_i h1 h2
        cases h
        refine (hsyn s w hg.1 hs (atoi_else (fun v h => h1 v h) (fun h => h2 h))).mono ?_
        rintro e w' ⟨⟨te, pe, rfl⟩, hb⟩
        exact pres_p2 (Grew.of_below hb) (.int _ _) (.ifc _ _)
    · cases h
  · cases h

/-- a word that is read as a number that is not negative -/
def numW (s : ByteArray) : Option Int := match Lib.atoiAll s.data.toList with
  | .ok v => if v < 0 then none else some v
  | _ => none
theorem numW_cases (s : ByteArray) (hs : s.size ≤ 281474976710656) : (∃ v : Int, 0 ≤ v ∧ v ≤ 9223372036854775807 ∧ numW s = some v ∧ primAtoi [.one (.p (.str s))] = some (.tup [.one (.p (.int .i64 v)), .one (.p .nili)])) ∨
    (numW s = none ∧ ((∃ v : Int, v < 0 ∧ primAtoi [.one (.p (.str s))] = some (.tup [.one (.p (.int .i64 v)), .one (.p .nili)])) ∨ ∃ v : Int, primAtoi [.one (.p (.str s))] = some (.tup [.one (.p (.int .i64 v)), .one (.p .ifc)]))) := by
  unfold numW
  simp only [primAtoi, if_pos hs]
  cases h : Lib.atoiAll s.data.toList with
  | ok v =>
    have hb := Lib.atoiAll_bounds h
    by_cases hv : v < 0
    · exact .inr ⟨by simp [hv], .inl ⟨v, hv, rfl⟩⟩
    · exact .inl ⟨v, by omega, hb.2, by simp [hv], rfl⟩
  | range => exact .inr ⟨rfl, .inr ⟨_, rfl⟩⟩
  | _ => exact .inr ⟨rfl, .inr ⟨_, rfl⟩⟩
end Go.Abs
namespace Go.Abs
open Go
theorem digit_free (u : Nat) : ∀ b ∈ Lib.decDigits u, 48 ≤ b.toNat ∧ b.toNat ≤ 57 := by
  induction u using Nat.strongRecOn with
  | ind u ih =>
    intro b hb
    rw [Lib.decDigits] at hb
    by_cases h : u < 10
    · rw [dif_pos h] at hb
      simp only [List.mem_cons, List.not_mem_nil, or_false] at hb
      subst hb
      have e : (UInt8.ofNat (48 + u)).toNat = 48 + u := by show (48 + u) % 256 = 48 + u; omega
      omega
    · rw [dif_neg h] at hb
      rw [List.mem_append] at hb
      rcases hb with hb | hb
      · exact ih _ (by omega) b hb
      · simp only [List.mem_cons, List.not_mem_nil, or_false] at hb
        subst hb
        have e : (UInt8.ofNat (48 + u % 10)).toNat = 48 + u % 10 := by show (48 + u % 10) % 256 = 48 + u % 10; omega
        omega
theorem itoa_free (n : Int) : (32 : UInt8) ∉ Lib.itoa n := by
  intro h
  simp only [Lib.itoa] at h
  split at h
  · simp only [List.mem_cons] at h
    rcases h with h | h
    · exact absurd h (by decide)
    · have := digit_free _ _ h
      simp at this
  · have := digit_free _ _ h
    simp at this
theorem parse_digits (u : Nat) : ∀ (r : List UInt8), u < 18446744073709551616 → Lib.parseUint10 0 (Lib.decDigits u ++ r) = Lib.parseUint10 u r := by
  induction u using Nat.strongRecOn with
  | ind u ih =>
    intro r hu
    rw [Lib.decDigits]
    by_cases h : u < 10
    · rw [dif_pos h]
      have e : (UInt8.ofNat (48 + u)).toNat = 48 + u := by show (48 + u) % 256 = 48 + u; omega
      simp only [List.cons_append, List.nil_append, Lib.parseUint10, e]
      rw [if_pos (by omega), if_neg (by omega), if_neg (by omega)]
      congr 1
      omega
    · rw [dif_neg h, List.append_assoc, ih (u / 10) (by omega) _ (by omega)]
      have e : (UInt8.ofNat (48 + u % 10)).toNat = 48 + u % 10 := by show (48 + u % 10) % 256 = 48 + u % 10; omega
      simp only [List.cons_append, List.nil_append, Lib.parseUint10, e]
      rw [if_pos (by omega), if_neg (by omega), if_neg (by omega)]
      congr 1
      omega
theorem decDigits_ne (u : Nat) : Lib.decDigits u ≠ [] := by
  rw [Lib.decDigits]
  split <;> simp
theorem atoi_itoa {n : Int} (h0 : 0 ≤ n) (h1 : n ≤ 9223372036854775807) : Lib.atoiAll (Lib.itoa n) = .ok n := by
  obtain ⟨u, rfl⟩ : ∃ u : Nat, n = (u : Int) := ⟨n.toNat, by omega⟩
  have e : Lib.itoa (u : Int) = Lib.decDigits u := by
    simp only [Lib.itoa]
    rw [if_neg (by omega)]
    simp
  have hp := parse_digits u [] (by omega)
  rw [List.append_nil] at hp
  rw [e]
  have hd := digit_free u
  have hn := decDigits_ne u
  generalize Lib.decDigits u = l at hp hd hn
  cases l with
  | nil => exact (hn rfl).elim
  | cons c r =>
    have hc := hd c (by simp)
    rw [Lib.atoiAll_plain c r (by omega) (by omega)]
    unfold Lib.parseMag
    rw [if_neg hn, hp]
    simp only [Lib.parseUint10, Lib.signless]
    rw [if_neg (by omega)]
/-- a number's string tells the number -/
theorem itoa_inj {a b : Int} (ha : 0 ≤ a) (ha1 : a ≤ 9223372036854775807) (h : Lib.itoa a = Lib.itoa b) : a = b := by
  have hb : 0 ≤ b := by
    by_cases hb : b < 0
    · have e : Lib.itoa a = Lib.decDigits a.toNat := by simp only [Lib.itoa]; rw [if_neg (by omega)]
      have e2 : Lib.itoa b = 45 :: Lib.decDigits b.natAbs := by simp only [Lib.itoa]; rw [if_pos hb]
      rw [e, e2] at h
      have := digit_free a.toNat 45 (by rw [h]; simp)
      simp at this
    · omega
  have e1 : Lib.itoa a = Lib.decDigits a.toNat := by simp only [Lib.itoa]; rw [if_neg (by omega)]
  have e2 : Lib.itoa b = Lib.decDigits b.toNat := by simp only [Lib.itoa]; rw [if_neg (by omega)]
  have key : ∀ (u v : Nat), Lib.decDigits u = Lib.decDigits v → u = v := by
    intro u
    induction u using Nat.strongRecOn with
    | ind u ih =>
      intro v hv
      have e8 : ∀ d : Nat, d < 10 → (UInt8.ofNat (48 + d)).toNat = 48 + d := fun d hd => by show (48 + d) % 256 = 48 + d; omega
      by_cases hu : u < 10 <;> by_cases hw : v < 10
      · have q1 : Lib.decDigits u = [UInt8.ofNat (48 + u)] := by rw [Lib.decDigits, dif_pos hu]
        have q2 : Lib.decDigits v = [UInt8.ofNat (48 + v)] := by rw [Lib.decDigits, dif_pos hw]
        rw [q1, q2] at hv
        have := congrArg UInt8.toNat (List.cons.inj hv).1
        rw [e8 u hu, e8 v hw] at this
        omega
      · have q1 : Lib.decDigits u = [UInt8.ofNat (48 + u)] := by rw [Lib.decDigits, dif_pos hu]
        have q2 : Lib.decDigits v = Lib.decDigits (v / 10) ++ [UInt8.ofNat (48 + v % 10)] := by conv => lhs; rw [Lib.decDigits, dif_neg hw]
        rw [q1, q2] at hv
        have hl := congrArg List.length hv
        simp at hl
        exact (decDigits_ne _ hl).elim
      · have q1 : Lib.decDigits u = Lib.decDigits (u / 10) ++ [UInt8.ofNat (48 + u % 10)] := by conv => lhs; rw [Lib.decDigits, dif_neg hu]
        have q2 : Lib.decDigits v = [UInt8.ofNat (48 + v)] := by rw [Lib.decDigits, dif_pos hw]
        rw [q1, q2] at hv
        have hl := congrArg List.length hv
        simp at hl
        exact (decDigits_ne _ hl).elim
      · have q1 : Lib.decDigits u = Lib.decDigits (u / 10) ++ [UInt8.ofNat (48 + u % 10)] := by conv => lhs; rw [Lib.decDigits, dif_neg hu]
        have q2 : Lib.decDigits v = Lib.decDigits (v / 10) ++ [UInt8.ofNat (48 + v % 10)] := by conv => lhs; rw [Lib.decDigits, dif_neg hw]
        rw [q1, q2] at hv
        obtain ⟨h1, h2⟩ := List.append_inj' hv rfl
        have h1 := ih (u / 10) (by omega) _ h1
        have := congrArg UInt8.toNat (List.cons.inj h2).1
        rw [e8 _ (Nat.mod_lt _ (by decide)), e8 _ (Nat.mod_lt _ (by decide))] at this
        omega
  rw [e1, e2] at h
  have := key _ _ h
  omega
end Go.Abs
