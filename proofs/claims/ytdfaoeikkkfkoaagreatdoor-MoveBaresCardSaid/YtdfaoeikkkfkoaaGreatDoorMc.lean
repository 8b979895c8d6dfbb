/-
  The abstract machine is sound: whatever order a region draws, what it computes the program computes.
-/
import Derived.Test.YtdfaoeikkkfkoaaGreatDoorMa
import Derived.Test.YtdfaoeikkkfkoaaGreatDoorMb
import Derived.LoopN
import Derived.Scope
import Derived.Orders
set_option linter.unusedSimpArgs false
set_option linter.unusedVariables false
set_option linter.unusedSectionVars false
namespace Go.Abs

def AgreeB (ids : List Nat) (b b' : Blk) : Prop := ∀ id ∈ ids, b' id = b id
def AgreeE (ts : List Nat) (e e' : Env) : Prop := ∀ t ∈ ts, e' t = e t

theorem AgreeB.left {x y : List Nat} {b b' : Blk} (h : AgreeB (x ++ y) b b') : AgreeB x b b' := fun i hi => h i (by simp [hi])
theorem AgreeB.right {x y : List Nat} {b b' : Blk} (h : AgreeB (x ++ y) b b') : AgreeB y b b' := fun i hi => h i (by simp [hi])
theorem AgreeE.left {x y : List Nat} {b b' : Env} (h : AgreeE (x ++ y) b b') : AgreeE x b b' := fun i hi => h i (by simp [hi])
theorem AgreeE.right {x y : List Nat} {b b' : Env} (h : AgreeE (x ++ y) b b') : AgreeE y b b' := fun i hi => h i (by simp [hi])

section
variable {e e' : Env}
theorem ev_local {a : IArg} (h : AgreeE a.tmps e e') : ev e' a = ev e a := by
  cases a with
  | t n => exact h n (by simp [IArg.tmps])
  | _ => rfl

theorem evs_local : ∀ {as : List IArg}, AgreeE (tmpsL as) e e' → as.map (ev e') = as.map (ev e) := by
  intro as
  induction as with
  | nil => intro _; rfl
  | cons a r ih => intro h; simp only [List.map_cons]; rw [ev_local h.left, ih h.right]

theorem onesC_local : ∀ {as : List IArg}, AgreeE (tmpsL as) e e' → onesC e' as = onesC e as := by
  intro as
  induction as with
  | nil => intro _; rfl
  | cons a r ih => intro h; simp only [onesC]; rw [ev_local h.left, ih h.right]

theorem elemsV_local {sz : Nat} : ∀ {as : List IArg}, AgreeE (tmpsL as) e e' → elemsV e' sz as = elemsV e sz as := by
  intro as
  induction as with
  | nil => intro _; rfl
  | cons a r ih => intro h; simp only [elemsV]; rw [ev_local h.left, ih h.right]

theorem partsV_local : ∀ {as : List (Nat × Nat × IArg)}, AgreeE (tmpsP as) e e' → partsV e' as = partsV e as := by
  intro as
  induction as with
  | nil => intro _; rfl
  | cons a r ih => intro h; obtain ⟨x, y, a⟩ := a; simp only [partsV]; rw [ev_local h.left, ih h.right]

theorem boundOf_local {d : Nat} {a : Option IArg} (h : AgreeE (tmpsO a) e e') : boundOf e' d a = boundOf e d a := by
  cases a with
  | none => rfl
  | some a => simp only [boundOf]; rw [ev_local h]

theorem fnOf_local {a : IArg} (h : AgreeE a.tmps e e') : fnOf e' a = fnOf e a := by
  unfold fnOf; rw [ev_local h]

theorem plan_env {sh : Nat → Bool} {blk : Blk} {p : IOp} (h : AgreeE p.tmps e e') : plan sh e' blk p = plan sh e blk p := by
  cases p with
  | mov x => simp only [plan, ev_local (a := x) h]
  | pick c a b => simp only [plan, ev_local (a := c) h.left.left, ev_local (a := a) h.left.right, ev_local (a := b) h.right]
  | alloc s z => rfl
  | box s x => simp only [plan, ev_local (a := x) h]
  | build z ps => simp only [plan, partsV_local (as := ps) h]
  | bslice s ty sz ps => simp only [plan, elemsV_local (as := ps) h]
  | load k x => simp only [plan, ev_local (a := x) h]
  | store n a x => simp only [plan, ev_local (a := a) h.left, ev_local (a := x) h.right]
  | nilchk x => simp only [plan, ev_local (a := x) h]
  | bin op x y => simp only [plan, ev_local (a := x) h.left, ev_local (a := y) h.right]
  | eqc k n x y => simp only [plan, ev_local (a := x) h.left, ev_local (a := y) h.right]
  | un op x => simp only [plan, ev_local (a := x) h]
  | conv k x => simp only [plan, ev_local (a := x) h]
  | bstr x => simp only [plan, ev_local (a := x) h]
  | mkfn f a b => simp only [plan, onesC_local (as := a) h.left, onesC_local (as := b) h.right]
  | mkmap s ag => rfl
  | mkslice s ty sz bytes z l c => simp only [plan, ev_local (a := l) h.left, ev_local (a := c) h.right]
  | slice sz x lo hi => simp only [plan, ev_local (a := x) h.left.left, boundOf_local (a := lo) h.left.right, boundOf_local (a := hi) h.right]
  | sslice x lo hi => simp only [plan, ev_local (a := x) h.left.left, boundOf_local (a := lo) h.left.right, boundOf_local (a := hi) h.right]
  | faddr off x => simp only [plan, ev_local (a := x) h]
  | iaddr sz x i => simp only [plan, ev_local (a := x) h.left, ev_local (a := i) h.right]
  | aaddr l sz x i => simp only [plan, ev_local (a := x) h.left, ev_local (a := i) h.right]
  | fld off k x => simp only [plan, ev_local (a := x) h]
  | aidx l sz k x i => simp only [plan, ev_local (a := x) h.left, ev_local (a := i) h.right]
  | sidx x i => simp only [plan, ev_local (a := x) h.left, ev_local (a := i) h.right]
  | lookup kd z ag ok x k => simp only [plan, ev_local (a := x) h.left, ev_local (a := k) h.right]
  | mupd kd ag m k v => simp only [plan, ev_local (a := m) h.left.left, ev_local (a := k) h.left.right, ev_local (a := v) h.right]
  | bad => rfl
  | extract x i => simp only [plan, ev_local (a := x) h]
  | call s f as => simp only [plan, fnOf_local (a := f) h.left, evs_local (as := as) h.right]
  | slen x => simp only [plan, ev_local (a := x) h]
  | llen x => simp only [plan, ev_local (a := x) h]
  | mlen x => simp only [plan, ev_local (a := x) h]
  | append s ty sz b x y => simp only [plan, ev_local (a := x) h.left, ev_local (a := y) h.right]
  | max x y => simp only [plan, ev_local (a := x) h.left, ev_local (a := y) h.right]
  | min x y => simp only [plan, ev_local (a := x) h.left, ev_local (a := y) h.right]
end

section
variable {b b' : Blk}

theorem collect_local {α β : Type} {f g : α → Option (β × List Nat)} (hf : ∀ x y r, f x = some (y, r) → AgreeB r b b' → g x = some (y, r)) : ∀ {xs : List α} {ys : List β} {r : List Nat}, collect f xs = some (ys, r) → AgreeB r b b' → collect g xs = some (ys, r) := by
  intro xs
  induction xs with
  | nil => intro ys r h _; exact h
  | cons x xs ih =>
    intro ys r h ha
    simp only [collect] at h ⊢
    split at h
    · rename_i y p bs q e1 e2
      cases h
      rw [hf _ _ _ e1 ha.left, ih e2 ha.right]
    · cases h

theorem snap_local : ∀ (n : Nat) (c : C) (x : PV) (r : List Nat), snap b n c = some (x, r) → AgreeB r b b' → snap b' n c = some (x, r) := by
  intro n
  induction n with
  | zero => intro c x r h; simp [snap] at h
  | succ n ih =>
    intro c x r h ha
    cases c with
    | p v => exact h
    | href id g off =>
      have hid : id ∈ r := by
        simp only [snap] at h
        (repeat' split at h) <;> first
          | cases h
          | skip
        all_goals simp
      have hb := ha id hid
      simp only [snap] at h ⊢
      rw [hb]
      split at h
      · split at h
        · rename_i hg
          rw [if_pos hg]
          split at h
          · rename_i hc
            cases h
            rw [collect_local ih hc (fun i hi => ha i (by simp [hi]))]
          · cases h
        · cases h
      · exact h
      · cases h
    | hel id g i off =>
      have hid : id ∈ r := by
        simp only [snap, Option.map_eq_some_iff] at h
        (repeat' split at h) <;> first
          | cases h
          | skip
        all_goals (simp only [Option.map_eq_some_iff] at h; obtain ⟨e, _, h⟩ := h; cases h; simp)
      have hb := ha id hid
      simp only [snap] at h ⊢
      rw [hb]; exact h
    | hsl id g z off len =>
      have hid : id ∈ r := by
        simp only [snap] at h
        (repeat' split at h) <;> first
          | cases h
          | skip
        all_goals simp
      have hb := ha id hid
      simp only [snap] at h ⊢
      rw [hb]
      split at h
      · exact h
      · exact h
      · split at h
        · rename_i hg
          rw [if_pos hg]
          split at h
          · rename_i hc
            cases h
            rw [collect_local (fun _ _ _ p q => collect_local ih p q) hc (fun i hi => ha i (by simp [hi]))]
          · cases h
        · cases h
      · cases h
    | hmap id g =>
      have hid : id ∈ r := by
        simp only [snap] at h
        (repeat' split at h) <;> first
          | cases h
          | skip
        all_goals simp
      have hb := ha id hid
      simp only [snap] at h ⊢
      rw [hb]; exact h
    | hfn f x y =>
      simp only [snap] at h ⊢
      split at h
      · rename_i h1 h2
        cases h
        rw [collect_local ih h1 ha.left, collect_local ih h2 ha.right]
      · cases h

theorem snapV_local (x y : V) (r : List Nat) (h : snapV b x = some (y, r)) (ha : AgreeB r b b') : snapV b' x = some (y, r) := by
  cases x with
  | undef => simp [snapV] at h
  | tup _ => simp [snapV] at h
  | one c =>
    simp only [snapV, Option.map_eq_some_iff] at h ⊢
    obtain ⟨⟨p, q⟩, h1, h2⟩ := h
    cases h2
    exact ⟨_, snap_local _ _ _ _ h1 ha, rfl⟩
  | agg cs =>
    simp only [snapV, Option.map_eq_some_iff] at h ⊢
    obtain ⟨⟨p, q⟩, h1, h2⟩ := h
    cases h2
    exact ⟨_, collect_local (snap_local _) h1 ha, rfl⟩

theorem snapVs_local {xs ys : List V} {r : List Nat} (h : snapVs b xs = some (ys, r)) (ha : AgreeB r b b') : snapVs b' xs = some (ys, r) := collect_local snapV_local h ha

theorem frz1_local {all : List Nat} {id : Nat} {u : List Upd} (h : frz1 b all id = some u) (hid : id ∈ all) (ha : AgreeB all b b') : frz1 b' all id = some u := by
  have hb := ha id hid
  unfold frz1 at h ⊢
  rw [hb]
  split at h
  · split at h
    · rename_i ps r hc
      split at h
      · rename_i hr
        have hr' : AgreeB r b b' := fun i hi => ha i (by have := List.all_eq_true.1 hr i hi; simpa using this)
        rw [collect_local (snap_local _) hc hr']
        simp only
        rw [if_pos hr]
        exact h
      · cases h
    · cases h
  · exact h
  · split at h
    · rename_i ps r hc
      split at h
      · rename_i hr
        have hr' : AgreeB r b b' := fun i hi => ha i (by have := List.all_eq_true.1 hr i hi; simpa using this)
        rw [collect_local (fun _ _ _ p q => collect_local (snap_local _) p q) hc hr']
        simp only
        rw [if_pos hr]
        exact h
      · cases h
    · cases h
  · exact h
  · cases h
  · exact h

theorem frzL_local {all : List Nat} (ha : AgreeB all b b') : ∀ {ids : List Nat} {u : List Upd}, (∀ i ∈ ids, i ∈ all) → frzL b all ids = some u → frzL b' all ids = some u := by
  intro ids
  induction ids with
  | nil => intro u _ h; exact h
  | cons i r ih =>
    intro u hs h
    simp only [frzL] at h ⊢
    split at h
    · rename_i x y h1 h2
      cases h
      rw [frz1_local h1 (hs i (by simp)) ha, ih (fun j hj => hs j (by simp [hj])) h2]
    · cases h

theorem frz_local {ids : List Nat} {u : List Upd} (h : frz b ids = some u) (ha : AgreeB ids b b') : frz b' ids = some u := frzL_local ha (fun _ h => h) h


theorem inC_local {site : Nat} {r : RC} (h : AgreeB ((inC b site r).2.map (·.1)) b b') : inC b' site r = inC b site r := by
  cases r with
  | p x => rfl
  | own ty sz es => simp only [inC]; rw [h site (by simp [inC])]

theorem inCs_local : ∀ {rs : List RC} {site : Nat}, AgreeB ((inCs b site rs).2.map (·.1)) b b' → inCs b' site rs = inCs b site rs := by
  intro rs
  induction rs with
  | nil => intro site _; rfl
  | cons r rs ih =>
    intro site h
    simp only [inCs, List.map_append] at h ⊢
    rw [inC_local h.left, ih h.right]

theorem inV_local {site : Nat} {r : RV} (h : AgreeB ((inV b site r).2.map (·.1)) b b') : inV b' site r = inV b site r := by
  unfold inV at h ⊢
  simp only at h
  rw [inCs_local h]

theorem land_local {rd : List Nat} {site : Nat} {r : RV} {v : V} {u : List Upd} (h : land b rd site r = some (v, u)) (ha : AgreeB rd b b') (hu : AgreeB (u.map (·.1)) b b') : land b' rd site r = some (v, u) := by
  unfold land at h ⊢
  split at h
  · rename_i hc
    rw [if_pos hc]
    cases h
    rw [inV_local hu]
    rfl
  · rename_i hc
    rw [if_neg hc]
    split at h
    · rename_i fu hf
      cases h
      rw [frz_local hf ha]
      simp only
      rw [List.map_append] at hu
      rw [inV_local hu.right]
    · cases h

theorem rdAt_local {x : V} {cs : List C} {r : List Nat} (h : rdAt b x = some (cs, r)) (ha : AgreeB r b b') : rdAt b' x = some (cs, r) := by
  have key : ∀ id, (id ∈ r → b' id = b id) := fun id hid => ha id hid
  unfold rdAt at h ⊢
  split at h
  · exact h
  · rename_i id g off
    have hid : id ∈ r := by
      (repeat' split at h) <;> first
        | cases h
        | skip
      all_goals simp
    simp only [key id hid]
    exact h
  · rename_i id g i off
    have hid : id ∈ r := by
      (repeat' split at h) <;> first
        | cases h
        | skip
      all_goals (simp only [Option.map_eq_some_iff] at h; obtain ⟨e, _, h⟩ := h; cases h; simp)
    simp only [key id hid]
    exact h
  · cases h

theorem lenM_local {x : V} {n : Nat} {r : List Nat} (h : lenM b x = some (n, r)) (ha : AgreeB r b b') : lenM b' x = some (n, r) := by
  have key : ∀ id, (id ∈ r → b' id = b id) := fun id hid => ha id hid
  unfold lenM at h ⊢
  split at h
  · exact h
  · exact h
  · rename_i id g
    have hid : id ∈ r := by
      (repeat' split at h) <;> first
        | cases h
        | skip
      all_goals simp
    simp only [key id hid]
    exact h
  · cases h

theorem mapOf_local {ag : Bool} {x : V} {es : List (PV × List PV)} {r : List Nat} (h : mapOf b ag x = some (es, r)) (ha : AgreeB r b b') : mapOf b' ag x = some (es, r) := by
  have key : ∀ id, (id ∈ r → b' id = b id) := fun id hid => ha id hid
  unfold mapOf at h ⊢
  split at h
  · exact h
  · exact h
  · rename_i id g
    have hid : id ∈ r := by
      (repeat' split at h) <;> first
        | cases h
        | skip
      all_goals simp
    simp only [key id hid]
    exact h
  · cases h

theorem elemsOf_local {x : V} {es : List (List PV)} {r fr : List Nat} (h : elemsOf b x = some (es, r, fr)) (ha : AgreeB r b b') (hf : AgreeB fr b b') : elemsOf b' x = some (es, r, fr) := by
  have key : ∀ id, (id ∈ r → b' id = b id) := fun id hid => ha id hid
  unfold elemsOf at h ⊢
  split at h
  · exact h
  · exact h
  · rename_i id g z off len
    have hid : id ∈ r := by
      (repeat' split at h) <;> first
        | cases h
        | skip
      all_goals simp
    simp only [key id hid]
    split at h
    · exact h
    · exact h
    · split at h
      · rename_i hc
        rw [if_pos hc]
        split at h
        · rename_i h1
          cases h
          rw [collect_local (fun _ _ _ p q => collect_local (snap_local _) p q) h1 hf]
        · cases h
      · cases h
    · exact h
  · cases h

theorem wrAt_local {a : V} {n : Nat} {xs : List C} {v : V} {u : List Upd} {r : List Nat} (h : wrAt b a n xs = .done v u r) (ha : AgreeB r b b') : wrAt b' a n xs = .done v u r := by
  have key : ∀ id, (id ∈ r → b' id = b id) := fun id hid => ha id hid
  unfold wrAt at h ⊢
  split at h
  · cases h
  · rename_i hn
    rw [if_neg hn]
    split at h
    · rename_i id g off
      have hid : id ∈ r := by
        (repeat' split at h) <;> first
          | cases h
          | skip
        all_goals simp
      simp only [key id hid]
      exact h
    · rename_i id g i off
      have hid : id ∈ r := by
        (repeat' split at h) <;> first
          | cases h
          | skip
        all_goals simp
      simp only [key id hid]
      exact h
    · cases h

theorem append_local {site ty sz bytes : Nat} {s x v : V} {u : List Upd} {r : List Nat} (h : planAppend b site ty sz bytes s x = .done v u r) (ha : AgreeB r b b') : planAppend b' site ty sz bytes s x = .done v u r := by
  unfold planAppend at h ⊢
  split at h
  · cases h
  · rename_i new rd fr hel
    split at h
    · cases h
    · rename_i hsz
      split at h
      · cases h
      · rename_i fu hfu
        have sub : ∀ {l : List Nat}, (∀ i ∈ l, i ∈ r) → AgreeB l b b' := fun hl i hi => ha i (hl i hi)
        split at h
        · split at h
          · rename_i hn
            cases h
            rw [elemsOf_local hel ha.left ha.right]
            simp only
            rw [if_neg hsz, frz_local hfu ha.right]
            simp only
            rw [if_pos hn]
          · rename_i hn
            split at h
            · rename_i hr
              cases h
              rw [elemsOf_local hel (sub fun i hi => by simp [hi]) (sub fun i hi => by simp [hi])]
              simp only
              rw [if_neg hsz, frz_local hfu (sub fun i hi => by simp [hi])]
              simp only
              rw [if_neg hn, if_pos hr, ha site (by simp)]
            · cases h
        · rename_i id g z len
          split at h
          · rename_i g' ty' sz' es hb
            split at h
            · rename_i hr
              cases h
              rw [elemsOf_local hel (sub fun i hi => by simp [hi]) (sub fun i hi => by simp [hi])]
              simp only
              rw [if_neg hsz, frz_local hfu (sub fun i hi => by simp [hi])]
              simp only
              have h1 := ha id (by simp)
              rw [hb] at h1
              simp only [h1]
              rw [if_pos hr, ha site (by simp)]
            · cases h
          · cases h
        · cases h
end
end Go.Abs
namespace Go.Abs

theorem plan_done {sh : Nat → Bool} {e : Env} {b b' : Blk} {p : IOp} {v : V} {u : List Upd} {r : List Nat} (h : plan sh e b p = .done v u r) (ha : AgreeB r b b') : plan sh e b' p = .done v u r := by
  cases p with
  | alloc s z => simp only [plan, Plan.done.injEq] at h ⊢; obtain ⟨h1, h2, h3⟩ := h; rw [ha s (by rw [← h3]; simp)]; exact ⟨h1, h2, h3⟩
  | mkmap s ag => simp only [plan, Plan.done.injEq] at h ⊢; obtain ⟨h1, h2, h3⟩ := h; rw [ha s (by rw [← h3]; simp)]; exact ⟨h1, h2, h3⟩
  | box s x =>
    simp only [plan] at h ⊢
    split at h
    · cases h; rw [ha s (by simp)]
    · cases h
  | bslice s ty sz ps =>
    simp only [plan] at h ⊢
    split at h
    · split at h
      · cases h; rw [ha s (by simp)]
      · cases h; rw [ha s (by simp)]
    · cases h
  | mkslice s ty sz bytes z l c =>
    simp only [plan] at h ⊢
    split at h
    · split at h
      · rename_i hc; cases h; rw [if_pos hc, ha s (by simp)]
      · cases h
    · cases h
  | load k x =>
    simp only [plan] at h ⊢
    split at h
    · rename_i cs q hq
      split at h
      · rename_i v' hv
        cases h
        rw [rdAt_local hq ha]
        simp only [hv]
      · cases h
    · cases h
  | store n a x =>
    simp only [plan] at h ⊢
    split at h
    · exact wrAt_local h ha
    · cases h
  | bstr x =>
    simp only [plan] at h ⊢
    split at h
    · rename_i es q hq
      split at h
      · rename_i bs hb
        cases h
        rw [elemsOf_local hq ha (fun i hi => by simp at hi)]
        simp only [hb]
      · cases h
    · cases h
  | lookup kd z ag ok x k =>
    simp only [plan] at h ⊢
    split at h
    · rename_i es q key hm hk
      split at h
      · cases h
      · rename_i hkd
        split at h
        · rename_i f hf
          split at h
          · rename_i w hw
            cases h
            rw [mapOf_local hm ha, hk]
            simp only
            rw [if_neg hkd]
            simp only [hf, hw]
          · cases h
        · cases h
    · cases h
  | mupd kd ag m k v =>
    simp only [plan] at h ⊢
    split at h
    · rename_i id g q cs h1 h2 h3
      split at h
      · rename_i g' ag' es ps h4 h5
        split at h
        · rename_i hc
          split at h
          · rename_i i w hf
            cases h
            have hb := ha id (by simp)
            rw [h4] at hb
            simp only [hb, h5]
            rw [if_pos hc]
            simp only [hf]
          · rename_i hf
            cases h
            have hb := ha id (by simp)
            rw [h4] at hb
            simp only [hb, h5]
            rw [if_pos hc]
            simp only [hf]
          · cases h
        · cases h
      · cases h
    · cases h
  | mlen x =>
    simp only [plan] at h ⊢
    split at h
    · rename_i n q hq
      cases h
      rw [lenM_local hq ha]
    · cases h
  | append s ty sz bytes x y => exact append_local h ha
  | call s f as =>
    simp only [plan] at h
    (repeat' split at h) <;> cases h
  | _ => exact h

theorem plan_pc {sh : Nat → Bool} {e : Env} {b b' : Blk} {p : IOp} {f s : Nat} {vs : List V} {r : List Nat} (h : plan sh e b p = .pc f vs r s) (ha : AgreeB r b b') : plan sh e b' p = .pc f vs r s := by
  cases p with
  | call s f as =>
    simp only [plan] at h ⊢
    split at h
    · split at h
      · cases h
      · rename_i hsh
        rw [if_neg hsh]
        split at h
        · rename_i hs
          cases h
          rw [snapVs_local hs ha]
        · cases h
    · cases h
  | _ =>
    (simp only [plan, wrAt, planAppend, planSlice, reduceCtorEq] at h) <;> (repeat' split at h) <;> cases h

theorem plan_sc {sh : Nat → Bool} {e : Env} {b b' : Blk} {p : IOp} {f : Nat} {vs : List V} (h : plan sh e b p = .sc f vs) : plan sh e b' p = .sc f vs := by
  cases p with
  | call s f as =>
    simp only [plan] at h ⊢
    split at h
    · split at h
      · rename_i hsh
        rw [if_pos hsh]; exact h
      · split at h <;> cases h
    · cases h
  | _ =>
    (simp only [plan, wrAt, planAppend, planSlice, reduceCtorEq] at h) <;> (repeat' split at h) <;> cases h

theorem app_at : ∀ (u : List Upd) (b b' : Blk) (id : Nat), id ∈ u.map (·.1) → app u b id = app u b' id := by
  intro u
  induction u with
  | nil => intro b b' id h; simp at h
  | cons x u ih =>
    intro b b' id h
    obtain ⟨i, o⟩ := x
    simp only [app]
    by_cases hu : id ∈ u.map (·.1)
    · exact ih _ _ _ hu
    · have hi : id = i := by simpa [hu] using h
      have key : ∀ (u : List Upd) (b : Blk), id ∉ u.map (·.1) → app u b id = b id := by
        intro u
        induction u with
        | nil => intro b _; rfl
        | cons x u ih =>
          intro b h
          obtain ⟨j, o⟩ := x
          simp only [List.map_cons, List.mem_cons, not_or] at h
          simp only [app]
          rw [ih _ h.2, upd_apply, if_neg h.1]
      rw [key u _ hu, key u _ hu, upd_apply, upd_apply, if_pos hi, if_pos hi]

theorem app_off : ∀ (u : List Upd) (b : Blk) (id : Nat), id ∉ u.map (·.1) → app u b id = b id := by
  intro u
  induction u with
  | nil => intro b id _; rfl
  | cons x u ih =>
    intro b id h
    obtain ⟨j, o⟩ := x
    simp only [List.map_cons, List.mem_cons, not_or] at h
    simp only [app]
    rw [ih _ _ h.2, upd_apply, if_neg h.1]

theorem wanted_local {e e' : Env} {g : Option (Nat × Bool)} (h : ∀ t w, g = some (t, w) → e' t = e t) : wanted e' g = wanted e g := by
  cases g with
  | none => rfl
  | some q => obtain ⟨t, w⟩ := q; simp only [wanted, h t w rfl]

def Eff.writes (f : Eff) (id : Nat) : Bool := f.wr.contains id || f.fs.contains (siteFn id)
def Eff.touch (f : Eff) (id : Nat) : Bool := f.rd.contains id || f.writes id

theorem reachC_local {b b' : Blk} : ∀ (n : Nat) (c : C), AgreeB (reachC b n c) b b' → reachC b' n c = reachC b n c := by
  intro n
  induction n with
  | zero => intro c _; rfl
  | succ n ih =>
    have many : ∀ (cs : List C), AgreeB (cs.map (reachC b n)).flatten b b' → (cs.map (reachC b' n)).flatten = (cs.map (reachC b n)).flatten := by
      intro cs
      induction cs with
      | nil => intro _; rfl
      | cons c cs ihc =>
        intro h
        simp only [List.map_cons, List.flatten_cons] at h ⊢
        rw [ih c h.left, ihc h.right]
    intro c h
    cases c with
    | p v => rfl
    | href id g off =>
      simp only [reachC] at h ⊢
      have hb := h id (by simp)
      rw [hb]
      split
      · rename_i cs hbe
        rw [hbe] at h
        rw [many cs (fun i hi => h i (by simp only [List.mem_cons]; exact .inr hi))]
      · rfl
    | hel id g i off =>
      simp only [reachC] at h ⊢
      have hb := h id (by simp)
      rw [hb]
      split
      · rename_i cs hbe
        rw [hbe] at h
        rw [many _ (fun i hi => h i (by simp only [List.mem_cons]; exact .inr hi))]
      · rfl
    | hsl id g z off len =>
      simp only [reachC] at h ⊢
      have hb := h id (by simp)
      rw [hb]
      split
      · rename_i cs hbe
        rw [hbe] at h
        rw [many _ (fun i hi => h i (by simp only [List.mem_cons]; exact .inr hi))]
      · rfl
    | hmap id g => rfl
    | hfn f x y =>
      simp only [reachC] at h ⊢
      rw [many x h.left, many y h.right]

theorem reachV_local {b b' : Blk} (v : V) (h : AgreeB (reachV b v) b b') : reachV b' v = reachV b v := by
  cases v with
  | undef => rfl
  | tup _ => rfl
  | one c => exact reachC_local _ _ h
  | agg cs =>
    simp only [reachV] at h ⊢
    induction cs with
    | nil => rfl
    | cons c cs ih =>
      simp only [List.map_cons, List.flatten_cons] at h ⊢
      rw [reachC_local _ c h.left, ih h.right]

theorem allow_local {sh : Ctx} {f : Nat} {vs : List V} {b b' : Blk} (h : AgreeB (allow sh f vs b).ids b b') : allow sh f vs b' = allow sh f vs b := by
  have : (vs.map (reachV b')).flatten = (vs.map (reachV b)).flatten := by
    unfold allow at h
    simp only at h
    induction vs with
    | nil => rfl
    | cons v vs ih =>
      simp only [List.map_cons, List.flatten_cons] at h ⊢
      rw [reachV_local v h.left, ih h.right]
  unfold allow
  rw [this]

/-- a shared call leans on, and changes, what it is allowed -/
def SLocal (cs : SCall) : Prop := ∀ f vs al blk v blk', cs f vs al blk = some (v, blk') → (∀ id, al.ok id = false → blk' id = blk id) ∧
  ∀ blk2, (∀ id, al.ok id = true → blk2 id = blk id) → ∃ blk2', cs f vs al blk2 = some (v, blk2') ∧ ∀ id, blk2' id = if al.ok id then blk' id else blk2 id

theorem oks_spec {al : Al} {l : List Nat} (h : al.oks l = true) {id : Nat} (hid : id ∈ l) : al.ok id = true := List.all_eq_true.1 h id hid

theorem holds_spec {a b : Al} (hb : b.any = false) (h : a.holds b = true) {id : Nat} (hid : b.ok id = true) : a.ok id = true := by
  unfold Al.holds at h
  simp only [Bool.or_eq_true, Bool.and_eq_true] at h
  rcases h with h | ⟨h1, h2⟩
  · simp [Al.ok, h]
  · simp only [Al.ok, hb, Bool.false_or, Bool.or_eq_true] at hid
    rcases hid with hid | hid
    · exact oks_spec h1 (by simpa using hid)
    · have := List.all_eq_true.1 h2 (siteFn id) (by simpa using hid)
      simp only [Al.ok, Bool.or_eq_true]
      exact .inr this

/-- what a step leans on, and what it changes -/
theorem step1_local {sh : Ctx} {cp : PCall} {cs : SCall} (hcs : SLocal cs) {o : IOper} {env env' : Env} {blk blk' : Blk} {f : Eff} (h : step1 sh cp cs o env blk = some (env', blk', f)) :
    ∃ v, env' = put env o.dst v ∧ (∀ id, f.writes id = false → blk' id = blk id) ∧ (∀ id, f.touch id = true → sh.al.ok id = true) ∧
      ∀ (env2 : Env) (blk2 : Blk), AgreeE o.uses env env2 → (∀ id, f.touch id = true → blk2 id = blk id) →
        ∃ blk2', step1 sh cp cs o env2 blk2 = some (put env2 o.dst v, blk2', f) ∧ ∀ id, blk2' id = if f.writes id then blk' id else blk2 id := by
  have huse : ∀ (env2 : Env), AgreeE o.uses env env2 → AgreeE o.op.tmps env env2 ∧ wanted env2 o.guard = wanted env o.guard := by
    intro env2 h
    unfold IOper.uses at h
    exact ⟨h.left, wanted_local fun t w hg => h.right t (by rw [hg]; simp)⟩
  have hwr : ∀ (r w : List Nat) (id : Nat), (⟨r, w, []⟩ : Eff).writes id = w.contains id := by intro r w id; simp [Eff.writes]
  have hto : ∀ (r w : List Nat) (id : Nat), (⟨r, w, []⟩ : Eff).touch id = true ↔ id ∈ r ∨ id ∈ w := by intro r w id; simp [Eff.touch, Eff.writes]
  have hupd : ∀ (u : List Upd) (b b2 : Blk) (r : List Nat) (id : Nat), app u b2 id = if (⟨r, u.map (·.1), []⟩ : Eff).writes id then app u b id else b2 id := by
    intro u b b2 r id
    rw [hwr]
    by_cases hid : id ∈ u.map (·.1)
    · rw [if_pos (by simpa using hid)]; exact app_at _ _ _ _ hid
    · rw [if_neg (by simpa using hid)]; exact app_off _ _ _ hid
  unfold step1 at h
  split at h
  · cases h
  · rename_i hw
    cases h
    refine ⟨.undef, rfl, fun _ _ => rfl, fun id hid => by simp [Eff.touch, Eff.writes] at hid, fun env2 blk2 he hb => ⟨blk2, ?_, fun id => by simp [Eff.writes]⟩⟩
    unfold step1
    rw [(huse env2 he).2, hw]
  · rename_i hw
    split at h
    · cases h
    · rename_i v u r hp
      split at h
      · rename_i hok
        cases h
        refine ⟨v, rfl, fun id hid => app_off _ _ _ (by rw [hwr] at hid; simpa using hid), fun id hid => oks_spec hok (by have := (hto _ _ _).1 hid; simpa using this), fun env2 blk2 he hb => ⟨app u blk2, ?_, fun id => hupd _ _ _ _ _⟩⟩
        unfold step1
        rw [(huse env2 he).2, hw]
        simp only
        rw [plan_env (huse env2 he).1, plan_done hp fun id hid => hb id ((hto _ _ _).2 (.inl hid))]
        simp only
        rw [if_pos hok]
      · cases h
    · rename_i g vs r s hp
      split at h
      · rename_i x hx
        split at h
        · rename_i v u hl
          split at h
          · rename_i hok
            cases h
            refine ⟨v, rfl, fun id hid => app_off _ _ _ (by rw [hwr] at hid; simpa using hid), fun id hid => oks_spec hok (by have := (hto _ _ _).1 hid; simp at this ⊢; rcases this with h | h <;> simp [h]), fun env2 blk2 he hb => ⟨app u blk2, ?_, fun id => hupd _ _ _ _ _⟩⟩
            unfold step1
            rw [(huse env2 he).2, hw]
            simp only
            rw [plan_env (huse env2 he).1, plan_pc hp fun id hid => hb id ((hto _ _ _).2 (.inl (by simp [hid])))]
            simp only [hx]
            rw [land_local hl (fun id hid => hb id ((hto _ _ _).2 (.inl (by simp [hid])))) fun id hid => hb id ((hto _ _ _).2 (.inr hid))]
            simp only
            rw [if_pos hok]
          · cases h
        · cases h
      · cases h
    · rename_i g vs hp
      split at h
      · rename_i hok
        split at h
        · rename_i v b1 hx
          cases h
          have hal : ∀ id, (⟨(allow sh g vs blk).ids, (allow sh g vs blk).ids, (allow sh g vs blk).fs⟩ : Eff).writes id = (allow sh g vs blk).ok id := by
            intro id; simp [Eff.writes, Al.ok, allow]
          have hal2 : ∀ id, (⟨(allow sh g vs blk).ids, (allow sh g vs blk).ids, (allow sh g vs blk).fs⟩ : Eff).touch id = (allow sh g vs blk).ok id := by
            intro id
            simp only [Eff.touch, hal]
            simp only [Al.ok]
            cases (allow sh g vs blk).ids.contains id <;> simp
          obtain ⟨l1, l2⟩ := hcs _ _ _ _ _ _ hx
          refine ⟨v, rfl, fun id hid => l1 id (by rw [← hal]; exact hid), fun id hid => holds_spec rfl hok (by rw [← hal2]; exact hid), fun env2 blk2 he hb => ?_⟩
          obtain ⟨blk2', g1, g2⟩ := l2 blk2 fun id hid => hb id (by rw [hal2]; exact hid)
          have hloc : allow sh g vs blk2 = allow sh g vs blk := allow_local fun id hid => hb id (by rw [hal2]; simp [Al.ok, hid])
          refine ⟨blk2', ?_, fun id => by rw [hal]; exact g2 id⟩
          unfold step1
          rw [(huse env2 he).2, hw]
          simp only
          rw [plan_env (huse env2 he).1, plan_sc hp]
          simp only [hloc]
          rw [if_pos hok]
          simp only [g1]
        · cases h
      · cases h
end Go.Abs
namespace Go.Abs

theorem put_swap (env : Env) {d d' : Option Nat} (v v' : V) (h : ∀ t, d = some t → d' ≠ some t) : put (put env d v) d' v' = put (put env d' v') d v := by
  cases d with
  | none => rfl
  | some t =>
    cases d' with
    | none => rfl
    | some t' =>
      have hne : t' ≠ t := fun e => h t rfl (by rw [e])
      funext x
      simp only [put, upd_apply]
      by_cases h1 : x = t
      · subst h1; rw [if_pos rfl, if_neg (fun e => hne e.symm), if_pos rfl]
      · rw [if_neg h1, if_neg h1]

theorem put_off {env : Env} {d : Option Nat} {v : V} {t : Nat} (h : d ≠ some t) : put env d v t = env t := by
  cases d with
  | none => rfl
  | some x => simp only [put, upd_apply]; rw [if_neg (fun e => h (by rw [e]))]

theorem meets_false {a b : List Nat} (h : meets a b = false) {i : Nat} (ha : i ∈ a) : i ∉ b := by
  intro hb
  have : meets a b = true := by simp only [meets, List.any_eq_true]; exact ⟨i, ha, by simpa using hb⟩
  rw [h] at this; cases this

theorem inFs_false {fs ids : List Nat} (h : inFs fs ids = false) {i : Nat} (hi : i ∈ ids) : siteFn i ∉ fs := by
  intro hf
  have : inFs fs ids = true := by simp only [inFs, List.any_eq_true]; exact ⟨i, hi, by simpa using hf⟩
  rw [h] at this; cases this

theorem clash_spec {a b : Eff} (h : clash a b = false) (id : Nat) : (a.writes id = true → b.touch id = false) ∧ (b.writes id = true → a.touch id = false) := by
  simp only [clash, Bool.or_eq_false_iff] at h
  obtain ⟨⟨⟨⟨⟨c1, c2⟩, c3⟩, c4⟩, c5⟩, c6⟩ := h
  have sw : ∀ {x y : List Nat}, meets x y = false → meets y x = false := by
    intro x y h
    cases he : meets y x with
    | false => rfl
    | true =>
      simp only [meets, List.any_eq_true] at he
      obtain ⟨i, h1, h2⟩ := he
      exact absurd h1 (meets_false h (by simpa using h2))
  have one : ∀ {a b : Eff}, meets a.wr b.rd = false → meets a.wr b.wr = false → meets a.fs b.fs = false → inFs a.fs (b.rd ++ b.wr) = false → inFs b.fs (a.rd ++ a.wr) = false → a.writes id = true → b.touch id = false := by
    intro a b c1 c2 c4 c5 c6 hw
    simp only [Eff.writes, Bool.or_eq_true] at hw
    simp only [Eff.touch, Eff.writes, Bool.or_eq_false_iff]
    rcases hw with hw | hw
    · have hw : id ∈ a.wr := by simpa using hw
      exact ⟨by simpa using meets_false c1 hw, by simpa using meets_false c2 hw, by simpa using inFs_false c6 (i := id) (by simp [hw])⟩
    · have hw : siteFn id ∈ a.fs := by simpa using hw
      refine ⟨?_, ?_, ?_⟩
      · cases he : b.rd.contains id with
        | false => rfl
        | true => exact absurd hw (inFs_false c5 (i := id) (by simp at he; simp [he]))
      · cases he : b.wr.contains id with
        | false => rfl
        | true => exact absurd hw (inFs_false c5 (i := id) (by simp at he; simp [he]))
      · simpa using meets_false c4 hw
  exact ⟨one c1 c2 c4 c5 c6, one (sw c3) (sw c2) (sw c4) c6 c5⟩

theorem swap {sh : Ctx} {cp : PCall} {cs : SCall} (hcs : SLocal cs) {x y : IOper} {env env1 env2 : Env} {blk blk1 blk2 : Blk} {e1 e2 : Eff} (hx : step1 sh cp cs x env blk = some (env1, blk1, e1)) (hy : step1 sh cp cs y env1 blk1 = some (env2, blk2, e2))
    (hf : free2 x y = true) (hc : clash e1 e2 = false) : ∃ envy blky, step1 sh cp cs y env blk = some (envy, blky, e2) ∧ step1 sh cp cs x envy blky = some (env2, blk2, e1) := by
  obtain ⟨v1, rfl, fr1, _, loc1⟩ := step1_local hcs hx
  obtain ⟨v2, rfl, fr2, _, loc2⟩ := step1_local hcs hy
  have hf1 : ∀ t, x.dst = some t → t ∉ y.uses ∧ y.dst ≠ some t := by
    intro t ht
    simp only [free2, ht, Bool.and_eq_true] at hf
    have h1 := hf.1
    simp at h1
    exact ⟨by simpa using h1.1, h1.2⟩
  have hf2 : ∀ t, y.dst = some t → t ∉ x.uses := by
    intro t ht
    simp only [free2, ht, Bool.and_eq_true] at hf
    have h1 := hf.2
    simpa using h1
  have hcl := clash_spec hc
  have nw : ∀ {a b : Eff} {id : Nat}, (a.writes id = true → b.touch id = false) → b.touch id = true → a.writes id = false := by
    intro a b id h1 h2
    cases h : a.writes id with
    | false => rfl
    | true => rw [h1 h] at h2; cases h2
  have wt : ∀ {a : Eff} {id : Nat}, a.writes id = true → a.touch id = true := by
    intro a id h; simp [Eff.touch, h]
  obtain ⟨blky, hy2, yb⟩ := loc2 env blk (fun t ht => (put_off fun e => (hf1 t e).1 ht).symm) (fun id hid => (fr1 id (nw (hcl id).1 hid)).symm)
  obtain ⟨blkx, hx2, xb⟩ := loc1 (put env y.dst v2) blky (fun t ht => put_off fun e => hf2 t e ht) (fun id hid => by
      rw [yb id, nw (hcl id).2 hid]; rfl)
  refine ⟨_, blky, hy2, ?_⟩
  rw [hx2, put_swap env v1 v2 fun t ht => (hf1 t ht).2]
  have : blkx = blk2 := by
    funext id
    rw [xb id, yb id]
    cases h1 : e1.writes id with
    | true =>
      have h2 : e2.writes id = false := nw (hcl id).2 (wt h1)
      exact (fr2 id h2).symm
    | false =>
      cases h2 : e2.writes id with
      | true => rfl
      | false =>
        simp only [Bool.false_eq_true, if_false]
        rw [fr2 id h2, fr1 id h1]
  rw [this]

structure It where
  i : Nat
  io : IOper
  e : Eff

def apart2 (x y : It) : Prop := free2 x.io y.io = true ∧ clash x.e y.e = false

theorem steps_cons {sh : Ctx} {cp : PCall} {cs : SCall} {o : IOper} {r : List IOper} {env env' : Env} {blk blk' : Blk} {e : Eff} {es : List Eff} (h : steps sh cp cs (o :: r) env blk = some (env', blk', e :: es)) :
    ∃ env1 blk1, step1 sh cp cs o env blk = some (env1, blk1, e) ∧ steps sh cp cs r env1 blk1 = some (env', blk', es) := by
  simp only [steps] at h
  split at h
  · rename_i env1 blk1 e1 h1
    split at h
    · rename_i env2 blk2 es2 h2
      cases h
      exact ⟨env1, blk1, h1, h2⟩
    · cases h
  · cases h

theorem steps_mk {sh : Ctx} {cp : PCall} {cs : SCall} {o : IOper} {r : List IOper} {env env1 env' : Env} {blk blk1 blk' : Blk} {e : Eff} {es : List Eff} (h1 : step1 sh cp cs o env blk = some (env1, blk1, e)) (h2 : steps sh cp cs r env1 blk1 = some (env', blk', es)) :
    steps sh cp cs (o :: r) env blk = some (env', blk', e :: es) := by
  simp only [steps, h1, h2]

theorem to_front {sh : Ctx} {cp : PCall} {cs : SCall} (hcs : SLocal cs) {y : It} {l2 : List It} : ∀ {l1 : List It} {env env' : Env} {blk blk' : Blk}, steps sh cp cs ((l1 ++ y :: l2).map (·.io)) env blk = some (env', blk', (l1 ++ y :: l2).map (·.e)) → (∀ x ∈ l1, apart2 x y) →
    ∃ env1 blk1, step1 sh cp cs y.io env blk = some (env1, blk1, y.e) ∧ steps sh cp cs ((l1 ++ l2).map (·.io)) env1 blk1 = some (env', blk', (l1 ++ l2).map (·.e)) := by
  intro l1
  induction l1 with
  | nil => intro env env' blk blk' h _; exact steps_cons h
  | cons x l1 ih =>
    intro env env' blk blk' h hap
    obtain ⟨envx, blkx, h1, h2⟩ := steps_cons h
    obtain ⟨envy, blky, h3, h4⟩ := ih h2 fun z hz => hap z (by simp [hz])
    obtain ⟨en1, bl1, h5, h6⟩ := swap hcs h1 h3 (hap x (by simp)).1 (hap x (by simp)).2
    exact ⟨en1, bl1, h5, steps_mk h6 h4⟩

/-- two memories that agree on what is allowed -/
def AgreeAl (al : Al) (b b2 : Blk) : Prop := ∀ id, al.ok id = true → b2 id = b id

def Merge (al : Al) (b' b2 b2' : Blk) : Prop := ∀ id, b2' id = if al.ok id then b' id else b2 id
def Frame (al : Al) (b b' : Blk) : Prop := ∀ id, al.ok id = false → b' id = b id

theorem Merge.agree {al : Al} {b' b2 b2' : Blk} (h : Merge al b' b2 b2') : AgreeAl al b' b2' := fun id hid => by rw [h id, hid]; rfl
theorem Merge.trans {al : Al} {b' b2 b2' b'' b2'' : Blk} (h : Merge al b' b2 b2') (k : Merge al b'' b2' b2'') : Merge al b'' b2 b2'' := fun id => by
  rw [k id, h id]
  cases al.ok id <;> rfl
theorem Merge.refl {al : Al} {b b2 : Blk} (h : AgreeAl al b b2) : Merge al b b2 b2 := fun id => by
  cases hid : al.ok id with
  | true => exact h id hid
  | false => rfl
theorem Frame.trans {al : Al} {b b' b'' : Blk} (h : Frame al b b') (k : Frame al b' b'') : Frame al b b'' := fun id hid => (k id hid).trans (h id hid)

section
variable {sh : Ctx} {cp : PCall} {cs : SCall} (hcs : SLocal cs)
include hcs

theorem steps_al : ∀ {ops : List IOper} {env env' : Env} {blk blk' : Blk} {es : List Eff}, steps sh cp cs ops env blk = some (env', blk', es) → Frame sh.al blk blk' ∧
    ∀ blk2, AgreeAl sh.al blk blk2 → ∃ blk2', steps sh cp cs ops env blk2 = some (env', blk2', es) ∧ Merge sh.al blk' blk2 blk2' := by
  intro ops
  induction ops with
  | nil =>
    intro env env' blk blk' es h
    simp only [steps, Option.some.injEq, Prod.mk.injEq] at h
    obtain ⟨rfl, rfl, rfl⟩ := h
    exact ⟨fun _ _ => rfl, fun blk2 ha => ⟨blk2, rfl, .refl ha⟩⟩
  | cons o ops ih =>
    intro env env' blk blk' es h
    simp only [steps] at h
    split at h
    · rename_i env1 blk1 e h1
      split at h
      · rename_i env2 blk2 es' h2
        cases h
        obtain ⟨v, rfl, fr, tw, loc⟩ := step1_local hcs h1
        obtain ⟨f2, g2⟩ := ih h2
        have hw : ∀ id, sh.al.ok id = false → e.writes id = false := by
          intro id hid
          cases hh : e.writes id with
          | false => rfl
          | true => have := tw id (by simp [Eff.touch, hh]); rw [hid] at this; cases this
        refine ⟨Frame.trans (fun id hid => fr id (hw id hid)) f2, fun b2 ha => ?_⟩
        obtain ⟨b1, s1, m1⟩ := loc env b2 (fun _ _ => rfl) (fun id hid => ha id (tw id hid))
        have hm1 : Merge sh.al blk1 b2 b1 := by
          intro id
          rw [m1 id]
          cases hid : sh.al.ok id with
          | true =>
            cases hh : e.writes id with
            | true => rfl
            | false =>
              simp only [Bool.false_eq_true, if_false, if_true]
              rw [ha id hid, fr id hh]
          | false => rw [hw id hid]
        obtain ⟨b3, s2, m2⟩ := g2 b1 hm1.agree
        exact ⟨b3, by simp only [steps, s1, s2], hm1.trans m2⟩
      · cases h
    · cases h

theorem iter_al {c : Env → Blk → Option (AExit × Env × Blk)} (hc : ∀ {env env' blk blk' e}, c env blk = some (e, env', blk') → Frame sh.al blk blk' ∧ ∀ blk2, AgreeAl sh.al blk blk2 → ∃ blk2', c env blk2 = some (e, env', blk2') ∧ Merge sh.al blk' blk2 blk2') :
    ∀ (k : Nat) {env env' : Env} {blk blk' : Blk} {e : AExit}, iter c k env blk = some (e, env', blk') → Frame sh.al blk blk' ∧ ∀ blk2, AgreeAl sh.al blk blk2 → ∃ blk2', iter c k env blk2 = some (e, env', blk2') ∧ Merge sh.al blk' blk2 blk2' := by
  have _u0 := hcs
  intro k
  induction k with
  | zero => intro env env' blk blk' e h; simp [iter] at h
  | succ k ih =>
    intro env env' blk blk' e h
    simp only [iter] at h
    split at h
    · rename_i env1 blk1 h1
      obtain ⟨f1, g1⟩ := hc h1
      obtain ⟨f2, g2⟩ := ih h
      refine ⟨f1.trans f2, fun b2 ha => ?_⟩
      obtain ⟨b1, s1, m1⟩ := g1 b2 ha
      obtain ⟨b3, s2, m2⟩ := g2 b1 m1.agree
      exact ⟨b3, by simp only [iter, s1, s2], m1.trans m2⟩
    · rename_i hne
      obtain ⟨f1, g1⟩ := hc h
      refine ⟨f1, fun b2 ha => ?_⟩
      obtain ⟨b1, s1, m1⟩ := g1 b2 ha
      refine ⟨b1, ?_, m1⟩
      cases e with
      | normal => exact (hne _ _ h).elim
      | exit i => simp only [iter, s1]
      | ret => simp only [iter, s1]

theorem exec_al {n : Nat} : ∀ (c : ICode) {env env' : Env} {blk blk' : Blk} {e : AExit}, exec sh cp cs n c env blk = some (e, env', blk') → Frame sh.al blk blk' ∧
    ∀ blk2, AgreeAl sh.al blk blk2 → ∃ blk2', exec sh cp cs n c env blk2 = some (e, env', blk2') ∧ Merge sh.al blk' blk2 blk2' := by
  intro c
  induction c with
  | skip =>
    intro env env' blk blk' e h
    simp only [exec, Option.some.injEq, Prod.mk.injEq] at h
    obtain ⟨rfl, rfl, rfl⟩ := h
    exact ⟨fun _ _ => rfl, fun b2 ha => ⟨b2, rfl, .refl ha⟩⟩
  | exit id =>
    intro env env' blk blk' e h
    simp only [exec, Option.some.injEq, Prod.mk.injEq] at h
    obtain ⟨rfl, rfl, rfl⟩ := h
    exact ⟨fun _ _ => rfl, fun b2 ha => ⟨b2, rfl, .refl ha⟩⟩
  | ret =>
    intro env env' blk blk' e h
    simp only [exec, Option.some.injEq, Prod.mk.injEq] at h
    obtain ⟨rfl, rfl, rfl⟩ := h
    exact ⟨fun _ _ => rfl, fun b2 ha => ⟨b2, rfl, .refl ha⟩⟩
  | bad => intro env env' blk blk' e h; simp [exec] at h
  | region d ops =>
    intro env env' blk blk' e h
    simp only [exec] at h
    split at h
    · rename_i env1 blk1 es h1
      obtain ⟨f1, g1⟩ := steps_al hcs h1
      have he : (e, env', blk') = (AExit.normal, env1, blk1) ∧ (d = true → okDraw ops [] es = true) := by
        cases d with
        | false => simp at h; exact ⟨by simp [h], fun h => by cases h⟩
        | true =>
          simp only [if_true] at h
          split at h
          · rename_i hd; cases h; exact ⟨rfl, fun _ => hd⟩
          · cases h
      obtain ⟨he, hd⟩ := he
      cases he
      refine ⟨f1, fun b2 ha => ?_⟩
      obtain ⟨b1, s1, m1⟩ := g1 b2 ha
      refine ⟨b1, ?_, m1⟩
      simp only [exec, s1]
      cases d with
      | false => simp
      | true => simp [hd rfl]
    · cases h
  | seq a b iha ihb =>
    intro env env' blk blk' e h
    simp only [exec] at h
    split at h
    · rename_i env1 blk1 h1
      obtain ⟨f1, g1⟩ := iha h1
      obtain ⟨f2, g2⟩ := ihb h
      refine ⟨f1.trans f2, fun b2 ha => ?_⟩
      obtain ⟨b1, s1, m1⟩ := g1 b2 ha
      obtain ⟨b3, s2, m2⟩ := g2 b1 m1.agree
      exact ⟨b3, by simp only [exec, s1, s2], m1.trans m2⟩
    · rename_i hne
      obtain ⟨f1, g1⟩ := iha h
      refine ⟨f1, fun b2 ha => ?_⟩
      obtain ⟨b1, s1, m1⟩ := g1 b2 ha
      refine ⟨b1, ?_, m1⟩
      cases e with
      | normal => exact (hne _ _ h).elim
      | exit i => simp only [exec, s1]
      | ret => simp only [exec, s1]
  | cond x a b iha ihb =>
    intro env env' blk blk' e h
    simp only [exec] at h ⊢
    split at h
    · rename_i t ht
      cases t with
      | true => exact iha h
      | false => exact ihb h
    · cases h
  | block id c ih =>
    intro env env' blk blk' e h
    simp only [exec] at h
    split at h
    · rename_i i env1 blk1 h1
      obtain ⟨f1, g1⟩ := ih h1
      have hb : blk' = blk1 := by split at h <;> cases h <;> rfl
      subst hb
      refine ⟨f1, fun b2 ha => ?_⟩
      obtain ⟨b1, s1, m1⟩ := g1 b2 ha
      refine ⟨b1, ?_, m1⟩
      simp only [exec, s1]
      split at h
      · rename_i hi; cases h; rw [if_pos hi]
      · rename_i hi; cases h; rw [if_neg hi]
    · rename_i hne
      obtain ⟨f1, g1⟩ := ih h
      refine ⟨f1, fun b2 ha => ?_⟩
      obtain ⟨b1, s1, m1⟩ := g1 b2 ha
      refine ⟨b1, ?_, m1⟩
      cases e with
      | normal => simp only [exec, s1]
      | exit i => exact (hne _ _ _ h).elim
      | ret => simp only [exec, s1]
  | loop c ih =>
    intro env env' blk blk' e h
    simp only [exec] at h ⊢
    exact iter_al hcs (fun h => ih h) n h

end

theorem resultsV_al {al : Al} {env : Env} {blk blk2 : Blk} (ha : AgreeAl al blk blk2) : ∀ {rs : List (Nat × Option (Option Nat))} {vs : List V}, resultsV al env blk rs = some vs → resultsV al env blk2 rs = some vs := by
  intro rs
  induction rs with
  | nil => intro vs h; exact h
  | cons r rs ih =>
    obtain ⟨t, k⟩ := r
    cases k with
    | none =>
      intro vs h
      simp only [resultsV] at h ⊢
      split at h
      · rename_i v q h1 h2
        cases h
        simp only [h1, ih h2]
      · cases h
    | some k =>
      intro vs h
      simp only [resultsV] at h ⊢
      split at h
      · rename_i cs rd q h1 h2
        split at h
        · rename_i hok
          rw [rdAt_local h1 (fun id hid => ha id (oks_spec hok hid)), ih h2]
          simp only [hok, if_true]
          exact h
        · cases h
      · cases h

theorem runS_al {sh : Ctx} {cp : PCall} {cs : SCall} (hcs : SLocal cs) {n : Nat} {fn : IFn} {args : List V} {blk blk' : Blk} {v : V} (h : runS sh cp cs n fn args blk = some (v, blk')) : Frame sh.al blk blk' ∧
    ∀ blk2, AgreeAl sh.al blk blk2 → ∃ blk2', runS sh cp cs n fn args blk2 = some (v, blk2') ∧ Merge sh.al blk' blk2 blk2' := by
  unfold runS at h
  split at h
  · rename_i env b hx
    simp only [Option.map_eq_some_iff] at h
    obtain ⟨vs, h1, h2⟩ := h
    cases h2
    obtain ⟨f1, g1⟩ := exec_al hcs _ hx
    refine ⟨f1, fun b2 ha => ?_⟩
    obtain ⟨b3, s1, m1⟩ := g1 b2 ha
    exact ⟨b3, by unfold runS; rw [s1]; simp only [resultsV_al m1.agree h1, Option.map_some], m1⟩
  · rename_i env b hx
    simp only [Option.map_eq_some_iff] at h
    obtain ⟨vs, h1, h2⟩ := h
    cases h2
    obtain ⟨f1, g1⟩ := exec_al hcs _ hx
    refine ⟨f1, fun b2 ha => ?_⟩
    obtain ⟨b3, s1, m1⟩ := g1 b2 ha
    exact ⟨b3, by unfold runS; rw [s1]; simp only [resultsV_al m1.agree h1, Option.map_some], m1⟩
  · cases h
end Go.Abs
namespace Go.Abs
variable {P : Program} {w0 : World}

/-- an argument of a pure call -/
def AVRel (w : World) (O : Nat → Prop) : V → Value → Prop
  | .one (.p x), v => PRel w O x v
  | .agg cs, v => ∃ arr ps, v = .agg arr ∧ cs = ps.map .p ∧ PsRel w O ps arr.toList
  | _, _ => False

def Enters (P : Program) (f : Nat) : Prop := ∃ fn c, P.funcs[f]? = some fn ∧ fn.body = some c ∧ (fn.name == "runtime.NumGoroutine") = false

/-- a result; bs: the blocks that are handed over -/
def RRel (w : World) (Q : Nat → Prop) (r : RV) (val : Value) (bs : List Nat) : Prop := ∃ vs, FlatR r val vs ∧ RCsRel w Q (flatR r) vs bs

def PRes (w : World) (O : Nat → Prop) (r : RV) : Ending → World → Prop := fun e w' =>
  ∃ val bs, e = .returned val ∧ Grew w w' ∧ bs.Nodup ∧ (∀ c ∈ bs, w.heap.size ≤ c ∧ c < w'.heap.size) ∧ RRel w' (fun c => O c ∨ c ∈ bs) r val bs

/-- what the world holds from the beginning on, and what stays so -/
def Good (G : World → Prop) (w : World) : Prop := G w ∧ ∀ w w', Grew w w' → G w → G w'

theorem Ok.grew {m : Mem} (h : Ok w0 m) : Grew w0 m.w := ⟨h.os, h.tape, h.output, h.size, h.base⟩

theorem RCsRel.pure {w : World} {Q Q' : Nat → Prop} (h : ∀ b, Q' b → Q b) : ∀ {rs : List RC} {vs : List Value} {bs : List Nat}, (∀ c ∈ bs, ¬ Q' c) → RCsRel w Q rs vs bs → RCsRel w Q' (rs.map RC.pure) vs [] := by
  intro rs
  induction rs with
  | nil => intro vs bs _ hr; exact ⟨hr.1, rfl⟩
  | cons r rs ih =>
    intro vs bs hb hr
    have less : ∀ {x : PV} {v : Value}, PRel w Q x v → PRel w Q' x v := fun hp => hp.mono fun c _ hn => ⟨rfl, fun hq => hn (h c hq)⟩
    cases r with
    | p x =>
      obtain ⟨v, vs', rfl, h1, h2⟩ := hr
      exact ⟨v, vs', rfl, less h1, ih hb h2⟩
    | own ty sz es =>
      obtain ⟨v, vs', c, bs', rfl, rfl, ⟨cap, cur, e1, e2, e3, e4, e5, e6, e7, e8⟩, h2⟩ := hr
      refine ⟨v, vs', rfl, ?_, ih (fun c hc => hb c (by simp [hc])) h2⟩
      subst e1
      refine PRel.sl c 0 cap sz (fun j => cur.toList.getD j undef) (fun _ => hb c (by simp)) e5 e6 e4 (fun j x hx => ?_) (fun j x hx => ?_)
      · have hj : j < (cur.toList.take (es.length * sz)).length := by rw [e8.1]; exact (List.getElem?_eq_some_iff.1 hx).1
        have hj2 : j < cur.size := by simp at hj; omega
        rw [World.cell?]
        simp [e2, hj2, List.getD, Nat.zero_add]
      · have hj : j < (cur.toList.take (es.length * sz)).length := by rw [e8.1]; exact (List.getElem?_eq_some_iff.1 hx).1
        have hj2 : j < cur.size := by simp at hj; omega
        refine less (e8.2 j x _ hx ?_)
        rw [List.getElem?_take_of_lt (by simp at hj; omega)]
        simp [hj2, List.getD]

theorem FlatR1.pure {r : RV} {v : Value} {vs : List Value} (h : FlatR1 r v vs) : FlatR1 r.pure1 v vs ∧ flatR1 r.pure1 = (flatR1 r).map RC.pure := by
  cases r with
  | one c => exact ⟨h, rfl⟩
  | agg cs => exact ⟨⟨h.1, by simpa [RV.pure1] using h.2⟩, rfl⟩
  | tup _ => exact h.elim

theorem FlatRs.pure : ∀ {rs : List RV} {us vs : List Value}, FlatRs rs us vs → FlatRs (rs.map RV.pure1) us vs ∧ flatRs (rs.map RV.pure1) = (flatRs rs).map RC.pure := by
  intro rs
  induction rs with
  | nil => intro us vs h; exact ⟨h, rfl⟩
  | cons r rs ih =>
    rintro us vs ⟨u, us', a, b, rfl, rfl, h1, h2⟩
    obtain ⟨p1, p2⟩ := h1.pure
    obtain ⟨q1, q2⟩ := ih h2
    exact ⟨⟨u, us', a, b, rfl, rfl, p1, q1⟩, by simp [flatRs, p2, q2]⟩

theorem FlatR.pure {r : RV} {v : Value} {vs : List Value} (h : FlatR r v vs) : FlatR r.pure v vs ∧ flatR r.pure = (flatR r).map RC.pure := by
  cases r with
  | one c => exact FlatR1.pure (r := .one c) h
  | agg cs => exact FlatR1.pure (r := .agg cs) h
  | tup rs =>
    obtain ⟨arr, rfl, h2⟩ := h
    obtain ⟨q1, q2⟩ := h2.pure
    exact ⟨⟨arr, rfl, q1⟩, q2⟩

theorem PRes.pureIf {w w' : World} {O : Nat → Prop} {r : RV} {e : Ending} (b : Bool) (hO : ∀ c, O c → c < w.heap.size) (h : PRes w O r e w') : PRes w O (r.pureIf b) e w' := by
  cases b with
  | false => exact h
  | true =>
    obtain ⟨val, bs, rfl, hg, hnd, hbs, vs, h1, h2⟩ := h
    obtain ⟨p1, p2⟩ := h1.pure
    refine ⟨val, [], rfl, hg, List.nodup_nil, fun c hc => by simp at hc, vs, p1, ?_⟩
    simp only [RV.pureIf]
    rw [p2]
    refine RCsRel.pure (fun b hb => ?_) (fun c hc hn => ?_) h2
    · rcases hb with hb | hb
      · exact .inl hb
      · simp at hb
    · rcases hn with hn | hn
      · have := hO c hn
        have := (hbs c hc).1
        omega
      · simp at hn

/-- what is said of pure calls holds of the program -/
def PSound (P : Program) (G : World → Prop) (cp : PCall) : Prop := ∀ f vs r, cp f vs = some r → Enters P f ∧ ∀ (w : World) (O : Nat → Prop) (args : Array Value), Good G w → (∀ c, O c → c < w.heap.size) → Pw (AVRel w O) vs args.toList → Calls P f args w (PRes w O r)

def SRes (w0 : World) (m : Mem) (v : V) (blk' : Blk) : Ending → World → Prop := fun e w' =>
  ∃ val m', e = .returned val ∧ m'.w = w' ∧ Ok w0 m' ∧ Ev m m' ∧ m'.fr = m.fr ∧ m'.blk = blk' ∧ VRel m' v val

def SSound (P : Program) (G : World → Prop) (cs : SCall) : Prop := ∀ f vs al blk v blk', cs f vs al blk = some (v, blk') → Enters P f ∧ ∀ (w0 : World) (m : Mem) (args : Array Value), Good G w0 → Ok w0 m → m.blk = blk → Pw (VRel m) vs args.toList → Calls P f args m.w (SRes w0 m v blk')

theorem snapV_rel {m : Mem} (hok : Ok w0 m) {O : Nat → Prop} {x y : V} {r : List Nat} {v : Value} (h : snapV m.blk x = some (y, r)) (hr : VRel m x v) (hs : Spares m O r) : AVRel m.w O y v := by
  cases x with
  | undef => simp [snapV] at h
  | tup vs => simp [snapV] at h
  | one c =>
    simp only [snapV, Option.map_eq_some_iff] at h
    obtain ⟨⟨p, r'⟩, h1, h2⟩ := h
    cases h2
    exact snap_rel hok snapN h1 hr hs
  | agg cs =>
    simp only [snapV, Option.map_eq_some_iff] at h
    obtain ⟨⟨ps, r'⟩, h1, h2⟩ := h
    cases h2
    obtain ⟨arr, rfl, hc⟩ := VRel.agg.1 hr
    refine ⟨arr, ps, rfl, rfl, ?_⟩
    exact collect_rel (R := CRel m) (T := PRel m.w O) (good := Spares m O) (fun _ _ => Spares.app) (fun _ _ _ _ h1 h2 h3 => snap_rel hok snapN h1 h2 h3) h1 hs hc

theorem snapVs_rel {m : Mem} (hok : Ok w0 m) {O : Nat → Prop} {xs ys : List V} {r : List Nat} {vs : List Value} (h : snapVs m.blk xs = some (ys, r)) (hr : Pw (VRel m) xs vs) (hs : Spares m O r) : Pw (AVRel m.w O) ys vs :=
  collect_rel (R := VRel m) (T := AVRel m.w O) (good := Spares m O) (fun _ _ => Spares.app) (fun _ _ _ _ h1 h2 h3 => snapV_rel hok h1 h2 h3) h hs hr

theorem own_lt {m : Mem} (hok : Ok w0 m) {c : Nat} (h : m.own c) : c < m.w.heap.size := by
  rcases h with h | ⟨id, o, ho, _, rfl⟩
  · exact hok.frlt c h
  · exact (hok.obj id o ho).lt

theorem scalar_any {w : World} {Q Q' : Nat → Prop} {x : PV} {v : Value} (hs : x.scalar = true) (h : PRel w Q x v) : PRel w Q' x v := by
  cases h <;> first
    | (simp [PV.scalar] at hs; done)
    | constructor

theorem alone_any {w : World} {Q Q' : Nat → Prop} : ∀ {rs : List RC} {vs : List Value} {bs : List Nat}, rs.all RC.alone = true → RCsRel w Q rs vs bs → RCsRel w Q' rs vs bs := by
  intro rs
  induction rs with
  | nil => intro vs bs _ h; exact h
  | cons r rs ih =>
    intro vs bs ha h
    simp only [List.all_cons, Bool.and_eq_true] at ha
    cases r with
    | p x =>
      obtain ⟨v, vs', rfl, h1, h2⟩ := h
      exact ⟨v, vs', rfl, scalar_any ha.1 h1, ih ha.2 h2⟩
    | own ty sz es =>
      obtain ⟨v, vs', c, bs', rfl, rfl, ⟨cap, cur, e1, e2, e3, e4, e5, e6, e7, e8⟩, h2⟩ := h
      refine ⟨v, vs', c, bs', rfl, rfl, ⟨cap, cur, e1, e2, e3, e4, e5, e6, e7, e8.1, fun j x u a b => ?_⟩, ih ha.2 h2⟩
      refine scalar_any ?_ (e8.2 j x u a b)
      have hx := List.mem_of_getElem? a
      obtain ⟨e, he, hxe⟩ := List.mem_flatten.1 hx
      have h1 := ha.1
      simp only [RC.alone] at h1
      exact List.all_eq_true.1 (List.all_eq_true.1 h1 e he) x hxe

theorem land_core {m : Mem} {w' : World} {x : RV} {val : Value} {bs : List Nat} {site : Nat} (hok : Ok w0 m) (hg : Grew m.w w') (hnd : bs.Nodup) (hbs : ∀ c ∈ bs, m.w.heap.size ≤ c ∧ c < w'.heap.size) (hr : RRel w' (fun c => m.own c ∨ c ∈ bs) x val bs) :
    ∃ m', m'.w = w' ∧ Ok w0 m' ∧ Ev m m' ∧ m'.fr = m.fr ∧ m'.blk = app (inV m.blk site x).2 m.blk ∧ VRel m' (inV m.blk site x).1 val := by
  obtain ⟨vs, h1, h2⟩ := hr
  have hok1 : Ok w0 (m.later w' (· ∈ bs)) := later_ok hok hg hbs
  have hev1 : Ev m (m.later w' (· ∈ bs)) := later_ev hg fun c hc => (hbs c hc).1
  obtain ⟨m', e1, e2, e3, _, e5, e6, e7⟩ := inCs_ok (m00 := m) (site := site) hok1 (h2.less fun b hb => later_own.1 hb) hnd (fun c hc => ⟨.inr hc, Nat.le_trans hok.size (hbs c hc).1⟩) hev1 (fun c hc => .inl (hbs c hc).1)
  refine ⟨m', e1, e2, e3, ?_, e6, reshV_rel h1 e7⟩
  funext c
  apply propext
  rw [e5 c]
  constructor
  · rintro ⟨h | h, h2⟩
    · exact h
    · exact (h2 h).elim
  · intro h
    refine ⟨.inl h, fun hc => ?_⟩
    have h1 := hok.frlt c h
    have h2 := (hbs c hc).1
    omega

theorem inV_congr {b b' : Blk} (h : ∀ s, (b s).1 = (b' s).1) (site : Nat) (x : RV) : inV b site x = inV b' site x := by
  unfold inV
  rw [inCs_congr _ site b b' fun s _ => h s]

theorem pcall_sim {G : World → Prop} {cp : PCall} (hcp : PSound P G cp) (hG : Good G w0) {m : Mem} (hok : Ok w0 m) {f : Nat} {xs vs : List V} {rd : List Nat} {x : RV} {site : Nat} {v : V} {u : List Upd} {args : Array Value} (hc : cp f vs = some x) (hs : snapVs m.blk xs = some (vs, rd)) (hargs : Pw (VRel m) xs args.toList)
    {pb : Bool} (hl : land m.blk rd site (x.pureIf pb) = some (v, u)) : Calls P f args m.w (SRes w0 m v (app u m.blk)) := by
  have hcall : ∀ (w : World) (O : Nat → Prop) (args : Array Value), Good G w → (∀ c, O c → c < w.heap.size) → Pw (AVRel w O) vs args.toList → Calls P f args w (PRes w O (x.pureIf pb)) :=
    fun w O args h1 h2 h3 => ((hcp f vs x hc).2 w O args h1 h2 h3).mono fun e w' h => h.pureIf pb h2
  generalize x.pureIf pb = x at hl hcall
  unfold land at hl
  split at hl
  · rename_i hcnd
    cases hl
    have key : ∀ (O : Nat → Prop), (∀ c, O c → c < m.w.heap.size) → Spares m O rd → (∀ w' bs val, RRel w' (fun c => O c ∨ c ∈ bs) x val bs → RRel w' (fun c => m.own c ∨ c ∈ bs) x val bs) → Calls P f args m.w (SRes w0 m (inV m.blk site x).1 (app (inV m.blk site x).2 m.blk)) := by
      intro O hO hsp hup
      refine (hcall m.w O args ⟨hG.2 _ _ hok.grew hG.1, hG.2⟩ hO (snapVs_rel hok hs hargs hsp)).mono ?_
      rintro e w' ⟨val, bs, rfl, hg, hnd, hbs, hr⟩
      obtain ⟨m', e1, e2, e3, e4, e5, e6⟩ := land_core (site := site) hok hg hnd hbs (hup w' bs val hr)
      exact ⟨val, m', rfl, e1, e2, e3, e4, e5, e6⟩
    rcases hcnd with rfl | hal
    · exact key m.own (fun c hc => own_lt hok hc) ⟨fun _ h => h, fun _ h => by simp at h⟩ fun _ _ _ h => h
    · refine key (fun _ => False) (fun c h => h.elim) ⟨fun _ h => h.elim, fun _ _ h => h⟩ fun w' bs val h => ?_
      obtain ⟨vs', h1, h2⟩ := h
      exact ⟨vs', h1, alone_any hal h2⟩
  · split at hl
    · rename_i fu hfu
      cases hl
      have hok1 := frz_ok hok hfu
      have hev1 := frz_ev hfu
      have hsp := frz_spares hok hfu
      refine (hcall m.w (m.with fu).own args ⟨hG.2 _ _ hok.grew hG.1, hG.2⟩ (fun c hc => own_lt hok1 hc) (snapVs_rel hok hs hargs hsp)).mono ?_
      rintro e w' ⟨val, bs, rfl, hg, hnd, hbs, hr⟩
      obtain ⟨m', e1, e2, e3, e4, e5, e6⟩ := land_core (m := m.with fu) (site := site) hok1 hg hnd hbs hr
      have hcong : inV (m.with fu).blk site x = inV m.blk site x := inV_congr (fun s => frz_gen hfu s) site x
      rw [hcong] at e5 e6
      refine ⟨val, m', rfl, e1, e2, hev1.trans e3, e4, ?_, e6⟩
      rw [e5, app_append]
      rfl
    · cases hl

end Go.Abs
namespace Go.Abs
variable {P : Program} {w0 : World}

theorem put_rel {m m' : Mem} (hev : Ev m m') {env : Env} {a : Act} {dst : Option Nat} {v : V} {x : Value} (hr : ERel m env a.tmps) (hv : VRel m' v x) (hd : ∀ d, dst = some d → d < a.tmps.size) : ERel m' (put env dst v) (a.put dst x).tmps := by
  cases dst with
  | none => exact hr.ev hev
  | some d =>
    intro t
    have hlt := hd d rfl
    simp only [put, Act.put, upd_apply]
    by_cases ht : t = d
    · subst ht
      rw [if_pos rfl]
      have : (a.tmps.setIfInBounds t x).getD t undef = x := by simp [hlt]
      rw [this]; exact hv
    · rw [if_neg ht]
      have : (a.tmps.setIfInBounds d x).getD t undef = a.tmps.getD t undef := by
        simp only [Array.getD_eq_getD_getElem?]
        rw [Array.getElem?_setIfInBounds_ne (fun e => ht e.symm)]
      rw [this]; exact (hr t).ev hev.zero

theorem put_size (a : Act) (dst : Option Nat) (x : Value) : (a.put dst x).tmps.size = a.tmps.size := by cases dst <;> simp [Act.put]
theorem put_defers (a : Act) (dst : Option Nat) (x : Value) : (a.put dst x).defers = a.defers := by cases dst <;> simp [Act.put]

theorem wanted_rel {m : Mem} {env : Env} {tmps : Array Value} (hr : ERel m env tmps) {ops : Array Oper} {o : Oper} {g : Option (Nat × Bool)} {b : Bool}
    (hg : match o.guard with | none => g = none | some (j, w) => ∃ t, (ops[j]?).bind (·.dst) = some t ∧ g = some (t, w)) (h : wanted env g = some b) : Region.wanted o (yielded ops tmps) = b := by
  unfold Region.wanted
  cases ho : o.guard with
  | none =>
    rw [ho] at hg
    subst hg
    simp only [wanted, Option.some.injEq] at h
    exact h
  | some q =>
    obtain ⟨j, w⟩ := q
    rw [ho] at hg
    obtain ⟨t, h1, rfl⟩ := hg
    have hrt := hr t
    simp only [wanted] at h
    simp only [yielded, h1, Option.bind_some]
    split at h
    · rename_i b' hb
      rw [hb] at hrt
      have hv := inv_bool hrt
      cases h
      have : tmps[t]? = some (.bool b') := by
        rw [Array.getD_eq_getD_getElem?] at hv
        cases he : tmps[t]? with
        | none => rw [he] at hv; simp [undef] at hv
        | some y => rw [he] at hv; simp at hv; rw [hv]
      rw [this]
      rfl
    · rename_i hb
      rw [hb] at hrt
      cases h
      have hv : tmps.getD t undef = undef := hrt
      rw [Array.getD_eq_getD_getElem?] at hv
      cases he : tmps[t]? with
      | none => rfl
      | some y => rw [he] at hv; simp at hv; rw [hv]; rfl
    · cases h

theorem fnOf_rel {m : Mem} {env : Env} {f : IArg} {v : Value} {g : Nat} {a b : List C} (h : fnOf env f = some (g, a, b)) (hr : VRel m (ev env f) v) : ∃ A B : Array Value, v = .func (.func g) A B ∧ CsRel m a A.toList ∧ CsRel m b B.toList := by
  unfold fnOf at h
  split at h
  · rename_i g' x y he
    cases h
    rw [he] at hr
    obtain ⟨hp⟩ : CRel m _ v := hr
    cases hp with
    | fn A B ha hb hra hrb =>
      exact ⟨A, B, rfl, PsRel.toC ⟨by simpa using ha, fun j x u p q => hra j x u p (by simpa using q)⟩, PsRel.toC ⟨by simpa using hb, fun j x u p q => hrb j x u p (by simpa using q)⟩⟩
  · rename_i g' x y he
    cases h
    rw [he] at hr
    have hc : CRel m _ v := hr
    cases hc with
    | hfn A B ha hb hra hrb =>
      exact ⟨A, B, rfl, ⟨by simpa using ha, fun j x u p q => hra j x u p (by simpa using q)⟩, ⟨by simpa using hb, fun j x u p q => hrb j x u p (by simpa using q)⟩⟩
  · cases h

theorem args_rel {m : Mem} {env : Env} {a : Act} (hr : ERel m env a.tmps) : ∀ {xs : List Operand} {ys : List IArg}, argsC xs = some ys → Pw (VRel m) (ys.map (ev env)) (xs.map a.eval) := by
  intro xs
  induction xs with
  | nil => intro ys h; simp [argsC] at h; subst h; exact ⟨rfl, fun j x u p => by simp at p⟩
  | cons x xs ih =>
    intro ys h
    simp only [argsC] at h
    split at h
    · rename_i y ys' h1 h2
      cases h
      obtain ⟨i1, i2⟩ := ih h2
      refine ⟨by simpa using i1, fun j z u p q => ?_⟩
      cases j with
      | zero => simp at p q; subst p q; exact argC_rel h1 hr
      | succ j => exact i2 j z u (by simpa using p) (by simpa using q)
    · cases h

theorem ones_rel {m : Mem} {cs : List C} {vs : List Value} (h : CsRel m cs vs) : Pw (VRel m) (cs.map .one) vs := by
  refine ⟨by simpa using h.1, fun j x u p q => ?_⟩
  simp only [List.getElem?_map, Option.map_eq_some_iff] at p
  obtain ⟨c, hc, rfl⟩ := p
  exact VRel.one.2 (h.2 j c u hc q)

theorem callFunc_run {f : Nat} (h : Enters P f) (args : Array Value) (w : World) : (callFunc f args).run P w = .ok (.enter f args) w := by
  obtain ⟨fn, c, h1, h2, h3⟩ := h
  have h4 : ¬ fn.name = "runtime.NumGoroutine" := by simpa using h3
  simp [callFunc, run_program, h1, h2, h4]

/-- what a call comes to -/
theorem call_run {o : Oper} {c : Call} {fo : Operand} {a : Act} {g : Nat} {A B : Array Value} {w : World} (ho : o.op = .call c) (hc : c.callee = .value fo) (hv : a.eval fo = .func (.func g) A B) (he : Enters P g) :
    (execOp a.eval o).run P w = .ok (.enter g (A ++ c.args.map a.eval ++ B)) w := by
  simp [execOp, ho, resolve, hc, hv, Deferred.ofValue, invoke, callFunc_run he]

theorem not_call_op {site : Nat} {o : Oper} {p : IOp} (h : compOp P site o = some p) (hp : ∀ s f as, p ≠ .call s f as) {sh : Nat → Bool} {env : Env} {blk : Blk} : (∀ f vs r s, plan sh env blk p ≠ .pc f vs r s) ∧ ∀ f vs, plan sh env blk p ≠ .sc f vs := by
  cases p <;> first
    | exact (hp _ _ _ rfl).elim
    | (simp only [plan]
       constructor <;> intros <;> intro h <;> (repeat' split at h) <;> first
         | cases h
         | (simp only [wrAt, planSlice, planAppend] at h; (repeat' split at h) <;> cases h))

theorem compOp_call {site : Nat} {o : Oper} {s : Nat} {f : IArg} {as : List IArg} (h : compOp P site o = some (.call s f as)) : ∃ c fo, o.op = .call c ∧ c.callee = .value fo ∧ argC fo = some f ∧ argsC c.args.toList = some as := by
  unfold compOp at h
  split at h
  case h_26 c ho =>
    split at h
    · rename_i f' as' h1 h2
      simp only [Option.map_eq_some_iff] at h
      obtain ⟨y, h3, h4⟩ := h
      cases h4
      exact ⟨c, f', ho, h1, h3, h2⟩
    all_goals ((repeat' split at h) <;> first
      | cases h
      | (simp at h; done))
  all_goals ((repeat' split at h) <;> first
    | cases h
    | (simp at h; done))


/-- the reader of a step: what must be shown of every later moment -/
def Then (w0 : World) (m : Mem) (a : Act) (nt : Nat) (env' : Env) (blk' : Blk) (K : Act → World → Prop) : Prop :=
  ∀ (a' : Act) (m' : Mem), Ok w0 m' → Ev m m' → m'.fr = m.fr → m'.blk = blk' → ERel m' env' a'.tmps → a'.tmps.size = nt → a'.defers = a.defers → K a' m'.w

theorem wp_of_calls {o : Oper} {a : Act} {f : Nat} {args : Array Value} {w : World} {K : Act → World → Prop} {Q : Exit → Act → World → Prop} {R : Ending → World → Prop} (hrun : (execOp a.eval o).run P w = .ok (.enter f args) w) (hc : Calls P f args w R)
    (hR : ∀ e w', R e w' → ∃ v, e = .returned v ∧ K (a.put o.dst v) w') : o.wp P a w K Q := by
  unfold Oper.wp
  rw [hrun, Oper.upon_enter]
  refine hc.mono ?_
  intro e w' he
  obtain ⟨v, rfl, hk⟩ := hR e w' he
  exact hk

theorem step_sim {G : World → Prop} (hG : Good G w0) {cp : PCall} {cs : SCall} (hP : PSound P G cp) (hS : SSound P G cs) {sh : Ctx} {ops : Array Oper} {base nt anc : Nat} {o : Oper} {io : IOper} {m : Mem} {env env' : Env} {blk' : Blk} {eff : Eff} {a : Act} {K : Act → World → Prop} {Q : Exit → Act → World → Prop}
    (ho : compOper P (fun j => (ops[j]?).bind (·.dst)) base nt anc o = some io) (hst : step1 sh cp cs io env m.blk = some (env', blk', eff)) (hok : Ok w0 m) (hr : ERel m env a.tmps) (hnt : a.tmps.size = nt) (hK : Then w0 m a nt env' blk' K) :
    if Region.wanted o (yielded ops a.tmps) then o.wp P a m.w K Q else K (a.put o.dst undef) m.w := by
  have hio : io.dst = o.dst ∧ io.op = compOpB P base o ∧ (∀ d, o.dst = some d → d < nt) ∧ (match o.guard with | none => io.guard = none | some (j, w) => ∃ t, (ops[j]?).bind (·.dst) = some t ∧ io.guard = some (t, w)) := by
    unfold compOper at ho
    split at ho
    · rename_i hd
      simp only [Option.map_eq_some_iff] at ho
      obtain ⟨g, hg, rfl⟩ := ho
      refine ⟨rfl, rfl, fun d he => ?_, ?_⟩
      · rw [he] at hd
        simpa [dstOk] using hd
      · cases hgo : o.guard with
        | none => rw [hgo] at hg; simp [guardC] at hg; exact hg.symm
        | some q =>
          obtain ⟨j, w⟩ := q
          rw [hgo] at hg
          simp only [guardC, Option.map_eq_some_iff] at hg
          obtain ⟨t, ht, rfl⟩ := hg
          exact ⟨t, ht, rfl⟩
    · cases ho
  obtain ⟨h1, h2, h3, h4⟩ := hio
  have hd : ∀ d, o.dst = some d → d < a.tmps.size := by rw [hnt]; exact h3
  unfold step1 at hst
  split at hst
  · cases hst
  · rename_i hw
    cases hst
    rw [wanted_rel hr h4 hw]
    simp only [Bool.false_eq_true, if_false]
    rw [h1] at hK
    exact hK _ m hok (Ev.refl m) rfl rfl (put_rel (Ev.refl m) hr (show VRel m .undef undef from rfl) hd) (by rw [put_size, hnt]) (put_defers _ _ _)
  · rename_i hw
    rw [wanted_rel hr h4 hw]
    simp only [if_true]
    rw [h2] at hst
    unfold compOpB at hst
    cases hcomp : compOp P base o with
    | none => rw [hcomp] at hst; simp [plan] at hst
    | some p =>
      rw [hcomp] at hst
      simp only [Option.getD_some] at hst
      split at hst
      · cases hst
      · rename_i v u r hp
        split at hst
        case isFalse => cases hst
        cases hst
        obtain ⟨x, m', hdoes, e2, e3, e4, e5, e6⟩ := op_sim hok hr hcomp hp
        rw [h1] at hK
        have hk := fun x (hx : VRel m' v x) => hK (a.put o.dst x) m' e2 e3 e4 e5 (put_rel e3 hr hx hd) (by rw [put_size, hnt]) (put_defers _ _ _)
        unfold Oper.wp
        rcases hdoes with hd | ⟨hd, rfl⟩
        · rw [hd, Oper.upon_value]; exact hk x e6
        · rw [hd, Oper.upon_skip]; exact hk undef e6
      · rename_i f vs r s hp
        by_cases hcall : ∃ s f as, p = .call s f as
        · obtain ⟨s', f', as, rfl⟩ := hcall
          obtain ⟨c, fo, g1, g2, g3, g4⟩ := compOp_call hcomp
          simp only [plan] at hp
          split at hp
          · rename_i g A B hfn
            obtain ⟨AV, BV, e1, e2, e3⟩ := fnOf_rel hfn (argC_rel g3 hr)
            split at hp
            · cases hp
            · split at hp
              · rename_i ws rd hsn
                cases hp
                split at hst
                · rename_i x hx
                  split at hst
                  · rename_i v u hl
                    split at hst
                    case isFalse => cases hst
                    cases hst
                    have hargs : Pw (VRel m) (A.map .one ++ as.map (ev env) ++ B.map .one) (AV ++ c.args.map a.eval ++ BV).toList := by
                      have := ((ones_rel e2).append (args_rel hr g4)).append (ones_rel e3)
                      simpa using this
                    refine wp_of_calls (call_run g1 g2 e1 (hP _ _ _ hx).1) (pcall_sim hP hG hok hx hsn hargs hl) ?_
                    rintro e w' ⟨val, m', rfl, rfl, q1, q2, q3, q4, q5⟩
                    rw [h1] at hK
                    exact ⟨val, rfl, hK _ m' q1 q2 q3 q4 (put_rel q2 hr q5 hd) (by rw [put_size, hnt]) (put_defers _ _ _)⟩
                  · cases hst
                · cases hst
              · cases hp
          · cases hp
        · exact ((not_call_op hcomp (fun s f as e => hcall ⟨s, f, as, e⟩)).1 _ _ _ _ hp).elim
      · rename_i f vs hp
        by_cases hcall : ∃ s f as, p = .call s f as
        · obtain ⟨s', f', as, rfl⟩ := hcall
          obtain ⟨c, fo, g1, g2, g3, g4⟩ := compOp_call hcomp
          simp only [plan] at hp
          split at hp
          · rename_i g A B hfn
            obtain ⟨AV, BV, e1, e2, e3⟩ := fnOf_rel hfn (argC_rel g3 hr)
            split at hp
            · cases hp
              split at hst
              case isFalse => cases hst
              split at hst
              · rename_i v blk'' hx
                cases hst
                have hargs : Pw (VRel m) (A.map .one ++ as.map (ev env) ++ B.map .one) (AV ++ c.args.map a.eval ++ BV).toList := by
                  have := ((ones_rel e2).append (args_rel hr g4)).append (ones_rel e3)
                  simpa using this
                refine wp_of_calls (call_run g1 g2 e1 (hS _ _ _ _ _ _ hx).1) ((hS _ _ _ _ _ _ hx).2 w0 m _ hG hok rfl hargs) ?_
                rintro e w' ⟨val, m', rfl, rfl, q1, q2, q3, q4, q5⟩
                rw [h1] at hK
                exact ⟨val, rfl, hK _ m' q1 q2 q3 q4 (put_rel q2 hr q5 hd) (by rw [put_size, hnt]) (put_defers _ _ _)⟩
              · cases hst
            · split at hp <;> cases hp
          · cases hp
        · exact ((not_call_op hcomp (fun s f as e => hcall ⟨s, f, as, e⟩)).2 _ _ hp).elim

end Go.Abs
namespace Go.Abs
variable {P : Program} {w0 : World}

theorem compOps_cons {dst anc : Nat → Option Nat} {base nt i : Nat} {o : Oper} {r : List Oper} {l : List IOper} (h : compOps P dst anc base nt i (o :: r) = some l) :
    ∃ x xs, l = x :: xs ∧ compOper P dst ((base + i) * 64) nt ((anc i).getD 0) o = some x ∧ compOps P dst anc base nt (i + 1) r = some xs := by
  simp only [compOps] at h
  split at h
  · rename_i x xs h1 h2
    cases h
    exact ⟨x, xs, rfl, h1, h2⟩
  · cases h

section
variable {G : World → Prop} (hG : Good G w0) {cp : PCall} {cs : SCall} (hP : PSound P G cp) (hS : SSound P G cs) {sh : Ctx}
include hG hP hS

theorem ops_sim {ops : Array Oper} {anc : Nat → Option Nat} {base nt : Nat} {Q : Exit → Act → World → Prop} : ∀ (r : List Oper) {l : List IOper} {i : Nat} {env env' : Env} {m : Mem} {blk' : Blk} {es : List Eff} {a : Act}, (∀ j, ops[i + j]? = r[j]?) → compOps P (fun j => (ops[j]?).bind (·.dst)) anc base nt i r = some l →
    steps sh cp cs l env m.blk = some (env', blk', es) → Ok w0 m → ERel m env a.tmps → a.tmps.size = nt → Then w0 m a nt env' blk' (fun a' w' => Q .normal a' w') → wpOps P ops Q (List.range' i r.length) a m.w := by
  intro r
  induction r with
  | nil =>
    intro l i env env' m blk' es a _ hc hst hok hr hnt hK
    simp [compOps] at hc
    subst hc
    simp only [steps, Option.some.injEq, Prod.mk.injEq] at hst
    obtain ⟨rfl, rfl, _⟩ := hst
    simp only [List.length_nil, List.range'_zero, wpOps]
    exact hK a m hok (Ev.refl m) rfl rfl hr hnt rfl
  | cons o r ih =>
    intro l i env env' m blk' es a hops hc hst hok hr hnt hK
    obtain ⟨x, xs, rfl, h1, h2⟩ := compOps_cons hc
    simp only [steps] at hst
    split at hst
    · rename_i env1 blk1 e1 hs1
      split at hst
      · rename_i env2 blk2 es2 hs2
        cases hst
        have ho : ops[i]? = some o := by have := hops 0; simpa using this
        have key := step_sim (Q := Q) (K := wpOps P ops Q (List.range' (i + 1) r.length)) hG hP hS h1 hs1 hok hr hnt (fun a1 m1 k1 k2 k3 k4 k5 k6 k7 => by
          subst k4
          refine ih (m := m1) (fun j => by have := hops (j + 1); rw [show i + 1 + j = i + (j + 1) by omega]; simpa using this) h2 hs2 k1 k5 k6 ?_
          intro a2 m2 p1 p2 p3 p4 p5 p6 p7
          exact hK a2 m2 p1 (k2.trans p2) (p3.trans k3) p4 p5 p6 (p7.trans k7))
        simp only [List.length_cons, List.range'_succ, wpOps, ho]
        split at key
        · rename_i hw; rw [if_pos hw]; exact .inl key
        · rename_i hw; rw [if_neg hw]; exact key
      · cases hst
    · cases hst

theorem region_sim {ops : Array Oper} {anc : Nat → Option Nat} {base nt id : Nat} {Q : Exit → Act → World → Prop} {l : List IOper} {env env' : Env} {m : Mem} {blk' : Blk} {es : List Eff} {a : Act} (hc : compOps P (fun j => (ops[j]?).bind (·.dst)) anc base nt 0 ops.toList = some l)
    (hst : steps sh cp cs l env m.blk = some (env', blk', es)) (hok : Ok w0 m) (hr : ERel m env a.tmps) (hnt : a.tmps.size = nt) (hK : Then w0 m a nt env' blk' (fun a' w' => Q .normal a' w')) : (Code.region id ops false).wp P Q a m.w := by
  refine wp_region ?_
  have := ops_sim hG hP hS (sh := sh) (ops := ops) (Q := Q) ops.toList (i := 0) (fun j => by simp) hc hst hok hr hnt hK
  rw [List.range_eq_range']
  simpa using this
end

end Go.Abs
namespace Go.Abs
variable {P : Program} {w0 : World}

theorem push_fold {α β : Type} (g : Array β → α → β) : ∀ (l : List α) (acc : Array β), (l.foldl (fun acc o => acc.push (g acc o)) acc).size = acc.size + l.length ∧
    (∀ j, j < acc.size → (l.foldl (fun acc o => acc.push (g acc o)) acc)[j]? = acc[j]?) ∧
    ∀ j o, l[j]? = some o → ∃ pre : Array β, pre.size = acc.size + j ∧ (∀ k, k < pre.size → (l.foldl (fun acc o => acc.push (g acc o)) acc)[k]? = pre[k]?) ∧ (l.foldl (fun acc o => acc.push (g acc o)) acc)[acc.size + j]? = some (g pre o) := by
  intro l
  induction l with
  | nil => intro acc; exact ⟨rfl, fun _ _ => rfl, fun j o h => by simp at h⟩
  | cons x l ih =>
    intro acc
    obtain ⟨h1, h2, h3⟩ := ih (acc.push (g acc x))
    simp only [List.foldl_cons]
    refine ⟨by rw [h1]; simp; omega, fun j hj => ?_, fun j o ho => ?_⟩
    · rw [h2 j (by simp; omega), Array.getElem?_push, if_neg (by omega)]
    · cases j with
      | zero =>
        simp at ho
        subst ho
        refine ⟨acc, by omega, fun k hk => ?_, ?_⟩
        · rw [h2 k (by simp; omega), Array.getElem?_push, if_neg (by omega)]
        · rw [Nat.add_zero, h2 acc.size (by simp), Array.getElem?_push, if_pos rfl]
      | succ j =>
        obtain ⟨pre, p1, p2, p3⟩ := h3 j o (by simpa using ho)
        refine ⟨pre, by rw [p1]; simp; omega, p2, ?_⟩
        rw [← p3]
        simp only [Array.size_push]
        congr 1
        omega

theorem or_fold {α : Type} (f : α → Bool) (g : α → Nat) (h : α → Nat) : ∀ (l : List α) (s j : Nat), (l.foldl (fun s e => if f e then s ||| g e ||| h e else s) s).testBit j = true → s.testBit j = true ∨ ∃ e ∈ l, f e = true ∧ ((g e).testBit j = true ∨ (h e).testBit j = true) := by
  intro l
  induction l with
  | nil => intro s j hh; exact .inl hh
  | cons x l ih =>
    intro s j hh
    simp only [List.foldl_cons] at hh
    rcases ih _ j hh with h1 | ⟨e, he, h2⟩
    · split at h1
      · rename_i hf
        simp only [Nat.testBit_or, Bool.or_eq_true] at h1
        rcases h1 with (h1 | h1) | h1
        · exact .inl h1
        · exact .inr ⟨x, by simp, hf, .inl h1⟩
        · exact .inr ⟨x, by simp, hf, .inr h1⟩
      · exact .inl h1
    · exact .inr ⟨e, by simp [he], h2⟩

theorem before_bits {ops : Array Oper} (hao : afterOk ops = true) {i : Nat} {o : Oper} (ho : ops[i]? = some o) {j : Nat} (hj : (((Region.before ops)[i]?).getD 0).testBit j = true) :
    ∃ e ∈ o.after, Region.binds .any e = true ∧ e.on < i ∧ (j = e.on ∨ (((Region.before ops)[e.on]?).getD 0).testBit j = true) := by
  unfold Region.before at hj ⊢
  rw [← Array.foldl_toList] at hj ⊢
  obtain ⟨h1, h2, h3⟩ := push_fold (fun (acc : Array Nat) (o : Oper) => o.after.foldl (fun s e => if Region.binds .any e then s ||| 2 ^ e.on ||| acc.getD e.on 0 else s) 0) ops.toList #[]
  obtain ⟨pre, p1, p2, p3⟩ := h3 i o (by simpa using ho)
  simp only [Array.size_empty, Nat.zero_add] at p1 p3
  rw [p3] at hj
  simp only [Option.getD_some] at hj
  rw [← Array.foldl_toList] at hj
  rcases or_fold (fun e => Region.binds .any e) (fun e => 2 ^ e.on) (fun e => pre.getD e.on 0) _ _ _ hj with h | ⟨e, he, hb, hbit⟩
  · simp at h
  · have hlt : i < ops.size := (Array.getElem?_eq_some_iff.1 ho).1
    have hon : e.on < i := by
      unfold afterOk at hao
      have := List.all_eq_true.1 hao i (by simpa using hlt)
      rw [ho] at this
      simp only [Array.all_eq_true'] at this
      have := this e (by simpa using he)
      simp only [hb, Bool.not_true, Bool.false_or, decide_eq_true_eq] at this
      exact this
    refine ⟨e, by simpa using he, hb, hon, ?_⟩
    rcases hbit with hbit | hbit
    · left
      rw [Nat.testBit_two_pow] at hbit
      have h9 : e.on = j := by simpa using hbit
      exact h9.symm
    · right
      rw [p2 e.on (by omega)]
      simpa [Array.getD_eq_getD_getElem?] using hbit

theorem compOper_anc {dst : Nat → Option Nat} {base nt anc : Nat} {o : Oper} {io : IOper} (h : compOper P dst base nt anc o = some io) : io.anc = anc := by
  unfold compOper at h
  split at h
  · simp only [Option.map_eq_some_iff] at h
    obtain ⟨g, _, rfl⟩ := h
    rfl
  · cases h

/-- what is left of a drawn region -/
structure LeftOf (P : Program) (ops : Array Oper) (base nt : Nat) (rem : List It) (listed : Array Bool) : Prop where
  pair : rem.Pairwise fun p q => p.i < q.i ∧ (q.io.anc.testBit p.i = true ∨ apart2 p q)
  comp : ∀ p ∈ rem, ∃ o, ops[p.i]? = some o ∧ compOper P (fun j => (ops[j]?).bind (·.dst)) ((base + p.i) * 64) nt (((Region.before ops)[p.i]?).getD 0) o = some p.io
  size : listed.size = ops.size
  free : ∀ i : Nat, listed[i]? = some false ↔ ∃ p ∈ rem, p.i = i
  closed : ∀ i : Nat, listed[i]? = some true → ∀ j : Nat, (((Region.before ops)[i]?).getD 0).testBit j = true → listed[j]? = some true

theorem ready_iff {ops : Array Oper} {listed : Array Bool} {i : Nat} : i ∈ Region.ready .any ops listed ↔ i < ops.size ∧ listed.getD i true = false ∧ ∃ o, ops[i]? = some o ∧ ∀ e ∈ o.after, Region.binds .any e = true → listed.getD e.on false = true := by
  unfold Region.ready
  simp only [List.mem_filter, List.mem_range, Bool.and_eq_true, Bool.not_eq_true']
  constructor
  · rintro ⟨h1, h2, h3⟩
    refine ⟨h1, h2, ops[i], by simp [h1], fun e he hb => ?_⟩
    have ho : ops[i]? = some ops[i] := by simp [h1]
    rw [ho] at h3
    simp only [Option.map_some, Option.getD_some, Array.all_eq_true'] at h3
    have := h3 e he
    rw [hb] at this
    simpa using this
  · rintro ⟨h1, h2, o, ho, h3⟩
    refine ⟨h1, h2, ?_⟩
    rw [ho]
    simp only [Option.map_some, Option.getD_some, Array.all_eq_true']
    intro e he
    cases hb : Region.binds .any e with
    | false => rfl
    | true => simp [h3 e he hb]

theorem getD_false {l : Array Bool} {i : Nat} (h : l.getD i true = false) : l[i]? = some false := by
  rw [Array.getD_eq_getD_getElem?] at h
  cases he : l[i]? with
  | none => rw [he] at h; simp at h
  | some b => rw [he] at h; simp at h; rw [h]

theorem getD_true {l : Array Bool} {i : Nat} (h : l.getD i false = true) : l[i]? = some true := by
  rw [Array.getD_eq_getD_getElem?] at h
  cases he : l[i]? with
  | none => rw [he] at h; simp at h
  | some b => rw [he] at h; simp at h; rw [h]

section
variable {G : World → Prop} (hG : Good G w0) {cp : PCall} {cs : SCall} (hP : PSound P G cp) (hS : SSound P G cs) (hL : SLocal cs) {sh : Ctx}
include hG hP hS hL

theorem any_sim {ops : Array Oper} (hao : afterOk ops = true) {base nt : Nat} {Q : Exit → Act → World → Prop} {env' : Env} {blk' : Blk} : ∀ (fuel : Nat) {rem : List It} {listed : Array Bool} {env : Env} {m : Mem} {a : Act}, LeftOf P ops base nt rem listed → rem.length ≤ fuel →
    steps sh cp cs (rem.map (·.io)) env m.blk = some (env', blk', rem.map (·.e)) → Ok w0 m → ERel m env a.tmps → a.tmps.size = nt → Then w0 m a nt env' blk' (fun a' w' => Q .normal a' w') → wpAny P .any ops Q fuel listed a m.w := by
  intro fuel
  induction fuel with
  | zero =>
    intro rem listed env m a hl hlen hst hok hr hnt hK
    have hrem : rem = [] := by
      cases rem with
      | nil => rfl
      | cons _ _ => simp at hlen
    subst hrem
    simp only [List.map_nil, steps, Option.some.injEq, Prod.mk.injEq] at hst
    obtain ⟨rfl, rfl, _⟩ := hst
    refine ⟨?_, hK a m hok (Ev.refl m) rfl rfl hr hnt rfl⟩
    refine List.eq_nil_iff_forall_not_mem.2 fun i hi => ?_
    obtain ⟨_, h2, _⟩ := ready_iff.1 hi
    obtain ⟨p, hp, _⟩ := (hl.free i).1 (getD_false h2)
    simp at hp
  | succ fuel ih =>
    intro rem listed env m a hl hlen hst hok hr hnt hK
    refine ⟨fun hnone => ?_, fun i hi => ?_⟩
    · cases rem with
      | nil =>
        simp only [List.map_nil, steps, Option.some.injEq, Prod.mk.injEq] at hst
        obtain ⟨rfl, rfl, _⟩ := hst
        exact hK a m hok (Ev.refl m) rfl rfl hr hnt rfl
      | cons p rest =>
        exfalso
        obtain ⟨o, ho, _⟩ := hl.comp p (by simp)
        have hlt : p.i < ops.size := (Array.getElem?_eq_some_iff.1 ho).1
        have hmem : p.i ∈ Region.ready .any ops listed := by
          refine ready_iff.2 ⟨hlt, ?_, o, ho, fun e he hb => ?_⟩
          · rw [Array.getD_eq_getD_getElem?, (hl.free p.i).2 ⟨p, by simp, rfl⟩]; rfl
          · have hon : e.on < p.i := by
              unfold afterOk at hao
              have := List.all_eq_true.1 hao p.i (by simpa using hlt)
              rw [ho] at this
              simp only [Array.all_eq_true'] at this
              have := this e he
              simp only [hb, Bool.not_true, Bool.false_or, decide_eq_true_eq] at this
              exact this
            have hs : e.on < listed.size := by rw [hl.size]; omega
            rw [Array.getD_eq_getD_getElem?]
            cases hb2 : listed[e.on] with
            | true => simp [hs, hb2]
            | false =>
              exfalso
              obtain ⟨q, hq, hqi⟩ := (hl.free e.on).1 (by simp [hs, hb2])
              rcases List.mem_cons.1 hq with rfl | hq
              · omega
              · have := ((List.pairwise_cons.1 hl.pair).1 q hq).1
                omega
        rw [hnone] at hmem
        simp at hmem
    · obtain ⟨h1, h2, o, ho, h3⟩ := ready_iff.1 hi
      obtain ⟨p, hp, rfl⟩ := (hl.free i).1 (getD_false h2)
      obtain ⟨l1, l2, rfl⟩ := List.append_of_mem hp
      obtain ⟨o', ho', hcomp⟩ := hl.comp p hp
      rw [ho] at ho'
      cases ho'
      have hanc : ∀ j : Nat, p.io.anc.testBit j = true → listed[j]? = some true := by
        intro j hj
        rw [compOper_anc hcomp] at hj
        obtain ⟨e, he, hb, _, hor⟩ := before_bits hao ho hj
        have hon := getD_true (h3 e he hb)
        rcases hor with rfl | hor
        · exact hon
        · exact hl.closed _ hon j hor
      have hpair := List.pairwise_append.1 hl.pair
      have hfront : ∀ x ∈ l1, apart2 x p := by
        intro x hx
        rcases (hpair.2.2 x hx p (by simp)).2 with h | h
        · have := hanc _ h
          rw [(hl.free x.i).2 ⟨x, by simp [hx], rfl⟩] at this
          cases this
        · exact h
      obtain ⟨env1, blk1, hs1, hs2⟩ := to_front hL hst hfront
      have key := step_sim (Q := Q) (K := wpAny P .any ops Q fuel (listed.setIfInBounds p.i true)) hG hP hS hcomp hs1 hok hr hnt (fun a1 m1 k1 k2 k3 k4 k5 k6 k7 => by
        subst k4
        have hlt : p.i < listed.size := by rw [hl.size]; exact h1
        refine ih (rem := l1 ++ l2) ⟨?_, fun q hq => hl.comp q (by rcases List.mem_append.1 hq with h | h <;> simp [h]), by simp [hl.size], fun k => ?_, fun k hk j hj => ?_⟩ (by simp at hlen ⊢; omega) hs2 k1 k5 k6 ?_
        · refine List.pairwise_append.2 ⟨hpair.1, (List.pairwise_cons.1 hpair.2.1).2, fun x hx y hy => hpair.2.2 x hx y (by simp [hy])⟩
        · rw [Array.getElem?_setIfInBounds]
          by_cases hk : p.i = k
          · subst hk
            rw [if_pos rfl, if_pos hlt]
            constructor
            · intro h; cases h
            · rintro ⟨q, hq, hqi⟩
              rcases List.mem_append.1 hq with h | h
              · have := (hpair.2.2 q h p (by simp)).1; omega
              · have := ((List.pairwise_cons.1 hpair.2.1).1 q h).1; omega
          · rw [if_neg hk, hl.free k]
            constructor
            · rintro ⟨q, hq, hqi⟩
              rcases List.mem_append.1 hq with h | h
              · exact ⟨q, by simp [h], hqi⟩
              · rcases List.mem_cons.1 h with rfl | h
                · exact (hk hqi).elim
                · exact ⟨q, by simp [h], hqi⟩
            · rintro ⟨q, hq, hqi⟩
              rcases List.mem_append.1 hq with h | h
              · exact ⟨q, by simp [h], hqi⟩
              · exact ⟨q, by simp [h], hqi⟩
        · have hup : ∀ j : Nat, listed[j]? = some true → (listed.setIfInBounds p.i true)[j]? = some true := by
            intro j hj
            rw [Array.getElem?_setIfInBounds]
            split
            · first
                | rfl
                | (rename_i e; rw [if_pos hlt])
            · exact hj
          by_cases hk2 : p.i = k
          · subst hk2
            refine hup j (hanc j ?_)
            rw [compOper_anc hcomp]; exact hj
          · rw [Array.getElem?_setIfInBounds, if_neg hk2] at hk
            exact hup j (hl.closed k hk j hj)
        · intro a2 m2 p1 p2 p3 p4 p5 p6 p7
          exact hK a2 m2 p1 (k2.trans p2) (p3.trans k3) p4 p5 p6 (p7.trans k7))
      unfold wpOp
      rw [ho]
      simp only
      split at key
      · rename_i hw; rw [if_pos hw]; exact .inl key
      · rename_i hw; rw [if_neg hw]; exact key
end

def mkIts : Nat → List IOper → List Eff → List It
  | i, x :: xs, e :: es => ⟨i, x, e⟩ :: mkIts (i + 1) xs es
  | _, _, _ => []

theorem mkIts_maps : ∀ {xs : List IOper} {es : List Eff} (i : Nat), es.length = xs.length → (mkIts i xs es).map (·.io) = xs ∧ (mkIts i xs es).map (·.e) = es := by
  intro xs
  induction xs with
  | nil => intro es i h; cases es with
    | nil => exact ⟨rfl, rfl⟩
    | cons _ _ => simp at h
  | cons x xs ih => intro es i h; cases es with
    | nil => simp at h
    | cons e es =>
      obtain ⟨h1, h2⟩ := ih (es := es) (i + 1) (by simpa using h)
      exact ⟨by simp [mkIts, h1], by simp [mkIts, h2]⟩

theorem freeAt_spec {o : IOper} : ∀ {past : List IOper} {j : Nat}, freeAt o j past = true → ∀ k x, past[k]? = some x → o.anc.testBit (j + k) = true ∨ free2 x o = true := by
  intro past
  induction past with
  | nil => intro j _ k x h; simp at h
  | cons y past ih =>
    intro j h k x hk
    simp only [freeAt, Bool.and_eq_true, Bool.or_eq_true] at h
    cases k with
    | zero => simp at hk; subst hk; exact h.1
    | succ k =>
      have := ih h.2 k x (by simpa using hk)
      rw [show j + (k + 1) = j + 1 + k by omega]
      exact this

theorem okAt_spec {anc : Nat} {e : Eff} : ∀ {past : List Eff} {j : Nat}, okAt anc e j past = true → ∀ k x, past[k]? = some x → anc.testBit (j + k) = true ∨ clash x e = false := by
  intro past
  induction past with
  | nil => intro j _ k x h; simp at h
  | cons y past ih =>
    intro j h k x hk
    simp only [okAt, Bool.and_eq_true, Bool.or_eq_true, Bool.not_eq_true'] at h
    cases k with
    | zero => simp at hk; subst hk; exact h.1
    | succ k =>
      have := ih h.2 k x (by simpa using hk)
      rw [show j + (k + 1) = j + 1 + k by omega]
      exact this

theorem mkIts_pair : ∀ {xs : List IOper} {es : List Eff} {past : List IOper} {pe : List Eff}, es.length = xs.length → pe.length = past.length → freeAll xs past = true → okDraw xs pe es = true →
    (∀ (q : It), q ∈ mkIts past.length xs es → ∀ (k : Nat) (x : IOper) (e : Eff), past[k]? = some x → pe[k]? = some e → q.io.anc.testBit k = true ∨ (free2 x q.io = true ∧ clash e q.e = false)) ∧
    (∀ q ∈ mkIts past.length xs es, past.length ≤ q.i) ∧ (mkIts past.length xs es).Pairwise fun p q => p.i < q.i ∧ (q.io.anc.testBit p.i = true ∨ apart2 p q) := by
  intro xs
  induction xs with
  | nil =>
    intro es past pe _ _ _ _
    have : mkIts past.length [] es = [] := by cases es <;> rfl
    rw [this]
    exact ⟨fun q h => by simp at h, fun q h => by simp at h, .nil⟩
  | cons x xs ih =>
    intro es past pe hl hp hf hd
    cases es with
    | nil => simp at hl
    | cons e es =>
      simp only [freeAll, Bool.and_eq_true] at hf
      simp only [okDraw, Bool.and_eq_true] at hd
      obtain ⟨i1, i2, i3⟩ := ih (es := es) (past := past ++ [x]) (pe := pe ++ [e]) (by simpa using hl) (by simp [hp]) hf.2 hd.2
      have hlen : (past ++ [x]).length = past.length + 1 := by simp
      rw [hlen] at i1 i2 i3
      simp only [mkIts]
      refine ⟨?_, ?_, List.pairwise_cons.2 ⟨?_, i3⟩⟩
      · intro q hq k y f hy hf'
        rcases List.mem_cons.1 hq with rfl | hq
        · have h1 := freeAt_spec hf.1 k y hy
          have h2 := okAt_spec hd.1 k f hf'
          rw [Nat.zero_add] at h1 h2
          rcases h1 with h1 | h1
          · exact .inl h1
          · rcases h2 with h2 | h2
            · exact .inl h2
            · exact .inr ⟨h1, h2⟩
        · have hk : k < past.length := (List.getElem?_eq_some_iff.1 hy).1
          exact i1 q hq k y f (by rw [List.getElem?_append_left hk]; exact hy) (by rw [List.getElem?_append_left (by omega)]; exact hf')
      · intro q hq
        rcases List.mem_cons.1 hq with rfl | hq
        · exact Nat.le_refl _
        · have := i2 q hq; omega
      · intro q hq
        refine ⟨by have := i2 q hq; simp only; omega, ?_⟩
        exact i1 q hq past.length x e (by simp) (by rw [← hp]; simp)

theorem mkIts_comp {ops : Array Oper} {anc : Nat → Option Nat} {dst : Nat → Option Nat} {base nt : Nat} : ∀ {r : List Oper} {xs : List IOper} {es : List Eff} {i : Nat}, compOps P dst anc base nt i r = some xs → es.length = xs.length → (∀ j, ops[i + j]? = r[j]?) →
    (∀ p ∈ mkIts i xs es, ∃ o, ops[p.i]? = some o ∧ compOper P dst ((base + p.i) * 64) nt ((anc p.i).getD 0) o = some p.io) ∧ ∀ k, i ≤ k → k < i + r.length → ∃ p ∈ mkIts i xs es, p.i = k := by
  intro r
  induction r with
  | nil =>
    intro xs es i h _ _
    simp only [compOps, Option.some.injEq] at h
    subst h
    have : mkIts i [] es = [] := by cases es <;> rfl
    rw [this]
    exact ⟨fun p h => by simp at h, fun k h1 h2 => by simp at h2; omega⟩
  | cons o r ih =>
    intro xs es i h hl hops
    obtain ⟨x, xs', rfl, h1, h2⟩ := compOps_cons h
    cases es with
    | nil => simp at hl
    | cons e es =>
      obtain ⟨i1, i2⟩ := ih (es := es) h2 (by simpa using hl) (fun j => by have := hops (j + 1); rw [show i + 1 + j = i + (j + 1) by omega]; simpa using this)
      refine ⟨fun p hp => ?_, fun k hk1 hk2 => ?_⟩
      · rcases List.mem_cons.1 hp with rfl | hp
        · exact ⟨o, by have := hops 0; simpa using this, h1⟩
        · exact i1 p hp
      · by_cases hk : k = i
        · exact ⟨⟨i, x, e⟩, by simp [mkIts], hk.symm⟩
        · obtain ⟨p, hp, hpi⟩ := i2 k (by omega) (by simp at hk2; omega)
          exact ⟨p, by simp [mkIts, hp], hpi⟩

theorem steps_len {sh : Ctx} {cp : PCall} {cs : SCall} : ∀ {xs : List IOper} {env env' : Env} {blk blk' : Blk} {es : List Eff}, steps sh cp cs xs env blk = some (env', blk', es) → es.length = xs.length := by
  intro xs
  induction xs with
  | nil => intro env env' blk blk' es h; simp only [steps, Option.some.injEq, Prod.mk.injEq] at h; rw [← h.2.2]; rfl
  | cons x xs ih =>
    intro env env' blk blk' es h
    simp only [steps] at h
    split at h
    · split at h
      · rename_i h2
        cases h
        simp [ih h2]
      · cases h
    · cases h

theorem compOps_len {dst anc : Nat → Option Nat} {base nt : Nat} : ∀ {r : List Oper} {xs : List IOper} {i : Nat}, compOps P dst anc base nt i r = some xs → xs.length = r.length := by
  intro r
  induction r with
  | nil => intro xs i h; simp only [compOps, Option.some.injEq] at h; subst h; rfl
  | cons o r ih =>
    intro xs i h
    obtain ⟨x, xs', rfl, _, h2⟩ := compOps_cons h
    simp [ih h2]

section
variable {G : World → Prop} (hG : Good G w0) {cp : PCall} {cs : SCall} (hP : PSound P G cp) (hS : SSound P G cs) (hL : SLocal cs) {sh : Ctx}
include hG hP hS hL

theorem draw_sim (hfo : P.follows .mixedOrders = true) {ops : Array Oper} {base nt id : Nat} {Q : Exit → Act → World → Prop} {l : List IOper} {env env' : Env} {m : Mem} {blk' : Blk} {es : List Eff} {a : Act} (hc : compOps P (fun j => (ops[j]?).bind (·.dst)) (fun i => (Region.before ops)[i]?) base nt 0 ops.toList = some l)
    (hao : afterOk ops = true) (hf : freeAll l [] = true) (hst : steps sh cp cs l env m.blk = some (env', blk', es)) (hd : okDraw l [] es = true) (hok : Ok w0 m) (hr : ERel m env a.tmps) (hnt : a.tmps.size = nt) (hK : Then w0 m a nt env' blk' (fun a' w' => Q .normal a' w')) : (Code.region id ops true).wp P Q a m.w := by
  refine wp_region_any hfo ?_
  have hlen := steps_len hst
  have hl2 : l.length = ops.size := by have := compOps_len hc; simpa using this
  obtain ⟨g1, g2⟩ := mkIts_maps 0 hlen
  obtain ⟨_, _, hp⟩ := mkIts_pair (past := []) (pe := []) hlen rfl hf hd
  obtain ⟨c1, c2⟩ := mkIts_comp (ops := ops) hc hlen (fun j => by simp)
  have hok1 : Ok w0 (m.later m.w.drew fun _ => False) := later_ok hok (Grew.drew _) fun _ h => h.elim
  have hev1 : Ev m (m.later m.w.drew fun _ => False) := later_ev (Grew.drew _) fun _ h => h.elim
  have hfr : (m.later m.w.drew fun _ => False).fr = m.fr := by
    funext c
    simp [Mem.later]
  refine any_sim (m := m.later m.w.drew fun _ => False) hG hP hS hL hao ops.size (rem := mkIts 0 l es) (base := base) ⟨hp, c1, by simp, fun i => ?_, fun i hi => ?_⟩ ?_ (by rw [g1, g2]; exact hst) hok1 (hr.ev hev1) hnt ?_
  · constructor
    · intro h
      have hi : i < ops.size := by
        have := (Array.getElem?_eq_some_iff.1 h).1
        simpa using this
      exact c2 i (Nat.zero_le _) (by simpa using hi)
    · rintro ⟨p, hp, rfl⟩
      obtain ⟨o, ho, _⟩ := c1 p hp
      have hi : p.i < ops.size := (Array.getElem?_eq_some_iff.1 ho).1
      simp [hi]
  · rw [Array.getElem?_replicate] at hi
    split at hi <;> simp at hi
  · have : (mkIts 0 l es).length = l.length := by have := congrArg List.length g1; simpa using this
    omega
  · intro a2 m2 p1 p2 p3 p4 p5 p6 p7
    exact hK a2 m2 p1 (hev1.trans p2) (p3.trans hfr) p4 p5 p6 p7
end
end Go.Abs
namespace Go.Abs
variable {P : Program} {w0 : World}

def toE : AExit → Exit
  | .normal => .normal
  | .exit i => .exit i
  | .ret => .ret

section
variable {G : World → Prop} (hG : Good G w0) {cp : PCall} {cs : SCall} (hP : PSound P G cp) (hS : SSound P G cs) (hL : SLocal cs) (hfo : P.follows .mixedOrders = true) {sh : Ctx}
include hG hP hS hL hfo

theorem exec_sim {n f nt : Nat} : ∀ (c : Code) {ic : ICode} {env env' : Env} {m : Mem} {blk' : Blk} {e : AExit} {a : Act} {Q : Exit → Act → World → Prop}, compC P f nt c = some ic → exec sh cp cs n ic env m.blk = some (e, env', blk') → Ok w0 m → ERel m env a.tmps → a.tmps.size = nt →
    Then w0 m a nt env' blk' (fun a' w' => Q (toE e) a' w') → c.wp P Q a m.w := by
  intro c
  induction c with
  | skip =>
    intro ic env env' m blk' e a Q hc hx hok hr hnt hK
    simp only [compC, Option.some.injEq] at hc
    subst hc
    simp only [exec, Option.some.injEq, Prod.mk.injEq] at hx
    obtain ⟨rfl, rfl, rfl⟩ := hx
    exact wp_skip (hK a m hok (Ev.refl m) rfl rfl hr hnt rfl)
  | label l =>
    intro ic env env' m blk' e a Q hc hx hok hr hnt hK
    simp only [compC, Option.some.injEq] at hc
    subst hc
    simp only [exec, Option.some.injEq, Prod.mk.injEq] at hx
    obtain ⟨rfl, rfl, rfl⟩ := hx
    exact wp_label (hK a m hok (Ev.refl m) rfl rfl hr hnt rfl)
  | ret =>
    intro ic env env' m blk' e a Q hc hx hok hr hnt hK
    simp only [compC, Option.some.injEq] at hc
    subst hc
    simp only [exec, Option.some.injEq, Prod.mk.injEq] at hx
    obtain ⟨rfl, rfl, rfl⟩ := hx
    exact wp_ret (hK a m hok (Ev.refl m) rfl rfl hr hnt rfl)
  | exit id =>
    intro ic env env' m blk' e a Q hc hx hok hr hnt hK
    simp only [compC, Option.some.injEq] at hc
    subst hc
    simp only [exec, Option.some.injEq, Prod.mk.injEq] at hx
    obtain ⟨rfl, rfl, rfl⟩ := hx
    exact wp_exit (hK a m hok (Ev.refl m) rfl rfl hr hnt rfl)
  | region id ops draw =>
    intro ic env env' m blk' e a Q hc hx hok hr hnt hK
    simp only [compC] at hc
    split at hc
    · rename_i xs hxs
      cases draw with
      | false =>
        simp only [Bool.false_eq_true, if_false, Option.some.injEq] at hc
        subst hc
        simp only [exec] at hx
        split at hx
        · rename_i e1 b1 es hst
          simp only [Bool.false_eq_true, if_false, Option.some.injEq, Prod.mk.injEq] at hx
          obtain ⟨rfl, rfl, rfl⟩ := hx
          exact region_sim hG hP hS hxs hst hok hr hnt hK
        · cases hx
      | true =>
        simp only [if_true] at hc hxs
        split at hc
        · rename_i hfa
          simp only [Bool.and_eq_true] at hfa
          cases hc
          simp only [exec] at hx
          split at hx
          · rename_i e1 b1 es hst
            simp only [if_true] at hx
            split at hx
            · rename_i hd
              cases hx
              exact draw_sim hG hP hS hL hfo hxs hfa.1 hfa.2 hst hd hok hr hnt hK
            · cases hx
          · cases hx
        · cases hc
    · cases hc
  | seq x y ihx ihy =>
    intro ic env env' m blk' e a Q hc hx hok hr hnt hK
    simp only [compC] at hc
    split at hc
    · rename_i ix iy h1 h2
      cases hc
      simp only [exec] at hx
      refine wp_seq ?_
      split at hx
      · rename_i env1 blk1 hx1
        refine ihx h1 hx1 hok hr hnt ?_
        intro a1 m1 k1 k2 k3 k4 k5 k6 k7
        subst k4
        refine ihy h2 hx k1 k5 k6 ?_
        intro a2 m2 p1 p2 p3 p4 p5 p6 p7
        exact hK a2 m2 p1 (k2.trans p2) (p3.trans k3) p4 p5 p6 (p7.trans k7)
      · rename_i hne
        refine ihx h1 hx hok hr hnt ?_
        intro a1 m1 k1 k2 k3 k4 k5 k6 k7
        have := hK a1 m1 k1 k2 k3 k4 k5 k6 k7
        cases e with
        | normal => exact (hne env' blk' hx).elim
        | exit i => exact this
        | ret => exact this
    · cases hc
  | cond x p q ihp ihq =>
    intro ic env env' m blk' e a Q hc hx hok hr hnt hK
    simp only [compC] at hc
    split at hc
    · rename_i c' ip iq h1 h2 h3
      cases hc
      simp only [exec] at hx
      split at hx
      · rename_i t ht
        have hv := argC_rel h1 hr
        rw [ht] at hv
        refine wp_cond (inv_bool hv) ?_
        cases t with
        | true => simp only [if_true] at hx ⊢; exact ihp h2 hx hok hr hnt hK
        | false => simp only [Bool.false_eq_true, if_false] at hx ⊢; exact ihq h3 hx hok hr hnt hK
      · cases hx
    · cases hc
  | block id c ih =>
    intro ic env env' m blk' e a Q hc hx hok hr hnt hK
    simp only [compC, Option.map_eq_some_iff] at hc
    obtain ⟨ic', h1, rfl⟩ := hc
    simp only [exec] at hx
    refine wp_block ?_
    split at hx
    · rename_i i env1 blk1 hx1
      refine ih h1 hx1 hok hr hnt ?_
      intro a1 m1 k1 k2 k3 k4 k5 k6 k7
      simp only [toE, Exit.inBlock]
      split at hx
      · rename_i hi
        cases hx
        rw [if_pos hi]
        exact hK a1 m1 k1 k2 k3 k4 k5 k6 k7
      · rename_i hi
        cases hx
        rw [if_neg hi]
        exact hK a1 m1 k1 k2 k3 k4 k5 k6 k7
    · rename_i hne
      refine ih h1 hx hok hr hnt ?_
      intro a1 m1 k1 k2 k3 k4 k5 k6 k7
      have := hK a1 m1 k1 k2 k3 k4 k5 k6 k7
      cases e with
      | normal => exact this
      | exit i => exact (hne i env' blk' hx).elim
      | ret => exact this
  | loop c ih =>
    intro ic env env' m blk' e a Q hc hx hok hr hnt hK
    simp only [compC, Option.map_eq_some_iff] at hc
    obtain ⟨ic', h1, rfl⟩ := hc
    simp only [exec] at hx
    refine wp_loop_rounds n ?_
    have key : ∀ (k : Nat) {env : Env} {m : Mem} {a : Act}, iter (exec sh cp cs n ic') k env m.blk = some (e, env', blk') → Ok w0 m → ERel m env a.tmps → a.tmps.size = nt → Then w0 m a nt env' blk' (fun a' w' => Q (toE e) a' w') → Code.rounds P c Q k a m.w := by
      intro k
      induction k with
      | zero => intro env m a hx; simp [iter] at hx
      | succ k ihk =>
        intro env m a hx hok hr hnt hK
        rw [rounds_succ]
        simp only [iter] at hx
        split at hx
        · rename_i env1 blk1 hx1
          refine ih h1 hx1 hok hr hnt ?_
          intro a1 m1 k1 k2 k3 k4 k5 k6 k7
          subst k4
          refine ihk hx k1 k5 k6 ?_
          intro a2 m2 p1 p2 p3 p4 p5 p6 p7
          exact hK a2 m2 p1 (k2.trans p2) (p3.trans k3) p4 p5 p6 (p7.trans k7)
        · rename_i hne
          refine ih h1 hx hok hr hnt ?_
          intro a1 m1 k1 k2 k3 k4 k5 k6 k7
          have := hK a1 m1 k1 k2 k3 k4 k5 k6 k7
          cases e with
          | normal => exact (hne env' blk' hx).elim
          | exit i => exact this
          | ret => exact this
    exact key n hx hok hr hnt hK
  | scope c ih =>
    intro ic env env' m blk' e a Q hc hx hok hr hnt hK
    simp only [compC] at hc
    refine wp_scope_straight ?_
    refine ih hc hx hok hr hnt ?_
    intro a1 m1 k1 k2 k3 k4 k5 k6 k7
    have := hK a1 m1 k1 k2 k3 k4 k5 k6 k7
    cases e <;> exact this
  | _ =>
    intro ic env env' m blk' e a Q hc hx
    simp only [compC, Option.some.injEq] at hc
    subst hc
    simp [exec] at hx
end
end Go.Abs
namespace Go.Abs
variable {P : Program} {w0 : World}

theorem takeV_1 {m : Mem} {k : Option Nat} {cs : List C} {v : V} {u : Value} (h : takeV k cs = some v) (hr : VRel m v u) : VRel1 m v u := by
  unfold takeV at h
  split at h
  · split at h
    · cases h; exact hr
    · cases h
  · split at h
    · cases h; exact hr
    · cases h

theorem noTup_1 {m : Mem} {x v : V} {u : Value} (h : noTup x = some v) (hr : VRel m x u) : VRel1 m v u := by
  cases x <;> simp only [noTup, Option.some.injEq, reduceCtorEq] at h <;> subst h <;> exact hr

theorem mapM_cons_run {α β : Type} {f : α → Sem β} {x : α} {xs : List α} {y : β} {ys : List β} {w : World} (h1 : (f x).run P w = .ok y w) (h2 : (xs.mapM f).run P w = .ok ys w) : ((x :: xs).mapM f).run P w = .ok (y :: ys) w := by
  simp only [List.mapM_cons, Sem.run_bind, h1, h2, Result.andThen_ok, Sem.run_pure]

theorem results_list {al : Al} {m : Mem} (hok : Ok w0 m) {env : Env} {tmps : Array Value} (hr : ERel m env tmps) : ∀ {rs : List ResultVar} {l : List (Nat × Option (Option Nat))} {vs : List V}, resC P rs = some l → resultsV al env m.blk l = some vs →
    ∃ ys, (rs.mapM (fun | .tmp t => pure (tmps.getD t undef) | .cell a t => do loadVar t (← asAddr (tmps.getD a undef)) : ResultVar → Sem Value)).run P m.w = .ok ys m.w ∧ Pw (VRel1 m) vs ys := by
  intro rs
  induction rs with
  | nil =>
    intro l vs h1 h2
    simp only [resC, Option.some.injEq] at h1
    subst h1
    simp only [resultsV, Option.some.injEq] at h2
    subst h2
    exact ⟨[], by simp [Sem.run_pure], rfl, fun j x u p => by simp at p⟩
  | cons r rs ih =>
    intro l vs h1 h2
    have cons : ∀ {x : V} {xs : List V} {y : Value} {ys : List Value}, VRel1 m x y → Pw (VRel1 m) xs ys → Pw (VRel1 m) (x :: xs) (y :: ys) := by
      intro x xs y ys p q
      refine ⟨by simp [q.1], fun j z u a b => ?_⟩
      cases j with
      | zero => simp at a b; subst a b; exact p
      | succ j => exact q.2 j z u (by simpa using a) (by simpa using b)
    cases r with
    | tmp t =>
      simp only [resC, Option.map_eq_some_iff] at h1
      obtain ⟨l', h3, rfl⟩ := h1
      simp only [resultsV] at h2
      split at h2
      · rename_i v q e1 e2
        cases h2
        obtain ⟨ys, g1, g2⟩ := ih h3 e2
        exact ⟨_ :: ys, mapM_cons_run (by simp [Sem.run_pure]) g1, cons (noTup_1 e1 (hr t)) g2⟩
      · cases h2
    | cell a t =>
      simp only [resC] at h1
      split at h1
      · rename_i k q e1 e2
        cases h1
        simp only [resultsV] at h2
        split at h2
        · rename_i cs rd ws e3 e4
          split at h2
          case isFalse => cases h2
          simp only [Option.map_eq_some_iff] at h2
          obtain ⟨v, hv, rfl⟩ := h2
          obtain ⟨ys, g1, g2⟩ := ih e2 e4
          obtain ⟨ad, y, p1, p2, p3⟩ := loadVar_run e1 (rdAt_rel hok e3 (hr a)) hv
          exact ⟨y :: ys, mapM_cons_run (by simp [p1, asAddr, p2]) g1, cons (takeV_1 hv p3) g2⟩
        · cases h2
      · cases h1

theorem results_run {al : Al} {m : Mem} (hok : Ok w0 m) {env : Env} {tmps : Array Value} (hr : ERel m env tmps) {fn : Func} {l : List (Nat × Option (Option Nat))} {vs : List V} (h1 : resC P fn.results.toList = some l) (h2 : resultsV al env m.blk l = some vs) :
    ∃ y, (results fn tmps).run P m.w = .ok y m.w ∧ VRel m (tupV vs) y := by
  obtain ⟨ys, g1, g2⟩ := results_list hok hr h1 h2
  have hmap : (results fn tmps).run P m.w = .ok (if h : ys.toArray.size = 1 then ys.toArray[0] else .tuple ys.toArray) m.w := by
    unfold results
    simp only [Array.mapM_eq_mapM_toList, map_eq_pure_bind, Sem.run_bind, Result.andThen_ok, Sem.run_pure, bind_assoc, pure_bind]
    erw [g1]
    simp only [Result.andThen_ok, Sem.run_pure]
  refine ⟨_, hmap, ?_⟩
  match vs, ys, g2 with
  | [v], [y], g2 => exact VRel.of1 (g2.2 0 v y rfl rfl)
  | [], [], g2 => exact ⟨_, rfl, rfl, fun j x u p => by simp at p⟩
  | v :: v' :: vs, y :: y' :: ys, g2 =>
    refine ⟨_, rfl, by simpa using g2.1, fun j x u p q => g2.2 j x u p (by simpa using q)⟩
  | [], y :: ys, g2 => exact absurd g2.1 (by simp)
  | v :: vs, [], g2 => exact absurd g2.1 (by simp)
  | [v], y :: y' :: ys, g2 => exact absurd g2.1 (by simp)
  | v :: v' :: vs, [y], g2 => exact absurd g2.1 (by simp)

theorem compF_spec {f : Nat} {fn : IFn} (h : compF P f = some fn) : ∃ kf c, P.funcs[f]? = some kf ∧ kf.body = some c ∧ (kf.name == "runtime.NumGoroutine") = false ∧ compC P f kf.ntmps c = some fn.body ∧ resC P kf.results.toList = some fn.results ∧ fn.ntmps = kf.ntmps := by
  unfold compF at h
  split at h
  · cases h
  · rename_i kf hf
    split at h
    · cases h
    · rename_i c hc
      split at h
      · cases h
      · rename_i hn
        split at h
        · rename_i b r h1 h2
          cases h
          exact ⟨kf, c, hf, hc, by simpa using hn, h1, h2, rfl⟩
        · cases h

/-- what is said of the functions that are not run through -/
def PrimOk (S : Sys) (G : World → Prop) : Prop := ∀ f vs r, S.prim f vs = some (some r) → Enters S.P f ∧ ∀ (w : World) (O : Nat → Prop) (args : Array Value), Good G w → (∀ c, O c → c < w.heap.size) → Pw (AVRel w O) vs args.toList → Calls S.P f args w (PRes w O r)

structure SysOk (S : Sys) (G : World → Prop) : Prop where
  follow : S.P.follows .mixedOrders = true
  fns : ∀ f fn, S.fns f = some fn → compF S.P f = some fn
  prim : PrimOk S G

/-- the slots of a call that begins -/
theorem start_rel {m : Mem} {vs : List V} {args : Array Value} {nt : Nat} (h : Pw (VRel m) vs args.toList) (hl : vs.length ≤ nt) : ERel m (ienv vs) (args ++ Array.replicate (nt - args.size) undef) ∧ (args ++ Array.replicate (nt - args.size) undef).size = nt := by
  have hs : args.size = vs.length := by simpa using h.1
  constructor
  · intro t
    by_cases ht : t < vs.length
    · have h1 : ienv vs t = vs[t] := by simp [ienv, List.getD, ht]
      have h2 : (args ++ Array.replicate (nt - args.size) undef).getD t undef = args[t] := by
        simp [Array.getD_eq_getD_getElem?, Array.getElem?_append, hs, ht]
      rw [h1, h2]
      exact h.2 t _ _ (by simp [ht]) (by simp [hs, ht])
    · have h1 : ienv vs t = .undef := by simp [ienv, List.getD, List.getElem?_eq_none (Nat.le_of_not_lt ht)]
      have h2 : (args ++ Array.replicate (nt - args.size) undef).getD t undef = undef := by
        simp only [Array.getD_eq_getD_getElem?, Array.getElem?_append, hs, if_neg ht]
        rw [Array.getElem?_replicate]
        split <;> rfl
      rw [h1, h2]
      rfl
  · simp; omega

theorem apart_nodup {m : Mem} (hok : Ok w0 m) : ∀ {o q : List Nat}, apart o q = true → (∀ id ∈ o, ∃ ob, (m.blk id).2 = some ob ∧ ob.mine = true) → (o.map m.σ).Nodup ∧ ∀ id ∈ q, id ∉ o := by
  intro o
  induction o with
  | nil => intro q _ _; exact ⟨by simp, fun id _ h => by simp at h⟩
  | cons i o ih =>
    intro q h hm
    simp only [apart, Bool.and_eq_true, Bool.not_eq_true'] at h
    obtain ⟨⟨h1, h2⟩, h3⟩ := h
    obtain ⟨i1, i2⟩ := ih h3 (fun id hid => hm id (by simp [hid]))
    have h1' : i ∉ o := by simpa using h1
    have h2' : i ∉ q := by simpa using h2
    refine ⟨?_, fun id hid => ?_⟩
    · rw [List.map_cons, List.nodup_cons]
      refine ⟨fun hmem => ?_, i1⟩
      obtain ⟨j, hj, he⟩ := List.mem_map.1 hmem
      obtain ⟨ob, a1, a2⟩ := hm i (by simp)
      obtain ⟨ob', b1, b2⟩ := hm j (by simp [hj])
      exact h1' (hok.inj j i ob' ob b1 b2 a1 a2 he ▸ hj)
    · simp only [List.mem_cons, not_or]
      exact ⟨fun e => h2' (e ▸ hid), i2 id hid⟩

theorem outCs_len {blk : Blk} : ∀ {cs : List C} {rs : List RC} {o q : List Nat}, outCs blk cs = some (rs, o, q) → rs.length = cs.length := by
  intro cs
  induction cs with
  | nil => intro rs o q h; simp only [outCs, Option.some.injEq, Prod.mk.injEq] at h; obtain ⟨rfl, _, _⟩ := h; rfl
  | cons c cs ih =>
    intro rs o q h
    simp only [outCs] at h
    split at h
    · rename_i x o1 q1 xs os qs h1 h2
      cases h
      simp [ih h2]
    · cases h

theorem collect_mem {α β : Type} {f : α → Option (β × List Nat)} : ∀ {xs : List α} {ys : List β} {r : List Nat}, collect f xs = some (ys, r) → ∀ id ∈ r, ∃ x y q, f x = some (y, q) ∧ id ∈ q := by
  intro xs
  induction xs with
  | nil => intro ys r h id hid; simp [collect] at h; rw [h.2] at hid; simp at hid
  | cons x xs ih =>
    intro ys r h id hid
    simp only [collect] at h
    split at h
    · rename_i b p bs q e1 e2
      cases h
      rcases List.mem_append.1 hid with hid | hid
      · exact ⟨x, b, p, e1, hid⟩
      · exact ih e2 id hid
    · cases h

theorem snap_some {blk : Blk} : ∀ {n : Nat} {c : C} {x : PV} {r : List Nat}, snap blk n c = some (x, r) → ∀ id ∈ r, ∃ ob, (blk id).2 = some ob := by
  intro n
  induction n with
  | zero => intro c x r h; simp [snap] at h
  | succ n ih =>
    intro c x r h id hid
    have one : ∀ {i : Nat} {ob : Ob} {g : Nat}, blk i = (g, some ob) → id ∈ [i] → ∃ ob, (blk id).2 = some ob := by
      intro i ob g hb hi
      simp at hi
      subst hi
      exact ⟨ob, by rw [hb]⟩
    have coll : ∀ {cs : List C} {ps : List PV} {r : List Nat}, collect (snap blk n) cs = some (ps, r) → id ∈ r → ∃ ob, (blk id).2 = some ob := by
      intro cs ps r h hi
      obtain ⟨x, y, q, h1, h2⟩ := collect_mem h id hi
      exact ih h1 id h2
    unfold snap at h
    split at h
    · cases h; simp at hid
    · split at h
      · rename_i hb
        split at h
        · split at h
          · rename_i hc
            cases h
            rcases List.mem_cons.1 hid with e | hid
            · exact one hb (by simp [e])
            · exact coll hc hid
          · cases h
        · cases h
      · rename_i hb
        split at h
        · cases h; exact one hb hid
        · cases h
      · cases h
    · split at h
      · rename_i hb
        split at h
        · simp only [Option.map_eq_some_iff] at h
          obtain ⟨e, _, h2⟩ := h
          cases h2; exact one hb hid
        · cases h
      · rename_i hb
        split at h
        · simp only [Option.map_eq_some_iff] at h
          obtain ⟨e, _, h2⟩ := h
          cases h2; exact one hb hid
        · cases h
      · cases h
    · split at h
      · rename_i hb
        split at h
        · cases h; exact one hb hid
        · cases h
      · rename_i hb
        split at h
        · cases h; exact one hb hid
        · cases h
      · rename_i hb
        split at h
        · split at h
          · rename_i hc
            cases h
            rcases List.mem_cons.1 hid with e | hid
            · exact one hb (by simp [e])
            · obtain ⟨x, y, q, h1, h2⟩ := collect_mem hc id hid
              exact coll h1 h2
          · cases h
        · cases h
      · cases h
    · split at h
      · rename_i hb
        split at h
        · cases h; exact one hb hid
        · cases h
      · rename_i hb
        split at h
        · cases h; exact one hb hid
        · cases h
      · cases h
    · split at h
      · rename_i h1 h2
        cases h
        rcases List.mem_append.1 hid with hid | hid
        · exact coll h1 hid
        · exact coll h2 hid
      · cases h

theorem outCs_some {blk : Blk} : ∀ {cs : List C} {rs : List RC} {o q : List Nat}, outCs blk cs = some (rs, o, q) → ∀ id ∈ q, ∃ ob, (blk id).2 = some ob := by
  intro cs
  induction cs with
  | nil => intro rs o q h id hid; simp only [outCs, Option.some.injEq, Prod.mk.injEq] at h; rw [← h.2.2] at hid; simp at hid
  | cons c cs ih =>
    intro rs o q h id hid
    simp only [outCs] at h
    split at h
    · rename_i x o1 q1 xs os qs h1 h2
      cases h
      rcases List.mem_append.1 hid with hid | hid
      · have sn : (snap blk snapN c).map (fun (v, r) => ((.p v : RC), ([] : List Nat), r)) = some (x, o1, q1) → ∃ ob, (blk id).2 = some ob := by
          intro h1
          simp only [Option.map_eq_some_iff] at h1
          obtain ⟨⟨y, r⟩, h3, h4⟩ := h1
          cases h4
          exact snap_some h3 id hid
        unfold outC at h1
        split at h1
        · cases h1; simp at hid
        · split at h1
          · split at h1
            · cases h1; simp at hid
            · cases h1
          · exact sn h1
        · exact sn h1
      · exact ih h2 id hid
    · cases h

/-- a function's result leaves it -/
theorem out_rel {w : World} {O : Nat → Prop} {m0 m : Mem} (hok : Ok w m) (hev : Ev m0 m) (hm0 : m0.w = w) (hmine : ∀ c, ¬ m0.mine c) (hfr : m.fr = O) {v : V} {r : RV} {val : Value} (h : outV m.blk v = some r) (hr : VRel m v val) : PRes w O r (.returned val) m.w := by
  unfold outV at h
  split at h
  · rename_i cs hcs
    split at h
    · rename_i rs o q ho
      split at h
      · rename_i hap
        cases h
        obtain ⟨vs, hc, hsh⟩ := flatV_rel hcs hr
        obtain ⟨g1, g2⟩ := hsh rs (outCs_len ho)
        have hm := (outCs_rel hok (Q := fun _ => False) (fun _ h => h.elim) ho hc (fun _ _ h => h)).2
        obtain ⟨hnd, hdis⟩ := apart_nodup hok hap hm
        have hQsub : ∀ b, (O b ∨ b ∈ o.map m.σ) → m.own b := by
          intro b hb
          rcases hb with hb | hb
          · exact .inl (hfr ▸ hb)
          · obtain ⟨id, hid, rfl⟩ := List.mem_map.1 hb
            obtain ⟨ob, h1, h2⟩ := hm id hid
            exact .inr ⟨id, ob, h1, h2, rfl⟩
        have hq : ∀ id ∈ q, ¬ (O (m.σ id) ∨ m.σ id ∈ o.map m.σ) := by
          intro id hid hn
          obtain ⟨ob, hob⟩ := outCs_some ho id hid
          by_cases hmi : ob.mine = true
          · rcases hn with hn | hn
            · exact (hok.above id ob hob hmi).2 (hfr ▸ hn)
            · obtain ⟨j, hj, he⟩ := List.mem_map.1 hn
              obtain ⟨ob', b1, b2⟩ := hm j hj
              exact hdis id hid (hok.inj j id ob' ob b1 b2 hob hmi he ▸ hj)
          · have hno : ¬ m.own (m.σ id) := by
              have hor := hok.obj id ob hob
              cases ob <;> simp [Ob.mine] at hmi
              · obtain ⟨_, _, _, _, _, hno⟩ := hor; exact hno
              · obtain ⟨_, _, _, _, _, _, _, _, _, hno⟩ := hor; exact hno
              · obtain ⟨_, _, _, _, _, hno⟩ := hor; exact hno
            exact hno (hQsub _ hn)
        obtain ⟨hrc, _⟩ := outCs_rel hok hQsub ho hc hq
        subst hm0
        refine ⟨val, o.map m.σ, rfl, ⟨hev.os, hev.tape, hev.output, hev.size, fun c hc => hev.keep c hc (hmine c)⟩, hnd, fun c hc => ?_, vs, g2, by rw [g1]; exact hrc⟩
        obtain ⟨id, hid, rfl⟩ := List.mem_map.1 hc
        obtain ⟨ob, h1, h2⟩ := hm id hid
        exact ⟨(hok.above id ob h1 h2).1, (hok.obj id ob h1).lt⟩
      · cases h
    · cases h
  · cases h

theorem AVRel.vrel {w : World} {O : Nat → Prop} {m : Mem} (hw : m.w = w) (ho : m.own = O) {x : V} {v : Value} (h : AVRel w O x v) : VRel m x v := by
  subst hw ho
  cases x with
  | undef => exact h.elim
  | tup _ => exact h.elim
  | one c =>
    cases c with
    | p x => exact mk_p h
    | _ => exact h.elim
  | agg cs =>
    obtain ⟨arr, ps, rfl, rfl, hp⟩ := h
    exact VRel.agg.2 ⟨arr, rfl, hp.toC⟩

theorem runS_spec {sh : Ctx} {cp : PCall} {cs : SCall} {n : Nat} {fn : IFn} {args : List V} {blk blk' : Blk} {v : V} (h : runS sh cp cs n fn args blk = some (v, blk')) :
    ∃ e env vs, exec sh cp cs n fn.body (ienv args) blk = some (e, env, blk') ∧ (e = .normal ∨ e = .ret) ∧ resultsV sh.al env blk' fn.results = some vs ∧ v = tupV vs := by
  unfold runS at h
  split at h
  · rename_i env b hx
    simp only [Option.map_eq_some_iff] at h
    obtain ⟨vs, h1, h2⟩ := h
    cases h2
    exact ⟨_, env, vs, hx, .inl rfl, h1, rfl⟩
  · rename_i env b hx
    simp only [Option.map_eq_some_iff] at h
    obtain ⟨vs, h1, h2⟩ := h
    cases h2
    exact ⟨_, env, vs, hx, .inr rfl, h1, rfl⟩
  · cases h

/-- a function, run in the abstract, is what the program does -/
theorem run_sim {G : World → Prop} (hG : Good G w0) {cp : PCall} {cs : SCall} (hP : PSound P G cp) (hS : SSound P G cs) (hL : SLocal cs) (hfo : P.follows .mixedOrders = true) {sh : Ctx} {n f : Nat} {fn : IFn} (hc : compF P f = some fn) {vs : List V} {m : Mem} {v : V} {blk' : Blk} {args : Array Value} (h : runS sh cp cs n fn vs m.blk = some (v, blk'))
    (hl : vs.length ≤ fn.ntmps) (hok : Ok w0 m) (ha : Pw (VRel m) vs args.toList) : Calls P f args m.w (SRes w0 m v blk') := by
  obtain ⟨kf, c, h1, h2, h3, h4, h5, h6⟩ := compF_spec hc
  obtain ⟨e, env, rs, hx, he, hres, rfl⟩ := runS_spec h
  refine calls_of_wp h1 h2 ?_
  obtain ⟨s1, s2⟩ := start_rel (nt := kf.ntmps) ha (by rw [← h6]; exact hl)
  refine exec_sim hG hP hS hL hfo c h4 hx hok s1 s2 ?_
  intro a' m' k1 k2 k3 k4 k5 k6 k7
  subst k4
  obtain ⟨y, g1, g2⟩ := results_run k1 k5 h5 hres
  have : bodyPost P kf (SRes w0 m (tupV rs) m'.blk) .normal a' m'.w := ⟨k7, y, g1, y, m', rfl, rfl, k1, k2, k3, rfl, g2⟩
  rcases he with rfl | rfl
  · exact this
  · exact this

theorem enters_of {f : Nat} {fn : IFn} (hc : compF P f = some fn) : Enters P f := by
  obtain ⟨kf, c, h1, h2, h3, _⟩ := compF_spec hc
  exact ⟨kf, c, h1, h2, h3⟩

theorem sound {S : Sys} {G : World → Prop} (h : SysOk S G) : ∀ n, PSound S.P G (callP S n) ∧ SSound S.P G (callS S n) ∧ SLocal (callS S n) := by
  intro n
  induction n with
  | zero => exact ⟨fun f vs r h => by simp [callP] at h, fun f vs al blk v blk' h => by simp [callS] at h, fun f vs al blk v blk' h => by simp [callS] at h⟩
  | succ n ih =>
    obtain ⟨hP, hS, hL⟩ := ih
    refine ⟨?_, ?_, ?_⟩
    · intro f vs r hc
      rw [callP] at hc
      split at hc
      · rename_i r' hp
        subst hc
        exact h.prim f vs r hp
      · split at hc
        · rename_i fn hfn
          have hcf := h.fns f fn hfn
          split at hc
          · rename_i hl
            refine ⟨enters_of hcf, fun w O args hG hO ha => ?_⟩
            unfold runP at hc
            split at hc
            · rename_i v blk' hr
              let m0 : Mem := ⟨w, noBlk, fun _ => 0, fun _ => 0, O⟩
              have hown : m0.own = O := by
                funext c
                apply propext
                constructor
                · rintro (h | ⟨id, o, h, _⟩)
                  · exact h
                  · cases h
                · exact .inl
              have hok : Ok w m0 := ⟨rfl, rfl, rfl, Nat.le_refl _, fun _ _ => rfl, (fun id o h => by cases h), (fun id o h => by cases h), hO, (fun id id' o o' h => by cases h)⟩
              have hav : Pw (VRel m0) vs args.toList := ⟨ha.1, fun j x u p q => (ha.2 j x u p q).vrel rfl hown⟩
              refine (run_sim hG hP hS hL h.follow hcf (m := m0) hr hl hok hav).mono ?_
              rintro e w' ⟨val, m', rfl, rfl, q1, q2, q3, q4, q5⟩
              subst q4
              exact out_rel (m0 := m0) q1 q2 rfl (fun c ⟨id, o, h, _⟩ => by cases h) q3 hc q5
            · cases hc
          · cases hc
        · cases hc
    · intro f vs al blk v blk' hc
      rw [callS] at hc
      split at hc
      · rename_i fn hfn
        have hcf := h.fns f fn hfn
        split at hc
        · rename_i hl
          refine ⟨enters_of hcf, fun w0 m args hG hok hb ha => ?_⟩
          subst hb
          exact run_sim hG hP hS hL h.follow hcf hc hl hok ha
        · cases hc
      · cases hc
    · intro f vs al blk v blk' hc
      rw [callS] at hc
      split at hc
      · rename_i fn hfn
        split at hc
        · rename_i hl
          obtain ⟨l1, l2⟩ := runS_al hL hc
          refine ⟨l1, fun blk2 h2 => ?_⟩
          obtain ⟨b3, h3, h4⟩ := l2 blk2 h2
          exact ⟨b3, by rw [callS]; simp only [hfn, hl, if_true]; exact h3, h4⟩
        · cases hc
      · cases hc

/-- a contract holds of the program -/
theorem PEv.calls {S : Sys} {G : World → Prop} (h : SysOk S G) {f : Nat} {vs : List V} {r : RV} (hc : PEv S f vs r) (w : World) (hG : Good G w) (args : Array Value) (ha : Pw (AVRel w fun _ => False) vs args.toList) : Calls S.P f args w (PRes w (fun _ => False) r) := by
  obtain ⟨n, hn⟩ := hc
  exact ((sound h n).1 f vs r hn).2 w _ args hG (fun c h => h.elim) ha

end Go.Abs
