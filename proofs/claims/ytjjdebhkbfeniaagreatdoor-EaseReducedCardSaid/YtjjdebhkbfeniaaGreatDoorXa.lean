/-
  EaseReduced: for every code the call returns true and the argument reads as it did. It holds for every input that the row speaks of; the tables that the row lists hold what the text lays.
-/
import Derived.Test.YtjjdebhkbfeniaaGreatDoorRe
import Derived.Test.YtjjdebhkbfeniaaGreatDoorTie
import Derived.Deep.DeepHandedRow
import Derived.Deep.DeepLaidRun
import Derived.Stop.LaidErr
import Derived.Test.YtjjdebhkbfeniaaGreatDoorSb
import Derived.Test.YtjjdebhkbfeniaaGreatDoorTa
import Derived.Test.YtjjdebhkbfeniaaGreatDoorFa
import Derived.Test.YtjjdebhkbfeniaaGreatDoorGa
set_option linter.unusedSimpArgs false
set_option linter.unusedVariables false
set_option linter.unusedSectionVars false
set_option maxRecDepth 100000
set_option maxHeartbeats 16000000
namespace Go.Abs
theorem cellA.snap2{s:Nat}{L:List Let}{c:C}{blk:Blk}(h:cellA s L c blk): ∃ r,(∀ B:Blk,B s=blk s→Go.Abs.snap B snapN c=some (lsP L,r))∧(r=[]∨r=[s]):=by
 rcases h with rfl|h
 ·exact⟨[],fun B _=>rfl, .inl rfl⟩
 ·exact h.snapB
theorem cellA.of_eq{s:Nat}{L:List Let}{c:C}{blk blk':Blk}(h:cellA s L c blk)(h1:blk' s=blk s):cellA s L c blk':=by
 rcases h with h|h
 ·exact .inl h
 ·exact .inr (h.of_eq h1)
theorem chk_nat{f:Int}{ls:List Let}(h:checkR f ls=0): ∃ F:Nat,f=(F:Int):=by
 by_cases hne:ls=[]
 ·subst hne;unfold checkR at h;rw[if_neg (by decide)] at h;by_cases hf:f<0∨40<f
  ·rw[if_pos hf] at h;cases h
  ·exact Int.eq_ofNat_of_zero_le (show 0≤f by omega)
 ·obtain⟨F,e,_⟩:=fine_of h hne;exact⟨F,e⟩
theorem red_law(hk:PEv S 7 [] (.one (.p (.bool true))))(hcl:cloneE){F:Nat}{ls:List Let}(hlen:ls.length≤60)(hck:checkR (F:Int) ls=0):PEv S 3 [codeV F ls] (rb true):=by
 have ps:=small4_r (f:=F) (ls:=ls) (n:=60) (by decide);have hsm:(decide ((ls.length:Int)≤60)&&(checkR (F:Int) ls==0))=true:=by
  rw[hck,decide_eq_true (show(ls.length:Int)≤60 by omega)];rfl
 rw[hsm] at ps;obtain⟨rR,⟨ms,M,hR,hN,hr⟩,pr⟩:=Reduce_e hcl hck (by omega);have hml:=hR.len;obtain⟨rP,hp,pp⟩:=replay_path hcl hck (by omega) (by omega) hR.path;have hN':PEv S 10 [codeV F M, .one (.p (.sl [[.int .i64 1],[.int .i64 4],[.int .i64 6]]))] (.tup [.one (grownR mvT 7 []), .one (.p (.int .i64 0))]):=hN;have pe:=equal_same F M (by omega);have pM:=passes_p F M (by omega);have pL:=passes_p F ls (by omega);have cM:=crossings_p F M (by omega);have cL:=crossings_p F ls (by omega);have le1:((cnt Let.isP M:Nat):Int)≤((cnt Let.isP ls:Nat):Int):=by have:=hR.pc;omega
 have le2:((cnt Let.isC M/2:Nat):Int)≤((cnt Let.isC ls/2:Nat):Int):=by have:=hR.cc;omega
 have lo1:S.lone 192192064=false:=by kernel_rfl
 have lo2:S.lone 192256128=false:=by kernel_rfl
 have lo3:S.lone 192320128=false:=by kernel_rfl
 refine pev1 c3 ?_;simp only[go_sem,i3,s6,gP_bool ps,s8];refine gP_Red pr hr lo1 fun c e blk1 hd hl hb=> ?_
 have q0:=hb 192000000 (by decide) (by decide);simp only[go_sem] at q0;obtain⟨rd,hsn,hrd⟩:=hl.snapE;simp only[go_sem,q0,hsn,s9];refine gP_Rep pp hp (fun h=>hrd (by rw[h];rfl)) lo2 fun x blk2 hx hb2=> ?_
 have d0:=hb2 192000000 (by decide);have d3:=hb2 192192384 (by decide);simp only[go_sem,q0] at d0 d3;have hd2:=hd.of_eq ((hb2 192192065 (by decide)).trans (by simp only[upd_apply,Nat.reduceEqDiff,if_false]:_=blk1 192192065));have hl2:=hl.of_eq ((hb2 192192066 (by decide)).trans (by simp only[upd_apply,Nat.reduceEqDiff,if_false]:_=blk1 192192066));obtain⟨rd2,hs2,hrd2⟩:=hd2.snap2;obtain⟨rx,hsx,hrx⟩:=hx.snap2;simp only[go_sem,d3,hs2,s10];refine gP_g1pr hN' lo3 rfl rfl fun lf blk3 gl hb3=> ?_
 rcases gl with ⟨_,e2⟩|⟨h,_⟩
 rotate_left
 ·exact absurd rfl h
 cases e2
 have e0:=hb3 192000000 (by decide);have e3:=hb3 192192384 (by decide);have e6:=hb3 192256448 (by decide);have ec:=hb3 192192065 (by decide);have ex:=hb3 192256129 (by decide);have el:=hb3 192192066 (by decide);simp only[go_sem,d0,d3] at e0 e3 e6 ec ex el;have hlL:=hl2.len;rw[mP_len] at hlL;have hl3:=hl2.of_eq el;have hs3: ∀ B:Blk,B 192192065=blk3 192192065→Go.Abs.snap B snapN c=some (lsP M,rd2):=fun B hB=>hs2 B (hB.trans ec)
 have hsx3: ∀ B:Blk,B 192256129=blk3 192256129→Go.Abs.snap B snapN x=some (lsP M,rx):=fun B hB=>hsx B (hB.trans ex)
 have fin: ∀ (env:Env) (blk:Blk) (g3:Nat),env 1= .one (.href 192000000 1 0)→env 3= .one (.href 192192384 g3 0)→blk 192000000=(1,some (.var [.p (.int .i64 F), .p (lsP ls)]))→blk 192192384=(g3,some (.var [.p (.int .i64 F),c]))→blk 192192065=blk3 192192065→W S .all i3_r2 (endQ .all [(2,none)] fun v blk=>outV blk v=some (rb true)) env blk:=by
  intro env blk g3 h1 h3 b0 b3 bc;have hsB:=hs3 blk bc;clear hs3 hsx3 hsx hs2 hsn;rcases hrd2 with rfl|rfl
  ·simp only[go_sem,i3_r2,h1,h3,b0,b3,hsB,s12,s13,s7,dP_int pM,dP_int pL,dP_int cM,dP_int cL,dP_bool hk,le1,le2];exact okd
  ·simp only[go_sem,i3_r2,h1,h3,b0,b3,hsB,s12,s13,s7,dP_int pM,dP_int pL,dP_int cM,dP_int cL,dP_bool hk,le1,le2];exact okd
 have z00:((((0:Nat):Int))!=0)=false:=by decide
 rcases hl3 with ⟨en,e2⟩|⟨hne,gg,e2,bl⟩
 ·cases e2
  have hz:ms=[]:=by simpa [mP] using en
  subst hz;simp only[go_sem,e3,e6,z00,hs3,hsx3,s11,gP_bool pe];refine R_unroll ?_;simp only[go_sem,i3_l1,zz];refine fin _ _ ((blk1 192192384).1+1) ?_ ?_ ?_ ?_ ?_;all_goals(simp only[go_sem,e0,e3];first|done|rfl)
 ·cases e2
  rw[mP_len];simp only[go_sem,e3,e6,z00,hs3,hsx3,s11,gP_bool pe];refine R_for (fun k env blk=>env 1= .one (.href 192000000 1 0)∧env 3= .one (.href 192192384 ((blk1 192192384).1+1) 0)∧env 4= .one (.hsl 192192066 gg 7 0 ms.length)∧env 11=vi k∧blk 192000000=(1,some (.var [.p (.int .i64 F), .p (lsP ls)]))∧blk 192192384=((blk1 192192384).1+1,some (.var [.p (.int .i64 F),c]))∧blk 192192065=blk3 192192065∧blk 192192066=(gg,some (.arr mvT 7 (mP ms)))) 0 ms.length (Nat.zero_le _) ?_ ?_
  ·simp only[go_sem,e0,e3,bl]
   trace_state
   first|done|rfl|exact⟨rfl,rfl⟩
  ·rintro k env blk hkk ⟨h1,h3,h4,h11,b0,b3,bc,bm⟩
   by_cases hlt:k<ms.length
   ·have hlt':((k:Int)<(ms.length:Int)):=by omega
    have w1:=wrap_succ (n:=k) (by omega);obtain⟨m,hm1⟩:=at_lt hlt;have hat:=mov_at hm1;have hm:=hR.kind m (List.mem_of_getElem? hm1);have hmlen:(mP ms).length=ms.length:=mP_len ms;have n11:((1:Int)!=1)=false:=by decide
    have n41:((4:Int)!=1)=true:=by decide
    have n44:((4:Int)!=4)=false:=by decide
    have n61:((6:Int)!=1)=true:=by decide
    have n64:((6:Int)!=4)=true:=by decide
    have n66:((6:Int)!=6)=false:=by decide
    have hmk:m.k=1∨m.k=4∨m.k=6:=by simpa using hm
    rcases hmk with hmk|hmk|hmk
    all_goals
     simp only[go_sem,i3_l1,h1,h3,h4,h11,b0,b3,bm,hlt,hlt',hat,Mov.ps,hmk,n11,n41,n44,n61,n64,n66,w1];first|done|exact bc|trace_state
   ·have:k=ms.length:=by omega
    subst this;simp only[go_sem,i3_l1,h4,h11,no_more];refine fin _ _ ((blk1 192192384).1+1) ?_ ?_ ?_ ?_ ?_;all_goals(simp only[go_sem,h1,h3,b0,b3,bc];first|done|rfl)
theorem law_reduced(hcl:cloneE)(hk:PEv S 7 [] (rb true))(f:Int)(ls:List Let):PEv S 3 [codeV f ls] (rb true):=by
 by_cases h:ls.length≤60∧checkR f ls=0
 ·obtain⟨F,rfl⟩:=chk_nat h.2;exact red_law hk hcl h.1 h.2
 ·have ps:=small4_r (f:=f) (ls:=ls) (n:=60) (by decide);have hs:(decide ((ls.length:Int)≤60)&&(checkR f ls==0))=false:=by
   rw[Bool.and_eq_false_iff];by_cases h1:ls.length≤60
   ·have h2: ¬ checkR f ls=0:=fun e=>h ⟨h1,e⟩
    exact .inr (beq_eq_false_iff_ne.2 h2)
   ·exact .inl (decide_eq_false (by omega))
  rw[hs] at ps;refine pev1 c3 ?_;simp only[go_sem,i3,s6,gP_bool ps,s7,gP_bool hk]
end Go.Abs
namespace Go.Proofs.YtjjdebhkbfeniaaGreatDoor.fnEaseReduced
open Go.Abs Go.ChangeShapes Go.WideShapes Go.ChangeAt Go.RowKit
theorem hasT_struct {P : Program} {N n : Nat} {t : TypeId} {fs : Array Field} {p : List PV} (hu : P.underlying t = some (.struct fs)) (h : HasT P N (n + 1) t p) :
    ∃ parts : List (List PV), p = parts.flatten ∧ parts.length = fs.toList.length ∧ ∀ (i : Nat) (f : Field) (x : List PV), fs.toList[i]? = some f → parts[i]? = some x → HasT P N n f.type x := by
  simp only [HasT, hu] at h
  exact h
theorem lets_of {es : List (List PV)} (h : ∀ x ∈ es, ∃ l : Let, x = l.ps) : ∃ ls : List Let, es = ls.map Let.ps := by
  induction es with
  | nil => exact ⟨[], rfl⟩
  | cons e es ih =>
    obtain ⟨l, rfl⟩ := h e (by simp)
    obtain ⟨ls, rfl⟩ := ih fun x hx => h x (by simp [hx])
    exact ⟨l :: ls, rfl⟩
theorem let_of {N n : Nat} {p : List PV} (h : HasT S.P N (n + 1 + 1) 55 p) : ∃ l : Let, p = l.ps := by
  obtain ⟨parts, rfl, hl, hp⟩ := hasT_struct Tryz.underlying55 h
  rcases parts with _ | ⟨p0, _ | ⟨p1, _ | ⟨p2, _ | ⟨p3, _ | ⟨p4, _ | ⟨p5, _ | ⟨p6, r⟩⟩⟩⟩⟩⟩⟩ <;> first
    | (simp at hl; done)
    | skip
  obtain ⟨k, rfl, _⟩ := hasT_int Tryz.underlying53 (hp 0 _ _ rfl rfl)
  obtain ⟨g, rfl, _⟩ := hasT_int Tryz.underlying3 (hp 1 _ _ rfl rfl)
  obtain ⟨r, rfl, _⟩ := hasT_int Tryz.underlying3 (hp 2 _ _ rfl rfl)
  obtain ⟨i, rfl, _⟩ := hasT_int Tryz.underlying3 (hp 3 _ _ rfl rfl)
  obtain ⟨s, rfl, _⟩ := hasT_int Tryz.underlying3 (hp 4 _ _ rfl rfl)
  obtain ⟨o, rfl⟩ := hasT_bool Tryz.underlying4 (hp 5 _ _ rfl rfl)
  exact ⟨⟨k, g, r, i, s, o⟩, rfl⟩
theorem code_of {N n : Nat} {p : List PV} (h : HasT S.P N (n + 1 + 1 + 1 + 1) 24 p) : ∃ (k : Int) (ls : List Let), p = [.int .i64 k, .sl (ls.map Let.ps)] := by
  obtain ⟨parts, rfl, hl, hp⟩ := hasT_struct Tryz.underlying24 h
  rcases parts with _ | ⟨p0, _ | ⟨p1, _ | ⟨p2, r⟩⟩⟩ <;> first
    | (simp at hl; done)
    | skip
  obtain ⟨k, rfl, _⟩ := hasT_int Tryz.underlying3 (hp 0 _ _ rfl rfl)
  obtain ⟨es, rfl, _, he⟩ := hasT_slice Tryz.underlying22 (hp 1 _ _ rfl rfl)
  obtain ⟨ls, rfl⟩ := lets_of fun x hx => let_of (he x hx)
  exact ⟨k, ls, rfl⟩
theorem law_any (pvss : List (List PV)) (h : HasAll S.P maxLen 4 Tryz.f3.params.toList pvss) : PEv S 3 (argVs S.P Tryz.f3.params.toList pvss) (.one (.p (.bool true))) := by
  have hp : Tryz.f3.params.toList = [24] := by rw [Tryz.params3]
  rw [hp] at h ⊢
  rcases pvss with _ | ⟨a0, _ | ⟨a1, z1⟩⟩
  · exact h.elim
  · obtain ⟨f0, ls0, rfl⟩ := code_of (n := 0) h.1
    have e3 : ∀ (f : Int) (a : List Let), argV S.P 24 [.int .i64 f, .sl (a.map Let.ps)] = codeV f a := fun f a => argV_struct (P := S.P) Tryz.underlying24
    simp only [argVs, e3]
    exact law_reduced cloneE_p k4known f0 ls0
  · exact h.2.elim
theorem gTab : Tryz.prog.globalNamed tabName = some 0 := by kernel_rfl
theorem gTabType : (Tryz.prog.globals[0]?).map (·.type) = some 247 := by kernel_rfl
theorem cellsTab : Tryz.prog.cellsOf 247 = 20 := by kernel_rfl
theorem cellsU64 : Tryz.prog.cellsOf 210 = 1 := by kernel_rfl
/-- what the row's list gives: the table of the powers of ten -/
theorem table {W : World} (h : laidMetH Tryz.prog Rows.easeReducedRow.laid W) : G W := by
  have h1 : laidMet Tryz.prog Rows.easeReducedRow.laid W := h
  have h2 := h1.tail.tail
  have e : (Rows.laid_internal_strconv_uint64pow10 : DataW Unit) = Lib.tabData .u64 Lib.pow10Tab := by kernel_rfl
  rw [e] at h2
  exact Lib.tabIs_of_head (rest := []) gTab gTabType Tryz.underlying247 Tryz.underlying210 cellsU64 cellsTab h2
end Go.Proofs.YtjjdebhkbfeniaaGreatDoor.fnEaseReduced
namespace Go.Proofs.YtjjdebhkbfeniaaGreatDoor.fnEaseReduced
open Go.Abs Go.ChangeShapes Go.WideShapes Go.ChangeAt Go.RowKit
theorem own : ownKnob Tryz.prog.godebug = none := by kernel_rfl
theorem contract (H : Type) (enc : TypeId × Value → H) (W : World) (base : Nat) (args : Array Value) (ds gs : List (DataW H)) (before : List MemPlace)
    (hval : ∀ (j : Nat) t v, Tryz.f3.params[j]? = some t → args[j]? = some v → Value.okWide Tryz.prog W .any base t v)
    (hW : DataW.Whole enc Tryz.prog Tryz.f3.params.toList Rows.easeReducedSpec.vars false W args.toList ds gs before) (hL : laidMetH Tryz.prog Rows.easeReducedRow.laid W) :
    Calls Tryz.prog 3 args W fun e W' => ∃ v, e = .returned v ∧ Rows.easeReducedSpec.post enc Tryz.prog Tryz.f3 false true false false W args v W' := by
  have hk : ∀ t ∈ Tryz.f3.params.toList, okTy S.P 4 t = true := by
    rw [Tryz.params3]
    intro t ht
    have e : t = 24 := by simpa using ht
    have k : okTy S.P 4 24 = true := by kernel_rfl
    exact e ▸ k
  have hfit : ∀ d ∈ ds, Fits maxLen d := by
    obtain ⟨p, q, hA, _⟩ := hW
    exact (trodAll_fits hk hA).1
  exact law_contract S_ok (fun w h => good_of h) (fn := Tryz.f3) (s := Rows.easeReducedSpec) rfl
    (fun H ds hd => by
      rw [Tryz.params3] at hd
      match ds, hd with
      | [d0], _ => rfl) (tb := 4) (by kernel_rfl) Tryz.underlying4 hk law_any hval hW (table hL) hfit

noncomputable def cellsD (d : DataW Unit) : Array Value :=
  match d with
  | .agg l => (l.map fun
    | .lit (.int k z) => Value.int k z
    | _ => undef).toArray
  | _ => #[]
noncomputable def layD (d : DataW Unit) : Obj → Obj
  | .cells _ t frozen => .cells (cellsD d) t frozen
  | o => o
noncomputable def laidWorld (os : Os) : World :=
  { World.holding Tryz.prog os ⟨#[], #[], []⟩ with heap := (((World.holding Tryz.prog os ⟨#[], #[], []⟩).heap.modify 1 (layD Rows.laid_math_bits_deBruijn32tab)).modify 2 (layD Rows.laid_math_bits_deBruijn64tab)).modify 0 (layD Rows.laid_internal_strconv_uint64pow10) }
theorem laid_met (os : Os) : laidMet Tryz.prog Rows.easeReducedRow.laid ((laidWorld os).forCall (fun _ _ => 0) ⟨#[], #[Value.agg #[.int .i64 0, .slice none 0 0]], []⟩).memory :=
  laidMet_of_run' 8 (by kernel_rfl) (by kernel_rfl)
theorem reads (os : Os) {H : Type} (enc : TypeId × Value → H) : ∃ places, DataW.whole enc Tryz.prog ((laidWorld os).forCall (fun _ _ => 0) ⟨#[], #[Value.agg #[.int .i64 0, .slice none 0 0]], []⟩).memory Tryz.f3.params.toList Rows.easeReducedSpec.vars false #[Value.agg #[.int .i64 0, .slice none 0 0]].toList 8 = some ([.agg [.lit (.int .i64 0), .nil]], [], places) :=
  ⟨[], by kernel_rfl⟩

theorem lifted (os : Os) (started : os.Started) (H : Type) (enc : TypeId × Value → H) (F : Stop.Interp) :
    ReturnsInHanded {} Tryz.checked os 3 .any ((OpenSpec.ofChange Rows.easeReducedSpec).preRow enc Tryz.prog Tryz.f3 Rows.easeReducedRow.domain false Rows.easeReducedRow.laid) (((OpenSpec.ofChange Rows.easeReducedSpec).at F).post enc Tryz.prog Tryz.f3 false true false false) := by
  obtain ⟨places, hx⟩ := reads os enc
  refine returnsInHanded_of_row (C := Tryz.checked) (s := (OpenSpec.ofChange Rows.easeReducedSpec)) own started (by kernel_rfl) Tryz.func3
    (witness_row_at (enc := enc) (C := Tryz.checked) false (laidWorld os) #[Value.agg #[.int .i64 0, .slice none 0 0]] rfl (by kernel_rfl) (by kernel_rfl) (by kernel_rfl)
      (OpenSpec.preRow_of_cond 8 hx (by kernel_rfl) (fun k hk => by cases hk) (by kernel_rfl) (laid_met os))) ?_
  intro W base args ds gs before hval hW _ _ _ hL _ _
  exact contract H enc W base args ds gs before hval hW hL
end Go.Proofs.YtjjdebhkbfeniaaGreatDoor.fnEaseReduced
namespace Go.Proofs.YtjjdebhkbfeniaaGreatDoor.fnEaseReduced
open Go.Abs Go.ChangeShapes Go.WideShapes Go.ChangeAt Go.RowKit
theorem said : Rows.EaseReducedSaid :=
  OpenClaim.holds_of_cond 3 Tryz.f3 rfl rfl rfl rfl rfl rfl rfl ⟨rfl, rfl, rfl, rfl, rfl⟩ rfl rfl rfl rfl rfl (by kernel_rfl) Tryz.func3 closed
    (of_decide_eq_true (by kernel_rfl)) (by unfold Func.isWrapper; first | (rw [if_pos (by decide +kernel)]; kernel_rfl) | (rw [if_neg (by decide +kernel)]; exact ⟨rfl, rfl⟩))
    (fun os started H enc _ F => by rw [OpenClaim.pre_eq_preRow]; exact lifted os started H enc F)

theorem plain (f : FuncId) (fn : Func) (hf : Tryz.pinned.checked.prog.funcNamed Rows.easeReducedRow.func = some f) (hfn : Tryz.pinned.checked.prog.funcs[f]? = some fn) :
    false = Tryz.pinned.checked.prog.looks [] ∧ ∀ (j : Nat) t, fn.params[j]? = some t → Tryz.pinned.checked.prog.wantsStandIn t = false := by
  obtain rfl : f = 3 := Option.some.inj ((show Tryz.prog.funcNamed Rows.easeReducedRow.func = some 3 by kernel_rfl).symm.trans hf) |>.symm
  obtain rfl : fn = Tryz.f3 := (Option.some.inj (Tryz.func3.symm.trans hfn)).symm
  refine ⟨by kernel_rfl, ?_⟩
  · intro j t ht
    rw [Tryz.params3] at ht
    have e : t = 24 := by simpa using Array.mem_of_getElem? ht
    have k : Tryz.prog.wantsStandIn 24 = false := by kernel_rfl
    exact e ▸ k

theorem wfText : Rows.easeReducedRow.wfByText (OpenSpec.ofChange Rows.easeReducedSpec) = true := by kernel_rfl
theorem mainIs : Tryz.pinned.checked.prog.mainIs = some ((true, "6f76d3317fb156d17ad4db0226e692e01f4ae4b25a70a5fcdac59f2755301056").1, (true, "6f76d3317fb156d17ad4db0226e692e01f4ae4b25a70a5fcdac59f2755301056").2.toList) := by kernel_rfl
theorem card : Rows.EaseReducedCardSaid :=
  Claim7.holds_tied_plain_at .later [] _ _ _ _ said (fun _ h => by cases h) wfText (fun _ h => by cases h) easeReduced_row_tie rfl ⟨rfl, rfl⟩ mainIs rfl plain goes
end Go.Proofs.YtjjdebhkbfeniaaGreatDoor.fnEaseReduced
