/-
  EasePaths: for every code and every list of moves the call returns true and the arguments read as they did. It holds for every input that the row speaks of; the tables that the row lists hold what the text lays.
-/
import Derived.Test.YtjdfokaegjgddaaGreatDoorRa
import Derived.Test.YtjdfokaegjgddaaGreatDoorTie
import Derived.Deep.DeepHandedRow
import Derived.Deep.DeepLaidRun
import Derived.Stop.LaidErr
import Derived.Test.YtjdfokaegjgddaaGreatDoorSb
import Derived.Test.YtjdfokaegjgddaaGreatDoorTa
import Derived.Test.YtjdfokaegjgddaaGreatDoorFa
import Derived.Test.YtjdfokaegjgddaaGreatDoorGa
set_option linter.all false
set_option maxRecDepth 100000
set_option maxHeartbeats 16000000
namespace Go.Abs
theorem Ft{F:Nat}{L:List Let}(h:aO (F:Int) L=0):r8 (r8 L)=r8 L:=by
 by_cases Yk:L=[]
 .subst Yk;rfl
 obtain⟨G,e,g⟩:=rS h Yk;have he:=g.even;obtain⟨_,h2,_⟩:=g.nor;have hf:=PL he h2;have:jW (r8 L)=jW L:=Sn (by have:=hf.2.1;omega) hf;show(jW (r8 L)).getD []=_;rw[this];rfl
theorem Qk{F:Nat}{ls L:List Let}{ms:List mf}(hL:pQ F (r8 ls) ms=some L)(h:aO (F:Int) L=0):IX F ls ms F L []=lE ms:=by
 have e2:AW F L []=some (r8 L):=rfl;unfold IX;rw[e2];unfold AW;cases hs:lE ms with
 |false=>rfl
 |true=>simp only[if_true,hL];rw[Ft h];simp
theorem MJ{F:Nat}{ls L:List Let}{ms:List mf}(hL:pQ F (r8 ls) ms=some L)(h:aO (F:Int) L=0):IX F L [] F ls ms=lE ms:=by
 have e2:AW F L []=some (r8 L):=rfl;unfold IX;rw[e2];unfold AW;cases hs:lE ms with
 |false=>rfl
 |true=>simp only[if_true,hL];rw[Ft h];simp
theorem Le(ms:List mf)(m:mf):lE (ms++[m])=(lE ms&&AQ m.k):=by unfold lE;rw[List.all_append];simp
theorem LQ(hk:bz S 5 [] (.one (.p (.bool true))))(YL:l5){F:Nat}{ls:List Let}(ms:List mf)(hlen:ls.length<=30)(hck:aO (F:Int) ls=0)(hml:ms.length<=20):bz S 3 [de F ls,.one (.p (pR ms))] (rb true):=by
 have ps:=EI (f:=F) (ls:=ls) (n:=30) (by decide);have hsm:(decide ((ls.length:Int)<=30)&&(aO (F:Int) ls==0))=true:=by rw[hck,decide_eq_true (show(ls.length:Int)<=30 by omega)];rfl
 rw[hsm] at ps;have pn:=Dj YL (f:=F) (ls:=ls) (by omega) hck;have a3:(cO (jW ls)).norm=kL (r8 ls):=xI (jW ls);have hN:=By hck;have hNl:=xn ls;obtain⟨r,hr,pr⟩:=EY YL (Am F ms) hN (by omega) (by omega);have aeB:¬((20:Int)<(ms.length:Int)):=by omega
 have lo2:S.lone 192256128=false:=by kernel_rfl
 have e00:((0:Int)!=0)=false:=by decide
 rcases hr with ⟨hn,i,e,he,rfl⟩|⟨L,hL,adJ,hr⟩
 .generalize cO (jW ls)=q at*;have he':(e !=0)=true:=by simpa using he
  refine aP c3 ?_;simp only[go_sem,i3,s4,az ps,aeB,s6,au pn jk,a3,s7,au pr rH,e00,he',s5,az hk]
 have p1:=KF YL (A:=ls) (B:=L) (Am F ms) (Am F []) hck adJ (by omega) (abc (xH adJ) (by decide)) (by omega) (by simp);have p2:=KF YL (A:=L) (B:=ls) (Am F []) (Am F ms) adJ hck (abc (xH adJ) (by decide)) (by omega) (by simp) (by omega);rw[Qk hL adJ] at p1;rw[MJ hL adJ] at p2;have p1':bz S 9 [de F ls,de F L,.agg [.p (pR ms),.p (.sl [])]] (rb (lE ms)):=p1;have p2':bz S 9 [de F L,de F ls,.agg [.p (.sl []),.p (pR ms)]] (rb (lE ms)):=p2;clear p1 p2;generalize cO (jW ls)=q at*
 have loop:∀(env:Env) (X9:aE) (c:C) (rd:List Nat),env 1=.one (.p (pR ms))->env 2=.one (.Yh 192000000 1 0)->env 7=.one (.Yh 192256448 1 0)->env 10=vb true->env 11=vi 0->X9 192000000=(1,some (.var [.p (.int .i64 F),.p (kL ls)]))->X9 192256448=(1,some (.var [.p (.int .i64 F),c]))->snap X9 cn c=some (kL L,rd)->
   W S .all (.loop i3_l1) (fQ 0 (qk S .all i3_r2 (pY .all i3.results fun v X9=>iE X9 v=some (rb true)))) env X9:=by
  intro env X9 c rd h1 h2 h7 YN Zn b0 b7 hs;refine bm (fun k Yc Ya=>Ya=X9/\Yc 1=.one (.p (pR ms))/\Yc 2=.one (.Yh 192000000 1 0)/\Yc 7=.one (.Yh 192256448 1 0)/\Yc 10=vb (lE (ms.take k))/\Yc 11=vi k) 0 ms.length (aae _) ⟨rfl,h1,h2,h7,YN,Zn⟩ ?_;rintro k Yc Ya hk' ⟨rfl,h1,h2,h7,YN,Zn⟩
  by_cases Ye:k<ms.length
  .have Yf:((k:Int)<(ms.length:Int)):=by omega
   obtain⟨m,hm1⟩:=ai Ye;have hmi:=HS hm1;have w1:=ah (n:=k) (by omega);have pl:=Jw m.k;have htk:ms.take (k+1)=ms.take k++[m]:=by obtain⟨hl,e⟩:=aac.1 hm1;rw[<- e,List.take_append_getElem]
   have hsl:lE (ms.take (k+1))=(lE (ms.take k)&&AQ m.k):=by rw[htk,Le]
   clear htk;generalize lE (ms.take k)=d at YN hsl;generalize AQ m.k=d2 at hsl pl;cases d with
   |false=>simp only[go_sem,i3_l1,h1,h2,h7,YN,Zn,Ye,Yf,w1];rw[hsl];rfl
   |true=>simp only[go_sem,i3_l1,h1,h2,h7,YN,Zn,Ye,Yf,hmi,mf.ps,w1,s8,az pl];rw[hsl];rfl
  have:k=ms.length:=by omega
  subst this;rw[aaV] at YN;simp only[go_sem,i3_l1,i3_r2,h1,h2,h7,YN,Zn,b0,b7,hs,aW,s9,az p1',az p2',s5,az hk];first|done|rfl
 have big:∀(c:C),True:=fun _=>trivial;rcases hr with rfl|⟨rfl,rfl⟩
 .refine aP c3 ?_;simp only[go_sem,i3,s4,az ps,aeB,s6,au pn jk,a3,s7];refine SX pr lo2 rfl rfl rfl (yy _) fun cc Yi gc hb=>?_;have gc:grown 192256129 lN 6 (eE L) (.one cc) Yi:=gc;have q0:=hb 192000000 (by decide);have q7:=hb 192256448 (by decide);have q5:=hb 192192320 (by decide);simp only[go_sem] at q0 q7 q5;obtain⟨rd,hsn,_⟩:=gc.WI;rcases gc with ⟨hE,hc⟩|⟨hE,gg,hc,hC⟩
  .cases hc;have z60:¬((60:Int)<((0:Nat):Int)):=by decide
   simp only[go_sem,q7,e00,z60];refine loop _ _ (.p .nils) rd ?_ ?_ ?_ ?_ ?_ ?_ ?_ ?_;all_goals first|rfl|(simp only[go_sem,q0];done)|(simp only[go_sem];rfl)|exact hsn _ (by simp only[ae,Nat.reduceEqDiff,if_false])
  cases hc;by_cases h60:(60:Int)<(L.length:Int)
  .simp only[go_sem,q7,e00,h60,s5,az hk]
  simp only[go_sem,q7,e00,h60];refine loop _ _ (.hsl 192256129 gg 6 0 (eE L).length) rd ?_ ?_ ?_ ?_ ?_ ?_ ?_ ?_;all_goals first|rfl|(simp only[go_sem,q0,q7];done)|(simp only[go_sem];rfl)|exact hsn _ (by simp only[ae,Nat.reduceEqDiff,if_false])
 have z60:¬((60:Int)<((0:Nat):Int)):=by decide
 refine aP c3 ?_;simp only[go_sem,i3,s4,az ps,aeB,s6,au pn jk,a3,s7,au pr rH,e00,z60];refine loop _ _ (.p (.sl [])) [] ?_ ?_ ?_ ?_ ?_ ?_ ?_ ?_;all_goals first|rfl|(simp only[go_sem];done)|(simp only[go_sem];rfl)
theorem Mb(YL:l5)(hk:bz S 5 [] (rb true))(f:Int)(ls:List Let)(ms:List mf):bz S 3 [de f ls,.one (.p (pR ms))] (rb true):=by
 have ps:=EI (f:=f) (ls:=ls) (n:=30) (by decide);by_cases h:ls.length<=30/\aO f ls=0
 .have hs:(decide ((ls.length:Int)<=30)&&(aO f ls==0))=true:=by
   rw[h.2,decide_eq_true (show(ls.length:Int)<=30 by omega)];rfl
  rw[hs] at ps;obtain⟨F,rfl⟩:∃F:Nat,f=(F:Int):=by
   by_cases Yk:ls=[]
   .have h2:=h.2;subst Yk;unfold aO at h2;rw[if_neg (by decide)] at h2;by_cases hf:f<0\/40<f
    .rw[if_pos hf] at h2;cases h2
    exact abs (show 0<=f by omega)
   obtain⟨F,e,_⟩:=rS h.2 Yk;exact⟨F,e⟩
  by_cases hm:ms.length<=20
  .exact LQ hk YL ms h.1 h.2 hm
  have aeB:((20:Int)<(ms.length:Int)):=by omega
  refine aP c3 ?_;simp only[go_sem,i3,s4,az ps,aeB,s5,az hk]
 have hs:(decide ((ls.length:Int)<=30)&&(aO f ls==0))=false:=by
  rw[Bool.and_eq_false_iff];by_cases h1:ls.length<=30
  .have h2:¬aO f ls=0:=fun e=>h ⟨h1,e⟩;exact .inr (beq_eq_false_iff_ne.2 h2)
  exact .inl (decide_eq_false (by omega))
 rw[hs] at ps;refine aP c3 ?_;simp only[go_sem,i3,s4,az ps,s5,az hk]
end Go.Abs
namespace Go.Proofs.YtjdfokaegjgddaaGreatDoor.fnEasePaths
open Go.Abs Go.ChangeShapes Go.WideShapes Go.ChangeAt Go.RowKit
theorem qI {P : Program} {N n : Nat} {t : TypeId} {fs : Array Field} {p : List PV} (hu : P.underlying t = some (.struct fs)) (h : iB P N (n + 1) t p) :
    ∃parts : List (List PV), p = parts.flatten ∧ parts.length = fs.toList.length ∧ ∀(i : Nat) (f : Field) (x : List PV), fs.toList[i]?= some f → parts[i]?= some x → iB P N n f.type x := by
  simp only [iB, hu] at h;exact h
theorem SB {es : List (List PV)} (h :∀x ∈ es, ∃l : Let, x = l.ps) :∃ls : List Let, es = ls.map Let.ps := by
  induction es with
  | nil => exact ⟨[], rfl⟩
  | cons e es ih =>obtain ⟨l, rfl⟩ := h e (by simp);obtain ⟨ls, rfl⟩ := ih fun x hx => h x (by simp [hx]);exact ⟨l :: ls, rfl⟩
theorem Vx {N n : Nat} {p : List PV} (h : iB S.P N (n + 1 + 1) 44 p) :∃l : Let, p = l.ps := by
  obtain ⟨parts, rfl, hl, hp⟩ := qI Tryz.underlying44 h;rcases parts with _ | ⟨p0, _ | ⟨p1, _ | ⟨p2, _ | ⟨p3, _ | ⟨p4, _ | ⟨p5, _ | ⟨p6, r⟩⟩⟩⟩⟩⟩⟩ <;> first
    | (simp at hl; done)
    | skip
  obtain ⟨k, rfl, _⟩ := gQ Tryz.underlying42 (hp 0 _ _ rfl rfl);obtain ⟨g, rfl, _⟩ := gQ Tryz.underlying3 (hp 1 _ _ rfl rfl);obtain ⟨r, rfl, _⟩ := gQ Tryz.underlying3 (hp 2 _ _ rfl rfl);obtain ⟨i, rfl, _⟩ := gQ Tryz.underlying3 (hp 3 _ _ rfl rfl);obtain ⟨s, rfl, _⟩ := gQ Tryz.underlying3 (hp 4 _ _ rfl rfl);obtain ⟨o, rfl⟩ := vj Tryz.underlying4 (hp 5 _ _ rfl rfl);exact ⟨⟨k, g, r, i, s, o⟩, rfl⟩
theorem Tn {N n : Nat} {p : List PV} (h : iB S.P N (n + 1 + 1 + 1 + 1) 24 p) :∃(k : Int) (ls : List Let), p = [.int .i64 k,.sl (ls.map Let.ps)] := by
  obtain ⟨parts, rfl, hl, hp⟩ := qI Tryz.underlying24 h;rcases parts with _ | ⟨p0, _ | ⟨p1, _ | ⟨p2, r⟩⟩⟩ <;> first
    | (simp at hl; done)
    | skip
  obtain ⟨k, rfl, _⟩ := gQ Tryz.underlying3 (hp 0 _ _ rfl rfl);obtain ⟨es, rfl, _, he⟩ := zh Tryz.underlying22 (hp 1 _ _ rfl rfl);obtain ⟨ls, rfl⟩ := SB fun x hx => Vx (he x hx);exact ⟨k, ls, rfl⟩
theorem Sp {N n : Nat} {p : List PV} (h : iB S.P N (n + 1 + 1) 36 p) :∃(k a b c : Int) (l o : Bool) (s : Int), p = [.int .i64 k,.int .i64 a,.int .i64 b,.int .i64 c,.bool l,.bool o,.int .i64 s] := by
  obtain ⟨parts, rfl, hl, hp⟩ := qI Tryz.underlying36 h;rcases parts with _ | ⟨p0, _ | ⟨p1, _ | ⟨p2, _ | ⟨p3, _ | ⟨p4, _ | ⟨p5, _ | ⟨p6, _ | ⟨p7, r⟩⟩⟩⟩⟩⟩⟩⟩ <;> first
    | (simp at hl; done)
    | skip
  obtain ⟨k, rfl, _⟩ := gQ Tryz.underlying34 (hp 0 _ _ rfl rfl);obtain ⟨a, rfl, _⟩ := gQ Tryz.underlying3 (hp 1 _ _ rfl rfl);obtain ⟨b, rfl, _⟩ := gQ Tryz.underlying3 (hp 2 _ _ rfl rfl);obtain ⟨c, rfl, _⟩ := gQ Tryz.underlying3 (hp 3 _ _ rfl rfl);obtain ⟨l, rfl⟩ := vj Tryz.underlying4 (hp 4 _ _ rfl rfl);obtain ⟨o, rfl⟩ := vj Tryz.underlying4 (hp 5 _ _ rfl rfl);obtain ⟨s, rfl, _⟩ := gQ Tryz.underlying3 (hp 6 _ _ rfl rfl);exact ⟨k, a, b, c, l, o, s, rfl⟩
theorem OK {N n : Nat} {p : List PV} (h : iB S.P N (n + 1 + 1 + 1) 25 p) :∃l : List mf, p = [.sl (l.map mf.ps)] := by
  obtain ⟨es, rfl, hle, he⟩ := zh Tryz.underlying25 h;clear h hle
  suffices ∃l : List mf, es = l.map mf.ps by obtain ⟨l, rfl⟩ := this; exact ⟨l, rfl⟩
  induction es with
  | nil => exact ⟨[], rfl⟩
  | cons e es ih =>obtain ⟨k, a, b, c, l, o, s, rfl⟩ := Sp (he e (by simp));obtain ⟨ms, rfl⟩ := ih fun x hx => he x (by simp [hx]);exact ⟨⟨k, a, b, c, l, o, s⟩ :: ms, rfl⟩
theorem law_any (pvss : List (List PV)) (h : Eg S.P maxLen 4 Tryz.f3.params.toList pvss) : bz S 3 (uN S.P Tryz.f3.params.toList pvss) (.one (.p (.bool true))) := by
  have hp : Tryz.f3.params.toList = [24, 25] := by rw [Tryz.params3]
  rw [hp] at h ⊢;rcases pvss with _ | ⟨a0, _ | ⟨a1, _ | ⟨a2, z2⟩⟩⟩
  · exact h.elim
  · exact h.2.elim
  · obtain ⟨f0, ls0, rfl⟩ := Tn (n := 0) h.1
    obtain ⟨ms1, rfl⟩ := OK (n := 1) h.2.1;have e3 :∀(f : Int) (a : List Let), DZ S.P 24 [.int .i64 f,.sl (a.map Let.ps)] = de f a := fun f a => GP (P := S.P) Tryz.underlying24;have e6 :∀l : List mf, DZ S.P 25 [.sl (l.map mf.ps)] =.one (.p (.sl (l.map mf.ps))) := fun l => QA (P := S.P) Tryz.underlying25 (fun fs h => by cases h);simp only [uN, e3, e6];exact Mb Qh SJ f0 ls0 ms1
  · exact h.2.2.elim
theorem gTab : Tryz.prog.globalNamed w9 = some 0 := by kernel_rfl
theorem Pv : (Tryz.prog.globals[0]?).map (·.type) = some 220 := by kernel_rfl
theorem Qn : Tryz.prog.cellsOf 220 = 20 := by kernel_rfl
theorem Qm : Tryz.prog.cellsOf 199 = 1 := by kernel_rfl
/-- what the row's list gives: the table of the powers of ten -/
theorem table {W : World} (h : laidMetH Tryz.prog Rows.easePathsRow.laid W) : G W := by
  have h1 : laidMet Tryz.prog Rows.easePathsRow.laid W := h;have h2 := h1.tail.tail;have e : (Rows.laid_internal_strconv_uint64pow10 : DataW Unit) = Lib.tabData .u64 Lib.pow10Tab := by kernel_rfl
  rw [e] at h2;exact Lib.tabIs_of_head (rest := []) gTab Pv Tryz.underlying220 Tryz.underlying199 Qm Qn h2
end Go.Proofs.YtjdfokaegjgddaaGreatDoor.fnEasePaths
namespace Go.Proofs.YtjdfokaegjgddaaGreatDoor.fnEasePaths
open Go.Abs Go.ChangeShapes Go.WideShapes Go.ChangeAt Go.RowKit
theorem own : ownKnob Tryz.prog.godebug = none := by kernel_rfl
theorem Qf (H : Type) (enc : TypeId×Value → H) (W : World) (base : Nat) (args : Array Value) (ds gs : List (DataW H)) (before : List MemPlace)
    (hval :∀(j : Nat) t v, Tryz.f3.params[j]?= some t → args[j]?= some v → Value.okWide Tryz.prog W .any base t v)
    (hW : DataW.Whole enc Tryz.prog Tryz.f3.params.toList Rows.easePathsSpec.vars false W args.toList ds gs before) (hL : laidMetH Tryz.prog Rows.easePathsRow.laid W) :
    Calls Tryz.prog 3 args W fun e W' =>∃v, e =.returned v ∧ Rows.easePathsSpec.post enc Tryz.prog Tryz.f3 false true false false W args v W' := by
  have hk :∀t ∈ Tryz.f3.params.toList, iF S.P 4 t = true := by
    rw [Tryz.params3];intro t ht;have e : t = 24 ∨ t = 25 := by simpa using ht
    have k0 : iF S.P 4 24 = true := by kernel_rfl
    have k1 : iF S.P 4 25 = true := by kernel_rfl
    rcases e with e | e
    · exact e ▸ k0
    · exact e ▸ k1
  have hfit :∀d ∈ ds, Fits maxLen d := by obtain ⟨p, q, hA, _⟩ := hW;exact (tN hk hA).1
  exact Dq S_ok (fun w h => SS h) (fn := Tryz.f3) (s := Rows.easePathsSpec) rfl
    (fun H ds hd => by
      rw [Tryz.params3] at hd
      match ds, hd with
      | [d0, d1], _ => rfl) (tb := 4) (by kernel_rfl) Tryz.underlying4 hk law_any hval hW (table hL) hfit

noncomputable def V0 (d : DataW Unit) : Array Value :=
  match d with
  | .agg l => (l.map fun
    | .lit (.int k z) => Value.int k z
    | _ => undef).toArray
  | _ => #[]
noncomputable def VF (d : DataW Unit) : Obj → Obj
  | .cells _ t frozen =>.cells (V0 d) t frozen
  | o => o
noncomputable def vc (os : Os) : World :={ World.holding Tryz.prog os ⟨#[], #[], []⟩ with heap := (((World.holding Tryz.prog os ⟨#[], #[], []⟩).heap.modify 1 (VF Rows.laid_math_bits_deBruijn32tab)).modify 2 (VF Rows.laid_math_bits_deBruijn64tab)).modify 0 (VF Rows.laid_internal_strconv_uint64pow10) }
theorem O6 (os : Os) : laidMet Tryz.prog Rows.easePathsRow.laid ((vc os).forCall (fun _ _ => 0) ⟨#[], #[Value.agg #[.int .i64 0,.slice none 0 0],.slice none 0 0], []⟩).memory :=laidMet_of_run' 8 (by kernel_rfl) (by kernel_rfl)
theorem reads (os : Os) {H : Type} (enc : TypeId×Value → H) :∃places, DataW.whole enc Tryz.prog ((vc os).forCall (fun _ _ => 0) ⟨#[], #[Value.agg #[.int .i64 0,.slice none 0 0],.slice none 0 0], []⟩).memory Tryz.f3.params.toList Rows.easePathsSpec.vars false #[Value.agg #[.int .i64 0,.slice none 0 0],.slice none 0 0].toList 8 = some ([.agg [.lit (.int .i64 0),.nil],.nil], [], places) :=
  ⟨[], by kernel_rfl⟩

theorem lifted (os : Os) (started : os.Started) (H : Type) (enc : TypeId×Value → H) (F : Stop.Interp) :
    ReturnsInHanded {} Tryz.checked os 3 .any ((OpenSpec.ofChange Rows.easePathsSpec).preRow enc Tryz.prog Tryz.f3 Rows.easePathsRow.domain false Rows.easePathsRow.laid) (((OpenSpec.ofChange Rows.easePathsSpec).at F).post enc Tryz.prog Tryz.f3 false true false false) := by
  obtain ⟨places, hx⟩ := reads os enc;refine returnsInHanded_of_row (C := Tryz.checked) (s := (OpenSpec.ofChange Rows.easePathsSpec)) own started (by kernel_rfl) Tryz.func3
    (witness_row_at (enc := enc) (C := Tryz.checked) false (vc os) #[Value.agg #[.int .i64 0,.slice none 0 0],.slice none 0 0] rfl (by kernel_rfl) (by kernel_rfl) (by kernel_rfl)
      (OpenSpec.preRow_of_cond 8 hx (by kernel_rfl) (fun k hk => by cases hk) (by kernel_rfl) (O6 os))) ?_
  intro W base args ds gs before hval hW _ _ _ hL _ _;exact Qf H enc W base args ds gs before hval hW hL
end Go.Proofs.YtjdfokaegjgddaaGreatDoor.fnEasePaths
namespace Go.Proofs.YtjdfokaegjgddaaGreatDoor.fnEasePaths
open Go.Abs Go.ChangeShapes Go.WideShapes Go.ChangeAt Go.RowKit
theorem said : Rows.EasePathsSaid :=
  OpenClaim.holds_of_cond 3 Tryz.f3 rfl rfl rfl rfl rfl rfl rfl ⟨rfl, rfl, rfl, rfl, rfl⟩ rfl rfl rfl rfl rfl (by kernel_rfl) Tryz.func3 closed
    (of_decide_eq_true (by kernel_rfl)) (by unfold Func.isWrapper; first | (rw [if_pos (by decide +kernel)]; kernel_rfl) | (rw [if_neg (by decide +kernel)]; exact ⟨rfl, rfl⟩))
    (fun os started H enc _ F => by rw [OpenClaim.pre_eq_preRow]; exact lifted os started H enc F)

theorem plain (f : FuncId) (fn : Func) (hf : Tryz.pinned.checked.prog.funcNamed Rows.easePathsRow.func = some f) (hfn : Tryz.pinned.checked.prog.funcs[f]?= some fn) :
    false = Tryz.pinned.checked.prog.looks [] ∧ ∀(j : Nat) t, fn.params[j]?= some t → Tryz.pinned.checked.prog.wantsStandIn t = false := by
  obtain rfl : f = 3 := Option.some.inj ((show Tryz.prog.funcNamed Rows.easePathsRow.func = some 3 by kernel_rfl).symm.trans hf) |>.symm
  obtain rfl : fn = Tryz.f3 := (Option.some.inj (Tryz.func3.symm.trans hfn)).symm;refine ⟨by kernel_rfl, ?_⟩
  · intro j t ht
    rw [Tryz.params3] at ht;have e : t = 24 ∨ t = 25 := by simpa using Array.mem_of_getElem? ht
    have k0 : Tryz.prog.wantsStandIn 24 = false := by kernel_rfl
    have k1 : Tryz.prog.wantsStandIn 25 = false := by kernel_rfl
    rcases e with e | e
    · exact e ▸ k0
    · exact e ▸ k1

theorem UZ : Rows.easePathsRow.wfByText (OpenSpec.ofChange Rows.easePathsSpec) = true := by kernel_rfl
theorem mainIs : Tryz.pinned.checked.prog.mainIs = some ((true, "2dc42f4445aa7caf6aa031dfc0962d07de58ba93c05e69f310bad8d2899897c0").1, (true, "2dc42f4445aa7caf6aa031dfc0962d07de58ba93c05e69f310bad8d2899897c0").2.toList) := by kernel_rfl
theorem card : Rows.EasePathsCardSaid :=Claim7.holds_tied_plain_at .later [] _ _ _ _ said (fun _ h => by cases h) UZ (fun _ h => by cases h) easePaths_row_tie rfl ⟨rfl, rfl⟩ mainIs rfl plain goes
end Go.Proofs.YtjdfokaegjgddaaGreatDoor.fnEasePaths
