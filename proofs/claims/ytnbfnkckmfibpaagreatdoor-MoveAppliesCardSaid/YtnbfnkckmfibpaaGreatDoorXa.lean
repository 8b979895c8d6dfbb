/-
  MoveApplies: for every code and every move the call returns true and the arguments read as they did. It holds for every input that the row speaks of; the tables that the row lists hold what the text lays.
-/
import Derived.Test.YtnbfnkckmfibpaaGreatDoorVf
import Derived.Test.YtnbfnkckmfibpaaGreatDoorVp
import Derived.Test.YtnbfnkckmfibpaaGreatDoorTie
import Derived.Deep.DeepHandedRow
import Derived.Deep.DeepLaidRun
import Derived.Stop.LaidErr
import Derived.Test.YtnbfnkckmfibpaaGreatDoorSb
import Derived.Test.YtnbfnkckmfibpaaGreatDoorTa
import Derived.Test.YtnbfnkckmfibpaaGreatDoorFa
import Derived.Test.YtnbfnkckmfibpaaGreatDoorGa
set_option linter.unusedSimpArgs false
set_option linter.unusedVariables false
set_option linter.unusedSectionVars false
set_option maxRecDepth 100000
set_option maxHeartbeats 16000000
namespace Go.Abs
section
variable{F:Nat}{ls:List ae}
theorem CE(g:bj F ls){i:Nat}{l:ae}(hl:ls[i]? =some l): -1000<=l.gate/\l.gate<=1000:=by
 have UK:=g.fing;rcases g.ok.kinds l (aaf hl) with hp|hc
 ·have:=g.tD hl hp;have:=this.g0;have:=(g.tD hl hp).g1;omega
 ·have hb:=g.bad l (aaf hl);have hk:=K5 hc;unfold cS at hb;rw[hk] at hb;have h0:l.gate=0:=by
   apply Classical.byContradiction;intro h;simp[h] at hb
  omega
theorem me(g:bj F ls){d:Nat}(hd:d<2*ls.length):(aA F ls d).places.length<=1000000:=by
 obtain⟨w,hw,he⟩:=aaF.1 (iY (F:=F) hd);obtain⟨_,hwl,hwm⟩:=fe g.ok w hw;have h1:=(sH g.ok hwm w.length (aal _)).2.1;rw[sI,he] at h1;have hlen:=g.len;have UK:=g.fing;have UG:(ah ls).length<=ls.length:=cn ls ls.length;have h2:w.length*(2*F+2)<=1600*82:=Nat.mul_le_mul (by unfold nD at hwl;omega) (by omega);omega
theorem QA(g:bj F ls): ∀ x∈ls,-1000000<=x.Th/\x.Th<=1000000:=fun x hx=>by
 obtain⟨i,hi⟩:=aaC hx;exact gK g ⟨x,DO ls i⟩ (aaf (eB hi))
theorem QX(g:bj F ls): ∀ x∈ls,-1000000<=x.id/\x.id<=1000000:=fun x hx=>by
 obtain⟨i,hi⟩:=aaC hx;exact vN g ⟨x,DO ls i⟩ (aaf (eB hi))
theorem jg(g:bj F ls)(XO:ls.length<=40)(hk:aH S 5 [] (rb true))(ps:aH S 4 [aQ F ls,vi 40] (rb true)){k a b c:Int}{l o:Bool}{sg:Int}{p:Bool}{L:List ae}{D:List Bool}(hA:aK F ls k a b c l o sg=true)
  (pw:aH S 54 [kZ F ls,dL k a b c l o sg] (rb (!aK F ls k a b c l o sg))) (pp:aH S 55 [kZ F ls,dL k a b c l o sg] (rb p))
  (hm:(tx F ls k a.toNat b.toNat c.toNat l o sg).isSome=p/\ ∀ M,tx F ls k a.toNat b.toNat c.toNat l o sg=some M->Rel M L D) (pr:aH S 9 [aQ F ls,dL k a b c l o sg] (uA F L D)):
  aH S 3 [aQ F ls,dL k a b c l o sg] (rb true):=by
 have pa:=Hi g k a b c l o sg;rw[hA] at pw;have pd:=ze g (sX g.len pw fun _=>pp);have Wt:aD ae.aJ ls<=ls.length:=dS _ _;obtain⟨Wl,Wk⟩:=hm;unfold Dv at pa;rw[if_pos hA] at pa;cases hM:tx F ls k a.toNat b.toNat c.toNat l o sg with
 |none=>
  rw[hM] at pa Wl;rw[<- Wl] at pd;exact KN hk ps rfl pa pd
 |some M=>
  rw[hM] at pa Wl;rw[<- Wl] at pd;have h1: ¬ ((400:Int)<(ls.length:Int)+(cE k).1\/(100:Int)<((aD ae.aJ ls/2:Nat):Int)+(cE k).2):=by
   unfold cE;repeat' split
   all_goals simp only
   all_goals omega
  have h2:(decide (400<(Sg (ls.length:Int) ((aD ae.aJ ls/2:Nat):Int) k).1)||decide (100<(Sg (ls.length:Int) ((aD ae.aJ ls/2:Nat):Int) k).2))=false:=by
   unfold Sg;repeat' split
   all_goals(simp only[adC,decide_eq_false_iff_not];omega)
  have pa:aH S 6 [aQ F ls,dL k a b c l o sg] (qE F (qc M)):=by
   have e:IJ F ls k (some M)=qE F (qc M):=if_neg h1;rwa[e] at pa
  have pd:aH S 7 [aQ F ls,dL k a b c l o sg] (ri 0):=by
   unfold alR at pd;rw[h2] at pd;exact pd
  have hr:=Wk M hM;have hlen:=yr hM;have WM:=LE M;rw[hr.fin] at pa WM;exact PI (by rw[WM];omega) hk ps pa pd pr
theorem rU(hl:ls.length<=1000000)(k a b c:Int)(l o:Bool)(sg:Int):aH S 54 [kZ F ls,dL k a b c l o sg] (rb (!aK F ls k a b c l o sg)):=by
 by_cases h1:k=1
 ·subst h1;exact Jm hl
 by_cases h2:k=2
 ·subst h2;exact Jl hl
 by_cases h3:k=3
 ·subst h3;exact Jk hl
 by_cases h4:k=4
 ·subst h4;exact Jj hl
 by_cases h5:k=5
 ·subst h5;exact Ji hl
 by_cases h6:k=6
 ·subst h6;exact Jh hl
 by_cases h7:k=7
 ·subst h7;exact Jg hl
 by_cases h8:k=8
 ·subst h8;exact Jf hl
 by_cases h9:k=9
 ·subst h9;exact Je hl
 by_cases TJ:k=10
 ·subst TJ;exact Hl hl
 have hf:aK F ls k a b c l o sg=false:=by unfold aK;simp[h1,h2,h3,h4,h5,h6,h7,h8,h9,TJ]
 rw[hf];have q: ∀ {x:Int},¬ k=x->(k==x)=false:=fun h=>by simp[h]
 exact Jn (q h1) (q h2) (q h3) (q h4) (q h5) (q h6) (q h7) (q h8) (q h9) (q TJ)
theorem KP(hl:ls.length<=40)(hk:aH S 5 [] (rb true))(ps:aH S 4 [aQ F ls,vi 40] (rb true)){k a b c:Int}{l o:Bool}{sg:Int}(hA:aK F ls k a b c l o sg=false)
  (pa:aH S 6 [aQ F ls,dL k a b c l o sg] (kH 2)) (al: ∀ v,aH S 18 [kZ F ls,dL k a b c l o sg] (ri v)->aH S 7 [aQ F ls,dL k a b c l o sg] (ri v)):
  aH S 3 [aQ F ls,dL k a b c l o sg] (rb true):=by
 have pw:=rU (F:=F) (ls:=ls) (by omega) k a b c l o sg;rw[hA] at pw;have pd:=al _ (sX (p:=false) (by omega) pw (fun h=>by cases h));exact KN hk ps rfl pa pd
theorem N2(g:bj F ls)(XO:ls.length<=40)(hk:aH S 5 [] (rb true))(ps:aH S 4 [aQ F ls,vi 40] (rb true))(k a b c:Int)(l o:Bool)(sg:Int):
  aH S 3 [aQ F ls,dL k a b c l o sg] (rb true):=by
 have hl:=g.len;have U2:=QA g;have aio:=QX g;have UK:=g.fing;have Ts: ∀ x∈ls,∀ k:Nat,k<=4->IntKind.i64.wrap (x.id - (k:Int))=x.id - k:=fun x hx k hk=>by
  have:=aio x hx;exact dd (by omega) (by omega)
 have hrw: ∀ (d:Int),-10<=d->d<=10-> ∀ x∈ls,IntKind.i64.wrap (x.Th - d)=x.Th - d:=fun d h1 h2 x hx=>by
  have:=U2 x hx;exact dd (by omega) (by omega)
 have hgt: ∀ i,i<ls.length->(lA ls i).kind=1->0<=(lA ls i).gate/\(lA ls i).gate<=F:=fun i hi hk=>by
  have:=g.tD (dD hi) (mh hk);exact⟨this.g0,this.g1⟩
 have pw:=rU (F:=F) (ls:=ls) (by omega) k a b c l o sg;cases hA:aK F ls k a b c l o sg with
 |false=>
  have pa:=Hi g k a b c l o sg;unfold Dv at pa;rw[hA] at pa;exact KP XO hk ps hA pa fun v h=>ze g h
 |true=>
  have hA0:=hA;unfold aK at hA;by_cases h1:k=1
  ·subst h1;simp only[Int.reduceEq,if_true,if_false,or_false,or_self] at hA;simp only[aan,aaH,beq_iff_eq] at hA;obtain⟨rfl,rfl,rfl,hx,rfl,rfl⟩:=hA;obtain⟨av,rfl,ha⟩:=bU hx;exact jg g XO hk ps hA0 pw (NE g ha (Gi g ha) (Gi g (nv ha))) (mv1 g ha) (S3 g av 0 0 false false 0 ha hl (hrw 2 (by decide) (by decide)))
  by_cases h2:k=2
  ·subst h2;simp only[Int.reduceEq,if_true,if_false,or_self] at hA;simp only[aan,abk,aaH,beq_iff_eq,decide_eq_true_eq] at hA;obtain⟨rfl,rfl,rfl,hx,UF,hbF,hc0,Wt⟩:=hA;rcases hx with hx|⟨hx,_⟩
   rotate_left
   ·exact absurd hx (by have:=g.pos;omega)
   obtain⟨av,rfl,ha⟩:=bU hx;obtain⟨bv,rfl⟩:=aa8 UF;obtain⟨cv,rfl⟩:=aa8 hc0;have hcv:cv<=1000:=by
    have:=dS (I3 bv) ls;simp only[cg,abm] at Wt;omega
   exact jg g XO hk ps hA0 pw (NB g ha (me g (by omega)) (me g (by omega))) (mv2 g ha) (S1 g av bv cv false false 0 ha hcv hl (hrw (-2) (by decide) (by decide)) (me g (by omega)))
  by_cases h3:k=3
  ·subst h3;simp only[Int.reduceEq,if_true,if_false,or_false,or_self] at hA;simp only[aan,aaH,beq_iff_eq,decide_eq_true_eq] at hA;obtain⟨rfl,rfl,rfl,hx,rfl,hy,Ti⟩:=hA;obtain⟨av,rfl,ha⟩:=bU hx;obtain⟨bv,rfl,hb⟩:=bU hy;exact jg g XO hk ps hA0 pw (NA g ha hb) (mv3 g ha hb (by omega)) (SZ g av bv 0 false false 0 ha hb g.two hl)
  by_cases h4:k=4
  ·subst h4;simp only[Int.reduceEq,if_true,if_false,or_false,or_true,or_self] at hA;simp only[aan,aaH,beq_iff_eq] at hA;obtain⟨rfl,rfl,rfl,hx,rfl,rfl⟩:=hA;obtain⟨av,rfl,ha⟩:=bU hx;exact jg g XO hk ps hA0 pw (Nz g ha) (mv4 g ha) (SY g av 0 0 false false 0 (dD ha) hl Ts)
  by_cases h5:k=5
  ·subst h5;simp only[Int.reduceEq,if_true,if_false,or_self] at hA;simp only[aan,abk,aaH,beq_iff_eq] at hA;obtain⟨rfl,_,hx,rfl,rfl⟩:=hA;obtain⟨av,rfl,ha⟩:=bU hx;exact jg g XO hk ps hA0 pw Ny ⟨rfl,fun M hM=>by cases hM;exact mv5 av sg o⟩ (SX g av 0 0 false o sg ha hl)
  by_cases h6:k=6
  ·subst h6;simp only[Int.reduceEq,if_true,if_false,or_true,or_self] at hA;simp only[aan,aaH,beq_iff_eq,decide_eq_true_eq] at hA;obtain⟨rfl,rfl,rfl,hx,rfl,hy,Ti⟩:=hA;obtain⟨av,rfl,ha⟩:=bU hx;obtain⟨bv,rfl,hb⟩:=bU hy;exact jg g XO hk ps hA0 pw (Nx g ha hb) (mv6 g ha hb) (SW g av bv 0 false false 0 ha hb hl Ts)
  by_cases h7:k=7
  ·subst h7;simp only[Int.reduceEq,if_true,if_false,or_self] at hA;simp only[aan,aaH,beq_iff_eq,beq_eq_false_iff_ne] at hA;obtain⟨rfl,hx,rfl,hy,TA⟩:=hA;obtain⟨av,rfl,ha⟩:=bU hx;obtain⟨bv,rfl,hb⟩:=bU hy;exact jg g XO hk ps hA0 pw (Nw g ha hb) (mv7 g ha hb (by omega) l o) (SV g av bv 0 l o 0 ha hb hl)
  by_cases h8:k=8
  ·subst h8;simp only[Int.reduceEq,if_true,if_false,or_self] at hA;simp only[aan,aaH,beq_iff_eq,decide_eq_true_eq] at hA;obtain⟨rfl,rfl,rfl,hx,hy,hz,_,_⟩:=hA;obtain⟨av,rfl,ha⟩:=bU hx;obtain⟨bv,rfl,hb⟩:=bU hy;obtain⟨cv,rfl,hc⟩:=bU hz;exact jg g XO hk ps hA0 pw (Nv g ha hb hc) (mv8 g ha hb hc) (SU g av bv cv false false 0 ha hb hc g.two hl)
  by_cases h9:k=9
  ·subst h9;simp only[Int.reduceEq,if_true,if_false,or_false,or_true,or_self] at hA;simp only[aan,aaH,beq_iff_eq] at hA;obtain⟨rfl,rfl,rfl,hx,rfl,rfl⟩:=hA;obtain⟨av,rfl,ha⟩:=bU hx;have hg:=CE g (dD ha);have hm:=mv9 (F:=F) (a:=av) g ha;have pr:=ST g av 0 0 false false 0 (dD ha) hl (hrw (-1) (by decide) (by decide)) (dd (by omega) (by omega));exact jg g XO hk ps hA0 pw (Nu g (dD ha)) hm pr
  by_cases TJ:k=10
  ·subst TJ;simp only[Int.reduceEq,if_true,if_false,or_true,or_self] at hA;simp only[aan,aaH,beq_iff_eq] at hA;obtain⟨rfl,rfl,rfl,hx,rfl,rfl⟩:=hA;obtain⟨av,rfl,ha⟩:=bU hx;have hg:=CE g (dD ha);have hcn:=dS (o0 ((lA ls av).gate - 1)) ls;have hm:=mv10 (F:=F) (a:=av) g ha;have pr:=RR g av 0 0 false false 0 (dD ha) hl (Od F ls (by omega) _) (dd (by omega) (by omega)) (dd (by omega) (by omega)) (hrw 1 (by decide) (by decide)) (dd (by omega) (by omega))
   exact jg g XO hk ps hA0 pw (Ko g (dD ha)) hm pr
  ·simp[h1,h2,h3,h4,h5,h6,h7,h8,h9,TJ] at hA
theorem KO{F:Nat}(hF:F<=40)(hk:aH S 5 [] (rb true))(ps:aH S 4 [aQ F [],vi 40] (rb true))(k a b c:Int)(l o:Bool)(sg:Int):
  aH S 3 [aQ F [],dL k a b c l o sg] (rb true):=by
 have pa:=O7 hF k a b c l o sg;unfold RQ at pa;cases hA:aK F [] k a b c l o sg with
 |false=>
  rw[hA] at pa;exact KP (aah _) hk ps hA pa fun v h=>wY h
 |true=>
  rw[hA,if_pos rfl] at pa;have pw:=rU (F:=F) (ls:=[]) (aah _) k a b c l o sg;rw[hA] at pw;obtain⟨bv,rfl,rfl,rfl,hb,rfl,rfl,rfl,rfl⟩:=PX hA;have pd:=wY (sX (ls:=[]) (aah _) pw fun _=>NC);have pr:=S2 (F:=F) 0 bv 0 false false 0 (by decide);exact PI (L:=IS bv) (by simp) hk ps pa pd pr
theorem Cq(hk:aH S 5 [] (rb true))(f:Int)(ls:List ae)(k a b c:Int)(l o:Bool)(sg:Int):aH S 3 [aQ f ls,dL k a b c l o sg] (rb true):=by
 have ps:=Na (f:=f) (ls:=ls) (n:=40) (by decide);cases hs:(decide ((ls.length:Int)<=40)&&(dZ f ls==0)) with
 |false=>
  rw[hs] at ps;exact Su hk ps
 |true=>
  rw[hs] at ps;rw[aan,decide_eq_true_eq,beq_iff_eq] at hs;obtain⟨XO,hc⟩:=hs;by_cases TA:ls=[]
  ·subst TA;unfold dZ at hc;rw[if_neg (by decide)] at hc;by_cases hf:f<0\/40<f
   ·rw[if_pos hf] at hc;cases hc
   ·obtain⟨F,rfl⟩:=aa8 (show 0<=f by omega);exact KO (by omega) hk ps k a b c l o sg
  ·obtain⟨F,rfl,g⟩:=On hc TA;exact N2 g (by omega) hk ps k a b c l o sg
end
end Go.Abs
namespace Go.Proofs.YtnbfnkckmfibpaaGreatDoor.fnMoveApplies
open Go.Abs Go.ChangeShapes Go.WideShapes Go.ChangeAt Go.RowKit
theorem nK {P : Program} {N n : Nat} {t : TypeId} {fs : Array Field} {p : List PV} (hu : P.underlying t = some (.struct fs)) (h : gE P N (n + 1) t p) :
    ∃ parts : List (List PV), p = parts.flatten ∧ parts.length = fs.toList.length ∧ ∀ (i : Nat) (f : Field) (x : List PV), fs.toList[i]? = some f → parts[i]? = some x → gE P N n f.type x := by
  simp only [gE, hu] at h
  exact h
theorem N4 {es : List (List PV)} (h : ∀ x ∈ es, ∃ l : ae, x = l.ps) : ∃ ls : List ae, es = ls.map ae.ps := by
  induction es with
  | nil => exact ⟨[], rfl⟩
  | cons e es ih =>
    obtain ⟨l, rfl⟩ := h e (by simp)
    obtain ⟨ls, rfl⟩ := ih fun x hx => h x (by simp [hx])
    exact ⟨l :: ls, rfl⟩
theorem QP {N n : Nat} {p : List PV} (h : gE S.P N (n + 1 + 1) 55 p) : ∃ l : ae, p = l.ps := by
  obtain ⟨parts, rfl, hl, hp⟩ := nK Tryz.underlying55 h
  rcases parts with _ | ⟨p0, _ | ⟨p1, _ | ⟨p2, _ | ⟨p3, _ | ⟨p4, _ | ⟨p5, _ | ⟨p6, r⟩⟩⟩⟩⟩⟩⟩ <;> first
    | (simp at hl; done)
    | skip
  obtain ⟨k, rfl, _⟩ := fP Tryz.underlying53 (hp 0 _ _ rfl rfl)
  obtain ⟨g, rfl, _⟩ := fP Tryz.underlying3 (hp 1 _ _ rfl rfl)
  obtain ⟨r, rfl, _⟩ := fP Tryz.underlying3 (hp 2 _ _ rfl rfl)
  obtain ⟨i, rfl, _⟩ := fP Tryz.underlying3 (hp 3 _ _ rfl rfl)
  obtain ⟨s, rfl, _⟩ := fP Tryz.underlying3 (hp 4 _ _ rfl rfl)
  obtain ⟨o, rfl⟩ := sB Tryz.underlying4 (hp 5 _ _ rfl rfl)
  exact ⟨⟨k, g, r, i, s, o⟩, rfl⟩
theorem OQ {N n : Nat} {p : List PV} (h : gE S.P N (n + 1 + 1 + 1 + 1) 24 p) : ∃ (k : Int) (ls : List ae), p = [.int .i64 k, .sl (ls.map ae.ps)] := by
  obtain ⟨parts, rfl, hl, hp⟩ := nK Tryz.underlying24 h
  rcases parts with _ | ⟨p0, _ | ⟨p1, _ | ⟨p2, r⟩⟩⟩ <;> first
    | (simp at hl; done)
    | skip
  obtain ⟨k, rfl, _⟩ := fP Tryz.underlying3 (hp 0 _ _ rfl rfl)
  obtain ⟨es, rfl, _, he⟩ := Ff Tryz.underlying22 (hp 1 _ _ rfl rfl)
  obtain ⟨ls, rfl⟩ := N4 fun x hx => QP (he x hx)
  exact ⟨k, ls, rfl⟩
theorem NX {N n : Nat} {p : List PV} (h : gE S.P N (n + 1 + 1) 27 p) : ∃ (k a b c : Int) (l o : Bool) (s : Int), p = [.int .i64 k, .int .i64 a, .int .i64 b, .int .i64 c, .bool l, .bool o, .int .i64 s] := by
  obtain ⟨parts, rfl, hl, hp⟩ := nK Tryz.underlying27 h
  rcases parts with _ | ⟨p0, _ | ⟨p1, _ | ⟨p2, _ | ⟨p3, _ | ⟨p4, _ | ⟨p5, _ | ⟨p6, _ | ⟨p7, r⟩⟩⟩⟩⟩⟩⟩⟩ <;> first
    | (simp at hl; done)
    | skip
  obtain ⟨k, rfl, _⟩ := fP Tryz.underlying25 (hp 0 _ _ rfl rfl)
  obtain ⟨a, rfl, _⟩ := fP Tryz.underlying3 (hp 1 _ _ rfl rfl)
  obtain ⟨b, rfl, _⟩ := fP Tryz.underlying3 (hp 2 _ _ rfl rfl)
  obtain ⟨c, rfl, _⟩ := fP Tryz.underlying3 (hp 3 _ _ rfl rfl)
  obtain ⟨l, rfl⟩ := sB Tryz.underlying4 (hp 4 _ _ rfl rfl)
  obtain ⟨o, rfl⟩ := sB Tryz.underlying4 (hp 5 _ _ rfl rfl)
  obtain ⟨s, rfl, _⟩ := fP Tryz.underlying3 (hp 6 _ _ rfl rfl)
  exact ⟨k, a, b, c, l, o, s, rfl⟩
theorem law_any (pvss : List (List PV)) (h : A6 S.P maxLen 4 Tryz.f3.params.toList pvss) : aH S 3 (rO S.P Tryz.f3.params.toList pvss) (.one (.p (.bool true))) := by
  have hp : Tryz.f3.params.toList = [24, 27] := by rw [Tryz.params3]
  rw [hp] at h ⊢
  rcases pvss with _ | ⟨a0, _ | ⟨a1, _ | ⟨a2, z2⟩⟩⟩
  · exact h.elim
  · exact h.2.elim
  · obtain ⟨f0, ls0, rfl⟩ := OQ (n := 0) h.1
    obtain ⟨k1, a1, b1, c1, l1, o1, s1, rfl⟩ := NX (n := 2) h.2.1
    have e3 : ∀ (f : Int) (a : List ae), FR S.P 24 [.int .i64 f, .sl (a.map ae.ps)] = aQ f a := fun f a => tU (P := S.P) Tryz.underlying24
    have e4 : ∀ (k a b c : Int) (l o : Bool) (s : Int), FR S.P 27 [.int .i64 k, .int .i64 a, .int .i64 b, .int .i64 c, .bool l, .bool o, .int .i64 s] = dL k a b c l o s := fun k a b c l o s => tU (P := S.P) Tryz.underlying27
    simp only [rO, e3, e4]
    exact Cq N8 f0 ls0 k1 a1 b1 c1 l1 o1 s1
  · exact h.2.2.elim
theorem gTab : Tryz.prog.globalNamed tabName = some 0 := by kernel_rfl
theorem Lr : (Tryz.prog.globals[0]?).map (·.type) = some 190 := by kernel_rfl
theorem L9 : Tryz.prog.cellsOf 190 = 20 := by kernel_rfl
theorem L8 : Tryz.prog.cellsOf 171 = 1 := by kernel_rfl
/-- what the row's list gives: the table of the powers of ten -/
theorem table {W : World} (h : laidMetH Tryz.prog Rows.moveAppliesRow.laid W) : G W := by
  have h1 : laidMet Tryz.prog Rows.moveAppliesRow.laid W := h
  have h2 := h1.tail.tail
  have e : (Rows.laid_internal_strconv_uint64pow10 : DataW Unit) = Lib.tabData .u64 Lib.pow10Tab := by kernel_rfl
  rw [e] at h2
  exact Lib.tabIs_of_head (rest := []) gTab Lr Tryz.underlying190 Tryz.underlying171 L8 L9 h2
end Go.Proofs.YtnbfnkckmfibpaaGreatDoor.fnMoveApplies
namespace Go.Proofs.YtnbfnkckmfibpaaGreatDoor.fnMoveApplies
open Go.Abs Go.ChangeShapes Go.WideShapes Go.ChangeAt Go.RowKit
theorem own : ownKnob Tryz.prog.godebug = none := by kernel_rfl
theorem L5 (H : Type) (enc : TypeId × Value → H) (W : World) (base : Nat) (args : Array Value) (ds gs : List (DataW H)) (before : List MemPlace)
    (hval : ∀ (j : Nat) t v, Tryz.f3.params[j]? = some t → args[j]? = some v → Value.okWide Tryz.prog W .any base t v)
    (hW : DataW.Whole enc Tryz.prog Tryz.f3.params.toList Rows.moveAppliesSpec.vars false W args.toList ds gs before) (hL : laidMetH Tryz.prog Rows.moveAppliesRow.laid W) :
    Calls Tryz.prog 3 args W fun e W' => ∃ v, e = .returned v ∧ Rows.moveAppliesSpec.post enc Tryz.prog Tryz.f3 false true false false W args v W' := by
  have hk : ∀ t ∈ Tryz.f3.params.toList, gw S.P 4 t = true := by
    rw [Tryz.params3]
    intro t ht
    have e : t = 24 ∨ t = 27 := by simpa using ht
    have k0 : gw S.P 4 24 = true := by kernel_rfl
    have k1 : gw S.P 4 27 = true := by kernel_rfl
    rcases e with e | e
    · exact e ▸ k0
    · exact e ▸ k1
  have hfit : ∀ d ∈ ds, Fits maxLen d := by
    obtain ⟨p, q, hA, _⟩ := hW
    exact (qt hk hA).1
  exact Ak S_ok (fun w h => Og h) (fn := Tryz.f3) (s := Rows.moveAppliesSpec) rfl
    (fun H ds hd => by
      rw [Tryz.params3] at hd
      match ds, hd with
      | [d0, d1], _ => rfl) (tb := 4) (by kernel_rfl) Tryz.underlying4 hk law_any hval hW (table hL) hfit

noncomputable def Rp (d : DataW Unit) : Array Value :=
  match d with
  | .agg l => (l.map fun
    | .lit (.int k z) => Value.int k z
    | _ => undef).toArray
  | _ => #[]
noncomputable def QT (d : DataW Unit) : Obj → Obj
  | .cells _ t frozen => .cells (Rp d) t frozen
  | o => o
noncomputable def sk (os : Os) : World :=
  { World.holding Tryz.prog os ⟨#[], #[], []⟩ with heap := (((World.holding Tryz.prog os ⟨#[], #[], []⟩).heap.modify 2 (QT Rows.laid_math_bits_deBruijn32tab)).modify 3 (QT Rows.laid_math_bits_deBruijn64tab)).modify 0 (QT Rows.laid_internal_strconv_uint64pow10) }
theorem K4 (os : Os) : laidMet Tryz.prog Rows.moveAppliesRow.laid ((sk os).forCall (fun _ _ => 0) ⟨#[], #[Value.agg #[.int .i64 0, .slice none 0 0], .agg #[.int .i64 0, .int .i64 0, .int .i64 0, .int .i64 0, .bool false, .bool false, .int .i64 0]], []⟩).memory :=
  laidMet_of_run' 8 (by kernel_rfl) (by kernel_rfl)
theorem reads (os : Os) {H : Type} (enc : TypeId × Value → H) : ∃ places, DataW.whole enc Tryz.prog ((sk os).forCall (fun _ _ => 0) ⟨#[], #[Value.agg #[.int .i64 0, .slice none 0 0], .agg #[.int .i64 0, .int .i64 0, .int .i64 0, .int .i64 0, .bool false, .bool false, .int .i64 0]], []⟩).memory Tryz.f3.params.toList Rows.moveAppliesSpec.vars false #[Value.agg #[.int .i64 0, .slice none 0 0], .agg #[.int .i64 0, .int .i64 0, .int .i64 0, .int .i64 0, .bool false, .bool false, .int .i64 0]].toList 8 = some ([.agg [.lit (.int .i64 0), .nil], .agg [.lit (.int .i64 0), .lit (.int .i64 0), .lit (.int .i64 0), .lit (.int .i64 0), .lit (.bool false), .lit (.bool false), .lit (.int .i64 0)]], [], places) :=
  ⟨[], by kernel_rfl⟩

theorem lifted (os : Os) (started : os.Started) (H : Type) (enc : TypeId × Value → H) (F : Stop.Interp) :
    ReturnsInHanded {} Tryz.checked os 3 .any ((OpenSpec.ofChange Rows.moveAppliesSpec).preRow enc Tryz.prog Tryz.f3 Rows.moveAppliesRow.domain false Rows.moveAppliesRow.laid) (((OpenSpec.ofChange Rows.moveAppliesSpec).at F).post enc Tryz.prog Tryz.f3 false true false false) := by
  obtain ⟨places, hx⟩ := reads os enc
  refine returnsInHanded_of_row (C := Tryz.checked) (s := (OpenSpec.ofChange Rows.moveAppliesSpec)) own started (by kernel_rfl) Tryz.func3
    (witness_row_at (enc := enc) (C := Tryz.checked) false (sk os) #[Value.agg #[.int .i64 0, .slice none 0 0], .agg #[.int .i64 0, .int .i64 0, .int .i64 0, .int .i64 0, .bool false, .bool false, .int .i64 0]] rfl (by kernel_rfl) (by kernel_rfl) (by kernel_rfl)
      (OpenSpec.preRow_of_cond 8 hx (by kernel_rfl) (fun k hk => by cases hk) (by kernel_rfl) (K4 os))) ?_
  intro W base args ds gs before hval hW _ _ _ hL _ _
  exact L5 H enc W base args ds gs before hval hW hL
end Go.Proofs.YtnbfnkckmfibpaaGreatDoor.fnMoveApplies
namespace Go.Proofs.YtnbfnkckmfibpaaGreatDoor.fnMoveApplies
open Go.Abs Go.ChangeShapes Go.WideShapes Go.ChangeAt Go.RowKit
theorem said : Rows.MoveAppliesSaid :=
  OpenClaim.holds_of_cond 3 Tryz.f3 rfl rfl rfl rfl rfl rfl rfl ⟨rfl, rfl, rfl, rfl, rfl⟩ rfl rfl rfl rfl rfl (by kernel_rfl) Tryz.func3 closed
    (of_decide_eq_true (by kernel_rfl)) (by unfold Func.isWrapper; first | (rw [if_pos (by decide +kernel)]; kernel_rfl) | (rw [if_neg (by decide +kernel)]; exact ⟨rfl, rfl⟩))
    (fun os started H enc _ F => by rw [OpenClaim.pre_eq_preRow]; exact lifted os started H enc F)

theorem plain (f : FuncId) (fn : Func) (hf : Tryz.pinned.checked.prog.funcNamed Rows.moveAppliesRow.func = some f) (hfn : Tryz.pinned.checked.prog.funcs[f]? = some fn) :
    false = Tryz.pinned.checked.prog.looks [] ∧ ∀ (j : Nat) t, fn.params[j]? = some t → Tryz.pinned.checked.prog.wantsStandIn t = false := by
  obtain rfl : f = 3 := Option.some.inj ((show Tryz.prog.funcNamed Rows.moveAppliesRow.func = some 3 by kernel_rfl).symm.trans hf) |>.symm
  obtain rfl : fn = Tryz.f3 := (Option.some.inj (Tryz.func3.symm.trans hfn)).symm
  refine ⟨by kernel_rfl, ?_⟩
  · intro j t ht
    rw [Tryz.params3] at ht
    have e : t = 24 ∨ t = 27 := by simpa using Array.mem_of_getElem? ht
    have k0 : Tryz.prog.wantsStandIn 24 = false := by kernel_rfl
    have k1 : Tryz.prog.wantsStandIn 27 = false := by kernel_rfl
    rcases e with e | e
    · exact e ▸ k0
    · exact e ▸ k1

theorem Qf : Rows.moveAppliesRow.wfByText (OpenSpec.ofChange Rows.moveAppliesSpec) = true := by kernel_rfl
theorem mainIs : Tryz.pinned.checked.prog.mainIs = some ((true, "944df05ab445af8146bc262751a55a31548dff2abb0ba101734c1297b8faf4b7").1, (true, "944df05ab445af8146bc262751a55a31548dff2abb0ba101734c1297b8faf4b7").2.toList) := by kernel_rfl
theorem card : Rows.MoveAppliesCardSaid :=
  Claim7.holds_tied_plain_at .later [] _ _ _ _ said (fun _ h => by cases h) Qf (fun _ h => by cases h) moveApplies_row_tie rfl ⟨rfl, rfl⟩ mainIs rfl plain goes
end Go.Proofs.YtnbfnkckmfibpaaGreatDoor.fnMoveApplies
