/-
  EaseClassed: for every code, every limit and every index the call returns true and the arguments read as they did. It holds for every input that the row speaks of; the tables that the row lists hold what the text lays.
-/
import Derived.Test.YtanhekelecofdaaGreatDoorIc
import Derived.Test.YtanhekelecofdaaGreatDoorTie
import Derived.Deep.DeepHandedRow
import Derived.Deep.DeepLaidRun
import Derived.Stop.LaidErr
import Derived.Test.YtanhekelecofdaaGreatDoorSb
import Derived.Test.YtanhekelecofdaaGreatDoorTa
import Derived.Test.YtanhekelecofdaaGreatDoorFa
import Derived.Test.YtanhekelecofdaaGreatDoorGa
set_option linter.all false
set_option maxRecDepth 100000
set_option maxHeartbeats 16000000
namespace Go.Abs
abbrev clR(F:Nat)(l:x_)(wh:Bool):RV:=.tup [.one (bh yW 2 (pL F l)),.one (.p (.bool wh)),.one (.p (.int .i64 0))]
theorem afp{F:Nat}{l:x_}{wh:Bool}{aj:aE}{s:Nat}(h:l≠[])(fM:S.lone s=true):land aj [] s ((clR F l wh).iu (S.lone s))=some (.tup [.one (.p (.sl (pL F l))),.one (.p (.bool wh)),.one (.p (.int .i64 0))],[]):=by
 have aK:pL F l≠[]:=by simpa [pL] using h
 rw[fM];unfold clR;rw[ady aK];rfl
theorem akG(F:Nat)(l:x_):aw 2 (pL F l)=true:=by unfold aw pL;rw[gj];intro e he;obtain⟨L,_,rfl⟩:=cV.1 he;rfl
theorem akH(F:Nat)(l:x_)(k:Nat):(pL F l).take k=pL F (l.take k):=Gk.symm
theorem akU{f:Int}{A:ai}(ck:cX f A=0):∃F:Nat,f=(F:Int):=by
 by_cases aK:A=[]
 .subst aK;unfold cX at ck;rw[aC ae] at ck;by_cases hf:f<0\/40<f
  .rw[aG hf] at ck;cases ck
  exact vV (show 0<=f by omega)
 obtain⟨F,e,_⟩:=pM ck aK;exact⟨F,e⟩
theorem aeb(F:Nat)(l:x_)(A:ai)(hl:l.length<=1000000)(hL:∀L∈l,L.length<=1000000)(hA:A.length<=1000000):aO S 9 [.one (.p (.sl (pL F l))),fe F A] (rb (decide (A∈l))):=by
 have cK:(pL F l).length=l.length:=cU ..;refine bY c9 ?_;simp only[go_sem,i9];refine dG (fun k ak aj=>ak 0=.one (.p (.sl (pL F l)))/\ak 3=.one (.bt 576000000 1 0)/\ak 5=vi k/\aj 576000000=(1,some (.var (sT F A)))/\A∉l.take k) 0 l.length (cA _) ?_ ?_
 .simp only[go_sem];first|done|rfl|exact⟨rfl,af⟩|simp
 rintro k ak aj hk ⟨h0,h3,h5,b0,ht⟩
 by_cases aB:k<l.length
 .have aP:((k:Int)<(l.length:Int)):=aa;have w1:=df (n:=k) aa;obtain⟨x,hx⟩:=aN aB;have oQ:=Qh (F:=F) hx;have pe:=ame (F:Int) x A (hL x (aZ hx)) hA;by_cases he:x=A
  .rw[xH he] at pe;have hm:decide (A∈l)=true:=xH (he▸aZ hx);rw[hm];simp only[go_sem,i9_l1,h0,h3,h5,b0,cK,aP,oQ,s25,dA pe];first|done|exact aL|exact⟨aL,rfl⟩|rfl|trace_state
  rw[xG he] at pe;have r9:A∉l.take (k+1):=by
   rw[nC,hx,eX];rintro (h|h)
   .exact ht h
   simp at h;exact he h.symm
  simp only[go_sem,i9_l1,h0,h3,h5,b0,cK,aB,aP,oQ,w1,s25,dA pe];first|done|exact r9|exact⟨aL,r9⟩|exact⟨aB,r9⟩|exact⟨aL,aB,r9⟩|trace_state
 have:k=l.length:=aa;subst this;have hm:decide (A∈l)=false:=xG (by rw[gT (cD _)] at ht;exact ht);rw[hm];simp only[go_sem,i9_l1,i9_r2,h0,h5,cK,fh];first|done|rfl
theorem akZ(hk:aO S 5 [] (rb true)){f n x:Int}{A:ai}(h:¬((A.length:Int)<=30/\cX f A=0/\1<=n/\n<=20)):aO S 3 [fe f A,vi n,vi x] (rb true):=by
 have ps:=ahQ (f:=f) (ls:=A) (n:=30) ae;refine bY c3 ?_;cases hs:(decide ((A.length:Int)<=30)&&(cX f A==0)) with
 |false=>rw[hs] at ps;simp only[go_sem,i3,s4,aJ ps,s5,aJ hk];first|done|rfl
 |true=>
  rw[hs] at ps;rw[cJ,l9,dh] at hs;by_cases y3:n<1
  .simp only[go_sem,i3,s4,aJ ps,y3,s5,aJ hk];first|done|rfl
  have y4:(20:Int)<n:=by
   by_cases h4:n<=20
   .exact absurd ⟨hs.1,hs.2,aa,h4⟩ h
   omega
  simp only[go_sem,i3,s4,aJ ps,y3,y4,s5,aJ hk];first|done|rfl
theorem ak0(hk:aO S 5 [] (rb true)){F n:Nat}{x:Int}{A:ai}{l:x_}{wh:Bool}(hA:A.length<=30)(h1:1<=n)(h2:n<=20)(psm:aO S 4 [fe F A,vi 30] (rb true))(pc:aO S 6 [fe F A,vi n] (clR F l wh))(aK:l≠[])(hle:l.length<=n)(hL:∀L∈l,L.length<=400/\aq Let.aF L=aq Let.aF A/\aq Let.aD L=aq Let.aD A)(gH:l.Nodup)
  (hw:wh=true->∀L∈l,∃m,aO S 6 [fe F L,vi n] (clR F m true)/\m≠[]/\m.length=l.length/\ ∀a∈m,a∈l):aO S 3 [fe F A,vi n,vi x] (rb true):=by
 have z3:¬((n:Int)<1):=aa;have z4:¬((20:Int)<(n:Int)):=aa;have hlen:1<=l.length:=jQ.2 aK;have z5:¬((l.length:Int)<1):=aa;have z6:¬((n:Int)<(l.length:Int)):=aa;have Jz:((0:Int)!=0)=false:=ae;have cK:(pL F l).length=l.length:=cU ..;have qk:S.lone 192192128=true:=ah;have w8:S.lone 192832320=true:=ah;have ppA:=O8 (F:Int) A aa;have pcA:=Qo (F:Int) A aa;refine bY c3 ?_;simp only[go_sem,i3,s4,aJ psm,z3,z4,z5,z6,s6,aY pc (afp aK qk),cK,Jz];refine dG (fun k ak aj=>ak 1=vi n/\ak 2=vi x/\ak 3=.one (.bt 192000000 1 0)/\ak 7=.one (.p (.sl (pL F l)))/\ak 8=vb wh/\ak 10=vi k/\aj 192000000=(1,some (.var (sT F A)))) 0 l.length (cA _) ?_ ?_
 .simp only[go_sem];first|done|rfl|trace_state
 rintro k ak aj eT ⟨g1,g2,g3,g7,g8,g10,b0⟩
 by_cases aB:k<l.length
 .have aP:((k:Int)<(l.length:Int)):=aa;have ad2:k<=l.length:=aa;have w1:=df (n:=k) aa;obtain⟨L,hx⟩:=aN aB;have oQ:=Qh (F:=F) hx;obtain⟨q1,q2,q3⟩:=hL L (aZ hx);have pp:=O8 (F:Int) L aa;have pq:=Qo (F:Int) L aa;rw[q2] at pp;rw[q3] at pq;have ph:=aeb F (l.take k) L (by rw[iH];omega) (fun M hM=>by have:=(hL M (xD hM)).1;omega) aa;have aoo:decide (L∈l.take k)=false:=xG fun hm=>by
   obtain⟨j,hj⟩:=ia hm;rw[l8] at hj;split at hj
   .rename_i hjk;obtain⟨a1,a2⟩:=aW.1 hj;obtain⟨c1,c2⟩:=aW.1 hx;have:=(List.getElem_inj gH).1 (a2.trans c2.symm);omega
   cases hj
  rw[aoo] at ph;have sz:=akG F l;have tk:=akH F l k;simp only[go_sem,i3_l1,g1,g2,g3,g7,g8,g10,b0,cK,aB,aP,ad2,oQ,w1,s7,s8,s9,dI pp,dI ppA,dI pq,dI pcA,sz,tk,dA ph];first|done|exact aL|exact⟨aL,rfl⟩|trace_state
 have hkn:k=l.length:=aa;subst hkn;simp only[go_sem,i3_l1,i3_r4,g2,g7,g10,cK,fh];by_cases y1:x<0
 .simp only[go_sem,y1,s5,aJ hk];first|done|rfl|trace_state
 obtain⟨i,rfl⟩:=vV (show 0<=x by omega);by_cases hi:i<l.length
 .have y2:¬((l.length:Int)<=(i:Int)):=aa;cases wh with
  |false=>simp only[go_sem,y1,y2,g2,g7,g8,cK,s5,aJ hk];first|done|rfl|trace_state
  |true=>
   obtain⟨L,hx⟩:=aN hi;have oQ:=Qh (F:=F) hx;obtain⟨m,pm,m1,m2,m3⟩:=hw rfl L (aZ hx);have tZ:(pL F m).length=m.length:=cU ..;rw[m2] at tZ;simp only[go_sem,y1,y2,g1,g2,g7,g8,oQ,cK,tZ,s6,aY pm (afp m1 w8),Jz,i3_r3];refine dG (fun k ak aj=>ak 7=.one (.p (.sl (pL F l)))/\ak 11=.one (.p (.sl (pL F m)))/\ak 14=vi k) 0 l.length (cA _) ?_ ?_
   .simp only[go_sem,g7];first|done|rfl|trace_state
   clear g1 g2 g3 g7 g8 g10 b0 hx oQ;rintro k ak aj eT ⟨g7,g11,g14⟩
   by_cases aB:k<l.length
   .have aP:((k:Int)<(l.length:Int)):=aa;have w1:=df (n:=k) aa;obtain⟨M,hx⟩:=aN (ls:=m) (k:=k) aa;have oQ:=Qh (F:=F) hx;have mj:=m3 M (aZ hx);have ph:=aeb F l M aa (fun M hM=>by have:=(hL M hM).1;omega) (by have:=(hL M mj).1;omega);rw[xH mj] at ph;simp only[go_sem,i3_l2,g7,g11,g14,tZ,aB,aP,oQ,w1,s9,aJ ph];first|done|exact aB|exact⟨aB,rfl⟩|trace_state
   have hkn:k=l.length:=aa;subst hkn;simp only[go_sem,i3_l2,g11,g14,tZ,fh,s5,aJ hk];first|done|rfl|trace_state
 have y2:((l.length:Int)<=(i:Int)):=aa;simp only[go_sem,y1,y2,g2,g7,cK,s5,aJ hk];first|done|rfl|trace_state
theorem apA(cK:sP)(hk:aO S 5 [] (rb true))(f:Int)(A:ai)(n x:Int):aO S 3 [fe f A,vi n,vi x] (rb true):=by
 by_cases h:(A.length:Int)<=30/\cX f A=0/\1<=n/\n<=20
 .obtain⟨hA,ck,h1,h2⟩:=h;obtain⟨n,rfl⟩:=vV (show 0<=n by omega);obtain⟨F,rfl⟩:=akU ck;have l1:1<=n:=aa;have l2:n<=20000:=aa;have psm:=ahQ (f:=(F:Int)) (ls:=A) (n:=30) ae;rw[xH hA,ck] at psm;have hN:=yC ck;obtain⟨aK,dV⟩:=Mz cK l1 l2 hN;have hlen:=Qj (sb:=false) (F:=F) (L0:=dd A) l1;refine ak0 hk (l:=(gK false F n (dd A)).2.map bj.n) (wh:=(gK false F n (dd A)).1==0) aa l1 aa psm (abn cK l1 l2 ck) (by simpa using aK) (by rw[cU];exact hlen) (fun L hL=>?_) abt fun hw L hL=>?_
  .obtain⟨y,hy,rfl⟩:=cV.1 hL;have gy:=dV y hy;exact⟨My (by rw[gy.sB];exact yC gy.chk),ak8 cK l1 l2 ck hy⟩
  obtain⟨y,hy,rfl⟩:=cV.1 hL;have gy:=dV y hy;have hv:cX (F:Int) y.n=0:=by rw[gy.sB];exact yC gy.chk
  have hi:dd y.n=y.n:=by rw[gy.sB];exact agn gy.chk
  obtain⟨w1,w2,w3⟩:=akY cK l1 l2 hN (dh.1 hw) hy;have pc:=abn cK l1 l2 hv;rw[hi] at pc;obtain⟨XZ,_⟩:=Mz cK l1 l2 hv;refine⟨(gK false F n y.n).2.map bj.n,?_,by simpa using XZ,Nat.le_antisymm (ZN _ _ w2 fun a ha=>(w3 a).1 ha) (ZN _ _ abt fun a ha=>(w3 a).2 ha),fun a ha=>(w3 a).1 ha⟩;have e:((gK false F n y.n).1==0)=true:=by rw[w1];rfl
  rw[<- e];exact pc
 exact akZ hk h
end Go.Abs
namespace Go.Proofs.YtanhekelecofdaaGreatDoor.fnEaseClassed
open Go.Abs Go.ChangeShapes Go.WideShapes Go.ChangeAt Go.RowKit
theorem adF {P : Program} {N n : Nat} {t : TypeId} {fs : Array Field} {p : b_} (hu : P.underlying t = some (.struct fs)) (h : kn P N (n + 1) t p) :
    ∃parts : s_, p = parts.flatten ∧ parts.length = fs.toList.length ∧ ∀(i : Nat) (f : Field) (x : b_), fs.toList[i]?= some f → parts[i]?= some x → kn P N n f.type x := by
  simp only [kn, hu] at h;exact h
theorem ap0 {es : s_} (h :∀x ∈ es, ∃l : Let, x = l.ps) :∃ls : ai, es = ls.map Let.ps := by
  induction es with
  | nil => exact ⟨[], rfl⟩
  | cons e es ih =>obtain ⟨l, rfl⟩ := h e (by simp);obtain ⟨ls, rfl⟩ := ih fun x hx => h x (by simp [hx]);exact ⟨l :: ls, rfl⟩
theorem apZ {N n : Nat} {p : b_} (h : kn S.P N (n + 1 + 1) 37 p) :∃l : Let, p = l.ps := by
  obtain ⟨parts, rfl, hl, hp⟩ := adF Tryz.underlying37 h;rcases parts with _ | ⟨p0, _ | ⟨p1, _ | ⟨p2, _ | ⟨p3, _ | ⟨p4, _ | ⟨p5, _ | ⟨p6, r⟩⟩⟩⟩⟩⟩⟩ <;> first
    | (simp at hl; done)
    | skip
  obtain ⟨k, rfl, _⟩ := Fy Tryz.underlying35 (hp 0 _ _ rfl rfl);obtain ⟨g, rfl, _⟩ := Fy Tryz.underlying3 (hp 1 _ _ rfl rfl);obtain ⟨r, rfl, _⟩ := Fy Tryz.underlying3 (hp 2 _ _ rfl rfl);obtain ⟨i, rfl, _⟩ := Fy Tryz.underlying3 (hp 3 _ _ rfl rfl);obtain ⟨s, rfl, _⟩ := Fy Tryz.underlying3 (hp 4 _ _ rfl rfl);obtain ⟨o, rfl⟩ := anI Tryz.underlying4 (hp 5 _ _ rfl rfl);exact ⟨⟨k, g, r, i, s, o⟩, rfl⟩
theorem alc {N n : Nat} {p : b_} (h : kn S.P N (n + 1 + 1 + 1 + 1) 24 p) :∃(k : Int) (ls : ai), p = [.int .i64 k,.sl (ls.map Let.ps)] := by
  obtain ⟨parts, rfl, hl, hp⟩ := adF Tryz.underlying24 h;rcases parts with _ | ⟨p0, _ | ⟨p1, _ | ⟨p2, r⟩⟩⟩ <;> first
    | (simp at hl; done)
    | skip
  obtain ⟨k, rfl, _⟩ := Fy Tryz.underlying3 (hp 0 _ _ rfl rfl);obtain ⟨es, rfl, _, he⟩ := anJ Tryz.underlying22 (hp 1 _ _ rfl rfl);obtain ⟨ls, rfl⟩ := ap0 fun x hx => apZ (he x hx);exact ⟨k, ls, rfl⟩
theorem law_any (pvss : s_) (h : PN S.P maxLen 4 Tryz.f3.params.toList pvss) : aO S 3 (CZ S.P Tryz.f3.params.toList pvss) (.one (.p (.bool true))) := by
  have hp : Tryz.f3.params.toList = [24, 3, 3] := by rw [Tryz.params3]
  rw [hp] at h |-;rcases pvss with _ | ⟨a0, _ | ⟨a1, _ | ⟨a2, _ | ⟨a3, z3⟩⟩⟩⟩
  · exact h.elim
  · exact h.2.elim
  · exact h.2.2.elim
  · obtain ⟨f0, ls0, rfl⟩ := alc (n := 0) h.1
    obtain ⟨x1, rfl, _⟩ := Fy (n := 3) Tryz.underlying3 h.2.1;obtain ⟨x2, rfl, _⟩ := Fy (n := 3) Tryz.underlying3 h.2.2.1;have e3 :∀(f : Int) (a : ai), CY S.P 24 [.int .i64 f,.sl (a.map Let.ps)] = fe f a := fun f a => ajI (P := S.P) Tryz.underlying24;have e1 :∀x : Int, CY S.P 3 [.int .i64 x] = vi x := fun x => ajH (P := S.P) Tryz.underlying3 (fun fs h => by cases h);simp only [CZ, e3, e1];exact apA ak1 apn f0 ls0 x1 x2
  · exact h.2.2.2.elim
theorem gTab : Tryz.prog.globalNamed Vr = some 0 := by kernel_rfl
theorem ani : (Tryz.prog.globals[0]?).map (·.type) = some 207 := by kernel_rfl
theorem akK : Tryz.prog.cellsOf 207 = 20 := by kernel_rfl
theorem akL : Tryz.prog.cellsOf 176 = 1 := by kernel_rfl
/-- what the row's list gives: the table of the powers of ten -/
theorem table {W : World} (h : laidMetH Tryz.prog Rows.easeClassedRow.laid W) : G W := by
  have h1 : laidMet Tryz.prog Rows.easeClassedRow.laid W := h;have h2 := h1.tail.tail;have e : (Rows.laid_internal_strconv_uint64pow10 : DataW Unit) = Lib.tabData .u64 Lib.pow10Tab := by kernel_rfl
  rw [e] at h2;exact Lib.tabIs_of_head (rest := []) gTab ani Tryz.underlying207 Tryz.underlying176 akL akK h2
end Go.Proofs.YtanhekelecofdaaGreatDoor.fnEaseClassed
namespace Go.Proofs.YtanhekelecofdaaGreatDoor.fnEaseClassed
open Go.Abs Go.ChangeShapes Go.WideShapes Go.ChangeAt Go.RowKit
theorem own : ownKnob Tryz.prog.godebug = none := by kernel_rfl
theorem alj (H : Type) (enc : TypeId×Value → H) (W : World) (base : Nat) (args : Array Value) (ds gs : List (DataW H)) (before : List MemPlace)
    (hval :∀(j : Nat) t v, Tryz.f3.params[j]?= some t → args[j]?= some v → Value.okWide Tryz.prog W .any base t v)
    (hW : DataW.Whole enc Tryz.prog Tryz.f3.params.toList Rows.easeClassedSpec.vars false W args.toList ds gs before) (hL : laidMetH Tryz.prog Rows.easeClassedRow.laid W) :
    Calls Tryz.prog 3 args W fun e W' =>∃v, e =.returned v ∧ Rows.easeClassedSpec.post enc Tryz.prog Tryz.f3 false true false false W args v W' := by
  have hk :∀t ∈ Tryz.f3.params.toList, j5 S.P 4 t = true := by
    rw [Tryz.params3];intro t ht;have e : t = 24 ∨ t = 3 := by simpa using ht
    have k0 : j5 S.P 4 24 = true := by kernel_rfl
    have k1 : j5 S.P 4 3 = true := by kernel_rfl
    rcases e with e | e
    · exact e ▸ k0
    · exact e ▸ k1
  have hfit :∀d ∈ ds, Fits maxLen d := by obtain ⟨p, q, hA, _⟩ := hW;exact (ait hk hA).1
  exact apB S_ok (fun w h => ans h) (fn := Tryz.f3) (s := Rows.easeClassedSpec) rfl
    (fun H ds hd => by
      rw [Tryz.params3] at hd
      match ds, hd with
      | [d0, d1, d2], _ => rfl) (tb := 4) (by kernel_rfl) Tryz.underlying4 hk law_any hval hW (table hL) hfit

noncomputable def akJ (d : DataW Unit) : Array Value :=
  match d with
  | .agg l => (l.map fun
    | .lit (.int k z) => Value.int k z
    | _ => undef).toArray
  | _ => #[]
noncomputable def YD (d : DataW Unit) : Obj → Obj
  | .cells _ t frozen =>.cells (akJ d) t frozen
  | o => o
noncomputable def YB (os : Os) : World :={ World.holding Tryz.prog os ⟨#[], #[], []⟩ with heap := (((World.holding Tryz.prog os ⟨#[], #[], []⟩).heap.modify 1 (YD Rows.laid_math_bits_deBruijn32tab)).modify 2 (YD Rows.laid_math_bits_deBruijn64tab)).modify 0 (YD Rows.laid_internal_strconv_uint64pow10) }
theorem apv (os : Os) : laidMet Tryz.prog Rows.easeClassedRow.laid ((YB os).forCall (fun _ _ => 0) ⟨#[], #[Value.agg #[.int .i64 0,.slice none 0 0],.int .i64 0,.int .i64 0], []⟩).memory :=laidMet_of_run' 8 (by kernel_rfl) (by kernel_rfl)
theorem reads (os : Os) {H : Type} (enc : TypeId×Value → H) :∃places, DataW.whole enc Tryz.prog ((YB os).forCall (fun _ _ => 0) ⟨#[], #[Value.agg #[.int .i64 0,.slice none 0 0],.int .i64 0,.int .i64 0], []⟩).memory Tryz.f3.params.toList Rows.easeClassedSpec.vars false #[Value.agg #[.int .i64 0,.slice none 0 0],.int .i64 0,.int .i64 0].toList 8 = some ([.agg [.lit (.int .i64 0),.nil],.lit (.int .i64 0),.lit (.int .i64 0)], [], places) :=
  ⟨[], by kernel_rfl⟩

theorem lifted (os : Os) (started : os.Started) (H : Type) (enc : TypeId×Value → H) (F : Stop.Interp) :
    ReturnsInHanded {} Tryz.checked os 3 .any ((OpenSpec.ofChange Rows.easeClassedSpec).preRow enc Tryz.prog Tryz.f3 Rows.easeClassedRow.domain false Rows.easeClassedRow.laid) (((OpenSpec.ofChange Rows.easeClassedSpec).at F).post enc Tryz.prog Tryz.f3 false true false false) := by
  obtain ⟨places, hx⟩ := reads os enc;refine returnsInHanded_of_row (C := Tryz.checked) (s := (OpenSpec.ofChange Rows.easeClassedSpec)) own started (by kernel_rfl) Tryz.func3
    (witness_row_at (enc := enc) (C := Tryz.checked) false (YB os) #[Value.agg #[.int .i64 0,.slice none 0 0],.int .i64 0,.int .i64 0] rfl (by kernel_rfl) (by kernel_rfl) (by kernel_rfl)
      (OpenSpec.preRow_of_cond 8 hx (by kernel_rfl) (fun k hk => by cases hk) (by kernel_rfl) (apv os))) ?_
  intro W base args ds gs before hval hW _ _ _ hL _ _;exact alj H enc W base args ds gs before hval hW hL
end Go.Proofs.YtanhekelecofdaaGreatDoor.fnEaseClassed
namespace Go.Proofs.YtanhekelecofdaaGreatDoor.fnEaseClassed
open Go.Abs Go.ChangeShapes Go.WideShapes Go.ChangeAt Go.RowKit
theorem said : Rows.EaseClassedSaid :=
  OpenClaim.holds_of_cond 3 Tryz.f3 rfl rfl rfl rfl rfl rfl rfl ⟨rfl, rfl, rfl, rfl, rfl⟩ rfl rfl rfl rfl rfl (by kernel_rfl) Tryz.func3 closed
    (of_decide_eq_true (by kernel_rfl)) (by unfold Func.isWrapper; first | (rw [if_pos (by decide +kernel)]; kernel_rfl) | (rw [if_neg (by decide +kernel)]; exact ⟨rfl, rfl⟩))
    (fun os started H enc _ F => by rw [OpenClaim.pre_eq_preRow]; exact lifted os started H enc F)

theorem plain (f : FuncId) (fn : Func) (hf : Tryz.pinned.checked.prog.funcNamed Rows.easeClassedRow.func = some f) (hfn : Tryz.pinned.checked.prog.funcs[f]?= some fn) :
    false = Tryz.pinned.checked.prog.looks [] ∧ ∀(j : Nat) t, fn.params[j]?= some t → Tryz.pinned.checked.prog.wantsStandIn t = false := by
  obtain rfl : f = 3 := Option.some.inj ((show Tryz.prog.funcNamed Rows.easeClassedRow.func = some 3 by kernel_rfl).symm.trans hf) |>.symm
  obtain rfl : fn = Tryz.f3 := (Option.some.inj (Tryz.func3.symm.trans hfn)).symm;refine ⟨by kernel_rfl, ?_⟩
  · intro j t ht
    rw [Tryz.params3] at ht;have e : t = 24 ∨ t = 3 := by simpa using Array.mem_of_getElem? ht
    have k0 : Tryz.prog.wantsStandIn 24 = false := by kernel_rfl
    have k1 : Tryz.prog.wantsStandIn 3 = false := by kernel_rfl
    rcases e with e | e
    · exact e ▸ k0
    · exact e ▸ k1

theorem avz : Rows.easeClassedRow.wfByText (OpenSpec.ofChange Rows.easeClassedSpec) = true := by kernel_rfl
theorem mainIs : Tryz.pinned.checked.prog.mainIs = some ((true, "1a0ec1e1136dee18291701235f302be86d0be2a6a310b0209c511e9b2464333c").1, (true, "1a0ec1e1136dee18291701235f302be86d0be2a6a310b0209c511e9b2464333c").2.toList) := by kernel_rfl
theorem card : Rows.EaseClassedCardSaid :=Claim7.holds_tied_plain_at .later [] _ _ _ _ said (fun _ h => by cases h) avz (fun _ h => by cases h) easeClassed_row_tie rfl ⟨rfl, rfl⟩ mainIs rfl plain goes
end Go.Proofs.YtanhekelecofdaaGreatDoor.fnEaseClassed
