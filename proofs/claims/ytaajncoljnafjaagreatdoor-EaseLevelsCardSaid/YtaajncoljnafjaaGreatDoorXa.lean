/-
  EaseLevels: for every code, every limit and every index the call returns true and the arguments read as they did. It holds for every input that the row speaks of; the tables that the row lists hold what the text lays.
-/
import Derived.Test.YtaajncoljnafjaaGreatDoorIb
import Derived.Test.YtaajncoljnafjaaGreatDoorTie
import Derived.Deep.DeepHandedRow
import Derived.Deep.DeepLaidRun
import Derived.Stop.LaidErr
import Derived.Test.YtaajncoljnafjaaGreatDoorSb
import Derived.Test.YtaajncoljnafjaaGreatDoorTa
import Derived.Test.YtaajncoljnafjaaGreatDoorFa
import Derived.Test.YtaajncoljnafjaaGreatDoorGa
set_option linter.all false
set_option maxRecDepth 100000
set_option maxHeartbeats 16000000
namespace Go.Abs
abbrev clR(F:Nat)(l:x_)(wh:Bool):RV:=.tup [.one (aW wN 2 (sN F l)),.one (.p (.bool wh)),.one (.p (.int .i64 0))]
theorem arB{F:Nat}{l:x_}{wh:Bool}{aj:aC}{s:Nat}(h:l≠[])(eL:S.lone s=true):land aj [] s ((clR F l wh).gj (S.lone s))=some (.tup [.one (.p (.sl (sN F l))),.one (.p (.bool wh)),.one (.p (.int .i64 0))],[]):=by
 have aH:sN F l≠[]:=by simpa [sN]using h
 rw[eL];unfold clR;rw[Xs aH];rfl
theorem amQ{f:Int}{A:ai}(ck:cG f A=0):∃F:Nat,f=(F:Int):=by
 by_cases aH:A=[]
 .subst aH;unfold cG at ck;rw[au ae]at ck;by_cases hf:f<0\/40<f
  .rw[aD hf]at ck;cases ck
  exact tJ (show 0<=f by omega)
 obtain⟨F,e,_⟩:=qG ck aH;exact⟨F,e⟩
theorem arF{aj:aC}{s:Nat}{rd:a_}{b:Bool}:land aj rd s ((RV.tup [.one (aW fD 7 (mP [])),.one (.p (.int .i64 0))]).gj b)=some (.tup [.one (.p .nils),.one (.p (.int .i64 0))],[]):=by cases b<;>(unfold land;rw[aD (.inr rfl)];rfl)
theorem arG{aj:aC}{s s0 g ty z:Nat}{es:s_}{ms:g_}(hb:aj s0=(g,some (.arr ty z es)))(aH:ms≠[])(eL:S.lone s=true):land aj [s0] s ((RV.tup [.one (aW fD 7 (mP ms)),.one (.p (.int .i64 0))]).gj (S.lone s))=some (.tup [.one (.p (.sl (mP ms))),.one (.p (.int .i64 0))],[(s0,(g,some (.pL ty z es)))]):=by
 have XY:mP ms≠[]:=by simpa [mP]using aH
 rw[eL,Xs XY];unfold land;rw[au (by intro h;rcases h with h|h<;>cases h)];simp[sW,uN,xY,hb,RV.gj,RV.pure,RV.Gm,RC.pure,jO,iu,ng,iJ,jt,dw,rQ,sH,mS]
theorem agM{F:Nat}{X:ai}{p:g_}{wh:Bool}(s:Nat)(eL:S.lone s=true):∃y:PV,∀aj:aC,land aj [] s ((xv F (X,p,wh)).gj (S.lone s))=some (.tup [.agg [.p (.int .i64 F),.p (dd X),.p y,.p (.bool wh)],.one (.p (.int .i64 0))],[]):=by
 rw[eL];by_cases h:mP p=[]
 .refine⟨.nils,fun aj=>?_⟩;show land aj [] s (RV.pure (xv F (X,p,wh)))=_;unfold xv aW;rw[aD h];rfl
 refine⟨.sl (mP p),fun aj=>?_⟩;show land aj [] s (RV.pure (xv F (X,p,wh)))=_;unfold xv aW;rw[au h];rfl
theorem asb(hk:aK S 5 [] (rb true)){f n x:Int}{A:ai}(h:¬((A.length:Int)<=30/\cG f A=0/\1<=n/\n<=20)):aK S 3 [ez f A,vi n,vi x] (rb true):=by
 have ps:=aji (f:=f) (ls:=A) (n:=30) ae;refine bt c3 ?_;cases hs:(decide ((A.length:Int)<=30)&&(cG f A==0))with
 |false=>rw[hs]at ps;simp only[go_sem,i3,s4,eD ps,s5,eD hk];first|done|rfl
 |true=>
  rw[hs]at ps;rw[cH,mf,cZ]at hs;by_cases y3:n<1
  .simp only[go_sem,i3,s4,eD ps,y3,s5,eD hk];first|done|rfl
  have y4:(20:Int)<n:=by
   by_cases h4:n<=20
   .exact absurd ⟨hs.1,hs.2,aa,h4⟩ h
   omega
  simp only[go_sem,i3,s4,eD ps,y3,y4,s5,eD hk];first|done|rfl
theorem asc(hk:aK S 5 [] (rb true)){F n:Nat}{x:Int}{A:ai}{l:x_}{wh:Bool}(hA:A.length<=30)(h1:1<=n)(h2:n<=20)(psm:aK S 4 [ez F A,vi 30] (rb true))(pc:aK S 6 [ez F A,vi n] (clR F l wh))(aH:l≠[])(hle:l.length<=n)(hL:∀L∈l,L.length<=400)
  (hs:∀L∈l,∃ms,aK S 7 [ez F L,.one (.p (.sl (iP sE)))] (.tup [.one (aW fD 7 (mP ms)),.one (.p (.int .i64 0))]))
  (hm:wh=true->(∀L∈l,aK S 7 [ez F L,.one (.p (.sl (iP sE)))] (.tup [.one (aW fD 7 (mP [])),.one (.p (.int .i64 0))]))->∀L∈l,∃X p q,∃b:Nat,aK S 8 [ez F A,vi n] (xv F (X,p,true))/\aK S 8 [ez F L,vi n] (xv F (X,q,true))/\nX F l l.length=(b:Int)/\l[b]?=some X):aK S 3 [ez F A,vi n,vi x] (rb true):=by
 have z3:¬((n:Int)<1):=aa;have z4:¬((20:Int)<(n:Int)):=aa;have hlen:1<=l.length:=jl.2 aH;have z5:¬((l.length:Int)<1):=aa;have DL:((0:Int)!=0)=false:=ae;have cS:(sN F l).length=l.length:=cE ..;have nW:S.lone 192192128=true:=ah;have xu:S.lone 192704320=true:=ah;have lo3:S.lone 193024128=true:=ah;have lo4:S.lone 193088320=true:=ah;refine bt c3 ?_;simp only[go_sem,i3,s4,eD psm,z3,z4,z5,s6,dr pc (arB aH nW),cS,DL];by_cases y1:x<0
 .simp only[go_sem,y1,s5,eD hk];first|done|rfl|trace_state
 obtain⟨i,rfl⟩:=tJ (show 0<=x by omega);by_cases hi:i<l.length
 .have y2:¬((l.length:Int)<=(i:Int)):=aa;cases wh with
  |false=>simp only[go_sem,y1,y2,s5,eD hk];first|done|rfl|trace_state
  |true=>
   simp only[go_sem,y1,y2];refine dD (fun k ak aj=>ak 1=vi n/\ak 2=vi i/\ak 3=.one (.aZ 192000000 1 0)/\ak 7=.one (.p (.sl (sN F l)))/\ak 10=vi k/\aj 192000000=(1,some (.var (tQ F A)))/\ ∀L∈l.take k,aK S 7 [ez F L,.one (.p (.sl (iP sE)))] (.tup [.one (aW fD 7 (mP [])),.one (.p (.int .i64 0))])) 0 l.length (bR _) ?_ ?_
   .simp only[go_sem];first|done|rfl|exact⟨rfl,af⟩|simp|trace_state
   rintro k ak aj eK ⟨g1,g2,g3,g7,g10,b0,dz⟩
   by_cases aA:k<l.length
   .have aM:((k:Int)<(l.length:Int)):=aa;have w1:=cU (n:=k) aa;obtain⟨L,hx⟩:=aL aA;have ug:=MJ (F:=F) hx;obtain⟨ms,ps⟩:=hs L (aV hx);have n00:¬((0:Int)<((0:Nat):Int)):=ae;by_cases uV:ms=[]
    .subst uV;have FN:∀M∈l.take (k+1),aK S 7 [ez F M,.one (.p (.sl (iP sE)))] (.tup [.one (aW fD 7 (mP [])),.one (.p (.int .i64 0))]):=by
      rw[oZ,hx];intro M hM;rcases eO.1 hM with h|h
      .exact dz M h
      simp at h;subst h;exact ps
     have ps:aK S 7 [.agg [.p (.int .i64 F),.p (dd L)],.one (.p (.sl [[.int .i64 1],[.int .i64 4],[.int .i64 6]]))] (.tup [.one (aW fD 7 (mP [])),.one (.p (.int .i64 0))]):=ps;simp only[go_sem,i3_l1,g1,g2,g3,g7,g10,b0,cS,aA,aM,ug,w1,s7,dr ps arF,DL,n00];first|done|exact FN|exact⟨aA,FN⟩|trace_state
    have j8:((0:Int)<(ms.length:Int)):=by have:=jl.2 uV;omega
    have ps:aK S 7 [.agg [.p (.int .i64 F),.p (dd L)],.one (.p (.sl [[.int .i64 1],[.int .i64 4],[.int .i64 6]]))] (.tup [.one (aW fD 7 (mP ms)),.one (.p (.int .i64 0))]):=ps;simp only[go_sem,i3_l1,g7,g10,cS,aM,ug,s7];refine(dr ps (arG (by first|exact Ak|(simp only[app,aP,if_true];rfl)) uV xu)).2 ?_;simp only[go_sem,DL,j8,s5,eD hk];first|done|rfl|trace_state
   have hkn:k=l.length:=aa;subst hkn;rw[gK (bY _)]at dz;obtain⟨L,hx⟩:=aL hi;have ug:=MJ (F:=F) hx;obtain⟨X,p,q,b,pm1,pm2,hb,hbX⟩:=hm rfl dz L (aV hx);have zy:=hL X (aV hbX);obtain⟨u1,ld1⟩:=agM (F:=F) (X:=X) (p:=p) (wh:=true) 193024128 lo3;obtain⟨u2,ld2⟩:=agM (F:=F) (X:=X) (p:=q) (wh:=true) 193088320 lo4;have pl:=agS F l aa (fun M hM=>by have:=hL M hM;omega);rw[hb]at pl;have hblt:b<l.length:=(aT.1 hbX).1;have apL:=MJ (F:=F) hbX;have pe:=aod (F:Int) X aa;simp only[go_sem,i3_l1,i3_r2,g1,g2,g3,g7,g10,b0,cS,eS,ug,s8,dr pm1 (ld1 _),dr pm2 (ld2 _),s9,mZ pe,s10,ir pl,apL,s5,mZ hk];first|done|exact aJ|exact⟨aJ,rfl⟩|trace_state
 have y2:((l.length:Int)<=(i:Int)):=aa;simp only[go_sem,y1,y2,s5,eD hk];first|done|rfl|trace_state
theorem arJ(cS:rm)(hk:aK S 5 [] (rb true))(f:Int)(A:ai)(n x:Int):aK S 3 [ez f A,vi n,vi x] (rb true):=by
 by_cases h:(A.length:Int)<=30/\cG f A=0/\1<=n/\n<=20
 .obtain⟨hA,ck,h1,h2⟩:=h;obtain⟨n,rfl⟩:=tJ (show 0<=n by omega);obtain⟨F,rfl⟩:=amQ ck;have l1:1<=n:=aa;have l2:n<=20000:=aa;have psm:=aji (f:=(F:Int)) (ls:=A) (n:=30) ae;rw[Dj hA,ck]at psm;have hN:=wg ck;obtain⟨aH,dz⟩:=MQ cS l1 l2 hN;have hlen:=MR (sb:=false) (F:=F) (L0:=bh A) l1;have hv:∀y∈(dU false F n (bh A)).2,cG (F:Int) y.n=0:=fun y hy=>by rw[(dz y hy).qk];exact wg (dz y hy).chk
  refine asc hk (l:=(dU false F n (bh A)).2.map aX.n) (wh:=(dU false F n (bh A)).1==0) aa l1 aa psm (amU cS l1 l2 ck) (by simpa using aH) (by rw[cE];exact hlen) (fun L hL=>?_) (fun L hL=>?_) fun hw hr L hL=>?_
  .obtain⟨y,hy,rfl⟩:=cJ.1 hL;exact G9 (hv y hy)
  .obtain⟨y,hy,rfl⟩:=cJ.1 hL;obtain⟨ms,_,ps⟩:=Qe (hv y hy) sE ae Pm;exact⟨ms,ps⟩
  have hw:(dU false F n (bh A)).1=0:=cZ.1 hw;have hr:∀y∈(dU false F n (bh A)).2,¬yI F y.n:=fun y hy=>(Y0 (hv y hy)).1 (hr y.n (cJ.2 ⟨y,hy,rfl⟩));obtain⟨y,hy,rfl⟩:=cJ.1 hL;exact asn cS l1 l2 ck hw hr hy
 exact asb hk h
end Go.Abs
namespace Go.Proofs.YtaajncoljnafjaaGreatDoor.fnEaseLevels
open Go.Abs Go.ChangeShapes Go.WideShapes Go.ChangeAt Go.RowKit
theorem ae1 {P : Program}{N n : Nat}{t : TypeId}{fs : Array Field}{p : b_} (hu : P.underlying t = some (.struct fs)) (h : kD P N (n + 1) t p) :
    ∃parts : s_, p = parts.flatten ∧ parts.length = fs.toList.length ∧ ∀(i : Nat) (f : Field) (x : b_), fs.toList[i]?= some f → parts[i]?= some x → kD P N n f.type x := by
  simp only [kD, hu]at h;exact h
theorem ar7 {es : s_} (h :∀x ∈ es, ∃l : Let, x = l.ps) :∃ls : ai, es = ls.map Let.ps := by
  induction es with
  | nil => exact⟨[], rfl⟩
  | cons e es ih =>obtain⟨l, rfl⟩ := h e (by simp);obtain⟨ls, rfl⟩ := ih fun x hx => h x (by simp [hx]);exact⟨l :: ls, rfl⟩
theorem ar6 {N n : Nat}{p : b_} (h : kD S.P N (n + 1 + 1) 45 p) :∃l : Let, p = l.ps := by
  obtain⟨parts, rfl, hl, hp⟩ := ae1 Tryz.underlying45 h;rcases parts with _ | ⟨p0, _ | ⟨p1, _ | ⟨p2, _ | ⟨p3, _ | ⟨p4, _ | ⟨p5, _ | ⟨p6, r⟩⟩⟩⟩⟩⟩⟩ <;> first
    | (simp at hl; done)
    | skip
  obtain⟨k, rfl, _⟩ := FP Tryz.underlying43 (hp 0 _ _ rfl rfl);obtain⟨g, rfl, _⟩ := FP Tryz.underlying3 (hp 1 _ _ rfl rfl);obtain⟨r, rfl, _⟩ := FP Tryz.underlying3 (hp 2 _ _ rfl rfl);obtain⟨i, rfl, _⟩ := FP Tryz.underlying3 (hp 3 _ _ rfl rfl);obtain⟨s, rfl, _⟩ := FP Tryz.underlying3 (hp 4 _ _ rfl rfl);obtain⟨o, rfl⟩ := apJ Tryz.underlying4 (hp 5 _ _ rfl rfl);exact⟨⟨k, g, r, i, s, o⟩, rfl⟩
theorem anf {N n : Nat}{p : b_} (h : kD S.P N (n + 1 + 1 + 1 + 1) 24 p) :∃(k : Int) (ls : ai), p = [.int .i64 k,.sl (ls.map Let.ps)] := by
  obtain⟨parts, rfl, hl, hp⟩ := ae1 Tryz.underlying24 h;rcases parts with _ | ⟨p0, _ | ⟨p1, _ | ⟨p2, r⟩⟩⟩ <;> first
    | (simp at hl; done)
    | skip
  obtain⟨k, rfl, _⟩ := FP Tryz.underlying3 (hp 0 _ _ rfl rfl);obtain⟨es, rfl, _, he⟩ := apK Tryz.underlying22 (hp 1 _ _ rfl rfl);obtain⟨ls, rfl⟩ := ar7 fun x hx => ar6 (he x hx);exact⟨k, ls, rfl⟩
theorem law_any (pvss : s_) (h : Qc S.P maxLen 4 Tryz.f3.params.toList pvss) : aK S 3 (Du S.P Tryz.f3.params.toList pvss) (.one (.p (.bool true))) := by
  have hp : Tryz.f3.params.toList = [24, 3, 3] := by rw [Tryz.params3]
  rw [hp]at h |-;rcases pvss with _ | ⟨a0, _ | ⟨a1, _ | ⟨a2, _ | ⟨a3, z3⟩⟩⟩⟩
  · exact h.elim
  · exact h.2.elim
  · exact h.2.2.elim
  · obtain⟨f0, ls0, rfl⟩ := anf (n := 0) h.1
    obtain⟨x1, rfl, _⟩ := FP (n := 3) Tryz.underlying3 h.2.1;obtain⟨x2, rfl, _⟩ := FP (n := 3) Tryz.underlying3 h.2.2.1;have e3 :∀(f : Int) (a : ai), Dt S.P 24 [.int .i64 f,.sl (a.map Let.ps)] = ez f a := fun f a => alE (P := S.P) Tryz.underlying24;have e1 :∀x : Int, Dt S.P 3 [.int .i64 x] = vi x := fun x => alD (P := S.P) Tryz.underlying3 (fun fs h => by cases h);simp only [Du, e3, e1];exact arJ amX ars f0 ls0 x1 x2
  · exact h.2.2.2.elim
theorem gTab : Tryz.prog.globalNamed Ty = some 0 := by kernel_rfl
theorem apj : (Tryz.prog.globals[0]?).map (·.type) = some 240 := by kernel_rfl
theorem amG : Tryz.prog.cellsOf 240 = 20 := by kernel_rfl
theorem amH : Tryz.prog.cellsOf 195 = 1 := by kernel_rfl
theorem table {W : World} (h : laidMetH Tryz.prog Rows.easeLevelsRow.laid W) : G W := by
  have h1 : laidMet Tryz.prog Rows.easeLevelsRow.laid W := h;have h2 := h1.tail.tail;have e : (Rows.laid_internal_strconv_uint64pow10 : DataW Unit) = Lib.tabData .u64 Lib.pow10Tab := by kernel_rfl
  rw [e]at h2;exact Lib.tabIs_of_head (rest := []) gTab apj Tryz.underlying240 Tryz.underlying195 amH amG h2
end Go.Proofs.YtaajncoljnafjaaGreatDoor.fnEaseLevels
namespace Go.Proofs.YtaajncoljnafjaaGreatDoor.fnEaseLevels
open Go.Abs Go.ChangeShapes Go.WideShapes Go.ChangeAt Go.RowKit
theorem own : ownKnob Tryz.prog.godebug = none := by kernel_rfl
theorem ann (H : Type) (enc : TypeId×Value → H) (W : World) (base : Nat) (args : Array Value) (ds gs : List (DataW H)) (before : List MemPlace)
    (hval :∀(j : Nat) t v, Tryz.f3.params[j]?= some t → args[j]?= some v → Value.okWide Tryz.prog W .any base t v)
    (hW : DataW.Whole enc Tryz.prog Tryz.f3.params.toList Rows.easeLevelsSpec.vars false W args.toList ds gs before) (hL : laidMetH Tryz.prog Rows.easeLevelsRow.laid W) :
    Calls Tryz.prog 3 args W fun e W' =>∃v, e =.returned v ∧ Rows.easeLevelsSpec.post enc Tryz.prog Tryz.f3 false true false false W args v W' := by
  have hk :∀t ∈ Tryz.f3.params.toList, kn S.P 4 t = true := by
    rw [Tryz.params3];intro t ht;have e : t = 24 ∨ t = 3 := by simpa using ht
    have k0 : kn S.P 4 24 = true := by kernel_rfl
    have k1 : kn S.P 4 3 = true := by kernel_rfl
    rcases e with e | e
    · exact e ▸ k0
    · exact e ▸ k1
  have hfit :∀d ∈ ds, Fits maxLen d := by obtain⟨p, q, hA, _⟩ := hW;exact(ajT hk hA).1
  exact arI S_ok (fun w h => apu h) (fn := Tryz.f3) (s := Rows.easeLevelsSpec) rfl
    (fun H ds hd => by
      rw [Tryz.params3]at hd
      match ds, hd with
      | [d0, d1, d2], _ => rfl) (tb := 4) (by kernel_rfl) Tryz.underlying4 hk law_any hval hW (table hL) hfit

noncomputable def amF (d : DataW Unit) : Array Value :=
  match d with
  | .agg l => (l.map fun
    | .lit (.int k z) => Value.int k z
    | _ => undef).toArray
  | _ => #[]
noncomputable def YD (d : DataW Unit) : Obj → Obj
  | .cells _ t frozen =>.cells (amF d) t frozen
  | o => o
noncomputable def Yz (os : Os) : World :={ World.holding Tryz.prog os ⟨#[], #[], []⟩with heap := (((World.holding Tryz.prog os ⟨#[], #[], []⟩).heap.modify 1 (YD Rows.laid_math_bits_deBruijn32tab)).modify 2 (YD Rows.laid_math_bits_deBruijn64tab)).modify 0 (YD Rows.laid_internal_strconv_uint64pow10) }
theorem arz (os : Os) : laidMet Tryz.prog Rows.easeLevelsRow.laid ((Yz os).forCall (fun _ _ => 0) ⟨#[], #[Value.agg #[.int .i64 0,.slice none 0 0],.int .i64 0,.int .i64 0], []⟩).memory :=laidMet_of_run' 8 (by kernel_rfl) (by kernel_rfl)
theorem reads (os : Os) {H : Type} (enc : TypeId×Value → H) :∃places, DataW.whole enc Tryz.prog ((Yz os).forCall (fun _ _ => 0) ⟨#[], #[Value.agg #[.int .i64 0,.slice none 0 0],.int .i64 0,.int .i64 0], []⟩).memory Tryz.f3.params.toList Rows.easeLevelsSpec.vars false #[Value.agg #[.int .i64 0,.slice none 0 0],.int .i64 0,.int .i64 0].toList 8 = some ([.agg [.lit (.int .i64 0),.nil],.lit (.int .i64 0),.lit (.int .i64 0)], [], places) :=
  ⟨[], by kernel_rfl⟩

theorem lifted (os : Os) (started : os.Started) (H : Type) (enc : TypeId×Value → H) (F : Stop.Interp) :
    ReturnsInHanded {} Tryz.checked os 3 .any ((OpenSpec.ofChange Rows.easeLevelsSpec).preRow enc Tryz.prog Tryz.f3 Rows.easeLevelsRow.domain false Rows.easeLevelsRow.laid) (((OpenSpec.ofChange Rows.easeLevelsSpec).at F).post enc Tryz.prog Tryz.f3 false true false false) := by
  obtain⟨places, hx⟩ := reads os enc;refine returnsInHanded_of_row (C := Tryz.checked) (s := (OpenSpec.ofChange Rows.easeLevelsSpec)) own started (by kernel_rfl) Tryz.func3
    (witness_row_at (enc := enc) (C := Tryz.checked) false (Yz os) #[Value.agg #[.int .i64 0,.slice none 0 0],.int .i64 0,.int .i64 0] rfl (by kernel_rfl) (by kernel_rfl) (by kernel_rfl)
      (OpenSpec.preRow_of_cond 8 hx (by kernel_rfl) (fun k hk => by cases hk) (by kernel_rfl) (arz os))) ?_
  intro W base args ds gs before hval hW _ _ _ hL _ _;exact ann H enc W base args ds gs before hval hW hL
end Go.Proofs.YtaajncoljnafjaaGreatDoor.fnEaseLevels
namespace Go.Proofs.YtaajncoljnafjaaGreatDoor.fnEaseLevels
open Go.Abs Go.ChangeShapes Go.WideShapes Go.ChangeAt Go.RowKit
theorem said : Rows.EaseLevelsSaid :=
  OpenClaim.holds_of_cond 3 Tryz.f3 rfl rfl rfl rfl rfl rfl rfl ⟨rfl, rfl, rfl, rfl, rfl⟩ rfl rfl rfl rfl rfl (by kernel_rfl) Tryz.func3 closed
    (of_decide_eq_true (by kernel_rfl)) (by unfold Func.isWrapper; first | (rw [if_pos (by decide +kernel)]; kernel_rfl) | (rw [if_neg (by decide +kernel)]; exact⟨rfl, rfl⟩))
    (fun os started H enc _ F => by rw [OpenClaim.pre_eq_preRow]; exact lifted os started H enc F)

theorem plain (f : FuncId) (fn : Func) (hf : Tryz.pinned.checked.prog.funcNamed Rows.easeLevelsRow.func = some f) (hfn : Tryz.pinned.checked.prog.funcs[f]?= some fn) :
    false = Tryz.pinned.checked.prog.looks [] ∧ ∀(j : Nat) t, fn.params[j]?= some t → Tryz.pinned.checked.prog.wantsStandIn t = false := by
  obtain rfl : f = 3 := Option.some.inj ((show Tryz.prog.funcNamed Rows.easeLevelsRow.func = some 3 by kernel_rfl).symm.trans hf) |>.symm
  obtain rfl : fn = Tryz.f3 := (Option.some.inj (Tryz.func3.symm.trans hfn)).symm;refine⟨by kernel_rfl, ?_⟩
  · intro j t ht
    rw [Tryz.params3]at ht;have e : t = 24 ∨ t = 3 := by simpa using Array.mem_of_getElem? ht
    have k0 : Tryz.prog.wantsStandIn 24 = false := by kernel_rfl
    have k1 : Tryz.prog.wantsStandIn 3 = false := by kernel_rfl
    rcases e with e | e
    · exact e ▸ k0
    · exact e ▸ k1

theorem axI : Rows.easeLevelsRow.wfByText (OpenSpec.ofChange Rows.easeLevelsSpec) = true := by kernel_rfl
theorem mainIs : Tryz.pinned.checked.prog.mainIs = some ((true, "46fe19aaa873ff74f6dc358b9bf93344e354558c4f0424ae35db438ce22182d1").1, (true, "46fe19aaa873ff74f6dc358b9bf93344e354558c4f0424ae35db438ce22182d1").2.toList) := by kernel_rfl
theorem card : Rows.EaseLevelsCardSaid :=Claim7.holds_tied_plain_at .later [] _ _ _ _ said (fun _ h => by cases h) axI (fun _ h => by cases h) easeLevels_row_tie rfl ⟨rfl, rfl⟩ mainIs rfl plain goes
end Go.Proofs.YtaajncoljnafjaaGreatDoor.fnEaseLevels
