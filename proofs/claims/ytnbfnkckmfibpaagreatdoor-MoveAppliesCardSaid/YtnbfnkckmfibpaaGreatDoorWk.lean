/-
  The faces of a code in the document.
-/
import Derived.Test.YtnbfnkckmfibpaaGreatDoorWj
set_option linter.unusedSimpArgs false
set_option linter.unusedVariables false
set_option linter.unusedSectionVars false
set_option maxRecDepth 100000
set_option maxHeartbeats 16000000
namespace Go.Abs
section
variable{F:Nat}{ls:List ae}
structure Fc where
 Tu:Bool
 Tl:List Nat
 places:List (Nat × Nat)
 TF:List Nat
 outer:Bool
def Fc.ps(f:Fc):List PV:=[.bool f.Tu, .sl (nP f.Tl), .sl (fv f.places), .sl (nP f.TF), .bool f.outer]
def Fc.add(F:Nat)(ls:List ae)(f:Fc)(x:Nat):Fc:=
 if x<2*ls.length then {f with Tl:=f.Tl++[x]}
 else {f with places:=f.places++(if x%2=0 then gM F ls ((x - 2*ls.length)/2) else (gM F ls ((x - 2*ls.length)/2)).reverse),TF:=f.TF++(if x%2=0 then jz F ls ((x - 2*ls.length)/2) else (jz F ls ((x - 2*ls.length)/2)).reverse),outer:=f.outer||decide ((x - 2*ls.length)/2+1=(ah ls).length)}
def Fc.new(ls:List ae)(d:Nat):Fc:=⟨dn ls (d/2+1),[],[],[],false⟩
def mQ(F:Nat)(ls:List ae)(w:List Nat)(k:Nat):Fc:=(w.take k).foldl (Fc.add F ls) (Fc.new ls (w.headD 0))
def dM(F:Nat)(ls:List ae)(w:List Nat):Fc:=w.foldl (Fc.add F ls) (Fc.new ls (w.headD 0))
def ay(F:Nat)(ls:List ae):List Fc:=(bt (cM ls) (nD ls)).map (dM F ls)
theorem sI(F:Nat)(ls:List ae)(w:List Nat):mQ F ls w w.length=dM F ls w:=by unfold mQ dM;rw[aa7]
theorem wn{w:List Nat}{k x:Nat}(h:w[k]? =some x):mQ F ls w (k+1)=(mQ F ls w k).add F ls x:=by
 unfold mQ;rw[aaX,h,ads];rfl
theorem GO(ok:eN F ls){j:Nat}(hj:j<(ah ls).length):gN ls ((ah ls).getD j 0)<=F:=by
 obtain⟨u,l,_,du,hl,_,hg⟩:=rK ok hj;rw[du,vU hl];have:=hg.g1;have:=hg.g0;omega
theorem mf(ok:eN F ls){j:Nat}(hj:j<(ah ls).length):(gM F ls j).length<=2*F+2:=by
 have h1:=GO ok hj;have h2:=GO ok (aax (j+1) (show 0<(ah ls).length by omega));unfold gM;simp only;split<;>simp only[aay,gZ]<;>omega
theorem mg(ok:eN F ls){j:Nat}(hj:j<(ah ls).length):(jz F ls j).length<=2*F+2:=by
 have h1:=GO ok hj;have h2:=GO ok (aax (j+1) (show 0<(ah ls).length by omega));unfold jz;simp only;split<;>simp only[aay,lv]<;>omega
theorem sH(ok:eN F ls){w:List Nat}(hw: ∀ x∈w,x<nD ls): ∀ k,k<=w.length->(mQ F ls w k).Tl.length<=k/\(mQ F ls w k).places.length<=k*(2*F+2)/\(mQ F ls w k).TF.length<=k*(2*F+2):=by
 intro k
 induction k with
 |zero=>intro _;exact⟨aal _,aah _,aah _⟩
 |succ k ih=>
  intro hk;obtain⟨x,hx⟩:=ao (show k<w.length by omega);obtain⟨i1,i2,i3⟩:=ih (by omega);have YP:=hw x (aaf hx);rw[wn hx,Nat.succ_mul];unfold Fc.add;by_cases h:x<2*ls.length
  ·rw[if_pos h];simp only[aay,aar,aav];exact⟨by omega,by omega,by omega⟩
  ·rw[if_neg h];have hj:(x - 2*ls.length)/2<(ah ls).length:=by unfold nD at YP;omega
   have l1:=mf ok hj;have l2:=mg ok hj;refine⟨by simp only;omega,?_,?_⟩
   ·simp only[aay];split<;>(try rw[abh])<;>omega
   ·simp only[aay];split<;>(try rw[abh])<;>omega
theorem Ho(next:Nat->Nat): ∀ (k x:Nat) (S:List Bool),∀ y∈(bQ next k x S).1,y<S.length:=by
 intro k
 induction k with
 |zero=>intro x S y h;simp[bQ] at h
 |succ k ih=>
  intro x S y h;unfold bQ at h;cases hs:S.getD x true with
  |true=>rw[hs] at h;simp at h
  |false=>
   rw[hs] at h;have hx:x<S.length:=by
    rcases Nat.lt_or_ge x S.length with h1|h1
    ·exact h1
    ·rw[aap,abI h1] at hs;cases hs
   simp only[aaL,if_false,aat] at h;rcases h with rfl|h
   ·exact hx
   ·have:=ih _ _ y h
    simpa using this
theorem DU(next:Nat->Nat): ∀ (k x:Nat) (S:List Bool),(bQ next k x S).1.length<=jw S:=by
 intro k
 induction k with
 |zero=>intro x S;simp[bQ]
 |succ k ih=>
  intro x S;unfold bQ;cases hs:S.getD x true with
  |true=>simp
  |false=>
   have hsx:S[x]? =some false:=by
    rw[aap] at hs;cases h1:S[x]? with
    |none=>rw[h1] at hs;cases hs
    |some b=>rw[h1] at hs;exact congrArg some hs
   have hun:=jT hsx;have:=ih (next x) (S.set x true);simp only[aaL,if_false,aar];omega
theorem uJ(next:Nat->Nat){k x:Nat}{S:List Bool}(h:S.getD x true=false): ∃ t,(bQ next (k+1) x S).1=x::t:=by
 unfold bQ;rw[h];exact⟨_,rfl⟩
theorem zx(next:Nat->Nat)(N:Nat): ∀ k,∀ w∈(aL next N k).1,(∃ d t,w=d::t/\d<k)/\w.length<=N/\ ∀ y∈w,y<N:=by
 intro k
 induction k with
 |zero=>intro w h;simp[aL] at h
 |succ k ih=>
  intro w h;rw[de] at h;unfold d9 at h;have hlen:=gH next N k;have old:w∈(aL next N k).1->(∃ d t,w=d::t/\d<k+1)/\w.length<=N/\ ∀ y∈w,y<N:=fun h=>by
   obtain⟨⟨d,t,h1,h2⟩,h3⟩:=ih w h;exact⟨⟨d,t,h1,by omega⟩,h3⟩
  cases hs:(aL next N k).2.getD k true with
  |true=>
   simp only[hs,if_true] at h;exact old h
  |false=>
   simp only[hs,aaL,if_false,aaM,adq] at h;rcases h with h|rfl
   ·exact old h
   ·obtain⟨t,ht⟩:=uJ next (k:=(aL next N k).2.length) hs;refine⟨⟨k,t,ht,by omega⟩,?_,fun y hy=> ?_⟩
    ·have h1:=DU next ((aL next N k).2.length+1) k (aL next N k).2;have h2:=jN (aL next N k).2;omega
    ·have:=Ho next _ _ _ y hy;omega
theorem fe(ok:eN F ls): ∀ w∈bt (cM ls) (nD ls),(∃ d t,w=d::t/\d<2*ls.length)/\w.length<=nD ls/\ ∀ y∈w,y<nD ls:=by
 intro w h;unfold bt at h;rw[pQ (maps ok) (nD ls) (by unfold nD;omega) (aal _)] at h;exact zx (cM ls) (nD ls) _ w h
abbrev lS:Nat:=96
abbrev R8(o:List (List Nat)):List (List PV):=o.map fun w=>[jl w]
theorem Qe{o:List (List Nat)}{k:Nat}{w:List Nat}(h:o[k]? =some w):(R8 o)[k]? =some [jl w]:=by simp[h]
def fl:List Nat:=[3392000000,3392128064,3392192064,3392576512,3392896448,3393216192,3393280192,3393408192]
structure FB (F:Nat) (ls:List ae) (outs:List (List PV)) (gA gW gF:Nat) (f:Fc) (cd cp cf vo:C) (Tc:aB):Prop where
 b0:Tc 3392000000=(1,some (.var (ie F ls)))
 bA:Tc 3392128064=(gA,some (.arr 3 1 (nP (ah ls))))
 bW:Tc 3392192064=(gW,some (.arr 64 1 (R8 (bt (cM ls) (nD ls)))))
 bF:Tc 3392576512=(gF,some (.var [.p (.bool f.Tu),cd,cp,cf, .p (.bool f.outer)]))
 gd:grown 3392896448 3 1 (nP f.Tl) (.one cd) Tc
 gp:grown 3393216192 qI 2 (fv f.places) (.one cp) Tc
 gf:grown 3393280192 3 1 (nP f.TF) (.one cf) Tc
 go:grown 3393408192 lS 5 outs (.one vo) Tc
theorem Ou(ok:eN F ls)(hF:F<=1000){w:List Nat}(hw: ∀ x∈w,x<nD ls)(hwl:w.length<=nD ls){outs:List (List PV)}{gA gW gF i:Nat}{cd cp cf vo:C}{env:Env}{Tc:aB}{Q:cZ}
  (e1:env 1= .one (.Tn 3392000000 1 0)) (e3:env 3= .one vo) (e4:env 4= .one (.hsl 3392128064 gA 1 0 (ah ls).length)) (e5:env 5= .one (.hsl 3392192064 gW 1 0 (bt (cM ls) (nD ls)).length)) (e6:env 6=vi ls.length) (e7:env 7=vi i) (e8:env 8= .one (.p (jl w))) (e9:env 9= .one (.Tn 3392576512 gF 0)) (e10:env 10=vi 0)
  (hB:FB F ls outs gA gW gF (mQ F ls w 0) cd cp cf vo Tc)
  (hq: ∀ Tg Td Yx Vs X5,Tg 1=env 1->Tg 3=env 3->Tg 4=env 4->Tg 5=env 5->Tg 6=env 6->Tg 7=env 7->Tg 9=env 9->FB F ls outs gA gW gF (dM F ls w) Yx Vs X5 vo Td->Q .normal Tg Td):
  W S .all (.loop i53_l1) (ey 2 Q) env Tc:=by
 have hl:=ok.hl;have UG:(ah ls).length<=1000000:=aa5 (cn ls ls.length) hl;have U3:nD ls<=4000000:=by unfold nD;omega
 have m2:=bX (a:=ls.length) (by omega);refine be (fun k Tg Td=>Tg 1= .one (.Tn 3392000000 1 0)/\Tg 3= .one vo/\Tg 4= .one (.hsl 3392128064 gA 1 0 (ah ls).length)/\Tg 5= .one (.hsl 3392192064 gW 1 0 (bt (cM ls) (nD ls)).length)/\Tg 6=vi ls.length/\Tg 7=vi i/\Tg 8= .one (.p (jl w))/\Tg 9= .one (.Tn 3392576512 gF 0)/\Tg 10=vi k/\
   ∃ cd cp cf,FB F ls outs gA gW gF (mQ F ls w k) cd cp cf vo Td) 0 w.length (aah _) ⟨e1,e3,e4,e5,e6,e7,e8,e9,e10,cd,cp,cf,hB⟩ ?_
 rintro k Tg Tc hk ⟨h1,h3,h4,h5,h6,h7,h8,h9,TJ,cd,cp,cf,hB⟩
 by_cases Ti:k<w.length
 ·have Tk:((k:Int)<(w.length:Int)):=by omega
  obtain⟨x,hx⟩:=ao Ti;have YP:=hw x (aaf hx);have hnx:=cN hx;have w1:=am (n:=k) (by omega);obtain⟨l1,l2,l3⟩:=sH ok hw k (by omega);have hs:=wn (F:=F) (ls:=ls) hx;have af4:k*(2*F+2)<=4000000*2002:=Nat.mul_le_mul (by omega) (by omega);generalize mQ F ls w k=f at hB hs l1 l2 l3;unfold Fc.add at hs;by_cases hd:x<2*ls.length
  ·rw[if_pos hd] at hs;have hd':((x:Int)<((2*ls.length:Nat):Int)):=by omega
   simp only[go_sem,i53_l1,h6,h8,h9,TJ,hB.bF,Tk,hnx,m2,hd'];generalize hG:(Tc 3392896384).1+1=g2;refine fi (site:=3392896448) (id:=3392896448) (xs:=[[.int .i64 (x:Int)]]) (rd:=[3392896384]) (hB.gd.of_eq (by simp[af])) (by simp[bh,af]) (.inl rfl) (by simp only[aak,aar,aav];omega) fun c Tq r u hc hb hr=> ?_
   have YJ: ∀ i∈fl,i≠3392896448->Tq i=Tc i:=fun i hi hn=>by
    rw[hb i hn hn,af,if_neg (Cf hi (by decide)).symm.symm]
   have bF':=(YJ 3392576512 (by simp[fl]) (by decide)).trans hB.bF;simp only[go_sem,bF',h1,h3,h4,h5,h6,h7,h8,h9,TJ,w1,Ti];refine⟨?_,c,cp,cf,?_⟩
   ·rcases hr with ⟨rfl,rfl⟩|⟨rfl,rfl⟩|⟨rfl,rfl⟩<;>kernel_rfl
   ·rw[hs];refine⟨?_,?_,?_,?_,?_,?_,?_,?_⟩
    ·simp only[af,Nat.reduceEqDiff,if_false];exact(YJ _ (by simp[fl]) (by decide)).trans hB.b0
    ·simp only[af,Nat.reduceEqDiff,if_false];exact(YJ _ (by simp[fl]) (by decide)).trans hB.bA
    ·simp only[af,Nat.reduceEqDiff,if_false];exact(YJ _ (by simp[fl]) (by decide)).trans hB.bW
    ·simp only[af,if_true]
    ·rw[jC];exact hc.of_eq (by simp[af])
    ·exact(hB.gp.of_eq (YJ _ (by simp[fl]) (by decide))).of_eq (by simp[af])
    ·exact(hB.gf.of_eq (YJ _ (by simp[fl]) (by decide))).of_eq (by simp[af])
    ·exact(hB.go.of_eq (YJ _ (by simp[fl]) (by decide))).of_eq (by simp[af])
  ·rw[if_neg hd] at hs;have hj:(x - 2*ls.length)/2<(ah ls).length:=by unfold nD at YP;omega
   have pp:=NM ok hF hj;have lP:=mf ok hj;have lF:=mg ok hj;have hd': ¬ ((x:Int)<((2*ls.length:Nat):Int)):=by omega
   have ws:=qp (a:=x) (b:=2*ls.length) (by omega) (by omega);have wq:=wrap_small (n:=(x - 2*ls.length)/2) (by omega);have w2:=fU (a:=(ah ls).length) (by omega) (by omega);have t1:List.take (ah ls).length (nP (ah ls))=nP (ah ls):=aau (by simp);have YH:((((x - 2*ls.length)/2:Nat):Int)==(((ah ls).length - 1:Nat):Int))=decide ((x - 2*ls.length)/2+1=(ah ls).length):=by
    by_cases h:(x - 2*ls.length)/2+1=(ah ls).length
    ·rw[decide_eq_true h];simp;omega
    ·rw[decide_eq_false h];simp;omega
   have lo1:S.lone 3393024192=false:=by kernel_rfl
   have lo2:S.lone 3393152064=false:=by kernel_rfl
   have lo3:S.lone 3393152192=false:=by kernel_rfl
   have sc1: ∀ l:List (Nat × Nat),((fv l).all fun e=>e.all PV.scalar)=true:=fun l=>by simp[PV.scalar]
   have sc2: ∀ l:List Nat,((nP l).all fun e=>e.all PV.scalar)=true:=fun l=>by simp[PV.scalar]
   generalize gM F ls ((x - 2*ls.length)/2)=PP at*;generalize jz F ls ((x - 2*ls.length)/2)=FF at*;simp only[go_sem,i53_l1,h1,h4,h6,h8,TJ,hB.b0,hB.bA,Tk,hnx,m2,hd',ws,wq,aT,ch,t1,s86];refine Q0 pp lo1 (sc1 _) (sc2 _) fun c e Tq hc he hb=> ?_
   have af7: ∀ i∈fl,Tq i=Tc i:=fun i hi=>hb i (Cf hi (by decide)) (Cf hi (by decide))
   by_cases Uf:x%2=0
   ·have YC:((x:Int).tmod 2 !=0)=false:=by rw[dB,Uf];rfl
    simp only[if_pos Uf] at hs;have hP:=hc;have hE:=he;have hbN:=af7;have lE:=lF;have bFN:=(hbN _ (by simp[fl])).trans hB.bF;simp only[go_sem,aT,YC,hnx,bFN,h8,h9,TJ];obtain⟨rP,hxP,_⟩:=hP.elems;refine gk (site:=3393216192) (id:=3393216192) (bytes:=16) (hB.gp.of_eq (hbN _ (by simp[fl]))) hxP hP.gI (by simp only[aak];omega) fun c2 Tp VH Tv=> ?_
    have bF2:=(Tv 3392576512 (by decide) (by decide)).trans bFN;simp only[go_sem,bF2,h9];obtain⟨rE,hxE,_⟩:=(hE.of_eq (Td:=fD Tp 3392576512 (gF,some (.var [.p (.bool f.Tu),cd,c2,cf, .p (.bool f.outer)]))) ((aj (by decide)).trans (Tv _ (by decide) (by decide)))).elems;refine gk (site:=3393280192) (id:=3393280192) (bytes:=8) (hB.gf.of_eq ((aj (by decide)).trans ((Tv _ (by decide) (by decide)).trans (hbN _ (by simp[fl]))))) hxE hE.gI (by simp only[aak];omega) fun c3 Ub hc3 Uz=> ?_
    have Xp:=(Uz 3392576512 (by decide) (by decide)).trans (fL (b:=Tp) (a:=3392576512) (x:=(gF,some (.var [.p (.bool f.Tu),cd,c2,cf, .p (.bool f.outer)]))));have Ty: ∀ i∈fl,i≠3392576512->i≠3393216192->i≠3393280192->Ub i=Tc i:=fun i hi n1 n2 n3=>(Uz i n3 n3).trans ((aj n1).trans ((Tv i n2 n2).trans (hbN i hi)))
    have Un: ∀ y y2:Nat × Option Ob,∀ i,i≠3392576512->fD (fD Ub 3392576512 y) 3392576512 y2 i=Ub i:=fun y y2 i hi=>(aj hi).trans (aj hi)
    cases ho:f.outer with
    |true=>
     rw[ho] at Xp;simp only[go_sem,Xp,h1,h3,h4,h5,h6,h7,h8,h9,TJ,w1,Ti];refine⟨cd,c2,c3,?_⟩;rw[hs];exact⟨(Un _ _ _ (by decide)).trans ((Ty _ (by simp[fl]) (by decide) (by decide) (by decide)).trans hB.b0),(Un _ _ _ (by decide)).trans ((Ty _ (by simp[fl]) (by decide) (by decide) (by decide)).trans hB.bA),(Un _ _ _ (by decide)).trans ((Ty _ (by simp[fl]) (by decide) (by decide) (by decide)).trans hB.bW),(by rw[fL];simp[ho]),
      hB.gd.of_eq ((Un _ _ _ (by decide)).trans (Ty _ (by simp[fl]) (by decide) (by decide) (by decide))),(iw _ _▸VH).of_eq ((Un _ _ _ (by decide)).trans ((Uz _ (by decide) (by decide)).trans (aj (by decide)))),(jC _ _▸hc3).of_eq (Un _ _ _ (by decide)),hB.go.of_eq ((Un _ _ _ (by decide)).trans (Ty _ (by simp[fl]) (by decide) (by decide) (by decide)))⟩
    |false=>
     rw[ho] at Xp;simp only[go_sem,Xp,h1,h3,h4,h5,h6,h7,h8,h9,TJ,w1,w2,Ti,YH];refine⟨cd,c2,c3,?_⟩;rw[hs];exact⟨(Un _ _ _ (by decide)).trans ((Ty _ (by simp[fl]) (by decide) (by decide) (by decide)).trans hB.b0),(Un _ _ _ (by decide)).trans ((Ty _ (by simp[fl]) (by decide) (by decide) (by decide)).trans hB.bA),(Un _ _ _ (by decide)).trans ((Ty _ (by simp[fl]) (by decide) (by decide) (by decide)).trans hB.bW),(by rw[fL];simp[ho]),
      hB.gd.of_eq ((Un _ _ _ (by decide)).trans (Ty _ (by simp[fl]) (by decide) (by decide) (by decide))),(iw _ _▸VH).of_eq ((Un _ _ _ (by decide)).trans ((Uz _ (by decide) (by decide)).trans (aj (by decide)))),(jC _ _▸hc3).of_eq (Un _ _ _ (by decide)),hB.go.of_eq ((Un _ _ _ (by decide)).trans (Ty _ (by simp[fl]) (by decide) (by decide) (by decide)))⟩
   ·have YC:((x:Int).tmod 2 !=0)=true:=by rw[dB,show x%2=1 by omega];rfl
    simp only[if_neg Uf] at hs;obtain⟨r1,sn1,_⟩:=hc.bN;simp only[go_sem,aT,YC,hnx,sn1,h8,TJ,s87];refine fQ (Jy PP (by omega)) lo2 (.inr (ap (sc1 _))) fun c1 Tp UP Tv=> ?_
    have he2:=he.of_eq (Tv _ (by decide));obtain⟨r2,sn2,_⟩:=he2.bN;simp only[go_sem,sn2,s88];refine fQ (HS FF (by omega)) lo3 (.inr (ap (sc2 _))) fun e1 Ub he1 Uz=> ?_
    have hbN: ∀ i∈fl,Ub i=Tc i:=fun i hi=>(Uz i (Cf hi (by decide))).trans ((Tv i (Cf hi (by decide))).trans (af7 i hi))
    have hP:=UP.of_eq (Uz _ (by decide));have hE:=he1;have lE:FF.reverse.length<=2*F+2:=by rw[abh];exact lF
    have lP:PP.reverse.length<=2*F+2:=by rw[abh];exact lP
    have bFN:=(hbN _ (by simp[fl])).trans hB.bF;simp only[go_sem,bFN,h9];obtain⟨rP,hxP,_⟩:=hP.elems;refine gk (site:=3393216192) (id:=3393216192) (bytes:=16) (hB.gp.of_eq (hbN _ (by simp[fl]))) hxP hP.gI (by simp only[aak,abh];omega) fun c2 Tp VH Tv=> ?_
    have bF2:=(Tv 3392576512 (by decide) (by decide)).trans bFN;simp only[go_sem,bF2,h9];obtain⟨rE,hxE,_⟩:=(hE.of_eq (Td:=fD Tp 3392576512 (gF,some (.var [.p (.bool f.Tu),cd,c2,cf, .p (.bool f.outer)]))) ((aj (by decide)).trans (Tv _ (by decide) (by decide)))).elems;refine gk (site:=3393280192) (id:=3393280192) (bytes:=8) (hB.gf.of_eq ((aj (by decide)).trans ((Tv _ (by decide) (by decide)).trans (hbN _ (by simp[fl]))))) hxE hE.gI (by simp only[aak,abh];omega) fun c3 Ub hc3 Uz=> ?_
    have Xp:=(Uz 3392576512 (by decide) (by decide)).trans (fL (b:=Tp) (a:=3392576512) (x:=(gF,some (.var [.p (.bool f.Tu),cd,c2,cf, .p (.bool f.outer)]))));have Ty: ∀ i∈fl,i≠3392576512->i≠3393216192->i≠3393280192->Ub i=Tc i:=fun i hi n1 n2 n3=>(Uz i n3 n3).trans ((aj n1).trans ((Tv i n2 n2).trans (hbN i hi)))
    have Un: ∀ y y2:Nat × Option Ob,∀ i,i≠3392576512->fD (fD Ub 3392576512 y) 3392576512 y2 i=Ub i:=fun y y2 i hi=>(aj hi).trans (aj hi)
    cases ho:f.outer with
    |true=>
     rw[ho] at Xp;simp only[go_sem,Xp,h1,h3,h4,h5,h6,h7,h8,h9,TJ,w1,Ti];refine⟨cd,c2,c3,?_⟩;rw[hs];exact⟨(Un _ _ _ (by decide)).trans ((Ty _ (by simp[fl]) (by decide) (by decide) (by decide)).trans hB.b0),(Un _ _ _ (by decide)).trans ((Ty _ (by simp[fl]) (by decide) (by decide) (by decide)).trans hB.bA),(Un _ _ _ (by decide)).trans ((Ty _ (by simp[fl]) (by decide) (by decide) (by decide)).trans hB.bW),(by rw[fL];simp[ho]),
      hB.gd.of_eq ((Un _ _ _ (by decide)).trans (Ty _ (by simp[fl]) (by decide) (by decide) (by decide))),(iw _ _▸VH).of_eq ((Un _ _ _ (by decide)).trans ((Uz _ (by decide) (by decide)).trans (aj (by decide)))),(jC _ _▸hc3).of_eq (Un _ _ _ (by decide)),hB.go.of_eq ((Un _ _ _ (by decide)).trans (Ty _ (by simp[fl]) (by decide) (by decide) (by decide)))⟩
    |false=>
     rw[ho] at Xp;simp only[go_sem,Xp,h1,h3,h4,h5,h6,h7,h8,h9,TJ,w1,w2,Ti,YH];refine⟨cd,c2,c3,?_⟩;rw[hs];exact⟨(Un _ _ _ (by decide)).trans ((Ty _ (by simp[fl]) (by decide) (by decide) (by decide)).trans hB.b0),(Un _ _ _ (by decide)).trans ((Ty _ (by simp[fl]) (by decide) (by decide) (by decide)).trans hB.bA),(Un _ _ _ (by decide)).trans ((Ty _ (by simp[fl]) (by decide) (by decide) (by decide)).trans hB.bW),(by rw[fL];simp[ho]),
      hB.gd.of_eq ((Un _ _ _ (by decide)).trans (Ty _ (by simp[fl]) (by decide) (by decide) (by decide))),(iw _ _▸VH).of_eq ((Un _ _ _ (by decide)).trans ((Uz _ (by decide) (by decide)).trans (aj (by decide)))),(jC _ _▸hc3).of_eq (Un _ _ _ (by decide)),hB.go.of_eq ((Un _ _ _ (by decide)).trans (Ty _ (by simp[fl]) (by decide) (by decide) (by decide)))⟩
 ·have:k=w.length:=by omega
  subst this;rw[sI] at hB;simp only[go_sem,i53_l1,h8,TJ,aN];exact hq _ _ cd cp cf (by simp only[go_sem,h1,e1]) (by simp only[go_sem,h3,e3]) (by simp only[go_sem,h4,e4]) (by simp only[go_sem,h5,e5]) (by simp only[go_sem,h6,e6]) (by simp only[go_sem,h7,e7]) (by simp only[go_sem,h9,e9]) hB
theorem Qk{a b:PV}{id g z o l:Nat}{cp cf:C}:qu [[.p a, .hsl id g z o l,cp,cf, .p b]]=none:=rfl
theorem wA{Tc:aB}{s g ty sd td zd sp tp zp sf tf zf:Nat}{a o:Bool}{cd cp cf:C}{D P G:List (List PV)}(hb:Tc s=(g,some (.TV ty 5 [[.p (.bool a),cd,cp,cf, .p (.bool o)]])))(gd:grown sd td zd D (.one cd) Tc)(gp:grown sp tp zp P (.one cp) Tc)(gf:grown sf tf zf G (.one cf) Tc):
  ∃ fr,bh Tc (.one (.hsl s g 5 0 1))=some ([[.bool a, .sl D, .sl P, .sl G, .bool o]],[s],fr)/\kz Tc fr/\ ∀ i∈fr,i=sd\/i=sp\/i=sf:=by
 obtain⟨r1,n1,a1,q1⟩:=gd.JW;obtain⟨r2,n2,a2,q2⟩:=gp.JW;obtain⟨r3,n3,a3,q3⟩:=gf.JW;refine⟨r1++(r2++r3),?_,a1.app (a2.app a3),fun i hi=> ?_⟩
 ·simp only[bh,hb];simp[collect,n1,n2,n3,Ed,PV.norm]
 ·simp only[aaM] at hi;rcases hi with hi|hi|hi
  ·rcases q1 with rfl|rfl<;>simp at hi;exact .inl hi
  ·rcases q2 with rfl|rfl<;>simp at hi;exact .inr (.inl hi)
  ·rcases q3 with rfl|rfl<;>simp at hi;exact .inr (.inr hi)
abbrev lZ(l:List Fc):List (List PV):=l.map Fc.ps
theorem Mt(F:Nat)(ls:List ae): ∀ (w:List Nat) (f:Fc),f.Tl≠[]->(w.foldl (Fc.add F ls) f).Tl≠[]:=by
 intro w
 induction w with
 |nil=>intro f h;exact h
 |cons x w ih=>
  intro f h;refine ih _ ?_;unfold Fc.add;split
  ·simp
  ·exact h
theorem tE{d:Nat}{t:List Nat}(h:d<2*ls.length):(dM F ls (d::t)).Tl≠[]:=by
 unfold dM;refine Mt F ls t _ ?_;unfold Fc.add;rw[show(d::t).headD 0=d from rfl,if_pos h];simp
theorem Oq(ok:eN F ls)(hF:F<=1000)(TA:ah ls≠[]):aH S 53 [aQ F ls] (.one (aq lS 5 (lZ (ay F ls)))):=by
 have hl:=ok.hl;have UG:(ah ls).length<=1000000:=aa5 (cn ls ls.length) hl;have U3:nD ls<=4000000:=by unfold nD;omega
 have aep:=fe ok;have pa:=Mh F ls hl;have pw:=F1 F ls hl TA ok.hp;unfold wU at pa;rw[if_neg TA] at pa;have hwl:(bt (cM ls) (nD ls)).length<=nD ls:=gY (cM ls) (nD ls) _;have hLA: ∀ Tc:aB,land Tc [] 3392128064 ((RV.one (.own 3 1 (nP (ah ls)))).bK (S.lone 3392128064))=some (.one (.hsl 3392128064 ((Tc 3392128064).1+1) 1 0 (ah ls).length),[(3392128064,((Tc 3392128064).1+1,some (.arr 3 1 (nP (ah ls)))))]):=by
  intro Tc;rw[show S.lone 3392128064=false by kernel_rfl,show(ah ls).length=(nP (ah ls)).length by simp];rfl
 have hLW: ∀ Tc:aB,land Tc [] 3392192064 ((RV.one (.own 64 1 (R8 (bt (cM ls) (nD ls))))).bK (S.lone 3392192064))=some (.one (.hsl 3392192064 ((Tc 3392192064).1+1) 1 0 (bt (cM ls) (nD ls)).length),[(3392192064,((Tc 3392192064).1+1,some (.arr 64 1 (R8 (bt (cM ls) (nD ls))))))]):=by
  intro Tc;rw[show S.lone 3392192064=false by kernel_rfl,show(bt (cM ls) (nD ls)).length=(R8 (bt (cM ls) (nD ls))).length by simp];rfl
 refine aG c53 ?_;simp only[go_sem,i53,s63,s36,ai pa (hLA _),ai pw (hLW _)];refine be (fun k env Tc=>env 1= .one (.Tn 3392000000 1 0)/\env 4= .one (.hsl 3392128064 1 1 0 (ah ls).length)/\env 5= .one (.hsl 3392192064 1 1 0 (bt (cM ls) (nD ls)).length)/\env 6=vi ls.length/\env 7=vi k/\
   Tc 3392000000=(1,some (.var (ie F ls)))/\Tc 3392128064=(1,some (.arr 3 1 (nP (ah ls))))/\Tc 3392192064=(1,some (.arr 64 1 (R8 (bt (cM ls) (nD ls)))))/\
   ∃ vo,env 3= .one vo/\grown 3393408192 lS 5 (lZ (((bt (cM ls) (nD ls)).take k).map (dM F ls))) (.one vo) Tc) 0 (bt (cM ls) (nD ls)).length (aah _) ?_ ?_
 ·simp only[go_sem];first|exact⟨rfl,_,rfl, .inl ⟨rfl,rfl⟩⟩|exact⟨rfl,rfl,_,rfl, .inl ⟨rfl,rfl⟩⟩|exact⟨rfl,rfl,rfl,_,rfl, .inl ⟨rfl,rfl⟩⟩|exact⟨rfl,rfl,rfl,rfl,_,rfl, .inl ⟨rfl,rfl⟩⟩
 ·rintro k env Tc hk ⟨h1,h4,h5,h6,h7,b0,bA,bW,vo,h3,go⟩
  by_cases Ti:k<(bt (cM ls) (nD ls)).length
  ·have Tk:((k:Int)<((bt (cM ls) (nD ls)).length:Int)):=by omega
   obtain⟨w,hw⟩:=ao Ti;obtain⟨⟨d,t,hwd,hd⟩,ahD,hwm⟩:=aep w (aaf hw);have YU:=Qe hw;have w1:=am (n:=k) (by omega);have UY:(nP w)[0]? =some [.int .i64 (d:Int)]:=by rw[hwd];rfl
   have h0l:0<w.length:=by rw[hwd];simp
   have h0l':(0:Int)<(w.length:Int):=by omega
   have wq:=wrap_small (n:=d/2) (by omega);have pb:=Hd F ls (d/2) hl (by omega);have hhd:w.headD 0=d:=by rw[hwd];rfl
   have Uq:lZ (((bt (cM ls) (nD ls)).take (k+1)).map (dM F ls))=lZ (((bt (cM ls) (nD ls)).take k).map (dM F ls))++[(dM F ls w).ps]:=by
    rw[aaX,hw];simp
   have WI:(lZ (((bt (cM ls) (nD ls)).take k).map (dM F ls))).length<=k:=by simp;omega
   generalize lZ (((bt (cM ls) (nD ls)).take k).map (dM F ls))=outs at go Uq WI;simp only[go_sem,i53_l4,h1,h5,h7,b0,bW,Ti,Tk,YU,UY,aT,ch,wq,s60,aw pb];refine⟨au,?_⟩;refine Ou ok hF hwm ahD (gA:=1) (gW:=1) (gF:=(Tc 3392576512).1+1) (i:=k) (cd:= .p .nils) (cp:= .p .nils) (cf:= .p .nils) (vo:=vo) (outs:=outs) ?_ ?_ ?_ ?_ ?_ ?_ ?_ ?_ ?_ ⟨?_,?_,?_,?_,grown.nil,grown.nil,grown.nil,?_⟩ ?_
   ·simp only[go_sem,h1]
   ·simp only[go_sem,h3]
   ·simp only[go_sem,h4]
   ·simp only[go_sem,h5]
   ·simp only[go_sem,h6]
   ·simp only[go_sem,h7]
   ·simp only[go_sem]
   ·simp only[go_sem]
   ·simp only[go_sem]
   ·simp only[go_sem,b0]
   ·simp only[go_sem,bA]
   ·simp only[go_sem,bW]
   ·simp only[go_sem,mQ,Fc.new,hhd];simp
   ·exact go.of_eq (by simp only[go_sem])
   ·intro Tg Td Yx Vs X5 q1 q3 q4 q5 q6 q7 q9 hB;simp only[go_sem,h1,h3,h4,h5,h6,h7] at q1 q3 q4 q5 q6 q7 q9;have UE:=tE (F:=F) (t:=t) hd;rw[<- hwd] at UE;generalize dM F ls w=f at hB Uq UE;obtain⟨B0,BA,BW,BF,gd,gp,gf,go2⟩:=hB;rcases gd with ⟨e,_⟩|⟨_,gg,e,Um⟩
    ·simp at e;exact absurd e UE
    ·cases e
     simp only[go_sem,i53_r2,i53_r3,q3,q9,BF];have gd:grown 3392896448 3 1 (nP f.Tl) (.one (.hsl 3392896448 gg 1 0 (nP f.Tl).length)) Td:= .inr ⟨by simpa using UE,gg,rfl,Um⟩;rw[aak] at gd;obtain⟨fr,hx,hfa,hfi⟩:=wA (Tc:=fD Td 3393408128 ((Td 3393408128).1+1,some (.TV lS 5 [[.p (.bool f.Tu), .hsl 3392896448 gg 1 0 f.Tl.length,Vs,X5, .p (.bool f.outer)]]))) (s:=3393408128) fL (gd.of_eq (aj (by decide))) (gp.of_eq (aj (by decide))) (gf.of_eq (aj (by decide)))
     have nf: ∀ i,i≠3392896448->i≠3393216192->i≠3393280192->i∉fr:=fun i a b c h=>by
      rcases hfi i h with h|h|h
      ·exact a h
      ·exact b h
      ·exact c h
     refine GN (site:=3393408192) (id:=3393408192) (bytes:=88) (go2.of_eq (aj (by decide))) hx hfa (nf _ (by decide) (by decide) (by decide)) (nf _ (by decide) (by decide) (by decide)) (.inl rfl) (by simp only[aar,aav];omega) fun c Tp hc Tv=> ?_
     have B0':=(Tv 3392000000 (by decide) (by decide) (nf _ (by decide) (by decide) (by decide))).trans ((aj (by decide)).trans B0);have BA':=(Tv 3392128064 (by decide) (by decide) (nf _ (by decide) (by decide) (by decide))).trans ((aj (by decide)).trans BA);have BW':=(Tv 3392192064 (by decide) (by decide) (nf _ (by decide) (by decide) (by decide))).trans ((aj (by decide)).trans BW);simp only[go_sem,q1,q3,q4,q5,q6,q7,B0',BA',BW',w1,Ti];refine⟨c,rfl,?_⟩;rw[Uq];exact hc
  ·have:k=(bt (cM ls) (nD ls)).length:=by omega
   subst this;rw[aa7] at go;simp only[go_sem,i53_l4,i53_r5,h3,h5,h7,aN];exact iV go
def qk(ls:List ae)(k:Nat):List Bool:=(List.range ls.length).map fun i=>decide (i<k)&& !dn ls (i+1)
theorem Dp(ls:List ae)(k:Nat):(qk ls k).length=ls.length:=by simp[qk]
theorem IT(ls:List ae):qk ls 0=List.replicate ls.length false:=by
 refine ade fun i=> ?_
 simp only[qk,aaA,List.getElem?_replicate];by_cases h:i<ls.length
 ·simp[h]
 ·rw[abI (by simpa using h),if_neg h];rfl
theorem Mf(ls:List ae)(k:Nat):qk ls (k+1)=(qk ls k).set k (!dn ls (k+1)):=by
 refine ade fun i=> ?_
 rw[aa3,Dp];simp only[qk,aaA];by_cases h:i<ls.length
 ·rw[abH h];by_cases e:k=i
  ·subst e;simp[h]
  ·simp only[aa4,e,if_false];congr 2;exact decide_eq_decide.2 (by omega)
 ·rw[abI (by simpa using h)];by_cases e:k=i
  ·subst e;rw[if_pos rfl,if_neg h];rfl
  ·rw[if_neg e];rfl
abbrev AS(ls:List ae):List Bool:=qk ls ls.length
theorem OU{i:Nat}(h:i<ls.length):(AS ls)[i]? =some (!dn ls (i+1)):=by simp[qk,h]
theorem OT(ok:eN F ls):aH S 71 [.one (.p (DP F ls))] (.one (.own 4 1 (bP (AS ls)))):=by
 have hl:=ok.hl;have TQ:ls.length<=140737488355328:=by omega
 have YB:List.replicate ls.length [PV.bool false]=bP (qk ls 0):=by rw[IT];simp
 refine aG c71 ?_;simp only[go_sem,i71,TQ,YB];refine be (fun k env Tc=>env 0= .one (.p (DP F ls))/\env 3= .one (.hsl 4544064384 1 1 0 ls.length)/\Tc 4544064384=(1,some (.arr 4 1 (bP (qk ls k))))/\
   env 4=vb (!dn ls k)/\env 18= .one (.p (tY ls))/\env 19=vi ls.length/\env 20=vi k) 0 ls.length (aah _) ?_ ?_
 ·simp only[go_sem];first|exact⟨rfl,rfl⟩|exact⟨rfl,rfl,rfl⟩|exact⟨rfl,rfl,rfl,rfl⟩|exact rfl
 ·rintro k env Tc hk ⟨h0,h3,hA,h4,Xu,h19,h20⟩
  by_cases Ti:k<ls.length
  ·obtain⟨l,TH⟩:=ao Ti;have hi:=cD TH;have Tk:((k:Int)<(ls.length:Int)):=by omega
   have w1:=am (n:=k) (by omega);have hlen:k<(qk ls k).length:=by rw[Dp];exact Ti
   obtain⟨b0,UF⟩:=ao hlen;have Wn:=ig UF;have T5:=sT (qk ls k) k (!dn ls (k+1));rw[<- Mf] at T5;cases hp:(l.kind==1) with
   |true=>
    have hd:=AL TH hp;have aiC:=ig (rz TH hp);rw[hd] at T5;rw[Bool.not_not] at T5;simp only[go_sem,i71_l1,h0,h3,hA,h4,Xu,h19,h20,hi,ae.ps,Ti,Tk,w1,hp,aiC,Wn,T5,hd]
   |false=>
    have hd:=ux TH hp;rw[hd] at T5;simp only[go_sem,i71_l1,h0,h3,hA,h4,Xu,h19,h20,hi,ae.ps,Ti,Tk,w1,hp,Wn,T5,hd]
  ·have:k=ls.length:=by omega
   subst this;simp only[go_sem,i71_l1,i71_r2,h3,h19,h20,aN];exact lC hA (by simp[qk])
abbrev Cv(id:Nat):Prop:=bY id=144
theorem Bt{g r T k:Nat}(h:k<=T - g):(fG g r T)[k]? =some (g+k,if k=0 then r else 0):=by
 cases k with
 |zero=>rfl
 |succ k=>
  unfold fG;rw[List.getElem?_cons_succ,aaA,abH (by omega)];simp;omega
theorem JT{g T k:Nat}(h:k<T - g):(iu g T)[k]? =some (g+1+k):=by
 unfold iu;rw[aaA,abH h];rfl
def sQ(g r T:Nat)(ps fs:List (List PV))(i1 i2:Nat)(Tc:aB)(v:V)(Td:aB):Prop:=
 ∃ c1 c2 j2,v= .tup [.one c1, .one c2]/\grown 9216320192 qI 2 (ps++fv (fG g r T)) (.one c1) Td/\grown j2 3 1 (fs++nP (iu g T)) (.one c2) Td/\(j2=i2\/j2=9216256256)/\
  Kept (fun id=>Cv id\/id=i1\/id=i2) Tc Td
def bt1:List Nat:=[9216000000,9216000064,9216128128,9216256192,9216256256,9216320128]
def bt2:List Nat:=[9216000000,9216000064,9216128128,9216128192,9216256192,9216320128,9216320192]
theorem lW{al:Al}{Tc:aB}{g r T t i1 i2:Nat}{ps fs:List (List PV)}{c1 c2:C}(okf: ∀ id,Cv id->al.ok id=true)(o1:al.ok i1=true)(o2:al.ok i2=true)(hT:g<=T)(ht:t=if T=g then r else 0)(hb:T<=1000)(TT:ps.length<=1000000)(hfs:fs.length<=1000000)
  (n12:i1≠i2) (nb1:i1∉bt1) (nb2:i2∉bt2) (h1:grown i1 qI 2 ps (.one c1) Tc) (h2:grown i2 3 1 fs (.one c2) Tc):
  ∃ v Td,pz S 144 [.agg [.p (.int .i64 g), .p (.int .i64 r)], .agg [.p (.int .i64 T), .p (.int .i64 t)], .one c1, .one c2] al Tc v Td/\sQ g r T ps fs i1 i2 Tc v Td:=by
 have k0:al.ok 9216000000=true:=okf _ rfl;have k64:al.ok 9216000064=true:=okf _ rfl;have kb1:al.ok 9216128128=true:=okf _ rfl;have ka1:al.ok 9216128192=true:=okf _ rfl;have kb2:al.ok 9216256192=true:=okf _ rfl;have ka2:al.ok 9216256256=true:=okf _ rfl;have kb3:al.ok 9216320128=true:=okf _ rfl;have ka3:al.ok 9216320192=true:=okf _ rfl;refine eY c144 (aaN rfl) ?_;simp only[go_sem,i144,k0,k64];have lenP:=gZ g r T;have lenF:=lv g T
 refine be (fun k env Td=>env 4= .one (.Tn 9216000000 ((Tc 9216000000).1+1) 0)/\env 5= .one (.Tn 9216000064 ((Tc 9216000064).1+1) 0)/\
   Td 9216000000=((Tc 9216000000).1+1,some (.var [.p (.int .i64 ((g+k:Nat):Int)), .p (.int .i64 ((if k=0 then r else 0:Nat):Int))]))/\Td 9216000064=((Tc 9216000064).1+1,some (.var [.p (.int .i64 T), .p (.int .i64 t)]))/\
   ∃ d1 d2 j1 j2,env 2= .one d1/\env 3= .one d2/\(j1=i1\/j1=9216128192)/\(j2=i2\/j2=9216256256)/\grown j1 qI 2 (ps++fv ((fG g r T).take k)) (.one d1) Td/\grown j2 3 1 (fs++nP ((iu g T).take k)) (.one d2) Td/\Kept (fun id=>Cv id\/id=i1\/id=i2) Tc Td) 0 (T - g) (aah _) ?_ ?_
 ·simp only[go_sem];refine⟨rfl,c1,c2,i1,i2,rfl,rfl, .inl rfl, .inl rfl,?_,?_,?_⟩
  ·exact(h1.of_eq (aj (Ae nb1 (by simp[bt1])))).of_eq (aj (Ae nb1 (by simp[bt1])))
  ·exact(h2.of_eq (aj (Ae nb2 (by simp[bt2])))).of_eq (aj (Ae nb2 (by simp[bt2])))
  ·exact((Kept.refl _ _).fD (.inl rfl) _).fD (.inl rfl) _
 ·rintro k env Td hk ⟨h4,h5,hA,hB,d1,d2,j1,j2,e2,e3,q1,q2,g1,g2,TL⟩
  have oj1:al.ok j1=true:=by rcases q1 with rfl|rfl<;>assumption
  have oj2:al.ok j2=true:=by rcases q2 with rfl|rfl<;>assumption
  have n1: ∀ a,a∈bt1->j1≠a:=fun a ha e=>by
   rcases q1 with rfl|rfl
   ·exact nb1 (e▸ha)
   ·exact absurd (e▸ha) (by decide)
  have n2: ∀ a,a∈bt2->j2≠a:=fun a ha e=>by
   rcases q2 with rfl|rfl
   ·exact nb2 (e▸ha)
   ·exact absurd (e▸ha) (by decide)
  have n3:j1≠j2:=fun e=>by
   rcases q1 with rfl|rfl
   ·rcases q2 with rfl|rfl
    ·exact n12 e
    ·exact n1 _ (by decide) e
   ·exact n2 _ (by decide) e.symm
  have kj1:Cv j1\/j1=i1\/j1=i2:=by
   rcases q1 with rfl|rfl
   ·exact .inr (.inl rfl)
   ·exact .inl rfl
  have kj2:Cv j2\/j2=i1\/j2=i2:=by
   rcases q2 with rfl|rfl
   ·exact .inr (.inr rfl)
   ·exact .inl rfl
  have ltk:((fG g r T).take k).length=k:=by rw[aaB];omega
  have ltf:((iu g T).take k).length=k:=by rw[aaB];omega
  by_cases Ti:k<T - g
  ·have Tk:(((g+k:Nat):Int)<(T:Int)):=by omega
   have w1:IntKind.i64.wrap (((g+k:Nat):Int)+1)=((g+(k+1):Nat):Int):=am (n:=g+k) (by omega);have hp:fv ((fG g r T).take (k+1))=fv ((fG g r T).take k)++[[.int .i64 ((g+k:Nat):Int), .int .i64 ((if k=0 then r else 0:Nat):Int)]]:=by
    rw[aaX,Bt (by omega),iw];rfl
   have hf:nP ((iu g T).take (k+1))=nP ((iu g T).take k)++[[.int .i64 ((g+(k+1):Nat):Int)]]:=by
    rw[aaX,JT Ti,jC,show g+1+k=g+(k+1) by omega];rfl
   simp only[go_sem,i144_l1,h4,h5,hA,hB,e2,Tk,k0,k64,kb1];refine uv (id:=j1) (site:=9216128192) (bytes:=16) (xs:=[[.int .i64 ((g+k:Nat):Int), .int .i64 ((if k=0 then r else 0:Nat):Int)]]) (rd:=[9216128128]) (by simp[ka1,oj1,kb1]) (g1.of_eq (aj (n1 _ (by decide)))) (by simp[bh,af]) (.inl rfl) (by simp only[aay,aak,ltk,aar,aav];omega) fun c Tp hc Tv=> ?_
   have hA2:=(Tv 9216000000 (by decide) (n1 _ (by decide)).symm).trans ((aj (by decide)).trans hA);have YK:=(Tv 9216000064 (by decide) (n1 _ (by decide)).symm).trans ((aj (by decide)).trans hB);simp only[go_sem,h4,hA2,e3,w1,k0,kb2]
   refine uv (id:=j2) (site:=9216256256) (bytes:=8) (xs:=[[.int .i64 ((g+(k+1):Nat):Int)]]) (rd:=[9216256192]) (by simp[ka2,oj2,kb2]) (g2.of_eq ((aj (n2 _ (by decide))).trans ((aj (n2 _ (by decide))).trans ((Tv _ (n2 _ (by decide)) n3.symm).trans (aj (n2 _ (by decide))))))) (by simp[bh,af]) (.inl rfl) (by simp only[aay,aak,ltf,aar,aav];omega) fun c' Ub Vp Uz=> ?_
   have hA3:=(Uz 9216000000 (by decide) (n2 _ (by decide)).symm).trans ((aj (by decide)).trans fL);have hB3:=(Uz 9216000064 (by decide) (n2 _ (by decide)).symm).trans ((aj (by decide)).trans ((aj (by decide)).trans YK));simp only[go_sem,h4,h5,hA3,hB3,e2,e3,Ti];refine⟨rfl,c,c',9216128192,9216256256,rfl,rfl, .inr rfl, .inr rfl,?_,?_,fun id hn=> ?_⟩
   ·rw[hp,<- adm];exact hc.of_eq ((Uz _ (by decide) (n2 _ (by decide)).symm).trans ((aj (by decide)).trans (aj (by decide))))
   ·rw[hf,<- adm];exact Vp
   ·have a: ∀ x,Cv x->id≠x:=fun x hx e=>hn (.inl (e▸hx))
    have b1:id≠j1:=fun e=>hn (e▸kj1)
    have b2:id≠j2:=fun e=>hn (e▸kj2)
    exact(Uz id (a _ rfl) b2).trans ((aj (a _ rfl)).trans ((aj (a _ rfl)).trans ((Tv id (a _ rfl) b1).trans ((aj (a _ rfl)).trans (TL id hn)))))
  ·have:k=T - g:=by omega
   subst this;have Tk: ¬ (((g+(T - g):Nat):Int)<(T:Int)):=by omega
   simp only[go_sem,i144_l1,i144_r2,h4,h5,hA,hB,e2,Tk,k0,k64,kb3];have aa1:fv (fG g r T)=fv ((fG g r T).take (T - g))++[[.int .i64 (T:Int), .int .i64 (t:Int)]]:=by
    have h1:=aaX (l:=fG g r T) (i:=T - g);rw[Bt (aal _),aau (show(fG g r T).length<=T - g+1 by omega)] at h1;have e1:g+(T - g)=T:=by omega
    have e2:(if T - g=0 then r else 0)=t:=by
     rw[ht];by_cases h:T=g
     ·rw[if_pos h,if_pos (by omega)]
     ·rw[if_neg h,if_neg (by omega)]
    rw[e1,e2] at h1;exact(congrArg (fun l:List (Nat × Nat)=>fv l) h1).trans (iw _ _)
   have Ty:(iu g T).take (T - g)=iu g T:=aau (by omega);refine uv (id:=j1) (site:=9216320192) (bytes:=16) (xs:=[[.int .i64 (T:Int), .int .i64 (t:Int)]]) (rd:=[9216320128]) (by simp[ka3,oj1,kb3]) (g1.of_eq (aj (n1 _ (by decide)))) (by simp[bh,af]) (.inl rfl) (by simp only[aay,aak,ltk,aar,aav];omega) fun c Tp hc Tv=> ?_
   simp only[go_sem,e3];refine⟨c,d2,j2,rfl,?_,?_,q2,fun id hn=> ?_⟩
   ·rw[aa1,<- adm];exact hc
   ·rw[Ty] at g2;exact g2.of_eq ((Tv _ (n2 _ (by decide)) n3.symm).trans (aj (n2 _ (by decide))))
   ·have a: ∀ x,Cv x->id≠x:=fun x hx e=>hn (.inl (e▸hx))
    have b1:id≠j1:=fun e=>hn (e▸kj1)
    exact(Tv id (a _ rfl) b1).trans ((aj (a _ rfl)).trans (TL id hn))
end
end Go.Abs
