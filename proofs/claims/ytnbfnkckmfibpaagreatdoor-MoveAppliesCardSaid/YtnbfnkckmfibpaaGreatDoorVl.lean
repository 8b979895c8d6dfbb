/-
  The draft of two crossings that are made.
-/
import Derived.Test.YtnbfnkckmfibpaaGreatDoorVi
set_option linter.unusedSimpArgs false
set_option linter.unusedVariables false
set_option linter.unusedSectionVars false
set_option maxRecDepth 100000
set_option maxHeartbeats 16000000
namespace Go.Abs
def uy(F:Nat)(ls:List ae)(a b:Nat)(l:Bool):Bool:=decide (2*b∈(aA F ls (if l then 2*a else 2*a+1)).Tl)==l
def wD(same l o:Bool):Int:=let s:Int:=if same !=l then -1 else 1;if o then s else -s
def IK(ls:List ae):Int:=((aD ae.aJ ls/2:Nat):Int)
def Rj(c s:Int)(o:Bool):ae:=⟨2,0,0,c+1,s,o⟩
def Ri(c s:Int)(o:Bool):ae:=⟨2,0,0,c+2,-s,o⟩
def Se{α:Type}(L:List α)(a:Nat)(x:List α)(b:Nat)(u:List α):List α:=if b<a then dQ (dQ L x a) u b else dQ (dQ L u b) x a
def OD(F:Nat)(ls:List ae)(a b:Nat)(l o:Bool):List ae:=
 Se ls a [Rj (IK ls) (wD (uy F ls a b l) l o) o,Ri (IK ls) (wD (uy F ls a b l) l o) o] b
  (if uy F ls a b l then [Ri (IK ls) (wD (uy F ls a b l) l o) !o,Rj (IK ls) (wD (uy F ls a b l) l o) !o] else [Rj (IK ls) (wD (uy F ls a b l) l o) !o,Ri (IK ls) (wD (uy F ls a b l) l o) !o])
def OF(ls:List ae)(a b:Nat):List Bool:=Se (fj ls) a [false,true] b [false,true]
theorem GB{α:Type}(L:List α)(a:Nat)(x:List α)(b:Nat)(u:List α):(Se L a x b u).length=L.length+x.length+u.length:=by
 unfold Se;split<;>simp only[bl]<;>omega
theorem EF{F:Nat}{ls:List ae}(g:bj F ls)(a b:Nat)(c:Int)(l o:Bool)(sg:Int)(ha:a<ls.length)(hb:b<ls.length)(hl:ls.length<=400):
  aH S 30 [kZ F ls,PT ls (fj ls),dL 7 a b c l o sg] (OH (OD F ls a b l o) (OF ls a b)):=by
 have pf:=wm g ha l;have hd:(aA F ls (if l then 2*a else 2*a+1)).Tl.length<=1000000:=by
  have h:=ia (F:=F) g.ok (adt (yR (F:=F) (ls:=ls) (d:=if l then 2*a else 2*a+1) (by split<;>omega)));have nJ:(ah ls).length<=ls.length:=cn ls ls.length;simp only[nD] at h;omega
 have ph:=rn (aA F ls (if l then 2*a else 2*a+1)).Tl (2*b) hd;have pcr:=js (F:Int) ls (by omega);have Wt:aD ae.aJ ls<=ls.length:=dS _ _;have w0:IntKind.i64.wrap (2*(b:Int))=((2*b:Nat):Int):=dd (by omega) (by omega);have w1:IntKind.i64.wrap (((aD ae.aJ ls/2:Nat):Int)+1)=((aD ae.aJ ls/2:Nat):Int)+1:=dd (by omega) (by omega);have w2:IntKind.i64.wrap (((aD ae.aJ ls/2:Nat):Int)+2)=((aD ae.aJ ls/2:Nat):Int)+2:=dd (by omega) (by omega);have w3:IntKind.i64.wrap (-1)= -1:=by decide
 have w4:IntKind.i64.wrap (- -1)=1:=by decide
 have w5:IntKind.i64.wrap (Int.negSucc 0)= -1:=by decide
 have w6:IntKind.i64.wrap 1=1:=by decide
 have l1:S.lone 1920064320=false:=by kernel_rfl
 have l2:S.lone 1921024320=false:=by kernel_rfl
 have l3:S.lone 1921024640=false:=by kernel_rfl
 have l4:S.lone 1921088320=false:=by kernel_rfl
 have l5:S.lone 1921088640=false:=by kernel_rfl
 have d0:=bJ ls;have q1: ∀ (i s i' s':Int) (o o':Bool),aH S 29 [PT ls (fj ls),vi a, .agg [.p (.int .i64 2), .p (.int .i64 0), .p (.int .i64 0), .p (.int .i64 i), .p (.int .i64 s), .p (.bool o)], .agg [.p (.int .i64 2), .p (.int .i64 0), .p (.int .i64 0), .p (.int .i64 i'), .p (.int .i64 s'), .p (.bool o')],vb false] (OH (dQ ls [⟨2,0,0,i,s,o⟩,⟨2,0,0,i',s',o'⟩] a) (dQ (fj ls) [false,true] a)):=fun i s i' s' o o'=>by
  have h:=lI ls (fj ls) a ⟨2,0,0,i,s,o⟩ ⟨2,0,0,i',s',o'⟩ false (by omega) d0 ha;rw[dY (iT (n:=ls.length+1) (by rw[bl];rfl)) (by rw[bl,bl,d0];rfl)] at h;exact h
 have q2: ∀ (i s i' s':Int) (o o':Bool),aH S 29 [PT ls (fj ls),vi b, .agg [.p (.int .i64 2), .p (.int .i64 0), .p (.int .i64 0), .p (.int .i64 i), .p (.int .i64 s), .p (.bool o)], .agg [.p (.int .i64 2), .p (.int .i64 0), .p (.int .i64 0), .p (.int .i64 i'), .p (.int .i64 s'), .p (.bool o')],vb false] (OH (dQ ls [⟨2,0,0,i,s,o⟩,⟨2,0,0,i',s',o'⟩] b) (dQ (fj ls) [false,true] b)):=fun i s i' s' o o'=>by
  have h:=lI ls (fj ls) b ⟨2,0,0,i,s,o⟩ ⟨2,0,0,i',s',o'⟩ false (by omega) d0 hb;rw[dY (iT (n:=ls.length+1) (by rw[bl];rfl)) (by rw[bl,bl,d0];rfl)] at h;exact h
 have q3: ∀ (x y:ae) (i s i' s':Int) (o o':Bool),aH S 29 [PT (dQ ls [x,y] a) (dQ (fj ls) [false,true] a),vi b, .agg [.p (.int .i64 2), .p (.int .i64 0), .p (.int .i64 0), .p (.int .i64 i), .p (.int .i64 s), .p (.bool o)], .agg [.p (.int .i64 2), .p (.int .i64 0), .p (.int .i64 0), .p (.int .i64 i'), .p (.int .i64 s'), .p (.bool o')],vb false] (OH (dQ (dQ ls [x,y] a) [⟨2,0,0,i,s,o⟩,⟨2,0,0,i',s',o'⟩] b) (dQ (dQ (fj ls) [false,true] a) [false,true] b)):=fun x y i s i' s' o o'=>by
  have h:=lI (dQ ls [x,y] a) (dQ (fj ls) [false,true] a) b ⟨2,0,0,i,s,o⟩ ⟨2,0,0,i',s',o'⟩ false (by rw[bl];simp;omega) (by rw[bl,bl,d0];rfl) (by rw[bl];omega);rw[dY (iT (n:=ls.length+3) (by rw[bl,bl];rfl)) (by rw[bl,bl,bl,bl,d0];rfl)] at h;exact h
 have q4: ∀ (x y:ae) (i s i' s':Int) (o o':Bool),aH S 29 [PT (dQ ls [x,y] b) (dQ (fj ls) [false,true] b),vi a, .agg [.p (.int .i64 2), .p (.int .i64 0), .p (.int .i64 0), .p (.int .i64 i), .p (.int .i64 s), .p (.bool o)], .agg [.p (.int .i64 2), .p (.int .i64 0), .p (.int .i64 0), .p (.int .i64 i'), .p (.int .i64 s'), .p (.bool o')],vb false] (OH (dQ (dQ ls [x,y] b) [⟨2,0,0,i,s,o⟩,⟨2,0,0,i',s',o'⟩] a) (dQ (dQ (fj ls) [false,true] b) [false,true] a)):=fun x y i s i' s' o o'=>by
  have h:=lI (dQ ls [x,y] b) (dQ (fj ls) [false,true] b) a ⟨2,0,0,i,s,o⟩ ⟨2,0,0,i',s',o'⟩ false (by rw[bl];simp;omega) (by rw[bl,bl,d0];rfl) (by rw[bl];omega);rw[dY (iT (n:=ls.length+3) (by rw[bl,bl];rfl)) (by rw[bl,bl,bl,bl,d0];rfl)] at h;exact h
 unfold OD OF uy IK Se Rj Ri;generalize aD ae.aJ ls/2=cc at*;generalize aA F ls (if l then 2*a else 2*a+1)=f at*;generalize decide (2*b∈f.Tl)=hh at*;refine aG c30 ?_;simp only[go_sem,i30,s59,bx pf l1 (.inl rfl),w0,s57,aw ph];refine⟨au,?_⟩;have bft:(false==true)=false:=rfl;have btf:(true==false)=false:=rfl;have aeD:(false !=true)=true:=rfl;have aeC:(true !=false)=true:=rfl;have btt:(true !=true)=false:=rfl;have bff:(false !=false)=false:=rfl;have WP:(b:Int)<(a:Int)↔b<a:=by omega
 cases l<;>cases o<;>cases hh<;>by_cases hba:b<a<;>simp only[go_sem,wD,aeD,aeC,hba,WP,w1,w2,Int.neg_neg,Int.reduceNeg,s28,aS pcr,s29,iJ (q1 _ _ _ _ _ _) l2 (.inr (fq _ _)),iJ (q3 _ _ _ _ _ _ _ _) l3 (.inr (fq _ _)),iJ (q2 _ _ _ _ _ _) l4 (.inr (fq _ _)),iJ (q4 _ _ _ _ _ _ _ _) l5 (.inr (fq _ _)),cU,eR]
 all_goals(refine⟨au,au,au,?_⟩;simp[en,et,cb,dg,eo,af,apart,eZ,cX,cU,eR]<;>rfl)
end Go.Abs
