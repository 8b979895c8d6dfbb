/-
  Which slides are possible.
-/
import Derived.Test.YtnbfnkckmfibpaaGreatDoorVd
set_option linter.unusedSimpArgs false
set_option linter.unusedVariables false
set_option linter.unusedSectionVars false
set_option maxRecDepth 100000
set_option maxHeartbeats 16000000
namespace Go.Abs
section
variable {F:Nat} {ls:List ae}
theorem I6(f:Nat->Bool)(l:List Nat)(k e:Nat)(h:l[k]? =some e):(l.take (k+1)).all f=((l.take k).all f&&f e):=by
 rw[aaX,h];simp
abbrev QO(f:Fc)(e:Nat):Bool:= !(decide (2*e∈f.Tl)==decide (2*e+1∈f.Tl))
theorem EI(g:bj F ls)(pl:Nat)(es:List Nat)(UL: ∀ e∈es,e<ls.length)(TS:es.length<=1000):aH S 129 [kZ F ls, .one (.p (.sl (nP es))),vi pl] (rb (jZ F ls pl es)):=by
 have hlen:=g.len;have WM:(ay F ls).length<=1000000:=by
  have h1:=g.nw;have h2:=dS ae.bq ls;have h3:=dS ae.aJ ls;rw[mz];omega
 refine aG c129 ?_;simp only[go_sem,i129];refine be (fun i env Tc=>env 1= .one (.p (.sl (nP es)))/\env 2=vi pl/\env 3= .one (.Tn 8256000000 1 0)/\env 7=vi i/\Tc 8256000000=(1,some (.var (Ps F ls)))/\ ∀ j f,j<i->(ay F ls)[j]? =some f->pI pl es f=false) 0 (ay F ls).length (aah _) ?_ ?_
 ·simp only[go_sem];exact⟨rfl,fun j f hj=>absurd hj (abl j)⟩
 ·rintro i env Tc hi ⟨h1,h2,h3,h7,b0,hn⟩
  by_cases Ti:i<(ay F ls).length
  ·have Tk:((i:Int)<((ay F ls).length:Int)):=by omega
   obtain⟨f,hf⟩:=ao Ti;have T1:=wh hf;have w1:=am (n:=i) (by omega);have hdl:f.Tl.length<=1000000:=by
    have h9:f.Tl.length<=2*ls.length+2*(ah ls).length:=ia g.ok (aaf hf);have nJ:(ah ls).length<=ls.length:=cn ls ls.length;omega
   have hon:pI pl es f=((((f.Tl.length:Int)==(es.length:Int))&&((f.places.length:Int)==(pl:Int)))&&es.all (QO f)):=by
    unfold pI;rw[mj,mj,Bool.and_assoc]
   generalize hc0:(((f.Tl.length:Int)==(es.length:Int))&&((f.places.length:Int)==(pl:Int)))=c0 at hon;have key: ∀ TI Tq g1,TI 1= .one (.p (.sl (nP es)))->TI 2=vi pl->TI 3= .one (.Tn 8256000000 1 0)->TI 7=vi i->Tq 8256000000=(1,some (.var (Ps F ls)))->TI 8= .one (.Tn 8256256320 g1 0)->TI 9=vb c0->TI 10=vi 0->Tq 8256256320=(g1,some (.var [.p (.bool f.Tu), .p (.sl (nP f.Tl)), .p (.sl (fv f.places)), .p (.sl (nP f.TF)), .p (.bool f.outer)]))->
     W S .all (.loop i129_l1) (ey 2 (lu S .all i129_r2 (ey 1 (lu S .all i129_r3 (Ce (ay F ls).length (fun i env Tc=>env 1= .one (.p (.sl (nP es)))/\env 2=vi pl/\env 3= .one (.Tn 8256000000 1 0)/\env 7=vi i/\Tc 8256000000=(1,some (.var (Ps F ls)))/\ ∀ j f,j<i->(ay F ls)[j]? =some f->pI pl es f=false) i (ey 0 (lu S .all i129_r5 (pj .all [(6,none)] fun v Tc=>en Tc v=some (rb (jZ F ls pl es)))))))))) TI Tq:=by
    intro TI Tq g1 k1 k2 k3 k7 kb k8 k9 k10 k8b;refine be (fun k env Tc=>env 1= .one (.p (.sl (nP es)))/\env 2=vi pl/\env 3= .one (.Tn 8256000000 1 0)/\env 7=vi i/\Tc 8256000000=(1,some (.var (Ps F ls)))/\env 8= .one (.Tn 8256256320 g1 0)/\env 9=vb (c0&&(es.take k).all (QO f))/\env 10=vi k/\Tc 8256256320=(g1,some (.var [.p (.bool f.Tu), .p (.sl (nP f.Tl)), .p (.sl (fv f.places)), .p (.sl (nP f.TF)), .p (.bool f.outer)]))) 0 es.length (aah _) ⟨k1,k2,k3,k7,kb,k8,by rw[k9];simp,k10,k8b⟩ ?_;rintro k Tz Tp hk ⟨k1,k2,k3,k7,kb,k8,k9,k10,k8b⟩
    by_cases aeh:k<es.length
    ·have adn:((k:Int)<(es.length:Int)):=by omega
     obtain⟨e,he⟩:=ao aeh;have Vo:=UL e (aaf he);have hnp:=cN he;have wk:=am (n:=k) (by omega);have m2:=bX (a:=e) (by omega);have m3:=am (n:=2*e) (by omega);have p1:=rn f.Tl (2*e) hdl;have p2:=rn f.Tl (2*e+1) hdl;have hs:=I6 (QO f) es k e he;generalize (es.take k).all (QO f)=x at k9 hs;cases hcx:(c0&&x) with
     |false=>
      rw[hcx] at k9;have hv:(c0&&(x&&QO f e))=false:=by rw[<- Bool.and_assoc,hcx];rfl
      simp only[go_sem,i129_l1,k1,k2,k3,k7,kb,k8,k9,k10,k8b,aeh,adn,wk,hs,hv];exact au
     |true=>
      rw[hcx] at k9;have hv:(c0&&(x&&QO f e))=QO f e:=by rw[<- Bool.and_assoc,hcx];rfl
      simp only[go_sem,i129_l1,k1,k2,k3,k7,kb,k8,k9,k10,k8b,aeh,adn,wk,hs,hv,hnp,m2,m3,s57,aw p1,aw p2];exact au
    ·have:k=es.length:=by omega
     subst this;rw[aa7,<- hon] at k9;cases hv:pI pl es f with
     |true=>
      have ha:jZ F ls pl es=true:=acu.2 ⟨f,aaf hf,hv⟩;rw[hv] at k9;simp only[go_sem,i129_l1,i129_r2,k1,k9,k10,aN,ha]
     |false=>
      rw[hv] at k9;simp only[go_sem,i129_l1,i129_r2,i129_r3,k1,k2,k3,k7,kb,k9,k10,aN,w1,Ti];intro j f' hj hf';rcases aaW.1 hj with h|rfl
      ·exact hn j f' h hf'
      ·rw[hf] at hf';cases hf';exact hv
   cases hA:((f.Tl.length:Int)==(es.length:Int)) with
   |false=>
    rw[hA] at hc0;simp only[Bool.false_and] at hc0;subst hc0;simp only[go_sem,i129_l4,h1,h3,h7,b0,Tk,T1,Fc.ps,hA];refine key _ _ ((Tc 8256256320).1+1) ?_ ?_ ?_ ?_ ?_ ?_ ?_ ?_ ?_ <;>simp only[go_sem,h1,h2,h3,h7,b0]
   |true=>
    rw[hA] at hc0;simp only[acm] at hc0;simp only[go_sem,i129_l4,h1,h2,h3,h7,b0,Tk,T1,Fc.ps,hA,hc0];refine key _ _ ((Tc 8256256320).1+1) ?_ ?_ ?_ ?_ ?_ ?_ ?_ ?_ ?_ <;>simp only[go_sem,h1,h2,h3,h7,b0]
  ·have:i=(ay F ls).length:=by omega
   subst this;have ha:jZ F ls pl es=false:=by
    cases h:jZ F ls pl es with
    |false=>rfl
    |true=>
     obtain⟨f,hf,h2⟩:=acu.1 h;obtain⟨j,hj⟩:=aaC hf;rw[hn j f (aag.1 hj).1 hj] at h2;cases h2
   simp only[go_sem,i129_l4,i129_r5,h3,h7,b0,aN,ha]
end
section
variable {F:Nat} {ls:List ae}
theorem Gi(g:bj F ls){i:Nat}(h:i<ls.length):Sa (lA ls i):=by
 have hp:=eB (dD h);exact gK g _ (aaf hp)
theorem nv{e:Nat}(he:e<ls.length):nx ls e<ls.length:=aax _ (by omega)
theorem KK(g:bj F ls){e:Nat}(he:e<ls.length):Sa (fy ls e).2.1:=by
 unfold fy;split
 ·exact Gi g he
 ·exact Gi g (nv he)
def Qw(F:Nat)(ls:List ae)(a b:Nat):Bool:=(fy ls a).2.2&&((fy ls b).2.2&&(((fy ls a).1.id==(fy ls b).1.id)&&(!((fy ls a).1.over==(fy ls b).1.over)&&(lG (fy ls a).2.1 (fy ls b).2.1&&jZ F ls 1 [a,b]))))
theorem JX(g:bj F ls){av bv:Nat}(ha:av<ls.length)(hb:bv<ls.length):aH S 94 [kZ F ls,vi av,vi bv] (rb (Qw F ls av bv)):=by
 have hlen:=g.len;have pa:=ur (F:=F) ha (by omega);have pb:=ur (F:=F) hb (by omega);have pn:=KH _ _ (KK g ha) (KK g hb);have po:=EI g 1 [av,bv] (by simp;omega) (by simp);simp only[aas,aaG] at po;have c1:((1:Nat):Int)=1:=rfl;rw[c1] at po;unfold Qw;generalize fy ls av=M at*;generalize fy ls bv=K at*;obtain⟨x,p,is⟩:=M;obtain⟨y,q,too⟩:=K;simp only at pa pb pn po ⊢;refine aG c94 ?_;simp only[go_sem,i94,s25,ai pa (fk _ _ _),ai pb (fk _ _ _)]
 repeat' ((first|apply gO|apply gQ|apply gT|apply gU|apply gV|apply gX)<;>intro he<;>simp only[go_sem, *,s93,aa pn,s129,aa po])
 all_goals(first|done|exact au|exact⟨au,rfl⟩|rfl)
def Rh(F:Nat)(ls:List ae)(a b:Nat):Bool:=
 xB ls a&&(xB ls b&&(!((lA ls a).id==(lA ls (nx ls a)).id)&&(!((((a+2)%ls.length:Nat):Int)==(b:Int))&&(!((((b+2)%ls.length:Nat):Int)==(a:Int))&&
  (((((lA ls a).id==(lA ls b).id)&&((lA ls (nx ls a)).id==(lA ls (nx ls b)).id))||(((lA ls a).id==(lA ls (nx ls b)).id)&&((lA ls (nx ls a)).id==(lA ls b).id)))&&
   (((lA ls a).over==(lA ls (nx ls a)).over)&&(((lA ls b).over==(lA ls (nx ls b)).over)&&(!((lA ls a).over==(lA ls b).over)&&jZ F ls 0 [a,b]))))))))
theorem NN(g:bj F ls){av bv:Nat}(ha:av<ls.length)(hb:bv<ls.length):aH S 96 [kZ F ls,vi av,vi bv] (rb (Rh F ls av bv)):=by
 have hlen:=g.len;have pa:=oR (F:=F) ha (by omega);have pb:=oR (F:=F) hb (by omega);have po:=EI g 0 [av,bv] (by simp;omega) (by simp);simp only[aas,aaG] at po;have c1:((0:Nat):Int)=0:=rfl;rw[c1] at po;have hz: ¬ ((ls.length:Int)=0):=by omega
 have e2w:IntKind.i64.wrap ((av:Int)+2)=((av+2:Nat):Int):=(dd (x:=(av:Int)+2) (by omega) (by omega)).trans (by omega);have e2m:=dq (av+2) ls.length;have e3w:IntKind.i64.wrap ((bv:Int)+2)=((bv+2:Nat):Int):=(dd (x:=(bv:Int)+2) (by omega) (by omega)).trans (by omega);have e3m:=dq (bv+2) ls.length;unfold Rh;generalize xB ls av=is at*;generalize xB ls bv=too at*;generalize lA ls av=x at*;generalize lA ls (nx ls av)=y at*;generalize lA ls bv=u at*;generalize lA ls (nx ls bv)=v at*;refine aG c96 ?_
 simp only[go_sem,i96,s95,ai pa (fk _ _ _),ai pb (fk _ _ _)];repeat' ((first|apply gO|apply gQ|apply gT|apply gU|apply gV|apply gX)<;>intro he<;>simp only[go_sem, *,s129,aa po])
 all_goals(first|done|exact au|exact⟨au,rfl⟩|rfl)
end
end Go.Abs
