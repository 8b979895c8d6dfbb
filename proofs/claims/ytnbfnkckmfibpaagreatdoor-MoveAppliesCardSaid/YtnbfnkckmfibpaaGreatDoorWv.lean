/-
  A pass that goes over a tip.
-/
import Derived.Test.YtnbfnkckmfibpaaGreatDoorWt
set_option linter.unusedSimpArgs false
set_option linter.unusedVariables false
set_option linter.unusedSectionVars false
set_option maxRecDepth 100000
set_option maxHeartbeats 16000000
namespace Go.Abs
def pH(l:List Pc)(i:Nat)(g r:Int):List Pc:=l.set i {(l.getD i ⟨hH,false⟩) with l:={(l.getD i ⟨hH,false⟩).l with gate:=g,Th:=r}}
def Qj(F:Nat)(ls:List ae)(av:Nat):Option (List Pc):=
 if ((pA ls av).l.kind==1)&&(decide ((pA ls av).l.gate<(F:Int))&&((pA ls av).l.Th==(cg ls (pA ls av).l.gate.toNat:Int)))
 then some (pH (aU (pieces ls) ((pA ls av).l.gate+1) 0 1) av ((pA ls av).l.gate+1) 1) else none
theorem Qm{F:Nat}{ls:List ae}(g:bj F ls){av:Nat}(ha:av<ls.length){b c:Int}{l o:Bool}{sg:Int}:
  aH S 83 [.one (.p (ew F ls)),dL 9 av b c l o sg] (kR (Qj F ls av)):=by
 unfold Qj;have hlen:=g.len;have TD:=aF ls;obtain⟨p,hp⟩:=ao (ls:=pieces ls) (k:=av) (by omega);have T1:=bR hp;have TA:pieces ls≠[]:=abn.1 (by omega);have pcl:=rI TA (by omega);have lo:S.lone 5312256256=false:=by kernel_rfl
 have T4:S.Tf 115=true:=by kernel_rfl
 have VU:=gK g;rw[iA hp];refine aG c83 ?_;cases c1:(p.l.kind==1) with
 |false=>
  have n1:(p.l.kind !=1)=true:=by simp[bne,c1]
  simp only[go_sem,i83,T1,Pc.ps,n1];exact⟨au,rfl⟩
 |true=>
 have n1:(p.l.kind !=1)=false:=by simp[bne,c1]
 obtain⟨i,l0,Ys,Xs⟩:=vq (aaf hp);have hgp:jq F ls p.l:=by rw[Xs];exact g.ok.ax.good l0 (aaf Ys) (by rw[Xs] at c1;exact c1)
 obtain⟨G,hG⟩:=aa8 hgp.g0;have hGF:G<=F:=by have:=hgp.g1;omega
 have UK:=g.fing;have wG:=am (n:=G) (by omega);have Wu:=cN (iZ (ls:=ls) hGF);have WQ:G<(counts ls F).length:=by simp[counts];omega
 have eG:p.l.gate.toNat=G:=by rw[hG];rfl
 rw[eG];by_cases c2:G<F
 ·have n2:((G:Int)<(F:Int)):=by omega
  have d2:decide (p.l.gate<(F:Int))=true:=decide_eq_true (by rw[hG];exact n2);cases c3:(p.l.Th==(cg ls G:Int)) with
  |false=>
   simp only[go_sem,i83,T1,Pc.ps,n1,hG,s117];refine⟨au,?_⟩;refine fQ pcl lo (.inl rfl) fun cc Ue gc UF=> ?_
   have b3:=UF 5312000000 (by decide);have b6:=UF 5312064512 (by decide);simp only[go_sem] at b3 b6;simp only[go_sem,b3,b6,n2,Wu,c3];exact⟨au,rfl⟩
  |true=>
   have eg1:p.l.gate+1=((G+1:Nat):Int):=by rw[hG];omega
   rw[d2,eg1];simp only[go_sem,i83,T1,Pc.ps,n1,s117];refine⟨au,?_⟩;refine fQ pcl lo (.inl rfl) fun cc Ue gc UF=> ?_
   have b3:=UF 5312000000 (by decide);have b6:=UF 5312064512 (by decide);simp only[go_sem] at b3 b6;simp only[go_sem,b3,b6,hG,n2,Wu,c3,wG,T4];refine⟨au,?_⟩;refine lL (l:=pieces ls) (by omega) (by decide) VU gc fun Tq gc1 Tw=> ?_
   have b3':=(Tw 5312000000 (by decide)).trans b3;have b6':=(Tw 5312064512 (by decide)).trans b6;rcases gc1 with ⟨e,_⟩|⟨_,gg,e,hC⟩
   ·exact absurd (by simpa [aU] using e) TA
   ·cases e
    have Vi:(aU (pieces ls) ((G+1:Nat):Int) 0 1).length=ls.length:=by rw[aak,TD]
    obtain⟨x,hx⟩:=ao (ls:=aU (pieces ls) ((G+1:Nat):Int) 0 1) (k:=av) (by omega);have e0:pH (aU (pieces ls) ((G+1:Nat):Int) 0 1) av ((G+1:Nat):Int) 1=(aU (pieces ls) ((G+1:Nat):Int) 0 1).set av {x with l:={x.l with gate:=((G+1:Nat):Int),Th:=1}}:=by
     unfold pH;rw[aap,hx];rfl
    rw[e0];generalize aU (pieces ls) ((G+1:Nat):Int) 0 1=m at hC Vi hx ⊢;have Vl:=bR hx;have s1:=iz m av {x with l:={x.l with gate:=((G+1:Nat):Int)}};have VS:(m.set av {x with l:={x.l with gate:=((G+1:Nat):Int)}})[av]? =some {x with l:={x.l with gate:=((G+1:Nat):Int)}}:=by rw[aa3,if_pos rfl,if_pos (by omega)]
    have aaK:=bR VS;have s2:=iz (m.set av {x with l:={x.l with gate:=((G+1:Nat):Int)}}) av {x with l:={x.l with gate:=((G+1:Nat):Int),Th:=1}};rw[List.set_set] at s2;simp only[Pc.ps] at s1 s2 aaK;have l1:av<m.length:=by omega
    simp only[go_sem,b3',b6',hC,Vi,ha,Vl,aaK,Pc.ps,hG,s1,s2,wG];refine⟨au,?_⟩;refine aR (.inr ⟨?_,gg,by rw[aaS,aak,aaD,Vi],rfl⟩);intro h2;have:=congrArg List.length h2;rw[aaS,aak,aaD,Vi,aav] at this;omega
 ·have n2: ¬ ((G:Int)<(F:Int)):=by omega
  have d2:decide (p.l.gate<(F:Int))=false:=decide_eq_false (by rw[hG];exact n2);simp only[go_sem,i83,T1,Pc.ps,n1,s117];refine⟨au,?_⟩;refine fQ pcl lo (.inl rfl) fun cc Ue gc UF=> ?_
  have b3:=UF 5312000000 (by decide);have b6:=UF 5312064512 (by decide);simp only[go_sem] at b3 b6;simp only[go_sem,b3,b6,hG,n2];exact⟨au,rfl⟩
def Ql(ls:List ae)(av:Nat):Option (List Pc):=
 if ((pA ls av).l.kind==1)&&(decide (0<(pA ls av).l.gate)&&((pA ls av).l.Th==1))
 then some (pH (aU (pieces ls) (pA ls av).l.gate 1 (-1)) av ((pA ls av).l.gate - 1) ((cg ls ((pA ls av).l.gate - 1).toNat+1:Nat):Int)) else none
theorem Qn{F:Nat}{ls:List ae}(g:bj F ls){av:Nat}(ha:av<ls.length){b c:Int}{l o:Bool}{sg:Int}:
  aH S 83 [.one (.p (ew F ls)),dL 10 av b c l o sg] (kR (Ql ls av)):=by
 unfold Ql;have hlen:=g.len;have TD:=aF ls;obtain⟨p,hp⟩:=ao (ls:=pieces ls) (k:=av) (by omega);have T1:=bR hp;have TA:pieces ls≠[]:=abn.1 (by omega);have pcl:=rI TA (by omega);have lo:S.lone 5312256256=false:=by kernel_rfl
 have T4:S.Tf 115=true:=by kernel_rfl
 have VU:=gK g;rw[iA hp];refine aG c83 ?_;cases c1:(p.l.kind==1) with
 |false=>
  have n1:(p.l.kind !=1)=true:=by simp[bne,c1]
  simp only[go_sem,i83,T1,Pc.ps,n1];exact⟨au,rfl⟩
 |true=>
 have n1:(p.l.kind !=1)=false:=by simp[bne,c1]
 obtain⟨i,l0,Ys,Xs⟩:=vq (aaf hp);have hgp:jq F ls p.l:=by rw[Xs];exact g.ok.ax.good l0 (aaf Ys) (by rw[Xs] at c1;exact c1)
 obtain⟨G,hG⟩:=aa8 hgp.g0;have hGF:G<=F:=by have:=hgp.g1;omega
 have UK:=g.fing;by_cases c2:0<G
 ·have n2:((0:Int)<(G:Int)):=by omega
  obtain⟨H,rfl⟩: ∃ H,G=H+1:=⟨G - 1,by omega⟩;have d2:decide (0<p.l.gate)=true:=decide_eq_true (by rw[hG];exact n2);have wG:=fU (a:=H+1) (by omega) (by omega);rw[Nat.add_sub_cancel] at wG;have Wu:=cN (iZ (ls:=ls) (show H<=F by omega));have WQ:H<(counts ls F).length:=by simp[counts];omega
  have Uk:cg ls H<=ls.length:=dS _ _;have wC:=am (n:=cg ls H) (by omega);have eg1:p.l.gate - 1=(H:Int):=by rw[hG];omega
  cases c3:(p.l.Th==1) with
  |false=>
   simp only[go_sem,i83,T1,Pc.ps,n1,hG,s117];refine⟨au,?_⟩;refine fQ pcl lo (.inl rfl) fun cc Ue gc UF=> ?_
   have b3:=UF 5312000000 (by decide);have b6:=UF 5312064512 (by decide);simp only[go_sem] at b3 b6;simp only[go_sem,b3,b6,n2,c3];first|exact⟨au,rfl⟩|rfl
  |true=>
   rw[d2,eg1,hG,abm];simp only[go_sem,i83,T1,Pc.ps,n1,s117];refine⟨au,?_⟩;refine fQ pcl lo (.inl rfl) fun cc Ue gc UF=> ?_
   have b3:=UF 5312000000 (by decide);have b6:=UF 5312064512 (by decide);simp only[go_sem] at b3 b6;simp only[go_sem,b3,b6,hG,n2,c3,T4];refine⟨au,?_⟩;refine lL (l:=pieces ls) (by omega) (by decide) VU gc fun Tq gc1 Tw=> ?_
   have b3':=(Tw 5312000000 (by decide)).trans b3;have b6':=(Tw 5312064512 (by decide)).trans b6;rcases gc1 with ⟨e,_⟩|⟨_,gg,e,hC⟩
   ·exact absurd (by simpa [aU] using e) TA
   ·cases e
    have Vi:(aU (pieces ls) ((H+1:Nat):Int) 1 (-1)).length=ls.length:=by rw[aak,TD]
    obtain⟨x,hx⟩:=ao (ls:=aU (pieces ls) ((H+1:Nat):Int) 1 (-1)) (k:=av) (by omega);have e0:pH (aU (pieces ls) ((H+1:Nat):Int) 1 (-1)) av (H:Int) ((cg ls H+1:Nat):Int)=(aU (pieces ls) ((H+1:Nat):Int) 1 (-1)).set av {x with l:={x.l with gate:=(H:Int),Th:=((cg ls H+1:Nat):Int)}}:=by
     unfold pH;rw[aap,hx];rfl
    rw[e0];generalize aU (pieces ls) ((H+1:Nat):Int) 1 (-1)=m at hC Vi hx ⊢;have Vl:=bR hx;have s1:=iz m av {x with l:={x.l with gate:=(H:Int)}};have VS:(m.set av {x with l:={x.l with gate:=(H:Int)}})[av]? =some {x with l:={x.l with gate:=(H:Int)}}:=by rw[aa3,if_pos rfl,if_pos (by omega)]
    have aaK:=bR VS;have s2:=iz (m.set av {x with l:={x.l with gate:=(H:Int)}}) av {x with l:={x.l with gate:=(H:Int),Th:=((cg ls H+1:Nat):Int)}};rw[List.set_set] at s2;simp only[Pc.ps] at s1 s2 aaK;have l1:av<m.length:=by omega
    simp only[go_sem,b3',b6',hC,Vi,ha,Vl,aaK,Pc.ps,hG,s1,s2,wG,Wu,wC];refine⟨au,?_⟩;refine aR (.inr ⟨?_,gg,by rw[aaS,aak,aaD,Vi],rfl⟩);intro h2;have:=congrArg List.length h2;rw[aaS,aak,aaD,Vi,aav] at this;omega
 ·have n2: ¬ ((0:Int)<(G:Int)):=by omega
  have d2:decide (0<p.l.gate)=false:=decide_eq_false (by rw[hG];exact n2);simp only[go_sem,i83,T1,Pc.ps,n1,s117];refine⟨au,?_⟩;refine fQ pcl lo (.inl rfl) fun cc Ue gc UF=> ?_
  have b3:=UF 5312000000 (by decide);have b6:=UF 5312064512 (by decide);simp only[go_sem] at b3 b6;simp only[go_sem,b3,b6,hG,n2];first|exact⟨au,rfl⟩|rfl
end Go.Abs
