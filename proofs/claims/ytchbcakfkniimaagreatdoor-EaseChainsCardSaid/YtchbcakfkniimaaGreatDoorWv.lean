/-
  A part of a proof.
-/
import Derived.Test.YtchbcakfkniimaaGreatDoorWt
set_option linter.unusedSimpArgs false
set_option linter.unusedVariables false
set_option linter.unusedSectionVars false
set_option maxRecDepth 100000
set_option maxHeartbeats 16000000
namespace Go.Abs
def setGR(l:List Pc)(i:Nat)(g r:Int):List Pc:=l.set i {(l.getD i ⟨noLet,false⟩) with l:={(l.getD i ⟨noLet,false⟩).l with gate:=g,rank:=r}}
def trR(F:Nat)(ls:List Let)(av:Nat):Option (List Pc):=
 if ((pA ls av).l.kind==1)&&(decide ((pA ls av).l.gate<(F:Int))&&((pA ls av).l.rank==(cg ls (pA ls av).l.gate.toNat:Int)))
 then some (setGR (shiftL (pieces ls) ((pA ls av).l.gate+1) 0 1) av ((pA ls av).l.gate+1) 1) else none
theorem tipR_p{F:Nat}{ls:List Let}(g:Fine F ls){av:Nat}(ha:av<ls.length){b c:Int}{l o:Bool}{sg:Int}:
  PEv S 89 [.one (.p (brdV F ls)),mvV 9 av b c l o sg] (kR (trR F ls av)):=by
 unfold trR;have hlen:=g.len;have hpl:=pieces_len ls;obtain⟨p,hp⟩:=at_lt (ls:=pieces ls) (k:=av) (by omega);have hpp:=pcP_at hp;have hne:pieces ls≠[]:=List.length_pos_iff.1 (by omega);have pcl:=clone_g hne (by omega);have lo:S.lone 5696256256=false:=by kernel_rfl
 have hsh:S.shared 107=true:=by kernel_rfl
 have hrb:=rank_bound g;rw[pA_of hp];refine pev1 c89 ?_;cases c1:(p.l.kind==1) with
 |false=>
  have n1:(p.l.kind !=1)=true:=by simp[bne,c1]
  simp only[go_sem,i89,hpp,Pc.ps,n1];exact⟨okd,rfl⟩
 |true=>
 have n1:(p.l.kind !=1)=false:=by simp[bne,c1]
 obtain⟨i,l0,hl0,hpe⟩:=piece_of (List.mem_of_getElem? hp);have hgp:goodP F ls p.l:=by rw[hpe];exact g.ok.ax.good l0 (List.mem_of_getElem? hl0) (by rw[hpe] at c1;exact c1)
 obtain⟨G,hG⟩:=Int.eq_ofNat_of_zero_le hgp.g0;have hGF:G≤F:=by have:=hgp.g1;omega
 have hfing:=g.fing;have wG:=wrap_succ (n:=G) (by omega);have hca:=nP_at (counts_at (ls:=ls) hGF);have hGF':G<(counts ls F).length:=by simp[counts];omega
 have eG:p.l.gate.toNat=G:=by rw[hG];rfl
 rw[eG];by_cases c2:G<F
 ·have n2:((G:Int)<(F:Int)):=by omega
  have d2:decide (p.l.gate<(F:Int))=true:=decide_eq_true (by rw[hG];exact n2);cases c3:(p.l.rank==(cg ls G:Int)) with
  |false=>
   simp only[go_sem,i89,hpp,Pc.ps,n1,hG,s109];refine⟨okd,?_⟩;refine gP_g1 pcl lo (.inl rfl) fun cc blk0 gc hb0=> ?_
   have b3:=hb0 5696000000 (by decide);have b6:=hb0 5696064512 (by decide);simp only[go_sem] at b3 b6;simp only[go_sem,b3,b6,n2,hca,c3];exact⟨okd,rfl⟩
  |true=>
   have eg1:p.l.gate+1=((G+1:Nat):Int):=by rw[hG];omega
   rw[d2,eg1];simp only[go_sem,i89,hpp,Pc.ps,n1,s109];refine⟨okd,?_⟩;refine gP_g1 pcl lo (.inl rfl) fun cc blk0 gc hb0=> ?_
   have b3:=hb0 5696000000 (by decide);have b6:=hb0 5696064512 (by decide);simp only[go_sem] at b3 b6;simp only[go_sem,b3,b6,hG,n2,hca,c3,wG,hsh];refine⟨okd,?_⟩;refine gP_shift (l:=pieces ls) (by omega) (by decide) hrb gc fun blk1 gc1 hb1=> ?_
   have b3':=(hb1 5696000000 (by decide)).trans b3;have b6':=(hb1 5696064512 (by decide)).trans b6;rcases gc1 with ⟨e,_⟩|⟨_,gg,e,hC⟩
   ·exact absurd (by simpa [shiftL] using e) hne
   ·cases e
    have hml:(shiftL (pieces ls) ((G+1:Nat):Int) 0 1).length=ls.length:=by rw[List.length_map,hpl]
    obtain⟨x,hx⟩:=at_lt (ls:=shiftL (pieces ls) ((G+1:Nat):Int) 0 1) (k:=av) (by omega);have e0:setGR (shiftL (pieces ls) ((G+1:Nat):Int) 0 1) av ((G+1:Nat):Int) 1=(shiftL (pieces ls) ((G+1:Nat):Int) 0 1).set av {x with l:={x.l with gate:=((G+1:Nat):Int),rank:=1}}:=by
     unfold setGR;rw[List.getD_eq_getElem?_getD,hx];rfl
    rw[e0];generalize shiftL (pieces ls) ((G+1:Nat):Int) 0 1=m at hC hml hx ⊢;have hxp:=pcP_at hx;have s1:=pcP_set m av {x with l:={x.l with gate:=((G+1:Nat):Int)}};have hx1:(m.set av {x with l:={x.l with gate:=((G+1:Nat):Int)}})[av]? =some {x with l:={x.l with gate:=((G+1:Nat):Int)}}:=by rw[List.getElem?_set,if_pos rfl,if_pos (by omega)]
    have hxp1:=pcP_at hx1;have s2:=pcP_set (m.set av {x with l:={x.l with gate:=((G+1:Nat):Int)}}) av {x with l:={x.l with gate:=((G+1:Nat):Int),rank:=1}};rw[List.set_set] at s2;simp only[Pc.ps] at s1 s2 hxp1;have l1:av<m.length:=by omega
    simp only[go_sem,b3',b6',hC,hml,ha,hxp,hxp1,Pc.ps,hG,s1,s2,wG];refine⟨okd,?_⟩;refine grown_out1 (.inr ⟨?_,gg,by rw[Option.getD_some,List.length_map,List.length_set,hml],rfl⟩);intro h2;have:=congrArg List.length h2;rw[Option.getD_some,List.length_map,List.length_set,hml,List.length_nil] at this;omega
 ·have n2: ¬ ((G:Int)<(F:Int)):=by omega
  have d2:decide (p.l.gate<(F:Int))=false:=decide_eq_false (by rw[hG];exact n2);simp only[go_sem,i89,hpp,Pc.ps,n1,s109];refine⟨okd,?_⟩;refine gP_g1 pcl lo (.inl rfl) fun cc blk0 gc hb0=> ?_
  have b3:=hb0 5696000000 (by decide);have b6:=hb0 5696064512 (by decide);simp only[go_sem] at b3 b6;simp only[go_sem,b3,b6,hG,n2];exact⟨okd,rfl⟩
def tlR(ls:List Let)(av:Nat):Option (List Pc):=
 if ((pA ls av).l.kind==1)&&(decide (0<(pA ls av).l.gate)&&((pA ls av).l.rank==1))
 then some (setGR (shiftL (pieces ls) (pA ls av).l.gate 1 (-1)) av ((pA ls av).l.gate - 1) ((cg ls ((pA ls av).l.gate - 1).toNat+1:Nat):Int)) else none
theorem tipL_p{F:Nat}{ls:List Let}(g:Fine F ls){av:Nat}(ha:av<ls.length){b c:Int}{l o:Bool}{sg:Int}:
  PEv S 89 [.one (.p (brdV F ls)),mvV 10 av b c l o sg] (kR (tlR ls av)):=by
 unfold tlR;have hlen:=g.len;have hpl:=pieces_len ls;obtain⟨p,hp⟩:=at_lt (ls:=pieces ls) (k:=av) (by omega);have hpp:=pcP_at hp;have hne:pieces ls≠[]:=List.length_pos_iff.1 (by omega);have pcl:=clone_g hne (by omega);have lo:S.lone 5696256256=false:=by kernel_rfl
 have hsh:S.shared 107=true:=by kernel_rfl
 have hrb:=rank_bound g;rw[pA_of hp];refine pev1 c89 ?_;cases c1:(p.l.kind==1) with
 |false=>
  have n1:(p.l.kind !=1)=true:=by simp[bne,c1]
  simp only[go_sem,i89,hpp,Pc.ps,n1];exact⟨okd,rfl⟩
 |true=>
 have n1:(p.l.kind !=1)=false:=by simp[bne,c1]
 obtain⟨i,l0,hl0,hpe⟩:=piece_of (List.mem_of_getElem? hp);have hgp:goodP F ls p.l:=by rw[hpe];exact g.ok.ax.good l0 (List.mem_of_getElem? hl0) (by rw[hpe] at c1;exact c1)
 obtain⟨G,hG⟩:=Int.eq_ofNat_of_zero_le hgp.g0;have hGF:G≤F:=by have:=hgp.g1;omega
 have hfing:=g.fing;by_cases c2:0<G
 ·have n2:((0:Int)<(G:Int)):=by omega
  obtain⟨H,rfl⟩: ∃ H,G=H+1:=⟨G - 1,by omega⟩;have d2:decide (0<p.l.gate)=true:=decide_eq_true (by rw[hG];exact n2);have wG:=wrap_pred (a:=H+1) (by omega) (by omega);rw[Nat.add_sub_cancel] at wG;have hca:=nP_at (counts_at (ls:=ls) (show H≤F by omega));have hGF':H<(counts ls F).length:=by simp[counts];omega
  have hcl:cg ls H≤ls.length:=cnt_le _ _;have wC:=wrap_succ (n:=cg ls H) (by omega);have eg1:p.l.gate - 1=(H:Int):=by rw[hG];omega
  cases c3:(p.l.rank==1) with
  |false=>
   simp only[go_sem,i89,hpp,Pc.ps,n1,hG,s109];refine⟨okd,?_⟩;refine gP_g1 pcl lo (.inl rfl) fun cc blk0 gc hb0=> ?_
   have b3:=hb0 5696000000 (by decide);have b6:=hb0 5696064512 (by decide);simp only[go_sem] at b3 b6;simp only[go_sem,b3,b6,n2,c3];first|exact⟨okd,rfl⟩|rfl
  |true=>
   rw[d2,eg1,hG,Int.toNat_natCast];simp only[go_sem,i89,hpp,Pc.ps,n1,s109];refine⟨okd,?_⟩;refine gP_g1 pcl lo (.inl rfl) fun cc blk0 gc hb0=> ?_
   have b3:=hb0 5696000000 (by decide);have b6:=hb0 5696064512 (by decide);simp only[go_sem] at b3 b6;simp only[go_sem,b3,b6,hG,n2,c3,hsh];refine⟨okd,?_⟩;refine gP_shift (l:=pieces ls) (by omega) (by decide) hrb gc fun blk1 gc1 hb1=> ?_
   have b3':=(hb1 5696000000 (by decide)).trans b3;have b6':=(hb1 5696064512 (by decide)).trans b6;rcases gc1 with ⟨e,_⟩|⟨_,gg,e,hC⟩
   ·exact absurd (by simpa [shiftL] using e) hne
   ·cases e
    have hml:(shiftL (pieces ls) ((H+1:Nat):Int) 1 (-1)).length=ls.length:=by rw[List.length_map,hpl]
    obtain⟨x,hx⟩:=at_lt (ls:=shiftL (pieces ls) ((H+1:Nat):Int) 1 (-1)) (k:=av) (by omega);have e0:setGR (shiftL (pieces ls) ((H+1:Nat):Int) 1 (-1)) av (H:Int) ((cg ls H+1:Nat):Int)=(shiftL (pieces ls) ((H+1:Nat):Int) 1 (-1)).set av {x with l:={x.l with gate:=(H:Int),rank:=((cg ls H+1:Nat):Int)}}:=by
     unfold setGR;rw[List.getD_eq_getElem?_getD,hx];rfl
    rw[e0];generalize shiftL (pieces ls) ((H+1:Nat):Int) 1 (-1)=m at hC hml hx ⊢;have hxp:=pcP_at hx;have s1:=pcP_set m av {x with l:={x.l with gate:=(H:Int)}};have hx1:(m.set av {x with l:={x.l with gate:=(H:Int)}})[av]? =some {x with l:={x.l with gate:=(H:Int)}}:=by rw[List.getElem?_set,if_pos rfl,if_pos (by omega)]
    have hxp1:=pcP_at hx1;have s2:=pcP_set (m.set av {x with l:={x.l with gate:=(H:Int)}}) av {x with l:={x.l with gate:=(H:Int),rank:=((cg ls H+1:Nat):Int)}};rw[List.set_set] at s2;simp only[Pc.ps] at s1 s2 hxp1;have l1:av<m.length:=by omega
    simp only[go_sem,b3',b6',hC,hml,ha,hxp,hxp1,Pc.ps,hG,s1,s2,wG,hca,wC];refine⟨okd,?_⟩;refine grown_out1 (.inr ⟨?_,gg,by rw[Option.getD_some,List.length_map,List.length_set,hml],rfl⟩);intro h2;have:=congrArg List.length h2;rw[Option.getD_some,List.length_map,List.length_set,hml,List.length_nil] at this;omega
 ·have n2: ¬ ((0:Int)<(G:Int)):=by omega
  have d2:decide (0<p.l.gate)=false:=decide_eq_false (by rw[hG];exact n2);simp only[go_sem,i89,hpp,Pc.ps,n1,s109];refine⟨okd,?_⟩;refine gP_g1 pcl lo (.inl rfl) fun cc blk0 gc hb0=> ?_
  have b3:=hb0 5696000000 (by decide);have b6:=hb0 5696064512 (by decide);simp only[go_sem] at b3 b6;simp only[go_sem,b3,b6,hG,n2];first|exact⟨okd,rfl⟩|rfl
end Go.Abs
