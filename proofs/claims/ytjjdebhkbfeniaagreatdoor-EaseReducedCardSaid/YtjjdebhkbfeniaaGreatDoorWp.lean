/-
  A part of a proof.
-/
import Derived.Test.YtjjdebhkbfeniaaGreatDoorWo
set_option linter.unusedSimpArgs false
set_option linter.unusedVariables false
set_option linter.unusedSectionVars false
set_option maxRecDepth 100000
set_option maxHeartbeats 16000000
namespace Go.Abs
theorem wrapI{x:Int}(h1: -9223372036854775808≤x)(h2:x≤9223372036854775807):IntKind.i64.wrap x=x:=by
 have e:(2 ^ IntKind.i64.bits:Int)=18446744073709551616:=by decide
 have e2:(2 ^ (IntKind.i64.bits - 1):Int)=9223372036854775808:=by decide
 unfold IntKind.wrap;simp only[e,e2];by_cases h:0≤x
 ·have h3:x%18446744073709551616=x:=by omega
  rw[h3];have h4: ¬ x≥9223372036854775808:=by omega
  simp[h4]
 ·have h3:x%18446744073709551616=x+18446744073709551616:=by omega
  rw[h3];have h4:x+18446744073709551616≥9223372036854775808:=by omega
  have h5:IntKind.i64.signed=true:=rfl;simp[h4,h5]
theorem sc_pc(l:List Pc):((pcP l).all fun e=>e.all PV.scalar)=true:=by simp[Pc.ps,PV.scalar]
abbrev insAt(l x:List Pc)(k:Nat):List Pc:=l.take (k+1)++x++l.drop (k+1)
theorem pcP_app(a b:List Pc):pcP (a++b)=pcP a++pcP b:=by simp
def shP(g ab b:Int)(p:Pc):Pc:=if (p.l.kind==1)&&((p.l.gate==g)&&decide (ab<p.l.rank)) then {p with l:={p.l with rank:=p.l.rank+b}} else p
abbrev shiftL(l:List Pc)(g ab b:Int):List Pc:=l.map (shP g ab b)
def shPost(id:Nat)(es:List (List PV))(c:C)(blk:Blk)(v:V)(blk':Blk):Prop:=v= .tup []∧grown id pcTy 7 es (.one c) blk'∧Kept (· =id) blk blk'
theorem shift_s{al:Al}{blk:Blk}{id:Nat}{l:List Pc}{c:C}{g ab b:Int}(o:l=[]∨al.ok id=true)(hl:l.length≤1000000)(hb: -100≤b∧b≤100)(hr: ∀ p∈l,-1000000≤p.l.rank∧p.l.rank≤1000000)(h:grown id pcTy 7 (pcP l) (.one c) blk):
  ∃ v blk',SEv S 129 [.one c,vi g,vi ab,vi b] al blk v blk'∧shPost id (pcP (shiftL l g ab b)) c blk v blk':=by
 refine SEv_fn c129 (Nat.le_of_ble_eq_true rfl) ?_;rcases h with ⟨h1,h2⟩|⟨hne,gg,h2,hC⟩
 ·cases h2
  have hln:l=[]:=by simpa using h1
  subst hln;have hz: ¬ (((0:Nat):Int)<((0:Nat):Int)):=by omega
  simp only[go_sem,i129,planAppend,szOK];refine R_for (fun k env blk'=>k=0∧env 10=vi ((0:Nat):Int)∧env 11=vi ((0:Nat):Int)∧blk'=blk) 0 0 (Nat.le_refl _) ?_ ?_
  ·simp only[go_sem];exact rfl
  ·rintro k env blk' _ ⟨rfl,h10,h11,rfl⟩
   simp only[go_sem,i129_l1,h10,h11,hz,planAppend,szOK];exact⟨rfl, .inl ⟨rfl,rfl⟩,fun _ _=>rfl⟩
 ·cases h2
  have o:=o.resolve_left (by simpa using hne);simp only[go_sem,i129,planAppend,szOK];refine R_for (fun k env blk'=>env 0= .one (.hsl id gg 7 0 l.length)∧env 1=vi g∧env 2=vi ab∧env 3=vi b∧env 10=vi l.length∧env 11=vi k∧blk' id=(gg,some (.arr pcTy 7 (pcP ((shiftL (l.take k) g ab b)++l.drop k))))∧Kept (· =id) blk blk') 0 l.length (Nat.zero_le _) ?_ ?_
  ·simp only[go_sem,hC];refine⟨?_,?_⟩
   ·simp[shiftL]
   ·exact Kept.refl _ _
  ·rintro k env blk' hk ⟨h0,h1,h2,h3,h10,h11,hF,hkp⟩
   by_cases hlt:k<l.length
   ·have hlt':((k:Int)<(l.length:Int)):=by omega
    obtain⟨p,hp⟩:=at_lt hlt;have w1:=wrap_succ (n:=k) (by omega);obtain⟨r1,r2⟩:=hr p (List.mem_of_getElem? hp);have wr:=wrapI (x:=p.l.rank+b) (by omega) (by omega);have hdr:l.drop k=p::l.drop (k+1):=by
     obtain⟨hh,rfl⟩:=List.getElem?_eq_some_iff.1 hp;exact List.drop_eq_getElem_cons hh
    have hlen:((shiftL (l.take k) g ab b)++l.drop k).length=l.length:=by simp[shiftL];omega
    have hat:((shiftL (l.take k) g ab b)++l.drop k)[k]? =some p:=by
     rw[List.getElem?_append_right (by simp[shiftL];omega)];have:k - (shiftL (l.take k) g ab b).length=0:=by simp[shiftL];omega
     rw[this,hdr];rfl
    have hset:((shiftL (l.take k) g ab b)++l.drop k).set k (shP g ab b p)=(shiftL (l.take (k+1)) g ab b)++l.drop (k+1):=by
     have e1:(shiftL (l.take k) g ab b).length=k:=by simp[shiftL];omega
     rw[List.set_append_right _ _ (by omega),e1,Nat.sub_self,hdr,List.set_cons_zero,List.take_add_one,hp];simp[shiftL]
    have hpp:=pcP_at hat;have hnext:pcP (((shiftL (l.take k) g ab b)++l.drop k).set k (shP g ab b p))=(pcP ((shiftL (l.take k) g ab b)++l.drop k)).set k (shP g ab b p).ps:=by simp[pcP,List.map_set]
    rw[hset] at hnext;have hsame:shP g ab b p=p→pcP ((shiftL (l.take k) g ab b)++l.drop k)=pcP ((shiftL (l.take (k+1)) g ab b)++l.drop (k+1)):=fun e=>by
     rw[hnext,e];obtain⟨hh,he⟩:=List.getElem?_eq_some_iff.1 hpp;rw[← he,List.set_getElem_self]
    generalize (shiftL (l.take k) g ab b)++l.drop k=m at hF hat hpp hnext hsame hlen;have hml:k<(pcP m).length:=by rw[List.length_map];omega
    cases c1:(p.l.kind==1) with
    |false=>
     have e:=hsame (by unfold shP;rw[c1];rfl);simp only[go_sem,i129_l1,h0,h1,h2,h3,h10,h11,hF,hpp,Pc.ps,hlt,hlt',c1,w1,o,planAppend,szOK];exact⟨by rw[e],hkp⟩
    |true=>
     cases c2:(p.l.gate==g) with
     |false=>
      have e:=hsame (by unfold shP;rw[c1,c2];rfl);simp only[go_sem,i129_l1,h0,h1,h2,h3,h10,h11,hF,hpp,Pc.ps,hlt,hlt',c1,c2,w1,o,planAppend,szOK];exact⟨by rw[e],hkp⟩
     |true=>
      by_cases c3:ab<p.l.rank
      ·have e:(shP g ab b p).ps=[.int .i64 p.l.kind, .int .i64 p.l.gate, .int .i64 (p.l.rank+b), .int .i64 p.l.id, .int .i64 p.l.sign, .bool p.l.over, .bool p.d]:=by unfold shP;rw[c1,c2,decide_eq_true c3];rfl
       rw[e] at hnext;simp only[go_sem,i129_l1,h0,h1,h2,h3,h10,h11,hF,hpp,Pc.ps,hlt,hlt',c1,c2,c3,w1,wr,o,hml,planAppend,szOK];refine⟨?_,?_⟩
       ·first|rw[hnext]|(rw[hnext];rfl)
       ·exact hkp.upd rfl _
      ·have e:=hsame (by unfold shP;rw[c1,c2,decide_eq_false c3];rfl);simp only[go_sem,i129_l1,h0,h1,h2,h3,h10,h11,hF,hpp,Pc.ps,hlt,hlt',c1,c2,c3,w1,o,planAppend,szOK];exact⟨by rw[e],hkp⟩
   ·have:k=l.length:=by omega
    subst this;simp only[go_sem,i129_l1,h0,h1,h2,h3,h10,h11,no_more,planAppend,szOK];refine⟨rfl,?_,hkp⟩;rw[List.take_length,List.drop_length,List.append_nil] at hF;exact .inr ⟨by simpa using hne,gg,by simp[shiftL],hF⟩
def pdn(p:Pc):Bool:=(p.l.kind==1)&&p.d
def pdA(l:List Pc)(i:Nat):Bool:=match l[i]? with|some p=>pdn p|none=>false
theorem pdA_of{l:List Pc}{i:Nat}{p:Pc}(h:l[i]? =some p):pdA l i=pdn p:=by simp[pdA,h]
def firstD(l:List Pc):Option Nat:=(List.range l.length).find? (pdA l)
theorem down1_p(p:Pc):PEv S 112 [.agg (p.ps.map .p)] (rb (pdn p)):=by
 refine pev1 c112 ?_;unfold pdn;cases h:(p.l.kind==1) with
 |true=>simp only[go_sem,i112,Pc.ps,h,planAppend,szOK]
 |false=>simp only[go_sem,i112,Pc.ps,h,planAppend,szOK]
theorem index_p(l:List Pc)(hl:l.length≤1000000):PEv S 111 [.one (.p (.sl (pcP l))), .one (.p (.fn 112 [] []))] (ri (match firstD l with|some k=>(k:Int)|none=> -1)):=by
 refine pev1 c111 ?_;simp only[go_sem,i111,planAppend,szOK];refine R_for (fun k env blk=>env 0= .one (.p (.sl (pcP l)))∧env 1= .one (.p (.fn 112 [] []))∧env 7=vi l.length∧env 8=vi k∧ ∀ j,j<k→pdA l j=false) 0 l.length (Nat.zero_le _) ?_ ?_
 ·simp only[go_sem];exact⟨rfl,fun j hj=>absurd hj (Nat.not_lt_zero j)⟩
 ·rintro k env blk hk ⟨h0,h1,h7,h8,hn⟩
  by_cases hlt:k<l.length
  ·have hlt':((k:Int)<(l.length:Int)):=by omega
   obtain⟨p,hp⟩:=at_lt hlt;have hpp:=pcP_at hp;have w1:=wrap_succ (n:=k) (by omega);have pd:=down1_p p;have hpd:=pdA_of hp;cases hb:pdn p with
   |true=>
    rw[hb] at pd hpd;have hf:firstD l=some k:=find_range hlt hn hpd;simp only[Pc.ps,List.map_cons,List.map_nil] at pd;simp only[go_sem,i111_l1,h0,h1,h7,h8,hlt,hlt',hpp,Pc.ps,s112,gP_bool pd,hf,planAppend,szOK]
   |false=>
    rw[hb] at pd hpd;simp only[Pc.ps,List.map_cons,List.map_nil] at pd;simp only[go_sem,i111_l1,h0,h1,h7,h8,hlt,hlt',hpp,Pc.ps,s112,gP_bool pd,w1,planAppend,szOK];intro j hj;rcases Nat.lt_succ_iff_lt_or_eq.1 hj with h|rfl
    ·exact hn j h
    ·exact hpd
  ·have:k=l.length:=by omega
   subst this;have hf:firstD l=none:=find_range_none hn;simp only[go_sem,i111_l1,i111_r2,h0,h1,h7,h8,no_more,hf,planAppend,szOK]
abbrev lsTy:Nat:=55
def rotK(l:List Pc)(from' k:Nat):List Let:=(List.range k).map fun i=>(l.getD ((from'+i)%l.length) ⟨noLet,false⟩).l
theorem rotK_succ{l:List Pc}{f k:Nat}{p:Pc}(h:l[(f+k)%l.length]? =some p):rotK l f (k+1)=rotK l f k++[p.l]:=by
 simp[rotK,List.range_succ,List.getD_eq_getElem?_getD,h]
def finL(l:List Pc):List Let:=rotK l ((firstD l).getD 0) l.length
abbrev letP(o:List Let):List (List PV):=o.map Let.ps
theorem grown_outA{s1 t1 z1:Nat}{es:List (List PV)}{c:C}{x:PV}{blk:Blk}(h:grown s1 t1 z1 es (.one c) blk):outV blk (.agg [.p x,c])=some (.agg [.p x,grownR t1 z1 es]):=by
 obtain⟨c',o,hc,h2,h3⟩:=h.outC;cases hc
 rcases h3 with rfl|rfl<;>simp[outV,flatV,flatV1,outCs,h2,(show Go.Abs.outC blk (.p x)=some (.p x,[],[]) from rfl),apart,reshR,reshR1]
theorem finished_p(F:Nat)(l:List Pc)(hl:l.length≤1000000)(x1 x2 x3 x4 x5 x6:PV):PEv S 78 [.one (.p (.box [.int .i64 F,x1,x2,x3,x4,x5,x6])), .one (.p (.sl (pcP l)))] (.agg [.p (.int .i64 F),grownR lsTy 6 (letP (finL l))]):=by
 have px:=index_p l hl;have hfd: ∃ f,(firstD l).getD 0=f∧(l≠[]→f<l.length):=by
  refine⟨_,rfl,fun hne=> ?_⟩;cases h:firstD l with
  |none=>exact List.length_pos_iff.2 hne
  |some k=>exact List.mem_range.1 (List.mem_of_find?_eq_some h)
 obtain⟨f,hf,hfl⟩:=hfd;have hmx:((firstD l=none∧f=0)∨firstD l=some f):=by
  cases h:firstD l with
  |none=>rw[h] at hf;exact .inl ⟨rfl,hf.symm⟩
  |some k=>rw[h] at hf;exact .inr (congrArg some hf)
 unfold finL;rw[hf];have main: ∀ (env:Env) (blk:Blk),env 1= .one (.p (.sl (pcP l)))→env 4= .one (.href 4992000000 1 0)→env 5= .one (.href 4992064320 1 0)→env 6=vi f→env 17=vi l.length→env 18=vi ((0:Nat):Int)→blk 4992000000=(1,some (.var [.p (.int .i64 0), .p .nils]))→blk 4992064320=(1,some (.var [.p (.int .i64 F), .p .nils]))→
   W S .all (.loop i78_l1) (blockQ 0 (thenW S .all i78_r2 (endQ .all [(4,some (some 2))] fun v blk=>outV blk v=some (.agg [.p (.int .i64 F),grownR lsTy 6 (letP (rotK l f l.length))])))) env blk:=by
  intro env blk e1 e4 e5 e6 e17 e18 b0 bO;refine R_for (fun k env blk=>env 1= .one (.p (.sl (pcP l)))∧env 4= .one (.href 4992000000 1 0)∧env 5= .one (.href 4992064320 1 0)∧env 6=vi f∧env 17=vi l.length∧env 18=vi k∧blk 4992000000=(1,some (.var [.p (.int .i64 0), .p .nils]))∧ ∃ c,blk 4992064320=(1,some (.var [.p (.int .i64 F),c]))∧grown 4992384832 lsTy 6 (letP (rotK l f k)) (.one c) blk) 0 l.length (Nat.zero_le _) ⟨e1,e4,e5,e6,e17,e18,b0, .p .nils,bO, .inl ⟨rfl,rfl⟩⟩ ?_;rintro k env blk hk ⟨h1,h4,h5,h6,h17,h18,b0,c,bO,gc⟩
  by_cases hlt:k<l.length
  ·have hlt':((k:Int)<(l.length:Int)):=by omega
   have hne:l≠[]:=List.length_pos_iff.1 (by omega);have hfl:=hfl hne;have w1:=wrap_succ (n:=k) (by omega);have w2:=wrap_add (a:=f) (b:=k) (by omega);have e2:=tmod_nat (f+k) l.length;have hm:=Nat.mod_lt (f+k) (show 0<l.length by omega);obtain⟨p,hp⟩:=at_lt hm;have hpp:=pcP_at hp;have hz: ¬ ((l.length:Int)=0):=by omega
   have hr:=rotK_succ hp;have hle:(rotK l f k).length=k:=by simp[rotK]
   simp only[go_sem,i78_l1,h1,h4,h5,h6,h17,h18,bO,b0,hlt,hlt',w2,e2,hm,hz,hpp,Pc.ps];refine dP_app (site:=4992384832) (id:=4992384832) (bytes:=48) (xs:=[p.l.ps]) (rd:=[4992384768]) (gc.of_eq (upd_ne (by decide))) (by simp[elemsOf,upd_apply,Let.ps]) (.inl rfl) (by simp only[List.length_map,hle,List.length_cons,List.length_nil];omega) fun c' blk1 r u hc hb hru=> ?_
   have bO1:=(hb 4992064320 (by decide) (by decide)).trans ((upd_ne (by decide)).trans bO);have b01:=(hb 4992000000 (by decide) (by decide)).trans ((upd_ne (by decide)).trans b0);simp only[go_sem,h1,h4,h5,h6,h17,h18,bO1,b01,hlt,w1];refine⟨?_,c',rfl,?_⟩
   ·rcases hru with ⟨rfl,rfl⟩|⟨rfl,rfl⟩|⟨rfl,rfl⟩<;>kernel_rfl
   ·rw[hr,letP,List.map_append];exact hc.of_eq (upd_ne (by decide))
  ·have:k=l.length:=by omega
   subst this;simp only[go_sem,i78_l1,i78_r2,h1,h4,h5,h6,h17,h18,bO,b0,no_more];exact grown_outA (gc.of_eq (upd_ne (by decide)))
 refine pev1 c78 ?_;rcases hmx with ⟨hn,rfl⟩|hs
 ·rw[hn] at px;have hmax: ¬ ((0:Int)< -1):=by decide
  simp only[go_sem,i78,s111,gP_int px];exact main _ _ (by simp only[go_sem]) (by simp only[go_sem]) (by simp only[go_sem]) (by simp only[go_sem];rfl) (by simp only[go_sem]) (by simp only[go_sem];rfl) (by simp only[go_sem]) (by simp only[go_sem])
 ·rw[hs] at px;simp only[go_sem,i78,s111,gP_int px];exact main _ _ (by simp only[go_sem]) (by simp only[go_sem]) (by simp only[go_sem]) (by simp only[go_sem];split<;>(first|rfl|(congr 1;simp;omega))) (by simp only[go_sem]) (by simp only[go_sem];rfl) (by simp only[go_sem]) (by simp only[go_sem])
theorem kinds_p:PEv S 76 [] (.agg [.p .nilf, .p (.fn 102 [] []), .p (.fn 103 [] []), .p (.fn 104 [] []), .p (.fn 105 [] []), .p (.fn 106 [] []), .p (.fn 107 [] []), .p (.fn 108 [] []), .p (.fn 109 [] []), .p (.fn 110 [] []), .p (.fn 110 [] [])]):=by
 refine pev1 c76 ?_;simp only[go_sem,i76,planAppend,szOK];rfl
def growsR(k:Int):Int × Int:=if k=2 then (2,0) else if k=5 then (2,1) else if k=7 then (4,2) else (0,0)
theorem grows_p(k:Int):PEv S 77 [vi k] (.tup [.one (.p (.int .i64 (growsR k).1)), .one (.p (.int .i64 (growsR k).2))]):=by
 refine pev1 c77 ?_;unfold growsR;by_cases h2:k=2
 ·subst h2;simp only[go_sem,i77,planAppend,szOK];rfl
 by_cases h5:k=5
 ·subst h5;simp only[go_sem,i77,planAppend,szOK];rfl
 by_cases h7:k=7
 ·subst h7;simp only[go_sem,i77,planAppend,szOK];rfl
 rw[if_neg h2,if_neg h5,if_neg h7];have e2:(k==2)=false:=by simpa using h2
 have e5:(k==5)=false:=by simpa using h5
 have e7:(k==7)=false:=by simpa using h7
 simp only[go_sem,i77,e2,e5,e7,planAppend,szOK];rfl
end Go.Abs
