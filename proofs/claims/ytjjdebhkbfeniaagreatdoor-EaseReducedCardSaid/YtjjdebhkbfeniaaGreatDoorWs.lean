/-
  A part of a proof.
-/
import Derived.Test.YtjjdebhkbfeniaaGreatDoorWq
set_option linter.unusedSimpArgs false
set_option linter.unusedVariables false
set_option linter.unusedSectionVars false
set_option maxRecDepth 100000
set_option maxHeartbeats 16000000
namespace Go.Abs
section
variable{F:Nat}{ls:List Let}
def keepAt(l:List Pc)(drop:Nat→Pc→Bool)(i:Nat):Option Pc:=match l[i]? with|some p=>if drop i p then none else some p|none=>none
def keepK(l:List Pc)(drop:Nat→Pc→Bool)(k:Nat):List Pc:=(List.range k).filterMap (keepAt l drop)
def keepL(l:List Pc)(drop:Nat→Pc→Bool):List Pc:=keepK l drop l.length
theorem keepK_drop{l:List Pc}{drop:Nat→Pc→Bool}{k:Nat}{p:Pc}(h:l[k]? =some p)(hd:drop k p=true):keepK l drop (k+1)=keepK l drop k:=by
 simp[keepK,List.range_succ,List.filterMap_append,keepAt,h,hd]
theorem keepK_keep{l:List Pc}{drop:Nat→Pc→Bool}{k:Nat}{p:Pc}(h:l[k]? =some p)(hd:drop k p=false):keepK l drop (k+1)=keepK l drop k++[p]:=by
 simp[keepK,List.range_succ,List.filterMap_append,keepAt,h,hd]
theorem keepK_len(l:List Pc)(drop:Nat→Pc→Bool)(k:Nat):(keepK l drop k).length≤k:=by
 have:=List.length_filterMap_le (keepAt l drop) (List.range k);rwa[List.length_range] at this
theorem ends_p(g:Fine F ls){e:Nat}(he:e<ls.length):PEv S 126 [.one (.p (brdV F ls)),vi e] (rtup (.int .i64 e) (.int .i64 ((e+1)%ls.length:Nat))):=by
 have hlen:=g.len;have hpl:=pieces_len ls;have w1:=wrap_succ (n:=e) (by omega);have e1:=tmod_nat (e+1) ls.length;have hz: ¬ ((ls.length:Int)=0):=by omega
 refine pev1 c126 ?_;simp only[go_sem,i126,w1,e1,hpl,hz];exact⟨okd,rfl⟩
theorem without2_p(l:List Pc)(hl:l.length≤1000000){f:Nat}{x y:PV}(hn:x.norm=x∧y.norm=y)(hsh:S.shared f=false)(drop:Nat→Pc→Bool)(hd: ∀ (k:Nat) (p:Pc),l[k]? =some p→PEv S f [vi k, .agg (p.ps.map .p), .one (.p x), .one (.p y)] (rb (drop k p))):
  PEv S 127 [.one (.p (.sl (pcP l))), .one (.p (.fn f [] [x,y]))] (.one (grownR pcTy 7 (pcP (keepL l drop)))):=by
 obtain⟨hn0,hn1⟩:=hn;refine pev1 c127 ?_;simp only[go_sem,i127];refine R_for (fun k env blk=>env 1= .one (.p (.fn f [] [x,y]))∧env 8= .one (.p (.sl (pcP l)))∧env 9=vi l.length∧env 10=vi k∧ ∃ c,env 5= .one c∧grown 8128384192 pcTy 7 (pcP (keepK l drop k)) (.one c) blk) 0 l.length (Nat.zero_le _) ?_ ?_
 ·simp only[go_sem];first|exact⟨rfl,_,rfl, .inl ⟨rfl,rfl⟩⟩|exact⟨_,rfl, .inl ⟨rfl,rfl⟩⟩|exact⟨rfl,rfl,_,rfl, .inl ⟨rfl,rfl⟩⟩
 ·rintro k env blk hk ⟨h1,h8,h9,h10,c,h5,gc⟩
  by_cases hlt:k<l.length
  ·have hlt':((k:Int)<(l.length:Int)):=by omega
   obtain⟨p,hp⟩:=at_lt hlt;have hpp:=pcP_at hp;have w1:=wrap_succ (n:=k) (by omega);have pd:=hd k p hp;have hkl:=keepK_len l drop k;simp only[Pc.ps,List.map_cons,List.map_nil] at pd;cases hb:drop k p with
   |true=>
    rw[hb] at pd;have hs:=keepK_drop hp hb;simp only[go_sem,i127_l1,h1,h5,h8,h9,h10,hlt,hlt',hpp,Pc.ps,hn0,hn1,hsh,gP_bool pd,w1];refine⟨c,rfl,?_⟩;rw[hs];exact gc.of_eq (by simp only[upd_apply,Nat.reduceEqDiff,if_false])
   |false=>
    rw[hb] at pd;have hs:=keepK_keep hp hb;simp only[go_sem,i127_l1,h1,h5,h8,h9,h10,hlt',hpp,Pc.ps,hn0,hn1,hsh,gP_bool pd];refine gP_app (site:=8128384192) (id:=8128384192) (bytes:=56) (xs:=[p.ps]) (rd:=[8128384128]) (gc.of_eq (by simp only[upd_apply,Nat.reduceEqDiff,if_false])) (by simp[elemsOf,upd_apply,Pc.ps]) (.inl rfl) (by simp only[List.length_map,List.length_cons,List.length_nil];omega) fun c' blk1 hc hbk=> ?_
    simp only[go_sem,h1,h8,h9,h10,hlt,w1];refine⟨c',rfl,?_⟩;rw[hs,pcP_app];exact hc
  ·have:k=l.length:=by omega
   subst this;simp only[go_sem,i127_l1,i127_r2,h5,h9,h10,no_more];exact grown_out gc
theorem without1_p(l:List Pc)(hl:l.length≤1000000){f:Nat}{x:PV}(hn:x.norm=x)(hsh:S.shared f=false)(drop:Nat→Pc→Bool)(hd: ∀ (k:Nat) (p:Pc),l[k]? =some p→PEv S f [vi k, .agg (p.ps.map .p), .one (.p x)] (rb (drop k p))):
  PEv S 127 [.one (.p (.sl (pcP l))), .one (.p (.fn f [] [x]))] (.one (grownR pcTy 7 (pcP (keepL l drop)))):=by
 have hn0:=hn;refine pev1 c127 ?_;simp only[go_sem,i127];refine R_for (fun k env blk=>env 1= .one (.p (.fn f [] [x]))∧env 8= .one (.p (.sl (pcP l)))∧env 9=vi l.length∧env 10=vi k∧ ∃ c,env 5= .one c∧grown 8128384192 pcTy 7 (pcP (keepK l drop k)) (.one c) blk) 0 l.length (Nat.zero_le _) ?_ ?_
 ·simp only[go_sem];first|exact⟨rfl,_,rfl, .inl ⟨rfl,rfl⟩⟩|exact⟨_,rfl, .inl ⟨rfl,rfl⟩⟩|exact⟨rfl,rfl,_,rfl, .inl ⟨rfl,rfl⟩⟩
 ·rintro k env blk hk ⟨h1,h8,h9,h10,c,h5,gc⟩
  by_cases hlt:k<l.length
  ·have hlt':((k:Int)<(l.length:Int)):=by omega
   obtain⟨p,hp⟩:=at_lt hlt;have hpp:=pcP_at hp;have w1:=wrap_succ (n:=k) (by omega);have pd:=hd k p hp;have hkl:=keepK_len l drop k;simp only[Pc.ps,List.map_cons,List.map_nil] at pd;cases hb:drop k p with
   |true=>
    rw[hb] at pd;have hs:=keepK_drop hp hb;simp only[go_sem,i127_l1,h1,h5,h8,h9,h10,hlt,hlt',hpp,Pc.ps,hn0,hsh,gP_bool pd,w1];refine⟨c,rfl,?_⟩;rw[hs];exact gc.of_eq (by simp only[upd_apply,Nat.reduceEqDiff,if_false])
   |false=>
    rw[hb] at pd;have hs:=keepK_keep hp hb;simp only[go_sem,i127_l1,h1,h5,h8,h9,h10,hlt',hpp,Pc.ps,hn0,hsh,gP_bool pd];refine gP_app (site:=8128384192) (id:=8128384192) (bytes:=56) (xs:=[p.ps]) (rd:=[8128384128]) (gc.of_eq (by simp only[upd_apply,Nat.reduceEqDiff,if_false])) (by simp[elemsOf,upd_apply,Pc.ps]) (.inl rfl) (by simp only[List.length_map,List.length_cons,List.length_nil];omega) fun c' blk1 hc hbk=> ?_
    simp only[go_sem,h1,h8,h9,h10,hlt,w1];refine⟨c',rfl,?_⟩;rw[hs,pcP_app];exact hc
  ·have:k=l.length:=by omega
   subst this;simp only[go_sem,i127_l1,i127_r2,h5,h9,h10,no_more];exact grown_out gc
theorem drop2_p(k i j:Nat)(p:Pc):PEv S 128 [vi k, .agg (p.ps.map .p), .one (.p (.box [.int .i64 i])), .one (.p (.box [.int .i64 j]))] (rb (decide (k=i)||decide (k=j))):=by
 refine pev1 c128 ?_;by_cases h1:k=i
 ·have e1:((k:Int)==(i:Int))=true:=by simp[h1]
  rw[show(decide (k=i)||decide (k=j))=true by simp[h1]];simp only[go_sem,i128,Pc.ps,e1]
 ·have e1:((k:Int)==(i:Int))=false:=by simp;omega
  by_cases h2:k=j
  ·have e2:((k:Int)==(j:Int))=true:=by simp[h2]
   rw[show(decide (k=i)||decide (k=j))=true by simp[h2]];simp only[go_sem,i128,Pc.ps,e1,e2]
  ·have e2:((k:Int)==(j:Int))=false:=by simp;omega
   rw[show(decide (k=i)||decide (k=j))=false by simp[h1,h2]];simp only[go_sem,i128,Pc.ps,e1,e2]
def mxI(a b:Int):Int:=if a<b then b else a
def mnI(a b:Int):Int:=if b<a then b else a
def acR(ls:List Let)(av:Nat):Option (List Pc):=
 let p:=(pieces ls).getD av ⟨noLet,false⟩
 let q:=(pieces ls).getD ((av+1)%ls.length) ⟨noLet,false⟩
 if (p.l.kind==1)&&((q.l.kind==1)&&((p.l.gate==q.l.gate)&&((mxI p.l.rank q.l.rank - mnI p.l.rank q.l.rank==1)&& !(decide (cnt Let.isP ls≤2)&&decide (0<cnt Let.isC ls/2)))))
 then some (shiftL (keepL (pieces ls) fun k _=>decide (k=av)||decide (k=(av+1)%ls.length)) p.l.gate (mxI p.l.rank q.l.rank) (-2)) else none
theorem keepL_mem{l:List Pc}{drop:Nat→Pc→Bool}{p:Pc}(h:p∈keepL l drop):p∈l:=by
 obtain⟨i,_,hi⟩:=List.mem_filterMap.1 h;unfold keepAt at hi;cases hl:l[i]? with
 |none=>rw[hl] at hi;cases hi
 |some q=>
  rw[hl] at hi;simp only at hi;split at hi
  ·cases hi
  ·cases hi;exact List.mem_of_getElem? hl
theorem axisCut_p(g:Fine F ls){av:Nat}(ha:av<ls.length){k b c:Int}{l o:Bool}{sg:Int}:
  PEv S 102 [.one (.p (brdV F ls)),mvV k av b c l o sg] (kR (acR ls av)):=by
 have hlen:=g.len;have hpl:=pieces_len ls;have pe:=ends_p g ha;have hm:=Nat.mod_lt (av+1) (show 0<ls.length by omega);have hrb:=rank_bound g;obtain⟨p,hp⟩:=at_lt (ls:=pieces ls) (k:=av) (by omega);obtain⟨q,hq⟩:=at_lt (ls:=pieces ls) (k:=(av+1)%ls.length) (by omega);obtain⟨p1,p2⟩:=hrb p (List.mem_of_getElem? hp);obtain⟨q1,q2⟩:=hrb q (List.mem_of_getElem? hq);have hpi:=pcP_at hp;have hpj:=pcP_at hq;have hsh:S.shared 129=true:=by kernel_rfl
 have lo:S.lone 6528320320=false:=by kernel_rfl
 have hcr:=g.cr;unfold acR;simp only[List.getD_eq_getElem?_getD,hp,hq,Option.getD_some];refine pev1 c102 ?_;cases c1:(p.l.kind==1) with
 |false=>
  have n1:(p.l.kind !=1)=true:=by simp[bne,c1]
  simp only[go_sem,i102,s126,gP_land pe land_tup,hpi,hpj,Pc.ps,n1];exact⟨okd,rfl⟩
 |true=>
 have n1:(p.l.kind !=1)=false:=by simp[bne,c1]
 cases c2:(q.l.kind==1) with
 |false=>
  have n2:(q.l.kind !=1)=true:=by simp[bne,c2]
  simp only[go_sem,i102,s126,gP_land pe land_tup,hpi,hpj,Pc.ps,n1,n2];exact⟨okd,rfl⟩
 |true=>
 have n2:(q.l.kind !=1)=false:=by simp[bne,c2]
 cases c3:(p.l.gate==q.l.gate) with
 |false=>
  have n3:(p.l.gate !=q.l.gate)=true:=by simp[bne,c3]
  simp only[go_sem,i102,s126,gP_land pe land_tup,hpi,hpj,Pc.ps,n1,n2,n3];exact⟨okd,rfl⟩
 |true=>
 have n3:(p.l.gate !=q.l.gate)=false:=by simp[bne,c3]
 have hmx:(if q.l.rank>p.l.rank then q.l.rank else p.l.rank)=mxI p.l.rank q.l.rank:=rfl;have hmn:(if q.l.rank<p.l.rank then q.l.rank else p.l.rank)=mnI p.l.rank q.l.rank:=rfl;have hmxb: -1000000≤mxI p.l.rank q.l.rank∧mxI p.l.rank q.l.rank≤1000000:=by unfold mxI;split<;>omega
 have hmnb: -1000000≤mnI p.l.rank q.l.rank∧mnI p.l.rank q.l.rank≤1000000:=by unfold mnI;split<;>omega
 have wd:=wrapI (x:=mxI p.l.rank q.l.rank - mnI p.l.rank q.l.rank) (by omega) (by omega);generalize mxI p.l.rank q.l.rank=mx at*;generalize mnI p.l.rank q.l.rank=mn at*;cases c4:(mx - mn==1) with
 |false=>
  have n4:(mx - mn !=1)=true:=by simp[bne,c4]
  simp only[go_sem,i102,s126,gP_land pe land_tup,hpi,hpj,Pc.ps,n1,n2,n3,hmx,hmn,wd,n4];exact⟨okd,rfl⟩
 |true=>
 have n4:(mx - mn !=1)=false:=by simp[bne,c4]
 have good: ∀ (X:Prop),X→X:=fun _ h=>h
 by_cases c5:cnt Let.isP ls≤2
 ·have n5:((cnt Let.isP ls:Int)≤2):=by omega
  by_cases c6:0<cnt Let.isC ls/2
  ·have n6:((0:Int)<((cnt Let.isC ls/2:Nat):Int)):=by omega
   rw[decide_eq_true c5,decide_eq_true c6];simp only[go_sem,i102,s126,gP_land pe land_tup,hpi,hpj,Pc.ps,n1,n2,n3,hmx,hmn,wd,n4,n5,n6];exact⟨okd,rfl⟩
  ·have n6: ¬ ((0:Int)<((cnt Let.isC ls/2:Nat):Int)):=by omega
   rw[decide_eq_true c5,decide_eq_false c6];simp only[go_sem,i102,s126,gP_land pe land_tup,hpi,hpj,Pc.ps,n1,n2,n3,hmx,hmn,wd,n4,n5,n6,s127];refine⟨okd,?_⟩;refine gP_g1 (without2_p (pieces ls) (by omega) ⟨rfl,rfl⟩ s128 (fun k _=>decide (k=av)||decide (k=(av+1)%ls.length)) (fun k p _=>drop2_p k av ((av+1)%ls.length) p)) lo (.inr (alone_grown (sc_pc _))) fun cc blk1 gc hb=> ?_
   have b8:=hb 6528128896 (by decide);have b9:=hb 6528128960 (by decide);simp only[go_sem] at b8 b9;simp only[go_sem,b8,b9,hmx,hsh];refine gP_shift (l:=keepL (pieces ls) fun k _=>decide (k=av)||decide (k=(av+1)%ls.length)) (Nat.le_trans (keepK_len _ _ _) (by omega)) (by decide) (fun x hx=>hrb x (keepL_mem hx)) gc fun blk2 gc2 hb2=> ?_
   simp only[go_sem];exact grown_out1 gc2
 ·have n5: ¬ ((cnt Let.isP ls:Int)≤2):=by omega
  rw[decide_eq_false c5];simp only[go_sem,i102,s126,gP_land pe land_tup,hpi,hpj,Pc.ps,n1,n2,n3,hmx,hmn,wd,n4,n5,s127];refine⟨okd,?_⟩;refine gP_g1 (without2_p (pieces ls) (by omega) ⟨rfl,rfl⟩ s128 (fun k _=>decide (k=av)||decide (k=(av+1)%ls.length)) (fun k p _=>drop2_p k av ((av+1)%ls.length) p)) lo (.inr (alone_grown (sc_pc _))) fun cc blk1 gc hb=> ?_
  have b8:=hb 6528128896 (by decide);have b9:=hb 6528128960 (by decide);simp only[go_sem] at b8 b9;simp only[go_sem,b8,b9,hmx,hsh];refine gP_shift (l:=keepL (pieces ls) fun k _=>decide (k=av)||decide (k=(av+1)%ls.length)) (Nat.le_trans (keepK_len _ _ _) (by omega)) (by decide) (fun x hx=>hrb x (keepL_mem hx)) gc fun blk2 gc2 hb2=> ?_
  simp only[go_sem];exact grown_out1 gc2
abbrev iP(o:List Int):List (List PV):=o.map fun n=>[PV.int .i64 n]
theorem iP_at{o:List Int}{k:Nat}{v:Int}(h:o[k]? =some v):(iP o)[k]? =some [.int .i64 v]:=by simp[h]
def inA(o:List Int)(x:Int)(i:Nat):Bool:=match o[i]? with|some y=>y==x|none=>false
theorem indexI_p(o:List Int)(x:Int)(hl:o.length≤1000000):PEv S 191 [.one (.p (.sl (iP o))),vi x] (ri (match (List.range o.length).find? (inA o x) with|some k=>(k:Int)|none=> -1)):=by
 refine pev1 c191 ?_;simp only[go_sem,i191];refine R_for (fun k env blk=>env 0= .one (.p (.sl (iP o)))∧env 1=vi x∧env 7=vi o.length∧env 8=vi k∧ ∀ j,j<k→inA o x j=false) 0 o.length (Nat.zero_le _) ?_ ?_
 ·simp only[go_sem];exact⟨rfl,fun j hj=>absurd hj (Nat.not_lt_zero j)⟩
 ·rintro k env blk hk ⟨h0,h1,h7,h8,hn⟩
  by_cases hlt:k<o.length
  ·have hlt':((k:Int)<(o.length:Int)):=by omega
   obtain⟨y,hy⟩:=at_lt hlt;have hpp:=iP_at hy;have w1:=wrap_succ (n:=k) (by omega);have hpd:inA o x k=(y==x):=by simp[inA,hy]
   cases hb:(y==x) with
   |true=>
    have hb':(x==y)=true:=by have:=beq_iff_eq.1 hb;simp[this]
    rw[hb] at hpd;have hf:=find_range (p:=inA o x) hlt hn hpd;simp only[go_sem,i191_l1,h0,h1,h7,h8,hlt',hpp,hb',hf];first|done|exact okd|rfl
   |false=>
    have hb':(x==y)=false:=by
     have: ¬ y=x:=by simpa using hb
     simp;exact fun h=>this h.symm
    rw[hb] at hpd;have hn': ∀ j,j<k+1→inA o x j=false:=fun j hj=>by
     rcases Nat.lt_succ_iff_lt_or_eq.1 hj with h|rfl
     ·exact hn j h
     ·exact hpd
    simp only[go_sem,i191_l1,h0,h1,h7,h8,hlt,hlt',hpp,hb',w1];first|exact hn'|exact⟨okd,hn'⟩
  ·have:k=o.length:=by omega
   subst this;have hf:=find_range_none (p:=inA o x) hn;simp only[go_sem,i191_l1,i191_r2,h7,h8,no_more,hf]
theorem containsI_p(o:List Int)(x:Int)(hl:o.length≤1000000):PEv S 163 [.one (.p (.sl (iP o))),vi x] (rb (o.contains x)):=by
 have pi:=indexI_p o x hl;refine pev1 c163 ?_;cases hm:o.contains x with
 |true=>
  have hm':x∈o:=by simpa using hm
  obtain⟨k,hk⟩:=List.getElem?_of_mem hm';have hkl:=(List.getElem?_eq_some_iff.1 hk).1;cases hf:(List.range o.length).find? (inA o x) with
  |none=>
   have:=List.find?_eq_none.1 hf k (List.mem_range.2 hkl);simp[inA,hk] at this
  |some j=>
   rw[hf] at pi;have hge:(0:Int)≤(j:Int):=by omega
   simp only[go_sem,i163,s191,gP_int pi,hge]
 |false=>
  have hm':x∉o:=by simpa using hm
  cases hf:(List.range o.length).find? (inA o x) with
  |some j=>
   have h1:=List.find?_some hf;unfold inA at h1;cases ho:o[j]? with
   |none=>rw[ho] at h1;cases h1
   |some y=>
    rw[ho] at h1;have:y=x:=by simpa using h1
    subst this;exact absurd (List.mem_of_getElem? ho) hm'
  |none=>
   rw[hf] at pi;have hge: ¬ (0:Int)≤ -1:=by decide
   simp only[go_sem,i163,s191,gP_int pi,hge]
def dropI(ids:List Int)(_:Nat)(p:Pc):Bool:=(p.l.kind==2)&&ids.contains p.l.id
theorem dropI_p(ids:List Int)(hl:ids.length≤1000000)(k:Nat)(p:Pc):PEv S 162 [vi k, .agg (p.ps.map .p), .one (.p (.box [.sl (iP ids)]))] (rb (dropI ids k p)):=by
 have pc:=containsI_p ids p.l.id hl;refine pev1 c162 ?_;unfold dropI;cases h:(p.l.kind==2) with
 |true=>simp only[go_sem,i162,Pc.ps,h,s163,gP_bool pc]
 |false=>simp only[go_sem,i162,Pc.ps,h]
def lowK(ids:List Int)(k:Nat)(p:Pc):Pc:={p with l:={p.l with id:=p.l.id - ((ids.take k).countP (fun i=>decide (i<p.l.id)):Nat)}}
def lowP(ids:List Int)(p:Pc):Pc:=if p.l.kind==2 then lowK ids ids.length p else p
abbrev dropL(l:List Pc)(ids:List Int):List Pc:=(keepL l (dropI ids)).map (lowP ids)
abbrev lowM(ids:List Int)(l:List Pc)(k:Nat):List Pc:=(l.take k).map (lowP ids)++l.drop k
theorem lowM_at{ids:List Int}{l:List Pc}{k:Nat}{p:Pc}(h:l[k]? =some p):(lowM ids l k)[k]? =some p:=by
 have hk:=(List.getElem?_eq_some_iff.1 h).1;rw[lowM,List.getElem?_append_right (by rw[List.length_map,List.length_take];omega),List.length_map,List.length_take,Nat.min_eq_left (by omega),Nat.sub_self,List.getElem?_drop];exact h
theorem lowM_len(ids:List Int)(l:List Pc)(k:Nat):(lowM ids l k).length=l.length:=by
 rw[lowM,List.length_append,List.length_map,List.length_take,List.length_drop];omega
theorem lowM_set{ids:List Int}{l:List Pc}{k:Nat}{p:Pc}(h:l[k]? =some p):(lowM ids l k).set k (lowP ids p)=lowM ids l (k+1):=by
 have hk:=(List.getElem?_eq_some_iff.1 h).1;have hdr:l.drop k=p::l.drop (k+1):=by
  obtain⟨hh,rfl⟩:=List.getElem?_eq_some_iff.1 h;exact List.drop_eq_getElem_cons hh
 have e1:((l.take k).map (lowP ids)).length=k:=by rw[List.length_map,List.length_take];omega
 rw[lowM,List.set_append_right _ _ (by omega),e1,Nat.sub_self,hdr,List.set_cons_zero,lowM,List.take_add_one,h];simp
theorem pcP_set(o:List Pc)(k:Nat)(p:Pc):(pcP o).set k p.ps=pcP (o.set k p):=by simp[List.map_set]
theorem dropped_p(l:List Pc)(ids:List Int)(hl:l.length≤1000000)(hi:ids.length≤1000)(hb: ∀ p∈l,-1000000≤p.l.id∧p.l.id≤1000000):
  PEv S 135 [.one (.p (.sl (pcP l))), .one (.p (.sl (iP ids)))] (.one (grownR pcTy 7 (pcP (dropL l ids)))):=by
 have pw:=without1_p l hl (f:=162) (x:= .box [.sl (iP ids)]) rfl s162 (dropI ids) (fun k p _=>dropI_p ids (by omega) k p);have lo:S.lone 8640064128=false:=by kernel_rfl
 have hmem: ∀ p∈keepL l (dropI ids),-1000000≤p.l.id∧p.l.id≤1000000:=fun p hp=>hb p (keepL_mem hp)
 have hkl:(keepL l (dropI ids)).length≤1000000:=Nat.le_trans (keepK_len _ _ _) hl;refine pev1 c135 ?_;simp only[go_sem,i135,s127];refine gP_g1 pw lo (.inr (alone_grown (sc_pc _))) fun cc blk0 gc hb0=> ?_
 have z3:=hb0 8640000000 (by decide);simp only[go_sem] at z3;unfold dropL;generalize keepL l (dropI ids)=m at gc hmem hkl;rcases gc with ⟨e,e2⟩|⟨hne,gg,e2,hC⟩
 ·cases e2
  have:m=[]:=by simpa using e
  subst this;have hz: ¬ (((0:Nat):Int)<((0:Nat):Int)):=by omega
  simp only[go_sem];refine R_for (fun k env blk=>k=0∧env 5= .one (.p .nils)∧env 14=vi ((0:Nat):Int)∧env 15=vi ((0:Nat):Int)) 0 0 (Nat.le_refl _) ?_ ?_
  ·simp only[go_sem];exact rfl
  ·rintro k env blk _ ⟨rfl,h5,h14,h15⟩
   simp only[go_sem,i135_l3,i135_r4,h5,h14,h15,hz];rfl
 ·cases e2
  simp only[go_sem];refine R_for (fun k env blk=>env 3= .one (.href 8640000000 1 0)∧blk 8640000000=(1,some (.var [.p (.sl (iP ids))]))∧env 5= .one (.hsl 8640064128 gg 7 0 m.length)∧env 13= .one (.hsl 8640064128 gg 7 0 m.length)∧env 14=vi m.length∧env 15=vi k∧blk 8640064128=(gg,some (.arr pcTy 7 (pcP (lowM ids m k))))) 0 m.length (Nat.zero_le _) ?_ ?_
  ·simp only[go_sem,z3,hC];refine⟨rfl,?_⟩;simp[lowM]
  ·rintro k env blk hk ⟨h3,bI,h5,h13,h14,h15,bO⟩
   by_cases hlt:k<m.length
   ·have hlt':((k:Int)<(m.length:Int)):=by omega
    obtain⟨p,hp⟩:=at_lt hlt;have hpa:=pcP_at (lowM_at (ids:=ids) hp);have w1:=wrap_succ (n:=k) (by omega);have hmk:=lowM_len ids m k;have hset:=lowM_set (ids:=ids) hp;have hlk:k<(lowM ids m k).length:=by omega
    cases c1:(p.l.kind==2) with
    |false=>
     have n1:(p.l.kind !=2)=true:=by simp[bne,c1]
     have hsame:lowM ids m (k+1)=lowM ids m k:=by
      rw[← hset];have e:lowP ids p=p:=by unfold lowP;rw[c1];rfl
      rw[e];obtain⟨hh,he⟩:=List.getElem?_eq_some_iff.1 (lowM_at (ids:=ids) hp);rw[← he,List.set_getElem_self]
     simp only[go_sem,i135_l3,i135_r2,h3,bI,h5,h13,h14,h15,bO,hlt,hlt',hpa,Pc.ps,n1,w1,hsame]
    |true=>
     have n1:(p.l.kind !=2)=false:=by simp[bne,c1]
     have hid:=hmem p (List.mem_of_getElem? hp);have hfin:lowP ids p=lowK ids ids.length p:=by unfold lowP;rw[c1];rfl
     rw[hfin] at hset;generalize lowM ids m k=q at hpa hmk hset hlk bO;have q0:q.set k (lowK ids 0 p)=q:=by
      have:lowK ids 0 p=p:=by unfold lowK;simp
      rw[this];have h1:q[k]? =some p:=by
       have h2:(pcP q)[k]? =some p.ps:=hpa;rw[List.getElem?_map] at h2;cases hq:q[k]? with
       |none=>rw[hq] at h2;cases h2
       |some x=>
        rw[hq] at h2;simp[Pc.ps] at h2;obtain⟨⟨a,b,c,d,e,f⟩,g⟩:=x;obtain⟨⟨a',b',c',d',e',f'⟩,g'⟩:=p;simp at h2;obtain⟨rfl,rfl,rfl,rfl,rfl,rfl,rfl⟩:=h2;rfl
      obtain⟨hh,he⟩:=List.getElem?_eq_some_iff.1 h1;rw[← he,List.set_getElem_self]
     simp only[go_sem,i135_l3,h3,bI,h13,h14,h15,bO,hlt,hlt',hpa,Pc.ps,n1];refine R_for (fun j env2 blk2=>env2 3= .one (.href 8640000000 1 0)∧blk2 8640000000=(1,some (.var [.p (.sl (iP ids))]))∧env2 5= .one (.hsl 8640064128 gg 7 0 m.length)∧env2 13= .one (.hsl 8640064128 gg 7 0 m.length)∧env2 14=vi m.length∧env2 15=vi k∧env2 6=vi k∧env2 24= .one (.p (.sl (iP ids)))∧env2 25=vi ids.length∧env2 26=vi j∧
      (∃ g7,env2 7= .one (.href 8640256192 g7 0)∧blk2 8640256192=(g7,some (.var (p.ps.map .p))))∧blk2 8640064128=(gg,some (.arr pcTy 7 (pcP (q.set k (lowK ids j p)))))) 0 ids.length (Nat.zero_le _) ?_ ?_
     ·simp only[go_sem,h3,bI,h5,h13,h14,h15,bO,q0];first|exact⟨rfl,_,⟨rfl,rfl⟩,rfl⟩|exact⟨rfl,⟨_,rfl,rfl⟩⟩|exact⟨_,rfl,rfl⟩|exact⟨⟨_,rfl,rfl⟩,rfl⟩|exact⟨rfl,⟨_,rfl,rfl⟩,rfl⟩|trace_state
     ·rintro j env2 blk2 hj ⟨p3,cI,p5,p13,p14,p15,p6,p24,p25,p26,⟨g7,p7,c7⟩,cO⟩
      by_cases hlj:j<ids.length
      ·have hlj':((j:Int)<(ids.length:Int)):=by omega
       obtain⟨d,hd⟩:=at_lt hlj;have hdp:=iP_at hd;have w2:=wrap_succ (n:=j) (by omega);have hcnt:(ids.take (j+1)).countP (fun i=>decide (i<p.l.id))=(ids.take j).countP (fun i=>decide (i<p.l.id))+if d<p.l.id then 1 else 0:=by
        rw[List.take_add_one,hd,List.countP_append];simp[List.countP_cons,List.countP_nil]
       have hcl:(ids.take j).countP (fun i=>decide (i<p.l.id))≤j:=Nat.le_trans List.countP_le_length (by rw[List.length_take];omega);have hqa:(pcP (q.set k (lowK ids j p)))[k]? =some (lowK ids j p).ps:=pcP_at (by rw[List.getElem?_set,if_pos rfl,if_pos (by omega)]);have hql:k<(q.set k (lowK ids j p)).length:=by rw[List.length_set];omega
       by_cases hg:d<p.l.id
       ·have e1:(lowK ids j p).l.id - 1=(lowK ids (j+1) p).l.id:=by
         unfold lowK;simp only;rw[hcnt,if_pos hg];omega
        have w3:IntKind.i64.wrap ((lowK ids j p).l.id - 1)=(lowK ids (j+1) p).l.id:=by
         rw[← e1];exact wrapI (by unfold lowK;simp only;omega) (by unfold lowK;simp only;omega)
        have hps:((lowK ids (j+1) p).ps)=[.int .i64 (lowK ids j p).l.kind, .int .i64 (lowK ids j p).l.gate, .int .i64 (lowK ids j p).l.rank, .int .i64 (lowK ids (j+1) p).l.id, .int .i64 (lowK ids j p).l.sign, .bool (lowK ids j p).l.over, .bool (lowK ids j p).d]:=rfl;have hset2:(pcP (q.set k (lowK ids j p))).set k (lowK ids (j+1) p).ps=pcP (q.set k (lowK ids (j+1) p)):=by rw[pcP_set,List.set_set]
        rw[hps] at hset2;generalize lowK ids j p=x at*;simp only[go_sem,i135_l1,p3,cI,p5,p13,p14,p15,p6,p24,p25,p26,p7,c7,cO,hlt,hlj,hlj',hdp,hg,hqa,Pc.ps,w2,w3,hset2];exact⟨g7,rfl,rfl⟩
       ·have e1:lowK ids (j+1) p=lowK ids j p:=by unfold lowK;rw[hcnt,if_neg hg];simp
        simp only[go_sem,i135_l1,p3,cI,p5,p13,p14,p15,p6,p24,p25,p26,p7,c7,cO,hlj,hlj',hdp,hg,Pc.ps,w2,e1];exact⟨g7,rfl,rfl⟩
      ·have:j=ids.length:=by omega
       subst this;rw[hset] at cO;simp only[go_sem,i135_l1,i135_r2,p3,cI,p5,p13,p14,p15,p26,p25,cO,no_more,w1,hlt]
   ·have:k=m.length:=by omega
    subst this;have e1:lowM ids m m.length=m.map (lowP ids):=by rw[lowM,List.take_length,List.drop_length,List.append_nil]
    rw[e1] at bO;simp only[go_sem,i135_l3,i135_r4,h5,h14,h15,no_more];have hn2:m.map (lowP ids)≠[]:=by simpa using hne
    exact grown_out (.inr ⟨by simpa using hn2,gg,by simp,bO⟩)
theorem Fine.ids(g:Fine F ls):idsOK ls∧pairsOK ls:=by
 have hc:=g.ok.cr;unfold crossR at hc;simp only[Bool.and_eq_true] at hc;exact x_all.1 fun k hk=>List.all_eq_true.1 hc.1.2 k (List.mem_range.2 hk)
theorem piece_of{p:Pc}(h:p∈pieces ls): ∃ (i:Nat) (l:Let),ls[i]? =some l∧p=⟨l,dnP ls i⟩:=by
 obtain⟨i,hi⟩:=List.getElem?_of_mem h;have hil:i<ls.length:=by rw[← pieces_len];exact(List.getElem?_eq_some_iff.1 hi).1
 obtain⟨l,hl⟩:=at_lt hil;rw[pieces_at hl] at hi;cases hi
 exact⟨i,l,hl,rfl⟩
theorem id_bound(g:Fine F ls): ∀ p∈pieces ls,-1000000≤p.l.id∧p.l.id≤1000000:=by
 intro p hp;obtain⟨i,l,hl,rfl⟩:=piece_of hp;have hm:=List.mem_of_getElem? hl;rcases g.ok.kinds l hm with h|h
 ·have:=(not_badP (f:=(F:Int)) h).1 (g.bad l hm);simp only[this.1.1.2];omega
 ·have h1:=g.ids.1 l hm h;have:=g.cr;simp only;omega
def lcR(ls:List Let)(av:Nat):Option (List Pc):=
 let p:=(pieces ls).getD av ⟨noLet,false⟩
 let q:=(pieces ls).getD ((av+1)%ls.length) ⟨noLet,false⟩
 if (p.l.kind==2)&&((q.l.kind==2)&&(p.l.id==q.l.id)) then some (dropL (pieces ls) [p.l.id]) else none
theorem loopCut_p(g:Fine F ls){av:Nat}(ha:av<ls.length){k b c:Int}{l o:Bool}{sg:Int}:
  PEv S 105 [.one (.p (brdV F ls)),mvV k av b c l o sg] (kR (lcR ls av)):=by
 have hlen:=g.len;have hpl:=pieces_len ls;have pe:=ends_p g ha;have hm:=Nat.mod_lt (av+1) (show 0<ls.length by omega);obtain⟨p,hp⟩:=at_lt (ls:=pieces ls) (k:=av) (by omega);obtain⟨q,hq⟩:=at_lt (ls:=pieces ls) (k:=(av+1)%ls.length) (by omega);have hpi:=pcP_at hp;have hpj:=pcP_at hq;have lo:S.lone 6720256896=false:=by kernel_rfl
 unfold lcR;simp only[List.getD_eq_getElem?_getD,hp,hq,Option.getD_some];refine pev1 c105 ?_;cases c1:(p.l.kind==2) with
 |false=>
  have n1:(p.l.kind !=2)=true:=by simp[bne,c1]
  simp only[go_sem,i105,s126,gP_land pe land_tup,hpi,Pc.ps,n1];exact⟨okd,rfl⟩
 |true=>
 have n1:(p.l.kind !=2)=false:=by simp[bne,c1]
 cases c2:(q.l.kind==2) with
 |false=>
  have n2:(q.l.kind !=2)=true:=by simp[bne,c2]
  simp only[go_sem,i105,s126,gP_land pe land_tup,hpi,hpj,Pc.ps,n1,n2];exact⟨okd,rfl⟩
 |true=>
 have n2:(q.l.kind !=2)=false:=by simp[bne,c2]
 cases c3:(p.l.id==q.l.id) with
 |false=>
  have n3:(p.l.id !=q.l.id)=true:=by simp[bne,c3]
  simp only[go_sem,i105,s126,gP_land pe land_tup,hpi,hpj,Pc.ps,n1,n2,n3];exact⟨okd,rfl⟩
 |true=>
 have n3:(p.l.id !=q.l.id)=false:=by simp[bne,c3]
 have pd:=dropped_p (pieces ls) [p.l.id] (by omega) (by simp) (id_bound g);simp only[go_sem,i105,s126,gP_land pe land_tup,hpi,hpj,Pc.ps,n1,n2,n3,s135];refine⟨okd,?_⟩;refine dP_g1 pd lo (.inr (alone_grown (sc_pc _))) fun cc blk1 w gc hb hw=> ?_
 simp only[go_sem];refine⟨?_,grown_out1 gc⟩;rcases hw with rfl|rfl<;>kernel_rfl
end
end Go.Abs
