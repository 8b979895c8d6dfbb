/-
  A part of a proof.
-/
import Derived.Test.YtjjdebhkbfeniaaGreatDoorWs
set_option linter.unusedSimpArgs false
set_option linter.unusedVariables false
set_option linter.unusedSectionVars false
set_option maxRecDepth 100000
set_option maxHeartbeats 16000000
namespace Go.Abs
section
variable{F:Nat}{ls:List Let}
abbrev pA(ls:List Let)(i:Nat):Pc:=(pieces ls).getD i ⟨noLet,false⟩
theorem pA_of{i:Nat}{p:Pc}(h:(pieces ls)[i]? =some p):pA ls i=p:=by simp[pA,List.getD_eq_getElem?_getD,h]
abbrev nx(ls:List Let)(e:Nat):Nat:=(e+1)%ls.length
def boR(ls:List Let)(e:Nat)(ov:Bool):Bool:=((pA ls e).l.kind==2)&&(((pA ls (nx ls e)).l.kind==2)&&(((pA ls e).l.over==ov)&&((pA ls (nx ls e)).l.over==ov)))
theorem both_p(g:Fine F ls){e:Nat}(he:e<ls.length)(ov:Bool):PEv S 137 [.one (.p (brdV F ls)),vi e,vb ov] (rb (boR ls e ov)):=by
 have hlen:=g.len;have hpl:=pieces_len ls;have pe:=ends_p g he;have hm:=Nat.mod_lt (e+1) (show 0<ls.length by omega);obtain⟨p,hp⟩:=at_lt (ls:=pieces ls) (k:=e) (by omega);obtain⟨q,hq⟩:=at_lt (ls:=pieces ls) (k:=(e+1)%ls.length) (by omega);have hpi:=pcP_at hp;have hpj:=pcP_at hq;unfold boR;rw[pA_of hp,pA_of hq];refine pev1 c137 ?_;cases c1:(p.l.kind==2) with
 |false=>simp only[go_sem,i137,s126,gP_land pe land_tup,hpi,hpj,Pc.ps,hpl,he,hm,c1]
 |true=>
 cases c2:(q.l.kind==2) with
 |false=>simp only[go_sem,i137,s126,gP_land pe land_tup,hpi,hpj,Pc.ps,hpl,he,hm,c1,c2]
 |true=>
 cases c3:(p.l.over==ov) with
 |false=>simp only[go_sem,i137,s126,gP_land pe land_tup,hpi,hpj,Pc.ps,hpl,he,hm,c1,c2,c3]
 |true=>
 cases c4:(q.l.over==ov) with
 |false=>simp only[go_sem,i137,s126,gP_land pe land_tup,hpi,hpj,Pc.ps,hpl,he,hm,c1,c2,c3,c4]
 |true=>simp only[go_sem,i137,s126,gP_land pe land_tup,hpi,hpj,Pc.ps,hpl,he,hm,c1,c2,c3,c4]
def pvR(ls:List Let)(e:Nat):Nat × Nat × Bool:=
 if (pA ls e).l.kind==2 then (nx ls e,e,(pA ls (nx ls e)).l.kind==1) else (e,nx ls e,((pA ls e).l.kind==1)&&((pA ls (nx ls e)).l.kind==2))
def prA(o:List Nat)(pr:Nat→Bool)(i:Nat):Bool:=match o[i]? with|some v=>pr v|none=>false
theorem indexF_p(o:List Nat)(hl:o.length≤1000000){f:Nat}{x y z:PV}(hn:x.norm=x∧y.norm=y∧z.norm=z)(hsh:S.shared f=false)(pr:Nat→Bool)(hd: ∀ v∈o,PEv S f [vi (v:Nat), .one (.p x), .one (.p y), .one (.p z)] (rb (pr v))):
  PEv S 190 [.one (.p (.sl (nP o))), .one (.p (.fn f [] [x,y,z]))] (ri (match (List.range o.length).find? (prA o pr) with|some k=>(k:Int)|none=> -1)):=by
 obtain⟨hn0,hn1,hn2⟩:=hn;refine pev1 c190 ?_;simp only[go_sem,i190];refine R_for (fun k env blk=>env 0= .one (.p (.sl (nP o)))∧env 1= .one (.p (.fn f [] [x,y,z]))∧env 7=vi o.length∧env 8=vi k∧ ∀ j,j<k→prA o pr j=false) 0 o.length (Nat.zero_le _) ?_ ?_
 ·simp only[go_sem];exact⟨rfl,fun j hj=>absurd hj (Nat.not_lt_zero j)⟩
 ·rintro k env blk hk ⟨h0,h1,h7,h8,hnn⟩
  by_cases hlt:k<o.length
  ·have hlt':((k:Int)<(o.length:Int)):=by omega
   obtain⟨v,hv⟩:=at_lt hlt;have hpp:=nP_at hv;have w1:=wrap_succ (n:=k) (by omega);have pd:=hd v (List.mem_of_getElem? hv);have hpd:prA o pr k=pr v:=by simp[prA,hv]
   cases hb:pr v with
   |true=>
    rw[hb] at pd hpd;have hf:=find_range (p:=prA o pr) hlt hnn hpd;simp only[go_sem,i190_l1,h0,h1,h7,h8,hlt',hpp,hsh,hn0,hn1,hn2,gP_bool pd,hf]
   |false=>
    rw[hb] at pd hpd;simp only[go_sem,i190_l1,h0,h1,h7,h8,hlt,hlt',hpp,hsh,hn0,hn1,hn2,gP_bool pd,w1];intro j hj;rcases Nat.lt_succ_iff_lt_or_eq.1 hj with h|rfl
    ·exact hnn j h
    ·exact hpd
  ·have:k=o.length:=by omega
   subst this;have hf:=find_range_none (p:=prA o pr) hnn;simp only[go_sem,i190_l1,i190_r2,h7,h8,no_more,hf]
theorem containsF_p(o:List Nat)(hl:o.length≤1000000){f:Nat}{x y z:PV}(hn:x.norm=x∧y.norm=y∧z.norm=z)(hsh:S.shared f=false)(pr:Nat→Bool)(hd: ∀ v∈o,PEv S f [vi (v:Nat), .one (.p x), .one (.p y), .one (.p z)] (rb (pr v))):
  PEv S 160 [.one (.p (.sl (nP o))), .one (.p (.fn f [] [x,y,z]))] (rb (o.any pr)):=by
 have pi:=indexF_p o hl hn hsh pr hd;obtain⟨hn0,hn1,hn2⟩:=hn;refine pev1 c160 ?_;cases ha:o.any pr with
 |true=>
  obtain⟨v,hv,hp⟩:=List.any_eq_true.1 ha;obtain⟨k,hk⟩:=List.getElem?_of_mem hv;have hkl:=(List.getElem?_eq_some_iff.1 hk).1;cases hf:(List.range o.length).find? (prA o pr) with
  |none=>
   have:=List.find?_eq_none.1 hf k (List.mem_range.2 hkl);simp[prA,hk,hp] at this
  |some j=>
   rw[hf] at pi;have hge:(0:Int)≤(j:Int):=by omega
   simp only[go_sem,i160,s190,gP_int pi,hge]
 |false=>
  cases hf:(List.range o.length).find? (prA o pr) with
  |some j=>
   have h1:=List.find?_some hf;unfold prA at h1;cases ho:o[j]? with
   |none=>rw[ho] at h1;cases h1
   |some v=>
    rw[ho] at h1;have:=List.any_eq_false.1 ha v (List.mem_of_getElem? ho);exact absurd h1 this
  |none=>
   rw[hf] at pi;have hge: ¬ (0:Int)≤ -1:=by decide
   simp only[go_sem,i160,s190,gP_int pi,hge]
def dcnt(f:Fc)(e:Nat):Nat:=f.darts.countP fun d=>d/2==e
def cornB(f:Fc)(pl:Nat)(edges:List Nat):Bool:=(f.darts.length==edges.length)&&((f.places.length==pl)&&edges.all fun e=>dcnt f e==1)
theorem corn1_p(g:Fine F ls){j:Nat}{f:Fc}(hf:(facesL F ls)[j]? =some f)(edges:List Nat)(he:edges.length≤1000)(pl:Nat):
  PEv S 161 [vi j, .one (.p (.box [brdV F ls])), .one (.p (.box [.sl (nP edges)])), .one (.p (.box [.int .i64 pl]))] (rb (cornB f pl edges)):=by
 have hlen:=g.len;have hal:(axisR ls).length≤ls.length:=axisK_len ls ls.length;have hdl:=facesL_dlen g.ok (List.mem_of_getElem? hf);have hnd:nD ls≤1600:=by unfold nD;omega
 have hfp:=fcP_at hf;have hjl:=(List.getElem?_eq_some_iff.1 hf).1;refine pev1 c161 ?_;unfold cornB;cases c1:(f.darts.length==edges.length) with
 |false=>
  have n1:(((f.darts.length:Nat):Int)!=((edges.length:Nat):Int))=true:=by
   have: ¬ f.darts.length=edges.length:=by simpa using c1
   simp[bne];omega
  simp only[go_sem,i161,hfp,Fc.ps,n1]
 |true=>
 have n1:(((f.darts.length:Nat):Int)!=((edges.length:Nat):Int))=false:=by
  have:f.darts.length=edges.length:=by simpa using c1
  simp[bne,this]
 cases c2:(f.places.length==pl) with
 |false=>
  have n2:(((f.places.length:Nat):Int)!=((pl:Nat):Int))=true:=by
   have: ¬ f.places.length=pl:=by simpa using c2
   simp[bne];omega
  simp only[go_sem,i161,hfp,Fc.ps,n1,n2]
 |true=>
 have n2:(((f.places.length:Nat):Int)!=((pl:Nat):Int))=false:=by
  have:f.places.length=pl:=by simpa using c2
  simp[bne,this]
 simp only[go_sem,i161,hfp,Fc.ps,n1,n2];refine R_for (fun k env blk=>env 6= .one (.href 10304064448 1 0)∧blk 10304064448=(1,some (.var (f.ps.map .p)))∧env 32= .one (.p (.sl (nP edges)))∧env 33=vi edges.length∧env 34=vi k∧ ∀ i e,i<k→edges[i]? =some e→(dcnt f e==1)=true) 0 edges.length (Nat.zero_le _) ?_ ?_
 ·simp only[go_sem,Fc.ps];first|exact⟨rfl,fun i e hi=>absurd hi (Nat.not_lt_zero i)⟩|exact⟨rfl,rfl,fun i e hi=>absurd hi (Nat.not_lt_zero i)⟩|exact fun i e hi=>absurd hi (Nat.not_lt_zero i)
 ·rintro k env blk hk ⟨h6,b6,h32,h33,h34,hok⟩
  simp only[Fc.ps,List.map_cons,List.map_nil] at b6;by_cases hlt:k<edges.length
  ·have hlt':((k:Int)<(edges.length:Int)):=by omega
   obtain⟨e,hek⟩:=at_lt hlt;have hep:=nP_at hek;have w1:=wrap_succ (n:=k) (by omega);simp only[go_sem,i161_l4,h6,b6,h32,h33,h34,hlt',hep];refine R_for (fun i env2 blk2=>env2 6= .one (.href 10304064448 1 0)∧blk2 10304064448=(1,some (.var (f.ps.map .p)))∧env2 32= .one (.p (.sl (nP edges)))∧env2 33=vi edges.length∧env2 34=vi k∧env2 8=vi e∧env2 9=vi ((f.darts.take i).countP fun d=>d/2==e:Nat)∧env2 39= .one (.p (.sl (nP f.darts)))∧env2 40=vi f.darts.length∧env2 41=vi i) 0 f.darts.length (Nat.zero_le _) ?_ ?_
   ·simp only[go_sem,h6,b6,h32,h33,h34,Fc.ps];first|exact⟨rfl,rfl⟩|exact rfl|exact⟨rfl,rfl,rfl⟩
   ·rintro i env2 blk2 hi ⟨p6,d6,p32,p33,p34,p8,p9,p39,p40,p41⟩
    by_cases hli:i<f.darts.length
    ·have hli':((i:Int)<(f.darts.length:Int)):=by omega
     obtain⟨d,hd⟩:=at_lt hli;have hdp:=nP_at hd;have w2:=wrap_succ (n:=i) (by omega);have wq:=wrap_small (n:=d/2) (by have:=facesL_darts (List.mem_of_getElem? hf) d (List.mem_of_getElem? hd);omega);have hcl:(f.darts.take i).countP (fun d=>d/2==e)≤i:=Nat.le_trans List.countP_le_length (by rw[List.length_take];omega);have w3:=wrap_succ (n:=(f.darts.take i).countP fun d=>d/2==e) (by omega);have hcnt:(f.darts.take (i+1)).countP (fun d=>d/2==e)=(f.darts.take i).countP (fun d=>d/2==e)+if (d/2==e)=true then 1 else 0:=by
      rw[List.take_add_one,hd,List.countP_append];simp[List.countP_cons,List.countP_nil]
     cases hde:(d/2==e) with
     |true=>
      have n3:(((d/2:Nat):Int)==(e:Int))=true:=by
       have:d/2=e:=by simpa using hde
       simp;omega
      rw[hde,if_pos rfl] at hcnt;simp only[go_sem,i161_l1,p6,p32,p33,p34,p8,p9,p39,p40,p41,hli,hli',hdp,two_ne,tdiv2,wq,n3,w2,w3,hcnt];first|exact d6|exact⟨d6,rfl⟩
     |false=>
      have n3:(((d/2:Nat):Int)==(e:Int))=false:=by
       have: ¬ d/2=e:=by simpa using hde
       simp;omega
      rw[hde,if_neg (by decide),Nat.add_zero] at hcnt;simp only[go_sem,i161_l1,p6,p32,p33,p34,p8,p9,p39,p40,p41,hli,hli',hdp,two_ne,tdiv2,wq,n3,w2,hcnt];first|exact d6|exact⟨d6,rfl⟩
    ·have:i=f.darts.length:=by omega
     subst this;rw[List.take_length] at p9;have hdc:(f.darts.countP fun d=>d/2==e)=dcnt f e:=rfl;rw[hdc] at p9;cases hq:(dcnt f e==1) with
     |true=>
      have n4:(((dcnt f e:Nat):Int)!=1)=false:=by
       have:dcnt f e=1:=by simpa using hq
       simp[bne,this]
      simp only[go_sem,i161_l1,i161_r2,i161_r3,p6,p32,p33,p34,p9,p40,p41,no_more,n4,w1,hlt];refine⟨d6,fun i2 e2 hi2 he2=> ?_⟩;rcases Nat.lt_succ_iff_lt_or_eq.1 hi2 with h|rfl
      ·exact hok i2 e2 h he2
      ·rw[hek] at he2;cases he2;exact hq
     |false=>
      have n4:(((dcnt f e:Nat):Int)!=1)=true:=by
       have: ¬ dcnt f e=1:=by simpa using hq
       simp[bne];omega
      have hall:(edges.all fun e=>dcnt f e==1)=false:=List.all_eq_false.2 ⟨e,List.mem_of_getElem? hek,by rw[hq];decide⟩;simp only[go_sem,i161_l1,i161_r2,p9,p40,p41,no_more,n4,hall]
  ·have:k=edges.length:=by omega
   subst this;have hall:(edges.all fun e=>dcnt f e==1)=true:=List.all_eq_true.2 fun e he=>by
    obtain⟨i,hi⟩:=List.getElem?_of_mem he;exact hok i e (List.getElem?_eq_some_iff.1 hi).1 hi
   simp only[go_sem,i161_l4,i161_r5,h33,h34,no_more,hall]
def cornR(F:Nat)(ls:List Let)(pl:Nat)(edges:List Nat)(e0:Nat):Bool:=cornB (faceAt F ls (2*e0)) pl edges||cornB (faceAt F ls (2*e0+1)) pl edges
theorem corner_p(g:Fine F ls)(edges:List Nat)(hel:edges.length≤1000){e0:Nat}(h0:edges[0]? =some e0)(he0:e0<ls.length)(pl:Nat):
  PEv S 134 [.one (.p (brdV F ls)),vi pl, .one (.p (.sl (nP edges)))] (rb (cornR F ls pl edges e0)):=by
 have hlen:=g.len;obtain⟨j0,a1,a2,a3⟩:=faceAt_at g (d:=2*e0) (by omega);obtain⟨j1,b1,b2,b3⟩:=faceAt_at g (d:=2*e0+1) (by omega);have g0:(facesL F ls).getD j0 noFc=faceAt F ls (2*e0):=by rw[List.getD_eq_getElem?_getD,a2];rfl
 have g1:(facesL F ls).getD j1 noFc=faceAt F ls (2*e0+1):=by rw[List.getD_eq_getElem?_getD,b2];rfl
 have pc:=containsF_p [j0,j1] (by simp) (f:=161) (x:= .box [brdV F ls]) (y:= .box [.sl (nP edges)]) (z:= .box [.int .i64 pl]) ⟨rfl,rfl,rfl⟩ s161 (fun j=>cornB ((facesL F ls).getD j noFc) pl edges) (fun v hv=>by
  simp only[List.mem_cons,List.not_mem_nil,or_false] at hv;rcases hv with rfl|rfl
  ·rw[g0];exact corn1_p g a2 edges hel pl
  ·rw[g1];exact corn1_p g b2 edges hel pl)
 have hany:([j0,j1].any fun j=>cornB ((facesL F ls).getD j noFc) pl edges)=cornR F ls pl edges e0:=by
  simp only[List.any_cons,List.any_nil,Bool.or_false,g0,g1];rfl
 rw[hany] at pc;simp only[List.map_cons,List.map_nil] at pc;have ja:=nP_at a1;have jb:=nP_at b1;have he:=nP_at h0;have m2:=wrap_mul2 (a:=e0) (by omega);have m3:=wrap_succ (n:=2*e0) (by omega);have hll:=leftL_len F ls;have l1:2*e0<(leftL F ls).length:=by omega
 have l2:2*e0+1<(leftL F ls).length:=by omega
 have hpos:0<edges.length:=(List.getElem?_eq_some_iff.1 h0).1;have hpos':(0:Int)<(edges.length:Int):=by omega
 refine pev1 c134 ?_;simp only[go_sem,i134,he,hpos,hpos',m2,m3,ja,jb,l1,l2,s160,dP_bool pc,planAppend,szOK];exact okd
def swE(ls:List Let)(l:List Pc)(e:Nat):List Pc:=(l.set e (l.getD (nx ls e) ⟨noLet,false⟩)).set (nx ls e) (l.getD e ⟨noLet,false⟩)
theorem swE_len(ls:List Let)(l:List Pc)(e:Nat):(swE ls l e).length=l.length:=by simp[swE]
def swL(ls:List Let)(l:List Pc)(es:List Nat):List Pc:=es.foldl (swE ls) l
theorem swL_len(ls:List Let): ∀ (es:List Nat) (l:List Pc),(swL ls l es).length=l.length:=by
 intro es
 induction es with
 |nil=>intro l;rfl
 |cons e es ih=>intro l;show(swL ls (swE ls l e) es).length=_;rw[ih,swE_len]
def setRk(l:List Pc)(i:Nat)(r:Int):List Pc:=l.set i {(l.getD i ⟨noLet,false⟩) with l:={(l.getD i ⟨noLet,false⟩).l with rank:=r}}
theorem setRk_len(l:List Pc)(i:Nat)(r:Int):(setRk l i r).length=l.length:=by simp[setRk]
def asR(F:Nat)(ls:List Let)(av bv:Nat):Option (List Pc):=
 if (pvR ls av).2.2&&((pvR ls bv).2.2&&(!((pvR ls av).2.1==(pvR ls bv).2.1)&&(((pA ls (pvR ls av).2.1).l.id==(pA ls (pvR ls bv).2.1).l.id)&&cornR F ls 1 [av,bv] av)))
 then some (swL ls (setRk (setRk (pieces ls) (pvR ls av).1 (pA ls (pvR ls bv).1).l.rank) (pvR ls bv).1 (pA ls (pvR ls av).1).l.rank) [av,bv]) else none
end
end Go.Abs
