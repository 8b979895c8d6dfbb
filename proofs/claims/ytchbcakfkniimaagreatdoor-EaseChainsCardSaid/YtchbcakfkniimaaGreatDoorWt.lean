/-
  A part of a proof.
-/
import Derived.Test.YtchbcakfkniimaaGreatDoorWs
set_option linter.unusedSimpArgs false
set_option linter.unusedVariables false
set_option linter.unusedSectionVars false
set_option maxRecDepth 100000
set_option maxHeartbeats 16000000
namespace Go.Abs
section
variable{F:Nat}{ls:List Let}
abbrev pA(ls:List Let)(i:Nat):Pc:=(pieces ls).getD i ⟨noLet,false⟩
theorem pA_of{i:Nat}{p:Pc}(h:(pieces ls)[i]? =some p):pA ls i=p:=by simp[pA,List.getD_eq_getElem?_getD,h]
abbrev nx(ls:List Let)(e:Nat):Nat:=(e+1)%ls.length
def boR(ls:List Let)(e:Nat)(ov:Bool):Bool:=((pA ls e).l.kind==2)&&(((pA ls (nx ls e)).l.kind==2)&&(((pA ls e).l.over==ov)&&((pA ls (nx ls e)).l.over==ov)))
theorem both_p(g:Fine F ls){e:Nat}(he:e<ls.length)(ov:Bool):PEv S 115 [.one (.p (brdV F ls)),vi e,vb ov] (rb (boR ls e ov)):=by
 have hlen:=g.len;have hpl:=pieces_len ls;have pe:=ends_p g he;have hm:=Nat.mod_lt (e+1) (show 0<ls.length by omega);obtain⟨p,hp⟩:=at_lt (ls:=pieces ls) (k:=e) (by omega);obtain⟨q,hq⟩:=at_lt (ls:=pieces ls) (k:=(e+1)%ls.length) (by omega);have hpi:=pcP_at hp;have hpj:=pcP_at hq;unfold boR;rw[pA_of hp,pA_of hq];refine pev1 c115 ?_;cases c1:(p.l.kind==2) with
 |false=>simp only[go_sem,i115,s104,gP_land pe land_tup,hpi,Pc.ps,c1]
 |true=>
 cases c2:(q.l.kind==2) with
 |false=>simp only[go_sem,i115,s104,gP_land pe land_tup,hpi,hpj,Pc.ps,c1,c2]
 |true=>
 cases c3:(p.l.over==ov) with
 |false=>simp only[go_sem,i115,s104,gP_land pe land_tup,hpi,hpj,Pc.ps,c1,c2,c3]
 |true=>
 cases c4:(q.l.over==ov) with
 |false=>simp only[go_sem,i115,s104,gP_land pe land_tup,hpi,hpj,Pc.ps,c1,c2,c3,c4]
 |true=>simp only[go_sem,i115,s104,gP_land pe land_tup,hpi,hpj,Pc.ps,c1,c2,c3,c4]
def pvR(ls:List Let)(e:Nat):Nat × Nat × Bool:=
 if (pA ls e).l.kind==2 then (nx ls e,e,(pA ls (nx ls e)).l.kind==1) else (e,nx ls e,((pA ls e).l.kind==1)&&((pA ls (nx ls e)).l.kind==2))
abbrev rtup3(a b c:PV):RV:= .tup [.one (.p a), .one (.p b), .one (.p c)]
theorem land_tup3{blk:Blk}{s:Nat}{a b c:PV}{l:Bool}:land blk [] s ((rtup3 a b c).pureIf l)=some (.tup [.one (.p a), .one (.p b), .one (.p c)],[]):=by
 cases l<;>rfl
theorem pav_p(g:Fine F ls){e:Nat}(he:e<ls.length):PEv S 111 [.one (.p (brdV F ls)),vi e] (rtup3 (.int .i64 ((pvR ls e).1:Nat)) (.int .i64 ((pvR ls e).2.1:Nat)) (.bool (pvR ls e).2.2)):=by
 have hlen:=g.len;have hpl:=pieces_len ls;have pe:=ends_p g he;have hm:=Nat.mod_lt (e+1) (show 0<ls.length by omega);obtain⟨p,hp⟩:=at_lt (ls:=pieces ls) (k:=e) (by omega);obtain⟨q,hq⟩:=at_lt (ls:=pieces ls) (k:=(e+1)%ls.length) (by omega);have hpi:=pcP_at hp;have hpj:=pcP_at hq;unfold pvR;rw[pA_of hp,pA_of hq];refine pev1 c111 ?_;cases c1:(p.l.kind==2) with
 |true=>
  have e1:p.l.kind=2:=by simpa using c1
  rw[if_pos rfl];cases c2:(q.l.kind==1) with
  |true=>
   simp only[go_sem,i111,s104,gP_land pe land_tup,hpi,hpj,Pc.ps,c1,c2];exact⟨okd,rfl⟩
  |false=>
   simp only[go_sem,i111,s104,gP_land pe land_tup,hpi,hpj,Pc.ps,c1,c2];exact⟨okd,rfl⟩
 |false=>
  rw[if_neg (by decide)];cases c2:(p.l.kind==1) with
  |true=>
   cases c3:(q.l.kind==2) with
   |true=>
    simp only[go_sem,i111,s104,gP_land pe land_tup,hpi,hpj,Pc.ps,c1,c2,c3];exact⟨okd,rfl⟩
   |false=>
    simp only[go_sem,i111,s104,gP_land pe land_tup,hpi,hpj,Pc.ps,c1,c2,c3];exact⟨okd,rfl⟩
  |false=>
   simp only[go_sem,i111,s104,gP_land pe land_tup,hpi,Pc.ps,c1,c2];exact⟨okd,rfl⟩
def prA(o:List Nat)(pr:Nat→Bool)(i:Nat):Bool:=match o[i]? with|some v=>pr v|none=>false
theorem indexF_p(o:List Nat)(hl:o.length≤1000000){f:Nat}{x y z:PV}(hn:x.norm=x∧y.norm=y∧z.norm=z)(hsh:S.shared f=false)(pr:Nat→Bool)(hd: ∀ v∈o,PEv S f [vi (v:Nat), .one (.p x), .one (.p y), .one (.p z)] (rb (pr v))):
  PEv S 152 [.one (.p (.sl (nP o))), .one (.p (.fn f [] [x,y,z]))] (ri (match (List.range o.length).find? (prA o pr) with|some k=>(k:Int)|none=> -1)):=by
 obtain⟨hn0,hn1,hn2⟩:=hn;refine pev1 c152 ?_;simp only[go_sem,i152];refine R_for (fun k env blk=>env 0= .one (.p (.sl (nP o)))∧env 1= .one (.p (.fn f [] [x,y,z]))∧env 7=vi o.length∧env 8=vi k∧ ∀ j,j<k→prA o pr j=false) 0 o.length (Nat.zero_le _) ?_ ?_
 ·simp only[go_sem];exact⟨rfl,fun j hj=>absurd hj (Nat.not_lt_zero j)⟩
 ·rintro k env blk hk ⟨h0,h1,h7,h8,hnn⟩
  by_cases hlt:k<o.length
  ·have hlt':((k:Int)<(o.length:Int)):=by omega
   obtain⟨v,hv⟩:=at_lt hlt;have hpp:=nP_at hv;have w1:=wrap_succ (n:=k) (by omega);have pd:=hd v (List.mem_of_getElem? hv);have hpd:prA o pr k=pr v:=by simp[prA,hv]
   cases hb:pr v with
   |true=>
    rw[hb] at pd hpd;have hf:=find_range (p:=prA o pr) hlt hnn hpd;simp only[go_sem,i152_l1,h0,h1,h7,h8,hlt',hpp,hsh,hn0,hn1,hn2,gP_bool pd,hf]
   |false=>
    rw[hb] at pd hpd;simp only[go_sem,i152_l1,h0,h1,h7,h8,hlt,hlt',hpp,hsh,hn0,hn1,hn2,gP_bool pd,w1];intro j hj;rcases Nat.lt_succ_iff_lt_or_eq.1 hj with h|rfl
    ·exact hnn j h
    ·exact hpd
  ·have:k=o.length:=by omega
   subst this;have hf:=find_range_none (p:=prA o pr) hnn;simp only[go_sem,i152_l1,i152_r2,h7,h8,no_more,hf]
theorem containsF_p(o:List Nat)(hl:o.length≤1000000){f:Nat}{x y z:PV}(hn:x.norm=x∧y.norm=y∧z.norm=z)(hsh:S.shared f=false)(pr:Nat→Bool)(hd: ∀ v∈o,PEv S f [vi (v:Nat), .one (.p x), .one (.p y), .one (.p z)] (rb (pr v))):
  PEv S 131 [.one (.p (.sl (nP o))), .one (.p (.fn f [] [x,y,z]))] (rb (o.any pr)):=by
 have pi:=indexF_p o hl hn hsh pr hd;obtain⟨hn0,hn1,hn2⟩:=hn;refine pev1 c131 ?_;cases ha:o.any pr with
 |true=>
  obtain⟨v,hv,hp⟩:=List.any_eq_true.1 ha;obtain⟨k,hk⟩:=List.getElem?_of_mem hv;have hkl:=(List.getElem?_eq_some_iff.1 hk).1;cases hf:(List.range o.length).find? (prA o pr) with
  |none=>
   have:=List.find?_eq_none.1 hf k (List.mem_range.2 hkl);simp[prA,hk,hp] at this
  |some j=>
   rw[hf] at pi;have hge:(0:Int)≤(j:Int):=by omega
   simp only[go_sem,i131,s152,gP_int pi,hge]
 |false=>
  cases hf:(List.range o.length).find? (prA o pr) with
  |some j=>
   have h1:=List.find?_some hf;unfold prA at h1;cases ho:o[j]? with
   |none=>rw[ho] at h1;cases h1
   |some v=>
    rw[ho] at h1;have:=List.any_eq_false.1 ha v (List.mem_of_getElem? ho);exact absurd h1 this
  |none=>
   rw[hf] at pi;have hge: ¬ (0:Int)≤ -1:=by decide
   simp only[go_sem,i131,s152,gP_int pi,hge]
def dcnt(f:Fc)(e:Nat):Nat:=f.darts.countP fun d=>d/2==e
def cornB(f:Fc)(pl:Nat)(edges:List Nat):Bool:=(f.darts.length==edges.length)&&((f.places.length==pl)&&edges.all fun e=>dcnt f e==1)
theorem corn1_p(g:Fine F ls){j:Nat}{f:Fc}(hf:(facesL F ls)[j]? =some f)(edges:List Nat)(he:edges.length≤1000)(pl:Nat):
  PEv S 132 [vi j, .one (.p (.box [brdV F ls])), .one (.p (.box [.sl (nP edges)])), .one (.p (.box [.int .i64 pl]))] (rb (cornB f pl edges)):=by
 have hlen:=g.len;have hal:(axisR ls).length≤ls.length:=axisK_len ls ls.length;have hdl:=facesL_dlen g.ok (List.mem_of_getElem? hf);have hnd:nD ls≤1600:=by unfold nD;omega
 have hfp:=fcP_at hf;have hjl:=(List.getElem?_eq_some_iff.1 hf).1;refine pev1 c132 ?_;unfold cornB;cases c1:(f.darts.length==edges.length) with
 |false=>
  have n1:(((f.darts.length:Nat):Int)!=((edges.length:Nat):Int))=true:=by
   have: ¬ f.darts.length=edges.length:=by simpa using c1
   simp[bne];omega
  simp only[go_sem,i132,hfp,Fc.ps,n1]
 |true=>
 have n1:(((f.darts.length:Nat):Int)!=((edges.length:Nat):Int))=false:=by
  have:f.darts.length=edges.length:=by simpa using c1
  simp[bne,this]
 cases c2:(f.places.length==pl) with
 |false=>
  have n2:(((f.places.length:Nat):Int)!=((pl:Nat):Int))=true:=by
   have: ¬ f.places.length=pl:=by simpa using c2
   simp[bne];omega
  simp only[go_sem,i132,hfp,Fc.ps,n1,n2]
 |true=>
 have n2:(((f.places.length:Nat):Int)!=((pl:Nat):Int))=false:=by
  have:f.places.length=pl:=by simpa using c2
  simp[bne,this]
 simp only[go_sem,i132,hfp,Fc.ps,n1,n2];refine R_for (fun k env blk=>env 6= .one (.href 8448064448 1 0)∧blk 8448064448=(1,some (.var (f.ps.map .p)))∧env 32= .one (.p (.sl (nP edges)))∧env 33=vi edges.length∧env 34=vi k∧ ∀ i e,i<k→edges[i]? =some e→(dcnt f e==1)=true) 0 edges.length (Nat.zero_le _) ?_ ?_
 ·simp only[go_sem,Fc.ps];first|exact⟨rfl,fun i e hi=>absurd hi (Nat.not_lt_zero i)⟩|exact⟨rfl,rfl,fun i e hi=>absurd hi (Nat.not_lt_zero i)⟩|exact fun i e hi=>absurd hi (Nat.not_lt_zero i)
 ·rintro k env blk hk ⟨h6,b6,h32,h33,h34,hok⟩
  simp only[Fc.ps,List.map_cons,List.map_nil] at b6;by_cases hlt:k<edges.length
  ·have hlt':((k:Int)<(edges.length:Int)):=by omega
   obtain⟨e,hek⟩:=at_lt hlt;have hep:=nP_at hek;have w1:=wrap_succ (n:=k) (by omega);simp only[go_sem,i132_l4,h6,b6,h32,h33,h34,hlt',hep];refine R_for (fun i env2 blk2=>env2 6= .one (.href 8448064448 1 0)∧blk2 8448064448=(1,some (.var (f.ps.map .p)))∧env2 32= .one (.p (.sl (nP edges)))∧env2 33=vi edges.length∧env2 34=vi k∧env2 8=vi e∧env2 9=vi ((f.darts.take i).countP fun d=>d/2==e:Nat)∧env2 39= .one (.p (.sl (nP f.darts)))∧env2 40=vi f.darts.length∧env2 41=vi i) 0 f.darts.length (Nat.zero_le _) ?_ ?_
   ·simp only[go_sem,h6,b6,h32,h33,h34,Fc.ps];first|exact⟨rfl,rfl⟩|exact rfl|exact⟨rfl,rfl,rfl⟩
   ·rintro i env2 blk2 hi ⟨p6,d6,p32,p33,p34,p8,p9,p39,p40,p41⟩
    by_cases hli:i<f.darts.length
    ·have hli':((i:Int)<(f.darts.length:Int)):=by omega
     obtain⟨d,hd⟩:=at_lt hli;have hdp:=nP_at hd;have w2:=wrap_succ (n:=i) (by omega);have wq:=wrap_small (n:=d/2) (by have:=facesL_darts (List.mem_of_getElem? hf) d (List.mem_of_getElem? hd);omega);have hcl:(f.darts.take i).countP (fun d=>d/2==e)≤i:=Nat.le_trans List.countP_le_length (by rw[List.length_take];omega);have w3:=wrap_succ (n:=(f.darts.take i).countP fun d=>d/2==e) (by omega);have hcnt:(f.darts.take (i+1)).countP (fun d=>d/2==e)=(f.darts.take i).countP (fun d=>d/2==e)+if (d/2==e)=true then 1 else 0:=by
      rw[List.take_add_one,hd,List.countP_append];simp[List.countP_cons,List.countP_nil]
     cases hde:(d/2==e) with
     |true=>
      have n3:(((d/2:Nat):Int)==(e:Int))=true:=by
       have:d/2=e:=by simpa using hde
       simp;omega
      rw[hde,if_pos rfl] at hcnt;simp only[go_sem,i132_l1,p6,p32,p33,p34,p8,p9,p39,p40,p41,hli,hli',hdp,two_ne,tdiv2,wq,n3,w2,w3,hcnt];first|exact d6|exact⟨d6,rfl⟩
     |false=>
      have n3:(((d/2:Nat):Int)==(e:Int))=false:=by
       have: ¬ d/2=e:=by simpa using hde
       simp;omega
      rw[hde,if_neg (by decide),Nat.add_zero] at hcnt;simp only[go_sem,i132_l1,p6,p32,p33,p34,p8,p9,p39,p40,p41,hli,hli',hdp,two_ne,tdiv2,wq,n3,w2,hcnt];first|exact d6|exact⟨d6,rfl⟩
    ·have:i=f.darts.length:=by omega
     subst this;rw[List.take_length] at p9;have hdc:(f.darts.countP fun d=>d/2==e)=dcnt f e:=rfl;rw[hdc] at p9;cases hq:(dcnt f e==1) with
     |true=>
      have n4:(((dcnt f e:Nat):Int)!=1)=false:=by
       have:dcnt f e=1:=by simpa using hq
       simp[bne,this]
      simp only[go_sem,i132_l1,i132_r2,i132_r3,p6,p32,p33,p34,p9,p40,p41,no_more,n4,w1,hlt];refine⟨d6,fun i2 e2 hi2 he2=> ?_⟩;rcases Nat.lt_succ_iff_lt_or_eq.1 hi2 with h|rfl
      ·exact hok i2 e2 h he2
      ·rw[hek] at he2;cases he2;exact hq
     |false=>
      have n4:(((dcnt f e:Nat):Int)!=1)=true:=by
       have: ¬ dcnt f e=1:=by simpa using hq
       simp[bne];omega
      have hall:(edges.all fun e=>dcnt f e==1)=false:=List.all_eq_false.2 ⟨e,List.mem_of_getElem? hek,by rw[hq];decide⟩;simp only[go_sem,i132_l1,i132_r2,p9,p40,p41,no_more,n4,hall]
  ·have:k=edges.length:=by omega
   subst this;have hall:(edges.all fun e=>dcnt f e==1)=true:=List.all_eq_true.2 fun e he=>by
    obtain⟨i,hi⟩:=List.getElem?_of_mem he;exact hok i e (List.getElem?_eq_some_iff.1 hi).1 hi
   simp only[go_sem,i132_l4,i132_r5,h33,h34,no_more,hall]
def cornR(F:Nat)(ls:List Let)(pl:Nat)(edges:List Nat)(e0:Nat):Bool:=cornB (faceAt F ls (2*e0)) pl edges||cornB (faceAt F ls (2*e0+1)) pl edges
theorem corner_p(g:Fine F ls)(edges:List Nat)(hel:edges.length≤1000){e0:Nat}(h0:edges[0]? =some e0)(he0:e0<ls.length)(pl:Nat):
  PEv S 112 [.one (.p (brdV F ls)),vi pl, .one (.p (.sl (nP edges)))] (rb (cornR F ls pl edges e0)):=by
 have hlen:=g.len;obtain⟨j0,a1,a2,a3⟩:=faceAt_at g (d:=2*e0) (by omega);obtain⟨j1,b1,b2,b3⟩:=faceAt_at g (d:=2*e0+1) (by omega);have g0:(facesL F ls).getD j0 noFc=faceAt F ls (2*e0):=by rw[List.getD_eq_getElem?_getD,a2];rfl
 have g1:(facesL F ls).getD j1 noFc=faceAt F ls (2*e0+1):=by rw[List.getD_eq_getElem?_getD,b2];rfl
 have pc:=containsF_p [j0,j1] (by simp) (f:=132) (x:= .box [brdV F ls]) (y:= .box [.sl (nP edges)]) (z:= .box [.int .i64 pl]) ⟨rfl,rfl,rfl⟩ s132 (fun j=>cornB ((facesL F ls).getD j noFc) pl edges) (fun v hv=>by
  simp only[List.mem_cons,List.not_mem_nil,or_false] at hv;rcases hv with rfl|rfl
  ·rw[g0];exact corn1_p g a2 edges hel pl
  ·rw[g1];exact corn1_p g b2 edges hel pl)
 have hany:([j0,j1].any fun j=>cornB ((facesL F ls).getD j noFc) pl edges)=cornR F ls pl edges e0:=by
  simp only[List.any_cons,List.any_nil,Bool.or_false,g0,g1];rfl
 rw[hany] at pc;simp only[List.map_cons,List.map_nil] at pc;have ja:=nP_at a1;have jb:=nP_at b1;have he:=nP_at h0;have m2:=wrap_mul2 (a:=e0) (by omega);have m3:=wrap_succ (n:=2*e0) (by omega);have hll:=leftL_len F ls;have l1:2*e0<(leftL F ls).length:=by omega
 have l2:2*e0+1<(leftL F ls).length:=by omega
 have hpos:0<edges.length:=(List.getElem?_eq_some_iff.1 h0).1;have hpos':(0:Int)<(edges.length:Int):=by omega
 refine pev1 c112 ?_;simp only[go_sem,i112,he,m2,m3,ja,jb,s131,dP_bool pc];exact okd
def swE(ls:List Let)(l:List Pc)(e:Nat):List Pc:=(l.set e (l.getD (nx ls e) ⟨noLet,false⟩)).set (nx ls e) (l.getD e ⟨noLet,false⟩)
theorem swE_len(ls:List Let)(l:List Pc)(e:Nat):(swE ls l e).length=l.length:=by simp[swE]
def swL(ls:List Let)(l:List Pc)(es:List Nat):List Pc:=es.foldl (swE ls) l
theorem swL_len(ls:List Let): ∀ (es:List Nat) (l:List Pc),(swL ls l es).length=l.length:=by
 intro es
 induction es with
 |nil=>intro l;rfl
 |cons e es ih=>intro l;show(swL ls (swE ls l e) es).length=_;rw[ih,swE_len]
theorem swapped_p(g:Fine F ls)(es:List Nat)(hes: ∀ e∈es,e<ls.length)(hel:es.length≤1000):
  PEv S 119 [.one (.p (brdV F ls)), .one (.p (.sl (nP es)))] (.one (grownR pcTy 7 (pcP (swL ls (pieces ls) es)))):=by
 have hlen:=g.len;have hpl:=pieces_len ls;have hne:pieces ls≠[]:=List.length_pos_iff.1 (by have:=List.length_pos_iff.2 g.ne;omega);have pcl:=clone_g hne (by omega);have lo:S.lone 7616064256=false:=by kernel_rfl
 refine pev1 c119 ?_;simp only[go_sem,i119,s109];refine gP_g1 pcl lo (.inl rfl) fun cc blk0 gc hb0=> ?_
 rcases gc with ⟨e,_⟩|⟨_,gg,e,hC⟩
 ·exact absurd (by simpa using e) hne
 ·cases e
  rw[List.length_map,hpl];simp only[go_sem];refine R_for (fun k env blk=>env 0= .one (.p (brdV F ls))∧env 5= .one (.hsl 7616064256 gg 7 0 ls.length)∧env 15= .one (.p (.sl (nP es)))∧env 16=vi es.length∧env 17=vi k∧blk 7616064256=(gg,some (.arr pcTy 7 (pcP (swL ls (pieces ls) (es.take k)))))) 0 es.length (Nat.zero_le _) ?_ ?_
  ·simp only[go_sem,hC];first|exact⟨rfl,rfl⟩|rfl|exact⟨rfl,rfl,rfl⟩
  ·rintro k env blk hk ⟨h0,h5,h15,h16,h17,bO⟩
   by_cases hlt:k<es.length
   ·have hlt':((k:Int)<(es.length:Int)):=by omega
    obtain⟨e,he⟩:=at_lt hlt;have hep:=nP_at he;have hel':=hes e (List.mem_of_getElem? he);have pe:=ends_p g hel';have w1:=wrap_succ (n:=k) (by omega);have htk:swL ls (pieces ls) (es.take (k+1))=swE ls (swL ls (pieces ls) (es.take k)) e:=by
     unfold swL;rw[List.take_add_one,he,List.foldl_append];rfl
    have hml:(swL ls (pieces ls) (es.take k)).length=ls.length:=by rw[swL_len,hpl]
    have hm:=Nat.mod_lt (e+1) (show 0<ls.length by omega);generalize swL ls (pieces ls) (es.take k)=m at bO htk hml;obtain⟨p,hp⟩:=at_lt (ls:=m) (k:=e) (by omega);obtain⟨q,hq⟩:=at_lt (ls:=m) (k:=(e+1)%ls.length) (by omega);have hpp:=pcP_at hp;have hqp:=pcP_at hq;have l1:e<m.length:=by omega
    have l2:(e+1)%ls.length<m.length:=by omega
    have s1:=pcP_set m e q;have hfin:(m.set e q).set ((e+1)%ls.length) p=swE ls m e:=by
     unfold swE nx;rw[List.getD_eq_getElem?_getD,hq,List.getD_eq_getElem?_getD,hp];rfl
    have s2:=pcP_set (m.set e q) ((e+1)%ls.length) p;rw[hfin,← htk] at s2;simp only[Pc.ps] at s1 s2;obtain⟨p',hp'⟩:=at_lt (ls:=m.set e q) (k:=e) (by rw[List.length_set];omega);obtain⟨q',hq'⟩:=at_lt (ls:=m.set e q) (k:=(e+1)%ls.length) (by rw[List.length_set];omega);have hqp':=pcP_at hq';simp only[go_sem,i119_l1,h0,h5,h15,h16,h17,bO,hlt,hlt',hep,s104,gP_land pe land_tup,hel',hm,hpp,hqp,hqp',s1,s2,Pc.ps,w1];exact okd
   ·have:k=es.length:=by omega
    subst this;rw[List.take_length] at bO;simp only[go_sem,i119_l1,i119_r2,h5,h16,h17,no_more];have h1:(swL ls (pieces ls) es).length=ls.length:=by rw[swL_len,hpl]
    refine grown_out (.inr ⟨?_,gg,by rw[List.length_map,h1],bO⟩);intro h2;have:=congrArg List.length h2;rw[List.length_map,h1,List.length_nil] at this;have h3:=List.length_pos_iff.2 g.ne;omega
def setRk(l:List Pc)(i:Nat)(r:Int):List Pc:=l.set i {(l.getD i ⟨noLet,false⟩) with l:={(l.getD i ⟨noLet,false⟩).l with rank:=r}}
theorem setRk_len(l:List Pc)(i:Nat)(r:Int):(setRk l i r).length=l.length:=by simp[setRk]
def asR(F:Nat)(ls:List Let)(av bv:Nat):Option (List Pc):=
 if (pvR ls av).2.2&&((pvR ls bv).2.2&&(!((pvR ls av).2.1==(pvR ls bv).2.1)&&(((pA ls (pvR ls av).2.1).l.id==(pA ls (pvR ls bv).2.1).l.id)&&cornR F ls 1 [av,bv] av)))
 then some (swL ls (setRk (setRk (pieces ls) (pvR ls av).1 (pA ls (pvR ls bv).1).l.rank) (pvR ls bv).1 (pA ls (pvR ls av).1).l.rank) [av,bv]) else none
theorem pvR_lt{e:Nat}(he:e<ls.length):(pvR ls e).1<ls.length∧(pvR ls e).2.1<ls.length:=by
 have hm:=Nat.mod_lt (e+1) (show 0<ls.length by omega);unfold pvR nx;split
 ·exact⟨hm,he⟩
 ·exact⟨he,hm⟩
theorem axisSlide_p(g:Fine F ls){av bv:Nat}(ha:av<ls.length)(hb:bv<ls.length){k c:Int}{l o:Bool}{sg:Int}:
  PEv S 83 [.one (.p (brdV F ls)),mvV k av bv c l o sg] (kR (asR F ls av bv)):=by
 have hlen:=g.len;have hpl:=pieces_len ls;have pa:=pav_p g ha;have pb:=pav_p g hb;have pc:=corner_p g [av,bv] (by simp) (e0:=av) rfl ha 1;obtain⟨p1,v1⟩:=pvR_lt ha;obtain⟨q1,w1⟩:=pvR_lt hb;unfold asR;generalize pvR ls av=x at*;generalize pvR ls bv=y at*;obtain⟨pi,vi',one⟩:=x;obtain⟨qi,wi,two⟩:=y;simp only at pa pb p1 v1 q1 w1 ⊢;simp only[List.map_cons,List.map_nil] at pc;have c1:((1:Nat):Int)=1:=rfl;rw[c1] at pc;obtain⟨P,hP⟩:=at_lt (ls:=pieces ls) (k:=pi) (by omega);obtain⟨Q,hQ⟩:=at_lt (ls:=pieces ls) (k:=qi) (by omega);obtain⟨V,hV⟩:=at_lt (ls:=pieces ls) (k:=vi') (by omega)
 obtain⟨W,hW⟩:=at_lt (ls:=pieces ls) (k:=wi) (by omega);rw[pA_of hP,pA_of hQ,pA_of hV,pA_of hW];have hPp:=pcP_at hP;have hQp:=pcP_at hQ;have hVp:=pcP_at hV;have hWp:=pcP_at hW;have hne:pieces ls≠[]:=List.length_pos_iff.1 (by omega);have pcl:=clone_g hne (by omega);have lo:S.lone 5312384256=false:=by kernel_rfl
 refine pev1 c83 ?_;cases one with
 |false=>
  simp only[go_sem,i83,s111,gP_land pa land_tup3,gP_land pb land_tup3];exact⟨okd,rfl⟩
 |true=>
 cases two with
 |false=>
  simp only[go_sem,i83,s111,gP_land pa land_tup3,gP_land pb land_tup3];exact⟨okd,rfl⟩
 |true=>
 cases c2:(vi'==wi) with
 |true=>
  have n2:((vi':Int)==(wi:Int))=true:=by simp[show vi'=wi by simpa using c2]
  simp only[go_sem,i83,s111,gP_land pa land_tup3,gP_land pb land_tup3,n2];exact⟨okd,rfl⟩
 |false=>
 have n2:((vi':Int)==(wi:Int))=false:=by
  have: ¬ vi'=wi:=by simpa using c2
  simp;omega
 cases c3:(V.l.id==W.l.id) with
 |false=>
  have n3:(V.l.id !=W.l.id)=true:=by simp[bne,c3]
  simp only[go_sem,i83,s111,gP_land pa land_tup3,gP_land pb land_tup3,n2,hVp,hWp,Pc.ps,n3];exact⟨okd,rfl⟩
 |true=>
 have n3:(V.l.id !=W.l.id)=false:=by simp[bne,c3]
 cases c4:cornR F ls 1 [av,bv] av with
 |false=>
  rw[c4] at pc;simp only[go_sem,i83,s111,gP_land pa land_tup3,gP_land pb land_tup3,n2,hVp,hWp,Pc.ps,n3,s112,dP_bool pc];exact⟨okd,rfl⟩
 |true=>
 rw[c4] at pc;simp only[go_sem,i83,s111,gP_land pa land_tup3,gP_land pb land_tup3,n2,hVp,hWp,hPp,hQp,Pc.ps,n3,s112,dP_bool pc,s109];refine⟨okd,okd,?_⟩;refine gP_g1 pcl lo (.inl rfl) fun cc blk0 gc hb0=> ?_
 have b3:=hb0 5312000000 (by decide);simp only[go_sem] at b3;rcases gc with ⟨e,_⟩|⟨_,gg,e,hC⟩
 ·exact absurd (by simpa using e) hne
 ·cases e
  rw[List.length_map,hpl];have s1:=pcP_set (pieces ls) pi {P with l:={P.l with rank:=Q.l.rank}};have hs1:(pieces ls).set pi {P with l:={P.l with rank:=Q.l.rank}}=setRk (pieces ls) pi Q.l.rank:=by
   unfold setRk;rw[List.getD_eq_getElem?_getD,hP];rfl
  rw[hs1] at s1;have hl1:(setRk (pieces ls) pi Q.l.rank).length=ls.length:=by rw[setRk_len,hpl]
  obtain⟨Q',hQ'⟩:=at_lt (ls:=setRk (pieces ls) pi Q.l.rank) (k:=qi) (by omega);have hQp':=pcP_at hQ';have s2:=pcP_set (setRk (pieces ls) pi Q.l.rank) qi {Q' with l:={Q'.l with rank:=P.l.rank}};have hs2:(setRk (pieces ls) pi Q.l.rank).set qi {Q' with l:={Q'.l with rank:=P.l.rank}}=setRk (setRk (pieces ls) pi Q.l.rank) qi P.l.rank:=by
   rw[setRk.eq_def (setRk (pieces ls) pi Q.l.rank),List.getD_eq_getElem?_getD,hQ'];rfl
  rw[hs2] at s2;simp only[Pc.ps] at s1 s2;have hm2:(setRk (setRk (pieces ls) pi Q.l.rank) qi P.l.rank).length=ls.length:=by rw[setRk_len,hl1]
  simp only[go_sem,b3,hC,hPp,hQp',Pc.ps,s1,s2,p1,q1];generalize setRk (setRk (pieces ls) pi Q.l.rank) qi P.l.rank=M at hm2 ⊢;obtain⟨es,hese⟩: ∃ es,es=[av,bv]:=⟨_,rfl⟩;have hel2:es.length=2:=by rw[hese];rfl
  have hes: ∀ e∈es,e<ls.length:=fun e he=>by
   rw[hese] at he;simp only[List.mem_cons,List.not_mem_nil,or_false] at he;rcases he with rfl|rfl<;>assumption
  refine R_for (fun k env blk=>env 0= .one (.p (brdV F ls))∧env 14= .one (.hsl 5312384256 gg 7 0 ls.length)∧(∃ ge,env 116= .one (.hsl 5312512256 ge 1 0 2)∧blk 5312512256=(ge,some (.arr 3 1 (nP es))))∧env 117=vi ((2:Nat):Int)∧env 118=vi k∧blk 5312384256=(gg,some (.arr pcTy 7 (pcP (swL ls M (es.take k)))))) 0 2 (Nat.zero_le _) ?_ ?_
  ·simp only[go_sem];exact⟨⟨_,rfl,by rw[hese];rfl⟩,rfl,rfl⟩
  ·rintro k env blk hk ⟨h0,h14,⟨ge,h116,bE⟩,h117,h118,bO⟩
   by_cases hlt:k<2
   ·have hlt':((k:Int)<((2:Nat):Int)):=by omega
    have hlt2:k<es.length:=by omega
    obtain⟨e,he⟩:=at_lt hlt2;have hep:=nP_at he;have hel':=hes e (List.mem_of_getElem? he);have pe:=ends_p g hel';have w1:=wrap_succ (n:=k) (by omega);have htk:swL ls M (es.take (k+1))=swE ls (swL ls M (es.take k)) e:=by
     unfold swL;rw[List.take_add_one,he,List.foldl_append];rfl
    have hml:(swL ls M (es.take k)).length=ls.length:=by rw[swL_len,hm2]
    have hm:=Nat.mod_lt (e+1) (show 0<ls.length by omega);generalize swL ls M (es.take k)=m at bO htk hml;obtain⟨p,hp⟩:=at_lt (ls:=m) (k:=e) (by omega);obtain⟨q,hq⟩:=at_lt (ls:=m) (k:=(e+1)%ls.length) (by omega);have hpp:=pcP_at hp;have hqp:=pcP_at hq;have l1:e<m.length:=by omega
    have l2:(e+1)%ls.length<m.length:=by omega
    have s1:=pcP_set m e q;have hfin:(m.set e q).set ((e+1)%ls.length) p=swE ls m e:=by
     unfold swE nx;rw[List.getD_eq_getElem?_getD,hq,List.getD_eq_getElem?_getD,hp];rfl
    have s2:=pcP_set (m.set e q) ((e+1)%ls.length) p;rw[hfin,← htk] at s2;simp only[Pc.ps] at s1 s2;obtain⟨q',hq'⟩:=at_lt (ls:=m.set e q) (k:=(e+1)%ls.length) (by rw[List.length_set];omega);have hqp':=pcP_at hq';simp only[go_sem,i83_l1,h0,h14,h116,h117,h118,bE,bO,hlt,hlt',hep,s104,gP_land pe land_tup,hel',hm,hpp,hqp,hqp',s1,s2,Pc.ps,w1];first|exact⟨okd,ge,rfl,rfl⟩|exact⟨okd,⟨ge,rfl,rfl⟩⟩|exact⟨okd,⟨ge,rfl,rfl⟩,rfl⟩|trace_state
   ·have:k=2:=by omega
    subst this;have e1:es.take 2=[av,bv]:=by rw[hese];rfl
    rw[e1] at bO;have hge: ¬ (((2:Nat):Int)<((2:Nat):Int)):=by omega
    simp only[go_sem,i83_l1,i83_r2,h14,h117,h118,hge];have h1:(swL ls M [av,bv]).length=ls.length:=by rw[swL_len,hm2]
    refine grown_out1 (.inr ⟨?_,gg,by rw[Option.getD_some,List.length_map,h1],bO⟩);intro h2;have:=congrArg List.length h2;rw[Option.getD_some,List.length_map,h1,List.length_nil] at this;omega
end
end Go.Abs
