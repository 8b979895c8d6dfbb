/- A part. -/
import Derived.Test.YtkfngecllhhooaaGreatDoorWn
set_option linter.all false
set_option maxRecDepth 100000
set_option maxHeartbeats 16000000
namespace Go.Abs
section
variable{ls:List Let}{F:Nat}
def yU(l:List Pc)(drop:Nat->Pc->Bool)(i:Nat):Option Pc:=match l[i]? with|some p=>if drop i p then none else some p|none=>none
def kS(l:List Pc)(drop:Nat->Pc->Bool)(k:Nat):List Pc:=(List.range k).filterMap (yU l drop)
def iD(l:List Pc)(drop:Nat->Pc->Bool):List Pc:=kS l drop l.length
theorem fh{l:List Pc}{drop:Nat->Pc->Bool}{k:Nat}{p:Pc}(h:l[k]?=some p)(hd:drop k p=true):kS l drop (k+1)=kS l drop k:=by simp[kS,ack,List.filterMap_append,yU,h,hd]
theorem jG{l:List Pc}{drop:Nat->Pc->Bool}{k:Nat}{p:Pc}(h:l[k]?=some p)(hd:drop k p=false):kS l drop (k+1)=kS l drop k++[p]:=by simp[kS,ack,List.filterMap_append,yU,h,hd]
theorem jF(l:List Pc)(drop:Nat->Pc->Bool)(k:Nat):(kS l drop k).length<=k:=by have:=List.length_filterMap_le (yU l drop) (List.range k);rwa[ac3] at this
theorem o9(g:cV F ls){e:Nat}(he:e<ls.length):aP S 105 [.one (.p (dE F ls)),vi e] (tS (.int .i64 e) (.int .i64 ((e+1)%ls.length:Nat))):=by
 have hlen:=g.len;have hpl:=aB ls;have w1:=ak (n:=e) (by omega);have e1:=iv (e+1) ls.length;have hz:¬((ls.length:Int)=0):=by omega
 refine aJ c105 ?_;simp only[go_sem,i105,w1,e1,hpl,hz];exact⟨aK,rfl⟩
theorem xE(l:List Pc)(hl:l.length<=1000000){f:Nat}{x y:PV}(hn:x.norm=x/\y.norm=y)(hsh:S.shared f=false)(drop:Nat->Pc->Bool)(hd:∀(k:Nat) (p:Pc),l[k]?=some p->aP S f [vi k,.agg (p.ps.map .p),.one (.p x),.one (.p y)] (rb (drop k p))):
  aP S 106 [.one (.p (.sl (hJ l))),.one (.p (.fn f [] [x,y]))] (.one (ah kA 7 (hJ (iD l drop)))):=by
 obtain⟨hn0,hn1⟩:=hn;refine aJ c106 ?_;simp only[go_sem,i106];refine aV (fun k env blk=>env 1=.one (.p (.fn f [] [x,y]))/\env 8=.one (.p (.sl (hJ l)))/\env 9=vi l.length/\env 10=vi k/\ ∃c,env 5=.one c/\grown 6784384192 kA 7 (hJ (kS l drop k)) (.one c) blk) 0 l.length (aan _) ?_ ?_
 .simp only[go_sem];first|exact⟨rfl,_,rfl,.inl ⟨rfl,rfl⟩⟩|exact⟨_,rfl,.inl ⟨rfl,rfl⟩⟩|exact⟨rfl,rfl,_,rfl,.inl ⟨rfl,rfl⟩⟩
 rintro k env blk hk ⟨h1,h8,h9,h10,c,h5,gc⟩
 by_cases hlt:k<l.length
 .have aak:((k:Int)<(l.length:Int)):=by omega
  obtain⟨p,hp⟩:=ao hlt;have hpp:=dd hp;have w1:=ak (n:=k) (by omega);have pd:=hd k p hp;have hkl:=jF l drop k;simp only[Pc.ps,aaK,abi] at pd;cases hb:drop k p with
  |true=>rw[hb] at pd;have hs:=fh hp hb;simp only[go_sem,i106_l1,h1,h5,h8,h9,h10,hlt,aak,hpp,Pc.ps,hn0,hn1,hsh,au pd,w1];refine⟨c,rfl,?_⟩;rw[hs];exact gc.of_eq (by simp only[aa,Nat.reduceEqDiff,if_false])
  |false=>rw[hb] at pd;have hs:=jG hp hb;simp only[go_sem,i106_l1,h1,h5,h8,h9,h10,aak,hpp,Pc.ps,hn0,hn1,hsh,au pd];refine iN (site:=6784384192) (id:=6784384192) (bytes:=56) (xs:=[p.ps]) (rd:=[6784384128]) (gc.of_eq (by simp only[aa,Nat.reduceEqDiff,if_false])) (by simp[aO,aa,Pc.ps]) (.inl rfl) (by simp only[aau,aaz,aaL];omega) fun c' aao hc hbk=>?_;simp only[go_sem,h1,h8,h9,h10,hlt,w1];refine⟨c',rfl,?_⟩;rw[hs,JT];exact hc
 have:k=l.length:=by omega
 subst this;simp only[go_sem,i106_l1,i106_r2,h5,h9,h10,aS];exact fA gc
theorem Hs(l:List Pc)(hl:l.length<=1000000){f:Nat}{x:PV}(hn:x.norm=x)(hsh:S.shared f=false)(drop:Nat->Pc->Bool)(hd:∀(k:Nat) (p:Pc),l[k]?=some p->aP S f [vi k,.agg (p.ps.map .p),.one (.p x)] (rb (drop k p))):
  aP S 106 [.one (.p (.sl (hJ l))),.one (.p (.fn f [] [x]))] (.one (ah kA 7 (hJ (iD l drop)))):=by
 have hn0:=hn;refine aJ c106 ?_;simp only[go_sem,i106];refine aV (fun k env blk=>env 1=.one (.p (.fn f [] [x]))/\env 8=.one (.p (.sl (hJ l)))/\env 9=vi l.length/\env 10=vi k/\ ∃c,env 5=.one c/\grown 6784384192 kA 7 (hJ (kS l drop k)) (.one c) blk) 0 l.length (aan _) ?_ ?_
 .simp only[go_sem];first|exact⟨rfl,_,rfl,.inl ⟨rfl,rfl⟩⟩|exact⟨_,rfl,.inl ⟨rfl,rfl⟩⟩|exact⟨rfl,rfl,_,rfl,.inl ⟨rfl,rfl⟩⟩
 rintro k env blk hk ⟨h1,h8,h9,h10,c,h5,gc⟩
 by_cases hlt:k<l.length
 .have aak:((k:Int)<(l.length:Int)):=by omega
  obtain⟨p,hp⟩:=ao hlt;have hpp:=dd hp;have w1:=ak (n:=k) (by omega);have pd:=hd k p hp;have hkl:=jF l drop k;simp only[Pc.ps,aaK,abi] at pd;cases hb:drop k p with
  |true=>rw[hb] at pd;have hs:=fh hp hb;simp only[go_sem,i106_l1,h1,h5,h8,h9,h10,hlt,aak,hpp,Pc.ps,hn0,hsh,au pd,w1];refine⟨c,rfl,?_⟩;rw[hs];exact gc.of_eq (by simp only[aa,Nat.reduceEqDiff,if_false])
  |false=>rw[hb] at pd;have hs:=jG hp hb;simp only[go_sem,i106_l1,h1,h5,h8,h9,h10,aak,hpp,Pc.ps,hn0,hsh,au pd];refine iN (site:=6784384192) (id:=6784384192) (bytes:=56) (xs:=[p.ps]) (rd:=[6784384128]) (gc.of_eq (by simp only[aa,Nat.reduceEqDiff,if_false])) (by simp[aO,aa,Pc.ps]) (.inl rfl) (by simp only[aau,aaz,aaL];omega) fun c' aao hc hbk=>?_;simp only[go_sem,h1,h8,h9,h10,hlt,w1];refine⟨c',rfl,?_⟩;rw[hs,JT];exact hc
 have:k=l.length:=by omega
 subst this;simp only[go_sem,i106_l1,i106_r2,h5,h9,h10,aS];exact fA gc
theorem KN(k i j:Nat)(p:Pc):aP S 107 [vi k,.agg (p.ps.map .p),.one (.p (.box [.int .i64 i])),.one (.p (.box [.int .i64 j]))] (rb (decide (k=i)||decide (k=j))):=by
 refine aJ c107 ?_;by_cases h1:k=i
 .have e1:((k:Int)==(i:Int))=true:=by simp[h1]
  rw[show(decide (k=i)||decide (k=j))=true by simp[h1]];simp only[go_sem,i107,Pc.ps,e1]
 have e1:((k:Int)==(i:Int))=false:=by simp;omega
 by_cases h2:k=j
 .have e2:((k:Int)==(j:Int))=true:=by simp[h2]
  rw[show(decide (k=i)||decide (k=j))=true by simp[h2]];simp only[go_sem,i107,Pc.ps,e1,e2]
 have e2:((k:Int)==(j:Int))=false:=by simp;omega
 rw[show(decide (k=i)||decide (k=j))=false by simp[h1,h2]];simp only[go_sem,i107,Pc.ps,e1,e2]
def Ms(a b:Int):Int:=if a<b then b else a
def TJ(a b:Int):Int:=if b<a then b else a
def Ss(ls:List Let)(av:Nat):Option (List Pc):=
 let p:=(pieces ls).getD av ⟨fm,false⟩
 let q:=(pieces ls).getD ((av+1)%ls.length) ⟨fm,false⟩
 if (p.l.kind==1)&&((q.l.kind==1)&&((p.l.gate==q.l.gate)&&((Ms p.l.aag q.l.aag-TJ p.l.aag q.l.aag==1)&& !(decide (aA Let.aH ls<=2)&&decide (0<aA Let.aD ls/2)))))
 then some (dr (iD (pieces ls) fun k _=>decide (k=av)||decide (k=(av+1)%ls.length)) p.l.gate (Ms p.l.aag q.l.aag) (-2)) else none
theorem vr{l:List Pc}{drop:Nat->Pc->Bool}{p:Pc}(h:p∈iD l drop):p∈l:=by
 obtain⟨i,_,hi⟩:=List.mem_filterMap.1 h;unfold yU at hi;cases hl:l[i]? with
 |none=>rw[hl] at hi;cases hi
 |some q=>
  rw[hl] at hi;simp only at hi;split at hi
  .cases hi
  cases hi;exact aae hl
theorem Nn(g:cV F ls){av:Nat}(ha:av<ls.length){k b c:Int}{l o:Bool}{sg:Int}:
  aP S 85 [.one (.p (dE F ls)),rQ k av b c l o sg] (kR (Ss ls av)):=by
 have hlen:=g.len;have hpl:=aB ls;have pe:=o9 g ha;have hm:=aaN (av+1) (show 0<ls.length by omega);have hrb:=HQ g;obtain⟨p,hp⟩:=ao (ls:=pieces ls) (k:=av) (by omega);obtain⟨q,hq⟩:=ao (ls:=pieces ls) (k:=(av+1)%ls.length) (by omega);obtain⟨p1,p2⟩:=hrb p (aae hp);obtain⟨q1,q2⟩:=hrb q (aae hq);have hpi:=dd hp;have hpj:=dd hq;have hsh:S.shared 108=true:=by kernel_rfl
 have lo:S.lone 5440320320=false:=by kernel_rfl
 have hcr:=g.cr;unfold Ss;simp only[aaC,hp,hq,abv];refine aJ c85 ?_;cases c1:(p.l.kind==1) with
 |false=>
  have n1:(p.l.kind !=1)=true:=by simp[bne,c1]
  simp only[go_sem,i85,s105,aq pe aN,hpi,hpj,Pc.ps,n1];exact⟨aK,rfl⟩
 |true=>
 have n1:(p.l.kind !=1)=false:=by simp[bne,c1]
 cases c2:(q.l.kind==1) with
 |false=>
  have n2:(q.l.kind !=1)=true:=by simp[bne,c2]
  simp only[go_sem,i85,s105,aq pe aN,hpi,hpj,Pc.ps,n1,n2];exact⟨aK,rfl⟩
 |true=>
 have n2:(q.l.kind !=1)=false:=by simp[bne,c2]
 cases c3:(p.l.gate==q.l.gate) with
 |false=>
  have n3:(p.l.gate !=q.l.gate)=true:=by simp[bne,c3]
  simp only[go_sem,i85,s105,aq pe aN,hpi,hpj,Pc.ps,n1,n2,n3];exact⟨aK,rfl⟩
 |true=>
 have n3:(p.l.gate !=q.l.gate)=false:=by simp[bne,c3]
 have hmx:(if q.l.aag>p.l.aag then q.l.aag else p.l.aag)=Ms p.l.aag q.l.aag:=rfl;have hmn:(if q.l.aag<p.l.aag then q.l.aag else p.l.aag)=TJ p.l.aag q.l.aag:=rfl;have hmxb: -1000000<=Ms p.l.aag q.l.aag/\Ms p.l.aag q.l.aag<=1000000:=by unfold Ms;split<;>omega
 have hmnb: -1000000<=TJ p.l.aag q.l.aag/\TJ p.l.aag q.l.aag<=1000000:=by unfold TJ;split<;>omega
 have wd:=jT (x:=Ms p.l.aag q.l.aag-TJ p.l.aag q.l.aag) (by omega) (by omega);generalize Ms p.l.aag q.l.aag=mx at*;generalize TJ p.l.aag q.l.aag=mn at*;cases c4:(mx-mn==1) with
 |false=>
  have n4:(mx-mn !=1)=true:=by simp[bne,c4]
  simp only[go_sem,i85,s105,aq pe aN,hpi,hpj,Pc.ps,n1,n2,n3,hmx,hmn,wd,n4];exact⟨aK,rfl⟩
 |true=>
 have n4:(mx-mn !=1)=false:=by simp[bne,c4]
 have dX:∀(X:Prop),X->X:=fun _ h=>h;by_cases c5:aA Let.aH ls<=2
 .have n5:((aA Let.aH ls:Int)<=2):=by omega
  by_cases c6:0<aA Let.aD ls/2
  .have n6:((0:Int)<((aA Let.aD ls/2:Nat):Int)):=by omega
   rw[decide_eq_true c5,decide_eq_true c6];simp only[go_sem,i85,s105,aq pe aN,hpi,hpj,Pc.ps,n1,n2,n3,hmx,hmn,wd,n4,n5,n6];exact⟨aK,rfl⟩
  have n6:¬((0:Int)<((aA Let.aD ls/2:Nat):Int)):=by omega
  rw[decide_eq_true c5,decide_eq_false c6];simp only[go_sem,i85,s105,aq pe aN,hpi,hpj,Pc.ps,n1,n2,n3,hmx,hmn,wd,n4,n5,n6,s106];refine⟨aK,?_⟩;refine jg (xE (pieces ls) (by omega) ⟨rfl,rfl⟩ s107 (fun k _=>decide (k=av)||decide (k=(av+1)%ls.length)) (fun k p _=>KN k av ((av+1)%ls.length) p)) lo (.inr (bG (tQ _))) fun cc aao gc hb=>?_;have b8:=hb 5440128896 (by decide);have b9:=hb 5440128960 (by decide);simp only[go_sem] at b8 b9;simp only[go_sem,b8,b9,hmx,hsh];refine F9 (l:=iD (pieces ls) fun k _=>decide (k=av)||decide (k=(av+1)%ls.length)) (abm (jF _ _ _) (by omega)) (by decide) (fun x hx=>hrb x (vr hx)) gc fun aal gc2 hb2=>?_;simp only[go_sem];exact eF gc2
 have n5:¬((aA Let.aH ls:Int)<=2):=by omega
 rw[decide_eq_false c5];simp only[go_sem,i85,s105,aq pe aN,hpi,hpj,Pc.ps,n1,n2,n3,hmx,hmn,wd,n4,n5,s106];refine⟨aK,?_⟩;refine jg (xE (pieces ls) (by omega) ⟨rfl,rfl⟩ s107 (fun k _=>decide (k=av)||decide (k=(av+1)%ls.length)) (fun k p _=>KN k av ((av+1)%ls.length) p)) lo (.inr (bG (tQ _))) fun cc aao gc hb=>?_;have b8:=hb 5440128896 (by decide);have b9:=hb 5440128960 (by decide);simp only[go_sem] at b8 b9;simp only[go_sem,b8,b9,hmx,hsh];refine F9 (l:=iD (pieces ls) fun k _=>decide (k=av)||decide (k=(av+1)%ls.length)) (abm (jF _ _ _) (by omega)) (by decide) (fun x hx=>hrb x (vr hx)) gc fun aal gc2 hb2=>?_;simp only[go_sem];exact eF gc2
abbrev iP(o:List Int):List (List PV):=o.map fun n=>[PV.int .i64 n]
theorem sP{o:List Int}{k:Nat}{v:Int}(h:o[k]?=some v):(iP o)[k]?=some [.int .i64 v]:=by simp[h]
def AL(o:List Int)(x:Int)(i:Nat):Bool:=match o[i]? with|some y=>y==x|none=>false
theorem Qh(o:List Int)(x:Int)(hl:o.length<=1000000):aP S 154 [.one (.p (.sl (iP o))),vi x] (ri (match (List.range o.length).find? (AL o x) with|some k=>(k:Int)|none=> -1)):=by
 refine aJ c154 ?_;simp only[go_sem,i154];refine aV (fun k env blk=>env 0=.one (.p (.sl (iP o)))/\env 1=vi x/\env 7=vi o.length/\env 8=vi k/\ ∀j,j<k->AL o x j=false) 0 o.length (aan _) ?_ ?_
 .simp only[go_sem];exact⟨rfl,fun j hj=>absurd hj (abW j)⟩
 rintro k env blk hk ⟨h0,h1,h7,h8,hn⟩
 by_cases hlt:k<o.length
 .have aak:((k:Int)<(o.length:Int)):=by omega
  obtain⟨y,hy⟩:=ao hlt;have hpp:=sP hy;have w1:=ak (n:=k) (by omega);have hpd:AL o x k=(y==x):=by simp[AL,hy]
  cases hb:(y==x) with
  |true=>
   have hb':(x==y)=true:=by have:=beq_iff_eq.1 hb;simp[this]
   rw[hb] at hpd;have hf:=gH (p:=AL o x) hlt hn hpd;simp only[go_sem,i154_l1,h0,h1,h7,h8,aak,hpp,hb',hf];first|done|exact aK|rfl
  |false=>
   have hb':(x==y)=false:=by
    have:¬y=x:=by simpa using hb
    simp;exact fun h=>this h.symm
   rw[hb] at hpd;have hn':∀j,j<k+1->AL o x j=false:=fun j hj=>by
    rcases abC.1 hj with h|rfl
    .exact hn j h
    exact hpd
   simp only[go_sem,i154_l1,h0,h1,h7,h8,hlt,aak,hpp,hb',w1];first|exact hn'|exact⟨aK,hn'⟩
 have:k=o.length:=by omega
 subst this;have hf:=fT (p:=AL o x) hn;simp only[go_sem,i154_l1,i154_r2,h7,h8,aS,hf]
theorem GJ(o:List Int)(x:Int)(hl:o.length<=1000000):aP S 135 [.one (.p (.sl (iP o))),vi x] (rb (o.contains x)):=by
 have pi:=Qh o x hl;refine aJ c135 ?_;cases hm:o.contains x with
 |true=>
  have hm':x∈o:=by simpa using hm
  obtain⟨k,hk⟩:=abb hm';have hkl:=(aai.1 hk).1;cases hf:(List.range o.length).find? (AL o x) with
  |none=>have:=adn.1 hf k (aaX.2 hkl);simp[AL,hk] at this
  |some j=>
   rw[hf] at pi;have hge:(0:Int)<=(j:Int):=by omega
   simp only[go_sem,i135,s154,a7 pi,hge]
 |false=>
  have hm':x∉o:=by simpa using hm
  cases hf:(List.range o.length).find? (AL o x) with
  |some j=>
   have h1:=List.find?_some hf;unfold AL at h1;cases ho:o[j]? with
   |none=>rw[ho] at h1;cases h1
   |some y=>
    rw[ho] at h1;have:y=x:=by simpa using h1
    subst this;exact absurd (aae ho) hm'
  |none=>
   rw[hf] at pi;have hge:¬(0:Int)<= -1:=by decide
   simp only[go_sem,i135,s154,a7 pi,hge]
def lY(ids:List Int)(_:Nat)(p:Pc):Bool:=(p.l.kind==2)&&ids.contains p.l.id
theorem Uw(ids:List Int)(hl:ids.length<=1000000)(k:Nat)(p:Pc):aP S 134 [vi k,.agg (p.ps.map .p),.one (.p (.box [.sl (iP ids)]))] (rb (lY ids k p)):=by
 have pc:=GJ ids p.l.id hl;refine aJ c134 ?_;unfold lY;cases h:(p.l.kind==2) with
 |true=>simp only[go_sem,i134,Pc.ps,h,s135,au pc]
 |false=>simp only[go_sem,i134,Pc.ps,h]
def iC(ids:List Int)(k:Nat)(p:Pc):Pc:={p with l:={p.l with id:=p.l.id-((ids.take k).countP (fun i=>decide (i<p.l.id)):Nat)}}
def pY(ids:List Int)(p:Pc):Pc:=if p.l.kind==2 then iC ids ids.length p else p
abbrev Cu(l:List Pc)(ids:List Int):List Pc:=(iD l (lY ids)).map (pY ids)
abbrev sD(ids:List Int)(l:List Pc)(k:Nat):List Pc:=(l.take k).map (pY ids)++l.drop k
theorem Kj{ids:List Int}{l:List Pc}{k:Nat}{p:Pc}(h:l[k]?=some p):(sD ids l k)[k]?=some p:=by have hk:=(aai.1 h).1;rw[sD,acA (by rw[aau,aa2];omega),aau,aa2,acu (by omega),Nat.sub_self,acB];exact h
theorem PB(ids:List Int)(l:List Pc)(k:Nat):(sD ids l k).length=l.length:=by rw[sD,aaY,aau,aa2,abk];omega
theorem PA{ids:List Int}{l:List Pc}{k:Nat}{p:Pc}(h:l[k]?=some p):(sD ids l k).set k (pY ids p)=sD ids l (k+1):=by
 have hk:=(aai.1 h).1;have hdr:l.drop k=p::l.drop (k+1):=by obtain⟨hh,rfl⟩:=aai.1 h;exact List.drop_eq_getElem_cons hh
 have e1:((l.take k).map (pY ids)).length=k:=by rw[aau,aa2];omega
 rw[sD,List.set_append_right _ _ (by omega),e1,Nat.sub_self,hdr,List.set_cons_zero,sD,abM,h];simp
theorem oz(o:List Pc)(k:Nat)(p:Pc):(hJ o).set k p.ps=hJ (o.set k p):=by simp[List.map_set]
theorem Ct(l:List Pc)(ids:List Int)(hl:l.length<=1000000)(hi:ids.length<=1000)(hb:∀p∈l,-1000000<=p.l.id/\p.l.id<=1000000):
  aP S 114 [.one (.p (.sl (hJ l))),.one (.p (.sl (iP ids)))] (.one (ah kA 7 (hJ (Cu l ids)))):=by
 have pw:=Hs l hl (f:=134) (x:=.box [.sl (iP ids)]) rfl s134 (lY ids) (fun k p _=>Uw ids (by omega) k p);have lo:S.lone 7296064128=false:=by kernel_rfl
 have abj:∀p∈iD l (lY ids),-1000000<=p.l.id/\p.l.id<=1000000:=fun p hp=>hb p (vr hp);have hkl:(iD l (lY ids)).length<=1000000:=abm (jF _ _ _) hl;refine aJ c114 ?_;simp only[go_sem,i114,s106];refine jg pw lo (.inr (bG (tQ _))) fun cc abf gc hb0=>?_;have z3:=hb0 7296000000 (by decide);simp only[go_sem] at z3;unfold Cu;generalize iD l (lY ids)=m at gc abj hkl;rcases gc with ⟨e,e2⟩|⟨hne,gg,e2,hC⟩
 .cases e2;have:m=[]:=by simpa using e
  subst this;have hz:¬(((0:Nat):Int)<((0:Nat):Int)):=by omega
  simp only[go_sem];refine aV (fun k env blk=>k=0/\env 5=.one (.p .nils)/\env 14=vi ((0:Nat):Int)/\env 15=vi ((0:Nat):Int)) 0 0 (aaj _) ?_ ?_
  .simp only[go_sem];exact rfl
  rintro k env blk _ ⟨rfl,h5,h14,h15⟩
  simp only[go_sem,i114_l3,i114_r4,h5,h14,h15,hz];rfl
 cases e2;simp only[go_sem];refine aV (fun k env blk=>env 3=.one (.aam 7296000000 1 0)/\blk 7296000000=(1,some (.var [.p (.sl (iP ids))]))/\env 5=.one (.hsl 7296064128 gg 7 0 m.length)/\env 13=.one (.hsl 7296064128 gg 7 0 m.length)/\env 14=vi m.length/\env 15=vi k/\blk 7296064128=(gg,some (.arr kA 7 (hJ (sD ids m k))))) 0 m.length (aan _) ?_ ?_
 .simp only[go_sem,z3,hC];refine⟨rfl,?_⟩;simp[sD]
 rintro k env blk hk ⟨h3,bI,h5,h13,h14,h15,bO⟩
 by_cases hlt:k<m.length
 .have aak:((k:Int)<(m.length:Int)):=by omega
  obtain⟨p,hp⟩:=ao hlt;have hpa:=dd (Kj (ids:=ids) hp);have w1:=ak (n:=k) (by omega);have hmk:=PB ids m k;have aaH:=PA (ids:=ids) hp;have hlk:k<(sD ids m k).length:=by omega
  cases c1:(p.l.kind==2) with
  |false=>
   have n1:(p.l.kind !=2)=true:=by simp[bne,c1]
   have abU:sD ids m (k+1)=sD ids m k:=by
    rw[<- aaH];have e:pY ids p=p:=by unfold pY;rw[c1];rfl
    rw[e];obtain⟨hh,he⟩:=aai.1 (Kj (ids:=ids) hp);rw[<- he,List.set_getElem_self]
   simp only[go_sem,i114_l3,i114_r2,h3,bI,h5,h13,h14,h15,bO,hlt,aak,hpa,Pc.ps,n1,w1,abU]
  |true=>
   have n1:(p.l.kind !=2)=false:=by simp[bne,c1]
   have hid:=abj p (aae hp);have acq:pY ids p=iC ids ids.length p:=by unfold pY;rw[c1];rfl
   rw[acq] at aaH;generalize sD ids m k=q at hpa hmk aaH hlk bO;have q0:q.set k (iC ids 0 p)=q:=by
    have:iC ids 0 p=p:=by unfold iC;simp
    rw[this];have h1:q[k]?=some p:=by
     have h2:(hJ q)[k]?=some p.ps:=hpa;rw[aa0] at h2;cases hq:q[k]? with
     |none=>rw[hq] at h2;cases h2
     |some x=>rw[hq] at h2;simp[Pc.ps] at h2;obtain⟨⟨a,b,c,d,e,f⟩,g⟩:=x;obtain⟨⟨a',b',c',d',e',f'⟩,g'⟩:=p;simp at h2;obtain⟨rfl,rfl,rfl,rfl,rfl,rfl,rfl⟩:=h2;rfl
    obtain⟨hh,he⟩:=aai.1 h1;rw[<- he,List.set_getElem_self]
   simp only[go_sem,i114_l3,h3,bI,h13,h14,h15,bO,hlt,aak,hpa,Pc.ps,n1];refine aV (fun j aar aal=>aar 3=.one (.aam 7296000000 1 0)/\aal 7296000000=(1,some (.var [.p (.sl (iP ids))]))/\aar 5=.one (.hsl 7296064128 gg 7 0 m.length)/\aar 13=.one (.hsl 7296064128 gg 7 0 m.length)/\aar 14=vi m.length/\aar 15=vi k/\aar 6=vi k/\aar 24=.one (.p (.sl (iP ids)))/\aar 25=vi ids.length/\aar 26=vi j/\
    (∃g7,aar 7=.one (.aam 7296256192 g7 0)/\aal 7296256192=(g7,some (.var (p.ps.map .p))))/\aal 7296064128=(gg,some (.arr kA 7 (hJ (q.set k (iC ids j p)))))) 0 ids.length (aan _) ?_ ?_
   .simp only[go_sem,h3,bI,h5,h13,h14,h15,bO,q0];first|exact⟨rfl,_,⟨rfl,rfl⟩,rfl⟩|exact⟨rfl,⟨_,rfl,rfl⟩⟩|exact⟨_,rfl,rfl⟩|exact⟨⟨_,rfl,rfl⟩,rfl⟩|exact⟨rfl,⟨_,rfl,rfl⟩,rfl⟩|trace_state
   rintro j aar aal hj ⟨p3,cI,p5,p13,p14,p15,p6,p24,p25,p26,⟨g7,p7,c7⟩,cO⟩
   by_cases hlj:j<ids.length
   .have aeJ:((j:Int)<(ids.length:Int)):=by omega
    obtain⟨d,hd⟩:=ao hlj;have hdp:=sP hd;have w2:=ak (n:=j) (by omega);have abG:(ids.take (j+1)).countP (fun i=>decide (i<p.l.id))=(ids.take j).countP (fun i=>decide (i<p.l.id))+if d<p.l.id then 1 else 0:=by rw[abM,hd,acb];simp[acl,List.countP_nil]
    have hcl:(ids.take j).countP (fun i=>decide (i<p.l.id))<=j:=abm adC (by rw[aa2];omega);have hqa:(hJ (q.set k (iC ids j p)))[k]?=some (iC ids j p).ps:=dd (by rw[abI,if_pos rfl,if_pos (by omega)]);have hql:k<(q.set k (iC ids j p)).length:=by rw[abV];omega
    by_cases hg:d<p.l.id
    .have e1:(iC ids j p).l.id-1=(iC ids (j+1) p).l.id:=by
      unfold iC;simp only;rw[abG,if_pos hg];omega
     have w3:IntKind.i64.wrap ((iC ids j p).l.id-1)=(iC ids (j+1) p).l.id:=by rw[<- e1];exact jT (by unfold iC;simp only;omega) (by unfold iC;simp only;omega)
     have hps:((iC ids (j+1) p).ps)=[.int .i64 (iC ids j p).l.kind,.int .i64 (iC ids j p).l.gate,.int .i64 (iC ids j p).l.aag,.int .i64 (iC ids (j+1) p).l.id,.int .i64 (iC ids j p).l.sign,.bool (iC ids j p).l.over,.bool (iC ids j p).d]:=rfl;have ajB:(hJ (q.set k (iC ids j p))).set k (iC ids (j+1) p).ps=hJ (q.set k (iC ids (j+1) p)):=by rw[oz,List.set_set]
     rw[hps] at ajB;generalize iC ids j p=x at*;simp only[go_sem,i114_l1,p3,cI,p5,p13,p14,p15,p6,p24,p25,p26,p7,c7,cO,hlt,hlj,aeJ,hdp,hg,hqa,Pc.ps,w2,w3,ajB];exact⟨g7,rfl,rfl⟩
    have e1:iC ids (j+1) p=iC ids j p:=by unfold iC;rw[abG,if_neg hg];simp
    simp only[go_sem,i114_l1,p3,cI,p5,p13,p14,p15,p6,p24,p25,p26,p7,c7,cO,hlj,aeJ,hdp,hg,Pc.ps,w2,e1];exact⟨g7,rfl,rfl⟩
   have:j=ids.length:=by omega
   subst this;rw[aaH] at cO;simp only[go_sem,i114_l1,i114_r2,p3,cI,p5,p13,p14,p15,p26,p25,cO,aS,w1,hlt]
 have:k=m.length:=by omega
 subst this;have e1:sD ids m m.length=m.map (pY ids):=by rw[sD,abw,adw,abo]
 rw[e1] at bO;simp only[go_sem,i114_l3,i114_r4,h5,h14,h15,aS];have hn2:m.map (pY ids)≠[]:=by simpa using hne
 exact fA (.inr ⟨by simpa using hn2,gg,by simp,bO⟩)
theorem cV.ids(g:cV F ls):Qk ls/\oE ls:=by have hc:=g.ok.cr;unfold dK at hc;simp only[aay] at hc;exact xA.1 fun k hk=>aba.1 hc.1.2 k (aaX.2 hk)
theorem O6{p:Pc}(h:p∈pieces ls):∃(i:Nat) (l:Let),ls[i]?=some l/\p=⟨l,r8 ls i⟩:=by
 obtain⟨i,hi⟩:=abb h;have hil:i<ls.length:=by rw[<- aB];exact(aai.1 hi).1
 obtain⟨l,hl⟩:=ao hil;rw[cZ hl] at hi;cases hi;exact⟨i,l,hl,rfl⟩
theorem F4(g:cV F ls):∀p∈pieces ls,-1000000<=p.l.id/\p.l.id<=1000000:=by
 intro p hp;obtain⟨i,l,hl,rfl⟩:=O6 hp;have hm:=aae hl;rcases g.ok.kinds l hm with h|h
 .have:=(dG (f:=(F:Int)) h).1 (g.bad l hm);simp only[this.1.1.2];omega
 have h1:=g.ids.1 l hm h;have:=g.cr;simp only;omega
def Sl(ls:List Let)(av:Nat):Option (List Pc):=
 let p:=(pieces ls).getD av ⟨fm,false⟩
 let q:=(pieces ls).getD ((av+1)%ls.length) ⟨fm,false⟩
 if (p.l.kind==2)&&((q.l.kind==2)&&(p.l.id==q.l.id)) then some (Cu (pieces ls) [p.l.id]) else none
theorem Mw(g:cV F ls){av:Nat}(ha:av<ls.length){k b c:Int}{l o:Bool}{sg:Int}:
  aP S 88 [.one (.p (dE F ls)),rQ k av b c l o sg] (kR (Sl ls av)):=by
 have hlen:=g.len;have hpl:=aB ls;have pe:=o9 g ha;have hm:=aaN (av+1) (show 0<ls.length by omega);obtain⟨p,hp⟩:=ao (ls:=pieces ls) (k:=av) (by omega);obtain⟨q,hq⟩:=ao (ls:=pieces ls) (k:=(av+1)%ls.length) (by omega);have hpi:=dd hp;have hpj:=dd hq;have lo:S.lone 5632256896=false:=by kernel_rfl
 unfold Sl;simp only[aaC,hp,hq,abv];refine aJ c88 ?_;cases c1:(p.l.kind==2) with
 |false=>
  have n1:(p.l.kind !=2)=true:=by simp[bne,c1]
  simp only[go_sem,i88,s105,aq pe aN,hpi,Pc.ps,n1];exact⟨aK,rfl⟩
 |true=>
 have n1:(p.l.kind !=2)=false:=by simp[bne,c1]
 cases c2:(q.l.kind==2) with
 |false=>
  have n2:(q.l.kind !=2)=true:=by simp[bne,c2]
  simp only[go_sem,i88,s105,aq pe aN,hpi,hpj,Pc.ps,n1,n2];exact⟨aK,rfl⟩
 |true=>
 have n2:(q.l.kind !=2)=false:=by simp[bne,c2]
 cases c3:(p.l.id==q.l.id) with
 |false=>
  have n3:(p.l.id !=q.l.id)=true:=by simp[bne,c3]
  simp only[go_sem,i88,s105,aq pe aN,hpi,hpj,Pc.ps,n1,n2,n3];exact⟨aK,rfl⟩
 |true=>
 have n3:(p.l.id !=q.l.id)=false:=by simp[bne,c3]
 have pd:=Ct (pieces ls) [p.l.id] (by omega) (by simp) (F4 g);simp only[go_sem,i88,s105,aq pe aN,hpi,hpj,Pc.ps,n1,n2,n3,s114];refine⟨aK,?_⟩;refine ZK pd lo (.inr (bG (tQ _))) fun cc aao w gc hb hw=>?_;simp only[go_sem];refine⟨?_,eF gc⟩;rcases hw with rfl|rfl<;>kernel_rfl
abbrev pA(ls:List Let)(i:Nat):Pc:=(pieces ls).getD i ⟨fm,false⟩
theorem eD{i:Nat}{p:Pc}(h:(pieces ls)[i]?=some p):pA ls i=p:=by simp[pA,aaC,h]
abbrev nx(ls:List Let)(e:Nat):Nat:=(e+1)%ls.length
def uT(ls:List Let)(e:Nat)(ov:Bool):Bool:=((pA ls e).l.kind==2)&&(((pA ls (nx ls e)).l.kind==2)&&(((pA ls e).l.over==ov)&&((pA ls (nx ls e)).l.over==ov)))
theorem vJ(g:cV F ls){e:Nat}(he:e<ls.length)(ov:Bool):aP S 116 [.one (.p (dE F ls)),vi e,vb ov] (rb (uT ls e ov)):=by
 have hlen:=g.len;have hpl:=aB ls;have pe:=o9 g he;have hm:=aaN (e+1) (show 0<ls.length by omega);obtain⟨p,hp⟩:=ao (ls:=pieces ls) (k:=e) (by omega);obtain⟨q,hq⟩:=ao (ls:=pieces ls) (k:=(e+1)%ls.length) (by omega);have hpi:=dd hp;have hpj:=dd hq;unfold uT;rw[eD hp,eD hq];refine aJ c116 ?_;cases c1:(p.l.kind==2) with
 |false=>simp only[go_sem,i116,s105,aq pe aN,hpi,Pc.ps,c1]
 |true=>
 cases c2:(q.l.kind==2) with
 |false=>simp only[go_sem,i116,s105,aq pe aN,hpi,hpj,Pc.ps,c1,c2]
 |true=>
 cases c3:(p.l.over==ov) with
 |false=>simp only[go_sem,i116,s105,aq pe aN,hpi,hpj,Pc.ps,c1,c2,c3]
 |true=>
 cases c4:(q.l.over==ov) with
 |false=>simp only[go_sem,i116,s105,aq pe aN,hpi,hpj,Pc.ps,c1,c2,c3,c4]
 |true=>simp only[go_sem,i116,s105,aq pe aN,hpi,hpj,Pc.ps,c1,c2,c3,c4]
def tc(ls:List Let)(e:Nat):Nat×Nat×Bool:=if (pA ls e).l.kind==2 then (nx ls e,e,(pA ls (nx ls e)).l.kind==1) else (e,nx ls e,((pA ls e).l.kind==1)&&((pA ls (nx ls e)).l.kind==2))
abbrev Vl(a b c:PV):RV:=.tup [.one (.p a),.one (.p b),.one (.p c)]
theorem eW{blk:aw}{s:Nat}{a b c:PV}{l:Bool}:land blk [] s ((Vl a b c).bn l)=some (.tup [.one (.p a),.one (.p b),.one (.p c)],[]):=by cases l<;>rfl
theorem Vo(g:cV F ls){e:Nat}(he:e<ls.length):aP S 112 [.one (.p (dE F ls)),vi e] (Vl (.int .i64 ((tc ls e).1:Nat)) (.int .i64 ((tc ls e).2.1:Nat)) (.bool (tc ls e).2.2)):=by
 have hlen:=g.len;have hpl:=aB ls;have pe:=o9 g he;have hm:=aaN (e+1) (show 0<ls.length by omega);obtain⟨p,hp⟩:=ao (ls:=pieces ls) (k:=e) (by omega);obtain⟨q,hq⟩:=ao (ls:=pieces ls) (k:=(e+1)%ls.length) (by omega);have hpi:=dd hp;have hpj:=dd hq;unfold tc;rw[eD hp,eD hq];refine aJ c112 ?_;cases c1:(p.l.kind==2) with
 |true=>
  have e1:p.l.kind=2:=by simpa using c1
  rw[if_pos rfl];cases c2:(q.l.kind==1) with
  |true=>simp only[go_sem,i112,s105,aq pe aN,hpi,hpj,Pc.ps,c1,c2];exact⟨aK,rfl⟩
  |false=>simp only[go_sem,i112,s105,aq pe aN,hpi,hpj,Pc.ps,c1,c2];exact⟨aK,rfl⟩
 |false=>
  rw[if_neg (by decide)];cases c2:(p.l.kind==1) with
  |true=>
   cases c3:(q.l.kind==2) with
   |true=>simp only[go_sem,i112,s105,aq pe aN,hpi,hpj,Pc.ps,c1,c2,c3];exact⟨aK,rfl⟩
   |false=>simp only[go_sem,i112,s105,aq pe aN,hpi,hpj,Pc.ps,c1,c2,c3];exact⟨aK,rfl⟩
  |false=>simp only[go_sem,i112,s105,aq pe aN,hpi,Pc.ps,c1,c2];exact⟨aK,rfl⟩
def Sf(o:List Nat)(pr:Nat->Bool)(i:Nat):Bool:=match o[i]? with|some v=>pr v|none=>false
theorem Qi(o:List Nat)(hl:o.length<=1000000){f:Nat}{x y z:PV}(hn:x.norm=x/\y.norm=y/\z.norm=z)(hsh:S.shared f=false)(pr:Nat->Bool)(hd:∀v∈o,aP S f [vi (v:Nat),.one (.p x),.one (.p y),.one (.p z)] (rb (pr v))):
  aP S 153 [.one (.p (.sl (nP o))),.one (.p (.fn f [] [x,y,z]))] (ri (match (List.range o.length).find? (Sf o pr) with|some k=>(k:Int)|none=> -1)):=by
 obtain⟨hn0,hn1,hn2⟩:=hn;refine aJ c153 ?_;simp only[go_sem,i153];refine aV (fun k env blk=>env 0=.one (.p (.sl (nP o)))/\env 1=.one (.p (.fn f [] [x,y,z]))/\env 7=vi o.length/\env 8=vi k/\ ∀j,j<k->Sf o pr j=false) 0 o.length (aan _) ?_ ?_
 .simp only[go_sem];exact⟨rfl,fun j hj=>absurd hj (abW j)⟩
 rintro k env blk hk ⟨h0,h1,h7,h8,hnn⟩
 by_cases hlt:k<o.length
 .have aak:((k:Int)<(o.length:Int)):=by omega
  obtain⟨v,hv⟩:=ao hlt;have hpp:=eZ hv;have w1:=ak (n:=k) (by omega);have pd:=hd v (aae hv);have hpd:Sf o pr k=pr v:=by simp[Sf,hv]
  cases hb:pr v with
  |true=>rw[hb] at pd hpd;have hf:=gH (p:=Sf o pr) hlt hnn hpd;simp only[go_sem,i153_l1,h0,h1,h7,h8,aak,hpp,hsh,hn0,hn1,hn2,au pd,hf]
  |false=>
   rw[hb] at pd hpd;simp only[go_sem,i153_l1,h0,h1,h7,h8,hlt,aak,hpp,hsh,hn0,hn1,hn2,au pd,w1];intro j hj;rcases abC.1 hj with h|rfl
   .exact hnn j h
   exact hpd
 have:k=o.length:=by omega
 subst this;have hf:=fT (p:=Sf o pr) hnn;simp only[go_sem,i153_l1,i153_r2,h7,h8,aS,hf]
theorem GK(o:List Nat)(hl:o.length<=1000000){f:Nat}{x y z:PV}(hn:x.norm=x/\y.norm=y/\z.norm=z)(hsh:S.shared f=false)(pr:Nat->Bool)(hd:∀v∈o,aP S f [vi (v:Nat),.one (.p x),.one (.p y),.one (.p z)] (rb (pr v))):
  aP S 132 [.one (.p (.sl (nP o))),.one (.p (.fn f [] [x,y,z]))] (rb (o.any pr)):=by
 have pi:=Qi o hl hn hsh pr hd;obtain⟨hn0,hn1,hn2⟩:=hn;refine aJ c132 ?_;cases ha:o.any pr with
 |true=>
  obtain⟨v,hv,hp⟩:=List.any_eq_true.1 ha;obtain⟨k,hk⟩:=abb hv;have hkl:=(aai.1 hk).1;cases hf:(List.range o.length).find? (Sf o pr) with
  |none=>have:=adn.1 hf k (aaX.2 hkl);simp[Sf,hk,hp] at this
  |some j=>
   rw[hf] at pi;have hge:(0:Int)<=(j:Int):=by omega
   simp only[go_sem,i132,s153,a7 pi,hge]
 |false=>
  cases hf:(List.range o.length).find? (Sf o pr) with
  |some j=>
   have h1:=List.find?_some hf;unfold Sf at h1;cases ho:o[j]? with
   |none=>rw[ho] at h1;cases h1
   |some v=>rw[ho] at h1;have:=acW.1 ha v (aae ho);exact absurd h1 this
  |none=>
   rw[hf] at pi;have hge:¬(0:Int)<= -1:=by decide
   simp only[go_sem,i132,s153,a7 pi,hge]
def zM(f:Fc)(e:Nat):Nat:=f.aap.countP fun d=>d/2==e
def wK(f:Fc)(pl:Nat)(edges:List Nat):Bool:=(f.aap.length==edges.length)&&((f.places.length==pl)&&edges.all fun e=>zM f e==1)
theorem KW(g:cV F ls){j:Nat}{f:Fc}(hf:(aW F ls)[j]?=some f)(edges:List Nat)(he:edges.length<=1000)(pl:Nat):
  aP S 133 [vi j,.one (.p (.box [dE F ls])),.one (.p (.box [.sl (nP edges)])),.one (.p (.box [.int .i64 pl]))] (rb (wK f pl edges)):=by
 have hlen:=g.len;have hal:(ae ls).length<=ls.length:=fC ls ls.length;have hdl:=qR g.ok (aae hf);have hnd:nD ls<=1600:=by unfold nD;omega
 have hfp:=IQ hf;have hjl:=(aai.1 hf).1;refine aJ c133 ?_;unfold wK;cases c1:(f.aap.length==edges.length) with
 |false=>
  have n1:(((f.aap.length:Nat):Int)!=((edges.length:Nat):Int))=true:=by
   have:¬f.aap.length=edges.length:=by simpa using c1
   simp[bne];omega
  simp only[go_sem,i133,hfp,Fc.ps,n1]
 |true=>
 have n1:(((f.aap.length:Nat):Int)!=((edges.length:Nat):Int))=false:=by
  have:f.aap.length=edges.length:=by simpa using c1
  simp[bne,this]
 cases c2:(f.places.length==pl) with
 |false=>
  have n2:(((f.places.length:Nat):Int)!=((pl:Nat):Int))=true:=by
   have:¬f.places.length=pl:=by simpa using c2
   simp[bne];omega
  simp only[go_sem,i133,hfp,Fc.ps,n1,n2]
 |true=>
 have n2:(((f.places.length:Nat):Int)!=((pl:Nat):Int))=false:=by
  have:f.places.length=pl:=by simpa using c2
  simp[bne,this]
 simp only[go_sem,i133,hfp,Fc.ps,n1,n2];refine aV (fun k env blk=>env 6=.one (.aam 8512064448 1 0)/\blk 8512064448=(1,some (.var (f.ps.map .p)))/\env 32=.one (.p (.sl (nP edges)))/\env 33=vi edges.length/\env 34=vi k/\ ∀i e,i<k->edges[i]?=some e->(zM f e==1)=true) 0 edges.length (aan _) ?_ ?_
 .simp only[go_sem,Fc.ps];first|exact⟨rfl,fun i e hi=>absurd hi (abW i)⟩|exact⟨rfl,rfl,fun i e hi=>absurd hi (abW i)⟩|exact fun i e hi=>absurd hi (abW i)
 rintro k env blk hk ⟨h6,b6,h32,h33,h34,hok⟩
 simp only[Fc.ps,aaK,abi] at b6;by_cases hlt:k<edges.length
 .have aak:((k:Int)<(edges.length:Int)):=by omega
  obtain⟨e,hek⟩:=ao hlt;have hep:=eZ hek;have w1:=ak (n:=k) (by omega);simp only[go_sem,i133_l4,h6,b6,h32,h33,h34,aak,hep];refine aV (fun i aar aal=>aar 6=.one (.aam 8512064448 1 0)/\aal 8512064448=(1,some (.var (f.ps.map .p)))/\aar 32=.one (.p (.sl (nP edges)))/\aar 33=vi edges.length/\aar 34=vi k/\aar 8=vi e/\aar 9=vi ((f.aap.take i).countP fun d=>d/2==e:Nat)/\aar 39=.one (.p (.sl (nP f.aap)))/\aar 40=vi f.aap.length/\aar 41=vi i) 0 f.aap.length (aan _) ?_ ?_
  .simp only[go_sem,h6,b6,h32,h33,h34,Fc.ps];first|exact⟨rfl,rfl⟩|exact rfl|exact⟨rfl,rfl,rfl⟩
  rintro i aar aal hi ⟨p6,d6,p32,p33,p34,p8,p9,p39,p40,p41⟩
  by_cases hli:i<f.aap.length
  .have anv:((i:Int)<(f.aap.length:Int)):=by omega
   obtain⟨d,hd⟩:=ao hli;have hdp:=eZ hd;have w2:=ak (n:=i) (by omega);have wq:=wrap_small (n:=d/2) (by have:=oY (aae hf) d (aae hd);omega);have hcl:(f.aap.take i).countP (fun d=>d/2==e)<=i:=abm adC (by rw[aa2];omega);have w3:=ak (n:=(f.aap.take i).countP fun d=>d/2==e) (by omega);have abG:(f.aap.take (i+1)).countP (fun d=>d/2==e)=(f.aap.take i).countP (fun d=>d/2==e)+if (d/2==e)=true then 1 else 0:=by rw[abM,hd,acb];simp[acl,List.countP_nil]
   cases hde:(d/2==e) with
   |true=>
    have n3:(((d/2:Nat):Int)==(e:Int))=true:=by
     have:d/2=e:=by simpa using hde
     simp;omega
    rw[hde,if_pos rfl] at abG;simp only[go_sem,i133_l1,p6,p32,p33,p34,p8,p9,p39,p40,p41,hli,anv,hdp,bY,dZ,wq,n3,w2,w3,abG];first|exact d6|exact⟨d6,rfl⟩
   |false=>
    have n3:(((d/2:Nat):Int)==(e:Int))=false:=by
     have:¬d/2=e:=by simpa using hde
     simp;omega
    rw[hde,if_neg (by decide),aco] at abG;simp only[go_sem,i133_l1,p6,p32,p33,p34,p8,p9,p39,p40,p41,hli,anv,hdp,bY,dZ,wq,n3,w2,abG];first|exact d6|exact⟨d6,rfl⟩
  have:i=f.aap.length:=by omega
  subst this;rw[abw] at p9;have hdc:(f.aap.countP fun d=>d/2==e)=zM f e:=rfl;rw[hdc] at p9;cases hq:(zM f e==1) with
  |true=>
   have n4:(((zM f e:Nat):Int)!=1)=false:=by
    have:zM f e=1:=by simpa using hq
    simp[bne,this]
   simp only[go_sem,i133_l1,i133_r2,i133_r3,p6,p32,p33,p34,p9,p40,p41,aS,n4,w1,hlt];refine⟨d6,fun i2 e2 hi2 he2=>?_⟩;rcases abC.1 hi2 with h|rfl
   .exact hok i2 e2 h he2
   rw[hek] at he2;cases he2;exact hq
  |false=>
   have n4:(((zM f e:Nat):Int)!=1)=true:=by
    have:¬zM f e=1:=by simpa using hq
    simp[bne];omega
   have aas:(edges.all fun e=>zM f e==1)=false:=List.all_eq_false.2 ⟨e,aae hek,by rw[hq];decide⟩;simp only[go_sem,i133_l1,i133_r2,p9,p40,p41,aS,n4,aas]
 have:k=edges.length:=by omega
 subst this;have aas:(edges.all fun e=>zM f e==1)=true:=aba.2 fun e he=>by obtain⟨i,hi⟩:=abb he;exact hok i e (aai.1 hi).1 hi
 simp only[go_sem,i133_l4,i133_r5,h33,h34,aS,aas]
def kV(F:Nat)(ls:List Let)(pl:Nat)(edges:List Nat)(e0:Nat):Bool:=wK (ik F ls (2*e0)) pl edges||wK (ik F ls (2*e0+1)) pl edges
theorem zS(g:cV F ls)(edges:List Nat)(hel:edges.length<=1000){e0:Nat}(h0:edges[0]?=some e0)(he0:e0<ls.length)(pl:Nat):
  aP S 113 [.one (.p (dE F ls)),vi pl,.one (.p (.sl (nP edges)))] (rb (kV F ls pl edges e0)):=by
 have hlen:=g.len;obtain⟨j0,a1,a2,a3⟩:=vB g (d:=2*e0) (by omega);obtain⟨j1,b1,b2,b3⟩:=vB g (d:=2*e0+1) (by omega);have g0:(aW F ls).getD j0 Pk=ik F ls (2*e0):=by rw[aaC,a2];rfl
 have g1:(aW F ls).getD j1 Pk=ik F ls (2*e0+1):=by rw[aaC,b2];rfl
 have pc:=GK [j0,j1] (by simp) (f:=133) (x:=.box [dE F ls]) (y:=.box [.sl (nP edges)]) (z:=.box [.int .i64 pl]) ⟨rfl,rfl,rfl⟩ s133 (fun j=>wK ((aW F ls).getD j Pk) pl edges) (fun v hv=>by
  simp only[aat,aa9,or_false] at hv;rcases hv with rfl|rfl
  .rw[g0];exact KW g a2 edges hel pl
  rw[g1];exact KW g b2 edges hel pl)
 have arB:([j0,j1].any fun j=>wK ((aW F ls).getD j Pk) pl edges)=kV F ls pl edges e0:=by simp only[List.any_cons,List.any_nil,Bool.or_false,g0,g1];rfl
 rw[arB] at pc;simp only[aaK,abi] at pc;have ja:=eZ a1;have jb:=eZ b1;have he:=eZ h0;have m2:=eV (a:=e0) (by omega);have m3:=ak (n:=2*e0) (by omega);have hll:=vn F ls;have l1:2*e0<(gG F ls).length:=by omega
 have l2:2*e0+1<(gG F ls).length:=by omega
 have aaP:0<edges.length:=(aai.1 h0).1;have hpos':(0:Int)<(edges.length:Int):=by omega
 refine aJ c113 ?_;simp only[go_sem,i113,he,m2,m3,ja,jb,s132,fe pc];exact aK
def nT(ls:List Let)(l:List Pc)(e:Nat):List Pc:=(l.set e (l.getD (nx ls e) ⟨fm,false⟩)).set (nx ls e) (l.getD e ⟨fm,false⟩)
theorem nX(ls:List Let)(l:List Pc)(e:Nat):(nT ls l e).length=l.length:=by simp[nT]
def qh(ls:List Let)(l:List Pc)(es:List Nat):List Pc:=es.foldl (nT ls) l
theorem jL(ls:List Let):∀(es:List Nat) (l:List Pc),(qh ls l es).length=l.length:=by
 intro es
 induction es with
 |nil=>intro l;rfl
 |cons e es ih=>intro l;show(qh ls (nT ls l e) es).length=_;rw[ih,nX]
theorem Lu(g:cV F ls)(es:List Nat)(hes:∀e∈es,e<ls.length)(hel:es.length<=1000):
  aP S 120 [.one (.p (dE F ls)),.one (.p (.sl (nP es)))] (.one (ah kA 7 (hJ (qh ls (pieces ls) es)))):=by
 have hlen:=g.len;have hpl:=aB ls;have hne:pieces ls≠[]:=abh.1 (by have:=abh.2 g.ne;omega);have pcl:=K0 hne (by omega);have lo:S.lone 7680064256=false:=by kernel_rfl
 refine aJ c120 ?_;simp only[go_sem,i120,s110];refine jg pcl lo (.inl rfl) fun cc abf gc hb0=>?_;rcases gc with ⟨e,_⟩|⟨_,gg,e,hC⟩
 .exact absurd (by simpa using e) hne
 cases e;rw[aau,hpl];simp only[go_sem];refine aV (fun k env blk=>env 0=.one (.p (dE F ls))/\env 5=.one (.hsl 7680064256 gg 7 0 ls.length)/\env 15=.one (.p (.sl (nP es)))/\env 16=vi es.length/\env 17=vi k/\blk 7680064256=(gg,some (.arr kA 7 (hJ (qh ls (pieces ls) (es.take k)))))) 0 es.length (aan _) ?_ ?_
 .simp only[go_sem,hC];first|exact⟨rfl,rfl⟩|rfl|exact⟨rfl,rfl,rfl⟩
 rintro k env blk hk ⟨h0,h5,h15,h16,h17,bO⟩
 by_cases hlt:k<es.length
 .have aak:((k:Int)<(es.length:Int)):=by omega
  obtain⟨e,he⟩:=ao hlt;have hep:=eZ he;have ag3:=hes e (aae he);have pe:=o9 g ag3;have w1:=ak (n:=k) (by omega);have htk:qh ls (pieces ls) (es.take (k+1))=nT ls (qh ls (pieces ls) (es.take k)) e:=by unfold qh;rw[abM,he,adp];rfl
  have hml:(qh ls (pieces ls) (es.take k)).length=ls.length:=by rw[jL,hpl]
  have hm:=aaN (e+1) (show 0<ls.length by omega);generalize qh ls (pieces ls) (es.take k)=m at bO htk hml;obtain⟨p,hp⟩:=ao (ls:=m) (k:=e) (by omega);obtain⟨q,hq⟩:=ao (ls:=m) (k:=(e+1)%ls.length) (by omega);have hpp:=dd hp;have hqp:=dd hq;have l1:e<m.length:=by omega
  have l2:(e+1)%ls.length<m.length:=by omega
  have s1:=oz m e q;have acq:(m.set e q).set ((e+1)%ls.length) p=nT ls m e:=by unfold nT nx;rw[aaC,hq,aaC,hp];rfl
  have s2:=oz (m.set e q) ((e+1)%ls.length) p;rw[acq,<- htk] at s2;simp only[Pc.ps] at s1 s2;obtain⟨p',hp'⟩:=ao (ls:=m.set e q) (k:=e) (by rw[abV];omega);obtain⟨q',hq'⟩:=ao (ls:=m.set e q) (k:=(e+1)%ls.length) (by rw[abV];omega);have akG:=dd hq';simp only[go_sem,i120_l1,h0,h5,h15,h16,h17,bO,hlt,aak,hep,s105,aq pe aN,ag3,hm,hpp,hqp,akG,s1,s2,Pc.ps,w1];exact aK
 have:k=es.length:=by omega
 subst this;rw[abw] at bO;simp only[go_sem,i120_l1,i120_r2,h5,h16,h17,aS];have h1:(qh ls (pieces ls) es).length=ls.length:=by rw[jL,hpl]
 refine fA (.inr ⟨?_,gg,by rw[aau,h1],bO⟩);intro h2;have:=congrArg List.length h2;rw[aau,h1,aaL] at this;have h3:=abh.2 g.ne;omega
def ek(l:List Pc)(i:Nat)(r:Int):List Pc:=l.set i {(l.getD i ⟨fm,false⟩) with l:={(l.getD i ⟨fm,false⟩).l with aag:=r}}
theorem fW(l:List Pc)(i:Nat)(r:Int):(ek l i r).length=l.length:=by simp[ek]
def Sr(F:Nat)(ls:List Let)(av bv:Nat):Option (List Pc):=
 if (tc ls av).2.2&&((tc ls bv).2.2&&(!((tc ls av).2.1==(tc ls bv).2.1)&&(((pA ls (tc ls av).2.1).l.id==(pA ls (tc ls bv).2.1).l.id)&&kV F ls 1 [av,bv] av)))
 then some (qh ls (ek (ek (pieces ls) (tc ls av).1 (pA ls (tc ls bv).1).l.aag) (tc ls bv).1 (pA ls (tc ls av).1).l.aag) [av,bv]) else none
theorem OQ{e:Nat}(he:e<ls.length):(tc ls e).1<ls.length/\(tc ls e).2.1<ls.length:=by
 have hm:=aaN (e+1) (show 0<ls.length by omega);unfold tc nx;split
 .exact⟨hm,he⟩
 exact⟨he,hm⟩
theorem GY(g:cV F ls){av bv:Nat}(ha:av<ls.length)(hb:bv<ls.length){k c:Int}{l o:Bool}{sg:Int}:
  aP S 87 [.one (.p (dE F ls)),rQ k av bv c l o sg] (kR (Sr F ls av bv)):=by
 have hlen:=g.len;have hpl:=aB ls;have pa:=Vo g ha;have pb:=Vo g hb;have pc:=zS g [av,bv] (by simp) (e0:=av) rfl ha 1;obtain⟨p1,v1⟩:=OQ ha;obtain⟨q1,w1⟩:=OQ hb;unfold Sr;generalize tc ls av=x at*;generalize tc ls bv=y at*;obtain⟨pi,vi',one⟩:=x;obtain⟨qi,wi,two⟩:=y;simp only at pa pb p1 v1 q1 w1 ⊢;simp only[aaK,abi] at pc;have c1:((1:Nat):Int)=1:=rfl;rw[c1] at pc;obtain⟨P,hP⟩:=ao (ls:=pieces ls) (k:=pi) (by omega);obtain⟨Q,hQ⟩:=ao (ls:=pieces ls) (k:=qi) (by omega);obtain⟨V,hV⟩:=ao (ls:=pieces ls) (k:=vi') (by omega)
 obtain⟨W,hW⟩:=ao (ls:=pieces ls) (k:=wi) (by omega);rw[eD hP,eD hQ,eD hV,eD hW];have hPp:=dd hP;have hQp:=dd hQ;have hVp:=dd hV;have hWp:=dd hW;have hne:pieces ls≠[]:=abh.1 (by omega);have pcl:=K0 hne (by omega);have lo:S.lone 5568384256=false:=by kernel_rfl
 refine aJ c87 ?_;cases one with
 |false=>simp only[go_sem,i87,s112,aq pa eW,aq pb eW];exact⟨aK,rfl⟩
 |true=>
 cases two with
 |false=>simp only[go_sem,i87,s112,aq pa eW,aq pb eW];exact⟨aK,rfl⟩
 |true=>
 cases c2:(vi'==wi) with
 |true=>
  have n2:((vi':Int)==(wi:Int))=true:=by simp[show vi'=wi by simpa using c2]
  simp only[go_sem,i87,s112,aq pa eW,aq pb eW,n2];exact⟨aK,rfl⟩
 |false=>
 have n2:((vi':Int)==(wi:Int))=false:=by
  have:¬vi'=wi:=by simpa using c2
  simp;omega
 cases c3:(V.l.id==W.l.id) with
 |false=>
  have n3:(V.l.id !=W.l.id)=true:=by simp[bne,c3]
  simp only[go_sem,i87,s112,aq pa eW,aq pb eW,n2,hVp,hWp,Pc.ps,n3];exact⟨aK,rfl⟩
 |true=>
 have n3:(V.l.id !=W.l.id)=false:=by simp[bne,c3]
 cases c4:kV F ls 1 [av,bv] av with
 |false=>rw[c4] at pc;simp only[go_sem,i87,s112,aq pa eW,aq pb eW,n2,hVp,hWp,Pc.ps,n3,s113,fe pc];exact⟨aK,rfl⟩
 |true=>
 rw[c4] at pc;simp only[go_sem,i87,s112,aq pa eW,aq pb eW,n2,hVp,hWp,hPp,hQp,Pc.ps,n3,s113,fe pc,s110];refine⟨aK,aK,?_⟩;refine jg pcl lo (.inl rfl) fun cc abf gc hb0=>?_;have b3:=hb0 5568000000 (by decide);simp only[go_sem] at b3;rcases gc with ⟨e,_⟩|⟨_,gg,e,hC⟩
 .exact absurd (by simpa using e) hne
 cases e;rw[aau,hpl];have s1:=oz (pieces ls) pi {P with l:={P.l with aag:=Q.l.aag}};have hs1:(pieces ls).set pi {P with l:={P.l with aag:=Q.l.aag}}=ek (pieces ls) pi Q.l.aag:=by unfold ek;rw[aaC,hP];rfl
 rw[hs1] at s1;have hl1:(ek (pieces ls) pi Q.l.aag).length=ls.length:=by rw[fW,hpl]
 obtain⟨Q',hQ'⟩:=ao (ls:=ek (pieces ls) pi Q.l.aag) (k:=qi) (by omega);have arI:=dd hQ';have s2:=oz (ek (pieces ls) pi Q.l.aag) qi {Q' with l:={Q'.l with aag:=P.l.aag}};have hs2:(ek (pieces ls) pi Q.l.aag).set qi {Q' with l:={Q'.l with aag:=P.l.aag}}=ek (ek (pieces ls) pi Q.l.aag) qi P.l.aag:=by rw[ek.eq_def (ek (pieces ls) pi Q.l.aag),aaC,hQ'];rfl
 rw[hs2] at s2;simp only[Pc.ps] at s1 s2;have hm2:(ek (ek (pieces ls) pi Q.l.aag) qi P.l.aag).length=ls.length:=by rw[fW,hl1]
 simp only[go_sem,b3,hC,hPp,arI,Pc.ps,s1,s2,p1,q1];generalize ek (ek (pieces ls) pi Q.l.aag) qi P.l.aag=M at hm2 ⊢;obtain⟨es,aja⟩:∃es,es=[av,bv]:=⟨_,rfl⟩;have ajc:es.length=2:=by rw[aja];rfl
 have hes:∀e∈es,e<ls.length:=fun e he=>by rw[aja] at he;simp only[aat,aa9,or_false] at he;rcases he with rfl|rfl<;>assumption
 refine aV (fun k env blk=>env 0=.one (.p (dE F ls))/\env 14=.one (.hsl 5568384256 gg 7 0 ls.length)/\(∃ge,env 116=.one (.hsl 5568512256 ge 1 0 2)/\blk 5568512256=(ge,some (.arr 3 1 (nP es))))/\env 117=vi ((2:Nat):Int)/\env 118=vi k/\blk 5568384256=(gg,some (.arr kA 7 (hJ (qh ls M (es.take k)))))) 0 2 (aan _) ?_ ?_
 .simp only[go_sem];exact⟨⟨_,rfl,by rw[aja];rfl⟩,rfl,rfl⟩
 rintro k env blk hk ⟨h0,h14,⟨ge,aeo,bE⟩,an9,an8,bO⟩
 by_cases hlt:k<2
 .have aak:((k:Int)<((2:Nat):Int)):=by omega
  have ai2:k<es.length:=by omega
  obtain⟨e,he⟩:=ao ai2;have hep:=eZ he;have ag3:=hes e (aae he);have pe:=o9 g ag3;have w1:=ak (n:=k) (by omega);have htk:qh ls M (es.take (k+1))=nT ls (qh ls M (es.take k)) e:=by unfold qh;rw[abM,he,adp];rfl
  have hml:(qh ls M (es.take k)).length=ls.length:=by rw[jL,hm2]
  have hm:=aaN (e+1) (show 0<ls.length by omega);generalize qh ls M (es.take k)=m at bO htk hml;obtain⟨p,hp⟩:=ao (ls:=m) (k:=e) (by omega);obtain⟨q,hq⟩:=ao (ls:=m) (k:=(e+1)%ls.length) (by omega);have hpp:=dd hp;have hqp:=dd hq;have l1:e<m.length:=by omega
  have l2:(e+1)%ls.length<m.length:=by omega
  have s1:=oz m e q;have acq:(m.set e q).set ((e+1)%ls.length) p=nT ls m e:=by unfold nT nx;rw[aaC,hq,aaC,hp];rfl
  have s2:=oz (m.set e q) ((e+1)%ls.length) p;rw[acq,<- htk] at s2;simp only[Pc.ps] at s1 s2;obtain⟨q',hq'⟩:=ao (ls:=m.set e q) (k:=(e+1)%ls.length) (by rw[abV];omega);have akG:=dd hq';simp only[go_sem,i87_l1,h0,h14,aeo,an9,an8,bE,bO,hlt,aak,hep,s105,aq pe aN,ag3,hm,hpp,hqp,akG,s1,s2,Pc.ps,w1];first|exact⟨aK,ge,rfl,rfl⟩|exact⟨aK,⟨ge,rfl,rfl⟩⟩|exact⟨aK,⟨ge,rfl,rfl⟩,rfl⟩|trace_state
 have:k=2:=by omega
 subst this;have e1:es.take 2=[av,bv]:=by rw[aja];rfl
 rw[e1] at bO;have hge:¬(((2:Nat):Int)<((2:Nat):Int)):=by omega
 simp only[go_sem,i87_l1,i87_r2,h14,an9,an8,hge];have h1:(qh ls M [av,bv]).length=ls.length:=by rw[jL,hm2]
 refine eF (.inr ⟨?_,gg,by rw[abv,aau,h1],bO⟩);intro h2;have:=congrArg List.length h2;rw[abv,aau,h1,aaL] at this;omega
def JJ(l:List Pc)(i:Nat)(g r:Int):List Pc:=l.set i {(l.getD i ⟨fm,false⟩) with l:={(l.getD i ⟨fm,false⟩).l with gate:=g,aag:=r}}
def trR(F:Nat)(ls:List Let)(av:Nat):Option (List Pc):=
 if ((pA ls av).l.kind==1)&&(decide ((pA ls av).l.gate<(F:Int))&&((pA ls av).l.aag==(cg ls (pA ls av).l.gate.toNat:Int)))
 then some (JJ (dr (pieces ls) ((pA ls av).l.gate+1) 0 1) av ((pA ls av).l.gate+1) 1) else none
def tlR(ls:List Let)(av:Nat):Option (List Pc):=
 if ((pA ls av).l.kind==1)&&(decide (0<(pA ls av).l.gate)&&((pA ls av).l.aag==1))
 then some (JJ (dr (pieces ls) (pA ls av).l.gate 1 (-1)) av ((pA ls av).l.gate-1) ((cg ls ((pA ls av).l.gate-1).toNat+1:Nat):Int)) else none
end
end Go.Abs
