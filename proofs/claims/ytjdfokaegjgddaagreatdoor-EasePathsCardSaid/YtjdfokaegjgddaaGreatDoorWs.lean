/- A part. -/
import Derived.Test.YtjdfokaegjgddaaGreatDoorWn
set_option linter.all false
set_option maxRecDepth 100000
set_option maxHeartbeats 16000000
namespace Go.Abs
section
variable{ls:List Let}{F av:Nat}
def za(l:List Pc)(drop:Nat->Pc->Bool)(i:Nat):Option Pc:=match l[i]? with|some p=>if drop i p then none else some p|none=>none
def lR(l:List Pc)(drop:Nat->Pc->Bool)(k:Nat):List Pc:=(List.range k).filterMap (za l drop)
def iY(l:List Pc)(drop:Nat->Pc->Bool):List Pc:=lR l drop l.length
theorem gO{l:List Pc}{drop:Nat->Pc->Bool}{k:Nat}{p:Pc}(h:l[k]?=some p)(hd:drop k p=true):lR l drop (k+1)=lR l drop k:=by simp[lR,abZ,List.filterMap_append,za,h,hd]
theorem lQ{l:List Pc}{drop:Nat->Pc->Bool}{k:Nat}{p:Pc}(h:l[k]?=some p)(hd:drop k p=false):lR l drop (k+1)=lR l drop k++[p]:=by simp[lR,abZ,List.filterMap_append,za,h,hd]
theorem lf(l:List Pc)(drop:Nat->Pc->Bool)(k:Nat):(lR l drop k).length<=k:=by have:=List.length_filterMap_le (za l drop) (List.range k);rwa[acm] at this
theorem o0(g:cD F ls){e:Nat}(he:e<ls.length):bz S 114 [.one (.p (fp F ls)),vi e] (uU (.int .i64 e) (.int .i64 ((e+1)%ls.length:Nat))):=by
 have hlen:=g.len;have Yu:=aB ls;have w1:=ah (n:=e) (by omega);have e1:=fA (e+1) ls.length;have hz:¬((ls.length:Int)=0):=by omega
 refine aP c114 ?_;simp only[go_sem,i114,w1,e1,Yu,hz];exact⟨aH,rfl⟩
theorem xO(l:List Pc)(hl:l.length<=1000000){f:Nat}{x y:PV}(hn:x.norm=x/\y.norm=y)(Za:S.shared f=false)(drop:Nat->Pc->Bool)(hd:∀(k:Nat) (p:Pc),l[k]?=some p->bz S f [vi k,.agg (p.ps.map .p),.one (.p x),.one (.p y)] (rb (drop k p))):
  bz S 115 [.one (.p (.sl (d5 l))),.one (.p (.fn f [] [x,y]))] (.one (aD gE 7 (d5 (iY l drop)))):=by
 obtain⟨Z9,ZG⟩:=hn;refine aP c115 ?_;simp only[go_sem,i115];refine bm (fun k env X9=>env 1=.one (.p (.fn f [] [x,y]))/\env 8=.one (.p (.sl (d5 l)))/\env 9=vi l.length/\env 10=vi k/\ ∃c,env 5=.one c/\grown 7360384192 gE 7 (d5 (lR l drop k)) (.one c) X9) 0 l.length (aae _) ?_ ?_
 .simp only[go_sem];first|exact⟨rfl,_,rfl,.inl ⟨rfl,rfl⟩⟩|exact⟨_,rfl,.inl ⟨rfl,rfl⟩⟩|exact⟨rfl,rfl,_,rfl,.inl ⟨rfl,rfl⟩⟩
 rintro k env X9 hk ⟨h1,h8,h9,YN,c,h5,gc⟩
 by_cases Ye:k<l.length
 .have Yf:((k:Int)<(l.length:Int)):=by omega
  obtain⟨p,hp⟩:=ai Ye;have Zi:=cN hp;have w1:=ah (n:=k) (by omega);have pd:=hd k p hp;have YY:=lf l drop k;simp only[Pc.ps,aar,abb] at pd;cases hb:drop k p with
  |true=>rw[hb] at pd;have hs:=gO hp hb;simp only[go_sem,i115_l1,h1,h5,h8,h9,YN,Ye,Yf,Zi,Pc.ps,Z9,ZG,Za,az pd,w1];refine⟨c,rfl,?_⟩;rw[hs];exact gc.of_eq (by simp only[ae,Nat.reduceEqDiff,if_false])
  |false=>rw[hb] at pd;have hs:=lQ hp hb;simp only[go_sem,i115_l1,h1,h5,h8,h9,YN,Yf,Zi,Pc.ps,Z9,ZG,Za,az pd];refine vl (site:=7360384192) (id:=7360384192) (bytes:=56) (xs:=[p.ps]) (rd:=[7360384128]) (gc.of_eq (by simp only[ae,Nat.reduceEqDiff,if_false])) (by simp[cM,ae,Pc.ps]) (.inl rfl) (by simp only[aah,aas,aaA];omega) fun c' Yi hc hbk=>?_;simp only[go_sem,h1,h8,h9,YN,Ye,w1];refine⟨c',rfl,?_⟩;rw[hs,xm];exact hc
 have:k=l.length:=by omega
 subst this;simp only[go_sem,i115_l1,i115_r2,h5,h9,YN,aW];exact hJ gc
theorem Hc(l:List Pc)(hl:l.length<=1000000){f:Nat}{x:PV}(hn:x.norm=x)(Za:S.shared f=false)(drop:Nat->Pc->Bool)(hd:∀(k:Nat) (p:Pc),l[k]?=some p->bz S f [vi k,.agg (p.ps.map .p),.one (.p x)] (rb (drop k p))):
  bz S 115 [.one (.p (.sl (d5 l))),.one (.p (.fn f [] [x]))] (.one (aD gE 7 (d5 (iY l drop)))):=by
 have Z9:=hn;refine aP c115 ?_;simp only[go_sem,i115];refine bm (fun k env X9=>env 1=.one (.p (.fn f [] [x]))/\env 8=.one (.p (.sl (d5 l)))/\env 9=vi l.length/\env 10=vi k/\ ∃c,env 5=.one c/\grown 7360384192 gE 7 (d5 (lR l drop k)) (.one c) X9) 0 l.length (aae _) ?_ ?_
 .simp only[go_sem];first|exact⟨rfl,_,rfl,.inl ⟨rfl,rfl⟩⟩|exact⟨_,rfl,.inl ⟨rfl,rfl⟩⟩|exact⟨rfl,rfl,_,rfl,.inl ⟨rfl,rfl⟩⟩
 rintro k env X9 hk ⟨h1,h8,h9,YN,c,h5,gc⟩
 by_cases Ye:k<l.length
 .have Yf:((k:Int)<(l.length:Int)):=by omega
  obtain⟨p,hp⟩:=ai Ye;have Zi:=cN hp;have w1:=ah (n:=k) (by omega);have pd:=hd k p hp;have YY:=lf l drop k;simp only[Pc.ps,aar,abb] at pd;cases hb:drop k p with
  |true=>rw[hb] at pd;have hs:=gO hp hb;simp only[go_sem,i115_l1,h1,h5,h8,h9,YN,Ye,Yf,Zi,Pc.ps,Z9,Za,az pd,w1];refine⟨c,rfl,?_⟩;rw[hs];exact gc.of_eq (by simp only[ae,Nat.reduceEqDiff,if_false])
  |false=>rw[hb] at pd;have hs:=lQ hp hb;simp only[go_sem,i115_l1,h1,h5,h8,h9,YN,Yf,Zi,Pc.ps,Z9,Za,az pd];refine vl (site:=7360384192) (id:=7360384192) (bytes:=56) (xs:=[p.ps]) (rd:=[7360384128]) (gc.of_eq (by simp only[ae,Nat.reduceEqDiff,if_false])) (by simp[cM,ae,Pc.ps]) (.inl rfl) (by simp only[aah,aas,aaA];omega) fun c' Yi hc hbk=>?_;simp only[go_sem,h1,h8,h9,YN,Ye,w1];refine⟨c',rfl,?_⟩;rw[hs,xm];exact hc
 have:k=l.length:=by omega
 subst this;simp only[go_sem,i115_l1,i115_r2,h5,h9,YN,aW];exact hJ gc
theorem Ku(k i j:Nat)(p:Pc):bz S 116 [vi k,.agg (p.ps.map .p),.one (.p (.box [.int .i64 i])),.one (.p (.box [.int .i64 j]))] (rb (decide (k=i)||decide (k=j))):=by
 refine aP c116 ?_;by_cases h1:k=i
 .have e1:((k:Int)==(i:Int))=true:=by simp[h1]
  rw[show(decide (k=i)||decide (k=j))=true by simp[h1]];simp only[go_sem,i116,Pc.ps,e1]
 have e1:((k:Int)==(i:Int))=false:=by simp;omega
 by_cases h2:k=j
 .have e2:((k:Int)==(j:Int))=true:=by simp[h2]
  rw[show(decide (k=i)||decide (k=j))=true by simp[h2]];simp only[go_sem,i116,Pc.ps,e1,e2]
 have e2:((k:Int)==(j:Int))=false:=by simp;omega
 rw[show(decide (k=i)||decide (k=j))=false by simp[h1,h2]];simp only[go_sem,i116,Pc.ps,e1,e2]
def LZ(a b:Int):Int:=if a<b then b else a
def St(a b:Int):Int:=if b<a then b else a
def Wh(ls:List Let)(av:Nat):Option (List Pc):=
 let p:=(pieces ls).getD av ⟨fG,false⟩
 let q:=(pieces ls).getD ((av+1)%ls.length) ⟨fG,false⟩
 if (p.l.kind==1)&&((q.l.kind==1)&&((p.l.gate==q.l.gate)&&((LZ p.l.Yb q.l.Yb-St p.l.Yb q.l.Yb==1)&& !(decide (ao Let.aA ls<=2)&&decide (0<ao Let.aw ls/2)))))
 then some (aX (iY (pieces ls) fun k _=>decide (k=av)||decide (k=(av+1)%ls.length)) p.l.gate (LZ p.l.Yb q.l.Yb) (-2)) else none
theorem ve{l:List Pc}{drop:Nat->Pc->Bool}{p:Pc}(h:p∈iY l drop):p∈l:=by
 obtain⟨i,_,hi⟩:=List.mem_filterMap.1 h;unfold za at hi;cases hl:l[i]? with
 |none=>rw[hl] at hi;cases hi
 |some q=>
  rw[hl] at hi;simp only at hi;split at hi
  .cases hi
  cases hi;exact aab hl
theorem MS(g:cD F ls)(ha:av<ls.length){k b c:Int}{l o:Bool}{sg:Int}:
  bz S 94 [.one (.p (fp F ls)),oG k av b c l o sg] (kR (Wh ls av)):=by
 have hlen:=g.len;have Yu:=aB ls;have pe:=o0 g ha;have hm:=aat (av+1) (show 0<ls.length by omega);have hrb:=lL g;obtain⟨p,hp⟩:=ai (ls:=pieces ls) (k:=av) (by omega);obtain⟨q,hq⟩:=ai (ls:=pieces ls) (k:=(av+1)%ls.length) (by omega);obtain⟨p1,p2⟩:=hrb p (aab hp);obtain⟨q1,q2⟩:=hrb q (aab hq);have ZI:=cN hp;have hpj:=cN hq;have Za:S.shared 117=true:=by kernel_rfl
 have lo:S.lone 6016320320=false:=by kernel_rfl
 have YV:=g.cr;unfold Wh;simp only[aal,hp,hq,aaS];refine aP c94 ?_;cases c1:(p.l.kind==1) with
 |false=>
  have n1:(p.l.kind !=1)=true:=by simp[bne,c1]
  simp only[go_sem,i94,s114,au pe aU,ZI,hpj,Pc.ps,n1];exact⟨aH,rfl⟩
 |true=>
 have n1:(p.l.kind !=1)=false:=by simp[bne,c1]
 cases c2:(q.l.kind==1) with
 |false=>
  have n2:(q.l.kind !=1)=true:=by simp[bne,c2]
  simp only[go_sem,i94,s114,au pe aU,ZI,hpj,Pc.ps,n1,n2];exact⟨aH,rfl⟩
 |true=>
 have n2:(q.l.kind !=1)=false:=by simp[bne,c2]
 cases c3:(p.l.gate==q.l.gate) with
 |false=>
  have n3:(p.l.gate !=q.l.gate)=true:=by simp[bne,c3]
  simp only[go_sem,i94,s114,au pe aU,ZI,hpj,Pc.ps,n1,n2,n3];exact⟨aH,rfl⟩
 |true=>
 have n3:(p.l.gate !=q.l.gate)=false:=by simp[bne,c3]
 have hmx:(if q.l.Yb>p.l.Yb then q.l.Yb else p.l.Yb)=LZ p.l.Yb q.l.Yb:=rfl;have hmn:(if q.l.Yb<p.l.Yb then q.l.Yb else p.l.Yb)=St p.l.Yb q.l.Yb:=rfl;have hmxb: -1000000<=LZ p.l.Yb q.l.Yb/\LZ p.l.Yb q.l.Yb<=1000000:=by unfold LZ;split<;>omega
 have hmnb: -1000000<=St p.l.Yb q.l.Yb/\St p.l.Yb q.l.Yb<=1000000:=by unfold St;split<;>omega
 have wd:=jT (x:=LZ p.l.Yb q.l.Yb-St p.l.Yb q.l.Yb) (by omega) (by omega);generalize LZ p.l.Yb q.l.Yb=mx at*;generalize St p.l.Yb q.l.Yb=mn at*;cases c4:(mx-mn==1) with
 |false=>
  have n4:(mx-mn !=1)=true:=by simp[bne,c4]
  simp only[go_sem,i94,s114,au pe aU,ZI,hpj,Pc.ps,n1,n2,n3,hmx,hmn,wd,n4];exact⟨aH,rfl⟩
 |true=>
 have n4:(mx-mn !=1)=false:=by simp[bne,c4]
 have d9:∀(X:Prop),X->X:=fun _ h=>h;by_cases c5:ao Let.aA ls<=2
 .have n5:((ao Let.aA ls:Int)<=2):=by omega
  by_cases c6:0<ao Let.aw ls/2
  .have n6:((0:Int)<((ao Let.aw ls/2:Nat):Int)):=by omega
   rw[decide_eq_true c5,decide_eq_true c6];simp only[go_sem,i94,s114,au pe aU,ZI,hpj,Pc.ps,n1,n2,n3,hmx,hmn,wd,n4,n5,n6];exact⟨aH,rfl⟩
  have n6:¬((0:Int)<((ao Let.aw ls/2:Nat):Int)):=by omega
  rw[decide_eq_true c5,decide_eq_false c6];simp only[go_sem,i94,s114,au pe aU,ZI,hpj,Pc.ps,n1,n2,n3,hmx,hmn,wd,n4,n5,n6,s115];refine⟨aH,?_⟩;refine gA (xO (pieces ls) (by omega) ⟨rfl,rfl⟩ s116 (fun k _=>decide (k=av)||decide (k=(av+1)%ls.length)) (fun k p _=>Ku k av ((av+1)%ls.length) p)) lo (.inr (ay (dp _))) fun cc Yi gc hb=>?_;have b8:=hb 6016128896 (by decide);have b9:=hb 6016128960 (by decide);simp only[go_sem] at b8 b9;simp only[go_sem,b8,b9,hmx,Za];refine nE (l:=iY (pieces ls) fun k _=>decide (k=av)||decide (k=(av+1)%ls.length)) (abc (lf _ _ _) (by omega)) (by decide) (fun x hx=>hrb x (ve hx)) gc fun Yg gc2 Yp=>?_;simp only[go_sem];exact aS gc2
 have n5:¬((ao Let.aA ls:Int)<=2):=by omega
 rw[decide_eq_false c5];simp only[go_sem,i94,s114,au pe aU,ZI,hpj,Pc.ps,n1,n2,n3,hmx,hmn,wd,n4,n5,s115];refine⟨aH,?_⟩;refine gA (xO (pieces ls) (by omega) ⟨rfl,rfl⟩ s116 (fun k _=>decide (k=av)||decide (k=(av+1)%ls.length)) (fun k p _=>Ku k av ((av+1)%ls.length) p)) lo (.inr (ay (dp _))) fun cc Yi gc hb=>?_;have b8:=hb 6016128896 (by decide);have b9:=hb 6016128960 (by decide);simp only[go_sem] at b8 b9;simp only[go_sem,b8,b9,hmx,Za];refine nE (l:=iY (pieces ls) fun k _=>decide (k=av)||decide (k=(av+1)%ls.length)) (abc (lf _ _ _) (by omega)) (by decide) (fun x hx=>hrb x (ve hx)) gc fun Yg gc2 Yp=>?_;simp only[go_sem];exact aS gc2
abbrev iP(o:List Int):List (List PV):=o.map fun n=>[PV.int .i64 n]
theorem uv{o:List Int}{k:Nat}{v:Int}(h:o[k]?=some v):(iP o)[k]?=some [.int .i64 v]:=by simp[h]
def Pj(o:List Int)(x:Int)(i:Nat):Bool:=match o[i]? with|some y=>y==x|none=>false
theorem Ph(o:List Int)(x:Int)(hl:o.length<=1000000):bz S 153 [.one (.p (.sl (iP o))),vi x] (ri (match (List.range o.length).find? (Pj o x) with|some k=>(k:Int)|none=> -1)):=by
 refine aP c153 ?_;simp only[go_sem,i153];refine bm (fun k env X9=>env 0=.one (.p (.sl (iP o)))/\env 1=vi x/\env 7=vi o.length/\env 8=vi k/\ ∀j,j<k->Pj o x j=false) 0 o.length (aae _) ?_ ?_
 .simp only[go_sem];exact⟨rfl,fun j hj=>absurd hj (abB j)⟩
 rintro k env X9 hk ⟨h0,h1,h7,h8,hn⟩
 by_cases Ye:k<o.length
 .have Yf:((k:Int)<(o.length:Int)):=by omega
  obtain⟨y,hy⟩:=ai Ye;have Zi:=uv hy;have w1:=ah (n:=k) (by omega);have hpd:Pj o x k=(y==x):=by simp[Pj,hy]
  cases hb:(y==x) with
  |true=>
   have hb':(x==y)=true:=by have:=beq_iff_eq.1 hb;simp[this]
   rw[hb] at hpd;have hf:=fV (p:=Pj o x) Ye hn hpd;simp only[go_sem,i153_l1,h0,h1,h7,h8,Yf,Zi,hb',hf];first|done|exact aH|rfl
  |false=>
   have hb':(x==y)=false:=by
    have:¬y=x:=by simpa using hb
    simp;exact fun h=>this h.symm
   rw[hb] at hpd;have hn':∀j,j<k+1->Pj o x j=false:=fun j hj=>by
    rcases abe.1 hj with h|rfl
    .exact hn j h
    exact hpd
   simp only[go_sem,i153_l1,h0,h1,h7,h8,Ye,Yf,Zi,hb',w1];first|exact hn'|exact⟨aH,hn'⟩
 have:k=o.length:=by omega
 subst this;have hf:=ft (p:=Pj o x) hn;simp only[go_sem,i153_l1,i153_r2,h7,h8,aW,hf]
theorem Gw(o:List Int)(x:Int)(hl:o.length<=1000000):bz S 141 [.one (.p (.sl (iP o))),vi x] (rb (o.contains x)):=by
 have pi:=Ph o x hl;refine aP c141 ?_;cases hm:o.contains x with
 |true=>
  have hm':x∈o:=by simpa using hm
  obtain⟨k,hk⟩:=aaO hm';have YY:=(aac.1 hk).1;cases hf:(List.range o.length).find? (Pj o x) with
  |none=>have:=adD.1 hf k (aav.2 YY);simp[Pj,hk] at this
  |some j=>
   rw[hf] at pi;have hge:(0:Int)<=(j:Int):=by omega
   simp only[go_sem,i141,s153,bj pi,hge]
 |false=>
  have hm':x∉o:=by simpa using hm
  cases hf:(List.range o.length).find? (Pj o x) with
  |some j=>
   have h1:=List.find?_some hf;unfold Pj at h1;cases ho:o[j]? with
   |none=>rw[ho] at h1;cases h1
   |some y=>
    rw[ho] at h1;have:y=x:=by simpa using h1
    subst this;exact absurd (aab ho) hm'
  |none=>
   rw[hf] at pi;have hge:¬(0:Int)<= -1:=by decide
   simp only[go_sem,i141,s153,bj pi,hge]
def lY(ids:List Int)(_:Nat)(p:Pc):Bool:=(p.l.kind==2)&&ids.contains p.l.id
theorem Te(ids:List Int)(hl:ids.length<=1000000)(k:Nat)(p:Pc):bz S 140 [vi k,.agg (p.ps.map .p),.one (.p (.box [.sl (iP ids)]))] (rb (lY ids k p)):=by
 have pc:=Gw ids p.l.id hl;refine aP c140 ?_;unfold lY;cases h:(p.l.kind==2) with
 |true=>simp only[go_sem,i140,Pc.ps,h,s141,az pc]
 |false=>simp only[go_sem,i140,Pc.ps,h]
def iH(ids:List Int)(k:Nat)(p:Pc):Pc:={p with l:={p.l with id:=p.l.id-((ids.take k).countP (fun i=>decide (i<p.l.id)):Nat)}}
def pS(ids:List Int)(p:Pc):Pc:=if p.l.kind==2 then iH ids ids.length p else p
abbrev Ch(l:List Pc)(ids:List Int):List Pc:=(iY l (lY ids)).map (pS ids)
abbrev r9(ids:List Int)(l:List Pc)(k:Nat):List Pc:=(l.take k).map (pS ids)++l.drop k
theorem JU{ids:List Int}{l:List Pc}{k:Nat}{p:Pc}(h:l[k]?=some p):(r9 ids l k)[k]?=some p:=by have hk:=(aac.1 h).1;rw[r9,acz (by rw[aah,aay];omega),aah,aay,ab0 (by omega),Nat.sub_self,acA];exact h
theorem OR(ids:List Int)(l:List Pc)(k:Nat):(r9 ids l k).length=l.length:=by rw[r9,aaF,aah,aay,aa1];omega
theorem OQ{ids:List Int}{l:List Pc}{k:Nat}{p:Pc}(h:l[k]?=some p):(r9 ids l k).set k (pS ids p)=r9 ids l (k+1):=by
 have hk:=(aac.1 h).1;have hdr:l.drop k=p::l.drop (k+1):=by obtain⟨hh,rfl⟩:=aac.1 h;exact List.drop_eq_getElem_cons hh
 have e1:((l.take k).map (pS ids)).length=k:=by rw[aah,aay];omega
 rw[r9,List.set_append_right _ _ (by omega),e1,Nat.sub_self,hdr,List.set_cons_zero,r9,abn,h];simp
theorem jj(o:List Pc)(k:Nat)(p:Pc):(d5 o).set k p.ps=d5 (o.set k p):=by simp[List.map_set]
theorem Cg(l:List Pc)(ids:List Int)(hl:l.length<=1000000)(hi:ids.length<=1000)(hb:∀p∈l,-1000000<=p.l.id/\p.l.id<=1000000):
  bz S 123 [.one (.p (.sl (d5 l))),.one (.p (.sl (iP ids)))] (.one (aD gE 7 (d5 (Ch l ids)))):=by
 have pw:=Hc l hl (f:=140) (x:=.box [.sl (iP ids)]) rfl s140 (lY ids) (fun k p _=>Te ids (by omega) k p);have lo:S.lone 7872064128=false:=by kernel_rfl
 have aaa:∀p∈iY l (lY ids),-1000000<=p.l.id/\p.l.id<=1000000:=fun p hp=>hb p (ve hp);have YY:(iY l (lY ids)).length<=1000000:=abc (lf _ _ _) hl;refine aP c123 ?_;simp only[go_sem,i123,s115];refine gA pw lo (.inr (ay (dp _))) fun cc YZ gc Zq=>?_;have z3:=Zq 7872000000 (by decide);simp only[go_sem] at z3;unfold Ch;generalize iY l (lY ids)=m at gc aaa YY;rcases gc with ⟨e,e2⟩|⟨Yk,gg,e2,hC⟩
 .cases e2;have:m=[]:=by simpa using e
  subst this;have hz:¬(((0:Nat):Int)<((0:Nat):Int)):=by omega
  simp only[go_sem];refine bm (fun k env X9=>k=0/\env 5=.one (.p .nils)/\env 14=vi ((0:Nat):Int)/\env 15=vi ((0:Nat):Int)) 0 0 (aad _) ?_ ?_
  .simp only[go_sem];exact rfl
  rintro k env X9 _ ⟨rfl,h5,h14,h15⟩
  simp only[go_sem,i123_l3,i123_r4,h5,h14,h15,hz];rfl
 cases e2;simp only[go_sem];refine bm (fun k env X9=>env 3=.one (.Yh 7872000000 1 0)/\X9 7872000000=(1,some (.var [.p (.sl (iP ids))]))/\env 5=.one (.hsl 7872064128 gg 7 0 m.length)/\env 13=.one (.hsl 7872064128 gg 7 0 m.length)/\env 14=vi m.length/\env 15=vi k/\X9 7872064128=(gg,some (.arr gE 7 (d5 (r9 ids m k))))) 0 m.length (aae _) ?_ ?_
 .simp only[go_sem,z3,hC];refine⟨rfl,?_⟩;simp[r9]
 rintro k env X9 hk ⟨h3,bI,h5,h13,h14,h15,bO⟩
 by_cases Ye:k<m.length
 .have Yf:((k:Int)<(m.length:Int)):=by omega
  obtain⟨p,hp⟩:=ai Ye;have hpa:=cN (JU (ids:=ids) hp);have w1:=ah (n:=k) (by omega);have hmk:=OR ids m k;have YA:=OQ (ids:=ids) hp;have hlk:k<(r9 ids m k).length:=by omega
  cases c1:(p.l.kind==2) with
  |false=>
   have n1:(p.l.kind !=2)=true:=by simp[bne,c1]
   have Z5:r9 ids m (k+1)=r9 ids m k:=by
    rw[<- YA];have e:pS ids p=p:=by unfold pS;rw[c1];rfl
    rw[e];obtain⟨hh,he⟩:=aac.1 (JU (ids:=ids) hp);rw[<- he,List.set_getElem_self]
   simp only[go_sem,i123_l3,i123_r2,h3,bI,h5,h13,h14,h15,bO,Ye,Yf,hpa,Pc.ps,n1,w1,Z5]
  |true=>
   have n1:(p.l.kind !=2)=false:=by simp[bne,c1]
   have hid:=aaa p (aab hp);have Z3:pS ids p=iH ids ids.length p:=by unfold pS;rw[c1];rfl
   rw[Z3] at YA;generalize r9 ids m k=q at hpa hmk YA hlk bO;have q0:q.set k (iH ids 0 p)=q:=by
    have:iH ids 0 p=p:=by unfold iH;simp
    rw[this];have h1:q[k]?=some p:=by
     have h2:(d5 q)[k]?=some p.ps:=hpa;rw[aaz] at h2;cases hq:q[k]? with
     |none=>rw[hq] at h2;cases h2
     |some x=>rw[hq] at h2;simp[Pc.ps] at h2;obtain⟨⟨a,b,c,d,e,f⟩,g⟩:=x;obtain⟨⟨a',b',c',d',e',f'⟩,g'⟩:=p;simp at h2;obtain⟨rfl,rfl,rfl,rfl,rfl,rfl,rfl⟩:=h2;rfl
    obtain⟨hh,he⟩:=aac.1 h1;rw[<- he,List.set_getElem_self]
   simp only[go_sem,i123_l3,h3,bI,h13,h14,h15,bO,Ye,Yf,hpa,Pc.ps,n1];refine bm (fun j Yn Yg=>Yn 3=.one (.Yh 7872000000 1 0)/\Yg 7872000000=(1,some (.var [.p (.sl (iP ids))]))/\Yn 5=.one (.hsl 7872064128 gg 7 0 m.length)/\Yn 13=.one (.hsl 7872064128 gg 7 0 m.length)/\Yn 14=vi m.length/\Yn 15=vi k/\Yn 6=vi k/\Yn 24=.one (.p (.sl (iP ids)))/\Yn 25=vi ids.length/\Yn 26=vi j/\
    (∃g7,Yn 7=.one (.Yh 7872256192 g7 0)/\Yg 7872256192=(g7,some (.var (p.ps.map .p))))/\Yg 7872064128=(gg,some (.arr gE 7 (d5 (q.set k (iH ids j p)))))) 0 ids.length (aae _) ?_ ?_
   .simp only[go_sem,h3,bI,h5,h13,h14,h15,bO,q0];first|exact⟨rfl,_,⟨rfl,rfl⟩,rfl⟩|exact⟨rfl,⟨_,rfl,rfl⟩⟩|exact⟨_,rfl,rfl⟩|exact⟨⟨_,rfl,rfl⟩,rfl⟩|exact⟨rfl,⟨_,rfl,rfl⟩,rfl⟩|trace_state
   rintro j Yn Yg hj ⟨p3,cI,p5,p13,p14,p15,p6,p24,p25,p26,⟨g7,p7,c7⟩,cO⟩
   by_cases hlj:j<ids.length
   .have agT:((j:Int)<(ids.length:Int)):=by omega
    obtain⟨d,hd⟩:=ai hlj;have hdp:=uv hd;have w2:=ah (n:=j) (by omega);have ZN:(ids.take (j+1)).countP (fun i=>decide (i<p.l.id))=(ids.take j).countP (fun i=>decide (i<p.l.id))+if d<p.l.id then 1 else 0:=by rw[abn,hd,abF];simp[abM,List.countP_nil]
    have YL:(ids.take j).countP (fun i=>decide (i<p.l.id))<=j:=abc List.countP_le_length (by rw[aay];omega);have hqa:(d5 (q.set k (iH ids j p)))[k]?=some (iH ids j p).ps:=cN (by rw[abj,if_pos rfl,if_pos (by omega)]);have hql:k<(q.set k (iH ids j p)).length:=by rw[abi];omega
    by_cases hg:d<p.l.id
    .have e1:(iH ids j p).l.id-1=(iH ids (j+1) p).l.id:=by
      unfold iH;simp only;rw[ZN,if_pos hg];omega
     have w3:IntKind.i64.wrap ((iH ids j p).l.id-1)=(iH ids (j+1) p).l.id:=by rw[<- e1];exact jT (by unfold iH;simp only;omega) (by unfold iH;simp only;omega)
     have YK:((iH ids (j+1) p).ps)=[.int .i64 (iH ids j p).l.kind,.int .i64 (iH ids j p).l.gate,.int .i64 (iH ids j p).l.Yb,.int .i64 (iH ids (j+1) p).l.id,.int .i64 (iH ids j p).l.sign,.bool (iH ids j p).l.over,.bool (iH ids j p).d]:=rfl;have ahB:(d5 (q.set k (iH ids j p))).set k (iH ids (j+1) p).ps=d5 (q.set k (iH ids (j+1) p)):=by rw[jj,List.set_set]
     rw[YK] at ahB;generalize iH ids j p=x at*;simp only[go_sem,i123_l1,p3,cI,p5,p13,p14,p15,p6,p24,p25,p26,p7,c7,cO,Ye,hlj,agT,hdp,hg,hqa,Pc.ps,w2,w3,ahB];exact⟨g7,rfl,rfl⟩
    have e1:iH ids (j+1) p=iH ids j p:=by unfold iH;rw[ZN,if_neg hg];simp
    simp only[go_sem,i123_l1,p3,cI,p5,p13,p14,p15,p6,p24,p25,p26,p7,c7,cO,hlj,agT,hdp,hg,Pc.ps,w2,e1];exact⟨g7,rfl,rfl⟩
   have:j=ids.length:=by omega
   subst this;rw[YA] at cO;simp only[go_sem,i123_l1,i123_r2,p3,cI,p5,p13,p14,p15,p26,p25,cO,aW,w1,Ye]
 have:k=m.length:=by omega
 subst this;have e1:r9 ids m m.length=m.map (pS ids):=by rw[r9,aaV,List.drop_length,abo]
 rw[e1] at bO;simp only[go_sem,i123_l3,i123_r4,h5,h14,h15,aW];have hn2:m.map (pS ids)≠[]:=by simpa using Yk
 exact hJ (.inr ⟨by simpa using hn2,gg,by simp,bO⟩)
theorem cD.ids(g:cD F ls):Pl ls/\oE ls:=by have hc:=g.ok.cr;unfold dN at hc;simp only[aaf] at hc;exact xK.1 fun k hk=>aaP.1 hc.1.2 k (aav.2 hk)
theorem yL{p:Pc}(h:p∈pieces ls):∃(i:Nat) (l:Let),ls[i]?=some l/\p=⟨l,rW ls i⟩:=by
 obtain⟨i,hi⟩:=aaO h;have hil:i<ls.length:=by rw[<- aB];exact(aac.1 hi).1
 obtain⟨l,hl⟩:=ai hil;rw[dw hl] at hi;cases hi;exact⟨i,l,hl,rfl⟩
theorem FU(g:cD F ls):∀p∈pieces ls,-1000000<=p.l.id/\p.l.id<=1000000:=by
 intro p hp;obtain⟨i,l,hl,rfl⟩:=yL hp;have hm:=aab hl;rcases g.ok.kinds l hm with h|h
 .have:=(cJ (f:=(F:Int)) h).1 (g.bad l hm);simp only[this.1.1.2];omega
 have h1:=g.ids.1 l hm h;have:=g.cr;simp only;omega
def VD(ls:List Let)(av:Nat):Option (List Pc):=
 let p:=(pieces ls).getD av ⟨fG,false⟩
 let q:=(pieces ls).getD ((av+1)%ls.length) ⟨fG,false⟩
 if (p.l.kind==2)&&((q.l.kind==2)&&(p.l.id==q.l.id)) then some (Ch (pieces ls) [p.l.id]) else none
theorem L4(g:cD F ls)(ha:av<ls.length){k b c:Int}{l o:Bool}{sg:Int}:
  bz S 97 [.one (.p (fp F ls)),oG k av b c l o sg] (kR (VD ls av)):=by
 have hlen:=g.len;have Yu:=aB ls;have pe:=o0 g ha;have hm:=aat (av+1) (show 0<ls.length by omega);obtain⟨p,hp⟩:=ai (ls:=pieces ls) (k:=av) (by omega);obtain⟨q,hq⟩:=ai (ls:=pieces ls) (k:=(av+1)%ls.length) (by omega);have ZI:=cN hp;have hpj:=cN hq;have lo:S.lone 6208256896=false:=by kernel_rfl
 unfold VD;simp only[aal,hp,hq,aaS];refine aP c97 ?_;cases c1:(p.l.kind==2) with
 |false=>
  have n1:(p.l.kind !=2)=true:=by simp[bne,c1]
  simp only[go_sem,i97,s114,au pe aU,ZI,Pc.ps,n1];exact⟨aH,rfl⟩
 |true=>
 have n1:(p.l.kind !=2)=false:=by simp[bne,c1]
 cases c2:(q.l.kind==2) with
 |false=>
  have n2:(q.l.kind !=2)=true:=by simp[bne,c2]
  simp only[go_sem,i97,s114,au pe aU,ZI,hpj,Pc.ps,n1,n2];exact⟨aH,rfl⟩
 |true=>
 have n2:(q.l.kind !=2)=false:=by simp[bne,c2]
 cases c3:(p.l.id==q.l.id) with
 |false=>
  have n3:(p.l.id !=q.l.id)=true:=by simp[bne,c3]
  simp only[go_sem,i97,s114,au pe aU,ZI,hpj,Pc.ps,n1,n2,n3];exact⟨aH,rfl⟩
 |true=>
 have n3:(p.l.id !=q.l.id)=false:=by simp[bne,c3]
 have pd:=Cg (pieces ls) [p.l.id] (by omega) (by simp) (FU g);simp only[go_sem,i97,s114,au pe aU,ZI,hpj,Pc.ps,n1,n2,n3,s123];refine⟨aH,?_⟩;refine eI pd lo (.inr (ay (dp _))) fun cc Yi w gc hb hw=>?_;simp only[go_sem];refine⟨?_,aS gc⟩;rcases hw with rfl|rfl<;>kernel_rfl
abbrev pA(ls:List Let)(i:Nat):Pc:=(pieces ls).getD i ⟨fG,false⟩
theorem eO{i:Nat}{p:Pc}(h:(pieces ls)[i]?=some p):pA ls i=p:=by simp[pA,aal,h]
abbrev nx(ls:List Let)(e:Nat):Nat:=(e+1)%ls.length
def vE(ls:List Let)(e:Nat)(ov:Bool):Bool:=((pA ls e).l.kind==2)&&(((pA ls (nx ls e)).l.kind==2)&&(((pA ls e).l.over==ov)&&((pA ls (nx ls e)).l.over==ov)))
theorem vD(g:cD F ls){e:Nat}(he:e<ls.length)(ov:Bool):bz S 125 [.one (.p (fp F ls)),vi e,vb ov] (rb (vE ls e ov)):=by
 have hlen:=g.len;have Yu:=aB ls;have pe:=o0 g he;have hm:=aat (e+1) (show 0<ls.length by omega);obtain⟨p,hp⟩:=ai (ls:=pieces ls) (k:=e) (by omega);obtain⟨q,hq⟩:=ai (ls:=pieces ls) (k:=(e+1)%ls.length) (by omega);have ZI:=cN hp;have hpj:=cN hq;unfold vE;rw[eO hp,eO hq];refine aP c125 ?_;cases c1:(p.l.kind==2) with
 |false=>simp only[go_sem,i125,s114,au pe aU,ZI,Pc.ps,c1]
 |true=>
 cases c2:(q.l.kind==2) with
 |false=>simp only[go_sem,i125,s114,au pe aU,ZI,hpj,Pc.ps,c1,c2]
 |true=>
 cases c3:(p.l.over==ov) with
 |false=>simp only[go_sem,i125,s114,au pe aU,ZI,hpj,Pc.ps,c1,c2,c3]
 |true=>
 cases c4:(q.l.over==ov) with
 |false=>simp only[go_sem,i125,s114,au pe aU,ZI,hpj,Pc.ps,c1,c2,c3,c4]
 |true=>simp only[go_sem,i125,s114,au pe aU,ZI,hpj,Pc.ps,c1,c2,c3,c4]
def sT(ls:List Let)(e:Nat):Nat×Nat×Bool:=if (pA ls e).l.kind==2 then (nx ls e,e,(pA ls (nx ls e)).l.kind==1) else (e,nx ls e,((pA ls e).l.kind==1)&&((pA ls (nx ls e)).l.kind==2))
abbrev TV(a b c:PV):RV:=.tup [.one (.p a),.one (.p b),.one (.p c)]
theorem fq{X9:aE}{s:Nat}{a b c:PV}{l:Bool}:land X9 [] s ((TV a b c).bZ l)=some (.tup [.one (.p a),.one (.p b),.one (.p c)],[]):=by cases l<;>rfl
theorem TY(g:cD F ls){e:Nat}(he:e<ls.length):bz S 121 [.one (.p (fp F ls)),vi e] (TV (.int .i64 ((sT ls e).1:Nat)) (.int .i64 ((sT ls e).2.1:Nat)) (.bool (sT ls e).2.2)):=by
 have hlen:=g.len;have Yu:=aB ls;have pe:=o0 g he;have hm:=aat (e+1) (show 0<ls.length by omega);obtain⟨p,hp⟩:=ai (ls:=pieces ls) (k:=e) (by omega);obtain⟨q,hq⟩:=ai (ls:=pieces ls) (k:=(e+1)%ls.length) (by omega);have ZI:=cN hp;have hpj:=cN hq;unfold sT;rw[eO hp,eO hq];refine aP c121 ?_;cases c1:(p.l.kind==2) with
 |true=>
  have e1:p.l.kind=2:=by simpa using c1
  rw[if_pos rfl];cases c2:(q.l.kind==1) with
  |true=>simp only[go_sem,i121,s114,au pe aU,ZI,hpj,Pc.ps,c1,c2];exact⟨aH,rfl⟩
  |false=>simp only[go_sem,i121,s114,au pe aU,ZI,hpj,Pc.ps,c1,c2];exact⟨aH,rfl⟩
 |false=>
  rw[if_neg (by decide)];cases c2:(p.l.kind==1) with
  |true=>
   cases c3:(q.l.kind==2) with
   |true=>simp only[go_sem,i121,s114,au pe aU,ZI,hpj,Pc.ps,c1,c2,c3];exact⟨aH,rfl⟩
   |false=>simp only[go_sem,i121,s114,au pe aU,ZI,hpj,Pc.ps,c1,c2,c3];exact⟨aH,rfl⟩
  |false=>simp only[go_sem,i121,s114,au pe aU,ZI,Pc.ps,c1,c2];exact⟨aH,rfl⟩
def QW(o:List Nat)(pr:Nat->Bool)(i:Nat):Bool:=match o[i]? with|some v=>pr v|none=>false
theorem Pi(o:List Nat)(hl:o.length<=1000000){f:Nat}{x y z:PV}(hn:x.norm=x/\y.norm=y/\z.norm=z)(Za:S.shared f=false)(pr:Nat->Bool)(hd:∀v∈o,bz S f [vi (v:Nat),.one (.p x),.one (.p y),.one (.p z)] (rb (pr v))):
  bz S 152 [.one (.p (.sl (nP o))),.one (.p (.fn f [] [x,y,z]))] (ri (match (List.range o.length).find? (QW o pr) with|some k=>(k:Int)|none=> -1)):=by
 obtain⟨Z9,ZG,hn2⟩:=hn;refine aP c152 ?_;simp only[go_sem,i152];refine bm (fun k env X9=>env 0=.one (.p (.sl (nP o)))/\env 1=.one (.p (.fn f [] [x,y,z]))/\env 7=vi o.length/\env 8=vi k/\ ∀j,j<k->QW o pr j=false) 0 o.length (aae _) ?_ ?_
 .simp only[go_sem];exact⟨rfl,fun j hj=>absurd hj (abB j)⟩
 rintro k env X9 hk ⟨h0,h1,h7,h8,hnn⟩
 by_cases Ye:k<o.length
 .have Yf:((k:Int)<(o.length:Int)):=by omega
  obtain⟨v,hv⟩:=ai Ye;have Zi:=dQ hv;have w1:=ah (n:=k) (by omega);have pd:=hd v (aab hv);have hpd:QW o pr k=pr v:=by simp[QW,hv]
  cases hb:pr v with
  |true=>rw[hb] at pd hpd;have hf:=fV (p:=QW o pr) Ye hnn hpd;simp only[go_sem,i152_l1,h0,h1,h7,h8,Yf,Zi,Za,Z9,ZG,hn2,az pd,hf]
  |false=>
   rw[hb] at pd hpd;simp only[go_sem,i152_l1,h0,h1,h7,h8,Ye,Yf,Zi,Za,Z9,ZG,hn2,az pd,w1];intro j hj;rcases abe.1 hj with h|rfl
   .exact hnn j h
   exact hpd
 have:k=o.length:=by omega
 subst this;have hf:=ft (p:=QW o pr) hnn;simp only[go_sem,i152_l1,i152_r2,h7,h8,aW,hf]
theorem Gx(o:List Nat)(hl:o.length<=1000000){f:Nat}{x y z:PV}(hn:x.norm=x/\y.norm=y/\z.norm=z)(Za:S.shared f=false)(pr:Nat->Bool)(hd:∀v∈o,bz S f [vi (v:Nat),.one (.p x),.one (.p y),.one (.p z)] (rb (pr v))):
  bz S 138 [.one (.p (.sl (nP o))),.one (.p (.fn f [] [x,y,z]))] (rb (o.any pr)):=by
 have pi:=Pi o hl hn Za pr hd;obtain⟨Z9,ZG,hn2⟩:=hn;refine aP c138 ?_;cases ha:o.any pr with
 |true=>
  obtain⟨v,hv,hp⟩:=List.any_eq_true.1 ha;obtain⟨k,hk⟩:=aaO hv;have YY:=(aac.1 hk).1;cases hf:(List.range o.length).find? (QW o pr) with
  |none=>have:=adD.1 hf k (aav.2 YY);simp[QW,hk,hp] at this
  |some j=>
   rw[hf] at pi;have hge:(0:Int)<=(j:Int):=by omega
   simp only[go_sem,i138,s152,bj pi,hge]
 |false=>
  cases hf:(List.range o.length).find? (QW o pr) with
  |some j=>
   have h1:=List.find?_some hf;unfold QW at h1;cases ho:o[j]? with
   |none=>rw[ho] at h1;cases h1
   |some v=>rw[ho] at h1;have:=ac4.1 ha v (aab ho);exact absurd h1 this
  |none=>
   rw[hf] at pi;have hge:¬(0:Int)<= -1:=by decide
   simp only[go_sem,i138,s152,bj pi,hge]
def zQ(f:Fc)(e:Nat):Nat:=f.Yj.countP fun d=>d/2==e
def wK(f:Fc)(pl:Nat)(edges:List Nat):Bool:=(f.Yj.length==edges.length)&&((f.places.length==pl)&&edges.all fun e=>zQ f e==1)
theorem KE(g:cD F ls){j:Nat}{f:Fc}(hf:(aT F ls)[j]?=some f)(edges:List Nat)(he:edges.length<=1000)(pl:Nat):
  bz S 139 [vi j,.one (.p (.box [fp F ls])),.one (.p (.box [.sl (nP edges)])),.one (.p (.box [.int .i64 pl]))] (rb (wK f pl edges)):=by
 have hlen:=g.len;have ZP:(aa ls).length<=ls.length:=fv ls ls.length;have hdl:=wA g.ok (aab hf);have Zx:nD ls<=1600:=by unfold nD;omega
 have hfp:=Iz hf;have hjl:=(aac.1 hf).1;refine aP c139 ?_;unfold wK;cases c1:(f.Yj.length==edges.length) with
 |false=>
  have n1:(((f.Yj.length:Nat):Int)!=((edges.length:Nat):Int))=true:=by
   have:¬f.Yj.length=edges.length:=by simpa using c1
   simp[bne];omega
  simp only[go_sem,i139,hfp,Fc.ps,n1]
 |true=>
 have n1:(((f.Yj.length:Nat):Int)!=((edges.length:Nat):Int))=false:=by
  have:f.Yj.length=edges.length:=by simpa using c1
  simp[bne,this]
 cases c2:(f.places.length==pl) with
 |false=>
  have n2:(((f.places.length:Nat):Int)!=((pl:Nat):Int))=true:=by
   have:¬f.places.length=pl:=by simpa using c2
   simp[bne];omega
  simp only[go_sem,i139,hfp,Fc.ps,n1,n2]
 |true=>
 have n2:(((f.places.length:Nat):Int)!=((pl:Nat):Int))=false:=by
  have:f.places.length=pl:=by simpa using c2
  simp[bne,this]
 simp only[go_sem,i139,hfp,Fc.ps,n1,n2];refine bm (fun k env X9=>env 6=.one (.Yh 8896064448 1 0)/\X9 8896064448=(1,some (.var (f.ps.map .p)))/\env 32=.one (.p (.sl (nP edges)))/\env 33=vi edges.length/\env 34=vi k/\ ∀i e,i<k->edges[i]?=some e->(zQ f e==1)=true) 0 edges.length (aae _) ?_ ?_
 .simp only[go_sem,Fc.ps];first|exact⟨rfl,fun i e hi=>absurd hi (abB i)⟩|exact⟨rfl,rfl,fun i e hi=>absurd hi (abB i)⟩|exact fun i e hi=>absurd hi (abB i)
 rintro k env X9 hk ⟨h6,b6,h32,h33,h34,Yd⟩
 simp only[Fc.ps,aar,abb] at b6;by_cases Ye:k<edges.length
 .have Yf:((k:Int)<(edges.length:Int)):=by omega
  obtain⟨e,hek⟩:=ai Ye;have hep:=dQ hek;have w1:=ah (n:=k) (by omega);simp only[go_sem,i139_l4,h6,b6,h32,h33,h34,Yf,hep];refine bm (fun i Yn Yg=>Yn 6=.one (.Yh 8896064448 1 0)/\Yg 8896064448=(1,some (.var (f.ps.map .p)))/\Yn 32=.one (.p (.sl (nP edges)))/\Yn 33=vi edges.length/\Yn 34=vi k/\Yn 8=vi e/\Yn 9=vi ((f.Yj.take i).countP fun d=>d/2==e:Nat)/\Yn 39=.one (.p (.sl (nP f.Yj)))/\Yn 40=vi f.Yj.length/\Yn 41=vi i) 0 f.Yj.length (aae _) ?_ ?_
  .simp only[go_sem,h6,b6,h32,h33,h34,Fc.ps];first|exact⟨rfl,rfl⟩|exact rfl|exact⟨rfl,rfl,rfl⟩
  rintro i Yn Yg hi ⟨p6,d6,p32,p33,p34,p8,p9,p39,p40,p41⟩
  by_cases hli:i<f.Yj.length
  .have alc:((i:Int)<(f.Yj.length:Int)):=by omega
   obtain⟨d,hd⟩:=ai hli;have hdp:=dQ hd;have w2:=ah (n:=i) (by omega);have wq:=wrap_small (n:=d/2) (by have:=uC (aab hf) d (aab hd);omega);have YL:(f.Yj.take i).countP (fun d=>d/2==e)<=i:=abc List.countP_le_length (by rw[aay];omega);have w3:=ah (n:=(f.Yj.take i).countP fun d=>d/2==e) (by omega);have ZN:(f.Yj.take (i+1)).countP (fun d=>d/2==e)=(f.Yj.take i).countP (fun d=>d/2==e)+if (d/2==e)=true then 1 else 0:=by rw[abn,hd,abF];simp[abM,List.countP_nil]
   cases hde:(d/2==e) with
   |true=>
    have n3:(((d/2:Nat):Int)==(e:Int))=true:=by
     have:d/2=e:=by simpa using hde
     simp;omega
    rw[hde,if_pos rfl] at ZN;simp only[go_sem,i139_l1,p6,p32,p33,p34,p8,p9,p39,p40,p41,hli,alc,hdp,ba,cY,wq,n3,w2,w3,ZN];first|exact d6|exact⟨d6,rfl⟩
   |false=>
    have n3:(((d/2:Nat):Int)==(e:Int))=false:=by
     have:¬d/2=e:=by simpa using hde
     simp;omega
    rw[hde,if_neg (by decide),abY] at ZN;simp only[go_sem,i139_l1,p6,p32,p33,p34,p8,p9,p39,p40,p41,hli,alc,hdp,ba,cY,wq,n3,w2,ZN];first|exact d6|exact⟨d6,rfl⟩
  have:i=f.Yj.length:=by omega
  subst this;rw[aaV] at p9;have hdc:(f.Yj.countP fun d=>d/2==e)=zQ f e:=rfl;rw[hdc] at p9;cases hq:(zQ f e==1) with
  |true=>
   have n4:(((zQ f e:Nat):Int)!=1)=false:=by
    have:zQ f e=1:=by simpa using hq
    simp[bne,this]
   simp only[go_sem,i139_l1,i139_r2,i139_r3,p6,p32,p33,p34,p9,p40,p41,aW,n4,w1,Ye];refine⟨d6,fun i2 e2 hi2 he2=>?_⟩;rcases abe.1 hi2 with h|rfl
   .exact Yd i2 e2 h he2
   rw[hek] at he2;cases he2;exact hq
  |false=>
   have n4:(((zQ f e:Nat):Int)!=1)=true:=by
    have:¬zQ f e=1:=by simpa using hq
    simp[bne];omega
   have Yt:(edges.all fun e=>zQ f e==1)=false:=List.all_eq_false.2 ⟨e,aab hek,by rw[hq];decide⟩;simp only[go_sem,i139_l1,i139_r2,p9,p40,p41,aW,n4,Yt]
 have:k=edges.length:=by omega
 subst this;have Yt:(edges.all fun e=>zQ f e==1)=true:=aaP.2 fun e he=>by obtain⟨i,hi⟩:=aaO he;exact Yd i e (aac.1 hi).1 hi
 simp only[go_sem,i139_l4,i139_r5,h33,h34,aW,Yt]
def kQ(F:Nat)(ls:List Let)(pl:Nat)(edges:List Nat)(e0:Nat):Bool:=wK (eL F ls (2*e0)) pl edges||wK (eL F ls (2*e0+1)) pl edges
theorem zV(g:cD F ls)(edges:List Nat)(YJ:edges.length<=1000){e0:Nat}(h0:edges[0]?=some e0)(he0:e0<ls.length)(pl:Nat):
  bz S 122 [.one (.p (fp F ls)),vi pl,.one (.p (.sl (nP edges)))] (rb (kQ F ls pl edges e0)):=by
 have hlen:=g.len;obtain⟨j0,a1,a2,a3⟩:=vr g (d:=2*e0) (by omega);obtain⟨j1,b1,b2,b3⟩:=vr g (d:=2*e0+1) (by omega);have g0:(aT F ls).getD j0 OJ=eL F ls (2*e0):=by rw[aal,a2];rfl
 have g1:(aT F ls).getD j1 OJ=eL F ls (2*e0+1):=by rw[aal,b2];rfl
 have pc:=Gx [j0,j1] (by simp) (f:=139) (x:=.box [fp F ls]) (y:=.box [.sl (nP edges)]) (z:=.box [.int .i64 pl]) ⟨rfl,rfl,rfl⟩ s139 (fun j=>wK ((aT F ls).getD j OJ) pl edges) (fun v hv=>by
  simp only[aag,aaC,or_false] at hv;rcases hv with rfl|rfl
  .rw[g0];exact KE g a2 edges YJ pl
  rw[g1];exact KE g b2 edges YJ pl)
 have ao0:([j0,j1].any fun j=>wK ((aT F ls).getD j OJ) pl edges)=kQ F ls pl edges e0:=by simp only[List.any_cons,List.any_nil,Bool.or_false,g0,g1];rfl
 rw[ao0] at pc;simp only[aar,abb] at pc;have ja:=dQ a1;have jb:=dQ b1;have he:=dQ h0;have m2:=dr (a:=e0) (by omega);have m3:=ah (n:=2*e0) (by omega);have hll:=nv F ls;have l1:2*e0<(dX F ls).length:=by omega
 have l2:2*e0+1<(dX F ls).length:=by omega
 have YG:0<edges.length:=(aac.1 h0).1;have hpos':(0:Int)<(edges.length:Int):=by omega
 refine aP c122 ?_;simp only[go_sem,i122,he,m2,m3,ja,jb,s138,dF pc];exact aH
def nV(ls:List Let)(l:List Pc)(e:Nat):List Pc:=(l.set e (l.getD (nx ls e) ⟨fG,false⟩)).set (nx ls e) (l.getD e ⟨fG,false⟩)
theorem n0(ls:List Let)(l:List Pc)(e:Nat):(nV ls l e).length=l.length:=by simp[nV]
def pZ(ls:List Let)(l:List Pc)(es:List Nat):List Pc:=es.foldl (nV ls) l
theorem ml(ls:List Let):∀(es:List Nat) (l:List Pc),(pZ ls l es).length=l.length:=by
 intro es
 induction es with
 |nil=>intro l;rfl
 |cons e es ih=>intro l;show(pZ ls (nV ls l e) es).length=_;rw[ih,n0]
theorem K5(g:cD F ls)(es:List Nat)(hes:∀e∈es,e<ls.length)(YJ:es.length<=1000):
  bz S 129 [.one (.p (fp F ls)),.one (.p (.sl (nP es)))] (.one (aD gE 7 (d5 (pZ ls (pieces ls) es)))):=by
 have hlen:=g.len;have Yu:=aB ls;have Yk:pieces ls≠[]:=aaQ.1 (by have:=aaQ.2 g.ne;omega);have pcl:=uK Yk (by omega);have lo:S.lone 8256064256=false:=by kernel_rfl
 refine aP c129 ?_;simp only[go_sem,i129,s119];refine gA pcl lo (.inl rfl) fun cc YZ gc Zq=>?_;rcases gc with ⟨e,_⟩|⟨_,gg,e,hC⟩
 .exact absurd (by simpa using e) Yk
 cases e;rw[aah,Yu];simp only[go_sem];refine bm (fun k env X9=>env 0=.one (.p (fp F ls))/\env 5=.one (.hsl 8256064256 gg 7 0 ls.length)/\env 15=.one (.p (.sl (nP es)))/\env 16=vi es.length/\env 17=vi k/\X9 8256064256=(gg,some (.arr gE 7 (d5 (pZ ls (pieces ls) (es.take k)))))) 0 es.length (aae _) ?_ ?_
 .simp only[go_sem,hC];first|exact⟨rfl,rfl⟩|rfl|exact⟨rfl,rfl,rfl⟩
 rintro k env X9 hk ⟨h0,h5,h15,h16,ZR,bO⟩
 by_cases Ye:k<es.length
 .have Yf:((k:Int)<(es.length:Int)):=by omega
  obtain⟨e,he⟩:=ai Ye;have hep:=dQ he;have aeT:=hes e (aab he);have pe:=o0 g aeT;have w1:=ah (n:=k) (by omega);have htk:pZ ls (pieces ls) (es.take (k+1))=nV ls (pZ ls (pieces ls) (es.take k)) e:=by unfold pZ;rw[abn,he,adp];rfl
  have hml:(pZ ls (pieces ls) (es.take k)).length=ls.length:=by rw[ml,Yu]
  have hm:=aat (e+1) (show 0<ls.length by omega);generalize pZ ls (pieces ls) (es.take k)=m at bO htk hml;obtain⟨p,hp⟩:=ai (ls:=m) (k:=e) (by omega);obtain⟨q,hq⟩:=ai (ls:=m) (k:=(e+1)%ls.length) (by omega);have Zi:=cN hp;have hqp:=cN hq;have l1:e<m.length:=by omega
  have l2:(e+1)%ls.length<m.length:=by omega
  have s1:=jj m e q;have Z3:(m.set e q).set ((e+1)%ls.length) p=nV ls m e:=by unfold nV nx;rw[aal,hq,aal,hp];rfl
  have s2:=jj (m.set e q) ((e+1)%ls.length) p;rw[Z3,<- htk] at s2;simp only[Pc.ps] at s1 s2;obtain⟨p',ZJ⟩:=ai (ls:=m.set e q) (k:=e) (by rw[abi];omega);obtain⟨q',hq'⟩:=ai (ls:=m.set e q) (k:=(e+1)%ls.length) (by rw[abi];omega);have aiH:=cN hq';simp only[go_sem,i129_l1,h0,h5,h15,h16,ZR,bO,Ye,Yf,hep,s114,au pe aU,aeT,hm,Zi,hqp,aiH,s1,s2,Pc.ps,w1];exact aH
 have:k=es.length:=by omega
 subst this;rw[aaV] at bO;simp only[go_sem,i129_l1,i129_r2,h5,h16,ZR,aW];have h1:(pZ ls (pieces ls) es).length=ls.length:=by rw[ml,Yu]
 refine hJ (.inr ⟨?_,gg,by rw[aah,h1],bO⟩);intro h2;have:=congrArg List.length h2;rw[aah,h1,aaA] at this;have h3:=aaQ.2 g.ne;omega
def eU(l:List Pc)(i:Nat)(r:Int):List Pc:=l.set i {(l.getD i ⟨fG,false⟩) with l:={(l.getD i ⟨fG,false⟩).l with Yb:=r}}
theorem iV(l:List Pc)(i:Nat)(r:Int):(eU l i r).length=l.length:=by simp[eU]
def Wb(F:Nat)(ls:List Let)(av bv:Nat):Option (List Pc):=
 if (sT ls av).2.2&&((sT ls bv).2.2&&(!((sT ls av).2.1==(sT ls bv).2.1)&&(((pA ls (sT ls av).2.1).l.id==(pA ls (sT ls bv).2.1).l.id)&&kQ F ls 1 [av,bv] av)))
 then some (pZ ls (eU (eU (pieces ls) (sT ls av).1 (pA ls (sT ls bv).1).l.Yb) (sT ls bv).1 (pA ls (sT ls av).1).l.Yb) [av,bv]) else none
theorem Og{e:Nat}(he:e<ls.length):(sT ls e).1<ls.length/\(sT ls e).2.1<ls.length:=by
 have hm:=aat (e+1) (show 0<ls.length by omega);unfold sT nx;split
 .exact⟨hm,he⟩
 exact⟨he,hm⟩
theorem GL(g:cD F ls){bv:Nat}(ha:av<ls.length)(hb:bv<ls.length){k c:Int}{l o:Bool}{sg:Int}:
  bz S 96 [.one (.p (fp F ls)),oG k av bv c l o sg] (kR (Wb F ls av bv)):=by
 have hlen:=g.len;have Yu:=aB ls;have pa:=TY g ha;have pb:=TY g hb;have pc:=zV g [av,bv] (by simp) (e0:=av) rfl ha 1;obtain⟨p1,v1⟩:=Og ha;obtain⟨q1,w1⟩:=Og hb;unfold Wb;generalize sT ls av=x at*;generalize sT ls bv=y at*;obtain⟨pi,vi',one⟩:=x;obtain⟨qi,wi,two⟩:=y;simp only at pa pb p1 v1 q1 w1 ⊢;simp only[aar,abb] at pc;have c1:((1:Nat):Int)=1:=rfl;rw[c1] at pc;obtain⟨P,hP⟩:=ai (ls:=pieces ls) (k:=pi) (by omega);obtain⟨Q,hQ⟩:=ai (ls:=pieces ls) (k:=qi) (by omega);obtain⟨V,hV⟩:=ai (ls:=pieces ls) (k:=vi') (by omega)
 obtain⟨W,hW⟩:=ai (ls:=pieces ls) (k:=wi) (by omega);rw[eO hP,eO hQ,eO hV,eO hW];have hPp:=cN hP;have hQp:=cN hQ;have hVp:=cN hV;have hWp:=cN hW;have Yk:pieces ls≠[]:=aaQ.1 (by omega);have pcl:=uK Yk (by omega);have lo:S.lone 6144384256=false:=by kernel_rfl
 refine aP c96 ?_;cases one with
 |false=>simp only[go_sem,i96,s121,au pa fq,au pb fq];exact⟨aH,rfl⟩
 |true=>
 cases two with
 |false=>simp only[go_sem,i96,s121,au pa fq,au pb fq];exact⟨aH,rfl⟩
 |true=>
 cases c2:(vi'==wi) with
 |true=>
  have n2:((vi':Int)==(wi:Int))=true:=by simp[show vi'=wi by simpa using c2]
  simp only[go_sem,i96,s121,au pa fq,au pb fq,n2];exact⟨aH,rfl⟩
 |false=>
 have n2:((vi':Int)==(wi:Int))=false:=by
  have:¬vi'=wi:=by simpa using c2
  simp;omega
 cases c3:(V.l.id==W.l.id) with
 |false=>
  have n3:(V.l.id !=W.l.id)=true:=by simp[bne,c3]
  simp only[go_sem,i96,s121,au pa fq,au pb fq,n2,hVp,hWp,Pc.ps,n3];exact⟨aH,rfl⟩
 |true=>
 have n3:(V.l.id !=W.l.id)=false:=by simp[bne,c3]
 cases c4:kQ F ls 1 [av,bv] av with
 |false=>rw[c4] at pc;simp only[go_sem,i96,s121,au pa fq,au pb fq,n2,hVp,hWp,Pc.ps,n3,s122,dF pc];exact⟨aH,rfl⟩
 |true=>
 rw[c4] at pc;simp only[go_sem,i96,s121,au pa fq,au pb fq,n2,hVp,hWp,hPp,hQp,Pc.ps,n3,s122,dF pc,s119];refine⟨aH,aH,?_⟩;refine gA pcl lo (.inl rfl) fun cc YZ gc Zq=>?_;have b3:=Zq 6144000000 (by decide);simp only[go_sem] at b3;rcases gc with ⟨e,_⟩|⟨_,gg,e,hC⟩
 .exact absurd (by simpa using e) Yk
 cases e;rw[aah,Yu];have s1:=jj (pieces ls) pi {P with l:={P.l with Yb:=Q.l.Yb}};have ZF:(pieces ls).set pi {P with l:={P.l with Yb:=Q.l.Yb}}=eU (pieces ls) pi Q.l.Yb:=by unfold eU;rw[aal,hP];rfl
 rw[ZF] at s1;have Zy:(eU (pieces ls) pi Q.l.Yb).length=ls.length:=by rw[iV,Yu]
 obtain⟨Q',hQ'⟩:=ai (ls:=eU (pieces ls) pi Q.l.Yb) (k:=qi) (by omega);have ao7:=cN hQ';have s2:=jj (eU (pieces ls) pi Q.l.Yb) qi {Q' with l:={Q'.l with Yb:=P.l.Yb}};have Zd:(eU (pieces ls) pi Q.l.Yb).set qi {Q' with l:={Q'.l with Yb:=P.l.Yb}}=eU (eU (pieces ls) pi Q.l.Yb) qi P.l.Yb:=by rw[eU.eq_def (eU (pieces ls) pi Q.l.Yb),aal,hQ'];rfl
 rw[Zd] at s2;simp only[Pc.ps] at s1 s2;have hm2:(eU (eU (pieces ls) pi Q.l.Yb) qi P.l.Yb).length=ls.length:=by rw[iV,Zy]
 simp only[go_sem,b3,hC,hPp,ao7,Pc.ps,s1,s2,p1,q1];generalize eU (eU (pieces ls) pi Q.l.Yb) qi P.l.Yb=M at hm2 ⊢;obtain⟨es,ag2⟩:∃es,es=[av,bv]:=⟨_,rfl⟩;have ag4:es.length=2:=by rw[ag2];rfl
 have hes:∀e∈es,e<ls.length:=fun e he=>by rw[ag2] at he;simp only[aag,aaC,or_false] at he;rcases he with rfl|rfl<;>assumption
 refine bm (fun k env X9=>env 0=.one (.p (fp F ls))/\env 14=.one (.hsl 6144384256 gg 7 0 ls.length)/\(∃ge,env 116=.one (.hsl 6144512256 ge 1 0 2)/\X9 6144512256=(ge,some (.arr 3 1 (nP es))))/\env 117=vi ((2:Nat):Int)/\env 118=vi k/\X9 6144384256=(gg,some (.arr gE 7 (d5 (pZ ls M (es.take k)))))) 0 2 (aae _) ?_ ?_
 .simp only[go_sem];exact⟨⟨_,rfl,by rw[ag2];rfl⟩,rfl,rfl⟩
 rintro k env X9 hk ⟨h0,h14,⟨ge,acn,bE⟩,alQ,alP,bO⟩
 by_cases Ye:k<2
 .have Yf:((k:Int)<((2:Nat):Int)):=by omega
  have agR:k<es.length:=by omega
  obtain⟨e,he⟩:=ai agR;have hep:=dQ he;have aeT:=hes e (aab he);have pe:=o0 g aeT;have w1:=ah (n:=k) (by omega);have htk:pZ ls M (es.take (k+1))=nV ls (pZ ls M (es.take k)) e:=by unfold pZ;rw[abn,he,adp];rfl
  have hml:(pZ ls M (es.take k)).length=ls.length:=by rw[ml,hm2]
  have hm:=aat (e+1) (show 0<ls.length by omega);generalize pZ ls M (es.take k)=m at bO htk hml;obtain⟨p,hp⟩:=ai (ls:=m) (k:=e) (by omega);obtain⟨q,hq⟩:=ai (ls:=m) (k:=(e+1)%ls.length) (by omega);have Zi:=cN hp;have hqp:=cN hq;have l1:e<m.length:=by omega
  have l2:(e+1)%ls.length<m.length:=by omega
  have s1:=jj m e q;have Z3:(m.set e q).set ((e+1)%ls.length) p=nV ls m e:=by unfold nV nx;rw[aal,hq,aal,hp];rfl
  have s2:=jj (m.set e q) ((e+1)%ls.length) p;rw[Z3,<- htk] at s2;simp only[Pc.ps] at s1 s2;obtain⟨q',hq'⟩:=ai (ls:=m.set e q) (k:=(e+1)%ls.length) (by rw[abi];omega);have aiH:=cN hq';simp only[go_sem,i96_l1,h0,h14,acn,alQ,alP,bE,bO,Ye,Yf,hep,s114,au pe aU,aeT,hm,Zi,hqp,aiH,s1,s2,Pc.ps,w1];first|exact⟨aH,ge,rfl,rfl⟩|exact⟨aH,⟨ge,rfl,rfl⟩⟩|exact⟨aH,⟨ge,rfl,rfl⟩,rfl⟩|trace_state
 have:k=2:=by omega
 subst this;have e1:es.take 2=[av,bv]:=by rw[ag2];rfl
 rw[e1] at bO;have hge:¬(((2:Nat):Int)<((2:Nat):Int)):=by omega
 simp only[go_sem,i96_l1,i96_r2,h14,alQ,alP,hge];have h1:(pZ ls M [av,bv]).length=ls.length:=by rw[ml,hm2]
 refine aS (.inr ⟨?_,gg,by rw[aaS,aah,h1],bO⟩);intro h2;have:=congrArg List.length h2;rw[aaS,aah,h1,aaA] at this;omega
def lG(l:List Pc)(i:Nat)(g r:Int):List Pc:=l.set i {(l.getD i ⟨fG,false⟩) with l:={(l.getD i ⟨fG,false⟩).l with gate:=g,Yb:=r}}
def U5(F:Nat)(ls:List Let)(av:Nat):Option (List Pc):=
 if ((pA ls av).l.kind==1)&&(decide ((pA ls av).l.gate<(F:Int))&&((pA ls av).l.Yb==(cg ls (pA ls av).l.gate.toNat:Int)))
 then some (lG (aX (pieces ls) ((pA ls av).l.gate+1) 0 1) av ((pA ls av).l.gate+1) 1) else none
theorem U8(g:cD F ls)(ha:av<ls.length){b c:Int}{l o:Bool}{sg:Int}:
  bz S 102 [.one (.p (fp F ls)),oG 9 av b c l o sg] (kR (U5 F ls av)):=by
 unfold U5;have hlen:=g.len;have Yu:=aB ls;obtain⟨p,hp⟩:=ai (ls:=pieces ls) (k:=av) (by omega);have Zi:=cN hp;have Yk:pieces ls≠[]:=aaQ.1 (by omega);have pcl:=uK Yk (by omega);have lo:S.lone 6528256256=false:=by kernel_rfl
 have Za:S.shared 117=true:=by kernel_rfl
 have hrb:=lL g;rw[eO hp];refine aP c102 ?_;cases c1:(p.l.kind==1) with
 |false=>
  have n1:(p.l.kind !=1)=true:=by simp[bne,c1]
  simp only[go_sem,i102,Zi,Pc.ps,n1];exact⟨aH,rfl⟩
 |true=>
 have n1:(p.l.kind !=1)=false:=by simp[bne,c1]
 obtain⟨i,l0,hl0,hpe⟩:=yL (aab hp);have hgp:j7 F ls p.l:=by rw[hpe];exact g.ok.ax.d9 l0 (aab hl0) (by rw[hpe] at c1;exact c1)
 obtain⟨G,hG⟩:=abs hgp.g0;have hGF:G<=F:=by have:=hgp.g1;omega
 have aaK:=g.fing;have wG:=ah (n:=G) (by omega);have hca:=dQ (jI (ls:=ls) hGF);have abK:G<(counts ls F).length:=by simp[counts];omega
 have eG:p.l.gate.toNat=G:=by rw[hG];rfl
 rw[eG];by_cases c2:G<F
 .have n2:((G:Int)<(F:Int)):=by omega
  have d2:decide (p.l.gate<(F:Int))=true:=decide_eq_true (by rw[hG];exact n2);cases c3:(p.l.Yb==(cg ls G:Int)) with
  |false=>simp only[go_sem,i102,Zi,Pc.ps,n1,hG,s119];refine⟨aH,?_⟩;refine gA pcl lo (.inl rfl) fun cc YZ gc Zq=>?_;have b3:=Zq 6528000000 (by decide);have b6:=Zq 6528064512 (by decide);simp only[go_sem] at b3 b6;simp only[go_sem,b3,b6,n2,hca,c3];exact⟨aH,rfl⟩
  |true=>
   have eg1:p.l.gate+1=((G+1:Nat):Int):=by rw[hG];omega
   rw[d2,eg1];simp only[go_sem,i102,Zi,Pc.ps,n1,s119];refine⟨aH,?_⟩;refine gA pcl lo (.inl rfl) fun cc YZ gc Zq=>?_;have b3:=Zq 6528000000 (by decide);have b6:=Zq 6528064512 (by decide);simp only[go_sem] at b3 b6;simp only[go_sem,b3,b6,hG,n2,hca,c3,wG,Za];refine⟨aH,?_⟩;refine nE (l:=pieces ls) (by omega) (by decide) hrb gc fun Yi gc1 Yo=>?_;have b3':=(Yo 6528000000 (by decide)).trans b3;have b6':=(Yo 6528064512 (by decide)).trans b6;rcases gc1 with ⟨e,_⟩|⟨_,gg,e,hC⟩
   .exact absurd (by simpa [aX] using e) Yk
   cases e;have hml:(aX (pieces ls) ((G+1:Nat):Int) 0 1).length=ls.length:=by rw[aah,Yu]
   obtain⟨x,hx⟩:=ai (ls:=aX (pieces ls) ((G+1:Nat):Int) 0 1) (k:=av) (by omega);have e0:lG (aX (pieces ls) ((G+1:Nat):Int) 0 1) av ((G+1:Nat):Int) 1=(aX (pieces ls) ((G+1:Nat):Int) 0 1).set av {x with l:={x.l with gate:=((G+1:Nat):Int),Yb:=1}}:=by unfold lG;rw[aal,hx];rfl
   rw[e0];generalize aX (pieces ls) ((G+1:Nat):Int) 0 1=m at hC hml hx ⊢;have hxp:=cN hx;have s1:=jj m av {x with l:={x.l with gate:=((G+1:Nat):Int)}};have hx1:(m.set av {x with l:={x.l with gate:=((G+1:Nat):Int)}})[av]?=some {x with l:={x.l with gate:=((G+1:Nat):Int)}}:=by rw[abj,if_pos rfl,if_pos (by omega)]
   have aeh:=cN hx1;have s2:=jj (m.set av {x with l:={x.l with gate:=((G+1:Nat):Int)}}) av {x with l:={x.l with gate:=((G+1:Nat):Int),Yb:=1}};rw[List.set_set] at s2;simp only[Pc.ps] at s1 s2 aeh;have l1:av<m.length:=by omega
   simp only[go_sem,b3',b6',hC,hml,ha,hxp,aeh,Pc.ps,hG,s1,s2,wG];refine⟨aH,?_⟩;refine aS (.inr ⟨?_,gg,by rw[aaS,aah,abi,hml],rfl⟩);intro h2;have:=congrArg List.length h2;rw[aaS,aah,abi,hml,aaA] at this;omega
 have n2:¬((G:Int)<(F:Int)):=by omega
 have d2:decide (p.l.gate<(F:Int))=false:=decide_eq_false (by rw[hG];exact n2);simp only[go_sem,i102,Zi,Pc.ps,n1,s119];refine⟨aH,?_⟩;refine gA pcl lo (.inl rfl) fun cc YZ gc Zq=>?_;have b3:=Zq 6528000000 (by decide);have b6:=Zq 6528064512 (by decide);simp only[go_sem] at b3 b6;simp only[go_sem,b3,b6,hG,n2];exact⟨aH,rfl⟩
def U7(ls:List Let)(av:Nat):Option (List Pc):=
 if ((pA ls av).l.kind==1)&&(decide (0<(pA ls av).l.gate)&&((pA ls av).l.Yb==1))
 then some (lG (aX (pieces ls) (pA ls av).l.gate 1 (-1)) av ((pA ls av).l.gate-1) ((cg ls ((pA ls av).l.gate-1).toNat+1:Nat):Int)) else none
theorem U9(g:cD F ls)(ha:av<ls.length){b c:Int}{l o:Bool}{sg:Int}:
  bz S 102 [.one (.p (fp F ls)),oG 10 av b c l o sg] (kR (U7 ls av)):=by
 unfold U7;have hlen:=g.len;have Yu:=aB ls;obtain⟨p,hp⟩:=ai (ls:=pieces ls) (k:=av) (by omega);have Zi:=cN hp;have Yk:pieces ls≠[]:=aaQ.1 (by omega);have pcl:=uK Yk (by omega);have lo:S.lone 6528256256=false:=by kernel_rfl
 have Za:S.shared 117=true:=by kernel_rfl
 have hrb:=lL g;rw[eO hp];refine aP c102 ?_;cases c1:(p.l.kind==1) with
 |false=>
  have n1:(p.l.kind !=1)=true:=by simp[bne,c1]
  simp only[go_sem,i102,Zi,Pc.ps,n1];exact⟨aH,rfl⟩
 |true=>
 have n1:(p.l.kind !=1)=false:=by simp[bne,c1]
 obtain⟨i,l0,hl0,hpe⟩:=yL (aab hp);have hgp:j7 F ls p.l:=by rw[hpe];exact g.ok.ax.d9 l0 (aab hl0) (by rw[hpe] at c1;exact c1)
 obtain⟨G,hG⟩:=abs hgp.g0;have hGF:G<=F:=by have:=hgp.g1;omega
 have aaK:=g.fing;by_cases c2:0<G
 .have n2:((0:Int)<(G:Int)):=by omega
  obtain⟨H,rfl⟩:∃H,G=H+1:=⟨G-1,by omega⟩;have d2:decide (0<p.l.gate)=true:=decide_eq_true (by rw[hG];exact n2);have wG:=jw (a:=H+1) (by omega) (by omega);rw[adO] at wG;have hca:=dQ (jI (ls:=ls) (show H<=F by omega));have abK:H<(counts ls F).length:=by simp[counts];omega
  have YL:cg ls H<=ls.length:=ir _ _;have wC:=ah (n:=cg ls H) (by omega);have eg1:p.l.gate-1=(H:Int):=by rw[hG];omega
  cases c3:(p.l.Yb==1) with
  |false=>simp only[go_sem,i102,Zi,Pc.ps,n1,hG,s119];refine⟨aH,?_⟩;refine gA pcl lo (.inl rfl) fun cc YZ gc Zq=>?_;have b3:=Zq 6528000000 (by decide);have b6:=Zq 6528064512 (by decide);simp only[go_sem] at b3 b6;simp only[go_sem,b3,b6,n2,c3];first|exact⟨aH,rfl⟩|rfl
  |true=>
   rw[d2,eg1,hG,aba];simp only[go_sem,i102,Zi,Pc.ps,n1,s119];refine⟨aH,?_⟩;refine gA pcl lo (.inl rfl) fun cc YZ gc Zq=>?_;have b3:=Zq 6528000000 (by decide);have b6:=Zq 6528064512 (by decide);simp only[go_sem] at b3 b6;simp only[go_sem,b3,b6,hG,n2,c3,Za];refine⟨aH,?_⟩;refine nE (l:=pieces ls) (by omega) (by decide) hrb gc fun Yi gc1 Yo=>?_;have b3':=(Yo 6528000000 (by decide)).trans b3;have b6':=(Yo 6528064512 (by decide)).trans b6;rcases gc1 with ⟨e,_⟩|⟨_,gg,e,hC⟩
   .exact absurd (by simpa [aX] using e) Yk
   cases e;have hml:(aX (pieces ls) ((H+1:Nat):Int) 1 (-1)).length=ls.length:=by rw[aah,Yu]
   obtain⟨x,hx⟩:=ai (ls:=aX (pieces ls) ((H+1:Nat):Int) 1 (-1)) (k:=av) (by omega);have e0:lG (aX (pieces ls) ((H+1:Nat):Int) 1 (-1)) av (H:Int) ((cg ls H+1:Nat):Int)=(aX (pieces ls) ((H+1:Nat):Int) 1 (-1)).set av {x with l:={x.l with gate:=(H:Int),Yb:=((cg ls H+1:Nat):Int)}}:=by unfold lG;rw[aal,hx];rfl
   rw[e0];generalize aX (pieces ls) ((H+1:Nat):Int) 1 (-1)=m at hC hml hx ⊢;have hxp:=cN hx;have s1:=jj m av {x with l:={x.l with gate:=(H:Int)}};have hx1:(m.set av {x with l:={x.l with gate:=(H:Int)}})[av]?=some {x with l:={x.l with gate:=(H:Int)}}:=by rw[abj,if_pos rfl,if_pos (by omega)]
   have aeh:=cN hx1;have s2:=jj (m.set av {x with l:={x.l with gate:=(H:Int)}}) av {x with l:={x.l with gate:=(H:Int),Yb:=((cg ls H+1:Nat):Int)}};rw[List.set_set] at s2;simp only[Pc.ps] at s1 s2 aeh;have l1:av<m.length:=by omega
   simp only[go_sem,b3',b6',hC,hml,ha,hxp,aeh,Pc.ps,hG,s1,s2,wG,hca,wC];refine⟨aH,?_⟩;refine aS (.inr ⟨?_,gg,by rw[aaS,aah,abi,hml],rfl⟩);intro h2;have:=congrArg List.length h2;rw[aaS,aah,abi,hml,aaA] at this;omega
 have n2:¬((0:Int)<(G:Int)):=by omega
 have d2:decide (0<p.l.gate)=false:=decide_eq_false (by rw[hG];exact n2);simp only[go_sem,i102,Zi,Pc.ps,n1,s119];refine⟨aH,?_⟩;refine gA pcl lo (.inl rfl) fun cc YZ gc Zq=>?_;have b3:=Zq 6528000000 (by decide);have b6:=Zq 6528064512 (by decide);simp only[go_sem] at b3 b6;simp only[go_sem,b3,b6,hG,n2];first|exact⟨aH,rfl⟩|rfl
end
end Go.Abs
