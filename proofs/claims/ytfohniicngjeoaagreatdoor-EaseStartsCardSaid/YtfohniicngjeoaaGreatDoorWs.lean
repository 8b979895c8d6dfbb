/- A part. -/
import Derived.Test.YtfohniicngjeoaaGreatDoorWn
set_option linter.all false
set_option maxRecDepth 100000
set_option maxHeartbeats 16000000
namespace Go.Abs
section
variable{ls:List Let}{F:Nat}
def MD(l:List Pc)(drop:Nat->Pc->Bool)(i:Nat):Option Pc:=match l[i]? with|some p=>if drop i p then none else some p|none=>none
def tK(l:List Pc)(drop:Nat->Pc->Bool)(k:Nat):List Pc:=(List.range k).filterMap (MD l drop)
def pz(l:List Pc)(drop:Nat->Pc->Bool):List Pc:=tK l drop l.length
theorem AM{l:List Pc}{drop:Nat->Pc->Bool}{k:Nat}{p:Pc}(h:l[k]?=some p)(hd:drop k p=true):tK l drop (k+1)=tK l drop k:=by simp[tK,wT,List.filterMap_append,MD,h,hd]
theorem I1{l:List Pc}{drop:Nat->Pc->Bool}{k:Nat}{p:Pc}(h:l[k]?=some p)(hd:drop k p=false):tK l drop (k+1)=tK l drop k++[p]:=by simp[tK,wT,List.filterMap_append,MD,h,hd]
theorem Gr(l:List Pc)(drop:Nat->Pc->Bool)(k:Nat):(tK l drop k).length<=k:=by have:=List.length_filterMap_le (MD l drop) (List.range k);rwa[Dg] at this
theorem BW(g:dF F ls){e:Nat}(he:e<ls.length):aI S 126 [.one (.p (eI F ls)),vi e] (zA (.int .i64 e) (.int .i64 ((e+1)%ls.length:Nat))):=by have hlen:=g.len;have cA:=fW ls;have w1:=cn (n:=e) aa;have e1:=vB (e+1) ls.length;have hz:¬((ls.length:Int)=0):=aa;refine aZ c126 ?_;simp only[go_sem,i126,w1,e1,cA,hz];exact⟨aG,rfl⟩
theorem afM(l:List Pc)(hl:l.length<=1000000){f:Nat}{x y:PV}(hn:x.norm=x/\y.norm=y)(jk:S.shared f=false)(drop:Nat->Pc->Bool)(hd:∀(k:Nat) (p:Pc),l[k]?=some p->aI S f [vi k,.agg (p.ps.map .p),.one (.p x),.one (.p y)] (rb (drop k p))):
  aI S 127 [.one (.p (.sl (dN l))),.one (.p (.fn f [] [x,y]))] (.one (aT my 7 (dN (pz l drop)))):=by
 obtain⟨iM,iH⟩:=hn;refine aZ c127 ?_;simp only[go_sem,i127];refine cV (fun k ak aj=>ak 1=.one (.p (.fn f [] [x,y]))/\ak 8=.one (.p (.sl (dN l)))/\ak 9=vi l.length/\ak 10=vi k/\ ∃c,ak 5=.one c/\grown 8128384192 my 7 (dN (tK l drop k)) (.one c) aj) 0 l.length (bG _) ?_ ?_
 .simp only[go_sem];first|exact⟨rfl,_,rfl,.inl ⟨rfl,rfl⟩⟩|exact⟨_,rfl,.inl ⟨rfl,rfl⟩⟩|exact⟨rfl,rfl,_,rfl,.inl ⟨rfl,rfl⟩⟩
 rintro k ak aj hk ⟨h1,h8,h9,eQ,c,h5,gc⟩
 by_cases ay:k<l.length
 .have aJ:((k:Int)<(l.length:Int)):=aa;obtain⟨p,hp⟩:=aL ay;have iS:=jW hp;have w1:=cn (n:=k) aa;have pd:=hd k p hp;have dU:=Gr l drop k;simp only[Pc.ps,dS,kQ] at pd;cases hb:drop k p with
  |true=>rw[hb] at pd;have hs:=AM hp hb;simp only[go_sem,i127_l1,h1,h5,h8,h9,eQ,ay,aJ,iS,Pc.ps,iM,iH,jk,cY pd,w1];refine⟨c,rfl,?_⟩;rw[hs];exact gc.of_eq (by simp only[aN,Nat.reduceEqDiff,if_false])
  |false=>rw[hb] at pd;have hs:=I1 hp hb;simp only[go_sem,i127_l1,h1,h5,h8,h9,eQ,aJ,iS,Pc.ps,iM,iH,jk,cY pd];refine um (site:=8128384192) (id:=8128384192) (bytes:=56) (xs:=[p.ps]) (rd:=[8128384128]) (gc.of_eq (by simp only[aN,Nat.reduceEqDiff,if_false])) (by simp[fF,aN,Pc.ps]) (.inl rfl) (by simp only[cM,dh,ff];omega) fun c' bK hc jr=>?_;simp only[go_sem,h1,h8,h9,eQ,ay,w1];refine⟨c',rfl,?_⟩;rw[hs,ad3];exact hc
 have:k=l.length:=aa;subst this;simp only[go_sem,i127_l1,i127_r2,h5,h9,eQ,eE];exact yN gc
theorem asg(l:List Pc)(hl:l.length<=1000000){f:Nat}{x:PV}(hn:x.norm=x)(jk:S.shared f=false)(drop:Nat->Pc->Bool)(hd:∀(k:Nat) (p:Pc),l[k]?=some p->aI S f [vi k,.agg (p.ps.map .p),.one (.p x)] (rb (drop k p))):
  aI S 127 [.one (.p (.sl (dN l))),.one (.p (.fn f [] [x]))] (.one (aT my 7 (dN (pz l drop)))):=by
 have iM:=hn;refine aZ c127 ?_;simp only[go_sem,i127];refine cV (fun k ak aj=>ak 1=.one (.p (.fn f [] [x]))/\ak 8=.one (.p (.sl (dN l)))/\ak 9=vi l.length/\ak 10=vi k/\ ∃c,ak 5=.one c/\grown 8128384192 my 7 (dN (tK l drop k)) (.one c) aj) 0 l.length (bG _) ?_ ?_
 .simp only[go_sem];first|exact⟨rfl,_,rfl,.inl ⟨rfl,rfl⟩⟩|exact⟨_,rfl,.inl ⟨rfl,rfl⟩⟩|exact⟨rfl,rfl,_,rfl,.inl ⟨rfl,rfl⟩⟩
 rintro k ak aj hk ⟨h1,h8,h9,eQ,c,h5,gc⟩
 by_cases ay:k<l.length
 .have aJ:((k:Int)<(l.length:Int)):=aa;obtain⟨p,hp⟩:=aL ay;have iS:=jW hp;have w1:=cn (n:=k) aa;have pd:=hd k p hp;have dU:=Gr l drop k;simp only[Pc.ps,dS,kQ] at pd;cases hb:drop k p with
  |true=>rw[hb] at pd;have hs:=AM hp hb;simp only[go_sem,i127_l1,h1,h5,h8,h9,eQ,ay,aJ,iS,Pc.ps,iM,jk,cY pd,w1];refine⟨c,rfl,?_⟩;rw[hs];exact gc.of_eq (by simp only[aN,Nat.reduceEqDiff,if_false])
  |false=>rw[hb] at pd;have hs:=I1 hp hb;simp only[go_sem,i127_l1,h1,h5,h8,h9,eQ,aJ,iS,Pc.ps,iM,jk,cY pd];refine um (site:=8128384192) (id:=8128384192) (bytes:=56) (xs:=[p.ps]) (rd:=[8128384128]) (gc.of_eq (by simp only[aN,Nat.reduceEqDiff,if_false])) (by simp[fF,aN,Pc.ps]) (.inl rfl) (by simp only[cM,dh,ff];omega) fun c' bK hc jr=>?_;simp only[go_sem,h1,h8,h9,eQ,ay,w1];refine⟨c',rfl,?_⟩;rw[hs,ad3];exact hc
 have:k=l.length:=aa;subst this;simp only[go_sem,i127_l1,i127_r2,h5,h9,eQ,eE];exact yN gc
theorem Yv(k i j:Nat)(p:Pc):aI S 128 [vi k,.agg (p.ps.map .p),.one (.p (.box [.int .i64 i])),.one (.p (.box [.int .i64 j]))] (rb (decide (k=i)||decide (k=j))):=by
 refine aZ c128 ?_;by_cases h1:k=i
 .have e1:((k:Int)==(i:Int))=true:=by simp[h1]
  rw[show(decide (k=i)||decide (k=j))=true by simp[h1]];simp only[go_sem,i128,Pc.ps,e1]
 have e1:((k:Int)==(i:Int))=false:=by simp;omega
 by_cases h2:k=j
 .have e2:((k:Int)==(j:Int))=true:=by simp[h2]
  rw[show(decide (k=i)||decide (k=j))=true by simp[h2]];simp only[go_sem,i128,Pc.ps,e1,e2]
 have e2:((k:Int)==(j:Int))=false:=by simp;omega
 rw[show(decide (k=i)||decide (k=j))=false by simp[h1,h2]];simp only[go_sem,i128,Pc.ps,e1,e2]
def wG(a b:Int):Int:=if a<b then b else a
def CJ(a b:Int):Int:=if b<a then b else a
def zL(ls:List Let)(av:Nat):Option (List Pc):=
 let p:=(pieces ls).getD av ⟨lh,false⟩
 let q:=(pieces ls).getD ((av+1)%ls.length) ⟨lh,false⟩
 if (p.l.kind==1)&&((q.l.kind==1)&&((p.l.gate==q.l.gate)&&((wG p.l.aD q.l.aD-CJ p.l.aD q.l.aD==1)&& !(decide (aw Let.aE ls<=2)&&decide (0<aw Let.aB ls/2)))))
 then some (kn (pz (pieces ls) fun k _=>decide (k=av)||decide (k=(av+1)%ls.length)) p.l.gate (wG p.l.aD q.l.aD) (-2)) else none
theorem Vh{l:List Pc}{drop:Nat->Pc->Bool}{p:Pc}(h:p∈pz l drop):p∈l:=by
 obtain⟨i,_,hi⟩:=List.mem_filterMap.1 h;unfold MD at hi;cases hl:l[i]? with
 |none=>rw[hl] at hi;cases hi
 |some q=>
  rw[hl] at hi;simp only at hi;split at hi
  .cases hi
  cases hi;exact aU hl
theorem agV(g:dF F ls){av:Nat}(ha:av<ls.length){k b c:Int}{l o:Bool}{sg:Int}:
  aI S 106 [.one (.p (eI F ls)),lZ k av b c l o sg] (kR (zL ls av)):=by
 have hlen:=g.len;have cA:=fW ls;have pe:=BW g ha;have hm:=eH (av+1) (show 0<ls.length by omega);have qO:=apa g;obtain⟨p,hp⟩:=aL (ls:=pieces ls) (k:=av) aa;obtain⟨q,hq⟩:=aL (ls:=pieces ls) (k:=(av+1)%ls.length) aa;obtain⟨p1,p2⟩:=qO p (aU hp);obtain⟨q1,q2⟩:=qO q (aU hq);have gI:=jW hp;have o0:=jW hq;have jk:S.shared 129=true:=ah;have lo:S.lone 6784320320=false:=ah;have fv:=g.cr;unfold zL;simp only[dq,hp,hq,nc];refine aZ c106 ?_;cases c1:(p.l.kind==1) with
 |false=>
  have n1:(p.l.kind !=1)=true:=by simp[bne,c1]
  simp only[go_sem,i106,s126,cJ pe fL,gI,o0,Pc.ps,n1];exact⟨aG,rfl⟩
 |true=>
 have n1:(p.l.kind !=1)=false:=by simp[bne,c1]
 cases c2:(q.l.kind==1) with
 |false=>
  have n2:(q.l.kind !=1)=true:=by simp[bne,c2]
  simp only[go_sem,i106,s126,cJ pe fL,gI,o0,Pc.ps,n1,n2];exact⟨aG,rfl⟩
 |true=>
 have n2:(q.l.kind !=1)=false:=by simp[bne,c2]
 cases c3:(p.l.gate==q.l.gate) with
 |false=>
  have n3:(p.l.gate !=q.l.gate)=true:=by simp[bne,c3]
  simp only[go_sem,i106,s126,cJ pe fL,gI,o0,Pc.ps,n1,n2,n3];exact⟨aG,rfl⟩
 |true=>
 have n3:(p.l.gate !=q.l.gate)=false:=by simp[bne,c3]
 have sI:(if q.l.aD>p.l.aD then q.l.aD else p.l.aD)=wG p.l.aD q.l.aD:=rfl;have mN:(if q.l.aD<p.l.aD then q.l.aD else p.l.aD)=CJ p.l.aD q.l.aD:=rfl;have hmxb: -1000000<=wG p.l.aD q.l.aD/\wG p.l.aD q.l.aD<=1000000:=by unfold wG;split<;>omega
 have hmnb: -1000000<=CJ p.l.aD q.l.aD/\CJ p.l.aD q.l.aD<=1000000:=by unfold CJ;split<;>omega
 have wd:=vE (x:=wG p.l.aD q.l.aD-CJ p.l.aD q.l.aD) aa aa;generalize wG p.l.aD q.l.aD=mx at*;generalize CJ p.l.aD q.l.aD=mn at*;cases c4:(mx-mn==1) with
 |false=>
  have n4:(mx-mn !=1)=true:=by simp[bne,c4]
  simp only[go_sem,i106,s126,cJ pe fL,gI,o0,Pc.ps,n1,n2,n3,sI,mN,wd,n4];exact⟨aG,rfl⟩
 |true=>
 have n4:(mx-mn !=1)=false:=by simp[bne,c4]
 have fm:∀(X:Prop),X->X:=fun _ h=>h;by_cases c5:aw Let.aE ls<=2
 .have n5:((aw Let.aE ls:Int)<=2):=aa;by_cases c6:0<aw Let.aB ls/2
  .have n6:((0:Int)<((aw Let.aB ls/2:Nat):Int)):=aa;rw[decide_eq_true c5,decide_eq_true c6];simp only[go_sem,i106,s126,cJ pe fL,gI,o0,Pc.ps,n1,n2,n3,sI,mN,wd,n4,n5,n6];exact⟨aG,rfl⟩
  have n6:¬((0:Int)<((aw Let.aB ls/2:Nat):Int)):=aa;rw[decide_eq_true c5,decide_eq_false c6];simp only[go_sem,i106,s126,cJ pe fL,gI,o0,Pc.ps,n1,n2,n3,sI,mN,wd,n4,n5,n6,s127];refine⟨aG,?_⟩;refine rB (afM (pieces ls) aa ⟨rfl,rfl⟩ s128 (fun k _=>decide (k=av)||decide (k=(av+1)%ls.length)) (fun k p _=>Yv k av ((av+1)%ls.length) p)) lo (.inr (qA (CU _))) fun cc bK gc hb=>?_;have b8:=hb 6784128896 ae;have b9:=hb 6784128960 ae;simp only[go_sem] at b8 b9;simp only[go_sem,b8,b9,sI,jk];refine aaA (l:=pz (pieces ls) fun k _=>decide (k=av)||decide (k=(av+1)%ls.length)) (mD (Gr _ _ _) aa) ae (fun x hx=>qO x (Vh hx)) gc fun bh uY bj=>?_;simp only[go_sem];exact yO uY
 have n5:¬((aw Let.aE ls:Int)<=2):=aa;rw[decide_eq_false c5];simp only[go_sem,i106,s126,cJ pe fL,gI,o0,Pc.ps,n1,n2,n3,sI,mN,wd,n4,n5,s127];refine⟨aG,?_⟩;refine rB (afM (pieces ls) aa ⟨rfl,rfl⟩ s128 (fun k _=>decide (k=av)||decide (k=(av+1)%ls.length)) (fun k p _=>Yv k av ((av+1)%ls.length) p)) lo (.inr (qA (CU _))) fun cc bK gc hb=>?_;have b8:=hb 6784128896 ae;have b9:=hb 6784128960 ae;simp only[go_sem] at b8 b9;simp only[go_sem,b8,b9,sI,jk];refine aaA (l:=pz (pieces ls) fun k _=>decide (k=av)||decide (k=(av+1)%ls.length)) (mD (Gr _ _ _) aa) ae (fun x hx=>qO x (Vh hx)) gc fun bh uY bj=>?_;simp only[go_sem];exact yO uY
abbrev iP(o:List Int):List (List PV):=o.map fun n=>[PV.int .i64 n]
theorem AL{o:List Int}{k:Nat}{v:Int}(h:o[k]?=some v):(iP o)[k]?=some [.int .i64 v]:=by simp[h]
def nZ(o:List Int)(x:Int)(i:Nat):Bool:=match o[i]? with|some y=>y==x|none=>false
theorem alP(o:List Int)(x:Int)(hl:o.length<=1000000):aI S 175 [.one (.p (.sl (iP o))),vi x] (ri (match (List.range o.length).find? (nZ o x) with|some k=>(k:Int)|none=> -1)):=by
 refine aZ c175 ?_;simp only[go_sem,i175];refine cV (fun k ak aj=>ak 0=.one (.p (.sl (iP o)))/\ak 1=vi x/\ak 7=vi o.length/\ak 8=vi k/\ ∀j,j<k->nZ o x j=false) 0 o.length (bG _) ?_ ?_
 .simp only[go_sem];exact⟨rfl,fun j hj=>absurd hj (qY j)⟩
 rintro k ak aj hk ⟨h0,h1,h7,h8,hn⟩
 by_cases ay:k<o.length
 .have aJ:((k:Int)<(o.length:Int)):=aa;obtain⟨y,hy⟩:=aL ay;have iS:=AL hy;have w1:=cn (n:=k) aa;have qN:nZ o x k=(y==x):=by simp[nZ,hy]
  cases hb:(y==x) with
  |true=>
   have oX:(x==y)=true:=by have:=beq_iff_eq.1 hb;simp[this]
   rw[hb] at qN;have hf:=B0 (p:=nZ o x) ay hn qN;simp only[go_sem,i175_l1,h0,h1,h7,h8,aJ,iS,oX,hf];first|done|exact aG|rfl
  |false=>
   have oX:(x==y)=false:=by
    have:¬y=x:=by simpa using hb
    simp;exact fun h=>this h.symm
   rw[hb] at qN;have Ei:∀j,j<k+1->nZ o x j=false:=fun j hj=>by
    rcases mY.1 hj with h|rfl
    .exact hn j h
    exact qN
   simp only[go_sem,i175_l1,h0,h1,h7,h8,ay,aJ,iS,oX,w1];first|exact Ei|exact⟨aG,Ei⟩
 have:k=o.length:=aa;subst this;have hf:=HZ (p:=nZ o x) hn;simp only[go_sem,i175_l1,i175_r2,h7,h8,eE,hf]
theorem ah4(o:List Int)(x:Int)(hl:o.length<=1000000):aI S 156 [.one (.p (.sl (iP o))),vi x] (rb (o.contains x)):=by
 have pi:=alP o x hl;refine aZ c156 ?_;cases hm:o.contains x with
 |true=>
  have we:x∈o:=by simpa using hm
  obtain⟨k,hk⟩:=jZ we;have dU:=(aW.1 hk).1;cases hf:(List.range o.length).find? (nZ o x) with
  |none=>have:=Ha.1 hf k (gj.2 dU);simp[nZ,hk] at this
  |some j=>rw[hf] at pi;have uw:(0:Int)<=(j:Int):=aa;simp only[go_sem,i156,s175,eJ pi,uw]
 |false=>
  have we:x∉o:=by simpa using hm
  cases hf:(List.range o.length).find? (nZ o x) with
  |some j=>
   have h1:=Kc hf;unfold nZ at h1;cases ho:o[j]? with
   |none=>rw[ho] at h1;cases h1
   |some y=>
    rw[ho] at h1;have:y=x:=by simpa using h1
    subst this;exact absurd (aU ho) we
  |none=>rw[hf] at pi;have uw:¬(0:Int)<= -1:=ae;simp only[go_sem,i156,s175,eJ pi,uw]
def uh(ids:List Int)(_:Nat)(p:Pc):Bool:=(p.l.kind==2)&&ids.contains p.l.id
theorem aiH(ids:List Int)(hl:ids.length<=1000000)(k:Nat)(p:Pc):aI S 155 [vi k,.agg (p.ps.map .p),.one (.p (.box [.sl (iP ids)]))] (rb (uh ids k p)):=by
 have pc:=ah4 ids p.l.id hl;refine aZ c155 ?_;unfold uh;cases h:(p.l.kind==2) with
 |true=>simp only[go_sem,i155,Pc.ps,h,s156,cY pc]
 |false=>simp only[go_sem,i155,Pc.ps,h]
def jT(ids:List Int)(k:Nat)(p:Pc):Pc:={p with l:={p.l with id:=p.l.id-((ids.take k).countP (fun i=>decide (i<p.l.id)):Nat)}}
def rR(ids:List Int)(p:Pc):Pc:=if p.l.kind==2 then jT ids ids.length p else p
abbrev HR(l:List Pc)(ids:List Int):List Pc:=(pz l (uh ids)).map (rR ids)
abbrev tL(ids:List Int)(l:List Pc)(k:Nat):List Pc:=(l.take k).map (rR ids)++l.drop k
theorem ac1{ids:List Int}{l:List Pc}{k:Nat}{p:Pc}(h:l[k]?=some p):(tL ids l k)[k]?=some p:=by have hk:=(aW.1 h).1;rw[tL,Bt (by rw[cM,iu];omega),cM,iu,zH aa,Nat.sub_self,Bu];exact h
theorem amX(ids:List Int)(l:List Pc)(k:Nat):(tL ids l k).length=l.length:=by rw[tL,gh,cM,iu,kO];omega
theorem amY{ids:List Int}{l:List Pc}{k:Nat}{p:Pc}(h:l[k]?=some p):(tL ids l k).set k (rR ids p)=tL ids l (k+1):=by
 have hk:=(aW.1 h).1;have v7:l.drop k=p::l.drop (k+1):=by obtain⟨hh,rfl⟩:=aW.1 h;exact List.drop_eq_getElem_cons hh
 have e1:((l.take k).map (rR ids)).length=k:=by rw[cM,iu];omega
 rw[tL,List.set_append_right _ _ aa,e1,Nat.sub_self,v7,List.set_cons_zero,tL,pP,h];simp
theorem GD(o:List Pc)(k:Nat)(p:Pc):(dN o).set k p.ps=dN (o.set k p):=by simp[List.map_set]
theorem Yz(l:List Pc)(ids:List Int)(hl:l.length<=1000000)(hi:ids.length<=1000)(hb:∀p∈l,-1000000<=p.l.id/\p.l.id<=1000000):
  aI S 135 [.one (.p (.sl (dN l))),.one (.p (.sl (iP ids)))] (.one (aT my 7 (dN (HR l ids)))):=by
 have pw:=asg l hl (f:=155) (x:=.box [.sl (iP ids)]) rfl s155 (uh ids) (fun k p _=>aiH ids aa k p);have lo:S.lone 8640064128=false:=ah;have oY:∀p∈pz l (uh ids),-1000000<=p.l.id/\p.l.id<=1000000:=fun p hp=>hb p (Vh hp);have dU:(pz l (uh ids)).length<=1000000:=mD (Gr _ _ _) hl;refine aZ c135 ?_;simp only[go_sem,i135,s127];refine rB pw lo (.inr (qA (CU _))) fun cc nN gc nU=>?_;have z3:=nU 8640000000 ae;simp only[go_sem] at z3;unfold HR;generalize pz l (uh ids)=m at gc oY dU;rcases gc with ⟨e,e2⟩|⟨aH,gg,e2,hC⟩
 .cases e2;have:m=[]:=by simpa using e
  subst this;have hz:¬(((0:Nat):Int)<((0:Nat):Int)):=aa;simp only[go_sem];refine cV (fun k ak aj=>k=0/\ak 5=.one (.p .nils)/\ak 14=vi ((0:Nat):Int)/\ak 15=vi ((0:Nat):Int)) 0 0 (bN _) ?_ ?_
  .simp only[go_sem];exact rfl
  rintro k ak aj _ ⟨rfl,h5,mg,lG⟩
  simp only[go_sem,i135_l3,i135_r4,h5,mg,lG,hz];rfl
 cases e2;simp only[go_sem];refine cV (fun k ak aj=>ak 3=.one (.aY 8640000000 1 0)/\aj 8640000000=(1,some (.var [.p (.sl (iP ids))]))/\ak 5=.one (.hsl 8640064128 gg 7 0 m.length)/\ak 13=.one (.hsl 8640064128 gg 7 0 m.length)/\ak 14=vi m.length/\ak 15=vi k/\aj 8640064128=(gg,some (.arr my 7 (dN (tL ids m k))))) 0 m.length (bG _) ?_ ?_
 .simp only[go_sem,z3,hC];refine⟨rfl,?_⟩;simp[tL]
 rintro k ak aj hk ⟨h3,bI,h5,sA,mg,lG,bO⟩
 by_cases ay:k<m.length
 .have aJ:((k:Int)<(m.length:Int)):=aa;obtain⟨p,hp⟩:=aL ay;have wm:=jW (ac1 (ids:=ids) hp);have w1:=cn (n:=k) aa;have F8:=amX ids m k;have ia:=amY (ids:=ids) hp;have hlk:k<(tL ids m k).length:=aa;cases c1:(p.l.kind==2) with
  |false=>
   have n1:(p.l.kind !=2)=true:=by simp[bne,c1]
   have Av:tL ids m (k+1)=tL ids m k:=by
    rw[<- ia];have e:rR ids p=p:=by unfold rR;rw[c1];rfl
    rw[e];obtain⟨hh,he⟩:=aW.1 (ac1 (ids:=ids) hp);rw[<- he,List.set_getElem_self]
   simp only[go_sem,i135_l3,i135_r2,h3,bI,h5,sA,mg,lG,bO,ay,aJ,wm,Pc.ps,n1,w1,Av]
  |true=>
   have n1:(p.l.kind !=2)=false:=by simp[bne,c1]
   have hid:=oY p (aU hp);have yS:rR ids p=jT ids ids.length p:=by unfold rR;rw[c1];rfl
   rw[yS] at ia;generalize tL ids m k=q at wm F8 ia hlk bO;have q0:q.set k (jT ids 0 p)=q:=by
    have:jT ids 0 p=p:=by unfold jT;simp
    rw[this];have h1:q[k]?=some p:=by
     have h2:(dN q)[k]?=some p.ps:=wm;rw[fZ] at h2;cases hq:q[k]? with
     |none=>rw[hq] at h2;cases h2
     |some x=>rw[hq] at h2;simp[Pc.ps] at h2;obtain⟨⟨a,b,c,d,e,f⟩,g⟩:=x;obtain⟨⟨a',b',c',d',e',f'⟩,g'⟩:=p;simp at h2;obtain⟨rfl,rfl,rfl,rfl,rfl,rfl,rfl⟩:=h2;rfl
    obtain⟨hh,he⟩:=aW.1 h1;rw[<- he,List.set_getElem_self]
   simp only[go_sem,i135_l3,h3,bI,sA,mg,lG,bO,ay,aJ,wm,Pc.ps,n1];refine cV (fun j cT bh=>cT 3=.one (.aY 8640000000 1 0)/\bh 8640000000=(1,some (.var [.p (.sl (iP ids))]))/\cT 5=.one (.hsl 8640064128 gg 7 0 m.length)/\cT 13=.one (.hsl 8640064128 gg 7 0 m.length)/\cT 14=vi m.length/\cT 15=vi k/\cT 6=vi k/\cT 24=.one (.p (.sl (iP ids)))/\cT 25=vi ids.length/\cT 26=vi j/\
    (∃g7,cT 7=.one (.aY 8640256192 g7 0)/\bh 8640256192=(g7,some (.var (p.ps.map .p))))/\bh 8640064128=(gg,some (.arr my 7 (dN (q.set k (jT ids j p)))))) 0 ids.length (bG _) ?_ ?_
   .simp only[go_sem,h3,bI,h5,sA,mg,lG,bO,q0];first|exact⟨rfl,_,⟨rfl,rfl⟩,rfl⟩|exact⟨rfl,⟨_,rfl,rfl⟩⟩|exact⟨_,rfl,rfl⟩|exact⟨⟨_,rfl,rfl⟩,rfl⟩|exact⟨rfl,⟨_,rfl,rfl⟩,rfl⟩|trace_state
   rintro j cT bh hj ⟨p3,cI,p5,p13,vt,p15,p6,p24,p25,p26,⟨g7,p7,c7⟩,cO⟩
   by_cases sH:j<ids.length
   .have F6:((j:Int)<(ids.length:Int)):=aa;obtain⟨d,hd⟩:=aL sH;have kY:=AL hd;have w2:=cn (n:=j) aa;have sD:(ids.take (j+1)).countP (fun i=>decide (i<p.l.id))=(ids.take j).countP (fun i=>decide (i<p.l.id))+if d<p.l.id then 1 else 0:=by
     rw[pP,hd,vF];simp[wP,List.countP_nil]
    have cq:(ids.take j).countP (fun i=>decide (i<p.l.id))<=j:=mD Nt (by rw[iu];omega);have hqa:(dN (q.set k (jT ids j p)))[k]?=some (jT ids j p).ps:=jW (by rw[pN,if_pos rfl,if_pos aa]);have sN:k<(q.set k (jT ids j p)).length:=by rw[qX];omega
    by_cases hg:d<p.l.id
    .have e1:(jT ids j p).l.id-1=(jT ids (j+1) p).l.id:=by
      unfold jT;simp only;rw[sD,if_pos hg];omega
     have w3:IntKind.i64.wrap ((jT ids j p).l.id-1)=(jT ids (j+1) p).l.id:=by rw[<- e1];exact vE (by unfold jT;simp only;omega) (by unfold jT;simp only;omega)
     have dE:((jT ids (j+1) p).ps)=[.int .i64 (jT ids j p).l.kind,.int .i64 (jT ids j p).l.gate,.int .i64 (jT ids j p).l.aD,.int .i64 (jT ids (j+1) p).l.id,.int .i64 (jT ids j p).l.sign,.bool (jT ids j p).l.over,.bool (jT ids j p).d]:=rfl;have abm:(dN (q.set k (jT ids j p))).set k (jT ids (j+1) p).ps=dN (q.set k (jT ids (j+1) p)):=by rw[GD,List.set_set]
     rw[dE] at abm;generalize jT ids j p=x at*;simp only[go_sem,i135_l1,p3,cI,p5,p13,vt,p15,p6,p24,p25,p26,p7,c7,cO,ay,sH,F6,kY,hg,hqa,Pc.ps,w2,w3,abm];exact⟨g7,rfl,rfl⟩
    have e1:jT ids (j+1) p=jT ids j p:=by unfold jT;rw[sD,if_neg hg];simp
    simp only[go_sem,i135_l1,p3,cI,p5,p13,vt,p15,p6,p24,p25,p26,p7,c7,cO,sH,F6,kY,hg,Pc.ps,w2,e1];exact⟨g7,rfl,rfl⟩
   have:j=ids.length:=aa;subst this;rw[ia] at cO;simp only[go_sem,i135_l1,i135_r2,p3,cI,p5,p13,vt,p15,p26,p25,cO,eE,w1,ay]
 have:k=m.length:=aa;subst this;have e1:tL ids m m.length=m.map (rR ids):=by rw[tL,kS,Ka,kN]
 rw[e1] at bO;simp only[go_sem,i135_l3,i135_r4,h5,mg,lG,eE];have ve:m.map (rR ids)≠[]:=by simpa using aH
 exact yN (.inr ⟨by simpa using ve,gg,af,bO⟩)
theorem dF.ids(g:dF F ls):Va ls/\GC ls:=by have hc:=g.ok.cr;unfold lV at hc;simp only[cX] at hc;exact GX.1 fun k hk=>ko.1 hc.1.2 k (gj.2 hk)
theorem aog{p:Pc}(h:p∈pieces ls):∃(i:Nat) (l:Let),ls[i]?=some l/\p=⟨l,gV ls i⟩:=by
 obtain⟨i,hi⟩:=jZ h;have xH:i<ls.length:=by rw[<- fW];exact(aW.1 hi).1
 obtain⟨l,hl⟩:=aL xH;rw[rV hl] at hi;cases hi;exact⟨i,l,hl,rfl⟩
theorem abr(g:dF F ls):∀p∈pieces ls,-1000000<=p.l.id/\p.l.id<=1000000:=by
 intro p hp;obtain⟨i,l,hl,rfl⟩:=aog hp;have hm:=aU hl;rcases g.ok.kinds l hm with h|h
 .have:=(sR (f:=(F:Int)) h).1 (g.bad l hm);simp only[this.1.1.2];omega
 have h1:=g.ids.1 l hm h;have:=g.cr;simp only;omega
def AO(ls:List Let)(av:Nat):Option (List Pc):=
 let p:=(pieces ls).getD av ⟨lh,false⟩
 let q:=(pieces ls).getD ((av+1)%ls.length) ⟨lh,false⟩
 if (p.l.kind==2)&&((q.l.kind==2)&&(p.l.id==q.l.id)) then some (HR (pieces ls) [p.l.id]) else none
theorem amW(g:dF F ls){av:Nat}(ha:av<ls.length){k b c:Int}{l o:Bool}{sg:Int}:
  aI S 109 [.one (.p (eI F ls)),lZ k av b c l o sg] (kR (AO ls av)):=by
 have hlen:=g.len;have cA:=fW ls;have pe:=BW g ha;have hm:=eH (av+1) (show 0<ls.length by omega);obtain⟨p,hp⟩:=aL (ls:=pieces ls) (k:=av) aa;obtain⟨q,hq⟩:=aL (ls:=pieces ls) (k:=(av+1)%ls.length) aa;have gI:=jW hp;have o0:=jW hq;have lo:S.lone 6976256896=false:=ah;unfold AO;simp only[dq,hp,hq,nc];refine aZ c109 ?_;cases c1:(p.l.kind==2) with
 |false=>
  have n1:(p.l.kind !=2)=true:=by simp[bne,c1]
  simp only[go_sem,i109,s126,cJ pe fL,gI,Pc.ps,n1];exact⟨aG,rfl⟩
 |true=>
 have n1:(p.l.kind !=2)=false:=by simp[bne,c1]
 cases c2:(q.l.kind==2) with
 |false=>
  have n2:(q.l.kind !=2)=true:=by simp[bne,c2]
  simp only[go_sem,i109,s126,cJ pe fL,gI,o0,Pc.ps,n1,n2];exact⟨aG,rfl⟩
 |true=>
 have n2:(q.l.kind !=2)=false:=by simp[bne,c2]
 cases c3:(p.l.id==q.l.id) with
 |false=>
  have n3:(p.l.id !=q.l.id)=true:=by simp[bne,c3]
  simp only[go_sem,i109,s126,cJ pe fL,gI,o0,Pc.ps,n1,n2,n3];exact⟨aG,rfl⟩
 |true=>
 have n3:(p.l.id !=q.l.id)=false:=by simp[bne,c3]
 have pd:=Yz (pieces ls) [p.l.id] aa af (abr g);simp only[go_sem,i109,s126,cJ pe fL,gI,o0,Pc.ps,n1,n2,n3,s135];refine⟨aG,?_⟩;refine Sb pd lo (.inr (qA (CU _))) fun cc bK w gc hb hw=>?_;simp only[go_sem];refine⟨?_,yO gc⟩;rcases hw with rfl|rfl<;>kernel_rfl
abbrev pA(ls:List Let)(i:Nat):Pc:=(pieces ls).getD i ⟨lh,false⟩
theorem kh{i:Nat}{p:Pc}(h:(pieces ls)[i]?=some p):pA ls i=p:=by simp[pA,dq,h]
abbrev nx(ls:List Let)(e:Nat):Nat:=(e+1)%ls.length
def kV(ls:List Let)(e:Nat)(ov:Bool):Bool:=((pA ls e).l.kind==2)&&(((pA ls (nx ls e)).l.kind==2)&&(((pA ls e).l.over==ov)&&((pA ls (nx ls e)).l.over==ov)))
theorem HB(g:dF F ls){e:Nat}(he:e<ls.length)(ov:Bool):aI S 137 [.one (.p (eI F ls)),vi e,vb ov] (rb (kV ls e ov)):=by
 have hlen:=g.len;have cA:=fW ls;have pe:=BW g he;have hm:=eH (e+1) (show 0<ls.length by omega);obtain⟨p,hp⟩:=aL (ls:=pieces ls) (k:=e) aa;obtain⟨q,hq⟩:=aL (ls:=pieces ls) (k:=(e+1)%ls.length) aa;have gI:=jW hp;have o0:=jW hq;unfold kV;rw[kh hp,kh hq];refine aZ c137 ?_;cases c1:(p.l.kind==2) with
 |false=>simp only[go_sem,i137,s126,cJ pe fL,gI,Pc.ps,c1]
 |true=>
 cases c2:(q.l.kind==2) with
 |false=>simp only[go_sem,i137,s126,cJ pe fL,gI,o0,Pc.ps,c1,c2]
 |true=>
 cases c3:(p.l.over==ov) with
 |false=>simp only[go_sem,i137,s126,cJ pe fL,gI,o0,Pc.ps,c1,c2,c3]
 |true=>
 cases c4:(q.l.over==ov) with
 |false=>simp only[go_sem,i137,s126,cJ pe fL,gI,o0,Pc.ps,c1,c2,c3,c4]
 |true=>simp only[go_sem,i137,s126,cJ pe fL,gI,o0,Pc.ps,c1,c2,c3,c4]
def ki(ls:List Let)(e:Nat):Nat×Nat×Bool:=if (pA ls e).l.kind==2 then (nx ls e,e,(pA ls (nx ls e)).l.kind==1) else (e,nx ls e,((pA ls e).l.kind==1)&&((pA ls (nx ls e)).l.kind==2))
abbrev aeB(a b c:PV):RV:=.tup [.one (.p a),.one (.p b),.one (.p c)]
theorem xQ{aj:aA}{s:Nat}{a b c:PV}{l:Bool}:land aj [] s ((aeB a b c).gK l)=some (.tup [.one (.p a),.one (.p b),.one (.p c)],[]):=by cases l<;>rfl
theorem ad2(g:dF F ls){e:Nat}(he:e<ls.length):aI S 133 [.one (.p (eI F ls)),vi e] (aeB (.int .i64 ((ki ls e).1:Nat)) (.int .i64 ((ki ls e).2.1:Nat)) (.bool (ki ls e).2.2)):=by
 have hlen:=g.len;have cA:=fW ls;have pe:=BW g he;have hm:=eH (e+1) (show 0<ls.length by omega);obtain⟨p,hp⟩:=aL (ls:=pieces ls) (k:=e) aa;obtain⟨q,hq⟩:=aL (ls:=pieces ls) (k:=(e+1)%ls.length) aa;have gI:=jW hp;have o0:=jW hq;unfold ki;rw[kh hp,kh hq];refine aZ c133 ?_;cases c1:(p.l.kind==2) with
 |true=>
  have e1:p.l.kind=2:=by simpa using c1
  rw[if_pos rfl];cases c2:(q.l.kind==1) with
  |true=>simp only[go_sem,i133,s126,cJ pe fL,gI,o0,Pc.ps,c1,c2];exact⟨aG,rfl⟩
  |false=>simp only[go_sem,i133,s126,cJ pe fL,gI,o0,Pc.ps,c1,c2];exact⟨aG,rfl⟩
 |false=>
  rw[if_neg ae];cases c2:(p.l.kind==1) with
  |true=>
   cases c3:(q.l.kind==2) with
   |true=>simp only[go_sem,i133,s126,cJ pe fL,gI,o0,Pc.ps,c1,c2,c3];exact⟨aG,rfl⟩
   |false=>simp only[go_sem,i133,s126,cJ pe fL,gI,o0,Pc.ps,c1,c2,c3];exact⟨aG,rfl⟩
  |false=>simp only[go_sem,i133,s126,cJ pe fL,gI,Pc.ps,c1,c2];exact⟨aG,rfl⟩
def A4(o:List Nat)(pr:Nat->Bool)(i:Nat):Bool:=match o[i]? with|some v=>pr v|none=>false
theorem alO(o:List Nat)(hl:o.length<=1000000){f:Nat}{x y z:PV}(hn:x.norm=x/\y.norm=y/\z.norm=z)(jk:S.shared f=false)(pr:Nat->Bool)(hd:∀v∈o,aI S f [vi (v:Nat),.one (.p x),.one (.p y),.one (.p z)] (rb (pr v))):
  aI S 174 [.one (.p (.sl (nP o))),.one (.p (.fn f [] [x,y,z]))] (ri (match (List.range o.length).find? (A4 o pr) with|some k=>(k:Int)|none=> -1)):=by
 obtain⟨iM,iH,ve⟩:=hn;refine aZ c174 ?_;simp only[go_sem,i174];refine cV (fun k ak aj=>ak 0=.one (.p (.sl (nP o)))/\ak 1=.one (.p (.fn f [] [x,y,z]))/\ak 7=vi o.length/\ak 8=vi k/\ ∀j,j<k->A4 o pr j=false) 0 o.length (bG _) ?_ ?_
 .simp only[go_sem];exact⟨rfl,fun j hj=>absurd hj (qY j)⟩
 rintro k ak aj hk ⟨h0,h1,h7,h8,IG⟩
 by_cases ay:k<o.length
 .have aJ:((k:Int)<(o.length:Int)):=aa;obtain⟨v,hv⟩:=aL ay;have iS:=j9 hv;have w1:=cn (n:=k) aa;have pd:=hd v (aU hv);have qN:A4 o pr k=pr v:=by simp[A4,hv]
  cases hb:pr v with
  |true=>rw[hb] at pd qN;have hf:=B0 (p:=A4 o pr) ay IG qN;simp only[go_sem,i174_l1,h0,h1,h7,h8,aJ,iS,jk,iM,iH,ve,cY pd,hf]
  |false=>
   rw[hb] at pd qN;simp only[go_sem,i174_l1,h0,h1,h7,h8,ay,aJ,iS,jk,iM,iH,ve,cY pd,w1];intro j hj;rcases mY.1 hj with h|rfl
   .exact IG j h
   exact qN
 have:k=o.length:=aa;subst this;have hf:=HZ (p:=A4 o pr) IG;simp only[go_sem,i174_l1,i174_r2,h7,h8,eE,hf]
theorem ah3(o:List Nat)(hl:o.length<=1000000){f:Nat}{x y z:PV}(hn:x.norm=x/\y.norm=y/\z.norm=z)(jk:S.shared f=false)(pr:Nat->Bool)(hd:∀v∈o,aI S f [vi (v:Nat),.one (.p x),.one (.p y),.one (.p z)] (rb (pr v))):
  aI S 153 [.one (.p (.sl (nP o))),.one (.p (.fn f [] [x,y,z]))] (rb (o.any pr)):=by
 have pi:=alO o hl hn jk pr hd;obtain⟨iM,iH,ve⟩:=hn;refine aZ c153 ?_;cases ha:o.any pr with
 |true=>
  obtain⟨v,hv,hp⟩:=List.any_eq_true.1 ha;obtain⟨k,hk⟩:=jZ hv;have dU:=(aW.1 hk).1;cases hf:(List.range o.length).find? (A4 o pr) with
  |none=>have:=Ha.1 hf k (gj.2 dU);simp[A4,hk,hp] at this
  |some j=>rw[hf] at pi;have uw:(0:Int)<=(j:Int):=aa;simp only[go_sem,i153,s174,eJ pi,uw]
 |false=>
  cases hf:(List.range o.length).find? (A4 o pr) with
  |some j=>
   have h1:=Kc hf;unfold A4 at h1;cases ho:o[j]? with
   |none=>rw[ho] at h1;cases h1
   |some v=>rw[ho] at h1;have:=G0.1 ha v (aU ho);exact absurd h1 this
  |none=>rw[hf] at pi;have uw:¬(0:Int)<= -1:=ae;simp only[go_sem,i153,s174,eJ pi,uw]
def yH(f:Fc)(e:Nat):Nat:=f.dp.countP fun d=>d/2==e
def DA(f:Fc)(pl:Nat)(edges:List Nat):Bool:=(f.dp.length==edges.length)&&((f.places.length==pl)&&edges.all fun e=>yH f e==1)
theorem Yd(g:dF F ls){j:Nat}{f:Fc}(hf:(eV F ls)[j]?=some f)(edges:List Nat)(he:edges.length<=1000)(pl:Nat):
  aI S 154 [vi j,.one (.p (.box [eI F ls])),.one (.p (.box [.sl (nP edges)])),.one (.p (.box [.int .i64 pl]))] (rb (DA f pl edges)):=by
 have hlen:=g.len;have gZ:(aF ls).length<=ls.length:=vL ls ls.length;have hdl:=Uc g.ok (aU hf);have iR:nD ls<=1600:=by unfold nD;omega
 have F0:=Ud hf;have xJ:=(aW.1 hf).1;refine aZ c154 ?_;unfold DA;cases c1:(f.dp.length==edges.length) with
 |false=>
  have n1:(((f.dp.length:Nat):Int)!=((edges.length:Nat):Int))=true:=by
   have:¬f.dp.length=edges.length:=by simpa using c1
   simp[bne];omega
  simp only[go_sem,i154,F0,Fc.ps,n1]
 |true=>
 have n1:(((f.dp.length:Nat):Int)!=((edges.length:Nat):Int))=false:=by
  have:f.dp.length=edges.length:=by simpa using c1
  simp[bne,this]
 cases c2:(f.places.length==pl) with
 |false=>
  have n2:(((f.places.length:Nat):Int)!=((pl:Nat):Int))=true:=by
   have:¬f.places.length=pl:=by simpa using c2
   simp[bne];omega
  simp only[go_sem,i154,F0,Fc.ps,n1,n2]
 |true=>
 have n2:(((f.places.length:Nat):Int)!=((pl:Nat):Int))=false:=by
  have:f.places.length=pl:=by simpa using c2
  simp[bne,this]
 simp only[go_sem,i154,F0,Fc.ps,n1,n2];refine cV (fun k ak aj=>ak 6=.one (.aY 9856064448 1 0)/\aj 9856064448=(1,some (.var (f.ps.map .p)))/\ak 32=.one (.p (.sl (nP edges)))/\ak 33=vi edges.length/\ak 34=vi k/\ ∀i e,i<k->edges[i]?=some e->(yH f e==1)=true) 0 edges.length (bG _) ?_ ?_
 .simp only[go_sem,Fc.ps];first|exact⟨rfl,fun i e hi=>absurd hi (qY i)⟩|exact⟨rfl,rfl,fun i e hi=>absurd hi (qY i)⟩|exact fun i e hi=>absurd hi (qY i)
 rintro k ak aj hk ⟨h6,b6,h32,DN,FQ,au⟩
 simp only[Fc.ps,dS,kQ] at b6;by_cases ay:k<edges.length
 .have aJ:((k:Int)<(edges.length:Int)):=aa;obtain⟨e,hek⟩:=aL ay;have LV:=j9 hek;have w1:=cn (n:=k) aa;simp only[go_sem,i154_l4,h6,b6,h32,DN,FQ,aJ,LV];refine cV (fun i cT bh=>cT 6=.one (.aY 9856064448 1 0)/\bh 9856064448=(1,some (.var (f.ps.map .p)))/\cT 32=.one (.p (.sl (nP edges)))/\cT 33=vi edges.length/\cT 34=vi k/\cT 8=vi e/\cT 9=vi ((f.dp.take i).countP fun d=>d/2==e:Nat)/\cT 39=.one (.p (.sl (nP f.dp)))/\cT 40=vi f.dp.length/\cT 41=vi i) 0 f.dp.length (bG _) ?_ ?_
  .simp only[go_sem,h6,b6,h32,DN,FQ,Fc.ps];first|exact⟨rfl,rfl⟩|exact rfl|exact⟨rfl,rfl,rfl⟩
  rintro i cT bh hi ⟨p6,d6,p32,p33,EJ,p8,p9,p39,p40,p41⟩
  by_cases uy:i<f.dp.length
  .have abc:((i:Int)<(f.dp.length:Int)):=aa;obtain⟨d,hd⟩:=aL uy;have kY:=j9 hd;have w2:=cn (n:=i) aa;have wq:=wrap_small (n:=d/2) (by have:=Ub (aU hf) d (aU hd);omega);have cq:(f.dp.take i).countP (fun d=>d/2==e)<=i:=mD Nt (by rw[iu];omega);have w3:=cn (n:=(f.dp.take i).countP fun d=>d/2==e) aa;have sD:(f.dp.take (i+1)).countP (fun d=>d/2==e)=(f.dp.take i).countP (fun d=>d/2==e)+if (d/2==e)=true then 1 else 0:=by
    rw[pP,hd,vF];simp[wP,List.countP_nil]
   cases u5:(d/2==e) with
   |true=>
    have n3:(((d/2:Nat):Int)==(e:Int))=true:=by
     have:d/2=e:=by simpa using u5
     simp;omega
    rw[u5,if_pos rfl] at sD;simp only[go_sem,i154_l1,p6,p32,p33,EJ,p8,p9,p39,p40,p41,uy,abc,kY,ez,fE,wq,n3,w2,w3,sD];first|exact d6|exact⟨d6,rfl⟩
   |false=>
    have n3:(((d/2:Nat):Int)==(e:Int))=false:=by
     have:¬d/2=e:=by simpa using u5
     simp;omega
    rw[u5,if_neg ae,yl] at sD;simp only[go_sem,i154_l1,p6,p32,p33,EJ,p8,p9,p39,p40,p41,uy,abc,kY,ez,fE,wq,n3,w2,sD];first|exact d6|exact⟨d6,rfl⟩
  have:i=f.dp.length:=aa;subst this;rw[kS] at p9;have hdc:(f.dp.countP fun d=>d/2==e)=yH f e:=rfl;rw[hdc] at p9;cases hq:(yH f e==1) with
  |true=>
   have n4:(((yH f e:Nat):Int)!=1)=false:=by
    have:yH f e=1:=by simpa using hq
    simp[bne,this]
   simp only[go_sem,i154_l1,i154_r2,i154_r3,p6,p32,p33,EJ,p9,p40,p41,eE,n4,w1,ay];refine⟨d6,fun i2 e2 hi2 FX=>?_⟩;rcases mY.1 hi2 with h|rfl
   .exact au i2 e2 h FX
   rw[hek] at FX;cases FX;exact hq
  |false=>
   have n4:(((yH f e:Nat):Int)!=1)=true:=by
    have:¬yH f e=1:=by simpa using hq
    simp[bne];omega
   have dy:(edges.all fun e=>yH f e==1)=false:=List.all_eq_false.2 ⟨e,aU hek,by rw[hq];decide⟩;simp only[go_sem,i154_l1,i154_r2,p9,p40,p41,eE,n4,dy]
 have:k=edges.length:=aa;subst this;have dy:(edges.all fun e=>yH f e==1)=true:=ko.2 fun e he=>by obtain⟨i,hi⟩:=jZ he;exact au i e (aW.1 hi).1 hi
 simp only[go_sem,i154_l4,i154_r5,DN,FQ,eE,dy]
def tm(F:Nat)(ls:List Let)(pl:Nat)(edges:List Nat)(e0:Nat):Bool:=DA (tv F ls (2*e0)) pl edges||DA (tv F ls (2*e0+1)) pl edges
theorem RW(g:dF F ls)(edges:List Nat)(dC:edges.length<=1000){e0:Nat}(h0:edges[0]?=some e0)(he0:e0<ls.length)(pl:Nat):
  aI S 134 [.one (.p (eI F ls)),vi pl,.one (.p (.sl (nP edges)))] (rb (tm F ls pl edges e0)):=by
 have hlen:=g.len;obtain⟨j0,a1,a2,a3⟩:=Ua g (d:=2*e0) aa;obtain⟨j1,b1,b2,b3⟩:=Ua g (d:=2*e0+1) aa;have g0:(eV F ls).getD j0 MQ=tv F ls (2*e0):=by rw[dq,a2];rfl
 have g1:(eV F ls).getD j1 MQ=tv F ls (2*e0+1):=by rw[dq,b2];rfl
 have pc:=ah3 [j0,j1] af (f:=154) (x:=.box [eI F ls]) (y:=.box [.sl (nP edges)]) (z:=.box [.int .i64 pl]) ⟨rfl,rfl,rfl⟩ s154 (fun j=>DA ((eV F ls).getD j MQ) pl edges) (fun v hv=>by
  simp only[cP,jz,or_false] at hv;rcases hv with rfl|rfl
  .rw[g0];exact Yd g a2 edges dC pl
  rw[g1];exact Yd g b2 edges dC pl)
 have ako:([j0,j1].any fun j=>DA ((eV F ls).getD j MQ) pl edges)=tm F ls pl edges e0:=by simp only[List.any_cons,List.any_nil,Bool.or_false,g0,g1];rfl
 rw[ako] at pc;simp only[dS,kQ] at pc;have ja:=j9 a1;have jb:=j9 b1;have he:=j9 h0;have m2:=tX (a:=e0) aa;have m3:=cn (n:=2*e0) aa;have rJ:=Vq F ls;have l1:2*e0<(ow F ls).length:=aa;have l2:2*e0+1<(ow F ls).length:=aa;have ju:0<edges.length:=(aW.1 h0).1;have hpos':(0:Int)<(edges.length:Int):=aa;refine aZ c134 ?_;simp only[go_sem,i134,he,m2,m3,ja,jb,s153,nk pc];exact aG
def ir(ls:List Let)(l:List Pc)(e:Nat):List Pc:=(l.set e (l.getD (nx ls e) ⟨lh,false⟩)).set (nx ls e) (l.getD e ⟨lh,false⟩)
theorem GP(ls:List Let)(l:List Pc)(e:Nat):(ir ls l e).length=l.length:=by simp[ir]
def iW(ls:List Let)(l:List Pc)(es:List Nat):List Pc:=es.foldl (ir ls) l
theorem Bh(ls:List Let):∀(es:List Nat) (l:List Pc),(iW ls l es).length=l.length:=by
 intro es
 induction es with
 |nil=>intro l;rfl
 |cons e es ih=>intro l;show(iW ls (ir ls l e) es).length=_;rw[ih,GP]
theorem arq(g:dF F ls)(es:List Nat)(mL:∀e∈es,e<ls.length)(dC:es.length<=1000):
  aI S 141 [.one (.p (eI F ls)),.one (.p (.sl (nP es)))] (.one (aT my 7 (dN (iW ls (pieces ls) es)))):=by
 have hlen:=g.len;have cA:=fW ls;have aH:pieces ls≠[]:=iX.1 (by have:=iX.2 g.ne;omega);have pcl:=XU aH aa;have lo:S.lone 9024064256=false:=ah;refine aZ c141 ?_;simp only[go_sem,i141,s131];refine rB pcl lo (.inl rfl) fun cc nN gc nU=>?_;rcases gc with ⟨e,_⟩|⟨_,gg,e,hC⟩
 .exact absurd (by simpa using e) aH
 cases e;rw[cM,cA];simp only[go_sem];refine cV (fun k ak aj=>ak 0=.one (.p (eI F ls))/\ak 5=.one (.hsl 9024064256 gg 7 0 ls.length)/\ak 15=.one (.p (.sl (nP es)))/\ak 16=vi es.length/\ak 17=vi k/\aj 9024064256=(gg,some (.arr my 7 (dN (iW ls (pieces ls) (es.take k)))))) 0 es.length (bG _) ?_ ?_
 .simp only[go_sem,hC];first|exact⟨rfl,rfl⟩|rfl|exact⟨rfl,rfl,rfl⟩
 rintro k ak aj hk ⟨h0,h5,lG,oQ,jg,bO⟩
 by_cases ay:k<es.length
 .have aJ:((k:Int)<(es.length:Int)):=aa;obtain⟨e,he⟩:=aL ay;have LV:=j9 he;have LS:=mL e (aU he);have pe:=BW g LS;have w1:=cn (n:=k) aa;have mq:iW ls (pieces ls) (es.take (k+1))=ir ls (iW ls (pieces ls) (es.take k)) e:=by
   unfold iW;rw[pP,he,Kd];rfl
  have oZ:(iW ls (pieces ls) (es.take k)).length=ls.length:=by rw[Bh,cA]
  have hm:=eH (e+1) (show 0<ls.length by omega);generalize iW ls (pieces ls) (es.take k)=m at bO mq oZ;obtain⟨p,hp⟩:=aL (ls:=m) (k:=e) aa;obtain⟨q,hq⟩:=aL (ls:=m) (k:=(e+1)%ls.length) aa;have iS:=jW hp;have Gd:=jW hq;have l1:e<m.length:=aa;have l2:(e+1)%ls.length<m.length:=aa;have s1:=GD m e q;have yS:(m.set e q).set ((e+1)%ls.length) p=ir ls m e:=by unfold ir nx;rw[dq,hq,dq,hp];rfl
  have s2:=GD (m.set e q) ((e+1)%ls.length) p;rw[yS,<- mq] at s2;simp only[Pc.ps] at s1 s2;obtain⟨p',jh⟩:=aL (ls:=m.set e q) (k:=e) (by rw[qX];omega);obtain⟨q',Gc⟩:=aL (ls:=m.set e q) (k:=(e+1)%ls.length) (by rw[qX];omega);have UW:=jW Gc;simp only[go_sem,i141_l1,h0,h5,lG,oQ,jg,bO,ay,aJ,LV,s126,cJ pe fL,LS,hm,iS,Gd,UW,s1,s2,Pc.ps,w1];exact aG
 have:k=es.length:=aa;subst this;rw[kS] at bO;simp only[go_sem,i141_l1,i141_r2,h5,oQ,jg,eE];have h1:(iW ls (pieces ls) es).length=ls.length:=by rw[Bh,cA]
 refine yN (.inr ⟨?_,gg,by rw[cM,h1],bO⟩);intro h2;have:=congrArg List.length h2;rw[cM,h1,ff] at this;have h3:=iX.2 g.ne;omega
def jY(l:List Pc)(i:Nat)(r:Int):List Pc:=l.set i {(l.getD i ⟨lh,false⟩) with l:={(l.getD i ⟨lh,false⟩).l with aD:=r}}
theorem Bd(l:List Pc)(i:Nat)(r:Int):(jY l i r).length=l.length:=by simp[jY]
def zN(F:Nat)(ls:List Let)(av bv:Nat):Option (List Pc):=
 if (ki ls av).2.2&&((ki ls bv).2.2&&(!((ki ls av).2.1==(ki ls bv).2.1)&&(((pA ls (ki ls av).2.1).l.id==(pA ls (ki ls bv).2.1).l.id)&&tm F ls 1 [av,bv] av)))
 then some (iW ls (jY (jY (pieces ls) (ki ls av).1 (pA ls (ki ls bv).1).l.aD) (ki ls bv).1 (pA ls (ki ls av).1).l.aD) [av,bv]) else none
theorem aek{e:Nat}(he:e<ls.length):(ki ls e).1<ls.length/\(ki ls e).2.1<ls.length:=by
 have hm:=eH (e+1) (show 0<ls.length by omega);unfold ki nx;split
 .exact⟨hm,he⟩
 exact⟨he,hm⟩
theorem ag0(g:dF F ls){av bv:Nat}(ha:av<ls.length)(hb:bv<ls.length){k c:Int}{l o:Bool}{sg:Int}:
  aI S 108 [.one (.p (eI F ls)),lZ k av bv c l o sg] (kR (zN F ls av bv)):=by
 have hlen:=g.len;have cA:=fW ls;have pa:=ad2 g ha;have pb:=ad2 g hb;have pc:=RW g [av,bv] af (e0:=av) rfl ha 1;obtain⟨p1,v1⟩:=aek ha;obtain⟨q1,w1⟩:=aek hb;unfold zN;generalize ki ls av=x at*;generalize ki ls bv=y at*;obtain⟨pi,JR,one⟩:=x;obtain⟨qi,wi,two⟩:=y;simp only at pa pb p1 v1 q1 w1 ⊢;simp only[dS,kQ] at pc;have c1:((1:Nat):Int)=1:=rfl;rw[c1] at pc;obtain⟨P,hP⟩:=aL (ls:=pieces ls) (k:=pi) aa;obtain⟨Q,hQ⟩:=aL (ls:=pieces ls) (k:=qi) aa;obtain⟨V,hV⟩:=aL (ls:=pieces ls) (k:=JR) aa
 obtain⟨W,hW⟩:=aL (ls:=pieces ls) (k:=wi) aa;rw[kh hP,kh hQ,kh hV,kh hW];have hPp:=jW hP;have hQp:=jW hQ;have hVp:=jW hV;have hWp:=jW hW;have aH:pieces ls≠[]:=iX.1 aa;have pcl:=XU aH aa;have lo:S.lone 6912384256=false:=ah;refine aZ c108 ?_;cases one with
 |false=>simp only[go_sem,i108,s133,cJ pa xQ,cJ pb xQ];exact⟨aG,rfl⟩
 |true=>
 cases two with
 |false=>simp only[go_sem,i108,s133,cJ pa xQ,cJ pb xQ];exact⟨aG,rfl⟩
 |true=>
 cases c2:(JR==wi) with
 |true=>
  have n2:((JR:Int)==(wi:Int))=true:=by simp[show JR=wi by simpa using c2]
  simp only[go_sem,i108,s133,cJ pa xQ,cJ pb xQ,n2];exact⟨aG,rfl⟩
 |false=>
 have n2:((JR:Int)==(wi:Int))=false:=by
  have:¬JR=wi:=by simpa using c2
  simp;omega
 cases c3:(V.l.id==W.l.id) with
 |false=>
  have n3:(V.l.id !=W.l.id)=true:=by simp[bne,c3]
  simp only[go_sem,i108,s133,cJ pa xQ,cJ pb xQ,n2,hVp,hWp,Pc.ps,n3];exact⟨aG,rfl⟩
 |true=>
 have n3:(V.l.id !=W.l.id)=false:=by simp[bne,c3]
 cases c4:tm F ls 1 [av,bv] av with
 |false=>rw[c4] at pc;simp only[go_sem,i108,s133,cJ pa xQ,cJ pb xQ,n2,hVp,hWp,Pc.ps,n3,s134,nk pc];exact⟨aG,rfl⟩
 |true=>
 rw[c4] at pc;simp only[go_sem,i108,s133,cJ pa xQ,cJ pb xQ,n2,hVp,hWp,hPp,hQp,Pc.ps,n3,s134,nk pc,s131];refine⟨aG,aG,?_⟩;refine rB pcl lo (.inl rfl) fun cc nN gc nU=>?_;have b3:=nU 6912000000 ae;simp only[go_sem] at b3;rcases gc with ⟨e,_⟩|⟨_,gg,e,hC⟩
 .exact absurd (by simpa using e) aH
 cases e;rw[cM,cA];have s1:=GD (pieces ls) pi {P with l:={P.l with aD:=Q.l.aD}};have ji:(pieces ls).set pi {P with l:={P.l with aD:=Q.l.aD}}=jY (pieces ls) pi Q.l.aD:=by unfold jY;rw[dq,hP];rfl
 rw[ji] at s1;have jQ:(jY (pieces ls) pi Q.l.aD).length=ls.length:=by rw[Bd,cA]
 obtain⟨Q',hQ'⟩:=aL (ls:=jY (pieces ls) pi Q.l.aD) (k:=qi) aa;have akl:=jW hQ';have s2:=GD (jY (pieces ls) pi Q.l.aD) qi {Q' with l:={Q'.l with aD:=P.l.aD}};have eG:(jY (pieces ls) pi Q.l.aD).set qi {Q' with l:={Q'.l with aD:=P.l.aD}}=jY (jY (pieces ls) pi Q.l.aD) qi P.l.aD:=by rw[jY.eq_def (jY (pieces ls) pi Q.l.aD),dq,hQ'];rfl
 rw[eG] at s2;simp only[Pc.ps] at s1 s2;have uz:(jY (jY (pieces ls) pi Q.l.aD) qi P.l.aD).length=ls.length:=by rw[Bd,jQ]
 simp only[go_sem,b3,hC,hPp,akl,Pc.ps,s1,s2,p1,q1];generalize jY (jY (pieces ls) pi Q.l.aD) qi P.l.aD=M at uz ⊢;obtain⟨es,OL⟩:∃es,es=[av,bv]:=⟨_,rfl⟩;have OI:es.length=2:=by rw[OL];rfl
 have mL:∀e∈es,e<ls.length:=fun e he=>by rw[OL] at he;simp only[cP,jz,or_false] at he;rcases he with rfl|rfl<;>assumption
 refine cV (fun k ak aj=>ak 0=.one (.p (eI F ls))/\ak 14=.one (.hsl 6912384256 gg 7 0 ls.length)/\(∃ge,ak 116=.one (.hsl 6912512256 ge 1 0 2)/\aj 6912512256=(ge,some (.arr 3 1 (nP es))))/\ak 117=vi ((2:Nat):Int)/\ak 118=vi k/\aj 6912384256=(gg,some (.arr my 7 (dN (iW ls M (es.take k)))))) 0 2 (bG _) ?_ ?_
 .simp only[go_sem];exact⟨⟨_,rfl,by rw[OL];rfl⟩,rfl,rfl⟩
 rintro k ak aj hk ⟨h0,mg,⟨ge,DM,bE⟩,aaJ,aaK,bO⟩
 by_cases ay:k<2
 .have aJ:((k:Int)<((2:Nat):Int)):=aa;have OS:k<es.length:=aa;obtain⟨e,he⟩:=aL OS;have LV:=j9 he;have LS:=mL e (aU he);have pe:=BW g LS;have w1:=cn (n:=k) aa;have mq:iW ls M (es.take (k+1))=ir ls (iW ls M (es.take k)) e:=by
   unfold iW;rw[pP,he,Kd];rfl
  have oZ:(iW ls M (es.take k)).length=ls.length:=by rw[Bh,uz]
  have hm:=eH (e+1) (show 0<ls.length by omega);generalize iW ls M (es.take k)=m at bO mq oZ;obtain⟨p,hp⟩:=aL (ls:=m) (k:=e) aa;obtain⟨q,hq⟩:=aL (ls:=m) (k:=(e+1)%ls.length) aa;have iS:=jW hp;have Gd:=jW hq;have l1:e<m.length:=aa;have l2:(e+1)%ls.length<m.length:=aa;have s1:=GD m e q;have yS:(m.set e q).set ((e+1)%ls.length) p=ir ls m e:=by unfold ir nx;rw[dq,hq,dq,hp];rfl
  have s2:=GD (m.set e q) ((e+1)%ls.length) p;rw[yS,<- mq] at s2;simp only[Pc.ps] at s1 s2;obtain⟨q',Gc⟩:=aL (ls:=m.set e q) (k:=(e+1)%ls.length) (by rw[qX];omega);have UW:=jW Gc;simp only[go_sem,i108_l1,h0,mg,DM,aaJ,aaK,bE,bO,ay,aJ,LV,s126,cJ pe fL,LS,hm,iS,Gd,UW,s1,s2,Pc.ps,w1];first|exact⟨aG,ge,rfl,rfl⟩|exact⟨aG,⟨ge,rfl,rfl⟩⟩|exact⟨aG,⟨ge,rfl,rfl⟩,rfl⟩|trace_state
 have:k=2:=aa;subst this;have e1:es.take 2=[av,bv]:=by rw[OL];rfl
 rw[e1] at bO;have uw:¬(((2:Nat):Int)<((2:Nat):Int)):=aa;simp only[go_sem,i108_l1,i108_r2,mg,aaJ,aaK,uw];have h1:(iW ls M [av,bv]).length=ls.length:=by rw[Bh,uz]
 refine yO (.inr ⟨?_,gg,by rw[nc,cM,h1],bO⟩);intro h2;have:=congrArg List.length h2;rw[nc,cM,h1,ff] at this;omega
def Qk(l:List Pc)(i:Nat)(g r:Int):List Pc:=l.set i {(l.getD i ⟨lh,false⟩) with l:={(l.getD i ⟨lh,false⟩).l with gate:=g,aD:=r}}
def trR(F:Nat)(ls:List Let)(av:Nat):Option (List Pc):=
 if ((pA ls av).l.kind==1)&&(decide ((pA ls av).l.gate<(F:Int))&&((pA ls av).l.aD==(cg ls (pA ls av).l.gate.toNat:Int)))
 then some (Qk (kn (pieces ls) ((pA ls av).l.gate+1) 0 1) av ((pA ls av).l.gate+1) 1) else none
def tlR(ls:List Let)(av:Nat):Option (List Pc):=
 if ((pA ls av).l.kind==1)&&(decide (0<(pA ls av).l.gate)&&((pA ls av).l.aD==1))
 then some (Qk (kn (pieces ls) (pA ls av).l.gate 1 (-1)) av ((pA ls av).l.gate-1) ((cg ls ((pA ls av).l.gate-1).toNat+1:Nat):Int)) else none
end
end Go.Abs
