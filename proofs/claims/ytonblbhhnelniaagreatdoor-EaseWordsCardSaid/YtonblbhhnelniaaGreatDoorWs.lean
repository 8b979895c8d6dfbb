/- A part. -/
import Derived.Test.YtonblbhhnelniaaGreatDoorWn
set_option linter.all false
set_option maxRecDepth 100000
set_option maxHeartbeats 16000000
namespace Go.Abs
section
variable{F:Nat}{ls:List Let}
def M3(l:List Pc)(drop:Nat->Pc->Bool)(i:Nat):Option Pc:=match l[i]? with|some p=>if drop i p then none else some p|none=>none
def ny(l:List Pc)(drop:Nat->Pc->Bool)(k:Nat):List Pc:=(List.range k).filterMap (M3 l drop)
def k9(l:List Pc)(drop:Nat->Pc->Bool):List Pc:=ny l drop l.length
theorem uD{l:List Pc}{drop:Nat->Pc->Bool}{k:Nat}{p:Pc}(h:l[k]?=some p)(hd:drop k p=true):ny l drop (k+1)=ny l drop k:=by simp[ny,w8,List.filterMap_append,M3,h,hd]
theorem AZ{l:List Pc}{drop:Nat->Pc->Bool}{k:Nat}{p:Pc}(h:l[k]?=some p)(hd:drop k p=false):ny l drop (k+1)=ny l drop k++[p]:=by simp[ny,w8,List.filterMap_append,M3,h,hd]
theorem GA(l:List Pc)(drop:Nat->Pc->Bool)(k:Nat):(ny l drop k).length<=k:=by have:=List.length_filterMap_le (M3 l drop) (List.range k);rwa[Dx] at this
theorem Ce(g:dr F ls){e:Nat}(he:e<ls.length):aI S 127 [.one (.p (eB F ls)),vi e] (vu (.int .i64 e) (.int .i64 ((e+1)%ls.length:Nat))):=by have hlen:=g.len;have bK:=fi ls;have w1:=cK (n:=e) aa;have e1:=yC (e+1) ls.length;have hz:¬((ls.length:Int)=0):=aa;refine aY c127 ?_;simp only[go_sem,i127,w1,e1,bK,hz];exact⟨aH,rfl⟩
theorem ahm(l:List Pc)(hl:l.length<=1000000){f:Nat}{x y:PV}(hn:x.norm=x/\y.norm=y)(iw:S.shared f=false)(drop:Nat->Pc->Bool)(hd:∀(k:Nat) (p:Pc),l[k]?=some p->aI S f [vi k,.agg (p.ps.map .p),.one (.p x),.one (.p y)] (rb (drop k p))):
  aI S 128 [.one (.p (.sl (dJ l))),.one (.p (.fn f [] [x,y]))] (.one (aR ml 7 (dJ (k9 l drop)))):=by
 obtain⟨iZ,xV⟩:=hn;refine aY c128 ?_;simp only[go_sem,i128];refine cV (fun k ak aj=>ak 1=.one (.p (.fn f [] [x,y]))/\ak 8=.one (.p (.sl (dJ l)))/\ak 9=vi l.length/\ak 10=vi k/\ ∃c,ak 5=.one c/\grown 8192384192 ml 7 (dJ (ny l drop k)) (.one c) aj) 0 l.length (bd _) ?_ ?_
 .simp only[go_sem];first|exact⟨rfl,_,rfl,.inl ⟨rfl,rfl⟩⟩|exact⟨_,rfl,.inl ⟨rfl,rfl⟩⟩|exact⟨rfl,rfl,_,rfl,.inl ⟨rfl,rfl⟩⟩
 rintro k ak aj hk ⟨h1,h8,h9,dF,c,h5,gc⟩
 by_cases aw:k<l.length
 .have aL:((k:Int)<(l.length:Int)):=aa;obtain⟨p,hp⟩:=aK aw;have fJ:=jN hp;have w1:=cK (n:=k) aa;have pd:=hd k p hp;have dO:=GA l drop k;simp only[Pc.ps,dG,kE] at pd;cases hb:drop k p with
  |true=>rw[hb] at pd;have hs:=uD hp hb;simp only[go_sem,i128_l1,h1,h5,h8,h9,dF,aw,aL,fJ,Pc.ps,iZ,xV,iw,cS pd,w1];refine⟨c,rfl,?_⟩;rw[hs];exact gc.of_eq (by simp only[aM,Nat.reduceEqDiff,if_false])
  |false=>rw[hb] at pd;have hs:=AZ hp hb;simp only[go_sem,i128_l1,h1,h5,h8,h9,dF,aL,fJ,Pc.ps,iZ,xV,iw,cS pd];refine qN (site:=8192384192) (id:=8192384192) (bytes:=56) (xs:=[p.ps]) (rd:=[8192384128]) (gc.of_eq (by simp only[aM,Nat.reduceEqDiff,if_false])) (by simp[ez,aM,Pc.ps]) (.inl rfl) (by simp only[cF,cq,dN];omega) fun c' bG hc iu=>?_;simp only[go_sem,h1,h8,h9,dF,aw,w1];refine⟨c',rfl,?_⟩;rw[hs,afl];exact hc
 have:k=l.length:=aa;subst this;simp only[go_sem,i128_l1,i128_r2,h5,h9,dF,eK];exact tE gc
theorem auP(l:List Pc)(hl:l.length<=1000000){f:Nat}{x:PV}(hn:x.norm=x)(iw:S.shared f=false)(drop:Nat->Pc->Bool)(hd:∀(k:Nat) (p:Pc),l[k]?=some p->aI S f [vi k,.agg (p.ps.map .p),.one (.p x)] (rb (drop k p))):
  aI S 128 [.one (.p (.sl (dJ l))),.one (.p (.fn f [] [x]))] (.one (aR ml 7 (dJ (k9 l drop)))):=by
 have iZ:=hn;refine aY c128 ?_;simp only[go_sem,i128];refine cV (fun k ak aj=>ak 1=.one (.p (.fn f [] [x]))/\ak 8=.one (.p (.sl (dJ l)))/\ak 9=vi l.length/\ak 10=vi k/\ ∃c,ak 5=.one c/\grown 8192384192 ml 7 (dJ (ny l drop k)) (.one c) aj) 0 l.length (bd _) ?_ ?_
 .simp only[go_sem];first|exact⟨rfl,_,rfl,.inl ⟨rfl,rfl⟩⟩|exact⟨_,rfl,.inl ⟨rfl,rfl⟩⟩|exact⟨rfl,rfl,_,rfl,.inl ⟨rfl,rfl⟩⟩
 rintro k ak aj hk ⟨h1,h8,h9,dF,c,h5,gc⟩
 by_cases aw:k<l.length
 .have aL:((k:Int)<(l.length:Int)):=aa;obtain⟨p,hp⟩:=aK aw;have fJ:=jN hp;have w1:=cK (n:=k) aa;have pd:=hd k p hp;have dO:=GA l drop k;simp only[Pc.ps,dG,kE] at pd;cases hb:drop k p with
  |true=>rw[hb] at pd;have hs:=uD hp hb;simp only[go_sem,i128_l1,h1,h5,h8,h9,dF,aw,aL,fJ,Pc.ps,iZ,iw,cS pd,w1];refine⟨c,rfl,?_⟩;rw[hs];exact gc.of_eq (by simp only[aM,Nat.reduceEqDiff,if_false])
  |false=>rw[hb] at pd;have hs:=AZ hp hb;simp only[go_sem,i128_l1,h1,h5,h8,h9,dF,aL,fJ,Pc.ps,iZ,iw,cS pd];refine qN (site:=8192384192) (id:=8192384192) (bytes:=56) (xs:=[p.ps]) (rd:=[8192384128]) (gc.of_eq (by simp only[aM,Nat.reduceEqDiff,if_false])) (by simp[ez,aM,Pc.ps]) (.inl rfl) (by simp only[cF,cq,dN];omega) fun c' bG hc iu=>?_;simp only[go_sem,h1,h8,h9,dF,aw,w1];refine⟨c',rfl,?_⟩;rw[hs,afl];exact hc
 have:k=l.length:=aa;subst this;simp only[go_sem,i128_l1,i128_r2,h5,h9,dF,eK];exact tE gc
theorem ZH(k i j:Nat)(p:Pc):aI S 129 [vi k,.agg (p.ps.map .p),.one (.p (.box [.int .i64 i])),.one (.p (.box [.int .i64 j]))] (rb (decide (k=i)||decide (k=j))):=by
 refine aY c129 ?_;by_cases h1:k=i
 .have e1:((k:Int)==(i:Int))=true:=by simp[h1]
  rw[show(decide (k=i)||decide (k=j))=true by simp[h1]];simp only[go_sem,i129,Pc.ps,e1]
 have e1:((k:Int)==(i:Int))=false:=by simp;omega
 by_cases h2:k=j
 .have e2:((k:Int)==(j:Int))=true:=by simp[h2]
  rw[show(decide (k=i)||decide (k=j))=true by simp[h2]];simp only[go_sem,i129,Pc.ps,e1,e2]
 have e2:((k:Int)==(j:Int))=false:=by simp;omega
 rw[show(decide (k=i)||decide (k=j))=false by simp[h1,h2]];simp only[go_sem,i129,Pc.ps,e1,e2]
def wQ(a b:Int):Int:=if a<b then b else a
def CW(a b:Int):Int:=if b<a then b else a
def xj(ls:List Let)(av:Nat):Option (List Pc):=
 let p:=(pieces ls).getD av ⟨j9,false⟩
 let q:=(pieces ls).getD ((av+1)%ls.length) ⟨j9,false⟩
 if (p.l.kind==1)&&((q.l.kind==1)&&((p.l.gate==q.l.gate)&&((wQ p.l.aB q.l.aB-CW p.l.aB q.l.aB==1)&& !(decide (ay Let.aA ls<=2)&&decide (0<ay Let.aC ls/2)))))
 then some (jP (k9 (pieces ls) fun k _=>decide (k=av)||decide (k=(av+1)%ls.length)) p.l.gate (wQ p.l.aB q.l.aB) (-2)) else none
theorem V1{l:List Pc}{drop:Nat->Pc->Bool}{p:Pc}(h:p∈k9 l drop):p∈l:=by
 obtain⟨i,_,hi⟩:=List.mem_filterMap.1 h;unfold M3 at hi;cases hl:l[i]? with
 |none=>rw[hl] at hi;cases hi
 |some q=>
  rw[hl] at hi;simp only at hi;split at hi
  .cases hi
  cases hi;exact aU hl
theorem aiJ(g:dr F ls){av:Nat}(ha:av<ls.length){k b c:Int}{l o:Bool}{sg:Int}:
  aI S 108 [.one (.p (eB F ls)),lL k av b c l o sg] (kR (xj ls av)):=by
 have hlen:=g.len;have bK:=fi ls;have pe:=Ce g ha;have hm:=dQ (av+1) (show 0<ls.length by omega);have qo:=arj g;obtain⟨p,hp⟩:=aK (ls:=pieces ls) (k:=av) aa;obtain⟨q,hq⟩:=aK (ls:=pieces ls) (k:=(av+1)%ls.length) aa;obtain⟨p1,p2⟩:=qo p (aU hp);obtain⟨q1,q2⟩:=qo q (aU hq);have iG:=jN hp;have o9:=jN hq;have iw:S.shared 130=true:=ah;have lo:S.lone 6912320320=false:=ah;have eV:=g.cr;unfold xj;simp only[de,hp,hq,mS];refine aY c108 ?_;cases c1:(p.l.kind==1) with
 |false=>
  have n1:(p.l.kind !=1)=true:=by simp[bne,c1]
  simp only[go_sem,i108,s127,cX pe ia,iG,o9,Pc.ps,n1];exact⟨aH,rfl⟩
 |true=>
 have n1:(p.l.kind !=1)=false:=by simp[bne,c1]
 cases c2:(q.l.kind==1) with
 |false=>
  have n2:(q.l.kind !=1)=true:=by simp[bne,c2]
  simp only[go_sem,i108,s127,cX pe ia,iG,o9,Pc.ps,n1,n2];exact⟨aH,rfl⟩
 |true=>
 have n2:(q.l.kind !=1)=false:=by simp[bne,c2]
 cases c3:(p.l.gate==q.l.gate) with
 |false=>
  have n3:(p.l.gate !=q.l.gate)=true:=by simp[bne,c3]
  simp only[go_sem,i108,s127,cX pe ia,iG,o9,Pc.ps,n1,n2,n3];exact⟨aH,rfl⟩
 |true=>
 have n3:(p.l.gate !=q.l.gate)=false:=by simp[bne,c3]
 have rW:(if q.l.aB>p.l.aB then q.l.aB else p.l.aB)=wQ p.l.aB q.l.aB:=rfl;have mI:(if q.l.aB<p.l.aB then q.l.aB else p.l.aB)=CW p.l.aB q.l.aB:=rfl;have hmxb: -1000000<=wQ p.l.aB q.l.aB/\wQ p.l.aB q.l.aB<=1000000:=by unfold wQ;split<;>omega
 have hmnb: -1000000<=CW p.l.aB q.l.aB/\CW p.l.aB q.l.aB<=1000000:=by unfold CW;split<;>omega
 have wd:=vC (x:=wQ p.l.aB q.l.aB-CW p.l.aB q.l.aB) aa aa;generalize wQ p.l.aB q.l.aB=mx at*;generalize CW p.l.aB q.l.aB=mn at*;cases c4:(mx-mn==1) with
 |false=>
  have n4:(mx-mn !=1)=true:=by simp[bne,c4]
  simp only[go_sem,i108,s127,cX pe ia,iG,o9,Pc.ps,n1,n2,n3,rW,mI,wd,n4];exact⟨aH,rfl⟩
 |true=>
 have n4:(mx-mn !=1)=false:=by simp[bne,c4]
 have eU:∀(X:Prop),X->X:=fun _ h=>h;by_cases c5:ay Let.aA ls<=2
 .have n5:((ay Let.aA ls:Int)<=2):=aa;by_cases c6:0<ay Let.aC ls/2
  .have n6:((0:Int)<((ay Let.aC ls/2:Nat):Int)):=aa;rw[decide_eq_true c5,decide_eq_true c6];simp only[go_sem,i108,s127,cX pe ia,iG,o9,Pc.ps,n1,n2,n3,rW,mI,wd,n4,n5,n6];exact⟨aH,rfl⟩
  have n6:¬((0:Int)<((ay Let.aC ls/2:Nat):Int)):=aa;rw[decide_eq_true c5,decide_eq_false c6];simp only[go_sem,i108,s127,cX pe ia,iG,o9,Pc.ps,n1,n2,n3,rW,mI,wd,n4,n5,n6,s128];refine⟨aH,?_⟩;refine lW (ahm (pieces ls) aa ⟨rfl,rfl⟩ s129 (fun k _=>decide (k=av)||decide (k=(av+1)%ls.length)) (fun k p _=>ZH k av ((av+1)%ls.length) p)) lo (.inr (nI (Dg _))) fun cc bG gc hb=>?_;have b8:=hb 6912128896 ae;have b9:=hb 6912128960 ae;simp only[go_sem] at b8 b9;simp only[go_sem,b8,b9,rW,iw];refine abL (l:=k9 (pieces ls) fun k _=>decide (k=av)||decide (k=(av+1)%ls.length)) (ll (GA _ _ _) aa) ae (fun x hx=>qo x (V1 hx)) gc fun aZ rO aV=>?_;simp only[go_sem];exact xD rO
 have n5:¬((ay Let.aA ls:Int)<=2):=aa;rw[decide_eq_false c5];simp only[go_sem,i108,s127,cX pe ia,iG,o9,Pc.ps,n1,n2,n3,rW,mI,wd,n4,n5,s128];refine⟨aH,?_⟩;refine lW (ahm (pieces ls) aa ⟨rfl,rfl⟩ s129 (fun k _=>decide (k=av)||decide (k=(av+1)%ls.length)) (fun k p _=>ZH k av ((av+1)%ls.length) p)) lo (.inr (nI (Dg _))) fun cc bG gc hb=>?_;have b8:=hb 6912128896 ae;have b9:=hb 6912128960 ae;simp only[go_sem] at b8 b9;simp only[go_sem,b8,b9,rW,iw];refine abL (l:=k9 (pieces ls) fun k _=>decide (k=av)||decide (k=(av+1)%ls.length)) (ll (GA _ _ _) aa) ae (fun x hx=>qo x (V1 hx)) gc fun aZ rO aV=>?_;simp only[go_sem];exact xD rO
abbrev iP(o:List Int):List (List PV):=o.map fun n=>[PV.int .i64 n]
theorem mK{o:List Int}{k:Nat}{v:Int}(h:o[k]?=some v):(iP o)[k]?=some [.int .i64 v]:=by simp[h]
def nV(o:List Int)(x:Int)(i:Nat):Bool:=match o[i]? with|some y=>y==x|none=>false
theorem anO(o:List Int)(x:Int)(hl:o.length<=1000000):aI S 174 [.one (.p (.sl (iP o))),vi x] (ri (match (List.range o.length).find? (nV o x) with|some k=>(k:Int)|none=> -1)):=by
 refine aY c174 ?_;simp only[go_sem,i174];refine cV (fun k ak aj=>ak 0=.one (.p (.sl (iP o)))/\ak 1=vi x/\ak 7=vi o.length/\ak 8=vi k/\ ∀j,j<k->nV o x j=false) 0 o.length (bd _) ?_ ?_
 .simp only[go_sem];exact⟨rfl,fun j hj=>absurd hj (qE j)⟩
 rintro k ak aj hk ⟨h0,h1,h7,h8,hn⟩
 by_cases aw:k<o.length
 .have aL:((k:Int)<(o.length:Int)):=aa;obtain⟨y,hy⟩:=aK aw;have fJ:=mK hy;have w1:=cK (n:=k) aa;have nQ:nV o x k=(y==x):=by simp[nV,hy]
  cases hb:(y==x) with
  |true=>
   have xJ:(x==y)=true:=by have:=beq_iff_eq.1 hb;simp[this]
   rw[hb] at nQ;have hf:=DT (p:=nV o x) aw hn nQ;simp only[go_sem,i174_l1,h0,h1,h7,h8,aL,fJ,xJ,hf];first|done|exact aH|rfl
  |false=>
   have xJ:(x==y)=false:=by
    have:¬y=x:=by simpa using hb
    simp;exact fun h=>this h.symm
   rw[hb] at nQ;have Ep:∀j,j<k+1->nV o x j=false:=fun j hj=>by
    rcases pV.1 hj with h|rfl
    .exact hn j h
    exact nQ
   simp only[go_sem,i174_l1,h0,h1,h7,h8,aw,aL,fJ,xJ,w1];first|exact Ep|exact⟨aH,Ep⟩
 have:k=o.length:=aa;subst this;have hf:=Lg (p:=nV o x) hn;simp only[go_sem,i174_l1,i174_r2,h7,h8,eK,hf]
theorem ajQ(o:List Int)(x:Int)(hl:o.length<=1000000):aI S 156 [.one (.p (.sl (iP o))),vi x] (rb (o.contains x)):=by
 have pi:=anO o x hl;refine aY c156 ?_;cases hm:o.contains x with
 |true=>
  have wC:x∈o:=by simpa using hm
  obtain⟨k,hk⟩:=jD wC;have dO:=(aS.1 hk).1;cases hf:(List.range o.length).find? (nV o x) with
  |none=>have:=Hh.1 hf k (fm.2 dO);simp[nV,hk] at this
  |some j=>rw[hf] at pi;have nN:(0:Int)<=(j:Int):=aa;simp only[go_sem,i156,s174,eH pi,nN]
 |false=>
  have wC:x∉o:=by simpa using hm
  cases hf:(List.range o.length).find? (nV o x) with
  |some j=>
   have h1:=Kr hf;unfold nV at h1;cases ho:o[j]? with
   |none=>rw[ho] at h1;cases h1
   |some y=>
    rw[ho] at h1;have:y=x:=by simpa using h1
    subst this;exact absurd (aU ho) wC
  |none=>rw[hf] at pi;have nN:¬(0:Int)<= -1:=ae;simp only[go_sem,i156,s174,eH pi,nN]
def sD(ids:List Int)(_:Nat)(p:Pc):Bool:=(p.l.kind==2)&&ids.contains p.l.id
theorem akx(ids:List Int)(hl:ids.length<=1000000)(k:Nat)(p:Pc):aI S 155 [vi k,.agg (p.ps.map .p),.one (.p (.box [.sl (iP ids)]))] (rb (sD ids k p)):=by
 have pc:=ajQ ids p.l.id hl;refine aY c155 ?_;unfold sD;cases h:(p.l.kind==2) with
 |true=>simp only[go_sem,i155,Pc.ps,h,s156,cS pc]
 |false=>simp only[go_sem,i155,Pc.ps,h]
def jz(ids:List Int)(k:Nat)(p:Pc):Pc:={p with l:={p.l with id:=p.l.id-((ids.take k).countP (fun i=>decide (i<p.l.id)):Nat)}}
def pI(ids:List Int)(p:Pc):Pc:=if p.l.kind==2 then jz ids ids.length p else p
abbrev FK(l:List Pc)(ids:List Int):List Pc:=(k9 l (sD ids)).map (pI ids)
abbrev tS(ids:List Int)(l:List Pc)(k:Nat):List Pc:=(l.take k).map (pI ids)++l.drop k
theorem aek{ids:List Int}{l:List Pc}{k:Nat}{p:Pc}(h:l[k]?=some p):(tS ids l k)[k]?=some p:=by have hk:=(aS.1 h).1;rw[tS,mQ (by rw[cF,eQ];omega),cF,eQ,xe aa,Fm,r9];exact h
theorem aoX(ids:List Int)(l:List Pc)(k:Nat):(tS ids l k).length=l.length:=by rw[tS,dX,cF,eQ,iC];omega
theorem aoY{ids:List Int}{l:List Pc}{k:Nat}{p:Pc}(h:l[k]?=some p):(tS ids l k).set k (pI ids p)=tS ids l (k+1):=by
 have hk:=(aS.1 h).1;have zq:l.drop k=p::l.drop (k+1):=by obtain⟨hh,rfl⟩:=aS.1 h;exact zY hh
 have e1:((l.take k).map (pI ids)).length=k:=by rw[cF,eQ];omega
 rw[tS,List.set_append_right _ _ aa,e1,Fm,zq,List.set_cons_zero,tS,kn,h];simp
theorem GL(o:List Pc)(k:Nat)(p:Pc):(dJ o).set k p.ps=dJ (o.set k p):=by simp[List.map_set]
theorem ZL(l:List Pc)(ids:List Int)(hl:l.length<=1000000)(hi:ids.length<=1000)(hb:∀p∈l,-1000000<=p.l.id/\p.l.id<=1000000):
  aI S 136 [.one (.p (.sl (dJ l))),.one (.p (.sl (iP ids)))] (.one (aR ml 7 (dJ (FK l ids)))):=by
 have pw:=auP l hl (f:=155) (x:=.box [.sl (iP ids)]) rfl s155 (sD ids) (fun k p _=>akx ids aa k p);have lo:S.lone 8704064128=false:=ah;have oZ:∀p∈k9 l (sD ids),-1000000<=p.l.id/\p.l.id<=1000000:=fun p hp=>hb p (V1 hp);have dO:(k9 l (sD ids)).length<=1000000:=ll (GA _ _ _) hl;refine aY c136 ?_;simp only[go_sem,i136,s128];refine lW pw lo (.inr (nI (Dg _))) fun cc kI gc mA=>?_;have z3:=mA 8704000000 ae;simp only[go_sem] at z3;unfold FK;generalize k9 l (sD ids)=m at gc oZ dO;rcases gc with ⟨e,e2⟩|⟨aF,gg,e2,hC⟩
 .cases e2;have:m=[]:=by simpa using e
  subst this;have hz:¬(((0:Nat):Int)<((0:Nat):Int)):=aa;simp only[go_sem];refine cV (fun k ak aj=>k=0/\ak 5=.one (.p .nils)/\ak 14=vi ((0:Nat):Int)/\ak 15=vi ((0:Nat):Int)) 0 0 (aX _) ?_ ?_
  .simp only[go_sem];exact rfl
  rintro k ak aj _ ⟨rfl,h5,lX,jG⟩
  simp only[go_sem,i136_l3,i136_r4,h5,lX,jG,hz];rfl
 cases e2;simp only[go_sem];refine cV (fun k ak aj=>ak 3=.one (.bk 8704000000 1 0)/\aj 8704000000=(1,some (.var [.p (.sl (iP ids))]))/\ak 5=.one (.hsl 8704064128 gg 7 0 m.length)/\ak 13=.one (.hsl 8704064128 gg 7 0 m.length)/\ak 14=vi m.length/\ak 15=vi k/\aj 8704064128=(gg,some (.arr ml 7 (dJ (tS ids m k))))) 0 m.length (bd _) ?_ ?_
 .simp only[go_sem,z3,hC];refine⟨rfl,?_⟩;simp[tS]
 rintro k ak aj hk ⟨h3,bI,h5,qf,lX,jG,bO⟩
 by_cases aw:k<m.length
 .have aL:((k:Int)<(m.length:Int)):=aa;obtain⟨p,hp⟩:=aK aw;have wG:=jN (aek (ids:=ids) hp);have w1:=cK (n:=k) aa;have wD:=aoX ids m k;have iH:=aoY (ids:=ids) hp;have hlk:k<(tS ids m k).length:=aa;cases c1:(p.l.kind==2) with
  |false=>
   have n1:(p.l.kind !=2)=true:=by simp[bne,c1]
   have AU:tS ids m (k+1)=tS ids m k:=by
    rw[<- iH];have e:pI ids p=p:=by unfold pI;rw[c1];rfl
    rw[e];obtain⟨hh,he⟩:=aS.1 (aek (ids:=ids) hp);rw[<- he,List.set_getElem_self]
   simp only[go_sem,i136_l3,i136_r2,h3,bI,h5,qf,lX,jG,bO,aw,aL,wG,Pc.ps,n1,w1,AU]
  |true=>
   have n1:(p.l.kind !=2)=false:=by simp[bne,c1]
   have hid:=oZ p (aU hp);have zu:pI ids p=jz ids ids.length p:=by unfold pI;rw[c1];rfl
   rw[zu] at iH;generalize tS ids m k=q at wG wD iH hlk bO;have q0:q.set k (jz ids 0 p)=q:=by
    have:jz ids 0 p=p:=by unfold jz;simp
    rw[this];have h1:q[k]?=some p:=by
     have h2:(dJ q)[k]?=some p.ps:=wG;rw[fR] at h2;cases hq:q[k]? with
     |none=>rw[hq] at h2;cases h2
     |some x=>rw[hq] at h2;simp[Pc.ps] at h2;obtain⟨⟨a,b,c,d,e,f⟩,g⟩:=x;obtain⟨⟨a',b',c',d',e',f'⟩,g'⟩:=p;simp at h2;obtain⟨rfl,rfl,rfl,rfl,rfl,rfl,rfl⟩:=h2;rfl
    obtain⟨hh,he⟩:=aS.1 h1;rw[<- he,List.set_getElem_self]
   simp only[go_sem,i136_l3,h3,bI,qf,lX,jG,bO,aw,aL,wG,Pc.ps,n1];refine cV (fun j cZ aZ=>cZ 3=.one (.bk 8704000000 1 0)/\aZ 8704000000=(1,some (.var [.p (.sl (iP ids))]))/\cZ 5=.one (.hsl 8704064128 gg 7 0 m.length)/\cZ 13=.one (.hsl 8704064128 gg 7 0 m.length)/\cZ 14=vi m.length/\cZ 15=vi k/\cZ 6=vi k/\cZ 24=.one (.p (.sl (iP ids)))/\cZ 25=vi ids.length/\cZ 26=vi j/\
    (∃g7,cZ 7=.one (.bk 8704256192 g7 0)/\aZ 8704256192=(g7,some (.var (p.ps.map .p))))/\aZ 8704064128=(gg,some (.arr ml 7 (dJ (q.set k (jz ids j p)))))) 0 ids.length (bd _) ?_ ?_
   .simp only[go_sem,h3,bI,h5,qf,lX,jG,bO,q0];first|exact⟨rfl,_,⟨rfl,rfl⟩,rfl⟩|exact⟨rfl,⟨_,rfl,rfl⟩⟩|exact⟨_,rfl,rfl⟩|exact⟨⟨_,rfl,rfl⟩,rfl⟩|exact⟨rfl,⟨_,rfl,rfl⟩,rfl⟩|trace_state
   rintro j cZ aZ hj ⟨p3,cI,p5,p13,vr,p15,p6,p24,p25,p26,⟨g7,p7,c7⟩,cO⟩
   by_cases sJ:j<ids.length
   .have Gh:((j:Int)<(ids.length:Int)):=aa;obtain⟨d,hd⟩:=aK sJ;have kM:=mK hd;have w2:=cK (n:=j) aa;have sH:(ids.take (j+1)).countP (fun i=>decide (i<p.l.id))=(ids.take j).countP (fun i=>decide (i<p.l.id))+if d<p.l.id then 1 else 0:=by
     rw[kn,hd,vE];simp[wZ,List.countP_nil]
    have bQ:(ids.take j).countP (fun i=>decide (i<p.l.id))<=j:=ll Kq (by rw[eQ];omega);have hqa:(dJ (q.set k (jz ids j p)))[k]?=some (jz ids j p).ps:=jN (by rw[oI,if_pos rfl,if_pos aa]);have sM:k<(q.set k (jz ids j p)).length:=by rw[th];omega
    by_cases hg:d<p.l.id
    .have e1:(jz ids j p).l.id-1=(jz ids (j+1) p).l.id:=by
      unfold jz;simp only;rw[sH,if_pos hg];omega
     have w3:IntKind.i64.wrap ((jz ids j p).l.id-1)=(jz ids (j+1) p).l.id:=by rw[<- e1];exact vC (by unfold jz;simp only;omega) (by unfold jz;simp only;omega)
     have dp:((jz ids (j+1) p).ps)=[.int .i64 (jz ids j p).l.kind,.int .i64 (jz ids j p).l.gate,.int .i64 (jz ids j p).l.aB,.int .i64 (jz ids (j+1) p).l.id,.int .i64 (jz ids j p).l.sign,.bool (jz ids j p).l.over,.bool (jz ids j p).d]:=rfl;have acC:(dJ (q.set k (jz ids j p))).set k (jz ids (j+1) p).ps=dJ (q.set k (jz ids (j+1) p)):=by rw[GL,List.set_set]
     rw[dp] at acC;generalize jz ids j p=x at*;simp only[go_sem,i136_l1,p3,cI,p5,p13,vr,p15,p6,p24,p25,p26,p7,c7,cO,aw,sJ,Gh,kM,hg,hqa,Pc.ps,w2,w3,acC];exact⟨g7,rfl,rfl⟩
    have e1:jz ids (j+1) p=jz ids j p:=by unfold jz;rw[sH,if_neg hg];simp
    simp only[go_sem,i136_l1,p3,cI,p5,p13,vr,p15,p6,p24,p25,p26,p7,c7,cO,sJ,Gh,kM,hg,Pc.ps,w2,e1];exact⟨g7,rfl,rfl⟩
   have:j=ids.length:=aa;subst this;rw[iH] at cO;simp only[go_sem,i136_l1,i136_r2,p3,cI,p5,p13,vr,p15,p26,p25,cO,eK,w1,aw]
 have:k=m.length:=aa;subst this;have e1:tS ids m m.length=m.map (pI ids):=by rw[tS,jh,Hg,jR]
 rw[e1] at bO;simp only[go_sem,i136_l3,i136_r4,h5,lX,jG,eK];have vc:m.map (pI ids)≠[]:=by simpa using aF
 exact tE (.inr ⟨by simpa using vc,gg,af,bO⟩)
theorem dr.ids(g:dr F ls):VS ls/\GK ls:=by have hc:=g.ok.cr;unfold kW at hc;simp only[cH] at hc;exact Hc.1 fun k hk=>jf.1 hc.1.2 k (fm.2 hk)
theorem aql{p:Pc}(h:p∈pieces ls):∃(i:Nat) (l:Let),ls[i]?=some l/\p=⟨l,im ls i⟩:=by
 obtain⟨i,hi⟩:=jD h;have xS:i<ls.length:=by rw[<- fi];exact(aS.1 hi).1
 obtain⟨l,hl⟩:=aK xS;rw[pL hl] at hi;cases hi;exact⟨i,l,hl,rfl⟩
theorem acG(g:dr F ls):∀p∈pieces ls,-1000000<=p.l.id/\p.l.id<=1000000:=by
 intro p hp;obtain⟨i,l,hl,rfl⟩:=aql hp;have hm:=aU hl;rcases g.ok.kinds l hm with h|h
 .have:=(r4 (f:=(F:Int)) h).1 (g.bad l hm);simp only[this.1.1.2];omega
 have h1:=g.ids.1 l hm h;have:=g.cr;simp only;omega
def yg(ls:List Let)(av:Nat):Option (List Pc):=
 let p:=(pieces ls).getD av ⟨j9,false⟩
 let q:=(pieces ls).getD ((av+1)%ls.length) ⟨j9,false⟩
 if (p.l.kind==2)&&((q.l.kind==2)&&(p.l.id==q.l.id)) then some (FK (pieces ls) [p.l.id]) else none
theorem aoW(g:dr F ls){av:Nat}(ha:av<ls.length){k b c:Int}{l o:Bool}{sg:Int}:
  aI S 111 [.one (.p (eB F ls)),lL k av b c l o sg] (kR (yg ls av)):=by
 have hlen:=g.len;have bK:=fi ls;have pe:=Ce g ha;have hm:=dQ (av+1) (show 0<ls.length by omega);obtain⟨p,hp⟩:=aK (ls:=pieces ls) (k:=av) aa;obtain⟨q,hq⟩:=aK (ls:=pieces ls) (k:=(av+1)%ls.length) aa;have iG:=jN hp;have o9:=jN hq;have lo:S.lone 7104256896=false:=ah;unfold yg;simp only[de,hp,hq,mS];refine aY c111 ?_;cases c1:(p.l.kind==2) with
 |false=>
  have n1:(p.l.kind !=2)=true:=by simp[bne,c1]
  simp only[go_sem,i111,s127,cX pe ia,iG,Pc.ps,n1];exact⟨aH,rfl⟩
 |true=>
 have n1:(p.l.kind !=2)=false:=by simp[bne,c1]
 cases c2:(q.l.kind==2) with
 |false=>
  have n2:(q.l.kind !=2)=true:=by simp[bne,c2]
  simp only[go_sem,i111,s127,cX pe ia,iG,o9,Pc.ps,n1,n2];exact⟨aH,rfl⟩
 |true=>
 have n2:(q.l.kind !=2)=false:=by simp[bne,c2]
 cases c3:(p.l.id==q.l.id) with
 |false=>
  have n3:(p.l.id !=q.l.id)=true:=by simp[bne,c3]
  simp only[go_sem,i111,s127,cX pe ia,iG,o9,Pc.ps,n1,n2,n3];exact⟨aH,rfl⟩
 |true=>
 have n3:(p.l.id !=q.l.id)=false:=by simp[bne,c3]
 have pd:=ZL (pieces ls) [p.l.id] aa af (acG g);simp only[go_sem,i111,s127,cX pe ia,iG,o9,Pc.ps,n1,n2,n3,s136];refine⟨aH,?_⟩;refine akc pd lo (.inr (nI (Dg _))) fun cc bG w gc hb hw=>?_;simp only[go_sem];refine⟨?_,xD gc⟩;rcases hw with rfl|rfl<;>kernel_rfl
abbrev pA(ls:List Let)(i:Nat):Pc:=(pieces ls).getD i ⟨j9,false⟩
theorem jA{i:Nat}{p:Pc}(h:(pieces ls)[i]?=some p):pA ls i=p:=by simp[pA,de,h]
abbrev nx(ls:List Let)(e:Nat):Nat:=(e+1)%ls.length
def kJ(ls:List Let)(e:Nat)(ov:Bool):Bool:=((pA ls e).l.kind==2)&&(((pA ls (nx ls e)).l.kind==2)&&(((pA ls e).l.over==ov)&&((pA ls (nx ls e)).l.over==ov)))
theorem HG(g:dr F ls){e:Nat}(he:e<ls.length)(ov:Bool):aI S 138 [.one (.p (eB F ls)),vi e,vb ov] (rb (kJ ls e ov)):=by
 have hlen:=g.len;have bK:=fi ls;have pe:=Ce g he;have hm:=dQ (e+1) (show 0<ls.length by omega);obtain⟨p,hp⟩:=aK (ls:=pieces ls) (k:=e) aa;obtain⟨q,hq⟩:=aK (ls:=pieces ls) (k:=(e+1)%ls.length) aa;have iG:=jN hp;have o9:=jN hq;unfold kJ;rw[jA hp,jA hq];refine aY c138 ?_;cases c1:(p.l.kind==2) with
 |false=>simp only[go_sem,i138,s127,cX pe ia,iG,Pc.ps,c1]
 |true=>
 cases c2:(q.l.kind==2) with
 |false=>simp only[go_sem,i138,s127,cX pe ia,iG,o9,Pc.ps,c1,c2]
 |true=>
 cases c3:(p.l.over==ov) with
 |false=>simp only[go_sem,i138,s127,cX pe ia,iG,o9,Pc.ps,c1,c2,c3]
 |true=>
 cases c4:(q.l.over==ov) with
 |false=>simp only[go_sem,i138,s127,cX pe ia,iG,o9,Pc.ps,c1,c2,c3,c4]
 |true=>simp only[go_sem,i138,s127,cX pe ia,iG,o9,Pc.ps,c1,c2,c3,c4]
def iM(ls:List Let)(e:Nat):Nat×Nat×Bool:=if (pA ls e).l.kind==2 then (nx ls e,e,(pA ls (nx ls e)).l.kind==1) else (e,nx ls e,((pA ls e).l.kind==1)&&((pA ls (nx ls e)).l.kind==2))
abbrev afZ(a b c:PV):RV:=.tup [.one (.p a),.one (.p b),.one (.p c)]
theorem yf{aj:aq}{s:Nat}{a b c:PV}{l:Bool}:land aj [] s ((afZ a b c).ig l)=some (.tup [.one (.p a),.one (.p b),.one (.p c)],[]):=by cases l<;>rfl
theorem afk(g:dr F ls){e:Nat}(he:e<ls.length):aI S 134 [.one (.p (eB F ls)),vi e] (afZ (.int .i64 ((iM ls e).1:Nat)) (.int .i64 ((iM ls e).2.1:Nat)) (.bool (iM ls e).2.2)):=by
 have hlen:=g.len;have bK:=fi ls;have pe:=Ce g he;have hm:=dQ (e+1) (show 0<ls.length by omega);obtain⟨p,hp⟩:=aK (ls:=pieces ls) (k:=e) aa;obtain⟨q,hq⟩:=aK (ls:=pieces ls) (k:=(e+1)%ls.length) aa;have iG:=jN hp;have o9:=jN hq;unfold iM;rw[jA hp,jA hq];refine aY c134 ?_;cases c1:(p.l.kind==2) with
 |true=>
  have e1:p.l.kind=2:=by simpa using c1
  rw[if_pos rfl];cases c2:(q.l.kind==1) with
  |true=>simp only[go_sem,i134,s127,cX pe ia,iG,o9,Pc.ps,c1,c2];exact⟨aH,rfl⟩
  |false=>simp only[go_sem,i134,s127,cX pe ia,iG,o9,Pc.ps,c1,c2];exact⟨aH,rfl⟩
 |false=>
  rw[if_neg ae];cases c2:(p.l.kind==1) with
  |true=>
   cases c3:(q.l.kind==2) with
   |true=>simp only[go_sem,i134,s127,cX pe ia,iG,o9,Pc.ps,c1,c2,c3];exact⟨aH,rfl⟩
   |false=>simp only[go_sem,i134,s127,cX pe ia,iG,o9,Pc.ps,c1,c2,c3];exact⟨aH,rfl⟩
  |false=>simp only[go_sem,i134,s127,cX pe ia,iG,Pc.ps,c1,c2];exact⟨aH,rfl⟩
def Bc(o:List Nat)(pr:Nat->Bool)(i:Nat):Bool:=match o[i]? with|some v=>pr v|none=>false
theorem anN(o:List Nat)(hl:o.length<=1000000){f:Nat}{x y z:PV}(hn:x.norm=x/\y.norm=y/\z.norm=z)(iw:S.shared f=false)(pr:Nat->Bool)(hd:∀v∈o,aI S f [vi (v:Nat),.one (.p x),.one (.p y),.one (.p z)] (rb (pr v))):
  aI S 89 [.one (.p (.sl (nP o))),.one (.p (.fn f [] [x,y,z]))] (ri (match (List.range o.length).find? (Bc o pr) with|some k=>(k:Int)|none=> -1)):=by
 obtain⟨iZ,xV,vc⟩:=hn;refine aY c89 ?_;simp only[go_sem,i89];refine cV (fun k ak aj=>ak 0=.one (.p (.sl (nP o)))/\ak 1=.one (.p (.fn f [] [x,y,z]))/\ak 7=vi o.length/\ak 8=vi k/\ ∀j,j<k->Bc o pr j=false) 0 o.length (bd _) ?_ ?_
 .simp only[go_sem];exact⟨rfl,fun j hj=>absurd hj (qE j)⟩
 rintro k ak aj hk ⟨h0,h1,h7,h8,IS⟩
 by_cases aw:k<o.length
 .have aL:((k:Int)<(o.length:Int)):=aa;obtain⟨v,hv⟩:=aK aw;have fJ:=kQ hv;have w1:=cK (n:=k) aa;have pd:=hd v (aU hv);have nQ:Bc o pr k=pr v:=by simp[Bc,hv]
  cases hb:pr v with
  |true=>rw[hb] at pd nQ;have hf:=DT (p:=Bc o pr) aw IS nQ;simp only[go_sem,i89_l1,h0,h1,h7,h8,aL,fJ,iw,iZ,xV,vc,cS pd,hf]
  |false=>
   rw[hb] at pd nQ;simp only[go_sem,i89_l1,h0,h1,h7,h8,aw,aL,fJ,iw,iZ,xV,vc,cS pd,w1];intro j hj;rcases pV.1 hj with h|rfl
   .exact IS j h
   exact nQ
 have:k=o.length:=aa;subst this;have hf:=Lg (p:=Bc o pr) IS;simp only[go_sem,i89_l1,i89_r2,h7,h8,eK,hf]
theorem ajP(o:List Nat)(hl:o.length<=1000000){f:Nat}{x y z:PV}(hn:x.norm=x/\y.norm=y/\z.norm=z)(iw:S.shared f=false)(pr:Nat->Bool)(hd:∀v∈o,aI S f [vi (v:Nat),.one (.p x),.one (.p y),.one (.p z)] (rb (pr v))):
  aI S 66 [.one (.p (.sl (nP o))),.one (.p (.fn f [] [x,y,z]))] (rb (o.any pr)):=by
 have pi:=anN o hl hn iw pr hd;obtain⟨iZ,xV,vc⟩:=hn;refine aY c66 ?_;cases ha:o.any pr with
 |true=>
  obtain⟨v,hv,hp⟩:=List.any_eq_true.1 ha;obtain⟨k,hk⟩:=jD hv;have dO:=(aS.1 hk).1;cases hf:(List.range o.length).find? (Bc o pr) with
  |none=>have:=Hh.1 hf k (fm.2 dO);simp[Bc,hk,hp] at this
  |some j=>rw[hf] at pi;have nN:(0:Int)<=(j:Int):=aa;simp only[go_sem,i66,s89,eH pi,nN]
 |false=>
  cases hf:(List.range o.length).find? (Bc o pr) with
  |some j=>
   have h1:=Kr hf;unfold Bc at h1;cases ho:o[j]? with
   |none=>rw[ho] at h1;cases h1
   |some v=>rw[ho] at h1;have:=Dt.1 ha v (aU ho);exact absurd h1 this
  |none=>rw[hf] at pi;have nN:¬(0:Int)<= -1:=ae;simp only[go_sem,i66,s89,eH pi,nN]
def yZ(f:Fc)(e:Nat):Nat:=f.dh.countP fun d=>d/2==e
def DO(f:Fc)(pl:Nat)(edges:List Nat):Bool:=(f.dh.length==edges.length)&&((f.places.length==pl)&&edges.all fun e=>yZ f e==1)
theorem Zo(g:dr F ls){j:Nat}{f:Fc}(hf:(eI F ls)[j]?=some f)(edges:List Nat)(he:edges.length<=1000)(pl:Nat):
  aI S 154 [vi j,.one (.p (.box [eB F ls])),.one (.p (.box [.sl (nP edges)])),.one (.p (.box [.int .i64 pl]))] (rb (DO f pl edges)):=by
 have hlen:=g.len;have iK:(aE ls).length<=ls.length:=yP ls ls.length;have hdl:=UO g.ok (aU hf);have iS:nD ls<=1600:=by unfold nD;omega
 have Gb:=UP hf;have mF:=(aS.1 hf).1;refine aY c154 ?_;unfold DO;cases c1:(f.dh.length==edges.length) with
 |false=>
  have n1:(((f.dh.length:Nat):Int)!=((edges.length:Nat):Int))=true:=by
   have:¬f.dh.length=edges.length:=by simpa using c1
   simp[bne];omega
  simp only[go_sem,i154,Gb,Fc.ps,n1]
 |true=>
 have n1:(((f.dh.length:Nat):Int)!=((edges.length:Nat):Int))=false:=by
  have:f.dh.length=edges.length:=by simpa using c1
  simp[bne,this]
 cases c2:(f.places.length==pl) with
 |false=>
  have n2:(((f.places.length:Nat):Int)!=((pl:Nat):Int))=true:=by
   have:¬f.places.length=pl:=by simpa using c2
   simp[bne];omega
  simp only[go_sem,i154,Gb,Fc.ps,n1,n2]
 |true=>
 have n2:(((f.places.length:Nat):Int)!=((pl:Nat):Int))=false:=by
  have:f.places.length=pl:=by simpa using c2
  simp[bne,this]
 simp only[go_sem,i154,Gb,Fc.ps,n1,n2];refine cV (fun k ak aj=>ak 6=.one (.bk 9856064448 1 0)/\aj 9856064448=(1,some (.var (f.ps.map .p)))/\ak 32=.one (.p (.sl (nP edges)))/\ak 33=vi edges.length/\ak 34=vi k/\ ∀i e,i<k->edges[i]?=some e->(yZ f e==1)=true) 0 edges.length (bd _) ?_ ?_
 .simp only[go_sem,Fc.ps];first|exact⟨rfl,fun i e hi=>absurd hi (qE i)⟩|exact⟨rfl,rfl,fun i e hi=>absurd hi (qE i)⟩|exact fun i e hi=>absurd hi (qE i)
 rintro k ak aj hk ⟨h6,b6,h32,Ea,F1,au⟩
 simp only[Fc.ps,dG,kE] at b6;by_cases aw:k<edges.length
 .have aL:((k:Int)<(edges.length:Int)):=aa;obtain⟨e,hek⟩:=aK aw;have Md:=kQ hek;have w1:=cK (n:=k) aa;simp only[go_sem,i154_l4,h6,b6,h32,Ea,F1,aL,Md];refine cV (fun i cZ aZ=>cZ 6=.one (.bk 9856064448 1 0)/\aZ 9856064448=(1,some (.var (f.ps.map .p)))/\cZ 32=.one (.p (.sl (nP edges)))/\cZ 33=vi edges.length/\cZ 34=vi k/\cZ 8=vi e/\cZ 9=vi ((f.dh.take i).countP fun d=>d/2==e:Nat)/\cZ 39=.one (.p (.sl (nP f.dh)))/\cZ 40=vi f.dh.length/\cZ 41=vi i) 0 f.dh.length (bd _) ?_ ?_
  .simp only[go_sem,h6,b6,h32,Ea,F1,Fc.ps];first|exact⟨rfl,rfl⟩|exact rfl|exact⟨rfl,rfl,rfl⟩
  rintro i cZ aZ hi ⟨p6,d6,p32,p33,ER,p8,p9,p39,p40,p41⟩
  by_cases CG:i<f.dh.length
  .have acq:((i:Int)<(f.dh.length:Int)):=aa;obtain⟨d,hd⟩:=aK CG;have kM:=kQ hd;have w2:=cK (n:=i) aa;have wq:=wrap_small (n:=d/2) (by have:=UN (aU hf) d (aU hd);omega);have bQ:(f.dh.take i).countP (fun d=>d/2==e)<=i:=ll Kq (by rw[eQ];omega);have w3:=cK (n:=(f.dh.take i).countP fun d=>d/2==e) aa;have sH:(f.dh.take (i+1)).countP (fun d=>d/2==e)=(f.dh.take i).countP (fun d=>d/2==e)+if (d/2==e)=true then 1 else 0:=by
    rw[kn,hd,vE];simp[wZ,List.countP_nil]
   cases uZ:(d/2==e) with
   |true=>
    have n3:(((d/2:Nat):Int)==(e:Int))=true:=by
     have:d/2=e:=by simpa using uZ
     simp;omega
    rw[uZ,if_pos rfl] at sH;simp only[go_sem,i154_l1,p6,p32,p33,ER,p8,p9,p39,p40,p41,CG,acq,kM,iI,jC,wq,n3,w2,w3,sH];first|exact d6|exact⟨d6,rfl⟩
   |false=>
    have n3:(((d/2:Nat):Int)==(e:Int))=false:=by
     have:¬d/2=e:=by simpa using uZ
     simp;omega
    rw[uZ,if_neg ae,se] at sH;simp only[go_sem,i154_l1,p6,p32,p33,ER,p8,p9,p39,p40,p41,CG,acq,kM,iI,jC,wq,n3,w2,sH];first|exact d6|exact⟨d6,rfl⟩
  have:i=f.dh.length:=aa;subst this;rw[jh] at p9;have hdc:(f.dh.countP fun d=>d/2==e)=yZ f e:=rfl;rw[hdc] at p9;cases hq:(yZ f e==1) with
  |true=>
   have n4:(((yZ f e:Nat):Int)!=1)=false:=by
    have:yZ f e=1:=by simpa using hq
    simp[bne,this]
   simp only[go_sem,i154_l1,i154_r2,i154_r3,p6,p32,p33,ER,p9,p40,p41,eK,n4,w1,aw];refine⟨d6,fun i2 e2 hi2 Cu=>?_⟩;rcases pV.1 hi2 with h|rfl
   .exact au i2 e2 h Cu
   rw[hek] at Cu;cases Cu;exact hq
  |false=>
   have n4:(((yZ f e:Nat):Int)!=1)=true:=by
    have:¬yZ f e=1:=by simpa using hq
    simp[bne];omega
   have dk:(edges.all fun e=>yZ f e==1)=false:=List.all_eq_false.2 ⟨e,aU hek,by rw[hq];decide⟩;simp only[go_sem,i154_l1,i154_r2,p9,p40,p41,eK,n4,dk]
 have:k=edges.length:=aa;subst this;have dk:(edges.all fun e=>yZ f e==1)=true:=jf.2 fun e he=>by obtain⟨i,hi⟩:=jD he;exact au i e (aS.1 hi).1 hi
 simp only[go_sem,i154_l4,i154_r5,Ea,F1,eK,dk]
def tq(F:Nat)(ls:List Let)(pl:Nat)(edges:List Nat)(e0:Nat):Bool:=DO (tA F ls (2*e0)) pl edges||DO (tA F ls (2*e0+1)) pl edges
theorem SI(g:dr F ls)(edges:List Nat)(dw:edges.length<=1000){e0:Nat}(h0:edges[0]?=some e0)(he0:e0<ls.length)(pl:Nat):
  aI S 135 [.one (.p (eB F ls)),vi pl,.one (.p (.sl (nP edges)))] (rb (tq F ls pl edges e0)):=by
 have hlen:=g.len;obtain⟨j0,a1,a2,a3⟩:=UM g (d:=2*e0) aa;obtain⟨j1,b1,b2,b3⟩:=UM g (d:=2*e0+1) aa;have g0:(eI F ls).getD j0 Nf=tA F ls (2*e0):=by rw[de,a2];rfl
 have g1:(eI F ls).getD j1 Nf=tA F ls (2*e0+1):=by rw[de,b2];rfl
 have pc:=ajP [j0,j1] af (f:=154) (x:=.box [eB F ls]) (y:=.box [.sl (nP edges)]) (z:=.box [.int .i64 pl]) ⟨rfl,rfl,rfl⟩ s154 (fun j=>DO ((eI F ls).getD j Nf) pl edges) (fun v hv=>by
  simp only[cM,iO,or_false] at hv;rcases hv with rfl|rfl
  .rw[g0];exact Zo g a2 edges dw pl
  rw[g1];exact Zo g b2 edges dw pl)
 have amp:([j0,j1].any fun j=>DO ((eI F ls).getD j Nf) pl edges)=tq F ls pl edges e0:=by simp only[List.any_cons,List.any_nil,Bool.or_false,g0,g1];rfl
 rw[amp] at pc;simp only[dG,kE] at pc;have ja:=kQ a1;have jb:=kQ b1;have he:=kQ h0;have m2:=yF (a:=e0) aa;have m3:=cK (n:=2*e0) aa;have rU:=Wb F ls;have l1:2*e0<(nX F ls).length:=aa;have l2:2*e0+1<(nX F ls).length:=aa;have fA:0<edges.length:=(aS.1 h0).1;have hpos':(0:Int)<(edges.length:Int):=aa;refine aY c135 ?_;simp only[go_sem,i135,he,m2,m3,ja,jb,s66,tu pc];exact aH
def fP(ls:List Let)(l:List Pc)(e:Nat):List Pc:=(l.set e (l.getD (nx ls e) ⟨j9,false⟩)).set (nx ls e) (l.getD e ⟨j9,false⟩)
theorem Dk(ls:List Let)(l:List Pc)(e:Nat):(fP ls l e).length=l.length:=by simp[fP]
def iN(ls:List Let)(l:List Pc)(es:List Nat):List Pc:=es.foldl (fP ls) l
theorem Bo(ls:List Let):∀(es:List Nat) (l:List Pc),(iN ls l es).length=l.length:=by
 intro es
 induction es with
 |nil=>intro l;rfl
 |cons e es ih=>intro l;show(iN ls (fP ls l e) es).length=_;rw[ih,Dk]
theorem atO(g:dr F ls)(es:List Nat)(mD:∀e∈es,e<ls.length)(dw:es.length<=1000):
  aI S 142 [.one (.p (eB F ls)),.one (.p (.sl (nP es)))] (.one (aR ml 7 (dJ (iN ls (pieces ls) es)))):=by
 have hlen:=g.len;have bK:=fi ls;have aF:pieces ls≠[]:=gV.1 (by have:=gV.2 g.ne;omega);have pcl:=YT aF aa;have lo:S.lone 9088064256=false:=ah;refine aY c142 ?_;simp only[go_sem,i142,s132];refine lW pcl lo (.inl rfl) fun cc kI gc mA=>?_;rcases gc with ⟨e,_⟩|⟨_,gg,e,hC⟩
 .exact absurd (by simpa using e) aF
 cases e;rw[cF,bK];simp only[go_sem];refine cV (fun k ak aj=>ak 0=.one (.p (eB F ls))/\ak 5=.one (.hsl 9088064256 gg 7 0 ls.length)/\ak 15=.one (.p (.sl (nP es)))/\ak 16=vi es.length/\ak 17=vi k/\aj 9088064256=(gg,some (.arr ml 7 (dJ (iN ls (pieces ls) (es.take k)))))) 0 es.length (bd _) ?_ ?_
 .simp only[go_sem,hC];first|exact⟨rfl,rfl⟩|rfl|exact⟨rfl,rfl,rfl⟩
 rintro k ak aj hk ⟨h0,h5,jG,oX,gJ,bO⟩
 by_cases aw:k<es.length
 .have aL:((k:Int)<(es.length:Int)):=aa;obtain⟨e,he⟩:=aK aw;have Md:=kQ he;have Mb:=mD e (aU he);have pe:=Ce g Mb;have w1:=cK (n:=k) aa;have lH:iN ls (pieces ls) (es.take (k+1))=fP ls (iN ls (pieces ls) (es.take k)) e:=by
   unfold iN;rw[kn,he,BA];rfl
  have ni:(iN ls (pieces ls) (es.take k)).length=ls.length:=by rw[Bo,bK]
  have hm:=dQ (e+1) (show 0<ls.length by omega);generalize iN ls (pieces ls) (es.take k)=m at bO lH ni;obtain⟨p,hp⟩:=aK (ls:=m) (k:=e) aa;obtain⟨q,hq⟩:=aK (ls:=m) (k:=(e+1)%ls.length) aa;have fJ:=jN hp;have Gk:=jN hq;have l1:e<m.length:=aa;have l2:(e+1)%ls.length<m.length:=aa;have s1:=GL m e q;have zu:(m.set e q).set ((e+1)%ls.length) p=fP ls m e:=by unfold fP nx;rw[de,hq,de,hp];rfl
  have s2:=GL (m.set e q) ((e+1)%ls.length) p;rw[zu,<- lH] at s2;simp only[Pc.ps] at s1 s2;obtain⟨p',gO⟩:=aK (ls:=m.set e q) (k:=e) (by rw[th];omega);obtain⟨q',Gj⟩:=aK (ls:=m.set e q) (k:=(e+1)%ls.length) (by rw[th];omega);have VL:=jN Gj;simp only[go_sem,i142_l1,h0,h5,jG,oX,gJ,bO,aw,aL,Md,s127,cX pe ia,Mb,hm,fJ,Gk,VL,s1,s2,Pc.ps,w1];exact aH
 have:k=es.length:=aa;subst this;rw[jh] at bO;simp only[go_sem,i142_l1,i142_r2,h5,oX,gJ,eK];have h1:(iN ls (pieces ls) es).length=ls.length:=by rw[Bo,bK]
 refine tE (.inr ⟨?_,gg,by rw[cF,h1],bO⟩);intro h2;have:=congrArg List.length h2;rw[cF,h1,dN] at this;have h3:=gV.2 g.ne;omega
def fV(l:List Pc)(i:Nat)(r:Int):List Pc:=l.set i {(l.getD i ⟨j9,false⟩) with l:={(l.getD i ⟨j9,false⟩).l with aB:=r}}
theorem yy(l:List Pc)(i:Nat)(r:Int):(fV l i r).length=l.length:=by simp[fV]
def xn(F:Nat)(ls:List Let)(av bv:Nat):Option (List Pc):=
 if (iM ls av).2.2&&((iM ls bv).2.2&&(!((iM ls av).2.1==(iM ls bv).2.1)&&(((pA ls (iM ls av).2.1).l.id==(pA ls (iM ls bv).2.1).l.id)&&tq F ls 1 [av,bv] av)))
 then some (iN ls (fV (fV (pieces ls) (iM ls av).1 (pA ls (iM ls bv).1).l.aB) (iM ls bv).1 (pA ls (iM ls av).1).l.aB) [av,bv]) else none
theorem WH{e:Nat}(he:e<ls.length):(iM ls e).1<ls.length/\(iM ls e).2.1<ls.length:=by
 have hm:=dQ (e+1) (show 0<ls.length by omega);unfold iM nx;split
 .exact⟨hm,he⟩
 exact⟨he,hm⟩
theorem aiM(g:dr F ls){av bv:Nat}(ha:av<ls.length)(hb:bv<ls.length){k c:Int}{l o:Bool}{sg:Int}:
  aI S 110 [.one (.p (eB F ls)),lL k av bv c l o sg] (kR (xn F ls av bv)):=by
 have hlen:=g.len;have bK:=fi ls;have pa:=afk g ha;have pb:=afk g hb;have pc:=SI g [av,bv] af (e0:=av) rfl ha 1;obtain⟨p1,v1⟩:=WH ha;obtain⟨q1,w1⟩:=WH hb;unfold xn;generalize iM ls av=x at*;generalize iM ls bv=y at*;obtain⟨pi,Kf,one⟩:=x;obtain⟨qi,wi,two⟩:=y;simp only at pa pb p1 v1 q1 w1 ⊢;simp only[dG,kE] at pc;have c1:((1:Nat):Int)=1:=rfl;rw[c1] at pc;obtain⟨P,hP⟩:=aK (ls:=pieces ls) (k:=pi) aa;obtain⟨Q,hQ⟩:=aK (ls:=pieces ls) (k:=qi) aa;obtain⟨V,hV⟩:=aK (ls:=pieces ls) (k:=Kf) aa
 obtain⟨W,hW⟩:=aK (ls:=pieces ls) (k:=wi) aa;rw[jA hP,jA hQ,jA hV,jA hW];have hPp:=jN hP;have hQp:=jN hQ;have hVp:=jN hV;have hWp:=jN hW;have aF:pieces ls≠[]:=gV.1 aa;have pcl:=YT aF aa;have lo:S.lone 7040384256=false:=ah;refine aY c110 ?_;cases one with
 |false=>simp only[go_sem,i110,s134,cX pa yf,cX pb yf];exact⟨aH,rfl⟩
 |true=>
 cases two with
 |false=>simp only[go_sem,i110,s134,cX pa yf,cX pb yf];exact⟨aH,rfl⟩
 |true=>
 cases c2:(Kf==wi) with
 |true=>
  have n2:((Kf:Int)==(wi:Int))=true:=by simp[show Kf=wi by simpa using c2]
  simp only[go_sem,i110,s134,cX pa yf,cX pb yf,n2];exact⟨aH,rfl⟩
 |false=>
 have n2:((Kf:Int)==(wi:Int))=false:=by
  have:¬Kf=wi:=by simpa using c2
  simp;omega
 cases c3:(V.l.id==W.l.id) with
 |false=>
  have n3:(V.l.id !=W.l.id)=true:=by simp[bne,c3]
  simp only[go_sem,i110,s134,cX pa yf,cX pb yf,n2,hVp,hWp,Pc.ps,n3];exact⟨aH,rfl⟩
 |true=>
 have n3:(V.l.id !=W.l.id)=false:=by simp[bne,c3]
 cases c4:tq F ls 1 [av,bv] av with
 |false=>rw[c4] at pc;simp only[go_sem,i110,s134,cX pa yf,cX pb yf,n2,hVp,hWp,Pc.ps,n3,s135,tu pc];exact⟨aH,rfl⟩
 |true=>
 rw[c4] at pc;simp only[go_sem,i110,s134,cX pa yf,cX pb yf,n2,hVp,hWp,hPp,hQp,Pc.ps,n3,s135,tu pc,s132];refine⟨aH,aH,?_⟩;refine lW pcl lo (.inl rfl) fun cc kI gc mA=>?_;have b3:=mA 7040000000 ae;simp only[go_sem] at b3;rcases gc with ⟨e,_⟩|⟨_,gg,e,hC⟩
 .exact absurd (by simpa using e) aF
 cases e;rw[cF,bK];have s1:=GL (pieces ls) pi {P with l:={P.l with aB:=Q.l.aB}};have gQ:(pieces ls).set pi {P with l:={P.l with aB:=Q.l.aB}}=fV (pieces ls) pi Q.l.aB:=by unfold fV;rw[de,hP];rfl
 rw[gQ] at s1;have jx:(fV (pieces ls) pi Q.l.aB).length=ls.length:=by rw[yy,bK]
 obtain⟨Q',hQ'⟩:=aK (ls:=fV (pieces ls) pi Q.l.aB) (k:=qi) aa;have aml:=jN hQ';have s2:=GL (fV (pieces ls) pi Q.l.aB) qi {Q' with l:={Q'.l with aB:=P.l.aB}};have eh:(fV (pieces ls) pi Q.l.aB).set qi {Q' with l:={Q'.l with aB:=P.l.aB}}=fV (fV (pieces ls) pi Q.l.aB) qi P.l.aB:=by rw[fV.eq_def (fV (pieces ls) pi Q.l.aB),de,hQ'];rfl
 rw[eh] at s2;simp only[Pc.ps] at s1 s2;have tM:(fV (fV (pieces ls) pi Q.l.aB) qi P.l.aB).length=ls.length:=by rw[yy,jx]
 simp only[go_sem,b3,hC,hPp,aml,Pc.ps,s1,s2,p1,q1];generalize fV (fV (pieces ls) pi Q.l.aB) qi P.l.aB=M at tM ⊢;obtain⟨es,Pf⟩:∃es,es=[av,bv]:=⟨_,rfl⟩;have Pb:es.length=2:=by rw[Pf];rfl
 have mD:∀e∈es,e<ls.length:=fun e he=>by rw[Pf] at he;simp only[cM,iO,or_false] at he;rcases he with rfl|rfl<;>assumption
 refine cV (fun k ak aj=>ak 0=.one (.p (eB F ls))/\ak 14=.one (.hsl 7040384256 gg 7 0 ls.length)/\(∃ge,ak 116=.one (.hsl 7040512256 ge 1 0 2)/\aj 7040512256=(ge,some (.arr 3 1 (nP es))))/\ak 117=vi ((2:Nat):Int)/\ak 118=vi k/\aj 7040384256=(gg,some (.arr ml 7 (dJ (iN ls M (es.take k)))))) 0 2 (bd _) ?_ ?_
 .simp only[go_sem];exact⟨⟨_,rfl,by rw[Pf];rfl⟩,rfl,rfl⟩
 rintro k ak aj hk ⟨h0,lX,⟨ge,D0,bE⟩,abW,abX,bO⟩
 by_cases aw:k<2
 .have aL:((k:Int)<((2:Nat):Int)):=aa;have Pm:k<es.length:=aa;obtain⟨e,he⟩:=aK Pm;have Md:=kQ he;have Mb:=mD e (aU he);have pe:=Ce g Mb;have w1:=cK (n:=k) aa;have lH:iN ls M (es.take (k+1))=fP ls (iN ls M (es.take k)) e:=by
   unfold iN;rw[kn,he,BA];rfl
  have ni:(iN ls M (es.take k)).length=ls.length:=by rw[Bo,tM]
  have hm:=dQ (e+1) (show 0<ls.length by omega);generalize iN ls M (es.take k)=m at bO lH ni;obtain⟨p,hp⟩:=aK (ls:=m) (k:=e) aa;obtain⟨q,hq⟩:=aK (ls:=m) (k:=(e+1)%ls.length) aa;have fJ:=jN hp;have Gk:=jN hq;have l1:e<m.length:=aa;have l2:(e+1)%ls.length<m.length:=aa;have s1:=GL m e q;have zu:(m.set e q).set ((e+1)%ls.length) p=fP ls m e:=by unfold fP nx;rw[de,hq,de,hp];rfl
  have s2:=GL (m.set e q) ((e+1)%ls.length) p;rw[zu,<- lH] at s2;simp only[Pc.ps] at s1 s2;obtain⟨q',Gj⟩:=aK (ls:=m.set e q) (k:=(e+1)%ls.length) (by rw[th];omega);have VL:=jN Gj;simp only[go_sem,i110_l1,h0,lX,D0,abW,abX,bE,bO,aw,aL,Md,s127,cX pe ia,Mb,hm,fJ,Gk,VL,s1,s2,Pc.ps,w1];first|exact⟨aH,ge,rfl,rfl⟩|exact⟨aH,⟨ge,rfl,rfl⟩⟩|exact⟨aH,⟨ge,rfl,rfl⟩,rfl⟩|trace_state
 have:k=2:=aa;subst this;have e1:es.take 2=[av,bv]:=by rw[Pf];rfl
 rw[e1] at bO;have nN:¬(((2:Nat):Int)<((2:Nat):Int)):=aa;simp only[go_sem,i110_l1,i110_r2,lX,abW,abX,nN];have h1:(iN ls M [av,bv]).length=ls.length:=by rw[Bo,tM]
 refine xD (.inr ⟨?_,gg,by rw[mS,cF,h1],bO⟩);intro h2;have:=congrArg List.length h2;rw[mS,cF,h1,dN] at this;omega
def QR(l:List Pc)(i:Nat)(g r:Int):List Pc:=l.set i {(l.getD i ⟨j9,false⟩) with l:={(l.getD i ⟨j9,false⟩).l with gate:=g,aB:=r}}
def trR(F:Nat)(ls:List Let)(av:Nat):Option (List Pc):=
 if ((pA ls av).l.kind==1)&&(decide ((pA ls av).l.gate<(F:Int))&&((pA ls av).l.aB==(cg ls (pA ls av).l.gate.toNat:Int)))
 then some (QR (jP (pieces ls) ((pA ls av).l.gate+1) 0 1) av ((pA ls av).l.gate+1) 1) else none
def tlR(ls:List Let)(av:Nat):Option (List Pc):=
 if ((pA ls av).l.kind==1)&&(decide (0<(pA ls av).l.gate)&&((pA ls av).l.aB==1))
 then some (QR (jP (pieces ls) (pA ls av).l.gate 1 (-1)) av ((pA ls av).l.gate-1) ((cg ls ((pA ls av).l.gate-1).toNat+1:Nat):Int)) else none
end
end Go.Abs
