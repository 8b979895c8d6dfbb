/- A part. -/
import Derived.Test.YthcnadmehopfcaaGreatDoorWn
set_option linter.all false
set_option maxRecDepth 100000
set_option maxHeartbeats 16000000
namespace Go.Abs
section
variable{ls:List Let}{F:Nat}
def NG(l:List Pc)(drop:Nat->Pc->Bool)(i:Nat):Option Pc:=match l[i]? with|some p=>if drop i p then none else some p|none=>none
def tP(l:List Pc)(drop:Nat->Pc->Bool)(k:Nat):List Pc:=(List.range k).filterMap (NG l drop)
def pI(l:List Pc)(drop:Nat->Pc->Bool):List Pc:=tP l drop l.length
theorem Bh{l:List Pc}{drop:Nat->Pc->Bool}{k:Nat}{p:Pc}(h:l[k]?=some p)(hd:drop k p=true):tP l drop (k+1)=tP l drop k:=by simp[tP,we,aij,NG,h,hd]
theorem JN{l:List Pc}{drop:Nat->Pc->Bool}{k:Nat}{p:Pc}(h:l[k]?=some p)(hd:drop k p=false):tP l drop (k+1)=tP l drop k++[p]:=by simp[tP,we,aij,NG,h,hd]
theorem GK(l:List Pc)(drop:Nat->Pc->Bool)(k:Nat):(tP l drop k).length<=k:=by have:=List.length_filterMap_le (NG l drop) (List.range k);rwa[Dy] at this
theorem Cl(g:cH F ls){e:Nat}(he:e<ls.length):aK S 139 [.one (.p (eQ F ls)),vi e] (yC (.int .i64 e) (.int .i64 ((e+1)%ls.length:Nat))):=by have hlen:=g.len;have bU:=gG ls;have w1:=cA (n:=e) aa;have e1:=uU (e+1) ls.length;have hz:¬((ls.length:Int)=0):=aa;refine bh c139 ?_;simp only[go_sem,i139,w1,e1,bU,hz];exact⟨aH,rfl⟩
theorem ah4(l:List Pc)(hl:l.length<=1000000){f:Nat}{x y:PV}(hn:x.norm=x/\y.norm=y)(iv:S.shared f=false)(drop:Nat->Pc->Bool)(hd:∀(k:Nat) (p:Pc),l[k]?=some p->aK S f [vi k,.agg (p.ps.map .p),.one (.p x),.one (.p y)] (rb (drop k p))):
  aK S 140 [.one (.p (.sl (dN l))),.one (.p (.fn f [] [x,y]))] (.one (aT ml 7 (dN (pI l drop)))):=by
 obtain⟨iu,iD⟩:=hn;refine bh c140 ?_;simp only[go_sem,i140];refine cU (fun k ak aj=>ak 1=.one (.p (.fn f [] [x,y]))/\ak 8=.one (.p (.sl (dN l)))/\ak 9=vi l.length/\ak 10=vi k/\ ∃c,ak 5=.one c/\grown 8960384192 ml 7 (dN (tP l drop k)) (.one c) aj) 0 l.length (bl _) ?_ ?_
 .simp only[go_sem];first|exact⟨rfl,_,rfl,.inl ⟨rfl,rfl⟩⟩|exact⟨_,rfl,.inl ⟨rfl,rfl⟩⟩|exact⟨rfl,rfl,_,rfl,.inl ⟨rfl,rfl⟩⟩
 rintro k ak aj hk ⟨h1,h8,h9,dZ,c,h5,gc⟩
 by_cases au:k<l.length
 .have aL:((k:Int)<(l.length:Int)):=aa;obtain⟨p,hp⟩:=aM au;have hJ:=jJ hp;have w1:=cA (n:=k) aa;have pd:=hd k p hp;have ef:=GK l drop k;simp only[Pc.ps,dK,j7] at pd;cases hb:drop k p with
  |true=>rw[hb] at pd;have hs:=Bh hp hb;simp only[go_sem,i140_l1,h1,h5,h8,h9,dZ,au,aL,hJ,Pc.ps,iu,iD,iv,dA pd,w1];refine⟨c,rfl,?_⟩;rw[hs];exact gc.of_eq (by simp only[aN,Nat.reduceEqDiff,if_false])
  |false=>rw[hb] at pd;have hs:=JN hp hb;simp only[go_sem,i140_l1,h1,h5,h8,h9,dZ,aL,hJ,Pc.ps,iu,iD,iv,dA pd];refine sB (site:=8960384192) (id:=8960384192) (bytes:=56) (xs:=[p.ps]) (rd:=[8960384128]) (gc.of_eq (by simp only[aN,Nat.reduceEqDiff,if_false])) (by simp[fh,aN,Pc.ps]) (.inl rfl) (by simp only[cD,dh,ez];omega) fun c' bQ hc ir=>?_;simp only[go_sem,h1,h8,h9,dZ,au,w1];refine⟨c',rfl,?_⟩;rw[hs,af3];exact hc
 have:k=l.length:=aa;subst this;simp only[go_sem,i140_l1,i140_r2,h5,h9,dZ,dT];exact zt gc
theorem avw(l:List Pc)(hl:l.length<=1000000){f:Nat}{x:PV}(hn:x.norm=x)(iv:S.shared f=false)(drop:Nat->Pc->Bool)(hd:∀(k:Nat) (p:Pc),l[k]?=some p->aK S f [vi k,.agg (p.ps.map .p),.one (.p x)] (rb (drop k p))):
  aK S 140 [.one (.p (.sl (dN l))),.one (.p (.fn f [] [x]))] (.one (aT ml 7 (dN (pI l drop)))):=by
 have iu:=hn;refine bh c140 ?_;simp only[go_sem,i140];refine cU (fun k ak aj=>ak 1=.one (.p (.fn f [] [x]))/\ak 8=.one (.p (.sl (dN l)))/\ak 9=vi l.length/\ak 10=vi k/\ ∃c,ak 5=.one c/\grown 8960384192 ml 7 (dN (tP l drop k)) (.one c) aj) 0 l.length (bl _) ?_ ?_
 .simp only[go_sem];first|exact⟨rfl,_,rfl,.inl ⟨rfl,rfl⟩⟩|exact⟨_,rfl,.inl ⟨rfl,rfl⟩⟩|exact⟨rfl,rfl,_,rfl,.inl ⟨rfl,rfl⟩⟩
 rintro k ak aj hk ⟨h1,h8,h9,dZ,c,h5,gc⟩
 by_cases au:k<l.length
 .have aL:((k:Int)<(l.length:Int)):=aa;obtain⟨p,hp⟩:=aM au;have hJ:=jJ hp;have w1:=cA (n:=k) aa;have pd:=hd k p hp;have ef:=GK l drop k;simp only[Pc.ps,dK,j7] at pd;cases hb:drop k p with
  |true=>rw[hb] at pd;have hs:=Bh hp hb;simp only[go_sem,i140_l1,h1,h5,h8,h9,dZ,au,aL,hJ,Pc.ps,iu,iv,dA pd,w1];refine⟨c,rfl,?_⟩;rw[hs];exact gc.of_eq (by simp only[aN,Nat.reduceEqDiff,if_false])
  |false=>rw[hb] at pd;have hs:=JN hp hb;simp only[go_sem,i140_l1,h1,h5,h8,h9,dZ,aL,hJ,Pc.ps,iu,iv,dA pd];refine sB (site:=8960384192) (id:=8960384192) (bytes:=56) (xs:=[p.ps]) (rd:=[8960384128]) (gc.of_eq (by simp only[aN,Nat.reduceEqDiff,if_false])) (by simp[fh,aN,Pc.ps]) (.inl rfl) (by simp only[cD,dh,ez];omega) fun c' bQ hc ir=>?_;simp only[go_sem,h1,h8,h9,dZ,au,w1];refine⟨c',rfl,?_⟩;rw[hs,af3];exact hc
 have:k=l.length:=aa;subst this;simp only[go_sem,i140_l1,i140_r2,h5,h9,dZ,dT];exact zt gc
theorem aaC(k i j:Nat)(p:Pc):aK S 141 [vi k,.agg (p.ps.map .p),.one (.p (.box [.int .i64 i])),.one (.p (.box [.int .i64 j]))] (rb (decide (k=i)||decide (k=j))):=by
 refine bh c141 ?_;by_cases h1:k=i
 .have e1:((k:Int)==(i:Int))=true:=by simp[h1]
  rw[show(decide (k=i)||decide (k=j))=true by simp[h1]];simp only[go_sem,i141,Pc.ps,e1]
 have e1:((k:Int)==(i:Int))=false:=by simp;omega
 by_cases h2:k=j
 .have e2:((k:Int)==(j:Int))=true:=by simp[h2]
  rw[show(decide (k=i)||decide (k=j))=true by simp[h2]];simp only[go_sem,i141,Pc.ps,e1,e2]
 have e2:((k:Int)==(j:Int))=false:=by simp;omega
 rw[show(decide (k=i)||decide (k=j))=false by simp[h1,h2]];simp only[go_sem,i141,Pc.ps,e1,e2]
def uO(a b:Int):Int:=if a<b then b else a
def zZ(a b:Int):Int:=if b<a then b else a
def wB(ls:List Let)(av:Nat):Option (List Pc):=
 let p:=(pieces ls).getD av ⟨kz,false⟩
 let q:=(pieces ls).getD ((av+1)%ls.length) ⟨kz,false⟩
 if (p.l.kind==1)&&((q.l.kind==1)&&((p.l.gate==q.l.gate)&&((uO p.l.aE q.l.aE-zZ p.l.aE q.l.aE==1)&& !(decide (aw Let.aG ls<=2)&&decide (0<aw Let.aC ls/2)))))
 then some (j5 (pI (pieces ls) fun k _=>decide (k=av)||decide (k=(av+1)%ls.length)) p.l.gate (uO p.l.aE q.l.aE) (-2)) else none
theorem WQ{l:List Pc}{drop:Nat->Pc->Bool}{p:Pc}(h:p∈pI l drop):p∈l:=by
 obtain⟨i,_,hi⟩:=YA.1 h;unfold NG at hi;cases hl:l[i]? with
 |none=>rw[hl] at hi;cases hi
 |some q=>
  rw[hl] at hi;simp only at hi;split at hi
  .cases hi
  cases hi;exact aU hl
theorem ajA(g:cH F ls){av:Nat}(ha:av<ls.length){k b c:Int}{l o:Bool}{sg:Int}:
  aK S 112 [.one (.p (eQ F ls)),oD k av b c l o sg] (kR (wB ls av)):=by
 have hlen:=g.len;have bU:=gG ls;have pe:=Cl g ha;have hm:=dO (av+1) (show 0<ls.length by omega);have qQ:=asf g;obtain⟨p,hp⟩:=aM (ls:=pieces ls) (k:=av) aa;obtain⟨q,hq⟩:=aM (ls:=pieces ls) (k:=(av+1)%ls.length) aa;obtain⟨p1,p2⟩:=qQ p (aU hp);obtain⟨q1,q2⟩:=qQ q (aU hq);have gD:=jJ hp;have pE:=jJ hq;have iv:S.shared 142=true:=ah;have lo:S.lone 7168320320=false:=ah;have eI:=g.cr;unfold wB;simp only[di,hp,hq,mV];refine bh c112 ?_;cases c1:(p.l.kind==1) with
 |false=>
  have n1:(p.l.kind !=1)=true:=by simp[bne,c1]
  simp only[go_sem,i112,s139,cV pe gR,gD,pE,Pc.ps,n1];exact⟨aH,rfl⟩
 |true=>
 have n1:(p.l.kind !=1)=false:=by simp[bne,c1]
 cases c2:(q.l.kind==1) with
 |false=>
  have n2:(q.l.kind !=1)=true:=by simp[bne,c2]
  simp only[go_sem,i112,s139,cV pe gR,gD,pE,Pc.ps,n1,n2];exact⟨aH,rfl⟩
 |true=>
 have n2:(q.l.kind !=1)=false:=by simp[bne,c2]
 cases c3:(p.l.gate==q.l.gate) with
 |false=>
  have n3:(p.l.gate !=q.l.gate)=true:=by simp[bne,c3]
  simp only[go_sem,i112,s139,cV pe gR,gD,pE,Pc.ps,n1,n2,n3];exact⟨aH,rfl⟩
 |true=>
 have n3:(p.l.gate !=q.l.gate)=false:=by simp[bne,c3]
 have rJ:(if q.l.aE>p.l.aE then q.l.aE else p.l.aE)=uO p.l.aE q.l.aE:=rfl;have l6:(if q.l.aE<p.l.aE then q.l.aE else p.l.aE)=zZ p.l.aE q.l.aE:=rfl;have hmxb: -1000000<=uO p.l.aE q.l.aE/\uO p.l.aE q.l.aE<=1000000:=by unfold uO;split<;>omega
 have hmnb: -1000000<=zZ p.l.aE q.l.aE/\zZ p.l.aE q.l.aE<=1000000:=by unfold zZ;split<;>omega
 have wd:=vX (x:=uO p.l.aE q.l.aE-zZ p.l.aE q.l.aE) aa aa;generalize uO p.l.aE q.l.aE=mx at*;generalize zZ p.l.aE q.l.aE=mn at*;cases c4:(mx-mn==1) with
 |false=>
  have n4:(mx-mn !=1)=true:=by simp[bne,c4]
  simp only[go_sem,i112,s139,cV pe gR,gD,pE,Pc.ps,n1,n2,n3,rJ,l6,wd,n4];exact⟨aH,rfl⟩
 |true=>
 have n4:(mx-mn !=1)=false:=by simp[bne,c4]
 have eF:∀(X:Prop),X->X:=fun _ h=>h;by_cases c5:aw Let.aG ls<=2
 .have n5:((aw Let.aG ls:Int)<=2):=aa;by_cases c6:0<aw Let.aC ls/2
  .have n6:((0:Int)<((aw Let.aC ls/2:Nat):Int)):=aa;rw[xx c5,xx c6];simp only[go_sem,i112,s139,cV pe gR,gD,pE,Pc.ps,n1,n2,n3,rJ,l6,wd,n4,n5,n6];exact⟨aH,rfl⟩
  have n6:¬((0:Int)<((aw Let.aC ls/2:Nat):Int)):=aa;rw[xx c5,u4 c6];simp only[go_sem,i112,s139,cV pe gR,gD,pE,Pc.ps,n1,n2,n3,rJ,l6,wd,n4,n5,n6,s140];refine⟨aH,?_⟩;refine rC (ah4 (pieces ls) aa ⟨rfl,rfl⟩ s141 (fun k _=>decide (k=av)||decide (k=(av+1)%ls.length)) (fun k p _=>aaC k av ((av+1)%ls.length) p)) lo (.inr (qD (Dk _))) fun cc bQ gc hb=>?_;have b8:=hb 7168128896 ae;have b9:=hb 7168128960 ae;simp only[go_sem] at b8 b9;simp only[go_sem,b8,b9,rJ,iv];refine acC (l:=pI (pieces ls) fun k _=>decide (k=av)||decide (k=(av+1)%ls.length)) (mT (GK _ _ _) aa) ae (fun x hx=>qQ x (WQ hx)) gc fun bj vk bn=>?_;simp only[go_sem];exact wK vk
 have n5:¬((aw Let.aG ls:Int)<=2):=aa;rw[u4 c5];simp only[go_sem,i112,s139,cV pe gR,gD,pE,Pc.ps,n1,n2,n3,rJ,l6,wd,n4,n5,s140];refine⟨aH,?_⟩;refine rC (ah4 (pieces ls) aa ⟨rfl,rfl⟩ s141 (fun k _=>decide (k=av)||decide (k=(av+1)%ls.length)) (fun k p _=>aaC k av ((av+1)%ls.length) p)) lo (.inr (qD (Dk _))) fun cc bQ gc hb=>?_;have b8:=hb 7168128896 ae;have b9:=hb 7168128960 ae;simp only[go_sem] at b8 b9;simp only[go_sem,b8,b9,rJ,iv];refine acC (l:=pI (pieces ls) fun k _=>decide (k=av)||decide (k=(av+1)%ls.length)) (mT (GK _ _ _) aa) ae (fun x hx=>qQ x (WQ hx)) gc fun bj vk bn=>?_;simp only[go_sem];exact wK vk
abbrev iP(o:List Int):List (List PV):=o.map fun n=>[PV.int .i64 n]
theorem wW{o:List Int}{k:Nat}{v:Int}(h:o[k]?=some v):(iP o)[k]?=some [.int .i64 v]:=by simp[h]
def nX(o:List Int)(x:Int)(i:Nat):Bool:=match o[i]? with|some y=>y==x|none=>false
theorem aoI(o:List Int)(x:Int)(hl:o.length<=1000000):aK S 200 [.one (.p (.sl (iP o))),vi x] (ri (match (List.range o.length).find? (nX o x) with|some k=>(k:Int)|none=> -1)):=by
 refine bh c200 ?_;simp only[go_sem,i200];refine cU (fun k ak aj=>ak 0=.one (.p (.sl (iP o)))/\ak 1=vi x/\ak 7=vi o.length/\ak 8=vi k/\ ∀j,j<k->nX o x j=false) 0 o.length (bl _) ?_ ?_
 .simp only[go_sem];exact⟨rfl,fun j hj=>absurd hj (nE j)⟩
 rintro k ak aj hk ⟨h0,h1,h7,h8,hn⟩
 by_cases au:k<o.length
 .have aL:((k:Int)<(o.length:Int)):=aa;obtain⟨y,hy⟩:=aM au;have hJ:=wW hy;have w1:=cA (n:=k) aa;have qP:nX o x k=(y==x):=by simp[nX,hy]
  cases hb:(y==x) with
  |true=>
   have xR:(x==y)=true:=by have:=dI.1 hb;simp[this]
   rw[hb] at qP;have hf:=Cp (p:=nX o x) au hn qP;simp only[go_sem,i200_l1,h0,h1,h7,h8,aL,hJ,xR,hf];first|done|exact aH|rfl
  |false=>
   have xR:(x==y)=false:=by
    have:¬y=x:=by simpa using hb
    simp;exact fun h=>this h.symm
   rw[hb] at qP;have Et:∀j,j<k+1->nX o x j=false:=fun j hj=>by
    rcases mU.1 hj with h|rfl
    .exact hn j h
    exact qP
   simp only[go_sem,i200_l1,h0,h1,h7,h8,au,aL,hJ,xR,w1];first|exact Et|exact⟨aH,Et⟩
 have:k=o.length:=aa;subst this;have hf:=IU (p:=nX o x) hn;simp only[go_sem,i200_l1,i200_r2,h7,h8,dT,hf]
theorem akO(o:List Int)(x:Int)(hl:o.length<=1000000):aK S 175 [.one (.p (.sl (iP o))),vi x] (rb (o.contains x)):=by
 have pi:=aoI o x hl;refine bh c175 ?_;cases hm:o.contains x with
 |true=>
  have oZ:x∈o:=by simpa using hm
  obtain⟨k,hk⟩:=je oZ;have ef:=(aW.1 hk).1;cases hf:(List.range o.length).find? (nX o x) with
  |none=>have:=K5.1 hf k (gA.2 ef);simp[nX,hk] at this
  |some j=>rw[hf] at pi;have sI:(0:Int)<=(j:Int):=aa;simp only[go_sem,i175,s200,dY pi,sI]
 |false=>
  have oZ:x∉o:=by simpa using hm
  cases hf:(List.range o.length).find? (nX o x) with
  |some j=>
   have h1:=OC hf;unfold nX at h1;cases ho:o[j]? with
   |none=>rw[ho] at h1;cases h1
   |some y=>
    rw[ho] at h1;have:y=x:=by simpa using h1
    subst this;exact absurd (aU ho) oZ
  |none=>rw[hf] at pi;have sI:¬(0:Int)<= -1:=ae;simp only[go_sem,i175,s200,dY pi,sI]
def uu(ids:List Int)(_:Nat)(p:Pc):Bool:=(p.l.kind==2)&&ids.contains p.l.id
theorem alw(ids:List Int)(hl:ids.length<=1000000)(k:Nat)(p:Pc):aK S 174 [vi k,.agg (p.ps.map .p),.one (.p (.box [.sl (iP ids)]))] (rb (uu ids k p)):=by
 have pc:=akO ids p.l.id hl;refine bh c174 ?_;unfold uu;cases h:(p.l.kind==2) with
 |true=>simp only[go_sem,i174,Pc.ps,h,s175,dA pc]
 |false=>simp only[go_sem,i174,Pc.ps,h]
def jH(ids:List Int)(k:Nat)(p:Pc):Pc:={p with l:={p.l with id:=p.l.id-((ids.take k).countP (fun i=>decide (i<p.l.id)):Nat)}}
def rO(ids:List Int)(p:Pc):Pc:=if p.l.kind==2 then jH ids ids.length p else p
abbrev IH(l:List Pc)(ids:List Int):List Pc:=(pI l (uu ids)).map (rO ids)
abbrev tQ(ids:List Int)(l:List Pc)(k:Nat):List Pc:=(l.take k).map (rO ids)++l.drop k
theorem ae5{ids:List Int}{l:List Pc}{k:Nat}{p:Pc}(h:l[k]?=some p):(tQ ids l k)[k]?=some p:=by have hk:=(aW.1 h).1;rw[tQ,v8 (by rw[cD,fX];omega),cD,fX,Ar aa,HO,xu];exact h
theorem apP(ids:List Int)(l:List Pc)(k:Nat):(tQ ids l k).length=l.length:=by rw[tQ,ff,cD,fX,jy];omega
theorem apQ{ids:List Int}{l:List Pc}{k:Nat}{p:Pc}(h:l[k]?=some p):(tQ ids l k).set k (rO ids p)=tQ ids l (k+1):=by
 have hk:=(aW.1 h).1;have zB:l.drop k=p::l.drop (k+1):=by obtain⟨hh,rfl⟩:=aW.1 h;exact Yr hh
 have e1:((l.take k).map (rO ids)).length=k:=by rw[cD,fX];omega
 rw[tQ,YC _ _ aa,e1,HO,zB,YD,tQ,kX,h];simp
theorem G0(o:List Pc)(k:Nat)(p:Pc):(dN o).set k p.ps=dN (o.set k p):=by simp[K9]
theorem aaG(l:List Pc)(ids:List Int)(hl:l.length<=1000000)(hi:ids.length<=1000)(hb:∀p∈l,-1000000<=p.l.id/\p.l.id<=1000000):
  aK S 148 [.one (.p (.sl (dN l))),.one (.p (.sl (iP ids)))] (.one (aT ml 7 (dN (IH l ids)))):=by
 have pw:=avw l hl (f:=174) (x:=.box [.sl (iP ids)]) rfl s174 (uu ids) (fun k p _=>alw ids aa k p);have lo:S.lone 9472064128=false:=ah;have o9:∀p∈pI l (uu ids),-1000000<=p.l.id/\p.l.id<=1000000:=fun p hp=>hb p (WQ hp);have ef:(pI l (uu ids)).length<=1000000:=mT (GK _ _ _) hl;refine bh c148 ?_;simp only[go_sem,i148,s140];refine rC pw lo (.inr (qD (Dk _))) fun cc nL gc mJ=>?_;have z3:=mJ 9472000000 ae;simp only[go_sem] at z3;unfold IH;generalize pI l (uu ids)=m at gc o9 ef;rcases gc with ⟨e,e2⟩|⟨aI,gg,e2,hC⟩
 .cases e2;have:m=[]:=by simpa using e
  subst this;have hz:¬(((0:Nat):Int)<((0:Nat):Int)):=aa;simp only[go_sem];refine cU (fun k ak aj=>k=0/\ak 5=.one (.p .nils)/\ak 14=vi ((0:Nat):Int)/\ak 15=vi ((0:Nat):Int)) 0 0 (bJ _) ?_ ?_
  .simp only[go_sem];exact rfl
  rintro k ak aj _ ⟨rfl,h5,lW,kZ⟩
  simp only[go_sem,i148_l3,i148_r4,h5,lW,kZ,hz];rfl
 cases e2;simp only[go_sem];refine cU (fun k ak aj=>ak 3=.one (.aY 9472000000 1 0)/\aj 9472000000=(1,some (.var [.p (.sl (iP ids))]))/\ak 5=.one (.hsl 9472064128 gg 7 0 m.length)/\ak 13=.one (.hsl 9472064128 gg 7 0 m.length)/\ak 14=vi m.length/\ak 15=vi k/\aj 9472064128=(gg,some (.arr ml 7 (dN (tQ ids m k))))) 0 m.length (bl _) ?_ ?_
 .simp only[go_sem,z3,hC];refine⟨rfl,?_⟩;simp[tQ]
 rintro k ak aj hk ⟨h3,bI,h5,sC,lW,kZ,bO⟩
 by_cases au:k<m.length
 .have aL:((k:Int)<(m.length:Int)):=aa;obtain⟨p,hp⟩:=aM au;have wT:=jJ (ae5 (ids:=ids) hp);have w1:=cA (n:=k) aa;have yf:=apP ids m k;have gQ:=apQ (ids:=ids) hp;have hlk:k<(tQ ids m k).length:=aa;cases c1:(p.l.kind==2) with
  |false=>
   have n1:(p.l.kind !=2)=true:=by simp[bne,c1]
   have Bd:tQ ids m (k+1)=tQ ids m k:=by
    rw[<- gQ];have e:rO ids p=p:=by unfold rO;rw[c1];rfl
    rw[e];obtain⟨hh,he⟩:=aW.1 (ae5 (ids:=ids) hp);rw[<- he,aiq]
   simp only[go_sem,i148_l3,i148_r2,h3,bI,h5,sC,lW,kZ,bO,au,aL,wT,Pc.ps,n1,w1,Bd]
  |true=>
   have n1:(p.l.kind !=2)=false:=by simp[bne,c1]
   have hid:=o9 p (aU hp);have zE:rO ids p=jH ids ids.length p:=by unfold rO;rw[c1];rfl
   rw[zE] at gQ;generalize tQ ids m k=q at wT yf gQ hlk bO;have q0:q.set k (jH ids 0 p)=q:=by
    have:jH ids 0 p=p:=by unfold jH;simp
    rw[this];have h1:q[k]?=some p:=by
     have h2:(dN q)[k]?=some p.ps:=wT;rw[fQ] at h2;cases hq:q[k]? with
     |none=>rw[hq] at h2;cases h2
     |some x=>rw[hq] at h2;simp[Pc.ps] at h2;obtain⟨⟨a,b,c,d,e,f⟩,g⟩:=x;obtain⟨⟨a',b',c',d',e',f'⟩,g'⟩:=p;simp at h2;obtain⟨rfl,rfl,rfl,rfl,rfl,rfl,rfl⟩:=h2;rfl
    obtain⟨hh,he⟩:=aW.1 h1;rw[<- he,aiq]
   simp only[go_sem,i148_l3,h3,bI,sC,lW,kZ,bO,au,aL,wT,Pc.ps,n1];refine cU (fun j cZ bj=>cZ 3=.one (.aY 9472000000 1 0)/\bj 9472000000=(1,some (.var [.p (.sl (iP ids))]))/\cZ 5=.one (.hsl 9472064128 gg 7 0 m.length)/\cZ 13=.one (.hsl 9472064128 gg 7 0 m.length)/\cZ 14=vi m.length/\cZ 15=vi k/\cZ 6=vi k/\cZ 24=.one (.p (.sl (iP ids)))/\cZ 25=vi ids.length/\cZ 26=vi j/\
    (∃g7,cZ 7=.one (.aY 9472256192 g7 0)/\bj 9472256192=(g7,some (.var (p.ps.map .p))))/\bj 9472064128=(gg,some (.arr ml 7 (dN (q.set k (jH ids j p)))))) 0 ids.length (bl _) ?_ ?_
   .simp only[go_sem,h3,bI,h5,sC,lW,kZ,bO,q0];first|exact⟨rfl,_,⟨rfl,rfl⟩,rfl⟩|exact⟨rfl,⟨_,rfl,rfl⟩⟩|exact⟨_,rfl,rfl⟩|exact⟨⟨_,rfl,rfl⟩,rfl⟩|exact⟨rfl,⟨_,rfl,rfl⟩,rfl⟩|trace_state
   rintro j cZ bj hj ⟨p3,cI,p5,p13,vN,p15,p6,p24,p25,p26,⟨g7,p7,c7⟩,cO⟩
   by_cases sL:j<ids.length
   .have Gr:((j:Int)<(ids.length:Int)):=aa;obtain⟨d,hd⟩:=aM sL;have kN:=wW hd;have w2:=cA (n:=j) aa;have sF:(ids.take (j+1)).countP (fun i=>decide (i<p.l.id))=(ids.take j).countP (fun i=>decide (i<p.l.id))+if d<p.l.id then 1 else 0:=by
     rw[kX,hd,v7];simp[xr,List.countP_nil]
    have bR:(ids.take j).countP (fun i=>decide (i<p.l.id))<=j:=mT KZ (by rw[fX];omega);have hqa:(dN (q.set k (jH ids j p)))[k]?=some (jH ids j p).ps:=jJ (by rw[pQ,aF rfl,aF aa]);have sQ:k<(q.set k (jH ids j p)).length:=by rw[tk];omega
    by_cases hg:d<p.l.id
    .have e1:(jH ids j p).l.id-1=(jH ids (j+1) p).l.id:=by
      unfold jH;simp only;rw[sF,aF hg];omega
     have w3:IntKind.i64.wrap ((jH ids j p).l.id-1)=(jH ids (j+1) p).l.id:=by rw[<- e1];exact vX (by unfold jH;simp only;omega) (by unfold jH;simp only;omega)
     have dz:((jH ids (j+1) p).ps)=[.int .i64 (jH ids j p).l.kind,.int .i64 (jH ids j p).l.gate,.int .i64 (jH ids j p).l.aE,.int .i64 (jH ids (j+1) p).l.id,.int .i64 (jH ids j p).l.sign,.bool (jH ids j p).l.over,.bool (jH ids j p).d]:=rfl;have adt:(dN (q.set k (jH ids j p))).set k (jH ids (j+1) p).ps=dN (q.set k (jH ids (j+1) p)):=by rw[G0,List.set_set]
     rw[dz] at adt;generalize jH ids j p=x at*;simp only[go_sem,i148_l1,p3,cI,p5,p13,vN,p15,p6,p24,p25,p26,p7,c7,cO,au,sL,Gr,kN,hg,hqa,Pc.ps,w2,w3,adt];exact⟨g7,rfl,rfl⟩
    have e1:jH ids (j+1) p=jH ids j p:=by unfold jH;rw[sF,ay hg];simp
    simp only[go_sem,i148_l1,p3,cI,p5,p13,vN,p15,p6,p24,p25,p26,p7,c7,cO,sL,Gr,kN,hg,Pc.ps,w2,e1];exact⟨g7,rfl,rfl⟩
   have:j=ids.length:=aa;subst this;rw[gQ] at cO;simp only[go_sem,i148_l1,i148_r2,p3,cI,p5,p13,vN,p15,p26,p25,cO,dT,w1,au]
 have:k=m.length:=aa;subst this;have e1:tQ ids m m.length=m.map (rO ids):=by rw[tQ,jQ,K0,jP]
 rw[e1] at bO;simp only[go_sem,i148_l3,i148_r4,h5,lW,kZ,dT];have vw:m.map (rO ids)≠[]:=by simpa using aI
 exact zt (.inr ⟨by simpa using vw,gg,af,bO⟩)
theorem cH.ids(g:cH F ls):WD ls/\GZ ls:=by have hc:=g.ok.cr;unfold kL at hc;simp only[cN] at hc;exact Hx.1 fun k hk=>jd.1 hc.1.2 k (gA.2 hk)
theorem ari{p:Pc}(h:p∈pieces ls):∃(i:Nat) (l:Let),ls[i]?=some l/\p=⟨l,iJ ls i⟩:=by
 obtain⟨i,hi⟩:=je h;have ye:i<ls.length:=by rw[<- gG];exact(aW.1 hi).1
 obtain⟨l,hl⟩:=aM ye;rw[pM hl] at hi;cases hi;exact⟨i,l,hl,rfl⟩
theorem ady(g:cH F ls):∀p∈pieces ls,-1000000<=p.l.id/\p.l.id<=1000000:=by
 intro p hp;obtain⟨i,l,hl,rfl⟩:=ari hp;have hm:=aU hl;rcases g.ok.kinds l hm with h|h
 .have:=(sY (f:=(F:Int)) h).1 (g.bad l hm);simp only[this.1.1.2];omega
 have h1:=g.ids.1 l hm h;have:=g.cr;simp only;omega
def yv(ls:List Let)(av:Nat):Option (List Pc):=
 let p:=(pieces ls).getD av ⟨kz,false⟩
 let q:=(pieces ls).getD ((av+1)%ls.length) ⟨kz,false⟩
 if (p.l.kind==2)&&((q.l.kind==2)&&(p.l.id==q.l.id)) then some (IH (pieces ls) [p.l.id]) else none
theorem apO(g:cH F ls){av:Nat}(ha:av<ls.length){k b c:Int}{l o:Bool}{sg:Int}:
  aK S 115 [.one (.p (eQ F ls)),oD k av b c l o sg] (kR (yv ls av)):=by
 have hlen:=g.len;have bU:=gG ls;have pe:=Cl g ha;have hm:=dO (av+1) (show 0<ls.length by omega);obtain⟨p,hp⟩:=aM (ls:=pieces ls) (k:=av) aa;obtain⟨q,hq⟩:=aM (ls:=pieces ls) (k:=(av+1)%ls.length) aa;have gD:=jJ hp;have pE:=jJ hq;have lo:S.lone 7360256896=false:=ah;unfold yv;simp only[di,hp,hq,mV];refine bh c115 ?_;cases c1:(p.l.kind==2) with
 |false=>
  have n1:(p.l.kind !=2)=true:=by simp[bne,c1]
  simp only[go_sem,i115,s139,cV pe gR,gD,Pc.ps,n1];exact⟨aH,rfl⟩
 |true=>
 have n1:(p.l.kind !=2)=false:=by simp[bne,c1]
 cases c2:(q.l.kind==2) with
 |false=>
  have n2:(q.l.kind !=2)=true:=by simp[bne,c2]
  simp only[go_sem,i115,s139,cV pe gR,gD,pE,Pc.ps,n1,n2];exact⟨aH,rfl⟩
 |true=>
 have n2:(q.l.kind !=2)=false:=by simp[bne,c2]
 cases c3:(p.l.id==q.l.id) with
 |false=>
  have n3:(p.l.id !=q.l.id)=true:=by simp[bne,c3]
  simp only[go_sem,i115,s139,cV pe gR,gD,pE,Pc.ps,n1,n2,n3];exact⟨aH,rfl⟩
 |true=>
 have n3:(p.l.id !=q.l.id)=false:=by simp[bne,c3]
 have pd:=aaG (pieces ls) [p.l.id] aa af (ady g);simp only[go_sem,i115,s139,cV pe gR,gD,pE,Pc.ps,n1,n2,n3,s148];refine⟨aH,?_⟩;refine ak9 pd lo (.inr (qD (Dk _))) fun cc bQ w gc hb hw=>?_;simp only[go_sem];refine⟨?_,wK gc⟩;rcases hw with rfl|rfl<;>kernel_rfl
abbrev pA(ls:List Let)(i:Nat):Pc:=(pieces ls).getD i ⟨kz,false⟩
theorem jZ{i:Nat}{p:Pc}(h:(pieces ls)[i]?=some p):pA ls i=p:=by simp[pA,di,h]
abbrev nx(ls:List Let)(e:Nat):Nat:=(e+1)%ls.length
def jU(ls:List Let)(e:Nat)(ov:Bool):Bool:=((pA ls e).l.kind==2)&&(((pA ls (nx ls e)).l.kind==2)&&(((pA ls e).l.over==ov)&&((pA ls (nx ls e)).l.over==ov)))
theorem Io(g:cH F ls){e:Nat}(he:e<ls.length)(ov:Bool):aK S 150 [.one (.p (eQ F ls)),vi e,vb ov] (rb (jU ls e ov)):=by
 have hlen:=g.len;have bU:=gG ls;have pe:=Cl g he;have hm:=dO (e+1) (show 0<ls.length by omega);obtain⟨p,hp⟩:=aM (ls:=pieces ls) (k:=e) aa;obtain⟨q,hq⟩:=aM (ls:=pieces ls) (k:=(e+1)%ls.length) aa;have gD:=jJ hp;have pE:=jJ hq;unfold jU;rw[jZ hp,jZ hq];refine bh c150 ?_;cases c1:(p.l.kind==2) with
 |false=>simp only[go_sem,i150,s139,cV pe gR,gD,Pc.ps,c1]
 |true=>
 cases c2:(q.l.kind==2) with
 |false=>simp only[go_sem,i150,s139,cV pe gR,gD,pE,Pc.ps,c1,c2]
 |true=>
 cases c3:(p.l.over==ov) with
 |false=>simp only[go_sem,i150,s139,cV pe gR,gD,pE,Pc.ps,c1,c2,c3]
 |true=>
 cases c4:(q.l.over==ov) with
 |false=>simp only[go_sem,i150,s139,cV pe gR,gD,pE,Pc.ps,c1,c2,c3,c4]
 |true=>simp only[go_sem,i150,s139,cV pe gR,gD,pE,Pc.ps,c1,c2,c3,c4]
def jx(ls:List Let)(e:Nat):Nat×Nat×Bool:=if (pA ls e).l.kind==2 then (nx ls e,e,(pA ls (nx ls e)).l.kind==1) else (e,nx ls e,((pA ls e).l.kind==1)&&((pA ls (nx ls e)).l.kind==2))
abbrev agL(a b c:PV):RV:=.tup [.one (.p a),.one (.p b),.one (.p c)]
theorem yu{aj:aA}{s:Nat}{a b c:PV}{l:Bool}:land aj [] s ((agL a b c).fP l)=some (.tup [.one (.p a),.one (.p b),.one (.p c)],[]):=by cases l<;>rfl
theorem af2(g:cH F ls){e:Nat}(he:e<ls.length):aK S 146 [.one (.p (eQ F ls)),vi e] (agL (.int .i64 ((jx ls e).1:Nat)) (.int .i64 ((jx ls e).2.1:Nat)) (.bool (jx ls e).2.2)):=by
 have hlen:=g.len;have bU:=gG ls;have pe:=Cl g he;have hm:=dO (e+1) (show 0<ls.length by omega);obtain⟨p,hp⟩:=aM (ls:=pieces ls) (k:=e) aa;obtain⟨q,hq⟩:=aM (ls:=pieces ls) (k:=(e+1)%ls.length) aa;have gD:=jJ hp;have pE:=jJ hq;unfold jx;rw[jZ hp,jZ hq];refine bh c146 ?_;cases c1:(p.l.kind==2) with
 |true=>
  have e1:p.l.kind=2:=by simpa using c1
  rw[aF rfl];cases c2:(q.l.kind==1) with
  |true=>simp only[go_sem,i146,s139,cV pe gR,gD,pE,Pc.ps,c1,c2];exact⟨aH,rfl⟩
  |false=>simp only[go_sem,i146,s139,cV pe gR,gD,pE,Pc.ps,c1,c2];exact⟨aH,rfl⟩
 |false=>
  rw[ay ae];cases c2:(p.l.kind==1) with
  |true=>
   cases c3:(q.l.kind==2) with
   |true=>simp only[go_sem,i146,s139,cV pe gR,gD,pE,Pc.ps,c1,c2,c3];exact⟨aH,rfl⟩
   |false=>simp only[go_sem,i146,s139,cV pe gR,gD,pE,Pc.ps,c1,c2,c3];exact⟨aH,rfl⟩
  |false=>simp only[go_sem,i146,s139,cV pe gR,gD,Pc.ps,c1,c2];exact⟨aH,rfl⟩
def Bw(o:List Nat)(pr:Nat->Bool)(i:Nat):Bool:=match o[i]? with|some v=>pr v|none=>false
theorem aoH(o:List Nat)(hl:o.length<=1000000){f:Nat}{x y z:PV}(hn:x.norm=x/\y.norm=y/\z.norm=z)(iv:S.shared f=false)(pr:Nat->Bool)(hd:∀v∈o,aK S f [vi (v:Nat),.one (.p x),.one (.p y),.one (.p z)] (rb (pr v))):
  aK S 82 [.one (.p (.sl (nP o))),.one (.p (.fn f [] [x,y,z]))] (ri (match (List.range o.length).find? (Bw o pr) with|some k=>(k:Int)|none=> -1)):=by
 obtain⟨iu,iD,vw⟩:=hn;refine bh c82 ?_;simp only[go_sem,i82];refine cU (fun k ak aj=>ak 0=.one (.p (.sl (nP o)))/\ak 1=.one (.p (.fn f [] [x,y,z]))/\ak 7=vi o.length/\ak 8=vi k/\ ∀j,j<k->Bw o pr j=false) 0 o.length (bl _) ?_ ?_
 .simp only[go_sem];exact⟨rfl,fun j hj=>absurd hj (nE j)⟩
 rintro k ak aj hk ⟨h0,h1,h7,h8,vx⟩
 by_cases au:k<o.length
 .have aL:((k:Int)<(o.length:Int)):=aa;obtain⟨v,hv⟩:=aM au;have hJ:=jY hv;have w1:=cA (n:=k) aa;have pd:=hd v (aU hv);have qP:Bw o pr k=pr v:=by simp[Bw,hv]
  cases hb:pr v with
  |true=>rw[hb] at pd qP;have hf:=Cp (p:=Bw o pr) au vx qP;simp only[go_sem,i82_l1,h0,h1,h7,h8,aL,hJ,iv,iu,iD,vw,dA pd,hf]
  |false=>
   rw[hb] at pd qP;simp only[go_sem,i82_l1,h0,h1,h7,h8,au,aL,hJ,iv,iu,iD,vw,dA pd,w1];intro j hj;rcases mU.1 hj with h|rfl
   .exact vx j h
   exact qP
 have:k=o.length:=aa;subst this;have hf:=IU (p:=Bw o pr) vx;simp only[go_sem,i82_l1,i82_r2,h7,h8,dT,hf]
theorem akN(o:List Nat)(hl:o.length<=1000000){f:Nat}{x y z:PV}(hn:x.norm=x/\y.norm=y/\z.norm=z)(iv:S.shared f=false)(pr:Nat->Bool)(hd:∀v∈o,aK S f [vi (v:Nat),.one (.p x),.one (.p y),.one (.p z)] (rb (pr v))):
  aK S 54 [.one (.p (.sl (nP o))),.one (.p (.fn f [] [x,y,z]))] (rb (o.any pr)):=by
 have pi:=aoH o hl hn iv pr hd;obtain⟨iu,iD,vw⟩:=hn;refine bh c54 ?_;cases ha:o.any pr with
 |true=>
  obtain⟨v,hv,hp⟩:=Yn.1 ha;obtain⟨k,hk⟩:=je hv;have ef:=(aW.1 hk).1;cases hf:(List.range o.length).find? (Bw o pr) with
  |none=>have:=K5.1 hf k (gA.2 ef);simp[Bw,hk,hp] at this
  |some j=>rw[hf] at pi;have sI:(0:Int)<=(j:Int):=aa;simp only[go_sem,i54,s82,dY pi,sI]
 |false=>
  cases hf:(List.range o.length).find? (Bw o pr) with
  |some j=>
   have h1:=OC hf;unfold Bw at h1;cases ho:o[j]? with
   |none=>rw[ho] at h1;cases h1
   |some v=>rw[ho] at h1;have:=HD.1 ha v (aU ho);exact absurd h1 this
  |none=>rw[hf] at pi;have sI:¬(0:Int)<= -1:=ae;simp only[go_sem,i54,s82,dY pi,sI]
def wG(f:Fc)(e:Nat):Nat:=f.cG.countP fun d=>d/2==e
def xF(f:Fc)(pl:Nat)(edges:List Nat):Bool:=(f.cG.length==edges.length)&&((f.places.length==pl)&&edges.all fun e=>wG f e==1)
theorem aak(g:cH F ls){j:Nat}{f:Fc}(hf:(eL F ls)[j]?=some f)(edges:List Nat)(he:edges.length<=1000)(pl:Nat):
  aK S 173 [vi j,.one (.p (.box [eQ F ls])),.one (.p (.box [.sl (nP edges)])),.one (.p (.box [.int .i64 pl]))] (rb (xF f pl edges)):=by
 have hlen:=g.len;have fi:(aB ls).length<=ls.length:=wC ls ls.length;have hdl:=Vr g.ok (aU hf);have eZ:nD ls<=1600:=by unfold nD;omega
 have Gk:=Vs hf;have nO:=(aW.1 hf).1;refine bh c173 ?_;unfold xF;cases c1:(f.cG.length==edges.length) with
 |false=>
  have n1:(((f.cG.length:Nat):Int)!=((edges.length:Nat):Int))=true:=by
   have:¬f.cG.length=edges.length:=by simpa using c1
   simp[bne];omega
  simp only[go_sem,i173,Gk,Fc.ps,n1]
 |true=>
 have n1:(((f.cG.length:Nat):Int)!=((edges.length:Nat):Int))=false:=by
  have:f.cG.length=edges.length:=by simpa using c1
  simp[bne,this]
 cases c2:(f.places.length==pl) with
 |false=>
  have n2:(((f.places.length:Nat):Int)!=((pl:Nat):Int))=true:=by
   have:¬f.places.length=pl:=by simpa using c2
   simp[bne];omega
  simp only[go_sem,i173,Gk,Fc.ps,n1,n2]
 |true=>
 have n2:(((f.places.length:Nat):Int)!=((pl:Nat):Int))=false:=by
  have:f.places.length=pl:=by simpa using c2
  simp[bne,this]
 simp only[go_sem,i173,Gk,Fc.ps,n1,n2];refine cU (fun k ak aj=>ak 6=.one (.aY 11072064448 1 0)/\aj 11072064448=(1,some (.var (f.ps.map .p)))/\ak 32=.one (.p (.sl (nP edges)))/\ak 33=vi edges.length/\ak 34=vi k/\ ∀i e,i<k->edges[i]?=some e->(wG f e==1)=true) 0 edges.length (bl _) ?_ ?_
 .simp only[go_sem,Fc.ps];first|exact⟨rfl,fun i e hi=>absurd hi (nE i)⟩|exact⟨rfl,rfl,fun i e hi=>absurd hi (nE i)⟩|exact fun i e hi=>absurd hi (nE i)
 rintro k ak aj hk ⟨h6,b6,h32,Ec,F6,aq⟩
 simp only[Fc.ps,dK,j7] at b6;by_cases au:k<edges.length
 .have aL:((k:Int)<(edges.length:Int)):=aa;obtain⟨e,hek⟩:=aM au;have MN:=jY hek;have w1:=cA (n:=k) aa;simp only[go_sem,i173_l4,h6,b6,h32,Ec,F6,aL,MN];refine cU (fun i cZ bj=>cZ 6=.one (.aY 11072064448 1 0)/\bj 11072064448=(1,some (.var (f.ps.map .p)))/\cZ 32=.one (.p (.sl (nP edges)))/\cZ 33=vi edges.length/\cZ 34=vi k/\cZ 8=vi e/\cZ 9=vi ((f.cG.take i).countP fun d=>d/2==e:Nat)/\cZ 39=.one (.p (.sl (nP f.cG)))/\cZ 40=vi f.cG.length/\cZ 41=vi i) 0 f.cG.length (bl _) ?_ ?_
  .simp only[go_sem,h6,b6,h32,Ec,F6,Fc.ps];first|exact⟨rfl,rfl⟩|exact rfl|exact⟨rfl,rfl,rfl⟩
  rintro i cZ bj hi ⟨p6,d6,p32,p33,EX,p8,p9,p39,p40,p41⟩
  by_cases uF:i<f.cG.length
  .have adk:((i:Int)<(f.cG.length:Int)):=aa;obtain⟨d,hd⟩:=aM uF;have kN:=jY hd;have w2:=cA (n:=i) aa;have wq:=wrap_small (n:=d/2) (by have:=Vq (aU hf) d (aU hd);omega);have bR:(f.cG.take i).countP (fun d=>d/2==e)<=i:=mT KZ (by rw[fX];omega);have w3:=cA (n:=(f.cG.take i).countP fun d=>d/2==e) aa;have sF:(f.cG.take (i+1)).countP (fun d=>d/2==e)=(f.cG.take i).countP (fun d=>d/2==e)+if (d/2==e)=true then 1 else 0:=by
    rw[kX,hd,v7];simp[xr,List.countP_nil]
   cases rF:(d/2==e) with
   |true=>
    have n3:(((d/2:Nat):Int)==(e:Int))=true:=by
     have:d/2=e:=by simpa using rF
     simp;omega
    rw[rF,aF rfl] at sF;simp only[go_sem,i173_l1,p6,p32,p33,EX,p8,p9,p39,p40,p41,uF,adk,kN,eo,fv,wq,n3,w2,w3,sF];first|exact d6|exact⟨d6,rfl⟩
   |false=>
    have n3:(((d/2:Nat):Int)==(e:Int))=false:=by
     have:¬d/2=e:=by simpa using rF
     simp;omega
    rw[rF,ay ae,xw] at sF;simp only[go_sem,i173_l1,p6,p32,p33,EX,p8,p9,p39,p40,p41,uF,adk,kN,eo,fv,wq,n3,w2,sF];first|exact d6|exact⟨d6,rfl⟩
  have:i=f.cG.length:=aa;subst this;rw[jQ] at p9;have hdc:(f.cG.countP fun d=>d/2==e)=wG f e:=rfl;rw[hdc] at p9;cases hq:(wG f e==1) with
  |true=>
   have n4:(((wG f e:Nat):Int)!=1)=false:=by
    have:wG f e=1:=by simpa using hq
    simp[bne,this]
   simp only[go_sem,i173_l1,i173_r2,i173_r3,p6,p32,p33,EX,p9,p40,p41,dT,n4,w1,au];refine⟨d6,fun i2 e2 hi2 Gh=>?_⟩;rcases mU.1 hi2 with h|rfl
   .exact aq i2 e2 h Gh
   rw[hek] at Gh;cases Gh;exact hq
  |false=>
   have n4:(((wG f e:Nat):Int)!=1)=true:=by
    have:¬wG f e=1:=by simpa using hq
    simp[bne];omega
   have dM:(edges.all fun e=>wG f e==1)=false:=Ym.2 ⟨e,aU hek,by rw[hq];decide⟩;simp only[go_sem,i173_l1,i173_r2,p9,p40,p41,dT,n4,dM]
 have:k=edges.length:=aa;subst this;have dM:(edges.all fun e=>wG f e==1)=true:=jd.2 fun e he=>by obtain⟨i,hi⟩:=je he;exact aq i e (aW.1 hi).1 hi
 simp only[go_sem,i173_l4,i173_r5,Ec,F6,dT,dM]
def pY(F:Nat)(ls:List Let)(pl:Nat)(edges:List Nat)(e0:Nat):Bool:=xF (kM F ls (2*e0)) pl edges||xF (kM F ls (2*e0+1)) pl edges
theorem Te(g:cH F ls)(edges:List Nat)(dB:edges.length<=1000){e0:Nat}(h0:edges[0]?=some e0)(he0:e0<ls.length)(pl:Nat):
  aK S 147 [.one (.p (eQ F ls)),vi pl,.one (.p (.sl (nP edges)))] (rb (pY F ls pl edges e0)):=by
 have hlen:=g.len;obtain⟨j0,a1,a2,a3⟩:=Vp g (d:=2*e0) aa;obtain⟨j1,b1,b2,b3⟩:=Vp g (d:=2*e0+1) aa;have g0:(eL F ls).getD j0 NQ=kM F ls (2*e0):=by rw[di,a2];rfl
 have g1:(eL F ls).getD j1 NQ=kM F ls (2*e0+1):=by rw[di,b2];rfl
 have pc:=akN [j0,j1] af (f:=173) (x:=.box [eQ F ls]) (y:=.box [.sl (nP edges)]) (z:=.box [.int .i64 pl]) ⟨rfl,rfl,rfl⟩ s173 (fun j=>xF ((eL F ls).getD j NQ) pl edges) (fun v hv=>by
  simp only[cM,gC,or_false] at hv;rcases hv with rfl|rfl
  .rw[g0];exact aak g a2 edges dB pl
  rw[g1];exact aak g b2 edges dB pl)
 have anp:([j0,j1].any fun j=>xF ((eL F ls).getD j NQ) pl edges)=pY F ls pl edges e0:=by simp only[List.any_cons,List.any_nil,Bool.or_false,g0,g1];rfl
 rw[anp] at pc;simp only[dK,j7] at pc;have ja:=jY a1;have jb:=jY b1;have he:=jY h0;have m2:=ue (a:=e0) aa;have m3:=cA (n:=2*e0) aa;have uG:=WY F ls;have l1:2*e0<(og F ls).length:=aa;have l2:2*e0+1<(og F ls).length:=aa;have gE:0<edges.length:=(aW.1 h0).1;have hpos':(0:Int)<(edges.length:Int):=aa;refine bh c147 ?_;simp only[go_sem,i147,he,m2,m3,ja,jb,s54,mE pc];exact aH
def ie(ls:List Let)(l:List Pc)(e:Nat):List Pc:=(l.set e (l.getD (nx ls e) ⟨kz,false⟩)).set (nx ls e) (l.getD e ⟨kz,false⟩)
theorem Hm(ls:List Let)(l:List Pc)(e:Nat):(ie ls l e).length=l.length:=by simp[ie]
def iO(ls:List Let)(l:List Pc)(es:List Nat):List Pc:=es.foldl (ie ls) l
theorem BH(ls:List Let):∀(es:List Nat) (l:List Pc),(iO ls l es).length=l.length:=by
 intro es
 induction es with
 |nil=>intro l;rfl
 |cons e es ih=>intro l;show(iO ls (ie ls l e) es).length=_;rw[ih,Hm]
theorem auC(g:cH F ls)(es:List Nat)(mK:∀e∈es,e<ls.length)(dB:es.length<=1000):
  aK S 153 [.one (.p (eQ F ls)),.one (.p (.sl (nP es)))] (.one (aT ml 7 (dN (iO ls (pieces ls) es)))):=by
 have hlen:=g.len;have bU:=gG ls;have aI:pieces ls≠[]:=jf.1 (by have:=jf.2 g.ne;omega);have pcl:=Z2 aI aa;have lo:S.lone 9792064256=false:=ah;refine bh c153 ?_;simp only[go_sem,i153,s144];refine rC pcl lo (.inl rfl) fun cc nL gc mJ=>?_;rcases gc with ⟨e,_⟩|⟨_,gg,e,hC⟩
 .exact absurd (by simpa using e) aI
 cases e;rw[cD,bU];simp only[go_sem];refine cU (fun k ak aj=>ak 0=.one (.p (eQ F ls))/\ak 5=.one (.hsl 9792064256 gg 7 0 ls.length)/\ak 15=.one (.p (.sl (nP es)))/\ak 16=vi es.length/\ak 17=vi k/\aj 9792064256=(gg,some (.arr ml 7 (dN (iO ls (pieces ls) (es.take k)))))) 0 es.length (bl _) ?_ ?_
 .simp only[go_sem,hC];first|exact⟨rfl,rfl⟩|rfl|exact⟨rfl,rfl,rfl⟩
 rintro k ak aj hk ⟨h0,h5,kZ,oX,iU,bO⟩
 by_cases au:k<es.length
 .have aL:((k:Int)<(es.length:Int)):=aa;obtain⟨e,he⟩:=aM au;have MN:=jY he;have MK:=mK e (aU he);have pe:=Cl g MK;have w1:=cA (n:=k) aa;have l9:iO ls (pieces ls) (es.take (k+1))=ie ls (iO ls (pieces ls) (es.take k)) e:=by
   unfold iO;rw[kX,he,HF];rfl
  have nj:(iO ls (pieces ls) (es.take k)).length=ls.length:=by rw[BH,bU]
  have hm:=dO (e+1) (show 0<ls.length by omega);generalize iO ls (pieces ls) (es.take k)=m at bO l9 nj;obtain⟨p,hp⟩:=aM (ls:=m) (k:=e) aa;obtain⟨q,hq⟩:=aM (ls:=m) (k:=(e+1)%ls.length) aa;have hJ:=jJ hp;have Gx:=jJ hq;have l1:e<m.length:=aa;have l2:(e+1)%ls.length<m.length:=aa;have s1:=G0 m e q;have zE:(m.set e q).set ((e+1)%ls.length) p=ie ls m e:=by unfold ie nx;rw[di,hq,di,hp];rfl
  have s2:=G0 (m.set e q) ((e+1)%ls.length) p;rw[zE,<- l9] at s2;simp only[Pc.ps] at s1 s2;obtain⟨p',iX⟩:=aM (ls:=m.set e q) (k:=e) (by rw[tk];omega);obtain⟨q',Gw⟩:=aM (ls:=m.set e q) (k:=(e+1)%ls.length) (by rw[tk];omega);have Wu:=jJ Gw;simp only[go_sem,i153_l1,h0,h5,kZ,oX,iU,bO,au,aL,MN,s139,cV pe gR,MK,hm,hJ,Gx,Wu,s1,s2,Pc.ps,w1];exact aH
 have:k=es.length:=aa;subst this;rw[jQ] at bO;simp only[go_sem,i153_l1,i153_r2,h5,oX,iU,dT];have h1:(iO ls (pieces ls) es).length=ls.length:=by rw[BH,bU]
 refine zt (.inr ⟨?_,gg,by rw[cD,h1],bO⟩);intro h2;have:=congrArg List.length h2;rw[cD,h1,ez] at this;have h3:=jf.2 g.ne;omega
def jM(l:List Pc)(i:Nat)(r:Int):List Pc:=l.set i {(l.getD i ⟨kz,false⟩) with l:={(l.getD i ⟨kz,false⟩).l with aE:=r}}
theorem BC(l:List Pc)(i:Nat)(r:Int):(jM l i r).length=l.length:=by simp[jM]
def u9(F:Nat)(ls:List Let)(av bv:Nat):Option (List Pc):=
 if (jx ls av).2.2&&((jx ls bv).2.2&&(!((jx ls av).2.1==(jx ls bv).2.1)&&(((pA ls (jx ls av).2.1).l.id==(pA ls (jx ls bv).2.1).l.id)&&pY F ls 1 [av,bv] av)))
 then some (iO ls (jM (jM (pieces ls) (jx ls av).1 (pA ls (jx ls bv).1).l.aE) (jx ls bv).1 (pA ls (jx ls av).1).l.aE) [av,bv]) else none
theorem ago{e:Nat}(he:e<ls.length):(jx ls e).1<ls.length/\(jx ls e).2.1<ls.length:=by
 have hm:=dO (e+1) (show 0<ls.length by omega);unfold jx nx;split
 .exact⟨hm,he⟩
 exact⟨he,hm⟩
theorem ajE(g:cH F ls){av bv:Nat}(ha:av<ls.length)(hb:bv<ls.length){k c:Int}{l o:Bool}{sg:Int}:
  aK S 114 [.one (.p (eQ F ls)),oD k av bv c l o sg] (kR (u9 F ls av bv)):=by
 have hlen:=g.len;have bU:=gG ls;have pa:=af2 g ha;have pb:=af2 g hb;have pc:=Te g [av,bv] af (e0:=av) rfl ha 1;obtain⟨p1,v1⟩:=ago ha;obtain⟨q1,w1⟩:=ago hb;unfold u9;generalize jx ls av=x at*;generalize jx ls bv=y at*;obtain⟨pi,KQ,one⟩:=x;obtain⟨qi,wi,two⟩:=y;simp only at pa pb p1 v1 q1 w1 ⊢;simp only[dK,j7] at pc;have c1:((1:Nat):Int)=1:=rfl;rw[c1] at pc;obtain⟨P,hP⟩:=aM (ls:=pieces ls) (k:=pi) aa;obtain⟨Q,hQ⟩:=aM (ls:=pieces ls) (k:=qi) aa;obtain⟨V,hV⟩:=aM (ls:=pieces ls) (k:=KQ) aa
 obtain⟨W,hW⟩:=aM (ls:=pieces ls) (k:=wi) aa;rw[jZ hP,jZ hQ,jZ hV,jZ hW];have hPp:=jJ hP;have hQp:=jJ hQ;have hVp:=jJ hV;have hWp:=jJ hW;have aI:pieces ls≠[]:=jf.1 aa;have pcl:=Z2 aI aa;have lo:S.lone 7296384256=false:=ah;refine bh c114 ?_;cases one with
 |false=>simp only[go_sem,i114,s146,cV pa yu,cV pb yu];exact⟨aH,rfl⟩
 |true=>
 cases two with
 |false=>simp only[go_sem,i114,s146,cV pa yu,cV pb yu];exact⟨aH,rfl⟩
 |true=>
 cases c2:(KQ==wi) with
 |true=>
  have n2:((KQ:Int)==(wi:Int))=true:=by simp[show KQ=wi by simpa using c2]
  simp only[go_sem,i114,s146,cV pa yu,cV pb yu,n2];exact⟨aH,rfl⟩
 |false=>
 have n2:((KQ:Int)==(wi:Int))=false:=by
  have:¬KQ=wi:=by simpa using c2
  simp;omega
 cases c3:(V.l.id==W.l.id) with
 |false=>
  have n3:(V.l.id !=W.l.id)=true:=by simp[bne,c3]
  simp only[go_sem,i114,s146,cV pa yu,cV pb yu,n2,hVp,hWp,Pc.ps,n3];exact⟨aH,rfl⟩
 |true=>
 have n3:(V.l.id !=W.l.id)=false:=by simp[bne,c3]
 cases c4:pY F ls 1 [av,bv] av with
 |false=>rw[c4] at pc;simp only[go_sem,i114,s146,cV pa yu,cV pb yu,n2,hVp,hWp,Pc.ps,n3,s147,mE pc];exact⟨aH,rfl⟩
 |true=>
 rw[c4] at pc;simp only[go_sem,i114,s146,cV pa yu,cV pb yu,n2,hVp,hWp,hPp,hQp,Pc.ps,n3,s147,mE pc,s144];refine⟨aH,aH,?_⟩;refine rC pcl lo (.inl rfl) fun cc nL gc mJ=>?_;have b3:=mJ 7296000000 ae;simp only[go_sem] at b3;rcases gc with ⟨e,_⟩|⟨_,gg,e,hC⟩
 .exact absurd (by simpa using e) aI
 cases e;rw[cD,bU];have s1:=G0 (pieces ls) pi {P with l:={P.l with aE:=Q.l.aE}};have jX:(pieces ls).set pi {P with l:={P.l with aE:=Q.l.aE}}=jM (pieces ls) pi Q.l.aE:=by unfold jM;rw[di,hP];rfl
 rw[jX] at s1;have iL:(jM (pieces ls) pi Q.l.aE).length=ls.length:=by rw[BC,bU]
 obtain⟨Q',hQ'⟩:=aM (ls:=jM (pieces ls) pi Q.l.aE) (k:=qi) aa;have anl:=jJ hQ';have s2:=G0 (jM (pieces ls) pi Q.l.aE) qi {Q' with l:={Q'.l with aE:=P.l.aE}};have fp:(jM (pieces ls) pi Q.l.aE).set qi {Q' with l:={Q'.l with aE:=P.l.aE}}=jM (jM (pieces ls) pi Q.l.aE) qi P.l.aE:=by rw[jM.eq_def (jM (pieces ls) pi Q.l.aE),di,hQ'];rfl
 rw[fp] at s2;simp only[Pc.ps] at s1 s2;have sM:(jM (jM (pieces ls) pi Q.l.aE) qi P.l.aE).length=ls.length:=by rw[BC,iL]
 simp only[go_sem,b3,hC,hPp,anl,Pc.ps,s1,s2,p1,q1];generalize jM (jM (pieces ls) pi Q.l.aE) qi P.l.aE=M at sM ⊢;obtain⟨es,PT⟩:∃es,es=[av,bv]:=⟨_,rfl⟩;have PO:es.length=2:=by rw[PT];rfl
 have mK:∀e∈es,e<ls.length:=fun e he=>by rw[PT] at he;simp only[cM,gC,or_false] at he;rcases he with rfl|rfl<;>assumption
 refine cU (fun k ak aj=>ak 0=.one (.p (eQ F ls))/\ak 14=.one (.hsl 7296384256 gg 7 0 ls.length)/\(∃ge,ak 116=.one (.hsl 7296512256 ge 1 0 2)/\aj 7296512256=(ge,some (.arr 3 1 (nP es))))/\ak 117=vi ((2:Nat):Int)/\ak 118=vi k/\aj 7296384256=(gg,some (.arr ml 7 (dN (iO ls M (es.take k)))))) 0 2 (bl _) ?_ ?_
 .simp only[go_sem];exact⟨⟨_,rfl,by rw[PT];rfl⟩,rfl,rfl⟩
 rintro k ak aj hk ⟨h0,lW,⟨ge,Eb,bE⟩,acP,acQ,bO⟩
 by_cases au:k<2
 .have aL:((k:Int)<((2:Nat):Int)):=aa;have P0:k<es.length:=aa;obtain⟨e,he⟩:=aM P0;have MN:=jY he;have MK:=mK e (aU he);have pe:=Cl g MK;have w1:=cA (n:=k) aa;have l9:iO ls M (es.take (k+1))=ie ls (iO ls M (es.take k)) e:=by
   unfold iO;rw[kX,he,HF];rfl
  have nj:(iO ls M (es.take k)).length=ls.length:=by rw[BH,sM]
  have hm:=dO (e+1) (show 0<ls.length by omega);generalize iO ls M (es.take k)=m at bO l9 nj;obtain⟨p,hp⟩:=aM (ls:=m) (k:=e) aa;obtain⟨q,hq⟩:=aM (ls:=m) (k:=(e+1)%ls.length) aa;have hJ:=jJ hp;have Gx:=jJ hq;have l1:e<m.length:=aa;have l2:(e+1)%ls.length<m.length:=aa;have s1:=G0 m e q;have zE:(m.set e q).set ((e+1)%ls.length) p=ie ls m e:=by unfold ie nx;rw[di,hq,di,hp];rfl
  have s2:=G0 (m.set e q) ((e+1)%ls.length) p;rw[zE,<- l9] at s2;simp only[Pc.ps] at s1 s2;obtain⟨q',Gw⟩:=aM (ls:=m.set e q) (k:=(e+1)%ls.length) (by rw[tk];omega);have Wu:=jJ Gw;simp only[go_sem,i114_l1,h0,lW,Eb,acP,acQ,bE,bO,au,aL,MN,s139,cV pe gR,MK,hm,hJ,Gx,Wu,s1,s2,Pc.ps,w1];first|exact⟨aH,ge,rfl,rfl⟩|exact⟨aH,⟨ge,rfl,rfl⟩⟩|exact⟨aH,⟨ge,rfl,rfl⟩,rfl⟩|trace_state
 have:k=2:=aa;subst this;have e1:es.take 2=[av,bv]:=by rw[PT];rfl
 rw[e1] at bO;have sI:¬(((2:Nat):Int)<((2:Nat):Int)):=aa;simp only[go_sem,i114_l1,i114_r2,lW,acP,acQ,sI];have h1:(iO ls M [av,bv]).length=ls.length:=by rw[BH,sM]
 refine wK (.inr ⟨?_,gg,by rw[mV,cD,h1],bO⟩);intro h2;have:=congrArg List.length h2;rw[mV,cD,h1,ez] at this;omega
def Ro(l:List Pc)(i:Nat)(g r:Int):List Pc:=l.set i {(l.getD i ⟨kz,false⟩) with l:={(l.getD i ⟨kz,false⟩).l with gate:=g,aE:=r}}
def trR(F:Nat)(ls:List Let)(av:Nat):Option (List Pc):=
 if ((pA ls av).l.kind==1)&&(decide ((pA ls av).l.gate<(F:Int))&&((pA ls av).l.aE==(cg ls (pA ls av).l.gate.toNat:Int)))
 then some (Ro (j5 (pieces ls) ((pA ls av).l.gate+1) 0 1) av ((pA ls av).l.gate+1) 1) else none
def tlR(ls:List Let)(av:Nat):Option (List Pc):=
 if ((pA ls av).l.kind==1)&&(decide (0<(pA ls av).l.gate)&&((pA ls av).l.aE==1))
 then some (Ro (j5 (pieces ls) (pA ls av).l.gate 1 (-1)) av ((pA ls av).l.gate-1) ((cg ls ((pA ls av).l.gate-1).toNat+1:Nat):Int)) else none
end
end Go.Abs
