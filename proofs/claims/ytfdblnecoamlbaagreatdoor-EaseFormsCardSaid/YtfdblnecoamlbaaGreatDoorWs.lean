/- A part. -/
import Derived.Test.YtfdblnecoamlbaaGreatDoorWn
set_option linter.all false
set_option maxRecDepth 100000
set_option maxHeartbeats 16000000
namespace Go.Abs
section
variable{ls:ai}{F:Nat}
def Oa(l:c_)(drop:Nat->Pc->Bool)(i:Nat):Option Pc:=match l[i]? with|some p=>if drop i p then none else some p|none=>none
def uL(l:c_)(drop:Nat->Pc->Bool)(k:Nat):c_:=(List.range k).filterMap (Oa l drop)
def qK(l:c_)(drop:Nat->Pc->Bool):c_:=uL l drop l.length
def BS{l:c_}{drop:Nat->Pc->Bool}{k:Nat}{p:Pc}(h:l[k]?=some p)(hd:drop k p=true):uL l drop (k+1)=uL l drop k:=by simp[uL,yn,List.filterMap_append,Oa,h,hd]
def Kv{l:c_}{drop:Nat->Pc->Bool}{k:Nat}{p:Pc}(h:l[k]?=some p)(hd:drop k p=false):uL l drop (k+1)=uL l drop k++[p]:=by simp[uL,yn,List.filterMap_append,Oa,h,hd]
def HR(l:c_)(drop:Nat->Pc->Bool)(k:Nat):(uL l drop k).length<=k:=by have:=List.length_filterMap_le (Oa l drop) (List.range k);rwa[Ek] at this
def C0(g:cX F ls){e:Nat}(he:e<ls.length):aK S 127 [.one (.p (eU F ls)),vi e] (uV (.int .i64 e) (.int .i64 ((e+1)%ls.length:Nat))):=by have hlen:=g.len;have bY:=fK ls;have w1:=cS (n:=e) aa;have e1:=w9 (e+1) ls.length;have hz:¬((ls.length:Int)=0):=aa;refine bk c127 ?_;simp only[go_sem,i127,w1,e1,bY,hz];exact⟨aJ,rfl⟩
def aiK(l:c_)(hl:l.length<=1000000){f:Nat}{x y:PV}(hn:x.norm=x/\y.norm=y)(jI:S.shared f=false)(drop:Nat->Pc->Bool)(hd:∀(k:Nat) (p:Pc),l[k]?=some p->aK S f [vi k,.agg (p.ps.map .p),.one (.p x),.one (.p y)] (rb (drop k p))):
  aK S 128 [.one (.p (.sl (eo l))),.one (.p (.fn f [] [x,y]))] (.one (aU nI 7 (eo (qK l drop)))):=by
 obtain⟨iY,jk⟩:=hn;refine bk c128 ?_;simp only[go_sem,i128];refine dy (fun k ak aj=>ak 1=.one (.p (.fn f [] [x,y]))/\ak 8=.one (.p (.sl (eo l)))/\ak 9=vi l.length/\ak 10=vi k/\ ∃c,ak 5=.one c/\grown 8192384192 nI 7 (eo (uL l drop k)) (.one c) aj) 0 l.length (bG _) ?_ ?_
 .simp only[go_sem];first|exact⟨rfl,_,rfl,.inl ⟨rfl,rfl⟩⟩|exact⟨_,rfl,.inl ⟨rfl,rfl⟩⟩|exact⟨rfl,rfl,_,rfl,.inl ⟨rfl,rfl⟩⟩
 rintro k ak aj hk ⟨h1,h8,h9,ff,c,h5,gc⟩
 by_cases aw:k<l.length
 .have aL:((k:Int)<(l.length:Int)):=aa;obtain⟨p,hp⟩:=aM aw;have fV:=kI hp;have w1:=cS (n:=k) aa;have pd:=hd k p hp;have eH:=HR l drop k;simp only[Pc.ps,eh,lQ] at pd;cases hb:drop k p with
  |true=>rw[hb] at pd;have hs:=BS hp hb;simp only[go_sem,i128_l1,h1,h5,h8,h9,ff,aw,aL,fV,Pc.ps,iY,jk,jI,dZ pd,w1];refine⟨c,rfl,?_⟩;rw[hs];exact gc.of_eq (by simp only[aO,Nat.reduceEqDiff,if_false])
  |false=>rw[hb] at pd;have hs:=Kv hp hb;simp only[go_sem,i128_l1,h1,h5,h8,h9,ff,aL,fV,Pc.ps,iY,jk,jI,dZ pd];refine vq (site:=8192384192) (id:=8192384192) (bytes:=56) (xs:=[p.ps]) (rd:=[8192384128]) (gc.of_eq (by simp only[aO,Nat.reduceEqDiff,if_false])) (by simp[fU,aO,Pc.ps]) (.inl rfl) (by simp only[cM,dC,fe];omega) fun c' bU hc iW=>?_;simp only[go_sem,h1,h8,h9,ff,aw,w1];refine⟨c',rfl,?_⟩;rw[hs,agQ];exact hc
 have:k=l.length:=aa;subst this;simp only[go_sem,i128_l1,i128_r2,h5,h9,ff,eI];exact Ag gc
def avY(l:c_)(hl:l.length<=1000000){f:Nat}{x:PV}(hn:x.norm=x)(jI:S.shared f=false)(drop:Nat->Pc->Bool)(hd:∀(k:Nat) (p:Pc),l[k]?=some p->aK S f [vi k,.agg (p.ps.map .p),.one (.p x)] (rb (drop k p))):
  aK S 128 [.one (.p (.sl (eo l))),.one (.p (.fn f [] [x]))] (.one (aU nI 7 (eo (qK l drop)))):=by
 have iY:=hn;refine bk c128 ?_;simp only[go_sem,i128];refine dy (fun k ak aj=>ak 1=.one (.p (.fn f [] [x]))/\ak 8=.one (.p (.sl (eo l)))/\ak 9=vi l.length/\ak 10=vi k/\ ∃c,ak 5=.one c/\grown 8192384192 nI 7 (eo (uL l drop k)) (.one c) aj) 0 l.length (bG _) ?_ ?_
 .simp only[go_sem];first|exact⟨rfl,_,rfl,.inl ⟨rfl,rfl⟩⟩|exact⟨_,rfl,.inl ⟨rfl,rfl⟩⟩|exact⟨rfl,rfl,_,rfl,.inl ⟨rfl,rfl⟩⟩
 rintro k ak aj hk ⟨h1,h8,h9,ff,c,h5,gc⟩
 by_cases aw:k<l.length
 .have aL:((k:Int)<(l.length:Int)):=aa;obtain⟨p,hp⟩:=aM aw;have fV:=kI hp;have w1:=cS (n:=k) aa;have pd:=hd k p hp;have eH:=HR l drop k;simp only[Pc.ps,eh,lQ] at pd;cases hb:drop k p with
  |true=>rw[hb] at pd;have hs:=BS hp hb;simp only[go_sem,i128_l1,h1,h5,h8,h9,ff,aw,aL,fV,Pc.ps,iY,jI,dZ pd,w1];refine⟨c,rfl,?_⟩;rw[hs];exact gc.of_eq (by simp only[aO,Nat.reduceEqDiff,if_false])
  |false=>rw[hb] at pd;have hs:=Kv hp hb;simp only[go_sem,i128_l1,h1,h5,h8,h9,ff,aL,fV,Pc.ps,iY,jI,dZ pd];refine vq (site:=8192384192) (id:=8192384192) (bytes:=56) (xs:=[p.ps]) (rd:=[8192384128]) (gc.of_eq (by simp only[aO,Nat.reduceEqDiff,if_false])) (by simp[fU,aO,Pc.ps]) (.inl rfl) (by simp only[cM,dC,fe];omega) fun c' bU hc iW=>?_;simp only[go_sem,h1,h8,h9,ff,aw,w1];refine⟨c',rfl,?_⟩;rw[hs,agQ];exact hc
 have:k=l.length:=aa;subst this;simp only[go_sem,i128_l1,i128_r2,h5,h9,ff,eI];exact Ag gc
def abq(k i j:Nat)(p:Pc):aK S 129 [vi k,.agg (p.ps.map .p),.one (.p (.box [.int .i64 i])),.one (.p (.box [.int .i64 j]))] (rb (decide (k=i)||decide (k=j))):=by
 refine bk c129 ?_;by_cases h1:k=i
 .have e1:((k:Int)==(i:Int))=true:=by simp[h1]
  rw[show(decide (k=i)||decide (k=j))=true by simp[h1]];simp only[go_sem,i129,Pc.ps,e1]
 have e1:((k:Int)==(i:Int))=false:=by simp;omega
 by_cases h2:k=j
 .have e2:((k:Int)==(j:Int))=true:=by simp[h2]
  rw[show(decide (k=i)||decide (k=j))=true by simp[h2]];simp only[go_sem,i129,Pc.ps,e1,e2]
 have e2:((k:Int)==(j:Int))=false:=by simp;omega
 rw[show(decide (k=i)||decide (k=j))=false by simp[h1,h2]];simp only[go_sem,i129,Pc.ps,e1,e2]
def tY(a b:Int):Int:=if a<b then b else a
def xX(a b:Int):Int:=if b<a then b else a
def ug(ls:ai)(av:Nat):Option c_:=
 let p:=(pieces ls).getD av ⟨lX,false⟩
 let q:=(pieces ls).getD ((av+1)%ls.length) ⟨lX,false⟩
 if (p.l.kind==1)&&((q.l.kind==1)&&((p.l.gate==q.l.gate)&&((tY p.l.aC q.l.aC-xX p.l.aC q.l.aC==1)&& !(decide (aq Let.aE ls<=2)&&decide (0<aq Let.aA ls/2)))))
 then some (kY (qK (pieces ls) fun k _=>decide (k=av)||decide (k=(av+1)%ls.length)) p.l.gate (tY p.l.aC q.l.aC) (-2)) else none
def Xx{l:c_}{drop:Nat->Pc->Bool}{p:Pc}(h:p∈qK l drop):p∈l:=by
 obtain⟨i,_,hi⟩:=List.mem_filterMap.1 h;unfold Oa at hi;cases hl:l[i]? with
 |none=>rw[hl] at hi;cases hi
 |some q=>
  rw[hl] at hi;simp only at hi;split at hi
  .cases hi
  cases hi;exact aV hl
def ajY(g:cX F ls){av:Nat}(ha:av<ls.length){k b c:Int}{l o:Bool}{sg:Int}:
  aK S 103 [.one (.p (eU F ls)),lL k av b c l o sg] (kR (ug ls av)):=by
 have hlen:=g.len;have bY:=fK ls;have pe:=C0 g ha;have hm:=dr (av+1) (show 0<ls.length by omega);have sa:=asH g;obtain⟨p,hp⟩:=aM (ls:=pieces ls) (k:=av) aa;obtain⟨q,hq⟩:=aM (ls:=pieces ls) (k:=(av+1)%ls.length) aa;obtain⟨p1,p2⟩:=sa p (aV hp);obtain⟨q1,q2⟩:=sa q (aV hq);have gH:=kI hp;have qH:=kI hq;have jI:S.shared 130=true:=ah;have lo:S.lone 6592320320=false:=ah;have eV:=g.cr;unfold ug;simp only[dA,hp,hq,nO];refine bk c103 ?_;cases c1:(p.l.kind==1) with
 |false=>
  have n1:(p.l.kind !=1)=true:=by simp[bne,c1]
  simp only[go_sem,i103,s127,de pe iB,gH,qH,Pc.ps,n1];exact⟨aJ,rfl⟩
 |true=>
 have n1:(p.l.kind !=1)=false:=by simp[bne,c1]
 cases c2:(q.l.kind==1) with
 |false=>
  have n2:(q.l.kind !=1)=true:=by simp[bne,c2]
  simp only[go_sem,i103,s127,de pe iB,gH,qH,Pc.ps,n1,n2];exact⟨aJ,rfl⟩
 |true=>
 have n2:(q.l.kind !=1)=false:=by simp[bne,c2]
 cases c3:(p.l.gate==q.l.gate) with
 |false=>
  have n3:(p.l.gate !=q.l.gate)=true:=by simp[bne,c3]
  simp only[go_sem,i103,s127,de pe iB,gH,qH,Pc.ps,n1,n2,n3];exact⟨aJ,rfl⟩
 |true=>
 have n3:(p.l.gate !=q.l.gate)=false:=by simp[bne,c3]
 have tc:(if q.l.aC>p.l.aC then q.l.aC else p.l.aC)=tY p.l.aC q.l.aC:=rfl;have oD:(if q.l.aC<p.l.aC then q.l.aC else p.l.aC)=xX p.l.aC q.l.aC:=rfl;have hmxb: -1000000<=tY p.l.aC q.l.aC/\tY p.l.aC q.l.aC<=1000000:=by unfold tY;split<;>omega
 have hmnb: -1000000<=xX p.l.aC q.l.aC/\xX p.l.aC q.l.aC<=1000000:=by unfold xX;split<;>omega
 have wd:=uZ (x:=tY p.l.aC q.l.aC-xX p.l.aC q.l.aC) aa aa;generalize tY p.l.aC q.l.aC=mx at*;generalize xX p.l.aC q.l.aC=mn at*;cases c4:(mx-mn==1) with
 |false=>
  have n4:(mx-mn !=1)=true:=by simp[bne,c4]
  simp only[go_sem,i103,s127,de pe iB,gH,qH,Pc.ps,n1,n2,n3,tc,oD,wd,n4];exact⟨aJ,rfl⟩
 |true=>
 have n4:(mx-mn !=1)=false:=by simp[bne,c4]
 have fy:∀(X:Prop),X->X:=fun _ h=>h;by_cases c5:aq Let.aE ls<=2
 .have n5:((aq Let.aE ls:Int)<=2):=aa;by_cases c6:0<aq Let.aA ls/2
  .have n6:((0:Int)<((aq Let.aA ls/2:Nat):Int)):=aa;rw[Bg c5,Bg c6];simp only[go_sem,i103,s127,de pe iB,gH,qH,Pc.ps,n1,n2,n3,tc,oD,wd,n4,n5,n6];exact⟨aJ,rfl⟩
  have n6:¬((0:Int)<((aq Let.aA ls/2:Nat):Int)):=aa;rw[Bg c5,Eo c6];simp only[go_sem,i103,s127,de pe iB,gH,qH,Pc.ps,n1,n2,n3,tc,oD,wd,n4,n5,n6,s128];refine⟨aJ,?_⟩;refine rX (aiK (pieces ls) aa ⟨rfl,rfl⟩ s129 (fun k _=>decide (k=av)||decide (k=(av+1)%ls.length)) (fun k p _=>abq k av ((av+1)%ls.length) p)) lo (.inr (qY (DZ _))) fun cc bU gc hb=>?_;have b8:=hb 6592128896 ae;have b9:=hb 6592128960 ae;simp only[go_sem] at b8 b9;simp only[go_sem,b8,b9,tc,jI];refine adx (l:=qK (pieces ls) fun k _=>decide (k=av)||decide (k=(av+1)%ls.length)) (mY (HR _ _ _) aa) ae (fun x hx=>sa x (Xx hx)) gc fun bh uw bj=>?_;simp only[go_sem];exact yE uw
 have n5:¬((aq Let.aE ls:Int)<=2):=aa;rw[Eo c5];simp only[go_sem,i103,s127,de pe iB,gH,qH,Pc.ps,n1,n2,n3,tc,oD,wd,n4,n5,s128];refine⟨aJ,?_⟩;refine rX (aiK (pieces ls) aa ⟨rfl,rfl⟩ s129 (fun k _=>decide (k=av)||decide (k=(av+1)%ls.length)) (fun k p _=>abq k av ((av+1)%ls.length) p)) lo (.inr (qY (DZ _))) fun cc bU gc hb=>?_;have b8:=hb 6592128896 ae;have b9:=hb 6592128960 ae;simp only[go_sem] at b8 b9;simp only[go_sem,b8,b9,tc,jI];refine adx (l:=qK (pieces ls) fun k _=>decide (k=av)||decide (k=(av+1)%ls.length)) (mY (HR _ _ _) aa) ae (fun x hx=>sa x (Xx hx)) gc fun bh uw bj=>?_;simp only[go_sem];exact yE uw
abbrev iP(o:d_):s_:=o.map fun n=>[PV.int .i64 n]
def BO{o:d_}{k:Nat}{v:Int}(h:o[k]?=some v):(iP o)[k]?=some [.int .i64 v]:=by simp[h]
def qd(o:d_)(x:Int)(i:Nat):Bool:=match o[i]? with|some y=>y==x|none=>false
def apj(o:d_)(x:Int)(hl:o.length<=1000000):aK S 192 [.one (.p (.sl (iP o))),vi x] (ri (match (List.range o.length).find? (qd o x) with|some k=>(k:Int)|none=> -1)):=by
 refine bk c192 ?_;simp only[go_sem,i192];refine dy (fun k ak aj=>ak 0=.one (.p (.sl (iP o)))/\ak 1=vi x/\ak 7=vi o.length/\ak 8=vi k/\ ∀j,j<k->qd o x j=false) 0 o.length (bG _) ?_ ?_
 .simp only[go_sem];exact⟨rfl,fun j hj=>absurd hj (oN j)⟩
 rintro k ak aj hk ⟨h0,h1,h7,h8,hn⟩
 by_cases aw:k<o.length
 .have aL:((k:Int)<(o.length:Int)):=aa;obtain⟨y,hy⟩:=aM aw;have fV:=BO hy;have w1:=cS (n:=k) aa;have pG:qd o x k=(y==x):=by simp[qd,hy]
  cases hb:(y==x) with
  |true=>
   have wB:(x==y)=true:=by have:=dk.1 hb;simp[this]
   rw[hb] at pG;have hf:=Df (p:=qd o x) aw hn pG;simp only[go_sem,i192_l1,h0,h1,h7,h8,aL,fV,wB,hf];first|done|exact aJ|rfl
  |false=>
   have wB:(x==y)=false:=by
    have:¬y=x:=by simpa using hb
    simp;exact fun h=>this h.symm
   rw[hb] at pG;have y7:∀j,j<k+1->qd o x j=false:=fun j hj=>by
    rcases nN.1 hj with h|rfl
    .exact hn j h
    exact pG
   simp only[go_sem,i192_l1,h0,h1,h7,h8,aw,aL,fV,wB,w1];first|exact y7|exact⟨aJ,y7⟩
 have:k=o.length:=aa;subst this;have hf:=JD (p:=qd o x) hn;simp only[go_sem,i192_l1,i192_r2,h7,h8,eI,hf]
def aln(o:d_)(x:Int)(hl:o.length<=1000000):aK S 164 [.one (.p (.sl (iP o))),vi x] (rb (o.contains x)):=by
 have pi:=apj o x hl;refine bk c164 ?_;cases hm:o.contains x with
 |true=>
  have iX:x∈o:=by simpa using hm
  obtain⟨k,hk⟩:=iJ iX;have eH:=(aT.1 hk).1;cases hf:(List.range o.length).find? (qd o x) with
  |none=>have:=ID.1 hf k (gV.2 eH);simp[qd,hk] at this
  |some j=>rw[hf] at pi;have vz:(0:Int)<=(j:Int):=aa;simp only[go_sem,i164,s192,eT pi,vz]
 |false=>
  have iX:x∉o:=by simpa using hm
  cases hf:(List.range o.length).find? (qd o x) with
  |some j=>
   have h1:=Lz hf;unfold qd at h1;cases ho:o[j]? with
   |none=>rw[ho] at h1;cases h1
   |some y=>
    rw[ho] at h1;have:y=x:=by simpa using h1
    subst this;exact absurd (aV ho) iX
  |none=>rw[hf] at pi;have vz:¬(0:Int)<= -1:=ae;simp only[go_sem,i164,s192,eT pi,vz]
def vk(ids:d_)(_:Nat)(p:Pc):Bool:=(p.l.kind==2)&&ids.contains p.l.id
def al3(ids:d_)(hl:ids.length<=1000000)(k:Nat)(p:Pc):aK S 163 [vi k,.agg (p.ps.map .p),.one (.p (.box [.sl (iP ids)]))] (rb (vk ids k p)):=by
 have pc:=aln ids p.l.id hl;refine bk c163 ?_;unfold vk;cases h:(p.l.kind==2) with
 |true=>simp only[go_sem,i163,Pc.ps,h,s164,dZ pc]
 |false=>simp only[go_sem,i163,Pc.ps,h]
def kD(ids:d_)(k:Nat)(p:Pc):Pc:={p with l:={p.l with id:=p.l.id-((ids.take k).countP (fun i=>decide (i<p.l.id)):Nat)}}
def tj(ids:d_)(p:Pc):Pc:=if p.l.kind==2 then kD ids ids.length p else p
abbrev Jv(l:c_)(ids:d_):c_:=(qK l (vk ids)).map (tj ids)
abbrev uO(ids:d_)(l:c_)(k:Nat):c_:=(l.take k).map (tj ids)++l.drop k
def afV{ids:d_}{l:c_}{k:Nat}{p:Pc}(h:l[k]?=some p):(uO ids l k)[k]?=some p:=by have hk:=(aT.1 h).1;rw[uO,zI (by rw[cM,iK];omega),cM,iK,zK aa,Nat.sub_self,zJ];exact h
def aqo(ids:d_)(l:c_)(k:Nat):(uO ids l k).length=l.length:=by rw[uO,fS,cM,iK,lO];omega
def aqp{ids:d_}{l:c_}{k:Nat}{p:Pc}(h:l[k]?=some p):(uO ids l k).set k (tj ids p)=uO ids l (k+1):=by
 have hk:=(aT.1 h).1;have An:l.drop k=p::l.drop (k+1):=by obtain⟨hh,rfl⟩:=aT.1 h;exact List.drop_eq_getElem_cons hh
 have e1:((l.take k).map (tj ids)).length=k:=by rw[cM,iK];omega
 rw[uO,List.set_append_right _ _ aa,e1,Nat.sub_self,An,List.set_cons_zero,uO,qq,h];simp
def Ic(o:c_)(k:Nat)(p:Pc):(eo o).set k p.ps=eo (o.set k p):=by simp[List.map_set]
def abv(l:c_)(ids:d_)(hl:l.length<=1000000)(hi:ids.length<=1000)(hb:∀p∈l,-1000000<=p.l.id/\p.l.id<=1000000):
  aK S 136 [.one (.p (.sl (eo l))),.one (.p (.sl (iP ids)))] (.one (aU nI 7 (eo (Jv l ids)))):=by
 have pw:=avY l hl (f:=163) (x:=.box [.sl (iP ids)]) rfl s163 (vk ids) (fun k p _=>al3 ids aa k p);have lo:S.lone 8704064128=false:=ah;have oz:∀p∈qK l (vk ids),-1000000<=p.l.id/\p.l.id<=1000000:=fun p hp=>hb p (Xx hp);have eH:(qK l (vk ids)).length<=1000000:=mY (HR _ _ _) hl;refine bk c136 ?_;simp only[go_sem,i136,s128];refine rX pw lo (.inr (qY (DZ _))) fun cc oU gc mu=>?_;have z3:=mu 8704000000 ae;simp only[go_sem] at z3;unfold Jv;generalize qK l (vk ids)=m at gc oz eH;rcases gc with ⟨e,e2⟩|⟨aI,gg,e2,hC⟩
 .cases e2;have:m=[]:=by simpa using e
  subst this;have hz:¬(((0:Nat):Int)<((0:Nat):Int)):=aa;simp only[go_sem];refine dy (fun k ak aj=>k=0/\ak 5=.one (.p .nils)/\ak 14=vi ((0:Nat):Int)/\ak 15=vi ((0:Nat):Int)) 0 0 (bR _) ?_ ?_
  .simp only[go_sem];exact rfl
  rintro k ak aj _ ⟨rfl,h5,nu,mq⟩
  simp only[go_sem,i136_l3,i136_r4,h5,nu,mq,hz];rfl
 cases e2;simp only[go_sem];refine dy (fun k ak aj=>ak 3=.one (.aZ 8704000000 1 0)/\aj 8704000000=(1,some (.var [.p (.sl (iP ids))]))/\ak 5=.one (.hsl 8704064128 gg 7 0 m.length)/\ak 13=.one (.hsl 8704064128 gg 7 0 m.length)/\ak 14=vi m.length/\ak 15=vi k/\aj 8704064128=(gg,some (.arr nI 7 (eo (uO ids m k))))) 0 m.length (bG _) ?_ ?_
 .simp only[go_sem,z3,hC];refine⟨rfl,?_⟩;simp[uO]
 rintro k ak aj hk ⟨h3,bI,h5,qD,nu,mq,bO⟩
 by_cases aw:k<m.length
 .have aL:((k:Int)<(m.length:Int)):=aa;obtain⟨p,hp⟩:=aM aw;have xO:=kI (afV (ids:=ids) hp);have w1:=cS (n:=k) aa;have Hy:=aqo ids m k;have iG:=aqp (ids:=ids) hp;have Kb:k<(uO ids m k).length:=aa;cases c1:(p.l.kind==2) with
  |false=>
   have n1:(p.l.kind !=2)=true:=by simp[bne,c1]
   have BM:uO ids m (k+1)=uO ids m k:=by
    rw[<- iG];have e:tj ids p=p:=by unfold tj;rw[c1];rfl
    rw[e];obtain⟨hh,he⟩:=aT.1 (afV (ids:=ids) hp);rw[<- he,List.set_getElem_self]
   simp only[go_sem,i136_l3,i136_r2,h3,bI,h5,qD,nu,mq,bO,aw,aL,xO,Pc.ps,n1,w1,BM]
  |true=>
   have n1:(p.l.kind !=2)=false:=by simp[bne,c1]
   have hid:=oz p (aV hp);have uA:tj ids p=kD ids ids.length p:=by unfold tj;rw[c1];rfl
   rw[uA] at iG;generalize uO ids m k=q at xO Hy iG Kb bO;have q0:q.set k (kD ids 0 p)=q:=by
    have:kD ids 0 p=p:=by unfold kD;simp
    rw[this];have h1:q[k]?=some p:=by
     have h2:(eo q)[k]?=some p.ps:=xO;rw[fG] at h2;cases hq:q[k]? with
     |none=>rw[hq] at h2;cases h2
     |some x=>rw[hq] at h2;simp[Pc.ps] at h2;obtain⟨⟨a,b,c,d,e,f⟩,g⟩:=x;obtain⟨⟨a',b',c',d',e',f'⟩,g'⟩:=p;simp at h2;obtain⟨rfl,rfl,rfl,rfl,rfl,rfl,rfl⟩:=h2;rfl
    obtain⟨hh,he⟩:=aT.1 h1;rw[<- he,List.set_getElem_self]
   simp only[go_sem,i136_l3,h3,bI,qD,nu,mq,bO,aw,aL,xO,Pc.ps,n1];refine dy (fun j dz bh=>dz 3=.one (.aZ 8704000000 1 0)/\bh 8704000000=(1,some (.var [.p (.sl (iP ids))]))/\dz 5=.one (.hsl 8704064128 gg 7 0 m.length)/\dz 13=.one (.hsl 8704064128 gg 7 0 m.length)/\dz 14=vi m.length/\dz 15=vi k/\dz 6=vi k/\dz 24=.one (.p (.sl (iP ids)))/\dz 25=vi ids.length/\dz 26=vi j/\
    (∃g7,dz 7=.one (.aZ 8704256192 g7 0)/\bh 8704256192=(g7,some (.var (p.ps.map .p))))/\bh 8704064128=(gg,some (.arr nI 7 (eo (q.set k (kD ids j p)))))) 0 ids.length (bG _) ?_ ?_
   .simp only[go_sem,h3,bI,h5,qD,nu,mq,bO,q0];first|exact⟨rfl,_,⟨rfl,rfl⟩,rfl⟩|exact⟨rfl,⟨_,rfl,rfl⟩⟩|exact⟨_,rfl,rfl⟩|exact⟨⟨_,rfl,rfl⟩,rfl⟩|exact⟨rfl,⟨_,rfl,rfl⟩,rfl⟩|trace_state
   rintro j dz bh hj ⟨p3,cI,p5,p13,wW,p15,p6,p24,p25,p26,⟨g7,p7,c7⟩,cO⟩
   by_cases tP:j<ids.length
   .have Hx:((j:Int)<(ids.length:Int)):=aa;obtain⟨d,hd⟩:=aM tP;have l5:=BO hd;have w2:=cS (n:=j) aa;have tL:(ids.take (j+1)).countP (fun i=>decide (i<p.l.id))=(ids.take j).countP (fun i=>decide (i<p.l.id))+if d<p.l.id then 1 else 0:=by
     rw[qq,hd,xf];simp[xg,List.countP_nil]
    have bN:(ids.take j).countP (fun i=>decide (i<p.l.id))<=j:=mY OZ (by rw[iK];omega);have hqa:(eo (q.set k (kD ids j p)))[k]?=some (kD ids j p).ps:=kI (by rw[qT,aD rfl,aD aa]);have tR:k<(q.set k (kD ids j p)).length:=by rw[ud];omega
    by_cases hg:d<p.l.id
    .have e1:(kD ids j p).l.id-1=(kD ids (j+1) p).l.id:=by
      unfold kD;simp only;rw[tL,aD hg];omega
     have w3:IntKind.i64.wrap ((kD ids j p).l.id-1)=(kD ids (j+1) p).l.id:=by rw[<- e1];exact uZ (by unfold kD;simp only;omega) (by unfold kD;simp only;omega)
     have dR:((kD ids (j+1) p).ps)=[.int .i64 (kD ids j p).l.kind,.int .i64 (kD ids j p).l.gate,.int .i64 (kD ids j p).l.aC,.int .i64 (kD ids (j+1) p).l.id,.int .i64 (kD ids j p).l.sign,.bool (kD ids j p).l.over,.bool (kD ids j p).d]:=rfl;have aek:(eo (q.set k (kD ids j p))).set k (kD ids (j+1) p).ps=eo (q.set k (kD ids (j+1) p)):=by rw[Ic,List.set_set]
     rw[dR] at aek;generalize kD ids j p=x at*;simp only[go_sem,i136_l1,p3,cI,p5,p13,wW,p15,p6,p24,p25,p26,p7,c7,cO,aw,tP,Hx,l5,hg,hqa,Pc.ps,w2,w3,aek];exact⟨g7,rfl,rfl⟩
    have e1:kD ids (j+1) p=kD ids j p:=by unfold kD;rw[tL,ay hg];simp
    simp only[go_sem,i136_l1,p3,cI,p5,p13,wW,p15,p6,p24,p25,p26,p7,c7,cO,tP,Hx,l5,hg,Pc.ps,w2,e1];exact⟨g7,rfl,rfl⟩
   have:j=ids.length:=aa;subst this;rw[iG] at cO;simp only[go_sem,i136_l1,i136_r2,p3,cI,p5,p13,wW,p15,p26,p25,cO,eI,w1,aw]
 have:k=m.length:=aa;subst this;have e1:uO ids m m.length=m.map (tj ids):=by rw[uO,lf,Ly,jA]
 rw[e1] at bO;simp only[go_sem,i136_l3,i136_r4,h5,nu,mq,eI];have uD:m.map (tj ids)≠[]:=by simpa using aI
 exact Ag (.inr ⟨by simpa using uD,gg,af,bO⟩)
def cX.ids(g:cX F ls):Xl ls/\Ib ls:=by have hc:=g.ok.cr;unfold mO at hc;simp only[cU] at hc;exact Ix.1 fun k hk=>gO.1 hc.1.2 k (gV.2 hk)
def arN{p:Pc}(h:p∈pieces ls):∃(i:Nat) (l:Let),ls[i]?=some l/\p=⟨l,iT ls i⟩:=by
 obtain⟨i,hi⟩:=iJ h;have tO:i<ls.length:=by rw[<- fK];exact(aT.1 hi).1
 obtain⟨l,hl⟩:=aM tO;rw[qP hl] at hi;cases hi;exact⟨i,l,hl,rfl⟩
def aep(g:cX F ls):∀p∈pieces ls,-1000000<=p.l.id/\p.l.id<=1000000:=by
 intro p hp;obtain⟨i,l,hl,rfl⟩:=arN hp;have hm:=aV hl;rcases g.ok.kinds l hm with h|h
 .have:=(sB (f:=(F:Int)) h).1 (g.bad l hm);simp only[this.1.1.2];omega
 have h1:=g.ids.1 l hm h;have:=g.cr;simp only;omega
def uM(ls:ai)(av:Nat):Option c_:=
 let p:=(pieces ls).getD av ⟨lX,false⟩
 let q:=(pieces ls).getD ((av+1)%ls.length) ⟨lX,false⟩
 if (p.l.kind==2)&&((q.l.kind==2)&&(p.l.id==q.l.id)) then some (Jv (pieces ls) [p.l.id]) else none
def aqn(g:cX F ls){av:Nat}(ha:av<ls.length){k b c:Int}{l o:Bool}{sg:Int}:
  aK S 106 [.one (.p (eU F ls)),lL k av b c l o sg] (kR (uM ls av)):=by
 have hlen:=g.len;have bY:=fK ls;have pe:=C0 g ha;have hm:=dr (av+1) (show 0<ls.length by omega);obtain⟨p,hp⟩:=aM (ls:=pieces ls) (k:=av) aa;obtain⟨q,hq⟩:=aM (ls:=pieces ls) (k:=(av+1)%ls.length) aa;have gH:=kI hp;have qH:=kI hq;have lo:S.lone 6784256896=false:=ah;unfold uM;simp only[dA,hp,hq,nO];refine bk c106 ?_;cases c1:(p.l.kind==2) with
 |false=>
  have n1:(p.l.kind !=2)=true:=by simp[bne,c1]
  simp only[go_sem,i106,s127,de pe iB,gH,Pc.ps,n1];exact⟨aJ,rfl⟩
 |true=>
 have n1:(p.l.kind !=2)=false:=by simp[bne,c1]
 cases c2:(q.l.kind==2) with
 |false=>
  have n2:(q.l.kind !=2)=true:=by simp[bne,c2]
  simp only[go_sem,i106,s127,de pe iB,gH,qH,Pc.ps,n1,n2];exact⟨aJ,rfl⟩
 |true=>
 have n2:(q.l.kind !=2)=false:=by simp[bne,c2]
 cases c3:(p.l.id==q.l.id) with
 |false=>
  have n3:(p.l.id !=q.l.id)=true:=by simp[bne,c3]
  simp only[go_sem,i106,s127,de pe iB,gH,qH,Pc.ps,n1,n2,n3];exact⟨aJ,rfl⟩
 |true=>
 have n3:(p.l.id !=q.l.id)=false:=by simp[bne,c3]
 have pd:=abv (pieces ls) [p.l.id] aa af (aep g);simp only[go_sem,i106,s127,de pe iB,gH,qH,Pc.ps,n1,n2,n3,s136];refine⟨aJ,?_⟩;refine alI pd lo (.inr (qY (DZ _))) fun cc bU w gc hb hw=>?_;simp only[go_sem];refine⟨?_,yE gc⟩;rcases hw with rfl|rfl<;>kernel_rfl
abbrev pA(ls:ai)(i:Nat):Pc:=(pieces ls).getD i ⟨lX,false⟩
def je{i:Nat}{p:Pc}(h:(pieces ls)[i]?=some p):pA ls i=p:=by simp[pA,dA,h]
abbrev nx(ls:ai)(e:Nat):Nat:=(e+1)%ls.length
def jt(ls:ai)(e:Nat)(ov:Bool):Bool:=((pA ls e).l.kind==2)&&(((pA ls (nx ls e)).l.kind==2)&&(((pA ls e).l.over==ov)&&((pA ls (nx ls e)).l.over==ov)))
def Jf(g:cX F ls){e:Nat}(he:e<ls.length)(ov:Bool):aK S 138 [.one (.p (eU F ls)),vi e,vb ov] (rb (jt ls e ov)):=by
 have hlen:=g.len;have bY:=fK ls;have pe:=C0 g he;have hm:=dr (e+1) (show 0<ls.length by omega);obtain⟨p,hp⟩:=aM (ls:=pieces ls) (k:=e) aa;obtain⟨q,hq⟩:=aM (ls:=pieces ls) (k:=(e+1)%ls.length) aa;have gH:=kI hp;have qH:=kI hq;unfold jt;rw[je hp,je hq];refine bk c138 ?_;cases c1:(p.l.kind==2) with
 |false=>simp only[go_sem,i138,s127,de pe iB,gH,Pc.ps,c1]
 |true=>
 cases c2:(q.l.kind==2) with
 |false=>simp only[go_sem,i138,s127,de pe iB,gH,qH,Pc.ps,c1,c2]
 |true=>
 cases c3:(p.l.over==ov) with
 |false=>simp only[go_sem,i138,s127,de pe iB,gH,qH,Pc.ps,c1,c2,c3]
 |true=>
 cases c4:(q.l.over==ov) with
 |false=>simp only[go_sem,i138,s127,de pe iB,gH,qH,Pc.ps,c1,c2,c3,c4]
 |true=>simp only[go_sem,i138,s127,de pe iB,gH,qH,Pc.ps,c1,c2,c3,c4]
def j9(ls:ai)(e:Nat):Nat×Nat×Bool:=if (pA ls e).l.kind==2 then (nx ls e,e,(pA ls (nx ls e)).l.kind==1) else (e,nx ls e,((pA ls e).l.kind==1)&&((pA ls (nx ls e)).l.kind==2))
abbrev ahs(a b c:PV):RV:=.tup [.one (.p a),.one (.p b),.one (.p c)]
def zh{aj:aB}{s:Nat}{a b c:PV}{l:Bool}:land aj [] s ((ahs a b c).gJ l)=some (.tup [.one (.p a),.one (.p b),.one (.p c)],[]):=by cases l<;>rfl
def agP(g:cX F ls){e:Nat}(he:e<ls.length):aK S 134 [.one (.p (eU F ls)),vi e] (ahs (.int .i64 ((j9 ls e).1:Nat)) (.int .i64 ((j9 ls e).2.1:Nat)) (.bool (j9 ls e).2.2)):=by
 have hlen:=g.len;have bY:=fK ls;have pe:=C0 g he;have hm:=dr (e+1) (show 0<ls.length by omega);obtain⟨p,hp⟩:=aM (ls:=pieces ls) (k:=e) aa;obtain⟨q,hq⟩:=aM (ls:=pieces ls) (k:=(e+1)%ls.length) aa;have gH:=kI hp;have qH:=kI hq;unfold j9;rw[je hp,je hq];refine bk c134 ?_;cases c1:(p.l.kind==2) with
 |true=>
  have e1:p.l.kind=2:=by simpa using c1
  rw[aD rfl];cases c2:(q.l.kind==1) with
  |true=>simp only[go_sem,i134,s127,de pe iB,gH,qH,Pc.ps,c1,c2];exact⟨aJ,rfl⟩
  |false=>simp only[go_sem,i134,s127,de pe iB,gH,qH,Pc.ps,c1,c2];exact⟨aJ,rfl⟩
 |false=>
  rw[ay ae];cases c2:(p.l.kind==1) with
  |true=>
   cases c3:(q.l.kind==2) with
   |true=>simp only[go_sem,i134,s127,de pe iB,gH,qH,Pc.ps,c1,c2,c3];exact⟨aJ,rfl⟩
   |false=>simp only[go_sem,i134,s127,de pe iB,gH,qH,Pc.ps,c1,c2,c3];exact⟨aJ,rfl⟩
  |false=>simp only[go_sem,i134,s127,de pe iB,gH,Pc.ps,c1,c2];exact⟨aJ,rfl⟩
def Ch(o:a_)(pr:Nat->Bool)(i:Nat):Bool:=match o[i]? with|some v=>pr v|none=>false
def api(o:a_)(hl:o.length<=1000000){f:Nat}{x y z:PV}(hn:x.norm=x/\y.norm=y/\z.norm=z)(jI:S.shared f=false)(pr:Nat->Bool)(hd:∀v∈o,aK S f [vi (v:Nat),.one (.p x),.one (.p y),.one (.p z)] (rb (pr v))):
  aK S 191 [.one (.p (.sl (nP o))),.one (.p (.fn f [] [x,y,z]))] (ri (match (List.range o.length).find? (Ch o pr) with|some k=>(k:Int)|none=> -1)):=by
 obtain⟨iY,jk,uD⟩:=hn;refine bk c191 ?_;simp only[go_sem,i191];refine dy (fun k ak aj=>ak 0=.one (.p (.sl (nP o)))/\ak 1=.one (.p (.fn f [] [x,y,z]))/\ak 7=vi o.length/\ak 8=vi k/\ ∀j,j<k->Ch o pr j=false) 0 o.length (bG _) ?_ ?_
 .simp only[go_sem];exact⟨rfl,fun j hj=>absurd hj (oN j)⟩
 rintro k ak aj hk ⟨h0,h1,h7,h8,uE⟩
 by_cases aw:k<o.length
 .have aL:((k:Int)<(o.length:Int)):=aa;obtain⟨v,hv⟩:=aM aw;have fV:=kE hv;have w1:=cS (n:=k) aa;have pd:=hd v (aV hv);have pG:Ch o pr k=pr v:=by simp[Ch,hv]
  cases hb:pr v with
  |true=>rw[hb] at pd pG;have hf:=Df (p:=Ch o pr) aw uE pG;simp only[go_sem,i191_l1,h0,h1,h7,h8,aL,fV,jI,iY,jk,uD,dZ pd,hf]
  |false=>
   rw[hb] at pd pG;simp only[go_sem,i191_l1,h0,h1,h7,h8,aw,aL,fV,jI,iY,jk,uD,dZ pd,w1];intro j hj;rcases nN.1 hj with h|rfl
   .exact uE j h
   exact pG
 have:k=o.length:=aa;subst this;have hf:=JD (p:=Ch o pr) uE;simp only[go_sem,i191_l1,i191_r2,h7,h8,eI,hf]
def alm(o:a_)(hl:o.length<=1000000){f:Nat}{x y z:PV}(hn:x.norm=x/\y.norm=y/\z.norm=z)(jI:S.shared f=false)(pr:Nat->Bool)(hd:∀v∈o,aK S f [vi (v:Nat),.one (.p x),.one (.p y),.one (.p z)] (rb (pr v))):
  aK S 161 [.one (.p (.sl (nP o))),.one (.p (.fn f [] [x,y,z]))] (rb (o.any pr)):=by
 have pi:=api o hl hn jI pr hd;obtain⟨iY,jk,uD⟩:=hn;refine bk c161 ?_;cases ha:o.any pr with
 |true=>
  obtain⟨v,hv,hp⟩:=zE.1 ha;obtain⟨k,hk⟩:=iJ hv;have eH:=(aT.1 hk).1;cases hf:(List.range o.length).find? (Ch o pr) with
  |none=>have:=ID.1 hf k (gV.2 eH);simp[Ch,hk,hp] at this
  |some j=>rw[hf] at pi;have vz:(0:Int)<=(j:Int):=aa;simp only[go_sem,i161,s191,eT pi,vz]
 |false=>
  cases hf:(List.range o.length).find? (Ch o pr) with
  |some j=>
   have h1:=Lz hf;unfold Ch at h1;cases ho:o[j]? with
   |none=>rw[ho] at h1;cases h1
   |some v=>rw[ho] at h1;have:=IA.1 ha v (aV ho);exact absurd h1 this
  |none=>rw[hf] at pi;have vz:¬(0:Int)<= -1:=ae;simp only[go_sem,i161,s191,eT pi,vz]
def vj(f:Fc)(e:Nat):Nat:=f.cq.countP fun d=>d/2==e
def we(f:Fc)(pl:Nat)(edges:a_):Bool:=(f.cq.length==edges.length)&&((f.places.length==pl)&&edges.all fun e=>vj f e==1)
def aaV(g:cX F ls){j:Nat}{f:Fc}(hf:(eS F ls)[j]?=some f)(edges:a_)(he:edges.length<=1000)(pl:Nat):
  aK S 162 [vi j,.one (.p (.box [eU F ls])),.one (.p (.box [.sl (nP edges)])),.one (.p (.box [.int .i64 pl]))] (rb (we f pl edges)):=by
 have hlen:=g.len;have gR:(aG ls).length<=ls.length:=xv ls ls.length;have hdl:=V5 g.ok (aV hf);have iw:nD ls<=1600:=by unfold nD;omega
 have Hp:=V6 hf;have ow:=(aT.1 hf).1;refine bk c162 ?_;unfold we;cases c1:(f.cq.length==edges.length) with
 |false=>
  have n1:(((f.cq.length:Nat):Int)!=((edges.length:Nat):Int))=true:=by
   have:¬f.cq.length=edges.length:=by simpa using c1
   simp[bne];omega
  simp only[go_sem,i162,Hp,Fc.ps,n1]
 |true=>
 have n1:(((f.cq.length:Nat):Int)!=((edges.length:Nat):Int))=false:=by
  have:f.cq.length=edges.length:=by simpa using c1
  simp[bne,this]
 cases c2:(f.places.length==pl) with
 |false=>
  have n2:(((f.places.length:Nat):Int)!=((pl:Nat):Int))=true:=by
   have:¬f.places.length=pl:=by simpa using c2
   simp[bne];omega
  simp only[go_sem,i162,Hp,Fc.ps,n1,n2]
 |true=>
 have n2:(((f.places.length:Nat):Int)!=((pl:Nat):Int))=false:=by
  have:f.places.length=pl:=by simpa using c2
  simp[bne,this]
 simp only[go_sem,i162,Hp,Fc.ps,n1,n2];refine dy (fun k ak aj=>ak 6=.one (.aZ 10368064448 1 0)/\aj 10368064448=(1,some (.var (f.ps.map .p)))/\ak 32=.one (.p (.sl (nP edges)))/\ak 33=vi edges.length/\ak 34=vi k/\ ∀i e,i<k->edges[i]?=some e->(vj f e==1)=true) 0 edges.length (bG _) ?_ ?_
 .simp only[go_sem,Fc.ps];first|exact⟨rfl,fun i e hi=>absurd hi (oN i)⟩|exact⟨rfl,rfl,fun i e hi=>absurd hi (oN i)⟩|exact fun i e hi=>absurd hi (oN i)
 rintro k ak aj hk ⟨h6,b6,h32,E0,Hc,au⟩
 simp only[Fc.ps,eh,lQ] at b6;by_cases aw:k<edges.length
 .have aL:((k:Int)<(edges.length:Int)):=aa;obtain⟨e,hek⟩:=aM aw;have Nh:=kE hek;have w1:=cS (n:=k) aa;simp only[go_sem,i162_l4,h6,b6,h32,E0,Hc,aL,Nh];refine dy (fun i dz bh=>dz 6=.one (.aZ 10368064448 1 0)/\bh 10368064448=(1,some (.var (f.ps.map .p)))/\dz 32=.one (.p (.sl (nP edges)))/\dz 33=vi edges.length/\dz 34=vi k/\dz 8=vi e/\dz 9=vi ((f.cq.take i).countP fun d=>d/2==e:Nat)/\dz 39=.one (.p (.sl (nP f.cq)))/\dz 40=vi f.cq.length/\dz 41=vi i) 0 f.cq.length (bG _) ?_ ?_
  .simp only[go_sem,h6,b6,h32,E0,Hc,Fc.ps];first|exact⟨rfl,rfl⟩|exact rfl|exact⟨rfl,rfl,rfl⟩
  rintro i dz bh hi ⟨p6,d6,p32,p33,FW,p8,p9,p39,p40,p41⟩
  by_cases vB:i<f.cq.length
  .have aed:((i:Int)<(f.cq.length:Int)):=aa;obtain⟨d,hd⟩:=aM vB;have l5:=kE hd;have w2:=cS (n:=i) aa;have wq:=wrap_small (n:=d/2) (by have:=V4 (aV hf) d (aV hd);omega);have bN:(f.cq.take i).countP (fun d=>d/2==e)<=i:=mY OZ (by rw[iK];omega);have w3:=cS (n:=(f.cq.take i).countP fun d=>d/2==e) aa;have tL:(f.cq.take (i+1)).countP (fun d=>d/2==e)=(f.cq.take i).countP (fun d=>d/2==e)+if (d/2==e)=true then 1 else 0:=by
    rw[qq,hd,xf];simp[xg,List.countP_nil]
   cases pV:(d/2==e) with
   |true=>
    have n3:(((d/2:Nat):Int)==(e:Int))=true:=by
     have:d/2=e:=by simpa using pV
     simp;omega
    rw[pV,aD rfl] at tL;simp only[go_sem,i162_l1,p6,p32,p33,FW,p8,p9,p39,p40,p41,vB,aed,l5,eO,fR,wq,n3,w2,w3,tL];first|exact d6|exact⟨d6,rfl⟩
   |false=>
    have n3:(((d/2:Nat):Int)==(e:Int))=false:=by
     have:¬d/2=e:=by simpa using pV
     simp;omega
    rw[pV,ay ae,u9] at tL;simp only[go_sem,i162_l1,p6,p32,p33,FW,p8,p9,p39,p40,p41,vB,aed,l5,eO,fR,wq,n3,w2,tL];first|exact d6|exact⟨d6,rfl⟩
  have:i=f.cq.length:=aa;subst this;rw[lf] at p9;have hdc:(f.cq.countP fun d=>d/2==e)=vj f e:=rfl;rw[hdc] at p9;cases hq:(vj f e==1) with
  |true=>
   have n4:(((vj f e:Nat):Int)!=1)=false:=by
    have:vj f e=1:=by simpa using hq
    simp[bne,this]
   simp only[go_sem,i162_l1,i162_r2,i162_r3,p6,p32,p33,FW,p9,p40,p41,eI,n4,w1,aw];refine⟨d6,fun i2 e2 Hr Hn=>?_⟩;rcases nN.1 Hr with h|rfl
   .exact au i2 e2 h Hn
   rw[hek] at Hn;cases Hn;exact hq
  |false=>
   have n4:(((vj f e:Nat):Int)!=1)=true:=by
    have:¬vj f e=1:=by simpa using hq
    simp[bne];omega
   have dQ:(edges.all fun e=>vj f e==1)=false:=List.all_eq_false.2 ⟨e,aV hek,by rw[hq];decide⟩;simp only[go_sem,i162_l1,i162_r2,p9,p40,p41,eI,n4,dQ]
 have:k=edges.length:=aa;subst this;have dQ:(edges.all fun e=>vj f e==1)=true:=gO.2 fun e he=>by obtain⟨i,hi⟩:=iJ he;exact au i e (aT.1 hi).1 hi
 simp only[go_sem,i162_l4,i162_r5,E0,Hc,eI,dQ]
def lk(F:Nat)(ls:ai)(pl:Nat)(edges:a_)(e0:Nat):Bool:=we (lU F ls (2*e0)) pl edges||we (lU F ls (2*e0+1)) pl edges
def TS(g:cX F ls)(edges:a_)(dI:edges.length<=1000){e0:Nat}(h0:edges[0]?=some e0)(he0:e0<ls.length)(pl:Nat):
  aK S 135 [.one (.p (eU F ls)),vi pl,.one (.p (.sl (nP edges)))] (rb (lk F ls pl edges e0)):=by
 have hlen:=g.len;obtain⟨j0,a1,a2,a3⟩:=V1 g (d:=2*e0) aa;obtain⟨j1,b1,b2,b3⟩:=V1 g (d:=2*e0+1) aa;have g0:(eS F ls).getD j0 Ol=lU F ls (2*e0):=by rw[dA,a2];rfl
 have g1:(eS F ls).getD j1 Ol=lU F ls (2*e0+1):=by rw[dA,b2];rfl
 have pc:=alm [j0,j1] af (f:=162) (x:=.box [eU F ls]) (y:=.box [.sl (nP edges)]) (z:=.box [.int .i64 pl]) ⟨rfl,rfl,rfl⟩ s162 (fun j=>we ((eS F ls).getD j Ol) pl edges) (fun v hv=>by
  simp only[cD,fq,or_false] at hv;rcases hv with rfl|rfl
  .rw[g0];exact aaV g a2 edges dI pl
  rw[g1];exact aaV g b2 edges dI pl)
 have anT:([j0,j1].any fun j=>we ((eS F ls).getD j Ol) pl edges)=lk F ls pl edges e0:=by simp only[List.any_cons,List.any_nil,Bool.or_false,g0,g1];rfl
 rw[anT] at pc;simp only[eh,lQ] at pc;have ja:=kE a1;have jb:=kE b1;have he:=kE h0;have m2:=u4 (a:=e0) aa;have m3:=cS (n:=2*e0) aa;have wH:=XH F ls;have l1:2*e0<(pK F ls).length:=aa;have l2:2*e0+1<(pK F ls).length:=aa;have jU:0<edges.length:=(aT.1 h0).1;have hpos':(0:Int)<(edges.length:Int):=aa;refine bk c135 ?_;simp only[go_sem,i135,he,m2,m3,ja,jb,s161,nX pc];exact aJ
def fj(ls:ai)(l:c_)(e:Nat):c_:=(l.set e (l.getD (nx ls e) ⟨lX,false⟩)).set (nx ls e) (l.getD e ⟨lX,false⟩)
def zx(ls:ai)(l:c_)(e:Nat):(fj ls l e).length=l.length:=by simp[fj]
def fY(ls:ai)(l:c_)(es:a_):c_:=es.foldl (fj ls) l
def w8(ls:ai):∀(es:a_) (l:c_),(fY ls l es).length=l.length:=by
 intro es
 induction es with
 |nil=>intro l;rfl
 |cons e es ih=>intro l;show(fY ls (fj ls l e) es).length=_;rw[ih,zx]
def au6(g:cX F ls)(es:a_)(l6:∀e∈es,e<ls.length)(dI:es.length<=1000):
  aK S 141 [.one (.p (eU F ls)),.one (.p (.sl (nP es)))] (.one (aU nI 7 (eo (fY ls (pieces ls) es)))):=by
 have hlen:=g.len;have bY:=fK ls;have aI:pieces ls≠[]:=jl.1 (by have:=jl.2 g.ne;omega);have pcl:=aaz aI aa;have lo:S.lone 9024064256=false:=ah;refine bk c141 ?_;simp only[go_sem,i141,s132];refine rX pcl lo (.inl rfl) fun cc oU gc mu=>?_;rcases gc with ⟨e,_⟩|⟨_,gg,e,hC⟩
 .exact absurd (by simpa using e) aI
 cases e;rw[cM,bY];simp only[go_sem];refine dy (fun k ak aj=>ak 0=.one (.p (eU F ls))/\ak 5=.one (.hsl 9024064256 gg 7 0 ls.length)/\ak 15=.one (.p (.sl (nP es)))/\ak 16=vi es.length/\ak 17=vi k/\aj 9024064256=(gg,some (.arr nI 7 (eo (fY ls (pieces ls) (es.take k)))))) 0 es.length (bG _) ?_ ?_
 .simp only[go_sem,hC];first|exact⟨rfl,rfl⟩|rfl|exact⟨rfl,rfl,rfl⟩
 rintro k ak aj hk ⟨h0,h5,mq,qE,jG,bO⟩
 by_cases aw:k<es.length
 .have aL:((k:Int)<(es.length:Int)):=aa;obtain⟨e,he⟩:=aM aw;have Nh:=kE he;have Nf:=l6 e (aV he);have pe:=C0 g Nf;have w1:=cS (n:=k) aa;have nA:fY ls (pieces ls) (es.take (k+1))=fj ls (fY ls (pieces ls) (es.take k)) e:=by
   unfold fY;rw[qq,he,IF];rfl
  have jq:(fY ls (pieces ls) (es.take k)).length=ls.length:=by rw[w8,bY]
  have hm:=dr (e+1) (show 0<ls.length by omega);generalize fY ls (pieces ls) (es.take k)=m at bO nA jq;obtain⟨p,hp⟩:=aM (ls:=m) (k:=e) aa;obtain⟨q,hq⟩:=aM (ls:=m) (k:=(e+1)%ls.length) aa;have fV:=kI hp;have DC:=kI hq;have l1:e<m.length:=aa;have l2:(e+1)%ls.length<m.length:=aa;have s1:=Ic m e q;have uA:(m.set e q).set ((e+1)%ls.length) p=fj ls m e:=by unfold fj nx;rw[dA,hq,dA,hp];rfl
  have s2:=Ic (m.set e q) ((e+1)%ls.length) p;rw[uA,<- nA] at s2;simp only[Pc.ps] at s1 s2;obtain⟨p',gn⟩:=aM (ls:=m.set e q) (k:=e) (by rw[ud];omega);obtain⟨q',tQ⟩:=aM (ls:=m.set e q) (k:=(e+1)%ls.length) (by rw[ud];omega);have Xb:=kI tQ;simp only[go_sem,i141_l1,h0,h5,mq,qE,jG,bO,aw,aL,Nh,s127,de pe iB,Nf,hm,fV,DC,Xb,s1,s2,Pc.ps,w1];exact aJ
 have:k=es.length:=aa;subst this;rw[lf] at bO;simp only[go_sem,i141_l1,i141_r2,h5,qE,jG,eI];have h1:(fY ls (pieces ls) es).length=ls.length:=by rw[w8,bY]
 refine Ag (.inr ⟨?_,gg,by rw[cM,h1],bO⟩);intro h2;have:=congrArg List.length h2;rw[cM,h1,fe] at this;have h3:=jl.2 g.ne;omega
def eW(l:c_)(i:Nat)(r:Int):c_:=l.set i {(l.getD i ⟨lX,false⟩) with l:={(l.getD i ⟨lX,false⟩).l with aC:=r}}
def zu(l:c_)(i:Nat)(r:Int):(eW l i r).length=l.length:=by simp[eW]
def rS(F:Nat)(ls:ai)(av bv:Nat):Option c_:=
 if (j9 ls av).2.2&&((j9 ls bv).2.2&&(!((j9 ls av).2.1==(j9 ls bv).2.1)&&(((pA ls (j9 ls av).2.1).l.id==(pA ls (j9 ls bv).2.1).l.id)&&lk F ls 1 [av,bv] av)))
 then some (fY ls (eW (eW (pieces ls) (j9 ls av).1 (pA ls (j9 ls bv).1).l.aC) (j9 ls bv).1 (pA ls (j9 ls av).1).l.aC) [av,bv]) else none
def aha{e:Nat}(he:e<ls.length):(j9 ls e).1<ls.length/\(j9 ls e).2.1<ls.length:=by
 have hm:=dr (e+1) (show 0<ls.length by omega);unfold j9 nx;split
 .exact⟨hm,he⟩
 exact⟨he,hm⟩
def aj4(g:cX F ls){av bv:Nat}(ha:av<ls.length)(hb:bv<ls.length){k c:Int}{l o:Bool}{sg:Int}:
  aK S 105 [.one (.p (eU F ls)),lL k av bv c l o sg] (kR (rS F ls av bv)):=by
 have hlen:=g.len;have bY:=fK ls;have pa:=agP g ha;have pb:=agP g hb;have pc:=TS g [av,bv] af (e0:=av) rfl ha 1;obtain⟨p1,v1⟩:=aha ha;obtain⟨q1,w1⟩:=aha hb;unfold rS;generalize j9 ls av=x at*;generalize j9 ls bv=y at*;obtain⟨pi,Lq,one⟩:=x;obtain⟨qi,wi,two⟩:=y;simp only at pa pb p1 v1 q1 w1 |-;simp only[eh,lQ] at pc;have c1:((1:Nat):Int)=1:=rfl;rw[c1] at pc;obtain⟨P,hP⟩:=aM (ls:=pieces ls) (k:=pi) aa;obtain⟨Q,hQ⟩:=aM (ls:=pieces ls) (k:=qi) aa;obtain⟨V,hV⟩:=aM (ls:=pieces ls) (k:=Lq) aa
 obtain⟨W,hW⟩:=aM (ls:=pieces ls) (k:=wi) aa;rw[je hP,je hQ,je hV,je hW];have hPp:=kI hP;have hQp:=kI hQ;have hVp:=kI hV;have hWp:=kI hW;have aI:pieces ls≠[]:=jl.1 aa;have pcl:=aaz aI aa;have lo:S.lone 6720384256=false:=ah;refine bk c105 ?_;cases one with
 |false=>simp only[go_sem,i105,s134,de pa zh,de pb zh];exact⟨aJ,rfl⟩
 |true=>
 cases two with
 |false=>simp only[go_sem,i105,s134,de pa zh,de pb zh];exact⟨aJ,rfl⟩
 |true=>
 cases c2:(Lq==wi) with
 |true=>
  have n2:((Lq:Int)==(wi:Int))=true:=by simp[show Lq=wi by simpa using c2]
  simp only[go_sem,i105,s134,de pa zh,de pb zh,n2];exact⟨aJ,rfl⟩
 |false=>
 have n2:((Lq:Int)==(wi:Int))=false:=by
  have:¬Lq=wi:=by simpa using c2
  simp;omega
 cases c3:(V.l.id==W.l.id) with
 |false=>
  have n3:(V.l.id !=W.l.id)=true:=by simp[bne,c3]
  simp only[go_sem,i105,s134,de pa zh,de pb zh,n2,hVp,hWp,Pc.ps,n3];exact⟨aJ,rfl⟩
 |true=>
 have n3:(V.l.id !=W.l.id)=false:=by simp[bne,c3]
 cases c4:lk F ls 1 [av,bv] av with
 |false=>rw[c4] at pc;simp only[go_sem,i105,s134,de pa zh,de pb zh,n2,hVp,hWp,Pc.ps,n3,s135,nX pc];exact⟨aJ,rfl⟩
 |true=>
 rw[c4] at pc;simp only[go_sem,i105,s134,de pa zh,de pb zh,n2,hVp,hWp,hPp,hQp,Pc.ps,n3,s135,nX pc,s132];refine⟨aJ,aJ,?_⟩;refine rX pcl lo (.inl rfl) fun cc oU gc mu=>?_;have b3:=mu 6720000000 ae;simp only[go_sem] at b3;rcases gc with ⟨e,_⟩|⟨_,gg,e,hC⟩
 .exact absurd (by simpa using e) aI
 cases e;rw[cM,bY];have s1:=Ic (pieces ls) pi {P with l:={P.l with aC:=Q.l.aC}};have kW:(pieces ls).set pi {P with l:={P.l with aC:=Q.l.aC}}=eW (pieces ls) pi Q.l.aC:=by unfold eW;rw[dA,hP];rfl
 rw[kW] at s1;have hJ:(eW (pieces ls) pi Q.l.aC).length=ls.length:=by rw[zu,bY]
 obtain⟨Q',hQ'⟩:=aM (ls:=eW (pieces ls) pi Q.l.aC) (k:=qi) aa;have anP:=kI hQ';have s2:=Ic (eW (pieces ls) pi Q.l.aC) qi {Q' with l:={Q'.l with aC:=P.l.aC}};have fM:(eW (pieces ls) pi Q.l.aC).set qi {Q' with l:={Q'.l with aC:=P.l.aC}}=eW (eW (pieces ls) pi Q.l.aC) qi P.l.aC:=by rw[eW.eq_def (eW (pieces ls) pi Q.l.aC),dA,hQ'];rfl
 rw[fM] at s2;simp only[Pc.ps] at s1 s2;have vC:(eW (eW (pieces ls) pi Q.l.aC) qi P.l.aC).length=ls.length:=by rw[zu,hJ]
 simp only[go_sem,b3,hC,hPp,anP,Pc.ps,s1,s2,p1,q1];generalize eW (eW (pieces ls) pi Q.l.aC) qi P.l.aC=M at vC |-;obtain⟨es,Qr⟩:∃es,es=[av,bv]:=⟨_,rfl⟩;have Qo:es.length=2:=by rw[Qr];rfl
 have l6:∀e∈es,e<ls.length:=fun e he=>by rw[Qr] at he;simp only[cD,fq,or_false] at he;rcases he with rfl|rfl<;>assumption
 refine dy (fun k ak aj=>ak 0=.one (.p (eU F ls))/\ak 14=.one (.hsl 6720384256 gg 7 0 ls.length)/\(∃ge,ak 116=.one (.hsl 6720512256 ge 1 0 2)/\aj 6720512256=(ge,some (.arr 3 1 (nP es))))/\ak 117=vi ((2:Nat):Int)/\ak 118=vi k/\aj 6720384256=(gg,some (.arr nI 7 (eo (fY ls M (es.take k)))))) 0 2 (bG _) ?_ ?_
 .simp only[go_sem];exact⟨⟨_,rfl,by rw[Qr];rfl⟩,rfl,rfl⟩
 rintro k ak aj hk ⟨h0,nu,⟨ge,EZ,bE⟩,adH,adI,bO⟩
 by_cases aw:k<2
 .have aL:((k:Int)<((2:Nat):Int)):=aa;have Qx:k<es.length:=aa;obtain⟨e,he⟩:=aM Qx;have Nh:=kE he;have Nf:=l6 e (aV he);have pe:=C0 g Nf;have w1:=cS (n:=k) aa;have nA:fY ls M (es.take (k+1))=fj ls (fY ls M (es.take k)) e:=by
   unfold fY;rw[qq,he,IF];rfl
  have jq:(fY ls M (es.take k)).length=ls.length:=by rw[w8,vC]
  have hm:=dr (e+1) (show 0<ls.length by omega);generalize fY ls M (es.take k)=m at bO nA jq;obtain⟨p,hp⟩:=aM (ls:=m) (k:=e) aa;obtain⟨q,hq⟩:=aM (ls:=m) (k:=(e+1)%ls.length) aa;have fV:=kI hp;have DC:=kI hq;have l1:e<m.length:=aa;have l2:(e+1)%ls.length<m.length:=aa;have s1:=Ic m e q;have uA:(m.set e q).set ((e+1)%ls.length) p=fj ls m e:=by unfold fj nx;rw[dA,hq,dA,hp];rfl
  have s2:=Ic (m.set e q) ((e+1)%ls.length) p;rw[uA,<- nA] at s2;simp only[Pc.ps] at s1 s2;obtain⟨q',tQ⟩:=aM (ls:=m.set e q) (k:=(e+1)%ls.length) (by rw[ud];omega);have Xb:=kI tQ;simp only[go_sem,i105_l1,h0,nu,EZ,adH,adI,bE,bO,aw,aL,Nh,s127,de pe iB,Nf,hm,fV,DC,Xb,s1,s2,Pc.ps,w1];first|exact⟨aJ,ge,rfl,rfl⟩|exact⟨aJ,⟨ge,rfl,rfl⟩⟩|exact⟨aJ,⟨ge,rfl,rfl⟩,rfl⟩|trace_state
 have:k=2:=aa;subst this;have e1:es.take 2=[av,bv]:=by rw[Qr];rfl
 rw[e1] at bO;have vz:¬(((2:Nat):Int)<((2:Nat):Int)):=aa;simp only[go_sem,i105_l1,i105_r2,nu,adH,adI,vz];have h1:(fY ls M [av,bv]).length=ls.length:=by rw[w8,vC]
 refine yE (.inr ⟨?_,gg,by rw[nO,cM,h1],bO⟩);intro h2;have:=congrArg List.length h2;rw[nO,cM,h1,fe] at this;omega
def Sj(l:c_)(i:Nat)(g r:Int):c_:=l.set i {(l.getD i ⟨lX,false⟩) with l:={(l.getD i ⟨lX,false⟩).l with gate:=g,aC:=r}}
def trR(F:Nat)(ls:ai)(av:Nat):Option c_:=
 if ((pA ls av).l.kind==1)&&(decide ((pA ls av).l.gate<(F:Int))&&((pA ls av).l.aC==(cg ls (pA ls av).l.gate.toNat:Int)))
 then some (Sj (kY (pieces ls) ((pA ls av).l.gate+1) 0 1) av ((pA ls av).l.gate+1) 1) else none
def tlR(ls:ai)(av:Nat):Option c_:=
 if ((pA ls av).l.kind==1)&&(decide (0<(pA ls av).l.gate)&&((pA ls av).l.aC==1))
 then some (Sj (kY (pieces ls) (pA ls av).l.gate 1 (-1)) av ((pA ls av).l.gate-1) ((cg ls ((pA ls av).l.gate-1).toNat+1:Nat):Int)) else none
end
end Go.Abs
