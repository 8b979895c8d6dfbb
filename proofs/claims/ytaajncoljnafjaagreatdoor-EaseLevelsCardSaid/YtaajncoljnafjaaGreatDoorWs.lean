/- A part. -/
import Derived.Test.YtaajncoljnafjaaGreatDoorWn
set_option linter.all false
set_option maxRecDepth 100000
set_option maxHeartbeats 16000000
namespace Go.Abs
section
variable{ls:ai}{F:Nat}
def OV(l:c_)(drop:Nat->Pc->Bool)(i:Nat):Option Pc:=match l[i]? with|some p=>if drop i p then none else some p|none=>none
def u6(l:c_)(drop:Nat->Pc->Bool)(k:Nat):c_:=(List.range k).filterMap (OV l drop)
def qP(l:c_)(drop:Nat->Pc->Bool):c_:=u6 l drop l.length
def Cx{l:c_}{drop:Nat->Pc->Bool}{k:Nat}{p:Pc}(h:l[k]?=some p)(hd:drop k p=true):u6 l drop (k+1)=u6 l drop k:=by simp[u6,yX,aku,OV,h,hd]
def KW{l:c_}{drop:Nat->Pc->Bool}{k:Nat}{p:Pc}(h:l[k]?=some p)(hd:drop k p=false):u6 l drop (k+1)=u6 l drop k++[p]:=by simp[u6,yX,aku,OV,h,hd]
def Il(l:c_)(drop:Nat->Pc->Bool)(k:Nat):(u6 l drop k).length<=k:=by have:=List.length_filterMap_le (OV l drop) (List.range k);rwa[EX]at this
def DM(g:ch F ls){e:Nat}(he:e<ls.length):aK S 142 [.one (.p (fp F ls)),vi e] (Bx (.int .i64 e) (.int .i64 ((e+1)%ls.length:Nat))):=by have hlen:=g.len;have bU:=eY ls;have w1:=cU (n:=e) aa;have e1:=xG (e+1) ls.length;have hz:¬((ls.length:Int)=0):=aa;refine bt c142 ?_;simp only[go_sem,i142,w1,e1,bU,hz];exact⟨aJ,rfl⟩
def akd(l:c_)(hl:l.length<=1000000){f:Nat}{x y:PV}(hn:x.norm=x/\y.norm=y)(jC:S.shared f=false)(drop:Nat->Pc->Bool)(hd:∀(k:Nat) (p:Pc),l[k]?=some p->aK S f [vi k,.agg (p.ps.map .p),.one (.p x),.one (.p y)] (rb (drop k p))):
  aK S 143 [.one (.p (.sl (eE l))),.one (.p (.fn f [] [x,y]))] (.one (aW nE 7 (eE (qP l drop)))):=by
 obtain⟨iV,iL⟩:=hn;refine bt c143 ?_;simp only[go_sem,i143];refine dD (fun k ak aj=>ak 1=.one (.p (.fn f [] [x,y]))/\ak 8=.one (.p (.sl (eE l)))/\ak 9=vi l.length/\ak 10=vi k/\ ∃c,ak 5=.one c/\grown 9152384192 nE 7 (eE (u6 l drop k)) (.one c) aj) 0 l.length (bR _) ?_ ?_
 .simp only[go_sem];first|exact⟨rfl,_,rfl,.inl ⟨rfl,rfl⟩⟩|exact⟨_,rfl,.inl ⟨rfl,rfl⟩⟩|exact⟨rfl,rfl,_,rfl,.inl ⟨rfl,rfl⟩⟩
 rintro k ak aj hk ⟨h1,h8,h9,fq,c,h5,gc⟩
 by_cases aA:k<l.length
 .have aM:((k:Int)<(l.length:Int)):=aa;obtain⟨p,hp⟩:=aL aA;have fv:=ko hp;have w1:=cU (n:=k) aa;have pd:=hd k p hp;have eK:=Il l drop k;simp only[Pc.ps,ek,kU]at pd;cases hb:drop k p with
  |true=>rw[hb]at pd;have hs:=Cx hp hb;simp only[go_sem,i143_l1,h1,h5,h8,h9,fq,aA,aM,fv,Pc.ps,iV,iL,jC,eD pd,w1];refine⟨c,rfl,?_⟩;rw[hs];exact gc.of_eq (by simp only[aP,Nat.reduceEqDiff,if_false])
  |false=>rw[hb]at pd;have hs:=KW hp hb;simp only[go_sem,i143_l1,h1,h5,h8,h9,fq,aM,fv,Pc.ps,iV,iL,jC,eD pd];refine uO (site:=9152384192) (id:=9152384192) (bytes:=56) (xs:=[p.ps]) (rd:=[9152384128]) (gc.of_eq (by simp only[aP,Nat.reduceEqDiff,if_false])) (by simp[fN,aP,Pc.ps]) (.inl rfl) (by simp only[cE,dI,fe];omega) fun c' cF hc jh=>?_;simp only[go_sem,h1,h8,h9,fq,aA,w1];refine⟨c',rfl,?_⟩;rw[hs,ah9];exact hc
 have:k=l.length:=aa;subst this;simp only[go_sem,i143_l1,i143_r2,h5,h9,fq,eS];exact A6 gc
def axK(l:c_)(hl:l.length<=1000000){f:Nat}{x:PV}(hn:x.norm=x)(jC:S.shared f=false)(drop:Nat->Pc->Bool)(hd:∀(k:Nat) (p:Pc),l[k]?=some p->aK S f [vi k,.agg (p.ps.map .p),.one (.p x)] (rb (drop k p))):
  aK S 143 [.one (.p (.sl (eE l))),.one (.p (.fn f [] [x]))] (.one (aW nE 7 (eE (qP l drop)))):=by
 have iV:=hn;refine bt c143 ?_;simp only[go_sem,i143];refine dD (fun k ak aj=>ak 1=.one (.p (.fn f [] [x]))/\ak 8=.one (.p (.sl (eE l)))/\ak 9=vi l.length/\ak 10=vi k/\ ∃c,ak 5=.one c/\grown 9152384192 nE 7 (eE (u6 l drop k)) (.one c) aj) 0 l.length (bR _) ?_ ?_
 .simp only[go_sem];first|exact⟨rfl,_,rfl,.inl ⟨rfl,rfl⟩⟩|exact⟨_,rfl,.inl ⟨rfl,rfl⟩⟩|exact⟨rfl,rfl,_,rfl,.inl ⟨rfl,rfl⟩⟩
 rintro k ak aj hk ⟨h1,h8,h9,fq,c,h5,gc⟩
 by_cases aA:k<l.length
 .have aM:((k:Int)<(l.length:Int)):=aa;obtain⟨p,hp⟩:=aL aA;have fv:=ko hp;have w1:=cU (n:=k) aa;have pd:=hd k p hp;have eK:=Il l drop k;simp only[Pc.ps,ek,kU]at pd;cases hb:drop k p with
  |true=>rw[hb]at pd;have hs:=Cx hp hb;simp only[go_sem,i143_l1,h1,h5,h8,h9,fq,aA,aM,fv,Pc.ps,iV,jC,eD pd,w1];refine⟨c,rfl,?_⟩;rw[hs];exact gc.of_eq (by simp only[aP,Nat.reduceEqDiff,if_false])
  |false=>rw[hb]at pd;have hs:=KW hp hb;simp only[go_sem,i143_l1,h1,h5,h8,h9,fq,aM,fv,Pc.ps,iV,jC,eD pd];refine uO (site:=9152384192) (id:=9152384192) (bytes:=56) (xs:=[p.ps]) (rd:=[9152384128]) (gc.of_eq (by simp only[aP,Nat.reduceEqDiff,if_false])) (by simp[fN,aP,Pc.ps]) (.inl rfl) (by simp only[cE,dI,fe];omega) fun c' cF hc jh=>?_;simp only[go_sem,h1,h8,h9,fq,aA,w1];refine⟨c',rfl,?_⟩;rw[hs,ah9];exact hc
 have:k=l.length:=aa;subst this;simp only[go_sem,i143_l1,i143_r2,h5,h9,fq,eS];exact A6 gc
def acF(k i j:Nat)(p:Pc):aK S 144 [vi k,.agg (p.ps.map .p),.one (.p (.box [.int .i64 i])),.one (.p (.box [.int .i64 j]))] (rb (decide (k=i)||decide (k=j))):=by
 refine bt c144 ?_;by_cases h1:k=i
 .have e1:((k:Int)==(i:Int))=true:=by simp[h1]
  rw[show(decide (k=i)||decide (k=j))=true by simp[h1]];simp only[go_sem,i144,Pc.ps,e1]
 have e1:((k:Int)==(i:Int))=false:=by simp;omega
 by_cases h2:k=j
 .have e2:((k:Int)==(j:Int))=true:=by simp[h2]
  rw[show(decide (k=i)||decide (k=j))=true by simp[h2]];simp only[go_sem,i144,Pc.ps,e1,e2]
 have e2:((k:Int)==(j:Int))=false:=by simp;omega
 rw[show(decide (k=i)||decide (k=j))=false by simp[h1,h2]];simp only[go_sem,i144,Pc.ps,e1,e2]
def uk(a b:Int):Int:=if a<b then b else a
def yF(a b:Int):Int:=if b<a then b else a
def uC(ls:ai)(av:Nat):Option c_:=
 let p:=(pieces ls).getD av ⟨lQ,false⟩
 let q:=(pieces ls).getD ((av+1)%ls.length) ⟨lQ,false⟩
 if(p.l.kind==1)&&((q.l.kind==1)&&((p.l.gate==q.l.gate)&&((uk p.l.aw q.l.aw-yF p.l.aw q.l.aw==1)&& !(decide (aq Let.aE ls<=2)&&decide (0<aq Let.aB ls/2)))))
 then some (kQ (qP (pieces ls) fun k _=>decide (k=av)||decide (k=(av+1)%ls.length)) p.l.gate (uk p.l.aw q.l.aw) (-2))else none
def Yx{l:c_}{drop:Nat->Pc->Bool}{p:Pc}(h:p∈qP l drop):p∈l:=by
 obtain⟨i,_,hi⟩:=aax.1 h;unfold OV at hi;cases hl:l[i]? with
 |none=>rw[hl]at hi;cases hi
 |some q=>
  rw[hl]at hi;simp only at hi;split at hi
  .cases hi
  cases hi;exact aV hl
def alS(g:ch F ls){av:Nat}(ha:av<ls.length){k b c:Int}{l o:Bool}{sg:Int}:
  aK S 112 [.one (.p (fp F ls)),qj k av b c l o sg] (kR (uC ls av)):=by
 have hlen:=g.len;have bU:=eY ls;have pe:=DM g ha;have hm:=de (av+1) (show 0<ls.length by omega);have sa:=auC g;obtain⟨p,hp⟩:=aL (ls:=pieces ls) (k:=av) aa;obtain⟨q,hq⟩:=aL (ls:=pieces ls) (k:=(av+1)%ls.length) aa;obtain⟨p1,p2⟩:=sa p (aV hp);obtain⟨q1,q2⟩:=sa q (aV hq);have gD:=ko hp;have qM:=ko hq;have jC:S.shared 145=true:=ah;have lo:S.lone 7168320320=false:=ah;have eX:=g.cr;unfold uC;simp only[dC,hp,hq,oE];refine bt c112 ?_;cases c1:(p.l.kind==1)with
 |false=>
  have n1:(p.l.kind !=1)=true:=by simp[bne,c1]
  simp only[go_sem,i112,s142,dr pe iM,gD,qM,Pc.ps,n1];exact⟨aJ,rfl⟩
 |true=>
 have n1:(p.l.kind !=1)=false:=by simp[bne,c1]
 cases c2:(q.l.kind==1)with
 |false=>
  have n2:(q.l.kind !=1)=true:=by simp[bne,c2]
  simp only[go_sem,i112,s142,dr pe iM,gD,qM,Pc.ps,n1,n2];exact⟨aJ,rfl⟩
 |true=>
 have n2:(q.l.kind !=1)=false:=by simp[bne,c2]
 cases c3:(p.l.gate==q.l.gate)with
 |false=>
  have n3:(p.l.gate !=q.l.gate)=true:=by simp[bne,c3]
  simp only[go_sem,i112,s142,dr pe iM,gD,qM,Pc.ps,n1,n2,n3];exact⟨aJ,rfl⟩
 |true=>
 have n3:(p.l.gate !=q.l.gate)=false:=by simp[bne,c3]
 have tm:(if q.l.aw>p.l.aw then q.l.aw else p.l.aw)=uk p.l.aw q.l.aw:=rfl;have nU:(if q.l.aw<p.l.aw then q.l.aw else p.l.aw)=yF p.l.aw q.l.aw:=rfl;have hmxb: -1000000<=uk p.l.aw q.l.aw/\uk p.l.aw q.l.aw<=1000000:=by unfold uk;split<;>omega
 have hmnb: -1000000<=yF p.l.aw q.l.aw/\yF p.l.aw q.l.aw<=1000000:=by unfold yF;split<;>omega
 have wd:=xI (x:=uk p.l.aw q.l.aw-yF p.l.aw q.l.aw) aa aa;generalize uk p.l.aw q.l.aw=mx at*;generalize yF p.l.aw q.l.aw=mn at*;cases c4:(mx-mn==1)with
 |false=>
  have n4:(mx-mn !=1)=true:=by simp[bne,c4]
  simp only[go_sem,i112,s142,dr pe iM,gD,qM,Pc.ps,n1,n2,n3,tm,nU,wd,n4];exact⟨aJ,rfl⟩
 |true=>
 have n4:(mx-mn !=1)=false:=by simp[bne,c4]
 have fi:∀(X:Prop),X->X:=fun _ h=>h;by_cases c5:aq Let.aE ls<=2
 .have n5:((aq Let.aE ls:Int)<=2):=aa;by_cases c6:0<aq Let.aB ls/2
  .have n6:((0:Int)<((aq Let.aB ls/2:Nat):Int)):=aa;rw[Dj c5,Dj c6];simp only[go_sem,i112,s142,dr pe iM,gD,qM,Pc.ps,n1,n2,n3,tm,nU,wd,n4,n5,n6];exact⟨aJ,rfl⟩
  have n6:¬((0:Int)<((aq Let.aB ls/2:Nat):Int)):=aa;rw[Dj c5,E6 c6];simp only[go_sem,i112,s142,dr pe iM,gD,qM,Pc.ps,n1,n2,n3,tm,nU,wd,n4,n5,n6,s143];refine⟨aJ,?_⟩;refine sX (akd (pieces ls) aa ⟨rfl,rfl⟩ s144 (fun k _=>decide (k=av)||decide (k=(av+1)%ls.length)) (fun k p _=>acF k av ((av+1)%ls.length) p)) lo (.inr (rV (EI _))) fun cc cF gc hb=>?_;have b8:=hb 7168128896 ae;have b9:=hb 7168128960 ae;simp only[go_sem]at b8 b9;simp only[go_sem,b8,b9,tm,jC];refine aeL (l:=qP (pieces ls) fun k _=>decide (k=av)||decide (k=(av+1)%ls.length)) (oz (Il _ _ _) aa) ae (fun x hx=>sa x (Yx hx)) gc fun bn wW bK=>?_;simp only[go_sem];exact zn wW
 have n5:¬((aq Let.aE ls:Int)<=2):=aa;rw[E6 c5];simp only[go_sem,i112,s142,dr pe iM,gD,qM,Pc.ps,n1,n2,n3,tm,nU,wd,n4,n5,s143];refine⟨aJ,?_⟩;refine sX (akd (pieces ls) aa ⟨rfl,rfl⟩ s144 (fun k _=>decide (k=av)||decide (k=(av+1)%ls.length)) (fun k p _=>acF k av ((av+1)%ls.length) p)) lo (.inr (rV (EI _))) fun cc cF gc hb=>?_;have b8:=hb 7168128896 ae;have b9:=hb 7168128960 ae;simp only[go_sem]at b8 b9;simp only[go_sem,b8,b9,tm,jC];refine aeL (l:=qP (pieces ls) fun k _=>decide (k=av)||decide (k=(av+1)%ls.length)) (oz (Il _ _ _) aa) ae (fun x hx=>sa x (Yx hx)) gc fun bn wW bK=>?_;simp only[go_sem];exact zn wW
abbrev iP(o:d_):s_:=o.map fun n=>[PV.int .i64 n]
def Ct{o:d_}{k:Nat}{v:Int}(h:o[k]?=some v):(iP o)[k]?=some [.int .i64 v]:=by simp[h]
def pX(o:d_)(x:Int)(i:Nat):Bool:=match o[i]? with|some y=>y==x|none=>false
def aq5(o:d_)(x:Int)(hl:o.length<=1000000):aK S 202 [.one (.p (.sl (iP o))),vi x] (ri (match (List.range o.length).find? (pX o x)with|some k=>(k:Int)|none=> -1)):=by
 refine bt c202 ?_;simp only[go_sem,i202];refine dD (fun k ak aj=>ak 0=.one (.p (.sl (iP o)))/\ak 1=vi x/\ak 7=vi o.length/\ak 8=vi k/\ ∀j,j<k->pX o x j=false) 0 o.length (bR _) ?_ ?_
 .simp only[go_sem];exact⟨rfl,fun j hj=>absurd hj (o9 j)⟩
 rintro k ak aj hk ⟨h0,h1,h7,h8,hn⟩
 by_cases aA:k<o.length
 .have aM:((k:Int)<(o.length:Int)):=aa;obtain⟨y,hy⟩:=aL aA;have fv:=Ct hy;have w1:=cU (n:=k) aa;have oQ:pX o x k=(y==x):=by simp[pX,hy]
  cases hb:(y==x)with
  |true=>
   have wX:(x==y)=true:=by have:=cZ.1 hb;simp[this]
   rw[hb]at oQ;have hf:=DR (p:=pX o x) aA hn oQ;simp only[go_sem,i202_l1,h0,h1,h7,h8,aM,fv,wX,hf];first|done|exact aJ|rfl
  |false=>
   have wX:(x==y)=false:=by
    have:¬y=x:=by simpa using hb
    simp;exact fun h=>this h.symm
   rw[hb]at oQ;have Cj:∀j,j<k+1->pX o x j=false:=fun j hj=>by
    rcases oD.1 hj with h|rfl
    .exact hn j h
    exact oQ
   simp only[go_sem,i202_l1,h0,h1,h7,h8,aA,aM,fv,wX,w1];first|exact Cj|exact⟨aJ,Cj⟩
 have:k=o.length:=aa;subst this;have hf:=JZ (p:=pX o x) hn;simp only[go_sem,i202_l1,i202_r2,h7,h8,eS,hf]
def ank(o:d_)(x:Int)(hl:o.length<=1000000):aK S 188 [.one (.p (.sl (iP o))),vi x] (rb (o.contains x)):=by
 have pi:=aq5 o x hl;refine bt c188 ?_;cases hm:o.contains x with
 |true=>
  have iU:x∈o:=by simpa using hm
  obtain⟨k,hk⟩:=gV iU;have eK:=(aT.1 hk).1;cases hf:(List.range o.length).find? (pX o x)with
  |none=>have:=Jb.1 hf k (im.2 eK);simp[pX,hk]at this
  |some j=>rw[hf]at pi;have vL:(0:Int)<=(j:Int):=aa;simp only[go_sem,i188,s202,eW pi,vL]
 |false=>
  have iU:x∉o:=by simpa using hm
  cases hf:(List.range o.length).find? (pX o x)with
  |some j=>
   have h1:=Md hf;unfold pX at h1;cases ho:o[j]? with
   |none=>rw[ho]at h1;cases h1
   |some y=>
    rw[ho]at h1;have:y=x:=by simpa using h1
    subst this;exact absurd (aV ho) iU
  |none=>rw[hf]at pi;have vL:¬(0:Int)<= -1:=ae;simp only[go_sem,i188,s202,eW pi,vL]
def vB(ids:d_)(_:Nat)(p:Pc):Bool:=(p.l.kind==2)&&ids.contains p.l.id
def anX(ids:d_)(hl:ids.length<=1000000)(k:Nat)(p:Pc):aK S 187 [vi k,.agg (p.ps.map .p),.one (.p (.box [.sl (iP ids)]))] (rb (vB ids k p)):=by
 have pc:=ank ids p.l.id hl;refine bt c187 ?_;unfold vB;cases h:(p.l.kind==2)with
 |true=>simp only[go_sem,i187,Pc.ps,h,s188,eD pc]
 |false=>simp only[go_sem,i187,Pc.ps,h]
def ki(ids:d_)(k:Nat)(p:Pc):Pc:={p with l:={p.l with id:=p.l.id-((ids.take k).countP (fun i=>decide (i<p.l.id)):Nat)}}
def tz(ids:d_)(p:Pc):Pc:=if p.l.kind==2 then ki ids ids.length p else p
abbrev JR(l:c_)(ids:d_):c_:=(qP l (vB ids)).map (tz ids)
abbrev vd(ids:d_)(l:c_)(k:Nat):c_:=(l.take k).map (tz ids)++l.drop k
def ahb{ids:d_}{l:c_}{k:Nat}{p:Pc}(h:l[k]?=some p):(vd ids l k)[k]?=some p:=by have hk:=(aT.1 h).1;rw[vd,Aq (by rw[cE,iz];omega),cE,iz,Au aa,Mp,Ar];exact h
def ash(ids:d_)(l:c_)(k:Nat):(vd ids l k).length=l.length:=by rw[vd,fS,cE,iz,lH];omega
def asi{ids:d_}{l:c_}{k:Nat}{p:Pc}(h:l[k]?=some p):(vd ids l k).set k (tz ids p)=vd ids l (k+1):=by
 have hk:=(aT.1 h).1;have Bc:l.drop k=p::l.drop (k+1):=by obtain⟨hh,rfl⟩:=aT.1 h;exact aaq hh
 have e1:((l.take k).map (tz ids)).length=k:=by rw[cE,iz];omega
 rw[vd,aaz _ _ aa,e1,Mp,Bc,aaA,vd,oZ,h];simp
def IE(o:c_)(k:Nat)(p:Pc):(eE o).set k p.ps=eE (o.set k p):=by simp[Mi]
def acJ(l:c_)(ids:d_)(hl:l.length<=1000000)(hi:ids.length<=1000)(hb:∀p∈l,-1000000<=p.l.id/\p.l.id<=1000000):
  aK S 151 [.one (.p (.sl (eE l))),.one (.p (.sl (iP ids)))] (.one (aW nE 7 (eE (JR l ids)))):=by
 have pw:=axK l hl (f:=187) (x:=.box [.sl (iP ids)]) rfl s187 (vB ids) (fun k p _=>anX ids aa k p);have lo:S.lone 9664064128=false:=ah;have nT:∀p∈qP l (vB ids),-1000000<=p.l.id/\p.l.id<=1000000:=fun p hp=>hb p (Yx hp);have eK:(qP l (vB ids)).length<=1000000:=oz (Il _ _ _) hl;refine bt c151 ?_;simp only[go_sem,i151,s143];refine sX pw lo (.inr (rV (EI _))) fun cc pK gc pM=>?_;have z3:=pM 9664000000 ae;simp only[go_sem]at z3;unfold JR;generalize qP l (vB ids)=m at gc nT eK;rcases gc with⟨e,e2⟩|⟨aH,gg,e2,hC⟩
 .cases e2;have:m=[]:=by simpa using e
  subst this;have hz:¬(((0:Nat):Int)<((0:Nat):Int)):=aa;simp only[go_sem];refine dD (fun k ak aj=>k=0/\ak 5=.one (.p .nils)/\ak 14=vi ((0:Nat):Int)/\ak 15=vi ((0:Nat):Int)) 0 0 (bY _) ?_ ?_
  .simp only[go_sem];exact rfl
  rintro k ak aj _ ⟨rfl,h5,nh,mh⟩
  simp only[go_sem,i151_l3,i151_r4,h5,nh,mh,hz];rfl
 cases e2;simp only[go_sem];refine dD (fun k ak aj=>ak 3=.one (.aZ 9664000000 1 0)/\aj 9664000000=(1,some (.var [.p (.sl (iP ids))]))/\ak 5=.one (.hsl 9664064128 gg 7 0 m.length)/\ak 13=.one (.hsl 9664064128 gg 7 0 m.length)/\ak 14=vi m.length/\ak 15=vi k/\aj 9664064128=(gg,some (.arr nE 7 (eE (vd ids m k))))) 0 m.length (bR _) ?_ ?_
 .simp only[go_sem,z3,hC];refine⟨rfl,?_⟩;simp[vd]
 rintro k ak aj hk ⟨h3,bI,h5,tX,nh,mh,bO⟩
 by_cases aA:k<m.length
 .have aM:((k:Int)<(m.length:Int)):=aa;obtain⟨p,hp⟩:=aL aA;have yv:=ko (ahb (ids:=ids) hp);have w1:=cU (n:=k) aa;have HS:=ash ids m k;have iE:=asi (ids:=ids) hp;have hlk:k<(vd ids m k).length:=aa;cases c1:(p.l.kind==2)with
  |false=>
   have n1:(p.l.kind !=2)=true:=by simp[bne,c1]
   have Co:vd ids m (k+1)=vd ids m k:=by
    rw[<-iE];have e:tz ids p=p:=by unfold tz;rw[c1];rfl
    rw[e];obtain⟨hh,he⟩:=aT.1 (ahb (ids:=ids) hp);rw[<-he,akC]
   simp only[go_sem,i151_l3,i151_r2,h3,bI,h5,tX,nh,mh,bO,aA,aM,yv,Pc.ps,n1,w1,Co]
  |true=>
   have n1:(p.l.kind !=2)=false:=by simp[bne,c1]
   have hid:=nT p (aV hp);have w8:tz ids p=ki ids ids.length p:=by unfold tz;rw[c1];rfl
   rw[w8]at iE;generalize vd ids m k=q at yv HS iE hlk bO;have q0:q.set k (ki ids 0 p)=q:=by
    have:ki ids 0 p=p:=by unfold ki;simp
    rw[this];have h1:q[k]?=some p:=by
     have h2:(eE q)[k]?=some p.ps:=yv;rw[fG]at h2;cases hq:q[k]? with
     |none=>rw[hq]at h2;cases h2
     |some x=>rw[hq]at h2;simp[Pc.ps]at h2;obtain⟨⟨a,b,c,d,e,f⟩,g⟩:=x;obtain⟨⟨a',b',c',d',e',f'⟩,g'⟩:=p;simp at h2;obtain⟨rfl,rfl,rfl,rfl,rfl,rfl,rfl⟩:=h2;rfl
    obtain⟨hh,he⟩:=aT.1 h1;rw[<-he,akC]
   simp only[go_sem,i151_l3,h3,bI,tX,nh,mh,bO,aA,aM,yv,Pc.ps,n1];refine dD (fun j dy bn=>dy 3=.one (.aZ 9664000000 1 0)/\bn 9664000000=(1,some (.var [.p (.sl (iP ids))]))/\dy 5=.one (.hsl 9664064128 gg 7 0 m.length)/\dy 13=.one (.hsl 9664064128 gg 7 0 m.length)/\dy 14=vi m.length/\dy 15=vi k/\dy 6=vi k/\dy 24=.one (.p (.sl (iP ids)))/\dy 25=vi ids.length/\dy 26=vi j/\
    (∃g7,dy 7=.one (.aZ 9664256192 g7 0)/\bn 9664256192=(g7,some (.var (p.ps.map .p))))/\bn 9664064128=(gg,some (.arr nE 7 (eE (q.set k (ki ids j p)))))) 0 ids.length (bR _) ?_ ?_
   .simp only[go_sem,h3,bI,h5,tX,nh,mh,bO,q0];first|exact⟨rfl,_,⟨rfl,rfl⟩,rfl⟩|exact⟨rfl,⟨_,rfl,rfl⟩⟩|exact⟨_,rfl,rfl⟩|exact⟨⟨_,rfl,rfl⟩,rfl⟩|exact⟨rfl,⟨_,rfl,rfl⟩,rfl⟩|trace_state
   rintro j dy bn hj ⟨p3,cI,p5,p13,xA,p15,p6,p24,p25,p26,⟨g7,p7,c7⟩,cO⟩
   by_cases uc:j<ids.length
   .have HR:((j:Int)<(ids.length:Int)):=aa;obtain⟨d,hd⟩:=aL uc;have lV:=Ct hd;have w2:=cU (n:=j) aa;have tZ:(ids.take (j+1)).countP (fun i=>decide (i<p.l.id))=(ids.take j).countP (fun i=>decide (i<p.l.id))+if d<p.l.id then 1 else 0:=by
     rw[oZ,hd,xJ];simp[xK,List.countP_nil]
    have cS:(ids.take j).countP (fun i=>decide (i<p.l.id))<=j:=oz PN (by rw[iz];omega);have hqa:(eE (q.set k (ki ids j p)))[k]?=some (ki ids j p).ps:=ko (by rw[qZ,aD rfl,aD aa]);have ud:k<(q.set k (ki ids j p)).length:=by rw[ux];omega
    by_cases hg:d<p.l.id
    .have e1:(ki ids j p).l.id-1=(ki ids (j+1) p).l.id:=by
      unfold ki;simp only;rw[tZ,aD hg];omega
     have w3:IntKind.i64.wrap ((ki ids j p).l.id-1)=(ki ids (j+1) p).l.id:=by rw[<-e1];exact xI (by unfold ki;simp only;omega) (by unfold ki;simp only;omega)
     have dS:((ki ids (j+1) p).ps)=[.int .i64 (ki ids j p).l.kind,.int .i64 (ki ids j p).l.gate,.int .i64 (ki ids j p).l.aw,.int .i64 (ki ids (j+1) p).l.id,.int .i64 (ki ids j p).l.sign,.bool (ki ids j p).l.over,.bool (ki ids j p).d]:=rfl;have afz:(eE (q.set k (ki ids j p))).set k (ki ids (j+1) p).ps=eE (q.set k (ki ids (j+1) p)):=by rw[IE,List.set_set]
     rw[dS]at afz;generalize ki ids j p=x at*;simp only[go_sem,i151_l1,p3,cI,p5,p13,xA,p15,p6,p24,p25,p26,p7,c7,cO,aA,uc,HR,lV,hg,hqa,Pc.ps,w2,w3,afz];exact⟨g7,rfl,rfl⟩
    have e1:ki ids (j+1) p=ki ids j p:=by unfold ki;rw[tZ,au hg];simp
    simp only[go_sem,i151_l1,p3,cI,p5,p13,xA,p15,p6,p24,p25,p26,p7,c7,cO,uc,HR,lV,hg,Pc.ps,w2,e1];exact⟨g7,rfl,rfl⟩
   have:j=ids.length:=aa;subst this;rw[iE]at cO;simp only[go_sem,i151_l1,i151_r2,p3,cI,p5,p13,xA,p15,p26,p25,cO,eS,w1,aA]
 have:k=m.length:=aa;subst this;have e1:vd ids m m.length=m.map (tz ids):=by rw[vd,lJ,Mc,jG]
 rw[e1]at bO;simp only[go_sem,i151_l3,i151_r4,h5,nh,mh,eS];have uW:m.map (tz ids)≠[]:=by simpa using aH
 exact A6 (.inr ⟨by simpa using uW,gg,af,bO⟩)
def ch.ids(g:ch F ls):Ym ls/\ID ls:=by have hc:=g.ok.cr;unfold mJ at hc;simp only[cH]at hc;exact IU.1 fun k hk=>gk.1 hc.1.2 k (im.2 hk)
def atE{p:Pc}(h:p∈pieces ls):∃(i:Nat) (l:Let),ls[i]?=some l/\p=⟨l,eN ls i⟩:=by
 obtain⟨i,hi⟩:=gV h;have zN:i<ls.length:=by rw[<-eY];exact(aT.1 hi).1
 obtain⟨l,hl⟩:=aL zN;rw[ju hl]at hi;cases hi;exact⟨i,l,hl,rfl⟩
def afE(g:ch F ls):∀p∈pieces ls,-1000000<=p.l.id/\p.l.id<=1000000:=by
 intro p hp;obtain⟨i,l,hl,rfl⟩:=atE hp;have hm:=aV hl;rcases g.ok.kinds l hm with h|h
 .have:=(sB (f:=(F:Int)) h).1 (g.bad l hm);simp only[this.1.1.2];omega
 have h1:=g.ids.1 l hm h;have:=g.cr;simp only;omega
def u7(ls:ai)(av:Nat):Option c_:=
 let p:=(pieces ls).getD av ⟨lQ,false⟩
 let q:=(pieces ls).getD ((av+1)%ls.length) ⟨lQ,false⟩
 if(p.l.kind==2)&&((q.l.kind==2)&&(p.l.id==q.l.id))then some (JR (pieces ls) [p.l.id])else none
def asg(g:ch F ls){av:Nat}(ha:av<ls.length){k b c:Int}{l o:Bool}{sg:Int}:
  aK S 115 [.one (.p (fp F ls)),qj k av b c l o sg] (kR (u7 ls av)):=by
 have hlen:=g.len;have bU:=eY ls;have pe:=DM g ha;have hm:=de (av+1) (show 0<ls.length by omega);obtain⟨p,hp⟩:=aL (ls:=pieces ls) (k:=av) aa;obtain⟨q,hq⟩:=aL (ls:=pieces ls) (k:=(av+1)%ls.length) aa;have gD:=ko hp;have qM:=ko hq;have lo:S.lone 7360256896=false:=ah;unfold u7;simp only[dC,hp,hq,oE];refine bt c115 ?_;cases c1:(p.l.kind==2)with
 |false=>
  have n1:(p.l.kind !=2)=true:=by simp[bne,c1]
  simp only[go_sem,i115,s142,dr pe iM,gD,Pc.ps,n1];exact⟨aJ,rfl⟩
 |true=>
 have n1:(p.l.kind !=2)=false:=by simp[bne,c1]
 cases c2:(q.l.kind==2)with
 |false=>
  have n2:(q.l.kind !=2)=true:=by simp[bne,c2]
  simp only[go_sem,i115,s142,dr pe iM,gD,qM,Pc.ps,n1,n2];exact⟨aJ,rfl⟩
 |true=>
 have n2:(q.l.kind !=2)=false:=by simp[bne,c2]
 cases c3:(p.l.id==q.l.id)with
 |false=>
  have n3:(p.l.id !=q.l.id)=true:=by simp[bne,c3]
  simp only[go_sem,i115,s142,dr pe iM,gD,qM,Pc.ps,n1,n2,n3];exact⟨aJ,rfl⟩
 |true=>
 have n3:(p.l.id !=q.l.id)=false:=by simp[bne,c3]
 have pd:=acJ (pieces ls) [p.l.id] aa af (afE g);simp only[go_sem,i115,s142,dr pe iM,gD,qM,Pc.ps,n1,n2,n3,s151];refine⟨aJ,?_⟩;refine anD pd lo (.inr (rV (EI _))) fun cc cF w gc hb hw=>?_;simp only[go_sem];refine⟨?_,zn gc⟩;rcases hw with rfl|rfl<;>kernel_rfl
abbrev pA(ls:ai)(i:Nat):Pc:=(pieces ls).getD i ⟨lQ,false⟩
def iY{i:Nat}{p:Pc}(h:(pieces ls)[i]?=some p):pA ls i=p:=by simp[pA,dC,h]
abbrev nx(ls:ai)(e:Nat):Nat:=(e+1)%ls.length
def iA(ls:ai)(e:Nat)(ov:Bool):Bool:=((pA ls e).l.kind==2)&&(((pA ls (nx ls e)).l.kind==2)&&(((pA ls e).l.over==ov)&&((pA ls (nx ls e)).l.over==ov)))
def JD(g:ch F ls){e:Nat}(he:e<ls.length)(ov:Bool):aK S 153 [.one (.p (fp F ls)),vi e,vb ov] (rb (iA ls e ov)):=by
 have hlen:=g.len;have bU:=eY ls;have pe:=DM g he;have hm:=de (e+1) (show 0<ls.length by omega);obtain⟨p,hp⟩:=aL (ls:=pieces ls) (k:=e) aa;obtain⟨q,hq⟩:=aL (ls:=pieces ls) (k:=(e+1)%ls.length) aa;have gD:=ko hp;have qM:=ko hq;unfold iA;rw[iY hp,iY hq];refine bt c153 ?_;cases c1:(p.l.kind==2)with
 |false=>simp only[go_sem,i153,s142,dr pe iM,gD,Pc.ps,c1]
 |true=>
 cases c2:(q.l.kind==2)with
 |false=>simp only[go_sem,i153,s142,dr pe iM,gD,qM,Pc.ps,c1,c2]
 |true=>
 cases c3:(p.l.over==ov)with
 |false=>simp only[go_sem,i153,s142,dr pe iM,gD,qM,Pc.ps,c1,c2,c3]
 |true=>
 cases c4:(q.l.over==ov)with
 |false=>simp only[go_sem,i153,s142,dr pe iM,gD,qM,Pc.ps,c1,c2,c3,c4]
 |true=>simp only[go_sem,i153,s142,dr pe iM,gD,qM,Pc.ps,c1,c2,c3,c4]
def jY(ls:ai)(e:Nat):Nat×Nat×Bool:=if(pA ls e).l.kind==2 then(nx ls e,e,(pA ls (nx ls e)).l.kind==1)else(e,nx ls e,((pA ls e).l.kind==1)&&((pA ls (nx ls e)).l.kind==2))
abbrev aiP(a b c:PV):RV:=.tup [.one (.p a),.one (.p b),.one (.p c)]
def zW{aj:aC}{s:Nat}{a b c:PV}{l:Bool}:land aj [] s ((aiP a b c).gj l)=some (.tup [.one (.p a),.one (.p b),.one (.p c)],[]):=by cases l<;>rfl
def ah8(g:ch F ls){e:Nat}(he:e<ls.length):aK S 149 [.one (.p (fp F ls)),vi e] (aiP (.int .i64 ((jY ls e).1:Nat)) (.int .i64 ((jY ls e).2.1:Nat)) (.bool (jY ls e).2.2)):=by
 have hlen:=g.len;have bU:=eY ls;have pe:=DM g he;have hm:=de (e+1) (show 0<ls.length by omega);obtain⟨p,hp⟩:=aL (ls:=pieces ls) (k:=e) aa;obtain⟨q,hq⟩:=aL (ls:=pieces ls) (k:=(e+1)%ls.length) aa;have gD:=ko hp;have qM:=ko hq;unfold jY;rw[iY hp,iY hq];refine bt c149 ?_;cases c1:(p.l.kind==2)with
 |true=>
  have e1:p.l.kind=2:=by simpa using c1
  rw[aD rfl];cases c2:(q.l.kind==1)with
  |true=>simp only[go_sem,i149,s142,dr pe iM,gD,qM,Pc.ps,c1,c2];exact⟨aJ,rfl⟩
  |false=>simp only[go_sem,i149,s142,dr pe iM,gD,qM,Pc.ps,c1,c2];exact⟨aJ,rfl⟩
 |false=>
  rw[au ae];cases c2:(p.l.kind==1)with
  |true=>
   cases c3:(q.l.kind==2)with
   |true=>simp only[go_sem,i149,s142,dr pe iM,gD,qM,Pc.ps,c1,c2,c3];exact⟨aJ,rfl⟩
   |false=>simp only[go_sem,i149,s142,dr pe iM,gD,qM,Pc.ps,c1,c2,c3];exact⟨aJ,rfl⟩
  |false=>simp only[go_sem,i149,s142,dr pe iM,gD,Pc.ps,c1,c2];exact⟨aJ,rfl⟩
def CT(o:a_)(pr:Nat->Bool)(i:Nat):Bool:=match o[i]? with|some v=>pr v|none=>false
def aq4(o:a_)(hl:o.length<=1000000){f:Nat}{x y z:PV}(hn:x.norm=x/\y.norm=y/\z.norm=z)(jC:S.shared f=false)(pr:Nat->Bool)(hd:∀v∈o,aK S f [vi (v:Nat),.one (.p x),.one (.p y),.one (.p z)] (rb (pr v))):
  aK S 201 [.one (.p (.sl (nP o))),.one (.p (.fn f [] [x,y,z]))] (ri (match (List.range o.length).find? (CT o pr)with|some k=>(k:Int)|none=> -1)):=by
 obtain⟨iV,iL,uW⟩:=hn;refine bt c201 ?_;simp only[go_sem,i201];refine dD (fun k ak aj=>ak 0=.one (.p (.sl (nP o)))/\ak 1=.one (.p (.fn f [] [x,y,z]))/\ak 7=vi o.length/\ak 8=vi k/\ ∀j,j<k->CT o pr j=false) 0 o.length (bR _) ?_ ?_
 .simp only[go_sem];exact⟨rfl,fun j hj=>absurd hj (o9 j)⟩
 rintro k ak aj hk ⟨h0,h1,h7,h8,tn⟩
 by_cases aA:k<o.length
 .have aM:((k:Int)<(o.length:Int)):=aa;obtain⟨v,hv⟩:=aL aA;have fv:=kN hv;have w1:=cU (n:=k) aa;have pd:=hd v (aV hv);have oQ:CT o pr k=pr v:=by simp[CT,hv]
  cases hb:pr v with
  |true=>rw[hb]at pd oQ;have hf:=DR (p:=CT o pr) aA tn oQ;simp only[go_sem,i201_l1,h0,h1,h7,h8,aM,fv,jC,iV,iL,uW,eD pd,hf]
  |false=>
   rw[hb]at pd oQ;simp only[go_sem,i201_l1,h0,h1,h7,h8,aA,aM,fv,jC,iV,iL,uW,eD pd,w1];intro j hj;rcases oD.1 hj with h|rfl
   .exact tn j h
   exact oQ
 have:k=o.length:=aa;subst this;have hf:=JZ (p:=CT o pr) tn;simp only[go_sem,i201_l1,i201_r2,h7,h8,eS,hf]
def anj(o:a_)(hl:o.length<=1000000){f:Nat}{x y z:PV}(hn:x.norm=x/\y.norm=y/\z.norm=z)(jC:S.shared f=false)(pr:Nat->Bool)(hd:∀v∈o,aK S f [vi (v:Nat),.one (.p x),.one (.p y),.one (.p z)] (rb (pr v))):
  aK S 185 [.one (.p (.sl (nP o))),.one (.p (.fn f [] [x,y,z]))] (rb (o.any pr)):=by
 have pi:=aq4 o hl hn jC pr hd;obtain⟨iV,iL,uW⟩:=hn;refine bt c185 ?_;cases ha:o.any pr with
 |true=>
  obtain⟨v,hv,hp⟩:=wG.1 ha;obtain⟨k,hk⟩:=gV hv;have eK:=(aT.1 hk).1;cases hf:(List.range o.length).find? (CT o pr)with
  |none=>have:=Jb.1 hf k (im.2 eK);simp[CT,hk,hp]at this
  |some j=>rw[hf]at pi;have vL:(0:Int)<=(j:Int):=aa;simp only[go_sem,i185,s201,eW pi,vL]
 |false=>
  cases hf:(List.range o.length).find? (CT o pr)with
  |some j=>
   have h1:=Md hf;unfold CT at h1;cases ho:o[j]? with
   |none=>rw[ho]at h1;cases h1
   |some v=>rw[ho]at h1;have:=IZ.1 ha v (aV ho);exact absurd h1 this
  |none=>rw[hf]at pi;have vL:¬(0:Int)<= -1:=ae;simp only[go_sem,i185,s201,eW pi,vL]
def vA(f:Fc)(e:Nat):Nat:=f.cA.countP fun d=>d/2==e
def wQ(f:Fc)(pl:Nat)(edges:a_):Bool:=(f.cA.length==edges.length)&&((f.places.length==pl)&&edges.all fun e=>vA f e==1)
def ab9(g:ch F ls){j:Nat}{f:Fc}(hf:(eV F ls)[j]?=some f)(edges:a_)(he:edges.length<=1000)(pl:Nat):
  aK S 186 [vi j,.one (.p (.box [fp F ls])),.one (.p (.box [.sl (nP edges)])),.one (.p (.box [.int .i64 pl]))] (rb (wQ f pl edges)):=by
 have hlen:=g.len;have gT:(aG ls).length<=ls.length:=xT ls ls.length;have hdl:=W9 g.ok (aV hf);have gI:nD ls<=1600:=by unfold nD;omega
 have HL:=Xa hf;have nQ:=(aT.1 hf).1;refine bt c186 ?_;unfold wQ;cases c1:(f.cA.length==edges.length)with
 |false=>
  have n1:(((f.cA.length:Nat):Int)!=((edges.length:Nat):Int))=true:=by
   have:¬f.cA.length=edges.length:=by simpa using c1
   simp[bne];omega
  simp only[go_sem,i186,HL,Fc.ps,n1]
 |true=>
 have n1:(((f.cA.length:Nat):Int)!=((edges.length:Nat):Int))=false:=by
  have:f.cA.length=edges.length:=by simpa using c1
  simp[bne,this]
 cases c2:(f.places.length==pl)with
 |false=>
  have n2:(((f.places.length:Nat):Int)!=((pl:Nat):Int))=true:=by
   have:¬f.places.length=pl:=by simpa using c2
   simp[bne];omega
  simp only[go_sem,i186,HL,Fc.ps,n1,n2]
 |true=>
 have n2:(((f.places.length:Nat):Int)!=((pl:Nat):Int))=false:=by
  have:f.places.length=pl:=by simpa using c2
  simp[bne,this]
 simp only[go_sem,i186,HL,Fc.ps,n1,n2];refine dD (fun k ak aj=>ak 6=.one (.aZ 11904064448 1 0)/\aj 11904064448=(1,some (.var (f.ps.map .p)))/\ak 32=.one (.p (.sl (nP edges)))/\ak 33=vi edges.length/\ak 34=vi k/\ ∀i e,i<k->edges[i]?=some e->(vA f e==1)=true) 0 edges.length (bR _) ?_ ?_
 .simp only[go_sem,Fc.ps];first|exact⟨rfl,fun i e hi=>absurd hi (o9 i)⟩|exact⟨rfl,rfl,fun i e hi=>absurd hi (o9 i)⟩|exact fun i e hi=>absurd hi (o9 i)
 rintro k ak aj hk ⟨h6,b6,h32,FI,Hv,ay⟩
 simp only[Fc.ps,ek,kU]at b6;by_cases aA:k<edges.length
 .have aM:((k:Int)<(edges.length:Int)):=aa;obtain⟨e,hek⟩:=aL aA;have NX:=kN hek;have w1:=cU (n:=k) aa;simp only[go_sem,i186_l4,h6,b6,h32,FI,Hv,aM,NX];refine dD (fun i dy bn=>dy 6=.one (.aZ 11904064448 1 0)/\bn 11904064448=(1,some (.var (f.ps.map .p)))/\dy 32=.one (.p (.sl (nP edges)))/\dy 33=vi edges.length/\dy 34=vi k/\dy 8=vi e/\dy 9=vi ((f.cA.take i).countP fun d=>d/2==e:Nat)/\dy 39=.one (.p (.sl (nP f.cA)))/\dy 40=vi f.cA.length/\dy 41=vi i) 0 f.cA.length (bR _) ?_ ?_
  .simp only[go_sem,h6,b6,h32,FI,Hv,Fc.ps];first|exact⟨rfl,rfl⟩|exact rfl|exact⟨rfl,rfl,rfl⟩
  rintro i dy bn hi ⟨p6,d6,p32,p33,Gk,p8,p9,p39,p40,p41⟩
  by_cases vN:i<f.cA.length
  .have afr:((i:Int)<(f.cA.length:Int)):=aa;obtain⟨d,hd⟩:=aL vN;have lV:=kN hd;have w2:=cU (n:=i) aa;have wq:=wrap_small (n:=d/2) (by have:=W8 (aV hf) d (aV hd);omega);have cS:(f.cA.take i).countP (fun d=>d/2==e)<=i:=oz PN (by rw[iz];omega);have w3:=cU (n:=(f.cA.take i).countP fun d=>d/2==e) aa;have tZ:(f.cA.take (i+1)).countP (fun d=>d/2==e)=(f.cA.take i).countP (fun d=>d/2==e)+if(d/2==e)=true then 1 else 0:=by
    rw[oZ,hd,xJ];simp[xK,List.countP_nil]
   cases pN:(d/2==e)with
   |true=>
    have n3:(((d/2:Nat):Int)==(e:Int))=true:=by
     have:d/2=e:=by simpa using pN
     simp;omega
    rw[pN,aD rfl]at tZ;simp only[go_sem,i186_l1,p6,p32,p33,Gk,p8,p9,p39,p40,p41,vN,afr,lV,eT,fR,wq,n3,w2,w3,tZ];first|exact d6|exact⟨d6,rfl⟩
   |false=>
    have n3:(((d/2:Nat):Int)==(e:Int))=false:=by
     have:¬d/2=e:=by simpa using pN
     simp;omega
    rw[pN,au ae,vr]at tZ;simp only[go_sem,i186_l1,p6,p32,p33,Gk,p8,p9,p39,p40,p41,vN,afr,lV,eT,fR,wq,n3,w2,tZ];first|exact d6|exact⟨d6,rfl⟩
  have:i=f.cA.length:=aa;subst this;rw[lJ]at p9;have hdc:(f.cA.countP fun d=>d/2==e)=vA f e:=rfl;rw[hdc]at p9;cases hq:(vA f e==1)with
  |true=>
   have n4:(((vA f e:Nat):Int)!=1)=false:=by
    have:vA f e=1:=by simpa using hq
    simp[bne,this]
   simp only[go_sem,i186_l1,i186_r2,i186_r3,p6,p32,p33,Gk,p9,p40,p41,eS,n4,w1,aA];refine⟨d6,fun i2 e2 hi2 HE=>?_⟩;rcases oD.1 hi2 with h|rfl
   .exact ay i2 e2 h HE
   rw[hek]at HE;cases HE;exact hq
  |false=>
   have n4:(((vA f e:Nat):Int)!=1)=true:=by
    have:¬vA f e=1:=by simpa using hq
    simp[bne];omega
   have dz:(edges.all fun e=>vA f e==1)=false:=aak.2 ⟨e,aV hek,by rw[hq];decide⟩;simp only[go_sem,i186_l1,i186_r2,p9,p40,p41,eS,n4,dz]
 have:k=edges.length:=aa;subst this;have dz:(edges.all fun e=>vA f e==1)=true:=gk.2 fun e he=>by obtain⟨i,hi⟩:=gV he;exact ay i e (aT.1 hi).1 hi
 simp only[go_sem,i186_l4,i186_r5,FI,Hv,eS,dz]
def kX(F:Nat)(ls:ai)(pl:Nat)(edges:a_)(e0:Nat):Bool:=wQ (lN F ls (2*e0)) pl edges||wQ (lN F ls (2*e0+1)) pl edges
def US(g:ch F ls)(edges:a_)(dB:edges.length<=1000){e0:Nat}(h0:edges[0]?=some e0)(he0:e0<ls.length)(pl:Nat):
  aK S 150 [.one (.p (fp F ls)),vi pl,.one (.p (.sl (nP edges)))] (rb (kX F ls pl edges e0)):=by
 have hlen:=g.len;obtain⟨j0,a1,a2,a3⟩:=W6 g (d:=2*e0) aa;obtain⟨j1,b1,b2,b3⟩:=W6 g (d:=2*e0+1) aa;have g0:(eV F ls).getD j0 O3=lN F ls (2*e0):=by rw[dC,a2];rfl
 have g1:(eV F ls).getD j1 O3=lN F ls (2*e0+1):=by rw[dC,b2];rfl
 have pc:=anj [j0,j1] af (f:=186) (x:=.box [fp F ls]) (y:=.box [.sl (nP edges)]) (z:=.box [.int .i64 pl]) ⟨rfl,rfl,rfl⟩ s186 (fun j=>wQ ((eV F ls).getD j O3) pl edges) (fun v hv=>by
  simp only[bJ,eo,or_false]at hv;rcases hv with rfl|rfl
  .rw[g0];exact ab9 g a2 edges dB pl
  rw[g1];exact ab9 g b2 edges dB pl)
 have apH:([j0,j1].any fun j=>wQ ((eV F ls).getD j O3) pl edges)=kX F ls pl edges e0:=by simp only[List.any_cons,List.any_nil,Bool.or_false,g0,g1];rfl
 rw[apH]at pc;simp only[ek,kU]at pc;have ja:=kN a1;have jb:=kN b1;have he:=kN h0;have m2:=vm (a:=e0) aa;have m3:=cU (n:=2*e0) aa;have vO:=YG F ls;have l1:2*e0<(qd F ls).length:=aa;have l2:2*e0+1<(qd F ls).length:=aa;have jN:0<edges.length:=(aT.1 h0).1;have hpos':(0:Int)<(edges.length:Int):=aa;refine bt c150 ?_;simp only[go_sem,i150,he,m2,m3,ja,jb,s185,mZ pc];exact aJ
def eG(ls:ai)(l:c_)(e:Nat):c_:=(l.set e (l.getD (nx ls e) ⟨lQ,false⟩)).set (nx ls e) (l.getD e ⟨lQ,false⟩)
def uu(ls:ai)(l:c_)(e:Nat):(eG ls l e).length=l.length:=by simp[eG]
def dG(ls:ai)(l:c_)(es:a_):c_:=es.foldl (eG ls) l
def qt(ls:ai):∀(es:a_) (l:c_),(dG ls l es).length=l.length:=by
 intro es
 induction es with
 |nil=>intro l;rfl
 |cons e es ih=>intro l;show(dG ls (eG ls l e) es).length=_;rw[ih,uu]
def awS(g:ch F ls)(es:a_)(gb:∀e∈es,e<ls.length)(dB:es.length<=1000):
  aK S 156 [.one (.p (fp F ls)),.one (.p (.sl (nP es)))] (.one (aW nE 7 (eE (dG ls (pieces ls) es)))):=by
 have hlen:=g.len;have bU:=eY ls;have aH:pieces ls≠[]:=jl.1 (by have:=jl.2 g.ne;omega);have pcl:=abO aH aa;have lo:S.lone 9984064256=false:=ah;refine bt c156 ?_;simp only[go_sem,i156,s147];refine sX pcl lo (.inl rfl) fun cc pK gc pM=>?_;rcases gc with⟨e,_⟩|⟨_,gg,e,hC⟩
 .exact absurd (by simpa using e) aH
 cases e;rw[cE,bU];simp only[go_sem];refine dD (fun k ak aj=>ak 0=.one (.p (fp F ls))/\ak 5=.one (.hsl 9984064256 gg 7 0 ls.length)/\ak 15=.one (.p (.sl (nP es)))/\ak 16=vi es.length/\ak 17=vi k/\aj 9984064256=(gg,some (.arr nE 7 (eE (dG ls (pieces ls) (es.take k)))))) 0 es.length (bR _) ?_ ?_
 .simp only[go_sem,hC];first|exact⟨rfl,rfl⟩|rfl|exact⟨rfl,rfl,rfl⟩
 rintro k ak aj hk ⟨h0,h5,mh,qH,jA,bO⟩
 by_cases aA:k<es.length
 .have aM:((k:Int)<(es.length:Int)):=aa;obtain⟨e,he⟩:=aL aA;have NX:=kN he;have NV:=gb e (aV he);have pe:=DM g NV;have w1:=cU (n:=k) aa;have ny:dG ls (pieces ls) (es.take (k+1))=eG ls (dG ls (pieces ls) (es.take k)) e:=by
   unfold dG;rw[oZ,he,Jd];rfl
  have j8:(dG ls (pieces ls) (es.take k)).length=ls.length:=by rw[qt,bU]
  have hm:=de (e+1) (show 0<ls.length by omega);generalize dG ls (pieces ls) (es.take k)=m at bO ny j8;obtain⟨p,hp⟩:=aL (ls:=m) (k:=e) aa;obtain⟨q,hq⟩:=aL (ls:=m) (k:=(e+1)%ls.length) aa;have fv:=ko hp;have Ek:=ko hq;have l1:e<m.length:=aa;have l2:(e+1)%ls.length<m.length:=aa;have s1:=IE m e q;have w8:(m.set e q).set ((e+1)%ls.length) p=eG ls m e:=by unfold eG nx;rw[dC,hq,dC,hp];rfl
  have s2:=IE (m.set e q) ((e+1)%ls.length) p;rw[w8,<-ny]at s2;simp only[Pc.ps]at s1 s2;obtain⟨p',gh⟩:=aL (ls:=m.set e q) (k:=e) (by rw[ux];omega);obtain⟨q',rI⟩:=aL (ls:=m.set e q) (k:=(e+1)%ls.length) (by rw[ux];omega);have Yd:=ko rI;simp only[go_sem,i156_l1,h0,h5,mh,qH,jA,bO,aA,aM,NX,s142,dr pe iM,NV,hm,fv,Ek,Yd,s1,s2,Pc.ps,w1];exact aJ
 have:k=es.length:=aa;subst this;rw[lJ]at bO;simp only[go_sem,i156_l1,i156_r2,h5,qH,jA,eS];have h1:(dG ls (pieces ls) es).length=ls.length:=by rw[qt,bU]
 refine A6 (.inr ⟨?_,gg,by rw[cE,h1],bO⟩);intro h2;have:=congrArg List.length h2;rw[cE,h1,fe]at this;have h3:=jl.2 g.ne;omega
def dp(l:c_)(i:Nat)(r:Int):c_:=l.set i {(l.getD i ⟨lQ,false⟩)with l:={(l.getD i ⟨lQ,false⟩).l with aw:=r}}
def qq(l:c_)(i:Nat)(r:Int):(dp l i r).length=l.length:=by simp[dp]
def oI(F:Nat)(ls:ai)(av bv:Nat):Option c_:=
 if(jY ls av).2.2&&((jY ls bv).2.2&&(!((jY ls av).2.1==(jY ls bv).2.1)&&(((pA ls (jY ls av).2.1).l.id==(pA ls (jY ls bv).2.1).l.id)&&kX F ls 1 [av,bv] av)))
 then some (dG ls (dp (dp (pieces ls) (jY ls av).1 (pA ls (jY ls bv).1).l.aw) (jY ls bv).1 (pA ls (jY ls av).1).l.aw) [av,bv])else none
def aiv{e:Nat}(he:e<ls.length):(jY ls e).1<ls.length/\(jY ls e).2.1<ls.length:=by
 have hm:=de (e+1) (show 0<ls.length by omega);unfold jY nx;split
 .exact⟨hm,he⟩
 exact⟨he,hm⟩
def alX(g:ch F ls){av bv:Nat}(ha:av<ls.length)(hb:bv<ls.length){k c:Int}{l o:Bool}{sg:Int}:
  aK S 114 [.one (.p (fp F ls)),qj k av bv c l o sg] (kR (oI F ls av bv)):=by
 have hlen:=g.len;have bU:=eY ls;have pa:=ah8 g ha;have pb:=ah8 g hb;have pc:=US g [av,bv] af (e0:=av) rfl ha 1;obtain⟨p1,v1⟩:=aiv ha;obtain⟨q1,w1⟩:=aiv hb;unfold oI;generalize jY ls av=x at*;generalize jY ls bv=y at*;obtain⟨pi,L2,one⟩:=x;obtain⟨qi,wi,two⟩:=y;simp only at pa pb p1 v1 q1 w1 |-;simp only[ek,kU]at pc;have c1:((1:Nat):Int)=1:=rfl;rw[c1]at pc;obtain⟨P,hP⟩:=aL (ls:=pieces ls) (k:=pi) aa;obtain⟨Q,hQ⟩:=aL (ls:=pieces ls) (k:=qi) aa;obtain⟨V,hV⟩:=aL (ls:=pieces ls) (k:=L2) aa
 obtain⟨W,hW⟩:=aL (ls:=pieces ls) (k:=wi) aa;rw[iY hP,iY hQ,iY hV,iY hW];have hPp:=ko hP;have hQp:=ko hQ;have hVp:=ko hV;have hWp:=ko hW;have aH:pieces ls≠[]:=jl.1 aa;have pcl:=abO aH aa;have lo:S.lone 7296384256=false:=ah;refine bt c114 ?_;cases one with
 |false=>simp only[go_sem,i114,s149,dr pa zW,dr pb zW];exact⟨aJ,rfl⟩
 |true=>
 cases two with
 |false=>simp only[go_sem,i114,s149,dr pa zW,dr pb zW];exact⟨aJ,rfl⟩
 |true=>
 cases c2:(L2==wi)with
 |true=>
  have n2:((L2:Int)==(wi:Int))=true:=by simp[show L2=wi by simpa using c2]
  simp only[go_sem,i114,s149,dr pa zW,dr pb zW,n2];exact⟨aJ,rfl⟩
 |false=>
 have n2:((L2:Int)==(wi:Int))=false:=by
  have:¬L2=wi:=by simpa using c2
  simp;omega
 cases c3:(V.l.id==W.l.id)with
 |false=>
  have n3:(V.l.id !=W.l.id)=true:=by simp[bne,c3]
  simp only[go_sem,i114,s149,dr pa zW,dr pb zW,n2,hVp,hWp,Pc.ps,n3];exact⟨aJ,rfl⟩
 |true=>
 have n3:(V.l.id !=W.l.id)=false:=by simp[bne,c3]
 cases c4:kX F ls 1 [av,bv] av with
 |false=>rw[c4]at pc;simp only[go_sem,i114,s149,dr pa zW,dr pb zW,n2,hVp,hWp,Pc.ps,n3,s150,mZ pc];exact⟨aJ,rfl⟩
 |true=>
 rw[c4]at pc;simp only[go_sem,i114,s149,dr pa zW,dr pb zW,n2,hVp,hWp,hPp,hQp,Pc.ps,n3,s150,mZ pc,s147];refine⟨aJ,aJ,?_⟩;refine sX pcl lo (.inl rfl) fun cc pK gc pM=>?_;have b3:=pM 7296000000 ae;simp only[go_sem]at b3;rcases gc with⟨e,_⟩|⟨_,gg,e,hC⟩
 .exact absurd (by simpa using e) aH
 cases e;rw[cE,bU];have s1:=IE (pieces ls) pi {P with l:={P.l with aw:=Q.l.aw}};have kM:(pieces ls).set pi {P with l:={P.l with aw:=Q.l.aw}}=dp (pieces ls) pi Q.l.aw:=by unfold dp;rw[dC,hP];rfl
 rw[kM]at s1;have iC:(dp (pieces ls) pi Q.l.aw).length=ls.length:=by rw[qq,bU]
 obtain⟨Q',hQ'⟩:=aL (ls:=dp (pieces ls) pi Q.l.aw) (k:=qi) aa;have apC:=ko hQ';have s2:=IE (dp (pieces ls) pi Q.l.aw) qi {Q' with l:={Q'.l with aw:=P.l.aw}};have fO:(dp (pieces ls) pi Q.l.aw).set qi {Q' with l:={Q'.l with aw:=P.l.aw}}=dp (dp (pieces ls) pi Q.l.aw) qi P.l.aw:=by rw[dp.eq_def (dp (pieces ls) pi Q.l.aw),dC,hQ'];rfl
 rw[fO]at s2;simp only[Pc.ps]at s1 s2;have vR:(dp (dp (pieces ls) pi Q.l.aw) qi P.l.aw).length=ls.length:=by rw[qq,iC]
 simp only[go_sem,b3,hC,hPp,apC,Pc.ps,s1,s2,p1,q1];generalize dp (dp (pieces ls) pi Q.l.aw) qi P.l.aw=M at vR |-;obtain⟨es,Ry⟩:∃es,es=[av,bv]:=⟨_,rfl⟩;have Rv:es.length=2:=by rw[Ry];rfl
 have gb:∀e∈es,e<ls.length:=fun e he=>by rw[Ry]at he;simp only[bJ,eo,or_false]at he;rcases he with rfl|rfl<;>assumption
 refine dD (fun k ak aj=>ak 0=.one (.p (fp F ls))/\ak 14=.one (.hsl 7296384256 gg 7 0 ls.length)/\(∃ge,ak 116=.one (.hsl 7296512256 ge 1 0 2)/\aj 7296512256=(ge,some (.arr 3 1 (nP es))))/\ak 117=vi ((2:Nat):Int)/\ak 118=vi k/\aj 7296384256=(gg,some (.arr nE 7 (eE (dG ls M (es.take k)))))) 0 2 (bR _) ?_ ?_
 .simp only[go_sem];exact⟨⟨_,rfl,by rw[Ry];rfl⟩,rfl,rfl⟩
 rintro k ak aj hk ⟨h0,nh,⟨ge,FH,bE⟩,aeV,aeW,bO⟩
 by_cases aA:k<2
 .have aM:((k:Int)<((2:Nat):Int)):=aa;have RW:k<es.length:=aa;obtain⟨e,he⟩:=aL RW;have NX:=kN he;have NV:=gb e (aV he);have pe:=DM g NV;have w1:=cU (n:=k) aa;have ny:dG ls M (es.take (k+1))=eG ls (dG ls M (es.take k)) e:=by
   unfold dG;rw[oZ,he,Jd];rfl
  have j8:(dG ls M (es.take k)).length=ls.length:=by rw[qt,vR]
  have hm:=de (e+1) (show 0<ls.length by omega);generalize dG ls M (es.take k)=m at bO ny j8;obtain⟨p,hp⟩:=aL (ls:=m) (k:=e) aa;obtain⟨q,hq⟩:=aL (ls:=m) (k:=(e+1)%ls.length) aa;have fv:=ko hp;have Ek:=ko hq;have l1:e<m.length:=aa;have l2:(e+1)%ls.length<m.length:=aa;have s1:=IE m e q;have w8:(m.set e q).set ((e+1)%ls.length) p=eG ls m e:=by unfold eG nx;rw[dC,hq,dC,hp];rfl
  have s2:=IE (m.set e q) ((e+1)%ls.length) p;rw[w8,<-ny]at s2;simp only[Pc.ps]at s1 s2;obtain⟨q',rI⟩:=aL (ls:=m.set e q) (k:=(e+1)%ls.length) (by rw[ux];omega);have Yd:=ko rI;simp only[go_sem,i114_l1,h0,nh,FH,aeV,aeW,bE,bO,aA,aM,NX,s142,dr pe iM,NV,hm,fv,Ek,Yd,s1,s2,Pc.ps,w1];first|exact⟨aJ,ge,rfl,rfl⟩|exact⟨aJ,⟨ge,rfl,rfl⟩⟩|exact⟨aJ,⟨ge,rfl,rfl⟩,rfl⟩|trace_state
 have:k=2:=aa;subst this;have e1:es.take 2=[av,bv]:=by rw[Ry];rfl
 rw[e1]at bO;have vL:¬(((2:Nat):Int)<((2:Nat):Int)):=aa;simp only[go_sem,i114_l1,i114_r2,nh,aeV,aeW,vL];have h1:(dG ls M [av,bv]).length=ls.length:=by rw[qt,vR]
 refine zn (.inr ⟨?_,gg,by rw[oE,cE,h1],bO⟩);intro h2;have:=congrArg List.length h2;rw[oE,cE,h1,fe]at this;omega
def Tj(l:c_)(i:Nat)(g r:Int):c_:=l.set i {(l.getD i ⟨lQ,false⟩)with l:={(l.getD i ⟨lQ,false⟩).l with gate:=g,aw:=r}}
def trR(F:Nat)(ls:ai)(av:Nat):Option c_:=
 if((pA ls av).l.kind==1)&&(decide ((pA ls av).l.gate<(F:Int))&&((pA ls av).l.aw==(cg ls (pA ls av).l.gate.toNat:Int)))
 then some (Tj (kQ (pieces ls) ((pA ls av).l.gate+1) 0 1) av ((pA ls av).l.gate+1) 1)else none
def tlR(ls:ai)(av:Nat):Option c_:=
 if((pA ls av).l.kind==1)&&(decide (0<(pA ls av).l.gate)&&((pA ls av).l.aw==1))
 then some (Tj (kQ (pieces ls) (pA ls av).l.gate 1 (-1)) av ((pA ls av).l.gate-1) ((cg ls ((pA ls av).l.gate-1).toNat+1:Nat):Int))else none
end
end Go.Abs
