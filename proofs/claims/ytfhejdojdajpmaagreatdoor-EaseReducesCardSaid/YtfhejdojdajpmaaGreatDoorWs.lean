/- A part. -/
import Derived.Test.YtfhejdojdajpmaaGreatDoorWn
set_option linter.all false
set_option maxRecDepth 100000
set_option maxHeartbeats 16000000
namespace Go.Abs
section
variable{F:Nat}{ls:List Let}
def HA(l:List Pc)(drop:Nat->Pc->Bool)(i:Nat):Option Pc:=match l[i]? with|some p=>if drop i p then none else some p|none=>none
def rl(l:List Pc)(drop:Nat->Pc->Bool)(k:Nat):List Pc:=(List.range k).filterMap (HA l drop)
def jQ(l:List Pc)(drop:Nat->Pc->Bool):List Pc:=rl l drop l.length
theorem zn{l:List Pc}{drop:Nat->Pc->Bool}{k:Nat}{p:Pc}(h:l[k]?=some p)(hd:drop k p=true):rl l drop (k+1)=rl l drop k:=by simp[rl,rH,Wg,HA,h,hd]
theorem HB{l:List Pc}{drop:Nat->Pc->Bool}{k:Nat}{p:Pc}(h:l[k]?=some p)(hd:drop k p=false):rl l drop (k+1)=rl l drop k++[p]:=by simp[rl,rH,Wg,HA,h,hd]
theorem EP(l:List Pc)(drop:Nat->Pc->Bool)(k:Nat):(rl l drop k).length<=k:=by have:=List.length_filterMap_le (HA l drop) (List.range k);rwa[BK] at this
theorem Ay(g:bK F ls){e:Nat}(he:e<ls.length):aJ S 156 [.one (.p (ek F ls)),vi e] (yx (.int .i64 e) (.int .i64 ((e+1)%ls.length:Nat))):=by have hlen:=g.len;have bG:=fG ls;have w1:=bQ (n:=e) aa;have e1:=qK (e+1) ls.length;have hz:¬((ls.length:Int)=0):=aa;refine bc c156 ?_;simp only[go_sem,i156,w1,e1,bG,hz];exact⟨aH,rfl⟩
theorem afs(l:List Pc)(hl:l.length<=1000000){f:Nat}{x y:PV}(hn:x.norm=x/\y.norm=y)(iu:S.shared f=false)(drop:Nat->Pc->Bool)(hd:∀(k:Nat) (p:Pc),l[k]?=some p->aJ S f [vi k,.agg (p.ps.map .p),.one (.p x),.one (.p y)] (rb (drop k p))):
  aJ S 157 [.one (.p (.sl (dB l))),.one (.p (.fn f [] [x,y]))] (.one (aO kQ 7 (dB (jQ l drop)))):=by
 obtain⟨fP,gM⟩:=hn;refine bc c157 ?_;simp only[go_sem,i157];refine cS (fun k ak aj=>ak 1=.one (.p (.fn f [] [x,y]))/\ak 8=.one (.p (.sl (dB l)))/\ak 9=vi l.length/\ak 10=vi k/\ ∃c,ak 5=.one c/\grown 10048384192 kQ 7 (dB (rl l drop k)) (.one c) aj) 0 l.length (bn _) ?_ ?_
 .simp only[go_sem];first|exact⟨rfl,_,rfl,.inl ⟨rfl,rfl⟩⟩|exact⟨_,rfl,.inl ⟨rfl,rfl⟩⟩|exact⟨rfl,rfl,_,rfl,.inl ⟨rfl,rfl⟩⟩
 rintro k ak aj hk ⟨h1,h8,h9,dC,c,h5,gc⟩
 by_cases au:k<l.length
 .have aL:((k:Int)<(l.length:Int)):=aa;obtain⟨p,hp⟩:=aN au;have fg:=iZ hp;have w1:=bQ (n:=k) aa;have pd:=hd k p hp;have dN:=EP l drop k;simp only[Pc.ps,eE,kZ] at pd;cases hb:drop k p with
  |true=>rw[hb] at pd;have hs:=zn hp hb;simp only[go_sem,i157_l1,h1,h5,h8,h9,dC,au,aL,fg,Pc.ps,fP,gM,iu,cq pd,w1];refine⟨c,rfl,?_⟩;rw[hs];exact gc.of_eq (by simp only[aS,Nat.reduceEqDiff,if_false])
  |false=>rw[hb] at pd;have hs:=HB hp hb;simp only[go_sem,i157_l1,h1,h5,h8,h9,dC,aL,fg,Pc.ps,fP,gM,iu,cq pd];refine mE (site:=10048384192) (id:=10048384192) (bytes:=56) (xs:=[p.ps]) (rd:=[10048384128]) (gc.of_eq (by simp only[aS,Nat.reduceEqDiff,if_false])) (by simp[eN,aS,Pc.ps]) (.inl rfl) (by simp only[cG,dp,eP];omega) fun c' bt hc jM=>?_;simp only[go_sem,h1,h8,h9,dC,au,w1];refine⟨c',rfl,?_⟩;rw[hs,adJ];exact hc
 have:k=l.length:=aa;subst this;simp only[go_sem,i157_l1,i157_r2,h5,h9,dC,dI];exact xH gc
theorem arV(l:List Pc)(hl:l.length<=1000000){f:Nat}{x:PV}(hn:x.norm=x)(iu:S.shared f=false)(drop:Nat->Pc->Bool)(hd:∀(k:Nat) (p:Pc),l[k]?=some p->aJ S f [vi k,.agg (p.ps.map .p),.one (.p x)] (rb (drop k p))):
  aJ S 157 [.one (.p (.sl (dB l))),.one (.p (.fn f [] [x]))] (.one (aO kQ 7 (dB (jQ l drop)))):=by
 have fP:=hn;refine bc c157 ?_;simp only[go_sem,i157];refine cS (fun k ak aj=>ak 1=.one (.p (.fn f [] [x]))/\ak 8=.one (.p (.sl (dB l)))/\ak 9=vi l.length/\ak 10=vi k/\ ∃c,ak 5=.one c/\grown 10048384192 kQ 7 (dB (rl l drop k)) (.one c) aj) 0 l.length (bn _) ?_ ?_
 .simp only[go_sem];first|exact⟨rfl,_,rfl,.inl ⟨rfl,rfl⟩⟩|exact⟨_,rfl,.inl ⟨rfl,rfl⟩⟩|exact⟨rfl,rfl,_,rfl,.inl ⟨rfl,rfl⟩⟩
 rintro k ak aj hk ⟨h1,h8,h9,dC,c,h5,gc⟩
 by_cases au:k<l.length
 .have aL:((k:Int)<(l.length:Int)):=aa;obtain⟨p,hp⟩:=aN au;have fg:=iZ hp;have w1:=bQ (n:=k) aa;have pd:=hd k p hp;have dN:=EP l drop k;simp only[Pc.ps,eE,kZ] at pd;cases hb:drop k p with
  |true=>rw[hb] at pd;have hs:=zn hp hb;simp only[go_sem,i157_l1,h1,h5,h8,h9,dC,au,aL,fg,Pc.ps,fP,iu,cq pd,w1];refine⟨c,rfl,?_⟩;rw[hs];exact gc.of_eq (by simp only[aS,Nat.reduceEqDiff,if_false])
  |false=>rw[hb] at pd;have hs:=HB hp hb;simp only[go_sem,i157_l1,h1,h5,h8,h9,dC,aL,fg,Pc.ps,fP,iu,cq pd];refine mE (site:=10048384192) (id:=10048384192) (bytes:=56) (xs:=[p.ps]) (rd:=[10048384128]) (gc.of_eq (by simp only[aS,Nat.reduceEqDiff,if_false])) (by simp[eN,aS,Pc.ps]) (.inl rfl) (by simp only[cG,dp,eP];omega) fun c' bt hc jM=>?_;simp only[go_sem,h1,h8,h9,dC,au,w1];refine⟨c',rfl,?_⟩;rw[hs,adJ];exact hc
 have:k=l.length:=aa;subst this;simp only[go_sem,i157_l1,i157_r2,h5,h9,dC,dI];exact xH gc
theorem Yh(k i j:Nat)(p:Pc):aJ S 158 [vi k,.agg (p.ps.map .p),.one (.p (.box [.int .i64 i])),.one (.p (.box [.int .i64 j]))] (rb (decide (k=i)||decide (k=j))):=by
 refine bc c158 ?_;by_cases h1:k=i
 .have e1:((k:Int)==(i:Int))=true:=by simp[h1]
  rw[show(decide (k=i)||decide (k=j))=true by simp[h1]];simp only[go_sem,i158,Pc.ps,e1]
 have e1:((k:Int)==(i:Int))=false:=by simp;omega
 by_cases h2:k=j
 .have e2:((k:Int)==(j:Int))=true:=by simp[h2]
  rw[show(decide (k=i)||decide (k=j))=true by simp[h2]];simp only[go_sem,i158,Pc.ps,e1,e2]
 have e2:((k:Int)==(j:Int))=false:=by simp;omega
 rw[show(decide (k=i)||decide (k=j))=false by simp[h1,h2]];simp only[go_sem,i158,Pc.ps,e1,e2]
def nL(a b:Int):Int:=if a<b then b else a
def vm(a b:Int):Int:=if b<a then b else a
def uF(ls:List Let)(av:Nat):Option (List Pc):=
 let p:=(pieces ls).getD av ⟨iM,false⟩
 let q:=(pieces ls).getD ((av+1)%ls.length) ⟨iM,false⟩
 if (p.l.kind==1)&&((q.l.kind==1)&&((p.l.gate==q.l.gate)&&((nL p.l.aw q.l.aw-vm p.l.aw q.l.aw==1)&& !(decide (ay Let.aG ls<=2)&&decide (0<ay Let.aB ls/2)))))
 then some (iO (jQ (pieces ls) fun k _=>decide (k=av)||decide (k=(av+1)%ls.length)) p.l.gate (nL p.l.aw q.l.aw) (-2)) else none
theorem Uj{l:List Pc}{drop:Nat->Pc->Bool}{p:Pc}(h:p∈jQ l drop):p∈l:=by
 obtain⟨i,_,hi⟩:=afK.1 h;unfold HA at hi;cases hl:l[i]? with
 |none=>rw[hl] at hi;cases hi
 |some q=>
  rw[hl] at hi;simp only at hi;split at hi
  .cases hi
  cases hi;exact aW hl
theorem ag3(g:bK F ls){av:Nat}(ha:av<ls.length){k b c:Int}{l o:Bool}{sg:Int}:
  aJ S 130 [.one (.p (ek F ls)),ft k av b c l o sg] (kR (uF ls av)):=by
 have hlen:=g.len;have bG:=fG ls;have pe:=Ay g ha;have hm:=dK (av+1) (show 0<ls.length by omega);have pQ:=Vh g;obtain⟨p,hp⟩:=aN (ls:=pieces ls) (k:=av) aa;obtain⟨q,hq⟩:=aN (ls:=pieces ls) (k:=(av+1)%ls.length) aa;obtain⟨p1,p2⟩:=pQ p (aW hp);obtain⟨q1,q2⟩:=pQ q (aW hq);have fQ:=iZ hp;have nG:=iZ hq;have iu:S.shared 159=true:=ah;have lo:S.lone 8320320320=false:=ah;have fk:=g.cr;unfold uF;simp only[cU,hp,hq,kE];refine bc c130 ?_;cases c1:(p.l.kind==1) with
 |false=>
  have n1:(p.l.kind !=1)=true:=by simp[bne,c1]
  simp only[go_sem,i130,s156,cK pe gn,fQ,nG,Pc.ps,n1];exact⟨aH,rfl⟩
 |true=>
 have n1:(p.l.kind !=1)=false:=by simp[bne,c1]
 cases c2:(q.l.kind==1) with
 |false=>
  have n2:(q.l.kind !=1)=true:=by simp[bne,c2]
  simp only[go_sem,i130,s156,cK pe gn,fQ,nG,Pc.ps,n1,n2];exact⟨aH,rfl⟩
 |true=>
 have n2:(q.l.kind !=1)=false:=by simp[bne,c2]
 cases c3:(p.l.gate==q.l.gate) with
 |false=>
  have n3:(p.l.gate !=q.l.gate)=true:=by simp[bne,c3]
  simp only[go_sem,i130,s156,cK pe gn,fQ,nG,Pc.ps,n1,n2,n3];exact⟨aH,rfl⟩
 |true=>
 have n3:(p.l.gate !=q.l.gate)=false:=by simp[bne,c3]
 have qE:(if q.l.aw>p.l.aw then q.l.aw else p.l.aw)=nL p.l.aw q.l.aw:=rfl;have y9:(if q.l.aw<p.l.aw then q.l.aw else p.l.aw)=vm p.l.aw q.l.aw:=rfl;have hmxb: -1000000<=nL p.l.aw q.l.aw/\nL p.l.aw q.l.aw<=1000000:=by unfold nL;split<;>omega
 have hmnb: -1000000<=vm p.l.aw q.l.aw/\vm p.l.aw q.l.aw<=1000000:=by unfold vm;split<;>omega
 have wd:=nT (x:=nL p.l.aw q.l.aw-vm p.l.aw q.l.aw) aa aa;generalize nL p.l.aw q.l.aw=mx at*;generalize vm p.l.aw q.l.aw=mn at*;cases c4:(mx-mn==1) with
 |false=>
  have n4:(mx-mn !=1)=true:=by simp[bne,c4]
  simp only[go_sem,i130,s156,cK pe gn,fQ,nG,Pc.ps,n1,n2,n3,qE,y9,wd,n4];exact⟨aH,rfl⟩
 |true=>
 have n4:(mx-mn !=1)=false:=by simp[bne,c4]
 have eJ:∀(X:Prop),X->X:=fun _ h=>h;by_cases c5:ay Let.aG ls<=2
 .have n5:((ay Let.aG ls:Int)<=2):=aa;by_cases c6:0<ay Let.aB ls/2
  .have n6:((0:Int)<((ay Let.aB ls/2:Nat):Int)):=aa;rw[BP c5,BP c6];simp only[go_sem,i130,s156,cK pe gn,fQ,nG,Pc.ps,n1,n2,n3,qE,y9,wd,n4,n5,n6];exact⟨aH,rfl⟩
  have n6:¬((0:Int)<((ay Let.aB ls/2:Nat):Int)):=aa;rw[BP c5,DG c6];simp only[go_sem,i130,s156,cK pe gn,fQ,nG,Pc.ps,n1,n2,n3,qE,y9,wd,n4,n5,n6,s157];refine⟨aH,?_⟩;refine pI (afs (pieces ls) aa ⟨rfl,rfl⟩ s158 (fun k _=>decide (k=av)||decide (k=(av+1)%ls.length)) (fun k p _=>Yh k av ((av+1)%ls.length) p)) lo (.inr (mY (Bt _))) fun cc bt gc hb=>?_;have b8:=hb 8320128896 ae;have b9:=hb 8320128960 ae;simp only[go_sem] at b8 b9;simp only[go_sem,b8,b9,qE,iu];refine aal (l:=jQ (pieces ls) fun k _=>decide (k=av)||decide (k=(av+1)%ls.length)) (lf (EP _ _ _) aa) ae (fun x hx=>pQ x (Uj hx)) gc fun bd oh aZ=>?_;simp only[go_sem];exact vM oh
 have n5:¬((ay Let.aG ls:Int)<=2):=aa;rw[DG c5];simp only[go_sem,i130,s156,cK pe gn,fQ,nG,Pc.ps,n1,n2,n3,qE,y9,wd,n4,n5,s157];refine⟨aH,?_⟩;refine pI (afs (pieces ls) aa ⟨rfl,rfl⟩ s158 (fun k _=>decide (k=av)||decide (k=(av+1)%ls.length)) (fun k p _=>Yh k av ((av+1)%ls.length) p)) lo (.inr (mY (Bt _))) fun cc bt gc hb=>?_;have b8:=hb 8320128896 ae;have b9:=hb 8320128960 ae;simp only[go_sem] at b8 b9;simp only[go_sem,b8,b9,qE,iu];refine aal (l:=jQ (pieces ls) fun k _=>decide (k=av)||decide (k=(av+1)%ls.length)) (lf (EP _ _ _) aa) ae (fun x hx=>pQ x (Uj hx)) gc fun bd oh aZ=>?_;simp only[go_sem];exact vM oh
abbrev iP(o:List Int):List (List PV):=o.map fun n=>[PV.int .i64 n]
theorem wE{o:List Int}{k:Nat}{v:Int}(h:o[k]?=some v):(iP o)[k]?=some [.int .i64 v]:=by simp[h]
def mN(o:List Int)(x:Int)(i:Nat):Bool:=match o[i]? with|some y=>y==x|none=>false
theorem alH(o:List Int)(x:Int)(hl:o.length<=1000000):aJ S 214 [.one (.p (.sl (iP o))),vi x] (ri (match (List.range o.length).find? (mN o x) with|some k=>(k:Int)|none=> -1)):=by
 refine bc c214 ?_;simp only[go_sem,i214];refine cS (fun k ak aj=>ak 0=.one (.p (.sl (iP o)))/\ak 1=vi x/\ak 7=vi o.length/\ak 8=vi k/\ ∀j,j<k->mN o x j=false) 0 o.length (bn _) ?_ ?_
 .simp only[go_sem];exact⟨rfl,fun j hj=>absurd hj (mv j)⟩
 rintro k ak aj hk ⟨h0,h1,h7,h8,hn⟩
 by_cases au:k<o.length
 .have aL:((k:Int)<(o.length:Int)):=aa;obtain⟨y,hy⟩:=aN au;have fg:=wE hy;have w1:=bQ (n:=k) aa;have pP:mN o x k=(y==x):=by simp[mN,hy]
  cases hb:(y==x) with
  |true=>
   have mF:(x==y)=true:=by have:=dk.1 hb;simp[this]
   rw[hb] at pP;have hf:=AO (p:=mN o x) au hn pP;simp only[go_sem,i214_l1,h0,h1,h7,h8,aL,fg,mF,hf];first|done|exact aH|rfl
  |false=>
   have mF:(x==y)=false:=by
    have:¬y=x:=by simpa using hb
    simp;exact fun h=>this h.symm
   rw[hb] at pP;have zb:∀j,j<k+1->mN o x j=false:=fun j hj=>by
    rcases kB.1 hj with h|rfl
    .exact hn j h
    exact pP
   simp only[go_sem,i214_l1,h0,h1,h7,h8,au,aL,fg,mF,w1];first|exact zb|exact⟨aH,zb⟩
 have:k=o.length:=aa;subst this;have hf:=Gu (p:=mN o x) hn;simp only[go_sem,i214_l1,i214_r2,h7,h8,dI,hf]
theorem ah4(o:List Int)(x:Int)(hl:o.length<=1000000):aJ S 193 [.one (.p (.sl (iP o))),vi x] (rb (o.contains x)):=by
 have pi:=alH o x hl;refine bc c193 ?_;cases hm:o.contains x with
 |true=>
  have j8:x∈o:=by simpa using hm
  obtain⟨k,hk⟩:=gH j8;have dN:=(aY.1 hk).1;cases hf:(List.range o.length).find? (mN o x) with
  |none=>have:=IM.1 hf k (fJ.2 dN);simp[mN,hk] at this
  |some j=>rw[hf] at pi;have j6:(0:Int)<=(j:Int):=aa;simp only[go_sem,i193,s214,dJ pi,j6]
 |false=>
  have j8:x∉o:=by simpa using hm
  cases hf:(List.range o.length).find? (mN o x) with
  |some j=>
   have h1:=Px hf;unfold mN at h1;cases ho:o[j]? with
   |none=>rw[ho] at h1;cases h1
   |some y=>
    rw[ho] at h1;have:y=x:=by simpa using h1
    subst this;exact absurd (aW ho) j8
  |none=>rw[hf] at pi;have j6:¬(0:Int)<= -1:=ae;simp only[go_sem,i193,s214,dJ pi,j6]
def nk(ids:List Int)(_:Nat)(p:Pc):Bool:=(p.l.kind==2)&&ids.contains p.l.id
theorem aiJ(ids:List Int)(hl:ids.length<=1000000)(k:Nat)(p:Pc):aJ S 192 [vi k,.agg (p.ps.map .p),.one (.p (.box [.sl (iP ids)]))] (rb (nk ids k p)):=by
 have pc:=ah4 ids p.l.id hl;refine bc c192 ?_;unfold nk;cases h:(p.l.kind==2) with
 |true=>simp only[go_sem,i192,Pc.ps,h,s193,cq pc]
 |false=>simp only[go_sem,i192,Pc.ps,h]
def iL(ids:List Int)(k:Nat)(p:Pc):Pc:={p with l:={p.l with id:=p.l.id-((ids.take k).countP (fun i=>decide (i<p.l.id)):Nat)}}
def lL(ids:List Int)(p:Pc):Pc:=if p.l.kind==2 then iL ids ids.length p else p
abbrev Cb(l:List Pc)(ids:List Int):List Pc:=(jQ l (nk ids)).map (lL ids)
abbrev sk(ids:List Int)(l:List Pc)(k:Nat):List Pc:=(l.take k).map (lL ids)++l.drop k
theorem acI{ids:List Int}{l:List Pc}{k:Nat}{p:Pc}(h:l[k]?=some p):(sk ids l k)[k]?=some p:=by have hk:=(aY.1 h).1;rw[sk,vz (by rw[cG,iF];omega),cG,iF,zZ aa,FI,wZ];exact h
theorem amM(ids:List Int)(l:List Pc)(k:Nat):(sk ids l k).length=l.length:=by rw[sk,fH,cG,iF,tx];omega
theorem amN{ids:List Int}{l:List Pc}{k:Nat}{p:Pc}(h:l[k]?=some p):(sk ids l k).set k (lL ids p)=sk ids l (k+1):=by
 have hk:=(aY.1 h).1;have A2:l.drop k=p::l.drop (k+1):=by obtain⟨hh,rfl⟩:=aY.1 h;exact Pt hh
 have e1:((l.take k).map (lL ids)).length=k:=by rw[cG,iF];omega
 rw[sk,Wp _ _ aa,e1,FI,A2,afP,sk,iw,h];simp
theorem Fe(o:List Pc)(k:Nat)(p:Pc):(dB o).set k p.ps=dB (o.set k p):=by simp[zX]
theorem Yk(l:List Pc)(ids:List Int)(hl:l.length<=1000000)(hi:ids.length<=1000)(hb:∀p∈l,-1000000<=p.l.id/\p.l.id<=1000000):
  aJ S 165 [.one (.p (.sl (dB l))),.one (.p (.sl (iP ids)))] (.one (aO kQ 7 (dB (Cb l ids)))):=by
 have pw:=arV l hl (f:=192) (x:=.box [.sl (iP ids)]) rfl s192 (nk ids) (fun k p _=>aiJ ids aa k p);have lo:S.lone 10560064128=false:=ah;have nC:∀p∈jQ l (nk ids),-1000000<=p.l.id/\p.l.id<=1000000:=fun p hp=>hb p (Uj hp);have dN:(jQ l (nk ids)).length<=1000000:=lf (EP _ _ _) hl;refine bc c165 ?_;simp only[go_sem,i165,s157];refine pI pw lo (.inr (mY (Bt _))) fun cc nh gc r4=>?_;have z3:=r4 10560000000 ae;simp only[go_sem] at z3;unfold Cb;generalize jQ l (nk ids)=m at gc nC dN;rcases gc with ⟨e,e2⟩|⟨aM,gg,e2,hC⟩
 .cases e2;have:m=[]:=by simpa using e
  subst this;have hz:¬(((0:Nat):Int)<((0:Nat):Int)):=aa;simp only[go_sem];refine cS (fun k ak aj=>k=0/\ak 5=.one (.p .nils)/\ak 14=vi ((0:Nat):Int)/\ak 15=vi ((0:Nat):Int)) 0 0 (cA _) ?_ ?_
  .simp only[go_sem];exact rfl
  rintro k ak aj _ ⟨rfl,h5,kL,oi⟩
  simp only[go_sem,i165_l3,i165_r4,h5,kL,oi,hz];rfl
 cases e2;simp only[go_sem];refine cS (fun k ak aj=>ak 3=.one (.ba 10560000000 1 0)/\aj 10560000000=(1,some (.var [.p (.sl (iP ids))]))/\ak 5=.one (.hsl 10560064128 gg 7 0 m.length)/\ak 13=.one (.hsl 10560064128 gg 7 0 m.length)/\ak 14=vi m.length/\ak 15=vi k/\aj 10560064128=(gg,some (.arr kQ 7 (dB (sk ids m k))))) 0 m.length (bn _) ?_ ?_
 .simp only[go_sem,z3,hC];refine⟨rfl,?_⟩;simp[sk]
 rintro k ak aj hk ⟨h3,bI,h5,tO,kL,oi,bO⟩
 by_cases au:k<m.length
 .have aL:((k:Int)<(m.length:Int)):=aa;obtain⟨p,hp⟩:=aN au;have vc:=iZ (acI (ids:=ids) hp);have w1:=bQ (n:=k) aa;have qD:=amM ids m k;have jl:=amN (ids:=ids) hp;have hlk:k<(sk ids m k).length:=aa;cases c1:(p.l.kind==2) with
  |false=>
   have n1:(p.l.kind !=2)=true:=by simp[bne,c1]
   have zi:sk ids m (k+1)=sk ids m k:=by
    rw[<- jl];have e:lL ids p=p:=by unfold lL;rw[c1];rfl
    rw[e];obtain⟨hh,he⟩:=aY.1 (acI (ids:=ids) hp);rw[<- he,Wq]
   simp only[go_sem,i165_l3,i165_r2,h3,bI,h5,tO,kL,oi,bO,au,aL,vc,Pc.ps,n1,w1,zi]
  |true=>
   have n1:(p.l.kind !=2)=false:=by simp[bne,c1]
   have hid:=nC p (aW hp);have xS:lL ids p=iL ids ids.length p:=by unfold lL;rw[c1];rfl
   rw[xS] at jl;generalize sk ids m k=q at vc qD jl hlk bO;have q0:q.set k (iL ids 0 p)=q:=by
    have:iL ids 0 p=p:=by unfold iL;simp
    rw[this];have h1:q[k]?=some p:=by
     have h2:(dB q)[k]?=some p.ps:=vc;rw[gh] at h2;cases hq:q[k]? with
     |none=>rw[hq] at h2;cases h2
     |some x=>rw[hq] at h2;simp[Pc.ps] at h2;obtain⟨⟨a,b,c,d,e,f⟩,g⟩:=x;obtain⟨⟨a',b',c',d',e',f'⟩,g'⟩:=p;simp at h2;obtain⟨rfl,rfl,rfl,rfl,rfl,rfl,rfl⟩:=h2;rfl
    obtain⟨hh,he⟩:=aY.1 h1;rw[<- he,Wq]
   simp only[go_sem,i165_l3,h3,bI,tO,kL,oi,bO,au,aL,vc,Pc.ps,n1];refine cS (fun j cP bd=>cP 3=.one (.ba 10560000000 1 0)/\bd 10560000000=(1,some (.var [.p (.sl (iP ids))]))/\cP 5=.one (.hsl 10560064128 gg 7 0 m.length)/\cP 13=.one (.hsl 10560064128 gg 7 0 m.length)/\cP 14=vi m.length/\cP 15=vi k/\cP 6=vi k/\cP 24=.one (.p (.sl (iP ids)))/\cP 25=vi ids.length/\cP 26=vi j/\
    (∃g7,cP 7=.one (.ba 10560256192 g7 0)/\bd 10560256192=(g7,some (.var (p.ps.map .p))))/\bd 10560064128=(gg,some (.arr kQ 7 (dB (q.set k (iL ids j p)))))) 0 ids.length (bn _) ?_ ?_
   .simp only[go_sem,h3,bI,h5,tO,kL,oi,bO,q0];first|exact⟨rfl,_,⟨rfl,rfl⟩,rfl⟩|exact⟨rfl,⟨_,rfl,rfl⟩⟩|exact⟨_,rfl,rfl⟩|exact⟨⟨_,rfl,rfl⟩,rfl⟩|exact⟨rfl,⟨_,rfl,rfl⟩,rfl⟩|trace_state
   rintro j cP bd hj ⟨p3,cI,p5,p13,uk,p15,p6,p24,p25,HR,⟨g7,p7,c7⟩,cO⟩
   by_cases re:j<ids.length
   .have Ey:((j:Int)<(ids.length:Int)):=aa;obtain⟨d,hd⟩:=aN re;have j5:=wE hd;have w2:=bQ (n:=j) aa;have qX:(ids.take (j+1)).countP (fun i=>decide (i<p.l.id))=(ids.take j).countP (fun i=>decide (i<p.l.id))+if d<p.l.id then 1 else 0:=by
     rw[iw,hd,vv];simp[uy,List.countP_nil]
    have dM:(ids.take j).countP (fun i=>decide (i<p.l.id))<=j:=lf Ps (by rw[iF];omega);have hqa:(dB (q.set k (iL ids j p)))[k]?=some (iL ids j p).ps:=iZ (by rw[nW,aE rfl,aE aa]);have He:k<(q.set k (iL ids j p)).length:=by rw[rD];omega
    by_cases hg:d<p.l.id
    .have e1:(iL ids j p).l.id-1=(iL ids (j+1) p).l.id:=by
      unfold iL;simp only;rw[qX,aE hg];omega
     have w3:IntKind.i64.wrap ((iL ids j p).l.id-1)=(iL ids (j+1) p).l.id:=by rw[<- e1];exact nT (by unfold iL;simp only;omega) (by unfold iL;simp only;omega)
     have dj:((iL ids (j+1) p).ps)=[.int .i64 (iL ids j p).l.kind,.int .i64 (iL ids j p).l.gate,.int .i64 (iL ids j p).l.aw,.int .i64 (iL ids (j+1) p).l.id,.int .i64 (iL ids j p).l.sign,.bool (iL ids j p).l.over,.bool (iL ids j p).d]:=rfl;have aa7:(dB (q.set k (iL ids j p))).set k (iL ids (j+1) p).ps=dB (q.set k (iL ids (j+1) p)):=by rw[Fe,List.set_set]
     rw[dj] at aa7;generalize iL ids j p=x at*;simp only[go_sem,i165_l1,p3,cI,p5,p13,uk,p15,p6,p24,p25,HR,p7,c7,cO,au,re,Ey,j5,hg,hqa,Pc.ps,w2,w3,aa7];exact⟨g7,rfl,rfl⟩
    have e1:iL ids (j+1) p=iL ids j p:=by unfold iL;rw[qX,aD hg];simp
    simp only[go_sem,i165_l1,p3,cI,p5,p13,uk,p15,p6,p24,p25,HR,p7,c7,cO,re,Ey,j5,hg,Pc.ps,w2,e1];exact⟨g7,rfl,rfl⟩
   have:j=ids.length:=aa;subst this;rw[jl] at cO;simp only[go_sem,i165_l1,i165_r2,p3,cI,p5,p13,uk,p15,HR,p25,cO,dI,w1,au]
 have:k=m.length:=aa;subst this;have e1:sk ids m m.length=m.map (lL ids):=by rw[sk,jf,List.drop_length,qh]
 rw[e1] at bO;simp only[go_sem,i165_l3,i165_r4,h5,kL,oi,dI];have tY:m.map (lL ids)≠[]:=by simpa using aM
 exact xH (.inr ⟨by simpa using tY,gg,af,bO⟩)
theorem bK.ids(g:bK F ls):Ua ls/\Fb ls:=by have hc:=g.ok.cr;unfold kr at hc;simp only[cE] at hc;exact Fu.1 fun k hk=>ij.1 hc.1.2 k (fJ.2 hk)
theorem anO{p:Pc}(h:p∈pieces ls):∃(i:Nat) (l:Let),ls[i]?=some l/\p=⟨l,gY ls i⟩:=by
 obtain⟨i,hi⟩:=gH h;have ny:i<ls.length:=by rw[<- fG];exact(aY.1 hi).1
 obtain⟨l,hl⟩:=aN ny;rw[kS hl] at hi;cases hi;exact⟨i,l,hl,rfl⟩
theorem T9(g:bK F ls):∀p∈pieces ls,-1000000<=p.l.id/\p.l.id<=1000000:=by
 intro p hp;obtain⟨i,l,hl,rfl⟩:=anO hp;have hm:=aW hl;rcases g.ok.kinds l hm with h|h
 .have:=(sB (f:=(F:Int)) h).1 (g.bad l hm);simp only[this.1.1.2];omega
 have h1:=g.ids.1 l hm h;have:=g.cr;simp only;omega
def vj(ls:List Let)(av:Nat):Option (List Pc):=
 let p:=(pieces ls).getD av ⟨iM,false⟩
 let q:=(pieces ls).getD ((av+1)%ls.length) ⟨iM,false⟩
 if (p.l.kind==2)&&((q.l.kind==2)&&(p.l.id==q.l.id)) then some (Cb (pieces ls) [p.l.id]) else none
theorem amL(g:bK F ls){av:Nat}(ha:av<ls.length){k b c:Int}{l o:Bool}{sg:Int}:
  aJ S 133 [.one (.p (ek F ls)),ft k av b c l o sg] (kR (vj ls av)):=by
 have hlen:=g.len;have bG:=fG ls;have pe:=Ay g ha;have hm:=dK (av+1) (show 0<ls.length by omega);obtain⟨p,hp⟩:=aN (ls:=pieces ls) (k:=av) aa;obtain⟨q,hq⟩:=aN (ls:=pieces ls) (k:=(av+1)%ls.length) aa;have fQ:=iZ hp;have nG:=iZ hq;have lo:S.lone 8512256896=false:=ah;unfold vj;simp only[cU,hp,hq,kE];refine bc c133 ?_;cases c1:(p.l.kind==2) with
 |false=>
  have n1:(p.l.kind !=2)=true:=by simp[bne,c1]
  simp only[go_sem,i133,s156,cK pe gn,fQ,Pc.ps,n1];exact⟨aH,rfl⟩
 |true=>
 have n1:(p.l.kind !=2)=false:=by simp[bne,c1]
 cases c2:(q.l.kind==2) with
 |false=>
  have n2:(q.l.kind !=2)=true:=by simp[bne,c2]
  simp only[go_sem,i133,s156,cK pe gn,fQ,nG,Pc.ps,n1,n2];exact⟨aH,rfl⟩
 |true=>
 have n2:(q.l.kind !=2)=false:=by simp[bne,c2]
 cases c3:(p.l.id==q.l.id) with
 |false=>
  have n3:(p.l.id !=q.l.id)=true:=by simp[bne,c3]
  simp only[go_sem,i133,s156,cK pe gn,fQ,nG,Pc.ps,n1,n2,n3];exact⟨aH,rfl⟩
 |true=>
 have n3:(p.l.id !=q.l.id)=false:=by simp[bne,c3]
 have pd:=Yk (pieces ls) [p.l.id] aa af (T9 g);simp only[go_sem,i133,s156,cK pe gn,fQ,nG,Pc.ps,n1,n2,n3,s165];refine⟨aH,?_⟩;refine X8 pd lo (.inr (mY (Bt _))) fun cc bt w gc hb hw=>?_;simp only[go_sem];refine⟨?_,vM gc⟩;rcases hw with rfl|rfl<;>kernel_rfl
abbrev pA(ls:List Let)(i:Nat):Pc:=(pieces ls).getD i ⟨iM,false⟩
theorem jo{i:Nat}{p:Pc}(h:(pieces ls)[i]?=some p):pA ls i=p:=by simp[pA,cU,h]
abbrev nx(ls:List Let)(e:Nat):Nat:=(e+1)%ls.length
def iB(ls:List Let)(e:Nat)(ov:Bool):Bool:=((pA ls e).l.kind==2)&&(((pA ls (nx ls e)).l.kind==2)&&(((pA ls e).l.over==ov)&&((pA ls (nx ls e)).l.over==ov)))
theorem F6(g:bK F ls){e:Nat}(he:e<ls.length)(ov:Bool):aJ S 167 [.one (.p (ek F ls)),vi e,vb ov] (rb (iB ls e ov)):=by
 have hlen:=g.len;have bG:=fG ls;have pe:=Ay g he;have hm:=dK (e+1) (show 0<ls.length by omega);obtain⟨p,hp⟩:=aN (ls:=pieces ls) (k:=e) aa;obtain⟨q,hq⟩:=aN (ls:=pieces ls) (k:=(e+1)%ls.length) aa;have fQ:=iZ hp;have nG:=iZ hq;unfold iB;rw[jo hp,jo hq];refine bc c167 ?_;cases c1:(p.l.kind==2) with
 |false=>simp only[go_sem,i167,s156,cK pe gn,fQ,Pc.ps,c1]
 |true=>
 cases c2:(q.l.kind==2) with
 |false=>simp only[go_sem,i167,s156,cK pe gn,fQ,nG,Pc.ps,c1,c2]
 |true=>
 cases c3:(p.l.over==ov) with
 |false=>simp only[go_sem,i167,s156,cK pe gn,fQ,nG,Pc.ps,c1,c2,c3]
 |true=>
 cases c4:(q.l.over==ov) with
 |false=>simp only[go_sem,i167,s156,cK pe gn,fQ,nG,Pc.ps,c1,c2,c3,c4]
 |true=>simp only[go_sem,i167,s156,cK pe gn,fQ,nG,Pc.ps,c1,c2,c3,c4]
def jq(ls:List Let)(e:Nat):Nat×Nat×Bool:=if (pA ls e).l.kind==2 then (nx ls e,e,(pA ls (nx ls e)).l.kind==1) else (e,nx ls e,((pA ls e).l.kind==1)&&((pA ls (nx ls e)).l.kind==2))
abbrev aeg(a b c:PV):RV:=.tup [.one (.p a),.one (.p b),.one (.p c)]
theorem wI{aj:aA}{s:Nat}{a b c:PV}{l:Bool}:land aj [] s ((aeg a b c).eG l)=some (.tup [.one (.p a),.one (.p b),.one (.p c)],[]):=by cases l<;>rfl
theorem adI(g:bK F ls){e:Nat}(he:e<ls.length):aJ S 163 [.one (.p (ek F ls)),vi e] (aeg (.int .i64 ((jq ls e).1:Nat)) (.int .i64 ((jq ls e).2.1:Nat)) (.bool (jq ls e).2.2)):=by
 have hlen:=g.len;have bG:=fG ls;have pe:=Ay g he;have hm:=dK (e+1) (show 0<ls.length by omega);obtain⟨p,hp⟩:=aN (ls:=pieces ls) (k:=e) aa;obtain⟨q,hq⟩:=aN (ls:=pieces ls) (k:=(e+1)%ls.length) aa;have fQ:=iZ hp;have nG:=iZ hq;unfold jq;rw[jo hp,jo hq];refine bc c163 ?_;cases c1:(p.l.kind==2) with
 |true=>
  have e1:p.l.kind=2:=by simpa using c1
  rw[aE rfl];cases c2:(q.l.kind==1) with
  |true=>simp only[go_sem,i163,s156,cK pe gn,fQ,nG,Pc.ps,c1,c2];exact⟨aH,rfl⟩
  |false=>simp only[go_sem,i163,s156,cK pe gn,fQ,nG,Pc.ps,c1,c2];exact⟨aH,rfl⟩
 |false=>
  rw[aD ae];cases c2:(p.l.kind==1) with
  |true=>
   cases c3:(q.l.kind==2) with
   |true=>simp only[go_sem,i163,s156,cK pe gn,fQ,nG,Pc.ps,c1,c2,c3];exact⟨aH,rfl⟩
   |false=>simp only[go_sem,i163,s156,cK pe gn,fQ,nG,Pc.ps,c1,c2,c3];exact⟨aH,rfl⟩
  |false=>simp only[go_sem,i163,s156,cK pe gn,fQ,Pc.ps,c1,c2];exact⟨aH,rfl⟩
def zE(o:List Nat)(pr:Nat->Bool)(i:Nat):Bool:=match o[i]? with|some v=>pr v|none=>false
theorem alF(o:List Nat)(hl:o.length<=1000000){f:Nat}{x y z:PV}(hn:x.norm=x/\y.norm=y/\z.norm=z)(iu:S.shared f=false)(pr:Nat->Bool)(hd:∀v∈o,aJ S f [vi (v:Nat),.one (.p x),.one (.p y),.one (.p z)] (rb (pr v))):
  aJ S 213 [.one (.p (.sl (nP o))),.one (.p (.fn f [] [x,y,z]))] (ri (match (List.range o.length).find? (zE o pr) with|some k=>(k:Int)|none=> -1)):=by
 obtain⟨fP,gM,tY⟩:=hn;refine bc c213 ?_;simp only[go_sem,i213];refine cS (fun k ak aj=>ak 0=.one (.p (.sl (nP o)))/\ak 1=.one (.p (.fn f [] [x,y,z]))/\ak 7=vi o.length/\ak 8=vi k/\ ∀j,j<k->zE o pr j=false) 0 o.length (bn _) ?_ ?_
 .simp only[go_sem];exact⟨rfl,fun j hj=>absurd hj (mv j)⟩
 rintro k ak aj hk ⟨h0,h1,h7,h8,tZ⟩
 by_cases au:k<o.length
 .have aL:((k:Int)<(o.length:Int)):=aa;obtain⟨v,hv⟩:=aN au;have fg:=ia hv;have w1:=bQ (n:=k) aa;have pd:=hd v (aW hv);have pP:zE o pr k=pr v:=by simp[zE,hv]
  cases hb:pr v with
  |true=>rw[hb] at pd pP;have hf:=AO (p:=zE o pr) au tZ pP;simp only[go_sem,i213_l1,h0,h1,h7,h8,aL,fg,iu,fP,gM,tY,cq pd,hf]
  |false=>
   rw[hb] at pd pP;simp only[go_sem,i213_l1,h0,h1,h7,h8,au,aL,fg,iu,fP,gM,tY,cq pd,w1];intro j hj;rcases kB.1 hj with h|rfl
   .exact tZ j h
   exact pP
 have:k=o.length:=aa;subst this;have hf:=Gu (p:=zE o pr) tZ;simp only[go_sem,i213_l1,i213_r2,h7,h8,dI,hf]
theorem ah3(o:List Nat)(hl:o.length<=1000000){f:Nat}{x y z:PV}(hn:x.norm=x/\y.norm=y/\z.norm=z)(iu:S.shared f=false)(pr:Nat->Bool)(hd:∀v∈o,aJ S f [vi (v:Nat),.one (.p x),.one (.p y),.one (.p z)] (rb (pr v))):
  aJ S 190 [.one (.p (.sl (nP o))),.one (.p (.fn f [] [x,y,z]))] (rb (o.any pr)):=by
 have pi:=alF o hl hn iu pr hd;obtain⟨fP,gM,tY⟩:=hn;refine bc c190 ?_;cases ha:o.any pr with
 |true=>
  obtain⟨v,hv,hp⟩:=IK.1 ha;obtain⟨k,hk⟩:=gH hv;have dN:=(aY.1 hk).1;cases hf:(List.range o.length).find? (zE o pr) with
  |none=>have:=IM.1 hf k (fJ.2 dN);simp[zE,hk,hp] at this
  |some j=>rw[hf] at pi;have j6:(0:Int)<=(j:Int):=aa;simp only[go_sem,i190,s213,dJ pi,j6]
 |false=>
  cases hf:(List.range o.length).find? (zE o pr) with
  |some j=>
   have h1:=Px hf;unfold zE at h1;cases ho:o[j]? with
   |none=>rw[ho] at h1;cases h1
   |some v=>rw[ho] at h1;have:=Fz.1 ha v (aW ho);exact absurd h1 this
  |none=>rw[hf] at pi;have j6:¬(0:Int)<= -1:=ae;simp only[go_sem,i190,s213,dJ pi,j6]
def sP(f:Fc)(e:Nat):Nat:=f.bj.countP fun d=>d/2==e
def tH(f:Fc)(pl:Nat)(edges:List Nat):Bool:=(f.bj.length==edges.length)&&((f.places.length==pl)&&edges.all fun e=>sP f e==1)
theorem XT(g:bK F ls){j:Nat}{f:Fc}(hf:(de F ls)[j]?=some f)(edges:List Nat)(he:edges.length<=1000)(pl:Nat):
  aJ S 191 [vi j,.one (.p (.box [ek F ls])),.one (.p (.box [.sl (nP edges)])),.one (.p (.box [.int .i64 pl]))] (rb (tH f pl edges)):=by
 have hlen:=g.len;have fO:(aC ls).length<=ls.length:=qQ ls ls.length;have Kk:=M7 g.ok (aW hf);have eV:nD ls<=1600:=by unfold nD;omega
 have Er:=M8 hf;have mI:=(aY.1 hf).1;refine bc c191 ?_;unfold tH;cases c1:(f.bj.length==edges.length) with
 |false=>
  have n1:(((f.bj.length:Nat):Int)!=((edges.length:Nat):Int))=true:=by
   have:¬f.bj.length=edges.length:=by simpa using c1
   simp[bne];omega
  simp only[go_sem,i191,Er,Fc.ps,n1]
 |true=>
 have n1:(((f.bj.length:Nat):Int)!=((edges.length:Nat):Int))=false:=by
  have:f.bj.length=edges.length:=by simpa using c1
  simp[bne,this]
 cases c2:(f.places.length==pl) with
 |false=>
  have n2:(((f.places.length:Nat):Int)!=((pl:Nat):Int))=true:=by
   have:¬f.places.length=pl:=by simpa using c2
   simp[bne];omega
  simp only[go_sem,i191,Er,Fc.ps,n1,n2]
 |true=>
 have n2:(((f.places.length:Nat):Int)!=((pl:Nat):Int))=false:=by
  have:f.places.length=pl:=by simpa using c2
  simp[bne,this]
 simp only[go_sem,i191,Er,Fc.ps,n1,n2];refine cS (fun k ak aj=>ak 6=.one (.ba 12224064448 1 0)/\aj 12224064448=(1,some (.var (f.ps.map .p)))/\ak 32=.one (.p (.sl (nP edges)))/\ak 33=vi edges.length/\ak 34=vi k/\ ∀i e,i<k->edges[i]?=some e->(sP f e==1)=true) 0 edges.length (bn _) ?_ ?_
 .simp only[go_sem,Fc.ps];first|exact⟨rfl,fun i e hi=>absurd hi (mv i)⟩|exact⟨rfl,rfl,fun i e hi=>absurd hi (mv i)⟩|exact fun i e hi=>absurd hi (mv i)
 rintro k ak aj hk ⟨h6,b6,h32,JX,h34,aq⟩
 simp only[Fc.ps,eE,kZ] at b6;by_cases au:k<edges.length
 .have aL:((k:Int)<(edges.length:Int)):=aa;obtain⟨e,hek⟩:=aN au;have Ks:=ia hek;have w1:=bQ (n:=k) aa;simp only[go_sem,i191_l4,h6,b6,h32,JX,h34,aL,Ks];refine cS (fun i cP bd=>cP 6=.one (.ba 12224064448 1 0)/\bd 12224064448=(1,some (.var (f.ps.map .p)))/\cP 32=.one (.p (.sl (nP edges)))/\cP 33=vi edges.length/\cP 34=vi k/\cP 8=vi e/\cP 9=vi ((f.bj.take i).countP fun d=>d/2==e:Nat)/\cP 39=.one (.p (.sl (nP f.bj)))/\cP 40=vi f.bj.length/\cP 41=vi i) 0 f.bj.length (bn _) ?_ ?_
  .simp only[go_sem,h6,b6,h32,JX,h34,Fc.ps];first|exact⟨rfl,rfl⟩|exact rfl|exact⟨rfl,rfl,rfl⟩
  rintro i cP bd hi ⟨p6,d6,p32,p33,Di,p8,p9,p39,p40,p41⟩
  by_cases sX:i<f.bj.length
  .have aaZ:((i:Int)<(f.bj.length:Int)):=aa;obtain⟨d,hd⟩:=aN sX;have j5:=ia hd;have w2:=bQ (n:=i) aa;have wq:=wrap_small (n:=d/2) (by have:=S5 (aW hf) d (aW hd);omega);have dM:(f.bj.take i).countP (fun d=>d/2==e)<=i:=lf Ps (by rw[iF];omega);have w3:=bQ (n:=(f.bj.take i).countP fun d=>d/2==e) aa;have qX:(f.bj.take (i+1)).countP (fun d=>d/2==e)=(f.bj.take i).countP (fun d=>d/2==e)+if (d/2==e)=true then 1 else 0:=by
    rw[iw,hd,vv];simp[uy,List.countP_nil]
   cases qB:(d/2==e) with
   |true=>
    have n3:(((d/2:Nat):Int)==(e:Int))=true:=by
     have:d/2=e:=by simpa using qB
     simp;omega
    rw[qB,aE rfl] at qX;simp only[go_sem,i191_l1,p6,p32,p33,Di,p8,p9,p39,p40,p41,sX,aaZ,j5,dF,eL,wq,n3,w2,w3,qX];first|exact d6|exact⟨d6,rfl⟩
   |false=>
    have n3:(((d/2:Nat):Int)==(e:Int))=false:=by
     have:¬d/2=e:=by simpa using qB
     simp;omega
    rw[qB,aD ae,vD] at qX;simp only[go_sem,i191_l1,p6,p32,p33,Di,p8,p9,p39,p40,p41,sX,aaZ,j5,dF,eL,wq,n3,w2,qX];first|exact d6|exact⟨d6,rfl⟩
  have:i=f.bj.length:=aa;subst this;rw[jf] at p9;have hdc:(f.bj.countP fun d=>d/2==e)=sP f e:=rfl;rw[hdc] at p9;cases hq:(sP f e==1) with
  |true=>
   have n4:(((sP f e:Nat):Int)!=1)=false:=by
    have:sP f e=1:=by simpa using hq
    simp[bne,this]
   simp only[go_sem,i191_l1,i191_r2,i191_r3,p6,p32,p33,Di,p9,p40,p41,dI,n4,w1,au];refine⟨d6,fun i2 e2 hi2 v7=>?_⟩;rcases kB.1 hi2 with h|rfl
   .exact aq i2 e2 h v7
   rw[hek] at v7;cases v7;exact hq
  |false=>
   have n4:(((sP f e:Nat):Int)!=1)=true:=by
    have:¬sP f e=1:=by simpa using hq
    simp[bne];omega
   have dx:(edges.all fun e=>sP f e==1)=false:=Wf.2 ⟨e,aW hek,by rw[hq];decide⟩;simp only[go_sem,i191_l1,i191_r2,p9,p40,p41,dI,n4,dx]
 have:k=edges.length:=aa;subst this;have dx:(edges.all fun e=>sP f e==1)=true:=ij.2 fun e he=>by obtain⟨i,hi⟩:=gH he;exact aq i e (aY.1 hi).1 hi
 simp only[go_sem,i191_l4,i191_r5,JX,h34,dI,dx]
def lW(F:Nat)(ls:List Let)(pl:Nat)(edges:List Nat)(e0:Nat):Bool:=tH (jJ F ls (2*e0)) pl edges||tH (jJ F ls (2*e0+1)) pl edges
theorem Qx(g:bK F ls)(edges:List Nat)(di:edges.length<=1000){e0:Nat}(h0:edges[0]?=some e0)(he0:e0<ls.length)(pl:Nat):
  aJ S 164 [.one (.p (ek F ls)),vi pl,.one (.p (.sl (nP edges)))] (rb (lW F ls pl edges e0)):=by
 have hlen:=g.len;obtain⟨j0,a1,a2,a3⟩:=S4 g (d:=2*e0) aa;obtain⟨j1,b1,b2,b3⟩:=S4 g (d:=2*e0+1) aa;have g0:(de F ls).getD j0 Lj=jJ F ls (2*e0):=by rw[cU,a2];rfl
 have g1:(de F ls).getD j1 Lj=jJ F ls (2*e0+1):=by rw[cU,b2];rfl
 have pc:=ah3 [j0,j1] af (f:=191) (x:=.box [ek F ls]) (y:=.box [.sl (nP edges)]) (z:=.box [.int .i64 pl]) ⟨rfl,rfl,rfl⟩ s191 (fun j=>tH ((de F ls).getD j Lj) pl edges) (fun v hv=>by
  simp only[dh,lT,or_false] at hv;rcases hv with rfl|rfl
  .rw[g0];exact XT g a2 edges di pl
  rw[g1];exact XT g b2 edges di pl)
 have akk:([j0,j1].any fun j=>tH ((de F ls).getD j Lj) pl edges)=lW F ls pl edges e0:=by simp only[List.any_cons,List.any_nil,Bool.or_false,g0,g1];rfl
 rw[akk] at pc;simp only[eE,kZ] at pc;have ja:=ia a1;have jb:=ia b1;have he:=ia h0;have m2:=qL (a:=e0) aa;have m3:=bQ (n:=2*e0) aa;have CB:=Ut F ls;have l1:2*e0<(mS F ls).length:=aa;have l2:2*e0+1<(mS F ls).length:=aa;have iI:0<edges.length:=(aY.1 h0).1;have hpos':(0:Int)<(edges.length:Int):=aa;refine bc c164 ?_;simp only[go_sem,i164,he,m2,m3,ja,jb,s190,kJ pc];exact aH
def gb(ls:List Let)(l:List Pc)(e:Nat):List Pc:=(l.set e (l.getD (nx ls e) ⟨iM,false⟩)).set (nx ls e) (l.getD e ⟨iM,false⟩)
theorem Fm(ls:List Let)(l:List Pc)(e:Nat):(gb ls l e).length=l.length:=by simp[gb]
def ie(ls:List Let)(l:List Pc)(es:List Nat):List Pc:=es.foldl (gb ls) l
theorem Dw(ls:List Let):∀(es:List Nat) (l:List Pc),(ie ls l es).length=l.length:=by
 intro es
 induction es with
 |nil=>intro l;rfl
 |cons e es ih=>intro l;show(ie ls (gb ls l e) es).length=_;rw[ih,Fm]
theorem aq1(g:bK F ls)(es:List Nat)(mf:∀e∈es,e<ls.length)(di:es.length<=1000):
  aJ S 171 [.one (.p (ek F ls)),.one (.p (.sl (nP es)))] (.one (aO kQ 7 (dB (ie ls (pieces ls) es)))):=by
 have hlen:=g.len;have bG:=fG ls;have aM:pieces ls≠[]:=kY.1 (by have:=kY.2 g.ne;omega);have pcl:=XE aM aa;have lo:S.lone 10944064256=false:=ah;refine bc c171 ?_;simp only[go_sem,i171,s161];refine pI pcl lo (.inl rfl) fun cc nh gc r4=>?_;rcases gc with ⟨e,_⟩|⟨_,gg,e,hC⟩
 .exact absurd (by simpa using e) aM
 cases e;rw[cG,bG];simp only[go_sem];refine cS (fun k ak aj=>ak 0=.one (.p (ek F ls))/\ak 5=.one (.hsl 10944064256 gg 7 0 ls.length)/\ak 15=.one (.p (.sl (nP es)))/\ak 16=vi es.length/\ak 17=vi k/\aj 10944064256=(gg,some (.arr kQ 7 (dB (ie ls (pieces ls) (es.take k)))))) 0 es.length (bn _) ?_ ?_
 .simp only[go_sem,hC];first|exact⟨rfl,rfl⟩|rfl|exact⟨rfl,rfl,rfl⟩
 rintro k ak aj hk ⟨h0,h5,oi,xI,tP,bO⟩
 by_cases au:k<es.length
 .have aL:((k:Int)<(es.length:Int)):=aa;obtain⟨e,he⟩:=aN au;have Ks:=ia he;have Kp:=mf e (aW he);have pe:=Ay g Kp;have w1:=bQ (n:=k) aa;have fS:ie ls (pieces ls) (es.take (k+1))=gb ls (ie ls (pieces ls) (es.take k)) e:=by
   unfold ie;rw[iw,he,Mb];rfl
  have u9:(ie ls (pieces ls) (es.take k)).length=ls.length:=by rw[Dw,bG]
  have hm:=dK (e+1) (show 0<ls.length by omega);generalize ie ls (pieces ls) (es.take k)=m at bO fS u9;obtain⟨p,hp⟩:=aN (ls:=m) (k:=e) aa;obtain⟨q,hq⟩:=aN (ls:=m) (k:=(e+1)%ls.length) aa;have fg:=iZ hp;have ze:=iZ hq;have l1:e<m.length:=aa;have l2:(e+1)%ls.length<m.length:=aa;have s1:=Fe m e q;have xS:(m.set e q).set ((e+1)%ls.length) p=gb ls m e:=by unfold gb nx;rw[cU,hq,cU,hp];rfl
  have s2:=Fe (m.set e q) ((e+1)%ls.length) p;rw[xS,<- fS] at s2;simp only[Pc.ps] at s1 s2;obtain⟨p',gU⟩:=aN (ls:=m.set e q) (k:=e) (by rw[rD];omega);obtain⟨q',EC⟩:=aN (ls:=m.set e q) (k:=(e+1)%ls.length) (by rw[rD];omega);have T2:=iZ EC;simp only[go_sem,i171_l1,h0,h5,oi,xI,tP,bO,au,aL,Ks,s156,cK pe gn,Kp,hm,fg,ze,T2,s1,s2,Pc.ps,w1];exact aH
 have:k=es.length:=aa;subst this;rw[jf] at bO;simp only[go_sem,i171_l1,i171_r2,h5,xI,tP,dI];have h1:(ie ls (pieces ls) es).length=ls.length:=by rw[Dw,bG]
 refine xH (.inr ⟨?_,gg,by rw[cG,h1],bO⟩);intro h2;have:=congrArg List.length h2;rw[cG,h1,eP] at this;have h3:=kY.2 g.ne;omega
def jd(l:List Pc)(i:Nat)(r:Int):List Pc:=l.set i {(l.getD i ⟨iM,false⟩) with l:={(l.getD i ⟨iM,false⟩).l with aw:=r}}
theorem Dt(l:List Pc)(i:Nat)(r:Int):(jd l i r).length=l.length:=by simp[jd]
def yK(F:Nat)(ls:List Let)(av bv:Nat):Option (List Pc):=
 if (jq ls av).2.2&&((jq ls bv).2.2&&(!((jq ls av).2.1==(jq ls bv).2.1)&&(((pA ls (jq ls av).2.1).l.id==(pA ls (jq ls bv).2.1).l.id)&&lW F ls 1 [av,bv] av)))
 then some (ie ls (jd (jd (pieces ls) (jq ls av).1 (pA ls (jq ls bv).1).l.aw) (jq ls bv).1 (pA ls (jq ls av).1).l.aw) [av,bv]) else none
theorem adY{e:Nat}(he:e<ls.length):(jq ls e).1<ls.length/\(jq ls e).2.1<ls.length:=by
 have hm:=dK (e+1) (show 0<ls.length by omega);unfold jq nx;split
 .exact⟨hm,he⟩
 exact⟨he,hm⟩
theorem ag8(g:bK F ls){av bv:Nat}(ha:av<ls.length)(hb:bv<ls.length){k c:Int}{l o:Bool}{sg:Int}:
  aJ S 132 [.one (.p (ek F ls)),ft k av bv c l o sg] (kR (yK F ls av bv)):=by
 have hlen:=g.len;have bG:=fG ls;have pa:=adI g ha;have pb:=adI g hb;have pc:=Qx g [av,bv] af (e0:=av) rfl ha 1;obtain⟨p1,v1⟩:=adY ha;obtain⟨q1,w1⟩:=adY hb;unfold yK;generalize jq ls av=x at*;generalize jq ls bv=y at*;obtain⟨pi,Iy,one⟩:=x;obtain⟨qi,wi,two⟩:=y;simp only at pa pb p1 v1 q1 w1 ⊢;simp only[eE,kZ] at pc;have c1:((1:Nat):Int)=1:=rfl;rw[c1] at pc;obtain⟨P,hP⟩:=aN (ls:=pieces ls) (k:=pi) aa;obtain⟨Q,hQ⟩:=aN (ls:=pieces ls) (k:=qi) aa;obtain⟨V,hV⟩:=aN (ls:=pieces ls) (k:=Iy) aa
 obtain⟨W,hW⟩:=aN (ls:=pieces ls) (k:=wi) aa;rw[jo hP,jo hQ,jo hV,jo hW];have hPp:=iZ hP;have hQp:=iZ hQ;have hVp:=iZ hV;have hWp:=iZ hW;have aM:pieces ls≠[]:=kY.1 aa;have pcl:=XE aM aa;have lo:S.lone 8448384256=false:=ah;refine bc c132 ?_;cases one with
 |false=>simp only[go_sem,i132,s163,cK pa wI,cK pb wI];exact⟨aH,rfl⟩
 |true=>
 cases two with
 |false=>simp only[go_sem,i132,s163,cK pa wI,cK pb wI];exact⟨aH,rfl⟩
 |true=>
 cases c2:(Iy==wi) with
 |true=>
  have n2:((Iy:Int)==(wi:Int))=true:=by simp[show Iy=wi by simpa using c2]
  simp only[go_sem,i132,s163,cK pa wI,cK pb wI,n2];exact⟨aH,rfl⟩
 |false=>
 have n2:((Iy:Int)==(wi:Int))=false:=by
  have:¬Iy=wi:=by simpa using c2
  simp;omega
 cases c3:(V.l.id==W.l.id) with
 |false=>
  have n3:(V.l.id !=W.l.id)=true:=by simp[bne,c3]
  simp only[go_sem,i132,s163,cK pa wI,cK pb wI,n2,hVp,hWp,Pc.ps,n3];exact⟨aH,rfl⟩
 |true=>
 have n3:(V.l.id !=W.l.id)=false:=by simp[bne,c3]
 cases c4:lW F ls 1 [av,bv] av with
 |false=>rw[c4] at pc;simp only[go_sem,i132,s163,cK pa wI,cK pb wI,n2,hVp,hWp,Pc.ps,n3,s164,kJ pc];exact⟨aH,rfl⟩
 |true=>
 rw[c4] at pc;simp only[go_sem,i132,s163,cK pa wI,cK pb wI,n2,hVp,hWp,hPp,hQp,Pc.ps,n3,s164,kJ pc,s161];refine⟨aH,aH,?_⟩;refine pI pcl lo (.inl rfl) fun cc nh gc r4=>?_;have b3:=r4 8448000000 ae;simp only[go_sem] at b3;rcases gc with ⟨e,_⟩|⟨_,gg,e,hC⟩
 .exact absurd (by simpa using e) aM
 cases e;rw[cG,bG];have s1:=Fe (pieces ls) pi {P with l:={P.l with aw:=Q.l.aw}};have jk:(pieces ls).set pi {P with l:={P.l with aw:=Q.l.aw}}=jd (pieces ls) pi Q.l.aw:=by unfold jd;rw[cU,hP];rfl
 rw[jk] at s1;have u7:(jd (pieces ls) pi Q.l.aw).length=ls.length:=by rw[Dt,bG]
 obtain⟨Q',hQ'⟩:=aN (ls:=jd (pieces ls) pi Q.l.aw) (k:=qi) aa;have akh:=iZ hQ';have s2:=Fe (jd (pieces ls) pi Q.l.aw) qi {Q' with l:={Q'.l with aw:=P.l.aw}};have eW:(jd (pieces ls) pi Q.l.aw).set qi {Q' with l:={Q'.l with aw:=P.l.aw}}=jd (jd (pieces ls) pi Q.l.aw) qi P.l.aw:=by rw[jd.eq_def (jd (pieces ls) pi Q.l.aw),cU,hQ'];rfl
 rw[eW] at s2;simp only[Pc.ps] at s1 s2;have sZ:(jd (jd (pieces ls) pi Q.l.aw) qi P.l.aw).length=ls.length:=by rw[Dt,u7]
 simp only[go_sem,b3,hC,hPp,akh,Pc.ps,s1,s2,p1,q1];generalize jd (jd (pieces ls) pi Q.l.aw) qi P.l.aw=M at sZ ⊢;obtain⟨es,Ns⟩:∃es,es=[av,bv]:=⟨_,rfl⟩;have Kq:es.length=2:=by rw[Ns];rfl
 have mf:∀e∈es,e<ls.length:=fun e he=>by rw[Ns] at he;simp only[dh,lT,or_false] at he;rcases he with rfl|rfl<;>assumption
 refine cS (fun k ak aj=>ak 0=.one (.p (ek F ls))/\ak 14=.one (.hsl 8448384256 gg 7 0 ls.length)/\(∃ge,ak 116=.one (.hsl 8448512256 ge 1 0 2)/\aj 8448512256=(ge,some (.arr 3 1 (nP es))))/\ak 117=vi ((2:Nat):Int)/\ak 118=vi k/\aj 8448384256=(gg,some (.arr kQ 7 (dB (ie ls M (es.take k)))))) 0 2 (bn _) ?_ ?_
 .simp only[go_sem];exact⟨⟨_,rfl,by rw[Ns];rfl⟩,rfl,rfl⟩
 rintro k ak aj hk ⟨h0,kL,⟨ge,Ck,bE⟩,aax,aay,bO⟩
 by_cases au:k<2
 .have aL:((k:Int)<((2:Nat):Int)):=aa;have Nx:k<es.length:=aa;obtain⟨e,he⟩:=aN Nx;have Ks:=ia he;have Kp:=mf e (aW he);have pe:=Ay g Kp;have w1:=bQ (n:=k) aa;have fS:ie ls M (es.take (k+1))=gb ls (ie ls M (es.take k)) e:=by
   unfold ie;rw[iw,he,Mb];rfl
  have u9:(ie ls M (es.take k)).length=ls.length:=by rw[Dw,sZ]
  have hm:=dK (e+1) (show 0<ls.length by omega);generalize ie ls M (es.take k)=m at bO fS u9;obtain⟨p,hp⟩:=aN (ls:=m) (k:=e) aa;obtain⟨q,hq⟩:=aN (ls:=m) (k:=(e+1)%ls.length) aa;have fg:=iZ hp;have ze:=iZ hq;have l1:e<m.length:=aa;have l2:(e+1)%ls.length<m.length:=aa;have s1:=Fe m e q;have xS:(m.set e q).set ((e+1)%ls.length) p=gb ls m e:=by unfold gb nx;rw[cU,hq,cU,hp];rfl
  have s2:=Fe (m.set e q) ((e+1)%ls.length) p;rw[xS,<- fS] at s2;simp only[Pc.ps] at s1 s2;obtain⟨q',EC⟩:=aN (ls:=m.set e q) (k:=(e+1)%ls.length) (by rw[rD];omega);have T2:=iZ EC;simp only[go_sem,i132_l1,h0,kL,Ck,aax,aay,bE,bO,au,aL,Ks,s156,cK pe gn,Kp,hm,fg,ze,T2,s1,s2,Pc.ps,w1];first|exact⟨aH,ge,rfl,rfl⟩|exact⟨aH,⟨ge,rfl,rfl⟩⟩|exact⟨aH,⟨ge,rfl,rfl⟩,rfl⟩|trace_state
 have:k=2:=aa;subst this;have e1:es.take 2=[av,bv]:=by rw[Ns];rfl
 rw[e1] at bO;have j6:¬(((2:Nat):Int)<((2:Nat):Int)):=aa;simp only[go_sem,i132_l1,i132_r2,kL,aax,aay,j6];have h1:(ie ls M [av,bv]).length=ls.length:=by rw[Dw,sZ]
 refine vM (.inr ⟨?_,gg,by rw[kE,cG,h1],bO⟩);intro h2;have:=congrArg List.length h2;rw[kE,cG,h1,eP] at this;omega
def OQ(l:List Pc)(i:Nat)(g r:Int):List Pc:=l.set i {(l.getD i ⟨iM,false⟩) with l:={(l.getD i ⟨iM,false⟩).l with gate:=g,aw:=r}}
def trR(F:Nat)(ls:List Let)(av:Nat):Option (List Pc):=
 if ((pA ls av).l.kind==1)&&(decide ((pA ls av).l.gate<(F:Int))&&((pA ls av).l.aw==(cg ls (pA ls av).l.gate.toNat:Int)))
 then some (OQ (iO (pieces ls) ((pA ls av).l.gate+1) 0 1) av ((pA ls av).l.gate+1) 1) else none
def tlR(ls:List Let)(av:Nat):Option (List Pc):=
 if ((pA ls av).l.kind==1)&&(decide (0<(pA ls av).l.gate)&&((pA ls av).l.aw==1))
 then some (OQ (iO (pieces ls) (pA ls av).l.gate 1 (-1)) av ((pA ls av).l.gate-1) ((cg ls ((pA ls av).l.gate-1).toNat+1:Nat):Int)) else none
end
end Go.Abs
