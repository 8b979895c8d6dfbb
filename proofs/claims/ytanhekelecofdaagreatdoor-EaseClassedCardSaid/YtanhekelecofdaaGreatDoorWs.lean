/- A part. -/
import Derived.Test.YtanhekelecofdaaGreatDoorWn
set_option linter.all false
set_option maxRecDepth 100000
set_option maxHeartbeats 16000000
namespace Go.Abs
section
variable{F:Nat}{ls:ai}
def OV(l:c_)(drop:Nat->Pc->Bool)(i:Nat):Option Pc:=match l[i]? with|some p=>if drop i p then none else some p|none=>none
def uR(l:c_)(drop:Nat->Pc->Bool)(k:Nat):c_:=(List.range k).filterMap (OV l drop)
def qQ(l:c_)(drop:Nat->Pc->Bool):c_:=uR l drop l.length
def Ci{l:c_}{drop:Nat->Pc->Bool}{k:Nat}{p:Pc}(h:l[k]?=some p)(hd:drop k p=true):uR l drop (k+1)=uR l drop k:=by simp[uR,yO,List.filterMap_append,OV,h,hd]
def KN{l:c_}{drop:Nat->Pc->Bool}{k:Nat}{p:Pc}(h:l[k]?=some p)(hd:drop k p=false):uR l drop (k+1)=uR l drop k++[p]:=by simp[uR,yO,List.filterMap_append,OV,h,hd]
def HU(l:c_)(drop:Nat->Pc->Bool)(k:Nat):(uR l drop k).length<=k:=by have:=List.length_filterMap_le (OV l drop) (List.range k);rwa[EJ] at this
def Ds(g:cE F ls){e:Nat}(he:e<ls.length):aO S 134 [.one (.p (fA F ls)),vi e] (Bl (.int .i64 e) (.int .i64 ((e+1)%ls.length:Nat))):=by have hlen:=g.len;have bd:=bk ls;have w1:=df (n:=e) aa;have e1:=xv (e+1) ls.length;have hz:¬((ls.length:Int)=0):=aa;refine bY c134 ?_;simp only[go_sem,i134,w1,e1,bd,hz];exact⟨aL,rfl⟩
def aiN(l:c_)(hl:l.length<=1000000){f:Nat}{x y:PV}(hn:x.norm=x/\y.norm=y)(jw:S.shared f=false)(drop:Nat->Pc->Bool)(hd:∀(k:Nat) (p:Pc),l[k]?=some p->aO S f [vi k,.agg (p.ps.map .p),.one (.p x),.one (.p y)] (rb (drop k p))):
  aO S 135 [.one (.p (.sl (eI l))),.one (.p (.fn f [] [x,y]))] (.one (bh nu 7 (eI (qQ l drop)))):=by
 obtain⟨fE,hJ⟩:=hn;refine bY c135 ?_;simp only[go_sem,i135];refine dG (fun k ak aj=>ak 1=.one (.p (.fn f [] [x,y]))/\ak 8=.one (.p (.sl (eI l)))/\ak 9=vi l.length/\ak 10=vi k/\ ∃c,ak 5=.one c/\grown 8640384192 nu 7 (eI (uR l drop k)) (.one c) aj) 0 l.length (cA _) ?_ ?_
 .simp only[go_sem];first|exact⟨rfl,_,rfl,.inl ⟨rfl,rfl⟩⟩|exact⟨_,rfl,.inl ⟨rfl,rfl⟩⟩|exact⟨rfl,rfl,_,rfl,.inl ⟨rfl,rfl⟩⟩
 rintro k ak aj hk ⟨h1,h8,h9,ek,c,h5,gc⟩
 by_cases aB:k<l.length
 .have aP:((k:Int)<(l.length:Int)):=aa;obtain⟨p,hp⟩:=aN aB;have fG:=j7 hp;have w1:=df (n:=k) aa;have pd:=hd k p hp;have eT:=HU l drop k;simp only[Pc.ps,eD,kL] at pd;cases hb:drop k p with
  |true=>rw[hb] at pd;have hs:=Ci hp hb;simp only[go_sem,i135_l1,h1,h5,h8,h9,ek,aB,aP,fG,Pc.ps,fE,hJ,jw,aJ pd,w1];refine⟨c,rfl,?_⟩;rw[hs];exact gc.of_eq (by simp only[aU,Nat.reduceEqDiff,if_false])
  |false=>rw[hb] at pd;have hs:=KN hp hb;simp only[go_sem,i135_l1,h1,h5,h8,h9,ek,aP,fG,Pc.ps,fE,hJ,jw,aJ pd];refine xU (site:=8640384192) (id:=8640384192) (bytes:=56) (xs:=[p.ps]) (rd:=[8640384128]) (gc.of_eq (by simp only[aU,Nat.reduceEqDiff,if_false])) (by simp[gb,aU,Pc.ps]) (.inl rfl) (by simp only[cU,dL,fv];omega) fun c' cZ hc jL=>?_;simp only[go_sem,h1,h8,h9,ek,aB,w1];refine⟨c',rfl,?_⟩;rw[hs,agL];exact hc
 have:k=l.length:=aa;subst this;simp only[go_sem,i135_l1,i135_r2,h5,h9,ek,fh];exact AT gc
def avB(l:c_)(hl:l.length<=1000000){f:Nat}{x:PV}(hn:x.norm=x)(jw:S.shared f=false)(drop:Nat->Pc->Bool)(hd:∀(k:Nat) (p:Pc),l[k]?=some p->aO S f [vi k,.agg (p.ps.map .p),.one (.p x)] (rb (drop k p))):
  aO S 135 [.one (.p (.sl (eI l))),.one (.p (.fn f [] [x]))] (.one (bh nu 7 (eI (qQ l drop)))):=by
 have fE:=hn;refine bY c135 ?_;simp only[go_sem,i135];refine dG (fun k ak aj=>ak 1=.one (.p (.fn f [] [x]))/\ak 8=.one (.p (.sl (eI l)))/\ak 9=vi l.length/\ak 10=vi k/\ ∃c,ak 5=.one c/\grown 8640384192 nu 7 (eI (uR l drop k)) (.one c) aj) 0 l.length (cA _) ?_ ?_
 .simp only[go_sem];first|exact⟨rfl,_,rfl,.inl ⟨rfl,rfl⟩⟩|exact⟨_,rfl,.inl ⟨rfl,rfl⟩⟩|exact⟨rfl,rfl,_,rfl,.inl ⟨rfl,rfl⟩⟩
 rintro k ak aj hk ⟨h1,h8,h9,ek,c,h5,gc⟩
 by_cases aB:k<l.length
 .have aP:((k:Int)<(l.length:Int)):=aa;obtain⟨p,hp⟩:=aN aB;have fG:=j7 hp;have w1:=df (n:=k) aa;have pd:=hd k p hp;have eT:=HU l drop k;simp only[Pc.ps,eD,kL] at pd;cases hb:drop k p with
  |true=>rw[hb] at pd;have hs:=Ci hp hb;simp only[go_sem,i135_l1,h1,h5,h8,h9,ek,aB,aP,fG,Pc.ps,fE,jw,aJ pd,w1];refine⟨c,rfl,?_⟩;rw[hs];exact gc.of_eq (by simp only[aU,Nat.reduceEqDiff,if_false])
  |false=>rw[hb] at pd;have hs:=KN hp hb;simp only[go_sem,i135_l1,h1,h5,h8,h9,ek,aP,fG,Pc.ps,fE,jw,aJ pd];refine xU (site:=8640384192) (id:=8640384192) (bytes:=56) (xs:=[p.ps]) (rd:=[8640384128]) (gc.of_eq (by simp only[aU,Nat.reduceEqDiff,if_false])) (by simp[gb,aU,Pc.ps]) (.inl rfl) (by simp only[cU,dL,fv];omega) fun c' cZ hc jL=>?_;simp only[go_sem,h1,h8,h9,ek,aB,w1];refine⟨c',rfl,?_⟩;rw[hs,agL];exact hc
 have:k=l.length:=aa;subst this;simp only[go_sem,i135_l1,i135_r2,h5,h9,ek,fh];exact AT gc
def acb(k i j:Nat)(p:Pc):aO S 136 [vi k,.agg (p.ps.map .p),.one (.p (.box [.int .i64 i])),.one (.p (.box [.int .i64 j]))] (rb (decide (k=i)||decide (k=j))):=by
 refine bY c136 ?_;by_cases h1:k=i
 .have e1:((k:Int)==(i:Int))=true:=by simp[h1]
  rw[show(decide (k=i)||decide (k=j))=true by simp[h1]];simp only[go_sem,i136,Pc.ps,e1]
 have e1:((k:Int)==(i:Int))=false:=by simp;omega
 by_cases h2:k=j
 .have e2:((k:Int)==(j:Int))=true:=by simp[h2]
  rw[show(decide (k=i)||decide (k=j))=true by simp[h2]];simp only[go_sem,i136,Pc.ps,e1,e2]
 have e2:((k:Int)==(j:Int))=false:=by simp;omega
 rw[show(decide (k=i)||decide (k=j))=false by simp[h1,h2]];simp only[go_sem,i136,Pc.ps,e1,e2]
def uh(a b:Int):Int:=if a<b then b else a
def yB(a b:Int):Int:=if b<a then b else a
def we(ls:ai)(av:Nat):Option c_:=
 let p:=(pieces ls).getD av ⟨lN,false⟩
 let q:=(pieces ls).getD ((av+1)%ls.length) ⟨lN,false⟩
 if (p.l.kind==1)&&((q.l.kind==1)&&((p.l.gate==q.l.gate)&&((uh p.l.aA q.l.aA-yB p.l.aA q.l.aA==1)&& !(decide (aq Let.aF ls<=2)&&decide (0<aq Let.aD ls/2)))))
 then some (ke (qQ (pieces ls) fun k _=>decide (k=av)||decide (k=(av+1)%ls.length)) p.l.gate (uh p.l.aA q.l.aA) (-2)) else none
def Yz{l:c_}{drop:Nat->Pc->Bool}{p:Pc}(h:p∈qQ l drop):p∈l:=by
 obtain⟨i,_,hi⟩:=List.mem_filterMap.1 h;unfold OV at hi;cases hl:l[i]? with
 |none=>rw[hl] at hi;cases hi
 |some q=>
  rw[hl] at hi;simp only at hi;split at hi
  .cases hi
  cases hi;exact aZ hl
def ajW(g:cE F ls){av:Nat}(ha:av<ls.length){k b c:Int}{l o:Bool}{sg:Int}:
  aO S 107 [.one (.p (fA F ls)),ql k av b c l o sg] (kR (we ls av)):=by
 have hlen:=g.len;have bd:=bk ls;have pe:=Ds g ha;have hm:=dk (av+1) (show 0<ls.length by omega);have r8:=asm g;obtain⟨p,hp⟩:=aN (ls:=pieces ls) (k:=av) aa;obtain⟨q,hq⟩:=aN (ls:=pieces ls) (k:=(av+1)%ls.length) aa;obtain⟨p1,p2⟩:=r8 p (aZ hp);obtain⟨q1,q2⟩:=r8 q (aZ hq);have iD:=j7 hp;have nQ:=j7 hq;have jw:S.shared 137=true:=ah;have lo:S.lone 6848320320=false:=ah;have fg:=g.cr;unfold we;simp only[dK,hp,hq,ow];refine bY c107 ?_;cases c1:(p.l.kind==1) with
 |false=>
  have n1:(p.l.kind !=1)=true:=by simp[bne,c1]
  simp only[go_sem,i107,s134,aY pe bK,iD,nQ,Pc.ps,n1];exact⟨aL,rfl⟩
 |true=>
 have n1:(p.l.kind !=1)=false:=by simp[bne,c1]
 cases c2:(q.l.kind==1) with
 |false=>
  have n2:(q.l.kind !=1)=true:=by simp[bne,c2]
  simp only[go_sem,i107,s134,aY pe bK,iD,nQ,Pc.ps,n1,n2];exact⟨aL,rfl⟩
 |true=>
 have n2:(q.l.kind !=1)=false:=by simp[bne,c2]
 cases c3:(p.l.gate==q.l.gate) with
 |false=>
  have n3:(p.l.gate !=q.l.gate)=true:=by simp[bne,c3]
  simp only[go_sem,i107,s134,aY pe bK,iD,nQ,Pc.ps,n1,n2,n3];exact⟨aL,rfl⟩
 |true=>
 have n3:(p.l.gate !=q.l.gate)=false:=by simp[bne,c3]
 have tu:(if q.l.aA>p.l.aA then q.l.aA else p.l.aA)=uh p.l.aA q.l.aA:=rfl;have nO:(if q.l.aA<p.l.aA then q.l.aA else p.l.aA)=yB p.l.aA q.l.aA:=rfl;have hmxb: -1000000<=uh p.l.aA q.l.aA/\uh p.l.aA q.l.aA<=1000000:=by unfold uh;split<;>omega
 have hmnb: -1000000<=yB p.l.aA q.l.aA/\yB p.l.aA q.l.aA<=1000000:=by unfold yB;split<;>omega
 have wd:=xx (x:=uh p.l.aA q.l.aA-yB p.l.aA q.l.aA) aa aa;generalize uh p.l.aA q.l.aA=mx at*;generalize yB p.l.aA q.l.aA=mn at*;cases c4:(mx-mn==1) with
 |false=>
  have n4:(mx-mn !=1)=true:=by simp[bne,c4]
  simp only[go_sem,i107,s134,aY pe bK,iD,nQ,Pc.ps,n1,n2,n3,tu,nO,wd,n4];exact⟨aL,rfl⟩
 |true=>
 have n4:(mx-mn !=1)=false:=by simp[bne,c4]
 have fq:∀(X:Prop),X->X:=fun _ h=>h;by_cases c5:aq Let.aF ls<=2
 .have n5:((aq Let.aF ls:Int)<=2):=aa;by_cases c6:0<aq Let.aD ls/2
  .have n6:((0:Int)<((aq Let.aD ls/2:Nat):Int)):=aa;rw[xH c5,xH c6];simp only[go_sem,i107,s134,aY pe bK,iD,nQ,Pc.ps,n1,n2,n3,tu,nO,wd,n4,n5,n6];exact⟨aL,rfl⟩
  have n6:¬((0:Int)<((aq Let.aD ls/2:Nat):Int)):=aa;rw[xH c5,xG c6];simp only[go_sem,i107,s134,aY pe bK,iD,nQ,Pc.ps,n1,n2,n3,tu,nO,wd,n4,n5,n6,s135];refine⟨aL,?_⟩;refine sX (aiN (pieces ls) aa ⟨rfl,rfl⟩ s136 (fun k _=>decide (k=av)||decide (k=(av+1)%ls.length)) (fun k p _=>acb k av ((av+1)%ls.length) p)) lo (.inr (tP (Er _))) fun cc cZ gc hb=>?_;have b8:=hb 6848128896 ae;have b9:=hb 6848128960 ae;simp only[go_sem] at b8 b9;simp only[go_sem,b8,b9,tu,jw];refine adp (l:=qQ (pieces ls) fun k _=>decide (k=av)||decide (k=(av+1)%ls.length)) (oZ (HU _ _ _) aa) ae (fun x hx=>r8 x (Yz hx)) gc fun bN wG bR=>?_;simp only[go_sem];exact za wG
 have n5:¬((aq Let.aF ls:Int)<=2):=aa;rw[xG c5];simp only[go_sem,i107,s134,aY pe bK,iD,nQ,Pc.ps,n1,n2,n3,tu,nO,wd,n4,n5,s135];refine⟨aL,?_⟩;refine sX (aiN (pieces ls) aa ⟨rfl,rfl⟩ s136 (fun k _=>decide (k=av)||decide (k=(av+1)%ls.length)) (fun k p _=>acb k av ((av+1)%ls.length) p)) lo (.inr (tP (Er _))) fun cc cZ gc hb=>?_;have b8:=hb 6848128896 ae;have b9:=hb 6848128960 ae;simp only[go_sem] at b8 b9;simp only[go_sem,b8,b9,tu,jw];refine adp (l:=qQ (pieces ls) fun k _=>decide (k=av)||decide (k=(av+1)%ls.length)) (oZ (HU _ _ _) aa) ae (fun x hx=>r8 x (Yz hx)) gc fun bN wG bR=>?_;simp only[go_sem];exact za wG
abbrev iP(o:d_):s_:=o.map fun n=>[PV.int .i64 n]
def Ce{o:d_}{k:Nat}{v:Int}(h:o[k]?=some v):(iP o)[k]?=some [.int .i64 v]:=by simp[h]
def qd(o:d_)(x:Int)(i:Nat):Bool:=match o[i]? with|some y=>y==x|none=>false
def ao4(o:d_)(x:Int)(hl:o.length<=1000000):aO S 197 [.one (.p (.sl (iP o))),vi x] (ri (match (List.range o.length).find? (qd o x) with|some k=>(k:Int)|none=> -1)):=by
 refine bY c197 ?_;simp only[go_sem,i197];refine dG (fun k ak aj=>ak 0=.one (.p (.sl (iP o)))/\ak 1=vi x/\ak 7=vi o.length/\ak 8=vi k/\ ∀j,j<k->qd o x j=false) 0 o.length (cA _) ?_ ?_
 .simp only[go_sem];exact⟨rfl,fun j hj=>absurd hj (o9 j)⟩
 rintro k ak aj hk ⟨h0,h1,h7,h8,hn⟩
 by_cases aB:k<o.length
 .have aP:((k:Int)<(o.length:Int)):=aa;obtain⟨y,hy⟩:=aN aB;have fG:=Ce hy;have w1:=df (n:=k) aa;have oJ:qd o x k=(y==x):=by simp[qd,hy]
  cases hb:(y==x) with
  |true=>
   have wI:(x==y)=true:=by have:=dh.1 hb;simp[this]
   rw[hb] at oJ;have hf:=Dw (p:=qd o x) aB hn oJ;simp only[go_sem,i197_l1,h0,h1,h7,h8,aP,fG,wI,hf];first|done|exact aL|rfl
  |false=>
   have wI:(x==y)=false:=by
    have:¬y=x:=by simpa using hb
    simp;exact fun h=>this h.symm
   rw[hb] at oJ;have BX:∀j,j<k+1->qd o x j=false:=fun j hj=>by
    rcases og.1 hj with h|rfl
    .exact hn j h
    exact oJ
   simp only[go_sem,i197_l1,h0,h1,h7,h8,aB,aP,fG,wI,w1];first|exact BX|exact⟨aL,BX⟩
 have:k=o.length:=aa;subst this;have hf:=JP (p:=qd o x) hn;simp only[go_sem,i197_l1,i197_r2,h7,h8,fh,hf]
def alg(o:d_)(x:Int)(hl:o.length<=1000000):aO S 171 [.one (.p (.sl (iP o))),vi x] (rb (o.contains x)):=by
 have pi:=ao4 o x hl;refine bY c171 ?_;cases hm:o.contains x with
 |true=>
  have iS:x∈o:=by simpa using hm
  obtain⟨k,hk⟩:=ia iS;have eT:=(aW.1 hk).1;cases hf:(List.range o.length).find? (qd o x) with
  |none=>have:=II.1 hf k (iv.2 eT);simp[qd,hk] at this
  |some j=>rw[hf] at pi;have vx:(0:Int)<=(j:Int):=aa;simp only[go_sem,i171,s197,eF pi,vx]
 |false=>
  have iS:x∉o:=by simpa using hm
  cases hf:(List.range o.length).find? (qd o x) with
  |some j=>
   have h1:=L3 hf;unfold qd at h1;cases ho:o[j]? with
   |none=>rw[ho] at h1;cases h1
   |some y=>
    rw[ho] at h1;have:y=x:=by simpa using h1
    subst this;exact absurd (aZ ho) iS
  |none=>rw[hf] at pi;have vx:¬(0:Int)<= -1:=ae;simp only[go_sem,i171,s197,eF pi,vx]
def vl(ids:d_)(_:Nat)(p:Pc):Bool:=(p.l.kind==2)&&ids.contains p.l.id
def alW(ids:d_)(hl:ids.length<=1000000)(k:Nat)(p:Pc):aO S 170 [vi k,.agg (p.ps.map .p),.one (.p (.box [.sl (iP ids)]))] (rb (vl ids k p)):=by
 have pc:=alg ids p.l.id hl;refine bY c170 ?_;unfold vl;cases h:(p.l.kind==2) with
 |true=>simp only[go_sem,i170,Pc.ps,h,s171,aJ pc]
 |false=>simp only[go_sem,i170,Pc.ps,h]
def jZ(ids:d_)(k:Nat)(p:Pc):Pc:={p with l:={p.l with id:=p.l.id-((ids.take k).countP (fun i=>decide (i<p.l.id)):Nat)}}
def tB(ids:d_)(p:Pc):Pc:=if p.l.kind==2 then jZ ids ids.length p else p
abbrev Jy(l:c_)(ids:d_):c_:=(qQ l (vl ids)).map (tB ids)
abbrev uT(ids:d_)(l:c_)(k:Nat):c_:=(l.take k).map (tB ids)++l.drop k
def afO{ids:d_}{l:c_}{k:Nat}{p:Pc}(h:l[k]?=some p):(uT ids l k)[k]?=some p:=by have hk:=(aW.1 h).1;rw[uT,Ag (by rw[cU,iH];omega),cU,iH,Aj aa,Nat.sub_self,Ah];exact h
def ap9(ids:d_)(l:c_)(k:Nat):(uT ids l k).length=l.length:=by rw[uT,gJ,cU,iH,lD];omega
def aqa{ids:d_}{l:c_}{k:Nat}{p:Pc}(h:l[k]?=some p):(uT ids l k).set k (tB ids p)=uT ids l (k+1):=by
 have hk:=(aW.1 h).1;have A0:l.drop k=p::l.drop (k+1):=by obtain⟨hh,rfl⟩:=aW.1 h;exact List.drop_eq_getElem_cons hh
 have e1:((l.take k).map (tB ids)).length=k:=by rw[cU,iH];omega
 rw[uT,List.set_append_right _ _ aa,e1,Nat.sub_self,A0,List.set_cons_zero,uT,nC,h];simp
def Im(o:c_)(k:Nat)(p:Pc):(eI o).set k p.ps=eI (o.set k p):=by simp[List.map_set]
def acg(l:c_)(ids:d_)(hl:l.length<=1000000)(hi:ids.length<=1000)(hb:∀p∈l,-1000000<=p.l.id/\p.l.id<=1000000):
  aO S 143 [.one (.p (.sl (eI l))),.one (.p (.sl (iP ids)))] (.one (bh nu 7 (eI (Jy l ids)))):=by
 have pw:=avB l hl (f:=170) (x:=.box [.sl (iP ids)]) rfl s170 (vl ids) (fun k p _=>alW ids aa k p);have lo:S.lone 9152064128=false:=ah;have mj:∀p∈qQ l (vl ids),-1000000<=p.l.id/\p.l.id<=1000000:=fun p hp=>hb p (Yz hp);have eT:(qQ l (vl ids)).length<=1000000:=oZ (HU _ _ _) hl;refine bY c143 ?_;simp only[go_sem,i143,s135];refine sX pw lo (.inr (tP (Er _))) fun cc pK gc s0=>?_;have z3:=s0 9152000000 ae;simp only[go_sem] at z3;unfold Jy;generalize qQ l (vl ids)=m at gc mj eT;rcases gc with ⟨e,e2⟩|⟨aK,gg,e2,hC⟩
 .cases e2;have:m=[]:=by simpa using e
  subst this;have hz:¬(((0:Nat):Int)<((0:Nat):Int)):=aa;simp only[go_sem];refine dG (fun k ak aj=>k=0/\ak 5=.one (.p .nils)/\ak 14=vi ((0:Nat):Int)/\ak 15=vi ((0:Nat):Int)) 0 0 (cD _) ?_ ?_
  .simp only[go_sem];exact rfl
  rintro k ak aj _ ⟨rfl,h5,mZ,lU⟩
  simp only[go_sem,i143_l3,i143_r4,h5,mZ,lU,hz];rfl
 cases e2;simp only[go_sem];refine dG (fun k ak aj=>ak 3=.one (.bt 9152000000 1 0)/\aj 9152000000=(1,some (.var [.p (.sl (iP ids))]))/\ak 5=.one (.hsl 9152064128 gg 7 0 m.length)/\ak 13=.one (.hsl 9152064128 gg 7 0 m.length)/\ak 14=vi m.length/\ak 15=vi k/\aj 9152064128=(gg,some (.arr nu 7 (eI (uT ids m k))))) 0 m.length (cA _) ?_ ?_
 .simp only[go_sem,z3,hC];refine⟨rfl,?_⟩;simp[uT]
 rintro k ak aj hk ⟨h3,bI,h5,sZ,mZ,lU,bO⟩
 by_cases aB:k<m.length
 .have aP:((k:Int)<(m.length:Int)):=aa;obtain⟨p,hp⟩:=aN aB;have yn:=j7 (afO (ids:=ids) hp);have w1:=df (n:=k) aa;have HC:=ap9 ids m k;have iF:=aqa (ids:=ids) hp;have Kr:k<(uT ids m k).length:=aa;cases c1:(p.l.kind==2) with
  |false=>
   have n1:(p.l.kind !=2)=true:=by simp[bne,c1]
   have Cb:uT ids m (k+1)=uT ids m k:=by
    rw[<- iF];have e:tB ids p=p:=by unfold tB;rw[c1];rfl
    rw[e];obtain⟨hh,he⟩:=aW.1 (afO (ids:=ids) hp);rw[<- he,List.set_getElem_self]
   simp only[go_sem,i143_l3,i143_r2,h3,bI,h5,sZ,mZ,lU,bO,aB,aP,yn,Pc.ps,n1,w1,Cb]
  |true=>
   have n1:(p.l.kind !=2)=false:=by simp[bne,c1]
   have hid:=mj p (aZ hp);have wN:tB ids p=jZ ids ids.length p:=by unfold tB;rw[c1];rfl
   rw[wN] at iF;generalize uT ids m k=q at yn HC iF Kr bO;have q0:q.set k (jZ ids 0 p)=q:=by
    have:jZ ids 0 p=p:=by unfold jZ;simp
    rw[this];have h1:q[k]?=some p:=by
     have h2:(eI q)[k]?=some p.ps:=yn;rw[gk] at h2;cases hq:q[k]? with
     |none=>rw[hq] at h2;cases h2
     |some x=>rw[hq] at h2;simp[Pc.ps] at h2;obtain⟨⟨a,b,c,d,e,f⟩,g⟩:=x;obtain⟨⟨a',b',c',d',e',f'⟩,g'⟩:=p;simp at h2;obtain⟨rfl,rfl,rfl,rfl,rfl,rfl,rfl⟩:=h2;rfl
    obtain⟨hh,he⟩:=aW.1 h1;rw[<- he,List.set_getElem_self]
   simp only[go_sem,i143_l3,h3,bI,sZ,mZ,lU,bO,aB,aP,yn,Pc.ps,n1];refine dG (fun j dE bN=>dE 3=.one (.bt 9152000000 1 0)/\bN 9152000000=(1,some (.var [.p (.sl (iP ids))]))/\dE 5=.one (.hsl 9152064128 gg 7 0 m.length)/\dE 13=.one (.hsl 9152064128 gg 7 0 m.length)/\dE 14=vi m.length/\dE 15=vi k/\dE 6=vi k/\dE 24=.one (.p (.sl (iP ids)))/\dE 25=vi ids.length/\dE 26=vi j/\
    (∃g7,dE 7=.one (.bt 9152256192 g7 0)/\bN 9152256192=(g7,some (.var (p.ps.map .p))))/\bN 9152064128=(gg,some (.arr nu 7 (eI (q.set k (jZ ids j p)))))) 0 ids.length (cA _) ?_ ?_
   .simp only[go_sem,h3,bI,h5,sZ,mZ,lU,bO,q0];first|exact⟨rfl,_,⟨rfl,rfl⟩,rfl⟩|exact⟨rfl,⟨_,rfl,rfl⟩⟩|exact⟨_,rfl,rfl⟩|exact⟨⟨_,rfl,rfl⟩,rfl⟩|exact⟨rfl,⟨_,rfl,rfl⟩,rfl⟩|trace_state
   rintro j dE bN hj ⟨p3,cI,p5,p13,qo,p15,p6,p24,p25,p26,⟨g7,p7,c7⟩,cO⟩
   by_cases ud:j<ids.length
   .have HB:((j:Int)<(ids.length:Int)):=aa;obtain⟨d,hd⟩:=aN ud;have lK:=Ce hd;have w2:=df (n:=j) aa;have ua:(ids.take (j+1)).countP (fun i=>decide (i<p.l.id))=(ids.take j).countP (fun i=>decide (i<p.l.id))+if d<p.l.id then 1 else 0:=by
     rw[nC,hd,xz];simp[vY,List.countP_nil]
    have cK:(ids.take j).countP (fun i=>decide (i<p.l.id))<=j:=oZ List.countP_le_length (by rw[iH];omega);have hqa:(eI (q.set k (jZ ids j p)))[k]?=some (jZ ids j p).ps:=j7 (by rw[rh,aG rfl,aG aa]);have qN:k<(q.set k (jZ ids j p)).length:=by rw[nA];omega
    by_cases hg:d<p.l.id
    .have e1:(jZ ids j p).l.id-1=(jZ ids (j+1) p).l.id:=by
      unfold jZ;simp only;rw[ua,aG hg];omega
     have w3:IntKind.i64.wrap ((jZ ids j p).l.id-1)=(jZ ids (j+1) p).l.id:=by rw[<- e1];exact xx (by unfold jZ;simp only;omega) (by unfold jZ;simp only;omega)
     have dX:((jZ ids (j+1) p).ps)=[.int .i64 (jZ ids j p).l.kind,.int .i64 (jZ ids j p).l.gate,.int .i64 (jZ ids j p).l.aA,.int .i64 (jZ ids (j+1) p).l.id,.int .i64 (jZ ids j p).l.sign,.bool (jZ ids j p).l.over,.bool (jZ ids j p).d]:=rfl;have aee:(eI (q.set k (jZ ids j p))).set k (jZ ids (j+1) p).ps=eI (q.set k (jZ ids (j+1) p)):=by rw[Im,List.set_set]
     rw[dX] at aee;generalize jZ ids j p=x at*;simp only[go_sem,i143_l1,p3,cI,p5,p13,qo,p15,p6,p24,p25,p26,p7,c7,cO,aB,ud,HB,lK,hg,hqa,Pc.ps,w2,w3,aee];exact⟨g7,rfl,rfl⟩
    have e1:jZ ids (j+1) p=jZ ids j p:=by unfold jZ;rw[ua,aC hg];simp
    simp only[go_sem,i143_l1,p3,cI,p5,p13,qo,p15,p6,p24,p25,p26,p7,c7,cO,ud,HB,lK,hg,Pc.ps,w2,e1];exact⟨g7,rfl,rfl⟩
   have:j=ids.length:=aa;subst this;rw[iF] at cO;simp only[go_sem,i143_l1,i143_r2,p3,cI,p5,p13,qo,p15,p26,p25,cO,fh,w1,aB]
 have:k=m.length:=aa;subst this;have e1:uT ids m m.length=m.map (tB ids):=by rw[uT,lR,List.drop_length,jJ]
 rw[e1] at bO;simp only[go_sem,i143_l3,i143_r4,h5,mZ,lU,fh];have lM:m.map (tB ids)≠[]:=by simpa using aK
 exact AT (.inr ⟨by simpa using lM,gg,af,bO⟩)
def cE.ids(g:cE F ls):Yn ls/\Il ls:=by have hc:=g.ok.cr;unfold mI at hc;simp only[cJ] at hc;exact IC.1 fun k hk=>gj.1 hc.1.2 k (iv.2 hk)
def art{p:Pc}(h:p∈pieces ls):∃(i:Nat) (l:Let),ls[i]?=some l/\p=⟨l,eW ls i⟩:=by
 obtain⟨i,hi⟩:=ia h;have zA:i<ls.length:=by rw[<- bk];exact(aW.1 hi).1
 obtain⟨l,hl⟩:=aN zA;rw[jm hl] at hi;cases hi;exact⟨i,l,hl,rfl⟩
def aej(g:cE F ls):∀p∈pieces ls,-1000000<=p.l.id/\p.l.id<=1000000:=by
 intro p hp;obtain⟨i,l,hl,rfl⟩:=art hp;have hm:=aZ hl;rcases g.ok.kinds l hm with h|h
 .have:=(sC (f:=(F:Int)) h).1 (g.bad l hm);simp only[this.1.1.2];omega
 have h1:=g.ids.1 l hm h;have:=g.cr;simp only;omega
def w7(ls:ai)(av:Nat):Option c_:=
 let p:=(pieces ls).getD av ⟨lN,false⟩
 let q:=(pieces ls).getD ((av+1)%ls.length) ⟨lN,false⟩
 if (p.l.kind==2)&&((q.l.kind==2)&&(p.l.id==q.l.id)) then some (Jy (pieces ls) [p.l.id]) else none
def ap8(g:cE F ls){av:Nat}(ha:av<ls.length){k b c:Int}{l o:Bool}{sg:Int}:
  aO S 110 [.one (.p (fA F ls)),ql k av b c l o sg] (kR (w7 ls av)):=by
 have hlen:=g.len;have bd:=bk ls;have pe:=Ds g ha;have hm:=dk (av+1) (show 0<ls.length by omega);obtain⟨p,hp⟩:=aN (ls:=pieces ls) (k:=av) aa;obtain⟨q,hq⟩:=aN (ls:=pieces ls) (k:=(av+1)%ls.length) aa;have iD:=j7 hp;have nQ:=j7 hq;have lo:S.lone 7040256896=false:=ah;unfold w7;simp only[dK,hp,hq,ow];refine bY c110 ?_;cases c1:(p.l.kind==2) with
 |false=>
  have n1:(p.l.kind !=2)=true:=by simp[bne,c1]
  simp only[go_sem,i110,s134,aY pe bK,iD,Pc.ps,n1];exact⟨aL,rfl⟩
 |true=>
 have n1:(p.l.kind !=2)=false:=by simp[bne,c1]
 cases c2:(q.l.kind==2) with
 |false=>
  have n2:(q.l.kind !=2)=true:=by simp[bne,c2]
  simp only[go_sem,i110,s134,aY pe bK,iD,nQ,Pc.ps,n1,n2];exact⟨aL,rfl⟩
 |true=>
 have n2:(q.l.kind !=2)=false:=by simp[bne,c2]
 cases c3:(p.l.id==q.l.id) with
 |false=>
  have n3:(p.l.id !=q.l.id)=true:=by simp[bne,c3]
  simp only[go_sem,i110,s134,aY pe bK,iD,nQ,Pc.ps,n1,n2,n3];exact⟨aL,rfl⟩
 |true=>
 have n3:(p.l.id !=q.l.id)=false:=by simp[bne,c3]
 have pd:=acg (pieces ls) [p.l.id] aa af (aej g);simp only[go_sem,i110,s134,aY pe bK,iD,nQ,Pc.ps,n1,n2,n3,s143];refine⟨aL,?_⟩;refine alA pd lo (.inr (tP (Er _))) fun cc cZ w gc hb hw=>?_;simp only[go_sem];refine⟨?_,za gc⟩;rcases hw with rfl|rfl<;>kernel_rfl
abbrev pA(ls:ai)(i:Nat):Pc:=(pieces ls).getD i ⟨lN,false⟩
def iU{i:Nat}{p:Pc}(h:(pieces ls)[i]?=some p):pA ls i=p:=by simp[pA,dK,h]
abbrev nx(ls:ai)(e:Nat):Nat:=(e+1)%ls.length
def iB(ls:ai)(e:Nat)(ov:Bool):Bool:=((pA ls e).l.kind==2)&&(((pA ls (nx ls e)).l.kind==2)&&(((pA ls e).l.over==ov)&&((pA ls (nx ls e)).l.over==ov)))
def Jj(g:cE F ls){e:Nat}(he:e<ls.length)(ov:Bool):aO S 145 [.one (.p (fA F ls)),vi e,vb ov] (rb (iB ls e ov)):=by
 have hlen:=g.len;have bd:=bk ls;have pe:=Ds g he;have hm:=dk (e+1) (show 0<ls.length by omega);obtain⟨p,hp⟩:=aN (ls:=pieces ls) (k:=e) aa;obtain⟨q,hq⟩:=aN (ls:=pieces ls) (k:=(e+1)%ls.length) aa;have iD:=j7 hp;have nQ:=j7 hq;unfold iB;rw[iU hp,iU hq];refine bY c145 ?_;cases c1:(p.l.kind==2) with
 |false=>simp only[go_sem,i145,s134,aY pe bK,iD,Pc.ps,c1]
 |true=>
 cases c2:(q.l.kind==2) with
 |false=>simp only[go_sem,i145,s134,aY pe bK,iD,nQ,Pc.ps,c1,c2]
 |true=>
 cases c3:(p.l.over==ov) with
 |false=>simp only[go_sem,i145,s134,aY pe bK,iD,nQ,Pc.ps,c1,c2,c3]
 |true=>
 cases c4:(q.l.over==ov) with
 |false=>simp only[go_sem,i145,s134,aY pe bK,iD,nQ,Pc.ps,c1,c2,c3,c4]
 |true=>simp only[go_sem,i145,s134,aY pe bK,iD,nQ,Pc.ps,c1,c2,c3,c4]
def jP(ls:ai)(e:Nat):Nat×Nat×Bool:=if (pA ls e).l.kind==2 then (nx ls e,e,(pA ls (nx ls e)).l.kind==1) else (e,nx ls e,((pA ls e).l.kind==1)&&((pA ls (nx ls e)).l.kind==2))
abbrev ahn(a b c:PV):RV:=.tup [.one (.p a),.one (.p b),.one (.p c)]
def zM{aj:aE}{s:Nat}{a b c:PV}{l:Bool}:land aj [] s ((ahn a b c).iu l)=some (.tup [.one (.p a),.one (.p b),.one (.p c)],[]):=by cases l<;>rfl
def agK(g:cE F ls){e:Nat}(he:e<ls.length):aO S 141 [.one (.p (fA F ls)),vi e] (ahn (.int .i64 ((jP ls e).1:Nat)) (.int .i64 ((jP ls e).2.1:Nat)) (.bool (jP ls e).2.2)):=by
 have hlen:=g.len;have bd:=bk ls;have pe:=Ds g he;have hm:=dk (e+1) (show 0<ls.length by omega);obtain⟨p,hp⟩:=aN (ls:=pieces ls) (k:=e) aa;obtain⟨q,hq⟩:=aN (ls:=pieces ls) (k:=(e+1)%ls.length) aa;have iD:=j7 hp;have nQ:=j7 hq;unfold jP;rw[iU hp,iU hq];refine bY c141 ?_;cases c1:(p.l.kind==2) with
 |true=>
  have e1:p.l.kind=2:=by simpa using c1
  rw[aG rfl];cases c2:(q.l.kind==1) with
  |true=>simp only[go_sem,i141,s134,aY pe bK,iD,nQ,Pc.ps,c1,c2];exact⟨aL,rfl⟩
  |false=>simp only[go_sem,i141,s134,aY pe bK,iD,nQ,Pc.ps,c1,c2];exact⟨aL,rfl⟩
 |false=>
  rw[aC ae];cases c2:(p.l.kind==1) with
  |true=>
   cases c3:(q.l.kind==2) with
   |true=>simp only[go_sem,i141,s134,aY pe bK,iD,nQ,Pc.ps,c1,c2,c3];exact⟨aL,rfl⟩
   |false=>simp only[go_sem,i141,s134,aY pe bK,iD,nQ,Pc.ps,c1,c2,c3];exact⟨aL,rfl⟩
  |false=>simp only[go_sem,i141,s134,aY pe bK,iD,Pc.ps,c1,c2];exact⟨aL,rfl⟩
def CA(o:a_)(pr:Nat->Bool)(i:Nat):Bool:=match o[i]? with|some v=>pr v|none=>false
def ao3(o:a_)(hl:o.length<=1000000){f:Nat}{x y z:PV}(hn:x.norm=x/\y.norm=y/\z.norm=z)(jw:S.shared f=false)(pr:Nat->Bool)(hd:∀v∈o,aO S f [vi (v:Nat),.one (.p x),.one (.p y),.one (.p z)] (rb (pr v))):
  aO S 196 [.one (.p (.sl (nP o))),.one (.p (.fn f [] [x,y,z]))] (ri (match (List.range o.length).find? (CA o pr) with|some k=>(k:Int)|none=> -1)):=by
 obtain⟨fE,hJ,lM⟩:=hn;refine bY c196 ?_;simp only[go_sem,i196];refine dG (fun k ak aj=>ak 0=.one (.p (.sl (nP o)))/\ak 1=.one (.p (.fn f [] [x,y,z]))/\ak 7=vi o.length/\ak 8=vi k/\ ∀j,j<k->CA o pr j=false) 0 o.length (cA _) ?_ ?_
 .simp only[go_sem];exact⟨rfl,fun j hj=>absurd hj (o9 j)⟩
 rintro k ak aj hk ⟨h0,h1,h7,h8,tv⟩
 by_cases aB:k<o.length
 .have aP:((k:Int)<(o.length:Int)):=aa;obtain⟨v,hv⟩:=aN aB;have fG:=kI hv;have w1:=df (n:=k) aa;have pd:=hd v (aZ hv);have oJ:CA o pr k=pr v:=by simp[CA,hv]
  cases hb:pr v with
  |true=>rw[hb] at pd oJ;have hf:=Dw (p:=CA o pr) aB tv oJ;simp only[go_sem,i196_l1,h0,h1,h7,h8,aP,fG,jw,fE,hJ,lM,aJ pd,hf]
  |false=>
   rw[hb] at pd oJ;simp only[go_sem,i196_l1,h0,h1,h7,h8,aB,aP,fG,jw,fE,hJ,lM,aJ pd,w1];intro j hj;rcases og.1 hj with h|rfl
   .exact tv j h
   exact oJ
 have:k=o.length:=aa;subst this;have hf:=JP (p:=CA o pr) tv;simp only[go_sem,i196_l1,i196_r2,h7,h8,fh,hf]
def alf(o:a_)(hl:o.length<=1000000){f:Nat}{x y z:PV}(hn:x.norm=x/\y.norm=y/\z.norm=z)(jw:S.shared f=false)(pr:Nat->Bool)(hd:∀v∈o,aO S f [vi (v:Nat),.one (.p x),.one (.p y),.one (.p z)] (rb (pr v))):
  aO S 168 [.one (.p (.sl (nP o))),.one (.p (.fn f [] [x,y,z]))] (rb (o.any pr)):=by
 have pi:=ao3 o hl hn jw pr hd;obtain⟨fE,hJ,lM⟩:=hn;refine bY c168 ?_;cases ha:o.any pr with
 |true=>
  obtain⟨v,hv,hp⟩:=u5.1 ha;obtain⟨k,hk⟩:=ia hv;have eT:=(aW.1 hk).1;cases hf:(List.range o.length).find? (CA o pr) with
  |none=>have:=II.1 hf k (iv.2 eT);simp[CA,hk,hp] at this
  |some j=>rw[hf] at pi;have vx:(0:Int)<=(j:Int):=aa;simp only[go_sem,i168,s196,eF pi,vx]
 |false=>
  cases hf:(List.range o.length).find? (CA o pr) with
  |some j=>
   have h1:=L3 hf;unfold CA at h1;cases ho:o[j]? with
   |none=>rw[ho] at h1;cases h1
   |some v=>rw[ho] at h1;have:=IF.1 ha v (aZ ho);exact absurd h1 this
  |none=>rw[hf] at pi;have vx:¬(0:Int)<= -1:=ae;simp only[go_sem,i168,s196,eF pi,vx]
def vk(f:Fc)(e:Nat):Nat:=f.cG.countP fun d=>d/2==e
def wx(f:Fc)(pl:Nat)(edges:a_):Bool:=(f.cG.length==edges.length)&&((f.places.length==pl)&&edges.all fun e=>vk f e==1)
def abK(g:cE F ls){j:Nat}{f:Fc}(hf:(ff F ls)[j]?=some f)(edges:a_)(he:edges.length<=1000)(pl:Nat):
  aO S 169 [vi j,.one (.p (.box [fA F ls])),.one (.p (.box [.sl (nP edges)])),.one (.p (.box [.int .i64 pl]))] (rb (wx f pl edges)):=by
 have hlen:=g.len;have iC:(aI ls).length<=ls.length:=xN ls ls.length;have hdl:=Xa g.ok (aZ hf);have gH:nD ls<=1600:=by unfold nD;omega
 have Hv:=Xb hf;have mh:=(aW.1 hf).1;refine bY c169 ?_;unfold wx;cases c1:(f.cG.length==edges.length) with
 |false=>
  have n1:(((f.cG.length:Nat):Int)!=((edges.length:Nat):Int))=true:=by
   have:¬f.cG.length=edges.length:=by simpa using c1
   simp[bne];omega
  simp only[go_sem,i169,Hv,Fc.ps,n1]
 |true=>
 have n1:(((f.cG.length:Nat):Int)!=((edges.length:Nat):Int))=false:=by
  have:f.cG.length=edges.length:=by simpa using c1
  simp[bne,this]
 cases c2:(f.places.length==pl) with
 |false=>
  have n2:(((f.places.length:Nat):Int)!=((pl:Nat):Int))=true:=by
   have:¬f.places.length=pl:=by simpa using c2
   simp[bne];omega
  simp only[go_sem,i169,Hv,Fc.ps,n1,n2]
 |true=>
 have n2:(((f.places.length:Nat):Int)!=((pl:Nat):Int))=false:=by
  have:f.places.length=pl:=by simpa using c2
  simp[bne,this]
 simp only[go_sem,i169,Hv,Fc.ps,n1,n2];refine dG (fun k ak aj=>ak 6=.one (.bt 10816064448 1 0)/\aj 10816064448=(1,some (.var (f.ps.map .p)))/\ak 32=.one (.p (.sl (nP edges)))/\ak 33=vi edges.length/\ak 34=vi k/\ ∀i e,i<k->edges[i]?=some e->(vk f e==1)=true) 0 edges.length (cA _) ?_ ?_
 .simp only[go_sem,Fc.ps];first|exact⟨rfl,fun i e hi=>absurd hi (o9 i)⟩|exact⟨rfl,rfl,fun i e hi=>absurd hi (o9 i)⟩|exact fun i e hi=>absurd hi (o9 i)
 rintro k ak aj hk ⟨h6,b6,h32,NF,h34,ay⟩
 simp only[Fc.ps,eD,kL] at b6;by_cases aB:k<edges.length
 .have aP:((k:Int)<(edges.length:Int)):=aa;obtain⟨e,hek⟩:=aN aB;have N7:=kI hek;have w1:=df (n:=k) aa;simp only[go_sem,i169_l4,h6,b6,h32,NF,h34,aP,N7];refine dG (fun i dE bN=>dE 6=.one (.bt 10816064448 1 0)/\bN 10816064448=(1,some (.var (f.ps.map .p)))/\dE 32=.one (.p (.sl (nP edges)))/\dE 33=vi edges.length/\dE 34=vi k/\dE 8=vi e/\dE 9=vi ((f.cG.take i).countP fun d=>d/2==e:Nat)/\dE 39=.one (.p (.sl (nP f.cG)))/\dE 40=vi f.cG.length/\dE 41=vi i) 0 f.cG.length (cA _) ?_ ?_
  .simp only[go_sem,h6,b6,h32,NF,h34,Fc.ps];first|exact⟨rfl,rfl⟩|exact rfl|exact⟨rfl,rfl,rfl⟩
  rintro i dE bN hi ⟨p6,d6,p32,p33,vN,p8,p9,p39,p40,p41⟩
  by_cases vA:i<f.cG.length
  .have ad6:((i:Int)<(f.cG.length:Int)):=aa;obtain⟨d,hd⟩:=aN vA;have lK:=kI hd;have w2:=df (n:=i) aa;have wq:=wrap_small (n:=d/2) (by have:=W9 (aZ hf) d (aZ hd);omega);have cK:(f.cG.take i).countP (fun d=>d/2==e)<=i:=oZ List.countP_le_length (by rw[iH];omega);have w3:=df (n:=(f.cG.take i).countP fun d=>d/2==e) aa;have ua:(f.cG.take (i+1)).countP (fun d=>d/2==e)=(f.cG.take i).countP (fun d=>d/2==e)+if (d/2==e)=true then 1 else 0:=by
    rw[nC,hd,xz];simp[vY,List.countP_nil]
   cases pR:(d/2==e) with
   |true=>
    have n3:(((d/2:Nat):Int)==(e:Int))=true:=by
     have:d/2=e:=by simpa using pR
     simp;omega
    rw[pR,aG rfl] at ua;simp only[go_sem,i169_l1,p6,p32,p33,vN,p8,p9,p39,p40,p41,vA,ad6,lK,dZ,eQ,wq,n3,w2,w3,ua];first|exact d6|exact⟨d6,rfl⟩
   |false=>
    have n3:(((d/2:Nat):Int)==(e:Int))=false:=by
     have:¬d/2=e:=by simpa using pR
     simp;omega
    rw[pR,aC ae,u7] at ua;simp only[go_sem,i169_l1,p6,p32,p33,vN,p8,p9,p39,p40,p41,vA,ad6,lK,dZ,eQ,wq,n3,w2,ua];first|exact d6|exact⟨d6,rfl⟩
  have:i=f.cG.length:=aa;subst this;rw[lR] at p9;have hdc:(f.cG.countP fun d=>d/2==e)=vk f e:=rfl;rw[hdc] at p9;cases hq:(vk f e==1) with
  |true=>
   have n4:(((vk f e:Nat):Int)!=1)=false:=by
    have:vk f e=1:=by simpa using hq
    simp[bne,this]
   simp only[go_sem,i169_l1,i169_r2,i169_r3,p6,p32,p33,vN,p9,p40,p41,fh,n4,w1,aB];refine⟨d6,fun i2 e2 hi2 Hp=>?_⟩;rcases og.1 hi2 with h|rfl
   .exact ay i2 e2 h Hp
   rw[hek] at Hp;cases Hp;exact hq
  |false=>
   have n4:(((vk f e:Nat):Int)!=1)=true:=by
    have:¬vk f e=1:=by simpa using hq
    simp[bne];omega
   have dV:(edges.all fun e=>vk f e==1)=false:=List.all_eq_false.2 ⟨e,aZ hek,by rw[hq];decide⟩;simp only[go_sem,i169_l1,i169_r2,p9,p40,p41,fh,n4,dV]
 have:k=edges.length:=aa;subst this;have dV:(edges.all fun e=>vk f e==1)=true:=gj.2 fun e he=>by obtain⟨i,hi⟩:=ia he;exact ay i e (aW.1 hi).1 hi
 simp only[go_sem,i169_l4,i169_r5,NF,h34,fh,dV]
def kQ(F:Nat)(ls:ai)(pl:Nat)(edges:a_)(e0:Nat):Bool:=wx (lJ F ls (2*e0)) pl edges||wx (lJ F ls (2*e0+1)) pl edges
def WH(g:cE F ls)(edges:a_)(dy:edges.length<=1000){e0:Nat}(h0:edges[0]?=some e0)(he0:e0<ls.length)(pl:Nat):
  aO S 142 [.one (.p (fA F ls)),vi pl,.one (.p (.sl (nP edges)))] (rb (kQ F ls pl edges e0)):=by
 have hlen:=g.len;obtain⟨j0,a1,a2,a3⟩:=W7 g (d:=2*e0) aa;obtain⟨j1,b1,b2,b3⟩:=W7 g (d:=2*e0+1) aa;have g0:(ff F ls).getD j0 O2=lJ F ls (2*e0):=by rw[dK,a2];rfl
 have g1:(ff F ls).getD j1 O2=lJ F ls (2*e0+1):=by rw[dK,b2];rfl
 have pc:=alf [j0,j1] af (f:=169) (x:=.box [fA F ls]) (y:=.box [.sl (nP edges)]) (z:=.box [.int .i64 pl]) ⟨rfl,rfl,rfl⟩ s169 (fun j=>wx ((ff F ls).getD j O2) pl edges) (fun v hv=>by
  simp only[ch,eL,or_false] at hv;rcases hv with rfl|rfl
  .rw[g0];exact abK g a2 edges dy pl
  rw[g1];exact abK g b2 edges dy pl)
 have anG:([j0,j1].any fun j=>wx ((ff F ls).getD j O2) pl edges)=kQ F ls pl edges e0:=by simp only[List.any_cons,List.any_nil,Bool.or_false,g0,g1];rfl
 rw[anG] at pc;simp only[eD,kL] at pc;have ja:=kI a1;have jb:=kI b1;have he:=kI h0;have m2:=uZ (a:=e0) aa;have m3:=df (n:=2*e0) aa;have wP:=YG F ls;have l1:2*e0<(qj F ls).length:=aa;have l2:2*e0+1<(qj F ls).length:=aa;have jE:0<edges.length:=(aW.1 h0).1;have aoF:(0:Int)<(edges.length:Int):=aa;refine bY c142 ?_;simp only[go_sem,i142,he,m2,m3,ja,jb,s168,dA pc];exact aL
def eN(ls:ai)(l:c_)(e:Nat):c_:=(l.set e (l.getD (nx ls e) ⟨lN,false⟩)).set (nx ls e) (l.getD e ⟨lN,false⟩)
def tJ(ls:ai)(l:c_)(e:Nat):(eN ls l e).length=l.length:=by simp[eN]
def dC(ls:ai)(l:c_)(es:a_):c_:=es.foldl (eN ls) l
def qy(ls:ai):∀(es:a_) (l:c_),(dC ls l es).length=l.length:=by
 intro es
 induction es with
 |nil=>intro l;rfl
 |cons e es ih=>intro l;show(dC ls (eN ls l e) es).length=_;rw[ih,tJ]
def auJ(g:cE F ls)(es:a_)(gG:∀e∈es,e<ls.length)(dy:es.length<=1000):
  aO S 148 [.one (.p (fA F ls)),.one (.p (.sl (nP es)))] (.one (bh nu 7 (eI (dC ls (pieces ls) es)))):=by
 have hlen:=g.len;have bd:=bk ls;have aK:pieces ls≠[]:=jQ.1 (by have:=jQ.2 g.ne;omega);have pcl:=abp aK aa;have lo:S.lone 9472064256=false:=ah;refine bY c148 ?_;simp only[go_sem,i148,s139];refine sX pcl lo (.inl rfl) fun cc pK gc s0=>?_;rcases gc with ⟨e,_⟩|⟨_,gg,e,hC⟩
 .exact absurd (by simpa using e) aK
 cases e;rw[cU,bd];simp only[go_sem];refine dG (fun k ak aj=>ak 0=.one (.p (fA F ls))/\ak 5=.one (.hsl 9472064256 gg 7 0 ls.length)/\ak 15=.one (.p (.sl (nP es)))/\ak 16=vi es.length/\ak 17=vi k/\aj 9472064256=(gg,some (.arr nu 7 (eI (dC ls (pieces ls) (es.take k)))))) 0 es.length (cA _) ?_ ?_
 .simp only[go_sem,hC];first|exact⟨rfl,rfl⟩|rfl|exact⟨rfl,rfl,rfl⟩
 rintro k ak aj hk ⟨h0,h5,lU,qH,iw,bO⟩
 by_cases aB:k<es.length
 .have aP:((k:Int)<(es.length:Int)):=aa;obtain⟨e,he⟩:=aN aB;have N7:=kI he;have N5:=gG e (aZ he);have pe:=Ds g N5;have w1:=df (n:=k) aa;have oN:dC ls (pieces ls) (es.take (k+1))=eN ls (dC ls (pieces ls) (es.take k)) e:=by
   unfold dC;rw[nC,he,IK];rfl
  have kY:(dC ls (pieces ls) (es.take k)).length=ls.length:=by rw[qy,bd]
  have hm:=dk (e+1) (show 0<ls.length by omega);generalize dC ls (pieces ls) (es.take k)=m at bO oN kY;obtain⟨p,hp⟩:=aN (ls:=m) (k:=e) aa;obtain⟨q,hq⟩:=aN (ls:=m) (k:=(e+1)%ls.length) aa;have fG:=j7 hp;have DU:=j7 hq;have l1:e<m.length:=aa;have l2:(e+1)%ls.length<m.length:=aa;have s1:=Im m e q;have wN:(m.set e q).set ((e+1)%ls.length) p=eN ls m e:=by unfold eN nx;rw[dK,hq,dK,hp];rfl
  have s2:=Im (m.set e q) ((e+1)%ls.length) p;rw[wN,<- oN] at s2;simp only[Pc.ps] at s1 s2;obtain⟨p',gI⟩:=aN (ls:=m.set e q) (k:=e) (by rw[nA];omega);obtain⟨q',rH⟩:=aN (ls:=m.set e q) (k:=(e+1)%ls.length) (by rw[nA];omega);have Ye:=j7 rH;simp only[go_sem,i148_l1,h0,h5,lU,qH,iw,bO,aB,aP,N7,s134,aY pe bK,N5,hm,fG,DU,Ye,s1,s2,Pc.ps,w1];exact aL
 have:k=es.length:=aa;subst this;rw[lR] at bO;simp only[go_sem,i148_l1,i148_r2,h5,qH,iw,fh];have h1:(dC ls (pieces ls) es).length=ls.length:=by rw[qy,bd]
 refine AT (.inr ⟨?_,gg,by rw[cU,h1],bO⟩);intro h2;have:=congrArg List.length h2;rw[cU,h1,fv] at this;have h3:=jQ.2 g.ne;omega
def dx(l:c_)(i:Nat)(r:Int):c_:=l.set i {(l.getD i ⟨lN,false⟩) with l:={(l.getD i ⟨lN,false⟩).l with aA:=r}}
def nv(l:c_)(i:Nat)(r:Int):(dx l i r).length=l.length:=by simp[dx]
def nI(F:Nat)(ls:ai)(av bv:Nat):Option c_:=
 if (jP ls av).2.2&&((jP ls bv).2.2&&(!((jP ls av).2.1==(jP ls bv).2.1)&&(((pA ls (jP ls av).2.1).l.id==(pA ls (jP ls bv).2.1).l.id)&&kQ F ls 1 [av,bv] av)))
 then some (dC ls (dx (dx (pieces ls) (jP ls av).1 (pA ls (jP ls bv).1).l.aA) (jP ls bv).1 (pA ls (jP ls av).1).l.aA) [av,bv]) else none
def ag5{e:Nat}(he:e<ls.length):(jP ls e).1<ls.length/\(jP ls e).2.1<ls.length:=by
 have hm:=dk (e+1) (show 0<ls.length by omega);unfold jP nx;split
 .exact⟨hm,he⟩
 exact⟨he,hm⟩
def aj1(g:cE F ls){av bv:Nat}(ha:av<ls.length)(hb:bv<ls.length){k c:Int}{l o:Bool}{sg:Int}:
  aO S 109 [.one (.p (fA F ls)),ql k av bv c l o sg] (kR (nI F ls av bv)):=by
 have hlen:=g.len;have bd:=bk ls;have pa:=agK g ha;have pb:=agK g hb;have pc:=WH g [av,bv] af (e0:=av) rfl ha 1;obtain⟨p1,v1⟩:=ag5 ha;obtain⟨q1,w1⟩:=ag5 hb;unfold nI;generalize jP ls av=x at*;generalize jP ls bv=y at*;obtain⟨pi,LR,one⟩:=x;obtain⟨qi,wi,two⟩:=y;simp only at pa pb p1 v1 q1 w1 |-;simp only[eD,kL] at pc;have c1:((1:Nat):Int)=1:=rfl;rw[c1] at pc;obtain⟨P,hP⟩:=aN (ls:=pieces ls) (k:=pi) aa;obtain⟨Q,hQ⟩:=aN (ls:=pieces ls) (k:=qi) aa;obtain⟨V,hV⟩:=aN (ls:=pieces ls) (k:=LR) aa
 obtain⟨W,hW⟩:=aN (ls:=pieces ls) (k:=wi) aa;rw[iU hP,iU hQ,iU hV,iU hW];have hPp:=j7 hP;have hQp:=j7 hQ;have hVp:=j7 hV;have hWp:=j7 hW;have aK:pieces ls≠[]:=jQ.1 aa;have pcl:=abp aK aa;have lo:S.lone 6976384256=false:=ah;refine bY c109 ?_;cases one with
 |false=>simp only[go_sem,i109,s141,aY pa zM,aY pb zM];exact⟨aL,rfl⟩
 |true=>
 cases two with
 |false=>simp only[go_sem,i109,s141,aY pa zM,aY pb zM];exact⟨aL,rfl⟩
 |true=>
 cases c2:(LR==wi) with
 |true=>
  have n2:((LR:Int)==(wi:Int))=true:=by simp[show LR=wi by simpa using c2]
  simp only[go_sem,i109,s141,aY pa zM,aY pb zM,n2];exact⟨aL,rfl⟩
 |false=>
 have n2:((LR:Int)==(wi:Int))=false:=by
  have:¬LR=wi:=by simpa using c2
  simp;omega
 cases c3:(V.l.id==W.l.id) with
 |false=>
  have n3:(V.l.id !=W.l.id)=true:=by simp[bne,c3]
  simp only[go_sem,i109,s141,aY pa zM,aY pb zM,n2,hVp,hWp,Pc.ps,n3];exact⟨aL,rfl⟩
 |true=>
 have n3:(V.l.id !=W.l.id)=false:=by simp[bne,c3]
 cases c4:kQ F ls 1 [av,bv] av with
 |false=>rw[c4] at pc;simp only[go_sem,i109,s141,aY pa zM,aY pb zM,n2,hVp,hWp,Pc.ps,n3,s142,dA pc];exact⟨aL,rfl⟩
 |true=>
 rw[c4] at pc;simp only[go_sem,i109,s141,aY pa zM,aY pb zM,n2,hVp,hWp,hPp,hQp,Pc.ps,n3,s142,dA pc,s139];refine⟨aL,aL,?_⟩;refine sX pcl lo (.inl rfl) fun cc pK gc s0=>?_;have b3:=s0 6976000000 ae;simp only[go_sem] at b3;rcases gc with ⟨e,_⟩|⟨_,gg,e,hC⟩
 .exact absurd (by simpa using e) aK
 cases e;rw[cU,bd];have s1:=Im (pieces ls) pi {P with l:={P.l with aA:=Q.l.aA}};have kG:(pieces ls).set pi {P with l:={P.l with aA:=Q.l.aA}}=dx (pieces ls) pi Q.l.aA:=by unfold dx;rw[dK,hP];rfl
 rw[kG] at s1;have jM:(dx (pieces ls) pi Q.l.aA).length=ls.length:=by rw[nv,bd]
 obtain⟨Q',hQ'⟩:=aN (ls:=dx (pieces ls) pi Q.l.aA) (k:=qi) aa;have anB:=j7 hQ';have s2:=Im (dx (pieces ls) pi Q.l.aA) qi {Q' with l:={Q'.l with aA:=P.l.aA}};have fR:(dx (pieces ls) pi Q.l.aA).set qi {Q' with l:={Q'.l with aA:=P.l.aA}}=dx (dx (pieces ls) pi Q.l.aA) qi P.l.aA:=by rw[dx.eq_def (dx (pieces ls) pi Q.l.aA),dK,hQ'];rfl
 rw[fR] at s2;simp only[Pc.ps] at s1 s2;have vC:(dx (dx (pieces ls) pi Q.l.aA) qi P.l.aA).length=ls.length:=by rw[nv,jM]
 simp only[go_sem,b3,hC,hPp,anB,Pc.ps,s1,s2,p1,q1];generalize dx (dx (pieces ls) pi Q.l.aA) qi P.l.aA=M at vC |-;obtain⟨es,TR⟩:∃es,es=[av,bv]:=⟨_,rfl⟩;have FA:es.length=2:=by rw[TR];rfl
 have gG:∀e∈es,e<ls.length:=fun e he=>by rw[TR] at he;simp only[ch,eL,or_false] at he;rcases he with rfl|rfl<;>assumption
 refine dG (fun k ak aj=>ak 0=.one (.p (fA F ls))/\ak 14=.one (.hsl 6976384256 gg 7 0 ls.length)/\(∃ge,ak 116=.one (.hsl 6976512256 ge 1 0 2)/\aj 6976512256=(ge,some (.arr 3 1 (nP es))))/\ak 117=vi ((2:Nat):Int)/\ak 118=vi k/\aj 6976384256=(gg,some (.arr nu 7 (eI (dC ls M (es.take k)))))) 0 2 (cA _) ?_ ?_
 .simp only[go_sem];exact⟨⟨_,rfl,by rw[TR];rfl⟩,rfl,rfl⟩
 rintro k ak aj hk ⟨h0,mZ,⟨ge,Ft,bE⟩,adA,adB,bO⟩
 by_cases aB:k<2
 .have aP:((k:Int)<((2:Nat):Int)):=aa;have TX:k<es.length:=aa;obtain⟨e,he⟩:=aN TX;have N7:=kI he;have N5:=gG e (aZ he);have pe:=Ds g N5;have w1:=df (n:=k) aa;have oN:dC ls M (es.take (k+1))=eN ls (dC ls M (es.take k)) e:=by
   unfold dC;rw[nC,he,IK];rfl
  have kY:(dC ls M (es.take k)).length=ls.length:=by rw[qy,vC]
  have hm:=dk (e+1) (show 0<ls.length by omega);generalize dC ls M (es.take k)=m at bO oN kY;obtain⟨p,hp⟩:=aN (ls:=m) (k:=e) aa;obtain⟨q,hq⟩:=aN (ls:=m) (k:=(e+1)%ls.length) aa;have fG:=j7 hp;have DU:=j7 hq;have l1:e<m.length:=aa;have l2:(e+1)%ls.length<m.length:=aa;have s1:=Im m e q;have wN:(m.set e q).set ((e+1)%ls.length) p=eN ls m e:=by unfold eN nx;rw[dK,hq,dK,hp];rfl
  have s2:=Im (m.set e q) ((e+1)%ls.length) p;rw[wN,<- oN] at s2;simp only[Pc.ps] at s1 s2;obtain⟨q',rH⟩:=aN (ls:=m.set e q) (k:=(e+1)%ls.length) (by rw[nA];omega);have Ye:=j7 rH;simp only[go_sem,i109_l1,h0,mZ,Ft,adA,adB,bE,bO,aB,aP,N7,s134,aY pe bK,N5,hm,fG,DU,Ye,s1,s2,Pc.ps,w1];first|exact⟨aL,ge,rfl,rfl⟩|exact⟨aL,⟨ge,rfl,rfl⟩⟩|exact⟨aL,⟨ge,rfl,rfl⟩,rfl⟩|trace_state
 have:k=2:=aa;subst this;have e1:es.take 2=[av,bv]:=by rw[TR];rfl
 rw[e1] at bO;have vx:¬(((2:Nat):Int)<((2:Nat):Int)):=aa;simp only[go_sem,i109_l1,i109_r2,mZ,adA,adB,vx];have h1:(dC ls M [av,bv]).length=ls.length:=by rw[qy,vC]
 refine za (.inr ⟨?_,gg,by rw[ow,cU,h1],bO⟩);intro h2;have:=congrArg List.length h2;rw[ow,cU,h1,fv] at this;omega
def Vd(l:c_)(i:Nat)(g r:Int):c_:=l.set i {(l.getD i ⟨lN,false⟩) with l:={(l.getD i ⟨lN,false⟩).l with gate:=g,aA:=r}}
def trR(F:Nat)(ls:ai)(av:Nat):Option c_:=
 if ((pA ls av).l.kind==1)&&(decide ((pA ls av).l.gate<(F:Int))&&((pA ls av).l.aA==(cg ls (pA ls av).l.gate.toNat:Int)))
 then some (Vd (ke (pieces ls) ((pA ls av).l.gate+1) 0 1) av ((pA ls av).l.gate+1) 1) else none
def tlR(ls:ai)(av:Nat):Option c_:=
 if ((pA ls av).l.kind==1)&&(decide (0<(pA ls av).l.gate)&&((pA ls av).l.aA==1))
 then some (Vd (ke (pieces ls) (pA ls av).l.gate 1 (-1)) av ((pA ls av).l.gate-1) ((cg ls ((pA ls av).l.gate-1).toNat+1:Nat):Int)) else none
end
end Go.Abs
