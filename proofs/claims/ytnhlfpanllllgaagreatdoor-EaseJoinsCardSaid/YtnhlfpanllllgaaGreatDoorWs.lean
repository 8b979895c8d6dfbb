/- A part. -/
import Derived.Test.YtnhlfpanllllgaaGreatDoorWn
set_option linter.all false
open List renaming length->I
set_option maxRecDepth 100000
set_option maxHeartbeats 16000000
namespace Go.Abs
variable{f h:Nat}{x y z:PV}
section
variable{g:ae}{F:Nat}
def IF(l:cY)(drop:Nat->aU->Bool)(i:Nat):Option aU:=match l[i]? with|some p=>if drop i p then none else some p|none=>none
def ux(l:cY)(drop:Nat->aU->Bool)(k:Nat):cY:=(List.range k).filterMap (IF l drop)
def nb(l:cY)(drop:Nat->aU->Bool):cY:=ux l drop (I l)
def Bp{l:cY}{drop:Nat->aU->Bool}{k:Nat}{p:aU}(h:l[k]?=some p)(H:drop k p):ux l drop (k+1)=ux l drop k:=by simp[ux,r9,Pu,IF,h,H]
def Kp{l:cY}{drop:Nat->aU->Bool}{k:Nat}{p:aU}(h:l[k]?=some p)(H:drop k p=false):ux l drop (k+1)=ux l drop k++[p]:=by simp[ux,r9,Pu,IF,h,H]
def GF(l:cY)(drop:Nat->aU->Bool)(k:Nat):I (ux l drop k)<=k:=by have:=List.length_filterMap_le (IF l drop) (List.range k);rwa[Cq]at this
def Di(j:cK F g){e:Nat}(m:e<I g):aJ S 173 [.one (.p (gT F g)),aC e] (AM (.int .i64 e) (.int .i64 ((e+1)%I g:Nat))):=by have h:=j.len;have B:=cU g;have f:=cP (n:=e) J;have e1:=tf (e+1) (I g);have H:¬((I g:Int)=0):=J;refine bt axO ?_;simp only[go_sem,i173,f,e1,B,H,af,au];exact⟨aI,rfl⟩
def ak4(l:cY)(hl:I l<=1000000)(T:x.norm=x/\y.norm=y)(N:S.shared f=false)(drop:Nat->aU->Bool)(Q:∀(k:Nat) (p:aU),l[k]?=some p->aJ S f [aC k,.agg (p.ps.map .p),.one (.p x),.one (.p y)] (dn (drop k p))):
  aJ S 174 [.one (.p (.sl (fA l))),.one (.p (.fn f [] [x,y]))] (.one (aX oO 7 (fA (nb l drop)))):=by
 obtain⟨F,E⟩:=T;refine bt afI ?_;simp only[go_sem,aeq,F,E];refine c_ (λk A aj=>A 1=.one (.p (.fn f [] [x,y]))/\A 8=.one (.p (.sl (fA l)))/\A 9=aC (I l)/\A 10=aC k/\ ∃c,A 5=.one c/\aY 11136384192 oO 7 (fA (ux l drop k)) (.one c) aj) 0 (I l) (cE _) ?_ ?_
 .simp only[go_sem];first|exact⟨rfl,_,rfl,.inl ⟨rfl,rfl⟩⟩|exact⟨_,rfl,.inl ⟨rfl,rfl⟩⟩|exact⟨rfl,rfl,_,rfl,.inl ⟨rfl,rfl⟩⟩
 rintro k A aj Y ⟨H,m,u,D,c,z,B⟩
 by_cases j:k<I l
 .have M:((k:Int)<(I l:Int)):=J;obtain⟨p,hp⟩:=aR j;have O:=lQ hp;have L:=cP (n:=k) J;have g:=Q k p hp;have ff:=GF l drop k;simp only[aU.ps,eR,jS]at g;cases h:drop k p with
  |true=>rw[h]at g;have hs:=Bp hp h;simp only[go_sem,Gv,H,z,m,u,D,j,M,O,aU.ps,F,E,N,aD g,L];refine⟨c,rfl,?_⟩;rw[hs];exact B.of_eq (by simp only[aT,Nat.reduceEqDiff,if_false])
  |false=>rw[h]at g;have hs:=Kp hp h;simp only[go_sem,Gv,H,z,m,u,D,j,M,O,aU.ps,F,E,N,aD g];refine l_ (y:=11136384192) (id:=11136384192) (bytes:=56) (B:=[p.ps]) (rd:=[11136384128]) (B.of_eq (by simp only[aT,Nat.reduceEqDiff,if_false])) (by simp[fz,aT,aU.ps]) (.inl rfl) (by simp only[cH,dw,eK];omega) λR Z X jH=>?_;simp only[go_sem,H,m,u,D,j,L];refine⟨R,rfl,?_⟩;rw[hs,afU];exact X
 have:k=I l:=J;subst this;simp only[go_sem,Gv,aau,H,z,m,u,D,dW];exact uX B
def azf(l:cY)(hl:I l<=1000000)(Q:x.norm=x)(L:S.shared f=false)(drop:Nat->aU->Bool)(N:∀(k:Nat) (p:aU),l[k]?=some p->aJ S f [aC k,.agg (p.ps.map .p),.one (.p x)] (dn (drop k p))):
  aJ S 174 [.one (.p (.sl (fA l))),.one (.p (.fn f [] [x]))] (.one (aX oO 7 (fA (nb l drop)))):=by
 have B:=Q;refine bt afI ?_;simp only[go_sem,aeq,B];refine c_ (λk A aj=>A 1=.one (.p (.fn f [] [x]))/\A 8=.one (.p (.sl (fA l)))/\A 9=aC (I l)/\A 10=aC k/\ ∃c,A 5=.one c/\aY 11136384192 oO 7 (fA (ux l drop k)) (.one c) aj) 0 (I l) (cE _) ?_ ?_
 .simp only[go_sem];first|exact⟨rfl,_,rfl,.inl ⟨rfl,rfl⟩⟩|exact⟨_,rfl,.inl ⟨rfl,rfl⟩⟩|exact⟨rfl,rfl,_,rfl,.inl ⟨rfl,rfl⟩⟩
 rintro k A aj T ⟨H,m,u,D,c,y,z⟩
 by_cases j:k<I l
 .have F:((k:Int)<(I l:Int)):=J;obtain⟨p,hp⟩:=aR j;have M:=lQ hp;have E:=cP (n:=k) J;have g:=N k p hp;have Y:=GF l drop k;simp only[aU.ps,eR,jS]at g;cases h:drop k p with
  |true=>rw[h]at g;have hs:=Bp hp h;simp only[go_sem,Gv,H,y,m,u,D,j,F,M,aU.ps,B,L,aD g,E];refine⟨c,rfl,?_⟩;rw[hs];exact z.of_eq (by simp only[aT,Nat.reduceEqDiff,if_false])
  |false=>rw[h]at g;have hs:=Kp hp h;simp only[go_sem,Gv,H,y,m,u,D,j,F,M,aU.ps,B,L,aD g];refine l_ (y:=11136384192) (id:=11136384192) (bytes:=56) (B:=[p.ps]) (rd:=[11136384128]) (z.of_eq (by simp only[aT,Nat.reduceEqDiff,if_false])) (by simp[fz,aT,aU.ps]) (.inl rfl) (by simp only[cH,dw,eK];omega) λO X R Z=>?_;simp only[go_sem,H,m,u,D,j,E];refine⟨O,rfl,?_⟩;rw[hs,afU];exact R
 have:k=I l:=J;subst this;simp only[go_sem,Gv,aau,H,y,m,u,D,dW];exact uX z
def akA(k i j:Nat)(p:aU):aJ S 175 [aC k,.agg (p.ps.map .p),.one (.p (.box [.int .i64 i])),.one (.p (.box [.int .i64 j]))] (dn (decide (k=i)||decide (k=j))):=by
 refine bt arM ?_;by_cases H:k=i
 .have e1:((k:Int)==(i:Int)):=by simp[H]
  rw[show(decide (k=i)||decide (k=j))=true by simp[H]];simp only[go_sem,Tv,aU.ps,e1,af,au]
 have e1:((k:Int)==(i:Int))=false:=by simp;omega
 by_cases h:k=j
 .have e2:((k:Int)==(j:Int)):=by simp[h]
  rw[show(decide (k=i)||decide (k=j))=true by simp[h]];simp only[go_sem,Tv,aU.ps,e1,e2,af,au]
 have e2:((k:Int)==(j:Int))=false:=by simp;omega
 rw[show(decide (k=i)||decide (k=j))=false by simp[H,h]];simp only[go_sem,Tv,aU.ps,e1,e2,af,au]
def qT(a b:Int):Int:=if a<b then b else a
def yf(a b:Int):Int:=if b<a then b else a
def yz(g:ae)(h:Nat):Option cY:=
 let p:=(cq g).getD h ⟨lD,false⟩
 let q:=(cq g).getD ((h+1)%I g) ⟨lD,false⟩
 if(p.l.kind==1)&&((q.l.kind==1)&&((p.l.gate==q.l.gate)&&((qT p.l.ay q.l.ay-yf p.l.ay q.l.ay==1)&& !(decide (ai aa.aM g<=2)&&decide (0<ai aa.aF g/2)))))
 then some (lz (nb (cq g) λk _=>decide (k=h)||decide (k=(h+1)%I g)) p.l.gate (qT p.l.ay q.l.ay) (-2))else none
def acF{l:cY}{drop:Nat->aU->Bool}{p:aU}(h:p∈nb l drop):p∈l:=by
 obtain⟨i,_,H⟩:=Ae.1 h;unfold IF at H;cases hl:l[i]? with
 |none=>rw[hl]at H;cases H
 |some q=>
  rw[hl]at H;simp only at H;split at H
  .cases H
  cases H;exact ch hl
def azU(ag:cK F g)(H:h<I g){k b c:Int}{l o:Bool}{sg:Int}:
  aJ S 146 [.one (.p (gT F g)),gP k h b c l o sg] (Gw (yz g h)):=by
 have ab:=ag.len;have B:=cU g;have f:=Di ag H;have m:=fC (h+1) (show 0<I g by omega);have R:=aak ag;obtain⟨p,hp⟩:=aR (L:=cq g) (k:=h) J;obtain⟨q,T⟩:=aR (L:=cq g) (k:=(h+1)%I g) J;obtain⟨p1,p2⟩:=R p (ch hp);obtain⟨q1,q2⟩:=R q (ch T);have j:=lQ hp;have Q:=lQ T;have kh:S.shared 176:=ah;have lo:S.lone 9344320320=false:=ah;have hU:=ag.cr;unfold yz;simp only[dS,hp,T,mO];refine bt aGp ?_;cases c1:(p.l.kind==1)with
 |false=>
  have N:(p.l.kind !=1):=by simp[bne,c1]
  simp only[go_sem,EP,eJ,a_ f cS,j,Q,aU.ps,B,H,m,N];exact⟨aI,rfl⟩
 |true=>
 have N:(p.l.kind !=1)=false:=by simp[bne,c1]
 cases c2:(q.l.kind==1)with
 |false=>
  have u:(q.l.kind !=1):=by simp[bne,c2]
  simp only[go_sem,EP,eJ,a_ f cS,j,Q,aU.ps,B,H,m,N,u];exact⟨aI,rfl⟩
 |true=>
 have u:(q.l.kind !=1)=false:=by simp[bne,c2]
 cases c3:(p.l.gate==q.l.gate)with
 |false=>
  have y:(p.l.gate !=q.l.gate):=by simp[bne,c3]
  simp only[go_sem,EP,eJ,a_ f cS,j,Q,aU.ps,B,H,m,N,u,y];exact⟨aI,rfl⟩
 |true=>
 have y:(p.l.gate !=q.l.gate)=false:=by simp[bne,c3]
 have z:(if q.l.ay>p.l.ay then q.l.ay else p.l.ay)=qT p.l.ay q.l.ay:=rfl;have O:(if q.l.ay<p.l.ay then q.l.ay else p.l.ay)=yf p.l.ay q.l.ay:=rfl;have ad: -1000000<=qT p.l.ay q.l.ay/\qT p.l.ay q.l.ay<=1000000:=by unfold qT;split<;>omega
 have ac: -1000000<=yf p.l.ay q.l.ay/\yf p.l.ay q.l.ay<=1000000:=by unfold yf;split<;>omega
 have M:=nK (x:=qT p.l.ay q.l.ay-yf p.l.ay q.l.ay) J J;generalize qT p.l.ay q.l.ay=Y at*;generalize yf p.l.ay q.l.ay=mn at*;cases c5:(Y-mn==1)with
 |false=>
  have D:(Y-mn !=1):=by simp[bne,c5]
  simp only[go_sem,EP,eJ,a_ f cS,j,Q,aU.ps,B,H,m,N,u,y,z,O,M,D];exact⟨aI,rfl⟩
 |true=>
 have D:(Y-mn !=1)=false:=by simp[bne,c5]
 have fK:∀(X:Prop),X->X:=λ_ ak=>ak;by_cases c4:ai aa.aM g<=2
 .have L:((ai aa.aM g:Int)<=2):=J;by_cases ft:0<ai aa.aF g/2
  .have Z:((0:Int)<((ai aa.aF g/2:Nat):Int)):=J;rw[xi c4,xi ft];simp only[go_sem,EP,eJ,a_ f cS,j,Q,aU.ps,B,H,m,N,u,y,z,O,M,D,L,Z];exact⟨aI,rfl⟩
  have Z:¬((0:Int)<((ai aa.aF g/2:Nat):Int)):=J;rw[xi c4,tJ ft];simp only[go_sem,EP,eJ,a_ f cS,j,Q,aU.ps,B,H,m,N,u,y,z,O,M,D,L,Z,ad0];refine⟨aI,?_⟩;refine qW (ak4 (cq g) J ⟨rfl,rfl⟩ aoI (λk _=>decide (k=h)||decide (k=(h+1)%I g)) (λk p _=>akA k h ((h+1)%I g) p)) lo (.inr (pA (CX _))) λcc bY gc A=>?_;have b8:=A 9344128896 U;have E:=A 9344128960 U;simp only[go_sem]at b8 E;simp only[go_sem,b8,E,z,kh];refine apy (l:=nb (cq g) λk _=>decide (k=h)||decide (k=(h+1)%I g)) (lX (GF _ _ _) J) U (λx hx=>R x (acF hx)) gc λbJ uK bl=>?_;simp only[go_sem];exact zU uK
 have L:¬((ai aa.aM g:Int)<=2):=J;rw[tJ c4];simp only[go_sem,EP,eJ,a_ f cS,j,Q,aU.ps,B,H,m,N,u,y,z,O,M,D,L,ad0];refine⟨aI,?_⟩;refine qW (ak4 (cq g) J ⟨rfl,rfl⟩ aoI (λk _=>decide (k=h)||decide (k=(h+1)%I g)) (λk p _=>akA k h ((h+1)%I g) p)) lo (.inr (pA (CX _))) λcc bY gc A=>?_;have b8:=A 9344128896 U;have E:=A 9344128960 U;simp only[go_sem]at b8 E;simp only[go_sem,b8,E,z,kh];refine apy (l:=nb (cq g) λk _=>decide (k=h)||decide (k=(h+1)%I g)) (lX (GF _ _ _) J) U (λx hx=>R x (acF hx)) gc λbJ uK bl=>?_;simp only[go_sem];exact zU uK
abbrev dR(o:cV):s_:=o.map λn=>[PV.int .i64 n]
def vT{o:cV}{k:Nat}{v:Int}(h:o[k]?=some v):(dR o)[k]?=some [.int .i64 v]:=by simp[h]
def pZ(o:cV)(x:Int)(i:Nat):Bool:=match o[i]? with|some y=>y==x|none=>false
def avj(o:cV)(x:Int)(hl:I o<=1000000):aJ S 232 [.one (.p (.sl (dR o))),aC x] (fQ (match (List.range (I o)).find? (pZ o x)with|some k=>(k:Int)|none=> -1)):=by
 refine bt awz ?_;simp only[go_sem,i232,af,au];refine c_ (λk A aj=>A 0=.one (.p (.sl (dR o)))/\A 1=aC x/\A 7=aC (I o)/\A 8=aC k/\ ∀j,j<k->pZ o x j=false) 0 (I o) (cE _) ?_ ?_
 .simp only[go_sem];exact⟨rfl,λj D=>absurd D (mX j)⟩
 rintro k A aj T ⟨z,N,E,m,B⟩
 by_cases f:k<I o
 .have O:((k:Int)<(I o:Int)):=J;obtain⟨y,M⟩:=aR f;have L:=vT M;have R:=cP (n:=k) J;have u:pZ o x k=(y==x):=by simp[pZ,M]
  cases H:(y==x)with
  |true=>
   have Q:(x==y):=by have:=dI.1 H;simp[this]
   rw[H]at u;have g:=Cz (p:=pZ o x) f B u;simp only[go_sem,SA,z,N,E,m,f,O,L,H,Q,g,af,au];first|done|exact aI|rfl
  |false=>
   have Q:(x==y)=false:=by
    have:¬y=x:=by simpa using H
    simp;exactλh=>this h.symm
   rw[H]at u;have F:∀j,j<k+1->pZ o x j=false:=λj D=>by
    rcases m_.1 D with h|rfl
    .exact B j h
    exact u
   simp only[go_sem,SA,z,N,E,m,f,O,L,H,Q,R,af,au];first|exact F|exact⟨aI,F⟩
 have:k=I o:=J;subst this;have g:=Gb (p:=pZ o x) B;simp only[go_sem,SA,apH,z,E,m,dW,g,af,au]
def aE6(o:cV)(x:Int)(hl:I o<=1000000):aJ S 206 [.one (.p (.sl (dR o))),aC x] (dn (o.contains x)):=by
 have f:=avj o x hl;refine bt aHj ?_;cases u:o.contains x with
 |true=>
  have N:x∈o:=by simpa using u
  obtain⟨k,z⟩:=jL N;have F:=(cD.1 z).1;cases h:(List.range (I o)).find? (pZ o x)with
  |none=>have:=GU.1 h k (gI.2 F);simp[pZ,z]at this
  |some j=>rw[h]at f;have m:(0:Int)<=(j:Int):=J;simp only[go_sem,X4,apd,dP f,m,af,au]
 |false=>
  have N:x∉o:=by simpa using u
  cases h:(List.range (I o)).find? (pZ o x)with
  |some j=>
   have H:=IK h;unfold pZ at H;cases g:o[j]? with
   |none=>rw[g]at H;cases H
   |some y=>
    rw[g]at H;have:y=x:=by simpa using H
    subst this;exact absurd (ch g) N
  |none=>rw[h]at f;have m:¬(0:Int)<= -1:=U;simp only[go_sem,X4,apd,dP f,m,af,au]
def ri(ids:cV)(_:Nat)(p:aU):Bool:=(p.l.kind==2)&&ids.contains p.l.id
def aEO(ids:cV)(hl:I ids<=1000000)(k:Nat)(p:aU):aJ S 205 [aC k,.agg (p.ps.map .p),.one (.p (.box [.sl (dR ids)]))] (dn (ri ids k p)):=by
 have pc:=aE6 ids p.l.id hl;refine bt axG ?_;unfold ri;cases h:(p.l.kind==2)with
 |true=>simp only[go_sem,abq,aU.ps,h,atg,aD pc,af,au]
 |false=>simp only[go_sem,abq,aU.ps,h,af,au]
def lJ(ids:cV)(k:Nat)(p:aU):aU:={p with l:={p.l with id:=p.l.id-((ids.take k).countP (λi=>decide (i<p.l.id)):Nat)}}
def oZ(ids:cV)(p:aU):aU:=if p.l.kind==2 then lJ ids (I ids) p else p
abbrev Fy(l:cY)(ids:cV):cY:=(nb l (ri ids)).map (oZ ids)
abbrev uI(ids:cV)(l:cY)(k:Nat):cY:=(l.take k).map (oZ ids)++l.drop k
def amF{ids:cV}{l:cY}{k:Nat}{p:aU}(h:l[k]?=some p):(uI ids l k)[k]?=some p:=by have H:=(cD.1 h).1;rw[uI,vI (by rw[cH,iM];omega),cH,iM,wS J,ze,yt];exact h
def aCF(ids:cV)(l:cY)(k:Nat):I (uI ids l k)=I l:=by rw[uI,fv,cH,iM,l8];omega
def aDh{ids:cV}{l:cY}{k:Nat}{p:aU}(h:l[k]?=some p):(uI ids l k).set k (oZ ids p)=uI ids l (k+1):=by
 have f:=(cD.1 h).1;have z:l.drop k=p::l.drop (k+1):=by obtain⟨H,rfl⟩:=cD.1 h;exact Kv H
 have e1:I ((l.take k).map (oZ ids))=k:=by rw[cH,iM];omega
 rw[uI,J3 _ _ J,e1,ze,z,Vt,uI,iJ,h];simp
def G5(o:cY)(k:Nat)(p:aU):(fA o).set k p.ps=fA (o.set k p):=by simp[xf]
def afL(l:cY)(ids:cV)(hl:I l<=1000000)(hi:I ids<=1000)(hb:∀p∈l,-1000000<=p.l.id/\p.l.id<=1000000):
  aJ S 182 [.one (.p (.sl (fA l))),.one (.p (.sl (dR ids)))] (.one (aX oO 7 (fA (Fy l ids)))):=by
 have pw:=azf l hl (f:=205) (x:=.box [.sl (dR ids)]) rfl aw0 (ri ids) (λk p _=>aEO ids J k p);have lo:S.lone 11648064128=false:=ah;have pS:∀p∈nb l (ri ids),-1000000<=p.l.id/\p.l.id<=1000000:=λp hp=>hb p (acF hp);have ff:I (nb l (ri ids))<=1000000:=lX (GF _ _ _) hl;refine bt aGP ?_;simp only[go_sem,ahB,ad0];refine qW pw lo (.inr (pA (CX _))) λcc pG gc nQ=>?_;have z3:=nQ 11648000000 U;simp only[go_sem]at z3;unfold Fy;generalize nb l (ri ids)=m at gc pS ff;rcases gc with⟨e,e2⟩|⟨aN,u,e2,hC⟩
 .cases e2;have:m=[]:=by simpa using e
  subst this;have hz:¬(((0:Nat):Int)<((0:Nat):Int)):=J;simp only[go_sem];refine c_ (λk A aj=>k=0/\A 5=.one (.p .nils)/\A 14=aC ((0:Nat):Int)/\A 15=aC ((0:Nat):Int)) 0 0 (cT _) ?_ ?_
  .simp only[go_sem];exact rfl
  rintro k A aj _ ⟨rfl,H,B,T⟩
  simp only[go_sem,MG,aaB,H,B,T,hz];rfl
 cases e2;simp only[go_sem];refine c_ (λk A aj=>A 3=.one (.bh 11648000000 1 0)/\aj 11648000000=(1,some (.var [.p (.sl (dR ids))]))/\A 5=.one (.hsl 11648064128 u 7 0 (I m))/\A 13=.one (.hsl 11648064128 u 7 0 (I m))/\A 14=aC (I m)/\A 15=aC k/\aj 11648064128=(u,some (.arr oO 7 (fA (uI ids m k))))) 0 (I m) (cE _) ?_ ?_
 .simp only[go_sem,z3,hC];refine⟨rfl,?_⟩;simp[uI]
 rintro k A aj hk ⟨Q,bI,H,O,B,T,E⟩
 by_cases F:k<I m
 .have aO:((k:Int)<(I m:Int)):=J;obtain⟨p,hp⟩:=aR F;have Z:=lQ (amF (ids:=ids) hp);have w1:=cP (n:=k) J;have qP:=aCF ids m k;have R:=aDh (ids:=ids) hp;have LX:k<I (uI ids m k):=J;cases Y:(p.l.kind==2)with
  |false=>
   have n1:(p.l.kind !=2):=by simp[bne,Y]
   have Ee:uI ids m (k+1)=uI ids m k:=by
    rw[<-R];have e:oZ ids p=p:=by unfold oZ;rw[Y];rfl
    rw[e];obtain⟨hh,he⟩:=cD.1 (amF (ids:=ids) hp);rw[<-he,Ra]
   simp only[go_sem,MG,abT,Q,bI,H,O,B,T,E,F,aO,LX,Z,aU.ps,n1,w1,Ee]
  |true=>
   have n1:(p.l.kind !=2)=false:=by simp[bne,Y]
   have ac:=pS p (ch hp);have Cl:oZ ids p=lJ ids (I ids) p:=by unfold oZ;rw[Y];rfl
   rw[Cl]at R;generalize uI ids m k=q at Z qP R LX E;have q0:q.set k (lJ ids 0 p)=q:=by
    have:lJ ids 0 p=p:=by unfold lJ;simp
    rw[this];have h1:q[k]?=some p:=by
     have h:(fA q)[k]?=some p.ps:=Z;rw[fY]at h;cases hq:q[k]? with
     |none=>rw[hq]at h;cases h
     |some x=>rw[hq]at h;simp[aU.ps]at h;obtain⟨⟨a,b,c,d,e,f⟩,g⟩:=x;obtain⟨⟨a',b',c',d',e',f'⟩,g'⟩:=p;simp at h;obtain⟨rfl,rfl,rfl,rfl,rfl,rfl,rfl⟩:=h;rfl
    obtain⟨hh,he⟩:=cD.1 h1;rw[<-he,Ra]
   simp only[go_sem,MG,Q,bI,H,O,B,T,E,F,aO,LX,Z,aU.ps,n1];refine c_ (λj D bJ=>D 3=.one (.bh 11648000000 1 0)/\bJ 11648000000=(1,some (.var [.p (.sl (dR ids))]))/\D 5=.one (.hsl 11648064128 u 7 0 (I m))/\D 13=.one (.hsl 11648064128 u 7 0 (I m))/\D 14=aC (I m)/\D 15=aC k/\D 6=aC k/\D 24=.one (.p (.sl (dR ids)))/\D 25=aC (I ids)/\D 26=aC j/\
    (∃M,D 7=.one (.bh 11648256192 M 0)/\bJ 11648256192=(M,some (.var (p.ps.map .p))))/\bJ 11648064128=(u,some (.arr oO 7 (fA (q.set k (lJ ids j p)))))) 0 (I ids) (cE _) ?_ ?_
   .simp only[go_sem,Q,bI,H,O,B,T,E,q0];first|exact⟨rfl,_,⟨rfl,rfl⟩,rfl⟩|exact⟨rfl,⟨_,rfl,rfl⟩⟩|exact⟨_,rfl,rfl⟩|exact⟨⟨_,rfl,rfl⟩,rfl⟩|exact⟨rfl,⟨_,rfl,rfl⟩,rfl⟩|trace_state
   rintro j D bJ hj ⟨p3,cI,p5,y,mJ,CZ,p6,L,z,MI,⟨M,p7,c7⟩,lV⟩
   by_cases vz:j<I ids
   .have Jb:((j:Int)<(I ids:Int)):=J;obtain⟨d,hd⟩:=aR vz;have mf:=vT hd;have w2:=cP (n:=j) J;have vt:(ids.take (j+1)).countP (λi=>decide (i<p.l.id))=(ids.take j).countP (λi=>decide (i<p.l.id))+if d<p.l.id then 1 else 0:=by
     rw[iJ,hd,vH];simp[vh,List.countP_nil]
    have cN:(ids.take j).countP (λi=>decide (i<p.l.id))<=j:=lX Hn (by rw[iM];omega);have ab:(fA (q.set k (lJ ids j p)))[k]?=some (lJ ids j p).ps:=lQ (by rw[mA,aH rfl,aH J]);have sD:k<I (q.set k (lJ ids j p)):=by rw[kI];omega
    by_cases X:d<p.l.id
    .have e1:(lJ ids j p).l.id-1=(lJ ids (j+1) p).l.id:=by
      unfold lJ;simp only;rw[vt,aH X];omega
     have w3:IntKind.i64.wrap ((lJ ids j p).l.id-1)=(lJ ids (j+1) p).l.id:=by rw[<-e1];exact nK (by unfold lJ;simp only;omega) (by unfold lJ;simp only;omega)
     have dT:((lJ ids (j+1) p).ps)=[.int .i64 (lJ ids j p).l.kind,.int .i64 (lJ ids j p).l.gate,.int .i64 (lJ ids j p).l.ay,.int .i64 (lJ ids (j+1) p).l.id,.int .i64 (lJ ids j p).l.sign,.bool (lJ ids j p).l.over,.bool (lJ ids j p).d]:=rfl;have N:(fA (q.set k (lJ ids j p))).set k (lJ ids (j+1) p).ps=fA (q.set k (lJ ids (j+1) p)):=by rw[G5,List.set_set]
     rw[dT]at N;generalize lJ ids j p=x at*;simp only[go_sem,RW,p3,cI,p5,y,mJ,CZ,p6,L,z,MI,p7,c7,lV,F,vz,Jb,mf,X,ab,sD,aU.ps,w2,w3,N];exact⟨M,rfl,rfl⟩
    have e1:lJ ids (j+1) p=lJ ids j p:=by unfold lJ;rw[vt,aw X];simp
    simp only[go_sem,RW,p3,cI,p5,y,mJ,CZ,p6,L,z,MI,p7,c7,lV,vz,Jb,mf,X,aU.ps,w2,e1];exact⟨M,rfl,rfl⟩
   have:j=I ids:=J;subst this;rw[R]at lV;simp only[go_sem,RW,abT,p3,cI,p5,y,mJ,CZ,MI,z,lV,dW,w1,F]
 have:k=I m:=J;subst this;have e1:uI ids m (I m)=m.map (oZ ids):=by rw[uI,jN,Ak,lg]
 rw[e1]at E;simp only[go_sem,MG,aaB,Q,H,O,B,T,dW];have mD:m.map (oZ ids)≠[]:=by simpa using aN
 exact uX (.inr ⟨by simpa using mD,u,aQ,E⟩)
def cK.ids(f:cK F g):abc g/\GW g:=by have h:=f.ok.cr;unfold nX at h;simp only[dj]at h;exact G9.1 λk H=>jP.1 h.1.2 k (gI.2 H)
def azn{p:aU}(h:p∈cq g):∃(i:Nat) (l:aa),g[i]?=some l/\p=⟨l,jK g i⟩:=by
 obtain⟨i,H⟩:=jL h;have m:i<I g:=by rw[<-cU];exact(cD.1 H).1
 obtain⟨l,hl⟩:=aR m;rw[nR hl]at H;cases H;exact⟨i,l,hl,rfl⟩
def adH(j:cK F g):∀p∈cq g,-1000000<=p.l.id/\p.l.id<=1000000:=by
 intro p hp;obtain⟨i,l,hl,rfl⟩:=azn hp;have H:=ch hl;rcases j.ok.kinds l H with h|h
 .have:=(sU (f:=(F:Int)) h).1 (j.bad l H);simp only[this.1.1.2];omega
 have m:=j.ids.1 l H h;have:=j.cr;simp only;omega
def yj(g:ae)(h:Nat):Option cY:=
 let p:=(cq g).getD h ⟨lD,false⟩
 let q:=(cq g).getD ((h+1)%I g) ⟨lD,false⟩
 if(p.l.kind==2)&&((q.l.kind==2)&&(p.l.id==q.l.id))then some (Fy (cq g) [p.l.id])else none
def aCo(R:cK F g)(H:h<I g){k b c:Int}{l o:Bool}{sg:Int}:
  aJ S 149 [.one (.p (gT F g)),gP k h b c l o sg] (Gw (yj g h)):=by
 have A:=R.len;have B:=cU g;have j:=Di R H;have m:=fC (h+1) (show 0<I g by omega);obtain⟨p,hp⟩:=aR (L:=cq g) (k:=h) J;obtain⟨q,D⟩:=aR (L:=cq g) (k:=(h+1)%I g) J;have f:=lQ hp;have Q:=lQ D;have lo:S.lone 9536256896=false:=ah;unfold yj;simp only[dS,hp,D,mO];refine bt aBA ?_;cases E:(p.l.kind==2)with
 |false=>
  have N:(p.l.kind !=2):=by simp[bne,E]
  simp only[go_sem,N1,eJ,a_ j cS,f,Q,aU.ps,B,H,m,N];exact⟨aI,rfl⟩
 |true=>
 have N:(p.l.kind !=2)=false:=by simp[bne,E]
 cases y:(q.l.kind==2)with
 |false=>
  have u:(q.l.kind !=2):=by simp[bne,y]
  simp only[go_sem,N1,eJ,a_ j cS,f,Q,aU.ps,B,H,m,N,u];exact⟨aI,rfl⟩
 |true=>
 have u:(q.l.kind !=2)=false:=by simp[bne,y]
 cases z:(p.l.id==q.l.id)with
 |false=>
  have x:(p.l.id !=q.l.id):=by simp[bne,z]
  simp only[go_sem,N1,eJ,a_ j cS,f,Q,aU.ps,B,H,m,N,u,x];exact⟨aI,rfl⟩
 |true=>
 have x:(p.l.id !=q.l.id)=false:=by simp[bne,z]
 have O:=afL (cq g) [p.l.id] J aQ (adH R);simp only[go_sem,N1,eJ,a_ j cS,f,Q,aU.ps,B,H,m,N,u,x,iz];refine⟨aI,?_⟩;refine apD O lo (.inr (pA (CX _))) λT Y w M X L=>?_;simp only[go_sem];refine⟨?_,zU M⟩;rcases L with rfl|rfl<;>kernel_rfl
abbrev aW(ls:ae)(i:Nat):aU:=(cq ls).getD i ⟨lD,false⟩
def ml{i:Nat}{p:aU}(h:(cq g)[i]?=some p):aW g i=p:=by simp[aW,dS,h]
abbrev aK(ls:ae)(e:Nat):Nat:=(e+1)%I ls
def jY(g:ae)(e:Nat)(ov:Bool):Bool:=((aW g e).l.kind==2)&&(((aW g (aK g e)).l.kind==2)&&(((aW g e).l.over==ov)&&((aW g (aK g e)).l.over==ov)))
def JN(A:cK F g){e:Nat}(h:e<I g)(ov:Bool):aJ S 184 [.one (.p (gT F g)),aC e,fT ov] (dn (jY g e ov)):=by
 have z:=A.len;have B:=cU g;have j:=Di A h;have H:=fC (e+1) (show 0<I g by omega);obtain⟨p,hp⟩:=aR (L:=cq g) (k:=e) J;obtain⟨q,y⟩:=aR (L:=cq g) (k:=(e+1)%I g) J;have f:=lQ hp;have Q:=lQ y;unfold jY;rw[ml hp,ml y];refine bt azu ?_;cases m:(p.l.kind==2)with
 |false=>simp only[go_sem,JM,eJ,a_ j cS,f,Q,aU.ps,B,h,H,m]
 |true=>
 cases u:(q.l.kind==2)with
 |false=>simp only[go_sem,JM,eJ,a_ j cS,f,Q,aU.ps,B,h,H,m,u]
 |true=>
 cases x:(p.l.over==ov)with
 |false=>simp only[go_sem,JM,eJ,a_ j cS,f,Q,aU.ps,B,h,H,m,u,x]
 |true=>
 cases c5:(q.l.over==ov)with
 |false=>simp only[go_sem,JM,eJ,a_ j cS,f,Q,aU.ps,B,h,H,m,u,x,c5]
 |true=>simp only[go_sem,JM,eJ,a_ j cS,f,Q,aU.ps,B,h,H,m,u,x,c5]
def fp(g:ae)(e:Nat):Nat×Nat×Bool:=if(aW g e).l.kind==2 then(aK g e,e,(aW g (aK g e)).l.kind==1)else(e,aK g e,((aW g e).l.kind==1)&&((aW g (aK g e)).l.kind==2))
abbrev amX(a b c:PV):RV:=.tup [.one (.p a),.one (.p b),.one (.p c)]
def yR{aj:aB}{s:Nat}{a b c:PV}{l:Bool}:eF aj [] s ((amX a b c).fi l)=some (.tup [.one (.p a),.one (.p b),.one (.p c)],[]):=by cases l<;>rfl
def am7(A:cK F g){e:Nat}(h:e<I g):aJ S 180 [.one (.p (gT F g)),aC e] (amX (.int .i64 ((fp g e).1:Nat)) (.int .i64 ((fp g e).2.1:Nat)) (.bool (fp g e).2.2)):=by
 have z:=A.len;have B:=cU g;have u:=Di A h;have H:=fC (e+1) (show 0<I g by omega);obtain⟨p,hp⟩:=aR (L:=cq g) (k:=e) J;obtain⟨q,y⟩:=aR (L:=cq g) (k:=(e+1)%I g) J;have m:=lQ hp;have Q:=lQ y;unfold fp;rw[ml hp,ml y];refine bt aqS ?_;cases j:(p.l.kind==2)with
 |true=>
  have e1:p.l.kind=2:=by simpa using j
  rw[aH rfl];cases f:(q.l.kind==1)with
  |true=>simp only[go_sem,J4,eJ,a_ u cS,m,Q,aU.ps,B,h,H,j,f];exact⟨aI,rfl⟩
  |false=>simp only[go_sem,J4,eJ,a_ u cS,m,Q,aU.ps,B,h,H,j,f];exact⟨aI,rfl⟩
 |false=>
  rw[aw U];cases f:(p.l.kind==1)with
  |true=>
   cases x:(q.l.kind==2)with
   |true=>simp only[go_sem,J4,eJ,a_ u cS,m,Q,aU.ps,B,h,H,j,f,x];exact⟨aI,rfl⟩
   |false=>simp only[go_sem,J4,eJ,a_ u cS,m,Q,aU.ps,B,h,H,j,f,x];exact⟨aI,rfl⟩
  |false=>simp only[go_sem,J4,eJ,a_ u cS,m,Q,aU.ps,B,h,H,j,f];exact⟨aI,rfl⟩
def BH(o:aG)(pr:Nat->Bool)(i:Nat):Bool:=match o[i]? with|some v=>pr v|none=>false
def aGG(o:aG)(hl:I o<=1000000)(hn:x.norm=x/\y.norm=y/\z.norm=z)(Y:S.shared f=false)(pr:Nat->Bool)(hd:∀v∈o,aJ S f [aC (v:Nat),.one (.p x),.one (.p y),.one (.p z)] (dn (pr v))):
  aJ S 231 [.one (.p (.sl (cg o))),.one (.p (.fn f [] [x,y,z]))] (fQ (match (List.range (I o)).find? (BH o pr)with|some k=>(k:Int)|none=> -1)):=by
 obtain⟨Q,O,M⟩:=hn;refine bt aql ?_;simp only[go_sem,ak8,Q,O,M,af,au];refine c_ (λk A aj=>A 0=.one (.p (.sl (cg o)))/\A 1=.one (.p (.fn f [] [x,y,z]))/\A 7=aC (I o)/\A 8=aC k/\ ∀j,j<k->BH o pr j=false) 0 (I o) (cE _) ?_ ?_
 .simp only[go_sem];exact⟨rfl,λj L=>absurd L (mX j)⟩
 rintro k A aj hk ⟨H,B,D,F,X⟩
 by_cases g:k<I o
 .have T:((k:Int)<(I o:Int)):=J;obtain⟨v,N⟩:=aR g;have Z:=jZ N;have w1:=cP (n:=k) J;have m:=hd v (ch N);have u:BH o pr k=pr v:=by simp[BH,N]
  cases R:pr v with
  |true=>rw[R]at m u;have E:=Cz (p:=BH o pr) g X u;simp only[go_sem,Vx,H,B,D,F,g,T,Z,Y,Q,O,M,aD m,E,af,au]
  |false=>
   rw[R]at m u;simp only[go_sem,Vx,H,B,D,F,g,T,Z,Y,Q,O,M,aD m,w1,af,au];intro j L;rcases m_.1 L with h|rfl
   .exact X j h
   exact u
 have:k=I o:=J;subst this;have E:=Gb (p:=BH o pr) X;simp only[go_sem,Vx,ag9,H,B,D,F,dW,E,af,au]
def aub(o:aG)(hl:I o<=1000000)(A:x.norm=x/\y.norm=y/\z.norm=z)(N:S.shared f=false)(pr:Nat->Bool)(L:∀v∈o,aJ S f [aC (v:Nat),.one (.p x),.one (.p y),.one (.p z)] (dn (pr v))):
  aJ S 203 [.one (.p (.sl (cg o))),.one (.p (.fn f [] [x,y,z]))] (dn (o.any pr)):=by
 have g:=aGG o hl A N pr L;obtain⟨F,E,M⟩:=A;refine bt ayB ?_;cases D:o.any pr with
 |true=>
  obtain⟨v,O,hp⟩:=CQ.1 D;obtain⟨k,B⟩:=jL O;have Q:=(cD.1 B).1;cases h:(List.range (I o)).find? (BH o pr)with
  |none=>have:=GU.1 h k (gI.2 Q);simp[BH,B,hp]at this
  |some j=>rw[h]at g;have u:(0:Int)<=(j:Int):=J;simp only[go_sem,adG,akG,F,E,M,dP g,u,af,au]
 |false=>
  cases h:(List.range (I o)).find? (BH o pr)with
  |some j=>
   have H:=IK h;unfold BH at H;cases m:o[j]? with
   |none=>rw[m]at H;cases H
   |some v=>rw[m]at H;have:=E5.1 D v (ch m);exact absurd H this
  |none=>rw[h]at g;have u:¬(0:Int)<= -1:=U;simp only[go_sem,adG,akG,F,E,M,dP g,u,af,au]
def vL(f:dV)(e:Nat):Nat:=f.cn.countP λd=>d/2==e
def wT(f:dV)(pl:Nat)(E:aG):Bool:=(I f.cn==I E)&&((I f.places==pl)&&E.all λe=>vL f e==1)
def al9(ad:cK F g){j:Nat}{f:dV}(Z:(eD F g)[j]?=some f)(E:aG)(he:I E<=1000)(pl:Nat):
  aJ S 204 [aC j,.one (.p (.box [gT F g])),.one (.p (.box [.sl (cg E)])),.one (.p (.box [.int .i64 pl]))] (dn (wT f pl E)):=by
 have ac:=ad.len;have hJ:I (aL g)<=I g:=uq g (I g);have DT:=RZ ad.ok (ch Z);have gk:ct g<=1600:=by unfold ct;omega
 have I4:=Ul Z;have wG:=(cD.1 Z).1;refine bt atE ?_;unfold wT;cases c1:(I f.cn==I E)with
 |false=>
  have n1:(((I f.cn:Nat):Int)!=((I E:Nat):Int)):=by
   have:¬I f.cn=I E:=by simpa using c1
   simp[bne];omega
  simp only[go_sem,Rq,I4,dV.ps,wG,n1,af,au]
 |true=>
 have n1:(((I f.cn:Nat):Int)!=((I E:Nat):Int))=false:=by
  have:I f.cn=I E:=by simpa using c1
  simp[bne,this]
 cases c2:(I f.places==pl)with
 |false=>
  have n2:(((I f.places:Nat):Int)!=((pl:Nat):Int)):=by
   have:¬I f.places=pl:=by simpa using c2
   simp[bne];omega
  simp only[go_sem,Rq,I4,dV.ps,wG,n1,n2,af,au]
 |true=>
 have n2:(((I f.places:Nat):Int)!=((pl:Nat):Int))=false:=by
  have:I f.places=pl:=by simpa using c2
  simp[bne,this]
 simp only[go_sem,Rq,I4,dV.ps,wG,n1,n2,af,au];refine c_ (λk N aj=>N 6=.one (.bh 13056064448 1 0)/\aj 13056064448=(1,some (.var (f.ps.map .p)))/\N 32=.one (.p (.sl (cg E)))/\N 33=aC (I E)/\N 34=aC k/\ ∀i e,i<k->E[i]?=some e->(vL f e==1)) 0 (I E) (cE _) ?_ ?_
 .simp only[go_sem,dV.ps];first|exact⟨rfl,λi e H=>absurd H (mX i)⟩|exact⟨rfl,rfl,λi e H=>absurd H (mX i)⟩|exactλi e H=>absurd H (mX i)
 rintro k N aj hk ⟨h6,b6,B,xB,IQ,aA⟩
 simp only[dV.ps,eR,jS]at b6;by_cases aq:k<I E
 .have aO:((k:Int)<(I E:Int)):=J;obtain⟨e,A⟩:=aR aq;have Pt:=jZ A;have w1:=cP (n:=k) J;simp only[go_sem,aan,h6,b6,B,xB,IQ,aq,aO,Pt,af,au];refine c_ (λi D bJ=>D 6=.one (.bh 13056064448 1 0)/\bJ 13056064448=(1,some (.var (f.ps.map .p)))/\D 32=.one (.p (.sl (cg E)))/\D 33=aC (I E)/\D 34=aC k/\D 8=aC e/\D 9=aC ((f.cn.take i).countP λd=>d/2==e:Nat)/\D 39=.one (.p (.sl (cg f.cn)))/\D 40=aC (I f.cn)/\D 41=aC i) 0 (I f.cn) (cE _) ?_ ?_
  .simp only[go_sem,h6,b6,B,xB,IQ,dV.ps];first|exact⟨rfl,rfl⟩|exact rfl|exact⟨rfl,rfl,rfl⟩
  rintro i D bJ H ⟨Q,M,y,z,X,Y,L,x,u,m⟩
  by_cases xE:i<I f.cn
  .have O:((i:Int)<(I f.cn:Int)):=J;obtain⟨d,hd⟩:=aR xE;have mf:=jZ hd;have w2:=cP (n:=i) J;have wq:=wrap_small (n:=d/2) (by have:=abl (ch Z) d (ch hd);omega);have cN:(f.cn.take i).countP (λd=>d/2==e)<=i:=lX Hn (by rw[iM];omega);have w3:=cP (n:=(f.cn.take i).countP λd=>d/2==e) J;have vt:(f.cn.take (i+1)).countP (λd=>d/2==e)=(f.cn.take i).countP (λd=>d/2==e)+if(d/2==e)=true then 1 else 0:=by
    rw[iJ,hd,vH];simp[vh,List.countP_nil]
   cases T:(d/2==e)with
   |true=>
    have n3:(((d/2:Nat):Int)==(e:Int)):=by
     have:d/2=e:=by simpa using T
     simp;omega
    rw[T,aH rfl]at vt;simp only[go_sem,Np,Q,y,z,X,Y,L,x,u,m,xE,O,mf,fF,ik,wq,n3,w2,w3,vt,af,au];first|exact M|exact⟨M,rfl⟩
   |false=>
    have n3:(((d/2:Nat):Int)==(e:Int))=false:=by
     have:¬d/2=e:=by simpa using T
     simp;omega
    rw[T,aw U,vX]at vt;simp only[go_sem,Np,Q,y,z,X,Y,L,x,u,m,xE,O,mf,fF,ik,wq,n3,w2,vt,af,au];first|exact M|exact⟨M,rfl⟩
  have:i=I f.cn:=J;subst this;rw[jN]at L;have ab:(f.cn.countP λd=>d/2==e)=vL f e:=rfl;rw[ab]at L;cases R:(vL f e==1)with
  |true=>
   have n4:(((vL f e:Nat):Int)!=1)=false:=by
    have:vL f e=1:=by simpa using R
    simp[bne,this]
   simp only[go_sem,Np,adJ,apR,Q,y,z,X,Y,L,x,u,m,dW,n4,w1,aq,af,au];refine⟨M,λi2 e2 LP A2=>?_⟩;rcases m_.1 LP with h|rfl
   .exact aA i2 e2 h A2
   rw[A]at A2;cases A2;exact R
  |false=>
   have n4:(((vL f e:Nat):Int)!=1):=by
    have:¬vL f e=1:=by simpa using R
    simp[bne];omega
   have dp:(E.all λe=>vL f e==1)=false:=US.2 ⟨e,ch A,by rw[R];decide⟩;simp only[go_sem,Np,adJ,Q,y,z,X,Y,L,x,u,m,dW,n4,dp,af,au]
 have:k=I E:=J;subst this;have dp:(E.all λe=>vL f e==1):=jP.2 λe he=>by obtain⟨i,H⟩:=jL he;exact aA i e (cD.1 H).1 H
 simp only[go_sem,aan,afJ,B,xB,IQ,dW,dp,af,au]
def oT(F:Nat)(g:ae)(pl:Nat)(E:aG)(f:Nat):Bool:=wT (nh F g (2*f)) pl E||wT (nh F g (2*f+1)) pl E
def adh(L:cK F g)(E:aG)(dY:I E<=1000){h:Nat}(H:E[0]?=some h)(Y:h<I g)(pl:Nat):
  aJ S 181 [.one (.p (gT F g)),aC pl,.one (.p (.sl (cg E)))] (dn (oT F g pl E h)):=by
 have N:=L.len;obtain⟨B,a1,O,a3⟩:=Y1 L (d:=2*h) J;obtain⟨m,R,D,b3⟩:=Y1 L (d:=2*h+1) J;have g0:(eD F g).getD B Oa=nh F g (2*h):=by rw[dS,O];rfl
 have g1:(eD F g).getD m Oa=nh F g (2*h+1):=by rw[dS,D];rfl
 have pc:=aub [B,m] aQ (f:=204) (x:=.box [gT F g]) (y:=.box [.sl (cg E)]) (z:=.box [.int .i64 pl]) ⟨rfl,rfl,rfl⟩ aDG (λj=>wT ((eD F g).getD j Oa) pl E) (λv M=>by
  simp only[dk,iu,or_false]at M;rcases M with rfl|rfl
  .rw[g0];exact al9 L O E dY pl
  rw[g1];exact al9 L D E dY pl)
 have u:([B,m].any λj=>wT ((eD F g).getD j Oa) pl E)=oT F g pl E h:=by simp only[QH,Sc,SJ,g0,g1];rfl
 rw[u]at pc;simp only[eR,jS]at pc;have Z:=jZ a1;have jb:=jZ R;have he:=jZ H;have T:=tP (a:=h) J;have X:=cP (n:=2*h) J;have vA:=aby F g;have l1:2*h<I (p_ F g):=J;have l2:2*h+1<I (p_ F g):=J;have Q:0<I E:=(cD.1 H).1;have A:(0:Int)<(I E:Int):=J;refine bt avr ?_;simp only[go_sem,ald,he,Q,A,T,X,Z,jb,l1,l2,aEY,dC pc,af,au];exact aI
def jl(g:ae)(l:cY)(e:Nat):cY:=(l.set e (l.getD (aK g e) ⟨lD,false⟩)).set (aK g e) (l.getD e ⟨lD,false⟩)
def GA(g:ae)(l:cY)(e:Nat):I (jl g l e)=I l:=by simp[jl]
def jQ(g:ae)(l:cY)(E:aG):cY:=E.foldl (jl g) l
def B9(g:ae):∀(E:aG) (l:cY),I (jQ g l E)=I l:=by
 intro E
 induction E with
 |nil=>intro l;rfl
 |cons e E f=>intro l;show(jQ g (jl g l e) E).length=_;rw[f,GA]
def aze(ab:cK F g)(E:aG)(mQ:∀e∈E,e<I g)(dY:I E<=1000):
  aJ S 188 [.one (.p (gT F g)),.one (.p (.sl (cg E)))] (.one (aX oO 7 (fA (jQ g (cq g) E)))):=by
 have Q:=ab.len;have u:=cU g;have Z:cq g≠[]:=jr.1 (by have:=jr.2 ab.ne;omega);have h:=ahf Z J;have lo:S.lone 12032064256=false:=ah;refine bt ayy ?_;simp only[go_sem,akT,agY];refine qW h lo (.inl rfl) λcc pG gc nQ=>?_;rcases gc with⟨e,_⟩|⟨_,j,e,hC⟩
 .exact absurd (by simpa using e) Z
 cases e;rw[cH,u];simp only[go_sem];refine c_ (λk A aj=>A 0=.one (.p (gT F g))/\A 5=.one (.hsl 12032064256 j 7 0 (I g))/\A 15=.one (.p (.sl (cg E)))/\A 16=aC (I E)/\A 17=aC k/\aj 12032064256=(j,some (.arr oO 7 (fA (jQ g (cq g) (E.take k)))))) 0 (I E) (cE _) ?_ ?_
 .simp only[go_sem,hC];first|exact⟨rfl,rfl⟩|rfl|exact⟨rfl,rfl,rfl⟩
 rintro k A aj hk ⟨y,N,T,X,O,B⟩
 by_cases D:k<I E
 .have aO:((k:Int)<(I E:Int)):=J;obtain⟨e,H⟩:=aR D;have Pt:=jZ H;have Y:=mQ e (ch H);have pe:=Di ab Y;have w1:=cP (n:=k) J;have z:jQ g (cq g) (E.take (k+1))=jl g (jQ g (cq g) (E.take k)) e:=by
   unfold jQ;rw[iJ,H,za];rfl
  have iB:I (jQ g (cq g) (E.take k))=I g:=by rw[B9,u]
  have hm:=fC (e+1) (show 0<I g by omega);generalize jQ g (cq g) (E.take k)=m at B z iB;obtain⟨p,hp⟩:=aR (L:=m) (k:=e) J;obtain⟨q,L⟩:=aR (L:=m) (k:=(e+1)%I g) J;have iD:=lQ hp;have A9:=lQ L;have l1:e<I m:=J;have l2:(e+1)%I g<I m:=J;have R:=G5 m e q;have Cl:(m.set e q).set ((e+1)%I g) p=jl g m e:=by unfold jl aK;rw[dS,L,dS,hp];rfl
  have f:=G5 (m.set e q) ((e+1)%I g) p;rw[Cl,<-z]at f;simp only[aU.ps]at R f;obtain⟨p',jI⟩:=aR (L:=m.set e q) (k:=e) (by rw[kI];omega);obtain⟨q',Jf⟩:=aR (L:=m.set e q) (k:=(e+1)%I g) (by rw[kI];omega);have x:=lQ Jf;simp only[go_sem,abf,y,N,T,X,O,B,D,aO,Pt,eJ,a_ pe cS,Y,hm,iD,A9,x,l1,l2,R,f,kI,aU.ps,w1];exact aI
 have:k=I E:=J;subst this;rw[jN]at B;simp only[go_sem,abf,anX,y,N,T,X,O,dW];have M:I (jQ g (cq g) E)=I g:=by rw[B9,u]
 refine uX (.inr ⟨?_,j,by rw[cH,M],B⟩);intro h2;have:=congrArg List.length h2;rw[cH,M,eK]at this;have h3:=jr.2 ab.ne;omega
def kn(l:cY)(i:Nat)(r:Int):cY:=l.set i {(l.getD i ⟨lD,false⟩)with l:={(l.getD i ⟨lD,false⟩).l with ay:=r}}
def Bq(l:cY)(i:Nat)(r:Int):I (kn l i r)=I l:=by simp[kn]
def vQ(F:Nat)(g:ae)(h bv:Nat):Option cY:=
 if(fp g h).2.2&&((fp g bv).2.2&&(!((fp g h).2.1==(fp g bv).2.1)&&(((aW g (fp g h).2.1).l.id==(aW g (fp g bv).2.1).l.id)&&oT F g 1 [h,bv] h)))
 then some (jQ g (kn (kn (cq g) (fp g h).1 (aW g (fp g bv).1).l.ay) (fp g bv).1 (aW g (fp g h).1).l.ay) [h,bv])else none
def Q8{e:Nat}(H:e<I g):(fp g e).1<I g/\(fp g e).2.1<I g:=by
 have h:=fC (e+1) (show 0<I g by omega);unfold fp aK;split
 .exact⟨h,H⟩
 exact⟨H,h⟩
def axR(ap:cK F g){bv:Nat}(ha:h<I g)(hb:bv<I g){k c:Int}{l o:Bool}{sg:Int}:
  aJ S 148 [.one (.p (gT F g)),gP k h bv c l o sg] (Gw (vQ F g h bv)):=by
 have ao:=ap.len;have D:=cU g;have pa:=am7 ap ha;have pb:=am7 ap hb;have pc:=adh ap [h,bv] aQ (h:=h) rfl ha 1;obtain⟨p1,v1⟩:=Q8 ha;obtain⟨q1,R⟩:=Q8 hb;unfold vQ;generalize fp g h=x at*;generalize fp g bv=y at*;obtain⟨f,N,one⟩:=x;obtain⟨A,B,two⟩:=y;simp only at pa pb p1 v1 q1 R |-;simp only[eR,jS]at pc;have c1:((1:Nat):Int)=1:=rfl;rw[c1]at pc;obtain⟨P,hP⟩:=aR (L:=cq g) (k:=f) J;obtain⟨Q,hQ⟩:=aR (L:=cq g) (k:=A) J;obtain⟨V,hV⟩:=aR (L:=cq g) (k:=N) J
 obtain⟨bP,hW⟩:=aR (L:=cq g) (k:=B) J;rw[ml hP,ml hQ,ml hV,ml hW];have ab:=lQ hP;have ad:=lQ hQ;have u:=lQ hV;have H:=lQ hW;have aN:cq g≠[]:=jr.1 J;have ag:=ahf aN J;have lo:S.lone 9472384256=false:=ah;refine bt arK ?_;cases one with
 |false=>simp only[go_sem,HT,Ln,a_ pa yR,a_ pb yR];exact⟨aI,rfl⟩
 |true=>
 cases two with
 |false=>simp only[go_sem,HT,Ln,a_ pa yR,a_ pb yR];exact⟨aI,rfl⟩
 |true=>
 cases c2:(N==B)with
 |true=>
  have n2:((N:Int)==(B:Int)):=by simp[show N=B by simpa using c2]
  simp only[go_sem,HT,Ln,a_ pa yR,a_ pb yR,n2];exact⟨aI,rfl⟩
 |false=>
 have n2:((N:Int)==(B:Int))=false:=by
  have:¬N=B:=by simpa using c2
  simp;omega
 cases c3:(V.l.id==bP.l.id)with
 |false=>
  have n3:(V.l.id !=bP.l.id):=by simp[bne,c3]
  simp only[go_sem,HT,Ln,a_ pa yR,a_ pb yR,n2,u,H,v1,R,D,aU.ps,n3];exact⟨aI,rfl⟩
 |true=>
 have n3:(V.l.id !=bP.l.id)=false:=by simp[bne,c3]
 cases c5:oT F g 1 [h,bv] h with
 |false=>rw[c5]at pc;simp only[go_sem,HT,Ln,a_ pa yR,a_ pb yR,n2,u,H,v1,R,D,aU.ps,n3,h_,dC pc];exact⟨aI,rfl⟩
 |true=>
 rw[c5]at pc;simp only[go_sem,HT,Ln,a_ pa yR,a_ pb yR,n2,u,H,ab,ad,v1,R,p1,q1,D,aU.ps,n3,h_,dC pc,agY];refine⟨aI,aI,?_⟩;refine qW ag lo (.inl rfl) λcc pG gc nQ=>?_;have b3:=nQ 9472000000 U;simp only[go_sem]at b3;rcases gc with⟨e,_⟩|⟨_,gg,e,hC⟩
 .exact absurd (by simpa using e) aN
 cases e;rw[cH,D];have L:=G5 (cq g) f {P with l:={P.l with ay:=Q.l.ay}};have jU:(cq g).set f {P with l:={P.l with ay:=Q.l.ay}}=kn (cq g) f Q.l.ay:=by unfold kn;rw[dS,hP];rfl
 rw[jU]at L;have dZ:I (kn (cq g) f Q.l.ay)=I g:=by rw[Bq,D]
 obtain⟨Q',Z⟩:=aR (L:=kn (cq g) f Q.l.ay) (k:=A) J;have ac:=lQ Z;have z:=G5 (kn (cq g) f Q.l.ay) A {Q' with l:={Q'.l with ay:=P.l.ay}};have gV:(kn (cq g) f Q.l.ay).set A {Q' with l:={Q'.l with ay:=P.l.ay}}=kn (kn (cq g) f Q.l.ay) A P.l.ay:=by rw[kn.eq_def (kn (cq g) f Q.l.ay),dS,Z];rfl
 rw[gV]at z;simp only[aU.ps]at L z;have xG:I (kn (kn (cq g) f Q.l.ay) A P.l.ay)=I g:=by rw[Bq,dZ]
 simp only[go_sem,b3,hC,D,ab,ac,aU.ps,L,z,dZ,p1,q1,kI];generalize kn (kn (cq g) f Q.l.ay) A P.l.ay=M at xG |-;obtain⟨E,TP⟩:∃E,E=[h,bv]:=⟨_,rfl⟩;have zL:I E=2:=by rw[TP];rfl
 have mQ:∀e∈E,e<I g:=λe j=>by rw[TP]at j;simp only[dk,iu,or_false]at j;rcases j with rfl|rfl<;>assumption
 refine c_ (λk O aj=>O 0=.one (.p (gT F g))/\O 14=.one (.hsl 9472384256 gg 7 0 (I g))/\(∃T,O 116=.one (.hsl 9472512256 T 1 0 2)/\aj 9472512256=(T,some (.arr 3 1 (cg E))))/\O 117=aC ((2:Nat):Int)/\O 118=aC k/\aj 9472384256=(gg,some (.arr oO 7 (fA (jQ g M (E.take k)))))) 0 2 (cE _) ?_ ?_
 .simp only[go_sem];exact⟨⟨_,rfl,by rw[TP];rfl⟩,rfl,rfl⟩
 rintro k O aj hk ⟨h0,wC,⟨T,G0,bE⟩,X,Y,bO⟩
 by_cases aq:k<2
 .have aO:((k:Int)<((2:Nat):Int)):=J;have TW:k<I E:=J;obtain⟨e,j⟩:=aR TW;have Pt:=jZ j;have Pr:=mQ e (ch j);have pe:=Di ap Pr;have R:=cP (n:=k) J;have gC:jQ g M (E.take (k+1))=jl g (jQ g M (E.take k)) e:=by
   unfold jQ;rw[iJ,j,za];rfl
  have iB:I (jQ g M (E.take k))=I g:=by rw[B9,xG]
  have hm:=fC (e+1) (show 0<I g by omega);generalize jQ g M (E.take k)=m at bO gC iB;obtain⟨p,hp⟩:=aR (L:=m) (k:=e) J;obtain⟨q,hq⟩:=aR (L:=m) (k:=(e+1)%I g) J;have iD:=lQ hp;have A9:=lQ hq;have l1:e<I m:=J;have l2:(e+1)%I g<I m:=J;have L:=G5 m e q;have Cl:(m.set e q).set ((e+1)%I g) p=jl g m e:=by unfold jl aK;rw[dS,hq,dS,hp];rfl
  have z:=G5 (m.set e q) ((e+1)%I g) p;rw[Cl,<-gC]at z;simp only[aU.ps]at L z;obtain⟨q',Jf⟩:=aR (L:=m.set e q) (k:=(e+1)%I g) (by rw[kI];omega);have an:=lQ Jf;simp only[go_sem,abw,h0,wC,G0,X,Y,bE,bO,aq,aO,Pt,eJ,a_ pe cS,Pr,hm,iD,A9,an,l1,l2,L,z,kI,aU.ps,R];first|exact⟨aI,T,rfl,rfl⟩|exact⟨aI,⟨T,rfl,rfl⟩⟩|exact⟨aI,⟨T,rfl,rfl⟩,rfl⟩|trace_state
 have:k=2:=J;subst this;have e1:E.take 2=[h,bv]:=by rw[TP];rfl
 rw[e1]at bO;have j8:¬(((2:Nat):Int)<((2:Nat):Int)):=J;simp only[go_sem,abw,anx,h0,wC,X,Y,j8];have h1:I (jQ g M [h,bv])=I g:=by rw[B9,xG]
 refine zU (.inr ⟨?_,gg,by rw[mO,cH,h1],bO⟩);intro h2;have:=congrArg List.length h2;rw[mO,cH,h1,eK]at this;omega
def VL(l:cY)(i:Nat)(g r:Int):cY:=l.set i {(l.getD i ⟨lD,false⟩)with l:={(l.getD i ⟨lD,false⟩).l with gate:=g,ay:=r}}
def aoc(F:Nat)(g:ae)(h:Nat):Option cY:=
 if((aW g h).l.kind==1)&&(decide ((aW g h).l.gate<(F:Int))&&((aW g h).l.ay==(di g (aW g h).l.gate.toNat:Int)))
 then some (VL (lz (cq g) ((aW g h).l.gate+1) 0 1) h ((aW g h).l.gate+1) 1)else none
def amY(g:ae)(h:Nat):Option cY:=
 if((aW g h).l.kind==1)&&(decide (0<(aW g h).l.gate)&&((aW g h).l.ay==1))
 then some (VL (lz (cq g) (aW g h).l.gate 1 (-1)) h ((aW g h).l.gate-1) ((di g ((aW g h).l.gate-1).toNat+1:Nat):Int))else none
end
end Go.Abs
