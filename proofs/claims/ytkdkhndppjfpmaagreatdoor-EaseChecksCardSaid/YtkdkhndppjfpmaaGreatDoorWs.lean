/- A part. -/
import Derived.Test.YtkdkhndppjfpmaaGreatDoorWn
set_option linter.all false
open List renaming length->I
set_option maxRecDepth 100000
set_option maxHeartbeats 16000000
namespace Go.Abs
variable{f:Nat}{x y z:PV}
section
variable{g:ai}{F h:Nat}
def LA(l:cX)(drop:Nat->aR->Bool)(i:Nat):Option aR:=match l[i]? with|some p=>if drop i p then none else some p|none=>none
def uY(l:cX)(drop:Nat->aR->Bool)(k:Nat):cX:=(List.range k).filterMap (LA l drop)
def oa(l:cX)(drop:Nat->aR->Bool):cX:=uY l drop (I l)
def GY{l:cX}{drop:Nat->aR->Bool}{k:Nat}{p:aR}(h:l[k]?=some p)(H:drop k p):uY l drop (k+1)=uY l drop k:=by simp[uY,rN,PQ,LA,h,H]
def QD{l:cX}{drop:Nat->aR->Bool}{k:Nat}{p:aR}(h:l[k]?=some p)(H:drop k p=false):uY l drop (k+1)=uY l drop k++[p]:=by simp[uY,rN,PQ,LA,h,H]
def K8(l:cX)(drop:Nat->aR->Bool)(k:Nat):I (uY l drop k)<=k:=by have:=List.length_filterMap_le (LA l drop) (List.range k);rwa[xi]at this
def ED(j:cE F g){e:Nat}(m:e<I g):aK S 172 [.one (.p (kh F g)),aH e] (uD (.int .i64 e) (.int .i64 ((e+1)%I g:Nat))):=by have h:=j.len;have B:=cW g;have f:=cN (n:=e) J;have E:=tB (e+1) (I g);have H:¬((I g:Int)=0):=J;refine bj aps ?_;simp only[go_sem,anO,f,E,B,H,af,ao];exact⟨aA,rfl⟩
def ahx(l:cX)(hl:I l<=1000000)(R:x.norm=x/\y.norm=y)(N:S.shared f=false)(drop:Nat->aR->Bool)(O:∀(k:Nat) (p:aR),l[k]?=some p->aK S f [aH k,.agg (p.ps.map .p),.one (.p x),.one (.p y)] (cO (drop k p))):
  aK S 173 [.one (.p (.sl (di l))),.one (.p (.fn f [] [x,y]))] (.one (cF lg 7 (di (oa l drop)))):=by
 obtain⟨E,B⟩:=R;refine bj ahn ?_;simp only[go_sem,i173,E,B];refine dy (λk A aj=>A 1=.one (.p (.fn f [] [x,y]))/\A 8=.one (.p (.sl (di l)))/\A 9=aH (I l)/\A 10=aH k/\ ∃c,A 5=.one c/\cg 11072384192 lg 7 (di (uY l drop k)) (.one c) aj) 0 (I l) (cG _) ?_ ?_
 .simp only[go_sem];first|exact⟨rfl,_,rfl,.inl ⟨rfl,rfl⟩⟩|exact⟨_,rfl,.inl ⟨rfl,rfl⟩⟩|exact⟨rfl,rfl,_,rfl,.inl ⟨rfl,rfl⟩⟩
 rintro k A aj Z ⟨H,m,v,u,c,z,D⟩
 by_cases j:k<I l
 .have L:((k:Int)<(I l:Int)):=J;obtain⟨p,hp⟩:=aT j;have M:=kI hp;have F:=cN (n:=k) J;have g:=O k p hp;have X:=K8 l drop k;simp only[aR.ps,eJ,lr]at g;cases h:drop k p with
  |true=>rw[h]at g;have ae:=GY hp h;simp only[go_sem,HD,H,z,m,v,u,j,L,M,aR.ps,E,B,N,au g,F];refine⟨c,rfl,?_⟩;rw[ae];exact D.of_eq (by simp only[cD,Nat.reduceEqDiff,if_false])
  |false=>rw[h]at g;have ae:=QD hp h;simp only[go_sem,HD,H,z,m,v,u,j,L,M,aR.ps,E,B,N,au g];refine th (y:=11072384192) (id:=11072384192) (bytes:=56) (B:=[p.ps]) (rd:=[11072384128]) (D.of_eq (by simp only[cD,Nat.reduceEqDiff,if_false])) (by simp[js,cD,aR.ps]) (.inl rfl) (by simp only[cY,dW,fU];omega) λQ Y T nI=>?_;simp only[go_sem,H,m,v,u,j,F];refine⟨Q,rfl,?_⟩;rw[ae,Rs];exact T
 have:k=I l:=J;subst this;simp only[go_sem,HD,aak,H,z,m,v,u,eR];exact wX D
def atc(l:cX)(hl:I l<=1000000)(O:x.norm=x)(L:S.shared f=false)(drop:Nat->aR->Bool)(M:∀(k:Nat) (p:aR),l[k]?=some p->aK S f [aH k,.agg (p.ps.map .p),.one (.p x)] (cO (drop k p))):
  aK S 173 [.one (.p (.sl (di l))),.one (.p (.fn f [] [x]))] (.one (cF lg 7 (di (oa l drop)))):=by
 have B:=O;refine bj ahn ?_;simp only[go_sem,i173,B];refine dy (λk A aj=>A 1=.one (.p (.fn f [] [x]))/\A 8=.one (.p (.sl (di l)))/\A 9=aH (I l)/\A 10=aH k/\ ∃c,A 5=.one c/\cg 11072384192 lg 7 (di (uY l drop k)) (.one c) aj) 0 (I l) (cG _) ?_ ?_
 .simp only[go_sem];first|exact⟨rfl,_,rfl,.inl ⟨rfl,rfl⟩⟩|exact⟨_,rfl,.inl ⟨rfl,rfl⟩⟩|exact⟨rfl,rfl,_,rfl,.inl ⟨rfl,rfl⟩⟩
 rintro k A aj X ⟨H,m,v,u,c,y,z⟩
 by_cases j:k<I l
 .have E:((k:Int)<(I l:Int)):=J;obtain⟨p,hp⟩:=aT j;have F:=kI hp;have D:=cN (n:=k) J;have g:=M k p hp;have R:=K8 l drop k;simp only[aR.ps,eJ,lr]at g;cases h:drop k p with
  |true=>rw[h]at g;have ae:=GY hp h;simp only[go_sem,HD,H,y,m,v,u,j,E,F,aR.ps,B,L,au g,D];refine⟨c,rfl,?_⟩;rw[ae];exact z.of_eq (by simp only[cD,Nat.reduceEqDiff,if_false])
  |false=>rw[h]at g;have ae:=QD hp h;simp only[go_sem,HD,H,y,m,v,u,j,E,F,aR.ps,B,L,au g];refine th (y:=11072384192) (id:=11072384192) (bytes:=56) (B:=[p.ps]) (rd:=[11072384128]) (z.of_eq (by simp only[cD,Nat.reduceEqDiff,if_false])) (by simp[js,cD,aR.ps]) (.inl rfl) (by simp only[cY,dW,fU];omega) λN T Q Y=>?_;simp only[go_sem,H,m,v,u,j,D];refine⟨N,rfl,?_⟩;rw[ae,Rs];exact Q
 have:k=I l:=J;subst this;simp only[go_sem,HD,aak,H,y,m,v,u,eR];exact wX z
def ahB(k i j:Nat)(p:aR):aK S 174 [aH k,.agg (p.ps.map .p),.one (.p (.box [.int .i64 i])),.one (.p (.box [.int .i64 j]))] (cO (decide (k=i)||decide (k=j))):=by
 refine bj ao7 ?_;by_cases H:k=i
 .have E:((k:Int)==(i:Int)):=by simp[H]
  rw[show(decide (k=i)||decide (k=j))=true by simp[H]];simp only[go_sem,Vq,aR.ps,E,af,ao]
 have E:((k:Int)==(i:Int))=false:=by simp;omega
 by_cases h:k=j
 .have f:((k:Int)==(j:Int)):=by simp[h]
  rw[show(decide (k=i)||decide (k=j))=true by simp[h]];simp only[go_sem,Vq,aR.ps,E,f,af,ao]
 have f:((k:Int)==(j:Int))=false:=by simp;omega
 rw[show(decide (k=i)||decide (k=j))=false by simp[H,h]];simp only[go_sem,Vq,aR.ps,E,f,af,ao]
def rA(a b:Int):Int:=if a<b then b else a
def xH(a b:Int):Int:=if b<a then b else a
def C9(g:ai)(h:Nat):Option cX:=
 let p:=(aQ g).getD h ⟨mw,false⟩
 let q:=(aQ g).getD ((h+1)%I g) ⟨mw,false⟩
 if(p.l.kind==1)&&((q.l.kind==1)&&((p.l.gate==q.l.gate)&&((rA p.l.ay q.l.ay-xH p.l.ay q.l.ay==1)&& !(decide (an aa.aI g<=2)&&decide (0<an aa.aB g/2)))))
 then some (fQ (oa (aQ g) λk _=>decide (k=h)||decide (k=(h+1)%I g)) p.l.gate (rA p.l.ay q.l.ay) (-2))else none
def acR{l:cX}{drop:Nat->aR->Bool}{p:aR}(h:p∈oa l drop):p∈l:=by
 obtain⟨i,_,H⟩:=BC.1 h;unfold LA at H;cases hl:l[i]? with
 |none=>rw[hl]at H;cases H
 |some q=>
  rw[hl]at H;simp only at H;split at H
  .cases H
  cases H;exact bR hl
def auB(ag:cE F g)(H:h<I g){k b c:Int}{l o:Bool}{sg:Int}:
  aK S 146 [.one (.p (kh F g)),ep k h b c l o sg] (uN (C9 g h)):=by
 have ab:=ag.len;have B:=cW g;have f:=ED ag H;have m:=fk (h+1) (show 0<I g by omega);have E:=Hh ag;obtain⟨p,hp⟩:=aT (L:=aQ g) (k:=h) J;obtain⟨q,O⟩:=aT (L:=aQ g) (k:=(h+1)%I g) J;obtain⟨p1,p2⟩:=E p (bR hp);obtain⟨q1,q2⟩:=E q (bR O);have j:=kI hp;have Q:=kI O;have eX:S.shared 175:=ah;have lo:S.lone 9344320320=false:=ah;have fi:=ag.cr;unfold C9;simp only[dC,hp,O,kZ];refine bj aCx ?_;cases c1:(p.l.kind==1)with
 |false=>
  have n:(p.l.kind !=1):=by simp[bne,c1]
  simp only[go_sem,FO,eN,aU f cM,j,Q,aR.ps,B,H,m,n];exact⟨aA,rfl⟩
 |true=>
 have n:(p.l.kind !=1)=false:=by simp[bne,c1]
 cases c2:(q.l.kind==1)with
 |false=>
  have N:(q.l.kind !=1):=by simp[bne,c2]
  simp only[go_sem,FO,eN,aU f cM,j,Q,aR.ps,B,H,m,n,N];exact⟨aA,rfl⟩
 |true=>
 have N:(q.l.kind !=1)=false:=by simp[bne,c2]
 cases c9:(p.l.gate==q.l.gate)with
 |false=>
  have v:(p.l.gate !=q.l.gate):=by simp[bne,c9]
  simp only[go_sem,FO,eN,aU f cM,j,Q,aR.ps,B,H,m,n,N,v];exact⟨aA,rfl⟩
 |true=>
 have v:(p.l.gate !=q.l.gate)=false:=by simp[bne,c9]
 have u:(if q.l.ay>p.l.ay then q.l.ay else p.l.ay)=rA p.l.ay q.l.ay:=rfl;have M:(if q.l.ay<p.l.ay then q.l.ay else p.l.ay)=xH p.l.ay q.l.ay:=rfl;have ad: -1000000<=rA p.l.ay q.l.ay/\rA p.l.ay q.l.ay<=1000000:=by unfold rA;split<;>omega
 have ac: -1000000<=xH p.l.ay q.l.ay/\xH p.l.ay q.l.ay<=1000000:=by unfold xH;split<;>omega
 have L:=kA (x:=rA p.l.ay q.l.ay-xH p.l.ay q.l.ay) J J;generalize rA p.l.ay q.l.ay=R at*;generalize xH p.l.ay q.l.ay=mn at*;cases c4:(R-mn==1)with
 |false=>
  have z:(R-mn !=1):=by simp[bne,c4]
  simp only[go_sem,FO,eN,aU f cM,j,Q,aR.ps,B,H,m,n,N,v,u,M,L,z];exact⟨aA,rfl⟩
 |true=>
 have z:(R-mn !=1)=false:=by simp[bne,c4]
 have fG:∀(X:Prop),X->X:=λ_ ak=>ak;by_cases eT:an aa.aI g<=2
 .have D:((an aa.aI g:Int)<=2):=J;by_cases fB:0<an aa.aB g/2
  .have T:((0:Int)<((an aa.aB g/2:Nat):Int)):=J;rw[pA eT,pA fB];simp only[go_sem,FO,eN,aU f cM,j,Q,aR.ps,B,H,m,n,N,v,u,M,L,z,D,T];exact⟨aA,rfl⟩
  have T:¬((0:Int)<((an aa.aB g/2:Nat):Int)):=J;rw[pA eT,nr fB];simp only[go_sem,FO,eN,aU f cM,j,Q,aR.ps,B,H,m,n,N,v,u,M,L,z,D,T,WN];refine⟨aA,?_⟩;refine mX (ahx (aQ g) J ⟨rfl,rfl⟩ ami (λk _=>decide (k=h)||decide (k=(h+1)%I g)) (λk p _=>ahB k h ((h+1)%I g) p)) lo (.inr (fN (jw _))) λcc bG Y y=>?_;have b8:=y 9344128896 U;have A:=y 9344128960 U;simp only[go_sem]at b8 A;simp only[go_sem,b8,A,u,eX];refine KD (l:=oa (aQ g) λk _=>decide (k=h)||decide (k=(h+1)%I g)) (ny (K8 _ _ _) J) U (λx hx=>E x (acR hx)) Y λbh Z aW=>?_;simp only[go_sem];exact nA Z
 have D:¬((an aa.aI g:Int)<=2):=J;rw[nr eT];simp only[go_sem,FO,eN,aU f cM,j,Q,aR.ps,B,H,m,n,N,v,u,M,L,z,D,WN];refine⟨aA,?_⟩;refine mX (ahx (aQ g) J ⟨rfl,rfl⟩ ami (λk _=>decide (k=h)||decide (k=(h+1)%I g)) (λk p _=>ahB k h ((h+1)%I g) p)) lo (.inr (fN (jw _))) λcc bG Y y=>?_;have b8:=y 9344128896 U;have A:=y 9344128960 U;simp only[go_sem]at b8 A;simp only[go_sem,b8,A,u,eX];refine KD (l:=oa (aQ g) λk _=>decide (k=h)||decide (k=(h+1)%I g)) (ny (K8 _ _ _) J) U (λx hx=>E x (acR hx)) Y λbh Z aW=>?_;simp only[go_sem];exact nA Z
abbrev fy(o:dd):q_:=o.map λn=>[PV.int .i64 n]
def xC{o:dd}{k:Nat}{v:Int}(h:o[k]?=some v):(fy o)[k]?=some [.int .i64 v]:=by simp[h]
def BK(o:dd)(x:Int)(i:Nat):Bool:=match o[i]? with|some y=>y==x|none=>false
def aw3(o:dd)(x:Int)(hl:I o<=1000000):aK S 221 [.one (.p (.sl (fy o))),aH x] (ja (match (List.range (I o)).find? (BK o x)with|some k=>(k:Int)|none=> -1)):=by
 refine bj aAH ?_;simp only[go_sem,ahC,af,ao];refine dy (λk A aj=>A 0=.one (.p (.sl (fy o)))/\A 1=aH x/\A 7=aH (I o)/\A 8=aH k/\ ∀j,j<k->BK o x j=false) 0 (I o) (cG _) ?_ ?_
 .simp only[go_sem];exact⟨rfl,λj D=>absurd D (pG j)⟩
 rintro k A aj R ⟨u,N,E,m,z⟩
 by_cases f:k<I o
 .have M:((k:Int)<(I o:Int)):=J;obtain⟨y,F⟩:=aT f;have O:=xC F;have Q:=cN (n:=k) J;have v:BK o x k=(y==x):=by simp[BK,F]
  cases H:(y==x)with
  |true=>
   have B:(x==y):=by have:=dk.1 H;simp[this]
   rw[H]at v;have g:=AR (p:=BK o x) f z v;simp only[go_sem,Sb,u,N,E,m,f,M,O,H,B,g,af,ao];first|done|exact aA|rfl
  |false=>
   have B:(x==y)=false:=by
    have:¬y=x:=by simpa using H
    simp;exactλh=>this h.symm
   rw[H]at v;have L:∀j,j<k+1->BK o x j=false:=λj D=>by
    rcases mQ.1 D with h|rfl
    .exact z j h
    exact v
   simp only[go_sem,Sb,u,N,E,m,f,M,O,H,B,Q,af,ao];first|exact L|exact⟨aA,L⟩
 have:k=I o:=J;subst this;have g:=Gx (p:=BK o x) z;simp only[go_sem,Sb,agV,u,E,m,eR,g,af,ao]
def aw9(o:dd)(x:Int)(hl:I o<=1000000):aK S 202 [.one (.p (.sl (fy o))),aH x] (cO (o.contains x)):=by
 have f:=aw3 o x hl;refine bj az5 ?_;cases m:o.contains x with
 |true=>
  have X:x∈o:=by simpa using m
  obtain⟨k,n⟩:=j9 X;have F:=(cn.1 n).1;cases h:(List.range (I o)).find? (BK o x)with
  |none=>have:=G9.1 h k (gN.2 F);simp[BK,n]at this
  |some j=>rw[h]at f;have L:(0:Int)<=(j:Int):=J;simp only[go_sem,ach,afC,dJ f,L,af,ao]
 |false=>
  have X:x∉o:=by simpa using m
  cases h:(List.range (I o)).find? (BK o x)with
  |some j=>
   have H:=HA h;unfold BK at H;cases g:o[j]? with
   |none=>rw[g]at H;cases H
   |some y=>
    rw[g]at H;have:y=x:=by simpa using H
    subst this;exact absurd (bR g) X
  |none=>rw[h]at f;have L:¬(0:Int)<= -1:=U;simp only[go_sem,ach,afC,dJ f,L,af,ao]
def rW(ids:dd)(_:Nat)(p:aR):Bool:=(p.l.kind==2)&&ids.contains p.l.id
def ary(ids:dd)(hl:I ids<=1000000)(k:Nat)(p:aR):aK S 201 [aH k,.agg (p.ps.map .p),.one (.p (.box [.sl (fy ids)]))] (cO (rW ids k p)):=by
 have pc:=aw9 ids p.l.id hl;refine bj apW ?_;unfold rW;cases h:(p.l.kind==2)with
 |true=>simp only[go_sem,Wx,aR.ps,h,aqZ,au pc,af,ao]
 |false=>simp only[go_sem,Wx,aR.ps,h,af,ao]
def mr(ids:dd)(k:Nat)(p:aR):aR:={p with l:={p.l with id:=p.l.id-((ids.take k).countP (λi=>decide (i<p.l.id)):Nat)}}
def qh(ids:dd)(p:aR):aR:=if p.l.kind==2 then mr ids (I ids) p else p
abbrev FV(l:cX)(ids:dd):cX:=(oa l (rW ids)).map (qh ids)
abbrev uH(ids:dd)(l:cX)(k:Nat):cX:=(l.take k).map (qh ids)++l.drop k
def ahP{ids:dd}{l:cX}{k:Nat}{p:aR}(h:l[k]?=some p):(uH ids l k)[k]?=some p:=by have H:=(cn.1 h).1;rw[uH,wY (by rw[cY,gX];omega),cY,gX,vm J,zB,BY];exact h
def avJ(ids:dd)(l:cX)(k:Nat):I (uH ids l k)=I l:=by rw[uH,gT,cY,gX,kV];omega
def aCw{ids:dd}{l:cX}{k:Nat}{p:aR}(h:l[k]?=some p):(uH ids l k).set k (qh ids p)=uH ids l (k+1):=by
 have f:=(cn.1 h).1;have z:l.drop k=p::l.drop (k+1):=by obtain⟨H,rfl⟩:=cn.1 h;exact Kz H
 have E:I ((l.take k).map (qh ids))=k:=by rw[cY,gX];omega
 rw[uH,IZ _ _ J,E,zB,z,Vx,uH,jT,h];simp
def AT(o:cX)(k:Nat)(p:aR):(di o).set k p.ps=di (o.set k p):=by simp[wZ]
def ae4(l:cX)(ids:dd)(hl:I l<=1000000)(hi:I ids<=1000)(hb:∀p∈l,-1000000<=p.l.id/\p.l.id<=1000000):
  aK S 181 [.one (.p (.sl (di l))),.one (.p (.sl (fy ids)))] (.one (cF lg 7 (di (FV l ids)))):=by
 have pw:=atc l hl (f:=201) (x:=.box [.sl (fy ids)]) rfl aor (rW ids) (λk p _=>ary ids J k p);have lo:S.lone 11584064128=false:=ah;have xP:∀p∈oa l (rW ids),-1000000<=p.l.id/\p.l.id<=1000000:=λp hp=>hb p (acR hp);have ft:I (oa l (rW ids))<=1000000:=ny (K8 _ _ _) hl;refine bj asG ?_;simp only[go_sem,ajg,WN];refine mX pw lo (.inr (fN (jw _))) λcc lh gc fX=>?_;have z3:=fX 11584000000 U;simp only[go_sem]at z3;unfold FV;generalize oa l (rW ids)=m at gc xP ft;rcases gc with⟨e,e2⟩|⟨aO,u,e2,hC⟩
 .cases e2;have:m=[]:=by simpa using e
  subst this;have hz:¬(((0:Nat):Int)<((0:Nat):Int)):=J;simp only[go_sem];refine dy (λk A aj=>k=0/\A 5=.one (.p .nils)/\A 14=aH ((0:Nat):Int)/\A 15=aH ((0:Nat):Int)) 0 0 (c3 _) ?_ ?_
  .simp only[go_sem];exact rfl
  rintro k A aj _ ⟨rfl,H,z,Q⟩
  simp only[go_sem,Qq,WO,H,z,Q,hz];rfl
 cases e2;simp only[go_sem];refine dy (λk A aj=>A 3=.one (.bm 11584000000 1 0)/\aj 11584000000=(1,some (.var [.p (.sl (fy ids))]))/\A 5=.one (.hsl 11584064128 u 7 0 (I m))/\A 13=.one (.hsl 11584064128 u 7 0 (I m))/\A 14=aH (I m)/\A 15=aH k/\aj 11584064128=(u,some (.arr lg 7 (di (uH ids m k))))) 0 (I m) (cG _) ?_ ?_
 .simp only[go_sem,z3,hC];refine⟨rfl,?_⟩;simp[uH]
 rintro k A aj hk ⟨T,bI,H,X,z,Q,B⟩
 by_cases M:k<I m
 .have aM:((k:Int)<(I m:Int)):=J;obtain⟨p,hp⟩:=aT M;have R:=kI (ahP (ids:=ids) hp);have w1:=cN (n:=k) J;have ad:=avJ ids m k;have O:=aCw (ids:=ids) hp;have HY:k<I (uH ids m k):=J;cases c1:(p.l.kind==2)with
  |false=>
   have n1:(p.l.kind !=2):=by simp[bne,c1]
   have EB:uH ids m (k+1)=uH ids m k:=by
    rw[<-O];have e:qh ids p=p:=by unfold qh;rw[c1];rfl
    rw[e];obtain⟨hh,he⟩:=cn.1 (ahP (ids:=ids) hp);rw[<-he,Ve]
   simp only[go_sem,Qq,adA,T,bI,H,X,z,Q,B,M,aM,HY,R,aR.ps,n1,w1,EB]
  |true=>
   have n1:(p.l.kind !=2)=false:=by simp[bne,c1]
   have ag:=xP p (bR hp);have vP:qh ids p=mr ids (I ids) p:=by unfold qh;rw[c1];rfl
   rw[vP]at O;generalize uH ids m k=q at R ad O HY B;have q0:q.set k (mr ids 0 p)=q:=by
    have:mr ids 0 p=p:=by unfold mr;simp
    rw[this];have h1:q[k]?=some p:=by
     have h:(di q)[k]?=some p.ps:=R;rw[ig]at h;cases hq:q[k]? with
     |none=>rw[hq]at h;cases h
     |some x=>rw[hq]at h;simp[aR.ps]at h;obtain⟨⟨a,b,c,d,e,f⟩,g⟩:=x;obtain⟨⟨a',b',c',d',e',f'⟩,g'⟩:=p;simp at h;obtain⟨rfl,rfl,rfl,rfl,rfl,rfl,rfl⟩:=h;rfl
    obtain⟨hh,he⟩:=cn.1 h1;rw[<-he,Ve]
   simp only[go_sem,Qq,T,bI,H,X,z,Q,B,M,aM,HY,R,aR.ps,n1];refine dy (λj D Y=>D 3=.one (.bm 11584000000 1 0)/\Y 11584000000=(1,some (.var [.p (.sl (fy ids))]))/\D 5=.one (.hsl 11584064128 u 7 0 (I m))/\D 13=.one (.hsl 11584064128 u 7 0 (I m))/\D 14=aH (I m)/\D 15=aH k/\D 6=aH k/\D 24=.one (.p (.sl (fy ids)))/\D 25=aH (I ids)/\D 26=aH j/\
    (∃F,D 7=.one (.bm 11584256192 F 0)/\Y 11584256192=(F,some (.var (p.ps.map .p))))/\Y 11584064128=(u,some (.arr lg 7 (di (q.set k (mr ids j p)))))) 0 (I ids) (cG _) ?_ ?_
   .simp only[go_sem,T,bI,H,X,z,Q,B,q0];first|exact⟨rfl,_,⟨rfl,rfl⟩,rfl⟩|exact⟨rfl,⟨_,rfl,rfl⟩⟩|exact⟨_,rfl,rfl⟩|exact⟨⟨_,rfl,rfl⟩,rfl⟩|exact⟨rfl,⟨_,rfl,rfl⟩,rfl⟩|trace_state
   rintro j D Y hj ⟨p3,cI,p5,v,Ds,Dt,p6,E,y,M5,⟨F,p7,c7⟩,rK⟩
   by_cases CT:j<I ids
   .have TO:((j:Int)<(I ids:Int)):=J;obtain⟨d,hd⟩:=aT CT;have mL:=xC hd;have w2:=cN (n:=j) J;have uX:(ids.take (j+1)).countP (λi=>decide (i<p.l.id))=(ids.take j).countP (λi=>decide (i<p.l.id))+if d<p.l.id then 1 else 0:=by
     rw[jT,hd,um];simp[tA,R3]
    have cS:(ids.take j).countP (λi=>decide (i<p.l.id))<=j:=ny Nr (by rw[gX];omega);have ab:(di (q.set k (mr ids j p)))[k]?=some (mr ids j p).ps:=kI (by rw[mT,aD rfl,aD J]);have ac:k<I (q.set k (mr ids j p)):=by rw[jo];omega
    by_cases Z:d<p.l.id
    .have L:(mr ids j p).l.id-1=(mr ids (j+1) p).l.id:=by
      unfold mr;simp only;rw[uX,aD Z];omega
     have w3:IntKind.i64.wrap ((mr ids j p).l.id-1)=(mr ids (j+1) p).l.id:=by rw[<-L];exact kA (by unfold mr;simp only;omega) (by unfold mr;simp only;omega)
     have dX:((mr ids (j+1) p).ps)=[.int .i64 (mr ids j p).l.kind,.int .i64 (mr ids j p).l.gate,.int .i64 (mr ids j p).l.ay,.int .i64 (mr ids (j+1) p).l.id,.int .i64 (mr ids j p).l.sign,.bool (mr ids j p).l.over,.bool (mr ids j p).d]:=rfl;have N:(di (q.set k (mr ids j p))).set k (mr ids (j+1) p).ps=di (q.set k (mr ids (j+1) p)):=by rw[AT,List.set_set]
     rw[dX]at N;generalize mr ids j p=x at*;simp only[go_sem,U6,p3,cI,p5,v,Ds,Dt,p6,E,y,M5,p7,c7,rK,M,CT,TO,mL,Z,ab,ac,aR.ps,w2,w3,N];exact⟨F,rfl,rfl⟩
    have L:mr ids (j+1) p=mr ids j p:=by unfold mr;rw[uX,aC Z];simp
    simp only[go_sem,U6,p3,cI,p5,v,Ds,Dt,p6,E,y,M5,p7,c7,rK,CT,TO,mL,Z,aR.ps,w2,L];exact⟨F,rfl,rfl⟩
   have:j=I ids:=J;subst this;rw[O]at rK;simp only[go_sem,U6,adA,p3,cI,p5,v,Ds,Dt,M5,y,rK,eR,w1,M]
 have:k=I m:=J;subst this;have L:uH ids m (I m)=m.map (qh ids):=by rw[uH,lA,K7,rT]
 rw[L]at B;simp only[go_sem,Qq,WO,T,H,X,z,Q,eR];have ni:m.map (qh ids)≠[]:=by simpa using aO
 exact wX (.inr ⟨by simpa using ni,u,aP,B⟩)
def cE.ids(f:cE F g):aaz g/\Hn g:=by have h:=f.ok.cr;unfold oo at h;simp only[c6]at h;exact IQ.1 λk H=>kr.1 h.1.2 k (gN.2 H)
def adh{p:aR}(h:p∈aQ g):∃(i:Nat) (l:aa),g[i]?=some l/\p=⟨l,km g i⟩:=by
 obtain⟨i,H⟩:=j9 h;have L:i<I g:=by rw[<-cW];exact(cn.1 H).1
 obtain⟨l,hl⟩:=aT L;rw[oJ hl]at H;cases H;exact⟨i,l,hl,rfl⟩
def acK(j:cE F g):∀p∈aQ g,-1000000<=p.l.id/\p.l.id<=1000000:=by
 intro p hp;obtain⟨i,l,hl,rfl⟩:=adh hp;have H:=bR hl;rcases j.ok.kinds l H with h|h
 .have:=(oX (f:=(F:Int)) h).1 (j.bad l H);simp only[this.1.1.2];omega
 have m:=j.ids.1 l H h;have:=j.cr;simp only;omega
def Cr(g:ai)(h:Nat):Option cX:=
 let p:=(aQ g).getD h ⟨mw,false⟩
 let q:=(aQ g).getD ((h+1)%I g) ⟨mw,false⟩
 if(p.l.kind==2)&&((q.l.kind==2)&&(p.l.id==q.l.id))then some (FV (aQ g) [p.l.id])else none
def aDi(L:cE F g)(H:h<I g){k b c:Int}{l o:Bool}{sg:Int}:
  aK S 149 [.one (.p (kh F g)),ep k h b c l o sg] (uN (Cr g h)):=by
 have x:=L.len;have B:=cW g;have f:=ED L H;have m:=fk (h+1) (show 0<I g by omega);obtain⟨p,hp⟩:=aT (L:=aQ g) (k:=h) J;obtain⟨q,y⟩:=aT (L:=aQ g) (k:=(h+1)%I g) J;have j:=kI hp;have Q:=kI y;have lo:S.lone 9536256896=false:=ah;unfold Cr;simp only[dC,hp,y,kZ];refine bj ayf ?_;cases z:(p.l.kind==2)with
 |false=>
  have n:(p.l.kind !=2):=by simp[bne,z]
  simp only[go_sem,Oy,eN,aU f cM,j,Q,aR.ps,B,H,m,n];exact⟨aA,rfl⟩
 |true=>
 have n:(p.l.kind !=2)=false:=by simp[bne,z]
 cases v:(q.l.kind==2)with
 |false=>
  have N:(q.l.kind !=2):=by simp[bne,v]
  simp only[go_sem,Oy,eN,aU f cM,j,Q,aR.ps,B,H,m,n,N];exact⟨aA,rfl⟩
 |true=>
 have N:(q.l.kind !=2)=false:=by simp[bne,v]
 cases c9:(p.l.id==q.l.id)with
 |false=>
  have u:(p.l.id !=q.l.id):=by simp[bne,c9]
  simp only[go_sem,Oy,eN,aU f cM,j,Q,aR.ps,B,H,m,n,N,u];exact⟨aA,rfl⟩
 |true=>
 have u:(p.l.id !=q.l.id)=false:=by simp[bne,c9]
 have E:=ae4 (aQ g) [p.l.id] J aP (acK L);simp only[go_sem,Oy,eN,aU f cM,j,Q,aR.ps,B,H,m,n,N,u,iJ];refine⟨aA,?_⟩;refine lU E lo (.inr (fN (jw _))) λM O w D R A=>?_;simp only[go_sem];refine⟨?_,nA D⟩;rcases A with rfl|rfl<;>kernel_rfl
abbrev aV(ls:ai)(i:Nat):aR:=(aQ ls).getD i ⟨mw,false⟩
def mu{i:Nat}{p:aR}(h:(aQ g)[i]?=some p):aV g i=p:=by simp[aV,dC,h]
abbrev aJ(ls:ai)(e:Nat):Nat:=(e+1)%I ls
def kR(g:ai)(e:Nat)(ov:Bool):Bool:=((aV g e).l.kind==2)&&(((aV g (aJ g e)).l.kind==2)&&(((aV g e).l.over==ov)&&((aV g (aJ g e)).l.over==ov)))
def LO(y:cE F g){e:Nat}(h:e<I g)(ov:Bool):aK S 183 [.one (.p (kh F g)),aH e,gE ov] (cO (kR g e ov)):=by
 have x:=y.len;have B:=cW g;have f:=ED y h;have H:=fk (e+1) (show 0<I g by omega);obtain⟨p,hp⟩:=aT (L:=aQ g) (k:=e) J;obtain⟨q,u⟩:=aT (L:=aQ g) (k:=(e+1)%I g) J;have j:=kI hp;have Q:=kI u;unfold kR;rw[mu hp,mu u];refine bj atV ?_;cases m:(p.l.kind==2)with
 |false=>simp only[go_sem,L3,eN,aU f cM,j,Q,aR.ps,B,h,H,m]
 |true=>
 cases n:(q.l.kind==2)with
 |false=>simp only[go_sem,L3,eN,aU f cM,j,Q,aR.ps,B,h,H,m,n]
 |true=>
 cases c9:(p.l.over==ov)with
 |false=>simp only[go_sem,L3,eN,aU f cM,j,Q,aR.ps,B,h,H,m,n,c9]
 |true=>
 cases v:(q.l.over==ov)with
 |false=>simp only[go_sem,L3,eN,aU f cM,j,Q,aR.ps,B,h,H,m,n,c9,v]
 |true=>simp only[go_sem,L3,eN,aU f cM,j,Q,aR.ps,B,h,H,m,n,c9,v]
def fm(g:ai)(e:Nat):Nat×Nat×Bool:=if(aV g e).l.kind==2 then(aJ g e,e,(aV g (aJ g e)).l.kind==1)else(e,aJ g e,((aV g e).l.kind==1)&&((aV g (aJ g e)).l.kind==2))
abbrev amG(a b c:PV):RV:=.tup [.one (.p a),.one (.p b),.one (.p c)]
def Ae{aj:aN}{s:Nat}{a b c:PV}{l:Bool}:fg aj [] s ((amG a b c).fR l)=some (.tup [.one (.p a),.one (.p b),.one (.p c)],[]):=by cases l<;>rfl
def alI(x:cE F g){e:Nat}(h:e<I g):aK S 179 [.one (.p (kh F g)),aH e] (amG (.int .i64 ((fm g e).1:Nat)) (.int .i64 ((fm g e).2.1:Nat)) (.bool (fm g e).2.2)):=by
 have v:=x.len;have B:=cW g;have n:=ED x h;have H:=fk (e+1) (show 0<I g by omega);obtain⟨p,hp⟩:=aT (L:=aQ g) (k:=e) J;obtain⟨q,u⟩:=aT (L:=aQ g) (k:=(e+1)%I g) J;have m:=kI hp;have Q:=kI u;unfold fm;rw[mu hp,mu u];refine bj asR ?_;cases j:(p.l.kind==2)with
 |true=>
  have E:p.l.kind=2:=by simpa using j
  rw[aD rfl];cases f:(q.l.kind==1)with
  |true=>simp only[go_sem,KB,eN,aU n cM,m,Q,aR.ps,B,h,H,j,f];exact⟨aA,rfl⟩
  |false=>simp only[go_sem,KB,eN,aU n cM,m,Q,aR.ps,B,h,H,j,f];exact⟨aA,rfl⟩
 |false=>
  rw[aC U];cases f:(p.l.kind==1)with
  |true=>
   cases c9:(q.l.kind==2)with
   |true=>simp only[go_sem,KB,eN,aU n cM,m,Q,aR.ps,B,h,H,j,f,c9];exact⟨aA,rfl⟩
   |false=>simp only[go_sem,KB,eN,aU n cM,m,Q,aR.ps,B,h,H,j,f,c9];exact⟨aA,rfl⟩
  |false=>simp only[go_sem,KB,eN,aU n cM,m,Q,aR.ps,B,h,H,j,f];exact⟨aA,rfl⟩
def Cf(o:aF)(pr:Nat->Bool)(i:Nat):Bool:=match o[i]? with|some v=>pr v|none=>false
def az7(o:aF)(hl:I o<=1000000)(hn:x.norm=x/\y.norm=y/\z.norm=z)(Z:S.shared f=false)(pr:Nat->Bool)(hd:∀v∈o,aK S f [aH (v:Nat),.one (.p x),.one (.p y),.one (.p z)] (cO (pr v))):
  aK S 220 [.one (.p (.sl (a_ o))),.one (.p (.fn f [] [x,y,z]))] (ja (match (List.range (I o)).find? (Cf o pr)with|some k=>(k:Int)|none=> -1)):=by
 obtain⟨R,E,N⟩:=hn;refine bj awp ?_;simp only[go_sem,aiZ,R,E,N,af,ao];refine dy (λk A aj=>A 0=.one (.p (.sl (a_ o)))/\A 1=.one (.p (.fn f [] [x,y,z]))/\A 7=aH (I o)/\A 8=aH k/\ ∀j,j<k->Cf o pr j=false) 0 (I o) (cG _) ?_ ?_
 .simp only[go_sem];exact⟨rfl,λj O=>absurd O (pG j)⟩
 rintro k A aj hk ⟨H,B,D,L,M⟩
 by_cases g:k<I o
 .have X:((k:Int)<(I o:Int)):=J;obtain⟨v,Q⟩:=aT g;have Y:=jG Q;have w1:=cN (n:=k) J;have m:=hd v (bR Q);have u:Cf o pr k=pr v:=by simp[Cf,Q]
  cases T:pr v with
  |true=>rw[T]at m u;have F:=AR (p:=Cf o pr) g M u;simp only[go_sem,U2,H,B,D,L,g,X,Y,Z,R,E,N,au m,F,af,ao]
  |false=>
   rw[T]at m u;simp only[go_sem,U2,H,B,D,L,g,X,Y,Z,R,E,N,au m,w1,af,ao];intro j O;rcases mQ.1 O with h|rfl
   .exact M j h
   exact u
 have:k=I o:=J;subst this;have F:=Gx (p:=Cf o pr) M;simp only[go_sem,U2,ahi,H,B,D,L,eR,F,af,ao]
def auM(o:aF)(hl:I o<=1000000)(n:x.norm=x/\y.norm=y/\z.norm=z)(M:S.shared f=false)(pr:Nat->Bool)(E:∀v∈o,aK S f [aH (v:Nat),.one (.p x),.one (.p y),.one (.p z)] (cO (pr v))):
  aK S 199 [.one (.p (.sl (a_ o))),.one (.p (.fn f [] [x,y,z]))] (cO (o.any pr)):=by
 have g:=az7 o hl n M pr E;obtain⟨B,D,N⟩:=n;refine bj awH ?_;cases A:o.any pr with
 |true=>
  obtain⟨v,O,hp⟩:=G_.1 A;obtain⟨k,u⟩:=j9 O;have F:=(cn.1 u).1;cases h:(List.range (I o)).find? (Cf o pr)with
  |none=>have:=G9.1 h k (gN.2 F);simp[Cf,u,hp]at this
  |some j=>rw[h]at g;have L:(0:Int)<=(j:Int):=J;simp only[go_sem,V2,amk,B,D,N,dJ g,L,af,ao]
 |false=>
  cases h:(List.range (I o)).find? (Cf o pr)with
  |some j=>
   have H:=HA h;unfold Cf at H;cases m:o[j]? with
   |none=>rw[m]at H;cases H
   |some v=>rw[m]at H;have:=E6.1 A v (bR m);exact absurd H this
  |none=>rw[h]at g;have L:¬(0:Int)<= -1:=U;simp only[go_sem,V2,amk,B,D,N,dJ g,L,af,ao]
def zd(f:dt)(e:Nat):Nat:=f.bQ.countP λd=>d/2==e
def B8(f:dt)(pl:Nat)(E:aF):Bool:=(I f.bQ==I E)&&((I f.places==pl)&&E.all λe=>zd f e==1)
def agi(ad:cE F g){j:Nat}{f:dt}(hf:(dG F g)[j]?=some f)(E:aF)(he:I E<=1000)(pl:Nat):
  aK S 200 [aH j,.one (.p (.box [kh F g])),.one (.p (.box [.sl (a_ E)])),.one (.p (.box [.int .i64 pl]))] (cO (B8 f pl E)):=by
 have ac:=ad.len;have jQ:I (aE g)<=I g:=sF g (I g);have xJ:=Kv ad.ok (bR hf);have iU:bt g<=1600:=by unfold bt;omega
 have Gb:=OI hf;have u5:=(cn.1 hf).1;refine bj aqX ?_;unfold B8;cases c1:(I f.bQ==I E)with
 |false=>
  have n1:(((I f.bQ:Nat):Int)!=((I E:Nat):Int)):=by
   have:¬I f.bQ=I E:=by simpa using c1
   simp[bne];omega
  simp only[go_sem,To,Gb,dt.ps,u5,n1,af,ao]
 |true=>
 have n1:(((I f.bQ:Nat):Int)!=((I E:Nat):Int))=false:=by
  have:I f.bQ=I E:=by simpa using c1
  simp[bne,this]
 cases c2:(I f.places==pl)with
 |false=>
  have n2:(((I f.places:Nat):Int)!=((pl:Nat):Int)):=by
   have:¬I f.places=pl:=by simpa using c2
   simp[bne];omega
  simp only[go_sem,To,Gb,dt.ps,u5,n1,n2,af,ao]
 |true=>
 have n2:(((I f.places:Nat):Int)!=((pl:Nat):Int))=false:=by
  have:I f.places=pl:=by simpa using c2
  simp[bne,this]
 simp only[go_sem,To,Gb,dt.ps,u5,n1,n2,af,ao];refine dy (λk N aj=>N 6=.one (.bm 12800064448 1 0)/\aj 12800064448=(1,some (.var (f.ps.map .p)))/\N 32=.one (.p (.sl (a_ E)))/\N 33=aH (I E)/\N 34=aH k/\ ∀i e,i<k->E[i]?=some e->(zd f e==1)) 0 (I E) (cG _) ?_ ?_
 .simp only[go_sem,dt.ps];first|exact⟨rfl,λi e H=>absurd H (pG i)⟩|exact⟨rfl,rfl,λi e H=>absurd H (pG i)⟩|exactλi e H=>absurd H (pG i)
 rintro k N aj hk ⟨h6,b6,A,Cv,B,aG⟩
 simp only[dt.ps,eJ,lr]at b6;by_cases aw:k<I E
 .have aM:((k:Int)<(I E:Int)):=J;obtain⟨e,z⟩:=aT aw;have PC:=jG z;have w1:=cN (n:=k) J;simp only[go_sem,adG,h6,b6,A,Cv,B,aw,aM,PC,af,ao];refine dy (λi D bh=>D 6=.one (.bm 12800064448 1 0)/\bh 12800064448=(1,some (.var (f.ps.map .p)))/\D 32=.one (.p (.sl (a_ E)))/\D 33=aH (I E)/\D 34=aH k/\D 8=aH e/\D 9=aH ((f.bQ.take i).countP λd=>d/2==e:Nat)/\D 39=.one (.p (.sl (a_ f.bQ)))/\D 40=aH (I f.bQ)/\D 41=aH i) 0 (I f.bQ) (cG _) ?_ ?_
  .simp only[go_sem,h6,b6,A,Cv,B,dt.ps];first|exact⟨rfl,rfl⟩|exact rfl|exact⟨rfl,rfl,rfl⟩
  rintro i D bh H ⟨X,M,x,y,u,Z,L,v,R,m⟩
  by_cases xN:i<I f.bQ
  .have O:((i:Int)<(I f.bQ:Int)):=J;obtain⟨d,hd⟩:=aT xN;have mL:=jG hd;have w2:=cN (n:=i) J;have wq:=wrap_small (n:=d/2) (by have:=ag9 (bR hf) d (bR hd);omega);have cS:(f.bQ.take i).countP (λd=>d/2==e)<=i:=ny Nr (by rw[gX];omega);have w3:=cN (n:=(f.bQ.take i).countP λd=>d/2==e) J;have T:(f.bQ.take (i+1)).countP (λd=>d/2==e)=(f.bQ.take i).countP (λd=>d/2==e)+if(d/2==e)=true then 1 else 0:=by
    rw[jT,hd,um];simp[tA,R3]
   cases Q:(d/2==e)with
   |true=>
    have n3:(((d/2:Nat):Int)==(e:Int)):=by
     have:d/2=e:=by simpa using Q
     simp;omega
    rw[Q,aD rfl]at T;simp only[go_sem,Qc,X,x,y,u,Z,L,v,R,m,xN,O,mL,eH,fW,wq,n3,w2,w3,T,af,ao];first|exact M|exact⟨M,rfl⟩
   |false=>
    have n3:(((d/2:Nat):Int)==(e:Int))=false:=by
     have:¬d/2=e:=by simpa using Q
     simp;omega
    rw[Q,aC U,vu]at T;simp only[go_sem,Qc,X,x,y,u,Z,L,v,R,m,xN,O,mL,eH,fW,wq,n3,w2,T,af,ao];first|exact M|exact⟨M,rfl⟩
  have:i=I f.bQ:=J;subst this;rw[lA]at L;have ab:(f.bQ.countP λd=>d/2==e)=zd f e:=rfl;rw[ab]at L;cases Y:(zd f e==1)with
  |true=>
   have n4:(((zd f e:Nat):Int)!=1)=false:=by
    have:zd f e=1:=by simpa using Y
    simp[bne,this]
   simp only[go_sem,Qc,adg,ajM,X,x,y,u,Z,L,v,R,m,eR,n4,w1,aw,af,ao];refine⟨M,λi2 e2 Mh Bg=>?_⟩;rcases mQ.1 Mh with h|rfl
   .exact aG i2 e2 h Bg
   rw[z]at Bg;cases Bg;exact Y
  |false=>
   have n4:(((zd f e:Nat):Int)!=1):=by
    have:¬zd f e=1:=by simpa using Y
    simp[bne];omega
   have ef:(E.all λe=>zd f e==1)=false:=OM.2 ⟨e,bR z,by rw[Y];decide⟩;simp only[go_sem,Qc,adg,X,x,y,u,Z,L,v,R,m,eR,n4,ef,af,ao]
 have:k=I E:=J;subst this;have ef:(E.all λe=>zd f e==1):=kr.2 λe he=>by obtain⟨i,H⟩:=j9 he;exact aG i e (cn.1 H).1 H
 simp only[go_sem,adG,alQ,A,Cv,B,eR,ef,af,ao]
def r4(F:Nat)(g:ai)(pl:Nat)(E:aF)(f:Nat):Bool:=B8 (dF F g (2*f)) pl E||B8 (dF F g (2*f+1)) pl E
def ack(L:cE F g)(E:aF)(eh:I E<=1000){h:Nat}(H:E[0]?=some h)(X:h<I g)(pl:Nat):
  aK S 180 [.one (.p (kh F g)),aH pl,.one (.p (.sl (a_ E)))] (cO (r4 F g pl E h)):=by
 have O:=L.len;obtain⟨B,a1,N,a3⟩:=adJ L (d:=2*h) J;obtain⟨m,Q,D,b3⟩:=adJ L (d:=2*h+1) J;have g0:(dG F g).getD B PR=dF F g (2*h):=by rw[dC,N];rfl
 have g1:(dG F g).getD m PR=dF F g (2*h+1):=by rw[dC,D];rfl
 have pc:=auM [B,m] aP (f:=200) (x:=.box [kh F g]) (y:=.box [.sl (a_ E)]) (z:=.box [.int .i64 pl]) ⟨rfl,rfl,rfl⟩ aCV (λj=>B8 ((dG F g).getD j PR) pl E) (λv M=>by
  simp only[dr,ic,or_false]at M;rcases M with rfl|rfl
  .rw[g0];exact agi L N E eh pl
  rw[g1];exact agi L D E eh pl)
 have u:([B,m].any λj=>B8 ((dG F g).getD j PR) pl E)=r4 F g pl E h:=by simp only[Q1,UQ,Sx,g0,g1];rfl
 rw[u]at pc;simp only[eJ,lr]at pc;have Y:=jG a1;have jb:=jG Q;have he:=jG H;have R:=rB (a:=h) J;have T:=cN (n:=2*h) J;have Ab:=N7 F g;have l1:2*h<I (kO F g):=J;have l2:2*h+1<I (kO F g):=J;have Z:0<I E:=(cn.1 H).1;have A:(0:Int)<(I E:Int):=J;refine bj aoJ ?_;simp only[go_sem,agS,he,Z,A,R,T,Y,jb,l1,l2,az8,dq pc,af,ao];exact aA
def jU(g:ai)(l:cX)(e:Nat):cX:=(l.set e (l.getD (aJ g e) ⟨mw,false⟩)).set (aJ g e) (l.getD e ⟨mw,false⟩)
def Is(g:ai)(l:cX)(e:Nat):I (jU g l e)=I l:=by simp[jU]
def kJ(g:ai)(l:cX)(E:aF):cX:=E.foldl (jU g) l
def FQ(g:ai):∀(E:aF) (l:cX),I (kJ g l E)=I l:=by
 intro E
 induction E with
 |nil=>intro l;rfl
 |cons e E f=>intro l;show(kJ g (jU g l e) E).length=_;rw[f,Is]
def aAX(Z:cE F g)(E:aF)(mv:∀e∈E,e<I g)(eh:I E<=1000):
  aK S 187 [.one (.p (kh F g)),.one (.p (.sl (a_ E)))] (.one (cF lg 7 (di (kJ g (aQ g) E)))):=by
 have Q:=Z.len;have v:=cW g;have R:aQ g≠[]:=jH.1 (by have:=jH.2 Z.ne;omega);have h:=OT R J;have lo:S.lone 11968064256=false:=ah;refine bj aC7 ?_;simp only[go_sem,afr,Fw];refine mX h lo (.inl rfl) λcc lh gc fX=>?_;rcases gc with⟨e,_⟩|⟨_,j,e,hC⟩
 .exact absurd (by simpa using e) R
 cases e;rw[cY,v];simp only[go_sem];refine dy (λk A aj=>A 0=.one (.p (kh F g))/\A 5=.one (.hsl 11968064256 j 7 0 (I g))/\A 15=.one (.p (.sl (a_ E)))/\A 16=aH (I E)/\A 17=aH k/\aj 11968064256=(j,some (.arr lg 7 (di (kJ g (aQ g) (E.take k)))))) 0 (I E) (cG _) ?_ ?_
 .simp only[go_sem,hC];first|exact⟨rfl,rfl⟩|rfl|exact⟨rfl,rfl,rfl⟩
 rintro k A aj hk ⟨y,N,T,O,Y,B⟩
 by_cases z:k<I E
 .have aM:((k:Int)<(I E:Int)):=J;obtain⟨e,H⟩:=aT z;have PC:=jG H;have D:=mv e (bR H);have pe:=ED Z D;have w1:=cN (n:=k) J;have x:kJ g (aQ g) (E.take (k+1))=jU g (kJ g (aQ g) (E.take k)) e:=by
   unfold kJ;rw[jT,H,BN];rfl
  have im:I (kJ g (aQ g) (E.take k))=I g:=by rw[FQ,v]
  have hm:=fk (e+1) (show 0<I g by omega);generalize kJ g (aQ g) (E.take k)=m at B x im;obtain⟨p,hp⟩:=aT (L:=m) (k:=e) J;obtain⟨q,L⟩:=aT (L:=m) (k:=(e+1)%I g) J;have eV:=kI hp;have Bl:=kI L;have l1:e<I m:=J;have l2:(e+1)%I g<I m:=J;have X:=AT m e q;have vP:(m.set e q).set ((e+1)%I g) p=jU g m e:=by unfold jU aJ;rw[dC,L,dC,hp];rfl
  have f:=AT (m.set e q) ((e+1)%I g) p;rw[vP,<-x]at f;simp only[aR.ps]at X f;obtain⟨p',jR⟩:=aT (L:=m.set e q) (k:=e) (by rw[jo];omega);obtain⟨q',JR⟩:=aT (L:=m.set e q) (k:=(e+1)%I g) (by rw[jo];omega);have u:=kI JR;simp only[go_sem,WW,y,N,T,O,Y,B,z,aM,PC,eN,aU pe cM,D,hm,eV,Bl,u,l1,l2,X,f,jo,aR.ps,w1];exact aA
 have:k=I E:=J;subst this;rw[lA]at B;simp only[go_sem,WW,ad3,y,N,T,O,Y,eR];have M:I (kJ g (aQ g) E)=I g:=by rw[FQ,v]
 refine wX (.inr ⟨?_,j,by rw[cY,M],B⟩);intro h2;have:=congrArg List.length h2;rw[cY,M,fU]at this;have h3:=jH.2 Z.ne;omega
def k9(l:cX)(i:Nat)(r:Int):cX:=l.set i {(l.getD i ⟨mw,false⟩)with l:={(l.getD i ⟨mw,false⟩).l with ay:=r}}
def E5(l:cX)(i:Nat)(r:Int):I (k9 l i r)=I l:=by simp[k9]
def DH(F:Nat)(g:ai)(h B:Nat):Option cX:=
 if(fm g h).2.2&&((fm g B).2.2&&(!((fm g h).2.1==(fm g B).2.1)&&(((aV g (fm g h).2.1).l.id==(aV g (fm g B).2.1).l.id)&&r4 F g 1 [h,B] h)))
 then some (kJ g (k9 (k9 (aQ g) (fm g h).1 (aV g (fm g B).1).l.ay) (fm g B).1 (aV g (fm g h).1).l.ay) [h,B])else none
def VJ{e:Nat}(H:e<I g):(fm g e).1<I g/\(fm g e).2.1<I g:=by
 have h:=fk (e+1) (show 0<I g by omega);unfold fm aJ;split
 .exact⟨h,H⟩
 exact⟨H,h⟩
def ata(ar:cE F g){B:Nat}(ha:h<I g)(hb:B<I g){k c:Int}{l o:Bool}{sg:Int}:
  aK S 148 [.one (.p (kh F g)),ep k h B c l o sg] (uN (DH F g h B)):=by
 have aq:=ar.len;have X:=cW g;have u:=alI ar ha;have pb:=alI ar hb;have pc:=ack ar [h,B] aP (h:=h) rfl ha 1;obtain⟨p1,v1⟩:=VJ ha;obtain⟨q1,R⟩:=VJ hb;unfold DH;generalize fm g h=x at*;generalize fm g B=y at*;obtain⟨f,N,one⟩:=x;obtain⟨A,D,two⟩:=y;simp only at u pb p1 v1 q1 R |-;simp only[eJ,lr]at pc;have c1:((1:Nat):Int)=1:=rfl;rw[c1]at pc;obtain⟨P,hP⟩:=aT (L:=aQ g) (k:=f) J;obtain⟨Q,hQ⟩:=aT (L:=aQ g) (k:=A) J;obtain⟨V,hV⟩:=aT (L:=aQ g) (k:=N) J
 obtain⟨ch,hW⟩:=aT (L:=aQ g) (k:=D) J;rw[mu hP,mu hQ,mu hV,mu hW];have ac:=kI hP;have ag:=kI hQ;have v:=kI hV;have H:=kI hW;have aO:aQ g≠[]:=jH.1 J;have am:=OT aO J;have lo:S.lone 9472384256=false:=ah;refine bj apu ?_;cases one with
 |false=>simp only[go_sem,IH,Jg,aU u Ae,aU pb Ae];exact⟨aA,rfl⟩
 |true=>
 cases two with
 |false=>simp only[go_sem,IH,Jg,aU u Ae,aU pb Ae];exact⟨aA,rfl⟩
 |true=>
 cases c2:(N==D)with
 |true=>
  have n2:((N:Int)==(D:Int)):=by simp[show N=D by simpa using c2]
  simp only[go_sem,IH,Jg,aU u Ae,aU pb Ae,n2];exact⟨aA,rfl⟩
 |false=>
 have n2:((N:Int)==(D:Int))=false:=by
  have:¬N=D:=by simpa using c2
  simp;omega
 cases c9:(V.l.id==ch.l.id)with
 |false=>
  have n3:(V.l.id !=ch.l.id):=by simp[bne,c9]
  simp only[go_sem,IH,Jg,aU u Ae,aU pb Ae,n2,v,H,v1,R,X,aR.ps,n3];exact⟨aA,rfl⟩
 |true=>
 have n3:(V.l.id !=ch.l.id)=false:=by simp[bne,c9]
 cases c4:r4 F g 1 [h,B] h with
 |false=>rw[c4]at pc;simp only[go_sem,IH,Jg,aU u Ae,aU pb Ae,n2,v,H,v1,R,X,aR.ps,n3,hU,dq pc];exact⟨aA,rfl⟩
 |true=>
 rw[c4]at pc;simp only[go_sem,IH,Jg,aU u Ae,aU pb Ae,n2,v,H,ac,ag,v1,R,p1,q1,X,aR.ps,n3,hU,dq pc,Fw];refine⟨aA,aA,?_⟩;refine mX am lo (.inl rfl) λcc lh gc fX=>?_;have b3:=fX 9472000000 U;simp only[go_sem]at b3;rcases gc with⟨e,_⟩|⟨_,gg,e,hC⟩
 .exact absurd (by simpa using e) aO
 cases e;rw[cY,X];have L:=AT (aQ g) f {P with l:={P.l with ay:=Q.l.ay}};have lS:(aQ g).set f {P with l:={P.l with ay:=Q.l.ay}}=k9 (aQ g) f Q.l.ay:=by unfold k9;rw[dC,hP];rfl
 rw[lS]at L;have fj:I (k9 (aQ g) f Q.l.ay)=I g:=by rw[E5,X]
 obtain⟨Q',ab⟩:=aT (L:=k9 (aQ g) f Q.l.ay) (k:=A) J;have ad:=kI ab;have z:=AT (k9 (aQ g) f Q.l.ay) A {Q' with l:={Q'.l with ay:=P.l.ay}};have iO:(k9 (aQ g) f Q.l.ay).set A {Q' with l:={Q'.l with ay:=P.l.ay}}=k9 (k9 (aQ g) f Q.l.ay) A P.l.ay:=by rw[k9.eq_def (k9 (aQ g) f Q.l.ay),dC,ab];rfl
 rw[iO]at z;simp only[aR.ps]at L z;have sx:I (k9 (k9 (aQ g) f Q.l.ay) A P.l.ay)=I g:=by rw[E5,fj]
 simp only[go_sem,b3,hC,X,ac,ad,aR.ps,L,z,fj,p1,q1,jo];generalize k9 (k9 (aQ g) f Q.l.ay) A P.l.ay=M at sx |-;obtain⟨E,TJ⟩:∃E,E=[h,B]:=⟨_,rfl⟩;have zY:I E=2:=by rw[TJ];rfl
 have mv:∀e∈E,e<I g:=λe j=>by rw[TJ]at j;simp only[dr,ic,or_false]at j;rcases j with rfl|rfl<;>assumption
 refine dy (λk O aj=>O 0=.one (.p (kh F g))/\O 14=.one (.hsl 9472384256 gg 7 0 (I g))/\(∃T,O 116=.one (.hsl 9472512256 T 1 0 2)/\aj 9472512256=(T,some (.arr 3 1 (a_ E))))/\O 117=aH ((2:Nat):Int)/\O 118=aH k/\aj 9472384256=(gg,some (.arr lg 7 (di (kJ g M (E.take k)))))) 0 2 (cG _) ?_ ?_
 .simp only[go_sem];exact⟨⟨_,rfl,by rw[TJ];rfl⟩,rfl,rfl⟩
 rintro k O aj hk ⟨h0,A7,⟨T,HF,bE⟩,Z,Y,bO⟩
 by_cases aw:k<2
 .have aM:((k:Int)<((2:Nat):Int)):=J;have TP:k<I E:=J;obtain⟨e,j⟩:=aT TP;have PC:=jG j;have Pz:=mv e (bR j);have pe:=ED ar Pz;have R:=cN (n:=k) J;have iw:kJ g M (E.take (k+1))=jU g (kJ g M (E.take k)) e:=by
   unfold kJ;rw[jT,j,BN];rfl
  have im:I (kJ g M (E.take k))=I g:=by rw[FQ,sx]
  have hm:=fk (e+1) (show 0<I g by omega);generalize kJ g M (E.take k)=m at bO iw im;obtain⟨p,hp⟩:=aT (L:=m) (k:=e) J;obtain⟨q,hq⟩:=aT (L:=m) (k:=(e+1)%I g) J;have eV:=kI hp;have Bl:=kI hq;have l1:e<I m:=J;have l2:(e+1)%I g<I m:=J;have L:=AT m e q;have vP:(m.set e q).set ((e+1)%I g) p=jU g m e:=by unfold jU aJ;rw[dC,hq,dC,hp];rfl
  have z:=AT (m.set e q) ((e+1)%I g) p;rw[vP,<-iw]at z;simp only[aR.ps]at L z;obtain⟨q',JR⟩:=aT (L:=m.set e q) (k:=(e+1)%I g) (by rw[jo];omega);have ap:=kI JR;simp only[go_sem,aaS,h0,A7,HF,Z,Y,bE,bO,aw,aM,PC,eN,aU pe cM,Pz,hm,eV,Bl,ap,l1,l2,L,z,jo,aR.ps,R];first|exact⟨aA,T,rfl,rfl⟩|exact⟨aA,⟨T,rfl,rfl⟩⟩|exact⟨aA,⟨T,rfl,rfl⟩,rfl⟩|trace_state
 have:k=2:=J;subst this;have e1:E.take 2=[h,B]:=by rw[TJ];rfl
 rw[e1]at bO;have lY:¬(((2:Nat):Int)<((2:Nat):Int)):=J;simp only[go_sem,aaS,alC,h0,A7,Z,Y,lY];have h1:I (kJ g M [h,B])=I g:=by rw[FQ,sx]
 refine nA (.inr ⟨?_,gg,by rw[kZ,cY,h1],bO⟩);intro h2;have:=congrArg List.length h2;rw[kZ,cY,h1,fU]at this;omega
def wU(l:cX)(i:Nat)(g r:Int):cX:=l.set i {(l.getD i ⟨mw,false⟩)with l:={(l.getD i ⟨mw,false⟩).l with gate:=g,ay:=r}}
def IU(F:Nat)(g:ai)(h:Nat):Option cX:=
 if((aV g h).l.kind==1)&&(decide ((aV g h).l.gate<(F:Int))&&((aV g h).l.ay==(bU g (aV g h).l.gate.toNat:Int)))
 then some (wU (fQ (aQ g) ((aV g h).l.gate+1) 0 1) h ((aV g h).l.gate+1) 1)else none
def atM(ac:cE F g)(y:h<I g){b c:Int}{l o:Bool}{sg:Int}:
  aK S 154 [.one (.p (kh F g)),ep 9 h b c l o sg] (uN (IU F g h)):=by
 unfold IU;have ab:=ac.len;have A:=cW g;obtain⟨p,hp⟩:=aT (L:=aQ g) (k:=h) J;have L:=kI hp;have aO:aQ g≠[]:=jH.1 J;have u:=OT aO J;have lo:S.lone 9856256256=false:=ah;have eX:S.shared 175:=ah;have qY:=Hh ac;rw[mu hp];refine bj ai4 ?_;cases z:(p.l.kind==1)with
 |false=>
  have N:(p.l.kind !=1):=by simp[bne,z]
  simp only[go_sem,EZ,L,A,y,aR.ps,N];exact⟨aA,rfl⟩
 |true=>
 have N:(p.l.kind !=1)=false:=by simp[bne,z]
 obtain⟨i,l0,vS,qX⟩:=adh (bR hp);have Y:tq F g p.l:=by rw[qX];exact ac.ok.ax.fG l0 (bR vS) (by rw[qX]at z;exact z)
 obtain⟨G,H⟩:=o_ Y.g0;have Cw:G<=F:=by have:=Y.g1;omega
 have En:=ac.fing;have wG:=cN (n:=G) J;have Z:=jG (I7 (L:=g) Cw);have Bb:G<I (gy g F):=by simp[gy];omega
 have eG:p.l.gate.toNat=G:=by rw[H];rfl
 rw[eG];by_cases c2:G<F
 .have v:((G:Int)<(F:Int)):=J;have D:decide (p.l.gate<(F:Int))=true:=pA (by rw[H];exact v);cases c9:(p.l.ay==(bU g G:Int))with
  |false=>simp only[go_sem,EZ,L,A,y,aR.ps,N,H,Fw];refine⟨aA,?_⟩;refine mX u lo (.inl rfl) λcc lh Q j=>?_;have B:=j 9856000000 U;have f:=j 9856064512 U;simp only[go_sem]at B f;simp only[go_sem,B,f,H,v,Z,Bb,c9,D];exact⟨aA,rfl⟩
  |true=>
   have O:p.l.gate+1=((G+1:Nat):Int):=by rw[H];omega
   rw[D,O];simp only[go_sem,EZ,L,A,y,aR.ps,N,Fw];refine⟨aA,?_⟩;refine mX u lo (.inl rfl) λcc lh Q j=>?_;have B:=j 9856000000 U;have f:=j 9856064512 U;simp only[go_sem]at B f;simp only[go_sem,B,f,H,v,Z,Bb,c9,wG,eX];refine⟨aA,?_⟩;refine KD (l:=aQ g) J U qY Q λbG M ba=>?_;have X:=(ba 9856000000 U).trans B;have Oi:=(ba 9856064512 U).trans f;rcases M with⟨e,_⟩|⟨_,gg,e,hC⟩
   .exact absurd (by simpa [fQ]using e) aO
   cases e;have E:I (fQ (aQ g) ((G+1:Nat):Int) 0 1)=I g:=by rw[cY,A]
   obtain⟨x,R⟩:=aT (L:=fQ (aQ g) ((G+1:Nat):Int) 0 1) (k:=h) J;have e0:wU (fQ (aQ g) ((G+1:Nat):Int) 0 1) h ((G+1:Nat):Int) 1=(fQ (aQ g) ((G+1:Nat):Int) 0 1).set h {x with l:={x.l with gate:=((G+1:Nat):Int),ay:=1}}:=by unfold wU;rw[dC,R];rfl
   rw[e0];generalize fQ (aQ g) ((G+1:Nat):Int) 0 1=m at hC E R |-;have fY:=kI R;have s1:=AT m h {x with l:={x.l with gate:=((G+1:Nat):Int)}};have rh:(m.set h {x with l:={x.l with gate:=((G+1:Nat):Int)}})[h]?=some {x with l:={x.l with gate:=((G+1:Nat):Int)}}:=by rw[mT,aD rfl,aD J]
   have Qk:=kI rh;have T:=AT (m.set h {x with l:={x.l with gate:=((G+1:Nat):Int)}}) h {x with l:={x.l with gate:=((G+1:Nat):Int),ay:=1}};rw[List.set_set]at T;simp only[aR.ps]at s1 T Qk;have l1:h<I m:=J;simp only[go_sem,X,Oi,hC,E,y,fY,Qk,aR.ps,z,N,H,s1,T,l1,jo,wG];refine⟨aA,?_⟩;refine nA (.inr ⟨?_,gg,by rw[kZ,cY,jo,E],rfl⟩);intro h2;have:=congrArg List.length h2;rw[kZ,cY,jo,E,fU]at this;omega
 have v:¬((G:Int)<(F:Int)):=J;have D:decide (p.l.gate<(F:Int))=false:=nr (by rw[H];exact v);simp only[go_sem,EZ,L,A,y,aR.ps,N,Fw];refine⟨aA,?_⟩;refine mX u lo (.inl rfl) λcc lh Q j=>?_;have B:=j 9856000000 U;have f:=j 9856064512 U;simp only[go_sem]at B f;simp only[go_sem,B,f,H,v,D];exact⟨aA,rfl⟩
def IE(g:ai)(h:Nat):Option cX:=
 if((aV g h).l.kind==1)&&(decide (0<(aV g h).l.gate)&&((aV g h).l.ay==1))
 then some (wU (fQ (aQ g) (aV g h).l.gate 1 (-1)) h ((aV g h).l.gate-1) ((bU g ((aV g h).l.gate-1).toNat+1:Nat):Int))else none
def avL(ac:cE F g)(z:h<I g){b c:Int}{l o:Bool}{sg:Int}:
  aK S 154 [.one (.p (kh F g)),ep 10 h b c l o sg] (uN (IE g h)):=by
 unfold IE;have ab:=ac.len;have D:=cW g;obtain⟨p,hp⟩:=aT (L:=aQ g) (k:=h) J;have M:=kI hp;have aO:aQ g≠[]:=jH.1 J;have v:=OT aO J;have lo:S.lone 9856256256=false:=ah;have eX:S.shared 175:=ah;have qY:=Hh ac;rw[mu hp];refine bj ai4 ?_;cases A:(p.l.kind==1)with
 |false=>
  have N:(p.l.kind !=1):=by simp[bne,A]
  simp only[go_sem,EZ,M,D,z,aR.ps,N];exact⟨aA,rfl⟩
 |true=>
 have N:(p.l.kind !=1)=false:=by simp[bne,A]
 obtain⟨i,l0,vS,qX⟩:=adh (bR hp);have Z:tq F g p.l:=by rw[qX];exact ac.ok.ax.fG l0 (bR vS) (by rw[qX]at A;exact A)
 obtain⟨G,f⟩:=o_ Z.g0;have Cw:G<=F:=by have:=Z.g1;omega
 have En:=ac.fing;by_cases c2:0<G
 .have y:((0:Int)<(G:Int)):=J;obtain⟨H,rfl⟩:∃H,G=H+1:=⟨G-1,J⟩;have E:decide (0<p.l.gate)=true:=pA (by rw[f];exact y);have wG:=EF (a:=H+1) J J;rw[H4]at wG;have pM:=jG (I7 (L:=g) (show H<=F by omega));have Bb:H<I (gy g F):=by simp[gy];omega
  have cS:bU g H<=I g:=o7 _ _;have wC:=cN (n:=bU g H) J;have Q:p.l.gate-1=(H:Int):=by rw[f];omega
  cases c9:(p.l.ay==1)with
  |false=>simp only[go_sem,EZ,M,D,z,aR.ps,N,f,Fw];refine⟨aA,?_⟩;refine mX v lo (.inl rfl) λcc lh R u=>?_;have B:=u 9856000000 U;have j:=u 9856064512 U;simp only[go_sem]at B j;simp only[go_sem,B,j,f,y,c9,E];first|exact⟨aA,rfl⟩|rfl
  |true=>
   rw[E,Q,f,nP];simp only[go_sem,EZ,M,D,z,aR.ps,N,Fw];refine⟨aA,?_⟩;refine mX v lo (.inl rfl) λcc lh R u=>?_;have B:=u 9856000000 U;have j:=u 9856064512 U;simp only[go_sem]at B j;simp only[go_sem,B,j,f,y,c9,eX];refine⟨aA,?_⟩;refine KD (l:=aQ g) J U qY R λbG O ba=>?_;have Y:=(ba 9856000000 U).trans B;have Oi:=(ba 9856064512 U).trans j;rcases O with⟨e,_⟩|⟨_,gg,e,hC⟩
   .exact absurd (by simpa [fQ]using e) aO
   cases e;have L:I (fQ (aQ g) ((H+1:Nat):Int) 1 (-1))=I g:=by rw[cY,D]
   obtain⟨x,T⟩:=aT (L:=fQ (aQ g) ((H+1:Nat):Int) 1 (-1)) (k:=h) J;have e0:wU (fQ (aQ g) ((H+1:Nat):Int) 1 (-1)) h (H:Int) ((bU g H+1:Nat):Int)=(fQ (aQ g) ((H+1:Nat):Int) 1 (-1)).set h {x with l:={x.l with gate:=(H:Int),ay:=((bU g H+1:Nat):Int)}}:=by unfold wU;rw[dC,T];rfl
   rw[e0];generalize fQ (aQ g) ((H+1:Nat):Int) 1 (-1)=m at hC L T |-;have fY:=kI T;have s1:=AT m h {x with l:={x.l with gate:=(H:Int)}};have rh:(m.set h {x with l:={x.l with gate:=(H:Int)}})[h]?=some {x with l:={x.l with gate:=(H:Int)}}:=by rw[mT,aD rfl,aD J]
   have Qk:=kI rh;have X:=AT (m.set h {x with l:={x.l with gate:=(H:Int)}}) h {x with l:={x.l with gate:=(H:Int),ay:=((bU g H+1:Nat):Int)}};rw[List.set_set]at X;simp only[aR.ps]at s1 X Qk;have l1:h<I m:=J;simp only[go_sem,Y,Oi,hC,L,z,fY,Qk,aR.ps,A,N,f,s1,X,l1,jo,wG,pM,Bb,wC];refine⟨aA,?_⟩;refine nA (.inr ⟨?_,gg,by rw[kZ,cY,jo,L],rfl⟩);intro h2;have:=congrArg List.length h2;rw[kZ,cY,jo,L,fU]at this;omega
 have y:¬((0:Int)<(G:Int)):=J;have E:decide (0<p.l.gate)=false:=nr (by rw[f];exact y);simp only[go_sem,EZ,M,D,z,aR.ps,N,Fw];refine⟨aA,?_⟩;refine mX v lo (.inl rfl) λcc lh R u=>?_;have B:=u 9856000000 U;have j:=u 9856064512 U;simp only[go_sem]at B j;simp only[go_sem,B,j,f,y,E];first|exact⟨aA,rfl⟩|rfl
end
end Go.Abs
