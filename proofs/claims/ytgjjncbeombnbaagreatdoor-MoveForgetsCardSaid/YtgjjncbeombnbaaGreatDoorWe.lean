/- A part. -/
import Derived.Test.YtgjjncbeombnbaaGreatDoorWd
set_option linter.all false
open List renaming length->I
set_option maxRecDepth 100000
set_option maxHeartbeats 16000000
namespace Go.Abs
variable{f n:Nat}{x y z:PV}
section
variable{j:af}{F m:Nat}

def Cd{S:Sys}{fn:aV}{A:dC}{P:RV->Prop}(hp:S.prim f A=none)(hf:S.fns f=some fn)(hl:I A<=fn.ntmps)
  (h:W S .all fn.body (tU .all fn.results λv blk=>∃r,P r/\lr blk v=some r) (rl A) zV):∃r,P r/\aI S f A r:=by
 obtain⟨n,v,u,j,r,m,H⟩:=XV h;refine⟨r,m,n+1,?_⟩;rw[jR];simp only[hp,hf,hl,if_true];unfold Dx;simp only[j,H]
def azO{l:af}(A:l≠[])(hl:I l<=1000000):aI S 22 [.one (.p (od l))] (.one (cP p_ 6 (dQ l))):=by
 have ae:((dQ l).all λe=>I e==6):=C3 l;have h:(0+I (dQ l))*48<=lS:=by unfold lS;rw[bG];omega
 show aI S _ [.one (.p (.sl (dQ l)))] _;obtain⟨E,f,hq⟩:∃E f,dQ l=E::f:=by cases l with
  |nil=>exact absurd rfl A
  |cons a t=>exact⟨_,_,rfl⟩
 rw[hq]at ae h |-;refine bR ap9 ?_;have A:E::f≠[]:=aH;have z:cP p_ 6 (E::f)=.own p_ 6 (E::f):=ai A;rw[z];unfold lS at h;simp only[jO,fG]at h;simp only[v_]at ae;simp only[go_sem,ac8,iQ,jq];simp only[ae,h,not_true_eq_false,if_true,if_false];simp only[go_sem];exact KX w_ rfl
def adU(l:af)(k:Nat)(p:U):(dQ l).set k p.ps=dQ (l.set k p):=by simp[vd]
def I_(l:aU)(drop:Nat->aK->Bool)(i:Nat):Option aK:=match l[i]? with|some p=>if drop i p then none else some p|none=>none
def sD(l:aU)(drop:Nat->aK->Bool)(k:Nat):aU:=(List.range k).filterMap (I_ l drop)
def kW(l:aU)(drop:Nat->aK->Bool):aU:=sD l drop (I l)
theorem CB{l:aU}{drop:Nat->aK->Bool}{k:Nat}{p:aK}(h:l[k]?=some p)(H:drop k p):sD l drop (k+1)=sD l drop k:=by simp[sD,mD,List.filterMap_append,I_,h,H]
theorem GX{l:aU}{drop:Nat->aK->Bool}{k:Nat}{p:aK}(h:l[k]?=some p)(H:drop k p=false):sD l drop (k+1)=sD l drop k++[p]:=by simp[sD,mD,List.filterMap_append,I_,h,H]
def H5(l:aU)(drop:Nat->aK->Bool)(k:Nat):I (sD l drop k)<=k:=by have:=List.length_filterMap_le (I_ l drop) (List.range k);rwa[rY]at this
def Cw(g:a_ F j){e:Nat}(m:e<I j):aI S 103 [.one (.p (ez F j)),aE e] (wi (.int .i64 e) (.int .i64 ((e+1)%I j:Nat))):=by have h:=g.len;have f:=cE (n:=e) J;have E:=ve (e+1) (I j);have H:¬((I j:Int)=0):=J;refine bR axo ?_;simp only[go_sem,aiK,f,E,cZ j,H];exact⟨aS,rfl⟩
def adT(l:aU)(hl:I l<=1000000)(X:x.norm=x/\y.norm=y)(N:S.shared f=false)(drop:Nat->aK->Bool)(Q:∀(k:Nat) (p:aK),l[k]?=some p->aI S f [aE k,.agg (p.ps.map .p),.one (.p x),.one (.p y)] (eh (drop k p))):
  aI S 104 [.one (.p (.sl (dB l))),.one (.p (.fn f [] [x,y]))] (.one (cP lK 7 (dB (kW l drop)))):=by
 obtain⟨L,O⟩:=X;refine bR ad9 ?_;simp only[go_sem,Wd];refine df (λk A blk=>A 1=.one (.p (.fn f [] [x,y]))/\A 8=.one (.p (.sl (dB l)))/\A 9=aE (I l)/\A 10=aE k/\ ∃c,A 5=.one c/\a8 6656384192 lK 7 (dB (sD l drop k)) (.one c) blk) 0 (I l) (bN _) ?_ ?_
 .simp only[go_sem];first|exact⟨rfl,_,rfl,.inl ⟨rfl,rfl⟩⟩|exact⟨_,rfl,.inl ⟨rfl,rfl⟩⟩|exact⟨rfl,rfl,_,rfl,.inl ⟨rfl,rfl⟩⟩
 rintro k A blk hk ⟨z,u,j,m,c,B,v⟩
 by_cases D:k<I l
 .have M:((k:Int)<(I l:Int)):=J;obtain⟨p,hp⟩:=aM D;have E:=ju hp;have F:=cE (n:=k) J;have h:=Q k p hp;have Z:=H5 l drop k;simp only[aK.ps,eQ,oO]at h;cases H:drop k p with
  |true=>rw[H]at h;simp only[go_sem,E9,z,B,u,j,m,D,M,E,aK.ps,L,O,N,eU h,F];refine⟨c,rfl,?_⟩;rw[CB hp H];exact v.of_eq (by simp only[ba,Nat.reduceEqDiff,if_false])
  |false=>rw[H]at h;simp only[go_sem,E9,z,B,u,j,m,M,E,aK.ps,L,O,N,eU h];refine ri (B:=[p.ps]) (rd:=[6656384128]) (v.of_eq (by simp only[ba,Nat.reduceEqDiff,if_false])) (by simp[gP,ba,aK.ps]) (.inl rfl) (by simp only[bG,fG,gk];omega) λR cK Y T=>?_;simp only[go_sem,z,u,j,m,D,F];refine⟨R,rfl,?_⟩;rw[GX hp H,Sv];exact Y
 have:k=I l:=J;subst this;simp only[go_sem,E9,Zq,B,j,m,ff];exact xT v
def al1(l:aU)(hl:I l<=1000000)(R:x.norm=x)(M:S.shared f=false)(drop:Nat->aK->Bool)(N:∀(k:Nat) (p:aK),l[k]?=some p->aI S f [aE k,.agg (p.ps.map .p),.one (.p x)] (eh (drop k p))):
  aI S 104 [.one (.p (.sl (dB l))),.one (.p (.fn f [] [x]))] (.one (cP lK 7 (dB (kW l drop)))):=by
 have F:=R;refine bR ad9 ?_;simp only[go_sem,Wd];refine df (λk A blk=>A 1=.one (.p (.fn f [] [x]))/\A 8=.one (.p (.sl (dB l)))/\A 9=aE (I l)/\A 10=aE k/\ ∃c,A 5=.one c/\a8 6656384192 lK 7 (dB (sD l drop k)) (.one c) blk) 0 (I l) (bN _) ?_ ?_
 .simp only[go_sem];first|exact⟨rfl,_,rfl,.inl ⟨rfl,rfl⟩⟩|exact⟨_,rfl,.inl ⟨rfl,rfl⟩⟩|exact⟨rfl,rfl,_,rfl,.inl ⟨rfl,rfl⟩⟩
 rintro k A blk Z ⟨y,u,j,m,c,z,v⟩
 by_cases B:k<I l
 .have L:((k:Int)<(I l:Int)):=J;obtain⟨p,hp⟩:=aM B;have D:=ju hp;have E:=cE (n:=k) J;have h:=N k p hp;have X:=H5 l drop k;simp only[aK.ps,eQ,oO]at h;cases H:drop k p with
  |true=>rw[H]at h;simp only[go_sem,E9,y,z,u,j,m,B,L,D,aK.ps,F,M,eU h,E];refine⟨c,rfl,?_⟩;rw[CB hp H];exact v.of_eq (by simp only[ba,Nat.reduceEqDiff,if_false])
  |false=>rw[H]at h;simp only[go_sem,E9,y,z,u,j,m,L,D,aK.ps,F,M,eU h];refine ri (B:=[p.ps]) (rd:=[6656384128]) (v.of_eq (by simp only[ba,Nat.reduceEqDiff,if_false])) (by simp[gP,ba,aK.ps]) (.inl rfl) (by simp only[bG,fG,gk];omega) λO Y T Q=>?_;simp only[go_sem,y,u,j,m,B,E];refine⟨O,rfl,?_⟩;rw[GX hp H,Sv];exact T
 have:k=I l:=J;subst this;simp only[go_sem,E9,Zq,z,j,m,ff];exact xT v
def ZG(k i j:Nat)(p:aK):aI S 105 [aE k,.agg (p.ps.map .p),.one (.p (.box [.int .i64 i])),.one (.p (.box [.int .i64 j]))] (eh (decide (k=i)||decide (k=j))):=by
 refine bR auM ?_;by_cases H:k=i
 .have E:((k:Int)==(i:Int)):=by simp[H]
  rw[show(decide _||decide _)=true by simp[H]];simp only[go_sem,YM,aK.ps,E]
 have E:((k:Int)==(i:Int))=false:=by simp;omega
 by_cases h:k=j
 case' _=>
  have f:((k:Int)==(j:Int)):=by simp[h]
  rw[show(decide (k=i)||decide (k=j))=true by simp[h]]
 rotate_left
 case' _=>
  have f:((k:Int)==(j:Int))=false:=by simp;omega
  rw[show(decide (k=i)||decide (k=j))=false by simp[H,h]]
 all_goals
  simp only[go_sem,YM,aK.ps,E,f]
def hU(a b:Int):Int:=if a<b then b else a
def m_(a b:Int):Int:=if b<a then b else a
def qc(j:af)(m:Nat):Option aU:=
 let p:=(aA j).getD m ⟨ga,false⟩
 let q:=(aA j).getD ((m+1)%I j) ⟨ga,false⟩
 if(p.l.kind==1)&&((q.l.kind==1)&&((p.l.gate==q.l.gate)&&((hU p.l.ao q.l.ao-m_ p.l.ao q.l.ao==1)&& !(decide (au U.aw j<=2)&&decide (0<au U.aq j/2)))))
 then some (eL (kW (aA j) λk _=>decide (k=m)||decide (k=(m+1)%I j)) p.l.gate (hU p.l.ao q.l.ao) (-2))else none
def Rc{l:aU}{drop:Nat->aK->Bool}{p:aK}(h:p∈kW l drop):p∈l:=by
 obtain _:=EH.1 h
 grind [I_]
def ang(g:a_ F j)(ha:m<I j){k b c:Int}{l o:Bool}{sg:Int}:
  aI S 69 [.one (.p (ez F j)),jM k m b c l o sg] (te (qc j m)):=by
 have ab:=g.len;have cA:=cZ j;have f:=Cw g ha;have hm:=cJ (m+1) (show 0<I j by omega);have O:=KA g;obtain⟨p,hp⟩:=aM (h:=aA j) (k:=m) J;obtain⟨q,L⟩:=aM (h:=aA j) (k:=(m+1)%I j) J;obtain⟨p1,p2⟩:=O p (aX hp);obtain⟨q1,q2⟩:=O q (aX L);have u:=ju hp;have R:=ju L;have fS:S.shared 106:=ah;have lo:S.lone 4416320320=false:=ah;have fj:=g.cr;unfold qc;simp only[dz,hp,L,nm];refine bR axJ ?_;cases c1:(p.l.kind==1)with
 |false=>
  have n:(p.l.kind !=1):=by simp[bne,c1]
  simp only[go_sem,C8,mU,dJ f jg,u,R,aK.ps,n];exact⟨aS,rfl⟩
 |true=>
 have n:(p.l.kind !=1)=false:=by simp[bne,c1]
 cases c2:(q.l.kind==1)with
 |false=>
  have N:(q.l.kind !=1):=by simp[bne,c2]
  simp only[go_sem,C8,mU,dJ f jg,u,R,aK.ps,n,N];exact⟨aS,rfl⟩
 |true=>
 have N:(q.l.kind !=1)=false:=by simp[bne,c2]
 cases c3:(p.l.gate==q.l.gate)with
 |false=>
  have v:(p.l.gate !=q.l.gate):=by simp[bne,c3]
  simp only[go_sem,C8,mU,dJ f jg,u,R,aK.ps,n,N,v];exact⟨aS,rfl⟩
 |true=>
 have v:(p.l.gate !=q.l.gate)=false:=by simp[bne,c3]
 have M:(if q.l.ao>p.l.ao then q.l.ao else p.l.ao)=hU p.l.ao q.l.ao:=rfl;have D:(if q.l.ao<p.l.ao then q.l.ao else p.l.ao)=m_ p.l.ao q.l.ao:=rfl;have ad: -1000000<=hU p.l.ao q.l.ao/\hU p.l.ao q.l.ao<=1000000:=by unfold hU;split<;>omega
 have ac: -1000000<=m_ p.l.ao q.l.ao/\m_ p.l.ao q.l.ao<=1000000:=by unfold m_;split<;>omega
 have A:=oL (x:=hU p.l.ao q.l.ao-m_ p.l.ao q.l.ao) J J;generalize hU p.l.ao q.l.ao=Q at*;generalize m_ p.l.ao q.l.ao=mn at*;cases c4:(Q-mn==1)with
 |false=>
  have y:(Q-mn !=1):=by simp[bne,c4]
  simp only[go_sem,C8,mU,dJ f jg,u,R,aK.ps,n,N,v,M,D,A,y];exact⟨aS,rfl⟩
 |true=>
 have y:(Q-mn !=1)=false:=by simp[bne,c4]
 have eO:∀(X:Prop),X->X:=λ_ h=>h;by_cases Y:au U.aw j<=2
 .have z:((au U.aw j:Int)<=2):=J;by_cases c6:0<au U.aq j/2
  .have T:((0:Int)<((au U.aq j/2:Nat):Int)):=J;rw[xq Y,xq c6];simp only[go_sem,C8,mU,dJ f jg,u,R,aK.ps,n,N,v,M,D,A,y,z,T];exact⟨aS,rfl⟩
  have T:¬((0:Int)<((au U.aq j/2:Nat):Int)):=J;rw[xq Y,zc c6];simp only[go_sem,C8,mU,dJ f jg,u,R,aK.ps,n,N,v,M,D,A,y,z,T,XX];refine⟨aS,?_⟩;refine nQ (adT (aA j) J ⟨rfl,rfl⟩ acg (λk _=>decide (k=m)||decide (k=(m+1)%I j)) (λk p _=>ZG k m ((m+1)%I j) p)) lo (.inr (sn (xm _))) λcc cK Z H=>?_;have b8:=H 4416128896 aa;have B:=H 4416128960 aa;simp only[go_sem]at b8 B;simp only[go_sem,b8,B,M,fS];refine ID (nA (H5 _ _ _) J) aa (λx hx=>O x (Rc hx)) Z λaZ E bZ=>?_;simp only[go_sem];exact tN E
 have z:¬((au U.aw j:Int)<=2):=J;rw[zc Y];simp only[go_sem,C8,mU,dJ f jg,u,R,aK.ps,n,N,v,M,D,A,y,z,XX];refine⟨aS,?_⟩;refine nQ (adT (aA j) J ⟨rfl,rfl⟩ acg (λk _=>decide (k=m)||decide (k=(m+1)%I j)) (λk p _=>ZG k m ((m+1)%I j) p)) lo (.inr (sn (xm _))) λcc cK Z H=>?_;have b8:=H 4416128896 aa;have B:=H 4416128960 aa;simp only[go_sem]at b8 B;simp only[go_sem,b8,B,M,fS];refine ID (nA (H5 _ _ _) J) aa (λx hx=>O x (Rc hx)) Z λaZ E bZ=>?_;simp only[go_sem];exact tN E
abbrev dR(o:bQ):dh:=o.map λn=>[PV.int .i64 n]
def r4{o:bQ}{k:Nat}{v:Int}(h:o[k]?=some v):(dR o)[k]?=some [.int .i64 v]:=by simp[h]
def qw(o:bQ)(x:Int)(i:Nat):Bool:=match o[i]? with|some y=>y==x|none=>false
def aza(o:bQ)(x:Int)(hl:I o<=1000000):aI S 157 [.one (.p (.sl (dR o))),aE x] (jv (match (List.range (I o)).find? (qw o x)with|some k=>(k:Int)|none=> -1)):=by
 refine bR asV ?_;simp only[go_sem,ai9];refine df (λk A blk=>A 0=.one (.p (.sl (dR o)))/\A 1=aE x/\A 7=aE (I o)/\A 8=aE k/\ ∀j,j<k->qw o x j=false) 0 (I o) (bN _) ?_ ?_
 .simp only[go_sem];exact⟨rfl,λj F=>absurd F (nJ j)⟩
 rintro k A blk N ⟨z,L,f,h,B⟩
 by_cases u:k<I o
 .have E:((k:Int)<(I o:Int)):=J;obtain⟨y,v⟩:=aM u;have D:=r4 v;have M:=cE (n:=k) J;have m:qw o x k=(y==x):=by simp[qw,v]
  cases H:(y==x)with
  |true=>
   have Q:(x==y):=by have:=cW.1 H;simp[this]
   rw[H]at m;simp only[go_sem,Pd,z,L,f,h,E,D,Q,BY u B m];first|done|exact aS|rfl
  |false=>
   have Q:(x==y)=false:=by grind
   rw[H]at m;have Y:∀j,j<k+1->qw o x j=false:=λj F=>by grind
   simp only[go_sem,Pd,z,L,f,h,u,E,D,Q,M];first|exact Y|exact⟨aS,Y⟩
 have:k=I o:=J;subst this;simp only[go_sem,Pd,ae0,f,h,ff,Gn B]
def alP(o:bQ)(x:Int)(hl:I o<=1000000):aI S 142 [.one (.p (.sl (dR o))),aE x] (eh (o.contains x)):=by
 have f:=aza o x hl;refine bR ap1 ?_;cases H:o.contains x with
 |true=>
  obtain⟨k,h⟩:=fX (by simpa using H);cases hf:(List.range (I o)).find? (qw o x)with
  |none=>have:=CR.1 hf k (fA.2 ((bd.1 h).1));simp[qw,h]at this
  |some j=>rw[hf]at f;have m:(0:Int)<=(j:Int):=J;simp only[go_sem,WA,aio,hI f,m]
 |false=>
  cases hf:(List.range (I o)).find? (qw o x)with
  |some j=>
   have n:=CO hf
   grind [qw]
  |none=>rw[hf]at f;have m:¬(0:Int)<= -1:=aa;simp only[go_sem,WA,aio,hI f,m]
def tX(ids:bQ)(_:Nat)(p:aK):Bool:=(p.l.kind==2)&&ids.contains p.l.id
def ar8(ids:bQ)(hl:I ids<=1000000)(k:Nat)(p:aK):aI S 141 [aE k,.agg (p.ps.map .p),.one (.p (.box [.sl (dR ids)]))] (eh (tX ids k p)):=by
 refine bR aut ?_;unfold tX;cases h:(p.l.kind==2)with
 |true=>simp only[go_sem,Ub,aK.ps,h,amP,eU (alP ids p.l.id hl)]
 |false=>simp only[go_sem,Ub,aK.ps,h]
def jY(ids:bQ)(k:Nat)(p:aK):aK:={p with l:={p.l with id:=p.l.id-((ids.take k).countP (λi=>decide (i<p.l.id)):Nat)}}
def jL(ids:bQ)(p:aK):aK:=if p.l.kind==2 then jY ids (I ids) p else p
abbrev jS(l:aU)(ids:bQ):aU:=(kW l (tX ids)).map (jL ids)
abbrev vl(ids:bQ)(l:aU)(k:Nat):aU:=(l.take k).map (jL ids)++l.drop k
def ac7{ids:bQ}{l:aU}{k:Nat}{p:aK}(h:l[k]?=some p):(vl ids l k)[k]?=some p:=by grind
def aus(ids:bQ)(l:aU)(k:Nat):I (vl ids l k)=I l:=by grind
def ave{ids:bQ}{l:aU}{k:Nat}{p:aK}(h:l[k]?=some p):(vl ids l k).set k (jL ids p)=vl ids l (k+1):=by
 have H:=(bd.1 h).1;have B:l.drop k=p::l.drop (k+1):=by
  obtain⟨f,rfl⟩:=bd.1 h
  simp_all
 have E:I ((l.take k).map (jL ids))=k:=by rw[bG,jw];omega
 rw[vl,Mi _ _ J,E,xf,B,SY,vl,jB,h];simp
def ze(o:aU)(k:Nat)(p:aK):(dB o).set k p.ps=dB (o.set k p):=by simp[vd]
def agw(l:aU)(ids:bQ)(hl:I l<=1000000)(hi:I ids<=1000)(hb:∀p∈l,-1000000<=p.l.id/\p.l.id<=1000000):
  aI S 112 [.one (.p (.sl (dB l))),.one (.p (.sl (dR ids)))] (.one (cP lK 7 (dB (jS l ids)))):=by
 have uQ:∀p∈kW l (tX ids),-1000000<=p.l.id/\p.l.id<=1000000:=λp hp=>hb p (Rc hp);have fk:I (kW l (tX ids))<=1000000:=nA (H5 _ _ _) hl;refine bR akk ?_;simp only[go_sem,aib,XX];refine nQ (al1 l hl rfl awf (tX ids) (λk p _=>ar8 ids J k p)) ah (.inr (sn (xm _))) λcc lO gc iw=>?_;have z3:=iw 7168000000 aa;simp only[go_sem]at z3;unfold jS;generalize kW l (tX ids)=m at gc uQ fk;rcases gc with⟨e,e2⟩|⟨aN,y,e2,hC⟩
 .cases e2;have:m=[]:=by simpa using e
  subst this;have hz:¬(((0:Nat):Int)<((0:Nat):Int)):=J;simp only[go_sem];refine df (λk A blk=>k=0/\A 5=.one (.p .nils)/\A 14=aE ((0:Nat):Int)/\A 15=aE ((0:Nat):Int)) 0 0 (ct _) ?_ ?_
  .simp only[go_sem];exact rfl
  rintro k A blk _ ⟨rfl,Q,Y,F⟩
  simp only[go_sem,Nr,Zs,Q,Y,F,hz];rfl
 cases e2;simp only[go_sem];refine df (λk A blk=>A 3=.one (.bh 7168000000 1 0)/\blk 7168000000=(1,some (.var [.p (.sl (dR ids))]))/\A 5=.one (.hsl 7168064128 y 7 0 (I m))/\A 13=.one (.hsl 7168064128 y 7 0 (I m))/\A 14=aE (I m)/\A 15=aE k/\blk 7168064128=(y,some (.arr lK 7 (dB (vl ids m k))))) 0 (I m) (bN _) ?_ ?_
 .simp only[go_sem,z3,hC];refine⟨rfl,?_⟩;simp[vl]
 rintro k A blk hk ⟨h3,bI,Q,h,Y,F,E⟩
 by_cases M:k<I m
 .have aL:((k:Int)<(I m:Int)):=J;obtain⟨p,hp⟩:=aM M;have T:=ju (ac7 (ids:=ids) hp);have w1:=cE (n:=k) J;have yv:=aus ids m k;have Z:=ave (ids:=ids) hp;have Ky:k<I (vl ids m k):=J;cases c1:(p.l.kind==2)with
  |false=>
   have n1:(p.l.kind !=2):=by simp[bne,c1]
   have ua:vl ids m (k+1)=vl ids m k:=by
    rw[<-Z];have e:jL ids p=p:=by unfold jL;rw[c1];rfl
    rw[e];obtain⟨hh,he⟩:=bd.1 (ac7 hp);rw[<-he,Se]
   simp only[go_sem,Nr,V7,h3,bI,Q,h,Y,F,E,M,aL,T,aK.ps,n1,w1,ua]
  |true=>
   have n1:(p.l.kind !=2)=false:=by simp[bne,c1]
   have ac:=uQ p (aX hp);have sM:jL ids p=jY ids (I ids) p:=by unfold jL;rw[c1];rfl
   rw[sM]at Z;generalize vl ids m k=q at T yv Z Ky E;have q0:q.set k (jY ids 0 p)=q:=by
    have:jY ids 0 p=p:=by unfold jY;simp
    rw[this];have h1:q[k]?=some p:=by
     have H:=T;rw[dy]at H;cases hq:q[k]? with
     |none=>rw[hq]at H;cases H
     |some x=>rw[hq]at H;simp[aK.ps]at H;obtain⟨⟨a,b,c,d,e,f⟩,g⟩:=x;obtain⟨⟨a',b',c',d',e',f'⟩,g'⟩:=p;simp at H;obtain⟨rfl,rfl,rfl,rfl,rfl,rfl,rfl⟩:=H;rfl
    obtain⟨hh,he⟩:=bd.1 h1;rw[<-he,Se]
   simp only[go_sem,Nr,h3,bI,h,Y,F,E,M,aL,T,aK.ps,n1];refine df (λj D aZ=>D 3=.one (.bh 7168000000 1 0)/\aZ 7168000000=(1,some (.var [.p (.sl (dR ids))]))/\D 5=.one (.hsl 7168064128 y 7 0 (I m))/\D 13=.one (.hsl 7168064128 y 7 0 (I m))/\D 14=aE (I m)/\D 15=aE k/\D 6=aE k/\D 24=.one (.p (.sl (dR ids)))/\D 25=aE (I ids)/\D 26=aE j/\
    (∃N,D 7=.one (.bh 7168256192 N 0)/\aZ 7168256192=(N,some (.var (p.ps.map .p))))/\aZ 7168064128=(y,some (.arr lK 7 (dB (q.set k (jY ids j p)))))) 0 (I ids) (bN _) ?_ ?_
   .simp only[go_sem,h3,bI,Q,h,Y,F,E,q0];first|exact⟨rfl,_,⟨rfl,rfl⟩,rfl⟩|exact⟨rfl,⟨_,rfl,rfl⟩⟩|exact⟨_,rfl,rfl⟩|exact⟨⟨_,rfl,rfl⟩,rfl⟩|exact⟨rfl,⟨_,rfl,rfl⟩,rfl⟩|trace_state
   rintro j D aZ hj ⟨p3,cI,p5,z,xB,u,p6,L,B,v,⟨N,p7,CN⟩,Lk⟩
   by_cases qo:j<I ids
   .have Ed:((j:Int)<(I ids:Int)):=J;obtain⟨d,hd⟩:=aM qo;have ot:=r4 hd;have w2:=cE (n:=j) J;have jT:(ids.take (j+1)).countP (λi=>decide (i<p.l.id))=(ids.take j).countP (λi=>decide (i<p.l.id))+if d<p.l.id then 1 else 0:=by
     rw[jB,hd,vz];simp[CY,Ov]
    have dS:(ids.take j).countP (λi=>decide (i<p.l.id))<=j:=nA IU (by rw[jw];omega);have ab:(dB (q.set k (jY ids j p)))[k]?=some (jY ids j p).ps:=ju (by rw[pA,an rfl,an J]);have F0:k<I (q.set k (jY ids j p)):=by rw[q_];omega
    by_cases X:d<p.l.id
    .have O:(jY ids j p).l.id-1=(jY ids (j+1) p).l.id:=by
      unfold jY;simp only;rw[jT,an X];omega
     have w3:IntKind.i64.wrap ((jY ids j p).l.id-1)=(jY ids (j+1) p).l.id:=by rw[<-O];exact oL (by unfold jY;simp only;omega) (by unfold jY;simp only;omega)
     have dT:((jY ids (j+1) p).ps)=[.int .i64 (jY ids j p).l.kind,.int .i64 (jY ids j p).l.gate,.int .i64 (jY ids j p).l.ao,.int .i64 (jY ids (j+1) p).l.id,.int .i64 (jY ids j p).l.sign,.bool (jY ids j p).l.over,.bool (jY ids j p).d]:=rfl;have R:(dB (q.set k (jY ids j p))).set k (jY ids (j+1) p).ps=dB (q.set k (jY ids (j+1) p)):=by rw[ze,Qs]
     rw[dT]at R;generalize jY ids j p=x at*;simp only[go_sem,QL,p3,cI,p5,z,xB,u,p6,L,B,v,p7,CN,Lk,M,qo,Ed,ot,X,ab,aK.ps,w2,w3,R];exact⟨N,rfl,rfl⟩
    have O:jY ids (j+1) p=jY ids j p:=by unfold jY;rw[jT,ai X];simp
    simp only[go_sem,QL,p3,cI,p5,z,xB,u,p6,L,B,v,p7,CN,Lk,qo,Ed,ot,X,aK.ps,w2,O];exact⟨N,rfl,rfl⟩
   have:j=I ids:=J;subst this;rw[Z]at Lk;simp only[go_sem,QL,V7,p3,cI,p5,z,xB,u,v,B,Lk,ff,w1,M]
 have:k=I m:=J;subst this;have O:vl ids m (I m)=m.map (jL ids):=by rw[vl,jz,KT,i_]
 rw[O]at E;simp only[go_sem,Nr,Zs,Q,Y,F,ff];exact xT (.inr ⟨by simpa using(by simpa using aN),y,aH,E⟩)
def a_.ids(g:a_ F j):Uh j/\E0 j:=by have h:=g.ok.cr;unfold lA at h;simp only[cN]at h;exact GI.1 λk H=>mB.1 h.1.2 k (fA.2 H)
def YU{p:aK}(h:p∈aA j):∃(i:Nat) (l:U),j[i]?=some l/\p=⟨l,dw j i⟩:=by
 obtain⟨i,H⟩:=fX h;obtain⟨l,hl⟩:=aM (by rw[<-cZ];exact(bd.1 H).1);rw[gZ hl]at H
 grind
def ajb(g:a_ F j):∀p∈aA j,-1000000<=p.l.id/\p.l.id<=1000000:=by
 intro p hp;obtain⟨i,l,hl,rfl⟩:=YU hp;have H:=aX hl;rcases g.ok.kinds l H with h|h
 .have:=(kL h).1 (g.bad l H)
  grind
 have f:=g.ids.1 l H h;have:=g.cr;simp only;omega
def n_(j:af)(m:Nat):Option aU:=
 let p:=(aA j).getD m ⟨ga,false⟩
 let q:=(aA j).getD ((m+1)%I j) ⟨ga,false⟩
 if(p.l.kind==2)&&((q.l.kind==2)&&(p.l.id==q.l.id))then some (jS (aA j) [p.l.id])else none
def axC(g:a_ F j)(B:m<I j){k b c:Int}{l o:Bool}{sg:Int}:
  aI S 72 [.one (.p (ez F j)),jM k m b c l o sg] (te (n_ j m)):=by
 have x:=g.len;have M:=cZ j;have f:=Cw g B;have O:=cJ (m+1) (show 0<I j by omega);obtain⟨p,hp⟩:=aM (h:=aA j) (k:=m) J;obtain⟨q,H⟩:=aM (h:=aA j) (k:=(m+1)%I j) J;have h:=ju hp;have R:=ju H;unfold n_;simp only[dz,hp,H,nm];refine bR amv ?_;cases c1:(p.l.kind==2)with
 |false=>
  have n:(p.l.kind !=2):=by simp[bne,c1]
  simp only[go_sem,MA,mU,dJ f jg,h,aK.ps,n];exact⟨aS,rfl⟩
 |true=>
 have n:(p.l.kind !=2)=false:=by simp[bne,c1]
 cases v:(q.l.kind==2)with
 |false=>
  have N:(q.l.kind !=2):=by simp[bne,v]
  simp only[go_sem,MA,mU,dJ f jg,h,R,aK.ps,n,N];exact⟨aS,rfl⟩
 |true=>
 have N:(q.l.kind !=2)=false:=by simp[bne,v]
 cases c3:(p.l.id==q.l.id)with
 |false=>
  have u:(p.l.id !=q.l.id):=by simp[bne,c3]
  simp only[go_sem,MA,mU,dJ f jg,h,R,aK.ps,n,N,u];exact⟨aS,rfl⟩
 |true=>
 have u:(p.l.id !=q.l.id)=false:=by simp[bne,c3]
 have A:=agw (aA j) [p.l.id] J aH (ajb g);simp only[go_sem,MA,mU,dJ f jg,h,R,aK.ps,n,N,u,ajy];refine⟨aS,?_⟩;refine GN A ah (.inr (sn (xm _))) λD E w z L y=>?_;simp only[go_sem];refine⟨?_,tN z⟩;rcases y with rfl|rfl<;>kernel_rfl
abbrev b_(ls:af)(i:Nat):aK:=(aA ls).getD i ⟨ga,false⟩
def jr{i:Nat}{p:aK}(h:(aA j)[i]?=some p):b_ j i=p:=by simp[b_,dz,h]
abbrev nx(ls:af)(e:Nat):Nat:=(e+1)%I ls
def j8(j:af)(e:Nat)(ov:Bool):Bool:=((b_ j e).l.kind==2)&&(((b_ j (nx j e)).l.kind==2)&&(((b_ j e).l.over==ov)&&((b_ j (nx j e)).l.over==ov)))
def Jt(g:a_ F j){e:Nat}(u:e<I j)(ov:Bool):aI S 114 [.one (.p (ez F j)),aE e,iI ov] (eh (j8 j e ov)):=by
 have n:=g.len;have x:=cZ j;have f:=Cw g u;have v:=cJ (e+1) (show 0<I j by omega);obtain⟨p,hp⟩:=aM (h:=aA j) (k:=e) J;obtain⟨q,H⟩:=aM (h:=aA j) (k:=(e+1)%I j) J;have h:=ju hp;have R:=ju H;unfold j8;rw[jr hp,jr H];refine bR asr ?_;cases c1:(p.l.kind==2)with
 |false=>simp only[go_sem,IG,mU,dJ f jg,h,aK.ps,c1]
 |true=>
 cases m:(q.l.kind==2)with
 |false=>simp only[go_sem,IG,mU,dJ f jg,h,R,aK.ps,c1,m]
 |true=>
 cases c3:(p.l.over==ov)with
 |false=>simp only[go_sem,IG,mU,dJ f jg,h,R,aK.ps,c1,m,c3]
 |true=>
 cases c4:(q.l.over==ov)with
 |false=>simp only[go_sem,IG,mU,dJ f jg,h,R,aK.ps,c1,m,c3,c4]
 |true=>simp only[go_sem,IG,mU,dJ f jg,h,R,aK.ps,c1,m,c3,c4]
def j_(j:af)(e:Nat):Nat×Nat×Bool:=if(b_ j e).l.kind==2 then(nx j e,e,(b_ j (nx j e)).l.kind==1)else(e,nx j e,((b_ j e).l.kind==1)&&((b_ j (nx j e)).l.kind==2))
abbrev aeg(a b c:PV):RV:=.tup [.one (.p a),.one (.p b),.one (.p c)]
def xY{blk:aG}{s:Nat}{a b c:PV}{l:Bool}:fR blk [] s ((aeg a b c).ib l)=some (.tup [.one (.p a),.one (.p b),.one (.p c)],[]):=by cases l<;>rfl
def aft(g:a_ F j){e:Nat}(u:e<I j):aI S 110 [.one (.p (ez F j)),aE e] (aeg (.int .i64 ((j_ j e).1:Nat)) (.int .i64 ((j_ j e).2.1:Nat)) (.bool (j_ j e).2.2)):=by
 have n:=g.len;have x:=cZ j;have h:=Cw g u;have v:=cJ (e+1) (show 0<I j by omega);obtain⟨p,hp⟩:=aM (h:=aA j) (k:=e) J;obtain⟨q,H⟩:=aM (h:=aA j) (k:=(e+1)%I j) J;have m:=ju hp;have R:=ju H;unfold j_;rw[jr hp,jr H];refine bR arC ?_;cases c1:(p.l.kind==2)with
 |true=>
  have E:p.l.kind=2:=by simpa using c1
  rw[an rfl];cases f:(q.l.kind==1);all_goals
   simp only[go_sem,PD,mU,dJ h jg,m,R,aK.ps,c1,f];exact⟨aS,rfl⟩
 |false=>
  rw[ai aa];cases f:(p.l.kind==1)with
  |true=>
   cases c3:(q.l.kind==2);all_goals
    simp only[go_sem,PD,mU,dJ h jg,m,R,aK.ps,c1,f,c3];exact⟨aS,rfl⟩
  |false=>simp only[go_sem,PD,mU,dJ h jg,m,aK.ps,c1,f];exact⟨aS,rfl⟩
def Er(o:aC)(pr:Nat->Bool)(i:Nat):Bool:=match o[i]? with|some v=>pr v|none=>false
def ayW(o:aC)(hl:I o<=1000000)(Z:x.norm=x/\y.norm=y/\z.norm=z)(Q:S.shared f=false)(pr:Nat->Bool)(X:∀v∈o,aI S f [aE (v:Nat),.one (.p x),.one (.p y),.one (.p z)] (eh (pr v))):
  aI S 156 [.one (.p (.sl (bt o))),.one (.p (.fn f [] [x,y,z]))] (jv (match (List.range (I o)).find? (Er o pr)with|some k=>(k:Int)|none=> -1)):=by
 obtain⟨F,T,Y⟩:=Z;refine bR ain ?_;simp only[go_sem,WK];refine df (λk A blk=>A 0=.one (.p (.sl (bt o)))/\A 1=.one (.p (.fn f [] [x,y,z]))/\A 7=aE (I o)/\A 8=aE k/\ ∀j,j<k->Er o pr j=false) 0 (I o) (bN _) ?_ ?_
 .simp only[go_sem];exact⟨rfl,λj hj=>absurd hj (nJ j)⟩
 rintro k A blk hk ⟨L,R,B,H,N⟩
 by_cases D:k<I o
 .have O:((k:Int)<(I o:Int)):=J;obtain⟨v,u⟩:=aM D;have E:=iY u;have h:=X v (aX u);have m:Er o pr k=pr v:=by simp[Er,u]
  cases M:pr v with
  |true=>rw[M]at h m;simp only[go_sem,Jg,L,R,B,H,O,E,Q,F,T,Y,eU h,BY D N m]
  |false=>
   rw[M]at h m;simp only[go_sem,Jg,L,R,B,H,D,O,E,Q,F,T,Y,eU h,cE (n:=k) J]
   grind
 have:k=I o:=J;subst this;simp only[go_sem,Jg,VT,B,H,ff,Gn N]
def aj6(o:aC)(hl:I o<=1000000)(H:x.norm=x/\y.norm=y/\z.norm=z)(F:S.shared f=false)(pr:Nat->Bool)(u:∀v∈o,aI S f [aE (v:Nat),.one (.p x),.one (.p y),.one (.p z)] (eh (pr v))):
  aI S 139 [.one (.p (.sl (bt o))),.one (.p (.fn f [] [x,y,z]))] (eh (o.any pr)):=by
 have h:=ayW o hl H F pr u;obtain⟨D,L,Y⟩:=H;refine bR aid ?_;cases B:o.any pr with
 |true=>
  obtain⟨v,A,hp⟩:=Fv.1 B;obtain⟨k,n⟩:=fX A;cases hf:(List.range (I o)).find? (Er o pr)with
  |none=>have:=CR.1 hf k (fA.2 ((bd.1 n).1));simp[Er,n,hp]at this
  |some j=>rw[hf]at h;have m:(0:Int)<=(j:Int):=J;simp only[go_sem,SS,Tm,hI h,m]
 |false=>
  cases hf:(List.range (I o)).find? (Er o pr)with
  |some j=>
   have E:=CO hf
   grind [Er]
  |none=>rw[hf]at h;have m:¬(0:Int)<= -1:=aa;simp only[go_sem,SS,Tm,hI h,m]
def wa(f:c9)(e:Nat):Nat:=f.cT.countP λd=>d/2==e
def wg(f:c9)(pl:Nat)(E:aC):Bool:=(I f.cT==I E)&&((I f.places==pl)&&E.all λe=>wa f e==1)
def aeH(g:a_ F j){ad:Nat}{f:c9}(hf:(fB F j)[ad]?=some f)(E:aC)(he:I E<=1000)(pl:Nat):
  aI S 140 [aE ad,.one (.p (.box [ez F j])),.one (.p (.box [.sl (bt E)])),.one (.p (.box [.int .i64 pl]))] (eh (wg f pl E)):=by
 have ac:=g.len;have iM:I (ay j)<=I j:=uW j (I j);have A6:=Vf g.ok (aX hf);have fJ:nD j<=1600:=by unfold nD;omega
 have Bb:=Mr hf;have vV:=(bd.1 hf).1;refine bR alZ ?_;unfold wg;cases c1:(I f.cT==I E)with
 |false=>
  have R:(((I f.cT:Nat):Int)!=((I E:Nat):Int)):=by
   have:¬I f.cT=I E:=by simpa using c1
   simp[bne];omega
  simp only[go_sem,Rh,Bb,c9.ps,R]
 |true=>
 have R:(((I f.cT:Nat):Int)!=((I E:Nat):Int))=false:=by
  have:I f.cT=I E:=by simpa using c1
  simp[bne,this]
 cases c2:(I f.places==pl)with
 |false=>
  have n2:(((I f.places:Nat):Int)!=((pl:Nat):Int)):=by
   have:¬I f.places=pl:=by simpa using c2
   simp[bne];omega
  simp only[go_sem,Rh,Bb,c9.ps,R,n2]
 |true=>
 have n2:(((I f.places:Nat):Int)!=((pl:Nat):Int))=false:=by
  have:I f.places=pl:=by simpa using c2
  simp[bne,this]
 simp only[go_sem,Rh,Bb,c9.ps,R,n2];refine df (λk A blk=>A 6=.one (.bh 8960064448 1 0)/\blk 8960064448=(1,some (.var (f.ps.map .p)))/\A 32=.one (.p (.sl (bt E)))/\A 33=aE (I E)/\A 34=aE k/\ ∀i e,i<k->E[i]?=some e->(wa f e==1)) 0 (I E) (bN _) ?_ ?_
 .simp only[go_sem,c9.ps];first|exact⟨rfl,λi e H=>absurd H (nJ i)⟩|exact⟨rfl,rfl,λi e H=>absurd H (nJ i)⟩|exactλi e H=>absurd H (nJ i)
 rintro k A blk hk ⟨h6,X,z,Kb,v,aD⟩
 simp only[c9.ps,eQ,oO]at X;by_cases aB:k<I E
 .have aL:((k:Int)<(I E:Int)):=J;obtain⟨e,y⟩:=aM aB;have w1:=cE (n:=k) J;simp only[go_sem,TX,h6,X,z,Kb,v,aL,iY y];refine df (λi D aZ=>D 6=.one (.bh 8960064448 1 0)/\aZ 8960064448=(1,some (.var (f.ps.map .p)))/\D 32=.one (.p (.sl (bt E)))/\D 33=aE (I E)/\D 34=aE k/\D 8=aE e/\D 9=aE ((f.cT.take i).countP λd=>d/2==e:Nat)/\D 39=.one (.p (.sl (bt f.cT)))/\D 40=aE (I f.cT)/\D 41=aE i) 0 (I f.cT) (bN _) ?_ ?_
  .simp only[go_sem,h6,X,z,Kb,v,c9.ps];first|exact⟨rfl,rfl⟩|exact rfl|exact⟨rfl,rfl,rfl⟩
  rintro i D aZ H ⟨Y,N,m,u,Gi,p8,x,B,Q,h⟩
  by_cases rK:i<I f.cT
  .have L:((i:Int)<(I f.cT:Int)):=J;obtain⟨d,T⟩:=aM rK;have ot:=iY T;have w2:=cE (n:=i) J;have wq:=wrap_small (n:=d/2) (by have:=Xy (aX hf) d (aX T);omega);have dS:(f.cT.take i).countP (λd=>d/2==e)<=i:=nA IU (by rw[jw];omega);have O:(f.cT.take (i+1)).countP (λd=>d/2==e)=(f.cT.take i).countP (λd=>d/2==e)+if(d/2==e)=true then 1 else 0:=by
    rw[jB,T,vz];simp[CY,Ov]
   cases M:(d/2==e)with
   |true=>
    have Z:(((d/2:Nat):Int)==(e:Int)):=by
     have:d/2=e:=by simpa using M
     simp;omega
    rw[M,an rfl]at O;simp only[go_sem,J_,Y,m,u,Gi,p8,x,B,Q,h,rK,L,ot,jX,nq,wq,Z,w2,cE (n:=(f.cT.take i).countP λd=>d/2==e) J,O];first|exact N|exact⟨N,rfl⟩
   |false=>
    have Z:(((d/2:Nat):Int)==(e:Int))=false:=by
     have:¬d/2=e:=by simpa using M
     simp;omega
    rw[M,ai aa,uX]at O;simp only[go_sem,J_,Y,m,u,Gi,p8,x,B,Q,h,rK,L,ot,jX,nq,wq,Z,w2,O];first|exact N|exact⟨N,rfl⟩
  have:i=I f.cT:=J;subst this;rw[jz]at x;have ab:(f.cT.countP λd=>d/2==e)=wa f e:=rfl;rw[ab]at x;cases hq:(wa f e==1)with
  |true=>
   have n4:(((wa f e:Nat):Int)!=1)=false:=by
    have:wa f e=1:=by simpa using hq
    simp[bne,this]
   simp only[go_sem,J_,Tq,aaX,Y,m,u,Gi,x,Q,h,ff,n4,w1,aB]
   grind
  |false=>
   have n4:(((wa f e:Nat):Int)!=1):=by
    have:¬wa f e=1:=by simpa using hq
    simp[bne];omega
   have iS:(E.all λe=>wa f e==1)=false:=Wo.2 ⟨e,aX y,by rw[hq];decide⟩;simp only[go_sem,J_,Tq,x,Q,h,ff,n4,iS]
 have:k=I E:=J;subst this;have iS:=mB.2 λe he=>by obtain⟨i,H⟩:=fX he;exact aD i e (bd.1 H).1 H
 simp only[go_sem,TX,adj,Kb,v,ff,iS]
def mI(F:Nat)(j:af)(pl:Nat)(E:aC)(f:Nat):Bool:=wg (gv F j (2*f)) pl E||wg (gv F j (2*f+1)) pl E
def Yc(g:a_ F j)(E:aC)(dV:I E<=1000){f:Nat}(L:E[0]?=some f)(D:f<I j)(pl:Nat):
  aI S 111 [.one (.p (ez F j)),aE pl,.one (.p (.sl (bt E)))] (eh (mI F j pl E f)):=by
 have x:=g.len;obtain⟨m,Q,u,Y⟩:=KL g (d:=2*f) J;obtain⟨h,y,B,X⟩:=KL g (d:=2*f+1) J;have g0:(fB F j).getD m LY=gv F j (2*f):=by rw[dz,u];rfl
 have g1:(fB F j).getD h LY=gv F j (2*f+1):=by rw[dz,B];rfl
 have pc:=aj6 [m,h] aH ⟨rfl,rfl,rfl⟩ awa (λN=>wg ((fB F j).getD N LY) pl E) (λv H=>by
  simp at H;rcases H with rfl|rfl
  .rw[g0];exact aeH g u E dV pl
  rw[g1];exact aeH g B E dV pl)
 have A:([m,h].any λN=>wg ((fB F j).getD N LY) pl E)=mI F j pl E f:=by simp only[List.any_cons,List.any_nil,X2,g0,g1];rfl
 rw[A]at pc;simp at pc;have R:=iY y;have O:=iY L;have M:=qg (a:=f) J;have z:=cE (n:=2*f) J;have T:=Gf F j;refine bR al9 ?_;simp only[go_sem,ad6,O,M,z,iY Q,R,agb,ss pc];exact aS
def gw(j:af)(l:aU)(e:Nat):aU:=(l.set e (l.getD (nx j e) ⟨ga,false⟩)).set (nx j e) (l.getD e ⟨ga,false⟩)
theorem uI(j:af)(l:aU)(e:Nat):I (gw j l e)=I l:=by simp[gw]
def fN(j:af)(l:aU)(E:aC):aU:=E.foldl (gw j) l
def Aq(j:af):∀(E:aC) (l:aU),I (fN j l E)=I l:=by
 intro E
 induction E with
 |nil=>intro l;rfl
 |cons e E f=>intro l;show(fN j _ E).length=_;rw[f,uI]
def aur(g:a_ F j)(E:aC)(jk:∀e∈E,e<I j)(dV:I E<=1000):
  aI S 118 [.one (.p (ez F j)),.one (.p (.sl (bt E)))] (.one (cP lK 7 (dB (fN j (aA j) E)))):=by
 have N:=g.len;have u:=cZ j;have T:aA j≠[]:=gA.1 (by have:=gA.2 g.ne;omega);refine bR atv ?_;simp only[go_sem,afL,EB];refine nQ (MJ T J) ah (.inl rfl) λcc lO gc iw=>?_;rcases gc with⟨e,_⟩|⟨_,v,e,Z⟩
 .exact absurd (by simpa using e) T
 cases e;rw[bG,u];simp only[go_sem];refine df (λk A blk=>A 0=.one (.p (ez F j))/\A 5=.one (.hsl 7552064256 v 7 0 (I j))/\A 15=.one (.p (.sl (bt E)))/\A 16=aE (I E)/\A 17=aE k/\blk 7552064256=(v,some (.arr lK 7 (dB (fN j (aA j) (E.take k)))))) 0 (I E) (bN _) ?_ ?_
 .simp only[go_sem,Z];first|exact⟨rfl,rfl⟩|rfl|exact⟨rfl,rfl,rfl⟩
 rintro k A blk hk ⟨h0,L,FA,h,y,B⟩
 by_cases M:k<I E
 .have aL:((k:Int)<(I E:Int)):=J;obtain⟨e,x⟩:=aM M;have H:=iY x;have R:=jk e (aX x);have pe:=Cw g R;have Y:=cE (n:=k) J;have Q:fN j (aA j) (E.take (k+1))=gw j (fN j (aA j) (E.take k)) e:=by
   unfold fN;rw[jB,x,zx];rfl
  have iN:I (fN j (aA j) (E.take k))=I j:=by rw[Aq,u]
  have hm:=cJ (e+1) (show 0<I j by omega);generalize fN j (aA j) (E.take k)=m at B Q iN;obtain⟨p,hp⟩:=aM (h:=m) (k:=e) J;obtain⟨q,z⟩:=aM (h:=m) (k:=(e+1)%I j) J;have X:=ju hp;have Ei:=ju z;have l2:(e+1)%I j<I m:=J;have O:=ze m e q;have sM:(m.set e q).set ((e+1)%I j) p=gw j m e:=by unfold gw nx;rw[dz,z,dz,hp];rfl
  have f:=ze (m.set e q) ((e+1)%I j) p;rw[sM,<-Q]at f;simp only[aK.ps]at O f;obtain⟨p',eo⟩:=aM (h:=m.set e q) (by rw[q_];omega);obtain⟨q',mw⟩:=aM (h:=m.set e q) (by rw[q_];omega);have ab:=ju mw;simp only[go_sem,Xp,h0,L,FA,h,y,B,M,aL,H,mU,dJ pe jg,R,hm,X,Ei,by omega,O,f,aK.ps,Y];exact aS
 have:k=I E:=J;subst this;rw[jz]at B;simp only[go_sem,Xp,acV,L,h,y,ff];have D:I (fN j (aA j) E)=I j:=by rw[Aq,u]
 refine xT (.inr ⟨?_,v,by rw[bG,D],B⟩);intro h2;have:=congrArg List.length h2;rw[bG,D,gk]at this;have h3:=gA.2 g.ne;omega
def fv(l:aU)(i:Nat)(r:Int):aU:=l.set i {(l.getD i ⟨ga,false⟩)with l:={(l.getD i ⟨ga,false⟩).l with ao:=r}}
def xX(l:aU)(i:Nat)(r:Int):I (fv l i r)=I l:=by simp[fv]
def qz(F:Nat)(j:af)(m n:Nat):Option aU:=
 if(j_ j m).2.2&&((j_ j n).2.2&&(!((j_ j m).2.1==(j_ j n).2.1)&&(((b_ j (j_ j m).2.1).l.id==(b_ j (j_ j n).2.1).l.id)&&mI F j 1 [m,n] m)))
 then some (fN j (fv (fv (aA j) (j_ j m).1 (b_ j (j_ j n).1).l.ao) (j_ j n).1 (b_ j (j_ j m).1).l.ao) [m,n])else none
def ajL{e:Nat}(H:e<I j):(j_ j e).1<I j/\(j_ j e).2.1<I j:=by
 have h:=cJ (e+1) (show 0<I j by omega);unfold j_ nx
 grind
def azg(g:a_ F j)(ha:m<I j)(hb:n<I j){k c:Int}{l o:Bool}{sg:Int}:
  aI S 71 [.one (.p (ez F j)),jM k m n c l o sg] (te (qz F j m n)):=by
 have ap:=g.len;have cA:=cZ j;have u:=aft g ha;have pb:=aft g hb;have pc:=Yc g [m,n] aH rfl ha 1;obtain⟨p1,kU⟩:=ajL ha;obtain⟨q1,w1⟩:=ajL hb;unfold qz;generalize j_ j m=x at*;generalize j_ j n=y at*;obtain⟨f,L,one⟩:=x;obtain⟨A,B,two⟩:=y;simp only at u pb p1 kU q1 w1 |-;simp only[eQ,oO]at pc;have c1:((1:Nat):Int)=1:=rfl;rw[c1]at pc;obtain⟨P,hP⟩:=aM (h:=aA j) (k:=f) J;obtain⟨Q,hQ⟩:=aM (h:=aA j) (k:=A) J;obtain⟨V,hV⟩:=aM (h:=aA j) (k:=L) J;obtain⟨W,hW⟩:=aM (h:=aA j) (k:=B) J;rw[jr hP,jr hQ,jr hV,jr hW];have Y:=ju hP;have ad:=ju hQ;have v:=ju hV;have h:=ju hW;have aN:aA j≠[]:=gA.1 J;have ak:=MJ aN J;have lo:S.lone 4544384256=false:=ah
 refine bR aj5 ?_;cases one with
 |false=>simp only[go_sem,E3,Jr,dJ u xY,dJ pb xY];exact⟨aS,rfl⟩
 |true=>
 cases two with
 |false=>simp only[go_sem,E3,Jr,dJ u xY,dJ pb xY];exact⟨aS,rfl⟩
 |true=>
 cases c2:(L==B)with
 |true=>
  have Z:((L:Int)==(B:Int)):=by simp[show L=B by simpa using c2]
  simp only[go_sem,E3,Jr,dJ u xY,dJ pb xY,Z];exact⟨aS,rfl⟩
 |false=>
 have Z:((L:Int)==(B:Int))=false:=by
  have:¬L=B:=by simpa using c2
  simp;omega
 cases c3:(V.l.id==W.l.id)with
 |false=>
  have n3:(V.l.id !=W.l.id):=by simp[bne,c3]
  simp only[go_sem,E3,Jr,dJ u xY,dJ pb xY,Z,v,h,aK.ps,n3];exact⟨aS,rfl⟩
 |true=>
 have n3:(V.l.id !=W.l.id)=false:=by simp[bne,c3]
 cases c4:mI F j 1 [m,n] m with
 |false=>rw[c4]at pc;simp only[go_sem,E3,Jr,dJ u xY,dJ pb xY,Z,v,h,aK.ps,n3,LB,ss pc];exact⟨aS,rfl⟩
 |true=>
 rw[c4]at pc;simp only[go_sem,E3,Jr,dJ u xY,dJ pb xY,Z,v,h,Y,ad,aK.ps,n3,LB,ss pc,EB];refine⟨aS,aS,?_⟩;refine nQ ak lo (.inl rfl) λcc lO gc iw=>?_;have b3:=iw 4544000000 aa;simp only[go_sem]at b3;rcases gc with⟨e,_⟩|⟨_,gg,e,hC⟩
 .exact absurd (by simpa using e) aN
 cases e;rw[bG,cA];have D:=ze (aA j) f {P with l:={P.l with ao:=Q.l.ao}};have j6:(aA j).set f {P with l:={P.l with ao:=Q.l.ao}}=fv (aA j) f Q.l.ao:=by unfold fv;rw[dz,hP];rfl
 rw[j6]at D;have Be:I (fv (aA j) f Q.l.ao)=I j:=by rw[xX,cA]
 obtain⟨Q',T⟩:=aM (h:=fv (aA j) f Q.l.ao) (k:=A) J;have ag:=ju T;have z:=ze (fv (aA j) f Q.l.ao) A {Q' with l:={Q'.l with ao:=P.l.ao}};have iW:(fv (aA j) f Q.l.ao).set A {Q' with l:={Q'.l with ao:=P.l.ao}}=fv (fv (aA j) f Q.l.ao) A P.l.ao:=by rw[fv.eq_def (fv (aA j) f Q.l.ao),dz,T];rfl
 rw[iW]at z;simp only[aK.ps]at D z;have qp:I (fv (fv (aA j) f Q.l.ao) A P.l.ao)=I j:=by rw[xX,Be]
 simp only[go_sem,b3,hC,Y,ag,aK.ps,D,z,p1,q1];generalize fv (fv (aA j) f Q.l.ao) A P.l.ao=M at qp |-;obtain⟨E,Ry⟩:∃E,E=[m,n]:=⟨_,rfl⟩;have Rv:I E=2:=by rw[Ry];rfl
 have jk:∀e∈E,e<I j:=λe H=>by rw[Ry]at H;simp only[dt,gH,or_false]at H;rcases H with rfl|rfl<;>assumption
 refine df (λk N blk=>N 0=.one (.p (ez F j))/\N 14=.one (.hsl 4544384256 gg 7 0 (I j))/\(∃O,N 116=.one (.hsl 4544512256 O 1 0 2)/\blk 4544512256=(O,some (.arr 3 1 (bt E))))/\N 117=aE ((2:Nat):Int)/\N 118=aE k/\blk 4544384256=(gg,some (.arr lK 7 (dB (fN j M (E.take k)))))) 0 2 (bN _) ?_ ?_
 .simp only[go_sem];exact⟨⟨_,rfl,by rw[Ry];rfl⟩,rfl,rfl⟩
 rintro k N blk hk ⟨h0,yg,⟨O,Fz,bE⟩,R,X,bO⟩
 by_cases aB:k<2
 .have aL:((k:Int)<((2:Nat):Int)):=J;have FP:k<I E:=J;obtain⟨e,H⟩:=aM FP;have ac:=iY H;have NP:=jk e (aX H);have pe:=Cw g NP;have w1:=cE (n:=k) J;have nO:fN j M (E.take (k+1))=gw j (fN j M (E.take k)) e:=by
   unfold fN;rw[jB,H,zx];rfl
  have iN:I (fN j M (E.take k))=I j:=by rw[Aq,qp]
  have hm:=cJ (e+1) (show 0<I j by omega);generalize fN j M (E.take k)=ab at bO nO iN;obtain⟨p,hp⟩:=aM (h:=ab) (k:=e) J;obtain⟨q,hq⟩:=aM (h:=ab) (k:=(e+1)%I j) J;have dA:=ju hp;have Ei:=ju hq;have l1:e<I ab:=J;have l2:(e+1)%I j<I ab:=J;have D:=ze ab e q;have sM:(ab.set e q).set ((e+1)%I j) p=gw j ab e:=by unfold gw nx;rw[dz,hq,dz,hp];rfl
  have z:=ze (ab.set e q) ((e+1)%I j) p;rw[sM,<-nO]at z;simp only[aK.ps]at D z;obtain⟨q',mw⟩:=aM (h:=ab.set e q) (k:=(e+1)%I j) (by rw[q_];omega);have am:=ju mw;simp only[go_sem,TF,h0,yg,Fz,R,X,bE,bO,aB,aL,ac,mU,dJ pe jg,NP,hm,dA,Ei,am,D,z,aK.ps,w1];first|exact⟨aS,O,rfl,rfl⟩|exact⟨aS,⟨O,rfl,rfl⟩⟩|exact⟨aS,⟨O,rfl,rfl⟩,rfl⟩|trace_state
 have:k=2:=J;subst this;have e1:E.take 2=[m,n]:=by rw[Ry];rfl
 rw[e1]at bO;have mr:¬(((2:Nat):Int)<((2:Nat):Int)):=J;simp only[go_sem,TF,adN,yg,R,X,mr];have h1:I (fN j M [m,n])=I j:=by rw[Aq,qp]
 refine tN (.inr ⟨?_,gg,by rw[nm,bG,h1],bO⟩);intro h2;have:=congrArg List.length h2;rw[nm,bG,h1,gk]at this;omega
def sZ(l:aU)(i:Nat)(g r:Int):aU:=l.set i {(l.getD i ⟨ga,false⟩)with l:={(l.getD i ⟨ga,false⟩).l with gate:=g,ao:=r}}
def s3(F:Nat)(j:af)(m:Nat):Option aU:=
 if((b_ j m).l.kind==1)&&(decide ((b_ j m).l.gate<(F:Int))&&((b_ j m).l.ao==(aJ j (b_ j m).l.gate.toNat:Int)))
 then some (sZ (eL (aA j) ((b_ j m).l.gate+1) 0 1) m ((b_ j m).l.gate+1) 1)else none
def amS(g:a_ F j)(ha:m<I j){b c:Int}{l o:Bool}{sg:Int}:
  aI S 77 [.one (.p (ez F j)),jM 9 m b c l o sg] (te (s3 F j m)):=by
 unfold s3;have R:=g.len;have cA:=cZ j;obtain⟨p,hp⟩:=aM (h:=aA j) (k:=m) J;have D:=ju hp;have aN:aA j≠[]:=gA.1 J;have u:=MJ aN J;have lo:S.lone 4928256256=false:=ah;have fS:S.shared 106:=ah;have oF:=KA g;rw[jr hp];refine bR aiC ?_;cases c1:(p.l.kind==1)with
 |false=>
  have v:(p.l.kind !=1):=by simp[bne,c1]
  simp only[go_sem,Bx,D,aK.ps,v];exact⟨aS,rfl⟩
 |true=>
 have v:(p.l.kind !=1)=false:=by simp[bne,c1]
 obtain⟨i,l0,qP,lV⟩:=YU (aX hp);have Q:rB F j p.l:=by rw[lV];exact g.ok.ax.eO l0 (aX qP) (by rw[lV]at c1;exact c1)
 obtain⟨G,H⟩:=lB Q.g0;have DU:G<=F:=by have:=Q.g1;omega
 have HE:=g.fing;have wG:=cE (n:=G) J;have Z:=iY (Ey (h:=j) DU);have DV:G<I (gb j F):=by simp[gb];omega
 have eG:p.l.gate.toNat=G:=by rw[H];rfl
 rw[eG];by_cases c2:G<F
 .have N:((G:Int)<(F:Int)):=J;have O:decide (p.l.gate<(F:Int))=true:=xq (by rw[H];exact N);cases c3:(p.l.ao==(aJ j G:Int))with
  |false=>simp only[go_sem,Bx,D,aK.ps,v,H,EB];refine⟨aS,?_⟩;refine nQ u lo (.inl rfl) λcc lO z h=>?_;have B:=h 4928000000 aa;have f:=h 4928064512 aa;simp only[go_sem]at B f;simp only[go_sem,B,f,N,Z,c3];exact⟨aS,rfl⟩
  |true=>
   have E:p.l.gate+1=((G+1:Nat):Int):=by rw[H];omega
   rw[O,E];simp only[go_sem,Bx,D,aK.ps,v,EB];refine⟨aS,?_⟩;refine nQ u lo (.inl rfl) λcc lO z h=>?_;have B:=h 4928000000 aa;have f:=h 4928064512 aa;simp only[go_sem]at B f;simp only[go_sem,B,f,H,N,Z,c3,wG,fS];refine⟨aS,?_⟩;refine ID J aa oF z λcK AT X=>?_;have M:=(X 4928000000 aa).trans B;have MD:=(X 4928064512 aa).trans f;rcases AT with⟨e,_⟩|⟨_,gg,e,hC⟩
   .exact absurd (by simpa [eL]using e) aN
   cases e;have y:I (eL (aA j) ((G+1:Nat):Int) 0 1)=I j:=by rw[bG,cA]
   obtain⟨x,A⟩:=aM (h:=eL (aA j) ((G+1:Nat):Int) 0 1) (k:=m) J;have e0:sZ (eL (aA j) ((G+1:Nat):Int) 0 1) m ((G+1:Nat):Int) 1=(eL (aA j) ((G+1:Nat):Int) 0 1).set m {x with l:={x.l with gate:=((G+1:Nat):Int),ao:=1}}:=by unfold sZ;rw[dz,A];rfl
   rw[e0];generalize eL (aA j) ((G+1:Nat):Int) 0 1=ab at hC y A |-;have iB:=ju A;have T:=ze ab m {x with l:={x.l with gate:=((G+1:Nat):Int)}};have ni:(ab.set m {x with l:={x.l with gate:=((G+1:Nat):Int)}})[m]?=some {x with l:={x.l with gate:=((G+1:Nat):Int)}}:=by rw[pA,an rfl,an J]
   have Y:=ju ni;have L:=ze (ab.set m {x with l:={x.l with gate:=((G+1:Nat):Int)}}) m {x with l:={x.l with gate:=((G+1:Nat):Int),ao:=1}};rw[Qs]at L;simp only[aK.ps]at T L Y;have l1:m<I ab:=J;simp only[go_sem,M,MD,hC,y,ha,iB,Y,aK.ps,H,T,L,wG];refine⟨aS,?_⟩;refine tN (.inr ⟨?_,gg,by rw[nm,bG,q_,y],rfl⟩);intro h2;have:=congrArg List.length h2;rw[nm,bG,q_,y,gk]at this;omega
 have N:¬((G:Int)<(F:Int)):=J;have O:decide (p.l.gate<(F:Int))=false:=zc (by rw[H];exact N);simp only[go_sem,Bx,D,aK.ps,v,EB];refine⟨aS,?_⟩;refine nQ u lo (.inl rfl) λcc lO z h=>?_;have B:=h 4928000000 aa;have f:=h 4928064512 aa;simp only[go_sem]at B f;simp only[go_sem,B,f,H,N];exact⟨aS,rfl⟩
def tl(j:af)(m:Nat):Option aU:=
 if((b_ j m).l.kind==1)&&(decide (0<(b_ j m).l.gate)&&((b_ j m).l.ao==1))
 then some (sZ (eL (aA j) (b_ j m).l.gate 1 (-1)) m ((b_ j m).l.gate-1) ((aJ j ((b_ j m).l.gate-1).toNat+1:Nat):Int))else none
def avG(g:a_ F j)(ha:m<I j){b c:Int}{l o:Bool}{sg:Int}:
  aI S 77 [.one (.p (ez F j)),jM 10 m b c l o sg] (te (tl j m)):=by
 unfold tl;have T:=g.len;have cA:=cZ j;obtain⟨p,hp⟩:=aM (h:=aA j) (k:=m) J;have D:=ju hp;have aN:aA j≠[]:=gA.1 J;have v:=MJ aN J;have lo:S.lone 4928256256=false:=ah;have fS:S.shared 106:=ah;have oF:=KA g;rw[jr hp];refine bR aiC ?_;cases c1:(p.l.kind==1)with
 |false=>
  have y:(p.l.kind !=1):=by simp[bne,c1]
  simp only[go_sem,Bx,D,aK.ps,y];exact⟨aS,rfl⟩
 |true=>
 have y:(p.l.kind !=1)=false:=by simp[bne,c1]
 obtain⟨i,l0,qP,lV⟩:=YU (aX hp);have R:rB F j p.l:=by rw[lV];exact g.ok.ax.eO l0 (aX qP) (by rw[lV]at c1;exact c1)
 obtain⟨G,u⟩:=lB R.g0;have DU:G<=F:=by have:=R.g1;omega
 have HE:=g.fing;by_cases c2:0<G
 .have N:((0:Int)<(G:Int)):=J;obtain⟨H,rfl⟩:∃H,G=H+1:=⟨G-1,J⟩;have Q:decide (0<p.l.gate)=true:=xq (by rw[u];exact N);have wG:=Af (a:=H+1) J J;rw[Fw]at wG;have qL:=iY (Ey (h:=j) (show H<=F by omega));have DV:H<I (gb j F):=by simp[gb];omega
  have dS:aJ j H<=I j:=tH _ _;have wC:=cE (n:=aJ j H) J;have E:p.l.gate-1=(H:Int):=by rw[u];omega
  cases c3:(p.l.ao==1)with
  |false=>simp only[go_sem,Bx,D,aK.ps,y,u,EB];refine⟨aS,?_⟩;refine nQ v lo (.inl rfl) λcc lO A h=>?_;have B:=h 4928000000 aa;have f:=h 4928064512 aa;simp only[go_sem]at B f;simp only[go_sem,B,f,N,c3];first|exact⟨aS,rfl⟩|rfl
  |true=>
   rw[Q,E,u,js];simp only[go_sem,Bx,D,aK.ps,y,EB];refine⟨aS,?_⟩;refine nQ v lo (.inl rfl) λcc lO A h=>?_;have B:=h 4928000000 aa;have f:=h 4928064512 aa;simp only[go_sem]at B f;simp only[go_sem,B,f,u,N,c3,fS];refine⟨aS,?_⟩;refine ID J aa oF A λcK AT Y=>?_;have O:=(Y 4928000000 aa).trans B;have MD:=(Y 4928064512 aa).trans f;rcases AT with⟨e,_⟩|⟨_,gg,e,hC⟩
   .exact absurd (by simpa [eL]using e) aN
   cases e;have z:I (eL (aA j) ((H+1:Nat):Int) 1 (-1))=I j:=by rw[bG,cA]
   obtain⟨x,L⟩:=aM (h:=eL (aA j) ((H+1:Nat):Int) 1 (-1)) (k:=m) J;have e0:sZ (eL (aA j) ((H+1:Nat):Int) 1 (-1)) m (H:Int) ((aJ j H+1:Nat):Int)=(eL (aA j) ((H+1:Nat):Int) 1 (-1)).set m {x with l:={x.l with gate:=(H:Int),ao:=((aJ j H+1:Nat):Int)}}:=by unfold sZ;rw[dz,L];rfl
   rw[e0];generalize eL (aA j) ((H+1:Nat):Int) 1 (-1)=ab at hC z L |-;have iB:=ju L;have X:=ze ab m {x with l:={x.l with gate:=(H:Int)}};have ni:(ab.set m {x with l:={x.l with gate:=(H:Int)}})[m]?=some {x with l:={x.l with gate:=(H:Int)}}:=by rw[pA,an rfl,an J]
   have Z:=ju ni;have M:=ze (ab.set m {x with l:={x.l with gate:=(H:Int)}}) m {x with l:={x.l with gate:=(H:Int),ao:=((aJ j H+1:Nat):Int)}};rw[Qs]at M;simp only[aK.ps]at X M Z;have l1:m<I ab:=J;simp only[go_sem,O,MD,hC,z,ha,iB,Z,aK.ps,u,X,M,wG,qL,wC];refine⟨aS,?_⟩;refine tN (.inr ⟨?_,gg,by rw[nm,bG,q_,z],rfl⟩);intro h2;have:=congrArg List.length h2;rw[nm,bG,q_,z,gk]at this;omega
 have N:¬((0:Int)<(G:Int)):=J;have Q:decide (0<p.l.gate)=false:=zc (by rw[u];exact N);simp only[go_sem,Bx,D,aK.ps,y,EB];refine⟨aS,?_⟩;refine nQ v lo (.inl rfl) λcc lO A h=>?_;have B:=h 4928000000 aa;have f:=h 4928064512 aa;simp only[go_sem]at B f;simp only[go_sem,B,f,u,N];first|exact⟨aS,rfl⟩|rfl
section
attribute [local go_sem ↓] Gr E8
def QB(a b:Nat):(a==b)=((a:Int)==(b:Int)):=by grind
def ob(F:Nat)(j:af)(m n:Nat):Option aU:=
 if((j8 j m true&&j8 j n false)||(j8 j m false&&j8 j n true))&&(!((b_ j m).l.id==(b_ j (nx j m)).l.id)&&
  (((((b_ j n).l.id==(b_ j m).l.id)&&((b_ j (nx j n)).l.id==(b_ j (nx j m)).l.id))||(((b_ j n).l.id==(b_ j (nx j m)).l.id)&&((b_ j (nx j n)).l.id==(b_ j m).l.id)))&&
  (!((m+2)%I j==n)&&(!((n+2)%I j==m)&&mI F j 0 [m,n] m))))
 then some (jS (aA j) [(b_ j m).l.id,(b_ j (nx j m)).l.id])else none
def ani(g:a_ F j)(ha:m<I j)(hb:n<I j){k c:Int}{l o:Bool}{sg:Int}:
  aI S 74 [.one (.p (ez F j)),jM k m n c l o sg] (te (ob F j m n)):=by
 have bZ:=g.len;have cA:=cZ j;have O:=Cw g ha;have aN:=Cw g hb;have yu:=cJ (m+1) (show 0<I j by omega);have qp:=cJ (n+1) (show 0<I j by omega);have pc:=Yc g [m,n] aH rfl ha 0;simp only[eQ,oO]at pc;have c0:((0:Nat):Int)=0:=rfl;rw[c0]at pc;have b1:=Jt g ha true;have b2:=Jt g hb false;have b3:=Jt g ha false;have b4:=Jt g hb true;obtain⟨P,hP⟩:=aM (h:=aA j) (k:=m) J;obtain⟨Z,bb⟩:=aM (h:=aA j) (k:=(m+1)%I j) J;obtain⟨Q,hQ⟩:=aM (h:=aA j) (k:=n) J;obtain⟨Q2,B⟩:=aM (h:=aA j) (k:=(n+1)%I j) J;have zI:=ju hP;have bX:=ju bb;have qj:=ju hQ;have bp:=ju B;have hz:¬((I j:Int)=0):=J
 have bu:IntKind.i64.wrap ((m:Int)+2)=((m+2:Nat):Int):=(oL J J).trans J;have br:=ve (m+2) (I j);have bE:IntKind.i64.wrap ((n:Int)+2)=((n+2:Nat):Int):=(oL J J).trans J;have bq:=ve (n+2) (I j);have lo:S.lone 4736704448=false:=ah;have pd:=agw (aA j) [P.l.id,Z.l.id] J aH (ajb g);simp only[eQ,oO]at pd;have x3:j8 j m true->j8 j m false=false:=λx=>by
  unfold j8 at x |-;rw[jr hP]at x |-;simp only[cN]at x;have:P.l.over:=by simpa using x.2.2.1
  simp[this]
 unfold ob;rw[jr hP,jr hQ,jr bb,jr B,QB,QB];have f:=And.intro zI (And.intro qj (And.intro bX (And.intro bp (And.intro ha (And.intro hb (And.intro yu (And.intro qp (And.intro cA (And.intro bu (And.intro br (And.intro hz (And.intro bE bq))))))))))));refine bR akw ?_;simp only[go_sem,afB,I7,eU b1,f];refine yG [0,3,4,5,6,7,22] λe1 h1=>?_;try simp only[go_sem]at h1
 obtain⟨QR,QS,aF,a1,a4,az,a3⟩:=h1;cases x:j8 j m true
 case' false=>
  simp only[go_sem,I7,eU b3,QR,QS,a3,x];refine yG [0,3,4,5,6,7,28,33] λe2 h2=>?_;try simp only[go_sem,QR,QS,aF,a1,a4,az]at h2
  obtain⟨h,H,v,u,VD,VE,Na,D⟩:=h2;cases x4:j8 j m false
  .simp only[go_sem,v,u,Na,D,x4];first|rfl|exact aS|exact⟨aS,rfl⟩|exact⟨aS,aS,rfl⟩
  simp only[go_sem,I7,eU b4,h,H,Na,D,x4];cases x5:j8 j n true
  .simp only[go_sem,v,u];first|rfl|exact aS|exact⟨aS,rfl⟩|exact⟨aS,aS,rfl⟩
  simp only[go_sem,mU,dJ O jg,dJ aN jg,f,aK.ps,h,H,VE];refine⟨aS,?_⟩;refine yG [0,3,4,5,6,9,10,11,12,76] λe3 L=>?_;try simp only[go_sem,h,H,v,u,VD]at L
  obtain⟨VF,ab,VH,VI,ar,VJ,A,VG,aj,QT⟩:=L
 case' true=>
  simp only[go_sem,I7,eU b2,QR,QS,a3,x];refine yG [0,3,4,5,6,7,28] λe2 h2=>?_;try simp only[go_sem,QR,QS,aF,a1,a4,az]at h2
  obtain⟨h,H,v,u,VD,VE,Na⟩:=h2;cases x2:j8 j n false
  .have bL:=x3 x;simp only[go_sem,I7,eU b3,h,H,v,u,Na,x2,bL];first|rfl|exact aS|exact⟨aS,rfl⟩|exact⟨aS,aS,rfl⟩
  simp only[go_sem,mU,dJ O jg,dJ aN jg,f,aK.ps,h,H,VE,Na,x2];refine⟨aS,?_⟩;refine yG [0,3,4,5,6,9,10,11,12,76] λe3 L=>?_;try simp only[go_sem,h,H,v,u,VD]at L
  obtain⟨VF,ab,VH,VI,ar,VJ,A,VG,aj,QT⟩:=L
 all_goals
  cases c1:(P.l.id==Z.l.id)
  rotate_left
  .simp only[go_sem,VH,VI,QT,c1];first|rfl|exact aS|exact⟨aS,rfl⟩|exact⟨aS,aS,rfl⟩
  simp only[go_sem,f,aK.ps,VF,VJ,VG,QT,c1];refine yG [0,3,4,5,6,9,10,11,12,76,88] λe4 h4=>?_;try simp only[go_sem,VF,ab,VH,VI,ar,VJ,A,VG,aj,QT,c1]at h4
  obtain⟨QU,aZ,am,z,bm,aD,VK,R,QV,QW,bf⟩:=h4;cases c2:(Q.l.id==P.l.id)
  case' false=>
   simp only[go_sem,f,aK.ps,QU,aD,QV,QW,bf,c2];refine yG [0,3,4,5,6,10,11,12,76,101,113] λe8 h8=>?_;try simp only[go_sem,QU,aZ,am,z,bm,VK,R,QV,QW]at h8
   obtain⟨bn,bx,ad,ak,bA,bV,E,bz,a6,aB,a0⟩:=h8;cases c4:(Q.l.id==Z.l.id)
   .simp only[go_sem,ad,ak,a6,aB,a0,c4];first|rfl|exact aS|exact⟨aS,rfl⟩|exact⟨aS,aS,rfl⟩
   simp only[go_sem,f,aK.ps,bn,bV,E,a6,aB,a0,c4];refine aqn [0,3,4,5,6,11,12] λe9 h9=>?_;try simp only[go_sem,bn,bx,ad,ak,bA,E,bz]at h9
   obtain⟨bI,ag,ac,M,bg,bC,bO⟩:=h9;cases c5:(Q2.l.id==P.l.id)
   .simp only[go_sem,ac,M];first|rfl|exact aS|exact⟨aS,rfl⟩|exact⟨aS,aS,rfl⟩
   simp only[go_sem,f,ag,bg];refine Ak [0,3,4,5,6,11,12,137] λe6 h6=>?_;try simp only[go_sem,bI,ag,ac,M,bg,bC,bO]at h6
   obtain⟨T,VM,VN,VO,be,bc,a9,VL⟩:=h6
  case' true=>
   have c4:(Q.l.id==Z.l.id)=false:=by rw[show Q.l.id=P.l.id by simpa using c2];exact c1
   simp only[go_sem,f,aK.ps,QU,VK,QV,QW,bf,c2];refine yG [0,3,4,5,6,9,10,11,12,76,101] λe5 h5=>?_;try simp only[go_sem,QU,aZ,am,z,bm,aD,VK,R,QV,QW]at h5
   obtain⟨a5,a2,N,aL,bl,bM,bD,bH,y,Y,bk⟩:=h5;cases c3:(Q2.l.id==Z.l.id)
   .simp only[go_sem,f,aK.ps,a5,N,aL,bM,y,Y,bk,c3,c4];first|rfl|exact aS|exact⟨aS,rfl⟩|exact⟨aS,aS,rfl⟩
   simp only[go_sem,f,a2,bl,Y,bk,c3];refine Ak [0,3,4,5,6,11,12,137] λe6 h6=>?_;try simp only[go_sem,a5,a2,N,aL,bl,bH,y]at h6
   obtain⟨T,VM,VN,VO,be,bc,a9,VL⟩:=h6
  all_goals
   cases d1:((((m+2)%I j:Nat):Int)==(n:Int))
   rotate_left
   .simp only[go_sem,VN,VO,VL,d1];first|rfl|exact aS|exact⟨aS,rfl⟩|exact⟨aS,aS,rfl⟩
   simp only[go_sem,f,VM,be,VL,d1];refine Ak [0,3,4,5,11,12,147] λe7 h7=>?_;try simp only[go_sem,T,VM,VN,VO,bc,a9]at h7
   obtain⟨bw,bT,X,bi,bs,bW,ap⟩:=h7;cases d2:((((n+2)%I j:Nat):Int)==(m:Int))
   rotate_left
   .simp only[go_sem,X,bi,ap,d2];first|rfl|exact aS|exact⟨aS,rfl⟩|exact⟨aS,aS,rfl⟩
   cases d3:mI F j 0 [m,n] m;all_goals
    rw[d3]at pc;simp only[go_sem,LB,ss pc,ajy,bw,bT,X,bi,bs,bW,ap,d2]
   .first|rfl|exact aS|exact⟨aS,rfl⟩|exact⟨aS,aS,rfl⟩
   refine⟨aS,?_⟩;refine nQ pd lo (.inr (sn (xm _))) λcc cK gc b0=>?_;simp only[go_sem];exact tN gc
end
def l_(h:Nat):af:=(List.range (2*h)).map λi=>⟨1,0,((i+1:Nat):Int),0,0,false⟩
section
variable {h:Nat}
theorem Bo:I (l_ h)=2*h:=by simp[l_]
theorem GO{i:Nat}(H:i<2*h):(l_ h)[i]?=some ⟨1,0,((i+1:Nat):Int),0,0,false⟩:=by
 unfold l_
 grind
theorem IP{l:U}(hl:l∈l_ h):∃i,i<2*h/\l=⟨1,0,((i+1:Nat):Int),0,0,false⟩:=by
 obtain _:=cD.1 hl
 grind
def UT(p:U->Bool)(hp:∀l∈l_ h,p l)(k:Nat)(H:k<=2*h):au p ((l_ h).take k)=k:=by grind [List.countP_eq_length,Bo]
def ab0:∀l∈l_ h,l.aw:=λl hl=>by obtain⟨i,_,rfl⟩:=IP hl;rfl
def as8:au U.aw (l_ h)=2*h:=by have:=UT U.aw ab0 (2*h) (ct _);rwa[fL (by rw[Bo];exact ct _)]at this
def anr:au U.aq (l_ h)=0:=by grind [IP,U.aq]
def anM:aJ (l_ h) 0=2*h:=by have:=UT (ir 0) (λl hl=>by obtain⟨i,_,rfl⟩:=IP hl;rfl) (2*h) (ct _);rwa[fL (by rw[Bo];exact ct _)]at this
def aaj{i:Nat}(H:i<=2*h):dn (l_ h) i=(i%2==0):=by unfold dn;rw[UT U.aw ab0 i H]
theorem agO(i:Nat):eC (l_ h) ⟨1,0,((i+1:Nat):Int),0,0,false⟩=i:=by
 unfold eC;have:cX (l_ h) 0=0:=rfl
 grind
def aud:wy 1 (l_ h):=by
 refine(G0).2 ⟨?_,?_,?_⟩
 .rw[Cz];intro l hl;obtain⟨i,_,rfl⟩:=IP hl;simp[d_]
 .refine(D9 (F:=1) λl hl hp=>?_).2 ⟨λl hl hp=>?_,λi j l m v f _ _ y=>?_⟩
  .obtain⟨i,_,rfl⟩:=IP hl;exact⟨aH,aH⟩
  .obtain⟨i,x,rfl⟩:=IP hl;refine⟨aH,aH,by simp;omega,?_⟩;show((i+1:Nat):Int)<=(aJ (l_ h) (0:Int).toNat:Int);rw[Int.toNat_zero,anM];omega
  have i1:=(bd.1 v).1;have i2:=(bd.1 f).1
  grind [Bo,GO,agO]
 unfold lA;have n:fx (l_ h) (I (l_ h))=[]:=by
  have:∀k,k<=2*h->fx (l_ h) k=[]:=by
   intro k
   induction k with
   |zero=>intro _;rfl
   |succ k u=>intro H;unfold fx;rw[GO J,u J];rfl
  exact this _ (by rw[Bo];exact ct _)
 rw[n,anr];simp only[cN];refine⟨⟨rfl,mB.2 λk H=>?_⟩,rfl⟩;have H:=fA.1 H;rw[Bo]at H;unfold mW;rw[GO H];rfl
def alm(H:h<=500000):fY 1 (l_ h):=by
 obtain⟨D,j,F⟩:=(G0).1 (aud);have m:=λl hl=>by simpa using Cz.1 D l hl
 obtain⟨g1,f⟩:=(D9 (λl hl hp=>((kL hp).1 (m l hl)).1.1.1)).1 j;exact⟨by rw[Bo];omega,⟨g1,f⟩,F,λl hl=>xj (m l hl)⟩
def agq:I (ay (l_ h))=2*h:=by rw[Br,as8]
def abZ(f:h<=500000){i:Nat}(H:i<2*h):(ay (l_ h)).idxOf i=i:=by rw[Gs (alm f).ax (GO H) rfl,agO]
def adq(f:h<=500000){e:Nat}(j:e<2*h):aO (l_ h) (2*e)=if((e+1)%(2*h))%2=0 then 4*h+2*((e+1)%(2*h))else 4*h+2*(((e+1)%(2*h)+2*h-1)%(2*h))+1:=by
 have H:=cJ (e+1) (show 0<2*h by omega);show gU _ _ _=_;unfold gU;rw[Bo,agq,ai J];have E:(2*e%2==0):=aH;simp[show 2*e/2=e by omega,GO H,abZ f H,aaj (SL H)]
 grind
def ajF(f:h<=500000){e:Nat}(H:e<2*h):aO (l_ h) (2*e+1)=if e%2=0 then 4*h+2*((e+2*h-1)%(2*h))+1 else 4*h+2*e:=by
 show gU _ _ _=_;unfold gU;rw[Bo,agq,ai J];have E:((2*e+1)%2==0)=false:=aH;simp[gJ,show(2*e+1)/2=e by omega,GO H,abZ f H,aaj (SL H)]
 grind
end
end
end Go.Abs
