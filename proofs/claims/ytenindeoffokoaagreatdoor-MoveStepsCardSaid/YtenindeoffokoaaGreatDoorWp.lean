/- A part. -/
import Derived.Test.YtenindeoffokoaaGreatDoorWo
set_option linter.all false
open List renaming length->I
set_option maxRecDepth 100000
set_option maxHeartbeats 16000000
namespace Go.Abs
variable{m:dJ}{z:fG}{x y:Nat}
section
variable {F:Nat} {L X:af} {P Q:aW}
def yE(l:aW)(ids:cL):jA l ids=(l.filter λp=> !((p.l.kind==2)&&ids.contains p.l.id)).map (jn ids):=by show(oc l _).map _=_;have:=abp (l:=l) (drop:=uR ids) λ_ _=>rfl;rw[this]
def c_.jA{l m:aW}(h:c_ l m)(ids:cL):c_ (jA l ids) (jA m ids):=by rw[yE,yE];exact(h.filter _).map _
theorem ayE(ids:cL)(p:aN):(jn ids p).l.ay=p.l.ay/\(jn ids p).d=p.d:=by unfold jn kh U.ay;split<;>exact⟨rfl,rfl⟩
def abR{ids:cL}{l:aW}(h:∀p∈l,p.l.ay=false->p.d=false):∀p∈jA l ids,p.l.ay=false->p.d=false:=by
 intro p hp D;rw[yE]at hp;obtain _:=ch.1 hp
 grind [ayE]
def O2(l x:aW)(k:Nat):c_ (x++(l.drop (k+1)++l.take (k+1))) (dK l x k):=⟨x++l.drop (k+1),l.take (k+1),aE,by unfold dK;simp⟩
def xO(l:aW)(k:Nat):c_ l (l.drop k++l.take k):=⟨l.take k,l.drop k,(jS k l).symm,rfl⟩
def xi(g:bj F L){p:aN}(h:p∈an L)(H:p.l.ak):1<=p.l.id/\p.l.id<=((aq U.ak L/2:Nat):Int):=by rw[<-vA]at h;obtain⟨x,f,rfl⟩:=ch.1 h;have:=(g.cz).ids x f H;rwa[iX]at this
def ad1{ids:cL}{p:aN}(h:p.l.ak->∀i∈ids,¬i<p.l.id):jn ids p=p:=by
 unfold jn;split
 .rename_i f;unfold kh;have:(ids.take (I ids)).countP (λi=>decide (i<p.l.id))=0:=IW.2 λi H=>by
   rw[jZ]at H
   simpa using h f i H
  rw[this]
  grind
 rfl
def anF(g:bj F L){ids:cL}{z w:aW}(h:c_ (an L) w)(u:∀p∈z,p.l.ak/\p.l.id∈ids)(H:∀i∈ids,((aq U.ak L/2:Nat):Int)<i){m:aW}(n:m.Perm (z++w))(ae:m.filter (λp=> !((p.l.kind==2)&&ids.contains p.l.id))=w):jA m ids=w:=by rw[yE,ae];refine(lq λp hp=>ad1 λf i j=>?_).trans (List.map_id _);have:=(xi g (h.perm.mem_iff.2 hp) f).2;have:=H i j;omega
def WT(g:bj F L){ids:cL}(H:∀i∈ids,((aq U.ak L/2:Nat):Int)<i){p:aN}(hp:p∈an L):(!((p.l.kind==2)&&ids.contains p.l.id)):=by
 cases h:p.l.kind==2 with
 |false=>rfl
 |true=>
  have:=(xi g hp h).2
  grind
def HM{ids:cL}{p:aN}(H:p.l.kind=2)(h:p.l.id∈ids):(!((p.l.kind==2)&&ids.contains p.l.id))=false:=by grind
def MP{a b c sg:Int}{l o:Bool}:fC F L 5 a b c l o sg↔ ∃A:Nat,A<I L/\a=A/\b=0/\c=0/\l=false/\(sg=1\/sg= -1):=by
 unfold fC;simp;constructor
 .rintro ⟨rfl,ae,h,rfl,rfl⟩
  obtain _:=jK h
  grind
 rintro⟨A,H,rfl,rfl,rfl,rfl,ae⟩
 exact⟨rfl,ae,by unfold l_;simp;omega,rfl,rfl⟩
def av1(g:bj F L){a:Nat}(n:a<I L){sg:Int}{o:Bool}(ae:sg=1\/sg= -1)(m:dk (F:Int) (aY (oo L a sg o))=0):∃A Q,A<I (aY (oo L a sg o))/\qh (aY (oo L a sg o)) A=some Q/\bj F (aY (oo L a sg o))/\eV (aY Q) L:=by
 have v:∀p∈oo L a sg o,p.l.ay=false->p.d=false:=λp hp D=>by
  unfold oo dK at hp;simp only[gn,c7,eD,or_false]at hp
  grind [qH]
 obtain⟨cM,r1⟩:=Iw (L5 g n (o:=o) ae) m v;have R:=(O2 (an L) [⟨⟨2,0,0,((aq U.ak L/2+1:Nat):Int),sg,o⟩,false⟩,⟨⟨2,0,0,((aq U.ak L/2+1:Nat):Int),sg,!o⟩,false⟩] a).trans r1;have r0:=xO (an L) (a+1);generalize aY (oo L a sg o)=X at*;generalize(an L).drop (a+1)++(an L).take (a+1)=w at r0 R;obtain⟨A,f,u,H,_⟩:=R.at2;rw[bY]at f H;have h:∀i∈[((aq U.ak L/2+1:Nat):Int)],((aq U.ak L/2:Nat):Int)<i:=λi h=>by rw[mj]at h;subst h;omega
 have j:qh X A=some (jA (an X) [((aq U.ak L/2+1:Nat):Int)]):=by
  unfold qh
  grind
 refine⟨A,_,f,j,cM,UQ g (O7 cM f j) (r0.trans ?_)⟩;have:=R.jA [((aq U.ak L/2+1:Nat):Int)];rw[anF g r0 (λp hp=>by simp only[c7,eD,or_false]at hp;rcases hp with rfl|rfl<;>exact⟨rfl,mj.2 rfl⟩) h (CW _) ?_]at this
 .exact this
 rw[qz,qz,fB,Dd,Dd]
 .exact Ge λp hp=>WT g h (r0.perm.mem_iff.2 hp)
 .grind
 rw[HM rfl (mj.2 rfl)];decide
theorem LX{l:U}{F:Int}(H:l.ak)(h:eo F l=false):l=⟨2,0,0,l.id,l.sign,l.over⟩/\(l.sign=1\/l.sign= -1):=by
 obtain _:=(J2 H).1 h;have j:l.kind=2:=by unfold U.ak at H;exact c8.1 H
 obtain⟨k,f,r,i,s,o⟩:=l
 grind
def aso(g:bj F L){a:Nat}(ha:a<I L)(h:qh L a=some P)(vX:dk (F:Int) (aY P)=0):∃O sg o,O<I (aY P)/\(sg=1\/sg= -1)/\bj F (aY P)/\I (aY P)+2=I L/\aq U.ak (aY P)+2=aq U.ak L/\eV (aY (oo (aY P) O sg o)) L:=by
 have fH:=O7 g ha h;obtain⟨x,y,r,s,e,Z,hy,c,hp,mZ,_,_,iU⟩:=GF g ha;have q:=c.q;unfold qh at h;have e1:(an L).getD a ⟨ij,false⟩=x.p:=by rw[dD,Z];rfl
 have e2:(an L).getD ((a+1)%I L) ⟨ij,false⟩=y.p:=by rw[dD,hy];rfl
 simp only[e1,e2]at h;split at h
 case isFalse=>cases h
 rename_i hc;simp only[cP,c8]at hc;obtain⟨ib,B,H⟩:=hc;have m:x.k.ak:=by rw[A9];simp[ib]
 have f:y.k.ak:=by rw[A9];simp[B]
 have qm:=H;cases h;have Gb:=Xe q m f qm;have iO:=(iN.1 q.cr).1 y aE m f qm;have r0:c_ (an L) ((x::y::r).map aQ.p):=by rw[<-mZ];exact xO _ _
 have mX:∀p,p∈(x::y::r).map aQ.p↔p∈an L:=λp=>r0.perm.symm.mem_iff;obtain⟨cM,r1⟩:=Iw fH vX (abR λp hp=>qH hp);have R:=(r0.symm.jA [x.p.l.id]).trans r1;have wQ:jA ((x::y::r).map aQ.p) [x.p.l.id]=(r.map aQ.p).map (jn [x.p.l.id]):=by
  rw[yE,eZ,eZ,Dd,Dd]
  .rw[Ge];intro p hp;obtain⟨w,E,rfl⟩:=ch.1 hp;cases n:w.p.l.kind==2 with
   |false=>rfl
   |true=>
    have:=Gb w E n;have:[x.p.l.id].contains w.p.l.id=false:=by simpa using this
    rw[this];rfl
  .rw[HM B (by rw[<-H];exact mj.2 rfl)];decide
  rw[HM ib (mj.2 rfl)];decide
 rw[wQ]at R;have JZ:r≠[]:=λe=>by
  obtain⟨z,D,T⟩:=c.one;rw[e]at D;simp only[c7,eD,or_false]at D;rcases D with rfl|rfl
  .rw[nL T]at m;cases m
  rw[nL T]at f;cases f
 have Q:I L=I r+2:=by have:=iU.length_eq;rw[yy]at this;simpa using this.symm
 have wN:I (aY (jA (an L) [x.p.l.id]))+2=I L:=by have:=R.len;rw[bY,cg,cg]at this;omega
 have M:aq U.ak (aY (jA (an L) [x.p.l.id]))+2=aq U.ak L:=by
  have e3:aq U.ak L=aq U.ak (aK (x::y::r)):=by rw[vQ iU,iX]
  rw[e3,fh,fh,(kW m).1,(kW f).1];rw[<-Dl U.ak];show List.countP _ (List.map _ _)+2=1+(1+List.countP _ (List.map _ _));rw[qg,qg];have:∀p,(jn [x.p.l.id] p).l.ak=p.l.ak:=λp=>by unfold U.ak;rw[LM]
  have e5:((r.map aQ.p).map (jn [x.p.l.id])).countP (λp=>p.l.ak)=r.countP (U.ak ∘ aQ.k):=by rw[qg,qg];exact A5 λz _=>by simp only[Function.comp_apply];rw[this]
  have e6:(an (aY (jA (an L) [x.p.l.id]))).countP (U.ak ∘ aN.l)=r.countP (U.ak ∘ aQ.k):=by rw[<-e5,R.perm.countP_eq (λp=>p.l.ak)];rfl
  omega
 generalize aY (jA (an L) [x.p.l.id])=X at*;obtain⟨k,n,_,_,DP⟩:=R.ins (by simp[JZ]);rw[bY]at n;have N:=a7 Z;have A:=a7 hy;obtain⟨lx,Y⟩:=LX m (g.bad x.k (by obtain⟨i,l,hl,e⟩:=NQ N;rw[show x.k=l from congrArg aN.l e];exact a7 hl));obtain⟨ly,_⟩:=LX f (g.bad y.k (by obtain⟨i,l,hl,e⟩:=NQ A;rw[show y.k=l from congrArg aN.l e];exact a7 hl));refine⟨k,x.k.sign,x.k.over,n,Y,cM,wN,M,?_⟩;have cQ:=L5 cM n (o:=x.k.over) Y;have hK:((aq U.ak X/2+1:Nat):Int)=((aq U.ak L/2:Nat):Int):=J;have Uz:=xi g N m;refine SE g (h:=λid=>if id=x.p.l.id then((aq U.ak L/2:Nat):Int)else if x.p.l.id<id then id-1 else id) ?_ cQ ?_
 .intro u hu v hv ku kv e;obtain⟨i,hi⟩:=fK hu;obtain⟨j,hj⟩:=fK hv;have bu:=xi g (a7 (fX hi)) (by rw[A9];simp[ku]);have bv:=xi g (a7 (fX hj)) (by rw[A9];simp[kv]);simp only at bu bv e;split at e<;>split at e<;>(try split at e)<;>(try split at e)<;>omega
 refine(r0.map _).trans ?_;unfold oo;rw[hK];have:=DP [⟨⟨2,0,0,((aq U.ak L/2:Nat):Int),x.k.sign,x.k.over⟩,false⟩,⟨⟨2,0,0,((aq U.ak L/2:Nat):Int),x.k.sign,!x.k.over⟩,false⟩];refine Eq.mp (congrArg (λz=>c_ z _) ?_) this;rw[eZ,eZ,eZ,eZ,qz,qz,fB];congr 1
 .grind [cN,dd,qH,kJ]
 congr 1
 .unfold cN dd;rw[show y.p.l.kind=2 from B,qH A (kJ f)];simp only[sv,if_true];rw[aD H.symm];congr 1
  conv=>rhs;rw[show y.p.l=_ from ly]
  rw[iO.ov,iO.sg,yI]
 rw[h_,h_];refine lq λw E=>?_;show jn [x.p.l.id] w.p=cN _ w.p;unfold jn cN dd kh;cases n:w.p.l.kind==2 with
 |false=>simp
 |true=>
  simp only[if_true];rw[aC (Gb w E n)];congr 2;by_cases aw:x.p.l.id<w.p.l.id
  .simp[aw]
  simp[aw]
end
section
variable {F:Nat} {L X:af} {P Q:aW}
def C5{a b c sg:Int}{l o:Bool}:fC F L 2 a b c l o sg↔ ∃A B f:Nat,(A<I L\/(I L=0/\A=0))/\B<=F/\f<=aV L B/\a=A/\b=B/\c=f/\l=false/\o=false/\sg=0:=by
 unfold fC;simp only[Int.reduceEq,if_true,if_false,false_or,or_false,true_or,or_true,or_self,cP,uW,ke,c8,iJ];constructor
 .rintro ⟨rfl,rfl,rfl,h,j,D,M,m⟩
  obtain⟨B,rfl⟩:=ns j;obtain⟨f,rfl⟩:=ns M;rw[js]at m;rcases h with h|⟨H,rfl⟩
  .obtain⟨A,rfl,n⟩:=jK h;exact⟨A,B,f,.inl n,J,J,rfl,rfl,rfl,rfl,rfl,rfl⟩
  exact⟨0,B,f,.inr ⟨H,rfl⟩,J,J,rfl,rfl,rfl,rfl,rfl,rfl⟩
 grind [l_]
def anH{a b c:Nat}(h:ob F L a b c=some P):∃(r1 R:Int) (m D:Bool),((r1=c+1/\R=c+2)\/(r1=c+2/\R=c+1))/\P=dK (dO (an L) b c 2) [iS b r1 m,iS b R D] a:=by
 have n:∀f j,uT L a b c f j=P->∃(r1 R:Int) (m D:Bool),((r1=c+1/\R=c+2)\/(r1=c+2/\R=c+1))/\P=dK _ [iS b r1 m,iS b R D] a:=λf j e=>by
  refine⟨_,_,_,_,?_,e.symm⟩
  grind
 grind [ob]
def azs{p:aN}{b:Int}{c:Int}:cW b (c+2) (-2) (cW b c 2 p)=p:=by
 unfold cW;cases h:p.l.kind==1 with
 |false=>simp[h]
 |true=>
  cases H:p.l.gate==b with
  |false=>simp[H]
  |true=>
   by_cases j:c<p.l.au
   .have f:decide (c<p.l.au)=true:=by rw[iJ];exact j
    have c3:decide (c+2<p.l.au+2)=true:=by rw[iJ];omega
    simp[f,c3,h,H,zK,if_true]
    grind
   grind
def arx(g:bj F L){a b c:Nat}(ha:a<I L)(hb:b<=F)(hc:c<=aV L b)(h:ob F L a b c=some P)(vX:dk (F:Int) (aY P)=0):∃A Q,A<I (aY P)/\n_ (aY P) A=some Q/\bj F (aY P)/\eV (aY Q) L:=by
 obtain⟨r1,R,m,D,N,rfl⟩:=anH h;have Y:∀p∈dK (dO (an L) b c 2) [iS b r1 m,iS b R D] a,p.l.ay=false->p.d=false:=λp hp y=>by
  have j:p∈dO (an L) b c 2->p.d=false:=λhm=>by obtain⟨z,hz,rfl⟩:=ch.1 hm;rw[Cq.1]at y;rw[Cq.2];exact qH hz y
  unfold dK at hp;simp only[gn,c7,eD,or_false]at hp;rcases hp with(hp|rfl|rfl)|hp
  .exact j (za hp)
  .cases y
  .cases y
  exact j (yP hp)
 obtain⟨cM,t1⟩:=Iw (OR g ha hb hc h) vX Y;have T:=(O2 (dO (an L) b c 2) [iS b r1 m,iS b R D] a).trans t1;have x:=xO (an L) (a+1);rw[show(dO (an L) b c 2).drop (a+1)++(dO (an L) b c 2).take (a+1)=((an L).drop (a+1)++(an L).take (a+1)).map (cW b c 2) by rw[fL,vv,sC]]at T;have uI:aq U.ay (aY (dK (dO (an L) b c 2) [iS b r1 m,iS b R D] a))=aq U.ay L+2:=by
  rw[<-Dl U.ay,<-Dl (f:=L) U.ay];show List.countP _ (List.map _ _)=List.countP _ (List.map _ _)+2;rw[qg,qg,<-T.perm.countP_eq,uu,qg,(x.perm.countP_eq _)]
  grind [U.ay,A5,Cq,iS]
 have jD:0<aq U.ay L:=by obtain⟨l,H,hp⟩:=g.first;exact zp.2 ⟨l,a7 H,hp⟩
 have aX:=x.len;rw[bY]at aX;generalize aY (dK (dO (an L) b c 2) [iS b r1 m,iS b R D] a)=X at*;generalize(an L).drop (a+1)++(an L).take (a+1)=w at*;obtain⟨A,n,H,B,h3⟩:=T.at2;rw[bY]at n B;have E:n_ X A=some (dO (oc (an X) λk _=>decide (k=A)||decide (k=(A+1)%I X)) b ((c:Int)+2) (-2)):=by
  unfold n_;simp only[dD,H,B,nM];have e1:j6 r1 R=(c:Int)+2:=by unfold j6;rcases N with⟨rfl,rfl⟩|⟨rfl,rfl⟩<;>split<;>omega
  have e2:rN r1 R=(c:Int)+1:=by unfold rN;rcases N with⟨rfl,rfl⟩|⟨rfl,rfl⟩<;>split<;>omega
  have e3:decide (aq U.ay X<=2)=false:=by rw[decide_eq_false_iff_not];omega
  show(if(((1:Int)==1)&&(((1:Int)==1)&&(((b:Int)==b)&&((j6 r1 R-rN r1 R==1)&& !(decide (aq U.ay X<=2)&&decide (0<aq U.ak X/2))))):Bool)=true then some (dO _ (b:Int) (j6 r1 R) (-2))else none)=_;rw[e1,e2,e3,aD];simp;omega
 obtain⟨u,v,k1,k2⟩:=IN (by rw[bY];exact n) (by rw[<-T.len];simp) h3;rw[bY]at k1;have M:c_ w (dO (oc (an X) λk _=>decide (k=A)||decide (k=(A+1)%I X)) b ((c:Int)+2) (-2)):=by rw[k1];have Z:c_ (w.map (cW b c 2)) (u++v):=⟨v,u,k2,rfl⟩;have O:=Z.map (cW b ((c:Int)+2) (-2));rw[h_]at O;rwa[show w.map (cW b ((c:Int)+2) (-2) ∘ cW b c 2)=w from(lq λp _=>azs).trans (List.map_id _)]at O
 refine⟨A,_,n,E,cM,?_⟩;rcases S3 cM n E with e|cQ
 .exfalso;have:=(x.trans M).len;rw[e,bY]at this;exact g.ne (Eh this)
 exact UQ g cQ (x.trans M)
def awH{b:Nat}(H:b<=F):gi F (nq b) ⟨1,0,0,0,false,false,0⟩=some []:=by
 unfold gi;have h:mg F (nq b) 1 (0:Int).toNat (0:Int).toNat (0:Int).toNat false false 0=some []:=by
  show n_ (nq b) 0=_;unfold n_;have f:(an (nq b)).getD 0 ⟨ij,false⟩=⟨⟨1,b,1,0,0,false⟩,c9 (nq b) 0⟩:=rfl;have j:(an (nq b)).getD ((0+1)%I (nq b)) ⟨ij,false⟩=⟨⟨1,b,2,0,0,false⟩,c9 (nq b) 1⟩:=rfl;simp only[f,j];rw[aD]
  .rfl
  simp[j6,rN,aq,U.ak]
 rw[h];show(if _<(I (nq b):Int)+(gL 1).1\/(100:Int)<((aq U.ak (nq b)/2:Nat):Int)+(gL 1).2 then none else some (aY []))=_;rw[aC]
 .rfl
 have E:gL 1=(0,0):=rfl
 grind
def Uh{l:U}{F:Int}(H:l.ay)(h:eo F l=false):l=⟨1,l.gate,l.au,0,0,false⟩:=by
 obtain _:=(lQ H).1 h;have j:l.kind=1:=by unfold U.ay at H;exact c8.1 H
 obtain⟨k,f,r,i,s,o⟩:=l
 grind
def aCk(g:bj F L){a:Nat}(D:a<I L)(h:n_ L a=some []):∃b,b<=F/\eV (nq b) L:=by
 obtain⟨x,y,r,s,e,B,z,c,hp,mZ,_,_,Z⟩:=GF g D;unfold n_ at h;have e1:(an L).getD a ⟨ij,false⟩=x.p:=by rw[dD,B];rfl
 have e2:(an L).getD ((a+1)%I L) ⟨ij,false⟩=y.p:=by rw[dD,z];rfl
 simp only[e1,e2]at h;split at h
 case isFalse=>cases h
 rename_i Y;simp only[cP,c8]at Y;obtain⟨A,n,j,_⟩:=Y;have H:I L=I r+2:=by have:=Z.length_eq;rw[yy]at this;simpa using this.symm
 obtain⟨u,v,k1,k2⟩:=IN (by rw[bY];exact D) (by rw[bY];omega) (by rw[mZ];rfl);rw[bY]at k1;have h:=kA h;rw[k1]at h;obtain⟨rfl,rfl⟩:=List.append_eq_nil_iff.1 (N3.1 h);rw[N3.1 k2]at H
 match L,H with
 |[l,m],_=>
  have QK:=a7 B;have ab:=a7 z;have ae:(x.p.l=l/\y.p.l=m)\/(x.p.l=m/\y.p.l=l):=by
   have D:a<2:=D;rcases(show a=0\/a=1 by omega)with rfl|rfl
   .left;exact⟨(kA ((rz B).1)).symm,(kA ((rz z).1)).symm⟩
   right;have q2:([l,m])[0]?=some y.p.l:=by have:=(rz z).1;rwa[show nx [l,m] 1=0 by simp[nx]]at this
   exact⟨(kA ((rz B).1)).symm,(kA q2).symm⟩
  have kl:l.ay/\m.ay/\l.gate=m.gate:=by
   rcases ae with⟨Q,N⟩|⟨Q,N⟩
   .rw[Q]at A j;rw[N]at n j;exact⟨by unfold U.ay;rw[A];rfl,by unfold U.ay;rw[n];rfl,j⟩
   rw[Q]at A j;rw[N]at n j;exact⟨by unfold U.ay;rw[n];rfl,by unfold U.ay;rw[A];rfl,j.symm⟩
  obtain⟨pl,M,T⟩:=kl;have f:=g.ok.ax.fA l aE pl;have O:=g.ok.ax.fA m aE M;have aO:l.au≠m.au:=λe=>by have:=g.ok.ax.inj 0 1 l m rfl rfl pl M ((Db f O).2 ⟨T,e⟩);cases this
  have Hk:aV [l,m] l.gate.toNat<=2:=vo _ _;have X:aV [l,m] m.gate.toNat<=2:=vo _ _;have b1:=f.r0;have b2:=f.r1;have b3:=O.r0;have b4:=O.r1;obtain⟨G,hG⟩:=ns f.g0;have E:=Uh pl (g.bad l aE);have em:=Uh M (g.bad m aE);rw[<-T]at em;rw[hG]at E em;refine⟨G,by have:=f.g1;omega,?_⟩;rcases(show(l.au=1/\m.au=2)\/(l.au=2/\m.au=1) by omega)with⟨r1,R⟩|⟨r1,R⟩
  .rw[r1]at E;rw[R]at em;rw[E,em];exact eV.refl _
  rw[r1]at E;rw[R]at em;rw[E,em];exact Sz (l:=[⟨1,G,2,0,0,false⟩,⟨1,G,1,0,0,false⟩])
end
def c_.axJ{l:aW}{a b:Nat}(u:a<I l)(n:b<I l)(D:a≠b):∃r1 R,r1≠[]/\R≠[]/\c_ l (r1++R)/\ ∀x y,c_ (x++r1++y++R) (if a<b then dK (dK l y b) x a else dK (dK l x a) y b):=by
 have j:∀ {a b:Nat},a<b->b<I l->∃A B bd,l=A++B++bd/\A≠[]/\B≠[]/\I A-1=a/\I (A++B)-1=b:=λ{a b} D n=>by
  refine⟨l.take (a+1),(l.drop (a+1)).take (b-a),l.drop (b+1),?_,?_,?_,?_,?_⟩
  .have v:l.drop (b+1)=(l.drop (a+1)).drop (b-a):=by rw[KS];congr 1;omega
   grind [jS]
  .grind [ga]
  .grind [ga]
  .rw[jO];omega
  grind
 have fin:∀ {A B bd:aW},A≠[]->B≠[]->∀p q,dK (dK (A++B++bd) q (I (A++B)-1)) p (I A-1)=A++p++B++q++bd:=λ{A B bd} H f p q=>by rw[B_ (A++B) bd q (by simp[H]),show A++B++q++bd=A++(B++q++bd) by simp,B_ A _ p H];simp
 rcases FI D with h|h
 .obtain⟨A,B,bd,rfl,H,f,E,m⟩:=j h n;refine⟨B,bd++A,f,by simp[H],⟨A,B++bd,aE,aE⟩,λx y=>?_⟩;rw[aD h,<-E,<-m,fin H f];exact⟨x++B++y++bd,A,aE,aE⟩
 obtain⟨A,B,bd,rfl,H,f,E,m⟩:=j h u;refine⟨bd++A,B,by simp[H],f,⟨A++B,bd,aE,aE⟩,λx y=>?_⟩;rw[aC J,<-E,<-m,fin H f];exact⟨x++bd,A++y++B,aE,aE⟩
section
variable {F:Nat} {L X:af} {P Q:aW}
def Ot{a b c sg:Int}{l o:Bool}:fC F L 7 a b c l o sg↔ ∃A B:Nat,A<I L/\B<I L/\A≠B/\a=A/\b=B/\c=0/\sg=0:=by
 unfold fC;simp only[Int.reduceEq,if_true,if_false,false_or,or_false,true_or,or_true,or_self,cP,ke,c8,mM,ne_eq];constructor
 .rintro ⟨rfl,j,rfl,H,D⟩
  obtain⟨A,rfl,h⟩:=jK j;obtain⟨B,rfl,f⟩:=jK H;exact⟨A,B,h,f,J,rfl,rfl,rfl,rfl⟩
 grind [l_]
def Q0(g:bj F X){p q a b:Nat}(pq:a≠b)(L:p<2*I X)(u:q<2*I X)(n:aU X p=q)(N:aU X q=p)(T:p/2=a)(E:q/2=b):sh F X 0 [a,b]:=by
 have inj:=(mE g.ok).inj;have j:∀d,d<2*I X->d<aT X:=λd hd=>by unfold aT;omega
 have O:p≠q:=λe=>pq (by rw[<-T,<-E,e]);obtain⟨w,H,v⟩:=RS (j p L);have f:=uY (mE g.ok) H v;rw[n]at f;obtain⟨Y,_⟩:=Nt g H;have hp:w.Perm [p,q]:=(Lu Y (by simp[O])).2 λz=>by
  simp only[c7,eD,or_false];constructor
  .intro R;refine(Lf g H (Q:=λt=>t=p\/t=q) (λt m=>⟨?_,?_⟩) v R).1 (.inl rfl)
   .rintro (h|h)
    .exact .inr (inj _ _ m (j q u) (h.trans N.symm))
    exact .inl (inj _ _ m (j p L) (h.trans n.symm))
   rintro(h|h)<;>rw[h]
   .exact .inr n
   exact .inl N
  rintro(rfl|rfl)<;>assumption
 unfold sh;rw[zr];refine⟨kY F X w,ch.2 ⟨w,H,rfl⟩,?_⟩;unfold ET;simp only[cP,c8,j4];rw[zM,Z8];have hf:=hp.filter λx=>decide (x<2*I X);have D:[p,q].filter (λx=>decide (x<2*I X))=[p,q]:=aca.2 λx y=>by simp only[c7,eD,or_false]at y;rcases y with rfl|rfl<;>simpa
 rw[D]at hf;refine⟨hf.length_eq,?_,λe A=>?_⟩
 .rw[(hp.map _).sum_nat];have B:ua F X p=0:=aD L;have Z:ua F X q=0:=aD u;simp only[eZ,m_,List.sum_cons,List.sum_nil,B,Z,uz]
 have M:∀z,z∈w.filter (λx=>decide (x<2*I X))↔z=p\/z=q:=λz=>by rw[hf.mem_iff];simp
 rw[decide_eq_decide.2 (M _),decide_eq_decide.2 (M _)];simp only[c7,eD,or_false]at A;have:(2*e=p\/2*e=q)↔ ¬(2*e+1=p\/2*e+1=q):=by rcases A with rfl|rfl<;>omega
 by_cases c:2*e+1=p\/2*e+1=q
 .rw[vg (λh=>this.1 h c),tV c];rfl
 rw[tV (this.2 c),vg c];rfl
def aCg(g:bj F X){a b:Nat}(Q:a<I X)(M:b<I X){f u L D:U}(k1:X[a]?=some f)(k2:X[nx X a]?=some u)(k3:X[b]?=some L)(k4:X[nx X b]?=some D)(c1:f.ak)(n:u.ak)(c3:L.ak)(c4:D.ak)
  (H:cM u= !cM f) (aO:f.id≠u.id) {v:Bool} (m:if v=true then L.id=u.id/\D.id=f.id else L.id=f.id/\D.id=u.id) (ho:f.over= !L.over) (Z:u.over= !D.over) (B:f.over=u.over):sh F X 0 [a,b]:=by
 have hn:0<I X:=J;have na:nx X a<I X:=cT _ hn;have nb:nx X b<I X:=cT _ hn;have back:∀e,e<I X->dS (I X) (nx X e) false=2*e+1:=λe j=>by show 2*((nx X e+I X-1)%I X)+1=_;unfold nx;rw[w8 j]
 have ov:∀ {x y:Bool},x= !y->x≠y:=λ{x y} h e=>by rw[e]at h;revert h;cases y<;>decide
 have N:a≠b:=λe=>by subst e;rw[k1]at k3;cases k3;exact ov ho rfl
 have Y:nx X a≠nx X b:=λe=>by rw[e,k4]at k2;cases k2;exact ov Z rfl
 cases v with
 |true=>
  simp only[if_true]at m;obtain⟨i1,i2⟩:=m;have R:a≠nx X b:=λe=>by rw[<-e,k1]at k4;cases k4;exact ov Z B.symm
  have T:nx X a≠b:=λe=>by rw[e,k3]at k2;cases k2;exact ov ho B
  have E:=uL g k1 k4 c1 c4 i2.symm R;have O:=uL g k2 k3 n c3 i1.symm T;obtain⟨A,_⟩:=xD g.ok k1 c1 k4 E;obtain⟨z,_⟩:=xD g.ok k2 n k3 O;cases j:cM f with
  |true=>
   rw[j]at H A;rw[H]at z;refine Q0 g (p:=2*a+1) (q:=2*b+1) N J J ?_ ?_ J J
   .rw[KH k1 c1,E,j,Ac,back b M]
   rw[KH k3 c3,uL g k3 k2 c3 n i1 T.symm,z];exact back a Q
  |false=>
   rw[j]at H A;rw[H]at z;refine Q0 g (p:=2*a) (q:=2*b) N J J ?_ ?_ J J
   .rw[Jo Q k2 n,O,H];rfl
   rw[Jo M k4 c4,uL g k4 k1 c4 c1 i2 R.symm,A];rfl
 |false=>
  simp only[fE,if_false]at m;obtain⟨i1,i2⟩:=m;have E:=uL g k1 k3 c1 c3 i1.symm N;have O:=uL g k2 k4 n c4 i2.symm Y;obtain⟨A,_⟩:=xD g.ok k1 c1 k3 E;obtain⟨z,_⟩:=xD g.ok k2 n k4 O;cases j:cM f with
  |true=>
   rw[j]at H A;rw[H]at z;refine Q0 g (p:=2*a) (q:=2*b+1) N J J ?_ ?_ J J
   .rw[Jo Q k2 n,O,H];exact back b M
   rw[KH k3 c3,uL g k3 k1 c3 c1 i1 N.symm,A];rfl
  |false=>
   rw[j]at H A;rw[H]at z;refine Q0 g (p:=2*a+1) (q:=2*b) N J J ?_ ?_ J J
   .rw[KH k1 c1,E,j];rfl
   rw[Jo M k4 c4,uL g k4 k2 c4 n i2 Y.symm,z];exact back a Q
def apd{a b:Nat}{l o:Bool}(h:s3 F L a b l o=some P):∃(f:Bool) (sg:Int),sg=(if o==(f==l)then 1 else -1)/\P=if a<b then dK (dK (an L) (j9 (aq U.ak L/2) sg o f) b) (j5 (aq U.ak L/2) sg o) a else dK (dK (an L) (j5 (aq U.ak L/2) sg o) a) (j9 (aq U.ak L/2) sg o f) b:=by
 have j:∀f other,uS L a b l o f other=some P->∃(f:Bool) (sg:Int),sg=(if o==(f==l)then 1 else -1)/\P=if a<b then dK (dK (an L) (j9 _ sg o f) b) (j5 _ sg o) a else dK (dK (an L) (j5 _ sg o) a) (j9 (aq U.ak L/2) sg o f) b:=λf other h=>by
  unfold uS at h;split at h
  .cases h
  exact⟨f,_,rfl,(kA h).symm⟩
 unfold s3 at h;split at h
 .exact j _ _ h
 exact j _ _ h
def aff{l:aW}{x y z:aN}{r:aW}{a:Nat}(H:a<I l)(h:l.drop a++l.take a=x::y::z::r):l[(a+2)%I l]?=some z:=by
 have f:(l.drop a++l.take a)[2]?=some z:=by rw[h];rfl
 grind [Je]
def axD(g:bj F L){a b:Nat}(ha:a<I L)(hb:b<I L)(dp:a≠b){l o:Bool}(h:s3 F L a b l o=some P)(vX:dk (F:Int) (aY P)=0):∃A B Q,A<B/\B<I (aY P)/\oY F (aY P) A B=some Q/\bj F (aY P)/\eV (aY Q) L:=by
 have fH:=Pq g ha hb dp h;obtain⟨f,sg,HH,rfl⟩:=apd h;obtain⟨r1,r2,kN,uN,t0,DP⟩:=c_.axJ (by rw[bY];exact ha) (by rw[bY];exact hb) dp;have t1:=DP (j5 (aq U.ak L/2) sg o) (j9 (aq U.ak L/2) sg o f);have O:∀p∈r1++r2,p∈an L:=λp hp=>t0.perm.mem_iff.2 hp;obtain⟨j,m,hS,jj,iK,qU⟩:∃j m:aN,j9 (aq U.ak L/2) sg o f=[j,m]/\(j.l.ak/\j.d=false/\j.l.over= !o)/\(m.l.ak/\m.d=false/\m.l.over= !o)/\if f=true then j.l.id=((aq U.ak L/2+2:Nat):Int)/\m.l.id=((aq U.ak L/2+1:Nat):Int)else j.l.id=((aq U.ak L/2+1:Nat):Int)/\m.l.id=((aq U.ak L/2+2:Nat):Int):=by
  cases f
  .exact⟨_,_,rfl,⟨rfl,rfl,rfl⟩,⟨rfl,rfl,rfl⟩,by rw[aC aa];exact⟨rfl,rfl⟩⟩
  exact⟨_,_,rfl,⟨rfl,rfl,rfl⟩,⟨rfl,rfl,rfl⟩,by rw[aD rfl];exact⟨rfl,rfl⟩⟩
 rw[hS]at t1 fH vX |-;generalize az:(if a<b then dK (dK (an L) [j,m] b) (j5 (aq U.ak L/2) sg o) a else dK (dK (an L) (j5 (aq U.ak L/2) sg o) a) [j,m] b)=P at*;have vG:∀p∈P,p.l.ay=false->p.d=false:=λp hp dx=>by
  have:=t1.perm.mem_iff.2 hp;simp only[gn,c7,eD,or_false]at this;rcases this with(((rfl|rfl)|hp)|(rfl|rfl))|hp
  .rfl
  .rfl
  .exact qH (O p (by simp[hp])) dx
  .exact jj.2.1
  .exact iK.2.1
  exact qH (O p (by simp[hp])) dx
 obtain⟨cM,t2⟩:=Iw fH vX vG;have t3:=t1.trans t2;generalize aY P=X at*;obtain⟨z,M,rfl⟩:=abZ kN;obtain⟨Z,Y,rfl⟩:=abZ uN;obtain⟨A,ko,ag,HQ,av⟩:=c_.at2 (by simpa using t3);obtain⟨B,o0,QV,Gh,ao⟩:=c_.at2 (x:=j) (y:=m) (s:=Z::Y++j5 (aq U.ak L/2) sg o++(z::M)) (by refine c_.trans ?_ t3;exact⟨j::m::Z::Y,j5 (aq U.ak L/2) sg o++(z::M),aE,aE⟩)
 have ad:=aff ko (by simpa using av);have ab:=aff o0 (by simpa using ao);rw[bY]at ko o0 HQ Gh ad ab;have T:=(rz ag).1;have am:=(rz HQ).1;have E:=(rz QV).1;have ac:=(rz Gh).1;have N:=(rz ad).1;have R:=(rz ab).1;have l7:sh F X 0 [A,B]:=by
  refine aCg cM ko o0 T am E ac rfl rfl jj.1 iK.1 ?_ ?_ (v:=f) ?_ ?_ ?_ rfl
  .show(o==(-sg==1))= !(o==(sg==1));rw[HH];cases o==(f==l)<;>cases o<;>rfl
  .show((_:Nat):Int)≠((_:Nat):Int);omega
  .cases f
   .rw[aC aa]at qU |-;exact qU
   rw[aD rfl]at qU |-;exact qU
  .rw[jj.2.2,yI]
  rw[iK.2.2,yI]
 have n:=λp hp D=>(xi g (O p hp) D).2;have aj:j.l.id=((aq U.ak L/2+1:Nat):Int)\/j.l.id=((aq U.ak L/2+2:Nat):Int):=by
  cases f
  .rw[aC aa]at qU;exact .inl qU.1
  rw[aD rfl]at qU;exact .inr qU.1
 have l1:=iP T;have l2:=iP am;have l3:=iP E;have l4:=iP ac;have kC:∀ {l:U},l.ak->l.kind=2:=λh=>by unfold U.ak at h;exact c8.1 h
 have bd:Gx F X A B:=by
  refine⟨?_,?_,?_,?_,⟨?_,?_⟩,?_⟩
  .rw[l1,l2,l3,l4];exact⟨rfl,rfl,kC jj.1,kC iK.1⟩
  .rw[l1,l2,l3,l4];exact⟨rfl,by rw[jj.2.2,iK.2.2],jj.2.2⟩
  .rw[l1,l2];show((_:Nat):Int)≠((_:Nat):Int);omega
  .rw[l1,l2,l3,l4];cases f
   .rw[aC aa]at qU;exact .inl qU
   rw[aD rfl]at qU;exact .inr qU
  .rw[NW];intro e;rw[e,E]at N;have:=n z aE (by rw[<-kA N];exact jj.1);rw[<-kA N]at this;rcases aj with h|h<;>omega
  .rw[NW];intro e;rw[e,T]at R;have:=n Z aE (by rw[<-kA R];rfl);rw[<-kA R]at this;have:((aq U.ak L/2+1:Nat):Int)<=((aq U.ak L/2:Nat):Int):=this;omega
  rw[Fu rfl ko];exact l7
 have left:∀(a b:Nat) (Q:aW),oY F X a b=some Q->((a=A/\b=B)\/(a=B/\b=A))->eV (aY Q) L:=λu v Q H D=>by
  have hu:u<I X/\v<I X:=by rcases D with⟨rfl,rfl⟩|⟨rfl,rfl⟩<;>exact⟨by assumption,by assumption⟩
  obtain⟨ids,Qk,rfl⟩:∃ids:cL,(∀i,i∈ids↔i=((aq U.ak L/2+1:Nat):Int)\/i=((aq U.ak L/2+2:Nat):Int))/\Q=jA (an X) ids:=by
   unfold oY at H;split at H
   case isFalse=>cases H
   refine⟨_,?_,(kA H).symm⟩;intro i;simp only[c7,eD,or_false];rcases D with⟨rfl,rfl⟩|⟨rfl,rfl⟩
   .rw[gU ag,gU HQ]
   rw[gU QV,gU Gh];cases f
   .rw[aC aa]at qU;rw[qU.1,qU.2]
   rw[aD rfl]at qU;rw[qU.1,qU.2,or_comm]
  have hi:∀i∈ids,((aq U.ak L/2:Nat):Int)<i:=λi hi=>by rcases(Qk i).1 hi with rfl|rfl<;>omega
  have t4:=t3.jA ids;refine UQ g (Vy cM hu.1 hu.2 H) (t0.trans ?_);have DV:∀ {p:aN},p.l.ak->(p.l.id=((aq U.ak L/2+1:Nat):Int)\/p.l.id=((aq U.ak L/2+2:Nat):Int))-> ¬(!((p.l.kind==2)&&ids.contains p.l.id))=true:=λD hd=>by rw[HM (kC D) ((Qk _).2 hd)];decide
  have ar:m.l.id=((aq U.ak L/2+1:Nat):Int)\/m.l.id=((aq U.ak L/2+2:Nat):Int):=by
   cases f
   .rw[aC aa]at qU;exact .inr qU.2
   rw[aD rfl]at qU;exact .inl qU.2
  have zj:(j5 (aq U.ak L/2) sg o++(z::M)++[j,m]++(Z::Y)).filter (λp=> !((p.l.kind==2)&&ids.contains p.l.id))=(z::M)++(Z::Y):=by
   rw[xK,xK,xK];have f1:(j5 (aq U.ak L/2) sg o).filter (λp=> !((p.l.kind==2)&&ids.contains p.l.id))=[]:=by
    refine List.filter_eq_nil_iff.2 λp hp=>?_;simp only[c7,eD,or_false]at hp;rcases hp with rfl|rfl
    .exact DV rfl (.inl rfl)
    exact DV rfl (.inr rfl)
   have f2:[j,m].filter (λp=> !((p.l.kind==2)&&ids.contains p.l.id))=[]:=by
    refine List.filter_eq_nil_iff.2 λp hp=>?_;simp only[c7,eD,or_false]at hp;rcases hp with rfl|rfl
    .exact DV jj.1 aj
    exact DV iK.1 ar
   rw[f1,f2,fB,ic,Ge λp hp=>WT g hi (O p (by simp only[gn];exact .inl hp)),Ge λp hp=>WT g hi (O p (by simp only[gn];exact .inr hp))]
  rw[yE (j5 (aq U.ak L/2) sg o++(z::M)++[j,m]++(Z::Y)),zj]at t4;rwa[(lq λp hp=>ad1 λD i hx=>by have:=(xi g (O p hp) D).2;have:=hi i hx;omega:((z::M)++(Z::Y)).map (jn ids)=((z::M)++(Z::Y)).map id),List.map_id]at t4
 have ap:A≠B:=λe=>by rw[e,l3]at l1;have:=jj.2.2;rw[l1]at this;have this:o= !o:=this;revert this;cases o<;>decide
 rcases FI ap with aw|aw
 .obtain⟨Q,H⟩:=Me.1 (M_.2 bd);exact⟨A,B,Q,aw,o0,H,cM,left _ _ Q H (.inl ⟨rfl,rfl⟩)⟩
 obtain⟨Q,H⟩:=Me.1 (M_.2 (bd.symm ko o0));exact⟨B,A,Q,aw,ko,H,cM,left _ _ Q H (.inr ⟨rfl,rfl⟩)⟩
end
def c_.MY{α:Type}(f:α->aN){r l:List α}(h:c_ r l)(n:r≠[]):∃k,k<I l/\l[k]?=r.getLast?/\l[(k+1)%I l]?=r.head?/\ ∀x,c_ (x++r.map f) (dK (l.map f) x k):=by
 obtain⟨u,v,rfl,rfl⟩:=h;have m:∀(u v:List α) x,u≠[]->dK ((u++v).map f) x (I u-1)=u.map f++x++v.map f:=λu v x H=>by rw[fL,<- @List.length_map _ _ u f];exact B_ (u.map f) (v.map f) x (by simp[H])
 by_cases j:v=[]
 .subst j;rw[ic]at n |-;have y:=Hc (v:=[]) n;have:=gy.2 n;rw[ic]at y;have z:=λx=>m u [] x n;simp only[ic,m_]at z;refine⟨I u-1,by rw[fB];omega,y,?_,λx=>?_⟩
  .rw[fB,show I u-1+1=I u by omega,w_,D4]
  rw[fB,z x];exact⟨x,u.map f,rfl,rfl⟩
 have:=gy.2 j;refine⟨I v-1,by rw[gb];omega,?_,?_,λx=>?_⟩
 .rw[Hc j,ES j]
 .rw[show I v-1+1=I v by omega];by_cases H:u=[]
  .subst H;simp[D4]
  have B:=gy.2 H;rw[eJ (by rw[gb];omega),qQ (cJ _),xt,T5 H,D4]
 rw[m v u x j];exact⟨x++u.map f,v.map f,aE,aE⟩
def T2{α:Type}(f:α->aN){A B bd:List α}(h:A≠[])(H:B≠[]):∃i j,i<j/\j<I (A++B++bd)/\(A++B++bd)[i]?=A.getLast?/\(A++B++bd)[j]?=B.getLast?/\ ∀p q,dK (dK ((A++B++bd).map f) q j) p i=A.map f++p++B.map f++q++bd.map f:=by
 have L:=gy.2 h;have n:=gy.2 H;have E:I (A++B)=I A+I B:=gb;refine⟨I A-1,I (A++B)-1,J,by rw[@List.length_append _ (A++B) _];omega,?_,?_,λp q=>?_⟩
 .grind
 .rw[Hc (by simp[h]),ES H]
 have m:=B_ ((A++B).map f) (bd.map f) q (by simp[h])
 grind
def c_.ash{α:Type}(f:α->aN){r1 R l:List α}(h:c_ (r1++R) l)(m:r1≠[])(H:R≠[]):∃a b,a<I l/\b<I l/\a≠b/\l[a]?=R.getLast?/\l[b]?=r1.getLast?/\ ∀x y,c_ (x++r1.map f++y++R.map f) (if a<b then dK (dK (l.map f) y b) x a else dK (dK (l.map f) x a) y b):=by
 obtain⟨u,v,e,rfl⟩:=h;rcases aaW.1 e with⟨w,rfl,rfl⟩|⟨w,rfl,rfl⟩
 .by_cases z:v=[]
  .subst z;rw[ic]at H |-;obtain⟨i,j,k1,k2,k3,k4,k7⟩:=T2 f m H;rw[ic]at k2 k3 k4 k7;rw[fB];refine⟨j,i,k2,J,J,k4,k3,λx y=>?_⟩;rw[aC J,k7 y x,m_,ic];exact⟨x,r1.map f++y++w.map f,aE,aE⟩
  obtain⟨i,j,k1,k2,k3,k4,k7⟩:=T2 f z m;rw[lf]at k2 k3 k4 k7;refine⟨i,j,J,k2,J,?_,k4,λx y=>?_⟩
  .rw[k3,ES z]
  rw[aD k1,k7 x y];exact⟨x++r1.map f++y++w.map f,v.map f,aE,aE⟩
 by_cases n:w=[]
 .subst n;rw[ic]at m |-;rw[fB];obtain⟨i,j,k1,k2,k3,k4,k7⟩:=T2 f H m;rw[ic]at k2 k3 k4 k7;refine⟨i,j,J,k2,J,k3,k4,λx y=>?_⟩;rw[aD k1,k7 x y,m_,ic];exact⟨x++u.map f++y,R.map f,aE,aE⟩
 obtain⟨i,j,k1,k2,k3,k4,k7⟩:=T2 f n H;refine⟨j,i,k2,J,J,k4,?_,λx y=>?_⟩
 .rw[k3,ES n]
 rw[aC J,k7 y x];exact⟨x++u.map f,w.map f++y++R.map f,aE,aE⟩
def afr:∀S:aG,∃M,∀s∈S,s<M
 |[]=>⟨0,λ_ h=>by cases h⟩
 |a::S=>by
  obtain⟨M,h⟩:=afr S;refine⟨M+a+1,λs ae=>?_⟩;rcases c7.1 ae with rfl|ae
  .omega
  have:=h s ae;omega
section
variable {F:Nat} {z:fG} {s:eN} {T B:Nat->Nat->Nat} {S:aG}
def fT.uniq(c:fT F z T B S)(g:bj F (aK z))(h:iR s z s)(ae:s.b=false){n:aG}(R:n.Nodup)(wit:∀u∈n,∃d,d<aT (aK z)/\ja z d=u)(hn:fW (aK z)<=I n)(hx:x<aT (aK z))(hy:y<aT (aK z))(e:ja z x=ja z y):ep (aK z) x=ep (aK z) y:=by
 refine Decidable.byContradiction λaO=>?_;have hl:I z<=1000000:=by
  have:=g.len
  grind
 obtain⟨M,D⟩:=afr n;have X:∀ {a b},a<aT (aK z)->b<aT (aK z)->ep (aK z) a=ep (aK z) b->ja z a=ja z b:=λ{a b} ha N O=>by obtain⟨w,v,j⟩:=zo g ha;obtain⟨w',L,f⟩:=zo g N;rw[<-O,v]at L;cases L;exact((Lf g (a7 v) (Q:=λt=>ja z a=ja z t) (λt E=>by rw[c.walk hl h ae E]) j f).1 rfl)
 have m:∀u∈M::n,∃d,(if ep (aK z) d=ep (aK z) x then M else ja z d)=u/\d<aT (aK z):=λu hu=>by grind
 obtain⟨W,Y,A⟩:=ZM (λa d h=>h.1) m;have:=ajG (mE g.ok) (φ:=λd=>if ep (aK z) d=ep (aK z) x then M else ja z d) (λd H=>by
  rw[DH g H,c.walk hl h ae H]) (λd H=>by
  obtain⟨_,_,h⟩:=A d H;exact h.2) (by
  rw[Y];refine rR.2 ⟨λZ=>?_,R⟩;exact absurd (D M Z) (Nat.lt_irrefl _))
 have hW:I W=I n+1:=by grind [cg]
 have:I W<=fW (aK z):=this;omega
def fT.place(c:fT F z T B S)(hl:I z<=1000000){g k:Nat}(h:g<=F)(y:k<=aV (aK z) g):(dr (aK z) g+k+I (aA (aK z))-1)%I (aA (aK z))<I (aA (aK z))/\ja z (2*I z+2*((dr (aK z) g+k+I (aA (aK z))-1)%I (aA (aK z))))=T g k/\ja z (2*I z+2*((dr (aK z) g+k+I (aA (aK z))-1)%I (aA (aK z)))+1)=B g k:=by
 have E:0<I (aA (aK z)):=by obtain⟨x,H,m⟩:=c.one;obtain⟨i,n⟩:=fK H;exact Ns (sB.2 ⟨_,Aa n,m⟩)
 have Y:=Bw c.uC;have Z:=pX (aK z) F;have O:=pX (aK z) g;have Q:dr (aK z) (g+1)<=dr (aK z) (F+1):=yR J;have n:=cT (dr (aK z) g+k+I (aA (aK z))-1) E;obtain⟨u,v⟩:=aP n;obtain⟨l,D,A,L⟩:=v7 (c.dg hl).ax v;obtain⟨x,H,rfl⟩:=CK D;have m:=c.pl x (a7 H) A;obtain⟨x1,R,X,x4⟩:=c.fA (a7 H) A;have M:(aA (aK z)).getD ((dr (aK z) g+k+I (aA (aK z))-1)%I (aA (aK z))) 0=u:=by rw[dD,v];rfl
 have j:∀f:Nat->Nat->Nat,(∀g,g<F->f g (aV (aK z) g)=f (g+1) 0)->f F (aV (aK z) F)=f 0 0->f x.k.gate.toNat x.k.au.toNat=f g k:=by
  intro f hf N;unfold dQ at L;by_cases c1:dr (aK z) g+k=0
  .rw[c1,jN,eJ J]at L;rw[Kf hf J (cJ _) J (cJ _) J,N];exact Kf hf (bZ _) h (bZ _) y (by show 0+0=_;omega)
  rw[show dr (aK z) g+k+I (aA (aK z))-1=(dr (aK z) g+k-1)+I (aA (aK z)) by omega,lg,eJ J]at L;exact Kf hf J h J y J
 refine⟨n,?_,?_⟩
 .rw[aaL M H,m.et];exact j T (λg h=>(c.gt g h).1) c.gz.1
 rw[VS M H,m.eb];exact j B (λg h=>(c.gt g h).2) c.gz.2
def fT.afv(c:fT F z T B S)(N:∀x∈z,x.k.ay=false->x.p.d=false):∃Z,c_ z Z/\aK Z=aY (z.map aQ.p)/\fT F Z T B S/\(∃s,iR s Z s/\s.b=false)/\Z.map aQ.p=an (aY (z.map aQ.p)):=by
 obtain⟨x,hx,hp,hd⟩:=c.down;have hP:∀y:aQ,y.k.ay=(y.p.l.kind==1):=λy=>rfl;obtain⟨j,M⟩:=fK hx;have R:=(bt.1 M).1;obtain⟨f,hf⟩:∃f,ue (z.map aQ.p)=some f:=by
  cases h:ue (z.map aQ.p)with
  |some f=>exact⟨f,rfl⟩
  |none=>
   have:=B6.1 h j (by simpa using R);rw[H4 (by rw[fz,M];rfl)]at this
   grind [Bi]
 have H:=AW hf;have O:f<I z:=by
  have:=CU hf
  simpa using this
 obtain⟨y,A⟩:=aP O;rw[H4 (by rw[fz,A];rfl)]at H;unfold Bi at H;rw[cP]at H;have wQ:z.drop f=y::z.drop (f+1):=by obtain⟨hl,e⟩:=bt.1 A;rw[<-e,ux]
 have E:aK (z.drop f++z.take f)=aY (z.map aQ.p):=by unfold aY;rw[hf,nM,Rg (by rw[cg];omega)];simp only[fL,vv,sC,h_];rfl
 have v:fT F (z.drop f++z.take f) T B S:=fT.mJ (by rw[jS];exact c);obtain⟨s,ae⟩:=v.path;have m:s.b=false:=by rw[wQ]at ae;have:=((c.ok y (a7 A)).pb H.1).2;rwa[ae.1,H.2]at this
 refine⟨z.drop f++z.take f,⟨z.take f,z.drop f,(jS f z).symm,rfl⟩,E,v,⟨s,ae,m⟩,?_⟩;rw[<-E];apply pk;intro i;by_cases Y:i<I (z.drop f++z.take f)
 .obtain⟨e,u⟩:=aP Y;have Q:e∈z:=by
   have:=a7 u;rcases gn.1 this with h|h
   .exact yP h
   exact za h
  have n:=Aa u;rw[fz,u,fX n];show some e.p=_;congr 1;have X:e.p.d=c9 (aK (z.drop f++z.take f)) i:=by
   unfold c9;rw[n];show e.p.d=(e.k.ay&&dn _ i);cases L:e.k.ay with
   |false=>exact N e Q L
   |true=>have D:=(Lm v.ok ae m i e u).1;rw[((c.ok e Q).pb L).2]at D;rw[EG];revert D;cases e.p.d<;>cases dn (aK (z.drop f++z.take f)) i<;>simp
  rw[<-X]
 rw[lS (by rw[cg];omega),lS (by rw[bY,cg];omega)]
end
section
variable {F:Nat} {f:af}
theorem aeH{g0 r to:Nat}(h:(x=g0/\y=r)\/(g0<x/\x<=to/\y=0)):(x,y)∈pD g0 r to:=by
 rcases h with⟨rfl,rfl⟩|⟨H,f,rfl⟩
 .exact Lz
 exact zY _ (ch.2 ⟨x-g0-1,gA.2 J,by rw[show g0+1+(x-g0-1)=x by omega]⟩)
def aeR(g:bj F f){b c j:Nat}(Y:b<=F)(hc:c<=aV f b)(n:(dr f b+c+I (aA f)-1)%I (aA f)=j):j<I (aA f)/\(b,c)∈mL F f j:=by
 have ok:=g.ok;have z:0<I (aA f):=by obtain⟨l,H,hp⟩:=g.first;exact Ns (sB.2 ⟨_,H,hp⟩)
 have D:j<I (aA f):=by rw[<-n];exact cT _ z
 refine⟨D,?_⟩;obtain⟨u,A⟩:=aP D;obtain⟨v,E⟩:=aP (cT (j+1) z);obtain⟨l,L,T,Q⟩:=v7 ok.ax A;obtain⟨m,B,N,M⟩:=v7 ok.ax E;obtain⟨a0,a1,a2,a3⟩:=ok.ax.fA l (a7 L) T;obtain⟨b0,X,b2,Z⟩:=ok.ax.fA m (a7 B) N;have hT:=Bw λl hl hp=>((lQ hp).1 (g.bad l hl)).1.1.1;have R:(aA f).getD j 0=u:=by rw[dD,A];rfl
 have ev:(aA f).getD ((j+1)%I (aA f)) 0=v:=by rw[dD,E];rfl
 unfold mL;simp only[R,ev,vU L,vU B,JS L];unfold dQ at Q M;have s1:=pX f l.gate.toNat;have s2:=pX f m.gate.toNat;have y9:=pX f b;have mono:∀ {x y:Nat},x<=y->dr f x<=dr f y:=λh=>yR h;have Mj:=mono (show b+1<=F+1 by omega);have fin:(dr f b+c=j+1)\/(j+1=I (aA f)/\dr f b+c=0):=by
  by_cases c1:dr f b+c=0
  .rw[c1,jN,eJ J]at n;right;omega
  rw[show dr f b+c+I (aA f)-1=(dr f b+c-1)+I (aA f) by omega,lg,eJ J]at n;left;omega
 have left:dr f b+c=j+1->(b=l.gate.toNat/\c=l.au.toNat)\/(l.gate.toNat<b/\c=0):=λh=>by
  rcases Jl b l.gate.toNat with H|H|H
  .have:=mono (show b+1<=l.gate.toNat by omega);omega
  .subst H;left;exact⟨rfl,J⟩
  have:=mono (show l.gate.toNat+1<=b by omega);right;exact⟨H,J⟩
 split
 .rename_i O;rw[eJ O]at M;rcases fin with h|⟨h,_⟩
  .refine aeH ?_
   grind
  omega
 grind [aeH]
def amw{p:Nat×Nat}(H:2*I f<=x)(hp:p∈mL F f ((x-2*I f)/2)):∀(w:aG) (j:dL),(p∈j.places\/x∈w)->p∈(w.foldl (dL.add F f) j).places:=by
 intro w
 induction w with
 |nil=>grind
 |cons y w m=>
  intro j h;refine m _ ?_;rcases h with h|h
  .grind [dL.add]
  rcases c7.1 h with rfl|h
  .left;unfold dL.add
   grind
  exact .inr h
def akW(g:bj F f){d b c:Nat}(m:d<2*I f)(u:b<=F)(A:c<=aV f b)(h:ep f d=if dn f (d/2+1)=true then fp f b c else fm f b c):(b,c)∈(gJ F f d).places:=by
 obtain⟨w,n,z,hf⟩:=U5 g m;obtain⟨E,M⟩:=aeR g u A rfl;obtain⟨i,v⟩:=fK n;have O:=BU g v z;have x:∀t,t<2->2*I f+2*((dr f b+c+I (aA f)-1)%I (aA f))+t<aT f:=λt H=>by unfold aT;omega
 obtain⟨t,H,y⟩:∃t,t<2/\2*I f+2*((dr f b+c+I (aA f)-1)%I (aA f))+t∈w:=by
  have j:∀t,t<2->ep f d=ep f (2*I f+2*((dr f b+c+I (aA f)-1)%I (aA f))+t)->2*I f+2*((dr f b+c+I (aA f)-1)%I (aA f))+t∈w:=λt H e=>by
   obtain⟨B,L,D⟩:=zo g (x t H)
   grind
  split at h
  .exact⟨0,J,j 0 J h⟩
  exact⟨1,J,j 1 J h⟩
 rw[hf];unfold kY;refine amw J ?_ w _ (.inr y)
 grind
end
section
variable {F:Nat} {L X:af} {P Q:aW}
def aam(g:bj F L){e:Nat}(v:e<I L):ep L (2*e)≠ep L (2*e+1):=λh=>by
 have H:∀d,d<2*I L->d<aT L:=λd u=>by unfold aT;omega
 obtain⟨w,f,n⟩:=zo g (H (2*e) J);obtain⟨x,j,m⟩:=zo g (H (2*e+1) J);rw[<-h,f]at j;cases j;exact adm g (H _ J) (a7 f) n (by rw[sf];exact m)
def aCn(g:bj F L){l:aW}(h:(an L).Perm l):l.Pairwise λp q=>p.l.ay=true->q.l.ay->p.l.gate=q.l.gate->p.l.au≠q.l.au:=by refine(h.pairwise_iff λ{p q} h a b c d=>h b a c.symm d.symm).1 ?_;rw[<-vA,vO];exact g.cz.rk
def R1{q:U->Bool}(h:(an L).Perm (z.map aQ.p)):aq q L=aq q (aK z):=by
 rw[<-Dl q];have:aK z=(z.map aQ.p).map aN.l:=by rw[h_];rfl
 rw[this];exact(h.map aN.l).countP_eq q
def ZE{k:Nat}{e:aQ}(h:z[k]?=some e):ja z (2*k)=e.o.l/\ja z (2*k+1)=e.o.r:=by grind [ja]
def aie{T B:Nat->Nat->Nat}{S:aG}(c:fT F z T B S){u:Nat}(H:u∈S):∃d,d<aT (aK z)/\ja z d=u:=by
 obtain⟨x,f,e⟩:=c.wit u H;obtain⟨k,h⟩:=fK f;obtain _:=ZE h
 grind
def axX{G:Int}{lo:Nat}{p:aN}(h:p.l.ay->p.l.gate=G->p.l.au≠(lo:Int)/\p.l.au≠(lo:Int)+1):cW G ((lo:Int)-1) 2 (cW G ((lo:Int)+1) (-2) p)=p:=by
 unfold cW;cases H:p.l.kind==1 with
 |false=>simp[H]
 |true=>
  cases f:p.l.gate==G with
  |false=>simp[f]
  |true=>
   obtain _:=h H (c8.1 f);by_cases m:(lo:Int)+1<p.l.au
   .have j:decide ((lo:Int)+1<p.l.au)=true:=by rw[iJ];exact m
    have c3:decide ((lo:Int)-1<p.l.au+ -2)=true:=by rw[iJ];omega
    simp[j,c3,H,f,zK,if_true]
    grind
   grind
def aBS(g:bj F L){a:Nat}(ha:a<I L)(h:n_ L a=some P)(aO:P≠[])(vX:dk (F:Int) (aY P)=0):∃a' b c Q,a'<I (aY P)/\b<=F/\c<=aV (aY P) b/\ob F (aY P) a' b c=some Q/\bj F (aY P)/\I (aY P)+2=I L/\aq U.ak (aY P)=aq U.ak L/\eV (aY Q) L:=by
 rcases agQ g ha h with h0|⟨x,y,r,lo,ψ,s,T,B,S,hP,mZ,⟨px,py⟩,⟨wT,JN,ao⟩,jf,ab,⟨Mo,ac⟩,JZ,Hk,HC,hz,aj,Qq,lE⟩
 .exact absurd h0 aO
 obtain⟨G,R⟩:=ns JN;rw[R]at hP HC hz Qq lE Hk;rw[js]at Qq lE Hk;have wM:G<=F:=J;have r0:c_ (an L) ((x::y::r).map aQ.p):=by rw[<-mZ];exact xO _ _
 have mX:=λw m=>r0.perm.mem_iff.2 (ch.2 ⟨w,m,rfl⟩);have mz:I L=I r+2:=by
  have:=r0.len;rw[bY,cg]at this
  simpa using this
 obtain⟨u,v,k1,k2⟩:=IN (by rw[bY];exact ha) (by rw[bY];omega) (by rw[mZ];rfl);rw[bY]at k1;obtain⟨rv,Y,hr,rfl,rfl⟩:=abx.1 k2;have Kl:((Y++rv).map (aQ.mp ψ (iZ (G:Int) ((lo:Int)+1) (-2)))).map aQ.p=P:=by rw[hP,k1,<-fL];show _=List.map _ (List.map _ _);rw[h_,h_];refine lq λw _=>?_;show _=cW (G:Int) ((lo:Int)+1) (-2) w.p;rw[Fz];rfl
 have tP:c_ (r.map (aQ.mp ψ (iZ (G:Int) ((lo:Int)+1) (-2)))) ((Y++rv).map (aQ.mp ψ (iZ (G:Int) ((lo:Int)+1) (-2)))):=by rw[hr];exact c_.map _ ⟨rv,Y,rfl,rfl⟩
 have O:fT F ((Y++rv).map (aQ.mp ψ (iZ (G:Int) ((lo:Int)+1) (-2)))) T B S:=by rw[fL];refine fT.mJ ?_;rw[<-fL,<-hr];exact hz
 have vG:∀e∈(Y++rv).map (aQ.mp ψ (iZ (G:Int) ((lo:Int)+1) (-2))),e.k.ay=false->e.p.d=false:=λe n hp=>by
  obtain⟨w,m,rfl⟩:=ch.1 n;have m:w∈r:=by rw[hr];simp only[gn]at m |-;exact m.symm
  have hp:(iZ (G:Int) ((lo:Int)+1) (-2) w.k).ay=false:=hp;rw[(sn _ _ _).ay]at hp;exact qH (p:=w.p) (mX w (by simp[m])) hp
 have Zo:∀p∈P,p.l.ay=false->p.d=false:=λp hp dx=>by rw[<-Kl]at hp;obtain⟨e,n,rfl⟩:=ch.1 hp;exact vG e n dx
 obtain⟨cM,_⟩:=Iw ⟨_,_,_,_,Kl,O⟩ vX Zo;obtain⟨z,t1,im,cz,⟨s0,mB,UH⟩,MG⟩:=O.afv vG;rw[Kl]at im MG;have t2:=tP.trans t1;have Mn:∀q:U->Bool,aq q (aY P)=aq q (aK (r.map (aQ.mp ψ (iZ (G:Int) ((lo:Int)+1) (-2))))):=λq=>by rw[<-im,vQ t2.perm]
 have cO:=(rB (n:=ψ) (h:=iZ (G:Int) ((lo:Int)+1) (-2)) (λl=>(sn _ _ _).ay l) r);have mG:aV (aK (r.map (aQ.mp ψ (iZ (G:Int) ((lo:Int)+1) (-2))))) G=aV (aK r) G:=rB (λl=>NG _ _ _ _ l) r;have lC:aq U.ak L=aq U.ak (aK r):=by rw[R1 r0.perm,fh,fh,(u4 px).1,(u4 py).1];omega
 have lP:aq U.ay L=aq U.ay (aK r)+2:=by rw[R1 r0.perm,fh,fh,(u4 px).2,(u4 py).2];omega
 have ag:aq U.ak (aY P)=aq U.ak L:=by rw[Mn,(rB (n:=ψ) (h:=iZ (G:Int) ((lo:Int)+1) (-2)) (λl=>(sn _ _ _).ak l) r),lC]
 have ar:aq U.ay (aY P)+2=aq U.ay L:=by rw[Mn,cO,lP]
 have H:aV (aY P) G=aV (aK r) G:=by rw[<-mG];exact Mn (jq G)
 have wN:I (aY P)=I r:=by rw[<-im,cg,<-t2.len,cg]
 generalize aY P=X at*;subst im;have l9:I z=I (aK z):=(cg ..).symm;obtain⟨k,hk,fq,_,DP⟩:=t2.MY (λe=>cW (G:Int) ((lo:Int)-1) 2 e.p) (by simp[JZ])
 obtain⟨e,n,heo⟩:∃e,z[k]?=some e/\e.o=s.mp ψ:=by obtain⟨e,n⟩:=aP hk;refine⟨e,n,?_⟩;rw[n,List.getLast?_eq_getElem?]at fq;exact Mv HC fq.symm
 obtain⟨q1,q2⟩:=ZE n;rw[heo]at q1 q2;obtain⟨p1,p2,p3⟩:=cz.place (by have:=cM.len;omega) (k:=lo-1) wM (by rw[H];omega);have hN:aT (aK z)=2*I z+2*I (aA (aK z)):=by unfold aT;rw[<-l9]
 have gH:dn (aK z) (k+1)=x.p.d:=by have:=(Lm cz.ok mB UH k e n).2;rw[heo]at this;have this:s.b= !dn (aK z) (k+1):=this;rw[ac]at this;revert this;cases x.p.d<;>cases dn (aK z) (k+1)<;>simp
 have ap:=cM.nw;have am:=g.nw;have uq:∀ {d d':Nat},d<aT (aK z)->d'<aT (aK z)->ja z d=ja z d'->ep (aK z) d=ep (aK z) d':=λ{d d'} hd ye ee=>by
  refine cz.uniq cM mB UH (rR.2 ⟨lE,cz.nd⟩) (λu hu=>?_) ?_ hd ye ee
  .rcases c7.1 hu with rfl|hu
   .cases x.p.d
    .exact⟨_,J,p2⟩
    exact⟨_,J,p3⟩
   exact aie cz hu
  rw[fP];omega
 have yq:ep (aK z) (if(x.p.d==(x.k.au==(lo:Int)))=true then 2*k+1 else 2*k)=if dn (aK z) (k+1)=true then fp (aK z) G (lo-1)else fm (aK z) G (lo-1):=by
  have qq:ja z (if(x.p.d==(x.k.au==(lo:Int)))=true then 2*k+1 else 2*k)=if x.p.d=true then T G (lo-1)else B G (lo-1):=by
   rw[<-Qq];split
   .exact q2
   exact q1
  have aw:(if(x.p.d==(x.k.au==(lo:Int)))=true then 2*k+1 else 2*k)<aT (aK z):=by split<;>omega
  rw[gH];unfold fp fm;rw[<-l9];cases hd:x.p.d<;>rw[hd]at qq aw
  .exact uq aw J (qq.trans p3.symm)
  exact uq aw J (qq.trans p2.symm)
 have a0:=Ln cM (d:=2*k) J;have a1:=Ln cM (d:=2*k+1) J;rw[show 2*k/2+1=k+1 by omega,gH]at a0;rw[show(2*k+1)/2+1=k+1 by omega,gH]at a1;have gY:(G,lo-1)∈(gJ F (aK z) (if(x.p.d==(x.k.au==(lo:Int)))=true then 2*k+1 else 2*k)).places:=by
  refine akW cM (by split<;>omega) wM (by rw[H];omega) ?_;rw[yq];have:(if(x.p.d==(x.k.au==(lo:Int)))=true then 2*k+1 else 2*k)/2+1=k+1:=by split<;>omega
  rw[this]
 have ad:((lo-1:Nat):Int)=(lo:Int)-1:=J;have ex:x.p=iS G x.k.au x.p.d:=by have:=Uh px (g.bad x.k (a7 (rz (fK (mX x aE)).choose_spec).1));rw[R]at this;unfold iS;rw[<-this]
 have ey:y.p=iS G y.k.au (!x.p.d):=by have:=Uh py (g.bad y.k (a7 (rz (fK (mX y aE)).choose_spec).1));rw[wT,R]at this;unfold iS;rw[<-this,<-Mo]
 have Z:ob F (aK z) k G (lo-1)=some (dK (dO (an (aK z)) G ((lo-1:Nat):Int) 2) [x.p,y.p] k):=by
  have fin:∀(f:dL) (j:Bool),f.gT=x.p.d->j=(x.p.d==(x.k.au==(lo:Int)))->uT (aK z) k G (lo-1) f j=dK (dO (an (aK z)) G ((lo-1:Nat):Int) 2) [x.p,y.p] k:=λf j h1 h2=>by
   unfold uT;rw[h1,h2,ex,ey];have E:(x.p.d !=(x.p.d==(x.k.au==(lo:Int))))= !(x.k.au==(lo:Int)):=by cases x.p.d<;>cases(x.k.au==(lo:Int))<;>rfl
   have ed:∀(r:Int) (d:Bool),(iS G r d).d=d:=λ_ _=>rfl;rw[ed,E];rcases ab with⟨A,D⟩|⟨A,D⟩
   .rw[A,D,sv];have e2:((lo-1+1:Nat):Int)=(lo:Int):=J;have e3:((lo-1+2:Nat):Int)=(lo:Int)+1:=J;simp only[Ac,fE,if_false,e2,e3]
   have e0:(((lo:Int)+1)==(lo:Int))=false:=by rw[mM];omega
   rw[A,D,e0];have e2:((lo-1+1:Nat):Int)=(lo:Int):=J;have e3:((lo-1+2:Nat):Int)=(lo:Int)+1:=J;simp only[E5,if_true,e2,e3]
  unfold ob;cases F8:(x.p.d==(x.k.au==(lo:Int)))with
  |false=>rw[F8]at gY;rw[aD (show(G,lo-1)∈(gJ F (aK z) (2*k)).places from gY),fin _ false a0 F8.symm]
  |true=>
   rw[F8]at gY yq;have eI:(G,lo-1)∉(gJ F (aK z) (2*k)).places:=λhm=>by have E:=K0 cM J hm;rw[show 2*k/2+1=k+1 by omega,<-yq]at E;exact aam cM J E
   rw[aC eI];rw[aD (show(G,lo-1)∈(gJ F (aK z) (2*k+1)).places from gY),fin _ true a1 F8.symm]
 refine⟨k,G,lo-1,_,J,wM,by rw[H];omega,Z,cM,J,ag,?_⟩;refine UQ g (OR cM J wM (by rw[H];omega) Z) (r0.trans ?_);have t3:=DP [x.p,y.p];have E:z.map (λe=>cW (G:Int) ((lo:Int)-1) 2 e.p)=dO (an (aK z)) G ((lo-1:Nat):Int) 2:=by rw[<-MG,ad];show _=List.map _ (List.map _ _);rw[h_];rfl
 rw[E]at t3;have pw:=aCn g r0.perm;have e2:(r.map (aQ.mp ψ (iZ (G:Int) ((lo:Int)+1) (-2)))).map (λe=>cW (G:Int) ((lo:Int)-1) 2 e.p)=r.map aQ.p:=by
  rw[h_];refine lq λw m=>?_;show cW (G:Int) ((lo:Int)-1) 2 ⟨iZ (G:Int) ((lo:Int)+1) (-2) w.p.l,w.p.d⟩=w.p;rw[<-Fz];refine axX λhp hg=>?_;rw[eZ,eZ]at pw;obtain⟨d1,d2⟩:=iN.1 pw;obtain⟨d3,_⟩:=iN.1 d2;have N:=d1 w.p (zY _ (ch.2 ⟨w,m,rfl⟩)) px hp (by rw[hg];exact R);have M:=d3 w.p (ch.2 ⟨w,m,rfl⟩) py hp (by rw[hg,<-R];exact wT);have N:=N;have M:=M;rcases ab with⟨A,D⟩|⟨A,D⟩
  .rw[A]at N;rw[D]at M;exact⟨N.symm,M.symm⟩
  rw[A]at N;rw[D]at M;exact⟨M.symm,N.symm⟩
 rw[e2]at t3;exact t3
end
section
variable {F:Nat} {L X:af} {P Q:aW}
def ar9{l:U}(h:l.sign=1\/l.sign= -1):(if(l.over==cM l)=true then(1:Int)else -1)=l.sign:=by grind [cM]
def arZ{x y:U}(j:x.sign=1\/x.sign= -1)(f:y.sign=1\/y.sign= -1)(h:x.over=y.over)(H:cM x= !cM y):y.sign= -x.sign:=by grind [cM]
def ac9(g:bj F X){a b:Nat}(O:a<I X)(z:b<I X){j f:Bool}{o:Bool}{sg:Int}(D:sg=if(o==j)=true then(1:Int)else -1)(h:ep X (if(j==f)=true then 2*a else 2*a+1)=ep X (if j=true then 2*b else 2*b+1)):
  s3 F X a b (j==f) o=some (if a<b then dK (dK (an X) (j9 (aq U.ak X/2) sg o f) b) (j5 (aq U.ak X/2) sg o) a else dK (dK (an X) (j5 (aq U.ak X/2) sg o) a) (j9 (aq U.ak X/2) sg o f) b):=by
 have A:pR F X (2*a)=ep X (2*a):=vn g J;have B:pR F X (2*a+1)=ep X (2*a+1):=vn g J;have M:pR F X (2*b)=ep X (2*b):=vn g J;have L:pR F X (2*b+1)=ep X (2*b+1):=vn g J;have N:=aam g z;have Q:∀ {m n:Nat},m≠n->((m:Int)==(n:Int))=false:=λh=>by rw[mM];omega
 have y:∀ {m n:Nat},m=n->((m:Int)==(n:Int)):=λh=>by rw[h];exact sv _
 have u:∀other:Bool,(f\/other)->uS X a b (j==f) o f other=some (if a<b then dK (dK (an X) (j9 (aq U.ak X/2) sg o f) b) (j5 (aq U.ak X/2) sg o) a else dK (dK (an X) (j5 (aq U.ak X/2) sg o) a) (j9 (aq U.ak X/2) sg o f) b):=λother x=>by
  unfold uS;have E:(f==(j==f))=j:=by cases j<;>cases f<;>rfl
  rw[aC (by rcases x with h|h<;>rw[h]<;>simp)];simp only[E,<-D]
 unfold s3;rw[A,B,M,L];cases v:j<;>cases H:f<;>rw[v,H]at h<;>rw[v,H]at u
 .grind
 .have h:ep X (2*a+1)=ep X (2*b+1):=h;rw[aC aa,y h.symm];exact u _ (.inl rfl)
 .grind
 have h:ep X (2*a)=ep X (2*b):=h;rw[aD (by rfl),y h.symm];exact u _ (.inl rfl)
def Ke{F:Int}{p:aN}{h:Int->Int}(m:p.l.ak)(j:eo F p.l=false)(H:p.d=false){n k:Nat}(u:h p.l.id=((n+k:Nat):Int)){sg:Int}{o:Bool}(ae:p.l.sign=sg)(f:p.l.over=o):cN h p=qe n k sg o:=by grind [LX,cN,dd]
def auW(g:bj F L){a b:Nat}(ha:a<I L)(hb:b<I L)(h:oY F L a b=some P)(vX:dk (F:Int) (aY P)=0):∃(E D:Nat) (l o:Bool) (Q:aW),E<I (aY P)/\D<I (aY P)/\E≠D/\s3 F (aY P) E D l o=some Q/\bj F (aY P)/\I (aY P)+4=I L/\aq U.ak (aY P)+4=aq U.ak L/\eV (aY Q) L:=by
 obtain⟨x,y,u,v,c1,n,ψ,s,s2,T,B,S,hP,mZ,⟨ib,jB⟩,⟨cx,cy,cu,cv⟩,⟨Ru,aw,Nq⟩,iO,It,wS,⟨p1,p2⟩,hz,aH,m,N,ie⟩:=ale g ha hb h;have r0:c_ (an L) ((x::y::(c1++u::v::n)).map aQ.p):=by rw[<-mZ];exact xO _ _
 have mX:=λw H=>r0.perm.mem_iff.2 (ch.2 ⟨w,H,rfl⟩);have ya:=λw H=>g.bad w.p.l (a7 (rz (fK (mX w H)).choose_spec).1);have mz:I L=I c1+I n+4:=by have:=r0.len;rw[bY,cg]at this;simp only[fP,gb]at this;omega
 have FV:(u.k.id=x.k.id\/u.k.id=y.k.id)/\(v.k.id=x.k.id\/v.k.id=y.k.id):=by
  cases m
  .rw[aC aa]at N;exact⟨.inl N.1.1,.inr N.1.2⟩
  rw[aD rfl]at N;exact⟨.inr N.1.1,.inl N.1.2⟩
 obtain⟨E1,zU,hE,ao,ap⟩:=abx.1 mZ.symm;have zj:(x::y::(c1++u::v::n)).filter (λe=> !((e.p.l.kind==2)&&[x.k.id,y.k.id].contains e.p.l.id))=c1++n:=by
  have ag:∀w:aQ,w.k.ak->(w.k.id=x.k.id\/w.k.id=y.k.id)-> ¬(!((w.p.l.kind==2)&&[x.k.id,y.k.id].contains w.p.l.id))=true:=λw H hi=>by
   rw[HM (c8.1 H) (by simp only[c7,eD,or_false];exact hi)]
   decide
  have keep:∀w∈c1++n,(!((w.p.l.kind==2)&&[x.k.id,y.k.id].contains w.p.l.id)):=λw H=>by
   cases Y:(w.p.l.kind==2)
   .rfl
   obtain⟨n1,n2⟩:=It w H Y;simp[n1,n2]
  have ab:∀(w:aQ) (t:fG),w.k.ak->(w.k.id=x.k.id\/w.k.id=y.k.id)->(w::t).filter (λe=> !((e.p.l.kind==2)&&[x.k.id,y.k.id].contains e.p.l.id))=t.filter (λe=> !((e.p.l.kind==2)&&[x.k.id,y.k.id].contains e.p.l.id)):=λw t H hi=>Dd (ag w H hi);have all:∀t:fG,(∀w∈t,w∈c1++n)->t.filter (λe=> !((e.p.l.kind==2)&&[x.k.id,y.k.id].contains e.p.l.id))=t:=λt ht=>Ge λw H=>keep w (ht w H);rw[ab x _ cx (.inl rfl),ab y _ cy (.inr rfl),xK,ab u _ cu FV.1,ab v _ cv FV.2,all c1 (λw H=>Fy _ H),all n (λw H=>uX _ H)]
 rw[hE,xK]at zj;generalize ql:E1.filter (λe=> !((e.p.l.kind==2)&&[x.k.id,y.k.id].contains e.p.l.id))=f1 at zj;generalize An:zU.filter (λe=> !((e.p.l.kind==2)&&[x.k.id,y.k.id].contains e.p.l.id))=f2 at zj;have Kl:((f2++f1).map (aQ.mp ψ (gq [x.k.id,y.k.id]))).map aQ.p=P:=by
  have e1:an L=(zU++E1).map aQ.p:=by rw[fL,ao,ap,jS]
  have e2:((zU++E1).map aQ.p).filter (λp=> !((p.l.kind==2)&&[x.k.id,y.k.id].contains p.l.id))=(f2++f1).map aQ.p:=by rw[Ui,<-ql,<-An,<-xK];rfl
  rw[hP,yE,e1,e2,h_,h_];refine lq λw _=>?_;show _=jn [x.k.id,y.k.id] w.p;rw[Wp];rfl
 have tP:c_ ((c1++n).map (aQ.mp ψ (gq [x.k.id,y.k.id]))) ((f2++f1).map (aQ.mp ψ (gq [x.k.id,y.k.id]))):=by rw[<-zj];exact c_.map _ ⟨f1,f2,rfl,rfl⟩
 have ad:fT F ((f2++f1).map (aQ.mp ψ (gq [x.k.id,y.k.id]))) T B S:=by rw[fL];refine fT.mJ ?_;rw[<-fL,zj];exact hz
 have gY:∀w∈c1++n,w∈x::y::(c1++u::v::n):=λw H=>by simp only[c7,gn]at H |-;rcases H with h|h<;>simp[h]
 have vG:∀e∈(f2++f1).map (aQ.mp ψ (gq [x.k.id,y.k.id])),e.k.ay=false->e.p.d=false:=λe he hp=>by obtain⟨w,H,rfl⟩:=ch.1 he;have hp:(gq [x.k.id,y.k.id] w.k).ay=false:=hp;rw[(yY _).ay]at hp;exact qH (p:=w.p) (mX w (gY w (by rw[<-zj];simp only[gn]at H |-;exact H.symm))) hp
 have Zo:∀p∈P,p.l.ay=false->p.d=false:=λp hp dx=>by rw[<-Kl]at hp;obtain⟨e,he,rfl⟩:=ch.1 hp;exact vG e he dx
 obtain⟨R,_⟩:=Iw ⟨_,_,_,_,Kl,ad⟩ vX Zo;obtain⟨Z,t1,im,cz,⟨s0,mB,UH⟩,MG⟩:=ad.afv vG;rw[Kl]at im MG;have t2:=tP.trans t1;have Mn:∀q:U->Bool,aq q (aY P)=aq q (aK ((c1++n).map (aQ.mp ψ (gq [x.k.id,y.k.id])))):=λq=>by rw[<-im,vQ t2.perm]
 have cO:=(rB (n:=ψ) (h:=gq [x.k.id,y.k.id]) (λl=>(yY _).ay l) (c1++n));have lC:aq U.ak L=aq U.ak (aK (c1++n))+4:=by rw[R1 r0.perm,fh,fh,qj,fh,fh,qj,(kW cx).1,(kW cy).1,(kW cu).1,(kW cv).1];omega
 have lP:aq U.ay L=aq U.ay (aK (c1++n)):=by rw[R1 r0.perm,fh,fh,qj,fh,fh,qj,(kW cx).2,(kW cy).2,(kW cu).2,(kW cv).2];omega
 have aF:aq U.ak (aY P)+4=aq U.ak L:=by rw[Mn,(rB (n:=ψ) (h:=gq [x.k.id,y.k.id]) (λl=>(yY _).ak l) (c1++n)),lC]
 have a0:aq U.ay (aY P)=aq U.ay L:=by rw[Mn,cO,lP]
 have wN:I (aY P)+4=I L:=by rw[<-im,cg,<-t2.len,cg,gb];omega
 generalize aY P=X at*;subst im;have l9:I Z=I (aK Z):=(cg ..).symm;rw[fL]at t2;obtain⟨E,D,ko,o0,aj,ka,kb,DP⟩:=t2.ash aQ.p (by simp[ib]) (by simp[jB]);have O:∀ {k:Nat}{r:fG}{e0 e1:eN},k<I Z->Z[k]?=r.getLast?->iR e0 r e1->ja Z (2*k)=e1.l/\ja Z (2*k+1)=e1.r:=λ{k r e0 e1} Y Hu hp=>by obtain⟨e,he⟩:=aP Y;rw[he,List.getLast?_eq_getElem?]at Hu;have:=ZE he;rwa[Mv hp Hu.symm]at this
 obtain⟨av,az⟩:=O ko ka p2;obtain⟨Rh,Ri⟩:=O o0 kb p1;have hN:aT (aK Z)=2*I Z+2*I (aA (aK Z)):=by unfold aT;rw[<-l9]
 have aX:=R.nw;have aO:=g.nw;have yq:ep (aK Z) (if(cM x.k==m)=true then 2*E else 2*E+1)=ep (aK Z) (if cM x.k=true then 2*D else 2*D+1):=by
  refine cz.uniq R mB UH cz.nd (λu hu=>aie cz hu) J (by split<;>omega) (by split<;>omega) ?_;have e1:ja Z (if(cM x.k==m)=true then 2*E else 2*E+1)=if(cM x.k==m)=true then(s.mp ψ).l else(s.mp ψ).r:=by
   split
   .exact av
   exact az
  have e2:ja Z (if cM x.k=true then 2*D else 2*D+1)=if cM x.k=true then(s2.mp ψ).l else(s2.mp ψ).r:=by
   split
   .exact Rh
   exact Ri
  rw[e1,e2];exact ie
 have sx:=(LX cx (ya x aE)).2;have sR:=arZ sx ((LX cy (ya y aE)).2) Ru wS;have kM:=ac9 R J J (ar9 sx).symm yq;refine⟨E,D,_,_,_,J,J,aj,kM,R,wN,aF,?_⟩;have cQ:=Pq R J J aj kM;generalize am:(if E<D then dK (dK (an (aK Z)) (j9 (aq U.ak (aK Z)/2) x.k.sign x.k.over m) D) (j5 (aq U.ak (aK Z)/2) x.k.sign x.k.over) E else dK (dK (an (aK Z)) (j5 (aq U.ak (aK Z)/2) x.k.sign x.k.over) E) (j9 (aq U.ak (aK Z)/2) x.k.sign x.k.over m) D)=Q at*;have hK:aq U.ak (aK Z)/2+2=aq U.ak L/2:=J;have idx:=xi g (mX x aE) cx;have aM:=xi g (mX y aE) cy;have iO:x.p.l.id≠y.p.l.id:=iO
 let f:Int->Int:=λid=>if id=x.p.l.id then((aq U.ak (aK Z)/2+1:Nat):Int)else if id=y.p.l.id then((aq U.ak (aK Z)/2+2:Nat):Int)else id-(if x.p.l.id<id then 1 else 0)-(if y.p.l.id<id then 1 else 0)
 have iL:f x.p.l.id=((aq U.ak (aK Z)/2+1:Nat):Int):=aD rfl;have fy:f y.p.l.id=((aq U.ak (aK Z)/2+2:Nat):Int):=by show(if _ then _ else _)=_;rw[aC (Ne.symm iO),aD rfl]
 refine SE g (h:=f) ?_ cQ ?_
 .intro w H t ht kw kt e;obtain⟨i,hi⟩:=fK H;obtain⟨j,hj⟩:=fK ht;have bu:=xi g (a7 (fX hi)) (by rw[A9];simp[kw]);have bv:=xi g (a7 (fX hj)) (by rw[A9];simp[kt]);simp only at bu bv;have e:(if w.id=x.p.l.id then((aq U.ak (aK Z)/2+1:Nat):Int)else if w.id=y.p.l.id then((aq U.ak (aK Z)/2+2:Nat):Int)else w.id-(if x.p.l.id<w.id then 1 else 0)-(if y.p.l.id<w.id then 1 else 0))=(if t.id=x.p.l.id then((aq U.ak (aK Z)/2+1:Nat):Int)else if t.id=y.p.l.id then((aq U.ak (aK Z)/2+2:Nat):Int)else t.id-(if x.p.l.id<t.id then 1 else 0)-(if y.p.l.id<t.id then 1 else 0)):=e;clear DP am kM cQ yq ie N
  by_cases q1:w.id=x.p.l.id<;>by_cases q2:w.id=y.p.l.id<;>by_cases q3:t.id=x.p.l.id<;>by_cases q4:t.id=y.p.l.id<;>simp only[q1,q2,q3,q4,if_true,if_false]at e<;>(repeat' split at e)<;>omega
 refine(r0.map _).trans ?_;have t3:=DP (j5 (aq U.ak (aK Z)/2) x.k.sign x.k.over) (j9 (aq U.ak (aK Z)/2) x.k.sign x.k.over m);rw[MG,am]at t3;refine Eq.mp (congrArg (λz=>c_ z _) ?_) t3;have dC:=λw H hc=>qH (mX w H) (kJ hc);have A:u∈x::y::(c1++u::v::n):=aE;have M:v∈x::y::(c1++u::v::n):=aE;have ex:=Ke cx (ya x aE) (dC x aE cx) iL rfl rfl;have ey:=Ke cy (ya y aE) (dC y aE cy) fy sR Ru.symm;have ou:u.k.over= !x.k.over:=by revert Nq;cases x.k.over<;>cases u.k.over<;>simp
 have MO:v.k.over= !x.k.over:=by rw[<-aw];exact ou
 have ar:[cN f u.p,cN f v.p]=j9 (aq U.ak (aK Z)/2) x.k.sign x.k.over m:=by
  cases ae:m
  .rw[ae,aC aa]at N;obtain⟨⟨i1,i2⟩,g1,g2⟩:=N;rw[Ke cu (ya u A) (dC u A cu) (by rw[show u.p.l.id=x.p.l.id from i1];exact iL) g1 ou,Ke cv (ya v M) (dC v M cv) (by rw[show v.p.l.id=y.p.l.id from i2];exact fy) (g2.trans sR) MO];rfl
  rw[ae,aD rfl]at N;obtain⟨⟨i1,i2⟩,g1,g2⟩:=N;rw[Ke cu (ya u A) (dC u A cu) (by rw[show u.p.l.id=y.p.l.id from i1];exact fy) (g1.trans sR) ou,Ke cv (ya v M) (dC v M cv) (by rw[show v.p.l.id=x.p.l.id from i2];exact iL) g2 MO];rfl
 have ac:∀c:fG,(∀w∈c,w∈c1++n)->(c.map (aQ.mp ψ (gq [x.k.id,y.k.id]))).map aQ.p=(c.map aQ.p).map (cN f):=λc hc=>by
  rw[h_,h_];refine lq λw H=>?_;show(⟨gq [x.k.id,y.k.id] w.p.l,w.p.d⟩:aN)=⟨dd f w.p.l,w.p.d⟩;congr 1;cases Y:w.p.l.kind==2 with
  |false=>unfold gq dd;rw[Y];rfl
  |true=>
   obtain⟨n1,n2⟩:=It w (hc w H) Y;have h2:gq [x.k.id,y.k.id] w.p.l={w.p.l with id:=(gq [x.k.id,y.k.id] w.p.l).id}:=by unfold gq;rw[Y];rfl
   rw[h2,U6 (p:=x.k.id) (q:=y.k.id) Y rfl];unfold dd;rw[Y];simp only[if_true];congr 1;show _=(if _ then _ else _);rw[aC n1,aC n2]
 rw[ac c1 (λw H=>Fy _ H),ac n (λw H=>uX _ H),<-ar,show j5 (aq U.ak (aK Z)/2) x.k.sign x.k.over=[cN f x.p,cN f y.p] by rw[ex,ey]];simp
end
def H6(k:Int):Int:=if k=1\/k=4\/k=6\/k=9 then k+1 else if k=2\/k=5\/k=7\/k=10 then k-1 else if k=3\/k=8 then k else 0
section
variable {F:Nat} {L X:af}
def art(h0:dk (F:Int) L=0){m:dJ}(h:gi F L m=some X):∃m' Z,m'.k=H6 m.k/\gi F X m'=some Z/\eV Z L:=by
 obtain⟨k,a,b,c,l,o,sg⟩:=m;by_cases N:L=[]
 .subst N;unfold gi at h;rw[aD rfl]at h;split at h
  case isFalse=>cases h
  rename_i u;cases h;have hk:k=2:=by
   refine Decidable.byContradiction λhk=>?_;have hz:∀i:Int,l_ (I ([]:af)) i=false:=λi=>by grind [l_]
   unfold fC at u;simp only[hz,aC hk,IM,Q6]at u;revert u;repeat' split
   all_goals exactλh=>by cases h
  subst hk;obtain⟨E,T,cv,_,y,_,rfl,rfl,rfl,rfl,rfl,rfl⟩:=C5.1 u;exact⟨⟨1,0,0,0,false,false,0⟩,[],rfl,awH y,eV.refl _⟩
 obtain⟨G,eG,g⟩:=Ci h0 N;have:F=G:=J;subst this;obtain⟨z,u,P,v,rfl,z1,z2⟩:=akr g h;simp only at u v z1 z2;have ac:=g.len;have eS:=g.cr;have fin:aY P≠[]->bj F (aY P):=λN=>by obtain⟨G,e1,g'⟩:=Ci z N;have:F=G:=J;subst this;exact g'
 have f:∀(cM:bj F (aY P)) {m:dJ}{Q:aW},(gL m.k)=(0,0)->fC F (aY P) m.k m.a m.b m.c m.l m.o m.s->mg F (aY P) m.k m.a.toNat m.b.toNat m.c.toNat m.l m.o m.s=some Q->gi F (aY P) m=some (aY Q):=λcM {m Q} hg u hQ=>by
  have j:=cM.len;have H:=cM.cr;refine Om cM u hQ ?_ ?_
  .rw[hg];show(I (aY P):Int)+0<=400;omega
  rw[hg];show((aq U.ak (aY P)/2:Nat):Int)+0<=100;omega
 have qp:k=1\/k=2\/k=3\/k=4\/k=5\/k=6\/k=7\/k=8\/k=9\/k=10:=by grind [fC]
 rcases qp with rfl|rfl|rfl|rfl|rfl|rfl|rfl|rfl|rfl|rfl
 .obtain⟨E,x,rfl,rfl,rfl,rfl,rfl,rfl⟩:=(t_ (.inl rfl)).1 u;have v:=v;by_cases R:P=[]
  .subst R;obtain⟨b,y,he⟩:=aCk g x v;refine⟨⟨2,0,b,0,false,false,0⟩,nq b,rfl,?_,he⟩;have ab:fC F [] 2 0 b 0 false false 0:=C5.2 ⟨0,b,0,.inr ⟨rfl,rfl⟩,y,bZ _,rfl,rfl,rfl,rfl,rfl,rfl⟩;show(if fC F [] 2 0 (b:Int) 0 false false 0=true then some (nq (b:Int).toNat)else none)=_;rw[aD ab];rfl
  obtain⟨A,b,c,Q,j,H,n,D,cM,O,h6,h7⟩:=aBS g x v R z;refine⟨⟨2,A,b,c,false,false,0⟩,aY Q,rfl,Om cM (C5.2 ⟨A,b,c,.inl j,H,n,rfl,rfl,rfl,rfl,rfl,rfl⟩) D ?_ ?_,h7⟩
  .show(I (aY P):Int)+2<=400;omega
  show((aq U.ak (aY P)/2:Nat):Int)+0<=100;omega
 .obtain⟨E,T,cv,x,y,hc,rfl,rfl,rfl,rfl,rfl,rfl⟩:=C5.1 u;have hp:=gy.2 N;obtain⟨A,Q,j,H,cM,n⟩:=arx g J y hc v z;exact⟨⟨1,A,0,0,false,false,0⟩,aY Q,rfl,f cM rfl ((t_ (.inl rfl)).2 ⟨A,j,rfl,rfl,rfl,rfl,rfl,rfl⟩) H,n⟩
 .obtain⟨E,T,M,y,rfl,rfl,rfl,rfl,rfl,rfl⟩:=(Ch (.inl rfl)).1 u;obtain⟨A,B,Q,j,H,n,D⟩:=aoq g M y v z;exact⟨EH 3 A B,aY Q,rfl,f (fin (List.ne_nil_of_length_pos J)) rfl ((Ch (.inl rfl)).2 ⟨A,B,j,H,rfl,rfl,rfl,rfl,rfl,rfl⟩) n,D⟩
 .obtain⟨E,x,rfl,rfl,rfl,rfl,rfl,rfl⟩:=(t_ (.inr (.inl rfl))).1 u;obtain⟨A,s',Y,j,H,cM,n,D,O⟩:=aso g x v z;refine⟨⟨5,A,0,0,false,Y,s'⟩,aY (oo (aY P) A s' Y),rfl,Om cM (MP.2 ⟨A,j,rfl,rfl,rfl,rfl,H⟩) rfl ?_ ?_,O⟩
  .show(I (aY P):Int)+2<=400;omega
  show((aq U.ak (aY P)/2:Nat):Int)+1<=100;omega
 .obtain⟨E,x,rfl,rfl,rfl,rfl,ae⟩:=MP.1 u;cases v;obtain⟨A,Q,j,H,cM,n⟩:=av1 g x ae z;exact⟨⟨4,A,0,0,false,false,0⟩,aY Q,rfl,f cM rfl ((t_ (.inr (.inl rfl))).2 ⟨A,j,rfl,rfl,rfl,rfl,rfl,rfl⟩) H,n⟩
 .obtain⟨E,T,M,y,rfl,rfl,rfl,rfl,rfl,rfl⟩:=(Ch (.inr rfl)).1 u;obtain⟨A,B,l',Y,Q,j,H,n,D,cM,O,h6,h7⟩:=auW g J y v z;refine⟨⟨7,A,B,0,l',Y,0⟩,aY Q,rfl,Om cM (Ot.2 ⟨A,B,j,H,n,rfl,rfl,rfl,rfl⟩) D ?_ ?_,h7⟩
  .show(I (aY P):Int)+4<=400;omega
  show((aq U.ak (aY P)/2:Nat):Int)+2<=100;omega
 .obtain⟨E,T,x,y,M,rfl,rfl,rfl,rfl⟩:=Ot.1 u;obtain⟨A,B,Q,j,H,n,cM,D⟩:=axD g x y M v z;exact⟨EH 6 A B,aY Q,rfl,f cM rfl ((Ch (.inr rfl)).2 ⟨A,B,j,H,rfl,rfl,rfl,rfl,rfl,rfl⟩) n,D⟩
 .obtain⟨E,T,cv,M,Cr,hc,rfl,rfl,rfl,rfl,rfl,rfl⟩:=Pf.1 u;obtain⟨A,B,c',Q,j,H,n,D,O⟩:=ayh g M Cr hc v z;exact⟨Mf 8 A B c',aY Q,rfl,f (fin (List.ne_nil_of_length_pos J)) rfl (Pf.2 ⟨A,B,c',j,H,n,rfl,rfl,rfl,rfl,rfl,rfl⟩) D,O⟩
 .obtain⟨E,x,rfl,rfl,rfl,rfl,rfl,rfl⟩:=(t_ (.inr (.inr (.inl rfl)))).1 u;obtain⟨A,Q,j,H,cM,n⟩:=atE g x v z;exact⟨⟨10,A,0,0,false,false,0⟩,aY Q,rfl,f cM rfl ((t_ (.inr (.inr (.inr rfl)))).2 ⟨A,j,rfl,rfl,rfl,rfl,rfl,rfl⟩) H,n⟩
 obtain⟨E,x,rfl,rfl,rfl,rfl,rfl,rfl⟩:=(t_ (.inr (.inr (.inr rfl)))).1 u;obtain⟨A,Q,j,H,cM,n⟩:=arG g x v z;exact⟨⟨9,A,0,0,false,false,0⟩,aY Q,rfl,f cM rfl ((t_ (.inr (.inr (.inl rfl)))).2 ⟨A,j,rfl,rfl,rfl,rfl,rfl,rfl⟩) H,n⟩
end
section
variable {F:Nat} {f:af}
def bj.pos(g:bj F f):0<I f:=gy.2 g.ne
def ahp(h:okB F f m):fC F f m.k m.a m.b m.c m.l m.o m.s/\ ∃M,mg F f m.k m.a.toNat m.b.toNat m.c.toNat m.l m.o m.s=some M:=by
 obtain⟨M,H⟩:=Ws.1 h;unfold sE at H;split at H
 .rename_i n;refine⟨n,?_⟩;cases j:mg F f m.k m.a.toNat m.b.toNat m.c.toNat m.l m.o m.s with
  |none=>rw[j]at H;exact absurd H.symm (ahy aa)
  |some L=>exact⟨L,rfl⟩
 grind
def axs(g:bj F f)(y:m.k=3\/m.k=6\/m.k=8)(h:okB F f m){N:fM}(n:US F f m.k N):m∈N/\ ∃a b c:Nat,a<I f/\b<I f/\c<I f/\(m.k=8\/c=0)/\m=⟨m.k,a,b,c,false,false,0⟩:=by
 obtain⟨k,a,b,c,l,o,sg⟩:=m;obtain⟨u,P,H⟩:=ahp h;have hp:=g.pos;simp only at u H n y |-;rcases y with rfl|rfl|rfl
 .obtain⟨A,B,D,v,rfl,rfl,rfl,rfl,rfl,rfl⟩:=(Ch (.inl rfl)).1 u;have H:rb F f A B=some P:=H;unfold rb at H;split at H
  case isFalse=>cases H
  rename_i j;simp only[cP]at j;exact⟨aiP D j.2.2.2.2 (n.2 (.inl rfl) A J) aa,A,B,0,J,v,hp,.inr rfl,rfl⟩
 .obtain⟨A,B,D,v,rfl,rfl,rfl,rfl,rfl,rfl⟩:=(Ch (.inr rfl)).1 u;have H:oY F f A B=some P:=H;unfold oY at H;split at H
  case isFalse=>cases H
  rename_i j;simp only[cP]at j;exact⟨aiP D j.2.2.2.2.2 (n.2 (.inr (.inl rfl)) A J) aa,A,B,0,J,v,hp,.inr rfl,rfl⟩
 obtain⟨A,B,x,D,E,z,rfl,rfl,rfl,rfl,rfl,rfl⟩:=Pf.1 u;have H:sk F f A B x=some P:=H;unfold sk at H;split at H
 case isFalse=>cases H
 rename_i j;unfold JM at j;simp only[cP]at j;exact⟨aw8 D E j.2.2.2.2.2 (n.2 (.inr (.inr rfl)) A J),A,B,x,J,J,z,.inl rfl,rfl⟩
def asw{k b c:Nat}(h:(b,c)∈(gJ F f (2*k)).places\/(b,c)∈(gJ F f (2*k+1)).places):((b:Int),(c:Int))∈E3 F f k:=by
 unfold E3;rw[aw1,(aay oG _).mem_iff];refine ch.2 ⟨(b,c),?_,rfl⟩;rcases h with h|h
 .exact pK.2 ⟨0,aE,h⟩
 exact pK.2 ⟨1,aE,h⟩
end
def H5(F:Nat):fM:=(List.range (F+1)).map λi=>⟨2,0,(i:Nat),0,false,false,0⟩
def afH(F:Nat):cO (H5 F)=vT (F+1):=by rw[cO,H5,h_];rfl
def akV(F:Nat):I (H5 F)=F+1:=by simp[H5]
def SV(F:Nat)(k:Int):fM:=if k=2 then H5 F else []
def VA(F:Nat):SV F 2=H5 F:=aD rfl
def WW{F:Nat}{k:Int}(h:k≠2):SV F k=[]:=aC h
structure VE (F:Nat) (X:af) (k:Int) (ms:fM):Prop where
 len:I ms<=200000000
 opn:aL S 20 [eU F X] (x_ (eK F X) (.int .i64 0))
 cnd:aL S 53 [.one (.p (eK F X)),aI k] (.one (cU iG 7 (cO ms)))
 dos:∀m∈ms,(∃e:Int,e≠0/\gi F X m=none/\aL S 21 [.one (.p (eK F X)),jL m.k m.a m.b m.c m.l m.o m.s] (oX e))\/ ∃M,gi F X m=some M/\aL S 21 [.one (.p (eK F X)),jL m.k m.a m.b m.c m.l m.o m.s] (mQ F M)
 all:∀m,m.k=k->(gi F X m).isSome->m∈ms
 kd:∀m∈ms,m.k=k
section
variable {F:Nat} {X:af}
def Z5(g:bj F X)(m:dJ):(∃e:Int,e≠0/\gi F X m=none/\sE F X m.k m.a m.b m.c m.l m.o m.s=oX e)\/ ∃M,gi F X m=some M/\sE F X m.k m.a m.b m.c m.l m.o m.s=mQ F M:=by
 unfold gi sE;rw[aC g.ne];cases f:fC F X m.k m.a m.b m.c m.l m.o m.s with
 |false=>exact .inl ⟨2,aa,rfl,rfl⟩
 |true=>
  rw[aD rfl,aD rfl];cases H:mg F X m.k m.a.toNat m.b.toNat m.c.toNat m.l m.o m.s with
  |none=>exact .inl ⟨4,aa,rfl,rfl⟩
  |some M=>
   unfold ui;dsimp only;by_cases h:(400:Int)<(I X:Int)+(gL m.k).1\/(100:Int)<((aq U.ak X/2:Nat):Int)+(gL m.k).2
   .rw[aD h,aD h];exact .inl ⟨7,aa,rfl,rfl⟩
   rw[aC h,aC h];exact .inr ⟨_,rfl,rfl⟩
def Xb(g:bj F X)(m:dJ):okB F X m=(gi F X m).isSome:=by
 rcases Z5 g m with⟨e,n,f,H⟩|⟨M,f,H⟩
 .rw[f];cases h:okB F X m with
  |false=>rfl
  |true=>obtain⟨M,j⟩:=Ws.1 h;rw[H]at j;exact absurd j.symm (ahy n)
 rw[f,Ws.2 ⟨M,H⟩];rfl
def aoj(g:bj F X){f:Int->fM}(bd:Tc F X f){k:Nat}(O:k<10)(m:dJ)(Z:m.k=((k+1:Nat):Int))(h:(gi F X m).isSome):m∈f ((k+1:Nat):Int):=by
 have E:okB F X m:=by rw[Xb g];exact h
 have u:∀n:Int,n=3\/n=6\/n=8->m.k=n->m∈f n:=λn L e=>by subst e;exact(axs g L E (bd.three _ L).2.1).1
 obtain⟨H,M,j⟩:=ahp E;obtain⟨n,a,b,c,l,o,sg⟩:=m;simp only at Z H j;subst Z;have one:∀ {q:Int},(q=1\/q=4\/q=9\/q=10)->fC F X q a b c l o sg->(⟨q,a,b,c,l,o,sg⟩:dJ)∈f q:=λ{q} D H=>by obtain⟨A,v,rfl,rfl,rfl,rfl,rfl,rfl⟩:=(t_ D).1 H;rw[bd.one _ D];exact ch.2 ⟨A,gA.2 v,rfl⟩
 rcases k with _|_|_|_|_|_|_|_|_|_|k
 .exact one (.inl rfl) H
 .obtain⟨A,B,z,v,y,Q,rfl,rfl,rfl,rfl,rfl,rfl⟩:=C5.1 H;have hp:=g.pos;have x:A<I X:=J;show _∈f 2;rw[bd.two];have j:ob F X A B z=some M:=j;refine pK.2 ⟨A,gA.2 x,ch.2 ⟨((B:Int),(z:Int)),asw ?_,rfl⟩⟩;unfold ob at j;split at j
  .rename_i h;exact .inl h
  split at j
  .rename_i h;exact .inr h
  cases j
 .exact u 3 (.inl rfl) rfl
 .exact one (.inr (.inl rfl)) H
 .obtain⟨A,v,rfl,rfl,rfl,rfl,ae⟩:=MP.1 H;show _∈f 5;rw[bd.five];refine pK.2 ⟨A,gA.2 v,?_⟩;rcases ae with rfl|rfl<;>cases o
  .exact ch.2 ⟨1,aE,rfl⟩
  .exact ch.2 ⟨3,aE,rfl⟩
  .exact ch.2 ⟨0,aE,rfl⟩
  exact ch.2 ⟨2,aE,rfl⟩
 .exact u 6 (.inr (.inl rfl)) rfl
 .obtain⟨A,B,v,y,N,rfl,rfl,rfl,rfl⟩:=Ot.1 H;show _∈f 7;rw[bd.seven];refine pK.2 ⟨A,gA.2 v,pK.2 ⟨B,gA.2 y,?_⟩⟩;unfold yv;rw[aC (Ne.symm N)];cases l<;>cases o
  .exact ch.2 ⟨0,aE,rfl⟩
  .exact ch.2 ⟨1,aE,rfl⟩
  .exact ch.2 ⟨2,aE,rfl⟩
  exact ch.2 ⟨3,aE,rfl⟩
 .exact u 8 (.inr (.inr rfl)) rfl
 .exact one (.inr (.inr (.inl rfl))) H
 .exact one (.inr (.inr (.inr rfl))) H
 omega
def arX(g:bj F X){k:Nat}(h:k<10):∃u,VE F X ((k+1:Nat):Int) u:=by
 obtain⟨f,bd⟩:=acO g g.pos;refine⟨f ((k+1:Nat):Int),bd.len k h,abm g,bd.pev k h,λm _=>?_,aoj g bd h,bd.kind h⟩;have j:=aat g m.k m.a m.b m.c m.l m.o m.s;rcases Z5 g m with⟨e,v,n,H⟩|⟨M,n,H⟩
 .rw[H]at j;exact .inl ⟨e,v,n,j⟩
 rw[H]at j;exact .inr ⟨M,n,j⟩
def arW(h:(gi F [] m).isSome):fC F [] m.k m.a m.b m.c m.l m.o m.s:=by
 unfold gi at h;rw[aD rfl]at h;split at h
 .assumption
 cases h
def asP(v:F<=40){k:Nat}(y:k<10):∃M,VE F [] ((k+1:Nat):Int) M:=by
 have X:∀i:Nat,i<=F->fC F [] 2 0 i 0 false false 0:=λi f=>C5.2 ⟨0,i,0,.inr ⟨rfl,rfl⟩,f,bZ _,rfl,rfl,rfl,rfl,rfl,rfl⟩;have OV:∀i:Nat,i<=F->gi F [] ⟨2,0,i,0,false,false,0⟩=some (nq i):=λi f=>by show(if fC F [] 2 0 (i:Int) 0 false false 0=true then some (nq (i:Int).toNat)else none)=_;rw[aD (X i f)];rfl
 have n:∀m∈SV F ((k+1:Nat):Int),((k+1:Nat):Int)=2/\ ∃i:Nat,i<=F/\m=⟨2,0,i,0,false,false,0⟩:=λm j=>by
  by_cases H:((k+1:Nat):Int)=2
  .rw[H,VA]at j;obtain⟨i,f,rfl⟩:=ch.1 j;exact⟨H,i,by have:=gA.1 f;omega,rfl⟩
  rw[WW H]at j;cases j
 refine⟨SV F ((k+1:Nat):Int),?_,S1 v,?_,λm j=>?_,λm z h=>?_,λm j=>by obtain⟨e,i,_,rfl⟩:=n m j;exact e.symm⟩
 .by_cases H:((k+1:Nat):Int)=2
  .rw[H,VA,akV];omega
  rw[WW H];exact bZ _
 .by_cases H:((k+1:Nat):Int)=2
  .rw[H,VA,afH];exact ah3 v
  rw[WW H];exact ai5 (by simpa using H)
 .obtain⟨_,i,f,rfl⟩:=n m j;exact .inr ⟨nq i,OV i f,Xt f⟩
 have u:=arW h;obtain⟨A,a,b,c,l,o,sg⟩:=m;simp only at z u;obtain⟨B,rfl,rfl,rfl,x,rfl,rfl,rfl,rfl⟩:=ZY u;rw[<-z,VA];exact ch.2 ⟨B,gA.2 J,rfl⟩
def axV(h:dk (F:Int) X=0){k:Nat}(H:k<10):∃m,VE F X ((k+1:Nat):Int) m:=by
 by_cases A:X=[]
 .subst A;unfold dk at h;rw[aC aa]at h;by_cases hf:(F:Int)<0\/40<(F:Int)
  .rw[aD hf]at h;cases h
  exact asP J H
 obtain⟨G,e,g⟩:=Ci h A;have:F=G:=J;subst this;exact arX g H
def Ic(F:Nat)(X Y:af)(m:dJ):Bool:=match gi F X m with
 |some Z=>decide (gV Z=gV Y)
 |none=>false
def UX{Y Z:af}(h:gi F X m=some Z):Ic F X Y m=decide (gV Z=gV Y):=by unfold Ic;rw[h]
def aBH{Y:af}(h:gi F X m=none):Ic F X Y m=false:=by unfold Ic;rw[h]
def akc{α:Type}{q:α->Bool}{a:α}:∀ {l:List α},l.find? q=some a->∃j:Nat,l[j]?=some a/\q a/\ ∀(i:Nat) (b:α),i<j->l[i]?=some b->q b=false
 |[],h=>by cases h
 |x::l,h=>by
  rw[List.find?_cons]at h;cases H:q x with
  |true=>rw[H]at h;cases h;exact⟨0,rfl,H,λi b u=>J⟩
  |false=>
   rw[H]at h;obtain⟨j,v,m,n⟩:=akc h;refine⟨j+1,v,m,λi b u f=>?_⟩;rcases i with _|i
   .cases f;exact H
   exact n i b J f
def an7{A B:af}(H:aq U.ay A%2=0)(h:eV A B):gV A=gV B:=by unfold gV;rw[aBL H h]
end
end Go.Abs
