/- A part. -/
import Derived.Test.YtpfkjhlcoghioaaGreatDoorWf
import Derived.Test.YtpfkjhlcoghioaaGreatDoorWe
set_option linter.all false
open List renaming length->I
set_option maxRecDepth 100000
set_option maxHeartbeats 16000000
namespace Go.Abs
variable{x m:U}{y h z:ae}{u v F:Nat}{A:Nat->eN}{L:bK}{f:Int->Int}
section
variable{j n:Nat}
def auC:∀(L M:cT),L.Nodup->(∀x∈L,x∈M)->I L<=I M:=by
 intro L
 induction L with
 |nil=>intro M _ _;exact bj _
 |cons a L f=>
  intro M j af;obtain⟨m,h⟩:=qQ.1 j;have:=f (M.erase a) h λx H=>(RN ii).2 (af x mt)
  grind
def SB:∀l:cT,(jO l).Nodup:=by
 intro l
 induction l with
 |nil=>exact pW
 |cons a l f=>grind [jO,AA]
def amH{l:cT}:I (jO l)=I l->l.Nodup:=by
 induction l with
 |nil=>intro _;exact pW
 |cons a l f=>
  have h:=auC _ _ (SB l) λx H=>AA.1 H
  grind [jO]
def ay8{p:aQ->Bool}{l:bK}{i:Nat}{x y:aQ}(h:l[i]?=some x):(l.set i y).countP p+(if p x then 1 else 0)=l.countP p+(if p y then 1 else 0):=by grind
section
variable {F:Nat} {h:ae}
theorem Hh{l:bK}(hl:I l=I h){e:Nat}(H:e<I h)(A:e≠nx h e)(p:aQ->Bool):(ig h l e).countP p=l.countP p:=by
 have f:nx h e<I h:=dB _ J
 grind [ig]
theorem Eh(g:aU F h){e:Nat}(f:e<I h):e≠nx h e:=by
 have H:2<=I h:=by
  obtain _:=g.first;have:=g.even
  grind
 unfold nx;by_cases c:e+1<I h
 .rw[fC c];omega
 rw[show e+1=I h by omega,yN];omega
def EM(p:U->Bool):aq p ((aJ h).map aQ.l)=aq p h:=by
 have:(aJ h).map aQ.l=h:=by
  have H:=jG h;rw[<-H];have e:aO (fj h)=((fj h).map aR.p).map aQ.l:=by rw[kU];rfl
  rw[H,<-vH,<-e,H]
 rw[this]
def wW(g:aU F h){i:Nat}{l:U}(hl:h[i]?=some l)(H:h[j]?=some m)(f:l.au)(M:m.au)(e:l.id=m.id)(v:i≠j):iV h i=j:=by
 obtain⟨_,hp⟩:=g.ids;obtain _:=hp i j l m hl H f M e v;obtain⟨B,w,n,x,u,wo,y⟩:=qy g.ok.cr hl f;refine Classical.byContradiction λA=>?_;have D:=(hp _ _ w m n H x M (by rw[u,e]) A).1
 grind
def apE(g:aU F h){w:aD}(m:w∈eX (aT h) (aX h)){p q r:Nat}(hp:p∈w)(H:q∈w)(v:r∈w)(pq:p≠q)(pr:p≠r)(Q:q≠r)(j:p<aX h)(L:q<aX h)(f:r<aX h)
  (E:aT h p=p\/aT h p=q\/aT h p=r) (R:aT h q=p\/aT h q=q\/aT h q=r) (N:aT h r=p\/aT h r=q\/aT h r=r):
  (aT h p=q/\aT h q=r/\aT h r=p)\/(aT h p=r/\aT h r=q/\aT h q=p):=by
 have inj:=(nc g.ok).inj;have i1:aT h p≠aT h q:=λe=>pq (inj _ _ j L e);have i2:aT h p≠aT h r:=λe=>pr (inj _ _ j f e);have i3:aT h q≠aT h r:=λe=>Q (inj _ _ L f e);have one:∀x y,x∈w->y∈w->x≠y->x<aX h->aT h x≠x:=λx y A u n B e=>by have:=T4 g m (λt z=>⟨λD=>inj _ _ z B (by rw[D,e]),λD=>by rw[D,e]⟩) A u;exact n (this.1 rfl).symm
 have O:=one p q hp H pq j;have T:=one q p H hp (Ne.symm pq) L;have M:=one r p v hp (Ne.symm pr) f;omega
def abP{d i:Nat}:(i≠b_ n d/\i≠cA n d)↔(i≠d/2/\i≠(d/2+1)%n):=by
 unfold b_ cA
 grind
def Uo{d:Nat}(h:d/2≠u/2/\d/2≠(u/2+1)%n/\(d/2+1)%n≠u/2/\(d/2+1)%n≠(u/2+1)%n):b_ n d≠b_ n u/\b_ n d≠cA n u/\cA n d≠b_ n u/\cA n d≠cA n u:=by grind [b_,cA]
def ZW{d:Nat}(h:d/2≠(d/2+1)%n):b_ n d≠cA n d:=by
 unfold b_ cA
 grind
def om (f:Bool)(s:eN):eN:=if f then s else mv s
theorem R2(f:Bool)(x:aR):(iL f x).b=if f then x.i.b else x.o.b:=by cases f<;>rfl
theorem R6(f:Bool)(x:aR):(km f x).b=if f then x.o.b else x.i.b:=by cases f<;>rfl
def Qi{P:bK}{d:Nat}{f:eN}(m:I P=I h)(v:d<2*I h)(H:A (d/2)=om (cH d) f)(u:A ((d/2+I h-1)%I h)=kX h ((d/2+I h-1)%I h))(n:A (nx h (d/2))=kX h (nx h (d/2))):
  iL (cH d) (df P A (b_ (I h) d))=iL (cH d) (eQ h (b_ (I h) d))/\km (cH d) (df P A (b_ (I h) d))=f/\iL (cH d) (df P A (cA (I h) d))=f/\km (cH d) (df P A (cA (I h) d))=km (cH d) (eQ h (cA (I h) d)):=by
 unfold iL km df eQ b_ cA;unfold cH at H |-;rw[m];rcases rN d with j|j
 case' _=>simp[j]at H |-
 rotate_left
 case' _=>simp[j,iJ]at H |-
 all_goals
  rw[DF J,H,u,n];exact⟨rfl,rfl,rfl,rfl⟩
def anG{P:bK}{i:Nat}(H:I P=I h)(m:i<I h)(hp:P[i]?=(aJ h)[i]?)(j:A ((i+I h-1)%I h)=kX h ((i+I h-1)%I h))(f:A i=kX h i):df P A i=eQ h i:=by
 have:P.getD i ⟨jJ,false⟩=⟨h.getD i jJ,ep h i⟩:=by obtain⟨l,hl⟩:=aP m;rw[dM,hp,gX hl,dM,hl];rfl
 unfold df eQ;rw[H,j,f,this]
def NR{P:bK}{i:Nat}(H:j<I h)(hp:P[i]?=(aJ h)[j]?):(df P A i).p=(eQ h j).p:=by obtain⟨l,hl⟩:=aP H;show P.getD i _=⟨h.getD j jJ,ep h j⟩;rw[dM,hp,gX hl,dM,hl];rfl
def aas(g:aU F h){a b c:Nat}(ha:a<I h)(hb:b<I h)(hc:c<I h)(Y:uA F h a b c=some L):jt F L:=by
 unfold uA at Y;split at Y
 case isFalse=>cases Y
 rename_i ht;cases Y;unfold G9 at ht;simp only[cF,cW]at ht;obtain⟨fA,h6,_,_,_,EK⟩:=ht;have hn:=iW.2 g.ne;have bQ:=dI h;have ok:=g.ok
 have eV:=amH (by rw[h6];rfl);have eV:(([a,nx h a,b,nx h b,c,nx h c]:aD).map λi:Nat=>(i:Int)).Nodup:=eV;have O:a≠nx h a/\a≠b/\a≠nx h b/\a≠c/\a≠nx h c/\nx h a≠b/\nx h a≠nx h b/\nx h a≠c/\nx h a≠nx h c/\b≠nx h b/\b≠c/\b≠nx h c/\nx h b≠c/\nx h b≠nx h c/\c≠nx h c:=by simp only[fq,ml,qQ,dh,e_,or_false,Ag,pW,and_true,not_false_eq_true]at eV;omega
 have bD:∀e∈[a,b,c],∃l m,h[e]?=some l/\h[nx h e]?=some m/\l.au/\m.au:=λe he=>by
  have T:=mz.1 fA e he;have eo:e<I h:=by simp only[dh,e_,or_false]at he;rcases he with rfl|rfl|rfl<;>assumption
  obtain⟨l,hl⟩:=aP eo;obtain⟨m,hm⟩:=aP (dB _ hn);have e1:=jL (gX hl);have e2:=jL (gX hm);unfold tz at T;rw[e1,e2,cF]at T;exact⟨l,m,hl,hm,T.1,T.2⟩
 obtain⟨w,hw,_,an,hE⟩:=Xe g ha EK;obtain⟨da,vL,sC,vM⟩:=hE a aG;obtain⟨db,w8,tA,vN⟩:=hE b aG;obtain⟨dc,HO,BY,BZ⟩:=hE c aG;have hN:∀d,d<2*I h->d<aX h:=λd hd=>by unfold aX;omega
 have three:∀d,d∈w->d<2*I h->d=da\/d=db\/d=dc:=λd T h2=>by
  have aB:∀d,d∈w->d<2*I h->d∈w.filter λx=>decide (x<2*I h):=λd T h2=>rv.2 ⟨T,by simpa using h2⟩;have R:=aB da vL sC;have Q:=aB db w8 tA;have q3:=aB dc HO BY;have q4:=aB d T h2;generalize w.filter (λx=>decide (x<2*I h))=D at an R Q q3 q4
  match D,an with
  |[x,y,z],_=>simp only[dh,e_,or_false]at R Q q3 q4;have:=O.2.1;have:=O.2.2.2.1;have:=O.2.2.2.2.2.2.2.2.2.2.1;omega
 have Kg:∀d,d<2*I h->d/2∈[a,b,c]->∃l,h[cA (I h) d]?=some l/\l.au:=λd hd he=>by
  obtain⟨l,m,T,h2,h3,h4⟩:=bD _ he;unfold cA;split
  .exact⟨m,h2,h4⟩
  exact⟨l,T,h3⟩
 have step:∀d,d∈w->d<2*I h->d/2∈[a,b,c]->aT h d=da\/aT h d=db\/aT h d=dc:=λd hd hl he=>by obtain⟨l,T,h2⟩:=Kg d hl he;exact three _ (uB (nc ok) hw hd) (FQ g hl T h2).1
 have bh:∃B E H,B<2*I h/\E<2*I h/\H<2*I h/\aT h B=E/\aT h E=H/\aT h H=B/\((B/2=a/\E/2=b/\H/2=c)\/(B/2=a/\E/2=c/\H/2=b)):=by
  have cq:da≠db:=λe=>O.2.1 (by rw[<-vM,<-vN,e]);have cu:da≠dc:=λe=>O.2.2.2.1 (by rw[<-vM,<-BZ,e]);have cd:db≠dc:=λe=>O.2.2.2.2.2.2.2.2.2.2.1 (by rw[<-vN,<-BZ,e]);rcases apE g hw vL w8 HO cq cu cd (hN _ sC) (hN _ tA) (hN _ BY) (step da vL sC (by rw[vM];simp)) (step db w8 tA (by rw[vN];simp)) (step dc HO BY (by rw[BZ];simp))with⟨T,h2,h3⟩|⟨T,h2,h3⟩
  .exact⟨da,db,dc,sC,tA,BY,T,h2,h3,.inl ⟨vM,vN,BZ⟩⟩
  exact⟨da,dc,db,sC,BY,tA,T,h2,h3,.inr ⟨vM,BZ,vN⟩⟩
 clear three step hE an vL sC vM w8 tA vN HO BY BZ hw EK;clear eV fA h6;obtain⟨B,E,H,l1,l2,l3,s1,s2,xj,ji⟩:=bh
 have bZ:a∈[a,b,c]:=aG;have b9:b∈[a,b,c]:=aG;have cf:c∈[a,b,c]:=aG;have HW:I (dY h (aJ h) [a,b,c])=I h:=by rw[yX,bQ]
 have xz:∀i,(dY h (aJ h) [a,b,c])[i]?=if i=nx h c then(aJ h)[c]? else if i=c then(aJ h)[nx h c]? else if i=nx h b then(aJ h)[b]? else if i=b then(aJ h)[nx h b]? else if i=nx h a then(aJ h)[a]? else if i=a then(aJ h)[nx h a]? else(aJ h)[i]? :=λi=>by
  show(ig h (ig h (ig h (aJ h) a) b) c)[i]?=_;have e1:I (ig h (aJ h) a)=I h:=by rw[wU,bQ]
  have e2:I (ig h (ig h (aJ h) a) b)=I h:=by rw[wU,e1]
  simp only[DH e2 hc,DH e1 hb,DH bQ ha];obtain⟨x1,x2,x3,x4,x5,x6,x7,x8,x9,FO,Ht,OO,OP,OQ,S1⟩:=O;simp only[x2.symm,x3.symm,x4.symm,x5.symm,x6.symm,x7.symm,x8.symm,x9.symm,Ht.symm,OO.symm,OP.symm,OQ.symm,if_false]
 have u9:∀p:aQ->Bool,(dY h (aJ h) [a,b,c]).countP p=(aJ h).countP p:=λp=>by
  show(ig h (ig h (ig h (aJ h) a) b) c).countP p=_;have e1:I (ig h (aJ h) a)=I h:=by rw[wU,bQ]
  have e2:I (ig h (ig h (aJ h) a) b)=I h:=by rw[wU,e1]
  rw[Hh e2 hc O.2.2.2.2.2.2.2.2.2.2.2.2.2.2,Hh e1 hb O.2.2.2.2.2.2.2.2.2.1,Hh bQ ha O.1]
 generalize dY h (aJ h) [a,b,c]=P at HW xz u9;obtain⟨x1,x2,x3,x4,x5,x6,x7,x8,x9,FO,Ht,OO,OP,OQ,S1⟩:=O;have pa:P[a]?=(aJ h)[nx h a]? /\P[nx h a]?=(aJ h)[a]? :=by
  constructor
  .rw[xz];simp only[x1,x2,x3,x4,x5,if_false,if_true]
  rw[xz];simp only[x6,x7,x8,x9,if_false,if_true]
 have pb:P[b]?=(aJ h)[nx h b]? /\P[nx h b]?=(aJ h)[b]? :=by
  constructor
  .rw[xz];simp only[FO,Ht,OO,if_false,if_true]
  rw[xz];simp only[OP,OQ,if_false,if_true]
 have pc:P[c]?=(aJ h)[nx h c]? /\P[nx h c]?=(aJ h)[c]? :=by
  constructor
  .rw[xz];simp only[S1,if_false,if_true]
  rw[xz];simp only[if_true]
 have pn:∀i,i≠a->i≠nx h a->i≠b->i≠nx h b->i≠c->i≠nx h c->P[i]?=(aJ h)[i]? :=λi T h2 h3 h4 h5 h6=>by rw[xz];simp only[T,h2,h3,h4,h5,h6,if_false]
 clear xz
 have mg:∀d,d/2=a\/d/2=b\/d/2=c->P[b_ (I h) d]?=(aJ h)[cA (I h) d]? /\P[cA (I h) d]?=(aJ h)[b_ (I h) d]? :=λd hd=>by
  have:P[d/2]?=(aJ h)[nx h (d/2)]? /\P[nx h (d/2)]?=(aJ h)[d/2]? :=by rcases hd with e|e|e<;>rw[e]<;>assumption
  unfold b_ cA;rcases rN d with Y|Y
  .simp only[Y,if_true];exact this
  simp only[Y,Nat.one_ne_zero,if_false];exact this.symm
 have m1:B/2=a\/B/2=b\/B/2=c:=by
  rcases ji with⟨Y,_,_⟩|⟨Y,_,_⟩
  .exact .inl Y
  exact .inl Y
 have m2:E/2=a\/E/2=b\/E/2=c:=by
  rcases ji with⟨_,Y,_⟩|⟨_,Y,_⟩
  .exact .inr (.inl Y)
  exact .inr (.inr Y)
 have m3:H/2=a\/H/2=b\/H/2=c:=by
  rcases ji with⟨_,_,Y⟩|⟨_,_,Y⟩
  .exact .inr (.inr Y)
  exact .inr (.inl Y)
 have mm:∀d,d/2=a\/d/2=b\/d/2=c->d/2∈[a,b,c]:=λd Y=>by simpa using Y
 have bC:∀i,i≠b_ (I h) B->i≠cA (I h) B->i≠b_ (I h) E->i≠cA (I h) E->i≠b_ (I h) H->i≠cA (I h) H->P[i]?=(aJ h)[i]? /\ ∀d,d/2=a\/d/2=b\/d/2=c->i≠d/2/\i≠nx h (d/2):=λi a1 a2 a3 a4 a5 a6=>by
  obtain⟨b1,b2⟩:=abP.1 ⟨a1,a2⟩;obtain⟨b3,b4⟩:=abP.1 ⟨a3,a4⟩;obtain⟨b5,b6⟩:=abP.1 ⟨a5,a6⟩;have cs:(i≠a/\i≠nx h a)/\(i≠b/\i≠nx h b)/\(i≠c/\i≠nx h c):=by
   rcases ji with⟨T,h2,h3⟩|⟨T,h2,h3⟩
   .rw[T]at b1 b2;rw[h2]at b3 b4;rw[h3]at b5 b6;exact⟨⟨b1,b2⟩,⟨b3,b4⟩,b5,b6⟩
   rw[T]at b1 b2;rw[h2]at b3 b4;rw[h3]at b5 b6;exact⟨⟨b1,b2⟩,⟨b5,b6⟩,b3,b4⟩
  obtain⟨⟨c1,c2⟩,⟨c4,fv⟩,c5,fZ⟩:=cs;refine⟨pn i c1 c2 c4 fv c5 fZ,λd hd=>?_⟩;rcases hd with e|e|e<;>rw[e]
  .exact⟨c1,c2⟩
  .exact⟨c4,fv⟩
  exact⟨c5,fZ⟩
 have t1:=Im g l1;have t2:=Im g l2;have t3:=Im g l3;have T:=Ed g l1;have h2:=Ed g l2;have h3:=Ed g l3
 have lg:(B/2≠E/2/\B/2≠nx h (E/2)/\nx h (B/2)≠E/2/\nx h (B/2)≠nx h (E/2))/\(B/2≠H/2/\B/2≠nx h (H/2)/\nx h (B/2)≠H/2/\nx h (B/2)≠nx h (H/2))/\(E/2≠H/2/\E/2≠nx h (H/2)/\nx h (E/2)≠H/2/\nx h (E/2)≠nx h (H/2))/\B/2≠nx h (B/2)/\E/2≠nx h (E/2)/\H/2≠nx h (H/2):=by
  rcases ji with⟨T,h2,h3⟩|⟨T,h2,h3⟩<;>rw[T,h2,h3]
  .exact⟨⟨x2,x3,x6,x7⟩,⟨x4,x5,x8,x9⟩,⟨Ht,OO,OP,OQ⟩,x1,FO,S1⟩
  exact⟨⟨x4,x5,x8,x9⟩,⟨x2,x3,x6,x7⟩,⟨Ht.symm,OP.symm,OO.symm,OQ.symm⟩,x1,S1,FO⟩
 obtain⟨y1,y2,y3,y4,y5,y6⟩:=lg;have bn:=Uo y1;have bu:=Uo y2;have bx:=Uo y3;have g1:=ZW y4;have g2:=ZW y5;have g3:=ZW y6
 obtain⟨u1,Dz,Mq⟩:=Kg B l1 (mm B m1);obtain⟨u2,GM,Mr⟩:=Kg E l2 (mm E m2);obtain⟨u3,Kz,Ms⟩:=Kg H l3 (mm H m3);obtain⟨_,o1,R,k1⟩:=FQ g l1 Dz Mq;obtain⟨_,o2,Q,k2⟩:=FQ g l2 GM Mr;obtain⟨_,o3,q3,k3⟩:=FQ g l3 Kz Ms;rw[s1]at o1 R k1;rw[s2]at o2 Q k2;rw[xj]at o3 q3 k3;clear s1 s2 xj ji pn pa pb pc x1 x2 x3 x4 x5 x6 x7 x8 x9 FO Ht OO OP OQ S1 bD Kg mm bZ b9 cf;have bz:=NM l1;have bL:=NM l2;have bE:=NM l3;have qc:=KN l1;have bw:=KN l2;have bM:=KN l3;rw[qc,bL]at k1;rw[bw,bE]at k2;rw[bM,bz]at k3;obtain⟨a1,b1,c1,e1⟩:=k1;obtain⟨a2,b2,c2,e2⟩:=k2;obtain⟨a3,b3,c4,e3⟩:=k3;simp only[if_true]at a1 b1 c1 e1 a2 b2 c2 e2 a3 b3 c4 e3
 let ar:=(xX h B).l
 let K1:eN:=⟨(iL (cH H) (eQ h (b_ (I h) H))).r,ar,(iL (cH B) (eQ h (b_ (I h) B))).b⟩
 let K2:eN:=⟨(iL (cH B) (eQ h (b_ (I h) B))).r,ar,(iL (cH E) (eQ h (b_ (I h) E))).b⟩
 let K3:eN:=⟨(iL (cH E) (eQ h (b_ (I h) E))).r,ar,(iL (cH H) (eQ h (b_ (I h) H))).b⟩
 let A:Nat->eN:=λj=>if j=B/2 then om (cH B) K1 else if j=E/2 then om (cH E) K2 else if j=H/2 then om (cH H) K3 else kX h j
 have ce:A (B/2)=om (cH B) K1:=aI rfl;have ck:A (E/2)=om (cH E) K2:=by show(if _ then _ else _)=_;rw[aE (Ne.symm y1.1),aI rfl]
 have bX:A (H/2)=om (cH H) K3:=by show(if _ then _ else _)=_;rw[aE (Ne.symm y2.1),aE (Ne.symm y3.1),aI rfl]
 have aj:∀j,j≠B/2->j≠E/2->j≠H/2->A j=kX h j:=λj T h2 h3=>by show(if _ then _ else _)=_;rw[aE T,aE h2,aE h3]
 have ad:∀i,i<I h->i≠nx h (B/2)->i≠nx h (E/2)->i≠nx h (H/2)->A ((i+I h-1)%I h)=kX h ((i+I h-1)%I h):=λi N n1 n2 n3=>aj _ (λY=>n1 (EC N Y)) (λY=>n2 (EC N Y)) (λY=>n3 (EC N Y))
 obtain⟨z1,z2,z3,z4⟩:=y1;obtain⟨z5,z6,z7,z8⟩:=y2;obtain⟨z9,S2,S3,cB⟩:=y3;have G1:=Qi HW l1 ce (ad _ J y4 z2 z6) (aj _ y4.symm z3 z7);have G2:=Qi HW l2 ck (ad _ J z3.symm y5 S2) (aj _ z2.symm y5.symm S3);have G3:=Qi HW l3 bX (ad _ J z7.symm S3.symm y6) (aj _ z6.symm S2.symm y6.symm);have p1:=mg B m1;have p2:=mg E m2;have p3:=mg H m3;have bd:=NR (A:=A) T p1.1;have bo:=NR (A:=A) t1 p1.2;have bq:=NR (A:=A) h2 p2.1;have bk:=NR (A:=A) t2 p2.2;have bm:=NR (A:=A) h3 p3.1;have a0:=NR (A:=A) t3 p3.2
 have un:∀i,i<I h->i≠b_ (I h) B->i≠cA (I h) B->i≠b_ (I h) E->i≠cA (I h) E->i≠b_ (I h) H->i≠cA (I h) H->df P A i=eQ h i:=λi N n1 n2 n3 n4 n5 n6=>by obtain⟨R,Q⟩:=bC i n1 n2 n3 n4 n5 n6;exact anG HW N R (ad i N (Q B m1).2 (Q E m2).2 (Q H m3).2) (aj i (Q B m1).1 (Q E m2).1 (Q H m3).1)
 clear bC mg ad
 have xC:=qy ok.cr Dz Mq;have qD:=qy ok.cr GM Mr;have bs:=qy ok.cr Kz Ms;rw[<-o1]at xC;rw[<-o2]at qD;rw[<-o3]at bs;obtain⟨r1,v2,tM,av,bV,_,_⟩:=xC;obtain⟨r2,v3,QT,az,b7,_,_⟩:=qD;obtain⟨r3,mr,xB,aw,co,_,_⟩:=bs
 have ab:∀(x y:aR) (d u hh tt:Nat) (cw v:U),h[hh]?=some cw->h[tt]?=some v->cw.au->v.au->v.id=cw.id->hh≠tt->x.p=(eQ h hh).p->y.p=(eQ h tt).p->c3 cw=(cH d==cH u)->xN true (iL (cH d) x) (km (cH d) x) (iL (cH u) y) (km (cH u) y)->A4 x y:=by intro x y d u hh tt cw v ha hb ca cb ei aN hx hy hg h4;have bg:x.k=(eQ h hh).k:=congrArg aQ.l hx;have bt:y.k=(eQ h tt).k:=congrArg aQ.l hy;have bv:=Sc g (bN.1 ha).1 (bN.1 hb).1 aN (by rw[fT ha];exact ca) (by rw[fT hb];exact cb) (by rw[fT ha,fT hb];exact ei.symm);refine⟨by rw[bg,bt];exact bv.ov,by rw[bg,bt];exact bv.sg,?_⟩;rw[bg,fT ha,hg];exact aaH.1 h4
 have C1:A4 (df P A (b_ (I h) B)) (df P A (cA (I h) E)):=by
  refine ab _ _ B E _ _ u1 v2 Dz tM Mq av bV bn.2.2.1 bd bk R ?_;rw[G1.1,G1.2.1,G2.2.2.1,G2.2.2.2];constructor<;>simp only[if_true]
  .exact c4.trans e2
  .rfl
  .rfl
  exact b2
 have C2:A4 (df P A (b_ (I h) E)) (df P A (cA (I h) H)):=by
  refine ab _ _ E H _ _ u2 v3 GM QT Mr az b7 bx.2.2.1 bq a0 Q ?_;rw[G2.1,G2.2.1,G3.2.2.1,G3.2.2.2];constructor<;>simp only[if_true]
  .exact c1.trans e3
  .rfl
  .rfl
  exact b3
 have yA:A4 (df P A (b_ (I h) H)) (df P A (cA (I h) B)):=by
  refine ab _ _ H B _ _ u3 mr Kz xB Ms aw co bu.2.1.symm bm bo q3 ?_;rw[G3.1,G3.2.1,G1.2.2.1,G1.2.2.2];constructor<;>simp only[if_true]
  .exact c2.trans e1
  .rfl
  .rfl
  exact b1
 have O:∀i,i<I h->(i=b_ (I h) B\/i=cA (I h) B\/i=b_ (I h) E\/i=cA (I h) E\/i=b_ (I h) H\/i=cA (I h) H)\/(df P A i=eQ h i/\i≠b_ (I h) B/\i≠cA (I h) B/\i≠b_ (I h) E/\i≠cA (I h) E/\i≠b_ (I h) H/\i≠cA (I h) H):=λi N=>by
  rcases Classical.em (i=b_ (I h) B\/i=cA (I h) B\/i=b_ (I h) E\/i=cA (I h) E\/i=b_ (I h) H\/i=cA (I h) H)with Y|Y
  .exact .inl Y
  simp only[Ag]at Y;exact .inr ⟨un i N Y.1 Y.2.1 Y.2.2.1 Y.2.2.2.1 Y.2.2.2.2.1 Y.2.2.2.2.2,Y⟩
 have am:∀i,i<I h->∃j l,j<I h/\h[j]?=some l/\(df P A i).k=l/\(df P A i).p=(eQ h j).p:=λi N=>by
  have mk:∀j l,h[j]?=some l->(df P A i).p=(eQ h j).p->∃j l,j<I h/\h[j]?=some l/\(df P A i).k=l/\(df P A i).p=(eQ h j).p:=λj l hl hp=>⟨j,l,(bN.1 hl).1,hl,(congrArg aQ.l hp).trans (fT hl),hp⟩;rcases O i N with(rfl|rfl|rfl|rfl|rfl|rfl)|⟨e,_⟩
  .exact mk _ _ Dz bd
  .exact mk _ _ xB bo
  .exact mk _ _ GM bq
  .exact mk _ _ tM bk
  .exact mk _ _ Kz bm
  .exact mk _ _ QT a0
  obtain⟨l,hl⟩:=aP N;exact mk i l hl aIC
 have bb:(df P A (b_ (I h) B)).k=u1:=(congrArg aQ.l bd).trans (fT Dz);have bi:(df P A (b_ (I h) E)).k=u2:=(congrArg aQ.l bq).trans (fT GM);have bf:(df P A (b_ (I h) H)).k=u3:=(congrArg aQ.l bm).trans (fT Kz);have be:(df P A (cA (I h) B)).k=mr:=(congrArg aQ.l bo).trans (fT xB);have bp:(df P A (cA (I h) E)).k=v2:=(congrArg aQ.l bk).trans (fT tM);have a9:(df P A (cA (I h) H)).k=v3:=(congrArg aQ.l a0).trans (fT QT);have aL:∀(f:Bool) (x:aR),(iL f x).b=(km f x).b->x.i.b=x.o.b:=λf x Y=>by
  rw[R2,R6]at Y;cases f
  .exact Y.symm
  exact Y
 have br:∀(f:Bool) (x:aR),x.i.b=x.o.b->(iL f x).b=(km f x).b:=λf x Y=>by
  rw[R2,R6];cases f
  .exact Y.symm
  exact Y
 have aF:∀j l,h[j]?=some l->l.au->(eQ h j).i.b=(eQ h j).o.b:=λj l hl hc=>(Hz g (bN.1 hl).1).cb (by rw[fT hl];exact hc);have bT:∀d (bJ:eN),iL (cH d) (df P A (b_ (I h) d))=iL (cH d) (eQ h (b_ (I h) d))->km (cH d) (df P A (b_ (I h) d))=bJ->bJ.b=(iL (cH d) (eQ h (b_ (I h) d))).b->(df P A (b_ (I h) d)).i.b=(df P A (b_ (I h) d)).o.b:=λd bJ R Q q3=>aL (cH d) _ (by rw[R,Q,q3])
 have bH:∀d (bJ:eN) (l m:U),h[b_ (I h) d]?=some l->l.au->h[cA (I h) d]?=some m->m.au->km (cH d) (eQ h (b_ (I h) d))=xX h d->iL (cH d) (eQ h (cA (I h) d))=xX h d->iL (cH d) (df P A (cA (I h) d))=bJ->km (cH d) (df P A (cA (I h) d))=km (cH d) (eQ h (cA (I h) d))->bJ.b=(iL (cH d) (eQ h (b_ (I h) d))).b->(df P A (cA (I h) d)).i.b=(df P A (cA (I h) d)).o.b:=λd bJ l m hl cl hm cm M n R Q q3=>by refine aL (cH d) _ ?_;rw[R,Q,q3,br (cH d) _ (aF _ _ hl cl),M,<-n];exact br (cH d) _ (aF _ _ hm cm)
 have bad:∀i,i<I h->eK F (df P A i).k=false:=λi N=>by obtain⟨j,l,hj,hl,hk,_⟩:=am i N;rw[hk];exact g.bad l (a8 hl)
 have yP:∀i,i<I h->(df P A i).k.au->(df P A i).i.b=(df P A i).o.b->zR F (df P A i):=λi N hc hb=>⟨bad i N,λ_=>hb,λhp=>by rw[mq hc]at hp;cases hp⟩;have X:∀i,i<I h->(df P A i).k.ay->df P A i=eQ h i:=λi N hp=>by
  rcases O i N with(rfl|rfl|rfl|rfl|rfl|rfl)|⟨e,_⟩
  .rw[bb,mq Mq]at hp;cases hp
  .rw[be,mq aw]at hp;cases hp
  .rw[bi,mq Mr]at hp;cases hp
  .rw[bp,mq av]at hp;cases hp
  .rw[bf,mq Ms]at hp;cases hp
  .rw[a9,mq az]at hp;cases hp
  exact e
 have cz:=g.cz;have ak:∀p:U->Bool,aq p (P.map aQ.l)=aq p h:=λp=>by rw[<-EM (h:=h) p];show List.countP _ _=List.countP _ _;rw[sF,sF];exact u9 _
 have ag:∀(f:Bool) i,i<I h->∀t,t=(iL f (df P A i)).l\/t=(iL f (df P A i)).r->∃j',j'<I h/\(t=(A j').l\/t=(A j').r):=λf i N t ht=>by
  cases f
  .refine⟨i,N,?_⟩;rcases ht with ht|ht
   .exact .inr ht
   exact .inl ht
  refine⟨(i+I P-1)%I P,?_,ht⟩;rw[HW];exact dB _ hn
 refine afB g (T:=ar) (f:=A) (O:=fI h) (N:=ft h) HW (ak _) (ak _) (λk=>ak _) (λi N=>?_) (λi j N hj gb ci cj e=>?_) (λi j N hj gb pi pj e1 e2=>?_) (λi N ci=>?_) (λi N pi=>?_) (λi N pi=>?_) (λk hk=>?_) ?_ (λj hj t ht=>?_)
 .rcases O i N with(rfl|rfl|rfl|rfl|rfl|rfl)|⟨e,_⟩
  .exact yP _ N (by rw[bb];exact Mq) (bT B K1 G1.1 G1.2.1 rfl)
  .exact yP _ N (by rw[be];exact aw) (bH B K1 _ _ xB aw Dz Mq bz qc G1.2.2.1 G1.2.2.2 rfl)
  .exact yP _ N (by rw[bi];exact Mr) (bT E K2 G2.1 G2.2.1 rfl)
  .exact yP _ N (by rw[bp];exact av) (bH E K2 _ _ tM av GM Mr bL bw G2.2.2.1 G2.2.2.2 rfl)
  .exact yP _ N (by rw[bf];exact Ms) (bT H K3 G3.1 G3.2.1 rfl)
  .exact yP _ N (by rw[a9];exact az) (bH H K3 _ _ QT az Kz Ms bE bM G3.2.2.1 G3.2.2.2 rfl)
  rw[e];exact Hz g N
 ·
  have nn:∀i,i<I h->∃s,s<I h/\(∃l,h[s]?=some l/\(df P A i).k=l)/\((i=b_ (I h) B/\s=cA (I h) B)\/(i=cA (I h) B/\s=b_ (I h) B)\/(i=b_ (I h) E/\s=cA (I h) E)\/(i=cA (I h) E/\s=b_ (I h) E)\/(i=b_ (I h) H/\s=cA (I h) H)\/(i=cA (I h) H/\s=b_ (I h) H)\/(df P A i=eQ h i/\s=i/\i≠b_ (I h) B/\i≠cA (I h) B/\i≠b_ (I h) E/\i≠cA (I h) E/\i≠b_ (I h) H/\i≠cA (I h) H)):=λi N=>by
   rcases O i N with(rfl|rfl|rfl|rfl|rfl|rfl)|⟨e,aN⟩
   .exact⟨_,T,⟨_,Dz,bb⟩,.inl ⟨rfl,rfl⟩⟩
   .exact⟨_,t1,⟨_,xB,be⟩,.inr (.inl ⟨rfl,rfl⟩)⟩
   .exact⟨_,h2,⟨_,GM,bi⟩,.inr (.inr (.inl ⟨rfl,rfl⟩))⟩
   .exact⟨_,t2,⟨_,tM,bp⟩,.inr (.inr (.inr (.inl ⟨rfl,rfl⟩)))⟩
   .exact⟨_,h3,⟨_,Kz,bf⟩,.inr (.inr (.inr (.inr (.inl ⟨rfl,rfl⟩))))⟩
   .exact⟨_,t3,⟨_,QT,a9⟩,.inr (.inr (.inr (.inr (.inr (.inl ⟨rfl,rfl⟩)))))⟩
   obtain⟨l,hl⟩:=aP N;exact⟨i,N,⟨l,hl,by rw[e];exact fT hl⟩,.inr (.inr (.inr (.inr (.inr (.inr ⟨e,rfl,aN⟩)))))⟩
  obtain⟨si,cx,⟨li,vg,cc⟩,bI⟩:=nn i N;obtain⟨sj,No,⟨lj,yE,bO⟩,HK⟩:=nn j hj;rw[cc]at ci e;rw[bO]at cj e;obtain⟨f1,f2,f3,f4⟩:=bn;obtain⟨f5,f6,f7,f8⟩:=bu;obtain⟨f9,cy,cC,bn⟩:=bx;have aN:si≠sj:=by
   clear e2 e3 e1 ag X yP bad bH bT am un O;rcases bI with⟨R,Q⟩|⟨R,Q⟩|⟨R,Q⟩|⟨R,Q⟩|⟨R,Q⟩|⟨R,Q⟩|⟨_,Q,n1,n2,n3,n4,n5,n6⟩<;>rcases HK with⟨M,n⟩|⟨M,n⟩|⟨M,n⟩|⟨M,n⟩|⟨M,n⟩|⟨M,n⟩|⟨_,n,m1,m2,m3,m4,m5,m6⟩<;>rw[Q,n]<;>first
    |(rw[R,M]at gb;exact absurd rfl gb)
    |assumption
    |exact Ne.symm t6
    |exact gb
  have Z:=wW g vg yE ci cj e aN;rcases bI with⟨R,Q⟩|⟨R,Q⟩|⟨R,Q⟩|⟨R,Q⟩|⟨R,Q⟩|⟨R,Q⟩|⟨eu,Q,n1,n2,n3,n4,n5,n6⟩
  .rw[Q,<-o1]at Z;rcases HK with⟨M,n⟩|⟨M,n⟩|⟨M,n⟩|⟨M,n⟩|⟨M,n⟩|⟨M,n⟩|⟨_,n,m1,m2,m3,m4,m5,m6⟩<;>rw[n]at Z<;>first
    |(rw[R,M];exact C1)
    |exact absurd Z t6
    |exact absurd Z (Ne.symm t6)
  .rw[Q,r3]at Z;rcases HK with⟨M,n⟩|⟨M,n⟩|⟨M,n⟩|⟨M,n⟩|⟨M,n⟩|⟨M,n⟩|⟨_,n,m1,m2,m3,m4,m5,m6⟩<;>rw[n]at Z<;>first
    |(rw[R,M];exact yA.symm)
    |exact absurd Z t6
    |exact absurd Z (Ne.symm t6)
  .rw[Q,<-o2]at Z;rcases HK with⟨M,n⟩|⟨M,n⟩|⟨M,n⟩|⟨M,n⟩|⟨M,n⟩|⟨M,n⟩|⟨_,n,m1,m2,m3,m4,m5,m6⟩<;>rw[n]at Z<;>first
    |(rw[R,M];exact C2)
    |exact absurd Z t6
    |exact absurd Z (Ne.symm t6)
  .rw[Q,r1]at Z;rcases HK with⟨M,n⟩|⟨M,n⟩|⟨M,n⟩|⟨M,n⟩|⟨M,n⟩|⟨M,n⟩|⟨_,n,m1,m2,m3,m4,m5,m6⟩<;>rw[n]at Z<;>first
    |(rw[R,M];exact C1.symm)
    |exact absurd Z t6
    |exact absurd Z (Ne.symm t6)
  .rw[Q,<-o3]at Z;rcases HK with⟨M,n⟩|⟨M,n⟩|⟨M,n⟩|⟨M,n⟩|⟨M,n⟩|⟨M,n⟩|⟨_,n,m1,m2,m3,m4,m5,m6⟩<;>rw[n]at Z<;>first
    |(rw[R,M];exact yA)
    |exact absurd Z t6
    |exact absurd Z (Ne.symm t6)
  .rw[Q,r2]at Z;rcases HK with⟨M,n⟩|⟨M,n⟩|⟨M,n⟩|⟨M,n⟩|⟨M,n⟩|⟨M,n⟩|⟨_,n,m1,m2,m3,m4,m5,m6⟩<;>rw[n]at Z<;>first
    |(rw[R,M];exact C2.symm)
    |exact absurd Z t6
    |exact absurd Z (Ne.symm t6)
  have hb:=(qy ok.cr vg ci).1;rw[Z,Q]at hb;rcases HK with⟨M,n⟩|⟨M,n⟩|⟨M,n⟩|⟨M,n⟩|⟨M,n⟩|⟨M,n⟩|⟨cp,n,_⟩
  .rw[n,<-o1]at hb;exact absurd hb.symm n3
  .rw[n,r3]at hb;exact absurd hb.symm n6
  .rw[n,<-o2]at hb;exact absurd hb.symm n5
  .rw[n,r1]at hb;exact absurd hb.symm n2
  .rw[n,<-o3]at hb;exact absurd hb.symm n1
  .rw[n,r2]at hb;exact absurd hb.symm n4
  rw[Q]at vg;rw[n]at yE;rw[eu,cp];exact Sc g N hj gb (by rw[fT vg];exact ci) (by rw[fT yE];exact cj) (by rw[fT vg,fT yE];exact e)
 .have ee:=X i N pi;have cv:=X j hj pj;rw[ee]at pi e1 e2;rw[cv]at pj e1 e2;exact(cz.K7 (BO N) (BO hj) gb).2 pi pj e1 e2
 .obtain⟨j,l,hj,hl,hk,_⟩:=am i N;rw[hk]at ci |-;exact g.ids.1 l (a8 hl) ci
 .have ee:=X i N pi;rw[ee]at pi |-;have:=cz.rr _ (a8 (BO N)) pi;rwa[jG]at this
 .have ee:=X i N pi;rw[ee]at pi |-;exact cz.pl _ (a8 (BO N)) pi
 .have:=cz.gt k hk;rwa[jG]at this
 .have:=cz.gz;rwa[jG]at this
 have ap:∀d,j=d/2->t=(xX h d).l\/t=(xX h d).r:=λd hd=>by
  rw[hd]at ht;unfold xX;split
  .exact ht
  exact ht.symm
 by_cases n1:j=B/2
 .rcases ap B n1 with Y|Y
  .exact .inl Y
  exact .inr (ag (cH E) _ t2 t (.inl (by rw[G2.1,Y];exact c1.symm)))
 by_cases n2:j=E/2
 .rcases ap E n2 with Y|Y
  .exact .inl (Y.trans a1.symm)
  exact .inr (ag (cH H) _ t3 t (.inl (by rw[G3.1,Y];exact c2.symm)))
 by_cases n3:j=H/2
 .rcases ap H n3 with Y|Y
  .exact .inl (Y.trans (a2.symm.trans a1.symm))
  exact .inr (ag (cH B) _ t1 t (.inl (by rw[G1.1,Y];exact c4.symm)))
 exact .inr ⟨j,hj,by rw[aj j n1 n2 n3];exact ht⟩
end
def CN(f:Bool)(x:aR):x.up=if f==x.p.d then iL f x else mv (km f x):=by unfold aR.up iL km;cases f<;>cases x.p.d<;>rfl
def C6(f:Bool)(x:aR):x.lo=if f==x.p.d then km f x else mv (iL f x):=by unfold aR.lo iL km;cases f<;>cases x.p.d<;>rfl
section
variable {F:Nat} {h:ae}
def aqD:∀(w:aD) (f:cX),I f.places<=(w.foldl (cX.add F h) f).places.length/\ ∀x∈w,2*I h<=x->I (l_ F h ((x-2*I h)/2))<=(w.foldl (cX.add F h) f).places.length:=by
 intro w
 induction w with
 |nil=>intro f;exact⟨cP _,λx v=>nomatch v⟩
 |cons x w m=>
  intro f;obtain⟨j,n⟩:=m _;have u:I f.places<=(cX.add F h f x).places.length:=by
   unfold cX.add;split
   .exact cP _
   grind
  refine⟨ob u j,λy H hl=>?_⟩;rcases dh.1 H with rfl|H
  .refine ob ?_ j
   grind [cX.add]
  exact n y H hl
def ahw(ok:fY F h){k u:Nat}(B:k+1<I (aA h))(H:(aA h).getD k 0=u)(x:(aA h).getD (k+1) 0=v){l:U}(hl:h[u]?=some l)(j:h[v]?=some m)
  (pl:l.ay) (z:m.ay) (A:m.gate<=l.gate):l.gate=m.gate/\m.ao=l.ao+1:=by
 obtain⟨u',y⟩:=aP (h:=aA h) (k:=k) J;obtain⟨N,f⟩:=aP B;rw[dM,y,mw]at H;rw[dM,f,mw]at x;subst H x;obtain⟨l',E,_,L⟩:=v_ ok.ax y;obtain⟨X,n,_,D⟩:=v_ ok.ax f;rw[hl]at E;cases E;rw[j]at n;cases n;obtain⟨Y,Z,l3,M⟩:=ok.ax.fg l (a8 hl) pl;obtain⟨T,O,Q,m4⟩:=ok.ax.fg m (a8 j) z;unfold dN at L D;rcases Int.lt_or_eq_of_le A with c|c
 .exfalso;have R:=Ai (h:=h) (show m.gate.toNat+1<=l.gate.toNat by omega);have af:=qR h m.gate.toNat;omega
 grind
def Vy(g:aU F h){w:aD}(E:w∈eX (aT h) (aX h))(M:(jc F h w).places.length=1){x:Nat}(Q:x∈w){A:Bool}(O:x=jB (I h) v A){l:U}(hl:h[v]?=some l)(pl:l.ay):
  ∃u m y,y∈w/\h[u]?=some m/\m.ay/\l.gate=m.gate/\((dn h v=A/\m.ao=l.ao+1/\y=dS (I h) u (!dn h u))\/(dn h v=(!A)/\l.ao=m.ao+1/\y=dS (I h) u (dn h u))):=by
 have ok:=g.ok;have mp:=nc ok;obtain⟨i1,i2⟩:=F2 ok hl pl;have j:=uB mp E Q;rw[O,El hl pl]at j;by_cases B:(dn h v==A)
 .rw[aI B]at j;have X:I (l_ F h ((aA h).idxOf v))<=1:=by
   rw[<-M];unfold jc;have:=(aqD (F:=F) (h:=h) w (cX.new h (w.headD 0))).2 _ j J;rwa[show(2*I h+2*(aA h).idxOf v-2*I h)/2=(aA h).idxOf v by omega]at this
  have H:(aA h).idxOf v+1<I (aA h):=by
   unfold l_ at X;simp only at X;split at X
   .assumption
   rw[iM,zl,zl]at X;omega
  obtain⟨m,f,n⟩:=z_ H;have D:m.gate<=l.gate:=by unfold l_ at X;simp only at X;rw[aI H,zl,i2,fC H,uU hl,uU f]at X;have:=(ok.ax.fg l (a8 hl) pl).g0;have:=(ok.ax.fg m (a8 f) n).g0;omega
  obtain⟨r1,R⟩:=ahw ok H i2 rfl hl f pl n D;have N:=uB mp E j;rw[CE,fC H]at N;exact⟨_,m,_,N,f,n,r1,.inl ⟨eq_of_beq B,R,rfl⟩⟩
 rw[aE B]at j;have L:=dB ((aA h).idxOf v+I (aA h)-1) (show 0<I (aA h) by omega);have z:=yW i1;generalize((aA h).idxOf v+I (aA h)-1)%I (aA h)=k at j L z;have X:I (l_ F h k)<=1:=by rw[<-M];unfold jc;have:=(aqD (F:=F) (h:=h) w (cX.new h (w.headD 0))).2 _ j J;rwa[show(2*I h+2*k+1-2*I h)/2=k by omega]at this
 have H:k+1<I (aA h):=by
  unfold l_ at X;simp only at X;split at X
  .assumption
  rw[iM,zl,zl]at X;omega
 rw[fC H]at z;obtain⟨m,f,n⟩:=z_ L;have D:l.gate<=m.gate:=by unfold l_ at X;simp only at X;rw[aI H,zl,fC H,z,i2,uU hl,uU f]at X;have:=(ok.ax.fg l (a8 hl) pl).g0;have:=(ok.ax.fg m (a8 f) n).g0;omega
 obtain⟨r1,R⟩:=ahw ok H rfl (by rw[z];exact i2) f hl n pl D
 grind [uB,D3,dn]
def sJ{l:bK}{i:Nat}{r:Int}{p:aQ}(h:l[i]?=some p)(j:Nat):(eI l i r)[j]?=if j=i then some ⟨{p.l with ao:=r},p.d⟩else l[j]? :=by
 unfold eI
 grind
def Qa{q:aQ->Bool}{l:bK}{i:Nat}{r:Int}{p:aQ}(h:l[i]?=some p)(H:∀p:aQ,q ⟨{p.l with ao:=r},p.d⟩=q p):(eI l i r).countP q=l.countP q:=by
 unfold eI
 grind
def aaJ(g:aU F h){a b:Nat}(ha:a<I h)(hb:b<I h)(dE:a≠b){n iB A pb:Nat}{la X ma mb:U}
  (ea:(A=a/\n=nx h a)\/(A=nx h a/\n=a)) (eb:(pb=b/\iB=nx h b)\/(pb=nx h b/\iB=b)) (kL:h[n]?=some la) (tK:h[iB]?=some X) (vh:h[A]?=some ma) (sM:h[pb]?=some mb)
  (ca:la.au) (cb:X.au) (qa:ma.ay) (qb:mb.ay) (z:la.id=X.id) (hv:n≠iB) (EK:pN F h 1 [a,b] a):
  ∃w,w∈eX (aT h) (aX h)/\(jc F h w).places.length=1/\ ∃d,d∈w/\d<2*I h/\aT h d∈w/\aT h d<2*I h/\(∀y,y∈w->y<2*I h->y=d\/y=aT h d)/\
   ((d/2=a/\aT h d/2=b/\b_ (I h) d=A/\cA (I h) d=n/\b_ (I h) (aT h d)=iB/\cA (I h) (aT h d)=pb)\/(d/2=b/\aT h d/2=a/\b_ (I h) d=pb/\cA (I h) d=iB/\b_ (I h) (aT h d)=n/\cA (I h) (aT h d)=A)):=by
 obtain⟨w,hw,mf,R,hE⟩:=Xe g ha EK;obtain⟨da,Z,O,vM⟩:=hE a aG;obtain⟨D,w8,tA,vN⟩:=hE b aG;have M:∀d,d∈w->d<2*I h->d∈w.filter λx=>decide (x<2*I h):=λd j H=>rv.2 ⟨j,by simpa using H⟩;have two:=λd j H=>amX R (M da Z O) (M D w8 tA) J (M d j H);have B:∀d e p v:Nat,d/2=e->((p=e/\v=nx h e)\/(p=nx h e/\v=e))->(b_ (I h) d=p/\cA (I h) d=v)\/(b_ (I h) d=v/\cA (I h) d=p):=λd e p v j H=>by
  unfold b_ cA;rw[j];show((if _ then e else nx h e)=p/\(if _ then nx h e else e)=v)\/((if _ then e else nx h e)=v/\(if _ then nx h e else e)=p);rcases H with⟨rfl,rfl⟩|⟨rfl,rfl⟩<;>split
  .exact .inl ⟨rfl,rfl⟩
  .exact .inr ⟨rfl,rfl⟩
  .exact .inr ⟨rfl,rfl⟩
  exact .inl ⟨rfl,rfl⟩
 have pc:∀ {x y:Nat}{l m:U},h[x]?=some l->h[y]?=some m->l.au->m.ay->x≠y:=λj H h3 h4 e=>by subst e;rw[j]at H;have:=mQ H;rw[this,oV h4]at h3;cases h3
 have go:∀(d u p v p' Q:Nat) (l m l' m':U),d∈w->d<2*I h->u<2*I h->b_ (I h) d=p->cA (I h) d=v->h[v]?=some l->h[p]?=some m->h[Q]?=some l'->h[p']?=some m'->l.au->m.ay->l'.au->m'.ay->l.id=l'.id->v≠Q->(∀y,y∈w->y<2*I h->y=d\/y=u)->((b_ (I h) u=p'/\cA (I h) u=Q)\/(b_ (I h) u=Q/\cA (I h) u=p'))->aT h d=u/\b_ (I h) u=Q/\cA (I h) u=p':=by
  intro d u p v p' Q l m l' m' d1 d2 aj hT hH hl hm zM Dx cl pm L ad z hv tw en;obtain⟨s1,s2,_⟩:=FQ g d2 (by rw[hH];exact hl) cl;rw[hH,wW g hl zM cl L z hv]at s2;rcases tw _ (uB (nc (g.ok)) hw d1) s1 with e|e
  .exfalso;rw[e,hT]at s2;exact pc zM hm L pm s2.symm
  rw[e]at s2;rcases en with⟨E,_⟩|⟨E,T⟩
  .exact absurd (s2.symm.trans E) (pc zM Dx L ad)
  exact⟨e,E,T⟩
 have nb:=B D b pb iB vN eb;rcases(B da a A n vM ea)with⟨t1,Y⟩|⟨t1,Y⟩
 .obtain⟨E,T,e3⟩:=go da D A n pb iB la ma X mb Z O tA t1 Y kL vh tK sM ca qa cb qb z hv two nb;refine⟨w,hw,mf,da,Z,O,by rw[E];exact w8,by rw[E];exact tA,by rw[E];exact two,.inl ⟨vM,by rw[E];exact vN,t1,Y,by rw[E];exact T,by rw[E];exact e3⟩⟩
 ·
  obtain⟨ag,m,y,y1,y2,y3,_,y4⟩:=Vy g hw mf Z (by rw[<-Y];exact Pt O) vh qa;have hu:=(bN.1 y2).1;have yT:b_ (I h) y=ag/\y<2*I h:=by
   have ab:∀f,b_ (I h) (dS (I h) ag f)=ag/\dS (I h) ag f<2*I h:=λf=>⟨(JC hu).1,by
    have:=zi hu (!f);rw[<-tX]at this;have:=vi this;rwa[vz]at this⟩
   rcases y4 with⟨_,_,e⟩|⟨_,_,e⟩<;>rw[e]<;>exact ab _
  have yb:y=D:=ii
  have N:b_ (I h) D=pb/\cA (I h) D=iB:=by
   rcases nb with ak|⟨j,H⟩
   .exact ak
   exfalso;rw[yb,j]at yT;rw[<-yT.1,tK]at y2;have:=mQ y2;rw[<-this,mq cb]at y3;cases y3
  obtain⟨E,T,e3⟩:=go D da pb iB A n X mb la ma w8 tA O N.1 N.2 tK sM kL vh cb qb ca qa z.symm hv.symm (λy j H=>(two y j H).symm) (.inr ⟨t1,Y⟩);refine⟨w,hw,mf,D,w8,tA,by rw[E];exact Z,by rw[E];exact O,by rw[E];exactλy j H=>(two y j H).symm,.inr ⟨vN,by rw[E];exact vM,N.1,N.2,by rw[E];exact T,by rw[E];exact e3⟩⟩
end
section
variable {F:Nat} {h:ae}
def Xj{e:Nat}(n:0<I h)(j:e<I h)(H:(ff h e).2.2):(((ff h e).1=e/\(ff h e).2.1=nx h e)\/((ff h e).1=nx h e/\(ff h e).2.1=e))/\(∃l,h[(ff h e).2.1]?=some l/\l.au)/\ ∃m,h[(ff h e).1]?=some m/\m.ay:=by
 obtain⟨l,hl⟩:=aP j;obtain⟨m,f⟩:=aP (dB _ n);unfold ff at H |-;rw[jL (gX hl),jL (gX f)]at H |-;by_cases c:(l.kind==2)
 .rw[aI c]at H |-;exact⟨.inr ⟨rfl,rfl⟩,⟨l,hl,c⟩,m,f,H⟩
 rw[aE c]at H |-;simp only[cF]at H;exact⟨.inl ⟨rfl,rfl⟩,⟨m,f,H.2⟩,l,hl,H.1⟩
def amB{f:Bool}{x y:aR}(h:(iL f x).b=(iL f y).b)(H:(km f x).b=(km f y).b):x.i.b=y.i.b/\x.o.b=y.o.b:=by grind [R2,R6]
def ajO{f:Bool}{x:aR}(h:(iL f x).b=(km f x).b):x.i.b=x.o.b:=by grind [R2,R6]
def anH{f:Bool}{x:aR}(h:x.i.b=x.o.b):(iL f x).b=(km f x).b:=by
 rw[R2,R6]
 grind
def apb{l:U}{r:Int}(hp:l.ay)(h:eK F l=false):eK F {l with ao:=r}=false:=by have f:({l with ao:=r}:U).ay=true:=hp;rw[nu hp]at h;rw[nu f];exact h
def aiL(g:aU F h){w:aD}(hw:w∈eX (aT h) (aX h))(mf:(jc F h w).places.length=1){d:Nat}(hd:d∈w)(rX:d<2*I h)(vW:u∈w)(KS:u<2*I h)(yF:aT h d=u)(two:∀y,y∈w->y<2*I h->y=d\/y=u)
  {L lv lw n:U} (Z:h[b_ (I h) d]?=some L) (X:h[cA (I h) d]?=some lv) (xA:h[b_ (I h) u]?=some lw) (A3:h[cA (I h) u]?=some n) (pp:L.ay) (cv:lv.au) (cw:lw.au) (pq:n.ay)
  {P:bK} (Gq:I P=I h) (u9:∀q:U->Bool,(∀(l:U) (r:Int),q {l with ao:=r}=q l)->aq q (P.map aQ.l)=aq q h)
  (hP:b_ (I h) d≠cA (I h) u->P[b_ (I h) d]?=(aJ h)[cA (I h) d]? /\P[cA (I h) d]?=some ⟨{L with ao:=n.ao},ep h (b_ (I h) d)⟩/\P[b_ (I h) u]?=some ⟨{n with ao:=L.ao},ep h (cA (I h) u)⟩/\P[cA (I h) u]?=(aJ h)[b_ (I h) u]? /\
   ∀i,i≠b_ (I h) d->i≠cA (I h) d->i≠b_ (I h) u->i≠cA (I h) u->P[i]?=(aJ h)[i]?):jt F P:=by
 have ok:=g.ok;have cz:=g.cz;have hn:=iW.2 g.ne;have t1:=Im g rX;have t2:=Im g KS;have Y:=Ed g rX;have E:=Ed g KS
 obtain⟨bg,m,y,y1,y2,y3,jV,y4⟩:=Vy g hw mf vW (Pt KS) A3 pq;have hu:=(bN.1 y2).1;have yT:∀f,b_ (I h) (dS (I h) bg f)=bg/\cH (dS (I h) bg f)=f/\dS (I h) bg f<2*I h:=λf=>⟨(JC hu).1,(JC hu).2,by
  have:=zi hu (!f);rw[<-tX]at this;have:=vi this;rwa[vz]at this⟩
 have yd:y=d:=by
  have QY:b_ (I h) y=bg/\y<2*I h:=by rcases y4 with⟨_,_,e⟩|⟨_,_,e⟩<;>rw[e]<;>exact⟨(yT _).1,(yT _).2.2⟩
  rcases two y y1 QY.2 with e|e
  .exact e
  exfalso;rw[e]at QY;rw[<-QY.1,xA]at y2;have:=mQ y2;rw[<-this,mq cw]at y3;cases y3
 subst yd;have GL:b_ (I h) y=bg:=by rcases y4 with⟨_,_,e⟩|⟨_,_,e⟩<;>rw[e]<;>exact(yT _).1
 subst GL;rw[Z]at y2;cases y2
 obtain⟨cR,hR⟩:∃cR:Bool,(cR/\dn h (cA (I h) u)=cH u/\L.ao=n.ao+1/\cH y= !dn h (b_ (I h) y))\/(cR=false/\dn h (cA (I h) u)=(!cH u)/\n.ao=L.ao+1/\cH y=dn h (b_ (I h) y)):=by
  rcases y4 with⟨e1,e2,e3⟩|⟨e1,e2,e3⟩
  .exact⟨true,.inl ⟨rfl,e1,e2,(congrArg cH e3).trans (yT _).2.1⟩⟩
  exact⟨false,.inr ⟨rfl,e1,e2,(congrArg cH e3).trans (yT _).2.1⟩⟩
 clear y4 yT y1 y3 hu;have jj:L.ao≠n.ao:=by rcases hR with⟨_,_,D,_⟩|⟨_,_,D,_⟩<;>omega
 have Q:b_ (I h) y≠cA (I h) u:=λe=>by rw[e,A3]at Z;have:=mQ Z;rw[this]at jj;exact jj rfl
 obtain⟨pT,pH,a5,be,pU⟩:=hP Q;clear hP;obtain⟨_,o1,q1,k1⟩:=FQ g rX X cv;rw[yF]at o1 q1 k1;rw[KN rX,NM KS]at k1;obtain⟨xa,xb,xc,xd⟩:=k1;simp only[if_true]at xa xb xc xd;have pc:∀ {x y:Nat}{l m:U},h[x]?=some l->h[y]?=some m->l.au->m.ay->x≠y:=λY E h3 h4 e=>by subst e;rw[Y]at E;have:=mQ E;rw[this,oV h4]at h3;cases h3
 have ak:cA (I h) y≠b_ (I h) u:=by intro e;obtain⟨_,m,hm,_,_,mo,_⟩:=qy ok.cr X cv;rw[<-o1,<-e,X]at hm;have:=mQ hm;rw[<-this]at mo;revert mo;cases lv.over<;>simp
 have aj:=pc X Z cv pp;have an:=pc X A3 cv pq;have ag:=pc xA Z cw pp;have am:=pc xA A3 cw pq
 have ee:∀d:Nat,(b_ (I h) d=d/2/\cA (I h) d=nx h (d/2))\/(b_ (I h) d=nx h (d/2)/\cA (I h) d=d/2):=λd=>by
  unfold b_ cA nx;split
  .exact .inl ⟨rfl,rfl⟩
  exact .inr ⟨rfl,rfl⟩
 have lg:y/2≠u/2/\y/2≠nx h (u/2)/\nx h (y/2)≠u/2/\nx h (y/2)≠nx h (u/2)/\y/2≠nx h (y/2)/\u/2≠nx h (u/2):=by
  rcases ee y with⟨v,z⟩|⟨v,z⟩<;>rcases ee u with⟨b1,b2⟩|⟨b1,b2⟩
  .rw[<-z,<-v,<-b2,<-b1];exact⟨ag.symm,Q,ak,an,aj.symm,am⟩
  .rw[<-z,<-v,<-b1,<-b2];exact⟨Q,ag.symm,an,ak,aj.symm,am.symm⟩
  .rw[<-v,<-z,<-b2,<-b1];exact⟨ak,an,ag.symm,Q,aj,am⟩
  rw[<-v,<-z,<-b1,<-b2];exact⟨an,ak,Q,ag.symm,aj,am.symm⟩
 let T:=(xX h y).l
 let tI:=iL (cH y) (eQ h (b_ (I h) y))
 let hO:=km (cH u) (eQ h (cA (I h) u))
 let O:=(km (cH y) (eQ h (cA (I h) y))).r
 let K1:eN:=⟨hO.r,T,tI.b⟩
 let K2:eN:=⟨tI.r,T,hO.b⟩
 let A:Nat->eN:=λj=>if j=y/2 then om (cH y) K1 else if j=u/2 then om (cH u) K2 else kX h j
 have a9:A (u/2)=om (cH u) K2:=by show(if _ then _ else _)=_;rw[aE lg.1.symm,aI rfl]
 have ab:∀j,j≠y/2->j≠u/2->A j=kX h j:=λj Y E=>by show(if _ then _ else _)=_;rw[aE Y,aE E]
 have ad:∀i,i<I h->i≠nx h (y/2)->i≠nx h (u/2)->A ((i+I h-1)%I h)=kX h ((i+I h-1)%I h):=λi H N n2=>ab _ (λD=>N (EC H D)) (λD=>n2 (EC H D))
 obtain⟨z1,z2,z3,z4,z5,z6⟩:=lg;have M:=Qi Gq rX (aI rfl) (ad _ J z5 z2) (ab _ z5.symm z3);have R:=Qi Gq KS a9 (ad _ J z3.symm z6) (ab _ z2.symm z6.symm);have un:∀i,i<I h->i≠b_ (I h) y->i≠cA (I h) y->i≠b_ (I h) u->i≠cA (I h) u->df P A i=eQ h i:=λi H N n2 n3 n4=>by
  have v:i≠y/2/\i≠nx h (y/2):=by
   rcases ee y with⟨v,z⟩|⟨v,z⟩
   .rw[<-z,<-v];exact⟨N,n2⟩
   rw[<-v,<-z];exact⟨n2,N⟩
  have z:i≠u/2/\i≠nx h (u/2):=by
   rcases ee u with⟨v,z⟩|⟨v,z⟩
   .rw[<-z,<-v];exact⟨n3,n4⟩
   rw[<-v,<-z];exact⟨n4,n3⟩
  exact anG Gq H (pU i N n2 n3 n4) (ad i H v.2 z.2) (ab i v.1 z.1)
 have az:∀i,i<I h->(i=b_ (I h) y\/i=cA (I h) y\/i=b_ (I h) u\/i=cA (I h) u)\/(df P A i=eQ h i/\i≠b_ (I h) y/\i≠cA (I h) y/\i≠b_ (I h) u/\i≠cA (I h) u):=λi H=>by
  rcases Classical.em (i=b_ (I h) y\/i=cA (I h) y\/i=b_ (I h) u\/i=cA (I h) u)with D|D
  .exact .inl D
  simp only[Ag]at D;exact .inr ⟨un i H D.1 D.2.1 D.2.2.1 D.2.2.2,D⟩
 have gp:∀ {i:Nat}{p:aQ},P[i]?=some p->(df P A i).p=p:=λ{i p} D=>by show P.getD i _=_;rw[dM,D];rfl
 have kT:(df P A (b_ (I h) y)).k=lv:=congrArg aQ.l (gp (pT.trans (gX X)));have kH:(df P A (cA (I h) y)).k={L with ao:=n.ao}:=congrArg aQ.l (gp pH);have Bg:(df P A (b_ (I h) u)).k={n with ao:=L.ao}:=congrArg aQ.l (gp a5);have IK:(df P A (cA (I h) u)).k=lw:=congrArg aQ.l (gp (be.trans (gX xA)));have dH:(df P A (cA (I h) y)).p.d=(eQ h (b_ (I h) y)).p.d:=by rw[gp pH];rfl
 have Ge:(df P A (b_ (I h) u)).p.d=(eQ h (cA (I h) u)).p.d:=by rw[gp a5];rfl
 have bv:=anH (f:=cH y) ((Hz g Y).cb (by rw[fT X];exact cv));have bw:=anH (f:=cH u) ((Hz g t2).cb (by rw[fT xA];exact cw));rw[KN rX]at bv;rw[NM KS]at bw;have bp:=NM rX;have bq:=KN KS;have a6:=ok.ax.fg n (a8 A3) pq;obtain⟨p1,p2,p3,p4⟩:=T6 g Z pp;obtain⟨p5,p6,p7,p8⟩:=T6 g A3 pq;rw[fT Z]at p1 p2 p3 p4;rw[fT A3]at p5 p6 p7 p8;have oY:=UZ g Z pp;have yy:=UZ g A3 pq;rw[CN (cH y)]at p1 p2;rw[C6 (cH y)]at p3 p4;rw[CN (cH u)]at p5 p6;rw[C6 (cH u)]at p7 p8;rw[oY,bp]at p1 p2 p3 p4;rw[yy,bq]at p5 p6 p7 p8;have bf:aZ h n.gate.toNat=aZ h L.gate.toNat:=by rw[jV]
 obtain⟨bs,br,bn,bh⟩:=ok.ax.fg L (a8 Z) pp;obtain⟨bk,bm,bi,bd⟩:=a6;rw[bf]at bd;rw[jV]at p5 p6 p7 p8;obtain⟨r,T',B',lO,Bb,iZ,hT,DL,Hi,A6⟩:∃(r:Nat) (T' B':Nat->Nat->Nat),1<=r/\r<aZ h L.gate.toNat/\((L.ao=(r:Int)/\n.ao=(r:Int)+1)\/(n.ao=(r:Int)/\L.ao=(r:Int)+1))/\(∀k j,¬(k=L.gate.toNat/\j=r)->T' k j=fI h k j/\B' k j=ft h k j)/\
   DJ T' B' (df P A (cA (I h) y))/\DJ T' B' (df P A (b_ (I h) u))/\tI.l=hO.l:=by
  rcases hR with⟨_,iE,QN,eM⟩|⟨_,iE,QN,eM⟩
  .have f1:(cH y==dn h (b_ (I h) y))=false:=by rw[eM];cases dn h (b_ (I h) y)<;>rfl
   have f2:(cH u==dn h (cA (I h) u)):=by rw[iE];cases cH u<;>rfl
   rw[f1]at p1 p2 p3 p4;rw[f2]at p5 p6 p7 p8;simp only[iJ,if_false,if_true]at p1 p2 p3 p4 p5 p6 p7 p8;have er:L.ao.toNat=n.ao.toNat+1:=J;rw[er]at p1 p2 p3 p4;rw[Jh]at p1 p3;refine⟨n.ao.toNat,λk j=>if k=L.gate.toNat/\j=n.ao.toNat then O else fI h k j,λk j=>if k=L.gate.toNat/\j=n.ao.toNat then T else ft h k j,J,J,.inr ⟨J,J⟩,λk j D=>⟨aE D,aE D⟩,?_,?_,?_⟩
   .constructor
    .rw[kH,CN (cH y),dH,oY,f1];show(mv (km (cH y) (df P A (cA (I h) y)))).r=if L.gate.toNat=L.gate.toNat/\n.ao.toNat-1=n.ao.toNat then O else fI h L.gate.toNat (n.ao.toNat-1);rw[aE J,M.2.2.2];exact xd.symm.trans p5
    .rw[kH,CN (cH y),dH,oY,f1];show(mv (km (cH y) (df P A (cA (I h) y)))).l=if L.gate.toNat=L.gate.toNat/\n.ao.toNat=n.ao.toNat then O else fI h L.gate.toNat n.ao.toNat;rw[aI ⟨rfl,rfl⟩,M.2.2.2];rfl
    .rw[kH,C6 (cH y),dH,oY,f1];show(mv (iL (cH y) (df P A (cA (I h) y)))).r=if L.gate.toNat=L.gate.toNat/\n.ao.toNat-1=n.ao.toNat then T else ft h L.gate.toNat (n.ao.toNat-1);rw[aE J,M.2.2.1];exact p7
    rw[kH,C6 (cH y),dH,oY,f1];show(mv (iL (cH y) (df P A (cA (I h) y)))).l=if L.gate.toNat=L.gate.toNat/\n.ao.toNat=n.ao.toNat then T else ft h L.gate.toNat n.ao.toNat;rw[aI ⟨rfl,rfl⟩,M.2.2.1];rfl
   .constructor
    .rw[Bg,CN (cH u),Ge,yy,f2];show(iL (cH u) (df P A (b_ (I h) u))).r=if n.gate.toNat=L.gate.toNat/\L.ao.toNat-1=n.ao.toNat then O else fI h n.gate.toNat (L.ao.toNat-1);rw[aI ⟨by rw[jV],J⟩,R.1];exact xb.symm
    .rw[Bg,CN (cH u),Ge,yy,f2];show(iL (cH u) (df P A (b_ (I h) u))).l=if n.gate.toNat=L.gate.toNat/\L.ao.toNat=n.ao.toNat then O else fI h n.gate.toNat L.ao.toNat;rw[aE J,R.1,jV,er];exact xc.trans p2
    .rw[Bg,C6 (cH u),Ge,yy,f2];show(km (cH u) (df P A (b_ (I h) u))).r=if n.gate.toNat=L.gate.toNat/\L.ao.toNat-1=n.ao.toNat then T else ft h n.gate.toNat (L.ao.toNat-1);rw[aI ⟨by rw[jV],J⟩,R.2.1]
    rw[Bg,C6 (cH u),Ge,yy,f2];show(km (cH u) (df P A (b_ (I h) u))).l=if n.gate.toNat=L.gate.toNat/\L.ao.toNat=n.ao.toNat then T else ft h n.gate.toNat L.ao.toNat;rw[aE J,R.2.1,jV,er];exact p4
   exact p3.trans p8.symm
  have f1:(cH y==dn h (b_ (I h) y)):=by rw[eM];cases dn h (b_ (I h) y)<;>rfl
  have f2:(cH u==dn h (cA (I h) u))=false:=by rw[iE];cases cH u<;>rfl
  rw[f1]at p1 p2 p3 p4;rw[f2]at p5 p6 p7 p8;simp only[iJ,if_false,if_true]at p1 p2 p3 p4 p5 p6 p7 p8;have er:n.ao.toNat=L.ao.toNat+1:=J;rw[er]at p5 p6 p7 p8;rw[Jh]at p5 p7;refine⟨L.ao.toNat,λk j=>if k=L.gate.toNat/\j=L.ao.toNat then T else fI h k j,λk j=>if k=L.gate.toNat/\j=L.ao.toNat then O else ft h k j,J,J,.inl ⟨J,J⟩,λk j D=>⟨aE D,aE D⟩,?_,?_,?_⟩
  .constructor
   .rw[kH,CN (cH y),dH,oY,f1];show(iL (cH y) (df P A (cA (I h) y))).r=if L.gate.toNat=L.gate.toNat/\n.ao.toNat-1=L.ao.toNat then T else fI h L.gate.toNat (n.ao.toNat-1);rw[aI ⟨rfl,J⟩,M.2.2.1]
   .rw[kH,CN (cH y),dH,oY,f1];show(iL (cH y) (df P A (cA (I h) y))).l=if L.gate.toNat=L.gate.toNat/\n.ao.toNat=L.ao.toNat then T else fI h L.gate.toNat n.ao.toNat;rw[aE J,M.2.2.1,er];exact p6
   .rw[kH,C6 (cH y),dH,oY,f1];show(km (cH y) (df P A (cA (I h) y))).r=if L.gate.toNat=L.gate.toNat/\n.ao.toNat-1=L.ao.toNat then O else ft h L.gate.toNat (n.ao.toNat-1);rw[aI ⟨rfl,J⟩,M.2.2.2]
   rw[kH,C6 (cH y),dH,oY,f1];show(km (cH y) (df P A (cA (I h) y))).l=if L.gate.toNat=L.gate.toNat/\n.ao.toNat=L.ao.toNat then O else ft h L.gate.toNat n.ao.toNat;rw[aE J,M.2.2.2,er];exact xd.symm.trans p8
  .constructor
   .rw[Bg,CN (cH u),Ge,yy,f2];show(mv (km (cH u) (df P A (b_ (I h) u)))).r=if n.gate.toNat=L.gate.toNat/\L.ao.toNat-1=L.ao.toNat then T else fI h n.gate.toNat (L.ao.toNat-1);rw[aE J,R.2.1,jV];exact p1
   .rw[Bg,CN (cH u),Ge,yy,f2];show(mv (km (cH u) (df P A (b_ (I h) u)))).l=if n.gate.toNat=L.gate.toNat/\L.ao.toNat=L.ao.toNat then T else fI h n.gate.toNat L.ao.toNat;rw[aI ⟨by rw[jV],rfl⟩,R.2.1];rfl
   .rw[Bg,C6 (cH u),Ge,yy,f2];show(mv (iL (cH u) (df P A (b_ (I h) u)))).r=if n.gate.toNat=L.gate.toNat/\L.ao.toNat-1=L.ao.toNat then O else ft h n.gate.toNat (L.ao.toNat-1);rw[aE J,R.1,jV];exact xc.trans p3
   rw[Bg,C6 (cH u),Ge,yy,f2];show(mv (iL (cH u) (df P A (b_ (I h) u)))).l=if n.gate.toNat=L.gate.toNat/\L.ao.toNat=L.ao.toNat then O else ft h n.gate.toNat L.ao.toNat;rw[aI ⟨by rw[jV],rfl⟩,R.1];exact xb.symm
  exact p2.trans p5.symm
 clear p1 p2 p3 p4 p5 p6 p7 p8 hR;have aF:∀i,i<I h->(df P A i).k.ay->(i=cA (I h) y\/i=b_ (I h) u)\/(df P A i=eQ h i/\i≠b_ (I h) y/\i≠cA (I h) y/\i≠b_ (I h) u/\i≠cA (I h) u):=λi H hp=>by
  rcases az i H with(rfl|rfl|rfl|rfl)|D
  .rw[kT,mq cv]at hp;cases hp
  .exact .inl (.inl rfl)
  .exact .inl (.inr rfl)
  .rw[IK,mq cw]at hp;cases hp
  exact .inr D
 have aw:∀i,i<I h->(df P A i).k.au->(i=b_ (I h) y\/i=cA (I h) u)\/(df P A i=eQ h i/\i≠b_ (I h) y/\i≠cA (I h) y/\i≠b_ (I h) u/\i≠cA (I h) u):=λi H hc=>by
  have N:∀(l:U) (r:Int),l.ay->({l with ao:=r}:U).au=false:=λl r D=>oV D;rcases az i H with(rfl|rfl|rfl|rfl)|D
  .exact .inl (.inl rfl)
  .rw[kH,N _ _ pp]at hc;cases hc
  .rw[Bg,N _ _ pq]at hc;cases hc
  .exact .inl (.inr rfl)
  exact .inr D
 have av:∀i,i<I h->(df P A i).k.ay->∃j l,h[j]?=some l/\l.ay/\(df P A i).k.gate=l.gate/\(df P A i).k.ao=l.ao/\((i=cA (I h) y/\j=cA (I h) u)\/(i=b_ (I h) u/\j=b_ (I h) y)\/(i=j/\i≠b_ (I h) y/\i≠cA (I h) u)):=λi H hp=>by
  rcases aF i H hp with(rfl|rfl)|⟨e,N,n2,n3,n4⟩
  .exact⟨_,n,A3,pq,by rw[kH];exact jV.symm,by rw[kH],.inl ⟨rfl,rfl⟩⟩
  .exact⟨_,L,Z,pp,by rw[Bg];exact jV,by rw[Bg],.inr (.inl ⟨rfl,rfl⟩)⟩
  obtain⟨l,hl⟩:=aP H;rw[e]at hp;rw[fT hl]at hp;exact⟨i,l,hl,hp,by rw[e,fT hl],by rw[e,fT hl],.inr (.inr ⟨rfl,N,n4⟩)⟩
 have C1:A4 (df P A (b_ (I h) y)) (df P A (cA (I h) u)):=by
  obtain⟨b1,m,hm,mc,mi,mo,ms⟩:=qy ok.cr X cv;rw[<-o1,xA]at hm;have em:=mQ hm;subst em;refine⟨by rw[kT,IK,mo];simp,by rw[kT,IK,ms],?_⟩;rw[kT,q1,<-aaH,M.1,M.2.1,R.2.2.1,R.2.2.2];constructor<;>simp only[if_true]
  .exact A6
  .rfl
  .rfl
  rfl
 have bo:lv.id=lw.id:=by obtain⟨b1,m,hm,mc,mi,mo,ms⟩:=qy ok.cr X cv;rw[<-o1,xA]at hm;rw[mQ hm,mi]
 have QI:iV h (b_ (I h) u)=cA (I h) y:=by rw[o1];exact(qy ok.cr X cv).1
 have aN:∀(f:Bool) i,i<I h->∀t,t=(iL f (df P A i)).l\/t=(iL f (df P A i)).r->∃j',j'<I h/\(t=(A j').l\/t=(A j').r):=λf i H t B=>by
  cases f
  .refine⟨i,H,?_⟩;rcases B with B|B
   .exact .inr B
   exact .inl B
  refine⟨(i+I P-1)%I P,?_,B⟩;rw[Gq];exact dB _ hn
 have a0:∀(f:Bool) i,i<I h->∀t,t=(km f (df P A i)).l\/t=(km f (df P A i)).r->∃j',j'<I h/\(t=(A j').l\/t=(A j').r):=λf i H t B=>by
  cases f
  .refine⟨(i+I P-1)%I P,?_,?_⟩
   .rw[Gq];exact dB _ hn
   rcases B with B|B
   .exact .inr B
   exact .inl B
  exact⟨i,H,B⟩
 have ar:=cz.gz;rw[jG]at ar;refine afB g (T:=T) (f:=A) (O:=T') (N:=B') Gq (u9 _ λ_ _=>rfl) (u9 _ λ_ _=>rfl) (λk=>u9 _ λ_ _=>rfl) (λi H=>?_) (λi j H hj gb ci cj e=>?_) (λi j H hj gb pi pj e1 e2=>?_) (λi H ci=>?_) (λi H pi=>?_) (λi H pi=>?_) (λk hk=>?_) ?_ (λj hj t B=>?_)
 .rcases az i H with(rfl|rfl|rfl|rfl)|⟨e,_⟩
  .exact⟨by rw[kT];exact g.bad lv (a8 X),λ_=>ajO (by rw[M.1,M.2.1]),λhp=>by rw[kT,mq cv]at hp;cases hp⟩
  .have fl:=amB (y:=eQ h (b_ (I h) y)) (by rw[M.2.2.1]) (by rw[M.2.2.2,bp];exact bv.symm);refine⟨by rw[kH];exact apb pp (g.bad L (a8 Z)),λhc=>?_,λ_=>?_⟩
   .rw[kH]at hc;have:=oV (l:={L with ao:=n.ao}) pp;rw[this]at hc;cases hc
   rw[fl.1,fl.2,dH];exact(Hz g t1).pb (by rw[fT Z];exact pp)
  .have fl:=amB (y:=eQ h (cA (I h) u)) (by rw[R.1,bq];exact bw) (by rw[R.2.1]);refine⟨by rw[Bg];exact apb pq (g.bad n (a8 A3)),λhc=>?_,λ_=>?_⟩
   .rw[Bg]at hc;have:=oV (l:={n with ao:=L.ao}) pq;rw[this]at hc;cases hc
   rw[fl.1,fl.2,Ge];exact(Hz g E).pb (by rw[fT A3];exact pq)
  .exact⟨by rw[IK];exact g.bad lw (a8 xA),λ_=>ajO (by rw[R.2.2.1,R.2.2.2]),λhp=>by rw[IK,mq cw]at hp;cases hp⟩
  rw[e];exact Hz g H
 .rcases aw i H ci with(rfl|rfl)|⟨ei,N,n2,n3,n4⟩<;>rcases aw j hj cj with(rfl|rfl)|⟨ej,m1,m2,m3,m4⟩
  .exact absurd rfl gb
  .exact C1
  .exfalso;obtain⟨l,hl⟩:=aP hj;rw[kT,ej,fT hl]at e;rw[ej,fT hl]at cj;have:=wW g X hl cv cj e m2.symm;rw[<-o1]at this;exact m3 this.symm
  .exact C1.symm
  .exact absurd rfl gb
  .exfalso;obtain⟨l,hl⟩:=aP hj;rw[IK,ej,fT hl]at e;rw[ej,fT hl]at cj;have:=wW g xA hl cw cj e m3.symm;rw[QI]at this;exact m2 this.symm
  .exfalso;obtain⟨l,hl⟩:=aP H;rw[kT,ei,fT hl]at e;rw[ei,fT hl]at ci;have:=wW g X hl cv ci e.symm n2.symm;rw[<-o1]at this;exact n3 this.symm
  .exfalso;obtain⟨l,hl⟩:=aP H;rw[IK,ei,fT hl]at e;rw[ei,fT hl]at ci;have:=wW g xA hl cw ci e.symm n3.symm;rw[QI]at this;exact n2 this.symm
  rw[ei]at ci e |-;rw[ej]at cj e |-;exact Sc g H hj gb ci cj e
 .obtain⟨a,l,hl,_,aB,wL,c1⟩:=av i H pi;obtain⟨b,m,hm,_,bb,xJ,c2⟩:=av j hj pj;rename_i Oa aL;have dE:a≠b:=by
   intro e;rcases c1 with⟨i1,j1⟩|⟨i1,j1⟩|⟨i1,i2,i3⟩<;>rcases c2 with⟨k1,k2⟩|⟨k1,k2⟩|⟨k1,k2,k3⟩
   .exact gb (i1.trans k1.symm)
   .exact Q (by rw[<-k2,<-e,j1])
   .exact k3 (by rw[k1,<-e,j1])
   .exact Q (by rw[<-j1,e,k2])
   .exact gb (i1.trans k1.symm)
   .exact k2 (by rw[k1,<-e,j1])
   .exact i3 (by rw[i1,e,k2])
   .exact i2 (by rw[i1,e,k2])
   exact gb (by rw[i1,k1,e])
  exact dE (ok.ax.inj a b l m hl hm Oa aL ((C3 (ok.ax.fg l (a8 hl) Oa) (ok.ax.fg m (a8 hm) aL)).2 ⟨by rw[<-aB,<-bb,e1],by rw[<-wL,<-xJ,e2]⟩))
 .rcases aw i H ci with(rfl|rfl)|⟨ei,_⟩
  .rw[kT];exact g.ids.1 lv (a8 X) cv
  .rw[IK];exact g.ids.1 lw (a8 xA) cw
  obtain⟨l,hl⟩:=aP H;rw[ei,fT hl]at ci |-;exact g.ids.1 l (a8 hl) ci
 .obtain⟨a,l,hl,Oa,aB,wL,_⟩:=av i H pi;rw[aB,wL];obtain⟨_,_,b1,b2⟩:=ok.ax.fg l (a8 hl) Oa;exact⟨b1,b2⟩
 .rcases aF i H pi with(rfl|rfl)|⟨ei,N,n2,n3,n4⟩
  .exact DL
  .exact Hi
  obtain⟨l,hl⟩:=aP H;rw[ei]at pi |-;rw[fT hl]at pi;obtain⟨v,z,a3,a4⟩:=T6 g hl pi;rw[fT hl]at v z a3 a4;obtain⟨b0,_,b1,b2⟩:=ok.ax.fg l (a8 hl) pi;have far:l.gate.toNat=L.gate.toNat->l.ao.toNat≠r/\l.ao.toNat-1≠r:=λke=>by have gg:l.gate=L.gate:=J;have d1:l.ao≠L.ao:=λe=>N (ok.ax.inj i _ l L hl Z pi pp ((C3 (ok.ax.fg l (a8 hl) pi) (ok.ax.fg L (a8 Z) pp)).2 ⟨gg,e⟩));have d2:l.ao≠n.ao:=λe=>n4 (ok.ax.inj i _ l n hl A3 pi pq ((C3 (ok.ax.fg l (a8 hl) pi) (ok.ax.fg n (a8 A3) pq)).2 ⟨by rw[gg,jV],e⟩));rcases iZ with⟨s1,s2⟩|⟨s1,s2⟩<;>omega
  have mr:=hT l.gate.toNat (l.ao.toNat-1) (λ⟨Y,E⟩=>(far Y).2 E);have v2:=hT l.gate.toNat l.ao.toNat (λ⟨Y,E⟩=>(far Y).1 E);constructor
  .rw[fT hl,mr.1];exact v
  .rw[fT hl,v2.1];exact z
  .rw[fT hl,mr.2];exact a3
  rw[fT hl,v2.2];exact a4
 .have:=(cz.gt) k hk;rw[jG]at this;have mr:=hT k (aZ h k) (λ⟨Y,E⟩=>by rw[Y]at E;omega);have v2:=hT (k+1) 0 (λ⟨_,E⟩=>J);rw[mr.1,mr.2,v2.1,v2.2];exact this
 .have mr:=hT F (aZ h F) (λ⟨Y,E⟩=>by rw[Y]at E;omega);have v2:=hT 0 0 (λ⟨_,E⟩=>J);rw[mr.1,mr.2,v2.1,v2.2];exact ar
 have ap:∀d,j=d/2->t=(xX h d).l\/t=(xX h d).r:=λd hd=>by
  rw[hd]at B;unfold xX;split
  .exact B
  exact B.symm
 by_cases N:j=y/2
 .rcases ap y N with D|D
  .exact .inl D
  exact .inr (aN (cH u) _ t2 t (.inl (by rw[R.1,D];exact xc.symm)))
 by_cases n2:j=u/2
 .rcases ap u n2 with D|D
  .exact .inl (D.trans xa.symm)
  exact .inr (a0 (cH y) _ Y t (.inl (by rw[M.2.2.2,D];exact xd)))
 exact .inr ⟨j,hj,by rw[ab j N n2];exact B⟩
def acr(g:aU F h){a b:Nat}(ha:a<I h)(hb:b<I h)(dE:a≠b)(ak:sE F h a b=some L):jt F L:=by
 unfold sE at ak;split at ak
 case isFalse=>cases ak
 rename_i hc;simp only[cF,gH,nj,cW]at hc;obtain⟨h1,h2,h3,h4,h5⟩:=hc;cases ak;have hn:=iW.2 g.ne;have bQ:=dI h;obtain⟨ea,⟨la,Y,ca⟩,ma,R,qa⟩:=Xj hn ha h1;obtain⟨eb,⟨lb,Z,cb⟩,M,H,qb⟩:=Xj hn hb h2;generalize(ff h a).1=u at*;generalize(ff h a).2.1=va at*;generalize(ff h b).1=pb at*;generalize(ff h b).2.1=iB at*;rw[jL (gX Y),jL (gX Z)]at h4;rw[jL (gX R),jL (gX H)];obtain⟨w,hw,mf,d,d1,d2,d3,d4,two,cs⟩:=aaJ g ha hb dE ea eb Y Z R H ca cb qa qb h4 h3 h5;have pc:∀ {x y:Nat}{l m:U},h[x]?=some l->h[y]?=some m->l.au->m.ay->x≠y:=λh1 h2 h3 h4 e=>by grind [oV]
 have D:=pc Y R ca qa;have E:=pc Z H cb qb;have v:=pc Y H ca qb;have z:=pc Z R cb qa
 let f:=eI (eI (aJ h) u M.ao) pb ma.ao
 have ZR:=gX R;have ag:u≠pb->(eI (aJ h) u M.ao)[pb]?=some ⟨M,ep h pb⟩:=λA=>by rw[sJ ZR,aE A.symm];exact gX H
 have aj:∃p,(eI (aJ h) u M.ao)[pb]?=some p:=aP (by rw[vx,bQ];exact(bN.1 H).1);have Us:I f=I h:=by show(eI (eI _ _ _) _ _).length=_;rw[vx,vx,bQ]
 have e1:I (ig h f a)=I h:=by rw[wU,Us]
 have Gq:I (dY h f [a,b])=I h:=by rw[yX,Us]
 have u9:∀q:U->Bool,(∀(l:U) (r:Int),q {l with ao:=r}=q l)->aq q ((dY h f [a,b]).map aQ.l)=aq q h:=λq hq=>by rw[<-EM (h:=h) q];show List.countP _ _=List.countP _ _;rw[sF,sF];show(ig h (ig h f a) b).countP _=_;obtain⟨p,hp⟩:=aj;rw[Hh e1 hb (Eh g hb),Hh Us ha (Eh g ha),Qa hp (λp=>hq _ _),Qa ZR (λp=>hq _ _)]
 have ad:u≠pb->f[u]?=some ⟨{ma with ao:=M.ao},ep h u⟩/\f[pb]?=some ⟨{M with ao:=ma.ao},ep h pb⟩/\ ∀i,i≠u->i≠pb->f[i]?=(aJ h)[i]? :=λA=>by
  have k:∀j,f[j]?=if j=pb then some ⟨{M with ao:=ma.ao},ep h pb⟩else if j=u then some ⟨{ma with ao:=M.ao},ep h u⟩else(aJ h)[j]? :=λj=>by show(eI (eI _ _ _) _ _)[j]?=_;rw[sJ (ag A),sJ ZR]
  refine⟨by rw[k,aE A,aI rfl],by rw[k,aI rfl],λi N B=>by rw[k,aE B,aE N]⟩
 have ab:u≠pb->(dY h f [a,b])[u]?=f[va]? /\(dY h f [a,b])[va]?=f[u]? /\(dY h f [a,b])[pb]?=f[iB]? /\(dY h f [a,b])[iB]?=f[pb]? /\ ∀i,i≠u->i≠va->i≠pb->i≠iB->(dY h f [a,b])[i]?=f[i]? :=λA=>by
  have k:∀i,(dY h f [a,b])[i]?=if i=nx h b then(ig h f a)[b]? else if i=b then(ig h f a)[nx h b]? else(ig h f a)[i]? :=λi=>DH e1 hb i;have X:=λi=>DH Us ha i;have ka:∀i,i≠u->i≠va->(ig h f a)[i]?=f[i]? :=λi N B=>by
   rcases ea with⟨n,Q⟩|⟨n,Q⟩
   .rw[X,aE aIa,aE aIb]
   rw[X,aE aIb,aE aIa]
  have kb:∀i,i≠pb->i≠iB->(dY h f [a,b])[i]?=(ig h f a)[i]? :=λi N B=>by
   rcases eb with⟨n,Q⟩|⟨n,Q⟩
   .rw[k,aE aIa,aE aIb]
   rw[k,aE aIb,aE aIa]
  have IL:(ig h f a)[u]?=f[va]? /\(ig h f a)[va]?=f[u]? :=by
   rcases ea with⟨n,Q⟩|⟨n,Q⟩
   .exact⟨by rw[X,aE (by rw[<-Q];exact D.symm),aI n,<-Q],by rw[X,aI Q,<-n]⟩
   exact⟨by rw[X,aI n,<-Q],by rw[X,aE (by rw[<-n];exact D),aI Q,<-n]⟩
  have GU:(dY h f [a,b])[pb]?=(ig h f a)[iB]? /\(dY h f [a,b])[iB]?=(ig h f a)[pb]? :=by
   rcases eb with⟨n,Q⟩|⟨n,Q⟩
   .exact⟨by rw[k,aE (by rw[<-Q];exact E.symm),aI n,<-Q],by rw[k,aI Q,<-n]⟩
   exact⟨by rw[k,aI n,<-Q],by rw[k,aE (by rw[<-n];exact E),aI Q,<-n]⟩
  refine⟨by rw[kb _ A z.symm,IL.1],by rw[kb _ v h3,IL.2],by rw[GU.1,ka _ z (Ne.symm h3)],by rw[GU.2,ka _ A.symm v.symm],λi N B n3 O=>by rw[kb i n3 O,ka i N B]⟩
 rcases cs with⟨c1,c2,c4,fv,c5,fZ⟩|⟨c1,c2,c4,fv,c5,fZ⟩
 .refine aiL g hw mf d1 d2 d3 d4 rfl two (by rw[c4];exact R) (by rw[fv];exact Y) (by rw[c5];exact Z) (by rw[fZ];exact H) qa ca cb qb Gq u9 λA=>?_;rw[c4,fv,c5,fZ]at*;obtain⟨g1,g2,T⟩:=ad A;obtain⟨s1,s2,xj,Bl,Xa⟩:=ab A;exact⟨by rw[s1,T _ D v],by rw[s2,g1],by rw[Bl,g2],by rw[xj,T _ z E],λi N B n3 O=>by rw[Xa i N B O n3,T i N O]⟩
 refine aiL g hw mf d1 d2 d3 d4 rfl two (by rw[c4];exact H) (by rw[fv];exact Z) (by rw[c5];exact Y) (by rw[fZ];exact R) qb cb ca qa Gq u9 λA=>?_;rw[c4,fv,c5,fZ]at*;obtain⟨g1,g2,T⟩:=ad A.symm;obtain⟨s1,s2,xj,Bl,Xa⟩:=ab A.symm;exact⟨by rw[xj,T _ z E],by rw[Bl,g2],by rw[s2,g1],by rw[s1,T _ D v],λi N B n3 O=>by rw[Xa i O n3 N B,T i O N]⟩
end
theorem SQ(x y:U):qk x y↔x=y:=by
 constructor
 .intro h;unfold qk at h;simp at h;obtain _:=h;cases x;cases y
  simp_all
 rintro rfl;exact Er x
def qB(a b:U):Bool:=if a.kind==b.kind then if a.gate==b.gate then if a.ao==b.ao then if a.id==b.id then if a.over==b.over then decide (a.sign<b.sign)else b.over else decide (a.id<b.id)else decide (a.ao<b.ao)else decide (a.gate<b.gate)else decide (a.kind<b.kind)
def r4:cT->cT->Bool
 |a::A,b::B=>if a=b then r4 A B else decide (a<b)
 |_,_=>false
def aCA(A:cT):r4 A A=false:=by
 induction A with
 |nil=>rfl
 |cons a A f=>unfold r4;rw[aI rfl];exact f
def azJ:∀ {A B:cT},r4 A B->r4 B A=false:=by
 intro A
 induction A with
 |nil=>intro B h;cases B<;>cases h
 |cons a A f=>
  intro B h;cases B with
  |nil=>cases h
  |cons b B=>grind [r4]
def azS:∀ {A B D:cT},r4 A B->r4 B D->r4 A D:=by
 intro A
 induction A with
 |nil=>intro B D h;cases B<;>cases h
 |cons a A f=>
  intro B D h H;cases B with
  |nil=>cases h
  |cons b B=>
   cases D with
   |nil=>cases H
   |cons d D=>grind [r4]
def xM(a:U):cT:=[a.kind,a.gate,a.ao,a.id,if a.over then 1 else 0,a.sign]
def Qj(a b:U):qB a b=r4 (xM a) (xM b):=by grind [qB,xM,r4]
theorem avS{a b:U}(h:qB a b):qB b a=false:=by rw[Qj]at*;exact azJ h
theorem av1{a b c:U}(h:qB a b)(H:qB b c):qB a c:=by rw[Qj]at*;exact azS h H
def lp:ae->ae->Bool
 |a::A,b::B=>if qk a b then lp A B else qB a b
 |_,_=>false
theorem VX(A:ae):lp A A=false:=by
 induction A with
 |nil=>rfl
 |cons a A f=>unfold lp;rw[aI (Er a)];exact f
theorem WN:∀ {A B D:ae},lp A B->lp B D->lp A D:=by
 intro A
 induction A with
 |nil=>intro B D h;cases B<;>cases h
 |cons a A f=>
  intro B D h H;cases B with
  |nil=>cases h
  |cons b B=>
   cases D with
   |nil=>cases H
   |cons d D=>grind [lp,SQ,avS,av1]
def fG(l:ae)(i:Nat):ae:=l.drop i++l.take i
def rZ(l:ae)(i:Nat):Prop:=aq U.ay (l.take i)%2=0
def GW(l:ae)(i:Nat):Prop:=(∃x,l[i]?=some x/\x.ay)/\rZ l i
theorem wR(l:ae)(i:Nat):I (fG l i)=I l:=by grind [fG]
def LF(q:U->Bool)(a b:ae):aq q (a++b)=aq q a+aq q b:=uW
theorem ads(q:U->Bool)(l:ae)(i:Nat):aq q (fG l i)=aq q l:=by grind [fG,mW]
def ar7{l:ae}{i:Nat}(v:j<=I l)(x:i<I l):∃k,k<I l/\fG (fG l j) i=fG l k/\(fG l j)[i]?=l[k]? /\(aq U.ay l%2=0->rZ l j->rZ (fG l j) i->rZ l k):=by
 by_cases h:i<I l-j
 .refine⟨j+i,J,?_,?_,?_⟩
  .unfold fG;rw[afI Pi,W5 Pi,Od,k9];congr 1;rw[<-List.take_add]
  .unfold fG;rw[yY Pi,E3]
  unfold rZ fG;intro _ n H;rw[W5 Pi]at H;rw[List.take_add,LF];omega
 refine⟨i-(I l-j),J,?_,?_,?_⟩
 .unfold fG;obtain⟨d,hd⟩:∃d,d=i-(I l-j):=⟨_,rfl⟩;rw[<-hd];have E:(l.drop j++l.take j).drop i=(l.take j).drop d:=by
   rw[abn,Xs Pi,gM,sD,hd]
  have u:(l.drop j++l.take j).take i=l.drop j++(l.take j).take d:=by grind [LA,eT]
  rw[E,u,<-k9];have f:(l.take j).take d=l.take d:=by rw[Gi,zx J]
  rw[f];congr 1;have m:l.drop d=(l.take j).drop d++l.drop j:=by
   conv=>lhs;rw[<-mW j l]
   rw[afI ww]
  exact m.symm
 .unfold fG;rw[uJ Pi,sD,sB];rw[aI J]
 unfold rZ fG;intro y n H;rw[LA,eT Pi,sD,LF,Gi,zx J]at H;have:aq U.ay l=aq U.ay (l.take j)+aq U.ay (l.drop j):=by rw[<-LF,mW]
 omega
def nP:cT->ae->ae
 |_,[]=>[]
 |s,x::r=>if x.kind==2 then(if s.contains x.id then{x with id:=((s.idxOf x.id+1:Nat):Int)}::nP s r else{x with id:=((I s+1:Nat):Int)}::nP (s++[x.id]) r)else x::nP s r
def nr(l:ae):ae:=nP [] l
def pO(f:Int->Int)(x:U):U:=if x.kind==2 then{x with id:=f x.id}else x
def aFw(f:Int->Int)(x:U):(pO f x).kind=x.kind:=by unfold pO;split<;>rfl
theorem YH(f:Int->Int)(x:U):(pO f x).ay=x.ay:=by unfold U.ay;rw[aFw]
def inj(f:Int->Int)(l:ae):Prop:=∀x∈l,∀y∈l,x.kind=2->y.kind=2->f x.id=f y.id->x.id=y.id
def aHt:∀ {l:ae}{s:cT},(∀x∈l,x.kind=2->∀a∈s,f x.id=f a->x.id=a)->inj f l->nP (s.map f) (l.map (pO f))=nP s l:=by
 intro l
 induction l with
 |nil=>intro s _ _;rfl
 |cons x r u=>
  intro s af B;have z:=λa v b F=>B a (zb _ v) b (zb _ F);by_cases n:x.kind=2
  .have D:(x.kind==2):=by rw[n];rfl
   have e:pO f x={x with id:=f x.id}:=aI D;have m:(s.map f).contains (f x.id)=s.contains x.id:=ii
   rw[fq,e];unfold nP;simp only[D,if_true,m];cases M:s.contains x.id with
   |true=>
    simp only[if_true];have L:(s.map f).idxOf (f x.id)=s.idxOf x.id:=by
     clear u;have Q:=af x aG n;clear af m M
     induction s with
     |nil=>rfl
     |cons a s E=>grind
    rw[L,u (λy H=>af y (zb _ H)) z]
   |false=>
    simp only[iJ,if_false,ct];have:=u (λy H j a v h=>by
     rcases iI.1 v with A|A
     .exact af y (zb _ H) j a A h
     rw[nI.1 A]at h |-;exact B y (zb _ H) x aG j n h) z
    rw[iT]at this;rw[<-this];rfl
  have D:=nj.2 n;have e:pO f x=x:=aE (by rw[D];decide);rw[fq,e];unfold nP;simp only[D,iJ,if_false];rw[u (λy H=>af y (zb _ H)) z]
theorem apk{l:ae}(h:inj f l):nr (l.map (pO f))=nr l:=aHt (s:=[]) (λ_ _ _ _ H=>by cases H) h
def rH:cT->ae->cT
 |s,[]=>s
 |s,x::r=>if x.kind==2 then(if s.contains x.id then rH s r else rH (s++[x.id]) r)else rH s r
theorem acY{l m:ae}(h:inj f l)(H:∀x∈m,x∈l):inj f m:=λx n y j=>h x (H x n) y (H y j)
theorem aiB(f:U->U)(l:ae)(i:Nat):fG (l.map f) i=(fG l i).map f:=by unfold fG;simp
theorem Wi{l:ae}{i:Nat}:x∈fG l i↔x∈l:=by unfold fG;rw[iI,Or.comm,<-iI,mW]
def Bh(l y:ae):Prop:= ∃i,i<I l/\GW l i/\y=nr (fG l i)
def CK(l y:ae):Prop:=Bh l y\/Bh l.reverse y
def aeD(l:ae):aq U.ay (l.map (pO f))=aq U.ay l:=by grind [sF,BM,YH]
def asg{l:ae}{i:Nat}(h:GW (l.map (pO f)) i):GW l i:=by
 obtain⟨⟨x,H,hp⟩,j⟩:=h;rw[fX]at H;cases hl:l[i]? with
 |none=>rw[hl]at H;cases H
 |some y=>rw[hl]at H;cases H;refine⟨⟨y,hl,by rw[YH]at hp;exact hp⟩,?_⟩;unfold rZ at*;rwa[<-uC,aeD]at j
def avA{l:ae}(hf:inj f l)(h:Bh (l.map (pO f)) y):Bh l y:=by
 obtain⟨i,H,j,rfl⟩:=h;rw[ct]at H;refine⟨i,H,asg j,?_⟩
 grind [aiB,apk,acY,Wi]
theorem aiM{l:ae}(n:j<=I l)(u:aq U.ay l%2=0)(hp:rZ l j)(h:Bh (fG l j) y):Bh l y:=by obtain⟨i,H,⟨⟨x,f,X⟩,v⟩,rfl⟩:=h;rw[wR]at H;obtain⟨k,m,E,A,z⟩:=ar7 n H;rw[A]at f;exact⟨k,m,⟨⟨x,f,X⟩,z u hp v⟩,by rw[E]⟩
theorem aBp(l:ae)(h:j<=I l):(fG l j).reverse=fG l.reverse (I l-j):=by grind [fG,List.drop_reverse,aed]
theorem aCK{l:ae}(f:j<=I l)(H:aq U.ay l%2=0)(hp:rZ l j):rZ l.reverse (I l-j):=by
 unfold rZ at*;rw[aed,show I l-(I l-j)=j by omega];have h:aq U.ay (l.drop j).reverse=aq U.ay _:=List.countP_reverse;have m:aq U.ay l=aq U.ay (l.take j)+aq U.ay (l.drop j):=by rw[<-LF,mW]
 omega
def aor(q:U->Bool)(l:ae):aq q l.reverse=aq q l:=List.countP_reverse
def avw:∀(l:ae) (s:cT),s.Nodup->(rH s l).Nodup/\ ∀a∈rH s l,a∈s\/ ∃x∈l,x.au/\x.id=a:=by
 intro l
 induction l with
 |nil=>intro s h;exact⟨h,λa f=>.inl f⟩
 |cons x r u=>
  intro s h;unfold rH;split
  .rename_i z;split
   .grind
   rename_i A;obtain⟨n,j⟩:=u (s++[x.id]) (by rw[SK];refine⟨h,aG,λa f b v e=>?_⟩;rw[nI.1 v]at e;exact(λh=>A (Rz.2 h)) (e▸f))
   refine⟨n,λa f=>?_⟩;rcases j a f with H|⟨y,m,H⟩
   .rcases iI.1 H with H|H
    .exact .inl H
    exact .inr ⟨x,aG,z,(nI.1 H).symm⟩
   exact .inr ⟨y,by simp[m],H⟩
  obtain⟨n,j⟩:=u s h;refine⟨n,λa f=>?_⟩;rcases j a f with H|⟨y,m,H⟩
  .exact .inl H
  exact .inr ⟨y,by simp[m],H⟩
def atJ(a b:U):aC S 175 [yk a,yk b] (cK (qB a b)):=by
 by_cases h:a.kind=b.kind
 .by_cases H:a.gate=b.gate
  .by_cases f:a.ao=b.ao
   .by_cases j:a.id=b.id
    .cases m:(a.over==b.over)
     case' true=>have e:qB a b=decide (a.sign<b.sign):=by simp only[qB,h,H,f,j,m,y8,if_true]
     case' false=>have e:qB a b=b.over:=by simp only[qB,h,H,f,j,m,y8,if_true,iJ,if_false]
     all_goals
      rw[e];refine ba Oz ?_;simp only[go_sem,LN,h,H,f,j,m,bne]
    have u:(a.id==b.id)=false:=by simp[j]
    have e:qB a b=decide (a.id<b.id):=by simp only[qB,h,H,f,u,y8,if_true,iJ,if_false]
    rw[e];refine ba Oz ?_;simp only[go_sem,LN,h,H,f,u,bne]
   have v:(a.ao==b.ao)=false:=aig
   have e:qB a b=decide (a.ao<b.ao):=by simp only[qB,h,H,v,y8,if_true,iJ,if_false]
   rw[e];refine ba Oz ?_;simp only[go_sem,LN,h,H,v,bne]
  have n:(a.gate==b.gate)=false:=mt
  have e:qB a b=decide (a.gate<b.gate):=by simp only[qB,h,n,y8,if_true,iJ,if_false]
  rw[e];refine ba Oz ?_;simp only[go_sem,LN,h,n,bne]
 have M:(a.kind==b.kind)=false:=ut
 have e:qB a b=decide (a.kind<b.kind):=by simp only[qB,M,iJ,if_false]
 rw[e];refine ba Oz ?_;simp only[go_sem,LN,M,bne]
def apW{A:ae}{k:Nat}(h:k<I A):A.drop k=aV A k::A.drop (k+1):=by simp_all
def aDC(A B:ae)(M:I A=I B)(hl:I A<=1000000):aC S 132 [.one (.p (fz A)),.one (.p (fz B))] (cK (lp A B)):=by
 generalize F:lp A B=r;refine ba ar4 ?_;simp only[go_sem,am5];refine cZ (λk f blk=>f 0=.one (.p (fz A))/\f 1=.one (.p (fz B))/\f 7=ai (I A)/\f 8=ai k/\lp (A.drop k) (B.drop k)=r) 0 (I A) (bj _) ?_ ?_
 .simp only[go_sem]
  grind
 rintro k f blk L ⟨y,D,v,m,H⟩
 by_cases u:k<I A
 .have O:=fW (iQ u);have Q:=fW (iQ (h:=B) (i:=k) J);have z:(k:Int)<(I A:Int):=J;have E:=cg (n:=k) J;have x:k<I B:=J;rw[apW u,apW x]at H;unfold lp at H;cases j:qk (aV A k) (aV B k)with
  |true=>rw[aI j]at H;simp only[go_sem,Vc,y,D,v,m,O,Q,U.ps,z,u,E,F_,j];exact⟨aK,H⟩
  |false=>rw[aE (by rw[j];decide)]at H;have pl:=atJ (aV A k) (aV B k);rw[H]at pl;simp only[go_sem,Vc,y,D,v,m,O,Q,U.ps,z,F_,j,aFH,mA pl];first|exact⟨aK,aK,rfl⟩|exact⟨aK,aK⟩
 have:k=I A:=J;subst this;rw[OI,Xs J]at H;have H:false=r:=H;subst H;simp only[go_sem,Vc,afK,v,m,ek]
theorem aml(l:ae)(x:U):∀s,rH s (l++[x])=if x.kind==2 then(if(rH s l).contains x.id then rH s l else rH s l++[x.id])else rH s l:=by
 induction l with
 |nil=>intro s;rfl
 |cons a r f=>
  intro s
  grind [rH]
def Lf(s:cT)(x:U):U:=if x.kind==2 then(if s.contains x.id then{x with id:=((s.idxOf x.id+1:Nat):Int)}else{x with id:=((I s+1:Nat):Int)})else x
theorem ao7(l:ae)(x:U):∀s,nP s (l++[x])=nP s l++[Lf (rH s l) x]:=by
 induction l with
 |nil=>
  intro s;show nP s [x]=[Lf s x];unfold nP Lf;split
  .split<;>rfl
  rfl
 |cons a r f=>
  intro s
  grind [nP,rH]
theorem JD:∀(l:ae) (s:cT),I (nP s l)=I l:=by
 intro l
 induction l with
 |nil=>intro s;rfl
 |cons a r f=>grind [nP]
theorem AR(l:ae):I (nr l)=I l:=JD l []
def D0(s:cT)(i:Nat):jn:=match s with
 |[]=>[]
 |a::r=>(a,((i+1:Nat):Int))::D0 r (i+1)
def aDI:∀(s:cT) (i:Nat),I (D0 s i)=I s:=by
 intro s
 induction s with
 |nil=>intro i;rfl
 |cons a r f=>intro i;show(D0 r _).length+1=_;rw[f];rfl
def aEY(a:Int):∀(s:cT) (i:Nat),D0 s i++[(a,((i+I s+1:Nat):Int))]=D0 (s++[a]) i:=by
 intro s
 induction s with
 |nil=>intro i;rfl
 |cons b r f=>grind [D0]
def anP(x:Int):∀(s:cT) (i:Nat),Ql (D0 s i) x i=if s.contains x then some (i+s.idxOf x,((i+s.idxOf x+1:Nat):Int))else none:=by
 intro s
 induction s with
 |nil=>intro i;rfl
 |cons a r f=>
  intro i;show(if x==a then some _ else Ql _ x _)=_;by_cases h:x=a
  .subst h;simp
  have H:=nj.2 h;rw[H,f _,List.contains_cons,H,H7,List.idxOf_cons,nj.2 (Ne.symm h)]
  grind
def ue(L:ae)(k:Nat):ae:=nP [] (L.take k)++L.drop k
def azU(L:ae){k:Nat}:I (ue L k)=I L:=by grind [ue,JD]
def abc{L:ae}{k:Nat}(h:L[k]?=some x):L.take (k+1)=L.take k++[x]:=by obtain⟨hl,e⟩:=bN.1 h;rw[<-e,List.take_append_getElem]
def aEy{L:ae}{k:Nat}(h:L[k]?=some x):(ue L k)[k]?=some x:=by have hl:=(bN.1 h).1;unfold ue;rw[uJ (by rw[JD,ko];omega),JD,ko,E3,zx J,BU,Ab,h]
def ayW{L:ae}{k:Nat}(h:L[k]?=some x):(ue L k).set k (Lf (rH [] (L.take k)) x)=ue L (k+1):=by
 obtain⟨hl,e⟩:=bN.1 h;have f:L.drop k=x::L.drop (k+1):=by rw[<-e,yK]
 have H:I (nP [] (L.take k))=k:=by rw[JD,ko];omega
 unfold ue;rw[abc h,ao7,f,Nl _ _ J,H,BU,adw,k9];rfl
def au0{L:ae}{k:Nat}(h:L[k]?=some x)(H:(x.kind==2)=false):ue L (k+1)=ue L k/\rH [] (L.take (k+1))=rH [] (L.take k):=by
 obtain _:=bN.1 h
 grind [yK,ue,ao7,Lf,aml]
def aEL(L:ae)(aN:L≠[])(hl:I L<=1000000):aC S 130 [.one (.p (fz L))] (.one (bU fO 6 (bY (nr L)))):=by
 refine ba aCS ?_;simp only[go_sem,ahh,aeV];refine pB (ajB aN hl) ah (.inl rfl) λcc mN gc ia=>?_;have b0:=ia 8320064000 aa;rcases gc with⟨e,_⟩|⟨_,E,e,hC⟩
 .exact absurd aH0 aN
 cases e;rw[ct];simp only[go_sem]at b0;simp only[go_sem];refine cZ (λk A blk=>A 3=.one (.ow 8320064000 1)/\A 4=.one (.hsl 8320128064 E 6 0 (I L))/\A 10=.one (.hsl 8320128064 E 6 0 (I L))/\A 11=ai (I L)/\A 12=ai k/\
  blk 8320064000=(1,some (.map false (WS (D0 (rH [] (L.take k)) 0))))/\blk 8320128064=(E,some (.arr fO 6 (bY (ue L k))))) 0 (I L) (bj _) ?_ ?_
 .simp only[go_sem,b0];exact⟨rfl,rfl,hC⟩
 rintro k A blk hk ⟨h3,z,X,M,N,v,B⟩
 by_cases u:k<I L
 .have Y:((k:Int)<(I L:Int)):=J;obtain⟨x,D⟩:=aP u;have ZA:k<I (ue L k):=by rw[azU];exact u
  have Q:=fW (aEy D);obtain⟨n1,_⟩:=avw (L.take k) [] pW;have hsl:∀(l:ae) (s:cT),I (rH s l)<=I s+I l:=by
   intro l
   induction l with
   |nil=>intro s;exact cP _
   |cons a r ih=>grind [rH]
  have GK:=hsl (L.take k) [];rw[ko]at GK;simp only[fB]at GK;have R:=cg (n:=k) J;cases m:(x.kind==2)with
  |false=>obtain⟨e1,e2⟩:=au0 D m;rw[<-e1]at B Q ZA;rw[<-e2]at v;simp only[go_sem,Rs,h3,z,X,M,N,v,B,u,Y,Q,U.ps,m,bne,R]
  |true=>
   have f:=ayW D;have j:=aml (L.take k) x [];rw[<- (abc D),m,aI rfl]at j;unfold Lf at f;rw[m,aI rfl]at f;generalize rH [] (L.take k)=s at f j v GK;have w2:=cg (n:=I s) J;have F:=afb (D0 s 0) x.id 0;rw[anP]at F;have iX:=aDI s 0;cases O:s.contains x.id with
   |false=>
    rw[O]at f j F;simp only[iJ,if_false,Option.map_none]at f j F;have y:=afb (D0 (s++[x.id]) 0) x.id 0;rw[anP,show(s++[x.id]).contains x.id=true by simp]at y;have Kl:(s++[x.id]).idxOf x.id=I s:=by rw[List.idxOf_append,aE (λh=>by rw[Rz.2 h]at O;cases O)];simp
    rw[Kl]at y;simp only[if_true,vB,lh]at y;have T:=aEY x.id s 0;rw[lh]at T;rw[<-T,<-aja]at y;have Z:(bY (ue L k)).set k [.int .i64 x.kind,.int .i64 x.gate,.int .i64 x.ao,.int .i64 ((I s+1:Nat):Int),.int .i64 x.sign,.bool x.over]=bY (ue L (k+1)):=by rw[<-f,<-ahu];rfl
    simp only[go_sem,Rs,h3,z,X,M,N,v,B,u,Y,Q,U.ps,m,bne,R,w2,iX,vc,uO,pz,CU,HR,F,Option.map_none,y,Z];rw[j,<-T,<-aja]
   |true=>
    rw[O]at f j F;simp only[if_true,vB,lh]at f j F;have hv:((((s.idxOf x.id+1:Nat):Int))==0)=false:=ro
    have Z:(bY (ue L k)).set k [.int .i64 x.kind,.int .i64 x.gate,.int .i64 x.ao,.int .i64 ((s.idxOf x.id+1:Nat):Int),.int .i64 x.sign,.bool x.over]=bY (ue L (k+1)):=by rw[<-f,<-ahu];rfl
    simp only[go_sem,Rs,h3,z,X,M,N,v,B,u,Y,Q,U.ps,m,bne,R,vc,uO,pz,F,hv,Z];rw[j]
 have:k=I L:=J;subst this;have hX:ue L (I L)=nr L:=by unfold ue nr;rw[lN,OI,j_]
 rw[hX]at B;have H:=AR L;simp only[go_sem,Rs,aqr,z,M,N,ek];refine qN (.inr ⟨?_,E,by rw[ct,H],B⟩);intro h2;have:=congrArg List.length h2;rw[ct,H]at this;exact aN (yc.1 this)
def J8(h:ae)(i:Nat):Bool:=((aV h.reverse i).kind==1)&& !((l8 h).getD (I h-1-i) false)
def sR(h:ae):ae:=match (List.range (I h)).find? (J8 h)with
 |some i=>fG h.reverse i
 |none=>h.reverse
def Md(h:ae):I (sR h)=I h:=by grind [sR,wR]
def axW(D:h≠[])(hl:I h<=1000000):aC S 129 [.one (.p (pX F h))] (.one (bU fO 6 (bY (sR h)))):=by
 have tF:=Md h;generalize H:sR h=R at tF;refine ba ahX ?_;simp only[go_sem,aaQ,aeV];refine pB (ajB D hl) ah (.inl rfl) λcc mN gc ia=>?_;simp only[go_sem,aon];refine ann (λo ab=>az2 o fd (as6 _) ab) (gc.of_eq rfl) λak iz am=>?_;rw[atl]at iz;rcases iz with⟨e,_⟩|⟨_,gg,e,hC⟩
 .have:=congrArg List.length e;rw[ct,r_]at this;exact absurd (yc.1 this) D
 cases e;rw[ct,r_];simp only[go_sem];have Q:I h.reverse=I h:=r_;have M:IntKind.i64.wrap ((I h:Int)-1)=((I h-1:Nat):Int):=by have:=iW.2 D;rw[iS J J];omega
 have yx:I (l8 h)=I h:=aIv
 unfold sR at H;have f:∀i,J8 h i=(((aV h.reverse i).kind==1)&& !((l8 h).getD (I h-1-i) false)):=λ_=>rfl;generalize J8 h=bp at H f;generalize h.reverse=X at hC Q gc H f;refine cZ (λk A blk=>A 0=.one (.p (pX F h))/\A 3=.one (.hsl 8256064320 gg 6 0 (I h))/\A 15=ai (I h)/\A 16=ai k/\blk 8256064320=(gg,some (.arr fO 6 (bY X)))/\ ∀j,j<k->bp j=false) 0 (I h) (bj _) ?_ ?_
 .simp only[go_sem,hC];first|exact⟨rfl,λj ab=>absurd ab (oJ j)⟩|exact⟨rfl,rfl,λj ab=>absurd ab (oJ j)⟩
 rintro k A blk hk ⟨N,B,Y,z,E,L⟩
 by_cases y:k<I h
 .have Z:((k:Int)<(I h:Int)):=J;have ZA:k<I X:=J;have O:=fW (iQ ZA);have w1:=cg (n:=k) J;have w2:IntKind.i64.wrap (((I h-1:Nat):Int)-(k:Int))=((I h-1-k:Nat):Int):=by
   rw[iS J J];omega
  obtain⟨d,hd⟩:=aP (h:=l8 h) (k:=I h-1-k) J;have oY:=rB hd;have ag:I h-1-k<I (l8 h):=J;have m:=f k;rw[show(l8 h).getD (I h-1-k) false=d by rw[dM,hd];rfl]at m;generalize aV X k=x at O m;have ad:I h<=I X:=J;have T:List.take (I h) (bY X)=bY X:=eT In;have pr:=aio X k J J;have nx:bp k=false->∀j,j<k+1->bp j=false:=λhb j hj=>by
   rcases vq.1 hj with ab|rfl
   .exact L j ab
   exact hb
  cases u:(x.kind==1)with
  |false=>rw[u,JQ]at m;simp only[go_sem,Lz,N,B,Y,z,E,y,Z,O,U.ps,u,M,w1,w2];exact nx m
  |true=>
   cases d with
   |true=>rw[u]at m;simp only[go_sem,Lz,N,B,Y,z,E,y,Z,O,U.ps,u,M,w1,w2,oY];exact nx m
   |false=>rw[u]at m;have hf:=CC y L m;rw[hf]at H;have H:fG X k=R:=H;unfold fG at H;simp only[go_sem,Lz,N,B,Y,z,E,y,Z,O,U.ps,u,M,w2,oY,ad,T,Xi];refine pB pr ah (.inr (qF (Ee _))) λcr nE v jE=>?_;rw[H]at v;simp only[go_sem];exact qN v
 have:k=I h:=J;subst this;rw[I7 λj hj=>L j hj]at H;subst H;simp only[go_sem,Lz,YB,B,Y,z,ek];refine qN (.inr ⟨?_,gg,by rw[ct,Q],E⟩);intro h2;have:=congrArg List.length h2;rw[ct,Q]at this;exact D (yc.1 this)
def A_(l:ae)(i:Nat):Bool:=((aV l i).kind==1)&&decide (aq U.ay (l.take i)%2=0)
def s6(l:ae)(n:Nat):AB:=(List.range n).filterMap λi=>if A_ l i then some (nr (fG l i))else none
def az0(l:ae)(n:Nat):s6 l (n+1)=s6 l n++(if A_ l n then [nr (fG l n)]else []):=by
 unfold s6;rw[mJ,SA]
 grind
def vm(z:Option ae)(y:ae):Option ae:=match z with
 |none=>some y
 |some z=>if lp y z then some y else some z
def xY(V:AB):Option ae:=V.foldl vm none
def auG(V:AB)(y:ae):xY (V++[y])=vm (xY V) y:=by unfold xY;rw[Bq];rfl
def aBO{V:AB}:∀ {o z},V.foldl vm o=some z->z∈V\/o=some z:=by
 induction V with
 |nil=>intro o z h;exact .inr h
 |cons y V f=>
  intro o z h;rcases f h with H|H
  .grind
  cases o with
  |none=>cases H;exact .inl aG
  |some w=>grind [vm]
def Y6{V:AB}(h:xY V=some z):z∈V:=by
 rcases aBO h with h|h
 .exact h
 cases h
def rq:Option ae->PV
 |none=>.nils
 |some Y=>fz Y
def wT(F:Nat)(h:ae)(f:Nat)(B:dy)(k:Nat)(V:AB)(A:bP)(blk:aH):Prop:=
 A 0=.one (.p (pX F h))/\A 2=.one (.aW 5440000000 1 0)/\A 17=.one (.hsl 5440128448 f 1 0 2)/\A 18=ai 2/\A 19=ai k/\A 3=.one (.p (rq (xY V)))/\
 blk 5440000000=(1,some (.var [.p (.int .i64 0),.p .nils]))/\blk 5440128448=(f,some (.arr 22 1 B))
def aoE(l:ae){i:Nat}(h:l[i]?=some x):decide (aq U.ay (l.take (i+1))%2=0)=if x.kind==1 then !decide (aq U.ay (l.take i)%2=0)else decide (aq U.ay (l.take i)%2=0):=by
 rw[abc h,LF];have:aq U.ay [x]=if x.kind==1 then 1 else 0:=by show List.countP _ [x]=_;rw[Y4];rfl
 grind
def apt{l:ae}{gB k:Nat}{bs:dy}{V:AB}{Q:ib}{A:bP}{blk:aH}(aN:l≠[])(A6:I l=I h)(hl:I h<=1000000)(hV:∀y∈V,I y=I h)(hI:wT F h gB bs k V A blk)(E:A 5=.one (.p (fz l)))(B:A 6=iB true)(L:A 23=.one (.p (fz l)))(v:A 24=ai (I h))(u:A 25=ai 0)
  (hK:∀aF ak,wT F h gB bs k (V++s6 l (I h)) aF ak->Q .normal aF ak):W S .all (.loop Fu) (oh 2 Q) A blk:=by
 refine cZ (λi A blk=>wT F h gB bs k (V++s6 l i) A blk/\A 5=.one (.p (fz l))/\A 6=iB (decide (aq U.ay (l.take i)%2=0))/\A 23=.one (.p (fz l))/\A 24=ai (I h)/\A 25=ai i) 0 (I h) (bj _) ⟨by rw[show s6 l 0=[]from rfl,j_];exact hI,E,B,L,v,u⟩ ?_;rintro i A blk hi ⟨⟨N,M,O,nL,X,H,b0,bB⟩,E,B,L,v,u⟩
 by_cases aw:i<I h
 .have aL:((i:Int)<(I h:Int)):=J;have ad:i<I l:=J;have wD:=iQ ad;have oz:=fW wD;have m:=aoE l wD;have T:=az0 l i;unfold A_ at T;have nQ:∀y∈V++s6 l i,I y=I h:=λy hy=>by
   rcases iI.1 hy with ag|ag
   .exact hV y ag
   obtain⟨j,_,e⟩:=Cb.1 ag;split at e
   .cases e;rw[AR,wR,A6]
   cases e
  generalize aV l i=x at oz m T;generalize decide (aq U.ay (l.take i)%2=0)=d at m T B;generalize s6 l i=W0 at*;have w1:=cg (n:=i) J;have pr:=aio l i J J;have Qe:I (fG l i)=I h:=by rw[wR,A6]
  rw[show l.drop i++l.take i=fG l i from rfl]at pr;generalize fG l i=R at pr Qe T;have Ut:R≠[]:=iW.1 J;have pn:=aEL R Ut J;have hY:=AR R;generalize nr R=Y at pn hY T;have Zd:Y≠[]:=iW.1 J;have nX:S.lone 5440704128:=XR ah;have rV:S.lone 5440704192:=XR ah;cases D:(x.kind==1)with
  |false=>rw[D]at m T;simp only[JQ,iJ,if_false,j_]at m T;simp only[go_sem,Fu,E,B,L,v,u,aw,aL,oz,U.ps,D,bne,w1];simp only[go_sem,wT,T,m,N,M,H,O,nL,X,b0,bB]
  |true=>
   rw[D]at m T;cases d with
   |false=>simp only[BE,iJ,if_false,if_true,j_,Hl]at m T;simp only[go_sem,Fu,E,B,L,v,u,aw,aL,oz,U.ps,D,bne,w1];simp only[go_sem,wT,T,m,N,M,H,O,nL,X,b0,bB]
   |true=>
    simp only[BE,if_true,AL]at m T;have f:xY (V++(W0++[Y]))=vm (xY (V++W0)) Y:=by rw[<-k9,auG]
    cases hz:xY (V++W0)with
    |none=>rw[hz]at f H;have f:xY (V++(W0++[Y]))=some Y:=f;have H:A 3=.one (.p .nils):=H;simp only[go_sem,Fu,H,E,B,L,v,u,aw,aL,oz,U.ps,D,bne,w1,Xi,dt pr (JM Ut nX),Y0,dt pn (JM Zd rV)];simp only[go_sem,wT,T,m,f,rq,N,M,H,O,nL,X,b0,bB]
    |some Z=>
     rw[hz]at f H;have hZ:=nQ Z (Y6 hz);have H:A 3=.one (.p (fz Z)):=H;have pb:=aDC Y Z J J;obtain⟨e,es,he⟩:∃e es,bY Z=e::es:=by
      cases Z with
      |nil=>simp at hZ;omega
      |cons z t=>exact⟨_,_,rfl⟩
     have ab:PV.sl (e::es)=fz Z:=by rw[<-he]
     rw[<-ab]at pb H;unfold vm at f;simp only at f;cases hb:lp Y Z with
     |false=>rw[hb]at pb f;simp only[iJ,if_false]at f;simp only[go_sem,Fu,H,E,B,L,v,u,aw,aL,oz,U.ps,D,bne,w1,Xi,dt pr (JM Ut nX),Y0,dt pn (JM Zd rV),ajP,cS pb];simp only[go_sem,wT,T,m,f,rq,ab,N,M,H,O,nL,X,b0,bB]
     |true=>rw[hb]at pb f;simp only[if_true]at f;simp only[go_sem,Fu,H,E,B,L,v,u,aw,aL,oz,U.ps,D,bne,w1,Xi,dt pr (JM Ut nX),Y0,dt pn (JM Zd rV),ajP,cS pb];simp only[go_sem,wT,T,m,f,rq,N,M,H,O,nL,X,b0,bB]
 have:i=I h:=J;subst this;simp only[go_sem,Fu,v,u,ek];refine hK _ _ ?_;simp only[go_sem,wT,N,M,H,O,nL,X,b0,bB]
def DP(h:ae):AB:=s6 h (I h)++s6 (sR h) (I h)
def tZ(h:ae):Option ae:=xY (DP h)
def YJ{l:ae}(h:y∈s6 l n):I y=I l:=by
 obtain⟨j,_,e⟩:=Cb.1 h;split at e
 .cases e;rw[AR,wR]
 cases e
theorem asP(D:h≠[])(hl:I h<=1000000):aC S 85 [.one (.p (pX F h))] (.agg [.p (.int .i64 F),.p (rq (tZ h))]):=by
 have pb:=axW (F:=F) D hl;have z:=Md h;generalize x:tZ h=R;unfold tZ DP at x;generalize sR h=B at pb z x;have A:B≠[]:=ii
 have T:S.lone 5440128384:=XR ah;refine ba al2 ?_;simp only[go_sem,ach,ajN,od pb (JM A T)];refine⟨aK,?_⟩;refine cZ (λk=>wT F h 1 [[fz h],[fz B]] k (if k=0 then []else if k=1 then s6 h (I h) else s6 h (I h)++s6 B (I h))) 0 2 (bj _) ?_ ?_
 .simp only[go_sem,wT];first|done|exact⟨rfl,rfl⟩|exact⟨rfl,rfl,rfl⟩|exact⟨rfl,rfl,rfl,rfl,rfl,rfl,rfl,rfl⟩|rfl
 intro k E blk hk N;obtain⟨m,j,O,n,f,H,b0,bB⟩:=N;by_cases aw:k<2
 .have Z:k=0\/k=1:=J;have v:((0:Nat):Int)<2:=aa;have L:((1:Nat):Int)<2:=aa;rcases Z with rfl|rfl
  .simp only[go_sem,I9,O,n,f,bB,v];refine apt (F:=F) (gB:=1) (k:=0) (bs:=[[fz h],[fz B]]) (V:=[]) D rfl hl (λy Y=>by cases Y) ?_ rfl rfl rfl rfl rfl λQ X M=>?_
   .simp only[go_sem,wT,m,j,H,O,n,f,b0,bB];first|done|rfl
   obtain⟨m,j,O,n,f,H,b0,bB⟩:=M;rw[gM]at H;exact aIK
  simp only[go_sem,I9,O,n,f,bB,L];refine apt (F:=F) (gB:=1) (k:=1) (bs:=[[fz h],[fz B]]) (V:=s6 h (I h)) A z hl (λy Y=>YJ Y) ?_ rfl rfl rfl (by rw[<-z];rfl) rfl λQ X M=>?_
  .simp only[go_sem,wT,m,j,H,O,n,f,b0,bB];first|done|rfl
  obtain⟨m,j,O,n,f,H,b0,bB⟩:=M;exact aIK
 have:k=2:=J;subst this;have u:¬(((2:Nat):Int)<2):=aa;have H:E 3=.one (.p (rq R)):=by rw[<-x];exact H
 simp only[go_sem,I9,YL,m,j,H,n,f,b0,u];cases R<;>rfl
def afD(E:LK){f:Int}(hl:I h<=1000000)(H:fP f h=0):aC S 52 [c7 f h] (.tup [.agg [.p (.int .i64 f),.p (rq (tZ h))],.one (.p (.int .i64 0))]):=by
 have pr:=XX f h hl;rw[Sx H]at pr;have m:aC S 85 [.one (.p (if h=[]then CS f else pX f.toNat h))] (.agg [.p (.int .i64 f),.p (rq (tZ h))]):=by
  by_cases A:h=[]
  .rw[aI A];subst A;exact aED E f
  grind [E4,asP]
 have j:(if h=[]then CS f else pX f.toNat h).norm=(if h=[]then CS f else pX f.toNat h):=by split<;>simp[ajh]
 refine ba avp ?_;simp only[go_sem,alu,abH,dt pr kR,aEq,dt m avd,j];rfl
def aD9:∀ {A B:cT},I A=I B->r4 A B=false->r4 B A=false->A=B:=by
 intro A
 induction A with
 |nil=>intro B h _ _;cases B with
  |nil=>rfl
  |cons _ _=>cases h
 |cons a A f=>
  intro B h j H;cases B with
  |nil=>cases h
  |cons b B=>grind [r4]
def aGa{a b:U}(h:xM a=xM b):a=b:=by
 cases a with|mk k g r i s o=>cases b with|mk m g' R j f O=>
 grind [xM]
theorem Vx:∀ {A B:ae},I A=I B->lp A B=false->lp B A=false->A=B:=by
 intro A
 induction A with
 |nil=>intro B h _ _;cases B with
  |nil=>rfl
  |cons _ _=>cases h
 |cons a A j=>
  intro B h f H;cases B with
  |nil=>cases h
  |cons b B=>
   unfold lp at f H;by_cases e:a=b
   .grind [Er]
   rw[aE (λx=>e ((SQ _ _).1 x)),Qj]at f;rw[aE (λx=>e ((SQ _ _).1 x).symm),Qj]at H;exact absurd (aGa (a:=a) (b:=b) (aD9 rfl f H)) e
def auh:∀ {V:AB}{o z},(∀y∈V,I y=n)->(∀w,o=some w->I w=n)->V.foldl vm o=some z->(∀y∈V,lp y z=false)/\(∀w,o=some w->lp w z=false):=by
 intro V
 induction V with
 |nil=>grind [VX]
 |cons y V A=>
  intro o z D E h;have x:=D y aG;have j:∀u∈V,I u=n:=λu f=>D u aig;cases o with
  |none=>
   obtain⟨v,m⟩:=A j (λw H=>by cases H;exact x) h;refine⟨λw H=>?_,λw H=>(by cases H)⟩;rcases dh.1 H with rfl|H
   .exact m w rfl
   exact v w H
  |some w=>
   have F:=E w rfl;have h:V.foldl vm (vm (some w) y)=some z:=h;cases B:lp y w with
   |true=>
    have e:vm (some w) y=some y:=by unfold vm;simp only[B,if_true]
    rw[e]at h;obtain⟨v,m⟩:=A j (λw H=>by cases H;exact x) h;have L:=m y rfl;refine⟨λu f=>?_,λu f=>?_⟩
    .rcases dh.1 f with rfl|f
     .exact L
     exact v u f
    grind [WN]
   |false=>
    have e:vm (some w) y=some w:=by unfold vm;simp only[B,iJ,if_false]
    rw[e]at h;obtain⟨v,m⟩:=A j (λw H=>by cases H;exact F) h;have H:=m w rfl;refine⟨λu f=>?_,λu f=>by cases f;exact H⟩;rcases dh.1 f with rfl|f
    .grind [WN,Vx]
    exact v u f
def aeK{V:AB}(f:∀y∈V,I y=n)(h:xY V=some z):z∈V/\ ∀y∈V,lp y z=false:=
 ⟨Y6 h,(auh f (λw H=>by cases H) h).1⟩
def aeH{V:AB}(h:V≠[]):∃z,xY V=some z:=by
 have f:∀(V:List _) (w:ae),∃z,V.foldl vm (some w)=some z:=by
  intro V
  induction V with
  |nil=>intro w;exact⟨w,rfl⟩
  |cons y V j=>
   intro w;show∃z,V.foldl vm _=some z;unfold vm;simp only;split
   .exact j y
   exact j w
 cases V with
 |nil=>exact absurd rfl h
 |cons y V=>exact f V y
def aAW{V W:AB}(j:∀y∈V,I y=n)(h:∀y,y∈V↔y∈W):xY V=xY W:=by
 by_cases H:V=[]
 .have f:W=[]:=by
   cases W with
   |nil=>rfl
   |cons y W=>have:=(h y).2 aG;rw[H]at this;cases this
  rw[H,f]
 have f:W≠[]:=λe=>by
  cases V with
  |nil=>exact H rfl
  |cons y V=>have:=(h y).1 aG;rw[e]at this;cases this
 obtain⟨z,x⟩:=aeH H;obtain⟨u,v⟩:=aeH f;obtain _:=aeK j x;obtain _:=aeK (λy m=>j y ((h y).2 m)) v
 grind [Vx]
theorem aeP{l:ae}{i:Nat}(m:i<I l):A_ l i↔GW l i:=by
 have h:=iQ m;unfold A_ GW rZ;rw[cF,fL];constructor
 .rintro ⟨j,H⟩
  exact⟨⟨_,h,j⟩,H⟩
 rintro⟨⟨x,f,hp⟩,H⟩
 rw[h]at f;cases f;exact⟨hp,H⟩
def anS{l:ae}:y∈s6 l (I l)↔Bh l y:=by
 unfold s6 Bh;rw[Cb];constructor
 .rintro _
  grind [aeP]
 rintro⟨i,h,H,rfl⟩
 exact⟨i,fU.2 h,by rw[aI ((aeP h).2 H)]⟩
def at6(v:aq U.ay h%2=0):∃j,j<=I h/\rZ h.reverse j/\sR h=fG h.reverse j:=by
 unfold sR;split
 .rename_i i hf;have y:=fU.1 (AP hf);have H:=BK hf;unfold J8 at H;rw[cF]at H;obtain⟨n,m⟩:=H;refine⟨i,J,?_,rfl⟩;obtain⟨x,f⟩:=aP (h:=h) (k:=I h-1-i) J;rw[apq (by rw[Rj J];exact f)]at n;have u:(l8 h).getD (I h-1-i) false=dn h (I h-1-i):=by
   unfold l8;rw[dM,fX,wZ J];show ep h (I h-1-i)=_;unfold ep;rw[f];show(x.ay&&_)=_;rw[show x.ay=true from n,BE]
  rw[u]at m;unfold dn at m;unfold rZ;rw[aed,aor];have E:aq U.ay h=aq U.ay (h.take (I h-i))+aq U.ay (h.drop (I h-i)):=by rw[<-LF,mW]
  have z:=aoE h f
  grind
 refine⟨0,bj _,rfl,?_⟩;unfold fG;simp
theorem aCJ{l:ae}(h:j<=I l)(H:aq U.ay l%2=0)(hp:rZ l j):rZ (fG l j) (I l-j)/\fG (fG l j) (I l-j)=l:=by grind [rZ,fG,mW]
theorem ajJ{l:ae}(H:j<=I l)(f:aq U.ay l%2=0)(hp:rZ l j):Bh (fG l j) y↔Bh l y:=by
 refine⟨aiM H f hp,λh=>?_⟩
 grind [aCJ,aiM,wR,ads]
def aBH{l:ae}{i:Nat}(h:GW l i):GW (l.map (pO f)) i:=by obtain⟨⟨x,H,hp⟩,j⟩:=h;refine⟨⟨pO f x,by rw[fX,H];rfl,by rw[YH];exact hp⟩,?_⟩;unfold rZ at*;rw[<-uC,aeD];exact j
def alQ{l:ae}(hf:inj f l):Bh (l.map (pO f)) y↔Bh l y:=by
 refine⟨avA hf,?_⟩;rintro⟨i,H,h,rfl⟩
 refine⟨i,by rw[ct];exact H,aBH h,?_⟩
 grind [aiB,apk,acY,Wi]
def my(a b:ae):Prop:=I a=I b/\aq U.ay a%2=aq U.ay b%2/\ ∀y,CK a y↔CK b y
def my.refl(a:ae):my a a:=⟨rfl,rfl,λ_=>Iff.rfl⟩
def my.trans{a b c:ae}(h:my a b)(k:my b c):my a c:=⟨h.1.trans k.1,h.2.1.trans k.2.1,λy=>(h.2.2 y).trans (k.2.2 y)⟩
def anu{l:ae}(h:j<=I l)(H:aq U.ay l%2=0)(hp:rZ l j):my (fG l j) l:=by
 refine⟨wR _ _,by rw[ads],λy=>?_⟩
 grind [CK,ajJ,aBp,aCK]
def aGj{l:ae}:my l.reverse l:=by
 refine⟨r_,by rw[aor],λy=>?_⟩;unfold CK
 grind
def aFa{l:ae}(hf:inj f l):my (l.map (pO f)) l:=by refine⟨ct ..,by rw[aeD],λy=>?_⟩;unfold CK;rw[alQ hf,<-List.map_reverse,alQ (acY hf λx h=>List.mem_reverse.1 h)]
theorem HT{l:ae}(h:aq U.ay l%2=0):y∈DP l↔CK l y:=by
 obtain⟨j,H,hp,e⟩:=at6 h;unfold DP CK;have hl:s6 (sR l) (I l)=s6 (sR l) (I (sR l)):=by rw[Md]
 rw[iI,hl,anS,anS,e,ajJ ii ii hp]
def Wc{l:ae}(h:y∈DP l):I y=I l:=by
 rcases iI.1 h with h|h
 .exact YJ h
 rw[YJ h,Md]
def avW{a b:ae}(H:aq U.ay a%2=0)(h:my a b):tZ a=tZ b:=by obtain⟨n,m,j⟩:=h;refine aAW (λy f=>Wc f) λy=>?_;rw[HT H,HT J];exact j y
section
variable {F:Nat} {h:ae}
def aU.ajc(g:aU F h):GW h 0:=by obtain⟨l,f,H⟩:=g.first;exact⟨⟨l,f,H⟩,rfl⟩
def lW(h:ae):ae:=(tZ h).getD []
def aU.nor(g:aU F h):tZ h=some (lW h)/\CK h (lW h)/\ ∀y,CK h y->lp y (lW h)=false:=by
 have H:=g.even;have j:DP h≠[]:=λe=>by
  have:=(HT H).2 (.inl ⟨0,iW.2 g.ne,g.ajc,rfl⟩)
  grind
 obtain⟨z,m⟩:=aeH j;obtain _:=aeK (λy f=>Wc f) m
 grind [tZ,lW,HT]
end
structure aHG (F:Nat) (L M:ae) (r:Bool) (s t:Nat->Nat):Prop where
 g:aU F L
 g':aU F M
 len:I M=I L
 lt:∀v,v<I L->s v<I L
 lt':∀v,v<I L->t v<I L
 st:∀v,v<I L->s (t v)=v
 ts:∀v,v<I L->t (s v)=v
 step:∀v,v<I L->if r=true then nx L (s (nx L v))=s v else s (nx L v)=nx L (s v)
 at_:∀v l,L[v]?=some l->∃m,M[s v]?=some m/\m.kind=l.kind/\m.gate=l.gate/\m.ao=l.ao/\m.sign=l.sign/\m.over=l.over
 ids:∀u v l m l' m',L[u]?=some l->L[v]?=some m->M[s u]?=some l'->M[s v]?=some m'->l.au->m.au->(l'.id=m'.id↔l.id=m.id)
 dwn:∀v l,L[v]?=some l->l.ay->dn M (s v)=(dn L v !=r)
 cn:∀p:U->Bool,(∀l m:U,m.kind=l.kind->m.gate=l.gate->p m=p l)->aq p M=aq p L
section
variable {F:Nat} {L M:ae} {r:Bool} {s t:Nat->Nat}
def ahK(g:aU F L){w:aD}(h:w∈eX (aT L) (aX L)):w.Nodup/\(∀y∈w,y<aX L)/\ ∃d,d∈w:=by
 obtain⟨⟨d,t,H,_⟩,_,f⟩:=aip _ _ _ w h
 grind [CO]
def apO{x:Nat}(h:x<aX L):∃w,w∈eX (aT L) (aX L)/\x∈w:=by grind [Fp,CO]
def yj(F:Nat)(L:ae)(x:Nat):Nat:=if x<2*I L then 0 else(l_ F L ((x-2*I L)/2)).length
def ajI(F:Nat)(L:ae)(w:aD):(jc F L w).places.length=(w.map (yj F L)).sum:=by
 have h:∀(w:aD) (f:cX),(w.foldl (cX.add F L) f).places.length=I f.places+(w.map (yj F L)).sum:=by
  intro w
  induction w with
  |nil=>intro f;rfl
  |cons x w j=>
   intro f
   grind [cX.add,yj]
 have:=h w (cX.new L (w.headD 0));exact this.trans (lh _)
theorem OD{pl:Nat}{E j:aD}(h:E.Perm j):mZ F L pl E=mZ F L pl j:=by
 unfold mZ;congr 1;funext f;unfold Aq;rw[h.length_eq]
 grind
end
def aaO{a:Nat}(h:a<2*n):a%n=if a<n then a else a-n:=by
 split
 .rename_i H;exact fC H
 rename_i H;rw[Sg J,fC J]
def Ye{l:ae}{i k:Nat}(H:i<I l)(h:k<I l):(fG l i)[k]?=l[(i+k)%I l]? :=Tr H h
theorem Ta{α:Type}{l:List α}{f k:Nat}(hf:f<I l)(h:k<I l):(l.drop f++l.take f)[k]?=l[(f+k)%I l]? :=Tr hf h
def aee{P:bK}(c:jt F P):∃f,f<I P/\(∀k,k<I P->(ch P)[k]?=(P[(f+k)%I P]?).map aQ.l)/\I (ch P)=I P/\(∃p,P[f]?=some p/\p.l.ay/\p.d)/\ ∀k p,k<I P->P[(f+k)%I P]?=some p->p.l.ay->p.d=dn (ch P) k:=by
 obtain⟨i,hi⟩:∃i,sU P=some i:=by
  cases h:sU P with
  |some i=>exact⟨i,rfl⟩
  |none=>exfalso;obtain⟨z,T,B,S,e,cz⟩:=c;subst e;obtain⟨x,m,hp,O⟩:=cz.down;obtain⟨j,N⟩:=gJ m;have:=Fw.1 h j (by simpa using((bN.1 N).1));rw[H_ (by rw[fX,N];rfl)]at this;unfold Av at this;have R:(x.p.l.kind==1):=hp;simp[R,O]at this
 have n:=BK hi;have u:=fU.1 (AP hi);obtain⟨p,y⟩:=aP u;rw[H_ y]at n;unfold Av at n;rw[cF]at n;have D:=n.1;have M:ch P=(P.drop i++P.take i).map aQ.l:=by grind [ch,Xd]
 have A:I (P.drop i++P.take i)=I P:=fd
 have Y:jt F (P.drop i++P.take i):=jt.nk (by rw[mW];exact c);obtain⟨z,T,B,S,e,cz⟩:=Y;obtain⟨s,hp⟩:=cz.path;have Q:aO z=ch P:=by rw[M,<-e,kU];rfl
 have mj:I z=I P:=by rw[<-A,<-e,ct]
 have Z:∀k q,k<I P->P[(i+k)%I P]?=some q->∃x,z[k]?=some x/\x.p=q:=λk q v H=>by
  rw[<-Ta u v,<-e,fX]at H;cases L:z[k]? with
  |none=>rw[L]at H;cases H
  |some x=>rw[L]at H;cases H;exact⟨x,rfl,rfl⟩
 have af:s.b=false:=by obtain⟨x,m,E⟩:=Z 0 p J (by rw[Ab,fC u];exact y);have ok:=(cz.ok x (a8 m)).pb (by unfold aR.k;rw[E];exact D);rw[Rr hp m,E,n.2]at ok;exact ok.2
 refine⟨i,u,λk v=>?_,by rw[akn],⟨p,y,D,n.2⟩,λk q v H Ba=>?_⟩
 .rw[M,fX,Ta u v]
 obtain⟨x,m,rfl⟩:=Z k q v H;have X:=((cz.ok x (a8 m)).pb Ba).2;rw[(Ok cz.ok hp af k x m).1,Q]at X
 grind
section
variable {F:Nat} {h:ae}
def ayH(g:aU F h){d:Nat}(f:d<2*I h):(lM F h)[d]?=some (gy h d):=by obtain⟨j,n,H,u⟩:=BC f;obtain⟨w,m,hf⟩:=U6 n;rw[hf,zd]at H;rw[u,I8 g m (rv.1 H).1]
def aad(g:aU F h){d:Nat}(f:d<2*I h):∃w,w∈eX (aT h) (aX h)/\d∈w/\c8 F h d=jc F h w:=by obtain⟨j,n,H,u⟩:=BC f;obtain⟨w,m,hf⟩:=U6 n;rw[hf,zd]at H;exact⟨w,a8 m,(rv.1 H).1,hf⟩
def aCW:∀(w:aD) (f:cX),(w.foldl (cX.add F h) f).eO=f.eO:=by
 intro w
 induction w with
 |nil=>intro f;rfl
 |cons x w j=>intro f;rw[Ac,j];unfold cX.add;split<;>rfl
def Tm(g:aU F h){d:Nat}(H:d<2*I h):(c8 F h d).eO=dn h (d/2+1):=by
 obtain⟨w,f,M,hf⟩:=aad g H;rw[hf];obtain _:=xR g.ok w f;unfold jc;rw[aCW];show dn h _=_
 grind [SV]
def ayO{p:Nat×Nat}:∀(w:aD) (f:cX),p∈(w.foldl (cX.add F h) f).places->p∈f.places\/ ∃x∈w,2*I h<=x/\p∈l_ F h ((x-2*I h)/2):=by
 intro w
 induction w with
 |nil=>intro f H;exact .inl H
 |cons x w j=>
  intro f H
  grind [cX.add]
def adJ{g0 r to x y:Nat}(h:(x,y)∈nZ g0 r to):(x=g0/\y=r)\/(g0<x/\x<=to/\y=0):=by
 unfold nZ at h
 grind
def aDl(g:aU F h){b c:Nat}(N:j<I (aA h))(H:(b,c)∈l_ F h j):(dX h b+c+I (aA h)-1)%I (aA h)=j:=by
 have ok:=g.ok;obtain⟨u,A⟩:=aP N;obtain⟨v,O⟩:=aP (dB (j+1) (show 0<I (aA h) by omega));obtain⟨l,L,Y,T⟩:=v_ ok.ax A;obtain⟨m,B,Q,M⟩:=v_ ok.ax O;obtain⟨a0,a1,a2,a3⟩:=ok.ax.fg l (a8 L) Y;obtain⟨b0,Z,b2,b3⟩:=ok.ax.fg m (a8 B) Q;have hT:=CF λl hl hp=>((nu hp).1 (g.bad l hl)).1.1.1;have X:(aA h).getD j 0=u:=by rw[dM,A];rfl
 have ev:(aA h).getD ((j+1)%I (aA h)) 0=v:=by rw[dM,O];rfl
 unfold l_ at H;simp only[X,ev,uU L,uU B,Sy L]at H;unfold dN at T M;have s1:=qR h l.gate.toNat;have mono:∀ {x y:Nat},x<=y->dX h x<=dX h y:=λH=>Ai H;have fin:dX h b+c=j+1\/(j+1=I (aA h)/\dX h b+c=0)->(dX h b+c+I (aA h)-1)%I (aA h)=j:=by
  rintro(e|⟨D,E⟩)
  .rw[e,show j+1+I (aA h)-1=j+I (aA h) by omega,rn,fC N]
  rw[E,lh,fC J];omega
 refine fin ?_;split at H
 .rename_i R;rw[fC R]at M;rcases adJ H with⟨rfl,rfl⟩|⟨z,f,rfl⟩
  .left;omega
  left;have D:=mono (show l.gate.toNat+1<=b by omega);have E:=mono f;omega
 have n:j+1=I (aA h):=J;rw[n,yN]at M;rcases iI.1 H with H|H
 .rcases adJ H with⟨rfl,rfl⟩|⟨z,f,rfl⟩
  .left;omega
  left;have D:=mono (show l.gate.toNat+1<=b by omega);have E:=mono (show b<=F+1 by omega);omega
 rcases adJ H with⟨rfl,rfl⟩|⟨z,f,rfl⟩
 .right;exact⟨n,rfl⟩
 right;have E:=mono f;exact⟨n,J⟩
def ac8(g:aU F h){d b c:Nat}(B:d<2*I h)(N:(b,c)∈(c8 F h d).places):gy h d=if dn h (d/2+1)then fI h b c else ft h b c:=by
 have ok:=g.ok;have Z:=iW.2 g.ne;obtain⟨w,u,M,hf⟩:=aad g B;rw[hf]at N;unfold jc at N;rcases ayO _ _ N with N|⟨x,A,Y,hp⟩
 .cases N
 obtain⟨_,_,T⟩:=xR ok w u;have GN:=T x A;have Q:aX h=2*I h+2*I (aA h):=rfl;have n:(x-2*I h)/2<I (aA h):=J;have y:=aDl g n hp;have D:gy h d=gy h x:=by obtain⟨i,L⟩:=gJ u;rw[I8 g L M,I8 g L A]
 have m:=uB (nc ok) u A;have j:∀v f,v<I h->dS (I h) v f∈w->dn h (dS (I h) v f/2+1)=dn h (d/2+1):=λv f H R=>by
  have lt:dS (I h) v f<2*I h:=by have:=zi H (!f);rw[<-tX]at this;have:=vi this;rwa[vz]at this
  exact SV g u R M lt B
 have back:∀v,v<I h->dn h ((v+I h-1)%I h+1)=dn h v:=λv H=>by have:=Xv g H;have O:(eQ h v).i.b= !dn h ((v+I h-1)%I h+1):=rfl;rw[O]at this;revert this;cases dn h ((v+I h-1)%I h+1)<;>cases dn h v<;>simp
 rcases rN x with e|e
 .have E:x=2*I h+2*((x-2*I h)/2):=J;generalize(x-2*I h)/2=k at E n y;obtain⟨l,hl,pl⟩:=z_ (dB (k+1) (show 0<I (aA h) by omega));have H:=(bN.1 hl).1;rw[E,CE]at m;generalize(aA h).getD ((k+1)%I (aA h)) 0=v at m hl H;have z:dn h (d/2+1):=by
   rw[<- (j v _ H m)];cases X:dn h v
   .show dn h (2*v/2+1)=true;rw[show 2*v/2=v by omega,Gs hl pl,X];rfl
   show dn h ((2*((v+I h-1)%I h)+1)/2+1)=true;rw[show(2*((v+I h-1)%I h)+1)/2=(v+I h-1)%I h by omega,back v H,X]
  rw[z,aI rfl,D,E];unfold fI;rw[y]
 have E:x=2*I h+2*((x-2*I h)/2)+1:=J;generalize(x-2*I h)/2=k at E n y;obtain⟨l,hl,pl⟩:=z_ n;have H:=(bN.1 hl).1;rw[E,D3]at m;generalize(aA h).getD k 0=v at m hl H;have z:dn h (d/2+1)=false:=by
  rw[<- (j v _ H m)];cases X:dn h v
  .show dn h ((2*((v+I h-1)%I h)+1)/2+1)=false;rw[show(2*((v+I h-1)%I h)+1)/2=(v+I h-1)%I h by omega,back v H,X]
  show dn h (2*v/2+1)=false;rw[show 2*v/2=v by omega,Gs hl pl,X];rfl
 rw[z,aE aa,D,E];unfold ft;rw[y]
def OC{s:eN}{z X:f_}{k:Nat}{x:aR}(h:jN s z s)(f:z[k]?=some x)(u:jN x.o X x.o):jN s (z.take (k+1)++X++z.drop (k+1)) s:=by
 have v:z=z.take _++z.drop (k+1):=(mW ..).symm;rw[v]at h;obtain⟨m,H,n⟩:=Bj.1 h;have j:m=x.o:=by
  have y:=(bN.1 f).1;have hl:(z.take (k+1))[I (z.take (k+1))-1]?=some x:=by rw[ko,zx J,sB,aI J,Jh];exact f
  exact(OM H hl).symm
 subst j;exact Bj.2 ⟨_,Bj.2 ⟨_,H,u⟩,n⟩
def qG(f:Nat->Nat->Nat)(b c v G j:Nat):Nat:=if G=b then(if j<=c then f b j else if j=c+1 then v else f b (j-2))else f G j
def S9{f:Nat->Nat->Nat}{b c:Nat}(h:j<=c):qG f b c v b j=f b j:=by unfold qG;rw[aI rfl,aI h]
def al0{f:Nat->Nat->Nat}{b c:Nat}:qG f b c v b (c+1)=v:=by unfold qG;rw[aI rfl,aE J,aI rfl]
def VW{f:Nat->Nat->Nat}{b c:Nat}(h:c+2<=j):qG f b c v b j=f b (j-2):=by unfold qG;rw[aI rfl,aE J,aE J]
def TB{f:Nat->Nat->Nat}{b c G:Nat}(h:G≠b):qG f b c v G j=f G j:=by unfold qG;rw[aE h]
def Wh{f:Nat->Nat->Nat}{b c G:Nat}:qG f b c v G 0=f G 0:=by
 by_cases h:G=b
 .subst h;exact S9 (bj _)
 exact TB h
def anU(g:aU F h){a b c:Nat}(ha:a<I h)(hb:b<=F)(hc:c<=aZ h b)(x:Bool)(Q:(if x then gy h (2*a+1)else gy h (2*a))=if dn h (a+1)then fI h b c else ft h b c):
  jt F (fe (dT (aJ h) b c 2) [jU b (if dn h (a+1)!=x then((c+2:Nat):Int)else((c+1:Nat):Int)) (dn h (a+1)),jU b (if dn h (a+1)!=x then((c+1:Nat):Int)else((c+2:Nat):Int)) (!dn h (a+1))] a):=by
 have cz:=g.cz;have ij:=jG h;have mj:=BS h;obtain⟨s,hp⟩:=cz.path;generalize hA:dn h (a+1)=A at Q |-
 let m:=kX h a
 have sM:m.b= !A:=by show(!dn h (a+1))=_;rw[hA]
 have iX:m.l=gy h (2*a):=rfl;have aj:m.r=gy h (2*a+1):=rfl
 obtain⟨k,tn,bn,r1,R,hk,hr,lO,Bb,aiD,ZQ,EZ⟩:∃(k:eN) (tn bn r1 R:Nat),k.b=A/\((r1=c+1/\R=c+2)\/(r1=c+2/\R=c+1))/\((if A !=x then((c+2:Nat):Int)else((c+1:Nat):Int))=(r1:Int))/\((if A !=x then((c+1:Nat):Int)else((c+2:Nat):Int))=(R:Int))/\
   DJ (qG (fI h) b c tn) (qG (ft h) b c bn) ⟨jU b r1 A,m,k⟩/\DJ (qG (fI h) b c tn) (qG (ft h) b c bn) ⟨jU b R (!A),k,m⟩/\(k.l=fV h\/k.r=fV h):=by
  have lo:∀(f:Nat->Nat->Nat) v,qG f b c v b (c+1-1)=f b c:=λf v=>S9 J;have md:∀(f:Nat->Nat->Nat) v,qG f b c v b (c+1)=v:=λf v=>al0;have Z:∀(f:Nat->Nat->Nat) v,qG f b c v b (c+2-1)=v:=λf v=>al0;have hi:∀(f:Nat->Nat->Nat) v,qG f b c v b (c+2)=f b c:=λf v=>by rw[VW J];rfl
  have j:∀(T B:Nat->Nat->Nat) (r:Nat) (d:Bool) (i o:eN),(if d then i else mv o).r=T b (r-1)->(if d then i else mv o).l=T b r->(if d then o else mv i).r=B b (r-1)->(if d then o else mv i).l=B b r->DJ T B ⟨jU b r d,i,o⟩:=λT B r d i o y M h3 h4=>⟨y,M,h3,h4⟩;cases A<;>cases x<;>simp only[iJ,if_false,if_true]at Q
  .rw[<-iX]at Q;refine⟨⟨fI h b c,fV h,false⟩,fV h,m.r,c+1,c+2,rfl,.inl ⟨rfl,rfl⟩,rfl,rfl,j _ _ _ _ _ _ ?_ ?_ ?_ ?_,j _ _ _ _ _ _ ?_ ?_ ?_ ?_,.inr rfl⟩
   .rw[lo];rfl
   .rw[md];rfl
   .rw[lo];exact Q
   .rw[md];rfl
   .rw[Z];rfl
   .rw[hi];rfl
   .rw[Z];rfl
   rw[hi];exact Q
  .rw[<-aj]at Q;refine⟨⟨fV h,fI h b c,false⟩,fV h,m.l,c+2,c+1,rfl,.inr ⟨rfl,rfl⟩,rfl,rfl,j _ _ _ _ _ _ ?_ ?_ ?_ ?_,j _ _ _ _ _ _ ?_ ?_ ?_ ?_,.inl rfl⟩
   .rw[Z];rfl
   .rw[hi];rfl
   .rw[Z];rfl
   .rw[hi];exact Q
   .rw[lo];rfl
   .rw[md];rfl
   .rw[lo];exact Q
   rw[md];rfl
  .rw[<-iX]at Q;refine⟨⟨ft h b c,fV h,true⟩,m.r,fV h,c+2,c+1,rfl,.inr ⟨rfl,rfl⟩,rfl,rfl,j _ _ _ _ _ _ ?_ ?_ ?_ ?_,j _ _ _ _ _ _ ?_ ?_ ?_ ?_,.inr rfl⟩
   .rw[Z];rfl
   .rw[hi];exact Q
   .rw[Z];rfl
   .rw[hi];rfl
   .rw[lo];exact Q
   .rw[md];rfl
   .rw[lo];rfl
   rw[md];rfl
  rw[<-aj]at Q;refine⟨⟨fV h,ft h b c,true⟩,m.l,fV h,c+1,c+2,rfl,.inl ⟨rfl,rfl⟩,rfl,rfl,j _ _ _ _ _ _ ?_ ?_ ?_ ?_,j _ _ _ _ _ _ ?_ ?_ ?_ ?_,.inl rfl⟩
  .rw[lo];exact Q
  .rw[md];rfl
  .rw[lo];rfl
  .rw[md];rfl
  .rw[Z];rfl
  .rw[hi];exact Q
  .rw[Z];rfl
  rw[hi];rfl
 rw[lO,Bb]
 let E:aR:=⟨jU b r1 A,m,k⟩
 let Y:aR:=⟨jU b R (!A),k,m⟩
 have Om:E.k.ay:=rfl;have ad:Y.k.ay:=rfl;have yu:∀(r:Int) (d:Bool),eK F (jU b r d).l=false:=λr d=>(nu rfl).2 ⟨⟨⟨⟨by show(0:Int)<=(b:Int);omega,by show(b:Int)<=(F:Int);omega⟩,rfl⟩,rfl⟩,rfl⟩
 let n:=jv b c 2
 let r:=fj h
 have mC:aq U.au (aO (r.map (aR.mp id n)))=aq U.au h:=by rw[sy (λl=>(sT _ _ _).au l)];rw[ij]
 have cL:aq U.ay (aO (r.map (aR.mp id n)))=aq U.ay h:=by rw[sy (λl=>(sT _ _ _).ay l)];rw[ij]
 have mG:∀q,aZ (aO (r.map (aR.mp id n))) q=aZ h q:=λq=>by show aq _ _=aq _ _;rw[sy (λl=>Py _ _ _ q l)];rw[ij]
 have nC:aq U.au (aO ([E,Y]++r.map (aR.mp id n)))=aq U.au h:=by rw[qL,eY,eY,uz,(vp Om).1,(vp ad).1,mC];omega
 have aY:aq U.ay (aO ([E,Y]++r.map (aR.mp id n)))=aq U.ay h+2:=by rw[qL,eY,eY,uz,(vp Om).2,(vp ad).2,cL];omega
 have nG:∀q,aZ (aO ([E,Y]++r.map (aR.mp id n))) q=aZ h q+if q=b then 2 else 0:=λq=>by
  have e1:aZ (aO ([E,Y]++r.map (aR.mp id n))) q=(if q=b then 1 else 0)+((if q=b then 1 else 0)+0)+aZ (aO (r.map (aR.mp id n))) q:=by show aq _ _=_+aq _ _;rw[qL,eY,eY,uz,Td Om rfl,Td ad rfl]
  rw[e1,mG];split<;>omega
 have ab:∀w∈r,w.k.ay->(0<=w.k.gate/\w.k.gate<=(F:Int))/\1<=w.k.ao/\w.k.ao<=(aZ h w.k.gate.toNat:Int):=λw H pw=>by have r1:=cz.rr w H pw;rw[ij]at r1;exact⟨((nu pw).1 (cz.ok w H).bad).1.1.1,r1⟩
 have r7:∀w:aR,w.k.ay->(n w.k).ao=if w.k.gate=(b:Int)/\(c:Int)<w.k.ao then w.k.ao+2 else w.k.ao:=λw pw=>Xr pw;have ag:∀(f:Nat->Nat->Nat) (v:Nat),∀w∈r,w.k.ay->f w.k.gate.toNat (w.k.ao.toNat-1)=qG f b c v w.k.gate.toNat ((n w.k).ao.toNat-1)/\f w.k.gate.toNat w.k.ao.toNat=qG f b c v w.k.gate.toNat (n w.k).ao.toNat:=by
  intro f v w H pw;obtain⟨o1,o2,o3⟩:=ab w H pw;rw[r7 w pw];by_cases uR:w.k.gate.toNat=b
  .rw[uR];by_cases cr:(c:Int)<w.k.ao
   .rw[aI ⟨J,cr⟩,VW J,VW J];exact⟨by congr 1;omega,by congr 1;omega⟩
   rw[aE J,S9 J,S9 J];exact⟨rfl,rfl⟩
  rw[aE J,TB uR,TB uR];exact⟨rfl,rfl⟩
 have z:∀(f:Nat->Nat->Nat) (v q:Nat),qG f b c v q (aZ h q+if q=b then 2 else 0)=f q (aZ h q):=λf v q=>by
  by_cases cq:q=b
  .subst cq;rw[aI rfl,VW J];rfl
  rw[aE cq,TB cq];rfl
 have qn:kV F ([E,Y]++r.map (aR.mp id n)) (qG (fI h) b c tn) (qG (ft h) b c bn):=by
  refine kV.edit (X:=[]) cz.q (sT _ _ _) (λw H=>Y_ (cz.ok w H).bad) (λu D v hv cu cv e=>?_) (λu D v hv pu pv e1 O=>?_) (λw H=>?_) ?_ ?_ (λu D w H=>?_) (λu D w H pu pw e1 O=>?_) (by rw[nC];have:=cz.ev;rwa[ij]at this) (λw H cw=>?_) (λu D cu=>?_) (λw H pw=>?_) (λu D pu=>?_) (λw H pw=>?_) (λu D pu=>?_) (λq hq=>?_) ?_
  .rw[CG,CG]at e;exact e
  .have Gg:u.k.gate=v.k.gate:=by rw[wg,wg]at e1;exact e1
   refine⟨Gg,?_⟩;have O:=O;rw[r7 u pu,r7 v pv]at O;split at O<;>split at O<;>omega
  .simp only[dh,e_,or_false]at H;rcases H with rfl|rfl
   .exact⟨yu _ _,λam=>(Bool.noConfusion am),λ_=>⟨hk,sM⟩⟩
   exact⟨yu _ _,λam=>(Bool.noConfusion am),λ_=>⟨sM,by show k.b= !(!A);rw[hk];simp⟩⟩
  .exact iR.2 ⟨λw _=>adY rfl,FE ..⟩
  .refine iR.2 ⟨λw H=>?_,FE ..⟩;rw[nI]at H;subst H;intro _ _ _ e;have e:(r1:Int)=(R:Int):=e;rcases hr with⟨y,M⟩|⟨y,M⟩<;>omega
  .simp only[dh,e_,or_false]at D;rcases D with rfl|rfl<;>exact adY rfl
  .have e1:u.k.gate=w.k.gate:=e1.trans (wg _ _ _ _);have O:u.k.ao=(n w.k).ao:=O;rw[r7 w (by rw[<- (sT b c 2).ay];exact pw)]at O;have GM:u.k.gate=(b:Int)/\(u.k.ao=(c:Int)+1\/u.k.ao=(c:Int)+2):=by
    simp only[dh,e_,or_false]at D;rcases D with rfl|rfl
    .refine⟨rfl,?_⟩;show(r1:Int)=_\/(r1:Int)=_;rcases hr with⟨y,M⟩|⟨y,M⟩<;>omega
    refine⟨rfl,?_⟩;show(R:Int)=_\/(R:Int)=_;rcases hr with⟨y,M⟩|⟨y,M⟩<;>omega
   obtain⟨u1,u2⟩:=GM;split at O<;>omega
  .simp only[dh,e_,or_false]at H;rcases H with rfl|rfl<;>cases cw
  .rw[nC,CG,<-ij];exact cz.ids u D cu
  .rw[nG];have:w.k.gate.toNat=b/\1<=w.k.ao/\w.k.ao<=(c:Int)+2:=by
    simp only[dh,e_,or_false]at H;rcases H with rfl|rfl
    .refine⟨lJ _,?_⟩;show 1<=(r1:Int)/\(r1:Int)<=_;rcases hr with⟨y,M⟩|⟨y,M⟩<;>omega
    refine⟨lJ _,?_⟩;show 1<=(R:Int)/\(R:Int)<=_;rcases hr with⟨y,M⟩|⟨y,M⟩<;>omega
   obtain⟨w1,w2,w3⟩:=this;rw[w1,aI rfl];omega
  .rw[wg,nG];show 1<=(n u.k).ao/\(n u.k).ao<=_;obtain⟨o1,o2,o3⟩:=ab u D pu;rw[r7 u pu];split
   .rename_i am;rw[aI J];omega
   split<;>omega
  .simp only[dh,e_,or_false]at H;rcases H with rfl|rfl
   .exact aiD
   exact ZQ
  .rw[wg];obtain⟨t1,t2⟩:=ag (fI h) tn u D pu;obtain⟨b1,b2⟩:=ag (ft h) bn u D pu;exact⟨⟨t1,b1⟩,t2,b2⟩
  .rw[nG,z,z,Wh,Wh];have:=cz.gt q hq;rwa[ij]at this
  rw[nG,z,z,Wh,Wh];have:=cz.gz;rwa[ij]at this
 have mT:=BO ha;have ak:(r.map (aR.mp id n))[a]?=some ((eQ h a).mp id n):=by rw[fX,mT];rfl
 refine kV.done (X:=[]) (L:=[]) (n:=[fV h]) (z:=(r.map (aR.mp id n)).take (a+1)++[E,Y]++(r.map (aR.mp id n)).drop (a+1)) qn cz.nd (λt ht=>cz.wit t ht) ?_ ⟨s,OC (HJ (D:=id) hp) ak ⟨rfl,rfl,rfl⟩⟩ ?_ ⟨E,aG,Om⟩ (λ_ _ _=>rfl) (λw H=>by cases H) (qQ.2 ⟨e_,pW⟩) (λt ht=>?_) (λt ht=>?_) AC ?_
 .have y:((r.map (aR.mp id n)).take (a+1)++[E,Y]++(r.map (aR.mp id n)).drop (a+1)).Perm ([E,Y]++(r.map (aR.mp id n)).take (a+1)++(r.map (aR.mp id n)).drop (a+1)):=Wf _ Jm;rwa[k9 [E,Y],mW]at y
 .have y:(r.map (aR.mp id n)).map aR.p=dT (aJ h) b c 2:=by
   show _=(aJ h).map (dD b c 2);rw[<-vH,kU,kU];refine s7 λw _=>?_;show _=dD b c 2 w.p;rw[FX];rfl
  rw[iT,iT,uC,uN,y];rfl
 .rw[nI]at ht;subst ht;simp
 .rw[nI]at ht;subst ht;exact⟨E,aG,EZ.imp Eq.symm Eq.symm⟩
 rw[nC,aY];have:=g.nw;simp only[fB,fF];omega
def acu(g:aU F h){a b c:Nat}(m:a<I h)(n:b<=F)(u:c<=aZ h b)(f:o_ F h a b c=some L):jt F L:=by
 have A:=Tm g (d:=2*a) J;have j:=Tm g (d:=2*a+1) J;rw[show 2*a/2=a by omega]at A;rw[show(2*a+1)/2=a by omega]at j;unfold o_ at f;split at f
 .rename_i H;cases f;have hl:=ac8 g J H;rw[show 2*a/2=a by omega]at hl;unfold vD;rw[A];exact anU g m n u false hl
 split at f
 .rename_i H;cases f;have hl:=ac8 g J H;rw[show(2*a+1)/2=a by omega]at hl;unfold vD;rw[j];exact anU g m n u true hl
 cases f
end
section
variable {F:Nat} {h:ae}
def DY(g:aU F h){d:Nat}(H:d<2*I h):lG F h d=gy h d:=by unfold lG;rw[dM,ayH g H];rfl
def akL(g:aU F h){a b:Nat}(ha:a<I h)(hb:b<I h)(dE:a≠b){l T o:Bool}{sg:Int}(IB:sg=1\/sg= -1)(jr:(sg==1)=(o==T))
  (qU:(om l (kX h a)).l=(om T (kX h b)).l) {A0 A1 Q R:aQ} (av:A0=u4 (aq U.au h/2) 1 sg o) (az:A1=u4 (aq U.au h/2) 2 (-sg) o)
  (eB:if l==T then Q=u4 (aq U.au h/2) 2 (-sg) (!o)/\R=u4 (aq U.au h/2) 1 sg (!o)else Q=u4 (aq U.au h/2) 1 sg (!o)/\R=u4 (aq U.au h/2) 2 (-sg) (!o)):
  jt F (if a<b then fe (fe (aJ h) [Q,R] b) [A0,A1] a else fe (fe (aJ h) [A0,A1] a) [Q,R] b):=by
 subst av az;have cz:=g.cz;have ij:=jG h;have mj:=BS h;obtain⟨s,hp⟩:=cz.path
 let M:=kX h a
 let H:=kX h b
 let bJ:eN:=⟨(om T H).r,fV h,M.b⟩
 let aF:eN:=⟨(om l M).r,fV h,H.b⟩
 let A:aR:=⟨u4 (aq U.au h/2) 1 sg o,M,om l bJ⟩
 let m:aR:=⟨u4 (aq U.au h/2) 2 (-sg) o,om l bJ,M⟩
 let b0:aR:=⟨Q,H,om T aF⟩
 let B:aR:=⟨R,om T aF,H⟩
 have ag:∀(f:Bool) (s:eN),(om f s).b=s.b:=λf s=>by cases f<;>rfl
 have Z:(Q.l.kind=2/\Q.l.gate=0/\Q.l.ao=0/\(Q.l.sign=sg\/Q.l.sign= -sg))/\(R.l.kind=2/\R.l.gate=0/\R.l.ao=0/\(R.l.sign=sg\/R.l.sign= -sg)):=by
  split at eB<;>obtain⟨rfl,rfl⟩:=eB
  .exact⟨⟨rfl,rfl,rfl,.inr rfl⟩,rfl,rfl,rfl,.inl rfl⟩
  exact⟨⟨rfl,rfl,rfl,.inl rfl⟩,rfl,rfl,rfl,.inr rfl⟩
 have Mg:A.k.au:=rfl;have Mh:m.k.au:=rfl;have Ph:b0.k.au:=by show(Q.l.kind==2)=true;rw[Z.1.1];rfl
 have ad:B.k.au:=by show(R.l.kind==2)=true;rw[Z.2.1];rfl
 have E:∀l:U,l.kind=2->l.gate=0->l.ao=0->(l.sign=sg\/l.sign= -sg)->eK F l=false:=λl h1 h2 h3 h4=>by
  refine(Lb (by unfold U.au;rw[h1];rfl)).2 ⟨⟨h2,h3⟩,?_⟩;have:l.sign=1\/l.sign= -1:=by rcases h4 with ak|ak<;>rcases IB with k|k<;>omega
  rcases this with ak|ak<;>rw[ak]<;>decide
 have K7:∃u v:aR,((u=b0/\v=B)\/(u=B/\v=b0))/\u.k.id=A.k.id/\v.k.id=m.k.id/\A4 A u/\A4 m v:=by
  have aj:c3 A.k=(o==(o==T)):=by show(o==(sg==1))=_;rw[jr]
  have ab:c3 m.k=(o== !(o==T)):=by
   show(o==(-sg==1))=_;have:(-sg==1)= !(sg==1):=by rcases IB with rfl|rfl<;>rfl
   rw[this,jr]
  cases l<;>cases T
  all_goals
   simp only[y8,if_true,iJ,if_false,show(false==true)=false from rfl,show(true==false)=false from rfl]at eB;obtain⟨rfl,rfl⟩:=eB
  .have n:=qU;refine⟨B,b0,.inr ⟨rfl,rfl⟩,rfl,rfl,⟨by show o= !!o;simp,rfl,?_⟩,⟨by show o= !!o;simp,rfl,?_⟩⟩
   .rw[aj,show(o==(o==false))=false by cases o<;>rfl];constructor<;>first|rfl|exact n|exact n.symm
   rw[ab,show(o== !(o==false))=true by cases o<;>rfl];constructor<;>first|rfl|exact n|exact n.symm
  .have n:=qU;refine⟨b0,B,.inl ⟨rfl,rfl⟩,rfl,rfl,⟨by show o= !!o;simp,rfl,?_⟩,⟨by show o= !!o;simp,rfl,?_⟩⟩
   .rw[aj,show(o==(o==true))=true by cases o<;>rfl];constructor<;>first|rfl|exact n|exact n.symm
   rw[ab,show(o== !(o==true))=false by cases o<;>rfl];constructor<;>first|rfl|exact n|exact n.symm
  .have n:=qU;refine⟨b0,B,.inl ⟨rfl,rfl⟩,rfl,rfl,⟨by show o= !!o;simp,rfl,?_⟩,⟨by show o= !!o;simp,rfl,?_⟩⟩
   .rw[aj,show(o==(o==false))=false by cases o<;>rfl];constructor<;>first|rfl|exact n|exact n.symm
   rw[ab,show(o== !(o==false))=true by cases o<;>rfl];constructor<;>first|rfl|exact n|exact n.symm
  have n:=qU;refine⟨B,b0,.inr ⟨rfl,rfl⟩,rfl,rfl,⟨by show o= !!o;simp,rfl,?_⟩,⟨by show o= !!o;simp,rfl,?_⟩⟩
  .rw[aj,show(o==(o==true))=true by cases o<;>rfl];constructor<;>first|rfl|exact n|exact n.symm
  rw[ab,show(o== !(o==true))=false by cases o<;>rfl];constructor<;>first|rfl|exact n|exact n.symm
 obtain⟨u,v,Cm,iu,iv,xu,xv⟩:=K7
 let r:=fj h
 have N1:A.k.id=((aq U.au h/2+1:Nat):Int):=rfl;have N2:m.k.id=((aq U.au h/2+2:Nat):Int):=rfl;have ar:∀w∈[A,m,b0,B],w=A\/w=m\/w=u\/w=v:=λw j=>by
  simp only[dh,e_,or_false]at j;rcases Cm with⟨rfl,rfl⟩|⟨rfl,rfl⟩
  .exact j
  rcases j with ak|ak|ak|ak
  .exact .inl ak
  .exact .inr (.inl ak)
  .exact .inr (.inr (.inr ak))
  exact .inr (.inr (.inl ak))
 have fv:∀w∈[A,m,b0,B],w.k.au/\(w.k.id=((aq U.au h/2+1:Nat):Int)\/w.k.id=((aq U.au h/2+2:Nat):Int)):=λw j=>by
  rcases ar w j with rfl|rfl|rfl|rfl
  .exact⟨Mg,.inl N1⟩
  .exact⟨Mh,.inr N2⟩
  .exact⟨by rcases Cm with⟨rfl,_⟩|⟨rfl,_⟩<;>assumption,.inl (iu.trans N1)⟩
  exact⟨by rcases Cm with⟨_,rfl⟩|⟨_,rfl⟩<;>assumption,.inr (iv.trans N2)⟩
 have aB:pD A m/\pD A u/\pD A v/\pD m u/\pD m v/\pD u v:=by
  have no:∀ {x y:aR},x.k.id≠y.k.id->pD x y:=λak _ _ e=>absurd e ak;have NP:A.k.id≠m.k.id:=by rw[N1,N2];omega
  exact⟨no NP,λ_ _ _=>xu,no (by rw[iv];exact NP),no (by rw[iu];exact NP.symm),λ_ _ _=>xv,no (by rw[iu,iv];exact NP)⟩
 obtain⟨w1,w2,w3,w4,w5,w6⟩:=aB;have pw:[A,m,b0,B].Pairwise pD:=by
  simp only[iR,dh,e_,or_false,forall_eq_or_imp,forall_eq,List.Pairwise.nil,and_true,false_imp_iff,implies_true];rcases Cm with⟨rfl,rfl⟩|⟨rfl,rfl⟩
  .exact⟨⟨w1,w2,w3⟩,⟨w4,w5⟩,w6⟩
  exact⟨⟨w1,w3,w2⟩,⟨w5,w4⟩,w6.symm⟩
 have iG:∀w∈[A,m,b0,B],zR F w:=λw j=>by
  have mk:∀x:aR,x.k.au->eK F x.k=false->x.i.b=x.o.b->zR F x:=λx h1 h2 h3=>⟨h2,λ_=>h3,λhp=>by rw[mq h1]at hp;cases hp⟩;simp only[dh,e_,or_false]at j;rcases j with rfl|rfl|rfl|rfl
  .exact mk _ Mg (E _ rfl rfl rfl (.inl rfl)) (ag l bJ).symm
  .exact mk _ Mh (E _ rfl rfl rfl (.inr rfl)) (ag l bJ)
  .exact mk _ Ph (E _ Z.1.1 Z.1.2.1 Z.1.2.2.1 Z.1.2.2.2) (ag T aF).symm
  exact mk _ ad (E _ Z.2.1 Z.2.2.1 Z.2.2.2.1 Z.2.2.2.2) (ag T aF)
 have Qx:=λw j hc=>by have:=cz.ids w j hc;rwa[ij]at this
 have nC:aq U.au (aO ([A,m,b0,B]++r.map (aR.mp id id)))=aq U.au h+4:=by rw[DX,qL,eY,eY,eY,eY,uz,ij,(lK Mg).1,(lK Mh).1,(lK Ph).1,(lK ad).1];omega
 have aY:aq U.ay (aO ([A,m,b0,B]++r.map (aR.mp id id)))=aq U.ay h:=by rw[DX,qL,eY,eY,eY,eY,uz,ij,(lK Mg).2,(lK Mh).2,(lK Ph).2,(lK ad).2];omega
 have nG:∀q,aZ (aO ([A,m,b0,B]++r.map (aR.mp id id))) q=aZ h q:=λq=>by show aq _ _=aq _ _;rw[DX,qL,eY,eY,eY,eY,uz,ij,Bc q Mg,Bc q Mh,Bc q Ph,Bc q ad];simp
 have ev:=cz.ev;rw[ij]at ev;have qn:kV F ([A,m,b0,B]++r.map (aR.mp id id)) (fI h) (ft h):=by
  refine kV.edit (X:=[]) cz.q Bd.id (λw j=>(cz.ok w j).bad) (λ_ _ _ _ _ _ e=>e) (λ_ _ _ _ _ _ e f=>⟨e,f⟩) iG pw ?_ (λx hx w j h1 h2 e=>?_) (λx hx w j=>J6 (fv x hx).1) (by rw[nC];omega) (λw j hc=>?_) (λw j hc=>?_) (λw j hp=>?_) (λw j hp=>?_) (λw j hp=>?_) (λw j hp=>⟨⟨rfl,rfl⟩,rfl,rfl⟩) (λq hq=>?_) ?_
  .refine iR.2 ⟨λ_ _=>J6 Mg,iR.2 ⟨λ_ _=>J6 Mh,iR.2 ⟨λ_ _=>J6 Ph,FE ..⟩⟩⟩
  .exfalso;have h3:=Qx w j h2;have e:x.k.id=w.k.id:=e;rcases(fv x hx).2 with ak|ak<;>omega
  .rw[nC];rcases(fv w j).2 with ak|ak<;>omega
  .rw[nC];have:=Qx w j hc;simp only[id];omega
  .rw[mq (fv w j).1]at hp;cases hp
  .rw[nG];have:=cz.rr w j hp;rwa[ij]at this
  .rw[mq (fv w j).1]at hp;cases hp
  .have:=cz.gt q hq;rw[ij]at this;rw[nG];exact this
  have:=cz.gz;rw[ij]at this;rw[nG];exact this
 have an:=BO ha;have ap:=BO hb;have O:jN M [A,m] M:=⟨rfl,rfl,rfl⟩;have Y:jN H [b0,B] H:=⟨rfl,rfl,rfl⟩;have D:∀(z X:f_) (k:Nat),(z.take (k+1)++X++z.drop (k+1)).Perm (X++z):=λz X k=>by have h1:(z.take (k+1)++X++z.drop (k+1)).Perm (X++z.take (k+1)++z.drop (k+1)):=Wf _ Jm;rw[k9 X,mW]at h1;exact h1
 have Ny:∀(z X:f_) (k:Nat),(z.take (k+1)++X++z.drop (k+1)).map aR.p=fe (z.map aR.p) (X.map aR.p) k:=λz X k=>by rw[iT,iT,uC,uN]
 have fin:∀z',z'.Perm ([A,m,b0,B]++r)->jN s z' s->jt F (z'.map aR.p):=λz' h1 h2=>by
  refine kV.done (X:=[]) (L:=[]) (n:=[fV h]) qn cz.nd (λt ht=>cz.wit t ht) (by rw[DX];exact h1) ⟨s,h2⟩ rfl ?_ (λ_ _ _=>rfl) (λw j=>by cases j) (qQ.2 ⟨e_,pW⟩) (λt ht=>?_) (λt ht=>?_) AC ?_
  .obtain⟨w,j,e⟩:=cz.one;rw[DX];exact⟨w,vv _ j,e⟩
  .rw[nI]at ht;subst ht;simp
  .rw[nI]at ht;subst ht;refine⟨A,aG,?_⟩;show fV h=(om l bJ).l\/fV h=(om l bJ).r;cases l
   .exact .inl rfl
   exact .inr rfl
  rw[nC,aY];have:=g.nw;simp only[fB,fF];omega
 split
 .rename_i aw
  let z1:=r.take (b+1)++[b0,B]++r.drop (b+1)
  have am:z1[a]?=some (eQ h a):=by show(r.take (b+1)++[b0,B]++r.drop (b+1))[a]?=_;rw[k9,yY (by rw[ko,BS];omega),sB,aI J];exact an
  have:=fin _ ((D z1 [A,m] a).trans (by show([A,m]++z1).Perm ([A,m]++([b0,B]++r));exact List.Perm.append_left _ (D r [b0,B] b))) (OC (OC hp ap Y) am O)
  rw[Ny,Ny,vH]at this;exact this
 rename_i aw
 let z1:=r.take (a+1)++[A,m]++r.drop (a+1)
 have am:z1[b]?=some (eQ h b):=by show(r.take (a+1)++[A,m]++r.drop (a+1))[b]?=_;rw[k9,yY (by rw[ko,BS];omega),sB,aI J];exact ap
 have:=fin _ ((D z1 [b0,B] b).trans (by refine(List.Perm.append_left _ (D r [A,m] a)).trans ?_;rw[<-k9];exact(Wf r (Jm)))) (OC (OC hp an O) am Y)
 rw[Ny,Ny,vH]at this;exact this
def acG(g:aU F h){a b:Nat}(M:a<I h)(B:b<I h)(D:a≠b){l o:Bool}(z:wH F h a b l o=some L):jt F L:=by
 have j:∀(f:Bool) e,(om f (kX h e)).l=gy h (if f then 2*e else 2*e+1):=λf e=>by cases f<;>rfl
 have n:∀m O:Bool,(m->(om l (kX h a)).l=(om l (kX h b)).l)->(O->(om l (kX h a)).l=(om (!l) (kX h b)).l)->tj h a b l o m O=some L->jt F L:=by
  intro m O u H v;unfold tj at v;split at v
  .cases v
  rename_i A;cases v;cases af:m
  .have N:O:=by
    rw[af]at A;revert A;cases O<;>simp
   have e:(false==l)= !l:=UV
   have:=akL g M B D (by split<;>simp) (by split<;>simp_all) (H N) (A1:=u4 (aq U.au h/2) 2 (-(if o==(!l)then 1 else -1)) o) rfl rfl (by
    have:(l== !l)=false:=UV
    rw[this];exact⟨rfl,rfl⟩)
   simp only[e];exact this
  have e:(true==l)=l:=UV
  have:=akL g M B D (by split<;>simp) (by split<;>simp_all) (u af) (A1:=u4 (aq U.au h/2) 2 (-(if o==l then 1 else -1)) o) rfl rfl (by rw[y8];exact⟨rfl,rfl⟩)
  simp only[e];exact this
 have E:∀x y:Nat,((x:Int)==(y:Int))->x=y:=λx y z=>by have:=eq_of_beq z;omega
 unfold wH at z;cases l
 .rw[aE aa,DY g J,DY g J,DY g J]at z;refine n _ _ (λu=>?_) (λH=>?_) z
  .rw[j,j];exact(E _ _ u).symm
  rw[j,j];exact(E _ _ H).symm
 rw[aI rfl,DY g J,DY g J,DY g J]at z;refine n _ _ (λu=>?_) (λH=>?_) z
 .rw[j,j];exact(E _ _ u).symm
 rw[j,j];exact(E _ _ H).symm
end
end
end Go.Abs
