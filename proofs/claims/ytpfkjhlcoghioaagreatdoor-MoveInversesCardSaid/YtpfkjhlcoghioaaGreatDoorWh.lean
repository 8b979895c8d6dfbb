/- A part. -/
import Derived.Test.YtpfkjhlcoghioaaGreatDoorWg
set_option linter.all false
open List renaming length->I
set_option maxRecDepth 100000
set_option maxHeartbeats 16000000
namespace Go.Abs
variable{L h:ae}{X:bK}{A iU:aD}{x y z N O B:Nat}{u:ByteArray}{m:eU}{H D lw:U}{E:aQ->aQ}{T:Int->fh}{j:bP}{R:Nat->Nat->Nat->fh}{Z:fh}
section
variable{F f n v:Nat}
def Nx(q:aQ->Bool):Prop:=∀p f:aQ,p.l.kind=f.l.kind->q p=q f
theorem adE{q:aQ->Bool}(l:bK)(drop:Nat->aQ->Bool):(mK l drop).countP q<=l.countP q:=by
 have f:∀k,k<=I l->(wE l drop k).countP q<=(l.take k).countP q:=by
  intro k
  induction k with
  |zero=>intro _;exact cP _
  |succ k m=>
   intro j;obtain⟨p,hp⟩:=aP (h:=l) (k:=k) J;rw[jM,hp,uW];cases H:drop k p
   .rw[Pp hp H,uW]
    grind
   rw[GR hp H];omega
 have:=f (I l) (cP _);rwa[lN]at this
theorem Pr{q:aQ->Bool}(h:Nx q){f:aQ->aQ}(hf:∀p,(f p).l.kind=p.l.kind)(l:bK):(l.map f).countP q=l.countP q:=by rw[sF];exact BM λp _=>by rw[Function.comp_apply,h _ _ (hf p)]
theorem XT(g A b:Int)(p:aQ):(dD g A b p).l.kind=p.l.kind:=by unfold dD;split<;>rfl
def adI(ids:cT)(p:aQ):(kY ids p).l.kind=p.l.kind:=by unfold kY;split<;>rfl
def MN{q:aQ->Bool}(l x:bK)(k:Nat):(fe l x k).countP q=l.countP q+x.countP q:=by rw[uW,uW,Nat.add_right_comm,<-uW,mW]
section
variable {F:Nat} {h:ae}
def alS(g:aU F h){q:aQ->Bool}:∀(A:aD) (l:bK),I l=I h->(∀e∈A,e<I h)->(dY h l A).countP q=l.countP q:=by
 intro A
 induction A with
 |nil=>intro l _ _;rfl
 |cons e A f=>grind [dY,wU,Hh,Eh]
def aqz{q:aQ->Bool}(H:Nx q)(l:bK)(i:Nat)(r:Int):(eI l i r).countP q=l.countP q:=by
 by_cases h:i<I l
 .obtain⟨p,hp⟩:=aP h;exact Qa hp λp=>H _ _ rfl
 unfold eI;rw[Ub J]
theorem aAG{q:aQ->Bool}(H:Nx q)(l:bK)(i:Nat)(g r:Int):(qi l i g r).countP q=l.countP q:=by
 by_cases h:i<I l
 .obtain⟨p,hp⟩:=aP h;unfold qi;have:=ay8 (p:=q) (y:={p with l:={p.l with gate:=g,ao:=r}}) hp;rw[H {p with l:={p.l with gate:=g,ao:=r}} p rfl]at this
  grind
 unfold qi;rw[Ub J]
def HG:aQ:=⟨⟨1,0,0,0,0,false⟩,false⟩
def qz:aQ:=⟨⟨2,0,0,0,0,false⟩,false⟩
def HD(q:aQ->Bool)(k:Int):Nat:=if k=2 then [HG,HG].countP q else if k=5 then [qz,qz].countP q else if k=7 then [qz,qz,qz,qz].countP q else 0
def ap2(g:aU F h){q:aQ->Bool}(n:Nx q){k:Int}{a b c:Nat}{l o:Bool}{sg:Int}(N:a<I h)(j:b<I h\/(k≠3/\k≠8))(B:c<I h\/k≠8){L:bK}(H:lQ F h k a b c l o sg=some L):L.countP q<=(aJ h).countP q+HD q k:=by
 have O:=dI h;have two:∀x y:aQ,x.l.kind=1->y.l.kind=1->[x,y].countP q=[HG,HG].countP q:=λx y D v=>by simp only[G4,Wz];rw[n x HG D,n y HG v]
 have T:∀x y:aQ,x.l.kind=2->y.l.kind=2->[x,y].countP q=[qz,qz].countP q:=λx y D v=>by simp only[G4,Wz];rw[n x qz D,n y qz v]
 unfold lQ at H;split at H
 .grind [td,Pr,XT,adE]
 split at H
 .rename_i m;subst m;have e:HD q 2=[HG,HG].countP q:=rfl;have E:∀f u,(vD h a b c f u).countP q=(aJ h).countP q+HD q 2:=λf u=>by
   unfold vD;rw[MN,e];show(List.map _ _).countP q+_=_;rw[Pr n (XT _ _ _),two _ _ rfl rfl]
  unfold o_ at H;split at H
  .cases H;exact EA (E _ _)
  split at H
  .cases H;exact EA (E _ _)
  cases H
 split at H
 .rename_i m;subst m;unfold sE at H;split at H
  .cases H;rw[alS g _ _ (by rw[vx,vx,O]) (by
    intro e A;simp only[dh,e_,or_false]at A;rcases A with rfl|rfl
    .exact N
    rcases j with j|j
    .exact j
    exact absurd rfl j.1),aqz n,aqz n]
   omega
  cases H
 split at H
 .unfold wS at H;simp only at H;split at H
  .cases H;show(List.map _ _).countP q<=_;rw[Pr n (adI _)];have:=adE (q:=q) (aJ h) (qH [((aJ h).getD a ⟨jJ,false⟩).l.id]);omega
  cases H
 split at H
 .rename_i m;subst m;cases H;unfold u_;rw[MN,T _ _ rfl rfl];exact cP _
 split at H
 .unfold sV at H;split at H
  .cases H;show(List.map _ _).countP q<=_;rw[Pr n (adI _)];have:=adE (q:=q) (aJ h) (qH [(bR h a).l.id,(bR h (nx h a)).l.id]);omega
  cases H
 split at H
 .rename_i m;subst m;have e:HD q 7=[qz,qz].countP q+[qz,qz].countP q:=by
   show [qz,qz,qz,qz].countP q=_;rw[<-uW];rfl
  have z:∀s t,tj h a b l o s t=some L->L.countP q<=(aJ h).countP q+HD q 7:=λs t H=>by
   unfold tj at H;split at H
   .cases H
   simp only[jb]at H;subst H;have v:∀x sg o s,(qo x sg o s).countP q=[qz,qz].countP q:=λx sg o s=>by unfold qo;split<;>exact T _ _ rfl rfl
   have M:∀x sg o,(pP x sg o).countP q=[qz,qz].countP q:=λx sg o=>T _ _ rfl rfl;split
   .rw[MN,MN,v,M,e];omega
   rw[MN,MN,v,M,e];omega
  unfold wH at H;split at H
  .exact z _ _ H
  exact z _ _ H
 split at H
 .rename_i m;subst m;unfold uA at H;split at H
  .cases H;rw[alS g _ _ O (by
    intro e A;simp only[dh,e_,or_false]at A;rcases A with rfl|rfl|rfl
    .exact N
    .rcases j with j|j
     .exact j
     exact absurd rfl j.2
    rcases B with B|B
    .exact B
    exact absurd rfl B)]
   omega
  cases H
 grind [wY,aAG,Pr,XT,xE]
def axm(g:aU F h)(k a b c:Int)(l o:Bool)(sg:Int):(∃e,e≠0/\rD F h k a b c l o sg=uF e)\/ ∃M,rD F h k a b c l o sg=rF F M/\fP F M=0/\dQ F h k a b c l o sg/\ ∃L,lQ F h k a.toNat b.toNat c.toNat l o sg=some L/\M=ch L:=by
 unfold rD;cases H:dQ F h k a b c l o sg
 .exact .inl ⟨2,aa,rfl⟩
 rw[aI rfl];cases m:lQ F h k a.toNat b.toNat c.toNat l o sg with
 |none=>exact .inl ⟨4,aa,rfl⟩
 |some L=>
  unfold vQ;by_cases E:(400:Int)<(I h:Int)+(gU k).1\/(100:Int)<((aq U.au h/2:Nat):Int)+(gU k).2
  .exact .inl ⟨7,aa,aI E⟩
  refine .inr ⟨ch L,aE E,?_,rfl,L,rfl,rfl⟩;have Y:=g.len;have fA:=g.cr;have hF:=g.fing;have mU:¬I h=0:=by have:=iW.2 (g.ne);omega
  have eM:aq U.au h%2=0:=by have:=g.cz.ev;rwa[jG]at this
  have bQ:=dI h;have kT:Nx (λ_=>true):=λ_ _ _=>rfl;have kC:Nx (λp=>p.l.au):=λp p' ab=>by show(p.l.kind==2)=(p'.l.kind==2);rw[ab]
  have pC:(aJ h).countP (λp=>p.l.au)=aq U.au h:=by rw[<-EM U.au];show _=List.countP _ (List.map _ _);rw[sF];rfl
  have lC:aq U.au (L.map aQ.l)=L.countP (λp=>p.l.au):=by show List.countP _ (List.map _ _)=_;rw[sF];rfl
  have T:∀l:bK,l.countP (λ_=>true)=I l:=λl=>aG;have fin:L=[]\/jt F L->(∀ {A B v:Nat},a=(A:Int)->b=(B:Int)->c=(v:Int)->A<I h->(B<I h\/(k≠3/\k≠8))->(v<I h\/k≠8)->fP F (ch L)=0):=by
   intro x A B v e1 e2 e3 f n N;subst e1 e2 e3;simp only[lJ]at m;have Z:=ap2 g kT f n N m;have c2:=ap2 g kC f n N m;rw[T,T,bQ]at Z;rw[pC]at c2;have y:HD (λ_=>true) k=(gU k).1.toNat/\0<=(gU k).1/\HD (λp=>p.l.au) k=2*(gU k).2.toNat/\0<=(gU k).2:=by
    unfold HD gU;split
    .exact⟨rfl,aa,rfl,aa⟩
    split
    .exact⟨rfl,aa,rfl,aa⟩
    split
    .exact⟨rfl,aa,rfl,aa⟩
    exact⟨rfl,aa,rfl,aa⟩
   obtain⟨y,b2,b3,b4⟩:=y;rw[y]at Z;rw[b3]at c2;rcases x with rfl|x
   .unfold fP;have:ch []=[]:=rfl;rw[this];rw[aE (by simp[aq]),aE J,aI rfl]
   exact x.check J (by rw[lC];omega) hF
  unfold dQ at H;by_cases Q:k=1
  .subst Q;simp only[Int.reduceEq,if_true,if_false,or_false,or_self]at H;simp only[cF,gH,cW]at H;obtain⟨rfl,rfl,rfl,j,rfl,rfl⟩:=H;obtain⟨A,rfl,f⟩:=eZ j;exact fin (amr g f rt) rfl rfl rfl f (.inr ⟨aa,aa⟩) (.inr aa)
  by_cases z:k=2
  .subst z;simp only[Int.reduceEq,if_true,if_false,or_self]at H;simp only[cF,nK,gH,cW,fL]at H;obtain⟨rfl,rfl,rfl,j,ia,HZ,ui,N⟩:=H;rcases j with j|⟨j,_⟩
   rotate_left
   .exact absurd j mU
   obtain⟨A,rfl,f⟩:=eZ j;obtain⟨B,rfl⟩:=lV ia;obtain⟨v,rfl⟩:=lV ui;rw[lJ]at N;exact fin (.inr (acu g (b:=B) (c:=v) f J J rt)) rfl rfl rfl f (.inr ⟨aa,aa⟩) (.inr aa)
  by_cases h3:k=3
  .subst h3;simp only[Int.reduceEq,if_true,if_false,or_false,or_self]at H;simp only[cF,gH,cW,fL]at H;obtain⟨rfl,rfl,rfl,j,rfl,u,aw⟩:=H;obtain⟨A,rfl,f⟩:=eZ j;obtain⟨B,rfl,n⟩:=eZ u;exact fin (.inr (acr g f n J rt)) rfl rfl rfl f (.inl n) (.inr aa)
  by_cases O:k=4
  .subst O;simp only[Int.reduceEq,if_true,if_false,or_false,or_true,or_self]at H;simp only[cF,gH,cW]at H;obtain⟨rfl,rfl,rfl,j,rfl,rfl⟩:=H;obtain⟨A,rfl,f⟩:=eZ j;exact fin (.inr (acg g f rt)) rfl rfl rfl f (.inr ⟨aa,aa⟩) (.inr aa)
  by_cases X:k=5
  .subst X;simp only[Int.reduceEq,if_true,if_false,or_self]at H;simp only[cF,nK,gH,cW]at H;obtain⟨rfl,af,j,rfl,rfl⟩:=H;obtain⟨A,rfl,f⟩:=eZ j;have:L=u_ h A sg o:=by
    simp[lQ]at m;exact m.symm
   subst this;exact fin (.inr (Z6 g f af)) rfl rfl rfl f (.inr ⟨aa,aa⟩) (.inr aa)
  by_cases h6:k=6
  .subst h6;simp only[Int.reduceEq,if_true,if_false,or_true,or_self]at H;simp only[cF,gH,cW,fL]at H;obtain⟨rfl,rfl,rfl,j,rfl,u,aw⟩:=H;obtain⟨A,rfl,f⟩:=eZ j;obtain⟨B,rfl,n⟩:=eZ u;exact fin (.inr (an9 g f n rt)) rfl rfl rfl f (.inr ⟨aa,aa⟩) (.inr aa)
  by_cases R:k=7
  .subst R;simp only[Int.reduceEq,if_true,if_false,or_self]at H;simp only[cF,gH,cW,nj]at H;obtain⟨rfl,j,rfl,u,aN⟩:=H;obtain⟨A,rfl,f⟩:=eZ j;obtain⟨B,rfl,n⟩:=eZ u;exact fin (.inr (acG g f n J rt)) rfl rfl rfl f (.inr ⟨aa,aa⟩) (.inr aa)
  by_cases h8:k=8
  .subst h8;simp only[Int.reduceEq,if_true,if_false,or_self]at H;simp only[cF,gH,cW,fL]at H;obtain⟨rfl,rfl,rfl,j,u,hz,_⟩:=H;obtain⟨A,rfl,f⟩:=eZ j;obtain⟨B,rfl,n⟩:=eZ u;obtain⟨v,rfl,x⟩:=eZ hz;exact fin (.inr (aas g f n x rt)) rfl rfl rfl f (.inl n) (.inl x)
  by_cases h9:k=9
  .subst h9;simp only[Int.reduceEq,if_true,if_false,or_false,or_true,or_self]at H;simp only[cF,gH,cW]at H;obtain⟨rfl,rfl,rfl,j,rfl,rfl⟩:=H;obtain⟨A,rfl,f⟩:=eZ j;exact fin (.inr (aeS g f rt)) rfl rfl rfl f (.inr ⟨aa,aa⟩) (.inr aa)
  by_cases D:k=10
  .subst D;simp only[Int.reduceEq,if_true,if_false,or_true,or_self]at H;simp only[cF,gH,cW]at H;obtain⟨rfl,rfl,rfl,j,rfl,rfl⟩:=H;obtain⟨A,rfl,f⟩:=eZ j;exact fin (.inr (Zs g f rt)) rfl rfl rfl f (.inr ⟨aa,aa⟩) (.inr aa)
  simp[Q,z,h3,O,X,h6,R,h8,h9,D]at H
end

def h_(F:Nat)(h:ae)(m:eU):Option ae:=
 if h=[]then if dQ F [] m.k m.a m.b m.c m.l m.o m.s=true then some (pA m.b.toNat)else none
 else if dQ F h m.k m.a m.b m.c m.l m.o m.s=true then match lQ F h m.k m.a.toNat m.b.toNat m.c.toNat m.l m.o m.s with
  |none=>none
  |some M=>if(400:Int)<(I h:Int)+(gU m.k).1\/(100:Int)<((aq U.au h/2:Nat):Int)+(gU m.k).2 then none else some (ch M)
 else none
abbrev fK(L:ae)(v:Nat):U:=(bR L v).l
section
variable {F:Nat} {L M:ae} {r:Bool} {s t:Nat->Nat}
def lB{l:U}(h:L[v]?=some l):fK L v=l:=congrArg aQ.l (jL (gX h))
def ayg{Y:Type}(c:Bool)(x:Y):(if c=true then some x else none).isSome=c:=by cases c<;>rfl
structure Oe (F:Nat) (L:ae) (a b:Nat):Prop where
 cr:(fK L a).kind=2/\(fK L (nx L a)).kind=2/\(fK L b).kind=2/\(fK L (nx L b)).kind=2
 ov:(fK L (nx L a)).over=(fK L a).over/\(fK L (nx L b)).over=(fK L b).over/\(fK L b).over= !(fK L a).over
 KI:(fK L a).id≠(fK L (nx L a)).id
 KJ:((fK L b).id=(fK L a).id/\(fK L (nx L b)).id=(fK L (nx L a)).id)\/((fK L b).id=(fK L (nx L a)).id/\(fK L (nx L b)).id=(fK L a).id)
 far:nx L (nx L a)≠b/\nx L (nx L b)≠a
 cor:pN F L 0 [a,b] a
def PO(L:ae)(a:Nat):nx L (nx L a)=(a+2)%I L:=by simp_all
def alv{L:ae}{a b:Nat}:(sV F L a b).isSome↔Oe F L a b:=by
 unfold sV;rw[ayg];unfold jf;simp;constructor
 .rintro ⟨v,f,j,h,H,m⟩
  refine⟨?_,?_,f,j,⟨by rw[PO];exact h,by rw[PO];exact H⟩,m⟩
  .grind
  grind
 rintro⟨⟨A,u,B,n⟩,⟨y,x,O⟩,f,j,⟨h,H⟩,m⟩
 rw[PO]at h H
 grind
def Oe.symm{a b:Nat}(h:Oe F L a b)(D:a<I L)(y:b<I L):Oe F L b a:=by
 obtain⟨⟨A,j,B,f⟩,⟨u,n,O⟩,v,x,⟨H,m⟩,z⟩:=h;refine⟨⟨B,f,A,j⟩,⟨n,u,by rw[O,FU]⟩,?_,?_,⟨m,H⟩,?_⟩
 .grind
 .grind
 grind [Ft,OD]
end
section
variable {F:Nat} {L M:ae} {r:Bool} {s t:Nat->Nat}
def xK(L:ae)(e f:Nat):Prop:=e≠f/\e≠nx L f/\nx L e≠f/\nx L e≠nx L f
theorem aHg(H:I X=I L){e:Nat}(j:e<I L)(hf:f<I L)(h:xK L e f):ig L (ig L X e) f=ig L (ig L X f) e:=by
 obtain⟨y,u,z,v⟩:=h;apply qO;intro x;have m:I (ig L X e)=I L:=by rw[wU,H]
 have n:I (ig L X f)=I L:=by rw[wU,H]
 grind [DH]
def aoZ(hp:A.Perm iU):∀ {X:bK},I X=I L->(∀e∈A,e<I L)->A.Pairwise (xK L)->dY L X A=dY L X iU:=by
 induction hp with
 |nil=>intro X _ _ _;rfl
 |cons e _ x=>intro X j m H;exact x (by rw[wU,j]) (λe h=>m e ut) (iR.1 H).2
 |swap e f l=>grind [dY,aHg,iR]
 |trans v y n u=>intro X j m H;rw[n j m H];exact u j (λe h=>m e (v.mem_iff.2 h)) (v.pairwise H λh=>(λh=>⟨h.1.symm,h.2.2.1.symm,h.2.1.symm,h.2.2.2.symm⟩) h)
def aCN{p q:Nat}(hp:p<I X)(j:q<I X)(h:p≠q)(a b:Int):eI (eI X p a) q b=eI (eI X q b) p a:=by
 obtain⟨x,f⟩:=aP hp;obtain⟨y,H⟩:=aP j;have m:(eI X q b)[p]?=some x:=by rw[sJ H,aE h];exact f
 apply qO;intro z;rw[sJ (by rw[sJ f,aE (Ne.symm h)];exact H),sJ m,sJ f,sJ H]
 grind
end
section
variable {F:Nat} {L M:ae} {r:Bool} {s t:Nat->Nat}
def AE(L:ae)(e p v:Nat):Prop:=((p=e/\v=nx L e)\/(p=nx L e/\v=e))/\(fK L p).kind=1/\(fK L v).kind=2
structure yA (F:Nat) (L:ae) (a b p v q w:Nat):Prop where
 ea:AE L a p v
 eb:AE L b q w
 vw:v≠w
 id:(fK L v).id=(fK L w).id
 cor:pN F L 1 [a,b] a
def AE.pv{e p:Nat}(h:AE L e p v):ff L e=(p,v,true):=by
 obtain⟨H,j,f⟩:=h;unfold ff
 grind
def AE.lt{e p:Nat}(h:AE L e p v)(H:e<I L):p<I L/\v<I L:=by
 have f:nx L e<I L:=dB _ J;rcases h.1 with⟨rfl,rfl⟩|⟨rfl,rfl⟩
 .exact⟨H,f⟩
 exact⟨f,H⟩
def ayE(g:aU F L){a b:Nat}(N:a<I L)(y:b<I L)(h:sE F L a b=some X):∃p v q w,yA F L a b p v q w/\X=dY L (eI (eI (aJ L) p (fK L q).ao) q (fK L p).ao) [a,b]:=by
 have m:0<I L:=J;unfold sE at h;split at h
 case isFalse=>cases h
 rename_i u;simp at u;obtain⟨f,H,M,z,A⟩:=u;cases h;obtain⟨ea,⟨la,E,D⟩,Z,R,O⟩:=Xj m N f;obtain⟨eb,⟨lb,T,cb⟩,Y,B,Q⟩:=Xj m y H;have j:∀ {x:Nat}{l:U},L[x]?=some l->l.au->(fK L x).kind=2:=λf H=>by rw[lB f];unfold U.au at H;exact cW.1 H
 have n:∀ {x:Nat}{l:U},L[x]?=some l->l.ay->(fK L x).kind=1:=λf H=>by rw[lB f];unfold U.ay at H;exact cW.1 H
 exact⟨_,_,_,_,⟨⟨ea,n R O,j E D⟩,⟨eb,n B Q,j T cb⟩,M,z,A⟩,rfl⟩
def yA.as{a b p q w:Nat}(h:yA F L a b p v q w):sE F L a b=some (dY L (eI (eI (aJ L) p (fK L q).ao) q (fK L p).ao) [a,b]):=by unfold sE;rw[h.ea.pv,h.eb.pv];refine aI ?_;simp only[cF,gH,nj,cW];exact⟨trivial,trivial,h.vw,h.id,h.cor⟩
def yA.symm{a b p v q w:Nat}(h:yA F L a b p v q w)(f:a<I L)(j:b<I L):yA F L b a q w p v:=by
 refine⟨h.eb,h.ea,h.vw.symm,h.id.symm,?_⟩;have H:=h.cor
 grind [Ft,OD]
def LC(h:(fK L x).kind=1)(k:(fK L y).kind=2):x≠y:=λe=>by rw[e,k]at h;cases h
def yA.pq(g:aU F L){a b p q w:Nat}(h:yA F L a b p v q w)(ha:a<I L)(hb:b<I L)(dE:a≠b):p≠q:=by
 obtain⟨⟨ea,D,Q⟩,⟨eb,kq,O⟩,Fh,H,EK⟩:=h;obtain⟨hp,hv⟩:=AE.lt ⟨ea,D,Q⟩ ha;obtain⟨hq,hw⟩:=AE.lt ⟨eb,kq,O⟩ hb;obtain⟨ma,R⟩:=aP hp;obtain⟨la,X⟩:=aP hv;obtain⟨mb,M⟩:=aP hq;obtain⟨lb,tK⟩:=aP hw;rw[lB R]at D;rw[lB X]at Q H;rw[lB M]at kq;rw[lB tK]at O H;have jR:∀ {l:U},l.kind=1->l.ay:=λh=>by unfold U.ay;rw[h];rfl
 have cC:∀ {l:U},l.kind=2->l.au:=λh=>by unfold U.au;rw[h];rfl
 obtain⟨wk,T,mf,d,d1,d2,d3,d4,two,cs⟩:=aaJ g ha hb dE ea eb X tK R M (cC Q) (cC O) (jR D) (jR kq) H Fh EK;have j:∀ {x y u z:Nat}{lx Z A:U},b_ (I L) d=x->b_ (I L) (aT L d)=z->cA (I L) (aT L d)=y->L[x]?=some lx->L[y]?=some A->L[z]?=some Z->A.kind=1->Z.kind=2->x≠y:=by
  intro x y u z lx Z A B n E hx hy hz ku kz;obtain⟨N,m,Y,y1,y2,y3,jV,y4⟩:=Vy g T mf d3 (Pt d4) (by rw[E];exact hy) (jR ku);have hu:=(bN.1 y2).1;have yT:∀f,b_ (I L) (dS (I L) N f)=N/\dS (I L) N f<2*I L:=λf=>⟨(JC hu).1,by
   have:=zi hu (!f);rw[<-tX]at this;have:=vi this;rwa[vz]at this⟩
  have QY:b_ (I L) Y=N/\Y<2*I L:=ii
  have hm:m.ao≠A.ao:=by rcases y4 with⟨_,e,_⟩|⟨_,e,_⟩<;>omega
  rcases two Y y1 QY.2 with e|e
  .grind
  grind [U.ay]
 rcases cs with⟨_,_,B,_,n,E⟩|⟨_,_,B,_,n,E⟩
 .exact j (u:=0) B n E R M tK kq O
 exact(j (u:=0) B n E M R X D Q).symm
def yA.dj(g:aU F L){a b p q w:Nat}(h:yA F L a b p v q w)(M:a<I L)(A:b<I L)(D:a≠b):xK L a b:=by
 have y:=h.pq g M A D;obtain⟨⟨ea,x,B⟩,⟨eb,kq,z⟩,f,_⟩:=h;have j:=LC x z;have H:=LC kq B;rcases ea with⟨m,E⟩|⟨m,E⟩<;>rcases eb with⟨n,u⟩|⟨n,u⟩<;>subst m E n u
 .exact⟨y,j,H.symm,f⟩
 .exact⟨j,y,f,H.symm⟩
 .exact⟨H.symm,f,y,j⟩
 exact⟨f,H.symm,j,y⟩
end
def alE{l L:cT}(h:∀x,x∈l↔x∈L):I (jO l)=I (jO L):=
 ((Ob (SB l) (SB L)).2 λx=>by rw[AA,AA,h]).length_eq
def aB6{f:Int->Int}{l:cT}(hf:∀x∈l,∀y∈l,f x=f y->x=y):I (jO (l.map f))=I (jO l):=by
 rw[show(jO l).length=I ((jO l).map f) by rw[ct]];refine((Ob (SB _) (BG.2 ((SB l).imp_of_mem λj H h e=>h (hf _ (AA.1 j) _ (AA.1 H) e)))).2 λx=>?_).length_eq
 grind [AA]
def C5(F:Nat)(L:ae)(A:aD)(E:Nat):Bool:=A.all (tz L)&&((I (jO (pG L A))==6)&&((I (jO (tY L A))==3)&&(A.any (jf L · true)&&(A.any (jf L · false)&&pN F L 0 A E))))
section
variable {F:Nat} {L M:ae} {r:Bool} {s t:Nat->Nat}
def au3{j E:Nat}(m:∀e∈A,e<I L)(hp:A.Perm iU)(u:A[0]?=some j)(H:iU[0]?=some E)(h:C5 F L A j):C5 F L iU E:=by
 have n:∀f:Nat->cT,I (jO (iU.flatMap f))=I (jO (A.flatMap f)):=λf=>alE λx=>by grind
 grind [Ft,OD,C5,pG,tY]
def aCm(h:x≠y):∃a b,a<b/\[x,y].Perm [a,b]:=by
 by_cases c:x<y
 .grind
 exact⟨y,x,J,List.Perm.swap _ _ _⟩
def asD(m:x≠y)(j:x≠z)(h:y≠z):∃a b c,a<b/\b<c/\[x,y,z].Perm [a,b,c]:=by
 obtain⟨a,b,D,hp⟩:=aCm h;have O:=hp.cons x;have H:a=y\/a=z:=by have:=hp.mem_iff.2 (show a∈[a,b] by simp);simpa using this
 have n:b=y\/b=z:=by have:=hp.mem_iff.2 (show b∈[a,b] by simp);simpa using this
 by_cases u:x<a
 .grind
 by_cases f:x<b
 .exact⟨a,x,b,J,f,O.trans (List.Perm.swap _ _ _)⟩
 exact⟨a,b,x,D,J,O.trans ((List.Perm.swap _ _ _).trans ((List.Perm.swap _ _ _).cons a))⟩
def apA(H:I A=3)(h:I (jO (pG L A))=6):A.Pairwise (xK L):=by
 match A,H with
 |[a,b,c],_=>have E:=amH EQ;have E:(([a,nx L a,b,nx L b,c,nx L c]:aD).map λi:Nat=>(i:Int)).Nodup:=E;simp only[fq,ml,qQ,dh,e_,or_false,Ag,pW,and_true,not_false_eq_true]at E;unfold xK;simp;omega
end
abbrev de(n f v:Nat):Nat:=(v+n-f)%n
def xo(h:f<n):de n f v<n:=dB _ J
def acR(hf:f<n)(h:v<n):de n f ((f+v)%n)=v:=by unfold de;rw[aaO (a:=f+v) J];split<;>(rw[aaO J];split<;>omega)
def Up(hf:f<n)(h:v<n):(f+de n f v)%n=v:=by rw[ae0,show f+(v+n-f)=v+n by omega,rn,fC h]
def ade(hf:f<n)(h:v<n):de n f ((v+1)%n)=(de n f v+1)%n:=by
 unfold de;rw[V5,aaO (a:=v+1) J];split
 .congr 1;omega
 rw[show v+n-f+1=(v+1-n+n-f)+n by omega,rn]
theorem AJ{u:Nat}(hf:f<n)(h:u<n)(H:v<n)(e:de n f u=de n f v):u=v:=by rw[<-Up hf h,<-Up hf H,e]
structure uu (F:Nat) (P:bK) (X:ae) (f:Nat):Prop where
 g:aU F X
 len:I X=I P
 hf:f<I P
 at_:∀v p,P[v]?=some p->X[de (I P) f v]?=some p.l
 dn:∀v p,P[v]?=some p->p.l.ay->dn X (de (I P) f v)=p.d
def Rp{P:bK}(jR:jt F P)(j:fP (F:Int) (ch P)=0):∃f,uu F P (ch P) f:=by
 obtain⟨f,hf,A,al,_,h⟩:=aee jR;obtain⟨G,E,g⟩:=E4 j (λe=>by rw[e]at al;simp at al;omega);have:F=G:=J;subst this;refine⟨f,g,al,hf,λv p hp=>?_,λv p hp D=>?_⟩
 .rw[A _ (xo hf),Up hf ((bN.1 hp).1),hp];rfl
 exact(h _ p (xo hf) (by rw[Up hf ((bN.1 hp).1)];exact hp) D).symm
section
variable {F:Nat} {L X:ae} {P:bK} {f:Nat}
def uu.back(S:uu F P X f)(g:aU F L)(O:I P=I L){Q:bK}(A:jt F Q)(D:I Q=I L)(h:∀v,v<I L->Q[de (I L) f v]?=(aJ L)[v]?):my (ch Q) L:=by
 obtain⟨E,n,B,jz,⟨R,m,N,z⟩,_⟩:=aee A;have hf:=S.hf;rw[O]at hf;rw[D]at n B jz;have j:0<I L:=J;have get:∀x,x<I L->Q[x]?=(aJ L)[(f+x)%I L]? :=λx M=>by rw[<-h _ (dB _ j),acR hf M]
 have y:(f+E)%I L<I L:=dB _ j;have e:ch Q=fG L ((f+E)%I L):=by
  apply qO;intro k;by_cases u:k<I L
  .rw[B k u,get _ (dB _ j),Ye y u,ae0,<-FT,V5];obtain⟨l,hl⟩:=aP (dB _ j);rw[gX hl,hl];rfl
  rw[pS J,pS (by rw[wR];omega)]
 rw[e];refine anu J g.even ?_;rw[get E n]at m;obtain⟨l,hl⟩:=aP y;rw[gX hl]at m;have H:ep L ((f+E)%I L):=by rw[<-mQ m]at z;exact z
 unfold ep at H;rw[hl]at H;have H:=H;rw[cF]at H;have:=H.2;unfold Go.Abs.dn at this;exact cW.1 this
def nA(n f d:Nat):Nat:=if d%2=0 then 2*de n f (d/2)+1 else 2*de n f (d/2)
def H3(n f d:Nat):nA n f d/2=de n f (d/2):=by unfold nA;split<;>omega
def aqx{d:Nat}(hf:f<n)(H:d<2*n):nA n f d=dS n (de n f (cA n d)) (!cH d):=by
 unfold nA dS cA cH;rcases rN d with h|h
 .simp[h,AL,iJ];rw[ade hf J,DF (xo hf)]
 grind
def aoN{d:Nat}(hf:f<n)(H:d<2*n):nA n f d=jB n (de n f (b_ n d)) (!cH d):=by
 unfold nA jB b_ cH;rcases rN d with h|h
 .grind
 simp[h,Hl];rw[ade hf J,DF (xo hf)]
def ac5{d:Nat}(hf:f<n):nA n f d<2*n:=by have:=xo (v:=d/2) hf;unfold nA;split<;>omega
def uu.am3(S:uu F P X f)(g:aU F L)(B:I P=I L){d:Nat}(h:d<2*I L){l m:U}{e N:Bool}(hl:L[cA (I L) d]?=some l)(j:l.au)(D:P[b_ (I L) d]?=some ⟨l,e⟩)(x:P[cA (I L) (aT L d)]?=some ⟨m,N⟩)(E:m.au)(H:m.id=l.id)(z:b_ (I L) d≠cA (I L) (aT L d)):aT X (nA (I L) f d)=nA (I L) f (aT L d):=by
 have hf:=S.hf;have v:=S.len;have A:=S.at_ _ _ D;have u:=S.at_ _ _ x;rw[B]at hf v A u;obtain⟨n,Q,M,_⟩:=FQ g h hl j;rw[aoN hf h,aqx hf n];have y:=yZ A j (!cH d);rw[v,wW S.g A u j E H.symm λO=>z (AJ hf (Im g h) (Ed g n) O)]at y;have R:(l.over==(l.sign==1))=(cH d==cH _):=M
 grind [cH]
def ajE(g:aU F X){p q r:Nat}(pq:p≠q)(pr:p≠r)(Y:q≠r)(H:p<aX X)(D:q<aX X)(lr:r<aX X)(n:aT X p=q)(N:aT X q=r)(B:aT X r=p){pl:Nat}
  (M:I ([p,q,r].filter λx=>decide (x<2*I X))=I A) (L:yj F X p+yj F X q+yj F X r=pl)
  (T:∀e∈A,(2*e∈([p,q,r].filter λx=>decide (x<2*I X))/\2*e+1∉([p,q,r].filter λx=>decide (x<2*I X)))\/(2*e∉([p,q,r].filter λx=>decide (x<2*I X))/\2*e+1∈([p,q,r].filter λx=>decide (x<2*I X)))):mZ F X pl A:=by
 have inj:=(nc g.ok).inj;obtain⟨w,f,y⟩:=apO H;have j:=uB (nc g.ok) f y;rw[n]at j;have E:=uB (nc g.ok) f j;rw[N]at E;obtain⟨O,_⟩:=ahK g f;have hp:w.Perm [p,q,r]:=(Ob O (by simp[pq,pr,Y])).2 λz=>by
  simp only[dh,e_,or_false];constructor
  .intro R;refine(T4 g f (Q:=λt=>t=p\/t=q\/t=r) (λt m=>⟨?_,?_⟩) y R).1 (.inl rfl)
   .rintro (h|h|h)
    .exact .inr (.inr (inj _ _ m lr (h.trans B.symm)))
    .exact .inl (inj _ _ m H (h.trans n.symm))
    exact .inr (.inl (inj _ _ m D (h.trans N.symm)))
   rintro(h|h|h)<;>rw[h]
   .exact .inr (.inl n)
   .exact .inr (.inr N)
   exact .inl B
  rintro(rfl|rfl|rfl)<;>assumption
 unfold mZ;rw[Bk];refine⟨jc F X w,c_.2 ⟨w,f,rfl⟩,?_⟩;unfold Aq;simp only[cF,cW,mz];rw[zd,ajI];have hf:=hp.filter λx=>decide (x<2*I X);refine⟨hf.length_eq.trans M,?_,λe Z=>?_⟩
 .rw[(hp.map _).sum_nat,<-L];simp only[fq,ml,List.sum_cons,List.sum_nil];omega
 rw[decide_eq_decide.2 hf.mem_iff,decide_eq_decide.2 hf.mem_iff];rcases T e Z with⟨u,v⟩|⟨u,v⟩
 .rw[uG u,uE v];rfl
 rw[uE u,uG v];rfl
end
section
variable {F:Nat} {L X:ae} {P:bK} {f:Nat}
def Q4:∀ {A:aD}{Z:bK},I Z=I L->(∀e∈A,e<I L)->A.Pairwise (xK L)->(∀e∈A,e≠nx L e)->(∀e∈A,(dY L Z A)[e]?=Z[nx L e]? /\(dY L Z A)[nx L e]?=Z[e]?)/\ ∀x,(∀e∈A,x≠e/\x≠nx L e)->(dY L Z A)[x]?=Z[x]? :=by
 intro A
 induction A with
 |nil=>intro Z _ _ _ _;exact⟨λe j=>(nomatch j),λx _=>rfl⟩
 |cons e A F=>
  intro Z m j u n;obtain⟨D,z⟩:=iR.1 u;obtain⟨i1,i2⟩:=F (Z:=ig L Z e) (by rw[wU,m]) (λx h=>j x ut) z (λx h=>n x ut);have gt:=λx=>DH m (j e aG) x;have E:=n e aG;refine⟨λx H=>?_,λx H=>?_⟩
  .show(dY L (ig L Z e) A)[x]?=_/\(dY L (ig L Z e) A)[nx L x]?=_;rcases dh.1 H with rfl|H
   .rw[i2 x λy f=>⟨(D y f).1,(D y f).2.1⟩,i2 (nx L x) λy f=>⟨(D y f).2.2.1,(D y f).2.2.2⟩,gt,gt,aE E,aI rfl,aI rfl];exact⟨rfl,rfl⟩
   obtain⟨v,B⟩:=i1 x H;obtain⟨M,O,N,Q⟩:=D x H;rw[v,B,gt,gt,aE (Ne.symm Q),aE (Ne.symm O),aE (Ne.symm N),aE (Ne.symm M)];exact⟨rfl,rfl⟩
  show(dY L (ig L Z e) A)[x]?=_;rw[i2 x λy f=>H y aig,gt,aE (H e aG).2,aE (H e aG).1]
def aBq{Z:bK}(j:I Z=I L)(f:∀e∈A,e<I L)(H:A.Pairwise (xK L))(m:∀e∈A,e≠nx L e):dY L (dY L Z A) A=Z:=by
 obtain _:=Q4 j f H m;obtain _:=Q4 (Z:=dY L Z A) (by rw[yX,j]) f H m;apply qO;intro x;rcases Classical.em (∃e∈A,x=e\/x=nx L e)with⟨e,n,h⟩|h
 .rcases h with rfl|rfl
  .grind
  grind
 grind
def uu.nx(S:uu F P X f)(h:I P=I L)(H:v<I L):Go.Abs.nx X (de (I L) f v)=de (I L) f (Go.Abs.nx L v):=by have hf:=S.hf;rw[h]at hf;show _%I X=_;rw[S.len,h,<-ade hf H]
def uu.sw(S:uu F P X f)(y:I P=I L):∀ {A:aD}{Y Z:bK},I Y=I L->I Z=I L->(∀e∈A,e<I L)->(∀v,v<I L->Y[de (I L) f v]?=Z[v]?)->∀v,v<I L->(dY X Y (A.map (de (I L) f)))[de (I L) f v]?=(dY L Z A)[v]? :=by
 have hf:=S.hf;have H:=S.len;rw[y]at hf H;intro A
 induction A with
 |nil=>intro Y Z _ _ _ h;exact h
 |cons e A M=>
  intro Y Z z m u h;have eo:=u e aG;have n:Go.Abs.nx L e<I L:=dB _ J;refine M (by rw[wU,z]) (by rw[wU,m]) (λx D=>u x (by simp[D])) λv E=>?_;rw[DH (by rw[H,z]) (by rw[H];exact xo hf),DH m eo,S.nx y eo];by_cases j:v=Go.Abs.nx L e
  .subst j;rw[aI rfl,aI rfl,h _ eo]
  rw[aE j,aE λk=>j (AJ hf E n k)];by_cases B:v=e
  .subst B;rw[aI rfl,aI rfl,h _ n]
  grind [AJ]
def uu.Ad(S:uu F P X f)(j:I P=I L)(n:∀p∈P,p.l.ay=false->p.d=false)(u:v<I L):(aJ X)[de (I L) f v]?=P[v]? :=by
 obtain⟨p,hp⟩:=aP (h:=P) (k:=v) J;have H:=S.at_ v p hp;have m:=S.dn v p hp;rw[j]at H m;rw[gX H,hp];have:ep X (de (I L) f v)=p.d:=by
  unfold ep
  grind
 rw[this]
def agL(g:aU F L){a b c:Nat}(ha:a<I L)(hb:b<I L)(hc:c<I L)(h:C5 F L [a,b,c] a):[a,b,c].Pairwise (xK L)/\(∀e∈[a,b,c],(fK L e).kind=2/\(fK L (nx L e)).kind=2)/\ ∃Q A B,Q<2*I L/\A<2*I L/\B<2*I L/\aT L Q=A/\aT L A=B/\aT L B=Q/\((Q/2=a/\A/2=b/\B/2=c)\/(Q/2=a/\A/2=c/\B/2=b)):=by
 unfold C5 at h;simp only[cF,cW]at h;obtain⟨fA,h6,_,_,_,EK⟩:=h;have dj:=apA rfl h6;have kk:=λe X=>by have H:=mz.1 fA e X;unfold tz at H;rwa[cF,cW,cW]at H
 refine⟨dj,kk,?_⟩;obtain⟨j1,j2⟩:=iR.1 dj;have ab:=j1 b aG;have Y:=j1 c aG;have R:=(iR.1 j2).1 c aG;have hn:0<I L:=J;obtain⟨w,hw,_,m,hE⟩:=Xe g ha EK;obtain⟨u,vL,Z,N⟩:=hE a aG;obtain⟨v,w8,T,M⟩:=hE b aG;obtain⟨n,HO,O,E⟩:=hE c aG;have hN:∀d,d<2*I L->d<aX L:=λd hd=>by unfold aX;omega
 have three:∀d,d∈w->d<2*I L->d=u\/d=v\/d=n:=λd H f=>by
  have j:∀d,d∈w->d<2*I L->d∈w.filter λx=>decide (x<2*I L):=λd H f=>rv.2 ⟨H,by simpa using f⟩;have q1:=j u vL Z;have q2:=j v w8 T;have q3:=j n HO O;have q4:=j d H f;generalize w.filter (λx=>decide (x<2*I L))=D at m q1 q2 q3 q4
  match D,m with
  |[x,y,z],_=>simp only[dh,e_,or_false]at q1 q2 q3 q4;have:=ab.1;have:=Y.1;have:=R.1;omega
 have Kg:∀d,d<2*I L->d/2∈[a,b,c]->∃l,L[cA (I L) d]?=some l/\l.au:=λd hd X=>by
  obtain⟨H,f⟩:=kk _ X;obtain⟨l,hl⟩:=aP (Ed g hd);refine⟨l,hl,?_⟩;have:(fK L (cA (I L) d)).kind=2:=by
   unfold cA;split
   .exact f
   exact H
  rw[lB hl]at this;unfold U.au;rw[this];rfl
 have step:∀d,d∈w->d<2*I L->d/2∈[a,b,c]->aT L d=u\/aT L d=v\/aT L d=n:=λd hd hl X=>by obtain⟨l,H,f⟩:=Kg d hl X;exact three _ (uB (nc (g.ok)) hw hd) (FQ g hl H f).1
 rcases apE g hw vL w8 HO (λe=>ab.1 (by rw[<-N,<-M,e])) (λe=>Y.1 (by rw[<-N,<-E,e])) (λe=>R.1 (by rw[<-M,<-E,e])) (hN _ Z) (hN _ T) (hN _ O) (step u vL Z (by rw[N];simp)) (step v w8 T (by rw[M];simp)) (step n HO O (by rw[E];simp))with⟨H,f,h3⟩|⟨H,f,h3⟩
 .exact⟨u,v,n,Z,T,O,H,f,h3,.inl ⟨N,M,E⟩⟩
 exact⟨u,n,v,Z,O,T,H,f,h3,.inr ⟨N,E,M⟩⟩
theorem Aj{p:aQ}(h:p∈aJ L)(hp:p.l.ay=false):p.d=false:=by
 obtain⟨v,H⟩:=gJ h;have hl:=(bN.1 H).1;rw[dI]at hl;obtain⟨l,f⟩:=aP hl;rw[gX f]at H
 grind [ep]
def ajx{p:aQ}:∀ {A:aD}{Z:bK},I Z=I L->(∀e∈A,e<I L)->p∈dY L Z A->p∈Z:=by
 intro A
 induction A with
 |nil=>intro Z _ _ h;exact h
 |cons e A j=>
  intro Z f H h;obtain _:=gJ (j (by rw[wU,f]) (λx m=>H x (by simp[m])) h)
  grind [DH]
def auA(g:aU F L){a b c:Nat}(ha:a<I L)(hb:b<I L)(hc:c<I L)(h:C5 F L [a,b,c] a)(S:uu F (dY L (aJ L) [a,b,c]) X f):mZ F X 0 [de (I L) f a,de (I L) f b,de (I L) f c]:=by
 obtain⟨dj,kk,n,D,j,l1,l2,Y,n1,n2,n3,ab⟩:=agL g ha hb hc h;have bQ:=dI L;have fD:∀e∈[a,b,c],e<I L:=λe H=>by simp only[dh,e_,or_false]at H;rcases H with rfl|rfl|rfl<;>assumption
 have hP:I (dY L (aJ L) [a,b,c])=I L:=by rw[yX,bQ]
 have hf:=S.hf;have hX:=S.len;rw[hP]at hf hX;obtain⟨s1,_⟩:=Q4 bQ fD dj λe H=>Eh g (fD e H);have E:∀d,d/2∈[a,b,c]->(dY L (aJ L) [a,b,c])[b_ (I L) d]?=(aJ L)[cA (I L) d]? /\(dY L (aJ L) [a,b,c])[cA (I L) d]?=(aJ L)[b_ (I L) d]? :=λd N=>by
  obtain⟨k1,Z⟩:=s1 _ N;unfold b_ cA;split
  .exact⟨k1,Z⟩
  exact⟨Z,k1⟩
 have v:∀ {e e':Nat},xK L e e'->xK L e' e:=λh=>⟨h.1.symm,h.2.2.1.symm,h.2.1.symm,h.2.2.2.symm⟩;obtain⟨j1,j2⟩:=iR.1 dj;have B:=j1 b aG;have z:=j1 c aG;have y:=(iR.1 j2).1 c aG;have step:∀d u,d<2*I L->u<2*I L->aT L d=u->d/2∈[a,b,c]->u/2∈[a,b,c]->xK L (d/2) (u/2)->aT X (nA (I L) f d)=nA (I L) f u:=by
  intro d u N vW e M m2 hj;subst e;obtain⟨q1,q2⟩:=kk _ M;obtain⟨l,hl⟩:=aP (Ed g N);obtain⟨m,hm⟩:=aP (Im g vW);have Cj:l.au:=by
   have:(fK L (cA (I L) d)).kind=2:=by
    unfold cA;split
    .exact q2
    exact q1
   rw[lB hl]at this;unfold U.au;rw[this];rfl
  obtain⟨_,Z,_⟩:=FQ g N hl Cj;obtain⟨_,mc,mi⟩:=Ap g.ok hl Cj hm Z.symm;refine S.am3 g hP N hl Cj (e:=ep L (cA (I L) d)) (N:=ep L (b_ (I L) (aT L d))) ?_ ?_ mc mi ?_
  .rw[(E d M).1,gX hl]
  .rw[(E _ m2).2,gX hm]
  exact(Uo hj).2.1
 have R:∀d,nA (I L) f d<2*I X:=λd=>by rw[hX];exact ac5 hf
 have hN:∀d,nA (I L) f d<aX X:=λd=>by have:=R d;unfold aX;omega
 have w0:∀d,yj F X (nA (I L) f d)=0:=λd=>aI (R d);have fin:∀A:aD,n/2∈[a,b,c]->D/2∈[a,b,c]->j/2∈[a,b,c]->xK L (n/2) (D/2)->xK L (D/2) (j/2)->xK L (n/2) (j/2)->mZ F X 0 [de (I L) f (n/2),de (I L) f (D/2),de (I L) f (j/2)]:=by
  intro A M m2 m3 Q O T;have ne:∀d u:Nat,d<2*I L->u<2*I L->d/2≠u/2->nA (I L) f d/2≠nA (I L) f u/2:=λd u h1 h2 h3 e=>by rw[H3,H3]at e;exact h3 (AJ hf J J e)
  have ag:=ne n D l1 l2 Q.1;have ak:=ne D j l2 Y O.1;have ad:=ne n j l1 Y T.1;rw[<-H3 (I L) f n,<-H3 (I L) f D,<-H3 (I L) f j];have t1:=step n D l1 l2 n1 M m2 Q;have t2:=step D j l2 Y n2 m2 m3 O;have t3:=step j n Y l1 n3 m3 M (v T);have x1:=R n;have x2:=R D;have x3:=R j;have y1:=w0 n;have y2:=w0 D;have y3:=w0 j;have z1:=hN n;have z2:=hN D;have z3:=hN j;generalize nA (I L) f n=p at*;generalize nA (I L) f D=q at*;generalize nA (I L) f j=r at*;have zK:([p,q,r].filter λx=>decide (x<2*I X))=[p,q,r]:=WB.2 λx hx=>by simp only[dh,e_,or_false]at hx;rw[fL];rcases hx with rfl|rfl|rfl<;>assumption
  refine ajE S.g J J J z1 z2 z3 t1 t2 t3 (by rw[zK];rfl) (by rw[y1,y2,y3]) λe H=>?_;rw[zK];simp only[dh,e_,or_false]at H |-;omega
 rcases ab with⟨rfl,rfl,rfl⟩|⟨rfl,rfl,rfl⟩
 .exact fin [] aG aG aG B y z
 have:=fin [] aG aG aG z (v y) B;rwa[OD (List.Perm.cons _ (List.Perm.swap _ _ []))]at this
end
section
variable {F:Nat} {L X:ae} {P:bK} {f:Nat}
def uu.fK(S:uu F P X f)(j:I P=I L){u:Nat}(m:v<I L)(H:u<I L)(h:P[v]?=(aJ L)[u]?):Go.Abs.fK X (de (I L) f v)=Go.Abs.fK L u:=by obtain⟨l,hl⟩:=aP H;rw[gX hl]at h;have:=S.at_ v _ h;rw[j]at this;rw[lB this,lB hl]
def atX(g:aU F L){a b c:Nat}(dE:a<b)(JY:b<c)(hc:c<I L){P:bK}(h:uA F L a b c=some P)(vX:fP (F:Int) (ch P)=0):∃Y R M Q,Y<R/\R<M/\M<I (ch P)/\uA F (ch P) Y R M=some Q/\my (ch Q) L:=by
 have jR:=aas g J J hc h;unfold uA at h;split at h
 case isFalse=>cases h
 rename_i ht;cases h;have ha:a<I L:=J;have T:b<I L:=J;have ht:C5 F L [a,b,c] a:=ht;obtain⟨f,S⟩:=Rp jR vX;have bQ:=dI L;have m:I (dY L (aJ L) [a,b,c])=I L:=by rw[yX,bQ]
 obtain⟨dj,kk,_⟩:=agL g ha T hc ht;have D:∀e∈[a,b,c],e<I L:=λe H=>by simp only[dh,e_,or_false]at H;rcases H with rfl|rfl|rfl<;>assumption
 have ab:=auA g ha T hc ht S;have ss:=aBq bQ D dj λe H=>Eh g (D e H);obtain⟨s1,_⟩:=Q4 bQ D dj λe H=>Eh g (D e H);have v8:∀p∈dY L (aJ L) [a,b,c],p.l.ay=false->p.d=false:=λp hp h=>Aj (ajx bQ D hp) h;generalize ch (dY L (aJ L) [a,b,c])=X at S vX ab |-;generalize dY L (aJ L) [a,b,c]=P at*;have hf:=S.hf;have hX:=S.len;rw[m]at hf hX;have yF:∀e∈[a,b,c],nx L e<I L:=λe _=>dB _ J;have q1:∀e∈[a,b,c],fK X (de (I L) f e)=fK L (nx L e)/\fK X (nx X (de (I L) f e))=fK L e:=λe H=>by obtain⟨k1,Z⟩:=s1 e H;rw[S.nx m (D e H)];exact⟨S.fK m (D e H) (yF e H) k1,S.fK m (yF e H) (D e H) Z⟩
 have ag:∀e∈[a,b,c],de (I L) f e<I X:=λe _=>by rw[hX];exact xo hf
 have JZ:∀e∈[a,b,c],∀o,jf X (de (I L) f e) o=jf L e o/\tz X (de (I L) f e)=tz L e:=λe H o=>by
  obtain⟨k1,Z⟩:=q1 e H;unfold jf tz;have e1:∀x,(bR X x).l=fK X x:=λ_=>rfl;have e2:∀x,(bR L x).l=fK L x:=λ_=>rfl;rw[e1,e1,e2,e2,k1,Z];constructor
  .cases ((fK L e).kind==2)<;>cases((fK L (nx L e)).kind==2)<;>cases((fK L e).over==o)<;>cases((fK L (nx L e)).over==o)<;>rfl
  exact Bool.and_comm _ _
 have E:C5 F X ([a,b,c].map (de (I L) f)) (de (I L) f a):=by
  have wx:=ht;unfold C5 at wx |-;simp only[cF,cW]at wx |-;obtain⟨h1,h2,h3,h4,h5,h6⟩:=wx;have N:∀o,[a,b,c].any (jf L · o)->([a,b,c].map (de (I L) f)).any (jf X · o):=λo h=>by obtain⟨e,A,T⟩:=Bk.1 h;exact Bk.2 ⟨_,c_.2 ⟨e,A,rfl⟩,by rw[(JZ e A o).1];exact T⟩
  have na:=S.nx m ha;have O:=S.nx m T;have B:=S.nx m hc;refine⟨?_,?_,?_,N _ h4,N _ h5,?_⟩
  .rw[mz]at h1 |-;intro x j;obtain⟨e,A,rfl⟩:=c_.1 j;rw[(JZ e A true).2];exact h1 e A
  .let q:Int->Int:=λz=>((de (I L) f z.toNat:Nat):Int)
   have e1:pG X ([a,b,c].map (de (I L) f))=(pG L [a,b,c]).map q:=by show [((de (I L) f a:Nat):Int),(nx X (de (I L) f a):Int),((de (I L) f b:Nat):Int),(nx X (de (I L) f b):Int),((de (I L) f c:Nat):Int),(nx X (de (I L) f c):Int)]=_;rw[na,O,B];rfl
   rw[e1,aB6,h2];intro x j y hy jF;have ad:∀x∈pG L [a,b,c],∃n:Nat,n<I L/\x=(n:Int):=λx j=>by
    unfold pG at j;obtain⟨e,A,j⟩:=qx.1 j;simp only[dh,e_,or_false]at j;rcases j with rfl|rfl
    .exact⟨e,D e A,rfl⟩
    exact⟨_,yF e A,rfl⟩
   obtain⟨u,hu,rfl⟩:=ad x j;obtain⟨v,hv,rfl⟩:=ad y hy;have jF:((de (I L) f u:Nat):Int)=((de (I L) f v:Nat):Int):=jF;rw[AJ hf hu hv J]
  .rw[<-h3];refine alE λx=>?_;unfold tY;simp only[qx,c_,dh,e_,or_false];have e1:∀x,(bR X x).l=fK X x:=λ_=>rfl;have e2:∀x,(bR L x).l=fK L x:=λ_=>rfl;simp only[e1,e2];have A:∀e,(e=a\/e=b\/e=c)->e∈[a,b,c]:=λe h=>by simpa using h
   constructor
   .rintro ⟨_,⟨e,H,rfl⟩,j⟩
    obtain⟨k1,Z⟩:=q1 e (A e H);rw[k1,Z]at j;exact⟨e,H,j.symm⟩
   rintro⟨e,H,j⟩
   obtain⟨k1,Z⟩:=q1 e (A e H);refine⟨_,⟨e,H,rfl⟩,?_⟩;rw[k1,Z];exact j.symm
  rw[Ft rfl (ag a aG)];exact ab
 have Zl:∀e∈[a,b,c].map (de (I L) f),e<I X:=λe H=>by obtain⟨x,j,rfl⟩:=c_.1 H;exact ag x j
 have ne:∀x y,x<I L->y<I L->x≠y->de (I L) f x≠de (I L) f y:=λx y j hy h e=>h (AJ hf j hy e);obtain⟨Y,R,M,h1,h2,hp⟩:=asD (ne a b ha T J) (ne a c ha hc J) (ne b c T hc J);have hp:([a,b,c].map (de (I L) f)).Perm [Y,R,M]:=hp;have wx:=au3 Zl hp rfl rfl E;have oX:=Zl M (hp.mem_iff.2 aG);have hY:uA F X Y R M=some (dY X (aJ X) [Y,R,M]):=aI wx;refine⟨Y,R,M,_,h1,h2,oX,hY,?_⟩;have cY:=aas S.g J J oX hY;have Mv:=apA rfl (by unfold C5 at E;simp only[cF,cW]at E;exact E.2.1)
 have vT:=dI X;have xz:=aoZ hp vT Zl Mv;rw[<-xz]at cY |-;refine S.back g m cY (by rw[yX,vT,hX]) λv hv=>?_;rw[S.sw m (by rw[vT,hX]) m D (λv hv=>S.Ad m v8 hv) v hv,ss]
end
def aoz{l:U}(h:L[v]?=some l)(hp:l.ay):ep L v=dn L v:=by grind [ep]
section
variable {F:Nat} {L X:ae} {P:bK} {f:Nat}
def uu.aq(S:uu F P X f)(q:U->Bool):Go.Abs.aq q X=Go.Abs.aq q (P.map aQ.l):=by
 have hf:=S.hf;have H:=S.len;have e:X=fG (P.map aQ.l) f:=by
  apply qO;intro k;have hl:I (P.map aQ.l)=I P:=ct ..;by_cases h:k<I P
  .have j:(f+k)%I P<I P:=dB _ J;obtain⟨p,hp⟩:=aP j;have:=S.at_ _ p hp;rw[acR hf h]at this;rw[this,Ye J J,hl,fX,hp];rfl
  rw[pS J,pS (by rw[wR];omega)]
 rw[e,ads]
def anN(g:aU F L)(S:uu F P X f)(hP:I P=I L)(vU:∀q:U->Bool,(∀(l:U) (r:Int),q {l with ao:=r}=q l)->Go.Abs.aq q (P.map aQ.l)=Go.Abs.aq q L)
  {d p v q w:Nat} (hd:d<2*I L) (vW:aT L d<2*I L) (t1:b_ (I L) d=p) (t2:cA (I L) d=v) (t3:b_ (I L) (aT L d)=w) (t4:cA (I L) (aT L d)=q) (yG:p≠q) (H0:d/2≠aT L d/2)
  {R:U} (qC:L[p]?=some H) (kM:L[v]?=some R) (uk:L[q]?=some D) (Dw:L[w]?=some lw) (Q:H.ay) (cv:R.au) (pq:D.ay) (cw:lw.au) (ab:lw.id=R.id)
  {e1 e2:Bool} (P1:P[p]?=some ⟨R,e1⟩) (P2:P[q]?=some ⟨lw,e2⟩) (P3:P[v]?=some ⟨{H with ao:=D.ao},ep L p⟩) (P4:P[w]?=some ⟨{D with ao:=H.ao},ep L q⟩)
  (E:H.gate=D.gate) (ad:(dn L q=cH (aT L d)/\H.ao=D.ao+1/\cH d= !dn L p)\/(dn L q=(!cH (aT L d))/\D.ao=H.ao+1/\cH d=dn L p)):mZ F X 1 [de (I L) f (d/2),de (I L) f (aT L d/2)]:=by
 have hf:=S.hf;have A:=S.len;rw[hP]at hf A;have T:=S.at_ _ _ P3;have x4:=S.at_ _ _ P4;have y:=S.dn _ _ P3 Q;have Y:=S.dn _ _ P4 pq;rw[hP]at T x4 y Y;rw[aoz qC Q]at y;rw[aoz uk pq]at Y;have y:=y;have Y:dn X (de (I L) f w)=dn L q:=Y;have jW:=g.ok.ax.fg H (a8 qC) Q;have gQ:=g.ok.ax.fg D (a8 uk) pq;have Qr:∀k,dX X k=dX L k:=λk=>by unfold dX;congr 1;refine s7 λz _=>?_;show Go.Abs.aq (jw z) X=Go.Abs.aq (jw z) L;rw[S.aq,vU _ λl r=>rfl]
 have jD:I (aA X)=I (aA L):=by rw[Ea,Ea];show Go.Abs.aq U.ay X=Go.Abs.aq U.ay L;rw[S.aq,vU _ λl r=>rfl]
 have ag:dN X {H with ao:=D.ao}=dN L D:=by unfold dN;show dX X H.gate.toNat+D.ao.toNat-1=_;rw[Qr,E]
 have ak:dN X {D with ao:=H.ao}=dN L H:=by unfold dN;show dX X D.gate.toNat+H.ao.toNat-1=_;rw[Qr,E]
 have a3:=Lt S.g.ok.ax T Q;have a4:=Lt S.g.ok.ax x4 pq;have i4:=L4 S.g.ok.ax x4 pq;rw[ag]at a3;rw[ak]at a4 i4;have O:=(bN.1 a3).1;have k4:=(bN.1 a4).1;have B:(aA X).getD (dN L D) 0=de (I L) f v:=by rw[dM,a3];rfl
 have g4:(aA X).getD (dN L H) 0=de (I L) f w:=by rw[dM,a4];rfl
 have n1:=S.am3 g hP hd (by rw[t2];exact kM) cv (by rw[t1];exact P1) (by rw[t4];exact P2) cw ab (by rw[t1,t4];exact yG);have N:=El x4 pq (!cH (aT L d));rw[A,Y,i4,<-t3,<-aoN hf vW]at N;have Z:=aqx hf hd;rw[t2]at Z;have hD:=ac5 (d:=d) hf;have am:=ac5 (d:=aT L d) hf;have m:=H3 (I L) f d;have M:=H3 (I L) f (aT L d);have aN:de (I L) f (d/2)≠de (I L) f (aT L d/2):=λe=>H0 (AJ hf J J e);obtain⟨l1,l2,l3,l4⟩:=jW;obtain⟨m1,m2,m3,m4⟩:=gQ;have j:∀x,2*I L<=x->x<aX X->aT X (nA (I L) f (aT L d))=x->aT X x=nA (I L) f d->yj F X x=1->mZ F X 1 [de (I L) f (d/2),de (I L) f (aT L d/2)]:=by
  intro x qE yJ q1 q2 q3;rw[<-m,<-M];rw[<-m,<-M]at aN;have z1:yj F X (nA (I L) f d)=0:=aI J;have z2:yj F X (nA (I L) f (aT L d))=0:=aI J;have lD:nA (I L) f d<aX X:=i8
  have sN:nA (I L) f (aT L d)<aX X:=i8
  generalize nA (I L) f d=r at*;generalize nA (I L) f (aT L d)=t at*;have zK:([r,t,x].filter λx=>decide (x<2*I X))=[r,t]:=ii
  refine ajE S.g J J J lD sN yJ n1 q1 q2 (by rw[zK];rfl) (by rw[z1,z2,q3]) λe he=>?_;rw[zK];simp only[dh,e_,or_false]at he |-;omega
 have wt:∀k x u u',k+1<I (aA X)->(x=2*I L+2*k\/x=2*I L+2*k+1)->(aA X).getD k 0=u->(aA X).getD (k+1) 0=u'->uP X u=uP X u'->yj F X x=1:=by intro k x u u' n hx hu GL he;unfold yj;rw[aE J,A,show(x-2*I L)/2=k by omega];unfold l_;simp only;rw[aI n,zl,fC n,hu,GL,he];omega
 have gg:uP X (de (I L) f v)=uP X (de (I L) f w):=by rw[uU T,uU x4];show H.gate.toNat=D.gate.toNat;rw[E]
 rcases ad with⟨c1,c2,c4⟩|⟨c1,c2,c4⟩
 .have n:dN L H=dN L D+1:=by
   unfold dN;rw[E];omega
  rw[n]at g4 k4 N;rw[c1,aE (by cases cH (aT L d)<;>decide),show dN L D+1+I (aA X)-1=dN L D+I (aA X) by omega,rn,fC O]at N;refine j _ J i8 N ?_ (wt _ _ _ _ k4 (.inr rfl) B g4 gg);have:=D3 (u:=X) (dN L D);rw[A,B,y]at this;rw[this,Z,c4];cases dn L p<;>rfl
 have n:dN L D=dN L H+1:=by unfold dN;rw[E];omega
 rw[n]at B O;rw[c1,aI (by cases cH (aT L d)<;>decide)]at N;refine j _ J i8 N ?_ (wt _ _ _ _ O (.inl rfl) g4 B gg.symm);have:=CE (u:=X) (dN L H);rw[A,fC O,B,y]at this;rw[this,Z,c4]
end
section
variable {F:Nat} {L X:ae} {P:bK} {f:Nat}
def afV(g:aU F L){f:aD}(n:f∈eX (aT L) (aX L))(M:(jc F L f).places.length=1){d:Nat}(x:aT L d<2*I L)(z:aT L d∈f)(two:∀y,y∈f->y<2*I L->y=d\/y=aT L d)
  {p q w:Nat} (B:b_ (I L) d=p) (A:b_ (I L) (aT L d)=w) (T:cA (I L) (aT L d)=q)  (R:L[p]?=some H) (v:L[q]?=some D) (E:L[w]?=some lw) (pq:D.ay) (N:lw.au):
  H.gate=D.gate/\((dn L q=cH (aT L d)/\H.ao=D.ao+1/\cH d= !dn L p)\/(dn L q=(!cH (aT L d))/\D.ao=H.ao+1/\cH d=dn L p)):=by
 obtain⟨u,m,y,O,Y,X,Q,Z⟩:=Vy g n M z (by rw[<-T];exact Pt x) v pq;have j:=(bN.1 Y).1;have al:∀h,b_ (I L) (dS (I L) u h)=u/\dS (I L) u h<2*I L/\cH _=h:=λh=>⟨(JC j).1,by
  have:=zi j (!h);rw[<-tX]at this;have:=vi this;rwa[vz]at this,(JC j).2⟩
 grind [mq]
def AE.two{e p:Nat}(h:AE L e p v){Q:Nat->Nat->Prop}(af:∀x y,Q x y->Q y x):Q e (nx L e)↔Q p v:=by
 rcases h.1 with⟨rfl,rfl⟩|⟨rfl,rfl⟩
 .exact Iff.rfl
 grind
def asq(g:aU F L){a b:Nat}(dE:a<b)(A:b<I L){P:bK}(n:sE F L a b=some P)(vX:fP (F:Int) (ch P)=0):∃M B Q,M<B/\B<I (ch P)/\sE F (ch P) M B=some Q/\my (ch Q) L:=by
 have N:a<I L:=J;have aN:a≠b:=J;have jR:=acr g N A aN n;obtain⟨p,v,q,w,c,rfl⟩:=ayE g N A n;have yG:=c.pq g N A aN;obtain⟨hp,hv⟩:=c.ea.lt N;obtain⟨hq,hw⟩:=c.eb.lt A;obtain⟨H,E⟩:=aP hp;obtain⟨lv,O⟩:=aP hv;obtain⟨D,u⟩:=aP hq;obtain⟨lw,R⟩:=aP hw;have kP:∀ {l:U},l.kind=1->l.ay:=λn=>by unfold U.ay;rw[n];rfl
 have kC:∀ {l:U},l.kind=2->l.au:=λn=>by unfold U.au;rw[n];rfl
 have pp:H.ay:=kP (by rw[<-lB E];exact c.ea.2.1);have pq:D.ay:=kP (by rw[<-lB u];exact c.eb.2.1);have cv:lv.au:=kC (by rw[<-lB O];exact c.ea.2.2);have cw:lw.au:=kC (by rw[<-lB R];exact c.eb.2.2);have ab:lv.id=lw.id:=by rw[<-lB O,<-lB R];exact c.id
 have Fh:=c.vw;have pv:=LC c.ea.2.1 c.ea.2.2;have pw:=LC c.ea.2.1 c.eb.2.2;have qv:=LC c.eb.2.1 c.ea.2.2;have qw:=LC c.eb.2.1 c.eb.2.2;rw[lB u,lB E]at jR vX |-;have fD:∀e∈[a,b],e<I L:=λe m=>by simp only[dh,e_,or_false]at m;rcases m with rfl|rfl<;>assumption
 have a0:[a,b].Pairwise (xK L):=by simp only[iR,dh,e_,or_false,false_imp_iff,implies_true,and_true,forall_eq,List.Pairwise.nil];exact c.dj g N A aN
 have aL:∀ {Z:bK},I Z=I L->(dY L Z [a,b])[p]?=Z[v]? /\(dY L Z [a,b])[v]?=Z[p]? /\(dY L Z [a,b])[q]?=Z[w]? /\(dY L Z [a,b])[w]?=Z[q]? /\ ∀x,x≠p->x≠v->x≠q->x≠w->(dY L Z [a,b])[x]?=Z[x]? :=λ{Z} hZ=>by
  obtain⟨k1,k2⟩:=Q4 hZ fD a0 (λe m=>Eh g (fD e m));have ka:=(c.ea.two (Q:=λx y=>(dY L Z [a,b])[x]?=Z[y]? /\(dY L Z [a,b])[y]?=Z[x]?) λ_ _ n=>⟨n.2,n.1⟩).1 (k1 a aG);have kb:=(c.eb.two (Q:=λx y=>(dY L Z [a,b])[x]?=Z[y]? /\(dY L Z [a,b])[y]?=Z[x]?) λ_ _ n=>⟨n.2,n.1⟩).1 (k1 b aG);refine⟨ka.1,ka.2,kb.1,kb.2,λx n1 n2 n3 n4=>k2 x λe m=>?_⟩;simp only[dh,e_,or_false]at m;rcases m with rfl|rfl
  .exact(c.ea.two (Q:=λy z=>x≠y/\x≠z) λ_ _ n=>⟨n.2,n.1⟩).2 ⟨n1,n2⟩
  exact(c.eb.two (Q:=λy z=>x≠y/\x≠z) λ_ _ n=>⟨n.2,n.1⟩).2 ⟨n3,n4⟩
 have ag:=gX E;have ar:(eI (aJ L) p D.ao)[q]?=some ⟨D,ep L q⟩:=by rw[sJ ag,aE (Ne.symm yG)];exact gX u
 have zg:∀x,(eI (eI (aJ L) p D.ao) q H.ao)[x]?=if x=q then some ⟨{D with ao:=H.ao},ep L q⟩else if x=p then some ⟨{H with ao:=D.ao},ep L p⟩else(aJ L)[x]? :=λx=>by rw[sJ ar,sJ ag]
 have JW:I (eI (eI (aJ L) p D.ao) q H.ao)=I L:=by rw[vx,vx,dI L]
 obtain⟨P1,P3,P2,P4,P5⟩:=aL JW;rw[zg,aE (Ne.symm qv),aE (Ne.symm pv),gX O]at P1;rw[zg,aE yG,aI rfl]at P3;rw[zg,aE (Ne.symm qw),aE (Ne.symm pw),gX R]at P2;rw[zg,aI rfl]at P4;have P5:∀x,x≠p->x≠v->x≠q->x≠w->(dY L (eI (eI (aJ L) p D.ao) q H.ao) [a,b])[x]?=(aJ L)[x]? :=λx n1 n2 n3 n4=>by rw[P5 x n1 n2 n3 n4,zg,aE n3,aE n1]
 have T:I (dY L (eI (eI (aJ L) p D.ao) q H.ao) [a,b])=I L:=by rw[yX,JW]
 have vU:∀q':U->Bool,(∀(l:U) (r:Int),q' {l with ao:=r}=q' l)->aq q' ((dY L (eI (eI (aJ L) p D.ao) q H.ao) [a,b]).map aQ.l)=aq q' L:=λq' Fa=>by rw[<-EM (h:=L) q'];show List.countP _ _=List.countP _ _;rw[sF,sF];show(ig L (ig L (eI (eI (aJ L) p D.ao) q H.ao) a) b).countP _=_;rw[Hh (by rw[wU,JW]) A (Eh g A),Hh JW N (Eh g N),Qa ar (λp=>Fa _ _),Qa ag (λp=>Fa _ _)]
 have v8:∀z∈dY L (eI (eI (aJ L) p D.ao) q H.ao) [a,b],z.l.ay=false->z.d=false:=λz hz n=>by
  obtain⟨x,j⟩:=gJ (ajx JW fD hz);rw[zg]at j;split at j
  .cases j;have:D.ay=false:=n;rw[pq]at this;cases this
  split at j
  .cases j;have:H.ay=false:=n;rw[pp]at this;cases this
  exact Aj (a8 j) n
 obtain⟨f,S⟩:=Rp jR vX;generalize dY L (eI (eI (aJ L) p D.ao) q H.ao) [a,b]=P at*;generalize ch P=X at*;have hf:=S.hf;have hX:=S.len;rw[T]at hf hX
 have aF:mZ F X 1 [de (I L) f a,de (I L) f b]:=by
  obtain⟨wk,an,mf,d,d1,d2,d3,d4,two,cs⟩:=aaJ g N A aN c.ea.1 c.eb.1 O R E u cv cw pp pq ab Fh c.cor;rcases cs with⟨e1,e2,t1,t2,t3,t4⟩|⟨e1,e2,t1,t2,t3,t4⟩
  .obtain⟨hg,hc⟩:=afV g an mf d4 d3 two t1 t3 t4 E u R pq cw;have:=anN g S T vU d2 d4 t1 t2 t3 t4 yG J E O u R pp cv pq cw ab.symm P1 P2 P3 P4 hg hc;rwa[e1,e2]at this
  obtain⟨hg,hc⟩:=afV g an mf d4 d3 two t1 t3 t4 u E O pp cv;have:=anN g S T vU d2 d4 t1 t2 t3 t4 yG.symm J u R E O pq cw pp cv ab P2 P1 P4 P3 hg hc;rw[e1,e2]at this;rw[OD (List.Perm.swap _ _ [])];exact this
 have x1:=S.at_ _ _ P1;have x2:=S.at_ _ _ P2;have x3:=S.at_ _ _ P3;have x4:=S.at_ _ _ P4;rw[T]at x1 x2 x3 x4;have kq:D.kind=1:=by rw[<-lB u];exact c.eb.2.1
 have kv:lv.kind=2:=by rw[<-lB O];exact c.ea.2.2
 have kw:lw.kind=2:=by rw[<-lB R];exact c.eb.2.2
 have ed:∀ {e p v:Nat},e<I L->AE L e p v->(fK X (de (I L) f v)).kind=1->(fK X (de (I L) f p)).kind=2->AE X (de (I L) f e) (de (I L) f v) (de (I L) f p):=by
  intro e p v m n h1 h2;refine⟨?_,h1,h2⟩;rw[S.nx T m];rcases n.1 with⟨rfl,rfl⟩|⟨rfl,rfl⟩
  .exact .inr ⟨rfl,rfl⟩
  exact .inl ⟨rfl,rfl⟩
 have C':yA F X (de (I L) f a) (de (I L) f b) (de (I L) f v) (de (I L) f p) (de (I L) f w) (de (I L) f q):=by refine⟨ed N c.ea (by rw[lB x3];exact by rw[<-lB E];exact c.ea.2.1) (by rw[lB x1];exact kv),ed A c.eb (by rw[lB x4];exact kq) (by rw[lB x2];exact kw),λe=>yG (AJ hf hp hq e),by rw[lB x1,lB x2];exact ab,?_⟩;rw[Ft rfl aIg];exact aF
 have la:de (I L) f a<I X:=aIg
 have lb:de (I L) f b<I X:=aIg
 have ap:de (I L) f a≠de (I L) f b:=λe=>aN (AJ hf N A e);have Mv:=C'.dj S.g la lb ap;have az:=C'.pq S.g la lb ap;have vT:=dI X;have r1:(fK X (de (I L) f w)).ao=H.ao:=by rw[lB x4]
 have r2:(fK X (de (I L) f v)).ao=D.ao:=by rw[lB x3]
 have ad:=P3;have av:(eI P v H.ao)[w]?=some ⟨{D with ao:=H.ao},ep L q⟩:=by rw[sJ ad,aE (Ne.symm Fh)];exact P4
 have Ad:=λ{x:Nat} (j:x<I L)=>S.Ad T v8 j;have aB:=(Ad hv).trans P3;have a1:∀x,x<I L->(eI (eI (aJ X) (de (I L) f v) H.ao) (de (I L) f w) D.ao)[de (I L) f x]?=(eI (eI P v H.ao) w D.ao)[x]? :=λx j=>by
  rw[sJ (by rw[sJ aB,aE (Ne.symm az)];exact(Ad hw).trans P4),sJ av,sJ aB,sJ ad];by_cases c1:x=w
  .subst c1;rw[aI rfl,aI rfl]
  rw[aE c1,aE λk=>c1 (AJ hf j hw k)];by_cases c2:x=v
  .subst c2;rw[aI rfl,aI rfl]
  rw[aE c2,aE λk=>c2 (AJ hf j hv k),Ad j]
 have am:I (eI (eI P v H.ao) w D.ao)=I L:=by rw[vx,vx,T]
 have back:dY L (eI (eI P v H.ao) w D.ao) [a,b]=aJ L:=by
  obtain⟨b1,b2,b3,b4,b5⟩:=aL am;have zB:∀x,(eI (eI P v H.ao) w D.ao)[x]?=if x=w then some ⟨D,ep L q⟩else if x=v then some ⟨H,ep L p⟩else P[x]? :=λx=>by rw[sJ av,sJ ad]
  rw[zB,aE Fh,aI rfl]at b1;rw[zB,aE pw,aE pv,P1]at b2;rw[zB,aI rfl]at b3;rw[zB,aE qw,aE qv,P2]at b4;apply qO;intro x;by_cases c1:x=p
  .subst c1;rw[b1,gX E]
  by_cases c2:x=v
  .subst c2;rw[b2,gX O]
  by_cases c4:x=q
  .subst c4;rw[b3,gX u]
  by_cases fv:x=w
  .subst fv;rw[b4,gX R]
  rw[b5 x c1 c2 c4 fv,zB,aE fv,aE c2,P5 x c1 c2 c4 fv]
 have done:∀M B Y,M<B->B<I X->sE F X M B=some Y->Y=dY X (eI (eI (aJ X) (de (I L) f v) H.ao) (de (I L) f w) D.ao) ([a,b].map (de (I L) f))->∃M B Q,M<B/\B<I X/\sE F X M B=some Q/\my (ch Q) L:=λM B Y h1 h2 h3 h4=>by
  refine⟨M,B,Y,h1,h2,h3,?_⟩;have ak:I (eI (eI (aJ X) (de (I L) f v) H.ao) (de (I L) f w) D.ao)=I L:=by rw[vx,vx,vT,hX]
  refine S.back g T (acr S.g J h2 J h3) (by rw[h4,yX,ak]) λx j=>?_;rw[h4,S.sw T ak am fD a1 x j,back]
 by_cases aw:de (I L) f a<de (I L) f b
 .refine done _ _ _ aw lb C'.as ?_;rw[r1,r2];rfl
 refine done _ _ _ J la (C'.symm la lb).as ?_;rw[r1,r2,aCN (by rw[vT,hX];exact xo hf) (by rw[vT,hX];exact xo hf) (Ne.symm az)];refine aoZ (List.Perm.swap _ _ []) (by rw[vx,vx,vT]) (λe m=>?_) ?_
 .simp only[dh,e_,or_false]at m;rcases m with rfl|rfl<;>assumption
 simp only[iR,dh,e_,or_false,false_imp_iff,implies_true,and_true,forall_eq,List.Pairwise.nil];exact⟨Mv.1.symm,Mv.2.2.1.symm,Mv.2.1.symm,Mv.2.2.2.symm⟩
end
def gI{Y:Type}(a b:List Y):Prop:= ∃u v,a=u++v/\b=v++u
section
variable {Y β:Type} {a b c:List Y}
def gI.symm(h:gI a b):gI b a:=by obtain⟨u,v,H,f⟩:=h;exact⟨v,u,f,H⟩
def gI.trans(h:gI a b)(k:gI b c):gI a c:=by
 obtain⟨u,v,rfl,rfl⟩:=h;obtain⟨j,f,e,rfl⟩:=k;rcases List.append_eq_append_iff.1 e with⟨w,rfl,rfl⟩|⟨w,rfl,rfl⟩
 .exact⟨w,f++v,aG,aG⟩
 exact⟨u++j,w,aG,aG⟩
def gI.map(f:Y->β)(h:gI a b):gI (a.map f) (b.map f):=by obtain⟨u,v,rfl,rfl⟩:=h;exact⟨u.map f,v.map f,iT,iT⟩
def gI.filter(p:Y->Bool)(h:gI a b):gI (a.filter p) (b.filter p):=by obtain⟨u,v,rfl,rfl⟩:=h;exact⟨u.filter p,v.filter p,yQ ..,yQ ..⟩
def gI.perm(h:gI a b):a.Perm b:=by obtain⟨u,v,rfl,rfl⟩:=h;exact Jm
def gI.len(h:gI a b):I a=I b:=h.perm.length_eq
def gI.at2{x y:Y}{s l:List Y}(h:gI (x::y::s) l):∃a,a<I l/\l[a]?=some x/\l[(a+1)%I l]?=some y/\l.drop a++l.take a=x::y::s:=by
 have hl:2<=I l:=by rw[<-h.len];simp
 obtain⟨a,ha,e⟩:∃a,a<I l/\l.drop a++l.take a=x::y::s:=by
  obtain⟨u,v,e,rfl⟩:=h;by_cases H:u=[]
  .subst H;exact⟨0,J,by simp[e]⟩
  have:=iW.2 H;exact⟨I v,by rw[iM];omega,by simp[e]⟩
 obtain _:=aoY ha hl
 grind
end
def aoc{Y:Type}{X y:List Y}(h:X≠[]):(X++y).head?=X.head?:=by
 cases X with
 |nil=>exact absurd rfl h
 |cons a X=>rfl
def RI{Y:Type}{X y:List Y}(h:y≠[]):(X++y).getLast?=y.getLast?:=by
 have:=iW.2 h
 grind
def LV(u v x:bK)(h:u≠[]):fe (u++v) x (I u-1)=u++x++v:=by grind
def Qz{Y:Type}{u v:List Y}(h:u≠[]):(u++v)[I u-1]?=u.getLast?:=by
 have:=iW.2 h
 grind
def gI.ins{r l:bK}(h:gI r l)(f:r≠[]):∃k,k<I l/\l[k]?=r.getLast?/\l[(k+1)%I l]?=r.head?/\ ∀x,gI (x++r) (fe l x k):=by
 obtain⟨u,v,rfl,rfl⟩:=h;by_cases H:v=[]
 .subst H;rw[j_]at f |-;have n:=LV u [];have m:=Qz (v:=[]) f;have:=iW.2 f;rw[j_]at n m;refine⟨I u-1,by rw[gM];omega,m,?_,λx=>?_⟩
  .rw[gM,show I u-1+1=I u by omega,yN,Le]
  rw[gM,n x f,j_];exact⟨x,u,rfl,rfl⟩
 have:=iW.2 H;refine⟨I v-1,by rw[iM];omega,?_,?_,λx=>?_⟩
 .rw[Qz H,RI H]
 .rw[show I v-1+1=I v by omega];by_cases j:u=[]
  .subst j;simp[Le]
  have Q:=iW.2 j;rw[fC ii,uJ (cP _),BU,aoc j,Le]
 rw[LV v u x H];exact⟨x++u,v,aG,aG⟩
section
variable {F:Nat} {L X:ae} {P Q:bK} {f:Nat}
def wi(h:Int->Int)(p:aQ):aQ:=⟨pO h p.l,p.d⟩
def abT(g:aU F L){h:Int->Int}(hf:inj h L)(X:jt F Q)(r:gI ((aJ L).map (wi h)) Q):my (ch Q) L:=by
 obtain⟨E,N,B,jz,⟨q0,z,T,M⟩,_⟩:=aee X;have H:=r.len;rw[ct,dI]at H;rw[<-H]at N B jz;have n:0<I L:=J;obtain⟨i,hi,get⟩:∃i,i<I L/\ ∀x,x<I L->Q[x]?=((aJ L)[(i+x)%I L]?).map (wi h):=by
  obtain⟨u,v,Z,rfl⟩:=r;have hl:I u+I v=I L:=ii
  have D:∀j,((aJ L)[j]?).map (wi h)=(u++v)[j]? :=λj=>by rw[<-Z,fX]
  by_cases O:v=[]
  .subst O;refine⟨0,n,λx m=>?_⟩;rw[D,lh,fC m,j_,gM]
  have:=iW.2 O;refine⟨I u,J,λx m=>?_⟩;rw[D];by_cases c:x<I v
  .rw[yY c,fC J,uJ J];congr 1;omega
  rw[uJ J,Sg J,fC J,yY J];congr 1;omega
 have R:(i+E)%I L<I L:=dB _ n;have e:ch Q=(fG L ((i+E)%I L)).map (pO h):=by
  apply qO;intro k;by_cases A:k<I L
  .rw[B k A,get _ (dB _ n),fX,Ye R A,ae0,<-FT,V5];obtain⟨l,hl⟩:=aP (dB _ n);rw[gX hl,hl];rfl
  rw[pS J,pS (by rw[ct,wR];omega)]
 rw[e];refine(aFa λx m y Y=>hf x (Wi.1 m) y (Wi.1 Y)).trans (anu J g.even ?_);rw[get E N]at z;obtain⟨l,hl⟩:=aP R;rw[gX hl]at z;have f:ep L ((i+E)%I L):=by rw[<-mQ z]at M;exact M
 unfold ep at f;rw[hl]at f;have f:=f;rw[cF]at f;have:=f.2;unfold Go.Abs.dn at this;exact cW.1 this
theorem ax3(p:aQ):wi id p=p:=by obtain _:=p;unfold wi pO;split<;>rfl
def VT(g:aU F L)(f:jt F Q)(r:gI (aJ L) Q):my (ch Q) L:=by
 refine abT g (h:=id) (λx _ y _ _ _ e=>e) f ?_
 grind [aJ,s7,ax3]
def Ln(jR:jt F P)(m:fP (F:Int) (ch P)=0)(j:∀p∈P,p.l.ay=false->p.d=false):aU F (ch P)/\gI P (aJ (ch P)):=by
 obtain⟨f,S⟩:=Rp jR m;refine⟨S.g,P.take f,P.drop f,(mW f P).symm,?_⟩;have hf:=S.hf;have u:=S.len;apply qO;intro k;have H:I P=I (P.map aQ.l):=(ct ..).symm;by_cases h:k<I P
 .have n:(f+k)%I P<I P:=dB _ J;have:=S.Ad H j (v:=(f+k)%I P) J;rw[<-H,acR hf h]at this;rw[Ta hf h,this]
 rw[pS Nm,pS ii]
end
section
variable {F:Nat} {L X:ae} {P Q:bK} {f:Nat}
def E2{k a b c sg:Int}{l o:Bool}(h:k=1\/k=4\/k=9\/k=10):dQ F L k a b c l o sg↔ ∃A:Nat,A<I L/\a=A/\b=0/\c=0/\l=false/\o=false/\sg=0:=by
 unfold dQ
 grind [eZ,ng]
def aae(g:aU F L)(h:h_ F L m=some X):fP (F:Int) X=0/\dQ F L m.k m.a m.b m.c m.l m.o m.s/\ ∃P,lQ F L m.k m.a.toNat m.b.toNat m.c.toNat m.l m.o m.s=some P/\X=ch P/\(I L:Int)+(gU m.k).1<=400/\((aq U.au L/2:Nat):Int)+(gU m.k).2<=100:=by
 unfold h_ at h;rw[aE g.ne]at h;split at h
 .rename_i j;cases H:lQ F L m.k m.a.toNat m.b.toNat m.c.toNat m.l m.o m.s with
  |none=>rw[H]at h;cases h
  |some P=>
   rw[H]at h;simp only at h;split at h
   .cases h
   rename_i af;cases h;refine⟨?_,j,P,rfl,rfl,J,J⟩;rcases axm g m.k m.a m.b m.c m.l m.o m.s with _|⟨M,_,n,_,u,f,rfl⟩
   .grind [rD,vQ]
   grind
 cases h
def SL(g:aU F X)(H:dQ F X m.k m.a m.b m.c m.l m.o m.s)(h:lQ F X m.k m.a.toNat m.b.toNat m.c.toNat m.l m.o m.s=some Q)(f:(I X:Int)+(gU m.k).1<=400)(j:((aq U.au X/2:Nat):Int)+(gU m.k).2<=100):h_ F X m=some (ch Q):=by
 unfold h_;rw[aE g.ne,aI H,h]
 grind
theorem R3{g A b:Int}{p:aQ}:(dD g A b p).l.ay=p.l.ay/\(dD g A b p).d=p.d:=by unfold dD U.ay;split<;>exact⟨rfl,rfl⟩
def wI{p:aQ}(h:(aJ L)[v]?=some p):L[v]?=some p.l/\p.d=ep L v:=by have H:=(bN.1 h).1;rw[dI]at H;obtain⟨l,hl⟩:=aP H;rw[gX hl]at h;cases h;exact⟨hl,rfl⟩
def agh(g:aU F L){a:Nat}{j:aQ->aQ}{p q Q:aQ}(n:(aJ L)[a]?=some p)(S:uu F (((aJ L).map E).set a q) X f)(y:∀z∈((aJ L).map E).set a q,z.l.ay=false->z.d=false)(M:∀v p,v≠a->(aJ L)[v]?=some p->j (E p)=p)(x:Q=p)(u:jt F (((aJ X).map j).set (de (I L) f a) Q)):my (ch (((aJ X).map j).set (de (I L) f a) Q)) L:=by
 subst x;have A:a<I L:=by have:=(bN.1 n).1;rwa[dI]at this
 have m:I (((aJ L).map E).set a q)=I L:=by rw[oF,ct,dI]
 have hf:=S.hf;have h:=S.len;rw[m]at hf h;refine S.back g m u (by rw[oF,ct,dI];exact h) λv H=>?_;obtain⟨l,hl⟩:=aP H;have O:=gX hl;by_cases c:v=a
 .subst c;rw[Q8 (by rw[ct,dI,h];exact xo hf),n]
 rw[Pd (λe=>c (AJ hf A H e).symm),fX,S.Ad m y H,Pd (Ne.symm c),fX,O]
 grind
def ak3{a:Nat}{q:aQ}(hf:∀p,(E p).l.ay=p.l.ay/\(E p).d=p.d)(H:q.l.ay):∀z∈((aJ L).map E).set a q,z.l.ay=false->z.d=false:=by
 intro z h hp;rcases adj h with h|rfl
 .obtain _:=c_.1 h
  grind [Aj]
 grind
def apw{a k:Nat}{p q:aQ}(f:(aJ L)[a]?=some p)(hf:∀p,jw k (E p).l=jw k p.l):aZ ((((aJ L).map E).set a q).map aQ.l) k+(if jw k p.l=true then 1 else 0)=aZ L k+(if jw k q.l=true then 1 else 0):=by
 have e:aZ L k=aZ _ k:=(EM _).symm;rw[e,acI f]
 conv=>rhs;rw[PW f]
 show aq _ _+_=aq _ _+_;unfold aq;have h:∀l:bK,(l.map E).countP (jw k ∘ aQ.l)=l.countP (jw k ∘ aQ.l):=λl=>by grind [sF,BM]
 rw[sF,sF,uW,uW,G4,G4,h,h]
 grind
def aoq(g A b:Int)(k:Nat)(p:aQ):jw k (dD g A b p).l=jw k p.l:=by rw[FX];exact Py _ _ _ _ _
def WR{l:U}(hp:l.ay)(k:Nat):jw k l↔l.gate=(k:Int):=by unfold jw;rw[hp];simp
def aD1(g:aU F L){a:Nat}(m:a<I L)(h:wY F L a=some P)(y:fP (F:Int) (ch P)=0):∃B Q,B<I (ch P)/\xE (ch P) B=some Q/\aU F (ch P)/\my (ch Q) L:=by
 have jR:=aeS g m h;obtain⟨l,hl⟩:=aP m;have j:=gX hl;unfold wY at h;rw[jL j]at h;split at h
 case isFalse=>cases h
 rename_i M;cases h;simp only[cF,cW,fL]at M;obtain⟨A,ab,Y⟩:=M;have hp:l.ay:=by unfold U.ay;rw[A];rfl
 obtain⟨G,x⟩:=lV (g.ok.ax.fg l (a8 hl) hp).g0;have T:qi (dT (aJ L) (l.gate+1) 0 1) a (l.gate+1) 1=((aJ L).map (dD (l.gate+1) 0 1)).set a ⟨{l with gate:=l.gate+1,ao:=1},ep L a⟩:=by
  unfold qi dT;have:((aJ L).map (dD (l.gate+1) 0 1)).getD a ⟨jJ,false⟩=⟨l,ep L a⟩:=by rw[dM,fX,j];show dD (l.gate+1) 0 1 ⟨l,ep L a⟩=_;unfold dD;rw[aE];simp only[cF,cW];intro h;omega
  rw[this]
 rw[T]at y jR |-;obtain⟨f,S⟩:=Rp jR y;have R:I (((aJ L).map (dD (l.gate+1) 0 1)).set a ⟨{l with gate:=l.gate+1,ao:=1},ep L a⟩)=I L:=by rw[oF,ct,dI]
 have O:=ak3 (L:=L) (a:=a) (E:=dD (l.gate+1) 0 1) (q:=⟨{l with gate:=l.gate+1,ao:=1},ep L a⟩) (λp=>R3) hp;have j9:=apw (q:=⟨{l with gate:=l.gate+1,ao:=1},ep L a⟩) j (aoq (l.gate+1) 0 1 G);rw[aI ((WR hp G).2 x),aE (λh=>by have:l.gate+1=(G:Int):=(WR (l:={l with gate:=l.gate+1,ao:=1}) hp G).1 h;omega)]at j9;have u:=S.Ad R O m;rw[Q8 (by rw[ct,dI];exact m)]at u;have hf:=S.hf;have z:=S.len;rw[R]at hf z;generalize ch (((aJ L).map (dD (l.gate+1) 0 1)).set a ⟨{l with gate:=l.gate+1,ao:=1},ep L a⟩)=X at*;have QN:((aZ X G+1:Nat):Int)=l.ao:=by have:aZ X G=aZ ((((aJ L).map (dD (l.gate+1) 0 1)).set a ⟨{l with gate:=l.gate+1,ao:=1},ep L a⟩).map aQ.l) G:=S.aq (jw G);rw[Y,x,this,lJ];omega
 have N:de (I L) f a<I X:=by rw[z];exact xo hf
 have GG:(⟨{{l with gate:=l.gate+1,ao:=1}with gate:=l.gate+1-1,ao:=((aZ X (l.gate+1-1).toNat+1:Nat):Int)},ep L a⟩:aQ)=⟨l,ep L a⟩:=by
  rw[show l.gate+1-1=l.gate by omega];have:((aZ X l.gate.toNat+1:Nat):Int)=l.ao:=by rw[<-QN,x,lJ]
  rw[this]
 have H:xE X (de (I L) f a)=some (((aJ X).map (dD (l.gate+1) 1 (-1))).set (de (I L) f a) ⟨l,ep L a⟩):=by
  unfold xE;rw[jL u];rw[aI (by simp only[cF,cW,fL];exact⟨A,J,trivial⟩)];unfold qi dT;have:((aJ X).map (dD (l.gate+1) 1 (-1))).getD (de (I L) f a) ⟨jJ,false⟩=⟨{l with gate:=l.gate+1,ao:=1},ep L a⟩:=by
   rw[dM,fX,u]
   grind [dD]
  rw[this,<-GG]
 refine⟨de (I L) f a,_,N,H,S.g,?_⟩;refine agh g j S O (λv p hv o9=>?_) rfl (Zs S.g N H);obtain⟨Z,_⟩:=wI o9;unfold dD;cases D:p.l.kind==1 with
 |false=>simp[D]
 |true=>
  have:=(g.ok.ax.fg p.l (a8 Z) D).r0;by_cases c:p.l.gate=l.gate+1
  .have n:(p.l.gate==l.gate+1):=by rw[cW];exact c
   have c2:decide (0<p.l.ao)=true:=aHO
   have c4:decide (1<p.l.ao+1)=true:=aHO
   simp only[n,c2,c4,D,Bu,if_true];rw[show p.l.ao+1+ -1=p.l.ao by omega]
  have n:(p.l.gate==l.gate+1)=false:=by rw[nj];exact c
  simp only[n,VQ,JQ,iJ,if_false]
def arB(g:aU F L){a:Nat}(H:a<I L)(h:xE L a=some P)(M:fP (F:Int) (ch P)=0):∃A Q,A<I (ch P)/\wY F (ch P) A=some Q/\aU F (ch P)/\my (ch Q) L:=by
 have jR:=Zs g H h;obtain⟨l,hl⟩:=aP H;have j:=gX hl;unfold xE at h;rw[jL j]at h;split at h
 case isFalse=>cases h
 rename_i B;cases h;simp only[cF,cW,fL]at B;obtain⟨N,Gx,jj⟩:=B;have hp:l.ay:=by unfold U.ay;rw[N];rfl
 have gd:=g.ok.ax.fg l (a8 hl) hp;obtain⟨G,x⟩:=lV (show 0<=l.gate-1 by omega);have ab:=gd.g1;generalize hR:((aZ L (l.gate-1).toNat+1:Nat):Int)=R at*;have Z:qi (dT (aJ L) l.gate 1 (-1)) a (l.gate-1) R=((aJ L).map (dD l.gate 1 (-1))).set a ⟨{l with gate:=l.gate-1,ao:=R},ep L a⟩:=by
  unfold qi dT;have:((aJ L).map (dD l.gate 1 (-1))).getD a ⟨jJ,false⟩=⟨l,ep L a⟩:=by rw[dM,fX,j];show dD l.gate 1 (-1) ⟨l,ep L a⟩=_;unfold dD;rw[aE];simp only[cF,cW,fL];intro h;omega
  rw[this]
 rw[Z]at M jR |-;obtain⟨f,S⟩:=Rp jR M;have y:I (((aJ L).map (dD l.gate 1 (-1))).set a ⟨{l with gate:=l.gate-1,ao:=R},ep L a⟩)=I L:=by rw[oF,ct,dI]
 have Y:=ak3 (L:=L) (a:=a) (E:=dD l.gate 1 (-1)) (q:=⟨{l with gate:=l.gate-1,ao:=R},ep L a⟩) (λp=>R3) hp;have j9:=apw (q:=⟨{l with gate:=l.gate-1,ao:=R},ep L a⟩) j (aoq l.gate 1 (-1) G);rw[aE (λh=>by have:=(WR hp G).1 h;omega),aI ((WR (l:={l with gate:=l.gate-1,ao:=R}) hp G).2 x)]at j9;have n:=S.Ad y Y H;rw[Q8 (by rw[ct,dI];exact H)]at n;have hf:=S.hf;have u:=S.len;rw[y]at hf u;generalize ch (((aJ L).map (dD l.gate 1 (-1))).set a ⟨{l with gate:=l.gate-1,ao:=R},ep L a⟩)=X at*;have QN:R=((aZ X (l.gate-1).toNat:Nat):Int):=by have:aZ X G=aZ ((((aJ L).map (dD l.gate 1 (-1))).set a ⟨{l with gate:=l.gate-1,ao:=R},ep L a⟩).map aQ.l) G:=S.aq (jw G);rw[<-hR,x,lJ,this];omega
 have T:de (I L) f a<I X:=by rw[u];exact xo hf
 have GG:(⟨{{l with gate:=l.gate-1,ao:=R}with gate:=l.gate-1+1,ao:=1},ep L a⟩:aQ)=⟨l,ep L a⟩:=by rw[show l.gate-1+1=l.gate by omega,<-jj]
 have z:wY F X (de (I L) f a)=some (((aJ X).map (dD l.gate 0 1)).set (de (I L) f a) ⟨l,ep L a⟩):=by
  unfold wY;rw[jL n];rw[aI (by simp only[cF,cW,fL];exact⟨N,J,QN⟩)];have e1:l.gate-1+1=l.gate:=J;unfold qi dT;have:((aJ X).map (dD (l.gate-1+1) 0 1)).getD (de (I L) f a) ⟨jJ,false⟩=⟨{l with gate:=l.gate-1,ao:=R},ep L a⟩:=by rw[dM,fX,n];show dD (l.gate-1+1) 0 1 ⟨{l with gate:=l.gate-1,ao:=R},ep L a⟩=_;unfold dD;rw[aE];simp only[cF,cW,fL];intro h;omega
  rw[this,GG,e1]
 refine⟨de (I L) f a,_,T,z,S.g,?_⟩;refine agh g j S Y (λv p hv o9=>?_) rfl (aeS S.g T z);obtain⟨O,_⟩:=wI o9;unfold dD;cases D:p.l.kind==1 with
 |false=>simp[D]
 |true=>
  have gp:=g.ok.ax.fg p.l (a8 O) D;have:=gp.r0;by_cases c:p.l.gate=l.gate
  .have aN:p.l.ao≠1:=λe=>hv (g.ok.ax.inj v a p.l l O hl D hp ((C3 gp gd).2 ⟨c,J⟩));have m:(p.l.gate==l.gate):=by rw[cW];exact c
   have c2:decide (1<p.l.ao)=true:=aHO
   have c4:decide (0<p.l.ao+ -1)=true:=aHO
   simp only[m,c2,c4,D,Bu,if_true];rw[show p.l.ao+ -1+1=p.l.ao by omega]
  have m:(p.l.gate==l.gate)=false:=by rw[nj];exact c
  simp only[m,VQ,JQ,iJ,if_false]
end
def VA(F:Nat)(h:ae)(k a b c:Int)(l o:Bool)(sg:Int):Prop:=
 (∃e:Int,(e==0)=false/\h_ F h ⟨k,a,b,c,l,o,sg⟩=none/\aC S 12 [c7 F h,c6 k a b c l o sg] (uF e)/\aC S 7 [c7 F h,c6 k a b c l o sg] (fH e))\/
 ∃X,h_ F h ⟨k,a,b,c,l,o,sg⟩=some X/\fP (F:Int) X=0/\aC S 12 [c7 F h,c6 k a b c l o sg] (rF F X)/\aC S 7 [c7 F h,c6 k a b c l o sg] (fH 0)/\aC S 9 [c7 F h,c6 k a b c l o sg] (.agg [.p (.int .i64 F),bU fO 6 (bY X)])
def awY(g:aU F h):∀x∈h,-1000000<=x.ao/\x.ao<=1000000:=λx f=>by obtain⟨i,H⟩:=gJ f;exact Jt g _ (a8 (gX H))
def auw(g:aU F h):∀x∈h,-1000000<=x.id/\x.id<=1000000:=λx f=>by obtain⟨i,H⟩:=gJ f;exact Y7 g _ (a8 (gX H))
def CV{F:Nat}(g:aU F h)(A:I h<=40){k a b c:Int}{l o:Bool}{sg:Int}{p:Bool}{D:dK}(m:dQ F h k a b c l o sg)
  (pw:aC S 56 [ic F h,c6 k a b c l o sg] (cK (!dQ F h k a b c l o sg))) (x:aC S 57 [ic F h,c6 k a b c l o sg] (cK p))
  (u:(lQ F h k a.toNat b.toNat c.toNat l o sg).isSome=p/\ ∀M,lQ F h k a.toNat b.toNat c.toNat l o sg=some M->gq M L D) (pr:aC S 9 [c7 F h,c6 k a b c l o sg] (pM F L D)):VA F h k a b c l o sg:=by
 have f:=afP g k a b c l o sg;rw[m]at pw;have j:=agc g (HL g.len pw λ_=>x);have N:aq U.au h<=I h:=ny _ _;obtain⟨z,y⟩:=u;unfold rD at f;rw[aI m]at f;have v:¬((400:Int)<(I h:Int)+(gU k).1\/(100:Int)<((aq U.au h/2:Nat):Int)+(gU k).2):=by grind [gU]
 have R:h_ F h ⟨k,a,b,c,l,o,sg⟩=(lQ F h k a.toNat b.toNat c.toNat l o sg).map ch:=by
  unfold h_;rw[aE g.ne,aI m]
  grind
 cases H:lQ F h k a.toNat b.toNat c.toNat l o sg with
 |none=>rw[H]at f z R;rw[<-z]at j;exact .inl ⟨4,rfl,R,f,j⟩
 |some M=>
  rw[H]at f z R;rw[<-z]at j;have n:(decide (400<(CI (I h:Int) ((aq U.au h/2:Nat):Int) k).1)||decide (100<(CI (I h:Int) ((aq U.au h/2:Nat):Int) k).2))=false:=by grind [CI]
  have f:aC S 12 [c7 F h,c6 k a b c l o sg] (rF F (ch M)):=by have e:vQ F h k (some M)=rF F (ch M):=aE v;rwa[e]at f
  have j:aC S 7 [c7 F h,c6 k a b c l o sg] (fH 0):=by unfold JJ at j;rwa[n]at j
  refine .inr ⟨_,R,(aae g R).1,f,j,?_⟩;rw[(y M H).fin];exact pr
theorem aBb(g:aU F h)(n:I h<=40)(k a b c:Int)(l o:Bool)(sg:Int):
  VA F h k a b c l o sg:=by
 have hl:=g.len;have EO:=g.fing;have y:∀x∈h,∀k:Nat,k<=4->IntKind.i64.wrap (x.id-(k:Int))=x.id-k:=λx j k R=>by have:=(auw g) x j;exact iS J J
 have N:∀(d:Int),-10<=d->d<=10->∀x∈h,IntKind.i64.wrap (x.ao-d)=x.ao-d:=λd E D x j=>by have:=(awY g) x j;exact iS J J
 have jV:∀i,i<I h->(aV h i).kind=1->0<=(aV h i).gate/\(aV h i).gate<=F:=λi hi R=>by have:=g.HS (iQ hi) (FJ R);exact⟨this.g0,this.g1⟩
 have pw:=RC (F:=F) (h:=h) J k a b c l o sg;cases f:dQ F h k a b c l o sg with
 |false=>have L:=afP g k a b c l o sg;unfold rD at L;rw[f]at L;rw[f]at pw;refine .inl ⟨2,rfl,?_,L,agc g (HL (p:=false) g.len pw (λab=>by cases ab))⟩;unfold h_;rw[aE g.ne];dsimp only;rw[f];rfl
 |true=>
  have u:=f;unfold dQ at f;by_cases E:k=1
  .subst E;simp only[Int.reduceEq,if_true,if_false,or_false,or_self]at f;simp only[cF,gH,cW]at f;obtain⟨rfl,rfl,rfl,j,rfl,rfl⟩:=f;obtain⟨A,rfl,H⟩:=eZ j;exact CV g n u pw (aqp g H (Mf g H) (Mf g (Cs H))) (alx g H) (aE0 g A 0 0 false false 0 H hl (N 2 aa aa))
  by_cases D:k=2
  .subst D;simp only[Int.reduceEq,if_true,if_false,or_self]at f;simp only[cF,nK,gH,cW,fL]at f;obtain⟨rfl,rfl,rfl,j,ia,HZ,ui,nN⟩:=f;rcases j with j|⟨j,_⟩
   rotate_left
   .exact absurd j (by have:=g.pos;omega)
   obtain⟨A,rfl,H⟩:=eZ j;obtain⟨B,rfl⟩:=lV ia;obtain⟨z,rfl⟩:=lV ui;have Ke:z<=1000:=by have:=ny (jw B) h;simp only[aZ,lJ]at nN;omega
   exact CV g n u pw (ahe g H (Sv g J) (Sv g J)) (ahj g H) (arI g A B z false false 0 H Ke hl (N (-2) aa aa) (Sv g J))
  by_cases h3:k=3
  .subst h3;simp only[Int.reduceEq,if_true,if_false,or_false,or_self]at f;simp only[cF,gH,cW,fL]at f;obtain⟨rfl,rfl,rfl,j,rfl,v,aw⟩:=f;obtain⟨A,rfl,H⟩:=eZ j;obtain⟨B,rfl,m⟩:=eZ v;exact CV g n u pw (apB g H m) (aqb g H m J) (aro g A B 0 false false 0 H m g.two hl)
  by_cases T:k=4
  .subst T;simp only[Int.reduceEq,if_true,if_false,or_false,or_true,or_self]at f;simp only[cF,gH,cW]at f;obtain⟨rfl,rfl,rfl,j,rfl,rfl⟩:=f;obtain⟨A,rfl,H⟩:=eZ j;exact CV g n u pw (anp g H) (anB g H) (az4 g A 0 0 false false 0 (iQ H) hl y)
  by_cases Y:k=5
  .subst Y;simp only[Int.reduceEq,if_true,if_false,or_self]at f;simp only[cF,nK,gH,cW]at f;obtain⟨rfl,_,j,rfl,rfl⟩:=f;obtain⟨A,rfl,H⟩:=eZ j;exact CV g n u pw amQ ⟨rfl,λM hM=>by cases hM;exact aAo A sg o⟩ (aBF g A 0 0 false o sg H hl)
  by_cases h6:k=6
  .subst h6;simp only[Int.reduceEq,if_true,if_false,or_true,or_self]at f;simp only[cF,gH,cW,fL]at f;obtain⟨rfl,rfl,rfl,j,rfl,v,aw⟩:=f;obtain⟨A,rfl,H⟩:=eZ j;obtain⟨B,rfl,m⟩:=eZ v;exact CV g n u pw (amV g H m) (amh g H m) (asS g A B 0 false false 0 H m hl y)
  by_cases X:k=7
  .subst X;simp only[Int.reduceEq,if_true,if_false,or_self]at f;simp only[cF,gH,cW,nj]at f;obtain⟨rfl,j,rfl,v,aN⟩:=f;obtain⟨A,rfl,H⟩:=eZ j;obtain⟨B,rfl,m⟩:=eZ v;exact CV g n u pw (agk g H m) (aga g H m J l o) (aES g A B 0 l o 0 H m hl)
  by_cases Z:k=8
  .subst Z;simp only[Int.reduceEq,if_true,if_false,or_self]at f;simp only[cF,gH,cW,fL]at f;obtain⟨rfl,rfl,rfl,j,v,hz,_⟩:=f;obtain⟨A,rfl,H⟩:=eZ j;obtain⟨B,rfl,m⟩:=eZ v;obtain⟨z,rfl,O⟩:=eZ hz;exact CV g n u pw (ak1 g H m O) (afF g H m O) (avX g A B z false false 0 H m O g.two hl)
  by_cases h9:k=9
  .subst h9;simp only[Int.reduceEq,if_true,if_false,or_false,or_true,or_self]at f;simp only[cF,gH,cW]at f;obtain⟨rfl,rfl,rfl,j,rfl,rfl⟩:=f;obtain⟨A,rfl,H⟩:=eZ j;have hg:=S7 g (iQ H);have pr:=ax8 g A 0 0 false false 0 (iQ H) hl (N (-1) aa aa) (iS J J);exact CV g n u pw (agE g (iQ H)) (afr g H) pr
  by_cases Q:k=10
  .subst Q;simp only[Int.reduceEq,if_true,if_false,or_true,or_self]at f;simp only[cF,gH,cW]at f;obtain⟨rfl,rfl,rfl,j,rfl,rfl⟩:=f;obtain⟨A,rfl,H⟩:=eZ j;have hg:=S7 g (iQ H);have vU:=ny (m_ ((aV h A).gate-1)) h;have pr:=asR g A 0 0 false false 0 (iQ H) hl (V7 F h J _) (iS J J) (iS J J) (N 1 aa aa) (iS J J);exact CV g n u pw (agz g (iQ H)) (ah9 g H) pr
  simp[E,D,h3,T,Y,h6,X,Z,h9,Q]at f
def aBf:((List.range 41).all λF=>(List.range (F+1)).all λq=>fP (F:Int) (pA q)==0):=ah
def azG{g:Nat}(H:F<=40)(h:g<=F):fP (F:Int) (pA g)=0:=by exact cW.1 (mz.1 (mz.1 aBf F (fU.2 J)) g (fU.2 J))
theorem aCc(j:F<=40)(k a b c:Int)(l o:Bool)(sg:Int):VA F [] k a b c l o sg:=by
 have f:=aq6 j k a b c l o sg;unfold Ow at f;have pw:=RC (F:=F) (h:=[]) (bj _) k a b c l o sg;cases H:dQ F [] k a b c l o sg with
 |false=>
  rw[H]at f pw;refine .inl ⟨2,rfl,?_,f,anO (HL (p:=false) (bj _) pw (λn=>by cases n))⟩
  grind [h_]
 |true=>
  rw[H,aI rfl]at f;rw[H]at pw;obtain⟨B,rfl,rfl,rfl,m,rfl,rfl,rfl,rfl⟩:=Mi H;refine .inr ⟨pA B,?_,azG j m,f,anO (HL (bj _) pw λ_=>aoP),aEh 0 B 0 false false 0 aa⟩
  grind [h_]
def an4(H:fP (F:Int) h=0)(f:I h<=40)(m:eU):VA F h m.k m.a m.b m.c m.l m.o m.s:=by grind [fP,aCc,E4,aBb]
section
variable {F:Nat} {h:ae}
structure Mm (F:Nat) (ls:ae) (cand:Int->fh):Prop where
 two:cand 2=uD F ls (I ls)
 five:cand 5=sn (I ls)
 seven:cand 7=jR (I ls) (I ls)
 one:∀k:Int,k=1\/k=4\/k=9\/k=10->cand k=xf (I ls) k
 three:∀k:Int,k=3\/k=6\/k=8->(∀m∈cand k,My k (I ls) m)/\Wx F ls k (cand k)/\(cand k).Pairwise E7
 len:∀k:Nat,k<10->I (cand ((k+1:Nat):Int))<=200000000
 pev:∀k:Nat,k<10->aC S 53 [.one (.p (fk F ls)),ai ((k+1:Nat):Int)] (.one (bU mB 7 (cL (cand ((k+1:Nat):Int)))))
def aub(g:aU F h)(A:0<I h):∃T,Mm F h T:=by
 have H:=g.len;obtain⟨n,⟨z,O,Cc,B⟩,m⟩:=ack g A (.inl rfl);obtain⟨M,⟨y,D,Z,Q⟩,v⟩:=ack g A (.inr (.inl rfl));obtain⟨N,⟨X,R,x,L⟩,Y⟩:=ack g A (.inr (.inr rfl));obtain⟨h2,u⟩:=aDj g A (avb g);have h7:=Y8 (I h) (I h);have E:=JG H H;have h5:=aar (I h);have j:∀k:Int,k=1\/k=4\/k=9\/k=10->aC S 53 [.one (.p (fk F h)),ai k] (.one (bU mB 7 (cL (xf (I h) k)))):=λk f=>by rcases f with rfl|rfl|rfl|rfl<;>exact aBG g A aa aa aa aa aa aa
 have hD:∀k:Int,I (xf (I h) k)<=200000000:=λk=>by rw[ahb];omega
 refine⟨λk=>if k=2 then uD F h (I h) else if k=5 then sn (I h) else if k=7 then jR (I h) (I h) else if k=3 then n else if k=6 then M else if k=8 then N else xf (I h) k,rfl,rfl,rfl,λk f=>?_,λk f=>?_,λk f=>?_,λk f=>?_⟩
 .rcases f with rfl|rfl|rfl|rfl<;>rfl
 .grind
 .grind
 rcases k with _|_|_|_|_|_|_|_|_|_|k
 .exact j 1 aa
 .exact u
 .exact m
 .exact j 4 aa
 .exact as2 g A
 .exact v
 .exact atG g A
 .exact Y
 .exact j 9 aa
 .exact j 10 aa
 omega
def Mm.kind(j:Mm F h T){k:Nat}(n:k<10):∀m∈T ((k+1:Nat):Int),m.k=((k+1:Nat):Int):=by
 have f:∀k:Int,∀m∈xf (I h) k,m.k=k:=λk m H=>by obtain⟨a,_,rfl⟩:=c_.1 H;rfl
 have v:∀k:Int,k=3\/k=6\/k=8->∀m∈T k,m.k=k:=λk n m H=>by obtain⟨a,_,u⟩:=(j.three k n).1 m H;exact u.1
 rcases k with _|_|_|_|_|_|_|_|_|_|k
 .show ∀m∈T 1,m.k=1;rw[j.one 1 aa];exact f 1
 .show ∀m∈T 2,m.k=2;rw[j.two];intro m H;obtain⟨a,_,H⟩:=qx.1 H;obtain⟨x,_,rfl⟩:=c_.1 H;rfl
 .grind
 .show ∀m∈T 4,m.k=4;rw[j.one 4 aa];exact f 4
 .show ∀m∈T 5,m.k=5;rw[j.five];intro m H;obtain⟨a,_,H⟩:=qx.1 H;obtain⟨x,_,rfl⟩:=c_.1 H;rfl
 .grind
 .show ∀m∈T 7,m.k=7;rw[j.seven];intro m H;obtain⟨a,_,H⟩:=qx.1 H;obtain⟨c,_,H⟩:=qx.1 H;unfold wP at H;split at H
  .cases H
  obtain⟨x,_,rfl⟩:=c_.1 H;rfl
 .grind
 .show ∀m∈T 9,m.k=9;rw[j.one 9 aa];exact f 9
 .show ∀m∈T 10,m.k=10;rw[j.one 10 aa];exact f 10
 omega
end
def DB{Y:Type}(f:Nat->List Y)(k:Nat):(List.range k++[k]).flatMap f=(List.range k).flatMap f++f k:=by rw[List.flatMap_append];simp
def mV(k:Int)(v:Nat->Nat->Nat->Int)(a b c:Nat):fh:=if v a b c=0 then [⟨k,a,b,c,false,false,0⟩]else []
def Da(B:Nat)(k:Int)(v:Nat->Nat->Nat->Int)(a b:Nat):fh:=(List.range B).flatMap (mV k v a b)
def CR(O B:Nat)(k:Int)(v:Nat->Nat->Nat->Int)(a:Nat):fh:=(List.range O).flatMap (Da B k v a)
def Es(n O B:Nat)(k:Int)(v:Nat->Nat->Nat->Int):fh:=(List.range n).flatMap (CR O B k v)
def rb(x:dy):PV:=if x=[]then .nils else .sl x
def aju{blk:aH}(x:dy):gP blk (.one (.p (rb x)))=some (x,[],[]):=by
 unfold rb;by_cases h:x=[]
 .rw[aI h,h];rfl
 rw[aE h];rfl
def C9(x:dy):(rb x).norm=.sl x:=by
 unfold rb;by_cases h:x=[]
 .rw[aI h,h];rfl
 rw[aE h];rfl
def MD{blk:aH}{s T:Nat}{A:dy}(lo:S.lone s):fQ blk [] s ((RV.one (bU T z A)).gV (S.lone s))=some (.one (.p (rb A)),[]):=by
 rw[lo];unfold bU rb;by_cases h:A=[]
 .rw[aI h,aI h];rfl
 rw[aE h,aE h];rfl
section
variable {F:Nat} {h:ae}
abbrev l9:Nat:=27
def abu{k a b c v:Int}(j:aC S 59 [g_ u,.one (.p (.int .u8 76))] (cK false))(f:aC S 59 [g_ u,.one (.p (.int .u8 79))] (cK false))(H:aC S 20 [ic F h,c6 k a b c false false 0] (fH v)):aC S 60 [ic F h,c6 k a b c false false 0,g_ u] (.one (bU l9 7 (cL (if v=0 then [⟨k,a,b,c,false,false,0⟩]else [])))):=by
 refine ba ahF ?_;by_cases n:v=0
 .subst n;have E:((0:Int)==0):=rfl;simp only[go_sem,N3,KW,cS j,cS f,MY,ie H,E];refine mO (id:=3840256192) a_.nil f0 (.inl rfl) aG λx A g1 y=>?_;simp only[go_sem];exact qN g1
 rw[aE n];have m:(v==0)=false:=at9
 simp only[go_sem,N3,KW,cS j,cS f,MY,ie H,m];first|done|rfl
def azM{x:PV}(hx:x.norm=.sl (ki (dA F h))){k:Int}{v:Nat->Nat->Nat->Int}{G:Nat}(hN:N<=400)(am:O<=400)(Nc:B<=400)(hL:aC S 59 [g_ u,.one (.p (.int .u8 76))] (cK false))(hO:aC S 59 [g_ u,.one (.p (.int .u8 79))] (cK false))(hv:∀a b c:Nat,aC S 20 [ic F h,c6 k a b c false false 0] (fH (v a b c))){blk:aH}
  (E:j 1=ai k) (A:j 5=.one (.p .nils)) (L:j 6=g_ u) (D:j 7=.one (.aW 1344192128 G 0)) (z:j 8=ai N) (M:j 9=ai O) (m:j 10=ai B) (f:j 11=ai 0) (H:blk 1344192128=(G,some (.var [.p (.int .i64 F),.p (fz h),.p (.int .i64 (I h)),.p x]))):
  W S .all (.loop Jn) (oh 0 (vn S .all PG (rU .all Jy.results λw blk=>iD blk w=some (.one (bU l9 7 (cL (Es N O B k v))))))) j blk:=by
 have lo:S.lone 1345344512:=ah;have qT:∀a b c:Nat,aC S 60 [ic F h,c6 k a b c false false 0,g_ u] (.one (bU l9 7 (cL (mV k v a b c)))):=λa b c=>abu hL hO (hv a b c)
 refine cZ (λa j blk=>j 1=ai k/\j 6=g_ u/\j 7=.one (.aW 1344192128 G 0)/\j 8=ai N/\j 9=ai O/\j 10=ai B/\j 11=ai a/\blk 1344192128=(G,some (.var [.p (.int .i64 F),.p (fz h),.p (.int .i64 (I h)),.p x]))/\ ∃R,j 5=.one R/\I ((List.range a).flatMap (CR O B k v))<=161000*a/\a_ 1345344576 l9 7 (cL ((List.range a).flatMap (CR O B k v))) (.one R) blk) 0 N (bj _) ⟨E,L,D,z,M,m,f,H,_,A,aG,a_.nil⟩ ?_;clear E A L D z M m f H;rintro a j blk ha ⟨E,L,D,z,M,m,f,H,ca,A,T,Q⟩
 by_cases aw:a<N
 .have aL:((a:Int)<(N:Int)):=J;have w1:=cg (n:=a) J;have sa:=DB (CR O B k v) a;generalize ag:(List.range a).flatMap (CR O B k v)=ea at*;simp only[go_sem,Jn,z,f,aL];refine cZ (λb j blk=>j 1=ai k/\j 6=g_ u/\j 7=.one (.aW 1344192128 G 0)/\j 8=ai N/\j 9=ai O/\j 10=ai B/\j 11=ai a/\j 12=ai b/\blk 1344192128=(G,some (.var [.p (.int .i64 F),.p (fz h),.p (.int .i64 (I h)),.p x]))/\ ∃R,j 5=.one R/\I (ea++(List.range b).flatMap (Da B k v a))<=161000*a+401*b/\a_ 1345344576 l9 7 (cL (ea++(List.range b).flatMap (Da B k v a))) (.one R) blk) 0 O (bj _) ?_ ?_
  .simp only[go_sem,E,A,L,D,z,M,m,f,H];exact⟨rfl,_,rfl,by simpa using T,by simpa using Q⟩
  clear E A L D z M m f H Q T;rintro b j blk hb ⟨E,L,D,z,M,m,f,y,H,ca,A,T,Q⟩
  by_cases tK:b<O
  .have Zu:((b:Int)<(O:Int)):=J;have w2:=cg (n:=b) J;have sb:=DB (Da B k v a) b;generalize an:(List.range b).flatMap (Da B k v a)=eb at*;simp only[go_sem,Ox,M,y,Zu];refine cZ (λc j blk=>j 1=ai k/\j 6=g_ u/\j 7=.one (.aW 1344192128 G 0)/\j 8=ai N/\j 9=ai O/\j 10=ai B/\j 11=ai a/\j 12=ai b/\j 13=ai c/\blk 1344192128=(G,some (.var [.p (.int .i64 F),.p (fz h),.p (.int .i64 (I h)),.p x]))/\ ∃R,j 5=.one R/\I (ea++eb++(List.range c).flatMap (mV k v a b))<=161000*a+401*b+c/\a_ 1345344576 l9 7 (cL (ea++eb++(List.range c).flatMap (mV k v a b))) (.one R) blk) 0 B (bj _) ?_ ?_
   .simp only[go_sem,E,A,L,D,z,M,m,f,y,H];exact⟨rfl,_,rfl,by simpa using T,by simpa using Q⟩
   clear E A L D z M m f y H Q T;rintro c j blk hc ⟨E,L,D,z,M,m,f,y,X,H,ca,A,T,Q⟩
   by_cases Cj:c<B
   .have Zv:((c:Int)<(B:Int)):=J;have w3:=cg (n:=c) J;have sc:=DB (mV k v a b) c;have pf:=qT a b c;have eh:I (cL (mV k v a b c))<=1:=by
     unfold mV;split<;>simp[cL]
    have Kc:I (mV k v a b c)<=1:=by unfold mV;split<;>simp
    have ab:gk 7 (cL (mV k v a b c)):=by unfold mV;split<;>rfl
    generalize ap:(List.range c).flatMap (mV k v a b)=Y at*;generalize nN:mV k v a b c=qs at*;simp only[go_sem,O3,E,A,L,D,m,f,y,X,H,hx,Zv,ahS,dt pf (MD lo)];have eo:I (cL (ea++eb++Y))=I (ea++eb++Y):=ct ..;refine mO Q (aju _) (.inr ab) J λc2 ak g1 cU=>?_;have Pa:=cU 1344192128 aa aa;rw[H]at Pa;simp only[go_sem,E,A,L,D,z,M,m,f,y,X,w3];refine⟨Cj,Pa,c2,rfl,?_,?_⟩
    .rw[sc,<-k9,iM];omega
    rw[sc,<-k9,show cL (ea++eb++Y++qs)=cL (ea++eb++Y)++cL qs by simp[cL]];exact g1
   have vU:c=B:=J;subst vU;have e2:(List.range c).flatMap (mV k v a b)=Da c k v a b:=rfl;rw[e2]at T Q;simp only[go_sem,O3,adV,E,A,L,D,z,M,m,f,y,X,ek,w2];refine⟨tK,H,_,rfl,?_,?_⟩
   .rw[sb,<-k9];omega
   rw[sb,<-k9];exact Q
  have ad:b=O:=J;subst ad;have e2:(List.range b).flatMap (Da B k v a)=CR b B k v a:=rfl;rw[e2]at T Q;simp only[go_sem,Ox,Yi,E,A,L,D,z,M,m,f,y,ek,w1];refine⟨aw,H,_,rfl,?_,?_⟩
  .rw[sa];omega
  rw[sa];exact Q
 have Z:a=N:=J;subst Z;simp only[go_sem,Jn,PG,Jy,A,z,f,ek];exact qN Q
def aiV(H:h=[]\/aU F h):∃x r,x.norm=.sl (ki (dA F h))/\aC S 19 [c7 F h] r/\ ∀(blk:aH) (s:Nat),S.lone s->fQ blk [] s (r.gV (S.lone s))=some (.agg [.p (.int .i64 F),.p (fz h),.p (.int .i64 (I h)),.p x],[]):=by
 rcases H with rfl|g
 .exact⟨.nils,_,rfl,adi F,λblk s H=>by rw[H];rfl⟩
 refine⟨.sl _,_,rfl,Ay g,λblk s H=>?_⟩;rw[H,oa (AK g)];rfl
theorem y_(E:h=[]\/aU F h)(hl:I h<=400){k:Int}{pb pc:Bool}{v:Nat->Nat->Nat->Int}(n:(k==2)=false)(j:aC S 58 [ai k] (zX u))(A:aC S 59 [g_ u,.one (.p (.int .u8 66))] (cK pb))(f:aC S 59 [g_ u,.one (.p (.int .u8 67))] (cK pc))(D:aC S 59 [g_ u,.one (.p (.int .u8 76))] (cK false))(B:aC S 59 [g_ u,.one (.p (.int .u8 79))] (cK false))(z:∀a b c:Nat,aC S 20 [ic F h,c6 k a b c false false 0] (fH (v a b c))):
  aC S 21 [c7 F h,ai k] (.one (bU l9 7 (cL (Es (max (I h) 1) (if pb then max (I h) 1 else 1) (if pc then max (I h) 1 else 1) k v)))):=by
 obtain⟨x,r,m,y,rX⟩:=aiV E;have lo:S.lone 1344192064:=ah;obtain⟨N,hN⟩:∃N,max (I h) 1=N:=⟨_,rfl⟩;have H:(if(1:Int)>(I h:Int)then(1:Int)else(I h:Int))=(N:Int):=Fd
 rw[hN];refine ba aiI ?_;cases pb<;>cases pc
 all_goals
  simp only[go_sem,Jy,Ti,Am j,tQ,dt y (rX _ _ lo),KW,cS A,cS f,n,H];refine azM (G:=1) m J ?_ ?_ D B z ?_ ?_ ?_ ?_ ?_ ?_ ?_ ?_ ?_;all_goals first
   |omega
   |(simp only[go_sem];first|done|rfl|trace_state)
end
def jz (i:Nat):Bool:=decide (0<i)
def vK(p:Bool):Nat:=if p then 2 else 1
def sg (p:Bool)(i:Nat):Int:=if p then 2*(i:Int)-1 else 0
def kB(k:Int)(a b c:Nat)(v:Bool->Bool->Int->Int)(l o:Bool)(s:Int):fh:=if v l o s=0 then [⟨k,a,b,c,l,o,s⟩]else []
def DZ(k:Int)(a b c:Nat)(v:Bool->Bool->Int->Int)(p:Bool)(i j:Nat):fh:=(List.range (vK p)).flatMap λn=>kB k a b c v (jz i) (jz j) (sg p n)
def FW(k:Int)(a b c:Nat)(v:Bool->Bool->Int->Int)(p:Bool)(i:Nat):fh:=(List.range 2).flatMap (DZ k a b c v p i)
def ua(k:Int)(a b c:Nat)(v:Bool->Bool->Int->Int)(p:Bool):fh:=(List.range 2).flatMap (FW k a b c v p)
def aqf(k:Int)(a b c:Nat)(v:Bool->Bool->Int->Int)(l o:Bool)(s:Int):I (kB k a b c v l o s)<=1:=by unfold kB;split<;>simp
def U0{Y:Type}{f:Nat->List Y}{B:Nat}:∀ {n:Nat},(∀i,i<n->I (f i)<=B)->I ((List.range n).flatMap f)<=B*n
 |0,_=>bj _
 |n+1,h=>by have m:=U0 λi H=>h i (Nat.lt_succ_of_lt H);have j:=h n (Nat.lt_succ_self n);rw[mJ,DB,iM,Nat.mul_succ];omega
def akP(p:Bool):vK p<=2:=by unfold vK;split<;>omega
def afv(k:Int)(a b c:Nat)(v:Bool->Bool->Int->Int)(p:Bool)(i j:Nat):I (DZ k a b c v p i j)<=2:=by have h:=U0 (f:=λn=>kB k a b c v (jz i) (jz j) (sg p n)) (n:=vK p) λ_ _=>aqf ..;have:=akP p;unfold DZ;omega
def amz(k:Int)(a b c:Nat)(v:Bool->Bool->Int->Int)(p:Bool)(i:Nat):I (FW k a b c v p i)<=4:=U0 (B:=2) λ_ _=>afv ..
def TA(k:Int)(a b c:Nat)(v:Bool->Bool->Int->Int)(p:Bool):I (ua k a b c v p)<=8:=U0 (B:=4) λ_ _=>amz ..
def avU(a b:fh):cL (a++b)=cL a++cL b:=by simp[cL]
section
variable {F:Nat} {h:ae}
def F5:dy:=[[.bool false],[.bool true]]
def E9(p:Bool):dy:=(List.range (vK p)).map λi=>[.int .i64 (sg p i)]
def aqj{i:Nat}(h:i<2):F5[i]?=some [.bool (jz i)]:=by
 rcases i with _|_|i
 .rfl
 .rfl
 omega
def aEB{p:Bool}{i:Nat}(h:i<vK p):(E9 p)[i]?=some [.int .i64 (sg p i)]:=by simp[E9,h]
def asW(p:Bool):I (E9 p)=vK p:=by simp[E9]
def I2(k:Int)(a b c:Nat)(l o:Bool)(s:Int):eC:=[.p (.int .i64 k),.p (.int .i64 a),.p (.int .i64 b),.p (.int .i64 c),.p (.bool l),.p (.bool o),.p (.int .i64 s)]
def apM{k:Int}{a b c:Nat}{v:Bool->Bool->Int->Int}{p:Bool}{m:Nat}(Y:m=3840448000\/m=3840576000)
  (hv:∀(l o:Bool) (s:Int),aC S 20 [ic F h,c6 k a b c l o s] (fH (v l o s))) {blk:aH}
  (E:j 3=.one (.aW 3840000000 1 0)) (A:j 4=.one (.aW 3840000064 1 0)) (y:j 7=.one (.p .nils)) (D:j 8=.one (.hsl 3840384000 1 1 0 2)) (H:j 9=.one (.hsl m 1 1 0 (vK p))) (f:j 10=ai 0)
  (B:blk 3840000000=(1,some (.var (AF F h)))) (L:blk 3840000064=(1,some (.var (I2 k a b c false false 0)))) (b8:blk 3840384000=(1,some (.arr 4 1 F5))) (z:blk m=(1,some (.arr 3 1 (E9 p)))):
  W S .all (.loop UH) (oh 0 (vn S .all aeX (rU .all N3.results λw blk=>∃r,r=RV.one (bU l9 7 (cL (ua k a b c v p)))/\iD blk w=some r))) j blk:=by
 have ir:=akP p;have hsl:=asW p;have tF:I F5=2:=rfl;have n1:¬m=3840000064:=acc
 have n2:¬m=3841344192:=acc
 have n3:¬m=3841344128:=acc
 refine cZ (λi j blk=>j 3=.one (.aW 3840000000 1 0)/\j 4=.one (.aW 3840000064 1 0)/\j 8=.one (.hsl 3840384000 1 1 0 2)/\j 9=.one (.hsl m 1 1 0 (vK p))/\j 10=ai i/\blk 3840000000=(1,some (.var (AF F h)))/\(∃l o s,blk 3840000064=(1,some (.var (I2 k a b c l o s))))/\blk 3840384000=(1,some (.arr 4 1 F5))/\blk m=(1,some (.arr 3 1 (E9 p)))/\ ∃N,j 7=.one N/\I ((List.range i).flatMap (FW k a b c v p))<=4*i/\a_ 3841344192 l9 7 (cL ((List.range i).flatMap (FW k a b c v p))) (.one N) blk) 0 2 (bj _) ⟨E,A,D,H,f,B,⟨_,_,_,L⟩,b8,z,_,y,aG,a_.nil⟩ ?_;clear E A y D H f B L b8 z;rintro i j blk hi ⟨E,A,D,H,f,B,L,b8,z,ci,y,vg,gi⟩
 by_cases T:i<2
 .have Ii:((i:Int)<2):=J;have w1:=cg (n:=i) J;have si:=DB (FW k a b c v p) i;have aw:=amz k a b c v p i;generalize av:(List.range i).flatMap (FW k a b c v p)=ea at*;simp only[go_sem,UH,f,Ii]
  refine cZ (λx j blk=>j 3=.one (.aW 3840000000 1 0)/\j 4=.one (.aW 3840000064 1 0)/\j 8=.one (.hsl 3840384000 1 1 0 2)/\j 9=.one (.hsl m 1 1 0 (vK p))/\j 10=ai i/\j 11=ai x/\blk 3840000000=(1,some (.var (AF F h)))/\(∃l o s,blk 3840000064=(1,some (.var (I2 k a b c l o s))))/\blk 3840384000=(1,some (.arr 4 1 F5))/\blk m=(1,some (.arr 3 1 (E9 p)))/\ ∃N,j 7=.one N/\I (ea++(List.range x).flatMap (DZ k a b c v p i))<=4*i+2*x/\a_ 3841344192 l9 7 (cL (ea++(List.range x).flatMap (DZ k a b c v p i))) (.one N) blk) 0 2 (bj _) ?_ ?_
  .simp only[go_sem,E,A,y,D,H,f,B,b8,z];exact⟨rfl,L,_,rfl,by simpa using vg,by simpa using gi⟩
  clear E A y D H f B L b8 z gi vg;rintro x j blk hj ⟨E,A,D,H,f,u,B,L,b8,z,cj,y,yE,gj⟩
  by_cases Z:x<2
  .have Zr:((x:Int)<2):=J;have w2:=cg (n:=x) J;have sj:=DB (DZ k a b c v p i) x;have az:=afv k a b c v p i x;generalize aB:(List.range x).flatMap (DZ k a b c v p i)=eb at*;simp only[go_sem,aeN,u,Zr]
   refine cZ (λn j blk=>j 3=.one (.aW 3840000000 1 0)/\j 4=.one (.aW 3840000064 1 0)/\j 8=.one (.hsl 3840384000 1 1 0 2)/\j 9=.one (.hsl m 1 1 0 (vK p))/\j 10=ai i/\j 11=ai x/\j 12=ai n/\blk 3840000000=(1,some (.var (AF F h)))/\(∃l o s,blk 3840000064=(1,some (.var (I2 k a b c l o s))))/\blk 3840384000=(1,some (.arr 4 1 F5))/\blk m=(1,some (.arr 3 1 (E9 p)))/\ ∃N,j 7=.one N/\I (ea++eb++(List.range n).flatMap λn=>kB k a b c v (jz i) (jz x) (sg p n))<=4*i+2*x+n/\a_ 3841344192 l9 7 (cL (ea++eb++(List.range n).flatMap λn=>kB k a b c v (jz i) (jz x) (sg p n))) (.one N) blk) 0 (vK p) (bj _) ?_ ?_
   .simp only[go_sem,E,A,y,D,H,f,u,B,b8,z];exact⟨rfl,L,_,rfl,by simpa using yE,by simpa using gj⟩
   clear E A y D H f u B L b8 z gj yE;rintro n j blk hn ⟨E,A,D,H,f,u,M,B,⟨l0,o0,s0,L⟩,b8,z,cn,y,sL,gn⟩
   by_cases mU:n<vK p
   .have O:((n:Int)<(vK p:Int)):=J;have w3:=cg (n:=n) J;have dO:=DB (λn=>kB k a b c v (jz i) (jz x) (sg p n)) n;have Q:=aqj T;have R:=aqj Z;have jP:=aEB mU;have pv:=hv (jz i) (jz x) (sg p n);have eh:=aqf k a b c v (jz i) (jz x) (sg p n);have ag:n<I (E9 p):=J;have ar:i<I F5:=T;have ap:x<I F5:=Z;by_cases Np:v (jz i) (jz x) (sg p n)=0
    .have xB:(v (jz i) (jz x) (sg p n)==0):=by rw[Np];rfl
     have X:kB k a b c v (jz i) (jz x) (sg p n)=[⟨k,a,b,c,jz i,jz x,sg p n⟩]:=aI Np;generalize(List.range n).flatMap (λn=>kB k a b c v (jz i) (jz x) (sg p n))=ec at*;simp only[go_sem,Tk,E,A,y,D,H,f,u,M,B,L,b8,z,O,mU,T,Z,Q,R,jP,I2,MY,ie pv,xB];refine⟨aK aHS,?_⟩
     refine mO (B:=[eU.ps ⟨k,a,b,c,jz i,jz x,sg p n⟩]) (gn.of_eq ac) f0 (.inl rfl) (by rw[xL];simp only[fF,fB];omega) λc2 ak g1 hb=>?_;have O8:=(hb 3840000000 aa aa).trans (by simp only[bG,Nat.reduceEqDiff,if_false];exact B);have am:ak 3840000064=(1,some (.var (I2 k a b c (jz i) (jz x) (sg p n)))):=(hb 3840000064 aa aa).trans (by simp only[bG,Nat.reduceEqDiff,if_true,if_false];rfl);have an:=(hb 3840384000 aa aa).trans (by simp only[bG,Nat.reduceEqDiff,if_false];exact b8);have ab:=(hb m n2 n2).trans (by simp only[bG,n1,n3,if_false];exact z);simp only[go_sem,E,A,D,H,f,u,M,w3]
     refine⟨mU,O8,⟨_,_,_,am⟩,an,ab,c2,rfl,?_,?_⟩
     .rw[dO,X,<-k9,iM];simp only[fF,fB];omega
     rw[dO,X,<-k9,avU];exact g1
    have xB:(v (jz i) (jz x) (sg p n)==0)=false:=by simpa using Np
    have X:kB k a b c v (jz i) (jz x) (sg p n)=[]:=aE Np;generalize(List.range n).flatMap (λn=>kB k a b c v (jz i) (jz x) (sg p n))=ec at*;simp only[go_sem,n1,Tk,E,A,y,D,H,f,u,M,B,L,b8,z,O,mU,T,Z,Q,R,jP,I2,MY,ie pv,xB,w3];refine⟨aK aHS,?_⟩;refine⟨⟨jz i,jz x,sg p n,rfl⟩,_,rfl,?_,?_⟩
    .rw[dO,X,j_];omega
    rw[dO,X,j_];exact gn.of_eq ac
   have aN:n=vK p:=J;subst aN;have e2:(List.range (vK p)).flatMap (λn=>kB k a b c v (jz i) (jz x) (sg p n))=DZ k a b c v p i x:=rfl;rw[e2]at sL gn;simp only[go_sem,Tk,aoL,E,A,y,D,H,f,u,M,ek,w2];refine⟨Z,B,⟨_,_,_,L⟩,b8,z,_,rfl,?_,?_⟩
   .rw[sj,<-k9,iM]at*;simp only[iM]at*;omega
   rw[sj,<-k9];exact gn
  have ad:x=2:=J;subst ad;have e2:(List.range 2).flatMap (DZ k a b c v p i)=FW k a b c v p i:=rfl;rw[e2]at yE gj;have qA:¬(((2:Nat):Int)<2):=aa;simp only[go_sem,aeN,aok,E,A,y,D,H,f,u,qA,w1];refine⟨T,B,L,b8,z,_,rfl,?_,?_⟩
  .rw[si,iM]at*;simp only[]at*;omega
  rw[si];exact gj
 have kh:i=2:=J;subst kh;have qA:¬(((2:Nat):Int)<2):=aa;simp only[go_sem,UH,aeX,N3,y,f,qA];exact⟨_,rfl,qN gi⟩
def Th{k:Int}{a b c:Nat}{v:Bool->Bool->Int->Int}{j m f:Bool}(hp:(j||m))(z:aC S 59 [g_ u,.one (.p (.int .u8 76))] (cK j))(y:aC S 59 [g_ u,.one (.p (.int .u8 79))] (cK m))(x:aC S 59 [g_ u,.one (.p (.int .u8 83))] (cK f))
  (H:∀(l o:Bool) (s:Int),aC S 20 [ic F h,c6 k a b c l o s] (fH (v l o s))):aC S 60 [ic F h,c6 k a b c false false 0,g_ u] (.one (bU l9 7 (cL (ua k a b c v f)))):=by
 suffices A:∃r,r=.one (bU l9 7 (cL (ua k a b c v f)))/\aC S 60 [ic F h,c6 k a b c false false 0,g_ u] r by obtain⟨r,rfl,n⟩:=A;exact n
 refine Ho rfl ahF (jg rfl) ?_;cases j<;>cases m<;>cases f
 all_goals first
  |cases hp
  |skip
 all_goals
  simp only[go_sem,N3,KW,cS z,cS y,cS x];first
   |refine apM (p:=true) (.inr rfl) H ?_ ?_ ?_ ?_ ?_ ?_ ?_ ?_ ?_ ?_
   |refine apM (.inl rfl) H ?_ ?_ ?_ ?_ ?_ ?_ ?_ ?_ ?_ ?_
  all_goals(simp only[go_sem];first|done|rfl|trace_state)
end
def Cn(B:Nat)(R:Nat->Nat->Nat->fh)(a b:Nat):fh:=(List.range B).flatMap (R a b)
def ED(O B:Nat)(R:Nat->Nat->Nat->fh)(a:Nat):fh:=(List.range O).flatMap (Cn B R a)
def JH(n O B:Nat)(R:Nat->Nat->Nat->fh):fh:=(List.range n).flatMap (ED O B R)
def atf(l:fh):gk 7 (cL l):=by unfold gk cL;simp[eU.ps]
section
variable {F:Nat} {h:ae}
def aG9{x:PV}(hx:x.norm=.sl (ki (dA F h))){k:Int}{G:Nat}(hN:N<=401)(an:O<=401)(Nc:B<=401)(qT:∀a b c:Nat,aC S 60 [ic F h,c6 k a b c false false 0,g_ u] (.one (bU l9 7 (cL (R a b c)))))(Z:∀a b c,I (R a b c)<=8){blk:aH}
  (E:j 1=ai k) (z:j 5=.one (.p .nils)) (H:j 6=g_ u) (A:j 7=.one (.aW 1344192128 G 0)) (y:j 8=ai N) (L:j 9=ai O) (m:j 10=ai B) (f:j 11=ai 0) (D:blk 1344192128=(G,some (.var [.p (.int .i64 F),.p (fz h),.p (.int .i64 (I h)),.p x]))):
  W S .all (.loop Jn) (oh 0 (vn S .all PG (rU .all Jy.results λw blk=>iD blk w=some (.one (bU l9 7 (cL (JH N O B R))))))) j blk:=by
 have lo:S.lone 1345344512:=ah;refine cZ (λa j blk=>j 1=ai k/\j 6=g_ u/\j 7=.one (.aW 1344192128 G 0)/\j 8=ai N/\j 9=ai O/\j 10=ai B/\j 11=ai a/\blk 1344192128=(G,some (.var [.p (.int .i64 F),.p (fz h),.p (.int .i64 (I h)),.p x]))/\ ∃Q,j 5=.one Q/\I ((List.range a).flatMap (ED O B R))<=1290000*a/\a_ 1345344576 l9 7 (cL ((List.range a).flatMap (ED O B R))) (.one Q) blk) 0 N (bj _) ⟨E,H,A,y,L,m,f,D,_,z,aG,a_.nil⟩ ?_;clear E z H A y L m f D;rintro a j blk ha ⟨E,H,A,y,L,m,f,D,ca,z,T,M⟩
 by_cases aw:a<N
 .have aL:((a:Int)<(N:Int)):=J;have w1:=cg (n:=a) J;have sa:=DB (ED O B R) a;generalize am:(List.range a).flatMap (ED O B R)=ea at*;simp only[go_sem,Jn,y,f,aL];refine cZ (λb j blk=>j 1=ai k/\j 6=g_ u/\j 7=.one (.aW 1344192128 G 0)/\j 8=ai N/\j 9=ai O/\j 10=ai B/\j 11=ai a/\j 12=ai b/\blk 1344192128=(G,some (.var [.p (.int .i64 F),.p (fz h),.p (.int .i64 (I h)),.p x]))/\ ∃Q,j 5=.one Q/\I (ea++(List.range b).flatMap (Cn B R a))<=1290000*a+3210*b/\a_ 1345344576 l9 7 (cL (ea++(List.range b).flatMap (Cn B R a))) (.one Q) blk) 0 O (bj _) ?_ ?_
  .simp only[go_sem,E,z,H,A,y,L,m,f,D];exact⟨rfl,_,rfl,by simpa using T,by simpa using M⟩
  clear E z H A y L m f D M T;rintro b j blk hb ⟨E,H,A,y,L,m,f,v,D,ca,z,T,M⟩
  by_cases tK:b<O
  .have Zu:((b:Int)<(O:Int)):=J;have w2:=cg (n:=b) J;have sb:=DB (Cn B R a) b;generalize ap:(List.range b).flatMap (Cn B R a)=eb at*;simp only[go_sem,Ox,L,v,Zu];refine cZ (λc j blk=>j 1=ai k/\j 6=g_ u/\j 7=.one (.aW 1344192128 G 0)/\j 8=ai N/\j 9=ai O/\j 10=ai B/\j 11=ai a/\j 12=ai b/\j 13=ai c/\blk 1344192128=(G,some (.var [.p (.int .i64 F),.p (fz h),.p (.int .i64 (I h)),.p x]))/\ ∃Q,j 5=.one Q/\I (ea++eb++(List.range c).flatMap (R a b))<=1290000*a+3210*b+8*c/\a_ 1345344576 l9 7 (cL (ea++eb++(List.range c).flatMap (R a b))) (.one Q) blk) 0 B (bj _) ?_ ?_
   .simp only[go_sem,E,z,H,A,y,L,m,f,v,D];exact⟨rfl,_,rfl,by simpa using T,by simpa using M⟩
   clear E z H A y L m f v D M T;rintro c j blk hc ⟨E,H,A,y,L,m,f,v,X,D,ca,z,T,M⟩
   by_cases Cj:c<B
   .have Zv:((c:Int)<(B:Int)):=J;have w3:=cg (n:=c) J;have sc:=DB (R a b) c;have pf:=qT a b c;have Kc:=Z a b c;have ad:=atf (R a b c);have eh:I (cL (R a b c))<=8:=by rw[xL];exact Kc
    generalize ar:(List.range c).flatMap (R a b)=Y at*;generalize nN:R a b c=qs at*;simp only[go_sem,O3,E,z,H,A,m,f,v,X,D,hx,Zv,ahS,dt pf (MD lo)];have eo:I (cL (ea++eb++Y))=I (ea++eb++Y):=ct ..;refine mO M (aju _) (.inr ad) J λc2 ak g1 cU=>?_;have Pa:=cU 1344192128 aa aa;rw[D]at Pa;simp only[go_sem,E,z,H,A,y,L,m,f,v,X,w3];refine⟨Cj,Pa,c2,rfl,?_,?_⟩
    .rw[sc,<-k9,iM];omega
    rw[sc,<-k9,show cL (ea++eb++Y++qs)=cL (ea++eb++Y)++cL qs by simp[cL]];exact g1
   have vU:c=B:=J;subst vU;have e2:(List.range c).flatMap (R a b)=Cn c R a b:=rfl;rw[e2]at T M;simp only[go_sem,O3,adV,E,z,H,A,y,L,m,f,v,X,ek,w2];refine⟨tK,D,_,rfl,?_,?_⟩
   .rw[sb,<-k9];omega
   rw[sb,<-k9];exact M
  have ag:b=O:=J;subst ag;have e2:(List.range b).flatMap (Cn B R a)=ED b B R a:=rfl;rw[e2]at T M;simp only[go_sem,Ox,Yi,E,z,H,A,y,L,m,f,v,ek,w1];refine⟨aw,D,_,rfl,?_,?_⟩
  .rw[sa];omega
  rw[sa];exact M
 have ab:a=N:=J;subst ab;simp only[go_sem,Jn,PG,Jy,z,y,f,ek];exact qN M
def NG(L:h=[]\/aU F h)(hl:I h<=400){k:Int}{pb pc:Bool}{f:Bool}(M:F<=40)(z:(k==2)=f)(n:aC S 58 [ai k] (zX u))(B:aC S 59 [g_ u,.one (.p (.int .u8 66))] (cK pb))(m:aC S 59 [g_ u,.one (.p (.int .u8 67))] (cK pc))(Q:∀a b c:Nat,aC S 60 [ic F h,c6 k a b c false false 0,g_ u] (.one (bU l9 7 (cL (R a b c)))))(H:∀a b c,I (R a b c)<=8):
  aC S 21 [c7 F h,ai k] (.one (bU l9 7 (cL (JH (max (I h) 1) (if f then F+1 else if pb then max (I h) 1 else 1) (if f then max (I h) 1+1 else if pc then max (I h) 1 else 1) R)))):=by
 obtain⟨x,r,y,A,rX⟩:=aiV L;have lo:S.lone 1344192064:=ah;obtain⟨N,hN⟩:∃N,max (I h) 1=N:=⟨_,rfl⟩;have j:(if(1:Int)>(I h:Int)then(1:Int)else(I h:Int))=(N:Int):=Fd
 have v:N<=400:=J;rw[hN];refine ba aiI ?_;have E:IntKind.i64.wrap ((F:Int)+1)=((F+1:Nat):Int):=cg J;have D:IntKind.i64.wrap ((N:Int)+1)=((N+1:Nat):Int):=cg J;cases f<;>cases pb<;>cases pc
 all_goals
  simp only[go_sem,Jy,Ti,Am n,tQ,dt A (rX _ _ lo),KW,cS B,cS m,z,j,E,D];refine aG9 (G:=1) y J ?_ ?_ Q H ?_ ?_ ?_ ?_ ?_ ?_ ?_ ?_ ?_;all_goals first
   |omega
   |(simp only[go_sem];first|done|rfl|trace_state)
end
def KK(x y:eU):Prop:=x.k<y.k\/(x.k=y.k/\E7 x y)
def ama{x y:eU}(h:KK x y):¬KK y x:=by
 unfold KK E7 qP at*
 grind
def ajY{R:eU->eU->Prop}(n:∀x y,R x y-> ¬R y x):∀ {A B:fh},A.Pairwise R->B.Pairwise R->(∀m,m∈A↔m∈B)->A=B:=by
 intro A
 induction A with
 |nil=>
  intro B _ _ h;cases B with
  |nil=>rfl
  |cons b B=>exact absurd ((h b).2 aG) aG
 |cons a A u=>
  intro B j H h;cases B with
  |nil=>exact absurd ((h a).1 aG) aG
  |cons b B=>
   rw[iR]at j H;have e:a=b:=by apply Classical.byContradiction;intro f;exact n _ _ (j.1 b ((dh.1 ((h b).2 aG)).resolve_left (Ne.symm f))) (H.1 a ((dh.1 ((h a).1 aG)).resolve_left f))
   grind
section
variable {n O B:Nat} {k:Int} {v:Nat->Nat->Nat->Int} {a b c:Nat} {m:eU}
def aaZ:m∈mV k v a b c↔v a b c=0/\m=⟨k,a,b,c,false,false,0⟩:=by grind [mV]
def adZ:m∈Da B k v a b↔ ∃c,c<B/\v a b c=0/\m=⟨k,a,b,c,false,false,0⟩:=by unfold Da;simp[qx,fU,aaZ]
def aeF:m∈CR O B k v a↔ ∃b c,b<O/\c<B/\v a b c=0/\m=⟨k,a,b,c,false,false,0⟩:=by
 unfold CR;simp only[qx,fU,adZ]
 grind
def amI:m∈Es n O B k v↔ ∃a b c,a<n/\b<O/\c<B/\v a b c=0/\m=⟨k,a,b,c,false,false,0⟩:=by
 unfold Es;simp only[qx,fU,aeF]
 grind
def alb(n O B:Nat)(k:Int)(v:Nat->Nat->Nat->Int):(Es n O B k v).Pairwise KK:=by
 refine acd.2 ⟨λa _=>?_,List.pairwise_lt_range.imp λh x f y H=>?_⟩
 .refine acd.2 ⟨λb _=>?_,List.pairwise_lt_range.imp λh x f y H=>?_⟩
  .refine acd.2 ⟨λc _=>?_,List.pairwise_lt_range.imp λh x f y H=>?_⟩
   .unfold mV;split
    .grind
    simp_all
   obtain⟨_,rfl⟩:=aaZ.1 f;obtain⟨_,rfl⟩:=aaZ.1 H;refine .inr ⟨rfl,.inr ⟨rfl,?_⟩⟩;unfold qP
   grind
  obtain⟨_,_,_,rfl⟩:=adZ.1 f;obtain⟨_,_,_,rfl⟩:=adZ.1 H;refine .inr ⟨rfl,.inr ⟨rfl,?_⟩⟩;unfold qP
  grind
 obtain⟨_,_,_,_,_,rfl⟩:=aeF.1 f;obtain⟨_,_,_,_,_,rfl⟩:=aeF.1 H;refine .inr ⟨rfl,.inl ?_⟩
 grind
end
section
variable {F:Nat} {L:ae}
abbrev WA(k:Int)(a b:Nat):eU:=⟨k,a,b,0,false,false,0⟩
abbrev ae8(k:Int)(a b c:Nat):eU:=⟨k,a,b,c,false,false,0⟩
def LP{k a b c sg:Int}{l o:Bool}(j:k=3\/k=6):dQ F L k a b c l o sg↔ ∃A B:Nat,A<B/\B<I L/\a=A/\b=B/\c=0/\l=false/\o=false/\sg=0:=by
 unfold dQ;rcases j with rfl|rfl
 all_goals
  simp;constructor
  .rintro ⟨rfl,rfl,rfl,f,rfl,h,m⟩
   obtain⟨A,rfl,n⟩:=eZ f;obtain⟨B,rfl,H⟩:=eZ h;exact⟨A,B,J,H,rfl,rfl,rfl,rfl,rfl,rfl⟩
  grind [ng]
def XH{a b c sg:Int}{l o:Bool}:dQ F L 8 a b c l o sg↔ ∃A B f:Nat,A<B/\B<f/\f<I L/\a=A/\b=B/\c=f/\l=false/\o=false/\sg=0:=by
 unfold dQ;simp only[Int.reduceEq,if_true,if_false,or_self,cF,gH,cW,fL];constructor
 .rintro ⟨rfl,rfl,rfl,H,h,m,x,n⟩
  obtain⟨A,rfl,v⟩:=eZ H;obtain⟨B,rfl,u⟩:=eZ h;obtain⟨f,rfl,j⟩:=eZ m;exact⟨A,B,f,J,J,j,rfl,rfl,rfl,rfl,rfl,rfl⟩
 grind [ng]
def afi{pl a b:Nat}{m:Int}(D:a<b)(h:pN F L pl [a,b] a)(af:∀j,j<2->lX m a (c8 F L (2*a+j)).bc Z)(H:m≠8):WA m a b∈Z:=by
 have n:∀f:cX,yU f pl [a,b]->lX m a f.bc Z->WA m a b∈Z:=λf hf af=>by
  unfold yU at hf;simp at hf;obtain⟨u,_,v⟩:=hf;have E:∀e∈[a,b],∃d∈f.bc,d/2=e:=λe x=>by grind [xW,zF]
  exact af.1 H b D u (E a aG) (E b aG)
 unfold pN at h;rw[nK]at h;rcases h with h|h
 .exact n _ h (af 0 aa)
 grind
def asm{pl a b c:Nat}(D:a<b)(n:b<c)(h:pN F L pl [a,b,c] a)(af:∀j,j<2->lX 8 a (c8 F L (2*a+j)).bc Z):ae8 8 a b c∈Z:=by
 have m:∀f:cX,yU f pl [a,b,c]->lX 8 a f.bc Z->ae8 8 a b c∈Z:=λf hf af=>by
  unfold yU at hf;simp at hf;obtain⟨H,_,u⟩:=hf;have E:∀e∈[a,b,c],∃d∈f.bc,d/2=e:=λe v=>by grind [xW,zF]
  exact af.2 rfl b c D n H (E a aG) (E b aG) (E c aG)
 unfold pN at h;rw[nK]at h;rcases h with h|h
 .exact m _ h (af 0 aa)
 grind
end
def aer{Y β:Type}{f:Y->β}{p:β->Bool}{g:Y->List β}:∀ {l:List Y},(∀a∈l,g a=if p (f a)then [f a]else [])->l.flatMap g=(l.map f).filter p
 |[],_=>rfl
 |a::l,h=>by rw[FY,fq,Tv,aer λx H=>h x (zb _ H),h a aG];split<;>simp
def TR{Y β:Type}{f g:Y->List β}:∀ {l:List Y},(∀a∈l,f a=g a)->l.flatMap f=l.flatMap g
 |[],_=>rfl
 |a::l,h=>by rw[FY,FY,TR λx H=>h x (zb _ H),h a aG]
section
variable {F:Nat} {h:ae}
def M_(n:okB F h m):dQ F h m.k m.a m.b m.c m.l m.o m.s/\ ∃M,lQ F h m.k m.a.toNat m.b.toNat m.c.toNat m.l m.o m.s=some M:=by
 obtain⟨M,H⟩:=WW.1 n;unfold rD at H;split at H
 .rename_i j;refine⟨j,?_⟩;cases f:lQ F h m.k m.a.toNat m.b.toNat m.c.toNat m.l m.o m.s with
  |none=>rw[f]at H;exact absurd H.symm (ald aa)
  |some L=>exact⟨L,rfl⟩
 grind
def YQ(g:aU F h)(f:I h<=40)(k:Int):∃v:Nat->Nat->Nat->Int,∀a b c:Nat,aC S 20 [ic F h,c6 k a b c false false 0] (fH (v a b c))/\(v a b c=0↔okB F h ⟨k,a,b,c,false,false,0⟩=true):=
 ⟨λa b c=>Classical.choose _,λa b c=>Classical.choose_spec (ai4 g f k a b c false false 0)⟩
def afn(g:aU F h)(f:I h<=40)(k:Int):∃v:Nat->Nat->Nat->Bool->Bool->Int->Int,∀(a b c:Nat) (l o:Bool) (s:Int),aC S 20 [ic F h,c6 k a b c l o s] (fH (v a b c l o s))/\(v a b c l o s=0↔okB F h ⟨k,a,b,c,l,o,s⟩=true):=
 ⟨λa b c l o s=>Classical.choose _,λa b c l o s=>Classical.choose_spec (ai4 g f k a b c l o s)⟩
def P6(g:aU F h):max (I h) 1=I h:=by have:=g.pos;omega
def Tz(g:aU F h)(m:I h<=40){k:Int}(n:k=1\/k=4\/k=9\/k=10):aC S 21 [c7 F h,ai k] (.one (bU l9 7 (cL ((xf (I h) k).filter (okB F h))))):=by
 obtain⟨v,f⟩:=YQ g m k;have j:=P6 g;have e:Es (I h) 1 1 k v=(xf (I h) k).filter (okB F h):=by
  refine aer λa _=>?_;have E:CR 1 1 k v a=mV k v a 0 0:=by simp[CR,Da]
  rw[E];unfold mV;by_cases H:v a 0 0=0
  .rw[aI H];exact(aI ((f a 0 0).2.1 H)).symm
  rw[aE H];exact(aE λe=>H ((f a 0 0).2.2 e)).symm
 rw[<-e];rcases n with rfl|rfl|rfl|rfl
 .grind [y_,abe,En,FD,D8,FL]
 .have H:=y_ (.inr g) g.len aa acq En FD D8 FL λa b c=>(f a b c).1;rw[j]at H;exact H
 .have H:=y_ (.inr g) g.len aa ab8 En FD D8 FL λa b c=>(f a b c).1;rw[j]at H;exact H
 have H:=y_ (.inr g) g.len aa X_ En FD D8 FL λa b c=>(f a b c).1;rw[j]at H;exact H
def axT{k:Int}{M:fh}(h:M.Pairwise E7)(H:∀m∈M,m.k=k):M.Pairwise KK:=h.imp_of_mem λj f hl=>.inr ⟨by rw[H _ j,H _ f],hl⟩
theorem aqn(g:aU F h)(x:m.k=3\/m.k=6\/m.k=8)(z:okB F h m)(n:Wx F h m.k Z):m∈Z/\ ∃a b c:Nat,a<I h/\b<I h/\c<I h/\(m.k=8\/c=0)/\m=⟨m.k,a,b,c,false,false,0⟩:=by
 obtain⟨k,a,b,c,l,o,sg⟩:=m;obtain⟨j,P,H⟩:=M_ z;have hp:=g.pos;simp only at j H n x |-;rcases x with rfl|rfl|rfl
 .obtain⟨A,B,D,u,rfl,rfl,rfl,rfl,rfl,rfl⟩:=(LP (.inl rfl)).1 j;have H:sE F h A B=some P:=H;unfold sE at H;split at H
  case isFalse=>cases H
  rename_i f;simp only[cF]at f;exact⟨afi D f.2.2.2.2 (n.2 (.inl rfl) A J) aa,A,B,0,J,u,hp,.inr rfl,rfl⟩
 .obtain⟨A,B,D,u,rfl,rfl,rfl,rfl,rfl,rfl⟩:=(LP (.inr rfl)).1 j;have H:sV F h A B=some P:=H;unfold sV at H;split at H
  case isFalse=>cases H
  rename_i f;simp only[cF]at f;exact⟨afi D f.2.2.2.2.2 (n.2 (.inr (.inl rfl)) A J) aa,A,B,0,J,u,hp,.inr rfl,rfl⟩
 obtain⟨A,B,v,D,y,E,rfl,rfl,rfl,rfl,rfl,rfl⟩:=XH.1 j;have H:uA F h A B v=some P:=H;unfold uA at H;split at H
 case isFalse=>cases H
 rename_i f;unfold G9 at f;simp only[cF]at f;exact⟨asm D y f.2.2.2.2.2 (n.2 (.inr (.inr rfl)) A J),A,B,v,J,J,E,.inl rfl,rfl⟩
def adL(g:aU F h)(u:I h<=40)(cG:Mm F h T){k:Int}(n:k=3\/k=6\/k=8):aC S 21 [c7 F h,ai k] (.one (bU l9 7 (cL ((T k).filter (okB F h))))):=by
 obtain⟨v,H⟩:=YQ g u k;have j:=P6 g;obtain⟨D,L,c4⟩:=cG.three k n;have E:∀m∈T k,m.k=k:=λm A=>by obtain⟨a,_,z⟩:=D m A;exact z.1
 have e:∀ {B:Nat},B=(if k=8 then I h else 1)->Es (I h) (I h) B k v=(T k).filter (okB F h):=by
  intro B N;refine ajY (λx y=>ama) (alb ..) ((axT c4 E).filter _) λm=>?_;rw[amI,rv]
  grind [aqn]
 rcases n with rfl|rfl|rfl
 .have f:=y_ (.inr g) g.len aa abt Ru OW Sn Oc λa b c=>(H a b c).1
  grind
 .have f:=y_ (.inr g) g.len aa acs Ru OW Sn Oc λa b c=>(H a b c).1;rw[j]at f;rw[<-e rfl];exact f
 have f:=y_ (.inr g) g.len aa aak RY O4 PI Q3 λa b c=>(H a b c).1;rw[j]at f;rw[<-e rfl];exact f
def asL(k:Nat):(Ew F h k).Pairwise λx y=>oD x y=true:=by
 refine aDA (λx y j A=>?_) (λx y z f H=>?_) (λx y f H=>?_) _ (ahZ _)
 .rw[Bz]at j;rw[PC]
  grind
 .rw[Bz]at*;omega
 rw[Bz]at*;exact Prod.ext J J
def aoa:∀n:Nat,(uD F h n).Pairwise KK/\ ∀m∈uD F h n,m.k=2/\m.a<(n:Int)
 |0=>⟨List.Pairwise.nil,λm H=>by cases H⟩
 |n+1=>by
  obtain⟨A,f⟩:=aoa n;rw[afG];refine⟨BD.2 ⟨A,?_,λx u y j=>?_⟩,λm v=>?_⟩
  .rw[BG];refine(asL n).imp λ{x y} H=>?_;rw[PC]at H;refine .inr ⟨rfl,.inr ⟨rfl,?_⟩⟩;unfold qP SW;simp only[nK,cF,fL];exact H
  .obtain⟨z,_,rfl⟩:=c_.1 j;obtain⟨E,B⟩:=f x u;exact .inr ⟨E,.inl B⟩
  rcases iI.1 v with H|H
  .have:=f m H;exact⟨this.1,J⟩
  obtain⟨z,_,rfl⟩:=c_.1 H;exact⟨rfl,by show(n:Int)<_;omega⟩
def aoJ{k b c:Nat}(H:(b,c)∈(c8 F h (2*k)).places\/(b,c)∈(c8 F h (2*k+1)).places):((b:Int),(c:Int))∈Ew F h k:=by
 unfold Ew;rw[akH,(aeu oD _).mem_iff];refine c_.2 ⟨(b,c),?_,rfl⟩;rcases H with H|H
 .exact qx.2 ⟨0,aG,H⟩
 exact qx.2 ⟨1,aG,H⟩
def aEz(g:aU F h)(D:I h<=40):aC S 21 [c7 F h,ai 2] (.one (bU l9 7 (cL ((uD F h (I h)).filter (okB F h))))):=by
 obtain⟨v,n⟩:=YQ g D 2;have e:Es (I h) (F+1) (I h+1) 2 v=(uD F h (I h)).filter (okB F h):=by
  refine ajY (λx y=>ama) (alb ..) ((aoa _).1.filter _) λm=>?_;rw[amI,rv];constructor
  .rintro ⟨a,b,c,j,L,Y,E,rfl⟩
   have A:=(n a b c).2.1 E;obtain⟨_,M,u⟩:=M_ A;refine⟨qx.2 ⟨a,fU.2 j,c_.2 ⟨((b:Int),(c:Int)),aoJ ?_,rfl⟩⟩,A⟩;have u:o_ F h a b c=some M:=u
   grind [o_]
  rintro⟨f,A⟩
  obtain⟨a,j,f⟩:=qx.1 f;obtain⟨x,O,rfl⟩:=c_.1 f;obtain⟨H,_⟩:=M_ A;have H:dQ F h 2 a x.1 x.2 false false 0:=H;unfold dQ at H;simp only[if_true,cF,fL]at H;obtain⟨_,_,_,_,z,X,B,N⟩:=H;have Q:=ny (jw x.1.toNat) h;refine⟨a,x.1.toNat,x.2.toNat,fU.1 j,J,?_,(n _ _ _).2.2 ?_,?_⟩
  .simp only[aZ]at N;omega
  .rw[Hy z,Hy B];exact A
  rw[Hy z,Hy B];rfl
 rw[<-e];have T:=NG (.inr g) g.len g.fing (f:=true) aa YY RY O4 (R:=mV 2 v) (λa b c=>abu PI Q3 (n a b c).1) (λa b c=>by unfold mV;split<;>simp);rwa[P6 g]at T
def arT(g:aU F h)(m:I h<=40):aC S 21 [c7 F h,ai 5] (.one (bU l9 7 (cL ((sn (I h)).filter (okB F h))))):=by
 obtain⟨v,j⟩:=afn g m 5;have u:=P6 g;have e:JH (I h) 1 1 (λa b c=>ua 5 a b c (v a b c) true)=(sn (I h)).filter (okB F h):=by
  rw[sn,aal];refine TR λa _=>?_;have E:ED 1 1 (λa b c=>ua 5 a b c (v a b c) true) a=ua 5 a 0 0 (v a 0 0) true:=by simp[ED,Cn]
  rw[E];have n:∀(o:Bool) (s:Int),v a 0 0 true o s≠0:=λo s y=>by have H:=(M_ ((j a 0 0 true o s).2.1 y)).1;have H:=H;unfold dQ at H;simp at H
  have A:(List.range 4).map (Lw a)=[⟨5,a,0,0,false,false,-1⟩,⟨5,a,0,0,false,false,1⟩,⟨5,a,0,0,false,true,-1⟩,⟨5,a,0,0,false,true,1⟩]:=rfl;have x:ua 5 a 0 0 (v a 0 0) true=(kB 5 a 0 0 (v a 0 0) false false (-1)++kB 5 a 0 0 (v a 0 0) false false 1++(kB 5 a 0 0 (v a 0 0) false true (-1)++kB 5 a 0 0 (v a 0 0) false true 1)):=by have z:∀(o:Bool) (s:Int),kB 5 a 0 0 (v a 0 0) true o s=[]:=λo s=>aE (n o s);show((kB 5 a 0 0 (v a 0 0) false false (-1)++(kB 5 a 0 0 (v a 0 0) false false 1++[]))++((kB 5 a 0 0 (v a 0 0) false true (-1)++(kB 5 a 0 0 (v a 0 0) false true 1++[]))++[]))++(((kB 5 a 0 0 (v a 0 0) true false (-1)++(kB 5 a 0 0 (v a 0 0) true false 1++[]))++((kB 5 a 0 0 (v a 0 0) true true (-1)++(kB 5 a 0 0 (v a 0 0) true true 1++[]))++[]))++[])=_;simp only[z,j_]
  have f:∀(o:Bool) (s:Int),kB 5 a 0 0 (v a 0 0) false o s=if okB F h ⟨5,a,0,0,false,o,s⟩then [⟨5,a,0,0,false,o,s⟩]else []:=λo s=>by grind [kB]
  rw[x,A,f,f,f,f];simp only[Tv,List.filter_nil];cases okB F h ⟨5,a,0,0,false,false,-1⟩<;>cases okB F h ⟨5,a,0,0,false,false,1⟩<;>cases okB F h ⟨5,a,0,0,false,true,-1⟩<;>cases okB F h ⟨5,a,0,0,false,true,1⟩<;>rfl
 rw[<-e];have y:=NG (.inr g) g.len g.fing (f:=false) aa aab abQ Ya (λa b c=>Th rfl adU aa5 acw λl o s=>(j a b c l o s).1) (λa b c=>TA ..);rwa[u]at y
def axu(g:aU F h)(j:I h<=40):aC S 21 [c7 F h,ai 7] (.one (bU l9 7 (cL ((jR (I h) (I h)).filter (okB F h))))):=by
 obtain⟨v,x⟩:=afn g j 7;have H:=P6 g;have e:JH (I h) (I h) 1 (λa b c=>ua 7 a b c (v a b c) false)=(jR (I h) (I h)).filter (okB F h):=by
  rw[jR,aal];refine TR λa _=>?_;rw[Bv,aal];refine TR λb _=>?_;have E:Cn 1 (λa b c=>ua 7 a b c (v a b c) false) a b=ua 7 a b 0 (v a b 0) false:=by simp[Cn]
  rw[E];have m:ua 7 a b 0 (v a b 0) false=(kB 7 a b 0 (v a b 0) false false 0++kB 7 a b 0 (v a b 0) false true 0)++(kB 7 a b 0 (v a b 0) true false 0++kB 7 a b 0 (v a b 0) true true 0):=by show((kB 7 a b 0 (v a b 0) false false 0++[])++((kB 7 a b 0 (v a b 0) false true 0++[])++[]))++(((kB 7 a b 0 (v a b 0) true false 0++[])++((kB 7 a b 0 (v a b 0) true true 0++[])++[]))++[])=_;simp only[j_]
  have f:∀(l o:Bool),kB 7 a b 0 (v a b 0) l o 0=if okB F h ⟨7,a,b,0,l,o,0⟩then [⟨7,a,b,0,l,o,0⟩]else []:=λl o=>by grind [kB]
  rw[m,f,f,f,f];unfold wP;by_cases D:b=a
  .subst D;rw[aI rfl];have n:∀l o:Bool,okB F h ⟨7,b,b,0,l,o,0⟩=false:=λl o=>by
    cases u:okB F h ⟨7,b,b,0,l,o,0⟩with
    |false=>rfl
    |true=>
     have z:=(M_ u).1
     grind [dQ]
   rw[n,n,n,n];rfl
  rw[aE D];have y:(List.range 4).map (V8 a b)=[⟨7,a,b,0,false,false,0⟩,⟨7,a,b,0,false,true,0⟩,⟨7,a,b,0,true,false,0⟩,⟨7,a,b,0,true,true,0⟩]:=rfl;rw[y];simp only[Tv,List.filter_nil];cases okB F h ⟨7,a,b,0,false,false,0⟩<;>cases okB F h ⟨7,a,b,0,false,true,0⟩<;>cases okB F h ⟨7,a,b,0,true,false,0⟩<;>cases okB F h ⟨7,a,b,0,true,true,0⟩<;>rfl
 rw[<-e];have u:=NG (.inr g) g.len g.fing (f:=false) aa aco aec XB (λa b c=>Th rfl aat ZE XM λl o s=>(x a b c l o s).1) (λa b c=>TA ..);rwa[H]at u
def aty(g:aU F h)(f:I h<=40)(cG:Mm F h T){k:Nat}(j:k<10):aC S 21 [c7 F h,ai ((k+1:Nat):Int)] (.one (bU l9 7 (cL ((T ((k+1:Nat):Int)).filter (okB F h))))):=by
 rcases k with _|_|_|_|_|_|_|_|_|_|k
 .have H:=Tz g f (k:=1) aa;rw[<-cG.one 1 aa]at H;exact H
 .have H:=aEz g f;rw[<-cG.two]at H;exact H
 .exact adL g f cG aa
 .have H:=Tz g f (k:=4) aa;rw[<-cG.one 4 aa]at H;exact H
 .have H:=arT g f;rw[<-cG.five]at H;exact H
 .exact adL g f cG aa
 .have H:=axu g f;rw[<-cG.seven]at H;exact H
 .exact adL g f cG aa
 .have H:=Tz g f (k:=9) aa;rw[<-cG.one 9 aa]at H;exact H
 .have H:=Tz g f (k:=10) aa;rw[<-cG.one 10 aa]at H;exact H
 omega
end
def Fj(F:Nat):fh:=(List.range (F+1)).map λi=>⟨2,0,(i:Nat),0,false,false,0⟩
def aCR(F:Nat):cL (Fj F)=Gk (F+1):=by rw[cL,Fj,kU];rfl
def aHw(F:Nat):I (Fj F)=F+1:=by simp[Fj]
def Rw(F:Nat)(k:Int):fh:=if k=2 then Fj F else []
def SU(F:Nat):Rw F 2=Fj F:=aI rfl
def AQ{k:Int}(h:k≠2):Rw F k=[]:=aE h
section
variable {F:Nat}
def aFt(k a b c:Int)(l o:Bool)(sg:Int):∃v,aC S 20 [ic F [],c6 k a b c l o sg] (fH v)/\(v=0↔dQ F [] k a b c l o sg=true):=by
 have pw:=RC (F:=F) (h:=[]) (bj _) k a b c l o sg;cases H:dQ F [] k a b c l o sg with
 |false=>rw[H]at pw;refine⟨_,HL (p:=false) (bj _) pw (λf=>by cases f),?_⟩;unfold JJ;simp
 |true=>rw[H]at pw;obtain⟨B,rfl,rfl,rfl,j,rfl,rfl,rfl,rfl⟩:=Mi H;refine⟨_,HL (bj _) pw λ_=>aoP,?_⟩;exact⟨λ_=>rfl,λ_=>by unfold JJ CI;simp[aq]⟩
def Wa(k:Int):∃v:Nat->Nat->Nat->Bool->Bool->Int->Int,∀(a b c:Nat) (l o:Bool) (s:Int),aC S 20 [ic F [],c6 k a b c l o s] (fH (v a b c l o s))/\(v a b c l o s=0↔dQ F [] k a b c l o s=true):=
 ⟨λa b c l o s=>Classical.choose _,λa b c l o s=>Classical.choose_spec (aFt k a b c l o s)⟩
theorem ac0{k a b c:Int}{l o:Bool}{sg:Int}(h:k≠2):dQ F [] k a b c l o sg≠true:=λH=>h (Mi H).choose_spec.1
def H2{k:Int}(f:k=1\/k=3\/k=4\/k=6\/k=8\/k=9\/k=10):aC S 21 [c7 F [],ai k] (.one (bU l9 7 (cL []))):=by
 obtain⟨v,H⟩:=Wa k;have j:k≠2:=J;have e:∀a b c:Nat,mV k (λa b c=>v a b c false false 0) a b c=[]:=λa b c=>aE λh=>ac0 j ((H a b c false false 0).2.1 h);have E:Es 1 1 1 k (λa b c=>v a b c false false 0)=[]:=by show((mV k _ 0 0 0++[])++[])++[]=[];rw[e];rfl
 rw[<-E];rcases f with rfl|rfl|rfl|rfl|rfl|rfl|rfl
 .exact y_ (.inl rfl) (bj _) aa abe En FD D8 FL λa b c=>(H a b c false false 0).1
 .exact y_ (.inl rfl) (bj _) aa abt Ru OW Sn Oc λa b c=>(H a b c false false 0).1
 .exact y_ (.inl rfl) (bj _) aa acq En FD D8 FL λa b c=>(H a b c false false 0).1
 .exact y_ (.inl rfl) (bj _) aa acs Ru OW Sn Oc λa b c=>(H a b c false false 0).1
 .exact y_ (.inl rfl) (bj _) aa aak RY O4 PI Q3 λa b c=>(H a b c false false 0).1
 .exact y_ (.inl rfl) (bj _) aa ab8 En FD D8 FL λa b c=>(H a b c false false 0).1
 exact y_ (.inl rfl) (bj _) aa X_ En FD D8 FL λa b c=>(H a b c false false 0).1
theorem ajy{k:Int}{a b c:Nat}{v:Bool->Bool->Int->Int}{p:Bool}(h:∀l o s,v l o s≠0):ua k a b c v p=[]:=by unfold ua FW DZ kB;simp[h]
def aoI(f:F<=40):aC S 21 [c7 F [],ai 5] (.one (bU l9 7 (cL [])))/\aC S 21 [c7 F [],ai 7] (.one (bU l9 7 (cL []))):=by
 constructor
 .obtain⟨v,H⟩:=Wa 5;have e:JH 1 1 1 (λa b c=>ua 5 a b c (v a b c) true)=[]:=by
   show((ua 5 0 0 0 _ true++[])++[])++[]=[]
   grind [ajy,ac0]
  have h:=NG (.inl rfl) (bj _) f (f:=false) aa aab abQ Ya (λa b c=>Th rfl adU aa5 acw λl o s=>(H a b c l o s).1) (λa b c=>TA ..);rw[<-e];exact h
 obtain⟨v,H⟩:=Wa 7;have e:JH 1 1 1 (λa b c=>ua 7 a b c (v a b c) false)=[]:=by
  show((ua 7 0 0 0 _ false++[])++[])++[]=[]
  grind [ajy,ac0]
 have h:=NG (.inl rfl) (bj _) f (f:=false) aa aco aec XB (λa b c=>Th rfl aat ZE XM λl o s=>(H a b c l o s).1) (λa b c=>TA ..);rw[<-e];exact h
def aiq{b c:Nat}(h:b<=F):dQ F [] 2 (0:Nat) b c false false 0↔c=0:=by
 constructor
 .grind [Mi]
 rintro rfl
 unfold dQ;simp[ng,aZ,aq];omega
def auS(j:F<=40):aC S 21 [c7 F [],ai 2] (.one (bU l9 7 (cL (Fj F)))):=by
 obtain⟨v,H⟩:=Wa (F:=F) 2;have e:JH 1 (F+1) 2 (mV 2 λa b c=>v a b c false false 0)=Fj F:=by
  show(ED _ 2 _ 0++[])=_;rw[j_];have h:=aer (p:=λ_=>true) (g:=Cn 2 (mV 2 λa b c=>v a b c false false 0) 0) (l:=List.range (F+1)) λb f=>by have f:=fU.1 f;show(mV 2 _ 0 b 0++(mV 2 _ 0 b 1++[]))=_;unfold mV;rw[aI ((H 0 b 0 false false 0).2.2 ((aiq J).2 rfl)),aE (λh=>absurd ((aiq J).1 ((H 0 b 1 false false 0).2.1 h)) aa)];rfl
  exact h.trans (by simp[Fj])
 rw[<-e];exact NG (.inl rfl) (bj _) j (f:=true) aa YY RY O4 (R:=mV 2 λa b c=>v a b c false false 0) (λa b c=>abu PI Q3 (H a b c false false 0).1) (λa b c=>by unfold mV;split<;>simp)
theorem aza(h:F<=40){k:Nat}(H:k<10):aC S 21 [c7 F [],ai ((k+1:Nat):Int)] (.one (bU l9 7 (cL (Rw F ((k+1:Nat):Int))))):=by
 rcases k with _|_|_|_|_|_|_|_|_|_|k
 .exact aIQ
 .exact auS h
 .exact aIQ
 .exact aIQ
 .rw[AQ aa];exact(aoI h).1
 .exact aIQ
 .rw[AQ aa];exact(aoI h).2
 .exact aIQ
 .exact aIQ
 .rw[AQ aa];exact H2 aa
 omega
end
section
variable {F:Nat} {L X:ae} {P Q:bK}
def H6(l:bK)(ids:cT):pV l ids=(l.filter λp=> !((p.l.kind==2)&&ids.contains p.l.id)).map (kY ids):=by show(mK l _).map _=_;have:=X2 (l:=l) (drop:=qH ids) λ_ _=>rfl;rw[this]
def gI.pV{l m:bK}(h:gI l m)(ids:cT):gI (pV l ids) (pV m ids):=by rw[H6,H6];exact(h.filter _).map _
theorem ayh(ids:cT)(p:aQ):(kY ids p).l.ay=p.l.ay/\(kY ids p).d=p.d:=by unfold kY kW U.ay;split<;>exact⟨rfl,rfl⟩
def axv{ids:cT}{l:bK}(h:∀p∈l,p.l.ay=false->p.d=false):∀p∈pV l ids,p.l.ay=false->p.d=false:=by
 intro p hp D;rw[H6]at hp;obtain _:=c_.1 hp
 grind [ayh]
def alk(l x:bK)(k:Nat):gI (x++(l.drop (k+1)++l.take (k+1))) (fe l x k):=⟨x++l.drop (k+1),l.take (k+1),aG,by unfold fe;simp⟩
def RS(l:bK)(k:Nat):gI l (l.drop k++l.take k):=⟨l.take k,l.drop k,(mW k l).symm,rfl⟩
def BF(g:aU F L){p:aQ}(h:p∈aJ L)(H:p.l.au):1<=p.l.id/\p.l.id<=((aq U.au L/2:Nat):Int):=by rw[<-vH]at h;obtain⟨x,f,rfl⟩:=c_.1 h;have:=(g.cz).ids x f H;rwa[jG]at this
def agW{ids:cT}{p:aQ}(h:p.l.au->∀i∈ids,¬i<p.l.id):kY ids p=p:=by
 unfold kY;split
 .rename_i f;unfold kW;have:(ids.take (I ids)).countP (λi=>decide (i<p.l.id))=0:=R4.2 λi H=>by
   rw[lN]at H
   simpa using h f i H
  rw[this]
  grind
 rfl
def azf(g:aU F L){ids:cT}{z w:bK}(h:gI (aJ L) w)(u:∀p∈z,p.l.au/\p.l.id∈ids)(H:∀i∈ids,((aq U.au L/2:Nat):Int)<i){m:bK}(n:m.Perm (z++w))(af:m.filter (λp=> !((p.l.kind==2)&&ids.contains p.l.id))=w):pV m ids=w:=by rw[H6,af];refine(s7 λp hp=>agW λf i j=>?_).trans (List.map_id _);have:=(BF g (h.perm.mem_iff.2 hp) f).2;have:=H i j;omega
def X1(g:aU F L){ids:cT}(H:∀i∈ids,((aq U.au L/2:Nat):Int)<i){p:aQ}(hp:p∈aJ L):(!((p.l.kind==2)&&ids.contains p.l.id)):=by
 cases h:p.l.kind==2 with
 |false=>rfl
 |true=>
  have:=(BF g hp h).2
  grind
def Pn{ids:cT}{p:aQ}(H:p.l.kind=2)(h:p.l.id∈ids):(!((p.l.kind==2)&&ids.contains p.l.id))=false:=by grind
def X5{a b c sg:Int}{l o:Bool}:dQ F L 5 a b c l o sg↔ ∃A:Nat,A<I L/\a=A/\b=0/\c=0/\l=false/\(sg=1\/sg= -1):=by
 unfold dQ;simp;constructor
 .rintro ⟨rfl,af,h,rfl,rfl⟩
  obtain _:=eZ h
  grind
 rintro⟨A,H,rfl,rfl,rfl,rfl,af⟩
 exact⟨rfl,af,by unfold ng;simp;omega,rfl,rfl⟩
def azy(g:aU F L){a:Nat}(m:a<I L){sg:Int}{o:Bool}(af:sg=1\/sg= -1)(v:fP (F:Int) (ch (u_ L a sg o))=0):∃A Q,A<I (ch (u_ L a sg o))/\wS (ch (u_ L a sg o)) A=some Q/\aU F (ch (u_ L a sg o))/\my (ch Q) L:=by
 have n:∀p∈u_ L a sg o,p.l.ay=false->p.d=false:=λp hp D=>by
  unfold u_ fe at hp;simp only[iI,dh,e_,or_false]at hp
  grind [Aj]
 obtain⟨c3,r1⟩:=Ln (Z6 g m (o:=o) af) v n;have R:=(alk (aJ L) [⟨⟨2,0,0,((aq U.au L/2+1:Nat):Int),sg,o⟩,false⟩,⟨⟨2,0,0,((aq U.au L/2+1:Nat):Int),sg,!o⟩,false⟩] a).trans r1;have r0:=RS (aJ L) (a+1);generalize ch (u_ L a sg o)=X at*;generalize(aJ L).drop (a+1)++(aJ L).take (a+1)=w at r0 R;obtain⟨A,f,u,H,_⟩:=R.at2;rw[dI]at f H;have h:∀i∈[((aq U.au L/2+1:Nat):Int)],((aq U.au L/2:Nat):Int)<i:=λi h=>by rw[nI]at h;subst h;omega
 have j:wS X A=some (pV (aJ X) [((aq U.au L/2+1:Nat):Int)]):=by
  unfold wS
  grind
 refine⟨A,_,f,j,c3,VT g (acg c3 f j) (r0.trans ?_)⟩;have:=R.pV [((aq U.au L/2+1:Nat):Int)];rw[azf g r0 (λp hp=>by simp only[dh,e_,or_false]at hp;rcases hp with rfl|rfl<;>exact⟨rfl,nI.2 rfl⟩) h (LJ _) ?_]at this
 .exact this
 rw[B2,B2,gM,Jq,Jq]
 .exact JE λp hp=>X1 g h (r0.perm.mem_iff.2 hp)
 .grind
 rw[Pn rfl (nI.2 rfl)];decide
theorem OE{l:U}{F:Int}(H:l.au)(h:eK F l=false):l=⟨2,0,0,l.id,l.sign,l.over⟩/\(l.sign=1\/l.sign= -1):=by
 obtain _:=(Lb H).1 h;have j:l.kind=2:=by unfold U.au at H;exact cW.1 H
 obtain⟨k,f,r,i,s,o⟩:=l
 grind
def arO(g:aU F L){a:Nat}(ha:a<I L)(h:wS L a=some P)(vX:fP (F:Int) (ch P)=0):∃N sg o,N<I (ch P)/\(sg=1\/sg= -1)/\aU F (ch P)/\I (ch P)+2=I L/\aq U.au (ch P)+2=aq U.au L/\my (ch (u_ (ch P) N sg o)) L:=by
 have jR:=acg g ha h;obtain⟨x,y,r,s,e,Z,hy,c,hp,tL,_,_,ji⟩:=St g ha;have q:=c.q;unfold wS at h;have e1:(aJ L).getD a ⟨jJ,false⟩=x.p:=by rw[dM,Z];rfl
 have e2:(aJ L).getD ((a+1)%I L) ⟨jJ,false⟩=y.p:=by rw[dM,hy];rfl
 simp only[e1,e2]at h;split at h
 case isFalse=>cases h
 rename_i hc;simp only[cF,cW]at hc;obtain⟨jm,E,H⟩:=hc;have m:x.k.au:=by rw[Hb];simp[jm]
 have f:y.k.au:=by rw[Hb];simp[E]
 have uj:=H;cases h;have Ky:=afp q m f uj;have jF:=(iR.1 q.cr).1 y aG m f uj;have r0:gI (aJ L) ((x::y::r).map aR.p):=aH4
 have nQ:∀p,p∈(x::y::r).map aR.p↔p∈aJ L:=λp=>r0.perm.symm.mem_iff;obtain⟨c3,r1⟩:=Ln jR vX (axv λp hp=>Aj hp);have R:=(r0.symm.pV [x.p.l.id]).trans r1;have zJ:pV ((x::y::r).map aR.p) [x.p.l.id]=(r.map aR.p).map (kY [x.p.l.id]):=by
  rw[H6,fq,fq,Jq,Jq]
  .rw[JE];intro p hp;obtain⟨w,D,rfl⟩:=c_.1 hp;cases n:w.p.l.kind==2 with
   |false=>rfl
   |true=>
    have:=Ky w D n;have:[x.p.l.id].contains w.p.l.id=false:=by simpa using this
    rw[this];rfl
  .rw[Pn E (by rw[<-H];exact nI.2 rfl)];decide
  rw[Pn jm (nI.2 rfl)];decide
 rw[zJ]at R;have Fe:r≠[]:=λe=>by
  obtain⟨z,B,T⟩:=c.one;rw[e]at B;simp only[dh,e_,or_false]at B;rcases B with rfl|rfl
  .rw[oV T]at m;cases m
  rw[oV T]at f;cases f
 have Q:I L=I r+2:=ol
 have vT:I (ch (pV (aJ L) [x.p.l.id]))+2=I L:=by have:=R.len;rw[dI,ct,ct]at this;omega
 have M:aq U.au (ch (pV (aJ L) [x.p.l.id]))+2=aq U.au L:=by
  have e3:aq U.au L=aq U.au (aO (x::y::r)):=aH9
  rw[e3,eY,eY,(lK m).1,(lK f).1];rw[<-EM U.au];show List.countP _ (List.map _ _)+2=1+(1+List.countP _ (List.map _ _));rw[sF,sF];have:∀p,(kY [x.p.l.id] p).l.au=p.l.au:=λp=>by unfold U.au;rw[adI]
  have e5:((r.map aR.p).map (kY [x.p.l.id])).countP (λp=>p.l.au)=r.countP (U.au ∘ aR.k):=by rw[sF,sF];exact BM λz _=>by simp only[Function.comp_apply];rw[this]
  have e6:(aJ (ch (pV (aJ L) [x.p.l.id]))).countP (U.au ∘ aQ.l)=r.countP (U.au ∘ aR.k):=by rw[<-e5,R.perm.countP_eq (λp=>p.l.au)];rfl
  omega
 generalize ch (pV (aJ L) [x.p.l.id])=X at*;obtain⟨k,n,_,_,Ij⟩:=R.ins (by simp[Fe]);rw[dI]at n;have O:=a8 Z;have A:=a8 hy;obtain⟨lx,Y⟩:=OE m (g.bad x.k (by obtain⟨i,l,hl,e⟩:=RQ O;rw[show x.k=l from congrArg aQ.l e];exact a8 hl));obtain⟨ly,_⟩:=OE f (g.bad y.k (by obtain⟨i,l,hl,e⟩:=RQ A;rw[show y.k=l from congrArg aQ.l e];exact a8 hl));refine⟨k,x.k.sign,x.k.over,n,Y,c3,vT,M,?_⟩;have cQ:=Z6 c3 n (o:=x.k.over) Y;have hK:((aq U.au X/2+1:Nat):Int)=((aq U.au L/2:Nat):Int):=J;have ab:=BF g O m;refine abT g (h:=λid=>if id=x.p.l.id then((aq U.au L/2:Nat):Int)else if x.p.l.id<id then id-1 else id) ?_ cQ ?_
 .intro u hu v hv ku kv e;obtain⟨i,hi⟩:=gJ hu;obtain⟨j,hj⟩:=gJ hv;have bu:=BF g (a8 (gX hi)) (by rw[Hb];simp[ku]);have bv:=BF g (a8 (gX hj)) (by rw[Hb];simp[kv]);simp only at bu bv e;split at e<;>split at e<;>(try split at e)<;>(try split at e)<;>omega
 refine(r0.map _).trans ?_;unfold u_;rw[hK];have:=Ij [⟨⟨2,0,0,((aq U.au L/2:Nat):Int),x.k.sign,x.k.over⟩,false⟩,⟨⟨2,0,0,((aq U.au L/2:Nat):Int),x.k.sign,!x.k.over⟩,false⟩];refine Eq.mp (congrArg (λz=>gI z _) ?_) this;rw[fq,fq,fq,fq,B2,B2,gM];congr 1
 .grind [wi,pO,Aj,mq]
 congr 1
 .unfold wi pO;rw[show y.p.l.kind=2 from E,Aj A (mq f)];simp only[y8,if_true];rw[aI H.symm];congr 1
  conv=>rhs;rw[show y.p.l=_ from ly]
  rw[jF.ov,jF.sg,FU]
 rw[kU,kU];refine s7 λw D=>?_;show kY [x.p.l.id] w.p=wi _ w.p;unfold kY wi pO kW;cases n:w.p.l.kind==2 with
 |false=>simp
 |true=>
  simp only[if_true];rw[aE (Ky w D n)];congr 2;by_cases aw:x.p.l.id<w.p.l.id
  .simp[aw]
  simp[aw]
end
end
end Go.Abs
