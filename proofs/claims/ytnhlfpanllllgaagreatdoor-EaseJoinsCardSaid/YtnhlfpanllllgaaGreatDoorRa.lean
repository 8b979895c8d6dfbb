/-
  The normal form of a code; Replay.
-/
import Derived.Test.YtnhlfpanllllgaaGreatDoorVb
import Derived.Test.YtnhlfpanllllgaaGreatDoorUa
set_option linter.all false
open List renaming length->I
set_option maxRecDepth 100000
set_option maxHeartbeats 16000000
namespace Go.Abs
variable{j:Nat}{y L:ae}{z:iA}{T B:Nat->Nat->Nat}{f:Int->Int}
section
variable{x:aa}{F:Nat}{g:ae}
def F8(x y:aa):oE x y↔x=y:=by
 constructor
 .intro h;unfold oE at h;simp only[dj,dI]at h;obtain⟨j,f,u,g,m,H⟩:=h;cases x;cases y
  simp_all
 rintro rfl;exact OR x
def qj(a b:aa):Bool:=if a.kind==b.kind then if a.gate==b.gate then if a.ay==b.ay then if a.id==b.id then if a.over==b.over then decide (a.sign<b.sign)else b.over else decide (a.id<b.id)else decide (a.ay<b.ay)else decide (a.gate<b.gate)else decide (a.kind<b.kind)
def r6:cV->cV->Bool
 |a::A,b::B=>if a=b then r6 A B else decide (a<b)
 |_,_=>false
def aDb(A:cV):r6 A A=false:=by
 induction A with
 |nil=>rfl
 |cons a A f=>unfold r6;rw[aH rfl];exact f
def atv:∀ {A B:cV},r6 A B->r6 B A=false:=by
 intro A
 induction A with
 |nil=>intro B h;cases B<;>cases h
 |cons a A f=>
  intro B h;cases B with
  |nil=>cases h
  |cons b B=>
   unfold r6 at h |-;by_cases e:a=b
   .subst e;rw[aH rfl]at h |-;exact f h
   rw[aw e]at h;rw[aw (Ne.symm e)];have:=lp h;exact tJ J
def arY:∀ {A B D:cV},r6 A B->r6 B D->r6 A D:=by
 intro A
 induction A with
 |nil=>intro B D h;cases B<;>cases h
 |cons a A f=>
  intro B D h H;cases B with
  |nil=>cases h
  |cons b B=>
   cases D with
   |nil=>cases H
   |cons d D=>
    unfold r6 at h H |-;by_cases e:a=b
    .subst e;rw[aH rfl]at h;by_cases E:a=d
     .subst E;rw[aH rfl]at H |-;exact f h H
     rw[aw E]at H |-;exact H
    rw[aw e]at h;have j:=lp h;by_cases E:b=d
    .subst E;rw[aw e];exact h
    rw[aw E]at H;have g:=lp H;rw[aw J];exact xi J
def ss(a:aa):cV:=[a.kind,a.gate,a.ay,a.id,if a.over then 1 else 0,a.sign]
def NN(a b:aa):qj a b=r6 (ss a) (ss b):=by
 cases a with|mk k g r i s o=>cases b with|mk z y R x m O=>
 unfold qj ss;simp only[r6];by_cases h:k=z
 .by_cases H:g=y
  .by_cases f:r=R
   .by_cases j:i=x
    .cases o<;>cases O<;>by_cases u:s=m<;>simp[h,H,f,j,u]
    simp[h,H,f,j]
   simp[h,H,f]
  simp[h,H]
 simp[h]
def arz{a b:aa}(h:qj a b):qj b a=false:=by rw[NN]at*;exact atv h
def ayc{a b c:aa}(h:qj a b)(H:qj b c):qj a c:=by rw[NN]at*;exact arY h H
def jE:ae->ae->Bool
 |a::A,b::B=>if oE a b then jE A B else qj a b
 |_,_=>false
def V5(A:ae):jE A A=false:=by
 induction A with
 |nil=>rfl
 |cons a A f=>unfold jE;rw[aH (OR a)];exact f
def V8:∀ {A B D:ae},jE A B->jE B D->jE A D:=by
 intro A
 induction A with
 |nil=>intro B D h;cases B<;>cases h
 |cons a A g=>
  intro B D h H;cases B with
  |nil=>cases h
  |cons b B=>
   cases D with
   |nil=>cases H
   |cons d D=>
    unfold jE at h H |-;by_cases e:a=b
    .subst e;rw[aH (OR a)]at h;by_cases E:a=d
     .subst E;rw[aH (OR a)]at H |-;exact g h H
     have e1:¬oE a d=true:=λx=>E ((F8 _ _).1 x);rw[aw e1]at H |-;exact H
    have e1:¬oE a b=true:=λx=>e ((F8 _ _).1 x);rw[aw e1]at h;by_cases E:b=d
    .subst E;rw[aw e1];exact h
    have e2:¬oE b d=true:=λx=>E ((F8 _ _).1 x);rw[aw e2]at H;have f:¬oE a d=true:=λx=>by have:=(F8 _ _).1 x;subst this;rw[arz h]at H;cases H
    rw[aw f];exact ayc h H
def fL(l:ae)(i:Nat):ae:=l.drop i++l.take i
def wc(l:ae)(i:Nat):Prop:=ai aa.aM (l.take i)%2=0
def Sl(l:ae)(i:Nat):Prop:=(∃x,l[i]?=some x/\x.aM)/\wc l i
def AA(l:ae)(i:Nat):I (fL l i)=I l:=by unfold fL;rw[fv,l8,iM];omega
def Dl(q:aa->Bool)(a b:ae):ai q (a++b)=ai q a+ai q b:=vH
def al5(q:aa->Bool)(l:ae)(i:Nat):ai q (fL l i)=ai q l:=by unfold fL;rw[Dl,IL,<-Dl,ot]
def aus{l:ae}{i:Nat}(g:j<=I l)(m:i<I l):∃k,k<I l/\fL (fL l j) i=fL l k/\(fL l j)[i]?=l[k]? /\(ai aa.aM l%2=0->wc l j->wc (fL l j) i->wc l k):=by
 by_cases h:i<I l-j
 .refine⟨j+i,J,?_,?_,?_⟩
  .unfold fL;rw[Xb (by rw[l8];omega),J8 (by rw[l8];omega),Q5,s5];congr 1;rw[<-List.take_add]
  .unfold fL;rw[xv (by rw[l8];omega),yt]
  unfold wc fL;intro _ f H;rw[J8 (by rw[l8];omega)]at H;rw[List.take_add,Dl];omega
 refine⟨i-(I l-j),J,?_,?_,?_⟩
 .unfold fL;obtain⟨d,hd⟩:∃d,d=i-(I l-j):=⟨_,rfl⟩;rw[<-hd];have e1:(l.drop j++l.take j).drop i=(l.take j).drop d:=by
   rw[acx,NQ (by rw[l8];omega),fN,l8,hd]
  have e2:(l.drop j++l.take j).take i=l.drop j++(l.take j).take d:=by rw[Lo,e_ (by rw[l8];omega),l8,hd]
  rw[e1,e2,<-s5];have E:(l.take j).take d=l.take d:=by rw[EU,wS J]
  rw[E];congr 1;have e4:l.drop d=(l.take j).drop d++l.drop j:=by
   conv=>lhs;rw[<-ot j l]
   rw[Xb (by rw[iM];omega)]
  exact e4.symm
 .unfold fL;rw[vI (by rw[l8];omega),l8,nN];rw[aH J]
 unfold wc fL;intro u f H;rw[Lo,e_ (by rw[l8];omega),l8,Dl,EU,wS J]at H;have:ai aa.aM l=ai aa.aM (l.take j)+ai aa.aM (l.drop j):=by rw[<-Dl,ot]
 omega
def kW:cV->ae->ae
 |_,[]=>[]
 |s,x::r=>if x.kind==2 then(if s.contains x.id then{x with id:=((s.idxOf x.id+1:Nat):Int)}::kW s r else{x with id:=((I s+1:Nat):Int)}::kW (s++[x.id]) r)else x::kW s r
def j_(l:ae):ae:=kW [] l
def kN(f:Int->Int)(x:aa):aa:=if x.kind==2 then{x with id:=f x.id}else x
def afk(f:Int->Int)(x:aa):(kN f x).kind=x.kind:=by unfold kN;split<;>rfl
def Sp(f:Int->Int)(x:aa):(kN f x).aM=x.aM:=by unfold aa.aM;rw[afk]
def inj(f:Int->Int)(l:ae):Prop:=∀x∈l,∀y∈l,x.kind=2->y.kind=2->f x.id=f y.id->x.id=y.id
def jO:cV->ae->cV
 |s,[]=>s
 |s,x::r=>if x.kind==2 then(if s.contains x.id then jO s r else jO (s++[x.id]) r)else jO s r
def aoj:∀(l:ae) (s:cV),∃t,jO s l=s++t:=by
 intro l
 induction l with
 |nil=>intro s;exact⟨[],by simp[jO]⟩
 |cons x r f=>
  intro s;unfold jO;split
  .split
   .exact f s
   obtain⟨t,h⟩:=f (s++[x.id]);exact⟨x.id::t,by rw[h];simp⟩
  exact f s
def amO{s t:cV}{a:Int}(h:a∈s):(s++t).idxOf a=s.idxOf a:=by rw[aec,aH h]
def arU:∀(l:ae) (s:cV),kW s l=l.map (kN λa=>(((jO s l).idxOf a+1:Nat):Int))/\ ∀x∈l,x.kind=2->x.id∈jO s l:=by
 intro l
 induction l with
 |nil=>intro s;exact⟨rfl,λx h=>by cases h⟩
 |cons x r A=>
  intro s;by_cases z:x.kind=2
  .have f:(x.kind==2):=by rw[z];rfl
   cases g:s.contains x.id with
   |true=>
    have B:x.id∈s:=D1.1 g;have e:jO s (x::r)=jO s r:=by simp only[jO,f,g,if_true]
    obtain⟨u,j⟩:=A s;obtain⟨t,m⟩:=aoj r s;refine⟨?_,?_⟩
    .have E:kW s (x::r)={x with id:=((s.idxOf x.id+1:Nat):Int)}::kW s r:=by simp only[kW,f,g,if_true]
     rw[e,E,eR,u];congr 1;unfold kN;rw[aH f,m];dsimp only;rw[amO B]
    rw[e];intro y H M;rcases dk.1 H with rfl|H
    .rw[m];exact AI _ B
    exact j y H M
   |false=>
    have e:jO s (x::r)=jO (s++[x.id]) r:=by simp only[jO,f,g,if_true,eX,if_false]
    obtain⟨u,j⟩:=A (s++[x.id]);obtain⟨t,m⟩:=aoj r (s++[x.id]);have D:¬x.id∈s:=λh=>by rw[D1.2 h]at g;cases g
    refine⟨?_,?_⟩
    .have E:kW s (x::r)={x with id:=((I s+1:Nat):Int)}::kW (s++[x.id]) r:=by simp only[kW,f,g,if_true,eX,if_false]
     rw[e,E,eR,u];congr 1;unfold kN;rw[aH f,m];dsimp only;rw[amO aQ,aec,aw D];simp
    rw[e];intro y H M;rcases dk.1 H with rfl|H
    .rw[m];simp
    exact j y H M
  have f:(x.kind==2)=false:=ng.2 z;have e:jO s (x::r)=jO s r:=by simp only[jO,f,eX,if_false]
  obtain⟨u,j⟩:=A s;refine⟨?_,?_⟩
  .have E:kW s (x::r)=x::kW s r:=by simp only[kW,f,eX,if_false]
   rw[e,E,eR,u];rw[show kN (λa=>(((jO s r).idxOf a+1:Nat):Int)) x=x from aw (by rw[f];decide)]
  rw[e];intro y H M;rcases dk.1 H with rfl|H
  .exact absurd M z
  exact j y H M
def aGz{S:cV}{a b:Int}(g:a∈S)(f:b∈S)(h:S.idxOf a=S.idxOf b):a=b:=by have H:=UH (Kq.2 g);have j:=UH (Kq.2 f);rw[<-H,<-j];simp only[h]
def azo{l:ae}{i:Nat}:x∈fL l i↔x∈l:=by unfold fL;rw[fc,Or.comm,<-fc,ot]
def Dc(l y:ae):Prop:= ∃i,i<I l/\Sl l i/\y=j_ (fL l i)
def DA(l y:ae):Prop:=Dc l y\/Dc l.reverse y
def anr{l:ae}(m:j<=I l)(u:ai aa.aM l%2=0)(hp:wc l j)(h:Dc (fL l j) y):Dc l y:=by obtain⟨i,H,⟨⟨x,f,X⟩,z⟩,rfl⟩:=h;rw[AA]at H;obtain⟨k,g,e1,e2,E⟩:=aus m H;rw[e2]at f;exact⟨k,g,⟨⟨x,f,X⟩,E u hp z⟩,by rw[e1]⟩
def wU(x:cM):cM:=⟨⟨x.p.l,!x.p.d⟩,jX x.o,jX x.i⟩
def aqb(x:cM):(wU x).up=x.up:=by unfold cM.up wU;cases x.p.d<;>rfl
def akt(x:cM):(wU x).lo=x.lo:=by unfold cM.lo wU;cases x.p.d<;>rfl
def tS.rv{g:Bool}{i o j q:gj}(h:tS g i o j q):tS g (jX o) (jX i) (jX q) (jX j):=by
 obtain⟨a,b,c,d⟩:=h;cases g
 .simp only[eX,if_false]at a b c d;constructor<;>simp only[eX,if_false,jX]
  .exact b
  .exact a
  .exact d
  exact c
 simp only[if_true]at a b c d;constructor<;>simp only[if_true,jX]
 .exact b
 .exact a
 .exact d
 exact c
def nY.rv{x y:cM}(h:nY x y):nY (wU x) (wU y):=λj m e=>by obtain⟨f,H,g⟩:=h j m e;exact⟨f,H,g.rv⟩
def azF:∀ {z:iA}{s t:gj},mr s z t->mr (jX t) (z.reverse.map wU) (jX s):=by
 intro z
 induction z with
 |nil=>intro s t h;cases h;rfl
 |cons x z f=>intro s t h;obtain⟨rfl,h⟩:=h;rw[List.reverse_cons,lU];exact Nw.2 ⟨jX x.o,f h,rfl,rfl⟩
def ay1:∀ {z:iA}{s t:gj},mr s z t->∀x∈z,(∃y∈z,y.i=x.o)\/x.o=t:=by
 intro z
 induction z with
 |nil=>intro s t _ x H;cases H
 |cons a z g=>
  intro s t h x H;obtain⟨rfl,h⟩:=h;rcases dk.1 H with rfl|H
  .cases z with
   |nil=>exact .inr h
   |cons b z=>exact .inl ⟨b,aQ,h.1⟩
  rcases g h x H with⟨y,f,e⟩|e
  .exact .inl ⟨y,by simp[f],e⟩
  exact .inr e
def jg.next{S:aG}(c:jg F z T B S){x:cM}(H:x∈z):∃y∈z,y.i=x.o:=by
 obtain⟨s,h⟩:=c.path;rcases ay1 h x H with e|e
 .exact e
 cases z with
 |nil=>cases H
 |cons a z=>exact⟨a,aQ,by rw[h.1,e]⟩
def KS(z:iA):bG (z.reverse.map wU)=(bG z).reverse:=by rw[<-List.map_reverse];show List.map _ (List.map _ _)=_;rw[o9];rfl
def EV(q:aa->Bool)(l:ae):ai q l.reverse=ai q l:=List.countP_reverse
def jg.rv{S:aG}(c:jg F z T B S):jg F (z.reverse.map wU) T B S:=by
 obtain⟨s,h⟩:=c.path;have j:∀x∈z.reverse.map wU,∃y∈z,x=wU y:=λx H=>by obtain⟨y,f,rfl⟩:=eg.1 H;exact⟨y,ac7.1 f,rfl⟩
 have m:∀g,di (bG (z.reverse.map wU)) g=di (bG z) g:=λg=>by rw[KS];exact EV _ _
 refine⟨⟨_,azF h⟩,λx H=>?_,?_,by rw[KS,EV];exact c.ev,λx H u=>?_,?_,λx H hp=>?_,λx H hp=>?_,λg L=>by rw[m];exact c.gt g L,by rw[m];exact c.gz,?_,c.nd,λs hs=>?_,by rw[KS,EV,EV];exact c.num⟩
 .obtain⟨y,f,rfl⟩:=j x H;obtain⟨N,M,O⟩:=c.ok y f;refine⟨N,λu=>(M u).symm,λhp=>?_⟩;obtain⟨A,D⟩:=O hp;refine⟨D,?_⟩;show y.o.b= !(!y.p.d);rw[A,N9]
 .refine yK.2 (List.pairwise_reverse.2 (c.cr.imp λ{a b} E=>E.symm.rv))
 .obtain⟨y,f,rfl⟩:=j x H;rw[KS,EV];exact c.ids y f u
 .refine yK.2 (List.pairwise_reverse.2 (c.rk.imp λ{a b} E=>E.symm))
 .obtain⟨y,f,rfl⟩:=j x H;rw[m];exact c.rr y f hp
 .obtain⟨y,f,rfl⟩:=j x H;obtain⟨a,b,d,e⟩:=c.pl y f hp;exact⟨by rw[aqb];exact a,by rw[aqb];exact b,by rw[akt];exact d,by rw[akt];exact e⟩
 .obtain⟨x,H,hp⟩:=c.one;exact⟨wU x,eg.2 ⟨x,ac7.2 H,rfl⟩,hp⟩
 obtain⟨x,H,e⟩:=c.wit s hs;obtain⟨y,f,e2⟩:=c.next H;refine⟨wU y,eg.2 ⟨y,ac7.2 f,rfl⟩,?_⟩;show s=y.i.r\/s=y.i.l;rw[e2];exact e.symm
def nI(f:Int->Int)(x:cM):cM:=⟨⟨kN f x.p.l,x.p.d⟩,x.i,x.o⟩
def Ol(f:Int->Int)(x:aa):(kN f x).gate=x.gate:=by unfold kN;split<;>rfl
def TI(f:Int->Int)(x:aa):(kN f x).ay=x.ay:=by unfold kN;split<;>rfl
def aa7(f:Int->Int)(x:aa):(kN f x).sign=x.sign:=by unfold kN;split<;>rfl
def aac(f:Int->Int)(x:aa):(kN f x).over=x.over:=by unfold kN;split<;>rfl
def aaW(f:Int->Int)(x:aa):(kN f x).aF=x.aF:=by unfold aa.aF;rw[afk]
def aez(h:x.aF):(kN f x).id=f x.id:=by unfold kN;rw[aH (show(x.kind==2)=true from h)]
def avZ(h:x.aF=false):kN f x=x:=by unfold kN;exact aw (by rw[show(x.kind==2)=false from h];decide)
def at7(h:eO F x=false):eO F (kN f x)=false:=by
 cases H:x.aF
 .rw[avZ H];exact h
 have:kN f x={x with id:=f x.id}:=aH H;rw[this];rcases yO h with hp|_
 .rw[q_ hp]at H;cases H
 unfold eO at h |-;unfold aa.aF at H;have g:x.kind=2:=dI.1 H
 simpa [g]using h
def Ok(f:Int->Int)(z:iA):bG (z.map (nI f))=(bG z).map (kN f):=by show List.map _ (List.map _ _)=List.map _ (List.map _ _);rw[o9,o9];rfl
def RF{q:aa->Bool}(h:∀x,q (kN f x)=q x)(l:ae):ai q (l.map (kN f))=ai q l:=by show List.countP _ _=List.countP _ _;rw[CJ];exact Ka λx _=>by rw[Function.comp_apply,h]
def aCN(f:Int->Int)(l:ae)(g:Nat):di (l.map (kN f)) g=di l g:=RF (λx=>by unfold pP;rw[Sp,Ol]) l
def jg.rn{S:aG}(c:jg F z T B S)(hf:inj f (bG z))(hi:∀x∈z,x.k.aF->1<=f x.k.id/\f x.k.id<=((ai aa.aF (bG z)/2:Nat):Int)):jg F (z.map (nI f)) T B S:=by
 obtain⟨s,h⟩:=c.path;have N:∀x∈z.map (nI f),∃y∈z,x=nI f y:=λx H=>by obtain⟨y,j,rfl⟩:=eg.1 H;exact⟨y,j,rfl⟩
 have O:∀g,di (bG (z.map (nI f))) g=di (bG z) g:=λg=>by rw[Ok,aCN]
 have Y:ai aa.aF (bG (z.map (nI f)))=ai aa.aF (bG z):=by rw[Ok];exact RF (aaW f) _
 have eP:ai aa.aM (bG (z.map (nI f)))=ai aa.aM (bG z):=by rw[Ok];exact RF (Sp f) _
 have R:∀y:cM,(nI f y).k.aF=y.k.aF:=λy=>aaW f y.k;have A:∀y:cM,(nI f y).k.aM=y.k.aM:=λy=>Sp f y.k;have kl:∀y∈z,y.k∈bG z:=λy j=>eg.2 ⟨y,j,rfl⟩;have Q:∀ {z:iA}{s t:gj},mr s z t->mr s (z.map (nI f)) t:=by
  intro z
  induction z with
  |nil=>intro s t h;exact h
  |cons x z ih=>intro s t h;exact⟨h.1,ih h.2⟩
 refine⟨⟨s,Q h⟩,λx H=>?_,?_,by rw[Y];exact c.ev,λx H m=>?_,?_,λx H hp=>?_,λx H hp=>?_,λg hg=>by rw[O];exact c.gt g hg,by rw[O];exact c.gz,?_,c.nd,λs hs=>?_,by rw[eP,Y];exact c.num⟩
 .obtain⟨y,j,rfl⟩:=N x H;obtain⟨o1,o2,o3⟩:=c.ok y j;exact⟨at7 o1,λm=>o2 (by rw[R]at m;exact m),λhp=>o3 (by rw[A]at hp;exact hp)⟩
 .refine yK.2 (V9 (λ{a b} ha hb X=>?_) c.cr);intro D M e;rw[R]at D M;have e2:f a.k.id=f b.k.id:=by
   have:=e;rw[show(nI f a).k.id=f a.k.id from aez D,show(nI f b).k.id=f b.k.id from aez M]at this;exact this
  obtain⟨h1,h2,h3⟩:=X D M (hf _ (kl a ha) _ (kl b hb) (dI.1 D) (dI.1 M) e2);refine⟨?_,?_,?_⟩
  .show(kN f a.k).over= !(kN f b.k).over;rw[aac,aac];exact h1
  .show(kN f a.k).sign=(kN f b.k).sign;rw[aa7,aa7];exact h2
  show tS (gN (kN f a.k)) _ _ _ _;have:gN (kN f a.k)=gN a.k:=by unfold gN;rw[aac,aa7]
  rw[this];exact h3
 .obtain⟨y,j,rfl⟩:=N x H;rw[R]at m;rw[Y,show(nI f y).k.id=f y.k.id from aez m];exact hi y j m
 .refine yK.2 (c.rk.imp λ{a b} X=>?_);intro ap Z e1 e2;rw[A]at ap Z;refine X ap Z ?_ ?_
  .have:=e1;rw[show(nI f a).k.gate=a.k.gate from Ol f a.k,show(nI f b).k.gate=b.k.gate from Ol f b.k]at this;exact this
  have:=e2;rw[show(nI f a).k.ay=a.k.ay from TI f a.k,show(nI f b).k.ay=b.k.ay from TI f b.k]at this;exact this
 .obtain⟨y,j,rfl⟩:=N x H;rw[A]at hp;rw[O,show(nI f y).k.ay=y.k.ay from TI f y.k,show(nI f y).k.gate=y.k.gate from Ol f y.k];exact c.rr y j hp
 .obtain⟨y,j,rfl⟩:=N x H;rw[A]at hp;obtain⟨a,b,d,e⟩:=c.pl y j hp;have u:(nI f y).up=y.up:=rfl;have w:(nI f y).lo=y.lo:=rfl;have L:(nI f y).k.gate=y.k.gate:=Ol f y.k;have E:(nI f y).k.ay=y.k.ay:=TI f y.k;exact⟨by rw[u,L,E];exact a,by rw[u,L,E];exact b,by rw[w,L,E];exact d,by rw[w,L,E];exact e⟩
 .obtain⟨x,H,hp⟩:=c.one;exact⟨nI f x,eg.2 ⟨x,H,rfl⟩,by rw[A];exact hp⟩
 obtain⟨x,H,e⟩:=c.wit s hs;exact⟨nI f x,eg.2 ⟨x,H,rfl⟩,e⟩
def alm:∀(l:ae) (s:cV),s.Nodup->(jO s l).Nodup/\ ∀a∈jO s l,a∈s\/ ∃x∈l,x.aF/\x.id=a:=by
 intro l
 induction l with
 |nil=>intro s h;exact⟨h,λa f=>.inl f⟩
 |cons x r u=>
  intro s h;unfold jO;split
  .rename_i B;split
   .obtain⟨m,g⟩:=u s h;refine⟨m,λa f=>?_⟩;rcases g a f with H|⟨y,j,H⟩
    .exact .inl H
    exact .inr ⟨y,by simp[j],H⟩
   rename_i D;have A:¬x.id∈s:=λh=>D (D1.2 h);obtain⟨m,g⟩:=u (s++[x.id]) (by rw[BI];refine⟨h,aQ,λa f b z e=>?_⟩;rw[kV.1 z]at e;exact A (e▸f))
   refine⟨m,λa f=>?_⟩;rcases g a f with H|⟨y,j,H⟩
   .rcases fc.1 H with H|H
    .exact .inl H
    exact .inr ⟨x,aQ,B,(kV.1 H).symm⟩
   exact .inr ⟨y,by simp[j],H⟩
  obtain⟨m,g⟩:=u s h;refine⟨m,λa f=>?_⟩;rcases g a f with H|⟨y,j,H⟩
  .exact .inl H
  exact .inr ⟨y,by simp[j],H⟩
def ayF(l:ae)(D:∀x∈l,x.aF->1<=x.id/\x.id<=((ai aa.aF l/2:Nat):Int)):∃f,inj f l/\j_ l=l.map (kN f)/\ ∀x∈l,x.aF->1<=f x.id/\f x.id<=((ai aa.aF l/2:Nat):Int):=by
 obtain⟨L,j⟩:=arU l [];refine⟨_,?_,L,?_⟩
 .intro x H y g X F h;dsimp only at h;exact aGz (j x H X) (j y g F) J
 intro x H O;have E:=j x H (dI.1 O);have Q:=Kq.2 E;obtain⟨N,M⟩:=alm l [] tA;have m:∀a∈jO [] l,1<=a/\a<=((ai aa.aF l/2:Nat):Int):=λa u=>by
  rcases M a u with A|⟨y,g,Y,rfl⟩
  .cases A
  exact D y g Y
 have:=KK ((jO [] l).map Int.toNat) (List.range' 1 (ai aa.aF l/2)) ?_ ?_
 .rw[cH,List.length_range']at this;omega
 .refine yK.2 (V9 (λ{a b} u B h e=>h ?_) N);have:=m a u;have:=m b B;omega
 intro x H;obtain⟨id,z,rfl⟩:=eg.1 H;have:=m id z;rw[List.mem_range'_1];omega
def jg.rotN{S:aG}(c:jg F z T B S)(i:Nat):jg F (z.drop i++z.take i) T B S:=by rw[<-ot i z]at c;exact c.mV
def anP{S:aG}(c:jg F z T B S)(M:∀x,z[0]?=some x->x.i.b=false)(hl:I z<=400)(R:ai aa.aF (bG z)<=200)(X:F<=40)(h:Dc (bG z) y):dA F y=0:=by
 obtain⟨i,hi,⟨⟨x,g,hp⟩,O⟩,rfl⟩:=h;obtain⟨e,m,rfl⟩:=Dn g;have D:e.p.d:=by
  obtain⟨s,hs⟩:=c.path;have H:0<I z:=by have:=(cD.1 m).1;omega
  obtain⟨a,ha⟩:∃a,z[0]?=some a:=⟨z[0],sT H⟩;have N:s.b=false:=by rw[<-NG hs ha];exact M a ha
  have:=(ac1 c.ok hs N i e m).1;have hm:=ch m;have j:=((c.ok e hm).pb hp).2;rw[this]at j;have h3:c9 (bG z) i:=by
   unfold c9;have:ai aa.aM ((bG z).take i)%2=0:=O
   simpa using this
  rw[h3]at j;cases Q:e.p.d
  .rw[Q]at j;cases j
  rfl
 have Y:=c.rotN i;have e1:bG (z.drop i++z.take i)=fL (bG z) i:=by unfold fL bG;rw[lU,E_,Ex]
 have E:ai aa.aF (fL (bG z) i)=ai aa.aF (bG z):=al5 _ _ _;obtain⟨f,A,hr,L⟩:=ayF (fL (bG z) i) (λx g u=>by rw[E];obtain⟨w,Z,rfl⟩:=eg.1 (azo.1 g);exact c.ids w Z u)
 rw[hr];rw[<-e1]at A L;have c3:=Y.rn A (λx g u=>L _ (eg.2 ⟨x,g,rfl⟩) u);have zK:z.drop i=e::z.drop (i+1):=by obtain⟨hl,e⟩:=cD.1 m;rw[<-e,sQ]
 rw[<-e1,<-Ok];refine c3.check (x:=nI f e) (r:=(z.drop (i+1)++z.take i).map (nI f)) (by rw[zK];rfl) ?_ D ?_ ?_ X
 .show(kN f e.k).aM=true;rw[Sp];exact hp
 .rw[cH,fv,l8,iM];omega
 rw[Ok,RF (aaW f),e1,E];exact R
def aGv(a b:aa):aJ S 117 [xt a,xt b] (dn (qj a b)):=by
 by_cases h:a.kind=b.kind
 .by_cases H:a.gate=b.gate
  .by_cases f:a.ay=b.ay
   .by_cases g:a.id=b.id
    .cases j:(a.over==b.over)with
     |true=>
      have e:qj a b=decide (a.sign<b.sign):=by simp only[qj,h,H,f,g,j,CD,if_true]
      rw[e];refine bt IJ ?_;simp only[go_sem,GC,h,H,f,g,j,bne,aa.ps,af,au]
     |false=>
      have e:qj a b=b.over:=by simp only[qj,h,H,f,g,j,CD,if_true,eX,if_false]
      rw[e];refine bt IJ ?_;simp only[go_sem,GC,h,H,f,g,j,bne,aa.ps,af,au]
    have y:(a.id==b.id)=false:=by simp[g]
    have e:qj a b=decide (a.id<b.id):=by simp only[qj,h,H,f,y,CD,if_true,eX,if_false]
    rw[e];refine bt IJ ?_;simp only[go_sem,GC,h,H,f,y,bne,aa.ps,af,au]
   have T:(a.ay==b.ay)=false:=by simp[f]
   have e:qj a b=decide (a.ay<b.ay):=by simp only[qj,h,H,T,CD,if_true,eX,if_false]
   rw[e];refine bt IJ ?_;simp only[go_sem,GC,h,H,T,bne,aa.ps,af,au]
  have m:(a.gate==b.gate)=false:=by simp[H]
  have e:qj a b=decide (a.gate<b.gate):=by simp only[qj,h,m,CD,if_true,eX,if_false]
  rw[e];refine bt IJ ?_;simp only[go_sem,GC,h,m,bne,aa.ps,af,au]
 have L:(a.kind==b.kind)=false:=by simp[h]
 have e:qj a b=decide (a.kind<b.kind):=by simp only[qj,L,eX,if_false]
 rw[e];refine bt IJ ?_;simp only[go_sem,GC,L,bne,aa.ps,af,au]
def aky{A:ae}{k:Nat}(h:k<I A):A.drop k=aZ A k::A.drop (k+1):=by have:=js h;obtain⟨H,e⟩:=cD.1 this;rw[<-e,sQ]
def avy(A B:ae)(Q:I A=I B)(hl:I A<=1000000):aJ S 81 [.one (.p (c8 A)),.one (.p (c8 B))] (dn (jE A B)):=by
 generalize E:jE A B=r;refine bt azi ?_;simp only[go_sem,alq,af,au];refine c_ (λk f aj=>f 0=.one (.p (c8 A))/\f 1=.one (.p (c8 B))/\f 7=aC (I A)/\f 8=aC k/\jE (A.drop k) (B.drop k)=r) 0 (I A) (cE _) ?_ ?_
 .simp only[go_sem];first|exact E|exact⟨rfl,E⟩
 rintro k f aj R ⟨x,y,z,u,h⟩
 by_cases j:k<I A
 .have O:=js j;have N:=js (h:=B) (i:=k) J;have F:=fP O;have L:=fP N;have M:(k:Int)<(I A:Int):=J;have D:=cP (n:=k) J;have H:k<I B:=J;rw[aky j,aky H]at h;unfold jE at h;cases m:oE (aZ A k) (aZ B k)with
  |true=>rw[aH m]at h;simp only[go_sem,TA,x,y,z,u,F,L,pF,aa.ps,M,j,H,D,ap7,m,af,au];exact⟨aI,h⟩
  |false=>rw[aw (by rw[m];decide)]at h;have pl:=aGv (aZ A k) (aZ B k);rw[h]at pl;simp only[go_sem,TA,x,y,z,u,F,L,pF,aa.ps,M,j,H,D,ap7,m,aFj,dC pl,af,au];first|exact⟨aI,aI,rfl⟩|exact⟨aI,aI⟩
 have:k=I A:=J;subst this;rw[Ak,NQ J]at h;have h:false=r:=h;subst h;simp only[go_sem,TA,ajX,x,y,z,u,dW,af,au]
def aht(l:ae)(x:aa):∀s,jO s (l++[x])=if x.kind==2 then(if(jO s l).contains x.id then jO s l else jO s l++[x.id])else jO s l:=by
 induction l with
 |nil=>intro s;rfl
 |cons a r f=>
  intro s;rw[nA]
  conv=>lhs;unfold jO
  conv=>rhs;unfold jO
  split
  .split<;>exact f _
  exact f _
def JH(s:cV)(x:aa):aa:=if x.kind==2 then(if s.contains x.id then{x with id:=((s.idxOf x.id+1:Nat):Int)}else{x with id:=((I s+1:Nat):Int)})else x
def apJ(l:ae)(x:aa):∀s,kW s (l++[x])=kW s l++[JH (jO s l) x]:=by
 induction l with
 |nil=>
  intro s;show kW s [x]=[JH s x];unfold kW JH;split
  .split<;>rfl
  rfl
 |cons a r f=>
  intro s;rw[nA]
  conv=>lhs;unfold kW
  conv=>rhs;unfold kW jO
  split
  .split<;>(rw[f];rfl)
  rw[f];rfl
def Gl:∀(l:ae) (s:cV),I (kW s l)=I l:=by
 intro l
 induction l with
 |nil=>intro s;rfl
 |cons a r f=>
  intro s;unfold kW;split
  .split<;>simp[f]
  simp[f]
def zE(l:ae):I (j_ l)=I l:=Gl l []
def zk(s:cV)(i:Nat):sK:=match s with
 |[]=>[]
 |a::r=>(a,((i+1:Nat):Int))::zk r (i+1)
def avz:∀(s:cV) (i:Nat),I (zk s i)=I s:=by
 intro s
 induction s with
 |nil=>intro i;rfl
 |cons a r f=>intro i;show(zk r (i+1)).length+1=_;rw[f];rfl
def ax2(a:Int):∀(s:cV) (i:Nat),zk s i++[(a,((i+I s+1:Nat):Int))]=zk (s++[a]) i:=by
 intro s
 induction s with
 |nil=>intro i;rfl
 |cons b r f=>intro i;show(b,((i+1:Nat):Int))::(zk r (i+1)++_)=(b,((i+1:Nat):Int))::zk (r++[a]) (i+1);rw[<-f (i+1),dw,show i+1+I r+1=i+(I r+1)+1 by omega]
def ajN(x:Int):∀(s:cV) (i:Nat),NX (zk s i) x i=if s.contains x then some (i+s.idxOf x,((i+s.idxOf x+1:Nat):Int))else none:=by
 intro s
 induction s with
 |nil=>intro i;rfl
 |cons a r f=>
  intro i;show(if x==a then some (i,((i+1:Nat):Int))else NX (zk r (i+1)) x (i+1))=_;by_cases h:x=a
  .subst h;simp
  have H:(x==a)=false:=ng.2 h;have g:(a==x)=false:=ng.2 (Ne.symm h);rw[H,f (i+1),List.contains_cons,H,DJ,Wc,g];simp only[eX,if_false,cond_false];split
  .congr 2
   .omega
   congr 1;omega
  rfl
def tc(L:ae)(k:Nat):ae:=kW [] (L.take k)++L.drop k
def aAT(L:ae){k:Nat}:I (tc L k)=I L:=by unfold tc;rw[fv,Gl,iM,l8];omega
def It{k:Nat}(h:L[k]?=some x):L.take (k+1)=L.take k++[x]:=by obtain⟨hl,e⟩:=cD.1 h;rw[<-e,List.take_append_getElem]
def aqZ{k:Nat}(h:L[k]?=some x):(tc L k)[k]?=some x:=by have hl:=(cD.1 h).1;unfold tc;rw[vI (by rw[Gl,iM];omega),Gl,iM,yt,wS J,ze,vX,h]
def aqr{k:Nat}(h:L[k]?=some x):(tc L k).set k (JH (jO [] (L.take k)) x)=tc L (k+1):=by
 obtain⟨hl,e⟩:=cD.1 h;have f:L.drop k=x::L.drop (k+1):=by rw[<-e,sQ]
 have H:I (kW [] (L.take k))=k:=by rw[Gl,iM];omega
 unfold tc;rw[It h,apJ,f,J3 _ _ J,H,ze,Vt,s5];rfl
def aFG{k:Nat}(h:L[k]?=some x)(H:(x.kind==2)=false):tc L (k+1)=tc L k/\jO [] (L.take (k+1))=jO [] (L.take k):=by
 obtain⟨hl,e⟩:=cD.1 h;have f:L.drop k=x::L.drop (k+1):=by rw[<-e,sQ]
 refine⟨?_,?_⟩
 .unfold tc;rw[It h,apJ,f];unfold JH;rw[H];simp
 rw[It h,aht,H];rfl
def asY(L:ae)(aN:L≠[])(hl:I L<=1000000):aJ S 79 [.one (.p (c8 L))] (.one (aX fI 6 (bQ (j_ L)))):=by
 have ab:=aeZ aN hl;have lo:S.lone 5056128064=false:=ah;refine bt aEv ?_;simp only[go_sem,ahs,ac4];refine qW ab lo (.inl rfl) λcc pG gc nQ=>?_;have b0:=nQ 5056064000 U;rcases gc with⟨e,_⟩|⟨_,Q,e,hC⟩
 .exact absurd (by simpa using e) aN
 cases e;rw[cH];simp only[go_sem]at b0;simp only[go_sem];refine c_ (λk j aj=>j 3=.one (.mS 5056064000 1)/\j 4=.one (.hsl 5056128064 Q 6 0 (I L))/\j 10=.one (.hsl 5056128064 Q 6 0 (I L))/\j 11=aC (I L)/\j 12=aC k/\
  aj 5056064000=(1,some (.map false (P_ (zk (jO [] (L.take k)) 0))))/\aj 5056128064=(Q,some (.arr fI 6 (bQ (tc L k))))) 0 (I L) (cE _) ?_ ?_
 .simp only[go_sem,b0];exact⟨rfl,rfl,hC⟩
 rintro k j aj hk ⟨R,D,T,fe,O,bM,B⟩
 by_cases u:k<I L
 .have Z:((k:Int)<(I L:Int)):=J;obtain⟨x,X⟩:=aR u;have hx:=aqZ X;have N:k<I (tc L k):=by rw[aAT];exact u
  have E:=fP hx;have km:=It X;obtain⟨n1,_⟩:=alm (L.take k) [] tA;have hsl:∀(l:ae) (s:cV),I (jO s l)<=I s+I l:=by
   intro l
   induction l with
   |nil=>intro s;exact cT _
   |cons a r ih=>
    intro s;unfold jO;split
    .split
     .have:=ih s;simp only[dw];omega
     have:=ih (s++[a.id]);simp only[fv,dw,eK]at this |-;omega
    have:=ih s;simp only[dw];omega
  have g:=hsl (L.take k) [];rw[iM]at g;simp only[eK]at g;have Y:=cP (n:=k) J;cases m:(x.kind==2)with
  |false=>obtain⟨e1,e2⟩:=aFG X m;rw[<-e1]at B E N;rw[<-e2]at bM;simp only[go_sem,N0,R,D,T,fe,O,bM,B,N,u,Z,E,aa.ps,m,bne,Y,af,au]
  |true=>
   have f:=aqr X;have H:=aht (L.take k) x [];rw[<-km,m,aH rfl]at H;unfold JH at f;rw[m,aH rfl]at f;generalize jO [] (L.take k)=s at f H bM g;have w2:=cP (n:=I s) J;have F:=amJ (zk s 0) x.id 0;rw[ajN]at F;have iB:=avz s 0;cases M:s.contains x.id with
   |false=>
    rw[M]at f H F;simp only[eX,if_false,HX]at f H F;have y:=amJ (zk (s++[x.id]) 0) x.id 0;rw[ajN,show(s++[x.id]).contains x.id=true by simp]at y;have I7:(s++[x.id]).idxOf x.id=I s:=by rw[aec,aw (λh=>by rw[D1.2 h]at M;cases M)];simp
    rw[I7]at y;simp only[if_true,se,kA]at y;have qm:=ax2 x.id s 0;rw[kA]at qm;rw[<-qm,<-anV]at y;have A:(bQ (tc L k)).set k [.int .i64 x.kind,.int .i64 x.gate,.int .i64 x.ay,.int .i64 ((I s+1:Nat):Int),.int .i64 x.sign,.bool x.over]=bQ (tc L (k+1)):=by rw[<-f,<-amr];rfl
    simp only[go_sem,N0,R,D,T,fe,O,bM,B,N,u,Z,E,aa.ps,m,bne,Y,w2,iB,ni,mW,j4,AT,zd,F,HX,y,A,af,au];rw[H,<-qm,<-anV]
   |true=>
    rw[M]at f H F;simp only[if_true,se,kA]at f H F;have hv:((((s.idxOf x.id+1:Nat):Int))==0)=false:=by rw[ng];omega
    have A:(bQ (tc L k)).set k [.int .i64 x.kind,.int .i64 x.gate,.int .i64 x.ay,.int .i64 ((s.idxOf x.id+1:Nat):Int),.int .i64 x.sign,.bool x.over]=bQ (tc L (k+1)):=by rw[<-f,<-amr];rfl
    simp only[go_sem,N0,R,D,T,fe,O,bM,B,N,u,Z,E,aa.ps,m,bne,Y,w2,iB,ni,mW,j4,AT,zd,F,HX,hv,A,af,au];rw[H]
 have:k=I L:=J;subst this;have hX:tc L (I L)=j_ L:=by unfold tc j_;rw[jN,Ak,lg]
 rw[hX]at B;have z:=zE L;simp only[go_sem,N0,ahM,R,D,T,fe,O,dW];refine uX (.inr ⟨?_,Q,by rw[cH,z],B⟩);intro h2;have:=congrArg List.length h2;rw[cH,z]at this;exact aN (uE.1 this)
def Im(g:ae)(i:Nat):Bool:=((aZ g.reverse i).kind==1)&& !((mg g).getD (I g-1-i) false)
def qU(g:ae):ae:=match (List.range (I g)).find? (Im g)with
 |some i=>fL g.reverse i
 |none=>g.reverse
def Kd(g:ae):I (qU g)=I g:=by
 unfold qU;split
 .rw[AA,lK]
 rw[lK]
def aBo(Z:g≠[])(hl:I g<=1000000):aJ S 78 [.one (.p (o_ F g))] (.one (aX fI 6 (bQ (qU g)))):=by
 have ad:=aeZ Z hl;have lo:S.lone 4992064320=false:=ah;have mU:S.lone 4992512128=false:=ah;have rB:=Kd g;generalize H:qU g=R at rB;refine bt ajt ?_;simp only[go_sem,ad9,ac4];refine qW ad lo (.inl rfl) λcc pG gc nQ=>?_;simp only[go_sem,afa];refine azQ (f:=116) (E:=bQ g) (id:=4992064320) (T:=fI) (z:=6) (λo h=>awW o (by simp;omega) (aBa _) h) (gc.of_eq rfl) λag im an=>?_;rw[arB]at im;rcases im with⟨e,_⟩|⟨_,gg,e,hC⟩
 .have:=congrArg List.length e;rw[cH,lK]at this;exact absurd (uE.1 this) Z
 cases e;rw[cH,lK];simp only[go_sem];have Lw:I g.reverse=I g:=lK;have xL:IntKind.i64.wrap ((I g:Int)-1)=((I g-1:Nat):Int):=by have:=jr.2 Z;rw[nK J J];omega
 have DT:I (mg g)=I g:=by simp[mg]
 unfold qU at H;have jH:∀i,Im g i=(((aZ g.reverse i).kind==1)&& !((mg g).getD (I g-1-i) false)):=λ_=>rfl;generalize Im g=B at H jH;generalize g.reverse=X at hC Lw gc H jH;refine c_ (λk D aj=>D 0=.one (.p (o_ F g))/\D 3=.one (.hsl 4992064320 gg 6 0 (I g))/\D 15=aC (I g)/\D 16=aC k/\aj 4992064320=(gg,some (.arr fI 6 (bQ X)))/\ ∀j,j<k->B j=false) 0 (I g) (cE _) ?_ ?_
 .simp only[go_sem,hC];first|exact⟨rfl,λj h=>absurd h (mX j)⟩|exact⟨rfl,rfl,λj h=>absurd h (mX j)⟩
 rintro k D aj hk ⟨L,Q,Y,E,T,dL⟩
 by_cases M:k<I g
 .have aO:((k:Int)<(I g:Int)):=J;have O:k<I X:=J;have N:=fP (js O);have w1:=cP (n:=k) J;have w2:IntKind.i64.wrap (((I g-1:Nat):Int)-(k:Int))=((I g-1-k:Nat):Int):=by
   rw[nK J J];omega
  obtain⟨d,hd⟩:=aR (L:=mg g) (k:=I g-1-k) J;have mf:=qG hd;have A:I g-1-k<I (mg g):=J;have m:=jH k;rw[show(mg g).getD (I g-1-k) false=d by rw[dS,hd];rfl]at m;generalize aZ X k=x at N m;have ac:I g<=I X:=J;have ab:List.take (I g) (bQ X)=bQ X:=e_ (by rw[cH];omega);have pr:=af2 X k J J;have aK:B k=false->∀j,j<k+1->B j=false:=λhb j hj=>by
   rcases m_.1 hj with h|rfl
   .exact dL j h
   exact hb
  cases u:(x.kind==1)with
  |false=>rw[u,Ts]at m;simp only[go_sem,JZ,L,Q,Y,E,T,O,M,aO,N,aa.ps,u,xL,w1,w2,mf,A];exact aK m
  |true=>
   cases d with
   |true=>rw[u]at m;simp only[go_sem,JZ,L,Q,Y,E,T,O,M,aO,N,aa.ps,u,xL,w1,w2,mf,A];exact aK m
   |false=>rw[u]at m;have hf:(List.range (I g)).find? B=some k:=Cz M dL m;rw[hf]at H;have H:fL X k=R:=H;unfold fL at H;simp only[go_sem,JZ,L,Q,Y,E,T,O,M,aO,N,aa.ps,u,xL,w1,w2,mf,A,ac,ab,Ux];refine qW pr mU (.inr (pA (zf _))) λcr fy y dO=>?_;rw[H]at y;simp only[go_sem];exact uX y
 have:k=I g:=J;subst this;have hf:(List.range (I g)).find? B=none:=Gb λj hj=>dL j hj;rw[hf]at H;have H:X=R:=H;subst H;simp only[go_sem,JZ,aam,L,Q,Y,E,dW];refine uX (.inr ⟨?_,gg,by rw[cH,Lw],T⟩);intro h2;have:=congrArg List.length h2;rw[cH,Lw]at this;exact Z (uE.1 this)
def ym(l:ae)(i:Nat):Bool:=((aZ l i).kind==1)&&decide (ai aa.aM (l.take i)%2=0)
def sO(l:ae)(n:Nat):uk:=(List.range n).filterMap λi=>if ym l i then some (j_ (fL l i))else none
def aDo(l:ae)(n:Nat):sO l (n+1)=sO l n++(if ym l n then [j_ (fL l n)]else []):=by unfold sO;rw[r9,Pu];congr 1;cases h:ym l n<;>simp[h]
def tF(z:Option ae)(y:ae):Option ae:=match z with
 |none=>some y
 |some z=>if jE y z then some y else some z
def zw(V:uk):Option ae:=V.foldl tF none
def azK(V:uk)(y:ae):zw (V++[y])=tF (zw V) y:=by unfold zw;rw[za];rfl
def atx{V:uk}:∀ {o z},V.foldl tF o=some z->z∈V\/o=some z:=by
 induction V with
 |nil=>intro o z h;exact .inr h
 |cons y V f=>
  intro o z h;rcases f (o:=tF o y) h with H|H
  .exact .inl (by simp[H])
  cases o with
  |none=>cases H;exact .inl aQ
  |some w=>
   unfold tF at H;simp only at H;split at H
   .cases H;exact .inl aQ
   exact .inr H
def W5{V:uk}{z:ae}(h:zw V=some z):z∈V:=by
 rcases atx h with h|h
 .exact h
 cases h
def lV:Option ae->PV
 |none=>.nils
 |some Y=>c8 Y
def vw(F:Nat)(g:ae)(f:Nat)(bs:s_)(k:Nat)(V:uk)(A:bn)(aj:aB):Prop:=
 A 0=.one (.p (o_ F g))/\A 2=.one (.bh 2560000000 1 0)/\A 17=.one (.hsl 2560128448 f 1 0 2)/\A 18=aC 2/\A 19=aC k/\A 3=.one (.p (lV (zw V)))/\
 aj 2560000000=(1,some (.var [.p (.int .i64 0),.p .nils]))/\aj 2560128448=(f,some (.arr 22 1 bs))
def ahK(l:ae){i:Nat}(h:l[i]?=some x):decide (ai aa.aM (l.take (i+1))%2=0)=if x.kind==1 then !decide (ai aa.aM (l.take i)%2=0)else decide (ai aa.aM (l.take i)%2=0):=by
 rw[It h,Dl];have:ai aa.aM [x]=if x.kind==1 then 1 else 0:=by show List.countP _ [x]=_;rw[R8];rfl
 rw[this];generalize ai aa.aM (l.take i)=n;cases(x.kind==1)
 .simp
 simp only[if_true];rw[sH,mP,kB,decide_eq_false_iff_not];omega
def anh{F:Nat}{g l:ae}{gB k:Nat}{bs:s_}{V:uk}{Q:fM}{A:bn}{aj:aB}(aN:l≠[])(vA:I l=I g)(hl:I g<=1000000)(hV:∀y∈V,I y=I g)(hI:vw F g gB bs k V A aj)(h5:A 5=.one (.p (c8 l)))(N:A 6=fT true)(rA:A 23=.one (.p (c8 l)))(O:A 24=aC (I g))(M:A 25=aC 0)
  (hK:∀aE ao,vw F g gB bs k (V++sO l (I g)) aE ao->Q .normal aE ao):bP S .all (.loop BB) (ld 2 Q) A aj:=by
 refine c_ (λi A aj=>vw F g gB bs k (V++sO l i) A aj/\A 5=.one (.p (c8 l))/\A 6=fT (decide (ai aa.aM (l.take i)%2=0))/\A 23=.one (.p (c8 l))/\A 24=aC (I g)/\A 25=aC i) 0 (I g) (cE _) ⟨by rw[show sO l 0=[]from rfl,lg];exact hI,h5,N,rA,O,M⟩ ?_;rintro i A aj hi ⟨⟨B,m,D,E,L,H,b0,bB⟩,h5,N,rA,O,M⟩
 by_cases aq:i<I g
 .have aO:((i:Int)<(I g:Int)):=J;have LY:i<I l:=J;have tx:=js LY;have jz:=fP tx;have X:=ahK l tx;have u:=aDo l i;unfold ym at u;have pS:∀y∈V++sO l i,I y=I g:=λy hy=>by
   rcases fc.1 hy with h|h
   .exact hV y h
   obtain⟨j,_,e⟩:=Ae.1 h;split at e
   .cases e;rw[zE,AA,vA]
   cases e
  generalize aZ l i=x at jz X u;generalize decide (ai aa.aM (l.take i)%2=0)=d at X u N;generalize sO l i=W0 at*;have w1:=cP (n:=i) J;have pr:=af2 l i J J;have Lw:I (fL l i)=I g:=by rw[AA,vA]
  rw[show l.drop i++l.take i=fL l i from rfl]at pr;generalize fL l i=R at pr Lw u;have TK:R≠[]:=jr.1 J;have pn:=asY R TK J;have hY:=zE R;generalize j_ R=Y at pn hY u;have T:Y≠[]:=jr.1 J;have iI:S.lone 2560704128:=abL ah;have mU:S.lone 2560704192:=abL ah;cases dd:(x.kind==1)with
  |false=>rw[dd]at X u;simp only[Ts,eX,if_false,lg]at X u;simp only[go_sem,BB,B,m,H,h5,N,D,E,L,rA,O,M,LY,aq,aO,jz,aa.ps,dd,bne,w1,b0,bB,af,au];simp only[go_sem,vw,u,X,B,m,H,D,E,L,b0,bB,af,au]
  |true=>
   rw[dd]at X u;cases d with
   |false=>simp only[tg,eX,if_false,if_true,lg,GD]at X u;simp only[go_sem,BB,B,m,H,h5,N,D,E,L,rA,O,M,LY,aq,aO,jz,aa.ps,dd,bne,w1,b0,bB,af,au];simp only[go_sem,vw,u,X,B,m,H,D,E,L,b0,bB,af,au]
   |true=>
    simp only[tg,if_true,zl]at X u;have f:zw (V++(W0++[Y]))=tF (zw (V++W0)) Y:=by rw[<-s5,azK]
    cases hz:zw (V++W0)with
    |none=>rw[hz]at f H;have f:zw (V++(W0++[Y]))=some Y:=f;have H:A 3=.one (.p .nils):=H;simp only[go_sem,BB,B,m,H,h5,N,D,E,L,rA,O,M,LY,aq,aO,jz,aa.ps,dd,bne,w1,b0,bB,Ux,a_ pr (HI TK iI),abB,a_ pn (HI T mU),af,au];simp only[go_sem,vw,u,X,f,lV,B,m,H,D,E,L,b0,bB,af,au]
    |some Z=>
     rw[hz]at f H;have hZ:=pS Z (W5 hz);have H:A 3=.one (.p (c8 Z)):=H;have pb:=avy Y Z J J;obtain⟨e,es,he⟩:∃e es,bQ Z=e::es:=by
      cases Z with
      |nil=>simp at hZ;omega
      |cons z t=>exact⟨_,_,rfl⟩
     have ab:PV.sl (e::es)=c8 Z:=by rw[<-he]
     rw[<-ab]at pb H;unfold tF at f;simp only at f;cases hb:jE Y Z with
     |false=>rw[hb]at pb f;simp only[eX,if_false]at f;simp only[go_sem,BB,B,m,H,h5,N,D,E,L,rA,O,M,LY,aq,aO,jz,aa.ps,dd,bne,w1,b0,bB,Ux,a_ pr (HI TK iI),abB,a_ pn (HI T mU),ako,aD pb,af,au];simp only[go_sem,vw,u,X,f,lV,ab,B,m,H,D,E,L,b0,bB,af,au]
     |true=>rw[hb]at pb f;simp only[if_true]at f;simp only[go_sem,BB,B,m,H,h5,N,D,E,L,rA,O,M,LY,aq,aO,jz,aa.ps,dd,bne,w1,b0,bB,Ux,a_ pr (HI TK iI),abB,a_ pn (HI T mU),ako,aD pb,af,au];simp only[go_sem,vw,u,X,f,lV,B,m,H,D,E,L,b0,bB,af,au]
 have:i=I g:=J;subst this;simp only[go_sem,BB,O,M,dW,af,au];refine hK _ _ ?_;simp only[go_sem,vw,B,m,H,D,E,L,b0,bB,af,au]
def AF(g:ae):uk:=sO g (I g)++sO (qU g) (I g)
def mF(g:ae):Option ae:=zw (AF g)
def aeb{l:ae}{n:Nat}(h:y∈sO l n):I y=I l:=by
 obtain⟨j,_,e⟩:=Ae.1 h;split at e
 .cases e;rw[zE,AA]
 cases e
def aEP(Q:g≠[])(hl:I g<=1000000):aJ S 40 [.one (.p (o_ F g))] (.agg [.p (.int .i64 F),.p (lV (mF g))]):=by
 have pb:=aBo (F:=F) Q hl;have O:=Kd g;generalize M:mF g=R;unfold mF AF at M;generalize qU g=B at pb O M;have A:B≠[]:=by have:=jr.2 Q;exact jr.1 J
 have Z:S.lone 2560128384:=abL ah;refine bt afc ?_;simp only[go_sem,adO,ahv,ow pb (HI A Z),af,au];refine⟨aI,?_⟩;refine c_ (λk=>vw F g 1 [[c8 g],[c8 B]] k (if k=0 then []else if k=1 then sO g (I g) else sO g (I g)++sO B (I g))) 0 2 (cE _) ?_ ?_
 .simp only[go_sem,vw,af,au];first|done|exact⟨rfl,rfl⟩|exact⟨rfl,rfl,rfl⟩|exact⟨rfl,rfl,rfl,rfl,rfl,rfl,rfl,rfl⟩|rfl
 intro k ak aj hk Y;obtain⟨j,f,m,u,x,H,b0,bB⟩:=Y;by_cases aq:k<2
 .have N:k=0\/k=1:=J;have E:((0:Nat):Int)<2:=U;have L:((1:Nat):Int)<2:=U;rcases N with rfl|rfl
  .simp only[go_sem,H9,j,f,H,m,u,x,bB,E,af,au];refine anh (F:=F) (g:=g) (l:=g) (gB:=1) (k:=0) (bs:=[[c8 g],[c8 B]]) (V:=[]) Q rfl hl (λy h=>by cases h) ?_ rfl rfl rfl rfl rfl λT X D=>?_
   .simp only[go_sem,vw,j,f,H,m,u,x,b0,bB,af,au];first|done|rfl
   obtain⟨j,f,m,u,x,H,b0,bB⟩:=D;rw[fN]at H;simp only[go_sem,vw,OK,j,f,H,m,u,x,b0,bB,af,au];first|done|rfl|exact⟨rfl,rfl⟩
  simp only[go_sem,H9,j,f,H,m,u,x,bB,L,af,au];refine anh (F:=F) (g:=g) (l:=B) (gB:=1) (k:=1) (bs:=[[c8 g],[c8 B]]) (V:=sO g (I g)) A O hl (λy h=>aeb h) ?_ rfl rfl rfl (by rw[<-O];rfl) rfl λT X D=>?_
  .simp only[go_sem,vw,j,f,H,m,u,x,b0,bB,af,au];first|done|rfl
  obtain⟨j,f,m,u,x,H,b0,bB⟩:=D;simp only[go_sem,vw,OK,j,f,H,m,u,x,b0,bB,af,au];first|done|rfl|exact⟨rfl,rfl⟩
 have:k=2:=J;subst this;have z:¬(((2:Nat):Int)<2):=U;have H:ak 3=.one (.p (lV R)):=by rw[<-M];exact H
 simp only[go_sem,H9,acY,j,f,H,m,u,x,b0,z,af,au];cases R<;>rfl
def ahA(j:pI){f:Int}(hl:I g<=1000000)(H:dA f g=0):aJ S 23 [df f g] (.tup [.agg [.p (.int .i64 f),.p (lV (mF g))],.one (.p (.int .i64 0))]):=by
 have pr:=R1 f g hl;rw[Ng H]at pr;have h:aJ S 40 [.one (.p (if g=[]then As f else o_ f.toNat g))] (.agg [.p (.int .i64 f),.p (lV (mF g))]):=by
  by_cases A:g=[]
  .rw[aH A];subst A;exact azM j f
  rw[aw A];obtain⟨F,m,u⟩:=uU H A;subst m;exact aEP (F:=F) A hl
 have E:(if g=[]then As f else o_ f.toNat g).norm=(if g=[]then As f else o_ f.toNat g):=by split<;>simp only[ahu]
 generalize(if g=[]then As f else o_ f.toNat g)=dg at pr h E;generalize lV (mF g)=c at*;refine bt aGB ?_;simp only[go_sem,aiw,N6,a_ pr cS,ayM,a_ h aFQ,E,af,au];rfl
def ays:∀ {A B:cV},I A=I B->r6 A B=false->r6 B A=false->A=B:=by
 intro A
 induction A with
 |nil=>intro B h _ _;cases B with
  |nil=>rfl
  |cons _ _=>cases h
 |cons a A g=>
  intro B h f H;cases B with
  |nil=>cases h
  |cons b B=>
   unfold r6 at f H;by_cases e:a=b
   .subst e;rw[aH rfl]at f H;rw[g (by simpa using h) f H]
   rw[aw e]at f;rw[aw (Ne.symm e)]at H;have:=gU f;have:=gU H;omega
def aue{a b:aa}(h:ss a=ss b):a=b:=by
 cases a with|mk k g r i s o=>cases b with|mk B A R z y O=>
 unfold ss at h;simp only[vN,and_true]at h;obtain⟨u,H,f,m,x,j⟩:=h;have:o=O:=by revert x;cases o<;>cases O<;>simp
 subst u H f m j this;rfl
def aao:∀ {A B:ae},I A=I B->jE A B=false->jE B A=false->A=B:=by
 intro A
 induction A with
 |nil=>intro B h _ _;cases B with
  |nil=>rfl
  |cons _ _=>cases h
 |cons a A g=>
  intro B h f H;cases B with
  |nil=>cases h
  |cons b B=>
   unfold jE at f H;by_cases e:a=b
   .subst e;rw[aH (OR a)]at f H;rw[g (by simpa using h) f H]
   have e1:¬oE a b=true:=λx=>e ((F8 _ _).1 x);have e2:¬oE b a=true:=λx=>e ((F8 _ _).1 x).symm;rw[aw e1,NN]at f;rw[aw e2,NN]at H;exact absurd (aue (a:=a) (b:=b) (ays rfl f H)) e
def aES{n:Nat}:∀ {V:uk}{o z},(∀y∈V,I y=n)->(∀w,o=some w->I w=n)->V.foldl tF o=some z->(∀y∈V,jE y z=false)/\(∀w,o=some w->jE w z=false):=by
 intro V
 induction V with
 |nil=>intro o z _ _ h;refine⟨λy j=>(by cases j),λw H=>?_⟩;have h:o=some z:=h;rw[h]at H;cases H;exact V5 z
 |cons y V F=>
  intro o z L M h;have A:=L y aQ;have g:∀u∈V,I u=n:=λu f=>L u (by simp[f]);cases o with
  |none=>
   obtain⟨x,m⟩:=F (o:=some y) g (λw H=>by cases H;exact A) h;refine⟨λw H=>?_,λw H=>(by cases H)⟩;rcases dk.1 H with rfl|H
   .exact m w rfl
   exact x w H
  |some w=>
   have X:=M w rfl;have h:V.foldl tF (tF (some w) y)=some z:=h;cases E:jE y w with
   |true=>
    have e:tF (some w) y=some y:=by unfold tF;simp only[E,if_true]
    rw[e]at h;obtain⟨x,m⟩:=F (o:=some y) g (λw H=>by cases H;exact A) h;have j:=m y rfl;refine⟨λu f=>?_,λu f=>?_⟩
    .rcases dk.1 f with rfl|f
     .exact j
     exact x u f
    cases f;cases D:jE w z
    .rfl
    rw[V8 E D]at j;cases j
   |false=>
    have e:tF (some w) y=some w:=by unfold tF;simp only[E,eX,if_false]
    rw[e]at h;obtain⟨x,m⟩:=F (o:=some w) g (λw H=>by cases H;exact X) h;have H:=m w rfl;refine⟨λu f=>?_,λu f=>by cases f;exact H⟩;rcases dk.1 f with rfl|f
    .cases D:jE u z
     .rfl
     cases B:jE w u with
     |true=>rw[V8 B D]at H;cases H
     |false=>rw[aao J E B]at D;rw[D]at H;cases H
    exact x u f
def aDV{n:Nat}{V:uk}{z:ae}(f:∀y∈V,I y=n)(h:zw V=some z):z∈V/\ ∀y∈V,jE y z=false:=
 ⟨W5 h,(aES f (λw H=>by cases H) h).1⟩
def avE{V:uk}(h:V≠[]):∃z,zw V=some z:=by
 have key:∀(V:uk) (w:ae),∃z,V.foldl tF (some w)=some z:=by
  intro V
  induction V with
  |nil=>intro w;exact⟨w,rfl⟩
  |cons y V f=>
   intro w;show∃z,V.foldl tF (tF (some w) y)=some z;unfold tF;simp only;split
   .exact f y
   exact f w
 cases V with
 |nil=>exact absurd rfl h
 |cons y V=>exact key V y
def WI{l:ae}{i:Nat}(j:i<I l):ym l i↔Sl l i:=by
 have h:=js j;unfold ym Sl wc;rw[dj,kB];constructor
 .rintro ⟨g,H⟩
  exact⟨⟨_,h,g⟩,H⟩
 rintro⟨⟨x,f,hp⟩,H⟩
 rw[h]at f;cases f;exact⟨hp,H⟩
def apK{l:ae}:y∈sO l (I l)↔Dc l y:=by
 unfold sO Dc;rw[Ae];constructor
 .rintro ⟨i,h,e⟩
  have h:=gI.1 h;split at e
  .rename_i H;cases e;exact⟨i,h,(WI h).1 H,rfl⟩
  cases e
 rintro⟨i,h,f,rfl⟩
 exact⟨i,gI.2 h,by rw[aH ((WI h).2 f)]⟩
def aAN(D:ai aa.aM g%2=0):∃j,j<=I g/\wc g.reverse j/\qU g=fL g.reverse j:=by
 unfold qU;split
 .rename_i i z;have F:=gI.1 (Eo z);have m:=IK z;unfold Im at m;rw[dj]at m;obtain⟨f,H⟩:=m;refine⟨i,J,?_,rfl⟩;obtain⟨x,y⟩:=aR (L:=g) (k:=I g-1-i) J;have u:g.reverse[i]?=some x:=by rw[IW J];exact y
  rw[amp u]at f;have A:(mg g).getD (I g-1-i) false=c9 g (I g-1-i):=by unfold mg;rw[dS,fY,qx J];show jK g (I g-1-i)=_;unfold jK;rw[y];show(x.aM&&_)=_;rw[show x.aM=true from f,tg]
  rw[A]at H;unfold c9 at H;unfold wc;rw[List.take_reverse,EV];have e1:ai aa.aM g=ai aa.aM (g.take (I g-i))+ai aa.aM (g.drop (I g-i)):=by rw[<-Dl,ot]
  have e2:=ahK g y;rw[show I g-1-i+1=I g-i by omega,f,aH rfl]at e2;have B:¬ai aa.aM (g.take (I g-1-i))%2=0:=by intro h;rw[h]at H;cases H
  rw[tJ B]at e2;have E:ai aa.aM (g.take (I g-i))%2=0:=lp e2;omega
 refine⟨0,cE _,rfl,?_⟩;unfold fL;simp
def aCQ{l:ae}(f:j<=I l)(H:ai aa.aM l%2=0)(hp:wc l j):wc (fL l j) (I l-j)/\fL (fL l j) (I l-j)=l:=by
 have h:I (l.drop j)=I l-j:=l8;have e1:ai aa.aM l=ai aa.aM (l.take j)+ai aa.aM (l.drop j):=by rw[<-Dl,ot]
 unfold wc at*;unfold fL;rw[<-h,Gn,VO,ot];exact⟨J,rfl⟩
def aAm{l:ae}(f:j<=I l)(H:ai aa.aM l%2=0)(hp:wc l j):Dc (fL l j) y↔Dc l y:=by refine⟨anr f H hp,λh=>?_⟩;obtain⟨g,m⟩:=aCQ f H hp;refine anr (l:=fL l j) (j:=I l-j) (by rw[AA];omega) (by rw[al5];exact H) g ?_;rw[m];exact h
def Dr(a b:ae):Prop:=I a=I b/\ai aa.aM a%2=ai aa.aM b%2/\ ∀y,DA a y↔DA b y
def Dr.refl(a:ae):Dr a a:=⟨rfl,rfl,λ_=>Iff.rfl⟩
def Dr.symm{a b:ae}(h:Dr a b):Dr b a:=⟨h.1.symm,h.2.1.symm,λy=>(h.2.2 y).symm⟩
def Dr.trans{a b c:ae}(h:Dr a b)(k:Dr b c):Dr a c:=⟨h.1.trans k.1,h.2.1.trans k.2.1,λy=>(h.2.2 y).trans (k.2.2 y)⟩
def Gj{l:ae}(h:ai aa.aM l%2=0):y∈AF l↔DA l y:=by
 obtain⟨j,H,hp,e⟩:=aAN h;unfold AF DA;have hl:sO (qU l) (I l)=sO (qU l) (I (qU l)):=by rw[Kd]
 rw[fc,hl,apK,apK,e,aAm (by rw[lK];exact H) (by rw[EV];exact h) hp]
def Sx{l:ae}(h:y∈AF l):I y=I l:=by
 unfold AF at h;rcases fc.1 h with h|h
 .exact aeb h
 rw[aeb h,Kd]
section
variable {F:Nat} {g:ae}
def cK.aiC(f:cK F g):Sl g 0:=by obtain⟨l,H,h⟩:=f.first;exact⟨⟨l,H,h⟩,rfl⟩
def fW(g:ae):ae:=(mF g).getD []
def cK.Et(m:cK F g):mF g=some (fW g)/\DA g (fW g)/\ ∀y,DA g y->jE y (fW g)=false:=by
 have h:=m.even;have x:DA g (j_ (fL g 0)):=.inl ⟨0,jr.2 m.ne,m.aiC,rfl⟩;have A:AF g≠[]:=λe=>by have:=(Gj h).2 x;rw[e]at this;cases this
 obtain⟨z,j⟩:=avE A;obtain⟨u,Z⟩:=aDV (λy H=>Sx H) j;have f:mF g=some z:=j;have e:fW g=z:=by unfold fW;rw[f];rfl
 rw[e];exact⟨f,(Gj h).1 u,λy H=>Z y ((Gj h).2 H)⟩
def cK.form(f:cK F g)(h:DA g y):dA (F:Int) y=0:=by
 have c:=f.cz;have hl:I (mY g)<=400:=by rw[Jr];exact f.len
 have m:ai aa.aF (bG (mY g))<=200:=by rw[nV];exact f.cr
 have u:∀x,(mY g)[0]?=some x->x.i.b=false:=λx H=>by have j:0<I g:=jr.2 f.ne;rw[EG j]at H;cases H;rw[adY f j];rfl
 rcases h with h|h
 .exact anP c u hl m f.fing (by rw[nV];exact h)
 refine anP c.rv ?_ (by rw[cH,lK];exact hl) (by rw[KS,EV];exact m) f.fing (by rw[KS,nV];exact h);intro x H;rw[fY]at H;have j:0<I g:=jr.2 f.ne;rw[IW (by rw[Jr];exact j),Jr,EG J]at H;cases H;show(fx g (I g-1-0)).o.b=false;show(!c9 g (I g-1-0+1))=false;rw[show I g-1-0+1=I g by omega,akw f];rfl
end
def Bi(g:ae):I (fW g)<=I g:=by
 unfold fW;cases h:mF g with
 |none=>exact cE _
 |some z=>have:=Sx (W5 h);show I z<=_;omega
def acq(o:Option ae):(lV o).norm=c8 (o.getD []):=by
 cases o with
 |none=>rfl
 |some Y=>rfl
def iY(F:Nat)(g:ae)(m:dx):Option ae:=
 if g=[]then if dc F [] m.k m.a m.b m.c m.l m.o m.s=true then some (ax0 m.b.toNat)else none
 else if dc F g m.k m.a m.b m.c m.l m.o m.s=true then match qi F g m.k m.a.toNat m.b.toNat m.c.toNat m.l m.o m.s with
  |none=>none
  |some M=>if(400:Int)<(I g:Int)+(og m.k).1\/(100:Int)<((ai aa.aF g/2:Nat):Int)+(og m.k).2 then none else some (oo M)
 else none
def axu{e:Int}(H:e≠0):nm F L≠sV e:=λh=>by unfold nm sV at h;simp only[RV.tup.injEq,vN,RV.one.injEq,kJ.p.injEq,PV.int.injEq,and_true,true_and]at h;exact H h.2.symm
def pJ(F:Nat):ae->dB->Option ae
 |g,[]=>some g
 |g,m::M=>match iY F g m with
  |none=>none
  |some L=>pJ F L M
def ade{M:dB}(m:dx)(h:pJ F g M=some L):pJ F g (M++[m])=iY F L m:=by
 induction M generalizing g with
 |nil=>have e:g=L:=lq h;rw[<-e];show(match iY F g m with|none=>none|some L=>some L)=_;cases iY F g m<;>rfl
 |cons a r f=>
  show(match iY F g a with|none=>none|some L=>pJ F L (r++[m]))=_;have h:(match iY F g a with|none=>none|some L=>pJ F L r)=some L:=h;cases H:iY F g a with
  |none=>rw[H]at h;cases h
  |some bK=>rw[H]at h;exact f h
def aDv{m r:dB}(h:pJ F g m=none):pJ F g (m++r)=none:=by
 induction m generalizing g with
 |nil=>cases h
 |cons a q f=>
  show(match iY F g a with|none=>none|some L=>pJ F L (q++r))=_;have h:(match iY F g a with|none=>none|some L=>pJ F L q)=none:=h;cases H:iY F g a with
  |none=>rfl
  |some bK=>rw[H]at h;exact f h
def Oh(h:dA (F:Int) g=0):dA (F:Int) (fW g)=0:=by
 by_cases A:g=[]
 .subst A;exact h
 obtain⟨G,e,f⟩:=uU h A;have:F=G:=J;subst this;exact f.form f.Et.2.1
def w7{f:Int}(h:dA f L=0):I L<=400:=by
 by_cases A:L=[]
 .subst A;exact cE _
 obtain⟨G,_,g⟩:=uU h A;exact g.len
end
end Go.Abs
