/- A part. -/
import Derived.Test.YtgjjncbeombnbaaGreatDoorWl
set_option linter.all false
open List renaming length->I
set_option maxRecDepth 100000
set_option maxHeartbeats 16000000
namespace Go.Abs
variable{j:Nat}{x m:U}{y:af}{z:fI}{T B:Nat->Nat->Nat}{f:Int->Int}{u:aC}
section
variable{F n v:Nat}
def wS(x:aT):aT:=⟨⟨x.p.l,!x.p.d⟩,iZ x.o,iZ x.i⟩
def aed(x:aT):(wS x).up=x.up:=by unfold aT.up wS;cases x.p.d<;>rfl
def adR(x:aT):(wS x).lo=x.lo:=by unfold aT.lo wS;cases x.p.d<;>rfl
def rb.rv{g:Bool}{i o j q:dW}(h:rb g i o j q):rb g (iZ o) (iZ i) (iZ q) (iZ j):=by
 obtain⟨a,b,c,d⟩:=h;cases g
 .simp at a b c d;constructor<;>simp
  .exact b
  .exact a
  .exact d
  exact c
 simp at a b c d;constructor<;>simp
 .exact b
 .exact a
 .exact d
 exact c
def mj.rv{x y:aT}(h:mj x y):mj (wS x) (wS y):=λn m e=>by obtain⟨f,H,j⟩:=h n m e;exact⟨f,H,j.rv⟩
def avD:∀ {z:fI}{s t:dW},ie s z t->ie (iZ t) (z.reverse.map wS) (iZ s):=by
 intro z
 induction z with
 |nil=>intro s t h;cases h;rfl
 |cons x z f=>intro s t h;obtain⟨rfl,h⟩:=h;rw[Xe,fE];exact wJ.2 ⟨iZ x.o,f h,rfl,rfl⟩
def av1:∀ {z:fI}{s t:dW},ie s z t->∀x∈z,(∃y∈z,y.i=x.o)\/x.o=t:=by
 intro z
 induction z with
 |nil=>intro s t _ x H;cases H
 |cons a z f=>
  intro s t h x H;obtain⟨rfl,h⟩:=h;rcases dt.1 H with rfl|H
  .cases z with
   |nil=>exact .inr h
   |cons b z=>exact .inl ⟨b,aH,h.1⟩
  grind
def gE.next{S:aC}(c:gE F z T B S){x:aT}(H:x∈z):∃y∈z,y.i=x.o:=by
 obtain⟨s,h⟩:=c.path;rcases av1 h x H with e|e
 .exact e
 cases z with
 |nil=>cases H
 |cons a z=>exact⟨a,aH,by rw[h.1,e]⟩
def Ih(z:fI):aP (z.reverse.map wS)=(aP z).reverse:=by rw[<-LF];show List.map _ _=_;rw[gi];rfl
def Ab(q:U->Bool)(l:af):au q l.reverse=au q l:=List.countP_reverse
def gE.rv{S:aC}(c:gE F z T B S):gE F (z.reverse.map wS) T B S:=by
 obtain⟨s,h⟩:=c.path;have j:∀x∈z.reverse.map wS,∃y∈z,x=wS y:=λx H=>by grind
 have E:∀g,aJ (aP _) g=aJ (aP z) g:=λg=>by rw[Ih];exact Ab _ _
 refine⟨⟨_,avD h⟩,λx H=>?_,?_,by rw[Ih,Ab];exact c.ev,λx H m=>?_,?_,λx H hp=>?_,λx H hp=>?_,λg v=>by rw[E];exact c.gt g v,by rw[E];exact c.gz,?_,c.nd,λs ae=>?_,by rw[Ih,Ab,Ab];exact c.num⟩
 .obtain⟨y,f,rfl⟩:=j x H;obtain⟨M,A,O⟩:=c.ok y f;refine⟨M,λm=>(A m).symm,λhp=>?_⟩;obtain⟨n,u⟩:=O hp;refine⟨u,?_⟩;show y.o.b= !(!y.p.d);rw[n,AB]
 .refine wE.2 (List.pairwise_reverse.2 (c.cr.imp λ{a b} D=>D.symm.rv))
 .obtain⟨y,f,rfl⟩:=j x H;rw[Ih,Ab];exact c.ids y f m
 .refine wE.2 (List.pairwise_reverse.2 (c.rk.imp λ{a b} D=>D.symm))
 .obtain⟨y,f,rfl⟩:=j x H;rw[E];exact c.rr y f hp
 .obtain⟨y,f,rfl⟩:=j x H;obtain⟨a,b,d,e⟩:=c.pl y f hp;exact⟨by rw[aed];exact a,by rw[aed];exact b,by rw[adR];exact d,by rw[adR];exact e⟩
 .obtain⟨x,H,hp⟩:=c.one;exact⟨wS x,cD.2 ⟨x,yW.2 H,rfl⟩,hp⟩
 obtain⟨x,H,e⟩:=c.wit s ae;obtain⟨y,f,L⟩:=c.next H;refine⟨wS y,cD.2 ⟨y,yW.2 f,rfl⟩,?_⟩;show s=y.i.r\/s=y.i.l;rw[L];exact e.symm
def nL(f:Int->Int)(x:aT):aT:=⟨⟨dk f x.p.l,x.p.d⟩,x.i,x.o⟩
theorem S8(f:Int->Int)(x:U):(dk f x).gate=x.gate:=by unfold dk;split<;>rfl
theorem W5(f:Int->Int)(x:U):(dk f x).ao=x.ao:=by unfold dk;split<;>rfl
def UG(f:Int->Int)(x:U):(dk f x).sign=x.sign:=by unfold dk;split<;>rfl
def XA(f:Int->Int)(x:U):(dk f x).over=x.over:=by unfold dk;split<;>rfl
def TU(f:Int->Int)(x:U):(dk f x).aq=x.aq:=by unfold U.aq;rw[aez]
def TZ(h:x.aq):(dk f x).id=f x.id:=by unfold dk;rw[an (show(x.kind==2)=true from h)]
def Pe(h:x.aq=false):dk f x=x:=by unfold dk;exact ai (by rw[show(x.kind==2)=false from h];decide)
def anj(h:d_ F x=false):d_ F (dk f x)=false:=by grind [dk,d_]
def M8(f:Int->Int)(z:fI):aP (z.map (nL f))=(aP z).map (dk f):=by show List.map _ _=List.map _ _;rw[gi,gi];rfl
def RD{q:U->Bool}(h:∀x,q (dk f x)=q x)(l:af):au q (l.map (dk f))=au q l:=by grind [xt,Aa]
def aw5(f:Int->Int)(l:af)(g:Nat):aJ (l.map (dk f)) g=aJ l g:=RD (λx=>by unfold ir;rw[Gt,S8]) l
def gE.rn{S:aC}(c:gE F z T B S)(hf:inj f (aP z))(hi:∀x∈z,x.k.aq->1<=f x.k.id/\f x.k.id<=((au U.aq (aP z)/2:Nat):Int)):gE F (z.map (nL f)) T B S:=by
 obtain⟨s,h⟩:=c.path;have L:∀x∈z.map (nL f),∃y∈z,x=nL f y:=λx H=>by obtain⟨y,j,rfl⟩:=cD.1 H;exact⟨y,j,rfl⟩
 have M:∀g,aJ (aP (z.map (nL f))) g=aJ (aP z) g:=λg=>by rw[M8,aw5]
 have O:au U.aq (aP (z.map (nL f)))=au U.aq (aP z):=by rw[M8];exact RD (TU f) _
 have eP:au U.aw (aP (z.map (nL f)))=au U.aw (aP z):=by rw[M8];exact RD (Gt f) _
 have N:∀y:aT,(nL f y).k.aq=y.k.aq:=λy=>TU f y.k;have n:∀y:aT,(nL f y).k.aw=y.k.aw:=λy=>Gt f y.k;have kl:∀y∈z,y.k∈aP z:=λy j=>cD.2 ⟨y,j,rfl⟩;have Oi:∀ {z:fI}{s t:dW},ie s z t->ie s (z.map (nL f)) t:=by
  intro z
  induction z with
  |nil=>intro s t h;exact h
  |cons x z ih=>intro s t h;exact⟨h.1,ih h.2⟩
 refine⟨⟨s,Oi h⟩,λx H=>?_,?_,by rw[O];exact c.ev,λx H m=>?_,?_,λx H hp=>?_,λx H hp=>?_,λg hg=>by rw[M];exact c.gt g hg,by rw[M];exact c.gz,?_,c.nd,λs ae=>?_,by rw[eP,O];exact c.num⟩
 .obtain⟨y,j,rfl⟩:=L x H;obtain⟨o1,o2,o3⟩:=c.ok y j;exact⟨anj o1,λm=>o2 (by rw[N]at m;exact m),λhp=>o3 (by rw[n]at hp;exact hp)⟩
 .refine wE.2 (P2 (λ{a b} ha hb Q=>?_) c.cr);intro A D e;rw[N]at A D;have X:f a.k.id=f b.k.id:=by
   have:=e;rwa[show(nL f a).k.id=f a.k.id from TZ A,show(nL f b).k.id=f b.k.id from TZ D]at this
  obtain⟨h1,Z,h3⟩:=Q A D (hf _ (kl a ha) _ (kl b hb) (cW.1 A) (cW.1 D) X);refine⟨?_,?_,?_⟩
  .show(dk f a.k).over= !(dk f b.k).over;rw[XA,XA];exact h1
  .show(dk f a.k).sign=(dk f b.k).sign;rw[UG,UG];exact Z
  show rb (eY (dk f a.k)) _ _ _ _;have:eY (dk f a.k)=eY a.k:=by unfold eY;rw[XA,UG]
  rw[this];exact h3
 .obtain⟨y,j,rfl⟩:=L x H;rw[N]at m;rw[O,show(nL f y).k.id=f y.k.id from TZ m];exact hi y j m
 .refine wE.2 (c.rk.imp λ{a b} Q=>?_);intro Y R e1 X;rw[n]at Y R;refine Q Y R ?_ ?_
  .grind [nL,S8]
  grind [nL,W5]
 .obtain⟨y,j,rfl⟩:=L x H;rw[n]at hp;rw[M,show(nL f y).k.ao=y.k.ao from W5 f y.k,show(nL f y).k.gate=y.k.gate from S8 f y.k];exact c.rr y j hp
 .obtain⟨y,j,rfl⟩:=L x H;rw[n]at hp;obtain⟨a,b,d,e⟩:=c.pl y j hp;have u:(nL f y).up=y.up:=rfl;have w:(nL f y).lo=y.lo:=rfl;have v:(nL f y).k.gate=y.k.gate:=S8 f y.k;have E:(nL f y).k.ao=y.k.ao:=W5 f y.k;exact⟨by rw[u,v,E];exact a,by rw[u,v,E];exact b,by rw[w,v,E];exact d,by rw[w,v,E];exact e⟩
 .obtain⟨x,H,hp⟩:=c.one;exact⟨nL f x,cD.2 ⟨x,H,rfl⟩,by rw[n];exact hp⟩
 obtain⟨x,H,e⟩:=c.wit s ae;exact⟨nL f x,cD.2 ⟨x,H,rfl⟩,e⟩
def aw9:∀(l:af) (s:bQ),s.Nodup->(oq s l).Nodup/\ ∀a∈oq s l,a∈s\/ ∃x∈l,x.aq/\x.id=a:=by
 intro l
 induction l with
 |nil=>intro s h;exact⟨h,λa f=>.inl f⟩
 |cons x r u=>
  intro s h;unfold oq;split
  .rename_i z;split
   .grind
   rename_i A;obtain⟨n,j⟩:=u (s++[x.id]) (by rw[S6];refine⟨h,aH,λa f b v e=>?_⟩;rw[nY.1 v]at e;exact(λh=>A (IT.2 h)) (e▸f))
   refine⟨n,λa f=>?_⟩;rcases j a f with H|⟨y,m,H⟩
   .rcases iR.1 H with H|H
    .exact .inl H
    exact .inr ⟨x,aH,z,(nY.1 H).symm⟩
   exact .inr ⟨y,by simp[m],H⟩
  obtain⟨n,j⟩:=u s h;refine⟨n,λa f=>?_⟩;rcases j a f with H|⟨y,m,H⟩
  .exact .inl H
  exact .inr ⟨y,by simp[m],H⟩
def aoB(l:af)(B:∀x∈l,x.aq->1<=x.id/\x.id<=((au U.aq l/2:Nat):Int)):∃f,inj f l/\nr l=l.map (dk f)/\ ∀x∈l,x.aq->1<=f x.id/\f x.id<=((au U.aq l/2:Nat):Int):=by
 obtain⟨v,j⟩:=avv l [];refine⟨_,?_,v,?_⟩
 .intro x H y A X Y h
  grind [atb]
 intro x H z;have D:=Mj.2 (j x H (cW.1 z));obtain⟨N,E⟩:=aw9 l [] qX;have m:∀a∈oq [] l,1<=a/\a<=((au U.aq l/2:Nat):Int):=λa u=>by grind
 have:=Ij ((oq [] l).map Int.toNat) (List.range' 1 (au U.aq l/2)) ?_ ?_
 .grind
 .refine wE.2 (P2 (λ{a b} u n h e=>h ?_) N);have:=m b n;omega
 grind
def gE.rotN{S:aC}(c:gE F z T B S)(i:Nat):gE F (z.drop i++z.take i) T B S:=by rw[<-jC i z]at c;exact c.l9
def ahz{S:aC}(c:gE F z T B S)(N:∀x,z[0]?=some x->x.i.b=false)(hl:I z<=400)(Y:au U.aq (aP z)<=200)(Z:F<=40)(h:xw (aP z) y):dM F y=0:=by
 obtain⟨i,hi,⟨⟨x,j,hp⟩,X⟩,rfl⟩:=h;obtain⟨e,n,rfl⟩:=As j;have D:e.p.d:=by
  obtain⟨s,ae⟩:=c.path;have H:0<I z:=by have:=(bd.1 n).1;omega
  obtain⟨a,ha⟩:∃a,z[0]?=some a:=⟨z[0],re H⟩;have:=(SD c.ok ae (by rw[<-JL ae ha];exact N a ha) i e n).1;have m:=((c.ok e (aX n)).pb hp).2;rw[this]at m;have O:dn (aP z) i:=by
   unfold dn;have:au U.aw ((aP z).take i)%2=0:=X
   simpa using this
  rw[O]at m;cases Q:e.p.d
  .rw[Q]at m;cases m
  rfl
 have E:aP (z.drop i++z.take i)=fh (aP z) i:=by unfold fh aP;rw[fE,uy,sh]
 have v:au U.aq (fh (aP z) i)=au U.aq (aP z):=Qu _ _ _;obtain⟨f,hf,M,A⟩:=aoB (fh (aP z) i) (λx j u=>by rw[v];obtain⟨w,L,rfl⟩:=cD.1 (CU.1 j);exact c.ids w L u)
 rw[M];rw[<-E]at hf A;have R:z.drop i=e::z.drop (i+1):=by obtain⟨hl,e⟩:=bd.1 n;rw[<-e,uA]
 rw[<-E,<-M8];refine((c.rotN i).rn hf (λx j u=>A _ (cD.2 ⟨x,j,rfl⟩) u)).check (x:=nL f e) (by rw[R];rfl) ?_ D ?_ ?_ Z
 .show(dk f e.k).aw=true;rw[Gt];exact hp
 .grind
 rw[M8,RD (TU f),E,v];exact Y

theorem Wk:∀(l:af) (s:bQ),I (kS s l)=I l:=by
 intro l
 induction l with
 |nil=>intro s;rfl
 |cons a r f=>grind [kS]
theorem Bk(l:af):I (nr l)=I l:=Wk l []
def ayh{L:af}{k:Nat}(h:L[k]?=some x):L.take (k+1)=L.take k++[x]:=by obtain⟨hl,e⟩:=bd.1 h;rw[<-e,List.take_append_getElem]
def NM(h:af)(i:Nat):Bool:=((BG h.reverse i).kind==1)&& !((mF h).getD (I h-1-i) false)
def s9(h:af):af:=match (List.range (I h)).find? (NM h)with
 |some i=>fh h.reverse i
 |none=>h.reverse
def SJ(h:af):I (s9 h)=I h:=by grind [s9,t_]
def A7(l:af)(i:Nat):Bool:=((BG l i).kind==1)&&decide (au U.aw (l.take i)%2=0)
def EL(l:af)(n:Nat):List af:=(List.range n).filterMap λi=>if A7 l i then some (nr (fh l i))else none
def wK(z:Option af)(y:af):Option af:=match z with
 |none=>some y
 |some z=>if lL y z then some y else some z
def Sp(V:List af):Option af:=V.foldl wK none
def asw{V:List af}:∀ {o z},V.foldl wK o=some z->z∈V\/o=some z:=by
 induction V with
 |nil=>intro o z h;exact .inr h
 |cons y V f=>
  intro o z h;rcases f h with H|H
  .grind
  cases o with
  |none=>cases H;exact .inl aH
  |some w=>grind [wK]
def adp{V:List af}{z:af}(h:Sp V=some z):z∈V:=by
 rcases asw h with h|h
 .exact h
 cases h
def Lk:Option af->PV
 |none=>.nils
 |some Y=>od Y
def avz(l:af){i:Nat}(h:l[i]?=some x):decide (au U.aw (l.take (i+1))%2=0)=if x.kind==1 then !decide (au U.aw (l.take i)%2=0)else decide (au U.aw (l.take i)%2=0):=by
 rw[ayh h,EN];have:au U.aw [x]=if x.kind==1 then 1 else 0:=by show List.countP _ [x]=_;rw[YT];rfl
 grind
def BR(h:af):List af:=EL h (I h)++EL (s9 h) (I h)
def Pk(h:af):Option af:=Sp (BR h)
def ahy{l:af}(h:y∈EL l n):I y=I l:=by
 obtain⟨j,_,e⟩:=EH.1 h;split at e
 .cases e;rw[Bk,t_]
 cases e
def aoa:∀ {A B:bQ},I A=I B->qy A B=false->qy B A=false->A=B:=by
 intro A
 induction A with
 |nil=>intro B h _ _;cases B with
  |nil=>rfl
  |cons _ _=>cases h
 |cons a A f=>
  intro B h j H;cases B with
  |nil=>cases h
  |cons b B=>grind [qy]
def auT{a b:U}(h:ug a=ug b):a=b:=by
 cases a with|mk k g r i s o=>cases b with|mk m g' R j f O=>
 grind [ug]
theorem XM:∀ {A B:af},I A=I B->lL A B=false->lL B A=false->A=B:=by
 intro A
 induction A with
 |nil=>intro B h _ _;cases B with
  |nil=>rfl
  |cons _ _=>cases h
 |cons a A j=>
  intro B h f H;cases B with
  |nil=>cases h
  |cons b B=>
   unfold lL at f H;by_cases e:a=b
   .grind [G4]
   rw[ai (λx=>e ((Sh _ _).1 x)),Mw]at f;rw[ai (λx=>e ((Sh _ _).1 x).symm),Mw]at H;exact absurd (auT (a:=a) (b:=b) (aoa rfl f H)) e
def axZ:∀ {V:List af}{o z},(∀y∈V,I y=n)->(∀w,o=some w->I w=n)->V.foldl wK o=some z->(∀y∈V,lL y z=false)/\(∀w,o=some w->lL w z=false):=by
 intro V
 induction V with
 |nil=>grind [O3]
 |cons y V A=>
  intro o z E F h;have x:=E y aH;have j:∀u∈V,I u=n:=λu f=>E u (by simp[f]);cases o with
  |none=>
   obtain⟨v,m⟩:=A j (λw H=>by cases H;exact x) h;refine⟨λw H=>?_,λw H=>(by cases H)⟩;rcases dt.1 H with rfl|H
   .exact m w rfl
   exact v w H
  |some w=>
   have B:=F w rfl;have h:V.foldl wK (wK (some w) y)=some z:=h;cases D:lL y w with
   |true=>
    have e:wK (some w) y=some y:=by unfold wK;simp only[D,if_true]
    rw[e]at h;obtain⟨v,m⟩:=A j (λw H=>by cases H;exact x) h;have L:=m y rfl;refine⟨λu f=>?_,λu f=>?_⟩
    .rcases dt.1 f with rfl|f
     .exact L
     exact v u f
    grind [SR]
   |false=>
    have e:wK (some w) y=some w:=by unfold wK;simp only[D,gJ,if_false]
    rw[e]at h;obtain⟨v,m⟩:=A j (λw H=>by cases H;exact B) h;have H:=m w rfl;refine⟨λu f=>?_,λu f=>by cases f;exact H⟩;rcases dt.1 f with rfl|f
    .grind [SR,XM]
    exact v u f
def aqd{V:List af}{z:af}(f:∀y∈V,I y=n)(h:Sp V=some z):z∈V/\ ∀y∈V,lL y z=false:=
 ⟨adp h,(axZ f (λw H=>by cases H) h).1⟩
def atg{V:List af}(h:V≠[]):∃z,Sp V=some z:=by
 have f:∀(V:List _) (w:af),∃z,V.foldl wK (some w)=some z:=by
  intro V
  induction V with
  |nil=>intro w;exact⟨w,rfl⟩
  |cons y V j=>
   intro w;show∃z,V.foldl wK _=some z;unfold wK;simp only;split
   .exact j y
   exact j w
 cases V with
 |nil=>exact absurd rfl h
 |cons y V=>exact f V y
theorem Vk{l:af}{i:Nat}(m:i<I l):A7 l i↔Dm l i:=by
 have h:=YX m;unfold A7 Dm pV;rw[cN,jn];constructor
 .rintro ⟨j,H⟩
  exact⟨⟨_,h,j⟩,H⟩
 rintro⟨⟨x,f,hp⟩,H⟩
 rw[h]at f;cases f;exact⟨hp,H⟩
def ahU{l:af}:y∈EL l (I l)↔xw l y:=by
 unfold EL xw;rw[EH];constructor
 .rintro _
  grind [Vk]
 rintro⟨i,h,H,rfl⟩
 exact⟨i,fA.2 h,by rw[an ((Vk h).2 H)]⟩
def alS{h:af}(v:au U.aw h%2=0):∃j,j<=I h/\pV h.reverse j/\s9 h=fh h.reverse j:=by
 unfold s9;split
 .rename_i i hf;have y:=fA.1 (Cv hf);have H:=CO hf;unfold NM at H;rw[cN]at H;obtain⟨n,m⟩:=H;refine⟨i,J,?_,rfl⟩;obtain⟨x,f⟩:=aM (h:=h) (k:=I h-1-i) J;rw[aip (by rw[Gb J];exact f)]at n;have u:(mF h).getD (I h-1-i) false=dn h (I h-1-i):=by
   unfold mF;rw[dz,dy,sy J];show dw h (I h-1-i)=_;unfold dw;rw[f];show(x.aw&&_)=_;rw[show x.aw=true from n,zB]
  rw[u]at m;unfold dn at m;unfold pV;rw[Og,Ab];have E:au U.aw h=au U.aw (h.take (I h-i))+au U.aw (h.drop (I h-i)):=by rw[<-EN,jC]
  have z:=avz h f
  grind
 refine⟨0,bN _,rfl,?_⟩;unfold fh;simp
theorem arq{l:af}(h:j<=I l)(H:au U.aw l%2=0)(hp:pV l j):pV (fh l j) (I l-j)/\fh (fh l j) (I l-j)=l:=by grind [pV,fh,jC]
theorem aaf{l:af}(H:j<=I l)(f:au U.aw l%2=0)(hp:pV l j):xw (fh l j) y↔xw l y:=by
 refine⟨ah9 H f hp,λh=>?_⟩
 grind [arq,ah9,t_,Qu]
def ayp{l:af}{i:Nat}(h:Dm l i):Dm (l.map (dk f)) i:=by obtain⟨⟨x,H,hp⟩,j⟩:=h;refine⟨⟨dk f x,by rw[dy,H];rfl,by rw[Gt];exact hp⟩,?_⟩;unfold pV at*;rw[<-sh,YR];exact j
def ada{l:af}(hf:inj f l):xw (l.map (dk f)) y↔xw l y:=by
 refine⟨avo hf,?_⟩;rintro⟨i,H,h,rfl⟩
 refine⟨i,by rw[bG];exact H,ayp h,?_⟩
 grind [acx,ajU,WY,CU]
def jo(a b:af):Prop:=I a=I b/\au U.aw a%2=au U.aw b%2/\ ∀y,zC a y↔zC b y
def jo.refl(a:af):jo a a:=⟨rfl,rfl,λ_=>Iff.rfl⟩
def jo.symm{a b:af}(h:jo a b):jo b a:=⟨h.1.symm,h.2.1.symm,λy=>(h.2.2 y).symm⟩
def jo.trans{a b c:af}(h:jo a b)(k:jo b c):jo a c:=⟨h.1.trans k.1,h.2.1.trans k.2.1,λy=>(h.2.2 y).trans (k.2.2 y)⟩
def J4{l:af}(h:j<=I l)(H:au U.aw l%2=0)(hp:pV l j):jo (fh l j) l:=by
 refine⟨t_ _ _,by rw[Qu],λy=>?_⟩
 grind [zC,aaf,awk,aok]
def af4{l:af}:jo l.reverse l:=by
 refine⟨qB,by rw[Ab],λy=>?_⟩;unfold zC
 grind
def PT{l:af}(hf:inj f l):jo (l.map (dk f)) l:=by refine⟨bG ..,by rw[YR],λy=>?_⟩;unfold zC;rw[ada hf,<-LF,ada (WY hf λx h=>yW.1 h)]
theorem KS{l:af}(h:au U.aw l%2=0):y∈BR l↔zC l y:=by
 obtain⟨j,H,hp,e⟩:=alS h;unfold BR zC;have hl:EL (s9 l) (I l)=EL (s9 l) (I (s9 l)):=by rw[SJ]
 rw[iR,hl,ahU,ahU,e,aaf (by grind) (by grind) hp]
def TJ{l:af}(h:y∈BR l):I y=I l:=by
 rcases iR.1 h with h|h
 .exact ahy h
 rw[ahy h,SJ]
section
variable {F:Nat} {h:af}
def a_.afq(g:a_ F h):Dm h 0:=by obtain⟨l,f,H⟩:=g.first;exact⟨⟨l,f,H⟩,rfl⟩
def lM(h:af):af:=(Pk h).getD []
def a_.nor(g:a_ F h):Pk h=some (lM h)/\zC h (lM h)/\ ∀y,zC h y->lL y (lM h)=false:=by
 have H:=g.even;have j:BR h≠[]:=λe=>by
  have:=(KS H).2 (.inl ⟨0,gA.2 g.ne,g.afq,rfl⟩)
  grind
 obtain⟨z,m⟩:=atg j;obtain _:=aqd (λy f=>TJ f) m
 grind [Pk,lM,KS]
def a_.form(g:a_ F h)(j:zC h y):dM (F:Int) y=0:=by
 have c:=g.cz;have hl:I (eE h)<=400:=by rw[xQ];exact g.len
 have m:au U.aq (aP (eE h))<=200:=by rw[h_];exact g.cr
 have n:∀x,(eE h)[0]?=some x->x.i.b=false:=λx H=>by have f:=gA.2 g.ne;rw[xi f]at H;cases H;rw[OG g f];rfl
 rcases j with j|j
 .exact ahz c n hl m g.fing (by rw[h_];exact j)
 refine ahz c.rv ?_ (by grind) (by rw[Ih,Ab];exact m) g.fing (by rw[Ih,h_];exact j);intro x H;rw[dy]at H;have f:=gA.2 g.ne;rw[Gb (by grind),xQ,xi J]at H;cases H;show(!dn h (I h-1-0+1))=false
 grind [ahJ]
end
structure cM (F:Nat) (L M:af) (r:Bool) (s t:Nat->Nat):Prop where
 g:a_ F L
 g':a_ F M
 len:I M=I L
 lt:∀v,v<I L->s v<I L
 zW:∀v,v<I L->t v<I L
 st:∀v,v<I L->s (t v)=v
 ts:∀v,v<I L->t (s v)=v
 step:∀v,v<I L->if r=true then nx L (s (nx L v))=s v else s (nx L v)=nx L (s v)
 at_:∀v l,L[v]?=some l->∃m,M[s v]?=some m/\m.kind=l.kind/\m.gate=l.gate/\m.ao=l.ao/\m.sign=l.sign/\m.over=l.over
 ids:∀u v l m l' m',L[u]?=some l->L[v]?=some m->M[s u]?=some l'->M[s v]?=some m'->l.aq->m.aq->(l'.id=m'.id↔l.id=m.id)
 dwn:∀v l,L[v]?=some l->l.aw->dn M (s v)=(dn L v !=r)
 cn:∀p:U->Bool,(∀l m:U,m.kind=l.kind->m.gate=l.gate->p m=p l)->au p M=au p L
def X4{a b:Nat}(f:a<n)(H:b<n)(h:(a+1)%n=(b+1)%n):a=b:=by rw[<-vi f,<-vi H,h]
section
variable {F:Nat} {L M:af} {r:Bool} {s t:Nat->Nat}
def cM.symm(i:cM F L M r s t):cM F M L r t s where
 g:=i.g'
 g':=i.g
 len:=i.len.symm
 lt v H:=by rw[i.len]at H |-;exact i.zW v H
 zW v H:=by rw[i.len]at H |-;exact i.lt v H
 st v H:=i.ts v (by rw[<-i.len];exact H)
 ts v H:=i.st v (by rw[<-i.len];exact H)
 step v H:=by
  rw[i.len]at H;have Q:(v+1)%I L<I L:=cJ _ J;have e:∀u,nx M u=nx L u:=λu=>by show(u+1)%I M=(u+1)%I L;rw[i.len]
  rw[e];cases r with
  |true=>rw[an rfl,e];have f:=i.zW _ Q;have h:=i.step (t (nx L v)) f;rw[an rfl,i.st _ Q]at h;have E:nx L (t (nx L v))<I L:=cJ _ J;have A:=X4 (i.lt _ E) H h;rw[<-A,i.ts _ E,A]
  |false=>rw[ai aa,e];have h:=i.step (t v) (i.zW v H);rw[ai aa,i.st v H]at h;have E:nx L (t v)<I L:=cJ _ J;have D:=i.ts _ E;rw[h]at D;exact D.trans (e _).symm
 at_ v m h:=by have H:=(bd.1 h).1;rw[i.len]at H;obtain⟨l,hl⟩:=aM (i.zW v H);obtain⟨O,j,n,A,D,X,Y⟩:=i.at_ _ _ hl;rw[i.st v H,h]at j;cases j;exact⟨l,hl,n.symm,A.symm,D.symm,X.symm,Y.symm⟩
 ids u v l m z O hl j B R N T:=by
  have f:=(bd.1 hl).1;have H:=(bd.1 j).1;rw[i.len]at f H;have k:∀(u:Nat) (l z:U),u<I L->M[u]?=some l->L[t u]?=some z->l.aq->z.aq:=λu l z f hl B N=>by obtain⟨x,y,n,_⟩:=i.at_ _ _ B;rw[i.st u f,hl]at y;cases y;unfold U.aq at N |-;rw[<-n];exact N
  have:=i.ids _ _ _ _ l m B R (by rw[i.st u f];exact hl) (by rw[i.st v H];exact j) (k u l z f hl B N) (k v m O H j R T);exact this.symm
 dwn v m h hp:=by
  have H:=(bd.1 h).1;rw[i.len]at H;obtain⟨l,hl⟩:=aM (i.zW v H);obtain⟨x,y,n,_⟩:=i.at_ _ _ hl;rw[i.st v H,h]at y;cases y;have Z:l.aw:=by unfold U.aw at hp |-;rw[<-n];exact hp
  have:=i.dwn _ _ hl Z;rw[i.st v H]at this;rw[this];cases dn L (t v)<;>cases r<;>rfl
 cn p hp:=(i.cn p hp).symm
def cM.aw(i:cM F L M r s t){l:U}(hl:L[v]?=some l)(h:M[s v]?=some m):m.aw=l.aw/\m.aq=l.aq/\eY m=eY l/\m.gate=l.gate/\m.ao=l.ao/\m.kind=l.kind/\m.over=l.over/\m.sign=l.sign:=by
 obtain _:=i.at_ v l hl
 grind [U.aw,U.aq,eY]
def cM.pl(i:cM F L M r s t){l:U}(hl:L[v]?=some l)(f:M[s v]?=some m):eC M m=eC L l:=by
 obtain⟨_,_,_,H,n,_⟩:=i.aw hl f;have h:∀g,cX M g=cX L g:=λg=>by unfold cX;congr 1;refine kD λq _=>i.cn _ λl m j H=>?_;unfold ir U.aw;rw[j,H]
 unfold eC;rw[h,H,n]
def cM.axl(i:cM F L M r s t):I (ay M)=I (ay L):=by rw[Br,Br];exact i.cn _ λl m h _=>by unfold U.aw;rw[h]
def cM.idx(i:cM F L M r s t){l:U}(hl:L[v]?=some l)(hp:l.aw):(ay M).idxOf (s v)=(ay L).idxOf v:=by obtain⟨m,h,_⟩:=i.at_ v l hl;rw[Gs i.g.ok.ax hl hp,Gs i.g'.ok.ax h ((i.aw hl h).1.trans hp),i.pl hl h]
def cM.ax(i:cM F L M r s t){k:Nat}(H:k<I (ay L)):(ay M).getD k 0=s ((ay L).getD k 0):=by
 obtain⟨v,f⟩:=aM H;obtain⟨l,hl,hp,j⟩:=uh i.g.ok.ax f;obtain⟨m,h,_⟩:=i.at_ v l hl;have:=Qi i.g'.ok.ax h ((i.aw hl h).1.trans hp);rw[i.pl hl h,j]at this
 grind
def cM.nDe(i:cM F L M r s t):nD M=nD L:=by show 2*I M+2*I (ay M)=_;rw[i.len,i.axl]
def cM.other(i:cM F L M r s t){l:U}(hl:L[v]?=some l)(H:l.aq):gC M (s v)=s (gC L v):=by
 have j:=JB i.g.ok hl H;obtain⟨m,h⟩:=aM j;obtain⟨y,n,em⟩:=Cq i.g.ok hl H h rfl;obtain⟨x,f,_⟩:=i.at_ v l hl;obtain⟨u,R,_⟩:=i.at_ _ m h;refine D8 i.g' f R ((i.aw hl f).2.1.trans H) ((i.aw h R).2.1.trans n) ((i.ids _ _ _ _ _ _ hl h f R H n).2 em.symm) λe=>?_;have:=(i.ts v ((bd.1 hl).1)).symm.trans ((congrArg t e).trans (i.ts _ j))
 grind
def kN(n:Nat)(r:Bool)(s:Nat->Nat)(d:Nat):Nat:=if d<2*n then gn n (s (bP n d)) (bY d !=r)else d
theorem akt{f:Bool}(h:v<n):bP n (gn n v f)=v/\bY (gn n v f)=f:=by grind [bP,bY,gn,uE]
def EP{f:Bool}(h:v<n):kN n r s (gn n v f)=gn n (s v) (f !=r):=by grind [akt,kN,uB]
def cM.along(i:cM F L M r s t)(H:v<I L)(f:Bool):kN (I L) r s (dx (I L) v f)=dx (I L) (s v) (f !=r):=by
 have hf:(v+1)%I L<I L:=cJ _ J;have j:∀(v:Nat),v<I L->gn (I L) v false=dx (I L) ((v+1)%I L) false:=λv H=>by grind [gn,dx,vi]
 have m:∀(v:Nat),v<I L->gn (I L) ((v+1)%I L) true=dx (I L) v true:=λv H=>by unfold gn dx;simp only[if_true];rw[vi H]
 cases f with
 |true=>
  rw[<-m v H,EP hf];have h:=i.step v H;cases r with
  |false=>rw[h];exact m _ (i.lt v H)
  |true=>rw[an rfl]at h;rw[<-h];exact j _ (i.lt _ hf)
 |false=>
  obtain⟨u,hu,rfl⟩:∃u,u<I L/\v=(u+1)%I L:=⟨(v+I L-1)%I L,cJ _ J,(uE H).symm⟩;rw[<-j u hu,EP hu];have h:=i.step u hu;cases r with
  |false=>rw[ai aa]at h;rw[h];exact j _ (i.lt u hu)
  |true=>rw[an rfl]at h;rw[<-h];exact m _ (i.lt _ H)
def cM.QH(i:cM F L M r s t){d:Nat}(h:d<2*I L):kN (I L) r s d<2*I L:=by rw[CS h,EP (zG i.g h)];exact uB (i.lt _ (zG i.g h)) _
theorem Dd{d:Nat}(h:2*n<=d):kN n r s d=d:=ai J
def cM.Vu(i:cM F L M r s t){d:Nat}(H:d<nD L):kN (I L) r s d<nD L:=by
 by_cases h:d<2*I L
 .have:=i.QH h
  grind
 rw[Dd J];exact H
def cM.Fu(i:cM F L M r s t)(d:Nat):kN (I L) r t (kN (I L) r s d)=d:=by
 by_cases h:d<2*I L
 .have H:=zG i.g h
  conv=>lhs;rw[CS h]
  rw[EP H,EP (i.lt _ H),i.ts _ H]
  conv=>rhs;rw[CS h]
  simp_all
 rw[Dd (s:=s) J,Dd J]
def cM.next(i:cM F L M r s t){d:Nat}(n:d<nD L):aO M (kN (I L) r s d)=kN (I L) r s (aO L d):=by
 have n:d<2*I L+2*I (ay L):=n;by_cases h:d<2*I L
 .have x:=zG i.g h;obtain⟨l,hl⟩:=aM x;obtain⟨m,j,_⟩:=i.at_ _ _ hl;obtain⟨k1,k2,k3,_⟩:=i.aw hl j;have e:=CS h;generalize bP (I L) d=v at*;generalize bY d=f at*;subst e;rw[EP x]
  conv=>lhs;rw[<-i.len]
  rcases xj (i.g.bad l (aX hl))with hp|H
  .rw[B1 hl hp,B1 j (k1.trans hp),i.dwn _ _ hl hp,i.idx hl hp,i.axl,i.len]
   grind [dn,Dd]
  rw[uk hl H,uk j (k2.trans H),i.other hl H,i.len,i.along (JB i.g.ok hl H)];have E:(m.over==(m.sign==1))=(l.over==(l.sign==1)):=k3;rw[E];congr 1;cases f<;>cases r<;>cases(l.over==(l.sign==1))<;>rfl
 rw[Dd J];rcases oH (d-2*I L)with z|z
 .obtain⟨k,hk,rfl⟩:∃k,k<I (ay L)/\d=2*I L+2*k:=⟨(d-2*I L)/2,J,J⟩;have y:(k+1)%I (ay L)<I (ay L):=cJ _ J;rw[Ae]
  conv=>lhs;rw[<-i.len,Ae,i.axl,i.len,i.ax y]
  obtain⟨u,l,_,D,hl,hp,_⟩:=Em i.g.ok y;rw[D,i.along (bd.1 hl).1,i.dwn _ _ hl hp];congr 1;cases dn L u<;>cases r<;>rfl
 obtain⟨k,hk,rfl⟩:∃k,k<I (ay L)/\d=2*I L+2*k+1:=⟨(d-2*I L)/2,J,J⟩;rw[A_]
 conv=>lhs;rw[<-i.len,A_,i.len,i.ax hk]
 obtain⟨u,l,_,D,hl,hp,_⟩:=Em i.g.ok hk;rw[D,i.along (bd.1 hl).1,i.dwn _ _ hl hp]
end
section
variable {F:Nat} {L M:af} {r:Bool} {s t:Nat->Nat}
def Qj(g:a_ F L){w:aC}(h:w∈fF (aO L) (nD L)):w.Nodup/\(∀y∈w,y<nD L)/\ ∃d,d∈w:=by
 obtain⟨⟨d,t,H,_⟩,_,f⟩:=ahW _ _ _ w h
 grind [yZ]
def ajo{x:Nat}(h:x<nD L):∃w,w∈fF (aO L) (nD L)/\x∈w:=by grind [BH,yZ]
def auw{w u:aC}(h:w∈fF (aO L) (nD L))(v:u∈fF (aO L) (nD L)){x:Nat}(m:x∈w)(f:x∈u):w=u:=by
 obtain⟨i,n⟩:=fX h;obtain⟨j,H⟩:=fX v;have:=T8 (yZ _ _).1 n H m f
 grind
def agX(g:a_ F L){w:aC}(H:w∈fF (aO L) (nD L)){x:Nat}(m:x<nD L):aO L x∈w↔x∈w:=by refine⟨λh=>?_,λh=>yO (n0 g.ok) H h⟩;obtain⟨u,j,f⟩:=ajo m;have:=auw H j h (yO (n0 g.ok) j f);rw[this];exact f
def cM.walk(i:cM F L M r s t){w:aC}(m:w∈fF (aO L) (nD L)):∃f,f∈fF (aO M) (nD M)/\(w.map (kN (I L) r s)).Perm f:=by
 obtain⟨N,O,d,n⟩:=Qj i.g m;have u:=i.nDe;obtain⟨f,j,D⟩:=ajo (by rw[u];exact i.Vu (O d n));obtain⟨Y,T,_⟩:=Qj i.g' j;refine⟨f,j,(List.perm_ext_iff_of_nodup ?_ Y).2 λz=>?_⟩
 .exact List.Pairwise.map _ (λx y h e=>h (by rw[<-i.Fu x,<-i.Fu y,e])) N
 rw[cD];constructor
 .rintro ⟨y,E,rfl⟩
  exact(QD i.g m (Q:=λy=>kN (I L) r s y∈f) (λx H=>by rw[<-i.next H];exact agX i.g' j (by rw[u];exact i.Vu H)) n E).1 D
 intro R;have v:=i.symm.Fu z;rw[i.len]at v;refine⟨kN (I L) r t z,?_,v⟩;have:=(QD i.g' j (Q:=λz=>kN (I L) r t z∈w) (λx H=>by have A:=i.symm.next H;rw[i.len]at A;rw[<-A];have B:=i.symm.Vu H;rw[i.len,u]at B;exact agX i.g m B) D R).1 (by rw[i.Fu];exact n)
 exact this
def zf(F:Nat)(L:af)(x:Nat):Nat:=if x<2*I L then 0 else(lE F L ((x-2*I L)/2)).length
def afE(F:Nat)(L:af)(w:aC):(kO F L w).places.length=(w.map (zf F L)).sum:=by
 have h:∀(w:aC) (f:c9),(w.foldl (c9.add F L) f).places.length=I f.places+(w.map (zf F L)).sum:=by
  intro w
  induction w with
  |nil=>intro f;rfl
  |cons x w j=>
   intro f
   grind [c9.add,zf]
 have:=h w (c9.new L (w.headD 0));exact this.trans (jO _)
def cM.piece(i:cM F L M r s t){k:Nat}(x:k<I (ay L)):lE F M k=lE F L k:=by
 have f:∀j,j<I (ay L)->oK M ((ay M).getD j 0)=oK L ((ay L).getD j 0)/\EY M ((ay M).getD j 0)=EY L ((ay L).getD j 0):=λj H=>by obtain⟨u,l,_,D,hl,hp,_⟩:=Em i.g.ok H;obtain⟨m,h,_⟩:=i.at_ u l hl;obtain⟨_,_,_,v,n,_⟩:=i.aw hl h;rw[i.ax H,D,rG hl,rG h,GU hl,GU h,v,n];exact⟨rfl,rfl⟩
 unfold lE;simp[i.axl]
 grind [cJ]
def cM.abQ(i:cM F L M r s t){x:Nat}:kN (I L) r s x<2*I L↔x<2*I L:=by
 refine⟨λh=>?_,λh=>i.QH h⟩
 grind [Dd]
def cM.wt(i:cM F L M r s t){x:Nat}(H:x<nD L):zf F M (kN (I L) r s x)=zf F L x:=by
 unfold zf;rw[i.len];by_cases h:x<2*I L
 .rw[an h,an (i.QH h)]
 rw[Dd J,ai h,ai h,i.piece (by have:x<2*I L+2*I (ay L):=H;omega)]
def c_(n:Nat)(r:Bool)(s:Nat->Nat)(e:Nat):Nat:=kN n r s (2*e)/2
def cM.JI(i:cM F L M r s t){e:Nat}(j:e<I L):(kN (I L) r s (2*e)=2*c_ (I L) r s e/\kN (I L) r s (2*e+1)=2*c_ (I L) r s e+1)\/(kN (I L) r s (2*e)=2*c_ (I L) r s e+1/\kN (I L) r s (2*e+1)=2*c_ (I L) r s e):=by
 have n:2*e=dx (I L) e true:=rfl;have E:2*e+1=gn (I L) e false:=rfl;have h:=i.along j true;have H:=EP (r:=r) (s:=s) (f:=false) j;rw[<-n]at h;rw[<-E]at H;unfold c_;have m:kN (I L) r s (2*e+1)=rv (kN (I L) r s (2*e)):=by rw[h,H,tc];cases r<;>rfl
 rw[m];unfold rv;split<;>omega
def cM.AP(i:cM F L M r s t){e:Nat}(h:e<I L):c_ (I L) r s e<I L:=by have:=i.QH (d:=2*e) J;unfold c_;omega
def cM.QQ(i:cM F L M r s t){e:Nat}(H:e<I L):c_ (I L) r t (c_ (I L) r s e)=e:=by
 have m:=i.Fu (2*e);have j:=i.Fu (2*e+1);have f:∀x,kN (I L) r t (2*c_ (I L) r s e)=x->c_ (I L) r t (c_ (I L) r s e)=x/2:=λx h=>by grind [c_]
 rcases i.JI H with _|⟨k1,k2⟩
 .grind
 grind
def cM.only(i:cM F L M r s t){pl:Nat}(R:∀e∈u,e<I L)(h:zy F L pl u):zy F M pl (u.map (c_ (I L) r s)):=by
 unfold zy at h |-;rw[Fv]at h |-;obtain⟨f,hf,h⟩:=h;obtain⟨w,m,rfl⟩:=cD.1 hf;obtain⟨j,X,hp⟩:=i.walk m;obtain⟨_,N,_⟩:=Qj i.g m;refine⟨kO F M j,cD.2 ⟨j,X,rfl⟩,?_⟩;unfold Gu at h |-;simp only[cN,cW,mB]at h |-;obtain⟨A,n,D⟩:=h;rw[y8]at A |-;rw[afE]at n |-;rw[bG];have O:∀x,x∈w↔kN (I L) r s x∈j:=λx=>by
  rw[<-hp.mem_iff,cD];refine⟨λh=>⟨x,h,rfl⟩,?_⟩;rintro⟨y,B,e⟩
  rw[<-i.Fu x,<-e,i.Fu];exact B
 refine⟨?_,?_,λZ T=>?_⟩
 .rw[<-A,<- (hp.filter _).length_eq,O4,bG];congr 1;refine XF λx _=>?_;rw[Function.comp_apply,i.len];exact decide_eq_decide.2 i.abQ
 .rw[<-n,<- (hp.map _).sum_nat,gi];congr 1;exact kD λx E=>i.wt (N x E)
 obtain⟨e,H,rfl⟩:=cD.1 T;have v:=D e H;have dV:=R e H;rw[y8]at v;have q:∀d,d<2*I L->(d∈w.filter (λx=>decide (x<2*I L))↔kN (I L) r s d∈j.filter (λx=>decide (x<2*I M))):=λd Y=>by rw[pg,pg,jn,jn,i.len,i.abQ,O]
 have Q:=q (2*e) J;have z:=q (2*e+1) J;rcases i.JI dV with⟨k1,k2⟩|⟨k1,k2⟩
 .rw[k1]at Q;rw[k2]at z;rwa[decide_eq_decide.2 Q,decide_eq_decide.2 z]at v
 grind
theorem Yy{pl:Nat}{E j:aC}(h:E.Perm j):zy F L pl E=zy F L pl j:=by
 unfold zy;congr 1;funext f;unfold Gu;rw[h.length_eq]
 grind
def cM.abo(i:cM F L M r s t){pl:Nat}{m:Nat}(f:∀e∈u,e<I L)(n:u[0]?=some m)(h:mI F L pl u m){j:aC}{E:Nat}(hp:(u.map (c_ (I L) r s)).Perm j)(H:j[0]?=some E):mI F M pl j E:=by obtain⟨e,dV,rfl⟩:=cD.1 (hp.mem_iff.2 (aX H));rw[Hj n (f _ (aX n))]at h;rw[Hj H (by rw[i.len];exact i.AP (f e dV)),<-Yy hp];exact i.only f h
end
def An{a:Nat}(h:a<2*n):a%n=if a<n then a else a-n:=by
 split
 .rename_i H;exact eN H
 rename_i H;rw[Mk J,eN J]
def Hk{l:af}{i k:Nat}(H:i<I l)(h:k<I l):(fh l i)[k]?=l[(i+k)%I l]? :=Sc H h
def adh{l:af}(j:au U.aw l%2=0)(h:l[v]?=some x)(hp:x.aw):dn l.reverse (I l-1-v)= !dn l v:=by
 have H:au U.aw (l.reverse.take (I l-1-v))=au U.aw (l.drop (v+1)):=by grind [Og]
 have m:au U.aw l=au U.aw (l.take (v+1))+au U.aw (l.drop (v+1)):=by rw[<-EN,jC]
 have f:=sa h hp;unfold dn
 grind
def ahf(f:Int->Int)(x:U):(dk f x).kind=x.kind/\(dk f x).gate=x.gate/\(dk f x).ao=x.ao/\(dk f x).sign=x.sign/\(dk f x).over=x.over/\(x.aq->(dk f x).id=f x.id):=by grind [dk,U.aq]
def M1{α:Type}{l:List α}{f k:Nat}(hf:f<I l)(h:k<I l):(l.drop f++l.take f)[k]?=l[(f+k)%I l]? :=Sc hf h
def Gh{P:aU}(c:fP F P):∃f,f<I P/\(∀k,k<I P->(cL P)[k]?=(P[(f+k)%I P]?).map aK.l)/\I (cL P)=I P/\(∃p,P[f]?=some p/\p.l.aw/\p.d)/\ ∀k p,k<I P->P[(f+k)%I P]?=some p->p.l.aw->p.d=dn (cL P) k:=by
 obtain⟨i,hi⟩:∃i,mh P=some i:=by
  cases h:mh P with
  |some i=>exact⟨i,rfl⟩
  |none=>exfalso;obtain⟨z,T,B,S,e,cz⟩:=c;subst e;obtain⟨x,m,hp,N⟩:=cz.down;obtain⟨j,M⟩:=fX m;have:=CR.1 h j (by simpa using((bd.1 M).1));rw[FJ (by rw[dy,M];rfl)]at this;unfold ya at this;have Y:(x.p.l.kind==1):=hp;simp[Y,N]at this
 have n:=CO hi;have u:=fA.1 (Cv hi);obtain⟨p,y⟩:=aM u;rw[FJ y]at n;unfold ya at n;rw[cN]at n;have D:=n.1;have L:cL P=(P.drop i++P.take i).map aK.l:=by grind [cL,L8]
 have O:I (P.drop i++P.take i)=I P:=by simp;omega
 have X:fP F (P.drop i++P.take i):=fP.l9 (by rw[jC];exact c);obtain⟨z,T,B,S,e,cz⟩:=X;obtain⟨s,hp⟩:=cz.path;have jc:aP z=cL P:=by rw[L,<-e,gi];rfl
 have mR:I z=I P:=by rw[<-O,<-e,bG]
 have Z:∀k q,k<I P->P[(i+k)%I P]?=some q->∃x,z[k]?=some x/\x.p=q:=λk q v H=>by
  rw[<-M1 u v,<-e,dy]at H;cases A:z[k]? with
  |none=>rw[A]at H;cases H
  |some x=>rw[A]at H;cases H;exact⟨x,rfl,rfl⟩
 have ae:s.b=false:=by obtain⟨x,m,E⟩:=Z 0 p J (by rw[uX,eN u];exact y);have ok:=(cz.ok x (aX m)).pb (by unfold aT.k;rw[E];exact D);rw[JL hp m,E,n.2]at ok;exact ok.2
 refine⟨i,u,λk v=>?_,by rw[acr],⟨p,y,D,n.2⟩,λk q v H Q=>?_⟩
 .rw[L,dy,M1 u v]
 obtain⟨x,m,rfl⟩:=Z k q v H;have R:=((cz.ok x (aX m)).pb Q).2;rw[(SD cz.ok hp ae k x m).1,jc]at R
 grind
def aay{P Q:aU}{s:Nat->Nat}(h:∀u v p j q m,P[u]?=some p->P[v]?=some j->Q[s u]?=some q->Q[s v]?=some m->p.l.aq->j.l.aq->(q.l.id=m.l.id↔p.l.id=j.l.id)):∃f:Int->Int,∀v p q,P[v]?=some p->Q[s v]?=some q->p.l.aq->q.l.id=f p.l.id:=by
 classical
 refine⟨λa=>if h:∃x:Int,∃v p q,P[v]?=some p/\Q[s v]?=some q/\p.l.aq/\p.l.id=a/\q.l.id=x then Classical.choose h else 0,λv p q hp y z=>?_⟩;have H:∃x:Int,∃n j m,P[n]?=some j/\Q[s n]?=some m/\j.l.aq/\j.l.id=p.l.id/\m.l.id=x:=⟨_,v,p,q,hp,y,z,rfl,rfl⟩;dsimp only;rw[dif_pos H];obtain⟨n,j,m,E,A,B,D,F⟩:=Classical.choose_spec H;rw[<-F];exact(h v n p j q m hp E y A z B).2 D.symm
section
variable {F:Nat} {L M:af} {r:Bool} {s t:Nat->Nat}
def cM.TE(i:cM F L M r s t)(H:v<I L):∀k,k<=I L->t ((v+k)%I L)=if r=true then(t v+I L-k)%I L else(t v+k)%I L:=by
 have h:0<I L:=J;intro k
 induction k with
 |zero=>intro _;rw[uX,eN H,LA,mT,uX,eN (i.zW v H)];split<;>rfl
 |succ k f=>
  intro m;have f:=f J;have D:=i.symm.step ((v+k)%I L) (by rw[i.len];exact cJ _ h);have e:∀u,nx M u=(u+1)%I L:=λu=>by show(u+1)%I M=_;rw[i.len]
  simp[e,vT]at D;rw[show v+(k+1)=v+k+1 by omega];cases r with
  |false=>rw[ai aa]at D f |-;rw[D,f,vT];rfl
  |true=>
   rw[f]at D;have j:(t v+I L-k)%I L=((t v+I L-(k+1))%I L+1)%I L:=by rw[vT];congr 1;omega
   rw[j]at D;exact X4 (i.zW _ (cJ _ h)) (cJ _ h) D
def cM.fin(i:cM F L M r s t){P Q:aU}(zH:I P=I L)(ab:I Q=I L)(f_:fP F P)(cQ:fP F Q)(vP:dM (F:Int) (cL P)=0)
  (aj:∀v p,P[v]?=some p->∃q,Q[s v]?=some q/\q.l.kind=p.l.kind/\q.l.gate=p.l.gate/\q.l.ao=p.l.ao/\q.l.sign=p.l.sign/\q.l.over=p.l.over/\(p.l.aq=false->q.l.id=p.l.id)/\(p.l.aw->q.d=(p.d !=r)))
  (O:∀u v p A q R,P[u]?=some p->P[v]?=some A->Q[s u]?=some q->Q[s v]?=some R->p.l.aq->A.l.aq->(q.l.id=R.l.id↔p.l.id=A.l.id)):jo (cL Q) (cL P):=by
 obtain⟨m,ag,D,al,⟨p0,HS,ak,am⟩,a2⟩:=Gh f_;obtain⟨n,E,b1,bl,⟨q0,yB,Pg,CL⟩,_⟩:=Gh cQ;obtain⟨f,hf⟩:=aay O;rw[zH]at ag D al a2;rw[ab]at E b1 bl;have hn:0<I L:=J;have he:au U.aw (cL P)%2=0:=by obtain⟨G,_,g⟩:=E4 vP (λe=>by rw[e]at al;simp at al;omega);exact g.even
 have hb:d_ F ga:=rfl;have ac:∀v p q,P[v]?=some p->Q[s v]?=some q->q.l=dk f p.l:=by
  intro v p q hp H;obtain⟨R,Z,Y,h2,h3,h4,h5,h6,_⟩:=aj v p hp;rw[H]at Z;cases Z;obtain⟨g1,g2,g3,g4,g5,g6⟩:=ahf f p.l;have Wp:q.l.id=(dk f p.l).id:=by
   cases hc:p.l.aq with
   |true=>rw[g6 hc];exact hf v p q hp H hc
   |false=>rw[Pe hc];exact h6 hc
  have Wj:∀a b:U,a.kind=b.kind->a.gate=b.gate->a.ao=b.ao->a.id=b.id->a.sign=b.sign->a.over=b.over->a=b:=λa b=>by cases a;cases b;simp only[U.mk.injEq];intros;simp_all
  exact Wj _ _ (Y.trans g1.symm) (h2.trans g2.symm) (h3.trans g3.symm) Wp (h4.trans g4.symm) (h5.trans g5.symm)
 have sM:∀X:af,(∀x∈X,x∈cL P)->inj f X:=by
  intro X hX x B y hy kx ky e;obtain⟨a,ha⟩:=fX (hX x B);obtain⟨b,hb⟩:=fX (hX y hy);rw[D _ (by rw[<-al];exact(bd.1 ha).1)]at ha;rw[D _ (by rw[<-al];exact(bd.1 hb).1)]at hb;obtain⟨p,hp,rfl⟩:=fH.1 ha;obtain⟨A,eo,rfl⟩:=fH.1 hb;have cx:p.l.aq:=by unfold U.aq;rw[kx];rfl
  have cy:A.l.aq:=by unfold U.aq;rw[ky];rfl
  obtain⟨q,H,_⟩:=aj _ p hp;obtain⟨R,Z,_⟩:=aj _ A eo;exact(O _ _ _ _ _ _ hp eo H Z cx cy).1 (by rw[hf _ p q hp H cx,hf _ A R eo Z cy,e])
 have ad:=i.zW n E;obtain⟨z,k9⟩:=aM (h:=P) (k:=t n) J;have tS:z.l.aw/\true=(z.d !=r):=by
  obtain⟨q,H,Y,_,_,_,_,_,h7⟩:=aj _ z k9;rw[i.st n E,yB]at H;cases H;have:z.l.aw:=by unfold U.aw at Pg |-;rw[<-Y];exact Pg
  exact⟨this,by rw[<-h7 this];exact CL.symm⟩
 obtain⟨j,hj,hjt⟩:∃j,j<I L/\(m+j)%I L=t n:=⟨(t n+I L-m)%I L,cJ _ hn,by
  rw[F7,show m+(t n+I L-m)=t n+I L by omega,mT,eN ad]⟩
 have N:=a2 j z hj (by rw[hjt];exact k9) tS.1;have CX:∀k,k<I L->∃p,P[t ((n+k)%I L)]?=some p/\(cL Q)[k]?=some (dk f p.l):=λk T=>by have aB:(n+k)%I L<I L:=cJ _ hn;obtain⟨p,hp⟩:=aM (by rw[zH];exact i.zW _ aB);obtain⟨q,H,_⟩:=aj _ p hp;have Bg:=H;rw[i.st _ aB]at H;refine⟨p,hp,?_⟩;rw[b1 k T,H];show some q.l=_;rw[ac _ p q hp Bg]
 cases r with
 |false=>
  have e:cL Q=(fh (cL P) j).map (dk f):=by
   apply nj;intro k;by_cases T:k<I L
   .obtain⟨p,hp,H⟩:=CX k T;rw[H,dy,Hk J J,al,D _ (cJ _ hn)];rw[i.TE E k J,ai aa,<-hjt,vT]at hp;rw[F7,<-yQ,hp];rfl
   rw[kQ J,kQ (by rw[bG,t_];omega)]
  rw[e];refine(PT (sM _ λx B=>CU.1 B)).trans (J4 J he ?_);have mv:z.d:=by have:=tS.2;revert this;cases z.d<;>simp
  rw[mv]at N;unfold dn at N;exact cW.1 N.symm
 |true=>
  have lH:I L-1-j<I L:=J;have e:cL Q=(fh (cL P).reverse (I L-1-j)).map (dk f):=by
   apply nj;intro k;by_cases T:k<I L
   .obtain⟨p,hp,H⟩:=CX k T;have B:(I L-1-j+k)%I L<I L:=cJ _ hn;rw[H,dy,Hk (by rw[qB];omega) (by rw[qB];omega),qB,al,Gb J,al,D _ J];rw[i.TE E k J,an rfl,<-hjt]at hp;have:(m+(I L-1-(I L-1-j+k)%I L))%I L=((m+j)%I L+I L-k)%I L:=by
     rw[An (a:=I L-1-j+k) J];split
     .rename_i Y;rw[show(m+j)%I L+I L-k=(m+j)%I L+(I L-k) by omega,vT,show m+(I L-1-(I L-1-j+k))=m+j-k by omega,show m+j+(I L-k)=(m+j-k)+I L by omega,mT]
     rename_i Y;rw[show(m+j)%I L+I L-k=(m+j)%I L+(I L-k) by omega,vT];congr 1;omega
    rw[this,hp];rfl
   rw[kQ J,kQ (by rw[bG,t_,qB];omega)]
  rw[e];refine(PT (sM _ λx B=>yW.1 (CU.1 B))).trans ((J4 (by rw[qB];omega) (by rw[Ab];exact he) ?_).trans af4);have mv:z.d=false:=by have:=tS.2;revert this;cases z.d<;>simp
  rw[mv]at N;have h9:=adh he (by rw[D j hj,hjt,k9];rfl) tS.1;rw[<-N,al]at h9;unfold dn at h9;exact cW.1 h9
end
end
end Go.Abs
