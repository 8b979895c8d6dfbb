/-
  The normal form of a code; Replay.
-/
import Derived.Test.YtaajncoljnafjaaGreatDoorVb
import Derived.Test.YtaajncoljnafjaaGreatDoorUa
set_option linter.all false
set_option maxRecDepth 100000
set_option maxHeartbeats 16000000
namespace Go.Abs
section
variable{F j:Nat}{x:Let}{y:ai}
def K6(x y:Let):leq x y=true↔x=y:=by
 constructor
 .intro h;unfold leq at h;simp only[cH,cZ]at h;obtain⟨h1,h2,h3,h4,h5,h6⟩:=h;cases x;cases y
  simp_all
 rintro rfl;exact K7 x
def qQ(a b:Let):Bool:=if a.kind==b.kind then if a.gate==b.gate then if a.aw==b.aw then if a.id==b.id then if a.over==b.over then decide (a.sign<b.sign)else b.over else decide (a.id<b.id)else decide (a.aw<b.aw)else decide (a.gate<b.gate)else decide (a.kind<b.kind)
def yD:d_->d_->Bool
 |a::A,b::B=>if a=b then yD A B else decide (a<b)
 |_,_=>false
def asp:∀ {A B:d_},yD A B=true->yD B A=false:=by
 intro A
 induction A with
 |nil=>intro B h;cases B<;>cases h
 |cons a A ih=>
  intro B h;cases B with
  |nil=>cases h
  |cons b B=>
   unfold yD at h |-;by_cases e:a=b
   .subst e;rw[aD rfl]at h |-;exact ih h
   rw[au e]at h;rw[au (Ne.symm e)];have:=qx h;exact E6 aa
def asr:∀ {A B D:d_},yD A B=true->yD B D=true->yD A D=true:=by
 intro A
 induction A with
 |nil=>intro B D h;cases B<;>cases h
 |cons a A ih=>
  intro B D h h';cases B with
  |nil=>cases h
  |cons b B=>
   cases D with
   |nil=>cases h'
   |cons d D=>
    unfold yD at h h' |-;by_cases e:a=b
    .subst e;rw[aD rfl]at h;by_cases e':a=d
     .subst e';rw[aD rfl]at h' |-;exact ih h h'
     rw[au e']at h' |-;exact h'
    rw[au e]at h;have h1:=qx h;by_cases e':b=d
    .subst e';rw[au e];exact h
    rw[au e']at h';have h2:=qx h';rw[au aa];exact Dj aa
def KY(a:Let):d_:=[a.kind,a.gate,a.aw,a.id,if a.over then 1 else 0,a.sign]
def Sx(a b:Let):qQ a b=yD (KY a) (KY b):=by
 cases a with|mk k g r i s o=>cases b with|mk k' g' r' i' s' o'=>
 unfold qQ KY;simp only[yD];by_cases h1:k=k'
 .by_cases h2:g=g'
  .by_cases h3:r=r'
   .by_cases h4:i=i'
    .cases o<;>cases o'<;>by_cases h6:s=s'<;>simp[h1,h2,h3,h4,h6]
    simp[h1,h2,h3,h4]
   simp[h1,h2,h3]
  simp[h1,h2]
 simp[h1]
def asj{a b:Let}(h:qQ a b=true):qQ b a=false:=by rw[Sx]at*;exact asp h
def asl{a b c:Let}(h1:qQ a b=true)(h2:qQ b c=true):qQ a c=true:=by rw[Sx]at*;exact asr h1 h2
def nM:ai->ai->Bool
 |a::A,b::B=>if leq a b then nM A B else qQ a b
 |_,_=>false
def ama(A:ai):nM A A=false:=by
 induction A with
 |nil=>rfl
 |cons a A ih=>unfold nM;rw[aD (K7 a)];exact ih
def abt:∀ {A B D:ai},nM A B=true->nM B D=true->nM A D=true:=by
 intro A
 induction A with
 |nil=>intro B D h;cases B<;>cases h
 |cons a A ih=>
  intro B D h h';cases B with
  |nil=>cases h
  |cons b B=>
   cases D with
   |nil=>cases h'
   |cons d D=>
    unfold nM at h h' |-;by_cases e:a=b
    .subst e;rw[aD (K7 a)]at h;by_cases e':a=d
     .subst e';rw[aD (K7 a)]at h' |-;exact ih h h'
     have e1:¬leq a d=true:=fun x=>e' ((K6 _ _).1 x);rw[au e1]at h' |-;exact h'
    have e1:¬leq a b=true:=fun x=>e ((K6 _ _).1 x);rw[au e1]at h;by_cases e':b=d
    .subst e';rw[au e1];exact h
    have e2:¬leq b d=true:=fun x=>e' ((K6 _ _).1 x);rw[au e2]at h';have e3:¬leq a d=true:=fun x=>by have:=(K6 _ _).1 x;subst this;rw[asj h]at h';cases h'
    rw[au e3];exact asl h h'
def eI(l:ai)(i:Nat):ai:=l.drop i++l.take i
def par(l:ai)(i:Nat):Prop:=aq Let.aE (l.take i)%2=0
def Fy(l:ai)(i:Nat):Prop:=(∃x,l[i]?=some x/\x.aE=true)/\par l i
def yJ(l:ai)(i:Nat):(eI l i).length=l.length:=by unfold eI;rw[fS,lH,iz];omega
def wP(q:Let->Bool)(a b:ai):aq q (a++b)=aq q a+aq q b:=xJ
def JH(q:Let->Bool)(l:ai)(i:Nat):aq q (eI l i)=aq q l:=by unfold eI;rw[wP,Ml,<-wP,mU]
def au7{l:ai}{i:Nat}(hj:j<=l.length)(hi:i<l.length):∃k,k<l.length/\eI (eI l j) i=eI l k/\(eI l j)[i]?=l[k]? /\(aq Let.aE l%2=0->par l j->par (eI l j) i->par l k):=by
 by_cases h:i<l.length-j
 .refine⟨j+i,aa,?_,?_,?_⟩
  .unfold eI;rw[aks (by rw[lH];omega),PW (by rw[lH];omega),aap,wH];congr 1;rw[<-aaB]
  .unfold eI;rw[xM (by rw[lH];omega),Ar]
  unfold par eI;intro _ h1 h2;rw[PW (by rw[lH];omega)]at h2;rw[aaB,wP];omega
 refine⟨i-(l.length-j),aa,?_,?_,?_⟩
 .unfold eI;obtain⟨d,hd⟩:∃d,d=i-(l.length-j):=⟨_,rfl⟩;rw[<-hd];have e1:(l.drop j++l.take j).drop i=(l.take j).drop d:=by
   rw[akr,TT (by rw[lH];omega),gn,lH,hd]
  have e2:(l.drop j++l.take j).take i=l.drop j++(l.take j).take d:=by rw[Mk,gK (by rw[lH];omega),lH,hd]
  rw[e1,e2,<-wH];have e3:(l.take j).take d=l.take d:=by rw[GI,Au aa]
  rw[e3];congr 1;have e4:l.drop d=(l.take j).drop d++l.drop j:=by
   conv=>lhs;rw[<-mU j l]
   rw[aks (by rw[iz];omega)]
  exact e4.symm
 .unfold eI;rw[Aq (by rw[lH];omega),lH,mA];rw[aD aa]
 unfold par eI;intro ht h1 h2;rw[Mk,gK (by rw[lH];omega),lH,wP,GI,Au aa]at h2;have:aq Let.aE l=aq Let.aE (l.take j)+aq Let.aE (l.drop j):=by rw[<-wP,mU]
 omega
def l6:d_->ai->ai
 |_,[]=>[]
 |s,x::r=>if x.kind==2 then(if s.contains x.id then{x with id:=((s.idxOf x.id+1:Nat):Int)}::l6 s r else{x with id:=((s.length+1:Nat):Int)}::l6 (s++[x.id]) r)else x::l6 s r
def xC(l:ai):ai:=l6 [] l
def dY(f:Int->Int)(x:Let):Let:=if x.kind==2 then{x with id:=f x.id}else x
def Uq(f:Int->Int)(x:Let):(dY f x).kind=x.kind:=by unfold dY;split<;>rfl
def GR(f:Int->Int)(x:Let):(dY f x).aE=x.aE:=by unfold Let.aE;rw[Uq]
def inj(f:Int->Int)(l:ai):Prop:=∀x∈l,∀y∈l,x.kind=2->y.kind=2->f x.id=f y.id->x.id=y.id
def auN{f:Int->Int}:∀ {l:ai}{s:d_},(∀x∈l,x.kind=2->∀a∈s,f x.id=f a->x.id=a)->inj f l->l6 (s.map f) (l.map (dY f))=l6 s l:=by
 intro l
 induction l with
 |nil=>intro s _ _;rfl
 |cons x r ih=>
  intro s hs hi;have vM:inj f r:=fun a ha b hb=>hi a (vq _ ha) b (vq _ hb);by_cases hk:x.kind=2
  .have lO:(x.kind==2)=true:=by rw[hk];rfl
   have e:dY f x={x with id:=f x.id}:=aD lO;have inc:(s.map f).contains (f x.id)=s.contains x.id:=by
    rw[ET,Ma,Ma,cJ];constructor
    .rintro ⟨a,ha,h⟩
     rw[hs x af hk a ha h.symm];exact ha
    intro h;exact⟨x.id,h,rfl⟩
   rw[ek,e];unfold l6;simp only[lO,if_true,inc];cases hc:s.contains x.id with
   |true=>
    simp only[if_true];have Ee:(s.map f).idxOf (f x.id)=s.idxOf x.id:=by
     clear ih;have En:∀a∈s,f x.id=f a->x.id=a:=hs x af hk;clear hs inc hc
     induction s with
     |nil=>rfl
     |cons a s ihs=>
      rw[ek,TY,TY];by_cases h:a=x.id
      .subst h;simp
      have h2:¬f a=f x.id:=fun h3=>h (En a af h3.symm).symm;rw[show(f a==f x.id)=false from lS.2 h2,show(a==x.id)=false from lS.2 h];simp only[cond_false];rw[ihs fun b hb=>En b (by simp[hb])]
    rw[Ee,ih (fun y hy=>hs y (vq _ hy)) vM]
   |false=>
    simp only[dN,if_false,cE];have:=ih (s:=s++[x.id]) (fun y hy Er a ha h=>by
     rcases eO.1 ha with h1|h1
     .exact hs y (vq _ hy) Er a h1 h
     rw[lI.1 h1]at h |-;exact hi y (vq _ hy) x af Er hk h) vM
    rw[kS]at this;rw[<-this];rfl
  have lO:(x.kind==2)=false:=lS.2 hk;have e:dY f x=x:=au (by rw[lO];decide);rw[ek,e];unfold l6;simp only[lO,dN,if_false];rw[ih (fun y hy=>hs y (vq _ hy)) vM]
def aiH{f:Int->Int}{l:ai}(h:inj f l):xC (l.map (dY f))=xC l:=auN (s:=[]) (fun _ _ _ _ ha=>by cases ha) h
def jc:d_->ai->d_
 |s,[]=>s
 |s,x::r=>if x.kind==2 then(if s.contains x.id then jc s r else jc (s++[x.id]) r)else jc s r
def ai2:∀(l:ai) (s:d_),∃t,jc s l=s++t:=by
 intro l
 induction l with
 |nil=>intro s;exact⟨[],by simp[jc]⟩
 |cons x r ih=>
  intro s;unfold jc;split
  .split
   .exact ih s
   obtain⟨t,h⟩:=ih (s++[x.id]);exact⟨x.id::t,by rw[h];simp⟩
  exact ih s
def afL{s t:d_}{a:Int}(h:a∈s):(s++t).idxOf a=s.idxOf a:=by rw[aky,aD h]
def aiF:∀(l:ai) (s:d_),l6 s l=l.map (dY fun a=>(((jc s l).idxOf a+1:Nat):Int))/\ ∀x∈l,x.kind=2->x.id∈jc s l:=by
 intro l
 induction l with
 |nil=>intro s;exact⟨rfl,fun x h=>by cases h⟩
 |cons x r ih=>
  intro s;by_cases hk:x.kind=2
  .have lO:(x.kind==2)=true:=by rw[hk];rfl
   cases hc:s.contains x.id with
   |true=>
    have hm:x.id∈s:=Ma.1 hc;have e:jc s (x::r)=jc s r:=by simp only[jc,lO,hc,if_true]
    obtain⟨h1,h2⟩:=ih s;obtain⟨t,ht⟩:=ai2 r s;refine⟨?_,?_⟩
    .have e0:l6 s (x::r)={x with id:=((s.idxOf x.id+1:Nat):Int)}::l6 s r:=by simp only[l6,lO,hc,if_true]
     rw[e,e0,ek,h1];congr 1;unfold dY;rw[aD lO,ht];dsimp only;rw[afL hm]
    rw[e];intro y hy Er;rcases bJ.1 hy with rfl|hy
    .rw[ht];exact Dg _ hm
    exact h2 y hy Er
   |false=>
    have e:jc s (x::r)=jc (s++[x.id]) r:=by simp only[jc,lO,hc,if_true,dN,if_false]
    obtain⟨h1,h2⟩:=ih (s++[x.id]);obtain⟨t,ht⟩:=ai2 r (s++[x.id]);have hn:¬x.id∈s:=fun h=>by rw[Ma.2 h]at hc;cases hc
    refine⟨?_,?_⟩
    .have e0:l6 s (x::r)={x with id:=((s.length+1:Nat):Int)}::l6 (s++[x.id]) r:=by simp only[l6,lO,hc,if_true,dN,if_false]
     rw[e,e0,ek,h1];congr 1;unfold dY;rw[aD lO,ht];dsimp only;rw[afL af,aky,au hn];simp
    rw[e];intro y hy Er;rcases bJ.1 hy with rfl|hy
    .rw[ht];simp
    exact h2 y hy Er
  have lO:(x.kind==2)=false:=lS.2 hk;have e:jc s (x::r)=jc s r:=by simp only[jc,lO,dN,if_false]
  obtain⟨h1,h2⟩:=ih s;refine⟨?_,?_⟩
  .have e0:l6 s (x::r)=x::l6 s r:=by simp only[l6,lO,dN,if_false]
   rw[e,e0,ek,h1];rw[show dY (fun a=>(((jc s r).idxOf a+1:Nat):Int)) x=x from au (by rw[lO];decide)]
  rw[e];intro y hy Er;rcases bJ.1 hy with rfl|hy
  .exact absurd Er hk
  exact h2 y hy Er
def afK{S:d_}{a b:Int}(ha:a∈S)(hb:b∈S)(h:S.idxOf a=S.idxOf b):a=b:=by have h1:=aat (PQ.2 ha);have h2:=aat (PQ.2 hb);rw[<-h1,<-h2];simp only[h]
def ZD(l:ai):∃f,inj f l/\xC l=l.map (dY f):=by obtain⟨h1,h2⟩:=aiF l [];refine⟨_,?_,h1⟩;intro x hx y hy xk yk h;dsimp only at h;exact afK (h2 x hx xk) (h2 y hy yk) aa
def Yq{f:Int->Int}{l m:ai}(h:inj f l)(hm:∀x∈m,x∈l):inj f m:=fun x hx y hy=>h x (hm x hx) y (hm y hy)
def aiL(f:Let->Let)(l:ai)(i:Nat):eI (l.map f) i=(eI l i).map f:=by unfold eI;simp
def Iu{l:ai}{i:Nat}:x∈eI l i↔x∈l:=by unfold eI;rw[eO,Or.comm,<-eO,mU]
def wV(l y:ai):Prop:= ∃i,i<l.length/\Fy l i/\y=xC (eI l i)
def xX(l y:ai):Prop:=wV l y\/wV l.reverse y
def QD{f:Int->Int}(l:ai):aq Let.aE (l.map (dY f))=aq Let.aE l:=by show List.countP _ _=List.countP _ _;rw[yS];exact Ja fun x _=>by rw[Function.comp_apply,GR]
def aof{f:Int->Int}{l:ai}{i:Nat}(h:Fy (l.map (dY f)) i):Fy l i:=by
 obtain⟨⟨x,hx,hp⟩,h2⟩:=h;rw[fG]at hx;cases hl:l[i]? with
 |none=>rw[hl]at hx;cases hx
 |some y=>rw[hl]at hx;cases hx;refine⟨⟨y,hl,by rw[GR]at hp;exact hp⟩,?_⟩;unfold par at*;rw[<-Je,QD]at h2;exact h2
def aoY{f:Int->Int}{l:ai}(hf:inj f l)(h:wV (l.map (dY f)) y):wV l y:=by obtain⟨i,hi,he,rfl⟩:=h;rw[cE]at hi;refine⟨i,hi,aof he,?_⟩;rw[aiL,aiH (Yq hf fun x hx=>Iu.1 hx)]
def aet{l:ai}(hj:j<=l.length)(he:aq Let.aE l%2=0)(hp:par l j)(h:wV (eI l j) y):wV l y:=by obtain⟨i,hi,⟨⟨x,hx,xp⟩,h2⟩,rfl⟩:=h;rw[yJ]at hi;obtain⟨k,hk,e1,e2,e3⟩:=au7 hj hi;rw[e2]at hx;exact⟨k,hk,⟨⟨x,hx,xp⟩,e3 he hp h2⟩,by rw[e1]⟩
def auX(l:ai)(hj:j<=l.length):(eI l j).reverse=eI l.reverse (l.length-j):=by unfold eI;rw[List.reverse_append,List.drop_reverse,aaC];congr 2<;>(congr 1;omega)
def atp{l:ai}(hj:j<=l.length)(he:aq Let.aE l%2=0)(hp:par l j):par l.reverse (l.length-j):=by
 unfold par at*;rw[aaC,show l.length-(l.length-j)=j by omega];have h1:aq Let.aE (l.drop j).reverse=aq Let.aE (l.drop j):=List.countP_reverse;have h2:aq Let.aE l=aq Let.aE (l.take j)+aq Let.aE (l.drop j):=by rw[<-wP,mU]
 rw[h1];omega
def xF(x:aQ):aQ:=⟨⟨x.p.l,!x.p.d⟩,jd x.o,jd x.i⟩
def aiW(x:aQ):(xF x).up=x.up:=by unfold aQ.up xF;cases x.p.d<;>rfl
def aiV(x:aQ):(xF x).lo=x.lo:=by unfold aQ.lo xF;cases x.p.d<;>rfl
def X4.rv{g:Bool}{i o j q:eJ}(h:X4 g i o j q):X4 g (jd o) (jd i) (jd q) (jd j):=by
 obtain⟨a,b,c,d⟩:=h;cases g
 .simp only[dN,if_false]at a b c d;constructor<;>simp only[dN,if_false,jd]
  .exact b
  .exact a
  .exact d
  exact c
 simp only[if_true]at a b c d;constructor<;>simp only[if_true,jd]
 .exact b
 .exact a
 .exact d
 exact c
def Xr.rv{x y:aQ}(h:Xr x y):Xr (xF x) (xF y):=fun hc mc e=>by obtain⟨h1,h2,h3⟩:=h hc mc e;exact⟨h1,h2,h3.rv⟩
def atx:∀ {z:k_}{s t:eJ},kE s z t->kE (jd t) (z.reverse.map xF) (jd s):=by
 intro z
 induction z with
 |nil=>intro s t h;cases h;rfl
 |cons x z ih=>intro s t h;obtain⟨rfl,h⟩:=h;rw[List.reverse_cons,kS];exact Pb.2 ⟨jd x.o,ih h,rfl,rfl⟩
def atv:∀ {z:k_}{s t:eJ},kE s z t->∀x∈z,(∃y∈z,y.i=x.o)\/x.o=t:=by
 intro z
 induction z with
 |nil=>intro s t _ x hx;cases hx
 |cons a z ih=>
  intro s t h x hx;obtain⟨rfl,h⟩:=h;rcases bJ.1 hx with rfl|hx
  .cases z with
   |nil=>exact .inr h
   |cons b z=>exact .inl ⟨b,af,h.1⟩
  rcases ih h x hx with⟨y,hy,e⟩|e
  .exact .inl ⟨y,by simp[hy],e⟩
  exact .inr e
def Cz.next{z:k_}{T B:Nat->Nat->Nat}{S:a_}(c:Cz F z T B S){x:aQ}(hx:x∈z):∃y∈z,y.i=x.o:=by
 obtain⟨s,h⟩:=c.path;rcases atv h x hx with e|e
 .exact e
 cases z with
 |nil=>cases hx
 |cons a z=>exact⟨a,af,by rw[h.1,e]⟩
def La(z:k_):aR (z.reverse.map xF)=(aR z).reverse:=by rw[<-aaw];show List.map _ (List.map _ _)=_;rw[uy];rfl
def vz(q:Let->Bool)(l:ai):aq q l.reverse=aq q l:=List.countP_reverse
def Cz.rv{z:k_}{T B:Nat->Nat->Nat}{S:a_}(c:Cz F z T B S):Cz F (z.reverse.map xF) T B S:=by
 obtain⟨s,h⟩:=c.path;have hm:∀x∈z.reverse.map xF,∃y∈z,x=xF y:=fun x hx=>by obtain⟨y,hy,rfl⟩:=cJ.1 hx;exact⟨y,PT.1 hy,rfl⟩
 have ec:∀g,cg (aR (z.reverse.map xF)) g=cg (aR z) g:=fun g=>by rw[La];exact vz _ _
 refine⟨⟨_,atx h⟩,fun x hx=>?_,?_,by rw[La,vz];exact c.ev,fun x hx hc=>?_,?_,fun x hx hp=>?_,fun x hx hp=>?_,fun g hg=>by rw[ec];exact c.gt g hg,by rw[ec];exact c.gz,?_,c.nd,fun s hs=>?_,by rw[La,vz,vz];exact c.num⟩
 .obtain⟨y,hy,rfl⟩:=hm x hx;obtain⟨o1,o2,o3⟩:=c.ok y hy;refine⟨o1,fun hc=>(o2 hc).symm,fun hp=>?_⟩;obtain⟨p1,p2⟩:=o3 hp;refine⟨p2,?_⟩;show y.o.b= !(!y.p.d);rw[p1,L8]
 .refine yW.2 (List.pairwise_reverse.2 (c.cr.imp fun{a b} dL=>dL.symm.rv))
 .obtain⟨y,hy,rfl⟩:=hm x hx;rw[La,vz];exact c.ids y hy hc
 .refine yW.2 (List.pairwise_reverse.2 (c.rk.imp fun{a b} dL=>dL.symm))
 .obtain⟨y,hy,rfl⟩:=hm x hx;rw[ec];exact c.rr y hy hp
 .obtain⟨y,hy,rfl⟩:=hm x hx;obtain⟨a,b,d,e⟩:=c.pl y hy hp;exact⟨by rw[aiW];exact a,by rw[aiW];exact b,by rw[aiV];exact d,by rw[aiV];exact e⟩
 .obtain⟨x,hx,hp⟩:=c.one;exact⟨xF x,cJ.2 ⟨x,PT.2 hx,rfl⟩,hp⟩
 obtain⟨x,hx,e⟩:=c.wit s hs;obtain⟨y,hy,e2⟩:=c.next hx;refine⟨xF y,cJ.2 ⟨y,PT.2 hy,rfl⟩,?_⟩;show s=y.i.r\/s=y.i.l;rw[e2];exact e.symm
def mu(f:Int->Int)(x:aQ):aQ:=⟨⟨dY f x.p.l,x.p.d⟩,x.i,x.o⟩
def Mv(f:Int->Int)(x:Let):(dY f x).gate=x.gate:=by unfold dY;split<;>rfl
def Qk(f:Int->Int)(x:Let):(dY f x).aw=x.aw:=by unfold dY;split<;>rfl
def Us(f:Int->Int)(x:Let):(dY f x).sign=x.sign:=by unfold dY;split<;>rfl
def Ur(f:Int->Int)(x:Let):(dY f x).over=x.over:=by unfold dY;split<;>rfl
def Up(f:Int->Int)(x:Let):(dY f x).aB=x.aB:=by unfold Let.aB;rw[Uq]
def Uo{f:Int->Int}(h:x.aB=true):(dY f x).id=f x.id:=by unfold dY;rw[aD (show(x.kind==2)=true from h)]
def abc{f:Int->Int}(h:x.aB=false):dY f x=x:=by unfold dY;exact au (by rw[show(x.kind==2)=false from h];decide)
def al7{f:Int->Int}(h:dQ F x=false):dQ F (dY f x)=false:=by
 cases hc:x.aB
 .rw[abc hc];exact h
 have:dY f x={x with id:=f x.id}:=aD hc;rw[this];rcases wM h with hp|_
 .rw[qS hp]at hc;cases hc
 unfold dQ at h |-;unfold Let.aB at hc;have hk:x.kind=2:=cZ.1 hc
 simpa [hk]using h
def OZ(f:Int->Int)(z:k_):aR (z.map (mu f))=(aR z).map (dY f):=by show List.map _ (List.map _ _)=List.map _ (List.map _ _);rw[uy,uy];rfl
def QC{f:Int->Int}{q:Let->Bool}(hq:∀x,q (dY f x)=q x)(l:ai):aq q (l.map (dY f))=aq q l:=by show List.countP _ _=List.countP _ _;rw[yS];exact Ja fun x _=>by rw[Function.comp_apply,hq]
def amL(f:Int->Int)(l:ai)(g:Nat):cg (l.map (dY f)) g=cg l g:=QC (fun x=>by unfold mE;rw[GR,Mv]) l
def Cz.rn{z:k_}{T B:Nat->Nat->Nat}{S:a_}(c:Cz F z T B S){f:Int->Int}(hf:inj f (aR z))(hi:∀x∈z,x.k.aB=true->1<=f x.k.id/\f x.k.id<=((aq Let.aB (aR z)/2:Nat):Int)):Cz F (z.map (mu f)) T B S:=by
 obtain⟨s,h⟩:=c.path;have hm:∀x∈z.map (mu f),∃y∈z,x=mu f y:=fun x hx=>by obtain⟨y,hy,rfl⟩:=cJ.1 hx;exact⟨y,hy,rfl⟩
 have ec:∀g,cg (aR (z.map (mu f))) g=cg (aR z) g:=fun g=>by rw[OZ,amL]
 have eC:aq Let.aB (aR (z.map (mu f)))=aq Let.aB (aR z):=by rw[OZ];exact QC (Up f) _
 have eP:aq Let.aE (aR (z.map (mu f)))=aq Let.aE (aR z):=by rw[OZ];exact QC (GR f) _
 have kC:∀y:aQ,(mu f y).k.aB=y.k.aB:=fun y=>Up f y.k;have kP:∀y:aQ,(mu f y).k.aE=y.k.aE:=fun y=>GR f y.k;have kl:∀y∈z,y.k∈aR z:=fun y hy=>cJ.2 ⟨y,hy,rfl⟩;have X8:∀ {z:k_}{s t:eJ},kE s z t->kE s (z.map (mu f)) t:=by
  intro z
  induction z with
  |nil=>intro s t h;exact h
  |cons x z ih=>intro s t h;exact⟨h.1,ih h.2⟩
 refine⟨⟨s,X8 h⟩,fun x hx=>?_,?_,by rw[eC];exact c.ev,fun x hx hc=>?_,?_,fun x hx hp=>?_,fun x hx hp=>?_,fun g hg=>by rw[ec];exact c.gt g hg,by rw[ec];exact c.gz,?_,c.nd,fun s hs=>?_,by rw[eP,eC];exact c.num⟩
 .obtain⟨y,hy,rfl⟩:=hm x hx;obtain⟨o1,o2,o3⟩:=c.ok y hy;exact⟨al7 o1,fun hc=>o2 (by rw[kC]at hc;exact hc),fun hp=>o3 (by rw[kP]at hp;exact hp)⟩
 .refine yW.2 (aaj (fun{a b} ha hb dL=>?_) c.cr);intro ac bc e;rw[kC]at ac bc;have e2:f a.k.id=f b.k.id:=by
   have:=e;rw[show(mu f a).k.id=f a.k.id from Uo ac,show(mu f b).k.id=f b.k.id from Uo bc]at this;exact this
  obtain⟨h1,h2,h3⟩:=dL ac bc (hf _ (kl a ha) _ (kl b hb) (cZ.1 ac) (cZ.1 bc) e2);refine⟨?_,?_,?_⟩
  .show(dY f a.k).over= !(dY f b.k).over;rw[Ur,Ur];exact h1
  .show(dY f a.k).sign=(dY f b.k).sign;rw[Us,Us];exact h2
  show X4 (gX (dY f a.k)) _ _ _ _;have:gX (dY f a.k)=gX a.k:=by unfold gX;rw[Ur,Us]
  rw[this];exact h3
 .obtain⟨y,hy,rfl⟩:=hm x hx;rw[kC]at hc;rw[eC,show(mu f y).k.id=f y.k.id from Uo hc];exact hi y hy hc
 .refine yW.2 (c.rk.imp fun{a b} dL=>?_);intro ap bp e1 e2;rw[kP]at ap bp;refine dL ap bp ?_ ?_
  .have:=e1;rw[show(mu f a).k.gate=a.k.gate from Mv f a.k,show(mu f b).k.gate=b.k.gate from Mv f b.k]at this;exact this
  have:=e2;rw[show(mu f a).k.aw=a.k.aw from Qk f a.k,show(mu f b).k.aw=b.k.aw from Qk f b.k]at this;exact this
 .obtain⟨y,hy,rfl⟩:=hm x hx;rw[kP]at hp;rw[ec,show(mu f y).k.aw=y.k.aw from Qk f y.k,show(mu f y).k.gate=y.k.gate from Mv f y.k];exact c.rr y hy hp
 .obtain⟨y,hy,rfl⟩:=hm x hx;rw[kP]at hp;obtain⟨a,b,d,e⟩:=c.pl y hy hp;have u:(mu f y).up=y.up:=rfl;have w:(mu f y).lo=y.lo:=rfl;have eg:(mu f y).k.gate=y.k.gate:=Mv f y.k;have er:(mu f y).k.aw=y.k.aw:=Qk f y.k;exact⟨by rw[u,eg,er];exact a,by rw[u,eg,er];exact b,by rw[w,eg,er];exact d,by rw[w,eg,er];exact e⟩
 .obtain⟨x,hx,hp⟩:=c.one;exact⟨mu f x,cJ.2 ⟨x,hx,rfl⟩,by rw[kP];exact hp⟩
 obtain⟨x,hx,e⟩:=c.wit s hs;exact⟨mu f x,cJ.2 ⟨x,hx,rfl⟩,e⟩
def ai1:∀(l:ai) (s:d_),s.Nodup->(jc s l).Nodup/\ ∀a∈jc s l,a∈s\/ ∃x∈l,x.aB=true/\x.id=a:=by
 intro l
 induction l with
 |nil=>intro s h;exact⟨h,fun a ha=>.inl ha⟩
 |cons x r ih=>
  intro s h;unfold jc;split
  .rename_i hk;split
   .obtain⟨h1,h2⟩:=ih s h;refine⟨h1,fun a ha=>?_⟩;rcases h2 a ha with h3|⟨y,hy,h3⟩
    .exact .inl h3
    exact .inr ⟨y,by simp[hy],h3⟩
   rename_i hc;have hn:¬x.id∈s:=fun h=>hc (Ma.2 h);obtain⟨h1,h2⟩:=ih (s++[x.id]) (by rw[GG];refine⟨h,af,fun a ha b hb e=>?_⟩;rw[lI.1 hb]at e;exact hn (e▸ha))
   refine⟨h1,fun a ha=>?_⟩;rcases h2 a ha with h3|⟨y,hy,h3⟩
   .rcases eO.1 h3 with h3|h3
    .exact .inl h3
    exact .inr ⟨x,af,hk,(lI.1 h3).symm⟩
   exact .inr ⟨y,by simp[hy],h3⟩
  obtain⟨h1,h2⟩:=ih s h;refine⟨h1,fun a ha=>?_⟩;rcases h2 a ha with h3|⟨y,hy,h3⟩
  .exact .inl h3
  exact .inr ⟨y,by simp[hy],h3⟩
def auO(l:ai)(hi:∀x∈l,x.aB=true->1<=x.id/\x.id<=((aq Let.aB l/2:Nat):Int)):∃f,inj f l/\xC l=l.map (dY f)/\ ∀x∈l,x.aB=true->1<=f x.id/\f x.id<=((aq Let.aB l/2:Nat):Int):=by
 obtain⟨h1,h2⟩:=aiF l [];refine⟨_,?_,h1,?_⟩
 .intro x hx y hy xk yk h;dsimp only at h;exact afK (h2 x hx xk) (h2 y hy yk) aa
 intro x hx hc;have hm:=h2 x hx (cZ.1 hc);have aA:=PQ.2 hm;obtain⟨n1,n2⟩:=ai1 l [] xO;have hr:∀a∈jc [] l,1<=a/\a<=((aq Let.aB l/2:Nat):Int):=fun a ha=>by
  rcases n2 a ha with h3|⟨y,hy,yc,rfl⟩
  .cases h3
  exact hi y hy yc
 have:=LR ((jc [] l).map Int.toNat) (List.range' 1 (aq Let.aB l/2)) ?_ ?_
 .rw[cE,List.length_range']at this;omega
 .refine yW.2 (aaj (fun{a b} ha hb h e=>h ?_) n1);have:=hr a ha;have:=hr b hb;omega
 intro x hx;obtain⟨id,hid,rfl⟩:=cJ.1 hx;have:=hr id hid;rw[List.mem_range'_1];omega
def Cz.rotN{z:k_}{T B:Nat->Nat->Nat}{S:a_}(c:Cz F z T B S)(i:Nat):Cz F (z.drop i++z.take i) T B S:=by rw[<-mU i z]at c;exact c.lE
def aeu{z:k_}{T B:Nat->Nat->Nat}{S:a_}(c:Cz F z T B S)(h0:∀x,z[0]?=some x->x.i.b=false)(hl:z.length<=400)(eX:aq Let.aB (aR z)<=200)(hF:F<=40)(h:wV (aR z) y):cG F y=0:=by
 obtain⟨i,hi,⟨⟨x,hx,hp⟩,OA⟩,rfl⟩:=h;obtain⟨e,he,rfl⟩:=Ew hx;have hd:e.p.d=true:=by
  obtain⟨s,hs⟩:=c.path;have hlen:0<z.length:=by have:=(aT.1 he).1;omega
  obtain⟨a,ha⟩:∃a,z[0]?=some a:=⟨z[0],rS hlen⟩;have hb:s.b=false:=by rw[<-Lr hs ha];exact h0 a ha
  have:=(SR c.ok hs hb i e he).1;have hm:=aV he;have h2:=((c.ok e hm).pb hp).2;rw[this]at h2;have h3:dn (aR z) i=true:=by
   unfold dn;have:aq Let.aE ((aR z).take i)%2=0:=OA
   simpa using this
  rw[h3]at h2;cases hq:e.p.d
  .rw[hq]at h2;cases h2
  rfl
 have c2:=c.rotN i;have e1:aR (z.drop i++z.take i)=eI (aR z) i:=by unfold eI aR;rw[kS,T0,Je]
 have ec:aq Let.aB (eI (aR z) i)=aq Let.aB (aR z):=JH _ _ _;obtain⟨f,hf,hr,jL⟩:=auO (eI (aR z) i) (fun x hx hc=>by rw[ec];obtain⟨w,hw,rfl⟩:=cJ.1 (Iu.1 hx);exact c.ids w hw hc)
 rw[hr];rw[<-e1]at hf jL;have c3:=c2.rn hf (fun x hx hc=>jL _ (cJ.2 ⟨x,hx,rfl⟩) hc);have Bc:z.drop i=e::z.drop (i+1):=by obtain⟨hl,e⟩:=aT.1 he;rw[<-e,uw]
 rw[<-e1,<-OZ];refine c3.check (x:=mu f e) (r:=(z.drop (i+1)++z.take i).map (mu f)) (by rw[Bc];rfl) ?_ hd ?_ ?_ hF
 .show(dY f e.k).aE=true;rw[GR];exact hp
 .rw[cE,fS,lH,iz];omega
 rw[OZ,QC (Up f),e1,ec];exact eX
def arZ(a b:Let):aK S 99 [K8 a,K8 b] (rb (qQ a b)):=by
 by_cases h1:a.kind=b.kind
 .by_cases h2:a.gate=b.gate
  .by_cases h3:a.aw=b.aw
   .by_cases h4:a.id=b.id
    .cases h5:(a.over==b.over)with
     |true=>
      have e:qQ a b=decide (a.sign<b.sign):=by simp only[qQ,h1,h2,h3,h4,h5,Av,if_true]
      rw[e];refine bt c99 ?_;simp only[go_sem,i99,h1,h2,h3,h4,h5,bne]
     |false=>
      have e:qQ a b=b.over:=by simp only[qQ,h1,h2,h3,h4,h5,Av,if_true,dN,if_false]
      rw[e];refine bt c99 ?_;simp only[go_sem,i99,h1,h2,h3,h4,h5,bne]
    have vG:(a.id==b.id)=false:=by simp[h4]
    have e:qQ a b=decide (a.id<b.id):=by simp only[qQ,h1,h2,h3,vG,Av,if_true,dN,if_false]
    rw[e];refine bt c99 ?_;simp only[go_sem,i99,h1,h2,h3,vG,bne]
   have rD:(a.aw==b.aw)=false:=by simp[h3]
   have e:qQ a b=decide (a.aw<b.aw):=by simp only[qQ,h1,h2,rD,Av,if_true,dN,if_false]
   rw[e];refine bt c99 ?_;simp only[go_sem,i99,h1,h2,rD,bne]
  have jB:(a.gate==b.gate)=false:=by simp[h2]
  have e:qQ a b=decide (a.gate<b.gate):=by simp only[qQ,h1,jB,Av,if_true,dN,if_false]
  rw[e];refine bt c99 ?_;simp only[go_sem,i99,h1,jB,bne]
 have j6:(a.kind==b.kind)=false:=by simp[h1]
 have e:qQ a b=decide (a.kind<b.kind):=by simp only[qQ,j6,dN,if_false]
 rw[e];refine bt c99 ?_;simp only[go_sem,i99,j6,bne]
def acH{A:ai}{k:Nat}(h:k<A.length):A.drop k=lA A k::A.drop (k+1):=by have:=Cy h;obtain⟨h1,e⟩:=aT.1 this;rw[<-e,uw]
def amc(A B:ai)(hAB:A.length=B.length)(hl:A.length<=1000000):aK S 72 [.one (.p (dd A)),.one (.p (dd B))] (rb (nM A B)):=by
 generalize hr:nM A B=r;refine bt c72 ?_;simp only[go_sem,i72];refine dD (fun k ak aj=>ak 0=.one (.p (dd A))/\ak 1=.one (.p (dd B))/\ak 7=vi A.length/\ak 8=vi k/\nM (A.drop k) (B.drop k)=r) 0 A.length (bR _) ?_ ?_
 .simp only[go_sem];first|exact hr|exact⟨rfl,hr⟩
 rintro k ak aj hk ⟨h0,h1,h7,h8,hn⟩
 by_cases aA:k<A.length
 .have hx:=Cy aA;have hy:=Cy (ls:=B) (i:=k) aa;have jV:=jf hx;have OQ:=jf hy;have aM:(k:Int)<(A.length:Int):=aa;have w1:=cU (n:=k) aa;have hlB:k<B.length:=aa;rw[acH aA,acH hlB]at hn;unfold nM at hn;cases he:leq (lA A k) (lA B k)with
  |true=>rw[aD he]at hn;simp only[go_sem,i72_l1,h0,h1,h7,h8,jV,OQ,Let.ps,aM,aA,w1,Vf,he];exact⟨aJ,hn⟩
  |false=>rw[au (by rw[he];decide)]at hn;have pl:=arZ (lA A k) (lA B k);rw[hn]at pl;simp only[go_sem,i72_l1,h0,h1,h7,h8,jV,OQ,Let.ps,aM,Vf,he,s99,mZ pl];first|exact⟨aJ,aJ,rfl⟩|exact⟨aJ,aJ⟩
 have:k=A.length:=aa;subst this;rw[Mc,TT aa]at hn;have hn:false=r:=hn;subst hn;simp only[go_sem,i72_l1,i72_r2,h7,h8,eS]
def ai3(l:ai)(x:Let):∀s,jc s (l++[x])=if x.kind==2 then(if(jc s l).contains x.id then jc s l else jc s l++[x.id])else jc s l:=by
 induction l with
 |nil=>intro s;rfl
 |cons a r ih=>
  intro s;rw[nJ]
  conv=>lhs;unfold jc
  conv=>rhs;unfold jc
  split
  .split<;>exact ih _
  exact ih _
def nxL(s:d_)(x:Let):Let:=if x.kind==2 then(if s.contains x.id then{x with id:=((s.idxOf x.id+1:Nat):Int)}else{x with id:=((s.length+1:Nat):Int)})else x
def aiG(l:ai)(x:Let):∀s,l6 s (l++[x])=l6 s l++[nxL (jc s l) x]:=by
 induction l with
 |nil=>
  intro s;show l6 s [x]=[nxL s x];unfold l6 nxL;split
  .split<;>rfl
  rfl
 |cons a r ih=>
  intro s;rw[nJ]
  conv=>lhs;unfold l6
  conv=>rhs;unfold l6 jc
  split
  .split<;>(rw[ih];rfl)
  rw[ih];rfl
def Pn:∀(l:ai) (s:d_),(l6 s l).length=l.length:=by
 intro l
 induction l with
 |nil=>intro s;rfl
 |cons a r ih=>
  intro s;unfold l6;split
  .split<;>simp[ih]
  simp[ih]
def S8(l:ai):(xC l).length=l.length:=Pn l []
def zY(s:d_)(i:Nat):u_:=match s with
 |[]=>[]
 |a::r=>(a,((i+1:Nat):Int))::zY r (i+1)
def asK:∀(s:d_) (i:Nat),(zY s i).length=s.length:=by
 intro s
 induction s with
 |nil=>intro i;rfl
 |cons a r ih=>intro i;show(zY r (i+1)).length+1=_;rw[ih];rfl
def asJ(a:Int):∀(s:d_) (i:Nat),zY s i++[(a,((i+s.length+1:Nat):Int))]=zY (s++[a]) i:=by
 intro s
 induction s with
 |nil=>intro i;rfl
 |cons b r ih=>intro i;show(b,((i+1:Nat):Int))::(zY r (i+1)++_)=(b,((i+1:Nat):Int))::zY (r++[a]) (i+1);rw[<-ih (i+1),dI,show i+1+r.length+1=i+(r.length+1)+1 by omega]
def ad8(x:Int):∀(s:d_) (i:Nat),fiM (zY s i) x i=if s.contains x then some (i+s.idxOf x,((i+s.idxOf x+1:Nat):Int))else none:=by
 intro s
 induction s with
 |nil=>intro i;rfl
 |cons a r ih=>
  intro i;show(if x==a then some (i,((i+1:Nat):Int))else fiM (zY r (i+1)) x (i+1))=_;by_cases h:x=a
  .subst h;simp
  have h1:(x==a)=false:=lS.2 h;have h2:(a==x)=false:=lS.2 (Ne.symm h);rw[h1,ih (i+1),List.contains_cons,h1,De,TY,h2];simp only[dN,if_false,cond_false];split
  .congr 2
   .omega
   congr 1;omega
  rfl
def sZ(L:ai)(k:Nat):ai:=l6 [] (L.take k)++L.drop k
def ap3(L:ai){k:Nat}:(sZ L k).length=L.length:=by unfold sZ;rw[fS,Pn,iz,lH];omega
def IL{L:ai}{k:Nat}(h:L[k]?=some x):L.take (k+1)=L.take k++[x]:=by obtain⟨hl,e⟩:=aT.1 h;rw[<-e,List.take_append_getElem]
def ap2{L:ai}{k:Nat}(h:L[k]?=some x):(sZ L k)[k]?=some x:=by have hl:=(aT.1 h).1;unfold sZ;rw[Aq (by rw[Pn,iz];omega),Pn,iz,Ar,Au aa,Mp,vr,h]
def ap5{L:ai}{k:Nat}(h:L[k]?=some x):(sZ L k).set k (nxL (jc [] (L.take k)) x)=sZ L (k+1):=by
 obtain⟨hl,e⟩:=aT.1 h;have hd:L.drop k=x::L.drop (k+1):=by rw[<-e,uw]
 have hlen:(l6 [] (L.take k)).length=k:=by rw[Pn,iz];omega
 unfold sZ;rw[IL h,aiG,hd,aaz _ _ aa,hlen,Mp,aaA,wH];rfl
def ap4{L:ai}{k:Nat}(h:L[k]?=some x)(hx:(x.kind==2)=false):sZ L (k+1)=sZ L k/\jc [] (L.take (k+1))=jc [] (L.take k):=by
 obtain⟨hl,e⟩:=aT.1 h;have hd:L.drop k=x::L.drop (k+1):=by rw[<-e,uw]
 refine⟨?_,?_⟩
 .unfold sZ;rw[IL h,aiG,hd];unfold nxL;rw[hx];simp
 rw[IL h,ai3,hx];rfl
def auP(L:ai)(aH:L≠[])(hl:L.length<=1000000):aK S 70 [.one (.p (dd L))] (.one (aW mO 6 (dZ (xC L)))):=by
 have pcl:=abN aH hl;have lo:S.lone 4480128064=false:=ah;refine bt c70 ?_;simp only[go_sem,i70,s60];refine sX pcl lo (.inl rfl) fun cc pK gc pM=>?_;have b0:=pM 4480064000 ae;rcases gc with⟨e,_⟩|⟨_,gg,e,hC⟩
 .exact absurd (by simpa using e) aH
 cases e;rw[cE];simp only[go_sem]at b0;simp only[go_sem];refine dD (fun k ak aj=>ak 3=.one (.kL 4480064000 1)/\ak 4=.one (.hsl 4480128064 gg 6 0 L.length)/\ak 10=.one (.hsl 4480128064 gg 6 0 L.length)/\ak 11=vi L.length/\ak 12=vi k/\
  aj 4480064000=(1,some (.map false (mkE (zY (jc [] (L.take k)) 0))))/\aj 4480128064=(gg,some (.arr mO 6 (dZ (sZ L k))))) 0 L.length (bR _) ?_ ?_
 .simp only[go_sem,b0];exact⟨rfl,rfl,hC⟩
 rintro k ak aj hk ⟨h3,h4,fq,ie,kG,bM,bX⟩
 by_cases aA:k<L.length
 .have aM:((k:Int)<(L.length:Int)):=aa;obtain⟨x,hxL⟩:=aL aA;have hx:=ap2 hxL;have XT:k<(sZ L k).length:=by rw[ap3];exact aA
  have jV:=jf hx;have nv:=IL hxL;obtain⟨n1,_⟩:=ai1 (L.take k) [] xO;have hsl:∀(l:ai) (s:d_),(jc s l).length<=s.length+l.length:=by
   intro l
   induction l with
   |nil=>intro s;exact bY _
   |cons a r ih=>
    intro s;unfold jc;split
    .split
     .have:=ih s;simp only[dI];omega
     have:=ih (s++[a.id]);simp only[fS,dI,fe]at this |-;omega
    have:=ih s;simp only[dI];omega
  have hsk:=hsl (L.take k) [];rw[iz]at hsk;simp only[fe]at hsk;have w1:=cU (n:=k) aa;cases jr:(x.kind==2)with
  |false=>obtain⟨e1,e2⟩:=ap4 hxL jr;rw[<-e1]at bX jV XT;rw[<-e2]at bM;simp only[go_sem,i70_l1,h3,h4,fq,ie,kG,bM,bX,aA,aM,jV,Let.ps,jr,bne,w1]
  |true=>
   have iE:=ap5 hxL;have F3:=ai3 (L.take k) x [];rw[<-nv,jr,aD rfl]at F3;unfold nxL at iE;rw[jr,aD rfl]at iE;generalize jc [] (L.take k)=s at iE F3 bM hsk;have w2:=cU (n:=s.length) aa;have fk:=aef (zY s 0) x.id 0;rw[ad8]at fk;have j8:=asK s 0;cases hc:s.contains x.id with
   |false=>
    rw[hc]at iE F3 fk;simp only[dN,if_false,Qa]at iE F3 fk;have f2:=aef (zY (s++[x.id]) 0) x.id 0;rw[ad8,show(s++[x.id]).contains x.id=true by simp]at f2;have Ee:(s++[x.id]).idxOf x.id=s.length:=by rw[aky,au (fun h=>by rw[Ma.2 h]at hc;cases hc)];simp
    rw[Ee]at f2;simp only[if_true,nK,jx]at f2;have qI:=asJ x.id s 0;rw[jx]at qI;rw[<-qI,<-ahm]at f2;have Yh:(dZ (sZ L k)).set k [.int .i64 x.kind,.int .i64 x.gate,.int .i64 x.aw,.int .i64 ((s.length+1:Nat):Int),.int .i64 x.sign,.bool x.over]=dZ (sZ L (k+1)):=by rw[<-iE,<-agY];rfl
    simp only[go_sem,i70_l1,h3,h4,fq,ie,kG,bM,bX,aA,aM,jV,Let.ps,jr,bne,w1,w2,j8,mapOf,mapVal,iW,Bp,zc,fk,Qa,f2,Yh];rw[F3,<-qI,<-ahm]
   |true=>
    rw[hc]at iE F3 fk;simp only[if_true,nK,jx]at iE F3 fk;have hv:((((s.idxOf x.id+1:Nat):Int))==0)=false:=by rw[lS];omega
    have Yh:(dZ (sZ L k)).set k [.int .i64 x.kind,.int .i64 x.gate,.int .i64 x.aw,.int .i64 ((s.idxOf x.id+1:Nat):Int),.int .i64 x.sign,.bool x.over]=dZ (sZ L (k+1)):=by rw[<-iE,<-agY];rfl
    simp only[go_sem,i70_l1,h3,h4,fq,ie,kG,bM,bX,aA,aM,jV,Let.ps,jr,bne,w1,mapOf,mapVal,iW,fk,hv,Yh];rw[F3]
 have:k=L.length:=aa;subst this;have hX:sZ L L.length=xC L:=by unfold sZ xC;rw[lJ,Mc,jG]
 rw[hX]at bX;have hlr:=S8 L;simp only[go_sem,i70_l1,i70_r2,h4,ie,kG,eS];refine A6 (.inr ⟨?_,gg,by rw[cE,hlr],bX⟩);intro h2;have:=congrArg List.length h2;rw[cE,hlr]at this;exact aH (GD.1 this)
def bkP(ls:ai)(i:Nat):Bool:=((lA ls.reverse i).kind==1)&& !((kY ls).getD (ls.length-1-i) false)
def za(ls:ai):ai:=match (List.range ls.length).find? (bkP ls)with
 |some i=>eI ls.reverse i
 |none=>ls.reverse
def Qu(ls:ai):(za ls).length=ls.length:=by
 unfold za;split
 .rw[yJ,og]
 rw[og]
def al6{ls:ai}(aH:ls≠[])(hl:ls.length<=1000000):aK S 69 [.one (.p (nN F ls))] (.one (aW mO 6 (dZ (za ls)))):=by
 have pcl:=abN aH hl;have lo:S.lone 4416064320=false:=ah;have xu:S.lone 4416512128=false:=ah;have sY:=Qu ls;generalize hR:za ls=R at sY;refine bt c69 ?_;simp only[go_sem,i69,s60];refine sX pcl lo (.inl rfl) fun cc pK gc pM=>?_;simp only[go_sem,s98];refine aph (f:=98) (es:=dZ ls) (id:=4416064320) (ty:=mO) (z:=6) (fun o h=>auV o (by simp;omega) (ar5 _) h) (gc.of_eq rfl) fun blkr gr hbr=>?_;rw[ar4]at gr;rcases gr with⟨e,_⟩|⟨_,gg,e,hC⟩
 .have:=congrArg List.length e;rw[cE,og]at this;exact absurd (GD.1 this) aH
 cases e;rw[cE,og];simp only[go_sem];have NC:ls.reverse.length=ls.length:=og;have vW:IntKind.i64.wrap ((ls.length:Int)-1)=((ls.length-1:Nat):Int):=by have:=jl.2 aH;rw[xI aa aa];omega
 have hdl:(kY ls).length=ls.length:=by simp[kY]
 unfold za at hR;have jh:∀i,bkP ls i=(((lA ls.reverse i).kind==1)&& !((kY ls).getD (ls.length-1-i) false)):=fun _=>rfl;generalize bkP ls=bp at hR jh;generalize ls.reverse=X at hC NC gc hR jh;refine dD (fun k ak aj=>ak 0=.one (.p (nN F ls))/\ak 3=.one (.hsl 4416064320 gg 6 0 ls.length)/\ak 15=vi ls.length/\ak 16=vi k/\aj 4416064320=(gg,some (.arr mO 6 (dZ X)))/\ ∀j,j<k->bp j=false) 0 ls.length (bR _) ?_ ?_
 .simp only[go_sem,hC];first|exact⟨rfl,fun j h=>absurd h (o9 j)⟩|exact⟨rfl,rfl,fun j h=>absurd h (o9 j)⟩
 rintro k ak aj hk ⟨h0,h3,mh,qH,bX,dR⟩
 by_cases aA:k<ls.length
 .have aM:((k:Int)<(ls.length:Int)):=aa;have XT:k<X.length:=aa;have jV:=jf (Cy XT);have w1:=cU (n:=k) aa;have w2:IntKind.i64.wrap (((ls.length-1:Nat):Int)-(k:Int))=((ls.length-1-k:Nat):Int):=by
   rw[xI aa aa];omega
  obtain⟨d,hd⟩:=aL (ls:=kY ls) (k:=ls.length-1-k) aa;have lV:=tO hd;have hdl':ls.length-1-k<(kY ls).length:=aa;have k9:=jh k;rw[show(kY ls).getD (ls.length-1-k) false=d by rw[dC,hd];rfl]at k9;generalize lA X k=x at jV k9;have apD:ls.length<=X.length:=aa;have hXt:List.take ls.length (dZ X)=dZ X:=gK (by rw[cE];omega);have pr:=aiO X k aa aa;have nx:bp k=false->∀j,j<k+1->bp j=false:=fun hb j hj=>by
   rcases oD.1 hj with h|rfl
   .exact dR j h
   exact hb
  cases jr:(x.kind==1)with
  |false=>rw[jr,Bool.false_and]at k9;simp only[go_sem,i69_l1,h0,h3,mh,qH,bX,aA,aM,jV,Let.ps,jr,vW,w1,w2];exact nx k9
  |true=>
   cases d with
   |true=>rw[jr]at k9;simp only[go_sem,i69_l1,h0,h3,mh,qH,bX,aA,aM,jV,Let.ps,jr,vW,w1,w2,lV];exact nx k9
   |false=>rw[jr]at k9;have hf:(List.range ls.length).find? bp=some k:=DR aA dR k9;rw[hf]at hR;have hR:eI X k=R:=hR;unfold eI at hR;simp only[go_sem,i69_l1,h0,h3,mh,qH,bX,aA,aM,jV,Let.ps,jr,vW,w2,lV,apD,hXt,s71];refine sX pr xu (.inr (rV (LH _))) fun cr gR gr3 ig=>?_;rw[hR]at gr3;simp only[go_sem];exact A6 gr3
 have:k=ls.length:=aa;subst this;have hf:(List.range ls.length).find? bp=none:=JZ fun j hj=>dR j hj;rw[hf]at hR;have hR:X=R:=hR;subst hR;simp only[go_sem,i69_l1,i69_r2,h3,mh,qH,eS];refine A6 (.inr ⟨?_,gg,by rw[cE,NC],bX⟩);intro h2;have:=congrArg List.length h2;rw[cE,NC]at this;exact aH (GD.1 this)
def JY(l:ai)(i:Nat):Bool:=((lA l i).kind==1)&&decide (aq Let.aE (l.take i)%2=0)
def r4(l:ai)(n:Nat):x_:=(List.range n).filterMap fun i=>if JY l i then some (xC (eI l i))else none
def aoz(l:ai)(n:Nat):r4 l (n+1)=r4 l n++(if JY l n then [xC (eI l n)]else []):=by unfold r4;rw[yX,aku];congr 1;cases h:JY l n<;>simp[h]
def tB(z:Option ai)(y:ai):Option ai:=match z with
 |none=>some y
 |some z=>if nM y z then some y else some z
def xw(V:x_):Option ai:=V.foldl tB none
def asQ(V:x_)(y:ai):xw (V++[y])=tB (xw V) y:=by unfold xw;rw[Jd];rfl
def asS{V:x_}:∀ {o z},V.foldl tB o=some z->z∈V\/o=some z:=by
 induction V with
 |nil=>intro o z h;exact .inr h
 |cons y V ih=>
  intro o z h;rcases ih (o:=tB o y) h with h1|h1
  .exact .inl (by simp[h1])
  cases o with
  |none=>cases h1;exact .inl af
  |some w=>
   unfold tB at h1;simp only at h1;split at h1
   .cases h1;exact .inl af
   exact .inr h1
def YU{V:x_}{z:ai}(h:xw V=some z):z∈V:=by
 rcases asS h with h|h
 .exact h
 cases h
def cO:Option ai->PV
 |none=>.nils
 |some Y=>dd Y
def we(F:Nat)(ls:ai)(gB:Nat)(bs:s_)(k:Nat)(V:x_)(ak:Env)(aj:aC):Prop:=
 ak 0=.one (.p (nN F ls))/\ak 2=.one (.aZ 2560000000 1 0)/\ak 17=.one (.hsl 2560128448 gB 1 0 2)/\ak 18=vi 2/\ak 19=vi k/\ak 3=.one (.p (cO (xw V)))/\
 aj 2560000000=(1,some (.var [.p (.int .i64 0),.p .nils]))/\aj 2560128448=(gB,some (.arr 22 1 bs))
def ah2(l:ai){i:Nat}(hx:l[i]?=some x):decide (aq Let.aE (l.take (i+1))%2=0)=if x.kind==1 then !decide (aq Let.aE (l.take i)%2=0)else decide (aq Let.aE (l.take i)%2=0):=by
 rw[IL hx,wP];have:aq Let.aE [x]=if x.kind==1 then 1 else 0:=by show List.countP _ [x]=_;rw[aao];rfl
 rw[this];generalize aq Let.aE (l.take i)=n;cases(x.kind==1)
 .simp
 simp only[if_true];rw[ET,l9,mf,decide_eq_false_iff_not];omega
def ahy{F:Nat}{ls l:ai}{gB k:Nat}{bs:s_}{V:x_}{Q:dX}{ak:Env}{aj:aC}(aH:l≠[])(vO:l.length=ls.length)(hl:ls.length<=1000000)(hV:∀y∈V,y.length=ls.length)(hI:we F ls gB bs k V ak aj)(h5:ak 5=.one (.p (dd l)))(h6:ak 6=vb true)(rC:ak 23=.one (.p (dd l)))(ni:ak 24=vi ls.length)(nj:ak 25=vi 0)
  (hK:∀aF ao,we F ls gB bs k (V++r4 l ls.length) aF ao->Q .normal aF ao):W S .all (.loop i40_l1) (mY 2 Q) ak aj:=by
 refine dD (fun i ak aj=>we F ls gB bs k (V++r4 l i) ak aj/\ak 5=.one (.p (dd l))/\ak 6=vb (decide (aq Let.aE (l.take i)%2=0))/\ak 23=.one (.p (dd l))/\ak 24=vi ls.length/\ak 25=vi i) 0 ls.length (bR _) ⟨by rw[show r4 l 0=[]from rfl,jG];exact hI,h5,h6,rC,ni,nj⟩ ?_;rintro i ak aj hi ⟨⟨h0,h2,jA,iB,iK,h3,b0,bB⟩,h5,h6,rC,ni,nj⟩
 by_cases aA:i<ls.length
 .have aM:((i:Int)<(ls.length:Int)):=aa;have aqj:i<l.length:=aa;have xn:=Cy aqj;have jV:=jf xn;have zS:=ah2 l xn;have tc:=aoz l i;unfold JY at tc;have nT:∀y∈V++r4 l i,y.length=ls.length:=fun y hy=>by
   rcases eO.1 hy with h|h
   .exact hV y h
   obtain⟨j,_,e⟩:=aax.1 h;split at e
   .cases e;rw[S8,yJ,vO]
   cases e
  generalize lA l i=x at jV zS tc;generalize decide (aq Let.aE (l.take i)%2=0)=d at zS tc h6;generalize r4 l i=W0 at*;have w1:=cU (n:=i) aa;have pr:=aiO l i aa aa;have NC:(eI l i).length=ls.length:=by rw[yJ,vO]
  rw[show l.drop i++l.take i=eI l i from rfl]at pr;generalize eI l i=R at pr NC tc;have Rr:R≠[]:=jl.1 aa;have pn:=auP R Rr aa;have hY:=S8 R;generalize xC R=Y at pn hY tc;have Xv:Y≠[]:=jl.1 aa;have nW:S.lone 2560704128=true:=YK ah;have xu:S.lone 2560704192=true:=YK ah;cases df:(x.kind==1)with
  |false=>rw[df]at zS tc;simp only[Bool.false_and,dN,if_false,jG]at zS tc;simp only[go_sem,i40_l1,h5,h6,rC,ni,nj,aA,aM,jV,Let.ps,df,bne,w1];simp only[go_sem,we,tc,zS,h0,h2,h3,jA,iB,iK,b0,bB]
  |true=>
   rw[df]at zS tc;cases d with
   |false=>simp only[Df,dN,if_false,if_true,jG,GC]at zS tc;simp only[go_sem,i40_l1,h5,h6,rC,ni,nj,aA,aM,jV,Let.ps,df,bne,w1];simp only[go_sem,we,tc,zS,h0,h2,h3,jA,iB,iK,b0,bB]
   |true=>
    simp only[Df,if_true,Ao]at zS tc;have nU:xw (V++(W0++[Y]))=tB (xw (V++W0)) Y:=by rw[<-wH,asQ]
    cases hz:xw (V++W0)with
    |none=>rw[hz]at nU h3;have nU:xw (V++(W0++[Y]))=some Y:=nU;have h3:ak 3=.one (.p .nils):=h3;simp only[go_sem,i40_l1,h3,h5,h6,rC,ni,nj,aA,aM,jV,Let.ps,df,bne,w1,s71,dr pr (Io Rr nW),s70,dr pn (Io Xv xu)];simp only[go_sem,we,tc,zS,nU,cO,h0,h2,h3,jA,iB,iK,b0,bB]
    |some Z=>
     rw[hz]at nU h3;have hZ:=nT Z (YU hz);have h3:ak 3=.one (.p (dd Z)):=h3;have pb:=amc Y Z aa aa;obtain⟨e,es,he⟩:∃e es,dZ Z=e::es:=by
      cases Z with
      |nil=>simp at hZ;omega
      |cons z t=>exact⟨_,_,rfl⟩
     have hZe:PV.sl (e::es)=dd Z:=by rw[<-he]
     rw[<-hZe]at pb h3;unfold tB at nU;simp only at nU;cases hb:nM Y Z with
     |false=>rw[hb]at pb nU;simp only[dN,if_false]at nU;simp only[go_sem,i40_l1,h3,h5,h6,rC,ni,nj,aA,aM,jV,Let.ps,df,bne,w1,s71,dr pr (Io Rr nW),s70,dr pn (Io Xv xu),s72,eD pb];simp only[go_sem,we,tc,zS,nU,cO,hZe,h0,h2,h3,jA,iB,iK,b0,bB]
     |true=>rw[hb]at pb nU;simp only[if_true]at nU;simp only[go_sem,i40_l1,h3,h5,h6,rC,ni,nj,aA,aM,jV,Let.ps,df,bne,w1,s71,dr pr (Io Rr nW),s70,dr pn (Io Xv xu),s72,eD pb];simp only[go_sem,we,tc,zS,nU,cO,h0,h2,h3,jA,iB,iK,b0,bB]
 have:i=ls.length:=aa;subst this;simp only[go_sem,i40_l1,ni,nj,eS];refine hK _ _ ?_;simp only[go_sem,we,h0,h2,h3,jA,iB,iK,b0,bB]
def G0(ls:ai):x_:=r4 ls ls.length++r4 (za ls) ls.length
def jE(ls:ai):Option ai:=xw (G0 ls)
def W4{l:ai}{n:Nat}(h:y∈r4 l n):y.length=l.length:=by
 obtain⟨j,_,e⟩:=aax.1 h;split at e
 .cases e;rw[S8,yJ]
 cases e
def as3{ls:ai}(aH:ls≠[])(hl:ls.length<=1000000):aK S 40 [.one (.p (nN F ls))] (.agg [.p (.int .i64 F),.p (cO (jE ls))]):=by
 have pb:=al6 (F:=F) aH hl;have hB:=Qu ls;generalize hr:jE ls=res;unfold jE G0 at hr;generalize za ls=B at pb hB hr;have aeX:B≠[]:=by have:=jl.2 aH;exact jl.1 aa
 have nW:S.lone 2560128384=true:=YK ah;refine bt c40 ?_;simp only[go_sem,i40,s69,He pb (Io aeX nW)];refine⟨aJ,?_⟩;refine dD (fun k=>we F ls 1 [[dd ls],[dd B]] k (if k=0 then []else if k=1 then r4 ls ls.length else r4 ls ls.length++r4 B ls.length)) 0 2 (bR _) ?_ ?_
 .simp only[go_sem,we];first|done|exact⟨rfl,rfl⟩|exact⟨rfl,rfl,rfl⟩|exact⟨rfl,rfl,rfl,rfl,rfl,rfl,rfl,rfl⟩|rfl
 intro k ak aj hk hI;obtain⟨h0,h2,jA,iB,iK,h3,b0,bB⟩:=hI;by_cases aA:k<2
 .have XN:k=0\/k=1:=aa;have l02:((0:Nat):Int)<2:=ae;have l12:((1:Nat):Int)<2:=ae;rcases XN with rfl|rfl
  .simp only[go_sem,i40_l3,jA,iB,iK,bB,l02];refine ahy (F:=F) (ls:=ls) (l:=ls) (gB:=1) (k:=0) (bs:=[[dd ls],[dd B]]) (V:=[]) aH rfl hl (fun y h=>by cases h) ?_ rfl rfl rfl rfl rfl fun aF ao Km=>?_
   .simp only[go_sem,we,h0,h2,h3,jA,iB,iK,b0,bB];first|done|rfl
   obtain⟨h0,h2,jA,iB,iK,h3,b0,bB⟩:=Km;rw[gn]at h3;simp only[go_sem,we,i40_r2,h0,h2,h3,jA,iB,iK,b0,bB];first|done|rfl|exact⟨rfl,rfl⟩
  simp only[go_sem,i40_l3,jA,iB,iK,bB,l12];refine ahy (F:=F) (ls:=ls) (l:=B) (gB:=1) (k:=1) (bs:=[[dd ls],[dd B]]) (V:=r4 ls ls.length) aeX hB hl (fun y h=>W4 h) ?_ rfl rfl rfl (by rw[<-hB];rfl) rfl fun aF ao Km=>?_
  .simp only[go_sem,we,h0,h2,h3,jA,iB,iK,b0,bB];first|done|rfl
  obtain⟨h0,h2,jA,iB,iK,h3,b0,bB⟩:=Km;simp only[go_sem,we,i40_r2,h0,h2,h3,jA,iB,iK,b0,bB];first|done|rfl|exact⟨rfl,rfl⟩
 have:k=2:=aa;subst this;have l22:¬(((2:Nat):Int)<2):=ae;have h3:ak 3=.one (.p (cO res)):=by rw[<-hr];exact h3
 simp only[go_sem,i40_l3,i40_r4,h0,h2,h3,iB,iK,b0,l22];cases res<;>rfl
def Zc(cS:rm){f:Int}{ls:ai}(hl:ls.length<=1000000)(h0:cG f ls=0):aK S 20 [ez f ls] (.tup [.agg [.p (.int .i64 f),.p (cO (jE ls))],.one (.p (.int .i64 0))]):=by
 have pr:=S7 f ls hl;rw[Pl h0]at pr;have pn:aK S 40 [.one (.p (if ls=[]then AY f else nN f.toNat ls))] (.agg [.p (.int .i64 f),.p (cO (jE ls))]):=by
  by_cases aH:ls=[]
  .rw[aD aH];subst aH;exact as2 cS f
  rw[au aH];obtain⟨F,hF,g⟩:=qG h0 aH;subst hF;exact as3 (F:=F) aH hl
 have ft:(if ls=[]then AY f else nN f.toNat ls).norm=(if ls=[]then AY f else nN f.toNat ls):=by split<;>simp only[Zb]
 generalize(if ls=[]then AY f else nN f.toNat ls)=dg at pr pn ft;generalize cO (jE ls)=c at*;refine bt c20 ?_;simp only[go_sem,i20,s39,dr pr iM,s40,dr pn arA,ft];rfl
def asq:∀ {A B:d_},A.length=B.length->yD A B=false->yD B A=false->A=B:=by
 intro A
 induction A with
 |nil=>intro B h _ _;cases B with
  |nil=>rfl
  |cons _ _=>cases h
 |cons a A ih=>
  intro B h h1 h2;cases B with
  |nil=>cases h
  |cons b B=>
   unfold yD at h1 h2;by_cases e:a=b
   .subst e;rw[aD rfl]at h1 h2;rw[ih (by simpa using h) h1 h2]
   rw[au e]at h1;rw[au (Ne.symm e)]at h2;have:=gZ h1;have:=gZ h2;omega
def arv{a b:Let}(h:KY a=KY b):a=b:=by
 cases a with|mk k g r i s o=>cases b with|mk k' g' r' i' s' o'=>
 unfold KY at h;simp only[yR,and_true]at h;obtain⟨h1,h2,h3,h4,h5,h6⟩:=h;have:o=o':=by revert h5;cases o<;>cases o'<;>simp
 subst h1 h2 h3 h4 h6 this;rfl
def abr:∀ {A B:ai},A.length=B.length->nM A B=false->nM B A=false->A=B:=by
 intro A
 induction A with
 |nil=>intro B h _ _;cases B with
  |nil=>rfl
  |cons _ _=>cases h
 |cons a A ih=>
  intro B h h1 h2;cases B with
  |nil=>cases h
  |cons b B=>
   unfold nM at h1 h2;by_cases e:a=b
   .subst e;rw[aD (K7 a)]at h1 h2;rw[ih (by simpa using h) h1 h2]
   have e1:¬leq a b=true:=fun x=>e ((K6 _ _).1 x);have e2:¬leq b a=true:=fun x=>e ((K6 _ _).1 x).symm;rw[au e1,Sx]at h1;rw[au e2,Sx]at h2;exact absurd (arv (a:=a) (b:=b) (asq rfl h1 h2)) e
def asT{n:Nat}:∀ {V:x_}{o z},(∀y∈V,y.length=n)->(∀w,o=some w->w.length=n)->V.foldl tB o=some z->(∀y∈V,nM y z=false)/\(∀w,o=some w->nM w z=false):=by
 intro V
 induction V with
 |nil=>intro o z _ _ h;refine⟨fun y hy=>(by cases hy),fun w hw=>?_⟩;have h:o=some z:=h;rw[h]at hw;cases hw;exact ama z
 |cons y V ih=>
  intro o z hV ho h;have hy0:=hV y af;have hV':∀u∈V,u.length=n:=fun u hu=>hV u (by simp[hu]);cases o with
  |none=>
   obtain⟨h1,h2⟩:=ih (o:=some y) hV' (fun w hw=>by cases hw;exact hy0) h;refine⟨fun w hw=>?_,fun w hw=>(by cases hw)⟩;rcases bJ.1 hw with rfl|hw
   .exact h2 w rfl
   exact h1 w hw
  |some w=>
   have vW:=ho w rfl;have h:V.foldl tB (tB (some w) y)=some z:=h;cases hb:nM y w with
   |true=>
    have e:tB (some w) y=some y:=by unfold tB;simp only[hb,if_true]
    rw[e]at h;obtain⟨h1,h2⟩:=ih (o:=some y) hV' (fun w hw=>by cases hw;exact hy0) h;have hy:=h2 y rfl;refine⟨fun u hu=>?_,fun u hu=>?_⟩
    .rcases bJ.1 hu with rfl|hu
     .exact hy
     exact h1 u hu
    cases hu;cases hz:nM w z
    .rfl
    rw[abt hb hz]at hy;cases hy
   |false=>
    have e:tB (some w) y=some w:=by unfold tB;simp only[hb,dN,if_false]
    rw[e]at h;obtain⟨h1,h2⟩:=ih (o:=some w) hV' (fun w hw=>by cases hw;exact vW) h;have hw:=h2 w rfl;refine⟨fun u hu=>?_,fun u hu=>by cases hu;exact hw⟩;rcases bJ.1 hu with rfl|hu
    .cases hz:nM u z
     .rfl
     cases hwu:nM w u with
     |true=>rw[abt hwu hz]at hw;cases hw
     |false=>rw[abr aa hb hwu]at hz;rw[hz]at hw;cases hw
    exact h1 u hu
def YV{n:Nat}{V:x_}{z:ai}(hV:∀y∈V,y.length=n)(h:xw V=some z):z∈V/\ ∀y∈V,nM y z=false:=
 ⟨YU h,(asT hV (fun w hw=>by cases hw) h).1⟩
def YW{V:x_}(h:V≠[]):∃z,xw V=some z:=by
 have key:∀(V:x_) (w:ai),∃z,V.foldl tB (some w)=some z:=by
  intro V
  induction V with
  |nil=>intro w;exact⟨w,rfl⟩
  |cons y V ih=>
   intro w;show∃z,V.foldl tB (tB (some w) y)=some z;unfold tB;simp only;split
   .exact ih y
   exact ih w
 cases V with
 |nil=>exact absurd rfl h
 |cons y V=>exact key V y
def asP{n:Nat}{V W:x_}(hV:∀y∈V,y.length=n)(ND:∀y,y∈V↔y∈W):xw V=xw W:=by
 have hW:∀y∈W,y.length=n:=fun y hy=>hV y ((ND y).2 hy);by_cases hv:V=[]
 .have hw:W=[]:=by
   cases W with
   |nil=>rfl
   |cons y W=>have:=(ND y).2 af;rw[hv]at this;cases this
  rw[hv,hw]
 have hw:W≠[]:=fun e=>by
  cases V with
  |nil=>exact hv rfl
  |cons y V=>have:=(ND y).1 af;rw[e]at this;cases this
 obtain⟨z,hz⟩:=YW hv;obtain⟨u,hu⟩:=YW hw;obtain⟨z1,z2⟩:=YV hV hz;obtain⟨u1,u2⟩:=YV hW hu;have:=abr ((hV z z1).trans (hW u u1).symm) (u2 z ((ND z).1 z1)) (z2 u ((ND u).2 u1));rw[hz,hu,this]
def acV{l:ai}{i:Nat}(hi:i<l.length):JY l i=true↔Fy l i:=by
 have h:=Cy hi;unfold JY Fy par;rw[cH,mf];constructor
 .rintro ⟨h1,h2⟩
  exact⟨⟨_,h,h1⟩,h2⟩
 rintro⟨⟨x,hx,hp⟩,h2⟩
 rw[h]at hx;cases hx;exact⟨hp,h2⟩
def ad2{l:ai}:y∈r4 l l.length↔wV l y:=by
 unfold r4 wV;rw[aax];constructor
 .rintro ⟨i,hi,e⟩
  have hi:=im.1 hi;split at e
  .rename_i hb;cases e;exact⟨i,hi,(acV hi).1 hb,rfl⟩
  cases e
 rintro⟨i,hi,he,rfl⟩
 exact⟨i,im.2 hi,by rw[aD ((acV hi).2 he)]⟩
def al4{ls:ai}(he:aq Let.aE ls%2=0):∃j,j<=ls.length/\par ls.reverse j/\za ls=eI ls.reverse j:=by
 unfold za;split
 .rename_i i hf;have hi:=im.1 (Jf hf);have hb:=Md hf;unfold bkP at hb;rw[cH]at hb;obtain⟨h1,h2⟩:=hb;refine⟨i,aa,?_,rfl⟩;obtain⟨x,hx⟩:=aL (ls:=ls) (k:=ls.length-1-i) aa;have hxr:ls.reverse[i]?=some x:=by rw[TX aa];exact hx
  rw[agK hxr]at h1;have hd:(kY ls).getD (ls.length-1-i) false=dn ls (ls.length-1-i):=by unfold kY;rw[dC,fG,vp aa];show eN ls (ls.length-1-i)=_;unfold eN;rw[hx];show(x.aE&&_)=_;rw[show x.aE=true from h1,Df]
  rw[hd]at h2;unfold dn at h2;unfold par;rw[aaC,vz];have e1:aq Let.aE ls=aq Let.aE (ls.take (ls.length-i))+aq Let.aE (ls.drop (ls.length-i)):=by rw[<-wP,mU]
  have e2:=ah2 ls hx;rw[show ls.length-1-i+1=ls.length-i by omega,h1,aD rfl]at e2;have h3:¬aq Let.aE (ls.take (ls.length-1-i))%2=0:=by intro h;rw[h]at h2;cases h2
  rw[E6 h3]at e2;have h4:aq Let.aE (ls.take (ls.length-i))%2=0:=qx e2;omega
 refine⟨0,bR _,rfl,?_⟩;unfold eI;simp
def ato{l:ai}(hj:j<=l.length)(he:aq Let.aE l%2=0)(hp:par l j):par (eI l j) (l.length-j)/\eI (eI l j) (l.length-j)=l:=by
 have hd:(l.drop j).length=l.length-j:=lH;have e1:aq Let.aE l=aq Let.aE (l.take j)+aq Let.aE (l.drop j):=by rw[<-wP,mU]
 unfold par at*;unfold eI;rw[<-hd,PX,aar,mU];exact⟨aa,rfl⟩
def Xe{l:ai}(hj:j<=l.length)(he:aq Let.aE l%2=0)(hp:par l j):wV (eI l j) y↔wV l y:=by refine⟨aet hj he hp,fun h=>?_⟩;obtain⟨h1,h2⟩:=ato hj he hp;refine aet (l:=eI l j) (j:=l.length-j) (by rw[yJ];omega) (by rw[JH];exact he) h1 ?_;rw[h2];exact h
def aog{f:Int->Int}{l:ai}{i:Nat}(h:Fy l i):Fy (l.map (dY f)) i:=by obtain⟨⟨x,hx,hp⟩,h2⟩:=h;refine⟨⟨dY f x,by rw[fG,hx];rfl,by rw[GR];exact hp⟩,?_⟩;unfold par at*;rw[<-Je,QD];exact h2
def aes{f:Int->Int}{l:ai}(hf:inj f l):wV (l.map (dY f)) y↔wV l y:=by
 refine⟨aoY hf,?_⟩;rintro⟨i,hi,he,rfl⟩
 refine⟨i,by rw[cE];exact hi,aog he,?_⟩;rw[aiL,aiH (Yq hf fun x hx=>Iu.1 hx)]
def lM(a b:ai):Prop:=a.length=b.length/\aq Let.aE a%2=aq Let.aE b%2/\ ∀y,xX a y↔xX b y
def lM.refl(a:ai):lM a a:=⟨rfl,rfl,fun _=>uv⟩
def lM.symm{a b:ai}(h:lM a b):lM b a:=⟨h.1.symm,h.2.1.symm,fun y=>(h.2.2 y).symm⟩
def lM.trans{a b c:ai}(h:lM a b)(k:lM b c):lM a c:=⟨h.1.trans k.1,h.2.1.trans k.2.1,fun y=>(h.2.2 y).trans (k.2.2 y)⟩
def Q8{l:ai}(hj:j<=l.length)(he:aq Let.aE l%2=0)(hp:par l j):lM (eI l j) l:=by refine⟨yJ _ _,by rw[JH],fun y=>?_⟩;unfold xX;rw[Xe hj he hp,auX l hj,Xe (by rw[og];omega) (by rw[vz];exact he) (atp hj he hp)]
def ad1{l:ai}:lM l.reverse l:=by refine⟨og,by rw[vz],fun y=>?_⟩;unfold xX;rw[List.reverse_reverse];exact Or.comm
def W2{f:Int->Int}{l:ai}(hf:inj f l):lM (l.map (dY f)) l:=by refine⟨cE ..,by rw[QD],fun y=>?_⟩;unfold xX;rw[aes hf,<-aaw,aes (Yq hf fun x hx=>PT.1 hx)]
def aoy(l:ai):lM (xC l) l:=by obtain⟨f,hf,e⟩:=ZD l;rw[e];exact W2 hf
def adZ{l:ai}(he:aq Let.aE l%2=0)(h:xX l y):lM y l:=by
 have key:∀m,aq Let.aE m%2=0->wV m y->lM y m:=fun m hm h=>by obtain⟨j,hj,⟨_,hp⟩,rfl⟩:=h;exact(aoy _).trans (Q8 aa hm hp)
 rcases h with h|h
 .exact key l he h
 exact(key l.reverse (by rw[vz];exact he) h).trans ad1
def MI{l:ai}(he:aq Let.aE l%2=0):y∈G0 l↔xX l y:=by
 obtain⟨j,hj,hp,e⟩:=al4 he;unfold G0 xX;have hl:r4 (za l) l.length=r4 (za l) (za l).length:=by rw[Qu]
 rw[eO,hl,ad2,ad2,e,Xe (by rw[og];exact hj) (by rw[vz];exact he) hp]
def UD{l:ai}(h:y∈G0 l):y.length=l.length:=by
 unfold G0 at h;rcases eO.1 h with h|h
 .exact W4 h
 rw[W4 h,Qu]
def as1{a b:ai}(he:aq Let.aE a%2=0)(h:lM a b):jE a=jE b:=by obtain⟨h1,h2,h3⟩:=h;refine asP (n:=a.length) (fun y hy=>UD hy) fun y=>?_;rw[MI he,MI aa];exact h3 y
section
variable {F:Nat} {ls:ai}
def ch.isP0(g:ch F ls):Fy ls 0:=by obtain⟨l,h1,h2⟩:=g.first;exact⟨⟨l,h1,h2⟩,rfl⟩
def bh(ls:ai):ai:=(jE ls).getD []
def ch.qk(g:ch F ls):jE ls=some (bh ls)/\xX ls (bh ls)/\ ∀y,xX ls y->nM y (bh ls)=false:=by
 have he:=g.even;have h0:xX ls (xC (eI ls 0)):=.inl ⟨0,jl.2 g.ne,g.isP0,rfl⟩;have hc:G0 ls≠[]:=fun e=>by have:=(MI he).2 h0;rw[e]at this;cases this
 obtain⟨z,hz⟩:=YW hc;obtain⟨z1,z2⟩:=YV (fun y hy=>UD hy) hz;have hn:jE ls=some z:=hz;have e:bh ls=z:=by unfold bh;rw[hn];rfl
 rw[e];exact⟨hn,(MI he).1 z1,fun y hy=>z2 y ((MI he).2 hy)⟩
def ch.form(g:ch F ls)(h:xX ls y):cG (F:Int) y=0:=by
 have c:=g.cz;have hl:(zF ls).length<=400:=by rw[L7];exact g.len
 have hc:aq Let.aB (aR (zF ls))<=200:=by rw[mz];exact g.cr
 have h0:∀x,(zF ls)[0]?=some x->x.i.b=false:=fun x hx=>by have hn:0<ls.length:=jl.2 g.ne;rw[GB hn]at hx;cases hx;rw[Yp g hn];rfl
 rcases h with h|h
 .exact aeu c h0 hl hc g.fing (by rw[mz];exact h)
 refine aeu c.rv ?_ (by rw[cE,og];exact hl) (by rw[La,vz];exact hc) g.fing (by rw[La,mz];exact h);intro x hx;rw[fG]at hx;have hn:0<ls.length:=jl.2 g.ne;rw[TX (by rw[L7];exact hn),L7,GB aa]at hx;cases hx;show(eB ls (ls.length-1-0)).o.b=false;show(!dn ls (ls.length-1-0+1))=false;rw[show ls.length-1-0+1=ls.length by omega,acB g];rfl
end
def Ze(ls:ai):(bh ls).length<=ls.length:=by
 unfold bh;cases h:jE ls with
 |none=>exact bR _
 |some z=>have:=UD (YU h);show z.length<=_;omega
def Qx(o:Option ai):(cO o).norm=dd (o.getD []):=by
 cases o with
 |none=>rfl
 |some Y=>rfl
def fg(F:Nat)(ls:ai)(m:aS):Option ai:=
 if ls=[]then if di F [] m.k m.a m.b m.c m.l m.o m.s=true then some (circ m.b.toNat)else none
 else if di F ls m.k m.a m.b m.c m.l m.o m.s=true then match qh F ls m.k m.a.toNat m.b.toNat m.c.toNat m.l m.o m.s with
  |none=>none
  |some M=>if(400:Int)<(ls.length:Int)+(mK m.k).1\/(100:Int)<((aq Let.aB ls/2:Nat):Int)+(mK m.k).2 then none else some (dO M)
 else none
def au0{L:ai}{e:Int}(he:e≠0):l7 F L≠sD e:=fun h=>by unfold l7 sD at h;simp only[RV.tup.injEq,yR,RV.one.injEq,RC.p.injEq,PV.int.injEq,and_true,true_and]at h;exact he h.2.symm
def rO(F:Nat):ai->g_->Option ai
 |ls,[]=>some ls
 |ls,m::ms=>match fg F ls m with
  |none=>none
  |some L=>rO F L ms
def aiJ{ls L:ai}{ms:g_}(m:aS)(h:rO F ls ms=some L):rO F ls (ms++[m])=fg F L m:=by
 induction ms generalizing ls with
 |nil=>have e:ls=L:=pz h;rw[<-e];show(match fg F ls m with|none=>none|some L=>some L)=_;cases fg F ls m<;>rfl
 |cons a r ih=>
  show(match fg F ls a with|none=>none|some L=>rO F L (r++[m]))=_;have h:(match fg F ls a with|none=>none|some L=>rO F L r)=some L:=h;cases ha:fg F ls a with
  |none=>rw[ha]at h;cases h
  |some K=>rw[ha]at h;exact ih h
def wg{ls:ai}(h:cG (F:Int) ls=0):cG (F:Int) (bh ls)=0:=by
 by_cases aH:ls=[]
 .subst aH;exact h
 obtain⟨G,e,g⟩:=qG h aH;have:F=G:=aa;subst this;exact g.form g.qk.2.1
def G9{f:Int}{L:ai}(h:cG f L=0):L.length<=400:=by
 by_cases aH:L=[]
 .subst aH;exact bR _
 obtain⟨G,_,g⟩:=qG h aH;exact g.len
end
end Go.Abs
