/-
  The normal form of a code; Replay.
-/
import Derived.Test.YtfdblnecoamlbaaGreatDoorVb
import Derived.Test.YtfdblnecoamlbaaGreatDoorUa
set_option linter.all false
set_option maxRecDepth 100000
set_option maxHeartbeats 16000000
namespace Go.Abs
section
variable{F j:Nat}{x:Let}{ls y:ai}
def KB(x y:Let):leq x y=true↔x=y:=by
 constructor
 .intro h;unfold leq at h;simp only[cU,dk] at h;obtain⟨h1,h2,h3,h4,h5,h6⟩:=h;cases x;cases y
  simp_all
 rintro rfl;exact FN x
def qL(a b:Let):Bool:=if a.kind==b.kind then if a.gate==b.gate then if a.aC==b.aC then if a.id==b.id then if a.over==b.over then decide (a.sign<b.sign) else b.over else decide (a.id<b.id) else decide (a.aC<b.aC) else decide (a.gate<b.gate) else decide (a.kind<b.kind)
def xV:d_->d_->Bool
 |a::A,b::B=>if a=b then xV A B else decide (a<b)
 |_,_=>false
def aqw:∀ {A B:d_},xV A B=true->xV B A=false:=by
 intro A
 induction A with
 |nil=>intro B h;cases B<;>cases h
 |cons a A ih=>
  intro B h;cases B with
  |nil=>cases h
  |cons b B=>
   unfold xV at h |-;by_cases e:a=b
   .subst e;rw[aD rfl] at h |-;exact ih h
   rw[ay e] at h;rw[ay (Ne.symm e)];have:=qu h;exact Eo aa
def aqy:∀ {A B D:d_},xV A B=true->xV B D=true->xV A D=true:=by
 intro A
 induction A with
 |nil=>intro B D h;cases B<;>cases h
 |cons a A ih=>
  intro B D h h';cases B with
  |nil=>cases h
  |cons b B=>
   cases D with
   |nil=>cases h'
   |cons d D=>
    unfold xV at h h' |-;by_cases e:a=b
    .subst e;rw[aD rfl] at h;by_cases e':a=d
     .subst e';rw[aD rfl] at h' |-;exact ih h h'
     rw[ay e'] at h' |-;exact h'
    rw[ay e] at h;have h1:=qu h;by_cases e':b=d
    .subst e';rw[ay e];exact h
    rw[ay e'] at h';have h2:=qu h';rw[ay aa];exact Bg aa
def Kx(a:Let):d_:=[a.kind,a.gate,a.aC,a.id,if a.over then 1 else 0,a.sign]
def Q5(a b:Let):qL a b=xV (Kx a) (Kx b):=by
 cases a with|mk k g r i s o=>cases b with|mk k' g' r' i' s' o'=>
 unfold qL Kx;simp only[xV];by_cases h1:k=k'
 .by_cases h2:g=g'
  .by_cases h3:r=r'
   .by_cases h4:i=i'
    .cases o<;>cases o'<;>by_cases h6:s=s'<;>simp[h1,h2,h3,h4,h6]
    simp[h1,h2,h3,h4]
   simp[h1,h2,h3]
  simp[h1,h2]
 simp[h1]
def aqq{a b:Let}(h:qL a b=true):qL b a=false:=by rw[Q5] at*;exact aqw h
def aqr{a b c:Let}(h1:qL a b=true)(h2:qL b c=true):qL a c=true:=by rw[Q5] at*;exact aqy h1 h2
def nW:ai->ai->Bool
 |a::A,b::B=>if leq a b then nW A B else qL a b
 |_,_=>false
def akg(A:ai):nW A A=false:=by
 induction A with
 |nil=>rfl
 |cons a A ih=>unfold nW;rw[aD (FN a)];exact ih
def aac:∀ {A B D:ai},nW A B=true->nW B D=true->nW A D=true:=by
 intro A
 induction A with
 |nil=>intro B D h;cases B<;>cases h
 |cons a A ih=>
  intro B D h h';cases B with
  |nil=>cases h
  |cons b B=>
   cases D with
   |nil=>cases h'
   |cons d D=>
    unfold nW at h h' |-;by_cases e:a=b
    .subst e;rw[aD (FN a)] at h;by_cases e':a=d
     .subst e';rw[aD (FN a)] at h' |-;exact ih h h'
     have e1:¬leq a d=true:=fun x=>e' ((KB _ _).1 x);rw[ay e1] at h' |-;exact h'
    have e1:¬leq a b=true:=fun x=>e ((KB _ _).1 x);rw[ay e1] at h;by_cases e':b=d
    .subst e';rw[ay e1];exact h
    have e2:¬leq b d=true:=fun x=>e' ((KB _ _).1 x);rw[ay e2] at h';have e3:¬leq a d=true:=fun x=>by have:=(KB _ _).1 x;subst this;rw[aqq h] at h';cases h'
    rw[ay e3];exact aqr h h'
def eJ(l:ai)(i:Nat):ai:=l.drop i++l.take i
def par(l:ai)(i:Nat):Prop:=aq Let.aE (l.take i)%2=0
def ES(l:ai)(i:Nat):Prop:=(∃x,l[i]?=some x/\x.aE=true)/\par l i
def A0(l:ai)(i:Nat):(eJ l i).length=l.length:=by unfold eJ;rw[fS,lO,iK];omega
def wa(q:Let->Bool)(a b:ai):aq q (a++b)=aq q a+aq q b:=xf
def Mb(q:Let->Bool)(l:ai)(i:Nat):aq q (eJ l i)=aq q l:=by unfold eJ;rw[wa,Nat.add_comm,<- wa,mJ]
def atg{l:ai}{i:Nat}(hj:j<=l.length)(hi:i<l.length):∃k,k<l.length/\eJ (eJ l j) i=eJ l k/\(eJ l j)[i]?=l[k]? /\(aq Let.aE l%2=0->par l j->par (eJ l j) i->par l k):=by
 by_cases h:i<l.length-j
 .refine⟨j+i,aa,?_,?_,?_⟩
  .unfold eJ;rw[List.drop_append_of_le_length (by rw[lO];omega),O3 (by rw[lO];omega),List.drop_drop,vU];congr 1;rw[<- List.take_add]
  .unfold eJ;rw[xh (by rw[lO];omega),zJ]
  unfold par eJ;intro _ h1 h2;rw[O3 (by rw[lO];omega)] at h2;rw[List.take_add,wa];omega
 refine⟨i-(l.length-j),aa,?_,?_,?_⟩
 .unfold eJ;obtain⟨d,hd⟩:∃d,d=i-(l.length-j):=⟨_,rfl⟩;rw[<- hd];have e1:(l.drop j++l.take j).drop i=(l.take j).drop d:=by
   rw[List.drop_append,List.drop_of_length_le (by rw[lO];omega),fZ,lO,hd]
  have e2:(l.drop j++l.take j).take i=l.drop j++(l.take j).take d:=by rw[LI,iz (by rw[lO];omega),lO,hd]
  rw[e1,e2,<- vU];have e3:(l.take j).take d=l.take d:=by rw[Gh,zK aa]
  rw[e3];congr 1;have e4:l.drop d=(l.take j).drop d++l.drop j:=by
   conv=>lhs;rw[<- mJ j l]
   rw[List.drop_append_of_le_length (by rw[iK];omega)]
  exact e4.symm
 .unfold eJ;rw[zI (by rw[lO];omega),lO,mI];rw[aD aa]
 unfold par eJ;intro ht h1 h2;rw[LI,iz (by rw[lO];omega),lO,wa,Gh,zK aa] at h2;have:aq Let.aE l=aq Let.aE (l.take j)+aq Let.aE (l.drop j):=by rw[<- wa,mJ]
 omega
def mg:d_->ai->ai
 |_,[]=>[]
 |s,x::r=>if x.kind==2 then (if s.contains x.id then {x with id:=((s.idxOf x.id+1:Nat):Int)}::mg s r else {x with id:=((s.length+1:Nat):Int)}::mg (s++[x.id]) r) else x::mg s r
def wX(l:ai):ai:=mg [] l
def dV(f:Int->Int)(x:Let):Let:=if x.kind==2 then {x with id:=f x.id} else x
def Td(f:Int->Int)(x:Let):(dV f x).kind=x.kind:=by unfold dV;split<;>rfl
def Gt(f:Int->Int)(x:Let):(dV f x).aE=x.aE:=by unfold Let.aE;rw[Td]
def inj(f:Int->Int)(l:ai):Prop:=∀x∈l,∀y∈l,x.kind=2->y.kind=2->f x.id=f y.id->x.id=y.id
def asV{f:Int->Int}:∀ {l:ai} {s:d_},(∀x∈l,x.kind=2->∀a∈s,f x.id=f a->x.id=a)->inj f l->mg (s.map f) (l.map (dV f))=mg s l:=by
 intro l
 induction l with
 |nil=>intro s _ _;rfl
 |cons x r ih=>
  intro s hs hi;have vA:inj f r:=fun a ha b hb=>hi a (u6 _ ha) b (u6 _ hb);by_cases hk:x.kind=2
  .have kS:(x.kind==2)=true:=by rw[hk];rfl
   have e:dV f x={x with id:=f x.id}:=aD kS;have inc:(s.map f).contains (f x.id)=s.contains x.id:=by
    rw[Ef,Lw,Lw,dh];constructor
    .rintro ⟨a,ha,h⟩
     rw[hs x af hk a ha h.symm];exact ha
    intro h;exact⟨x.id,h,rfl⟩
   rw[eh,e];unfold mg;simp only[kS,if_true,inc];cases hc:s.contains x.id with
   |true=>
    simp only[if_true];have Dv:(s.map f).idxOf (f x.id)=s.idxOf x.id:=by
     clear ih;have DE:∀a∈s,f x.id=f a->x.id=a:=hs x af hk;clear hs inc hc
     induction s with
     |nil=>rfl
     |cons a s ihs=>
      rw[eh,List.idxOf_cons,List.idxOf_cons];by_cases h:a=x.id
      .subst h;simp
      have h2:¬f a=f x.id:=fun h3=>h (DE a af h3.symm).symm;rw[show(f a==f x.id)=false from lS.2 h2,show(a==x.id)=false from lS.2 h];simp only[cond_false];rw[ihs fun b hb=>DE b (by simp[hb])]
    rw[Dv,ih (fun y hy=>hs y (u6 _ hy)) vA]
   |false=>
    simp only[dN,if_false,cM];have:=ih (s:=s++[x.id]) (fun y hy DG a ha h=>by
     rcases eK.1 ha with h1|h1
     .exact hs y (u6 _ hy) DG a h1 h
     rw[k9.1 h1] at h |-;exact hi y (u6 _ hy) x af DG hk h) vA
    rw[kZ] at this;rw[<- this];rfl
  have kS:(x.kind==2)=false:=lS.2 hk;have e:dV f x=x:=ay (by rw[kS];decide);rw[eh,e];unfold mg;simp only[kS,dN,if_false];rw[ih (fun y hy=>hs y (u6 _ hy)) vA]
def ahk{f:Int->Int}{l:ai}(h:inj f l):wX (l.map (dV f))=wX l:=asV (s:=[]) (fun _ _ _ _ ha=>by cases ha) h
def jg:d_->ai->d_
 |s,[]=>s
 |s,x::r=>if x.kind==2 then (if s.contains x.id then jg s r else jg (s++[x.id]) r) else jg s r
def ahF:∀(l:ai) (s:d_),∃t,jg s l=s++t:=by
 intro l
 induction l with
 |nil=>intro s;exact⟨[],by simp[jg]⟩
 |cons x r ih=>
  intro s;unfold jg;split
  .split
   .exact ih s
   obtain⟨t,h⟩:=ih (s++[x.id]);exact⟨x.id::t,by rw[h];simp⟩
  exact ih s
def aew{s t:d_}{a:Int}(h:a∈s):(s++t).idxOf a=s.idxOf a:=by rw[List.idxOf_append,aD h]
def ahi:∀(l:ai) (s:d_),mg s l=l.map (dV fun a=>(((jg s l).idxOf a+1:Nat):Int))/\ ∀x∈l,x.kind=2->x.id∈jg s l:=by
 intro l
 induction l with
 |nil=>intro s;exact⟨rfl,fun x h=>by cases h⟩
 |cons x r ih=>
  intro s;by_cases hk:x.kind=2
  .have kS:(x.kind==2)=true:=by rw[hk];rfl
   cases hc:s.contains x.id with
   |true=>
    have hm:x.id∈s:=Lw.1 hc;have e:jg s (x::r)=jg s r:=by simp only[jg,kS,hc,if_true]
    obtain⟨h1,h2⟩:=ih s;obtain⟨t,ht⟩:=ahF r s;refine⟨?_,?_⟩
    .have e0:mg s (x::r)={x with id:=((s.idxOf x.id+1:Nat):Int)}::mg s r:=by simp only[mg,kS,hc,if_true]
     rw[e,e0,eh,h1];congr 1;unfold dV;rw[aD kS,ht];dsimp only;rw[aew hm]
    rw[e];intro y hy DG;rcases cD.1 hy with rfl|hy
    .rw[ht];exact Gc _ hm
    exact h2 y hy DG
   |false=>
    have e:jg s (x::r)=jg (s++[x.id]) r:=by simp only[jg,kS,hc,if_true,dN,if_false]
    obtain⟨h1,h2⟩:=ih (s++[x.id]);obtain⟨t,ht⟩:=ahF r (s++[x.id]);have hn:¬x.id∈s:=fun h=>by rw[Lw.2 h] at hc;cases hc
    refine⟨?_,?_⟩
    .have e0:mg s (x::r)={x with id:=((s.length+1:Nat):Int)}::mg (s++[x.id]) r:=by simp only[mg,kS,hc,if_true,dN,if_false]
     rw[e,e0,eh,h1];congr 1;unfold dV;rw[aD kS,ht];dsimp only;rw[aew af,List.idxOf_append,ay hn];simp
    rw[e];intro y hy DG;rcases cD.1 hy with rfl|hy
    .rw[ht];simp
    exact h2 y hy DG
  have kS:(x.kind==2)=false:=lS.2 hk;have e:jg s (x::r)=jg s r:=by simp only[jg,kS,dN,if_false]
  obtain⟨h1,h2⟩:=ih s;refine⟨?_,?_⟩
  .have e0:mg s (x::r)=x::mg s r:=by simp only[mg,kS,dN,if_false]
   rw[e,e0,eh,h1];rw[show dV (fun a=>(((jg s r).idxOf a+1:Nat):Int)) x=x from ay (by rw[kS];decide)]
  rw[e];intro y hy DG;rcases cD.1 hy with rfl|hy
  .exact absurd DG hk
  exact h2 y hy DG
def aev{S:d_}{a b:Int}(ha:a∈S)(hb:b∈S)(h:S.idxOf a=S.idxOf b):a=b:=by have h1:=List.getElem_idxOf (O0.2 ha);have h2:=List.getElem_idxOf (O0.2 hb);rw[<- h1,<- h2];simp only[h]
def Yw(l:ai):∃f,inj f l/\wX l=l.map (dV f):=by obtain⟨h1,h2⟩:=ahi l [];refine⟨_,?_,h1⟩;intro x hx y hy xk yk h;dsimp only at h;exact aev (h2 x hx xk) (h2 y hy yk) aa
def Xp{f:Int->Int}{l m:ai}(h:inj f l)(hm:∀x∈m,x∈l):inj f m:=fun x hx y hy=>h x (hm x hx) y (hm y hy)
def aho(f:Let->Let)(l:ai)(i:Nat):eJ (l.map f) i=(eJ l i).map f:=by unfold eJ;simp
def HW{l:ai}{i:Nat}:x∈eJ l i↔x∈l:=by unfold eJ;rw[eK,Or.comm,<- eK,mJ]
def wA(l y:ai):Prop:= ∃i,i<l.length/\ES l i/\y=wX (eJ l i)
def xB(l y:ai):Prop:=wA l y\/wA l.reverse y
def Pr{f:Int->Int}(l:ai):aq Let.aE (l.map (dV f))=aq Let.aE l:=by show List.countP _ _=List.countP _ _;rw[Ba];exact IC fun x _=>by rw[Function.comp_apply,Gt]
def amm{f:Int->Int}{l:ai}{i:Nat}(h:ES (l.map (dV f)) i):ES l i:=by
 obtain⟨⟨x,hx,hp⟩,h2⟩:=h;rw[fG] at hx;cases hl:l[i]? with
 |none=>rw[hl] at hx;cases hx
 |some y=>rw[hl] at hx;cases hx;refine⟨⟨y,hl,by rw[Gt] at hp;exact hp⟩,?_⟩;unfold par at*;rw[<- IG,Pr] at h2;exact h2
def am6{f:Int->Int}{l:ai}(hf:inj f l)(h:wA (l.map (dV f)) y):wA l y:=by obtain⟨i,hi,he,rfl⟩:=h;rw[cM] at hi;refine⟨i,hi,amm he,?_⟩;rw[aho,ahk (Xp hf fun x hx=>HW.1 hx)]
def adf{l:ai}(hj:j<=l.length)(he:aq Let.aE l%2=0)(hp:par l j)(h:wA (eJ l j) y):wA l y:=by obtain⟨i,hi,⟨⟨x,hx,xp⟩,h2⟩,rfl⟩:=h;rw[A0] at hi;obtain⟨k,hk,e1,e2,e3⟩:=atg hj hi;rw[e2] at hx;exact⟨k,hk,⟨⟨x,hx,xp⟩,e3 he hp h2⟩,by rw[e1]⟩
def as7(l:ai)(hj:j<=l.length):(eJ l j).reverse=eJ l.reverse (l.length-j):=by unfold eJ;rw[List.reverse_append,List.drop_reverse,List.take_reverse];congr 2<;>(congr 1;omega)
def arA{l:ai}(hj:j<=l.length)(he:aq Let.aE l%2=0)(hp:par l j):par l.reverse (l.length-j):=by
 unfold par at*;rw[List.take_reverse,show l.length-(l.length-j)=j by omega];have h1:aq Let.aE (l.drop j).reverse=aq Let.aE (l.drop j):=List.countP_reverse;have h2:aq Let.aE l=aq Let.aE (l.take j)+aq Let.aE (l.drop j):=by rw[<- wa,mJ]
 rw[h1];omega
def w7(x:aQ):aQ:=⟨⟨x.p.l,!x.p.d⟩,jh x.o,jh x.i⟩
def ahz(x:aQ):(w7 x).up=x.up:=by unfold aQ.up w7;cases x.p.d<;>rfl
def ahy(x:aQ):(w7 x).lo=x.lo:=by unfold aQ.lo w7;cases x.p.d<;>rfl
def X4.rv{g:Bool}{i o j q:eG}(h:X4 g i o j q):X4 g (jh o) (jh i) (jh q) (jh j):=by
 obtain⟨a,b,c,d⟩:=h;cases g
 .simp only[dN,if_false] at a b c d;constructor<;>simp only[dN,if_false,jh]
  .exact b
  .exact a
  .exact d
  exact c
 simp only[if_true] at a b c d;constructor<;>simp only[if_true,jh]
 .exact b
 .exact a
 .exact d
 exact c
def Xr.rv{x y:aQ}(h:Xr x y):Xr (w7 x) (w7 y):=fun hc mc e=>by obtain⟨h1,h2,h3⟩:=h hc mc e;exact⟨h1,h2,h3.rv⟩
def arH:∀ {z:l_} {s t:eG},kN s z t->kN (jh t) (z.reverse.map w7) (jh s):=by
 intro z
 induction z with
 |nil=>intro s t h;cases h;rfl
 |cons x z ih=>intro s t h;obtain⟨rfl,h⟩:=h;rw[List.reverse_cons,kZ];exact Ox.2 ⟨jh x.o,ih h,rfl,rfl⟩
def arF:∀ {z:l_} {s t:eG},kN s z t->∀x∈z,(∃y∈z,y.i=x.o)\/x.o=t:=by
 intro z
 induction z with
 |nil=>intro s t _ x hx;cases hx
 |cons a z ih=>
  intro s t h x hx;obtain⟨rfl,h⟩:=h;rcases cD.1 hx with rfl|hx
  .cases z with
   |nil=>exact .inr h
   |cons b z=>exact .inl ⟨b,af,h.1⟩
  rcases ih h x hx with ⟨y,hy,e⟩|e
  .exact .inl ⟨y,by simp[hy],e⟩
  exact .inr e
def Cz.next{z:l_}{T B:Nat->Nat->Nat}{S:a_}(c:Cz F z T B S){x:aQ}(hx:x∈z):∃y∈z,y.i=x.o:=by
 obtain⟨s,h⟩:=c.path;rcases arF h x hx with e|e
 .exact e
 cases z with
 |nil=>cases hx
 |cons a z=>exact⟨a,af,by rw[h.1,e]⟩
def KE(z:l_):aR (z.reverse.map w7)=(aR z).reverse:=by rw[<- List.map_reverse];show List.map _ (List.map _ _)=_;rw[ue];rfl
def vg(q:Let->Bool)(l:ai):aq q l.reverse=aq q l:=List.countP_reverse
def Cz.rv{z:l_}{T B:Nat->Nat->Nat}{S:a_}(c:Cz F z T B S):Cz F (z.reverse.map w7) T B S:=by
 obtain⟨s,h⟩:=c.path;have hm:∀x∈z.reverse.map w7,∃y∈z,x=w7 y:=fun x hx=>by obtain⟨y,hy,rfl⟩:=dh.1 hx;exact⟨y,List.mem_reverse.1 hy,rfl⟩
 have ec:∀g,cg (aR (z.reverse.map w7)) g=cg (aR z) g:=fun g=>by rw[KE];exact vg _ _
 refine⟨⟨_,arH h⟩,fun x hx=>?_,?_,by rw[KE,vg];exact c.ev,fun x hx hc=>?_,?_,fun x hx hp=>?_,fun x hx hp=>?_,fun g hg=>by rw[ec];exact c.gt g hg,by rw[ec];exact c.gz,?_,c.nd,fun s hs=>?_,by rw[KE,vg,vg];exact c.num⟩
 .obtain⟨y,hy,rfl⟩:=hm x hx;obtain⟨o1,o2,o3⟩:=c.ok y hy;refine⟨o1,fun hc=>(o2 hc).symm,fun hp=>?_⟩;obtain⟨p1,p2⟩:=o3 hp;refine⟨p2,?_⟩;show y.o.b= !(!y.p.d);rw[p1,Bool.not_not]
 .refine ym.2 (List.pairwise_reverse.2 (c.cr.imp fun {a b} ef=>ef.symm.rv))
 .obtain⟨y,hy,rfl⟩:=hm x hx;rw[KE,vg];exact c.ids y hy hc
 .refine ym.2 (List.pairwise_reverse.2 (c.rk.imp fun {a b} ef=>ef.symm))
 .obtain⟨y,hy,rfl⟩:=hm x hx;rw[ec];exact c.rr y hy hp
 .obtain⟨y,hy,rfl⟩:=hm x hx;obtain⟨a,b,d,e⟩:=c.pl y hy hp;exact⟨by rw[ahz];exact a,by rw[ahz];exact b,by rw[ahy];exact d,by rw[ahy];exact e⟩
 .obtain⟨x,hx,hp⟩:=c.one;exact⟨w7 x,dh.2 ⟨x,List.mem_reverse.2 hx,rfl⟩,hp⟩
 obtain⟨x,hx,e⟩:=c.wit s hs;obtain⟨y,hy,e2⟩:=c.next hx;refine⟨w7 y,dh.2 ⟨y,List.mem_reverse.2 hy,rfl⟩,?_⟩;show s=y.i.r\/s=y.i.l;rw[e2];exact e.symm
def mB(f:Int->Int)(x:aQ):aQ:=⟨⟨dV f x.p.l,x.p.d⟩,x.i,x.o⟩
def LR(f:Int->Int)(x:Let):(dV f x).gate=x.gate:=by unfold dV;split<;>rfl
def Pe(f:Int->Int)(x:Let):(dV f x).aC=x.aC:=by unfold dV;split<;>rfl
def Tf(f:Int->Int)(x:Let):(dV f x).sign=x.sign:=by unfold dV;split<;>rfl
def Te(f:Int->Int)(x:Let):(dV f x).over=x.over:=by unfold dV;split<;>rfl
def Tc(f:Int->Int)(x:Let):(dV f x).aA=x.aA:=by unfold Let.aA;rw[Td]
def Tb{f:Int->Int}(h:x.aA=true):(dV f x).id=f x.id:=by unfold dV;rw[aD (show(x.kind==2)=true from h)]
def ZT{f:Int->Int}(h:x.aA=false):dV f x=x:=by unfold dV;exact ay (by rw[show(x.kind==2)=false from h];decide)
def akd{f:Int->Int}(h:dL F x=false):dL F (dV f x)=false:=by
 cases hc:x.aA
 .rw[ZT hc];exact h
 have:dV f x={x with id:=f x.id}:=aD hc;rw[this];rcases v7 h with hp|_
 .rw[qN hp] at hc;cases hc
 unfold dL at h |-;unfold Let.aA at hc;have hk:x.kind=2:=dk.1 hc
 simpa [hk] using h
def Of(f:Int->Int)(z:l_):aR (z.map (mB f))=(aR z).map (dV f):=by show List.map _ (List.map _ _)=List.map _ (List.map _ _);rw[ue,ue];rfl
def Pq{f:Int->Int}{q:Let->Bool}(hq:∀x,q (dV f x)=q x)(l:ai):aq q (l.map (dV f))=aq q l:=by show List.countP _ _=List.countP _ _;rw[Ba];exact IC fun x _=>by rw[Function.comp_apply,hq]
def akS(f:Int->Int)(l:ai)(g:Nat):cg (l.map (dV f)) g=cg l g:=Pq (fun x=>by unfold nV;rw[Gt,LR]) l
def Cz.rn{z:l_}{T B:Nat->Nat->Nat}{S:a_}(c:Cz F z T B S){f:Int->Int}(hf:inj f (aR z))(hi:∀x∈z,x.k.aA=true->1<=f x.k.id/\f x.k.id<=((aq Let.aA (aR z)/2:Nat):Int)):Cz F (z.map (mB f)) T B S:=by
 obtain⟨s,h⟩:=c.path;have hm:∀x∈z.map (mB f),∃y∈z,x=mB f y:=fun x hx=>by obtain⟨y,hy,rfl⟩:=dh.1 hx;exact⟨y,hy,rfl⟩
 have ec:∀g,cg (aR (z.map (mB f))) g=cg (aR z) g:=fun g=>by rw[Of,akS]
 have eC:aq Let.aA (aR (z.map (mB f)))=aq Let.aA (aR z):=by rw[Of];exact Pq (Tc f) _
 have eP:aq Let.aE (aR (z.map (mB f)))=aq Let.aE (aR z):=by rw[Of];exact Pq (Gt f) _
 have kC:∀y:aQ,(mB f y).k.aA=y.k.aA:=fun y=>Tc f y.k;have kP:∀y:aQ,(mB f y).k.aE=y.k.aE:=fun y=>Gt f y.k;have kl:∀y∈z,y.k∈aR z:=fun y hy=>dh.2 ⟨y,hy,rfl⟩;have W6:∀ {z:l_} {s t:eG},kN s z t->kN s (z.map (mB f)) t:=by
  intro z
  induction z with
  |nil=>intro s t h;exact h
  |cons x z ih=>intro s t h;exact⟨h.1,ih h.2⟩
 refine⟨⟨s,W6 h⟩,fun x hx=>?_,?_,by rw[eC];exact c.ev,fun x hx hc=>?_,?_,fun x hx hp=>?_,fun x hx hp=>?_,fun g hg=>by rw[ec];exact c.gt g hg,by rw[ec];exact c.gz,?_,c.nd,fun s hs=>?_,by rw[eP,eC];exact c.num⟩
 .obtain⟨y,hy,rfl⟩:=hm x hx;obtain⟨o1,o2,o3⟩:=c.ok y hy;exact⟨akd o1,fun hc=>o2 (by rw[kC] at hc;exact hc),fun hp=>o3 (by rw[kP] at hp;exact hp)⟩
 .refine ym.2 (List.Pairwise.imp_of_mem (fun {a b} ha hb ef=>?_) c.cr);intro ac bc e;rw[kC] at ac bc;have e2:f a.k.id=f b.k.id:=by
   have:=e;rw[show(mB f a).k.id=f a.k.id from Tb ac,show(mB f b).k.id=f b.k.id from Tb bc] at this;exact this
  obtain⟨h1,h2,h3⟩:=ef ac bc (hf _ (kl a ha) _ (kl b hb) (dk.1 ac) (dk.1 bc) e2);refine⟨?_,?_,?_⟩
  .show(dV f a.k).over= !(dV f b.k).over;rw[Te,Te];exact h1
  .show(dV f a.k).sign=(dV f b.k).sign;rw[Tf,Tf];exact h2
  show X4 (gX (dV f a.k)) _ _ _ _;have:gX (dV f a.k)=gX a.k:=by unfold gX;rw[Te,Tf]
  rw[this];exact h3
 .obtain⟨y,hy,rfl⟩:=hm x hx;rw[kC] at hc;rw[eC,show(mB f y).k.id=f y.k.id from Tb hc];exact hi y hy hc
 .refine ym.2 (c.rk.imp fun {a b} ef=>?_);intro ap bp e1 e2;rw[kP] at ap bp;refine ef ap bp ?_ ?_
  .have:=e1;rw[show(mB f a).k.gate=a.k.gate from LR f a.k,show(mB f b).k.gate=b.k.gate from LR f b.k] at this;exact this
  have:=e2;rw[show(mB f a).k.aC=a.k.aC from Pe f a.k,show(mB f b).k.aC=b.k.aC from Pe f b.k] at this;exact this
 .obtain⟨y,hy,rfl⟩:=hm x hx;rw[kP] at hp;rw[ec,show(mB f y).k.aC=y.k.aC from Pe f y.k,show(mB f y).k.gate=y.k.gate from LR f y.k];exact c.rr y hy hp
 .obtain⟨y,hy,rfl⟩:=hm x hx;rw[kP] at hp;obtain⟨a,b,d,e⟩:=c.pl y hy hp;have u:(mB f y).up=y.up:=rfl;have w:(mB f y).lo=y.lo:=rfl;have eg:(mB f y).k.gate=y.k.gate:=LR f y.k;have er:(mB f y).k.aC=y.k.aC:=Pe f y.k;exact⟨by rw[u,eg,er];exact a,by rw[u,eg,er];exact b,by rw[w,eg,er];exact d,by rw[w,eg,er];exact e⟩
 .obtain⟨x,hx,hp⟩:=c.one;exact⟨mB f x,dh.2 ⟨x,hx,rfl⟩,by rw[kP];exact hp⟩
 obtain⟨x,hx,e⟩:=c.wit s hs;exact⟨mB f x,dh.2 ⟨x,hx,rfl⟩,e⟩
def ahE:∀(l:ai) (s:d_),s.Nodup->(jg s l).Nodup/\ ∀a∈jg s l,a∈s\/ ∃x∈l,x.aA=true/\x.id=a:=by
 intro l
 induction l with
 |nil=>intro s h;exact⟨h,fun a ha=>.inl ha⟩
 |cons x r ih=>
  intro s h;unfold jg;split
  .rename_i hk;split
   .obtain⟨h1,h2⟩:=ih s h;refine⟨h1,fun a ha=>?_⟩;rcases h2 a ha with h3|⟨y,hy,h3⟩
    .exact .inl h3
    exact .inr ⟨y,by simp[hy],h3⟩
   rename_i hc;have hn:¬x.id∈s:=fun h=>hc (Lw.2 h);obtain⟨h1,h2⟩:=ih (s++[x.id]) (by rw[Gf];refine⟨h,af,fun a ha b hb e=>?_⟩;rw[k9.1 hb] at e;exact hn (e▸ha))
   refine⟨h1,fun a ha=>?_⟩;rcases h2 a ha with h3|⟨y,hy,h3⟩
   .rcases eK.1 h3 with h3|h3
    .exact .inl h3
    exact .inr ⟨x,af,hk,(k9.1 h3).symm⟩
   exact .inr ⟨y,by simp[hy],h3⟩
  obtain⟨h1,h2⟩:=ih s h;refine⟨h1,fun a ha=>?_⟩;rcases h2 a ha with h3|⟨y,hy,h3⟩
  .exact .inl h3
  exact .inr ⟨y,by simp[hy],h3⟩
def asW(l:ai)(hi:∀x∈l,x.aA=true->1<=x.id/\x.id<=((aq Let.aA l/2:Nat):Int)):∃f,inj f l/\wX l=l.map (dV f)/\ ∀x∈l,x.aA=true->1<=f x.id/\f x.id<=((aq Let.aA l/2:Nat):Int):=by
 obtain⟨h1,h2⟩:=ahi l [];refine⟨_,?_,h1,?_⟩
 .intro x hx y hy xk yk h;dsimp only at h;exact aev (h2 x hx xk) (h2 y hy yk) aa
 intro x hx hc;have hm:=h2 x hx (dk.1 hc);have aw:=O0.2 hm;obtain⟨n1,n2⟩:=ahE l [] xl;have hr:∀a∈jg [] l,1<=a/\a<=((aq Let.aA l/2:Nat):Int):=fun a ha=>by
  rcases n2 a ha with h3|⟨y,hy,yc,rfl⟩
  .cases h3
  exact hi y hy yc
 have:=Lg ((jg [] l).map Int.toNat) (List.range' 1 (aq Let.aA l/2)) ?_ ?_
 .rw[cM,List.length_range'] at this;omega
 .refine ym.2 (List.Pairwise.imp_of_mem (fun {a b} ha hb h e=>h ?_) n1);have:=hr a ha;have:=hr b hb;omega
 intro x hx;obtain⟨id,hid,rfl⟩:=dh.1 hx;have:=hr id hid;rw[List.mem_range'_1];omega
def Cz.rotN{z:l_}{T B:Nat->Nat->Nat}{S:a_}(c:Cz F z T B S)(i:Nat):Cz F (z.drop i++z.take i) T B S:=by rw[<- mJ i z] at c;exact c.lM
def adg{z:l_}{T B:Nat->Nat->Nat}{S:a_}(c:Cz F z T B S)(h0:∀x,z[0]?=some x->x.i.b=false)(hl:z.length<=400)(eV:aq Let.aA (aR z)<=200)(hF:F<=40)(h:wA (aR z) y):bQ F y=0:=by
 obtain⟨i,hi,⟨⟨x,hx,hp⟩,NN⟩,rfl⟩:=h;obtain⟨e,he,rfl⟩:=DL hx;have hd:e.p.d=true:=by
  obtain⟨s,hs⟩:=c.path;have hlen:0<z.length:=by have:=(aT.1 he).1;omega
  obtain⟨a,ha⟩:∃a,z[0]?=some a:=⟨z[0],rL hlen⟩;have hb:s.b=false:=by rw[<- KV hs ha];exact h0 a ha
  have:=(Ru c.ok hs hb i e he).1;have hm:=aV he;have h2:=((c.ok e hm).pb hp).2;rw[this] at h2;have h3:dn (aR z) i=true:=by
   unfold dn;have:aq Let.aE ((aR z).take i)%2=0:=NN
   simpa using this
  rw[h3] at h2;cases hq:e.p.d
  .rw[hq] at h2;cases h2
  rfl
 have c2:=c.rotN i;have e1:aR (z.drop i++z.take i)=eJ (aR z) i:=by unfold eJ aR;rw[kZ,List.map_drop,IG]
 have ec:aq Let.aA (eJ (aR z) i)=aq Let.aA (aR z):=Mb _ _ _;obtain⟨f,hf,hr,jS⟩:=asW (eJ (aR z) i) (fun x hx hc=>by rw[ec];obtain⟨w,hw,rfl⟩:=dh.1 (HW.1 hx);exact c.ids w hw hc)
 rw[hr];rw[<- e1] at hf jS;have c3:=c2.rn hf (fun x hx hc=>jS _ (dh.2 ⟨x,hx,rfl⟩) hc);have An:z.drop i=e::z.drop (i+1):=by obtain⟨hl,e⟩:=aT.1 he;rw[<- e,uc]
 rw[<- e1,<- Of];refine c3.check (x:=mB f e) (r:=(z.drop (i+1)++z.take i).map (mB f)) (by rw[An];rfl) ?_ hd ?_ ?_ hF
 .show(dV f e.k).aE=true;rw[Gt];exact hp
 .rw[cM,fS,lO,iK];omega
 rw[Of,Pq (Tc f),e1,ec];exact eV
def ap6(a b:Let):aK S 79 [KC a,KC b] (rb (qL a b)):=by
 by_cases h1:a.kind=b.kind
 .by_cases h2:a.gate=b.gate
  .by_cases h3:a.aC=b.aC
   .by_cases h4:a.id=b.id
    .cases h5:(a.over==b.over) with
     |true=>
      have e:qL a b=decide (a.sign<b.sign):=by simp only[qL,h1,h2,h3,h4,h5,Cy,if_true]
      rw[e];refine bk c79 ?_;simp only[go_sem,i79,h1,h2,h3,h4,h5,bne]
     |false=>
      have e:qL a b=b.over:=by simp only[qL,h1,h2,h3,h4,h5,Cy,if_true,dN,if_false]
      rw[e];refine bk c79 ?_;simp only[go_sem,i79,h1,h2,h3,h4,h5,bne]
    have vt:(a.id==b.id)=false:=by simp[h4]
    have e:qL a b=decide (a.id<b.id):=by simp only[qL,h1,h2,h3,vt,Cy,if_true,dN,if_false]
    rw[e];refine bk c79 ?_;simp only[go_sem,i79,h1,h2,h3,vt,bne]
   have rm:(a.aC==b.aC)=false:=by simp[h3]
   have e:qL a b=decide (a.aC<b.aC):=by simp only[qL,h1,h2,rm,Cy,if_true,dN,if_false]
   rw[e];refine bk c79 ?_;simp only[go_sem,i79,h1,h2,rm,bne]
  have jH:(a.gate==b.gate)=false:=by simp[h2]
  have e:qL a b=decide (a.gate<b.gate):=by simp only[qL,h1,jH,Cy,if_true,dN,if_false]
  rw[e];refine bk c79 ?_;simp only[go_sem,i79,h1,jH,bne]
 have kn:(a.kind==b.kind)=false:=by simp[h1]
 have e:qL a b=decide (a.kind<b.kind):=by simp only[qL,kn,dN,if_false]
 rw[e];refine bk c79 ?_;simp only[go_sem,i79,kn,bne]
def abt{A:ai}{k:Nat}(h:k<A.length):A.drop k=lA A k::A.drop (k+1):=by have:=wQ h;obtain⟨h1,e⟩:=aT.1 this;rw[<- e,uc]
def aki(A B:ai)(MS:A.length=B.length)(hl:A.length<=1000000):aK S 53 [.one (.p (cT A)),.one (.p (cT B))] (rb (nW A B)):=by
 generalize hr:nW A B=r;refine bk c53 ?_;simp only[go_sem,i53];refine dy (fun k ak aj=>ak 0=.one (.p (cT A))/\ak 1=.one (.p (cT B))/\ak 7=vi A.length/\ak 8=vi k/\nW (A.drop k) (B.drop k)=r) 0 A.length (bG _) ?_ ?_
 .simp only[go_sem];first|exact hr|exact⟨rfl,hr⟩
 rintro k ak aj hk ⟨h0,h1,h7,h8,hn⟩
 by_cases aw:k<A.length
 .have hx:=wQ aw;have hy:=wQ (ls:=B) (i:=k) aa;have jx:=iO hx;have FG:=iO hy;have aL:(k:Int)<(A.length:Int):=aa;have w1:=cS (n:=k) aa;have hlB:k<B.length:=aa;rw[abt aw,abt hlB] at hn;unfold nW at hn;cases he:leq (lA A k) (lA B k) with
  |true=>rw[aD he] at hn;simp only[go_sem,i53_l1,h0,h1,h7,h8,jx,FG,Let.ps,aL,aw,w1,Mt,he];exact⟨aJ,hn⟩
  |false=>rw[ay (by rw[he];decide)] at hn;have pl:=ap6 (lA A k) (lA B k);rw[hn] at pl;simp only[go_sem,i53_l1,h0,h1,h7,h8,jx,FG,Let.ps,aL,Mt,he,s79,nX pl];first|exact⟨aJ,aJ,rfl⟩|exact⟨aJ,aJ⟩
 have:k=A.length:=aa;subst this;rw[Ly,List.drop_of_length_le aa] at hn;have hn:false=r:=hn;subst hn;simp only[go_sem,i53_l1,i53_r2,h7,h8,eI]
def ahG(l:ai)(x:Let):∀s,jg s (l++[x])=if x.kind==2 then (if (jg s l).contains x.id then jg s l else jg s l++[x.id]) else jg s l:=by
 induction l with
 |nil=>intro s;rfl
 |cons a r ih=>
  intro s;rw[mW]
  conv=>lhs;unfold jg
  conv=>rhs;unfold jg
  split
  .split<;>exact ih _
  exact ih _
def nxL(s:d_)(x:Let):Let:=if x.kind==2 then (if s.contains x.id then {x with id:=((s.idxOf x.id+1:Nat):Int)} else {x with id:=((s.length+1:Nat):Int)}) else x
def ahj(l:ai)(x:Let):∀s,mg s (l++[x])=mg s l++[nxL (jg s l) x]:=by
 induction l with
 |nil=>
  intro s;show mg s [x]=[nxL s x];unfold mg nxL;split
  .split<;>rfl
  rfl
 |cons a r ih=>
  intro s;rw[mW]
  conv=>lhs;unfold mg
  conv=>rhs;unfold mg jg
  split
  .split<;>(rw[ih];rfl)
  rw[ih];rfl
def OG:∀(l:ai) (s:d_),(mg s l).length=l.length:=by
 intro l
 induction l with
 |nil=>intro s;rfl
 |cons a r ih=>
  intro s;unfold mg;split
  .split<;>simp[ih]
  simp[ih]
def R7(l:ai):(wX l).length=l.length:=OG l []
def zk(s:d_)(i:Nat):u_:=match s with
 |[]=>[]
 |a::r=>(a,((i+1:Nat):Int))::zk r (i+1)
def aqV:∀(s:d_) (i:Nat),(zk s i).length=s.length:=by
 intro s
 induction s with
 |nil=>intro i;rfl
 |cons a r ih=>intro i;show(zk r (i+1)).length+1=_;rw[ih];rfl
def aqU(a:Int):∀(s:d_) (i:Nat),zk s i++[(a,((i+s.length+1:Nat):Int))]=zk (s++[a]) i:=by
 intro s
 induction s with
 |nil=>intro i;rfl
 |cons b r ih=>intro i;show(b,((i+1:Nat):Int))::(zk r (i+1)++_)=(b,((i+1:Nat):Int))::zk (r++[a]) (i+1);rw[<- ih (i+1),dC,show i+1+r.length+1=i+(r.length+1)+1 by omega]
def acS(x:Int):∀(s:d_) (i:Nat),fiM (zk s i) x i=if s.contains x then some (i+s.idxOf x,((i+s.idxOf x+1:Nat):Int)) else none:=by
 intro s
 induction s with
 |nil=>intro i;rfl
 |cons a r ih=>
  intro i;show(if x==a then some (i,((i+1:Nat):Int)) else fiM (zk r (i+1)) x (i+1))=_;by_cases h:x=a
  .subst h;simp
  have h1:(x==a)=false:=lS.2 h;have h2:(a==x)=false:=lS.2 (Ne.symm h);rw[h1,ih (i+1),List.contains_cons,h1,Cw,List.idxOf_cons,h2];simp only[dN,if_false,cond_false];split
  .congr 2
   .omega
   congr 1;omega
  rfl
def sV(L:ai)(k:Nat):ai:=mg [] (L.take k)++L.drop k
def aog(L:ai){k:Nat}:(sV L k).length=L.length:=by unfold sV;rw[fS,OG,iK,lO];omega
def Io{L:ai}{k:Nat}(h:L[k]?=some x):L.take (k+1)=L.take k++[x]:=by obtain⟨hl,e⟩:=aT.1 h;rw[<- e,List.take_append_getElem]
def aof{L:ai}{k:Nat}(h:L[k]?=some x):(sV L k)[k]?=some x:=by have hl:=(aT.1 h).1;unfold sV;rw[zI (by rw[OG,iK];omega),OG,iK,zJ,zK aa,Nat.sub_self,u9,h]
def aoi{L:ai}{k:Nat}(h:L[k]?=some x):(sV L k).set k (nxL (jg [] (L.take k)) x)=sV L (k+1):=by
 obtain⟨hl,e⟩:=aT.1 h;have hd:L.drop k=x::L.drop (k+1):=by rw[<- e,uc]
 have hlen:(mg [] (L.take k)).length=k:=by rw[OG,iK];omega
 unfold sV;rw[Io h,ahj,hd,List.set_append_right _ _ aa,hlen,Nat.sub_self,List.set_cons_zero,vU];rfl
def aoh{L:ai}{k:Nat}(h:L[k]?=some x)(hx:(x.kind==2)=false):sV L (k+1)=sV L k/\jg [] (L.take (k+1))=jg [] (L.take k):=by
 obtain⟨hl,e⟩:=aT.1 h;have hd:L.drop k=x::L.drop (k+1):=by rw[<- e,uc]
 refine⟨?_,?_⟩
 .unfold sV;rw[Io h,ahj,hd];unfold nxL;rw[hx];simp
 rw[Io h,ahG,hx];rfl
def asX(L:ai)(aI:L≠[])(hl:L.length<=1000000):aK S 51 [.one (.p (cT L))] (.one (aU jL 6 (dG (wX L)))):=by
 have pcl:=TE aI hl;have lo:S.lone 3264128064=false:=ah;refine bk c51 ?_;simp only[go_sem,i51,s29];refine rX pcl lo (.inl rfl) fun cc oU gc mu=>?_;have b0:=mu 3264064000 ae;rcases gc with ⟨e,_⟩|⟨_,gg,e,hC⟩
 .exact absurd (by simpa using e) aI
 cases e;rw[cM];simp only[go_sem] at b0;simp only[go_sem];refine dy (fun k ak aj=>ak 3=.one (.kU 3264064000 1)/\ak 4=.one (.hsl 3264128064 gg 6 0 L.length)/\ak 10=.one (.hsl 3264128064 gg 6 0 L.length)/\ak 11=vi L.length/\ak 12=vi k/\
  aj 3264064000=(1,some (.map false (mkE (zk (jg [] (L.take k)) 0))))/\aj 3264128064=(gg,some (.arr jL 6 (dG (sV L k))))) 0 L.length (bG _) ?_ ?_
 .simp only[go_sem,b0];exact⟨rfl,rfl,hC⟩
 rintro k ak aj hk ⟨h3,h4,ff,iu,jF,bM,bX⟩
 by_cases aw:k<L.length
 .have aL:((k:Int)<(L.length:Int)):=aa;obtain⟨x,hxL⟩:=aM aw;have hx:=aof hxL;have WT:k<(sV L k).length:=by rw[aog];exact aw
  have jx:=iO hx;have lJ:=Io hxL;obtain⟨n1,_⟩:=ahE (L.take k) [] xl;have hsl:∀(l:ai) (s:d_),(jg s l).length<=s.length+l.length:=by
   intro l
   induction l with
   |nil=>intro s;exact bR _
   |cons a r ih=>
    intro s;unfold jg;split
    .split
     .have:=ih s;simp only[dC];omega
     have:=ih (s++[a.id]);simp only[fS,dC,fe] at this |-;omega
    have:=ih s;simp only[dC];omega
  have hsk:=hsl (L.take k) [];rw[iK] at hsk;simp only[fe] at hsk;have w1:=cS (n:=k) aa;cases jT:(x.kind==2) with
  |false=>obtain⟨e1,e2⟩:=aoh hxL jT;rw[<- e1] at bX jx WT;rw[<- e2] at bM;simp only[go_sem,i51_l1,h3,h4,ff,iu,jF,bM,bX,aw,aL,jx,Let.ps,jT,bne,w1]
  |true=>
   have iG:=aoi hxL;have Fw:=ahG (L.take k) x [];rw[<- lJ,jT,aD rfl] at Fw;unfold nxL at iG;rw[jT,aD rfl] at iG;generalize jg [] (L.take k)=s at iG Fw bM hsk;have w2:=cS (n:=s.length) aa;have fk:=acY (zk s 0) x.id 0;rw[acS] at fk;have jq:=aqV s 0;cases hc:s.contains x.id with
   |false=>
    rw[hc] at iG Fw fk;simp only[dN,if_false,Option.map_none] at iG Fw fk;have f2:=acY (zk (s++[x.id]) 0) x.id 0;rw[acS,show(s++[x.id]).contains x.id=true by simp] at f2;have Dv:(s++[x.id]).idxOf x.id=s.length:=by rw[List.idxOf_append,ay (fun h=>by rw[Lw.2 h] at hc;cases hc)];simp
    rw[Dv] at f2;simp only[if_true,nQ,js] at f2;have oZ:=aqU x.id s 0;rw[js] at oZ;rw[<- oZ,<- af3] at f2;have Xg:(dG (sV L k)).set k [.int .i64 x.kind,.int .i64 x.gate,.int .i64 x.aC,.int .i64 ((s.length+1:Nat):Int),.int .i64 x.sign,.bool x.over]=dG (sV L (k+1)):=by rw[<- iG,<- afJ];rfl
    simp only[go_sem,i51_l1,h3,h4,ff,iu,jF,bM,bX,aw,aL,jx,Let.ps,jT,bne,w1,w2,jq,mapOf,mapVal,iZ,AR,yy,fk,Option.map_none,f2,Xg];rw[Fw,<- oZ,<- af3]
   |true=>
    rw[hc] at iG Fw fk;simp only[if_true,nQ,js] at iG Fw fk;have hv:((((s.idxOf x.id+1:Nat):Int))==0)=false:=by rw[lS];omega
    have Xg:(dG (sV L k)).set k [.int .i64 x.kind,.int .i64 x.gate,.int .i64 x.aC,.int .i64 ((s.idxOf x.id+1:Nat):Int),.int .i64 x.sign,.bool x.over]=dG (sV L (k+1)):=by rw[<- iG,<- afJ];rfl
    simp only[go_sem,i51_l1,h3,h4,ff,iu,jF,bM,bX,aw,aL,jx,Let.ps,jT,bne,w1,mapOf,mapVal,iZ,fk,hv,Xg];rw[Fw]
 have:k=L.length:=aa;subst this;have hX:sV L L.length=wX L:=by unfold sV wX;rw[lf,Ly,jA]
 rw[hX] at bX;have hlr:=R7 L;simp only[go_sem,i51_l1,i51_r2,h4,iu,jF,eI];refine Ag (.inr ⟨?_,gg,by rw[cM,hlr],bX⟩);intro h2;have:=congrArg List.length h2;rw[cM,hlr] at this;exact aI (Ej.1 this)
def bkP(ls:ai)(i:Nat):Bool:=((lA ls.reverse i).kind==1)&& !((ll ls).getD (ls.length-1-i) false)
def yx(ls:ai):ai:=match (List.range ls.length).find? (bkP ls) with
 |some i=>eJ ls.reverse i
 |none=>ls.reverse
def Pn(ls:ai):(yx ls).length=ls.length:=by
 unfold yx;split
 .rw[A0,oL]
 rw[oL]
def akc(aI:ls≠[])(hl:ls.length<=1000000):aK S 50 [.one (.p (nY F ls))] (.one (aU jL 6 (dG (yx ls)))):=by
 have pcl:=TE aI hl;have lo:S.lone 3200064320=false:=ah;have ti:S.lone 3200512128=false:=ah;have sT:=Pn ls;generalize hR:yx ls=R at sT;refine bk c50 ?_;simp only[go_sem,i50,s29];refine rX pcl lo (.inl rfl) fun cc oU gc mu=>?_;simp only[go_sem,s78];refine anu (f:=78) (es:=dG ls) (id:=3200064320) (ty:=jL) (z:=6) (fun o h=>as5 o (by simp;omega) (aqc _) h) (gc.of_eq rfl) fun blkr gr hbr=>?_;rw[aqb] at gr;rcases gr with ⟨e,_⟩|⟨_,gg,e,hC⟩
 .have:=congrArg List.length e;rw[cM,oL] at this;exact absurd (Ej.1 this) aI
 cases e;rw[cM,oL];simp only[go_sem];have MT:ls.reverse.length=ls.length:=oL;have vF:IntKind.i64.wrap ((ls.length:Int)-1)=((ls.length-1:Nat):Int):=by have:=jl.2 aI;rw[uZ aa aa];omega
 have hdl:(ll ls).length=ls.length:=by simp[ll]
 unfold yx at hR;have iW:∀i,bkP ls i=(((lA ls.reverse i).kind==1)&& !((ll ls).getD (ls.length-1-i) false)):=fun _=>rfl;generalize bkP ls=bp at hR iW;generalize ls.reverse=X at hC MT gc hR iW;refine dy (fun k ak aj=>ak 0=.one (.p (nY F ls))/\ak 3=.one (.hsl 3200064320 gg 6 0 ls.length)/\ak 15=vi ls.length/\ak 16=vi k/\aj 3200064320=(gg,some (.arr jL 6 (dG X)))/\ ∀j,j<k->bp j=false) 0 ls.length (bG _) ?_ ?_
 .simp only[go_sem,hC];first|exact⟨rfl,fun j h=>absurd h (oN j)⟩|exact⟨rfl,rfl,fun j h=>absurd h (oN j)⟩
 rintro k ak aj hk ⟨h0,h3,mq,qE,bX,dM⟩
 by_cases aw:k<ls.length
 .have aL:((k:Int)<(ls.length:Int)):=aa;have WT:k<X.length:=aa;have jx:=iO (wQ WT);have w1:=cS (n:=k) aa;have w2:IntKind.i64.wrap (((ls.length-1:Nat):Int)-(k:Int))=((ls.length-1-k:Nat):Int):=by
   rw[uZ aa aa];omega
  obtain⟨d,hd⟩:=aM (ls:=ll ls) (k:=ls.length-1-k) aa;have l5:=tF hd;have hdl':ls.length-1-k<(ll ls).length:=aa;have lD:=iW k;rw[show(ll ls).getD (ls.length-1-k) false=d by rw[dA,hd];rfl] at lD;generalize lA X k=x at jx lD;have anQ:ls.length<=X.length:=aa;have hXt:List.take ls.length (dG X)=dG X:=iz (by rw[cM];omega);have pr:=ahr X k aa aa;have nx:bp k=false->∀j,j<k+1->bp j=false:=fun hb j hj=>by
   rcases nN.1 hj with h|rfl
   .exact dM j h
   exact hb
  cases jT:(x.kind==1) with
  |false=>rw[jT,Bool.false_and] at lD;simp only[go_sem,i50_l1,h0,h3,mq,qE,bX,aw,aL,jx,Let.ps,jT,vF,w1,w2];exact nx lD
  |true=>
   cases d with
   |true=>rw[jT] at lD;simp only[go_sem,i50_l1,h0,h3,mq,qE,bX,aw,aL,jx,Let.ps,jT,vF,w1,w2,l5];exact nx lD
   |false=>rw[jT] at lD;have hf:(List.range ls.length).find? bp=some k:=Df aw dM lD;rw[hf] at hR;have hR:eJ X k=R:=hR;unfold eJ at hR;simp only[go_sem,i50_l1,h0,h3,mq,qE,bX,aw,aL,jx,Let.ps,jT,vF,w2,l5,anQ,hXt,s52];refine rX pr ti (.inr (qY (DY _))) fun cr ig gr3 gk=>?_;rw[hR] at gr3;simp only[go_sem];exact Ag gr3
 have:k=ls.length:=aa;subst this;have hf:(List.range ls.length).find? bp=none:=JD fun j hj=>dM j hj;rw[hf] at hR;have hR:X=R:=hR;subst hR;simp only[go_sem,i50_l1,i50_r2,h3,mq,qE,eI];refine Ag (.inr ⟨?_,gg,by rw[cM,MT],bX⟩);intro h2;have:=congrArg List.length h2;rw[cM,MT] at this;exact aI (Ej.1 this)
def JC(l:ai)(i:Nat):Bool:=((lA l i).kind==1)&&decide (aq Let.aE (l.take i)%2=0)
def rW(l:ai)(n:Nat):x_:=(List.range n).filterMap fun i=>if JC l i then some (wX (eJ l i)) else none
def amG(l:ai)(n:Nat):rW l (n+1)=rW l n++(if JC l n then [wX (eJ l n)] else []):=by unfold rW;rw[yn,List.filterMap_append];congr 1;cases h:JC l n<;>simp[h]
def tm(z:Option ai)(y:ai):Option ai:=match z with
 |none=>some y
 |some z=>if nW y z then some y else some z
def wS(V:x_):Option ai:=V.foldl tm none
def aq1(V:x_)(y:ai):wS (V++[y])=tm (wS V) y:=by unfold wS;rw[IF];rfl
def aq2{V:x_}:∀ {o z},V.foldl tm o=some z->z∈V\/o=some z:=by
 induction V with
 |nil=>intro o z h;exact .inr h
 |cons y V ih=>
  intro o z h;rcases ih (o:=tm o y) h with h1|h1
  .exact .inl (by simp[h1])
  cases o with
  |none=>cases h1;exact .inl af
  |some w=>
   unfold tm at h1;simp only at h1;split at h1
   .cases h1;exact .inl af
   exact .inr h1
def XW{V:x_}{z:ai}(h:wS V=some z):z∈V:=by
 rcases aq2 h with h|h
 .exact h
 cases h
def cO:Option ai->PV
 |none=>.nils
 |some Y=>cT Y
def vL(F:Nat)(ls:ai)(gB:Nat)(bs:s_)(k:Nat)(V:x_)(ak:Env)(aj:aB):Prop:=
 ak 0=.one (.p (nY F ls))/\ak 2=.one (.aZ 1728000000 1 0)/\ak 17=.one (.hsl 1728128448 gB 1 0 2)/\ak 18=vi 2/\ak 19=vi k/\ak 3=.one (.p (cO (wS V)))/\
 aj 1728000000=(1,some (.var [.p (.int .i64 0),.p .nils]))/\aj 1728128448=(gB,some (.arr 22 1 bs))
def agJ(l:ai){i:Nat}(hx:l[i]?=some x):decide (aq Let.aE (l.take (i+1))%2=0)=if x.kind==1 then !decide (aq Let.aE (l.take i)%2=0) else decide (aq Let.aE (l.take i)%2=0):=by
 rw[Io hx,wa];have:aq Let.aE [x]=if x.kind==1 then 1 else 0:=by show List.countP _ [x]=_;rw[List.countP_singleton];rfl
 rw[this];generalize aq Let.aE (l.take i)=n;cases (x.kind==1)
 .simp
 simp only[if_true];rw[Ef,mj,oO,decide_eq_false_iff_not];omega
def agh{F:Nat}{ls l:ai}{gB k:Nat}{bs:s_}{V:x_}{Q:dO}{ak:Env}{aj:aB}(aI:l≠[])(wH:l.length=ls.length)(hl:ls.length<=1000000)(hV:∀y∈V,y.length=ls.length)(hI:vL F ls gB bs k V ak aj)(h5:ak 5=.one (.p (cT l)))(h6:ak 6=vb true)(mr:ak 23=.one (.p (cT l)))(ko:ak 24=vi ls.length)(nv:ak 25=vi 0)
  (hK:∀aF ao,vL F ls gB bs k (V++rW l ls.length) aF ao->Q .normal aF ao):W S .all (.loop i27_l1) (nh 2 Q) ak aj:=by
 refine dy (fun i ak aj=>vL F ls gB bs k (V++rW l i) ak aj/\ak 5=.one (.p (cT l))/\ak 6=vb (decide (aq Let.aE (l.take i)%2=0))/\ak 23=.one (.p (cT l))/\ak 24=vi ls.length/\ak 25=vi i) 0 ls.length (bG _) ⟨by rw[show rW l 0=[] from rfl,jA];exact hI,h5,h6,mr,ko,nv⟩ ?_;rintro i ak aj hi ⟨⟨h0,h2,jG,gG,iV,h3,b0,bB⟩,h5,h6,mr,ko,nv⟩
 by_cases aw:i<ls.length
 .have aL:((i:Int)<(ls.length:Int)):=aa;have aow:i<l.length:=aa;have wO:=wQ aow;have jx:=iO wO;have y9:=agJ l wO;have sW:=amG l i;unfold JC at sW;have oz:∀y∈V++rW l i,y.length=ls.length:=fun y hy=>by
   rcases eK.1 hy with h|h
   .exact hV y h
   obtain⟨j,_,e⟩:=List.mem_filterMap.1 h;split at e
   .cases e;rw[R7,A0,wH]
   cases e
  generalize lA l i=x at jx y9 sW;generalize decide (aq Let.aE (l.take i)%2=0)=d at y9 sW h6;generalize rW l i=W0 at*;have w1:=cS (n:=i) aa;have pr:=ahr l i aa aa;have MT:(eJ l i).length=ls.length:=by rw[A0,wH]
  rw[show l.drop i++l.take i=eJ l i from rfl] at pr;generalize eJ l i=R at pr MT sW;have Ql:R≠[]:=jl.1 aa;have pn:=asX R Ql aa;have hY:=R7 R;generalize wX R=Y at pn hY sW;have Ws:Y≠[]:=jl.1 aa;have mf:S.lone 1728704128=true:=XL ah;have ti:S.lone 1728704192=true:=XL ah;cases df:(x.kind==1) with
  |false=>rw[df] at y9 sW;simp only[Bool.false_and,dN,if_false,jA] at y9 sW;simp only[go_sem,i27_l1,h5,h6,mr,ko,nv,aw,aL,jx,Let.ps,df,bne,w1];simp only[go_sem,vL,sW,y9,h0,h2,h3,jG,gG,iV,b0,bB]
  |true=>
   rw[df] at y9 sW;cases d with
   |false=>simp only[Eg,dN,if_false,if_true,jA,Bool.not_false] at y9 sW;simp only[go_sem,i27_l1,h5,h6,mr,ko,nv,aw,aL,jx,Let.ps,df,bne,w1];simp only[go_sem,vL,sW,y9,h0,h2,h3,jG,gG,iV,b0,bB]
   |true=>
    simp only[Eg,if_true,Cx] at y9 sW;have oD:wS (V++(W0++[Y]))=tm (wS (V++W0)) Y:=by rw[<- vU,aq1]
    cases hz:wS (V++W0) with
    |none=>rw[hz] at oD h3;have oD:wS (V++(W0++[Y]))=some Y:=oD;have h3:ak 3=.one (.p .nils):=h3;simp only[go_sem,i27_l1,h3,h5,h6,mr,ko,nv,aw,aL,jx,Let.ps,df,bne,w1,s52,de pr (HT Ql mf),s51,de pn (HT Ws ti)];simp only[go_sem,vL,sW,y9,oD,cO,h0,h2,h3,jG,gG,iV,b0,bB]
    |some Z=>
     rw[hz] at oD h3;have hZ:=oz Z (XW hz);have h3:ak 3=.one (.p (cT Z)):=h3;have pb:=aki Y Z aa aa;obtain⟨e,es,he⟩:∃e es,dG Z=e::es:=by
      cases Z with
      |nil=>simp at hZ;omega
      |cons z t=>exact⟨_,_,rfl⟩
     have hZe:PV.sl (e::es)=cT Z:=by rw[<- he]
     rw[<- hZe] at pb h3;unfold tm at oD;simp only at oD;cases hb:nW Y Z with
     |false=>rw[hb] at pb oD;simp only[dN,if_false] at oD;simp only[go_sem,i27_l1,h3,h5,h6,mr,ko,nv,aw,aL,jx,Let.ps,df,bne,w1,s52,de pr (HT Ql mf),s51,de pn (HT Ws ti),s53,dZ pb];simp only[go_sem,vL,sW,y9,oD,cO,hZe,h0,h2,h3,jG,gG,iV,b0,bB]
     |true=>rw[hb] at pb oD;simp only[if_true] at oD;simp only[go_sem,i27_l1,h3,h5,h6,mr,ko,nv,aw,aL,jx,Let.ps,df,bne,w1,s52,de pr (HT Ql mf),s51,de pn (HT Ws ti),s53,dZ pb];simp only[go_sem,vL,sW,y9,oD,cO,h0,h2,h3,jG,gG,iV,b0,bB]
 have:i=ls.length:=aa;subst this;simp only[go_sem,i27_l1,ko,nv,eI];refine hK _ _ ?_;simp only[go_sem,vL,h0,h2,h3,jG,gG,iV,b0,bB]
def GD(ls:ai):x_:=rW ls ls.length++rW (yx ls) ls.length
def iM(ls:ai):Option ai:=wS (GD ls)
def VZ{l:ai}{n:Nat}(h:y∈rW l n):y.length=l.length:=by
 obtain⟨j,_,e⟩:=List.mem_filterMap.1 h;split at e
 .cases e;rw[R7,A0]
 cases e
def arc(aI:ls≠[])(hl:ls.length<=1000000):aK S 27 [.one (.p (nY F ls))] (.agg [.p (.int .i64 F),.p (cO (iM ls))]):=by
 have pb:=akc (F:=F) aI hl;have hB:=Pn ls;generalize hr:iM ls=res;unfold iM GD at hr;generalize yx ls=B at pb hB hr;have adJ:B≠[]:=by have:=jl.2 aI;exact jl.1 aa
 have mf:S.lone 1728128384=true:=XL ah;refine bk c27 ?_;simp only[go_sem,i27,s50,EK pb (HT adJ mf)];refine⟨aJ,?_⟩;refine dy (fun k=>vL F ls 1 [[cT ls],[cT B]] k (if k=0 then [] else if k=1 then rW ls ls.length else rW ls ls.length++rW B ls.length)) 0 2 (bG _) ?_ ?_
 .simp only[go_sem,vL];first|done|exact⟨rfl,rfl⟩|exact⟨rfl,rfl,rfl⟩|exact⟨rfl,rfl,rfl,rfl,rfl,rfl,rfl,rfl⟩|rfl
 intro k ak aj hk hI;obtain⟨h0,h2,jG,gG,iV,h3,b0,bB⟩:=hI;by_cases aw:k<2
 .have WM:k=0\/k=1:=aa;have l02:((0:Nat):Int)<2:=ae;have l12:((1:Nat):Int)<2:=ae;rcases WM with rfl|rfl
  .simp only[go_sem,i27_l3,jG,gG,iV,bB,l02];refine agh (F:=F) (ls:=ls) (l:=ls) (gB:=1) (k:=0) (bs:=[[cT ls],[cT B]]) (V:=[]) aI rfl hl (fun y h=>by cases h) ?_ rfl rfl rfl rfl rfl fun aF ao Fa=>?_
   .simp only[go_sem,vL,h0,h2,h3,jG,gG,iV,b0,bB];first|done|rfl
   obtain⟨h0,h2,jG,gG,iV,h3,b0,bB⟩:=Fa;rw[fZ] at h3;simp only[go_sem,vL,i27_r2,h0,h2,h3,jG,gG,iV,b0,bB];first|done|rfl|exact⟨rfl,rfl⟩
  simp only[go_sem,i27_l3,jG,gG,iV,bB,l12];refine agh (F:=F) (ls:=ls) (l:=B) (gB:=1) (k:=1) (bs:=[[cT ls],[cT B]]) (V:=rW ls ls.length) adJ hB hl (fun y h=>VZ h) ?_ rfl rfl rfl (by rw[<- hB];rfl) rfl fun aF ao Fa=>?_
  .simp only[go_sem,vL,h0,h2,h3,jG,gG,iV,b0,bB];first|done|rfl
  obtain⟨h0,h2,jG,gG,iV,h3,b0,bB⟩:=Fa;simp only[go_sem,vL,i27_r2,h0,h2,h3,jG,gG,iV,b0,bB];first|done|rfl|exact⟨rfl,rfl⟩
 have:k=2:=aa;subst this;have l22:¬(((2:Nat):Int)<2):=ae;have h3:ak 3=.one (.p (cO res)):=by rw[<- hr];exact h3
 simp only[go_sem,i27_l3,i27_r4,h0,h2,h3,gG,iV,b0,l22];cases res<;>rfl
def KO(bN:ni){f:Int}(hl:ls.length<=1000000)(h0:bQ f ls=0):aK S 7 [dY f ls] (.tup [.agg [.p (.int .i64 f),.p (cO (iM ls))],.one (.p (.int .i64 0))]):=by
 have pr:=R5 f ls hl;rw[OF h0] at pr;have pn:aK S 27 [.one (.p (if ls=[] then Aa f else nY f.toNat ls))] (.agg [.p (.int .i64 f),.p (cO (iM ls))]):=by
  by_cases aI:ls=[]
  .rw[aD aI];subst aI;exact arb bN f
  rw[ay aI];obtain⟨F,hF,g⟩:=rj h0 aI;subst hF;exact arc (F:=F) aI hl
 have fg:(if ls=[] then Aa f else nY f.toNat ls).norm=(if ls=[] then Aa f else nY f.toNat ls):=by split<;>simp only[X5]
 generalize (if ls=[] then Aa f else nY f.toNat ls)=dg at pr pn fg;generalize cO (iM ls)=c at*;refine bk c7 ?_;simp only[go_sem,i7,s26,de pr iB,s27,de pn apK,fg];rfl
def aqx:∀ {A B:d_},A.length=B.length->xV A B=false->xV B A=false->A=B:=by
 intro A
 induction A with
 |nil=>intro B h _ _;cases B with
  |nil=>rfl
  |cons _ _=>cases h
 |cons a A ih=>
  intro B h h1 h2;cases B with
  |nil=>cases h
  |cons b B=>
   unfold xV at h1 h2;by_cases e:a=b
   .subst e;rw[aD rfl] at h1 h2;rw[ih (by simpa using h) h1 h2]
   rw[ay e] at h1;rw[ay (Ne.symm e)] at h2;have:=ib h1;have:=ib h2;omega
def apG{a b:Let}(h:Kx a=Kx b):a=b:=by
 cases a with|mk k g r i s o=>cases b with|mk k' g' r' i' s' o'=>
 unfold Kx at h;simp only[yh,and_true] at h;obtain⟨h1,h2,h3,h4,h5,h6⟩:=h;have:o=o':=by revert h5;cases o<;>cases o'<;>simp
 subst h1 h2 h3 h4 h6 this;rfl
def aab:∀ {A B:ai},A.length=B.length->nW A B=false->nW B A=false->A=B:=by
 intro A
 induction A with
 |nil=>intro B h _ _;cases B with
  |nil=>rfl
  |cons _ _=>cases h
 |cons a A ih=>
  intro B h h1 h2;cases B with
  |nil=>cases h
  |cons b B=>
   unfold nW at h1 h2;by_cases e:a=b
   .subst e;rw[aD (FN a)] at h1 h2;rw[ih (by simpa using h) h1 h2]
   have e1:¬leq a b=true:=fun x=>e ((KB _ _).1 x);have e2:¬leq b a=true:=fun x=>e ((KB _ _).1 x).symm;rw[ay e1,Q5] at h1;rw[ay e2,Q5] at h2;exact absurd (apG (a:=a) (b:=b) (aqx rfl h1 h2)) e
def aq3{n:Nat}:∀ {V:x_} {o z},(∀y∈V,y.length=n)->(∀w,o=some w->w.length=n)->V.foldl tm o=some z->(∀y∈V,nW y z=false)/\(∀w,o=some w->nW w z=false):=by
 intro V
 induction V with
 |nil=>intro o z _ _ h;refine⟨fun y hy=>(by cases hy),fun w hw=>?_⟩;have h:o=some z:=h;rw[h] at hw;cases hw;exact akg z
 |cons y V ih=>
  intro o z hV ho h;have hy0:=hV y af;have hV':∀u∈V,u.length=n:=fun u hu=>hV u (by simp[hu]);cases o with
  |none=>
   obtain⟨h1,h2⟩:=ih (o:=some y) hV' (fun w hw=>by cases hw;exact hy0) h;refine⟨fun w hw=>?_,fun w hw=>(by cases hw)⟩;rcases cD.1 hw with rfl|hw
   .exact h2 w rfl
   exact h1 w hw
  |some w=>
   have vF:=ho w rfl;have h:V.foldl tm (tm (some w) y)=some z:=h;cases hb:nW y w with
   |true=>
    have e:tm (some w) y=some y:=by unfold tm;simp only[hb,if_true]
    rw[e] at h;obtain⟨h1,h2⟩:=ih (o:=some y) hV' (fun w hw=>by cases hw;exact hy0) h;have hy:=h2 y rfl;refine⟨fun u hu=>?_,fun u hu=>?_⟩
    .rcases cD.1 hu with rfl|hu
     .exact hy
     exact h1 u hu
    cases hu;cases hz:nW w z
    .rfl
    rw[aac hb hz] at hy;cases hy
   |false=>
    have e:tm (some w) y=some w:=by unfold tm;simp only[hb,dN,if_false]
    rw[e] at h;obtain⟨h1,h2⟩:=ih (o:=some w) hV' (fun w hw=>by cases hw;exact vF) h;have hw:=h2 w rfl;refine⟨fun u hu=>?_,fun u hu=>by cases hu;exact hw⟩;rcases cD.1 hu with rfl|hu
    .cases hz:nW u z
     .rfl
     cases hwu:nW w u with
     |true=>rw[aac hwu hz] at hw;cases hw
     |false=>rw[aab aa hb hwu] at hz;rw[hz] at hw;cases hw
    exact h1 u hu
def XX{n:Nat}{V:x_}{z:ai}(hV:∀y∈V,y.length=n)(h:wS V=some z):z∈V/\ ∀y∈V,nW y z=false:=
 ⟨XW h,(aq3 hV (fun w hw=>by cases hw) h).1⟩
def XY{V:x_}(h:V≠[]):∃z,wS V=some z:=by
 have key:∀(V:x_) (w:ai),∃z,V.foldl tm (some w)=some z:=by
  intro V
  induction V with
  |nil=>intro w;exact⟨w,rfl⟩
  |cons y V ih=>
   intro w;show ∃z,V.foldl tm (tm (some w) y)=some z;unfold tm;simp only;split
   .exact ih y
   exact ih w
 cases V with
 |nil=>exact absurd rfl h
 |cons y V=>exact key V y
def aq0{n:Nat}{V W:x_}(hV:∀y∈V,y.length=n)(MU:∀y,y∈V↔y∈W):wS V=wS W:=by
 have hW:∀y∈W,y.length=n:=fun y hy=>hV y ((MU y).2 hy);by_cases hv:V=[]
 .have hw:W=[]:=by
   cases W with
   |nil=>rfl
   |cons y W=>have:=(MU y).2 af;rw[hv] at this;cases this
  rw[hv,hw]
 have hw:W≠[]:=fun e=>by
  cases V with
  |nil=>exact hv rfl
  |cons y V=>have:=(MU y).1 af;rw[e] at this;cases this
 obtain⟨z,hz⟩:=XY hv;obtain⟨u,hu⟩:=XY hw;obtain⟨z1,z2⟩:=XX hV hz;obtain⟨u1,u2⟩:=XX hW hu;have:=aab ((hV z z1).trans (hW u u1).symm) (u2 z ((MU z).1 z1)) (z2 u ((MU u).2 u1));rw[hz,hu,this]
def abF{l:ai}{i:Nat}(hi:i<l.length):JC l i=true↔ES l i:=by
 have h:=wQ hi;unfold JC ES par;rw[cU,oO];constructor
 .rintro ⟨h1,h2⟩
  exact⟨⟨_,h,h1⟩,h2⟩
 rintro ⟨⟨x,hx,hp⟩,h2⟩
 rw[h] at hx;cases hx;exact⟨hp,h2⟩
def acM{l:ai}:y∈rW l l.length↔wA l y:=by
 unfold rW wA;rw[List.mem_filterMap];constructor
 .rintro ⟨i,hi,e⟩
  have hi:=gV.1 hi;split at e
  .rename_i hb;cases e;exact⟨i,hi,(abF hi).1 hb,rfl⟩
  cases e
 rintro ⟨i,hi,he,rfl⟩
 exact⟨i,gV.2 hi,by rw[aD ((abF hi).2 he)]⟩
def aka(he:aq Let.aE ls%2=0):∃j,j<=ls.length/\par ls.reverse j/\yx ls=eJ ls.reverse j:=by
 unfold yx;split
 .rename_i i hf;have hi:=gV.1 (IH hf);have hb:=Lz hf;unfold bkP at hb;rw[cU] at hb;obtain⟨h1,h2⟩:=hb;refine⟨i,aa,?_,rfl⟩;obtain⟨x,hx⟩:=aM (ls:=ls) (k:=ls.length-1-i) aa;have hxr:ls.reverse[i]?=some x:=by rw[List.getElem?_reverse aa];exact hx
  rw[afx hxr] at h1;have hd:(ll ls).getD (ls.length-1-i) false=dn ls (ls.length-1-i):=by unfold ll;rw[dA,fG,u5 aa];show iT ls (ls.length-1-i)=_;unfold iT;rw[hx];show(x.aE&&_)=_;rw[show x.aE=true from h1,Eg]
  rw[hd] at h2;unfold dn at h2;unfold par;rw[List.take_reverse,vg];have e1:aq Let.aE ls=aq Let.aE (ls.take (ls.length-i))+aq Let.aE (ls.drop (ls.length-i)):=by rw[<- wa,mJ]
  have e2:=agJ ls hx;rw[show ls.length-1-i+1=ls.length-i by omega,h1,aD rfl] at e2;have h3:¬aq Let.aE (ls.take (ls.length-1-i))%2=0:=by intro h;rw[h] at h2;cases h2
  rw[Eo h3] at e2;have h4:aq Let.aE (ls.take (ls.length-i))%2=0:=qu e2;omega
 refine⟨0,bG _,rfl,?_⟩;unfold eJ;simp
def arz{l:ai}(hj:j<=l.length)(he:aq Let.aE l%2=0)(hp:par l j):par (eJ l j) (l.length-j)/\eJ (eJ l j) (l.length-j)=l:=by
 have hd:(l.drop j).length=l.length-j:=lO;have e1:aq Let.aE l=aq Let.aE (l.take j)+aq Let.aE (l.drop j):=by rw[<- wa,mJ]
 unfold par at*;unfold eJ;rw[<- hd,List.take_left,List.drop_left,mJ];exact⟨aa,rfl⟩
def V9{l:ai}(hj:j<=l.length)(he:aq Let.aE l%2=0)(hp:par l j):wA (eJ l j) y↔wA l y:=by refine⟨adf hj he hp,fun h=>?_⟩;obtain⟨h1,h2⟩:=arz hj he hp;refine adf (l:=eJ l j) (j:=l.length-j) (by rw[A0];omega) (by rw[Mb];exact he) h1 ?_;rw[h2];exact h
def amn{f:Int->Int}{l:ai}{i:Nat}(h:ES l i):ES (l.map (dV f)) i:=by obtain⟨⟨x,hx,hp⟩,h2⟩:=h;refine⟨⟨dV f x,by rw[fG,hx];rfl,by rw[Gt];exact hp⟩,?_⟩;unfold par at*;rw[<- IG,Pr];exact h2
def ade{f:Int->Int}{l:ai}(hf:inj f l):wA (l.map (dV f)) y↔wA l y:=by
 refine⟨am6 hf,?_⟩;rintro ⟨i,hi,he,rfl⟩
 refine⟨i,by rw[cM];exact hi,amn he,?_⟩;rw[aho,ahk (Xp hf fun x hx=>HW.1 hx)]
def nZ(a b:ai):Prop:=a.length=b.length/\aq Let.aE a%2=aq Let.aE b%2/\ ∀y,xB a y↔xB b y
def nZ.refl(a:ai):nZ a a:=⟨rfl,rfl,fun _=>Iff.rfl⟩
def nZ.symm{a b:ai}(h:nZ a b):nZ b a:=⟨h.1.symm,h.2.1.symm,fun y=>(h.2.2 y).symm⟩
def nZ.trans{a b c:ai}(h:nZ a b)(k:nZ b c):nZ a c:=⟨h.1.trans k.1,h.2.1.trans k.2.1,fun y=>(h.2.2 y).trans (k.2.2 y)⟩
def VY{l:ai}(hj:j<=l.length)(he:aq Let.aE l%2=0)(hp:par l j):nZ (eJ l j) l:=by refine⟨A0 _ _,by rw[Mb],fun y=>?_⟩;unfold xB;rw[V9 hj he hp,as7 l hj,V9 (by rw[oL];omega) (by rw[vg];exact he) (arA hj he hp)]
def acK{l:ai}:nZ l.reverse l:=by refine⟨oL,by rw[vg],fun y=>?_⟩;unfold xB;rw[List.reverse_reverse];exact Or.comm
def VX{f:Int->Int}{l:ai}(hf:inj f l):nZ (l.map (dV f)) l:=by refine⟨cM ..,by rw[Pr],fun y=>?_⟩;unfold xB;rw[ade hf,<- List.map_reverse,ade (Xp hf fun x hx=>List.mem_reverse.1 hx)]
def amF(l:ai):nZ (wX l) l:=by obtain⟨f,hf,e⟩:=Yw l;rw[e];exact VX hf
def acI{l:ai}(he:aq Let.aE l%2=0)(h:xB l y):nZ y l:=by
 have key:∀m,aq Let.aE m%2=0->wA m y->nZ y m:=fun m hm h=>by obtain⟨j,hj,⟨_,hp⟩,rfl⟩:=h;exact(amF _).trans (VY aa hm hp)
 rcases h with h|h
 .exact key l he h
 exact(key l.reverse (by rw[vg];exact he) h).trans acK
def L8{l:ai}(he:aq Let.aE l%2=0):y∈GD l↔xB l y:=by
 obtain⟨j,hj,hp,e⟩:=aka he;unfold GD xB;have hl:rW (yx l) l.length=rW (yx l) (yx l).length:=by rw[Pn]
 rw[eK,hl,acM,acM,e,V9 (by rw[oL];exact hj) (by rw[vg];exact he) hp]
def Tx{l:ai}(h:y∈GD l):y.length=l.length:=by
 unfold GD at h;rcases eK.1 h with h|h
 .exact VZ h
 rw[VZ h,Pn]
def ara{a b:ai}(he:aq Let.aE a%2=0)(h:nZ a b):iM a=iM b:=by obtain⟨h1,h2,h3⟩:=h;refine aq0 (n:=a.length) (fun y hy=>Tx hy) fun y=>?_;rw[L8 he,L8 aa];exact h3 y
section
variable {F:Nat} {ls:ai}
def cX.isP0(g:cX F ls):ES ls 0:=by obtain⟨l,h1,h2⟩:=g.first;exact⟨⟨l,h1,h2⟩,rfl⟩
def cN(ls:ai):ai:=(iM ls).getD []
def cX.vK(g:cX F ls):iM ls=some (cN ls)/\xB ls (cN ls)/\ ∀y,xB ls y->nW y (cN ls)=false:=by
 have he:=g.even;have h0:xB ls (wX (eJ ls 0)):=.inl ⟨0,jl.2 g.ne,g.isP0,rfl⟩;have hc:GD ls≠[]:=fun e=>by have:=(L8 he).2 h0;rw[e] at this;cases this
 obtain⟨z,hz⟩:=XY hc;obtain⟨z1,z2⟩:=XX (fun y hy=>Tx hy) hz;have hn:iM ls=some z:=hz;have e:cN ls=z:=by unfold cN;rw[hn];rfl
 rw[e];exact⟨hn,(L8 he).1 z1,fun y hy=>z2 y ((L8 he).2 hy)⟩
def cX.form(g:cX F ls)(h:xB ls y):bQ (F:Int) y=0:=by
 have c:=g.cz;have hl:(zF ls).length<=400:=by rw[Lv];exact g.len
 have hc:aq Let.aA (aR (zF ls))<=200:=by rw[mF];exact g.cr
 have h0:∀x,(zF ls)[0]?=some x->x.i.b=false:=fun x hx=>by have hn:0<ls.length:=jl.2 g.ne;rw[Gb hn] at hx;cases hx;rw[Xo g hn];rfl
 rcases h with h|h
 .exact adg c h0 hl hc g.fing (by rw[mF];exact h)
 refine adg c.rv ?_ (by rw[cM,oL];exact hl) (by rw[KE,vg];exact hc) g.fing (by rw[KE,mF];exact h);intro x hx;rw[fG] at hx;have hn:0<ls.length:=jl.2 g.ne;rw[List.getElem?_reverse (by rw[Lv];exact hn),Lv,Gb aa] at hx;cases hx;show(ek ls (ls.length-1-0)).o.b=false;show(!dn ls (ls.length-1-0+1))=false;rw[show ls.length-1-0+1=ls.length by omega,abl g];rfl
end
def DN(ls:ai):(cN ls).length<=ls.length:=by
 unfold cN;cases h:iM ls with
 |none=>exact bG _
 |some z=>have:=Tx (XW h);show z.length<=_;omega
def GB(o:Option ai):(cO o).norm=cT (o.getD []):=by
 cases o with
 |none=>rfl
 |some Y=>rfl
def ats(bN:ni){f g:Int}{A B:ai}(hA:A.length<=1000000)(hB:B.length<=1000000)(h1:bQ f A=0)(h2:bQ g B=0):aK S 9 [dY f A,dY g B] (uV (.bool (decide (f=g)&&decide (cN A=cN B))) (.int .i64 0)):=by
 have pa:=KO bN hA h1;have pb:=KO bN hB h2;have pe:=amf (cN A) (cN B) (mY (DN A) hA) (mY (DN B) hB);have a3:(cO (iM A)).norm=cT (cN A):=GB _;have b3:(cO (iM B)).norm=cT (cN B):=GB _;generalize cO (iM A)=x at*;generalize cO (iM B)=y at*;generalize cN A=X at*;generalize cN B=Y at*;cases hf:decide (f=g) with
 |false=>
  have Aq:(f==g)=false:=by simpa using hf
  refine bk c9 ?_;simp only[go_sem,i9,s7,de pa FM,de pb FM,Aq];rfl
 |true=>
  have Aq:(f==g)=true:=by simpa using hf
  refine bk c9 ?_;simp only[go_sem,i9,s7,de pa FM,de pb FM,Aq,a3,b3,s31,dZ pe];rfl
def ft(F:Nat)(ls:ai)(m:aP):Option ai:=
 if ls=[] then if di F [] m.k m.a m.b m.c m.l m.o m.s=true then some (EC m.b.toNat) else none
 else if di F ls m.k m.a m.b m.c m.l m.o m.s=true then match qk F ls m.k m.a.toNat m.b.toNat m.c.toNat m.l m.o m.s with
  |none=>none
  |some M=>if (400:Int)<(ls.length:Int)+(gZ m.k).1\/(100:Int)<((aq Let.aA ls/2:Nat):Int)+(gZ m.k).2 then none else some (eL M)
 else none
def YA{L:ai}{e:Int}(he:e≠0):jy F L≠nJ e:=fun h=>by unfold jy nJ at h;simp only[RV.tup.injEq,yh,RV.one.injEq,RC.p.injEq,PV.int.injEq,and_true,true_and] at h;exact he h.2.symm
abbrev ZU(F:Nat)(ms:g_):Prop:=∀(L:ai) (m:aP),m∈ms->bQ (F:Int) L=0->(∃L',ft F L m=some L'/\bQ (F:Int) L'=0/\L'.length<=L.length+4/\aK S 30 [dY F L,AS m] (jy F L'))\/(ft F L m=none/\ ∃e,e≠0/\aK S 30 [dY F L,AS m] (nJ e))
def mV(F:Nat):ai->g_->Option ai
 |ls,[]=>some ls
 |ls,m::ms=>match ft F ls m with
  |none=>none
  |some L=>mV F L ms
def Yx{L:ai}{ms:g_}(m:aP)(h:mV F ls ms=some L):mV F ls (ms++[m])=ft F L m:=by
 induction ms generalizing ls with
 |nil=>have e:ls=L:=qt h;rw[<- e];show(match ft F ls m with|none=>none|some L=>some L)=_;cases ft F ls m<;>rfl
 |cons a r ih=>
  show(match ft F ls a with|none=>none|some L=>mV F L (r++[m]))=_;have h:(match ft F ls a with|none=>none|some L=>mV F L r)=some L:=h;cases ha:ft F ls a with
  |none=>rw[ha] at h;cases h
  |some K=>rw[ha] at h;exact ih h
def asY{ms r:g_}(h:mV F ls ms=none):mV F ls (ms++r)=none:=by
 induction ms generalizing ls with
 |nil=>cases h
 |cons a q ih=>
  show(match ft F ls a with|none=>none|some L=>mV F L (q++r))=_;have h:(match ft F ls a with|none=>none|some L=>mV F L q)=none:=h;cases ha:ft F ls a with
  |none=>rfl
  |some K=>rw[ha] at h;exact ih h
def asZ(bN:ni){ms:g_}(oZ:ZU F ms)(h0:bQ (F:Int) ls=0)(hl:ls.length<=1000)(hm:ms.length<=1000):∃r,((mV F ls ms=none/\ahl r)\/ ∃L,mV F ls ms=some L/\bQ (F:Int) L=0/\Yy F L ms.length r/\(ms≠[]->r=.tup [.agg [.p (.int .i64 F),aU jL 6 (dG L)],.one (.p (.int .i64 ms.length)),.one (.p (.int .i64 0))]))/\aK S 8 [dY F ls,.one (.p (lW ms))] r:=by
 have pc:=aaw F ls aa;rw[h0] at pc;have mf:S.lone 512256128=false:=ah;have ti:S.lone 512512128=false:=ah;have loop:∀(ak:Env) (aj:aB),ak 1=.one (.p (lW ms))->ak 2=.one (.aZ 512000000 1 0)->ak 4=.one (.aZ 512000064 1 0)->aj 512000064=(1,some (.var [.p (.int .i64 0),.p .nils]))->
   (∃c,aj 512000000=(1,some (.var [.p (.int .i64 F),c]))/\EA ls c aj)->ak 22=.one (.p (lW ms))->ak 23=vi ms.length->ak 24=vi 0->
   W S .all (.loop i8_l1) (nh 0 (zy S .all i8_r2 (nj .all i8.results fun v aj=>∃r,((mV F ls ms=none/\ahl r)\/ ∃L,mV F ls ms=some L/\bQ (F:Int) L=0/\Yy F L ms.length r/\(ms≠[]->r=.tup [.agg [.p (.int .i64 F),aU jL 6 (dG L)],.one (.p (.int .i64 ms.length)),.one (.p (.int .i64 0))]))/\jd aj v=some r))) ak aj:=by
  intro ak aj h1 h2 h4 bB Ha rZ mr ko;refine dy (fun k ak aj=>ak 1=.one (.p (lW ms))/\ak 2=.one (.aZ 512000000 1 0)/\ak 4=.one (.aZ 512000064 1 0)/\ak 22=.one (.p (lW ms))/\ak 23=vi ms.length/\ak 24=vi k/\aj 512000064=(1,some (.var [.p (.int .i64 0),.p .nils]))/\
   ∃L c,L.length<=ls.length+4*k/\aj 512000000=(1,some (.var [.p (.int .i64 F),c]))/\EA L c aj/\(0<k->grown 512512129 jL 6 (dG L) (.one c) aj)/\mV F ls (ms.take k)=some L/\bQ (F:Int) L=0) 0 ms.length (bG _) ?_ ?_
  .obtain⟨c,e1,e2⟩:=Ha;exact⟨h1,h2,h4,rZ,mr,ko,bB,ls,c,bR _,e1,e2,fun h=>absurd h (Nat.lt_irrefl _),rfl,h0⟩
  rintro k ak aj hk ⟨h1,h2,h4,rZ,mr,ko,bB,L,c,hL,bA,hc,hcg,kV,ny⟩
  by_cases aw:k<ms.length
  .have aL:((k:Int)<(ms.length:Int)):=aa;obtain⟨m,mQ⟩:=aM aw;have Ay:=HX mQ;have w1:=cS (n:=k) aa;have o9:EA L c (dU (dU aj 512448192 ((aj 512448192).1+1,some (.var [.p (.int .i64 0),.p (.int .i64 0),.p (.int .i64 0),.p (.int .i64 0),.p (.bool false),.p (.bool false),.p (.int .i64 0)]))) 512448192 ((aj 512448192).1+1,some (.var [.p (.int .i64 m.k),.p (.int .i64 m.a),.p (.int .i64 m.b),.p (.int .i64 m.c),.p (.bool m.l),.p (.bool m.o),.p (.int .i64 m.s)]))):=
    hc.of_eq ((aX ae).trans (aX ae)) ((aX ae).trans (aX ae))
   obtain⟨rd,lJ⟩:=o9.snap;have nA:ms.take (k+1)=ms.take k++[m]:=by obtain⟨hl,e⟩:=aT.1 mQ;rw[<- e,List.take_append_getElem]
   have uH:=Yx m kV;rw[<- nA] at uH;rcases oZ L m (aV mQ) ny with ⟨L2,hL2,an2,Hw,pa⟩|⟨hn,e,he,pa⟩
   .rw[hL2] at uH;simp only[go_sem,i8_l1,h2,rZ,mr,ko,bA,aL,Ay,aP.ps,lJ,s30];refine Wl pa ti rfl rfl (DY _) fun cc bU gc hb=>?_;have q0:=hb 512000000 ae;have q1:=hb 512000064 ae;simp only[go_sem,bA,bB] at q0 q1;simp only[go_sem,h1,h2,h4,rZ,mr,ko,q0,q1,w1];have gc:grown 512512129 jL 6 (dG L2) (.one cc) bU:=gc;exact⟨aw,L2,cc,aa,rfl,.inr (.inl (gc.of_eq ((aX ae).trans ((aX ae).trans (aX ae))))),fun _=>gc.of_eq ((aX ae).trans ((aX ae).trans (aX ae))),uH,an2⟩
   have Ap:(e==0)=false:=by simpa using he
   rw[hn] at uH;have dM:mV F ls ms=none:=by have:=asY (r:=ms.drop (k+1)) uH;rwa[mJ] at this
   simp only[go_sem,i8_l1,h2,rZ,mr,ko,bA,aL,Ay,aP.ps,lJ,s30];refine(de pa afy).2 ?_;simp only[go_sem,h4,bB,bne,Ap,i8];exact⟨_,.inl ⟨dM,k,e,he,rfl⟩,rfl⟩
  have:k=ms.length:=aa;subst this;rw[lf] at kV;simp only[go_sem,i8_l1,i8_r2,h1,h2,h4,mr,ko,bB,bA,eI,i8];by_cases h0m:0<ms.length
  .exact⟨_,.inr ⟨L,kV,ny,.inl rfl,fun _=>rfl⟩,Wo ((hcg h0m).of_eq (aX ae))⟩
  have hz:¬ms≠[]:=fun h=>h0m (jl.2 h);rcases hc with hc|hc|⟨rfl,rfl⟩
  .exact⟨_,.inr ⟨L,kV,ny,.inl rfl,fun _=>rfl⟩,Wo (hc.of_eq (aX ae))⟩
  .exact⟨_,.inr ⟨L,kV,ny,.inl rfl,fun _=>rfl⟩,Wo (hc.of_eq (aX ae))⟩
  exact⟨_,.inr ⟨[],kV,ny,.inr ⟨rfl,rfl⟩,fun h=>absurd h hz⟩,rfl⟩
 by_cases aI:ls=[]
 .subst aI;have pc':aK S 28 [.agg [.p (.int .i64 F),.p (.sl [])]] (ri 0):=pc;refine Et rfl c8 (iA rfl) ?_;simp only[go_sem,i8,s28,eT pc',s29,de bN XB];refine loop _ _ ?_ ?_ ?_ ?_ ⟨_,?_,.inr (.inr ⟨rfl,rfl⟩)⟩ ?_ ?_ ?_;all_goals first|rfl|(simp only[go_sem];done)|(simp only[go_sem];rfl)
 have pcl:=TE aI aa;refine Et rfl c8 (iA rfl) ?_;simp only[go_sem,i8,s28,eT pc,s29];refine rX pcl mf (.inl rfl) fun cc oU gc mu=>?_;have b0:=mu 512000000 ae;have b1:=mu 512000064 ae;simp only[go_sem] at b0 b1;simp only[go_sem,b0];refine loop _ _ ?_ ?_ ?_ ?_ ⟨_,?_,.inl (gc.of_eq (aX ae))⟩ ?_ ?_ ?_;all_goals first|rfl|(simp only[go_sem,b1];done)|(simp only[go_sem,b1];rfl)
def FT(h:bQ (F:Int) ls=0):bQ (F:Int) (cN ls)=0:=by
 by_cases aI:ls=[]
 .subst aI;exact h
 obtain⟨G,e,g⟩:=rj h aI;have:F=G:=aa;subst this;exact g.form g.vK.2.1
def GF{f:Int}{L:ai}(h:bQ f L=0):L.length<=400:=by
 by_cases aI:L=[]
 .subst aI;exact bG _
 obtain⟨G,_,g⟩:=rj h aI;exact g.len
end
end Go.Abs
