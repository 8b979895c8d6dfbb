/-
  The normal form of a code; Replay.
-/
import Derived.Test.YtanhekelecofdaaGreatDoorVb
import Derived.Test.YtanhekelecofdaaGreatDoorUa
set_option linter.all false
set_option maxRecDepth 100000
set_option maxHeartbeats 16000000
namespace Go.Abs
section
variable{F j:Nat}{x:Let}{y:ai}
def KU(x y:Let):leq x y=true↔x=y:=by
 constructor
 .intro h;unfold leq at h;simp only[cJ,dh] at h;obtain⟨h1,h2,h3,h4,h5,h6⟩:=h;cases x;cases y
  simp_all
 rintro rfl;exact H0 x
def qR(a b:Let):Bool:=if a.kind==b.kind then if a.gate==b.gate then if a.aA==b.aA then if a.id==b.id then if a.over==b.over then decide (a.sign<b.sign) else b.over else decide (a.id<b.id) else decide (a.aA<b.aA) else decide (a.gate<b.gate) else decide (a.kind<b.kind)
def yz:d_->d_->Bool
 |a::A,b::B=>if a=b then yz A B else decide (a<b)
 |_,_=>false
def aqf:∀ {A B:d_},yz A B=true->yz B A=false:=by
 intro A
 induction A with
 |nil=>intro B h;cases B<;>cases h
 |cons a A ih=>
  intro B h;cases B with
  |nil=>cases h
  |cons b B=>
   unfold yz at h |-;by_cases e:a=b
   .subst e;rw[aG rfl] at h |-;exact ih h
   rw[aC e] at h;rw[aC (Ne.symm e)];have:=qA h;exact xG aa
def aqh:∀ {A B D:d_},yz A B=true->yz B D=true->yz A D=true:=by
 intro A
 induction A with
 |nil=>intro B D h;cases B<;>cases h
 |cons a A ih=>
  intro B D h h';cases B with
  |nil=>cases h
  |cons b B=>
   cases D with
   |nil=>cases h'
   |cons d D=>
    unfold yz at h h' |-;by_cases e:a=b
    .subst e;rw[aG rfl] at h;by_cases e':a=d
     .subst e';rw[aG rfl] at h' |-;exact ih h h'
     rw[aC e'] at h' |-;exact h'
    rw[aC e] at h;have h1:=qA h;by_cases e':b=d
    .subst e';rw[aC e];exact h
    rw[aC e'] at h';have h2:=qA h';rw[aC aa];exact xH aa
def KP(a:Let):d_:=[a.kind,a.gate,a.aA,a.id,if a.over then 1 else 0,a.sign]
def Uq(a b:Let):qR a b=yz (KP a) (KP b):=by
 cases a with|mk k g r i s o=>cases b with|mk k' g' r' i' s' o'=>
 unfold qR KP;simp only[yz];by_cases h1:k=k'
 .by_cases h2:g=g'
  .by_cases h3:r=r'
   .by_cases h4:i=i'
    .cases o<;>cases o'<;>by_cases h6:s=s'<;>simp[h1,h2,h3,h4,h6]
    simp[h1,h2,h3,h4]
   simp[h1,h2,h3]
  simp[h1,h2]
 simp[h1]
def aqb{a b:Let}(h:qR a b=true):qR b a=false:=by rw[Uq] at*;exact aqf h
def aqc{a b c:Let}(h1:qR a b=true)(h2:qR b c=true):qR a c=true:=by rw[Uq] at*;exact aqh h1 h2
def nK:ai->ai->Bool
 |a::A,b::B=>if leq a b then nK A B else qR a b
 |_,_=>false
def akd(A:ai):nK A A=false:=by
 induction A with
 |nil=>rfl
 |cons a A ih=>unfold nK;rw[aG (H0 a)];exact ih
def aa2:∀ {A B D:ai},nK A B=true->nK B D=true->nK A D=true:=by
 intro A
 induction A with
 |nil=>intro B D h;cases B<;>cases h
 |cons a A ih=>
  intro B D h h';cases B with
  |nil=>cases h
  |cons b B=>
   cases D with
   |nil=>cases h'
   |cons d D=>
    unfold nK at h h' |-;by_cases e:a=b
    .subst e;rw[aG (H0 a)] at h;by_cases e':a=d
     .subst e';rw[aG (H0 a)] at h' |-;exact ih h h'
     have e1:¬leq a d=true:=fun x=>e' ((KU _ _).1 x);rw[aC e1] at h' |-;exact h'
    have e1:¬leq a b=true:=fun x=>e ((KU _ _).1 x);rw[aC e1] at h;by_cases e':b=d
    .subst e';rw[aC e1];exact h
    have e2:¬leq b d=true:=fun x=>e' ((KU _ _).1 x);rw[aC e2] at h';have e3:¬leq a d=true:=fun x=>by have:=(KU _ _).1 x;subst this;rw[aqb h] at h';cases h'
    rw[aC e3];exact aqc h h'
def eU(l:ai)(i:Nat):ai:=l.drop i++l.take i
def par(l:ai)(i:Nat):Prop:=aq Let.aF (l.take i)%2=0
def Fk(l:ai)(i:Nat):Prop:=(∃x,l[i]?=some x/\x.aF=true)/\par l i
def yG(l:ai)(i:Nat):(eU l i).length=l.length:=by unfold eU;rw[gJ,lD,iH];omega
def xO(q:Let->Bool)(a b:ai):aq q (a++b)=aq q a+aq q b:=xz
def Jo(q:Let->Bool)(l:ai)(i:Nat):aq q (eU l i)=aq q l:=by unfold eU;rw[xO,Nat.add_comm,<- xO,mU]
def asW{l:ai}{i:Nat}(hj:j<=l.length)(hi:i<l.length):∃k,k<l.length/\eU (eU l j) i=eU l k/\(eU l j)[i]?=l[k]? /\(aq Let.aF l%2=0->par l j->par (eU l j) i->par l k):=by
 by_cases h:i<l.length-j
 .refine⟨j+i,aa,?_,?_,?_⟩
  .unfold eU;rw[List.drop_append_of_le_length (by rw[lD];omega),PK (by rw[lD];omega),List.drop_drop,vW];congr 1;rw[<- List.take_add]
  .unfold eU;rw[xB (by rw[lD];omega),Ah]
  unfold par eU;intro _ h1 h2;rw[PK (by rw[lD];omega)] at h2;rw[List.take_add,xO];omega
 refine⟨i-(l.length-j),aa,?_,?_,?_⟩
 .unfold eU;obtain⟨d,hd⟩:∃d,d=i-(l.length-j):=⟨_,rfl⟩;rw[<- hd];have e1:(l.drop j++l.take j).drop i=(l.take j).drop d:=by
   rw[List.drop_append,List.drop_of_length_le (by rw[lD];omega),gR,lD,hd]
  have e2:(l.drop j++l.take j).take i=l.drop j++(l.take j).take d:=by rw[L8,gT (by rw[lD];omega),lD,hd]
  rw[e1,e2,<- vW];have e3:(l.take j).take d=l.take d:=by rw[Gp,Aj aa]
  rw[e3];congr 1;have e4:l.drop d=(l.take j).drop d++l.drop j:=by
   conv=>lhs;rw[<- mU j l]
   rw[List.drop_append_of_le_length (by rw[iH];omega)]
  exact e4.symm
 .unfold eU;rw[Ag (by rw[lD];omega),lD,l8];rw[aG aa]
 unfold par eU;intro ht h1 h2;rw[L8,gT (by rw[lD];omega),lD,xO,Gp,Aj aa] at h2;have:aq Let.aF l=aq Let.aF (l.take j)+aq Let.aF (l.drop j):=by rw[<- xO,mU]
 omega
def lZ:d_->ai->ai
 |_,[]=>[]
 |s,x::r=>if x.kind==2 then (if s.contains x.id then {x with id:=((s.idxOf x.id+1:Nat):Int)}::lZ s r else {x with id:=((s.length+1:Nat):Int)}::lZ (s++[x.id]) r) else x::lZ s r
def xm(l:ai):ai:=lZ [] l
def eo(f:Int->Int)(x:Let):Let:=if x.kind==2 then {x with id:=f x.id} else x
def V9(f:Int->Int)(x:Let):(eo f x).kind=x.kind:=by unfold eo;split<;>rfl
def GA(f:Int->Int)(x:Let):(eo f x).aF=x.aF:=by unfold Let.aF;rw[V9]
def inj(f:Int->Int)(l:ai):Prop:=∀x∈l,∀y∈l,x.kind=2->y.kind=2->f x.id=f y.id->x.id=y.id
def asA{f:Int->Int}:∀ {l:ai} {s:d_},(∀x∈l,x.kind=2->∀a∈s,f x.id=f a->x.id=a)->inj f l->lZ (s.map f) (l.map (eo f))=lZ s l:=by
 intro l
 induction l with
 |nil=>intro s _ _;rfl
 |cons x r ih=>
  intro s hs hi;have vz:inj f r:=fun a ha b hb=>hi a (u6 _ ha) b (u6 _ hb);by_cases hk:x.kind=2
  .have lL:(x.kind==2)=true:=by rw[hk];rfl
   have e:eo f x={x with id:=f x.id}:=aG lL;have inc:(s.map f).contains (f x.id)=s.contains x.id:=by
    rw[EG,L1,L1,cV];constructor
    .rintro ⟨a,ha,h⟩
     rw[hs x af hk a ha h.symm];exact ha
    intro h;exact⟨x.id,h,rfl⟩
   rw[eD,e];unfold lZ;simp only[lL,if_true,inc];cases hc:s.contains x.id with
   |true=>
    simp only[if_true];have DK:(s.map f).idxOf (f x.id)=s.idxOf x.id:=by
     clear ih;have DY:∀a∈s,f x.id=f a->x.id=a:=hs x af hk;clear hs inc hc
     induction s with
     |nil=>rfl
     |cons a s ihs=>
      rw[eD,List.idxOf_cons,List.idxOf_cons];by_cases h:a=x.id
      .subst h;simp
      have h2:¬f a=f x.id:=fun h3=>h (DY a af h3.symm).symm;rw[show(f a==f x.id)=false from lS.2 h2,show(a==x.id)=false from lS.2 h];simp only[cond_false];rw[ihs fun b hb=>DY b (by simp[hb])]
    rw[DK,ih (fun y hy=>hs y (u6 _ hy)) vz]
   |false=>
    simp only[dR,if_false,cU];have:=ih (s:=s++[x.id]) (fun y hy Ea a ha h=>by
     rcases eX.1 ha with h1|h1
     .exact hs y (u6 _ hy) Ea a h1 h
     rw[lQ.1 h1] at h |-;exact hi y (u6 _ hy) x af Ea hk h) vz
    rw[ki] at this;rw[<- this];rfl
  have lL:(x.kind==2)=false:=lS.2 hk;have e:eo f x=x:=aC (by rw[lL];decide);rw[eD,e];unfold lZ;simp only[lL,dR,if_false];rw[ih (fun y hy=>hs y (u6 _ hy)) vz]
def ahf{f:Int->Int}{l:ai}(h:inj f l):xm (l.map (eo f))=xm l:=asA (s:=[]) (fun _ _ _ _ ha=>by cases ha) h
def iW:d_->ai->d_
 |s,[]=>s
 |s,x::r=>if x.kind==2 then (if s.contains x.id then iW s r else iW (s++[x.id]) r) else iW s r
def ahA:∀(l:ai) (s:d_),∃t,iW s l=s++t:=by
 intro l
 induction l with
 |nil=>intro s;exact⟨[],by simp[iW]⟩
 |cons x r ih=>
  intro s;unfold iW;split
  .split
   .exact ih s
   obtain⟨t,h⟩:=ih (s++[x.id]);exact⟨x.id::t,by rw[h];simp⟩
  exact ih s
def aeq{s t:d_}{a:Int}(h:a∈s):(s++t).idxOf a=s.idxOf a:=by rw[List.idxOf_append,aG h]
def ahd:∀(l:ai) (s:d_),lZ s l=l.map (eo fun a=>(((iW s l).idxOf a+1:Nat):Int))/\ ∀x∈l,x.kind=2->x.id∈iW s l:=by
 intro l
 induction l with
 |nil=>intro s;exact⟨rfl,fun x h=>by cases h⟩
 |cons x r ih=>
  intro s;by_cases hk:x.kind=2
  .have lL:(x.kind==2)=true:=by rw[hk];rfl
   cases hc:s.contains x.id with
   |true=>
    have hm:x.id∈s:=L1.1 hc;have e:iW s (x::r)=iW s r:=by simp only[iW,lL,hc,if_true]
    obtain⟨h1,h2⟩:=ih s;obtain⟨t,ht⟩:=ahA r s;refine⟨?_,?_⟩
    .have e0:lZ s (x::r)={x with id:=((s.idxOf x.id+1:Nat):Int)}::lZ s r:=by simp only[lZ,lL,hc,if_true]
     rw[e,e0,eD,h1];congr 1;unfold eo;rw[aG lL,ht];dsimp only;rw[aeq hm]
    rw[e];intro y hy Ea;rcases ch.1 hy with rfl|hy
    .rw[ht];exact Gl _ hm
    exact h2 y hy Ea
   |false=>
    have e:iW s (x::r)=iW (s++[x.id]) r:=by simp only[iW,lL,hc,if_true,dR,if_false]
    obtain⟨h1,h2⟩:=ih (s++[x.id]);obtain⟨t,ht⟩:=ahA r (s++[x.id]);have hn:¬x.id∈s:=fun h=>by rw[L1.2 h] at hc;cases hc
    refine⟨?_,?_⟩
    .have e0:lZ s (x::r)={x with id:=((s.length+1:Nat):Int)}::lZ (s++[x.id]) r:=by simp only[lZ,lL,hc,if_true,dR,if_false]
     rw[e,e0,eD,h1];congr 1;unfold eo;rw[aG lL,ht];dsimp only;rw[aeq af,List.idxOf_append,aC hn];simp
    rw[e];intro y hy Ea;rcases ch.1 hy with rfl|hy
    .rw[ht];simp
    exact h2 y hy Ea
  have lL:(x.kind==2)=false:=lS.2 hk;have e:iW s (x::r)=iW s r:=by simp only[iW,lL,dR,if_false]
  obtain⟨h1,h2⟩:=ih s;refine⟨?_,?_⟩
  .have e0:lZ s (x::r)=x::lZ s r:=by simp only[lZ,lL,dR,if_false]
   rw[e,e0,eD,h1];rw[show eo (fun a=>(((iW s r).idxOf a+1:Nat):Int)) x=x from aC (by rw[lL];decide)]
  rw[e];intro y hy Ea;rcases ch.1 hy with rfl|hy
  .exact absurd Ea hk
  exact h2 y hy Ea
def aep{S:d_}{a b:Int}(ha:a∈S)(hb:b∈S)(h:S.idxOf a=S.idxOf b):a=b:=by have h1:=List.getElem_idxOf (PH.2 ha);have h2:=List.getElem_idxOf (PH.2 hb);rw[<- h1,<- h2];simp only[h]
def Zw(l:ai):∃f,inj f l/\xm l=l.map (eo f):=by obtain⟨h1,h2⟩:=ahd l [];refine⟨_,?_,h1⟩;intro x hx y hy xk yk h;dsimp only at h;exact aep (h2 x hx xk) (h2 y hy yk) aa
def Yr{f:Int->Int}{l m:ai}(h:inj f l)(hm:∀x∈m,x∈l):inj f m:=fun x hx y hy=>h x (hm x hx) y (hm y hy)
def ahj(f:Let->Let)(l:ai)(i:Nat):eU (l.map f) i=(eU l i).map f:=by unfold eU;simp
def Ia{l:ai}{i:Nat}:x∈eU l i↔x∈l:=by unfold eU;rw[eX,Or.comm,<- eX,mU]
def wE(l y:ai):Prop:= ∃i,i<l.length/\Fk l i/\y=xm (eU l i)
def xS(l y:ai):Prop:=wE l y\/wE l.reverse y
def Ql{f:Int->Int}(l:ai):aq Let.aF (l.map (eo f))=aq Let.aF l:=by show List.countP _ _=List.countP _ _;rw[vZ];exact IH fun x _=>by rw[Function.comp_apply,GA]
def amg{f:Int->Int}{l:ai}{i:Nat}(h:Fk (l.map (eo f)) i):Fk l i:=by
 obtain⟨⟨x,hx,hp⟩,h2⟩:=h;rw[gk] at hx;cases hl:l[i]? with
 |none=>rw[hl] at hx;cases hx
 |some y=>rw[hl] at hx;cases hx;refine⟨⟨y,hl,by rw[GA] at hp;exact hp⟩,?_⟩;unfold par at*;rw[<- Gk,Ql] at h2;exact h2
def amY{f:Int->Int}{l:ai}(hf:inj f l)(h:wE (l.map (eo f)) y):wE l y:=by obtain⟨i,hi,he,rfl⟩:=h;rw[cU] at hi;refine⟨i,hi,amg he,?_⟩;rw[ahj,ahf (Yr hf fun x hx=>Ia.1 hx)]
def ac4{l:ai}(hj:j<=l.length)(he:aq Let.aF l%2=0)(hp:par l j)(h:wE (eU l j) y):wE l y:=by obtain⟨i,hi,⟨⟨x,hx,xp⟩,h2⟩,rfl⟩:=h;rw[yG] at hi;obtain⟨k,hk,e1,e2,e3⟩:=asW hj hi;rw[e2] at hx;exact⟨k,hk,⟨⟨x,hx,xp⟩,e3 he hp h2⟩,by rw[e1]⟩
def asK(l:ai)(hj:j<=l.length):(eU l j).reverse=eU l.reverse (l.length-j):=by unfold eU;rw[List.reverse_append,List.drop_reverse,List.take_reverse];congr 2<;>(congr 1;omega)
def aq8{l:ai}(hj:j<=l.length)(he:aq Let.aF l%2=0)(hp:par l j):par l.reverse (l.length-j):=by
 unfold par at*;rw[List.take_reverse,show l.length-(l.length-j)=j by omega];have h1:aq Let.aF (l.drop j).reverse=aq Let.aF (l.drop j):=List.countP_reverse;have h2:aq Let.aF l=aq Let.aF (l.take j)+aq Let.aF (l.drop j):=by rw[<- xO,mU]
 rw[h1];omega
def xu(x:aS):aS:=⟨⟨x.p.l,!x.p.d⟩,iX x.o,iX x.i⟩
def ahu(x:aS):(xu x).up=x.up:=by unfold aS.up xu;cases x.p.d<;>rfl
def aht(x:aS):(xu x).lo=x.lo:=by unfold aS.lo xu;cases x.p.d<;>rfl
def X4.rv{g:Bool}{i o j q:eV}(h:X4 g i o j q):X4 g (iX o) (iX i) (iX q) (iX j):=by
 obtain⟨a,b,c,d⟩:=h;cases g
 .simp only[dR,if_false] at a b c d;constructor<;>simp only[dR,if_false,iX]
  .exact b
  .exact a
  .exact d
  exact c
 simp only[if_true] at a b c d;constructor<;>simp only[if_true,iX]
 .exact b
 .exact a
 .exact d
 exact c
def Xr.rv{x y:aS}(h:Xr x y):Xr (xu x) (xu y):=fun hc mc e=>by obtain⟨h1,h2,h3⟩:=h hc mc e;exact⟨h1,h2,h3.rv⟩
def arj:∀ {z:j_} {s t:eV},ko s z t->ko (iX t) (z.reverse.map xu) (iX s):=by
 intro z
 induction z with
 |nil=>intro s t h;cases h;rfl
 |cons x z ih=>intro s t h;obtain⟨rfl,h⟩:=h;rw[List.reverse_cons,ki];exact O9.2 ⟨iX x.o,ih h,rfl,rfl⟩
def arh:∀ {z:j_} {s t:eV},ko s z t->∀x∈z,(∃y∈z,y.i=x.o)\/x.o=t:=by
 intro z
 induction z with
 |nil=>intro s t _ x hx;cases hx
 |cons a z ih=>
  intro s t h x hx;obtain⟨rfl,h⟩:=h;rcases ch.1 hx with rfl|hx
  .cases z with
   |nil=>exact .inr h
   |cons b z=>exact .inl ⟨b,af,h.1⟩
  rcases ih h x hx with ⟨y,hy,e⟩|e
  .exact .inl ⟨y,by simp[hy],e⟩
  exact .inr e
def Cz.next{z:j_}{T B:Nat->Nat->Nat}{S:a_}(c:Cz F z T B S){x:aS}(hx:x∈z):∃y∈z,y.i=x.o:=by
 obtain⟨s,h⟩:=c.path;rcases arh h x hx with e|e
 .exact e
 cases z with
 |nil=>cases hx
 |cons a z=>exact⟨a,af,by rw[h.1,e]⟩
def KX(z:j_):aT (z.reverse.map xu)=(aT z).reverse:=by rw[<- List.map_reverse];show List.map _ (List.map _ _)=_;rw[uu];rfl
def vj(q:Let->Bool)(l:ai):aq q l.reverse=aq q l:=List.countP_reverse
def Cz.rv{z:j_}{T B:Nat->Nat->Nat}{S:a_}(c:Cz F z T B S):Cz F (z.reverse.map xu) T B S:=by
 obtain⟨s,h⟩:=c.path;have hm:∀x∈z.reverse.map xu,∃y∈z,x=xu y:=fun x hx=>by obtain⟨y,hy,rfl⟩:=cV.1 hx;exact⟨y,List.mem_reverse.1 hy,rfl⟩
 have ec:∀g,cg (aT (z.reverse.map xu)) g=cg (aT z) g:=fun g=>by rw[KX];exact vj _ _
 refine⟨⟨_,arj h⟩,fun x hx=>?_,?_,by rw[KX,vj];exact c.ev,fun x hx hc=>?_,?_,fun x hx hp=>?_,fun x hx hp=>?_,fun g hg=>by rw[ec];exact c.gt g hg,by rw[ec];exact c.gz,?_,c.nd,fun s hs=>?_,by rw[KX,vj,vj];exact c.num⟩
 .obtain⟨y,hy,rfl⟩:=hm x hx;obtain⟨o1,o2,o3⟩:=c.ok y hy;refine⟨o1,fun hc=>(o2 hc).symm,fun hp=>?_⟩;obtain⟨p1,p2⟩:=o3 hp;refine⟨p2,?_⟩;show y.o.b= !(!y.p.d);rw[p1,Bool.not_not]
 .refine yN.2 (List.pairwise_reverse.2 (c.cr.imp fun {a b} dU=>dU.symm.rv))
 .obtain⟨y,hy,rfl⟩:=hm x hx;rw[KX,vj];exact c.ids y hy hc
 .refine yN.2 (List.pairwise_reverse.2 (c.rk.imp fun {a b} dU=>dU.symm))
 .obtain⟨y,hy,rfl⟩:=hm x hx;rw[ec];exact c.rr y hy hp
 .obtain⟨y,hy,rfl⟩:=hm x hx;obtain⟨a,b,d,e⟩:=c.pl y hy hp;exact⟨by rw[ahu];exact a,by rw[ahu];exact b,by rw[aht];exact d,by rw[aht];exact e⟩
 .obtain⟨x,hx,hp⟩:=c.one;exact⟨xu x,cV.2 ⟨x,List.mem_reverse.2 hx,rfl⟩,hp⟩
 obtain⟨x,hx,e⟩:=c.wit s hs;obtain⟨y,hy,e2⟩:=c.next hx;refine⟨xu y,cV.2 ⟨y,List.mem_reverse.2 hy,rfl⟩,?_⟩;show s=y.i.r\/s=y.i.l;rw[e2];exact e.symm
def mv(f:Int->Int)(x:aS):aS:=⟨⟨eo f x.p.l,x.p.d⟩,x.i,x.o⟩
def Mg(f:Int->Int)(x:Let):(eo f x).gate=x.gate:=by unfold eo;split<;>rfl
def PX(f:Int->Int)(x:Let):(eo f x).aA=x.aA:=by unfold eo;split<;>rfl
def Wb(f:Int->Int)(x:Let):(eo f x).sign=x.sign:=by unfold eo;split<;>rfl
def Wa(f:Int->Int)(x:Let):(eo f x).over=x.over:=by unfold eo;split<;>rfl
def V8(f:Int->Int)(x:Let):(eo f x).aD=x.aD:=by unfold Let.aD;rw[V9]
def V7{f:Int->Int}(h:x.aD=true):(eo f x).id=f x.id:=by unfold eo;rw[aG (show(x.kind==2)=true from h)]
def aaL{f:Int->Int}(h:x.aD=false):eo f x=x:=by unfold eo;exact aC (by rw[show(x.kind==2)=false from h];decide)
def aka{f:Int->Int}(h:dS F x=false):dS F (eo f x)=false:=by
 cases hc:x.aD
 .rw[aaL hc];exact h
 have:eo f x={x with id:=f x.id}:=aG hc;rw[this];rcases wg h with hp|_
 .rw[qV hp] at hc;cases hc
 unfold dS at h |-;unfold Let.aD at hc;have hk:x.kind=2:=dh.1 hc
 simpa [hk] using h
def OY(f:Int->Int)(z:j_):aT (z.map (mv f))=(aT z).map (eo f):=by show List.map _ (List.map _ _)=List.map _ (List.map _ _);rw[uu,uu];rfl
def Qk{f:Int->Int}{q:Let->Bool}(hq:∀x,q (eo f x)=q x)(l:ai):aq q (l.map (eo f))=aq q l:=by show List.countP _ _=List.countP _ _;rw[vZ];exact IH fun x _=>by rw[Function.comp_apply,hq]
def akP(f:Int->Int)(l:ai)(g:Nat):cg (l.map (eo f)) g=cg l g:=Qk (fun x=>by unfold mD;rw[GA,Mg]) l
def Cz.rn{z:j_}{T B:Nat->Nat->Nat}{S:a_}(c:Cz F z T B S){f:Int->Int}(hf:inj f (aT z))(hi:∀x∈z,x.k.aD=true->1<=f x.k.id/\f x.k.id<=((aq Let.aD (aT z)/2:Nat):Int)):Cz F (z.map (mv f)) T B S:=by
 obtain⟨s,h⟩:=c.path;have hm:∀x∈z.map (mv f),∃y∈z,x=mv f y:=fun x hx=>by obtain⟨y,hy,rfl⟩:=cV.1 hx;exact⟨y,hy,rfl⟩
 have ec:∀g,cg (aT (z.map (mv f))) g=cg (aT z) g:=fun g=>by rw[OY,akP]
 have eC:aq Let.aD (aT (z.map (mv f)))=aq Let.aD (aT z):=by rw[OY];exact Qk (V8 f) _
 have eP:aq Let.aF (aT (z.map (mv f)))=aq Let.aF (aT z):=by rw[OY];exact Qk (GA f) _
 have kC:∀y:aS,(mv f y).k.aD=y.k.aD:=fun y=>V8 f y.k;have kP:∀y:aS,(mv f y).k.aF=y.k.aF:=fun y=>GA f y.k;have kl:∀y∈z,y.k∈aT z:=fun y hy=>cV.2 ⟨y,hy,rfl⟩;have X9:∀ {z:j_} {s t:eV},ko s z t->ko s (z.map (mv f)) t:=by
  intro z
  induction z with
  |nil=>intro s t h;exact h
  |cons x z ih=>intro s t h;exact⟨h.1,ih h.2⟩
 refine⟨⟨s,X9 h⟩,fun x hx=>?_,?_,by rw[eC];exact c.ev,fun x hx hc=>?_,?_,fun x hx hp=>?_,fun x hx hp=>?_,fun g hg=>by rw[ec];exact c.gt g hg,by rw[ec];exact c.gz,?_,c.nd,fun s hs=>?_,by rw[eP,eC];exact c.num⟩
 .obtain⟨y,hy,rfl⟩:=hm x hx;obtain⟨o1,o2,o3⟩:=c.ok y hy;exact⟨aka o1,fun hc=>o2 (by rw[kC] at hc;exact hc),fun hp=>o3 (by rw[kP] at hp;exact hp)⟩
 .refine yN.2 (List.Pairwise.imp_of_mem (fun {a b} ha hb dU=>?_) c.cr);intro ac bc e;rw[kC] at ac bc;have e2:f a.k.id=f b.k.id:=by
   have:=e;rw[show(mv f a).k.id=f a.k.id from V7 ac,show(mv f b).k.id=f b.k.id from V7 bc] at this;exact this
  obtain⟨h1,h2,h3⟩:=dU ac bc (hf _ (kl a ha) _ (kl b hb) (dh.1 ac) (dh.1 bc) e2);refine⟨?_,?_,?_⟩
  .show(eo f a.k).over= !(eo f b.k).over;rw[Wa,Wa];exact h1
  .show(eo f a.k).sign=(eo f b.k).sign;rw[Wb,Wb];exact h2
  show X4 (gX (eo f a.k)) _ _ _ _;have:gX (eo f a.k)=gX a.k:=by unfold gX;rw[Wa,Wb]
  rw[this];exact h3
 .obtain⟨y,hy,rfl⟩:=hm x hx;rw[kC] at hc;rw[eC,show(mv f y).k.id=f y.k.id from V7 hc];exact hi y hy hc
 .refine yN.2 (c.rk.imp fun {a b} dU=>?_);intro ap bp e1 e2;rw[kP] at ap bp;refine dU ap bp ?_ ?_
  .have:=e1;rw[show(mv f a).k.gate=a.k.gate from Mg f a.k,show(mv f b).k.gate=b.k.gate from Mg f b.k] at this;exact this
  have:=e2;rw[show(mv f a).k.aA=a.k.aA from PX f a.k,show(mv f b).k.aA=b.k.aA from PX f b.k] at this;exact this
 .obtain⟨y,hy,rfl⟩:=hm x hx;rw[kP] at hp;rw[ec,show(mv f y).k.aA=y.k.aA from PX f y.k,show(mv f y).k.gate=y.k.gate from Mg f y.k];exact c.rr y hy hp
 .obtain⟨y,hy,rfl⟩:=hm x hx;rw[kP] at hp;obtain⟨a,b,d,e⟩:=c.pl y hy hp;have u:(mv f y).up=y.up:=rfl;have w:(mv f y).lo=y.lo:=rfl;have eg:(mv f y).k.gate=y.k.gate:=Mg f y.k;have er:(mv f y).k.aA=y.k.aA:=PX f y.k;exact⟨by rw[u,eg,er];exact a,by rw[u,eg,er];exact b,by rw[w,eg,er];exact d,by rw[w,eg,er];exact e⟩
 .obtain⟨x,hx,hp⟩:=c.one;exact⟨mv f x,cV.2 ⟨x,hx,rfl⟩,by rw[kP];exact hp⟩
 obtain⟨x,hx,e⟩:=c.wit s hs;exact⟨mv f x,cV.2 ⟨x,hx,rfl⟩,e⟩
def ahz:∀(l:ai) (s:d_),s.Nodup->(iW s l).Nodup/\ ∀a∈iW s l,a∈s\/ ∃x∈l,x.aD=true/\x.id=a:=by
 intro l
 induction l with
 |nil=>intro s h;exact⟨h,fun a ha=>.inl ha⟩
 |cons x r ih=>
  intro s h;unfold iW;split
  .rename_i hk;split
   .obtain⟨h1,h2⟩:=ih s h;refine⟨h1,fun a ha=>?_⟩;rcases h2 a ha with h3|⟨y,hy,h3⟩
    .exact .inl h3
    exact .inr ⟨y,by simp[hy],h3⟩
   rename_i hc;have hn:¬x.id∈s:=fun h=>hc (L1.2 h);obtain⟨h1,h2⟩:=ih (s++[x.id]) (by rw[EL];refine⟨h,af,fun a ha b hb e=>?_⟩;rw[lQ.1 hb] at e;exact hn (e▸ha))
   refine⟨h1,fun a ha=>?_⟩;rcases h2 a ha with h3|⟨y,hy,h3⟩
   .rcases eX.1 h3 with h3|h3
    .exact .inl h3
    exact .inr ⟨x,af,hk,(lQ.1 h3).symm⟩
   exact .inr ⟨y,by simp[hy],h3⟩
  obtain⟨h1,h2⟩:=ih s h;refine⟨h1,fun a ha=>?_⟩;rcases h2 a ha with h3|⟨y,hy,h3⟩
  .exact .inl h3
  exact .inr ⟨y,by simp[hy],h3⟩
def asB(l:ai)(hi:∀x∈l,x.aD=true->1<=x.id/\x.id<=((aq Let.aD l/2:Nat):Int)):∃f,inj f l/\xm l=l.map (eo f)/\ ∀x∈l,x.aD=true->1<=f x.id/\f x.id<=((aq Let.aD l/2:Nat):Int):=by
 obtain⟨h1,h2⟩:=ahd l [];refine⟨_,?_,h1,?_⟩
 .intro x hx y hy xk yk h;dsimp only at h;exact aep (h2 x hx xk) (h2 y hy yk) aa
 intro x hx hc;have hm:=h2 x hx (dh.1 hc);have aB:=PH.2 hm;obtain⟨n1,n2⟩:=ahz l [] xE;have hr:∀a∈iW [] l,1<=a/\a<=((aq Let.aD l/2:Nat):Int):=fun a ha=>by
  rcases n2 a ha with h3|⟨y,hy,yc,rfl⟩
  .cases h3
  exact hi y hy yc
 have:=LD ((iW [] l).map Int.toNat) (List.range' 1 (aq Let.aD l/2)) ?_ ?_
 .rw[cU,List.length_range'] at this;omega
 .refine yN.2 (List.Pairwise.imp_of_mem (fun {a b} ha hb h e=>h ?_) n1);have:=hr a ha;have:=hr b hb;omega
 intro x hx;obtain⟨id,hid,rfl⟩:=cV.1 hx;have:=hr id hid;rw[List.mem_range'_1];omega
def Cz.rotN{z:j_}{T B:Nat->Nat->Nat}{S:a_}(c:Cz F z T B S)(i:Nat):Cz F (z.drop i++z.take i) T B S:=by rw[<- mU i z] at c;exact c.ll
def ac5{z:j_}{T B:Nat->Nat->Nat}{S:a_}(c:Cz F z T B S)(h0:∀x,z[0]?=some x->x.i.b=false)(hl:z.length<=400)(fg:aq Let.aD (aT z)<=200)(hF:F<=40)(h:wE (aT z) y):cX F y=0:=by
 obtain⟨i,hi,⟨⟨x,hx,hp⟩,Kx⟩,rfl⟩:=h;obtain⟨e,he,rfl⟩:=Ef hx;have hd:e.p.d=true:=by
  obtain⟨s,hs⟩:=c.path;have hlen:0<z.length:=by have:=(aW.1 he).1;omega
  obtain⟨a,ha⟩:∃a,z[0]?=some a:=⟨z[0],rR hlen⟩;have hb:s.b=false:=by rw[<- Lf hs ha];exact h0 a ha
  have:=(UH c.ok hs hb i e he).1;have hm:=aZ he;have h2:=((c.ok e hm).pb hp).2;rw[this] at h2;have h3:dn (aT z) i=true:=by
   unfold dn;have:aq Let.aF ((aT z).take i)%2=0:=Kx
   simpa using this
  rw[h3] at h2;cases hq:e.p.d
  .rw[hq] at h2;cases h2
  rfl
 have c2:=c.rotN i;have e1:aT (z.drop i++z.take i)=eU (aT z) i:=by unfold eU aT;rw[ki,List.map_drop,Gk]
 have ec:aq Let.aD (eU (aT z) i)=aq Let.aD (aT z):=Jo _ _ _;obtain⟨f,hf,hr,jC⟩:=asB (eU (aT z) i) (fun x hx hc=>by rw[ec];obtain⟨w,hw,rfl⟩:=cV.1 (Ia.1 hx);exact c.ids w hw hc)
 rw[hr];rw[<- e1] at hf jC;have c3:=c2.rn hf (fun x hx hc=>jC _ (cV.2 ⟨x,hx,rfl⟩) hc);have A0:z.drop i=e::z.drop (i+1):=by obtain⟨hl,e⟩:=aW.1 he;rw[<- e,ur]
 rw[<- e1,<- OY];refine c3.check (x:=mv f e) (r:=(z.drop (i+1)++z.take i).map (mv f)) (by rw[A0];rfl) ?_ hd ?_ ?_ hF
 .show(eo f e.k).aF=true;rw[GA];exact hp
 .rw[cU,gJ,lD,iH];omega
 rw[OY,Qk (V8 f),e1,ec];exact fg
def apS(a b:Let):aO S 86 [KV a,KV b] (rb (qR a b)):=by
 by_cases h1:a.kind=b.kind
 .by_cases h2:a.gate=b.gate
  .by_cases h3:a.aA=b.aA
   .by_cases h4:a.id=b.id
    .cases h5:(a.over==b.over) with
     |true=>
      have e:qR a b=decide (a.sign<b.sign):=by simp only[qR,h1,h2,h3,h4,h5,Ak,if_true]
      rw[e];refine bY c86 ?_;simp only[go_sem,i86,h1,h2,h3,h4,h5,bne]
     |false=>
      have e:qR a b=b.over:=by simp only[qR,h1,h2,h3,h4,h5,Ak,if_true,dR,if_false]
      rw[e];refine bY c86 ?_;simp only[go_sem,i86,h1,h2,h3,h4,h5,bne]
    have vr:(a.id==b.id)=false:=by simp[h4]
    have e:qR a b=decide (a.id<b.id):=by simp only[qR,h1,h2,h3,vr,Ak,if_true,dR,if_false]
    rw[e];refine bY c86 ?_;simp only[go_sem,i86,h1,h2,h3,vr,bne]
   have rC:(a.aA==b.aA)=false:=by simp[h3]
   have e:qR a b=decide (a.aA<b.aA):=by simp only[qR,h1,h2,rC,Ak,if_true,dR,if_false]
   rw[e];refine bY c86 ?_;simp only[go_sem,i86,h1,h2,rC,bne]
  have ju:(a.gate==b.gate)=false:=by simp[h2]
  have e:qR a b=decide (a.gate<b.gate):=by simp only[qR,h1,ju,Ak,if_true,dR,if_false]
  rw[e];refine bY c86 ?_;simp only[go_sem,i86,h1,ju,bne]
 have jT:(a.kind==b.kind)=false:=by simp[h1]
 have e:qR a b=decide (a.kind<b.kind):=by simp only[qR,jT,dR,if_false]
 rw[e];refine bY c86 ?_;simp only[go_sem,i86,jT,bne]
def ace{A:ai}{k:Nat}(h:k<A.length):A.drop k=lA A k::A.drop (k+1):=by have:=HW h;obtain⟨h1,e⟩:=aW.1 this;rw[<- e,ur]
def akf(A B:ai)(hAB:A.length=B.length)(hl:A.length<=1000000):aO S 67 [.one (.p (dJ A)),.one (.p (dJ B))] (rb (nK A B)):=by
 generalize hr:nK A B=r;refine bY c67 ?_;simp only[go_sem,i67];refine dG (fun k ak aj=>ak 0=.one (.p (dJ A))/\ak 1=.one (.p (dJ B))/\ak 7=vi A.length/\ak 8=vi k/\nK (A.drop k) (B.drop k)=r) 0 A.length (cA _) ?_ ?_
 .simp only[go_sem];first|exact hr|exact⟨rfl,hr⟩
 rintro k ak aj hk ⟨h0,h1,h7,h8,hn⟩
 by_cases aB:k<A.length
 .have hx:=HW aB;have hy:=HW (ls:=B) (i:=k) aa;have mr:=jo hx;have hyi:=jo hy;have aP:(k:Int)<(A.length:Int):=aa;have w1:=df (n:=k) aa;have hlB:k<B.length:=aa;rw[ace aB,ace hlB] at hn;unfold nK at hn;cases he:leq (lA A k) (lA B k) with
  |true=>rw[aG he] at hn;simp only[go_sem,i67_l1,h0,h1,h7,h8,mr,hyi,Let.ps,aP,aB,w1,W2,he];exact⟨aL,hn⟩
  |false=>rw[aC (by rw[he];decide)] at hn;have pl:=apS (lA A k) (lA B k);rw[hn] at pl;simp only[go_sem,i67_l1,h0,h1,h7,h8,mr,hyi,Let.ps,aP,W2,he,s86,dA pl];first|exact⟨aL,aL,rfl⟩|exact⟨aL,aL⟩
 have:k=A.length:=aa;subst this;rw[List.drop_length,List.drop_of_length_le aa] at hn;have hn:false=r:=hn;subst hn;simp only[go_sem,i67_l1,i67_r2,h7,h8,fh]
def ahB(l:ai)(x:Let):∀s,iW s (l++[x])=if x.kind==2 then (if (iW s l).contains x.id then iW s l else iW s l++[x.id]) else iW s l:=by
 induction l with
 |nil=>intro s;rfl
 |cons a r ih=>
  intro s;rw[nY]
  conv=>lhs;unfold iW
  conv=>rhs;unfold iW
  split
  .split<;>exact ih _
  exact ih _
def nxL(s:d_)(x:Let):Let:=if x.kind==2 then (if s.contains x.id then {x with id:=((s.idxOf x.id+1:Nat):Int)} else {x with id:=((s.length+1:Nat):Int)}) else x
def ahe(l:ai)(x:Let):∀s,lZ s (l++[x])=lZ s l++[nxL (iW s l) x]:=by
 induction l with
 |nil=>
  intro s;show lZ s [x]=[nxL s x];unfold lZ nxL;split
  .split<;>rfl
  rfl
 |cons a r ih=>
  intro s;rw[nY]
  conv=>lhs;unfold lZ
  conv=>rhs;unfold lZ iW
  split
  .split<;>(rw[ih];rfl)
  rw[ih];rfl
def Ph:∀(l:ai) (s:d_),(lZ s l).length=l.length:=by
 intro l
 induction l with
 |nil=>intro s;rfl
 |cons a r ih=>
  intro s;unfold lZ;split
  .split<;>simp[ih]
  simp[ih]
def UY(l:ai):(xm l).length=l.length:=Ph l []
def zP(s:d_)(i:Nat):u_:=match s with
 |[]=>[]
 |a::r=>(a,((i+1:Nat):Int))::zP r (i+1)
def aqz:∀(s:d_) (i:Nat),(zP s i).length=s.length:=by
 intro s
 induction s with
 |nil=>intro i;rfl
 |cons a r ih=>intro i;show(zP r (i+1)).length+1=_;rw[ih];rfl
def aqy(a:Int):∀(s:d_) (i:Nat),zP s i++[(a,((i+s.length+1:Nat):Int))]=zP (s++[a]) i:=by
 intro s
 induction s with
 |nil=>intro i;rfl
 |cons b r ih=>intro i;show(b,((i+1:Nat):Int))::(zP r (i+1)++_)=(b,((i+1:Nat):Int))::zP (r++[a]) (i+1);rw[<- ih (i+1),dL,show i+1+r.length+1=i+(r.length+1)+1 by omega]
def acJ(x:Int):∀(s:d_) (i:Nat),fiM (zP s i) x i=if s.contains x then some (i+s.idxOf x,((i+s.idxOf x+1:Nat):Int)) else none:=by
 intro s
 induction s with
 |nil=>intro i;rfl
 |cons a r ih=>
  intro i;show(if x==a then some (i,((i+1:Nat):Int)) else fiM (zP r (i+1)) x (i+1))=_;by_cases h:x=a
  .subst h;simp
  have h1:(x==a)=false:=lS.2 h;have h2:(a==x)=false:=lS.2 (Ne.symm h);rw[h1,ih (i+1),List.contains_cons,h1,CO,List.idxOf_cons,h2];simp only[dR,if_false,cond_false];split
  .congr 2
   .omega
   congr 1;omega
  rfl
def tc(L:ai)(k:Nat):ai:=lZ [] (L.take k)++L.drop k
def an2(L:ai){k:Nat}:(tc L k).length=L.length:=by unfold tc;rw[gJ,Ph,iH,lD];omega
def LG{L:ai}{k:Nat}(h:L[k]?=some x):L.take (k+1)=L.take k++[x]:=by obtain⟨hl,e⟩:=aW.1 h;rw[<- e,List.take_append_getElem]
def an1{L:ai}{k:Nat}(h:L[k]?=some x):(tc L k)[k]?=some x:=by have hl:=(aW.1 h).1;unfold tc;rw[Ag (by rw[Ph,iH];omega),Ph,iH,Ah,Aj aa,Nat.sub_self,u7,h]
def an4{L:ai}{k:Nat}(h:L[k]?=some x):(tc L k).set k (nxL (iW [] (L.take k)) x)=tc L (k+1):=by
 obtain⟨hl,e⟩:=aW.1 h;have hd:L.drop k=x::L.drop (k+1):=by rw[<- e,ur]
 have hlen:(lZ [] (L.take k)).length=k:=by rw[Ph,iH];omega
 unfold tc;rw[LG h,ahe,hd,List.set_append_right _ _ aa,hlen,Nat.sub_self,List.set_cons_zero,vW];rfl
def an3{L:ai}{k:Nat}(h:L[k]?=some x)(hx:(x.kind==2)=false):tc L (k+1)=tc L k/\iW [] (L.take (k+1))=iW [] (L.take k):=by
 obtain⟨hl,e⟩:=aW.1 h;have hd:L.drop k=x::L.drop (k+1):=by rw[<- e,ur]
 refine⟨?_,?_⟩
 .unfold tc;rw[LG h,ahe,hd];unfold nxL;rw[hx];simp
 rw[LG h,ahB,hx];rfl
def asC(L:ai)(aK:L≠[])(hl:L.length<=1000000):aO S 65 [.one (.p (dJ L))] (.one (bh mN 6 (ez (xm L)))):=by
 have pcl:=abo aK hl;have lo:S.lone 4160128064=false:=ah;refine bY c65 ?_;simp only[go_sem,i65,s53];refine sX pcl lo (.inl rfl) fun cc pK gc s0=>?_;have b0:=s0 4160064000 ae;rcases gc with ⟨e,_⟩|⟨_,gg,e,hC⟩
 .exact absurd (by simpa using e) aK
 cases e;rw[cU];simp only[go_sem] at b0;simp only[go_sem];refine dG (fun k ak aj=>ak 3=.one (.kE 4160064000 1)/\ak 4=.one (.hsl 4160128064 gg 6 0 L.length)/\ak 10=.one (.hsl 4160128064 gg 6 0 L.length)/\ak 11=vi L.length/\ak 12=vi k/\
  aj 4160064000=(1,some (.map false (mkE (zP (iW [] (L.take k)) 0))))/\aj 4160128064=(gg,some (.arr mN 6 (ez (tc L k))))) 0 L.length (cA _) ?_ ?_
 .simp only[go_sem,b0];exact⟨rfl,rfl,hC⟩
 rintro k ak aj hk ⟨h3,h4,ek,gD,jA,bM,bX⟩
 by_cases aB:k<L.length
 .have aP:((k:Int)<(L.length:Int)):=aa;obtain⟨x,hxL⟩:=aN aB;have hx:=an1 hxL;have DP:k<(tc L k).length:=by rw[an2];exact aB
  have mr:=jo hx;have rI:=LG hxL;obtain⟨n1,_⟩:=ahz (L.take k) [] xE;have hsl:∀(l:ai) (s:d_),(iW s l).length<=s.length+l.length:=by
   intro l
   induction l with
   |nil=>intro s;exact cD _
   |cons a r ih=>
    intro s;unfold iW;split
    .split
     .have:=ih s;simp only[dL];omega
     have:=ih (s++[a.id]);simp only[gJ,dL,fv] at this |-;omega
    have:=ih s;simp only[dL];omega
  have hsk:=hsl (L.take k) [];rw[iH] at hsk;simp only[fv] at hsk;have w1:=df (n:=k) aa;cases jv:(x.kind==2) with
  |false=>obtain⟨e1,e2⟩:=an3 hxL jv;rw[<- e1] at bX mr DP;rw[<- e2] at bM;simp only[go_sem,i65_l1,h3,h4,ek,gD,jA,bM,bX,aB,aP,mr,Let.ps,jv,bne,w1]
  |true=>
   have iF:=an4 hxL;have FO:=ahB (L.take k) x [];rw[<- rI,jv,aG rfl] at FO;unfold nxL at iF;rw[jv,aG rfl] at iF;generalize iW [] (L.take k)=s at iF FO bM hsk;have w2:=df (n:=s.length) aa;have fk:=acQ (zP s 0) x.id 0;rw[acJ] at fk;have kY:=aqz s 0;cases hc:s.contains x.id with
   |false=>
    rw[hc] at iF FO fk;simp only[dR,if_false,yQ] at iF FO fk;have f2:=acQ (zP (s++[x.id]) 0) x.id 0;rw[acJ,show(s++[x.id]).contains x.id=true by simp] at f2;have DK:(s++[x.id]).idxOf x.id=s.length:=by rw[List.idxOf_append,aC (fun h=>by rw[L1.2 h] at hc;cases hc)];simp
    rw[DK] at f2;simp only[if_true,nE,jr] at f2;have qI:=aqy x.id s 0;rw[jr] at qI;rw[<- qI,<- afX] at f2;have Yi:(ez (tc L k)).set k [.int .i64 x.kind,.int .i64 x.gate,.int .i64 x.aA,.int .i64 ((s.length+1:Nat):Int),.int .i64 x.sign,.bool x.over]=ez (tc L (k+1)):=by rw[<- iF,<- afC];rfl
    simp only[go_sem,i65_l1,h3,h4,ek,gD,jA,bM,bX,aB,aP,mr,Let.ps,jv,bne,w1,w2,kY,mapOf,mapVal,iK,rM,sM,fk,yQ,f2,Yi];rw[FO,<- qI,<- afX]
   |true=>
    rw[hc] at iF FO fk;simp only[if_true,nE,jr] at iF FO fk;have hv:((((s.idxOf x.id+1:Nat):Int))==0)=false:=by rw[lS];omega
    have Yi:(ez (tc L k)).set k [.int .i64 x.kind,.int .i64 x.gate,.int .i64 x.aA,.int .i64 ((s.idxOf x.id+1:Nat):Int),.int .i64 x.sign,.bool x.over]=ez (tc L (k+1)):=by rw[<- iF,<- afC];rfl
    simp only[go_sem,i65_l1,h3,h4,ek,gD,jA,bM,bX,aB,aP,mr,Let.ps,jv,bne,w1,mapOf,mapVal,iK,fk,hv,Yi];rw[FO]
 have:k=L.length:=aa;subst this;have hX:tc L L.length=xm L:=by unfold tc xm;rw[lR,List.drop_length,jJ]
 rw[hX] at bX;have hlr:=UY L;simp only[go_sem,i65_l1,i65_r2,h4,gD,jA,fh];refine AT (.inr ⟨?_,gg,by rw[cU,hlr],bX⟩);intro h2;have:=congrArg List.length h2;rw[cU,hlr] at this;exact aK (Gj.1 this)
def bkP(ls:ai)(i:Nat):Bool:=((lA ls.reverse i).kind==1)&& !((kS ls).getD (ls.length-1-i) false)
def yV(ls:ai):ai:=match (List.range ls.length).find? (bkP ls) with
 |some i=>eU ls.reverse i
 |none=>ls.reverse
def Qd(ls:ai):(yV ls).length=ls.length:=by
 unfold yV;split
 .rw[yG,mT]
 rw[mT]
def aj9{ls:ai}(aK:ls≠[])(hl:ls.length<=1000000):aO S 64 [.one (.p (nL F ls))] (.one (bh mN 6 (ez (yV ls)))):=by
 have pcl:=abo aK hl;have lo:S.lone 4096064320=false:=ah;have w8:S.lone 4096512128=false:=ah;have ya:=Qd ls;generalize hR:yV ls=R at ya;refine bY c64 ?_;simp only[go_sem,i64,s53];refine sX pcl lo (.inl rfl) fun cc pK gc s0=>?_;simp only[go_sem,s85];refine ang (f:=85) (es:=ez ls) (id:=4096064320) (ty:=mN) (z:=6) (fun o h=>asI o (by simp;omega) (apY _) h) (gc.of_eq rfl) fun blkr gr hbr=>?_;rw[apX] at gr;rcases gr with ⟨e,_⟩|⟨_,gg,e,hC⟩
 .have:=congrArg List.length e;rw[cU,mT] at this;exact absurd (Gj.1 this) aK
 cases e;rw[cU,mT];simp only[go_sem];have NI:ls.reverse.length=ls.length:=mT;have zJ:IntKind.i64.wrap ((ls.length:Int)-1)=((ls.length-1:Nat):Int):=by have:=jQ.2 aK;rw[xx aa aa];omega
 have hdl:(kS ls).length=ls.length:=by simp[kS]
 unfold yV at hR;have jL:∀i,bkP ls i=(((lA ls.reverse i).kind==1)&& !((kS ls).getD (ls.length-1-i) false)):=fun _=>rfl;generalize bkP ls=bp at hR jL;generalize ls.reverse=X at hC NI gc hR jL;refine dG (fun k ak aj=>ak 0=.one (.p (nL F ls))/\ak 3=.one (.hsl 4096064320 gg 6 0 ls.length)/\ak 15=vi ls.length/\ak 16=vi k/\aj 4096064320=(gg,some (.arr mN 6 (ez X)))/\ ∀j,j<k->bp j=false) 0 ls.length (cA _) ?_ ?_
 .simp only[go_sem,hC];first|exact⟨rfl,fun j h=>absurd h (o9 j)⟩|exact⟨rfl,rfl,fun j h=>absurd h (o9 j)⟩
 rintro k ak aj hk ⟨h0,h3,lU,qH,bX,eh⟩
 by_cases aB:k<ls.length
 .have aP:((k:Int)<(ls.length:Int)):=aa;have DP:k<X.length:=aa;have mr:=jo (HW DP);have w1:=df (n:=k) aa;have w2:IntKind.i64.wrap (((ls.length-1:Nat):Int)-(k:Int))=((ls.length-1-k:Nat):Int):=by
   rw[xx aa aa];omega
  obtain⟨d,hd⟩:=aN (ls:=kS ls) (k:=ls.length-1-k) aa;have lK:=tR hd;have XG:ls.length-1-k<(kS ls).length:=aa;have kV:=jL k;rw[show(kS ls).getD (ls.length-1-k) false=d by rw[dK,hd];rfl] at kV;generalize lA X k=x at mr kV;have anC:ls.length<=X.length:=aa;have hXt:List.take ls.length (ez X)=ez X:=gT (by rw[cU];omega);have pr:=ahm X k aa aa;have nx:bp k=false->∀j,j<k+1->bp j=false:=fun hb j hj=>by
   rcases og.1 hj with h|rfl
   .exact eh j h
   exact hb
  cases jv:(x.kind==1) with
  |false=>rw[jv,Bool.false_and] at kV;simp only[go_sem,i64_l1,h0,h3,lU,qH,bX,aB,aP,mr,Let.ps,jv,zJ,w1,w2];exact nx kV
  |true=>
   cases d with
   |true=>rw[jv] at kV;simp only[go_sem,i64_l1,h0,h3,lU,qH,bX,aB,aP,mr,Let.ps,jv,zJ,w1,w2,lK];exact nx kV
   |false=>rw[jv] at kV;have hf:(List.range ls.length).find? bp=some k:=Dw aB eh kV;rw[hf] at hR;have hR:eU X k=R:=hR;unfold eU at hR;simp only[go_sem,i64_l1,h0,h3,lU,qH,bX,aB,aP,mr,Let.ps,jv,zJ,w2,lK,anC,hXt,s66];refine sX pr w8 (.inr (tP (Pj _))) fun cr je gr3 lV=>?_;rw[hR] at gr3;simp only[go_sem];exact AT gr3
 have:k=ls.length:=aa;subst this;have hf:(List.range ls.length).find? bp=none:=JP fun j hj=>eh j hj;rw[hf] at hR;have hR:X=R:=hR;subst hR;simp only[go_sem,i64_l1,i64_r2,h3,lU,qH,fh];refine AT (.inr ⟨?_,gg,by rw[cU,NI],bX⟩);intro h2;have:=congrArg List.length h2;rw[cU,NI] at this;exact aK (Gj.1 this)
def JG(l:ai)(i:Nat):Bool:=((lA l i).kind==1)&&decide (aq Let.aF (l.take i)%2=0)
def rY(l:ai)(n:Nat):x_:=(List.range n).filterMap fun i=>if JG l i then some (xm (eU l i)) else none
def amx(l:ai)(n:Nat):rY l (n+1)=rY l n++(if JG l n then [xm (eU l n)] else []):=by unfold rY;rw[yO,List.filterMap_append];congr 1;cases h:JG l n<;>simp[h]
def tD(z:Option ai)(y:ai):Option ai:=match z with
 |none=>some y
 |some z=>if nK y z then some y else some z
def w9(V:x_):Option ai:=V.foldl tD none
def aqB(V:x_)(y:ai):w9 (V++[y])=tD (w9 V) y:=by unfold w9;rw[IK];rfl
def aqC{V:x_}:∀ {o z},V.foldl tD o=some z->z∈V\/o=some z:=by
 induction V with
 |nil=>intro o z h;exact .inr h
 |cons y V ih=>
  intro o z h;rcases ih (o:=tD o y) h with h1|h1
  .exact .inl (by simp[h1])
  cases o with
  |none=>cases h1;exact .inl af
  |some w=>
   unfold tD at h1;simp only at h1;split at h1
   .cases h1;exact .inl af
   exact .inr h1
def YU{V:x_}{z:ai}(h:w9 V=some z):z∈V:=by
 rcases aqC h with h|h
 .exact h
 cases h
def cO:Option ai->PV
 |none=>.nils
 |some Y=>dJ Y
def vL(F:Nat)(ls:ai)(gB:Nat)(bs:s_)(k:Nat)(V:x_)(ak:Env)(aj:aE):Prop:=
 ak 0=.one (.p (nL F ls))/\ak 2=.one (.bt 2624000000 1 0)/\ak 17=.one (.hsl 2624128448 gB 1 0 2)/\ak 18=vi 2/\ak 19=vi k/\ak 3=.one (.p (cO (w9 V)))/\
 aj 2624000000=(1,some (.var [.p (.int .i64 0),.p .nils]))/\aj 2624128448=(gB,some (.arr 22 1 bs))
def agE(l:ai){i:Nat}(hx:l[i]?=some x):decide (aq Let.aF (l.take (i+1))%2=0)=if x.kind==1 then !decide (aq Let.aF (l.take i)%2=0) else decide (aq Let.aF (l.take i)%2=0):=by
 rw[LG hx,xO];have:aq Let.aF [x]=if x.kind==1 then 1 else 0:=by show List.countP _ [x]=_;rw[List.countP_singleton];rfl
 rw[this];generalize aq Let.aF (l.take i)=n;cases (x.kind==1)
 .simp
 simp only[if_true];rw[EG,l7,l9,decide_eq_false_iff_not];omega
def aga{F:Nat}{ls l:ai}{gB k:Nat}{bs:s_}{V:x_}{Q:eK}{ak:Env}{aj:aE}(aK:l≠[])(wP:l.length=ls.length)(hl:ls.length<=1000000)(hV:∀y∈V,y.length=ls.length)(hI:vL F ls gB bs k V ak aj)(h5:ak 5=.one (.p (dJ l)))(h6:ak 6=vb true)(pP:ak 23=.one (.p (dJ l)))(mK:ak 24=vi ls.length)(ng:ak 25=vi 0)
  (hK:∀aH ao,vL F ls gB bs k (V++rY l ls.length) aH ao->Q .normal aH ao):W S .all (.loop i41_l1) (rV 2 Q) ak aj:=by
 refine dG (fun i ak aj=>vL F ls gB bs k (V++rY l i) ak aj/\ak 5=.one (.p (dJ l))/\ak 6=vb (decide (aq Let.aF (l.take i)%2=0))/\ak 23=.one (.p (dJ l))/\ak 24=vi ls.length/\ak 25=vi i) 0 ls.length (cA _) ⟨by rw[show rY l 0=[] from rfl,jJ];exact hI,h5,h6,pP,mK,ng⟩ ?_;rintro i ak aj hi ⟨⟨h0,h2,iw,gE,gV,h3,b0,bB⟩,h5,h6,pP,mK,ng⟩
 by_cases aB:i<ls.length
 .have aP:((i:Int)<(ls.length:Int)):=aa;have Ks:i<l.length:=aa;have wX:=HW Ks;have mr:=jo wX;have zH:=agE l wX;have te:=amx l i;unfold JG at te;have mj:∀y∈V++rY l i,y.length=ls.length:=fun y hy=>by
   rcases eX.1 hy with h|h
   .exact hV y h
   obtain⟨j,_,e⟩:=List.mem_filterMap.1 h;split at e
   .cases e;rw[UY,yG,wP]
   cases e
  generalize lA l i=x at mr zH te;generalize decide (aq Let.aF (l.take i)%2=0)=d at zH te h6;generalize rY l i=W0 at*;have w1:=df (n:=i) aa;have pr:=ahm l i aa aa;have NI:(eU l i).length=ls.length:=by rw[yG,wP]
  rw[show l.drop i++l.take i=eU l i from rfl] at pr;generalize eU l i=R at pr NI te;have TL:R≠[]:=jQ.1 aa;have pn:=asC R TL aa;have hY:=UY R;generalize xm R=Y at pn hY te;have Xv:Y≠[]:=jQ.1 aa;have qk:S.lone 2624704128=true:=YK ah;have w8:S.lone 2624704192=true:=YK ah;cases dp:(x.kind==1) with
  |false=>rw[dp] at zH te;simp only[Bool.false_and,dR,if_false,jJ] at zH te;simp only[go_sem,i41_l1,h5,h6,pP,mK,ng,aB,aP,mr,Let.ps,dp,bne,w1];simp only[go_sem,vL,te,zH,h0,h2,h3,iw,gE,gV,b0,bB]
  |true=>
   rw[dp] at zH te;cases d with
   |false=>simp only[CQ,dR,if_false,if_true,jJ,Gi] at zH te;simp only[go_sem,i41_l1,h5,h6,pP,mK,ng,aB,aP,mr,Let.ps,dp,bne,w1];simp only[go_sem,vL,te,zH,h0,h2,h3,iw,gE,gV,b0,bB]
   |true=>
    simp only[CQ,if_true,Ad] at zH te;have nO:w9 (V++(W0++[Y]))=tD (w9 (V++W0)) Y:=by rw[<- vW,aqB]
    cases hz:w9 (V++W0) with
    |none=>rw[hz] at nO h3;have nO:w9 (V++(W0++[Y]))=some Y:=nO;have h3:ak 3=.one (.p .nils):=h3;simp only[go_sem,i41_l1,h3,h5,h6,pP,mK,ng,aB,aP,mr,Let.ps,dp,bne,w1,s66,aY pr (HX TL qk),s65,aY pn (HX Xv w8)];simp only[go_sem,vL,te,zH,nO,cO,h0,h2,h3,iw,gE,gV,b0,bB]
    |some Z=>
     rw[hz] at nO h3;have hZ:=mj Z (YU hz);have h3:ak 3=.one (.p (dJ Z)):=h3;have pb:=akf Y Z aa aa;obtain⟨e,es,he⟩:∃e es,ez Z=e::es:=by
      cases Z with
      |nil=>simp at hZ;omega
      |cons z t=>exact⟨_,_,rfl⟩
     have hZe:PV.sl (e::es)=dJ Z:=by rw[<- he]
     rw[<- hZe] at pb h3;unfold tD at nO;simp only at nO;cases hb:nK Y Z with
     |false=>rw[hb] at pb nO;simp only[dR,if_false] at nO;simp only[go_sem,i41_l1,h3,h5,h6,pP,mK,ng,aB,aP,mr,Let.ps,dp,bne,w1,s66,aY pr (HX TL qk),s65,aY pn (HX Xv w8),s67,aJ pb];simp only[go_sem,vL,te,zH,nO,cO,hZe,h0,h2,h3,iw,gE,gV,b0,bB]
     |true=>rw[hb] at pb nO;simp only[if_true] at nO;simp only[go_sem,i41_l1,h3,h5,h6,pP,mK,ng,aB,aP,mr,Let.ps,dp,bne,w1,s66,aY pr (HX TL qk),s65,aY pn (HX Xv w8),s67,aJ pb];simp only[go_sem,vL,te,zH,nO,cO,h0,h2,h3,iw,gE,gV,b0,bB]
 have:i=ls.length:=aa;subst this;simp only[go_sem,i41_l1,mK,ng,fh];refine hK _ _ ?_;simp only[go_sem,vL,h0,h2,h3,iw,gE,gV,b0,bB]
def GM(ls:ai):x_:=rY ls ls.length++rY (yV ls) ls.length
def j4(ls:ai):Option ai:=w9 (GM ls)
def W5{l:ai}{n:Nat}(h:y∈rY l n):y.length=l.length:=by
 obtain⟨j,_,e⟩:=List.mem_filterMap.1 h;split at e
 .cases e;rw[UY,yG]
 cases e
def aqN{ls:ai}(aK:ls≠[])(hl:ls.length<=1000000):aO S 41 [.one (.p (nL F ls))] (.agg [.p (.int .i64 F),.p (cO (j4 ls))]):=by
 have pb:=aj9 (F:=F) aK hl;have hB:=Qd ls;generalize hr:j4 ls=res;unfold j4 GM at hr;generalize yV ls=B at pb hB hr;have adC:B≠[]:=by have:=jQ.2 aK;exact jQ.1 aa
 have qk:S.lone 2624128384=true:=YK ah;refine bY c41 ?_;simp only[go_sem,i41,s64,GR pb (HX adC qk)];refine⟨aL,?_⟩;refine dG (fun k=>vL F ls 1 [[dJ ls],[dJ B]] k (if k=0 then [] else if k=1 then rY ls ls.length else rY ls ls.length++rY B ls.length)) 0 2 (cA _) ?_ ?_
 .simp only[go_sem,vL];first|done|exact⟨rfl,rfl⟩|exact⟨rfl,rfl,rfl⟩|exact⟨rfl,rfl,rfl,rfl,rfl,rfl,rfl,rfl⟩|rfl
 intro k ak aj hk hI;obtain⟨h0,h2,iw,gE,gV,h3,b0,bB⟩:=hI;by_cases aB:k<2
 .have XO:k=0\/k=1:=aa;have l02:((0:Nat):Int)<2:=ae;have l12:((1:Nat):Int)<2:=ae;rcases XO with rfl|rfl
  .simp only[go_sem,i41_l3,iw,gE,gV,bB,l02];refine aga (F:=F) (ls:=ls) (l:=ls) (gB:=1) (k:=0) (bs:=[[dJ ls],[dJ B]]) (V:=[]) aK rfl hl (fun y h=>by cases h) ?_ rfl rfl rfl rfl rfl fun aH ao Kb=>?_
   .simp only[go_sem,vL,h0,h2,h3,iw,gE,gV,b0,bB];first|done|rfl
   obtain⟨h0,h2,iw,gE,gV,h3,b0,bB⟩:=Kb;rw[gR] at h3;simp only[go_sem,vL,i41_r2,h0,h2,h3,iw,gE,gV,b0,bB];first|done|rfl|exact⟨rfl,rfl⟩
  simp only[go_sem,i41_l3,iw,gE,gV,bB,l12];refine aga (F:=F) (ls:=ls) (l:=B) (gB:=1) (k:=1) (bs:=[[dJ ls],[dJ B]]) (V:=rY ls ls.length) adC hB hl (fun y h=>W5 h) ?_ rfl rfl rfl (by rw[<- hB];rfl) rfl fun aH ao Kb=>?_
  .simp only[go_sem,vL,h0,h2,h3,iw,gE,gV,b0,bB];first|done|rfl
  obtain⟨h0,h2,iw,gE,gV,h3,b0,bB⟩:=Kb;simp only[go_sem,vL,i41_r2,h0,h2,h3,iw,gE,gV,b0,bB];first|done|rfl|exact⟨rfl,rfl⟩
 have:k=2:=aa;subst this;have l22:¬(((2:Nat):Int)<2):=ae;have h3:ak 3=.one (.p (cO res)):=by rw[<- hr];exact h3
 simp only[go_sem,i41_l3,i41_r4,h0,h2,h3,gE,gV,b0,l22];cases res<;>rfl
def agl(cK:sP){f:Int}{ls:ai}(hl:ls.length<=1000000)(h0:cX f ls=0):aO S 21 [fe f ls] (.tup [.agg [.p (.int .i64 f),.p (cO (j4 ls))],.one (.p (.int .i64 0))]):=by
 have pr:=UU f ls hl;rw[Pg h0] at pr;have pn:aO S 41 [.one (.p (if ls=[] then AM f else nL f.toNat ls))] (.agg [.p (.int .i64 f),.p (cO (j4 ls))]):=by
  by_cases aK:ls=[]
  .rw[aG aK];subst aK;exact aqM cK f
  rw[aC aK];obtain⟨F,hF,g⟩:=pM h0 aK;subst hF;exact aqN (F:=F) aK hl
 have fD:(if ls=[] then AM f else nL f.toNat ls).norm=(if ls=[] then AM f else nL f.toNat ls):=by split<;>simp only[Za]
 generalize (if ls=[] then AM f else nL f.toNat ls)=dg at pr pn fD;generalize cO (j4 ls)=c at*;refine bY c21 ?_;simp only[go_sem,i21,s40,aY pr bK,s41,aY pn apw,fD];rfl
def aqg:∀ {A B:d_},A.length=B.length->yz A B=false->yz B A=false->A=B:=by
 intro A
 induction A with
 |nil=>intro B h _ _;cases B with
  |nil=>rfl
  |cons _ _=>cases h
 |cons a A ih=>
  intro B h h1 h2;cases B with
  |nil=>cases h
  |cons b B=>
   unfold yz at h1 h2;by_cases e:a=b
   .subst e;rw[aG rfl] at h1 h2;rw[ih (by simpa using h) h1 h2]
   rw[aC e] at h1;rw[aC (Ne.symm e)] at h2;have:=ie h1;have:=ie h2;omega
def apr{a b:Let}(h:KP a=KP b):a=b:=by
 cases a with|mk k g r i s o=>cases b with|mk k' g' r' i' s' o'=>
 unfold KP at h;simp only[Ae,and_true] at h;obtain⟨h1,h2,h3,h4,h5,h6⟩:=h;have:o=o':=by revert h5;cases o<;>cases o'<;>simp
 subst h1 h2 h3 h4 h6 this;rfl
def aa1:∀ {A B:ai},A.length=B.length->nK A B=false->nK B A=false->A=B:=by
 intro A
 induction A with
 |nil=>intro B h _ _;cases B with
  |nil=>rfl
  |cons _ _=>cases h
 |cons a A ih=>
  intro B h h1 h2;cases B with
  |nil=>cases h
  |cons b B=>
   unfold nK at h1 h2;by_cases e:a=b
   .subst e;rw[aG (H0 a)] at h1 h2;rw[ih (by simpa using h) h1 h2]
   have e1:¬leq a b=true:=fun x=>e ((KU _ _).1 x);have e2:¬leq b a=true:=fun x=>e ((KU _ _).1 x).symm;rw[aC e1,Uq] at h1;rw[aC e2,Uq] at h2;exact absurd (apr (a:=a) (b:=b) (aqg rfl h1 h2)) e
def aqD{n:Nat}:∀ {V:x_} {o z},(∀y∈V,y.length=n)->(∀w,o=some w->w.length=n)->V.foldl tD o=some z->(∀y∈V,nK y z=false)/\(∀w,o=some w->nK w z=false):=by
 intro V
 induction V with
 |nil=>intro o z _ _ h;refine⟨fun y hy=>(by cases hy),fun w hw=>?_⟩;have h:o=some z:=h;rw[h] at hw;cases hw;exact akd z
 |cons y V ih=>
  intro o z hV ho h;have hy0:=hV y af;have hV':∀u∈V,u.length=n:=fun u hu=>hV u (by simp[hu]);cases o with
  |none=>
   obtain⟨h1,h2⟩:=ih (o:=some y) hV' (fun w hw=>by cases hw;exact hy0) h;refine⟨fun w hw=>?_,fun w hw=>(by cases hw)⟩;rcases ch.1 hw with rfl|hw
   .exact h2 w rfl
   exact h1 w hw
  |some w=>
   have zJ:=ho w rfl;have h:V.foldl tD (tD (some w) y)=some z:=h;cases hb:nK y w with
   |true=>
    have e:tD (some w) y=some y:=by unfold tD;simp only[hb,if_true]
    rw[e] at h;obtain⟨h1,h2⟩:=ih (o:=some y) hV' (fun w hw=>by cases hw;exact hy0) h;have hy:=h2 y rfl;refine⟨fun u hu=>?_,fun u hu=>?_⟩
    .rcases ch.1 hu with rfl|hu
     .exact hy
     exact h1 u hu
    cases hu;cases hz:nK w z
    .rfl
    rw[aa2 hb hz] at hy;cases hy
   |false=>
    have e:tD (some w) y=some w:=by unfold tD;simp only[hb,dR,if_false]
    rw[e] at h;obtain⟨h1,h2⟩:=ih (o:=some w) hV' (fun w hw=>by cases hw;exact zJ) h;have hw:=h2 w rfl;refine⟨fun u hu=>?_,fun u hu=>by cases hu;exact hw⟩;rcases ch.1 hu with rfl|hu
    .cases hz:nK u z
     .rfl
     cases hwu:nK w u with
     |true=>rw[aa2 hwu hz] at hw;cases hw
     |false=>rw[aa1 aa hb hwu] at hz;rw[hz] at hw;cases hw
    exact h1 u hu
def YV{n:Nat}{V:x_}{z:ai}(hV:∀y∈V,y.length=n)(h:w9 V=some z):z∈V/\ ∀y∈V,nK y z=false:=
 ⟨YU h,(aqD hV (fun w hw=>by cases hw) h).1⟩
def YW{V:x_}(h:V≠[]):∃z,w9 V=some z:=by
 have key:∀(V:x_) (w:ai),∃z,V.foldl tD (some w)=some z:=by
  intro V
  induction V with
  |nil=>intro w;exact⟨w,rfl⟩
  |cons y V ih=>
   intro w;show ∃z,V.foldl tD (tD (some w) y)=some z;unfold tD;simp only;split
   .exact ih y
   exact ih w
 cases V with
 |nil=>exact absurd rfl h
 |cons y V=>exact key V y
def aqA{n:Nat}{V W:x_}(hV:∀y∈V,y.length=n)(NJ:∀y,y∈V↔y∈W):w9 V=w9 W:=by
 have hW:∀y∈W,y.length=n:=fun y hy=>hV y ((NJ y).2 hy);by_cases hv:V=[]
 .have hw:W=[]:=by
   cases W with
   |nil=>rfl
   |cons y W=>have:=(NJ y).2 af;rw[hv] at this;cases this
  rw[hv,hw]
 have hw:W≠[]:=fun e=>by
  cases V with
  |nil=>exact hv rfl
  |cons y V=>have:=(NJ y).1 af;rw[e] at this;cases this
 obtain⟨z,hz⟩:=YW hv;obtain⟨u,hu⟩:=YW hw;obtain⟨z1,z2⟩:=YV hV hz;obtain⟨u1,u2⟩:=YV hW hu;have:=aa1 ((hV z z1).trans (hW u u1).symm) (u2 z ((NJ z).1 z1)) (z2 u ((NJ u).2 u1));rw[hz,hu,this]
def acr{l:ai}{i:Nat}(hi:i<l.length):JG l i=true↔Fk l i:=by
 have h:=HW hi;unfold JG Fk par;rw[cJ,l9];constructor
 .rintro ⟨h1,h2⟩
  exact⟨⟨_,h,h1⟩,h2⟩
 rintro ⟨⟨x,hx,hp⟩,h2⟩
 rw[h] at hx;cases hx;exact⟨hp,h2⟩
def acD{l:ai}:y∈rY l l.length↔wE l y:=by
 unfold rY wE;rw[List.mem_filterMap];constructor
 .rintro ⟨i,hi,e⟩
  have hi:=iv.1 hi;split at e
  .rename_i hb;cases e;exact⟨i,hi,(acr hi).1 hb,rfl⟩
  cases e
 rintro ⟨i,hi,he,rfl⟩
 exact⟨i,iv.2 hi,by rw[aG ((acr hi).2 he)]⟩
def aj7{ls:ai}(he:aq Let.aF ls%2=0):∃j,j<=ls.length/\par ls.reverse j/\yV ls=eU ls.reverse j:=by
 unfold yV;split
 .rename_i i hf;have hi:=iv.1 (IL hf);have hb:=L3 hf;unfold bkP at hb;rw[cJ] at hb;obtain⟨h1,h2⟩:=hb;refine⟨i,aa,?_,rfl⟩;obtain⟨x,hx⟩:=aN (ls:=ls) (k:=ls.length-1-i) aa;have hxr:ls.reverse[i]?=some x:=by rw[List.getElem?_reverse aa];exact hx
  rw[afo hxr] at h1;have hd:(kS ls).getD (ls.length-1-i) false=dn ls (ls.length-1-i):=by unfold kS;rw[dK,gk,tM aa];show eW ls (ls.length-1-i)=_;unfold eW;rw[hx];show(x.aF&&_)=_;rw[show x.aF=true from h1,CQ]
  rw[hd] at h2;unfold dn at h2;unfold par;rw[List.take_reverse,vj];have e1:aq Let.aF ls=aq Let.aF (ls.take (ls.length-i))+aq Let.aF (ls.drop (ls.length-i)):=by rw[<- xO,mU]
  have e2:=agE ls hx;rw[show ls.length-1-i+1=ls.length-i by omega,h1,aG rfl] at e2;have h3:¬aq Let.aF (ls.take (ls.length-1-i))%2=0:=by intro h;rw[h] at h2;cases h2
  rw[xG h3] at e2;have h4:aq Let.aF (ls.take (ls.length-i))%2=0:=qA e2;omega
 refine⟨0,cA _,rfl,?_⟩;unfold eU;simp
def aq7{l:ai}(hj:j<=l.length)(he:aq Let.aF l%2=0)(hp:par l j):par (eU l j) (l.length-j)/\eU (eU l j) (l.length-j)=l:=by
 have hd:(l.drop j).length=l.length-j:=lD;have e1:aq Let.aF l=aq Let.aF (l.take j)+aq Let.aF (l.drop j):=by rw[<- xO,mU]
 unfold par at*;unfold eU;rw[<- hd,List.take_left,List.drop_left,mU];exact⟨aa,rfl⟩
def Xg{l:ai}(hj:j<=l.length)(he:aq Let.aF l%2=0)(hp:par l j):wE (eU l j) y↔wE l y:=by refine⟨ac4 hj he hp,fun h=>?_⟩;obtain⟨h1,h2⟩:=aq7 hj he hp;refine ac4 (l:=eU l j) (j:=l.length-j) (by rw[yG];omega) (by rw[Jo];exact he) h1 ?_;rw[h2];exact h
def amh{f:Int->Int}{l:ai}{i:Nat}(h:Fk l i):Fk (l.map (eo f)) i:=by obtain⟨⟨x,hx,hp⟩,h2⟩:=h;refine⟨⟨eo f x,by rw[gk,hx];rfl,by rw[GA];exact hp⟩,?_⟩;unfold par at*;rw[<- Gk,Ql];exact h2
def ac3{f:Int->Int}{l:ai}(hf:inj f l):wE (l.map (eo f)) y↔wE l y:=by
 refine⟨amY hf,?_⟩;rintro ⟨i,hi,he,rfl⟩
 refine⟨i,by rw[cU];exact hi,amh he,?_⟩;rw[ahj,ahf (Yr hf fun x hx=>Ia.1 hx)]
def lI(a b:ai):Prop:=a.length=b.length/\aq Let.aF a%2=aq Let.aF b%2/\ ∀y,xS a y↔xS b y
def lI.refl(a:ai):lI a a:=⟨rfl,rfl,fun _=>Iff.rfl⟩
def lI.symm{a b:ai}(h:lI a b):lI b a:=⟨h.1.symm,h.2.1.symm,fun y=>(h.2.2 y).symm⟩
def lI.trans{a b c:ai}(h:lI a b)(k:lI b c):lI a c:=⟨h.1.trans k.1,h.2.1.trans k.2.1,fun y=>(h.2.2 y).trans (k.2.2 y)⟩
def Tu{l:ai}(hj:j<=l.length)(he:aq Let.aF l%2=0)(hp:par l j):lI (eU l j) l:=by refine⟨yG _ _,by rw[Jo],fun y=>?_⟩;unfold xS;rw[Xg hj he hp,asK l hj,Xg (by rw[mT];omega) (by rw[vj];exact he) (aq8 hj he hp)]
def acC{l:ai}:lI l.reverse l:=by refine⟨mT,by rw[vj],fun y=>?_⟩;unfold xS;rw[List.reverse_reverse];exact Or.comm
def W3{f:Int->Int}{l:ai}(hf:inj f l):lI (l.map (eo f)) l:=by refine⟨cU ..,by rw[Ql],fun y=>?_⟩;unfold xS;rw[ac3 hf,<- List.map_reverse,ac3 (Yr hf fun x hx=>List.mem_reverse.1 hx)]
def amw(l:ai):lI (xm l) l:=by obtain⟨f,hf,e⟩:=Zw l;rw[e];exact W3 hf
def acB{l:ai}(he:aq Let.aF l%2=0)(h:xS l y):lI y l:=by
 have key:∀m,aq Let.aF m%2=0->wE m y->lI y m:=fun m hm h=>by obtain⟨j,hj,⟨_,hp⟩,rfl⟩:=h;exact(amw _).trans (Tu aa hm hp)
 rcases h with h|h
 .exact key l he h
 exact(key l.reverse (by rw[vj];exact he) h).trans acC
def Mu{l:ai}(he:aq Let.aF l%2=0):y∈GM l↔xS l y:=by
 obtain⟨j,hj,hp,e⟩:=aj7 he;unfold GM xS;have hl:rY (yV l) l.length=rY (yV l) (yV l).length:=by rw[Qd]
 rw[eX,hl,acD,acD,e,Xg (by rw[mT];exact hj) (by rw[vj];exact he) hp]
def Wo{l:ai}(h:y∈GM l):y.length=l.length:=by
 unfold GM at h;rcases eX.1 h with h|h
 .exact W5 h
 rw[W5 h,Qd]
def aqL{a b:ai}(he:aq Let.aF a%2=0)(h:lI a b):j4 a=j4 b:=by obtain⟨h1,h2,h3⟩:=h;refine aqA (n:=a.length) (fun y hy=>Wo hy) fun y=>?_;rw[Mu he,Mu aa];exact h3 y
section
variable {F:Nat} {ls:ai}
def cE.isP0(g:cE F ls):Fk ls 0:=by obtain⟨l,h1,h2⟩:=g.first;exact⟨⟨l,h1,h2⟩,rfl⟩
def dd(ls:ai):ai:=(j4 ls).getD []
def cE.sB(g:cE F ls):j4 ls=some (dd ls)/\xS ls (dd ls)/\ ∀y,xS ls y->nK y (dd ls)=false:=by
 have he:=g.even;have h0:xS ls (xm (eU ls 0)):=.inl ⟨0,jQ.2 g.ne,g.isP0,rfl⟩;have hc:GM ls≠[]:=fun e=>by have:=(Mu he).2 h0;rw[e] at this;cases this
 obtain⟨z,hz⟩:=YW hc;obtain⟨z1,z2⟩:=YV (fun y hy=>Wo hy) hz;have hn:j4 ls=some z:=hz;have e:dd ls=z:=by unfold dd;rw[hn];rfl
 rw[e];exact⟨hn,(Mu he).1 z1,fun y hy=>z2 y ((Mu he).2 hy)⟩
def cE.form(g:cE F ls)(h:xS ls y):cX (F:Int) y=0:=by
 have c:=g.cz;have hl:(zF ls).length<=400:=by rw[LZ];exact g.len
 have hc:aq Let.aD (aT (zF ls))<=200:=by rw[mA];exact g.cr
 have h0:∀x,(zF ls)[0]?=some x->x.i.b=false:=fun x hx=>by have hn:0<ls.length:=jQ.2 g.ne;rw[Gh hn] at hx;cases hx;rw[Yq g hn];rfl
 rcases h with h|h
 .exact ac5 c h0 hl hc g.fing (by rw[mA];exact h)
 refine ac5 c.rv ?_ (by rw[cU,mT];exact hl) (by rw[KX,vj];exact hc) g.fing (by rw[KX,mA];exact h);intro x hx;rw[gk] at hx;have hn:0<ls.length:=jQ.2 g.ne;rw[List.getElem?_reverse (by rw[LZ];exact hn),LZ,Gh aa] at hx;cases hx;show(eE ls (ls.length-1-0)).o.b=false;show(!dn ls (ls.length-1-0+1))=false;rw[show ls.length-1-0+1=ls.length by omega,ab7 g];rfl
end
def ago(ls:ai):(dd ls).length<=ls.length:=by
 unfold dd;cases h:j4 ls with
 |none=>exact cA _
 |some z=>have:=Wo (YU h);show z.length<=_;omega
def Wm(o:Option ai):(cO o).norm=dJ (o.getD []):=by
 cases o with
 |none=>rfl
 |some Y=>rfl
def fi(F:Nat)(ls:ai)(m:aV):Option ai:=
 if ls=[] then if dr F [] m.k m.a m.b m.c m.l m.o m.s=true then some (circ m.b.toNat) else none
 else if dr F ls m.k m.a m.b m.c m.l m.o m.s=true then match qU F ls m.k m.a.toNat m.b.toNat m.c.toNat m.l m.o m.s with
  |none=>none
  |some M=>if (400:Int)<(ls.length:Int)+(mJ m.k).1\/(100:Int)<((aq Let.aD ls/2:Nat):Int)+(mJ m.k).2 then none else some (dT M)
 else none
def asO{L:ai}{e:Int}(he:e≠0):l5 F L≠sE e:=fun h=>by unfold l5 sE at h;simp only[RV.tup.injEq,Ae,RV.one.injEq,RC.p.injEq,PV.int.injEq,and_true,true_and] at h;exact he h.2.symm
def rO(F:Nat):ai->h_->Option ai
 |ls,[]=>some ls
 |ls,m::ms=>match fi F ls m with
  |none=>none
  |some L=>rO F L ms
def ahh{ls L:ai}{ms:h_}(m:aV)(h:rO F ls ms=some L):rO F ls (ms++[m])=fi F L m:=by
 induction ms generalizing ls with
 |nil=>have e:ls=L:=pz h;rw[<- e];show(match fi F ls m with|none=>none|some L=>some L)=_;cases fi F ls m<;>rfl
 |cons a r ih=>
  show(match fi F ls a with|none=>none|some L=>rO F L (r++[m]))=_;have h:(match fi F ls a with|none=>none|some L=>rO F L r)=some L:=h;cases ha:fi F ls a with
  |none=>rw[ha] at h;cases h
  |some K=>rw[ha] at h;exact ih h
def yC{ls:ai}(h:cX (F:Int) ls=0):cX (F:Int) (dd ls)=0:=by
 by_cases aK:ls=[]
 .subst aK;exact h
 obtain⟨G,e,g⟩:=pM h aK;have:F=G:=aa;subst this;exact g.form g.sB.2.1
def My{f:Int}{L:ai}(h:cX f L=0):L.length<=400:=by
 by_cases aK:L=[]
 .subst aK;exact cA _
 obtain⟨G,_,g⟩:=pM h aK;exact g.len
end
end Go.Abs
