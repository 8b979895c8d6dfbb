/-
  The forms of a code are valid codes.
-/
import Derived.Test.YtjdfokaegjgddaaGreatDoorUe
set_option linter.all false
set_option maxRecDepth 100000
set_option maxHeartbeats 16000000
namespace Go.Abs
section
variable{F j:Nat}{x:Let}{ls y:List Let}
theorem nu(x y:Let):leq x y=true↔x=y:=by
 constructor
 .intro h;unfold leq at h;simp only[aaf,beq_iff_eq] at h;obtain⟨h1,h2,h3,h4,h5,h6⟩:=h;cases x;cases y
  simp_all
 rintro rfl;exact lO x
def mN(a b:Let):Bool:=if a.kind==b.kind then if a.gate==b.gate then if a.Yb==b.Yb then if a.id==b.id then if a.over==b.over then decide (a.sign<b.sign) else b.over else decide (a.id<b.id) else decide (a.Yb<b.Yb) else decide (a.gate<b.gate) else decide (a.kind<b.kind)
def L3:List Int->List Int->Bool
 |a::A,b::B=>if a=b then L3 A B else decide (a<b)
 |_,_=>false
theorem SA:∀ {A B:List Int},L3 A B=true->L3 B A=false:=by
 intro A
 induction A with
 |nil=>intro B h;cases B<;>cases h
 |cons a A ih=>
  intro B h;cases B with
  |nil=>cases h
  |cons b B=>
   unfold L3 at h ⊢;by_cases e:a=b
   .subst e;rw[if_pos rfl] at h ⊢;exact ih h
   rw[if_neg e] at h;rw[if_neg (Ne.symm e)];have:=of_decide_eq_true h;exact decide_eq_false (by omega)
theorem L1:∀ {A B D:List Int},L3 A B=true->L3 B D=true->L3 A D=true:=by
 intro A
 induction A with
 |nil=>intro B D h;cases B<;>cases h
 |cons a A ih=>
  intro B D h h';cases B with
  |nil=>cases h
  |cons b B=>
   cases D with
   |nil=>cases h'
   |cons d D=>
    unfold L3 at h h' ⊢;by_cases e:a=b
    .subst e;rw[if_pos rfl] at h;by_cases e':a=d
     .subst e';rw[if_pos rfl] at h' ⊢;exact ih h h'
     rw[if_neg e'] at h' ⊢;exact h'
    rw[if_neg e] at h;have h1:=of_decide_eq_true h;by_cases e':b=d
    .subst e';rw[if_neg e];exact h
    rw[if_neg e'] at h';have h2:=of_decide_eq_true h';rw[if_neg (by omega)];exact decide_eq_true (by omega)
def Md(a:Let):List Int:=[a.kind,a.gate,a.Yb,a.id,if a.over then 1 else 0,a.sign]
theorem ui(a b:Let):mN a b=L3 (Md a) (Md b):=by
 cases a with|mk k g r i s o=>cases b with|mk k' g' r' i' s' o'=>
 unfold mN Md;simp only[L3];by_cases h1:k=k'
 .by_cases h2:g=g'
  .by_cases h3:r=r'
   .by_cases h4:i=i'
    .cases o<;>cases o'<;>by_cases h6:s=s'<;>simp[h1,h2,h3,h4,h6]
    simp[h1,h2,h3,h4]
   simp[h1,h2,h3]
  simp[h1,h2]
 simp[h1]
theorem OO{a b:Let}(h:mN a b=true):mN b a=false:=by rw[ui] at*;exact SA h
theorem HY{a b c:Let}(h1:mN a b=true)(h2:mN b c=true):mN a c=true:=by rw[ui] at*;exact L1 h1 h2
def kZ:List Let->List Let->Bool
 |a::A,b::B=>if leq a b then kZ A B else mN a b
 |_,_=>false
theorem Qu(A:List Let):kZ A A=false:=by
 induction A with
 |nil=>rfl
 |cons a A ih=>unfold kZ;rw[if_pos (lO a)];exact ih
theorem Ai:∀ {A B D:List Let},kZ A B=true->kZ B D=true->kZ A D=true:=by
 intro A
 induction A with
 |nil=>intro B D h;cases B<;>cases h
 |cons a A ih=>
  intro B D h h';cases B with
  |nil=>cases h
  |cons b B=>
   cases D with
   |nil=>cases h'
   |cons d D=>
    unfold kZ at h h' ⊢;by_cases e:a=b
    .subst e;rw[if_pos (lO a)] at h;by_cases e':a=d
     .subst e';rw[if_pos (lO a)] at h' ⊢;exact ih h h'
     have e1:¬leq a d=true:=fun x=>e' ((nu _ _).1 x);rw[if_neg e1] at h' ⊢;exact h'
    have e1:¬leq a b=true:=fun x=>e ((nu _ _).1 x);rw[if_neg e1] at h;by_cases e':b=d
    .subst e';rw[if_neg e1];exact h
    have e2:¬leq b d=true:=fun x=>e' ((nu _ _).1 x);rw[if_neg e2] at h';have e3:¬leq a d=true:=fun x=>by have:=(nu _ _).1 x;subst this;rw[OO h] at h';cases h'
    rw[if_neg e3];exact HY h h'
def eX(l:List Let)(i:Nat):List Let:=l.drop i++l.take i
def par(l:List Let)(i:Nat):Prop:=ao Let.aA (l.take i)%2=0
def UF(l:List Let)(i:Nat):Prop:=(∃x,l[i]?=some x/\x.aA=true)/\par l i
theorem lI(l:List Let)(i:Nat):(eX l i).length=l.length:=by unfold eX;rw[aaF,aa1,aay];omega
theorem jp(q:Let->Bool)(a b:List Let):ao q (a++b)=ao q a+ao q b:=abF
theorem DO(q:Let->Bool)(l:List Let)(i:Nat):ao q (eX l i)=ao q l:=by unfold eX;rw[jp,Nat.add_comm,<- jp,aa2]
theorem RZ{l:List Let}{i:Nat}(hj:j<=l.length)(hi:i<l.length):∃k,k<l.length/\eX (eX l j) i=eX l k/\(eX l j)[i]?=l[k]? /\(ao Let.aA l%2=0->par l j->par (eX l j) i->par l k):=by
 by_cases h:i<l.length-j
 .refine⟨j+i,by omega,?_,?_,?_⟩
  .unfold eX;rw[List.drop_append_of_le_length (by rw[aa1];omega),adW (by rw[aa1];omega),List.drop_drop,abx];congr 1;rw[<- List.take_add]
  .unfold eX;rw[acw (by rw[aa1];omega),acA]
  unfold par eX;intro _ h1 h2;rw[adW (by rw[aa1];omega)] at h2;rw[List.take_add,jp];omega
 refine⟨i-(l.length-j),by omega,?_,?_,?_⟩
 .unfold eX;obtain⟨d,hd⟩:∃d,d=i-(l.length-j):=⟨_,rfl⟩;rw[<- hd];have e1:(l.drop j++l.take j).drop i=(l.take j).drop d:=by
   rw[List.drop_append,List.drop_of_length_le (by rw[aa1];omega),aaE,aa1,hd]
  have e2:(l.drop j++l.take j).take i=l.drop j++(l.take j).take d:=by rw[List.take_append,aaD (by rw[aa1];omega),aa1,hd]
  rw[e1,e2,<- abx];have e3:(l.take j).take d=l.take d:=by rw[adm,ab0 (by omega)]
  rw[e3];congr 1;have e4:l.drop d=(l.take j).drop d++l.drop j:=by
   conv=>lhs;rw[<- aa2 j l]
   rw[List.drop_append_of_le_length (by rw[aay];omega)]
  exact e4.symm
 .unfold eX;rw[acz (by rw[aa1];omega),aa1,aa3];rw[if_pos (by omega)]
 unfold par eX;intro ht h1 h2;rw[List.take_append,aaD (by rw[aa1];omega),aa1,jp,adm,ab0 (by omega)] at h2;have:ao Let.aA l=ao Let.aA (l.take j)+ao Let.aA (l.drop j):=by rw[<- jp,aa2]
 omega
def jv:List Int->List Let->List Let
 |_,[]=>[]
 |s,x::r=>if x.kind==2 then (if s.contains x.id then {x with id:=((s.idxOf x.id+1:Nat):Int)}::jv s r else {x with id:=((s.length+1:Nat):Int)}::jv (s++[x.id]) r) else x::jv s r
def JE(l:List Let):List Let:=jv [] l
def fc(f:Int->Int)(x:Let):Let:=if x.kind==2 then {x with id:=f x.id} else x
theorem Cp(f:Int->Int)(x:Let):(fc f x).kind=x.kind:=by unfold fc;split<;>rfl
theorem l8(f:Int->Int)(x:Let):(fc f x).aA=x.aA:=by unfold Let.aA;rw[Cp]
def inj(f:Int->Int)(l:List Let):Prop:=∀x∈l,∀y∈l,x.kind=2->y.kind=2->f x.id=f y.id->x.id=y.id
theorem R3{f:Int->Int}:∀ {l:List Let} {s:List Int},(∀x∈l,x.kind=2->∀a∈s,f x.id=f a->x.id=a)->inj f l->jv (s.map f) (l.map (fc f))=jv s l:=by
 intro l
 induction l with
 |nil=>intro s _ _;rfl
 |cons x r ih=>
  intro s hs hi;have hi':inj f r:=fun a ha b hb=>hi a (abv _ ha) b (abv _ hb);by_cases hk:x.kind=2
  .have hk':(x.kind==2)=true:=by rw[hk];rfl
   have e:fc f x={x with id:=f x.id}:=if_pos hk';have inc:(s.map f).contains (f x.id)=s.contains x.id:=by
    rw[Bool.eq_iff_iff,adV,adV,aan];constructor
    .rintro ⟨a,ha,h⟩
     rw[hs x (by simp) hk a ha h.symm];exact ha
    intro h;exact⟨x.id,h,rfl⟩
   rw[aar,e];unfold jv;simp only[hk',if_true,inc];cases hc:s.contains x.id with
   |true=>
    simp only[if_true];have hix:(s.map f).idxOf (f x.id)=s.idxOf x.id:=by
     clear ih;have hsx:∀a∈s,f x.id=f a->x.id=a:=hs x (by simp) hk;clear hs inc hc
     induction s with
     |nil=>rfl
     |cons a s ihs=>
      rw[aar,List.idxOf_cons,List.idxOf_cons];by_cases h:a=x.id
      .subst h;simp
      have h2:¬f a=f x.id:=fun h3=>h (hsx a (by simp) h3.symm).symm;rw[show(f a==f x.id)=false from beq_eq_false_iff_ne.2 h2,show(a==x.id)=false from beq_eq_false_iff_ne.2 h];simp only[cond_false];rw[ihs fun b hb=>hsx b (by simp[hb])]
    rw[hix,ih (fun y hy=>hs y (abv _ hy)) hi']
   |false=>
    simp only[aaq,if_false,aah];have:=ih (s:=s++[x.id]) (fun y hy hyk a ha h=>by
     rcases aaw.1 ha with h1|h1
     .exact hs y (abv _ hy) hyk a h1 h
     rw[abm.1 h1] at h ⊢;exact hi y (abv _ hy) x (by simp) hyk hk h) hi'
    rw[aaN] at this;rw[<- this];rfl
  have hk':(x.kind==2)=false:=beq_eq_false_iff_ne.2 hk;have e:fc f x=x:=if_neg (by rw[hk'];decide);rw[aar,e];unfold jv;simp only[hk',aaq,if_false];rw[ih (fun y hy=>hs y (abv _ hy)) hi']
theorem Of{f:Int->Int}{l:List Let}(h:inj f l):JE (l.map (fc f))=JE l:=R3 (s:=[]) (fun _ _ _ _ ha=>by cases ha) h
def dG:List Int->List Let->List Int
 |s,[]=>s
 |s,x::r=>if x.kind==2 then (if s.contains x.id then dG s r else dG (s++[x.id]) r) else dG s r
theorem Bh:∀(l:List Let) (s:List Int),∃t,dG s l=s++t:=by
 intro l
 induction l with
 |nil=>intro s;exact⟨[],by simp[dG]⟩
 |cons x r ih=>
  intro s;unfold dG;split
  .split
   .exact ih s
   obtain⟨t,h⟩:=ih (s++[x.id]);exact⟨x.id::t,by rw[h];simp⟩
  exact ih s
theorem JZ{s t:List Int}{a:Int}(h:a∈s):(s++t).idxOf a=s.idxOf a:=by rw[List.idxOf_append,if_pos h]
theorem JD:∀(l:List Let) (s:List Int),jv s l=l.map (fc fun a=>(((dG s l).idxOf a+1:Nat):Int))/\ ∀x∈l,x.kind=2->x.id∈dG s l:=by
 intro l
 induction l with
 |nil=>intro s;exact⟨rfl,fun x h=>by cases h⟩
 |cons x r ih=>
  intro s;by_cases hk:x.kind=2
  .have hk':(x.kind==2)=true:=by rw[hk];rfl
   cases hc:s.contains x.id with
   |true=>
    have hm:x.id∈s:=adV.1 hc;have e:dG s (x::r)=dG s r:=by simp only[dG,hk',hc,if_true]
    obtain⟨h1,h2⟩:=ih s;obtain⟨t,ht⟩:=Bh r s;refine⟨?_,?_⟩
    .have e0:jv s (x::r)={x with id:=((s.idxOf x.id+1:Nat):Int)}::jv s r:=by simp only[jv,hk',hc,if_true]
     rw[e,e0,aar,h1];congr 1;unfold fc;rw[if_pos hk',ht];dsimp only;rw[JZ hm]
    rw[e];intro y hy hyk;rcases aag.1 hy with rfl|hy
    .rw[ht];exact List.mem_append_left _ hm
    exact h2 y hy hyk
   |false=>
    have e:dG s (x::r)=dG (s++[x.id]) r:=by simp only[dG,hk',hc,if_true,aaq,if_false]
    obtain⟨h1,h2⟩:=ih (s++[x.id]);obtain⟨t,ht⟩:=Bh r (s++[x.id]);have hn:¬x.id∈s:=fun h=>by rw[adV.2 h] at hc;cases hc
    refine⟨?_,?_⟩
    .have e0:jv s (x::r)={x with id:=((s.length+1:Nat):Int)}::jv (s++[x.id]) r:=by simp only[jv,hk',hc,if_true,aaq,if_false]
     rw[e,e0,aar,h1];congr 1;unfold fc;rw[if_pos hk',ht];dsimp only;rw[JZ (by simp),List.idxOf_append,if_neg hn];simp
    rw[e];intro y hy hyk;rcases aag.1 hy with rfl|hy
    .rw[ht];simp
    exact h2 y hy hyk
  have hk':(x.kind==2)=false:=beq_eq_false_iff_ne.2 hk;have e:dG s (x::r)=dG s r:=by simp only[dG,hk',aaq,if_false]
  obtain⟨h1,h2⟩:=ih s;refine⟨?_,?_⟩
  .have e0:jv s (x::r)=x::jv s r:=by simp only[jv,hk',aaq,if_false]
   rw[e,e0,aar,h1];rw[show fc (fun a=>(((dG s r).idxOf a+1:Nat):Int)) x=x from if_neg (by rw[hk'];decide)]
  rw[e];intro y hy hyk;rcases aag.1 hy with rfl|hy
  .exact absurd hyk hk
  exact h2 y hy hyk
theorem Ka{S:List Int}{a b:Int}(ha:a∈S)(hb:b∈S)(h:S.idxOf a=S.idxOf b):a=b:=by have h1:=List.getElem_idxOf (adT.2 ha);have h2:=List.getElem_idxOf (adT.2 hb);rw[<- h1,<- h2];simp only[h]
theorem Vi(l:List Let):∃f,inj f l/\JE l=l.map (fc f):=by obtain⟨h1,h2⟩:=JD l [];refine⟨_,?_,h1⟩;intro x hx y hy xk yk h;dsimp only at h;exact Ka (h2 x hx xk) (h2 y hy yk) (by omega)
theorem Dx{f:Int->Int}{l m:List Let}(h:inj f l)(hm:∀x∈m,x∈l):inj f m:=fun x hx y hy=>h x (hm x hx) y (hm y hy)
theorem EW(f:Let->Let)(l:List Let)(i:Nat):eX (l.map f) i=(eX l i).map f:=by unfold eX;simp
theorem yW{l:List Let}{i:Nat}:x∈eX l i↔x∈l:=by unfold eX;rw[aaw,Or.comm,<- aaw,aa2]
def uB(l y:List Let):Prop:= ∃i,i<l.length/\UF l i/\y=JE (eX l i)
def pK(l y:List Let):Prop:=uB l y\/uB l.reverse y
theorem DP{f:Int->Int}(l:List Let):ao Let.aA (l.map (fc f))=ao Let.aA l:=by show List.countP _ _=List.countP _ _;rw[adh];exact adM fun x _=>by rw[Function.comp_apply,l8]
theorem S7{f:Int->Int}{l:List Let}{i:Nat}(h:UF (l.map (fc f)) i):UF l i:=by
 obtain⟨⟨x,hx,hp⟩,h2⟩:=h;rw[aaz] at hx;cases hl:l[i]? with
 |none=>rw[hl] at hx;cases hx
 |some y=>rw[hl] at hx;cases hx;refine⟨⟨y,hl,by rw[l8] at hp;exact hp⟩,?_⟩;unfold par at*;rw[<- acy,DP] at h2;exact h2
theorem PD{f:Int->Int}{l:List Let}(hf:inj f l)(h:uB (l.map (fc f)) y):uB l y:=by obtain⟨i,hi,he,rfl⟩:=h;rw[aah] at hi;refine⟨i,hi,S7 he,?_⟩;rw[EW,Of (Dx hf fun x hx=>yW.1 hx)]
theorem F4{l:List Let}(hj:j<=l.length)(he:ao Let.aA l%2=0)(hp:par l j)(h:uB (eX l j) y):uB l y:=by obtain⟨i,hi,⟨⟨x,hx,xp⟩,h2⟩,rfl⟩:=h;rw[lI] at hi;obtain⟨k,hk,e1,e2,e3⟩:=RZ hj hi;rw[e2] at hx;exact⟨k,hk,⟨⟨x,hx,xp⟩,e3 he hp h2⟩,by rw[e1]⟩
theorem R2(l:List Let)(hj:j<=l.length):(eX l j).reverse=eX l.reverse (l.length-j):=by unfold eX;rw[List.reverse_append,List.drop_reverse,List.take_reverse];congr 2<;>(congr 1;omega)
theorem Se{l:List Let}(hj:j<=l.length)(he:ao Let.aA l%2=0)(hp:par l j):par l.reverse (l.length-j):=by
 unfold par at*;rw[List.take_reverse,show l.length-(l.length-j)=j by omega];have h1:ao Let.aA (l.drop j).reverse=ao Let.aA (l.drop j):=List.countP_reverse;have h2:ao Let.aA l=ao Let.aA (l.take j)+ao Let.aA (l.drop j):=by rw[<- jp,aa2]
 rw[h1];omega
def Jz(x:aM):aM:=⟨⟨x.p.l,!x.p.d⟩,mZ x.o,mZ x.i⟩
theorem N4(x:aM):(Jz x).up=x.up:=by unfold aM.up Jz;cases x.p.d<;>rfl
theorem N5(x:aM):(Jz x).lo=x.lo:=by unfold aM.lo Jz;cases x.p.d<;>rfl
theorem X4.rv{g:Bool}{i o j q:gC}(h:X4 g i o j q):X4 g (mZ o) (mZ i) (mZ q) (mZ j):=by
 obtain⟨a,b,c,d⟩:=h;cases g
 .simp only[aaq,if_false] at a b c d;constructor<;>simp only[aaq,if_false,mZ]
  .exact b
  .exact a
  .exact d
  exact c
 simp only[if_true] at a b c d;constructor<;>simp only[if_true,mZ]
 .exact b
 .exact a
 .exact d
 exact c
theorem Xr.rv{x y:aM}(h:Xr x y):Xr (Jz x) (Jz y):=fun hc mc e=>by obtain⟨h1,h2,h3⟩:=h hc mc e;exact⟨h1,h2,h3.rv⟩
theorem Sc:∀ {z:List aM} {s t:gC},dq s z t->dq (mZ t) (z.reverse.map Jz) (mZ s):=by
 intro z
 induction z with
 |nil=>intro s t h;cases h;rfl
 |cons x z ih=>intro s t h;obtain⟨rfl,h⟩:=h;rw[List.reverse_cons,aaN];exact fL.2 ⟨mZ x.o,ih h,rfl,rfl⟩
theorem Sd:∀ {z:List aM} {s t:gC},dq s z t->∀x∈z,(∃y∈z,y.i=x.o)\/x.o=t:=by
 intro z
 induction z with
 |nil=>intro s t _ x hx;cases hx
 |cons a z ih=>
  intro s t h x hx;obtain⟨rfl,h⟩:=h;rcases aag.1 hx with rfl|hx
  .cases z with
   |nil=>exact .inr h
   |cons b z=>exact .inl ⟨b,by simp,h.1⟩
  rcases ih h x hx with ⟨y,hy,e⟩|e
  .exact .inl ⟨y,by simp[hy],e⟩
  exact .inr e
theorem Cz.next{z:List aM}{T B:Nat->Nat->Nat}{S:List Nat}(c:Cz F z T B S){x:aM}(hx:x∈z):∃y∈z,y.i=x.o:=by
 obtain⟨s,h⟩:=c.path;rcases Sd h x hx with e|e
 .exact e
 cases z with
 |nil=>cases hx
 |cons a z=>exact⟨a,by simp,by rw[h.1,e]⟩
theorem u9(z:List aM):be (z.reverse.map Jz)=(be z).reverse:=by rw[<- List.map_reverse];show List.map _ (List.map _ _)=_;rw[abq];rfl
theorem jo(q:Let->Bool)(l:List Let):ao q l.reverse=ao q l:=List.countP_reverse
theorem Cz.rv{z:List aM}{T B:Nat->Nat->Nat}{S:List Nat}(c:Cz F z T B S):Cz F (z.reverse.map Jz) T B S:=by
 obtain⟨s,h⟩:=c.path;have hm:∀x∈z.reverse.map Jz,∃y∈z,x=Jz y:=fun x hx=>by obtain⟨y,hy,rfl⟩:=aan.1 hx;exact⟨y,List.mem_reverse.1 hy,rfl⟩
 have ec:∀g,cg (be (z.reverse.map Jz)) g=cg (be z) g:=fun g=>by rw[u9];exact jo _ _
 refine⟨⟨_,Sc h⟩,fun x hx=>?_,?_,by rw[u9,jo];exact c.ev,fun x hx hc=>?_,?_,fun x hx hp=>?_,fun x hx hp=>?_,fun g hg=>by rw[ec];exact c.gt g hg,by rw[ec];exact c.gz,?_,c.nd,fun s hs=>?_,by rw[u9,jo,jo];exact c.num⟩
 .obtain⟨y,hy,rfl⟩:=hm x hx;obtain⟨o1,o2,o3⟩:=c.ok y hy;refine⟨o1,fun hc=>(o2 hc).symm,fun hp=>?_⟩;obtain⟨p1,p2⟩:=o3 hp;refine⟨p2,?_⟩;show y.o.b= !(!y.p.d);rw[p1,Bool.not_not]
 .refine acu.2 (List.pairwise_reverse.2 (c.cr.imp fun {a b} Zv=>Zv.symm.rv))
 .obtain⟨y,hy,rfl⟩:=hm x hx;rw[u9,jo];exact c.ids y hy hc
 .refine acu.2 (List.pairwise_reverse.2 (c.rk.imp fun {a b} Zv=>Zv.symm))
 .obtain⟨y,hy,rfl⟩:=hm x hx;rw[ec];exact c.rr y hy hp
 .obtain⟨y,hy,rfl⟩:=hm x hx;obtain⟨a,b,d,e⟩:=c.pl y hy hp;exact⟨by rw[N4];exact a,by rw[N4];exact b,by rw[N5];exact d,by rw[N5];exact e⟩
 .obtain⟨x,hx,hp⟩:=c.one;exact⟨Jz x,aan.2 ⟨x,List.mem_reverse.2 hx,rfl⟩,hp⟩
 obtain⟨x,hx,e⟩:=c.wit s hs;obtain⟨y,hy,e2⟩:=c.next hx;refine⟨Jz y,aan.2 ⟨y,List.mem_reverse.2 hy,rfl⟩,?_⟩;show s=y.i.r\/s=y.i.l;rw[e2];exact e.symm
def uV(f:Int->Int)(x:aM):aM:=⟨⟨fc f x.p.l,x.p.d⟩,x.i,x.o⟩
theorem nU(f:Int->Int)(x:Let):(fc f x).gate=x.gate:=by unfold fc;split<;>rfl
theorem rZ(f:Int->Int)(x:Let):(fc f x).Yb=x.Yb:=by unfold fc;split<;>rfl
theorem vL(f:Int->Int)(x:Let):(fc f x).sign=x.sign:=by unfold fc;split<;>rfl
theorem vM(f:Int->Int)(x:Let):(fc f x).over=x.over:=by unfold fc;split<;>rfl
theorem An(f:Int->Int)(x:Let):(fc f x).aw=x.aw:=by unfold Let.aw;rw[Cp]
theorem Ec{f:Int->Int}(h:x.aw=true):(fc f x).id=f x.id:=by unfold fc;rw[if_pos (show(x.kind==2)=true from h)]
theorem Wg{f:Int->Int}(h:x.aw=false):fc f x=x:=by unfold fc;exact if_neg (by rw[show(x.kind==2)=false from h];decide)
theorem Tu{f:Int->Int}(h:cF F x=false):cF F (fc f x)=false:=by
 cases hc:x.aw
 .rw[Wg hc];exact h
 have:fc f x={x with id:=f x.id}:=if_pos hc;rw[this];rcases gR h with hp|_
 .rw[dz hp] at hc;cases hc
 unfold cF at h ⊢;unfold Let.aw at hc;have hk:x.kind=2:=beq_iff_eq.1 hc
 simpa [hk] using h
theorem yY(f:Int->Int)(z:List aM):be (z.map (uV f))=(be z).map (fc f):=by show List.map _ (List.map _ _)=List.map _ (List.map _ _);rw[abq,abq];rfl
theorem DQ{f:Int->Int}{q:Let->Bool}(hq:∀x,q (fc f x)=q x)(l:List Let):ao q (l.map (fc f))=ao q l:=by show List.countP _ _=List.countP _ _;rw[adh];exact adM fun x _=>by rw[Function.comp_apply,hq]
theorem XO(f:Int->Int)(l:List Let)(g:Nat):cg (l.map (fc f)) g=cg l g:=DQ (fun x=>by unfold vG;rw[l8,nU]) l
theorem Cz.rn{z:List aM}{T B:Nat->Nat->Nat}{S:List Nat}(c:Cz F z T B S){f:Int->Int}(hf:inj f (be z))(hi:∀x∈z,x.k.aw=true->1<=f x.k.id/\f x.k.id<=((ao Let.aw (be z)/2:Nat):Int)):Cz F (z.map (uV f)) T B S:=by
 obtain⟨s,h⟩:=c.path;have hm:∀x∈z.map (uV f),∃y∈z,x=uV f y:=fun x hx=>by obtain⟨y,hy,rfl⟩:=aan.1 hx;exact⟨y,hy,rfl⟩
 have ec:∀g,cg (be (z.map (uV f))) g=cg (be z) g:=fun g=>by rw[yY,XO]
 have eC:ao Let.aw (be (z.map (uV f)))=ao Let.aw (be z):=by rw[yY];exact DQ (An f) _
 have eP:ao Let.aA (be (z.map (uV f)))=ao Let.aA (be z):=by rw[yY];exact DQ (l8 f) _
 have kC:∀y:aM,(uV f y).k.aw=y.k.aw:=fun y=>An f y.k;have kP:∀y:aM,(uV f y).k.aA=y.k.aA:=fun y=>l8 f y.k;have kl:∀y∈z,y.k∈be z:=fun y hy=>aan.2 ⟨y,hy,rfl⟩;have aer:∀ {z:List aM} {s t:gC},dq s z t->dq s (z.map (uV f)) t:=by
  intro z
  induction z with
  |nil=>intro s t h;exact h
  |cons x z ih=>intro s t h;exact⟨h.1,ih h.2⟩
 refine⟨⟨s,aer h⟩,fun x hx=>?_,?_,by rw[eC];exact c.ev,fun x hx hc=>?_,?_,fun x hx hp=>?_,fun x hx hp=>?_,fun g hg=>by rw[ec];exact c.gt g hg,by rw[ec];exact c.gz,?_,c.nd,fun s hs=>?_,by rw[eP,eC];exact c.num⟩
 .obtain⟨y,hy,rfl⟩:=hm x hx;obtain⟨o1,o2,o3⟩:=c.ok y hy;exact⟨Tu o1,fun hc=>o2 (by rw[kC] at hc;exact hc),fun hp=>o3 (by rw[kP] at hp;exact hp)⟩
 .refine acu.2 (List.Pairwise.imp_of_mem (fun {a b} ha hb Zv=>?_) c.cr);intro ac bc e;rw[kC] at ac bc;have e2:f a.k.id=f b.k.id:=by
   have:=e;rw[show(uV f a).k.id=f a.k.id from Ec ac,show(uV f b).k.id=f b.k.id from Ec bc] at this;exact this
  obtain⟨h1,h2,h3⟩:=Zv ac bc (hf _ (kl a ha) _ (kl b hb) (beq_iff_eq.1 ac) (beq_iff_eq.1 bc) e2);refine⟨?_,?_,?_⟩
  .show(fc f a.k).over= !(fc f b.k).over;rw[vM,vM];exact h1
  .show(fc f a.k).sign=(fc f b.k).sign;rw[vL,vL];exact h2
  show X4 (gX (fc f a.k)) _ _ _ _;have:gX (fc f a.k)=gX a.k:=by unfold gX;rw[vM,vL]
  rw[this];exact h3
 .obtain⟨y,hy,rfl⟩:=hm x hx;rw[kC] at hc;rw[eC,show(uV f y).k.id=f y.k.id from Ec hc];exact hi y hy hc
 .refine acu.2 (c.rk.imp fun {a b} Zv=>?_);intro ap bp e1 e2;rw[kP] at ap bp;refine Zv ap bp ?_ ?_
  .have:=e1;rw[show(uV f a).k.gate=a.k.gate from nU f a.k,show(uV f b).k.gate=b.k.gate from nU f b.k] at this;exact this
  have:=e2;rw[show(uV f a).k.Yb=a.k.Yb from rZ f a.k,show(uV f b).k.Yb=b.k.Yb from rZ f b.k] at this;exact this
 .obtain⟨y,hy,rfl⟩:=hm x hx;rw[kP] at hp;rw[ec,show(uV f y).k.Yb=y.k.Yb from rZ f y.k,show(uV f y).k.gate=y.k.gate from nU f y.k];exact c.rr y hy hp
 .obtain⟨y,hy,rfl⟩:=hm x hx;rw[kP] at hp;obtain⟨a,b,d,e⟩:=c.pl y hy hp;have u:(uV f y).up=y.up:=rfl;have w:(uV f y).lo=y.lo:=rfl;have eg:(uV f y).k.gate=y.k.gate:=nU f y.k;have er:(uV f y).k.Yb=y.k.Yb:=rZ f y.k;exact⟨by rw[u,eg,er];exact a,by rw[u,eg,er];exact b,by rw[w,eg,er];exact d,by rw[w,eg,er];exact e⟩
 .obtain⟨x,hx,hp⟩:=c.one;exact⟨uV f x,aan.2 ⟨x,hx,rfl⟩,by rw[kP];exact hp⟩
 obtain⟨x,hx,e⟩:=c.wit s hs;exact⟨uV f x,aan.2 ⟨x,hx,rfl⟩,e⟩
theorem Bi:∀(l:List Let) (s:List Int),s.Nodup->(dG s l).Nodup/\ ∀a∈dG s l,a∈s\/ ∃x∈l,x.aw=true/\x.id=a:=by
 intro l
 induction l with
 |nil=>intro s h;exact⟨h,fun a ha=>.inl ha⟩
 |cons x r ih=>
  intro s h;unfold dG;split
  .rename_i hk;split
   .obtain⟨h1,h2⟩:=ih s h;refine⟨h1,fun a ha=>?_⟩;rcases h2 a ha with h3|⟨y,hy,h3⟩
    .exact .inl h3
    exact .inr ⟨y,by simp[hy],h3⟩
   rename_i hc;have hn:¬x.id∈s:=fun h=>hc (adV.2 h);obtain⟨h1,h2⟩:=ih (s++[x.id]) (by rw[adc];refine⟨h,by simp,fun a ha b hb e=>?_⟩;rw[abm.1 hb] at e;exact hn (e▸ha))
   refine⟨h1,fun a ha=>?_⟩;rcases h2 a ha with h3|⟨y,hy,h3⟩
   .rcases aaw.1 h3 with h3|h3
    .exact .inl h3
    exact .inr ⟨x,by simp,hk,(abm.1 h3).symm⟩
   exact .inr ⟨y,by simp[hy],h3⟩
  obtain⟨h1,h2⟩:=ih s h;refine⟨h1,fun a ha=>?_⟩;rcases h2 a ha with h3|⟨y,hy,h3⟩
  .exact .inl h3
  exact .inr ⟨y,by simp[hy],h3⟩
theorem Vj(l:List Let)(hi:∀x∈l,x.aw=true->1<=x.id/\x.id<=((ao Let.aw l/2:Nat):Int)):∃f,inj f l/\JE l=l.map (fc f)/\ ∀x∈l,x.aw=true->1<=f x.id/\f x.id<=((ao Let.aw l/2:Nat):Int):=by
 obtain⟨h1,h2⟩:=JD l [];refine⟨_,?_,h1,?_⟩
 .intro x hx y hy xk yk h;dsimp only at h;exact Ka (h2 x hx xk) (h2 y hy yk) (by omega)
 intro x hx hc;have hm:=h2 x hx (beq_iff_eq.1 hc);have Ye:=adT.2 hm;obtain⟨n1,n2⟩:=Bi l [] abr;have hr:∀a∈dG [] l,1<=a/\a<=((ao Let.aw l/2:Nat):Int):=fun a ha=>by
  rcases n2 a ha with h3|⟨y,hy,yc,rfl⟩
  .cases h3
  exact hi y hy yc
 have:=rh ((dG [] l).map Int.toNat) (List.range' 1 (ao Let.aw l/2)) ?_ ?_
 .rw[aah,List.length_range'] at this;omega
 .refine acu.2 (List.Pairwise.imp_of_mem (fun {a b} ha hb h e=>h ?_) n1);have:=hr a ha;have:=hr b hb;omega
 intro x hx;obtain⟨id,hid,rfl⟩:=aan.1 hx;have:=hr id hid;rw[List.mem_range'_1];omega
theorem Cz.rotN{z:List aM}{T B:Nat->Nat->Nat}{S:List Nat}(c:Cz F z T B S)(i:Nat):Cz F (z.drop i++z.take i) T B S:=by rw[<- aa2 i z] at c;exact c.t6
theorem zx{z:List aM}{T B:Nat->Nat->Nat}{S:List Nat}(c:Cz F z T B S)(h0:∀x,z[0]?=some x->x.i.b=false)(hl:z.length<=400)(YV:ao Let.aw (be z)<=200)(hF:F<=40)(h:uB (be z) y):aO F y=0:=by
 obtain⟨i,hi,⟨⟨x,hx,hp⟩,aes⟩,rfl⟩:=h;obtain⟨e,he,rfl⟩:=oI hx;have hd:e.p.d=true:=by
  obtain⟨s,hs⟩:=c.path;have hlen:0<z.length:=by have:=(aac.1 he).1;omega
  obtain⟨a,ha⟩:∃a,z[0]?=some a:=⟨z[0],abC hlen⟩;have hb:s.b=false:=by rw[<- nk hs ha];exact h0 a ha
  have:=(Dg c.ok hs hb i e he).1;have hm:=aab he;have h2:=((c.ok e hm).pb hp).2;rw[this] at h2;have h3:dn (be z) i=true:=by
   unfold dn;have:ao Let.aA ((be z).take i)%2=0:=aes
   simpa using this
  rw[h3] at h2;cases hq:e.p.d
  .rw[hq] at h2;cases h2
  rfl
 have c2:=c.rotN i;have e1:be (z.drop i++z.take i)=eX (be z) i:=by unfold eX be;rw[aaN,ac2,acy]
 have ec:ao Let.aw (eX (be z) i)=ao Let.aw (be z):=DO _ _ _;obtain⟨f,hf,hr,hin⟩:=Vj (eX (be z) i) (fun x hx hc=>by rw[ec];obtain⟨w,hw,rfl⟩:=aan.1 (yW.1 hx);exact c.ids w hw hc)
 rw[hr];rw[<- e1] at hf hin;have c3:=c2.rn hf (fun x hx hc=>hin _ (aan.2 ⟨x,hx,rfl⟩) hc);have hdr:z.drop i=e::z.drop (i+1):=by obtain⟨hl,e⟩:=aac.1 he;rw[<- e,abH]
 rw[<- e1,<- yY];refine c3.check (x:=uV f e) (r:=(z.drop (i+1)++z.take i).map (uV f)) (by rw[hdr];rfl) ?_ hd ?_ ?_ hF
 .show(fc f e.k).aA=true;rw[l8];exact hp
 .rw[aah,aaF,aa1,aay];omega
 rw[yY,DQ (An f),e1,ec];exact YV
theorem Vz(a b:Let):bz S 71 [OU a,OU b] (rb (mN a b)):=by
 by_cases h1:a.kind=b.kind
 .by_cases h2:a.gate=b.gate
  .by_cases h3:a.Yb=b.Yb
   .by_cases h4:a.id=b.id
    .cases h5:(a.over==b.over) with
     |true=>
      have e:mN a b=decide (a.sign<b.sign):=by simp only[mN,h1,h2,h3,h4,h5,beq_self_eq_true,if_true]
      rw[e];refine aP c71 ?_;simp only[go_sem,i71,h1,h2,h3,h4,h5,bne]
     |false=>
      have e:mN a b=b.over:=by simp only[mN,h1,h2,h3,h4,h5,beq_self_eq_true,if_true,aaq,if_false]
      rw[e];refine aP c71 ?_;simp only[go_sem,i71,h1,h2,h3,h4,h5,bne]
    have h4':(a.id==b.id)=false:=by simp[h4]
    have e:mN a b=decide (a.id<b.id):=by simp only[mN,h1,h2,h3,h4',beq_self_eq_true,if_true,aaq,if_false]
    rw[e];refine aP c71 ?_;simp only[go_sem,i71,h1,h2,h3,h4',bne]
   have h3':(a.Yb==b.Yb)=false:=by simp[h3]
   have e:mN a b=decide (a.Yb<b.Yb):=by simp only[mN,h1,h2,h3',beq_self_eq_true,if_true,aaq,if_false]
   rw[e];refine aP c71 ?_;simp only[go_sem,i71,h1,h2,h3',bne]
  have ZQ:(a.gate==b.gate)=false:=by simp[h2]
  have e:mN a b=decide (a.gate<b.gate):=by simp only[mN,h1,ZQ,beq_self_eq_true,if_true,aaq,if_false]
  rw[e];refine aP c71 ?_;simp only[go_sem,i71,h1,ZQ,bne]
 have Z7:(a.kind==b.kind)=false:=by simp[h1]
 have e:mN a b=decide (a.kind<b.kind):=by simp only[mN,Z7,aaq,if_false]
 rw[e];refine aP c71 ?_;simp only[go_sem,i71,Z7,bne]
theorem Kt{A:List Let}{k:Nat}(h:k<A.length):A.drop k=lA A k::A.drop (k+1):=by have:=sD h;obtain⟨h1,e⟩:=aac.1 this;rw[<- e,abH]
theorem Qt(A B:List Let)(hAB:A.length=B.length)(hl:A.length<=1000000):bz S 45 [.one (.p (kL A)),.one (.p (kL B))] (rb (kZ A B)):=by
 generalize hr:kZ A B=r;refine aP c45 ?_;simp only[go_sem,i45];refine bm (fun k env X9=>env 0=.one (.p (kL A))/\env 1=.one (.p (kL B))/\env 7=vi A.length/\env 8=vi k/\kZ (A.drop k) (B.drop k)=r) 0 A.length (aae _) ?_ ?_
 .simp only[go_sem];first|exact hr|exact⟨rfl,hr⟩
 rintro k env X9 hk ⟨h0,h1,h7,h8,hn⟩
 by_cases Ye:k<A.length
 .have hx:=sD Ye;have hy:=sD (ls:=B) (i:=k) (by omega);have hxi:=ef hx;have hyi:=ef hy;have Yf:(k:Int)<(A.length:Int):=by omega
  have w1:=ah (n:=k) (by omega);have hlB:k<B.length:=by omega
  rw[Kt Ye,Kt hlB] at hn;unfold kZ at hn;cases he:leq (lA A k) (lA B k) with
  |true=>rw[if_pos he] at hn;simp only[go_sem,i45_l1,h0,h1,h7,h8,hxi,hyi,Let.ps,Yf,Ye,w1,DH,he];exact⟨aH,hn⟩
  |false=>rw[if_neg (by rw[he];decide)] at hn;have pl:=Vz (lA A k) (lA B k);rw[hn] at pl;simp only[go_sem,i45_l1,h0,h1,h7,h8,hxi,hyi,Let.ps,Yf,DH,he,s71,dF pl];first|exact⟨aH,aH,rfl⟩|exact⟨aH,aH⟩
 have:k=A.length:=by omega
 subst this;rw[List.drop_length,List.drop_of_length_le (by omega)] at hn;have hn:false=r:=hn;subst hn;simp only[go_sem,i45_l1,i45_r2,h7,h8,aW]
theorem yw(l:List Let)(x:Let):∀s,dG s (l++[x])=if x.kind==2 then (if (dG s l).contains x.id then dG s l else dG s l++[x.id]) else dG s l:=by
 induction l with
 |nil=>intro s;rfl
 |cons a r ih=>
  intro s;rw[ac3]
  conv=>lhs;unfold dG
  conv=>rhs;unfold dG
  split
  .split<;>exact ih _
  exact ih _
def Wx(s:List Int)(x:Let):Let:=if x.kind==2 then (if s.contains x.id then {x with id:=((s.idxOf x.id+1:Nat):Int)} else {x with id:=((s.length+1:Nat):Int)}) else x
theorem Bm(l:List Let)(x:Let):∀s,jv s (l++[x])=jv s l++[Wx (dG s l) x]:=by
 induction l with
 |nil=>
  intro s;show jv s [x]=[Wx s x];unfold jv Wx;split
  .split<;>rfl
  rfl
 |cons a r ih=>
  intro s;rw[ac3]
  conv=>lhs;unfold jv
  conv=>rhs;unfold jv dG
  split
  .split<;>(rw[ih];rfl)
  rw[ih];rfl
theorem qw:∀(l:List Let) (s:List Int),(jv s l).length=l.length:=by
 intro l
 induction l with
 |nil=>intro s;rfl
 |cons a r ih=>
  intro s;unfold jv;split
  .split<;>simp[ih]
  simp[ih]
theorem xh(l:List Let):(JE l).length=l.length:=qw l []
def M7(s:List Int)(i:Nat):List (Int×Int):=match s with
 |[]=>[]
 |a::r=>(a,((i+1:Nat):Int))::M7 r (i+1)
theorem Su:∀(s:List Int) (i:Nat),(M7 s i).length=s.length:=by
 intro s
 induction s with
 |nil=>intro i;rfl
 |cons a r ih=>intro i;show(M7 r (i+1)).length+1=_;rw[ih];rfl
theorem Sv(a:Int):∀(s:List Int) (i:Nat),M7 s i++[(a,((i+s.length+1:Nat):Int))]=M7 (s++[a]) i:=by
 intro s
 induction s with
 |nil=>intro i;rfl
 |cons b r ih=>intro i;show(b,((i+1:Nat):Int))::(M7 r (i+1)++_)=(b,((i+1:Nat):Int))::M7 (r++[a]) (i+1);rw[<- ih (i+1),aas,show i+1+r.length+1=i+(r.length+1)+1 by omega]
theorem Kn(x:Int):∀(s:List Int) (i:Nat),XD (M7 s i) x i=if s.contains x then some (i+s.idxOf x,((i+s.idxOf x+1:Nat):Int)) else none:=by
 intro s
 induction s with
 |nil=>intro i;rfl
 |cons a r ih=>
  intro i;show(if x==a then some (i,((i+1:Nat):Int)) else XD (M7 r (i+1)) x (i+1))=_;by_cases h:x=a
  .subst h;simp
  have h1:(x==a)=false:=beq_eq_false_iff_ne.2 h;have h2:(a==x)=false:=beq_eq_false_iff_ne.2 (Ne.symm h);rw[h1,ih (i+1),List.contains_cons,h1,acD,List.idxOf_cons,h2];simp only[aaq,if_false,cond_false];split
  .congr 2
   .omega
   congr 1;omega
  rfl
def Ej(L:List Let)(k:Nat):List Let:=jv [] (L.take k)++L.drop k
theorem SQ(L:List Let){k:Nat}:(Ej L k).length=L.length:=by unfold Ej;rw[aaF,qw,aay,aa1];omega
theorem m9{L:List Let}{k:Nat}(h:L[k]?=some x):L.take (k+1)=L.take k++[x]:=by obtain⟨hl,e⟩:=aac.1 h;rw[<- e,List.take_append_getElem]
theorem VJ{L:List Let}{k:Nat}(h:L[k]?=some x):(Ej L k)[k]?=some x:=by have hl:=(aac.1 h).1;unfold Ej;rw[acz (by rw[qw,aay];omega),qw,aay,acA,ab0 (by omega),Nat.sub_self,abY,h]
theorem SP{L:List Let}{k:Nat}(h:L[k]?=some x):(Ej L k).set k (Wx (dG [] (L.take k)) x)=Ej L (k+1):=by
 obtain⟨hl,e⟩:=aac.1 h;have hd:L.drop k=x::L.drop (k+1):=by rw[<- e,abH]
 have hlen:(jv [] (L.take k)).length=k:=by rw[qw,aay];omega
 unfold Ej;rw[m9 h,Bm,hd,List.set_append_right _ _ (by omega),hlen,Nat.sub_self,List.set_cons_zero,abx];rfl
theorem Pn{L:List Let}{k:Nat}(h:L[k]?=some x)(hx:(x.kind==2)=false):Ej L (k+1)=Ej L k/\dG [] (L.take (k+1))=dG [] (L.take k):=by
 obtain⟨hl,e⟩:=aac.1 h;have hd:L.drop k=x::L.drop (k+1):=by rw[<- e,abH]
 refine⟨?_,?_⟩
 .unfold Ej;rw[m9 h,Bm,hd];unfold Wx;rw[hx];simp
 rw[m9 h,yw,hx];rfl
theorem Lu(L:List Let)(Yk:L≠[])(hl:L.length<=1000000):bz S 43 [.one (.p (kL L))] (.one (aD lN 6 (eE (JE L)))):=by
 have pcl:=IU Yk hl;have lo:S.lone 2752128064=false:=by kernel_rfl
 refine aP c43 ?_;simp only[go_sem,i43,s22];refine gA pcl lo (.inl rfl) fun cc YZ gc Zq=>?_;have b0:=Zq 2752064000 (by decide);rcases gc with ⟨e,_⟩|⟨_,gg,e,hC⟩
 .exact absurd (by simpa using e) Yk
 cases e;rw[aah];simp only[go_sem] at b0;simp only[go_sem];refine bm (fun k env X9=>env 3=.one (.YW 2752064000 1)/\env 4=.one (.hsl 2752128064 gg 6 0 L.length)/\env 10=.one (.hsl 2752128064 gg 6 0 L.length)/\env 11=vi L.length/\env 12=vi k/\
  X9 2752064000=(1,some (.map false (WY (M7 (dG [] (L.take k)) 0))))/\X9 2752128064=(gg,some (.arr lN 6 (eE (Ej L k))))) 0 L.length (aae _) ?_ ?_
 .simp only[go_sem,b0];exact⟨rfl,rfl,hC⟩
 rintro k env X9 hk ⟨h3,h4,YN,Zn,h12,bM,bX⟩
 by_cases Ye:k<L.length
 .have Yf:((k:Int)<(L.length:Int)):=by omega
  obtain⟨x,hxL⟩:=ai Ye;have hx:=VJ hxL;have aiZ:k<(Ej L k).length:=by rw[SQ];exact Ye
  have hxi:=ef hx;have hsn:=m9 hxL;obtain⟨n1,_⟩:=Bi (L.take k) [] abr;have hsl:∀(l:List Let) (s:List Int),(dG s l).length<=s.length+l.length:=by
   intro l
   induction l with
   |nil=>intro s;exact aad _
   |cons a r ih=>
    intro s;unfold dG;split
    .split
     .have:=ih s;simp only[aas];omega
     have:=ih (s++[a.id]);simp only[aaF,aas,aaA] at this ⊢;omega
    have:=ih s;simp only[aas];omega
  have hsk:=hsl (L.take k) [];rw[aay] at hsk;simp only[aaA] at hsk;have w1:=ah (n:=k) (by omega);cases hk2:(x.kind==2) with
  |false=>obtain⟨e1,e2⟩:=Pn hxL hk2;rw[<- e1] at bX hxi aiZ;rw[<- e2] at bM;simp only[go_sem,i43_l1,h3,h4,YN,Zn,h12,bM,bX,Ye,Yf,hxi,Let.ps,hk2,bne,w1]
  |true=>
   have YA:=SP hxL;have aaG:=yw (L.take k) x [];rw[<- hsn,hk2,if_pos rfl] at aaG;unfold Wx at YA;rw[hk2,if_pos rfl] at YA;generalize dG [] (L.take k)=s at YA aaG bM hsk;have w2:=ah (n:=s.length) (by omega);have fk:=Gc (M7 s 0) x.id 0;rw[Kn] at fk;have hml:=Su s 0;cases hc:s.contains x.id with
   |false=>
    rw[hc] at YA aaG fk;simp only[aaq,if_false,Option.map_none] at YA aaG fk;have f2:=Gc (M7 (s++[x.id]) 0) x.id 0;rw[Kn,show(s++[x.id]).contains x.id=true by simp] at f2;have hix:(s++[x.id]).idxOf x.id=s.length:=by rw[List.idxOf_append,if_neg (fun h=>by rw[adV.2 h] at hc;cases hc)];simp
    rw[hix] at f2;simp only[if_true,abf,aa0] at f2;have hap:=Sv x.id s 0;rw[aa0] at hap;rw[<- hap,<- JT] at f2;have aep:(eE (Ej L k)).set k [.int .i64 x.kind,.int .i64 x.gate,.int .i64 x.Yb,.int .i64 ((s.length+1:Nat):Int),.int .i64 x.sign,.bool x.over]=eE (Ej L (k+1)):=by rw[<- YA,<- FG];rfl
    simp only[go_sem,i43_l1,h3,h4,YN,Zn,h12,bM,bX,Ye,Yf,hxi,Let.ps,hk2,bne,w1,w2,hml,mapOf,mapVal,eh,y7,jR,fk,Option.map_none,f2,aep];rw[aaG,<- hap,<- JT]
   |true=>
    rw[hc] at YA aaG fk;simp only[if_true,abf,aa0] at YA aaG fk;have hv:((((s.idxOf x.id+1:Nat):Int))==0)=false:=by rw[beq_eq_false_iff_ne];omega
    have aep:(eE (Ej L k)).set k [.int .i64 x.kind,.int .i64 x.gate,.int .i64 x.Yb,.int .i64 ((s.idxOf x.id+1:Nat):Int),.int .i64 x.sign,.bool x.over]=eE (Ej L (k+1)):=by rw[<- YA,<- FG];rfl
    simp only[go_sem,i43_l1,h3,h4,YN,Zn,h12,bM,bX,Ye,Yf,hxi,Let.ps,hk2,bne,w1,mapOf,mapVal,eh,fk,hv,aep];rw[aaG]
 have:k=L.length:=by omega
 subst this;have hX:Ej L L.length=JE L:=by unfold Ej JE;rw[aaV,List.drop_length,abo]
 rw[hX] at bX;have hlr:=xh L;simp only[go_sem,i43_l1,i43_r2,h4,Zn,h12,aW];refine hJ (.inr ⟨?_,gg,by rw[aah,hlr],bX⟩);intro h2;have:=congrArg List.length h2;rw[aah,hlr] at this;exact Yk (ad2.1 this)
def bkP(ls:List Let)(i:Nat):Bool:=((lA ls.reverse i).kind==1)&& !((fj ls).getD (ls.length-1-i) false)
def pL(ls:List Let):List Let:=match (List.range ls.length).find? (bkP ls) with
 |some i=>eX ls.reverse i
 |none=>ls.reverse
theorem rY(ls:List Let):(pL ls).length=ls.length:=by
 unfold pL;split
 .rw[lI,abp]
 rw[abp]
theorem V8(Yk:ls≠[])(hl:ls.length<=1000000):bz S 42 [.one (.p (xC F ls))] (.one (aD lN 6 (eE (pL ls)))):=by
 have pcl:=IU Yk hl;have lo:S.lone 2688064320=false:=by kernel_rfl
 have lo2:S.lone 2688512128=false:=by kernel_rfl
 have hbl:=rY ls;generalize hR:pL ls=R at hbl;refine aP c42 ?_;simp only[go_sem,i42,s22];refine gA pcl lo (.inl rfl) fun cc YZ gc Zq=>?_;simp only[go_sem,s70];refine hU (f:=70) (es:=eE ls) (id:=2688064320) (ty:=lN) (z:=6) (fun o h=>Od o (by simp;omega) (OT _) h) (gc.of_eq rfl) fun blkr gr hbr=>?_;rw[OV] at gr;rcases gr with ⟨e,_⟩|⟨_,gg,e,hC⟩
 .have:=congrArg List.length e;rw[aah,abp] at this;exact absurd (ad2.1 this) Yk
 cases e;rw[aah,abp];simp only[go_sem];have hRl:ls.reverse.length=ls.length:=abp;have hw0:IntKind.i64.wrap ((ls.length:Int)-1)=((ls.length-1:Nat):Int):=by have:=aaQ.2 Yk;rw[jT (by omega) (by omega)];omega
 have hdl:(fj ls).length=ls.length:=by simp[fj]
 unfold pL at hR;have hbk:∀i,bkP ls i=(((lA ls.reverse i).kind==1)&& !((fj ls).getD (ls.length-1-i) false)):=fun _=>rfl;generalize bkP ls=bp at hR hbk;generalize ls.reverse=X at hC hRl gc hR hbk;refine bm (fun k env X9=>env 0=.one (.p (xC F ls))/\env 3=.one (.hsl 2688064320 gg 6 0 ls.length)/\env 15=vi ls.length/\env 16=vi k/\X9 2688064320=(gg,some (.arr lN 6 (eE X)))/\ ∀j,j<k->bp j=false) 0 ls.length (aae _) ?_ ?_
 .simp only[go_sem,hC];first|exact⟨rfl,fun j h=>absurd h (abB j)⟩|exact⟨rfl,rfl,fun j h=>absurd h (abB j)⟩
 rintro k env X9 hk ⟨h0,h3,h15,h16,bX,YH⟩
 by_cases Ye:k<ls.length
 .have Yf:((k:Int)<(ls.length:Int)):=by omega
  have aiZ:k<X.length:=by omega
  have hxi:=ef (sD aiZ);have w1:=ah (n:=k) (by omega);have w2:IntKind.i64.wrap (((ls.length-1:Nat):Int)-(k:Int))=((ls.length-1-k:Nat):Int):=by rw[jT (by omega) (by omega)];omega
  obtain⟨d,hd⟩:=ai (ls:=fj ls) (k:=ls.length-1-k) (by omega);have hdp:=km hd;have hdl':ls.length-1-k<(fj ls).length:=by omega
  have hbp:=hbk k;rw[show(fj ls).getD (ls.length-1-k) false=d by rw[aal,hd];rfl] at hbp;generalize lA X k=x at hxi hbp;have ao3:ls.length<=X.length:=by omega
  have hXt:List.take ls.length (eE X)=eE X:=aaD (by rw[aah];omega);have pr:=Bl X k (by omega) (by omega);have nx:bp k=false->∀j,j<k+1->bp j=false:=fun hb j hj=>by
   rcases abe.1 hj with h|rfl
   .exact YH j h
   exact hb
  cases hk2:(x.kind==1) with
  |false=>rw[hk2,Bool.false_and] at hbp;simp only[go_sem,i42_l1,h0,h3,h15,h16,bX,Ye,Yf,hxi,Let.ps,hk2,hw0,w1,w2];exact nx hbp
  |true=>
   cases d with
   |true=>rw[hk2] at hbp;simp only[go_sem,i42_l1,h0,h3,h15,h16,bX,Ye,Yf,hxi,Let.ps,hk2,hw0,w1,w2,hdp];exact nx hbp
   |false=>rw[hk2] at hbp;have hf:(List.range ls.length).find? bp=some k:=fV Ye YH hbp;rw[hf] at hR;have hR:eX X k=R:=hR;unfold eX at hR;simp only[go_sem,i42_l1,h0,h3,h15,h16,bX,Ye,Yf,hxi,Let.ps,hk2,hw0,w2,hdp,ao3,hXt,s44];refine gA pr lo2 (.inr (ay (yy _))) fun cr Z4 gr3 hb3=>?_;rw[hR] at gr3;simp only[go_sem];exact hJ gr3
 have:k=ls.length:=by omega
 subst this;have hf:(List.range ls.length).find? bp=none:=ft fun j hj=>YH j hj;rw[hf] at hR;have hR:X=R:=hR;subst hR;simp only[go_sem,i42_l1,i42_r2,h3,h15,h16,aW];refine hJ (.inr ⟨?_,gg,by rw[aah,hRl],bX⟩);intro h2;have:=congrArg List.length h2;rw[aah,hRl] at this;exact Yk (ad2.1 this)
def Mx(l:List Let)(i:Nat):Bool:=((lA l i).kind==1)&&decide (ao Let.aA (l.take i)%2=0)
def DF(l:List Let)(n:Nat):List (List Let):=(List.range n).filterMap fun i=>if Mx l i then some (JE (eX l i)) else none
theorem PK(l:List Let)(n:Nat):DF l (n+1)=DF l n++(if Mx l n then [JE (eX l n)] else []):=by unfold DF;rw[abZ,List.filterMap_append];congr 1;cases h:Mx l n<;>simp[h]
def Ei(z:Option (List Let))(y:List Let):Option (List Let):=match z with
 |none=>some y
 |some z=>if kZ y z then some y else some z
def JR(V:List (List Let)):Option (List Let):=V.foldl Ei none
theorem OL(V:List (List Let))(y:List Let):JR (V++[y])=Ei (JR V) y:=by unfold JR;rw[adp];rfl
theorem Sr{V:List (List Let)}:∀ {o z},V.foldl Ei o=some z->z∈V\/o=some z:=by
 induction V with
 |nil=>intro o z h;exact .inr h
 |cons y V ih=>
  intro o z h;rcases ih (o:=Ei o y) h with h1|h1
  .exact .inl (by simp[h1])
  cases o with
  |none=>cases h1;exact .inl (by simp)
  |some w=>
   unfold Ei at h1;simp only at h1;split at h1
   .cases h1;exact .inl (by simp)
   exact .inr h1
theorem Dm{V:List (List Let)}{z:List Let}(h:JR V=some z):z∈V:=by
 rcases Sr h with h|h
 .exact h
 cases h
def cO:Option (List Let)->PV
 |none=>.nils
 |some Y=>kL Y
def sX(F:Nat)(ls:List Let)(gB:Nat)(bs:List (List PV))(k:Nat)(V:List (List Let))(env:Env)(X9:aE):Prop:=
 env 0=.one (.p (xC F ls))/\env 2=.one (.Yh 1280000000 1 0)/\env 17=.one (.hsl 1280128448 gB 1 0 2)/\env 18=vi 2/\env 19=vi k/\env 3=.one (.p (cO (JR V)))/\
 X9 1280000000=(1,some (.var [.p (.int .i64 0),.p .nils]))/\X9 1280128448=(gB,some (.arr 22 1 bs))
theorem TZ(l:List Let){i:Nat}(hx:l[i]?=some x):decide (ao Let.aA (l.take (i+1))%2=0)=if x.kind==1 then !decide (ao Let.aA (l.take i)%2=0) else decide (ao Let.aA (l.take i)%2=0):=by
 rw[m9 hx,jp];have:ao Let.aA [x]=if x.kind==1 then 1 else 0:=by show List.countP _ [x]=_;rw[List.countP_singleton];rfl
 rw[this];generalize ao Let.aA (l.take i)=n;cases (x.kind==1)
 .simp
 simp only[if_true];rw[Bool.eq_iff_iff,aaR,decide_eq_true_eq,decide_eq_false_iff_not];omega
theorem JL{F:Nat}{ls l:List Let}{gB k:Nat}{bs:List (List PV)}{V:List (List Let)}{Q:dO}{env:Env}{X9:aE}(Yk:l≠[])(hll:l.length=ls.length)(hl:ls.length<=1000000)(hV:∀y∈V,y.length=ls.length)(hI:sX F ls gB bs k V env X9)(h5:env 5=.one (.p (kL l)))(h6:env 6=vb true)(h23:env 23=.one (.p (kL l)))(Z6:env 24=vi ls.length)(h25:env 25=vi 0)
  (hK:∀Yc Ya,sX F ls gB bs k (V++DF l ls.length) Yc Ya->Q .normal Yc Ya):W S .all (.loop i20_l1) (fQ 2 Q) env X9:=by
 refine bm (fun i env X9=>sX F ls gB bs k (V++DF l i) env X9/\env 5=.one (.p (kL l))/\env 6=vb (decide (ao Let.aA (l.take i)%2=0))/\env 23=.one (.p (kL l))/\env 24=vi ls.length/\env 25=vi i) 0 ls.length (aae _) ⟨by rw[show DF l 0=[] from rfl,abo];exact hI,h5,h6,h23,Z6,h25⟩ ?_;rintro i env X9 hi ⟨⟨h0,h2,ZR,Zw,ZW,h3,b0,bB⟩,h5,h6,h23,Z6,h25⟩
 by_cases Ye:i<ls.length
 .have Yf:((i:Int)<(ls.length:Int)):=by omega
  have aot:i<l.length:=by omega
  have hxl:=sD aot;have hxi:=ef hxl;have hpb:=TZ l hxl;have hfs:=PK l i;unfold Mx at hfs;have aaa:∀y∈V++DF l i,y.length=ls.length:=fun y hy=>by
   rcases aaw.1 hy with h|h
   .exact hV y h
   obtain⟨j,_,e⟩:=List.mem_filterMap.1 h;split at e
   .cases e;rw[xh,lI,hll]
   cases e
  generalize lA l i=x at hxi hpb hfs;generalize decide (ao Let.aA (l.take i)%2=0)=d at hpb hfs h6;generalize DF l i=W0 at*;have w1:=ah (n:=i) (by omega);have pr:=Bl l i (by omega) (by omega);have hRl:(eX l i).length=ls.length:=by rw[lI,hll]
  rw[show l.drop i++l.take i=eX l i from rfl] at pr;generalize eX l i=R at pr hRl hfs;have ahc:R≠[]:=aaQ.1 (by omega);have pn:=Lu R ahc (by omega);have hY:=xh R;generalize JE R=Y at pn hY hfs;have ajh:Y≠[]:=aaQ.1 (by omega);have lo1:S.lone 1280704128=true:=Do (by kernel_rfl);have lo2:S.lone 1280704192=true:=Do (by kernel_rfl);cases Yw:(x.kind==1) with
  |false=>rw[Yw] at hpb hfs;simp only[Bool.false_and,aaq,if_false,abo] at hpb hfs;simp only[go_sem,i20_l1,h5,h6,h23,Z6,h25,Ye,Yf,hxi,Let.ps,Yw,bne,w1];simp only[go_sem,sX,hfs,hpb,h0,h2,h3,ZR,Zw,ZW,b0,bB]
  |true=>
   rw[Yw] at hpb hfs;cases d with
   |false=>simp only[adb,aaq,if_false,if_true,abo,Bool.not_false] at hpb hfs;simp only[go_sem,i20_l1,h5,h6,h23,Z6,h25,Ye,Yf,hxi,Let.ps,Yw,bne,w1];simp only[go_sem,sX,hfs,hpb,h0,h2,h3,ZR,Zw,ZW,b0,bB]
   |true=>
    simp only[adb,if_true,acC] at hpb hfs;have hmn:JR (V++(W0++[Y]))=Ei (JR (V++W0)) Y:=by rw[<- abx,OL]
    cases hz:JR (V++W0) with
    |none=>rw[hz] at hmn h3;have hmn:JR (V++(W0++[Y]))=some Y:=hmn;have h3:env 3=.one (.p .nils):=h3;simp only[go_sem,i20_l1,h3,h5,h6,h23,Z6,h25,Ye,Yf,hxi,Let.ps,Yw,bne,w1,s44,au pr (jD ahc lo1),s43,au pn (jD ajh lo2)];simp only[go_sem,sX,hfs,hpb,hmn,cO,h0,h2,h3,ZR,Zw,ZW,b0,bB]
    |some Z=>
     rw[hz] at hmn h3;have hZ:=aaa Z (Dm hz);have h3:env 3=.one (.p (kL Z)):=h3;have pb:=Qt Y Z (by omega) (by omega);obtain⟨e,es,he⟩:∃e es,eE Z=e::es:=by
      cases Z with
      |nil=>simp at hZ;omega
      |cons z t=>exact⟨_,_,rfl⟩
     have hZe:PV.sl (e::es)=kL Z:=by rw[<- he]
     rw[<- hZe] at pb h3;unfold Ei at hmn;simp only at hmn;cases hb:kZ Y Z with
     |false=>rw[hb] at pb hmn;simp only[aaq,if_false] at hmn;simp only[go_sem,i20_l1,h3,h5,h6,h23,Z6,h25,Ye,Yf,hxi,Let.ps,Yw,bne,w1,s44,au pr (jD ahc lo1),s43,au pn (jD ajh lo2),s45,az pb];simp only[go_sem,sX,hfs,hpb,hmn,cO,hZe,h0,h2,h3,ZR,Zw,ZW,b0,bB]
     |true=>rw[hb] at pb hmn;simp only[if_true] at hmn;simp only[go_sem,i20_l1,h3,h5,h6,h23,Z6,h25,Ye,Yf,hxi,Let.ps,Yw,bne,w1,s44,au pr (jD ahc lo1),s43,au pn (jD ajh lo2),s45,az pb];simp only[go_sem,sX,hfs,hpb,hmn,cO,h0,h2,h3,ZR,Zw,ZW,b0,bB]
 have:i=ls.length:=by omega
 subst this;simp only[go_sem,i20_l1,Z6,h25,aW];refine hK _ _ ?_;simp only[go_sem,sX,h0,h2,h3,ZR,Zw,ZW,b0,bB]
def Ae(ls:List Let):List (List Let):=DF ls ls.length++DF (pL ls) ls.length
def jW(ls:List Let):Option (List Let):=JR (Ae ls)
theorem DE{l:List Let}{n:Nat}(h:y∈DF l n):y.length=l.length:=by
 obtain⟨j,_,e⟩:=List.mem_filterMap.1 h;split at e
 .cases e;rw[xh,lI]
 cases e
theorem OG(Yk:ls≠[])(hl:ls.length<=1000000):bz S 20 [.one (.p (xC F ls))] (.agg [.p (.int .i64 F),.p (cO (jW ls))]):=by
 have pb:=V8 (F:=F) Yk hl;have hB:=rY ls;generalize hr:jW ls=res;unfold jW Ae at hr;generalize pL ls=B at pb hB hr;have alL:B≠[]:=by have:=aaQ.2 Yk;exact aaQ.1 (by omega)
 have lo1:S.lone 1280128384=true:=Do (by kernel_rfl);refine aP c20 ?_;simp only[go_sem,i20,s42,bl pb (jD alL lo1)];refine⟨aH,?_⟩;refine bm (fun k=>sX F ls 1 [[kL ls],[kL B]] k (if k=0 then [] else if k=1 then DF ls ls.length else DF ls ls.length++DF B ls.length)) 0 2 (aae _) ?_ ?_
 .simp only[go_sem,sX];first|done|exact⟨rfl,rfl⟩|exact⟨rfl,rfl,rfl⟩|exact⟨rfl,rfl,rfl,rfl,rfl,rfl,rfl,rfl⟩|rfl
 intro k env X9 hk hI;obtain⟨h0,h2,ZR,Zw,ZW,h3,b0,bB⟩:=hI;by_cases Ye:k<2
 .have ai3:k=0\/k=1:=by omega
  have l02:((0:Nat):Int)<2:=by decide
  have l12:((1:Nat):Int)<2:=by decide
  rcases ai3 with rfl|rfl
  .simp only[go_sem,i20_l3,ZR,Zw,ZW,bB,l02];refine JL (F:=F) (ls:=ls) (l:=ls) (gB:=1) (k:=0) (bs:=[[kL ls],[kL B]]) (V:=[]) Yk rfl hl (fun y h=>by cases h) ?_ rfl rfl rfl rfl rfl fun Yc Ya hI'=>?_
   .simp only[go_sem,sX,h0,h2,h3,ZR,Zw,ZW,b0,bB];first|done|rfl
   obtain⟨h0,h2,ZR,Zw,ZW,h3,b0,bB⟩:=hI';rw[aaE] at h3;simp only[go_sem,sX,i20_r2,h0,h2,h3,ZR,Zw,ZW,b0,bB];first|done|rfl|exact⟨rfl,rfl⟩
  simp only[go_sem,i20_l3,ZR,Zw,ZW,bB,l12];refine JL (F:=F) (ls:=ls) (l:=B) (gB:=1) (k:=1) (bs:=[[kL ls],[kL B]]) (V:=DF ls ls.length) alL hB hl (fun y h=>DE h) ?_ rfl rfl rfl (by rw[<- hB];rfl) rfl fun Yc Ya hI'=>?_
  .simp only[go_sem,sX,h0,h2,h3,ZR,Zw,ZW,b0,bB];first|done|rfl
  obtain⟨h0,h2,ZR,Zw,ZW,h3,b0,bB⟩:=hI';simp only[go_sem,sX,i20_r2,h0,h2,h3,ZR,Zw,ZW,b0,bB];first|done|rfl|exact⟨rfl,rfl⟩
 have:k=2:=by omega
 subst this;have l22:¬(((2:Nat):Int)<2):=by decide
 have h3:env 3=.one (.p (cO res)):=by rw[<- hr];exact h3
 simp only[go_sem,i20_l3,i20_r4,h0,h2,h3,Zw,ZW,b0,l22];cases res<;>rfl
theorem Dj(YL:l5){f:Int}(hl:ls.length<=1000000)(h0:aO f ls=0):bz S 6 [de f ls] (.tup [.agg [.p (.int .i64 f),.p (cO (jW ls))],.one (.p (.int .i64 0))]):=by
 have pr:=CW f ls hl;rw[lK h0] at pr;have pn:bz S 20 [.one (.p (if ls=[] then P0 f else xC f.toNat ls))] (.agg [.p (.int .i64 f),.p (cO (jW ls))]):=by
  by_cases Yk:ls=[]
  .rw[if_pos Yk];subst Yk;exact OH YL f
  rw[if_neg Yk];obtain⟨F,hF,g⟩:=rS h0 Yk;subst hF;exact OG (F:=F) Yk hl
 have Ze:(if ls=[] then P0 f else xC f.toNat ls).norm=(if ls=[] then P0 f else xC f.toNat ls):=by split<;>simp only[yR]
 generalize (if ls=[] then P0 f else xC f.toNat ls)=dg at pr pn Ze;generalize cO (jW ls)=c at*;refine aP c6 ?_;simp only[go_sem,i6,s19,au pr aU,s20,au pn SG,Ze];rfl
theorem Sz:∀ {A B:List Int},A.length=B.length->L3 A B=false->L3 B A=false->A=B:=by
 intro A
 induction A with
 |nil=>intro B h _ _;cases B with
  |nil=>rfl
  |cons _ _=>cases h
 |cons a A ih=>
  intro B h h1 h2;cases B with
  |nil=>cases h
  |cons b B=>
   unfold L3 at h1 h2;by_cases e:a=b
   .subst e;rw[if_pos rfl] at h1 h2;rw[ih (by simpa using h) h1 h2]
   rw[if_neg e] at h1;rw[if_neg (Ne.symm e)] at h2;have:=of_decide_eq_false h1;have:=of_decide_eq_false h2;omega
theorem O7{a b:Let}(h:Md a=Md b):a=b:=by
 cases a with|mk k g r i s o=>cases b with|mk k' g' r' i' s' o'=>
 unfold Md at h;simp only[List.cons.injEq,and_true] at h;obtain⟨h1,h2,h3,h4,h5,h6⟩:=h;have:o=o':=by revert h5;cases o<;>cases o'<;>simp
 subst h1 h2 h3 h4 h6 this;rfl
theorem GJ:∀ {A B:List Let},A.length=B.length->kZ A B=false->kZ B A=false->A=B:=by
 intro A
 induction A with
 |nil=>intro B h _ _;cases B with
  |nil=>rfl
  |cons _ _=>cases h
 |cons a A ih=>
  intro B h h1 h2;cases B with
  |nil=>cases h
  |cons b B=>
   unfold kZ at h1 h2;by_cases e:a=b
   .subst e;rw[if_pos (lO a)] at h1 h2;rw[ih (by simpa using h) h1 h2]
   have e1:¬leq a b=true:=fun x=>e ((nu _ _).1 x);have e2:¬leq b a=true:=fun x=>e ((nu _ _).1 x).symm;rw[if_neg e1,ui] at h1;rw[if_neg e2,ui] at h2;exact absurd (O7 (a:=a) (b:=b) (Sz rfl h1 h2)) e
theorem Sq{n:Nat}:∀ {V:List (List Let)} {o z},(∀y∈V,y.length=n)->(∀w,o=some w->w.length=n)->V.foldl Ei o=some z->(∀y∈V,kZ y z=false)/\(∀w,o=some w->kZ w z=false):=by
 intro V
 induction V with
 |nil=>intro o z _ _ h;refine⟨fun y hy=>(by cases hy),fun w hw=>?_⟩;have h:o=some z:=h;rw[h] at hw;cases hw;exact Qu z
 |cons y V ih=>
  intro o z hV ho h;have hy0:=hV y (by simp);have hV':∀u∈V,u.length=n:=fun u hu=>hV u (by simp[hu]);cases o with
  |none=>
   obtain⟨h1,h2⟩:=ih (o:=some y) hV' (fun w hw=>by cases hw;exact hy0) h;refine⟨fun w hw=>?_,fun w hw=>(by cases hw)⟩;rcases aag.1 hw with rfl|hw
   .exact h2 w rfl
   exact h1 w hw
  |some w=>
   have hw0:=ho w rfl;have h:V.foldl Ei (Ei (some w) y)=some z:=h;cases hb:kZ y w with
   |true=>
    have e:Ei (some w) y=some y:=by unfold Ei;simp only[hb,if_true]
    rw[e] at h;obtain⟨h1,h2⟩:=ih (o:=some y) hV' (fun w hw=>by cases hw;exact hy0) h;have hy:=h2 y rfl;refine⟨fun u hu=>?_,fun u hu=>?_⟩
    .rcases aag.1 hu with rfl|hu
     .exact hy
     exact h1 u hu
    cases hu;cases hz:kZ w z
    .rfl
    rw[Ai hb hz] at hy;cases hy
   |false=>
    have e:Ei (some w) y=some w:=by unfold Ei;simp only[hb,aaq,if_false]
    rw[e] at h;obtain⟨h1,h2⟩:=ih (o:=some w) hV' (fun w hw=>by cases hw;exact hw0) h;have hw:=h2 w rfl;refine⟨fun u hu=>?_,fun u hu=>by cases hu;exact hw⟩;rcases aag.1 hu with rfl|hu
    .cases hz:kZ u z
     .rfl
     cases hwu:kZ w u with
     |true=>rw[Ai hwu hz] at hw;cases hw
     |false=>rw[GJ (by omega) hb hwu] at hz;rw[hz] at hw;cases hw
    exact h1 u hu
theorem Dl{n:Nat}{V:List (List Let)}{z:List Let}(hV:∀y∈V,y.length=n)(h:JR V=some z):z∈V/\ ∀y∈V,kZ y z=false:=
 ⟨Dm h,(Sq hV (fun w hw=>by cases hw) h).1⟩
theorem yU{V:List (List Let)}(h:V≠[]):∃z,JR V=some z:=by
 have key:∀(V:List (List Let)) (w:List Let),∃z,V.foldl Ei (some w)=some z:=by
  intro V
  induction V with
  |nil=>intro w;exact⟨w,rfl⟩
  |cons y V ih=>
   intro w;show ∃z,V.foldl Ei (Ei (some w) y)=some z;unfold Ei;simp only;split
   .exact ih y
   exact ih w
 cases V with
 |nil=>exact absurd rfl h
 |cons y V=>exact key V y
theorem Ss{n:Nat}{V W:List (List Let)}(hV:∀y∈V,y.length=n)(hVW:∀y,y∈V↔y∈W):JR V=JR W:=by
 have hW:∀y∈W,y.length=n:=fun y hy=>hV y ((hVW y).2 hy);by_cases hv:V=[]
 .have hw:W=[]:=by
   cases W with
   |nil=>rfl
   |cons y W=>have:=(hVW y).2 (by simp);rw[hv] at this;cases this
  rw[hv,hw]
 have hw:W≠[]:=fun e=>by
  cases V with
  |nil=>exact hv rfl
  |cons y V=>have:=(hVW y).1 (by simp);rw[e] at this;cases this
 obtain⟨z,hz⟩:=yU hv;obtain⟨u,hu⟩:=yU hw;obtain⟨z1,z2⟩:=Dl hV hz;obtain⟨u1,u2⟩:=Dl hW hu;have:=GJ ((hV z z1).trans (hW u u1).symm) (u2 z ((hVW z).1 z1)) (z2 u ((hVW u).2 u1));rw[hz,hu,this]
theorem Gi{l:List Let}{i:Nat}(hi:i<l.length):Mx l i=true↔UF l i:=by
 have h:=sD hi;unfold Mx UF par;rw[aaf,decide_eq_true_eq];constructor
 .rintro ⟨h1,h2⟩
  exact⟨⟨_,h,h1⟩,h2⟩
 rintro ⟨⟨x,hx,hp⟩,h2⟩
 rw[h] at hx;cases hx;exact⟨hp,h2⟩
theorem Ko{l:List Let}:y∈DF l l.length↔uB l y:=by
 unfold DF uB;rw[List.mem_filterMap];constructor
 .rintro ⟨i,hi,e⟩
  have hi:=aav.1 hi;split at e
  .rename_i hb;cases e;exact⟨i,hi,(Gi hi).1 hb,rfl⟩
  cases e
 rintro ⟨i,hi,he,rfl⟩
 exact⟨i,aav.2 hi,by rw[if_pos ((Gi hi).2 he)]⟩
theorem MN(he:ao Let.aA ls%2=0):∃j,j<=ls.length/\par ls.reverse j/\pL ls=eX ls.reverse j:=by
 unfold pL;split
 .rename_i i hf;have hi:=aav.1 (adS hf);have hb:=List.find?_some hf;unfold bkP at hb;rw[aaf] at hb;obtain⟨h1,h2⟩:=hb;refine⟨i,by omega,?_,rfl⟩;obtain⟨x,hx⟩:=ai (ls:=ls) (k:=ls.length-1-i) (by omega);have hxr:ls.reverse[i]?=some x:=by rw[List.getElem?_reverse (by omega)];exact hx
  rw[T8 hxr] at h1;have hd:(fj ls).getD (ls.length-1-i) false=dn ls (ls.length-1-i):=by unfold fj;rw[aal,aaz,abw (by omega)];show rW ls (ls.length-1-i)=_;unfold rW;rw[hx];show(x.aA&&_)=_;rw[show x.aA=true from h1,adb]
  rw[hd] at h2;unfold dn at h2;unfold par;rw[List.take_reverse,jo];have e1:ao Let.aA ls=ao Let.aA (ls.take (ls.length-i))+ao Let.aA (ls.drop (ls.length-i)):=by rw[<- jp,aa2]
  have e2:=TZ ls hx;rw[show ls.length-1-i+1=ls.length-i by omega,h1,if_pos rfl] at e2;have h3:¬ao Let.aA (ls.take (ls.length-1-i))%2=0:=by intro h;rw[h] at h2;cases h2
  rw[decide_eq_false h3] at e2;have h4:ao Let.aA (ls.take (ls.length-i))%2=0:=of_decide_eq_true e2;omega
 refine⟨0,aae _,rfl,?_⟩;unfold eX;simp
theorem LS{l:List Let}(hj:j<=l.length)(he:ao Let.aA l%2=0)(hp:par l j):par (eX l j) (l.length-j)/\eX (eX l j) (l.length-j)=l:=by
 have hd:(l.drop j).length=l.length-j:=aa1;have e1:ao Let.aA l=ao Let.aA (l.take j)+ao Let.aA (l.drop j):=by rw[<- jp,aa2]
 unfold par at*;unfold eX;rw[<- hd,List.take_left,List.drop_left,aa2];exact⟨by omega,rfl⟩
theorem vn{l:List Let}(hj:j<=l.length)(he:ao Let.aA l%2=0)(hp:par l j):uB (eX l j) y↔uB l y:=by refine⟨F4 hj he hp,fun h=>?_⟩;obtain⟨h1,h2⟩:=LS hj he hp;refine F4 (l:=eX l j) (j:=l.length-j) (by rw[lI];omega) (by rw[DO];exact he) h1 ?_;rw[h2];exact h
theorem PO{f:Int->Int}{l:List Let}{i:Nat}(h:UF l i):UF (l.map (fc f)) i:=by obtain⟨⟨x,hx,hp⟩,h2⟩:=h;refine⟨⟨fc f x,by rw[aaz,hx];rfl,by rw[l8];exact hp⟩,?_⟩;unfold par at*;rw[<- acy,DP];exact h2
theorem B6{f:Int->Int}{l:List Let}(hf:inj f l):uB (l.map (fc f)) y↔uB l y:=by
 refine⟨PD hf,?_⟩;rintro ⟨i,hi,he,rfl⟩
 refine⟨i,by rw[aah];exact hi,PO he,?_⟩;rw[EW,Of (Dx hf fun x hx=>yW.1 hx)]
def G9(a b:List Let):Prop:=a.length=b.length/\ao Let.aA a%2=ao Let.aA b%2/\ ∀y,pK a y↔pK b y
theorem G9.refl(a:List Let):G9 a a:=⟨rfl,rfl,fun _=>Iff.rfl⟩
theorem G9.symm{a b:List Let}(h:G9 a b):G9 b a:=⟨h.1.symm,h.2.1.symm,fun y=>(h.2.2 y).symm⟩
theorem G9.trans{a b c:List Let}(h:G9 a b)(k:G9 b c):G9 a c:=⟨h.1.trans k.1,h.2.1.trans k.2.1,fun y=>(h.2.2 y).trans (k.2.2 y)⟩
theorem S2{l:List Let}(hj:j<=l.length)(he:ao Let.aA l%2=0)(hp:par l j):G9 (eX l j) l:=by refine⟨lI _ _,by rw[DO],fun y=>?_⟩;unfold pK;rw[vn hj he hp,R2 l hj,vn (by rw[abp];omega) (by rw[jo];exact he) (Se hj he hp)]
theorem S3{l:List Let}:G9 l.reverse l:=by refine⟨abp,by rw[jo],fun y=>?_⟩;unfold pK;rw[List.reverse_reverse];exact Or.comm
theorem S5{f:Int->Int}{l:List Let}(hf:inj f l):G9 (l.map (fc f)) l:=by refine⟨aah ..,by rw[DP],fun y=>?_⟩;unfold pK;rw[B6 hf,<- List.map_reverse,B6 (Dx hf fun x hx=>List.mem_reverse.1 hx)]
theorem S4(l:List Let):G9 (JE l) l:=by obtain⟨f,hf,e⟩:=Vi l;rw[e];exact S5 hf
theorem PL{l:List Let}(he:ao Let.aA l%2=0)(h:pK l y):G9 y l:=by
 have key:∀m,ao Let.aA m%2=0->uB m y->G9 y m:=fun m hm h=>by obtain⟨j,hj,⟨_,hp⟩,rfl⟩:=h;exact(S4 _).trans (S2 (by omega) hm hp)
 rcases h with h|h
 .exact key l he h
 exact(key l.reverse (by rw[jo];exact he) h).trans S3
theorem nN{l:List Let}(he:ao Let.aA l%2=0):y∈Ae l↔pK l y:=by
 obtain⟨j,hj,hp,e⟩:=MN he;unfold Ae pK;have hl:DF (pL l) l.length=DF (pL l) (pL l).length:=by rw[rY]
 rw[aaw,hl,Ko,Ko,e,vn (by rw[abp];exact hj) (by rw[jo];exact he) hp]
theorem vB{l:List Let}(h:y∈Ae l):y.length=l.length:=by
 unfold Ae at h;rcases aaw.1 h with h|h
 .exact DE h
 rw[DE h,rY]
theorem Sn{a b:List Let}(he:ao Let.aA a%2=0)(h:G9 a b):jW a=jW b:=by obtain⟨h1,h2,h3⟩:=h;refine Ss (n:=a.length) (fun y hy=>vB hy) fun y=>?_;rw[nN he,nN (by omega)];exact h3 y
section
variable {F:Nat} {ls:List Let}
theorem cD.isP0(g:cD F ls):UF ls 0:=by obtain⟨l,h1,h2⟩:=g.first;exact⟨⟨l,h1,h2⟩,rfl⟩
def r8(ls:List Let):List Let:=(jW ls).getD []
theorem cD.nor(g:cD F ls):jW ls=some (r8 ls)/\pK ls (r8 ls)/\ ∀y,pK ls y->kZ y (r8 ls)=false:=by
 have he:=g.even;have h0:pK ls (JE (eX ls 0)):=.inl ⟨0,aaQ.2 g.ne,g.isP0,rfl⟩;have hc:Ae ls≠[]:=fun e=>by have:=(nN he).2 h0;rw[e] at this;cases this
 obtain⟨z,hz⟩:=yU hc;obtain⟨z1,z2⟩:=Dl (fun y hy=>vB hy) hz;have hn:jW ls=some z:=hz;have e:r8 ls=z:=by unfold r8;rw[hn];rfl
 rw[e];exact⟨hn,(nN he).1 z1,fun y hy=>z2 y ((nN he).2 hy)⟩
theorem cD.form(g:cD F ls)(h:pK ls y):aO (F:Int) y=0:=by
 have c:=g.cz;have hl:(zF ls).length<=400:=by rw[kn];exact g.len
 have hc:ao Let.aw (be (zF ls))<=200:=by rw[dy];exact g.cr
 have h0:∀x,(zF ls)[0]?=some x->x.i.b=false:=fun x hx=>by have hn:0<ls.length:=aaQ.2 g.ne;rw[qc hn] at hx;cases hx;rw[SM g hn];rfl
 rcases h with h|h
 .exact zx c h0 hl hc g.fing (by rw[dy];exact h)
 refine zx c.rv ?_ (by rw[aah,abp];exact hl) (by rw[u9,jo];exact hc) g.fing (by rw[u9,dy];exact h);intro x hx;rw[aaz] at hx;have hn:0<ls.length:=aaQ.2 g.ne;rw[List.getElem?_reverse (by rw[kn];exact hn),kn,qc (by omega)] at hx;cases hx;show(gG ls (ls.length-1-0)).o.b=false;show(!dn ls (ls.length-1-0+1))=false;rw[show ls.length-1-0+1=ls.length by omega,PZ g];rfl
end
theorem xn(ls:List Let):(r8 ls).length<=ls.length:=by
 unfold r8;cases h:jW ls with
 |none=>exact aae _
 |some z=>have:=vB (Dm h);show z.length<=_;omega
theorem xI(o:Option (List Let)):(cO o).norm=kL (o.getD []):=by
 cases o with
 |none=>rfl
 |some Y=>rfl
theorem Vg(YL:l5){f g:Int}{A B:List Let}(hA:A.length<=1000000)(hB:B.length<=1000000)(h1:aO f A=0)(h2:aO g B=0):bz S 26 [de f A,de g B] (uU (.bool (decide (f=g)&&decide (r8 A=r8 B))) (.int .i64 0)):=by
 have pa:=Dj YL hA h1;have pb:=Dj YL hB h2;have pe:=XJ (r8 A) (r8 B) (abc (xn A) hA) (abc (xn B) hB);have a3:(cO (jW A)).norm=kL (r8 A):=xI _;have b3:(cO (jW B)).norm=kL (r8 B):=xI _;generalize cO (jW A)=x at*;generalize cO (jW B)=y at*;generalize r8 A=X at*;generalize r8 B=Y at*;cases hf:decide (f=g) with
 |false=>
  have hfi:(f==g)=false:=by simpa using hf
  refine aP c26 ?_;simp only[go_sem,i26,s6,au pa jk,au pb jk,hfi];rfl
 |true=>
  have hfi:(f==g)=true:=by simpa using hf
  refine aP c26 ?_;simp only[go_sem,i26,s6,au pa jk,au pb jk,hfi,a3,b3,s50,az pe];rfl
def sa(F:Nat)(ls:List Let)(m:mf):Option (List Let):=
 if ls=[] then if aV F [] m.k m.a m.b m.c m.l m.o m.s=true then some (Gz m.b.toNat) else none
 else if aV F ls m.k m.a m.b m.c m.l m.o m.s=true then match iG F ls m.k m.a.toNat m.b.toNat m.c.toNat m.l m.o m.s with
  |none=>none
  |some M=>if (400:Int)<(ls.length:Int)+(ce m.k).1\/(100:Int)<((ao Let.aw ls/2:Nat):Int)+(ce m.k).2 then none else some (mT M)
 else none
theorem JC{L:List Let}{e:Int}(he:e≠0):sR F L≠ji e:=fun h=>by unfold sR ji at h;simp only[RV.tup.injEq,List.cons.injEq,RV.one.injEq,RC.p.injEq,PV.int.injEq,and_true,true_and] at h;exact he h.2.symm
abbrev MY(F:Nat)(ms:List mf):Prop:=∀(L:List Let) (m:mf),m∈ms->aO (F:Int) L=0->(∃L',sa F L m=some L'/\aO (F:Int) L'=0/\L'.length<=L.length+4/\bz S 23 [de F L,Fw m] (sR F L'))\/(sa F L m=none/\ ∃e,e≠0/\bz S 23 [de F L,Fw m] (ji e))
def pQ(F:Nat):List Let->List mf->Option (List Let)
 |ls,[]=>some ls
 |ls,m::ms=>match sa F ls m with
  |none=>none
  |some L=>pQ F L ms
theorem Ls{L:List Let}{ms:List mf}(m:mf)(h:pQ F ls ms=some L):pQ F ls (ms++[m])=sa F L m:=by
 induction ms generalizing ls with
 |nil=>have e:ls=L:=abu h;rw[<- e];show(match sa F ls m with|none=>none|some L=>some L)=_;cases sa F ls m<;>rfl
 |cons a r ih=>
  show(match sa F ls a with|none=>none|some L=>pQ F L (r++[m]))=_;have h:(match sa F ls a with|none=>none|some L=>pQ F L r)=some L:=h;cases ha:sa F ls a with
  |none=>rw[ha] at h;cases h
  |some K=>rw[ha] at h;exact ih h
theorem Lt{ms r:List mf}(h:pQ F ls ms=none):pQ F ls (ms++r)=none:=by
 induction ms generalizing ls with
 |nil=>cases h
 |cons a q ih=>
  show(match sa F ls a with|none=>none|some L=>pQ F L (q++r))=_;have h:(match sa F ls a with|none=>none|some L=>pQ F L q)=none:=h;cases ha:sa F ls a with
  |none=>rfl
  |some K=>rw[ha] at h;exact ih h
theorem EY(YL:l5){ms:List mf}(hap:MY F ms)(h0:aO (F:Int) ls=0)(hl:ls.length<=1000)(hm:ms.length<=1000):∃r,((pQ F ls ms=none/\WM r)\/ ∃L,pQ F ls ms=some L/\aO (F:Int) L=0/\WL F L ms.length r)/\bz S 7 [de F ls,.one (.p (pR ms))] r:=by
 have pc:=Tq F ls (by omega);rw[h0] at pc;have lo1:S.lone 448256128=false:=by kernel_rfl
 have lo2:S.lone 448512128=false:=by kernel_rfl
 have loop:∀(env:Env) (X9:aE),env 1=.one (.p (pR ms))->env 2=.one (.Yh 448000000 1 0)->env 4=.one (.Yh 448000064 1 0)->X9 448000064=(1,some (.var [.p (.int .i64 0),.p .nils]))->
   (∃c,X9 448000000=(1,some (.var [.p (.int .i64 F),c]))/\wQ ls c X9)->env 22=.one (.p (pR ms))->env 23=vi ms.length->env 24=vi 0->
   W S .all (.loop i7_l1) (fQ 0 (qk S .all i7_r2 (pY .all i7.results fun v X9=>∃r,((pQ F ls ms=none/\WM r)\/ ∃L,pQ F ls ms=some L/\aO (F:Int) L=0/\WL F L ms.length r)/\iE X9 v=some r))) env X9:=by
  intro env X9 h1 h2 h4 bB h0' h22 h23 Z6;refine bm (fun k env X9=>env 1=.one (.p (pR ms))/\env 2=.one (.Yh 448000000 1 0)/\env 4=.one (.Yh 448000064 1 0)/\env 22=.one (.p (pR ms))/\env 23=vi ms.length/\env 24=vi k/\X9 448000064=(1,some (.var [.p (.int .i64 0),.p .nils]))/\
   ∃L c,L.length<=ls.length+4*k/\X9 448000000=(1,some (.var [.p (.int .i64 F),c]))/\wQ L c X9/\pQ F ls (ms.take k)=some L/\aO (F:Int) L=0) 0 ms.length (aae _) ?_ ?_
  .obtain⟨c,e1,e2⟩:=h0';exact⟨h1,h2,h4,h22,h23,Z6,bB,ls,c,aad _,e1,e2,rfl,h0⟩
  rintro k env X9 hk ⟨h1,h2,h4,h22,h23,Z6,bB,L,c,hL,bA,hc,aax,hck⟩
  by_cases Ye:k<ms.length
  .have Yf:((k:Int)<(ms.length:Int)):=by omega
   obtain⟨m,hm1⟩:=ai Ye;have hmi:=HS hm1;have w1:=ah (n:=k) (by omega);have hc2:wQ L c (ij (ij X9 448448192 ((X9 448448192).1+1,some (.var [.p (.int .i64 0),.p (.int .i64 0),.p (.int .i64 0),.p (.int .i64 0),.p (.bool false),.p (.bool false),.p (.int .i64 0)]))) 448448192 ((X9 448448192).1+1,some (.var [.p (.int .i64 m.k),.p (.int .i64 m.a),.p (.int .i64 m.b),.p (.int .i64 m.c),.p (.bool m.l),.p (.bool m.o),.p (.int .i64 m.s)]))):=hc.of_eq ((af (by decide)).trans (af (by decide))) ((af (by decide)).trans (af (by decide)))
   obtain⟨rd,hsn⟩:=hc2.snap;have htk:ms.take (k+1)=ms.take k++[m]:=by obtain⟨hl,e⟩:=aac.1 hm1;rw[<- e,List.take_append_getElem]
   have hrs:=Ls m aax;rw[<- htk] at hrs;rcases hap L m (aab hm1) hck with ⟨L2,hL2,aoT,aaj,pa⟩|⟨hn,e,he,pa⟩
   .rw[hL2] at hrs;simp only[go_sem,i7_l1,h2,h22,h23,Z6,bA,Yf,hmi,mf.ps,hsn,s23];refine VL pa lo2 rfl rfl (yy _) fun cc Yi gc hb=>?_;have q0:=hb 448000000 (by decide);have q1:=hb 448000064 (by decide);simp only[go_sem,bA,bB] at q0 q1;simp only[go_sem,h1,h2,h4,h22,h23,Z6,q0,q1,w1];have gc:grown 448512129 lN 6 (eE L2) (.one cc) Yi:=gc;exact⟨Ye,L2,cc,by omega,rfl,.inr (.inl (gc.of_eq ((af (by decide)).trans ((af (by decide)).trans (af (by decide)))))),hrs,aoT⟩
   have he':(e==0)=false:=by simpa using he
   rw[hn] at hrs;have YH:pQ F ls ms=none:=by have:=Lt (r:=ms.drop (k+1)) hrs;rwa[aa2] at this
   simp only[go_sem,i7_l1,h2,h22,h23,Z6,bA,Yf,hmi,mf.ps,hsn,s23];refine(au pa Ig).2 ?_;simp only[go_sem,h4,bB,bne,he',i7];exact⟨_,.inl ⟨YH,k,e,he,rfl⟩,rfl⟩
  have:k=ms.length:=by omega
  subst this;rw[aaV] at aax;simp only[go_sem,i7_l1,i7_r2,h1,h2,h4,h23,Z6,bB,bA,aW,i7];rcases hc with hc|hc|⟨rfl,rfl⟩
  .exact⟨_,.inr ⟨L,aax,hck,.inl rfl⟩,zi (hc.of_eq (af (by decide)))⟩
  .exact⟨_,.inr ⟨L,aax,hck,.inl rfl⟩,zi (hc.of_eq (af (by decide)))⟩
  exact⟨_,.inr ⟨[],aax,hck,.inr ⟨rfl,rfl⟩⟩,rfl⟩
 by_cases Yk:ls=[]
 .subst Yk;have pc':bz S 21 [.agg [.p (.int .i64 F),.p (.sl [])]] (ri 0):=pc;refine Au rfl c7 (aaU rfl) ?_;simp only[go_sem,i7,s21,bj pc',s22,au YL Ie];refine loop _ _ ?_ ?_ ?_ ?_ ⟨_,?_,.inr (.inr ⟨rfl,rfl⟩)⟩ ?_ ?_ ?_;all_goals first|rfl|(simp only[go_sem];done)|(simp only[go_sem];rfl)
 have pcl:=IU Yk (by omega);refine Au rfl c7 (aaU rfl) ?_;simp only[go_sem,i7,s21,bj pc,s22];refine gA pcl lo1 (.inl rfl) fun cc YZ gc Zq=>?_;have b0:=Zq 448000000 (by decide);have b1:=Zq 448000064 (by decide);simp only[go_sem] at b0 b1;simp only[go_sem,b0];refine loop _ _ ?_ ?_ ?_ ?_ ⟨_,?_,.inl (gc.of_eq (af (by decide)))⟩ ?_ ?_ ?_;all_goals first|rfl|(simp only[go_sem,b1];done)|(simp only[go_sem,b1];rfl)
theorem Qj:((List.range 41).all fun F=>(List.range (F+1)).all fun q=>aO (F:Int) (Gz q)==0)=true:=by kernel_rfl
theorem IW{g:Nat}(hF:F<=40)(hg:g<=F):aO (F:Int) (Gz g)=0:=by have h:=aaP.1 Qj F (aav.2 (by omega));have h:=aaP.1 h g (aav.2 (by omega));exact beq_iff_eq.1 h
theorem Ql(h:aO (F:Int) []=0):F<=40:=by
 unfold aO at h;rw[if_neg (by decide)] at h;by_cases hf:(F:Int)<0\/40<(F:Int)
 .rw[if_pos hf] at h;cases h
 omega
theorem TJ(h:aO (F:Int) ls=0)(m:mf):
  (∃L,sa F ls m=some L/\aO (F:Int) L=0/\L.length<=ls.length+4/\bz S 23 [de F ls,Fw m] (sR F L))\/(sa F ls m=none/\ ∃e,e≠0/\bz S 23 [de F ls,Fw m] (ji e)):=by
 by_cases Yk:ls=[]
 .subst Yk;have hF:=Ql h;have pa:=TL (F:=F) hF m.k m.a m.b m.c m.l m.o m.s;unfold Wf at pa;unfold sa;rw[if_pos rfl];by_cases hA:aV F [] m.k m.a m.b m.c m.l m.o m.s=true
  .rw[if_pos hA] at pa ⊢;obtain⟨bv,_,_,e,hb,_⟩:=UM hA;exact .inl ⟨_,rfl,IW hF (by omega),by simp,pa⟩
  rw[if_neg hA] at pa ⊢;exact .inr ⟨rfl,2,by decide,pa⟩
 obtain⟨G,e,g⟩:=rS h Yk;have:F=G:=by omega
 subst this;have pa:=TK g m.k m.a m.b m.c m.l m.o m.s;unfold sa;rw[if_neg Yk];rcases MW g m.k m.a m.b m.c m.l m.o m.s with ⟨e,he,h1⟩|⟨M,h1,h2,h3,L,h4,rfl⟩
 .rw[h1] at pa;refine .inr ⟨?_,e,he,pa⟩;unfold Ak at h1;by_cases hA:aV F ls m.k m.a m.b m.c m.l m.o m.s=true
  .rw[if_pos hA] at h1 ⊢;cases hM:iG F ls m.k m.a.toNat m.b.toNat m.c.toNat m.l m.o m.s with
   |none=>rfl
   |some M=>
    rw[hM] at h1;dsimp only;by_cases hc:(400:Int)<(ls.length:Int)+(ce m.k).1\/(100:Int)<((ao Let.aw ls/2:Nat):Int)+(ce m.k).2
    .rw[if_pos hc]
    have e2:IL F ls m.k (some M)=sR F (mT M):=if_neg hc;rw[e2] at h1;exact absurd h1 (JC he)
  rw[if_neg hA]
 rw[h1] at pa;refine .inl ⟨mT L,?_,h2,?_,pa⟩
 .rw[if_pos h3,h4];dsimp only;unfold Ak at h1;rw[if_pos h3,h4] at h1;by_cases hc:(400:Int)<(ls.length:Int)+(ce m.k).1\/(100:Int)<((ao Let.aw ls/2:Nat):Int)+(ce m.k).2
  .have e2:IL F ls m.k (some L)=ji 7:=if_pos hc;rw[e2] at h1;exact absurd h1.symm (JC (by decide))
  rw[if_neg hc]
 have:=BI h4;rw[PI];omega
theorem Am(F:Nat)(ms:List mf):MY F ms:=fun _ m _ h=>TJ h m
def AQ(k:Int):Bool:=decide (1<=k)&&decide (k<9)
theorem Jw(k:Int):bz S 8 [vi k] (rb (AQ k)):=by
 have hk:bz S 24 [vi k] (rb (decide (1<=k)&&decide (k<=10))):=by
  by_cases h1:(1:Int)<=k
  .rw[decide_eq_true h1,adb];by_cases h2:k<=10
   .rw[decide_eq_true h2];refine aP c24 ?_;simp only[go_sem,i24,h1,h2];first|done|rfl
   rw[decide_eq_false h2];refine aP c24 ?_;simp only[go_sem,i24,h1,h2];first|done|rfl
  rw[decide_eq_false h1,Bool.false_and];refine aP c24 ?_;simp only[go_sem,i24,h1];first|done|rfl
 unfold AQ;by_cases h1:(1:Int)<=k
 .by_cases h2:k<=10
  .rw[decide_eq_true h1,decide_eq_true h2] at hk;rw[decide_eq_true h1,adb];have hk:bz S 24 [vi k] (rb true):=hk;by_cases h3:k<9
   .rw[decide_eq_true h3];refine aP c8 ?_;simp only[go_sem,i8,s24,az hk,h3];first|done|rfl
   rw[decide_eq_false h3];refine aP c8 ?_;simp only[go_sem,i8,s24,az hk,h3];first|done|rfl
  rw[decide_eq_false h2,Bool.and_false] at hk;rw[decide_eq_false (show ¬k<9 by omega),Bool.and_false];refine aP c8 ?_;simp only[go_sem,i8,s24,az hk];first|done|rfl
 rw[decide_eq_false h1,Bool.false_and] at hk;rw[decide_eq_false h1,Bool.false_and];refine aP c8 ?_;simp only[go_sem,i8,s24,az hk];first|done|rfl
theorem VC(m:mf):bz S 49 [Fw m] (rb (!AQ m.k)):=by have hs:=Jw m.k;refine aP c49 ?_;simp only[go_sem,i49,s8,az hs]
def lE(ms:List mf):Bool:=ms.all fun m=>AQ m.k
theorem Pg(ms:List mf)(hm:ms.length<=1000000):∃r,(∃i:Int,r=ri i/\(lE ms=true->i= -1)/\(lE ms=false->0<=i))/\bz S 79 [.one (.p (pR ms)),.one (.p (.fn 49 [] []))] r:=by
 refine Au rfl c79 (aaU rfl) ?_;simp only[go_sem,i79];refine bm (fun k env X9=>env 0=.one (.p (pR ms))/\env 1=.one (.p (.fn 49 [] []))/\env 7=vi ms.length/\env 8=vi k/\ ∀m∈ms.take k,AQ m.k=true) 0 ms.length (aae _) ?_ ?_
 .simp only[go_sem];first|exact⟨rfl,fun m h=>absurd h (by simp)⟩|exact⟨rfl,rfl,fun m h=>absurd h (by simp)⟩|exact fun m h=>absurd h (by simp)
 rintro k env X9 hk ⟨h0,h1,h7,h8,hA⟩
 by_cases Ye:k<ms.length
 .have Yf:((k:Int)<(ms.length:Int)):=by omega
  obtain⟨m,hm1⟩:=ai Ye;have hmi:=HS hm1;have w1:=ah (n:=k) (by omega);have pl:=VC m;have htk:ms.take (k+1)=ms.take k++[m]:=by obtain⟨hl,e⟩:=aac.1 hm1;rw[<- e,List.take_append_getElem]
  cases hb:AQ m.k with
  |false=>
   rw[hb] at pl;have hf:lE ms=false:=by unfold lE;rw[List.all_eq_false];exact⟨m,aab hm1,by rw[hb];decide⟩
   simp only[go_sem,i79_l1,h0,h1,h7,h8,Yf,hmi,mf.ps,s49,az pl];exact⟨_,⟨k,rfl,fun h=>(by rw[hf] at h;cases h),fun _=>by omega⟩,rfl⟩
  |true=>
   rw[hb] at pl;have hA':∀x∈ms.take (k+1),AQ x.k=true:=fun x hx=>by
    rw[htk] at hx;rcases aaw.1 hx with h|h
    .exact hA x h
    rw[abm.1 h];exact hb
   simp only[go_sem,i79_l1,h0,h1,h7,h8,Ye,Yf,hmi,mf.ps,w1,s49,az pl];exact hA'
 have:k=ms.length:=by omega
 subst this;rw[aaV] at hA;have ht:lE ms=true:=aaP.2 hA;simp only[go_sem,i79_l1,i79_r2,h7,h8,aW];exact⟨_,⟨-1,rfl,fun _=>rfl,fun h=>(by rw[ht] at h;cases h)⟩,rfl⟩
theorem Gv(ms:List mf)(hm:ms.length<=1000000):bz S 48 [.one (.p (pR ms)),.one (.p (.fn 49 [] []))] (rb (!lE ms)):=by
 obtain⟨_,⟨i,rfl,h1,h2⟩,pi⟩:=Pg ms hm;have:(!lE ms)=decide (0<=i):=by
  cases hs:lE ms with
  |true=>rw[h1 hs];rfl
  |false=>rw[decide_eq_true (h2 hs)];rfl
 rw[this];refine aP c48 ?_;simp only[go_sem,i48,s79,bj pi]
def AW(F:Nat)(ls:List Let)(ms:List mf):Option (List Let):=if lE ms then pQ F (r8 ls) ms else none
theorem By(h:aO (F:Int) ls=0):aO (F:Int) (r8 ls)=0:=by
 by_cases Yk:ls=[]
 .subst Yk;exact h
 obtain⟨G,e,g⟩:=rS h Yk;have:F=G:=by omega
 subst this;exact g.form g.nor.2.1
theorem W4(YL:l5){ms:List mf}(hap:MY F ms)(h0:aO (F:Int) ls=0)(hl:ls.length<=1000)(hm:ms.length<=1000):∃r,((AW F ls ms=none/\r=W6)\/ ∃L,AW F ls ms=some L/\aO (F:Int) L=0/\(r=.tup [.agg [.p (.int .i64 F),aD lN 6 (eE L)],.one (.p (.bool true))]\/(L=[]/\r=.tup [.agg [.p (.int .i64 F),.p (.sl [])],.one (.p (.bool true))])))/\bz S 25 [de F ls,.one (.p (pR ms))] r:=by
 have pn:=Dj YL (f:=F) (ls:=ls) (by omega) h0;have pc:=Gv ms (by omega);have a3:=xI (jW ls);have a3:(cO (jW ls)).norm=kL (r8 ls):=a3;have hN:=By h0;have hNl:=xn ls;unfold AW;generalize cO (jW ls)=q at*;generalize r8 ls=N at*;cases hb:lE ms with
 |false=>rw[hb] at pc;refine Au rfl c25 (aaU rfl) ?_;simp only[go_sem,i25,s6,au pn jk,s48,az pc];first|exact⟨_,.inl ⟨rfl,rfl⟩,rfl⟩|exact⟨_,.inl rfl,rfl⟩
 |true=>
  rw[hb] at pc;obtain⟨r,hr,pr⟩:=EY YL hap hN (by omega) hm;have lo:S.lone 1600256128=false:=by kernel_rfl
  simp only[if_true];refine Au rfl c25 (aaU rfl) ?_;rcases hr with ⟨hn,i,e,he,rfl⟩|⟨L,hL,hck,rfl|⟨rfl,rfl⟩⟩
  .have he':(e==0)=false:=by simpa using he
   simp only[go_sem,i25,s6,au pn jk,s48,az pc,a3,s7,au pr rH,he'];exact⟨_,.inl ⟨hn,rfl⟩,rfl⟩
  .simp only[go_sem,i25,s6,au pn jk,s48,az pc,a3,s7];refine VM pr lo fun cc Yi gc hb=>?_;have q4:=hb 1600000064 (by decide);simp only[go_sem] at q4;simp only[go_sem,q4];have gc:grown 1600256129 lN 6 (eE L) (.one cc) Yi:=gc;exact⟨_,.inr ⟨L,hL,hck,.inl rfl⟩,lT (gc.of_eq ((af (by decide)).trans ((af (by decide)).trans (af (by decide)))))⟩
  simp only[go_sem,i25,s6,au pn jk,s48,az pc,a3,s7,au pr rH];exact⟨_,.inr ⟨[],hL,hck,.inr ⟨rfl,rfl⟩⟩,rfl⟩
theorem O2(YL:l5){ms:List mf}(hap:MY F ms)(h0:aO (F:Int) ls=0)(hl:ls.length<=1000)(hm:ms.length<=1000):∃o:Option (Bool×List Let),bz S 25 [de F ls,.one (.p (pR ms))] (W5 F o)/\o.map (·.2)=AW F ls ms/\ ∀b L,o=some (b,L)->(b=true->L=[])/\aO (F:Int) L=0:=by
 obtain⟨r,hr,pl⟩:=W4 YL hap h0 hl hm;rcases hr with ⟨hn,rfl⟩|⟨L,hL,hck,rfl|⟨rfl,rfl⟩⟩
 .exact⟨none,pl,hn.symm,fun b L h=>(by cases h)⟩
 .exact⟨some (false,L),pl,hL.symm,fun b L' h=>by cases h;exact⟨(fun h=>by cases h),hck⟩⟩
 exact⟨some (true,[]),pl,hL.symm,fun b L' h=>by cases h;exact⟨fun _=>rfl,hck⟩⟩
def IX(F:Nat)(A:List Let)(p:List mf)(G:Nat)(B:List Let)(q:List mf):Bool:=match AW F A p,AW G B q with
 |some X,some Y=>decide ((F:Int)=(G:Int))&&decide (r8 X=r8 Y)
 |_,_=>false
theorem xH{f:Int}{L:List Let}(h:aO f L=0):L.length<=400:=by
 by_cases Yk:L=[]
 .subst Yk;exact aae _
 obtain⟨G,_,g⟩:=rS h Yk;exact g.len
theorem KF(YL:l5){G:Nat}{A B:List Let}{p q:List mf}(hap:MY F p)(haq:MY G q)(ck1:aO (F:Int) A=0)(ck2:aO (G:Int) B=0)(hA:A.length<=1000)(hB:B.length<=1000)(hp:p.length<=1000)(hq:q.length<=1000):bz S 9 [de F A,de G B,jnV p q] (rb (IX F A p G B q)):=by
 obtain⟨o1,pl1,m1,g1⟩:=O2 YL hap ck1 hA hp;obtain⟨o2,pl2,m2,g2⟩:=O2 YL haq ck2 hB hq;have lo1:S.lone 576064192=false:=by kernel_rfl
 have lo2:S.lone 576128192=false:=by kernel_rfl
 generalize hr:IX F A p G B q=res;unfold IX at hr;rw[<- m1,<- m2] at hr;refine aP c9 ?_;cases e1:o1 with
 |none=>
  rw[e1] at pl1 hr;have hr:false=res:=hr;subst hr;cases e2:o2 with
  |none=>rw[e2] at pl2;simp only[go_sem,i9,s25,au pl1 qF,au pl2 qF]
  |some y=>obtain⟨b2,Y⟩:=y;rw[e2] at pl2 g2;simp only[go_sem,i9,s25,au pl1 qF];refine DA pl2 (g2 _ _ rfl).1 lo2 fun c2 Yg k2 Yp=>?_;simp only[go_sem]
 |some x=>
  obtain⟨b1,X⟩:=x;rw[e1] at pl1 g1;cases e2:o2 with
  |none=>rw[e1,e2] at hr;have hr:false=res:=hr;subst hr;rw[e2] at pl2;simp only[go_sem,i9,s25];refine DA pl1 (g1 _ _ rfl).1 lo1 fun c1 Yi k1 Yo=>?_;have q3:=Yo 576000000 (by decide);have q4:=Yo 576000064 (by decide);have q5:=Yo 576000128 (by decide);simp only[go_sem] at q3 q4 q5;simp only[go_sem,q4,q5,s25,au pl2 qF]
  |some y=>
   obtain⟨b2,Y⟩:=y;rw[e1,e2] at hr;have hr:(decide ((F:Int)=(G:Int))&&decide (r8 X=r8 Y))=res:=hr;rw[e2] at pl2 g2;simp only[go_sem,i9,s25];refine DA pl1 (g1 _ _ rfl).1 lo1 fun c1 Yi k1 Yo=>?_;have q3:=Yo 576000000 (by decide);have q4:=Yo 576000064 (by decide);have q5:=Yo 576000128 (by decide);simp only[go_sem] at q3 q4 q5;simp only[go_sem,q4,q5,s25];refine DA pl2 (g2 _ _ rfl).1 lo2 fun c2 Yg k2 Yp=>?_
   have k1':qR (576064193) X c1 Yi:=k1;have k2':qR (576128193) Y c2 Yg:=k2;have z1:=Yp 576000000 (by decide);have z2:=Yp 576000064 (by decide);have z3:=Yp 576064448 (by decide);have z4:=Yp 576064193 (by decide);simp only[go_sem,q3,q4] at z1 z2 z3 z4;have anL:qR (576064193) X c1 Yg:=k1'.of_eq z4;cases hfg:((F:Int)==(G:Int)) with
   |false=>have Yk:¬(F:Int)=(G:Int):=beq_eq_false_iff_ne.1 hfg;rw[decide_eq_false Yk,Bool.false_and] at hr;subst hr;simp only[go_sem,z1,z2,hfg,bne]
   |true=>
    obtain⟨_,l1⟩:=g1 _ _ rfl;obtain⟨_,l2⟩:=g2 _ _ rfl;have ll1:=xH l1;have ll2:=xH l2;have ps:=Vg YL (A:=X) (B:=Y) (by omega) (by omega) l1 l2;rw[hr] at ps;have w1:qR (576064193) X c1 (ij (ij Yg 576128448 ((Yg 576128448).1+1,some (.var [.p (.int .i64 0),.p .nils]))) 576128448 ((Yg 576128448).1+1,some (.var [.p (.int .i64 G),c2]))):=anL.of_eq ((af (by decide)).trans (af (by decide)))
    have w2:qR (576128193) Y c2 (ij (ij Yg 576128448 ((Yg 576128448).1+1,some (.var [.p (.int .i64 0),.p .nils]))) 576128448 ((Yg 576128448).1+1,some (.var [.p (.int .i64 G),c2]))):=k2'.of_eq ((af (by decide)).trans (af (by decide)))
    obtain⟨r1,s1⟩:=w1.snap;obtain⟨r2,s2⟩:=w2.snap;cases res with
    |false=>simp only[go_sem,z1,z2,z3,hfg,bne,s1,s2,s26];refine(au ps BP).2 ?_;simp only[go_sem]
    |true=>simp only[go_sem,z1,z2,z3,hfg,bne,s1,s2,s26];refine(au ps BP).2 ?_;simp only[go_sem]
theorem EI{f:Int}{n:Int}(hn:n<=1000000):bz S 4 [de f ls,vi n] (rb (decide ((ls.length:Int)<=n)&&(aO f ls==0))):=by
 by_cases h:(ls.length:Int)<=n
 .have pc:=Tp f ls (by omega);have hd:decide ((ls.length:Int)<=n)=true:=decide_eq_true h;rw[hd];generalize aO f ls=e at*;refine aP c4 ?_;simp only[go_sem,i4,h,s10,bj pc];all_goals(first|done|exact aH|exact⟨aH,rfl⟩|rfl)
 have hd:decide ((ls.length:Int)<=n)=false:=decide_eq_false h;rw[hd];refine aP c4 ?_;simp only[go_sem,i4,h];all_goals(first|done|exact aH|exact⟨aH,rfl⟩|rfl)
section
variable {Q:dO} {env:Env} {X9:aE} {os:List aj} {d:Option Nat}
theorem SX{f:Nat}{vs:List V}{s ty z:Nat}{rd:List Nat}{es:List (List PV)}{x y w:PV}(hp:bz S f vs (.tup [.agg [.p x,aD ty z es],.one (.p y),.one (.p w)]))(Zm:S.lone s=false)(hx:x.scalar=true)(hy:y.scalar=true)(hw:w.scalar=true)(hs:(es.all fun e=>e.all PV.scalar)=true)
  (hK:∀(c:C) Ya,grown (s+1) ty z es (.one c) Ya->(∀i,i≠s+1->Ya i=X9 i)->RN S .all os Q (put env d (.tup [.agg [.p x,c],.one (.p y),.one (.p w)])) Ya):gP S .all (.pc f vs rd s) d os Q env X9:=by
 obtain⟨h1,h2,_⟩:=fO (X9:=X9) (s:=s+1) (ty:=ty) (z:=z) (es:=es);have ZP:(RV.tup [.agg [.p x,aD ty z es],.one (.p y),.one (.p w)]).alone=true:=by have a:=ay (ty:=ty) (z:=z) hs;simp only[RV.alone,eZ,dJ,ab9,acH,ado] at a;simp only[RV.alone,eZ,gh,dJ,ac3,aaE,abo,ab9,acH,ado,a,adb];show(x.scalar&&(y.scalar&&w.scalar))=true;rw[hx,hy,hw];rfl
 refine(au (v:=.tup [.agg [.p x,(ju X9 (s+1) (aD ty z es)).1],.one (.p y),.one (.p w)]) (u:=(ju X9 (s+1) (aD ty z es)).2) hp ?_).2 (hK _ _ h1 h2);rw[Zm,dZ];unfold land;rw[if_pos (.inr ZP)];simp[uu,eZ,gh,dJ,iO,lJ,iN,fD,ju]
end
end
end Go.Abs
