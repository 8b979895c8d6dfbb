/-
  The normal form of a code; Replay.
-/
import Derived.Test.YthcnadmehopfcaaGreatDoorVb
import Derived.Test.YthcnadmehopfcaaGreatDoorUa
set_option linter.all false
set_option maxRecDepth 100000
set_option maxHeartbeats 16000000
namespace Go.Abs
section
variable{F j:Nat}{x:Let}{y:List Let}
theorem JS(x y:Let):leq x y=true↔x=y:=by
 constructor
 .intro h;unfold leq at h;simp only[cN,dI] at h;obtain⟨h1,h2,h3,h4,h5,h6⟩:=h;cases x;cases y
  simp_all
 rintro rfl;exact GP x
def pJ(a b:Let):Bool:=if a.kind==b.kind then if a.gate==b.gate then if a.aE==b.aE then if a.id==b.id then if a.over==b.over then decide (a.sign<b.sign) else b.over else decide (a.id<b.id) else decide (a.aE<b.aE) else decide (a.gate<b.gate) else decide (a.kind<b.kind)
def w7:List Int->List Int->Bool
 |a::A,b::B=>if a=b then w7 A B else decide (a<b)
 |_,_=>false
theorem apV:∀ {A B:List Int},w7 A B=true->w7 B A=false:=by
 intro A
 induction A with
 |nil=>intro B h;cases B<;>cases h
 |cons a A ih=>
  intro B h;cases B with
  |nil=>cases h
  |cons b B=>
   unfold w7 at h ⊢;by_cases e:a=b
   .subst e;rw[aF rfl] at h ⊢;exact ih h
   rw[ay e] at h;rw[ay (Ne.symm e)];have:=nG h;exact u4 aa
theorem apX:∀ {A B D:List Int},w7 A B=true->w7 B D=true->w7 A D=true:=by
 intro A
 induction A with
 |nil=>intro B D h;cases B<;>cases h
 |cons a A ih=>
  intro B D h h';cases B with
  |nil=>cases h
  |cons b B=>
   cases D with
   |nil=>cases h'
   |cons d D=>
    unfold w7 at h h' ⊢;by_cases e:a=b
    .subst e;rw[aF rfl] at h;by_cases e':a=d
     .subst e';rw[aF rfl] at h' ⊢;exact ih h h'
     rw[ay e'] at h' ⊢;exact h'
    rw[ay e] at h;have h1:=nG h;by_cases e':b=d
    .subst e';rw[ay e];exact h
    rw[ay e'] at h';have h2:=nG h';rw[ay aa];exact xx aa
def JO(a:Let):List Int:=[a.kind,a.gate,a.aE,a.id,if a.over then 1 else 0,a.sign]
theorem QF(a b:Let):pJ a b=w7 (JO a) (JO b):=by
 cases a with|mk k g r i s o=>cases b with|mk k' g' r' i' s' o'=>
 unfold pJ JO;simp only[w7];by_cases h1:k=k'
 .by_cases h2:g=g'
  .by_cases h3:r=r'
   .by_cases h4:i=i'
    .cases o<;>cases o'<;>by_cases h6:s=s'<;>simp[h1,h2,h3,h4,h6]
    simp[h1,h2,h3,h4]
   simp[h1,h2,h3]
  simp[h1,h2]
 simp[h1]
theorem apR{a b:Let}(h:pJ a b=true):pJ b a=false:=by rw[QF] at*;exact apV h
theorem apS{a b c:Let}(h1:pJ a b=true)(h2:pJ b c=true):pJ a c=true:=by rw[QF] at*;exact apX h1 h2
def mD:List Let->List Let->Bool
 |a::A,b::B=>if leq a b then mD A B else pJ a b
 |_,_=>false
theorem ajQ(A:List Let):mD A A=false:=by
 induction A with
 |nil=>rfl
 |cons a A ih=>unfold mD;rw[aF (GP a)];exact ih
theorem ZH:∀ {A B D:List Let},mD A B=true->mD B D=true->mD A D=true:=by
 intro A
 induction A with
 |nil=>intro B D h;cases B<;>cases h
 |cons a A ih=>
  intro B D h h';cases B with
  |nil=>cases h
  |cons b B=>
   cases D with
   |nil=>cases h'
   |cons d D=>
    unfold mD at h h' ⊢;by_cases e:a=b
    .subst e;rw[aF (GP a)] at h;by_cases e':a=d
     .subst e';rw[aF (GP a)] at h' ⊢;exact ih h h'
     have e1:¬leq a d=true:=fun x=>e' ((JS _ _).1 x);rw[ay e1] at h' ⊢;exact h'
    have e1:¬leq a b=true:=fun x=>e ((JS _ _).1 x);rw[ay e1] at h;by_cases e':b=d
    .subst e';rw[ay e1];exact h
    have e2:¬leq b d=true:=fun x=>e' ((JS _ _).1 x);rw[ay e2] at h';have e3:¬leq a d=true:=fun x=>by have:=(JS _ _).1 x;subst this;rw[apR h] at h';cases h'
    rw[ay e3];exact apS h h'
def fj(l:List Let)(i:Nat):List Let:=l.drop i++l.take i
def par(l:List Let)(i:Nat):Prop:=aw Let.aG (l.take i)%2=0
def DT(l:List Let)(i:Nat):Prop:=(∃x,l[i]?=some x/\x.aG=true)/\par l i
theorem Hh(l:List Let)(i:Nat):(fj l i).length=l.length:=by unfold fj;rw[ff,jy,fX];omega
theorem AM(q:Let->Bool)(a b:List Let):aw q (a++b)=aw q a+aw q b:=v7
theorem S5(q:Let->Bool)(l:List Let)(i:Nat):aw q (fj l i)=aw q l:=by unfold fj;rw[AM,Ld,<- AM,nC]
theorem asQ{l:List Let}{i:Nat}(hj:j<=l.length)(hi:i<l.length):∃k,k<l.length/\fj (fj l j) i=fj l k/\(fj l j)[i]?=l[k]? /\(aw Let.aG l%2=0->par l j->par (fj l j) i->par l k):=by
 by_cases h:i<l.length-j
 .refine⟨j+i,aa,?_,?_,?_⟩
  .unfold fj;rw[aii (by rw[jy];omega),OI (by rw[jy];omega),Yq,yK];congr 1;rw[<- List.take_add]
  .unfold fj;rw[uY (by rw[jy];omega),xu]
  unfold par fj;intro _ h1 h2;rw[OI (by rw[jy];omega)] at h2;rw[List.take_add,AM];omega
 refine⟨i-(l.length-j),aa,?_,?_,?_⟩
 .unfold fj;obtain⟨d,hd⟩:∃d,d=i-(l.length-j):=⟨_,rfl⟩;rw[<- hd];have e1:(l.drop j++l.take j).drop i=(l.take j).drop d:=by
   rw[aih,Se (by rw[jy];omega),fY,jy,hd]
  have e2:(l.drop j++l.take j).take i=l.drop j++(l.take j).take d:=by rw[OH,fR (by rw[jy];omega),jy,hd]
  rw[e1,e2,<- yK];have e3:(l.take j).take d=l.take d:=by rw[HL,Ar aa]
  rw[e3];congr 1;have e4:l.drop d=(l.take j).drop d++l.drop j:=by
   conv=>lhs;rw[<- nC j l]
   rw[aii (by rw[fX];omega)]
  exact e4.symm
 .unfold fj;rw[v8 (by rw[jy];omega),jy,kJ];rw[aF aa]
 unfold par fj;intro ht h1 h2;rw[OH,fR (by rw[jy];omega),jy,AM,HL,Ar aa] at h2;have:aw Let.aG l=aw Let.aG (l.take j)+aw Let.aG (l.drop j):=by rw[<- AM,nC]
 omega
def kV:List Int->List Let->List Let
 |_,[]=>[]
 |s,x::r=>if x.kind==2 then (if s.contains x.id then {x with id:=((s.idxOf x.id+1:Nat):Int)}::kV s r else {x with id:=((s.length+1:Nat):Int)}::kV (s++[x.id]) r) else x::kV s r
def vR(l:List Let):List Let:=kV [] l
def eW(f:Int->Int)(x:Let):Let:=if x.kind==2 then {x with id:=f x.id} else x
theorem Zn(f:Int->Int)(x:Let):(eW f x).kind=x.kind:=by unfold eW;split<;>rfl
theorem Fz(f:Int->Int)(x:Let):(eW f x).aG=x.aG:=by unfold Let.aG;rw[Zn]
def inj(f:Int->Int)(l:List Let):Prop:=∀x∈l,∀y∈l,x.kind=2->y.kind=2->f x.id=f y.id->x.id=y.id
theorem asv{f:Int->Int}:∀ {l:List Let} {s:List Int},(∀x∈l,x.kind=2->∀a∈s,f x.id=f a->x.id=a)->inj f l->kV (s.map f) (l.map (eW f))=kV s l:=by
 intro l
 induction l with
 |nil=>intro s _ _;rfl
 |cons x r ih=>
  intro s hs hi;have uE:inj f r:=fun a ha b hb=>hi a (ug _ ha) b (ug _ hb);by_cases hk:x.kind=2
  .have l5:(x.kind==2)=true:=by rw[hk];rfl
   have e:eW f x={x with id:=f x.id}:=aF l5;have inc:(s.map f).contains (f x.id)=s.contains x.id:=by
    rw[Sc,KX,KX,dp];constructor
    .rintro ⟨a,ha,h⟩
     rw[hs x af hk a ha h.symm];exact ha
    intro h;exact⟨x.id,h,rfl⟩
   rw[dK,e];unfold kV;simp only[l5,if_true,inc];cases hc:s.contains x.id with
   |true=>
    simp only[if_true];have CG:(s.map f).idxOf (f x.id)=s.idxOf x.id:=by
     clear ih;have CU:∀a∈s,f x.id=f a->x.id=a:=hs x af hk;clear hs inc hc
     induction s with
     |nil=>rfl
     |cons a s ihs=>
      rw[dK,Sh,Sh];by_cases h:a=x.id
      .subst h;simp
      have h2:¬f a=f x.id:=fun h3=>h (CU a af h3.symm).symm;rw[show(f a==f x.id)=false from lE.2 h2,show(a==x.id)=false from lE.2 h];simp only[cond_false];rw[ihs fun b hb=>CU b (by simp[hb])]
    rw[CG,ih (fun y hy=>hs y (ug _ hy)) uE]
   |false=>
    simp only[dx,if_false,cD];have:=ih (s:=s++[x.id]) (fun y hy CW a ha h=>by
     rcases eD.1 ha with h1|h1
     .exact hs y (ug _ hy) CW a h1 h
     rw[lD.1 h1] at h ⊢;exact hi y (ug _ hy) x af CW hk h) uE
    rw[j6] at this;rw[<- this];rfl
  have l5:(x.kind==2)=false:=lE.2 hk;have e:eW f x=x:=ay (by rw[l5];decide);rw[dK,e];unfold kV;simp only[l5,dx,if_false];rw[ih (fun y hy=>hs y (ug _ hy)) uE]
theorem agB{f:Int->Int}{l:List Let}(h:inj f l):vR (l.map (eW f))=vR l:=asv (s:=[]) (fun _ _ _ _ ha=>by cases ha) h
def iA:List Int->List Let->List Int
 |s,[]=>s
 |s,x::r=>if x.kind==2 then (if s.contains x.id then iA s r else iA (s++[x.id]) r) else iA s r
theorem ag0:∀(l:List Let) (s:List Int),∃t,iA s l=s++t:=by
 intro l
 induction l with
 |nil=>intro s;exact⟨[],by simp[iA]⟩
 |cons x r ih=>
  intro s;unfold iA;split
  .split
   .exact ih s
   obtain⟨t,h⟩:=ih (s++[x.id]);exact⟨x.id::t,by rw[h];simp⟩
  exact ih s
theorem adF{s t:List Int}{a:Int}(h:a∈s):(s++t).idxOf a=s.idxOf a:=by rw[ain,aF h]
theorem agz:∀(l:List Let) (s:List Int),kV s l=l.map (eW fun a=>(((iA s l).idxOf a+1:Nat):Int))/\ ∀x∈l,x.kind=2->x.id∈iA s l:=by
 intro l
 induction l with
 |nil=>intro s;exact⟨rfl,fun x h=>by cases h⟩
 |cons x r ih=>
  intro s;by_cases hk:x.kind=2
  .have l5:(x.kind==2)=true:=by rw[hk];rfl
   cases hc:s.contains x.id with
   |true=>
    have hm:x.id∈s:=KX.1 hc;have e:iA s (x::r)=iA s r:=by simp only[iA,l5,hc,if_true]
    obtain⟨h1,h2⟩:=ih s;obtain⟨t,ht⟩:=ag0 r s;refine⟨?_,?_⟩
    .have e0:kV s (x::r)={x with id:=((s.idxOf x.id+1:Nat):Int)}::kV s r:=by simp only[kV,l5,hc,if_true]
     rw[e,e0,dK,h1];congr 1;unfold eW;rw[aF l5,ht];dsimp only;rw[adF hm]
    rw[e];intro y hy CW;rcases cM.1 hy with rfl|hy
    .rw[ht];exact Fl _ hm
    exact h2 y hy CW
   |false=>
    have e:iA s (x::r)=iA (s++[x.id]) r:=by simp only[iA,l5,hc,if_true,dx,if_false]
    obtain⟨h1,h2⟩:=ih (s++[x.id]);obtain⟨t,ht⟩:=ag0 r (s++[x.id]);have hn:¬x.id∈s:=fun h=>by rw[KX.2 h] at hc;cases hc
    refine⟨?_,?_⟩
    .have e0:kV s (x::r)={x with id:=((s.length+1:Nat):Int)}::kV (s++[x.id]) r:=by simp only[kV,l5,hc,if_true,dx,if_false]
     rw[e,e0,dK,h1];congr 1;unfold eW;rw[aF l5,ht];dsimp only;rw[adF af,ain,ay hn];simp
    rw[e];intro y hy CW;rcases cM.1 hy with rfl|hy
    .rw[ht];simp
    exact h2 y hy CW
  have l5:(x.kind==2)=false:=lE.2 hk;have e:iA s (x::r)=iA s r:=by simp only[iA,l5,dx,if_false]
  obtain⟨h1,h2⟩:=ih s;refine⟨?_,?_⟩
  .have e0:kV s (x::r)=x::kV s r:=by simp only[kV,l5,dx,if_false]
   rw[e,e0,dK,h1];rw[show eW (fun a=>(((iA s r).idxOf a+1:Nat):Int)) x=x from ay (by rw[l5];decide)]
  rw[e];intro y hy CW;rcases cM.1 hy with rfl|hy
  .exact absurd CW hk
  exact h2 y hy CW
theorem adD{S:List Int}{a b:Int}(ha:a∈S)(hb:b∈S)(h:S.idxOf a=S.idxOf b):a=b:=by have h1:=Yu (OD.2 ha);have h2:=Yu (OD.2 hb);rw[<- h1,<- h2];simp only[h]
theorem XI(l:List Let):∃f,inj f l/\vR l=l.map (eW f):=by obtain⟨h1,h2⟩:=agz l [];refine⟨_,?_,h1⟩;intro x hx y hy xk yk h;dsimp only at h;exact adD (h2 x hx xk) (h2 y hy yk) aa
theorem WH{f:Int->Int}{l m:List Let}(h:inj f l)(hm:∀x∈m,x∈l):inj f m:=fun x hx y hy=>h x (hm x hx) y (hm y hy)
theorem agF(f:Let->Let)(l:List Let)(i:Nat):fj (l.map f) i=(fj l i).map f:=by unfold fj;simp
theorem QH{l:List Let}{i:Nat}:x∈fj l i↔x∈l:=by unfold fj;rw[eD,Or.comm,<- eD,nC]
def tE(l y:List Let):Prop:= ∃i,i<l.length/\DT l i/\y=vR (fj l i)
def vj(l y:List Let):Prop:=tE l y\/tE l.reverse y
theorem S3{f:Int->Int}(l:List Let):aw Let.aG (l.map (eW f))=aw Let.aG l:=by show List.countP _ _=List.countP _ _;rw[Ao];exact KY fun x _=>by rw[Function.comp_apply,Fz]
theorem alP{f:Int->Int}{l:List Let}{i:Nat}(h:DT (l.map (eW f)) i):DT l i:=by
 obtain⟨⟨x,hx,hp⟩,h2⟩:=h;rw[fQ] at hx;cases hl:l[i]? with
 |none=>rw[hl] at hx;cases hx
 |some y=>rw[hl] at hx;cases hx;refine⟨⟨y,hl,by rw[Fz] at hp;exact hp⟩,?_⟩;unfold par at*;rw[<- HH,S3] at h2;exact h2
theorem amD{f:Int->Int}{l:List Let}(hf:inj f l)(h:tE (l.map (eW f)) y):tE l y:=by obtain⟨i,hi,he,rfl⟩:=h;rw[cD] at hi;refine⟨i,hi,alP he,?_⟩;rw[agF,agB (WH hf fun x hx=>QH.1 hx)]
theorem acj{l:List Let}(hj:j<=l.length)(he:aw Let.aG l%2=0)(hp:par l j)(h:tE (fj l j) y):tE l y:=by obtain⟨i,hi,⟨⟨x,hx,xp⟩,h2⟩,rfl⟩:=h;rw[Hh] at hi;obtain⟨k,hk,e1,e2,e3⟩:=asQ hj hi;rw[e2] at hx;exact⟨k,hk,⟨⟨x,hx,xp⟩,e3 he hp h2⟩,by rw[e1]⟩
theorem asF(l:List Let)(hj:j<=l.length):(fj l j).reverse=fj l.reverse (l.length-j):=by unfold fj;rw[List.reverse_append,List.drop_reverse,air];congr 2<;>(congr 1;omega)
theorem aq1{l:List Let}(hj:j<=l.length)(he:aw Let.aG l%2=0)(hp:par l j):par l.reverse (l.length-j):=by
 unfold par at*;rw[air,show l.length-(l.length-j)=j by omega];have h1:aw Let.aG (l.drop j).reverse=aw Let.aG (l.drop j):=List.countP_reverse;have h2:aw Let.aG l=aw Let.aG (l.take j)+aw Let.aG (l.drop j):=by rw[<- AM,nC]
 rw[h1];omega
def vT(x:aO):aO:=⟨⟨x.p.l,!x.p.d⟩,iB x.o,iB x.i⟩
theorem agS(x:aO):(vT x).up=x.up:=by unfold aO.up vT;cases x.p.d<;>rfl
theorem agR(x:aO):(vT x).lo=x.lo:=by unfold aO.lo vT;cases x.p.d<;>rfl
theorem X4.rv{g:Bool}{i o j q:dX}(h:X4 g i o j q):X4 g (iB o) (iB i) (iB q) (iB j):=by
 obtain⟨a,b,c,d⟩:=h;cases g
 .simp only[dx,if_false] at a b c d;constructor<;>simp only[dx,if_false,iB]
  .exact b
  .exact a
  .exact d
  exact c
 simp only[if_true] at a b c d;constructor<;>simp only[if_true,iB]
 .exact b
 .exact a
 .exact d
 exact c
theorem Xr.rv{x y:aO}(h:Xr x y):Xr (vT x) (vT y):=fun hc mc e=>by obtain⟨h1,h2,h3⟩:=h hc mc e;exact⟨h1,h2,h3.rv⟩
theorem ara:∀ {z:List aO} {s t:dX},jS s z t->jS (iB t) (z.reverse.map vT) (iB s):=by
 intro z
 induction z with
 |nil=>intro s t h;cases h;rfl
 |cons x z ih=>intro s t h;obtain⟨rfl,h⟩:=h;rw[List.reverse_cons,j6];exact NY.2 ⟨iB x.o,ih h,rfl,rfl⟩
theorem aq7:∀ {z:List aO} {s t:dX},jS s z t->∀x∈z,(∃y∈z,y.i=x.o)\/x.o=t:=by
 intro z
 induction z with
 |nil=>intro s t _ x hx;cases hx
 |cons a z ih=>
  intro s t h x hx;obtain⟨rfl,h⟩:=h;rcases cM.1 hx with rfl|hx
  .cases z with
   |nil=>exact .inr h
   |cons b z=>exact .inl ⟨b,af,h.1⟩
  rcases ih h x hx with ⟨y,hy,e⟩|e
  .exact .inl ⟨y,by simp[hy],e⟩
  exact .inr e
theorem Cz.next{z:List aO}{T B:Nat->Nat->Nat}{S:List Nat}(c:Cz F z T B S){x:aO}(hx:x∈z):∃y∈z,y.i=x.o:=by
 obtain⟨s,h⟩:=c.path;rcases aq7 h x hx with e|e
 .exact e
 cases z with
 |nil=>cases hx
 |cons a z=>exact⟨a,af,by rw[h.1,e]⟩
theorem JV(z:List aO):aQ (z.reverse.map vT)=(aQ z).reverse:=by rw[<- Si];show List.map _ (List.map _ _)=_;rw[tm];rfl
theorem yZ(q:Let->Bool)(l:List Let):aw q l.reverse=aw q l:=List.countP_reverse
theorem Cz.rv{z:List aO}{T B:Nat->Nat->Nat}{S:List Nat}(c:Cz F z T B S):Cz F (z.reverse.map vT) T B S:=by
 obtain⟨s,h⟩:=c.path;have hm:∀x∈z.reverse.map vT,∃y∈z,x=vT y:=fun x hx=>by obtain⟨y,hy,rfl⟩:=dp.1 hx;exact⟨y,Sj.1 hy,rfl⟩
 have ec:∀g,cg (aQ (z.reverse.map vT)) g=cg (aQ z) g:=fun g=>by rw[JV];exact yZ _ _
 refine⟨⟨_,ara h⟩,fun x hx=>?_,?_,by rw[JV,yZ];exact c.ev,fun x hx hc=>?_,?_,fun x hx hp=>?_,fun x hx hp=>?_,fun g hg=>by rw[ec];exact c.gt g hg,by rw[ec];exact c.gz,?_,c.nd,fun s hs=>?_,by rw[JV,yZ,yZ];exact c.num⟩
 .obtain⟨y,hy,rfl⟩:=hm x hx;obtain⟨o1,o2,o3⟩:=c.ok y hy;refine⟨o1,fun hc=>(o2 hc).symm,fun hp=>?_⟩;obtain⟨p1,p2⟩:=o3 hp;refine⟨p2,?_⟩;show y.o.b= !(!y.p.d);rw[p1,Fj]
 .refine yO.2 (List.pairwise_reverse.2 (c.cr.imp fun {a b} eH=>eH.symm.rv))
 .obtain⟨y,hy,rfl⟩:=hm x hx;rw[JV,yZ];exact c.ids y hy hc
 .refine yO.2 (List.pairwise_reverse.2 (c.rk.imp fun {a b} eH=>eH.symm))
 .obtain⟨y,hy,rfl⟩:=hm x hx;rw[ec];exact c.rr y hy hp
 .obtain⟨y,hy,rfl⟩:=hm x hx;obtain⟨a,b,d,e⟩:=c.pl y hy hp;exact⟨by rw[agS];exact a,by rw[agS];exact b,by rw[agR];exact d,by rw[agR];exact e⟩
 .obtain⟨x,hx,hp⟩:=c.one;exact⟨vT x,dp.2 ⟨x,Sj.2 hx,rfl⟩,hp⟩
 obtain⟨x,hx,e⟩:=c.wit s hs;obtain⟨y,hy,e2⟩:=c.next hx;refine⟨vT y,dp.2 ⟨y,Sj.2 hy,rfl⟩,?_⟩;show s=y.i.r\/s=y.i.l;rw[e2];exact e.symm
def lk(f:Int->Int)(x:aO):aO:=⟨⟨eW f x.p.l,x.p.d⟩,x.i,x.o⟩
theorem Lm(f:Int->Int)(x:Let):(eW f x).gate=x.gate:=by unfold eW;split<;>rfl
theorem OS(f:Int->Int)(x:Let):(eW f x).aE=x.aE:=by unfold eW;split<;>rfl
theorem SG(f:Int->Int)(x:Let):(eW f x).sign=x.sign:=by unfold eW;split<;>rfl
theorem SF(f:Int->Int)(x:Let):(eW f x).over=x.over:=by unfold eW;split<;>rfl
theorem SD(f:Int->Int)(x:Let):(eW f x).aC=x.aC:=by unfold Let.aC;rw[Zn]
theorem SC{f:Int->Int}(h:x.aC=true):(eW f x).id=f x.id:=by unfold eW;rw[aF (show(x.kind==2)=true from h)]
theorem ajb{f:Int->Int}(h:x.aC=false):eW f x=x:=by unfold eW;exact ay (by rw[show(x.kind==2)=false from h];decide)
theorem ajN{f:Int->Int}(h:dy F x=false):dy F (eW f x)=false:=by
 cases hc:x.aC
 .rw[ajb hc];exact h
 have:eW f x={x with id:=f x.id}:=aF hc;rw[this];rcases yX h with hp|_
 .rw[nz hp] at hc;cases hc
 unfold dy at h ⊢;unfold Let.aC at hc;have hk:x.kind=2:=dI.1 hc
 simpa [hk] using h
theorem NJ(f:Int->Int)(z:List aO):aQ (z.map (lk f))=(aQ z).map (eW f):=by show List.map _ (List.map _ _)=List.map _ (List.map _ _);rw[tm,tm];rfl
theorem O3{f:Int->Int}{q:Let->Bool}(hq:∀x,q (eW f x)=q x)(l:List Let):aw q (l.map (eW f))=aw q l:=by show List.countP _ _=List.countP _ _;rw[Ao];exact KY fun x _=>by rw[Function.comp_apply,hq]
theorem akr(f:Int->Int)(l:List Let)(g:Nat):cg (l.map (eW f)) g=cg l g:=O3 (fun x=>by unfold nJ;rw[Fz,Lm]) l
theorem Cz.rn{z:List aO}{T B:Nat->Nat->Nat}{S:List Nat}(c:Cz F z T B S){f:Int->Int}(hf:inj f (aQ z))(hi:∀x∈z,x.k.aC=true->1<=f x.k.id/\f x.k.id<=((aw Let.aC (aQ z)/2:Nat):Int)):Cz F (z.map (lk f)) T B S:=by
 obtain⟨s,h⟩:=c.path;have hm:∀x∈z.map (lk f),∃y∈z,x=lk f y:=fun x hx=>by obtain⟨y,hy,rfl⟩:=dp.1 hx;exact⟨y,hy,rfl⟩
 have ec:∀g,cg (aQ (z.map (lk f))) g=cg (aQ z) g:=fun g=>by rw[NJ,akr]
 have eC:aw Let.aC (aQ (z.map (lk f)))=aw Let.aC (aQ z):=by rw[NJ];exact O3 (SD f) _
 have eP:aw Let.aG (aQ (z.map (lk f)))=aw Let.aG (aQ z):=by rw[NJ];exact O3 (Fz f) _
 have kC:∀y:aO,(lk f y).k.aC=y.k.aC:=fun y=>SD f y.k;have kP:∀y:aO,(lk f y).k.aG=y.k.aG:=fun y=>Fz f y.k;have kl:∀y∈z,y.k∈aQ z:=fun y hy=>dp.2 ⟨y,hy,rfl⟩;have Wn:∀ {z:List aO} {s t:dX},jS s z t->jS s (z.map (lk f)) t:=by
  intro z
  induction z with
  |nil=>intro s t h;exact h
  |cons x z ih=>intro s t h;exact⟨h.1,ih h.2⟩
 refine⟨⟨s,Wn h⟩,fun x hx=>?_,?_,by rw[eC];exact c.ev,fun x hx hc=>?_,?_,fun x hx hp=>?_,fun x hx hp=>?_,fun g hg=>by rw[ec];exact c.gt g hg,by rw[ec];exact c.gz,?_,c.nd,fun s hs=>?_,by rw[eP,eC];exact c.num⟩
 .obtain⟨y,hy,rfl⟩:=hm x hx;obtain⟨o1,o2,o3⟩:=c.ok y hy;exact⟨ajN o1,fun hc=>o2 (by rw[kC] at hc;exact hc),fun hp=>o3 (by rw[kP] at hp;exact hp)⟩
 .refine yO.2 (Yl (fun {a b} ha hb eH=>?_) c.cr);intro ac bc e;rw[kC] at ac bc;have e2:f a.k.id=f b.k.id:=by
   have:=e;rw[show(lk f a).k.id=f a.k.id from SC ac,show(lk f b).k.id=f b.k.id from SC bc] at this;exact this
  obtain⟨h1,h2,h3⟩:=eH ac bc (hf _ (kl a ha) _ (kl b hb) (dI.1 ac) (dI.1 bc) e2);refine⟨?_,?_,?_⟩
  .show(eW f a.k).over= !(eW f b.k).over;rw[SF,SF];exact h1
  .show(eW f a.k).sign=(eW f b.k).sign;rw[SG,SG];exact h2
  show X4 (gX (eW f a.k)) _ _ _ _;have:gX (eW f a.k)=gX a.k:=by unfold gX;rw[SF,SG]
  rw[this];exact h3
 .obtain⟨y,hy,rfl⟩:=hm x hx;rw[kC] at hc;rw[eC,show(lk f y).k.id=f y.k.id from SC hc];exact hi y hy hc
 .refine yO.2 (c.rk.imp fun {a b} eH=>?_);intro ap bp e1 e2;rw[kP] at ap bp;refine eH ap bp ?_ ?_
  .have:=e1;rw[show(lk f a).k.gate=a.k.gate from Lm f a.k,show(lk f b).k.gate=b.k.gate from Lm f b.k] at this;exact this
  have:=e2;rw[show(lk f a).k.aE=a.k.aE from OS f a.k,show(lk f b).k.aE=b.k.aE from OS f b.k] at this;exact this
 .obtain⟨y,hy,rfl⟩:=hm x hx;rw[kP] at hp;rw[ec,show(lk f y).k.aE=y.k.aE from OS f y.k,show(lk f y).k.gate=y.k.gate from Lm f y.k];exact c.rr y hy hp
 .obtain⟨y,hy,rfl⟩:=hm x hx;rw[kP] at hp;obtain⟨a,b,d,e⟩:=c.pl y hy hp;have u:(lk f y).up=y.up:=rfl;have w:(lk f y).lo=y.lo:=rfl;have eg:(lk f y).k.gate=y.k.gate:=Lm f y.k;have er:(lk f y).k.aE=y.k.aE:=OS f y.k;exact⟨by rw[u,eg,er];exact a,by rw[u,eg,er];exact b,by rw[w,eg,er];exact d,by rw[w,eg,er];exact e⟩
 .obtain⟨x,hx,hp⟩:=c.one;exact⟨lk f x,dp.2 ⟨x,hx,rfl⟩,by rw[kP];exact hp⟩
 obtain⟨x,hx,e⟩:=c.wit s hs;exact⟨lk f x,dp.2 ⟨x,hx,rfl⟩,e⟩
theorem agZ:∀(l:List Let) (s:List Int),s.Nodup->(iA s l).Nodup/\ ∀a∈iA s l,a∈s\/ ∃x∈l,x.aC=true/\x.id=a:=by
 intro l
 induction l with
 |nil=>intro s h;exact⟨h,fun a ha=>.inl ha⟩
 |cons x r ih=>
  intro s h;unfold iA;split
  .rename_i hk;split
   .obtain⟨h1,h2⟩:=ih s h;refine⟨h1,fun a ha=>?_⟩;rcases h2 a ha with h3|⟨y,hy,h3⟩
    .exact .inl h3
    exact .inr ⟨y,by simp[hy],h3⟩
   rename_i hc;have hn:¬x.id∈s:=fun h=>hc (KX.2 h);obtain⟨h1,h2⟩:=ih (s++[x.id]) (by rw[Dz];refine⟨h,af,fun a ha b hb e=>?_⟩;rw[lD.1 hb] at e;exact hn (e▸ha))
   refine⟨h1,fun a ha=>?_⟩;rcases h2 a ha with h3|⟨y,hy,h3⟩
   .rcases eD.1 h3 with h3|h3
    .exact .inl h3
    exact .inr ⟨x,af,hk,(lD.1 h3).symm⟩
   exact .inr ⟨y,by simp[hy],h3⟩
  obtain⟨h1,h2⟩:=ih s h;refine⟨h1,fun a ha=>?_⟩;rcases h2 a ha with h3|⟨y,hy,h3⟩
  .exact .inl h3
  exact .inr ⟨y,by simp[hy],h3⟩
theorem asw(l:List Let)(hi:∀x∈l,x.aC=true->1<=x.id/\x.id<=((aw Let.aC l/2:Nat):Int)):∃f,inj f l/\vR l=l.map (eW f)/\ ∀x∈l,x.aC=true->1<=f x.id/\f x.id<=((aw Let.aC l/2:Nat):Int):=by
 obtain⟨h1,h2⟩:=agz l [];refine⟨_,?_,h1,?_⟩
 .intro x hx y hy xk yk h;dsimp only at h;exact adD (h2 x hx xk) (h2 y hy yk) aa
 intro x hx hc;have hm:=h2 x hx (dI.1 hc);have au:=OD.2 hm;obtain⟨n1,n2⟩:=agZ l [] uh;have hr:∀a∈iA [] l,1<=a/\a<=((aw Let.aC l/2:Nat):Int):=fun a ha=>by
  rcases n2 a ha with h3|⟨y,hy,yc,rfl⟩
  .cases h3
  exact hi y hy yc
 have:=KG ((iA [] l).map Int.toNat) (List.range' 1 (aw Let.aC l/2)) ?_ ?_
 .rw[cD,List.length_range'] at this;omega
 .refine yO.2 (Yl (fun {a b} ha hb h e=>h ?_) n1);have:=hr a ha;have:=hr b hb;omega
 intro x hx;obtain⟨id,hid,rfl⟩:=dp.1 hx;have:=hr id hid;rw[List.mem_range'_1];omega
theorem Cz.rotN{z:List aO}{T B:Nat->Nat->Nat}{S:List Nat}(c:Cz F z T B S)(i:Nat):Cz F (z.drop i++z.take i) T B S:=by rw[<- nC i z] at c;exact c.kG
theorem ack{z:List aO}{T B:Nat->Nat->Nat}{S:List Nat}(c:Cz F z T B S)(h0:∀x,z[0]?=some x->x.i.b=false)(hl:z.length<=400)(eI:aw Let.aC (aQ z)<=200)(hF:F<=40)(h:tE (aQ z) y):cQ F y=0:=by
 obtain⟨i,hi,⟨⟨x,hx,hp⟩,Ni⟩,rfl⟩:=h;obtain⟨e,he,rfl⟩:=C0 hx;have hd:e.p.d=true:=by
  obtain⟨s,hs⟩:=c.path;have hlen:0<z.length:=by have:=(aW.1 he).1;omega
  obtain⟨a,ha⟩:∃a,z[0]?=some a:=⟨z[0],my hlen⟩;have hb:s.b=false:=by rw[<- NZ hs ha];exact h0 a ha
  have:=(Xq c.ok hs hb i e he).1;have hm:=aU he;have h2:=((c.ok e hm).pb hp).2;rw[this] at h2;have h3:dn (aQ z) i=true:=by
   unfold dn;have:aw Let.aG ((aQ z).take i)%2=0:=Ni
   simpa using this
  rw[h3] at h2;cases hq:e.p.d
  .rw[hq] at h2;cases h2
  rfl
 have c2:=c.rotN i;have e1:aQ (z.drop i++z.take i)=fj (aQ z) i:=by unfold fj aQ;rw[j6,OF,HH]
 have ec:aw Let.aC (fj (aQ z) i)=aw Let.aC (aQ z):=S5 _ _ _;obtain⟨f,hf,hr,kr⟩:=asw (fj (aQ z) i) (fun x hx hc=>by rw[ec];obtain⟨w,hw,rfl⟩:=dp.1 (QH.1 hx);exact c.ids w hw hc)
 rw[hr];rw[<- e1] at hf kr;have c3:=c2.rn hf (fun x hx hc=>kr _ (dp.2 ⟨x,hx,rfl⟩) hc);have zB:z.drop i=e::z.drop (i+1):=by obtain⟨hl,e⟩:=aW.1 he;rw[<- e,tj]
 rw[<- e1,<- NJ];refine c3.check (x:=lk f e) (r:=(z.drop (i+1)++z.take i).map (lk f)) (by rw[zB];rfl) ?_ hd ?_ ?_ hF
 .show(eW f e.k).aG=true;rw[Fz];exact hp
 .rw[cD,ff,jy,fX];omega
 rw[NJ,O3 (SD f),e1,ec];exact eI
theorem apz(a b:Let):aK S 81 [JT a,JT b] (rb (pJ a b)):=by
 by_cases h1:a.kind=b.kind
 .by_cases h2:a.gate=b.gate
  .by_cases h3:a.aE=b.aE
   .by_cases h4:a.id=b.id
    .cases h5:(a.over==b.over) with
     |true=>
      have e:pJ a b=decide (a.sign<b.sign):=by simp only[pJ,h1,h2,h3,h4,h5,BS,if_true]
      rw[e];refine bh c81 ?_;simp only[go_sem,i81,h1,h2,h3,h4,h5,bne]
     |false=>
      have e:pJ a b=b.over:=by simp only[pJ,h1,h2,h3,h4,h5,BS,if_true,dx,if_false]
      rw[e];refine bh c81 ?_;simp only[go_sem,i81,h1,h2,h3,h4,h5,bne]
    have uA:(a.id==b.id)=false:=by simp[h4]
    have e:pJ a b=decide (a.id<b.id):=by simp only[pJ,h1,h2,h3,uA,BS,if_true,dx,if_false]
    rw[e];refine bh c81 ?_;simp only[go_sem,i81,h1,h2,h3,uA,bne]
   have qd:(a.aE==b.aE)=false:=by simp[h3]
   have e:pJ a b=decide (a.aE<b.aE):=by simp only[pJ,h1,h2,qd,BS,if_true,dx,if_false]
   rw[e];refine bh c81 ?_;simp only[go_sem,i81,h1,h2,qd,bne]
  have iV:(a.gate==b.gate)=false:=by simp[h2]
  have e:pJ a b=decide (a.gate<b.gate):=by simp only[pJ,h1,iV,BS,if_true,dx,if_false]
  rw[e];refine bh c81 ?_;simp only[go_sem,i81,h1,iV,bne]
 have jB:(a.kind==b.kind)=false:=by simp[h1]
 have e:pJ a b=decide (a.kind<b.kind):=by simp only[pJ,jB,dx,if_false]
 rw[e];refine bh c81 ?_;simp only[go_sem,i81,jB,bne]
theorem aaE{A:List Let}{k:Nat}(h:k<A.length):A.drop k=lA A k::A.drop (k+1):=by have:=Bi h;obtain⟨h1,e⟩:=aW.1 this;rw[<- e,tj]
theorem ajS(A B:List Let)(hAB:A.length=B.length)(hl:A.length<=1000000):aK S 53 [.one (.p (cK A)),.one (.p (cK B))] (rb (mD A B)):=by
 generalize hr:mD A B=r;refine bh c53 ?_;simp only[go_sem,i53];refine cU (fun k ak aj=>ak 0=.one (.p (cK A))/\ak 1=.one (.p (cK B))/\ak 7=vi A.length/\ak 8=vi k/\mD (A.drop k) (B.drop k)=r) 0 A.length (bl _) ?_ ?_
 .simp only[go_sem];first|exact hr|exact⟨rfl,hr⟩
 rintro k ak aj hk ⟨h0,h1,h7,h8,hn⟩
 by_cases au:k<A.length
 .have hx:=Bi au;have hy:=Bi (ls:=B) (i:=k) aa;have jt:=ia hx;have NA:=ia hy;have aL:(k:Int)<(A.length:Int):=aa;have w1:=cA (n:=k) aa;have hlB:k<B.length:=aa;rw[aaE au,aaE hlB] at hn;unfold mD at hn;cases he:leq (lA A k) (lA B k) with
  |true=>rw[aF he] at hn;simp only[go_sem,i53_l1,h0,h1,h7,h8,jt,NA,Let.ps,aL,au,w1,Tz,he];exact⟨aH,hn⟩
  |false=>rw[ay (by rw[he];decide)] at hn;have pl:=apz (lA A k) (lA B k);rw[hn] at pl;simp only[go_sem,i53_l1,h0,h1,h7,h8,jt,NA,Let.ps,aL,Tz,he,s81,mE pl];first|exact⟨aH,aH,rfl⟩|exact⟨aH,aH⟩
 have:k=A.length:=aa;subst this;rw[K0,Se aa] at hn;have hn:false=r:=hn;subst hn;simp only[go_sem,i53_l1,i53_r2,h7,h8,dT]
theorem ag1(l:List Let)(x:Let):∀s,iA s (l++[x])=if x.kind==2 then (if (iA s l).contains x.id then iA s l else iA s l++[x.id]) else iA s l:=by
 induction l with
 |nil=>intro s;rfl
 |cons a r ih=>
  intro s;rw[yM]
  conv=>lhs;unfold iA
  conv=>rhs;unfold iA
  split
  .split<;>exact ih _
  exact ih _
def Kg(s:List Int)(x:Let):Let:=if x.kind==2 then (if s.contains x.id then {x with id:=((s.idxOf x.id+1:Nat):Int)} else {x with id:=((s.length+1:Nat):Int)}) else x
theorem agA(l:List Let)(x:Let):∀s,kV s (l++[x])=kV s l++[Kg (iA s l) x]:=by
 induction l with
 |nil=>
  intro s;show kV s [x]=[Kg s x];unfold kV Kg;split
  .split<;>rfl
  rfl
 |cons a r ih=>
  intro s;rw[yM]
  conv=>lhs;unfold kV
  conv=>rhs;unfold kV iA
  split
  .split<;>(rw[ih];rfl)
  rw[ih];rfl
theorem Od:∀(l:List Let) (s:List Int),(kV s l).length=l.length:=by
 intro l
 induction l with
 |nil=>intro s;rfl
 |cons a r ih=>
  intro s;unfold kV;split
  .split<;>simp[ih]
  simp[ih]
theorem Rf(l:List Let):(vR l).length=l.length:=Od l []
def yx(s:List Int)(i:Nat):List (Int×Int):=match s with
 |[]=>[]
 |a::r=>(a,((i+1:Nat):Int))::yx r (i+1)
theorem aqk:∀(s:List Int) (i:Nat),(yx s i).length=s.length:=by
 intro s
 induction s with
 |nil=>intro i;rfl
 |cons a r ih=>intro i;show(yx r (i+1)).length+1=_;rw[ih];rfl
theorem aqj(a:Int):∀(s:List Int) (i:Nat),yx s i++[(a,((i+s.length+1:Nat):Int))]=yx (s++[a]) i:=by
 intro s
 induction s with
 |nil=>intro i;rfl
 |cons b r ih=>intro i;show(b,((i+1:Nat):Int))::(yx r (i+1)++_)=(b,((i+1:Nat):Int))::yx (r++[a]) (i+1);rw[<- ih (i+1),dh,show i+1+r.length+1=i+(r.length+1)+1 by omega]
theorem ab0(x:Int):∀(s:List Int) (i:Nat),fiM (yx s i) x i=if s.contains x then some (i+s.idxOf x,((i+s.idxOf x+1:Nat):Int)) else none:=by
 intro s
 induction s with
 |nil=>intro i;rfl
 |cons a r ih=>
  intro i;show(if x==a then some (i,((i+1:Nat):Int)) else fiM (yx r (i+1)) x (i+1))=_;by_cases h:x=a
  .subst h;simp
  have h1:(x==a)=false:=lE.2 h;have h2:(a==x)=false:=lE.2 (Ne.symm h);rw[h1,ih (i+1),List.contains_cons,h1,BP,Sh,h2];simp only[dx,if_false,cond_false];split
  .congr 2
   .omega
   congr 1;omega
  rfl
def rG(L:List Let)(k:Nat):List Let:=kV [] (L.take k)++L.drop k
theorem anK(L:List Let){k:Nat}:(rG L k).length=L.length:=by unfold rG;rw[ff,Od,fX,jy];omega
theorem Hn{L:List Let}{k:Nat}(h:L[k]?=some x):L.take (k+1)=L.take k++[x]:=by obtain⟨hl,e⟩:=aW.1 h;rw[<- e,List.take_append_getElem]
theorem anJ{L:List Let}{k:Nat}(h:L[k]?=some x):(rG L k)[k]?=some x:=by have hl:=(aW.1 h).1;unfold rG;rw[v8 (by rw[Od,fX];omega),Od,fX,xu,Ar aa,HO,xw,h]
theorem anM{L:List Let}{k:Nat}(h:L[k]?=some x):(rG L k).set k (Kg (iA [] (L.take k)) x)=rG L (k+1):=by
 obtain⟨hl,e⟩:=aW.1 h;have hd:L.drop k=x::L.drop (k+1):=by rw[<- e,tj]
 have hlen:(kV [] (L.take k)).length=k:=by rw[Od,fX];omega
 unfold rG;rw[Hn h,agA,hd,YC _ _ aa,hlen,HO,YD,yK];rfl
theorem anL{L:List Let}{k:Nat}(h:L[k]?=some x)(hx:(x.kind==2)=false):rG L (k+1)=rG L k/\iA [] (L.take (k+1))=iA [] (L.take k):=by
 obtain⟨hl,e⟩:=aW.1 h;have hd:L.drop k=x::L.drop (k+1):=by rw[<- e,tj]
 refine⟨?_,?_⟩
 .unfold rG;rw[Hn h,agA,hd];unfold Kg;rw[hx];simp
 rw[Hn h,ag1,hx];rfl
theorem asx(L:List Let)(aI:L≠[])(hl:L.length<=1000000):aK S 51 [.one (.p (cK L))] (.one (aT lN 6 (dF (vR L)))):=by
 have pcl:=Z0 aI hl;have lo:S.lone 3264128064=false:=ah;refine bh c51 ?_;simp only[go_sem,i51,s60];refine rC pcl lo (.inl rfl) fun cc nL gc mJ=>?_;have b0:=mJ 3264064000 ae;rcases gc with ⟨e,_⟩|⟨_,gg,e,hC⟩
 .exact absurd (by simpa using e) aI
 cases e;rw[cD];simp only[go_sem] at b0;simp only[go_sem];refine cU (fun k ak aj=>ak 3=.one (.jW 3264064000 1)/\ak 4=.one (.hsl 3264128064 gg 6 0 L.length)/\ak 10=.one (.hsl 3264128064 gg 6 0 L.length)/\ak 11=vi L.length/\ak 12=vi k/\
  aj 3264064000=(1,some (.map false (NM (yx (iA [] (L.take k)) 0))))/\aj 3264128064=(gg,some (.arr lN 6 (dF (rG L k))))) 0 L.length (bl _) ?_ ?_
 .simp only[go_sem,b0];exact⟨rfl,rfl,hC⟩
 rintro k ak aj hk ⟨h3,h4,dZ,gk,iT,bM,bX⟩
 by_cases au:k<L.length
 .have aL:((k:Int)<(L.length:Int)):=aa;obtain⟨x,hxL⟩:=aM au;have hx:=anJ hxL;have Wb:k<(rG L k).length:=by rw[anK];exact au
  have jt:=ia hx;have l8:=Hn hxL;obtain⟨n1,_⟩:=agZ (L.take k) [] uh;have hsl:∀(l:List Let) (s:List Int),(iA s l).length<=s.length+l.length:=by
   intro l
   induction l with
   |nil=>intro s;exact bJ _
   |cons a r ih=>
    intro s;unfold iA;split
    .split
     .have:=ih s;simp only[dh];omega
     have:=ih (s++[a.id]);simp only[ff,dh,ez] at this ⊢;omega
    have:=ih s;simp only[dh];omega
  have hsk:=hsl (L.take k) [];rw[fX] at hsk;simp only[ez] at hsk;have w1:=cA (n:=k) aa;cases jk:(x.kind==2) with
  |false=>obtain⟨e1,e2⟩:=anL hxL jk;rw[<- e1] at bX jt Wb;rw[<- e2] at bM;simp only[go_sem,i51_l1,h3,h4,dZ,gk,iT,bM,bX,au,aL,jt,Let.ps,jk,bne,w1]
  |true=>
   have gQ:=anM hxL;have EC:=ag1 (L.take k) x [];rw[<- l8,jk,aF rfl] at EC;unfold Kg at gQ;rw[jk,aF rfl] at gQ;generalize iA [] (L.take k)=s at gQ EC bM hsk;have w2:=cA (n:=s.length) aa;have fk:=ab5 (yx s 0) x.id 0;rw[ab0] at fk;have nj:=aqk s 0;cases hc:s.contains x.id with
   |false=>
    rw[hc] at gQ EC fk;simp only[dx,if_false,OK] at gQ EC fk;have f2:=ab5 (yx (s++[x.id]) 0) x.id 0;rw[ab0,show(s++[x.id]).contains x.id=true by simp] at f2;have CG:(s++[x.id]).idxOf x.id=s.length:=by rw[ain,ay (fun h=>by rw[KX.2 h] at hc;cases hc)];simp
    rw[CG] at f2;simp only[if_true,mz,iQ] at f2;have ni:=aqj x.id s 0;rw[iQ] at ni;rw[<- ni,<- afh] at f2;have Wy:(dF (rG L k)).set k [.int .i64 x.kind,.int .i64 x.gate,.int .i64 x.aE,.int .i64 ((s.length+1:Nat):Int),.int .i64 x.sign,.bool x.over]=dF (rG L (k+1)):=by rw[<- gQ,<- aeS];rfl
    simp only[go_sem,i51_l1,h3,h4,dZ,gk,iT,bM,bX,au,aL,jt,Let.ps,jk,bne,w1,w2,nj,mapOf,mapVal,iw,zX,xD,fk,OK,f2,Wy];rw[EC,<- ni,<- afh]
   |true=>
    rw[hc] at gQ EC fk;simp only[if_true,mz,iQ] at gQ EC fk;have hv:((((s.idxOf x.id+1:Nat):Int))==0)=false:=by rw[lE];omega
    have Wy:(dF (rG L k)).set k [.int .i64 x.kind,.int .i64 x.gate,.int .i64 x.aE,.int .i64 ((s.idxOf x.id+1:Nat):Int),.int .i64 x.sign,.bool x.over]=dF (rG L (k+1)):=by rw[<- gQ,<- aeS];rfl
    simp only[go_sem,i51_l1,h3,h4,dZ,gk,iT,bM,bX,au,aL,jt,Let.ps,jk,bne,w1,mapOf,mapVal,iw,fk,hv,Wy];rw[EC]
 have:k=L.length:=aa;subst this;have hX:rG L L.length=vR L:=by unfold rG vR;rw[jQ,K0,jP]
 rw[hX] at bX;have hlr:=Rf L;simp only[go_sem,i51_l1,i51_r2,h4,gk,iT,dT];refine zt (.inr ⟨?_,gg,by rw[cD,hlr],bX⟩);intro h2;have:=congrArg List.length h2;rw[cD,hlr] at this;exact aI (HG.1 this)
def bkP(ls:List Let)(i:Nat):Bool:=((lA ls.reverse i).kind==1)&& !((ke ls).getD (ls.length-1-i) false)
def xC(ls:List Let):List Let:=match (List.range ls.length).find? (bkP ls) with
 |some i=>fj ls.reverse i
 |none=>ls.reverse
theorem OZ(ls:List Let):(xC ls).length=ls.length:=by
 unfold xC;split
 .rw[Hh,rZ]
 rw[rZ]
theorem ajM{ls:List Let}(aI:ls≠[])(hl:ls.length<=1000000):aK S 50 [.one (.p (mF F ls))] (.one (aT lN 6 (dF (xC ls)))):=by
 have pcl:=Z0 aI hl;have lo:S.lone 3200064320=false:=ah;have uM:S.lone 3200512128=false:=ah;have tG:=OZ ls;generalize hR:xC ls=R at tG;refine bh c50 ?_;simp only[go_sem,i50,s60];refine rC pcl lo (.inl rfl) fun cc nL gc mJ=>?_;simp only[go_sem,s80];refine amY (f:=80) (es:=dF ls) (id:=3200064320) (ty:=lN) (z:=6) (fun o h=>asD o (by simp;omega) (apF _) h) (gc.of_eq rfl) fun blkr gr hbr=>?_;rw[apE] at gr;rcases gr with ⟨e,_⟩|⟨_,gg,e,hC⟩
 .have:=congrArg List.length e;rw[cD,rZ] at this;exact absurd (HG.1 this) aI
 cases e;rw[cD,rZ];simp only[go_sem];have Mv:ls.reverse.length=ls.length:=rZ;have uL:IntKind.i64.wrap ((ls.length:Int)-1)=((ls.length-1:Nat):Int):=by have:=jf.2 aI;rw[vX aa aa];omega
 have hdl:(ke ls).length=ls.length:=by simp[ke]
 unfold xC at hR;have ir:∀i,bkP ls i=(((lA ls.reverse i).kind==1)&& !((ke ls).getD (ls.length-1-i) false)):=fun _=>rfl;generalize bkP ls=bp at hR ir;generalize ls.reverse=X at hC Mv gc hR ir;refine cU (fun k ak aj=>ak 0=.one (.p (mF F ls))/\ak 3=.one (.hsl 3200064320 gg 6 0 ls.length)/\ak 15=vi ls.length/\ak 16=vi k/\aj 3200064320=(gg,some (.arr lN 6 (dF X)))/\ ∀j,j<k->bp j=false) 0 ls.length (bl _) ?_ ?_
 .simp only[go_sem,hC];first|exact⟨rfl,fun j h=>absurd h (nE j)⟩|exact⟨rfl,rfl,fun j h=>absurd h (nE j)⟩
 rintro k ak aj hk ⟨h0,h3,kZ,oX,bX,dk⟩
 by_cases au:k<ls.length
 .have aL:((k:Int)<(ls.length:Int)):=aa;have Wb:k<X.length:=aa;have jt:=ia (Bi Wb);have w1:=cA (n:=k) aa;have w2:IntKind.i64.wrap (((ls.length-1:Nat):Int)-(k:Int))=((ls.length-1-k:Nat):Int):=by
   rw[vX aa aa];omega
  obtain⟨d,hd⟩:=aM (ls:=ke ls) (k:=ls.length-1-k) aa;have kN:=sa hd;have hdl':ls.length-1-k<(ke ls).length:=aa;have ki:=ir k;rw[show(ke ls).getD (ls.length-1-k) false=d by rw[di,hd];rfl] at ki;generalize lA X k=x at jt ki;have anm:ls.length<=X.length:=aa;have hXt:List.take ls.length (dF X)=dF X:=fR (by rw[cD];omega);have pr:=agJ X k aa aa;have nx:bp k=false->∀j,j<k+1->bp j=false:=fun hb j hj=>by
   rcases mU.1 hj with h|rfl
   .exact dk j h
   exact hb
  cases jk:(x.kind==1) with
  |false=>rw[jk,HB] at ki;simp only[go_sem,i50_l1,h0,h3,kZ,oX,bX,au,aL,jt,Let.ps,jk,uL,w1,w2];exact nx ki
  |true=>
   cases d with
   |true=>rw[jk] at ki;simp only[go_sem,i50_l1,h0,h3,kZ,oX,bX,au,aL,jt,Let.ps,jk,uL,w1,w2,kN];exact nx ki
   |false=>rw[jk] at ki;have hf:(List.range ls.length).find? bp=some k:=Cp au dk ki;rw[hf] at hR;have hR:fj X k=R:=hR;unfold fj at hR;simp only[go_sem,i50_l1,h0,h3,kZ,oX,bX,au,aL,jt,Let.ps,jk,uL,w2,kN,anm,hXt,s52];refine rC pr uM (.inr (qD (Kz _))) fun cr fT gr3 gn=>?_;rw[hR] at gr3;simp only[go_sem];exact zt gr3
 have:k=ls.length:=aa;subst this;have hf:(List.range ls.length).find? bp=none:=IU fun j hj=>dk j hj;rw[hf] at hR;have hR:X=R:=hR;subst hR;simp only[go_sem,i50_l1,i50_r2,h3,kZ,oX,dT];refine zt (.inr ⟨?_,gg,by rw[cD,Mv],bX⟩);intro h2;have:=congrArg List.length h2;rw[cD,Mv] at this;exact aI (HG.1 this)
def IS(l:List Let)(i:Nat):Bool:=((lA l i).kind==1)&&decide (aw Let.aG (l.take i)%2=0)
def qJ(l:List Let)(n:Nat):List (List Let):=(List.range n).filterMap fun i=>if IS l i then some (vR (fj l i)) else none
theorem ame(l:List Let)(n:Nat):qJ l (n+1)=qJ l n++(if IS l n then [vR (fj l n)] else []):=by unfold qJ;rw[we,aij];congr 1;cases h:IS l n<;>simp[h]
def rS(z:Option (List Let))(y:List Let):Option (List Let):=match z with
 |none=>some y
 |some z=>if mD y z then some y else some z
def vK(V:List (List Let)):Option (List Let):=V.foldl rS none
theorem aqq(V:List (List Let))(y:List Let):vK (V++[y])=rS (vK V) y:=by unfold vK;rw[HF];rfl
theorem aqr{V:List (List Let)}:∀ {o z},V.foldl rS o=some z->z∈V\/o=some z:=by
 induction V with
 |nil=>intro o z h;exact .inr h
 |cons y V ih=>
  intro o z h;rcases ih (o:=rS o y) h with h1|h1
  .exact .inl (by simp[h1])
  cases o with
  |none=>cases h1;exact .inl af
  |some w=>
   unfold rS at h1;simp only at h1;split at h1
   .cases h1;exact .inl af
   exact .inr h1
theorem Xb{V:List (List Let)}{z:List Let}(h:vK V=some z):z∈V:=by
 rcases aqr h with h|h
 .exact h
 cases h
def cO:Option (List Let)->PV
 |none=>.nils
 |some Y=>cK Y
def uQ(F:Nat)(ls:List Let)(gB:Nat)(bs:List (List PV))(k:Nat)(V:List (List Let))(ak:Env)(aj:aA):Prop:=
 ak 0=.one (.p (mF F ls))/\ak 2=.one (.aY 1728000000 1 0)/\ak 17=.one (.hsl 1728128448 gB 1 0 2)/\ak 18=vi 2/\ak 19=vi k/\ak 3=.one (.p (cO (vK V)))/\
 aj 1728000000=(1,some (.var [.p (.int .i64 0),.p .nils]))/\aj 1728128448=(gB,some (.arr 22 1 bs))
theorem afW(l:List Let){i:Nat}(hx:l[i]?=some x):decide (aw Let.aG (l.take (i+1))%2=0)=if x.kind==1 then !decide (aw Let.aG (l.take i)%2=0) else decide (aw Let.aG (l.take i)%2=0):=by
 rw[Hn hx,AM];have:aw Let.aG [x]=if x.kind==1 then 1 else 0:=by show List.countP _ [x]=_;rw[Yp];rfl
 rw[this];generalize aw Let.aG (l.take i)=n;cases (x.kind==1)
 .simp
 simp only[if_true];rw[Sc,mv,pR,decide_eq_false_iff_not];omega
theorem afx{F:Nat}{ls l:List Let}{gB k:Nat}{bs:List (List PV)}{V:List (List Let)}{Q:dD}{ak:Env}{aj:aA}(aI:l≠[])(uG:l.length=ls.length)(hl:ls.length<=1000000)(hV:∀y∈V,y.length=ls.length)(hI:uQ F ls gB bs k V ak aj)(h5:ak 5=.one (.p (cK l)))(h6:ak 6=vb true)(lX:ak 23=.one (.p (cK l)))(lY:ak 24=vi ls.length)(lZ:ak 25=vi 0)
  (hK:∀aD ao,uQ F ls gB bs k (V++qJ l ls.length) aD ao->Q .normal aD ao):W S .all (.loop i27_l1) (lU 2 Q) ak aj:=by
 refine cU (fun i ak aj=>uQ F ls gB bs k (V++qJ l i) ak aj/\ak 5=.one (.p (cK l))/\ak 6=vb (decide (aw Let.aG (l.take i)%2=0))/\ak 23=.one (.p (cK l))/\ak 24=vi ls.length/\ak 25=vi i) 0 ls.length (bl _) ⟨by rw[show qJ l 0=[] from rfl,jP];exact hI,h5,h6,lX,lY,lZ⟩ ?_;rintro i ak aj hi ⟨⟨h0,h2,iU,gO,gZ,h3,b0,bB⟩,h5,h6,lX,lY,lZ⟩
 by_cases au:i<ls.length
 .have aL:((i:Int)<(ls.length:Int)):=aa;have anW:i<l.length:=aa;have vG:=Bi anW;have jt:=ia vG;have yl:=afW l vG;have qe:=ame l i;unfold IS at qe;have o9:∀y∈V++qJ l i,y.length=ls.length:=fun y hy=>by
   rcases eD.1 hy with h|h
   .exact hV y h
   obtain⟨j,_,e⟩:=YA.1 h;split at e
   .cases e;rw[Rf,Hh,uG]
   cases e
  generalize lA l i=x at jt yl qe;generalize decide (aw Let.aG (l.take i)%2=0)=d at yl qe h6;generalize qJ l i=W0 at*;have w1:=cA (n:=i) aa;have pr:=agJ l i aa aa;have Mv:(fj l i).length=ls.length:=by rw[Hh,uG]
  rw[show l.drop i++l.take i=fj l i from rfl] at pr;generalize fj l i=R at pr Mv qe;have PK:R≠[]:=jf.1 aa;have pn:=asx R PK aa;have hY:=Rf R;generalize vR R=Y at pn hY qe;have VN:Y≠[]:=jf.1 aa;have mR:S.lone 1728704128=true:=W4 ah;have uM:S.lone 1728704192=true:=W4 ah;cases cP:(x.kind==1) with
  |false=>rw[cP] at yl qe;simp only[HB,dx,if_false,jP] at yl qe;simp only[go_sem,i27_l1,h5,h6,lX,lY,lZ,au,aL,jt,Let.ps,cP,bne,w1];simp only[go_sem,uQ,qe,yl,h0,h2,h3,iU,gO,gZ,b0,bB]
  |true=>
   rw[cP] at yl qe;cases d with
   |false=>simp only[An,dx,if_false,if_true,jP,HC] at yl qe;simp only[go_sem,i27_l1,h5,h6,lX,lY,lZ,au,aL,jt,Let.ps,cP,bne,w1];simp only[go_sem,uQ,qe,yl,h0,h2,h3,iU,gO,gZ,b0,bB]
   |true=>
    simp only[An,if_true,BQ] at yl qe;have l6:vK (V++(W0++[Y]))=rS (vK (V++W0)) Y:=by rw[<- yK,aqq]
    cases hz:vK (V++W0) with
    |none=>rw[hz] at l6 h3;have l6:vK (V++(W0++[Y]))=some Y:=l6;have h3:ak 3=.one (.p .nils):=h3;simp only[go_sem,i27_l1,h3,h5,h6,lX,lY,lZ,au,aL,jt,Let.ps,cP,bne,w1,s52,cV pr (GL PK mR),s51,cV pn (GL VN uM)];simp only[go_sem,uQ,qe,yl,l6,cO,h0,h2,h3,iU,gO,gZ,b0,bB]
    |some Z=>
     rw[hz] at l6 h3;have hZ:=o9 Z (Xb hz);have h3:ak 3=.one (.p (cK Z)):=h3;have pb:=ajS Y Z aa aa;obtain⟨e,es,he⟩:∃e es,dF Z=e::es:=by
      cases Z with
      |nil=>simp at hZ;omega
      |cons z t=>exact⟨_,_,rfl⟩
     have hZe:PV.sl (e::es)=cK Z:=by rw[<- he]
     rw[<- hZe] at pb h3;unfold rS at l6;simp only at l6;cases hb:mD Y Z with
     |false=>rw[hb] at pb l6;simp only[dx,if_false] at l6;simp only[go_sem,i27_l1,h3,h5,h6,lX,lY,lZ,au,aL,jt,Let.ps,cP,bne,w1,s52,cV pr (GL PK mR),s51,cV pn (GL VN uM),s53,dA pb];simp only[go_sem,uQ,qe,yl,l6,cO,hZe,h0,h2,h3,iU,gO,gZ,b0,bB]
     |true=>rw[hb] at pb l6;simp only[if_true] at l6;simp only[go_sem,i27_l1,h3,h5,h6,lX,lY,lZ,au,aL,jt,Let.ps,cP,bne,w1,s52,cV pr (GL PK mR),s51,cV pn (GL VN uM),s53,dA pb];simp only[go_sem,uQ,qe,yl,l6,cO,h0,h2,h3,iU,gO,gZ,b0,bB]
 have:i=ls.length:=aa;subst this;simp only[go_sem,i27_l1,lY,lZ,dT];refine hK _ _ ?_;simp only[go_sem,uQ,h0,h2,h3,iU,gO,gZ,b0,bB]
def FI(ls:List Let):List (List Let):=qJ ls ls.length++qJ (xC ls) ls.length
def gU(ls:List Let):Option (List Let):=vK (FI ls)
theorem Vn{l:List Let}{n:Nat}(h:y∈qJ l n):y.length=l.length:=by
 obtain⟨j,_,e⟩:=YA.1 h;split at e
 .cases e;rw[Rf,Hh]
 cases e
theorem aqC{ls:List Let}(aI:ls≠[])(hl:ls.length<=1000000):aK S 27 [.one (.p (mF F ls))] (.agg [.p (.int .i64 F),.p (cO (gU ls))]):=by
 have pb:=ajM (F:=F) aI hl;have hB:=OZ ls;generalize hr:gU ls=res;unfold gU FI at hr;generalize xC ls=B at pb hB hr;have acS:B≠[]:=by have:=jf.2 aI;exact jf.1 aa
 have mR:S.lone 1728128384=true:=W4 ah;refine bh c27 ?_;simp only[go_sem,i27,s50,FQ pb (GL acS mR)];refine⟨aH,?_⟩;refine cU (fun k=>uQ F ls 1 [[cK ls],[cK B]] k (if k=0 then [] else if k=1 then qJ ls ls.length else qJ ls ls.length++qJ B ls.length)) 0 2 (bl _) ?_ ?_
 .simp only[go_sem,uQ];first|done|exact⟨rfl,rfl⟩|exact⟨rfl,rfl,rfl⟩|exact⟨rfl,rfl,rfl,rfl,rfl,rfl,rfl,rfl⟩|rfl
 intro k ak aj hk hI;obtain⟨h0,h2,iU,gO,gZ,h3,b0,bB⟩:=hI;by_cases au:k<2
 .have V5:k=0\/k=1:=aa;have l02:((0:Nat):Int)<2:=ae;have l12:((1:Nat):Int)<2:=ae;rcases V5 with rfl|rfl
  .simp only[go_sem,i27_l3,iU,gO,gZ,bB,l02];refine afx (F:=F) (ls:=ls) (l:=ls) (gB:=1) (k:=0) (bs:=[[cK ls],[cK B]]) (V:=[]) aI rfl hl (fun y h=>by cases h) ?_ rfl rfl rfl rfl rfl fun aD ao Ee=>?_
   .simp only[go_sem,uQ,h0,h2,h3,iU,gO,gZ,b0,bB];first|done|rfl
   obtain⟨h0,h2,iU,gO,gZ,h3,b0,bB⟩:=Ee;rw[fY] at h3;simp only[go_sem,uQ,i27_r2,h0,h2,h3,iU,gO,gZ,b0,bB];first|done|rfl|exact⟨rfl,rfl⟩
  simp only[go_sem,i27_l3,iU,gO,gZ,bB,l12];refine afx (F:=F) (ls:=ls) (l:=B) (gB:=1) (k:=1) (bs:=[[cK ls],[cK B]]) (V:=qJ ls ls.length) acS hB hl (fun y h=>Vn h) ?_ rfl rfl rfl (by rw[<- hB];rfl) rfl fun aD ao Ee=>?_
  .simp only[go_sem,uQ,h0,h2,h3,iU,gO,gZ,b0,bB];first|done|rfl
  obtain⟨h0,h2,iU,gO,gZ,h3,b0,bB⟩:=Ee;simp only[go_sem,uQ,i27_r2,h0,h2,h3,iU,gO,gZ,b0,bB];first|done|rfl|exact⟨rfl,rfl⟩
 have:k=2:=aa;subst this;have l22:¬(((2:Nat):Int)<2):=ae;have h3:ak 3=.one (.p (cO res)):=by rw[<- hr];exact h3
 simp only[go_sem,i27_l3,i27_r4,h0,h2,h3,gO,gZ,b0,l22];cases res<;>rfl
theorem QM(bR:pX){f:Int}{ls:List Let}(hl:ls.length<=1000000)(h0:cQ f ls=0):aK S 8 [dR f ls] (.tup [.agg [.p (.int .i64 f),.p (cO (gU ls))],.one (.p (.int .i64 0))]):=by
 have pr:=Oa f ls hl;rw[Kw h0] at pr;have pn:aK S 27 [.one (.p (if ls=[] then zh f else mF f.toNat ls))] (.agg [.p (.int .i64 f),.p (cO (gU ls))]):=by
  by_cases aI:ls=[]
  .rw[aF aI];subst aI;exact aqB bR f
  rw[ay aI];obtain⟨F,hF,g⟩:=ss h0 aI;subst hF;exact aqC (F:=F) aI hl
 have eS:(if ls=[] then zh f else mF f.toNat ls).norm=(if ls=[] then zh f else mF f.toNat ls):=by split<;>simp only[Xi]
 generalize (if ls=[] then zh f else mF f.toNat ls)=dg at pr pn eS;generalize cO (gU ls)=c at*;refine bh c8 ?_;simp only[go_sem,i8,s26,cV pr gR,s27,cV pn apa,eS];rfl
theorem apW:∀ {A B:List Int},A.length=B.length->w7 A B=false->w7 B A=false->A=B:=by
 intro A
 induction A with
 |nil=>intro B h _ _;cases B with
  |nil=>rfl
  |cons _ _=>cases h
 |cons a A ih=>
  intro B h h1 h2;cases B with
  |nil=>cases h
  |cons b B=>
   unfold w7 at h1 h2;by_cases e:a=b
   .subst e;rw[aF rfl] at h1 h2;rw[ih (by simpa using h) h1 h2]
   rw[ay e] at h1;rw[ay (Ne.symm e)] at h2;have:=fS h1;have:=fS h2;omega
theorem ao5{a b:Let}(h:JO a=JO b):a=b:=by
 cases a with|mk k g r i s o=>cases b with|mk k' g' r' i' s' o'=>
 unfold JO at h;simp only[yL,and_true] at h;obtain⟨h1,h2,h3,h4,h5,h6⟩:=h;have:o=o':=by revert h5;cases o<;>cases o'<;>simp
 subst h1 h2 h3 h4 h6 this;rfl
theorem ZG:∀ {A B:List Let},A.length=B.length->mD A B=false->mD B A=false->A=B:=by
 intro A
 induction A with
 |nil=>intro B h _ _;cases B with
  |nil=>rfl
  |cons _ _=>cases h
 |cons a A ih=>
  intro B h h1 h2;cases B with
  |nil=>cases h
  |cons b B=>
   unfold mD at h1 h2;by_cases e:a=b
   .subst e;rw[aF (GP a)] at h1 h2;rw[ih (by simpa using h) h1 h2]
   have e1:¬leq a b=true:=fun x=>e ((JS _ _).1 x);have e2:¬leq b a=true:=fun x=>e ((JS _ _).1 x).symm;rw[ay e1,QF] at h1;rw[ay e2,QF] at h2;exact absurd (ao5 (a:=a) (b:=b) (apW rfl h1 h2)) e
theorem aqs{n:Nat}:∀ {V:List (List Let)} {o z},(∀y∈V,y.length=n)->(∀w,o=some w->w.length=n)->V.foldl rS o=some z->(∀y∈V,mD y z=false)/\(∀w,o=some w->mD w z=false):=by
 intro V
 induction V with
 |nil=>intro o z _ _ h;refine⟨fun y hy=>(by cases hy),fun w hw=>?_⟩;have h:o=some z:=h;rw[h] at hw;cases hw;exact ajQ z
 |cons y V ih=>
  intro o z hV ho h;have hy0:=hV y af;have hV':∀u∈V,u.length=n:=fun u hu=>hV u (by simp[hu]);cases o with
  |none=>
   obtain⟨h1,h2⟩:=ih (o:=some y) hV' (fun w hw=>by cases hw;exact hy0) h;refine⟨fun w hw=>?_,fun w hw=>(by cases hw)⟩;rcases cM.1 hw with rfl|hw
   .exact h2 w rfl
   exact h1 w hw
  |some w=>
   have uL:=ho w rfl;have h:V.foldl rS (rS (some w) y)=some z:=h;cases hb:mD y w with
   |true=>
    have e:rS (some w) y=some y:=by unfold rS;simp only[hb,if_true]
    rw[e] at h;obtain⟨h1,h2⟩:=ih (o:=some y) hV' (fun w hw=>by cases hw;exact hy0) h;have hy:=h2 y rfl;refine⟨fun u hu=>?_,fun u hu=>?_⟩
    .rcases cM.1 hu with rfl|hu
     .exact hy
     exact h1 u hu
    cases hu;cases hz:mD w z
    .rfl
    rw[ZH hb hz] at hy;cases hy
   |false=>
    have e:rS (some w) y=some w:=by unfold rS;simp only[hb,dx,if_false]
    rw[e] at h;obtain⟨h1,h2⟩:=ih (o:=some w) hV' (fun w hw=>by cases hw;exact uL) h;have hw:=h2 w rfl;refine⟨fun u hu=>?_,fun u hu=>by cases hu;exact hw⟩;rcases cM.1 hu with rfl|hu
    .cases hz:mD u z
     .rfl
     cases hwu:mD w u with
     |true=>rw[ZH hwu hz] at hw;cases hw
     |false=>rw[ZG aa hb hwu] at hz;rw[hz] at hw;cases hw
    exact h1 u hu
theorem Xd{n:Nat}{V:List (List Let)}{z:List Let}(hV:∀y∈V,y.length=n)(h:vK V=some z):z∈V/\ ∀y∈V,mD y z=false:=
 ⟨Xb h,(aqs hV (fun w hw=>by cases hw) h).1⟩
theorem Xe{V:List (List Let)}(h:V≠[]):∃z,vK V=some z:=by
 have key:∀(V:List (List Let)) (w:List Let),∃z,V.foldl rS (some w)=some z:=by
  intro V
  induction V with
  |nil=>intro w;exact⟨w,rfl⟩
  |cons y V ih=>
   intro w;show ∃z,V.foldl rS (rS (some w) y)=some z;unfold rS;simp only;split
   .exact ih y
   exact ih w
 cases V with
 |nil=>exact absurd rfl h
 |cons y V=>exact key V y
theorem aqp{n:Nat}{V W:List (List Let)}(hV:∀y∈V,y.length=n)(Mw:∀y,y∈V↔y∈W):vK V=vK W:=by
 have hW:∀y∈W,y.length=n:=fun y hy=>hV y ((Mw y).2 hy);by_cases hv:V=[]
 .have hw:W=[]:=by
   cases W with
   |nil=>rfl
   |cons y W=>have:=(Mw y).2 af;rw[hv] at this;cases this
  rw[hv,hw]
 have hw:W≠[]:=fun e=>by
  cases V with
  |nil=>exact hv rfl
  |cons y V=>have:=(Mw y).1 af;rw[e] at this;cases this
 obtain⟨z,hz⟩:=Xe hv;obtain⟨u,hu⟩:=Xe hw;obtain⟨z1,z2⟩:=Xd hV hz;obtain⟨u1,u2⟩:=Xd hW hu;have:=ZG ((hV z z1).trans (hW u u1).symm) (u2 z ((Mw z).1 z1)) (z2 u ((Mw u).2 u1));rw[hz,hu,this]
theorem aaS{l:List Let}{i:Nat}(hi:i<l.length):IS l i=true↔DT l i:=by
 have h:=Bi hi;unfold IS DT par;rw[cN,pR];constructor
 .rintro ⟨h1,h2⟩
  exact⟨⟨_,h,h1⟩,h2⟩
 rintro ⟨⟨x,hx,hp⟩,h2⟩
 rw[h] at hx;cases hx;exact⟨hp,h2⟩
theorem abU{l:List Let}:y∈qJ l l.length↔tE l y:=by
 unfold qJ tE;rw[YA];constructor
 .rintro ⟨i,hi,e⟩
  have hi:=gA.1 hi;split at e
  .rename_i hb;cases e;exact⟨i,hi,(aaS hi).1 hb,rfl⟩
  cases e
 rintro ⟨i,hi,he,rfl⟩
 exact⟨i,gA.2 hi,by rw[aF ((aaS hi).2 he)]⟩
theorem ajK{ls:List Let}(he:aw Let.aG ls%2=0):∃j,j<=ls.length/\par ls.reverse j/\xC ls=fj ls.reverse j:=by
 unfold xC;split
 .rename_i i hf;have hi:=gA.1 (Lb hf);have hb:=OC hf;unfold bkP at hb;rw[cN] at hb;obtain⟨h1,h2⟩:=hb;refine⟨i,aa,?_,rfl⟩;obtain⟨x,hx⟩:=aM (ls:=ls) (k:=ls.length-1-i) aa;have hxr:ls.reverse[i]?=some x:=by rw[K6 aa];exact hx
  rw[aeG hxr] at h1;have hd:(ke ls).getD (ls.length-1-i) false=dn ls (ls.length-1-i):=by unfold ke;rw[di,fQ,uf aa];show iJ ls (ls.length-1-i)=_;unfold iJ;rw[hx];show(x.aG&&_)=_;rw[show x.aG=true from h1,An]
  rw[hd] at h2;unfold dn at h2;unfold par;rw[air,yZ];have e1:aw Let.aG ls=aw Let.aG (ls.take (ls.length-i))+aw Let.aG (ls.drop (ls.length-i)):=by rw[<- AM,nC]
  have e2:=afW ls hx;rw[show ls.length-1-i+1=ls.length-i by omega,h1,aF rfl] at e2;have h3:¬aw Let.aG (ls.take (ls.length-1-i))%2=0:=by intro h;rw[h] at h2;cases h2
  rw[u4 h3] at e2;have h4:aw Let.aG (ls.take (ls.length-i))%2=0:=nG e2;omega
 refine⟨0,bl _,rfl,?_⟩;unfold fj;simp
theorem aq0{l:List Let}(hj:j<=l.length)(he:aw Let.aG l%2=0)(hp:par l j):par (fj l j) (l.length-j)/\fj (fj l j) (l.length-j)=l:=by
 have hd:(l.drop j).length=l.length-j:=jy;have e1:aw Let.aG l=aw Let.aG (l.take j)+aw Let.aG (l.drop j):=by rw[<- AM,nC]
 unfold par at*;unfold fj;rw[<- hd,Lc,Ys,nC];exact⟨aa,rfl⟩
theorem Vw{l:List Let}(hj:j<=l.length)(he:aw Let.aG l%2=0)(hp:par l j):tE (fj l j) y↔tE l y:=by refine⟨acj hj he hp,fun h=>?_⟩;obtain⟨h1,h2⟩:=aq0 hj he hp;refine acj (l:=fj l j) (j:=l.length-j) (by rw[Hh];omega) (by rw[S5];exact he) h1 ?_;rw[h2];exact h
theorem alQ{f:Int->Int}{l:List Let}{i:Nat}(h:DT l i):DT (l.map (eW f)) i:=by obtain⟨⟨x,hx,hp⟩,h2⟩:=h;refine⟨⟨eW f x,by rw[fQ,hx];rfl,by rw[Fz];exact hp⟩,?_⟩;unfold par at*;rw[<- HH,S3];exact h2
theorem aci{f:Int->Int}{l:List Let}(hf:inj f l):tE (l.map (eW f)) y↔tE l y:=by
 refine⟨amD hf,?_⟩;rintro ⟨i,hi,he,rfl⟩
 refine⟨i,by rw[cD];exact hi,alQ he,?_⟩;rw[agF,agB (WH hf fun x hx=>QH.1 hx)]
def tC(a b:List Let):Prop:=a.length=b.length/\aw Let.aG a%2=aw Let.aG b%2/\ ∀y,vj a y↔vj b y
theorem tC.refl(a:List Let):tC a a:=⟨rfl,rfl,fun _=>Iff.rfl⟩
theorem tC.symm{a b:List Let}(h:tC a b):tC b a:=⟨h.1.symm,h.2.1.symm,fun y=>(h.2.2 y).symm⟩
theorem tC.trans{a b c:List Let}(h:tC a b)(k:tC b c):tC a c:=⟨h.1.trans k.1,h.2.1.trans k.2.1,fun y=>(h.2.2 y).trans (k.2.2 y)⟩
theorem amd{l:List Let}(hj:j<=l.length)(he:aw Let.aG l%2=0)(hp:par l j):tC (fj l j) l:=by refine⟨Hh _ _,by rw[S5],fun y=>?_⟩;unfold vj;rw[Vw hj he hp,asF l hj,Vw (by rw[rZ];omega) (by rw[yZ];exact he) (aq1 hj he hp)]
theorem amc{l:List Let}:tC l.reverse l:=by refine⟨rZ,by rw[yZ],fun y=>?_⟩;unfold vj;rw[List.reverse_reverse];exact Or.comm
theorem ama{f:Int->Int}{l:List Let}(hf:inj f l):tC (l.map (eW f)) l:=by refine⟨cD ..,by rw[S3],fun y=>?_⟩;unfold vj;rw[aci hf,<- Si,aci (WH hf fun x hx=>Sj.1 hx)]
theorem amb(l:List Let):tC (vR l) l:=by obtain⟨f,hf,e⟩:=XI l;rw[e];exact ama hf
theorem al9{l:List Let}(he:aw Let.aG l%2=0)(h:vj l y):tC y l:=by
 have key:∀m,aw Let.aG m%2=0->tE m y->tC y m:=fun m hm h=>by obtain⟨j,hj,⟨_,hp⟩,rfl⟩:=h;exact(amb _).trans (amd aa hm hp)
 rcases h with h|h
 .exact key l he h
 exact(key l.reverse (by rw[yZ];exact he) h).trans amc
theorem LG{l:List Let}(he:aw Let.aG l%2=0):y∈FI l↔vj l y:=by
 obtain⟨j,hj,hp,e⟩:=ajK he;unfold FI vj;have hl:qJ (xC l) l.length=qJ (xC l) (xC l).length:=by rw[OZ]
 rw[eD,hl,abU,abU,e,Vw (by rw[rZ];exact hj) (by rw[yZ];exact he) hp]
theorem SS{l:List Let}(h:y∈FI l):y.length=l.length:=by
 unfold FI at h;rcases eD.1 h with h|h
 .exact Vn h
 rw[Vn h,OZ]
theorem aqA{a b:List Let}(he:aw Let.aG a%2=0)(h:tC a b):gU a=gU b:=by obtain⟨h1,h2,h3⟩:=h;refine aqp (n:=a.length) (fun y hy=>SS hy) fun y=>?_;rw[LG he,LG aa];exact h3 y
section
variable {F:Nat} {ls:List Let}
theorem cH.isP0(g:cH F ls):DT ls 0:=by obtain⟨l,h1,h2⟩:=g.first;exact⟨⟨l,h1,h2⟩,rfl⟩
def cT(ls:List Let):List Let:=(gU ls).getD []
theorem cH.ES(g:cH F ls):gU ls=some (cT ls)/\vj ls (cT ls)/\ ∀y,vj ls y->mD y (cT ls)=false:=by
 have he:=g.even;have h0:vj ls (vR (fj ls 0)):=.inl ⟨0,jf.2 g.ne,g.isP0,rfl⟩;have hc:FI ls≠[]:=fun e=>by have:=(LG he).2 h0;rw[e] at this;cases this
 obtain⟨z,hz⟩:=Xe hc;obtain⟨z1,z2⟩:=Xd (fun y hy=>SS hy) hz;have hn:gU ls=some z:=hz;have e:cT ls=z:=by unfold cT;rw[hn];rfl
 rw[e];exact⟨hn,(LG he).1 z1,fun y hy=>z2 y ((LG he).2 hy)⟩
theorem cH.form(g:cH F ls)(h:vj ls y):cQ (F:Int) y=0:=by
 have c:=g.cz;have hl:(zF ls).length<=400:=by rw[KW];exact g.len
 have hc:aw Let.aC (aQ (zF ls))<=200:=by rw[lB];exact g.cr
 have h0:∀x,(zF ls)[0]?=some x->x.i.b=false:=fun x hx=>by have hn:0<ls.length:=jf.2 g.ne;rw[Fi hn] at hx;cases hx;rw[WG g hn];rfl
 rcases h with h|h
 .exact ack c h0 hl hc g.fing (by rw[lB];exact h)
 refine ack c.rv ?_ (by rw[cD,rZ];exact hl) (by rw[JV,yZ];exact hc) g.fing (by rw[JV,lB];exact h);intro x hx;rw[fQ] at hx;have hn:0<ls.length:=jf.2 g.ne;rw[K6 (by rw[KW];exact hn),KW,Fi aa] at hx;cases hx;show(dL ls (ls.length-1-0)).o.b=false;show(!dn ls (ls.length-1-0+1))=false;rw[show ls.length-1-0+1=ls.length by omega,LS g];rfl
end
theorem ET(ls:List Let):(cT ls).length<=ls.length:=by
 unfold cT;cases h:gU ls with
 |none=>exact bl _
 |some z=>have:=SS (Xb h);show z.length<=_;omega
theorem LD(o:Option (List Let)):(cO o).norm=cK (o.getD []):=by
 cases o with
 |none=>rfl
 |some Y=>rfl
def jT(F:Nat)(ls:List Let)(m:aP):Option (List Let):=
 if ls=[] then if cS F [] m.k m.a m.b m.c m.l m.o m.s=true then some (circ m.b.toNat) else none
 else if cS F ls m.k m.a m.b m.c m.l m.o m.s=true then match qu F ls m.k m.a.toNat m.b.toNat m.c.toNat m.l m.o m.s with
  |none=>none
  |some M=>if (400:Int)<(ls.length:Int)+(lJ m.k).1\/(100:Int)<((aw Let.aC ls/2:Nat):Int)+(lJ m.k).2 then none else some (lV M)
 else none
theorem asI{L:List Let}{e:Int}(he:e≠0):kW F L≠qX e:=fun h=>by unfold kW qX at h;simp only[RV.tup.injEq,yL,RV.one.injEq,RC.p.injEq,PV.int.injEq,and_true,true_and] at h;exact he h.2.symm
def te(F:Nat):List Let->List aP->Option (List Let)
 |ls,[]=>some ls
 |ls,m::ms=>match jT F ls m with
  |none=>none
  |some L=>te F L ms
theorem agD{ls L:List Let}{ms:List aP}(m:aP)(h:te F ls ms=some L):te F ls (ms++[m])=jT F L m:=by
 induction ms generalizing ls with
 |nil=>have e:ls=L:=rj h;rw[<- e];show(match jT F ls m with|none=>none|some L=>some L)=_;cases jT F ls m<;>rfl
 |cons a r ih=>
  show(match jT F ls a with|none=>none|some L=>te F L (r++[m]))=_;have h:(match jT F ls a with|none=>none|some L=>te F L r)=some L:=h;cases ha:jT F ls a with
  |none=>rw[ha] at h;cases h
  |some K=>rw[ha] at h;exact ih h
theorem EU{ls:List Let}(h:cQ (F:Int) ls=0):cQ (F:Int) (cT ls)=0:=by
 by_cases aI:ls=[]
 .subst aI;exact h
 obtain⟨G,e,g⟩:=ss h aI;have:F=G:=aa;subst this;exact g.form g.ES.2.1
theorem FJ{f:Int}{L:List Let}(h:cQ f L=0):L.length<=400:=by
 by_cases aI:L=[]
 .subst aI;exact bl _
 obtain⟨G,_,g⟩:=ss h aI;exact g.len
end
end Go.Abs
