/-
  The normal form of a code; Replay.
-/
import Derived.Test.YtonblbhhnelniaaGreatDoorVb
import Derived.Test.YtonblbhhnelniaaGreatDoorUa
set_option linter.all false
set_option maxRecDepth 100000
set_option maxHeartbeats 16000000
namespace Go.Abs
section
variable{x:Let}{F:Nat}
theorem Jg(x y:Let):leq x y=true↔x=y:=by
 constructor
 .intro h;unfold leq at h;simp only[cH,beq_iff_eq] at h;obtain⟨h1,h2,h3,h4,h5,h6⟩:=h;cases x;cases y
  simp_all
 rintro rfl;exact M6 x
def pJ(a b:Let):Bool:=if a.kind==b.kind then if a.gate==b.gate then if a.aB==b.aB then if a.id==b.id then if a.over==b.over then decide (a.sign<b.sign) else b.over else decide (a.id<b.id) else decide (a.aB<b.aB) else decide (a.gate<b.gate) else decide (a.kind<b.kind)
def wN:List Int->List Int->Bool
 |a::A,b::B=>if a=b then wN A B else decide (a<b)
 |_,_=>false
theorem ao6:∀ {A B:List Int},wN A B=true->wN B A=false:=by
 intro A
 induction A with
 |nil=>intro B h;cases B<;>cases h
 |cons a A ih=>
  intro B h;cases B with
  |nil=>cases h
  |cons b B=>
   unfold wN at h ⊢;by_cases e:a=b
   .subst e;rw[if_pos rfl] at h ⊢;exact ih h
   rw[if_neg e] at h;rw[if_neg (Ne.symm e)];have:=of_decide_eq_true h;exact decide_eq_false aa
theorem ao8:∀ {A B D:List Int},wN A B=true->wN B D=true->wN A D=true:=by
 intro A
 induction A with
 |nil=>intro B D h;cases B<;>cases h
 |cons a A ih=>
  intro B D h h';cases B with
  |nil=>cases h
  |cons b B=>
   cases D with
   |nil=>cases h'
   |cons d D=>
    unfold wN at h h' ⊢;by_cases e:a=b
    .subst e;rw[if_pos rfl] at h;by_cases e':a=d
     .subst e';rw[if_pos rfl] at h' ⊢;exact ih h h'
     rw[if_neg e'] at h' ⊢;exact h'
    rw[if_neg e] at h;have h1:=of_decide_eq_true h;by_cases e':b=d
    .subst e';rw[if_neg e];exact h
    rw[if_neg e'] at h';have h2:=of_decide_eq_true h';rw[if_neg aa];exact decide_eq_true aa
def Jc(a:Let):List Int:=[a.kind,a.gate,a.aB,a.id,if a.over then 1 else 0,a.sign]
theorem P0(a b:Let):pJ a b=wN (Jc a) (Jc b):=by
 cases a with|mk k g r i s o=>cases b with|mk k' g' r' i' s' o'=>
 unfold pJ Jc;simp only[wN];by_cases h1:k=k'
 .by_cases h2:g=g'
  .by_cases h3:r=r'
   .by_cases h4:i=i'
    .cases o<;>cases o'<;>by_cases h6:s=s'<;>simp[h1,h2,h3,h4,h6]
    simp[h1,h2,h3,h4]
   simp[h1,h2,h3]
  simp[h1,h2]
 simp[h1]
theorem ao1{a b:Let}(h:pJ a b=true):pJ b a=false:=by rw[P0] at*;exact ao6 h
theorem ao2{a b c:Let}(h1:pJ a b=true)(h2:pJ b c=true):pJ a c=true:=by rw[P0] at*;exact ao8 h1 h2
def mu:List Let->List Let->Bool
 |a::A,b::B=>if leq a b then mu A B else pJ a b
 |_,_=>false
theorem aiX(A:List Let):mu A A=false:=by
 induction A with
 |nil=>rfl
 |cons a A ih=>unfold mu;rw[if_pos (M6 a)];exact ih
theorem Yt:∀ {A B D:List Let},mu A B=true->mu B D=true->mu A D=true:=by
 intro A
 induction A with
 |nil=>intro B D h;cases B<;>cases h
 |cons a A ih=>
  intro B D h h';cases B with
  |nil=>cases h
  |cons b B=>
   cases D with
   |nil=>cases h'
   |cons d D=>
    unfold mu at h h' ⊢;by_cases e:a=b
    .subst e;rw[if_pos (M6 a)] at h;by_cases e':a=d
     .subst e';rw[if_pos (M6 a)] at h' ⊢;exact ih h h'
     have e1:¬leq a d=true:=fun x=>e' ((Jg _ _).1 x);rw[if_neg e1] at h' ⊢;exact h'
    have e1:¬leq a b=true:=fun x=>e ((Jg _ _).1 x);rw[if_neg e1] at h;by_cases e':b=d
    .subst e';rw[if_neg e1];exact h
    have e2:¬leq b d=true:=fun x=>e' ((Jg _ _).1 x);rw[if_neg e2] at h';have e3:¬leq a d=true:=fun x=>by have:=(Jg _ _).1 x;subst this;rw[ao1 h] at h';cases h'
    rw[if_neg e3];exact ao2 h h'
def gH(l:List Let)(i:Nat):List Let:=l.drop i++l.take i
def par(l:List Let)(i:Nat):Prop:=ay Let.aA (l.take i)%2=0
def evn(l:List Let)(i:Nat):Prop:=(∃x,l[i]?=some x/\x.aA=true)/\par l i
theorem JK(l:List Let)(i:Nat):(gH l i).length=l.length:=by unfold gH;rw[dX,iC,eQ];omega
theorem BY(q:Let->Bool)(a b:List Let):ay q (a++b)=ay q a+ay q b:=vE
theorem Sx(q:Let->Bool)(l:List Let)(i:Nat):ay q (gH l i)=ay q l:=by unfold gH;rw[BY,Fk,<- BY,kG]
theorem arX{l:List Let}{j i:Nat}(hj:j<=l.length)(hi:i<l.length):∃k,k<l.length/\gH (gH l j) i=gH l k/\(gH l j)[i]?=l[k]? /\(ay Let.aA l%2=0->par l j->par (gH l j) i->par l k):=by
 by_cases h:i<l.length-j
 .refine⟨j+i,aa,?_,?_,?_⟩
  .unfold gH;rw[List.drop_append_of_le_length (by rw[iC];omega),Ru (by rw[iC];omega),List.drop_drop,tc];congr 1;rw[<- List.take_add]
  .unfold gH;rw[pS (by rw[iC];omega),r9]
  unfold par gH;intro _ h1 h2;rw[Ru (by rw[iC];omega)] at h2;rw[List.take_add,BY];omega
 refine⟨i-(l.length-j),aa,?_,?_,?_⟩
 .unfold gH;obtain⟨d,hd⟩:∃d,d=i-(l.length-j):=⟨_,rfl⟩;rw[<- hd];have e1:(l.drop j++l.take j).drop i=(l.take j).drop d:=by
   rw[List.drop_append,NS (by rw[iC];omega),fp,iC,hd]
  have e2:(l.drop j++l.take j).take i=l.drop j++(l.take j).take d:=by rw[List.take_append,fS (by rw[iC];omega),iC,hd]
  rw[e1,e2,<- tc];have e3:(l.take j).take d=l.take d:=by rw[Ho,xe aa]
  rw[e3];congr 1;have e4:l.drop d=(l.take j).drop d++l.drop j:=by
   conv=>lhs;rw[<- kG j l]
   rw[List.drop_append_of_le_length (by rw[eQ];omega)]
  exact e4.symm
 .unfold gH;rw[mQ (by rw[iC];omega),iC,jt];rw[if_pos aa]
 unfold par gH;intro ht h1 h2;rw[List.take_append,fS (by rw[iC];omega),iC,BY,Ho,xe aa] at h2;have:ay Let.aA l=ay Let.aA (l.take j)+ay Let.aA (l.drop j):=by rw[<- BY,kG]
 omega
def mM:List Int->List Let->List Let
 |_,[]=>[]
 |s,x::r=>if x.kind==2 then (if s.contains x.id then {x with id:=((s.idxOf x.id+1:Nat):Int)}::mM s r else {x with id:=((s.length+1:Nat):Int)}::mM (s++[x.id]) r) else x::mM s r
def yw(l:List Let):List Let:=mM [] l
def ij(f:Int->Int)(x:Let):Let:=if x.kind==2 then {x with id:=f x.id} else x
theorem Yc(f:Int->Int)(x:Let):(ij f x).kind=x.kind:=by unfold ij;split<;>rfl
theorem Kz(f:Int->Int)(x:Let):(ij f x).aA=x.aA:=by unfold Let.aA;rw[Yc]
def inj(f:Int->Int)(l:List Let):Prop:=∀x∈l,∀y∈l,x.kind=2->y.kind=2->f x.id=f y.id->x.id=y.id
def iB:List Int->List Let->List Int
 |s,[]=>s
 |s,x::r=>if x.kind==2 then (if s.contains x.id then iB s r else iB (s++[x.id]) r) else iB s r
theorem agc:∀(l:List Let) (s:List Int),∃t,iB s l=s++t:=by
 intro l
 induction l with
 |nil=>intro s;exact⟨[],by simp[iB]⟩
 |cons x r ih=>
  intro s;unfold iB;split
  .split
   .exact ih s
   obtain⟨t,h⟩:=ih (s++[x.id]);exact⟨x.id::t,by rw[h];simp⟩
  exact ih s
theorem acM{s t:List Int}{a:Int}(h:a∈s):(s++t).idxOf a=s.idxOf a:=by rw[List.idxOf_append,if_pos h]
theorem afN:∀(l:List Let) (s:List Int),mM s l=l.map (ij fun a=>(((iB s l).idxOf a+1:Nat):Int))/\ ∀x∈l,x.kind=2->x.id∈iB s l:=by
 intro l
 induction l with
 |nil=>intro s;exact⟨rfl,fun x h=>by cases h⟩
 |cons x r ih=>
  intro s;by_cases hk:x.kind=2
  .have qT:(x.kind==2)=true:=by rw[hk];rfl
   cases hc:s.contains x.id with
   |true=>
    have hm:x.id∈s:=List.contains_iff_mem.1 hc;have e:iB s (x::r)=iB s r:=by simp only[iB,qT,hc,if_true]
    obtain⟨h1,h2⟩:=ih s;obtain⟨t,ht⟩:=agc r s;refine⟨?_,?_⟩
    .have e0:mM s (x::r)={x with id:=((s.idxOf x.id+1:Nat):Int)}::mM s r:=by simp only[mM,qT,hc,if_true]
     rw[e,e0,dG,h1];congr 1;unfold ij;rw[if_pos qT,ht];dsimp only;rw[acM hm]
    rw[e];intro y hy I5;rcases cM.1 hy with rfl|hy
    .rw[ht];exact List.mem_append_left _ hm
    exact h2 y hy I5
   |false=>
    have e:iB s (x::r)=iB (s++[x.id]) r:=by simp only[iB,qT,hc,if_true,dx,if_false]
    obtain⟨h1,h2⟩:=ih (s++[x.id]);obtain⟨t,ht⟩:=agc r (s++[x.id]);have hn:¬x.id∈s:=fun h=>by rw[List.contains_iff_mem.2 h] at hc;cases hc
    refine⟨?_,?_⟩
    .have e0:mM s (x::r)={x with id:=((s.length+1:Nat):Int)}::mM (s++[x.id]) r:=by simp only[mM,qT,hc,if_true,dx,if_false]
     rw[e,e0,dG,h1];congr 1;unfold ij;rw[if_pos qT,ht];dsimp only;rw[acM af,List.idxOf_append,if_neg hn];simp
    rw[e];intro y hy I5;rcases cM.1 hy with rfl|hy
    .rw[ht];simp
    exact h2 y hy I5
  have qT:(x.kind==2)=false:=beq_eq_false_iff_ne.2 hk;have e:iB s (x::r)=iB s r:=by simp only[iB,qT,dx,if_false]
  obtain⟨h1,h2⟩:=ih s;refine⟨?_,?_⟩
  .have e0:mM s (x::r)=x::mM s r:=by simp only[mM,qT,dx,if_false]
   rw[e,e0,dG,h1];rw[show ij (fun a=>(((iB s r).idxOf a+1:Nat):Int)) x=x from if_neg (by rw[qT];decide)]
  rw[e];intro y hy I5;rcases cM.1 hy with rfl|hy
  .exact absurd I5 hk
  exact h2 y hy I5
theorem acK{S:List Int}{a b:Int}(ha:a∈S)(hb:b∈S)(h:S.idxOf a=S.idxOf b):a=b:=by have h1:=List.getElem_idxOf (Rr.2 ha);have h2:=List.getElem_idxOf (Rr.2 hb);rw[<- h1,<- h2];simp only[h]
theorem arE(l:List Let):∃f,inj f l/\yw l=l.map (ij f):=by obtain⟨h1,h2⟩:=afN l [];refine⟨_,?_,h1⟩;intro x hx y hy xk yk h;dsimp only at h;exact acK (h2 x hx xk) (h2 y hy yk) aa
theorem apm{l:List Let}{i:Nat}:x∈gH l i↔x∈l:=by unfold gH;rw[eF,Or.comm,<- eF,kG]
def Ak(l y:List Let):Prop:= ∃i,i<l.length/\evn l i/\y=yw (gH l i)
def Cj(l y:List Let):Prop:=Ak l y\/Ak l.reverse y
theorem abq{l y:List Let}{j:Nat}(hj:j<=l.length)(he:ay Let.aA l%2=0)(hp:par l j)(h:Ak (gH l j) y):Ak l y:=by obtain⟨i,hi,⟨⟨x,hx,xp⟩,h2⟩,rfl⟩:=h;rw[JK] at hi;obtain⟨k,hk,e1,e2,e3⟩:=arX hj hi;rw[e2] at hx;exact⟨k,hk,⟨⟨x,hx,xp⟩,e3 he hp h2⟩,by rw[e1]⟩
def vw(x:aN):aN:=⟨⟨x.p.l,!x.p.d⟩,iF x.o,iF x.i⟩
theorem af6(x:aN):(vw x).up=x.up:=by unfold aN.up vw;cases x.p.d<;>rfl
theorem af5(x:aN):(vw x).lo=x.lo:=by unfold aN.lo vw;cases x.p.d<;>rfl
theorem X4.rv{g:Bool}{i o j q:dS}(h:X4 g i o j q):X4 g (iF o) (iF i) (iF q) (iF j):=by
 obtain⟨a,b,c,d⟩:=h;cases g
 .simp only[dx,if_false] at a b c d;constructor<;>simp only[dx,if_false,iF]
  .exact b
  .exact a
  .exact d
  exact c
 simp only[if_true] at a b c d;constructor<;>simp only[if_true,iF]
 .exact b
 .exact a
 .exact d
 exact c
theorem Xr.rv{x y:aN}(h:Xr x y):Xr (vw x) (vw y):=fun hc mc e=>by obtain⟨h1,h2,h3⟩:=h hc mc e;exact⟨h1,h2,h3.rv⟩
theorem aqe:∀ {z:List aN} {s t:dS},jE s z t->jE (iF t) (z.reverse.map vw) (iF s):=by
 intro z
 induction z with
 |nil=>intro s t h;cases h;rfl
 |cons x z ih=>intro s t h;obtain⟨rfl,h⟩:=h;rw[List.reverse_cons,km];exact Nq.2 ⟨iF x.o,ih h,rfl,rfl⟩
theorem aqc:∀ {z:List aN} {s t:dS},jE s z t->∀x∈z,(∃y∈z,y.i=x.o)\/x.o=t:=by
 intro z
 induction z with
 |nil=>intro s t _ x hx;cases hx
 |cons a z ih=>
  intro s t h x hx;obtain⟨rfl,h⟩:=h;rcases cM.1 hx with rfl|hx
  .cases z with
   |nil=>exact .inr h
   |cons b z=>exact .inl ⟨b,af,h.1⟩
  rcases ih h x hx with ⟨y,hy,e⟩|e
  .exact .inl ⟨y,by simp[hy],e⟩
  exact .inr e
theorem Cz.next{z:List aN}{T B:Nat->Nat->Nat}{S:List Nat}(c:Cz F z T B S){x:aN}(hx:x∈z):∃y∈z,y.i=x.o:=by
 obtain⟨s,h⟩:=c.path;rcases aqc h x hx with e|e
 .exact e
 cases z with
 |nil=>cases hx
 |cons a z=>exact⟨a,af,by rw[h.1,e]⟩
theorem Ji(z:List aN):aO (z.reverse.map vw)=(aO z).reverse:=by rw[<- List.map_reverse];show List.map _ (List.map _ _)=_;rw[ti];rfl
theorem Ca(q:Let->Bool)(l:List Let):ay q l.reverse=ay q l:=List.countP_reverse
theorem Cz.rv{z:List aN}{T B:Nat->Nat->Nat}{S:List Nat}(c:Cz F z T B S):Cz F (z.reverse.map vw) T B S:=by
 obtain⟨s,h⟩:=c.path;have hm:∀x∈z.reverse.map vw,∃y∈z,x=vw y:=fun x hx=>by obtain⟨y,hy,rfl⟩:=dq.1 hx;exact⟨y,List.mem_reverse.1 hy,rfl⟩
 have ec:∀g,cg (aO (z.reverse.map vw)) g=cg (aO z) g:=fun g=>by rw[Ji];exact Ca _ _
 refine⟨⟨_,aqe h⟩,fun x hx=>?_,?_,by rw[Ji,Ca];exact c.ev,fun x hx hc=>?_,?_,fun x hx hp=>?_,fun x hx hp=>?_,fun g hg=>by rw[ec];exact c.gt g hg,by rw[ec];exact c.gz,?_,c.nd,fun s hs=>?_,by rw[Ji,Ca,Ca];exact c.num⟩
 .obtain⟨y,hy,rfl⟩:=hm x hx;obtain⟨o1,o2,o3⟩:=c.ok y hy;refine⟨o1,fun hc=>(o2 hc).symm,fun hp=>?_⟩;obtain⟨p1,p2⟩:=o3 hp;refine⟨p2,?_⟩;show y.o.b= !(!y.p.d);rw[p1,Bool.not_not]
 .refine yG.2 (List.pairwise_reverse.2 (c.cr.imp fun {a b} iR=>iR.symm.rv))
 .obtain⟨y,hy,rfl⟩:=hm x hx;rw[Ji,Ca];exact c.ids y hy hc
 .refine yG.2 (List.pairwise_reverse.2 (c.rk.imp fun {a b} iR=>iR.symm))
 .obtain⟨y,hy,rfl⟩:=hm x hx;rw[ec];exact c.rr y hy hp
 .obtain⟨y,hy,rfl⟩:=hm x hx;obtain⟨a,b,d,e⟩:=c.pl y hy hp;exact⟨by rw[af6];exact a,by rw[af6];exact b,by rw[af5];exact d,by rw[af5];exact e⟩
 .obtain⟨x,hx,hp⟩:=c.one;exact⟨vw x,dq.2 ⟨x,List.mem_reverse.2 hx,rfl⟩,hp⟩
 obtain⟨x,hx,e⟩:=c.wit s hs;obtain⟨y,hy,e2⟩:=c.next hx;refine⟨vw y,dq.2 ⟨y,List.mem_reverse.2 hy,rfl⟩,?_⟩;show s=y.i.r\/s=y.i.l;rw[e2];exact e.symm
def lf(f:Int->Int)(x:aN):aN:=⟨⟨ij f x.p.l,x.p.d⟩,x.i,x.o⟩
theorem Ky(f:Int->Int)(x:Let):(ij f x).gate=x.gate:=by unfold ij;split<;>rfl
theorem Oc(f:Int->Int)(x:Let):(ij f x).aB=x.aB:=by unfold ij;split<;>rfl
theorem Se(f:Int->Int)(x:Let):(ij f x).sign=x.sign:=by unfold ij;split<;>rfl
theorem Sd(f:Int->Int)(x:Let):(ij f x).over=x.over:=by unfold ij;split<;>rfl
theorem Sc(f:Int->Int)(x:Let):(ij f x).aC=x.aC:=by unfold Let.aC;rw[Yc]
theorem Sb{f:Int->Int}(h:x.aC=true):(ij f x).id=f x.id:=by unfold ij;rw[if_pos (show(x.kind==2)=true from h)]
theorem aie{f:Int->Int}(h:x.aC=false):ij f x=x:=by unfold ij;exact if_neg (by rw[show(x.kind==2)=false from h];decide)
theorem aiU{f:Int->Int}(h:dj F x=false):dj F (ij f x)=false:=by
 cases hc:x.aC
 .rw[aie hc];exact h
 have:ij f x={x with id:=f x.id}:=if_pos hc;rw[this];rcases vQ h with hp|_
 .rw[n9 hp] at hc;cases hc
 unfold dj at h ⊢;unfold Let.aC at hc;have hk:x.kind=2:=beq_iff_eq.1 hc
 simpa [hk] using h
theorem M9(f:Int->Int)(z:List aN):aO (z.map (lf f))=(aO z).map (ij f):=by show List.map _ (List.map _ _)=List.map _ (List.map _ _);rw[ti,ti];rfl
theorem On{f:Int->Int}{q:Let->Bool}(hq:∀x,q (ij f x)=q x)(l:List Let):ay q (l.map (ij f))=ay q l:=by show List.countP _ _=List.countP _ _;rw[Du];exact List.countP_congr fun x _=>by rw[Function.comp_apply,hq]
theorem ajs(f:Int->Int)(l:List Let)(g:Nat):cg (l.map (ij f)) g=cg l g:=On (fun x=>by unfold mU;rw[Kz,Ky]) l
theorem Cz.rn{z:List aN}{T B:Nat->Nat->Nat}{S:List Nat}(c:Cz F z T B S){f:Int->Int}(hf:inj f (aO z))(hi:∀x∈z,x.k.aC=true->1<=f x.k.id/\f x.k.id<=((ay Let.aC (aO z)/2:Nat):Int)):Cz F (z.map (lf f)) T B S:=by
 obtain⟨s,h⟩:=c.path;have hm:∀x∈z.map (lf f),∃y∈z,x=lf f y:=fun x hx=>by obtain⟨y,hy,rfl⟩:=dq.1 hx;exact⟨y,hy,rfl⟩
 have ec:∀g,cg (aO (z.map (lf f))) g=cg (aO z) g:=fun g=>by rw[M9,ajs]
 have eC:ay Let.aC (aO (z.map (lf f)))=ay Let.aC (aO z):=by rw[M9];exact On (Sc f) _
 have eP:ay Let.aA (aO (z.map (lf f)))=ay Let.aA (aO z):=by rw[M9];exact On (Kz f) _
 have kC:∀y:aN,(lf f y).k.aC=y.k.aC:=fun y=>Sc f y.k;have kP:∀y:aN,(lf f y).k.aA=y.k.aA:=fun y=>Kz f y.k;have kl:∀y∈z,y.k∈aO z:=fun y hy=>dq.2 ⟨y,hy,rfl⟩;have VG:∀ {z:List aN} {s t:dS},jE s z t->jE s (z.map (lf f)) t:=by
  intro z
  induction z with
  |nil=>intro s t h;exact h
  |cons x z ih=>intro s t h;exact⟨h.1,ih h.2⟩
 refine⟨⟨s,VG h⟩,fun x hx=>?_,?_,by rw[eC];exact c.ev,fun x hx hc=>?_,?_,fun x hx hp=>?_,fun x hx hp=>?_,fun g hg=>by rw[ec];exact c.gt g hg,by rw[ec];exact c.gz,?_,c.nd,fun s hs=>?_,by rw[eP,eC];exact c.num⟩
 .obtain⟨y,hy,rfl⟩:=hm x hx;obtain⟨o1,o2,o3⟩:=c.ok y hy;exact⟨aiU o1,fun hc=>o2 (by rw[kC] at hc;exact hc),fun hp=>o3 (by rw[kP] at hp;exact hp)⟩
 .refine yG.2 (List.Pairwise.imp_of_mem (fun {a b} ha hb iR=>?_) c.cr);intro ac bc e;rw[kC] at ac bc;have e2:f a.k.id=f b.k.id:=by
   have:=e;rw[show(lf f a).k.id=f a.k.id from Sb ac,show(lf f b).k.id=f b.k.id from Sb bc] at this;exact this
  obtain⟨h1,h2,h3⟩:=iR ac bc (hf _ (kl a ha) _ (kl b hb) (beq_iff_eq.1 ac) (beq_iff_eq.1 bc) e2);refine⟨?_,?_,?_⟩
  .show(ij f a.k).over= !(ij f b.k).over;rw[Sd,Sd];exact h1
  .show(ij f a.k).sign=(ij f b.k).sign;rw[Se,Se];exact h2
  show X4 (gX (ij f a.k)) _ _ _ _;have:gX (ij f a.k)=gX a.k:=by unfold gX;rw[Sd,Se]
  rw[this];exact h3
 .obtain⟨y,hy,rfl⟩:=hm x hx;rw[kC] at hc;rw[eC,show(lf f y).k.id=f y.k.id from Sb hc];exact hi y hy hc
 .refine yG.2 (c.rk.imp fun {a b} iR=>?_);intro ap bp e1 e2;rw[kP] at ap bp;refine iR ap bp ?_ ?_
  .have:=e1;rw[show(lf f a).k.gate=a.k.gate from Ky f a.k,show(lf f b).k.gate=b.k.gate from Ky f b.k] at this;exact this
  have:=e2;rw[show(lf f a).k.aB=a.k.aB from Oc f a.k,show(lf f b).k.aB=b.k.aB from Oc f b.k] at this;exact this
 .obtain⟨y,hy,rfl⟩:=hm x hx;rw[kP] at hp;rw[ec,show(lf f y).k.aB=y.k.aB from Oc f y.k,show(lf f y).k.gate=y.k.gate from Ky f y.k];exact c.rr y hy hp
 .obtain⟨y,hy,rfl⟩:=hm x hx;rw[kP] at hp;obtain⟨a,b,d,e⟩:=c.pl y hy hp;have u:(lf f y).up=y.up:=rfl;have w:(lf f y).lo=y.lo:=rfl;have eg:(lf f y).k.gate=y.k.gate:=Ky f y.k;have er:(lf f y).k.aB=y.k.aB:=Oc f y.k;exact⟨by rw[u,eg,er];exact a,by rw[u,eg,er];exact b,by rw[w,eg,er];exact d,by rw[w,eg,er];exact e⟩
 .obtain⟨x,hx,hp⟩:=c.one;exact⟨lf f x,dq.2 ⟨x,hx,rfl⟩,by rw[kP];exact hp⟩
 obtain⟨x,hx,e⟩:=c.wit s hs;exact⟨lf f x,dq.2 ⟨x,hx,rfl⟩,e⟩
theorem agb:∀(l:List Let) (s:List Int),s.Nodup->(iB s l).Nodup/\ ∀a∈iB s l,a∈s\/ ∃x∈l,x.aC=true/\x.id=a:=by
 intro l
 induction l with
 |nil=>intro s h;exact⟨h,fun a ha=>.inl ha⟩
 |cons x r ih=>
  intro s h;unfold iB;split
  .rename_i hk;split
   .obtain⟨h1,h2⟩:=ih s h;refine⟨h1,fun a ha=>?_⟩;rcases h2 a ha with h3|⟨y,hy,h3⟩
    .exact .inl h3
    exact .inr ⟨y,by simp[hy],h3⟩
   rename_i hc;have hn:¬x.id∈s:=fun h=>hc (List.contains_iff_mem.2 h);obtain⟨h1,h2⟩:=ih (s++[x.id]) (by rw[Hn];refine⟨h,af,fun a ha b hb e=>?_⟩;rw[mR.1 hb] at e;exact hn (e▸ha))
   refine⟨h1,fun a ha=>?_⟩;rcases h2 a ha with h3|⟨y,hy,h3⟩
   .rcases eF.1 h3 with h3|h3
    .exact .inl h3
    exact .inr ⟨x,af,hk,(mR.1 h3).symm⟩
   exact .inr ⟨y,by simp[hy],h3⟩
  obtain⟨h1,h2⟩:=ih s h;refine⟨h1,fun a ha=>?_⟩;rcases h2 a ha with h3|⟨y,hy,h3⟩
  .exact .inl h3
  exact .inr ⟨y,by simp[hy],h3⟩
theorem arD(l:List Let)(hi:∀x∈l,x.aC=true->1<=x.id/\x.id<=((ay Let.aC l/2:Nat):Int)):∃f,inj f l/\yw l=l.map (ij f)/\ ∀x∈l,x.aC=true->1<=f x.id/\f x.id<=((ay Let.aC l/2:Nat):Int):=by
 obtain⟨h1,h2⟩:=afN l [];refine⟨_,?_,h1,?_⟩
 .intro x hx y hy xk yk h;dsimp only at h;exact acK (h2 x hx xk) (h2 y hy yk) aa
 intro x hx hc;have hm:=h2 x hx (beq_iff_eq.1 hc);have aw:=Rr.2 hm;obtain⟨n1,n2⟩:=agb l [] w7;have hr:∀a∈iB [] l,1<=a/\a<=((ay Let.aC l/2:Nat):Int):=fun a ha=>by
  rcases n2 a ha with h3|⟨y,hy,yc,rfl⟩
  .cases h3
  exact hi y hy yc
 have:=JV ((iB [] l).map Int.toNat) (List.range' 1 (ay Let.aC l/2)) ?_ ?_
 .rw[cF,List.length_range'] at this;omega
 .refine yG.2 (List.Pairwise.imp_of_mem (fun {a b} ha hb h e=>h ?_) n1);have:=hr a ha;have:=hr b hb;omega
 intro x hx;obtain⟨id,hid,rfl⟩:=dq.1 hx;have:=hr id hid;rw[List.mem_range'_1];omega
theorem Cz.rotN{z:List aN}{T B:Nat->Nat->Nat}{S:List Nat}(c:Cz F z T B S)(i:Nat):Cz F (z.drop i++z.take i) T B S:=by rw[<- kG i z] at c;exact c.kh
theorem abr{z:List aN}{T B:Nat->Nat->Nat}{S:List Nat}(c:Cz F z T B S)(h0:∀x,z[0]?=some x->x.i.b=false)(hl:z.length<=400)(eV:ay Let.aC (aO z)<=200)(hF:F<=40){y:List Let}(h:Ak (aO z) y):cN F y=0:=by
 obtain⟨i,hi,⟨⟨x,hx,hp⟩,MF⟩,rfl⟩:=h;obtain⟨e,he,rfl⟩:=CV hx;have hd:e.p.d=true:=by
  obtain⟨s,hs⟩:=c.path;have hlen:0<z.length:=by have:=(aS.1 he).1;omega
  obtain⟨a,ha⟩:∃a,z[0]?=some a:=⟨z[0],nG hlen⟩;have hb:s.b=false:=by rw[<- Nr hs ha];exact h0 a ha
  have:=(Ww c.ok hs hb i e he).1;have hm:=aU he;have h2:=((c.ok e hm).pb hp).2;rw[this] at h2;have h3:dn (aO z) i=true:=by
   unfold dn;have:ay Let.aA ((aO z).take i)%2=0:=MF
   simpa using this
  rw[h3] at h2;cases hq:e.p.d
  .rw[hq] at h2;cases h2
  rfl
 have c2:=c.rotN i;have e1:aO (z.drop i++z.take i)=gH (aO z) i:=by unfold gH aO;rw[km,List.map_drop,Hj]
 have ec:ay Let.aC (gH (aO z) i)=ay Let.aC (aO z):=Sx _ _ _;obtain⟨f,hf,hr,nh⟩:=arD (gH (aO z) i) (fun x hx hc=>by rw[ec];obtain⟨w,hw,rfl⟩:=dq.1 (apm.1 hx);exact c.ids w hw hc)
 rw[hr];rw[<- e1] at hf nh;have c3:=c2.rn hf (fun x hx hc=>nh _ (dq.2 ⟨x,hx,rfl⟩) hc);have zq:z.drop i=e::z.drop (i+1):=by obtain⟨hl,e⟩:=aS.1 he;rw[<- e,tg]
 rw[<- e1,<- M9];refine c3.check (x:=lf f e) (r:=(z.drop (i+1)++z.take i).map (lf f)) (by rw[zq];rfl) ?_ hd ?_ ?_ hF
 .show(ij f e.k).aA=true;rw[Kz];exact hp
 .rw[cF,dX,iC,eQ];omega
 rw[M9,On (Sc f),e1,ec];exact eV
theorem aoH(a b:Let):aI S 98 [PY a,PY b] (rb (pJ a b)):=by
 by_cases h1:a.kind=b.kind
 .by_cases h2:a.gate=b.gate
  .by_cases h3:a.aB=b.aB
   .by_cases h4:a.id=b.id
    .cases h5:(a.over==b.over) with
     |true=>
      have e:pJ a b=decide (a.sign<b.sign):=by simp only[pJ,h1,h2,h3,h4,h5,beq_self_eq_true,if_true]
      rw[e];refine aY c98 ?_;simp only[go_sem,i98,h1,h2,h3,h4,h5,bne]
     |false=>
      have e:pJ a b=b.over:=by simp only[pJ,h1,h2,h3,h4,h5,beq_self_eq_true,if_true,dx,if_false]
      rw[e];refine aY c98 ?_;simp only[go_sem,i98,h1,h2,h3,h4,h5,bne]
    have Iw:(a.id==b.id)=false:=by simp[h4]
    have e:pJ a b=decide (a.id<b.id):=by simp only[pJ,h1,h2,h3,Iw,beq_self_eq_true,if_true,dx,if_false]
    rw[e];refine aY c98 ?_;simp only[go_sem,i98,h1,h2,h3,Iw,bne]
   have Aq:(a.aB==b.aB)=false:=by simp[h3]
   have e:pJ a b=decide (a.aB<b.aB):=by simp only[pJ,h1,h2,Aq,beq_self_eq_true,if_true,dx,if_false]
   rw[e];refine aY c98 ?_;simp only[go_sem,i98,h1,h2,Aq,bne]
  have mz:(a.gate==b.gate)=false:=by simp[h2]
  have e:pJ a b=decide (a.gate<b.gate):=by simp only[pJ,h1,mz,beq_self_eq_true,if_true,dx,if_false]
  rw[e];refine aY c98 ?_;simp only[go_sem,i98,h1,mz,bne]
 have sF:(a.kind==b.kind)=false:=by simp[h1]
 have e:pJ a b=decide (a.kind<b.kind):=by simp only[pJ,sF,dx,if_false]
 rw[e];refine aY c98 ?_;simp only[go_sem,i98,sF,bne]
theorem ZJ{A:List Let}{k:Nat}(h:k<A.length):A.drop k=lA A k::A.drop (k+1):=by have:=A0 h;obtain⟨h1,e⟩:=aS.1 this;rw[<- e,tg]
theorem ai0(A B:List Let)(hAB:A.length=B.length)(hl:A.length<=1000000):aI S 79 [.one (.p (cP A)),.one (.p (cP B))] (rb (mu A B)):=by
 generalize hr:mu A B=r;refine aY c79 ?_;simp only[go_sem,i79];refine cV (fun k ak aj=>ak 0=.one (.p (cP A))/\ak 1=.one (.p (cP B))/\ak 7=vi A.length/\ak 8=vi k/\mu (A.drop k) (B.drop k)=r) 0 A.length (bd _) ?_ ?_
 .simp only[go_sem];first|exact hr|exact⟨rfl,hr⟩
 rintro k ak aj hk ⟨h0,h1,h7,h8,hn⟩
 by_cases aw:k<A.length
 .have hx:=A0 aw;have hy:=A0 (ls:=B) (i:=k) aa;have jy:=mL hx;have MV:=mL hy;have aL:(k:Int)<(A.length:Int):=aa;have w1:=cK (n:=k) aa;have hlB:k<B.length:=aa;rw[ZJ aw,ZJ hlB] at hn;unfold mu at hn;cases he:leq (lA A k) (lA B k) with
  |true=>rw[if_pos he] at hn;simp only[go_sem,i79_l1,h0,h1,h7,h8,jy,MV,Let.ps,aL,aw,w1,ZZ,he];exact⟨aH,hn⟩
  |false=>rw[if_neg (by rw[he];decide)] at hn;have pl:=aoH (lA A k) (lA B k);rw[hn] at pl;simp only[go_sem,i79_l1,h0,h1,h7,h8,jy,MV,Let.ps,aL,ZZ,he,s98,tu pl];first|exact⟨aH,aH,rfl⟩|exact⟨aH,aH⟩
 have:k=A.length:=aa;subst this;rw[Hg,NS aa] at hn;have hn:false=r:=hn;subst hn;simp only[go_sem,i79_l1,i79_r2,h7,h8,eK]
theorem agd(l:List Let)(x:Let):∀s,iB s (l++[x])=if x.kind==2 then (if (iB s l).contains x.id then iB s l else iB s l++[x.id]) else iB s l:=by
 induction l with
 |nil=>intro s;rfl
 |cons a r ih=>
  intro s;rw[jg]
  conv=>lhs;unfold iB
  conv=>rhs;unfold iB
  split
  .split<;>exact ih _
  exact ih _
def nxL(s:List Int)(x:Let):Let:=if x.kind==2 then (if s.contains x.id then {x with id:=((s.idxOf x.id+1:Nat):Int)} else {x with id:=((s.length+1:Nat):Int)}) else x
theorem afO(l:List Let)(x:Let):∀s,mM s (l++[x])=mM s l++[nxL (iB s l) x]:=by
 induction l with
 |nil=>
  intro s;show mM s [x]=[nxL s x];unfold mM nxL;split
  .split<;>rfl
  rfl
 |cons a r ih=>
  intro s;rw[jg]
  conv=>lhs;unfold mM
  conv=>rhs;unfold mM iB
  split
  .split<;>(rw[ih];rfl)
  rw[ih];rfl
theorem Ny:∀(l:List Let) (s:List Int),(mM s l).length=l.length:=by
 intro l
 induction l with
 |nil=>intro s;rfl
 |cons a r ih=>
  intro s;unfold mM;split
  .split<;>simp[ih]
  simp[ih]
theorem QG(l:List Let):(yw l).length=l.length:=Ny l []
def yj(s:List Int)(i:Nat):List (Int×Int):=match s with
 |[]=>[]
 |a::r=>(a,((i+1:Nat):Int))::yj r (i+1)
theorem apt:∀(s:List Int) (i:Nat),(yj s i).length=s.length:=by
 intro s
 induction s with
 |nil=>intro i;rfl
 |cons a r ih=>intro i;show(yj r (i+1)).length+1=_;rw[ih];rfl
theorem aps(a:Int):∀(s:List Int) (i:Nat),yj s i++[(a,((i+s.length+1:Nat):Int))]=yj (s++[a]) i:=by
 intro s
 induction s with
 |nil=>intro i;rfl
 |cons b r ih=>intro i;show(b,((i+1:Nat):Int))::(yj r (i+1)++_)=(b,((i+1:Nat):Int))::yj (r++[a]) (i+1);rw[<- ih (i+1),cq,show i+1+r.length+1=i+(r.length+1)+1 by omega]
theorem aa8(x:Int):∀(s:List Int) (i:Nat),fiM (yj s i) x i=if s.contains x then some (i+s.idxOf x,((i+s.idxOf x+1:Nat):Int)) else none:=by
 intro s
 induction s with
 |nil=>intro i;rfl
 |cons a r ih=>
  intro i;show(if x==a then some (i,((i+1:Nat):Int)) else fiM (yj r (i+1)) x (i+1))=_;by_cases h:x=a
  .subst h;simp
  have h1:(x==a)=false:=beq_eq_false_iff_ne.2 h;have h2:(a==x)=false:=beq_eq_false_iff_ne.2 (Ne.symm h);rw[h1,ih (i+1),List.contains_cons,h1,Bw,List.idxOf_cons,h2];simp only[dx,if_false,cond_false];split
  .congr 2
   .omega
   congr 1;omega
  rfl
def rQ(L:List Let)(k:Nat):List Let:=mM [] (L.take k)++L.drop k
theorem amL(L:List Let){k:Nat}:(rQ L k).length=L.length:=by unfold rQ;rw[dX,Ny,eQ,iC];omega
theorem GZ{L:List Let}{k:Nat}(h:L[k]?=some x):L.take (k+1)=L.take k++[x]:=by obtain⟨hl,e⟩:=aS.1 h;rw[<- e,List.take_append_getElem]
theorem amK{L:List Let}{k:Nat}(h:L[k]?=some x):(rQ L k)[k]?=some x:=by have hl:=(aS.1 h).1;unfold rQ;rw[mQ (by rw[Ny,eQ];omega),Ny,eQ,r9,xe aa,Fm,se,h]
theorem amN{L:List Let}{k:Nat}(h:L[k]?=some x):(rQ L k).set k (nxL (iB [] (L.take k)) x)=rQ L (k+1):=by
 obtain⟨hl,e⟩:=aS.1 h;have hd:L.drop k=x::L.drop (k+1):=by rw[<- e,tg]
 have hlen:(mM [] (L.take k)).length=k:=by rw[Ny,eQ];omega
 unfold rQ;rw[GZ h,afO,hd,List.set_append_right _ _ aa,hlen,Fm,List.set_cons_zero,tc];rfl
theorem amM{L:List Let}{k:Nat}(h:L[k]?=some x)(hx:(x.kind==2)=false):rQ L (k+1)=rQ L k/\iB [] (L.take (k+1))=iB [] (L.take k):=by
 obtain⟨hl,e⟩:=aS.1 h;have hd:L.drop k=x::L.drop (k+1):=by rw[<- e,tg]
 refine⟨?_,?_⟩
 .unfold rQ;rw[GZ h,afO,hd];unfold nxL;rw[hx];simp
 rw[GZ h,agd,hx];rfl
theorem arF(L:List Let)(aF:L≠[])(hl:L.length<=1000000):aI S 77 [.one (.p (cP L))] (.one (aR lK 6 (dA (yw L)))):=by
 have pcl:=YS aF hl;have lo:S.lone 4928128064=false:=ah;refine aY c77 ?_;simp only[go_sem,i77,s47];refine lW pcl lo (.inl rfl) fun cc kI gc mA=>?_;have b0:=mA 4928064000 ae;rcases gc with ⟨e,_⟩|⟨_,gg,e,hC⟩
 .exact absurd (by simpa using e) aF
 cases e;rw[cF];simp only[go_sem] at b0;simp only[go_sem];refine cV (fun k ak aj=>ak 3=.one (.jV 4928064000 1)/\ak 4=.one (.hsl 4928128064 gg 6 0 L.length)/\ak 10=.one (.hsl 4928128064 gg 6 0 L.length)/\ak 11=vi L.length/\ak 12=vi k/\
  aj 4928064000=(1,some (.map false (mkE (yj (iB [] (L.take k)) 0))))/\aj 4928128064=(gg,some (.arr lK 6 (dA (rQ L k))))) 0 L.length (bd _) ?_ ?_
 .simp only[go_sem,b0];exact⟨rfl,rfl,hC⟩
 rintro k ak aj hk ⟨h3,h4,dF,dK,gA,bM,bX⟩
 by_cases aw:k<L.length
 .have aL:((k:Int)<(L.length:Int)):=aa;obtain⟨x,hxL⟩:=aK aw;have hx:=amK hxL;have Vu:k<(rQ L k).length:=by rw[amL];exact aw
  have jy:=mL hx;have l6:=GZ hxL;obtain⟨n1,_⟩:=agb (L.take k) [] w7;have hsl:∀(l:List Let) (s:List Int),(iB s l).length<=s.length+l.length:=by
   intro l
   induction l with
   |nil=>intro s;exact aX _
   |cons a r ih=>
    intro s;unfold iB;split
    .split
     .have:=ih s;simp only[cq];omega
     have:=ih (s++[a.id]);simp only[dX,cq,dN] at this ⊢;omega
    have:=ih s;simp only[cq];omega
  have hsk:=hsl (L.take k) [];rw[eQ] at hsk;simp only[dN] at hsk;have w1:=cK (n:=k) aa;cases jH:(x.kind==2) with
  |false=>obtain⟨e1,e2⟩:=amM hxL jH;rw[<- e1] at bX jy Vu;rw[<- e2] at bM;simp only[go_sem,i77_l1,h3,h4,dF,dK,gA,bM,bX,aw,aL,jy,Let.ps,jH,bne,w1]
  |true=>
   have iH:=amN hxL;have Ey:=agd (L.take k) x [];rw[<- l6,jH,if_pos rfl] at Ey;unfold nxL at iH;rw[jH,if_pos rfl] at iH;generalize iB [] (L.take k)=s at iH Ey bM hsk;have w2:=cK (n:=s.length) aa;have fk:=abe (yj s 0) x.id 0;rw[aa8] at fk;have ni:=apt s 0;cases hc:s.contains x.id with
   |false=>
    rw[hc] at iH Ey fk;simp only[dx,if_false,Option.map_none] at iH Ey fk;have f2:=abe (yj (s++[x.id]) 0) x.id 0;rw[aa8,show(s++[x.id]).contains x.id=true by simp] at f2;have IL:(s++[x.id]).idxOf x.id=s.length:=by rw[List.idxOf_append,if_neg (fun h=>by rw[List.contains_iff_mem.2 h] at hc;cases hc)];simp
    rw[IL] at f2;simp only[if_true,jZ,iD] at f2;have oY:=aps x.id s 0;rw[iD] at oY;rw[<- oY,<- aew] at f2;have VO:(dA (rQ L k)).set k [.int .i64 x.kind,.int .i64 x.gate,.int .i64 x.aB,.int .i64 ((s.length+1:Nat):Int),.int .i64 x.sign,.bool x.over]=dA (rQ L (k+1)):=by rw[<- iH,<- ad6];rfl
    simp only[go_sem,i77_l1,h3,h4,dF,dK,gA,bM,bX,aw,aL,jy,Let.ps,jH,bne,w1,w2,ni,mapOf,mapVal,iz,zN,xv,fk,Option.map_none,f2,VO];rw[Ey,<- oY,<- aew]
   |true=>
    rw[hc] at iH Ey fk;simp only[if_true,jZ,iD] at iH Ey fk;have hv:((((s.idxOf x.id+1:Nat):Int))==0)=false:=by rw[beq_eq_false_iff_ne];omega
    have VO:(dA (rQ L k)).set k [.int .i64 x.kind,.int .i64 x.gate,.int .i64 x.aB,.int .i64 ((s.idxOf x.id+1:Nat):Int),.int .i64 x.sign,.bool x.over]=dA (rQ L (k+1)):=by rw[<- iH,<- ad6];rfl
    simp only[go_sem,i77_l1,h3,h4,dF,dK,gA,bM,bX,aw,aL,jy,Let.ps,jH,bne,w1,mapOf,mapVal,iz,fk,hv,VO];rw[Ey]
 have:k=L.length:=aa;subst this;have hX:rQ L L.length=yw L:=by unfold rQ yw;rw[jh,Hg,jR]
 rw[hX] at bX;have Mp:=QG L;simp only[go_sem,i77_l1,i77_r2,h4,dK,gA,eK];refine tE (.inr ⟨?_,gg,by rw[cF,Mp],bX⟩);intro h2;have:=congrArg List.length h2;rw[cF,Mp] at this;exact aF (uL.1 this)
def bkP(ls:List Let)(i:Nat):Bool:=((lA ls.reverse i).kind==1)&& !((j5 ls).getD (ls.length-1-i) false)
def xt(ls:List Let):List Let:=match (List.range ls.length).find? (bkP ls) with
 |some i=>gH ls.reverse i
 |none=>ls.reverse
theorem Oi(ls:List Let):(xt ls).length=ls.length:=by
 unfold xt;split
 .rw[JK,qD]
 rw[qD]
theorem aiT{ls:List Let}(aF:ls≠[])(hl:ls.length<=1000000):aI S 76 [.one (.p (mv F ls))] (.one (aR lK 6 (dA (xt ls)))):=by
 have pcl:=YS aF hl;have lo:S.lone 4864064320=false:=ah;have pG:S.lone 4864512128=false:=ah;have nM:=Oi ls;generalize hR:xt ls=R at nM;refine aY c76 ?_;simp only[go_sem,i76,s47];refine lW pcl lo (.inl rfl) fun cc kI gc mA=>?_;simp only[go_sem,s97];refine abK (f:=97) (es:=dA ls) (id:=4864064320) (ty:=lK) (z:=6) (fun o h=>arK o (by simp;omega) (aoN _) h) (gc.of_eq rfl) fun blkr gr hbr=>?_;rw[aoM] at gr;rcases gr with ⟨e,_⟩|⟨_,gg,e,hC⟩
 .have:=congrArg List.length e;rw[cF,qD] at this;exact absurd (uL.1 this) aF
 cases e;rw[cF,qD];simp only[go_sem];have Lx:ls.reverse.length=ls.length:=qD;have uB:IntKind.i64.wrap ((ls.length:Int)-1)=((ls.length-1:Nat):Int):=by have:=gV.2 aF;rw[vC aa aa];omega
 have hdl:(j5 ls).length=ls.length:=by simp[j5]
 unfold xt at hR;have iu:∀i,bkP ls i=(((lA ls.reverse i).kind==1)&& !((j5 ls).getD (ls.length-1-i) false)):=fun _=>rfl;generalize bkP ls=bp at hR iu;generalize ls.reverse=X at hC Lx gc hR iu;refine cV (fun k ak aj=>ak 0=.one (.p (mv F ls))/\ak 3=.one (.hsl 4864064320 gg 6 0 ls.length)/\ak 15=vi ls.length/\ak 16=vi k/\aj 4864064320=(gg,some (.arr lK 6 (dA X)))/\ ∀j,j<k->bp j=false) 0 ls.length (bd _) ?_ ?_
 .simp only[go_sem,hC];first|exact⟨rfl,fun j h=>absurd h (qE j)⟩|exact⟨rfl,rfl,fun j h=>absurd h (qE j)⟩
 rintro k ak aj hk ⟨h0,h3,jG,oX,bX,dz⟩
 by_cases aw:k<ls.length
 .have aL:((k:Int)<(ls.length:Int)):=aa;have Vu:k<X.length:=aa;have jy:=mL (A0 Vu);have w1:=cK (n:=k) aa;have w2:IntKind.i64.wrap (((ls.length-1:Nat):Int)-(k:Int))=((ls.length-1-k:Nat):Int):=by
   rw[vC aa aa];omega
  obtain⟨d,hd⟩:=aK (ls:=j5 ls) (k:=ls.length-1-k) aa;have kM:=uq hd;have hdl':ls.length-1-k<(j5 ls).length:=aa;have ng:=iu k;rw[show(j5 ls).getD (ls.length-1-k) false=d by rw[de,hd];rfl] at ng;generalize lA X k=x at jy ng;have amm:ls.length<=X.length:=aa;have hXt:List.take ls.length (dA X)=dA X:=fS (by rw[cF];omega);have pr:=afY X k aa aa;have nx:bp k=false->∀j,j<k+1->bp j=false:=fun hb j hj=>by
   rcases pV.1 hj with h|rfl
   .exact dz j h
   exact hb
  cases jH:(x.kind==1) with
  |false=>rw[jH,Bool.false_and] at ng;simp only[go_sem,i76_l1,h0,h3,jG,oX,bX,aw,aL,jy,Let.ps,jH,uB,w1,w2];exact nx ng
  |true=>
   cases d with
   |true=>rw[jH] at ng;simp only[go_sem,i76_l1,h0,h3,jG,oX,bX,aw,aL,jy,Let.ps,jH,uB,w1,w2,kM];exact nx ng
   |false=>rw[jH] at ng;have hf:(List.range ls.length).find? bp=some k:=DT aw dz ng;rw[hf] at hR;have hR:gH X k=R:=hR;unfold gH at hR;simp only[go_sem,i76_l1,h0,h3,jG,oX,bX,aw,aL,jy,Let.ps,jH,uB,w2,kM,amm,hXt,s78];refine lW pr pG (.inr (nI (JM _))) fun cr fG gr3 eW=>?_;rw[hR] at gr3;simp only[go_sem];exact tE gr3
 have:k=ls.length:=aa;subst this;have hf:(List.range ls.length).find? bp=none:=Lg fun j hj=>dz j hj;rw[hf] at hR;have hR:X=R:=hR;subst hR;simp only[go_sem,i76_l1,i76_r2,h3,jG,oX,eK];refine tE (.inr ⟨?_,gg,by rw[cF,Lx],bX⟩);intro h2;have:=congrArg List.length h2;rw[cF,Lx] at this;exact aF (uL.1 this)
def Ig(l:List Let)(i:Nat):Bool:=((lA l i).kind==1)&&decide (ay Let.aA (l.take i)%2=0)
def qL(l:List Let)(n:Nat):List (List Let):=(List.range n).filterMap fun i=>if Ig l i then some (yw (gH l i)) else none
theorem alb(l:List Let)(n:Nat):qL l (n+1)=qL l n++(if Ig l n then [yw (gH l n)] else []):=by unfold qL;rw[w8,List.filterMap_append];congr 1;cases h:Ig l n<;>simp[h]
def rZ(z:Option (List Let))(y:List Let):Option (List Let):=match z with
 |none=>some y
 |some z=>if mu y z then some y else some z
def yl(V:List (List Let)):Option (List Let):=V.foldl rZ none
theorem apz(V:List (List Let))(y:List Let):yl (V++[y])=rZ (yl V) y:=by unfold yl;rw[BA];rfl
theorem apB{V:List (List Let)}:∀ {o z},V.foldl rZ o=some z->z∈V\/o=some z:=by
 induction V with
 |nil=>intro o z h;exact .inr h
 |cons y V ih=>
  intro o z h;rcases ih (o:=rZ o y) h with h1|h1
  .exact .inl (by simp[h1])
  cases o with
  |none=>cases h1;exact .inl af
  |some w=>
   unfold rZ at h1;simp only at h1;split at h1
   .cases h1;exact .inl af
   exact .inr h1
theorem Wl{V:List (List Let)}{z:List Let}(h:yl V=some z):z∈V:=by
 rcases apB h with h|h
 .exact h
 cases h
def cO:Option (List Let)->PV
 |none=>.nils
 |some Y=>cP Y
def uH(F:Nat)(ls:List Let)(gB:Nat)(bs:List (List PV))(k:Nat)(V:List (List Let))(ak:Env)(aj:aq):Prop:=
 ak 0=.one (.p (mv F ls))/\ak 2=.one (.bk 3072000000 1 0)/\ak 17=.one (.hsl 3072128448 gB 1 0 2)/\ak 18=vi 2/\ak 19=vi k/\ak 3=.one (.p (cO (yl V)))/\
 aj 3072000000=(1,some (.var [.p (.int .i64 0),.p .nils]))/\aj 3072128448=(gB,some (.arr 22 1 bs))
theorem afd(l:List Let){i:Nat}(hx:l[i]?=some x):decide (ay Let.aA (l.take (i+1))%2=0)=if x.kind==1 then !decide (ay Let.aA (l.take i)%2=0) else decide (ay Let.aA (l.take i)%2=0):=by
 rw[GZ hx,BY];have:ay Let.aA [x]=if x.kind==1 then 1 else 0:=by show List.countP _ [x]=_;rw[List.countP_singleton];rfl
 rw[this];generalize ay Let.aA (l.take i)=n;cases (x.kind==1)
 .simp
 simp only[if_true];rw[Bool.eq_iff_iff,kV,decide_eq_true_eq,decide_eq_false_iff_not];omega
theorem aeM{F:Nat}{ls l:List Let}{gB k:Nat}{bs:List (List PV)}{V:List (List Let)}{Q:dy}{ak:Env}{aj:aq}(aF:l≠[])(rU:l.length=ls.length)(hl:ls.length<=1000000)(hV:∀y∈V,y.length=ls.length)(hI:uH F ls gB bs k V ak aj)(h5:ak 5=.one (.p (cP l)))(h6:ak 6=vb true)(jk:ak 23=.one (.p (cP l)))(lZ:ak 24=vi ls.length)(l5:ak 25=vi 0)
  (hK:∀aD ao,uH F ls gB bs k (V++qL l ls.length) aD ao->Q .normal aD ao):W S .all (.loop i48_l1) (nJ 2 Q) ak aj:=by
 refine cV (fun i ak aj=>uH F ls gB bs k (V++qL l i) ak aj/\ak 5=.one (.p (cP l))/\ak 6=vb (decide (ay Let.aA (l.take i)%2=0))/\ak 23=.one (.p (cP l))/\ak 24=vi ls.length/\ak 25=vi i) 0 ls.length (bd _) ⟨by rw[show qL l 0=[] from rfl,jR];exact hI,h5,h6,jk,lZ,l5⟩ ?_;rintro i ak aj hi ⟨⟨h0,h2,gJ,gK,gG,h3,b0,bB⟩,h5,h6,jk,lZ,l5⟩
 by_cases aw:i<ls.length
 .have aL:((i:Int)<(ls.length:Int)):=aa;have am0:i<l.length:=aa;have vk:=A0 am0;have jy:=mL vk;have xX:=afd l vk;have rS:=alb l i;unfold Ig at rS;have oZ:∀y∈V++qL l i,y.length=ls.length:=fun y hy=>by
   rcases eF.1 hy with h|h
   .exact hV y h
   obtain⟨j,_,e⟩:=List.mem_filterMap.1 h;split at e
   .cases e;rw[QG,JK,rU]
   cases e
  generalize lA l i=x at jy xX rS;generalize decide (ay Let.aA (l.take i)%2=0)=d at xX rS h6;generalize qL l i=W0 at*;have w1:=cK (n:=i) aa;have pr:=afY l i aa aa;have Lx:(gH l i).length=ls.length:=by rw[JK,rU]
  rw[show l.drop i++l.take i=gH l i from rfl] at pr;generalize gH l i=R at pr Lx rS;have O8:R≠[]:=gV.1 aa;have pn:=arF R O8 aa;have hY:=QG R;generalize yw R=Y at pn hY rS;have Vc:Y≠[]:=gV.1 aa;have kA:S.lone 3072704128=true:=We ah;have pG:S.lone 3072704192=true:=We ah;cases dV:(x.kind==1) with
  |false=>rw[dV] at xX rS;simp only[Bool.false_and,dx,if_false,jR] at xX rS;simp only[go_sem,i48_l1,h5,h6,jk,lZ,l5,aw,aL,jy,Let.ps,dV,bne,w1];simp only[go_sem,uH,rS,xX,h0,h2,h3,gJ,gK,gG,b0,bB]
  |true=>
   rw[dV] at xX rS;cases d with
   |false=>simp only[Ds,dx,if_false,if_true,jR,Bool.not_false] at xX rS;simp only[go_sem,i48_l1,h5,h6,jk,lZ,l5,aw,aL,jy,Let.ps,dV,bne,w1];simp only[go_sem,uH,rS,xX,h0,h2,h3,gJ,gK,gG,b0,bB]
   |true=>
    simp only[Ds,if_true,Bx] at xX rS;have mI:yl (V++(W0++[Y]))=rZ (yl (V++W0)) Y:=by rw[<- tc,apz]
    cases hz:yl (V++W0) with
    |none=>rw[hz] at mI h3;have mI:yl (V++(W0++[Y]))=some Y:=mI;have h3:ak 3=.one (.p .nils):=h3;simp only[go_sem,i48_l1,h3,h5,h6,jk,lZ,l5,aw,aL,jy,Let.ps,dV,bne,w1,s78,cX pr (GC O8 kA),s77,cX pn (GC Vc pG)];simp only[go_sem,uH,rS,xX,mI,cO,h0,h2,h3,gJ,gK,gG,b0,bB]
    |some Z=>
     rw[hz] at mI h3;have hZ:=oZ Z (Wl hz);have h3:ak 3=.one (.p (cP Z)):=h3;have pb:=ai0 Y Z aa aa;obtain⟨e,es,he⟩:∃e es,dA Z=e::es:=by
      cases Z with
      |nil=>simp at hZ;omega
      |cons z t=>exact⟨_,_,rfl⟩
     have hZe:PV.sl (e::es)=cP Z:=by rw[<- he]
     rw[<- hZe] at pb h3;unfold rZ at mI;simp only at mI;cases hb:mu Y Z with
     |false=>rw[hb] at pb mI;simp only[dx,if_false] at mI;simp only[go_sem,i48_l1,h3,h5,h6,jk,lZ,l5,aw,aL,jy,Let.ps,dV,bne,w1,s78,cX pr (GC O8 kA),s77,cX pn (GC Vc pG),s79,cS pb];simp only[go_sem,uH,rS,xX,mI,cO,hZe,h0,h2,h3,gJ,gK,gG,b0,bB]
     |true=>rw[hb] at pb mI;simp only[if_true] at mI;simp only[go_sem,i48_l1,h3,h5,h6,jk,lZ,l5,aw,aL,jy,Let.ps,dV,bne,w1,s78,cX pr (GC O8 kA),s77,cX pn (GC Vc pG),s79,cS pb];simp only[go_sem,uH,rS,xX,mI,cO,h0,h2,h3,gJ,gK,gG,b0,bB]
 have:i=ls.length:=aa;subst this;simp only[go_sem,i48_l1,lZ,l5,eK];refine hK _ _ ?_;simp only[go_sem,uH,h0,h2,h3,gJ,gK,gG,b0,bB]
def FC(ls:List Let):List (List Let):=qL ls ls.length++qL (xt ls) ls.length
def ke(ls:List Let):Option (List Let):=yl (FC ls)
theorem UK{l:List Let}{n:Nat}{y:List Let}(h:y∈qL l n):y.length=l.length:=by
 obtain⟨j,_,e⟩:=List.mem_filterMap.1 h;split at e
 .cases e;rw[QG,JK]
 cases e
theorem apL{ls:List Let}(aF:ls≠[])(hl:ls.length<=1000000):aI S 48 [.one (.p (mv F ls))] (.agg [.p (.int .i64 F),.p (cO (ke ls))]):=by
 have pb:=aiT (F:=F) aF hl;have hB:=Oi ls;generalize hr:ke ls=res;unfold ke FC at hr;generalize xt ls=B at pb hB hr;have abY:B≠[]:=by have:=gV.2 aF;exact gV.1 aa
 have kA:S.lone 3072128384=true:=We ah;refine aY c48 ?_;simp only[go_sem,i48,s76,KT pb (GC abY kA)];refine⟨aH,?_⟩;refine cV (fun k=>uH F ls 1 [[cP ls],[cP B]] k (if k=0 then [] else if k=1 then qL ls ls.length else qL ls ls.length++qL B ls.length)) 0 2 (bd _) ?_ ?_
 .simp only[go_sem,uH];first|done|exact⟨rfl,rfl⟩|exact⟨rfl,rfl,rfl⟩|exact⟨rfl,rfl,rfl,rfl,rfl,rfl,rfl,rfl⟩|rfl
 intro k ak aj hk hI;obtain⟨h0,h2,gJ,gK,gG,h3,b0,bB⟩:=hI;by_cases aw:k<2
 .have Vp:k=0\/k=1:=aa;have l02:((0:Nat):Int)<2:=ae;have l12:((1:Nat):Int)<2:=ae;rcases Vp with rfl|rfl
  .simp only[go_sem,i48_l3,gJ,gK,gG,bB,l02];refine aeM (F:=F) (ls:=ls) (l:=ls) (gB:=1) (k:=0) (bs:=[[cP ls],[cP B]]) (V:=[]) aF rfl hl (fun y h=>by cases h) ?_ rfl rfl rfl rfl rfl fun aD ao Eb=>?_
   .simp only[go_sem,uH,h0,h2,h3,gJ,gK,gG,b0,bB];first|done|rfl
   obtain⟨h0,h2,gJ,gK,gG,h3,b0,bB⟩:=Eb;rw[fp] at h3;simp only[go_sem,uH,i48_r2,h0,h2,h3,gJ,gK,gG,b0,bB];first|done|rfl|exact⟨rfl,rfl⟩
  simp only[go_sem,i48_l3,gJ,gK,gG,bB,l12];refine aeM (F:=F) (ls:=ls) (l:=B) (gB:=1) (k:=1) (bs:=[[cP ls],[cP B]]) (V:=qL ls ls.length) abY hB hl (fun y h=>UK h) ?_ rfl rfl rfl (by rw[<- hB];rfl) rfl fun aD ao Eb=>?_
  .simp only[go_sem,uH,h0,h2,h3,gJ,gK,gG,b0,bB];first|done|rfl
  obtain⟨h0,h2,gJ,gK,gG,h3,b0,bB⟩:=Eb;simp only[go_sem,uH,i48_r2,h0,h2,h3,gJ,gK,gG,b0,bB];first|done|rfl|exact⟨rfl,rfl⟩
 have:k=2:=aa;subst this;have l22:¬(((2:Nat):Int)<2):=ae;have h3:ak 3=.one (.p (cO res)):=by rw[<- hr];exact h3
 simp only[go_sem,i48_l3,i48_r4,h0,h2,h3,gK,gG,b0,l22];cases res<;>rfl
theorem aeW(bQ:nK){f:Int}{ls:List Let}(hl:ls.length<=1000000)(h0:cN f ls=0):aI S 28 [eY f ls] (.tup [.agg [.p (.int .i64 f),.p (cO (ke ls))],.one (.p (.int .i64 0))]):=by
 have pr:=Nw f ls hl;rw[JH h0] at pr;have pn:aI S 48 [.one (.p (if ls=[] then y8 f else mv f.toNat ls))] (.agg [.p (.int .i64 f),.p (cO (ke ls))]):=by
  by_cases aF:ls=[]
  .rw[if_pos aF];subst aF;exact apK bQ f
  rw[if_neg aF];obtain⟨F,hF,g⟩:=vY h0 aF;subst hF;exact apL (F:=F) aF hl
 have fy:(if ls=[] then y8 f else mv f.toNat ls).norm=(if ls=[] then y8 f else mv f.toNat ls):=by split<;>simp only[Wq]
 generalize (if ls=[] then y8 f else mv f.toNat ls)=dg at pr pn fy;generalize cO (ke ls)=c at*;refine aY c28 ?_;simp only[go_sem,i28,s21,cX pr ia,s48,cX pn aoi,fy];rfl
theorem ao7:∀ {A B:List Int},A.length=B.length->wN A B=false->wN B A=false->A=B:=by
 intro A
 induction A with
 |nil=>intro B h _ _;cases B with
  |nil=>rfl
  |cons _ _=>cases h
 |cons a A ih=>
  intro B h h1 h2;cases B with
  |nil=>cases h
  |cons b B=>
   unfold wN at h1 h2;by_cases e:a=b
   .subst e;rw[if_pos rfl] at h1 h2;rw[ih (by simpa using h) h1 h2]
   rw[if_neg e] at h1;rw[if_neg (Ne.symm e)] at h2;have:=of_decide_eq_false h1;have:=of_decide_eq_false h2;omega
theorem aod{a b:Let}(h:Jc a=Jc b):a=b:=by
 cases a with|mk k g r i s o=>cases b with|mk k' g' r' i' s' o'=>
 unfold Jc at h;simp only[Fh,and_true] at h;obtain⟨h1,h2,h3,h4,h5,h6⟩:=h;have:o=o':=by revert h5;cases o<;>cases o'<;>simp
 subst h1 h2 h3 h4 h6 this;rfl
theorem aiY:∀ {A B:List Let},A.length=B.length->mu A B=false->mu B A=false->A=B:=by
 intro A
 induction A with
 |nil=>intro B h _ _;cases B with
  |nil=>rfl
  |cons _ _=>cases h
 |cons a A ih=>
  intro B h h1 h2;cases B with
  |nil=>cases h
  |cons b B=>
   unfold mu at h1 h2;by_cases e:a=b
   .subst e;rw[if_pos (M6 a)] at h1 h2;rw[ih (by simpa using h) h1 h2]
   have e1:¬leq a b=true:=fun x=>e ((Jg _ _).1 x);have e2:¬leq b a=true:=fun x=>e ((Jg _ _).1 x).symm;rw[if_neg e1,P0] at h1;rw[if_neg e2,P0] at h2;exact absurd (aod (a:=a) (b:=b) (ao7 rfl h1 h2)) e
theorem apC{n:Nat}:∀ {V:List (List Let)} {o z},(∀y∈V,y.length=n)->(∀w,o=some w->w.length=n)->V.foldl rZ o=some z->(∀y∈V,mu y z=false)/\(∀w,o=some w->mu w z=false):=by
 intro V
 induction V with
 |nil=>intro o z _ _ h;refine⟨fun y hy=>(by cases hy),fun w hw=>?_⟩;have h:o=some z:=h;rw[h] at hw;cases hw;exact aiX z
 |cons y V ih=>
  intro o z hV ho h;have hy0:=hV y af;have hV':∀u∈V,u.length=n:=fun u hu=>hV u (by simp[hu]);cases o with
  |none=>
   obtain⟨h1,h2⟩:=ih (o:=some y) hV' (fun w hw=>by cases hw;exact hy0) h;refine⟨fun w hw=>?_,fun w hw=>(by cases hw)⟩;rcases cM.1 hw with rfl|hw
   .exact h2 w rfl
   exact h1 w hw
  |some w=>
   have uB:=ho w rfl;have h:V.foldl rZ (rZ (some w) y)=some z:=h;cases hb:mu y w with
   |true=>
    have e:rZ (some w) y=some y:=by unfold rZ;simp only[hb,if_true]
    rw[e] at h;obtain⟨h1,h2⟩:=ih (o:=some y) hV' (fun w hw=>by cases hw;exact hy0) h;have hy:=h2 y rfl;refine⟨fun u hu=>?_,fun u hu=>?_⟩
    .rcases cM.1 hu with rfl|hu
     .exact hy
     exact h1 u hu
    cases hu;cases hz:mu w z
    .rfl
    rw[Yt hb hz] at hy;cases hy
   |false=>
    have e:rZ (some w) y=some w:=by unfold rZ;simp only[hb,dx,if_false]
    rw[e] at h;obtain⟨h1,h2⟩:=ih (o:=some w) hV' (fun w hw=>by cases hw;exact uB) h;have hw:=h2 w rfl;refine⟨fun u hu=>?_,fun u hu=>by cases hu;exact hw⟩;rcases cM.1 hu with rfl|hu
    .cases hz:mu u z
     .rfl
     cases hwu:mu w u with
     |true=>rw[Yt hwu hz] at hw;cases hw
     |false=>rw[aiY aa hb hwu] at hz;rw[hz] at hw;cases hw
    exact h1 u hu
theorem apy{n:Nat}{V:List (List Let)}{z:List Let}(hV:∀y∈V,y.length=n)(h:yl V=some z):z∈V/\ ∀y∈V,mu y z=false:=
 ⟨Wl h,(apC hV (fun w hw=>by cases hw) h).1⟩
theorem apA{V:List (List Let)}(h:V≠[]):∃z,yl V=some z:=by
 have key:∀(V:List (List Let)) (w:List Let),∃z,V.foldl rZ (some w)=some z:=by
  intro V
  induction V with
  |nil=>intro w;exact⟨w,rfl⟩
  |cons y V ih=>
   intro w;show ∃z,V.foldl rZ (rZ (some w) y)=some z;unfold rZ;simp only;split
   .exact ih y
   exact ih w
 cases V with
 |nil=>exact absurd rfl h
 |cons y V=>exact key V y
theorem Z2{l:List Let}{i:Nat}(hi:i<l.length):Ig l i=true↔evn l i:=by
 have h:=A0 hi;unfold Ig evn par;rw[cH,decide_eq_true_eq];constructor
 .rintro ⟨h1,h2⟩
  exact⟨⟨_,h,h1⟩,h2⟩
 rintro ⟨⟨x,hx,hp⟩,h2⟩
 rw[h] at hx;cases hx;exact⟨hp,h2⟩
theorem aa2{l y:List Let}:y∈qL l l.length↔Ak l y:=by
 unfold qL Ak;rw[List.mem_filterMap];constructor
 .rintro ⟨i,hi,e⟩
  have hi:=fm.1 hi;split at e
  .rename_i hb;cases e;exact⟨i,hi,(Z2 hi).1 hb,rfl⟩
  cases e
 rintro ⟨i,hi,he,rfl⟩
 exact⟨i,fm.2 hi,by rw[if_pos ((Z2 hi).2 he)]⟩
theorem aiR{ls:List Let}(he:ay Let.aA ls%2=0):∃j,j<=ls.length/\par ls.reverse j/\xt ls=gH ls.reverse j:=by
 unfold xt;split
 .rename_i i hf;have hi:=fm.1 (Fi hf);have hb:=Kr hf;unfold bkP at hb;rw[cH] at hb;obtain⟨h1,h2⟩:=hb;refine⟨i,aa,?_,rfl⟩;obtain⟨x,hx⟩:=aK (ls:=ls) (k:=ls.length-1-i) aa;have hxr:ls.reverse[i]?=some x:=by rw[List.getElem?_reverse aa];exact hx
  rw[adQ hxr] at h1;have hd:(j5 ls).getD (ls.length-1-i) false=dn ls (ls.length-1-i):=by unfold j5;rw[de,fR,te aa];show im ls (ls.length-1-i)=_;unfold im;rw[hx];show(x.aA&&_)=_;rw[show x.aA=true from h1,Ds]
  rw[hd] at h2;unfold dn at h2;unfold par;rw[List.take_reverse,Ca];have e1:ay Let.aA ls=ay Let.aA (ls.take (ls.length-i))+ay Let.aA (ls.drop (ls.length-i)):=by rw[<- BY,kG]
  have e2:=afd ls hx;rw[show ls.length-1-i+1=ls.length-i by omega,h1,if_pos rfl] at e2;have h3:¬ay Let.aA (ls.take (ls.length-1-i))%2=0:=by intro h;rw[h] at h2;cases h2
  rw[decide_eq_false h3] at e2;have h4:ay Let.aA (ls.take (ls.length-i))%2=0:=of_decide_eq_true e2;omega
 refine⟨0,bd _,rfl,?_⟩;unfold gH;simp
theorem ap8{l:List Let}{j:Nat}(hj:j<=l.length)(he:ay Let.aA l%2=0)(hp:par l j):par (gH l j) (l.length-j)/\gH (gH l j) (l.length-j)=l:=by
 have hd:(l.drop j).length=l.length-j:=iC;have e1:ay Let.aA l=ay Let.aA (l.take j)+ay Let.aA (l.drop j):=by rw[<- BY,kG]
 unfold par at*;unfold gH;rw[<- hd,List.take_left,List.drop_left,kG];exact⟨aa,rfl⟩
theorem alH{l y:List Let}{j:Nat}(hj:j<=l.length)(he:ay Let.aA l%2=0)(hp:par l j):Ak (gH l j) y↔Ak l y:=by refine⟨abq hj he hp,fun h=>?_⟩;obtain⟨h1,h2⟩:=ap8 hj he hp;refine abq (l:=gH l j) (j:=l.length-j) (by rw[JK];omega) (by rw[Sx];exact he) h1 ?_;rw[h2];exact h
def Ch(a b:List Let):Prop:=a.length=b.length/\ay Let.aA a%2=ay Let.aA b%2/\ ∀y,Cj a y↔Cj b y
theorem Ch.refl(a:List Let):Ch a a:=⟨rfl,rfl,fun _=>Iff.rfl⟩
theorem Ch.symm{a b:List Let}(h:Ch a b):Ch b a:=⟨h.1.symm,h.2.1.symm,fun y=>(h.2.2 y).symm⟩
theorem Ch.trans{a b c:List Let}(h:Ch a b)(k:Ch b c):Ch a c:=⟨h.1.trans k.1,h.2.1.trans k.2.1,fun y=>(h.2.2 y).trans (k.2.2 y)⟩
theorem Sp{l y:List Let}(he:ay Let.aA l%2=0):y∈FC l↔Cj l y:=by
 obtain⟨j,hj,hp,e⟩:=aiR he;unfold FC Cj;have hl:qL (xt l) l.length=qL (xt l) (xt l).length:=by rw[Oi]
 rw[eF,hl,aa2,aa2,e,alH (by rw[qD];exact hj) (by rw[Ca];exact he) hp]
theorem YF{l y:List Let}(h:y∈FC l):y.length=l.length:=by
 unfold FC at h;rcases eF.1 h with h|h
 .exact UK h
 rw[UK h,Oi]
section
variable {F:Nat} {ls:List Let}
theorem dr.isP0(g:dr F ls):evn ls 0:=by obtain⟨l,h1,h2⟩:=g.first;exact⟨⟨l,h1,h2⟩,rfl⟩
def gT(ls:List Let):List Let:=(ke ls).getD []
theorem dr.nor(g:dr F ls):ke ls=some (gT ls)/\Cj ls (gT ls)/\ ∀y,Cj ls y->mu y (gT ls)=false:=by
 have he:=g.even;have h0:Cj ls (yw (gH ls 0)):=.inl ⟨0,gV.2 g.ne,g.isP0,rfl⟩;have hc:FC ls≠[]:=fun e=>by have:=(Sp he).2 h0;rw[e] at this;cases this
 obtain⟨z,hz⟩:=apA hc;obtain⟨z1,z2⟩:=apy (fun y hy=>YF hy) hz;have hn:ke ls=some z:=hz;have e:gT ls=z:=by unfold gT;rw[hn];rfl
 rw[e];exact⟨hn,(Sp he).1 z1,fun y hy=>z2 y ((Sp he).2 hy)⟩
theorem dr.form(g:dr F ls){y:List Let}(h:Cj ls y):cN (F:Int) y=0:=by
 have c:=g.cz;have hl:(zF ls).length<=400:=by rw[Ko];exact g.len
 have hc:ay Let.aC (aO (zF ls))<=200:=by rw[kU];exact g.cr
 have h0:∀x,(zF ls)[0]?=some x->x.i.b=false:=fun x hx=>by have hn:0<ls.length:=gV.2 g.ne;rw[Fg hn] at hx;cases hx;rw[VU g hn];rfl
 rcases h with h|h
 .exact abr c h0 hl hc g.fing (by rw[kU];exact h)
 refine abr c.rv ?_ (by rw[cF,qD];exact hl) (by rw[Ji,Ca];exact hc) g.fing (by rw[Ji,kU];exact h);intro x hx;rw[fR] at hx;have hn:0<ls.length:=gV.2 g.ne;rw[List.getElem?_reverse (by rw[Ko];exact hn),Ko,Fg aa] at hx;cases hx;show(dI ls (ls.length-1-0)).o.b=false;show(!dn ls (ls.length-1-0+1))=false;rw[show ls.length-1-0+1=ls.length by omega,ZG g];rfl
end
theorem Js(ls:List Let):(gT ls).length<=ls.length:=by
 unfold gT;cases h:ke ls with
 |none=>exact bd _
 |some z=>have:=YF (Wl h);show z.length<=_;omega
theorem Sm(o:Option (List Let)):(cO o).norm=cP (o.getD []):=by
 cases o with
 |none=>rfl
 |some Y=>rfl
def oL(F:Nat)(ls:List Let)(m:a7):Option (List Let):=
 if ls=[] then if bt F [] m.k m.a m.b m.c m.l m.o m.s=true then some (circ m.b.toNat) else none
 else if bt F ls m.k m.a m.b m.c m.l m.o m.s=true then match qZ F ls m.k m.a.toNat m.b.toNat m.c.toNat m.l m.o m.s with
  |none=>none
  |some M=>if (400:Int)<(ls.length:Int)+(mZ m.k).1\/(100:Int)<((ay Let.aC ls/2:Nat):Int)+(mZ m.k).2 then none else some (mw M)
 else none
theorem arO{L:List Let}{e:Int}(he:e≠0):pN F L≠sX e:=fun h=>by unfold pN sX at h;simp only[RV.tup.injEq,Fh,RV.one.injEq,RC.p.injEq,PV.int.injEq,and_true,true_and] at h;exact he h.2.symm
def uc(F:Nat):List Let->List a7->Option (List Let)
 |ls,[]=>some ls
 |ls,m::ms=>match oL F ls m with
  |none=>none
  |some L=>uc F L ms
theorem afQ{ls L:List Let}{ms:List a7}(m:a7)(h:uc F ls ms=some L):uc F ls (ms++[m])=oL F L m:=by
 induction ms generalizing ls with
 |nil=>have e:ls=L:=qF h;rw[<- e];show(match oL F ls m with|none=>none|some L=>some L)=_;cases oL F ls m<;>rfl
 |cons a r ih=>
  show(match oL F ls a with|none=>none|some L=>uc F L (r++[m]))=_;have h:(match oL F ls a with|none=>none|some L=>uc F L r)=some L:=h;cases ha:oL F ls a with
  |none=>rw[ha] at h;cases h
  |some K=>rw[ha] at h;exact ih h
theorem Nh{ls:List Let}(h:cN (F:Int) ls=0):cN (F:Int) (gT ls)=0:=by
 by_cases aF:ls=[]
 .subst aF;exact h
 obtain⟨G,e,g⟩:=vY h aF;have:F=G:=aa;subst this;exact g.form g.nor.2.1
theorem DH{f:Int}{L:List Let}(h:cN f L=0):L.length<=400:=by
 by_cases aF:L=[]
 .subst aF;exact bd _
 obtain⟨G,_,g⟩:=vY h aF;exact g.len
end
end Go.Abs
