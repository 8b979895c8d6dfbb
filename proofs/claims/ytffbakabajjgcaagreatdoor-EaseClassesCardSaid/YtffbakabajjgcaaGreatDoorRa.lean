/-
  The normal form of a code; Replay.
-/
import Derived.Test.YtffbakabajjgcaaGreatDoorVb
import Derived.Test.YtffbakabajjgcaaGreatDoorUa
set_option linter.all false
set_option maxRecDepth 100000
set_option maxHeartbeats 16000000
namespace Go.Abs
section
variable{x:Let}{F:Nat}
theorem Hf(x y:Let):leq x y=true↔x=y:=by
 constructor
 .intro h;unfold leq at h;simp only[cN,dL] at h;obtain⟨h1,h2,h3,h4,h5,h6⟩:=h;cases x;cases y
  simp_all
 rintro rfl;exact zV x
def ow(a b:Let):Bool:=if a.kind==b.kind then if a.gate==b.gate then if a.aE==b.aE then if a.id==b.id then if a.over==b.over then decide (a.sign<b.sign) else b.over else decide (a.id<b.id) else decide (a.aE<b.aE) else decide (a.gate<b.gate) else decide (a.kind<b.kind)
def qB:List Int->List Int->Bool
 |a::A,b::B=>if a=b then qB A B else decide (a<b)
 |_,_=>false
theorem anX(A:List Int):qB A A=false:=by
 induction A with
 |nil=>rfl
 |cons a A ih=>unfold qB;rw[aD rfl];exact ih
theorem anW:∀ {A B:List Int},qB A B=true->qB B A=false:=by
 intro A
 induction A with
 |nil=>intro B h;cases B<;>cases h
 |cons a A ih=>
  intro B h;cases B with
  |nil=>cases h
  |cons b B=>
   unfold qB at h ⊢;by_cases e:a=b
   .subst e;rw[aD rfl] at h ⊢;exact ih h
   rw[ay e] at h;rw[ay (Ne.symm e)];have:=l7 h;exact vW aa
theorem an0:∀ {A B D:List Int},qB A B=true->qB B D=true->qB A D=true:=by
 intro A
 induction A with
 |nil=>intro B D h;cases B<;>cases h
 |cons a A ih=>
  intro B D h h';cases B with
  |nil=>cases h
  |cons b B=>
   cases D with
   |nil=>cases h'
   |cons d D=>
    unfold qB at h h' ⊢;by_cases e:a=b
    .subst e;rw[aD rfl] at h;by_cases e':a=d
     .subst e';rw[aD rfl] at h' ⊢;exact ih h h'
     rw[ay e'] at h' ⊢;exact h'
    rw[ay e] at h;have h1:=l7 h;by_cases e':b=d
    .subst e';rw[ay e];exact h
    rw[ay e'] at h';have h2:=l7 h';rw[ay aa];exact DK aa
def rB(a:Let):List Int:=[a.kind,a.gate,a.aE,a.id,if a.over then 1 else 0,a.sign]
theorem Na(a b:Let):ow a b=qB (rB a) (rB b):=by
 cases a with|mk k g r i s o=>cases b with|mk k' g' r' i' s' o'=>
 unfold ow rB;simp only[qB];by_cases h1:k=k'
 .by_cases h2:g=g'
  .by_cases h3:r=r'
   .by_cases h4:i=i'
    .cases o<;>cases o'<;>by_cases h6:s=s'<;>simp[h1,h2,h3,h4,h6]
    simp[h1,h2,h3,h4]
   simp[h1,h2,h3]
  simp[h1,h2]
 simp[h1]
theorem anS{a b:Let}(h:ow a b=true):ow b a=false:=by rw[Na] at*;exact anW h
theorem anT{a b c:Let}(h1:ow a b=true)(h2:ow b c=true):ow a c=true:=by rw[Na] at*;exact an0 h1 h2
def gI:List Let->List Let->Bool
 |a::A,b::B=>if leq a b then gI A B else ow a b
 |_,_=>false
theorem ON(A:List Let):gI A A=false:=by
 induction A with
 |nil=>rfl
 |cons a A ih=>unfold gI;rw[aD (zV a)];exact ih
theorem OO:∀ {A B D:List Let},gI A B=true->gI B D=true->gI A D=true:=by
 intro A
 induction A with
 |nil=>intro B D h;cases B<;>cases h
 |cons a A ih=>
  intro B D h h';cases B with
  |nil=>cases h
  |cons b B=>
   cases D with
   |nil=>cases h'
   |cons d D=>
    unfold gI at h h' ⊢;by_cases e:a=b
    .subst e;rw[aD (zV a)] at h;by_cases e':a=d
     .subst e';rw[aD (zV a)] at h' ⊢;exact ih h h'
     have e1:¬leq a d=true:=fun x=>e' ((Hf _ _).1 x);rw[ay e1] at h' ⊢;exact h'
    have e1:¬leq a b=true:=fun x=>e ((Hf _ _).1 x);rw[ay e1] at h;by_cases e':b=d
    .subst e';rw[ay e1];exact h
    have e2:¬leq b d=true:=fun x=>e' ((Hf _ _).1 x);rw[ay e2] at h';have e3:¬leq a d=true:=fun x=>by have:=(Hf _ _).1 x;subst this;rw[anS h] at h';cases h'
    rw[ay e3];exact anT h h'
def dY(l:List Let)(i:Nat):List Let:=l.drop i++l.take i
def par(l:List Let)(i:Nat):Prop:=aC Let.aJ (l.take i)%2=0
def evn(l:List Let)(i:Nat):Prop:=(∃x,l[i]?=some x/\x.aJ=true)/\par l i
theorem Ag(l:List Let)(i:Nat):(dY l i).length=l.length:=by unfold dY;rw[eG,lX,gT];omega
theorem D0(q:Let->Bool)(a b:List Let):aC q (a++b)=aC q a+aC q b:=FQ
theorem Yj(q:Let->Bool)(l:List Let)(i:Nat):aC q (dY l i)=aC q l:=by unfold dY;rw[D0,WX,<- D0,sQ]
theorem aqO{l:List Let}{j i:Nat}(hj:j<=l.length)(hi:i<l.length):∃k,k<l.length/\dY (dY l j) i=dY l k/\(dY l j)[i]?=l[k]? /\(aC Let.aJ l%2=0->par l j->par (dY l j) i->par l k):=by
 by_cases h:i<l.length-j
 .refine⟨j+i,aa,?_,?_,?_⟩
  .unfold dY;rw[af3 (by rw[lX];omega),R8 (by rw[lX];omega),WK,uv];congr 1;rw[<- List.take_add]
  .unfold dY;rw[vR (by rw[lX];omega),Aw]
  unfold par dY;intro _ h1 h2;rw[R8 (by rw[lX];omega)] at h2;rw[List.take_add,D0];omega
 refine⟨i-(l.length-j),aa,?_,?_,?_⟩
 .unfold dY;obtain⟨d,hd⟩:∃d,d=i-(l.length-j):=⟨_,rfl⟩;rw[<- hd];have e1:(l.drop j++l.take j).drop i=(l.take j).drop d:=by
   rw[af2,RQ (by rw[lX];omega),nH,lX,hd]
  have e2:(l.drop j++l.take j).take i=l.drop j++(l.take j).take d:=by rw[On,dD (by rw[lX];omega),lX,hd]
  rw[e1,e2,<- uv];have e3:(l.take j).take d=l.take d:=by rw[HT,yO aa]
  rw[e3];congr 1;have e4:l.drop d=(l.take j).drop d++l.drop j:=by
   conv=>lhs;rw[<- sQ j l]
   rw[af3 (by rw[gT];omega)]
  exact e4.symm
 .unfold dY;rw[yK (by rw[lX];omega),lX,lI];rw[aD aa]
 unfold par dY;intro ht h1 h2;rw[On,dD (by rw[lX];omega),lX,D0,HT,yO aa] at h2;have:aC Let.aJ l=aC Let.aJ (l.take j)+aC Let.aJ (l.drop j):=by rw[<- D0,sQ]
 omega
def jc:List Int->List Let->List Let
 |_,[]=>[]
 |s,x::r=>if x.kind==2 then (if s.contains x.id then {x with id:=((s.idxOf x.id+1:Nat):Int)}::jc s r else {x with id:=((s.length+1:Nat):Int)}::jc (s++[x.id]) r) else x::jc s r
def iG(l:List Let):List Let:=jc [] l
def iQ(f:Int->Int)(x:Let):Let:=if x.kind==2 then {x with id:=f x.id} else x
theorem Xw(f:Int->Int)(x:Let):(iQ f x).kind=x.kind:=by unfold iQ;split<;>rfl
theorem OD(f:Int->Int)(x:Let):(iQ f x).aJ=x.aJ:=by unfold Let.aJ;rw[Xw]
def inj(f:Int->Int)(l:List Let):Prop:=∀x∈l,∀y∈l,x.kind=2->y.kind=2->f x.id=f y.id->x.id=y.id
def ia:List Int->List Let->List Int
 |s,[]=>s
 |s,x::r=>if x.kind==2 then (if s.contains x.id then ia s r else ia (s++[x.id]) r) else ia s r
theorem aeF:∀(l:List Let) (s:List Int),∃t,ia s l=s++t:=by
 intro l
 induction l with
 |nil=>intro s;exact⟨[],by simp[ia]⟩
 |cons x r ih=>
  intro s;unfold ia;split
  .split
   .exact ih s
   obtain⟨t,h⟩:=ih (s++[x.id]);exact⟨x.id::t,by rw[h];simp⟩
  exact ih s
theorem abd{s t:List Int}{a:Int}(h:a∈s):(s++t).idxOf a=s.idxOf a:=by rw[af6,aD h]
theorem aqr:∀(l:List Let) (s:List Int),jc s l=l.map (iQ fun a=>(((ia s l).idxOf a+1:Nat):Int))/\ ∀x∈l,x.kind=2->x.id∈ia s l:=by
 intro l
 induction l with
 |nil=>intro s;exact⟨rfl,fun x h=>by cases h⟩
 |cons x r ih=>
  intro s;by_cases hk:x.kind=2
  .have ti:(x.kind==2)=true:=by rw[hk];rfl
   cases hc:s.contains x.id with
   |true=>
    have hm:x.id∈s:=FP.1 hc;have e:ia s (x::r)=ia s r:=by simp only[ia,ti,hc,if_true]
    obtain⟨h1,h2⟩:=ih s;obtain⟨t,ht⟩:=aeF r s;refine⟨?_,?_⟩
    .have e0:jc s (x::r)={x with id:=((s.idxOf x.id+1:Nat):Int)}::jc s r:=by simp only[jc,ti,hc,if_true]
     rw[e,e0,fy,h1];congr 1;unfold iQ;rw[aD ti,ht];dsimp only;rw[abd hm]
    rw[e];intro y hy Jx;rcases cI.1 hy with rfl|hy
    .rw[ht];exact FR _ hm
    exact h2 y hy Jx
   |false=>
    have e:ia s (x::r)=ia (s++[x.id]) r:=by simp only[ia,ti,hc,if_true,dQ,if_false]
    obtain⟨h1,h2⟩:=ih (s++[x.id]);obtain⟨t,ht⟩:=aeF r (s++[x.id]);have hn:¬x.id∈s:=fun h=>by rw[FP.2 h] at hc;cases hc
    refine⟨?_,?_⟩
    .have e0:jc s (x::r)={x with id:=((s.length+1:Nat):Int)}::jc (s++[x.id]) r:=by simp only[jc,ti,hc,if_true,dQ,if_false]
     rw[e,e0,fy,h1];congr 1;unfold iQ;rw[aD ti,ht];dsimp only;rw[abd af,af6,ay hn];simp
    rw[e];intro y hy Jx;rcases cI.1 hy with rfl|hy
    .rw[ht];simp
    exact h2 y hy Jx
  have ti:(x.kind==2)=false:=tF.2 hk;have e:ia s (x::r)=ia s r:=by simp only[ia,ti,dQ,if_false]
  obtain⟨h1,h2⟩:=ih s;refine⟨?_,?_⟩
  .have e0:jc s (x::r)=x::jc s r:=by simp only[jc,ti,dQ,if_false]
   rw[e,e0,fy,h1];rw[show iQ (fun a=>(((ia s r).idxOf a+1:Nat):Int)) x=x from ay (by rw[ti];decide)]
  rw[e];intro y hy Jx;rcases cI.1 hy with rfl|hy
  .exact absurd Jx hk
  exact h2 y hy Jx
theorem amr{S:List Int}{a b:Int}(ha:a∈S)(hb:b∈S)(h:S.idxOf a=S.idxOf b):a=b:=by have h1:=WQ (Oj.2 ha);have h2:=WQ (Oj.2 hb);rw[<- h1,<- h2];simp only[h]
theorem aoc{l:List Let}{i:Nat}:x∈dY l i↔x∈l:=by unfold dY;rw[dZ,Or.comm,<- dZ,sQ]
def Ce(l y:List Let):Prop:= ∃i,i<l.length/\evn l i/\y=iG (dY l i)
def Gi(l y:List Let):Prop:=Ce l y\/Ce l.reverse y
theorem ZX{l y:List Let}{j:Nat}(hj:j<=l.length)(he:aC Let.aJ l%2=0)(hp:par l j)(h:Ce (dY l j) y):Ce l y:=by obtain⟨i,hi,⟨⟨x,hx,xp⟩,h2⟩,rfl⟩:=h;rw[Ag] at hi;obtain⟨k,hk,e1,e2,e3⟩:=aqO hj hi;rw[e2] at hx;exact⟨k,hk,⟨⟨x,hx,xp⟩,e3 he hp h2⟩,by rw[e1]⟩
def vN(x:bk):bk:=⟨⟨x.p.l,!x.p.d⟩,iI x.o,iI x.i⟩
theorem aeA(x:bk):(vN x).up=x.up:=by unfold bk.up vN;cases x.p.d<;>rfl
theorem aez(x:bk):(vN x).lo=x.lo:=by unfold bk.lo vN;cases x.p.d<;>rfl
theorem X4.rv{g:Bool}{i o j q:eO}(h:X4 g i o j q):X4 g (iI o) (iI i) (iI q) (iI j):=by
 obtain⟨a,b,c,d⟩:=h;cases g
 .simp only[dQ,if_false] at a b c d;constructor<;>simp only[dQ,if_false,iI]
  .exact b
  .exact a
  .exact d
  exact c
 simp only[if_true] at a b c d;constructor<;>simp only[if_true,iI]
 .exact b
 .exact a
 .exact d
 exact c
theorem Xr.rv{x y:bk}(h:Xr x y):Xr (vN x) (vN y):=fun hc mc e=>by obtain⟨h1,h2,h3⟩:=h hc mc e;exact⟨h1,h2,h3.rv⟩
theorem ao3:∀ {z:List bk} {s t:eO},lM s z t->lM (iI t) (z.reverse.map vN) (iI s):=by
 intro z
 induction z with
 |nil=>intro s t h;cases h;rfl
 |cons x z ih=>intro s t h;obtain⟨rfl,h⟩:=h;rw[List.reverse_cons,rQ];exact Vy.2 ⟨iI x.o,ih h,rfl,rfl⟩
theorem ao1:∀ {z:List bk} {s t:eO},lM s z t->∀x∈z,(∃y∈z,y.i=x.o)\/x.o=t:=by
 intro z
 induction z with
 |nil=>intro s t _ x hx;cases hx
 |cons a z ih=>
  intro s t h x hx;obtain⟨rfl,h⟩:=h;rcases cI.1 hx with rfl|hx
  .cases z with
   |nil=>exact .inr h
   |cons b z=>exact .inl ⟨b,af,h.1⟩
  rcases ih h x hx with ⟨y,hy,e⟩|e
  .exact .inl ⟨y,by simp[hy],e⟩
  exact .inr e
theorem Cz.next{z:List bk}{T B:Nat->Nat->Nat}{S:List Nat}(c:Cz F z T B S){x:bk}(hx:x∈z):∃y∈z,y.i=x.o:=by
 obtain⟨s,h⟩:=c.path;rcases ao1 h x hx with e|e
 .exact e
 cases z with
 |nil=>cases hx
 |cons a z=>exact⟨a,af,by rw[h.1,e]⟩
theorem JL(z:List bk):bK (z.reverse.map vN)=(bK z).reverse:=by rw[<- List.map_reverse];show List.map _ (List.map _ _)=_;rw[yL];rfl
theorem Ea(q:Let->Bool)(l:List Let):aC q l.reverse=aC q l:=List.countP_reverse
theorem Cz.rv{z:List bk}{T B:Nat->Nat->Nat}{S:List Nat}(c:Cz F z T B S):Cz F (z.reverse.map vN) T B S:=by
 obtain⟨s,h⟩:=c.path;have hm:∀x∈z.reverse.map vN,∃y∈z,x=vN y:=fun x hx=>by obtain⟨y,hy,rfl⟩:=dI.1 hx;exact⟨y,af7.1 hy,rfl⟩
 have ec:∀g,cg (bK (z.reverse.map vN)) g=cg (bK z) g:=fun g=>by rw[JL];exact Ea _ _
 refine⟨⟨_,ao3 h⟩,fun x hx=>?_,?_,by rw[JL,Ea];exact c.ev,fun x hx hc=>?_,?_,fun x hx hp=>?_,fun x hx hp=>?_,fun g hg=>by rw[ec];exact c.gt g hg,by rw[ec];exact c.gz,?_,c.nd,fun s hs=>?_,by rw[JL,Ea,Ea];exact c.num⟩
 .obtain⟨y,hy,rfl⟩:=hm x hx;obtain⟨o1,o2,o3⟩:=c.ok y hy;refine⟨o1,fun hc=>(o2 hc).symm,fun hp=>?_⟩;obtain⟨p1,p2⟩:=o3 hp;refine⟨p2,?_⟩;show y.o.b= !(!y.p.d);rw[p1,Oc]
 .refine BC.2 (List.pairwise_reverse.2 (c.cr.imp fun {a b} dX=>dX.symm.rv))
 .obtain⟨y,hy,rfl⟩:=hm x hx;rw[JL,Ea];exact c.ids y hy hc
 .refine BC.2 (List.pairwise_reverse.2 (c.rk.imp fun {a b} dX=>dX.symm))
 .obtain⟨y,hy,rfl⟩:=hm x hx;rw[ec];exact c.rr y hy hp
 .obtain⟨y,hy,rfl⟩:=hm x hx;obtain⟨a,b,d,e⟩:=c.pl y hy hp;exact⟨by rw[aeA];exact a,by rw[aeA];exact b,by rw[aez];exact d,by rw[aez];exact e⟩
 .obtain⟨x,hx,hp⟩:=c.one;exact⟨vN x,dI.2 ⟨x,af7.2 hx,rfl⟩,hp⟩
 obtain⟨x,hx,e⟩:=c.wit s hs;obtain⟨y,hy,e2⟩:=c.next hx;refine⟨vN y,dI.2 ⟨y,af7.2 hy,rfl⟩,?_⟩;show s=y.i.r\/s=y.i.l;rw[e2];exact e.symm
def lB(f:Int->Int)(x:bk):bk:=⟨⟨iQ f x.p.l,x.p.d⟩,x.i,x.o⟩
theorem K7(f:Int->Int)(x:Let):(iQ f x).gate=x.gate:=by unfold iQ;split<;>rfl
theorem OE(f:Int->Int)(x:Let):(iQ f x).aE=x.aE:=by unfold iQ;split<;>rfl
theorem Su(f:Int->Int)(x:Let):(iQ f x).sign=x.sign:=by unfold iQ;split<;>rfl
theorem St(f:Int->Int)(x:Let):(iQ f x).over=x.over:=by unfold iQ;split<;>rfl
theorem Ss(f:Int->Int)(x:Let):(iQ f x).aG=x.aG:=by unfold Let.aG;rw[Xw]
theorem Sr{f:Int->Int}(h:x.aG=true):(iQ f x).id=f x.id:=by unfold iQ;rw[aD (show(x.kind==2)=true from h)]
theorem ag2{f:Int->Int}(h:x.aG=false):iQ f x=x:=by unfold iQ;exact ay (by rw[show(x.kind==2)=false from h];decide)
theorem ahF{f:Int->Int}(h:dA F x=false):dA F (iQ f x)=false:=by
 cases hc:x.aG
 .rw[ag2 hc];exact h
 have:iQ f x={x with id:=f x.id}:=aD hc;rw[this];rcases AN h with hp|_
 .rw[sD hp] at hc;cases hc
 unfold dA at h ⊢;unfold Let.aG at hc;have hk:x.kind=2:=dL.1 hc
 simpa [hk] using h
theorem M9(f:Int->Int)(z:List bk):bK (z.map (lB f))=(bK z).map (iQ f):=by show List.map _ (List.map _ _)=List.map _ (List.map _ _);rw[yL,yL];rfl
theorem OU{f:Int->Int}{q:Let->Bool}(hq:∀x,q (iQ f x)=q x)(l:List Let):aC q (l.map (iQ f))=aC q l:=by show List.countP _ _=List.countP _ _;rw[KJ];exact RO fun x _=>by rw[Function.comp_apply,hq]
theorem aih(f:Int->Int)(l:List Let)(g:Nat):cg (l.map (iQ f)) g=cg l g:=OU (fun x=>by unfold vZ;rw[OD,K7]) l
theorem Cz.rn{z:List bk}{T B:Nat->Nat->Nat}{S:List Nat}(c:Cz F z T B S){f:Int->Int}(hf:inj f (bK z))(hi:∀x∈z,x.k.aG=true->1<=f x.k.id/\f x.k.id<=((aC Let.aG (bK z)/2:Nat):Int)):Cz F (z.map (lB f)) T B S:=by
 obtain⟨s,h⟩:=c.path;have hm:∀x∈z.map (lB f),∃y∈z,x=lB f y:=fun x hx=>by obtain⟨y,hy,rfl⟩:=dI.1 hx;exact⟨y,hy,rfl⟩
 have ec:∀g,cg (bK (z.map (lB f))) g=cg (bK z) g:=fun g=>by rw[M9,aih]
 have eC:aC Let.aG (bK (z.map (lB f)))=aC Let.aG (bK z):=by rw[M9];exact OU (Ss f) _
 have eP:aC Let.aJ (bK (z.map (lB f)))=aC Let.aJ (bK z):=by rw[M9];exact OU (OD f) _
 have kC:∀y:bk,(lB f y).k.aG=y.k.aG:=fun y=>Ss f y.k;have kP:∀y:bk,(lB f y).k.aJ=y.k.aJ:=fun y=>OD f y.k;have kl:∀y∈z,y.k∈bK z:=fun y hy=>dI.2 ⟨y,hy,rfl⟩;have Um:∀ {z:List bk} {s t:eO},lM s z t->lM s (z.map (lB f)) t:=by
  intro z
  induction z with
  |nil=>intro s t h;exact h
  |cons x z ih=>intro s t h;exact⟨h.1,ih h.2⟩
 refine⟨⟨s,Um h⟩,fun x hx=>?_,?_,by rw[eC];exact c.ev,fun x hx hc=>?_,?_,fun x hx hp=>?_,fun x hx hp=>?_,fun g hg=>by rw[ec];exact c.gt g hg,by rw[ec];exact c.gz,?_,c.nd,fun s hs=>?_,by rw[eP,eC];exact c.num⟩
 .obtain⟨y,hy,rfl⟩:=hm x hx;obtain⟨o1,o2,o3⟩:=c.ok y hy;exact⟨ahF o1,fun hc=>o2 (by rw[kC] at hc;exact hc),fun hp=>o3 (by rw[kP] at hp;exact hp)⟩
 .refine BC.2 (WD (fun {a b} ha hb dX=>?_) c.cr);intro ac bc e;rw[kC] at ac bc;have e2:f a.k.id=f b.k.id:=by
   have:=e;rw[show(lB f a).k.id=f a.k.id from Sr ac,show(lB f b).k.id=f b.k.id from Sr bc] at this;exact this
  obtain⟨h1,h2,h3⟩:=dX ac bc (hf _ (kl a ha) _ (kl b hb) (dL.1 ac) (dL.1 bc) e2);refine⟨?_,?_,?_⟩
  .show(iQ f a.k).over= !(iQ f b.k).over;rw[St,St];exact h1
  .show(iQ f a.k).sign=(iQ f b.k).sign;rw[Su,Su];exact h2
  show X4 (gX (iQ f a.k)) _ _ _ _;have:gX (iQ f a.k)=gX a.k:=by unfold gX;rw[St,Su]
  rw[this];exact h3
 .obtain⟨y,hy,rfl⟩:=hm x hx;rw[kC] at hc;rw[eC,show(lB f y).k.id=f y.k.id from Sr hc];exact hi y hy hc
 .refine BC.2 (c.rk.imp fun {a b} dX=>?_);intro ap bp e1 e2;rw[kP] at ap bp;refine dX ap bp ?_ ?_
  .have:=e1;rw[show(lB f a).k.gate=a.k.gate from K7 f a.k,show(lB f b).k.gate=b.k.gate from K7 f b.k] at this;exact this
  have:=e2;rw[show(lB f a).k.aE=a.k.aE from OE f a.k,show(lB f b).k.aE=b.k.aE from OE f b.k] at this;exact this
 .obtain⟨y,hy,rfl⟩:=hm x hx;rw[kP] at hp;rw[ec,show(lB f y).k.aE=y.k.aE from OE f y.k,show(lB f y).k.gate=y.k.gate from K7 f y.k];exact c.rr y hy hp
 .obtain⟨y,hy,rfl⟩:=hm x hx;rw[kP] at hp;obtain⟨a,b,d,e⟩:=c.pl y hy hp;have u:(lB f y).up=y.up:=rfl;have w:(lB f y).lo=y.lo:=rfl;have eg:(lB f y).k.gate=y.k.gate:=K7 f y.k;have er:(lB f y).k.aE=y.k.aE:=OE f y.k;exact⟨by rw[u,eg,er];exact a,by rw[u,eg,er];exact b,by rw[w,eg,er];exact d,by rw[w,eg,er];exact e⟩
 .obtain⟨x,hx,hp⟩:=c.one;exact⟨lB f x,dI.2 ⟨x,hx,rfl⟩,by rw[kP];exact hp⟩
 obtain⟨x,hx,e⟩:=c.wit s hs;exact⟨lB f x,dI.2 ⟨x,hx,rfl⟩,e⟩
theorem aeE:∀(l:List Let) (s:List Int),s.Nodup->(ia s l).Nodup/\ ∀a∈ia s l,a∈s\/ ∃x∈l,x.aG=true/\x.id=a:=by
 intro l
 induction l with
 |nil=>intro s h;exact⟨h,fun a ha=>.inl ha⟩
 |cons x r ih=>
  intro s h;unfold ia;split
  .rename_i hk;split
   .obtain⟨h1,h2⟩:=ih s h;refine⟨h1,fun a ha=>?_⟩;rcases h2 a ha with h3|⟨y,hy,h3⟩
    .exact .inl h3
    exact .inr ⟨y,by simp[hy],h3⟩
   rename_i hc;have hn:¬x.id∈s:=fun h=>hc (FP.2 h);obtain⟨h1,h2⟩:=ih (s++[x.id]) (by rw[DH];refine⟨h,af,fun a ha b hb e=>?_⟩;rw[lK.1 hb] at e;exact hn (e▸ha))
   refine⟨h1,fun a ha=>?_⟩;rcases h2 a ha with h3|⟨y,hy,h3⟩
   .rcases dZ.1 h3 with h3|h3
    .exact .inl h3
    exact .inr ⟨x,af,hk,(lK.1 h3).symm⟩
   exact .inr ⟨y,by simp[hy],h3⟩
  obtain⟨h1,h2⟩:=ih s h;refine⟨h1,fun a ha=>?_⟩;rcases h2 a ha with h3|⟨y,hy,h3⟩
  .exact .inl h3
  exact .inr ⟨y,by simp[hy],h3⟩
theorem aqs(l:List Let)(hi:∀x∈l,x.aG=true->1<=x.id/\x.id<=((aC Let.aG l/2:Nat):Int)):∃f,inj f l/\iG l=l.map (iQ f)/\ ∀x∈l,x.aG=true->1<=f x.id/\f x.id<=((aC Let.aG l/2:Nat):Int):=by
 obtain⟨h1,h2⟩:=aqr l [];refine⟨_,?_,h1,?_⟩
 .intro x hx y hy xk yk h;dsimp only at h;exact amr (h2 x hx xk) (h2 y hy yk) aa
 intro x hx hc;have hm:=h2 x hx (dL.1 hc);have aq:=Oj.2 hm;obtain⟨n1,n2⟩:=aeE l [] vU;have hr:∀a∈ia [] l,1<=a/\a<=((aC Let.aG l/2:Nat):Int):=fun a ha=>by
  rcases n2 a ha with h3|⟨y,hy,yc,rfl⟩
  .cases h3
  exact hi y hy yc
 have:=Kp ((ia [] l).map Int.toNat) (List.range' 1 (aC Let.aG l/2)) ?_ ?_
 .rw[cH,List.length_range'] at this;omega
 .refine BC.2 (WD (fun {a b} ha hb h e=>h ?_) n1);have:=hr a ha;have:=hr b hb;omega
 intro x hx;obtain⟨id,hid,rfl⟩:=dI.1 hx;have:=hr id hid;rw[List.mem_range'_1];omega
theorem Cz.rotN{z:List bk}{T B:Nat->Nat->Nat}{S:List Nat}(c:Cz F z T B S)(i:Nat):Cz F (z.drop i++z.take i) T B S:=by rw[<- sQ i z] at c;exact c.lW
theorem ZY{z:List bk}{T B:Nat->Nat->Nat}{S:List Nat}(c:Cz F z T B S)(h0:∀x,z[0]?=some x->x.i.b=false)(hl:z.length<=400)(fU:aC Let.aG (bK z)<=200)(hF:F<=40){y:List Let}(h:Ce (bK z) y):di F y=0:=by
 obtain⟨i,hi,⟨⟨x,hx,hp⟩,CJ⟩,rfl⟩:=h;obtain⟨e,he,rfl⟩:=C0 hx;have hd:e.p.d=true:=by
  obtain⟨s,hs⟩:=c.path;have hlen:0<z.length:=by have:=(bg.1 he).1;omega
  obtain⟨a,ha⟩:∃a,z[0]?=some a:=⟨z[0],oJ hlen⟩;have hb:s.b=false:=by rw[<- Nu hs ha];exact h0 a ha
  have:=(Vz c.ok hs hb i e he).1;have hm:=aW he;have h2:=((c.ok e hm).pb hp).2;rw[this] at h2;have h3:dn (bK z) i=true:=by
   unfold dn;have:aC Let.aJ ((bK z).take i)%2=0:=CJ
   simpa using this
  rw[h3] at h2;cases hq:e.p.d
  .rw[hq] at h2;cases h2
  rfl
 have c2:=c.rotN i;have e1:bK (z.drop i++z.take i)=dY (bK z) i:=by unfold dY bK;rw[rQ,KP,KQ]
 have ec:aC Let.aG (dY (bK z) i)=aC Let.aG (bK z):=Yj _ _ _;obtain⟨f,hf,hr,iT⟩:=aqs (dY (bK z) i) (fun x hx hc=>by rw[ec];obtain⟨w,hw,rfl⟩:=dI.1 (aoc.1 hx);exact c.ids w hw hc)
 rw[hr];rw[<- e1] at hf iT;have c3:=c2.rn hf (fun x hx hc=>iT _ (dI.2 ⟨x,hx,rfl⟩) hc);have Ez:z.drop i=e::z.drop (i+1):=by obtain⟨hl,e⟩:=bg.1 he;rw[<- e,DE]
 rw[<- e1,<- M9];refine c3.check (x:=lB f e) (r:=(z.drop (i+1)++z.take i).map (lB f)) (by rw[Ez];rfl) ?_ hd ?_ ?_ hF
 .show(iQ f e.k).aJ=true;rw[OD];exact hp
 .rw[cH,eG,lX,gT];omega
 rw[M9,OU (Ss f),e1,ec];exact fU
theorem anz(a b:Let):aF S 110 [w7 a,w7 b] (rb (ow a b)):=by
 by_cases h1:a.kind=b.kind
 .by_cases h2:a.gate=b.gate
  .by_cases h3:a.aE=b.aE
   .by_cases h4:a.id=b.id
    .cases h5:(a.over==b.over) with
     |true=>
      have e:ow a b=decide (a.sign<b.sign):=by simp only[ow,h1,h2,h3,h4,h5,BD,if_true]
      rw[e];refine aV c110 ?_;simp only[go_sem,i110,h1,h2,h3,h4,h5,bne]
     |false=>
      have e:ow a b=b.over:=by simp only[ow,h1,h2,h3,h4,h5,BD,if_true,dQ,if_false]
      rw[e];refine aV c110 ?_;simp only[go_sem,i110,h1,h2,h3,h4,h5,bne]
    have uE:(a.id==b.id)=false:=by simp[h4]
    have e:ow a b=decide (a.id<b.id):=by simp only[ow,h1,h2,h3,uE,BD,if_true,dQ,if_false]
    rw[e];refine aV c110 ?_;simp only[go_sem,i110,h1,h2,h3,uE,bne]
   have qf:(a.aE==b.aE)=false:=by simp[h3]
   have e:ow a b=decide (a.aE<b.aE):=by simp only[ow,h1,h2,qf,BD,if_true,dQ,if_false]
   rw[e];refine aV c110 ?_;simp only[go_sem,i110,h1,h2,qf,bne]
  have iS:(a.gate==b.gate)=false:=by simp[h2]
  have e:ow a b=decide (a.gate<b.gate):=by simp only[ow,h1,iS,BD,if_true,dQ,if_false]
  rw[e];refine aV c110 ?_;simp only[go_sem,i110,h1,iS,bne]
 have jE:(a.kind==b.kind)=false:=by simp[h1]
 have e:ow a b=decide (a.kind<b.kind):=by simp only[ow,jE,dQ,if_false]
 rw[e];refine aV c110 ?_;simp only[go_sem,i110,jE,bne]
theorem Zg{A:List Let}{k:Nat}(h:k<A.length):A.drop k=lA A k::A.drop (k+1):=by have:=nC h;obtain⟨h1,e⟩:=bg.1 this;rw[<- e,DE]
theorem ahK(A B:List Let)(hAB:A.length=B.length)(hl:A.length<=1000000):aF S 73 [.one (.p (cQ A)),.one (.p (cQ B))] (rb (gI A B)):=by
 generalize hr:gI A B=r;refine aV c73 ?_;simp only[go_sem,i73];refine cJ (fun k ak aj=>ak 0=.one (.p (cQ A))/\ak 1=.one (.p (cQ B))/\ak 7=vi A.length/\ak 8=vi k/\gI (A.drop k) (B.drop k)=r) 0 A.length (bj _) ?_ ?_
 .simp only[go_sem];first|exact hr|exact⟨rfl,hr⟩
 rintro k ak aj hk ⟨h0,h1,h7,h8,hn⟩
 by_cases aq:k<A.length
 .have hx:=nC aq;have hy:=nC (ls:=B) (i:=k) aa;have ll:=fv hx;have hyi:=fv hy;have aL:(k:Int)<(A.length:Int):=aa;have w1:=bN (n:=k) aa;have hlB:k<B.length:=aa;rw[Zg aq,Zg hlB] at hn;unfold gI at hn;cases he:leq (lA A k) (lA B k) with
  |true=>rw[aD he] at hn;simp only[go_sem,i73_l1,h0,h1,h7,h8,ll,hyi,Let.ps,aL,aq,w1,IK,he];exact⟨aK,hn⟩
  |false=>rw[ay (by rw[he];decide)] at hn;have pl:=anz (lA A k) (lA B k);rw[hn] at pl;simp only[go_sem,i73_l1,h0,h1,h7,h8,ll,hyi,Let.ps,aL,IK,he,s110,kW pl];first|exact⟨aK,aK,rfl⟩|exact⟨aK,aK⟩
 have:k=A.length:=aa;subst this;rw[RP,RQ aa] at hn;have hn:false=r:=hn;subst hn;simp only[go_sem,i73_l1,i73_r2,h7,h8,dG]
theorem aeG(l:List Let)(x:Let):∀s,ia s (l++[x])=if x.kind==2 then (if (ia s l).contains x.id then ia s l else ia s l++[x.id]) else ia s l:=by
 induction l with
 |nil=>intro s;rfl
 |cons a r ih=>
  intro s;rw[oI]
  conv=>lhs;unfold ia
  conv=>rhs;unfold ia
  split
  .split<;>exact ih _
  exact ih _
def nxL(s:List Int)(x:Let):Let:=if x.kind==2 then (if s.contains x.id then {x with id:=((s.idxOf x.id+1:Nat):Int)} else {x with id:=((s.length+1:Nat):Int)}) else x
theorem aei(l:List Let)(x:Let):∀s,jc s (l++[x])=jc s l++[nxL (ia s l) x]:=by
 induction l with
 |nil=>
  intro s;show jc s [x]=[nxL s x];unfold jc nxL;split
  .split<;>rfl
  rfl
 |cons a r ih=>
  intro s;rw[oI]
  conv=>lhs;unfold jc
  conv=>rhs;unfold jc ia
  split
  .split<;>(rw[ih];rfl)
  rw[ih];rfl
theorem Hv:∀(l:List Let) (s:List Int),(jc s l).length=l.length:=by
 intro l
 induction l with
 |nil=>intro s;rfl
 |cons a r ih=>
  intro s;unfold jc;split
  .split<;>simp[ih]
  simp[ih]
theorem yD(l:List Let):(iG l).length=l.length:=Hv l []
def yu(s:List Int)(i:Nat):List (Int×Int):=match s with
 |[]=>[]
 |a::r=>(a,((i+1:Nat):Int))::yu r (i+1)
theorem aol:∀(s:List Int) (i:Nat),(yu s i).length=s.length:=by
 intro s
 induction s with
 |nil=>intro i;rfl
 |cons a r ih=>intro i;show(yu r (i+1)).length+1=_;rw[ih];rfl
theorem aoj(a:Int):∀(s:List Int) (i:Nat),yu s i++[(a,((i+s.length+1:Nat):Int))]=yu (s++[a]) i:=by
 intro s
 induction s with
 |nil=>intro i;rfl
 |cons b r ih=>intro i;show(b,((i+1:Nat):Int))::(yu r (i+1)++_)=(b,((i+1:Nat):Int))::yu (r++[a]) (i+1);rw[<- ih (i+1),cS,show i+1+r.length+1=i+(r.length+1)+1 by omega]
theorem ZH(x:Int):∀(s:List Int) (i:Nat),fiM (yu s i) x i=if s.contains x then some (i+s.idxOf x,((i+s.idxOf x+1:Nat):Int)) else none:=by
 intro s
 induction s with
 |nil=>intro i;rfl
 |cons a r ih=>
  intro i;show(if x==a then some (i,((i+1:Nat):Int)) else fiM (yu r (i+1)) x (i+1))=_;by_cases h:x=a
  .subst h;simp
  have h1:(x==a)=false:=tF.2 h;have h2:(a==x)=false:=tF.2 (Ne.symm h);rw[h1,ih (i+1),List.contains_cons,h1,DA,WS,h2];simp only[dQ,if_false,cond_false];split
  .congr 2
   .omega
   congr 1;omega
  rfl
def rZ(L:List Let)(k:Nat):List Let:=jc [] (L.take k)++L.drop k
theorem alm(L:List Let){k:Nat}:(rZ L k).length=L.length:=by unfold rZ;rw[eG,Hv,gT,lX];omega
theorem Kt{L:List Let}{k:Nat}(h:L[k]?=some x):L.take (k+1)=L.take k++[x]:=by obtain⟨hl,e⟩:=bg.1 h;rw[<- e,List.take_append_getElem]
theorem alk{L:List Let}{k:Nat}(h:L[k]?=some x):(rZ L k)[k]?=some x:=by have hl:=(bg.1 h).1;unfold rZ;rw[yK (by rw[Hv,gT];omega),Hv,gT,Aw,yO aa,HW,xA,h]
theorem alo{L:List Let}{k:Nat}(h:L[k]?=some x):(rZ L k).set k (nxL (ia [] (L.take k)) x)=rZ L (k+1):=by
 obtain⟨hl,e⟩:=bg.1 h;have hd:L.drop k=x::L.drop (k+1):=by rw[<- e,DE]
 have hlen:(jc [] (L.take k)).length=k:=by rw[Hv,gT];omega
 unfold rZ;rw[Kt h,aei,hd,WV _ _ aa,hlen,HW,List.set_cons_zero,uv];rfl
theorem aln{L:List Let}{k:Nat}(h:L[k]?=some x)(hx:(x.kind==2)=false):rZ L (k+1)=rZ L k/\ia [] (L.take (k+1))=ia [] (L.take k):=by
 obtain⟨hl,e⟩:=bg.1 h;have hd:L.drop k=x::L.drop (k+1):=by rw[<- e,DE]
 refine⟨?_,?_⟩
 .unfold rZ;rw[Kt h,aei,hd];unfold nxL;rw[hx];simp
 rw[Kt h,aeG,hx];rfl
theorem aqt(L:List Let)(aI:L≠[])(hl:L.length<=1000000):aF S 71 [.one (.p (cQ L))] (.one (aO gH 6 (aZ (iG L)))):=by
 have pcl:=Yb aI hl;have lo:S.lone 4544128064=false:=ah;refine aV c71 ?_;simp only[go_sem,i71,s58];refine vj pcl lo (.inl rfl) fun cc mF gc te=>?_;have b0:=te 4544064000 ae;rcases gc with ⟨e,_⟩|⟨_,gg,e,hC⟩
 .exact absurd (by simpa using e) aI
 cases e;rw[cH];simp only[go_sem] at b0;simp only[go_sem];refine cJ (fun k ak aj=>ak 3=.one (.jW 4544064000 1)/\ak 4=.one (.hsl 4544128064 gg 6 0 L.length)/\ak 10=.one (.hsl 4544128064 gg 6 0 L.length)/\ak 11=vi L.length/\ak 12=vi k/\
  aj 4544064000=(1,some (.map false (mkE (yu (ia [] (L.take k)) 0))))/\aj 4544128064=(gg,some (.arr gH 6 (aZ (rZ L k))))) 0 L.length (bj _) ?_ ?_
 .simp only[go_sem,b0];exact⟨rfl,rfl,hC⟩
 rintro k ak aj hk ⟨h3,h4,fP,ie,kY,bM,bX⟩
 by_cases aq:k<L.length
 .have aL:((k:Int)<(L.length:Int)):=aa;obtain⟨x,hxL⟩:=aM aq;have hx:=alk hxL;have Ua:k<(rZ L k).length:=by rw[alm];exact aq
  have ll:=fv hx;have qq:=Kt hxL;obtain⟨n1,_⟩:=aeE (L.take k) [] vU;have hsl:∀(l:List Let) (s:List Int),(ia s l).length<=s.length+l.length:=by
   intro l
   induction l with
   |nil=>intro s;exact bJ _
   |cons a r ih=>
    intro s;unfold ia;split
    .split
     .have:=ih s;simp only[cS];omega
     have:=ih (s++[a.id]);simp only[eG,cS,eE] at this ⊢;omega
    have:=ih s;simp only[cS];omega
  have hsk:=hsl (L.take k) [];rw[gT] at hsk;simp only[eE] at hsk;have w1:=bN (n:=k) aa;cases jV:(x.kind==2) with
  |false=>obtain⟨e1,e2⟩:=aln hxL jV;rw[<- e1] at bX ll Ua;rw[<- e2] at bM;simp only[go_sem,i71_l1,h3,h4,fP,ie,kY,bM,bX,aq,aL,ll,Let.ps,jV,bne,w1]
  |true=>
   have gK:=alo hxL;have EN:=aeG (L.take k) x [];rw[<- qq,jV,aD rfl] at EN;unfold nxL at gK;rw[jV,aD rfl] at gK;generalize ia [] (L.take k)=s at gK EN bM hsk;have w2:=bN (n:=s.length) aa;have fk:=ZL (yu s 0) x.id 0;rw[ZH] at fk;have lT:=aol s 0;cases hc:s.contains x.id with
   |false=>
    rw[hc] at gK EN fk;simp only[dQ,if_false,Ou] at gK EN fk;have f2:=ZL (yu (s++[x.id]) 0) x.id 0;rw[ZH,show(s++[x.id]).contains x.id=true by simp] at f2;have GD:(s++[x.id]).idxOf x.id=s.length:=by rw[af6,ay (fun h=>by rw[FP.2 h] at hc;cases hc)];simp
    rw[GD] at f2;simp only[if_true,kU,jm] at f2;have nN:=aoj x.id s 0;rw[jm] at nN;rw[<- nN,<- acN] at f2;have Uy:(aZ (rZ L k)).set k [.int .i64 x.kind,.int .i64 x.gate,.int .i64 x.aE,.int .i64 ((s.length+1:Nat):Int),.int .i64 x.sign,.bool x.over]=aZ (rZ L (k+1)):=by rw[<- gK,<- acs];rfl
    simp only[go_sem,i71_l1,h3,h4,fP,ie,kY,bM,bX,aq,aL,ll,Let.ps,jV,bne,w1,w2,lT,mapOf,mapVal,gZ,zU,xH,fk,Ou,f2,Uy];rw[EN,<- nN,<- acN]
   |true=>
    rw[hc] at gK EN fk;simp only[if_true,kU,jm] at gK EN fk;have hv:((((s.idxOf x.id+1:Nat):Int))==0)=false:=by rw[tF];omega
    have Uy:(aZ (rZ L k)).set k [.int .i64 x.kind,.int .i64 x.gate,.int .i64 x.aE,.int .i64 ((s.idxOf x.id+1:Nat):Int),.int .i64 x.sign,.bool x.over]=aZ (rZ L (k+1)):=by rw[<- gK,<- acs];rfl
    simp only[go_sem,i71_l1,h3,h4,fP,ie,kY,bM,bX,aq,aL,ll,Let.ps,jV,bne,w1,mapOf,mapVal,gZ,fk,hv,Uy];rw[EN]
 have:k=L.length:=aa;subst this;have hX:rZ L L.length=iG L:=by unfold rZ iG;rw[kE,RP,mR]
 rw[hX] at bX;have hlr:=yD L;simp only[go_sem,i71_l1,i71_r2,h4,ie,kY,dG];refine xR (.inr ⟨?_,gg,by rw[cH,hlr],bX⟩);intro h2;have:=congrArg List.length h2;rw[cH,hlr] at this;exact aI (DG.1 this)
def F3(ls:List Let)(i:Nat):Bool:=((lA ls.reverse i).kind==1)&& !((jD ls).getD (ls.length-1-i) false)
def oR(ls:List Let):List Let:=match (List.range ls.length).find? (F3 ls) with
 |some i=>dY ls.reverse i
 |none=>ls.reverse
theorem Im(ls:List Let):(oR ls).length=ls.length:=by
 unfold oR;split
 .rw[Ag,lJ]
 rw[lJ]
theorem ahE{ls:List Let}(aI:ls≠[])(hl:ls.length<=1000000):aF S 70 [.one (.p (mI F ls))] (.one (aO gH 6 (aZ (oR ls)))):=by
 have pcl:=Yb aI hl;have lo:S.lone 4480064320=false:=ah;have kN:S.lone 4480512128=false:=ah;have vl:=Im ls;generalize hR:oR ls=R at vl;refine aV c70 ?_;simp only[go_sem,i70,s58];refine vj pcl lo (.inl rfl) fun cc mF gc te=>?_;simp only[go_sem,s109];refine akE (f:=109) (es:=aZ ls) (id:=4480064320) (ty:=gH) (z:=6) (fun o h=>aqA o (by simp;omega) (anD _) h) (gc.of_eq rfl) fun blkr gr hbr=>?_;rw[anC] at gr;rcases gr with ⟨e,_⟩|⟨_,gg,e,hC⟩
 .have:=congrArg List.length e;rw[cH,lJ] at this;exact absurd (DG.1 this) aI
 cases e;rw[cH,lJ];simp only[go_sem];have L7:ls.reverse.length=ls.length:=lJ;have CQ:IntKind.i64.wrap ((ls.length:Int)-1)=((ls.length-1:Nat):Int):=by have:=jl.2 aI;rw[rM aa aa];omega
 have Cr:(jD ls).length=ls.length:=by simp[jD]
 unfold oR at hR;have lf:∀i,F3 ls i=(((lA ls.reverse i).kind==1)&& !((jD ls).getD (ls.length-1-i) false)):=fun _=>rfl;generalize F3 ls=bp at hR lf;generalize ls.reverse=X at hC L7 gc hR lf;refine cJ (fun k ak aj=>ak 0=.one (.p (mI F ls))/\ak 3=.one (.hsl 4480064320 gg 6 0 ls.length)/\ak 15=vi ls.length/\ak 16=vi k/\aj 4480064320=(gg,some (.arr gH 6 (aZ X)))/\ ∀j,j<k->bp j=false) 0 ls.length (bj _) ?_ ?_
 .simp only[go_sem,hC];first|exact⟨rfl,fun j h=>absurd h (mT j)⟩|exact⟨rfl,rfl,fun j h=>absurd h (mT j)⟩
 rintro k ak aj hk ⟨h0,h3,Eo,xS,bX,dr⟩
 by_cases aq:k<ls.length
 .have aL:((k:Int)<(ls.length:Int)):=aa;have Ua:k<X.length:=aa;have ll:=fv (nC Ua);have w1:=bN (n:=k) aa;have w2:IntKind.i64.wrap (((ls.length-1:Nat):Int)-(k:Int))=((ls.length-1-k:Nat):Int):=by
   rw[rM aa aa];omega
  obtain⟨d,hd⟩:=aM (ls:=jD ls) (k:=ls.length-1-k) aa;have mq:=pZ hd;have hdl':ls.length-1-k<(jD ls).length:=aa;have kJ:=lf k;rw[show(jD ls).getD (ls.length-1-k) false=d by rw[cY,hd];rfl] at kJ;generalize lA X k=x at ll kJ;have ak0:ls.length<=X.length:=aa;have hXt:List.take ls.length (aZ X)=aZ X:=dD (by rw[cH];omega);have pr:=aes X k aa aa;have nx:bp k=false->∀j,j<k+1->bp j=false:=fun hb j hj=>by
   rcases lL.1 hj with h|rfl
   .exact dr j h
   exact hb
  cases jV:(x.kind==1) with
  |false=>rw[jV,Oa] at kJ;simp only[go_sem,i70_l1,h0,h3,Eo,xS,bX,aq,aL,ll,Let.ps,jV,CQ,w1,w2];exact nx kJ
  |true=>
   cases d with
   |true=>rw[jV] at kJ;simp only[go_sem,i70_l1,h0,h3,Eo,xS,bX,aq,aL,ll,Let.ps,jV,CQ,w1,w2,mq];exact nx kJ
   |false=>rw[jV] at kJ;have hf:(List.range ls.length).find? bp=some k:=Cd aq dr kJ;rw[hf] at hR;have hR:dY X k=R:=hR;unfold dY at hR;simp only[go_sem,i70_l1,h0,h3,Eo,xS,bX,aq,aL,ll,Let.ps,jV,CQ,w2,mq,ak0,hXt,s72];refine vj pr kN (.inr (xD (Fz _))) fun cr fN gr3 ef=>?_;rw[hR] at gr3;simp only[go_sem];exact xR gr3
 have:k=ls.length:=aa;subst this;have hf:(List.range ls.length).find? bp=none:=IL fun j hj=>dr j hj;rw[hf] at hR;have hR:X=R:=hR;subst hR;simp only[go_sem,i70_l1,i70_r2,h3,Eo,xS,dG];refine xR (.inr ⟨?_,gg,by rw[cH,L7],bX⟩);intro h2;have:=congrArg List.length h2;rw[cH,L7] at this;exact aI (DG.1 this)
def wz(l:List Let)(i:Nat):Bool:=((lA l i).kind==1)&&decide (aC Let.aJ (l.take i)%2=0)
def qU(l:List Let)(n:Nat):List (List Let):=(List.range n).filterMap fun i=>if wz l i then some (iG (dY l i)) else none
theorem ajS(l:List Let)(n:Nat):qU l (n+1)=qU l n++(if wz l n then [iG (dY l n)] else []):=by unfold qU;rw[uZ,List.filterMap_append];congr 1;cases h:wz l n<;>simp[h]
def sA(z:Option (List Let))(y:List Let):Option (List Let):=match z with
 |none=>some y
 |some z=>if gI y z then some y else some z
def yv(V:List (List Let)):Option (List Let):=V.foldl sA none
theorem aon(V:List (List Let))(y:List Let):yv (V++[y])=sA (yv V) y:=by unfold yv;rw[Av];rfl
theorem aop{V:List (List Let)}:∀ {o z},V.foldl sA o=some z->z∈V\/o=some z:=by
 induction V with
 |nil=>intro o z h;exact .inr h
 |cons y V ih=>
  intro o z h;rcases ih (o:=sA o y) h with h1|h1
  .exact .inl (by simp[h1])
  cases o with
  |none=>cases h1;exact .inl af
  |some w=>
   unfold sA at h1;simp only at h1;split at h1
   .cases h1;exact .inl af
   exact .inr h1
theorem Vd{V:List (List Let)}{z:List Let}(h:yv V=some z):z∈V:=by
 rcases aop h with h|h
 .exact h
 cases h
def cO:Option (List Let)->PV
 |none=>.nils
 |some Y=>cQ Y
def uS(F:Nat)(ls:List Let)(gB:Nat)(bs:List (List PV))(k:Nat)(V:List (List Let))(ak:Env)(aj:aw):Prop:=
 ak 0=.one (.p (mI F ls))/\ak 2=.one (.aX 2304000000 1 0)/\ak 17=.one (.hsl 2304128448 gB 1 0 2)/\ak 18=vi 2/\ak 19=vi k/\ak 3=.one (.p (cO (yv V)))/\
 aj 2304000000=(1,some (.var [.p (.int .i64 0),.p .nils]))/\aj 2304128448=(gB,some (.arr 22 1 bs))
theorem adG(l:List Let){i:Nat}(hx:l[i]?=some x):decide (aC Let.aJ (l.take (i+1))%2=0)=if x.kind==1 then !decide (aC Let.aJ (l.take i)%2=0) else decide (aC Let.aJ (l.take i)%2=0):=by
 rw[Kt hx,D0];have:aC Let.aJ [x]=if x.kind==1 then 1 else 0:=by show List.countP _ [x]=_;rw[af1];rfl
 rw[this];generalize aC Let.aJ (l.take i)=n;cases (x.kind==1)
 .simp
 simp only[if_true];rw[BB,sM,kV,decide_eq_false_iff_not];omega
theorem ac8{F:Nat}{ls l:List Let}{gB k:Nat}{bs:List (List PV)}{V:List (List Let)}{Q:dy}{ak:Env}{aj:aw}(aI:l≠[])(tj:l.length=ls.length)(hl:ls.length<=1000000)(hV:∀y∈V,y.length=ls.length)(hI:uS F ls gB bs k V ak aj)(h5:ak 5=.one (.p (cQ l)))(h6:ak 6=vb true)(qe:ak 23=.one (.p (cQ l)))(ml:ak 24=vi ls.length)(mn:ak 25=vi 0)
  (hK:∀aA ao,uS F ls gB bs k (V++qU l ls.length) aA ao->Q .normal aA ao):W S .all (.loop i36_l1) (lN 2 Q) ak aj:=by
 refine cJ (fun i ak aj=>uS F ls gB bs k (V++qU l i) ak aj/\ak 5=.one (.p (cQ l))/\ak 6=vb (decide (aC Let.aJ (l.take i)%2=0))/\ak 23=.one (.p (cQ l))/\ak 24=vi ls.length/\ak 25=vi i) 0 ls.length (bj _) ⟨by rw[show qU l 0=[] from rfl,mR];exact hI,h5,h6,qe,ml,mn⟩ ?_;rintro i ak aj hi ⟨⟨h0,h2,kZ,kz,jS,h3,b0,bB⟩,h5,h6,qe,ml,mn⟩
 by_cases aq:i<ls.length
 .have aL:((i:Int)<(ls.length:Int)):=aa;have alE:i<l.length:=aa;have qw:=nC alE;have ll:=fv qw;have uL:=adG l qw;have r4:=ajS l i;unfold wz at r4;have qn:∀y∈V++qU l i,y.length=ls.length:=fun y hy=>by
   rcases dZ.1 hy with h|h
   .exact hV y h
   obtain⟨j,_,e⟩:=HQ.1 h;split at e
   .cases e;rw[yD,Ag,tj]
   cases e
  generalize lA l i=x at ll uL r4;generalize decide (aC Let.aJ (l.take i)%2=0)=d at uL r4 h6;generalize qU l i=W0 at*;have w1:=bN (n:=i) aa;have pr:=aes l i aa aa;have L7:(dY l i).length=ls.length:=by rw[Ag,tj]
  rw[show l.drop i++l.take i=dY l i from rfl] at pr;generalize dY l i=R at pr L7 r4;have Pr:R≠[]:=jl.1 aa;have pn:=aqt R Pr aa;have hY:=yD R;generalize iG R=Y at pn hY r4;have TL:Y≠[]:=jl.1 aa;have iD:S.lone 2304704128=true:=U2 ah;have kN:S.lone 2304704192=true:=U2 ah;cases cF:(x.kind==1) with
  |false=>rw[cF] at uL r4;simp only[Oa,dQ,if_false,mR] at uL r4;simp only[go_sem,i36_l1,h5,h6,qe,ml,mn,aq,aL,ll,Let.ps,cF,bne,w1];simp only[go_sem,uS,r4,uL,h0,h2,h3,kZ,kz,jS,b0,bB]
  |true=>
   rw[cF] at uL r4;cases d with
   |false=>simp only[xx,dQ,if_false,if_true,mR,Rx] at uL r4;simp only[go_sem,i36_l1,h5,h6,qe,ml,mn,aq,aL,ll,Let.ps,cF,bne,w1];simp only[go_sem,uS,r4,uL,h0,h2,h3,kZ,kz,jS,b0,bB]
   |true=>
    simp only[xx,if_true,DB] at uL r4;have rl:yv (V++(W0++[Y]))=sA (yv (V++W0)) Y:=by rw[<- uv,aon]
    cases hz:yv (V++W0) with
    |none=>rw[hz] at rl h3;have rl:yv (V++(W0++[Y]))=some Y:=rl;have h3:ak 3=.one (.p .nils):=h3;simp only[go_sem,i36_l1,h3,h5,h6,qe,ml,mn,aq,aL,ll,Let.ps,cF,bne,w1,s72,cU pr (Hd Pr iD),s71,cU pn (Hd TL kN)];simp only[go_sem,uS,r4,uL,rl,cO,h0,h2,h3,kZ,kz,jS,b0,bB]
    |some Z=>
     rw[hz] at rl h3;have hZ:=qn Z (Vd hz);have h3:ak 3=.one (.p (cQ Z)):=h3;have pb:=ahK Y Z aa aa;obtain⟨e,es,he⟩:∃e es,aZ Z=e::es:=by
      cases Z with
      |nil=>simp at hZ;omega
      |cons z t=>exact⟨_,_,rfl⟩
     have hZe:PV.sl (e::es)=cQ Z:=by rw[<- he]
     rw[<- hZe] at pb h3;unfold sA at rl;simp only at rl;cases hb:gI Y Z with
     |false=>rw[hb] at pb rl;simp only[dQ,if_false] at rl;simp only[go_sem,i36_l1,h3,h5,h6,qe,ml,mn,aq,aL,ll,Let.ps,cF,bne,w1,s72,cU pr (Hd Pr iD),s71,cU pn (Hd TL kN),s73,bh pb];simp only[go_sem,uS,r4,uL,rl,cO,hZe,h0,h2,h3,kZ,kz,jS,b0,bB]
     |true=>rw[hb] at pb rl;simp only[if_true] at rl;simp only[go_sem,i36_l1,h3,h5,h6,qe,ml,mn,aq,aL,ll,Let.ps,cF,bne,w1,s72,cU pr (Hd Pr iD),s71,cU pn (Hd TL kN),s73,bh pb];simp only[go_sem,uS,r4,uL,rl,cO,h0,h2,h3,kZ,kz,jS,b0,bB]
 have:i=ls.length:=aa;subst this;simp only[go_sem,i36_l1,ml,mn,dG];refine hK _ _ ?_;simp only[go_sem,uS,h0,h2,h3,kZ,kz,jS,b0,bB]
def yZ(ls:List Let):List (List Let):=qU ls ls.length++qU (oR ls) ls.length
def ly(ls:List Let):Option (List Let):=yv (yZ ls)
theorem Ti{l:List Let}{n:Nat}{y:List Let}(h:y∈qU l n):y.length=l.length:=by
 obtain⟨j,_,e⟩:=HQ.1 h;split at e
 .cases e;rw[yD,Ag]
 cases e
theorem aoz{ls:List Let}(aI:ls≠[])(hl:ls.length<=1000000):aF S 36 [.one (.p (mI F ls))] (.agg [.p (.int .i64 F),.p (cO (ly ls))]):=by
 have pb:=ahE (F:=F) aI hl;have hB:=Im ls;generalize hr:ly ls=res;unfold ly yZ at hr;generalize oR ls=B at pb hB hr;have aav:B≠[]:=by have:=jl.2 aI;exact jl.1 aa
 have iD:S.lone 2304128384=true:=U2 ah;refine aV c36 ?_;simp only[go_sem,i36,s70,mH pb (Hd aav iD)];refine⟨aK,?_⟩;refine cJ (fun k=>uS F ls 1 [[cQ ls],[cQ B]] k (if k=0 then [] else if k=1 then qU ls ls.length else qU ls ls.length++qU B ls.length)) 0 2 (bj _) ?_ ?_
 .simp only[go_sem,uS];first|done|exact⟨rfl,rfl⟩|exact⟨rfl,rfl,rfl⟩|exact⟨rfl,rfl,rfl,rfl,rfl,rfl,rfl,rfl⟩|rfl
 intro k ak aj hk hI;obtain⟨h0,h2,kZ,kz,jS,h3,b0,bB⟩:=hI;by_cases aq:k<2
 .have T5:k=0\/k=1:=aa;have l02:((0:Nat):Int)<2:=ae;have l12:((1:Nat):Int)<2:=ae;rcases T5 with rfl|rfl
  .simp only[go_sem,i36_l3,kZ,kz,jS,bB,l02];refine ac8 (F:=F) (ls:=ls) (l:=ls) (gB:=1) (k:=0) (bs:=[[cQ ls],[cQ B]]) (V:=[]) aI rfl hl (fun y h=>by cases h) ?_ rfl rfl rfl rfl rfl fun aA ao I4=>?_
   .simp only[go_sem,uS,h0,h2,h3,kZ,kz,jS,b0,bB];first|done|rfl
   obtain⟨h0,h2,kZ,kz,jS,h3,b0,bB⟩:=I4;rw[nH] at h3;simp only[go_sem,uS,i36_r2,h0,h2,h3,kZ,kz,jS,b0,bB];first|done|rfl|exact⟨rfl,rfl⟩
  simp only[go_sem,i36_l3,kZ,kz,jS,bB,l12];refine ac8 (F:=F) (ls:=ls) (l:=B) (gB:=1) (k:=1) (bs:=[[cQ ls],[cQ B]]) (V:=qU ls ls.length) aav hB hl (fun y h=>Ti h) ?_ rfl rfl rfl (by rw[<- hB];rfl) rfl fun aA ao I4=>?_
  .simp only[go_sem,uS,h0,h2,h3,kZ,kz,jS,b0,bB];first|done|rfl
  obtain⟨h0,h2,kZ,kz,jS,h3,b0,bB⟩:=I4;simp only[go_sem,uS,i36_r2,h0,h2,h3,kZ,kz,jS,b0,bB];first|done|rfl|exact⟨rfl,rfl⟩
 have:k=2:=aa;subst this;have l22:¬(((2:Nat):Int)<2):=ae;have h3:ak 3=.one (.p (cO res)):=by rw[<- hr];exact h3
 simp only[go_sem,i36_l3,i36_r4,h0,h2,h3,kz,jS,b0,l22];cases res<;>rfl
theorem adk(cP:vd){f:Int}{ls:List Let}(hl:ls.length<=1000000)(h0:di f ls=0):aF S 20 [cZ f ls] (.tup [.agg [.p (.int .i64 f),.p (cO (ly ls))],.one (.p (.int .i64 0))]):=by
 have pr:=QR f ls hl;rw[NG h0] at pr;have pn:aF S 36 [.one (.p (if ls=[] then zc f else mI f.toNat ls))] (.agg [.p (.int .i64 f),.p (cO (ly ls))]):=by
  by_cases aI:ls=[]
  .rw[aD aI];subst aI;exact aoy cP f
  rw[ay aI];obtain⟨F,hF,g⟩:=xM h0 aI;subst hF;exact aoz (F:=F) aI hl
 have dV:(if ls=[] then zc f else mI f.toNat ls).norm=(if ls=[] then zc f else mI f.toNat ls):=by split<;>simp only[Vg]
 generalize (if ls=[] then zc f else mI f.toNat ls)=dg at pr pn dV;generalize cO (ly ls)=c at*;refine aV c20 ?_;simp only[go_sem,i20,s35,cU pr mw,s36,cU pn am5,dV];rfl
theorem anZ:∀ {A B:List Int},A.length=B.length->qB A B=false->qB B A=false->A=B:=by
 intro A
 induction A with
 |nil=>intro B h _ _;cases B with
  |nil=>rfl
  |cons _ _=>cases h
 |cons a A ih=>
  intro B h h1 h2;cases B with
  |nil=>cases h
  |cons b B=>
   unfold qB at h1 h2;by_cases e:a=b
   .subst e;rw[aD rfl] at h1 h2;rw[ih (by simpa using h) h1 h2]
   rw[ay e] at h1;rw[ay (Ne.symm e)] at h2;have:=fA h1;have:=fA h2;omega
theorem amV{a b:Let}(h:rB a=rB b):a=b:=by
 cases a with|mk k g r i s o=>cases b with|mk k' g' r' i' s' o'=>
 unfold rB at h;simp only[As,and_true] at h;obtain⟨h1,h2,h3,h4,h5,h6⟩:=h;have:o=o':=by revert h5;cases o<;>cases o'<;>simp
 subst h1 h2 h3 h4 h6 this;rfl
theorem SD:∀ {A B:List Let},A.length=B.length->gI A B=false->gI B A=false->A=B:=by
 intro A
 induction A with
 |nil=>intro B h _ _;cases B with
  |nil=>rfl
  |cons _ _=>cases h
 |cons a A ih=>
  intro B h h1 h2;cases B with
  |nil=>cases h
  |cons b B=>
   unfold gI at h1 h2;by_cases e:a=b
   .subst e;rw[aD (zV a)] at h1 h2;rw[ih (by simpa using h) h1 h2]
   have e1:¬leq a b=true:=fun x=>e ((Hf _ _).1 x);have e2:¬leq b a=true:=fun x=>e ((Hf _ _).1 x).symm;rw[ay e1,Na] at h1;rw[ay e2,Na] at h2;exact absurd (amV (a:=a) (b:=b) (anZ rfl h1 h2)) e
theorem aoq{n:Nat}:∀ {V:List (List Let)} {o z},(∀y∈V,y.length=n)->(∀w,o=some w->w.length=n)->V.foldl sA o=some z->(∀y∈V,gI y z=false)/\(∀w,o=some w->gI w z=false):=by
 intro V
 induction V with
 |nil=>intro o z _ _ h;refine⟨fun y hy=>(by cases hy),fun w hw=>?_⟩;have h:o=some z:=h;rw[h] at hw;cases hw;exact ON z
 |cons y V ih=>
  intro o z hV ho h;have hy0:=hV y af;have hV':∀u∈V,u.length=n:=fun u hu=>hV u (by simp[hu]);cases o with
  |none=>
   obtain⟨h1,h2⟩:=ih (o:=some y) hV' (fun w hw=>by cases hw;exact hy0) h;refine⟨fun w hw=>?_,fun w hw=>(by cases hw)⟩;rcases cI.1 hw with rfl|hw
   .exact h2 w rfl
   exact h1 w hw
  |some w=>
   have CQ:=ho w rfl;have h:V.foldl sA (sA (some w) y)=some z:=h;cases hb:gI y w with
   |true=>
    have e:sA (some w) y=some y:=by unfold sA;simp only[hb,if_true]
    rw[e] at h;obtain⟨h1,h2⟩:=ih (o:=some y) hV' (fun w hw=>by cases hw;exact hy0) h;have hy:=h2 y rfl;refine⟨fun u hu=>?_,fun u hu=>?_⟩
    .rcases cI.1 hu with rfl|hu
     .exact hy
     exact h1 u hu
    cases hu;cases hz:gI w z
    .rfl
    rw[OO hb hz] at hy;cases hy
   |false=>
    have e:sA (some w) y=some w:=by unfold sA;simp only[hb,dQ,if_false]
    rw[e] at h;obtain⟨h1,h2⟩:=ih (o:=some w) hV' (fun w hw=>by cases hw;exact CQ) h;have hw:=h2 w rfl;refine⟨fun u hu=>?_,fun u hu=>by cases hu;exact hw⟩;rcases cI.1 hu with rfl|hu
    .cases hz:gI u z
     .rfl
     cases hwu:gI w u with
     |true=>rw[OO hwu hz] at hw;cases hw
     |false=>rw[SD aa hb hwu] at hz;rw[hz] at hw;cases hw
    exact h1 u hu
theorem aom{n:Nat}{V:List (List Let)}{z:List Let}(hV:∀y∈V,y.length=n)(h:yv V=some z):z∈V/\ ∀y∈V,gI y z=false:=
 ⟨Vd h,(aoq hV (fun w hw=>by cases hw) h).1⟩
theorem aoo{V:List (List Let)}(h:V≠[]):∃z,yv V=some z:=by
 have key:∀(V:List (List Let)) (w:List Let),∃z,V.foldl sA (some w)=some z:=by
  intro V
  induction V with
  |nil=>intro w;exact⟨w,rfl⟩
  |cons y V ih=>
   intro w;show ∃z,V.foldl sA (sA (some w) y)=some z;unfold sA;simp only;split
   .exact ih y
   exact ih w
 cases V with
 |nil=>exact absurd rfl h
 |cons y V=>exact key V y
theorem Th{l:List Let}{i:Nat}(hi:i<l.length):wz l i=true↔evn l i:=by
 have h:=nC hi;unfold wz evn par;rw[cN,kV];constructor
 .rintro ⟨h1,h2⟩
  exact⟨⟨_,h,h1⟩,h2⟩
 rintro ⟨⟨x,hx,hp⟩,h2⟩
 rw[h] at hx;cases hx;exact⟨hp,h2⟩
theorem ZB{l y:List Let}:y∈qU l l.length↔Ce l y:=by
 unfold qU Ce;rw[HQ];constructor
 .rintro ⟨i,hi,e⟩
  have hi:=fg.1 hi;split at e
  .rename_i hb;cases e;exact⟨i,hi,(Th hi).1 hb,rfl⟩
  cases e
 rintro ⟨i,hi,he,rfl⟩
 exact⟨i,fg.2 hi,by rw[aD ((Th hi).2 he)]⟩
theorem ahB{ls:List Let}(he:aC Let.aJ ls%2=0):∃j,j<=ls.length/\par ls.reverse j/\oR ls=dY ls.reverse j:=by
 unfold oR;split
 .rename_i i hf;have hi:=fg.1 (KS hf);have hb:=RX hf;unfold F3 at hb;rw[cN] at hb;obtain⟨h1,h2⟩:=hb;refine⟨i,aa,?_,rfl⟩;obtain⟨x,hx⟩:=aM (ls:=ls) (k:=ls.length-1-i) aa;have hxr:ls.reverse[i]?=some x:=by rw[Oi aa];exact hx
  rw[acf hxr] at h1;have hd:(jD ls).getD (ls.length-1-i) false=dn ls (ls.length-1-i):=by unfold jD;rw[cY,fT,rO aa];show iz ls (ls.length-1-i)=_;unfold iz;rw[hx];show(x.aJ&&_)=_;rw[show x.aJ=true from h1,xx]
  rw[hd] at h2;unfold dn at h2;unfold par;rw[List.take_reverse,Ea];have e1:aC Let.aJ ls=aC Let.aJ (ls.take (ls.length-i))+aC Let.aJ (ls.drop (ls.length-i)):=by rw[<- D0,sQ]
  have e2:=adG ls hx;rw[show ls.length-1-i+1=ls.length-i by omega,h1,aD rfl] at e2;have h3:¬aC Let.aJ (ls.take (ls.length-1-i))%2=0:=by intro h;rw[h] at h2;cases h2
  rw[vW h3] at e2;have h4:aC Let.aJ (ls.take (ls.length-i))%2=0:=l7 e2;omega
 refine⟨0,bj _,rfl,?_⟩;unfold dY;simp
theorem aoW{l:List Let}{j:Nat}(hj:j<=l.length)(he:aC Let.aJ l%2=0)(hp:par l j):par (dY l j) (l.length-j)/\dY (dY l j) (l.length-j)=l:=by
 have hd:(l.drop j).length=l.length-j:=lX;have e1:aC Let.aJ l=aC Let.aJ (l.take j)+aC Let.aJ (l.drop j):=by rw[<- D0,sQ]
 unfold par at*;unfold dY;rw[<- hd,KU,WM,sQ];exact⟨aa,rfl⟩
theorem akn{l y:List Let}{j:Nat}(hj:j<=l.length)(he:aC Let.aJ l%2=0)(hp:par l j):Ce (dY l j) y↔Ce l y:=by refine⟨ZX hj he hp,fun h=>?_⟩;obtain⟨h1,h2⟩:=aoW hj he hp;refine ZX (l:=dY l j) (j:=l.length-j) (by rw[Ag];omega) (by rw[Yj];exact he) h1 ?_;rw[h2];exact h
theorem F5{l y:List Let}(he:aC Let.aJ l%2=0):y∈yZ l↔Gi l y:=by
 obtain⟨j,hj,hp,e⟩:=ahB he;unfold yZ Gi;have hl:qU (oR l) l.length=qU (oR l) (oR l).length:=by rw[Im]
 rw[dZ,hl,ZB,ZB,e,akn (by rw[lJ];exact hj) (by rw[Ea];exact he) hp]
theorem OT{l y:List Let}(h:y∈yZ l):y.length=l.length:=by
 unfold yZ at h;rcases dZ.1 h with h|h
 .exact Ti h
 rw[Ti h,Im]
section
variable {F:Nat} {ls:List Let}
theorem bQ.abk(g:bQ F ls):evn ls 0:=by obtain⟨l,h1,h2⟩:=g.first;exact⟨⟨l,h1,h2⟩,rfl⟩
def dK(ls:List Let):List Let:=(ly ls).getD []
theorem bQ.Fk(g:bQ F ls):ly ls=some (dK ls)/\Gi ls (dK ls)/\ ∀y,Gi ls y->gI y (dK ls)=false:=by
 have he:=g.even;have h0:Gi ls (iG (dY ls 0)):=.inl ⟨0,jl.2 g.ne,g.abk,rfl⟩;have hc:yZ ls≠[]:=fun e=>by have:=(F5 he).2 h0;rw[e] at this;cases this
 obtain⟨z,hz⟩:=aoo hc;obtain⟨z1,z2⟩:=aom (fun y hy=>OT hy) hz;have hn:ly ls=some z:=hz;have e:dK ls=z:=by unfold dK;rw[hn];rfl
 rw[e];exact⟨hn,(F5 he).1 z1,fun y hy=>z2 y ((F5 he).2 hy)⟩
theorem bQ.form(g:bQ F ls){y:List Let}(h:Gi ls y):di (F:Int) y=0:=by
 have c:=g.cz;have hl:(zF ls).length<=400:=by rw[WB];exact g.len
 have hc:aC Let.aG (bK (zF ls))<=200:=by rw[tD];exact g.cr
 have h0:∀x,(zF ls)[0]?=some x->x.i.b=false:=fun x hx=>by have hn:0<ls.length:=jl.2 g.ne;rw[FM hn] at hx;cases hx;rw[UF g hn];rfl
 rcases h with h|h
 .exact ZY c h0 hl hc g.fing (by rw[tD];exact h)
 refine ZY c.rv ?_ (by rw[cH,lJ];exact hl) (by rw[JL,Ea];exact hc) g.fing (by rw[JL,tD];exact h);intro x hx;rw[fT] at hx;have hn:0<ls.length:=jl.2 g.ne;rw[Oi (by rw[WB];exact hn),WB,FM aa] at hx;cases hx;show(dE ls (ls.length-1-0)).o.b=false;show(!dn ls (ls.length-1-0+1))=false;rw[show ls.length-1-0+1=ls.length by omega,Zb g];rfl
end
theorem Qt(ls:List Let):(dK ls).length<=ls.length:=by
 unfold dK;cases h:ly ls with
 |none=>exact bj _
 |some z=>have:=OT (Vd h);show z.length<=_;omega
theorem SJ(o:Option (List Let)):(cO o).norm=cQ (o.getD []):=by
 cases o with
 |none=>rfl
 |some Y=>rfl
def jA(F:Nat)(ls:List Let)(m:aU):Option (List Let):=
 if ls=[] then if bY F [] m.k m.a m.b m.c m.l m.o m.s=true then some (circ m.b.toNat) else none
 else if bY F ls m.k m.a m.b m.c m.l m.o m.s=true then match sC F ls m.k m.a.toNat m.b.toNat m.c.toNat m.l m.o m.s with
  |none=>none
  |some M=>if (400:Int)<(ls.length:Int)+(lR m.k).1\/(100:Int)<((aC Let.aG ls/2:Nat):Int)+(lR m.k).2 then none else some (nh M)
 else none
theorem aqH{L:List Let}{e:Int}(he:e≠0):mz F L≠sH e:=fun h=>by unfold mz sH at h;simp only[RV.tup.injEq,As,RV.one.injEq,RC.p.injEq,PV.int.injEq,and_true,true_and] at h;exact he h.2.symm
def Hw(F:Nat):List Let->List aU->Option (List Let)
 |ls,[]=>some ls
 |ls,m::ms=>match jA F ls m with
  |none=>none
  |some L=>Hw F L ms
theorem aqu{ls L:List Let}{ms:List aU}(m:aU)(h:Hw F ls ms=some L):Hw F ls (ms++[m])=jA F L m:=by
 induction ms generalizing ls with
 |nil=>have e:ls=L:=sR h;rw[<- e];show(match jA F ls m with|none=>none|some L=>some L)=_;cases jA F ls m<;>rfl
 |cons a r ih=>
  show(match jA F ls a with|none=>none|some L=>Hw F L (r++[m]))=_;have h:(match jA F ls a with|none=>none|some L=>Hw F L r)=some L:=h;cases ha:jA F ls a with
  |none=>rw[ha] at h;cases h
  |some K=>rw[ha] at h;exact ih h
theorem Fl{ls:List Let}(h:di (F:Int) ls=0):di (F:Int) (dK ls)=0:=by
 by_cases aI:ls=[]
 .subst aI;exact h
 obtain⟨G,e,g⟩:=xM h aI;have:F=G:=aa;subst this;exact g.form g.Fk.2.1
theorem DW{f:Int}{L:List Let}(h:di f L=0):L.length<=400:=by
 by_cases aI:L=[]
 .subst aI;exact bj _
 obtain⟨G,_,g⟩:=xM h aI;exact g.len
end
end Go.Abs
