/-
  The forms of a code are valid codes.
-/
import Derived.Test.YtfohniicngjeoaaGreatDoorVb
import Derived.Test.YtfohniicngjeoaaGreatDoorUa
set_option linter.all false
set_option maxRecDepth 100000
set_option maxHeartbeats 16000000
namespace Go.Abs
section
variable{F j:Nat}{x:Let}{ls:List Let}
theorem I5(x y:Let):leq x y=true↔x=y:=by
 constructor
 .intro h;unfold leq at h;simp only[cX,beq_iff_eq] at h;obtain⟨h1,h2,h3,h4,h5,h6⟩:=h;cases x;cases y
  simp_all
 rintro rfl;exact I6 x
def pE(a b:Let):Bool:=if a.kind==b.kind then if a.gate==b.gate then if a.aD==b.aD then if a.id==b.id then if a.over==b.over then decide (a.sign<b.sign) else b.over else decide (a.id<b.id) else decide (a.aD<b.aD) else decide (a.gate<b.gate) else decide (a.kind<b.kind)
def wD:List Int->List Int->Bool
 |a::A,b::B=>if a=b then wD A B else decide (a<b)
 |_,_=>false
theorem am4:∀ {A B:List Int},wD A B=true->wD B A=false:=by
 intro A
 induction A with
 |nil=>intro B h;cases B<;>cases h
 |cons a A ih=>
  intro B h;cases B with
  |nil=>cases h
  |cons b B=>
   unfold wD at h ⊢;by_cases e:a=b
   .subst e;rw[if_pos rfl] at h ⊢;exact ih h
   rw[if_neg e] at h;rw[if_neg (Ne.symm e)];have:=of_decide_eq_true h;exact decide_eq_false aa
theorem am6:∀ {A B D:List Int},wD A B=true->wD B D=true->wD A D=true:=by
 intro A
 induction A with
 |nil=>intro B D h;cases B<;>cases h
 |cons a A ih=>
  intro B D h h';cases B with
  |nil=>cases h
  |cons b B=>
   cases D with
   |nil=>cases h'
   |cons d D=>
    unfold wD at h h' ⊢;by_cases e:a=b
    .subst e;rw[if_pos rfl] at h;by_cases e':a=d
     .subst e';rw[if_pos rfl] at h' ⊢;exact ih h h'
     rw[if_neg e'] at h' ⊢;exact h'
    rw[if_neg e] at h;have h1:=of_decide_eq_true h;by_cases e':b=d
    .subst e';rw[if_neg e];exact h
    rw[if_neg e'] at h';have h2:=of_decide_eq_true h';rw[if_neg aa];exact decide_eq_true aa
def I2(a:Let):List Int:=[a.kind,a.gate,a.aD,a.id,if a.over then 1 else 0,a.sign]
theorem Pt(a b:Let):pE a b=wD (I2 a) (I2 b):=by
 cases a with|mk k g r i s o=>cases b with|mk k' g' r' i' s' o'=>
 unfold pE I2;simp only[wD];by_cases h1:k=k'
 .by_cases h2:g=g'
  .by_cases h3:r=r'
   .by_cases h4:i=i'
    .cases o<;>cases o'<;>by_cases h6:s=s'<;>simp[h1,h2,h3,h4,h6]
    simp[h1,h2,h3,h4]
   simp[h1,h2,h3]
  simp[h1,h2]
 simp[h1]
theorem amZ{a b:Let}(h:pE a b=true):pE b a=false:=by rw[Pt] at*;exact am4 h
theorem am0{a b c:Let}(h1:pE a b=true)(h2:pE b c=true):pE a c=true:=by rw[Pt] at*;exact am6 h1 h2
def mH:List Let->List Let->Bool
 |a::A,b::B=>if leq a b then mH A B else pE a b
 |_,_=>false
theorem ahb(A:List Let):mH A A=false:=by
 induction A with
 |nil=>rfl
 |cons a A ih=>unfold mH;rw[if_pos (I6 a)];exact ih
theorem XA:∀ {A B D:List Let},mH A B=true->mH B D=true->mH A D=true:=by
 intro A
 induction A with
 |nil=>intro B D h;cases B<;>cases h
 |cons a A ih=>
  intro B D h h';cases B with
  |nil=>cases h
  |cons b B=>
   cases D with
   |nil=>cases h'
   |cons d D=>
    unfold mH at h h' ⊢;by_cases e:a=b
    .subst e;rw[if_pos (I6 a)] at h;by_cases e':a=d
     .subst e';rw[if_pos (I6 a)] at h' ⊢;exact ih h h'
     have e1:¬leq a d=true:=fun x=>e' ((I5 _ _).1 x);rw[if_neg e1] at h' ⊢;exact h'
    have e1:¬leq a b=true:=fun x=>e ((I5 _ _).1 x);rw[if_neg e1] at h;by_cases e':b=d
    .subst e';rw[if_neg e1];exact h
    have e2:¬leq b d=true:=fun x=>e' ((I5 _ _).1 x);rw[if_neg e2] at h';have e3:¬leq a d=true:=fun x=>by have:=(I5 _ _).1 x;subst this;rw[amZ h] at h';cases h'
    rw[if_neg e3];exact am0 h h'
def eU(l:List Let)(i:Nat):List Let:=l.drop i++l.take i
def par(l:List Let)(i:Nat):Prop:=aw Let.aE (l.take i)%2=0
def HX(l:List Let)(i:Nat):Prop:=(∃x,l[i]?=some x/\x.aE=true)/\par l i
theorem EN(l:List Let)(i:Nat):(eU l i).length=l.length:=by unfold eU;rw[gh,kO,iu];omega
theorem yA(q:Let->Bool)(a b:List Let):aw q (a++b)=aw q a+aw q b:=vF
theorem KH(q:Let->Bool)(l:List Let)(i:Nat):aw q (eU l i)=aw q l:=by unfold eU;rw[yA,Nat.add_comm,<- yA,mX]
theorem apF{l:List Let}{i:Nat}(hj:j<=l.length)(hi:i<l.length):∃k,k<l.length/\eU (eU l j) i=eU l k/\(eU l j)[i]?=l[k]? /\(aw Let.aE l%2=0->par l j->par (eU l j) i->par l k):=by
 by_cases h:i<l.length-j
 .refine⟨j+i,aa,?_,?_,?_⟩
  .unfold eU;rw[List.drop_append_of_le_length (by rw[kO];omega),QO (by rw[kO];omega),List.drop_drop,zE];congr 1;rw[<- List.take_add]
  .unfold eU;rw[De (by rw[kO];omega),Bu]
  unfold par eU;intro _ h1 h2;rw[QO (by rw[kO];omega)] at h2;rw[List.take_add,yA];omega
 refine⟨i-(l.length-j),aa,?_,?_,?_⟩
 .unfold eU;obtain⟨d,hd⟩:∃d,d=i-(l.length-j):=⟨_,rfl⟩;rw[<- hd];have e1:(l.drop j++l.take j).drop i=(l.take j).drop d:=by
   rw[List.drop_append,List.drop_of_length_le (by rw[kO];omega),gD,kO,hd]
  have e2:(l.drop j++l.take j).take i=l.drop j++(l.take j).take d:=by rw[List.take_append,gR (by rw[kO];omega),kO,hd]
  rw[e1,e2,<- zE];have e3:(l.take j).take d=l.take d:=by rw[Hg,zH aa]
  rw[e3];congr 1;have e4:l.drop d=(l.take j).drop d++l.drop j:=by
   conv=>lhs;rw[<- mX j l]
   rw[List.drop_append_of_le_length (by rw[iu];omega)]
  exact e4.symm
 .unfold eU;rw[Bt (by rw[kO];omega),kO,mW];rw[if_pos aa]
 unfold par eU;intro ht h1 h2;rw[List.take_append,gR (by rw[kO];omega),kO,yA,Hg,zH aa] at h2;have:aw Let.aE l=aw Let.aE (l.take j)+aw Let.aE (l.drop j):=by rw[<- yA,mX]
 omega
def mU:List Int->List Let->List Let
 |_,[]=>[]
 |s,x::r=>if x.kind==2 then (if s.contains x.id then {x with id:=((s.idxOf x.id+1:Nat):Int)}::mU s r else {x with id:=((s.length+1:Nat):Int)}::mU (s++[x.id]) r) else x::mU s r
def A8(l:List Let):List Let:=mU [] l
def jc(f:Int->Int)(x:Let):Let:=if x.kind==2 then {x with id:=f x.id} else x
theorem Xd(f:Int->Int)(x:Let):(jc f x).kind=x.kind:=by unfold jc;split<;>rfl
theorem NG(f:Int->Int)(x:Let):(jc f x).aE=x.aE:=by unfold Let.aE;rw[Xd]
def inj(f:Int->Int)(l:List Let):Prop:=∀x∈l,∀y∈l,x.kind=2->y.kind=2->f x.id=f y.id->x.id=y.id
def iE:List Int->List Let->List Int
 |s,[]=>s
 |s,x::r=>if x.kind==2 then (if s.contains x.id then iE s r else iE (s++[x.id]) r) else iE s r
theorem aeN:∀(l:List Let) (s:List Int),∃t,iE s l=s++t:=by
 intro l
 induction l with
 |nil=>intro s;exact⟨[],by simp[iE]⟩
 |cons x r ih=>
  intro s;unfold iE;split
  .split
   .exact ih s
   obtain⟨t,h⟩:=ih (s++[x.id]);exact⟨x.id::t,by rw[h];simp⟩
  exact ih s
theorem abx{s t:List Int}{a:Int}(h:a∈s):(s++t).idxOf a=s.idxOf a:=by rw[List.idxOf_append,if_pos h]
theorem apm:∀(l:List Let) (s:List Int),mU s l=l.map (jc fun a=>(((iE s l).idxOf a+1:Nat):Int))/\ ∀x∈l,x.kind=2->x.id∈iE s l:=by
 intro l
 induction l with
 |nil=>intro s;exact⟨rfl,fun x h=>by cases h⟩
 |cons x r ih=>
  intro s;by_cases hk:x.kind=2
  .have sF:(x.kind==2)=true:=by rw[hk];rfl
   cases hc:s.contains x.id with
   |true=>
    have hm:x.id∈s:=List.contains_iff_mem.1 hc;have e:iE s (x::r)=iE s r:=by simp only[iE,sF,hc,if_true]
    obtain⟨h1,h2⟩:=ih s;obtain⟨t,ht⟩:=aeN r s;refine⟨?_,?_⟩
    .have e0:mU s (x::r)={x with id:=((s.idxOf x.id+1:Nat):Int)}::mU s r:=by simp only[mU,sF,hc,if_true]
     rw[e,e0,dS,h1];congr 1;unfold jc;rw[if_pos sF,ht];dsimp only;rw[abx hm]
    rw[e];intro y hy IU;rcases cP.1 hy with rfl|hy
    .rw[ht];exact List.mem_append_left _ hm
    exact h2 y hy IU
   |false=>
    have e:iE s (x::r)=iE (s++[x.id]) r:=by simp only[iE,sF,hc,if_true,dL,if_false]
    obtain⟨h1,h2⟩:=ih (s++[x.id]);obtain⟨t,ht⟩:=aeN r (s++[x.id]);have hn:¬x.id∈s:=fun h=>by rw[List.contains_iff_mem.2 h] at hc;cases hc
    refine⟨?_,?_⟩
    .have e0:mU s (x::r)={x with id:=((s.length+1:Nat):Int)}::mU (s++[x.id]) r:=by simp only[mU,sF,hc,if_true,dL,if_false]
     rw[e,e0,dS,h1];congr 1;unfold jc;rw[if_pos sF,ht];dsimp only;rw[abx af,List.idxOf_append,if_neg hn];simp
    rw[e];intro y hy IU;rcases cP.1 hy with rfl|hy
    .rw[ht];simp
    exact h2 y hy IU
  have sF:(x.kind==2)=false:=beq_eq_false_iff_ne.2 hk;have e:iE s (x::r)=iE s r:=by simp only[iE,sF,dL,if_false]
  obtain⟨h1,h2⟩:=ih s;refine⟨?_,?_⟩
  .have e0:mU s (x::r)=x::mU s r:=by simp only[mU,sF,dL,if_false]
   rw[e,e0,dS,h1];rw[show jc (fun a=>(((iE s r).idxOf a+1:Nat):Int)) x=x from if_neg (by rw[sF];decide)]
  rw[e];intro y hy IU;rcases cP.1 hy with rfl|hy
  .exact absurd IU hk
  exact h2 y hy IU
theorem alI{S:List Int}{a b:Int}(ha:a∈S)(hb:b∈S)(h:S.idxOf a=S.idxOf b):a=b:=by have h1:=List.getElem_idxOf (Nv.2 ha);have h2:=List.getElem_idxOf (Nv.2 hb);rw[<- h1,<- h2];simp only[h]
theorem anm{l:List Let}{i:Nat}:x∈eU l i↔x∈l:=by unfold eU;rw[fg,Or.comm,<- fg,mX]
def B9(l y:List Let):Prop:= ∃i,i<l.length/\HX l i/\y=A8 (eU l i)
def zX(l y:List Let):Prop:=B9 l y\/B9 l.reverse y
theorem aaj{l y:List Let}(hj:j<=l.length)(he:aw Let.aE l%2=0)(hp:par l j)(h:B9 (eU l j) y):B9 l y:=by obtain⟨i,hi,⟨⟨x,hx,xp⟩,h2⟩,rfl⟩:=h;rw[EN] at hi;obtain⟨k,hk,e1,e2,e3⟩:=apF hj hi;rw[e2] at hx;exact⟨k,hk,⟨⟨x,hx,xp⟩,e3 he hp h2⟩,by rw[e1]⟩
theorem apx(l:List Let)(hj:j<=l.length):(eU l j).reverse=eU l.reverse (l.length-j):=by unfold eU;rw[List.reverse_append,List.drop_reverse,List.take_reverse];congr 2<;>(congr 1;omega)
theorem an3{l:List Let}(hj:j<=l.length)(he:aw Let.aE l%2=0)(hp:par l j):par l.reverse (l.length-j):=by
 unfold par at*;rw[List.take_reverse,show l.length-(l.length-j)=j by omega];have h1:aw Let.aE (l.drop j).reverse=aw Let.aE (l.drop j):=List.countP_reverse;have h2:aw Let.aE l=aw Let.aE (l.take j)+aw Let.aE (l.drop j):=by rw[<- yA,mX]
 rw[h1];omega
def vz(x:aQ):aQ:=⟨⟨x.p.l,!x.p.d⟩,iG x.o,iG x.i⟩
theorem aeI(x:aQ):(vz x).up=x.up:=by unfold aQ.up vz;cases x.p.d<;>rfl
theorem aeH(x:aQ):(vz x).lo=x.lo:=by unfold aQ.lo vz;cases x.p.d<;>rfl
theorem X4.rv{g:Bool}{i o j q:dV}(h:X4 g i o j q):X4 g (iG o) (iG i) (iG q) (iG j):=by
 obtain⟨a,b,c,d⟩:=h;cases g
 .simp only[dL,if_false] at a b c d;constructor<;>simp only[dL,if_false,iG]
  .exact b
  .exact a
  .exact d
  exact c
 simp only[if_true] at a b c d;constructor<;>simp only[if_true,iG]
 .exact b
 .exact a
 .exact d
 exact c
theorem Xr.rv{x y:aQ}(h:Xr x y):Xr (vz x) (vz y):=fun hc mc e=>by obtain⟨h1,h2,h3⟩:=h hc mc e;exact⟨h1,h2,h3.rv⟩
theorem aoa:∀ {z:List aQ} {s t:dV},j5 s z t->j5 (iG t) (z.reverse.map vz) (iG s):=by
 intro z
 induction z with
 |nil=>intro s t h;cases h;rfl
 |cons x z ih=>intro s t h;obtain⟨rfl,h⟩:=h;rw[List.reverse_cons,ll];exact M1.2 ⟨iG x.o,ih h,rfl,rfl⟩
theorem an8:∀ {z:List aQ} {s t:dV},j5 s z t->∀x∈z,(∃y∈z,y.i=x.o)\/x.o=t:=by
 intro z
 induction z with
 |nil=>intro s t _ x hx;cases hx
 |cons a z ih=>
  intro s t h x hx;obtain⟨rfl,h⟩:=h;rcases cP.1 hx with rfl|hx
  .cases z with
   |nil=>exact .inr h
   |cons b z=>exact .inl ⟨b,af,h.1⟩
  rcases ih h x hx with ⟨y,hy,e⟩|e
  .exact .inl ⟨y,by simp[hy],e⟩
  exact .inr e
theorem Cz.next{z:List aQ}{T B:Nat->Nat->Nat}{S:List Nat}(c:Cz F z T B S){x:aQ}(hx:x∈z):∃y∈z,y.i=x.o:=by
 obtain⟨s,h⟩:=c.path;rcases an8 h x hx with e|e
 .exact e
 cases z with
 |nil=>cases hx
 |cons a z=>exact⟨a,af,by rw[h.1,e]⟩
theorem CI(z:List aQ):aM (z.reverse.map vz)=(aM z).reverse:=by rw[<- List.map_reverse];show List.map _ (List.map _ _)=_;rw[uM];rfl
theorem vO(q:Let->Bool)(l:List Let):aw q l.reverse=aw q l:=List.countP_reverse
theorem Cz.rv{z:List aQ}{T B:Nat->Nat->Nat}{S:List Nat}(c:Cz F z T B S):Cz F (z.reverse.map vz) T B S:=by
 obtain⟨s,h⟩:=c.path;have hm:∀x∈z.reverse.map vz,∃y∈z,x=vz y:=fun x hx=>by obtain⟨y,hy,rfl⟩:=dQ.1 hx;exact⟨y,List.mem_reverse.1 hy,rfl⟩
 have ec:∀g,cg (aM (z.reverse.map vz)) g=cg (aM z) g:=fun g=>by rw[CI];exact vO _ _
 refine⟨⟨_,aoa h⟩,fun x hx=>?_,?_,by rw[CI,vO];exact c.ev,fun x hx hc=>?_,?_,fun x hx hp=>?_,fun x hx hp=>?_,fun g hg=>by rw[ec];exact c.gt g hg,by rw[ec];exact c.gz,?_,c.nd,fun s hs=>?_,by rw[CI,vO,vO];exact c.num⟩
 .obtain⟨y,hy,rfl⟩:=hm x hx;obtain⟨o1,o2,o3⟩:=c.ok y hy;refine⟨o1,fun hc=>(o2 hc).symm,fun hp=>?_⟩;obtain⟨p1,p2⟩:=o3 hp;refine⟨p2,?_⟩;show y.o.b= !(!y.p.d);rw[p1,Bool.not_not]
 .refine yh.2 (List.pairwise_reverse.2 (c.cr.imp fun {a b} iQ=>iQ.symm.rv))
 .obtain⟨y,hy,rfl⟩:=hm x hx;rw[CI,vO];exact c.ids y hy hc
 .refine yh.2 (List.pairwise_reverse.2 (c.rk.imp fun {a b} iQ=>iQ.symm))
 .obtain⟨y,hy,rfl⟩:=hm x hx;rw[ec];exact c.rr y hy hp
 .obtain⟨y,hy,rfl⟩:=hm x hx;obtain⟨a,b,d,e⟩:=c.pl y hy hp;exact⟨by rw[aeI];exact a,by rw[aeI];exact b,by rw[aeH];exact d,by rw[aeH];exact e⟩
 .obtain⟨x,hx,hp⟩:=c.one;exact⟨vz x,dQ.2 ⟨x,List.mem_reverse.2 hx,rfl⟩,hp⟩
 obtain⟨x,hx,e⟩:=c.wit s hs;obtain⟨y,hy,e2⟩:=c.next hx;refine⟨vz y,dQ.2 ⟨y,List.mem_reverse.2 hy,rfl⟩,?_⟩;show s=y.i.r\/s=y.i.l;rw[e2];exact e.symm
def lN(f:Int->Int)(x:aQ):aQ:=⟨⟨jc f x.p.l,x.p.d⟩,x.i,x.o⟩
theorem Kn(f:Int->Int)(x:Let):(jc f x).gate=x.gate:=by unfold jc;split<;>rfl
theorem NH(f:Int->Int)(x:Let):(jc f x).aD=x.aD:=by unfold jc;split<;>rfl
theorem Q9(f:Int->Int)(x:Let):(jc f x).sign=x.sign:=by unfold jc;split<;>rfl
theorem Q8(f:Int->Int)(x:Let):(jc f x).over=x.over:=by unfold jc;split<;>rfl
theorem Q7(f:Int->Int)(x:Let):(jc f x).aB=x.aB:=by unfold Let.aB;rw[Xd]
theorem Q6{f:Int->Int}(h:x.aB=true):(jc f x).id=f x.id:=by unfold jc;rw[if_pos (show(x.kind==2)=true from h)]
theorem agu{f:Int->Int}(h:x.aB=false):jc f x=x:=by unfold jc;exact if_neg (by rw[show(x.kind==2)=false from h];decide)
theorem ag8{f:Int->Int}(h:dz F x=false):dz F (jc f x)=false:=by
 cases hc:x.aB
 .rw[agu hc];exact h
 have:jc f x={x with id:=f x.id}:=if_pos hc;rw[this];rcases yz h with hp|_
 .rw[pI hp] at hc;cases hc
 unfold dz at h ⊢;unfold Let.aB at hc;have hk:x.kind=2:=beq_iff_eq.1 hc
 simpa [hk] using h
theorem MG(f:Int->Int)(z:List aQ):aM (z.map (lN f))=(aM z).map (jc f):=by show List.map _ (List.map _ _)=List.map _ (List.map _ _);rw[uM,uM];rfl
theorem NR{f:Int->Int}{q:Let->Bool}(hq:∀x,q (jc f x)=q x)(l:List Let):aw q (l.map (jc f))=aw q l:=by show List.countP _ _=List.countP _ _;rw[Dc];exact List.countP_congr fun x _=>by rw[Function.comp_apply,hq]
theorem ahK(f:Int->Int)(l:List Let)(g:Nat):cg (l.map (jc f)) g=cg l g:=NR (fun x=>by unfold nL;rw[NG,Kn]) l
theorem Cz.rn{z:List aQ}{T B:Nat->Nat->Nat}{S:List Nat}(c:Cz F z T B S){f:Int->Int}(hf:inj f (aM z))(hi:∀x∈z,x.k.aB=true->1<=f x.k.id/\f x.k.id<=((aw Let.aB (aM z)/2:Nat):Int)):Cz F (z.map (lN f)) T B S:=by
 obtain⟨s,h⟩:=c.path;have hm:∀x∈z.map (lN f),∃y∈z,x=lN f y:=fun x hx=>by obtain⟨y,hy,rfl⟩:=dQ.1 hx;exact⟨y,hy,rfl⟩
 have ec:∀g,cg (aM (z.map (lN f))) g=cg (aM z) g:=fun g=>by rw[MG,ahK]
 have eC:aw Let.aB (aM (z.map (lN f)))=aw Let.aB (aM z):=by rw[MG];exact NR (Q7 f) _
 have eP:aw Let.aE (aM (z.map (lN f)))=aw Let.aE (aM z):=by rw[MG];exact NR (NG f) _
 have kC:∀y:aQ,(lN f y).k.aB=y.k.aB:=fun y=>Q7 f y.k;have kP:∀y:aQ,(lN f y).k.aE=y.k.aE:=fun y=>NG f y.k;have kl:∀y∈z,y.k∈aM z:=fun y hy=>dQ.2 ⟨y,hy,rfl⟩;have US:∀ {z:List aQ} {s t:dV},j5 s z t->j5 s (z.map (lN f)) t:=by
  intro z
  induction z with
  |nil=>intro s t h;exact h
  |cons x z ih=>intro s t h;exact⟨h.1,ih h.2⟩
 refine⟨⟨s,US h⟩,fun x hx=>?_,?_,by rw[eC];exact c.ev,fun x hx hc=>?_,?_,fun x hx hp=>?_,fun x hx hp=>?_,fun g hg=>by rw[ec];exact c.gt g hg,by rw[ec];exact c.gz,?_,c.nd,fun s hs=>?_,by rw[eP,eC];exact c.num⟩
 .obtain⟨y,hy,rfl⟩:=hm x hx;obtain⟨o1,o2,o3⟩:=c.ok y hy;exact⟨ag8 o1,fun hc=>o2 (by rw[kC] at hc;exact hc),fun hp=>o3 (by rw[kP] at hp;exact hp)⟩
 .refine yh.2 (List.Pairwise.imp_of_mem (fun {a b} ha hb iQ=>?_) c.cr);intro ac bc e;rw[kC] at ac bc;have e2:f a.k.id=f b.k.id:=by
   have:=e;rw[show(lN f a).k.id=f a.k.id from Q6 ac,show(lN f b).k.id=f b.k.id from Q6 bc] at this;exact this
  obtain⟨h1,h2,h3⟩:=iQ ac bc (hf _ (kl a ha) _ (kl b hb) (beq_iff_eq.1 ac) (beq_iff_eq.1 bc) e2);refine⟨?_,?_,?_⟩
  .show(jc f a.k).over= !(jc f b.k).over;rw[Q8,Q8];exact h1
  .show(jc f a.k).sign=(jc f b.k).sign;rw[Q9,Q9];exact h2
  show X4 (gX (jc f a.k)) _ _ _ _;have:gX (jc f a.k)=gX a.k:=by unfold gX;rw[Q8,Q9]
  rw[this];exact h3
 .obtain⟨y,hy,rfl⟩:=hm x hx;rw[kC] at hc;rw[eC,show(lN f y).k.id=f y.k.id from Q6 hc];exact hi y hy hc
 .refine yh.2 (c.rk.imp fun {a b} iQ=>?_);intro ap bp e1 e2;rw[kP] at ap bp;refine iQ ap bp ?_ ?_
  .have:=e1;rw[show(lN f a).k.gate=a.k.gate from Kn f a.k,show(lN f b).k.gate=b.k.gate from Kn f b.k] at this;exact this
  have:=e2;rw[show(lN f a).k.aD=a.k.aD from NH f a.k,show(lN f b).k.aD=b.k.aD from NH f b.k] at this;exact this
 .obtain⟨y,hy,rfl⟩:=hm x hx;rw[kP] at hp;rw[ec,show(lN f y).k.aD=y.k.aD from NH f y.k,show(lN f y).k.gate=y.k.gate from Kn f y.k];exact c.rr y hy hp
 .obtain⟨y,hy,rfl⟩:=hm x hx;rw[kP] at hp;obtain⟨a,b,d,e⟩:=c.pl y hy hp;have u:(lN f y).up=y.up:=rfl;have w:(lN f y).lo=y.lo:=rfl;have eg:(lN f y).k.gate=y.k.gate:=Kn f y.k;have er:(lN f y).k.aD=y.k.aD:=NH f y.k;exact⟨by rw[u,eg,er];exact a,by rw[u,eg,er];exact b,by rw[w,eg,er];exact d,by rw[w,eg,er];exact e⟩
 .obtain⟨x,hx,hp⟩:=c.one;exact⟨lN f x,dQ.2 ⟨x,hx,rfl⟩,by rw[kP];exact hp⟩
 obtain⟨x,hx,e⟩:=c.wit s hs;exact⟨lN f x,dQ.2 ⟨x,hx,rfl⟩,e⟩
theorem aeM:∀(l:List Let) (s:List Int),s.Nodup->(iE s l).Nodup/\ ∀a∈iE s l,a∈s\/ ∃x∈l,x.aB=true/\x.id=a:=by
 intro l
 induction l with
 |nil=>intro s h;exact⟨h,fun a ha=>.inl ha⟩
 |cons x r ih=>
  intro s h;unfold iE;split
  .rename_i hk;split
   .obtain⟨h1,h2⟩:=ih s h;refine⟨h1,fun a ha=>?_⟩;rcases h2 a ha with h3|⟨y,hy,h3⟩
    .exact .inl h3
    exact .inr ⟨y,by simp[hy],h3⟩
   rename_i hc;have hn:¬x.id∈s:=fun h=>hc (List.contains_iff_mem.2 h);obtain⟨h1,h2⟩:=ih (s++[x.id]) (by rw[Hf];refine⟨h,af,fun a ha b hb e=>?_⟩;rw[pO.1 hb] at e;exact hn (e▸ha))
   refine⟨h1,fun a ha=>?_⟩;rcases h2 a ha with h3|⟨y,hy,h3⟩
   .rcases fg.1 h3 with h3|h3
    .exact .inl h3
    exact .inr ⟨x,af,hk,(pO.1 h3).symm⟩
   exact .inr ⟨y,by simp[hy],h3⟩
  obtain⟨h1,h2⟩:=ih s h;refine⟨h1,fun a ha=>?_⟩;rcases h2 a ha with h3|⟨y,hy,h3⟩
  .exact .inl h3
  exact .inr ⟨y,by simp[hy],h3⟩
theorem apn(l:List Let)(hi:∀x∈l,x.aB=true->1<=x.id/\x.id<=((aw Let.aB l/2:Nat):Int)):∃f,inj f l/\A8 l=l.map (jc f)/\ ∀x∈l,x.aB=true->1<=f x.id/\f x.id<=((aw Let.aB l/2:Nat):Int):=by
 obtain⟨h1,h2⟩:=apm l [];refine⟨_,?_,h1,?_⟩
 .intro x hx y hy xk yk h;dsimp only at h;exact alI (h2 x hx xk) (h2 y hy yk) aa
 intro x hx hc;have hm:=h2 x hx (beq_iff_eq.1 hc);have ay:=Nv.2 hm;obtain⟨n1,n2⟩:=aeM l [] wS;have hr:∀a∈iE [] l,1<=a/\a<=((aw Let.aB l/2:Nat):Int):=fun a ha=>by
  rcases n2 a ha with h3|⟨y,hy,yc,rfl⟩
  .cases h3
  exact hi y hy yc
 have:=JG ((iE [] l).map Int.toNat) (List.range' 1 (aw Let.aB l/2)) ?_ ?_
 .rw[cM,List.length_range'] at this;omega
 .refine yh.2 (List.Pairwise.imp_of_mem (fun {a b} ha hb h e=>h ?_) n1);have:=hr a ha;have:=hr b hb;omega
 intro x hx;obtain⟨id,hid,rfl⟩:=dQ.1 hx;have:=hr id hid;rw[List.mem_range'_1];omega
theorem Cz.aew{z:List aQ}{T B:Nat->Nat->Nat}{S:List Nat}(c:Cz F z T B S)(i:Nat):Cz F (z.drop i++z.take i) T B S:=by rw[<- mX i z] at c;exact c.kL
theorem aak{z:List aQ}{T B:Nat->Nat->Nat}{S:List Nat}(c:Cz F z T B S)(h0:∀x,z[0]?=some x->x.i.b=false)(hl:z.length<=400)(fv:aw Let.aB (aM z)<=200)(hF:F<=40){y:List Let}(h:B9 (aM z) y):cU F y=0:=by
 obtain⟨i,hi,⟨⟨x,hx,hp⟩,As⟩,rfl⟩:=h;obtain⟨e,he,rfl⟩:=AW hx;have hd:e.p.d=true:=by
  obtain⟨s,hs⟩:=c.path;have hlen:0<z.length:=by have:=(aW.1 he).1;omega
  obtain⟨a,ha⟩:∃a,z[0]?=some a:=⟨z[0],s0 hlen⟩;have hb:s.b=false:=by rw[<- Jn hs ha];exact h0 a ha
  have:=(PN c.ok hs hb i e he).1;have hm:=aU he;have h2:=((c.ok e hm).pb hp).2;rw[this] at h2;have h3:dn (aM z) i=true:=by
   unfold dn;have:aw Let.aE ((aM z).take i)%2=0:=As
   simpa using this
  rw[h3] at h2;cases hq:e.p.d
  .rw[hq] at h2;cases h2
  rfl
 have c2:=c.aew i;have e1:aM (z.drop i++z.take i)=eU (aM z) i:=by unfold eU aM;rw[ll,List.map_drop,List.map_take]
 have ec:aw Let.aB (eU (aM z) i)=aw Let.aB (aM z):=KH _ _ _;obtain⟨f,hf,hr,lW⟩:=apn (eU (aM z) i) (fun x hx hc=>by rw[ec];obtain⟨w,hw,rfl⟩:=dQ.1 (anm.1 hx);exact c.ids w hw hc)
 rw[hr];rw[<- e1] at hf lW;have c3:=c2.rn hf (fun x hx hc=>lW _ (dQ.2 ⟨x,hx,rfl⟩) hc);have v7:z.drop i=e::z.drop (i+1):=by obtain⟨hl,e⟩:=aW.1 he;rw[<- e,r5]
 rw[<- e1,<- MG];refine c3.check (x:=lN f e) (r:=(z.drop (i+1)++z.take i).map (lN f)) (by rw[v7];rfl) ?_ hd ?_ ?_ hF
 .show(jc f e.k).aE=true;rw[NG];exact hp
 .rw[cM,gh,kO,iu];omega
 rw[MG,NR (Q7 f),e1,ec];exact fv
theorem amC(a b:Let):aI S 90 [I7 a,I7 b] (rb (pE a b)):=by
 by_cases h1:a.kind=b.kind
 .by_cases h2:a.gate=b.gate
  .by_cases h3:a.aD=b.aD
   .by_cases h4:a.id=b.id
    .cases h5:(a.over==b.over) with
     |true=>
      have e:pE a b=decide (a.sign<b.sign):=by simp only[pE,h1,h2,h3,h4,h5,beq_self_eq_true,if_true]
      rw[e];refine aZ c90 ?_;simp only[go_sem,i90,h1,h2,h3,h4,h5,bne]
     |false=>
      have e:pE a b=b.over:=by simp only[pE,h1,h2,h3,h4,h5,beq_self_eq_true,if_true,dL,if_false]
      rw[e];refine aZ c90 ?_;simp only[go_sem,i90,h1,h2,h3,h4,h5,bne]
    have uZ:(a.id==b.id)=false:=by simp[h4]
    have e:pE a b=decide (a.id<b.id):=by simp only[pE,h1,h2,h3,uZ,beq_self_eq_true,if_true,dL,if_false]
    rw[e];refine aZ c90 ?_;simp only[go_sem,i90,h1,h2,h3,uZ,bne]
   have qH:(a.aD==b.aD)=false:=by simp[h3]
   have e:pE a b=decide (a.aD<b.aD):=by simp only[pE,h1,h2,qH,beq_self_eq_true,if_true,dL,if_false]
   rw[e];refine aZ c90 ?_;simp only[go_sem,i90,h1,h2,qH,bne]
  have gH:(a.gate==b.gate)=false:=by simp[h2]
  have e:pE a b=decide (a.gate<b.gate):=by simp only[pE,h1,gH,beq_self_eq_true,if_true,dL,if_false]
  rw[e];refine aZ c90 ?_;simp only[go_sem,i90,h1,gH,bne]
 have jO:(a.kind==b.kind)=false:=by simp[h1]
 have e:pE a b=decide (a.kind<b.kind):=by simp only[pE,jO,dL,if_false]
 rw[e];refine aZ c90 ?_;simp only[go_sem,i90,jO,bne]
theorem Yx{A:List Let}{k:Nat}(h:k<A.length):A.drop k=lA A k::A.drop (k+1):=by have:=AN h;obtain⟨h1,e⟩:=aW.1 this;rw[<- e,r5]
theorem ahd(A B:List Let)(hAB:A.length=B.length)(hl:A.length<=1000000):aI S 73 [.one (.p (cF A)),.one (.p (cF B))] (rb (mH A B)):=by
 generalize hr:mH A B=r;refine aZ c73 ?_;simp only[go_sem,i73];refine cV (fun k ak aj=>ak 0=.one (.p (cF A))/\ak 1=.one (.p (cF B))/\ak 7=vi A.length/\ak 8=vi k/\mH (A.drop k) (B.drop k)=r) 0 A.length (bG _) ?_ ?_
 .simp only[go_sem];first|exact hr|exact⟨rfl,hr⟩
 rintro k ak aj hk ⟨h0,h1,h7,h8,hn⟩
 by_cases ay:k<A.length
 .have hx:=AN ay;have hy:=AN (ls:=B) (i:=k) aa;have jG:=iI hx;have My:=iI hy;have aJ:(k:Int)<(A.length:Int):=aa;have w1:=cn (n:=k) aa;have hlB:k<B.length:=aa;rw[Yx ay,Yx hlB] at hn;unfold mH at hn;cases he:leq (lA A k) (lA B k) with
  |true=>rw[if_pos he] at hn;simp only[go_sem,i73_l1,h0,h1,h7,h8,jG,My,Let.ps,aJ,ay,w1,Sj,he];exact⟨aG,hn⟩
  |false=>rw[if_neg (by rw[he];decide)] at hn;have pl:=amC (lA A k) (lA B k);rw[hn] at pl;simp only[go_sem,i73_l1,h0,h1,h7,h8,jG,My,Let.ps,aJ,Sj,he,s90,nk pl];first|exact⟨aG,aG,rfl⟩|exact⟨aG,aG⟩
 have:k=A.length:=aa;subst this;rw[Ka,List.drop_of_length_le aa] at hn;have hn:false=r:=hn;subst hn;simp only[go_sem,i73_l1,i73_r2,h7,h8,eE]
theorem aeO(l:List Let)(x:Let):∀s,iE s (l++[x])=if x.kind==2 then (if (iE s l).contains x.id then iE s l else iE s l++[x.id]) else iE s l:=by
 induction l with
 |nil=>intro s;rfl
 |cons a r ih=>
  intro s;rw[yf]
  conv=>lhs;unfold iE
  conv=>rhs;unfold iE
  split
  .split<;>exact ih _
  exact ih _
def Jg(s:List Int)(x:Let):Let:=if x.kind==2 then (if s.contains x.id then {x with id:=((s.idxOf x.id+1:Nat):Int)} else {x with id:=((s.length+1:Nat):Int)}) else x
theorem aes(l:List Let)(x:Let):∀s,mU s (l++[x])=mU s l++[Jg (iE s l) x]:=by
 induction l with
 |nil=>
  intro s;show mU s [x]=[Jg s x];unfold mU Jg;split
  .split<;>rfl
  rfl
 |cons a r ih=>
  intro s;rw[yf]
  conv=>lhs;unfold mU
  conv=>rhs;unfold mU iE
  split
  .split<;>(rw[ih];rfl)
  rw[ih];rfl
theorem M7:∀(l:List Let) (s:List Int),(mU s l).length=l.length:=by
 intro l
 induction l with
 |nil=>intro s;rfl
 |cons a r ih=>
  intro s;unfold mU;split
  .split<;>simp[ih]
  simp[ih]
theorem Qc(l:List Let):(A8 l).length=l.length:=M7 l []
def xS(s:List Int)(i:Nat):List (Int×Int):=match s with
 |[]=>[]
 |a::r=>(a,((i+1:Nat):Int))::xS r (i+1)
theorem ans:∀(s:List Int) (i:Nat),(xS s i).length=s.length:=by
 intro s
 induction s with
 |nil=>intro i;rfl
 |cons a r ih=>intro i;show(xS r (i+1)).length+1=_;rw[ih];rfl
theorem anr(a:Int):∀(s:List Int) (i:Nat),xS s i++[(a,((i+s.length+1:Nat):Int))]=xS (s++[a]) i:=by
 intro s
 induction s with
 |nil=>intro i;rfl
 |cons b r ih=>intro i;show(b,((i+1:Nat):Int))::(xS r (i+1)++_)=(b,((i+1:Nat):Int))::xS (r++[a]) (i+1);rw[<- ih (i+1),dh,show i+1+r.length+1=i+(r.length+1)+1 by omega]
theorem Z0(x:Int):∀(s:List Int) (i:Nat),La (xS s i) x i=if s.contains x then some (i+s.idxOf x,((i+s.idxOf x+1:Nat):Int)) else none:=by
 intro s
 induction s with
 |nil=>intro i;rfl
 |cons a r ih=>
  intro i;show(if x==a then some (i,((i+1:Nat):Int)) else La (xS r (i+1)) x (i+1))=_;by_cases h:x=a
  .subst h;simp
  have h1:(x==a)=false:=beq_eq_false_iff_ne.2 h;have h2:(a==x)=false:=beq_eq_false_iff_ne.2 (Ne.symm h);rw[h1,ih (i+1),List.contains_cons,h1,Da,List.idxOf_cons,h2];simp only[dL,if_false,cond_false];split
  .congr 2
   .omega
   congr 1;omega
  rfl
def rD(L:List Let)(k:Nat):List Let:=mU [] (L.take k)++L.drop k
theorem akI(L:List Let){k:Nat}:(rD L k).length=L.length:=by unfold rD;rw[gh,M7,iu,kO];omega
theorem GQ{L:List Let}{k:Nat}(h:L[k]?=some x):L.take (k+1)=L.take k++[x]:=by obtain⟨hl,e⟩:=aW.1 h;rw[<- e,List.take_append_getElem]
theorem akH{L:List Let}{k:Nat}(h:L[k]?=some x):(rD L k)[k]?=some x:=by have hl:=(aW.1 h).1;unfold rD;rw[Bt (by rw[M7,iu];omega),M7,iu,Bu,zH aa,Nat.sub_self,yl,h]
theorem akK{L:List Let}{k:Nat}(h:L[k]?=some x):(rD L k).set k (Jg (iE [] (L.take k)) x)=rD L (k+1):=by
 obtain⟨hl,e⟩:=aW.1 h;have hd:L.drop k=x::L.drop (k+1):=by rw[<- e,r5]
 have hlen:(mU [] (L.take k)).length=k:=by rw[M7,iu];omega
 unfold rD;rw[GQ h,aes,hd,List.set_append_right _ _ aa,hlen,Nat.sub_self,List.set_cons_zero,zE];rfl
theorem akJ{L:List Let}{k:Nat}(h:L[k]?=some x)(hx:(x.kind==2)=false):rD L (k+1)=rD L k/\iE [] (L.take (k+1))=iE [] (L.take k):=by
 obtain⟨hl,e⟩:=aW.1 h;have hd:L.drop k=x::L.drop (k+1):=by rw[<- e,r5]
 refine⟨?_,?_⟩
 .unfold rD;rw[GQ h,aes,hd];unfold Jg;rw[hx];simp
 rw[GQ h,aeO,hx];rfl
theorem apo(L:List Let)(aH:L≠[])(hl:L.length<=1000000):aI S 72 [.one (.p (cF L))] (.one (aT jI 6 (dw (A8 L)))):=by
 have pcl:=XT aH hl;have lo:S.lone 4608128064=false:=ah;refine aZ c72 ?_;simp only[go_sem,i72,s44];refine rB pcl lo (.inl rfl) fun cc nN gc nU=>?_;have b0:=nU 4608064000 ae;rcases gc with ⟨e,_⟩|⟨_,gg,e,hC⟩
 .exact absurd (by simpa using e) aH
 cases e;rw[cM];simp only[go_sem] at b0;simp only[go_sem];refine cV (fun k ak aj=>ak 3=.one (.j8 4608064000 1)/\ak 4=.one (.hsl 4608128064 gg 6 0 L.length)/\ak 10=.one (.hsl 4608128064 gg 6 0 L.length)/\ak 11=vi L.length/\ak 12=vi k/\
  aj 4608064000=(1,some (.map false (ML (xS (iE [] (L.take k)) 0))))/\aj 4608128064=(gg,some (.arr jI 6 (dw (rD L k))))) 0 L.length (bG _) ?_ ?_
 .simp only[go_sem,b0];exact⟨rfl,rfl,hC⟩
 rintro k ak aj hk ⟨h3,h4,eQ,fK,jD,bM,bX⟩
 by_cases ay:k<L.length
 .have aJ:((k:Int)<(L.length:Int)):=aa;obtain⟨x,hxL⟩:=aL ay;have hx:=akH hxL;have UI:k<(rD L k).length:=by rw[akI];exact ay
  have jG:=iI hx;have lK:=GQ hxL;obtain⟨n1,_⟩:=aeM (L.take k) [] wS;have hsl:∀(l:List Let) (s:List Int),(iE s l).length<=s.length+l.length:=by
   intro l
   induction l with
   |nil=>intro s;exact bN _
   |cons a r ih=>
    intro s;unfold iE;split
    .split
     .have:=ih s;simp only[dh];omega
     have:=ih (s++[a.id]);simp only[gh,dh,ff] at this ⊢;omega
    have:=ih s;simp only[dh];omega
  have hsk:=hsl (L.take k) [];rw[iu] at hsk;simp only[ff] at hsk;have w1:=cn (n:=k) aa;cases jt:(x.kind==2) with
  |false=>obtain⟨e1,e2⟩:=akJ hxL jt;rw[<- e1] at bX jG UI;rw[<- e2] at bM;simp only[go_sem,i72_l1,h3,h4,eQ,fK,jD,bM,bX,ay,aJ,jG,Let.ps,jt,bne,w1]
  |true=>
   have ia:=akK hxL;have Ep:=aeO (L.take k) x [];rw[<- lK,jt,if_pos rfl] at Ep;unfold Jg at ia;rw[jt,if_pos rfl] at ia;generalize iE [] (L.take k)=s at ia Ep bM hsk;have w2:=cn (n:=s.length) aa;have fk:=Z7 (xS s 0) x.id 0;rw[Z0] at fk;have oZ:=ans s 0;cases hc:s.contains x.id with
   |false=>
    rw[hc] at ia Ep fk;simp only[dL,if_false,Option.map_none] at ia Ep fk;have f2:=Z7 (xS (s++[x.id]) 0) x.id 0;rw[Z0,show(s++[x.id]).contains x.id=true by simp] at f2;have F2:(s++[x.id]).idxOf x.id=s.length:=by rw[List.idxOf_append,if_neg (fun h=>by rw[List.contains_iff_mem.2 h] at hc;cases hc)];simp
    rw[F2] at f2;simp only[if_true,ng,kU] at f2;have oU:=anr x.id s 0;rw[kU] at oU;rw[<- oU,<- ade] at f2;have U0:(dw (rD L k)).set k [.int .i64 x.kind,.int .i64 x.gate,.int .i64 x.aD,.int .i64 ((s.length+1:Nat):Int),.int .i64 x.sign,.bool x.over]=dw (rD L (k+1)):=by rw[<- ia,<- acM];rfl
    simp only[go_sem,i72_l1,h3,h4,eQ,fK,jD,bM,bX,ay,aJ,jG,Let.ps,jt,bne,w1,w2,oZ,mapOf,mapVal,iC,zj,w8,fk,Option.map_none,f2,U0];rw[Ep,<- oU,<- ade]
   |true=>
    rw[hc] at ia Ep fk;simp only[if_true,ng,kU] at ia Ep fk;have hv:((((s.idxOf x.id+1:Nat):Int))==0)=false:=by rw[beq_eq_false_iff_ne];omega
    have U0:(dw (rD L k)).set k [.int .i64 x.kind,.int .i64 x.gate,.int .i64 x.aD,.int .i64 ((s.idxOf x.id+1:Nat):Int),.int .i64 x.sign,.bool x.over]=dw (rD L (k+1)):=by rw[<- ia,<- acM];rfl
    simp only[go_sem,i72_l1,h3,h4,eQ,fK,jD,bM,bX,ay,aJ,jG,Let.ps,jt,bne,w1,mapOf,mapVal,iC,fk,hv,U0];rw[Ep]
 have:k=L.length:=aa;subst this;have hX:rD L L.length=A8 L:=by unfold rD A8;rw[kS,Ka,kN]
 rw[hX] at bX;have hlr:=Qc L;simp only[go_sem,i72_l1,i72_r2,h4,fK,jD,eE];refine yN (.inr ⟨?_,gg,by rw[cM,hlr],bX⟩);intro h2;have:=congrArg List.length h2;rw[cM,hlr] at this;exact aH (E0.1 this)
def Hz(ls:List Let)(i:Nat):Bool:=((lA ls.reverse i).kind==1)&& !((iO ls).getD (ls.length-1-i) false)
def ni(ls:List Let):List Let:=match (List.range ls.length).find? (Hz ls) with
 |some i=>eU ls.reverse i
 |none=>ls.reverse
theorem Hx(ls:List Let):(ni ls).length=ls.length:=by
 unfold ni;split
 .rw[EN,qW]
 rw[qW]
theorem Xw(aH:ls≠[])(hl:ls.length<=1000000):aI S 22 [.one (.p (lD F ls))] (.one (aT jI 6 (dw (ni ls)))):=by
 have pcl:=XT aH hl;have lo:S.lone 1408064320=false:=ah;have vn:S.lone 1408512128=false:=ah;have pY:=Hx ls;generalize hR:ni ls=R at pY;refine aZ c22 ?_;simp only[go_sem,i22,s44];refine rB pcl lo (.inl rfl) fun cc nN gc nU=>?_;simp only[go_sem,s45];refine aj0 (f:=45) (es:=dw ls) (id:=1408064320) (ty:=jI) (z:=6) (fun o h=>apv o (by simp;omega) (amJ _) h) (gc.of_eq rfl) fun blkr gr hbr=>?_;rw[amI] at gr;rcases gr with ⟨e,_⟩|⟨_,gg,e,hC⟩
 .have:=congrArg List.length e;rw[cM,qW] at this;exact absurd (E0.1 this) aH
 cases e;rw[cM,qW];simp only[go_sem];have Lr:ls.reverse.length=ls.length:=qW;have uE:IntKind.i64.wrap ((ls.length:Int)-1)=((ls.length-1:Nat):Int):=by have:=iX.2 aH;rw[vE aa aa];omega
 have hdl:(iO ls).length=ls.length:=by simp[iO]
 unfold ni at hR;have jr:∀i,Hz ls i=(((lA ls.reverse i).kind==1)&& !((iO ls).getD (ls.length-1-i) false)):=fun _=>rfl;generalize Hz ls=bp at hR jr;generalize ls.reverse=X at hC Lr gc hR jr;refine cV (fun k ak aj=>ak 0=.one (.p (lD F ls))/\ak 3=.one (.hsl 1408064320 gg 6 0 ls.length)/\ak 15=vi ls.length/\ak 16=vi k/\aj 1408064320=(gg,some (.arr jI 6 (dw X)))/\ ∀j,j<k->bp j=false) 0 ls.length (bG _) ?_ ?_
 .simp only[go_sem,hC];first|exact⟨rfl,fun j h=>absurd h (qY j)⟩|exact⟨rfl,rfl,fun j h=>absurd h (qY j)⟩
 rintro k ak aj hk ⟨h0,h3,lG,oQ,bX,dD⟩
 by_cases ay:k<ls.length
 .have aJ:((k:Int)<(ls.length:Int)):=aa;have UI:k<X.length:=aa;have jG:=iI (AN UI);have w1:=cn (n:=k) aa;have w2:IntKind.i64.wrap (((ls.length-1:Nat):Int)-(k:Int))=((ls.length-1-k:Nat):Int):=by
   rw[vE aa aa];omega
  obtain⟨d,hd⟩:=aL (ls:=iO ls) (k:=ls.length-1-k) aa;have kY:=sv hd;have hdl':ls.length-1-k<(iO ls).length:=aa;have kz:=jr k;rw[show(iO ls).getD (ls.length-1-k) false=d by rw[dq,hd];rfl] at kz;generalize lA X k=x at jG kz;have akm:ls.length<=X.length:=aa;have hXt:List.take ls.length (dw X)=dw X:=gR (by rw[cM];omega);have pr:=V5 X k aa aa;have nx:bp k=false->∀j,j<k+1->bp j=false:=fun hb j hj=>by
   rcases mY.1 hj with h|rfl
   .exact dD j h
   exact hb
  cases jt:(x.kind==1) with
  |false=>rw[jt,Bool.false_and] at kz;simp only[go_sem,i22_l1,h0,h3,lG,oQ,bX,ay,aJ,jG,Let.ps,jt,uE,w1,w2];exact nx kz
  |true=>
   cases d with
   |true=>rw[jt] at kz;simp only[go_sem,i22_l1,h0,h3,lG,oQ,bX,ay,aJ,jG,Let.ps,jt,uE,w1,w2,kY];exact nx kz
   |false=>rw[jt] at kz;have hf:(List.range ls.length).find? bp=some k:=B0 ay dD kz;rw[hf] at hR;have hR:eU X k=R:=hR;unfold eU at hR;simp only[go_sem,i22_l1,h0,h3,lG,oQ,bX,ay,aJ,jG,Let.ps,jt,uE,w2,kY,akm,hXt,s20];refine rB pr vn (.inr (qA (GM _))) fun cr gT gr3 hJ=>?_;rw[hR] at gr3;simp only[go_sem];exact yN gr3
 have:k=ls.length:=aa;subst this;have hf:(List.range ls.length).find? bp=none:=HZ fun j hj=>dD j hj;rw[hf] at hR;have hR:X=R:=hR;subst hR;simp only[go_sem,i22_l1,i22_r2,h3,lG,oQ,eE];refine yN (.inr ⟨?_,gg,by rw[cM,Lr],bX⟩);intro h2;have:=congrArg List.length h2;rw[cM,Lr] at this;exact aH (E0.1 this)
def HW(l:List Let)(i:Nat):Bool:=((lA l i).kind==1)&&decide (aw Let.aE (l.take i)%2=0)
def qE(l:List Let)(n:Nat):List (List Let):=(List.range n).filterMap fun i=>if HW l i then some (A8 (eU l i)) else none
theorem aji(l:List Let)(n:Nat):qE l (n+1)=qE l n++(if HW l n then [A8 (eU l n)] else []):=by unfold qE;rw[wT,List.filterMap_append];congr 1;cases h:HW l n<;>simp[h]
def rT(z:Option (List Let))(y:List Let):Option (List Let):=match z with
 |none=>some y
 |some z=>if mH y z then some y else some z
def vp(V:List (List Let)):Option (List Let):=V.foldl rT none
theorem anz(V:List (List Let))(y:List Let):vp (V++[y])=rT (vp V) y:=by unfold vp;rw[Kd];rfl
theorem anA{V:List (List Let)}:∀ {o z},V.foldl rT o=some z->z∈V\/o=some z:=by
 induction V with
 |nil=>intro o z h;exact .inr h
 |cons y V ih=>
  intro o z h;rcases ih (o:=rT o y) h with h1|h1
  .exact .inl (by simp[h1])
  cases o with
  |none=>cases h1;exact .inl af
  |some w=>
   unfold rT at h1;simp only at h1;split at h1
   .cases h1;exact .inl af
   exact .inr h1
theorem Vz{V:List (List Let)}{z:List Let}(h:vp V=some z):z∈V:=by
 rcases anA h with h|h
 .exact h
 cases h
def cO:Option (List Let)->PV
 |none=>.nils
 |some Y=>cF Y
def uG(F:Nat)(ls:List Let)(gB:Nat)(bs:List (List PV))(k:Nat)(V:List (List Let))(ak:Env)(aj:aA):Prop:=
 ak 0=.one (.p (lD F ls))/\ak 2=.one (.aY 2944000000 1 0)/\ak 17=.one (.hsl 2944128448 gB 1 0 2)/\ak 18=vi 2/\ak 19=vi k/\ak 3=.one (.p (cO (vp V)))/\
 aj 2944000000=(1,some (.var [.p (.int .i64 0),.p .nils]))/\aj 2944128448=(gB,some (.arr 22 1 bs))
theorem VK(l:List Let){i:Nat}(hx:l[i]?=some x):decide (aw Let.aE (l.take (i+1))%2=0)=if x.kind==1 then !decide (aw Let.aE (l.take i)%2=0) else decide (aw Let.aE (l.take i)%2=0):=by
 rw[GQ hx,yA];have:aw Let.aE [x]=if x.kind==1 then 1 else 0:=by show List.countP _ [x]=_;rw[List.countP_singleton];rfl
 rw[this];generalize aw Let.aE (l.take i)=n;cases (x.kind==1)
 .simp
 simp only[if_true];rw[Bool.eq_iff_iff,pL,decide_eq_true_eq,decide_eq_false_iff_not];omega
theorem adu{F:Nat}{ls l:List Let}{gB k:Nat}{bs:List (List PV)}{V:List (List Let)}{Q:dA}{ak:Env}{aj:aA}(aH:l≠[])(rJ:l.length=ls.length)(hl:ls.length<=1000000)(hV:∀y∈V,y.length=ls.length)(hI:uG F ls gB bs k V ak aj)(h5:ak 5=.one (.p (cF l)))(h6:ak 6=vb true)(pX:ak 23=.one (.p (cF l)))(mh:ak 24=vi ls.length)(mj:ak 25=vi 0)
  (hK:∀aC ao,uG F ls gB bs k (V++qE l ls.length) aC ao->Q .normal aC ao):W S .all (.loop i46_l1) (mI 2 Q) ak aj:=by
 refine cV (fun i ak aj=>uG F ls gB bs k (V++qE l i) ak aj/\ak 5=.one (.p (cF l))/\ak 6=vb (decide (aw Let.aE (l.take i)%2=0))/\ak 23=.one (.p (cF l))/\ak 24=vi ls.length/\ak 25=vi i) 0 ls.length (bG _) ⟨by rw[show qE l 0=[] from rfl,kN];exact hI,h5,h6,pX,mh,mj⟩ ?_;rintro i ak aj hi ⟨⟨h0,h2,jg,gY,iB,h3,b0,bB⟩,h5,h6,pX,mh,mj⟩
 by_cases ay:i<ls.length
 .have aJ:((i:Int)<(ls.length:Int)):=aa;have akV:i<l.length:=aa;have vk:=AN akV;have jG:=iI vk;have xL:=VK l vk;have rF:=aji l i;unfold HW at rF;have oY:∀y∈V++qE l i,y.length=ls.length:=fun y hy=>by
   rcases fg.1 hy with h|h
   .exact hV y h
   obtain⟨j,_,e⟩:=List.mem_filterMap.1 h;split at e
   .cases e;rw[Qc,EN,rJ]
   cases e
  generalize lA l i=x at jG xL rF;generalize decide (aw Let.aE (l.take i)%2=0)=d at xL rF h6;generalize qE l i=W0 at*;have w1:=cn (n:=i) aa;have pr:=V5 l i aa aa;have Lr:(eU l i).length=ls.length:=by rw[EN,rJ]
  rw[show l.drop i++l.take i=eU l i from rfl] at pr;generalize eU l i=R at pr Lr rF;have OF:R≠[]:=iX.1 aa;have pn:=apo R OF aa;have hY:=Qc R;generalize A8 R=Y at pn hY rF;have Uu:Y≠[]:=iX.1 aa;have lY:S.lone 2944704128=true:=Vt ah;have vn:S.lone 2944704192=true:=Vt ah;cases cK:(x.kind==1) with
  |false=>rw[cK] at xL rF;simp only[Bool.false_and,dL,if_false,kN] at xL rF;simp only[go_sem,i46_l1,h5,h6,pX,mh,mj,ay,aJ,jG,Let.ps,cK,bne,w1];simp only[go_sem,uG,rF,xL,h0,h2,h3,jg,gY,iB,b0,bB]
  |true=>
   rw[cK] at xL rF;cases d with
   |false=>simp only[Db,dL,if_false,if_true,kN,Bool.not_false] at xL rF;simp only[go_sem,i46_l1,h5,h6,pX,mh,mj,ay,aJ,jG,Let.ps,cK,bne,w1];simp only[go_sem,uG,rF,xL,h0,h2,h3,jg,gY,iB,b0,bB]
   |true=>
    simp only[Db,if_true,Bq] at xL rF;have mN:vp (V++(W0++[Y]))=rT (vp (V++W0)) Y:=by rw[<- zE,anz]
    cases hz:vp (V++W0) with
    |none=>rw[hz] at mN h3;have mN:vp (V++(W0++[Y]))=some Y:=mN;have h3:ak 3=.one (.p .nils):=h3;simp only[go_sem,i46_l1,h3,h5,h6,pX,mh,mj,ay,aJ,jG,Let.ps,cK,bne,w1,s20,cJ pr (Gt OF lY),s72,cJ pn (Gt Uu vn)];simp only[go_sem,uG,rF,xL,mN,cO,h0,h2,h3,jg,gY,iB,b0,bB]
    |some Z=>
     rw[hz] at mN h3;have hZ:=oY Z (Vz hz);have h3:ak 3=.one (.p (cF Z)):=h3;have pb:=ahd Y Z aa aa;obtain⟨e,es,he⟩:∃e es,dw Z=e::es:=by
      cases Z with
      |nil=>simp at hZ;omega
      |cons z t=>exact⟨_,_,rfl⟩
     have hZe:PV.sl (e::es)=cF Z:=by rw[<- he]
     rw[<- hZe] at pb h3;unfold rT at mN;simp only at mN;cases hb:mH Y Z with
     |false=>rw[hb] at pb mN;simp only[dL,if_false] at mN;simp only[go_sem,i46_l1,h3,h5,h6,pX,mh,mj,ay,aJ,jG,Let.ps,cK,bne,w1,s20,cJ pr (Gt OF lY),s72,cJ pn (Gt Uu vn),s73,cY pb];simp only[go_sem,uG,rF,xL,mN,cO,hZe,h0,h2,h3,jg,gY,iB,b0,bB]
     |true=>rw[hb] at pb mN;simp only[if_true] at mN;simp only[go_sem,i46_l1,h3,h5,h6,pX,mh,mj,ay,aJ,jG,Let.ps,cK,bne,w1,s20,cJ pr (Gt OF lY),s72,cJ pn (Gt Uu vn),s73,cY pb];simp only[go_sem,uG,rF,xL,mN,cO,h0,h2,h3,jg,gY,iB,b0,bB]
 have:i=ls.length:=aa;subst this;simp only[go_sem,i46_l1,mh,mj,eE];refine hK _ _ ?_;simp only[go_sem,uG,h0,h2,h3,jg,gY,iB,b0,bB]
def Fu(ls:List Let):List (List Let):=qE ls ls.length++qE (ni ls) ls.length
def jV(ls:List Let):Option (List Let):=vp (Fu ls)
theorem T9{l:List Let}{n:Nat}{y:List Let}(h:y∈qE l n):y.length=l.length:=by
 obtain⟨j,_,e⟩:=List.mem_filterMap.1 h;split at e
 .cases e;rw[Qc,EN]
 cases e
theorem anI(aH:ls≠[])(hl:ls.length<=1000000):aI S 46 [.one (.p (lD F ls))] (.agg [.p (.int .i64 F),.p (cO (jV ls))]):=by
 have pb:=Xw (F:=F) aH hl;have hB:=Hx ls;generalize hr:jV ls=res;unfold jV Fu at hr;generalize ni ls=B at pb hB hr;have aaL:B≠[]:=by have:=iX.2 aH;exact iX.1 aa
 have lY:S.lone 2944128384=true:=Vt ah;refine aZ c46 ?_;simp only[go_sem,i46,s22,DC pb (Gt aaL lY)];refine⟨aG,?_⟩;refine cV (fun k=>uG F ls 1 [[cF ls],[cF B]] k (if k=0 then [] else if k=1 then qE ls ls.length else qE ls ls.length++qE B ls.length)) 0 2 (bG _) ?_ ?_
 .simp only[go_sem,uG];first|done|exact⟨rfl,rfl⟩|exact⟨rfl,rfl,rfl⟩|exact⟨rfl,rfl,rfl,rfl,rfl,rfl,rfl,rfl⟩|rfl
 intro k ak aj hk hI;obtain⟨h0,h2,jg,gY,iB,h3,b0,bB⟩:=hI;by_cases ay:k<2
 .have UE:k=0\/k=1:=aa;have l02:((0:Nat):Int)<2:=ae;have l12:((1:Nat):Int)<2:=ae;rcases UE with rfl|rfl
  .simp only[go_sem,i46_l3,jg,gY,iB,bB,l02];refine adu (F:=F) (ls:=ls) (l:=ls) (gB:=1) (k:=0) (bs:=[[cF ls],[cF B]]) (V:=[]) aH rfl hl (fun y h=>by cases h) ?_ rfl rfl rfl rfl rfl fun aC ao DP=>?_
   .simp only[go_sem,uG,h0,h2,h3,jg,gY,iB,b0,bB];first|done|rfl
   obtain⟨h0,h2,jg,gY,iB,h3,b0,bB⟩:=DP;rw[gD] at h3;simp only[go_sem,uG,i46_r2,h0,h2,h3,jg,gY,iB,b0,bB];first|done|rfl|exact⟨rfl,rfl⟩
  simp only[go_sem,i46_l3,jg,gY,iB,bB,l12];refine adu (F:=F) (ls:=ls) (l:=B) (gB:=1) (k:=1) (bs:=[[cF ls],[cF B]]) (V:=qE ls ls.length) aaL hB hl (fun y h=>T9 h) ?_ rfl rfl rfl (by rw[<- hB];rfl) rfl fun aC ao DP=>?_
  .simp only[go_sem,uG,h0,h2,h3,jg,gY,iB,b0,bB];first|done|rfl
  obtain⟨h0,h2,jg,gY,iB,h3,b0,bB⟩:=DP;simp only[go_sem,uG,i46_r2,h0,h2,h3,jg,gY,iB,b0,bB];first|done|rfl|exact⟨rfl,rfl⟩
 have:k=2:=aa;subst this;have l22:¬(((2:Nat):Int)<2):=ae;have h3:ak 3=.one (.p (cO res)):=by rw[<- hr];exact h3
 simp only[go_sem,i46_l3,i46_r4,h0,h2,h3,gY,iB,b0,l22];cases res<;>rfl
theorem adE(cq:nQ){f:Int}(hl:ls.length<=1000000)(h0:cU f ls=0):aI S 24 [dX f ls] (.tup [.agg [.p (.int .i64 f),.p (cO (jV ls))],.one (.p (.int .i64 0))]):=by
 have pr:=EM f ls hl;rw[CR h0] at pr;have pn:aI S 46 [.one (.p (if ls=[] then uW f else lD f.toNat ls))] (.agg [.p (.int .i64 f),.p (cO (jV ls))]):=by
  by_cases aH:ls=[]
  .rw[if_pos aH];subst aH;exact anH cq f
  rw[if_neg aH];obtain⟨F,hF,g⟩:=xg h0 aH;subst hF;exact anI (F:=F) aH hl
 have eF:(if ls=[] then uW f else lD f.toNat ls).norm=(if ls=[] then uW f else lD f.toNat ls):=by split<;>simp only[MS]
 generalize (if ls=[] then uW f else lD f.toNat ls)=dg at pr pn eF;generalize cO (jV ls)=c at*;refine aZ c24 ?_;simp only[go_sem,i24,s19,cJ pr fL,s46,cJ pn amh,eF];rfl
theorem am5:∀ {A B:List Int},A.length=B.length->wD A B=false->wD B A=false->A=B:=by
 intro A
 induction A with
 |nil=>intro B h _ _;cases B with
  |nil=>rfl
  |cons _ _=>cases h
 |cons a A ih=>
  intro B h h1 h2;cases B with
  |nil=>cases h
  |cons b B=>
   unfold wD at h1 h2;by_cases e:a=b
   .subst e;rw[if_pos rfl] at h1 h2;rw[ih (by simpa using h) h1 h2]
   rw[if_neg e] at h1;rw[if_neg (Ne.symm e)] at h2;have:=of_decide_eq_false h1;have:=of_decide_eq_false h2;omega
theorem amc{a b:Let}(h:I2 a=I2 b):a=b:=by
 cases a with|mk k g r i s o=>cases b with|mk k' g' r' i' s' o'=>
 unfold I2 at h;simp only[G9,and_true] at h;obtain⟨h1,h2,h3,h4,h5,h6⟩:=h;have:o=o':=by revert h5;cases o<;>cases o'<;>simp
 subst h1 h2 h3 h4 h6 this;rfl
theorem Xz:∀ {A B:List Let},A.length=B.length->mH A B=false->mH B A=false->A=B:=by
 intro A
 induction A with
 |nil=>intro B h _ _;cases B with
  |nil=>rfl
  |cons _ _=>cases h
 |cons a A ih=>
  intro B h h1 h2;cases B with
  |nil=>cases h
  |cons b B=>
   unfold mH at h1 h2;by_cases e:a=b
   .subst e;rw[if_pos (I6 a)] at h1 h2;rw[ih (by simpa using h) h1 h2]
   have e1:¬leq a b=true:=fun x=>e ((I5 _ _).1 x);have e2:¬leq b a=true:=fun x=>e ((I5 _ _).1 x).symm;rw[if_neg e1,Pt] at h1;rw[if_neg e2,Pt] at h2;exact absurd (amc (a:=a) (b:=b) (am5 rfl h1 h2)) e
theorem anB{n:Nat}:∀ {V:List (List Let)} {o z},(∀y∈V,y.length=n)->(∀w,o=some w->w.length=n)->V.foldl rT o=some z->(∀y∈V,mH y z=false)/\(∀w,o=some w->mH w z=false):=by
 intro V
 induction V with
 |nil=>intro o z _ _ h;refine⟨fun y hy=>(by cases hy),fun w hw=>?_⟩;have h:o=some z:=h;rw[h] at hw;cases hw;exact ahb z
 |cons y V ih=>
  intro o z hV ho h;have hy0:=hV y af;have hV':∀u∈V,u.length=n:=fun u hu=>hV u (by simp[hu]);cases o with
  |none=>
   obtain⟨h1,h2⟩:=ih (o:=some y) hV' (fun w hw=>by cases hw;exact hy0) h;refine⟨fun w hw=>?_,fun w hw=>(by cases hw)⟩;rcases cP.1 hw with rfl|hw
   .exact h2 w rfl
   exact h1 w hw
  |some w=>
   have uE:=ho w rfl;have h:V.foldl rT (rT (some w) y)=some z:=h;cases hb:mH y w with
   |true=>
    have e:rT (some w) y=some y:=by unfold rT;simp only[hb,if_true]
    rw[e] at h;obtain⟨h1,h2⟩:=ih (o:=some y) hV' (fun w hw=>by cases hw;exact hy0) h;have hy:=h2 y rfl;refine⟨fun u hu=>?_,fun u hu=>?_⟩
    .rcases cP.1 hu with rfl|hu
     .exact hy
     exact h1 u hu
    cases hu;cases hz:mH w z
    .rfl
    rw[XA hb hz] at hy;cases hy
   |false=>
    have e:rT (some w) y=some w:=by unfold rT;simp only[hb,dL,if_false]
    rw[e] at h;obtain⟨h1,h2⟩:=ih (o:=some w) hV' (fun w hw=>by cases hw;exact uE) h;have hw:=h2 w rfl;refine⟨fun u hu=>?_,fun u hu=>by cases hu;exact hw⟩;rcases cP.1 hu with rfl|hu
    .cases hz:mH u z
     .rfl
     cases hwu:mH w u with
     |true=>rw[XA hwu hz] at hw;cases hw
     |false=>rw[Xz aa hb hwu] at hz;rw[hz] at hw;cases hw
    exact h1 u hu
theorem VA{n:Nat}{V:List (List Let)}{z:List Let}(hV:∀y∈V,y.length=n)(h:vp V=some z):z∈V/\ ∀y∈V,mH y z=false:=
 ⟨Vz h,(anB hV (fun w hw=>by cases hw) h).1⟩
theorem VB{V:List (List Let)}(h:V≠[]):∃z,vp V=some z:=by
 have key:∀(V:List (List Let)) (w:List Let),∃z,V.foldl rT (some w)=some z:=by
  intro V
  induction V with
  |nil=>intro w;exact⟨w,rfl⟩
  |cons y V ih=>
   intro w;show ∃z,V.foldl rT (rT (some w) y)=some z;unfold rT;simp only;split
   .exact ih y
   exact ih w
 cases V with
 |nil=>exact absurd rfl h
 |cons y V=>exact key V y
theorem anx{n:Nat}{V W:List (List Let)}(hV:∀y∈V,y.length=n)(Ls:∀y,y∈V↔y∈W):vp V=vp W:=by
 have hW:∀y∈W,y.length=n:=fun y hy=>hV y ((Ls y).2 hy);by_cases hv:V=[]
 .have hw:W=[]:=by
   cases W with
   |nil=>rfl
   |cons y W=>have:=(Ls y).2 af;rw[hv] at this;cases this
  rw[hv,hw]
 have hw:W≠[]:=fun e=>by
  cases V with
  |nil=>exact hv rfl
  |cons y V=>have:=(Ls y).1 af;rw[e] at this;cases this
 obtain⟨z,hz⟩:=VB hv;obtain⟨u,hu⟩:=VB hw;obtain⟨z1,z2⟩:=VA hV hz;obtain⟨u1,u2⟩:=VA hW hu;have:=Xz ((hV z z1).trans (hW u u1).symm) (u2 z ((Ls z).1 z1)) (z2 u ((Ls u).2 u1));rw[hz,hu,this]
theorem YJ{l:List Let}{i:Nat}(hi:i<l.length):HW l i=true↔HX l i:=by
 have h:=AN hi;unfold HW HX par;rw[cX,decide_eq_true_eq];constructor
 .rintro ⟨h1,h2⟩
  exact⟨⟨_,h,h1⟩,h2⟩
 rintro ⟨⟨x,hx,hp⟩,h2⟩
 rw[h] at hx;cases hx;exact⟨hp,h2⟩
theorem ZU{l y:List Let}:y∈qE l l.length↔B9 l y:=by
 unfold qE B9;rw[List.mem_filterMap];constructor
 .rintro ⟨i,hi,e⟩
  have hi:=gj.1 hi;split at e
  .rename_i hb;cases e;exact⟨i,hi,(YJ hi).1 hb,rfl⟩
  cases e
 rintro ⟨i,hi,he,rfl⟩
 exact⟨i,gj.2 hi,by rw[if_pos ((YJ hi).2 he)]⟩
theorem Xt(he:aw Let.aE ls%2=0):∃j,j<=ls.length/\par ls.reverse j/\ni ls=eU ls.reverse j:=by
 unfold ni;split
 .rename_i i hf;have hi:=gj.1 (He hf);have hb:=Kc hf;unfold Hz at hb;rw[cX] at hb;obtain⟨h1,h2⟩:=hb;refine⟨i,aa,?_,rfl⟩;obtain⟨x,hx⟩:=aL (ls:=ls) (k:=ls.length-1-i) aa;have CA:ls.reverse[i]?=some x:=by rw[Nu aa];exact hx
  rw[Pn CA] at h1;have hd:(iO ls).getD (ls.length-1-i) false=dn ls (ls.length-1-i):=by unfold iO;rw[dq,fZ,r4 aa];show gV ls (ls.length-1-i)=_;unfold gV;rw[hx];show(x.aE&&_)=_;rw[show x.aE=true from h1,Db]
  rw[hd] at h2;unfold dn at h2;unfold par;rw[List.take_reverse,vO];have e1:aw Let.aE ls=aw Let.aE (ls.take (ls.length-i))+aw Let.aE (ls.drop (ls.length-i)):=by rw[<- yA,mX]
  have e2:=VK ls hx;rw[show ls.length-1-i+1=ls.length-i by omega,h1,if_pos rfl] at e2;have h3:¬aw Let.aE (ls.take (ls.length-1-i))%2=0:=by intro h;rw[h] at h2;cases h2
  rw[decide_eq_false h3] at e2;have h4:aw Let.aE (ls.take (ls.length-i))%2=0:=of_decide_eq_true e2;omega
 refine⟨0,bG _,rfl,?_⟩;unfold eU;simp
theorem an2{l:List Let}(hj:j<=l.length)(he:aw Let.aE l%2=0)(hp:par l j):par (eU l j) (l.length-j)/\eU (eU l j) (l.length-j)=l:=by
 have hd:(l.drop j).length=l.length-j:=kO;have e1:aw Let.aE l=aw Let.aE (l.take j)+aw Let.aE (l.drop j):=by rw[<- yA,mX]
 unfold par at*;unfold eU;rw[<- hd,List.take_left,List.drop_left,mX];exact⟨aa,rfl⟩
theorem Ug{l y:List Let}(hj:j<=l.length)(he:aw Let.aE l%2=0)(hp:par l j):B9 (eU l j) y↔B9 l y:=by refine⟨aaj hj he hp,fun h=>?_⟩;obtain⟨h1,h2⟩:=an2 hj he hp;refine aaj (l:=eU l j) (j:=l.length-j) (by rw[EN];omega) (by rw[KH];exact he) h1 ?_;rw[h2];exact h
def vS(a b:List Let):Prop:=a.length=b.length/\aw Let.aE a%2=aw Let.aE b%2/\ ∀y,zX a y↔zX b y
theorem vS.refl(a:List Let):vS a a:=⟨rfl,rfl,fun _=>Iff.rfl⟩
theorem vS.symm{a b:List Let}(h:vS a b):vS b a:=⟨h.1.symm,h.2.1.symm,fun y=>(h.2.2 y).symm⟩
theorem vS.trans{a b c:List Let}(h:vS a b)(k:vS b c):vS a c:=⟨h.1.trans k.1,h.2.1.trans k.2.1,fun y=>(h.2.2 y).trans (k.2.2 y)⟩
theorem ZT{l:List Let}(hj:j<=l.length)(he:aw Let.aE l%2=0)(hp:par l j):vS (eU l j) l:=by refine⟨EN _ _,by rw[KH],fun y=>?_⟩;unfold zX;rw[Ug hj he hp,apx l hj,Ug (by rw[qW];omega) (by rw[vO];exact he) (an3 hj he hp)]
theorem ajh{l:List Let}:vS l.reverse l:=by refine⟨qW,by rw[vO],fun y=>?_⟩;unfold zX;rw[List.reverse_reverse];exact Or.comm
theorem ajg{l:List Let}(he:aw Let.aE l%2=0):vS (ni l) l:=by obtain⟨j,hj,hp,e⟩:=Xt he;rw[e];exact(ZT (by rw[qW];exact hj) (by rw[vO];exact he) hp).trans ajh
theorem KB{l y:List Let}(he:aw Let.aE l%2=0):y∈Fu l↔zX l y:=by
 obtain⟨j,hj,hp,e⟩:=Xt he;unfold Fu zX;have hl:qE (ni l) l.length=qE (ni l) (ni l).length:=by rw[Hx]
 rw[fg,hl,ZU,ZU,e,Ug (by rw[qW];exact hj) (by rw[vO];exact he) hp]
theorem Ro{l y:List Let}(h:y∈Fu l):y.length=l.length:=by
 unfold Fu at h;rcases fg.1 h with h|h
 .exact T9 h
 rw[T9 h,Hx]
theorem adt{a b:List Let}(he:aw Let.aE a%2=0)(h:vS a b):jV a=jV b:=by obtain⟨h1,h2,h3⟩:=h;refine anx (n:=a.length) (fun y hy=>Ro hy) fun y=>?_;rw[KB he,KB aa];exact h3 y
section
variable {F:Nat} {ls:List Let}
theorem dF.abF(g:dF F ls):HX ls 0:=by obtain⟨l,h1,h2⟩:=g.first;exact⟨⟨l,h1,h2⟩,rfl⟩
def fB(ls:List Let):List Let:=(jV ls).getD []
theorem dF.MR(g:dF F ls):jV ls=some (fB ls)/\zX ls (fB ls)/\ ∀y,zX ls y->mH y (fB ls)=false:=by
 have he:=g.even;have h0:zX ls (A8 (eU ls 0)):=.inl ⟨0,iX.2 g.ne,g.abF,rfl⟩;have hc:Fu ls≠[]:=fun e=>by have:=(KB he).2 h0;rw[e] at this;cases this
 obtain⟨z,hz⟩:=VB hc;obtain⟨z1,z2⟩:=VA (fun y hy=>Ro hy) hz;have hn:jV ls=some z:=hz;have e:fB ls=z:=by unfold fB;rw[hn];rfl
 rw[e];exact⟨hn,(KB he).1 z1,fun y hy=>z2 y ((KB he).2 hy)⟩
theorem dF.form(g:dF F ls){y:List Let}(h:zX ls y):cU (F:Int) y=0:=by
 have c:=g.cz;have hl:(zF ls).length<=400:=by rw[Bo];exact g.len
 have hc:aw Let.aB (aM (zF ls))<=200:=by rw[jL];exact g.cr
 have h0:∀x,(zF ls)[0]?=some x->x.i.b=false:=fun x hx=>by have hn:0<ls.length:=iX.2 g.ne;rw[Bn hn] at hx;cases hx;rw[O9 g hn];rfl
 rcases h with h|h
 .exact aak c h0 hl hc g.fing (by rw[jL];exact h)
 refine aak c.rv ?_ (by rw[cM,qW];exact hl) (by rw[CI,vO];exact hc) g.fing (by rw[CI,jL];exact h);intro x hx;rw[fZ] at hx;have hn:0<ls.length:=iX.2 g.ne;rw[Nu (by rw[Bo];exact hn),Bo,Bn aa] at hx;cases hx;show(dM ls (ls.length-1-0)).o.b=false;show(!dn ls (ls.length-1-0+1))=false;rw[show ls.length-1-0+1=ls.length by omega,Sf g];rfl
end
theorem GA(ls:List Let):(fB ls).length<=ls.length:=by
 unfold fB;cases h:jV ls with
 |none=>exact bG _
 |some z=>have:=Ro (Vz h);show z.length<=_;omega
theorem Rm(o:Option (List Let)):(cO o).norm=cF (o.getD []):=by
 cases o with
 |none=>rfl
 |some Y=>rfl
def sk(F:Nat)(ls:List Let)(m:bd):Option (List Let):=
 if ls=[] then if bJ F [] m.k m.a m.b m.c m.l m.o m.s=true then some (circ m.b.toNat) else none
 else if bJ F ls m.k m.a m.b m.c m.l m.o m.s=true then match tN F ls m.k m.a.toNat m.b.toNat m.c.toNat m.l m.o m.s with
  |none=>none
  |some M=>if (400:Int)<(ls.length:Int)+(nz m.k).1\/(100:Int)<((aw Let.aB ls/2:Nat):Int)+(nz m.k).2 then none else some (qF M)
 else none
def vu(F:Nat):List Let->List bd->Option (List Let)
 |ls,[]=>some ls
 |ls,m::ms=>match sk F ls m with
  |none=>none
  |some L=>vu F L ms
theorem aeu{L:List Let}{ms:List bd}(m:bd)(h:vu F ls ms=some L):vu F ls (ms++[m])=sk F L m:=by
 induction ms generalizing ls with
 |nil=>have e:ls=L:=qZ h;rw[<- e];show(match sk F ls m with|none=>none|some L=>some L)=_;cases sk F ls m<;>rfl
 |cons a r ih=>
  show(match sk F ls a with|none=>none|some L=>vu F L (r++[m]))=_;have h:(match sk F ls a with|none=>none|some L=>vu F L r)=some L:=h;cases ha:sk F ls a with
  |none=>rw[ha] at h;cases h
  |some K=>rw[ha] at h;exact ih h
theorem VF(h:cU (F:Int) ls=0):cU (F:Int) (fB ls)=0:=by
 by_cases aH:ls=[]
 .subst aH;exact h
 obtain⟨G,e,g⟩:=xg h aH;have:F=G:=aa;subst this;exact g.form g.MR.2.1
theorem Dv{f:Int}{L:List Let}(h:cU f L=0):L.length<=400:=by
 by_cases aH:L=[]
 .subst aH;exact bG _
 obtain⟨G,_,g⟩:=xg h aH;exact g.len
theorem ae0{f:Int}{n:Int}(hn:n<=1000000):aI S 4 [dX f ls,vi n] (rb (decide ((ls.length:Int)<=n)&&(cU f ls==0))):=by
 by_cases h:(ls.length:Int)<=n
 .have pc:=ahO f ls aa;have hd:decide ((ls.length:Int)<=n)=true:=decide_eq_true h;rw[hd];generalize cU f ls=e at*;refine aZ c4 ?_;simp only[go_sem,i4,h,s10,eJ pc];all_goals(first|done|exact aG|exact⟨aG,rfl⟩|rfl)
 have hd:decide ((ls.length:Int)<=n)=false:=decide_eq_false h;rw[hd];refine aZ c4 ?_;simp only[go_sem,i4,h];all_goals(first|done|exact aG|exact⟨aG,rfl⟩|rfl)
theorem aiX(f:Int)(ls:List Let)(hl:ls.length<=1000000):aI S 29 [dX f ls,dX f ls] (rb true):=by
 refine aZ c29 ?_;simp only[go_sem,i29,bne];refine cV (fun k ak aj=>ak 2=.one (.aY 1856000000 1 0)/\ak 3=.one (.aY 1856000064 1 0)/\ak 5=vi k/\aj 1856000000=(1,some (.var (tk f ls)))/\aj 1856000064=(1,some (.var (tk f ls)))) 0 ls.length (bG _) ?_ ?_
 .simp only[go_sem];first|done|rfl
 rintro k ak aj hk ⟨h2,h3,h5,b0,b1⟩
 by_cases ay:k<ls.length
 .have aJ:((k:Int)<(ls.length:Int)):=aa;have w1:=cn (n:=k) aa;obtain⟨x,hx⟩:=aL ay;have Cy:=iI hx;have es:=Sj x x;rw[I6] at es;simp only[go_sem,i29_l1,h2,h3,h5,b0,b1,ay,aJ,Cy,Let.ps,w1,es];first|done|exact aG|exact⟨aG,rfl⟩
 have:k=ls.length:=aa;subst this;simp only[go_sem,i29_l1,i29_r2,h2,h5,b0,eE];first|done|rfl
section
variable {Q:dA} {ak:Env} {aj:aA} {os:List aO} {d:Option Nat}
end
end
end Go.Abs
