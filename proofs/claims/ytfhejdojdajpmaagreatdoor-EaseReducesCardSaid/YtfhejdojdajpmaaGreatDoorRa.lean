/-
  The normal form of a code; Replay.
-/
import Derived.Test.YtfhejdojdajpmaaGreatDoorVb
import Derived.Test.YtfhejdojdajpmaaGreatDoorUa
set_option linter.all false
set_option maxRecDepth 100000
set_option maxHeartbeats 16000000
namespace Go.Abs

def rotL(l:List Let)(i:Nat):List Let:=l.drop i++l.take i
def par(l:List Let)(i:Nat):Prop:=ay Let.aG (l.take i)%2=0
def evn(l:List Let)(i:Nat):Prop:=(∃x,l[i]?=some x/\x.aG=true)/\par l i
def OI:List Int->List Let->List Let
 |_,[]=>[]
 |s,x::r=>if x.kind==2 then (if s.contains x.id then {x with id:=((s.idxOf x.id+1:Nat):Int)}::OI s r else {x with id:=((s.length+1:Nat):Int)}::OI (s++[x.id]) r) else x::OI s r
def ren(l:List Let):List Let:=OI [] l
def inj(f:Int->Int)(l:List Let):Prop:=∀x∈l,∀y∈l,x.kind=2->y.kind=2->f x.id=f y.id->x.id=y.id
def ZY(l y:List Let):Prop:= ∃i,i<l.length/\evn l i/\y=ren (rotL l i)
def ZZ(l y:List Let):Prop:=ZY l y\/ZY l.reverse y
def uu(x:aP):aP:=⟨⟨x.p.l,!x.p.d⟩,gI x.o,gI x.i⟩
theorem aen(x:aP):(uu x).up=x.up:=by unfold aP.up uu;cases x.p.d<;>rfl
theorem aem(x:aP):(uu x).lo=x.lo:=by unfold aP.lo uu;cases x.p.d<;>rfl
theorem X4.rv{g:Bool}{i o j q:dL}(h:X4 g i o j q):X4 g (gI o) (gI i) (gI q) (gI j):=by
 obtain⟨a,b,c,d⟩:=h;cases g
 .simp only[eH,if_false] at a b c d;constructor<;>simp only[eH,if_false,gI]
  .exact b
  .exact a
  .exact d
  exact c
 simp only[if_true] at a b c d;constructor<;>simp only[if_true,gI]
 .exact b
 .exact a
 .exact d
 exact c
theorem Xr.rv{x y:aP}(h:Xr x y):Xr (uu x) (uu y):=fun hc mc e=>by obtain⟨h1,h2,h3⟩:=h hc mc e;exact⟨h1,h2,h3.rv⟩
theorem anI:∀ {z:List aP} {s t:dL},jH s z t->jH (gI t) (z.reverse.map uu) (gI s):=by
 intro z
 induction z with
 |nil=>intro s t h;cases h;rfl
 |cons x z ih=>intro s t h;obtain⟨rfl,h⟩:=h;rw[List.reverse_cons,km];exact Lq.2 ⟨gI x.o,ih h,rfl,rfl⟩
theorem anG:∀ {z:List aP} {s t:dL},jH s z t->∀x∈z,(∃y∈z,y.i=x.o)\/x.o=t:=by
 intro z
 induction z with
 |nil=>intro s t _ x hx;cases hx
 |cons a z ih=>
  intro s t h x hx;obtain⟨rfl,h⟩:=h;rcases dh.1 hx with rfl|hx
  .cases z with
   |nil=>exact .inr h
   |cons b z=>exact .inl ⟨b,af,h.1⟩
  rcases ih h x hx with ⟨y,hy,e⟩|e
  .exact .inl ⟨y,by simp[hy],e⟩
  exact .inr e
theorem Cz.next{F:Nat}{z:List aP}{T B:Nat->Nat->Nat}{S:List Nat}(c:Cz F z T B S){x:aP}(hx:x∈z):∃y∈z,y.i=x.o:=by
 obtain⟨s,h⟩:=c.path;rcases anG h x hx with e|e
 .exact e
 cases z with
 |nil=>cases hx
 |cons a z=>exact⟨a,af,by rw[h.1,e]⟩
theorem N4(z:List aP):aR (z.reverse.map uu)=(aR z).reverse:=by rw[<- List.map_reverse];show List.map _ (List.map _ _)=_;rw[nX];rfl
theorem Jn(q:Let->Bool)(l:List Let):ay q l.reverse=ay q l:=List.countP_reverse
theorem Cz.rv{F:Nat}{z:List aP}{T B:Nat->Nat->Nat}{S:List Nat}(c:Cz F z T B S):Cz F (z.reverse.map uu) T B S:=by
 obtain⟨s,h⟩:=c.path;have hm:∀x∈z.reverse.map uu,∃y∈z,x=uu y:=fun x hx=>by obtain⟨y,hy,rfl⟩:=dy.1 hx;exact⟨y,afL.1 hy,rfl⟩
 have ec:∀g,cg (aR (z.reverse.map uu)) g=cg (aR z) g:=fun g=>by rw[N4];exact Jn _ _
 refine⟨⟨_,anI h⟩,fun x hx=>?_,?_,by rw[N4,Jn];exact c.ev,fun x hx hc=>?_,?_,fun x hx hp=>?_,fun x hx hp=>?_,fun g hg=>by rw[ec];exact c.gt g hg,by rw[ec];exact c.gz,?_,c.nd,fun s hs=>?_,by rw[N4,Jn,Jn];exact c.num⟩
 .obtain⟨y,hy,rfl⟩:=hm x hx;obtain⟨o1,o2,o3⟩:=c.ok y hy;refine⟨o1,fun hc=>(o2 hc).symm,fun hp=>?_⟩;obtain⟨p1,p2⟩:=o3 hp;refine⟨p2,?_⟩;show y.o.b= !(!y.p.d);rw[p1,L6]
 .refine BN.2 (List.pairwise_reverse.2 (c.cr.imp fun {a b} ef=>ef.symm.rv))
 .obtain⟨y,hy,rfl⟩:=hm x hx;rw[N4,Jn];exact c.ids y hy hc
 .refine BN.2 (List.pairwise_reverse.2 (c.rk.imp fun {a b} ef=>ef.symm))
 .obtain⟨y,hy,rfl⟩:=hm x hx;rw[ec];exact c.rr y hy hp
 .obtain⟨y,hy,rfl⟩:=hm x hx;obtain⟨a,b,d,e⟩:=c.pl y hy hp;exact⟨by rw[aen];exact a,by rw[aen];exact b,by rw[aem];exact d,by rw[aem];exact e⟩
 .obtain⟨x,hx,hp⟩:=c.one;exact⟨uu x,dy.2 ⟨x,afL.2 hx,rfl⟩,hp⟩
 obtain⟨x,hx,e⟩:=c.wit s hs;obtain⟨y,hy,e2⟩:=c.next hx;refine⟨uu y,dy.2 ⟨y,afL.2 hy,rfl⟩,?_⟩;show s=y.i.r\/s=y.i.l;rw[e2];exact e.symm



def cO:Option (List Let)->PV
 |none=>.nils
 |some Y=>hU Y

def AM(a b:List Let):Prop:=a.length=b.length/\ay Let.aG a%2=ay Let.aG b%2/\ ∀y,ZZ a y↔ZZ b y
theorem AM.refl(a:List Let):AM a a:=⟨rfl,rfl,fun _=>Iff.rfl⟩
theorem AM.symm{a b:List Let}(h:AM a b):AM b a:=⟨h.1.symm,h.2.1.symm,fun y=>(h.2.2 y).symm⟩
theorem AM.trans{a b c:List Let}(h:AM a b)(k:AM b c):AM a c:=⟨h.1.trans k.1,h.2.1.trans k.2.1,fun y=>(h.2.2 y).trans (k.2.2 y)⟩
section
variable {F:Nat} {ls:List Let}
end

def ju(F:Nat)(ls:List Let)(m:aU):Option (List Let):=
 if ls=[] then if cD F [] m.k m.a m.b m.c m.l m.o m.s=true then some (circ m.b.toNat) else none
 else if cD F ls m.k m.a m.b m.c m.l m.o m.s=true then match mT F ls m.k m.a.toNat m.b.toNat m.c.toNat m.l m.o m.s with
  |none=>none
  |some M=>if (400:Int)<(ls.length:Int)+(kx m.k).1\/(100:Int)<((ay Let.aB ls/2:Nat):Int)+(kx m.k).2 then none else some (kK M)
 else none
theorem apb{F:Nat}{L:List Let}{e:Int}(he:e≠0):kA F L≠pZ e:=fun h=>by unfold kA pZ at h;simp only[RV.tup.injEq,yE,RV.one.injEq,RC.p.injEq,PV.int.injEq,and_true,true_and] at h;exact he h.2.symm
def tj(F:Nat):List Let->List aU->Option (List Let)
 |ls,[]=>some ls
 |ls,m::ms=>match ju F ls m with
  |none=>none
  |some L=>tj F L ms
theorem ad9{F:Nat}{ls L:List Let}{ms:List aU}(m:aU)(h:tj F ls ms=some L):tj F ls (ms++[m])=ju F L m:=by
 induction ms generalizing ls with
 |nil=>have e:ls=L:=oZ h;rw[<- e];show(match ju F ls m with|none=>none|some L=>some L)=_;cases ju F ls m<;>rfl
 |cons a r ih=>
  show(match ju F ls a with|none=>none|some L=>tj F L (r++[m]))=_;have h:(match ju F ls a with|none=>none|some L=>tj F L r)=some L:=h;cases ha:ju F ls a with
  |none=>rw[ha] at h;cases h
  |some K=>rw[ha] at h;exact ih h
theorem aoZ{F:Nat}{ls:List Let}{ms r:List aU}(h:tj F ls ms=none):tj F ls (ms++r)=none:=by
 induction ms generalizing ls with
 |nil=>cases h
 |cons a q ih=>
  show(match ju F ls a with|none=>none|some L=>tj F L (q++r))=_;have h:(match ju F ls a with|none=>none|some L=>tj F L q)=none:=h;cases ha:ju F ls a with
  |none=>rfl
  |some K=>rw[ha] at h;exact ih h
end Go.Abs
