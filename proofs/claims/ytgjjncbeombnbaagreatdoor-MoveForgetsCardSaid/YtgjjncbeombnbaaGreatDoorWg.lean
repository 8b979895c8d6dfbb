/- A part. -/
import Derived.Test.YtgjjncbeombnbaaGreatDoorWf
set_option linter.all false
open List renaming length->I
set_option maxRecDepth 100000
set_option maxHeartbeats 16000000
namespace Go.Abs
variable{j n:Nat}{m u:bQ}{y:Int}{L:af}
section
variable{F v:Nat}{h:bQ}{x:Int}{f:af}
structure Sg {α:Type} (lt:α->α->Bool):Prop where
 asym:∀a b,lt a b->lt b a=false
 ntrans:∀a b c,lt b a=false->lt c b=false->lt c a=false
def tg{α:Type}(lt:α->α->Bool)(h:List α)(a b:Nat):Prop:=∀p q x y,a<=p->p<q->q<b->h[p]?=some x->h[q]?=some y->lt y x=false
structure yY {α:Type} (lt:α->α->Bool) (zs ws:List α) (x:α) (a i j:Nat):Prop where
 perm:ws.Perm zs
 le:a<=j/\j<=i/\i<I ws
 at':ws[j]?=some x
 up:∀p y,j<p->p<=i->ws[p]?=some y->lt x y
 so:∀p q y z,a<=p->p<q->q<=i->p≠j->q≠j->ws[p]?=some y->ws[q]?=some z->lt z y=false
 out:∀p,p<a\/i<p->ws[p]?=zs[p]?
def yY.start{α:Type}{lt:α->α->Bool}{zs:List α}{x:α}{a i:Nat}(m:a<=i)(h:zs[i]?=some x)(ae:tg lt zs a i):yY lt zs zs x a i i:=
 ⟨.refl _,⟨m,ct _,(bd.1 h).1⟩,h,λp y H f=>J,λp q y z j H f n u=>ae p q y z j H J,λ_ _=>rfl⟩
def ao7{α:Type}{h:List α}{i:Nat}{x y:α}(u:h[i]?=some x)(H:h[j]?=some y):((h.set i y).set j x).Perm h:=by obtain⟨m,E⟩:=bd.1 u;obtain⟨f,n⟩:=bd.1 H;have:=List.set_set_perm m f;rwa[E,n]at this
def yY.step{α:Type}{lt:α->α->Bool}{zs h:List α}{x y:α}{a i:Nat}(o:Sg lt)(M:yY lt zs h x a i (j+1))(N:a<=j)(A:h[j]?=some y)(Y:lt x y):
  yY lt zs ((h.set (j+1) y).set j x) x a i j:=by
 obtain⟨hp,⟨_,ab,hl⟩,R,X,F,Q⟩:=M;have get:∀p,((h.set (j+1) y).set j x)[p]?=if p=j then some x else if p=j+1 then some y else h[p]? :=λp=>by
  rw[pA,pA,q_];by_cases B:j=p
  .subst B;simp[(bd.1 A).1]
  by_cases E:j+1=p
  .subst E;have:¬(j+1=j):=J;rw[ai B,an rfl,an J,ai this,an rfl]
  rw[ai B,ai E,ai (λM=>B M.symm),ai (λM=>E M.symm)]
 refine⟨(ao7 R A).trans hp,⟨N,J,by simp;omega⟩,by rw[get];simp,?_,?_,?_⟩
 .intro p z L n m;rw[get,ai J]at m;by_cases e:p=j+1
  .rw[an e]at m;cases m;exact Y
  rw[ai e]at m;exact X p z J n m
 .intro p q u v D L n Z T f H;rw[get,ai Z]at f;rw[get,ai T]at H;by_cases e:p=j+1
  .rw[an e]at f;cases f;rw[ai J]at H;exact F j q _ _ N J n J J A H
  rw[ai e]at f;by_cases E:q=j+1
  .rw[an E]at H;cases H;exact F p j _ _ D J J e J f A
  rw[ai E]at H;exact F p q _ _ D L n e E f H
 intro p O;rw[get,ai J,ai J,Q p O]
def yY.stop{α:Type}{lt:α->α->Bool}{zs h:List α}{x:α}{a i:Nat}(o:Sg lt)(R:yY lt zs h x a i j)(n:j=a\/ ∃y,a<j/\h[j-1]?=some y/\lt x y=false):tg lt h a (i+1):=by
 obtain⟨hp,⟨z,E,hl⟩,m,X,F,O⟩:=R;intro p q u v B D N H f;by_cases e:q=j
 .subst e;rw[m]at f;cases f;rcases n with n|⟨y,T,A,L⟩
  .omega
  by_cases Q:p=q-1
  .grind
  exact o.ntrans _ _ _ (F p (q-1) _ _ B J J J J H A) L
 by_cases M:p=j
 .subst M;rw[m]at H;cases H;exact o.asym _ _ (X q v D J f)
 grind
def tg.mono{α:Type}{lt:α->α->Bool}{h:List α}{a b c:Nat}(u:tg lt h a c)(H:b<=c\/I h<=c):tg lt h a b:=λp q x y m j v n f=>u p q x y m j (by
 rcases H with H|H
 .omega
 have:=(bd.1 f).1;omega) n f
def tg.pair{α:Type}{lt:α->α->Bool}{h:List α}(n:tg lt h 0 (I h)):h.Pairwise λx y=>lt y x=false:=by rw[F_];intro i j m H f;exact n i j _ _ (bN _) f H (re m) (re H)
abbrev vu(a b:Int):Bool:=decide (a<b)
def Up:Sg vu:=⟨λa b h=>by simp at*;omega,λa b c h k=>by simp at*;omega⟩
def aow(a:Int):aI S 185 [aE a] (eh false):=by refine bR as4 ?_;have h:(a !=a)=false:=aH;simp only[go_sem,abX,h]
def atE(a b:Int):aI S 164 [aE a,aE b] (eh (vu a b)):=by refine bR apM ?_;simp only[go_sem,aaY,aoI,eU (aow a),vu]
def XS(n:Nat)(h:n<=1000000):∃k:Int,aI S 144 [.one (.p (.int .u64 n))] (jv k):=by
 refine⟨((Lib.bitLen n:Nat):Int),⟨1,?_⟩⟩;have hp:S.prim 144 [.one (.p (.int .u64 (n:Int)))]=some (some (jv ((Lib.bitLen n:Nat):Int))):=by
  show some _=_;simp[SN]
  grind
 rw[jR,hp]
def Ms(o:bQ)(k:Nat)(v:Int):(dR o).set k [.int .i64 v]=dR (o.set k v):=by simp[vd]
def vC(o:bQ):I (dR o)=I o:=bG _
def S4(lt:Int->Int->Bool)(id g v:Nat)(m:bQ)(blk:aG)(f:V)(A:aG):Prop:=f=.tup []/\(∃h:bQ,A id=(g,some (.arr v 1 (dR h)))/\h.Perm m/\tg lt h 0 (I h))/\dL (· =id) blk A
def apP{al:bU}{blk:aG}{id g:Nat}(o:al.ok id)(hl:I m<=1000000)(hC:blk id=(g,some (.arr v 1 (dR m)))):
  ∃ab n,jG S 158 [.one (.hsl id g 1 0 (I m)),aE 0,aE (I m)] al blk ab n/\S4 vu id g v m blk ab n:=by
 refine oX ap5 (jx rfl) ?_;have w0:IntKind.i64.wrap (0+1)=((0+1:Nat):Int):=aa;simp only[go_sem,ai6];refine df (λk A n=>A 0=.one (.hsl id g 1 0 (I m))/\A 1=aE 0/\A 2=aE (I m)/\A 6=aE ((k+1:Nat):Int)/\ ∃zs:bQ,n id=(g,some (.arr v 1 (dR zs)))/\zs.Perm m/\tg vu zs 0 (k+1)/\dL (· =id) blk n) 0 (I m) (bN _) ?_ ?_
 .simp only[go_sem];exact⟨rfl,m,hC,.refl _,λp q x y _ Y u=>J,dL.refl _ _⟩
 rintro k A cK hk ⟨h0,Y,u,O,zs,hZ,hp,ae,Q⟩
 have mR:=hp.length_eq;by_cases aB:k+1<I m
 .have B:((k+1:Nat):Int)<(I m:Int):=J;obtain⟨x,hx⟩:=aM (h:=zs) (k:=k+1) J;simp only[go_sem,U0,u,O,B];refine df (λq A n=>A 0=.one (.hsl id g 1 0 (I m))/\A 1=aE 0/\A 2=aE (I m)/\A 6=aE ((k+1:Nat):Int)/\A 7=aE ((k+1-q:Nat):Int)/\ ∃h:bQ,n id=(g,some (.arr v 1 (dR h)))/\yY vu zs h x 0 (k+1) (k+1-q)/\dL (· =id) blk n) 0 (k+1) (bN _) ?_ ?_
  .simp only[go_sem,h0,Y,u,O];exact⟨zs,hZ,yY.start (bN _) hx ae,Q⟩
  rintro q dr aZ hq ⟨F,k1,k2,k6,k7,h,D,H,z⟩
  have ud:=H.perm.length_eq.trans mR;have Z:IntKind.i64.wrap (((k+1:Nat):Int)+1)=((k+1+1:Nat):Int):=cE J;by_cases HJ:k+1-q=0
  .have E:¬((0:Int)<((k+1-q:Nat):Int)):=J;simp only[go_sem,Qb,OH,F,k1,k2,k6,k7,E,Z];refine⟨aS,J,h,D,H.perm.trans hp,H.stop Up (.inl HJ),z⟩
  obtain⟨j,hj⟩:∃j,k+1-q=j+1:=⟨k-q,J⟩;have E:((0:Int)<((j+1:Nat):Int)):=J;obtain⟨y,N⟩:=aM (h:=h) (k:=j) J;rw[hj]at H k7;have T:IntKind.i64.wrap (((j+1:Nat):Int)-1)=(j:Int):=by rw[vB J];omega
  have pL:=r4 H.at';have xh:=r4 N;have R:j+1<I m:=by have:=H.le;omega
  have j2:j<I m:=J;have pl:=atE x y;cases L:vu x y with
  |false=>rw[L]at pl;simp only[go_sem,Qb,OH,F,k1,k2,k6,k7,E,Z,T,D,pL,xh,R,j2,o,afu,Ox pl];refine⟨aS,J,h,rfl,H.perm.trans hp,H.stop Up (.inr ⟨y,J,N,L⟩),z⟩
  |true=>rw[L]at pl;have yj:=H.step Up (bN _) N L;have M:¬(j+1=j):=J;have l2:j<I h:=J;simp only[go_sem,Qb,OH,F,k1,k2,k6,k7,E,T,D,pL,xh,R,j2,M,o,afu,Ox pl,pA,vC];have X:k+1-(q+1)=j:=J;refine⟨aS,aS,J,by rw[X],(h.set (j+1) y).set j x,by rw[Ms,Ms],by rw[X];exact yj,(z.dN rfl _).dN rfl _⟩
 have B:¬(((k+1:Nat):Int)<(I m:Int)):=J;simp only[go_sem,U0,u,O,B];exact⟨rfl,⟨zs,hZ,hp,ae.mono (.inl J)⟩,Q⟩
def xN{Q:gX}{al:bU}{x:bj}{blk:aG}{os:fm}{d:dZ}{f id g v z o:Nat}{j:dC}{m:dh}{P:V->aG->Prop}(H:blk id=(g,some (.arr v z m)))(R:(j.map (pk blk)).flatten=[])(B:al=.all\/al.ok id/\(S.sites f).all al.fs.contains)
  (h:∀O,O.ok id->O.fs=S.sites f->∃u A,jG S f (.one (.hsl id g z o n)::j) O blk u A/\P u A)
  (E:∀u A,P u A->jP S al os Q (ef x d u) A):jD S al (.sc f (.one (.hsl id g z o n)::j)) d os Q x blk:=by
 have D:((V.one (.hsl id g z o n)::j).map (pk blk)).flatten=[id]:=by rw[eQ,vo,R,Yf H];rfl
 refine wN ?_ (h _ (BD (by grind)) rfl) E;rcases B with rfl|⟨F,y⟩
 .rfl
 refine L3 ?_ y;show al.iJ ((V.one _::j).map _).flatten=true;rw[D];simp[bU.iJ,F]
def asO{al:bU}{blk:aG}{id g:Nat}(o:al.ok id)(F:al.fs.contains 158)(hl:I m<=12)(h:blk id=(g,some (.arr v 1 (dR m))))(L:Int):
  ∃j A,jG S 143 [.one (.hsl id g 1 0 (I m)),aE 0,aE (I m),aE L] al blk j A/\S4 vu id g v m blk j A:=by
 refine oX axu (jx rfl) ?_;have f:IntKind.i64.wrap ((I m:Int)-0)=(I m:Int):=by rw[Int.sub_zero];exact oL J J
 have y:(I m:Int)<=12:=J;simp only[go_sem,ab9];refine mP ?_;simp only[go_sem,ajJ,f,y,ard];refine xN h (by rfl) (.inr ⟨o,by rw[show S.sites 158=[158] by kernel_rfl];simp only[v_,zo,F,Dq]⟩) (λO u _=>apP u J h) λj A n=>?_;obtain⟨rfl,H⟩:=n;simp only[go_sem];exact⟨rfl,H⟩
def VU{al:bU}{blk:aG}{id g:Nat}(o:al.ok id)(F:(S.sites 143).all al.fs.contains)(hl:I m<=12)(H:blk id=(g,some (.arr v 1 (dR m)))):
  ∃j A,jG S 116 [.one (.hsl id g 1 0 (I m))] al blk j A/\S4 vu id g v m blk j A:=by
 obtain⟨k,pb⟩:=XS (I m) J;have u:IntKind.u64.wrap (I m:Int)=(I m:Int):=by
  have e:IntKind.u64.wrap (I m:Int)=(I m:Int)%18446744073709551616:=by rfl
  rw[e];omega
 refine oX azj (jx rfl) ?_;have f:S.shared 144=false:=ah;simp only[go_sem,ahh,u,f,Uu pb,apQ];refine xN H (by rfl) (.inr ⟨o,F⟩) (λO x h=>asO x (by rw[h];kernel_rfl) hl H k) λj A n=>?_;obtain⟨rfl,h⟩:=n;simp only[go_sem];exact⟨rfl,h⟩
def nh(h:bQ):Nat->bQ
 |0=>[]
 |k+1=>match h[k]? with
  |some x=>if 0<k/\h[k-1]?=some x then nh h k else nh h k++[x]
  |none=>nh h k
def af5(h:bQ):∀k,I (nh h k)<=k:=by
 intro k
 induction k with
 |zero=>exact ct _
 |succ k f=>grind [nh]
def TN{k:Nat}(H:h[k+1]?=some x)(hp:h[k]?=some x):nh h (k+2)=nh h (k+1):=by
 conv=>lhs;unfold nh
 rw[H];simp[hp]
def VY{k:Nat}(f:h[k+1]?=some x)(hp:h[k]?=some y)(H:¬x=y):nh h (k+2)=nh h (k+1)++[x]:=by grind [nh]
def ald(H:h[0]?=some x):nh h 1=[x]:=by simp[nh,H]
def R8(h:bQ)(k:Nat):Prop:=∀i x y,i+1<k->h[i]?=some x->h[i+1]?=some y-> ¬y=x
def YD:∀k,k<=I h->R8 h k->nh h k=h.take k:=by
 intro k
 induction k with
 |zero=>intro _ _;rfl
 |succ k n=>
  intro v u;obtain⟨x,H⟩:=aM (h:=h) (k:=k) J;have m:h.take (k+1)=h.take k++[x]:=by rw[jB,H];rfl
  rcases k with _|k
  .rw[ald H,m];rfl
  obtain⟨y,j⟩:=aM (h:=h) (k:=k) J;rw[VY H j (u k y x J j H),n J λi x y z=>u i x y J,m]
structure zh (ws cs:bQ) (k q:Nat):Prop where
 len:I cs=I ws
 kl:k=I (nh ws q)
 pre:cs.take k=nh ws q
 out:∀p,q-1<=p->cs[p]?=ws[p]?
 kq:k<q
def zh.step{k q:Nat}(A:zh h u k (q+1))(H:h[q+1]?=some x)(f:h[q]?=some y)(j:¬x=y):zh h (u.set k x) (k+1) (q+2):=by
 obtain⟨n,m,v,B,D⟩:=A;have hl:=af5 h (q+1);have z:=(bd.1 H).1;refine⟨by simpa using n,by rw[VY H f j,fU,<-m];rfl,?_,λp hp=>?_,J⟩
 .rw[VY H f j,jB,pA];have:k<I u:=J;rw[an rfl,an this,U8 (ct _),v];rfl
 grind
def zh.skip{k q:Nat}(y:zh h u k (q+1))(f:h[q+1]?=some x)(H:h[q]?=some x):zh h u k (q+2):=by obtain⟨n,j,v,m,z⟩:=y;exact⟨n,by rw[TN f H];exact j,by rw[TN f H];exact v,λp hp=>m p J,J⟩
def zh.start{k:Nat}(j:k+1<I h)(m:R8 h (k+1))(H:h[k+1]?=some x)(f:h[k]?=some x):zh h h (k+1) (k+2):=by have E:=(TN H f).trans (YD _ J m);exact⟨rfl,by rw[E];simp;omega,by rw[E],λ_ _=>rfl,J⟩
def akl(id g v:Nat)(h:bQ)(blk:aG)(f:V)(A:aG):Prop:=f=.one (.hsl id g 1 0 (I (nh h (I h))))/\(∃u:bQ,A id=(g,some (.arr v 1 (dR u)))/\I u=I h/\u.take (I (nh h (I h)))=nh h (I h))/\dL (· =id) blk A
def ak5{k:Nat}(h:k<=I u):List.take k (dR u)++List.replicate (I u-k) [PV.int .i64 0]++List.drop (k+(I u-k)) (dR u)=dR (u.take k++List.replicate (I u-k) 0):=by simp_all
def ahB{al:bU}{blk:aG}{id g:Nat}(o:al.ok id)(hl:I h<=1000000)(B:blk id=(g,some (.arr v 1 (dR h)))):
  ∃ac j,jG S 117 [.one (.hsl id g 1 0 (I h))] al blk ac j/\akl id g v h blk ac j:=by
 refine oX alC (jx rfl) ?_;by_cases h2:I h<2
 .have R:((I h:Int)<2):=J;have F:R8 h (I h):=λi x y av=>J;have e:=YD (I h) (ct _) F;rw[jz]at e;simp only[go_sem,U9,R];exact⟨by rw[e],⟨h,B,rfl,by rw[e,jz]⟩,dL.refl _ _⟩
 have R:¬((I h:Int)<2):=J;simp only[go_sem,U9,R];refine df (λq A j=>A 0=.one (.hsl id g 1 0 (I h))/\A 3=aE ((q+1:Nat):Int)/\R8 h (q+1)/\j=blk) 0 (I h) (bN _) ?_ ?_
 .simp only[go_sem];exact⟨rfl,λi x y av=>J⟩
 rintro q A cK hq ⟨O,N,F,rfl⟩
 by_cases L:q+1<I h
 .have D:(((q+1:Nat):Int)<(I h:Int)):=J;obtain⟨x,X⟩:=aM L;obtain⟨y,hy⟩:=aM (h:=h) (k:=q) J;have pL:=r4 X;have xh:=r4 hy;have wj:IntKind.i64.wrap (((q+1:Nat):Int)-1)=(q:Int):=by rw[vB J];omega
  have wk:=cE (n:=q+1) J;have q1:q<I h:=J;have q2:q+1<=I h:=J;by_cases e:x=y
  .subst e;simp only[go_sem,OF,O,N,L,D,pL,xh,wj,q1,q2,B,o];refine⟨aS,?_⟩;refine df (λr A j=>A 0=.one (.hsl id g 1 0 (I h))/\A 4=.one (.hsl id g 1 (q+1) (I h-(q+1)))/\A 5=aE ((r+1:Nat):Int)/\ ∃(u:bQ) (k:Nat),A 3=aE (k:Nat)/\j id=(g,some (.arr v 1 (dR u)))/\zh h u k (q+2+r)/\q+2+r<=I h/\dL (· =id) cK j) 0 (I h) (bN _) ?_ ?_
   .simp only[go_sem,O];exact⟨rfl,h,q+1,N,B,zh.start L F X hy,J,dL.refl _ _⟩
   rintro r dr aZ hr ⟨k0,k4,k5,u,k,k3,hB,H,ap,dE⟩
   have dS:=H.len;have fk:=H.kl;have am:=af5 h (q+2+r);have ar:=H.kq;have m:zh h u k (q+1+r+1):=by rw[show q+1+r+1=q+2+r by omega];exact H
   by_cases FP:r+1<I h-(q+1)
   .have M:(((r+1:Nat):Int)<((I h-(q+1):Nat):Int)):=J;obtain⟨Z,T⟩:=aM (h:=h) (k:=q+1+(r+1)) J;obtain⟨ac,hv⟩:=aM (h:=h) (k:=q+1+r) J;have cu:=r4 ((H.out (q+1+(r+1)) J).trans T);have cv:=r4 ((H.out (q+1+r) J).trans hv);have wr:IntKind.i64.wrap (((r+1:Nat):Int)-1)=(r:Int):=by rw[vB J];omega
    have Mb:=cE (n:=r+1) J;have ab:=cE (n:=k) J;have r1:r<I h-(q+1):=J;have kk:k<I h:=J;have OL:k<I u:=J;obtain⟨z,hz⟩:=aM OL;have cz:=r4 hz;by_cases E:Z=ac
    .subst E;have HW:(Z !=Z)=false:=aH;have Y:=m.skip (by rw[show q+1+r+1=q+1+(r+1) by omega];exact T) hv;simp only[go_sem,Rk,k0,k4,k5,k3,FP,M,r1,hB,cu,cv,wr,Mb,HW,o];refine⟨aS,J,u,k,rfl,rfl,by rw[show q+2+(r+1)=q+1+r+2 by omega];exact Y,J,dE⟩
    have HW:=(show(Z !=ac)=true by simp[E]);simp only[go_sem,Rk,k0,k4,k5,k3,FP,M,r1,hB,cu,cv,wr,Mb,ab,kk,cz,HW,o];have Y:=m.step (by rw[show q+1+r+1=q+1+(r+1) by omega];exact T) hv E;refine⟨aS,J,u.set k Z,k+1,rfl,by rw[Ms],by rw[show q+2+(r+1)=q+1+r+2 by omega];exact Y,J,dE.dN rfl _⟩
   have M:¬(((r+1:Nat):Int)<((I h-(q+1):Nat):Int)):=J;have ad:k<=I h:=J;have ag:k+(I h-k)<=I u:=J;have aN:¬(I h-k=0):=J;have Wh:q+2+r=I h:=J;rw[Wh]at H;have pK:=ak5 (u:=u) (k:=k) J;rw[dS]at pK;simp only[go_sem,Rk,adB,k0,k4,k5,k3,M,hB,o,ad,ag,aN,K7,vC,pK];obtain⟨i1,i2,i3,i4,i5⟩:=H;refine⟨by rw[<-i2],⟨_,w_,by simp;omega,?_⟩,dE.dN rfl _⟩;rw[<-i2,List.take_left' (by simp;omega),i3]
  have e1:=(show(x==y)=false by simp[e]);simp only[go_sem,OF,afh,O,N,L,D,pL,xh,wj,wk,q1,B,o,e1];refine⟨aS,λi Z ac av Q h5=>?_⟩;by_cases E:i=q
  .subst E;rw[hy]at Q;rw[X]at h5;cases Q;cases h5;exact e
  exact F i Z ac J Q h5
 have D:¬(((q+1:Nat):Int)<(I h:Int)):=J;have e:=YD (I h) (ct _) (λi x y av=>F i x y J);rw[jz]at e;simp only[go_sem,OF,aca,O,N,D];exact⟨by rw[e],⟨h,B,rfl,by rw[e,jz]⟩,dL.refl _ _⟩
def oJ:bQ->bQ
 |[]=>[]
 |x::r=>if x∈r then oJ r else x::oJ r
theorem R3:∀ {l:bQ},x∈oJ l↔x∈l:=by
 intro l
 induction l with
 |nil=>simp[oJ]
 |cons y r f=>
  unfold oJ
  grind
def azf:∀l:bQ,(oJ l).Nodup:=by
 intro l
 induction l with
 |nil=>exact qX
 |cons y r f=>grind [oJ,R3]
def aif:∀k,k<=I h->(x∈nh h k↔x∈h.take k):=by
 intro k
 induction k with
 |zero=>intro _;simp[nh]
 |succ k f=>grind [nh,List.mem_take_iff_getElem]
def azD(ae:tg vu h 0 (I h)):∀k,k<=I h->(nh h k).Nodup:=by
 intro k
 induction k with
 |zero=>intro _;exact qX
 |succ k j=>
  intro E;obtain⟨y,m⟩:=aM (h:=h) (k:=k) J;have j:=j J;unfold nh;rw[m];simp only;split
  .exact j
  rename_i F;rw[S6];refine⟨j,aH,λz v w H=>?_⟩;simp at H;subst H;rintro rfl
  rw[aif k J,List.mem_take_iff_getElem]at v;obtain⟨p,hp,B⟩:=v;obtain⟨u,n⟩:=aM (h:=h) (k:=k-1) J;have A:=ae _ k u z (bN _) J J n m;have x:u=z:=by
   by_cases e:p=k-1
   .grind
   have D:=ae p _ z u (bN _) J J (by grind) n;simp at A D;omega
  grind
def aax(hp:h.Perm m)(ae:tg vu h 0 (I h)):I (nh h (I h))=I (oJ m):=by refine List.Perm.length_eq ((List.perm_ext_iff_of_nodup (azD ae _ (ct _)) (azf m)).2 λx=>?_);rw[aif _ (ct _),jz,R3,hp.mem_iff]
def vh(f:af)(e:Nat):Bool:=((b_ f e).l.kind==2)&&((b_ f (nx f e)).l.kind==2)
def vb(f:af)(m:aC):bQ:=m.flatMap λe:Nat=>[(e:Int),(nx f e:Int)]
def u0(f:af)(m:aC):bQ:=m.flatMap λe:Nat=>[(b_ f e).l.id,(b_ f (nx f e)).l.id]
def Fq(F:Nat)(f:af)(a b c:Nat):Bool:=[a,b,c].all (vh f)&&((I (oJ (vb f [a,b,c]))==6)&&((I (oJ (u0 f [a,b,c]))==3)&&([a,b,c].any (j8 f · true)&&([a,b,c].any (j8 f · false)&&mI F f 0 [a,b,c] a))))
def uH(F:Nat)(f:af)(a b c:Nat):Option aU:=if Fq F f a b c then some (fN f (aA f) [a,b,c])else none
def RT(f:Nat->bQ)(hf:∀e,I (f e)=2):∀l:aC,I (l.flatMap f)=2*I l:=by
 intro l
 induction l with
 |nil=>rfl
 |cons a r h=>rw[List.flatMap_cons,fU,h,hf,fG];omega
def ajT(f:Nat->bQ)(l:aC)(k e:Nat)(h:l[k]?=some e):(l.take (k+1)).flatMap f=(l.take k).flatMap f++f e:=by rw[jB,h];simp
def ad0(f:Nat->Bool)(l:aC)(k e:Nat)(h:l[k]?=some e):(l.take (k+1)).any f=((l.take k).any f||f e):=by rw[jB,h];simp
def anh(f:Nat->Bool)(l:aC)(k e:Nat)(h:l[k]?=some e):(l.take (k+1)).all f=((l.take k).all f&&f e):=by rw[jB,h];simp
def ajO(f:Nat->bQ)(m:aC)(x y:Int):dR (m.flatMap f)++[[PV.int .i64 x],[PV.int .i64 y]]=dR (m.flatMap f++[x,y]):=aH
def ayG(g:a_ F f){A B z:Nat}(ha:A<I f)(hb:B<I f)(hc:z<I f){k:Int}{l o:Bool}{sg:Int}:
  aI S 76 [.one (.p (ez F f)),jM k A B z l o sg] (te (uH F f A B z)):=by
 have a5:=g.len;have cA:=cZ f;have jk:∀e∈[A,B,z],e<I f:=λe a6=>by simp at a6;rcases a6 with rfl|rfl|rfl<;>assumption
 generalize T:[A,B,z]=m at*;have dV:I m=3:=by rw[<-T];rfl
 have N7:bt [A,B,z]=[[.int .i64 A],[.int .i64 B],[.int .i64 z]]:=rfl;rw[T]at N7;have w3:((3:Nat):Int)=3:=rfl;refine bR av2 ?_;simp only[go_sem,ZI];refine df (λj x blk=>x 0=.one (.p (ez F f))/\x 6=.one (.hsl 4864064384 1 1 0 3)/\x 22=.one (.hsl 4864064384 1 1 0 3)/\x 23=aE 3/\x 24=aE j/\blk 4864064384=(1,some (.arr 3 1 (bt m)))/\(m.take j).all (vh f)/\
  x 9=iI ((m.take j).any (j8 f · true))/\x 10=iI ((m.take j).any (j8 f · false))/\ ∃CN IJ,x 7=.one CN/\x 8=.one IJ/\a8 4864640256 3 1 (dR (vb f (m.take j))) (.one CN) blk/\a8 4864705280 3 1 (dR (u0 f (m.take j))) (.one IJ) blk) 0 3 (bN _) ?_ ?_
 .simp only[go_sem];exact⟨rfl,rfl,by rw[N7],rfl,rfl,_,_,rfl,rfl,a8.nil,a8.nil⟩
 rintro j x blk hj ⟨Y,h6,jJ,mL,uK,b6,iS,E,M,CN,IJ,h7,h8,g7,g8⟩
 by_cases aB:j<3
 .have aL:((j:Int)<3):=J;obtain⟨e,O⟩:=aM (h:=m) (k:=j) J;have Rv:=jk e (aX O);have Oa:=iY O;have pe:=Cw g Rv;have hm:=cJ (e+1) (show 0<I f by omega);obtain⟨P,H⟩:=aM (h:=aA f) (k:=e) J;obtain⟨Q,hQ⟩:=aM (h:=aA f) (k:=(e+1)%I f) J;have zI:=ju H;have ab:=ju hQ;have w1:=cE (n:=j) J;have po:=Jt g Rv true;have pu:=Jt g Rv false;have fj:vh f e=((P.l.kind==2)&&(Q.l.kind==2)):=by unfold vh;rw[jr H,jr hQ]
  have bc:I (dR (vb f (m.take j)))<=100:=by unfold vb;rw[vC,RT _ (λ_=>rfl),jw];omega
  have a9:I (dR (u0 f (m.take j)))<=100:=by unfold u0;rw[vC,RT _ (λ_=>rfl),jw];omega
  have eI:vh f e=false->uH F f A B z=none:=λa6=>by
   have:m.all (vh f)=false:=by
    cases hh:m.all (vh f)with
    |false=>rfl
    |true=>rw[mB.1 hh e (aX O)]at a6;cases a6
   unfold uH Fq;rw[T,this];rfl
  cases k1:(P.l.kind==2)with
  |false=>
   rw[k1]at fj;have D:(P.l.kind !=2):=by simp only[bne,k1];rfl
   rw[eI fj];simp only[go_sem,Mn,Y,jJ,mL,uK,b6,aB,aL,Oa,mU,dJ pe jg,zI,aK.ps,D];rfl
  |true=>
   have D:(P.l.kind !=2)=false:=by simp only[bne,k1];rfl
   cases k2:(Q.l.kind==2)with
   |false=>
    rw[k1,k2]at fj;have X:(Q.l.kind !=2):=by simp only[bne,k2];rfl
    rw[eI fj];simp only[go_sem,Mn,Y,jJ,mL,uK,b6,aB,aL,Oa,mU,dJ pe jg,zI,ab,aK.ps,D,X];rfl
   |true=>
    rw[k1,k2]at fj;have X:(Q.l.kind !=2)=false:=by simp only[bne,k2];rfl
    simp only[go_sem,Mn,Y,h7,jJ,mL,uK,b6,aB,aL,Oa,mU,dJ pe jg,zI,ab,aK.ps,D,X];refine ri (B:=[[.int .i64 (e:Nat)],[.int .i64 ((e+1)%I f:Nat)]]) (g7.of_eq (cF aa)) (by simp only[gP,ba,if_true];rfl) (.inl rfl) (by simp only[fG,gk];omega) λd7 cK ar de=>?_;have q6:=de 4864064384 aa aa;simp only[go_sem,b6]at q6;have aD:=g8.of_eq ((de 4864705280 aa aa).trans (cF aa));simp only[go_sem,Y,h8,zI,ab,aK.ps];refine uC (B:=[[.int .i64 P.l.id],[.int .i64 Q.l.id]]) (aD.of_eq (cF aa)) (by simp only[gP,ba,if_true];rfl) (.inl rfl) (by simp only[fG,gk];omega) λd8 aZ r w a4 bZ hw=>?_
    have p6:=(bZ 4864064384 aa aa).trans ((cF aa).trans q6);have a0:=ar.of_eq ((bZ 4864640256 aa aa).trans (cF aa));simp only[go_sem];refine⟨?_,?_⟩
    .rcases hw with⟨rfl,rfl⟩|⟨rfl,rfl⟩|⟨rfl,rfl⟩<;>kernel_rfl
    generalize a1:(m.take j).any (j8 f · true)=x9 at E;generalize aF:(m.take j).any (j8 f · false)=IM at M;have e9:=ad0 (j8 f · true) m j e O;have ak:=ad0 (j8 f · false) m j e O;have eA:=anh (vh f) m j e O;rw[a1]at e9;rw[aF]at ak;rw[iS,fj]at eA;have G7:a8 4864640256 3 1 (dR (vb f (m.take (j+1)))) (.one d7) aZ:=by have:=ajO (λe:Nat=>[(e:Int),(nx f e:Int)]) (m.take j) e (nx f e);have y:=ajT (λe:Nat=>[(e:Int),(nx f e:Int)]) m j e O;rw[show vb f (m.take (j+1))=(m.take j).flatMap (λe:Nat=>[(e:Int),(nx f e:Int)])++[(e:Int),(nx f e:Int)]from y,<-this];exact a0
    have G8:a8 4864705280 3 1 (dR (u0 f (m.take (j+1)))) (.one d8) aZ:=by have:=ajO (λe:Nat=>[(b_ f e).l.id,(b_ f (nx f e)).l.id]) (m.take j) (b_ f e).l.id (b_ f (nx f e)).l.id;have y:=ajT (λe:Nat=>[(b_ f e).l.id,(b_ f (nx f e)).l.id]) m j e O;rw[show u0 f (m.take (j+1))=(m.take j).flatMap (λe:Nat=>[(b_ f e).l.id,(b_ f (nx f e)).l.id])++[(b_ f e).l.id,(b_ f (nx f e)).l.id]from y,<-this,jr H,show b_ f (nx f e)=Q from jr hQ];exact a4
    cases x9<;>cases IM<;>simp only[go_sem,Y,E,M,jJ,mL,uK,I7,eU po,eU pu,w1,aB]<;>exact⟨h6,p6,by rw[eA];rfl,by rw[e9];rfl,by rw[ak];rfl,d7,d8,rfl,rfl,G7,G8⟩
 have:j=3:=J;subst this;have ht:m.take 3=m:=by rw[<-T];rfl
 rw[ht]at iS E M g7 g8;have n7:I (vb f m)=6:=by unfold vb;rw[RT _ (λ_=>rfl),dV]
 have n8:I (u0 f m)=6:=by unfold u0;rw[RT _ (λ_=>rfl),dV]
 rcases g7 with⟨e,_⟩|⟨_,bb,e,b7⟩
 .have:=congrArg List.length e;rw[vC,n7]at this;cases this
 cases e;rcases g8 with⟨e,_⟩|⟨_,be,e,b8⟩
 .have:=congrArg List.length e;rw[vC,n8]at this;cases this
 cases e;have N:S.shared 116:=ah;have L:S.shared 117:=ah;have Kb:¬(((3:Nat):Int)<3):=aa;simp only[go_sem,Mn,ahe,h7,mL,uK,Kb,N,vC];refine xN b7 (by rfl) (.inl rfl) (λoh Z y=>VU Z (by rw[y];kernel_rfl) J b7) λv cK H=>?_;obtain⟨rfl,⟨h,bw,pw,sw⟩,kw⟩:=H;have ap:=(kw 4864705280 aa).trans b8;have MD:=(kw 4864064384 aa).trans b6;simp only[go_sem,h8,N,vC];refine xN ap (by rfl) (.inl rfl) (λoh Z y=>VU Z (by rw[y];kernel_rfl) J ap) λv aZ H=>?_
 obtain⟨rfl,⟨us,bu,pu,su⟩,ku⟩:=H;have ac:=(ku 4864640256 aa).trans bw;have a2:=(ku 4864064384 aa).trans MD;have wl:=pw.length_eq;have ul:=pu.length_eq;have cw:=aax pw sw;have cu:=aax pu su;have u:=Yc g m J (by rw[<-T];rfl) ha 0;have aN:((0:Nat):Int)=0:=rfl;rw[aN]at u;have a3:=aur g m jk J;have am:List.take 3 (bt m)=bt m:=fL (by rw[T2];omega);have hB:Fq F f A B z=(((I (oJ (vb f m)):Int)==6)&&(((I (oJ (u0 f m)):Int)==3)&&(m.any (j8 f · true)&&(m.any (j8 f · false)&&mI F f 0 m A)))):=by unfold Fq;rw[T,iS,QB,QB];rfl
 unfold uH;rw[hB];clear hB;simp only[go_sem,h7,L,vC,<-wl];refine xN ac (by rfl) (.inl rfl) (λoh Z y=>ahB Z J ac) λv lQ H=>?_;obtain⟨rfl,_,kc⟩:=H;have ad:=(kc 4864705280 aa).trans bu;have az:=(kc 4864064384 aa).trans a2;rw[cw];have lo:S.lone 4865152128=false:=ah;cases q1:((I (oJ (vb f m)):Int)==6)with
 |false=>
  have R:((I (oJ (vb f m)):Int)!=6):=by simp only[bne,q1];rfl
  simp only[go_sem,R];rfl
 |true=>
  have R:((I (oJ (vb f m)):Int)!=6)=false:=by simp only[bne,q1];rfl
  simp only[go_sem,h8,R,L,vC,<-ul];refine xN ad (by rfl) (.inl rfl) (λoh Z y=>ahB Z J ad) λv vE H=>?_;obtain⟨rfl,_,kd⟩:=H;have ag:=(kd 4864064384 aa).trans az;rw[cu];cases q2:((I (oJ (u0 f m)):Int)==3)with
  |false=>
   have Lw:((I (oJ (u0 f m)):Int)!=3):=by simp only[bne,q2];rfl
   simp only[go_sem,Lw];rfl
  |true=>
   have Lw:((I (oJ (u0 f m)):Int)!=3)=false:=by simp only[bne,q2];rfl
   cases q3:m.any (j8 f · true)with
   |false=>rw[q3]at E;simp only[go_sem,E,Lw];rfl
   |true=>
    rw[q3]at E;cases q4:m.any (j8 f · false)with
    |false=>rw[q4]at M;simp only[go_sem,E,M,Lw];rfl
    |true=>
     rw[q4]at M;cases q5:mI F f 0 m A with
     |false=>rw[q5]at u;simp only[go_sem,Y,h6,E,M,Lw,ag,LB,eU u,dV,T2,am];rfl
     |true=>rw[q5]at u;simp only[go_sem,Y,h6,E,M,Lw,ag,LB,eU u,awt,dV,T2,am];refine nQ a3 lo (.inr (sn (xm _))) λcc MH gc Kd=>?_;simp only[go_sem];rw[<-T]at gc;exact tN gc
abbrev DI(F:Nat):V:=.agg [.p (.int .i64 F),.p (.sl [])]
def BJ:¬(((0:Int))<((0:Nat):Int)):=aa
def aci:IntKind.i64.wrap (2*((0:Nat):Int))=((0:Nat):Int):=aa
def aaH:(0:Nat)<=140737488355328:=aa
def aAr:(0:Nat)*8<=140737488355328:=aa
section
variable {F:Nat}
def anZ(h:F<=40):dM (F:Int) []=0:=by unfold dM;rw[ai (by simp[au]),ai J,an rfl]
def atx(h:F<=40):aI S 21 [DI F] (wi (PZ F) (.int .i64 0)):=by have pr:=KV F [] (bN _);rw[Gj (anZ h),an rfl]at pr;exact pr
def ayS:aI S 66 [.one (.p (PZ F))] (.one (.own 4 1 [])):=by refine bR ajB ?_;simp only[go_sem,Vg];refine mP ?_;simp only[go_sem,J9,TW,BJ];rfl
def axX(H:F<=40):aI S 41 [DI F] (.tup [.one (cP Bs 5 []),.one (.p (.int .i64 0))]):=by
 have pr:=atx H;have h:∀blk:aG,fR blk [] 2624384064 ((RV.one (.own 4 1 [])).ib (S.lone 2624384064))=some (.one (.hsl 2624384064 ((blk 2624384064).1+1) 1 0 0),[(2624384064,((blk 2624384064).1+1,some (.arr 4 1 [])))]):=by intro blk;rw[show S.lone 2624384064=false by kernel_rfl];rfl
 refine bR aai ?_;simp only[go_sem,V2,J3,dJ pr jg,afl,dJ ayS (h _),aci,aaH];refine mP ?_;simp only[go_sem,Lx,Y0,BJ];rfl
def PA(v:F<=40):aI S 19 [DI F] (wi (ez F []) (.int .i64 0)):=by
 have u:=axX v;have f:aI S 42 [DI F] (jv ((0:Nat):Int)):=Yb F [] (bN _);have CA:aI S 43 [DI F] (jv ((0:Nat):Int)):=aah F [] (bN _);have lo:S.lone 1216064064=false:=ah;have x:=cE (n:=F) J;have R:(F+1)*8<=140737488355328:=J;have E:List.replicate (F+1) [PV.int .i64 0]=bt (gb [] F):=by rw[<-Zb,gk,Y3];simp
 refine bR adv ?_;simp only[go_sem,Wy,ahA];refine ajn u lo λy L m j=>?_;have M:=j 1216000000 aa;simp only[go_sem]at M;obtain⟨_,H⟩|⟨h,_⟩:=m
 .cases H;simp only[go_sem,M,x,R,aci,aaH,Th,aal,vn f,vn CA,E];refine⟨aS,?_⟩;refine mP ?_;simp only[go_sem,Lr,Qx,BJ];refine mP ?_;simp only[go_sem,Ok,Ow,BJ];have T:List.take (F+1) (bt (gb [] F))=bt (gb [] F):=fL (by simp[gb]);have N:F+1<=I (gb [] F):=by simp[gb]
  simp only[go_sem,lr,tq,wI,oN,nE,l7,T,N];rfl
 exact absurd rfl h
end
section
variable {F:Nat}
def aoA:IntKind.i64.wrap (1:Int)=1:=aa
def ayu:IntKind.i64.wrap (2:Int)=2:=aa
abbrev BE(F:Nat):V:=.one (.p (.box [.int .i64 F,.sl [],.sl [],.sl [],.int .i64 ((0:Nat):Int),.int .i64 ((0:Nat):Int),.sl (bt (gb [] F))]))
def apG{b:Nat}(n:b<=F):aI S 44 [BE F,jM 2 0 b 0 false false 0] (eh true):=by
 have u:aI S 68 [aE 0,.one _] (eh false):=Mg 0 0;have Q:=iY (Ey (h:=[]) n);have j:(0:Int)<=(b:Int):=J;have h:(b:Int)<=(F:Int):=J;have H:(0:Int)<=(aJ [] b:Int):=J;have x:b<F+1:=J;have v:I (gb [] F)=F+1:=by simp[gb]
 have m:(((0:Nat):Int)==0):=aa;refine bR RA ?_;simp only[go_sem,Nk,I6,ss u,Q,j,h,H,m];exact aS
abbrev Tv(b:Nat):aU:=[⟨⟨1,b,1,0,0,false⟩,true⟩,⟨⟨1,b,2,0,0,false⟩,false⟩]
def alL{b:Nat}{l o:Bool}{sg:Int}:aI S 70 [BE F,jM 2 0 b 0 l o sg] (te (some (Tv b))):=by have h:(((0:Nat):Int)==0):=aa;refine bR acH ?_;simp only[go_sem,UL,h,aoA,ayu];rfl
end
def alh(z:I f<=400)(fj:au U.aq f<=200){a b c:Int}{l o:Bool}{sg:Int}{R:Option aU}(X:aI S 44 [.one (.p (ez F f)),jM 2 a b c l o sg] (eh true))(D:aI S 70 [.one (.p (ez F f)),jM 2 a b c l o sg] (te R))(T:∀L,R=some L->I L<=1000000):
  aI S 20 [.one (.p (ez F f)),jM 2 a b c l o sg] (sH F f 2 R):=by
 have O:=aiv F;have x:=aim 2;have Z:∀(blk:aG),fR blk [] 1280192000 ((RV.agg [.p .xx,.p (.fn 69 [] []),.p (.fn 70 [] []),.p (.fn 71 [] []),.p (.fn 72 [] []),.p (.fn 73 [] []),.p (.fn 74 [] []),.p (.fn 75 [] []),.p (.fn 76 [] []),.p (.fn 77 [] []),.p (.fn 77 [] [])]).ib (S.lone 1280192000))=some (.agg [.p .xx,.p (.fn 69 [] []),.p (.fn 70 [] []),.p (.fn 71 [] []),.p (.fn 72 [] []),.p (.fn 73 [] []),.p (.fn 74 [] []),.p (.fn 75 [] []),.p (.fn 76 [] []),.p (.fn 77 [] []),.p (.fn 77 [] [])],[]):=λblk=>by cases S.lone 1280192000<;>rfl
 have Q:=cZ f;have u:IntKind.i64.wrap ((I (aA f):Int)+(gK 2).1)=(I f:Int)+(gK 2).1:=by rw[Q];exact oL (by simp only[gK];simp;omega) (by simp only[gK];simp;omega)
 have E:IntKind.i64.wrap (((au U.aq f/2:Nat):Int)+(gK 2).2)=((au U.aq f/2:Nat):Int)+(gK 2).2:=oL (by simp only[gK];simp;omega) (by simp only[gK];simp;omega);have v:∀blk:aG,fR blk [] 1280384128 ((RV.tup [.one (.p (.int .i64 (gK 2).1)),.one (.p (.int .i64 (gK 2).2))]).ib (S.lone 1280384128))=some (.tup [.one (.p (.int .i64 (gK 2).1)),.one (.p (.int .i64 (gK 2).2))],[]):=λblk=>jg;unfold te at D;refine bR Yo ?_;simp only[go_sem,i20,Zp,eU X,aan,pX adD (Z _),avn];refine ai7 D ah λcc cK w A y n=>?_;have m:=y 1280000000 aa;have B:=y 1280000064 aa;simp only[go_sem]at m B;cases R with
 |none=>simp only[go_sem,B];refine⟨?_,rfl⟩;rcases n with rfl|rfl<;>kernel_rfl
 |some L=>
  simp only[nm]at A;obtain⟨rs,Y,_⟩:=A.iC;by_cases H:(400:Int)<(I f:Int)+(gK 2).1
  .rw[show sH F f 2 (some L)=oI 7 from an (.inl H)];simp only[go_sem,m,B,JQ,dJ x (v _),u,H];refine⟨?_,rfl⟩;rcases n with rfl|rfl<;>kernel_rfl
  by_cases j:(100:Int)<((au U.aq f/2:Nat):Int)+(gK 2).2
  .rw[show sH F f 2 (some L)=oI 7 from an (.inr j)];simp only[go_sem,m,B,JQ,dJ x (v _),u,E,H,j];refine⟨?_,rfl⟩;rcases n with rfl|rfl<;>kernel_rfl
  rw[show sH F f 2 (some L)=mz F (cL L)from ai (by rintro(h|h);exact H h;exact j h)];simp only[go_sem,m,JQ,dJ x (v _),u,E,H,j,Y,adm];refine⟨?_,?_⟩
  .rcases n with rfl|rfl<;>kernel_rfl
  refine No (O L (T L rfl) (.sl (dB (aA f))) (.sl (qO (fB F f))) (.sl (bt (kX F f))) (.int .i64 (au U.aw f:Nat)) (.int .i64 ((au U.aq f/2:Nat):Int)) (.sl (bt (gb f F)))) ah rfl (Nd _) λc2 aZ M N=>?_;simp only[go_sem,(N 1280000064 aa).trans B];exact Mz (M.of_eq (cF aa))
abbrev pD(b:Nat):af:=[⟨1,b,1,0,0,false⟩,⟨1,b,2,0,0,false⟩]
def aqs(b:Nat):cL (Tv b)=pD b:=by rfl
def avZ(F b:Nat):sH F [] 2 (some (Tv b))=mz F (pD b):=by rw[<-aqs];rfl
def Uk{b:Nat}(H:b<=F):aI S 20 [BE F,jM 2 0 b 0 false false 0] (mz F (pD b)):=by have:=alh (f:=[]) aa aa (apG H) alL (λL h=>by cases h;exact aH);rwa[avZ]at this
theorem aqX{b:Nat}(H:F<=40)(h:b<=F):aI S 7 [DI F,jM 2 0 b 0 false false 0] (mz F (pD b)):=by refine bR CN ?_;simp only[go_sem,RE,KU,dJ (PA H) jg,Ji];refine P5 (Uk h) ah λm j f h=>?_;simp only[go_sem,h 448000128 aa];exact Mz (f.of_eq (cF aa))
def mg(F:Nat)(f:af)(k:Int)(a b c:Nat)(l o:Bool)(sg:Int):Option aU:=if k=1 then qc f a else if k=2 then og F f a b c else if k=3 then qz F f a b else if k=4 then n_ f a else if k=5 then some (r7 f a sg o)else if k=6 then ob F f a b else if k=7 then tj F f a b l o else if k=8 then uH F f a b c else if k=9 then s3 F f a else tl f a
def qG(F:Nat)(f:af)(k a b c:Int)(l o:Bool)(sg:Int):RV:=if eZ F f k a b c l o sg then sH F f k (mg F f k a.toNat b.toNat c.toNat l o sg)else oI 2
def ayw{k a b c:Int}{l o:Bool}{sg:Int}:(∃e,qG F f k a b c l o sg=oI e)\/ ∃L,qG F f k a b c l o sg=mz F L:=by
 unfold qG;split
 .cases mg F f k a.toNat b.toNat c.toNat l o sg with
  |none=>exact .inl ⟨4,rfl⟩
  |some L=>
   by_cases h:(400:Int)<(I f:Int)+(gK k).1\/(100:Int)<((au U.aq f/2:Nat):Int)+(gK k).2
   .exact .inl ⟨7,an h⟩
   exact .inr ⟨cL L,ai h⟩
 exact .inl ⟨2,rfl⟩
def abd{k a b c:Int}{l o:Bool}{sg:Int}{R:RV}(j:aI S 19 [fc F f] (wi (ez F f) (.int .i64 0)))(h:aI S 20 [.one (.p (ez F f)),jM k a b c l o sg] R)(fin:(∃e,R=oI e)\/ ∃L,R=mz F L):
  aI S 7 [fc F f,jM k a b c l o sg] R:=by
 refine bR CN ?_;rcases fin with⟨e,rfl⟩|⟨L,rfl⟩
 .simp only[go_sem,RE,KU,dJ j jg,Ji,dJ h av4];rfl
 simp only[go_sem,RE,KU,dJ j jg,Ji];refine P5 h ah λn u m H=>?_;simp only[go_sem,H 448000128 aa];exact Mz (m.of_eq (cF aa))
theorem jb{i:Int}(h:nk n i):∃k:Nat,i=(k:Int)/\k<n:=by unfold nk at h;simp at h;exact⟨i.toNat,J,J⟩
def Tj(l:aU)(drop:Nat->aK->Bool):I (kW l drop)<=I l:=H5 l drop (I l)
def asY(l:aU)(i:Nat)(g r:Int):I (sZ l i g r)=I l:=by simp[sZ]
def Z9{k:Int}{a b c:Nat}{l o:Bool}{sg:Int}{L:aU}(h:mg F f k a b c l o sg=some L):I L<=I f+4:=by
 have hp:=cZ f;unfold mg at h;repeat' split at h
 .unfold qc at h;simp only at h;split at h
  .cases h;have:=Tj (aA f) (λk _=>decide (k=a)||decide (k=(a+1)%I f));simp only[eL,bG];omega
  cases h
 .unfold og at h;split at h
  .cases h;simp only[wD,C4,eL,bG,fG,gk];omega
  split at h
  .cases h;simp only[wD,C4,eL,bG,fG,gk];omega
  cases h
 .unfold qz at h;split at h
  .cases h;simp only[Aq,xX];omega
  cases h
 .unfold n_ at h;simp only at h;split at h
  .cases h;have:=Tj (aA f) (tX [((aA f).getD a ⟨ga,false⟩).l.id]);simp only[jS,bG];omega
  cases h
 .cases h;simp only[r7,C4,fG,gk];omega
 .unfold ob at h;split at h
  .cases h;have:=Tj (aA f) (tX [(b_ f a).l.id,(b_ f (nx f a)).l.id]);simp only[jS,bG];omega
  cases h
 .have j:∀s t,sA f a b l o s t=some L->I L<=I f+4:=λs t h=>by
   unfold sA at h;split at h
   .cases h
   simp only[gW]at h;subst h;have H:∀x sg o s,I (l8 x sg o s)=2:=λx sg o s=>by unfold l8;split<;>rfl
   split<;>simp only[C4,H,fG,gk]<;>omega
  unfold tj at h;split at h
  .exact j _ _ h
  exact j _ _ h
 .unfold uH at h;split at h
  .cases h;simp only[Aq];omega
  cases h
 case' _=>unfold s3 at h
 rotate_left
 case' _=>unfold tl at h
 all_goals
  split at h
  .cases h;simp only[asY,eL,bG];omega
  cases h
def Y2(g:a_ F f)(k a b c:Int)(l o:Bool)(sg:Int):aI S 20 [.one (.p (ez F f)),jM k a b c l o sg] (qG F f k a b c l o sg):=by
 have v:=ag6 (F:=F) (j:=f) (a:=a) (b:=b) (c:=c) (l:=l) (o:=o) (sg:=sg) k;have j:=g.len;have x:=g.cr;unfold qG;cases H:eZ F f k a b c l o sg with
 |false=>rw[H]at v;exact ajP v
 |true=>
  rw[H]at v;rw[an rfl];have n:∀L,mg F f k a.toNat b.toNat c.toNat l o sg=some L->I L<=1000000:=λL h=>by have:=Z9 h;omega
  have mu:¬I f=0:=by have:=gA.2 (g.ne);omega
  unfold eZ at H;by_cases M:k=1
  .subst M;simp only[Int.reduceEq,if_true,if_false,or_false,or_self]at H;simp only[cN,ke,cW]at H;obtain⟨rfl,rfl,rfl,m,rfl,rfl⟩:=H;obtain⟨A,rfl,u⟩:=jb m;simp only[js]at n |-;exact Ao j x rfl aa ah v (ang g u) n
  by_cases D:k=2
  .subst D;simp only[Int.reduceEq,if_true,if_false,or_self]at H;simp only[cN,qZ,ke,cW,jn]at H;obtain⟨rfl,rfl,rfl,m,iw,NF,NK,R⟩:=H;rcases m with m|⟨m,_⟩
   rotate_left
   .exact absurd m mu
   obtain⟨A,rfl,u⟩:=jb m;obtain⟨B,rfl⟩:=lB iw;obtain⟨cv,rfl⟩:=lB NK;simp only[js]at n R |-;have:=tH (ir B) f;exact Ao j x rfl aa ah v (az4 g u J (by simp only[aJ]at R;omega)) n
  by_cases X:k=3
  .subst X;simp only[Int.reduceEq,if_true,if_false,or_false,or_self]at H;simp only[cN,ke,cW,jn]at H;obtain⟨rfl,rfl,rfl,m,rfl,z,aB⟩:=H;obtain⟨A,rfl,u⟩:=jb m;obtain⟨B,rfl,y⟩:=jb z;simp only[js]at n |-;exact Ao j x rfl aa ah v (azg g u y) n
  by_cases E:k=4
  .subst E;simp only[Int.reduceEq,if_true,if_false,or_false,or_true,or_self]at H;simp only[cN,ke,cW]at H;obtain⟨rfl,rfl,rfl,m,rfl,rfl⟩:=H;obtain⟨A,rfl,u⟩:=jb m;simp only[js]at n |-;exact Ao j x rfl aa ah v (axC g u) n
  by_cases O:k=5
  .subst O;simp only[Int.reduceEq,if_true,if_false,or_self]at H;simp only[cN,qZ,ke,cW]at H;obtain⟨rfl,ae,m,rfl,rfl⟩:=H;obtain⟨A,rfl,u⟩:=jb m;simp only[js]at n |-;exact Ao j x rfl aa ah v (aqA g u) n
  by_cases Y:k=6
  .subst Y;simp only[Int.reduceEq,if_true,if_false,or_true,or_self]at H;simp only[cN,ke,cW,jn]at H;obtain⟨rfl,rfl,rfl,m,rfl,z,aB⟩:=H;obtain⟨A,rfl,u⟩:=jb m;obtain⟨B,rfl,y⟩:=jb z;simp only[js]at n |-;exact Ao j x rfl aa ah v (ani g u y) n
  by_cases N:k=7
  .subst N;simp only[Int.reduceEq,if_true,if_false,or_self]at H;simp only[cN,ke,cW,mE]at H;obtain⟨rfl,m,rfl,z,aN⟩:=H;obtain⟨A,rfl,u⟩:=jb m;obtain⟨B,rfl,y⟩:=jb z;simp only[js]at n |-;exact Ao j x rfl aa ah v (aor g u y J) n
  by_cases T:k=8
  .subst T;simp only[Int.reduceEq,if_true,if_false,or_self]at H;simp only[cN,ke,cW,jn]at H;obtain⟨rfl,rfl,rfl,m,z,hz,_,_⟩:=H;obtain⟨A,rfl,u⟩:=jb m;obtain⟨B,rfl,y⟩:=jb z;obtain⟨cv,rfl,hc⟩:=jb hz;simp only[js]at n |-;exact Ao j x rfl aa ah v (ayG g u y hc) n
  by_cases Z:k=9
  .subst Z;simp only[Int.reduceEq,if_true,if_false,or_false,or_true,or_self]at H;simp only[cN,ke,cW]at H;obtain⟨rfl,rfl,rfl,m,rfl,rfl⟩:=H;obtain⟨A,rfl,u⟩:=jb m;simp only[js]at n |-;exact Ao j x rfl aa ah v (amS g u) n
  by_cases Q:k=10
  .subst Q;simp only[Int.reduceEq,if_true,if_false,or_true,or_self]at H;simp only[cN,ke,cW]at H;obtain⟨rfl,rfl,rfl,m,rfl,rfl⟩:=H;obtain⟨A,rfl,u⟩:=jb m;simp only[js]at n |-;exact Ao j x rfl aa ah v (avG g u) n
  simp[M,D,X,E,O,Y,N,T,Z,Q]at H
def azS(g:a_ F f)(k a b c:Int)(l o:Bool)(sg:Int):aI S 7 [fc F f,jM k a b c l o sg] (qG F f k a b c l o sg):=abd (X5 g) (Y2 g k a b c l o sg) ayw
def Nn(F:Nat)(k a b c:Int)(l o:Bool)(sg:Int):RV:=if eZ F [] k a b c l o sg then mz F (pD b.toNat)else oI 2
theorem V8{k a b c:Int}{l o:Bool}{sg:Int}(h:eZ F [] k a b c l o sg):∃B:Nat,k=2/\a=0/\b=(B:Int)/\B<=F/\c=0/\l=false/\o=false/\sg=0:=by grind [nk,eZ]
def axh(j:F<=40)(k a b c:Int)(l o:Bool)(sg:Int):aI S 7 [fc F [],jM k a b c l o sg] (Nn F k a b c l o sg):=by
 unfold Nn;cases H:eZ F [] k a b c l o sg with
 |false=>have h:=ag6 (F:=F) (j:=[]) (a:=a) (b:=b) (c:=c) (l:=l) (o:=o) (sg:=sg) k;rw[H]at h;exact abd (PA j) (ajP h) (.inl ⟨2,rfl⟩)
 |true=>grind [V8,aqX]

structure dG where
 k:Int
 a:Int
 b:Int
 c:Int
 l:Bool
 o:Bool
 s:Int
abbrev fO:=List dG
def dG.ps(m:dG):dF:=[.int .i64 m.k,.int .i64 m.a,.int .i64 m.b,.int .i64 m.c,.bool m.l,.bool m.o,.int .i64 m.s]
def IY{M:fO}{k:Nat}{m:dG}(h:M[k]?=some m):(M.map dG.ps)[k]?=some m.ps:=by rw[dy,h];rfl
def Nz(L:af)(c:a7)(blk:aG):Prop:=a8 960256128 p_ 6 (dQ L) (.one c) blk\/a8 960512129 p_ 6 (dQ L) (.one c) blk\/(L=[]/\c=.p (.sl []))
def Nz.snap{c:a7}{blk:aG}(h:Nz L c blk):∃r,Go.Abs.snap blk iC c=some (od L,r):=by
 rcases h with h|h|⟨rfl,rfl⟩
 .obtain⟨r,H,_⟩:=h.iC;exact⟨r,H⟩
 .obtain⟨r,H,_⟩:=h.iC;exact⟨r,H⟩
 exact⟨[],rfl⟩
def Nz.of_eq{c:a7}{blk ak:aG}(h:Nz L c blk)(H:ak 960256128=blk 960256128)(f:ak 960512129=blk 960512129):Nz L c ak:=by
 rcases h with h|h|h
 .exact .inl (h.of_eq H)
 .exact .inr (.inl (h.of_eq f))
 exact .inr (.inr h)
def aol{blk:aG}{rd:aC}{s:Nat}{e:Int}{l:Bool}:fR blk rd s ((oI e).ib l)=some (.tup [.agg [.p (.int .i64 0),.p .nils],.one (.p (.int .i64 e))],[]):=by cases l<;>(unfold fR;rw[an (.inr rfl)];rfl)
abbrev DK(m:dG):V:=jM m.k m.a m.b m.c m.l m.o m.s
def KP(s:Nat)(L:af)(c:a7)(blk:aG):Prop:=a8 s p_ 6 (dQ L) (.one c) blk\/(L=[]/\c=.p (.sl []))
def KP.snap{s:Nat}{c:a7}{blk:aG}(h:KP s L c blk):∃r,Go.Abs.snap blk iC c=some (od L,r):=by
 rcases h with h|⟨rfl,rfl⟩
 .obtain⟨r,H,_⟩:=h.iC;exact⟨r,H⟩
 exact⟨[],rfl⟩
def KP.of_eq{s:Nat}{c:a7}{blk ak:aG}(h:KP s L c blk)(H:ak s=blk s):KP s L c ak:=by
 rcases h with h|h
 .exact .inl (h.of_eq H)
 exact .inr h
def r9(x y:dG):Bool:=decide (x.b<y.b)||(decide (x.b=y.b)&&decide (x.c<y.c))
def G6(m:dG):Prop:=(0<=m.b/\m.b<=1000000)/\0<=m.c/\m.c<=1000000
def Vo:Sg r9:=⟨λa b h=>by unfold r9 at*;simp at*;omega,λa b c h k=>by unfold r9 at*;simp at*;omega⟩
def aoN(x y:dG)(j:G6 x)(H:G6 y):∃n:Int,aI S 149 [DK x,DK y] (jv n)/\(decide (n<0)=r9 x y):=by
 obtain⟨⟨A,v⟩,X,x4⟩:=j;obtain⟨⟨Y,B⟩,z,u⟩:=H;have f:IntKind.i64.wrap (x.b-y.b)=x.b-y.b:=oL J J;have m:IntKind.i64.wrap (x.c-y.c)=x.c-y.c:=oL J J;cases h:(x.b==y.b)with
 |true=>
  have e:=eq_of_beq h;refine⟨x.c-y.c,?_,?_⟩
  .refine bR afM ?_;simp only[go_sem,V4,bne,h,m]
  unfold r9
  grind
 |false=>
  have e:¬x.b=y.b:=by simpa using h
  refine⟨x.b-y.b,?_,?_⟩
  .refine bR afM ?_;simp only[go_sem,V4,bne,h,f]
  unfold r9
  grind
abbrev cY(o:fO):dh:=o.map dG.ps
def ahC(o:fO)(k:Nat)(v:dG):(cY o).set k v.ps=cY (o.set k v):=by simp[vd]
def sV(o:fO):I (cY o)=I o:=bG _
def Ph(id g v:Nat)(m:fO)(blk:aG)(f:V)(A:aG):Prop:=f=.tup []/\(∃h:fO,A id=(g,some (.arr v 7 (cY h)))/\h.Perm m/\tg r9 h 0 (I h))/\dL (· =id) blk A
abbrev C5:V:=.one (.p (.fn 149 [] []))
def anG{al:bU}{blk:aG}{id g:Nat}{m:fO}(o:al.ok id)(hl:I m<=1000000)(B:∀ac∈m,G6 ac)(hC:blk id=(g,some (.arr v 7 (cY m)))):
  ∃ab u,jG S 189 [.one (.hsl id g 7 0 (I m)),aE 0,aE (I m),C5] al blk ab u/\Ph id g v m blk ab u:=by
 have z:S.shared 149=false:=ah;refine oX ai1 (jx rfl) ?_;have w0:IntKind.i64.wrap (0+1)=((0+1:Nat):Int):=aa;simp only[go_sem,YO];refine df (λk A u=>A 0=.one (.hsl id g 7 0 (I m))/\A 1=aE 0/\A 2=aE (I m)/\A 3=C5/\A 8=aE ((k+1:Nat):Int)/\ ∃zs:fO,u id=(g,some (.arr v 7 (cY zs)))/\zs.Perm m/\tg r9 zs 0 (k+1)/\dL (· =id) blk u) 0 (I m) (bN _) ?_ ?_
 .simp only[go_sem];exact⟨rfl,m,hC,.refl _,λp q x y _ h1 D=>J,dL.refl _ _⟩
 rintro k A cK hk ⟨h0,h1,D,h3,X,zs,hZ,hp,ae,Z⟩
 have mR:=hp.length_eq;by_cases aB:k+1<I m
 .have O:((k+1:Nat):Int)<(I m:Int):=J;obtain⟨x,hx⟩:=aM (h:=zs) (k:=k+1) J;have sx:=B x (hp.mem_iff.1 (aX hx));simp only[go_sem,Pq,D,X,O];refine df (λq A u=>A 0=.one (.hsl id g 7 0 (I m))/\A 1=aE 0/\A 2=aE (I m)/\A 3=C5/\A 8=aE ((k+1:Nat):Int)/\A 9=aE ((k+1-q:Nat):Int)/\ ∃h:fO,u id=(g,some (.arr v 7 (cY h)))/\yY r9 zs h x 0 (k+1) (k+1-q)/\dL (· =id) blk u) 0 (k+1) (bN _) ?_ ?_
  .simp only[go_sem,h0,h1,D,h3,X];exact⟨zs,hZ,yY.start (bN _) hx ae,Z⟩
  rintro q dr aZ hq ⟨R,k1,k2,k3,k6,k7,h,Q,H,N⟩
  have ud:=H.perm.length_eq.trans mR;have wk:IntKind.i64.wrap (((k+1:Nat):Int)+1)=((k+1+1:Nat):Int):=cE J;by_cases HJ:k+1-q=0
  .have E:¬((0:Int)<((k+1-q:Nat):Int)):=J;simp only[go_sem,S3,Pv,R,k1,k2,k3,k6,k7,E,wk];refine⟨aS,J,h,Q,H.perm.trans hp,H.stop Vo (.inl HJ),N⟩
  obtain⟨j,hj⟩:∃j,k+1-q=j+1:=⟨k-q,J⟩;have E:((0:Int)<((j+1:Nat):Int)):=J;obtain⟨y,F⟩:=aM (h:=h) (k:=j) J;rw[hj]at H k7;have wj:IntKind.i64.wrap (((j+1:Nat):Int)-1)=(j:Int):=by rw[vB J];omega
  have pL:=IY H.at';have xh:=IY F;have j1:j+1<I m:=by have:=H.le;omega
  have j2:j<I m:=J;obtain⟨n,pl,M⟩:=aoN x y sx (B y ((H.perm.trans hp).mem_iff.1 (aX F)));cases L:r9 x y with
  |false=>
   rw[L]at M;have Y:¬(n<0):=by simpa using M
   simp only[go_sem,S3,Pv,R,k1,k2,k3,k6,k7,E,wk,wj,Q,pL,xh,dG.ps,j1,j2,o,z,Ox pl,Y];refine⟨aS,J,h,rfl,H.perm.trans hp,H.stop Vo (.inr ⟨y,J,F,L⟩),N⟩
  |true=>
   rw[L]at M;have Y:n<0:=by simpa using M
   have yj:=H.step Vo (bN _) F L;have T:¬(j+1=j):=J;have l2:j<I h:=J;simp only[go_sem,S3,Pv,R,k1,k2,k3,k6,k7,E,wj,Q,pL,xh,dG.ps,j1,j2,T,o,z,Ox pl,Y,pA,sV];have Bg:k+1-(q+1)=j:=J;refine⟨aS,aS,J,by rw[Bg],(h.set (j+1) y).set j x,by rw[<-ahC,<-ahC];rfl,by rw[Bg];exact yj,(N.dN rfl _).dN rfl _⟩
 have O:¬(((k+1:Nat):Int)<(I m:Int)):=J;simp only[go_sem,Pq,D,X,O];exact⟨rfl,⟨zs,hZ,hp,ae.mono (.inl J)⟩,Z⟩
def avP{al:bU}{blk:aG}{id g:Nat}{m:fO}(o:al.ok id)(F:al.fs.contains 189)(hl:I m<=12)(h:∀M∈m,G6 M)(H:blk id=(g,some (.arr v 7 (cY m))))(L:Int):
  ∃n A,jG S 177 [.one (.hsl id g 7 0 (I m)),aE 0,aE (I m),aE L,C5] al blk n A/\Ph id g v m blk n A:=by
 refine oX ado (jx rfl) ?_;have j:IntKind.i64.wrap ((I m:Int)-0)=(I m:Int):=by rw[Int.sub_zero];exact oL J J
 have y:(I m:Int)<=12:=J;simp only[go_sem,UD];refine mP ?_;simp only[go_sem,Zu,j,y,agC];refine xN H (by rfl) (.inr ⟨o,by rw[show S.sites 189=[189] by kernel_rfl];simp only[v_,zo,F,Dq]⟩) (λO x _=>anG x J h H) λn A u=>?_;obtain⟨rfl,f⟩:=u;simp only[go_sem];exact⟨rfl,f⟩
def arS{al:bU}{blk:aG}{id g:Nat}{m:fO}(o:al.ok id)(F:(S.sites 177).all al.fs.contains)(hl:I m<=12)(H:∀M∈m,G6 M)(j:blk id=(g,some (.arr v 7 (cY m)))):
  ∃n A,jG S 148 [.one (.hsl id g 7 0 (I m)),C5] al blk n A/\Ph id g v m blk n A:=by
 obtain⟨k,pb⟩:=XS (I m) J;have x:IntKind.u64.wrap (I m:Int)=(I m:Int):=by
  have e:IntKind.u64.wrap (I m:Int)=(I m:Int)%18446744073709551616:=by rfl
  rw[e];omega
 refine oX aaq (jx rfl) ?_;have f:S.shared 144=false:=ah;simp only[go_sem,Yu,x,f,Uu pb,ab6];refine xN j (by rfl) (.inr ⟨o,F⟩) (λO y h=>avP y (by rw[h];kernel_rfl) hl H j k) λn A u=>?_;obtain⟨rfl,h⟩:=u;simp only[go_sem];exact⟨rfl,h⟩
def apy(o:bQ)(x:Int)(hl:I o<=1000000):aI S 121 [.one (.p (.sl (dR o))),aE x] (jv (match (List.range (I o)).find? (qw o x)with|some k=>(k:Int)|none=> -1)):=by
 refine bR arM ?_;simp only[go_sem,ahc];refine df (λk A blk=>A 0=.one (.p (.sl (dR o)))/\A 1=aE x/\A 7=aE (I o)/\A 8=aE k/\ ∀j,j<k->qw o x j=false) 0 (I o) (bN _) ?_ ?_
 .simp only[go_sem];exact⟨rfl,λj v=>absurd v (nJ j)⟩
 rintro k A blk O ⟨F,M,z,f,u⟩
 by_cases B:k<I o
 .have L:((k:Int)<(I o:Int)):=J;obtain⟨y,E⟩:=aM B;have D:=r4 E;have N:=cE (n:=k) J;have m:qw o x k=(y==x):=by simp[qw,E]
  cases H:(y==x)with
  |true=>
   have Q:(x==y):=by have:=cW.1 H;simp[this]
   rw[H]at m;have hf:=BY (p:=qw o x) B u m;simp only[go_sem,QJ,F,M,z,f,L,D,Q,hf]
  |false=>
   have Q:(x==y)=false:=by
    have:¬y=x:=by simpa using H
    simp;exactλh=>this h.symm
   rw[H]at m;have Y:∀j,j<k+1->qw o x j=false:=λj v=>by
    rcases wT.1 v with h|rfl
    .exact u j h
    exact m
   simp only[go_sem,QJ,F,M,z,f,B,L,D,Q,N];exact Y
 have:k=I o:=J;subst this;have hf:=Gn (p:=qw o x) u;simp only[go_sem,QJ,ajh,z,f,ff,hf]
def asT(o:bQ)(x:Int)(hl:I o<=1000000):aI S 85 [.one (.p (.sl (dR o))),aE x] (eh (o.contains x)):=by
 have f:=apy o x hl;refine bR auD ?_;cases n:o.contains x with
 |true=>
  have R:x∈o:=by simpa using n
  obtain⟨k,u⟩:=fX R;have F:=(bd.1 u).1;cases hf:(List.range (I o)).find? (qw o x)with
  |none=>have:=CR.1 hf k (fA.2 F);simp[qw,u]at this
  |some j=>rw[hf]at f;have m:(0:Int)<=(j:Int):=J;simp only[go_sem,Xm,aaD,hI f,m]
 |false=>
  have R:x∉o:=by simpa using n
  cases hf:(List.range (I o)).find? (qw o x)with
  |some j=>
   have h:=CO hf;unfold qw at h;cases H:o[j]? with
   |none=>rw[H]at h;cases h
   |some y=>
    rw[H]at h;have:y=x:=by simpa using h
    subst this;exact absurd (aX H) R
  |none=>rw[hf]at f;have m:¬(0:Int)<= -1:=aa;simp only[go_sem,Xm,aaD,hI f,m]
def GB(a b:dG):Bool:=(a.k==b.k)&&((a.a==b.a)&&((a.b==b.b)&&((a.c==b.c)&&((a.l==b.l)&&((a.o==b.o)&&(a.s==b.s))))))
def auH(x y:dG):nT [true,true,true,true,false,false,true] [.p (.int .i64 x.k),.p (.int .i64 x.a),.p (.int .i64 x.b),.p (.int .i64 x.c),.p (.bool x.l),.p (.bool x.o),.p (.int .i64 x.s)] [.p (.int .i64 y.k),.p (.int .i64 y.a),.p (.int .i64 y.b),.p (.int .i64 y.c),.p (.bool y.l),.p (.bool y.o),.p (.int .i64 y.s)]=some (GB x y):=by
 have e:∀a b:Int,nZ true (.int .i64 a) (.int .i64 b)=some (a==b):=λa b=>by simp[nZ]
 have E:∀a b:Bool,nZ false (.bool a) (.bool b)=some (a==b):=λa b=>by simp[nZ]
 simp[nT,GB,e,E]
 grind
def akL{a b:dG}(h:GB a b):a=b:=by
 cases a;cases b;unfold GB at h
 grind
theorem awV(a:dG):GB a a:=by unfold GB;simp
def apH(M:fO)(x:dG)(Q:I M<=1000000):∃i:Int,((0<=i->x∈M)/\(i<0->x∉M))/\aI S 176 [.one (.p (.sl (cY M))),DK x] (jv i):=by
 have:∃r,(∃i:Int,((0<=i->x∈M)/\(i<0->x∉M))/\r=jv i)/\aI S 176 [.one (.p (.sl (cY M))),DK x] r:=by
  refine Cd rfl axM (jx rfl) ?_;simp only[go_sem,aju];refine df (λk A blk=>A 0=.one (.p (.sl (cY M)))/\A 3=.one (.bh 11264000000 1 0)/\blk 11264000000=(1,some (.var [.p (.int .i64 x.k),.p (.int .i64 x.a),.p (.int .i64 x.b),.p (.int .i64 x.c),.p (.bool x.l),.p (.bool x.o),.p (.int .i64 x.s)]))/\A 7=aE (I M)/\A 8=aE k/\x∉M.take k) 0 (I M) (bN _) ?_ ?_
  .simp only[go_sem];simp
  rintro k A blk R ⟨v,z,D,u,f,N⟩
  by_cases F:k<I M
  .have B:((k:Int)<(I M:Int)):=J;obtain⟨m,y⟩:=aM F;have E:=IY y;have L:=cE (n:=k) J;have H:=auH x m;cases j:GB x m with
   |true=>rw[j]at H;simp only[go_sem,Q4,v,z,D,u,f,B,E,dG.ps,H];exact⟨aS,_,⟨_,⟨λ_=>(akL j)▸aX y,λh=>J⟩,rfl⟩,rfl⟩
   |false=>
    rw[j]at H;simp only[go_sem,Q4,v,z,D,u,f,F,B,E,dG.ps,L,H];refine⟨aS,λh=>?_⟩;rw[jB,y]at h;rcases iR.1 h with h|h
    .exact N h
    grind [awV]
  have:k=I M:=J;subst this;simp only[go_sem,Q4,aeV,u,f,ff]
  grind
 obtain⟨_,⟨i,O,rfl⟩,h⟩:=this;exact⟨i,O,h⟩
def ahY(m:fO)(x:dG)(f:I m<=1000000):∃b,((b=true->x∈m)/\(b=false->x∉m))/\aI S 147 [.one (.p (.sl (cY m))),DK x] (eh b):=by obtain⟨i,H,j⟩:=apH m x f;refine⟨decide _,⟨λh=>H.1 (D1 h),λh=>H.2 (by grind)⟩,?_⟩;refine bR auG ?_;simp only[go_sem,ai2,au6,hI j]
end
end Go.Abs
