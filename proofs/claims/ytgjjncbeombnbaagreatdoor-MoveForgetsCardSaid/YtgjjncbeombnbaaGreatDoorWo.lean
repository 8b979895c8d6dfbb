/- A part. -/
import Derived.Test.YtgjjncbeombnbaaGreatDoorWn
set_option linter.all false
open List renaming length->I
set_option maxRecDepth 100000
set_option maxHeartbeats 16000000
namespace Go.Abs
variable{v:Nat}{m:dG}
section
variable {F:Nat} {L X:af} {P:aU} {f:Nat}
def uV.nx(S:uV F P X f)(h:I P=I L)(H:v<I L):Go.Abs.nx X (ny (I L) f v)=ny (I L) f (Go.Abs.nx L v):=by have hf:=S.hf;rw[h]at hf;show _%I X=_;rw[S.len,h,<-TI hf H]
def uV.sw(S:uV F P X f)(u:I P=I L):∀ {E:aC}{Y Z:aU},I Y=I L->I Z=I L->(∀e∈E,e<I L)->(∀v,v<I L->Y[ny (I L) f v]?=Z[v]?)->∀v,v<I L->(fN X Y (E.map (ny (I L) f)))[ny (I L) f v]?=(fN L Z E)[v]? :=by
 have hf:=S.hf;have H:=S.len;rw[u]at hf H;intro E
 induction E with
 |nil=>intro Y Z _ _ _ h;exact h
 |cons e E D=>
  intro Y Z y j n h;have dV:=n e aH;have m:Go.Abs.nx L e<I L:=cJ _ J;refine D (by rw[uI,y]) (by rw[uI,j]) (λx A=>n x (by simp[A])) λv B=>?_;rw[Am (by rw[H,y]) (by rw[H];exact LM hf),Am j dV,S.nx u dV];by_cases c1:v=Go.Abs.nx L e
  .subst c1;rw[an rfl,an rfl,h _ dV]
  rw[ai c1,ai λk=>c1 (TL hf B m k)];by_cases z:v=e
  .subst z;rw[an rfl,an rfl,h _ m]
  grind [TL]
def uV.CA(S:uV F P X f)(H:I P=I L)(m:∀p∈P,p.l.aw=false->p.d=false)(n:v<I L):(aA X)[ny (I L) f v]?=P[v]? :=by
 obtain⟨p,hp⟩:=aM (h:=P) (k:=v) J;have h:=S.at_ v p hp;have j:=S.dn v p hp;rw[H]at h j;rw[gZ h,hp];have:dw X (ny (I L) f v)=p.d:=by
  unfold dw
  grind
 rw[this]
theorem Bp{p:aK}(h:p∈aA L)(hp:p.l.aw=false):p.d=false:=by
 obtain⟨v,H⟩:=fX h;have hl:=(bd.1 H).1;rw[cZ]at hl;obtain⟨l,f⟩:=aM hl;rw[gZ f]at H
 grind [dw]
end
section
variable {F:Nat} {L X:af} {P:aU} {f:Nat}
def uV.aR(S:uV F P X f)(j:I P=I L){u:Nat}(m:v<I L)(H:u<I L)(h:P[v]?=(aA L)[u]?):Go.Abs.aR X (ny (I L) f v)=Go.Abs.aR L u:=by obtain⟨l,hl⟩:=aM H;rw[gZ hl]at h;have:=S.at_ v _ h;rw[j]at this;rw[kR this,kR hl]
end
def O5{L:af}{l:U}(h:L[v]?=some l)(hp:l.aw):dw L v=dn L v:=by grind [dw]
section
variable {F:Nat} {L X:af} {P:aU} {f:Nat}
def uV.au(S:uV F P X f)(q:U->Bool):Go.Abs.au q X=Go.Abs.au q (P.map aK.l):=by
 have hf:=S.hf;have H:=S.len;have e:X=fh (P.map aK.l) f:=by
  apply nj;intro k;have hl:I (P.map aK.l)=I P:=bG ..;by_cases h:k<I P
  .have j:(f+k)%I P<I P:=cJ _ J;obtain⟨p,hp⟩:=aM j;have:=S.at_ _ p hp;rw[Zn hf h]at this;rw[this,Hk J J,hl,dy,hp];rfl
  rw[kQ J,kQ (by rw[t_];omega)]
 rw[e,Qu]
end
section
variable {F:Nat} {L X:af} {P:aU} {f:Nat}
def ajS(g:a_ F L){n:aC}(z:n∈fF (aO L) (nD L))(A:(kO F L n).places.length=1){d:Nat}(D:aO L d<2*I L)(B:aO L d∈n)(two:∀y,y∈n->y<2*I L->y=d\/y=aO L d)
  {p q w:Nat} (M:bJ (I L) d=p) (E:bJ (I L) (aO L d)=w) (T:bP (I L) (aO L d)=q) {j f x:U} (O:L[p]?=some j) (H:L[q]?=some f) (Z:L[w]?=some x) (pq:f.aw) (N:x.aq):
  j.gate=f.gate/\((dn L q=bY (aO L d)/\j.ao=f.ao+1/\bY d= !dn L p)\/(dn L q=(!bY (aO L d))/\f.ao=j.ao+1/\bY d=dn L p)):=by
 obtain⟨u,m,y,Q,Y,X,R,y5⟩:=O8 g z A B (by rw[<-T];exact CS D) H pq;have v:=(bd.1 Y).1;have al:∀h,bJ (I L) (dx (I L) u h)=u/\dx (I L) u h<2*I L/\bY _=h:=λh=>⟨(GD v).1,by
  have:=uB v (!h);rw[<-tc]at this;have:=tD this;rwa[tp]at this,(GD v).2⟩
 grind [jV]
def s6.two{e p:Nat}(h:s6 L e p v){Q:Nat->Nat->Prop}(ae:∀x y,Q x y->Q y x):Q e (nx L e)↔Q p v:=by
 rcases h.1 with⟨rfl,rfl⟩|⟨rfl,rfl⟩
 .exact Iff.rfl
 grind
end
def dp{h:Type}(a b:List h):Prop:= ∃u v,a=u++v/\b=v++u
section
variable {h j:Type} {a b c:List h}
def dp.refl(a:List h):dp a a:=⟨[],a,rfl,(i_ a).symm⟩
def dp.symm(h:dp a b):dp b a:=by obtain⟨u,v,H,f⟩:=h;exact⟨v,u,f,H⟩
def dp.trans(h:dp a b)(k:dp b c):dp a c:=by
 obtain⟨u,v,rfl,rfl⟩:=h;obtain⟨j,f,e,rfl⟩:=k;rcases Yr.1 e with⟨w,rfl,rfl⟩|⟨w,rfl,rfl⟩
 .exact⟨w,f++v,aH,aH⟩
 exact⟨u++j,w,aH,aH⟩
def dp.map(f:h->j)(H:dp a b):dp (a.map f) (b.map f):=by obtain⟨u,v,rfl,rfl⟩:=H;exact⟨u.map f,v.map f,fE,fE⟩
def dp.filter(p:h->Bool)(H:dp a b):dp (a.filter p) (b.filter p):=by obtain⟨u,v,rfl,rfl⟩:=H;exact⟨u.filter p,v.filter p,BF ..,BF ..⟩
def dp.perm(h:dp a b):a.Perm b:=by obtain⟨u,v,rfl,rfl⟩:=h;exact Fe
def dp.len(h:dp a b):I a=I b:=h.perm.length_eq
def dp.at2{x y:h}{s l:List h}(f:dp (x::y::s) l):∃a,a<I l/\l[a]?=some x/\l[(a+1)%I l]?=some y/\l.drop a++l.take a=x::y::s:=by
 have hl:2<=I l:=by rw[<-f.len];simp
 obtain⟨a,ha,e⟩:∃a,a<I l/\l.drop a++l.take a=x::y::s:=by
  obtain⟨u,v,e,rfl⟩:=f;by_cases H:u=[]
  .subst H;exact⟨0,J,by simp[e]⟩
  have:=gA.2 H;exact⟨I v,by rw[fU];omega,by simp[e]⟩
 obtain _:=air ha hl
 grind
end
def Sy{h:Type}{X Y:List h}(H:X≠[]):(X++Y).head?=X.head?:=by
 cases X with
 |nil=>exact absurd rfl H
 |cons a X=>rfl
def Mp{h:Type}{X Y:List h}(H:Y≠[]):(X++Y).getLast?=Y.getLast?:=by
 have:=gA.2 H
 grind
def GC(u v x:aU)(h:u≠[]):ft (u++v) x (I u-1)=u++x++v:=by grind
def GR{h:Type}{u v:List h}(H:u≠[]):(u++v)[I u-1]?=u.getLast?:=by
 have:=gA.2 H
 grind
def dp.ins{r l:aU}(h:dp r l)(f:r≠[]):∃k,k<I l/\l[k]?=r.getLast?/\l[(k+1)%I l]?=r.head?/\ ∀x,dp (x++r) (ft l x k):=by
 obtain⟨u,v,rfl,rfl⟩:=h;by_cases H:v=[]
 .subst H;rw[i_]at f |-;have n:=GC u [];have m:=GR (v:=[]) f;have:=gA.2 f;rw[i_]at n m;refine⟨I u-1,by rw[fz];omega,m,?_,λx=>?_⟩
  .rw[fz,show I u-1+1=I u by omega,vv,BX]
  rw[fz,n x f,i_];exact⟨x,u,rfl,rfl⟩
 have:=gA.2 H;refine⟨I v-1,by rw[fU];omega,?_,?_,λx=>?_⟩
 .rw[GR H,Mp H]
 .rw[show I v-1+1=I v by omega];by_cases j:u=[]
  .subst j;simp[BX]
  have O:=gA.2 j;rw[eN (by grind),o_ (ct _),xf,Sy j,BX]
 rw[GC v u x H];exact⟨x++u,v,aH,aH⟩
def Re{A B a7:aU}(h:A≠[])(f:B≠[]):∃i j,i<j/\j<I (A++B++a7)/\(A++B++a7)[i]?=A.getLast?/\(A++B++a7)[j]?=B.getLast?/\(A++B++a7)[(i+1)%I (A++B++a7)]?=B.head?/\(A++B++a7)[(j+1)%I (A++B++a7)]?=(a7++A).head?/\ ∀p q,ft (ft (A++B++a7) q j) p i=A++p++B++q++a7:=by
 have L:=gA.2 h;have m:=gA.2 f;have N:A++B≠[]:=by simp[h]
 have E:I (A++B)=I A+I B:=fU;refine⟨I A-1,I (A++B)-1,J,by rw[@List.length_append _ (A++B) _];omega,?_,?_,?_,?_,λp q=>?_⟩
 .rw[kr,GR h]
 .rw[GR N,Mp f]
 .rw[show I A-1+1=I A by omega,eN (by rw[fU];omega),kr,o_ (ct _),xf,sC m,BX]
 .rw[show(A++B).length-1+1=I (A++B) by omega];by_cases H:a7=[]
  .subst H;rw[i_,vv,fz,sC L,BX]
  have n:=gA.2 H;rw[eN (by rw[@List.length_append _ (A++B) _];omega),o_ (ct _),xf,Sy H,BX]
 rw[GC (A++B) a7 q N,show A++B++q++a7=A++(B++q++a7) by simp,GC A _ p h];simp
def dp.afk{r1 R l:aU}(h:dp (r1++R) l)(f:r1≠[])(H:R≠[]):∃a b,a<I l/\b<I l/\a≠b/\l[a]?=R.getLast?/\l[b]?=r1.getLast?/\l[(a+1)%I l]?=r1.head?/\l[(b+1)%I l]?=R.head?/\ ∀x y,dp (x++r1++y++R) (if a<b then ft (ft l y b) x a else ft (ft l x a) y b):=by
 obtain⟨u,v,e,rfl⟩:=h;have z:∀(X Y:aU),X≠[]->(X++Y).head?=X.head?:=λX Y h=>Sy h;rcases Yr.1 e with⟨w,rfl,rfl⟩|⟨w,rfl,rfl⟩
 .by_cases n:v=[]
  .subst n;rw[i_]at H |-;obtain⟨i,j,k1,k2,k3,k4,k5,k6,k7⟩:=Re (A:=r1) (B:=w) (a7:=[]) f H;rw[i_]at k2 k3 k4 k5 k6 k7;rw[fz]at k6;rw[fz];refine⟨j,i,k2,J,J,k4,k3,k6,k5,λx y=>?_⟩;rw[ai J,k7 y x,i_];exact⟨x,r1++y++w,aH,aH⟩
  obtain⟨i,j,k1,k2,k3,k4,k5,k6,k7⟩:=Re (A:=v) (B:=r1) (a7:=w) n f;rw[kr]at k2 k3 k4 k5 k6 k7;refine⟨i,j,J,k2,J,?_,k4,k5,k6,λx y=>?_⟩
  .rw[k3,Mp n]
  rw[an k1,k7 x y];exact⟨x++r1++y++w,v,aH,aH⟩
 by_cases m:w=[]
 .subst m;rw[i_]at f |-;rw[fz];obtain⟨i,j,k1,k2,k3,k4,k5,k6,k7⟩:=Re (A:=R) (B:=u) (a7:=[]) H f;rw[i_]at k2 k3 k4 k5 k6 k7;rw[fz]at k6;refine⟨i,j,J,k2,J,k3,k4,k5,k6,λx y=>?_⟩;rw[an k1,k7 x y,i_];exact⟨x++u++y,R,aH,aH⟩
 obtain⟨i,j,k1,k2,k3,k4,k5,k6,k7⟩:=Re (A:=w) (B:=R) (a7:=u) m H;refine⟨j,i,k2,J,J,k4,?_,?_,k5,λx y=>?_⟩
 .rw[k3,Mp m]
 .rw[k6]
 rw[ai J,k7 y x];exact⟨x++u,w++y++R,aH,aH⟩
section
variable {F:Nat} {L X:af} {P Q:aU} {f:Nat}
def cO(h:Int->Int)(p:aK):aK:=⟨dk h p.l,p.d⟩
def ayo(g:a_ F L){h:Int->Int}(hf:inj h L)(T:fP F Q)(r:dp ((aA L).map (cO h)) Q):jo (cL Q) L:=by
 obtain⟨m,A,B,R,⟨q0,Y,Pg,D⟩,_⟩:=Gh T;have H:=r.len;rw[bG,cZ]at H;rw[<-H]at A B R;have z:0<I L:=J;obtain⟨i,hi,get⟩:∃i,i<I L/\ ∀x,x<I L->Q[x]?=((aA L)[(i+x)%I L]?).map (cO h):=by
  obtain⟨u,v,Z,rfl⟩:=r;have hl:I u+I v=I L:=by grind
  have M:∀j,((aA L)[j]?).map (cO h)=(u++v)[j]? :=λj=>by rw[<-Z,dy]
  by_cases N:v=[]
  .subst N;refine⟨0,z,λx n=>?_⟩;rw[M,jO,eN n,i_,fz]
  have:=gA.2 N;refine⟨I u,J,λx n=>?_⟩;rw[M];by_cases c:x<I v
  .rw[sC c,eN J,o_ J];congr 1;omega
  rw[o_ J,Mk J,eN J,sC J];congr 1;omega
 have O:(i+m)%I L<I L:=cJ _ z;have e:cL Q=(fh L ((i+m)%I L)).map (dk h):=by
  apply nj;intro k;by_cases E:k<I L
  .rw[B k E,get _ (cJ _ z),dy,Hk O E,F7,<-yQ,vT];obtain⟨l,hl⟩:=aM (cJ _ z);rw[gZ hl,hl];rfl
  rw[kQ J,kQ (by rw[bG,t_];omega)]
 rw[e];refine(PT λx n y X=>hf x (CU.1 n) y (CU.1 X)).trans (J4 J g.even ?_);rw[get m A]at Y;obtain⟨l,hl⟩:=aM O;rw[gZ hl]at Y;have f:dw L ((i+m)%I L):=by rw[<-ld Y]at D;exact D
 unfold dw at f;rw[hl]at f;have f:=f;rw[cN]at f;have:=f.2;unfold Go.Abs.dn at this;exact cW.1 this
def ax1(f_:fP F P)(m:dM (F:Int) (cL P)=0)(j:∀p∈P,p.l.aw=false->p.d=false):a_ F (cL P)/\dp P (aA (cL P)):=by
 obtain⟨f,S⟩:=amQ f_ m;refine⟨S.g,P.take f,P.drop f,(jC f P).symm,?_⟩;have hf:=S.hf;have u:=S.len;apply nj;intro k;have H:I P=I (P.map aK.l):=(bG ..).symm;by_cases h:k<I P
 .have n:(f+k)%I P<I P:=cJ _ J;have:=S.CA H j (v:=(f+k)%I P) J;rw[<-H,Zn hf h]at this;rw[M1 hf h,this]
 rw[kQ (by rw[cZ];omega),kQ (by grind)]
end
section
variable {F:Nat} {L X:af} {P Q:aU} {f:Nat}
def vq{k a b c sg:Int}{l o:Bool}(h:k=1\/k=4\/k=9\/k=10):eZ F L k a b c l o sg↔ ∃A:Nat,A<I L/\a=A/\b=0/\c=0/\l=false/\o=false/\sg=0:=by
 unfold eZ
 grind [jb,nk]
def VP(g:a_ F L)(h:iP F L m=some X):dM (F:Int) X=0/\eZ F L m.k m.a m.b m.c m.l m.o m.s/\ ∃P,mg F L m.k m.a.toNat m.b.toNat m.c.toNat m.l m.o m.s=some P/\X=cL P/\(I L:Int)+(gK m.k).1<=400/\((au U.aq L/2:Nat):Int)+(gK m.k).2<=100:=by
 unfold iP at h;rw[ai g.ne]at h;split at h
 .rename_i j;cases H:mg F L m.k m.a.toNat m.b.toNat m.c.toNat m.l m.o m.s with
  |none=>rw[H]at h;cases h
  |some P=>
   rw[H]at h;simp only at h;split at h
   .cases h
   rename_i ae;cases h;refine⟨?_,j,P,rfl,rfl,J,J⟩;rcases Z3 g m.k m.a m.b m.c m.l m.o m.s with _|⟨M,_,n,_,u,f,rfl⟩
   .grind [qG,sH]
   grind
 cases h
def anu(g:a_ F X)(H:eZ F X m.k m.a m.b m.c m.l m.o m.s)(h:mg F X m.k m.a.toNat m.b.toNat m.c.toNat m.l m.o m.s=some Q)(f:(I X:Int)+(gK m.k).1<=400)(j:((au U.aq X/2:Nat):Int)+(gK m.k).2<=100):iP F X m=some (cL Q):=by
 unfold iP;rw[ai g.ne,an H,h]
 grind
def Ld{g A b:Int}{p:aK}:(ch g A b p).l.aw=p.l.aw/\(ch g A b p).d=p.d:=by unfold ch U.aw;split<;>exact⟨rfl,rfl⟩
def EW{p:aK}(h:(aA L)[v]?=some p):L[v]?=some p.l/\p.d=dw L v:=by have H:=(bd.1 h).1;rw[cZ]at H;obtain⟨l,hl⟩:=aM H;rw[gZ hl]at h;cases h;exact⟨hl,rfl⟩
def awD{a:Nat}{f:aK->aK}{q:aK}(hf:∀p,(f p).l.aw=p.l.aw/\(f p).d=p.d)(H:q.l.aw):∀z∈((aA L).map f).set a q,z.l.aw=false->z.d=false:=by
 intro z h hp;rcases List.mem_or_eq_of_mem_set h with h|rfl
 .obtain _:=cD.1 h
  grind [Bp]
 grind
end
section
variable {F:Nat} {L X:af} {P Q:aU}
def xI(l:aU)(ids:bQ):jS l ids=(l.filter λp=> !((p.l.kind==2)&&ids.contains p.l.id)).map (jL ids):=by show(kW l _).map _=_;have:=U7 (l:=l) (drop:=tX ids) λ_ _=>rfl;rw[this]
def dp.jS{l m:aU}(h:dp l m)(ids:bQ):dp (jS l ids) (jS m ids):=by rw[xI,xI];exact(h.filter _).map _
theorem aoo(ids:bQ)(p:aK):(jL ids p).l.aw=p.l.aw/\(jL ids p).d=p.d:=by unfold jL jY U.aw;split<;>exact⟨rfl,rfl⟩
def agr{ids:bQ}{l:aU}(h:∀p∈l,p.l.aw=false->p.d=false):∀p∈jS l ids,p.l.aw=false->p.d=false:=by
 intro p hp D;rw[xI]at hp;obtain _:=cD.1 hp
 grind [aoo]
def Yh(l x:aU)(k:Nat):dp (x++(l.drop (k+1)++l.take (k+1))) (ft l x k):=⟨x++l.drop (k+1),l.take (k+1),aH,by unfold ft;simp⟩
def Ct(l:aU)(k:Nat):dp l (l.drop k++l.take k):=⟨l.take k,l.drop k,(jC k l).symm,rfl⟩
def RJ(g:a_ F L){p:aK}(h:p∈aA L)(H:p.l.aq):1<=p.l.id/\p.l.id<=((au U.aq L/2:Nat):Int):=by rw[<-rC]at h;obtain⟨x,f,rfl⟩:=cD.1 h;have:=(g.cz).ids x f H;rwa[h_]at this
def ahL{ids:bQ}{p:aK}(H:p.l.kind=2)(h:p.l.id∈ids):(!((p.l.kind==2)&&ids.contains p.l.id))=false:=by grind
def UN{a b c sg:Int}{l o:Bool}:eZ F L 5 a b c l o sg↔ ∃A:Nat,A<I L/\a=A/\b=0/\c=0/\l=false/\(sg=1\/sg= -1):=by
 unfold eZ;simp;constructor
 .rintro ⟨rfl,ae,h,rfl,rfl⟩
  obtain _:=jb h
  grind
 rintro⟨A,H,rfl,rfl,rfl,rfl,ae⟩
 exact⟨rfl,ae,by unfold nk;simp;omega,rfl,rfl⟩
end
section
variable {F:Nat} {L X:af} {P Q:aU}
def Fh{a b c sg:Int}{l o:Bool}:eZ F L 2 a b c l o sg↔ ∃A B f:Nat,(A<I L\/(I L=0/\A=0))/\B<=F/\f<=aJ L B/\a=A/\b=B/\c=f/\l=false/\o=false/\sg=0:=by
 unfold eZ;simp only[Int.reduceEq,if_true,if_false,or_self,cN,qZ,ke,cW,jn];constructor
 .rintro ⟨rfl,rfl,rfl,h,j,D,N,n⟩
  obtain⟨B,rfl⟩:=lB j;obtain⟨f,rfl⟩:=lB N;rw[js]at n;rcases h with h|⟨H,rfl⟩
  .obtain⟨A,rfl,m⟩:=jb h;exact⟨A,B,f,.inl m,J,J,rfl,rfl,rfl,rfl,rfl,rfl⟩
  exact⟨0,B,f,.inr ⟨H,rfl⟩,J,J,rfl,rfl,rfl,rfl,rfl,rfl⟩
 grind [nk]
end
section
variable {F:Nat} {L X:af} {P Q:aU}
def Ze{a b c sg:Int}{l o:Bool}:eZ F L 7 a b c l o sg↔ ∃A B:Nat,A<I L/\B<I L/\A≠B/\a=A/\b=B/\c=0/\sg=0:=by
 unfold eZ;simp only[Int.reduceEq,if_true,if_false,or_self,cN,ke,cW,mE,ne_eq];constructor
 .rintro ⟨rfl,j,rfl,H,D⟩
  obtain⟨A,rfl,h⟩:=jb j;obtain⟨B,rfl,f⟩:=jb H;exact⟨A,B,h,f,J,rfl,rfl,rfl,rfl⟩
 grind [nk]
end
end Go.Abs
