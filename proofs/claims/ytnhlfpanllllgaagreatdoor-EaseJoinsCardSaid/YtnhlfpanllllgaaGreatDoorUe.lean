/- A part. -/
import Derived.Test.YtnhlfpanllllgaaGreatDoorUc
import Derived.Test.YtnhlfpanllllgaaGreatDoorVb
set_option linter.all false
open List renaming length->I
set_option maxHeartbeats 16000000
namespace Go.Abs
variable{g f:Bool}{x y:cM}{j:Nat->gj}{L:cY}
def tS.Tt{i o j q:gj}(h:tS g i o j q):tS (!g) (jX o) (jX i) j q:=by obtain⟨a,b,c,d⟩:=h;cases g<;>simp only[eX,if_false,if_true]at a b c d<;>constructor<;>simp[jX,a,b,c,d]
def tS.Tu{i o j q:gj}(h:tS g i o j q):tS (!g) i o (jX q) (jX j):=by obtain⟨a,b,c,d⟩:=h;cases g<;>simp only[eX,if_false,if_true]at a b c d<;>constructor<;>simp[jX,a,b,c,d]
def iG(f:Bool)(x:cM):gj:=if f then x.i else jX x.o
def jJ(f:Bool)(x:cM):gj:=if f then x.o else jX x.i
def Z5{F:Bool}:tS true (iG f x) (jJ f x) (iG F y) (jJ F y)↔tS (f==F) x.i x.o y.i y.o:=by
 cases f<;>cases F<;>simp only[iG,jJ,eX,if_false,if_true]
 .exact⟨λh=>h.Tt.Tu,λh=>h.Tt.Tu⟩
 .exact⟨λh=>h.Tt,λh=>h.Tt⟩
 .exact⟨λh=>h.Tu,λh=>h.Tu⟩
 exact Iff.rfl
def cO (n d:Nat):Nat:=if d%2=0 then d/2 else(d/2+1)%n
def cQ (n d:Nat):Nat:=if d%2=0 then(d/2+1)%n else d/2
def cW(d:Nat):Bool:=d%2==0
section
variable {F:Nat} {h:ae}
def dt(P:cY)(j:Nat->gj)(i:Nat):cM:=⟨P.getD i ⟨lD,false⟩,j ((i+I P-1)%I P),j i⟩
def Bh (P:cY)(j:Nat->gj):iA:=(List.range (I P)).map (dt P j)
def ais(P:cY)(j:Nat->gj):(Bh P j).map cM.p=P:=by
 unfold Bh;rw[o9];apply y_;intro i;rw[fY];by_cases h:i<I P
 .obtain⟨p,hp⟩:=aR h;rw[qx h,hp];show some (P.getD i _)=_;rw[dS,hp];rfl
 rw[oF (by rw[Cq];omega),oF J];rfl
def ayZ(P:cY)(j:Nat->gj)(h:0<I P):∃s,mr s (Bh P j) s:=by
 refine⟨j (I P-1),?_⟩;have:=ano (dt P j) (λi=>j ((i+I P-1)%I P)) (I P) 0 λi _ H=>⟨rfl,?_⟩
 .simp only[kA]at this;rw[jv J,show I P+I P-1=(I P-1)+I P by omega,yq,jv J,<-aeL]at this;exact this
 show j i=j ((i+1+I P-1)%I P);rw[show i+1+I P-1=i+I P by omega,yq,jv J]
def ahx(g:cK F h){P:cY}{z B:Nat->Nat->Nat}{T:Nat}(hl:I P=I h)
  (N:ai aa.aF (P.map aU.l)=ai aa.aF h) (X:ai aa.aM (P.map aU.l)=ai aa.aM h) (R:∀k,di (P.map aU.l) k=di h k)
  (ok:∀i,i<I h->Ar F (dt P j i)) (cr:∀i u,i<I h->u<I h->i≠u->nY (dt P j i) (dt P j u)) (rk:∀i u,i<I h->u<I h->i≠u->Ah (dt P j i) (dt P j u))
  (ids:∀i,i<I h->(dt P j i).k.aF->1<=(dt P j i).k.id/\(dt P j i).k.id<=((ai aa.aF h/2:Nat):Int))
  (rr:∀i,i<I h->(dt P j i).k.aM->1<=(dt P j i).k.ay/\(dt P j i).k.ay<=(di h (dt P j i).k.gate.toNat:Int))
  (pl:∀i,i<I h->(dt P j i).k.aM->HJ z B (dt P j i))
  (gt:∀k,k<F->z k (di h k)=z (k+1) 0/\B k (di h k)=B (k+1) 0) (gz:z F (di h F)=z 0 0/\B F (di h F)=B 0 0)
  (wit:∀u,u<I h->∀t,(t=(r4 h u).l\/t=(r4 h u).r)->t=T\/ ∃A,A<I h/\(t=(j A).l\/t=(j A).r)):oD F P:=by
 have hn:0<I h:=jr.2 g.ne;have D:bG (Bh P j)=P.map aU.l:=by
  show(Bh P j).map (λx=>x.p.l)=_;have:(Bh P j).map (λx=>x.p.l)=((Bh P j).map cM.p).map aU.l:=by rw[o9];rfl
  rw[this,ais]
 have mem:∀x∈Bh P j,∃i,i<I h/\x=dt P j i:=λx H=>by obtain⟨i,f,rfl⟩:=eg.1 H;exact⟨i,by have:=gI.1 f;omega,rfl⟩
 have Q:∀i,i<I h->dt P j i∈Bh P j:=λi f=>eg.2 ⟨i,gI.2 J,rfl⟩;have q:qV F (Bh P j) z B:=by
  refine⟨λx H=>?_,VP λi u f E M=>cr i u J J M,?_,λx H hc=>?_,VP λi u f E M=>rk i u J J M,λx H hp=>?_,λx H hp=>?_,λk Y=>?_,?_⟩
  .obtain⟨i,f,rfl⟩:=mem x H;exact ok i f
  .rw[D,N];have:=g.cz.ev;rwa[nV]at this
  .obtain⟨i,f,rfl⟩:=mem x H;rw[D,N];exact ids i f hc
  .obtain⟨i,f,rfl⟩:=mem x H;rw[D,R];exact rr i f hp
  .obtain⟨i,f,rfl⟩:=mem x H;exact pl i f hp
  .rw[D,R];exact gt k Y
  rw[D,R];exact gz
 refine⟨Bh P j,z,B,(List.range (oi h)).filter (λs=> ![T].contains s),ais P j,⟨ayZ P j J,q.ok,q.cr,q.ev,q.ids,q.rk,q.rr,q.pl,q.gt,q.gz,?_,D5.filter _,λs hs=>?_,?_⟩⟩
 .have:0<ai aa.aM (P.map aU.l):=by
   rw[X];obtain⟨l,y,m⟩:=g.first;exact xk.2 ⟨l,ch y,m⟩
  rw[<-D]at this;obtain⟨l,y,m⟩:=xk.1 this;obtain⟨x,H,rfl⟩:=eg.1 y;exact⟨x,H,m⟩
 .obtain⟨y,m⟩:=uQ.1 hs;have m:s≠T:=by simpa using m
  obtain⟨x,H,e⟩:=g.cz.wit s y;obtain⟨u,E,rfl⟩:=eg.1 H;have E:=gI.1 E;rcases wit u E s e with Z|⟨A,O,Z⟩
  .exact absurd Z m
  exact⟨dt P j A,Q A O,Z⟩
 rw[D,N,X];have y:=ahp (L:=[T]) (D5 (n:=oi h));have m:=g.nw;rw[Cq]at y;simp only[dw,eK]at y;omega
def Pa(g:cK F h){d:Nat}(H:d<2*I h):cO (I h) d<I h:=by
 unfold cO;split
 .omega
 exact fC _ (jr.2 g.ne)
def JJ(g:cK F h){d:Nat}(H:d<2*I h):cQ (I h) d<I h:=by
 unfold cQ;split
 .exact fC _ (jr.2 g.ne)
 omega
def adw{d:Nat}(H:d<2*I h):d=j5 (I h) (cQ (I h) d) (cW d):=by have:=Jw H;unfold cQ cW;exact this
def Sg{n v:Nat}(h:v<n):cO n (fj n v f)=v/\cW (fj n v f)=f:=by
 unfold cO cW fj;cases f
 .simp only[eX,if_false];have e1:(2*((v+n-1)%n)+1)%2=1:=J;have e2:(2*((v+n-1)%n)+1)/2=(v+n-1)%n:=J;rw[e1,e2,vZ h];exact⟨rfl,rfl⟩
 simp only[if_true];have e1:(2*v)%2=0:=J;have e2:(2*v)/2=v:=J;rw[e1,e2];exact⟨rfl,rfl⟩
def v8 (h:ae)(d:Nat):gj:=if d%2=0 then r4 h (d/2)else jX (r4 h (d/2))
def JX{d:Nat}(f:d<2*I h):iG (cW d) (fx h (cQ (I h) d))=v8 h d:=by
 unfold iG cW cQ v8 fx;rcases w6 d with H|H
 .simp only[H,CD,if_true];rw[Ep J]
 simp[H]
def Mn{d:Nat}(f:d<2*I h):jJ (cW d) (fx h (cO (I h) d))=v8 h d:=by
 unfold jJ cW cO v8 fx;rcases w6 d with H|H
 .simp[H]
 simp only[H,show((1:Nat)==0)=false from rfl,eX,if_false,MM];rw[Ep J]
def II(g:cK F h){d:Nat}(x:d<2*I h){l:aa}(hl:h[cQ (I h) d]?=some l)(u:l.aF):cA h d<2*I h/\cO (I h) (cA h d)=iK h (cQ (I h) d)/\gN l=(cW d==cW (cA h d))/\
  tS true (iG (cW d) (fx h (cQ (I h) d))) (jJ (cW d) (fx h (cQ (I h) d))) (iG (cW (cA h d)) (fx h (cO (I h) (cA h d)))) (jJ (cW (cA h d)) (fx h (cO (I h) (cA h d)))):=by
 have ok:=g.ok;have z:=JJ g x;obtain⟨O,m,H,D,od,M,N⟩:=rJ ok.cr hl u;have j:=(cD.1 H).1;have e:cA h d=fj (I h) (iK h (cQ (I h) d)) (cW d==gN l):=by
  conv=>lhs;rw[adw x]
  rw[Al hl u];rfl
 obtain⟨A,B⟩:=Sg (n:=I h) (f:=(cW d==gN l)) j;have E:cQ (I h) d≠iK h (cQ (I h) d):=by intro L;rw[<-L,hl]at H;have:=lq H;rw[<-this]at M;revert M;cases l.over<;>simp
 have y:gN l=(cW d==(cW d==gN l)):=by cases cW d<;>cases gN l<;>rfl
 rw[e,A,B];refine⟨?_,rfl,y,?_⟩
 .have:=DS j (!(cW d==gN l));rw[<-zc]at this;have:=Aq this;rwa[Bs]at this
 rw[Z5,<-y];have:=(OE g z j E (by rw[fJ hl];exact u) (by rw[fJ H];exact D) (by rw[fJ hl,fJ H];exact od.symm)).x4;rwa[fJ hl]at this
def NW{l:cY}(hl:I l=I h){e:Nat}(j:e<I h)(i:Nat):(jl h l e)[i]?=if i=aK h e then l[e]? else if i=e then l[aK h e]? else l[i]? :=by
 have m:aK h e<I h:=fC _ J;obtain⟨p,hp⟩:=aR (L:=l) (k:=e) J;obtain⟨q,H⟩:=aR (L:=l) (k:=aK h e) J;unfold jl;rw[mA,mA,dS,dS,hp,H,kI];by_cases g:i=aK h e
 .subst g;rw[aH rfl,aH J,aH rfl];rfl
 rw[aw (Ne.symm g),aw g];by_cases f:i=e
 .subst f;rw[aH rfl,aH J,aH rfl];rfl
 rw[aw (Ne.symm f),aw f]
def aD5(g:cK F h){w:aG}(H:w∈fO (cA h) (ct h)){Q:Nat->Prop}(u:∀x,x<ct h->(Q (cA h x)↔Q x)){x y:Nat}(A:x∈w)(m:y∈w):Q x↔Q y:=by
 have e:=adv (uu g.ok) (R:=im (ct h) (cA h)) (λz B=>.rel ⟨B,rfl⟩) H A m;have:=e.inv (f:=λx=>Q x) λa b r=>by obtain⟨j,rfl⟩:=r;exact propext (u a j).symm
 exact Eq.to_iff this
end
def atL:∀(L M:cV),L.Nodup->(∀x∈L,x∈M)->I L<=I M:=by
 intro L
 induction L with
 |nil=>intro M _ _;exact cE _
 |cons a L f=>intro M m hs;obtain⟨j,g⟩:=o0.1 m;have h:=hs a aQ;have:=f (M.erase a) g λx H=>(O9 (by rintro rfl;exact j H)).2 (hs x (by simp[H]));rw[M5 h]at this;have:0<I M:=Ij h;simp only[dw];omega
def ax6:∀l:cV,(me l).Nodup:=by
 intro l
 induction l with
 |nil=>exact tA
 |cons a l f=>
  unfold me;split
  .exact f
  rename_i h;exact o0.2 ⟨λH=>h (GB.1 H),f⟩
def aBk{l:cV}:I (me l)=I l->l.Nodup:=by
 induction l with
 |nil=>intro _;exact tA
 |cons a l f=>
  have H:I (me l)<=I l:=atL _ _ (ax6 l) λx g=>GB.1 g;unfold me;rw[o0];split
  .intro e;simp only[dw]at e;omega
  rename_i h;simp only[dw];intro e;exact⟨h,f J⟩
def ab5{p:aU->Bool}{l:cY}{i:Nat}{x y:aU}(h:l[i]?=some x):(l.set i y).countP p+(if p x then 1 else 0)=l.countP p+(if p y then 1 else 0):=by
 have e:=aAW h;have hl:=(cD.1 h).1;have e2:l.set i y=l.take i++y::l.drop (i+1):=by
  conv=>lhs;rw[e]
  rw[J3 _ _ (by rw[iM];omega),iM,wS J,ze];rfl
 rw[e2]
 conv=>rhs;rw[e]
 rw[vH,vH,vh,vh];omega
section
variable {F:Nat} {h:ae}
def J2{l:cY}(hl:I l=I h){e:Nat}(j:e<I h)(A:e≠aK h e)(p:aU->Bool):(jl h l e).countP p=l.countP p:=by
 have z:aK h e<I h:=fC _ J;obtain⟨x,f⟩:=aR (L:=l) (k:=e) J;obtain⟨y,H⟩:=aR (L:=l) (k:=aK h e) J;unfold jl;rw[dS,dS,f,H];simp only[mO];have m:=ab5 (p:=p) (y:=y) f;have g:(l.set e y)[aK h e]?=some y:=by rw[mA,aw A];exact H
 have u:=ab5 (p:=p) (y:=x) g;omega
def adr(g:cK F h){e:Nat}(j:e<I h):e≠aK h e:=by
 have f:2<=I h:=by obtain⟨l,H,hp⟩:=g.first;have:=g.even;have:0<ai aa.aM h:=xk.2 ⟨l,ch H,hp⟩;have:=qk aa.aM h;omega
 unfold aK;by_cases c:e+1<I h
 .rw[jv c];omega
 rw[show e+1=I h by omega,Am];omega
def UA(p:aa->Bool):ai p ((cq h).map aU.l)=ai p h:=by
 have:(cq h).map aU.l=h:=by
  have H:=nV h;rw[<-H];have e:bG (mY h)=((mY h).map cM.p).map aU.l:=by rw[o9];rfl
  rw[H,<-G6,<-e,H]
 rw[this]
def IG(g:cK F h){i j:Nat}{l m:aa}(hl:h[i]?=some l)(H:h[j]?=some m)(f:l.aF)(M:m.aF)(e:l.id=m.id)(x:i≠j):iK h i=j:=by obtain⟨_,hp⟩:=g.ids;obtain⟨B,_⟩:=hp i j l m hl H f M e x;obtain⟨E,w,u,z,y,wo,L⟩:=rJ g.ok.cr hl f;refine Classical.byContradiction λA=>?_;have D:=(hp _ _ w m u H z M (by rw[y,e]) A).1;rw[wo]at D;revert B D;cases l.over<;>cases m.over<;>simp
def azN(g:cK F h){w:aG}(u:w∈fO (cA h) (ct h)){p q r:Nat}(hp:p∈w)(H:q∈w)(A:r∈w)(f:p≠q)(pr:p≠r)(D:q≠r)(m:p<ct h)(L:q<ct h)(j:r<ct h)
  (X:cA h p=p\/cA h p=q\/cA h p=r) (nq:cA h q=p\/cA h q=q\/cA h q=r) (R:cA h r=p\/cA h r=q\/cA h r=r):
  (cA h p=q/\cA h q=r/\cA h r=p)\/(cA h p=r/\cA h r=q/\cA h q=p):=by
 have inj:=(uu g.ok).inj;have i1:cA h p≠cA h q:=λe=>f (inj _ _ m L e);have i2:cA h p≠cA h r:=λe=>pr (inj _ _ m j e);have T:cA h q≠cA h r:=λe=>D (inj _ _ L j e);have one:∀x y,x∈w->y∈w->x≠y->x<ct h->cA h x≠x:=λx y E z O M e=>by have:=aD5 g u (Q:=λt=>t=x) (λt B=>⟨λN=>inj _ _ B M (by rw[N,e]),λN=>by rw[N,e]⟩) E z;exact O (this.1 rfl).symm
 have Z:=one p q hp H f m;have n2:=one q p H hp (Ne.symm f) L;have Y:=one r p A hp (Ne.symm pr) j;omega
def Xh{n d i:Nat}:(i≠cO n d/\i≠cQ n d)↔(i≠d/2/\i≠(d/2+1)%n):=by
 unfold cO cQ;split
 .exact Iff.rfl
 exact And.comm
def acL{n d D:Nat}(h:d/2≠D/2/\d/2≠(D/2+1)%n/\(d/2+1)%n≠D/2/\(d/2+1)%n≠(D/2+1)%n):cO n d≠cO n D/\cO n d≠cQ n D/\cQ n d≠cO n D/\cQ n d≠cQ n D:=by
 obtain⟨g,H,j,f⟩:=h;unfold cO cQ;split<;>split
 .exact⟨g,H,j,f⟩
 .exact⟨H,g,f,j⟩
 .exact⟨j,f,g,H⟩
 exact⟨f,j,H,g⟩
def Z_{n d:Nat}(h:d/2≠(d/2+1)%n):cO n d≠cQ n d:=by
 unfold cO cQ;split
 .exact h
 exact h.symm
def Ao (f:Bool)(s:gj):gj:=if f then s else jX s
def LS(f:Bool)(x:cM):(iG f x).b=if f then x.i.b else x.o.b:=by cases f<;>rfl
def Ki(f:Bool)(x:cM):(jJ f x).b=if f then x.o.b else x.i.b:=by cases f<;>rfl
def P4{P:cY}{d:Nat}{g:gj}(x:I P=I h)(y:d<2*I h)(H:j (d/2)=Ao (cW d) g)(m:j ((d/2+I h-1)%I h)=r4 h ((d/2+I h-1)%I h))(f:j (aK h (d/2))=r4 h (aK h (d/2))):
  iG (cW d) (dt P j (cO (I h) d))=iG (cW d) (fx h (cO (I h) d))/\jJ (cW d) (dt P j (cO (I h) d))=g/\iG (cW d) (dt P j (cQ (I h) d))=g/\jJ (cW d) (dt P j (cQ (I h) d))=jJ (cW d) (fx h (cQ (I h) d)):=by
 unfold aK at f;unfold iG jJ dt fx cO cQ;unfold cW at H |-;rw[x];rcases w6 d with u|u
 .simp only[u,CD,if_true]at H |-;rw[Ep J,H,m,f];exact⟨rfl,rfl,rfl,rfl⟩
 simp only[u,show((1:Nat)==0)=false from rfl,eX,if_false,MM]at H |-;rw[Ep J,H,m,f];exact⟨rfl,rfl,rfl,rfl⟩
def ah5{P:cY}{i:Nat}(H:I P=I h)(m:i<I h)(hp:P[i]?=(cq h)[i]?)(g:j ((i+I h-1)%I h)=r4 h ((i+I h-1)%I h))(f:j i=r4 h i):dt P j i=fx h i:=by
 have:P.getD i ⟨lD,false⟩=⟨h.getD i lD,jK h i⟩:=by obtain⟨l,hl⟩:=aR m;rw[dS,hp,nR hl,dS,hl];rfl
 unfold dt fx;rw[H,g,f,this]
def Ix{P:cY}{i f:Nat}(H:f<I h)(hp:P[i]?=(cq h)[f]?):(dt P j i).p=(fx h f).p:=by obtain⟨l,hl⟩:=aR H;show P.getD i _=⟨h.getD f lD,jK h f⟩;rw[dS,hp,nR hl,dS,hl];rfl
def aGE(g:cK F h){a b c:Nat}(ha:a<I h)(hb:b<I h)(hc:c<I h)(Y:ui F h a b c=some L):oD F L:=by
 unfold ui at Y;split at Y
 case isFalse=>cases Y
 rename_i ht;cases Y;unfold EO at ht;simp only[dj,dI]at ht;obtain⟨hU,h6,_,_,_,LG⟩:=ht;have hn:0<I h:=jr.2 g.ne;have bN:=cU h;have ok:=g.ok
 have gk:(s0 h [a,b,c]).Nodup:=aBk (by rw[h6];rfl);have gk:(([a,aK h a,b,aK h b,c,aK h c]:aG).map λi:Nat=>(i:Int)).Nodup:=gk;have O:a≠aK h a/\a≠b/\a≠aK h b/\a≠c/\a≠aK h c/\aK h a≠b/\aK h a≠aK h b/\aK h a≠c/\aK h a≠aK h c/\b≠aK h b/\b≠c/\b≠aK h c/\aK h b≠c/\aK h b≠aK h c/\c≠aK h c:=by simp only[eR,jS,o0,dk,iu,or_false,vW,tA,and_true,not_false_eq_true]at gk;omega
 have bI:∀e∈[a,b,c],∃l m,h[e]?=some l/\h[aK h e]?=some m/\l.aF/\m.aF:=λe he=>by
  have T:=jP.1 hU e he;have dY:e<I h:=by simp only[dk,iu,or_false]at he;rcases he with rfl|rfl|rfl<;>assumption
  obtain⟨l,hl⟩:=aR dY;obtain⟨m,hm⟩:=aR (L:=h) (k:=aK h e) (fC _ hn);have e1:aW h e=⟨l,jK h e⟩:=ml (nR hl);have e2:aW h (aK h e)=⟨m,jK h (aK h e)⟩:=ml (nR hm);unfold xy at T;rw[e1,e2,dj]at T;exact⟨l,m,hl,hm,T.1,T.2⟩
 obtain⟨w,hw,_,ap,hE⟩:=aeP g ha LG;obtain⟨da,zy,xu,BZ⟩:=hE a aQ;obtain⟨db,AN,yu,B5⟩:=hE b aQ;obtain⟨wg,az,K6,K7⟩:=hE c aQ;have hN:∀d,d<2*I h->d<ct h:=λd hd=>by unfold ct;omega
 have three:∀d,d∈w->d<2*I h->d=da\/d=db\/d=wg:=λd T h2=>by
  have aO:∀d,d∈w->d<2*I h->d∈w.filter λx=>decide (x<2*I h):=λd T h2=>uQ.2 ⟨T,by simpa using h2⟩;have R:=aO da zy xu;have Q:=aO db AN yu;have q3:=aO wg az K6;have q4:=aO d T h2;generalize w.filter (λx=>decide (x<2*I h))=D at ap R Q q3 q4
  match D,ap with
  |[x,y,z],_=>simp only[dk,iu,or_false]at R Q q3 q4;have:=O.2.1;have:=O.2.2.2.1;have:=O.2.2.2.2.2.2.2.2.2.2.1;omega
 have Pq:∀d,d<2*I h->d/2∈[a,b,c]->∃l,h[cQ (I h) d]?=some l/\l.aF:=λd hd he=>by
  obtain⟨l,m,T,h2,h3,h4⟩:=bI _ he;unfold cQ;split
  .exact⟨m,h2,h4⟩
  exact⟨l,T,h3⟩
 have step:∀d,d∈w->d<2*I h->d/2∈[a,b,c]->cA h d=da\/cA h d=db\/cA h d=wg:=λd hd hl he=>by obtain⟨l,T,h2⟩:=Pq d hl he;exact three _ (zr (uu ok) hw hd) (II g hl T h2).1
 have round:∃B E H,B<2*I h/\E<2*I h/\H<2*I h/\cA h B=E/\cA h E=H/\cA h H=B/\((B/2=a/\E/2=b/\H/2=c)\/(B/2=a/\E/2=c/\H/2=b)):=by
  have cw:da≠db:=λe=>O.2.1 (by rw[<-BZ,<-B5,e]);have cx:da≠wg:=λe=>O.2.2.2.1 (by rw[<-BZ,<-K7,e]);have ck:db≠wg:=λe=>O.2.2.2.2.2.2.2.2.2.2.1 (by rw[<-B5,<-K7,e]);rcases azN g hw zy AN az cw cx ck (hN _ xu) (hN _ yu) (hN _ K6) (step da zy xu (by rw[BZ];simp)) (step db AN yu (by rw[B5];simp)) (step wg az K6 (by rw[K7];simp))with⟨T,h2,h3⟩|⟨T,h2,h3⟩
  .exact⟨da,db,wg,xu,yu,K6,T,h2,h3,.inl ⟨BZ,B5,K7⟩⟩
  exact⟨da,wg,db,xu,K6,yu,T,h2,h3,.inr ⟨BZ,K7,B5⟩⟩
 clear three step hE ap zy xu BZ AN yu B5 az K6 K7 hw LG;clear gk hU h6;obtain⟨B,E,H,l1,l2,l3,s1,s2,w5,qQ⟩:=round
 have cc:a∈[a,b,c]:=aQ;have ce:b∈[a,b,c]:=aQ;have cp:c∈[a,b,c]:=aQ;have Ha:I (jQ h (cq h) [a,b,c])=I h:=by rw[B9,bN]
 have F0:∀i,(jQ h (cq h) [a,b,c])[i]?=if i=aK h c then(cq h)[c]? else if i=c then(cq h)[aK h c]? else if i=aK h b then(cq h)[b]? else if i=b then(cq h)[aK h b]? else if i=aK h a then(cq h)[a]? else if i=a then(cq h)[aK h a]? else(cq h)[i]? :=λi=>by
  show(jl h (jl h (jl h (cq h) a) b) c)[i]?=_;have e1:I (jl h (cq h) a)=I h:=by rw[GA,bN]
  have e2:I (jl h (jl h (cq h) a) b)=I h:=by rw[GA,e1]
  simp only[NW e2 hc,NW e1 hb,NW bN ha];obtain⟨x1,x2,x3,x4,x5,x6,x7,x8,x9,Kf,NA,NB,NC,ND,Rz⟩:=O;simp only[x2.symm,x3.symm,x4.symm,x5.symm,x6.symm,x7.symm,x8.symm,x9.symm,NA.symm,NB.symm,NC.symm,ND.symm,if_false]
 have vt:∀p:aU->Bool,(jQ h (cq h) [a,b,c]).countP p=(cq h).countP p:=λp=>by
  show(jl h (jl h (jl h (cq h) a) b) c).countP p=_;have e1:I (jl h (cq h) a)=I h:=by rw[GA,bN]
  have e2:I (jl h (jl h (cq h) a) b)=I h:=by rw[GA,e1]
  rw[J2 e2 hc O.2.2.2.2.2.2.2.2.2.2.2.2.2.2,J2 e1 hb O.2.2.2.2.2.2.2.2.2.1,J2 bN ha O.1]
 generalize jQ h (cq h) [a,b,c]=P at Ha F0 vt;obtain⟨x1,x2,x3,x4,x5,x6,x7,x8,x9,Kf,NA,NB,NC,ND,Rz⟩:=O;have pa:P[a]?=(cq h)[aK h a]? /\P[aK h a]?=(cq h)[a]? :=by
  constructor
  .rw[F0];simp only[x1,x2,x3,x4,x5,if_false,if_true]
  rw[F0];simp only[x6,x7,x8,x9,if_false,if_true]
 have pb:P[b]?=(cq h)[aK h b]? /\P[aK h b]?=(cq h)[b]? :=by
  constructor
  .rw[F0];simp only[Kf,NA,NB,if_false,if_true]
  rw[F0];simp only[NC,ND,if_false,if_true]
 have pc:P[c]?=(cq h)[aK h c]? /\P[aK h c]?=(cq h)[c]? :=by
  constructor
  .rw[F0];simp only[Rz,if_false,if_true]
  rw[F0];simp only[if_true]
 have pn:∀i,i≠a->i≠aK h a->i≠b->i≠aK h b->i≠c->i≠aK h c->P[i]?=(cq h)[i]? :=λi T h2 h3 h4 h5 h6=>by rw[F0];simp only[T,h2,h3,h4,h5,h6,if_false]
 clear F0
 have rG:∀d,d/2=a\/d/2=b\/d/2=c->P[cO (I h) d]?=(cq h)[cQ (I h) d]? /\P[cQ (I h) d]?=(cq h)[cO (I h) d]? :=λd hd=>by
  have:P[d/2]?=(cq h)[aK h (d/2)]? /\P[aK h (d/2)]?=(cq h)[d/2]? :=by rcases hd with e|e|e<;>rw[e]<;>assumption
  unfold cO cQ;rcases w6 d with Y|Y
  .simp only[Y,if_true];exact this
  simp only[Y,MM,if_false];exact this.symm
 have m1:B/2=a\/B/2=b\/B/2=c:=by
  rcases qQ with⟨Y,_,_⟩|⟨Y,_,_⟩
  .exact .inl Y
  exact .inl Y
 have m2:E/2=a\/E/2=b\/E/2=c:=by
  rcases qQ with⟨_,Y,_⟩|⟨_,Y,_⟩
  .exact .inr (.inl Y)
  exact .inr (.inr Y)
 have m3:H/2=a\/H/2=b\/H/2=c:=by
  rcases qQ with⟨_,_,Y⟩|⟨_,_,Y⟩
  .exact .inr (.inr Y)
  exact .inr (.inl Y)
 have mm:∀d,d/2=a\/d/2=b\/d/2=c->d/2∈[a,b,c]:=λd Y=>by simpa using Y
 have bE:∀i,i≠cO (I h) B->i≠cQ (I h) B->i≠cO (I h) E->i≠cQ (I h) E->i≠cO (I h) H->i≠cQ (I h) H->P[i]?=(cq h)[i]? /\ ∀d,d/2=a\/d/2=b\/d/2=c->i≠d/2/\i≠aK h (d/2):=λi a1 a2 a3 a4 a5 a6=>by
  obtain⟨b1,b2⟩:=Xh.1 ⟨a1,a2⟩;obtain⟨b3,b4⟩:=Xh.1 ⟨a3,a4⟩;obtain⟨b5,b6⟩:=Xh.1 ⟨a5,a6⟩;have key:(i≠a/\i≠aK h a)/\(i≠b/\i≠aK h b)/\(i≠c/\i≠aK h c):=by
   rcases qQ with⟨T,h2,h3⟩|⟨T,h2,h3⟩
   .rw[T]at b1 b2;rw[h2]at b3 b4;rw[h3]at b5 b6;exact⟨⟨b1,b2⟩,⟨b3,b4⟩,b5,b6⟩
   rw[T]at b1 b2;rw[h2]at b3 b4;rw[h3]at b5 b6;exact⟨⟨b1,b2⟩,⟨b5,b6⟩,b3,b4⟩
  obtain⟨⟨c1,c2⟩,⟨c3,c5⟩,c4,ft⟩:=key;refine⟨pn i c1 c2 c3 c5 c4 ft,λd hd=>?_⟩;rcases hd with e|e|e<;>rw[e]
  .exact⟨c1,c2⟩
  .exact⟨c3,c5⟩
  exact⟨c4,ft⟩
 have t1:=Pa g l1;have t2:=Pa g l2;have t3:=Pa g l3;have T:=JJ g l1;have h2:=JJ g l2;have h3:=JJ g l3
 have lG:(B/2≠E/2/\B/2≠aK h (E/2)/\aK h (B/2)≠E/2/\aK h (B/2)≠aK h (E/2))/\(B/2≠H/2/\B/2≠aK h (H/2)/\aK h (B/2)≠H/2/\aK h (B/2)≠aK h (H/2))/\(E/2≠H/2/\E/2≠aK h (H/2)/\aK h (E/2)≠H/2/\aK h (E/2)≠aK h (H/2))/\B/2≠aK h (B/2)/\E/2≠aK h (E/2)/\H/2≠aK h (H/2):=by
  rcases qQ with⟨T,h2,h3⟩|⟨T,h2,h3⟩<;>rw[T,h2,h3]
  .exact⟨⟨x2,x3,x6,x7⟩,⟨x4,x5,x8,x9⟩,⟨NA,NB,NC,ND⟩,x1,Kf,Rz⟩
  exact⟨⟨x4,x5,x8,x9⟩,⟨x2,x3,x6,x7⟩,⟨NA.symm,NC.symm,NB.symm,ND.symm⟩,x1,Rz,Kf⟩
 obtain⟨y1,y2,y3,y4,y5,y6⟩:=lG;have bl:=acL y1;have bx:=acL y2;have bC:=acL y3;have g1:=Z_ y4;have g2:=Z_ y5;have g3:=Z_ y6
 obtain⟨u1,CG,KY⟩:=Pq B l1 (mm B m1);obtain⟨u2,xK,KZ⟩:=Pq E l2 (mm E m2);obtain⟨u3,yN,K0⟩:=Pq H l3 (mm H m3);obtain⟨_,o1,R,k1⟩:=II g l1 CG KY;obtain⟨_,o2,Q,k2⟩:=II g l2 xK KZ;obtain⟨_,o3,q3,k3⟩:=II g l3 yN K0;rw[s1]at o1 R k1;rw[s2]at o2 Q k2;rw[w5]at o3 q3 k3;clear s1 s2 w5 qQ pn pa pb pc x1 x2 x3 x4 x5 x6 x7 x8 x9 Kf NA NB NC ND Rz bI Pq mm cc ce cp;have bD:=Mn (h:=h) l1;have bO:=Mn (h:=h) l2;have bJ:=Mn (h:=h) l3;have mB:=JX (h:=h) l1;have LP:=JX (h:=h) l2;have bX:=JX (h:=h) l3;rw[mB,bO]at k1;rw[LP,bJ]at k2;rw[bX,bD]at k3;obtain⟨a1,b1,c1,e1⟩:=k1;obtain⟨a2,b2,c2,e2⟩:=k2;obtain⟨a3,b3,c3,e3⟩:=k3;simp only[if_true]at a1 b1 c1 e1 a2 b2 c2 e2 a3 b3 c3 e3
 let ar:=(v8 h B).l
 let K1:gj:=⟨(iG (cW H) (fx h (cO (I h) H))).r,ar,(iG (cW B) (fx h (cO (I h) B))).b⟩
 let K2:gj:=⟨(iG (cW B) (fx h (cO (I h) B))).r,ar,(iG (cW E) (fx h (cO (I h) E))).b⟩
 let K3:gj:=⟨(iG (cW E) (fx h (cO (I h) E))).r,ar,(iG (cW H) (fx h (cO (I h) H))).b⟩
 let j:Nat->gj:=λac=>if ac=B/2 then Ao (cW B) K1 else if ac=E/2 then Ao (cW E) K2 else if ac=H/2 then Ao (cW H) K3 else r4 h ac
 have co:j (B/2)=Ao (cW B) K1:=aH rfl;have cs:j (E/2)=Ao (cW E) K2:=by show(if _ then _ else _)=_;rw[aw (Ne.symm y1.1),aH rfl]
 have b9:j (H/2)=Ao (cW H) K3:=by show(if _ then _ else _)=_;rw[aw (Ne.symm y2.1),aw (Ne.symm y3.1),aH rfl]
 have ak:∀ac,ac≠B/2->ac≠E/2->ac≠H/2->j ac=r4 h ac:=λac T h2 h3=>by show(if _ then _ else _)=_;rw[aw T,aw h2,aw h3]
 have ad:∀i,i<I h->i≠aK h (B/2)->i≠aK h (E/2)->i≠aK h (H/2)->j ((i+I h-1)%I h)=r4 h ((i+I h-1)%I h):=λi N n1 n2 n3=>ak _ (λY=>n1 (DI N Y)) (λY=>n2 (DI N Y)) (λY=>n3 (DI N Y))
 obtain⟨z1,z2,z3,z4⟩:=y1;obtain⟨z5,z6,z7,z8⟩:=y2;obtain⟨z9,bq,bY,cF⟩:=y3;have G1:=P4 (P:=P) Ha l1 co (ad _ J y4 z2 z6) (ak _ y4.symm z3 z7);have G2:=P4 (P:=P) Ha l2 cs (ad _ J z3.symm y5 bq) (ak _ z2.symm y5.symm bY);have G3:=P4 (P:=P) Ha l3 b9 (ad _ J z7.symm bY.symm y6) (ak _ z6.symm bq.symm y6.symm);have p1:=rG B m1;have p2:=rG E m2;have p3:=rG H m3;have bc:=Ix (j:=j) T p1.1;have bm:=Ix (j:=j) t1 p1.2;have bp:=Ix (j:=j) h2 p2.1;have bi:=Ix (j:=j) t2 p2.2;have bj:=Ix (j:=j) h3 p3.1
 have a8:=Ix (j:=j) t3 p3.2;have un:∀i,i<I h->i≠cO (I h) B->i≠cQ (I h) B->i≠cO (I h) E->i≠cQ (I h) E->i≠cO (I h) H->i≠cQ (I h) H->dt P j i=fx h i:=λi N n1 n2 n3 n4 n5 n6=>by obtain⟨R,Q⟩:=bE i n1 n2 n3 n4 n5 n6;exact ah5 Ha N R (ad i N (Q B m1).2 (Q E m2).2 (Q H m3).2) (ak i (Q B m1).1 (Q E m2).1 (Q H m3).1)
 clear bE rG ad
 have Bb:=rJ ok.cr CG KY;have wQ:=rJ ok.cr xK KZ;have br:=rJ ok.cr yN K0;rw[<-o1]at Bb;rw[<-o2]at wQ;rw[<-o3]at br;obtain⟨r1,v2,tu,av,b7,_,_⟩:=Bb;obtain⟨r2,v3,Qg,aE,cd,_,_⟩:=wQ;obtain⟨r3,v1,Ba,aA,cu,_,_⟩:=br
 have ab:∀(x y:cM) (d d' hh tt:Nat) (u v:aa),h[hh]?=some u->h[tt]?=some v->u.aF->v.aF->v.id=u.id->hh≠tt->x.p=(fx h hh).p->y.p=(fx h tt).p->gN u=(cW d==cW d')->tS true (iG (cW d) x) (jJ (cW d) x) (iG (cW d') y) (jJ (cW d') y)->BX x y:=by intro x y d d' hh tt u v ha hb ca cb ei aN hx hy hg h4;have Me:x.k=(fx h hh).k:=congrArg aU.l hx;have bw:y.k=(fx h tt).k:=congrArg aU.l hy;have bz:=OE g (cD.1 ha).1 (cD.1 hb).1 aN (by rw[fJ ha];exact ca) (by rw[fJ hb];exact cb) (by rw[fJ ha,fJ hb];exact ei.symm);refine⟨by rw[Me,bw];exact bz.ov,by rw[Me,bw];exact bz.sg,?_⟩;rw[Me,fJ ha,hg];exact Z5.1 h4
 have C1:BX (dt P j (cO (I h) B)) (dt P j (cQ (I h) E)):=by
  refine ab _ _ B E _ _ u1 v2 CG tu KY av b7 bl.2.2.1 bc bi R ?_;rw[G1.1,G1.2.1,G2.2.2.1,G2.2.2.2];constructor<;>simp only[if_true]
  .exact c3.trans e2
  .rfl
  .rfl
  exact b2
 have C2:BX (dt P j (cO (I h) E)) (dt P j (cQ (I h) H)):=by
  refine ab _ _ E H _ _ u2 v3 xK Qg KZ aE cd bC.2.2.1 bp a8 Q ?_;rw[G2.1,G2.2.1,G3.2.2.1,G3.2.2.2];constructor<;>simp only[if_true]
  .exact c1.trans e3
  .rfl
  .rfl
  exact b3
 have C3:BX (dt P j (cO (I h) H)) (dt P j (cQ (I h) B)):=by
  refine ab _ _ H B _ _ u3 v1 yN Ba K0 aA cu bx.2.1.symm bj bm q3 ?_;rw[G3.1,G3.2.1,G1.2.2.1,G1.2.2.2];constructor<;>simp only[if_true]
  .exact c2.trans e1
  .rfl
  .rfl
  exact b1
 have O:∀i,i<I h->(i=cO (I h) B\/i=cQ (I h) B\/i=cO (I h) E\/i=cQ (I h) E\/i=cO (I h) H\/i=cQ (I h) H)\/(dt P j i=fx h i/\i≠cO (I h) B/\i≠cQ (I h) B/\i≠cO (I h) E/\i≠cQ (I h) E/\i≠cO (I h) H/\i≠cQ (I h) H):=λi N=>by
  rcases Classical.em (i=cO (I h) B\/i=cQ (I h) B\/i=cO (I h) E\/i=cQ (I h) E\/i=cO (I h) H\/i=cQ (I h) H)with Y|Y
  .exact .inl Y
  simp only[vW]at Y;exact .inr ⟨un i N Y.1 Y.2.1 Y.2.2.1 Y.2.2.2.1 Y.2.2.2.2.1 Y.2.2.2.2.2,Y⟩
 have ao:∀i,i<I h->∃ac l,ac<I h/\h[ac]?=some l/\(dt P j i).k=l/\(dt P j i).p=(fx h ac).p:=λi N=>by
  have mk:∀ac l,h[ac]?=some l->(dt P j i).p=(fx h ac).p->∃ac l,ac<I h/\h[ac]?=some l/\(dt P j i).k=l/\(dt P j i).p=(fx h ac).p:=λac l hl hp=>⟨ac,l,(cD.1 hl).1,hl,(congrArg aU.l hp).trans (fJ hl),hp⟩;rcases O i N with(rfl|rfl|rfl|rfl|rfl|rfl)|⟨e,_⟩
  .exact mk _ _ CG bc
  .exact mk _ _ Ba bm
  .exact mk _ _ xK bp
  .exact mk _ _ tu bi
  .exact mk _ _ yN bj
  .exact mk _ _ Qg a8
  obtain⟨l,hl⟩:=aR N;exact mk i l hl (by rw[e])
 have bb:(dt P j (cO (I h) B)).k=u1:=(congrArg aU.l bc).trans (fJ CG);have bg:(dt P j (cO (I h) E)).k=u2:=(congrArg aU.l bp).trans (fJ xK);have be:(dt P j (cO (I h) H)).k=u3:=(congrArg aU.l bj).trans (fJ yN);have bd:(dt P j (cQ (I h) B)).k=v1:=(congrArg aU.l bm).trans (fJ Ba);have bo:(dt P j (cQ (I h) E)).k=v2:=(congrArg aU.l bi).trans (fJ tu);have a9:(dt P j (cQ (I h) H)).k=v3:=(congrArg aU.l a8).trans (fJ Qg);have a7:∀(f:Bool) (x:cM),(iG f x).b=(jJ f x).b->x.i.b=x.o.b:=λf x Y=>by
  rw[LS,Ki]at Y;cases f
  .exact Y.symm
  exact Y
 have bu:∀(f:Bool) (x:cM),x.i.b=x.o.b->(iG f x).b=(jJ f x).b:=λf x Y=>by
  rw[LS,Ki];cases f
  .exact Y.symm
  exact Y
 have a0:∀ac l,h[ac]?=some l->l.aF->(fx h ac).i.b=(fx h ac).o.b:=λac l hl hc=>(Em g (cD.1 hl).1).cb (by rw[fJ hl];exact hc);have bT:∀d (bK:gj),iG (cW d) (dt P j (cO (I h) d))=iG (cW d) (fx h (cO (I h) d))->jJ (cW d) (dt P j (cO (I h) d))=bK->bK.b=(iG (cW d) (fx h (cO (I h) d))).b->(dt P j (cO (I h) d)).i.b=(dt P j (cO (I h) d)).o.b:=λd bK R Q q3=>a7 (cW d) _ (by rw[R,Q,q3])
 have bH:∀d (bK:gj) (l m:aa),h[cO (I h) d]?=some l->l.aF->h[cQ (I h) d]?=some m->m.aF->jJ (cW d) (fx h (cO (I h) d))=v8 h d->iG (cW d) (fx h (cQ (I h) d))=v8 h d->iG (cW d) (dt P j (cQ (I h) d))=bK->jJ (cW d) (dt P j (cQ (I h) d))=jJ (cW d) (fx h (cQ (I h) d))->bK.b=(iG (cW d) (fx h (cO (I h) d))).b->(dt P j (cQ (I h) d)).i.b=(dt P j (cQ (I h) d)).o.b:=λd bK l m hl cl hm cm M A R Q q3=>by refine a7 (cW d) _ ?_;rw[R,Q,q3,bu (cW d) _ (a0 _ _ hl cl),M,<-A];exact bu (cW d) _ (a0 _ _ hm cm)
 have bad:∀i,i<I h->eO F (dt P j i).k=false:=λi N=>by obtain⟨ac,l,hj,hl,hk,_⟩:=ao i N;rw[hk];exact g.bad l (ch hl)
 have oj:∀i,i<I h->(dt P j i).k.aF->(dt P j i).i.b=(dt P j i).o.b->Ar F (dt P j i):=λi N hc hb=>⟨bad i N,λ_=>hb,λhp=>by rw[pk hc]at hp;cases hp⟩;have X:∀i,i<I h->(dt P j i).k.aM->dt P j i=fx h i:=λi N hp=>by
  rcases O i N with(rfl|rfl|rfl|rfl|rfl|rfl)|⟨e,_⟩
  .rw[bb,pk KY]at hp;cases hp
  .rw[bd,pk aA]at hp;cases hp
  .rw[bg,pk KZ]at hp;cases hp
  .rw[bo,pk av]at hp;cases hp
  .rw[be,pk K0]at hp;cases hp
  .rw[a9,pk aE]at hp;cases hp
  exact e
 have cz:=g.cz;have an:∀p:aa->Bool,ai p (P.map aU.l)=ai p h:=λp=>by rw[<-UA (h:=h) p];show List.countP _ _=List.countP _ _;rw[CJ,CJ];exact vt _
 have ag:∀(f:Bool) i,i<I h->∀t,t=(iG f (dt P j i)).l\/t=(iG f (dt P j i)).r->∃j',j'<I h/\(t=(j j').l\/t=(j j').r):=λf i N t ht=>by
  cases f
  .refine⟨i,N,?_⟩;rcases ht with ht|ht
   .exact .inr ht
   exact .inl ht
  refine⟨(i+I P-1)%I P,?_,ht⟩;rw[Ha];exact fC _ hn
 refine ahx g (T:=ar) (j:=j) (z:=kP h) (B:=j0 h) Ha (an _) (an _) (λk=>an _) (λi N=>?_) (λi ac N hj fE ci cj e=>?_) (λi ac N hj fE pi pj e1 e2=>?_) (λi N ci=>?_) (λi N pi=>?_) (λi N pi=>?_) (λk hk=>?_) ?_ (λac hj t ht=>?_)
 .rcases O i N with(rfl|rfl|rfl|rfl|rfl|rfl)|⟨e,_⟩
  .exact oj _ N (by rw[bb];exact KY) (bT B K1 G1.1 G1.2.1 rfl)
  .exact oj _ N (by rw[bd];exact aA) (bH B K1 _ _ Ba aA CG KY bD mB G1.2.2.1 G1.2.2.2 rfl)
  .exact oj _ N (by rw[bg];exact KZ) (bT E K2 G2.1 G2.2.1 rfl)
  .exact oj _ N (by rw[bo];exact av) (bH E K2 _ _ tu av xK KZ bO LP G2.2.2.1 G2.2.2.2 rfl)
  .exact oj _ N (by rw[be];exact K0) (bT H K3 G3.1 G3.2.1 rfl)
  .exact oj _ N (by rw[a9];exact aE) (bH H K3 _ _ Qg aE yN K0 bJ bX G3.2.2.1 G3.2.2.2 rfl)
  rw[e];exact Em g N
 ·
  have nn:∀i,i<I h->∃s,s<I h/\(∃l,h[s]?=some l/\(dt P j i).k=l)/\((i=cO (I h) B/\s=cQ (I h) B)\/(i=cQ (I h) B/\s=cO (I h) B)\/(i=cO (I h) E/\s=cQ (I h) E)\/(i=cQ (I h) E/\s=cO (I h) E)\/(i=cO (I h) H/\s=cQ (I h) H)\/(i=cQ (I h) H/\s=cO (I h) H)\/(dt P j i=fx h i/\s=i/\i≠cO (I h) B/\i≠cQ (I h) B/\i≠cO (I h) E/\i≠cQ (I h) E/\i≠cO (I h) H/\i≠cQ (I h) H)):=λi N=>by
   rcases O i N with(rfl|rfl|rfl|rfl|rfl|rfl)|⟨e,aN⟩
   .exact⟨_,T,⟨_,CG,bb⟩,.inl ⟨rfl,rfl⟩⟩
   .exact⟨_,t1,⟨_,Ba,bd⟩,.inr (.inl ⟨rfl,rfl⟩)⟩
   .exact⟨_,h2,⟨_,xK,bg⟩,.inr (.inr (.inl ⟨rfl,rfl⟩))⟩
   .exact⟨_,t2,⟨_,tu,bo⟩,.inr (.inr (.inr (.inl ⟨rfl,rfl⟩)))⟩
   .exact⟨_,h3,⟨_,yN,be⟩,.inr (.inr (.inr (.inr (.inl ⟨rfl,rfl⟩))))⟩
   .exact⟨_,t3,⟨_,Qg,a9⟩,.inr (.inr (.inr (.inr (.inr (.inl ⟨rfl,rfl⟩)))))⟩
   obtain⟨l,hl⟩:=aR N;exact⟨i,N,⟨l,hl,by rw[e];exact fJ hl⟩,.inr (.inr (.inr (.inr (.inr (.inr ⟨e,rfl,aN⟩)))))⟩
  obtain⟨si,cB,⟨li,xE,cf⟩,bL⟩:=nn i N;obtain⟨sj,Mb,⟨lj,vz,bZ⟩,GM⟩:=nn ac hj;rw[cf]at ci e;rw[bZ]at cj e;obtain⟨f1,f2,f3,f4⟩:=bl;obtain⟨f5,f6,f7,f8⟩:=bx;obtain⟨f9,cC,cI,bl⟩:=bC;have aN:si≠sj:=by
   clear e2 e3 e1 ag X oj bad bH bT ao un O;rcases bL with⟨R,Q⟩|⟨R,Q⟩|⟨R,Q⟩|⟨R,Q⟩|⟨R,Q⟩|⟨R,Q⟩|⟨_,Q,n1,n2,n3,n4,n5,n6⟩<;>rcases GM with⟨M,A⟩|⟨M,A⟩|⟨M,A⟩|⟨M,A⟩|⟨M,A⟩|⟨M,A⟩|⟨_,A,m1,m2,m3,m4,m5,m6⟩<;>rw[Q,A]<;>first
    |(rw[R,M]at fE;exact absurd rfl fE)
    |assumption
    |exact Ne.symm (by assumption)
    |exact fE
  have Z:=IG g xE vz ci cj e aN;rcases bL with⟨R,Q⟩|⟨R,Q⟩|⟨R,Q⟩|⟨R,Q⟩|⟨R,Q⟩|⟨R,Q⟩|⟨eu,Q,n1,n2,n3,n4,n5,n6⟩
  .rw[Q,<-o1]at Z;rcases GM with⟨M,A⟩|⟨M,A⟩|⟨M,A⟩|⟨M,A⟩|⟨M,A⟩|⟨M,A⟩|⟨_,A,m1,m2,m3,m4,m5,m6⟩<;>rw[A]at Z<;>first
    |(rw[R,M];exact C1)
    |exact absurd Z (by assumption)
    |exact absurd Z (Ne.symm (by assumption))
  .rw[Q,r3]at Z;rcases GM with⟨M,A⟩|⟨M,A⟩|⟨M,A⟩|⟨M,A⟩|⟨M,A⟩|⟨M,A⟩|⟨_,A,m1,m2,m3,m4,m5,m6⟩<;>rw[A]at Z<;>first
    |(rw[R,M];exact C3.symm)
    |exact absurd Z (by assumption)
    |exact absurd Z (Ne.symm (by assumption))
  .rw[Q,<-o2]at Z;rcases GM with⟨M,A⟩|⟨M,A⟩|⟨M,A⟩|⟨M,A⟩|⟨M,A⟩|⟨M,A⟩|⟨_,A,m1,m2,m3,m4,m5,m6⟩<;>rw[A]at Z<;>first
    |(rw[R,M];exact C2)
    |exact absurd Z (by assumption)
    |exact absurd Z (Ne.symm (by assumption))
  .rw[Q,r1]at Z;rcases GM with⟨M,A⟩|⟨M,A⟩|⟨M,A⟩|⟨M,A⟩|⟨M,A⟩|⟨M,A⟩|⟨_,A,m1,m2,m3,m4,m5,m6⟩<;>rw[A]at Z<;>first
    |(rw[R,M];exact C1.symm)
    |exact absurd Z (by assumption)
    |exact absurd Z (Ne.symm (by assumption))
  .rw[Q,<-o3]at Z;rcases GM with⟨M,A⟩|⟨M,A⟩|⟨M,A⟩|⟨M,A⟩|⟨M,A⟩|⟨M,A⟩|⟨_,A,m1,m2,m3,m4,m5,m6⟩<;>rw[A]at Z<;>first
    |(rw[R,M];exact C3)
    |exact absurd Z (by assumption)
    |exact absurd Z (Ne.symm (by assumption))
  .rw[Q,r2]at Z;rcases GM with⟨M,A⟩|⟨M,A⟩|⟨M,A⟩|⟨M,A⟩|⟨M,A⟩|⟨M,A⟩|⟨_,A,m1,m2,m3,m4,m5,m6⟩<;>rw[A]at Z<;>first
    |(rw[R,M];exact C2.symm)
    |exact absurd Z (by assumption)
    |exact absurd Z (Ne.symm (by assumption))
  have hb:=(rJ ok.cr xE ci).1;rw[Z,Q]at hb;rcases GM with⟨M,A⟩|⟨M,A⟩|⟨M,A⟩|⟨M,A⟩|⟨M,A⟩|⟨M,A⟩|⟨cv,A,_⟩
  .rw[A,<-o1]at hb;exact absurd hb.symm n3
  .rw[A,r3]at hb;exact absurd hb.symm n6
  .rw[A,<-o2]at hb;exact absurd hb.symm n5
  .rw[A,r1]at hb;exact absurd hb.symm n2
  .rw[A,<-o3]at hb;exact absurd hb.symm n1
  .rw[A,r2]at hb;exact absurd hb.symm n4
  rw[Q]at xE;rw[A]at vz;rw[eu,cv];exact OE g N hj fE (by rw[fJ xE];exact ci) (by rw[fJ vz];exact cj) (by rw[fJ xE,fJ vz];exact e)
 .have ee:=X i N pi;have cy:=X ac hj pj;rw[ee]at pi e1 e2;rw[cy]at pj e1 e2;exact(cz.UO (EG N) (EG hj) fE).2 pi pj e1 e2
 .obtain⟨ac,l,hj,hl,hk,_⟩:=ao i N;rw[hk]at ci |-;exact g.ids.1 l (ch hl) ci
 .have ee:=X i N pi;rw[ee]at pi |-;have:=cz.rr _ (ch (EG N)) pi;rwa[nV]at this
 .have ee:=X i N pi;rw[ee]at pi |-;exact cz.pl _ (ch (EG N)) pi
 .have:=cz.gt k hk;rwa[nV]at this
 .have:=cz.gz;rwa[nV]at this
 have aq:∀d,ac=d/2->t=(v8 h d).l\/t=(v8 h d).r:=λd hd=>by
  rw[hd]at ht;unfold v8;split
  .exact ht
  exact ht.symm
 by_cases n1:ac=B/2
 .rcases aq B n1 with Y|Y
  .exact .inl Y
  exact .inr (ag (cW E) _ t2 t (.inl (by rw[G2.1,Y];exact c1.symm)))
 by_cases n2:ac=E/2
 .rcases aq E n2 with Y|Y
  .exact .inl (Y.trans a1.symm)
  exact .inr (ag (cW H) _ t3 t (.inl (by rw[G3.1,Y];exact c2.symm)))
 by_cases n3:ac=H/2
 .rcases aq H n3 with Y|Y
  .exact .inl (Y.trans (a2.symm.trans a1.symm))
  exact .inr (ag (cW B) _ t1 t (.inl (by rw[G1.1,Y];exact c3.symm)))
 exact .inr ⟨ac,hj,by rw[ak ac n1 n2 n3];exact ht⟩
end
def B8(f:Bool)(x:cM):x.up=if f==x.p.d then iG f x else jX (jJ f x):=by unfold cM.up iG jJ;cases f<;>cases x.p.d<;>rfl
def B6(f:Bool)(x:cM):x.lo=if f==x.p.d then jJ f x else jX (iG f x):=by unfold cM.lo iG jJ;cases f<;>cases x.p.d<;>rfl
section
variable {F:Nat} {h:ae}
def ahY:∀(w:aG) (f:dV),I f.places<=(w.foldl (dV.add F h) f).places.length/\ ∀x∈w,2*I h<=x->I (qE F h ((x-2*I h)/2))<=(w.foldl (dV.add F h) f).places.length:=by
 intro w
 induction w with
 |nil=>intro f;exact⟨cT _,λx z=>nomatch z⟩
 |cons x w j=>
  intro f;rw[vi];obtain⟨g,m⟩:=j (dV.add F h f x);have u:I f.places<=(dV.add F h f x).places.length:=by
   unfold dV.add;split
   .exact cT _
   simp only[fv];omega
  refine⟨lX u g,λy H hl=>?_⟩;rcases dk.1 H with rfl|H
  .refine lX ?_ g;unfold dV.add;rw[aw J];simp only[fv];split<;>(try rw[lK])<;>omega
  exact m y H hl
def aog(ok:gy F h){k u v:Nat}(D:k+1<I (aL h))(H:(aL h).getD k 0=u)(x:(aL h).getD (k+1) 0=v){l m:aa}(hl:h[u]?=some l)(g:h[v]?=some m)
  (pl:l.aM) (z:m.aM) (B:m.gate<=l.gate):l.gate=m.gate/\m.ay=l.ay+1:=by
 obtain⟨O,f⟩:=aR (L:=aL h) (k:=k) J;obtain⟨L,j⟩:=aR D;rw[dS,f,mO]at H;rw[dS,j,mO]at x;subst H x;obtain⟨l',e1,_,e2⟩:=Af ok.ax f;obtain⟨Y,E,_,e4⟩:=Af ok.ax j;rw[hl]at e1;cases e1;rw[g]at E;cases E;have y:=ok.ax.fK l (ch hl) pl;have A:=ok.ax.fK m (ch g) z;obtain⟨Z,l2,Q,T⟩:=y;obtain⟨X,M,N,m4⟩:=A;unfold fH at e2 e4;rcases Int.lt_or_eq_of_le B with c|c
 .exfalso;have R:=B2 (L:=h) (show m.gate.toNat+1<=l.gate.toNat by omega);have hs:=u6 h m.gate.toNat;omega
 rw[c]at e4;exact⟨c.symm,J⟩
def amj(g:cK F h){w:aG}(L:w∈fO (cA h) (ct h))(O:(jC F h w).places.length=1){x v:Nat}(T:x∈w){B:Bool}(Q:x=j5 (I h) v B){l:aa}(hl:h[v]?=some l)(pl:l.aM):
  ∃u m y,y∈w/\h[u]?=some m/\m.aM/\l.gate=m.gate/\((c9 h v=B/\m.ay=l.ay+1/\y=fj (I h) u (!c9 h u))\/(c9 h v=(!B)/\l.ay=m.ay+1/\y=fj (I h) u (c9 h u))):=by
 have ok:=g.ok;have mp:=uu ok;obtain⟨i1,i2⟩:=IE ok hl pl;have z:=zr mp L T;rw[Q,IV hl pl]at z;by_cases D:(c9 h v==B)
 .rw[aH D]at z;have f:I (qE F h ((aL h).idxOf v))<=1:=by
   rw[<-O];unfold jC;have:=(ahY (F:=F) (h:=h) w (dV.new h (w.headD 0))).2 _ z J;rwa[show(2*I h+2*(aL h).idxOf v-2*I h)/2=(aL h).idxOf v by omega]at this
  have H:(aL h).idxOf v+1<I (aL h):=by
   unfold qE at f;simp only at f;split at f
   .assumption
   rw[fv,xg,xg]at f;omega
  obtain⟨m,j,A⟩:=CO H;have M:m.gate<=l.gate:=by unfold qE at f;simp only at f;rw[aH H,xg,i2,jv H,Aw hl,Aw j]at f;have:=(ok.ax.fK l (ch hl) pl).g0;have:=(ok.ax.fK m (ch j) A).g0;omega
  obtain⟨r1,R⟩:=aog ok H i2 rfl hl j pl A M;have Z:=zr mp L z;rw[Iw,jv H]at Z;exact⟨_,m,_,Z,j,A,r1,.inl ⟨eq_of_beq D,R,rfl⟩⟩
 rw[aw D]at z;have N:=fC ((aL h).idxOf v+I (aL h)-1) (show 0<I (aL h) by omega);have E:=vZ i1;generalize((aL h).idxOf v+I (aL h)-1)%I (aL h)=k at z N E;have f:I (qE F h k)<=1:=by rw[<-O];unfold jC;have:=(ahY (F:=F) (h:=h) w (dV.new h (w.headD 0))).2 _ z J;rwa[show(2*I h+2*k+1-2*I h)/2=k by omega]at this
 have H:k+1<I (aL h):=by
  unfold qE at f;simp only at f;split at f
  .assumption
  rw[fv,xg,xg]at f;omega
 rw[jv H]at E;obtain⟨m,j,A⟩:=CO N;have M:l.gate<=m.gate:=by unfold qE at f;simp only at f;rw[aH H,xg,jv H,E,i2,Aw hl,Aw j]at f;have:=(ok.ax.fK l (ch hl) pl).g0;have:=(ok.ax.fK m (ch j) A).g0;omega
 obtain⟨r1,R⟩:=aog ok H rfl (by rw[E];exact i2) j hl A pl M;have Z:=zr mp L z;rw[Hk]at Z;refine⟨_,m,_,Z,j,A,r1.symm,.inr ⟨?_,R,rfl⟩⟩;revert D;cases c9 h v<;>cases B<;>simp
def adN{l:cY}{i:Nat}{r:Int}{p:aU}(h:l[i]?=some p)(j:Nat):(kn l i r)[j]?=if j=i then some ⟨{p.l with ay:=r},p.d⟩else l[j]? :=by
 have hl:=(cD.1 h).1;unfold kn;rw[dS,h,mO,mA];by_cases c:j=i
 .subst c;rw[aH rfl,aH hl,aH rfl]
 rw[aw (Ne.symm c),aw c]
def W8{q:aU->Bool}{l:cY}{i:Nat}{r:Int}{p:aU}(h:l[i]?=some p)(H:∀p:aU,q ⟨{p.l with ay:=r},p.d⟩=q p):(kn l i r).countP q=l.countP q:=by unfold kn;rw[dS,h,mO];have:=ab5 (p:=q) (y:=⟨{p.l with ay:=r},p.d⟩) h;rw[H]at this;show List.countP q (l.set i ⟨{p.l with ay:=r},p.d⟩)=_;omega
def as9(g:cK F h){a b:Nat}(ha:a<I h)(hb:b<I h)(ez:a≠b){A fT pa pb:Nat}{la lb ma mb:aa}
  (ea:(pa=a/\A=aK h a)\/(pa=aK h a/\A=a)) (eb:(pb=b/\fT=aK h b)\/(pb=aK h b/\fT=b)) (pR:h[A]?=some la) (A8:h[fT]?=some lb) (Cw:h[pa]?=some ma) (Cx:h[pb]?=some mb)
  (ca:la.aF) (cb:lb.aF) (qa:ma.aM) (qb:mb.aM) (B:la.id=lb.id) (hv:A≠fT) (LG:oT F h 1 [a,b] a):
  ∃w,w∈fO (cA h) (ct h)/\(jC F h w).places.length=1/\ ∃d,d∈w/\d<2*I h/\cA h d∈w/\cA h d<2*I h/\(∀y,y∈w->y<2*I h->y=d\/y=cA h d)/\
   ((d/2=a/\cA h d/2=b/\cO (I h) d=pa/\cQ (I h) d=A/\cO (I h) (cA h d)=fT/\cQ (I h) (cA h d)=pb)\/(d/2=b/\cA h d/2=a/\cO (I h) d=pb/\cQ (I h) d=fT/\cO (I h) (cA h d)=A/\cQ (I h) (cA h d)=pa)):=by
 have ok:=g.ok;obtain⟨w,hw,pV,R,hE⟩:=aeP g ha LG;obtain⟨E,Z,X,BZ⟩:=hE a aQ;obtain⟨z,AN,T,B5⟩:=hE b aQ;have aN:E≠z:=J;have O:∀d,d∈w->d<2*I h->d∈w.filter λx=>decide (x<2*I h):=λd j H=>uQ.2 ⟨j,by simpa using H⟩;have two:∀d,d∈w->d<2*I h->d=E\/d=z:=λd j H=>aia R (O E Z X) (O z AN T) aN (O d j H);have L:∀d e p v:Nat,d/2=e->((p=e/\v=aK h e)\/(p=aK h e/\v=e))->(cO (I h) d=p/\cQ (I h) d=v)\/(cO (I h) d=v/\cQ (I h) d=p):=λd e p v j H=>by
  unfold cO cQ;rw[j];show((if _ then e else aK h e)=p/\(if _ then aK h e else e)=v)\/((if _ then e else aK h e)=v/\(if _ then aK h e else e)=p);rcases H with⟨rfl,rfl⟩|⟨rfl,rfl⟩<;>split
  .exact .inl ⟨rfl,rfl⟩
  .exact .inr ⟨rfl,rfl⟩
  .exact .inr ⟨rfl,rfl⟩
  exact .inl ⟨rfl,rfl⟩
 have pc:∀ {x y:Nat}{l m:aa},h[x]?=some l->h[y]?=some m->l.aF->m.aM->x≠y:=λj H h3 h4 e=>by subst e;rw[j]at H;have:=lq H;rw[this,q_ h4]at h3;cases h3
 have go:∀(d D p v p' Q:Nat) (l m l' m':aa),d∈w->d<2*I h->D<2*I h->cO (I h) d=p->cQ (I h) d=v->h[v]?=some l->h[p]?=some m->h[Q]?=some l'->h[p']?=some m'->l.aF->m.aM->l'.aF->m'.aM->l.id=l'.id->v≠Q->(∀y,y∈w->y<2*I h->y=d\/y=D)->((cO (I h) D=p'/\cQ (I h) D=Q)\/(cO (I h) D=Q/\cQ (I h) D=p'))->cA h d=D/\cO (I h) D=Q/\cQ (I h) D=p':=by
  intro d D p v p' Q l m l' m' d1 d2 ab hT hH hl hm yG nT cl pm M MT B hv tw en;obtain⟨s1,s2,_⟩:=II g d2 (by rw[hH];exact hl) cl;rw[hH,IG g hl yG cl M B hv]at s2;rcases tw _ (zr (uu ok) hw d1) s1 with e|e
  .exfalso;rw[e,hT]at s2;exact pc yG hm M pm s2.symm
  rw[e]at s2;rcases en with⟨e1,_⟩|⟨e1,e2⟩
  .exact absurd (s2.symm.trans e1) (pc yG nT M MT)
  exact⟨e,e1,e2⟩
 have na:=L E a pa A BZ ea;have fg:=L z b pb fT B5 eb;rcases na with⟨t1,t2⟩|⟨t1,t2⟩
 .obtain⟨e1,e2,e3⟩:=go E z pa A pb fT la ma lb mb Z X T t1 t2 pR Cw A8 Cx ca qa cb qb B hv two fg;refine⟨w,hw,pV,E,Z,X,by rw[e1];exact AN,by rw[e1];exact T,by rw[e1];exact two,.inl ⟨BZ,by rw[e1];exact B5,t1,t2,by rw[e1];exact e2,by rw[e1];exact e3⟩⟩
 ·
  obtain⟨u,m,y,y1,Y,y3,_,y4⟩:=amj g hw pV Z (v:=pa) (B:=cW E) (by rw[<-t2];exact adw X) Cw qa;have hu:=(cD.1 Y).1;have yT:cO (I h) y=u/\y<2*I h:=by
   have key:∀f,cO (I h) (fj (I h) u f)=u/\fj (I h) u f<2*I h:=λf=>⟨(Sg hu).1,by
    have:=DS hu (!f);rw[<-zc]at this;have:=Aq this;rwa[Bs]at this⟩
   rcases y4 with⟨_,_,e⟩|⟨_,_,e⟩<;>rw[e]<;>exact key _
  have yb:y=z:=by
   rcases two y y1 yT.2 with e|e
   .exfalso;rw[e,t1]at yT;rw[<-yT.1]at Y;rw[pR]at Y;have:=lq Y;rw[<-this,pk ca]at y3;cases y3
   exact e
  have N:cO (I h) z=pb/\cQ (I h) z=fT:=by
   rcases fg with ac|⟨j,H⟩
   .exact ac
   exfalso;rw[yb,j]at yT;rw[<-yT.1,A8]at Y;have:=lq Y;rw[<-this,pk cb]at y3;cases y3
  obtain⟨e1,e2,e3⟩:=go z E pb fT pa A lb mb la ma AN T X N.1 N.2 A8 Cx pR Cw cb qb ca qa B.symm hv.symm (λy j H=>(two y j H).symm) (.inr ⟨t1,t2⟩);refine⟨w,hw,pV,z,AN,T,by rw[e1];exact Z,by rw[e1];exact X,by rw[e1];exactλy j H=>(two y j H).symm,.inr ⟨B5,by rw[e1];exact BZ,N.1,N.2,by rw[e1];exact e2,by rw[e1];exact e3⟩⟩
end
section
variable {F:Nat} {h:ae}
def an0{e:Nat}(j:0<I h)(g:e<I h)(H:(fp h e).2.2):(((fp h e).1=e/\(fp h e).2.1=aK h e)\/((fp h e).1=aK h e/\(fp h e).2.1=e))/\(∃l,h[(fp h e).2.1]?=some l/\l.aF)/\ ∃m,h[(fp h e).1]?=some m/\m.aM:=by
 obtain⟨l,hl⟩:=aR g;obtain⟨m,f⟩:=aR (L:=h) (k:=aK h e) (fC _ j);have e1:aW h e=⟨l,jK h e⟩:=ml (nR hl);have e2:aW h (aK h e)=⟨m,jK h (aK h e)⟩:=ml (nR f);unfold fp at H |-;rw[e1,e2]at H |-;by_cases c:(l.kind==2)
 .rw[aH c]at H |-;exact⟨.inr ⟨rfl,rfl⟩,⟨l,hl,c⟩,m,f,H⟩
 rw[aw c]at H |-;simp only[dj]at H;exact⟨.inl ⟨rfl,rfl⟩,⟨m,f,H.2⟩,l,hl,H.1⟩
def amR(h:(iG f x).b=(iG f y).b)(H:(jJ f x).b=(jJ f y).b):x.i.b=y.i.b/\x.o.b=y.o.b:=by
 rw[LS,LS]at h;rw[Ki,Ki]at H;cases f
 .exact⟨H,h⟩
 exact⟨h,H⟩
def ams(h:(iG f x).b=(jJ f x).b):x.i.b=x.o.b:=by
 rw[LS,Ki]at h;cases f
 .exact h.symm
 exact h
def aj1(h:x.i.b=x.o.b):(iG f x).b=(jJ f x).b:=by
 rw[LS,Ki];cases f
 .exact h.symm
 exact h
def anS{l:aa}{r:Int}(hp:l.aM)(h:eO F l=false):eO F {l with ay:=r}=false:=by have j:({l with ay:=r}:aa).aM=true:=hp;rw[sU hp]at h;rw[sU j];exact h
def apr(g:cK F h){w:aG}(hw:w∈fO (cA h) (ct h))(pV:(jC F h w).places.length=1){d D:Nat}(hd:d∈w)(rO:d<2*I h)(Cj:D∈w)(JB:D<2*I h)(zP:cA h d=D)(two:∀y,y∈w->y<2*I h->y=d\/y=D)
  {L lv lw z:aa} (yM:h[cO (I h) d]?=some L) (rD:h[cQ (I h) d]?=some lv) (wP:h[cO (I h) D]?=some lw) (zO:h[cQ (I h) D]?=some z) (pp:L.aM) (cv:lv.aF) (cw:lw.aF) (pq:z.aM)
  {P:cY} (FG:I P=I h) (vt:∀q:aa->Bool,(∀(l:aa) (r:Int),q {l with ay:=r}=q l)->ai q (P.map aU.l)=ai q h)
  (hP:cO (I h) d≠cQ (I h) D->P[cO (I h) d]?=(cq h)[cQ (I h) d]? /\P[cQ (I h) d]?=some ⟨{L with ay:=z.ay},jK h (cO (I h) d)⟩/\P[cO (I h) D]?=some ⟨{z with ay:=L.ay},jK h (cQ (I h) D)⟩/\P[cQ (I h) D]?=(cq h)[cO (I h) D]? /\
   ∀i,i≠cO (I h) d->i≠cQ (I h) d->i≠cO (I h) D->i≠cQ (I h) D->P[i]?=(cq h)[i]?):oD F P:=by
 have ok:=g.ok;have cz:=g.cz;have hn:0<I h:=jr.2 g.ne;have t1:=Pa g rO;have t2:=Pa g JB;have h1:=JJ g rO;have R:=JJ g JB
 obtain⟨u,m,y,y1,y2,y3,pQ,y4⟩:=amj g hw pV Cj (v:=cQ (I h) D) (B:=cW D) (adw JB) zO pq;have hu:=(cD.1 y2).1;have yT:∀f,cO (I h) (fj (I h) u f)=u/\cW (fj (I h) u f)=f/\fj (I h) u f<2*I h:=λf=>⟨(Sg hu).1,(Sg hu).2,by
  have:=DS hu (!f);rw[<-zc]at this;have:=Aq this;rwa[Bs]at this⟩
 have yd:y=d:=by
  have av:cO (I h) y=u/\y<2*I h:=by rcases y4 with⟨_,_,e⟩|⟨_,_,e⟩<;>rw[e]<;>exact⟨(yT _).1,(yT _).2.2⟩
  rcases two y y1 av.2 with e|e
  .exact e
  exfalso;rw[e]at av;rw[<-av.1,wP]at y2;have:=lq y2;rw[<-this,pk cw]at y3;cases y3
 subst yd;have Jj:cO (I h) y=u:=by rcases y4 with⟨_,_,e⟩|⟨_,_,e⟩<;>rw[e]<;>exact(yT _).1
 subst Jj;rw[yM]at y2;cases y2
 obtain⟨cR,hR⟩:∃cR:Bool,(cR/\c9 h (cQ (I h) D)=cW D/\L.ay=z.ay+1/\cW y= !c9 h (cO (I h) y))\/(cR=false/\c9 h (cQ (I h) D)=(!cW D)/\z.ay=L.ay+1/\cW y=c9 h (cO (I h) y)):=by
  rcases y4 with⟨e1,e2,e3⟩|⟨e1,e2,e3⟩
  .exact⟨true,.inl ⟨rfl,e1,e2,(congrArg cW e3).trans (yT _).2.1⟩⟩
  exact⟨false,.inr ⟨rfl,e1,e2,(congrArg cW e3).trans (yT _).2.1⟩⟩
 clear y4 yT y1 y3 hu;have lk:L.ay≠z.ay:=by rcases hR with⟨_,_,N,_⟩|⟨_,_,N,_⟩<;>omega
 have Y:cO (I h) y≠cQ (I h) D:=λe=>by rw[e,zO]at yM;have:=lq yM;rw[this]at lk;exact lk rfl
 obtain⟨pT,pH,a6,bm,pU⟩:=hP Y;clear hP;obtain⟨_,o1,q1,k1⟩:=II g rO rD cv;rw[zP]at o1 q1 k1;rw[JX rO,Mn JB]at k1;obtain⟨xa,xb,xc,xd⟩:=k1;simp only[if_true]at xa xb xc xd;have pc:∀ {x y:Nat}{l m:aa},h[x]?=some l->h[y]?=some m->l.aF->m.aM->x≠y:=λh1 R h3 h4 e=>by subst e;rw[h1]at R;have:=lq R;rw[this,q_ h4]at h3;cases h3
 have ak:cQ (I h) y≠cO (I h) D:=by intro e;obtain⟨_,m,hm,_,_,mo,_⟩:=rJ ok.cr rD cv;rw[<-o1,<-e,rD]at hm;have:=lq hm;rw[<-this]at mo;revert mo;cases lv.over<;>simp
 have ag:=pc rD yM cv pp;have ao:=pc rD zO cv pq;have ad:=pc wP yM cw pp;have an:=pc wP zO cw pq
 have ee:∀d:Nat,(cO (I h) d=d/2/\cQ (I h) d=aK h (d/2))\/(cO (I h) d=aK h (d/2)/\cQ (I h) d=d/2):=λd=>by
  unfold cO cQ aK;split
  .exact .inl ⟨rfl,rfl⟩
  exact .inr ⟨rfl,rfl⟩
 have lG:y/2≠D/2/\y/2≠aK h (D/2)/\aK h (y/2)≠D/2/\aK h (y/2)≠aK h (D/2)/\y/2≠aK h (y/2)/\D/2≠aK h (D/2):=by
  rcases ee y with⟨B,E⟩|⟨B,E⟩<;>rcases ee D with⟨b1,b2⟩|⟨b1,b2⟩
  .rw[<-E,<-B,<-b2,<-b1];exact⟨ad.symm,Y,ak,ao,ag.symm,an⟩
  .rw[<-E,<-B,<-b1,<-b2];exact⟨Y,ad.symm,ao,ak,ag.symm,an.symm⟩
  .rw[<-B,<-E,<-b2,<-b1];exact⟨ak,ao,ad.symm,Y,ag,an⟩
  rw[<-B,<-E,<-b1,<-b2];exact⟨ao,ak,Y,ad.symm,ag,an.symm⟩
 let T:=(v8 h y).l
 let tI:=iG (cW y) (fx h (cO (I h) y))
 let hO:=jJ (cW D) (fx h (cQ (I h) D))
 let O:=(jJ (cW y) (fx h (cQ (I h) y))).r
 let K1:gj:=⟨hO.r,T,tI.b⟩
 let K2:gj:=⟨tI.r,T,hO.b⟩
 let j:Nat->gj:=λA=>if A=y/2 then Ao (cW y) K1 else if A=D/2 then Ao (cW D) K2 else r4 h A
 have bi:j (y/2)=Ao (cW y) K1:=aH rfl;have bb:j (D/2)=Ao (cW D) K2:=by show(if _ then _ else _)=_;rw[aw lG.1.symm,aH rfl]
 have ab:∀A,A≠y/2->A≠D/2->j A=r4 h A:=λA h1 R=>by show(if _ then _ else _)=_;rw[aw h1,aw R]
 have ac:∀i,i<I h->i≠aK h (y/2)->i≠aK h (D/2)->j ((i+I h-1)%I h)=r4 h ((i+I h-1)%I h):=λi H Q n2=>ab _ (λN=>Q (DI H N)) (λN=>n2 (DI H N))
 obtain⟨z1,z2,z3,z4,z5,z6⟩:=lG;have X:=P4 (P:=P) FG rO bi (ac _ J z5 z2) (ab _ z5.symm z3);have Z:=P4 (P:=P) FG JB bb (ac _ J z3.symm z6) (ab _ z2.symm z6.symm);have un:∀i,i<I h->i≠cO (I h) y->i≠cQ (I h) y->i≠cO (I h) D->i≠cQ (I h) D->dt P j i=fx h i:=λi H Q n2 n3 n4=>by
  have B:i≠y/2/\i≠aK h (y/2):=by
   rcases ee y with⟨B,E⟩|⟨B,E⟩
   .rw[<-E,<-B];exact⟨Q,n2⟩
   rw[<-B,<-E];exact⟨n2,Q⟩
  have E:i≠D/2/\i≠aK h (D/2):=by
   rcases ee D with⟨B,E⟩|⟨B,E⟩
   .rw[<-E,<-B];exact⟨n3,n4⟩
   rw[<-B,<-E];exact⟨n4,n3⟩
  exact ah5 FG H (pU i Q n2 n3 n4) (ac i H B.2 E.2) (ab i B.1 E.1)
 have aA:∀i,i<I h->(i=cO (I h) y\/i=cQ (I h) y\/i=cO (I h) D\/i=cQ (I h) D)\/(dt P j i=fx h i/\i≠cO (I h) y/\i≠cQ (I h) y/\i≠cO (I h) D/\i≠cQ (I h) D):=λi H=>by
  rcases Classical.em (i=cO (I h) y\/i=cQ (I h) y\/i=cO (I h) D\/i=cQ (I h) D)with N|N
  .exact .inl N
  simp only[vW]at N;exact .inr ⟨un i H N.1 N.2.1 N.2.2.1 N.2.2.2,N⟩
 have gp:∀ {i:Nat}{p:aU},P[i]?=some p->(dt P j i).p=p:=λ{i p} N=>by show P.getD i _=_;rw[dS,N];rfl
 have kT:(dt P j (cO (I h) y)).k=lv:=congrArg aU.l (gp (pT.trans (nR rD)));have kH:(dt P j (cQ (I h) y)).k={L with ay:=z.ay}:=congrArg aU.l (gp pH);have zV:(dt P j (cO (I h) D)).k={z with ay:=L.ay}:=congrArg aU.l (gp a6);have HK:(dt P j (cQ (I h) D)).k=lw:=congrArg aU.l (gp (bm.trans (nR wP)));have dH:(dt P j (cQ (I h) y)).p.d=(fx h (cO (I h) y)).p.d:=by rw[gp pH];rfl
 have Fu:(dt P j (cO (I h) D)).p.d=(fx h (cQ (I h) D)).p.d:=by rw[gp a6];rfl
 have be:=(Em g h1).cb (by rw[fJ rD];exact cv);have bl:=(Em g t2).cb (by rw[fJ wP];exact cw);have bv:=aj1 (f:=cW y) be;have bw:=aj1 (f:=cW D) bl;rw[JX rO]at bv;rw[Mn JB]at bw;have bp:=Mn (h:=h) rO;have bq:=JX (h:=h) JB;have a8:=ok.ax.fK L (ch yM) pp;have a9:=ok.ax.fK z (ch zO) pq;have bg:=Vl g yM pp;have bj:=Vl g zO pq;obtain⟨p1,p2,p3,p4⟩:=bg;obtain⟨p5,p6,p7,p8⟩:=bj;rw[fJ yM]at p1 p2 p3 p4;rw[fJ zO]at p5 p6 p7 p8;have mf:=SG g yM pp;have A1:=SG g zO pq;rw[B8 (cW y)]at p1 p2;rw[B6 (cW y)]at p3 p4;rw[B8 (cW D)]at p5 p6;rw[B6 (cW D)]at p7 p8;rw[mf,bp]at p1 p2 p3 p4;rw[A1,bq]at p5 p6 p7 p8;have bo:di h z.gate.toNat=di h L.gate.toNat:=by rw[pQ]
 obtain⟨bE,IM,bC,br⟩:=a8;obtain⟨bx,bz,bu,bd⟩:=a9;rw[bo]at bd;rw[pQ]at p5 p6 p7 p8;obtain⟨r,T',B',iQ,sE,ig,hT,Da,Gc,vA⟩:∃(r:Nat) (T' B':Nat->Nat->Nat),1<=r/\r<di h L.gate.toNat/\((L.ay=(r:Int)/\z.ay=(r:Int)+1)\/(z.ay=(r:Int)/\L.ay=(r:Int)+1))/\(∀k A,¬(k=L.gate.toNat/\A=r)->T' k A=kP h k A/\B' k A=j0 h k A)/\
   HJ T' B' (dt P j (cQ (I h) y))/\HJ T' B' (dt P j (cO (I h) D))/\tI.l=hO.l:=by
  rcases hR with⟨_,eV,a7,eB⟩|⟨_,eV,a7,eB⟩
  .have f1:(cW y==c9 h (cO (I h) y))=false:=by rw[eB];cases c9 h (cO (I h) y)<;>rfl
   have f2:(cW D==c9 h (cQ (I h) D)):=by rw[eV];cases cW D<;>rfl
   rw[f1]at p1 p2 p3 p4;rw[f2]at p5 p6 p7 p8;simp only[eX,if_false,if_true]at p1 p2 p3 p4 p5 p6 p7 p8;have er:L.ay.toNat=z.ay.toNat+1:=J;rw[er]at p1 p2 p3 p4;rw[Tz]at p1 p3;refine⟨z.ay.toNat,λk A=>if k=L.gate.toNat/\A=z.ay.toNat then O else kP h k A,λk A=>if k=L.gate.toNat/\A=z.ay.toNat then T else j0 h k A,J,J,.inr ⟨J,J⟩,λk A N=>⟨aw N,aw N⟩,?_,?_,?_⟩
   .constructor
    .rw[kH,B8 (cW y),dH,mf,f1];show(jX (jJ (cW y) (dt P j (cQ (I h) y)))).r=if L.gate.toNat=L.gate.toNat/\z.ay.toNat-1=z.ay.toNat then O else kP h L.gate.toNat (z.ay.toNat-1);rw[aw J,X.2.2.2];exact xd.symm.trans p5
    .rw[kH,B8 (cW y),dH,mf,f1];show(jX (jJ (cW y) (dt P j (cQ (I h) y)))).l=if L.gate.toNat=L.gate.toNat/\z.ay.toNat=z.ay.toNat then O else kP h L.gate.toNat z.ay.toNat;rw[aH ⟨rfl,rfl⟩,X.2.2.2];rfl
    .rw[kH,B6 (cW y),dH,mf,f1];show(jX (iG (cW y) (dt P j (cQ (I h) y)))).r=if L.gate.toNat=L.gate.toNat/\z.ay.toNat-1=z.ay.toNat then T else j0 h L.gate.toNat (z.ay.toNat-1);rw[aw J,X.2.2.1];exact p7
    rw[kH,B6 (cW y),dH,mf,f1];show(jX (iG (cW y) (dt P j (cQ (I h) y)))).l=if L.gate.toNat=L.gate.toNat/\z.ay.toNat=z.ay.toNat then T else j0 h L.gate.toNat z.ay.toNat;rw[aH ⟨rfl,rfl⟩,X.2.2.1];rfl
   .constructor
    .rw[zV,B8 (cW D),Fu,A1,f2];show(iG (cW D) (dt P j (cO (I h) D))).r=if z.gate.toNat=L.gate.toNat/\L.ay.toNat-1=z.ay.toNat then O else kP h z.gate.toNat (L.ay.toNat-1);rw[aH ⟨by rw[pQ],J⟩,Z.1];exact xb.symm
    .rw[zV,B8 (cW D),Fu,A1,f2];show(iG (cW D) (dt P j (cO (I h) D))).l=if z.gate.toNat=L.gate.toNat/\L.ay.toNat=z.ay.toNat then O else kP h z.gate.toNat L.ay.toNat;rw[aw J,Z.1,pQ,er];exact xc.trans p2
    .rw[zV,B6 (cW D),Fu,A1,f2];show(jJ (cW D) (dt P j (cO (I h) D))).r=if z.gate.toNat=L.gate.toNat/\L.ay.toNat-1=z.ay.toNat then T else j0 h z.gate.toNat (L.ay.toNat-1);rw[aH ⟨by rw[pQ],J⟩,Z.2.1]
    rw[zV,B6 (cW D),Fu,A1,f2];show(jJ (cW D) (dt P j (cO (I h) D))).l=if z.gate.toNat=L.gate.toNat/\L.ay.toNat=z.ay.toNat then T else j0 h z.gate.toNat L.ay.toNat;rw[aw J,Z.2.1,pQ,er];exact p4
   exact p3.trans p8.symm
  have f1:(cW y==c9 h (cO (I h) y)):=by rw[eB];cases c9 h (cO (I h) y)<;>rfl
  have f2:(cW D==c9 h (cQ (I h) D))=false:=by rw[eV];cases cW D<;>rfl
  rw[f1]at p1 p2 p3 p4;rw[f2]at p5 p6 p7 p8;simp only[eX,if_false,if_true]at p1 p2 p3 p4 p5 p6 p7 p8;have er:z.ay.toNat=L.ay.toNat+1:=J;rw[er]at p5 p6 p7 p8;rw[Tz]at p5 p7;refine⟨L.ay.toNat,λk A=>if k=L.gate.toNat/\A=L.ay.toNat then T else kP h k A,λk A=>if k=L.gate.toNat/\A=L.ay.toNat then O else j0 h k A,J,J,.inl ⟨J,J⟩,λk A N=>⟨aw N,aw N⟩,?_,?_,?_⟩
  .constructor
   .rw[kH,B8 (cW y),dH,mf,f1];show(iG (cW y) (dt P j (cQ (I h) y))).r=if L.gate.toNat=L.gate.toNat/\z.ay.toNat-1=L.ay.toNat then T else kP h L.gate.toNat (z.ay.toNat-1);rw[aH ⟨rfl,J⟩,X.2.2.1]
   .rw[kH,B8 (cW y),dH,mf,f1];show(iG (cW y) (dt P j (cQ (I h) y))).l=if L.gate.toNat=L.gate.toNat/\z.ay.toNat=L.ay.toNat then T else kP h L.gate.toNat z.ay.toNat;rw[aw J,X.2.2.1,er];exact p6
   .rw[kH,B6 (cW y),dH,mf,f1];show(jJ (cW y) (dt P j (cQ (I h) y))).r=if L.gate.toNat=L.gate.toNat/\z.ay.toNat-1=L.ay.toNat then O else j0 h L.gate.toNat (z.ay.toNat-1);rw[aH ⟨rfl,J⟩,X.2.2.2]
   rw[kH,B6 (cW y),dH,mf,f1];show(jJ (cW y) (dt P j (cQ (I h) y))).l=if L.gate.toNat=L.gate.toNat/\z.ay.toNat=L.ay.toNat then O else j0 h L.gate.toNat z.ay.toNat;rw[aw J,X.2.2.2,er];exact xd.symm.trans p8
  .constructor
   .rw[zV,B8 (cW D),Fu,A1,f2];show(jX (jJ (cW D) (dt P j (cO (I h) D)))).r=if z.gate.toNat=L.gate.toNat/\L.ay.toNat-1=L.ay.toNat then T else kP h z.gate.toNat (L.ay.toNat-1);rw[aw J,Z.2.1,pQ];exact p1
   .rw[zV,B8 (cW D),Fu,A1,f2];show(jX (jJ (cW D) (dt P j (cO (I h) D)))).l=if z.gate.toNat=L.gate.toNat/\L.ay.toNat=L.ay.toNat then T else kP h z.gate.toNat L.ay.toNat;rw[aH ⟨by rw[pQ],rfl⟩,Z.2.1];rfl
   .rw[zV,B6 (cW D),Fu,A1,f2];show(jX (iG (cW D) (dt P j (cO (I h) D)))).r=if z.gate.toNat=L.gate.toNat/\L.ay.toNat-1=L.ay.toNat then O else j0 h z.gate.toNat (L.ay.toNat-1);rw[aw J,Z.1,pQ];exact xc.trans p3
   rw[zV,B6 (cW D),Fu,A1,f2];show(jX (iG (cW D) (dt P j (cO (I h) D)))).l=if z.gate.toNat=L.gate.toNat/\L.ay.toNat=L.ay.toNat then O else j0 h z.gate.toNat L.ay.toNat;rw[aH ⟨by rw[pQ],rfl⟩,Z.1];exact xb.symm
  exact p2.trans p5.symm
 clear p1 p2 p3 p4 p5 p6 p7 p8 hR;have aE:∀i,i<I h->(dt P j i).k.aM->(i=cQ (I h) y\/i=cO (I h) D)\/(dt P j i=fx h i/\i≠cO (I h) y/\i≠cQ (I h) y/\i≠cO (I h) D/\i≠cQ (I h) D):=λi H hp=>by
  rcases aA i H with(rfl|rfl|rfl|rfl)|N
  .rw[kT,pk cv]at hp;cases hp
  .exact .inl (.inl rfl)
  .exact .inl (.inr rfl)
  .rw[HK,pk cw]at hp;cases hp
  exact .inr N
 have az:∀i,i<I h->(dt P j i).k.aF->(i=cO (I h) y\/i=cQ (I h) D)\/(dt P j i=fx h i/\i≠cO (I h) y/\i≠cQ (I h) y/\i≠cO (I h) D/\i≠cQ (I h) D):=λi H hc=>by
  have Q:∀(l:aa) (r:Int),l.aM->({l with ay:=r}:aa).aF=false:=λl r N=>q_ (l:={l with ay:=r}) N;rcases aA i H with(rfl|rfl|rfl|rfl)|N
  .exact .inl (.inl rfl)
  .rw[kH,Q _ _ pp]at hc;cases hc
  .rw[zV,Q _ _ pq]at hc;cases hc
  .exact .inl (.inr rfl)
  exact .inr N
 have ar:∀i,i<I h->(dt P j i).k.aM->∃A l,h[A]?=some l/\l.aM/\(dt P j i).k.gate=l.gate/\(dt P j i).k.ay=l.ay/\((i=cQ (I h) y/\A=cQ (I h) D)\/(i=cO (I h) D/\A=cO (I h) y)\/(i=A/\i≠cO (I h) y/\i≠cQ (I h) D)):=λi H hp=>by
  rcases aE i H hp with(rfl|rfl)|⟨e,Q,n2,n3,n4⟩
  .exact⟨_,z,zO,pq,by rw[kH];exact pQ.symm,by rw[kH],.inl ⟨rfl,rfl⟩⟩
  .exact⟨_,L,yM,pp,by rw[zV];exact pQ,by rw[zV],.inr (.inl ⟨rfl,rfl⟩)⟩
  obtain⟨l,hl⟩:=aR H;rw[e]at hp;rw[fJ hl]at hp;exact⟨i,l,hl,hp,by rw[e,fJ hl],by rw[e,fJ hl],.inr (.inr ⟨rfl,Q,n4⟩)⟩
 have C1:BX (dt P j (cO (I h) y)) (dt P j (cQ (I h) D)):=by
  obtain⟨b1,m,hm,mc,od,mo,ms⟩:=rJ ok.cr rD cv;rw[<-o1,wP]at hm;have em:=lq hm;subst em;refine⟨by rw[kT,HK,mo];simp,by rw[kT,HK,ms],?_⟩;rw[kT,q1,<-Z5,X.1,X.2.1,Z.2.2.1,Z.2.2.2];constructor<;>simp only[if_true]
  .exact vA
  .rfl
  .rfl
  rfl
 have bD:lv.id=lw.id:=by obtain⟨b1,m,hm,mc,od,mo,ms⟩:=rJ ok.cr rD cv;rw[<-o1,wP]at hm;rw[lq hm,od]
 have a0:iK h (cO (I h) D)=cQ (I h) y:=by rw[o1];exact(rJ ok.cr rD cv).1
 have aO:∀(f:Bool) i,i<I h->∀t,t=(iG f (dt P j i)).l\/t=(iG f (dt P j i)).r->∃j',j'<I h/\(t=(j j').l\/t=(j j').r):=λf i H t M=>by
  cases f
  .refine⟨i,H,?_⟩;rcases M with M|M
   .exact .inr M
   exact .inl M
  refine⟨(i+I P-1)%I P,?_,M⟩;rw[FG];exact fC _ hn
 have a5:∀(f:Bool) i,i<I h->∀t,t=(jJ f (dt P j i)).l\/t=(jJ f (dt P j i)).r->∃j',j'<I h/\(t=(j j').l\/t=(j j').r):=λf i H t M=>by
  cases f
  .refine⟨(i+I P-1)%I P,?_,?_⟩
   .rw[FG];exact fC _ hn
   rcases M with M|M
   .exact .inr M
   exact .inl M
  exact⟨i,H,M⟩
 have aN:=cz.gt;have aq:=cz.gz;rw[nV]at aq;refine ahx g (T:=T) (j:=j) (z:=T') (B:=B') FG (vt _ λ_ _=>rfl) (vt _ λ_ _=>rfl) (λk=>vt _ λ_ _=>rfl) (λi H=>?_) (λi A H hj fE ci cj e=>?_) (λi A H hj fE pi pj e1 e2=>?_) (λi H ci=>?_) (λi H pi=>?_) (λi H pi=>?_) (λk hk=>?_) ?_ (λA hj t M=>?_)
 .rcases aA i H with(rfl|rfl|rfl|rfl)|⟨e,_⟩
  .exact⟨by rw[kT];exact g.bad lv (ch rD),λ_=>ams (f:=cW y) (by rw[X.1,X.2.1]),λhp=>by rw[kT,pk cv]at hp;cases hp⟩
  .have fl:=amR (f:=cW y) (x:=dt P j (cQ (I h) y)) (y:=fx h (cO (I h) y)) (by rw[X.2.2.1]) (by rw[X.2.2.2,bp];exact bv.symm);refine⟨by rw[kH];exact anS pp (g.bad L (ch yM)),λhc=>?_,λ_=>?_⟩
   .rw[kH]at hc;have:=q_ (l:={L with ay:=z.ay}) pp;rw[this]at hc;cases hc
   rw[fl.1,fl.2,dH];exact(Em g t1).pb (by rw[fJ yM];exact pp)
  .have fl:=amR (f:=cW D) (x:=dt P j (cO (I h) D)) (y:=fx h (cQ (I h) D)) (by rw[Z.1,bq];exact bw) (by rw[Z.2.1]);refine⟨by rw[zV];exact anS pq (g.bad z (ch zO)),λhc=>?_,λ_=>?_⟩
   .rw[zV]at hc;have:=q_ (l:={z with ay:=L.ay}) pq;rw[this]at hc;cases hc
   rw[fl.1,fl.2,Fu];exact(Em g R).pb (by rw[fJ zO];exact pq)
  .exact⟨by rw[HK];exact g.bad lw (ch wP),λ_=>ams (f:=cW D) (by rw[Z.2.2.1,Z.2.2.2]),λhp=>by rw[HK,pk cw]at hp;cases hp⟩
  rw[e];exact Em g H
 .rcases az i H ci with(rfl|rfl)|⟨ei,Q,n2,n3,n4⟩<;>rcases az A hj cj with(rfl|rfl)|⟨ej,m1,m2,m3,m4⟩
  .exact absurd rfl fE
  .exact C1
  .exfalso;obtain⟨l,hl⟩:=aR hj;rw[kT,ej,fJ hl]at e;rw[ej,fJ hl]at cj;have:=IG g rD hl cv cj e m2.symm;rw[<-o1]at this;exact m3 this.symm
  .exact C1.symm
  .exact absurd rfl fE
  .exfalso;obtain⟨l,hl⟩:=aR hj;rw[HK,ej,fJ hl]at e;rw[ej,fJ hl]at cj;have:=IG g wP hl cw cj e m3.symm;rw[a0]at this;exact m2 this.symm
  .exfalso;obtain⟨l,hl⟩:=aR H;rw[kT,ei,fJ hl]at e;rw[ei,fJ hl]at ci;have:=IG g rD hl cv ci e.symm n2.symm;rw[<-o1]at this;exact n3 this.symm
  .exfalso;obtain⟨l,hl⟩:=aR H;rw[HK,ei,fJ hl]at e;rw[ei,fJ hl]at ci;have:=IG g wP hl cw ci e.symm n3.symm;rw[a0]at this;exact n2 this.symm
  rw[ei]at ci e |-;rw[ej]at cj e |-;exact OE g H hj fE ci cj e
 .obtain⟨a,l,hl,_,OX,uV,c1⟩:=ar i H pi;obtain⟨b,m,hm,_,bc,vK,c2⟩:=ar A hj pj;rename_i ED MT;have ez:a≠b:=by
   intro e;rcases c1 with⟨i1,j1⟩|⟨i1,j1⟩|⟨i1,i2,i3⟩<;>rcases c2 with⟨k1,k2⟩|⟨k1,k2⟩|⟨k1,k2,k3⟩
   .exact fE (i1.trans k1.symm)
   .exact Y (by rw[<-k2,<-e,j1])
   .exact k3 (by rw[k1,<-e,j1])
   .exact Y (by rw[<-j1,e,k2])
   .exact fE (i1.trans k1.symm)
   .exact k2 (by rw[k1,<-e,j1])
   .exact i3 (by rw[i1,e,k2])
   .exact i2 (by rw[i1,e,k2])
   exact fE (by rw[i1,k1,e])
  have gl:=ok.ax.fK l (ch hl) ED;have gm:=ok.ax.fK m (ch hm) MT;exact ez (ok.ax.inj a b l m hl hm ED MT ((Fj gl gm).2 ⟨by rw[<-OX,<-bc,e1],by rw[<-uV,<-vK,e2]⟩))
 .rcases az i H ci with(rfl|rfl)|⟨ei,_⟩
  .rw[kT];exact g.ids.1 lv (ch rD) cv
  .rw[HK];exact g.ids.1 lw (ch wP) cw
  obtain⟨l,hl⟩:=aR H;rw[ei,fJ hl]at ci |-;exact g.ids.1 l (ch hl) ci
 .obtain⟨a,l,hl,ED,OX,uV,_⟩:=ar i H pi;rw[OX,uV];obtain⟨_,_,b1,b2⟩:=ok.ax.fK l (ch hl) ED;exact⟨b1,b2⟩
 .rcases aE i H pi with(rfl|rfl)|⟨ei,Q,n2,n3,n4⟩
  .exact Da
  .exact Gc
  obtain⟨l,hl⟩:=aR H;rw[ei]at pi |-;rw[fJ hl]at pi;obtain⟨B,E,a3,a4⟩:=Vl g hl pi;rw[fJ hl]at B E a3 a4;obtain⟨b0,_,b1,b2⟩:=ok.ax.fK l (ch hl) pi;have far:l.gate.toNat=L.gate.toNat->l.ay.toNat≠r/\l.ay.toNat-1≠r:=λj9=>by have gg:l.gate=L.gate:=J;have d1:l.ay≠L.ay:=λe=>Q (ok.ax.inj i _ l L hl yM pi pp ((Fj (ok.ax.fK l (ch hl) pi) (ok.ax.fK L (ch yM) pp)).2 ⟨gg,e⟩));have d2:l.ay≠z.ay:=λe=>n4 (ok.ax.inj i _ l z hl zO pi pq ((Fj (ok.ax.fK l (ch hl) pi) (ok.ax.fK z (ch zO) pq)).2 ⟨by rw[gg,pQ],e⟩));rcases ig with⟨s1,s2⟩|⟨s1,s2⟩<;>omega
  have v1:=hT l.gate.toNat (l.ay.toNat-1) (λ⟨h1,R⟩=>(far h1).2 R);have v2:=hT l.gate.toNat l.ay.toNat (λ⟨h1,R⟩=>(far h1).1 R);constructor
  .rw[fJ hl,v1.1];exact B
  .rw[fJ hl,v2.1];exact E
  .rw[fJ hl,v1.2];exact a3
  rw[fJ hl,v2.2];exact a4
 .have:=aN k hk;rw[nV]at this;have v1:=hT k (di h k) (λ⟨h1,R⟩=>by rw[h1]at R;omega);have v2:=hT (k+1) 0 (λ⟨_,R⟩=>J);rw[v1.1,v1.2,v2.1,v2.2];exact this
 .have v1:=hT F (di h F) (λ⟨h1,R⟩=>by rw[h1]at R;omega);have v2:=hT 0 0 (λ⟨_,R⟩=>J);rw[v1.1,v1.2,v2.1,v2.2];exact aq
 have ap:∀d,A=d/2->t=(v8 h d).l\/t=(v8 h d).r:=λd hd=>by
  rw[hd]at M;unfold v8;split
  .exact M
  exact M.symm
 by_cases Q:A=y/2
 .rcases ap y Q with N|N
  .exact .inl N
  exact .inr (aO (cW D) _ t2 t (.inl (by rw[Z.1,N];exact xc.symm)))
 by_cases n2:A=D/2
 .rcases ap D n2 with N|N
  .exact .inl (N.trans xa.symm)
  exact .inr (a5 (cW y) _ h1 t (.inl (by rw[X.2.2.2,N];exact xd)))
 exact .inr ⟨A,hj,by rw[ab A Q n2];exact M⟩
def avK(g:cK F h){a b:Nat}(ha:a<I h)(hb:b<I h)(ez:a≠b)(ar:vQ F h a b=some L):oD F L:=by
 unfold vQ at ar;split at ar
 case isFalse=>cases ar
 rename_i hc;simp only[dj,mP,ng,dI]at hc;obtain⟨h1,h2,h3,h4,h5⟩:=hc;cases ar;have hn:0<I h:=jr.2 g.ne;have bN:=cU h;obtain⟨ea,⟨la,pR,ca⟩,R,Y,qa⟩:=an0 hn ha h1;obtain⟨eb,⟨lb,A8,cb⟩,M,O,qb⟩:=an0 hn hb h2;generalize(fp h a).1=pa at*;generalize(fp h a).2.1=va at*;generalize(fp h b).1=pb at*;generalize(fp h b).2.1=fT at*;have an:aW h va=⟨la,jK h va⟩:=ml (nR pR);have ao:aW h fT=⟨lb,jK h fT⟩:=ml (nR A8);have ak:aW h pa=⟨R,jK h pa⟩:=ml (nR Y);have ap:aW h pb=⟨M,jK h pb⟩:=ml (nR O);rw[an,ao]at h4;rw[ak,ap]
 obtain⟨w,hw,pV,d,d1,d2,d3,d4,two,cs⟩:=as9 g ha hb ez ea eb pR A8 Y O ca cb qa qb h4 h3 h5;have pc:∀ {x y:Nat}{l m:aa},h[x]?=some l->h[y]?=some m->l.aF->m.aM->x≠y:=λh1 h2 h3 h4 e=>by subst e;rw[h1]at h2;have:=lq h2;rw[this,q_ h4]at h3;cases h3
 have E:va≠pa:=pc pR Y ca qa;have H:fT≠pb:=pc A8 O cb qb;have z:va≠pb:=pc pR O ca qb;have A:fT≠pa:=pc A8 Y cb qa
 let f:=kn (kn (cq h) pa M.ay) pb R.ay
 have X:=nR Y;have ag:pa≠pb->(kn (cq h) pa M.ay)[pb]?=some ⟨M,jK h pb⟩:=λB=>by rw[adN X,aw B.symm];exact nR O
 have aq:∃p,(kn (cq h) pa M.ay)[pb]?=some p:=aR (by rw[Bq,bN];exact(cD.1 O).1);have TJ:I f=I h:=by show(kn (kn _ _ _) _ _).length=_;rw[Bq,Bq,bN]
 have e1:I (jl h f a)=I h:=by rw[GA,TJ]
 have FG:I (jQ h f [a,b])=I h:=by rw[B9,TJ]
 have vt:∀q:aa->Bool,(∀(l:aa) (r:Int),q {l with ay:=r}=q l)->ai q ((jQ h f [a,b]).map aU.l)=ai q h:=λq hq=>by rw[<-UA (h:=h) q];show List.countP _ _=List.countP _ _;rw[CJ,CJ];show(jl h (jl h f a) b).countP _=_;obtain⟨p,hp⟩:=aq;rw[J2 e1 hb (adr g hb),J2 TJ ha (adr g ha),W8 hp (λp=>hq _ _),W8 X (λp=>hq _ _)]
 have ad:pa≠pb->f[pa]?=some ⟨{R with ay:=M.ay},jK h pa⟩/\f[pb]?=some ⟨{M with ay:=R.ay},jK h pb⟩/\ ∀i,i≠pa->i≠pb->f[i]?=(cq h)[i]? :=λB=>by
  have k:∀j,f[j]?=if j=pb then some ⟨{M with ay:=R.ay},jK h pb⟩else if j=pa then some ⟨{R with ay:=M.ay},jK h pa⟩else(cq h)[j]? :=λj=>by show(kn (kn _ _ _) _ _)[j]?=_;rw[adN (ag B),adN X]
  refine⟨by rw[k,aw B,aH rfl],by rw[k,aH rfl],λi N D=>by rw[k,aw D,aw N]⟩
 have ac:pa≠pb->(jQ h f [a,b])[pa]?=f[va]? /\(jQ h f [a,b])[va]?=f[pa]? /\(jQ h f [a,b])[pb]?=f[fT]? /\(jQ h f [a,b])[fT]?=f[pb]? /\ ∀i,i≠pa->i≠va->i≠pb->i≠fT->(jQ h f [a,b])[i]?=f[i]? :=λB=>by
  have k:∀i,(jQ h f [a,b])[i]?=if i=aK h b then(jl h f a)[b]? else if i=b then(jl h f a)[aK h b]? else(jl h f a)[i]? :=λi=>NW e1 hb i;have k2:∀i,(jl h f a)[i]?=if i=aK h a then f[a]? else if i=a then f[aK h a]? else f[i]? :=λi=>NW TJ ha i;have ka:∀i,i≠pa->i≠va->(jl h f a)[i]?=f[i]? :=λi N D=>by
   rcases ea with⟨u,Q⟩|⟨u,Q⟩
   .rw[k2,aw (by rw[<-Q];exact D),aw (by rw[<-u];exact N)]
   rw[k2,aw (by rw[<-u];exact N),aw (by rw[<-Q];exact D)]
  have kb:∀i,i≠pb->i≠fT->(jQ h f [a,b])[i]?=(jl h f a)[i]? :=λi N D=>by
   rcases eb with⟨u,Q⟩|⟨u,Q⟩
   .rw[k,aw (by rw[<-Q];exact D),aw (by rw[<-u];exact N)]
   rw[k,aw (by rw[<-u];exact N),aw (by rw[<-Q];exact D)]
  have ab:(jl h f a)[pa]?=f[va]? /\(jl h f a)[va]?=f[pa]? :=by
   rcases ea with⟨u,Q⟩|⟨u,Q⟩
   .exact⟨by rw[k2,aw (by rw[<-Q];exact E.symm),aH u,<-Q],by rw[k2,aH Q,<-u]⟩
   exact⟨by rw[k2,aH u,<-Q],by rw[k2,aw (by rw[<-u];exact E),aH Q,<-u]⟩
  have Qo:(jQ h f [a,b])[pb]?=(jl h f a)[fT]? /\(jQ h f [a,b])[fT]?=(jl h f a)[pb]? :=by
   rcases eb with⟨u,Q⟩|⟨u,Q⟩
   .exact⟨by rw[k,aw (by rw[<-Q];exact H.symm),aH u,<-Q],by rw[k,aH Q,<-u]⟩
   exact⟨by rw[k,aH u,<-Q],by rw[k,aw (by rw[<-u];exact H),aH Q,<-u]⟩
  refine⟨by rw[kb _ B A.symm,ab.1],by rw[kb _ z h3,ab.2],by rw[Qo.1,ka _ A (Ne.symm h3)],by rw[Qo.2,ka _ B.symm z.symm],λi N D n3 T=>by rw[kb i n3 T,ka i N D]⟩
 rcases cs with⟨c1,c2,c3,c5,c4,ft⟩|⟨c1,c2,c3,c5,c4,ft⟩
 .refine apr g hw pV d1 d2 d3 d4 rfl two (L:=R) (lv:=la) (lw:=lb) (z:=M) (by rw[c3];exact Y) (by rw[c5];exact pR) (by rw[c4];exact A8) (by rw[ft];exact O) qa ca cb qb FG vt λB=>?_;rw[c3,c5,c4,ft]at*;obtain⟨g1,g2,Z⟩:=ad B;obtain⟨s1,s2,w5,DZ,VV⟩:=ac B;exact⟨by rw[s1,Z _ E z],by rw[s2,g1],by rw[DZ,g2],by rw[w5,Z _ A H],λi N D n3 T=>by rw[VV i N D T n3,Z i N T]⟩
 refine apr g hw pV d1 d2 d3 d4 rfl two (L:=M) (lv:=lb) (lw:=la) (z:=R) (by rw[c3];exact O) (by rw[c5];exact A8) (by rw[c4];exact pR) (by rw[ft];exact Y) qb cb ca qa FG vt λB=>?_;rw[c3,c5,c4,ft]at*;obtain⟨g1,g2,Z⟩:=ad B.symm;obtain⟨s1,s2,w5,DZ,VV⟩:=ac B.symm;exact⟨by rw[w5,Z _ A H],by rw[DZ,g2],by rw[s2,g1],by rw[s1,Z _ E z],λi N D n3 T=>by rw[VV i T n3 N D,Z i T N]⟩
end
end Go.Abs
