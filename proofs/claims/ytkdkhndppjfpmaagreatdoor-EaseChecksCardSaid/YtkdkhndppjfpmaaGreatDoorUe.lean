/- A part. -/
import Derived.Test.YtkdkhndppjfpmaaGreatDoorUc
import Derived.Test.YtkdkhndppjfpmaaGreatDoorVb
set_option linter.all false
open List renaming length->I
set_option maxHeartbeats 16000000
namespace Go.Abs
variable{g f:Bool}{x y:bl}{j:Nat->ff}{n v m:Nat}{L:cX}
def s6.Tl{i o j q:ff}(h:s6 g i o j q):s6 (!g) (jW o) (jW i) j q:=by obtain⟨a,b,c,d⟩:=h;cases g<;>simp only[eI,if_false,if_true]at a b c d<;>constructor<;>simp[jW,a,b,c,d]
def s6.Tm{i o j q:ff}(h:s6 g i o j q):s6 (!g) i o (jW q) (jW j):=by obtain⟨a,b,c,d⟩:=h;cases g<;>simp only[eI,if_false,if_true]at a b c d<;>constructor<;>simp[jW,a,b,c,d]
def iQ(f:Bool)(x:bl):ff:=if f then x.i else jW x.o
def kj(f:Bool)(x:bl):ff:=if f then x.o else jW x.i
def aax{F:Bool}:s6 true (iQ f x) (kj f x) (iQ F y) (kj F y)↔s6 (f==F) x.i x.o y.i y.o:=by
 cases f<;>cases F<;>simp only[iQ,kj,eI,if_false,if_true]
 .exact⟨λh=>h.Tl.Tm,λh=>h.Tl.Tm⟩
 .exact⟨λh=>h.Tl,λh=>h.Tl⟩
 .exact⟨λh=>h.Tm,λh=>h.Tm⟩
 exact Iff.rfl
def cJ (n d:Nat):Nat:=if d%2=0 then d/2 else(d/2+1)%n
def cP (n d:Nat):Nat:=if d%2=0 then(d/2+1)%n else d/2
def cZ(d:Nat):Bool:=d%2==0
section
variable {F:Nat} {h:ai}
def dm(P:cX)(j:Nat->ff)(i:Nat):bl:=⟨P.getD i ⟨mw,false⟩,j ((i+I P-1)%I P),j i⟩
def B4 (P:cX)(j:Nat->ff):gW:=(List.range (I P)).map (dm P j)
def amp(P:cX)(j:Nat->ff):(B4 P j).map bl.p=P:=by
 unfold B4;rw[nU];apply yV;intro i;rw[ig];by_cases h:i<I P
 .obtain⟨p,hp⟩:=aT h;rw[qI h,hp];show some (P.getD i _)=_;rw[dC,hp];rfl
 rw[pF (by rw[xi];omega),pF J];rfl
def atx(P:cX)(j:Nat->ff)(h:0<I P):∃s,jj s (B4 P j) s:=by
 refine⟨j (I P-1),?_⟩;have:=amA (dm P j) (λi=>j ((i+I P-1)%I P)) (I P) 0 λi _ H=>⟨rfl,?_⟩
 .simp only[lq]at this;rw[jh J,show I P+I P-1=(I P-1)+I P by omega,v8,jh J,<-Xg]at this;exact this
 show j i=j ((i+1+I P-1)%I P);rw[show i+1+I P-1=i+I P by omega,v8,jh J]
def ae2(g:cE F h){P:cX}{A B:Nat->Nat->Nat}{T:Nat}(hl:I P=I h)
  (M:an aa.aB (P.map aR.l)=an aa.aB h) (X:an aa.aI (P.map aR.l)=an aa.aI h) (R:∀k,bU (P.map aR.l) k=bU h k)
  (ok:∀i,i<I h->zc F (dm P j i)) (cr:∀i v,i<I h->v<I h->i≠v->lG (dm P j i) (dm P j v)) (rk:∀i v,i<I h->v<I h->i≠v->zG (dm P j i) (dm P j v))
  (ids:∀i,i<I h->(dm P j i).k.aB->1<=(dm P j i).k.id/\(dm P j i).k.id<=((an aa.aB h/2:Nat):Int))
  (rr:∀i,i<I h->(dm P j i).k.aI->1<=(dm P j i).k.ay/\(dm P j i).k.ay<=(bU h (dm P j i).k.gate.toNat:Int))
  (pl:∀i,i<I h->(dm P j i).k.aI->CV A B (dm P j i))
  (gt:∀k,k<F->A k (bU h k)=A (k+1) 0/\B k (bU h k)=B (k+1) 0) (gz:A F (bU h F)=A 0 0/\B F (bU h F)=B 0 0)
  (wit:∀v,v<I h->∀t,(t=(nx h v).l\/t=(nx h v).r)->t=T\/ ∃D,D<I h/\(t=(j D).l\/t=(j D).r)):lL F P:=by
 have hn:0<I h:=jH.2 g.ne;have z:aZ (B4 P j)=P.map aR.l:=by
  show(B4 P j).map (λx=>x.p.l)=_;have:(B4 P j).map (λx=>x.p.l)=((B4 P j).map bl.p).map aR.l:=by rw[nU];rfl
  rw[this,amp]
 have m:∀x∈B4 P j,∃i,i<I h/\x=dm P j i:=λx H=>by obtain⟨i,f,rfl⟩:=dY.1 H;exact⟨i,by have:=gN.1 f;omega,rfl⟩
 have Q:∀i,i<I h->dm P j i∈B4 P j:=λi f=>dY.2 ⟨i,gN.2 J,rfl⟩;have q:me F (B4 P j) A B:=by
  refine⟨λx H=>?_,Vm λi v f E O=>cr i v J J O,?_,λx H hc=>?_,Vm λi v f E O=>rk i v J J O,λx H hp=>?_,λx H hp=>?_,λk Y=>?_,?_⟩
  .obtain⟨i,f,rfl⟩:=m x H;exact ok i f
  .rw[z,M];have:=g.cz.ev;rwa[jK]at this
  .obtain⟨i,f,rfl⟩:=m x H;rw[z,M];exact ids i f hc
  .obtain⟨i,f,rfl⟩:=m x H;rw[z,R];exact rr i f hp
  .obtain⟨i,f,rfl⟩:=m x H;exact pl i f hp
  .rw[z,R];exact gt k Y
  rw[z,R];exact gz
 refine⟨B4 P j,A,B,(List.range (gC h)).filter (λs=> ![T].contains s),amp P j,⟨atx P j J,q.ok,q.cr,q.ev,q.ids,q.rk,q.rr,q.pl,q.gt,q.gz,?_,Cq.filter _,λs ae=>?_,?_⟩⟩
 .have:0<an aa.aI (P.map aR.l):=by
   rw[X];obtain⟨l,y,u⟩:=g.first;exact At.2 ⟨l,bR y,u⟩
  rw[<-z]at this;obtain⟨l,y,u⟩:=At.1 this;obtain⟨x,H,rfl⟩:=dY.1 y;exact⟨x,H,u⟩
 .obtain⟨y,u⟩:=rY.1 ae;have u:s≠T:=by simpa using u
  obtain⟨x,H,e⟩:=g.cz.wit s y;obtain⟨v,E,rfl⟩:=dY.1 H;have E:=gN.1 E;rcases wit v E s e with Z|⟨D,N,Z⟩
  .exact absurd Z u
  exact⟨dm P j D,Q D N,Z⟩
 rw[z,M,X];have y:=amq (L:=[T]) (Cq (n:=gC h));have u:=g.nw;rw[xi]at y;simp only[dW,fU]at y;omega
def PD(g:cE F h){d:Nat}(H:d<2*I h):cJ (I h) d<I h:=by
 unfold cJ;split
 .omega
 exact fk _ (jH.2 g.ne)
def Jv(g:cE F h){d:Nat}(H:d<2*I h):cP (I h) d<I h:=by
 unfold cP;split
 .exact fk _ (jH.2 g.ne)
 omega
def acx{d:Nat}(H:d<2*I h):d=jF (I h) (cP (I h) d) (cZ d):=by have:=HI H;unfold cP cZ;exact this
def Sf(h:v<n):cJ n (eZ n v f)=v/\cZ (eZ n v f)=f:=by
 unfold cJ cZ eZ;cases f
 .simp only[eI,if_false];have g:(2*((v+n-1)%n)+1)%2=1:=J;have E:(2*((v+n-1)%n)+1)/2=(v+n-1)%n:=J;rw[g,E,xU h];exact⟨rfl,rfl⟩
 simp only[if_true];have g:(2*v)%2=0:=J;have E:(2*v)/2=v:=J;rw[g,E];exact⟨rfl,rfl⟩
def xh (h:ai)(d:Nat):ff:=if d%2=0 then nx h (d/2)else jW (nx h (d/2))
def Lf{d:Nat}(f:d<2*I h):iQ (cZ d) (fc h (cP (I h) d))=xh h d:=by
 unfold iQ cZ cP xh fc;rcases tD d with H|H
 .simp only[H,zL,if_true];rw[FG J]
 simp[H]
def LL{d:Nat}(f:d<2*I h):kj (cZ d) (fc h (cJ (I h) d))=xh h d:=by
 unfold kj cZ cJ xh fc;rcases tD d with H|H
 .simp[H]
 simp only[H,show((1:Nat)==0)=false from rfl,eI,if_false,Pc];rw[FG J]
def MH(g:cE F h){d:Nat}(v:d<2*I h){l:aa}(hl:h[cP (I h) d]?=some l)(u:l.aB):bz h d<2*I h/\cJ (I h) (bz h d)=i_ h (cP (I h) d)/\gQ l=(cZ d==cZ (bz h d))/\
  s6 true (iQ (cZ d) (fc h (cP (I h) d))) (kj (cZ d) (fc h (cP (I h) d))) (iQ (cZ (bz h d)) (fc h (cJ (I h) (bz h d)))) (kj (cZ (bz h d)) (fc h (cJ (I h) (bz h d)))):=by
 have ok:=g.ok;have z:=Jv g v;obtain⟨O,m,H,E,y,M,N⟩:=qM ok.cr hl u;have j:=(cn.1 H).1;have e:bz h d=eZ (I h) (i_ h (cP (I h) d)) (cZ d==gQ l):=by
  conv=>lhs;rw[acx v]
  rw[yB hl u];rfl
 obtain⟨B,D⟩:=Sf (n:=I h) (f:=(cZ d==gQ l)) j;have A:cP (I h) d≠i_ h (cP (I h) d):=by intro L;rw[<-L,hl]at H;have:=rz H;rw[<-this]at M;revert M;cases l.over<;>simp
 have x:gQ l=(cZ d==(cZ d==gQ l)):=by cases cZ d<;>cases gQ l<;>rfl
 rw[e,B,D];refine⟨?_,rfl,x,?_⟩
 .have:=Bj j (!(cZ d==gQ l));rw[<-u9]at this;have:=wT this;rwa[w_]at this
 rw[aax,<-x];have:=(O_ g z j A (by rw[fT hl];exact u) (by rw[fT H];exact E) (by rw[fT hl,fT H];exact y.symm)).x4;rwa[fT hl]at this
def Pg{l:cX}(hl:I l=I h){e:Nat}(j:e<I h)(i:Nat):(jU h l e)[i]?=if i=aJ h e then l[e]? else if i=e then l[aJ h e]? else l[i]? :=by
 have m:aJ h e<I h:=fk _ J;obtain⟨p,hp⟩:=aT (L:=l) (k:=e) J;obtain⟨q,H⟩:=aT (L:=l) (k:=aJ h e) J;unfold jU;rw[mT,mT,dC,dC,hp,H,jo];by_cases g:i=aJ h e
 .subst g;rw[aD rfl,aD J,aD rfl];rfl
 rw[aC (Ne.symm g),aC g];by_cases f:i=e
 .subst f;rw[aD rfl,aD J,aD rfl];rfl
 rw[aC (Ne.symm f),aC f]
def aqo(g:cE F h){w:aF}(H:w∈fz (bz h) (bt h)){Q:Nat->Prop}(n:∀x,x<bt h->(Q (bz h x)↔Q x)){x y:Nat}(u:x∈w)(m:y∈w):Q x↔Q y:=by
 have e:=Sq (qS g.ok) (R:=eM (bt h) (bz h)) (λz v=>.rel ⟨v,rfl⟩) H u m;have:=e.inv (f:=λx=>Q x) λa b r=>by obtain⟨j,rfl⟩:=r;exact propext (n a j).symm
 exact Eq.to_iff this
end
def arT:∀(L M:dd),L.Nodup->(∀x∈L,x∈M)->I L<=I M:=by
 intro L
 induction L with
 |nil=>intro M _ _;exact cG _
 |cons a L f=>intro M m ae;obtain⟨j,g⟩:=nR.1 m;have h:=ae a aP;have:=f (M.erase a) g λx H=>(QL (by rintro rfl;exact j H)).2 (ae x (by simp[H]));rw[No h]at this;have:0<I M:=LS h;simp only[dW];omega
def av8:∀l:dd,(mM l).Nodup:=by
 intro l
 induction l with
 |nil=>exact qF
 |cons a l f=>
  unfold mM;split
  .exact f
  rename_i h;exact nR.2 ⟨λH=>h (IW.1 H),f⟩
def atP{l:dd}:I (mM l)=I l->l.Nodup:=by
 induction l with
 |nil=>intro _;exact qF
 |cons a l f=>
  have H:I (mM l)<=I l:=arT _ _ (av8 l) λx g=>IW.1 g;unfold mM;rw[nR];split
  .intro e;simp only[dW]at e;omega
  rename_i h;simp only[dW];intro e;exact⟨h,f J⟩
def Tw{p:aR->Bool}{l:cX}{i:Nat}{x y:aR}(h:l[i]?=some x):(l.set i y).countP p+(if p x then 1 else 0)=l.countP p+(if p y then 1 else 0):=by
 have e:=Nu h;have hl:=(cn.1 h).1;have E:l.set i y=l.take i++y::l.drop (i+1):=by
  conv=>lhs;rw[e]
  rw[IZ _ _ (by rw[gX];omega),gX,vm J,zB];rfl
 rw[E]
 conv=>rhs;rw[e]
 rw[um,um,tA,tA];omega
section
variable {F:Nat} {h:ai}
def J9{l:cX}(hl:I l=I h){e:Nat}(j:e<I h)(A:e≠aJ h e)(p:aR->Bool):(jU h l e).countP p=l.countP p:=by
 have u:aJ h e<I h:=fk _ J;obtain⟨x,H⟩:=aT (L:=l) (k:=e) J;obtain⟨y,f⟩:=aT (L:=l) (k:=aJ h e) J;unfold jU;rw[dC,dC,H,f];simp only[kZ];have m:=Tw (p:=p) (y:=y) H;have g:(l.set e y)[aJ h e]?=some y:=by rw[mT,aC A];exact f
 have n:=Tw (p:=p) (y:=x) g;omega
def aai(g:cE F h){e:Nat}(j:e<I h):e≠aJ h e:=by
 have f:2<=I h:=by obtain⟨l,H,hp⟩:=g.first;have:=g.even;have:0<an aa.aI h:=At.2 ⟨l,bR H,hp⟩;have:=o7 aa.aI h;omega
 unfold aJ;by_cases c:e+1<I h
 .rw[jh c];omega
 rw[show e+1=I h by omega,zu];omega
def ab2(p:aa->Bool):an p ((aQ h).map aR.l)=an p h:=by
 have:(aQ h).map aR.l=h:=by
  have H:=jK h;rw[<-H];have e:aZ (eU h)=((eU h).map bl.p).map aR.l:=by rw[nU];rfl
  rw[H,<-xV,<-e,H]
 rw[this]
def MJ(g:cE F h){i j:Nat}{l m:aa}(hl:h[i]?=some l)(H:h[j]?=some m)(f:l.aB)(M:m.aB)(e:l.id=m.id)(v:i≠j):i_ h i=j:=by obtain⟨_,hp⟩:=g.ids;obtain⟨y,_⟩:=hp i j l m hl H f M e v;obtain⟨B,w,n,x,u,wo,z⟩:=qM g.ok.cr hl f;refine Classical.byContradiction λA=>?_;have D:=(hp _ _ w m n H x M (by rw[u,e]) A).1;rw[wo]at D;revert y D;cases l.over<;>cases m.over<;>simp
def asy(g:cE F h){w:aF}(n:w∈fz (bz h) (bt h)){p q r:Nat}(hp:p∈w)(H:q∈w)(v:r∈w)(f:p≠q)(pr:p≠r)(A:q≠r)(m:p<bt h)(L:q<bt h)(j:r<bt h)
  (O:bz h p=p\/bz h p=q\/bz h p=r) (X:bz h q=p\/bz h q=q\/bz h q=r) (M:bz h r=p\/bz h r=q\/bz h r=r):
  (bz h p=q/\bz h q=r/\bz h r=p)\/(bz h p=r/\bz h r=q/\bz h q=p):=by
 have inj:=(qS g.ok).inj;have i1:bz h p≠bz h q:=λe=>f (inj _ _ m L e);have i2:bz h p≠bz h r:=λe=>pr (inj _ _ m j e);have i3:bz h q≠bz h r:=λe=>A (inj _ _ L j e);have one:∀x y,x∈w->y∈w->x≠y->x<bt h->bz h x≠x:=λx y B u N D e=>by have:=aqo g n (Q:=λt=>t=x) (λt z=>⟨λE=>inj _ _ z D (by rw[E,e]),λE=>by rw[E,e]⟩) B u;exact N (this.1 rfl).symm
 have T:=one p q hp H f m;have Y:=one q p H hp (Ne.symm f) L;have R:=one r p v hp (Ne.symm pr) j;omega
def WS{d i:Nat}:(i≠cJ n d/\i≠cP n d)↔(i≠d/2/\i≠(d/2+1)%n):=by
 unfold cJ cP;split
 .exact Iff.rfl
 exact And.comm
def aaW{d:Nat}(h:d/2≠m/2/\d/2≠(m/2+1)%n/\(d/2+1)%n≠m/2/\(d/2+1)%n≠(m/2+1)%n):cJ n d≠cJ n m/\cJ n d≠cP n m/\cP n d≠cJ n m/\cP n d≠cP n m:=by
 obtain⟨H,g,f,j⟩:=h;unfold cJ cP;split<;>split
 .exact⟨H,g,f,j⟩
 .exact⟨g,H,j,f⟩
 .exact⟨f,j,H,g⟩
 exact⟨j,f,g,H⟩
def abX{d:Nat}(h:d/2≠(d/2+1)%n):cJ n d≠cP n d:=by
 unfold cJ cP;split
 .exact h
 exact h.symm
def oq (f:Bool)(s:ff):ff:=if f then s else jW s
def LI(f:Bool)(x:bl):(iQ f x).b=if f then x.i.b else x.o.b:=by cases f<;>rfl
def Kn(f:Bool)(x:bl):(kj f x).b=if f then x.o.b else x.i.b:=by cases f<;>rfl
def Qe{P:cX}{d:Nat}{g:ff}(u:I P=I h)(v:d<2*I h)(H:j (d/2)=oq (cZ d) g)(m:j ((d/2+I h-1)%I h)=nx h ((d/2+I h-1)%I h))(f:j (aJ h (d/2))=nx h (aJ h (d/2))):
  iQ (cZ d) (dm P j (cJ (I h) d))=iQ (cZ d) (fc h (cJ (I h) d))/\kj (cZ d) (dm P j (cJ (I h) d))=g/\iQ (cZ d) (dm P j (cP (I h) d))=g/\kj (cZ d) (dm P j (cP (I h) d))=kj (cZ d) (fc h (cP (I h) d)):=by
 unfold aJ at f;unfold iQ kj dm fc cJ cP;unfold cZ at H |-;rw[u];rcases tD d with n|n
 .simp only[n,zL,if_true]at H |-;rw[FG J,H,m,f];exact⟨rfl,rfl,rfl,rfl⟩
 simp only[n,show((1:Nat)==0)=false from rfl,eI,if_false,Pc]at H |-;rw[FG J,H,m,f];exact⟨rfl,rfl,rfl,rfl⟩
def al3{P:cX}{i:Nat}(H:I P=I h)(m:i<I h)(hp:P[i]?=(aQ h)[i]?)(g:j ((i+I h-1)%I h)=nx h ((i+I h-1)%I h))(f:j i=nx h i):dm P j i=fc h i:=by
 have:P.getD i ⟨mw,false⟩=⟨h.getD i mw,km h i⟩:=by obtain⟨l,hl⟩:=aT m;rw[dC,hp,oJ hl,dC,hl];rfl
 unfold dm fc;rw[H,g,f,this]
def J1{P:cX}{i f:Nat}(H:f<I h)(hp:P[i]?=(aQ h)[f]?):(dm P j i).p=(fc h f).p:=by obtain⟨l,hl⟩:=aT H;show P.getD i _=⟨h.getD f mw,km h f⟩;rw[dC,hp,oJ hl,dC,hl];rfl
def ari(g:cE F h){a b c:Nat}(ha:a<I h)(hb:b<I h)(hc:c<I h)(X:zE F h a b c=some L):lL F L:=by
 unfold zE at X;split at X
 case isFalse=>cases X
 rename_i ht;cases X;unfold HV at ht;simp only[c6,dk]at ht;obtain⟨fi,h6,_,_,_,Mc⟩:=ht;have hn:0<I h:=jH.2 g.ne;have bk:=cW h;have ok:=g.ok
 have iU:(s3 h [a,b,c]).Nodup:=atP (by rw[h6];rfl);have iU:(([a,aJ h a,b,aJ h b,c,aJ h c]:aF).map λi:Nat=>(i:Int)).Nodup:=iU;have N:a≠aJ h a/\a≠b/\a≠aJ h b/\a≠c/\a≠aJ h c/\aJ h a≠b/\aJ h a≠aJ h b/\aJ h a≠c/\aJ h a≠aJ h c/\b≠aJ h b/\b≠c/\b≠aJ h c/\aJ h b≠c/\aJ h b≠aJ h c/\c≠aJ h c:=by simp only[eJ,lr,nR,dr,ic,or_false,za,qF,and_true,not_false_eq_true]at iU;omega
 have bC:∀e∈[a,b,c],∃l br,h[e]?=some l/\h[aJ h e]?=some br/\l.aB/\br.aB:=λe he=>by
  have R:=kr.1 fi e he;have eh:e<I h:=by simp only[dr,ic,or_false]at he;rcases he with rfl|rfl|rfl<;>assumption
  obtain⟨l,hl⟩:=aT eh;obtain⟨br,hm⟩:=aT (L:=h) (k:=aJ h e) (fk _ hn);have e1:aV h e=⟨l,km h e⟩:=mu (oJ hl);have e2:aV h (aJ h e)=⟨br,km h (aJ h e)⟩:=mu (oJ hm);unfold yY at R;rw[e1,e2,c6]at R;exact⟨l,br,hl,hm,R.1,R.2⟩
 obtain⟨w,hw,_,aq,hE⟩:=adH g ha Mc;obtain⟨da,zK,xE,Cl⟩:=hE a aP;obtain⟨db,AZ,yA,Cm⟩:=hE b aP;obtain⟨dc,az,Lv,Lw⟩:=hE c aP;have hN:∀d,d<2*I h->d<bt h:=λd hd=>by unfold bt;omega
 have three:∀d,d∈w->d<2*I h->d=da\/d=db\/d=dc:=λd R Z=>by
  have aM:∀d,d∈w->d<2*I h->d∈w.filter λx=>decide (x<2*I h):=λd R Z=>rY.2 ⟨R,by simpa using Z⟩;have O:=aM da zK xE;have Q:=aM db AZ yA;have q3:=aM dc az Lv;have q4:=aM d R Z;generalize w.filter (λx=>decide (x<2*I h))=D at aq O Q q3 q4
  match D,aq with
  |[x,y,z],_=>simp only[dr,ic,or_false]at O Q q3 q4;have:=N.2.1;have:=N.2.2.2.1;have:=N.2.2.2.2.2.2.2.2.2.2.1;omega
 have Py:∀d,d<2*I h->d/2∈[a,b,c]->∃l,h[cP (I h) d]?=some l/\l.aB:=λd hd he=>by
  obtain⟨l,br,R,Z,h3,h4⟩:=bC _ he;unfold cP;split
  .exact⟨br,Z,h4⟩
  exact⟨l,R,h3⟩
 have step:∀d,d∈w->d<2*I h->d/2∈[a,b,c]->bz h d=da\/bz h d=db\/bz h d=dc:=λd hd hl he=>by obtain⟨l,R,Z⟩:=Py d hl he;exact three _ (w8 (qS ok) hw hd) (MH g hl R Z).1
 have be:∃A B E,A<2*I h/\B<2*I h/\E<2*I h/\bz h A=B/\bz h B=E/\bz h E=A/\((A/2=a/\B/2=b/\E/2=c)\/(A/2=a/\B/2=c/\E/2=b)):=by
  have cp:da≠db:=λe=>N.2.1 (by rw[<-Cl,<-Cm,e]);have cs:da≠dc:=λe=>N.2.2.2.1 (by rw[<-Cl,<-Lw,e]);have cc:db≠dc:=λe=>N.2.2.2.2.2.2.2.2.2.2.1 (by rw[<-Cm,<-Lw,e]);rcases asy g hw zK AZ az cp cs cc (hN _ xE) (hN _ yA) (hN _ Lv) (step da zK xE (by rw[Cl];simp)) (step db AZ yA (by rw[Cm];simp)) (step dc az Lv (by rw[Lw];simp))with⟨R,Z,h3⟩|⟨R,Z,h3⟩
  .exact⟨da,db,dc,xE,yA,Lv,R,Z,h3,.inl ⟨Cl,Cm,Lw⟩⟩
  exact⟨da,dc,db,xE,Lv,yA,R,Z,h3,.inr ⟨Cl,Lw,Cm⟩⟩
 clear three step hE aq zK xE Cl AZ yA Cm az Lv Lw hw Mc;clear iU fi h6;obtain⟨A,B,E,l1,l2,l3,s1,s2,xQ,kL⟩:=be
 have bX:a∈[a,b,c]:=aP;have b7:b∈[a,b,c]:=aP;have ce:c∈[a,b,c]:=aP;have HJ:I (kJ h (aQ h) [a,b,c])=I h:=by rw[FQ,bk]
 have yR:∀i,(kJ h (aQ h) [a,b,c])[i]?=if i=aJ h c then(aQ h)[c]? else if i=c then(aQ h)[aJ h c]? else if i=aJ h b then(aQ h)[b]? else if i=b then(aQ h)[aJ h b]? else if i=aJ h a then(aQ h)[a]? else if i=a then(aQ h)[aJ h a]? else(aQ h)[i]? :=λi=>by
  show(jU h (jU h (jU h (aQ h) a) b) c)[i]?=_;have e1:I (jU h (aQ h) a)=I h:=by rw[Is,bk]
  have e2:I (jU h (jU h (aQ h) a) b)=I h:=by rw[Is,e1]
  simp only[Pg e2 hc,Pg e1 hb,Pg bk ha];obtain⟨x1,x2,x3,x4,x5,x6,x7,x8,x9,Fh,Fi,NI,NJ,NK,Rw⟩:=N;simp only[x2.symm,x3.symm,x4.symm,x5.symm,x6.symm,x7.symm,x8.symm,x9.symm,Fi.symm,NI.symm,NJ.symm,NK.symm,if_false]
 have uX:∀p:aR->Bool,(kJ h (aQ h) [a,b,c]).countP p=(aQ h).countP p:=λp=>by
  show(jU h (jU h (jU h (aQ h) a) b) c).countP p=_;have e1:I (jU h (aQ h) a)=I h:=by rw[Is,bk]
  have e2:I (jU h (jU h (aQ h) a) b)=I h:=by rw[Is,e1]
  rw[J9 e2 hc N.2.2.2.2.2.2.2.2.2.2.2.2.2.2,J9 e1 hb N.2.2.2.2.2.2.2.2.2.1,J9 bk ha N.1]
 generalize kJ h (aQ h) [a,b,c]=P at HJ yR uX;obtain⟨x1,x2,x3,x4,x5,x6,x7,x8,x9,Fh,Fi,NI,NJ,NK,Rw⟩:=N;have pa:P[a]?=(aQ h)[aJ h a]? /\P[aJ h a]?=(aQ h)[a]? :=by
  constructor
  .rw[yR];simp only[x1,x2,x3,x4,x5,if_false,if_true]
  rw[yR];simp only[x6,x7,x8,x9,if_false,if_true]
 have pb:P[b]?=(aQ h)[aJ h b]? /\P[aJ h b]?=(aQ h)[b]? :=by
  constructor
  .rw[yR];simp only[Fh,Fi,NI,if_false,if_true]
  rw[yR];simp only[NJ,NK,if_false,if_true]
 have pc:P[c]?=(aQ h)[aJ h c]? /\P[aJ h c]?=(aQ h)[c]? :=by
  constructor
  .rw[yR];simp only[Rw,if_false,if_true]
  rw[yR];simp only[if_true]
 have pn:∀i,i≠a->i≠aJ h a->i≠b->i≠aJ h b->i≠c->i≠aJ h c->P[i]?=(aQ h)[i]? :=λi R Z h3 h4 h5 h6=>by rw[yR];simp only[R,Z,h3,h4,h5,h6,if_false]
 clear yR
 have qX:∀d,d/2=a\/d/2=b\/d/2=c->P[cJ (I h) d]?=(aQ h)[cP (I h) d]? /\P[cP (I h) d]?=(aQ h)[cJ (I h) d]? :=λd hd=>by
  have:P[d/2]?=(aQ h)[aJ h (d/2)]? /\P[aJ h (d/2)]?=(aQ h)[d/2]? :=by rcases hd with e|e|e<;>rw[e]<;>assumption
  unfold cJ cP;rcases tD d with X|X
  .simp only[X,if_true];exact this
  simp only[X,Pc,if_false];exact this.symm
 have m1:A/2=a\/A/2=b\/A/2=c:=by
  rcases kL with⟨X,_,_⟩|⟨X,_,_⟩
  .exact .inl X
  exact .inl X
 have m2:B/2=a\/B/2=b\/B/2=c:=by
  rcases kL with⟨_,X,_⟩|⟨_,X,_⟩
  .exact .inr (.inl X)
  exact .inr (.inr X)
 have m3:E/2=a\/E/2=b\/E/2=c:=by
  rcases kL with⟨_,_,X⟩|⟨_,_,X⟩
  .exact .inr (.inr X)
  exact .inr (.inl X)
 have mm:∀d,d/2=a\/d/2=b\/d/2=c->d/2∈[a,b,c]:=λd X=>by simpa using X
 have GB:∀i,i≠cJ (I h) A->i≠cP (I h) A->i≠cJ (I h) B->i≠cP (I h) B->i≠cJ (I h) E->i≠cP (I h) E->P[i]?=(aQ h)[i]? /\ ∀d,d/2=a\/d/2=b\/d/2=c->i≠d/2/\i≠aJ h (d/2):=λi a1 a2 a3 a4 a5 a6=>by
  obtain⟨b1,b2⟩:=WS.1 ⟨a1,a2⟩;obtain⟨b3,b4⟩:=WS.1 ⟨a3,a4⟩;obtain⟨b5,b6⟩:=WS.1 ⟨a5,a6⟩;have cq:(i≠a/\i≠aJ h a)/\(i≠b/\i≠aJ h b)/\(i≠c/\i≠aJ h c):=by
   rcases kL with⟨R,Z,h3⟩|⟨R,Z,h3⟩
   .rw[R]at b1 b2;rw[Z]at b3 b4;rw[h3]at b5 b6;exact⟨⟨b1,b2⟩,⟨b3,b4⟩,b5,b6⟩
   rw[R]at b1 b2;rw[Z]at b3 b4;rw[h3]at b5 b6;exact⟨⟨b1,b2⟩,⟨b5,b6⟩,b3,b4⟩
  obtain⟨⟨c1,c2⟩,⟨c9,c4⟩,eT,fB⟩:=cq;refine⟨pn i c1 c2 c9 c4 eT fB,λd hd=>?_⟩;rcases hd with e|e|e<;>rw[e]
  .exact⟨c1,c2⟩
  .exact⟨c9,c4⟩
  exact⟨eT,fB⟩
 have t1:=PD g l1;have t2:=PD g l2;have t3:=PD g l3;have R:=Jv g l1;have Z:=Jv g l2;have h3:=Jv g l3
 have mg:(A/2≠B/2/\A/2≠aJ h (B/2)/\aJ h (A/2)≠B/2/\aJ h (A/2)≠aJ h (B/2))/\(A/2≠E/2/\A/2≠aJ h (E/2)/\aJ h (A/2)≠E/2/\aJ h (A/2)≠aJ h (E/2))/\(B/2≠E/2/\B/2≠aJ h (E/2)/\aJ h (B/2)≠E/2/\aJ h (B/2)≠aJ h (E/2))/\A/2≠aJ h (A/2)/\B/2≠aJ h (B/2)/\E/2≠aJ h (E/2):=by
  rcases kL with⟨R,Z,h3⟩|⟨R,Z,h3⟩<;>rw[R,Z,h3]
  .exact⟨⟨x2,x3,x6,x7⟩,⟨x4,x5,x8,x9⟩,⟨Fi,NI,NJ,NK⟩,x1,Fh,Rw⟩
  exact⟨⟨x4,x5,x8,x9⟩,⟨x2,x3,x6,x7⟩,⟨Fi.symm,NJ.symm,NI.symm,NK.symm⟩,x1,Rw,Fh⟩
 obtain⟨y1,y2,y3,y4,y5,y6⟩:=mg;have bi:=aaW y1;have bu:=aaW y2;have bw:=aaW y3;have g1:=abX y4;have g2:=abX y5;have g3:=abX y6
 obtain⟨u1,Da,Ls⟩:=Py A l1 (mm A m1);obtain⟨u2,Gq,Lt⟩:=Py B l2 (mm B m2);obtain⟨u3,JV,Lu⟩:=Py E l3 (mm E m3);obtain⟨_,o1,O,k1⟩:=MH g l1 Da Ls;obtain⟨_,o2,Q,k2⟩:=MH g l2 Gq Lt;obtain⟨_,o3,q3,k3⟩:=MH g l3 JV Lu;rw[s1]at o1 O k1;rw[s2]at o2 Q k2;rw[xQ]at o3 q3 k3;clear s1 s2 xQ kL pn pa pb pc x1 x2 x3 x4 x5 x6 x7 x8 x9 Fh Fi NI NJ NK Rw bC Py mm bX b7 ce;have bx:=LL (h:=h) l1;have bI:=LL (h:=h) l2;have bD:=LL (h:=h) l3;have nh:=Lf (h:=h) l1;have Mh:=Lf (h:=h) l2;have bL:=Lf (h:=h) l3;rw[nh,bI]at k1;rw[Mh,bD]at k2;rw[bL,bx]at k3;obtain⟨a1,b1,c1,e1⟩:=k1;obtain⟨a2,b2,c2,e2⟩:=k2;obtain⟨a3,b3,c9,e3⟩:=k3;simp only[if_true]at a1 b1 c1 e1 a2 b2 c2 e2 a3 b3 c9 e3
 let av:=(xh h A).l
 let K1:ff:=⟨(iQ (cZ E) (fc h (cJ (I h) E))).r,av,(iQ (cZ A) (fc h (cJ (I h) A))).b⟩
 let K2:ff:=⟨(iQ (cZ A) (fc h (cJ (I h) A))).r,av,(iQ (cZ B) (fc h (cJ (I h) B))).b⟩
 let K3:ff:=⟨(iQ (cZ B) (fc h (cJ (I h) B))).r,av,(iQ (cZ E) (fc h (cJ (I h) E))).b⟩
 let j:Nat->ff:=λac=>if ac=A/2 then oq (cZ A) K1 else if ac=B/2 then oq (cZ B) K2 else if ac=E/2 then oq (cZ E) K3 else nx h ac
 have cd:j (A/2)=oq (cZ A) K1:=aD rfl;have cf:j (B/2)=oq (cZ B) K2:=by show(if _ then _ else _)=_;rw[aC (Ne.symm y1.1),aD rfl]
 have bV:j (E/2)=oq (cZ E) K3:=by show(if _ then _ else _)=_;rw[aC (Ne.symm y2.1),aC (Ne.symm y3.1),aD rfl]
 have ak:∀ac,ac≠A/2->ac≠B/2->ac≠E/2->j ac=nx h ac:=λac R Z h3=>by show(if _ then _ else _)=_;rw[aC R,aC Z,aC h3]
 have ad:∀i,i<I h->i≠aJ h (A/2)->i≠aJ h (B/2)->i≠aJ h (E/2)->j ((i+I h-1)%I h)=nx h ((i+I h-1)%I h):=λi M n1 n2 n3=>ak _ (λX=>n1 (El M X)) (λX=>n2 (El M X)) (λX=>n3 (El M X))
 obtain⟨z1,z2,z3,z4⟩:=y1;obtain⟨z5,z6,z7,z8⟩:=y2;obtain⟨z9,Rx,NM,cx⟩:=y3;have G1:=Qe (P:=P) HJ l1 cd (ad _ J y4 z2 z6) (ak _ y4.symm z3 z7);have G2:=Qe (P:=P) HJ l2 cf (ad _ J z3.symm y5 Rx) (ak _ z2.symm y5.symm NM);have G3:=Qe (P:=P) HJ l3 bV (ad _ J z7.symm NM.symm y6) (ak _ z6.symm Rx.symm y6.symm);have p1:=qX A m1;have p2:=qX B m2;have p3:=qX E m3;have ba:=J1 (j:=j) R p1.1;have bn:=J1 (j:=j) t1 p1.2;have bp:=J1 (j:=j) Z p2.1;have bg:=J1 (j:=j) t2 p2.2;have bh:=J1 (j:=j) h3 p3.1
 have a7:=J1 (j:=j) t3 p3.2;have un:∀i,i<I h->i≠cJ (I h) A->i≠cP (I h) A->i≠cJ (I h) B->i≠cP (I h) B->i≠cJ (I h) E->i≠cP (I h) E->dm P j i=fc h i:=λi M n1 n2 n3 n4 n5 n6=>by obtain⟨O,Q⟩:=GB i n1 n2 n3 n4 n5 n6;exact al3 HJ M O (ad i M (Q A m1).2 (Q B m2).2 (Q E m3).2) (ak i (Q A m1).1 (Q B m2).1 (Q E m3).1)
 clear GB qX ad
 have iV:=qM ok.cr Da Ls;have gJ:=qM ok.cr Gq Lt;have bq:=qM ok.cr JV Lu;rw[<-o1]at iV;rw[<-o2]at gJ;rw[<-o3]at bq;obtain⟨r1,v2,s0,aw,bO,_,_⟩:=iV;obtain⟨r2,v3,Qh,aL,bZ,_,_⟩:=gJ;obtain⟨r3,v1,Bp,aG,ck,_,_⟩:=bq
 have ab:∀(x y:bl) (d m hh tt:Nat) (u v:aa),h[hh]?=some u->h[tt]?=some v->u.aB->v.aB->v.id=u.id->hh≠tt->x.p=(fc h hh).p->y.p=(fc h tt).p->gQ u=(cZ d==cZ m)->s6 true (iQ (cZ d) x) (kj (cZ d) x) (iQ (cZ m) y) (kj (cZ m) y)->y7 x y:=by intro x y d m hh tt u v ha hb ca cb ei aO hx hy hg h4;have bd:x.k=(fc h hh).k:=congrArg aR.l hx;have bs:y.k=(fc h tt).k:=congrArg aR.l hy;have bv:=O_ g (cn.1 ha).1 (cn.1 hb).1 aO (by rw[fT ha];exact ca) (by rw[fT hb];exact cb) (by rw[fT ha,fT hb];exact ei.symm);refine⟨by rw[bd,bs];exact bv.ov,by rw[bd,bs];exact bv.sg,?_⟩;rw[bd,fT ha,hg];exact aax.1 h4
 have C1:y7 (dm P j (cJ (I h) A)) (dm P j (cP (I h) B)):=by
  refine ab _ _ A B _ _ u1 v2 Da s0 Ls aw bO bi.2.2.1 ba bg O ?_;rw[G1.1,G1.2.1,G2.2.2.1,G2.2.2.2];constructor<;>simp only[if_true]
  .exact c9.trans e2
  .rfl
  .rfl
  exact b2
 have C2:y7 (dm P j (cJ (I h) B)) (dm P j (cP (I h) E)):=by
  refine ab _ _ B E _ _ u2 v3 Gq Qh Lt aL bZ bw.2.2.1 bp a7 Q ?_;rw[G2.1,G2.2.1,G3.2.2.1,G3.2.2.2];constructor<;>simp only[if_true]
  .exact c1.trans e3
  .rfl
  .rfl
  exact b3
 have C3:y7 (dm P j (cJ (I h) E)) (dm P j (cP (I h) A)):=by
  refine ab _ _ E A _ _ u3 v1 JV Bp Lu aG ck bu.2.1.symm bh bn q3 ?_;rw[G3.1,G3.2.1,G1.2.2.1,G1.2.2.2];constructor<;>simp only[if_true]
  .exact c2.trans e1
  .rfl
  .rfl
  exact b1
 have N:∀i,i<I h->(i=cJ (I h) A\/i=cP (I h) A\/i=cJ (I h) B\/i=cP (I h) B\/i=cJ (I h) E\/i=cP (I h) E)\/(dm P j i=fc h i/\i≠cJ (I h) A/\i≠cP (I h) A/\i≠cJ (I h) B/\i≠cP (I h) B/\i≠cJ (I h) E/\i≠cP (I h) E):=λi M=>by
  rcases Classical.em (i=cJ (I h) A\/i=cP (I h) A\/i=cJ (I h) B\/i=cP (I h) B\/i=cJ (I h) E\/i=cP (I h) E)with X|X
  .exact .inl X
  simp only[za]at X;exact .inr ⟨un i M X.1 X.2.1 X.2.2.1 X.2.2.2.1 X.2.2.2.2.1 X.2.2.2.2.2,X⟩
 have ap:∀i,i<I h->∃ac l,ac<I h/\h[ac]?=some l/\(dm P j i).k=l/\(dm P j i).p=(fc h ac).p:=λi M=>by
  have mk:∀ac l,h[ac]?=some l->(dm P j i).p=(fc h ac).p->∃ac l,ac<I h/\h[ac]?=some l/\(dm P j i).k=l/\(dm P j i).p=(fc h ac).p:=λac l hl hp=>⟨ac,l,(cn.1 hl).1,hl,(congrArg aR.l hp).trans (fT hl),hp⟩;rcases N i M with(rfl|rfl|rfl|rfl|rfl|rfl)|⟨e,_⟩
  .exact mk _ _ Da ba
  .exact mk _ _ Bp bn
  .exact mk _ _ Gq bp
  .exact mk _ _ s0 bg
  .exact mk _ _ JV bh
  .exact mk _ _ Qh a7
  obtain⟨l,hl⟩:=aT M;exact mk i l hl (by rw[e])
 have a9:(dm P j (cJ (I h) A)).k=u1:=(congrArg aR.l ba).trans (fT Da);have bf:(dm P j (cJ (I h) B)).k=u2:=(congrArg aR.l bp).trans (fT Gq);have bc:(dm P j (cJ (I h) E)).k=u3:=(congrArg aR.l bh).trans (fT JV);have bb:(dm P j (cP (I h) A)).k=v1:=(congrArg aR.l bn).trans (fT Bp);have bo:(dm P j (cP (I h) B)).k=v2:=(congrArg aR.l bg).trans (fT s0);have a8:(dm P j (cP (I h) E)).k=v3:=(congrArg aR.l a7).trans (fT Qh);have a0:∀(f:Bool) (x:bl),(iQ f x).b=(kj f x).b->x.i.b=x.o.b:=λf x X=>by
  rw[LI,Kn]at X;cases f
  .exact X.symm
  exact X
 have bE:∀(f:Bool) (x:bl),x.i.b=x.o.b->(iQ f x).b=(kj f x).b:=λf x X=>by
  rw[LI,Kn];cases f
  .exact X.symm
  exact X
 have aW:∀ac l,h[ac]?=some l->l.aB->(fc h ac).i.b=(fc h ac).o.b:=λac l hl hc=>(FE g (cn.1 hl).1).cb (by rw[fT hl];exact hc);have bT:∀d (bY:ff),iQ (cZ d) (dm P j (cJ (I h) d))=iQ (cZ d) (fc h (cJ (I h) d))->kj (cZ d) (dm P j (cJ (I h) d))=bY->bY.b=(iQ (cZ d) (fc h (cJ (I h) d))).b->(dm P j (cJ (I h) d)).i.b=(dm P j (cJ (I h) d)).o.b:=λd bY O Q q3=>a0 (cZ d) _ (by rw[O,Q,q3])
 have bH:∀d (bY:ff) (l br:aa),h[cJ (I h) d]?=some l->l.aB->h[cP (I h) d]?=some br->br.aB->kj (cZ d) (fc h (cJ (I h) d))=xh h d->iQ (cZ d) (fc h (cP (I h) d))=xh h d->iQ (cZ d) (dm P j (cP (I h) d))=bY->kj (cZ d) (dm P j (cP (I h) d))=kj (cZ d) (fc h (cP (I h) d))->bY.b=(iQ (cZ d) (fc h (cJ (I h) d))).b->(dm P j (cP (I h) d)).i.b=(dm P j (cP (I h) d)).o.b:=λd bY l br hl cl hm cm H n O Q q3=>by refine a0 (cZ d) _ ?_;rw[O,Q,q3,bE (cZ d) _ (aW _ _ hl cl),H,<-n];exact bE (cZ d) _ (aW _ _ hm cm)
 have bad:∀i,i<I h->ek F (dm P j i).k=false:=λi M=>by obtain⟨ac,l,hj,hl,hk,_⟩:=ap i M;rw[hk];exact g.bad l (bR hl)
 have oZ:∀i,i<I h->(dm P j i).k.aB->(dm P j i).i.b=(dm P j i).o.b->zc F (dm P j i):=λi M hc hb=>⟨bad i M,λ_=>hb,λhp=>by rw[oi hc]at hp;cases hp⟩;have T:∀i,i<I h->(dm P j i).k.aI->dm P j i=fc h i:=λi M hp=>by
  rcases N i M with(rfl|rfl|rfl|rfl|rfl|rfl)|⟨e,_⟩
  .rw[a9,oi Ls]at hp;cases hp
  .rw[bb,oi aG]at hp;cases hp
  .rw[bf,oi Lt]at hp;cases hp
  .rw[bo,oi aw]at hp;cases hp
  .rw[bc,oi Lu]at hp;cases hp
  .rw[a8,oi aL]at hp;cases hp
  exact e
 have cz:=g.cz;have am:∀p:aa->Bool,an p (P.map aR.l)=an p h:=λp=>by rw[<-ab2 (h:=h) p];show List.countP _ _=List.countP _ _;rw[Fz,Fz];exact uX _
 have ag:∀(f:Bool) i,i<I h->∀t,t=(iQ f (dm P j i)).l\/t=(iQ f (dm P j i)).r->∃j',j'<I h/\(t=(j j').l\/t=(j j').r):=λf i M t ht=>by
  cases f
  .refine⟨i,M,?_⟩;rcases ht with ht|ht
   .exact .inr ht
   exact .inl ht
  refine⟨(i+I P-1)%I P,?_,ht⟩;rw[HJ];exact fk _ hn
 refine ae2 g (T:=av) (j:=j) (A:=gL h) (B:=gq h) HJ (am _) (am _) (λk=>am _) (λi M=>?_) (λi ac M hj gI ci cj e=>?_) (λi ac M hj gI pi pj e1 e2=>?_) (λi M ci=>?_) (λi M pi=>?_) (λi M pi=>?_) (λk hk=>?_) ?_ (λac hj t ht=>?_)
 .rcases N i M with(rfl|rfl|rfl|rfl|rfl|rfl)|⟨e,_⟩
  .exact oZ _ M (by rw[a9];exact Ls) (bT A K1 G1.1 G1.2.1 rfl)
  .exact oZ _ M (by rw[bb];exact aG) (bH A K1 _ _ Bp aG Da Ls bx nh G1.2.2.1 G1.2.2.2 rfl)
  .exact oZ _ M (by rw[bf];exact Lt) (bT B K2 G2.1 G2.2.1 rfl)
  .exact oZ _ M (by rw[bo];exact aw) (bH B K2 _ _ s0 aw Gq Lt bI Mh G2.2.2.1 G2.2.2.2 rfl)
  .exact oZ _ M (by rw[bc];exact Lu) (bT E K3 G3.1 G3.2.1 rfl)
  .exact oZ _ M (by rw[a8];exact aL) (bH E K3 _ _ Qh aL JV Lu bD bL G3.2.2.1 G3.2.2.2 rfl)
  rw[e];exact FE g M
 ·
  have nn:∀i,i<I h->∃s,s<I h/\(∃l,h[s]?=some l/\(dm P j i).k=l)/\((i=cJ (I h) A/\s=cP (I h) A)\/(i=cP (I h) A/\s=cJ (I h) A)\/(i=cJ (I h) B/\s=cP (I h) B)\/(i=cP (I h) B/\s=cJ (I h) B)\/(i=cJ (I h) E/\s=cP (I h) E)\/(i=cP (I h) E/\s=cJ (I h) E)\/(dm P j i=fc h i/\s=i/\i≠cJ (I h) A/\i≠cP (I h) A/\i≠cJ (I h) B/\i≠cP (I h) B/\i≠cJ (I h) E/\i≠cP (I h) E)):=λi M=>by
   rcases N i M with(rfl|rfl|rfl|rfl|rfl|rfl)|⟨e,aO⟩
   .exact⟨_,R,⟨_,Da,a9⟩,.inl ⟨rfl,rfl⟩⟩
   .exact⟨_,t1,⟨_,Bp,bb⟩,.inr (.inl ⟨rfl,rfl⟩)⟩
   .exact⟨_,Z,⟨_,Gq,bf⟩,.inr (.inr (.inl ⟨rfl,rfl⟩))⟩
   .exact⟨_,t2,⟨_,s0,bo⟩,.inr (.inr (.inr (.inl ⟨rfl,rfl⟩)))⟩
   .exact⟨_,h3,⟨_,JV,bc⟩,.inr (.inr (.inr (.inr (.inl ⟨rfl,rfl⟩))))⟩
   .exact⟨_,t3,⟨_,Qh,a8⟩,.inr (.inr (.inr (.inr (.inr (.inl ⟨rfl,rfl⟩)))))⟩
   obtain⟨l,hl⟩:=aT M;exact⟨i,M,⟨l,hl,by rw[e];exact fT hl⟩,.inr (.inr (.inr (.inr (.inr (.inr ⟨e,rfl,aO⟩)))))⟩
  obtain⟨si,cv,⟨li,xN,b9⟩,bG⟩:=nn i M;obtain⟨sj,Ms,⟨lj,CT,bM⟩,Hp⟩:=nn ac hj;rw[b9]at ci e;rw[bM]at cj e;obtain⟨f1,f2,f3,f4⟩:=bi;obtain⟨f5,f6,f7,f8⟩:=bu;obtain⟨f9,cw,cy,bi⟩:=bw;have aO:si≠sj:=by
   clear e2 e3 e1 ag T oZ bad bH bT ap un N;rcases bG with⟨O,Q⟩|⟨O,Q⟩|⟨O,Q⟩|⟨O,Q⟩|⟨O,Q⟩|⟨O,Q⟩|⟨_,Q,n1,n2,n3,n4,n5,n6⟩<;>rcases Hp with⟨H,n⟩|⟨H,n⟩|⟨H,n⟩|⟨H,n⟩|⟨H,n⟩|⟨H,n⟩|⟨_,n,m1,m2,m3,m4,m5,m6⟩<;>rw[Q,n]<;>first
    |(rw[O,H]at gI;exact absurd rfl gI)
    |assumption
    |exact Ne.symm (by assumption)
    |exact gI
  have Y:=MJ g xN CT ci cj e aO;rcases bG with⟨O,Q⟩|⟨O,Q⟩|⟨O,Q⟩|⟨O,Q⟩|⟨O,Q⟩|⟨O,Q⟩|⟨eu,Q,n1,n2,n3,n4,n5,n6⟩
  .rw[Q,<-o1]at Y;rcases Hp with⟨H,n⟩|⟨H,n⟩|⟨H,n⟩|⟨H,n⟩|⟨H,n⟩|⟨H,n⟩|⟨_,n,m1,m2,m3,m4,m5,m6⟩<;>rw[n]at Y<;>first
    |(rw[O,H];exact C1)
    |exact absurd Y (by assumption)
    |exact absurd Y (Ne.symm (by assumption))
  .rw[Q,r3]at Y;rcases Hp with⟨H,n⟩|⟨H,n⟩|⟨H,n⟩|⟨H,n⟩|⟨H,n⟩|⟨H,n⟩|⟨_,n,m1,m2,m3,m4,m5,m6⟩<;>rw[n]at Y<;>first
    |(rw[O,H];exact C3.symm)
    |exact absurd Y (by assumption)
    |exact absurd Y (Ne.symm (by assumption))
  .rw[Q,<-o2]at Y;rcases Hp with⟨H,n⟩|⟨H,n⟩|⟨H,n⟩|⟨H,n⟩|⟨H,n⟩|⟨H,n⟩|⟨_,n,m1,m2,m3,m4,m5,m6⟩<;>rw[n]at Y<;>first
    |(rw[O,H];exact C2)
    |exact absurd Y (by assumption)
    |exact absurd Y (Ne.symm (by assumption))
  .rw[Q,r1]at Y;rcases Hp with⟨H,n⟩|⟨H,n⟩|⟨H,n⟩|⟨H,n⟩|⟨H,n⟩|⟨H,n⟩|⟨_,n,m1,m2,m3,m4,m5,m6⟩<;>rw[n]at Y<;>first
    |(rw[O,H];exact C1.symm)
    |exact absurd Y (by assumption)
    |exact absurd Y (Ne.symm (by assumption))
  .rw[Q,<-o3]at Y;rcases Hp with⟨H,n⟩|⟨H,n⟩|⟨H,n⟩|⟨H,n⟩|⟨H,n⟩|⟨H,n⟩|⟨_,n,m1,m2,m3,m4,m5,m6⟩<;>rw[n]at Y<;>first
    |(rw[O,H];exact C3)
    |exact absurd Y (by assumption)
    |exact absurd Y (Ne.symm (by assumption))
  .rw[Q,r2]at Y;rcases Hp with⟨H,n⟩|⟨H,n⟩|⟨H,n⟩|⟨H,n⟩|⟨H,n⟩|⟨H,n⟩|⟨_,n,m1,m2,m3,m4,m5,m6⟩<;>rw[n]at Y<;>first
    |(rw[O,H];exact C2.symm)
    |exact absurd Y (by assumption)
    |exact absurd Y (Ne.symm (by assumption))
  have hb:=(qM ok.cr xN ci).1;rw[Y,Q]at hb;rcases Hp with⟨H,n⟩|⟨H,n⟩|⟨H,n⟩|⟨H,n⟩|⟨H,n⟩|⟨H,n⟩|⟨co,n,_⟩
  .rw[n,<-o1]at hb;exact absurd hb.symm n3
  .rw[n,r3]at hb;exact absurd hb.symm n6
  .rw[n,<-o2]at hb;exact absurd hb.symm n5
  .rw[n,r1]at hb;exact absurd hb.symm n2
  .rw[n,<-o3]at hb;exact absurd hb.symm n1
  .rw[n,r2]at hb;exact absurd hb.symm n4
  rw[Q]at xN;rw[n]at CT;rw[eu,co];exact O_ g M hj gI (by rw[fT xN];exact ci) (by rw[fT CT];exact cj) (by rw[fT xN,fT CT];exact e)
 .have ee:=T i M pi;have cu:=T ac hj pj;rw[ee]at pi e1 e2;rw[cu]at pj e1 e2;exact(cz.Ko (BZ M) (BZ hj) gI).2 pi pj e1 e2
 .obtain⟨ac,l,hj,hl,hk,_⟩:=ap i M;rw[hk]at ci |-;exact g.ids.1 l (bR hl) ci
 .have ee:=T i M pi;rw[ee]at pi |-;have:=cz.rr _ (bR (BZ M)) pi;rwa[jK]at this
 .have ee:=T i M pi;rw[ee]at pi |-;exact cz.pl _ (bR (BZ M)) pi
 .have:=cz.gt k hk;rwa[jK]at this
 .have:=cz.gz;rwa[jK]at this
 have ar:∀d,ac=d/2->t=(xh h d).l\/t=(xh h d).r:=λd hd=>by
  rw[hd]at ht;unfold xh;split
  .exact ht
  exact ht.symm
 by_cases n1:ac=A/2
 .rcases ar A n1 with X|X
  .exact .inl X
  exact .inr (ag (cZ B) _ t2 t (.inl (by rw[G2.1,X];exact c1.symm)))
 by_cases n2:ac=B/2
 .rcases ar B n2 with X|X
  .exact .inl (X.trans a1.symm)
  exact .inr (ag (cZ E) _ t3 t (.inl (by rw[G3.1,X];exact c2.symm)))
 by_cases n3:ac=E/2
 .rcases ar E n3 with X|X
  .exact .inl (X.trans (a2.symm.trans a1.symm))
  exact .inr (ag (cZ A) _ t1 t (.inl (by rw[G1.1,X];exact c9.symm)))
 exact .inr ⟨ac,hj,by rw[ak ac n1 n2 n3];exact ht⟩
end
def CD(f:Bool)(x:bl):x.up=if f==x.p.d then iQ f x else jW (kj f x):=by unfold bl.up iQ kj;cases f<;>cases x.p.d<;>rfl
def Cs(f:Bool)(x:bl):x.lo=if f==x.p.d then kj f x else jW (iQ f x):=by unfold bl.lo iQ kj;cases f<;>cases x.p.d<;>rfl
section
variable {F:Nat} {h:ai}
def ahE:∀(w:aF) (f:dt),I f.places<=(w.foldl (dt.add F h) f).places.length/\ ∀x∈w,2*I h<=x->I (pI F h ((x-2*I h)/2))<=(w.foldl (dt.add F h) f).places.length:=by
 intro w
 induction w with
 |nil=>intro f;exact⟨c3 _,λx u=>nomatch u⟩
 |cons x w j=>
  intro f;rw[sh];obtain⟨g,m⟩:=j (dt.add F h f x);have n:I f.places<=(dt.add F h f x).places.length:=by
   unfold dt.add;split
   .exact c3 _
   simp only[gT];omega
  refine⟨ny n g,λy H hl=>?_⟩;rcases dr.1 H with rfl|H
  .refine ny ?_ g;unfold dt.add;rw[aC J];simp only[gT];split<;>(try rw[jl])<;>omega
  exact m y H hl
def ai9(ok:gh F h){k u:Nat}(L:k+1<I (aE h))(H:(aE h).getD k 0=u)(j:(aE h).getD (k+1) 0=v){l m:aa}(hl:h[u]?=some l)(f:h[v]?=some m)
  (pl:l.aI) (A:m.aI) (D:m.gate<=l.gate):l.gate=m.gate/\m.ay=l.ay+1:=by
 obtain⟨Z,y⟩:=aT (L:=aE h) (k:=k) J;obtain⟨O,n⟩:=aT L;rw[dC,y,kZ]at H;rw[dC,n,kZ]at j;subst H j;obtain⟨l',E,_,M⟩:=yz ok.ax y;obtain⟨X,g,_,x⟩:=yz ok.ax n;rw[hl]at E;cases E;rw[f]at g;cases g;have z:=ok.ax.fG l (bR hl) pl;have B:=ok.ax.fG m (bR f) A;obtain⟨l1,l2,l3,N⟩:=z;obtain⟨T,Q,R,m4⟩:=B;unfold fD at M x;rcases Int.lt_or_eq_of_le D with c|c
 .exfalso;have Y:=Bz (L:=h) (show m.gate.toNat+1<=l.gate.toNat by omega);have ae:=tX h m.gate.toNat;omega
 rw[c]at x;exact⟨c.symm,J⟩
def afb(g:cE F h){w:aF}(L:w∈fz (bz h) (bt h))(Q:(jg F h w).places.length=1){x:Nat}(T:x∈w){B:Bool}(O:x=jF (I h) v B){l:aa}(hl:h[v]?=some l)(pl:l.aI):
  ∃u m y,y∈w/\h[u]?=some m/\m.aI/\l.gate=m.gate/\((bN h v=B/\m.ay=l.ay+1/\y=eZ (I h) u (!bN h u))\/(bN h v=(!B)/\l.ay=m.ay+1/\y=eZ (I h) u (bN h u))):=by
 have ok:=g.ok;have mp:=qS ok;obtain⟨i1,i2⟩:=Fq ok hl pl;have n:=w8 mp L T;rw[O,GI hl pl]at n;by_cases D:(bN h v==B)
 .rw[aD D]at n;have f:I (pI F h ((aE h).idxOf v))<=1:=by
   rw[<-Q];unfold jg;have:=(ahE (F:=F) (h:=h) w (dt.new h (w.headD 0))).2 _ n J;rwa[show(2*I h+2*(aE h).idxOf v-2*I h)/2=(aE h).idxOf v by omega]at this
  have H:(aE h).idxOf v+1<I (aE h):=by
   unfold pI at f;simp only at f;split at f
   .assumption
   rw[gT,xB,xB]at f;omega
  obtain⟨m,j,z⟩:=yW H;have M:m.gate<=l.gate:=by unfold pI at f;simp only at f;rw[aD H,xB,i2,jh H,y_ hl,y_ j]at f;have:=(ok.ax.fG l (bR hl) pl).g0;have:=(ok.ax.fG m (bR j) z).g0;omega
  obtain⟨r1,R⟩:=ai9 ok H i2 rfl hl j pl z M;have A:=w8 mp L n;rw[EY,jh H]at A;exact⟨_,m,_,A,j,z,r1,.inl ⟨eq_of_beq D,R,rfl⟩⟩
 rw[aC D]at n;have N:=fk ((aE h).idxOf v+I (aE h)-1) (show 0<I (aE h) by omega);have E:=xU i1;generalize((aE h).idxOf v+I (aE h)-1)%I (aE h)=k at n N E;have f:I (pI F h k)<=1:=by rw[<-Q];unfold jg;have:=(ahE (F:=F) (h:=h) w (dt.new h (w.headD 0))).2 _ n J;rwa[show(2*I h+2*k+1-2*I h)/2=k by omega]at this
 have H:k+1<I (aE h):=by
  unfold pI at f;simp only at f;split at f
  .assumption
  rw[gT,xB,xB]at f;omega
 rw[jh H]at E;obtain⟨m,j,z⟩:=yW N;have M:l.gate<=m.gate:=by unfold pI at f;simp only at f;rw[aD H,xB,jh H,E,i2,y_ hl,y_ j]at f;have:=(ok.ax.fG l (bR hl) pl).g0;have:=(ok.ax.fG m (bR j) z).g0;omega
 obtain⟨r1,R⟩:=ai9 ok H rfl (by rw[E];exact i2) j hl z pl M;have A:=w8 mp L n;rw[D1]at A;refine⟨_,m,_,A,j,z,r1.symm,.inr ⟨?_,R,rfl⟩⟩;revert D;cases bN h v<;>cases B<;>simp
def abC{l:cX}{i:Nat}{r:Int}{p:aR}(h:l[i]?=some p)(j:Nat):(k9 l i r)[j]?=if j=i then some ⟨{p.l with ay:=r},p.d⟩else l[j]? :=by
 have hl:=(cn.1 h).1;unfold k9;rw[dC,h,kZ,mT];by_cases c:j=i
 .subst c;rw[aD rfl,aD hl,aD rfl]
 rw[aC (Ne.symm c),aC c]
def Z0{q:aR->Bool}{l:cX}{i:Nat}{r:Int}{p:aR}(h:l[i]?=some p)(H:∀p:aR,q ⟨{p.l with ay:=r},p.d⟩=q p):(k9 l i r).countP q=l.countP q:=by unfold k9;rw[dC,h,kZ];have:=Tw (p:=q) (y:=⟨{p.l with ay:=r},p.d⟩) h;rw[H]at this;show List.countP q (l.set i ⟨{p.l with ay:=r},p.d⟩)=_;omega
def axw(g:cE F h){a b:Nat}(ha:a<I h)(hb:b<I h)(fV:a≠b){n gE z pb:Nat}{la lb ma mb:aa}
  (ea:(z=a/\n=aJ h a)\/(z=aJ h a/\n=a)) (eb:(pb=b/\gE=aJ h b)\/(pb=aJ h b/\gE=b)) (Bk:h[n]?=some la) (Eu:h[gE]?=some lb) (CU:h[z]?=some ma) (yN:h[pb]?=some mb)
  (ca:la.aB) (cb:lb.aB) (qa:ma.aI) (qb:mb.aI) (A:la.id=lb.id) (hv:n≠gE) (Mc:r4 F h 1 [a,b] a):
  ∃w,w∈fz (bz h) (bt h)/\(jg F h w).places.length=1/\ ∃d,d∈w/\d<2*I h/\bz h d∈w/\bz h d<2*I h/\(∀y,y∈w->y<2*I h->y=d\/y=bz h d)/\
   ((d/2=a/\bz h d/2=b/\cJ (I h) d=z/\cP (I h) d=n/\cJ (I h) (bz h d)=gE/\cP (I h) (bz h d)=pb)\/(d/2=b/\bz h d/2=a/\cJ (I h) d=pb/\cP (I h) d=gE/\cJ (I h) (bz h d)=n/\cP (I h) (bz h d)=z)):=by
 have ok:=g.ok;obtain⟨w,hw,qC,R,hE⟩:=adH g ha Mc;obtain⟨B,zK,X,Cl⟩:=hE a aP;obtain⟨D,AZ,yA,Cm⟩:=hE b aP;have aO:B≠D:=J;have O:∀d,d∈w->d<2*I h->d∈w.filter λx=>decide (x<2*I h):=λd j H=>rY.2 ⟨j,by simpa using H⟩;have two:∀d,d∈w->d<2*I h->d=B\/d=D:=λd j H=>aji R (O B zK X) (O D AZ yA) aO (O d j H);have L:∀d e p v:Nat,d/2=e->((p=e/\v=aJ h e)\/(p=aJ h e/\v=e))->(cJ (I h) d=p/\cP (I h) d=v)\/(cJ (I h) d=v/\cP (I h) d=p):=λd e p v j H=>by
  unfold cJ cP;rw[j];show((if _ then e else aJ h e)=p/\(if _ then aJ h e else e)=v)\/((if _ then e else aJ h e)=v/\(if _ then aJ h e else e)=p);rcases H with⟨rfl,rfl⟩|⟨rfl,rfl⟩<;>split
  .exact .inl ⟨rfl,rfl⟩
  .exact .inr ⟨rfl,rfl⟩
  .exact .inr ⟨rfl,rfl⟩
  exact .inl ⟨rfl,rfl⟩
 have pc:∀ {x y:Nat}{l ab:aa},h[x]?=some l->h[y]?=some ab->l.aB->ab.aI->x≠y:=λj H h3 h4 e=>by subst e;rw[j]at H;have:=rz H;rw[this,pR h4]at h3;cases h3
 have go:∀(d m p v p' Q:Nat) (l ab l' m':aa),d∈w->d<2*I h->m<2*I h->cJ (I h) d=p->cP (I h) d=v->h[v]?=some l->h[p]?=some ab->h[Q]?=some l'->h[p']?=some m'->l.aB->ab.aI->l'.aB->m'.aI->l.id=l'.id->v≠Q->(∀y,y∈w->y<2*I h->y=d\/y=m)->((cJ (I h) m=p'/\cP (I h) m=Q)\/(cJ (I h) m=Q/\cP (I h) m=p'))->bz h d=m/\cJ (I h) m=Q/\cP (I h) m=p':=by
  intro d m p v p' Q l ab l' m' d1 d2 ag hT hH hl hm yM xO cl pm M ad A hv tw en;obtain⟨s1,s2,_⟩:=MH g d2 (by rw[hH];exact hl) cl;rw[hH,MJ g hl yM cl M A hv]at s2;rcases tw _ (w8 (qS ok) hw d1) s1 with e|e
  .exfalso;rw[e,hT]at s2;exact pc yM hm M pm s2.symm
  rw[e]at s2;rcases en with⟨E,_⟩|⟨E,T⟩
  .exact absurd (s2.symm.trans E) (pc yM xO M ad)
  exact⟨e,E,T⟩
 have na:=L B a z n Cl ea;have nb:=L D b pb gE Cm eb;rcases na with⟨Z,t2⟩|⟨Z,t2⟩
 .obtain⟨E,T,e3⟩:=go B D z n pb gE la ma lb mb zK X yA Z t2 Bk CU Eu yN ca qa cb qb A hv two nb;refine⟨w,hw,qC,B,zK,X,by rw[E];exact AZ,by rw[E];exact yA,by rw[E];exact two,.inl ⟨Cl,by rw[E];exact Cm,Z,t2,by rw[E];exact T,by rw[E];exact e3⟩⟩
 ·
  obtain⟨u,ab,y,y1,Y,y3,_,y4⟩:=afb g hw qC zK (v:=z) (B:=cZ B) (by rw[<-t2];exact acx X) CU qa;have hu:=(cn.1 Y).1;have yT:cJ (I h) y=u/\y<2*I h:=by
   have ac:∀f,cJ (I h) (eZ (I h) u f)=u/\eZ (I h) u f<2*I h:=λf=>⟨(Sf hu).1,by
    have:=Bj hu (!f);rw[<-u9]at this;have:=wT this;rwa[w_]at this⟩
   rcases y4 with⟨_,_,e⟩|⟨_,_,e⟩<;>rw[e]<;>exact ac _
  have yb:y=D:=by
   rcases two y y1 yT.2 with e|e
   .exfalso;rw[e,Z]at yT;rw[<-yT.1]at Y;rw[Bk]at Y;have:=rz Y;rw[<-this,oi ca]at y3;cases y3
   exact e
  have N:cJ (I h) D=pb/\cP (I h) D=gE:=by
   rcases nb with ak|⟨j,H⟩
   .exact ak
   exfalso;rw[yb,j]at yT;rw[<-yT.1,Eu]at Y;have:=rz Y;rw[<-this,oi cb]at y3;cases y3
  obtain⟨E,T,e3⟩:=go D B pb gE z n lb mb la ma AZ yA X N.1 N.2 Eu yN Bk CU cb qb ca qa A.symm hv.symm (λy j H=>(two y j H).symm) (.inr ⟨Z,t2⟩);refine⟨w,hw,qC,D,AZ,yA,by rw[E];exact zK,by rw[E];exact X,by rw[E];exactλy j H=>(two y j H).symm,.inr ⟨Cm,by rw[E];exact Cl,N.1,N.2,by rw[E];exact T,by rw[E];exact e3⟩⟩
end
section
variable {F:Nat} {h:ai}
def al7{e:Nat}(n:0<I h)(g:e<I h)(H:(fm h e).2.2):(((fm h e).1=e/\(fm h e).2.1=aJ h e)\/((fm h e).1=aJ h e/\(fm h e).2.1=e))/\(∃l,h[(fm h e).2.1]?=some l/\l.aB)/\ ∃m,h[(fm h e).1]?=some m/\m.aI:=by
 obtain⟨l,hl⟩:=aT g;obtain⟨m,f⟩:=aT (L:=h) (k:=aJ h e) (fk _ n);have E:aV h e=⟨l,km h e⟩:=mu (oJ hl);have j:aV h (aJ h e)=⟨m,km h (aJ h e)⟩:=mu (oJ f);unfold fm at H |-;rw[E,j]at H |-;by_cases c:(l.kind==2)
 .rw[aD c]at H |-;exact⟨.inr ⟨rfl,rfl⟩,⟨l,hl,c⟩,m,f,H⟩
 rw[aC c]at H |-;simp only[c6]at H;exact⟨.inl ⟨rfl,rfl⟩,⟨m,f,H.2⟩,l,hl,H.1⟩
def aki(h:(iQ f x).b=(iQ f y).b)(H:(kj f x).b=(kj f y).b):x.i.b=y.i.b/\x.o.b=y.o.b:=by
 rw[LI,LI]at h;rw[Kn,Kn]at H;cases f
 .exact⟨H,h⟩
 exact⟨h,H⟩
def ahm(h:(iQ f x).b=(kj f x).b):x.i.b=x.o.b:=by
 rw[LI,Kn]at h;cases f
 .exact h.symm
 exact h
def ahF(h:x.i.b=x.o.b):(iQ f x).b=(kj f x).b:=by
 rw[LI,Kn];cases f
 .exact h.symm
 exact h
def anF{l:aa}{r:Int}(hp:l.aI)(h:ek F l=false):ek F {l with ay:=r}=false:=by have j:({l with ay:=r}:aa).aI=true:=hp;rw[oX hp]at h;rw[oX j];exact h
def an2(g:cE F h){w:aF}(hw:w∈fz (bz h) (bt h))(qC:(jg F h w).places.length=1){d:Nat}(hd:d∈w)(uI:d<2*I h)(CH:m∈w)(Kj:m<2*I h)(Ez:bz h d=m)(two:∀y,y∈w->y<2*I h->y=d\/y=m)
  {L lv lw n:aa} (Z:h[cJ (I h) d]?=some L) (Y:h[cP (I h) d]?=some lv) (vY:h[cJ (I h) m]?=some lw) (zZ:h[cP (I h) m]?=some n) (pp:L.aI) (cv:lv.aB) (cw:lw.aB) (pq:n.aI)
  {P:cX} (F0:I P=I h) (uX:∀q:aa->Bool,(∀(l:aa) (r:Int),q {l with ay:=r}=q l)->an q (P.map aR.l)=an q h)
  (hP:cJ (I h) d≠cP (I h) m->P[cJ (I h) d]?=(aQ h)[cP (I h) d]? /\P[cP (I h) d]?=some ⟨{L with ay:=n.ay},km h (cJ (I h) d)⟩/\P[cJ (I h) m]?=some ⟨{n with ay:=L.ay},km h (cP (I h) m)⟩/\P[cP (I h) m]?=(aQ h)[cJ (I h) m]? /\
   ∀i,i≠cJ (I h) d->i≠cP (I h) d->i≠cJ (I h) m->i≠cP (I h) m->P[i]?=(aQ h)[i]?):lL F P:=by
 have ok:=g.ok;have cz:=g.cz;have hn:0<I h:=jH.2 g.ne;have t1:=PD g uI;have t2:=PD g Kj;have h1:=Jv g uI;have M:=Jv g Kj
 obtain⟨u,a8,y,y1,y2,y3,nW,y4⟩:=afb g hw qC CH (v:=cP (I h) m) (B:=cZ m) (acx Kj) zZ pq;have hu:=(cn.1 y2).1;have yT:∀f,cJ (I h) (eZ (I h) u f)=u/\cZ (eZ (I h) u f)=f/\eZ (I h) u f<2*I h:=λf=>⟨(Sf hu).1,(Sf hu).2,by
  have:=Bj hu (!f);rw[<-u9]at this;have:=wT this;rwa[w_]at this⟩
 have yd:y=d:=by
  have aw:cJ (I h) y=u/\y<2*I h:=by rcases y4 with⟨_,_,e⟩|⟨_,_,e⟩<;>rw[e]<;>exact⟨(yT _).1,(yT _).2.2⟩
  rcases two y y1 aw.2 with e|e
  .exact e
  exfalso;rw[e]at aw;rw[<-aw.1,vY]at y2;have:=rz y2;rw[<-this,oi cw]at y3;cases y3
 subst yd;have JU:cJ (I h) y=u:=by rcases y4 with⟨_,_,e⟩|⟨_,_,e⟩<;>rw[e]<;>exact(yT _).1
 subst JU;rw[Z]at y2;cases y2
 obtain⟨cR,hR⟩:∃cR:Bool,(cR/\bN h (cP (I h) m)=cZ m/\L.ay=n.ay+1/\cZ y= !bN h (cJ (I h) y))\/(cR=false/\bN h (cP (I h) m)=(!cZ m)/\n.ay=L.ay+1/\cZ y=bN h (cJ (I h) y)):=by
  rcases y4 with⟨e1,e2,e3⟩|⟨e1,e2,e3⟩
  .exact⟨true,.inl ⟨rfl,e1,e2,(congrArg cZ e3).trans (yT _).2.1⟩⟩
  exact⟨false,.inr ⟨rfl,e1,e2,(congrArg cZ e3).trans (yT _).2.1⟩⟩
 clear y4 yT y1 y3 hu;have jZ:L.ay≠n.ay:=by rcases hR with⟨_,_,E,_⟩|⟨_,_,E,_⟩<;>omega
 have R:cJ (I h) y≠cP (I h) m:=λe=>by rw[e,zZ]at Z;have:=rz Z;rw[this]at jZ;exact jZ rfl
 obtain⟨pT,pH,a7,bn,pU⟩:=hP R;clear hP;obtain⟨_,o1,q1,k1⟩:=MH g uI Y cv;rw[Ez]at o1 q1 k1;rw[Lf uI,LL Kj]at k1;obtain⟨xa,xb,xc,xd⟩:=k1;simp only[if_true]at xa xb xc xd;have pc:∀ {x y:Nat}{l a8:aa},h[x]?=some l->h[y]?=some a8->l.aB->a8.aI->x≠y:=λh1 M h3 h4 e=>by subst e;rw[h1]at M;have:=rz M;rw[this,pR h4]at h3;cases h3
 have ak:cP (I h) y≠cJ (I h) m:=by intro e;obtain⟨_,a8,hm,_,_,mo,_⟩:=qM ok.cr Y cv;rw[<-o1,<-e,Y]at hm;have:=rz hm;rw[<-this]at mo;revert mo;cases lv.over<;>simp
 have ag:=pc Y Z cv pp;have ap:=pc Y zZ cv pq;have ad:=pc vY Z cw pp;have am:=pc vY zZ cw pq
 have ee:∀d:Nat,(cJ (I h) d=d/2/\cP (I h) d=aJ h (d/2))\/(cJ (I h) d=aJ h (d/2)/\cP (I h) d=d/2):=λd=>by
  unfold cJ cP aJ;split
  .exact .inl ⟨rfl,rfl⟩
  exact .inr ⟨rfl,rfl⟩
 have mg:y/2≠m/2/\y/2≠aJ h (m/2)/\aJ h (y/2)≠m/2/\aJ h (y/2)≠aJ h (m/2)/\y/2≠aJ h (y/2)/\m/2≠aJ h (m/2):=by
  rcases ee y with⟨A,B⟩|⟨A,B⟩<;>rcases ee m with⟨b1,b2⟩|⟨b1,b2⟩
  .rw[<-B,<-A,<-b2,<-b1];exact⟨ad.symm,R,ak,ap,ag.symm,am⟩
  .rw[<-B,<-A,<-b1,<-b2];exact⟨R,ad.symm,ap,ak,ag.symm,am.symm⟩
  .rw[<-A,<-B,<-b2,<-b1];exact⟨ak,ap,ad.symm,R,ag,am⟩
  rw[<-A,<-B,<-b1,<-b2];exact⟨ap,ak,R,ad.symm,ag,am.symm⟩
 let T:=(xh h y).l
 let tI:=iQ (cZ y) (fc h (cJ (I h) y))
 let hO:=kj (cZ m) (fc h (cP (I h) m))
 let O:=(kj (cZ y) (fc h (cP (I h) y))).r
 let K1:ff:=⟨hO.r,T,tI.b⟩
 let K2:ff:=⟨tI.r,T,hO.b⟩
 let j:Nat->ff:=λz=>if z=y/2 then oq (cZ y) K1 else if z=m/2 then oq (cZ m) K2 else nx h z
 have bh:j (y/2)=oq (cZ y) K1:=aD rfl;have bb:j (m/2)=oq (cZ m) K2:=by show(if _ then _ else _)=_;rw[aC mg.1.symm,aD rfl]
 have ab:∀z,z≠y/2->z≠m/2->j z=nx h z:=λz h1 M=>by show(if _ then _ else _)=_;rw[aC h1,aC M]
 have ac:∀i,i<I h->i≠aJ h (y/2)->i≠aJ h (m/2)->j ((i+I h-1)%I h)=nx h ((i+I h-1)%I h):=λi H N n2=>ab _ (λE=>N (El H E)) (λE=>n2 (El H E))
 obtain⟨z1,z2,z3,z4,z5,z6⟩:=mg;have Q:=Qe (P:=P) F0 uI bh (ac _ J z5 z2) (ab _ z5.symm z3);have X:=Qe (P:=P) F0 Kj bb (ac _ J z3.symm z6) (ab _ z2.symm z6.symm);have un:∀i,i<I h->i≠cJ (I h) y->i≠cP (I h) y->i≠cJ (I h) m->i≠cP (I h) m->dm P j i=fc h i:=λi H N n2 n3 n4=>by
  have A:i≠y/2/\i≠aJ h (y/2):=by
   rcases ee y with⟨A,B⟩|⟨A,B⟩
   .rw[<-B,<-A];exact⟨N,n2⟩
   rw[<-A,<-B];exact⟨n2,N⟩
  have B:i≠m/2/\i≠aJ h (m/2):=by
   rcases ee m with⟨A,B⟩|⟨A,B⟩
   .rw[<-B,<-A];exact⟨n3,n4⟩
   rw[<-A,<-B];exact⟨n4,n3⟩
  exact al3 F0 H (pU i N n2 n3 n4) (ac i H A.2 B.2) (ab i A.1 B.1)
 have aG:∀i,i<I h->(i=cJ (I h) y\/i=cP (I h) y\/i=cJ (I h) m\/i=cP (I h) m)\/(dm P j i=fc h i/\i≠cJ (I h) y/\i≠cP (I h) y/\i≠cJ (I h) m/\i≠cP (I h) m):=λi H=>by
  rcases Classical.em (i=cJ (I h) y\/i=cP (I h) y\/i=cJ (I h) m\/i=cP (I h) m)with E|E
  .exact .inl E
  simp only[za]at E;exact .inr ⟨un i H E.1 E.2.1 E.2.2.1 E.2.2.2,E⟩
 have gp:∀ {i:Nat}{p:aR},P[i]?=some p->(dm P j i).p=p:=λ{i p} E=>by show P.getD i _=_;rw[dC,E];rfl
 have kT:(dm P j (cJ (I h) y)).k=lv:=congrArg aR.l (gp (pT.trans (oJ Y)));have kH:(dm P j (cP (I h) y)).k={L with ay:=n.ay}:=congrArg aR.l (gp pH);have Aj:(dm P j (cJ (I h) m)).k={n with ay:=L.ay}:=congrArg aR.l (gp a7);have Ir:(dm P j (cP (I h) m)).k=lw:=congrArg aR.l (gp (bn.trans (oJ vY)));have dH:(dm P j (cP (I h) y)).p.d=(fc h (cJ (I h) y)).p.d:=by rw[gp pH];rfl
 have FJ:(dm P j (cJ (I h) m)).p.d=(fc h (cP (I h) m)).p.d:=by rw[gp a7];rfl
 have bf:=(FE g h1).cb (by rw[fT Y];exact cv);have bk:=(FE g t2).cb (by rw[fT vY];exact cw);have bv:=ahF (f:=cZ y) bf;have bw:=ahF (f:=cZ m) bk;rw[Lf uI]at bv;rw[LL Kj]at bw;have bp:=LL (h:=h) uI;have bq:=Lf (h:=h) Kj;have a9:=ok.ax.fG L (bR Z) pp;have ba:=ok.ax.fG n (bR zZ) pq;have bg:=RX g Z pp;have bi:=RX g zZ pq;obtain⟨p1,p2,p3,p4⟩:=bg;obtain⟨p5,p6,p7,p8⟩:=bi;rw[fT Z]at p1 p2 p3 p4;rw[fT zZ]at p5 p6 p7 p8;have mL:=Tr g Z pp;have Ga:=Tr g zZ pq;rw[CD (cZ y)]at p1 p2;rw[Cs (cZ y)]at p3 p4;rw[CD (cZ m)]at p5 p6;rw[Cs (cZ m)]at p7 p8;rw[mL,bp]at p1 p2 p3 p4;rw[Ga,bq]at p5 p6 p7 p8;have bo:bU h n.gate.toNat=bU h L.gate.toNat:=by rw[nW]
 obtain⟨bG,bE,bC,br⟩:=a9;obtain⟨bu,bx,bs,be⟩:=ba;rw[bo]at be;rw[nW]at p5 p6 p7 p8;obtain⟨r,T',B',fE,xR,ir,hT,qf,pz,Ab⟩:∃(r:Nat) (T' B':Nat->Nat->Nat),1<=r/\r<bU h L.gate.toNat/\((L.ay=(r:Int)/\n.ay=(r:Int)+1)\/(n.ay=(r:Int)/\L.ay=(r:Int)+1))/\(∀k z,¬(k=L.gate.toNat/\z=r)->T' k z=gL h k z/\B' k z=gq h k z)/\
   CV T' B' (dm P j (cP (I h) y))/\CV T' B' (dm P j (cJ (I h) m))/\tI.l=hO.l:=by
  rcases hR with⟨_,eQ,bc,ez⟩|⟨_,eQ,bc,ez⟩
  .have f1:(cZ y==bN h (cJ (I h) y))=false:=by rw[ez];cases bN h (cJ (I h) y)<;>rfl
   have f2:(cZ m==bN h (cP (I h) m)):=by rw[eQ];cases cZ m<;>rfl
   rw[f1]at p1 p2 p3 p4;rw[f2]at p5 p6 p7 p8;simp only[eI,if_false,if_true]at p1 p2 p3 p4 p5 p6 p7 p8;have er:L.ay.toNat=n.ay.toNat+1:=J;rw[er]at p1 p2 p3 p4;rw[H4]at p1 p3;refine⟨n.ay.toNat,λk z=>if k=L.gate.toNat/\z=n.ay.toNat then O else gL h k z,λk z=>if k=L.gate.toNat/\z=n.ay.toNat then T else gq h k z,J,J,.inr ⟨J,J⟩,λk z E=>⟨aC E,aC E⟩,?_,?_,?_⟩
   .constructor
    .rw[kH,CD (cZ y),dH,mL,f1];show(jW (kj (cZ y) (dm P j (cP (I h) y)))).r=if L.gate.toNat=L.gate.toNat/\n.ay.toNat-1=n.ay.toNat then O else gL h L.gate.toNat (n.ay.toNat-1);rw[aC J,Q.2.2.2];exact xd.symm.trans p5
    .rw[kH,CD (cZ y),dH,mL,f1];show(jW (kj (cZ y) (dm P j (cP (I h) y)))).l=if L.gate.toNat=L.gate.toNat/\n.ay.toNat=n.ay.toNat then O else gL h L.gate.toNat n.ay.toNat;rw[aD ⟨rfl,rfl⟩,Q.2.2.2];rfl
    .rw[kH,Cs (cZ y),dH,mL,f1];show(jW (iQ (cZ y) (dm P j (cP (I h) y)))).r=if L.gate.toNat=L.gate.toNat/\n.ay.toNat-1=n.ay.toNat then T else gq h L.gate.toNat (n.ay.toNat-1);rw[aC J,Q.2.2.1];exact p7
    rw[kH,Cs (cZ y),dH,mL,f1];show(jW (iQ (cZ y) (dm P j (cP (I h) y)))).l=if L.gate.toNat=L.gate.toNat/\n.ay.toNat=n.ay.toNat then T else gq h L.gate.toNat n.ay.toNat;rw[aD ⟨rfl,rfl⟩,Q.2.2.1];rfl
   .constructor
    .rw[Aj,CD (cZ m),FJ,Ga,f2];show(iQ (cZ m) (dm P j (cJ (I h) m))).r=if n.gate.toNat=L.gate.toNat/\L.ay.toNat-1=n.ay.toNat then O else gL h n.gate.toNat (L.ay.toNat-1);rw[aD ⟨by rw[nW],J⟩,X.1];exact xb.symm
    .rw[Aj,CD (cZ m),FJ,Ga,f2];show(iQ (cZ m) (dm P j (cJ (I h) m))).l=if n.gate.toNat=L.gate.toNat/\L.ay.toNat=n.ay.toNat then O else gL h n.gate.toNat L.ay.toNat;rw[aC J,X.1,nW,er];exact xc.trans p2
    .rw[Aj,Cs (cZ m),FJ,Ga,f2];show(kj (cZ m) (dm P j (cJ (I h) m))).r=if n.gate.toNat=L.gate.toNat/\L.ay.toNat-1=n.ay.toNat then T else gq h n.gate.toNat (L.ay.toNat-1);rw[aD ⟨by rw[nW],J⟩,X.2.1]
    rw[Aj,Cs (cZ m),FJ,Ga,f2];show(kj (cZ m) (dm P j (cJ (I h) m))).l=if n.gate.toNat=L.gate.toNat/\L.ay.toNat=n.ay.toNat then T else gq h n.gate.toNat L.ay.toNat;rw[aC J,X.2.1,nW,er];exact p4
   exact p3.trans p8.symm
  have f1:(cZ y==bN h (cJ (I h) y)):=by rw[ez];cases bN h (cJ (I h) y)<;>rfl
  have f2:(cZ m==bN h (cP (I h) m))=false:=by rw[eQ];cases cZ m<;>rfl
  rw[f1]at p1 p2 p3 p4;rw[f2]at p5 p6 p7 p8;simp only[eI,if_false,if_true]at p1 p2 p3 p4 p5 p6 p7 p8;have er:n.ay.toNat=L.ay.toNat+1:=J;rw[er]at p5 p6 p7 p8;rw[H4]at p5 p7;refine⟨L.ay.toNat,λk z=>if k=L.gate.toNat/\z=L.ay.toNat then T else gL h k z,λk z=>if k=L.gate.toNat/\z=L.ay.toNat then O else gq h k z,J,J,.inl ⟨J,J⟩,λk z E=>⟨aC E,aC E⟩,?_,?_,?_⟩
  .constructor
   .rw[kH,CD (cZ y),dH,mL,f1];show(iQ (cZ y) (dm P j (cP (I h) y))).r=if L.gate.toNat=L.gate.toNat/\n.ay.toNat-1=L.ay.toNat then T else gL h L.gate.toNat (n.ay.toNat-1);rw[aD ⟨rfl,J⟩,Q.2.2.1]
   .rw[kH,CD (cZ y),dH,mL,f1];show(iQ (cZ y) (dm P j (cP (I h) y))).l=if L.gate.toNat=L.gate.toNat/\n.ay.toNat=L.ay.toNat then T else gL h L.gate.toNat n.ay.toNat;rw[aC J,Q.2.2.1,er];exact p6
   .rw[kH,Cs (cZ y),dH,mL,f1];show(kj (cZ y) (dm P j (cP (I h) y))).r=if L.gate.toNat=L.gate.toNat/\n.ay.toNat-1=L.ay.toNat then O else gq h L.gate.toNat (n.ay.toNat-1);rw[aD ⟨rfl,J⟩,Q.2.2.2]
   rw[kH,Cs (cZ y),dH,mL,f1];show(kj (cZ y) (dm P j (cP (I h) y))).l=if L.gate.toNat=L.gate.toNat/\n.ay.toNat=L.ay.toNat then O else gq h L.gate.toNat n.ay.toNat;rw[aC J,Q.2.2.2,er];exact xd.symm.trans p8
  .constructor
   .rw[Aj,CD (cZ m),FJ,Ga,f2];show(jW (kj (cZ m) (dm P j (cJ (I h) m)))).r=if n.gate.toNat=L.gate.toNat/\L.ay.toNat-1=L.ay.toNat then T else gL h n.gate.toNat (L.ay.toNat-1);rw[aC J,X.2.1,nW];exact p1
   .rw[Aj,CD (cZ m),FJ,Ga,f2];show(jW (kj (cZ m) (dm P j (cJ (I h) m)))).l=if n.gate.toNat=L.gate.toNat/\L.ay.toNat=L.ay.toNat then T else gL h n.gate.toNat L.ay.toNat;rw[aD ⟨by rw[nW],rfl⟩,X.2.1];rfl
   .rw[Aj,Cs (cZ m),FJ,Ga,f2];show(jW (iQ (cZ m) (dm P j (cJ (I h) m)))).r=if n.gate.toNat=L.gate.toNat/\L.ay.toNat-1=L.ay.toNat then O else gq h n.gate.toNat (L.ay.toNat-1);rw[aC J,X.1,nW];exact xc.trans p3
   rw[Aj,Cs (cZ m),FJ,Ga,f2];show(jW (iQ (cZ m) (dm P j (cJ (I h) m)))).l=if n.gate.toNat=L.gate.toNat/\L.ay.toNat=L.ay.toNat then O else gq h n.gate.toNat L.ay.toNat;rw[aD ⟨by rw[nW],rfl⟩,X.1];exact xb.symm
  exact p2.trans p5.symm
 clear p1 p2 p3 p4 p5 p6 p7 p8 hR;have aM:∀i,i<I h->(dm P j i).k.aI->(i=cP (I h) y\/i=cJ (I h) m)\/(dm P j i=fc h i/\i≠cJ (I h) y/\i≠cP (I h) y/\i≠cJ (I h) m/\i≠cP (I h) m):=λi H hp=>by
  rcases aG i H with(rfl|rfl|rfl|rfl)|E
  .rw[kT,oi cv]at hp;cases hp
  .exact .inl (.inl rfl)
  .exact .inl (.inr rfl)
  .rw[Ir,oi cw]at hp;cases hp
  exact .inr E
 have az:∀i,i<I h->(dm P j i).k.aB->(i=cJ (I h) y\/i=cP (I h) m)\/(dm P j i=fc h i/\i≠cJ (I h) y/\i≠cP (I h) y/\i≠cJ (I h) m/\i≠cP (I h) m):=λi H hc=>by
  have N:∀(l:aa) (r:Int),l.aI->({l with ay:=r}:aa).aB=false:=λl r E=>pR (l:={l with ay:=r}) E;rcases aG i H with(rfl|rfl|rfl|rfl)|E
  .exact .inl (.inl rfl)
  .rw[kH,N _ _ pp]at hc;cases hc
  .rw[Aj,N _ _ pq]at hc;cases hc
  .exact .inl (.inr rfl)
  exact .inr E
 have av:∀i,i<I h->(dm P j i).k.aI->∃z l,h[z]?=some l/\l.aI/\(dm P j i).k.gate=l.gate/\(dm P j i).k.ay=l.ay/\((i=cP (I h) y/\z=cP (I h) m)\/(i=cJ (I h) m/\z=cJ (I h) y)\/(i=z/\i≠cJ (I h) y/\i≠cP (I h) m)):=λi H hp=>by
  rcases aM i H hp with(rfl|rfl)|⟨e,N,n2,n3,n4⟩
  .exact⟨_,n,zZ,pq,by rw[kH];exact nW.symm,by rw[kH],.inl ⟨rfl,rfl⟩⟩
  .exact⟨_,L,Z,pp,by rw[Aj];exact nW,by rw[Aj],.inr (.inl ⟨rfl,rfl⟩)⟩
  obtain⟨l,hl⟩:=aT H;rw[e]at hp;rw[fT hl]at hp;exact⟨i,l,hl,hp,by rw[e,fT hl],by rw[e,fT hl],.inr (.inr ⟨rfl,N,n4⟩)⟩
 have C1:y7 (dm P j (cJ (I h) y)) (dm P j (cP (I h) m)):=by
  obtain⟨b1,a8,hm,mc,mi,mo,ms⟩:=qM ok.cr Y cv;rw[<-o1,vY]at hm;have em:=rz hm;subst em;refine⟨by rw[kT,Ir,mo];simp,by rw[kT,Ir,ms],?_⟩;rw[kT,q1,<-aax,Q.1,Q.2.1,X.2.2.1,X.2.2.2];constructor<;>simp only[if_true]
  .exact Ab
  .rfl
  .rfl
  rfl
 have bD:lv.id=lw.id:=by obtain⟨b1,a8,hm,mc,mi,mo,ms⟩:=qM ok.cr Y cv;rw[<-o1,vY]at hm;rw[rz hm,mi]
 have a5:i_ h (cJ (I h) m)=cP (I h) y:=by rw[o1];exact(qM ok.cr Y cv).1
 have a0:∀(f:Bool) i,i<I h->∀t,t=(iQ f (dm P j i)).l\/t=(iQ f (dm P j i)).r->∃j',j'<I h/\(t=(j j').l\/t=(j j').r):=λf i H t D=>by
  cases f
  .refine⟨i,H,?_⟩;rcases D with D|D
   .exact .inr D
   exact .inl D
  refine⟨(i+I P-1)%I P,?_,D⟩;rw[F0];exact fk _ hn
 have a6:∀(f:Bool) i,i<I h->∀t,t=(kj f (dm P j i)).l\/t=(kj f (dm P j i)).r->∃j',j'<I h/\(t=(j j').l\/t=(j j').r):=λf i H t D=>by
  cases f
  .refine⟨(i+I P-1)%I P,?_,?_⟩
   .rw[F0];exact fk _ hn
   rcases D with D|D
   .exact .inr D
   exact .inl D
  exact⟨i,H,D⟩
 have aO:=cz.gt;have ar:=cz.gz;rw[jK]at ar;refine ae2 g (T:=T) (j:=j) (A:=T') (B:=B') F0 (uX _ λ_ _=>rfl) (uX _ λ_ _=>rfl) (λk=>uX _ λ_ _=>rfl) (λi H=>?_) (λi z H hj gI ci cj e=>?_) (λi z H hj gI pi pj e1 e2=>?_) (λi H ci=>?_) (λi H pi=>?_) (λi H pi=>?_) (λk hk=>?_) ?_ (λz hj t D=>?_)
 .rcases aG i H with(rfl|rfl|rfl|rfl)|⟨e,_⟩
  .exact⟨by rw[kT];exact g.bad lv (bR Y),λ_=>ahm (f:=cZ y) (by rw[Q.1,Q.2.1]),λhp=>by rw[kT,oi cv]at hp;cases hp⟩
  .have fl:=aki (f:=cZ y) (x:=dm P j (cP (I h) y)) (y:=fc h (cJ (I h) y)) (by rw[Q.2.2.1]) (by rw[Q.2.2.2,bp];exact bv.symm);refine⟨by rw[kH];exact anF pp (g.bad L (bR Z)),λhc=>?_,λ_=>?_⟩
   .rw[kH]at hc;have:=pR (l:={L with ay:=n.ay}) pp;rw[this]at hc;cases hc
   rw[fl.1,fl.2,dH];exact(FE g t1).pb (by rw[fT Z];exact pp)
  .have fl:=aki (f:=cZ m) (x:=dm P j (cJ (I h) m)) (y:=fc h (cP (I h) m)) (by rw[X.1,bq];exact bw) (by rw[X.2.1]);refine⟨by rw[Aj];exact anF pq (g.bad n (bR zZ)),λhc=>?_,λ_=>?_⟩
   .rw[Aj]at hc;have:=pR (l:={n with ay:=L.ay}) pq;rw[this]at hc;cases hc
   rw[fl.1,fl.2,FJ];exact(FE g M).pb (by rw[fT zZ];exact pq)
  .exact⟨by rw[Ir];exact g.bad lw (bR vY),λ_=>ahm (f:=cZ m) (by rw[X.2.2.1,X.2.2.2]),λhp=>by rw[Ir,oi cw]at hp;cases hp⟩
  rw[e];exact FE g H
 .rcases az i H ci with(rfl|rfl)|⟨ei,N,n2,n3,n4⟩<;>rcases az z hj cj with(rfl|rfl)|⟨ej,m1,m2,m3,m4⟩
  .exact absurd rfl gI
  .exact C1
  .exfalso;obtain⟨l,hl⟩:=aT hj;rw[kT,ej,fT hl]at e;rw[ej,fT hl]at cj;have:=MJ g Y hl cv cj e m2.symm;rw[<-o1]at this;exact m3 this.symm
  .exact C1.symm
  .exact absurd rfl gI
  .exfalso;obtain⟨l,hl⟩:=aT hj;rw[Ir,ej,fT hl]at e;rw[ej,fT hl]at cj;have:=MJ g vY hl cw cj e m3.symm;rw[a5]at this;exact m2 this.symm
  .exfalso;obtain⟨l,hl⟩:=aT H;rw[kT,ei,fT hl]at e;rw[ei,fT hl]at ci;have:=MJ g Y hl cv ci e.symm n2.symm;rw[<-o1]at this;exact n3 this.symm
  .exfalso;obtain⟨l,hl⟩:=aT H;rw[Ir,ei,fT hl]at e;rw[ei,fT hl]at ci;have:=MJ g vY hl cw ci e.symm n3.symm;rw[a5]at this;exact n2 this.symm
  rw[ei]at ci e |-;rw[ej]at cj e |-;exact O_ g H hj gI ci cj e
 .obtain⟨a,l,hl,_,O0,uG,c1⟩:=av i H pi;obtain⟨b,a8,hm,_,bd,vt,c2⟩:=av z hj pj;rename_i M9 aW;have fV:a≠b:=by
   intro e;rcases c1 with⟨i1,j1⟩|⟨i1,j1⟩|⟨i1,i2,i3⟩<;>rcases c2 with⟨k1,k2⟩|⟨k1,k2⟩|⟨k1,k2,k3⟩
   .exact gI (i1.trans k1.symm)
   .exact R (by rw[<-k2,<-e,j1])
   .exact k3 (by rw[k1,<-e,j1])
   .exact R (by rw[<-j1,e,k2])
   .exact gI (i1.trans k1.symm)
   .exact k2 (by rw[k1,<-e,j1])
   .exact i3 (by rw[i1,e,k2])
   .exact i2 (by rw[i1,e,k2])
   exact gI (by rw[i1,k1,e])
  have gl:=ok.ax.fG l (bR hl) M9;have gm:=ok.ax.fG a8 (bR hm) aW;exact fV (ok.ax.inj a b l a8 hl hm M9 aW ((GO gl gm).2 ⟨by rw[<-O0,<-bd,e1],by rw[<-uG,<-vt,e2]⟩))
 .rcases az i H ci with(rfl|rfl)|⟨ei,_⟩
  .rw[kT];exact g.ids.1 lv (bR Y) cv
  .rw[Ir];exact g.ids.1 lw (bR vY) cw
  obtain⟨l,hl⟩:=aT H;rw[ei,fT hl]at ci |-;exact g.ids.1 l (bR hl) ci
 .obtain⟨a,l,hl,M9,O0,uG,_⟩:=av i H pi;rw[O0,uG];obtain⟨_,_,b1,b2⟩:=ok.ax.fG l (bR hl) M9;exact⟨b1,b2⟩
 .rcases aM i H pi with(rfl|rfl)|⟨ei,N,n2,n3,n4⟩
  .exact qf
  .exact pz
  obtain⟨l,hl⟩:=aT H;rw[ei]at pi |-;rw[fT hl]at pi;obtain⟨A,B,a3,a4⟩:=RX g hl pi;rw[fT hl]at A B a3 a4;obtain⟨b0,_,b1,b2⟩:=ok.ax.fG l (bR hl) pi;have aL:l.gate.toNat=L.gate.toNat->l.ay.toNat≠r/\l.ay.toNat-1≠r:=λlB=>by have gg:l.gate=L.gate:=J;have d1:l.ay≠L.ay:=λe=>N (ok.ax.inj i _ l L hl Z pi pp ((GO (ok.ax.fG l (bR hl) pi) (ok.ax.fG L (bR Z) pp)).2 ⟨gg,e⟩));have d2:l.ay≠n.ay:=λe=>n4 (ok.ax.inj i _ l n hl zZ pi pq ((GO (ok.ax.fG l (bR hl) pi) (ok.ax.fG n (bR zZ) pq)).2 ⟨by rw[gg,nW],e⟩));rcases ir with⟨s1,s2⟩|⟨s1,s2⟩<;>omega
  have v1:=hT l.gate.toNat (l.ay.toNat-1) (λ⟨h1,M⟩=>(aL h1).2 M);have v2:=hT l.gate.toNat l.ay.toNat (λ⟨h1,M⟩=>(aL h1).1 M);constructor
  .rw[fT hl,v1.1];exact A
  .rw[fT hl,v2.1];exact B
  .rw[fT hl,v1.2];exact a3
  rw[fT hl,v2.2];exact a4
 .have:=aO k hk;rw[jK]at this;have v1:=hT k (bU h k) (λ⟨h1,M⟩=>by rw[h1]at M;omega);have v2:=hT (k+1) 0 (λ⟨_,M⟩=>J);rw[v1.1,v1.2,v2.1,v2.2];exact this
 .have v1:=hT F (bU h F) (λ⟨h1,M⟩=>by rw[h1]at M;omega);have v2:=hT 0 0 (λ⟨_,M⟩=>J);rw[v1.1,v1.2,v2.1,v2.2];exact ar
 have aq:∀d,z=d/2->t=(xh h d).l\/t=(xh h d).r:=λd hd=>by
  rw[hd]at D;unfold xh;split
  .exact D
  exact D.symm
 by_cases N:z=y/2
 .rcases aq y N with E|E
  .exact .inl E
  exact .inr (a0 (cZ m) _ t2 t (.inl (by rw[X.1,E];exact xc.symm)))
 by_cases n2:z=m/2
 .rcases aq m n2 with E|E
  .exact .inl (E.trans xa.symm)
  exact .inr (a6 (cZ y) _ h1 t (.inl (by rw[Q.2.2.2,E];exact xd)))
 exact .inr ⟨z,hj,by rw[ab z N n2];exact D⟩
def aDA(g:cE F h){a b:Nat}(ha:a<I h)(hb:b<I h)(fV:a≠b)(av:DH F h a b=some L):lL F L:=by
 unfold DH at av;split at av
 case isFalse=>cases av
 rename_i hc;simp only[c6,jf,sK,dk]at hc;obtain⟨h1,h2,Z,h4,h5⟩:=hc;cases av;have hn:0<I h:=jH.2 g.ne;have bk:=cW h;obtain⟨ea,⟨la,Bk,ca⟩,H,T,qa⟩:=al7 hn ha h1;obtain⟨eb,⟨lb,Eu,cb⟩,M,Y,qb⟩:=al7 hn hb h2;generalize(fm h a).1=n at*;generalize(fm h a).2.1=va at*;generalize(fm h b).1=pb at*;generalize(fm h b).2.1=gE at*;have ak:aV h va=⟨la,km h va⟩:=mu (oJ Bk);have ap:aV h gE=⟨lb,km h gE⟩:=mu (oJ Eu);have ag:aV h n=⟨H,km h n⟩:=mu (oJ T);have ar:aV h pb=⟨M,km h pb⟩:=mu (oJ Y);rw[ak,ap]at h4;rw[ag,ar]
 obtain⟨w,hw,qC,d,d1,d2,d3,d4,two,cs⟩:=axw g ha hb fV ea eb Bk Eu T Y ca cb qa qb h4 Z h5;have pc:∀ {x y:Nat}{l m:aa},h[x]?=some l->h[y]?=some m->l.aB->m.aI->x≠y:=λh1 h2 Z h4 e=>by subst e;rw[h1]at h2;have:=rz h2;rw[this,pR h4]at Z;cases Z
 have D:va≠n:=pc Bk T ca qa;have E:gE≠pb:=pc Eu Y cb qb;have v:va≠pb:=pc Bk Y ca qb;have z:gE≠n:=pc Eu T cb qa
 let f:=k9 (k9 (aQ h) n M.ay) pb H.ay
 have R:=oJ T;have am:n≠pb->(k9 (aQ h) n M.ay)[pb]?=some ⟨M,km h pb⟩:=λA=>by rw[abC R,aC A.symm];exact oJ Y
 have aq:∃p,(k9 (aQ h) n M.ay)[pb]?=some p:=aT (by rw[E5,bk];exact(cn.1 Y).1);have TB:I f=I h:=by show(k9 (k9 _ _ _) _ _).length=_;rw[E5,E5,bk]
 have e1:I (jU h f a)=I h:=by rw[Is,TB]
 have F0:I (kJ h f [a,b])=I h:=by rw[FQ,TB]
 have uX:∀q:aa->Bool,(∀(l:aa) (r:Int),q {l with ay:=r}=q l)->an q ((kJ h f [a,b]).map aR.l)=an q h:=λq hq=>by rw[<-ab2 (h:=h) q];show List.countP _ _=List.countP _ _;rw[Fz,Fz];show(jU h (jU h f a) b).countP _=_;obtain⟨p,hp⟩:=aq;rw[J9 e1 hb (aai g hb),J9 TB ha (aai g ha),Z0 hp (λp=>hq _ _),Z0 R (λp=>hq _ _)]
 have ad:n≠pb->f[n]?=some ⟨{H with ay:=M.ay},km h n⟩/\f[pb]?=some ⟨{M with ay:=H.ay},km h pb⟩/\ ∀i,i≠n->i≠pb->f[i]?=(aQ h)[i]? :=λA=>by
  have k:∀j,f[j]?=if j=pb then some ⟨{M with ay:=H.ay},km h pb⟩else if j=n then some ⟨{H with ay:=M.ay},km h n⟩else(aQ h)[j]? :=λj=>by show(k9 (k9 _ _ _) _ _)[j]?=_;rw[abC (am A),abC R]
  refine⟨by rw[k,aC A,aD rfl],by rw[k,aD rfl],λi N B=>by rw[k,aC B,aC N]⟩
 have ac:n≠pb->(kJ h f [a,b])[n]?=f[va]? /\(kJ h f [a,b])[va]?=f[n]? /\(kJ h f [a,b])[pb]?=f[gE]? /\(kJ h f [a,b])[gE]?=f[pb]? /\ ∀i,i≠n->i≠va->i≠pb->i≠gE->(kJ h f [a,b])[i]?=f[i]? :=λA=>by
  have k:∀i,(kJ h f [a,b])[i]?=if i=aJ h b then(jU h f a)[b]? else if i=b then(jU h f a)[aJ h b]? else(jU h f a)[i]? :=λi=>Pg e1 hb i;have k2:∀i,(jU h f a)[i]?=if i=aJ h a then f[a]? else if i=a then f[aJ h a]? else f[i]? :=λi=>Pg TB ha i;have ka:∀i,i≠n->i≠va->(jU h f a)[i]?=f[i]? :=λi N B=>by
   rcases ea with⟨u,Q⟩|⟨u,Q⟩
   .rw[k2,aC (by rw[<-Q];exact B),aC (by rw[<-u];exact N)]
   rw[k2,aC (by rw[<-u];exact N),aC (by rw[<-Q];exact B)]
  have kb:∀i,i≠pb->i≠gE->(kJ h f [a,b])[i]?=(jU h f a)[i]? :=λi N B=>by
   rcases eb with⟨u,Q⟩|⟨u,Q⟩
   .rw[k,aC (by rw[<-Q];exact B),aC (by rw[<-u];exact N)]
   rw[k,aC (by rw[<-u];exact N),aC (by rw[<-Q];exact B)]
  have ab:(jU h f a)[n]?=f[va]? /\(jU h f a)[va]?=f[n]? :=by
   rcases ea with⟨u,Q⟩|⟨u,Q⟩
   .exact⟨by rw[k2,aC (by rw[<-Q];exact D.symm),aD u,<-Q],by rw[k2,aD Q,<-u]⟩
   exact⟨by rw[k2,aD u,<-Q],by rw[k2,aC (by rw[<-u];exact D),aD Q,<-u]⟩
  have Qr:(kJ h f [a,b])[pb]?=(jU h f a)[gE]? /\(kJ h f [a,b])[gE]?=(jU h f a)[pb]? :=by
   rcases eb with⟨u,Q⟩|⟨u,Q⟩
   .exact⟨by rw[k,aC (by rw[<-Q];exact E.symm),aD u,<-Q],by rw[k,aD Q,<-u]⟩
   exact⟨by rw[k,aD u,<-Q],by rw[k,aC (by rw[<-u];exact E),aD Q,<-u]⟩
  refine⟨by rw[kb _ A z.symm,ab.1],by rw[kb _ v Z,ab.2],by rw[Qr.1,ka _ z (Ne.symm Z)],by rw[Qr.2,ka _ A.symm v.symm],λi N B n3 O=>by rw[kb i n3 O,ka i N B]⟩
 rcases cs with⟨c1,c2,c9,c4,eT,fB⟩|⟨c1,c2,c9,c4,eT,fB⟩
 .refine an2 g hw qC d1 d2 d3 d4 rfl two (L:=H) (lv:=la) (lw:=lb) (n:=M) (by rw[c9];exact T) (by rw[c4];exact Bk) (by rw[eT];exact Eu) (by rw[fB];exact Y) qa ca cb qb F0 uX λA=>?_;rw[c9,c4,eT,fB]at*;obtain⟨g1,g2,X⟩:=ad A;obtain⟨s1,s2,xQ,xW,QA⟩:=ac A;exact⟨by rw[s1,X _ D v],by rw[s2,g1],by rw[xW,g2],by rw[xQ,X _ z E],λi N B n3 O=>by rw[QA i N B O n3,X i N O]⟩
 refine an2 g hw qC d1 d2 d3 d4 rfl two (L:=M) (lv:=lb) (lw:=la) (n:=H) (by rw[c9];exact Y) (by rw[c4];exact Eu) (by rw[eT];exact Bk) (by rw[fB];exact T) qb cb ca qa F0 uX λA=>?_;rw[c9,c4,eT,fB]at*;obtain⟨g1,g2,X⟩:=ad A.symm;obtain⟨s1,s2,xQ,xW,QA⟩:=ac A.symm;exact⟨by rw[xQ,X _ z E],by rw[xW,g2],by rw[s2,g1],by rw[s1,X _ D v],λi N B n3 O=>by rw[QA i O n3 N B,X i O N]⟩
end
end Go.Abs
