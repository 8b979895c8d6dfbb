/- A part. -/
import Derived.Test.YtenindeoffokoaaGreatDoorWm
set_option linter.all false
open List renaming length->I
set_option maxRecDepth 100000
set_option maxHeartbeats 16000000
namespace Go.Abs
variable{n x F j:Nat}{f:Nat->Nat->Nat}{u:aG}{Q L:aW}{h:af}{m:fM}
section
variable{v:Nat}
structure cK (F:Nat) (L M:af) (r:Bool) (s t:Nat->Nat):Prop where
 g:bj F L
 g':bj F M
 len:I M=I L
 lt:∀v,v<I L->s v<I L
 BT:∀v,v<I L->t v<I L
 st:∀v,v<I L->s (t v)=v
 ts:∀v,v<I L->t (s v)=v
 step:∀v,v<I L->if r=true then nx L (s (nx L v))=s v else s (nx L v)=nx L (s v)
 at_:∀v l,L[v]?=some l->∃m,M[s v]?=some m/\m.kind=l.kind/\m.gate=l.gate/\m.au=l.au/\m.sign=l.sign/\m.over=l.over
 ids:∀u v l m l' m',L[u]?=some l->L[v]?=some m->M[s u]?=some l'->M[s v]?=some m'->l.ak->m.ak->(l'.id=m'.id↔l.id=m.id)
 dwn:∀v l,L[v]?=some l->l.ay->dn M (s v)=(dn L v !=r)
 cn:∀p:U->Bool,(∀l m:U,m.kind=l.kind->m.gate=l.gate->p m=p l)->aq p M=aq p L
def VO{a b:Nat}(f:a<n)(H:b<n)(h:(a+1)%n=(b+1)%n):a=b:=by rw[<-w8 f,<-w8 H,h]
section
variable {F:Nat} {L M:af} {r:Bool} {s t:Nat->Nat}
def cK.symm(i:cK F L M r s t):cK F M L r t s where
 g:=i.g'
 g':=i.g
 len:=i.len.symm
 lt v H:=by rw[i.len]at H |-;exact i.BT v H
 BT v H:=by rw[i.len]at H |-;exact i.lt v H
 st v H:=i.ts v (by rw[<-i.len];exact H)
 ts v H:=i.st v (by rw[<-i.len];exact H)
 step v H:=by
  rw[i.len]at H;have R:(v+1)%I L<I L:=cT _ J;have e:∀u,nx M u=nx L u:=λu=>by show(u+1)%I M=(u+1)%I L;rw[i.len]
  rw[e];cases r with
  |true=>rw[aD rfl,e];have f:=i.BT _ R;have h:=i.step (t (nx L v)) f;rw[aD rfl,i.st _ R]at h;have N:nx L (t (nx L v))<I L:=cT _ J;have A:=VO (i.lt _ N) H h;rw[<-A,i.ts _ N,A]
  |false=>rw[aC aa,e];have h:=i.step (t v) (i.BT v H);rw[aC aa,i.st v H]at h;have N:nx L (t v)<I L:=cT _ J;have D:=i.ts _ N;rw[h]at D;exact D.trans (e _).symm
 at_ v m h:=by have H:=(bt.1 h).1;rw[i.len]at H;obtain⟨l,hl⟩:=aP (i.BT v H);obtain⟨Q,j,n,A,D,X,Y⟩:=i.at_ _ _ hl;rw[i.st v H,h]at j;cases j;exact⟨l,hl,n.symm,A.symm,D.symm,X.symm,Y.symm⟩
 ids u v l m z Q hl j B O E T:=by
  have f:=(bt.1 hl).1;have H:=(bt.1 j).1;rw[i.len]at f H;have k:∀(u:Nat) (l z:U),u<I L->M[u]?=some l->L[t u]?=some z->l.ak->z.ak:=λu l z f hl B E=>by obtain⟨x,y,n,_⟩:=i.at_ _ _ B;rw[i.st u f,hl]at y;cases y;unfold U.ak at E |-;rw[<-n];exact E
  have:=i.ids _ _ _ _ l m B O (by rw[i.st u f];exact hl) (by rw[i.st v H];exact j) (k u l z f hl B E) (k v m Q H j O T);exact this.symm
 dwn v m h hp:=by
  have H:=(bt.1 h).1;rw[i.len]at H;obtain⟨l,hl⟩:=aP (i.BT v H);obtain⟨x,y,n,_⟩:=i.at_ _ _ hl;rw[i.st v H,h]at y;cases y;have Z:l.ay:=by unfold U.ay at hp |-;rw[<-n];exact hp
  have:=i.dwn _ _ hl Z;rw[i.st v H]at this;rw[this];cases dn L (t v)<;>cases r<;>rfl
 cn p hp:=(i.cn p hp).symm
def cK.ay(i:cK F L M r s t){l m:U}(hl:L[v]?=some l)(h:M[s v]?=some m):m.ay=l.ay/\m.ak=l.ak/\cM m=cM l/\m.gate=l.gate/\m.au=l.au/\m.kind=l.kind/\m.over=l.over/\m.sign=l.sign:=by
 obtain _:=i.at_ v l hl
 grind [U.ay,U.ak,cM]
def cK.pl(i:cK F L M r s t){l m:U}(hl:L[v]?=some l)(f:M[s v]?=some m):dQ M m=dQ L l:=by
 obtain⟨_,_,_,H,n,_⟩:=i.ay hl f;have h:∀g,dr M g=dr L g:=λg=>by unfold dr;congr 1;refine lq λq _=>i.cn _ λl m j H=>?_;unfold jq U.ay;rw[j,H]
 unfold dQ;rw[h,H,n]
def cK.axl(i:cK F L M r s t):I (aA M)=I (aA L):=by rw[Ba,Ba];exact i.cn _ λl m h _=>by unfold U.ay;rw[h]
def cK.idx(i:cK F L M r s t){l:U}(hl:L[v]?=some l)(hp:l.ay):(aA M).idxOf (s v)=(aA L).idxOf v:=by obtain⟨m,h,_⟩:=i.at_ v l hl;rw[Gn i.g.ok.ax hl hp,Gn i.g'.ok.ax h ((i.ay hl h).1.trans hp),i.pl hl h]
def cK.ax(i:cK F L M r s t){k:Nat}(H:k<I (aA L)):(aA M).getD k 0=s ((aA L).getD k 0):=by
 obtain⟨v,f⟩:=aP H;obtain⟨l,hl,hp,A⟩:=v7 i.g.ok.ax f;obtain⟨m,h,_⟩:=i.at_ v l hl;have:=IK i.g'.ok.ax h ((i.ay hl h).1.trans hp);rw[i.pl hl h,A]at this
 grind
def cK.nDe(i:cK F L M r s t):aT M=aT L:=by show 2*I M+2*I (aA M)=_;rw[i.len,i.axl]
def cK.other(i:cK F L M r s t){l:U}(hl:L[v]?=some l)(H:l.ak):iI M (s v)=s (iI L v):=by
 have n:=LD i.g.ok hl H;obtain⟨m,h⟩:=aP n;obtain⟨z,u,em⟩:=xD i.g.ok hl H h rfl;obtain⟨y,j,_⟩:=i.at_ v l hl;obtain⟨x,f,_⟩:=i.at_ _ m h;refine uL i.g' j f ((i.ay hl j).2.1.trans H) ((i.ay h f).2.1.trans u) ((i.ids _ _ _ _ _ _ hl h j f H u).2 em.symm) λe=>?_;have:=(i.ts v ((bt.1 hl).1)).symm.trans ((congrArg t e).trans (i.ts _ n))
 grind
def lK(n:Nat)(r:Bool)(s:Nat->Nat)(d:Nat):Nat:=if d<2*n then g_ n (s (bU n d)) (cD d !=r)else d
theorem apG{f:Bool}(h:v<n):bU n (g_ n v f)=v/\cD (g_ n v f)=f:=by grind [bU,cD,g_,wx]
def GX{f:Bool}(h:v<n):lK n r s (g_ n v f)=g_ n (s v) (f !=r):=by grind [apG,lK,wJ]
def cK.along(i:cK F L M r s t)(H:v<I L)(f:Bool):lK (I L) r s (dS (I L) v f)=dS (I L) (s v) (f !=r):=by
 have hf:(v+1)%I L<I L:=cT _ J;have j:∀(v:Nat),v<I L->g_ (I L) v false=dS (I L) ((v+1)%I L) false:=λv H=>by grind [g_,dS,w8]
 have m:∀(v:Nat),v<I L->g_ (I L) ((v+1)%I L) true=dS (I L) v true:=λv H=>by unfold g_ dS;simp only[if_true];rw[w8 H]
 cases f with
 |true=>
  rw[<-m v H,GX hf];have h:=i.step v H;cases r with
  |false=>rw[h];exact m _ (i.lt v H)
  |true=>rw[aD rfl]at h;rw[<-h];exact j _ (i.lt _ hf)
 |false=>
  obtain⟨u,hu,rfl⟩:∃u,u<I L/\v=(u+1)%I L:=⟨(v+I L-1)%I L,cT _ J,(wx H).symm⟩;rw[<-j u hu,GX hu];have h:=i.step u hu;cases r with
  |false=>rw[aC aa]at h;rw[h];exact j _ (i.lt u hu)
  |true=>rw[aD rfl]at h;rw[<-h];exact m _ (i.lt _ H)
def cK.Tj(i:cK F L M r s t){d:Nat}(h:d<2*I L):lK (I L) r s d<2*I L:=by rw[Dg h,GX (yH i.g h)];exact wJ (i.lt _ (yH i.g h)) _
theorem EW{d:Nat}(h:2*n<=d):lK n r s d=d:=aC J
def cK.XQ(i:cK F L M r s t){d:Nat}(H:d<aT L):lK (I L) r s d<aT L:=by
 by_cases h:d<2*I L
 .have:=i.Tj h
  grind
 rw[EW J];exact H
def cK.Hb(i:cK F L M r s t)(d:Nat):lK (I L) r t (lK (I L) r s d)=d:=by
 by_cases h:d<2*I L
 .have H:=yH i.g h
  conv=>lhs;rw[Dg h]
  rw[GX H,GX (i.lt _ H),i.ts _ H]
  conv=>rhs;rw[Dg h]
  simp_all
 rw[EW (s:=s) J,EW J]
def cK.next(i:cK F L M r s t){d:Nat}(n:d<aT L):aU M (lK (I L) r s d)=lK (I L) r s (aU L d):=by
 have n:d<2*I L+2*I (aA L):=n;by_cases h:d<2*I L
 .have y:=yH i.g h;obtain⟨l,hl⟩:=aP y;obtain⟨m,j,_⟩:=i.at_ _ _ hl;obtain⟨k1,k2,k3,_⟩:=i.ay hl j;have e:=Dg h;generalize bU (I L) d=v at*;generalize cD d=f at*;subst e;rw[GX y]
  conv=>lhs;rw[<-i.len]
  rcases zB (i.g.bad l (a7 hl))with hp|H
  .rw[Cn hl hp,Cn j (k1.trans hp),i.dwn _ _ hl hp,i.idx hl hp,i.axl,i.len]
   grind [dn,EW]
  rw[w9 hl H,w9 j (k2.trans H),i.other hl H,i.len,i.along (LD i.g.ok hl H)];have E:(m.over==(m.sign==1))=(l.over==(l.sign==1)):=k3;rw[E];congr 1;cases f<;>cases r<;>cases(l.over==(l.sign==1))<;>rfl
 rw[EW J];rcases qL (d-2*I L)with z|z
 .obtain⟨k,hk,rfl⟩:∃k,k<I (aA L)/\d=2*I L+2*k:=⟨(d-2*I L)/2,J,J⟩;have x:(k+1)%I (aA L)<I (aA L):=cT _ J;rw[AN]
  conv=>lhs;rw[<-i.len,AN,i.axl,i.len,i.ax x]
  obtain⟨u,l,_,D,hl,hp,_⟩:=Jr i.g.ok x;rw[D,i.along (bt.1 hl).1,i.dwn _ _ hl hp];congr 1;cases dn L u<;>cases r<;>rfl
 obtain⟨k,hk,rfl⟩:∃k,k<I (aA L)/\d=2*I L+2*k+1:=⟨(d-2*I L)/2,J,J⟩;rw[A_]
 conv=>lhs;rw[<-i.len,A_,i.len,i.ax hk]
 obtain⟨u,l,_,D,hl,hp,_⟩:=Jr i.g.ok hk;rw[D,i.along (bt.1 hl).1,i.dwn _ _ hl hp]
end
section
variable {F:Nat} {L M:af} {r:Bool} {s t:Nat->Nat}
def Nt(g:bj F L){w:aG}(h:w∈gW (aU L) (aT L)):w.Nodup/\(∀y∈w,y<aT L)/\ ∃d,d∈w:=by
 obtain⟨⟨d,t,H,_⟩,_,f⟩:=adb _ _ _ w h
 grind [Bd]
def RS(h:x<aT L):∃w,w∈gW (aU L) (aT L)/\x∈w:=by grind [DS,Bd]
def asN{w u:aG}(h:w∈gW (aU L) (aT L))(n:u∈gW (aU L) (aT L))(m:x∈w)(f:x∈u):w=u:=by
 obtain⟨i,v⟩:=fK h;obtain⟨j,H⟩:=fK n;have:=XB (Bd _ _).1 v H m f
 grind
def alY(g:bj F L){w:aG}(H:w∈gW (aU L) (aT L))(m:x<aT L):aU L x∈w↔x∈w:=by refine⟨λh=>?_,λh=>uY (mE g.ok) H h⟩;obtain⟨u,f,j⟩:=RS m;have:=asN H f h (uY (mE g.ok) f j);rw[this];exact j
def cK.walk(i:cK F L M r s t){w:aG}(m:w∈gW (aU L) (aT L)):∃f,f∈gW (aU M) (aT M)/\(w.map (lK (I L) r s)).Perm f:=by
 obtain⟨O,N,d,n⟩:=Nt i.g m;have u:=i.nDe;obtain⟨f,j,B⟩:=RS (by rw[u];exact i.XQ (N d n));obtain⟨Y,T,_⟩:=Nt i.g' j;refine⟨f,j,(Lu ?_ Y).2 λz=>?_⟩
 .exact List.Pairwise.map _ (λx y h e=>h (by rw[<-i.Hb x,<-i.Hb y,e])) O
 rw[ch];constructor
 .rintro ⟨y,E,rfl⟩
  exact(Lf i.g m (Q:=λy=>lK (I L) r s y∈f) (λx H=>by rw[<-i.next H];exact alY i.g' j (by rw[u];exact i.XQ H)) n E).1 B
 intro R;have v:=i.symm.Hb z;rw[i.len]at v;refine⟨lK (I L) r t z,?_,v⟩;have:=(Lf i.g' j (Q:=λz=>lK (I L) r t z∈w) (λx H=>by have A:=i.symm.next H;rw[i.len]at A;rw[<-A];have D:=i.symm.XQ H;rw[i.len,u]at D;exact alY i.g m D) B R).1 (by rw[i.Hb];exact n)
 exact this
def ua(F:Nat)(L:af)(x:Nat):Nat:=if x<2*I L then 0 else(mL F L ((x-2*I L)/2)).length
def Z8(F:Nat)(L:af)(w:aG):(kY F L w).places.length=(w.map (ua F L)).sum:=by
 have h:∀(w:aG) (f:dL),(w.foldl (dL.add F L) f).places.length=I f.places+(w.map (ua F L)).sum:=by
  intro w
  induction w with
  |nil=>intro f;rfl
  |cons x w j=>
   intro f
   grind [dL.add,ua]
 have:=h w (dL.new L (w.headD 0));exact this.trans (jN _)
def cK.piece(i:cK F L M r s t){k:Nat}(x:k<I (aA L)):mL F M k=mL F L k:=by
 have f:∀j,j<I (aA L)->se M ((aA M).getD j 0)=se L ((aA L).getD j 0)/\GJ M ((aA M).getD j 0)=GJ L ((aA L).getD j 0):=λj H=>by obtain⟨u,l,_,D,hl,hp,_⟩:=Jr i.g.ok H;obtain⟨m,h,_⟩:=i.at_ u l hl;obtain⟨_,_,_,v,n,_⟩:=i.ay hl h;rw[i.ax H,D,vU hl,vU h,JS hl,JS h,v,n];exact⟨rfl,rfl⟩
 unfold mL;simp[i.axl]
 grind [cT]
def cK.aeG(i:cK F L M r s t):lK (I L) r s x<2*I L↔x<2*I L:=by
 refine⟨λh=>?_,λh=>i.Tj h⟩
 grind [EW]
def cK.wt(i:cK F L M r s t)(H:x<aT L):ua F M (lK (I L) r s x)=ua F L x:=by
 unfold ua;rw[i.len];by_cases h:x<2*I L
 .rw[aD h,aD (i.Tj h)]
 rw[EW J,aC h,aC h,i.piece (by have:x<2*I L+2*I (aA L):=H;omega)]
def dw(n:Nat)(r:Bool)(s:Nat->Nat)(e:Nat):Nat:=lK n r s (2*e)/2
def cK.Hd(i:cK F L M r s t){e:Nat}(j:e<I L):(lK (I L) r s (2*e)=2*dw (I L) r s e/\lK (I L) r s (2*e+1)=2*dw (I L) r s e+1)\/(lK (I L) r s (2*e)=2*dw (I L) r s e+1/\lK (I L) r s (2*e+1)=2*dw (I L) r s e):=by
 have n:2*e=dS (I L) e true:=rfl;have E:2*e+1=g_ (I L) e false:=rfl;have h:=i.along j true;have H:=GX (r:=r) (s:=s) (f:=false) j;rw[<-n]at h;rw[<-E]at H;unfold dw;have m:lK (I L) r s (2*e+1)=rv (lK (I L) r s (2*e)):=by rw[h,H,uZ];cases r<;>rfl
 rw[m];unfold rv;split<;>omega
def cK.Bq(i:cK F L M r s t){e:Nat}(h:e<I L):dw (I L) r s e<I L:=by have:=i.Tj (d:=2*e) J;unfold dw;omega
def cK.L6(i:cK F L M r s t){e:Nat}(H:e<I L):dw (I L) r t (dw (I L) r s e)=e:=by
 have m:=i.Hb (2*e);have j:=i.Hb (2*e+1);have f:∀x,lK (I L) r t (2*dw (I L) r s e)=x->dw (I L) r t (dw (I L) r s e)=x/2:=λx h=>by grind [dw]
 rcases i.Hd H with _|⟨k1,k2⟩
 .grind
 grind
def cK.only(i:cK F L M r s t){pl:Nat}(X:∀e∈u,e<I L)(h:sh F L pl u):sh F M pl (u.map (dw (I L) r s)):=by
 unfold sh at h |-;rw[zr]at h |-;obtain⟨f,hf,h⟩:=h;obtain⟨w,H,rfl⟩:=ch.1 hf;obtain⟨j,E,hp⟩:=i.walk H;obtain⟨_,N,_⟩:=Nt i.g H;refine⟨kY F M j,ch.2 ⟨j,E,rfl⟩,?_⟩;unfold ET at h |-;simp only[cP,c8,j4]at h |-;obtain⟨A,m,D⟩:=h;rw[zM]at A |-;rw[Z8]at m |-;rw[cg];have R:∀x,x∈w↔lK (I L) r s x∈j:=λx=>by
  rw[<-hp.mem_iff,ch];refine⟨λh=>⟨x,h,rfl⟩,?_⟩;rintro⟨y,B,e⟩
  rw[<-i.Hb x,<-e,i.Hb];exact B
 refine⟨?_,?_,λZ T=>?_⟩
 .rw[<-A,<- (hp.filter _).length_eq,Ui,cg];congr 1;refine List.filter_congr λx _=>?_;rw[Function.comp_apply,i.len];exact decide_eq_decide.2 i.aeG
 .rw[<-m,<- (hp.map _).sum_nat,h_];congr 1;exact lq λx O=>i.wt (N x O)
 obtain⟨e,v,rfl⟩:=ch.1 T;have n:=D e v;have dR:=X e v;rw[zM]at n;have q:∀d,d<2*I L->(d∈w.filter (λx=>decide (x<2*I L))↔lK (I L) r s d∈j.filter (λx=>decide (x<2*I M))):=λd Y=>by rw[r4,r4,iJ,iJ,i.len,i.aeG,R]
 have Q:=q (2*e) J;have z:=q (2*e+1) J;rcases i.Hd dR with⟨k1,k2⟩|⟨k1,k2⟩
 .rw[k1]at Q;rw[k2]at z;rwa[decide_eq_decide.2 Q,decide_eq_decide.2 z]at n
 grind
theorem No{pl:Nat}{E j:aG}(h:E.Perm j):sh F L pl E=sh F L pl j:=by
 unfold sh;congr 1;funext f;unfold ET;rw[h.length_eq]
 grind
def cK.XE(i:cK F L M r s t){pl:Nat}{E:Nat}(H:∀e∈u,e<I L)(m:u[0]?=some E)(h:oF F L pl u E){f:aG}{O:Nat}(hp:(u.map (dw (I L) r s)).Perm f)(j:f[0]?=some O):oF F M pl f O:=by obtain⟨e,dR,rfl⟩:=ch.1 (hp.mem_iff.2 (a7 j));rw[Fu m (H _ (a7 m))]at h;rw[Fu j (by rw[i.len];exact i.Bq (H e dR)),<-No hp];exact i.only H h
end
def uf{a:Nat}(h:a<2*n):a%n=if a<n then a else a-n:=by
 split
 .rename_i H;exact eJ H
 rename_i H;rw[Nj J,eJ J]
def Gf{l:af}{i k:Nat}(H:i<I l)(h:k<I l):(eC l i)[k]?=l[(i+k)%I l]? :=Sh H h
def avy(q:U->Bool)(l:af)(i k:Nat)(j:i<=I l)(f:k<=I l):aq q ((eC l i).take k)+aq q (l.take i)=if i+k<=I l then aq q (l.take (i+k))else aq q l+aq q (l.take (i+k-I l)):=by
 have H:I (l.drop i)=I l-i:=rG;unfold eC;split
 .rename_i h;rw[Mc J,QW,<-B2,<-QY]
 rename_i h;rw[Ii,f_ J,H,B2,Dn,yO J,show k-(I l-i)=i+k-I l by omega];have:aq q l=aq q (l.take i)+aq q (l.drop i):=by rw[<-B2,jS]
 omega
def afT{l:af}{i:Nat}(m:aq U.ay l%2=0)(hp:qJ l i)(x:i<I l)(u:v<I l):dn (eC l i) ((v+I l-i)%I l)=dn l v:=by
 have h:=avy U.ay l i ((v+I l-i)%I l) J (Nat.le_of_lt (cT _ J));have hp:aq U.ay (l.take i)%2=0:=hp;have H:=uf (n:=I l) (a:=v+I l-i) J;have f:aq U.ay ((eC l i).take ((v+I l-i)%I l))%2=aq U.ay (l.take v)%2:=by
  rw[H]at h |-;by_cases R:v<i
  .rw[aD J]at h |-;by_cases j:v=0
   .subst j;rw[aD J,show i+(0+I l-i)=I l by omega,jZ]at h;have E:aq U.ay (l.take 0)=0:=rfl;rw[E];omega
   rw[aC J,show i+(v+I l-i)-I l=v by omega]at h;omega
  rw[aC J]at h |-;rw[aD J,show i+(v+I l-i-I l)=v by omega]at h;omega
 unfold dn;rw[f]
def aac{l:af}{x:U}(H:aq U.ay l%2=0)(h:l[v]?=some x)(hp:x.ay):dn l.reverse (I l-1-v)= !dn l v:=by
 have j:aq U.ay (l.reverse.take (I l-1-v))=aq U.ay (l.drop (v+1)):=by grind [Tg]
 have f:aq U.ay l=aq U.ay (l.take (v+1))+aq U.ay (l.drop (v+1)):=by rw[<-B2,jS]
 have m:=sG h hp;unfold dn
 grind
def akw{f:Int->Int}(l:af)(v:Nat):dn (l.map (dd f)) v=dn l v:=by unfold dn;rw[<-sC,RC]
def aly{f:Int->Int}{p:U->Bool}(hp:∀l m:U,m.kind=l.kind->m.gate=l.gate->p m=p l)(l:af):aq p (l.map (dd f))=aq p l:=by show List.countP _ _=List.countP _ _;rw[qg];refine A5 λx _=>?_;rw[Function.comp_apply,hp x (dd f x) (abw f x) (by unfold dd;split<;>rfl)]
def J3(f:Int->Int)(x:U):(dd f x).kind=x.kind/\(dd f x).gate=x.gate/\(dd f x).au=x.au/\(dd f x).sign=x.sign/\(dd f x).over=x.over/\(x.ak->(dd f x).id=f x.id):=by grind [dd,U.ak]
section
variable {F:Nat} {L:af}
def bj.iso(g:bj F L){y:af}(h:yQ L y):∃r s t,cK F L y r s t:=by
 have hy:=g.form h;have Y:0<I L:=gy.2 g.ne;have R:I y=I L->bj F y:=λe=>by obtain⟨G,e1,g'⟩:=Ci hy (by intro h;rw[h]at e;simp at e;omega);have:F=G:=J;subst this;exact g'
 have O:∀(f:Int->Int) (X:af),inj f X->(∀x∈L,x∈X)->∀(u v:Nat) (l m B M:U),L[u]?=some l->L[v]?=some m->B=dd f l->M=dd f m->l.ak->m.ak->(B.id=M.id↔l.id=m.id):=by
  intro f X hf hX u v l m B M hl z e1 e2 A n;rw[e1,e2,(J3 f l).2.2.2.2.2 A,(J3 f m).2.2.2.2.2 n];have kl:l.kind=2:=by unfold U.ak at A;exact c8.1 A
  have km:m.kind=2:=by unfold U.ak at n;exact c8.1 n
  exact⟨hf l (hX l (a7 hl)) m (hX m (a7 z)) kl km,λh=>by rw[h]⟩
 rcases h with h|h
 .obtain⟨i,T,⟨_,hp⟩,rfl⟩:=h;obtain⟨f,hf,e⟩:=abo (eC L i);rw[e]at R |-;have H:I ((eC L i).map (dd f))=I L:=by rw[cg,rC]
  have ae:∀v,v<I L->(v+I L-i)%I L<I L:=λv _=>cT _ Y;have get:∀v l,L[v]?=some l->((eC L i).map (dd f))[(v+I L-i)%I L]?=some (dd f l):=λv l hl=>by
   have j:=(bt.1 hl).1;rw[fz,Gf T (ae v j)];have:(i+(v+I L-i)%I L)%I L=v:=by rw[Dj,show i+(v+I L-i)=v+I L by omega,lg,eJ j]
   rw[this,hl];rfl
  refine⟨false,λv=>(v+I L-i)%I L,λv=>(v+i)%I L,g,R H,H,ae,λv _=>cT _ Y,λv j=>?_,λv j=>?_,λv j=>?_,λv l hl=>?_,λu v l m B M hl z N E A n=>?_,λv l hl aX=>?_,λp hp=>?_⟩
  .show((v+i)%I L+I L-i)%I L=v;rw[uf (a:=v+i) J];split<;>(rw[uf J];split<;>omega)
  .show((v+I L-i)%I L+i)%I L=v;rw[tU,show v+I L-i+i=v+I L by omega,lg,eJ j]
  .rw[aC aa];show((v+1)%I L+I L-i)%I L=((v+I L-i)%I L+1)%I L;rw[tU,uf (a:=v+1) J];split
   .congr 1;omega
   rw[show v+I L-i+1=(v+1-I L+I L-i)+I L by omega,lg]
  .obtain⟨D,Z,h3,h4,h5,_⟩:=J3 f l;exact⟨_,get v l hl,D,Z,h3,h4,h5⟩
  .rw[get u l hl]at N;rw[get v m z]at E;exact O f _ hf (λx hx=>Be.2 hx) u v l m B M hl z (by cases N;rfl) (by cases E;rfl) A n
  .have j:=(bt.1 hl).1;rw[akw,afT g.even hp T j];cases dn L v<;>rfl
  rw[aly hp,LK]
 obtain⟨i,T,⟨_,hp⟩,rfl⟩:=h;obtain⟨f,hf,e⟩:=abo (eC L.reverse i);rw[e]at R |-;have Q:I L.reverse=I L:=nr;rw[Q]at T;have H:I ((eC L.reverse i).map (dd f))=I L:=by rw[cg,rC,Q]
 have ae:∀v,v<I L->(I L-1-v+I L-i)%I L<I L:=λv _=>cT _ Y;have get:∀v l,L[v]?=some l->((eC L.reverse i).map (dd f))[(I L-1-v+I L-i)%I L]?=some (dd f l):=λv l hl=>by
  have j:=(bt.1 hl).1;rw[fz,Gf J (by rw[Q];exact ae v j),Q];have:(i+(I L-1-v+I L-i)%I L)%I L=I L-1-v:=by rw[Dj,show i+(I L-1-v+I L-i)=I L-1-v+I L by omega,lg,eJ J]
  rw[this,EE J,show I L-1-(I L-1-v)=v by omega,hl];rfl
 refine⟨true,λv=>(I L-1-v+I L-i)%I L,λv=>I L-1-(v+i)%I L,g,R H,H,ae,λv _=>J,λv j=>?_,λv j=>?_,λv j=>?_,λv l hl=>?_,λu v l m B M hl z N E A n=>?_,λv l hl aX=>?_,λp hp=>?_⟩
 .show(I L-1-(I L-1-(v+i)%I L)+I L-i)%I L=v;have:=cT (v+i) Y;rw[show I L-1-(I L-1-(v+i)%I L)=(v+i)%I L by omega,uf (a:=v+i) J];split<;>(rw[uf J];split<;>omega)
 .show (I L)-1-((I L-1-v+I L-i)%I L+i)%I L=v;rw[tU,show I L-1-v+I L-i+i=I L-1-v+I L by omega,lg,eJ J];omega
 .rw[aD rfl];show((I L-1-(v+1)%I L+I L-i)%I L+1)%I L=(I L-1-v+I L-i)%I L;rw[tU,uf (a:=v+1) J];split
  .congr 1;omega
  rw[show I L-1-(v+1-I L)+I L-i+1=(I L-1-v+I L-i)+I L by omega,lg]
 .obtain⟨D,Z,h3,h4,h5,_⟩:=J3 f l;exact⟨_,get v l hl,D,Z,h3,h4,h5⟩
 .rw[get u l hl]at N;rw[get v m z]at E;exact O f _ hf (λx hx=>Be.2 (zJ.2 hx)) u v l m B M hl z (by cases N;rfl) (by cases E;rfl) A n
 .have j:=(bt.1 hl).1;have D:=afT (l:=L.reverse) (v:=I L-1-v) (by rw[yL];exact g.even) hp J J;rw[Q]at D;rw[akw,D,aac g.even hl aX];cases dn L v<;>rfl
 rw[aly hp,LK,yL]
end
theorem Je{α:Type}{l:List α}{f k:Nat}(hf:f<I l)(h:k<I l):(l.drop f++l.take f)[k]?=l[(f+k)%I l]? :=Sh hf h
def Hn{P:aW}(c:gO F P):∃f,f<I P/\(∀k,k<I P->(aY P)[k]?=(P[(f+k)%I P]?).map aN.l)/\I (aY P)=I P/\(∃p,P[f]?=some p/\p.l.ay/\p.d)/\ ∀k p,k<I P->P[(f+k)%I P]?=some p->p.l.ay->p.d=dn (aY P) k:=by
 obtain⟨i,hi⟩:∃i,ue P=some i:=by
  cases h:ue P with
  |some i=>exact⟨i,rfl⟩
  |none=>exfalso;obtain⟨z,T,B,S,e,cz⟩:=c;subst e;obtain⟨x,m,hp,N⟩:=cz.down;obtain⟨j,L⟩:=fK m;have:=B6.1 h j (by simpa using((bt.1 L).1));rw[H4 (by rw[fz,L];rfl)]at this;unfold Bi at this;have Y:(x.p.l.kind==1):=hp;simp[Y,N]at this
 have n:=AW hi;have u:=gA.1 (CU hi);obtain⟨p,y⟩:=aP u;rw[H4 y]at n;unfold Bi at n;rw[cP]at n;have M:=n.1;have E:aY P=(P.drop i++P.take i).map aN.l:=by grind [aY,Rg]
 have wY:I (P.drop i++P.take i)=I P:=by simp;omega
 have R:gO F (P.drop i++P.take i):=gO.mJ (by rw[jS];exact c);obtain⟨z,T,B,S,e,cz⟩:=R;obtain⟨s,hp⟩:=cz.path;have X:aK z=aY P:=by rw[E,<-e,h_];rfl
 have l9:I z=I P:=by rw[<-wY,<-e,cg]
 have Z:∀k q,k<I P->P[(i+k)%I P]?=some q->∃x,z[k]?=some x/\x.p=q:=λk q v H=>by
  rw[<-Je u v,<-e,fz]at H;cases D:z[k]? with
  |none=>rw[D]at H;cases H
  |some x=>rw[D]at H;cases H;exact⟨x,rfl,rfl⟩
 have ae:s.b=false:=by obtain⟨x,m,A⟩:=Z 0 p J (by rw[uz,eJ u];exact y);have ok:=(cz.ok x (a7 m)).pb (by unfold aQ.k;rw[A];exact M);rw[Kj hp m,A,n.2]at ok;exact ok.2
 refine⟨i,u,λk v=>?_,by rw[ah0],⟨p,y,M,n.2⟩,λk q v H O=>?_⟩
 .rw[E,fz,Je u v]
 obtain⟨x,m,rfl⟩:=Z k q v H;have Q:=((cz.ok x (a7 m)).pb O).2;rw[(Lm cz.ok hp ae k x m).1,X]at Q
 grind
def WB{P:aW}{s:Nat->Nat}(h:∀u v p j q m,P[u]?=some p->P[v]?=some j->Q[s u]?=some q->Q[s v]?=some m->p.l.ak->j.l.ak->(q.l.id=m.l.id↔p.l.id=j.l.id)):∃f:Int->Int,∀v p q,P[v]?=some p->Q[s v]?=some q->p.l.ak->q.l.id=f p.l.id:=by
 classical
 refine⟨λa=>if h:∃x:Int,∃v p q,P[v]?=some p/\Q[s v]?=some q/\p.l.ak/\p.l.id=a/\q.l.id=x then Classical.choose h else 0,λv p q hp y z=>?_⟩;have H:∃x:Int,∃n j m,P[n]?=some j/\Q[s n]?=some m/\j.l.ak/\j.l.id=p.l.id/\m.l.id=x:=⟨_,v,p,q,hp,y,z,rfl,rfl⟩;dsimp only;rw[dif_pos H];obtain⟨n,j,m,E,A,B,D,F⟩:=Classical.choose_spec H;rw[<-F];exact(h v n p j q m hp E y A z B).2 D.symm
section
variable {F:Nat} {L M:af} {r:Bool} {s t:Nat->Nat}
def cK.Wg(i:cK F L M r s t)(H:v<I L):∀k,k<=I L->t ((v+k)%I L)=if r=true then(t v+I L-k)%I L else(t v+k)%I L:=by
 have h:0<I L:=J;intro k
 induction k with
 |zero=>intro _;rw[uz,eJ H,OO,lg,uz,eJ (i.BT v H)];split<;>rfl
 |succ k f=>
  intro m;have f:=f J;have D:=i.symm.step ((v+k)%I L) (by rw[i.len];exact cT _ h);have e:∀u,nx M u=(u+1)%I L:=λu=>by show(u+1)%I M=_;rw[i.len]
  simp[e,tU]at D;rw[show v+(k+1)=v+k+1 by omega];cases r with
  |false=>rw[aC aa]at D f |-;rw[D,f,tU];rfl
  |true=>
   rw[f]at D;have j:(t v+I L-k)%I L=((t v+I L-(k+1))%I L+1)%I L:=by rw[tU];congr 1;omega
   rw[j]at D;exact VO (i.BT _ (cT _ h)) (cT _ h) D
def cK.fin(i:cK F L M r s t){P:aW}(BB:I P=I L)(ac:I Q=I L)(fH:gO F P)(cQ:gO F Q)(vP:dk (F:Int) (aY P)=0)
  (ag:∀v p,P[v]?=some p->∃q,Q[s v]?=some q/\q.l.kind=p.l.kind/\q.l.gate=p.l.gate/\q.l.au=p.l.au/\q.l.sign=p.l.sign/\q.l.over=p.l.over/\(p.l.ak=false->q.l.id=p.l.id)/\(p.l.ay->q.d=(p.d !=r)))
  (O:∀u v p A q R,P[u]?=some p->P[v]?=some A->Q[s u]?=some q->Q[s v]?=some R->p.l.ak->A.l.ak->(q.l.id=R.l.id↔p.l.id=A.l.id)):eV (aY Q) (aY P):=by
 obtain⟨m,ad,D,al,⟨p0,am,aj,ao⟩,a2⟩:=Hn fH;obtain⟨n,N,b1,bl,⟨q0,Aw,RP,EB⟩,_⟩:=Hn cQ;obtain⟨f,hf⟩:=WB O;rw[BB]at ad D al a2;rw[ac]at N b1 bl;have hn:0<I L:=J;have he:aq U.ay (aY P)%2=0:=by obtain⟨G,_,g⟩:=Ci vP (λe=>by rw[e]at al;simp at al;omega);exact g.even
 have hb:eo F ij:=rfl;have ab:∀v p q,P[v]?=some p->Q[s v]?=some q->q.l=dd f p.l:=by
  intro v p q hp H;obtain⟨R,Z,Y,h2,h3,h4,h5,h6,_⟩:=ag v p hp;rw[H]at Z;cases Z;obtain⟨g1,g2,g3,g4,g5,g6⟩:=J3 f p.l;have Zc:q.l.id=(dd f p.l).id:=by
   cases hc:p.l.ak with
   |true=>rw[g6 hc];exact hf v p q hp H hc
   |false=>rw[RN hc];exact h6 hc
  have YZ:∀a b:U,a.kind=b.kind->a.gate=b.gate->a.au=b.au->a.id=b.id->a.sign=b.sign->a.over=b.over->a=b:=λa b=>by cases a;cases b;simp only[U.mk.injEq];intros;simp_all
  exact YZ _ _ (Y.trans g1.symm) (h2.trans g2.symm) (h3.trans g3.symm) Zc (h4.trans g4.symm) (h5.trans g5.symm)
 have uK:∀X:af,(∀x∈X,x∈aY P)->inj f X:=by
  intro X hX x B y hy kx ky e;obtain⟨a,ha⟩:=fK (hX x B);obtain⟨b,hb⟩:=fK (hX y hy);rw[D _ (by rw[<-al];exact(bt.1 ha).1)]at ha;rw[D _ (by rw[<-al];exact(bt.1 hb).1)]at hb;obtain⟨p,hp,rfl⟩:=gv.1 ha;obtain⟨A,fO,rfl⟩:=gv.1 hb;have cx:p.l.ak:=by unfold U.ak;rw[kx];rfl
  have cy:A.l.ak:=by unfold U.ak;rw[ky];rfl
  obtain⟨q,H,_⟩:=ag _ p hp;obtain⟨R,Z,_⟩:=ag _ A fO;exact(O _ _ _ _ _ _ hp fO H Z cx cy).1 (by rw[hf _ p q hp H cx,hf _ A R fO Z cy,e])
 have MM:=i.BT n N;obtain⟨z,mA⟩:=aP (h:=P) (k:=t n) J;have vu:z.l.ay/\true=(z.d !=r):=by
  obtain⟨q,H,Y,_,_,_,_,_,h7⟩:=ag _ z mA;rw[i.st n N,Aw]at H;cases H;have:z.l.ay:=by unfold U.ay at RP |-;rw[<-Y];exact RP
  exact⟨this,by rw[<-h7 this];exact EB.symm⟩
 obtain⟨j,hj,hjt⟩:∃j,j<I L/\(m+j)%I L=t n:=⟨(t n+I L-m)%I L,cT _ hn,by
  rw[Dj,show m+(t n+I L-m)=t n+I L by omega,lg,eJ MM]⟩
 have E:=a2 j z hj (by rw[hjt];exact mA) vu.1;have C_:∀k,k<I L->∃p,P[t ((n+k)%I L)]?=some p/\(aY Q)[k]?=some (dd f p.l):=λk T=>by have aw:(n+k)%I L<I L:=cT _ hn;obtain⟨p,hp⟩:=aP (by rw[BB];exact i.BT _ aw);obtain⟨q,H,_⟩:=ag _ p hp;have CH:=H;rw[i.st _ aw]at H;refine⟨p,hp,?_⟩;rw[b1 k T,H];show some q.l=_;rw[ab _ p q hp CH]
 cases r with
 |false=>
  have e:aY Q=(eC (aY P) j).map (dd f):=by
   apply pk;intro k;by_cases T:k<I L
   .obtain⟨p,hp,H⟩:=C_ k T;rw[H,fz,Gf J J,al,D _ (cT _ hn)];rw[i.Wg N k J,aC aa,<-hjt,tU]at hp;rw[Dj,<-AH,hp];rfl
   rw[lS J,lS (by rw[cg,rC];omega)]
  rw[e];refine(MZ (uK _ λx B=>Be.1 B)).trans (KE J he ?_);have oD:z.d:=by have:=vu.2;revert this;cases z.d<;>simp
  rw[oD]at E;unfold dn at E;exact c8.1 E.symm
 |true=>
  have mV:I L-1-j<I L:=J;have e:aY Q=(eC (aY P).reverse (I L-1-j)).map (dd f):=by
   apply pk;intro k;by_cases T:k<I L
   .obtain⟨p,hp,H⟩:=C_ k T;have B:(I L-1-j+k)%I L<I L:=cT _ hn;rw[H,fz,Gf (by rw[nr];omega) (by rw[nr];omega),nr,al,EE J,al,D _ J];rw[i.Wg N k J,aD rfl,<-hjt]at hp;have:(m+(I L-1-(I L-1-j+k)%I L))%I L=((m+j)%I L+I L-k)%I L:=by
     rw[uf (a:=I L-1-j+k) J];split
     .rename_i Y;rw[show(m+j)%I L+I L-k=(m+j)%I L+(I L-k) by omega,tU,show m+(I L-1-(I L-1-j+k))=m+j-k by omega,show m+j+(I L-k)=(m+j-k)+I L by omega,lg]
     rename_i Y;rw[show(m+j)%I L+I L-k=(m+j)%I L+(I L-k) by omega,tU];congr 1;omega
    rw[this,hp];rfl
   rw[lS J,lS (by rw[cg,rC,nr];omega)]
  rw[e];refine(MZ (uK _ λx B=>zJ.1 (Be.1 B))).trans ((KE (by rw[nr];omega) (by rw[yL];exact he) ?_).trans Sz);have oD:z.d=false:=by have:=vu.2;revert this;cases z.d<;>simp
  rw[oD]at E;have h9:=aac he (by rw[D j hj,hjt,mA];rfl) vu.1;rw[<-E,al]at h9;unfold dn at h9;exact c8.1 h9
end
section
variable {F:Nat} {h:af}
def ank(g:bj F h){d:Nat}(f:d<2*I h):(kX F h)[d]?=some (ep h d):=by obtain⟨j,n,H,u⟩:=OP f;obtain⟨w,m,hf⟩:=Tf n;rw[hf,zM]at H;rw[u,BU g m (r4.1 H).1]
def U5(g:bj F h){d:Nat}(f:d<2*I h):∃w,w∈gW (aU h) (aT h)/\d∈w/\gJ F h d=kY F h w:=by obtain⟨j,n,H,u⟩:=OP f;obtain⟨w,m,hf⟩:=Tf n;rw[hf,zM]at H;exact⟨w,a7 m,(r4.1 H).1,hf⟩
def aoV:∀(w:aG) (f:dL),(w.foldl (dL.add F h) f).gT=f.gT:=by
 intro w
 induction w with
 |nil=>intro f;rfl
 |cons x w j=>intro f;rw[CM,j];unfold dL.add;split<;>rfl
def Ln(g:bj F h){d:Nat}(H:d<2*I h):(gJ F h d).gT=dn h (d/2+1):=by
 obtain⟨w,f,j,hf⟩:=U5 g H;rw[hf];obtain _:=AY g.ok w f;unfold kY;rw[aoV];show dn h _=_
 grind [Xl]
def apB{p:Nat×Nat}:∀(w:aG) (f:dL),p∈(w.foldl (dL.add F h) f).places->p∈f.places\/ ∃x∈w,2*I h<=x/\p∈mL F h ((x-2*I h)/2):=by
 intro w
 induction w with
 |nil=>intro f H;exact .inl H
 |cons x w j=>
  intro f H
  grind [dL.add]
def abt{g0 r to y:Nat}(h:(x,y)∈pD g0 r to):(x=g0/\y=r)\/(g0<x/\x<=to/\y=0):=by
 unfold pD at h
 grind
def arN(g:bj F h){b c:Nat}(N:j<I (aA h))(H:(b,c)∈mL F h j):(dr h b+c+I (aA h)-1)%I (aA h)=j:=by
 have ok:=g.ok;obtain⟨u,A⟩:=aP N;obtain⟨v,O⟩:=aP (cT (j+1) (show 0<I (aA h) by omega));obtain⟨l,L,Y,T⟩:=v7 ok.ax A;obtain⟨m,B,Q,M⟩:=v7 ok.ax O;obtain⟨a0,a1,a2,a3⟩:=ok.ax.fA l (a7 L) Y;obtain⟨b0,Z,b2,b3⟩:=ok.ax.fA m (a7 B) Q;have hT:=Bw λl hl hp=>((lQ hp).1 (g.bad l hl)).1.1.1;have X:(aA h).getD j 0=u:=by rw[dD,A];rfl
 have ev:(aA h).getD ((j+1)%I (aA h)) 0=v:=by rw[dD,O];rfl
 unfold mL at H;simp only[X,ev,vU L,vU B,JS L]at H;unfold dQ at T M;have s1:=pX h l.gate.toNat;have mono:∀ {x y:Nat},x<=y->dr h x<=dr h y:=λH=>yR H;have fin:dr h b+c=j+1\/(j+1=I (aA h)/\dr h b+c=0)->(dr h b+c+I (aA h)-1)%I (aA h)=j:=by
  rintro(e|⟨D,E⟩)
  .rw[e,show j+1+I (aA h)-1=j+I (aA h) by omega,lg,eJ N]
  rw[E,jN,eJ J];omega
 refine fin ?_;split at H
 .rename_i R;rw[eJ R]at M;rcases abt H with⟨rfl,rfl⟩|⟨z,f,rfl⟩
  .left;omega
  left;have D:=mono (show l.gate.toNat+1<=b by omega);have E:=mono f;omega
 have n:j+1=I (aA h):=J;rw[n,w_]at M;rcases gn.1 H with H|H
 .rcases abt H with⟨rfl,rfl⟩|⟨z,f,rfl⟩
  .left;omega
  left;have D:=mono (show l.gate.toNat+1<=b by omega);have E:=mono (show b<=F+1 by omega);omega
 rcases abt H with⟨rfl,rfl⟩|⟨z,f,rfl⟩
 .right;exact⟨n,rfl⟩
 right;have E:=mono f;exact⟨n,J⟩
def K0(g:bj F h){d b c:Nat}(B:d<2*I h)(M:(b,c)∈(gJ F h d).places):ep h d=if dn h (d/2+1)then fp h b c else fm h b c:=by
 have ok:=g.ok;have X:=gy.2 g.ne;obtain⟨w,y,L,hf⟩:=U5 g B;rw[hf]at M;unfold kY at M;rcases apB _ _ M with M|⟨x,A,CJ,hp⟩
 .cases M
 obtain⟨_,_,R⟩:=AY ok w y;have T:=R x A;have O:aT h=2*I h+2*I (aA h):=rfl;have u:(x-2*I h)/2<I (aA h):=J;have z:=arN g u hp;have Y:ep h d=ep h x:=by obtain⟨i,D⟩:=fK y;rw[BU g D L,BU g D A]
 have m:=uY (mE ok) y A;have j:∀v f,v<I h->dS (I h) v f∈w->dn h (dS (I h) v f/2+1)=dn h (d/2+1):=λv f H Q=>by
  have lt:dS (I h) v f<2*I h:=by have:=wJ H (!f);rw[<-uZ]at this;have:=uB this;rwa[uQ]at this
  exact Xl g y Q L lt B
 have back:∀v,v<I h->dn h ((v+I h-1)%I h+1)=dn h v:=λv H=>by have:=Vm g H;have N:(e_ h v).i.b= !dn h ((v+I h-1)%I h+1):=rfl;rw[N]at this;revert this;cases dn h ((v+I h-1)%I h+1)<;>cases dn h v<;>simp
 rcases qL x with e|e
 .have E:x=2*I h+2*((x-2*I h)/2):=J;generalize(x-2*I h)/2=k at E u z;obtain⟨l,hl,pl⟩:=AI (cT (k+1) (show 0<I (aA h) by omega));have H:=(bt.1 hl).1;rw[E,AN]at m;generalize(aA h).getD ((k+1)%I (aA h)) 0=v at m hl H;have Z:dn h (d/2+1):=by
   rw[<- (j v _ H m)];cases n:dn h v
   .show dn h (2*v/2+1)=true;rw[show 2*v/2=v by omega,Ez hl pl,n];rfl
   show dn h ((2*((v+I h-1)%I h)+1)/2+1)=true;rw[show(2*((v+I h-1)%I h)+1)/2=(v+I h-1)%I h by omega,back v H,n]
  rw[Z,aD rfl,Y,E];unfold fp;rw[z]
 have E:x=2*I h+2*((x-2*I h)/2)+1:=J;generalize(x-2*I h)/2=k at E u z;obtain⟨l,hl,pl⟩:=AI u;have H:=(bt.1 hl).1;rw[E,A_]at m;generalize(aA h).getD k 0=v at m hl H;have Z:dn h (d/2+1)=false:=by
  rw[<- (j v _ H m)];cases n:dn h v
  .show dn h ((2*((v+I h-1)%I h)+1)/2+1)=false;rw[show(2*((v+I h-1)%I h)+1)/2=(v+I h-1)%I h by omega,back v H,n]
  show dn h (2*v/2+1)=false;rw[show 2*v/2=v by omega,Ez hl pl,n];rfl
 rw[Z,aC aa,Y,E];unfold fm;rw[z]
def M5{s:eN}{z X:fG}{k:Nat}{x:aQ}(h:iR s z s)(f:z[k]?=some x)(u:iR x.o X x.o):iR s (z.take (k+1)++X++z.drop (k+1)) s:=by
 have v:z=z.take _++z.drop (k+1):=(jS ..).symm;rw[v]at h;obtain⟨m,H,n⟩:=zm.1 h;have j:m=x.o:=by
  have y:=(bt.1 f).1;have hl:(z.take (k+1))[I (z.take (k+1))-1]?=some x:=by rw[jO,yO J,p_,aD J,Is];exact f
  exact(Mv H hl).symm
 subst j;exact zm.2 ⟨_,zm.2 ⟨_,H,u⟩,n⟩
def pM(f:Nat->Nat->Nat)(b c v G j:Nat):Nat:=if G=b then(if j<=c then f b j else if j=c+1 then v else f b (j-2))else f G j
def SN{b c:Nat}(h:j<=c):pM f b c v b j=f b j:=by unfold pM;rw[aD rfl,aD h]
def amW{b c:Nat}:pM f b c v b (c+1)=v:=by unfold pM;rw[aD rfl,aC J,aD rfl]
def Ub{b c:Nat}(h:c+2<=j):pM f b c v b j=f b (j-2):=by unfold pM;rw[aD rfl,aC J,aC J]
def Ud{b c G:Nat}(h:G≠b):pM f b c v G j=f G j:=by unfold pM;rw[aC h]
def UD{b c G:Nat}:pM f b c v G 0=f G 0:=by
 by_cases h:G=b
 .subst h;exact SN (bZ _)
 exact Ud h
def ajV(g:bj F h){a b c:Nat}(ha:a<I h)(hb:b<=F)(hc:c<=aV h b)(x:Bool)(Q:(if x then ep h (2*a+1)else ep h (2*a))=if dn h (a+1)then fp h b c else fm h b c):
  gO F (dK (dO (an h) b c 2) [iS b (if dn h (a+1)!=x then((c+2:Nat):Int)else((c+1:Nat):Int)) (dn h (a+1)),iS b (if dn h (a+1)!=x then((c+1:Nat):Int)else((c+2:Nat):Int)) (!dn h (a+1))] a):=by
 have cz:=g.cz;have im:=iX h;have l9:=yy h;obtain⟨s,hp⟩:=cz.path;generalize hA:dn h (a+1)=A at Q |-
 let m:=j8 h a
 have rX:m.b= !A:=by show(!dn h (a+1))=_;rw[hA]
 have fj:m.l=ep h (2*a):=rfl;have ag:m.r=ep h (2*a+1):=rfl
 obtain⟨k,tn,bn,r1,R,hk,hr,kN,uN,ag2,Zy,DV⟩:∃(k:eN) (tn bn r1 R:Nat),k.b=A/\((r1=c+1/\R=c+2)\/(r1=c+2/\R=c+1))/\((if A !=x then((c+2:Nat):Int)else((c+1:Nat):Int))=(r1:Int))/\((if A !=x then((c+1:Nat):Int)else((c+2:Nat):Int))=(R:Int))/\
   B1 (pM (fp h) b c tn) (pM (fm h) b c bn) ⟨iS b r1 A,m,k⟩/\B1 (pM (fp h) b c tn) (pM (fm h) b c bn) ⟨iS b R (!A),k,m⟩/\(k.l=fW h\/k.r=fW h):=by
  have lo:∀(f:Nat->Nat->Nat) v,pM f b c v b (c+1-1)=f b c:=λf v=>SN J;have md:∀(f:Nat->Nat->Nat) v,pM f b c v b (c+1)=v:=λf v=>amW;have HX:∀(f:Nat->Nat->Nat) v,pM f b c v b (c+2-1)=v:=λf v=>amW;have hi:∀(f:Nat->Nat->Nat) v,pM f b c v b (c+2)=f b c:=λf v=>by rw[Ub J];rfl
  have j:∀(T B:Nat->Nat->Nat) (r:Nat) (d:Bool) (i o:eN),(if d then i else jE o).r=T b (r-1)->(if d then i else jE o).l=T b r->(if d then o else jE i).r=B b (r-1)->(if d then o else jE i).l=B b r->B1 T B ⟨iS b r d,i,o⟩:=λT B r d i o y M h3 h4=>⟨y,M,h3,h4⟩;cases A<;>cases x<;>simp only[fE,if_false,if_true]at Q
  .rw[<-fj]at Q;refine⟨⟨fp h b c,fW h,false⟩,fW h,m.r,c+1,c+2,rfl,.inl ⟨rfl,rfl⟩,rfl,rfl,j _ _ _ _ _ _ ?_ ?_ ?_ ?_,j _ _ _ _ _ _ ?_ ?_ ?_ ?_,.inr rfl⟩
   .rw[lo];rfl
   .rw[md];rfl
   .rw[lo];exact Q
   .rw[md];rfl
   .rw[HX];rfl
   .rw[hi];rfl
   .rw[HX];rfl
   rw[hi];exact Q
  .rw[<-ag]at Q;refine⟨⟨fW h,fp h b c,false⟩,fW h,m.l,c+2,c+1,rfl,.inr ⟨rfl,rfl⟩,rfl,rfl,j _ _ _ _ _ _ ?_ ?_ ?_ ?_,j _ _ _ _ _ _ ?_ ?_ ?_ ?_,.inl rfl⟩
   .rw[HX];rfl
   .rw[hi];rfl
   .rw[HX];rfl
   .rw[hi];exact Q
   .rw[lo];rfl
   .rw[md];rfl
   .rw[lo];exact Q
   rw[md];rfl
  .rw[<-fj]at Q;refine⟨⟨fm h b c,fW h,true⟩,m.r,fW h,c+2,c+1,rfl,.inr ⟨rfl,rfl⟩,rfl,rfl,j _ _ _ _ _ _ ?_ ?_ ?_ ?_,j _ _ _ _ _ _ ?_ ?_ ?_ ?_,.inr rfl⟩
   .rw[HX];rfl
   .rw[hi];exact Q
   .rw[HX];rfl
   .rw[hi];rfl
   .rw[lo];exact Q
   .rw[md];rfl
   .rw[lo];rfl
   rw[md];rfl
  rw[<-ag]at Q;refine⟨⟨fW h,fm h b c,true⟩,m.l,fW h,c+1,c+2,rfl,.inl ⟨rfl,rfl⟩,rfl,rfl,j _ _ _ _ _ _ ?_ ?_ ?_ ?_,j _ _ _ _ _ _ ?_ ?_ ?_ ?_,.inl rfl⟩
  .rw[lo];exact Q
  .rw[md];rfl
  .rw[lo];rfl
  .rw[md];rfl
  .rw[HX];rfl
  .rw[hi];exact Q
  .rw[HX];rfl
  rw[hi];rfl
 rw[kN,uN]
 let E:aQ:=⟨iS b r1 A,m,k⟩
 let Y:aQ:=⟨iS b R (!A),k,m⟩
 have Z:E.k.ay:=rfl;have ac:Y.k.ay:=rfl;have ya:∀(r:Int) (d:Bool),eo F (iS b r d).l=false:=λr d=>(lQ rfl).2 ⟨⟨⟨⟨by show(0:Int)<=(b:Int);omega,by show(b:Int)<=(F:Int);omega⟩,rfl⟩,rfl⟩,rfl⟩
 let n:=iZ b c 2
 let r:=fc h
 have mC:aq U.ak (aK (r.map (aQ.mp id n)))=aq U.ak h:=by rw[rB (λl=>(sn _ _ _).ak l)];rw[im]
 have cO:aq U.ay (aK (r.map (aQ.mp id n)))=aq U.ay h:=by rw[rB (λl=>(sn _ _ _).ay l)];rw[im]
 have mG:∀q,aV (aK (r.map (aQ.mp id n))) q=aV h q:=λq=>by show aq _ _=aq _ _;rw[rB (λl=>NG _ _ _ q l)];rw[im]
 have nC:aq U.ak (aK ([E,Y]++r.map (aQ.mp id n)))=aq U.ak h:=by rw[qj,fh,fh,tq,(u4 Z).1,(u4 ac).1,mC];omega
 have bQ:aq U.ay (aK ([E,Y]++r.map (aQ.mp id n)))=aq U.ay h+2:=by rw[qj,fh,fh,tq,(u4 Z).2,(u4 ac).2,cO];omega
 have nG:∀q,aV (aK ([E,Y]++r.map (aQ.mp id n))) q=aV h q+if q=b then 2 else 0:=λq=>by
  have e1:aV (aK ([E,Y]++r.map (aQ.mp id n))) q=(if q=b then 1 else 0)+((if q=b then 1 else 0)+0)+aV (aK (r.map (aQ.mp id n))) q:=by show aq _ _=_+aq _ _;rw[qj,fh,fh,tq,Tm Z rfl,Tm ac rfl]
  rw[e1,mG];split<;>omega
 have ab:∀w∈r,w.k.ay->(0<=w.k.gate/\w.k.gate<=(F:Int))/\1<=w.k.au/\w.k.au<=(aV h w.k.gate.toNat:Int):=λw H pw=>by have r1:=cz.rr w H pw;rw[im]at r1;exact⟨((lQ pw).1 (cz.ok w H).bad).1.1.1,r1⟩
 have rA:∀w:aQ,w.k.ay->(n w.k).au=if w.k.gate=(b:Int)/\(c:Int)<w.k.au then w.k.au+2 else w.k.au:=λw pw=>UR pw;have ad:∀(f:Nat->Nat->Nat) (v:Nat),∀w∈r,w.k.ay->f w.k.gate.toNat (w.k.au.toNat-1)=pM f b c v w.k.gate.toNat ((n w.k).au.toNat-1)/\f w.k.gate.toNat w.k.au.toNat=pM f b c v w.k.gate.toNat (n w.k).au.toNat:=by
  intro f v w H pw;obtain⟨o1,o2,o3⟩:=ab w H pw;rw[rA w pw];by_cases uk:w.k.gate.toNat=b
  .rw[uk];by_cases cr:(c:Int)<w.k.au
   .rw[aD ⟨J,cr⟩,Ub J,Ub J];exact⟨by congr 1;omega,by congr 1;omega⟩
   rw[aC J,SN J,SN J];exact⟨rfl,rfl⟩
  rw[aC J,Ud uk,Ud uk];exact⟨rfl,rfl⟩
 have z:∀(f:Nat->Nat->Nat) (v q:Nat),pM f b c v q (aV h q+if q=b then 2 else 0)=f q (aV h q):=λf v q=>by
  by_cases cq:q=b
  .subst cq;rw[aD rfl,Ub J];rfl
  rw[aC cq,Ud cq];rfl
 have qn:j_ F ([E,Y]++r.map (aQ.mp id n)) (pM (fp h) b c tn) (pM (fm h) b c bn):=by
  refine j_.edit (X:=[]) cz.q (sn _ _ _) (λw H=>ZW (cz.ok w H).bad) (λu D v hv cu cv e=>?_) (λu D v hv pu pv e1 O=>?_) (λw H=>?_) ?_ ?_ (λu D w H=>?_) (λu D w H pu pw e1 O=>?_) (by rw[nC];have:=cz.ev;rwa[im]at this) (λw H cw=>?_) (λu D cu=>?_) (λw H pw=>?_) (λu D pu=>?_) (λw H pw=>?_) (λu D pu=>?_) (λq hq=>?_) ?_
  .rw[Bj,Bj]at e;exact e
  .have Fx:u.k.gate=v.k.gate:=by rw[u7,u7]at e1;exact e1
   refine⟨Fx,?_⟩;have O:=O;rw[rA u pu,rA v pv]at O;split at O<;>split at O<;>omega
  .simp only[c7,eD,or_false]at H;rcases H with rfl|rfl
   .exact⟨ya _ _,λam=>(Bool.noConfusion am),λ_=>⟨hk,rX⟩⟩
   exact⟨ya _ _,λam=>(Bool.noConfusion am),λ_=>⟨rX,by show k.b= !(!A);rw[hk];simp⟩⟩
  .exact iN.2 ⟨λw _=>abE rfl,Ex ..⟩
  .refine iN.2 ⟨λw H=>?_,Ex ..⟩;rw[mj]at H;subst H;intro _ _ _ e;have e:(r1:Int)=(R:Int):=e;rcases hr with⟨y,M⟩|⟨y,M⟩<;>omega
  .simp only[c7,eD,or_false]at D;rcases D with rfl|rfl<;>exact abE rfl
  .have e1:u.k.gate=w.k.gate:=e1.trans (u7 _ _ _ _);have O:u.k.au=(n w.k).au:=O;rw[rA w (by rw[<- (sn b c 2).ay];exact pw)]at O;have Gc:u.k.gate=(b:Int)/\(u.k.au=(c:Int)+1\/u.k.au=(c:Int)+2):=by
    simp only[c7,eD,or_false]at D;rcases D with rfl|rfl
    .refine⟨rfl,?_⟩;show(r1:Int)=_\/(r1:Int)=_;rcases hr with⟨y,M⟩|⟨y,M⟩<;>omega
    refine⟨rfl,?_⟩;show(R:Int)=_\/(R:Int)=_;rcases hr with⟨y,M⟩|⟨y,M⟩<;>omega
   obtain⟨u1,u2⟩:=Gc;split at O<;>omega
  .simp only[c7,eD,or_false]at H;rcases H with rfl|rfl<;>cases cw
  .rw[nC,Bj,<-im];exact cz.ids u D cu
  .rw[nG];have:w.k.gate.toNat=b/\1<=w.k.au/\w.k.au<=(c:Int)+2:=by
    simp only[c7,eD,or_false]at H;rcases H with rfl|rfl
    .refine⟨js _,?_⟩;show 1<=(r1:Int)/\(r1:Int)<=_;rcases hr with⟨y,M⟩|⟨y,M⟩<;>omega
    refine⟨js _,?_⟩;show 1<=(R:Int)/\(R:Int)<=_;rcases hr with⟨y,M⟩|⟨y,M⟩<;>omega
   obtain⟨w1,w2,w3⟩:=this;rw[w1,aD rfl];omega
  .rw[u7,nG];show 1<=(n u.k).au/\(n u.k).au<=_;obtain⟨o1,o2,o3⟩:=ab u D pu;rw[rA u pu];split
   .rename_i am;rw[aD J];omega
   split<;>omega
  .simp only[c7,eD,or_false]at H;rcases H with rfl|rfl
   .exact ag2
   exact Zy
  .rw[u7];obtain⟨t1,t2⟩:=ad (fp h) tn u D pu;obtain⟨b1,b2⟩:=ad (fm h) bn u D pu;exact⟨⟨t1,b1⟩,t2,b2⟩
  .rw[nG,z,z,UD,UD];have:=cz.gt q hq;rwa[im]at this
  rw[nG,z,z,UD,UD];have:=cz.gz;rwa[im]at this
 have jU:=y_ ha;have aj:(r.map (aQ.mp id n))[a]?=some ((e_ h a).mp id n):=by rw[fz,jU];rfl
 refine j_.done (X:=[]) (L:=[]) (N:=[fW h]) (O:=(r.map (aQ.mp id n)).take (a+1)++[E,Y]++(r.map (aQ.mp id n)).drop (a+1)) qn cz.nd (λt ht=>cz.wit t ht) ?_ ⟨s,M5 (Gk (n:=id) hp) aj ⟨rfl,rfl,rfl⟩⟩ ?_ ⟨E,aE,Z⟩ (λ_ _ _=>rfl) (λw H=>by cases H) (rR.2 ⟨eD,qK⟩) (λt ht=>?_) (λt ht=>?_) (by rw[wI];exact cJ _) ?_
 .have y:((r.map (aQ.mp id n)).take (a+1)++[E,Y]++(r.map (aQ.mp id n)).drop (a+1)).Perm ([E,Y]++(r.map (aQ.mp id n)).take (a+1)++(r.map (aQ.mp id n)).drop (a+1)):=Ug _ G4;rwa[lf [E,Y],jS]at y
 .have y:(r.map (aQ.mp id n)).map aQ.p=dO (an h) b c 2:=by
   show _=(an h).map (cW b c 2);rw[<-vA,h_,h_];refine lq λw _=>?_;show _=cW b c 2 w.p;rw[Fz];rfl
  rw[fL,fL,sC,vv,y];rfl
 .rw[mj]at ht;subst ht;simp
 .rw[mj]at ht;subst ht;exact⟨E,aE,DV.imp Eq.symm Eq.symm⟩
 rw[nC,bQ];have:=g.nw;simp only[ga,fP];omega
def OR(g:bj F h){a b c:Nat}(m:a<I h)(n:b<=F)(u:c<=aV h b)(f:ob F h a b c=some L):gO F L:=by
 have A:=Ln g (d:=2*a) J;have j:=Ln g (d:=2*a+1) J;rw[show 2*a/2=a by omega]at A;rw[show(2*a+1)/2=a by omega]at j;unfold ob at f;split at f
 .rename_i H;cases f;have hl:=K0 g J H;rw[show 2*a/2=a by omega]at hl;unfold uT;rw[A];exact ajV g m n u false hl
 split at f
 .rename_i H;cases f;have hl:=K0 g J H;rw[show(2*a+1)/2=a by omega]at hl;unfold uT;rw[j];exact ajV g m n u true hl
 cases f
end
section
variable {F:Nat} {h:af}
def vn(g:bj F h){d:Nat}(H:d<2*I h):pR F h d=ep h d:=by unfold pR;rw[dD,ank g H];rfl
def adj(g:bj F h){a b:Nat}(ha:a<I h)(hb:b<I h)(dp:a≠b){l Y o:Bool}{sg:Int}(HH:sg=1\/sg= -1)(jj:(sg==1)=(o==Y))
  (qq:(nP l (j8 h a)).l=(nP Y (j8 h b)).l) {A0 A1 R T:aN} (av:A0=qe (aq U.ak h/2) 1 sg o) (az:A1=qe (aq U.ak h/2) 2 (-sg) o)
  (eB:if l==Y then R=qe (aq U.ak h/2) 2 (-sg) (!o)/\T=qe (aq U.ak h/2) 1 sg (!o)else R=qe (aq U.ak h/2) 1 sg (!o)/\T=qe (aq U.ak h/2) 2 (-sg) (!o)):
  gO F (if a<b then dK (dK (an h) [R,T] b) [A0,A1] a else dK (dK (an h) [A0,A1] a) [R,T] b):=by
 subst av az;have cz:=g.cz;have im:=iX h;have l9:=yy h;obtain⟨s,hp⟩:=cz.path
 let M:=j8 h a
 let H:=j8 h b
 let ba:eN:=⟨(nP Y H).r,fW h,M.b⟩
 let aH:eN:=⟨(nP l M).r,fW h,H.b⟩
 let A:aQ:=⟨qe (aq U.ak h/2) 1 sg o,M,nP l ba⟩
 let m:aQ:=⟨qe (aq U.ak h/2) 2 (-sg) o,nP l ba,M⟩
 let B:aQ:=⟨R,H,nP Y aH⟩
 let n:aQ:=⟨T,nP Y aH,H⟩
 have ad:∀(f:Bool) (s:eN),(nP f s).b=s.b:=λf s=>by cases f<;>rfl
 have hB:(R.l.kind=2/\R.l.gate=0/\R.l.au=0/\(R.l.sign=sg\/R.l.sign= -sg))/\(T.l.kind=2/\T.l.gate=0/\T.l.au=0/\(T.l.sign=sg\/T.l.sign= -sg)):=by
  split at eB<;>obtain⟨rfl,rfl⟩:=eB
  .exact⟨⟨rfl,rfl,rfl,.inr rfl⟩,rfl,rfl,rfl,.inl rfl⟩
  exact⟨⟨rfl,rfl,rfl,.inl rfl⟩,rfl,rfl,rfl,.inr rfl⟩
 have LG:A.k.ak:=rfl;have LH:m.k.ak:=rfl;have OL:B.k.ak:=by show(R.l.kind==2)=true;rw[hB.1.1];rfl
 have ac:n.k.ak:=by show(T.l.kind==2)=true;rw[hB.2.1];rfl
 have O:∀l:U,l.kind=2->l.gate=0->l.au=0->(l.sign=sg\/l.sign= -sg)->eo F l=false:=λl h1 h2 h3 h4=>by
  refine(J2 (by unfold U.ak;rw[h1];rfl)).2 ⟨⟨h2,h3⟩,?_⟩;have:l.sign=1\/l.sign= -1:=by rcases h4 with aj|aj<;>rcases HH with k|k<;>omega
  rcases this with aj|aj<;>rw[aj]<;>decide
 have KB:∃u v:aQ,((u=B/\v=n)\/(u=n/\v=B))/\u.k.id=A.k.id/\v.k.id=m.k.id/\zW A u/\zW m v:=by
  have ag:cM A.k=(o==(o==Y)):=by show(o==(sg==1))=_;rw[jj]
  have ab:cM m.k=(o== !(o==Y)):=by
   show(o==(-sg==1))=_;have:(-sg==1)= !(sg==1):=by rcases HH with rfl|rfl<;>rfl
   rw[this,jj]
  cases l<;>cases Y
  all_goals
   simp only[sv,if_true,fE,if_false,show(false==true)=false from rfl,show(true==false)=false from rfl]at eB;obtain⟨rfl,rfl⟩:=eB
  .have D:=qq;refine⟨n,B,.inr ⟨rfl,rfl⟩,rfl,rfl,⟨by show o= !!o;simp,rfl,?_⟩,⟨by show o= !!o;simp,rfl,?_⟩⟩
   .rw[ag,show(o==(o==false))=false by cases o<;>rfl];constructor<;>first|rfl|exact D|exact D.symm
   rw[ab,show(o== !(o==false))=true by cases o<;>rfl];constructor<;>first|rfl|exact D|exact D.symm
  .have D:=qq;refine⟨B,n,.inl ⟨rfl,rfl⟩,rfl,rfl,⟨by show o= !!o;simp,rfl,?_⟩,⟨by show o= !!o;simp,rfl,?_⟩⟩
   .rw[ag,show(o==(o==true))=true by cases o<;>rfl];constructor<;>first|rfl|exact D|exact D.symm
   rw[ab,show(o== !(o==true))=false by cases o<;>rfl];constructor<;>first|rfl|exact D|exact D.symm
  .have D:=qq;refine⟨B,n,.inl ⟨rfl,rfl⟩,rfl,rfl,⟨by show o= !!o;simp,rfl,?_⟩,⟨by show o= !!o;simp,rfl,?_⟩⟩
   .rw[ag,show(o==(o==false))=false by cases o<;>rfl];constructor<;>first|rfl|exact D|exact D.symm
   rw[ab,show(o== !(o==false))=true by cases o<;>rfl];constructor<;>first|rfl|exact D|exact D.symm
  have D:=qq;refine⟨n,B,.inr ⟨rfl,rfl⟩,rfl,rfl,⟨by show o= !!o;simp,rfl,?_⟩,⟨by show o= !!o;simp,rfl,?_⟩⟩
  .rw[ag,show(o==(o==true))=true by cases o<;>rfl];constructor<;>first|rfl|exact D|exact D.symm
  rw[ab,show(o== !(o==true))=false by cases o<;>rfl];constructor<;>first|rfl|exact D|exact D.symm
 obtain⟨u,v,BK,iu,iv,xu,xv⟩:=KB
 let r:=fc h
 have N1:A.k.id=((aq U.ak h/2+1:Nat):Int):=rfl;have N2:m.k.id=((aq U.ak h/2+2:Nat):Int):=rfl;have ar:∀w∈[A,m,B,n],w=A\/w=m\/w=u\/w=v:=λw j=>by
  simp only[c7,eD,or_false]at j;rcases BK with⟨rfl,rfl⟩|⟨rfl,rfl⟩
  .exact j
  rcases j with aj|aj|aj|aj
  .exact .inl aj
  .exact .inr (.inl aj)
  .exact .inr (.inr (.inr aj))
  exact .inr (.inr (.inl aj))
 have c4:∀w∈[A,m,B,n],w.k.ak/\(w.k.id=((aq U.ak h/2+1:Nat):Int)\/w.k.id=((aq U.ak h/2+2:Nat):Int)):=λw j=>by
  rcases ar w j with rfl|rfl|rfl|rfl
  .exact⟨LG,.inl N1⟩
  .exact⟨LH,.inr N2⟩
  .exact⟨by rcases BK with⟨rfl,_⟩|⟨rfl,_⟩<;>assumption,.inl (iu.trans N1)⟩
  exact⟨by rcases BK with⟨_,rfl⟩|⟨_,rfl⟩<;>assumption,.inr (iv.trans N2)⟩
 have aF:nk A m/\nk A u/\nk A v/\nk m u/\nk m v/\nk u v:=by
  have no:∀ {x y:aQ},x.k.id≠y.k.id->nk x y:=λaj _ _ e=>absurd e aj;have Nf:A.k.id≠m.k.id:=by rw[N1,N2];omega
  exact⟨no Nf,λ_ _ _=>xu,no (by rw[iv];exact Nf),no (by rw[iu];exact Nf.symm),λ_ _ _=>xv,no (by rw[iu,iv];exact Nf)⟩
 obtain⟨w1,w2,w3,w4,w5,w6⟩:=aF;have pw:[A,m,B,n].Pairwise nk:=by
  simp only[iN,c7,eD,or_false,forall_eq_or_imp,forall_eq,List.Pairwise.nil,and_true,false_imp_iff,implies_true];rcases BK with⟨rfl,rfl⟩|⟨rfl,rfl⟩
  .exact⟨⟨w1,w2,w3⟩,⟨w4,w5⟩,w6⟩
  exact⟨⟨w1,w3,w2⟩,⟨w5,w4⟩,w6.symm⟩
 have jk:∀w∈[A,m,B,n],yW F w:=λw j=>by
  have mk:∀x:aQ,x.k.ak->eo F x.k=false->x.i.b=x.o.b->yW F x:=λx h1 h2 h3=>⟨h2,λ_=>h3,λhp=>by rw[kJ h1]at hp;cases hp⟩;simp only[c7,eD,or_false]at j;rcases j with rfl|rfl|rfl|rfl
  .exact mk _ LG (O _ rfl rfl rfl (.inl rfl)) (ad l ba).symm
  .exact mk _ LH (O _ rfl rfl rfl (.inr rfl)) (ad l ba)
  .exact mk _ OL (O _ hB.1.1 hB.1.2.1 hB.1.2.2.1 hB.1.2.2.2) (ad Y aH).symm
  exact mk _ ac (O _ hB.2.1 hB.2.2.1 hB.2.2.2.1 hB.2.2.2.2) (ad Y aH)
 have Qj:=λw j hc=>by have:=cz.ids w j hc;rwa[im]at this
 have nC:aq U.ak (aK ([A,m,B,n]++r.map (aQ.mp id id)))=aq U.ak h+4:=by rw[Cj,qj,fh,fh,fh,fh,tq,im,(kW LG).1,(kW LH).1,(kW OL).1,(kW ac).1];omega
 have bQ:aq U.ay (aK ([A,m,B,n]++r.map (aQ.mp id id)))=aq U.ay h:=by rw[Cj,qj,fh,fh,fh,fh,tq,im,(kW LG).2,(kW LH).2,(kW OL).2,(kW ac).2];omega
 have nG:∀q,aV (aK ([A,m,B,n]++r.map (aQ.mp id id))) q=aV h q:=λq=>by show aq _ _=aq _ _;rw[Cj,qj,fh,fh,fh,fh,tq,im,Ab q LG,Ab q LH,Ab q OL,Ab q ac];simp
 have ev:=cz.ev;rw[im]at ev;have qn:j_ F ([A,m,B,n]++r.map (aQ.mp id id)) (fp h) (fm h):=by
  refine j_.edit (X:=[]) cz.q zA.id (λw j=>(cz.ok w j).bad) (λ_ _ _ _ _ _ e=>e) (λ_ _ _ _ _ _ e f=>⟨e,f⟩) jk pw ?_ (λx hx w j h1 h2 e=>?_) (λx hx w j=>H0 (c4 x hx).1) (by rw[nC];omega) (λw j hc=>?_) (λw j hc=>?_) (λw j hp=>?_) (λw j hp=>?_) (λw j hp=>?_) (λw j hp=>⟨⟨rfl,rfl⟩,rfl,rfl⟩) (λq hq=>?_) ?_
  .refine iN.2 ⟨λ_ _=>H0 LG,iN.2 ⟨λ_ _=>H0 LH,iN.2 ⟨λ_ _=>H0 OL,Ex ..⟩⟩⟩
  .exfalso;have h3:=Qj w j h2;have e:x.k.id=w.k.id:=e;rcases(c4 x hx).2 with aj|aj<;>omega
  .rw[nC];rcases(c4 w j).2 with aj|aj<;>omega
  .rw[nC];have:=Qj w j hc;simp only[id];omega
  .rw[kJ (c4 w j).1]at hp;cases hp
  .rw[nG];have:=cz.rr w j hp;rwa[im]at this
  .rw[kJ (c4 w j).1]at hp;cases hp
  .have:=cz.gt q hq;rw[im]at this;rw[nG];exact this
  have:=cz.gz;rw[im]at this;rw[nG];exact this
 have ao:=y_ ha;have ap:=y_ hb;have Q:iR M [A,m] M:=⟨rfl,rfl,rfl⟩;have Z:iR H [B,n] H:=⟨rfl,rfl,rfl⟩;have E:∀(z X:fG) (k:Nat),(z.take (k+1)++X++z.drop (k+1)).Perm (X++z):=λz X k=>by have h1:(z.take (k+1)++X++z.drop (k+1)).Perm (X++z.take (k+1)++z.drop (k+1)):=Ug _ G4;rw[lf X,jS]at h1;exact h1
 have MY:∀(z X:fG) (k:Nat),(z.take (k+1)++X++z.drop (k+1)).map aQ.p=dK (z.map aQ.p) (X.map aQ.p) k:=λz X k=>by rw[fL,fL,sC,vv]
 have fin:∀z',z'.Perm ([A,m,B,n]++r)->iR s z' s->gO F (z'.map aQ.p):=λz' h1 h2=>by
  refine j_.done (X:=[]) (L:=[]) (N:=[fW h]) qn cz.nd (λt ht=>cz.wit t ht) (by rw[Cj];exact h1) ⟨s,h2⟩ rfl ?_ (λ_ _ _=>rfl) (λw j=>by cases j) (rR.2 ⟨eD,qK⟩) (λt ht=>?_) (λt ht=>?_) (by rw[wI];exact cJ _) ?_
  .obtain⟨w,j,e⟩:=cz.one;rw[Cj];exact⟨w,uX _ j,e⟩
  .rw[mj]at ht;subst ht;simp
  .rw[mj]at ht;subst ht;refine⟨A,aE,?_⟩;show fW h=(nP l ba).l\/fW h=(nP l ba).r;cases l
   .exact .inl rfl
   exact .inr rfl
  rw[nC,bQ];have:=g.nw;simp only[ga,fP];omega
 split
 .rename_i aw
  let z1:=r.take (b+1)++[B,n]++r.drop (b+1)
  have am:z1[a]?=some (e_ h a):=by show(r.take (b+1)++[B,n]++r.drop (b+1))[a]?=_;rw[lf,s8 (by rw[jO,yy];omega),p_,aD J];exact ao
  have:=fin _ ((E z1 [A,m] a).trans (by show([A,m]++z1).Perm ([A,m]++([B,n]++r));exact List.Perm.append_left _ (E r [B,n] b))) (M5 (M5 hp ap Z) am Q)
  rw[MY,MY,vA]at this;exact this
 rename_i aw
 let z1:=r.take (a+1)++[A,m]++r.drop (a+1)
 have am:z1[b]?=some (e_ h b):=by show(r.take (a+1)++[A,m]++r.drop (a+1))[b]?=_;rw[lf,s8 (by rw[jO,yy];omega),p_,aD J];exact ap
 have:=fin _ ((E z1 [B,n] b).trans (by refine(List.Perm.append_left _ (E r [A,m] a)).trans ?_;rw[<-lf];exact(Ug r (G4)))) (M5 (M5 hp ao Q) am Z)
 rw[MY,MY,vA]at this;exact this
def Pq(g:bj F h){a b:Nat}(D:a<I h)(B:b<I h)(M:a≠b){l o:Bool}(z:s3 F h a b l o=some L):gO F L:=by
 have j:∀(f:Bool) e,(nP f (j8 h e)).l=ep h (if f then 2*e else 2*e+1):=λf e=>by cases f<;>rfl
 have n:∀m other:Bool,(m->(nP l (j8 h a)).l=(nP l (j8 h b)).l)->(other->(nP l (j8 h a)).l=(nP (!l) (j8 h b)).l)->uS h a b l o m other=some L->gO F L:=by
  intro m other u H v;unfold uS at v;split at v
  .cases v
  rename_i A;cases v;cases ae:m
  .have N:other:=by
    rw[ae]at A;revert A;cases other<;>simp
   have e:(false==l)= !l:=by cases l<;>rfl
   have:=adj g D B M (by split<;>simp) (by split<;>simp_all) (H N) (A1:=qe (aq U.ak h/2) 2 (-(if o==(!l)then 1 else -1)) o) rfl rfl (by
    have:(l== !l)=false:=by cases l<;>rfl
    rw[this];exact⟨rfl,rfl⟩)
   simp only[e];exact this
  have e:(true==l)=l:=by cases l<;>rfl
  have:=adj g D B M (by split<;>simp) (by split<;>simp_all) (u ae) (A1:=qe (aq U.ak h/2) 2 (-(if o==l then 1 else -1)) o) rfl rfl (by rw[sv];exact⟨rfl,rfl⟩)
  simp only[e];exact this
 have E:∀x y:Nat,((x:Int)==(y:Int))->x=y:=λx y z=>by have:=eq_of_beq z;omega
 unfold s3 at z;cases l
 .rw[aC aa,vn g J,vn g J,vn g J]at z;refine n _ _ (λu=>?_) (λH=>?_) z
  .rw[j,j];exact(E _ _ u).symm
  rw[j,j];exact(E _ _ H).symm
 rw[aD rfl,vn g J,vn g J,vn g J]at z;refine n _ _ (λu=>?_) (λH=>?_) z
 .rw[j,j];exact(E _ _ u).symm
 rw[j,j];exact(E _ _ H).symm
end
def Jn(q:aN->Bool):Prop:=∀p f:aN,p.l.kind=f.l.kind->q p=q f
theorem WJ{q:aN->Bool}(l:aW)(drop:Nat->aN->Bool):(oc l drop).countP q<=l.countP q:=by
 have f:∀k,k<=I l->(wc l drop k).countP q<=(l.take k).countP q:=by
  intro k
  induction k with
  |zero=>intro _;exact cJ _
  |succ k m=>
   intro j;obtain⟨p,hp⟩:=aP (h:=l) (k:=k) J;rw[k_,hp,uu];cases H:drop k p
   .rw[Nw hp H,uu]
    grind
   rw[EK hp H];omega
 have:=f (I l) (cJ _);rwa[jZ]at this
theorem Pk{q:aN->Bool}(h:Jn q){f:aN->aN}(hf:∀p,(f p).l.kind=p.l.kind)(l:aW):(l.map f).countP q=l.countP q:=by rw[qg];exact A5 λp _=>by rw[Function.comp_apply,h _ _ (hf p)]
theorem Ww(g A b:Int)(p:aN):(cW g A b p).l.kind=p.l.kind:=by unfold cW;split<;>rfl
def LM(ids:cL)(p:aN):(jn ids p).l.kind=p.l.kind:=by unfold jn;split<;>rfl
def I8{q:aN->Bool}(l x:aW)(k:Nat):(dK l x k).countP q=l.countP q+x.countP q:=by rw[uu,uu,Nat.add_right_comm,<-uu,jS]
section
variable {F:Nat} {h:af}
def amD(g:bj F h){q:aN->Bool}:∀(E:aG) (l:aW),I l=I h->(∀e∈E,e<I h)->(ef h l E).countP q=l.countP q:=by
 intro E
 induction E with
 |nil=>intro l _ _;rfl
 |cons e E f=>grind [ef,ub,Gg,C4]
def aex{q:aN->Bool}(H:Jn q)(l:aW)(i:Nat)(r:Int):(dY l i r).countP q=l.countP q:=by
 by_cases h:i<I l
 .obtain⟨p,hp⟩:=aP h;exact O5 hp λp=>H _ _ rfl
 unfold dY;rw[Qo J]
theorem awa{q:aN->Bool}(H:Jn q)(l:aW)(i:Nat)(g r:Int):(pF l i g r).countP q=l.countP q:=by
 by_cases h:i<I l
 .obtain⟨p,hp⟩:=aP h;unfold pF;have:=ax0 (p:=q) (y:={p with l:={p.l with gate:=g,au:=r}}) hp;rw[H {p with l:={p.l with gate:=g,au:=r}} p rfl]at this
  grind
 unfold pF;rw[Qo J]
def E7:aN:=⟨⟨1,0,0,0,0,false⟩,false⟩
def pZ:aN:=⟨⟨2,0,0,0,0,false⟩,false⟩
def E8(q:aN->Bool)(k:Int):Nat:=if k=2 then [E7,E7].countP q else if k=5 then [pZ,pZ].countP q else if k=7 then [pZ,pZ,pZ,pZ].countP q else 0
def akl(g:bj F h){q:aN->Bool}(n:Jn q){k:Int}{a b c:Nat}{l o:Bool}{sg:Int}(N:a<I h)(j:b<I h\/(k≠3/\k≠8))(B:c<I h\/k≠8)(H:mg F h k a b c l o sg=some L):L.countP q<=(an h).countP q+E8 q k:=by
 have O:=bY h;have two:∀x y:aN,x.l.kind=1->y.l.kind=1->[x,y].countP q=[E7,E7].countP q:=λx y D v=>by simp only[Di,R0];rw[n x E7 D,n y E7 v]
 have T:∀x y:aN,x.l.kind=2->y.l.kind=2->[x,y].countP q=[pZ,pZ].countP q:=λx y D v=>by simp only[Di,R0];rw[n x pZ D,n y pZ v]
 unfold mg at H;split at H
 .grind [n_,Pk,Ww,WJ]
 split at H
 .rename_i m;subst m;have e:E8 q 2=[E7,E7].countP q:=rfl;have E:∀f u,(uT h a b c f u).countP q=(an h).countP q+E8 q 2:=λf u=>by
   unfold uT;rw[I8,e];show(List.map _ _).countP q+_=_;rw[Pk n (Ww _ _ _),two _ _ rfl rfl]
  unfold ob at H;split at H
  .cases H;exact D_ (E _ _)
  split at H
  .cases H;exact D_ (E _ _)
  cases H
 split at H
 .rename_i m;subst m;unfold rb at H;split at H
  .cases H;rw[amD g _ _ (by rw[tf,tf,O]) (by
    intro e A;simp only[c7,eD,or_false]at A;rcases A with rfl|rfl
    .exact N
    rcases j with j|j
    .exact j
    exact absurd rfl j.1),aex n,aex n]
   omega
  cases H
 split at H
 .unfold qh at H;simp only at H;split at H
  .cases H;show(List.map _ _).countP q<=_;rw[Pk n (LM _)];have:=WJ (q:=q) (an h) (uR [((an h).getD a ⟨ij,false⟩).l.id]);omega
  cases H
 split at H
 .rename_i m;subst m;cases H;unfold oo;rw[I8,T _ _ rfl rfl];exact cJ _
 split at H
 .unfold oY at H;split at H
  .cases H;show(List.map _ _).countP q<=_;rw[Pk n (LM _)];have:=WJ (q:=q) (an h) (uR [(dE h a).l.id,(dE h (nx h a)).l.id]);omega
  cases H
 split at H
 .rename_i m;subst m;have e:E8 q 7=[pZ,pZ].countP q+[pZ,pZ].countP q:=by
   show [pZ,pZ,pZ,pZ].countP q=_;rw[<-uu];rfl
  have z:∀s t,uS h a b l o s t=some L->L.countP q<=(an h).countP q+E8 q 7:=λs t H=>by
   unfold uS at H;split at H
   .cases H
   simp only[iW]at H;subst H;have v:∀x sg o s,(j9 x sg o s).countP q=[pZ,pZ].countP q:=λx sg o s=>by unfold j9;split<;>exact T _ _ rfl rfl
   have M:∀x sg o,(j5 x sg o).countP q=[pZ,pZ].countP q:=λx sg o=>T _ _ rfl rfl;split
   .rw[I8,I8,v,M,e];omega
   rw[I8,I8,v,M,e];omega
  unfold s3 at H;split at H
  .exact z _ _ H
  exact z _ _ H
 split at H
 .rename_i m;subst m;unfold sk at H;split at H
  .cases H;rw[amD g _ _ O (by
    intro e A;simp only[c7,eD,or_false]at A;rcases A with rfl|rfl|rfl
    .exact N
    .rcases j with j|j
     .exact j
     exact absurd rfl j.2
    rcases B with B|B
    .exact B
    exact absurd rfl B)]
   omega
  cases H
 grind [th,awa,Pk,Ww,te]
def am9(g:bj F h)(k a b c:Int)(l o:Bool)(sg:Int):(∃e,e≠0/\sE F h k a b c l o sg=oX e)\/ ∃M,sE F h k a b c l o sg=mQ F M/\dk F M=0/\fC F h k a b c l o sg/\ ∃L,mg F h k a.toNat b.toNat c.toNat l o sg=some L/\M=aY L:=by
 unfold sE;cases H:fC F h k a b c l o sg
 .exact .inl ⟨2,aa,rfl⟩
 rw[aD rfl];cases m:mg F h k a.toNat b.toNat c.toNat l o sg with
 |none=>exact .inl ⟨4,aa,rfl⟩
 |some L=>
  unfold ui;by_cases Ao:(400:Int)<(I h:Int)+(gL k).1\/(100:Int)<((aq U.ak h/2:Nat):Int)+(gL k).2
  .exact .inl ⟨7,aa,aD Ao⟩
  refine .inr ⟨aY L,aC Ao,?_,rfl,L,rfl,rfl⟩;have X:=g.len;have eS:=g.cr;have hF:=g.fing;have nW:¬I h=0:=by have:=gy.2 (g.ne);omega
  have ff:aq U.ak h%2=0:=by have:=g.cz.ev;rwa[iX]at this
  have aX:=bY h;have kT:Jn (λ_=>true):=λ_ _ _=>rfl;have kC:Jn (λp=>p.l.ak):=λp p' ab=>by show(p.l.kind==2)=(p'.l.kind==2);rw[ab]
  have pC:(an h).countP (λp=>p.l.ak)=aq U.ak h:=by rw[<-Dl U.ak];show _=List.countP _ (List.map _ _);rw[qg];rfl
  have lC:aq U.ak (L.map aN.l)=L.countP (λp=>p.l.ak):=by show List.countP _ (List.map _ _)=_;rw[qg];rfl
  have T:∀l:aW,l.countP (λ_=>true)=I l:=λl=>aE;have fin:L=[]\/gO F L->(∀ {A B v:Nat},a=(A:Int)->b=(B:Int)->c=(v:Int)->A<I h->(B<I h\/(k≠3/\k≠8))->(v<I h\/k≠8)->dk F (aY L)=0):=by
   intro x A B v e1 e2 e3 f n y;subst e1 e2 e3;simp only[js]at m;have c1:=akl g kT f n y m;have Y:=akl g kC f n y m;rw[T,T,aX]at c1;rw[pC]at Y;have z:E8 (λ_=>true) k=(gL k).1.toNat/\0<=(gL k).1/\E8 (λp=>p.l.ak) k=2*(gL k).2.toNat/\0<=(gL k).2:=by
    unfold E8 gL;split
    .exact⟨rfl,aa,rfl,aa⟩
    split
    .exact⟨rfl,aa,rfl,aa⟩
    split
    .exact⟨rfl,aa,rfl,aa⟩
    exact⟨rfl,aa,rfl,aa⟩
   obtain⟨z,b2,b3,b4⟩:=z;rw[z]at c1;rw[b3]at Y;rcases x with rfl|x
   .unfold dk;have:aY []=[]:=rfl;rw[this];rw[aC (by simp[aq]),aC J,aD rfl]
   exact x.check J (by rw[lC];omega) hF
  unfold fC at H;by_cases O:k=1
  .subst O;simp only[Int.reduceEq,if_true,if_false,false_or,or_false,or_true,true_or,reduceIte,or_self]at H;simp only[cP,ke,c8]at H;obtain⟨rfl,rfl,rfl,j,rfl,rfl⟩:=H;obtain⟨A,rfl,f⟩:=jK j;exact fin (S3 g f (by simpa [mg]using m)) rfl rfl rfl f (.inr ⟨aa,aa⟩) (.inr aa)
  by_cases D:k=2
  .subst D;simp only[Int.reduceEq,if_true,if_false,false_or,or_false,or_true,true_or,reduceIte,or_self]at H;simp only[cP,uW,ke,c8,iJ]at H;obtain⟨rfl,rfl,rfl,j,iD,Mk,Mm,y⟩:=H;rcases j with j|⟨j,_⟩
   rotate_left
   .exact absurd j nW
   obtain⟨A,rfl,f⟩:=jK j;obtain⟨B,rfl⟩:=ns iD;obtain⟨v,rfl⟩:=ns Mm;rw[js]at y;exact fin (.inr (OR g (b:=B) (c:=v) f J J (by simpa [mg]using m))) rfl rfl rfl f (.inr ⟨aa,aa⟩) (.inr aa)
  by_cases h3:k=3
  .subst h3;simp only[Int.reduceEq,if_true,if_false,false_or,or_false,or_true,true_or,reduceIte,or_self]at H;simp only[cP,ke,c8,iJ]at H;obtain⟨rfl,rfl,rfl,j,rfl,u,aw⟩:=H;obtain⟨A,rfl,f⟩:=jK j;obtain⟨B,rfl,n⟩:=jK u;exact fin (.inr (PB g f n J (by simpa [mg]using m))) rfl rfl rfl f (.inl n) (.inr aa)
  by_cases E:k=4
  .subst E;simp only[Int.reduceEq,if_true,if_false,false_or,or_false,or_true,true_or,reduceIte,or_self]at H;simp only[cP,ke,c8]at H;obtain⟨rfl,rfl,rfl,j,rfl,rfl⟩:=H;obtain⟨A,rfl,f⟩:=jK j;exact fin (.inr (O7 g f (by simpa [mg]using m))) rfl rfl rfl f (.inr ⟨aa,aa⟩) (.inr aa)
  by_cases R:k=5
  .subst R;simp only[Int.reduceEq,if_true,if_false,false_or,or_false,or_true,true_or,reduceIte,or_self]at H;simp only[cP,uW,ke,c8]at H;obtain⟨rfl,ae,j,rfl,rfl⟩:=H;obtain⟨A,rfl,f⟩:=jK j;have:L=oo h A sg o:=by
    simp[mg]at m;exact m.symm
   subst this;exact fin (.inr (L5 g f ae)) rfl rfl rfl f (.inr ⟨aa,aa⟩) (.inr aa)
  by_cases h6:k=6
  .subst h6;simp only[Int.reduceEq,if_true,if_false,false_or,or_false,or_true,true_or,reduceIte,or_self]at H;simp only[cP,ke,c8,iJ]at H;obtain⟨rfl,rfl,rfl,j,rfl,u,aw⟩:=H;obtain⟨A,rfl,f⟩:=jK j;obtain⟨B,rfl,n⟩:=jK u;exact fin (.inr (Vy g f n (by simpa [mg]using m))) rfl rfl rfl f (.inr ⟨aa,aa⟩) (.inr aa)
  by_cases Q:k=7
  .subst Q;simp only[Int.reduceEq,if_true,if_false,false_or,or_false,or_true,true_or,reduceIte,or_self]at H;simp only[cP,ke,c8,mM]at H;obtain⟨rfl,j,rfl,u,aO⟩:=H;obtain⟨A,rfl,f⟩:=jK j;obtain⟨B,rfl,n⟩:=jK u;exact fin (.inr (Pq g f n J (by simpa [mg]using m))) rfl rfl rfl f (.inr ⟨aa,aa⟩) (.inr aa)
  by_cases Z:k=8
  .subst Z;simp only[Int.reduceEq,if_true,if_false,false_or,or_false,or_true,true_or,reduceIte,or_self]at H;simp only[cP,ke,c8,iJ]at H;obtain⟨rfl,rfl,rfl,j,u,hz,_⟩:=H;obtain⟨A,rfl,f⟩:=jK j;obtain⟨B,rfl,n⟩:=jK u;obtain⟨v,rfl,x⟩:=jK hz;exact fin (.inr (OM g f n x (by simpa [mg]using m))) rfl rfl rfl f (.inl n) (.inl x)
  by_cases h9:k=9
  .subst h9;simp only[Int.reduceEq,if_true,if_false,false_or,or_false,or_true,true_or,reduceIte,or_self]at H;simp only[cP,ke,c8]at H;obtain⟨rfl,rfl,rfl,j,rfl,rfl⟩:=H;obtain⟨A,rfl,f⟩:=jK j;exact fin (.inr (Og g f (by simpa [mg]using m))) rfl rfl rfl f (.inr ⟨aa,aa⟩) (.inr aa)
  by_cases N:k=10
  .subst N;simp only[Int.reduceEq,if_true,if_false,false_or,or_false,or_true,true_or,reduceIte,or_self]at H;simp only[cP,ke,c8]at H;obtain⟨rfl,rfl,rfl,j,rfl,rfl⟩:=H;obtain⟨A,rfl,f⟩:=jK j;exact fin (.inr (Nz g f (by simpa [mg]using m))) rfl rfl rfl f (.inr ⟨aa,aa⟩) (.inr aa)
  simp[O,D,h3,E,R,h6,Q,Z,h9,N]at H
end

def gi(F:Nat)(h:af)(m:dJ):Option af:=
 if h=[]then if fC F [] m.k m.a m.b m.c m.l m.o m.s=true then some (nq m.b.toNat)else none
 else if fC F h m.k m.a m.b m.c m.l m.o m.s=true then match mg F h m.k m.a.toNat m.b.toNat m.c.toNat m.l m.o m.s with
  |none=>none
  |some M=>if(400:Int)<(I h:Int)+(gL m.k).1\/(100:Int)<((aq U.ak h/2:Nat):Int)+(gL m.k).2 then none else some (aY M)
 else none
def aj7{L:af}{e:Int}(H:e≠0):mQ F L≠oX e:=λh=>by unfold mQ oX at h;simp only[RV.tup.injEq,OY,RV.one.injEq,nm.p.injEq,PV.int.injEq,and_true,true_and]at h;exact H h.2.symm
abbrev ajX(F:Nat)(ms:fM):Prop:=∀(L:af) (m:dJ),m∈ms->dk (F:Int) L=0->(∃L',gi F L m=some L'/\dk (F:Int) L'=0/\I L'<=I L+4/\aL S 7 [eU F L,Cl m] (mQ F L'))\/(gi F L m=none/\ ∃e,e≠0/\aL S 7 [eU F L,Cl m] (oX e))
def od(F:Nat):af->fM->Option af
 |h,[]=>some h
 |h,M::m=>match gi F h M with
  |none=>none
  |some L=>od F L m
def ack{L:af}(M:dJ)(H:od F h m=some L):od F h (m++[M])=gi F L M:=by
 induction m generalizing h with
 |nil=>have e:h=L:=kA H;rw[<-e];show(match gi F h M with|none=>none|some L=>some L)=_;cases gi F h M<;>rfl
 |cons a r j=>
  show(match gi F h a with|none=>none|some L=>od F L (r++[M]))=_;have H:(match gi F h a with|none=>none|some L=>od F L r)=some L:=H;cases f:gi F h a with
  |none=>rw[f]at H;cases H
  |some ba=>rw[f]at H;exact j H
def aua{r:fM}(H:od F h m=none):od F h (m++r)=none:=by
 induction m generalizing h with
 |nil=>cases H
 |cons a q j=>
  show(match gi F h a with|none=>none|some L=>od F L (q++r))=_;have H:(match gi F h a with|none=>none|some L=>od F L q)=none:=H;cases f:gi F h a with
  |none=>rfl
  |some ba=>rw[f]at H;exact j H
def ax5(dF:yG){F:Nat}(sM:ajX F m)(h0:dk (F:Int) h=0)(hl:I h<=1000)(hm:I m<=1000):∃r,((od F h m=none/\XJ r)\/ ∃L,od F h m=some L/\dk (F:Int) L=0/\Oj F L (I m) r/\(m≠[]->r=.tup [.agg [.p (.int .i64 F),cU ml 6 (cX L)],.one (.p (.int .i64 (I m))),.one (.p (.int .i64 0))]))/\aL S 13 [eU F h,.one (.p (Gq m))] r:=by
 have pc:=Wt F h J;rw[h0]at pc;have kQ:S.lone 832256128=false:=ah;have n9:S.lone 832512128=false:=ah;have loop:∀(A:bJ) (blk:aJ),A 1=.one (.p (Gq m))->A 2=.one (.bR 832000000 1 0)->A 4=.one (.bR 832000064 1 0)->blk 832000064=(1,some (.var [.p (.int .i64 0),.p .nils]))->
   (∃c,blk 832000000=(1,some (.var [.p (.int .i64 F),c]))/\EI h c blk)->A 22=.one (.p (Gq m))->A 23=aI (I m)->A 24=aI 0->
   W S .all (.loop LZ) (rM 0 (Bv S .all acF (sW .all Jg.results λv blk=>∃r,((od F h m=none/\XJ r)\/ ∃L,od F h m=some L/\dk (F:Int) L=0/\Oj F L (I m) r/\(m≠[]->r=.tup [.agg [.p (.int .i64 F),cU ml 6 (cX L)],.one (.p (.int .i64 (I m))),.one (.p (.int .i64 0))]))/\lM blk v=some r))) A blk:=by
  intro A blk u H f bB PC x M j;refine dt (λk A blk=>A 1=.one (.p (Gq m))/\A 2=.one (.bR 832000000 1 0)/\A 4=.one (.bR 832000064 1 0)/\A 22=.one (.p (Gq m))/\A 23=aI (I m)/\A 24=aI k/\blk 832000064=(1,some (.var [.p (.int .i64 0),.p .nils]))/\
   ∃L c,I L<=I h+4*k/\blk 832000000=(1,some (.var [.p (.int .i64 F),c]))/\EI L c blk/\(0<k->bh 832512129 ml 6 (cX L) (.one c) blk)/\od F h (m.take k)=some L/\dk (F:Int) L=0) 0 (I m) (bZ _) ?_ ?_
  .obtain⟨c,e1,e2⟩:=PC;exact⟨u,H,f,x,M,j,bB,h,c,cJ _,e1,e2,λag=>absurd ag (Nat.lt_irrefl _),rfl,h0⟩
  rintro k A blk hk ⟨u,H,f,x,M,j,bB,L,c,hL,B,z,Hk,Z,D⟩
  by_cases R:k<I m
  .have aM:((k:Int)<(I m:Int)):=J;obtain⟨O,X⟩:=aP R;have vE:=DG X;have w1:=cS (n:=k) J;have jB:EI L c (dV (dV blk 832448192 ((blk 832448192).1+1,some (.var [.p (.int .i64 0),.p (.int .i64 0),.p (.int .i64 0),.p (.int .i64 0),.p (.bool false),.p (.bool false),.p (.int .i64 0)]))) 832448192 ((blk 832448192).1+1,some (.var [.p (.int .i64 O.k),.p (.int .i64 O.a),.p (.int .i64 O.b),.p (.int .i64 O.c),.p (.bool O.l),.p (.bool O.o),.p (.int .i64 O.s)]))):=
    z.of_eq ((ct aa).trans (ct aa)) ((ct aa).trans (ct aa))
   obtain⟨rd,sR⟩:=jB.snap;have l8:m.take (k+1)=m.take k++[O]:=by obtain⟨hl,e⟩:=bt.1 X;rw[<-e,List.take_append_getElem]
   have N:=ack O Z;rw[<-l8]at N;rcases sM L O (a7 X) D with⟨L2,ad,T,Mx,Y⟩|⟨hn,e,he,Y⟩
   .rw[ad]at N;simp only[go_sem,LZ,u,H,f,x,M,j,bB,B,R,aM,vE,dJ.ps,w1,sR,LP];refine avQ Y n9 rfl rfl (Ih _) λcc de y hb=>?_;have q0:=hb 832000000 aa;have q1:=hb 832000064 aa;simp only[go_sem,B,bB]at q0 q1;simp only[go_sem,u,H,f,x,M,j,q0,q1,w1];have y:bh 832512129 ml 6 (cX L2) (.one cc) de:=y;exact⟨R,L2,cc,J,rfl,.inr (.inl (y.of_eq ((ct aa).trans ((ct aa).trans (ct aa))))),λ_=>y.of_eq ((ct aa).trans ((ct aa).trans (ct aa))),N,T⟩
   have Am:(e==0)=false:=by simpa using he
   rw[hn]at N;have eI:od F h m=none:=by have:=aua (r:=m.drop (k+1)) N;rwa[jS]at this
   simp only[go_sem,LZ,u,H,f,x,M,j,bB,B,R,aM,vE,dJ.ps,w1,sR,LP,bne,Am];refine(cE Y ajD).2 ?_;simp only[go_sem,u,H,f,x,M,j,bB,B,bne,Am,Jg];exact⟨_,.inl ⟨eI,k,e,he,rfl⟩,rfl⟩
  have:k=I m:=J;subst this;rw[jZ]at Z;simp only[go_sem,LZ,acF,u,H,f,x,M,j,bB,B,fF,Jg];by_cases E:0<I m
  .exact⟨_,.inr ⟨L,Z,D,.inl rfl,λ_=>rfl⟩,ab2 ((Hk E).of_eq (ct aa))⟩
  have hz:¬m≠[]:=λag=>E (gy.2 ag);rcases z with z|z|⟨rfl,rfl⟩
  .exact⟨_,.inr ⟨L,Z,D,.inl rfl,λ_=>rfl⟩,ab2 (z.of_eq (ct aa))⟩
  .exact⟨_,.inr ⟨L,Z,D,.inl rfl,λ_=>rfl⟩,ab2 (z.of_eq (ct aa))⟩
  exact⟨_,.inr ⟨[],Z,D,.inr ⟨rfl,rfl⟩,λag=>absurd ag hz⟩,rfl⟩
 by_cases aO:h=[]
 .subst aO;have ab:aL S 8 [.agg [.p (.int .i64 F),.p (.sl [])]] (jr 0):=pc;refine AQ rfl adV (ju rfl) ?_;simp only[go_sem,Jg,RG,gr ab,M9,cE dF W6];refine loop _ _ ?_ ?_ ?_ ?_ ⟨_,?_,.inr (.inr ⟨rfl,rfl⟩)⟩ ?_ ?_ ?_;all_goals first|rfl|(simp only[go_sem];done)|(simp only[go_sem];rfl)
 have ac:=Y2 aO J;refine AQ rfl adV (ju rfl) ?_;simp only[go_sem,Jg,RG,gr pc,M9];refine nI ac kQ (.inl rfl) λcc mq y iD=>?_;have b0:=iD 832000000 aa;have Q:=iD 832000064 aa;simp only[go_sem]at b0 Q;simp only[go_sem,b0,Q];refine loop _ _ ?_ ?_ ?_ ?_ ⟨_,?_,.inl (y.of_eq (ct aa))⟩ ?_ ?_ ?_;all_goals first|rfl|(simp only[go_sem,Q];done)|(simp only[go_sem,Q];rfl)
def as2(D:yG){F:Nat}(v:ajX F m)(u:dk (F:Int) h=0)(hl:I h<=1000)(H:I m<=1000):∃r,((od F h m=none/\XJ r)\/ ∃L,od F h m=some L/\dk (F:Int) L=0/\Oj F L (I m) r)/\aL S 13 [eU F h,.one (.p (Gq m))] r:=by
 obtain⟨r,f,pr⟩:=ax5 D v u hl H;refine⟨r,?_,pr⟩;rcases f with f|⟨L,n,j,x,_⟩
 .exact .inl f
 exact .inr ⟨L,n,j,x⟩
end
end Go.Abs
