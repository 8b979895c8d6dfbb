/- A part. -/
import Derived.Test.YtgjjncbeombnbaaGreatDoorWp
set_option linter.all false
open List renaming length->I
set_option maxRecDepth 100000
set_option maxHeartbeats 16000000
namespace Go.Abs
variable{j:fO}{h u:Int->Int}{f:aK->aK}{m:aC}
def ti(x:dh):PV:=if x=[]then .nils else .sl x
def AQ(x:dh):(ti x).norm=.sl x:=by
 unfold ti;by_cases h:x=[]
 .rw[an h,h];rfl
 rw[ai h];rfl
def Z_{blk:aG}{s T z:Nat}{E:dh}(lo:S.lone s):fR blk [] s ((RV.one (cP T z E)).ib (S.lone s))=some (.one (.p (ti E)),[]):=by
 rw[lo];unfold cP ti;by_cases h:E=[]
 .rw[an h,an h];rfl
 rw[ai h,ai h];rfl
section
variable {F:Nat} {L:af}
abbrev P0(k:Int)(a b:Nat):dG:=⟨k,a,b,0,false,false,0⟩
abbrev UA(k:Int)(a b c:Nat):dG:=⟨k,a,b,c,false,false,0⟩
def IA{k a b c sg:Int}{l o:Bool}(j:k=3\/k=6):eZ F L k a b c l o sg↔ ∃A B:Nat,A<B/\B<I L/\a=A/\b=B/\c=0/\l=false/\o=false/\sg=0:=by
 unfold eZ;rcases j with rfl|rfl
 all_goals
  simp;constructor
  .rintro ⟨rfl,rfl,rfl,f,rfl,h,n⟩
   obtain⟨A,rfl,m⟩:=jb f;obtain⟨B,rfl,H⟩:=jb h;exact⟨A,B,J,H,rfl,rfl,rfl,rfl,rfl,rfl⟩
  grind [nk]
def UJ{a b c sg:Int}{l o:Bool}:eZ F L 8 a b c l o sg↔ ∃A B f:Nat,A<B/\B<f/\f<I L/\a=A/\b=B/\c=f/\l=false/\o=false/\sg=0:=by
 unfold eZ;simp only[Int.reduceEq,if_true,if_false,or_self,cN,ke,cW,jn];constructor
 .rintro ⟨rfl,rfl,rfl,H,h,m,x,n⟩
  obtain⟨A,rfl,v⟩:=jb H;obtain⟨B,rfl,u⟩:=jb h;obtain⟨f,rfl,j⟩:=jb m;exact⟨A,B,f,J,J,j,rfl,rfl,rfl,rfl,rfl,rfl⟩
 grind [nk]
def agA{pl a b:Nat}{m:Int}(D:a<b)(h:mI F L pl [a,b] a)(ae:∀v,v<2->kA m a (gv F L (2*a+v)).cT j)(H:m≠8):P0 m a b∈j:=by
 have n:∀f:c9,wg f pl [a,b]->kA m a f.cT j->P0 m a b∈j:=λf hf ae=>by
  unfold wg at hf;simp at hf;obtain⟨u,_,x⟩:=hf;have E:∀e∈[a,b],∃d∈f.cT,d/2=e:=λe y=>by grind [wa,zm]
  exact ae.1 H b D u (E a aH) (E b aH)
 unfold mI at h;rw[qZ]at h;rcases h with h|h
 .exact n _ h (ae 0 aa)
 grind
def asB{pl a b c:Nat}(D:a<b)(n:b<c)(h:mI F L pl [a,b,c] a)(ae:∀u,u<2->kA 8 a (gv F L (2*a+u)).cT j):UA 8 a b c∈j:=by
 have m:∀f:c9,wg f pl [a,b,c]->kA 8 a f.cT j->UA 8 a b c∈j:=λf hf ae=>by
  unfold wg at hf;simp at hf;obtain⟨H,_,v⟩:=hf;have E:∀e∈[a,b,c],∃d∈f.cT,d/2=e:=λe x=>by grind [wa,zm]
  exact ae.2 rfl b c D n H (E a aH) (E b aH) (E c aH)
 unfold mI at h;rw[qZ]at h;rcases h with h|h
 .exact m _ h (ae 0 aa)
 grind
end
def asX(k:Int):Int:=if k=1\/k=4\/k=6\/k=9 then k+1 else if k=2\/k=5\/k=7\/k=10 then k-1 else if k=3\/k=8 then k else 0
def gL(p:aK):aK:=⟨p.l,p.l.aw&& !p.d⟩
def ep(P:aU):aU:=(P.reverse).map gL
def dp.rev{α:Type}{a b:List α}(h:dp a b):dp a.reverse b.reverse:=by obtain⟨u,v,rfl,rfl⟩:=h;exact⟨v.reverse,u.reverse,aH,aH⟩
def dp.ep{P Q:aU}(h:dp P Q):dp (ep P) (ep Q):=h.rev.map _
def Ay(P Q:aU):Prop:= ∃(r:Bool) (h:Int->Int),inj h (P.map aK.l)/\dp ((if r=true then ep P else P).map (cO h)) Q
section
variable {F:Nat} {L M:af} {P Q:aU}
def arV{α:Type}{a b:List α}(h:dp a b)(H:0<I a):∃i,i<I a/\ ∀x,x<I a->b[x]?=a[(i+x)%I a]? :=by
 obtain⟨u,v,rfl,rfl⟩:=h;rw[fU]at H |-;by_cases f:v=[]
 .subst f;simp only[gk,uX,i_,fz]at H |-;exact⟨0,H,λx j=>by rw[jO,eN j]⟩
 have:=gA.2 f;refine⟨I u,J,λx j=>?_⟩;by_cases c:x<I v
 .rw[sC c,eN J,o_ J];congr 1;omega
 rw[o_ J,Mk J,eN J,sC J];congr 1;omega
def Gc(P:aU):I (ep P)=I P:=by unfold ep;rw[bG,qB]
def Uq{k:Nat}(h:k<I P):(ep P)[k]?=(P[I P-1-k]?).map gL:=by unfold ep;rw[dy,Gb h]
def apB(g:a_ F L)(hf:inj h L)(E:fP F Q)(r:dp ((ep (aA L)).map (cO h)) Q):jo (cL Q) L:=by
 obtain⟨f,z,B,O,⟨Z,Y,Pg,D⟩,_⟩:=Gh E;have H:=r.len;rw[bG,Gc,cZ]at H;rw[<-H]at z B O;have n:0<I L:=J;obtain⟨i,N,get⟩:=arV r (by rw[bG,Gc,cZ];exact n);rw[bG,Gc,cZ]at N get;have get:∀x,x<I L->Q[x]?=((aA L)[I L-1-(i+x)%I L]?).map λp=>cO h (gL p):=λx u=>by have v:=cJ (i+x) n;rw[get x u,dy,Uq (by rw[cZ];exact v),cZ,Option.map_map];rfl
 have X:(i+f)%I L<I L:=cJ _ n;have m:I L.reverse=I L:=qB;have e:cL Q=(fh L.reverse ((i+f)%I L)).map (dk h):=by
  apply nj;intro k;by_cases A:k<I L
  .have v:(i+f+k)%I L<I L:=cJ _ n;rw[B k A,get _ (cJ _ n),dy,Hk (by rw[m];exact X) (by rw[m];exact A),m,F7,<-yQ,vT,Gb v];obtain⟨l,hl⟩:=aM (h:=L) (k:=I L-1-(i+f+k)%I L) J;rw[gZ hl,hl];rfl
  rw[kQ J,kQ (by rw[bG,t_,m];omega)]
 have R:au U.aw L.reverse%2=0:=by rw[Ab];exact g.even
 rw[e];refine(PT λx u y M=>hf x (yW.1 (CU.1 u)) y (yW.1 (CU.1 M))).trans ((J4 (by rw[m];omega) R ?_).trans af4);rw[get f z]at Y;obtain⟨l,hl⟩:=aM (h:=L) (k:=I L-1-(i+f)%I L) J;rw[gZ hl]at Y;have T:=ld Y;have j:(l.aw&& !dw L (I L-1-(i+f)%I L)):=by rw[<-T]at D;exact D
 rw[cN,ke]at j;rw[O5 hl j.1]at j;have:=adh g.even hl j.1;rw[j.2,show I L-1-(I L-1-(i+f)%I L)=(i+f)%I L by omega]at this;unfold Go.Abs.dn at this;exact cW.1 this
def Ay.jo(e:Ay P Q)(f_:fP F P)(m:fP F Q)(z:dM (F:Int) (cL P)=0)(u:∀p∈P,p.l.aw=false->p.d=false):jo (cL Q) (cL P):=by
 obtain⟨r,h,f,t⟩:=e;obtain⟨eY,T⟩:=ax1 f_ z u;have H:inj h (cL P):=by
  have n:∀x∈cL P,x∈P.map aK.l:=λx j=>by obtain⟨i,f⟩:=fX j;have:=aX (gZ f);exact cD.2 ⟨_,T.perm.mem_iff.2 this,rfl⟩
  exactλx j y v=>f x (n x j) y (n y v)
 cases r with
 |false=>rw[ai aa]at t;exact ayo eY H m ((T.map _).symm.trans t)
 |true=>rw[an rfl]at t;exact apB eY H m ((T.ep.map _).symm.trans t)
end
section
variable {F:Nat} {L M:af} {P Q:aU} {r:Bool} {s t:Nat->Nat}
def adZ{α:Type}{a b:List α}{i:Nat}(f:i<I a)(hl:I b=I a)(h:∀x,x<I a->b[x]?=a[(i+x)%I a]?):dp a b:=by
 refine⟨a.take i,a.drop i,(jC i a).symm,?_⟩;apply nj;intro x;by_cases H:x<I a
 .rw[h x H,M1 f H]
 rw[kQ J,kQ (by rw[fU,pS,jw];omega)]
def cM.SZ(i:cM F L M r s t):∃h:Int->Int,Go.Abs.inj h L/\(∀x∈L,x.aq->1<=h x.id/\h x.id<=((au U.aq L/2:Nat):Int))/\dp ((if r=true then ep (aA L)else aA L).map (cO h)) (aA M)/\(∀v l,L[v]?=some l->l.aq->∃m,M[s v]?=some m/\m.id=h l.id)/\ ∀v,v<I L->(aA M)[s v]?=((aA L)[v]?).map λp=>cO h (if r=true then gL p else p):=by
 have hn:0<I L:=gA.2 i.g.ne;have T:=i.zW 0 hn;obtain⟨h,hh⟩:=aay (P:=aA L) (Q:=aA M) (s:=s) λu v p p' q q' hp eo hq mw cp pz=>by have a1:=(EW hp).1;have a2:=(EW eo).1;have a3:=(EW hq).1;have a4:=(EW mw).1;exact i.ids u v p.l p'.l q.l q'.l a1 a2 a3 a4 cp pz
 have wY:au U.aq M=au U.aq L:=i.cn _ λl m h1 _=>by unfold U.aq;rw[h1]
 have N:∀v l,L[v]?=some l->l.aq->∃m,M[s v]?=some m/\m.id=h l.id:=λv l hl j=>by obtain⟨m,H,_⟩:=i.at_ v l hl;exact⟨m,H,hh v _ _ (gZ hl) (gZ H) j⟩
 have mY:Go.Abs.inj h L:=λx f y hy kx ky e=>by
  obtain⟨u,z⟩:=fX f;obtain⟨v,B⟩:=fX hy;have cx:x.aq:=by unfold U.aq;rw[kx];rfl
  have cy:y.aq:=by unfold U.aq;rw[ky];rfl
  obtain⟨X,D,Z⟩:=N u x z cx;obtain⟨my,R,ey⟩:=N v y B cy;exact(i.ids u v x y X my z B D R cx cy).1 (by rw[Z,ey,e])
 have piece:∀v,v<I L->(aA M)[s v]?=((aA L)[v]?).map λp=>cO h (if r=true then gL p else p):=λv B=>by
  obtain⟨l,hl⟩:=aM B;obtain⟨m,H,h1,h2,h3,h4,h5⟩:=i.at_ v l hl;rw[gZ H,gZ hl];show some _=some _;congr 1;have Y:m=dk h l:=by
   obtain⟨g1,g2,g3,g4,g5,g6⟩:=ahf h l;have Wp:m.id=(dk h l).id:=by
    cases j:l.aq with
    |true=>rw[g6 j];exact hh v _ _ (gZ hl) (gZ H) j
    |false=>
     have hp:l.aw:=by
      rcases i.g.ok.kinds l (aX hl)with h|h
      .exact h
      rw[j]at h;cases h
     rw[Pe j];have b1:=(kL hp).1 (i.g.bad l (aX hl));have A:m.aw:=(i.aw hl H).1.trans hp;have b2:=(kL A).1 (i.g'.bad m (aX H));rw[b2.1.1.2,b1.1.1.2]
   have Wj:∀a b:U,a.kind=b.kind->a.gate=b.gate->a.ao=b.ao->a.id=b.id->a.sign=b.sign->a.over=b.over->a=b:=λa b=>by cases a;cases b;simp only[U.mk.injEq];intros;simp_all
   exact Wj _ _ (h1.trans g1.symm) (h2.trans g2.symm) (h3.trans g3.symm) Wp (h4.trans g4.symm) (h5.trans g5.symm)
  have Kj:dw M (s v)=if r=true then(l.aw&& !dw L v)else dw L v:=by
   have A:=(i.aw hl H).1;cases hp:l.aw with
   |true=>rw[O5 H (A.trans hp),O5 hl hp,i.dwn v l hl hp];cases r<;>cases dn L v<;>rfl
   |false=>
    have z1:dw M (s v)=false:=by unfold dw;rw[H];show(m.aw&&_)=false;rw[A,hp];rfl
    have z2:dw L v=false:=by unfold dw;rw[hl];show(l.aw&&_)=false;rw[hp];rfl
    rw[z1,z2];cases r<;>rfl
  rw[Y,Kj];cases r<;>rfl
 refine⟨h,mY,λx f j=>?_,?_,N,piece⟩
 .obtain⟨u,z⟩:=fX f;obtain⟨X,D,Z⟩:=N u x z j;have cm:X.aq:=(i.aw z D).2.1.trans j;have:=RJ i.g' (aX (gZ D)) cm;rw[wY]at this;rw[<-Z];exact this
 have get:∀k,k<I L->(aA M)[k]?=((aA L)[t k]?).map λp=>cO h (if r=true then gL p else p):=λk E=>by have:=piece (t k) (i.zW k E);rwa[i.st k E]at this
 have ta:∀k,k<I L->t k=if r=true then(t 0+I L-k)%I L else(t 0+k)%I L:=λk E=>by have:=i.TE hn k J;rwa[jO,eN E]at this
 have n:I (aA M)=I L:=by rw[cZ,i.len]
 cases hr:r with
 |false=>rw[ai aa];refine adZ (i:=t 0) (by rw[bG,cZ];exact T) (by rw[bG,cZ,cZ];exact i.len) λx f=>?_;rw[bG,cZ]at f |-;rw[get x f,ta x f,hr,ai aa,dy];rfl
 |true=>
  rw[an rfl];have O:I ((ep (aA L)).map (cO h))=I L:=by rw[bG,Gc,cZ]
  refine adZ (i:=I L-1-t 0) (by rw[O];omega) (by rw[O];exact n) λx f=>?_;rw[O]at f |-;have H:(I L-1-t 0+x)%I L<I L:=cJ _ hn;rw[get x f,ta x f,hr,an rfl,dy,Uq (by rw[cZ];exact H),cZ,Option.map_map];have:(t 0+I L-x)%I L=I L-1-(I L-1-t 0+x)%I L:=by rw[An J,An (a:=I L-1-t 0+x) J];split<;>split<;>omega
  rw[this];rfl
def cM.CA(i:cM F L M r s t):∃h:Int->Int,Go.Abs.inj h L/\(∀x∈L,x.aq->1<=h x.id/\h x.id<=((au U.aq L/2:Nat):Int))/\dp ((if r=true then ep (aA L)else aA L).map (cO h)) (aA M):=by obtain⟨h,f,H,j,_⟩:=i.SZ;exact⟨h,f,H,j⟩
end
def FG(h:Int->Int)(x:U):(dk h x).kind=x.kind/\(dk h x).gate=x.gate/\(dk h x).ao=x.ao/\(dk h x).sign=x.sign/\(dk h x).over=x.over:=by unfold dk;split<;>exact⟨rfl,rfl,rfl,rfl,rfl⟩
def Qh(h:Int->Int){x:U}(H:x.aq):(dk h x).id=h x.id:=by have f:(x.kind==2):=H;unfold dk;rw[f];rfl
def W1(G a b:Int)(h:Int->Int)(p:aK):ch G a b (cO h p)=cO h (ch G a b p):=by
 obtain⟨j,f,H,_⟩:=FG h p.l;have e:∀c:Bool,(if c=true then(⟨{dk h p.l with ao:=(dk h p.l).ao+b},p.d⟩:aK)else⟨dk h p.l,p.d⟩)=cO h (if c=true then{p with l:={p.l with ao:=p.l.ao+b}}else p):=λc=>by
  cases c
  .rfl
  unfold cO;rw[an rfl,an rfl,H];congr 1;unfold dk;cases p.l.kind==2<;>rfl
 have:=e ((p.l.kind==1)&&((p.l.gate==G)&&decide (a<p.l.ao)));unfold ch;show(if((dk h p.l).kind==1)&&(((dk h p.l).gate==G)&&decide (a<(dk h p.l).ao))then(⟨{dk h p.l with ao:=(dk h p.l).ao+b},p.d⟩:aK)else⟨dk h p.l,p.d⟩)=_;rw[j,f,H];rw[H]at this;exact this
def X1(G a b:Int)(p:aK):ch G a b (gL p)=gL (ch G a b p):=by unfold ch gL;show(if(p.l.kind==1)&&((p.l.gate==G)&&decide (a<p.l.ao))then _ else _)=_;split<;>rfl
def QY(h:Int->Int)(p:aK):gL (cO h p)=cO h (gL p):=by
 unfold gL cO;have:(dk h p.l).aw=p.l.aw:=by unfold U.aw;rw[(FG h p.l).1]
 rw[this]
def Lf(hf:∀p,f (gL p)=gL (f p))(P:aU):ep (P.map f)=(ep P).map f:=by unfold ep;rw[<-LF,gi,gi];exact kD λp _=>(hf p).symm
section
variable {F:Nat} {L M:af} {P Q:aU} {r:Bool} {s t:Nat->Nat}
def ajc{A B w:aU}{x y:aK}(f:dp A (x::y::w))(H:dp ((if r=true then ep A else A).map (cO h)) B):dp (cO h (if r=true then gL y else x)::cO h (if r=true then gL x else y)::(if r=true then ep w else w).map (cO h)) B:=by
 cases r with
 |false=>rw[ai aa]at H;exact(f.map (cO h)).symm.trans H
 |true=>rw[an rfl]at H;refine dp.trans ?_ ((f.ep.map (cO h)).symm.trans H);rw[an rfl,an rfl,an rfl];refine⟨[cO h (gL y),cO h (gL x)],(ep w).map (cO h),rfl,?_⟩;unfold ep;simp
def cM.BO(i:cM F L M r s t):au U.aq M=au U.aq L:=i.cn _ λl m h _=>by unfold U.aq;rw[h]
def cM.DE(i:cM F L M r s t):au U.aw M=au U.aw L:=i.cn _ λl m h _=>by unfold U.aw;rw[h]
def awm(a b:Int):hU a b=hU b a:=by unfold hU;split<;>split<;>omega
def as9(a b:Int):m_ a b=m_ b a:=by unfold m_;split<;>split<;>omega
def atU(u:Go.Abs.inj h L){P:aU}(hp:∀p∈P,∃l∈L,p.l.kind=l.kind/\p.l.id=l.id):Go.Abs.inj h (P.map aK.l):=λx v y f j z e=>by obtain⟨p,n,rfl⟩:=cD.1 v;obtain⟨q,H,rfl⟩:=cD.1 f;obtain⟨l,hl,E,F⟩:=hp p n;obtain⟨m,A,B,D⟩:=hp q H;rw[F,D]at e |-;exact u l hl m A (E▸j) (B▸z) e
def ru{p:aK}(h:p∈aA L):p.l∈L:=by obtain⟨v,H⟩:=fX h;exact aX (EW H).1
def ah7{l:aU}{a:Nat}(h:a<I l)(H:2<=I l){p q:aK}{w:aU}(e:l.drop a++l.take a=p::q::w):dp w (kW l λk _=>decide (k=a)||decide (k=(a+1)%I l)):=by obtain⟨u,v,k1,k2⟩:=Yi h H e;rw[k1,k2];exact⟨v,u,rfl,rfl⟩
def cM.k1(i:cM F L M r s t){a:Nat}(Y:a<I L)(h:qc L a=some P)(vX:dM (F:Int) (cL P)=0):∃A Q,A<I M/\qc M A=some Q/\jo (cL Q) (cL P):=by
 obtain⟨H,mY,_,hR⟩:=i.CA;obtain⟨x0,y0,r0,s0,_,hx,hy,_,_,R,_,_,iV⟩:=MS i.g Y;have nN:2<=I L:=by have:=iV.length_eq;rw[xQ]at this;simp only[fG]at this;omega
 rw[eQ,eQ]at R;generalize r0.map aT.p=w at R;generalize x0.p=x at*;generalize y0.p=y at*;have n:=h;unfold qc at n;have e1:(aA L).getD a ⟨ga,false⟩=x:=by rw[dz,hx];rfl
 have e2:(aA L).getD ((a+1)%I L) ⟨ga,false⟩=y:=by rw[dz,hy];rfl
 simp only[e1,e2]at n;split at n
 case isFalse=>cases n
 rename_i hc;have wV:=(ld n).symm;simp only[cN,cW]at hc;obtain⟨iT,pG,jK,j5,RO⟩:=hc;have hA:dp (aA L) (x::y::w):=by rw[<-R];exact Ct _ _
 have hB:=ajc hA hR;obtain⟨A,D,q1,q2,q3⟩:=hB.at2;have ac:2<=I (aA M):=by rw[cZ,i.len];exact nN
 have T:=ah7 D ac q3;rw[cZ]at D q2 T;have z:=ah7 (l:=aA L) (a:=a) (by rw[cZ];exact Y) (by rw[cZ];exact nN) R;rw[cZ]at z;have Z:∀p:aK,(cO H p).l.kind=p.l.kind/\(cO H p).l.gate=p.l.gate/\(cO H p).l.ao=p.l.ao:=λp=>by obtain⟨j,B,X,_⟩:=FG H p.l;exact⟨j,B,X⟩
 have u:qc M A=some (eL (kW (aA M) λk _=>decide (k=A)||decide (k=(A+1)%I M)) x.l.gate (hU x.l.ao y.l.ao) (-2)):=by
  have f1:(aA M).getD A ⟨ga,false⟩=cO H (if r=true then gL y else x):=by rw[dz,q1];rfl
  have f2:(aA M).getD ((A+1)%I M) ⟨ga,false⟩=cO H (if r=true then gL x else y):=by rw[dz,q2];rfl
  unfold qc;simp only[f1,f2,(Z _).1,(Z _).2.1,(Z _).2.2,i.DE,i.BO];cases r with
  |false=>simp only[gJ,if_false];rw[an (by simp only[cN,cW];exact⟨iT,pG,jK,j5,RO⟩)]
  |true=>have z1:(gL y).l=y.l:=rfl;have z2:(gL x).l=x.l:=rfl;simp only[if_true,z1,z2];rw[awm y.l.ao,as9 y.l.ao,<-jK];rw[an (by simp only[cN,cW];exact⟨pG,iT,trivial,j5,RO⟩)]
 refine⟨A,_,D,u,?_⟩;have m:dp (w.map (ch x.l.gate (hU x.l.ao y.l.ao) (-2))) P:=by rw[wV];exact z.map _
 have E:=T.map (ch x.l.gate (hU x.l.ao y.l.ao) (-2));have ew:((if r=true then ep w else w).map (cO H)).map (ch x.l.gate (hU x.l.ao y.l.ao) (-2))=(if r=true then ep (w.map (ch x.l.gate (hU x.l.ao y.l.ao) (-2)))else w.map (ch x.l.gate (hU x.l.ao y.l.ao) (-2))).map (cO H):=by
  have:∀l:aU,(l.map (cO H)).map (ch x.l.gate (hU x.l.ao y.l.ao) (-2))=(l.map (ch x.l.gate (hU x.l.ao y.l.ao) (-2))).map (cO H):=λl=>by rw[gi,gi];exact kD λp _=>W1 _ _ _ _ p
  rw[this];cases r
  .rfl
  rw[an rfl,an rfl,Lf λp=>X1 _ _ _ p]
 rw[ew]at E;rcases Uc i.g Y h with e|f_
 .have hw:w=[]:=by
   have:=m.len;rw[e,bG]at this;exact Ra this
  subst hw;have ab:=E.len;have N:(kW (aA M) λk _=>decide (k=A)||decide (k=(A+1)%I M)).map (ch x.l.gate (hU x.l.ao y.l.ao) (-2))=[]:=by refine Ra ?_;rw[<-ab];cases r<;>rfl
  rw[e,show eL _ _ _ _=_ from N];exact jo.refl _
 have uQ:∀p∈P,∃q∈aA L,p=ch x.l.gate (hU x.l.ao y.l.ao) (-2) q:=λp hp=>by obtain⟨q,v,rfl⟩:=cD.1 (m.perm.mem_iff.2 hp);exact⟨q,hA.perm.mem_iff.2 (by simp[v]),rfl⟩
 have O:eL (kW (aA M) λk _=>decide (k=A)||decide (k=(A+1)%I M)) x.l.gate (hU x.l.ao y.l.ao) (-2)≠[]:=λe0=>by
  have j:=E.len;have B:=m.len;rw[show List.map _ _=_ from e0]at j;rw[bG]at j;have X:I (if r=true then ep (w.map (ch x.l.gate (hU x.l.ao y.l.ao) (-2)))else w.map (ch x.l.gate (hU x.l.ao y.l.ao) (-2)))=I w:=by
   cases r
   .rw[ai aa,bG]
   rw[an rfl,Gc,bG]
  rw[X]at j;rw[bG,j]at B;obtain⟨f,hf,_⟩:=Gh f_;have:I P=0:=B.symm;omega
 have cQ:fP F _:=(Uc i.g' D u).resolve_left O;refine Ay.jo ⟨r,H,atU mY λp hp=>?_,?_⟩ f_ cQ vX λp hp dA=>?_
 .obtain⟨q,v,rfl⟩:=uQ p hp;refine⟨q.l,ru v,?_,?_⟩
  .unfold ch;split<;>rfl
  unfold ch;split<;>rfl
 .refine dp.trans (dp.map _ ?_) E;cases r
  .exact m.symm
  exact m.symm.ep
 obtain⟨q,v,rfl⟩:=uQ p hp;rw[Ld.1]at dA;rw[Ld.2];exact Bp v dA
end
def ajt{p:aK}(H:p.l.aq)(h:p.d=false):gL p=p:=by obtain⟨l,d⟩:=p;have H:l.aq:=H;have h:d=false:=h;subst h;show(⟨l,l.aw&& !false⟩:aK)=_;rw[jV H];rfl
def at6(x:aK)(w:aU):dp (gL x::ep w) (ep (x::w)):=by refine⟨[gL x],ep w,rfl,?_⟩;unfold ep;simp
section
variable {F:Nat} {L M:af} {P Q:aU} {r:Bool} {s t:Nat->Nat}
def aih{p:aK}(e:p.l.aq->h p.l.id=u p.l.id):cO h p=cO u p:=by
 unfold cO dk;cases H:p.l.kind==2 with
 |false=>rfl
 |true=>rw[e H]
def cM.k5(i:cM F L M r s t){a:Nat}(ha:a<I L){sg:Int}{o:Bool}(ae:sg=1\/sg= -1)(vX:dM (F:Int) (cL (r7 L a sg o))=0):∃(a':Nat) (o':Bool),a'<I M/\jo (cL (r7 M a' sg o')) (cL (r7 L a sg o)):=by
 obtain⟨h,mY,zJ,hR⟩:=i.CA;have r0:=Ct (aA L) (a+1);have j:=Yh (aA L) [⟨⟨2,0,0,((au U.aq L/2+1:Nat):Int),sg,o⟩,false⟩,⟨⟨2,0,0,((au U.aq L/2+1:Nat):Int),sg,!o⟩,false⟩] a;have N:=r0.len;rw[cZ]at N;have f_:=UW i.g ha (o:=o) ae;have u:r7 L a sg o=ft (aA L) [⟨⟨2,0,0,((au U.aq L/2+1:Nat):Int),sg,o⟩,false⟩,⟨⟨2,0,0,((au U.aq L/2+1:Nat):Int),sg,!o⟩,false⟩] a:=rfl;rw[<-u]at j;generalize r7 L a sg o=P at*;generalize(aA L).drop (a+1)++(aA L).take (a+1)=w at*;have f:∀p∈w,p∈aA L:=λp hp=>r0.perm.mem_iff.2 hp;have tB:dp ((if r=true then ep w else w).map (cO h)) (aA M):=by
  cases r with
  |false=>exact(r0.map _).symm.trans hR
  |true=>exact(r0.ep.map _).symm.trans hR
 have KM:(if r=true then ep w else w).map (cO h)≠[]:=λe=>by have:=tB.len;rw[e,cZ,i.len]at this;have h1:I ([]:aU)=0:=rfl;omega
 obtain⟨k,v,_,_,R⟩:=tB.ins KM;rw[cZ]at v;refine⟨k,if r=true then !o else o,v,?_⟩;have cQ:=UW i.g' v (o:=if r=true then !o else o) ae;have T:=R [⟨⟨2,0,0,((au U.aq M/2+1:Nat):Int),sg,if r=true then !o else o⟩,false⟩,⟨⟨2,0,0,((au U.aq M/2+1:Nat):Int),sg,!(if r=true then !o else o)⟩,false⟩];have T:dp _ (r7 M k sg (if r=true then !o else o)):=T;rw[i.BO]at T;generalize r7 M k sg (if r=true then !o else o)=Q at*
 let H:Int->Int:=λid=>if id=((au U.aq L/2+1:Nat):Int)then((au U.aq L/2+1:Nat):Int)else h id
 have Z:∀p∈w,cO H p=cO h p:=λp hp=>aih λn=>by have:=(RJ i.g (f p hp) n).2;show(if _ then _ else _)=_;rw[ai J]
 have X:∀p∈ep w,cO H p=cO h p:=λp hp=>by unfold ep at hp;obtain⟨q,z,rfl⟩:=cD.1 hp;rw[<-QY,<-QY,Z q (yW.1 z)]
 have Y:∀p∈P,(p.l.aq/\p.d=false/\p.l.id=((au U.aq L/2+1:Nat):Int))\/p∈aA L:=λp hp=>by
  have:=j.perm.mem_iff.2 hp;simp only[ko,fz,dt]at this;rcases this with rfl|rfl|h
  .exact .inl ⟨rfl,rfl,rfl⟩
  .exact .inl ⟨rfl,rfl,rfl⟩
  exact .inr (f p h)
 refine Ay.jo ⟨r,H,?_,?_⟩ f_ cQ vX λp hp dA=>?_
 .intro x hx y hy kx ky e;obtain⟨p,hp,rfl⟩:=cD.1 hx;obtain⟨q,z,rfl⟩:=cD.1 hy;have cp:p.l.aq:=by unfold U.aq;rw[kx];rfl
  have cq:q.l.aq:=by unfold U.aq;rw[ky];rfl
  have O:∀ {p:aK},p∈aA L->p.l.aq->p.l.id<=((au U.aq L/2:Nat):Int)/\H p.l.id=h p.l.id/\h p.l.id<=((au U.aq L/2:Nat):Int):=λ{p} hp n=>by have h1:=(RJ i.g hp n).2;refine⟨h1,?_,(zJ p.l (ru hp) n).2⟩;show(if _ then _ else _)=_;rw[ai J]
  have new:H ((au U.aq L/2+1:Nat):Int)=((au U.aq L/2+1:Nat):Int):=an rfl;rcases Y p hp with⟨_,_,m⟩|E<;>rcases Y q z with⟨_,_,e2⟩|B
  .rw[m,e2]
  .exfalso;obtain⟨b1,D,b3⟩:=O B cq;rw[m,new,D]at e;omega
  .exfalso;obtain⟨b1,D,b3⟩:=O E cp;rw[e2,new,D]at e;omega
  rw[(O E cp).2.1,(O B cq).2.1]at e;exact mY _ (ru E) _ (ru B) kx ky e
 .have A:∀ov:Bool,cO H ⟨⟨2,0,0,((au U.aq L/2+1:Nat):Int),sg,ov⟩,false⟩=⟨⟨2,0,0,((au U.aq L/2+1:Nat):Int),sg,ov⟩,false⟩:=λov=>by
   show(⟨{kind:=2,gate:=0,ao:=0,id:=H _,sign:=sg,over:=ov},false⟩:aK)=_;rw[show H ((au U.aq L/2+1:Nat):Int)=_ from an rfl]
  cases r with
  |false=>simp only[gJ,if_false]at T |-;refine dp.trans ((j.map (cO H)).symm) ?_;rw[ko,ko,fz,eQ,eQ,A,A,kD Z];exact T
  |true=>
   simp only[if_true,AB]at T |-;refine dp.trans ((j.ep.map (cO H)).symm) (dp.trans ?_ T);rw[<-kD X];refine dp.trans ?_ (dp.refl _);have m:ep ([⟨⟨2,0,0,((au U.aq L/2+1:Nat):Int),sg,o⟩,false⟩,⟨⟨2,0,0,((au U.aq L/2+1:Nat):Int),sg,!o⟩,false⟩]++w)=ep w++[⟨⟨2,0,0,((au U.aq L/2+1:Nat):Int),sg,!o⟩,false⟩,⟨⟨2,0,0,((au U.aq L/2+1:Nat):Int),sg,o⟩,false⟩]:=by unfold ep;simp only[fE,Xe,fz,ko,eQ,oO];rw[kr];rfl
   rw[m,fE,eQ,eQ,oO,A,A];exact⟨_,_,rfl,rfl⟩
 rcases Y p hp with⟨_,hd,_⟩|E
 .exact hd
 exact Bp E dA
def aa1{l:aU}{a:Nat}{x q:aK}{w:aU}(h:l[a]?=some x)(e:l.drop a++l.take a=x::w):dp (q::w.map f) ((l.map f).set a q):=by
 have hl:=(bd.1 h).1;have H:l.drop a=x::l.drop (a+1):=by obtain⟨m,E⟩:=bd.1 h;rw[<-E,uA]
 rw[H,ko]at e;have j:l.drop (a+1)++l.take a=w:=(Rl e).2;rw[Vt h,<-j,fE];exact⟨q::(l.drop (a+1)).map f,(l.take a).map f,rfl,rfl⟩
def al2{α:Type}{l w:List α}{x:α}(h:dp (x::w) l):∃a,a<I l/\l[a]?=some x/\l.drop a++l.take a=x::w:=by
 have hl:=h.len;obtain⟨u,v,e,rfl⟩:=h;by_cases H:u=[]
 .subst H;rw[fz]at e;subst e;exact⟨0,aH,aH,aH⟩
 have:=gA.2 H;refine⟨I v,by rw[fU];omega,?_,by simp[e]⟩;rw[o_ (ct _),xf];cases u with
 |nil=>exact absurd rfl H
 |cons y u=>rw[ko]at e;rw[(Rl e).1];rfl
def afN{A B w:aU}{x:aK}(f:dp A (x::w))(H:dp ((if r=true then ep A else A).map (cO h)) B):dp (cO h (if r=true then gL x else x)::(if r=true then ep w else w).map (cO h)) B:=by
 cases r with
 |false=>rw[ai aa]at H;exact(f.map (cO h)).symm.trans H
 |true=>rw[an rfl]at H;refine dp.trans ?_ ((f.ep.map (cO h)).symm.trans H);rw[an rfl,an rfl];exact(at6 x w).map (cO h)
def cM.cgs(i:cM F L M r s t)(g:Nat):aJ M g=aJ L g:=i.cn _ λl m h H=>by unfold ir U.aw;rw[h,H]
def cM.tip(i:cM F L M r s t){a:Nat}{l:U}(hl:L[a]?=some l)(hp:l.aw)(m A b j R:Int)(f_:fP F (((aA L).map (ch m A b)).set a ⟨{l with gate:=j,ao:=R},dw L a⟩))(vX:dM (F:Int) (cL (((aA L).map (ch m A b)).set a ⟨{l with gate:=j,ao:=R},dw L a⟩))=0):
  ∃(n:Nat) (X:Bool),n<I M/\(aA M)[n]?=some ⟨l,X⟩/\(fP F (((aA M).map (ch m A b)).set n ⟨{l with gate:=j,ao:=R},X⟩)->jo (cL (((aA M).map (ch m A b)).set n ⟨{l with gate:=j,ao:=R},X⟩)) (cL (((aA L).map (ch m A b)).set a ⟨{l with gate:=j,ao:=R},dw L a⟩))):=by
 obtain⟨h,mY,_,hR⟩:=i.CA;have O:=gZ hl;have iM:=(bd.1 O).1;obtain⟨w,hw⟩:∃w,(aA L).drop a++(aA L).take a=⟨l,dw L a⟩::w:=by obtain⟨h1,E⟩:=bd.1 O;exact⟨(aA L).drop (a+1)++(aA L).take a,by rw[<-E,<-ko,uA]⟩
 have hA:dp (aA L) (⟨l,dw L a⟩::w):=by rw[<-hw];exact Ct _ _
 obtain⟨n,AZ,Z,q2⟩:=al2 (afN hA hR);rw[cZ]at AZ;have ex:cO h (if r=true then gL ⟨l,dw L a⟩else⟨l,dw L a⟩)=⟨l,if r=true then !dw L a else dw L a⟩:=by
  have e:∀d,cO h ⟨l,d⟩=⟨l,d⟩:=λd=>by
   unfold cO;rw[Pe (by
    cases hc:l.aq with
    |false=>rfl
    |true=>rw[jV hc]at hp;cases hp)]
  cases r
  .exact e _
  rw[an rfl,an rfl];have:gL ⟨l,dw L a⟩=⟨l,!dw L a⟩:=by unfold gL;rw[hp];rfl
  rw[this];exact e _
 rw[ex]at Z q2;refine⟨n,_,AZ,Z,λcQ=>?_⟩;have tP:=aa1 (f:=ch m A b) (q:=⟨{l with gate:=j,ao:=R},dw L a⟩) O hw;have H:=aa1 (f:=ch m A b) (q:=⟨{l with gate:=j,ao:=R},if r=true then !dw L a else dw L a⟩) Z q2;have hn:=awD (L:=L) (a:=a) (f:=ch m A b) (q:=⟨{l with gate:=j,ao:=R},dw L a⟩) (λp=>Ld) hp;generalize((aA L).map (ch m A b)).set a ⟨{l with gate:=j,ao:=R},dw L a⟩=P at*;generalize((aA M).map (ch m A b)).set n ⟨{l with gate:=j,ao:=R},if r=true then !dw L a else dw L a⟩=Q at*;have N:l.aq=false:=nv hp;have kc:¬l.kind=2:=λe=>by unfold U.aq at N;rw[e]at N;cases N
 refine Ay.jo ⟨r,h,?_,?_⟩ f_ cQ vX hn
 .intro x Y y hy D ky e;have B:∀x∈P.map aK.l,x.kind=2->∃z∈L,z.kind=2/\z.id=x.id:=λx Y D=>by
   obtain⟨p,lh,rfl⟩:=cD.1 Y;rcases dt.1 (tP.perm.mem_iff.2 lh)with rfl|hm
   .exact absurd D kc
   obtain⟨q,hq,rfl⟩:=cD.1 hm;have E:(ch m A b q).l.kind=q.l.kind/\(ch m A b q).l.id=q.l.id:=by unfold ch;split<;>exact⟨rfl,rfl⟩
   exact⟨q.l,ru (hA.perm.mem_iff.2 (zj _ hq)),E.1▸D,E.2.symm⟩
  obtain⟨u,hu,ku,eu⟩:=B x Y D;obtain⟨v,hv,kv,ev⟩:=B y hy ky;rw[<-eu,<-ev]at e |-;exact mY u hu v hv ku kv e
 have mw:cO h (if r=true then gL ⟨{l with gate:=j,ao:=R},dw L a⟩else⟨{l with gate:=j,ao:=R},dw L a⟩)=⟨{l with gate:=j,ao:=R},if r=true then !dw L a else dw L a⟩:=by
  have e:∀d,cO h ⟨{l with gate:=j,ao:=R},d⟩=⟨{l with gate:=j,ao:=R},d⟩:=λd=>by unfold cO;rw[Pe (x:={l with gate:=j,ao:=R}) N]
  cases r
  .exact e _
  rw[an rfl,an rfl];have:gL ⟨{l with gate:=j,ao:=R},dw L a⟩=⟨{l with gate:=j,ao:=R},!dw L a⟩:=by unfold gL;show(⟨_,l.aw&& !dw L a⟩:aK)=_;rw[hp];rfl
  rw[this];exact e _
 have e3:∀l:aU,(l.map (cO h)).map (ch m A b)=(l.map (ch m A b)).map (cO h):=λl=>by rw[gi,gi];exact kD λp _=>W1 _ _ _ _ p
 rw[e3]at H;have T:=afN (r:=r) (h:=h) tP.symm (dp.refl _);rw[mw]at T;refine dp.trans T.symm ?_;cases r
 .exact H
 rw[an rfl]at H |-;rw[Lf λp=>X1 _ _ _ p];exact H
end
section
variable {F:Nat} {L M:af} {P Q:aU} {r:Bool} {s t:Nat->Nat}
def agL{a:Nat}{l:U}{d:Bool}(hp:(aA L)[a]?=some ⟨l,d⟩)(f:l.kind=1)(H:l.gate<(F:Int))(j:l.ao=(aJ L l.gate.toNat:Int)):s3 F L a=some (((aA L).map (ch (l.gate+1) 0 1)).set a ⟨{l with gate:=l.gate+1,ao:=1},d⟩):=by
 unfold s3;rw[jr hp,an (by simp only[cN,cW,jn];exact⟨f,H,j⟩)];unfold sZ eL;have:((aA L).map (ch (l.gate+1) 0 1)).getD a ⟨ga,false⟩=⟨l,d⟩:=by rw[dz,dy,hp];show ch (l.gate+1) 0 1 ⟨l,d⟩=_;unfold ch;rw[ai];simp only[cN,cW];intro h;omega
 rw[this]
def ahI{a:Nat}{l:U}{d:Bool}(hp:(aA L)[a]?=some ⟨l,d⟩)(j:l.kind=1)(H:0<l.gate)(f:l.ao=1):tl L a=some (((aA L).map (ch l.gate 1 (-1))).set a ⟨{l with gate:=l.gate-1,ao:=((aJ L (l.gate-1).toNat+1:Nat):Int)},d⟩):=by
 unfold tl;rw[jr hp,an (by simp only[cN,cW,jn];exact⟨j,H,f⟩)];unfold sZ eL;have:((aA L).map (ch l.gate 1 (-1))).getD a ⟨ga,false⟩=⟨l,d⟩:=by rw[dz,dy,hp];show ch l.gate 1 (-1) ⟨l,d⟩=_;unfold ch;rw[ai];simp only[cN,cW,jn];intro h;omega
 rw[this]
def lN(ids:bQ)(k:Int):Int:=k-((ids.countP λi=>decide (i<k):Nat):Int)
def Ez(ids:bQ)(p:aK):jL ids p=if p.l.kind==2 then{p with l:={p.l with id:=lN ids p.l.id}}else p:=by unfold jL jY lN;rw[jz]
def afd{ids:bQ}{p:aK}(h:p.l.aq):(jL ids p).l.id=lN ids p.l.id:=by have H:(p.l.kind==2):=h;rw[Ez,H];rfl
def aea{ids f:bQ}{p:aK}(e:p.l.aq->u (lN ids p.l.id)=lN f (h p.l.id)):jL f (cO h p)=cO u (jL ids p):=by
 rw[Ez,Ez];unfold cO dk;cases H:p.l.kind==2 with
 |false=>simp only[H,gJ,if_false]
 |true=>simp only[H,if_true];rw[e H]
def ajK(ids:bQ)(p:aK):jL ids (gL p)=gL (jL ids p):=by
 rw[Ez,Ez];unfold gL;cases h:p.l.kind==2 with
 |false=>simp only[gJ,if_false]
 |true=>simp only[if_true];rfl
def XY{i k:Int}:lN [i] k=if i<k then k-1 else k:=by
 unfold lN;by_cases h:i<k
 .simp[h]
 simp[h]
def cM.k4(i:cM F L M r s t){a:Nat}(ha:a<I L)(h:n_ L a=some P)(vX:dM (F:Int) (cL P)=0):∃D Q,D<I M/\n_ M D=some Q/\jo (cL Q) (cL P):=by
 have f_:=Uj i.g ha h;obtain⟨H,mY,_,hR⟩:=i.CA;obtain⟨x,y,r1,s1,_,hx,hy,c,_,rQ,_,_,_⟩:=MS i.g ha;have q:=c.q;unfold n_ at h;have e1:(aA L).getD a ⟨ga,false⟩=x.p:=by rw[dz,hx];rfl
 have e2:(aA L).getD ((a+1)%I L) ⟨ga,false⟩=y.p:=by rw[dz,hy];rfl
 simp only[e1,e2]at h;split at h
 case isFalse=>cases h
 rename_i m;have wV:=(ld h).symm;simp only[cN,cW]at m;obtain⟨T,pG,E⟩:=m;have R:x.k.aq:=by rw[LO];simp[T]
 have O:y.k.aq:=by rw[LO];simp[pG]
 have KJ:=agk q R O E;have X:∀p∈r1.map aT.p,p.l.aq->p.l.id≠x.p.l.id:=λp hp m=>by obtain⟨w,hw,rfl⟩:=cD.1 hp;exact KJ w hw m
 rw[eQ,eQ]at rQ;generalize r1.map aT.p=w at rQ X;have R:x.p.l.aq:=R;have O:y.p.l.aq:=O;generalize x.p=x at*;generalize y.p=y at*;have hA:dp (aA L) (x::y::w):=by rw[<-rQ];exact Ct _ _
 have N:∀p∈x::y::w,p∈aA L:=λp hp=>hA.perm.mem_iff.2 hp;have B:=N x aH;have ag:=N y aH;have iD:gL x=x:=ajt R (Bp B (jV R));have fy:gL y=y:=ajt O (Bp ag (jV O));have hB:=ajc hA hR;rw[iD,fy]at hB;obtain⟨D,AZ,q1,q2,_⟩:=hB.at2;rw[cZ]at AZ q2;have idx:∀z:aK,z=x\/z=y->(cO H z).l.id=H x.l.id/\(cO H z).l.kind=2:=λz f=>by
  rcases f with rfl|rfl
  .exact⟨Qh H R,by rw[show(cO H z).l=dk H z.l from rfl,(FG H z.l).1];exact T⟩
  exact⟨by rw[show(cO H z).l.id=(dk H z.l).id from rfl,Qh H O,E],by rw[show(cO H z).l=dk H z.l from rfl,(FG H z.l).1];exact pG⟩
 have i1:=idx (if r=true then y else x) (by cases r<;>simp);have i2:=idx (if r=true then x else y) (by cases r<;>simp);have ac:n_ M D=some (jS (aA M) [H x.l.id]):=by
  have f1:(aA M).getD D ⟨ga,false⟩=cO H (if r=true then y else x):=by rw[dz,q1];rfl
  have f2:(aA M).getD ((D+1)%I M) ⟨ga,false⟩=cO H (if r=true then x else y):=by rw[dz,q2];rfl
  unfold n_;simp only[f1,f2,i1.1,i1.2,i2.1,i2.2,CT,Dq,if_true]
 refine⟨D,_,AZ,ac,?_⟩;have cQ:=Uj i.g' AZ ac;have kC:∀ {l:U},l.aq->l.kind=2:=λh=>by unfold U.aq at h;exact cW.1 h
 have ad:∀ {ids:bQ}{p q:aK}{w:aU},p.l.kind=2->q.l.kind=2->p.l.id∈ids->q.l.id∈ids->(∀z∈w,z.l.aq->z.l.id∉ids)->jS (p::q::w) ids=w.map (jL ids):=λ{ids p q w} h1 h2 h3 h4 h5=>by
  rw[xI,Ql,Ql,YS]
  .intro z f;cases hk:z.l.kind==2 with
   |false=>rfl
   |true=>
    have:=h5 z f hk;have:ids.contains z.l.id=false:=by simpa using this
    rw[this];rfl
  .rw[ahL h2 h4];decide
  rw[ahL h1 h3];decide
 have tP:dp (w.map (jL [x.l.id])) P:=by rw[wV,<-ad T pG aH (by simp[E]) (λz f m=>by simpa using X z f m)];exact hA.symm.jS _
 have qT:∀z∈(if r=true then ep w else w),∃n∈w,z.l=n.l:=λz f=>by
  cases r
  .exact⟨z,f,rfl⟩
  rw[an rfl]at f;unfold ep at f;obtain⟨n,Y,rfl⟩:=cD.1 f;exact⟨n,yW.1 Y,rfl⟩
 have tQ:dp (((if r=true then ep w else w).map (cO H)).map (jL [H x.l.id])) (jS (aA M) [H x.l.id]):=by
  rw[<-ad i1.2 i2.2 (by simp[i1.1]) (by simp[i2.1]) (λz f m=>?_)]
  .exact hB.jS _
  obtain⟨Z,h1,rfl⟩:=cD.1 f;obtain⟨n,Y,e0⟩:=qT Z h1;have c1:Z.l.aq:=by have:(dk H Z.l).aq:=m;unfold U.aq at this |-;rwa[(FG H Z.l).1]at this
  have c0:n.l.aq:=by rw[<-e0];exact c1
  have:(cO H Z).l.id=H n.l.id:=by rw[show(cO H Z).l.id=(dk H Z.l).id from rfl,Qh H c1,e0]
  rw[this];simp only[dt,gH,or_false];intro e;exact X n Y c0 (mY _ (ru (N n (by simp[Y]))) _ (ru B) (kC c0) T e)
 let h3:Int->Int:=λj=>lN [H x.l.id] (H (if j<x.l.id then j else j+1))
 have Ht:∀z∈w,z.l.aq->h3 (lN [x.l.id] z.l.id)=lN [H x.l.id] (H z.l.id):=λz f m=>by
  have aN:=X z f m;show lN [H x.l.id] (H _)=_;rw[show lN [x.l.id] z.l.id=if x.l.id<z.l.id then z.l.id-1 else z.l.id from XY];by_cases aB:x.l.id<z.l.id
  .rw[an aB,ai J,show z.l.id-1+1=z.l.id by omega]
  rw[ai aB,an J]
 refine Ay.jo ⟨r,h3,?_,?_⟩ f_ cQ vX ?_
 .intro u hu v hv ku kv e;have ab:∀u∈P.map aK.l,u.kind=2->∃z∈w,z.l.aq/\u.id=lN [x.l.id] z.l.id:=λu hu ku=>by
   obtain⟨p,hp,rfl⟩:=cD.1 hu;obtain⟨z,f,rfl⟩:=cD.1 (tP.perm.mem_iff.2 hp);have cz:z.l.aq:=by have:=Ml [x.l.id] z;unfold U.aq;rw[<-this,ku];rfl
   exact⟨z,f,cz,afd cz⟩
  obtain⟨Z,A,c1,e1⟩:=ab u hu ku;obtain⟨z2,Ic,c2,e2⟩:=ab v hv kv;rw[e1,e2,Ht Z A c1,Ht z2 Ic c2]at e;have n1:=X Z A c1;have n2:=X z2 Ic c2;have m1:H Z.l.id≠H x.l.id:=λe=>n1 (mY _ (ru (N Z (by simp[A]))) _ (ru B) (kC c1) T e);have m2:H z2.l.id≠H x.l.id:=λe=>n2 (mY _ (ru (N z2 (by simp[Ic]))) _ (ru B) (kC c2) T e);have:H Z.l.id=H z2.l.id:=by rw[XY,XY]at e;split at e<;>split at e<;>omega
  rw[e1,e2,mY _ (ru (N Z (by simp[A]))) _ (ru (N z2 (by simp[Ic]))) (kC c1) (kC c2) this]
 .have ew:∀l:aU,(∀z∈l,∃n∈w,z.l=n.l)->(l.map (cO H)).map (jL [H x.l.id])=(l.map (jL [x.l.id])).map (cO h3):=λl hl=>by
   rw[gi,gi];refine kD λp hp=>aea λm=>?_;obtain⟨n,Y,e0⟩:=hl p hp;rw[e0]at m |-;exact Ht n Y m
  rw[ew _ qT]at tQ;refine dp.trans (dp.map _ ?_) tQ;cases r
  .exact tP.symm
  rw[an rfl,an rfl,<-Lf λp=>ajK _ p];exact tP.symm.ep
 intro p hp dA;rw[wV]at hp;exact agr (λp hp=>Bp hp) p hp dA
end
abbrev eV(f n:Nat)(p:aK):aK:=⟨dI f n p.l,p.d⟩
def gR (g:Nat)(l:U):Int:=if ir g l=true then 1 else 0
def agQ(X:af)(g:Nat):(aJ X g:Int)=(X.map (gR g)).sum:=by
 induction X with
 |nil=>rfl
 |cons a X f=>show((a::X).countP (ir g):Int)=_;rw[CY,eQ,Ds,<-f];unfold gR;split<;>simp[Int.add_comm]
def PK(P:aU)(g:Nat):(aJ (cL P) g:Int)=eH (gR g) P:=by rw[agQ,ayZ]
def IQ:∀ {a b:U},a.kind=b.kind->a.gate=b.gate->a.ao=b.ao->a.id=b.id->a.sign=b.sign->a.over=b.over->a=b:=λ{a b}=>by cases a;cases b;simp only[U.mk.injEq];intros;simp_all
def Rj{g:Nat}{φ:aK->aK}(h:∀p,(φ p).l.kind=p.l.kind/\((φ p).l.aw->(φ p).l.gate=p.l.gate))(P:aU):eH (gR g) (P.map φ)=eH (gR g) P:=by
 unfold eH;rw[gi];congr 1;refine kD λp _=>?_;obtain⟨j,H⟩:=h p;have hp:(φ p).l.aw=p.l.aw:=by unfold U.aw;rw[j]
 show gR g (φ p).l=gR g p.l;unfold gR ir;rw[hp]at H |-;cases f:p.l.aw with
 |false=>rfl
 |true=>rw[H f]
def XW(G a b:Int)(p:aK):(ch G a b p).l.kind=p.l.kind/\((ch G a b p).l.aw->(ch G a b p).l.gate=p.l.gate):=by unfold ch;split<;>exact⟨rfl,λ_=>rfl⟩
def HU{g:Nat}{l:U}(hp:l.aw):gR g l=if l.gate=(g:Int)then 1 else 0:=by unfold gR ir;rw[hp,zB];simp only[cW]
def aac{g:Nat}{l:U}(hp:l.aw=false):gR g l=0:=by unfold gR ir;rw[hp];rfl
section
variable {f n:Nat}
def ap2(P:aU):mh (P.map (eV f n))=mh P:=by
 unfold mh;rw[bG];congr 1;funext i;unfold Ep;rw[dy];cases P[i]? with
 |none=>rfl
 |some p=>show((dI f n p.l).kind==1&&p.d)=_;rw[(g_ p.l).1];rfl
def ag7(P:aU):cL (P.map (eV f n))=(cL P).map (dI f n):=by
 unfold cL tA;rw[ap2,bG,gi];refine kD λi _=>?_;rw[dz,dy,Function.comp_apply,dz];cases P[((mh P).getD 0+i)%I P]? with
 |none=>exact(EO rfl).symm
 |some p=>rfl
def Zj{p:aK}{G A δ:Int}{N c:Nat}(hf:1<=f)(B:p.l.aw->0<=p.l.gate/\1<=p.l.ao/\(p.l.gate=(f:Int)-1->p.l.ao<=(n:Int)))(O:0<=G)(u:G=(f:Int)-1->A<=(n:Int))(L:0<=A)(H:(N:Int)=(n:Int)+if G=(f:Int)-1 then δ else 0):
  eV f N (ch G A δ p)=ch (if(f:Int)<=G then G-1 else G) (if G=(f:Int)then A+(n:Int)else A) δ (eV f n p):=by
 obtain⟨l,d⟩:=p;cases hp:l.aw with
 |false=>have h:(l.kind==1)=false:=hp;unfold ch;rw[h,Bool.false_and,ai aa,eV,EO hp,eV,EO hp,h,Bool.false_and,ai aa]
 |true=>
  have h:l.kind=1:=by unfold U.aw at hp;exact cW.1 hp
  obtain⟨r0,r1,R⟩:=B hp;have r0:0<=l.gate:=r0;have r1:1<=l.ao:=r1;have R:l.gate=(f:Int)-1->l.ao<=(n:Int):=R;have j:∀(G a b:Int) (m:U) (d:Bool),m.kind=1->ch G a b ⟨m,d⟩=⟨{m with ao:=if m.gate=G/\a<m.ao then m.ao+b else m.ao},d⟩:=λG a b m d E=>by
   unfold ch;have h:(m.kind==1):=by rw[E];rfl
   show(if((m.kind==1)&&((m.gate==G)&&decide (a<m.ao)))=true then(⟨{m with ao:=m.ao+b},d⟩:aK)else⟨m,d⟩)=_;rw[h,zB];by_cases c:m.gate=G/\a<m.ao
   .rw[an c,an (by simp[c.1,c.2])]
   rw[ai c,ai (by simpa using c)]
  have M:∀r:Int,({l with ao:=r}:U).aw=true:=λr=>hp;show(⟨dI f N (ch G A δ ⟨l,d⟩).l,(ch G A δ ⟨l,d⟩).d⟩:aK)=ch _ _ δ ⟨dI f n l,d⟩;rw[j _ _ _ _ _ h,j _ _ _ _ _ ((g_ l).1.trans h)];congr 1;obtain⟨Q,F,x,y⟩:=g_ (f:=f) (n:=n) l;obtain⟨v,z,D,Z⟩:=g_ (f:=f) (n:=N) {l with ao:=if l.gate=G/\A<l.ao then l.ao+δ else l.ao};refine IQ (v.trans Q.symm) ?_ ?_ (z.trans F.symm) (D.trans x.symm) (Z.trans y.symm)
  .rw[qF (M _)];show(if(f:Int)<=l.gate then l.gate-1 else l.gate)=(dI f n l).gate;rw[qF hp]
  rw[uw (M _)];show(if l.gate=(f:Int)then(if l.gate=G/\A<l.ao then l.ao+δ else l.ao)+(N:Int)else if l.gate=G/\A<l.ao then l.ao+δ else l.ao)=if(dI f n l).gate=_/\_<(dI f n l).ao then(dI f n l).ao+δ else(dI f n l).ao;rw[qF hp,uw hp];generalize l.gate=γ at*;generalize l.ao=ρ at*;rcases Decidable.em (G=(f:Int)-1)with c1|c1
  .rw[an c1]at H;have u:=u c1;repeat' split
   all_goals omega
  rw[ai c1]at H;repeat' split
  all_goals omega
variable {F:Nat} {L:af}
def xE(g:a_ F L)(hf:1<=f):aA (cG f L)=(aA L).map (eV f (aJ L (f-1))):=by
 apply nj;intro i;rw[dy];by_cases h:i<I L
 .obtain⟨l,hl⟩:=aM h;rw[gZ hl,gZ (l:=dI f (aJ L (f-1)) l) (by rw[dy,hl];rfl),(AE g hf).dw];rfl
 rw[kQ (by rw[cZ,bG];omega),kQ (by rw[cZ];omega)];rfl
def AI(g:a_ F L)(hf:1<=f)(i:Nat):b_ (cG f L) i=eV f (aJ L (f-1)) (b_ L i):=by
 unfold b_;rw[xE g hf,dz,dy,dz];cases(aA L)[i]? with
 |none=>show(⟨ga,false⟩:aK)=⟨dI f _ ga,false⟩;rw[EO rfl]
 |some p=>rfl
def qE(g:a_ F L)(hf:1<=f)(i:Nat):aR (cG f L) i=dI f (aJ L (f-1)) (aR L i):=by rw[aR,AI g hf]
def vj(i:Nat):nx (cG f L) i=nx L i:=by rw[nx,bG]
def asu(g:a_ F L){p:aK}(h:p∈aA L):p.l.aw->0<=p.l.gate/\1<=p.l.ao/\(p.l.gate=(f:Int)-1->1<=f->p.l.ao<=(aJ L (f-1):Int)):=λhp=>by obtain⟨i,H⟩:=fX h;have hl:=(EW H).1;obtain⟨g0,g1,r0,r1⟩:=g.ok.ax.eO _ (aX hl) hp;refine⟨g0,r0,λe hf=>?_⟩;rw[e,show((f:Int)-1).toNat=f-1 by omega]at r1;exact r1
def afP(g:a_ F L)(hf:1<=f)(O:f<=F){x:Nat}(A:x<nD L):zf (F-1) (cG f L) x<=zf F L x/\(1<=zf F L x->1<=zf (F-1) (cG f L) x):=by
 have k:=AE g hf;unfold zf;rw[bG];split
 .exact⟨ct _,λh=>h⟩
 have E:(x-2*I L)/2<I (ay L):=by have:x<2*I L+2*I (ay L):=A;omega
 obtain⟨u,l,_,D,hl,hp,j⟩:=Em g.ok E;obtain⟨v,m,_,n,H,B,z⟩:=Em g.ok (cJ ((x-2*I L)/2+1) (by omega:0<I (ay L)));have M:oK (cG f L) u=if f<=oK L u then oK L u-1 else oK L u:=by rw[rG hl,rG (l:=dI f (aJ L (f-1)) l) (by rw[dy,hl];rfl),qF hp];have:=j.g0;split<;>split<;>omega
 have y:oK (cG f L) v=if f<=oK L v then oK L v-1 else oK L v:=by rw[rG H,rG (l:=dI f (aJ L (f-1)) m) (by rw[dy,H];rfl),qF B];have:=z.g0;split<;>split<;>omega
 have N:oK L u<=F:=by rw[rG hl];have:=j.g1;omega
 unfold lE;rw[k.Dv];simp only[D,n,M,y];split
 .rw[tJ,tJ];refine⟨?_,λ_=>J⟩;split<;>split<;>omega
 rw[fU,fU,tJ,tJ,tJ,tJ];refine⟨?_,λ_=>J⟩;split<;>split<;>omega
def aAl{w:aC}{a b:Nat->Nat}(f:∀x∈w,a x<=b x)(H:∀x∈w,1<=b x->1<=a x)(m:(w.map b).sum<=1):(w.map a).sum=(w.map b).sum:=by
 induction w with
 |nil=>rfl
 |cons x w j=>simp only[eQ,Ds]at m |-;have:=j (λy h=>f y (by simp[h])) (λy h=>H y (by simp[h])) J;have:=f x aH;have:=H x aH;omega
def aoZ(g:a_ F L)(hf:1<=f)(y:f<=F){pl:Nat}(D:pl<=1)(h:zy F L pl m):zy (F-1) (cG f L) pl m:=by
 have k:=AE g hf;unfold zy at h |-;rw[Fv]at h |-;obtain⟨B,z,h⟩:=h;obtain⟨w,j,rfl⟩:=cD.1 z;obtain⟨_,A,_⟩:=Qj g j;refine⟨kO (F-1) (cG f L) w,cD.2 ⟨w,?_,rfl⟩,?_⟩
 .show w∈fF (Go.Abs.aO (cG f L)) (Go.Abs.nD (cG f L));rw[k.aO,k.nD];exact j
 unfold Gu at h |-;simp only[cN,cW]at h |-;obtain⟨v,n,u⟩:=h;rw[y8]at v u |-;rw[afE]at n |-;rw[bG];refine⟨v,?_,u⟩;rw[<-n];exact aAl (λx H=>(afP g hf y (A x H)).1) (λx H=>(afP g hf y (A x H)).2) J
def Zf(g:a_ F L)(hf:1<=f)(u:f<=F){pl:Nat}(n:pl<=1){E:Nat}(j:m[0]?=some E)(H:E<I L)(h:mI F L pl m E):mI (F-1) (cG f L) pl m E:=by rw[Hj j H]at h;rw[Hj j (by rw[bG];exact H)];exact aoZ g hf u n h
end
section
variable {f n:Nat}
def Du{p:aK}(h:p.l.aw=false):eV f n p=p:=by obtain⟨l,d⟩:=p;show(⟨dI f n l,d⟩:aK)=_;rw[EO h]
def alJ(ids:bQ)(p:aK):jL ids (eV f n p)=eV f n (jL ids p):=by
 rw[Ez,Ez];show(if((dI f n p.l).kind==2)=true then _ else _)=_;rw[(g_ p.l).1];cases h:p.l.kind==2 with
 |false=>rfl
 |true=>have hp:p.l.aw=false:=jV h;rw[an rfl,an rfl,Du hp];exact(Du (p:=⟨{p.l with id:=lN ids p.l.id},p.d⟩) hp).symm
def ag9(P:aU)(ids:bQ):jS (P.map (eV f n)) ids=(jS P ids).map (eV f n):=by
 rw[xI,xI,O4,gi,gi];have e:P.filter ((λp=> !((p.l.kind==2)&&ids.contains p.l.id)) ∘ eV f n)=P.filter (λp=> !((p.l.kind==2)&&ids.contains p.l.id)):=XF λp _=>by show(!(((dI f n p.l).kind==2)&&ids.contains (dI f n p.l).id))=_;rw[(g_ p.l).1,(g_ p.l).2.1]
 rw[e];exact kD λp _=>alJ ids p
def acq(P:aU)(ids:bQ)(g:Nat):eH (gR g) (jS P ids)=eH (gR g) P:=by
 rw[xI,Rj λp=>⟨Ml ids p,λh=>by
  rw[Ez]at h |-;split
  .rfl
  rfl⟩]
 induction P with
 |nil=>rfl
 |cons p P f=>
  rw[PL];split
  .show gR g p.l+eH _ _=gR g p.l+eH _ _;rw[f]
  rename_i h;have H:(p.l.kind==2):=by
   cases H:p.l.kind==2 with
   |true=>rfl
   |false=>rw[H]at h;exact absurd rfl h
  show _=gR g p.l+eH _ _;rw[f,aac (jV H),Int.zero_add]
def LS(P x:aU)(k:Nat)(h:∀p∈x,p.l.aw=false):ft (P.map (eV f n)) x k=(ft P x k).map (eV f n):=by have e:x.map (eV f n)=x:=(kD λp hp=>Du (h p hp)).trans (List.map_id x);rw[fE,fE,sh,uy,e]
def Nw{x:aU}(g:Nat)(h:∀p∈x,p.l.aw=false):eH (gR g) x=0:=by
 induction x with
 |nil=>rfl
 |cons p x f=>show gR g p.l+eH _ _=0;rw[aac (h p aH),f λq H=>h q (by simp[H])];rfl
def Yk(P:aU)(i:Nat):(P.map (eV f n)).getD i ⟨ga,false⟩=eV f n (P.getD i ⟨ga,false⟩):=by
 rw[dz,dy,dz];cases P[i]? with
 |none=>exact(Du rfl).symm
 |some p=>rfl
variable {F:Nat} {L:af} {P:aU}
def WX:∀(E:aC) (P:aU),fN (cG f L) (P.map (eV f n)) E=(fN L P E).map (eV f n)
 |[],P=>rfl
 |e::E,P=>by show fN (cG f L) (gw (cG f L) (P.map (eV f n)) e) E=(fN L (gw L P e) E).map _;rw[<-WX E];congr 1;unfold gw;rw[vj,Yk,Yk,vd,vd]
def ami(g:a_ F L)(hf:1<=f){a:Nat}(h:n_ L a=some P):n_ (cG f L) a=some (P.map (eV f (aJ L (f-1))))/\eH (gR (f-1)) P=eH (gR (f-1)) (aA L):=by
 have e:n_ (cG f L) a=(n_ L a).map λP=>P.map (eV f (aJ L (f-1))):=by
  unfold n_;rw[bG];show(if((b_ (cG f L) a).l.kind==2&&((b_ (cG f L) (nx L a)).l.kind==2&&(b_ (cG f L) a).l.id==(b_ (cG f L) (nx L a)).l.id))=true then _ else _)=(if((b_ L a).l.kind==2&&((b_ L (nx L a)).l.kind==2&&(b_ L a).l.id==(b_ L (nx L a)).l.id))=true then _ else _:Option aU).map _;rw[AI g hf,AI g hf,(g_ (b_ L a).l).1,(g_ (b_ L (nx L a)).l).1,(g_ (b_ L a).l).2.1,(g_ (b_ L (nx L a)).l).2.1];split
  .show some (jS (aA (cG f L)) [(b_ (cG f L) a).l.id])=some _;rw[xE g hf,ag9,AI g hf,(g_ (b_ L a).l).2.1]
  rfl
 refine⟨by rw[e,h];rfl,?_⟩;unfold n_ at h;simp only at h;split at h
 .cases h;exact acq _ _ _
 cases h
def amx(g:a_ F L)(hf:1<=f)(a:Nat)(sg:Int)(o:Bool):r7 (cG f L) a sg o=(r7 L a sg o).map (eV f (aJ L (f-1)))/\eH (gR (f-1)) (r7 L a sg o)=eH (gR (f-1)) (aA L):=by
 have h:∀p∈[(⟨⟨2,0,0,((au U.aq L/2+1:Nat):Int),sg,o⟩,false⟩:aK),⟨⟨2,0,0,((au U.aq L/2+1:Nat):Int),sg,!o⟩,false⟩],p.l.aw=false:=λp hp=>by simp only[dt,gH,or_false]at hp;rcases hp with rfl|rfl<;>rfl
 unfold r7;rw[(AE g hf).BO,xE g hf,LS _ _ _ h,I2,Nw _ h,ET];exact⟨rfl,rfl⟩
def auO(g:a_ F L)(hf:1<=f)(u:f<=F){a b:Nat}(m:a<I L)(h:ob F L a b=some P):ob (F-1) (cG f L) a b=some (P.map (eV f (aJ L (f-1))))/\eH (gR (f-1)) P=eH (gR (f-1)) (aA L):=by
 have a7:=MN.1 (by rw[h];rfl:(ob F L a b).isSome);have j:EI (F-1) (cG f L) a b:=by
  have k:=λi=>(g_ (f:=f) (n:=aJ L (f-1)) (aR L i)).1;have d:=λi=>(g_ (f:=f) (n:=aJ L (f-1)) (aR L i)).2.1;have o:=λi=>(g_ (f:=f) (n:=aJ L (f-1)) (aR L i)).2.2.2;refine⟨?_,?_,?_,?_,?_,Zf g hf u aa rfl m a7.cor⟩
  .simp only[vj,qE g hf,k];exact a7.cr
  .simp only[vj,qE g hf,o];exact a7.ov
  .simp only[vj,qE g hf,d];exact a7.xl
  .simp only[vj,qE g hf,d];exact a7.yD
  simp only[vj];exact a7.uG
 have E:∀ {F:Nat}{L:af}{P:aU},ob F L a b=some P->P=jS (aA L) [(aR L a).id,(aR L (nx L a)).id]:=λ{F L P} h=>by
  unfold ob at h;split at h
  .exact(ld h).symm
  cases h
 obtain⟨Q,H⟩:=K6.1 (MN.2 j);refine⟨?_,by rw[E h];exact acq _ _ _⟩;rw[H,E H,E h,xE g hf,ag9,vj,qE g hf,qE g hf,(g_ (aR L a)).2.1,(g_ (aR L (nx L a))).2.1]
def ao8(g:a_ F L)(hf:1<=f)(v:f<=F){a b:Nat}(y:a<I L)(x:b<I L){l o:Bool}(h:tj F L a b l o=some P):tj (F-1) (cG f L) a b l o=some (P.map (eV f (aJ L (f-1))))/\eH (gR (f-1)) P=eH (gR (f-1)) (aA L):=by
 have g':=(M_ g hf v).2;have k:=AE g hf;have E:∀d,d<2*I L->nK (F-1) (cG f L) d=nK F L d:=λd n=>by rw[rW g n,rW g' (by rw[bG];exact n),k.dD]
 have m:∀sg,∀p∈ow (au U.aq L/2) sg o,p.l.aw=false:=λsg p hp=>by simp only[dt,gH,or_false]at hp;rcases hp with rfl|rfl<;>rfl
 have H:∀sg s,∀p∈l8 (au U.aq L/2) sg o s,p.l.aw=false:=λsg s p hp=>by cases s<;>simp only[l8,if_true,gJ,if_false,dt,gH,or_false]at hp<;>rcases hp with rfl|rfl<;>rfl
 have j:∀s t,sA L a b l o s t=some P->sA (cG f L) a b l o s t=some (P.map (eV f (aJ L (f-1))))/\eH (gR (f-1)) P=eH (gR (f-1)) (aA L):=λs t h=>by
  unfold sA at h |-;rw[k.BO,xE g hf];split at h
  .cases h
  rename_i u;rw[ai u];have h:=(ld h).symm;subst h;simp only;split
  .rw[LS _ _ _ (H _ _),LS _ _ _ (m _),I2,I2,Nw _ (H _ _),Nw _ (m _),ET,ET];exact⟨rfl,rfl⟩
  rw[LS _ _ _ (m _),LS _ _ _ (H _ _),I2,I2,Nw _ (H _ _),Nw _ (m _),ET,ET];exact⟨rfl,rfl⟩
 unfold tj at h |-;rw[E _ J,E _ J,E _ J,E _ J];cases l
 .rw[ai aa]at h |-;exact j _ _ h
 rw[an rfl]at h |-;exact j _ _ h
def alW(g:a_ F L)(hf:1<=f)(y:f<=F){a b c:Nat}(v:a<I L)(z:b<I L)(A:c<I L)(h:uH F L a b c=some P):uH (F-1) (cG f L) a b c=some (P.map (eV f (aJ L (f-1))))/\eH (gR (f-1)) P=eH (gR (f-1)) (aA L):=by
 unfold uH at h;split at h
 case isFalse=>cases h
 rename_i H;cases h;have kd:=λi=>(g_ (f:=f) (n:=aJ L (f-1)) (aR L i)).1;have id:=λi=>(g_ (f:=f) (n:=aJ L (f-1)) (aR L i)).2.1;have ov:=λi=>(g_ (f:=f) (n:=aJ L (f-1)) (aR L i)).2.2.2;have m:vh (cG f L)=vh L:=by funext e;show((aR (cG f L) e).kind==2&&(aR (cG f L) (nx (cG f L) e)).kind==2)=_;rw[vj,qE g hf,qE g hf,kd,kd];rfl
 have E:∀o,(j8 (cG f L) · o)=(j8 L · o):=λo=>by funext e;show((aR (cG f L) e).kind==2&&((aR (cG f L) (nx (cG f L) e)).kind==2&&((aR (cG f L) e).over==o&&(aR (cG f L) (nx (cG f L) e)).over==o)))=_;rw[vj,qE g hf,qE g hf,kd,kd,ov,ov];rfl
 have u:u0 (cG f L)=u0 L:=by funext j;unfold u0;congr 1;funext e;show [(aR (cG f L) e).id,(aR (cG f L) (nx (cG f L) e)).id]=_;rw[vj,qE g hf,qE g hf,id,id]
 have x:vb (cG f L)=vb L:=by funext j;unfold vb;simp only[vj]
 unfold uH;rw[an,xE g hf,WX]
 .exact⟨rfl,abA g _ _ (cZ L) (by simp only[dt,gH,or_false];rintro e (rfl|rfl|rfl)<;>assumption)⟩
 unfold Fq at H |-;rw[m,E,E,u,x];simp only[cN]at H |-;exact⟨H.1,H.2.1,H.2.2.1,H.2.2.2.1,H.2.2.2.2.1,Zf g hf y aa rfl v H.2.2.2.2.2⟩
def rN.gate(g:a_ F L){a b p v q w:Nat}(B:a<I L)(y:b<I L)(N:a≠b)(h:rN F L a b p v q w):(aR L p).gate=(aR L q).gate:=by
 obtain⟨hp,R⟩:=s6.lt h.ea B;obtain⟨E,M⟩:=s6.lt h.eb y;obtain⟨ma,O⟩:=aM hp;obtain⟨la,x⟩:=aM R;obtain⟨Z,m⟩:=aM E;obtain⟨lb,Q⟩:=aM M;have f_:∀ {l:U},l.kind=1->l.aw:=λh=>by unfold U.aw;rw[h];rfl
 have j:∀ {l:U},l.kind=2->l.aq:=λh=>by unfold U.aq;rw[h];rfl
 have k1:=h.ea.2.1;have k2:=h.ea.2.2;have k3:=h.eb.2.1;have k4:=h.eb.2.2;have H:=h.id;rw[kR O]at k1 |-;rw[kR m]at k3 |-;rw[kR x]at k2 H;rw[kR Q]at k4 H;obtain⟨wk,f,z,d,Y,A6,D,A,two,X⟩:=ZB g B y N h.ea.1 h.eb.1 x Q O m (j k2) (j k4) (f_ k1) (f_ k3) H h.vw h.cor;rcases X with⟨_,_,u,_,T,n⟩|⟨_,_,u,_,T,n⟩
 .exact(ajS g f z A D two u T n O m Q (f_ k3) (j k4)).1
 exact(ajS g f z A D two u T n m O x (f_ k1) (j k2)).1.symm
def al8(g:a_ F L)(hf:1<=f)(R:f<=F){a b:Nat}(H:a<I L)(m:b<I L)(D:a≠b)(h:qz F L a b=some P):qz (F-1) (cG f L) a b=some (P.map (eV f (aJ L (f-1))))/\eH (gR (f-1)) P=eH (gR (f-1)) (aA L):=by
 obtain⟨p,v,q,w,a7,rfl⟩:=aiY g H m h;have z:=a7.gate g H m D;obtain⟨hp,hv⟩:=s6.lt a7.ea H;obtain⟨hq,hw⟩:=s6.lt a7.eb m;have kd:=λi=>(g_ (f:=f) (n:=aJ L (f-1)) (aR L i)).1;have id:=λi=>(g_ (f:=f) (n:=aJ L (f-1)) (aR L i)).2.1;have A:rN (F-1) (cG f L) a b p v q w:=by
  refine⟨⟨?_,?_,?_⟩,⟨?_,?_,?_⟩,a7.vw,?_,Zf g hf R aa rfl H a7.cor⟩
  .rw[vj];exact a7.ea.1
  .rw[qE g hf,kd];exact a7.ea.2.1
  .rw[qE g hf,kd];exact a7.ea.2.2
  .rw[vj];exact a7.eb.1
  .rw[qE g hf,kd];exact a7.eb.2.1
  .rw[qE g hf,kd];exact a7.eb.2.2
  rw[qE g hf,qE g hf,id,id];exact a7.id
 have aw:∀i,(aR L i).kind=1->(aR L i).aw:=λi h=>by unfold U.aw;rw[h];rfl
 have one:∀(X:aU) (i j:Nat),(aR L i).kind=1->(aR L j).kind=1->(aR L i).gate=(aR L j).gate->(X.getD i ⟨ga,false⟩).l.kind=1->(X.getD i ⟨ga,false⟩).l.gate=(aR L i).gate->fv (X.map (eV f (aJ L (f-1)))) i (aR (cG f L) j).ao=(fv X i (aR L j).ao).map (eV f (aJ L (f-1))):=λX i j ki E gI B gx=>by
  unfold fv;rw[Yk,vd];congr 1;have y:(X.getD i ⟨ga,false⟩).l.aw:=by unfold U.aw;rw[B];rfl
  generalize X.getD i ⟨ga,false⟩=x at*;rw[qE g hf,uw (aw j E)];show(⟨{dI f _ x.l with ao:=_},x.d⟩:aK)=⟨dI f _ {x.l with ao:=(aR L j).ao},x.d⟩;congr 1;obtain⟨Q,q2,O,T⟩:=g_ (f:=f) (n:=aJ L (f-1)) x.l;obtain⟨N,Z,z3,M⟩:=g_ (f:=f) (n:=aJ L (f-1)) {x.l with ao:=(aR L j).ao};refine IQ (Q.trans N.symm) ?_ ?_ (q2.trans Z.symm) (O.trans z3.symm) (T.trans M.symm)
  .rw[qF (l:={x.l with ao:=(aR L j).ao}) y];exact qF y
  rw[uw (l:={x.l with ao:=(aR L j).ao}) y,<-gI,<-gx]
 have gD:∀i,(aA L).getD i ⟨ga,false⟩=b_ L i:=λ_=>rfl;have Y:=a7.pq g H m D;have jD:∀r,((fv (aA L) p r).getD q ⟨ga,false⟩).l=aR L q:=λr=>by obtain⟨x,u⟩:=aM (h:=aA L) (k:=p) (by rw[cZ];exact hp);rw[dz,xZ u,ai Y.symm,<-dz]
 constructor
 .rw[A.as,xE g hf,one _ p q a7.ea.2.1 a7.eb.2.1 z a7.ea.2.1 rfl,one _ q p a7.eb.2.1 a7.ea.2.1 z.symm (by rw[jD];exact a7.eb.2.1) (by rw[jD]),WX]
 rw[abA g _ _ (by rw[xX,xX,cZ]) (by simp only[dt,gH,or_false];rintro e (rfl|rfl)<;>assumption)];have st:∀(X:aU) (i:Nat) (r:Int),eH (gR (f-1)) (fv X i r)=eH (gR (f-1)) X:=λX i r=>by
  by_cases hi:i<I X
  .obtain⟨x,u⟩:=aM hi;unfold fv;rw[OT u,show X.getD i ⟨ga,false⟩=x by rw[dz,u];rfl];have:gR (f-1) {x.l with ao:=r}=gR (f-1) x.l:=rfl;rw[this];omega
  unfold fv;rw[L2 J]
 rw[st,st]
end
end Go.Abs
