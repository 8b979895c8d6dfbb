/- A part. -/
import Derived.Test.YtgjjncbeombnbaaGreatDoorWq
set_option linter.all false
open List renaming length->I
set_option maxRecDepth 100000
set_option maxHeartbeats 16000000
namespace Go.Abs
variable{h:Int->Int}{j A:Nat}{v z y R:Int}{x:Int×Int}{m:dG}
section
variable {F:Nat} {L M:af} {P Q:aU} {r:Bool} {s t:Nat->Nat}
def aqR(mY:Go.Abs.inj h L){A B:aU}(N:∀p∈A,p.l∈L)(hR:dp ((if r=true then ep A else A).map (cO h)) B){ids f:bQ}(l1:∀a b,a∉ids->b∉ids->lN ids a=lN ids b->a=b)(l2:∀a b,a∉f->b∉f->lN f a=lN f b->a=b)(X:∀l∈L,l.aq->(l.id∈ids↔h l.id∈f)):Ay (jS A ids) (jS B f):=by
 classical
 have kC:∀ {l:U},l.aq->l.kind=2:=λh=>by unfold U.aq at h;exact cW.1 h
 let R:Int->Int:=λj=>if e:∃l∈L,l.aq/\l.id∉ids/\lN ids l.id=j then lN f (h (Classical.choose e).id)else 0
 have M:∀l∈L,l.aq->l.id∉ids->R (lN ids l.id)=lN f (h l.id):=λl hl F D=>by have e:∃z∈L,z.aq/\z.id∉ids/\lN ids z.id=lN ids l.id:=⟨l,hl,F,D,rfl⟩;show(if e:_ then _ else _)=_;rw[dif_pos e];obtain⟨q1,q2,q3,q4⟩:=Classical.choose_spec e;rw[l1 _ _ q3 D q4]
 have keep:∀p:aK,(!((p.l.kind==2)&&ids.contains p.l.id))↔(p.l.aq->p.l.id∉ids):=λp=>by rw[LO];cases p.l.kind==2<;>simp
 have hP:∀p∈jS A ids,∃z∈A,(z.l.aq->z.l.id∉ids)/\p=jL ids z:=λp hp=>by rw[xI]at hp;obtain⟨z,H,rfl⟩:=cD.1 hp;obtain⟨m,n⟩:=pg.1 H;exact⟨z,m,(keep z).1 n,rfl⟩
 refine⟨r,R,?_,?_⟩
 .intro u Q v hv T kv e;have y:∀u∈(jS A ids).map aK.l,u.kind=2->∃z∈L,z.aq/\z.id∉ids/\u.id=lN ids z.id:=λu Q T=>by
   obtain⟨p,hp,rfl⟩:=cD.1 Q;obtain⟨z,H,D,rfl⟩:=hP p hp;have cz:z.l.aq:=by have:=Ml ids z;unfold U.aq;rw[<-this,T];rfl
   exact⟨z.l,N z H,cz,D cz,afd cz⟩
  obtain⟨z1,m,c1,n1,E⟩:=y u Q T;obtain⟨Z,n,O,n2,e2⟩:=y v hv kv;rw[E,e2,M z1 m c1 n1,M Z n O n2]at e;have:=l2 _ _ (λx=>n1 ((X z1 m c1).2 x)) (λx=>n2 ((X Z n O).2 x)) e;rw[E,e2,mY _ m _ n (kC c1) (kC O) this]
 have tQ:=hR.jS f;refine Eq.mp (congrArg (λz=>dp z _) ?_) tQ;have one:∀l:aU,(∀z∈l,z.l∈L)->jS (l.map (cO h)) f=(jS l ids).map (cO R):=λl hl=>by
  rw[xI,xI,O4,gi,gi];have E:l.filter ((λp=> !((p.l.kind==2)&&f.contains p.l.id)) ∘ cO h)=l.filter (λp=> !((p.l.kind==2)&&ids.contains p.l.id)):=XF λp hp=>by
   show(!(((dk h p.l).kind==2)&&f.contains (dk h p.l).id))=_;rw[(FG h p.l).1];cases Y:p.l.kind==2 with
   |false=>rfl
   |true=>rw[Qh h Y];have:=X p.l (hl p hp) Y;congr 2;rw[Ik,IT,IT];exact this.symm
  rw[E];refine kD λp hp=>?_;obtain⟨m,n⟩:=pg.1 hp;exact aea λF=>M p.l (hl p m) F ((keep p).1 n F)
 have F1:∀l:aU,ep (jS l ids)=jS (ep l) ids:=λl=>by rw[xI,xI,Lf λp=>ajK _ p];congr 1;unfold ep;rw[O4,<-List.filter_reverse];rfl
 cases r with
 |false=>exact one A N
 |true=>rw[an rfl,an rfl,F1];refine one (ep A) λz H=>?_;unfold ep at H;obtain⟨z0,h0,rfl⟩:=cD.1 H;exact N z0 (yW.1 h0)
def ad2{p q:Int}(h:p≠q)(a b:Int)(H:a∉[p,q])(j:b∉[p,q])(e:lN [p,q] a=lN [p,q] b):a=b:=by
 simp only[dt,gH,or_false,AX]at H j;have L:∀k,lN [p,q] k=k-(if p<k then 1 else 0)-(if q<k then 1 else 0):=λk=>by unfold lN;by_cases c1:p<k<;>by_cases f:q<k<;>simp[c1,f]<;>omega
 rw[L,L]at e;split at e<;>split at e<;>split at e<;>split at e<;>omega
def cM.k6(i:cM F L M r s t){a b:Nat}(dm:a<b)(hb:b<I L)(h:ob F L a b=some P)(vX:dM (F:Int) (cL P)=0):∃a' Z Q,a'<Z/\Z<I M/\ob F M a' Z=some Q/\jo (cL Q) (cL P):=by
 have B:a<I L:=J;have f_:=X3 i.g B hb h;obtain⟨H,R,_,hR,Kt,_⟩:=i.SZ;have a7:=MN.1 (by rw[h];rfl:(ob F L a b).isSome);have D:=i.c6 B hb a7;have wV:P=jS (aA L) [(aR L a).id,(aR L (nx L a)).id]:=by
  unfold ob at h;split at h
  .exact(ld h).symm
  cases h
 have HQ:nx L a<I L:=cJ _ J;have aj:nx L b<I L:=cJ _ J;have N:∀v,v<I L->(aR L v).kind=2->(aR M (s v)).id=H (aR L v).id:=λv O hk=>by obtain⟨l,hl⟩:=aM O;rw[kR hl]at hk |-;obtain⟨m,hm,e⟩:=Kt v l hl (by unfold U.aq;rw[hk];rfl);rw[kR hm,e]
 have f:∀v,v<I L->aR L v∈L:=λv O=>by obtain⟨l,hl⟩:=aM O;rw[kR hl];exact aX hl
 have aN:H (aR L a).id≠H (aR L (nx L a)).id:=λe=>a7.xl (R _ (f a B) _ (f _ HQ) a7.cr.1 a7.cr.2.1 e)
 have A:((aR M (c_ (I L) r s a)).id=H (aR L a).id/\(aR M (nx M (c_ (I L) r s a))).id=H (aR L (nx L a)).id)\/((aR M (c_ (I L) r s a)).id=H (aR L (nx L a)).id/\(aR M (nx M (c_ (I L) r s a))).id=H (aR L a).id):=by
  have m1:=N a B a7.cr.1;have m2:=N _ HQ a7.cr.2.1;rcases i.ends B with⟨_,j,E⟩|⟨_,j,E⟩
  .rw[j]at E |-;rw[E];exact .inl ⟨m1,m2⟩
  rw[j]at E |-;rw[E];exact .inr ⟨m2,m1⟩
 have x:∀z,z∈[(aR M (c_ (I L) r s a)).id,(aR M (nx M (c_ (I L) r s a))).id]↔z=H (aR L a).id\/z=H (aR L (nx L a)).id:=λz=>by
  simp only[dt,gH,or_false];rcases A with⟨j,E⟩|⟨j,E⟩<;>rw[j,E]
  exact or_comm
 have y:∀z,z∈[(aR M (c_ (I L) r s b)).id,(aR M (nx M (c_ (I L) r s b))).id]↔z=H (aR L a).id\/z=H (aR L (nx L a)).id:=λz=>by
  rw[<-x];simp only[dt,gH,or_false];rcases D.yD with⟨j,E⟩|⟨j,E⟩<;>rw[j,E]
  exact or_comm
 have fin:∀(u v:Nat) (Q:aU),ob F M u v=some Q->u<I M->v<I M->(∀z,z∈[(aR M u).id,(aR M (nx M u)).id]↔z=H (aR L a).id\/z=H (aR L (nx L a)).id)->(aR M u).id≠(aR M (nx M u)).id->jo (cL Q) (cL P):=λu v Q n hu O iG hd=>by
  have cQ:=X3 i.g' hu O n;have ag:Q=jS (aA M) [(aR M u).id,(aR M (nx M u)).id]:=by
   unfold ob at n;split at n
   .exact(ld n).symm
   cases n
  have ad:Ay P Q:=by
   rw[wV,ag];refine aqR R (λp hp=>ru hp) hR (ad2 a7.xl) (ad2 hd) λl hl hc=>?_;rw[iG];have kl:l.kind=2:=by unfold U.aq at hc;exact cW.1 hc
   simp only[dt,gH,or_false];constructor
   .rintro (e|e)
    .exact .inl (by rw[e])
    exact .inr (by rw[e])
   rintro(e|e)
   .exact .inl (R _ hl _ (f a B) kl a7.cr.1 e)
   exact .inr (R _ hl _ (f _ HQ) kl a7.cr.2.1 e)
  refine ad.jo f_ cQ vX λp hp dA=>?_;rw[wV]at hp;exact agr (λp hp=>Bp hp) p hp dA
 have T:c_ (I L) r s a<I M:=by rw[i.len];exact i.AP B
 have X:c_ (I L) r s b<I M:=by rw[i.len];exact i.AP hb
 have Y:c_ (I L) r s a≠c_ (I L) r s b:=λe=>by have:=D.ov.2.2;rw[e]at this;revert this;cases(aR M (c_ (I L) r s b)).over<;>simp
 have qN:=D.xl;have ac:(aR M (c_ (I L) r s b)).id≠(aR M (nx M (c_ (I L) r s b))).id:=by
  rcases D.yD with⟨j,E⟩|⟨j,E⟩<;>rw[j,E]
  .exact qN
  exact qN.symm
 rcases Hs Y with aB|aB
 .obtain⟨Q,n⟩:=K6.1 (MN.2 D);exact⟨_,_,Q,aB,X,n,fin _ _ Q n T X x qN⟩
 obtain⟨Q,n⟩:=K6.1 (MN.2 (D.symm T X));exact⟨_,_,Q,aB,T,n,fin _ _ Q n X T y ac⟩
end
def Yg{α:Type}{l:List α}{k:Nat}(f:j<I l)(H:k<I l):(l.drop (j+1)++l.take (j+1))[k]?=l[(j+1+k)%I l]? :=by
 by_cases h:j+1<I l
 .exact M1 h H
 have e:j+1=I l:=J;rw[e,KT,jz,fz,Nat.add_mod_left,eN H]
section
variable {F:Nat} {L M:af} {P Q:aU} {r:Bool} {s t:Nat->Nat}
def cM.Tg(i:cM F L M r s t){v:Nat}(H:v<I L){k:Nat}(h:k<=I L):s ((v+k)%I L)=if r=true then(s v+I L-k)%I L else(s v+k)%I L:=by have:=i.symm.TE (v:=v) (by rw[i.len];exact H) k (by rw[i.len];exact h);rwa[i.len]at this
def cM.abw(i:cM F L M r s t)(hp:∀v,v<I L->(aA M)[s v]?=((aA L)[v]?).map λp=>cO h (if r=true then gL p else p)){e:Nat}(H:e<I L):(aA M).drop (c_ (I L) r s e+1)++(aA M).take (c_ (I L) r s e+1)=(if r=true then ep ((aA L).drop (e+1)++(aA L).take (e+1))else(aA L).drop (e+1)++(aA L).take (e+1)).map (cO h):=by
 have n:0<I L:=J;have u:=i.AP H;have N:I ((aA L).drop (e+1)++(aA L).take (e+1))=I L:=by rw[<- (Ct (aA L) (e+1)).len,cZ]
 have z:I ((aA M).drop (c_ (I L) r s e+1)++(aA M).take (c_ (I L) r s e+1))=I L:=by rw[<- (Ct (aA M) _).len,cZ,i.len]
 apply nj;intro k;by_cases j:k<I L
 .rw[Yg (by rw[cZ,i.len];exact u) (by rw[cZ,i.len];exact j),cZ,i.len,dy];rcases i.ends H with⟨m,E,x⟩|⟨m,E,x⟩
  .have f:=i.Tg H (k:=k+1) J;rw[E];simp only[m,gJ,if_false]at f hp |-;rw[show s e+1+k=s e+(k+1) by omega,<-f,hp _ (cJ _ n),Yg (by rw[cZ];exact H) (by rw[cZ];exact j),cZ,show e+1+k=e+(k+1) by omega]
  have y:nx L e<I L:=cJ _ n;have f:=i.Tg y (k:=I L-1-k) J;rw[E];simp only[m,if_true]at f hp |-;rw[show s (nx L e)+1+k=s (nx L e)+I L-(I L-1-k) by omega,<-f,hp _ (cJ _ n),Uq (by rw[N];exact j),N,Yg (by rw[cZ];exact H) (by rw[cZ];omega),cZ,Option.map_map];have:(nx L e+(I L-1-k))%I L=(e+1+(I L-1-k))%I L:=by show((e+1)%I L+_)%I L=_;rw[vT]
  rw[this];rfl
 rw[kQ J,kQ (by
  rw[bG];cases r
  .rw[ai aa,N];omega
  rw[an rfl,Gc,N];omega)]
def cM.dmE(i:cM F L M r s t){e:Nat}(H:e<I L)(b:Bool):kN (I L) r s (if b=true then 2*e+1 else 2*e)=if(b !=r)=true then 2*c_ (I L) r s e+1 else 2*c_ (I L) r s e:=by
 have j:=i.along H true;have E:dx (I L) e true=2*e:=rfl;rw[E]at j;have f:kN (I L) r s (2*e)%2=if r=true then 1 else 0:=by
  rw[j];cases r with
  |false=>show(2*s e)%2=0;omega
  |true=>show(2*((s e+I L-1)%I L)+1)%2=1;omega
 rcases i.JI H with⟨k1,k2⟩|⟨k1,k2⟩
 .rw[k1]at f;have h:r=false:=by
   cases r
   .rfl
   rw[an rfl]at f;omega
  rw[h]at k1 k2 |-;cases b
  .exact k1
  exact k2
 rw[k1]at f;have h:r:=by
  cases r
  .rw[ai aa]at f;omega
  rfl
 rw[h]at k1 k2 |-;cases b
 .exact k1
 exact k2
def cM.ahd(i:cM F L M r s t){d D:Nat}(f:d<nD L)(m:D<nD L)(e:dD L d=dD L D):dD M (kN (I L) r s d)=dD M (kN (I L) r s D):=by obtain⟨w,h,u⟩:=xo i.g f;obtain⟨y,Q,n⟩:=xo i.g m;rw[<-e,h]at Q;cases Q;obtain⟨x,v,hp⟩:=i.walk (aX h);obtain⟨j,H⟩:=fX v;rw[Ap i.g' H (hp.mem_iff.1 (cD.2 ⟨d,u,rfl⟩)),Ap i.g' H (hp.mem_iff.1 (cD.2 ⟨D,n,rfl⟩))]
def abb(g:a_ F L):0<I (ay L):=by obtain⟨l,h,hp⟩:=g.first;exact K4 (qD.2 ⟨_,h,hp⟩)
def amu(g:a_ F L){d b c:Nat}(n:d<2*I L)(B:b<=F)(X:c<=aJ L b){v:Bool}(h:dD L d=if v=true then eS L b c else eR L b c):dn L (d/2+1)=v:=by
 have Y:=abb g;have Wq:=cJ (cX L b+c+I (ay L)-1) Y;have D:(b,c)∈(gv F L d).places:=by
  obtain⟨w,H,R,hf⟩:=P_ (F:=F) g n;obtain⟨vV,O⟩:=adX g B X rfl;obtain⟨i,u⟩:=fX H;have M:=Ap g u R;have E:2*I L+2*((cX L b+c+I (ay L)-1)%I (ay L))+(if v=true then 0 else 1)∈w:=by
   have e:dD L d=dD L (2*I L+2*((cX L b+c+I (ay L)-1)%I (ay L))+(if v=true then 0 else 1)):=by rw[h];cases v<;>rfl
   obtain⟨y,j,N⟩:=xo g (x:=2*I L+2*((cX L b+c+I (ay L)-1)%I (ay L))+(if v=true then 0 else 1)) (by unfold nD;split<;>omega);rw[<-e,M,u]at j;cases j
   exact N
  rw[hf];unfold kO;refine aek (x:=2*I L+2*((cX L b+c+I (ay L)-1)%I (ay L))+(if v=true then 0 else 1)) J ?_ w _ (.inr E);rw[show(2*I L+2*((cX L b+c+I (ay L)-1)%I (ay L))+(if v=true then 0 else 1)-2*I L)/2=(cX L b+c+I (ay L)-1)%I (ay L) by split<;>omega];exact O
 have f:=I4 g n D;have A:eS L b c≠eR L b c:=λe=>by
  have m:∀t,t<2->2*I L+2*((cX L b+c+I (ay L)-1)%I (ay L))+t<nD L:=λt ht=>by unfold nD;omega
  obtain⟨w,H,z⟩:=xo g (m 0 J);obtain⟨y,j,Q⟩:=xo g (m 1 J);have T:dD L (2*I L+2*((cX L b+c+I (ay L)-1)%I (ay L))+0)=dD L (2*I L+2*((cX L b+c+I (ay L)-1)%I (ay L))+1):=e;rw[<-T,H]at j;cases j;refine aa6 g (m 0 J) (aX H) z ?_;rw[show 2*I L+2*((cX L b+c+I (ay L)-1)%I (ay L))+0=2*(I L+(cX L b+c+I (ay L)-1)%I (ay L)) by omega,rh];rw[show 2*(I L+(cX L b+c+I (ay L)-1)%I (ay L))+1=2*I L+2*((cX L b+c+I (ay L)-1)%I (ay L))+1 by omega];exact Q
 rw[h]at f;cases v<;>cases Z:dn L (d/2+1)<;>rw[Z]at f<;>first|rfl|exact absurd f A|exact absurd f.symm A
def Qw(g:a_ F L){a b c:Nat}(B:a<I L)(H:b<=F)(u:c<=aJ L b){f v:Bool}(h:dD L (if f=true then 2*a+1 else 2*a)=if v=true then eS L b c else eR L b c):og F L a b c=some (ft (eL (aA L) b c 2) [iK b (if(v !=f)=true then((c+2:Nat):Int)else((c+1:Nat):Int)) v,iK b (if(v !=f)=true then((c+1:Nat):Int)else((c+2:Nat):Int)) (!v)] a):=by
 have z:(if f=true then 2*a+1 else 2*a)/2=a:=by split<;>omega
 have m:=amu g (d:=if f=true then 2*a+1 else 2*a) (by split<;>omega) H u h;rw[z]at m;have j:(b,c)∈(gv F L (if f=true then 2*a+1 else 2*a)).places:=arh g (by split<;>omega) H u (by rw[z,m];exact h);have A:=Ri (F:=F) g (d:=2*a) J;have n:=Ri (F:=F) g (d:=2*a+1) J;rw[show 2*a/2+1=a+1 by omega,m]at A;rw[show(2*a+1)/2+1=a+1 by omega,m]at n;unfold og;cases f with
 |false=>have j:(b,c)∈(gv F L (2*a)).places:=j;rw[an j];unfold wD;rw[A]
 |true=>
  have j:(b,c)∈(gv F L (2*a+1)).places:=j;have y:(b,c)∉(gv F L (2*a)).places:=λx=>by have E:=I4 g (d:=2*a) J x;rw[show 2*a/2+1=a+1 by omega,m]at E;exact ZJ g B (E.trans h.symm)
  rw[ai y,an j];unfold wD;rw[n]
end
section
variable {f n F:Nat} {L:af} {P:aU}
def aoR{d:Nat->Bool}(φ:aK->aK)(P:aU):kW (P.map φ) (λk _=>d k)=(kW P λk _=>d k).map φ:=by
 unfold kW sD;rw[bG,List.map_filterMap];congr 1;funext i;unfold I_;rw[dy];cases P[i]? with
 |none=>rfl
 |some p=>show(if d i=true then none else some (φ p))=(if d i=true then none else some p).map φ;split<;>rfl
def Q8(g:Nat):eH (gR g) (aA L)=(aJ L g:Int):=by rw[ans,agQ]
def GJ(g:a_ F L)(hf:1<=f){p:aK}(h:p∈aA L)(hp:p.l.aw):0<=p.l.gate/\1<=p.l.ao/\(p.l.gate=(f:Int)-1->p.l.ao<=(aJ L (f-1):Int)):=by obtain⟨j,H,m⟩:=asu (f:=f) g h hp;exact⟨j,H,λe=>m e hf⟩
def adA{a:Nat}(h:a<I L):b_ L a∈aA L:=by obtain⟨p,hp⟩:=aM (h:=aA L) (k:=a) (by rw[cZ];exact h);rw[jr hp];exact aX hp
def g1(hf:1<=f){x:Int}:x=((f-1:Nat):Int)↔x=(f:Int)-1:=J
def azp(g:a_ F L)(hf:1<=f){a:Nat}(A:a<I L)(h:qc L a=some P):qc (cG f L) a=some (P.map (eV f (aJ (cL P) (f-1)))):=by
 have Q:nx L a<I L:=cJ _ J;have O:=Mu g A;have k:=AE g hf;have H:(if((b_ L a).l.kind==1)&&(((b_ L (nx L a)).l.kind==1)&&(((b_ L a).l.gate==(b_ L (nx L a)).l.gate)&&((hU (b_ L a).l.ao (b_ L (nx L a)).l.ao-m_ (b_ L a).l.ao (b_ L (nx L a)).l.ao==1)&& !(decide (au U.aw L<=2)&&decide (0<au U.aq L/2)))))then some (eL (kW (aA L) λk _=>decide (k=a)||decide (k=nx L a)) (b_ L a).l.gate (hU (b_ L a).l.ao (b_ L (nx L a)).l.ao) (-2))else none)=some P:=h;split at H
 case isFalse=>cases H
 rename_i B;have v:=(ld H).symm;simp only[cN,cW]at B;obtain⟨c1,n,c3,c4,N⟩:=B;have m:(b_ L a).l.aw:=by unfold U.aw;rw[c1];rfl
 have j:(b_ L (nx L a)).l.aw:=by unfold U.aw;rw[n];rfl
 obtain⟨r1,r2,R⟩:=GJ g hf (adA A) m;obtain⟨Z,Y,uY⟩:=GJ g hf (adA Q) j;have u:(aJ (cL P) (f-1):Int)=(aJ L (f-1):Int)+if(b_ L a).l.gate=(f:Int)-1 then -2 else 0:=by rw[PK,v,Rj (XW _ _ _),auW (D:=[a,nx L a]) (by simp[O]) (by simp only[dt,gH,or_false,cZ];rintro i (rfl|rfl)<;>assumption) (λi p _=>aH),Q8];show _-(gR (f-1) (b_ L a).l+(gR (f-1) (b_ L (nx L a)).l+0))=_;rw[HU m,HU j,<-c3];simp only[g1 hf];split<;>omega
 have M:∀x y:Int,hU x y=x\/hU x y=y:=λx y=>by unfold hU;split<;>simp
 have T:∀x y z:Int,hU (x+z) (y+z)=hU x y+z/\m_ (x+z) (y+z)=m_ x y+z:=λx y z=>by unfold hU m_;constructor<;>split<;>split<;>omega
 have rk:hU (b_ (cG f L) a).l.ao (b_ (cG f L) (nx L a)).l.ao=(if(b_ L a).l.gate=(f:Int)then hU (b_ L a).l.ao (b_ L (nx L a)).l.ao+(aJ L (f-1):Int)else hU (b_ L a).l.ao (b_ L (nx L a)).l.ao)/\m_ (b_ (cG f L) a).l.ao (b_ (cG f L) (nx L a)).l.ao=(if(b_ L a).l.gate=(f:Int)then m_ (b_ L a).l.ao (b_ L (nx L a)).l.ao+(aJ L (f-1):Int)else m_ (b_ L a).l.ao (b_ L (nx L a)).l.ao):=by
  rw[AI g hf,AI g hf];show hU (dI f _ _).ao (dI f _ _).ao=_/\m_ (dI f _ _).ao (dI f _ _).ao=_;rw[uw m,uw j,<-c3];split
  .exact T _ _ _
  exact⟨rfl,rfl⟩
 have gt:(b_ (cG f L) a).l.gate=if(f:Int)<=(b_ L a).l.gate then(b_ L a).l.gate-1 else(b_ L a).l.gate:=by rw[AI g hf];exact qF m
 show(if((b_ (cG f L) a).l.kind==1)&&(((b_ (cG f L) (nx (cG f L) a)).l.kind==1)&&(((b_ (cG f L) a).l.gate==(b_ (cG f L) (nx (cG f L) a)).l.gate)&&((hU (b_ (cG f L) a).l.ao (b_ (cG f L) (nx (cG f L) a)).l.ao-m_ (b_ (cG f L) a).l.ao (b_ (cG f L) (nx (cG f L) a)).l.ao==1)&& !(decide (au U.aw (cG f L)<=2)&&decide (0<au U.aq (cG f L)/2)))))then some (eL (kW (aA (cG f L)) λk _=>decide (k=a)||decide (k=nx (cG f L) a)) (b_ (cG f L) a).l.gate (hU (b_ (cG f L) a).l.ao (b_ (cG f L) (nx (cG f L) a)).l.ao) (-2))else none)=_;rw[vj,an]
 .generalize aJ (cL P) (f-1)=X at u |-;rw[rk.1,gt,xE g hf,aoR (d:=λk=>decide (k=a)||decide (k=nx L a)),v];show some (List.map _ (List.map _ _))=some (List.map _ (List.map _ _));rw[gi,gi];congr 1;refine kD λp hp=>(Zj (c:=0) hf (λh=>GJ g hf (Rc hp) h) r1 (λe=>?_) ?_ u).symm
  .rcases M (b_ L a).l.ao (b_ L (nx L a)).l.ao with E|E<;>rw[E]
   .exact R e
   exact uY (by rw[<-c3];exact e)
  rcases M (b_ L a).l.ao (b_ L (nx L a)).l.ao with E|E<;>rw[E]<;>omega
 simp only[cN,cW];refine⟨?_,?_,?_,?_,?_⟩
 .rw[AI g hf];exact(g_ _).1.trans c1
 .rw[AI g hf];exact(g_ _).1.trans n
 .rw[gt,AI g hf];show _=(dI f _ _).gate;rw[qF j,<-c3]
 .rw[rk.1,rk.2];split<;>omega
 rw[k.DE,k.BO];exact N
def azk(g:a_ F L)(hf:1<=f)(b c:Nat):cX (cG f L) (if f<=b then b-1 else b)+(if b=f then c+aJ L (f-1)else c)=cX L b+c:=by
 rw[acv hf];by_cases h:f<=b
 .rw[an h];by_cases H:b=f
  .subst H;rw[an rfl,an J];have E:=lz L (b-1);rw[show b-1+1=b by omega]at E;omega
  rw[ai H,ai J,show b-1+1=b by omega]
 rw[ai h,an J,ai J]
def agx(g:a_ F L)(hf:1<=f)(b c:Nat):eS (cG f L) (if f<=b then b-1 else b) (if b=f then c+aJ L (f-1)else c)=eS L b c/\eR (cG f L) (if f<=b then b-1 else b) (if b=f then c+aJ L (f-1)else c)=eR L b c:=by have k:=AE g hf;unfold eS eR;rw[azk g hf,k.dD,k.Dv,bG];exact⟨rfl,rfl⟩
def axd(hf:1<=f)(b:Nat)(r:Int)(d:Bool):eV f n (iK b r d)=iK (if f<=b then b-1 else b) (if b=f then r+(n:Int)else r) d:=by
 have hp:(iK b r d).l.aw:=rfl;show(⟨dI f n (iK b r d).l,d⟩:aK)=⟨(iK _ _ d).l,d⟩;congr 1;obtain⟨j,u,m,Q⟩:=g_ (f:=f) (n:=n) (iK b r d).l;refine IQ j ?_ ?_ u m Q
 .rw[qF hp];show(if(f:Int)<=(b:Int)then(b:Int)-1 else(b:Int))=((if f<=b then b-1 else b:Nat):Int);by_cases h:f<=b
  .rw[an (show(f:Int)<=(b:Int) by omega),an h];omega
  rw[ai (show¬(f:Int)<=(b:Int) by omega),ai h]
 rw[uw hp];show(if(b:Int)=(f:Int)then r+(n:Int)else r)=if b=f then r+(n:Int)else r;by_cases h:b=f
 .rw[an (show(b:Int)=(f:Int) by omega),an h]
 rw[ai (show¬(b:Int)=(f:Int) by omega),ai h]
def asH(g:a_ F L)(hf:1<=f)(R:f<=F){a b c:Nat}(D:a<I L)(M:b<=F)(u:c<=aJ L b)(h:og F L a b c=some P):(if f<=b then b-1 else b)<=F-1/\(if b=f then c+aJ L (f-1)else c)<=aJ (cG f L) (if f<=b then b-1 else b)/\og (F-1) (cG f L) a (if f<=b then b-1 else b) (if b=f then c+aJ L (f-1)else c)=some (P.map (eV f (aJ (cL P) (f-1)))):=by
 have g':=(M_ g hf R).2;have Q:(if f<=b then b-1 else b)<=F-1:=by split<;>omega
 have B:(if b=f then c+aJ L (f-1)else c)<=aJ (cG f L) (if f<=b then b-1 else b):=by
  rw[KW hf];by_cases x:f<=b
  .rw[an x,ai (show¬b-1+1<f by omega)];by_cases H:b=f
   .rw[an H,an (show b-1+1=f by omega),show b-1+1=b by omega,<-H];omega
   rw[ai H,ai (show¬b-1+1=f by omega),show b-1+1=b by omega];exact u
  rw[ai x,ai (show¬b=f by omega)];split
  .exact u
  rw[an (show b+1=f by omega)];omega
 refine⟨Q,B,?_⟩;obtain⟨j,ia⟩:∃j:Bool,(b,c)∈(gv F L (if j=true then 2*a+1 else 2*a)).places:=by
  unfold og at h;split at h
  .exact⟨false,by assumption⟩
  split at h
  .exact⟨true,by assumption⟩
  cases h
 have X:(if j=true then 2*a+1 else 2*a)<2*I L:=by split<;>omega
 have Z:=I4 g X ia;generalize dn L ((if j=true then 2*a+1 else 2*a)/2+1)=v at Z;have m:=Qw g D M u Z;rw[h]at m;have m:=ld m;have A:dD (cG f L) (if j=true then 2*a+1 else 2*a)=if v=true then eS (cG f L) (if f<=b then b-1 else b) (if b=f then c+aJ L (f-1)else c)else eR (cG f L) (if f<=b then b-1 else b) (if b=f then c+aJ L (f-1)else c):=by rw[(AE g hf).dD,(agx g hf b c).1,(agx g hf b c).2];exact Z
 have O:=Qw g' (by rw[bG];exact D) Q B A;rw[O];have y:(aJ (cL P) (f-1):Int)=(aJ L (f-1):Int)+if(b:Int)=(f:Int)-1 then 2 else 0:=by rw[PK,m,I2,Rj (XW _ _ _),Q8];show _+(gR (f-1) (iK _ _ _).l+(gR (f-1) (iK _ _ _).l+0))=_;rw[HU rfl,HU rfl];simp only[g1 hf];show _+((if(b:Int)=_ then _ else _)+((if(b:Int)=_ then _ else _)+0))=_;split<;>omega
 generalize Y:aJ (cL P) (f-1)=N at*;rw[m,fE,fE,sh,uy,gi];have em:(aA L).map (eV f N ∘ ch b c 2)=(aA (cG f L)).map (ch ((if f<=b then b-1 else b:Nat):Int) ((if b=f then c+aJ L (f-1)else c:Nat):Int) 2):=by
  rw[xE g hf,gi];refine kD λp hp=>?_;have:=Zj (p:=p) (G:=(b:Int)) (A:=(c:Int)) (δ:=2) (n:=aJ L (f-1)) (N:=N) (c:=0) hf (λh=>GJ g hf hp h) J (λe=>?_) J y
  .show eV f N (ch b c 2 p)=ch _ _ 2 (eV f _ p);rw[this];congr 1
   .split<;>split<;>omega
   split<;>split<;>omega
  have:b=f-1:=J;subst this;omega
 have E:∀(k:Nat) d,eV f N (iK b ((c+k:Nat):Int) d)=iK (if f<=b then b-1 else b) (((if b=f then c+aJ L (f-1)else c)+k:Nat):Int) d:=λk d=>by
  rw[axd hf];congr 1;by_cases H:b=f
  .rw[an H,an H];rw[ai J]at y;omega
  rw[ai H,ai H]
 have T:[iK (if f<=b then b-1 else b) (if(v !=j)=true then(((if b=f then c+aJ L (f-1)else c)+2:Nat):Int)else(((if b=f then c+aJ L (f-1)else c)+1:Nat):Int)) v,iK (if f<=b then b-1 else b) (if(v !=j)=true then(((if b=f then c+aJ L (f-1)else c)+1:Nat):Int)else(((if b=f then c+aJ L (f-1)else c)+2:Nat):Int)) (!v)]=List.map (eV f N) [iK b (if(v !=j)=true then((c+2:Nat):Int)else((c+1:Nat):Int)) v,iK b (if(v !=j)=true then((c+1:Nat):Int)else((c+2:Nat):Int)) (!v)]:=by
  show _=[eV f N _,eV f N _];cases v !=j
  .simp only[gJ,if_false];rw[E,E]
  simp only[if_true];rw[E,E]
 rw[em,T]
end
section
variable {f n F:Nat} {L X:af} {P:aU}
def y_(l:U)(G R:Int)(d:Bool)(hp:l.aw):eV f n ⟨{l with gate:=G,ao:=R},d⟩=⟨{l with gate:=if(f:Int)<=G then G-1 else G,ao:=if G=(f:Int)then R+(n:Int)else R},d⟩:=by
 show(⟨dI f n _,d⟩:aK)=_;congr 1;obtain⟨h,m,j,Q⟩:=g_ (f:=f) (n:=n) {l with gate:=G,ao:=R};refine IQ h ?_ ?_ m j Q
 .exact qF (l:={l with gate:=G,ao:=R}) hp
 exact uw (l:={l with gate:=G,ao:=R}) hp
def Ss{a:Nat}{l:U}{d:Bool}(hf:1<=f)(h:(aA L)[a]?=some ⟨l,d⟩)(hp:l.aw){G:Int}(ae:ch G v z ⟨l,d⟩=⟨l,d⟩)(H:P=((aA L).map (ch G v z)).set a ⟨{l with gate:=y,ao:=R},d⟩):
  (aJ (cL P) (f-1):Int)=(aJ L (f-1):Int)-(if l.gate=(f:Int)-1 then 1 else 0)+if y=(f:Int)-1 then 1 else 0:=by
 rw[PK,H,OT (x:=⟨l,d⟩) (by rw[dy,h];exact congrArg some ae),Rj (XW _ _ _),Q8,HU hp,HU (l:={l with gate:=y,ao:=R}) hp];simp only[g1 hf]
def ags(g:a_ F L)(hf:1<=f){a:Nat}{l:U}{d:Bool}(hp:l.aw){G j:Int}(D:P=((aA L).map (ch G v z)).set a ⟨{l with gate:=y,ao:=R},d⟩)(m:0<=G)(x:0<=v)(H:G≠(f:Int))(A:G=(f:Int)-1->v<=(aJ L (f-1):Int)){n:Nat}(B:(n:Int)=(aJ L (f-1):Int)+if G=(f:Int)-1 then z else 0)(E:(if y=(f:Int)then R+(n:Int)else R)=j):
  P.map (eV f n)=((aA (cG f L)).map (ch (if(f:Int)<=G then G-1 else G) v z)).set a ⟨{l with gate:=if(f:Int)<=y then y-1 else y,ao:=j},d⟩:=by
 rw[D,vd,gi,y_ _ _ _ _ hp,E,xE g hf,gi];congr 1;refine kD λp u=>?_;have:=Zj (p:=p) (δ:=z) (c:=0) hf (λh=>GJ g hf u h) m A x B;rw[ai H]at this;exact this
def P8{l:U}(hp:l.aw)(G R:Int)(n:Nat):({dI f n l with gate:=G,ao:=R}:U)={l with gate:=G,ao:=R}:=by obtain⟨h,m,j,Q⟩:=g_ (f:=f) (n:=n) l;exact IQ h rfl rfl m j Q
def X6{a:Nat}(j:a<I L)(h:s3 F L a=some P):∃l d,(aA L)[a]?=some ⟨l,d⟩/\L[a]?=some l/\l.kind=1/\l.gate<(F:Int)/\l.ao=(aJ L l.gate.toNat:Int)/\P=((aA L).map (ch (l.gate+1) 0 1)).set a ⟨{l with gate:=l.gate+1,ao:=1},d⟩:=by
 obtain⟨l,hl⟩:=aM j;have f:=gZ hl;have H:l.kind=1/\l.gate<(F:Int)/\l.ao=(aJ L l.gate.toNat:Int):=by
  unfold s3 at h;rw[jr f]at h;split at h
  .rename_i H;simp only[cN,cW,jn]at H;exact H
  cases h
 rw[agL f H.1 H.2.1 H.2.2]at h;exact⟨l,_,f,hl,H.1,H.2.1,H.2.2,(ld h).symm⟩
def Wa{a:Nat}(j:a<I L)(h:tl L a=some P):∃l d,(aA L)[a]?=some ⟨l,d⟩/\L[a]?=some l/\l.kind=1/\0<l.gate/\l.ao=1/\P=((aA L).map (ch l.gate 1 (-1))).set a ⟨{l with gate:=l.gate-1,ao:=((aJ L (l.gate-1).toNat+1:Nat):Int)},d⟩:=by
 obtain⟨l,hl⟩:=aM j;have f:=gZ hl;have H:l.kind=1/\0<l.gate/\l.ao=1:=by
  unfold tl at h;rw[jr f]at h;split at h
  .rename_i H;simp only[cN,cW,jn]at H;exact H
  cases h
 rw[ahI f H.1 H.2.1 H.2.2]at h;exact⟨l,_,f,hl,H.1,H.2.1,H.2.2,(ld h).symm⟩
def agm(g:a_ F L)(hf:1<=f){a:Nat}{p:aK}(h:(aA L)[a]?=some p):(aA (cG f L))[a]?=some (eV f (aJ L (f-1)) p):=by rw[xE g hf,dy,h];rfl
def awH(g:a_ F L)(hf:1<=f)(D:f<=F){a:Nat}(z:a<I L)(h:s3 F L a=some P)(A:(aR L a).gate+1≠(f:Int)):s3 (F-1) (cG f L) a=some (P.map (eV f (aJ (cL P) (f-1)))):=by
 obtain⟨l,d,j,hl,c1,B,c3,m⟩:=X6 z h;rw[kR hl]at A;have hp:l.aw:=by unfold U.aw;rw[c1];rfl
 obtain⟨g0,N,r0,r1⟩:=g.ok.ax.eO l (aX hl) hp;have ae:ch (l.gate+1) 0 1 ⟨l,d⟩=⟨l,d⟩:=by unfold ch;rw[ai];simp only[cN,cW];intro h;omega
 have v:=Ss hf j hp ae m;have E:=qF (f:=f) (n:=aJ L (f-1)) hp;have x:=uw (f:=f) (n:=aJ L (f-1)) hp;rw[agL (agm g hf j) ((g_ l).1.trans c1) (by
  show(dI f _ l).gate<_;rw[E];split<;>omega) (by
  show(dI f _ l).ao=_;rw[E,x,KW hf];by_cases u:(f:Int)<=l.gate
  .rw[an u,show(l.gate-1).toNat=l.gate.toNat-1 by omega,ai (show¬l.gate.toNat-1+1<f by omega)];by_cases H:l.gate=(f:Int)
   .rw[an H,an (show l.gate.toNat-1+1=f by omega),c3,show l.gate.toNat-1=f-1 by omega,show f-1+1=l.gate.toNat by omega];omega
   rw[ai H,ai (show¬l.gate.toNat-1+1=f by omega),show l.gate.toNat-1+1=l.gate.toNat by omega];exact c3
  rw[ai u,ai (show¬l.gate=(f:Int) by omega),an (show l.gate.toNat+1<f by omega)];exact c3)]
 rw[ags (j:=1) g hf hp m J (NU 0) A (λ_=>J) (by rw[v];rw[ai (show¬l.gate=(f:Int)-1 by omega)];omega) (ai A)]
 congr 1;have y:(dI f (aJ L (f-1)) l).gate+1=if(f:Int)<=l.gate+1 then l.gate+1-1 else l.gate+1:=by rw[E];split<;>split<;>omega
 show((aA _).map (ch ((dI f _ l).gate+1) 0 1)).set a (⟨{dI f _ l with gate:=(dI f _ l).gate+1,ao:=1},d⟩:aK)=_;rw[y,P8 hp]
def alb(g:a_ F L)(hf:1<=f){a:Nat}(D:a<I L)(h:tl L a=some P)(A:(aR L a).gate≠(f:Int)):tl (cG f L) a=some (P.map (eV f (aJ (cL P) (f-1)))):=by
 obtain⟨l,d,v,hl,c1,M,c3,y⟩:=Wa D h;rw[kR hl]at A;have hp:l.aw:=by unfold U.aw;rw[c1];rfl
 obtain⟨g0,N,r0,r1⟩:=g.ok.ax.eO l (aX hl) hp;have ae:ch l.gate 1 (-1) ⟨l,d⟩=⟨l,d⟩:=by unfold ch;rw[ai];simp only[cN,cW,jn];intro h;omega
 have j:=Ss hf v hp ae y;rw[ai (show¬l.gate-1=(f:Int)-1 by omega)]at j;have E:=qF (f:=f) (n:=aJ L (f-1)) hp;have z:=uw (f:=f) (n:=aJ L (f-1)) hp;have B:l.gate=(f:Int)-1->(1:Int)<=(aJ L (f-1):Int):=λe=>by rw[e,show((f:Int)-1).toNat=f-1 by omega]at r1;omega
 rw[ahI (agm g hf v) ((g_ l).1.trans c1) (by
  show 0<(dI f _ l).gate;rw[E];split<;>omega) (by
  show(dI f _ l).ao=_;rw[z,ai A];exact c3)]
 have x:(dI f (aJ L (f-1)) l).gate=if(f:Int)<=l.gate then l.gate-1 else l.gate:=E;have u:(dI f (aJ L (f-1)) l).gate-1=if(f:Int)<=l.gate-1 then l.gate-1-1 else l.gate-1:=by rw[E];split<;>split<;>omega
 rw[ags (j:=((aJ (cG f L) ((dI f (aJ L (f-1)) l).gate-1).toNat+1:Nat):Int)) g hf hp y g0 aa A B (by rw[j];split<;>omega) (by
  rw[u,KW hf];by_cases m:(f:Int)<=l.gate-1
  .rw[an m,show(l.gate-1-1).toNat=(l.gate-1).toNat-1 by omega,ai (show¬(l.gate-1).toNat-1+1<f by omega)];by_cases H:l.gate-1=(f:Int)
   .rw[an H,an (show(l.gate-1).toNat-1+1=f by omega),show(l.gate-1).toNat-1=f-1 by omega,show f-1+1=(l.gate-1).toNat by omega];rw[ai J]at j;omega
   rw[ai H,ai (show¬(l.gate-1).toNat-1+1=f by omega),show(l.gate-1).toNat-1+1=(l.gate-1).toNat by omega]
  rw[ai m,ai (show¬l.gate-1=(f:Int) by omega)];by_cases H:(l.gate-1).toNat+1<f
  .rw[an H]
  exfalso;omega)]
 congr 1;show((aA _).map (ch (dI f _ l).gate 1 (-1))).set a (⟨{dI f _ l with gate:=(dI f _ l).gate-1,ao:=_},d⟩:aK)=_;rw[P8 hp,x];congr 3;rw[<-x,u]
def aww(g:a_ F L)(hf:1<=f){a:Nat}(E:a<I L)(h:s3 F L a=some P)(y:(aR L a).gate+1=(f:Int)):P.map (eV f (aJ (cL P) (f-1)))=aA (cG f L):=by
 obtain⟨l,d,u,hl,c1,O,c3,z⟩:=X6 E h;rw[kR hl]at y;have hp:l.aw:=by unfold U.aw;rw[c1];rfl
 have ae:ch (l.gate+1) 0 1 ⟨l,d⟩=⟨l,d⟩:=by unfold ch;rw[ai];simp only[cN,cW];intro h;omega
 have B:=Ss hf u hp ae z;rw[an J,ai J,ET]at B;generalize aJ (cL P) (f-1)=N at*;have M:=(bd.1 u).1;rw[z,vd,gi,y_ _ _ _ _ hp,xE g hf];apply nj;intro i;rw[pA,bG,dy,dy];by_cases x:a=i
 .subst x;rw[an rfl,an M,u];show some _=some (eV f _ ⟨l,d⟩);have:=y_ (f:=f) (n:=aJ L (f-1)) l l.gate l.ao d hp;rw[show eV f (aJ L (f-1)) ⟨l,d⟩=_ from this,an J,an y,ai J,ai J,c3,show l.gate.toNat=f-1 by omega];congr 4
  .omega
  omega
 rw[ai x];cases A:(aA L)[i]? with
 |none=>rfl
 |some p=>
  show some (eV f N (ch (l.gate+1) 0 1 p))=some (eV f _ p);congr 1;obtain⟨m,D⟩:=p;cases H:m.aw with
  |false=>
   have e:ch (l.gate+1) 0 1 ⟨m,D⟩=⟨m,D⟩:=by unfold ch;have:(m.kind==1)=false:=H;rw[this];rfl
   rw[e,Du H,Du H]
  |true=>
   obtain⟨k1,k2,k3⟩:=GJ g hf (aX A) H;have k2:1<=m.ao:=k2;have mk:(m.kind==1):=H;have w:=y_ (f:=f) (n:=aJ L (f-1)) m m.gate m.ao D H;rw[show eV f (aJ L (f-1)) ⟨m,D⟩=_ from w];unfold ch;show eV f N (if(m.kind==1&&(m.gate==l.gate+1&&decide (0<m.ao)))=true then _ else _)=_;rw[mk,zB];by_cases j:m.gate=(f:Int)
   .rw[an (by simp only[cN,cW,jn];exact⟨J,J⟩)];have v:=y_ (f:=f) (n:=N) m m.gate (m.ao+1) D H;rw[show eV f N ⟨{m with ao:=m.ao+1},D⟩=_ from v,an j,an j];congr 2;omega
   rw[ai (by simp only[cN,cW,jn];omega)];have v:=y_ (f:=f) (n:=N) m m.gate m.ao D H;rw[show eV f N ⟨m,D⟩=_ from v,ai j,ai j]
def apX(g:a_ F L)(hf:1<=f){a:Nat}(E:a<I L)(h:tl L a=some P)(x:(aR L a).gate=(f:Int)):P.map (eV f (aJ (cL P) (f-1)))=aA (cG f L):=by
 obtain⟨l,d,u,hl,c1,Q,c3,A⟩:=Wa E h;rw[kR hl]at x;have hp:l.aw:=by unfold U.aw;rw[c1];rfl
 have ae:ch l.gate 1 (-1) ⟨l,d⟩=⟨l,d⟩:=by unfold ch;rw[ai];simp only[cN,cW,jn];intro h;omega
 have B:=Ss hf u hp ae A;rw[ai J,an J,Int.sub_zero]at B;generalize aJ (cL P) (f-1)=N at*;have M:=(bd.1 u).1;rw[A,vd,gi,y_ _ _ _ _ hp,xE g hf];apply nj;intro i;rw[pA,bG,dy,dy];by_cases v:a=i
 .subst v;rw[an rfl,an M,u];show some _=some (eV f _ ⟨l,d⟩);have:=y_ (f:=f) (n:=aJ L (f-1)) l l.gate l.ao d hp;rw[show eV f (aJ L (f-1)) ⟨l,d⟩=_ from this,ai J,ai J,an J,an x,c3,show(l.gate-1).toNat=f-1 by omega];congr 3;omega
 rw[ai v];cases z:(aA L)[i]? with
 |none=>rfl
 |some p=>
  show some (eV f N (ch l.gate 1 (-1) p))=some (eV f _ p);congr 1;have R:=(EW z).1;obtain⟨m,D⟩:=p;have R:L[i]?=some m:=R;cases H:m.aw with
  |false=>
   have e:ch l.gate 1 (-1) ⟨m,D⟩=⟨m,D⟩:=by unfold ch;have:(m.kind==1)=false:=H;rw[this];rfl
   rw[e,Du H,Du H]
  |true=>
   obtain⟨k1,k2,k3⟩:=GJ g hf (aX z) H;have k2:1<=m.ao:=k2;have mk:(m.kind==1):=H;have w:=y_ (f:=f) (n:=aJ L (f-1)) m m.gate m.ao D H;rw[show eV f (aJ L (f-1)) ⟨m,D⟩=_ from w];unfold ch;show eV f N (if(m.kind==1&&(m.gate==l.gate&&decide (1<m.ao)))=true then _ else _)=_;rw[mk,zB];by_cases j:m.gate=(f:Int)
   .have O:m.ao≠1:=λe=>v (g.ok.ax.inj a i l m hl R hp H (by unfold eC;rw[x,j,c3,e]));rw[an (by simp only[cN,cW,jn];exact⟨J,J⟩)];have y:=y_ (f:=f) (n:=N) m m.gate (m.ao+ -1) D H;rw[show eV f N ⟨{m with ao:=m.ao+ -1},D⟩=_ from y,an j,an j];congr 2;omega
   rw[ai (by simp only[cN,cW,jn];omega)];have y:=y_ (f:=f) (n:=N) m m.gate m.ao D H;rw[show eV f N ⟨m,D⟩=_ from y,ai j,ai j]
def ae6(g:a_ F L):cL (aA L)=L:=by
 have f:0<I L:=gA.2 g.ne;have H:mh (aA L)=some 0:=by obtain⟨l,hl,hp⟩:=g.first;unfold mh;rw[cZ];obtain⟨k,hk⟩:∃k,I L=k+1:=⟨I L-1,J⟩;rw[hk,List.range_succ_eq_map,List.find?_cons_of_pos];unfold Ep ya;rw[gZ hl];show(l.aw&&dw L 0)=true;rw[O5 hl hp,hp];rfl
 unfold cL tA;rw[H,cZ];apply nj;intro i;by_cases h:i<I L
 .obtain⟨l,hl⟩:=aM h;rw[dy,sy h,hl];show some ((aA L).getD ((0+i)%I L) ⟨ga,false⟩).l=some l;rw[jO,eN h,dz,gZ hl];rfl
 rw[kQ (by rw[bG,rY];omega),kQ J]
def IW(f:Nat)(L:af)(m:dG):Prop:=(m.k=9/\(aR L m.a.toNat).gate+1=(f:Int))\/(m.k=10/\(aR L m.a.toNat).gate=(f:Int))
def atL(g:a_ F L)(hf:1<=f)(x:f<=F)(h:iP F L m=some X)(v:IW f L m):cG f X=cG f L:=by
 obtain⟨k,a,b,c,l,o,sg⟩:=m;have g':=(M_ g hf x).2;obtain⟨_,u,P,n,rfl,_,_⟩:=VP g h;rw[show cG f (cL P)=cL (P.map (eV f (aJ (cL P) (f-1))))from(ag7 P).symm];rcases v with⟨rfl,j⟩|⟨rfl,j⟩
 .obtain⟨A,H,rfl,_⟩:=(vq (.inr (.inr (.inl rfl)))).1 u;rw[aww g hf H n j,ae6 g']
 obtain⟨A,H,rfl,_⟩:=(vq (.inr (.inr (.inr rfl)))).1 u;rw[apX g hf H n j,ae6 g']
def aod(g:a_ F L)(hf:1<=f)(y:f<=F){m:dG}(h:iP F L m=some X)(hn:¬IW f L m):∃M,M.k=m.k/\iP (F-1) (cG f L) M=some (cG f X):=by
 obtain⟨k,a,b,c,l,o,sg⟩:=m;have g':=(M_ g hf y).2;have s:=AE g hf;obtain⟨vX,j,P,H,rfl,Y,Z⟩:=VP g h;simp only at j H Y Z |-;have iN:I (cG f L)=I L:=bG ..;have fin:∀ {Q:aU}{n:Nat},eH (gR (f-1)) P=eH (gR (f-1)) (aA L)->Q=P.map (eV f (aJ L (f-1)))->Q=P.map (eV f (aJ (cL P) (f-1))):=λ{Q n} e O=>by
  have:(aJ (cL P) (f-1):Int)=(aJ L (f-1):Int):=by rw[PK,e,Q8]
  rw[O,show aJ (cL P) (f-1)=aJ L (f-1) by omega]
 have mk:∀ {m:dG},m.k=k->eZ (F-1) (cG f L) m.k m.a m.b m.c m.l m.o m.s->mg (F-1) (cG f L) m.k m.a.toNat m.b.toNat m.c.toNat m.l m.o m.s=some (P.map (eV f (aJ (cL P) (f-1))))->∃M:dG,M.k=k/\iP (F-1) (cG f L) M=some (cG f (cL P)):=λ{m} N j O=>by
  refine⟨m,N,?_⟩;rw[show cG f (cL P)=cL (P.map (eV f (aJ (cL P) (f-1))))from(ag7 P).symm];refine anu g' j O ?_ ?_
  .rw[iN,N];exact Y
  rw[s.BO,N];exact Z
 have uP:k=1\/k=2\/k=3\/k=4\/k=5\/k=6\/k=7\/k=8\/k=9\/k=10:=by refine Decidable.byContradiction λN=>?_;unfold eZ at j;rw[ai J,ai J,ai J,ai J,ai J,ai J]at j;cases j
 rcases uP with rfl|rfl|rfl|rfl|rfl|rfl|rfl|rfl|rfl|rfl
 .obtain⟨A,x,rfl,rfl,rfl,rfl,rfl,rfl⟩:=(vq (.inl rfl)).1 j;have H:qc L A=some P:=H;exact(mk (m:=⟨1,A,0,0,false,false,0⟩) rfl ((vq (.inl rfl)).2 ⟨A,J,rfl,rfl,rfl,rfl,rfl,rfl⟩) (azp g hf x H))
 .obtain⟨A,B,E,x,z,T,rfl,rfl,rfl,rfl,rfl,rfl⟩:=Fh.1 j;have hp:=gA.2 g.ne;have H:og F L A B E=some P:=H;obtain⟨v,u,h3⟩:=asH g hf y J z T H;exact(mk (m:=⟨2,A,(if f<=B then B-1 else B:Nat),(if B=f then E+aJ L (f-1)else E:Nat),false,false,0⟩) rfl (Fh.2 ⟨A,_,_,.inl J,v,u,rfl,rfl,rfl,rfl,rfl,rfl⟩) h3)
 .obtain⟨A,B,D,z,rfl,rfl,rfl,rfl,rfl,rfl⟩:=(IA (.inl rfl)).1 j;obtain⟨v,u⟩:=al8 g hf y J z J H;exact(mk (m:=P0 3 A B) rfl ((IA (.inl rfl)).2 ⟨A,B,D,J,rfl,rfl,rfl,rfl,rfl,rfl⟩) (v.trans (congrArg some (fin (n:=0) u rfl))))
 .obtain⟨A,x,rfl,rfl,rfl,rfl,rfl,rfl⟩:=(vq (.inr (.inl rfl))).1 j;have H:n_ L A=some P:=H;obtain⟨v,u⟩:=ami g hf H;exact(mk (m:=⟨4,A,0,0,false,false,0⟩) rfl ((vq (.inr (.inl rfl))).2 ⟨A,J,rfl,rfl,rfl,rfl,rfl,rfl⟩) (v.trans (congrArg some (fin (n:=0) u rfl))))
 .obtain⟨A,x,rfl,rfl,rfl,rfl,ae⟩:=UN.1 j;have H:some (r7 L A sg o)=some P:=H;cases H;obtain⟨v,u⟩:=amx g hf A sg o;exact(mk (m:=⟨5,A,0,0,false,o,sg⟩) rfl (UN.2 ⟨A,J,rfl,rfl,rfl,rfl,ae⟩) (congrArg some (v.trans (fin (n:=0) u rfl))))
 .obtain⟨A,B,D,z,rfl,rfl,rfl,rfl,rfl,rfl⟩:=(IA (.inr rfl)).1 j;obtain⟨v,u⟩:=auO g hf y J H;exact(mk (m:=P0 6 A B) rfl ((IA (.inr rfl)).2 ⟨A,B,D,J,rfl,rfl,rfl,rfl,rfl,rfl⟩) (v.trans (congrArg some (fin (n:=0) u rfl))))
 .obtain⟨A,B,x,z,D,rfl,rfl,rfl,rfl⟩:=Ze.1 j;obtain⟨v,u⟩:=ao8 g hf y x z H;exact(mk (m:=⟨7,A,B,0,l,o,0⟩) rfl (Ze.2 ⟨A,B,J,J,D,rfl,rfl,rfl,rfl⟩) (v.trans (congrArg some (fin (n:=0) u rfl))))
 .obtain⟨A,B,E,D,Kg,T,rfl,rfl,rfl,rfl,rfl,rfl⟩:=UJ.1 j;obtain⟨v,u⟩:=alW g hf y J J T H;exact(mk (m:=UA 8 A B E) rfl (UJ.2 ⟨A,B,E,D,Kg,J,rfl,rfl,rfl,rfl,rfl,rfl⟩) (v.trans (congrArg some (fin (n:=0) u rfl))))
 .obtain⟨A,x,rfl,rfl,rfl,rfl,rfl,rfl⟩:=(vq (.inr (.inr (.inl rfl)))).1 j;have H:s3 F L A=some P:=H;exact mk (m:=⟨9,A,0,0,false,false,0⟩) rfl ((vq (.inr (.inr (.inl rfl)))).2 ⟨A,J,rfl,rfl,rfl,rfl,rfl,rfl⟩) (awH g hf y x H λR=>hn (.inl ⟨rfl,R⟩))
 obtain⟨A,x,rfl,rfl,rfl,rfl,rfl,rfl⟩:=(vq (.inr (.inr (.inr rfl)))).1 j;have H:tl L A=some P:=H;exact mk (m:=⟨10,A,0,0,false,false,0⟩) rfl ((vq (.inr (.inr (.inr rfl)))).2 ⟨A,J,rfl,rfl,rfl,rfl,rfl,rfl⟩) (alb g hf x H λR=>hn (.inr ⟨rfl,R⟩))
end
section
variable {F:Nat} {L X:af} {P:aU}
def abt(v:bQ)(h:j<F):(oi F v)[j]?=some (s4 j (th true v)):=by unfold oi;rw[dy,sy h];show some (mx v (I v) j)=_;rw[azQ _ v _ (ct _),jz]
def aiy{a:Nat}{l:U}{d:Bool}(f:(aA L)[a]?=some ⟨l,d⟩)(hp:l.aw){G y R:Int}(ae:ch G v z ⟨l,d⟩=⟨l,d⟩):∃u j,lp (aA L)=u++(l.gate,d)::j/\lp (((aA L).map (ch G v z)).set a ⟨{l with gate:=y,ao:=R},d⟩)=u++(y,d)::j:=by
 have F:=avO G v z (aA L);have h:((aA L).map (ch G v z))[a]?=some ⟨l,d⟩:=by rw[dy,f];exact congrArg some ae
 rw[<-F];show∃u j,lp ((aA L).map (ch G v z))=_/\_;generalize(aA L).map (ch G v z)=Q at h;obtain⟨A,B⟩:=bd.1 h;refine⟨lp (Q.take a),lp (Q.drop (a+1)),?_,?_⟩
 .rw[<-DN (p:=⟨l,d⟩) hp,<-QG,<-B,<-L5 A,jC]
 rw[List.set_eq_take_append_cons_drop,an A,QG,DN (p:=⟨{l with gate:=y,ao:=R},d⟩) hp]
def aja{u v:gq}{G:Int}{d:Bool}(j:Int):(s4 j (u++(G,d)::v)=s4 j (u++(G+1,d)::v))↔j≠G:=by
 have f:∀x:nu,s4 j (u++x::v)=s4 j u+((if x.1<=j then(if x.2 then 1 else -1)else 0)+s4 j v):=λx=>by rw[ON];rfl
 rw[f,f];simp only;by_cases h:j=G
 .subst h;rw[an (NU j),ai (show¬j+1<=j by omega)];cases d<;>simp<;>omega
 simp only[ne_eq,h,not_false_eq_true,iff_true];by_cases H:G<=j
 .rw[an H,an (show G+1<=j by omega)]
 rw[ai H,ai (show¬G+1<=j by omega)]
def awQ(g:a_ F L)(h:iP F L m=some X)(Q:m.k=9\/m.k=10):∃q:Nat,q<F/\(∀f:Nat,IW f L m↔q+1=f)/\ ∀j:Nat,j<F->((oi F (lJ L))[j]?=(oi F (lJ X))[j]? ↔j≠q):=by
 obtain⟨k,a,b,c,l,o,sg⟩:=m;obtain⟨_,M,P,H,rfl,_,_⟩:=VP g h;have O:=arD g;have fin:∀ {q:Nat},fP F P->(∃u v d,(lp (aA L)=u++((q:Int),d)::v/\lp P=u++((q:Int)+1,d)::v)\/(lp (aA L)=u++((q:Int)+1,d)::v/\lp P=u++((q:Int),d)::v))->∀j:Nat,j<F->((oi F (lJ L))[j]?=(oi F (lJ (cL P)))[j]? ↔j≠q):=λ{q} f_ Y j N=>by
  rw[abt _ N,abt _ N,<-auh (aoc f_),<-O,gW];obtain⟨u,v,d,⟨n,E⟩|⟨n,E⟩⟩:=Y
  .rw[n,E,aja];omega
  rw[n,E,eq_comm,aja];omega
 rcases Q with rfl|rfl
 .obtain⟨A,x,rfl,_⟩:=(vq (.inr (.inr (.inl rfl)))).1 M;have H:s3 F L A=some P:=H;have f_:=acP g x H;obtain⟨l,d,B,hl,c1,T,c3,D⟩:=X6 x H;have hp:l.aw:=by unfold U.aw;rw[c1];rfl
  obtain⟨g0,_⟩:=g.ok.ax.eO l (aX hl) hp;obtain⟨q,z⟩:=lB g0;have ae:ch (l.gate+1) 0 1 ⟨l,d⟩=⟨l,d⟩:=by unfold ch;rw[ai];simp only[cN,cW];intro h;omega
  obtain⟨u,v,n,E⟩:=aiy (y:=l.gate+1) (R:=1) B hp ae;rw[<-D]at E;rw[z]at n E;refine⟨q,J,λf=>?_,fin f_ ⟨u,v,d,.inl ⟨n,E⟩⟩⟩;unfold IW;show((9:Int)=9/\(aR L A).gate+1=(f:Int))\/((9:Int)=10/\_)↔_;rw[kR hl,z];constructor
  .rintro (⟨_,h⟩|⟨h,_⟩)<;>omega
  exactλh=>.inl ⟨rfl,J⟩
 obtain⟨A,x,rfl,_⟩:=(vq (.inr (.inr (.inr rfl)))).1 M;have H:tl L A=some P:=H;have f_:=ahK g x H;obtain⟨l,d,B,hl,c1,T,c3,D⟩:=Wa x H;have hp:l.aw:=by unfold U.aw;rw[c1];rfl
 obtain⟨g0,g1,_⟩:=g.ok.ax.eO l (aX hl) hp;obtain⟨q,z⟩:=lB (show 0<=l.gate-1 by omega);have ae:ch l.gate 1 (-1) ⟨l,d⟩=⟨l,d⟩:=by unfold ch;rw[ai];simp only[cN,cW,jn];intro h;omega
 obtain⟨u,v,n,E⟩:=aiy (y:=l.gate-1) (R:=((aJ L (l.gate-1).toNat+1:Nat):Int)) B hp ae;rw[<-D]at E;rw[show l.gate=(q:Int)+1 by omega]at n;rw[z]at E;refine⟨q,J,λf=>?_,fin f_ ⟨u,v,d,.inr ⟨n,E⟩⟩⟩;unfold IW;show((10:Int)=9/\_)\/((10:Int)=10/\(aR L A).gate=(f:Int))↔_;rw[kR hl];constructor
 .rintro (⟨h,_⟩|⟨_,h⟩)<;>omega
 exactλh=>.inr ⟨rfl,J⟩
end
def Tn(k:Int)(a:Nat):dG:=⟨k,a,0,0,false,false,0⟩
def Lp(a i:Nat):dG:=⟨5,a,0,0,false,decide ((1:Int)<(i:Int)),IntKind.i64.wrap (IntKind.i64.wrap (2*((i:Int).tmod 2))-1)⟩
def XU(a c i:Nat):dG:=⟨7,a,c,0,decide ((1:Int)<(i:Int)),((i:Int).tmod 2)==1,0⟩
def xn (n:Nat)(k:Int):fO:=(List.range n).map (Tn k)
def sO (n:Nat):fO:=(List.range n).flatMap λa=>(List.range 4).map (Lp a)
def vI(a i c:Nat):fO:=if c=a then []else(List.range i).map (XU a c)
def zK(a n:Nat):fO:=(List.range n).flatMap (vI a 4)
def f_ (m n:Nat):fO:=(List.range n).flatMap λa=>zK a m
def amW(n:Nat)(k:Int):xn (n+1) k=xn n k++[Tn k n]:=by simp[xn,mD]
def aaU(n:Nat):sO (n+1)=sO n++(List.range 4).map (Lp n):=by simp[sO,mD]
def abv(a n:Nat):zK a (n+1)=zK a n++vI a 4 n:=by simp[zK,mD]
def aeC(m n:Nat):f_ m (n+1)=f_ m n++zK n m:=by simp[f_,mD]
def aoF{f:Nat->dG}(i:Nat):(List.range (i+1)).map f=(List.range i).map f++[f i]:=by simp[mD]
def agW(n:Nat)(k:Int):I (xn n k)=n:=by simp[xn]
def Yd:∀n:Nat,I (sO n)=4*n
 |0=>rfl
 |n+1=>by rw[aaU,fU,Yd n,bG,rY];omega
def aji(a i c:Nat):I (vI a i c)<=i:=by unfold vI;split<;>simp
def TS(a:Nat):∀n:Nat,I (zK a n)<=4*n
 |0=>ct _
 |n+1=>by have:=TS a n;have:=aji a 4 n;rw[abv,fU];omega
def XH(m:Nat):∀n:Nat,I (f_ m n)<=4*(m*n)
 |0=>bN _
 |n+1=>by have:=XH m n;have:=TS n m;rw[aeC,fU,Nat.mul_succ];omega
def QK(a b:fO):cY (a++b)=cY a++cY b:=by simp[cY]
section
variable {F:Nat} {u:af}
def akd(g:a_ F u)(aN:0<I u){f:Int}(D:(f==2)=false)(M:(f==5)=false)(T:(f==7)=false)(E:(f==3)=false)(Q:(f==6)=false)(O:(f==8)=false):aI S 86 [.one (.p (ez F u)),aE f] (.one (cP im 7 (cY (xn (I u) f)))):=by
 have y:=g.len;have X:I (dB (aA u))=I u:=by rw[dB,bG,cZ]
 have L:(((I u:Nat):Int)==0)=false:=by rw[mE];omega
 suffices h:∃r,r=.one (cP im 7 (cY (xn (I u) f)))/\aI S 86 [.one (.p (ez F u)),aE f] r by grind
 refine Cd rfl Gz (jx rfl) ?_;simp only[go_sem,D4,DQ,X,L];refine df (λk A blk=>A 0=.one (.p (ez F u))/\A 1=aE f/\A 41=aE (I u)/\A 42=aE k/\ ∃c,A 5=.one c/\a8 5504768320 im 7 (cY (xn k f)) (.one c) blk) 0 (I u) (bN _) ?_ ?_
 .simp only[go_sem];exact⟨rfl,.p .nils,rfl,a8.nil⟩
 rintro k A blk hk ⟨N,H,j,m,c,x,v⟩
 by_cases Z:k<I u
 .have R:((k:Int)<(I u:Int)):=J;have B:=cE (n:=k) J;simp only[go_sem,u_,DD,H,j,m,x,R,D,M,T,E,Q,O];refine ri (B:=[dG.ps (Tn f k)]) (v.of_eq (by simp[ba,Nat.reduceEqDiff])) (by simp only[gP,ba,if_true];rfl) (.inl rfl) (by simp only[sV,agW,fG,gk];omega) λz vE Y qK=>?_;simp only[go_sem,N,H,j,m,B,Z];exact⟨z,rfl,by rw[amW,QK];exact Y⟩
 have:k=I u:=J;subst this;simp only[go_sem,u_,EF,j,m,x,ff];exact⟨_,rfl,xT v⟩
def avt(g:a_ F u)(aN:0<I u):aI S 86 [.one (.p (ez F u)),aE 5] (.one (cP im 7 (cY (sO (I u))))):=by
 have z:=g.len;have cA:I (dB (aA u))=I u:=by rw[dB,bG,cZ]
 have T:(((I u:Nat):Int)==0)=false:=by rw[mE];omega
 have O:((5:Int)==2)=false:=aa;have d5:((5:Int)==5):=aa;have zD:¬((2:Int)=0):=aa
 suffices h:∃r,r=.one (cP im 7 (cY (sO (I u))))/\aI S 86 [.one (.p (ez F u)),aE 5] r by obtain⟨r,rfl,X⟩:=h;exact X
 refine Cd rfl Gz (jx rfl) ?_;simp only[go_sem,D4,DQ,cA,T];refine df (λk f blk=>f 0=.one (.p (ez F u))/\f 1=aE 5/\f 41=aE (I u)/\f 42=aE k/\ ∃c,f 5=.one c/\a8 5505920704 im 7 (cY (sO k)) (.one c) blk) 0 (I u) (bN _) ?_ ?_
 .simp only[go_sem];exact⟨rfl,.p .nils,rfl,a8.nil⟩
 rintro k f blk hk ⟨Y,H,m,M,c,y,j⟩
 by_cases aB:k<I u
 .have Z:((k:Int)<(I u:Int)):=J;have R:=cE (n:=k) J;simp only[go_sem,u_,DD,H,m,M,Z,O,d5];refine df (λi A E=>A 0=.one (.p (ez F u))/\A 1=aE 5/\A 8=aE k/\A 41=aE (I u)/\A 42=aE k/\A 99=aE i/\ ∃c,A 5=.one c/\a8 5505920704 im 7 (cY (sO k++(List.range i).map (Lp k))) (.one c) E) 0 4 (bN _) ?_ ?_
  .refine⟨?_,?_,?_,?_,?_,?_,c,?_,by simpa using j⟩<;>(simp only[go_sem,Y,H,m,M,y];first|done|rfl)
  rintro i A E hi ⟨x,v,L,N,D,Q,c,B,j⟩
  have iN:I (cY (sO k++(List.range i).map (Lp k)))=4*k+i:=by rw[sV,fU,Yd,bG,rY]
  by_cases pJ:i<4
  .have Ks:((i:Int)<4):=J;have w2:=cE (n:=i) J;simp only[go_sem,Us,v,L,Q,B,Ks,zD];refine ri (B:=[dG.ps (Lp k i)]) (j.of_eq (by simp only[ba,Nat.reduceEqDiff,if_false])) (by simp only[gP,ba,if_true];rfl) (.inl rfl) (by rw[iN];simp only[fG,gk];omega) λc2 vE ye qK=>?_;simp only[go_sem,x,v,L,N,D,Q,w2,pJ];exact⟨c2,rfl,by rw[fE,<-kr,QK];exact ye⟩
  have:i=4:=J;subst this;have h4:¬(((4:Nat):Int)<4):=aa;simp only[go_sem,Us,x,v,N,D,Q,B,h4,R,aB];exact⟨c,rfl,by rw[aaU];exact j⟩
 have:k=I u:=J;subst this;simp only[go_sem,u_,EF,m,M,y,ff];exact⟨_,rfl,xT j⟩
def auY(g:a_ F u)(aN:0<I u):aI S 86 [.one (.p (ez F u)),aE 7] (.one (cP im 7 (cY (f_ (I u) (I u))))):=by
 have H:=g.len;have cA:I (dB (aA u))=I u:=by rw[dB,bG,cZ]
 have iU:(((I u:Nat):Int)==0)=false:=by rw[mE];omega
 have d2:((7:Int)==2)=false:=aa;have d5:((7:Int)==5)=false:=aa;have d7:((7:Int)==7):=aa;have zD:¬((2:Int)=0):=aa
 suffices h:∃r,r=.one (cP im 7 (cY (f_ (I u) (I u))))/\aI S 86 [.one (.p (ez F u)),aE 7] r by obtain⟨r,rfl,h2⟩:=h;exact h2
 refine Cd rfl Gz (jx rfl) ?_;simp only[go_sem,D4,DQ,cA,iU];refine df (λk v blk=>v 0=.one (.p (ez F u))/\v 1=aE 7/\v 6=aE (I u)/\v 41=aE (I u)/\v 42=aE k/\ ∃c,v 5=.one c/\a8 5506560704 im 7 (cY (f_ (I u) k)) (.one c) blk) 0 (I u) (bN _) ?_ ?_
 .simp only[go_sem];exact⟨rfl,.p .nils,rfl,a8.nil⟩
 rintro k v blk hk ⟨h0,h1,h6,y,M,c,h5,m⟩
 by_cases aB:k<I u
 .have aL:((k:Int)<(I u:Int)):=J;have w1:=cE (n:=k) J;have hb:=Lb H J;have dS:=XH (I u) k;simp only[go_sem,u_,DD,h1,h6,y,M,aL,d2,d5,d7];refine df (λj A ak=>A 0=.one (.p (ez F u))/\A 1=aE 7/\A 6=aE (I u)/\A 8=aE k/\A 41=aE (I u)/\A 42=aE k/\A 117=aE (I u)/\A 118=aE j/\ ∃c,A 5=.one c/\a8 5506560704 im 7 (cY (f_ (I u) k++zK k j)) (.one c) ak) 0 (I u) (bN _) ?_ ?_
  .refine⟨?_,?_,?_,?_,?_,?_,?_,?_,c,?_,by simpa [zK]using m⟩<;>(simp only[go_sem,h0,h1,h6,y,M,h5];first|done|rfl)
  rintro j A ak hj ⟨q0,q1,q6,q8,CJ,CK,Y,E,c,q5,m⟩
  by_cases vV:j<I u
  .have B:((j:Int)<(I u:Int)):=J;have w2:=cE (n:=j) J;have mM:=TS k j;simp only[go_sem,Zt,ajp,Y,E,B];refine df (λi f Dz=>f 0=.one (.p (ez F u))/\f 1=aE 7/\f 6=aE (I u)/\f 8=aE k/\f 14=aE j/\f 41=aE (I u)/\f 42=aE k/\f 117=aE (I u)/\f 118=aE j/\f 121=aE i/\ ∃c,f 5=.one c/\a8 5506560704 im 7 (cY (f_ (I u) k++zK k j++vI k i j)) (.one c) Dz) 0 4 (bN _) ?_ ?_
   .refine⟨?_,?_,?_,?_,?_,?_,?_,?_,?_,?_,c,?_,by simpa [vI]using m⟩<;>(simp only[go_sem,q0,q1,q6,q8,CJ,CK,Y,E,q5];first|done|rfl)
   rintro i f Dz hi ⟨r0,r1,z,x,R,L,Z,X,O,T,c,D,m⟩
   have iN:I (cY (f_ (I u) k++zK k j++vI k i j))<=4*(400*400)+4*400+4:=by have:=aji k i j;rw[sV,fU,fU];omega
   by_cases pJ:i<4
   .have Ks:((i:Int)<4):=J;have w3:=cE (n:=i) J;by_cases N:j=k
    .subst N;have Q:((j:Int)!=(j:Int))=false:=aH;simp only[go_sem,Q3,r0,r1,z,x,R,L,Z,X,O,T,D,Ks,pJ,Q,w3];exact⟨c,rfl,by simpa [vI]using m⟩
    have Q:((j:Int)!=(k:Int)):=by simp;omega
    simp only[go_sem,Q3,r1,x,R,T,D,Ks,zD,Q];refine ri (B:=[dG.ps (XU k j i)]) (m.of_eq (by simp only[ba,Nat.reduceEqDiff,if_false])) (by simp only[gP,ba,if_true];rfl) (.inl rfl) (by simp only[fG,gk];omega) λc2 vE ye qK=>?_;simp only[go_sem,r0,r1,z,x,R,L,Z,X,O,T,w3,pJ];exact⟨c2,rfl,by rw[show vI k (i+1) j=vI k i j++[XU k j i] by rw[vI,vI,ai N,ai N,aoF],<-kr,QK];exact ye⟩
   have:i=4:=J;subst this;have h4:¬(((4:Nat):Int)<4):=aa;simp only[go_sem,Q3,r0,r1,z,x,L,Z,X,O,T,D,h4,w2,vV];exact⟨c,rfl,by rw[abv,<-kr];exact m⟩
  have:j=I u:=J;subst this;simp only[go_sem,Zt,q0,q1,q6,CJ,CK,Y,E,q5,ff,w1,aB];exact⟨c,rfl,by rw[aeC];exact m⟩
 have:k=I u:=J;subst this;simp only[go_sem,u_,EF,y,M,h5,ff];exact⟨_,rfl,xT m⟩
end
abbrev ary(p:Int×Int):dF:=[.int .i64 p.1,.int .i64 p.2]
abbrev oV(l:ji):dh:=l.map ary
def JE{l:ji}{k:Nat}(h:l[k]?=some x):(oV l)[k]?=some [.int .i64 x.1,.int .i64 x.2]:=by rw[dy,h];rfl
def aiL(l:ji):I (oV l)=I l:=bG ..
def aiw(l:ji)(k:Nat)(x:Int×Int):(oV l).set k [.int .i64 x.1,.int .i64 x.2]=oV (l.set k x):=by rw[oV,oV,vd]
def amc{f:ji}{k:Nat}(h:k<=I f):List.take k (oV f)++List.replicate (I f-k) [PV.int .i64 0,PV.int .i64 0]++List.drop (k+(I f-k)) (oV f)=oV (f.take k++List.replicate (I f-k) (0,0)):=by simp_all
def nV(l:ji):ji:=l.foldl (λr x=>if r.getLast?=some x then r else r++[x]) []
theorem J5(l:ji)(x:Int×Int):nV (l++[x])=if(nV l).getLast?=some x then nV l else nV l++[x]:=by rw[nV,zx];rfl
def Xq{α:Type}{p:List α->Prop}(j:p [])(H:∀l x,p l->p (l++[x]))(l:List α):p l:=by
 have:∀l:List α,p l.reverse:=λl=>by
  induction l with
  |nil=>exact j
  |cons x l f=>rw[Xe];exact H _ _ f
 have h:=this l.reverse
 grind
theorem ae8(l:ji):(nV l).getLast?=l.getLast?:=by
 refine Xq (p:=λl=>(nV l).getLast?=l.getLast?) rfl (λl x f=>?_) l;rw[J5]
 grind
theorem CC{α:Type}{l:List α}{k:Nat}{x:α}(h:l[k]?=some x):l.take (k+1)=l.take k++[x]:=by rw[List.take_succ,h];rfl
theorem ajr{α:Type}{l:List α}{k:Nat}{x:α}(h:l[k]?=some x):(l.take (k+1)).getLast?=some x:=by rw[CC h];simp
def aes{l:ji}{k:Nat}(H:l[k]?=some x)(h:l[k+1]?=some x):nV (l.take (k+2))=nV (l.take (k+1)):=by rw[CC h,J5,ae8,ajr H,an rfl]
def OJ{l:ji}{k:Nat}{y:Int×Int}(f:l[k]?=some x)(H:l[k+1]?=some y)(h:x≠y):nV (l.take (k+2))=nV (l.take (k+1))++[y]:=by grind [CC,J5,ae8,ajr,ld]
theorem asz(l:ji)(z:Int×Int):z∈nV l↔z∈l:=by
 refine Xq (p:=λl=>z∈nV l↔z∈l) Iff.rfl (λl x f=>?_) l;rw[J5]
 grind
def afY{l:ji}(h:I l<2):nV l=l:=by
 rcases l with _|⟨x,_|⟨y,l⟩⟩
 .rfl
 .rfl
 simp at h;omega
def ap3(id g A:Nat)(h:ji)(blk:aG)(v:V)(j:aG):Prop:=(∃(m:Nat) (f:ji),m<=I h/\I f=I h/\f.take m=nV h/\v=.one (.hsl id g 2 0 m)/\j id=(g,some (.arr A 2 (oV f))))/\dL (· =id) blk j
def aso{al:bU}{blk:aG}{id g:Nat}{f:ji}(o:al.ok id)(hl:I f<=1000000)(D:blk id=(g,some (.arr A 2 (oV f)))):
  ∃v B,jG S 124 [.one (.hsl id g 2 0 (I f))] al blk v B/\ap3 id g A f blk v B:=by
 refine oX afn (jx rfl) ?_;by_cases h2:I f<2
 .have jI:((I f:Int)<2):=J;simp only[go_sem,S_,jI];exact⟨⟨I f,f,ct _,rfl,by rw[jz];exact(afY h2).symm,rfl,D⟩,dL.refl _ _⟩
 have jI:¬((I f:Int)<2):=J;simp only[go_sem,S_,jI];refine df (λq m B=>m 0=.one (.hsl id g 2 0 (I f))/\m 3=aE ((q+1:Nat):Int)/\B=blk/\nV (f.take (q+1))=f.take (q+1)) 0 (I f) (bN _) ?_ ?_
 .simp only[go_sem];exact⟨rfl,afY (by rw[jw];omega)⟩
 rintro q m cK hq ⟨R,O,rfl,F⟩
 by_cases Z:q+1<I f
 .have L:(((q+1:Nat):Int)<(I f:Int)):=J;obtain⟨x,H⟩:=aM Z;obtain⟨y,X⟩:=aM (h:=f) (k:=q) J;have pL:=JE H;have xh:=JE X;have wj:IntKind.i64.wrap (((q+1:Nat):Int)-1)=(q:Int):=by rw[vB J];omega
  have wk:=cE (n:=q+1) J;have q1:q<I f:=J;have q2:q+1<=I f:=J;have Cb:=aiL f;have no:(x.1==y.1)=false\/((x.1==y.1)/\(x.2==y.2)=false)\/((x.1==y.1)/\(x.2==y.2)):=by cases(x.1==y.1)<;>cases(x.2==y.2)<;>simp
  rcases no with E|⟨E,j⟩|⟨E,j⟩
  .simp only[go_sem,MG,YQ,R,O,Z,L,pL,xh,wj,wk,q1,D,o,E,nZ,nT];refine⟨aS,?_⟩;exact(OJ X H (λe=>by subst e;simp at E)).trans (by rw[F,<-CC H])
  .simp only[go_sem,MG,YQ,R,O,Z,L,pL,xh,wj,wk,q1,D,o,E,j,nZ,nT];refine⟨aS,?_⟩;exact(OJ X H (λe=>by subst e;simp at j)).trans (by rw[F,<-CC H])
  simp only[go_sem,MG,R,O,Z,L,pL,xh,wj,q1,q2,D,o,E,j,nZ,nT];refine⟨aS,?_⟩;have Hy:nV (f.take (q+2))=f.take (q+1):=by rw[aes ((Prod.ext (by simpa using E) (by simpa using j))▸X) H,F]
  clear E j pL xh H X;refine df (λr m B=>m 0=.one (.hsl id g 2 0 (I f))/\m 4=.one (.hsl id g 2 (q+1) (I f-(q+1)))/\m 5=aE ((r+1:Nat):Int)/\ ∃(h:ji) (k:Nat),m 3=aE (k:Nat)/\B id=(g,some (.arr A 2 (oV h)))/\I h=I f/\k<q+2+r/\q+2+r<=I f/\h.take k=nV (f.take (q+2+r))/\(∀i,q+1+r<=i->h[i]?=f[i]?)/\dL (· =id) cK B) 0 (I f) (bN _) ?_ ?_
  .simp only[go_sem,R];exact⟨rfl,f,q+1,O,D,rfl,J,J,Hy.symm,λ_ _=>rfl,dL.refl _ _⟩
  rintro r dr aZ hr ⟨k0,k4,k5,h,k,k3,hB,dS,ag,ad,nO,M,dE⟩
  by_cases FP:r+1<I f-(q+1)
  .have N:(((r+1:Nat):Int)<((I f-(q+1):Nat):Int)):=J;obtain⟨Y,hu⟩:=aM (h:=h) (k:=q+1+(r+1)) J;obtain⟨v,hv⟩:=aM (h:=h) (k:=q+1+r) J;have wu:f[q+1+r+1]?=some Y:=by rw[<-M _ J];exact hu
   have wv:f[q+1+r]?=some v:=by rw[<-M _ J];exact hv
   have cu:=JE hu;have cv:=JE hv;have wr:IntKind.i64.wrap (((r+1:Nat):Int)-1)=(r:Int):=by rw[vB J];omega
   have Mb:=cE (n:=r+1) J;have Q:=cE (n:=k) J;have r1:r<I f-(q+1):=J;have kk:k<I f:=J;have OL:k<I h:=J;obtain⟨z,hz⟩:=aM OL;have cz:=JE hz;have no:(Y.1==v.1)=false\/((Y.1==v.1)/\(Y.2==v.2)=false)\/((Y.1==v.1)/\(Y.2==v.2)):=by cases(Y.1==v.1)<;>cases(Y.2==v.2)<;>simp
   rcases no with E|⟨E,j⟩|⟨E,j⟩
   .simp only[go_sem,Lg,k0,k4,k5,k3,FP,N,r1,hB,cu,cv,wr,Mb,Q,kk,cz,o,E,nZ,nT];refine⟨aS,J,h.set k Y,k+1,rfl,by rw[aiw],by simpa using dS,J,J,?_,λi hi=>by rw[List.getElem?_set_ne J];exact M i J,dE.dN rfl _⟩;rw[CC (TR OL),U8 (ct _),nO,show q+2+(r+1)=q+1+r+2 by omega,show q+2+r=q+1+r+1 by omega];exact(OJ wv wu (λe=>by subst e;simp at E)).symm
   .simp only[go_sem,Lg,k0,k4,k5,k3,FP,N,r1,hB,cu,cv,wr,Mb,Q,kk,cz,o,E,j,nZ,nT];refine⟨aS,J,h.set k Y,k+1,rfl,by rw[aiw],by simpa using dS,J,J,?_,λi hi=>by rw[List.getElem?_set_ne J];exact M i J,dE.dN rfl _⟩;rw[CC (TR OL),U8 (ct _),nO,show q+2+(r+1)=q+1+r+2 by omega,show q+2+r=q+1+r+1 by omega];exact(OJ wv wu (λe=>by subst e;simp at j)).symm
   simp only[go_sem,Lg,k0,k4,k5,k3,FP,N,r1,hB,cu,cv,wr,Mb,o,E,j,nZ,nT];refine⟨aS,J,h,k,rfl,rfl,dS,J,J,?_,λi hi=>M i J,dE⟩;rw[nO,show q+2+(r+1)=q+1+r+2 by omega,show q+2+r=q+1+r+1 by omega];exact(aes wv ((Prod.ext (by simpa using E) (by simpa using j))▸wu)).symm
  have N:¬(((r+1:Nat):Int)<((I f-(q+1):Nat):Int)):=J;have T:k<=I f:=J;have ac:k+(I f-k)<=I h:=J;by_cases hz:I f-k=0
  .exact absurd hz J
  have pK:=amc (f:=h) (k:=k) J;rw[dS]at pK;simp only[go_sem,Lg,aby,k0,k4,k5,k3,N,hB,o,T,ac,hz,K7,aiL,pK];refine⟨⟨k,_,T,by simp;omega,?_,rfl,w_⟩,dE.dN rfl _⟩;rw[List.take_left' (by rw[jw];omega),nO,fL J]
 have L:¬(((q+1:Nat):Int)<(I f:Int)):=J;simp only[go_sem,MG,acW,R,O,L];exact⟨⟨I f,f,ct _,rfl,by rw[jz];rw[fL J]at F;exact F.symm,rfl,D⟩,dL.refl _ _⟩
abbrev P4:V:=.one (.p (.fn 123 [] []))
def anU(f:Nat)(A:dC)(al:bU)(blk:aG):S.primS f A al blk=Bj mS A al blk:=rfl
def aos{al:bU}{blk:aG}{id g:Nat}{l:ji}(H:al.ok id)(j:blk id=(g,some (.arr A 2 (oV l))))(hl:I l<4611686018427387904)(h:l.all Bw):∃v f,jG S 122 [.one (.hsl id g 2 0 (I l)),P4] al blk v f/\v=.tup []/\f=dN blk id (g,some (.arr A 2 (oV (qi mS l)))):=
 ⟨_,_,⟨1,by rw[jf,an (show S.trig 122 [.one _,P4]=true from rfl),anU,ahw j rfl hl h H];rfl⟩,rfl,rfl⟩
def apq{al:bU}{blk:aG}:∃v A,jG S 122 [.one (.p .nils),P4] al blk v A/\v=.tup []/\A=blk:=
 ⟨_,_,⟨1,by rw[jf,an (show S.trig 122 [.one _,P4]=true from rfl)];rfl⟩,rfl,rfl⟩
def avW{al:bU}{blk:aG}:∃v A,jG S 124 [.one (.p .nils)] al blk v A/\v=.one (.p .nils)/\A=blk:=by refine oX afn (jx rfl) ?_;have h:(((0:Nat):Int)<2):=aa;simp only[go_sem,S_,h];first|done|exact _|trace_state
def uq(l:pB):ji:=l.map λp=>((p.1:Int),(p.2:Int))
def axc(l:pB):oV (uq l)=kM l:=by rw[oV,uq,gi];rfl
def wR(F:Nat)(u:af)(k s:Nat):pB:=(List.range s).flatMap λj=>(gv F u (2*k+j)).places
def TG(k:Nat)(x:Int×Int):dG:=⟨2,k,x.1,x.2,false,false,0⟩
def Dj(F:Nat)(u:af)(k:Nat):ji:=nV (qi mS (uq (wR F u k 2)))
def v8 (F:Nat)(u:af)(n:Nat):fO:=(List.range n).flatMap λk=>(Dj F u k).map (TG k)
def awz(F:Nat)(u:af)(k s:Nat):wR F u k (s+1)=wR F u k s++(gv F u (2*k+s)).places:=by simp[wR,mD]
def auj(F:Nat)(u:af)(n:Nat):v8 F u (n+1)=v8 F u n++(Dj F u n).map (TG n):=by simp[v8,mD]
theorem ase(l:ji):I (nV l)<=I l:=by
 refine Xq (p:=λl=>I (nV l)<=I l) (ct _) (λl x f=>?_) l;rw[J5]
 grind
section
variable {F:Nat} {u:af}
def ayz(g:a_ F u)(aN:0<I u)(ac:∀f∈fB F u,I f.places<=200000/\ ∀p∈f.places,p.1<=1000000/\p.2<=1000000):I (v8 F u (I u))<=400000*I u/\aI S 86 [.one (.p (ez F u)),aE 2] (.one (cP im 7 (cY (v8 F u (I u))))):=by
 have ap:=g.len;have cA:I (dB (aA u))=I u:=by rw[dB,bG,cZ]
 have iU:(((I u:Nat):Int)==0)=false:=by rw[mE];omega
 have d2:((2:Int)==2):=aa
 suffices h:∃r,(I (v8 F u (I u))<=400000*I u/\r=.one (cP im 7 (cY (v8 F u (I u)))))/\aI S 86 [.one (.p (ez F u)),aE 2] r by obtain⟨r,⟨O,rfl⟩,h2⟩:=h;exact⟨O,h2⟩
 refine Cd rfl Gz (jx rfl) ?_;simp only[go_sem,D4,DQ,cA,iU];refine df (λk N blk=>N 0=.one (.p (ez F u))/\N 1=aE 2/\N 41=aE (I u)/\N 42=aE k/\ ∃c,I (v8 F u k)<=400000*k/\N 5=.one c/\a8 5505536576 im 7 (cY (v8 F u k)) (.one c) blk) 0 (I u) (bN _) ?_ ?_
 .simp only[go_sem];exact⟨rfl,.p .nils,bN _,rfl,a8.nil⟩
 rintro k N blk hk ⟨h0,O,pF,mq,c,Ef,h5,y⟩
 by_cases aB:k<I u
 .have aL:((k:Int)<(I u:Int)):=J;have w1:=cE (n:=k) J;simp only[go_sem,u_,DD,O,pF,mq,aL,d2];refine df (λs A M=>A 0=.one (.p (ez F u))/\A 1=aE 2/\A 8=aE k/\A 41=aE (I u)/\A 42=aE k/\A 54=aE s/\A 5=.one c/\a8 5505536576 im 7 (cY (v8 F u k)) (.one c) M/\ ∃cp:a7,I (wR F u k s)<=200000*s/\(∀p∈wR F u k s,p.1<=1000000/\p.2<=1000000)/\A 9=.one cp/\a8 5505153152 143 2 (kM (wR F u k s)) (.one cp) M) 0 2 (bN _) ?_ ?_
  .refine⟨?_,?_,?_,?_,?_,?_,?_,y,.p .nils,bN _,(λp h=>by cases h),?_,a8.nil⟩<;>(simp only[go_sem,h0,O,pF,mq,h5];first|done|rfl)
  rintro s A M ae ⟨Y,q1,q8,CJ,CK,Q,q5,y,cp,az,dT,E,gp⟩
  by_cases hsl:s<2
  .have ad:((s:Int)<2):=J;obtain⟨j,Kv,lH,FM⟩:=KL g (d:=2*k+s) J;obtain⟨av,WG⟩:=ac _ (aX lH);have vW:=iY Kv;have Bb:=Mr lH;have m2:=qg (a:=k) J;have m3:=rX (a:=2*k) (b:=s) J;have w2:=cE (n:=s) J;have A6:2*k+s<I (kX F u):=by rw[Gf];omega
   have zP:=awz F u k s;generalize gv F u (2*k+s)=f at*;generalize wR F u k s=ps at*;simp only[go_sem,YH,Y,q8,Q,E,ad,m2,m3,vW,Bb,c9.ps];refine uC (gp.of_eq (by simp only[])) rfl (.inr (by simp[jq])) (by simp only[bG];omega) λc' lQ r1 u1 g1 lT j4=>?_;rw[show kM ps++kM f.places=kM (ps++f.places) by simp[kM]]at g1;simp only[go_sem,Y,q1,q8,CJ,CK,Q,q5,w2,hsl];rw[zP];refine⟨?_,y.of_eq (lT 5505536576 aa aa),c',by rw[fU];omega,λp hp=>?_,rfl,g1⟩
   .rcases j4 with⟨rfl,rfl⟩|⟨rfl,rfl⟩|⟨rfl,rfl⟩<;>kernel_rfl
   rcases iR.1 hp with h|h
   .exact dT p h
   exact WG p h
  have:s=2:=J;subst this;have h2:¬(((2:Nat):Int)<2):=aa;have dS:I (Dj F u k)<=400000:=by
   have O:=ase (qi mS (uq (wR F u k 2)));rw[T6]at O;have h2:I (uq (wR F u k 2))=I (wR F u k 2):=by simp[uq]
   unfold Dj;omega
  have H:=auj F u k;have Z:Dj F u k=nV (qi mS (uq (wR F u k 2))):=rfl;generalize v8 F u k=ms at*;generalize Dj F u k=ck at*;generalize wR F u k 2=ps at*;have mu:I (v8 F u (k+1))<=400000*(k+1):=by rw[H,fU,bG];omega
  simp only[go_sem,YH,ajf,Y,q1,CJ,CK,Q,q5,E,h2,ayt];rcases gp with⟨he,hc⟩|⟨he,L,hc,hC⟩
  .cases hc;refine Np (by rfl) (.inl rfl) (λoh _=>apq) λv b z=>?_;obtain⟨rfl,rfl⟩:=z;simp only[go_sem,E,ahq];refine Np (by rfl) (.inl rfl) (λoh _=>avW) λv b2 z=>?_;obtain⟨rfl,rfl⟩:=z;have z0:¬((0:Int)<((0:Nat):Int)):=aa;simp only[go_sem];refine mP ?_;simp only[go_sem,Ro,Y,q1,CJ,CK,q5,z0,w1,aB];have HS:ps=[]:=by simpa using he
   subst HS;subst Z;exact⟨c,mu,rfl,by rw[H];simpa [uq,qi,nV]using y⟩
  cases hc;rw[<-axc]at hC;have mR:I (uq ps)=I ps:=by simp[uq]
  have F0:I (kM ps)=I (uq ps):=by simp[uq]
  have ag:(uq ps).all Bw:=mB.2 λx hx=>by obtain⟨p,hp,rfl⟩:=cD.1 hx;have:=dT p hp;simp only[Bw,cN,jn];omega
  rw[F0]at E |-;refine xN hC (by rfl) (.inl rfl) (λoh o1 o2=>aos o1 hC J ag) λv b z=>?_;obtain⟨rfl,rfl⟩:=z;simp only[go_sem,E,ahq];have hsl:=T6 mS (uq ps);rw[<-hsl]at E |-;generalize qi mS (uq ps)=so at*;subst Z;have zE:dN M 5505153152 (L,some (.arr 143 2 (oV so))) 5505153152=(L,some (.arr 143 2 (oV so))):=w_;have uJ:a8 5505536576 im 7 (cY ms) (.one c) (dN M 5505153152 (L,some (.arr 143 2 (oV so)))):=y.of_eq (cF aa);generalize dN M 5505153152 (L,some (.arr 143 2 (oV so)))=aZ at*;refine xN zE (by rfl) (.inl rfl) (λoh o1 o2=>aso o1 J zE) λv lQ z=>?_;obtain⟨⟨m,cs,hm,dK,nO,rfl,hb⟩,dE⟩:=z;rw[<-nO]at dS H;have ar:I (cs.take m)=m:=by rw[jw];omega
  simp only[go_sem];refine df (λi B vE=>B 0=.one (.p (ez F u))/\B 1=aE 2/\B 8=aE k/\B 41=aE (I u)/\B 42=aE k/\B 80=.one (.hsl 5505153152 L 2 0 m)/\B 81=aE m/\B 82=aE i/\vE 5505153152=(L,some (.arr 143 2 (oV cs)))/\ ∃c,B 5=.one c/\a8 5505536576 im 7 (cY (ms++((cs.take i).map (TG k)))) (.one c) vE) 0 m (bN _) ?_ ?_
  .refine⟨?_,?_,?_,?_,?_,?_,?_,?_,hb,c,?_,by simpa using(uJ.of_eq (dE 5505536576 aa))⟩<;>(simp only[go_sem,Y,q1,q8,CJ,CK,q5];first|done|rfl)
  rintro i B vE hi ⟨r0,r1,r8,Ly,Lz,X,R,D,eh,c,r5,y⟩
  by_cases pJ:i<m
  .have Ks:((i:Int)<(m:Int)):=J;obtain⟨x,hx⟩:=aM (h:=cs) (k:=i) J;have w3:=cE (n:=i) J;simp only[go_sem,Ro,r1,r8,X,R,D,r5,eh,pJ,Ks,JE hx];refine ri (y.of_eq (by simp only[ba,Nat.reduceEqDiff,if_false])) (by simp only[gP,ba,if_true];rfl) (.inl rfl) (by simp only[fU,bG,jw];omega) λc2 MH am Kd=>?_;have T:=Kd 5505153152 aa aa;simp only[go_sem,eh]at T;simp only[go_sem,r0,r1,r8,Ly,Lz,X,R,D,w3,pJ];exact⟨T,c2,rfl,by rw[CC hx,fE,<-kr,QK];exact am⟩
  have:i=m:=J;subst this;simp only[go_sem,Ro,r0,r1,Ly,Lz,R,D,r5,ff,w1,aB];exact⟨c,mu,rfl,by rw[H];exact y⟩
 have:k=I u:=J;subst this;simp only[go_sem,u_,EF,pF,mq,h5,ff];exact⟨_,⟨Ef,rfl⟩,xT y⟩
end
abbrev DO:Nat:=29
abbrev QM:Nat:=24
def Eo(i:Nat):dF:=[.int .i64 2,.int .i64 0,.int .i64 i,.int .i64 0,.bool false,.bool false,.int .i64 0]
def uu(n:Nat):dh:=(List.range n).map Eo
def aae(F i:Nat):dF:=[.int .i64 F,.sl (dQ (pD i))]
def D_(F n:Nat):dh:=(List.range n).map (aae F)
def Z7(n:Nat):uu (n+1)=uu n++[Eo n]:=by simp[uu,mD]
def az5(F n:Nat):D_ F (n+1)=D_ F n++[aae F n]:=by simp[D_,mD]
def SX(n:Nat):I (uu n)=n:=by simp[uu]
def ayg(F n:Nat):I (D_ F n)=n:=by simp[D_]
def azh{n k:Nat}(h:k<n):(uu n)[k]?=some (Eo k):=by simp[uu,h]
section
variable {F:Nat}
def aa0(O:F<=40):aI S 86 [BE F,aE 2] (.one (cP DO 7 (uu (F+1)))):=by
 have H:(((0:Nat):Int)==0):=aa;refine bR Gz ?_;simp only[go_sem,D4,H];refine df (λk A blk=>A 0=BE F/\A 1=aE 2/\A 6=aE ((0:Nat):Int)/\A 7=aE k/\ ∃c,A 5=.one c/\a8 5504448320 DO 7 (uu k) (.one c) blk) 0 (F+1) (bN _) ?_ ?_
 .simp only[go_sem];first|exact⟨rfl,.p .nils,rfl,.inl ⟨rfl,rfl⟩⟩|exact⟨rfl,rfl,.p .nils,rfl,.inl ⟨rfl,rfl⟩⟩|exact⟨.p .nils,rfl,.inl ⟨rfl,rfl⟩⟩
 rintro k A blk N ⟨E,m,u,f,c,h,j⟩
 by_cases z:k<F+1
 .have y:((k:Int)<=(F:Int)):=J;have v:=cE (n:=k) J;have ae:=Z7 k;simp only[go_sem,Um,E,m,h,f,y];refine ri (m:=5504448320) (id:=5504448320) (bytes:=48) (B:=[Eo k]) (rd:=[5504448256]) (j.of_eq (cF aa)) (by simp[gP,ba,Eo]) (.inl rfl) (by simp only[SX,fG,gk];omega) λx L B D=>?_;simp only[go_sem,E,m,u,f,v,z];refine⟨x,rfl,?_⟩;rw[ae];exact B
 have:k=F+1:=J;subst this;have M:¬(((F+1:Nat):Int)<=(F:Int)):=J;simp only[go_sem,Um,DQ,E,u,f,M];refine mP ?_;simp only[go_sem,u_,EF,h,BJ];exact xT j
def adr{k:Int}(H:(k==2)=false):aI S 86 [BE F,aE k] (.one (cP DO 7 [])):=by have h:(((0:Nat):Int)==0):=aa;refine bR Gz ?_;simp only[go_sem,D4,DQ,h,H];refine mP ?_;simp only[go_sem,u_,EF,BJ];rfl
end
def apV{k:Nat}(h:k<10):aI S 85 [.one (.p (.sl (bt (kinds 10)))),aE ((k+1:Nat):Int)] (eh true):=by
 have:∀k,k<10->DC S 20 85 [.one (.p (.sl (bt (kinds 10)))),aE ((k+1:Nat):Int)]=some (eh true):=by intro k h;rcases(show k=0\/k=1\/k=2\/k=3\/k=4\/k=5\/k=6\/k=7\/k=8\/k=9 by omega)with rfl|rfl|rfl|rfl|rfl|rfl|rfl|rfl|rfl|rfl<;>kernel_rfl
 exact ZL S 20 (this k h)
def aAn{a:PV}{id g z o l:Nat}:BA [[.p a,.hsl id g z o l]]=none:=rfl
def ZO{blk:aG}{s g h T z:Nat}{x:Int}{f:a7}{D:dh}(H:blk s=(g,some (.kG A 2 [[.p (.int .i64 x),f]])))(gd:a8 h T z D (.one f) blk):
  ∃fr,gP blk (.one (.hsl s g 2 0 1))=some ([[.int .i64 x,.sl D]],[s],fr)/\wx blk fr/\(fr=[]\/fr=[h]):=by
 obtain⟨r1,n,j,Q⟩:=gd.Tt;refine⟨r1,?_,j,Q⟩;simp only[gP,H];simp[gO,n,Yj,PV.norm]
end Go.Abs
