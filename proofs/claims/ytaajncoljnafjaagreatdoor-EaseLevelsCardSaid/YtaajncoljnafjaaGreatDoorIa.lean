/-
  Codes with the same normal form have the same moves.
-/
import Derived.Test.YtaajncoljnafjaaGreatDoorRd
set_option linter.all false
set_option maxRecDepth 100000
set_option maxHeartbeats 16000000
namespace Go.Abs
section
variable{x:Nat}
structure dk (F:Nat) (L M:ai) (r:Bool) (s t:Nat->Nat):Prop where
 g:ch F L
 g':ch F M
 len:M.length=L.length
 lt:∀v,v<L.length->s v<L.length
 CI:∀v,v<L.length->t v<L.length
 st:∀v,v<L.length->s (t v)=v
 ts:∀v,v<L.length->t (s v)=v
 step:∀v,v<L.length->if r=true then nx L (s (nx L v))=s v else s (nx L v)=nx L (s v)
 at_:∀v l,L[v]?=some l->∃m,M[s v]?=some m/\m.kind=l.kind/\m.gate=l.gate/\m.aw=l.aw/\m.sign=l.sign/\m.over=l.over
 ids:∀u v l m l' m',L[u]?=some l->L[v]?=some m->M[s u]?=some l'->M[s v]?=some m'->l.aB=true->m.aB=true->(l'.id=m'.id↔l.id=m.id)
 dwn:∀v l,L[v]?=some l->l.aE=true->dn M (s v)=(dn L v !=r)
 cn:∀p:Let->Bool,(∀l m:Let,m.kind=l.kind->m.gate=l.gate->p m=p l)->aq p M=aq p L
def Zf{n a b:Nat}(ha:a<n)(hb:b<n)(h:(a+1)%n=(b+1)%n):a=b:=by rw[<-v7 ha,<-v7 hb,h]
section
variable {F:Nat} {L M:ai} {r:Bool} {s t:Nat->Nat}
def dk.symm(i:dk F L M r s t):dk F M L r t s where
 g:=i.g'
 g':=i.g
 len:=i.len.symm
 lt v hv:=by rw[i.len]at hv |-;exact i.CI v hv
 CI v hv:=by rw[i.len]at hv |-;exact i.lt v hv
 st v hv:=i.ts v (by rw[<-i.len];exact hv)
 ts v hv:=i.st v (by rw[<-i.len];exact hv)
 step v hv:=by
  rw[i.len]at hv;have hn:(v+1)%L.length<L.length:=de _ aa;have e:∀u,nx M u=nx L u:=fun u=>by show(u+1)%M.length=(u+1)%L.length;rw[i.len]
  rw[e];cases r with
  |true=>rw[aD rfl,e];have hu:=i.CI _ hn;have h:=i.step (t (nx L v)) hu;rw[aD rfl,i.st _ hn]at h;have yu:nx L (t (nx L v))<L.length:=de _ aa;have h2:=Zf (i.lt _ yu) hv h;rw[<-h2,i.ts _ yu,h2]
  |false=>rw[au ae,e];have h:=i.step (t v) (i.CI v hv);rw[au ae,i.st v hv]at h;have yu:nx L (t v)<L.length:=de _ aa;have h3:=i.ts _ yu;rw[h]at h3;exact h3.trans (e _).symm
 at_ v m h:=by have hv:=(aT.1 h).1;rw[i.len]at hv;obtain⟨l,hl⟩:=aL (i.CI v hv);obtain⟨m',hm,h1,h2,h3,h4,h5⟩:=i.at_ _ _ hl;rw[i.st v hv,h]at hm;cases hm;exact⟨l,hl,h1.symm,h2.symm,h3.symm,h4.symm,h5.symm⟩
 ids u v l m l' m' hl hm j7 iU cl cm:=by
  have hu:=(aT.1 hl).1;have hv:=(aT.1 hm).1;rw[i.len]at hu hv;have k:∀(u:Nat) (l l':Let),u<L.length->M[u]?=some l->L[t u]?=some l'->l.aB=true->l'.aB=true:=fun u l l' hu hl j7 cl=>by obtain⟨x,hx,h1,_⟩:=i.at_ _ _ j7;rw[i.st u hu,hl]at hx;cases hx;unfold Let.aB at cl |-;rw[<-h1];exact cl
  have:=i.ids _ _ _ _ l m j7 iU (by rw[i.st u hu];exact hl) (by rw[i.st v hv];exact hm) (k u l l' hu hl j7 cl) (k v m m' hv hm iU cm);exact this.symm
 dwn v m h hp:=by
  have hv:=(aT.1 h).1;rw[i.len]at hv;obtain⟨l,hl⟩:=aL (i.CI v hv);obtain⟨x,hx,h1,_⟩:=i.at_ _ _ hl;rw[i.st v hv,h]at hx;cases hx;have bU:l.aE=true:=by unfold Let.aE at hp |-;rw[<-h1];exact hp
  have:=i.dwn _ _ hl bU;rw[i.st v hv]at this;rw[this];cases dn L (t v)<;>cases r<;>rfl
 cn p hp:=(i.cn p hp).symm
def dk.aE(i:dk F L M r s t){v:Nat}{l m:Let}(hl:L[v]?=some l)(hm:M[s v]?=some m):m.aE=l.aE/\m.aB=l.aB/\gX m=gX l/\m.gate=l.gate/\m.aw=l.aw/\m.kind=l.kind/\m.over=l.over/\m.sign=l.sign:=by
 obtain⟨x,hx,h1,h2,h3,h4,h5⟩:=i.at_ v l hl;rw[hm]at hx;cases hx;refine⟨?_,?_,?_,h2,h3,h1,h5,h4⟩
 .unfold Let.aE;rw[h1]
 .unfold Let.aB;rw[h1]
 unfold gX;rw[h4,h5]
def dk.pl(i:dk F L M r s t){v:Nat}{l m:Let}(hl:L[v]?=some l)(hm:M[s v]?=some m):dF M m=dF L l:=by
 obtain⟨_,_,_,h2,h3,_⟩:=i.aE hl hm;have h:∀g,fh M g=fh L g:=fun g=>by unfold fh;congr 1;refine As fun q _=>i.cn _ fun l m h1 h2=>?_;unfold mE Let.aE;rw[h1,h2]
 unfold dF;rw[h,h2,h3]
def dk.axl(i:dk F L M r s t):(aG M).length=(aG L).length:=by rw[Dy,Dy];exact i.cn _ fun l m h1 _=>by unfold Let.aE;rw[h1]
def dk.idx(i:dk F L M r s t){v:Nat}{l:Let}(hl:L[v]?=some l)(hp:l.aE=true):(aG M).idxOf (s v)=(aG L).idxOf v:=by obtain⟨m,hm,_⟩:=i.at_ v l hl;have lk:m.aE=true:=(i.aE hl hm).1.trans hp;rw[Fh i.g.ok.ax hl hp,Fh i.g'.ok.ax hm lk,i.pl hl hm]
def dk.ax(i:dk F L M r s t){k:Nat}(hk:k<(aG L).length):(aG M).getD k 0=s ((aG L).getD k 0):=by obtain⟨v,hv⟩:=aL hk;obtain⟨l,hl,hp,bU⟩:=BK i.g.ok.ax hv;obtain⟨m,hm,_⟩:=i.at_ v l hl;have lk:m.aE=true:=(i.aE hl hm).1.trans hp;have:=Jx i.g'.ok.ax hm lk;rw[i.pl hl hm,bU]at this;rw[dC,dC,this,hv];rfl
def dk.nDe(i:dk F L M r s t):nD M=nD L:=by show 2*M.length+2*(aG M).length=_;rw[i.len,i.axl]
def dk.other(i:dk F L M r s t){v:Nat}{l:Let}(hl:L[v]?=some l)(hc:l.aB=true):fM M (s v)=s (fM L v):=by have hv:=(aT.1 hl).1;have ho:=Lo i.g.ok hl hc;obtain⟨m,hm⟩:=aL ho;obtain⟨hx,cm,em⟩:=BW i.g.ok hl hc hm rfl;obtain⟨l',j7,_⟩:=i.at_ v l hl;obtain⟨m',iU,_⟩:=i.at_ _ m hm;refine Gr i.g' j7 iU ((i.aE hl j7).2.1.trans hc) ((i.aE hm iU).2.1.trans cm) ((i.ids _ _ _ _ _ _ hl hm j7 iU hc cm).2 em.symm) fun e=>?_;have:v=fM L v:=(i.ts v hv).symm.trans ((congrArg t e).trans (i.ts _ ho));rw[<-this,hl]at hm;cases hm;cases h:gX l<;>rw[h]at hx<;>cases hx
def j5(n:Nat)(r:Bool)(s:Nat->Nat)(d:Nat):Nat:=if d<2*n then fV n (s (oH n d)) (aY d !=r)else d
def as4{n v:Nat}{f:Bool}(hv:v<n):oH n (fV n v f)=v/\aY (fV n v f)=f:=by
 unfold oH aY fV;cases f with
 |true=>simp only[if_true];rw[aD aa,show 2*((v+n-1)%n)/2=(v+n-1)%n by omega,vZ hv];exact⟨rfl,af⟩
 |false=>simp only[dN,if_false];rw[au aa];exact⟨aa,af⟩
def Hg{n v:Nat}{f:Bool}(hv:v<n):j5 n r s (fV n v f)=fV n (s v) (f !=r):=by obtain⟨h1,h2⟩:=as4 (f:=f) hv;unfold j5;rw[aD (xS hv f),h1,h2]
def dk.along(i:dk F L M r s t){v:Nat}(hv:v<L.length)(f:Bool):j5 L.length r s (dx L.length v f)=dx L.length (s v) (f !=r):=by
 have hb:(v+L.length-1)%L.length<L.length:=de _ aa;have hf:(v+1)%L.length<L.length:=de _ aa;have key:∀(v:Nat),v<L.length->fV L.length v false=dx L.length ((v+1)%L.length) false:=fun v hv=>by unfold fV dx;simp only[dN,if_false];rw[v7 hv]
 have KX:∀(v:Nat),v<L.length->fV L.length ((v+1)%L.length) true=dx L.length v true:=fun v hv=>by unfold fV dx;simp only[if_true];rw[v7 hv]
 cases f with
 |true=>
  rw[<-KX v hv,Hg hf];have h:=i.step v hv;have hs:=i.lt _ hf;cases r with
  |false=>rw[au ae]at h;have h:s ((v+1)%L.length)=(s v+1)%L.length:=h;rw[h];exact KX _ (i.lt v hv)
  |true=>rw[aD rfl]at h;have h:(s ((v+1)%L.length)+1)%L.length=s v:=h;rw[<-h];exact key _ hs
 |false=>
  obtain⟨u,hu,rfl⟩:∃u,u<L.length/\v=(u+1)%L.length:=⟨(v+L.length-1)%L.length,hb,(vZ hv).symm⟩;rw[<-key u hu,Hg hu];have h:=i.step u hu;cases r with
  |false=>rw[au ae]at h;have h:s ((u+1)%L.length)=(s u+1)%L.length:=h;rw[h];exact key _ (i.lt u hu)
  |true=>rw[aD rfl]at h;have h:(s ((u+1)%L.length)+1)%L.length=s u:=h;rw[<-h];exact KX _ (i.lt _ hv)
def dk.QK(i:dk F L M r s t){d:Nat}(hd:d<2*L.length):j5 L.length r s d<2*L.length:=by rw[DK hd,Hg (yG i.g hd)];exact xS (i.lt _ (yG i.g hd)) _
def Ft{n d:Nat}(hd:2*n<=d):j5 n r s d=d:=au aa
def dk.Va(i:dk F L M r s t){d:Nat}(hd:d<nD L):j5 L.length r s d<nD L:=by
 by_cases h:d<2*L.length
 .have:=i.QK h;show _<2*L.length+2*(aG L).length;omega
 rw[Ft aa];exact hd
def dk.Fu(i:dk F L M r s t)(d:Nat):j5 L.length r t (j5 L.length r s d)=d:=by
 by_cases h:d<2*L.length
 .have hh:=yG i.g h
  conv=>lhs;rw[DK h]
  rw[Hg hh,Hg (i.lt _ hh),i.ts _ hh]
  conv=>rhs;rw[DK h]
  congr 1;cases aY d<;>cases r<;>rfl
 rw[Ft (s:=s) aa,Ft aa]
def dk.next(i:dk F L M r s t){d:Nat}(hd:d<nD L):aO M (j5 L.length r s d)=j5 L.length r s (aO L d):=by
 have hd:d<2*L.length+2*(aG L).length:=hd;by_cases h:d<2*L.length
 .have hh:=yG i.g h;obtain⟨l,hl⟩:=aL hh;obtain⟨m,hm,_⟩:=i.at_ _ _ hl;obtain⟨k1,k2,k3,_⟩:=i.aE hl hm;have e:=DK h;generalize oH L.length d=v at*;generalize aY d=f at*;subst e;rw[Hg hh]
  conv=>lhs;rw[<-i.len]
  rcases wM (i.g.bad l (aV hl))with hp|hc
  .rw[Gz hl hp,Gz hm (k1.trans hp),i.dwn _ _ hl hp,i.idx hl hp,i.axl,i.len];have eb:((dn L v !=r)==(f !=r))=(dn L v==f):=by cases dn L v<;>cases r<;>cases f<;>rfl
   rw[eb];split
   .rw[Ft aa]
   rw[Ft aa]
  rw[yN hl hc,yN hm (k2.trans hc),i.other hl hc,i.len,i.along (Lo i.g.ok hl hc)];have e3:(m.over==(m.sign==1))=(l.over==(l.sign==1)):=k3;rw[e3];congr 1;cases f<;>cases r<;>cases(l.over==(l.sign==1))<;>rfl
 rw[Ft aa];have hm:0<(aG L).length:=aa;rcases vt (d-2*L.length)with hq|hq
 .obtain⟨k,hk,rfl⟩:∃k,k<(aG L).length/\d=2*L.length+2*k:=⟨(d-2*L.length)/2,aa,aa⟩;have df:(k+1)%(aG L).length<(aG L).length:=de _ hm;rw[EN]
  conv=>lhs;rw[<-i.len,EN,i.axl,i.len,i.ax df]
  obtain⟨u,l,_,du,hl,hp,_⟩:=My i.g.ok df;rw[du,i.along (aT.1 hl).1,i.dwn _ _ hl hp];congr 1;cases dn L u<;>cases r<;>rfl
 obtain⟨k,hk,rfl⟩:∃k,k<(aG L).length/\d=2*L.length+2*k+1:=⟨(d-2*L.length)/2,aa,aa⟩;rw[EM]
 conv=>lhs;rw[<-i.len,EM,i.len,i.ax hk]
 obtain⟨u,l,_,du,hl,hp,_⟩:=My i.g.ok hk;rw[du,i.along (aT.1 hl).1,i.dwn _ _ hl hp]
end
section
variable {F:Nat} {L M:ai} {r:Bool} {s t:Nat->Nat}
def TJ(g:ch F L){w:a_}(hw:w∈gH (aO L) (nD L)):w.Nodup/\(∀y∈w,y<nD L)/\ ∃d,d∈w:=by obtain⟨⟨d,t,h1,_⟩,_,h3⟩:=aj8 (aO L) (nD L) (nD L) w hw;exact⟨akq (List.sublist_flatten_of_mem hw) (Dd (aO L) (nD L)).1,h3,d,by rw[h1];simp⟩
def aaa(hx:x<nD L):∃w,w∈gH (aO L) (nD L)/\x∈w:=by obtain⟨w,h1,h2⟩:=GF.1 ((Dd (aO L) (nD L)).2 x hx);exact⟨w,h1,h2⟩
def axz{w u:a_}(hw:w∈gH (aO L) (nD L))(hu:u∈gH (aO L) (nD L))(h1:x∈w)(h2:x∈u):w=u:=by obtain⟨i,hi⟩:=gV hw;obtain⟨j,hj⟩:=gV hu;have:=Za (Dd (aO L) (nD L)).1 hi hj h1 h2;subst this;rw[hi]at hj;cases hj;rfl
def aj7(g:ch F L){w:a_}(hw:w∈gH (aO L) (nD L))(hx:x<nD L):aO L x∈w↔x∈w:=by refine⟨fun h=>?_,fun h=>yO (maps g.ok) hw h⟩;obtain⟨u,hu,Ib⟩:=aaa hx;have:=axz hw hu h (yO (maps g.ok) hu Ib);rw[this];exact Ib
def dk.walk(i:dk F L M r s t){w:a_}(hw:w∈gH (aO L) (nD L)):∃w',w'∈gH (aO M) (nD M)/\(w.map (j5 L.length r s)).Perm w':=by
 obtain⟨hn,aA,d,hd⟩:=TJ i.g hw;have pN:=i.nDe;obtain⟨w',F8,hdw⟩:=aaa (L:=M) (x:=j5 L.length r s d) (by rw[pN];exact i.Va (aA d hd));obtain⟨Cj,aM,_⟩:=TJ i.g' F8;refine⟨w',F8,(T3 ?_ Cj).2 fun z=>?_⟩
 .exact List.Pairwise.map (S:=(· ≠ ·)) _ (fun x y h e=>h (by rw[<-i.Fu x,<-i.Fu y,e])) hn
 rw[cJ];constructor
 .rintro ⟨y,hy,rfl⟩
  exact(TI i.g hw (Q:=fun y=>j5 L.length r s y∈w') (fun x hx=>by show j5 L.length r s (aO L x)∈w'↔_;rw[<-i.next hx];exact aj7 i.g' F8 (by rw[pN];exact i.Va hx)) hd hy).1 hdw
 intro hz;have h2:=i.symm.Fu z;rw[i.len]at h2;refine⟨j5 L.length r t z,?_,h2⟩;have:=(TI i.g' F8 (Q:=fun z=>j5 L.length r t z∈w) (fun x hx=>by show j5 L.length r t (aO M x)∈w↔_;have h3:=i.symm.next hx;rw[i.len]at h3;rw[<-h3];have h4:=i.symm.Va hx;rw[i.len,pN]at h4;exact aj7 i.g hw h4) hdw hz).1 (by show j5 L.length r t (j5 L.length r s d)∈w;rw[i.Fu];exact hd)
 exact this
def vn(F:Nat)(L:ai)(x:Nat):Nat:=if x<2*L.length then 0 else(qU F L ((x-2*L.length)/2)).length
def ad4(F:Nat)(L:ai)(w:a_):(mg F L w).places.length=(w.map (vn F L)).sum:=by
 have key:∀(w:a_) (f:Fc),(w.foldl (Fc.add F L) f).places.length=f.places.length+(w.map (vn F L)).sum:=by
  intro w
  induction w with
  |nil=>intro f;rfl
  |cons x w ih=>
   intro f;rw[BD,ih,ek,Mj];have h3:(Fc.add F L f x).places.length=f.places.length+vn F L x:=by
    unfold Fc.add vn;split
    .rfl
    simp only[fS];split
    .rfl
    rw[og]
   omega
 have:=key w (Fc.new L (w.headD 0));exact this.trans (jx _)
def dk.piece(i:dk F L M r s t){k:Nat}(hk:k<(aG L).length):qU F M k=qU F L k:=by
 have df:(k+1)%(aG L).length<(aG L).length:=de _ aa;have key:∀j,j<(aG L).length->gN M ((aG M).getD j 0)=gN L ((aG L).getD j 0)/\rN M ((aG M).getD j 0)=rN L ((aG L).getD j 0):=fun j hj=>by obtain⟨u,l,_,du,hl,hp,_⟩:=My i.g.ok hj;obtain⟨m,hm,_⟩:=i.at_ u l hl;obtain⟨_,_,_,h1,h2,_⟩:=i.aE hl hm;rw[i.ax hj,du,A3 hl,A3 hm,Zw hl,Zw hm,h1,h2];exact⟨rfl,rfl⟩
 unfold qU;simp only[i.axl];rw[(key k hk).1,(key k hk).2,(key _ df).1]
def dk.acz(i:dk F L M r s t):j5 L.length r s x<2*L.length↔x<2*L.length:=by
 refine⟨fun h=>?_,fun h=>i.QK h⟩;by_cases hx:x<2*L.length
 .exact hx
 rw[Ft aa]at h;omega
def dk.wt(i:dk F L M r s t)(hx:x<nD L):vn F M (j5 L.length r s x)=vn F L x:=by
 unfold vn;rw[i.len];by_cases h:x<2*L.length
 .rw[aD h,aD (i.QK h)]
 rw[Ft aa,au h,au h,i.piece (by have:x<2*L.length+2*(aG L).length:=hx;omega)]
def dV(n:Nat)(r:Bool)(s:Nat->Nat)(e:Nat):Nat:=j5 n r s (2*e)/2
def dk.QN(i:dk F L M r s t){e:Nat}(he:e<L.length):(j5 L.length r s (2*e)=2*dV L.length r s e/\j5 L.length r s (2*e+1)=2*dV L.length r s e+1)\/(j5 L.length r s (2*e)=2*dV L.length r s e+1/\j5 L.length r s (2*e+1)=2*dV L.length r s e):=by
 have e1:2*e=dx L.length e true:=rfl;have e2:2*e+1=fV L.length e false:=rfl;have h1:=i.along he true;have h2:=Hg (r:=r) (s:=s) (f:=false) he;rw[<-e1]at h1;rw[<-e2]at h2;unfold dV;have h3:j5 L.length r s (2*e+1)=rv (j5 L.length r s (2*e)):=by rw[h1,h2,Ad];cases r<;>rfl
 rw[h3];unfold rv;split<;>omega
def dk.DP(i:dk F L M r s t){e:Nat}(he:e<L.length):dV L.length r s e<L.length:=by have:=i.QK (d:=2*e) aa;unfold dV;omega
def dk.JX(i:dk F L M r s t){e:Nat}(he:e<L.length):dV L.length r t (dV L.length r s e)=e:=by
 have h0:=i.Fu (2*e);have h1:=i.Fu (2*e+1);have h2:∀x,j5 L.length r t (2*dV L.length r s e)=x->dV L.length r t (dV L.length r s e)=x/2:=fun x h=>by show j5 L.length r t (2*dV L.length r s e)/2=_;rw[h]
 rcases i.QN he with⟨k1,k2⟩|⟨k1,k2⟩
 .rw[k1]at h0;rw[h2 _ h0];omega
 rw[k2]at h1;rw[h2 _ h1];omega
def dk.only(i:dk F L M r s t){pl:Nat}{edges:a_}(he:∀e∈edges,e<L.length)(h:wm F L pl edges=true):wm F M pl (edges.map (dV L.length r s))=true:=by
 unfold wm at h |-;rw[wG]at h |-;obtain⟨f,hf,h⟩:=h;obtain⟨w,hw,rfl⟩:=cJ.1 hf;obtain⟨w',F8,hp⟩:=i.walk hw;obtain⟨_,aA,_⟩:=TJ i.g hw;refine⟨mg F M w',cJ.2 ⟨w',F8,rfl⟩,?_⟩;unfold IB at h |-;simp only[cH,cZ,gk]at h |-;obtain⟨h1,h2,h3⟩:=h;rw[BR]at h1 |-;rw[ad4]at h2 |-;rw[cE];have hm:∀x,x∈w↔j5 L.length r s x∈w':=fun x=>by
  rw[<-hp.mem_iff,cJ];refine⟨fun h=>⟨x,h,rfl⟩,?_⟩;rintro⟨y,hy,e⟩
  rw[<-i.Fu x,<-e,i.Fu];exact hy
 refine⟨?_,?_,fun e' D0=>?_⟩
 .rw[<-h1,<- (hp.filter _).length_eq,List.filter_map,cE];congr 1;refine List.filter_congr fun x _=>?_;rw[Function.comp_apply,i.len];exact decide_eq_decide.2 i.acz
 .rw[<-h2,<- (hp.map _).sum_nat,uy];congr 1;exact As fun x hx=>i.wt (aA x hx)
 obtain⟨e,hem,rfl⟩:=cJ.1 D0;have h4:=h3 e hem;have dB:=he e hem;rw[BR]at h4;have q:∀d,d<2*L.length->(d∈w.filter (fun x=>decide (x<2*L.length))↔j5 L.length r s d∈w'.filter (fun x=>decide (x<2*M.length))):=fun d hd=>by rw[uz,uz,mf,mf,i.len,i.acz,hm]
 have q0:=q (2*e) aa;have q1:=q (2*e+1) aa;rcases i.QN dB with⟨k1,k2⟩|⟨k1,k2⟩
 .rw[k1]at q0;rw[k2]at q1;rw[decide_eq_decide.2 q0,decide_eq_decide.2 q1]at h4;exact h4
 rw[k1]at q0;rw[k2]at q1;rw[decide_eq_decide.2 q0,decide_eq_decide.2 q1]at h4;revert h4;generalize decide (2*dV L.length r s e∈List.filter (fun x=>decide (x<2*M.length)) w')=a;generalize decide (2*dV L.length r s e+1∈List.filter (fun x=>decide (x<2*M.length)) w')=b;cases a<;>cases b<;>decide
def Lm{pl:Nat}{e1 e2:a_}(h:e1.Perm e2):wm F L pl e1=wm F L pl e2:=by unfold wm;congr 1;funext f;unfold IB;rw[h.length_eq];congr 2;rw[ET,gk,gk];exact⟨fun k e he=>k e (h.mem_iff.2 he),fun k e he=>k e (h.mem_iff.1 he)⟩
def dk.UR(i:dk F L M r s t){pl:Nat}{edges:a_}{e0:Nat}(he:∀e∈edges,e<L.length)(h0:edges[0]?=some e0)(h:kX F L pl edges e0=true){ib:a_}{Hi:Nat}(hp:(edges.map (dV L.length r s)).Perm ib)(Nw:ib[0]?=some Hi):kX F M pl ib Hi=true:=by have hm:Hi∈edges.map (dV L.length r s):=hp.mem_iff.2 (aV Nw);obtain⟨e,dB,rfl⟩:=cJ.1 hm;rw[BN h0 (he _ (aV h0))]at h;rw[BN Nw (by rw[i.len];exact i.DP (he e dB)),<-Lm hp];exact i.only he h
end
def Br{n a:Nat}(h:a<2*n):a%n=if a<n then a else a-n:=by
 split
 .rename_i h1;exact fT h1
 rename_i h1;rw[akI aa,fT aa]
def LG{l:ai}{i k:Nat}(hi:i<l.length)(hk:k<l.length):(eI l i)[k]?=l[(i+k)%l.length]? :=Tc hi hk
def ane(q:Let->Bool)(l:ai)(i k:Nat)(hi:i<=l.length)(hk:k<=l.length):aq q ((eI l i).take k)+aq q (l.take i)=if i+k<=l.length then aq q (l.take (i+k))else aq q l+aq q (l.take (i+k-l.length)):=by
 have hd:(l.drop i).length=l.length-i:=lH;unfold eI;split
 .rename_i h;rw[PW aa,Ml,<-wP,<-aaB]
 rename_i h;rw[Mk,gK aa,hd,wP,GI,Au aa,show k-(l.length-i)=i+k-l.length by omega];have:aq q l=aq q (l.take i)+aq q (l.drop i):=by rw[<-wP,mU]
 omega
def acE{l:ai}{i v:Nat}(he:aq Let.aE l%2=0)(hp:par l i)(hi:i<l.length)(hv:v<l.length):dn (eI l i) ((v+l.length-i)%l.length)=dn l v:=by
 have h1:=ane Let.aE l i ((v+l.length-i)%l.length) aa (Nat.le_of_lt (de _ aa));have hp:aq Let.aE (l.take i)%2=0:=hp;have h2:=Br (n:=l.length) (a:=v+l.length-i) aa;have key:aq Let.aE ((eI l i).take ((v+l.length-i)%l.length))%2=aq Let.aE (l.take v)%2:=by
  rw[h2]at h1 |-;by_cases qO:v<i
  .rw[aD aa]at h1 |-;by_cases h0:v=0
   .subst h0;rw[aD aa,show i+(0+l.length-i)=l.length by omega,lJ]at h1;have e0:aq Let.aE (l.take 0)=0:=rfl;rw[e0];omega
   rw[au aa,show i+(v+l.length-i)-l.length=v by omega]at h1;omega
  rw[au aa]at h1 |-;rw[aD aa,show i+(v+l.length-i-l.length)=v by omega]at h1;omega
 unfold dn;rw[key]
def acD{l:ai}{v:Nat}{x:Let}(he:aq Let.aE l%2=0)(hx:l[v]?=some x)(hp:x.aE=true):dn l.reverse (l.length-1-v)= !dn l v:=by
 have hv:=(aT.1 hx).1;have h1:aq Let.aE (l.reverse.take (l.length-1-v))=aq Let.aE (l.drop (v+1)):=by rw[aaC,vz,show l.length-(l.length-1-v)=v+1 by omega]
 have h2:aq Let.aE l=aq Let.aE (l.take (v+1))+aq Let.aE (l.drop (v+1)):=by rw[<-wP,mU]
 have h3:=sQ hx hp;unfold dn;rw[h1];rcases vt (aq Let.aE (l.take v))with h|h
 .rw[h,show aq Let.aE (l.drop (v+1))%2=1 by omega];rfl
 rw[h,show aq Let.aE (l.drop (v+1))%2=0 by omega];rfl
def acC{f:Int->Int}(l:ai)(v:Nat):dn (l.map (dY f)) v=dn l v:=by unfold dn;rw[<-Je,QD]
def abT{f:Int->Int}{p:Let->Bool}(hp:∀l m:Let,m.kind=l.kind->m.gate=l.gate->p m=p l)(l:ai):aq p (l.map (dY f))=aq p l:=by show List.countP _ _=List.countP _ _;rw[yS];refine Ja fun x _=>?_;rw[Function.comp_apply,hp x (dY f x) (Uq f x) (by unfold dY;split<;>rfl)]
def Mu(f:Int->Int)(x:Let):(dY f x).kind=x.kind/\(dY f x).gate=x.gate/\(dY f x).aw=x.aw/\(dY f x).sign=x.sign/\(dY f x).over=x.over/\(x.aB=true->(dY f x).id=f x.id):=by
 unfold dY Let.aB;split
 .exact⟨rfl,rfl,rfl,rfl,rfl,fun _=>rfl⟩
 rename_i h;exact⟨rfl,rfl,rfl,rfl,rfl,fun h2=>absurd h2 h⟩
section
variable {F:Nat} {L:ai}
def ch.iso(g:ch F L){y:ai}(h:xX L y):∃r s t,dk F L y r s t:=by
 have hy:=g.form h;have hn:0<L.length:=jl.2 g.ne;have gy:y.length=L.length->ch F y:=fun e=>by obtain⟨G,e1,g'⟩:=qG hy (by intro h;rw[h]at e;simp at e;omega);have:F=G:=aa;subst this;exact g'
 have idk:∀(f:Int->Int) (X:ai),inj f X->(∀x∈L,x∈X)->∀(u v:Nat) (l m l' m':Let),L[u]?=some l->L[v]?=some m->l'=dY f l->m'=dY f m->l.aB=true->m.aB=true->(l'.id=m'.id↔l.id=m.id):=by
  intro f X hf hX u v l m l' m' hl hm e1 e2 cl cm;rw[e1,e2,(Mu f l).2.2.2.2.2 cl,(Mu f m).2.2.2.2.2 cm];have kl:l.kind=2:=by unfold Let.aB at cl;exact cZ.1 cl
  have km:m.kind=2:=by unfold Let.aB at cm;exact cZ.1 cm
  exact⟨hf l (hX l (aV hl)) m (hX m (aV hm)) kl km,fun h=>by rw[h]⟩
 rcases h with h|h
 .obtain⟨i,hi,⟨_,hp⟩,rfl⟩:=h;obtain⟨f,hf,e⟩:=ZD (eI L i);rw[e]at gy |-;have hlen:((eI L i).map (dY f)).length=L.length:=by rw[cE,yJ]
  have hs:∀v,v<L.length->(v+L.length-i)%L.length<L.length:=fun v _=>de _ hn;have get:∀v l,L[v]?=some l->((eI L i).map (dY f))[(v+L.length-i)%L.length]?=some (dY f l):=fun v l hl=>by
   have hv:=(aT.1 hl).1;rw[fG,LG hi (hs v hv)];have:(i+(v+L.length-i)%L.length)%L.length=v:=by rw[PY,show i+(v+L.length-i)=v+L.length by omega,ow,fT hv]
   rw[this,hl];rfl
  refine⟨false,fun v=>(v+L.length-i)%L.length,fun v=>(v+i)%L.length,g,gy hlen,hlen,hs,fun v _=>de _ hn,fun v hv=>?_,fun v hv=>?_,fun v hv=>?_,fun v l hl=>?_,fun u v l m l' m' hl hm j7 iU cl cm=>?_,fun v l hl bU=>?_,fun p hp=>?_⟩
  .show((v+i)%L.length+L.length-i)%L.length=v;rw[Br (a:=v+i) aa];split<;>(rw[Br aa];split<;>omega)
  .show((v+L.length-i)%L.length+i)%L.length=v;rw[yY,show v+L.length-i+i=v+L.length by omega,ow,fT hv]
  .rw[au ae];show((v+1)%L.length+L.length-i)%L.length=((v+L.length-i)%L.length+1)%L.length;rw[yY,Br (a:=v+1) aa];split
   .congr 1;omega
   rw[show v+L.length-i+1=(v+1-L.length+L.length-i)+L.length by omega,ow]
  .obtain⟨h1,h2,h3,h4,h5,_⟩:=Mu f l;exact⟨_,get v l hl,h1,h2,h3,h4,h5⟩
  .rw[get u l hl]at j7;rw[get v m hm]at iU;exact idk f _ hf (fun x hx=>Iu.2 hx) u v l m l' m' hl hm (by cases j7;rfl) (by cases iU;rfl) cl cm
  .have hv:=(aT.1 hl).1;rw[acC,acE g.even hp hi hv];cases dn L v<;>rfl
  rw[abT hp,JH]
 obtain⟨i,hi,⟨_,hp⟩,rfl⟩:=h;obtain⟨f,hf,e⟩:=ZD (eI L.reverse i);rw[e]at gy |-;have HX:L.reverse.length=L.length:=og;rw[HX]at hi;have hlen:((eI L.reverse i).map (dY f)).length=L.length:=by rw[cE,yJ,HX]
 have hs:∀v,v<L.length->(L.length-1-v+L.length-i)%L.length<L.length:=fun v _=>de _ hn;have get:∀v l,L[v]?=some l->((eI L.reverse i).map (dY f))[(L.length-1-v+L.length-i)%L.length]?=some (dY f l):=fun v l hl=>by
  have hv:=(aT.1 hl).1;rw[fG,LG aa (by rw[HX];exact hs v hv),HX];have:(i+(L.length-1-v+L.length-i)%L.length)%L.length=L.length-1-v:=by rw[PY,show i+(L.length-1-v+L.length-i)=L.length-1-v+L.length by omega,ow,fT aa]
  rw[this,TX aa,show L.length-1-(L.length-1-v)=v by omega,hl];rfl
 refine⟨true,fun v=>(L.length-1-v+L.length-i)%L.length,fun v=>L.length-1-(v+i)%L.length,g,gy hlen,hlen,hs,fun v _=>aa,fun v hv=>?_,fun v hv=>?_,fun v hv=>?_,fun v l hl=>?_,fun u v l m l' m' hl hm j7 iU cl cm=>?_,fun v l hl bU=>?_,fun p hp=>?_⟩
 .show(L.length-1-(L.length-1-(v+i)%L.length)+L.length-i)%L.length=v;have:=de (v+i) hn;rw[show L.length-1-(L.length-1-(v+i)%L.length)=(v+i)%L.length by omega,Br (a:=v+i) aa];split<;>(rw[Br aa];split<;>omega)
 .show L.length-1-((L.length-1-v+L.length-i)%L.length+i)%L.length=v;rw[yY,show L.length-1-v+L.length-i+i=L.length-1-v+L.length by omega,ow,fT aa];omega
 .rw[aD rfl];show((L.length-1-(v+1)%L.length+L.length-i)%L.length+1)%L.length=(L.length-1-v+L.length-i)%L.length;rw[yY,Br (a:=v+1) aa];split
  .congr 1;omega
  rw[show L.length-1-(v+1-L.length)+L.length-i+1=(L.length-1-v+L.length-i)+L.length by omega,ow]
 .obtain⟨h1,h2,h3,h4,h5,_⟩:=Mu f l;exact⟨_,get v l hl,h1,h2,h3,h4,h5⟩
 .rw[get u l hl]at j7;rw[get v m hm]at iU;exact idk f _ hf (fun x hx=>Iu.2 (PT.2 hx)) u v l m l' m' hl hm (by cases j7;rfl) (by cases iU;rfl) cl cm
 .have hv:=(aT.1 hl).1;have h1:=acE (l:=L.reverse) (v:=L.length-1-v) (by rw[vz];exact g.even) hp aa aa;rw[HX]at h1;rw[acC,h1,acD g.even hl bU];cases dn L v<;>rfl
 rw[abT hp,JH,vz]
end
def aib{α:Type}{l:List α}{f k:Nat}(hf:f<l.length)(hk:k<l.length):(l.drop f++l.take f)[k]?=l[(f+k)%l.length]? :=Tc hf hk
def Qy{F:Nat}{P:c_}(c:Cert F P):∃f,f<P.length/\(∀k,k<P.length->(dO P)[k]?=(P[(f+k)%P.length]?).map Pc.l)/\(dO P).length=P.length/\(∃p,P[f]?=some p/\p.l.aE=true/\p.d=true)/\ ∀k p,k<P.length->P[(f+k)%P.length]?=some p->p.l.aE=true->p.d=dn (dO P) k:=by
 obtain⟨i,hi⟩:∃i,tV P=some i:=by
  cases h:tV P with
  |some i=>exact⟨i,rfl⟩
  |none=>
   exfalso;obtain⟨z,T,B,S,e,cz⟩:=c;subst e;obtain⟨x,hx,hp,hd⟩:=cz.down;obtain⟨j,hj⟩:=gV hx;have nQ:=(aT.1 hj).1;have Bi:(z.map aQ.p)[j]?=some x.p:=by rw[fG,hj];rfl
   have:=Jb.1 h j (by simpa using nQ);rw[Pe Bi]at this;unfold EB at this;have gh:(x.p.l.kind==1)=true:=hp;simp[gh,hd]at this
 have h1:=Md hi;have h2:i<P.length:=im.1 (Jf hi);obtain⟨p,gD⟩:=aL h2;rw[Pe gD]at h1;unfold EB at h1;rw[cH]at h1;have fv:p.l.aE=true:=h1.1;have e1:dO P=(P.drop i++P.take i).map Pc.l:=by unfold dO;rw[hi];exact Td (by exact Nat.le_of_lt h2)
 have HX:(P.drop i++P.take i).length=P.length:=by simp;omega
 have c2:Cert F (P.drop i++P.take i):=Cert.lE (by rw[mU];exact c);obtain⟨z,T,B,S,e,cz⟩:=c2;obtain⟨s,hp⟩:=cz.path;have zO:aR z=dO P:=by rw[e1,<-e,uy];rfl
 have mN:z.length=P.length:=by rw[<-HX,<-e,cE]
 have zat:∀k q,k<P.length->P[(i+k)%P.length]?=some q->∃x,z[k]?=some x/\x.p=q:=fun k q hk hq=>by
  rw[<-aib h2 hk,<-e,fG]at hq;cases hz:z[k]? with
  |none=>rw[hz]at hq;cases hq
  |some x=>rw[hz]at hq;cases hq;exact⟨x,rfl,rfl⟩
 have hs:s.b=false:=by obtain⟨x,hx,ug⟩:=zat 0 p aa (by rw[vr,fT h2];exact gD);have ok:=(cz.ok x (aV hx)).pb (by unfold aQ.k;rw[ug];exact fv);have h3:=Lr hp hx;rw[h3,ug,h1.2]at ok;exact ok.2
 refine⟨i,h2,fun k hk=>?_,by rw[Ra],⟨p,gD,fv,h1.2⟩,fun k q hk hq Ek=>?_⟩
 .rw[e1,fG,aib h2 hk]
 obtain⟨x,hx,rfl⟩:=zat k q hk hq;have h4:=(SR cz.ok hp hs k x hx).1;have h5:=((cz.ok x (aV hx)).pb Ek).2;rw[h4,zO]at h5;cases hh:x.p.d<;>rw[hh]at h5<;>revert h5<;>cases dn (dO P) k<;>simp
def afF{P Q:c_}{s:Nat->Nat}(h:∀u v p p' q q',P[u]?=some p->P[v]?=some p'->Q[s u]?=some q->Q[s v]?=some q'->p.l.aB=true->p'.l.aB=true->(q.l.id=q'.l.id↔p.l.id=p'.l.id)):∃f:Int->Int,∀v p q,P[v]?=some p->Q[s v]?=some q->p.l.aB=true->q.l.id=f p.l.id:=by
 classical
 refine⟨fun a=>if h:∃x:Int,∃v p q,P[v]?=some p/\Q[s v]?=some q/\p.l.aB=true/\p.l.id=a/\q.l.id=x then Classical.choose h else 0,fun v p q hp hq hc=>?_⟩;have hex:∃x:Int,∃v' p' q',P[v']?=some p'/\Q[s v']?=some q'/\p'.l.aB=true/\p'.l.id=p.l.id/\q'.l.id=x:=⟨_,v,p,q,hp,hq,hc,rfl,rfl⟩;dsimp only;rw[dif_pos hex];obtain⟨v',p',q',h1,h2,h3,h4,h5⟩:=Classical.choose_spec hex;rw[<-h5];exact(h v v' p p' q q' hp h1 hq h2 hc h3).2 h4.symm
section
variable {F:Nat} {L M:ai} {r:Bool} {s t:Nat->Nat}
def dk.ajI(i:dk F L M r s t){v:Nat}(hv:v<L.length):∀k,k<=L.length->t ((v+k)%L.length)=if r=true then(t v+L.length-k)%L.length else(t v+k)%L.length:=by
 have hn:0<L.length:=aa;intro k
 induction k with
 |zero=>intro _;rw[vr,fT hv,Nat.sub_zero,ow,vr,fT (i.CI v hv)];split<;>rfl
 |succ k ih=>
  intro hk;have ih:=ih aa;have hvk:(v+k)%L.length<L.length:=de _ hn;have cV:=i.symm.step ((v+k)%L.length) (by rw[i.len];exact hvk);have e:∀u,nx M u=(u+1)%L.length:=fun u=>by show(u+1)%M.length=_;rw[i.len]
  simp only[e,yY]at cV;have aA:=i.CI _ (show(v+k+1)%L.length<L.length from de _ hn);rw[show v+(k+1)=v+k+1 by omega];cases r with
  |false=>rw[au ae]at cV ih |-;rw[cV,ih,yY];rfl
  |true=>
   rw[aD rfl]at cV ih |-;rw[ih]at cV;have h2:(t v+L.length-k)%L.length=((t v+L.length-(k+1))%L.length+1)%L.length:=by rw[yY];congr 1;omega
   rw[h2]at cV;exact Zf aA (de _ hn) cV
def dk.fin(i:dk F L M r s t){P Q:c_}(zx:P.length=L.length)(hQl:Q.length=L.length)(cP:Cert F P)(cQ:Cert F Q)(vP:cG (F:Int) (dO P)=0)
  (h:∀v p,P[v]?=some p->∃q,Q[s v]?=some q/\q.l.kind=p.l.kind/\q.l.gate=p.l.gate/\q.l.aw=p.l.aw/\q.l.sign=p.l.sign/\q.l.over=p.l.over/\(p.l.aB=false->q.l.id=p.l.id)/\(p.l.aE=true->q.d=(p.d !=r)))
  (hid:∀u v p p' q q',P[u]?=some p->P[v]?=some p'->Q[s u]?=some q->Q[s v]?=some q'->p.l.aB=true->p'.l.aB=true->(q.l.id=q'.l.id↔p.l.id=p'.l.id)):lM (dO Q) (dO P):=by
 obtain⟨f0,hf0,a1,al,⟨p0,hp0,pp0,pd0⟩,a2⟩:=Qy cP;obtain⟨f1,vK,b1,bl,⟨q0,OC,qp0,qd0⟩,_⟩:=Qy cQ;obtain⟨f,hf⟩:=afF hid;rw[zx]at hf0 a1 al a2;rw[hQl]at vK b1 bl;have hn:0<L.length:=aa;have aH:dO P≠[]:=fun e=>by rw[e]at al;simp at al;omega
 have he:aq Let.aE (dO P)%2=0:=by obtain⟨G,_,g⟩:=qG vP aH;exact g.even
 have hb:dQ F lQ=true:=rfl;have aqe:∀v p q,P[v]?=some p->Q[s v]?=some q->q.l=dY f p.l:=by
  intro v p q hp hq;obtain⟨q',rI,h1,h2,h3,h4,h5,h6,_⟩:=h v p hp;rw[hq]at rI;cases rI;obtain⟨g1,g2,g3,g4,g5,g6⟩:=Mu f p.l;have ap9:q.l.id=(dY f p.l).id:=by
   cases hc:p.l.aB with
   |true=>rw[g6 hc];exact hf v p q hp hq hc
   |false=>rw[abc hc];exact h6 hc
  have ap1:∀a b:Let,a.kind=b.kind->a.gate=b.gate->a.aw=b.aw->a.id=b.id->a.sign=b.sign->a.over=b.over->a=b:=fun a b=>by cases a;cases b;simp only[Let.mk.injEq];intros;simp_all
  exact ap1 _ _ (h1.trans g1.symm) (h2.trans g2.symm) (h3.trans g3.symm) ap9 (h4.trans g4.symm) (h5.trans g5.symm)
 have w8:∀X:ai,(∀x∈X,x∈dO P)->inj f X:=by
  intro X hX x hx y hy kx ky e;obtain⟨a,ha⟩:=gV (hX x hx);obtain⟨b,hb⟩:=gV (hX y hy);have gT:a<L.length:=by rw[<-al];exact(aT.1 ha).1
  have sY:b<L.length:=by rw[<-al];exact(aT.1 hb).1
  rw[a1 _ gT]at ha;rw[a1 _ sY]at hb;obtain⟨p,hp,rfl⟩:=dT.1 ha;obtain⟨p',gh,rfl⟩:=dT.1 hb;have cx:p.l.aB=true:=by unfold Let.aB;rw[kx];rfl
  have cy:p'.l.aB=true:=by unfold Let.aB;rw[ky];rfl
  obtain⟨q,hq,_⟩:=h _ p hp;obtain⟨q',rI,_⟩:=h _ p' gh;have e1:=hf _ p q hp hq cx;have e2:=hf _ p' q' gh rI cy;exact(hid _ _ _ _ _ _ hp gh hq rI cx cy).1 (by rw[e1,e2,e])
 have KO:=i.CI f1 vK;obtain⟨p1,lY⟩:=aL (ls:=P) (k:=t f1) aa;have vJ:p1.l.aE=true/\true=(p1.d !=r):=by
  obtain⟨q,hq,h1,_,_,_,_,_,h7⟩:=h _ p1 lY;rw[i.st f1 vK,OC]at hq;cases hq;have:p1.l.aE=true:=by unfold Let.aE at qp0 |-;rw[<-h1];exact qp0
  exact⟨this,by rw[<-h7 this];exact qd0.symm⟩
 obtain⟨j,hj,hjt⟩:∃j,j<L.length/\(f0+j)%L.length=t f1:=⟨(t f1+L.length-f0)%L.length,de _ hn,by
  rw[PY,show f0+(t f1+L.length-f0)=t f1+L.length by omega,ow,fT KO]⟩
 have NR:=a2 j p1 hj (by rw[hjt];exact lY) vJ.1;have DS:∀k,k<L.length->∃p,P[t ((f1+k)%L.length)]?=some p/\(dO Q)[k]?=some (dY f p.l):=fun k hk=>by have aA:(f1+k)%L.length<L.length:=de _ hn;obtain⟨p,hp⟩:=aL (ls:=P) (k:=t ((f1+k)%L.length)) (by rw[zx];exact i.CI _ aA);obtain⟨q,hq,_⟩:=h _ p hp;have HW:=hq;rw[i.st _ aA]at hq;refine⟨p,hp,?_⟩;rw[b1 k hk,hq];show some q.l=_;rw[aqe _ p q hp HW]
 cases r with
 |false=>
  have e:dO Q=(eI (dO P) j).map (dY f):=by
   apply xL;intro k;by_cases hk:k<L.length
   .obtain⟨p,hp,hq⟩:=DS k hk;rw[hq,fG,LG aa aa,al,a1 _ (de _ hn)];rw[i.ajI vK k aa,au ae,<-hjt,yY]at hp;rw[PY,<-EY,hp];rfl
   rw[n9 aa,n9 (by rw[cE,yJ];omega)]
  rw[e];refine(W2 (w8 _ fun x hx=>Iu.1 hx)).trans (Q8 aa he ?_);have oQ:p1.d=true:=by have:=vJ.2;revert this;cases p1.d<;>simp
  rw[oQ]at NR;unfold dn at NR;exact cZ.1 NR.symm
 |true=>
  have nk:L.length-1-j<L.length:=aa;have e:dO Q=(eI (dO P).reverse (L.length-1-j)).map (dY f):=by
   apply xL;intro k;by_cases hk:k<L.length
   .obtain⟨p,hp,hq⟩:=DS k hk;have hx:(L.length-1-j+k)%L.length<L.length:=de _ hn;rw[hq,fG,LG (by rw[og];omega) (by rw[og];omega),og,al,TX aa,al,a1 _ aa];rw[i.ajI vK k aa,aD rfl,<-hjt]at hp;have:(f0+(L.length-1-(L.length-1-j+k)%L.length))%L.length=((f0+j)%L.length+L.length-k)%L.length:=by
     rw[Br (a:=L.length-1-j+k) aa];split
     .rename_i h1;rw[show(f0+j)%L.length+L.length-k=(f0+j)%L.length+(L.length-k) by omega,yY,show f0+(L.length-1-(L.length-1-j+k))=f0+j-k by omega,show f0+j+(L.length-k)=(f0+j-k)+L.length by omega,ow]
     rename_i h1;rw[show(f0+j)%L.length+L.length-k=(f0+j)%L.length+(L.length-k) by omega,yY];congr 1;omega
    rw[this,hp];rfl
   rw[n9 aa,n9 (by rw[cE,yJ,og];omega)]
  rw[e];refine(W2 (w8 _ fun x hx=>PT.1 (Iu.1 hx))).trans ((Q8 (by rw[og];omega) (by rw[vz];exact he) ?_).trans ad1);have oQ:p1.d=false:=by have:=vJ.2;revert this;cases p1.d<;>simp
  rw[oQ]at NR;have hx:(dO P)[j]?=some p1.l:=by rw[a1 j hj,hjt,lY];rfl
  have h9:=acD he hx vJ.1;rw[<-NR,al]at h9;unfold dn at h9;exact cZ.1 h9
end
abbrev bk(L:ai)(v:Nat):Let:=(pA L v).l
section
variable {F:Nat} {L M:ai} {r:Bool} {s t:Nat->Nat}
def iN{v:Nat}{l:Let}(h:L[v]?=some l):bk L v=l:=congrArg Pc.l (iY (ju h))
def dk.u9(i:dk F L M r s t){v:Nat}(hv:v<L.length):(bk M (s v)).kind=(bk L v).kind/\(bk M (s v)).gate=(bk L v).gate/\(bk M (s v)).aw=(bk L v).aw/\(bk M (s v)).sign=(bk L v).sign/\(bk M (s v)).over=(bk L v).over:=by obtain⟨l,hl⟩:=aL hv;obtain⟨m,hm,h1,h2,h3,h4,h5⟩:=i.at_ v l hl;rw[iN hl,iN hm];exact⟨h1,h2,h3,h4,h5⟩
def dk.Cw(i:dk F L M r s t){u v:Nat}(hu:u<L.length)(hv:v<L.length)(cu:(bk L u).kind=2)(cv:(bk L v).kind=2):(bk M (s u)).id=(bk M (s v)).id↔(bk L u).id=(bk L v).id:=by obtain⟨l,hl⟩:=aL hu;obtain⟨m,hm⟩:=aL hv;obtain⟨l',j7,_⟩:=i.at_ u l hl;obtain⟨m',iU,_⟩:=i.at_ v m hm;rw[iN hl]at cu |-;rw[iN hm]at cv |-;rw[iN j7,iN iU];exact i.ids u v l m l' m' hl hm j7 iU (by unfold Let.aB;rw[cu];rfl) (by unfold Let.aB;rw[cv];rfl)
def Yn{α:Type}(c:Bool)(x:α):(if c=true then some x else none).isSome=c:=by cases c<;>rfl
def dk.ends(i:dk F L M r s t){e:Nat}(he:e<L.length):(r=false/\dV L.length r s e=s e/\nx M (dV L.length r s e)=s (nx L e))\/(r=true/\dV L.length r s e=s (nx L e)/\nx M (dV L.length r s e)=s e):=by
 have h1:=i.along he true;have e1:dx L.length e true=2*e:=rfl;rw[e1]at h1;have cV:=i.step e he;have en:∀u,nx M u=(u+1)%L.length:=fun u=>by show(u+1)%M.length=_;rw[i.len]
 have hx:nx L e<L.length:=de _ aa;unfold dV;rw[h1,en];cases r with
 |false=>
  rw[au ae]at cV;refine .inl ⟨rfl,?_,?_⟩
  .show 2*s e/2=_;omega
  show(2*s e/2+1)%L.length=_;rw[cV,show 2*s e/2=s e by omega]
 |true=>
  rw[aD rfl]at cV;have e2:(s e+L.length-1)%L.length=s (nx L e):=by rw[<-cV];exact v7 (i.lt _ hx)
  refine .inr ⟨rfl,?_,?_⟩
  .show(2*((s e+L.length-1)%L.length)+1)/2=_;rw[e2];omega
  show((2*((s e+L.length-1)%L.length)+1)/2+1)%L.length=_;rw[e2,show(2*s (nx L e)+1)/2=s (nx L e) by omega];exact cV
def c1B(p q:Let)(a b:Nat):Bool:=(p.kind==1)&&((q.kind==1)&&((p.gate==q.gate)&&((uk p.aw q.aw-yF p.aw q.aw==1)&& !(decide (a<=2)&&decide (0<b)))))
def alb{L:ai}{a:Nat}:(uC L a).isSome=c1B (bk L a) (bk L (nx L a)) (aq Let.aE L) (aq Let.aB L/2):=by unfold uC c1B;exact Yn _ _
def asW(a b:Int):uk a b-yF a b=uk b a-yF b a:=by unfold uk yF;by_cases h1:a<b<;>by_cases h2:b<a<;>simp only[h1,h2,if_true,if_false]<;>omega
def amt(p q:Let)(a b:Nat):c1B p q a b=c1B q p a b:=by unfold c1B;rw[asW p.aw q.aw,show(p.gate==q.gate)=(q.gate==p.gate) by rw[ET,cZ,cZ];exact eq_comm];cases(p.kind==1)<;>cases(q.kind==1)<;>rfl
def dk.c1(i:dk F L M r s t){a:Nat}(ha:a<L.length)(h:(uC L a).isSome=true):(uC M (dV L.length r s a)).isSome=true:=by
 rw[alb]at h |-;have hx:nx L a<L.length:=de _ aa;have n1:aq Let.aE M=aq Let.aE L:=i.cn _ fun l m h1 _=>by unfold Let.aE;rw[h1]
 have n2:aq Let.aB M=aq Let.aB L:=i.cn _ fun l m h1 _=>by unfold Let.aB;rw[h1]
 have key:c1B (bk M (s a)) (bk M (s (nx L a))) (aq Let.aE M) (aq Let.aB M/2)=true:=by obtain⟨h1,h2,h3,_⟩:=i.u9 ha;obtain⟨k1,k2,k3,_⟩:=i.u9 hx;rw[n1,n2,<-h];unfold c1B;rw[h1,h2,h3,k1,k2,k3]
 rcases i.ends ha with⟨_,e1,e2⟩|⟨_,e1,e2⟩
 .rw[e2,e1];exact key
 rw[e2,e1,amt];exact key
def arP{L:ai}{a:Nat}:(u7 L a).isSome=((bk L a).kind==2&&((bk L (nx L a)).kind==2&&((bk L a).id==(bk L (nx L a)).id))):=by unfold u7;exact Yn _ _
def dk.c4(i:dk F L M r s t){a:Nat}(ha:a<L.length)(h:(u7 L a).isSome=true):(u7 M (dV L.length r s a)).isSome=true:=by
 rw[arP]at h |-;have hx:nx L a<L.length:=de _ aa;simp only[cH,cZ]at h |-;obtain⟨h1,h2,h3⟩:=h;have k1:=(i.u9 ha).1.trans h1;have k2:=(i.u9 hx).1.trans h2;have k3:=(i.Cw ha hx h1 h2).2 h3;rcases i.ends ha with⟨_,e1,e2⟩|⟨_,e1,e2⟩
 .rw[e2,e1];exact⟨k1,k2,k3⟩
 rw[e2,e1];exact⟨k2,k1,k3.symm⟩
structure C6 (F:Nat) (L:ai) (a b:Nat):Prop where
 cr:(bk L a).kind=2/\(bk L (nx L a)).kind=2/\(bk L b).kind=2/\(bk L (nx L b)).kind=2
 ov:(bk L (nx L a)).over=(bk L a).over/\(bk L (nx L b)).over=(bk L b).over/\(bk L b).over= !(bk L a).over
 Cu:(bk L a).id≠(bk L (nx L a)).id
 Cv:((bk L b).id=(bk L a).id/\(bk L (nx L b)).id=(bk L (nx L a)).id)\/((bk L b).id=(bk L (nx L a)).id/\(bk L (nx L b)).id=(bk L a).id)
 vD:nx L (nx L a)≠b/\nx L (nx L b)≠a
 cor:kX F L 0 [a,b] a=true
def Zg(L:ai)(a:Nat):nx L (nx L a)=(a+2)%L.length:=by show((a+1)%L.length+1)%L.length=_;rw[yY]
def SV{F:Nat}{L:ai}{a b:Nat}:(vg F L a b).isSome=true↔C6 F L a b:=by
 unfold vg;rw[Yn];unfold iA;simp only[cH,wE,l9,cZ,lS,ne_eq];constructor
 .rintro ⟨h1,h2,h3,h4,h5,h6⟩
  refine⟨?_,?_,h2,h3,⟨by rw[Zg];exact h4,by rw[Zg];exact h5⟩,h6⟩
  .rcases h1 with⟨⟨a1,a2,_⟩,b1,b2,_⟩|⟨⟨a1,a2,_⟩,b1,b2,_⟩
   .exact⟨a1,a2,b1,b2⟩
   exact⟨a1,a2,b1,b2⟩
  rcases h1 with⟨⟨_,_,a3,a4⟩,_,_,b3,b4⟩|⟨⟨_,_,a3,a4⟩,_,_,b3,b4⟩
  .exact⟨a4.trans a3.symm,b4.trans b3.symm,by rw[b3,a3];rfl⟩
  exact⟨a4.trans a3.symm,b4.trans b3.symm,by rw[b3,a3];rfl⟩
 rintro⟨⟨a1,a2,b1,b2⟩,⟨o1,o2,o3⟩,h2,h3,⟨h4,h5⟩,h6⟩
 rw[Zg]at h4 h5;refine⟨?_,h2,h3,h4,h5,h6⟩;cases ho:(bk L a).over with
 |true=>rw[ho]at o1 o3;exact .inl ⟨⟨a1,a2,rfl,o1⟩,b1,b2,o3,o2.trans o3⟩
 |false=>rw[ho]at o1 o3;exact .inr ⟨⟨a1,a2,rfl,o1⟩,b1,b2,o3,o2.trans o3⟩
def C6.symm{a b:Nat}(h:C6 F L a b)(ha:a<L.length)(hb:b<L.length):C6 F L b a:=by
 obtain⟨⟨a1,a2,b1,b2⟩,⟨o1,o2,o3⟩,h2,h3,⟨h4,h5⟩,h6⟩:=h;refine⟨⟨b1,b2,a1,a2⟩,⟨o2,o1,by rw[o3,L8]⟩,?_,?_,⟨h5,h4⟩,?_⟩
 .rcases h3 with⟨h,k⟩|⟨h,k⟩
  .rw[h,k];exact h2
  rw[h,k];exact h2.symm
 .rcases h3 with⟨h,k⟩|⟨h,k⟩
  .exact .inl ⟨h.symm,k.symm⟩
  exact .inr ⟨k.symm,h.symm⟩
 rw[BN (e0:=a) rfl ha]at h6;rw[BN (e0:=b) rfl hb,Lm (List.Perm.swap a b [])];exact h6
def dk.vD(i:dk F L M r s t){a b:Nat}(ha:a<L.length)(hb:b<L.length)(h:nx L (nx L a)≠b)(h':nx L (nx L b)≠a):nx M (nx M (dV L.length r s a))≠dV L.length r s b:=by
 have uf:nx L a<L.length:=de _ aa;have ON:nx L b<L.length:=de _ aa;have afD:nx L (nx L b)<L.length:=de _ aa;have en:∀u,nx M u=(u+1)%L.length:=fun u=>by show(u+1)%M.length=_;rw[i.len]
 have inj:∀u v,u<L.length->v<L.length->s u=s v->u=v:=fun u v hu hv e=>by rw[<-i.ts u hu,<-i.ts v hv,e]
 rcases i.ends ha with⟨hr,e1,e2⟩|⟨hr,e1,e2⟩
 .subst hr;rcases i.ends hb with⟨_,k1,k2⟩|⟨hr,_⟩
  .intro e;rw[e2,k1,en]at e;have h3:=i.step (nx L a) uf;rw[au ae]at h3;exact h (inj _ _ (de _ aa) hb (h3.trans e))
  cases hr
 subst hr;rcases i.ends hb with⟨hr,_⟩|⟨_,k1,k2⟩
 .cases hr
 intro e;rw[e2,k1,en]at e;have h3:=i.step (nx L b) ON;rw[aD rfl]at h3;have h4:nx L (s a)=nx L (s (nx L (nx L b))):=(show nx L (s a)=s (nx L b)from e).trans h3.symm;exact h' (inj _ _ afD ha (Zf (i.lt _ ha) (i.lt _ afD) h4).symm)
def dk.c6(i:dk F L M r s t){a b:Nat}(ha:a<L.length)(hb:b<L.length)(h:C6 F L a b):C6 F M (dV L.length r s a) (dV L.length r s b):=by
 have uf:nx L a<L.length:=de _ aa;have ON:nx L b<L.length:=de _ aa;have vD:=h.vD;obtain⟨⟨a1,a2,b1,b2⟩,⟨o1,o2,o3⟩,h2,h3,_,h6⟩:=h;have la:=i.u9 ha;have la':=i.u9 uf;have lb:=i.u9 hb;have lb':=i.u9 ON;have ym:kX F M 0 [dV L.length r s a,dV L.length r s b] (dV L.length r s a)=true:=i.UR (edges:=[a,b]) (fun e he=>by simp only[bJ,eo,or_false]at he;rcases he with rfl|rfl<;>assumption) rfl h6 (L9 _) rfl
 have hf:nx M (nx M (dV L.length r s a))≠dV L.length r s b/\nx M (nx M (dV L.length r s b))≠dV L.length r s a:=⟨i.vD ha hb vD.1 vD.2,i.vD hb ha vD.2 vD.1⟩;have Cu:(bk M (s a)).id≠(bk M (s (nx L a))).id:=fun e=>h2 ((i.Cw ha uf a1 a2).1 e);have Cv:((bk M (s b)).id=(bk M (s a)).id/\(bk M (s (nx L b))).id=(bk M (s (nx L a))).id)\/((bk M (s b)).id=(bk M (s (nx L a))).id/\(bk M (s (nx L b))).id=(bk M (s a)).id):=by
  rcases h3 with⟨h,k⟩|⟨h,k⟩
  .exact .inl ⟨(i.Cw hb ha b1 a1).2 h,(i.Cw ON uf b2 a2).2 k⟩
  exact .inr ⟨(i.Cw hb uf b1 a2).2 h,(i.Cw ON ha b2 a1).2 k⟩
 have ka:=la.1.trans a1;have ka':=la'.1.trans a2;have kb:=lb.1.trans b1;have kb':=lb'.1.trans b2;have va:(bk M (s (nx L a))).over=(bk M (s a)).over:=by rw[la.2.2.2.2,la'.2.2.2.2];exact o1
 have vb:(bk M (s (nx L b))).over=(bk M (s b)).over:=by rw[lb.2.2.2.2,lb'.2.2.2.2];exact o2
 have vc:(bk M (s b)).over= !(bk M (s a)).over:=by rw[lb.2.2.2.2,la.2.2.2.2];exact o3
 have E1:=i.ends ha;have E2:=i.ends hb;generalize dV L.length r s a=ea at*;generalize dV L.length r s b=eb at*;rcases E1 with⟨hr,p1,p2⟩|⟨hr,p1,p2⟩<;>rcases E2 with⟨mM,q1,q2⟩|⟨mM,q1,q2⟩
 .refine⟨?_,?_,?_,?_,hf,ym⟩
  .rw[p2,q2,p1,q1];exact⟨ka,ka',kb,kb'⟩
  .rw[p2,q2,p1,q1];exact⟨va,vb,vc⟩
  .rw[p2,p1];exact Cu
  rw[p2,q2,p1,q1];exact Cv
 .rw[hr]at mM;cases mM
 .rw[hr]at mM;cases mM
 refine⟨?_,?_,?_,?_,hf,ym⟩
 .rw[p2,q2,p1,q1];exact⟨ka',ka,kb',kb⟩
 .rw[p2,q2,p1,q1];exact⟨va.symm,vb.symm,by rw[va,vb];exact vc⟩
 .rw[p2,p1];exact Cu.symm
 rw[p2,q2,p1,q1];rcases Cv with⟨h,k⟩|⟨h,k⟩
 .exact .inl ⟨k,h⟩
 exact .inr ⟨k,h⟩
end
section
variable {F:Nat} {L M:ai} {r:Bool} {s t:Nat->Nat}
def Dk(L M:ai)(s:Nat->Nat)(X Y:c_):Prop:=∀x,x<L.length->∃u ρ,u<L.length/\X[x]?=some ⟨{bk L u with aw:=ρ},eN L u⟩/\Y[s x]?=some ⟨{bk M (s u)with aw:=ρ},eN M (s u)⟩
def dk.inj(i:dk F L M r s t){u v:Nat}(hu:u<L.length)(hv:v<L.length)(e:s u=s v):u=v:=by rw[<-i.ts u hu,<-i.ts v hv,e]
def dk.ab6(i:dk F L M r s t):Dk L M s (pieces L) (pieces M):=by
 intro x hx;obtain⟨l,hl⟩:=aL hx;obtain⟨m,hm⟩:=aL (ls:=M) (k:=s x) (by rw[i.len];exact i.lt x hx);refine⟨x,(bk L x).aw,hx,?_,?_⟩
 .rw[ju hl,iN hl]
 rw[ju hm,<- (i.u9 hx).2.2.1,iN hm]
def dk.ab8(i:dk F L M r s t){X Y:c_}(h:Dk L M s X Y){p:Nat}(hp:p<L.length)(ρ:Int):Dk L M s (dp X p ρ) (dp Y (s p) ρ):=by
 obtain⟨u0,r0,h0,a0,b0⟩:=h p hp;intro x hx;obtain⟨u,r1,h1,a1,b1⟩:=h x hx;rw[qp a0,qp b0];by_cases e:x=p
 .subst e;rw[aD rfl,aD rfl];exact⟨u0,ρ,h0,rfl,rfl⟩
 rw[au e,au fun e2=>e (i.inj hx hp e2)];exact⟨u,r1,h1,a1,b1⟩
def dk.corE(i:dk F L M r s t){X Y:c_}(hX:X.length=L.length)(hY:Y.length=M.length)(h:Dk L M s X Y){e:Nat}(he:e<L.length):Dk L M s (eG L X e) (eG M Y (dV L.length r s e)):=by
 have hn:nx L e<L.length:=de _ aa;have dB:dV L.length r s e<M.length:=by rw[i.len];exact i.DP he
 obtain⟨u0,r0,h0,a0,b0⟩:=h e he;obtain⟨u1,r1,h1,a1,b1⟩:=h (nx L e) hn;have aH:=CM i.g he;have hse:s (nx L e)≠s e:=fun e2=>aH (i.inj hn he e2).symm;have hY1:∀x,x<L.length->(eG M Y (dV L.length r s e))[s x]?=if x=nx L e then Y[s e]? else if x=e then Y[s (nx L e)]? else Y[s x]? :=by
  intro x hx;rw[wA hY dB];rcases i.ends he with⟨_,k1,k2⟩|⟨_,k1,k2⟩
  .rw[k2,k1];by_cases c1:x=nx L e
   .subst c1;rw[aD rfl,aD rfl]
   rw[au fun e2=>c1 (i.inj hx hn e2),au c1];by_cases c2:x=e
   .subst c2;rw[aD rfl,aD rfl]
   rw[au fun e2=>c2 (i.inj hx he e2),au c2]
  rw[k2,k1];by_cases c1:x=nx L e
  .subst c1;rw[au hse,aD rfl,aD rfl]
  rw[au c1];by_cases c2:x=e
  .subst c2;rw[aD rfl,aD rfl]
  rw[au fun e2=>c2 (i.inj hx he e2),au fun e2=>c1 (i.inj hx hn e2),au c2]
 intro x hx;obtain⟨u,ρ,k1,k2,k3⟩:=h x hx;rw[wA hX he,hY1 x hx];by_cases c1:x=nx L e
 .rw[aD c1,aD c1];exact⟨u0,r0,h0,a0,b0⟩
 rw[au c1,au c1];by_cases c2:x=e
 .rw[aD c2,aD c2];exact⟨u1,r1,h1,a1,b1⟩
 rw[au c2,au c2];exact⟨u,ρ,k1,k2,k3⟩
def dk.ab7(i:dk F L M r s t):∀ {es:a_}{X Y:c_},X.length=L.length->Y.length=M.length->Dk L M s X Y->(∀e∈es,e<L.length)->Dk L M s (dG L X es) (dG M Y (es.map (dV L.length r s))):=by
 intro es
 induction es with
 |nil=>intro X Y _ _ h _;exact h
 |cons e es ih=>intro X Y hX hY h he;exact ih (by rw[uu,hX]) (by rw[uu,hY]) (i.corE hX hY h (he e af)) fun e h=>he e (by simp[h])
def dk.aec(i:dk F L M r s t){P Q:c_}(hP:P.length=L.length)(hQ:Q.length=L.length)(cP:Cert F P)(cQ:Cert F Q)(vP:cG (F:Int) (dO P)=0)(h:Dk L M s P Q):lM (dO Q) (dO P):=by
 refine i.fin hP hQ cP cQ vP (fun v p hp=>?_) fun u v p p' q q' hp gh hq rI cp mH=>?_
 .have hv:v<L.length:=by rw[<-hP];exact(aT.1 hp).1
  obtain⟨u,ρ,hu,a,b⟩:=h v hv;rw[hp]at a;cases a;obtain⟨k1,k2,k3,k4,k5⟩:=i.u9 hu;refine⟨_,b,k1,k2,rfl,k4,k5,fun hc=>?_,fun fv=>?_⟩
  .have hk:∀(X:ai),ch F X->∀z,z<X.length->(bk X z).aB=false->(bk X z).id=0:=fun X gX z hz hc=>by
    obtain⟨l,hl⟩:=aL hz;rw[iN hl]at hc |-;have hb:=gX.bad l (aV hl);have hp:l.aE=true:=(wM hb).resolve_right (by rw[hc];decide);have:=(sB hp).1 hb;exact this.1.1.2
   have hc:(bk L u).aB=false:=hc;have qJ:(bk M (s u)).aB=false:=by unfold Let.aB at hc |-;rw[k1];exact hc
   exact(hk M i.g' _ (by rw[i.len];exact i.lt u hu) qJ).trans (hk L i.g u hu hc).symm
  have fv:(bk L u).aE=true:=fv;obtain⟨l,hl⟩:=aL hu;obtain⟨m,hm,h1,_⟩:=i.at_ u l hl;rw[iN hl]at fv;have lk:m.aE=true:=(i.aE hl hm).1.trans fv;show eN M (s u)=(eN L u !=r);unfold eN;rw[hl,hm];show(m.aE&&dn M (s u))=((l.aE&&dn L u)!=r);rw[fv,lk,i.dwn u l hl fv];rfl
 have hu:u<L.length:=by rw[<-hP];exact(aT.1 hp).1
 have hv:v<L.length:=by rw[<-hP];exact(aT.1 gh).1
 obtain⟨x,ρ,hx,a,b⟩:=h u hu;obtain⟨y,ρ',hy,a',b'⟩:=h v hv;rw[hp]at a;rw[gh]at a';rw[hq]at b;rw[rI]at b';cases a;cases a';cases b;cases b';exact i.Cw hx hy (by unfold Let.aB at cp;exact cZ.1 cp) (by unfold Let.aB at mH;exact cZ.1 mH)
def rX(L:ai)(e f:Nat):Prop:=e≠f/\e≠nx L f/\nx L e≠f/\nx L e≠nx L f
def awQ{X:c_}(hX:X.length=L.length){e f:Nat}(he:e<L.length)(hf:f<L.length)(h:rX L e f):eG L (eG L X e) f=eG L (eG L X f) e:=by
 obtain⟨h1,h2,h3,h4⟩:=h;apply xL;intro x;have l1:(eG L X e).length=L.length:=by rw[uu,hX]
 have l2:(eG L X f).length=L.length:=by rw[uu,hX]
 simp only[wA l1 hf,wA l2 he,wA hX he,wA hX hf];by_cases c1:x=nx L f
 .subst c1;rw[aD rfl,au (Ne.symm h3),au (by intro h;exact h1 h.symm),au (by intro h;exact h4 h.symm),au (by intro h;exact h2 h.symm)];simp
 by_cases c2:x=f
 .subst c2;by_cases c3:x=nx L x
  .exact absurd c3 c1
  simp[c1,h2.symm,h4.symm,Ne.symm h3,Ne.symm h1]
 by_cases c3:x=nx L e
 .subst c3;simp[h4,h3,h1,h2]
 by_cases c4:x=e
 .subst c4;simp[h1,h2,h3,h4,c3]
 simp[c1,c2,c3,c4]
def Tw{es ib:a_}(hp:es.Perm ib):∀ {X:c_},X.length=L.length->(∀e∈es,e<L.length)->es.Pairwise (rX L)->dG L X es=dG L X ib:=by
 have sym:∀ {e f},rX L e f->rX L f e:=fun h=>⟨h.1.symm,h.2.2.1.symm,h.2.1.symm,h.2.2.2.symm⟩
 induction hp with
 |nil=>intro X _ _ _;rfl
 |cons e _ ih=>intro X hX he hd;exact ih (by rw[uu,hX]) (fun e h=>he e (by simp[h])) (mB.1 hd).2
 |swap e f l=>intro X hX he hd;have h1:=(mB.1 hd).1 e af;show dG L (eG L (eG L X f) e) l=dG L (eG L (eG L X e) f) l;rw[awQ hX (he f af) (he e af) h1]
 |trans h1 h2 ih1 ih2=>intro X hX he hd;rw[ih1 hX he hd];exact ih2 hX (fun e h=>he e (h1.mem_iff.2 h)) (h1.pairwise hd fun h=>sym h)
def ai8{X:c_}{p q:Nat}(hp:p<X.length)(hq:q<X.length)(h:p≠q)(a b:Int):dp (dp X p a) q b=dp (dp X q b) p a:=by
 obtain⟨x,hx⟩:=aL hp;obtain⟨y,hy⟩:=aL hq;have h1:(dp X p a)[q]?=some y:=by rw[qp hx,au (Ne.symm h)];exact hy
 have h2:(dp X q b)[p]?=some x:=by rw[qp hy,au h];exact hx
 apply xL;intro z;rw[qp h1,qp h2,qp hx,qp hy];by_cases c1:z=q
 .subst c1;rw[aD rfl,au (Ne.symm h),aD rfl]
 rw[au c1,au c1]
end
section
variable {F:Nat} {L M:ai} {r:Bool} {s t:Nat->Nat}
def wT(L:ai)(e p v:Nat):Prop:=((p=e/\v=nx L e)\/(p=nx L e/\v=e))/\(bk L p).kind=1/\(bk L v).kind=2
structure C3 (F:Nat) (L:ai) (a b p v q w:Nat):Prop where
 ea:wT L a p v
 eb:wT L b q w
 vw:v≠w
 id:(bk L v).id=(bk L w).id
 cor:kX F L 1 [a,b] a=true
def wT.pv{e p v:Nat}(h:wT L e p v):jY L e=(p,v,true):=by
 obtain⟨h1,h2,h3⟩:=h;unfold jY;rcases h1 with⟨rfl,rfl⟩|⟨rfl,rfl⟩
 .rw[au (by rw[show(pA L p).l.kind=1 from h2];decide),show(pA L p).l.kind=1 from h2,show(pA L (nx L p)).l.kind=2 from h3];rfl
 rw[aD (by rw[show(pA L v).l.kind=2 from h3];rfl),show(pA L (nx L v)).l.kind=1 from h2];rfl
def wT.lt{e p v:Nat}(h:wT L e p v)(he:e<L.length):p<L.length/\v<L.length:=by
 have hn:nx L e<L.length:=de _ aa;rcases h.1 with⟨rfl,rfl⟩|⟨rfl,rfl⟩
 .exact⟨he,hn⟩
 exact⟨hn,he⟩
def Qq(g:ch F L){a b:Nat}(ha:a<L.length)(hb:b<L.length){X:c_}(h:oI F L a b=some X):∃p v q w,C3 F L a b p v q w/\X=dG L (dp (dp (pieces L) p (bk L q).aw) q (bk L p).aw) [a,b]:=by
 have hn:0<L.length:=aa;unfold oI at h;split at h
 case isFalse=>cases h
 rename_i hc;simp only[cH,l9,lS,cZ]at hc;obtain⟨h1,h2,h3,h4,h5⟩:=hc;cases h;obtain⟨ea,⟨la,rH,ca⟩,ma,tj,qa⟩:=S5 hn ha h1;obtain⟨eb,⟨lb,uU,cb⟩,mb,tk,qb⟩:=S5 hn hb h2;have k1:∀ {x:Nat}{l:Let},L[x]?=some l->l.aB=true->(bk L x).kind=2:=fun h1 h2=>by rw[iN h1];unfold Let.aB at h2;exact cZ.1 h2
 have k2:∀ {x:Nat}{l:Let},L[x]?=some l->l.aE=true->(bk L x).kind=1:=fun h1 h2=>by rw[iN h1];unfold Let.aE at h2;exact cZ.1 h2
 exact⟨_,_,_,_,⟨⟨ea,k2 tj qa,k1 rH ca⟩,⟨eb,k2 tk qb,k1 uU cb⟩,h3,h4,h5⟩,rfl⟩
def C3.as{a b p v q w:Nat}(h:C3 F L a b p v q w):oI F L a b=some (dG L (dp (dp (pieces L) p (bk L q).aw) q (bk L p).aw) [a,b]):=by unfold oI;rw[h.ea.pv,h.eb.pv];refine aD ?_;simp only[cH,l9,lS,cZ];exact⟨trivial,trivial,h.vw,h.id,h.cor⟩
def C3.symm{a b p v q w:Nat}(h:C3 F L a b p v q w)(ha:a<L.length)(hb:b<L.length):C3 F L b a q w p v:=by refine⟨h.eb,h.ea,h.vw.symm,h.id.symm,?_⟩;have h6:=h.cor;rw[BN (e0:=a) rfl ha]at h6;rw[BN (e0:=b) rfl hb,Lm (List.Perm.swap a b [])];exact h6
def KZ{y:Nat}(h:(bk L x).kind=1)(k:(bk L y).kind=2):x≠y:=fun e=>by rw[e,k]at h;cases h
def C3.pq(g:ch F L){a b p v q w:Nat}(h:C3 F L a b p v q w)(ha:a<L.length)(hb:b<L.length)(dL:a≠b):p≠q:=by
 obtain⟨⟨ea,kp,kv⟩,⟨eb,kq,kw⟩,Cr,hid,ym⟩:=h;obtain⟨hp,hv⟩:=wT.lt ⟨ea,kp,kv⟩ ha;obtain⟨hq,hw⟩:=wT.lt ⟨eb,kq,kw⟩ hb;obtain⟨ma,tj⟩:=aL hp;obtain⟨la,rH⟩:=aL hv;obtain⟨mb,tk⟩:=aL hq;obtain⟨lb,uU⟩:=aL hw;rw[iN tj]at kp;rw[iN rH]at kv hid;rw[iN tk]at kq;rw[iN uU]at kw hid;have cP:∀ {l:Let},l.kind=1->l.aE=true:=fun h=>by unfold Let.aE;rw[h];rfl
 have cC:∀ {l:Let},l.kind=2->l.aB=true:=fun h=>by unfold Let.aB;rw[h];rfl
 obtain⟨wk,hwk,lY,d,d1,d2,d3,d4,two,cs⟩:=ZK g ha hb dL ea eb rH uU tj tk (cC kv) (cC kw) (cP kp) (cP kq) hid Cr ym;have key:∀ {x y u z:Nat}{lx lz lu:Let},oT L.length d=x->oT L.length (aO L d)=z->oH L.length (aO L d)=y->L[x]?=some lx->L[y]?=some lu->L[z]?=some lz->lu.kind=1->lz.kind=2->x≠y:=by
  intro x y u z lx lz lu e1 e2 e3 hx hy hz ku kz;obtain⟨u',m,y',y1,y2,y3,qK,y4⟩:=SD g hwk lY d3 (v:=oH L.length (aO L d)) (fw:=aY (aO L d)) (DK d4) (by rw[e3];exact hy) (cP ku);have hu:=(aT.1 y2).1;have yT:∀f,oT L.length (dx L.length u' f)=u'/\dx L.length u' f<2*L.length:=fun f=>⟨(Hf hu).1,by
   have:=xS hu (!f);rw[<-Ad]at this;have:=Ae this;rwa[Af]at this⟩
  have vY:oT L.length y'=u'/\y'<2*L.length:=by rcases y4 with⟨_,_,e⟩|⟨_,_,e⟩<;>rw[e]<;>exact yT _
  have hm:m.aw≠lu.aw:=by rcases y4 with⟨_,e,_⟩|⟨_,e,_⟩<;>omega
  rcases two y' y1 vY.2 with e|e
  .rw[e,e1]at vY;rw[<-vY.1,hx]at y2;have:=pz y2;intro e4;rw[e4,hy]at hx;have:=pz hx;apply hm
   simp_all
  exfalso;rw[e,e2]at vY;rw[<-vY.1,hz]at y2;have h5:=pz y2;rw[h5]at kz;unfold Let.aE at y3;rw[kz]at y3;cases y3
 rcases cs with⟨_,_,e1,_,e2,e3⟩|⟨_,_,e1,_,e2,e3⟩
 .exact key (u:=0) e1 e2 e3 tj tk uU kq kw
 exact(key (u:=0) e1 e2 e3 tk tj rH kp kv).symm
def C3.dj(g:ch F L){a b p v q w:Nat}(h:C3 F L a b p v q w)(ha:a<L.length)(hb:b<L.length)(dL:a≠b):rX L a b:=by
 have xg:=h.pq g ha hb dL;obtain⟨⟨ea,kp,kv⟩,⟨eb,kq,kw⟩,Cr,_⟩:=h;have h1:=KZ kp kw;have h2:=KZ kq kv;rcases ea with⟨e1,e2⟩|⟨e1,e2⟩<;>rcases eb with⟨e3,e4⟩|⟨e3,e4⟩<;>subst e1 e2 e3 e4
 .exact⟨xg,h1,h2.symm,Cr⟩
 .exact⟨h1,xg,Cr,h2.symm⟩
 .exact⟨h2.symm,Cr,xg,h1⟩
 exact⟨Cr,h2.symm,h1,xg⟩
def dk.ed(i:dk F L M r s t){e p v:Nat}(he:e<L.length)(h:wT L e p v):wT M (dV L.length r s e) (s p) (s v):=by
 obtain⟨hp,hv⟩:=h.lt he;obtain⟨h1,h2,h3⟩:=h;refine⟨?_,(i.u9 hp).1.trans h2,(i.u9 hv).1.trans h3⟩;rcases i.ends he with⟨_,k1,k2⟩|⟨_,k1,k2⟩<;>rw[k2,k1]<;>rcases h1 with⟨rfl,rfl⟩|⟨rfl,rfl⟩
 .exact .inl ⟨rfl,rfl⟩
 .exact .inr ⟨rfl,rfl⟩
 .exact .inr ⟨rfl,rfl⟩
 exact .inl ⟨rfl,rfl⟩
def dk.c3(i:dk F L M r s t){a b p v q w:Nat}(ha:a<L.length)(hb:b<L.length)(h:C3 F L a b p v q w):C3 F M (dV L.length r s a) (dV L.length r s b) (s p) (s v) (s q) (s w):=by obtain⟨hp,hv⟩:=h.ea.lt ha;obtain⟨hq,hw⟩:=h.eb.lt hb;refine⟨i.ed ha h.ea,i.ed hb h.eb,fun e=>h.vw (i.inj hv hw e),(i.Cw hv hw h.ea.2.2 h.eb.2.2).2 h.id,?_⟩;exact i.UR (edges:=[a,b]) (fun e he=>by simp only[bJ,eo,or_false]at he;rcases he with rfl|rfl<;>assumption) rfl h.cor (L9 _) rfl
def dk.k3(i:dk F L M r s t){a b:Nat}(dL:a<b)(hb:b<L.length){X:c_}(h:oI F L a b=some X)(vX:cG (F:Int) (dO X)=0):∃a' b' Y,a'<b'/\b'<M.length/\oI F M a' b'=some Y/\lM (dO Y) (dO X):=by
 have ha:a<L.length:=aa;obtain⟨p,v,q,w,c,rfl⟩:=Qq i.g ha hb h;have aH:a≠b:=aa;obtain⟨hp,hv⟩:=c.ea.lt ha;obtain⟨hq,hw⟩:=c.eb.lt hb;have bU:=eY L;have j8:=eY M;have c':=i.c3 ha hb c;have la:dV L.length r s a<M.length:=by rw[i.len];exact i.DP ha
 have lb:dV L.length r s b<M.length:=by rw[i.len];exact i.DP hb
 have Ck:dV L.length r s a≠dV L.length r s b:=fun e=>aH (by rw[<-i.JX ha,<-i.JX hb,e]);have dj:=c'.dj i.g' la lb Ck;have pq:=c'.pq i.g' la lb Ck;obtain⟨lp',lv'⟩:=c'.ea.lt la;obtain⟨lq',lw'⟩:=c'.eb.lt lb;have hX:=MN i.g ha hb aH h;have rq:=(i.u9 hq).2.2.1;have rp:=(i.u9 hp).2.2.1;have Oe:∀(Z:c_) (p q:Nat) (a b:Int),(dp (dp Z p a) q b).length=Z.length:=fun Z p q a b=>by rw[qq,qq]
 have base:Dk L M s (dp (dp (pieces L) p (bk L q).aw) q (bk L p).aw) (dp (dp (pieces M) (s p) (bk M (s q)).aw) (s q) (bk M (s p)).aw):=by rw[rq,rp];exact i.ab8 (i.ab8 i.ab6 hp _) hq _
 have hC:=i.ab7 (es:=[a,b]) (by rw[Oe,bU]) (by rw[Oe,j8]) base (fun e he=>by simp only[bJ,eo,or_false]at he;rcases he with rfl|rfl<;>assumption)
 have aqd:(dG L (dp (dp (pieces L) p (bk L q).aw) q (bk L p).aw) [a,b]).length=L.length:=by rw[qt,Oe,bU]
 have done:∀a' b' Y,a'<b'->b'<M.length->oI F M a' b'=some Y->Y=dG M (dp (dp (pieces M) (s p) (bk M (s q)).aw) (s q) (bk M (s p)).aw) ([a,b].map (dV L.length r s))->∃a' b' Y,a'<b'/\b'<M.length/\oI F M a' b'=some Y/\lM (dO Y) (dO (dG L (dp (dp (pieces L) p (bk L q).aw) q (bk L p).aw) [a,b])):=fun a' b' Y h1 h2 h3 h4=>by refine⟨a',b',Y,h1,h2,h3,?_⟩;have cY:=MN i.g' (a:=a') (b:=b') aa h2 aa h3;rw[<-h4]at hC;exact i.aec aqd (by rw[h4,qt,Oe,j8,i.len]) hX cY vX hC
 by_cases aA:dV L.length r s a<dV L.length r s b
 .exact done _ _ _ aA lb c'.as rfl
 refine done _ _ _ (show dV L.length r s b<dV L.length r s a by omega) la (c'.symm la lb).as ?_;rw[ai8 (X:=pieces M) (p:=s q) (q:=s p) aa aa (Ne.symm pq)];refine Tw (List.Perm.swap _ _ []) (by rw[Oe,j8]) (fun e he=>?_) ?_
 .simp only[bJ,eo,or_false]at he;rcases he with rfl|rfl<;>assumption
 simp only[mB,bJ,eo,or_false,false_imp_iff,implies_true,and_true,forall_eq,List.Pairwise.nil];exact⟨dj.1.symm,dj.2.2.1.symm,dj.2.1.symm,dj.2.2.2.symm⟩
end
def QH{l l':d_}(h:∀x,x∈l↔x∈l'):(iS l).length=(iS l').length:=
 ((T3 (MW l) (MW l')).2 fun x=>by rw[AW,AW,h]).length_eq
def U3{f:Int->Int}{l:d_}(hf:∀x∈l,∀y∈l,f x=f y->x=y):(iS (l.map f)).length=(iS l).length:=by have hn:((iS l).map f).Nodup:=yW.2 ((MW l).imp_of_mem fun hx hy h e=>h (hf _ (AW.1 hx) _ (AW.1 hy) e));rw[show(iS l).length=((iS l).map f).length by rw[cE]];refine((T3 (MW _) hn).2 fun x=>?_).length_eq;rw[AW,cJ,cJ];exact⟨fun⟨a,h1,h2⟩=>⟨a,AW.2 h1,h2⟩,fun⟨a,h1,h2⟩=>⟨a,AW.1 h1,h2⟩⟩
def wB(F:Nat)(L:ai)(es:a_)(e0:Nat):Bool:=es.all (ru L)&&(((iS (mw L es)).length==6)&&(((iS (qX L es)).length==3)&&(es.any (iA L · true)&&(es.any (iA L · false)&&kX F L 0 es e0))))
section
variable {F:Nat} {L M:ai} {r:Bool} {s t:Nat->Nat}
def ajM{es ib:a_}{e0 Hi:Nat}(he:∀e∈es,e<L.length)(hp:es.Perm ib)(h0:es[0]?=some e0)(Nw:ib[0]?=some Hi)(h:wB F L es e0=true):wB F L ib Hi=true:=by
 have hm:∀x,x∈es↔x∈ib:=fun x=>hp.mem_iff;have any_eq:∀q:Nat->Bool,ib.any q=es.any q:=fun q=>by rw[ET,wG,wG];exact⟨fun⟨x,a,b⟩=>⟨x,(hm x).2 a,b⟩,fun⟨x,a,b⟩=>⟨x,(hm x).1 a,b⟩⟩
 have all_eq:ib.all (ru L)=es.all (ru L):=by rw[ET,gk,gk];exact⟨fun h x a=>h x ((hm x).1 a),fun h x a=>h x ((hm x).2 a)⟩
 have fm:∀f:Nat->d_,(iS (ib.flatMap f)).length=(iS (es.flatMap f)).length:=fun f=>QH fun x=>by rw[Di,Di];exact⟨fun⟨x,a,b⟩=>⟨x,(hm x).2 a,b⟩,fun⟨x,a,b⟩=>⟨x,(hm x).1 a,b⟩⟩
 have hc:kX F L 0 ib Hi=kX F L 0 es e0:=by rw[BN h0 (he _ (aV h0)),BN Nw (he _ (hp.mem_iff.2 (aV Nw))),Lm hp]
 unfold wB mw qX at h |-;rw[any_eq,any_eq,all_eq,fm,fm,hc];exact h
def dk.bo(i:dk F L M r s t){e:Nat}(he:e<L.length)(o:Bool):iA M (dV L.length r s e) o=iA L e o/\ru M (dV L.length r s e)=ru L e:=by
 have hn:nx L e<L.length:=de _ aa;obtain⟨k1,_,_,_,k2⟩:=i.u9 he;obtain⟨m1,_,_,_,m2⟩:=i.u9 hn;unfold iA ru;have e1:∀x,(pA M x).l=bk M x:=fun _=>rfl;have e2:∀x,(pA L x).l=bk L x:=fun _=>rfl;rw[e1,e1,e2,e2];rcases i.ends he with⟨_,p1,p2⟩|⟨_,p1,p2⟩<;>rw[p2,p1,k1,k2,m1,m2]
 .exact⟨rfl,rfl⟩
 constructor
 .cases ((bk L e).kind==2)<;>cases((bk L (nx L e)).kind==2)<;>cases((bk L e).over==o)<;>cases((bk L (nx L e)).over==o)<;>rfl
 exact Bool.and_comm _ _
def dk.tg(i:dk F L M r s t){es:a_}{e0:Nat}(he:∀e∈es,e<L.length)(h0:es[0]?=some e0)(h:wB F L es e0=true):wB F M (es.map (dV L.length r s)) (dV L.length r s e0)=true:=by
 have hn:∀e∈es,nx L e<L.length:=fun e h=>de _ (by have:=he e h;omega);unfold wB at h |-;simp only[cH,cZ]at h |-;obtain⟨h1,h2,h3,h4,h5,h6⟩:=h;have eX:∀e∈es,(bk L e).kind=2/\(bk L (nx L e)).kind=2:=fun e hm=>by have:=gk.1 h1 e hm;unfold ru at this;rw[cH,cZ,cZ]at this;exact this
 have any_:∀o,es.any (iA L · o)=true->(es.map (dV L.length r s)).any (iA M · o)=true:=fun o h=>by obtain⟨e,hm,hb⟩:=wG.1 h;exact wG.2 ⟨_,cJ.2 ⟨e,hm,rfl⟩,by rw[(i.bo (he e hm) o).1];exact hb⟩
 obtain⟨f,hf⟩:=afF (P:=pieces L) (Q:=pieces M) (s:=s) (fun u v p p' q q' hp gh hq rI cp mH=>by have a1:=(aT.1 hp).1;have a2:=(aT.1 gh).1;rw[eY]at a1 a2;rw[<-iY hp]at cp |-;rw[<-iY gh]at mH |-;rw[<-iY hq,<-iY rI];exact i.Cw a1 a2 (by unfold Let.aB at cp;exact cZ.1 cp) (by unfold Let.aB at mH;exact cZ.1 mH))
 have hid:∀v,v<L.length->(bk L v).kind=2->(bk M (s v)).id=f (bk L v).id:=fun v hv hk=>by obtain⟨p,hp⟩:=aL (ls:=pieces L) (k:=v) (by rw[eY];exact hv);obtain⟨q,hq⟩:=aL (ls:=pieces M) (k:=s v) (by rw[eY,i.len];exact i.lt v hv);have:=hf v p q hp hq (by unfold Let.aB;rw[<-iY hp];rw[show(pA L v).l.kind=2 from hk];rfl);rw[<-iY hp,<-iY hq]at this;exact this
 refine⟨?_,?_,?_,any_ true h4,any_ false h5,i.UR he h0 h6 (L9 _) (by rw[fG,h0];rfl)⟩
 .rw[gk];intro x hx;obtain⟨e,hm,rfl⟩:=cJ.1 hx;rw[(i.bo (he e hm) true).2];exact gk.1 h1 e hm
 .have e1:(iS (mw M (es.map (dV L.length r s)))).length=(iS ((mw L es).map fun z=>((s z.toNat:Nat):Int))).length:=QH fun x=>by
   unfold mw;simp only[Di,cJ,bJ,eo,or_false];constructor
   .rintro ⟨_,⟨e,hm,rfl⟩,hx⟩
    rcases i.ends (he e hm)with⟨_,p1,p2⟩|⟨_,p1,p2⟩<;>rw[p2,p1]at hx<;>rcases hx with rfl|rfl
    .exact⟨_,⟨e,hm,.inl rfl⟩,by rw[qu]⟩
    .exact⟨_,⟨e,hm,.inr rfl⟩,by rw[qu]⟩
    .exact⟨_,⟨e,hm,.inr rfl⟩,by rw[qu]⟩
    exact⟨_,⟨e,hm,.inl rfl⟩,by rw[qu]⟩
   rintro⟨_,⟨e,hm,hx⟩,rfl⟩
   refine⟨_,⟨e,hm,rfl⟩,?_⟩;rcases i.ends (he e hm)with⟨_,p1,p2⟩|⟨_,p1,p2⟩<;>rw[p2,p1]<;>rcases hx with rfl|rfl<;>rw[qu]
   .exact .inl rfl
   .exact .inr rfl
   .exact .inr rfl
   exact .inl rfl
  rw[e1,U3,h2];intro x hx y hy js;have key:∀x∈mw L es,∃n:Nat,n<L.length/\x=(n:Int):=fun x hx=>by
   unfold mw at hx;obtain⟨e,hm,hx⟩:=Di.1 hx;simp only[bJ,eo,or_false]at hx;rcases hx with rfl|rfl
   .exact⟨e,he e hm,rfl⟩
   exact⟨_,hn e hm,rfl⟩
  obtain⟨a,ha,rfl⟩:=key x hx;obtain⟨b,hb,rfl⟩:=key y hy;rw[qu,qu]at js;rw[i.inj ha hb aa]
 have e1:(iS (qX M (es.map (dV L.length r s)))).length=(iS ((qX L es).map f)).length:=QH fun x=>by
  unfold qX;simp only[Di,cJ,bJ,eo,or_false];have e1:∀x,(pA M x).l=bk M x:=fun _=>rfl;have e2:∀x,(pA L x).l=bk L x:=fun _=>rfl;simp only[e1,e2];constructor
  .rintro ⟨_,⟨e,hm,rfl⟩,hx⟩
   have q1:=hid e (he e hm) (eX e hm).1;have q2:=hid _ (hn e hm) (eX e hm).2;rcases i.ends (he e hm)with⟨_,p1,p2⟩|⟨_,p1,p2⟩<;>rw[p2,p1,q1,q2]at hx<;>rcases hx with rfl|rfl
   .exact⟨_,⟨e,hm,.inl rfl⟩,rfl⟩
   .exact⟨_,⟨e,hm,.inr rfl⟩,rfl⟩
   .exact⟨_,⟨e,hm,.inr rfl⟩,rfl⟩
   exact⟨_,⟨e,hm,.inl rfl⟩,rfl⟩
  rintro⟨_,⟨e,hm,hx⟩,rfl⟩
  have q1:=hid e (he e hm) (eX e hm).1;have q2:=hid _ (hn e hm) (eX e hm).2;refine⟨_,⟨e,hm,rfl⟩,?_⟩;rcases i.ends (he e hm)with⟨_,p1,p2⟩|⟨_,p1,p2⟩<;>rw[p2,p1,q1,q2]<;>rcases hx with rfl|rfl
  .exact .inl rfl
  .exact .inr rfl
  .exact .inr rfl
  exact .inl rfl
 rw[e1,U3,h3];intro x hx y hy js;have key:∀x∈qX L es,∃v,v<L.length/\(bk L v).kind=2/\x=(bk L v).id:=fun x hx=>by
  unfold qX at hx;obtain⟨e,hm,hx⟩:=Di.1 hx;simp only[bJ,eo,or_false]at hx;rcases hx with rfl|rfl
  .exact⟨e,he e hm,(eX e hm).1,rfl⟩
  exact⟨_,hn e hm,(eX e hm).2,rfl⟩
 obtain⟨a,ha,ka,rfl⟩:=key x hx;obtain⟨b,hb,kb,rfl⟩:=key y hy;rw[<-hid a ha ka,<-hid b hb kb]at js;exact(i.Cw ha hb ka kb).1 js
def awq{y:Nat}(h:x≠y):∃a b,a<b/\[x,y].Perm [a,b]:=by
 by_cases c:x<y
 .exact⟨x,y,c,L9 _⟩
 exact⟨y,x,aa,List.Perm.swap _ _ _⟩
def ajv{y z:Nat}(h1:x≠y)(h2:x≠z)(h3:y≠z):∃a b c,a<b/\b<c/\[x,y,z].Perm [a,b,c]:=by
 obtain⟨a,b,dL,hp⟩:=awq h3;have ml:[x,y,z].Perm [x,a,b]:=hp.cons x;have ha:a=y\/a=z:=by have:=hp.mem_iff.2 (show a∈[a,b] by simp);simpa using this
 have hb:b=y\/b=z:=by have:=hp.mem_iff.2 (show b∈[a,b] by simp);simpa using this
 by_cases c1:x<a
 .exact⟨x,a,b,c1,dL,ml⟩
 by_cases c2:x<b
 .exact⟨a,x,b,aa,c2,ml.trans (List.Perm.swap _ _ _)⟩
 exact⟨a,b,x,dL,aa,ml.trans ((List.Perm.swap _ _ _).trans ((List.Perm.swap _ _ _).cons a))⟩
def ZW{es:a_}(h3:es.length=3)(h:(iS (mw L es)).length=6):es.Pairwise (rX L):=by
 match es,h3 with
 |[a,b,c],_=>have gI:(mw L [a,b,c]).Nodup:=acv (by rw[h];rfl);have gI:(([a,nx L a,b,nx L b,c,nx L c]:a_).map fun i:Nat=>(i:Int)).Nodup:=gI;simp only[ek,kU,rh,bJ,eo,or_false,Aw,xO,and_true,not_false_eq_true]at gI;unfold rX;simp only[mB,bJ,eo,or_false,false_imp_iff,implies_true,and_true,List.Pairwise.nil,forall_eq_or_imp,forall_eq];omega
def dk.k8(i:dk F L M r s t){a b c:Nat}(dL:a<b)(yj:b<c)(hc:c<L.length){X:c_}(h:nY F L a b c=some X)(vX:cG (F:Int) (dO X)=0):∃a' b' c' Y,a'<b'/\b'<c'/\c'<M.length/\nY F M a' b' c'=some Y/\lM (dO Y) (dO X):=by
 have hX:=MO i.g aa aa hc h;unfold nY at h;split at h
 case isFalse=>cases h
 rename_i ht;cases h;have gb:∀e∈[a,b,c],e<L.length:=fun e he=>by simp only[bJ,eo,or_false]at he;rcases he with rfl|rfl|rfl<;>omega
 have ht:wB F L [a,b,c] a=true:=ht;have Eo:=i.tg gb rfl ht;have HG:∀e∈[a,b,c].map (dV L.length r s),e<M.length:=fun e he=>by obtain⟨x,hx,rfl⟩:=cJ.1 he;rw[i.len];exact i.DP (gb x hx)
 have ne:∀x y,x<L.length->y<L.length->x≠y->dV L.length r s x≠dV L.length r s y:=fun x y hx hy h e=>h (by rw[<-i.JX hx,<-i.JX hy,e]);obtain⟨a',b',c',h1,h2,hp⟩:=ajv (ne a b aa aa aa) (ne a c aa hc aa) (ne b c aa hc aa);have hp:([a,b,c].map (dV L.length r s)).Perm [a',b',c']:=hp;have Cp:=ajM HG hp rfl rfl Eo;have iv:c'<M.length:=HG c' (hp.mem_iff.2 af);have hY:nY F M a' b' c'=some (dG M (pieces M) [a',b',c']):=aD Cp;refine⟨a',b',c',_,h1,h2,iv,hY,?_⟩;have cY:=MO i.g' aa aa iv hY;have j8:=eY M;have dj:([a,b,c].map (dV L.length r s)).Pairwise (rX M):=ZW rfl (by unfold wB at Eo;simp only[cH,cZ]at Eo;exact Eo.2.1)
 have yw:=Tw hp (X:=pieces M) j8 HG dj;rw[<-yw]at cY |-;exact i.aec (by rw[qt,eY]) (by rw[qt,j8,i.len]) hX cY vX (i.ab7 (eY L) j8 i.ab6 gb)
end
section
variable {F:Nat} {L M:ai} {r:Bool} {s t:Nat->Nat}
def Qn(g:ch F L){m:aS}(hk:k5 m.k):fg F L m=if di F L m.k m.a m.b m.c m.l m.o m.s=true then(qh F L m.k m.a.toNat m.b.toNat m.c.toNat m.l m.o m.s).map dO else none:=by
 have hg:mK m.k=(0,0):=by unfold k5 at hk;rcases hk with h|h|h|h|h<;>rw[h]<;>rfl
 have h1:=g.len;have h2:=g.cr;unfold fg;rw[au g.ne,hg];split
 .cases qh F L m.k m.a.toNat m.b.toNat m.c.toNat m.l m.o m.s with
  |none=>rfl
  |some X=>dsimp only;rw[au aa];rfl
 rfl
def Ds(g:ch F L){m:aS}(hk:k5 m.k){X:ai}(h:fg F L m=some X):cG (F:Int) X=0/\di F L m.k m.a m.b m.c m.l m.o m.s=true/\ ∃P,qh F L m.k m.a.toNat m.b.toNat m.c.toNat m.l m.o m.s=some P/\X=dO P:=by
 rw[Qn g hk]at h;split at h
 case isFalse=>cases h
 rename_i hA;obtain⟨P,hP,rfl⟩:=dT.1 h;refine⟨?_,hA,P,hP,rfl⟩;rcases Qm g hk m.a m.b m.c m.l m.o m.s with⟨e,he,h1⟩|⟨M',h1,h2,h3,Q,h4,rfl⟩
 .exfalso;have hg:mK m.k=(0,0):=by
   unfold k5 at hk;rcases hk with h|h|h|h|h<;>rw[h]<;>rfl
  have k1:=g.len;have k2:=g.cr;unfold pI at h1;rw[aD hA,hP]at h1;have e2:AZ F L m.k (some P)=l7 F (dO P):=au (by rw[hg];dsimp only;omega);rw[e2]at h1;exact au0 he h1
 rw[hP]at h4;cases h4;exact h2
def Pf(F:Nat)(L:ai):Prop:=(∃a,a<L.length/\(uC L a).isSome=true)\/(∃a,a<L.length/\(u7 L a).isSome=true)\/ ∃a b,a<b/\b<L.length/\(vg F L a b).isSome=true
def dk.pos(i:dk F L M r s t)(h:Pf F L):Pf F M:=by
 rcases h with⟨a,ha,h⟩|⟨a,ha,h⟩|⟨a,b,dL,hb,h⟩
 .exact .inl ⟨_,by rw[i.len];exact i.DP ha,i.c1 ha h⟩
 .exact .inr (.inl ⟨_,by rw[i.len];exact i.DP ha,i.c4 ha h⟩)
 have ha:a<L.length:=aa;have c:=i.c6 ha hb (SV.1 h);have la:dV L.length r s a<M.length:=by rw[i.len];exact i.DP ha
 have lb:dV L.length r s b<M.length:=by rw[i.len];exact i.DP hb
 have aH:dV L.length r s a≠dV L.length r s b:=fun e=>by
  have:a=b:=by rw[<-i.JX ha,<-i.JX hb,e]
  omega
 by_cases aA:dV L.length r s a<dV L.length r s b
 .exact .inr (.inr ⟨_,_,aA,lb,SV.2 c⟩)
 exact .inr (.inr ⟨_,_,aa,la,SV.2 (c.symm la lb)⟩)
abbrev mv1(k:Int)(a:Nat):aS:=⟨k,a,0,0,false,false,0⟩
abbrev Gh(k:Int)(a b:Nat):aS:=⟨k,a,b,0,false,false,0⟩
abbrev mv3(k:Int)(a b c:Nat):aS:=⟨k,a,b,c,false,false,0⟩
def Js{k a b c sg:Int}{l o:Bool}(hk:k=1\/k=4):di F L k a b c l o sg=true↔ ∃av:Nat,av<L.length/\a=av/\b=0/\c=0/\l=false/\o=false/\sg=0:=by
 unfold di;rcases hk with rfl|rfl
 all_goals
  simp only[Int.reduceEq,if_true,if_false,or_false,or_true,cH,l9,cZ];constructor
  .rintro ⟨rfl,rfl,rfl,hx,rfl,rfl⟩
   obtain⟨av,rfl,ha⟩:=nV hx;exact⟨av,ha,rfl,rfl,rfl,rfl,rfl,rfl⟩
  rintro⟨av,ha,rfl,rfl,rfl,rfl,rfl,rfl⟩
  exact⟨rfl,rfl,rfl,by unfold jD;simp;omega,rfl,rfl⟩
def Dv{k a b c sg:Int}{l o:Bool}(hk:k=3\/k=6):di F L k a b c l o sg=true↔ ∃av bv:Nat,av<bv/\bv<L.length/\a=av/\b=bv/\c=0/\l=false/\o=false/\sg=0:=by
 unfold di;rcases hk with rfl|rfl
 all_goals
  simp only[Int.reduceEq,if_true,if_false,or_false,or_true,cH,l9,cZ,mf];constructor
  .rintro ⟨rfl,rfl,rfl,hx,rfl,hy,aA⟩
   obtain⟨av,rfl,ha⟩:=nV hx;obtain⟨bv,rfl,hb⟩:=nV hy;exact⟨av,bv,aa,hb,rfl,rfl,rfl,rfl,rfl,rfl⟩
  rintro⟨av,bv,dL,hb,rfl,rfl,rfl,rfl,rfl,rfl⟩
  exact⟨rfl,rfl,rfl,by unfold jD;simp;omega,rfl,by unfold jD;simp;omega,aa⟩
def Jt{a b c sg:Int}{l o:Bool}:di F L 8 a b c l o sg=true↔ ∃av bv cv:Nat,av<bv/\bv<cv/\cv<L.length/\a=av/\b=bv/\c=cv/\l=false/\o=false/\sg=0:=by
 unfold di;simp only[Int.reduceEq,if_true,if_false,or_self,cH,l9,cZ,mf];constructor
 .rintro ⟨rfl,rfl,rfl,hx,hy,hz,h1,h2⟩
  obtain⟨av,rfl,ha⟩:=nV hx;obtain⟨bv,rfl,hb⟩:=nV hy;obtain⟨cv,rfl,hc⟩:=nV hz;exact⟨av,bv,cv,aa,aa,hc,rfl,rfl,rfl,rfl,rfl,rfl⟩
 rintro⟨av,bv,cv,dL,yj,hc,rfl,rfl,rfl,rfl,rfl,rfl⟩
 exact⟨rfl,rfl,rfl,by unfold jD;simp;omega,by unfold jD;simp;omega,by unfold jD;simp;omega,aa,aa⟩
def aio(g:ch F L):Pf F L↔ ∃m X,(m.k=1\/m.k=4\/m.k=6)/\fg F L m=some X:=by
 have mk:∀(m:aS) (P:c_),k5 m.k->di F L m.k m.a m.b m.c m.l m.o m.s=true->qh F L m.k m.a.toNat m.b.toNat m.c.toNat m.l m.o m.s=some P->fg F L m=some (dO P):=fun m P hk hA hP=>by rw[Qn g hk,aD hA,hP];rfl
 constructor
 .rintro (⟨a,ha,h⟩|⟨a,ha,h⟩|⟨a,b,dL,hb,h⟩)<;>obtain⟨P,hP⟩:=Option.isSome_iff_exists.1 h
  .exact⟨mv1 1 a,_,.inl rfl,mk (mv1 1 a) P (.inl rfl) ((Js (.inl rfl)).2 ⟨a,ha,rfl,rfl,rfl,rfl,rfl,rfl⟩) hP⟩
  .exact⟨mv1 4 a,_,.inr (.inl rfl),mk (mv1 4 a) P (.inr (.inr (.inl rfl))) ((Js (.inr rfl)).2 ⟨a,ha,rfl,rfl,rfl,rfl,rfl,rfl⟩) hP⟩
  exact⟨Gh 6 a b,_,.inr (.inr rfl),mk (Gh 6 a b) P (.inr (.inr (.inr (.inl rfl)))) ((Dv (.inr rfl)).2 ⟨a,b,dL,hb,rfl,rfl,rfl,rfl,rfl,rfl⟩) hP⟩
 rintro⟨⟨k,a,b,c,l,o,sg⟩,X,hk,h⟩
 have hk:k=1\/k=4\/k=6:=hk;obtain⟨_,hA,P,hP,_⟩:=Ds g (show k5 k by unfold k5;omega) h;simp only at hA hP;rcases hk with rfl|rfl|rfl
 .obtain⟨av,ha,rfl,rfl,rfl,rfl,rfl,rfl⟩:=(Js (.inl rfl)).1 hA;have hP:uC L av=some P:=hP;exact .inl ⟨av,ha,by rw[hP];rfl⟩
 .obtain⟨av,ha,rfl,rfl,rfl,rfl,rfl,rfl⟩:=(Js (.inr rfl)).1 hA;have hP:u7 L av=some P:=hP;exact .inr (.inl ⟨av,ha,by rw[hP];rfl⟩)
 obtain⟨av,bv,dL,hb,rfl,rfl,rfl,rfl,rfl,rfl⟩:=(Dv (.inr rfl)).1 hA;have hP:vg F L av bv=some P:=hP;exact .inr (.inr ⟨av,bv,dL,hb,by rw[hP];rfl⟩)
def dk.lvl(i:dk F L M r s t){m:aS}{X:ai}(hk:m.k=3\/m.k=8)(h:fg F L m=some X):∃m' Y,m'.k=m.k/\fg F M m'=some Y/\lM Y X:=by
 obtain⟨k,a,b,c,l,o,sg⟩:=m;have hk:k=3\/k=8:=hk;obtain⟨hX,hA,P,hP,rfl⟩:=Ds i.g (show k5 k by unfold k5;omega) h;simp only at hA hP;have mk:∀(m:aS) (P:c_),k5 m.k->di F M m.k m.a m.b m.c m.l m.o m.s=true->qh F M m.k m.a.toNat m.b.toNat m.c.toNat m.l m.o m.s=some P->fg F M m=some (dO P):=fun m P hk hA hP=>by rw[Qn i.g' hk,aD hA,hP];rfl
 rcases hk with rfl|rfl
 .obtain⟨av,bv,dL,hb,rfl,rfl,rfl,rfl,rfl,rfl⟩:=(Dv (.inl rfl)).1 hA;obtain⟨a',b',Y,h1,h2,h3,h4⟩:=i.k3 dL hb hP hX;exact⟨Gh 3 a' b',_,rfl,mk (Gh 3 a' b') Y (.inr (.inl rfl)) ((Dv (.inl rfl)).2 ⟨a',b',h1,h2,rfl,rfl,rfl,rfl,rfl,rfl⟩) h3,h4⟩
 obtain⟨av,bv,cv,dL,yj,hc,rfl,rfl,rfl,rfl,rfl,rfl⟩:=Jt.1 hA;obtain⟨a',b',c',Y,h1,h2,h3,h4,h5⟩:=i.k8 dL yj hc hP hX;exact⟨mv3 8 a' b' c',_,rfl,mk (mv3 8 a' b' c') Y (.inr (.inr (.inr (.inr rfl)))) (Jt.2 ⟨a',b',c',h1,h2,h3,rfl,rfl,rfl,rfl,rfl,rfl⟩) h4,h5⟩
end
def avi{F:Nat}{A B:ai}(gA:ch F A)(gB:ch F B)(h:bh A=bh B)(hp:Pf F A):Pf F B:=by obtain⟨r,s,t,i⟩:=gA.iso gA.qk.2.1;obtain⟨r',s',t',j⟩:=gB.iso gB.qk.2.1;rw[h]at i;exact j.symm.pos (i.pos hp)
def avh{F:Nat}{A B:ai}(gA:ch F A)(gB:ch F B)(h:bh A=bh B){m:aS}{X:ai}(hk:m.k=3\/m.k=8)(hm:fg F A m=some X):∃m' Y,m'.k=m.k/\fg F B m'=some Y/\lM Y X:=by obtain⟨r,s,t,i⟩:=gA.iso gA.qk.2.1;obtain⟨r',s',t',j⟩:=gB.iso gB.qk.2.1;rw[h]at i;obtain⟨m1,Y1,k1,h1,e1⟩:=i.lvl hk hm;obtain⟨m2,Y2,k2,h2,e2⟩:=j.symm.lvl (by rw[k1];exact hk) h1;exact⟨m2,Y2,k2.trans k1,h2,e2.trans e1⟩
end
end Go.Abs
