/-
  Codes with the same normal form have the same moves.
-/
import Derived.Test.YtfdblnecoamlbaaGreatDoorRd
set_option linter.all false
set_option maxRecDepth 100000
set_option maxHeartbeats 16000000
namespace Go.Abs
section
variable{x:Nat}
structure dp (F:Nat) (L M:ai) (r:Bool) (s t:Nat->Nat):Prop where
 g:cX F L
 g':cX F M
 len:M.length=L.length
 lt:∀v,v<L.length->s v<L.length
 B0:∀v,v<L.length->t v<L.length
 st:∀v,v<L.length->s (t v)=v
 ts:∀v,v<L.length->t (s v)=v
 step:∀v,v<L.length->if r=true then nx L (s (nx L v))=s v else s (nx L v)=nx L (s v)
 at_:∀v l,L[v]?=some l->∃m,M[s v]?=some m/\m.kind=l.kind/\m.gate=l.gate/\m.aC=l.aC/\m.sign=l.sign/\m.over=l.over
 ids:∀u v l m l' m',L[u]?=some l->L[v]?=some m->M[s u]?=some l'->M[s v]?=some m'->l.aA=true->m.aA=true->(l'.id=m'.id↔l.id=m.id)
 dwn:∀v l,L[v]?=some l->l.aE=true->dn M (s v)=(dn L v !=r)
 cn:∀p:Let->Bool,(∀l m:Let,m.kind=l.kind->m.gate=l.gate->p m=p l)->aq p M=aq p L
def X6{n a b:Nat}(ha:a<n)(hb:b<n)(h:(a+1)%n=(b+1)%n):a=b:=by rw[<- xY ha,<- xY hb,h]
section
variable {F:Nat} {L M:ai} {r:Bool} {s t:Nat->Nat}
def dp.symm(i:dp F L M r s t):dp F M L r t s where
 g:=i.g'
 g':=i.g
 len:=i.len.symm
 lt v hv:=by rw[i.len] at hv |-;exact i.B0 v hv
 B0 v hv:=by rw[i.len] at hv |-;exact i.lt v hv
 st v hv:=i.ts v (by rw[<- i.len];exact hv)
 ts v hv:=i.st v (by rw[<- i.len];exact hv)
 step v hv:=by
  rw[i.len] at hv;have hn:(v+1)%L.length<L.length:=dr _ aa;have e:∀u,nx M u=nx L u:=fun u=>by show(u+1)%M.length=(u+1)%L.length;rw[i.len]
  rw[e];cases r with
  |true=>rw[aD rfl,e];have hu:=i.B0 _ hn;have h:=i.step (t (nx L v)) hu;rw[aD rfl,i.st _ hn] at h;have xN:nx L (t (nx L v))<L.length:=dr _ aa;have h2:=X6 (i.lt _ xN) hv h;rw[<- h2,i.ts _ xN,h2]
  |false=>rw[ay ae,e];have h:=i.step (t v) (i.B0 v hv);rw[ay ae,i.st v hv] at h;have xN:nx L (t v)<L.length:=dr _ aa;have h3:=i.ts _ xN;rw[h] at h3;exact h3.trans (e _).symm
 at_ v m h:=by have hv:=(aT.1 h).1;rw[i.len] at hv;obtain⟨l,hl⟩:=aM (i.B0 v hv);obtain⟨m',hm,h1,h2,h3,h4,h5⟩:=i.at_ _ _ hl;rw[i.st v hv,h] at hm;cases hm;exact⟨l,hl,h1.symm,h2.symm,h3.symm,h4.symm,h5.symm⟩
 ids u v l m l' m' hl hm kA iX cl cm:=by
  have hu:=(aT.1 hl).1;have hv:=(aT.1 hm).1;rw[i.len] at hu hv;have k:∀(u:Nat) (l l':Let),u<L.length->M[u]?=some l->L[t u]?=some l'->l.aA=true->l'.aA=true:=fun u l l' hu hl kA cl=>by obtain⟨x,hx,h1,_⟩:=i.at_ _ _ kA;rw[i.st u hu,hl] at hx;cases hx;unfold Let.aA at cl |-;rw[<- h1];exact cl
  have:=i.ids _ _ _ _ l m kA iX (by rw[i.st u hu];exact hl) (by rw[i.st v hv];exact hm) (k u l l' hu hl kA cl) (k v m m' hv hm iX cm);exact this.symm
 dwn v m h hp:=by
  have hv:=(aT.1 h).1;rw[i.len] at hv;obtain⟨l,hl⟩:=aM (i.B0 v hv);obtain⟨x,hx,h1,_⟩:=i.at_ _ _ hl;rw[i.st v hv,h] at hx;cases hx;have bY:l.aE=true:=by unfold Let.aE at hp |-;rw[<- h1];exact hp
  have:=i.dwn _ _ hl bY;rw[i.st v hv] at this;rw[this];cases dn L (t v)<;>cases r<;>rfl
 cn p hp:=(i.cn p hp).symm
def dp.aE(i:dp F L M r s t){v:Nat}{l m:Let}(hl:L[v]?=some l)(hm:M[s v]?=some m):m.aE=l.aE/\m.aA=l.aA/\gX m=gX l/\m.gate=l.gate/\m.aC=l.aC/\m.kind=l.kind/\m.over=l.over/\m.sign=l.sign:=by
 obtain⟨x,hx,h1,h2,h3,h4,h5⟩:=i.at_ v l hl;rw[hm] at hx;cases hx;refine⟨?_,?_,?_,h2,h3,h1,h5,h4⟩
 .unfold Let.aE;rw[h1]
 .unfold Let.aA;rw[h1]
 unfold gX;rw[h4,h5]
def dp.pl(i:dp F L M r s t){v:Nat}{l m:Let}(hl:L[v]?=some l)(hm:M[s v]?=some m):eB M m=eB L l:=by
 obtain⟨_,_,_,h2,h3,_⟩:=i.aE hl hm;have h:∀g,fL M g=fL L g:=fun g=>by unfold fL;congr 1;refine Bd fun q _=>i.cn _ fun l m h1 h2=>?_;unfold nV Let.aE;rw[h1,h2]
 unfold eB;rw[h,h2,h3]
def dp.axl(i:dp F L M r s t):(aG M).length=(aG L).length:=by rw[Gx,Gx];exact i.cn _ fun l m h1 _=>by unfold Let.aE;rw[h1]
def dp.idx(i:dp F L M r s t){v:Nat}{l:Let}(hl:L[v]?=some l)(hp:l.aE=true):(aG M).idxOf (s v)=(aG L).idxOf v:=by obtain⟨m,hm,_⟩:=i.at_ v l hl;have lH:m.aE=true:=(i.aE hl hm).1.trans hp;rw[Gy i.g.ok.ax hl hp,Gy i.g'.ok.ax hm lH,i.pl hl hm]
def dp.ax(i:dp F L M r s t){k:Nat}(hk:k<(aG L).length):(aG M).getD k 0=s ((aG L).getD k 0):=by obtain⟨v,hv⟩:=aM hk;obtain⟨l,hl,hp,bY⟩:=Bk i.g.ok.ax hv;obtain⟨m,hm,_⟩:=i.at_ v l hl;have lH:m.aE=true:=(i.aE hl hm).1.trans hp;have:=Pm i.g'.ok.ax hm lH;rw[i.pl hl hm,bY] at this;rw[dA,dA,this,hv];rfl
def dp.nDe(i:dp F L M r s t):nD M=nD L:=by show 2*M.length+2*(aG M).length=_;rw[i.len,i.axl]
def dp.other(i:dp F L M r s t){v:Nat}{l:Let}(hl:L[v]?=some l)(hc:l.aA=true):fJ M (s v)=s (fJ L v):=by have hv:=(aT.1 hl).1;have ho:=KS i.g.ok hl hc;obtain⟨m,hm⟩:=aM ho;obtain⟨hx,cm,em⟩:=Dh i.g.ok hl hc hm rfl;obtain⟨l',kA,_⟩:=i.at_ v l hl;obtain⟨m',iX,_⟩:=i.at_ _ m hm;refine Il i.g' kA iX ((i.aE hl kA).2.1.trans hc) ((i.aE hm iX).2.1.trans cm) ((i.ids _ _ _ _ _ _ hl hm kA iX hc cm).2 em.symm) fun e=>?_;have:v=fJ L v:=(i.ts v hv).symm.trans ((congrArg t e).trans (i.ts _ ho));rw[<- this,hl] at hm;cases hm;cases h:gX l<;>rw[h] at hx<;>cases hx
def ki(n:Nat)(r:Bool)(s:Nat->Nat)(d:Nat):Nat:=if d<2*n then gE n (s (oH n d)) (bn d !=r) else d
def ard{n v:Nat}{f:Bool}(hv:v<n):oH n (gE n v f)=v/\bn (gE n v f)=f:=by
 unfold oH bn gE;cases f with
 |true=>simp only[if_true];rw[aD aa,show 2*((v+n-1)%n)/2=(v+n-1)%n by omega,vH hv];exact⟨rfl,af⟩
 |false=>simp only[dN,if_false];rw[ay aa];exact⟨aa,af⟩
def GL{n v:Nat}{f:Bool}(hv:v<n):ki n r s (gE n v f)=gE n (s v) (f !=r):=by obtain⟨h1,h2⟩:=ard (f:=f) hv;unfold ki;rw[aD (yv hv f),h1,h2]
def dp.along(i:dp F L M r s t){v:Nat}(hv:v<L.length)(f:Bool):ki L.length r s (dF L.length v f)=dF L.length (s v) (f !=r):=by
 have hb:(v+L.length-1)%L.length<L.length:=dr _ aa;have hf:(v+1)%L.length<L.length:=dr _ aa;have key:∀(v:Nat),v<L.length->gE L.length v false=dF L.length ((v+1)%L.length) false:=fun v hv=>by unfold gE dF;simp only[dN,if_false];rw[xY hv]
 have Kw:∀(v:Nat),v<L.length->gE L.length ((v+1)%L.length) true=dF L.length v true:=fun v hv=>by unfold gE dF;simp only[if_true];rw[xY hv]
 cases f with
 |true=>
  rw[<- Kw v hv,GL hf];have h:=i.step v hv;have hs:=i.lt _ hf;cases r with
  |false=>rw[ay ae] at h;have h:s ((v+1)%L.length)=(s v+1)%L.length:=h;rw[h];exact Kw _ (i.lt v hv)
  |true=>rw[aD rfl] at h;have h:(s ((v+1)%L.length)+1)%L.length=s v:=h;rw[<- h];exact key _ hs
 |false=>
  obtain⟨u,hu,rfl⟩:∃u,u<L.length/\v=(u+1)%L.length:=⟨(v+L.length-1)%L.length,hb,(vH hv).symm⟩;rw[<- key u hu,GL hu];have h:=i.step u hu;cases r with
  |false=>rw[ay ae] at h;have h:s ((u+1)%L.length)=(s u+1)%L.length:=h;rw[h];exact key _ (i.lt u hu)
  |true=>rw[aD rfl] at h;have h:(s ((u+1)%L.length)+1)%L.length=s u:=h;rw[<- h];exact Kw _ (i.lt _ hv)
def dp.Pu(i:dp F L M r s t){d:Nat}(hd:d<2*L.length):ki L.length r s d<2*L.length:=by rw[EL hd,GL (Cd i.g hd)];exact yv (i.lt _ (Cd i.g hd)) _
def EN{n d:Nat}(hd:2*n<=d):ki n r s d=d:=ay aa
def dp.T6(i:dp F L M r s t){d:Nat}(hd:d<nD L):ki L.length r s d<nD L:=by
 by_cases h:d<2*L.length
 .have:=i.Pu h;show _<2*L.length+2*(aG L).length;omega
 rw[EN aa];exact hd
def dp.EO(i:dp F L M r s t)(d:Nat):ki L.length r t (ki L.length r s d)=d:=by
 by_cases h:d<2*L.length
 .have hh:=Cd i.g h
  conv=>lhs;rw[EL h]
  rw[GL hh,GL (i.lt _ hh),i.ts _ hh]
  conv=>rhs;rw[EL h]
  congr 1;cases bn d<;>cases r<;>rfl
 rw[EN (s:=s) aa,EN aa]
def dp.next(i:dp F L M r s t){d:Nat}(hd:d<nD L):aW M (ki L.length r s d)=ki L.length r s (aW L d):=by
 have hd:d<2*L.length+2*(aG L).length:=hd;by_cases h:d<2*L.length
 .have hh:=Cd i.g h;obtain⟨l,hl⟩:=aM hh;obtain⟨m,hm,_⟩:=i.at_ _ _ hl;obtain⟨k1,k2,k3,_⟩:=i.aE hl hm;have e:=EL h;generalize oH L.length d=v at*;generalize bn d=f at*;subst e;rw[GL hh]
  conv=>lhs;rw[<- i.len]
  rcases v7 (i.g.bad l (aV hl)) with hp|hc
  .rw[Ip hl hp,Ip hm (k1.trans hp),i.dwn _ _ hl hp,i.idx hl hp,i.axl,i.len];have eb:((dn L v !=r)==(f !=r))=(dn L v==f):=by cases dn L v<;>cases r<;>cases f<;>rfl
   rw[eb];split
   .rw[EN aa]
   rw[EN aa]
  rw[zA hl hc,zA hm (k2.trans hc),i.other hl hc,i.len,i.along (KS i.g.ok hl hc)];have e3:(m.over==(m.sign==1))=(l.over==(l.sign==1)):=k3;rw[e3];congr 1;cases f<;>cases r<;>cases (l.over==(l.sign==1))<;>rfl
 rw[EN aa];have hm:0<(aG L).length:=aa;rcases xn (d-2*L.length) with hq|hq
 .obtain⟨k,hk,rfl⟩:∃k,k<(aG L).length/\d=2*L.length+2*k:=⟨(d-2*L.length)/2,aa,aa⟩;have df:(k+1)%(aG L).length<(aG L).length:=dr _ hm;rw[F9]
  conv=>lhs;rw[<- i.len,F9,i.axl,i.len,i.ax df]
  obtain⟨u,l,_,du,hl,hp,_⟩:=LW i.g.ok df;rw[du,i.along (aT.1 hl).1,i.dwn _ _ hl hp];congr 1;cases dn L u<;>cases r<;>rfl
 obtain⟨k,hk,rfl⟩:∃k,k<(aG L).length/\d=2*L.length+2*k+1:=⟨(d-2*L.length)/2,aa,aa⟩;rw[F8]
 conv=>lhs;rw[<- i.len,F8,i.len,i.ax hk]
 obtain⟨u,l,_,du,hl,hp,_⟩:=LW i.g.ok hk;rw[du,i.along (aT.1 hl).1,i.dwn _ _ hl hp]
end
section
variable {F:Nat} {L M:ai} {r:Bool} {s t:Nat->Nat}
def Zc(g:cX F L){w:a_}(hw:w∈gU (aW L) (nD L)):w.Nodup/\(∀y∈w,y<nD L)/\ ∃d,d∈w:=by obtain⟨⟨d,t,h1,_⟩,_,h3⟩:=aiG (aW L) (nD L) (nD L) w hw;exact⟨List.Pairwise.sublist (List.sublist_flatten_of_mem hw) (Cv (aW L) (nD L)).1,h3,d,by rw[h1];simp⟩
def aiE(hx:x<nD L):∃w,w∈gU (aW L) (nD L)/\x∈w:=by obtain⟨w,h1,h2⟩:=Ge.1 ((Cv (aW L) (nD L)).2 x hx);exact⟨w,h1,h2⟩
def avN{w u:a_}(hw:w∈gU (aW L) (nD L))(hu:u∈gU (aW L) (nD L))(h1:x∈w)(h2:x∈u):w=u:=by obtain⟨i,hi⟩:=iJ hw;obtain⟨j,hj⟩:=iJ hu;have:=X3 (Cv (aW L) (nD L)).1 hi hj h1 h2;subst this;rw[hi] at hj;cases hj;rfl
def aiF(g:cX F L){w:a_}(hw:w∈gU (aW L) (nD L))(hx:x<nD L):aW L x∈w↔x∈w:=by refine⟨fun h=>?_,fun h=>Cu (maps g.ok) hw h⟩;obtain⟨u,hu,HJ⟩:=aiE hx;have:=avN hw hu h (Cu (maps g.ok) hu HJ);rw[this];exact HJ
def dp.walk(i:dp F L M r s t){w:a_}(hw:w∈gU (aW L) (nD L)):∃w',w'∈gU (aW M) (nD M)/\(w.map (ki L.length r s)).Perm w':=by
 obtain⟨hn,aw,d,hd⟩:=Zc i.g hw;have pV:=i.nDe;obtain⟨w',FB,hdw⟩:=aiE (L:=M) (x:=ki L.length r s d) (by rw[pV];exact i.T6 (aw d hd));obtain⟨y7,aL,_⟩:=Zc i.g' FB;refine⟨w',FB,(List.perm_ext_iff_of_nodup ?_ y7).2 fun z=>?_⟩
 .exact List.Pairwise.map (S:=(· ≠ ·)) _ (fun x y h e=>h (by rw[<- i.EO x,<- i.EO y,e])) hn
 rw[dh];constructor
 .rintro ⟨y,hy,rfl⟩
  exact(Zb i.g hw (Q:=fun y=>ki L.length r s y∈w') (fun x hx=>by show ki L.length r s (aW L x)∈w'↔_;rw[<- i.next hx];exact aiF i.g' FB (by rw[pV];exact i.T6 hx)) hd hy).1 hdw
 intro hz;have h2:=i.symm.EO z;rw[i.len] at h2;refine⟨ki L.length r t z,?_,h2⟩;have:=(Zb i.g' FB (Q:=fun z=>ki L.length r t z∈w) (fun x hx=>by show ki L.length r t (aW M x)∈w↔_;have h3:=i.symm.next hx;rw[i.len] at h3;rw[<- h3];have h4:=i.symm.T6 hx;rw[i.len,pV] at h4;exact aiF i.g hw h4) hdw hz).1 (by show ki L.length r t (ki L.length r s d)∈w;rw[i.EO];exact hd)
 exact this
def Iv(F:Nat)(L:ai)(x:Nat):Nat:=if x<2*L.length then 0 else (rG F L ((x-2*L.length)/2)).length
def amJ(F:Nat)(L:ai)(w:a_):(nk F L w).places.length=(w.map (Iv F L)).sum:=by
 have key:∀(w:a_) (f:Fc),(w.foldl (Fc.add F L) f).places.length=f.places.length+(w.map (Iv F L)).sum:=by
  intro w
  induction w with
  |nil=>intro f;rfl
  |cons x w ih=>
   intro f;rw[Bc,ih,eh,List.sum_cons];have h3:(Fc.add F L f x).places.length=f.places.length+Iv F L x:=by
    unfold Fc.add Iv;split
    .rfl
    simp only[fS];split
    .rfl
    rw[oL]
   omega
 have:=key w (Fc.new L (w.headD 0));exact this.trans (js _)
def dp.piece(i:dp F L M r s t){k:Nat}(hk:k<(aG L).length):rG F M k=rG F L k:=by
 have df:(k+1)%(aG L).length<(aG L).length:=dr _ aa;have key:∀j,j<(aG L).length->gN M ((aG M).getD j 0)=gN L ((aG L).getD j 0)/\rN M ((aG M).getD j 0)=rN L ((aG L).getD j 0):=fun j hj=>by obtain⟨u,l,_,du,hl,hp,_⟩:=LW i.g.ok hj;obtain⟨m,hm,_⟩:=i.at_ u l hl;obtain⟨_,_,_,h1,h2,_⟩:=i.aE hl hm;rw[i.ax hj,du,Dg hl,Dg hm,Yo hl,Yo hm,h1,h2];exact⟨rfl,rfl⟩
 unfold rG;simp only[i.axl];rw[(key k hk).1,(key k hk).2,(key _ df).1]
def dp.abk(i:dp F L M r s t):ki L.length r s x<2*L.length↔x<2*L.length:=by
 refine⟨fun h=>?_,fun h=>i.Pu h⟩;by_cases hx:x<2*L.length
 .exact hx
 rw[EN aa] at h;omega
def dp.wt(i:dp F L M r s t)(hx:x<nD L):Iv F M (ki L.length r s x)=Iv F L x:=by
 unfold Iv;rw[i.len];by_cases h:x<2*L.length
 .rw[aD h,aD (i.Pu h)]
 rw[EN aa,ay h,ay h,i.piece (by have:x<2*L.length+2*(aG L).length:=hx;omega)]
def dT(n:Nat)(r:Bool)(s:Nat->Nat)(e:Nat):Nat:=ki n r s (2*e)/2
def dp.Py(i:dp F L M r s t){e:Nat}(he:e<L.length):(ki L.length r s (2*e)=2*dT L.length r s e/\ki L.length r s (2*e+1)=2*dT L.length r s e+1)\/(ki L.length r s (2*e)=2*dT L.length r s e+1/\ki L.length r s (2*e+1)=2*dT L.length r s e):=by
 have e1:2*e=dF L.length e true:=rfl;have e2:2*e+1=gE L.length e false:=rfl;have h1:=i.along he true;have h2:=GL (r:=r) (s:=s) (f:=false) he;rw[<- e1] at h1;rw[<- e2] at h2;unfold dT;have h3:ki L.length r s (2*e+1)=rv (ki L.length r s (2*e)):=by rw[h1,h2,A1];cases r<;>rfl
 rw[h3];unfold rv;split<;>omega
def dp.Dc(i:dp F L M r s t){e:Nat}(he:e<L.length):dT L.length r s e<L.length:=by have:=i.Pu (d:=2*e) aa;unfold dT;omega
def dp.JB(i:dp F L M r s t){e:Nat}(he:e<L.length):dT L.length r t (dT L.length r s e)=e:=by
 have h0:=i.EO (2*e);have h1:=i.EO (2*e+1);have h2:∀x,ki L.length r t (2*dT L.length r s e)=x->dT L.length r t (dT L.length r s e)=x/2:=fun x h=>by show ki L.length r t (2*dT L.length r s e)/2=_;rw[h]
 rcases i.Py he with ⟨k1,k2⟩|⟨k1,k2⟩
 .rw[k1] at h0;rw[h2 _ h0];omega
 rw[k2] at h1;rw[h2 _ h1];omega
def dp.only(i:dp F L M r s t){pl:Nat}{edges:a_}(he:∀e∈edges,e<L.length)(h:FU F L pl edges=true):FU F M pl (edges.map (dT L.length r s))=true:=by
 unfold FU at h |-;rw[zE] at h |-;obtain⟨f,hf,h⟩:=h;obtain⟨w,hw,rfl⟩:=dh.1 hf;obtain⟨w',FB,hp⟩:=i.walk hw;obtain⟨_,aw,_⟩:=Zc i.g hw;refine⟨nk F M w',dh.2 ⟨w',FB,rfl⟩,?_⟩;unfold KR at h |-;simp only[cU,dk,gO] at h |-;obtain⟨h1,h2,h3⟩:=h;rw[Dd] at h1 |-;rw[amJ] at h2 |-;rw[cM];have hm:∀x,x∈w↔ki L.length r s x∈w':=fun x=>by
  rw[<- hp.mem_iff,dh];refine⟨fun h=>⟨x,h,rfl⟩,?_⟩;rintro ⟨y,hy,e⟩
  rw[<- i.EO x,<- e,i.EO];exact hy
 refine⟨?_,?_,fun e' Ap=>?_⟩
 .rw[<- h1,<- (hp.filter _).length_eq,List.filter_map,cM];congr 1;refine List.filter_congr fun x _=>?_;rw[Function.comp_apply,i.len];exact decide_eq_decide.2 i.abk
 .rw[<- h2,<- (hp.map _).sum_nat,ue];congr 1;exact Bd fun x hx=>i.wt (aw x hx)
 obtain⟨e,hem,rfl⟩:=dh.1 Ap;have h4:=h3 e hem;have dI:=he e hem;rw[Dd] at h4;have q:∀d,d<2*L.length->(d∈w.filter (fun x=>decide (x<2*L.length))↔ki L.length r s d∈w'.filter (fun x=>decide (x<2*M.length))):=fun d hd=>by rw[u7,u7,oO,oO,i.len,i.abk,hm]
 have q0:=q (2*e) aa;have q1:=q (2*e+1) aa;rcases i.Py dI with ⟨k1,k2⟩|⟨k1,k2⟩
 .rw[k1] at q0;rw[k2] at q1;rw[decide_eq_decide.2 q0,decide_eq_decide.2 q1] at h4;exact h4
 rw[k1] at q0;rw[k2] at q1;rw[decide_eq_decide.2 q0,decide_eq_decide.2 q1] at h4;revert h4;generalize decide (2*dT L.length r s e∈List.filter (fun x=>decide (x<2*M.length)) w')=a;generalize decide (2*dT L.length r s e+1∈List.filter (fun x=>decide (x<2*M.length)) w')=b;cases a<;>cases b<;>decide
def Rm{pl:Nat}{e1 e2:a_}(h:e1.Perm e2):FU F L pl e1=FU F L pl e2:=by unfold FU;congr 1;funext f;unfold KR;rw[h.length_eq];congr 2;rw[Ef,gO,gO];exact⟨fun k e he=>k e (h.mem_iff.2 he),fun k e he=>k e (h.mem_iff.1 he)⟩
def dp.TR(i:dp F L M r s t){pl:Nat}{edges:a_}{e0:Nat}(he:∀e∈edges,e<L.length)(h0:edges[0]?=some e0)(h:lk F L pl edges e0=true){im:a_}{GN:Nat}(hp:(edges.map (dT L.length r s)).Perm im)(Ha:im[0]?=some GN):lk F M pl im GN=true:=by have hm:GN∈edges.map (dT L.length r s):=hp.mem_iff.2 (aV Ha);obtain⟨e,dI,rfl⟩:=dh.1 hm;rw[EI h0 (he _ (aV h0))] at h;rw[EI Ha (by rw[i.len];exact i.Dc (he e dI)),<- Rm hp];exact i.only he h
end
def FQ{n a:Nat}(h:a<2*n):a%n=if a<n then a else a-n:=by
 split
 .rename_i h1;exact gY h1
 rename_i h1;rw[Nat.mod_eq_sub_mod aa,gY aa]
def Sa{l:ai}{i k:Nat}(hi:i<l.length)(hk:k<l.length):(eJ l i)[k]?=l[(i+k)%l.length]? :=Sc hi hk
def alg(q:Let->Bool)(l:ai)(i k:Nat)(hi:i<=l.length)(hk:k<=l.length):aq q ((eJ l i).take k)+aq q (l.take i)=if i+k<=l.length then aq q (l.take (i+k)) else aq q l+aq q (l.take (i+k-l.length)):=by
 have hd:(l.drop i).length=l.length-i:=lO;unfold eJ;split
 .rename_i h;rw[O3 aa,Nat.add_comm,<- wa,<- List.take_add]
 rename_i h;rw[LI,iz aa,hd,wa,Gh,zK aa,show k-(l.length-i)=i+k-l.length by omega];have:aq q l=aq q (l.take i)+aq q (l.drop i):=by rw[<- wa,mJ]
 omega
def abo{l:ai}{i v:Nat}(he:aq Let.aE l%2=0)(hp:par l i)(hi:i<l.length)(hv:v<l.length):dn (eJ l i) ((v+l.length-i)%l.length)=dn l v:=by
 have h1:=alg Let.aE l i ((v+l.length-i)%l.length) aa (Nat.le_of_lt (dr _ aa));have hp:aq Let.aE (l.take i)%2=0:=hp;have h2:=FQ (n:=l.length) (a:=v+l.length-i) aa;have key:aq Let.aE ((eJ l i).take ((v+l.length-i)%l.length))%2=aq Let.aE (l.take v)%2:=by
  rw[h2] at h1 |-;by_cases qJ:v<i
  .rw[aD aa] at h1 |-;by_cases h0:v=0
   .subst h0;rw[aD aa,show i+(0+l.length-i)=l.length by omega,lf] at h1;have e0:aq Let.aE (l.take 0)=0:=rfl;rw[e0];omega
   rw[ay aa,show i+(v+l.length-i)-l.length=v by omega] at h1;omega
  rw[ay aa] at h1 |-;rw[aD aa,show i+(v+l.length-i-l.length)=v by omega] at h1;omega
 unfold dn;rw[key]
def abn{l:ai}{v:Nat}{x:Let}(he:aq Let.aE l%2=0)(hx:l[v]?=some x)(hp:x.aE=true):dn l.reverse (l.length-1-v)= !dn l v:=by
 have hv:=(aT.1 hx).1;have h1:aq Let.aE (l.reverse.take (l.length-1-v))=aq Let.aE (l.drop (v+1)):=by rw[List.take_reverse,vg,show l.length-(l.length-1-v)=v+1 by omega]
 have h2:aq Let.aE l=aq Let.aE (l.take (v+1))+aq Let.aE (l.drop (v+1)):=by rw[<- wa,mJ]
 have h3:=sK hx hp;unfold dn;rw[h1];rcases xn (aq Let.aE (l.take v)) with h|h
 .rw[h,show aq Let.aE (l.drop (v+1))%2=1 by omega];rfl
 rw[h,show aq Let.aE (l.drop (v+1))%2=0 by omega];rfl
def abm{f:Int->Int}(l:ai)(v:Nat):dn (l.map (dV f)) v=dn l v:=by unfold dn;rw[<- IG,Pr]
def aaF{f:Int->Int}{p:Let->Bool}(hp:∀l m:Let,m.kind=l.kind->m.gate=l.gate->p m=p l)(l:ai):aq p (l.map (dV f))=aq p l:=by show List.countP _ _=List.countP _ _;rw[Ba];refine IC fun x _=>?_;rw[Function.comp_apply,hp x (dV f x) (Td f x) (by unfold dV;split<;>rfl)]
def LQ(f:Int->Int)(x:Let):(dV f x).kind=x.kind/\(dV f x).gate=x.gate/\(dV f x).aC=x.aC/\(dV f x).sign=x.sign/\(dV f x).over=x.over/\(x.aA=true->(dV f x).id=f x.id):=by
 unfold dV Let.aA;split
 .exact⟨rfl,rfl,rfl,rfl,rfl,fun _=>rfl⟩
 rename_i h;exact⟨rfl,rfl,rfl,rfl,rfl,fun h2=>absurd h2 h⟩
section
variable {F:Nat} {L:ai}
def cX.iso(g:cX F L){y:ai}(h:xB L y):∃r s t,dp F L y r s t:=by
 have hy:=g.form h;have hn:0<L.length:=jl.2 g.ne;have gy:y.length=L.length->cX F y:=fun e=>by obtain⟨G,e1,g'⟩:=rj hy (by intro h;rw[h] at e;simp at e;omega);have:F=G:=aa;subst this;exact g'
 have idk:∀(f:Int->Int) (X:ai),inj f X->(∀x∈L,x∈X)->∀(u v:Nat) (l m l' m':Let),L[u]?=some l->L[v]?=some m->l'=dV f l->m'=dV f m->l.aA=true->m.aA=true->(l'.id=m'.id↔l.id=m.id):=by
  intro f X hf hX u v l m l' m' hl hm e1 e2 cl cm;rw[e1,e2,(LQ f l).2.2.2.2.2 cl,(LQ f m).2.2.2.2.2 cm];have kl:l.kind=2:=by unfold Let.aA at cl;exact dk.1 cl
  have km:m.kind=2:=by unfold Let.aA at cm;exact dk.1 cm
  exact⟨hf l (hX l (aV hl)) m (hX m (aV hm)) kl km,fun h=>by rw[h]⟩
 rcases h with h|h
 .obtain⟨i,hi,⟨_,hp⟩,rfl⟩:=h;obtain⟨f,hf,e⟩:=Yw (eJ L i);rw[e] at gy |-;have hlen:((eJ L i).map (dV f)).length=L.length:=by rw[cM,A0]
  have hs:∀v,v<L.length->(v+L.length-i)%L.length<L.length:=fun v _=>dr _ hn;have get:∀v l,L[v]?=some l->((eJ L i).map (dV f))[(v+L.length-i)%L.length]?=some (dV f l):=fun v l hl=>by
   have hv:=(aT.1 hl).1;rw[fG,Sa hi (hs v hv)];have:(i+(v+L.length-i)%L.length)%L.length=v:=by rw[Nat.add_mod_mod,show i+(v+L.length-i)=v+L.length by omega,qV,gY hv]
   rw[this,hl];rfl
  refine⟨false,fun v=>(v+L.length-i)%L.length,fun v=>(v+i)%L.length,g,gy hlen,hlen,hs,fun v _=>dr _ hn,fun v hv=>?_,fun v hv=>?_,fun v hv=>?_,fun v l hl=>?_,fun u v l m l' m' hl hm kA iX cl cm=>?_,fun v l hl bY=>?_,fun p hp=>?_⟩
  .show((v+i)%L.length+L.length-i)%L.length=v;rw[FQ (a:=v+i) aa];split<;>(rw[FQ aa];split<;>omega)
  .show((v+L.length-i)%L.length+i)%L.length=v;rw[Be,show v+L.length-i+i=v+L.length by omega,qV,gY hv]
  .rw[ay ae];show((v+1)%L.length+L.length-i)%L.length=((v+L.length-i)%L.length+1)%L.length;rw[Be,FQ (a:=v+1) aa];split
   .congr 1;omega
   rw[show v+L.length-i+1=(v+1-L.length+L.length-i)+L.length by omega,qV]
  .obtain⟨h1,h2,h3,h4,h5,_⟩:=LQ f l;exact⟨_,get v l hl,h1,h2,h3,h4,h5⟩
  .rw[get u l hl] at kA;rw[get v m hm] at iX;exact idk f _ hf (fun x hx=>HW.2 hx) u v l m l' m' hl hm (by cases kA;rfl) (by cases iX;rfl) cl cm
  .have hv:=(aT.1 hl).1;rw[abm,abo g.even hp hi hv];cases dn L v<;>rfl
  rw[aaF hp,Mb]
 obtain⟨i,hi,⟨_,hp⟩,rfl⟩:=h;obtain⟨f,hf,e⟩:=Yw (eJ L.reverse i);rw[e] at gy |-;have HE:L.reverse.length=L.length:=oL;rw[HE] at hi;have hlen:((eJ L.reverse i).map (dV f)).length=L.length:=by rw[cM,A0,HE]
 have hs:∀v,v<L.length->(L.length-1-v+L.length-i)%L.length<L.length:=fun v _=>dr _ hn;have get:∀v l,L[v]?=some l->((eJ L.reverse i).map (dV f))[(L.length-1-v+L.length-i)%L.length]?=some (dV f l):=fun v l hl=>by
  have hv:=(aT.1 hl).1;rw[fG,Sa aa (by rw[HE];exact hs v hv),HE];have:(i+(L.length-1-v+L.length-i)%L.length)%L.length=L.length-1-v:=by rw[Nat.add_mod_mod,show i+(L.length-1-v+L.length-i)=L.length-1-v+L.length by omega,qV,gY aa]
  rw[this,List.getElem?_reverse aa,show L.length-1-(L.length-1-v)=v by omega,hl];rfl
 refine⟨true,fun v=>(L.length-1-v+L.length-i)%L.length,fun v=>L.length-1-(v+i)%L.length,g,gy hlen,hlen,hs,fun v _=>aa,fun v hv=>?_,fun v hv=>?_,fun v hv=>?_,fun v l hl=>?_,fun u v l m l' m' hl hm kA iX cl cm=>?_,fun v l hl bY=>?_,fun p hp=>?_⟩
 .show(L.length-1-(L.length-1-(v+i)%L.length)+L.length-i)%L.length=v;have:=dr (v+i) hn;rw[show L.length-1-(L.length-1-(v+i)%L.length)=(v+i)%L.length by omega,FQ (a:=v+i) aa];split<;>(rw[FQ aa];split<;>omega)
 .show L.length-1-((L.length-1-v+L.length-i)%L.length+i)%L.length=v;rw[Be,show L.length-1-v+L.length-i+i=L.length-1-v+L.length by omega,qV,gY aa];omega
 .rw[aD rfl];show((L.length-1-(v+1)%L.length+L.length-i)%L.length+1)%L.length=(L.length-1-v+L.length-i)%L.length;rw[Be,FQ (a:=v+1) aa];split
  .congr 1;omega
  rw[show L.length-1-(v+1-L.length)+L.length-i+1=(L.length-1-v+L.length-i)+L.length by omega,qV]
 .obtain⟨h1,h2,h3,h4,h5,_⟩:=LQ f l;exact⟨_,get v l hl,h1,h2,h3,h4,h5⟩
 .rw[get u l hl] at kA;rw[get v m hm] at iX;exact idk f _ hf (fun x hx=>HW.2 (List.mem_reverse.2 hx)) u v l m l' m' hl hm (by cases kA;rfl) (by cases iX;rfl) cl cm
 .have hv:=(aT.1 hl).1;have h1:=abo (l:=L.reverse) (v:=L.length-1-v) (by rw[vg];exact g.even) hp aa aa;rw[HE] at h1;rw[abm,h1,abn g.even hl bY];cases dn L v<;>rfl
 rw[aaF hp,Mb,vg]
end
def agR{α:Type}{l:List α}{f k:Nat}(hf:f<l.length)(hk:k<l.length):(l.drop f++l.take f)[k]?=l[(f+k)%l.length]? :=Sc hf hk
def aau{F:Nat}{P:c_}(c:Cert F P):∃f,f<P.length/\(∀k,k<P.length->(eL P)[k]?=(P[(f+k)%P.length]?).map Pc.l)/\(eL P).length=P.length/\(∃p,P[f]?=some p/\p.l.aE=true/\p.d=true)/\ ∀k p,k<P.length->P[(f+k)%P.length]?=some p->p.l.aE=true->p.d=dn (eL P) k:=by
 obtain⟨i,hi⟩:∃i,sQ P=some i:=by
  cases h:sQ P with
  |some i=>exact⟨i,rfl⟩
  |none=>
   exfalso;obtain⟨z,T,B,S,e,cz⟩:=c;subst e;obtain⟨x,hx,hp,hd⟩:=cz.down;obtain⟨j,hj⟩:=iJ hx;have ow:=(aT.1 hj).1;have Aw:(z.map aQ.p)[j]?=some x.p:=by rw[fG,hj];rfl
   have:=ID.1 h j (by simpa using ow);rw[Oy Aw] at this;unfold DR at this;have gn:(x.p.l.kind==1)=true:=hp;simp[gn,hd] at this
 have h1:=Lz hi;have h2:i<P.length:=gV.1 (IH hi);obtain⟨p,gH⟩:=aM h2;rw[Oy gH] at h1;unfold DR at h1;rw[cU] at h1;have fV:p.l.aE=true:=h1.1;have e1:eL P=(P.drop i++P.take i).map Pc.l:=by unfold eL;rw[hi];exact Sd (by exact Nat.le_of_lt h2)
 have HE:(P.drop i++P.take i).length=P.length:=by simp;omega
 have c2:Cert F (P.drop i++P.take i):=Cert.lM (by rw[mJ];exact c);obtain⟨z,T,B,S,e,cz⟩:=c2;obtain⟨s,hp⟩:=cz.path;have yY:aR z=eL P:=by rw[e1,<- e,ue];rfl
 have mS:z.length=P.length:=by rw[<- HE,<- e,cM]
 have zat:∀k q,k<P.length->P[(i+k)%P.length]?=some q->∃x,z[k]?=some x/\x.p=q:=fun k q hk hq=>by
  rw[<- agR h2 hk,<- e,fG] at hq;cases hz:z[k]? with
  |none=>rw[hz] at hq;cases hq
  |some x=>rw[hz] at hq;cases hq;exact⟨x,rfl,rfl⟩
 have hs:s.b=false:=by obtain⟨x,hx,zb⟩:=zat 0 p aa (by rw[u9,gY h2];exact gH);have ok:=(cz.ok x (aV hx)).pb (by unfold aQ.k;rw[zb];exact fV);have h3:=KV hp hx;rw[h3,zb,h1.2] at ok;exact ok.2
 refine⟨i,h2,fun k hk=>?_,by rw[PX],⟨p,gH,fV,h1.2⟩,fun k q hk hq DC=>?_⟩
 .rw[e1,fG,agR h2 hk]
 obtain⟨x,hx,rfl⟩:=zat k q hk hq;have h4:=(Ru cz.ok hp hs k x hx).1;have h5:=((cz.ok x (aV hx)).pb DC).2;rw[h4,yY] at h5;cases hh:x.p.d<;>rw[hh] at h5<;>revert h5<;>cases dn (eL P) k<;>simp
def aeq{P Q:c_}{s:Nat->Nat}(h:∀u v p p' q q',P[u]?=some p->P[v]?=some p'->Q[s u]?=some q->Q[s v]?=some q'->p.l.aA=true->p'.l.aA=true->(q.l.id=q'.l.id↔p.l.id=p'.l.id)):∃f:Int->Int,∀v p q,P[v]?=some p->Q[s v]?=some q->p.l.aA=true->q.l.id=f p.l.id:=by
 classical
 refine⟨fun a=>if h:∃x:Int,∃v p q,P[v]?=some p/\Q[s v]?=some q/\p.l.aA=true/\p.l.id=a/\q.l.id=x then Classical.choose h else 0,fun v p q hp hq hc=>?_⟩;have hex:∃x:Int,∃v' p' q',P[v']?=some p'/\Q[s v']?=some q'/\p'.l.aA=true/\p'.l.id=p.l.id/\q'.l.id=x:=⟨_,v,p,q,hp,hq,hc,rfl,rfl⟩;dsimp only;rw[dif_pos hex];obtain⟨v',p',q',h1,h2,h3,h4,h5⟩:=Classical.choose_spec hex;rw[<- h5];exact(h v v' p p' q q' hp h1 hq h2 hc h3).2 h4.symm
section
variable {F:Nat} {L M:ai} {r:Bool} {s t:Nat->Nat}
def dp.aij(i:dp F L M r s t){v:Nat}(hv:v<L.length):∀k,k<=L.length->t ((v+k)%L.length)=if r=true then (t v+L.length-k)%L.length else (t v+k)%L.length:=by
 have hn:0<L.length:=aa;intro k
 induction k with
 |zero=>intro _;rw[u9,gY hv,Nat.sub_zero,qV,u9,gY (i.B0 v hv)];split<;>rfl
 |succ k ih=>
  intro hk;have ih:=ih aa;have hvk:(v+k)%L.length<L.length:=dr _ hn;have cV:=i.symm.step ((v+k)%L.length) (by rw[i.len];exact hvk);have e:∀u,nx M u=(u+1)%L.length:=fun u=>by show(u+1)%M.length=_;rw[i.len]
  simp only[e,Be] at cV;have aw:=i.B0 _ (show(v+k+1)%L.length<L.length from dr _ hn);rw[show v+(k+1)=v+k+1 by omega];cases r with
  |false=>rw[ay ae] at cV ih |-;rw[cV,ih,Be];rfl
  |true=>
   rw[aD rfl] at cV ih |-;rw[ih] at cV;have h2:(t v+L.length-k)%L.length=((t v+L.length-(k+1))%L.length+1)%L.length:=by rw[Be];congr 1;omega
   rw[h2] at cV;exact X6 aw (dr _ hn) cV
def dp.fin(i:dp F L M r s t){P Q:c_}(yL:P.length=L.length)(hQl:Q.length=L.length)(cP:Cert F P)(cQ:Cert F Q)(vP:bQ (F:Int) (eL P)=0)
  (h:∀v p,P[v]?=some p->∃q,Q[s v]?=some q/\q.l.kind=p.l.kind/\q.l.gate=p.l.gate/\q.l.aC=p.l.aC/\q.l.sign=p.l.sign/\q.l.over=p.l.over/\(p.l.aA=false->q.l.id=p.l.id)/\(p.l.aE=true->q.d=(p.d !=r)))
  (hid:∀u v p p' q q',P[u]?=some p->P[v]?=some p'->Q[s u]?=some q->Q[s v]?=some q'->p.l.aA=true->p'.l.aA=true->(q.l.id=q'.l.id↔p.l.id=p'.l.id)):nZ (eL Q) (eL P):=by
 obtain⟨f0,hf0,a1,al,⟨p0,hp0,pp0,pd0⟩,a2⟩:=aau cP;obtain⟨f1,yS,b1,bl,⟨q0,hq0,qp0,qd0⟩,_⟩:=aau cQ;obtain⟨f,hf⟩:=aeq hid;rw[yL] at hf0 a1 al a2;rw[hQl] at yS b1 bl;have hn:0<L.length:=aa;have aI:eL P≠[]:=fun e=>by rw[e] at al;simp at al;omega
 have he:aq Let.aE (eL P)%2=0:=by obtain⟨G,_,g⟩:=rj vP aI;exact g.even
 have hb:dL F lX=true:=rfl;have aor:∀v p q,P[v]?=some p->Q[s v]?=some q->q.l=dV f p.l:=by
  intro v p q hp hq;obtain⟨q',tQ,h1,h2,h3,h4,h5,h6,_⟩:=h v p hp;rw[hq] at tQ;cases tQ;obtain⟨g1,g2,g3,g4,g5,g6⟩:=LQ f p.l;have aom:q.l.id=(dV f p.l).id:=by
   cases hc:p.l.aA with
   |true=>rw[g6 hc];exact hf v p q hp hq hc
   |false=>rw[ZT hc];exact h6 hc
  have aoe:∀a b:Let,a.kind=b.kind->a.gate=b.gate->a.aC=b.aC->a.id=b.id->a.sign=b.sign->a.over=b.over->a=b:=fun a b=>by cases a;cases b;simp only[Let.mk.injEq];intros;simp_all
  exact aoe _ _ (h1.trans g1.symm) (h2.trans g2.symm) (h3.trans g3.symm) aom (h4.trans g4.symm) (h5.trans g5.symm)
 have uA:∀X:ai,(∀x∈X,x∈eL P)->inj f X:=by
  intro X hX x hx y hy kx ky e;obtain⟨a,ha⟩:=iJ (hX x hx);obtain⟨b,hb⟩:=iJ (hX y hy);have gR:a<L.length:=by rw[<- al];exact(aT.1 ha).1
  have sT:b<L.length:=by rw[<- al];exact(aT.1 hb).1
  rw[a1 _ gR] at ha;rw[a1 _ sT] at hb;obtain⟨p,hp,rfl⟩:=dS.1 ha;obtain⟨p',gn,rfl⟩:=dS.1 hb;have cx:p.l.aA=true:=by unfold Let.aA;rw[kx];rfl
  have cy:p'.l.aA=true:=by unfold Let.aA;rw[ky];rfl
  obtain⟨q,hq,_⟩:=h _ p hp;obtain⟨q',tQ,_⟩:=h _ p' gn;have e1:=hf _ p q hp hq cx;have e2:=hf _ p' q' gn tQ cy;exact(hid _ _ _ _ _ _ hp gn hq tQ cx cy).1 (by rw[e1,e2,e])
 have Kn:=i.B0 f1 yS;obtain⟨p1,pE⟩:=aM (ls:=P) (k:=t f1) aa;have vx:p1.l.aE=true/\true=(p1.d !=r):=by
  obtain⟨q,hq,h1,_,_,_,_,_,h7⟩:=h _ p1 pE;rw[i.st f1 yS,hq0] at hq;cases hq;have:p1.l.aE=true:=by unfold Let.aE at qp0 |-;rw[<- h1];exact qp0
  exact⟨this,by rw[<- h7 this];exact qd0.symm⟩
 obtain⟨j,hj,hjt⟩:∃j,j<L.length/\(f0+j)%L.length=t f1:=⟨(t f1+L.length-f0)%L.length,dr _ hn,by
  rw[Nat.add_mod_mod,show f0+(t f1+L.length-f0)=t f1+L.length by omega,qV,gY Kn]⟩
 have M9:=a2 j p1 hj (by rw[hjt];exact pE) vx.1;have Di:∀k,k<L.length->∃p,P[t ((f1+k)%L.length)]?=some p/\(eL Q)[k]?=some (dV f p.l):=fun k hk=>by have aw:(f1+k)%L.length<L.length:=dr _ hn;obtain⟨p,hp⟩:=aM (ls:=P) (k:=t ((f1+k)%L.length)) (by rw[yL];exact i.B0 _ aw);obtain⟨q,hq,_⟩:=h _ p hp;have HD:=hq;rw[i.st _ aw] at hq;refine⟨p,hp,?_⟩;rw[b1 k hk,hq];show some q.l=_;rw[aor _ p q hp HD]
 cases r with
 |false=>
  have e:eL Q=(eJ (eL P) j).map (dV f):=by
   apply Bb;intro k;by_cases hk:k<L.length
   .obtain⟨p,hp,hq⟩:=Di k hk;rw[hq,fG,Sa aa aa,al,a1 _ (dr _ hn)];rw[i.aij yS k aa,ay ae,<- hjt,Be] at hp;rw[Nat.add_mod_mod,<- Gi,hp];rfl
   rw[qp aa,qp (by rw[cM,A0];omega)]
  rw[e];refine(VX (uA _ fun x hx=>HW.1 hx)).trans (VY aa he ?_);have pG:p1.d=true:=by have:=vx.2;revert this;cases p1.d<;>simp
  rw[pG] at M9;unfold dn at M9;exact dk.1 M9.symm
 |true=>
  have nz:L.length-1-j<L.length:=aa;have e:eL Q=(eJ (eL P).reverse (L.length-1-j)).map (dV f):=by
   apply Bb;intro k;by_cases hk:k<L.length
   .obtain⟨p,hp,hq⟩:=Di k hk;have hx:(L.length-1-j+k)%L.length<L.length:=dr _ hn;rw[hq,fG,Sa (by rw[oL];omega) (by rw[oL];omega),oL,al,List.getElem?_reverse aa,al,a1 _ aa];rw[i.aij yS k aa,aD rfl,<- hjt] at hp;have:(f0+(L.length-1-(L.length-1-j+k)%L.length))%L.length=((f0+j)%L.length+L.length-k)%L.length:=by
     rw[FQ (a:=L.length-1-j+k) aa];split
     .rename_i h1;rw[show(f0+j)%L.length+L.length-k=(f0+j)%L.length+(L.length-k) by omega,Be,show f0+(L.length-1-(L.length-1-j+k))=f0+j-k by omega,show f0+j+(L.length-k)=(f0+j-k)+L.length by omega,qV]
     rename_i h1;rw[show(f0+j)%L.length+L.length-k=(f0+j)%L.length+(L.length-k) by omega,Be];congr 1;omega
    rw[this,hp];rfl
   rw[qp aa,qp (by rw[cM,A0,oL];omega)]
  rw[e];refine(VX (uA _ fun x hx=>List.mem_reverse.1 (HW.1 hx))).trans ((VY (by rw[oL];omega) (by rw[vg];exact he) ?_).trans acK);have pG:p1.d=false:=by have:=vx.2;revert this;cases p1.d<;>simp
  rw[pG] at M9;have hx:(eL P)[j]?=some p1.l:=by rw[a1 j hj,hjt,pE];rfl
  have h9:=abn he hx vx.1;rw[<- M9,al] at h9;unfold dn at h9;exact dk.1 h9
end
abbrev cJ(L:ai)(v:Nat):Let:=(pA L v).l
section
variable {F:Nat} {L M:ai} {r:Bool} {s t:Nat->Nat}
def uP{v:Nat}{l:Let}(h:L[v]?=some l):cJ L v=l:=congrArg Pc.l (je (qP h))
def dp.uN(i:dp F L M r s t){v:Nat}(hv:v<L.length):(cJ M (s v)).kind=(cJ L v).kind/\(cJ M (s v)).gate=(cJ L v).gate/\(cJ M (s v)).aC=(cJ L v).aC/\(cJ M (s v)).sign=(cJ L v).sign/\(cJ M (s v)).over=(cJ L v).over:=by obtain⟨l,hl⟩:=aM hv;obtain⟨m,hm,h1,h2,h3,h4,h5⟩:=i.at_ v l hl;rw[uP hl,uP hm];exact⟨h1,h2,h3,h4,h5⟩
def dp.BR(i:dp F L M r s t){u v:Nat}(hu:u<L.length)(hv:v<L.length)(cu:(cJ L u).kind=2)(cv:(cJ L v).kind=2):(cJ M (s u)).id=(cJ M (s v)).id↔(cJ L u).id=(cJ L v).id:=by obtain⟨l,hl⟩:=aM hu;obtain⟨m,hm⟩:=aM hv;obtain⟨l',kA,_⟩:=i.at_ u l hl;obtain⟨m',iX,_⟩:=i.at_ v m hm;rw[uP hl] at cu |-;rw[uP hm] at cv |-;rw[uP kA,uP iX];exact i.ids u v l m l' m' hl hm kA iX (by unfold Let.aA;rw[cu];rfl) (by unfold Let.aA;rw[cv];rfl)
def Xm{α:Type}(c:Bool)(x:α):(if c=true then some x else none).isSome=c:=by cases c<;>rfl
def dp.ends(i:dp F L M r s t){e:Nat}(he:e<L.length):(r=false/\dT L.length r s e=s e/\nx M (dT L.length r s e)=s (nx L e))\/(r=true/\dT L.length r s e=s (nx L e)/\nx M (dT L.length r s e)=s e):=by
 have h1:=i.along he true;have e1:dF L.length e true=2*e:=rfl;rw[e1] at h1;have cV:=i.step e he;have en:∀u,nx M u=(u+1)%L.length:=fun u=>by show(u+1)%M.length=_;rw[i.len]
 have hx:nx L e<L.length:=dr _ aa;unfold dT;rw[h1,en];cases r with
 |false=>
  rw[ay ae] at cV;refine .inl ⟨rfl,?_,?_⟩
  .show 2*s e/2=_;omega
  show(2*s e/2+1)%L.length=_;rw[cV,show 2*s e/2=s e by omega]
 |true=>
  rw[aD rfl] at cV;have e2:(s e+L.length-1)%L.length=s (nx L e):=by rw[<- cV];exact xY (i.lt _ hx)
  refine .inr ⟨rfl,?_,?_⟩
  .show(2*((s e+L.length-1)%L.length)+1)/2=_;rw[e2];omega
  show((2*((s e+L.length-1)%L.length)+1)/2+1)%L.length=_;rw[e2,show(2*s (nx L e)+1)/2=s (nx L e) by omega];exact cV
def c1B(p q:Let)(a b:Nat):Bool:=(p.kind==1)&&((q.kind==1)&&((p.gate==q.gate)&&((tY p.aC q.aC-xX p.aC q.aC==1)&& !(decide (a<=2)&&decide (0<b)))))
def ajj{L:ai}{a:Nat}:(ug L a).isSome=c1B (cJ L a) (cJ L (nx L a)) (aq Let.aE L) (aq Let.aA L/2):=by unfold ug c1B;exact Xm _ _
def aq5(a b:Int):tY a b-xX a b=tY b a-xX b a:=by unfold tY xX;by_cases h1:a<b<;>by_cases h2:b<a<;>simp only[h1,h2,if_true,if_false]<;>omega
def akA(p q:Let)(a b:Nat):c1B p q a b=c1B q p a b:=by unfold c1B;rw[aq5 p.aC q.aC,show(p.gate==q.gate)=(q.gate==p.gate) by rw[Ef,dk,dk];exact eq_comm];cases (p.kind==1)<;>cases (q.kind==1)<;>rfl
def dp.c1(i:dp F L M r s t){a:Nat}(ha:a<L.length)(h:(ug L a).isSome=true):(ug M (dT L.length r s a)).isSome=true:=by
 rw[ajj] at h |-;have hx:nx L a<L.length:=dr _ aa;have n1:aq Let.aE M=aq Let.aE L:=i.cn _ fun l m h1 _=>by unfold Let.aE;rw[h1]
 have n2:aq Let.aA M=aq Let.aA L:=i.cn _ fun l m h1 _=>by unfold Let.aA;rw[h1]
 have key:c1B (cJ M (s a)) (cJ M (s (nx L a))) (aq Let.aE M) (aq Let.aA M/2)=true:=by obtain⟨h1,h2,h3,_⟩:=i.uN ha;obtain⟨k1,k2,k3,_⟩:=i.uN hx;rw[n1,n2,<- h];unfold c1B;rw[h1,h2,h3,k1,k2,k3]
 rcases i.ends ha with ⟨_,e1,e2⟩|⟨_,e1,e2⟩
 .rw[e2,e1];exact key
 rw[e2,e1,akA];exact key
def apU{L:ai}{a:Nat}:(uM L a).isSome=((cJ L a).kind==2&&((cJ L (nx L a)).kind==2&&((cJ L a).id==(cJ L (nx L a)).id))):=by unfold uM;exact Xm _ _
def dp.c4(i:dp F L M r s t){a:Nat}(ha:a<L.length)(h:(uM L a).isSome=true):(uM M (dT L.length r s a)).isSome=true:=by
 rw[apU] at h |-;have hx:nx L a<L.length:=dr _ aa;simp only[cU,dk] at h |-;obtain⟨h1,h2,h3⟩:=h;have k1:=(i.uN ha).1.trans h1;have k2:=(i.uN hx).1.trans h2;have k3:=(i.BR ha hx h1 h2).2 h3;rcases i.ends ha with ⟨_,e1,e2⟩|⟨_,e1,e2⟩
 .rw[e2,e1];exact⟨k1,k2,k3⟩
 rw[e2,e1];exact⟨k2,k1,k3.symm⟩
structure C6 (F:Nat) (L:ai) (a b:Nat):Prop where
 cr:(cJ L a).kind=2/\(cJ L (nx L a)).kind=2/\(cJ L b).kind=2/\(cJ L (nx L b)).kind=2
 ov:(cJ L (nx L a)).over=(cJ L a).over/\(cJ L (nx L b)).over=(cJ L b).over/\(cJ L b).over= !(cJ L a).over
 BP:(cJ L a).id≠(cJ L (nx L a)).id
 BQ:((cJ L b).id=(cJ L a).id/\(cJ L (nx L b)).id=(cJ L (nx L a)).id)\/((cJ L b).id=(cJ L (nx L a)).id/\(cJ L (nx L b)).id=(cJ L a).id)
 vm:nx L (nx L a)≠b/\nx L (nx L b)≠a
 cor:lk F L 0 [a,b] a=true
def X7(L:ai)(a:Nat):nx L (nx L a)=(a+2)%L.length:=by show((a+1)%L.length+1)%L.length=_;rw[Be]
def Rx{F:Nat}{L:ai}{a b:Nat}:(uS F L a b).isSome=true↔C6 F L a b:=by
 unfold uS;rw[Xm];unfold jt;simp only[cU,vT,mj,dk,lS,ne_eq];constructor
 .rintro ⟨h1,h2,h3,h4,h5,h6⟩
  refine⟨?_,?_,h2,h3,⟨by rw[X7];exact h4,by rw[X7];exact h5⟩,h6⟩
  .rcases h1 with ⟨⟨a1,a2,_⟩,b1,b2,_⟩|⟨⟨a1,a2,_⟩,b1,b2,_⟩
   .exact⟨a1,a2,b1,b2⟩
   exact⟨a1,a2,b1,b2⟩
  rcases h1 with ⟨⟨_,_,a3,a4⟩,_,_,b3,b4⟩|⟨⟨_,_,a3,a4⟩,_,_,b3,b4⟩
  .exact⟨a4.trans a3.symm,b4.trans b3.symm,by rw[b3,a3];rfl⟩
  exact⟨a4.trans a3.symm,b4.trans b3.symm,by rw[b3,a3];rfl⟩
 rintro ⟨⟨a1,a2,b1,b2⟩,⟨o1,o2,o3⟩,h2,h3,⟨h4,h5⟩,h6⟩
 rw[X7] at h4 h5;refine⟨?_,h2,h3,h4,h5,h6⟩;cases ho:(cJ L a).over with
 |true=>rw[ho] at o1 o3;exact .inl ⟨⟨a1,a2,rfl,o1⟩,b1,b2,o3,o2.trans o3⟩
 |false=>rw[ho] at o1 o3;exact .inr ⟨⟨a1,a2,rfl,o1⟩,b1,b2,o3,o2.trans o3⟩
def C6.symm{a b:Nat}(h:C6 F L a b)(ha:a<L.length)(hb:b<L.length):C6 F L b a:=by
 obtain⟨⟨a1,a2,b1,b2⟩,⟨o1,o2,o3⟩,h2,h3,⟨h4,h5⟩,h6⟩:=h;refine⟨⟨b1,b2,a1,a2⟩,⟨o2,o1,by rw[o3,Bool.not_not]⟩,?_,?_,⟨h5,h4⟩,?_⟩
 .rcases h3 with ⟨h,k⟩|⟨h,k⟩
  .rw[h,k];exact h2
  rw[h,k];exact h2.symm
 .rcases h3 with ⟨h,k⟩|⟨h,k⟩
  .exact .inl ⟨h.symm,k.symm⟩
  exact .inr ⟨k.symm,h.symm⟩
 rw[EI (e0:=a) rfl ha] at h6;rw[EI (e0:=b) rfl hb,Rm (List.Perm.swap a b [])];exact h6
def dp.vm(i:dp F L M r s t){a b:Nat}(ha:a<L.length)(hb:b<L.length)(h:nx L (nx L a)≠b)(h':nx L (nx L b)≠a):nx M (nx M (dT L.length r s a))≠dT L.length r s b:=by
 have tV:nx L a<L.length:=dr _ aa;have NZ:nx L b<L.length:=dr _ aa;have aeo:nx L (nx L b)<L.length:=dr _ aa;have en:∀u,nx M u=(u+1)%L.length:=fun u=>by show(u+1)%M.length=_;rw[i.len]
 have inj:∀u v,u<L.length->v<L.length->s u=s v->u=v:=fun u v hu hv e=>by rw[<- i.ts u hu,<- i.ts v hv,e]
 rcases i.ends ha with ⟨hr,e1,e2⟩|⟨hr,e1,e2⟩
 .subst hr;rcases i.ends hb with ⟨_,k1,k2⟩|⟨hr,_⟩
  .intro e;rw[e2,k1,en] at e;have h3:=i.step (nx L a) tV;rw[ay ae] at h3;exact h (inj _ _ (dr _ aa) hb (h3.trans e))
  cases hr
 subst hr;rcases i.ends hb with ⟨hr,_⟩|⟨_,k1,k2⟩
 .cases hr
 intro e;rw[e2,k1,en] at e;have h3:=i.step (nx L b) NZ;rw[aD rfl] at h3;have h4:nx L (s a)=nx L (s (nx L (nx L b))):=(show nx L (s a)=s (nx L b) from e).trans h3.symm;exact h' (inj _ _ aeo ha (X6 (i.lt _ ha) (i.lt _ aeo) h4).symm)
def dp.c6(i:dp F L M r s t){a b:Nat}(ha:a<L.length)(hb:b<L.length)(h:C6 F L a b):C6 F M (dT L.length r s a) (dT L.length r s b):=by
 have tV:nx L a<L.length:=dr _ aa;have NZ:nx L b<L.length:=dr _ aa;have vm:=h.vm;obtain⟨⟨a1,a2,b1,b2⟩,⟨o1,o2,o3⟩,h2,h3,_,h6⟩:=h;have la:=i.uN ha;have la':=i.uN tV;have lb:=i.uN hb;have lb':=i.uN NZ;have Ak:lk F M 0 [dT L.length r s a,dT L.length r s b] (dT L.length r s a)=true:=i.TR (edges:=[a,b]) (fun e he=>by simp only[cD,fq,or_false] at he;rcases he with rfl|rfl<;>assumption) rfl h6 (List.Perm.refl _) rfl
 have hf:nx M (nx M (dT L.length r s a))≠dT L.length r s b/\nx M (nx M (dT L.length r s b))≠dT L.length r s a:=⟨i.vm ha hb vm.1 vm.2,i.vm hb ha vm.2 vm.1⟩;have BP:(cJ M (s a)).id≠(cJ M (s (nx L a))).id:=fun e=>h2 ((i.BR ha tV a1 a2).1 e);have BQ:((cJ M (s b)).id=(cJ M (s a)).id/\(cJ M (s (nx L b))).id=(cJ M (s (nx L a))).id)\/((cJ M (s b)).id=(cJ M (s (nx L a))).id/\(cJ M (s (nx L b))).id=(cJ M (s a)).id):=by
  rcases h3 with ⟨h,k⟩|⟨h,k⟩
  .exact .inl ⟨(i.BR hb ha b1 a1).2 h,(i.BR NZ tV b2 a2).2 k⟩
  exact .inr ⟨(i.BR hb tV b1 a2).2 h,(i.BR NZ ha b2 a1).2 k⟩
 have ka:=la.1.trans a1;have ka':=la'.1.trans a2;have kb:=lb.1.trans b1;have kb':=lb'.1.trans b2;have va:(cJ M (s (nx L a))).over=(cJ M (s a)).over:=by rw[la.2.2.2.2,la'.2.2.2.2];exact o1
 have vb:(cJ M (s (nx L b))).over=(cJ M (s b)).over:=by rw[lb.2.2.2.2,lb'.2.2.2.2];exact o2
 have vc:(cJ M (s b)).over= !(cJ M (s a)).over:=by rw[lb.2.2.2.2,la.2.2.2.2];exact o3
 have E1:=i.ends ha;have E2:=i.ends hb;generalize dT L.length r s a=ea at*;generalize dT L.length r s b=eb at*;rcases E1 with ⟨hr,p1,p2⟩|⟨hr,p1,p2⟩<;>rcases E2 with ⟨mR,q1,q2⟩|⟨mR,q1,q2⟩
 .refine⟨?_,?_,?_,?_,hf,Ak⟩
  .rw[p2,q2,p1,q1];exact⟨ka,ka',kb,kb'⟩
  .rw[p2,q2,p1,q1];exact⟨va,vb,vc⟩
  .rw[p2,p1];exact BP
  rw[p2,q2,p1,q1];exact BQ
 .rw[hr] at mR;cases mR
 .rw[hr] at mR;cases mR
 refine⟨?_,?_,?_,?_,hf,Ak⟩
 .rw[p2,q2,p1,q1];exact⟨ka',ka,kb',kb⟩
 .rw[p2,q2,p1,q1];exact⟨va.symm,vb.symm,by rw[va,vb];exact vc⟩
 .rw[p2,p1];exact BP.symm
 rw[p2,q2,p1,q1];rcases BQ with ⟨h,k⟩|⟨h,k⟩
 .exact .inl ⟨k,h⟩
 exact .inr ⟨k,h⟩
end
section
variable {F:Nat} {L M:ai} {r:Bool} {s t:Nat->Nat}
def CA(L M:ai)(s:Nat->Nat)(X Y:c_):Prop:=∀x,x<L.length->∃u ρ,u<L.length/\X[x]?=some ⟨{cJ L u with aC:=ρ},iT L u⟩/\Y[s x]?=some ⟨{cJ M (s u) with aC:=ρ},iT M (s u)⟩
def dp.inj(i:dp F L M r s t){u v:Nat}(hu:u<L.length)(hv:v<L.length)(e:s u=s v):u=v:=by rw[<- i.ts u hu,<- i.ts v hv,e]
def dp.aaS(i:dp F L M r s t):CA L M s (pieces L) (pieces M):=by
 intro x hx;obtain⟨l,hl⟩:=aM hx;obtain⟨m,hm⟩:=aM (ls:=M) (k:=s x) (by rw[i.len];exact i.lt x hx);refine⟨x,(cJ L x).aC,hx,?_,?_⟩
 .rw[qP hl,uP hl]
 rw[qP hm,<- (i.uN hx).2.2.1,uP hm]
def dp.aaU(i:dp F L M r s t){X Y:c_}(h:CA L M s X Y){p:Nat}(hp:p<L.length)(ρ:Int):CA L M s (eW X p ρ) (eW Y (s p) ρ):=by
 obtain⟨u0,r0,h0,a0,b0⟩:=h p hp;intro x hx;obtain⟨u,r1,h1,a1,b1⟩:=h x hx;rw[A4 a0,A4 b0];by_cases e:x=p
 .subst e;rw[aD rfl,aD rfl];exact⟨u0,ρ,h0,rfl,rfl⟩
 rw[ay e,ay fun e2=>e (i.inj hx hp e2)];exact⟨u,r1,h1,a1,b1⟩
def dp.corE(i:dp F L M r s t){X Y:c_}(hX:X.length=L.length)(hY:Y.length=M.length)(h:CA L M s X Y){e:Nat}(he:e<L.length):CA L M s (fj L X e) (fj M Y (dT L.length r s e)):=by
 have hn:nx L e<L.length:=dr _ aa;have dI:dT L.length r s e<M.length:=by rw[i.len];exact i.Dc he
 obtain⟨u0,r0,h0,a0,b0⟩:=h e he;obtain⟨u1,r1,h1,a1,b1⟩:=h (nx L e) hn;have aI:=Rg i.g he;have hse:s (nx L e)≠s e:=fun e2=>aI (i.inj hn he e2).symm;have hY1:∀x,x<L.length->(fj M Y (dT L.length r s e))[s x]?=if x=nx L e then Y[s e]? else if x=e then Y[s (nx L e)]? else Y[s x]? :=by
  intro x hx;rw[A5 hY dI];rcases i.ends he with ⟨_,k1,k2⟩|⟨_,k1,k2⟩
  .rw[k2,k1];by_cases c1:x=nx L e
   .subst c1;rw[aD rfl,aD rfl]
   rw[ay fun e2=>c1 (i.inj hx hn e2),ay c1];by_cases c2:x=e
   .subst c2;rw[aD rfl,aD rfl]
   rw[ay fun e2=>c2 (i.inj hx he e2),ay c2]
  rw[k2,k1];by_cases c1:x=nx L e
  .subst c1;rw[ay hse,aD rfl,aD rfl]
  rw[ay c1];by_cases c2:x=e
  .subst c2;rw[aD rfl,aD rfl]
  rw[ay fun e2=>c2 (i.inj hx he e2),ay fun e2=>c1 (i.inj hx hn e2),ay c2]
 intro x hx;obtain⟨u,ρ,k1,k2,k3⟩:=h x hx;rw[A5 hX he,hY1 x hx];by_cases c1:x=nx L e
 .rw[aD c1,aD c1];exact⟨u0,r0,h0,a0,b0⟩
 rw[ay c1,ay c1];by_cases c2:x=e
 .rw[aD c2,aD c2];exact⟨u1,r1,h1,a1,b1⟩
 rw[ay c2,ay c2];exact⟨u,ρ,k1,k2,k3⟩
def dp.aaT(i:dp F L M r s t):∀ {es:a_} {X Y:c_},X.length=L.length->Y.length=M.length->CA L M s X Y->(∀e∈es,e<L.length)->CA L M s (fY L X es) (fY M Y (es.map (dT L.length r s))):=by
 intro es
 induction es with
 |nil=>intro X Y _ _ h _;exact h
 |cons e es ih=>intro X Y hX hY h he;exact ih (by rw[zx,hX]) (by rw[zx,hY]) (i.corE hX hY h (he e af)) fun e h=>he e (by simp[h])
def dp.acW(i:dp F L M r s t){P Q:c_}(hP:P.length=L.length)(hQ:Q.length=L.length)(cP:Cert F P)(cQ:Cert F Q)(vP:bQ (F:Int) (eL P)=0)(h:CA L M s P Q):nZ (eL Q) (eL P):=by
 refine i.fin hP hQ cP cQ vP (fun v p hp=>?_) fun u v p p' q q' hp gn hq tQ cp mM=>?_
 .have hv:v<L.length:=by rw[<- hP];exact(aT.1 hp).1
  obtain⟨u,ρ,hu,a,b⟩:=h v hv;rw[hp] at a;cases a;obtain⟨k1,k2,k3,k4,k5⟩:=i.uN hu;refine⟨_,b,k1,k2,rfl,k4,k5,fun hc=>?_,fun fV=>?_⟩
  .have hk:∀(X:ai),cX F X->∀z,z<X.length->(cJ X z).aA=false->(cJ X z).id=0:=fun X gX z hz hc=>by
    obtain⟨l,hl⟩:=aM hz;rw[uP hl] at hc |-;have hb:=gX.bad l (aV hl);have hp:l.aE=true:=(v7 hb).resolve_right (by rw[hc];decide);have:=(sB hp).1 hb;exact this.1.1.2
   have hc:(cJ L u).aA=false:=hc;have o9:(cJ M (s u)).aA=false:=by unfold Let.aA at hc |-;rw[k1];exact hc
   exact(hk M i.g' _ (by rw[i.len];exact i.lt u hu) o9).trans (hk L i.g u hu hc).symm
  have fV:(cJ L u).aE=true:=fV;obtain⟨l,hl⟩:=aM hu;obtain⟨m,hm,h1,_⟩:=i.at_ u l hl;rw[uP hl] at fV;have lH:m.aE=true:=(i.aE hl hm).1.trans fV;show iT M (s u)=(iT L u !=r);unfold iT;rw[hl,hm];show(m.aE&&dn M (s u))=((l.aE&&dn L u)!=r);rw[fV,lH,i.dwn u l hl fV];rfl
 have hu:u<L.length:=by rw[<- hP];exact(aT.1 hp).1
 have hv:v<L.length:=by rw[<- hP];exact(aT.1 gn).1
 obtain⟨x,ρ,hx,a,b⟩:=h u hu;obtain⟨y,ρ',hy,a',b'⟩:=h v hv;rw[hp] at a;rw[gn] at a';rw[hq] at b;rw[tQ] at b';cases a;cases a';cases b;cases b';exact i.BR hx hy (by unfold Let.aA at cp;exact dk.1 cp) (by unfold Let.aA at mM;exact dk.1 mM)
def EM(L:ai)(e f:Nat):Prop:=e≠f/\e≠nx L f/\nx L e≠f/\nx L e≠nx L f
def au5{X:c_}(hX:X.length=L.length){e f:Nat}(he:e<L.length)(hf:f<L.length)(h:EM L e f):fj L (fj L X e) f=fj L (fj L X f) e:=by
 obtain⟨h1,h2,h3,h4⟩:=h;apply Bb;intro x;have l1:(fj L X e).length=L.length:=by rw[zx,hX]
 have l2:(fj L X f).length=L.length:=by rw[zx,hX]
 simp only[A5 l1 hf,A5 l2 he,A5 hX he,A5 hX hf];by_cases c1:x=nx L f
 .subst c1;rw[aD rfl,ay (Ne.symm h3),ay (by intro h;exact h1 h.symm),ay (by intro h;exact h4 h.symm),ay (by intro h;exact h2 h.symm)];simp
 by_cases c2:x=f
 .subst c2;by_cases c3:x=nx L x
  .exact absurd c3 c1
  simp[c1,h2.symm,h4.symm,Ne.symm h3,Ne.symm h1]
 by_cases c3:x=nx L e
 .subst c3;simp[h4,h3,h1,h2]
 by_cases c4:x=e
 .subst c4;simp[h1,h2,h3,h4,c3]
 simp[c1,c2,c3,c4]
def aih{es im:a_}(hp:es.Perm im):∀ {X:c_},X.length=L.length->(∀e∈es,e<L.length)->es.Pairwise (EM L)->fY L X es=fY L X im:=by
 have sym:∀ {e f},EM L e f->EM L f e:=fun h=>⟨h.1.symm,h.2.2.1.symm,h.2.1.symm,h.2.2.2.symm⟩
 induction hp with
 |nil=>intro X _ _ _;rfl
 |cons e _ ih=>intro X hX he hd;exact ih (by rw[zx,hX]) (fun e h=>he e (by simp[h])) (rM.1 hd).2
 |swap e f l=>intro X hX he hd;have h1:=(rM.1 hd).1 e af;show fY L (fj L (fj L X f) e) l=fY L (fj L (fj L X e) f) l;rw[au5 hX (he f af) (he e af) h1]
 |trans h1 h2 ih1 ih2=>intro X hX he hd;rw[ih1 hX he hd];exact ih2 hX (fun e h=>he e (h1.mem_iff.2 h)) (h1.pairwise hd fun h=>sym h)
def atv{X:c_}{p q:Nat}(hp:p<X.length)(hq:q<X.length)(h:p≠q)(a b:Int):eW (eW X p a) q b=eW (eW X q b) p a:=by
 obtain⟨x,hx⟩:=aM hp;obtain⟨y,hy⟩:=aM hq;have h1:(eW X p a)[q]?=some y:=by rw[A4 hx,ay (Ne.symm h)];exact hy
 have h2:(eW X q b)[p]?=some x:=by rw[A4 hy,ay h];exact hx
 apply Bb;intro z;rw[A4 h1,A4 h2,A4 hx,A4 hy];by_cases c1:z=q
 .subst c1;rw[aD rfl,ay (Ne.symm h),aD rfl]
 rw[ay c1,ay c1]
end
section
variable {F:Nat} {L M:ai} {r:Bool} {s t:Nat->Nat}
def Bo(L:ai)(e p v:Nat):Prop:=((p=e/\v=nx L e)\/(p=nx L e/\v=e))/\(cJ L p).kind=1/\(cJ L v).kind=2
structure C3 (F:Nat) (L:ai) (a b p v q w:Nat):Prop where
 ea:Bo L a p v
 eb:Bo L b q w
 vw:v≠w
 id:(cJ L v).id=(cJ L w).id
 cor:lk F L 1 [a,b] a=true
def Bo.pv{e p v:Nat}(h:Bo L e p v):j9 L e=(p,v,true):=by
 obtain⟨h1,h2,h3⟩:=h;unfold j9;rcases h1 with ⟨rfl,rfl⟩|⟨rfl,rfl⟩
 .rw[ay (by rw[show(pA L p).l.kind=1 from h2];decide),show(pA L p).l.kind=1 from h2,show(pA L (nx L p)).l.kind=2 from h3];rfl
 rw[aD (by rw[show(pA L v).l.kind=2 from h3];rfl),show(pA L (nx L v)).l.kind=1 from h2];rfl
def Bo.lt{e p v:Nat}(h:Bo L e p v)(he:e<L.length):p<L.length/\v<L.length:=by
 have hn:nx L e<L.length:=dr _ aa;rcases h.1 with ⟨rfl,rfl⟩|⟨rfl,rfl⟩
 .exact⟨he,hn⟩
 exact⟨hn,he⟩
def Z3(g:cX F L){a b:Nat}(ha:a<L.length)(hb:b<L.length){X:c_}(h:rS F L a b=some X):∃p v q w,C3 F L a b p v q w/\X=fY L (eW (eW (pieces L) p (cJ L q).aC) q (cJ L p).aC) [a,b]:=by
 have hn:0<L.length:=aa;unfold rS at h;split at h
 case isFalse=>cases h
 rename_i hc;simp only[cU,mj,lS,dk] at hc;obtain⟨h1,h2,h3,h4,h5⟩:=hc;cases h;obtain⟨ea,⟨la,rB,ca⟩,ma,sZ,qa⟩:=RZ hn ha h1;obtain⟨eb,⟨lb,uC,cb⟩,mb,s0,qb⟩:=RZ hn hb h2;have k1:∀ {x:Nat} {l:Let},L[x]?=some l->l.aA=true->(cJ L x).kind=2:=fun h1 h2=>by rw[uP h1];unfold Let.aA at h2;exact dk.1 h2
 have k2:∀ {x:Nat} {l:Let},L[x]?=some l->l.aE=true->(cJ L x).kind=1:=fun h1 h2=>by rw[uP h1];unfold Let.aE at h2;exact dk.1 h2
 exact⟨_,_,_,_,⟨⟨ea,k2 sZ qa,k1 rB ca⟩,⟨eb,k2 s0 qb,k1 uC cb⟩,h3,h4,h5⟩,rfl⟩
def C3.as{a b p v q w:Nat}(h:C3 F L a b p v q w):rS F L a b=some (fY L (eW (eW (pieces L) p (cJ L q).aC) q (cJ L p).aC) [a,b]):=by unfold rS;rw[h.ea.pv,h.eb.pv];refine aD ?_;simp only[cU,mj,lS,dk];exact⟨trivial,trivial,h.vw,h.id,h.cor⟩
def C3.symm{a b p v q w:Nat}(h:C3 F L a b p v q w)(ha:a<L.length)(hb:b<L.length):C3 F L b a q w p v:=by refine⟨h.eb,h.ea,h.vw.symm,h.id.symm,?_⟩;have h6:=h.cor;rw[EI (e0:=a) rfl ha] at h6;rw[EI (e0:=b) rfl hb,Rm (List.Perm.swap a b [])];exact h6
def afv{y:Nat}(h:(cJ L x).kind=1)(k:(cJ L y).kind=2):x≠y:=fun e=>by rw[e,k] at h;cases h
def C3.pq(g:cX F L){a b p v q w:Nat}(h:C3 F L a b p v q w)(ha:a<L.length)(hb:b<L.length)(ef:a≠b):p≠q:=by
 obtain⟨⟨ea,kp,kv⟩,⟨eb,kq,kw⟩,Ko,hid,Ak⟩:=h;obtain⟨hp,hv⟩:=Bo.lt ⟨ea,kp,kv⟩ ha;obtain⟨hq,hw⟩:=Bo.lt ⟨eb,kq,kw⟩ hb;obtain⟨ma,sZ⟩:=aM hp;obtain⟨la,rB⟩:=aM hv;obtain⟨mb,s0⟩:=aM hq;obtain⟨lb,uC⟩:=aM hw;rw[uP sZ] at kp;rw[uP rB] at kv hid;rw[uP s0] at kq;rw[uP uC] at kw hid;have cP:∀ {l:Let},l.kind=1->l.aE=true:=fun h=>by unfold Let.aE;rw[h];rfl
 have cC:∀ {l:Let},l.kind=2->l.aA=true:=fun h=>by unfold Let.aA;rw[h];rfl
 obtain⟨wk,hwk,pE,d,d1,d2,d3,d4,two,cs⟩:=ahR g ha hb ef ea eb rB uC sZ s0 (cC kv) (cC kw) (cP kp) (cP kq) hid Ko Ak;have key:∀ {x y u z:Nat} {lx lz lu:Let},oT L.length d=x->oT L.length (aW L d)=z->oH L.length (aW L d)=y->L[x]?=some lx->L[y]?=some lu->L[z]?=some lz->lu.kind=1->lz.kind=2->x≠y:=by
  intro x y u z lx lz lu e1 e2 e3 hx hy hz ku kz;obtain⟨u',m,y',y1,y2,y3,qF,y4⟩:=X1 g hwk pE d3 (v:=oH L.length (aW L d)) (fw:=bn (aW L d)) (EL d4) (by rw[e3];exact hy) (cP ku);have hu:=(aT.1 y2).1;have yT:∀f,oT L.length (dF L.length u' f)=u'/\dF L.length u' f<2*L.length:=fun f=>⟨(Mg hu).1,by
   have:=yv hu (!f);rw[<- A1] at this;have:=A2 this;rwa[A3] at this⟩
  have DH:oT L.length y'=u'/\y'<2*L.length:=by rcases y4 with ⟨_,_,e⟩|⟨_,_,e⟩<;>rw[e]<;>exact yT _
  have hm:m.aC≠lu.aC:=by rcases y4 with ⟨_,e,_⟩|⟨_,e,_⟩<;>omega
  rcases two y' y1 DH.2 with e|e
  .rw[e,e1] at DH;rw[<- DH.1,hx] at y2;have:=qt y2;intro e4;rw[e4,hy] at hx;have:=qt hx;apply hm
   simp_all
  exfalso;rw[e,e2] at DH;rw[<- DH.1,hz] at y2;have h5:=qt y2;rw[h5] at kz;unfold Let.aE at y3;rw[kz] at y3;cases y3
 rcases cs with ⟨_,_,e1,_,e2,e3⟩|⟨_,_,e1,_,e2,e3⟩
 .exact key (u:=0) e1 e2 e3 sZ s0 uC kq kw
 exact(key (u:=0) e1 e2 e3 s0 sZ rB kp kv).symm
def C3.dj(g:cX F L){a b p v q w:Nat}(h:C3 F L a b p v q w)(ha:a<L.length)(hb:b<L.length)(ef:a≠b):EM L a b:=by
 have Ke:=h.pq g ha hb ef;obtain⟨⟨ea,kp,kv⟩,⟨eb,kq,kw⟩,Ko,_⟩:=h;have h1:=afv kp kw;have h2:=afv kq kv;rcases ea with ⟨e1,e2⟩|⟨e1,e2⟩<;>rcases eb with ⟨e3,e4⟩|⟨e3,e4⟩<;>subst e1 e2 e3 e4
 .exact⟨Ke,h1,h2.symm,Ko⟩
 .exact⟨h1,Ke,Ko,h2.symm⟩
 .exact⟨h2.symm,Ko,Ke,h1⟩
 exact⟨Ko,h2.symm,h1,Ke⟩
def dp.ed(i:dp F L M r s t){e p v:Nat}(he:e<L.length)(h:Bo L e p v):Bo M (dT L.length r s e) (s p) (s v):=by
 obtain⟨hp,hv⟩:=h.lt he;obtain⟨h1,h2,h3⟩:=h;refine⟨?_,(i.uN hp).1.trans h2,(i.uN hv).1.trans h3⟩;rcases i.ends he with ⟨_,k1,k2⟩|⟨_,k1,k2⟩<;>rw[k2,k1]<;>rcases h1 with ⟨rfl,rfl⟩|⟨rfl,rfl⟩
 .exact .inl ⟨rfl,rfl⟩
 .exact .inr ⟨rfl,rfl⟩
 .exact .inr ⟨rfl,rfl⟩
 exact .inl ⟨rfl,rfl⟩
def dp.c3(i:dp F L M r s t){a b p v q w:Nat}(ha:a<L.length)(hb:b<L.length)(h:C3 F L a b p v q w):C3 F M (dT L.length r s a) (dT L.length r s b) (s p) (s v) (s q) (s w):=by obtain⟨hp,hv⟩:=h.ea.lt ha;obtain⟨hq,hw⟩:=h.eb.lt hb;refine⟨i.ed ha h.ea,i.ed hb h.eb,fun e=>h.vw (i.inj hv hw e),(i.BR hv hw h.ea.2.2 h.eb.2.2).2 h.id,?_⟩;exact i.TR (edges:=[a,b]) (fun e he=>by simp only[cD,fq,or_false] at he;rcases he with rfl|rfl<;>assumption) rfl h.cor (List.Perm.refl _) rfl
def dp.k3(i:dp F L M r s t){a b:Nat}(ef:a<b)(hb:b<L.length){X:c_}(h:rS F L a b=some X)(vX:bQ (F:Int) (eL X)=0):∃a' b' Y,a'<b'/\b'<M.length/\rS F M a' b'=some Y/\nZ (eL Y) (eL X):=by
 have ha:a<L.length:=aa;obtain⟨p,v,q,w,c,rfl⟩:=Z3 i.g ha hb h;have aI:a≠b:=aa;obtain⟨hp,hv⟩:=c.ea.lt ha;obtain⟨hq,hw⟩:=c.eb.lt hb;have bY:=fK L;have jq:=fK M;have c':=i.c3 ha hb c;have la:dT L.length r s a<M.length:=by rw[i.len];exact i.Dc ha
 have lb:dT L.length r s b<M.length:=by rw[i.len];exact i.Dc hb
 have NB:dT L.length r s a≠dT L.length r s b:=fun e=>aI (by rw[<- i.JB ha,<- i.JB hb,e]);have dj:=c'.dj i.g' la lb NB;have pq:=c'.pq i.g' la lb NB;obtain⟨lp',lv'⟩:=c'.ea.lt la;obtain⟨lq',lw'⟩:=c'.eb.lt lb;have hX:=TB i.g ha hb aI h;have rq:=(i.uN hq).2.2.1;have rp:=(i.uN hp).2.2.1;have Nt:∀(Z:c_) (p q:Nat) (a b:Int),(eW (eW Z p a) q b).length=Z.length:=fun Z p q a b=>by rw[zu,zu]
 have base:CA L M s (eW (eW (pieces L) p (cJ L q).aC) q (cJ L p).aC) (eW (eW (pieces M) (s p) (cJ M (s q)).aC) (s q) (cJ M (s p)).aC):=by rw[rq,rp];exact i.aaU (i.aaU i.aaS hp _) hq _
 have hC:=i.aaT (es:=[a,b]) (by rw[Nt,bY]) (by rw[Nt,jq]) base (fun e he=>by simp only[cD,fq,or_false] at he;rcases he with rfl|rfl<;>assumption)
 have aoq:(fY L (eW (eW (pieces L) p (cJ L q).aC) q (cJ L p).aC) [a,b]).length=L.length:=by rw[w8,Nt,bY]
 have done:∀a' b' Y,a'<b'->b'<M.length->rS F M a' b'=some Y->Y=fY M (eW (eW (pieces M) (s p) (cJ M (s q)).aC) (s q) (cJ M (s p)).aC) ([a,b].map (dT L.length r s))->∃a' b' Y,a'<b'/\b'<M.length/\rS F M a' b'=some Y/\nZ (eL Y) (eL (fY L (eW (eW (pieces L) p (cJ L q).aC) q (cJ L p).aC) [a,b])):=fun a' b' Y h1 h2 h3 h4=>by refine⟨a',b',Y,h1,h2,h3,?_⟩;have cY:=TB i.g' (a:=a') (b:=b') aa h2 aa h3;rw[<- h4] at hC;exact i.acW aoq (by rw[h4,w8,Nt,jq,i.len]) hX cY vX hC
 by_cases aw:dT L.length r s a<dT L.length r s b
 .exact done _ _ _ aw lb c'.as rfl
 refine done _ _ _ (show dT L.length r s b<dT L.length r s a by omega) la (c'.symm la lb).as ?_;rw[atv (X:=pieces M) (p:=s q) (q:=s p) aa aa (Ne.symm pq)];refine aih (List.Perm.swap _ _ []) (by rw[Nt,jq]) (fun e he=>?_) ?_
 .simp only[cD,fq,or_false] at he;rcases he with rfl|rfl<;>assumption
 simp only[rM,cD,fq,or_false,false_imp_iff,implies_true,and_true,forall_eq,List.Pairwise.nil];exact⟨dj.1.symm,dj.2.2.1.symm,dj.2.1.symm,dj.2.2.2.symm⟩
end
def T3{l l':d_}(h:∀x,x∈l↔x∈l'):(iS l).length=(iS l').length:=
 ((List.perm_ext_iff_of_nodup (Mh l) (Mh l')).2 fun x=>by rw[zY,zY,h]).length_eq
def abf{f:Int->Int}{l:d_}(hf:∀x∈l,∀y∈l,f x=f y->x=y):(iS (l.map f)).length=(iS l).length:=by have hn:((iS l).map f).Nodup:=ym.2 ((Mh l).imp_of_mem fun hx hy h e=>h (hf _ (zY.1 hx) _ (zY.1 hy) e));rw[show(iS l).length=((iS l).map f).length by rw[cM]];refine((List.perm_ext_iff_of_nodup (Mh _) hn).2 fun x=>?_).length_eq;rw[zY,dh,dh];exact⟨fun⟨a,h1,h2⟩=>⟨a,zY.2 h1,h2⟩,fun⟨a,h1,h2⟩=>⟨a,zY.1 h1,h2⟩⟩
def F6(F:Nat)(L:ai)(es:a_)(e0:Nat):Bool:=es.all (um L)&&(((iS (pO L es)).length==6)&&(((iS (rK L es)).length==3)&&(es.any (jt L · true)&&(es.any (jt L · false)&&lk F L 0 es e0))))
section
variable {F:Nat} {L M:ai} {r:Bool} {s t:Nat->Nat}
def avf{es im:a_}{e0 GN:Nat}(he:∀e∈es,e<L.length)(hp:es.Perm im)(h0:es[0]?=some e0)(Ha:im[0]?=some GN)(h:F6 F L es e0=true):F6 F L im GN=true:=by
 have hm:∀x,x∈es↔x∈im:=fun x=>hp.mem_iff;have any_eq:∀q:Nat->Bool,im.any q=es.any q:=fun q=>by rw[Ef,zE,zE];exact⟨fun⟨x,a,b⟩=>⟨x,(hm x).2 a,b⟩,fun⟨x,a,b⟩=>⟨x,(hm x).1 a,b⟩⟩
 have all_eq:im.all (um L)=es.all (um L):=by rw[Ef,gO,gO];exact⟨fun h x a=>h x ((hm x).1 a),fun h x a=>h x ((hm x).2 a)⟩
 have fm:∀f:Nat->d_,(iS (im.flatMap f)).length=(iS (es.flatMap f)).length:=fun f=>T3 fun x=>by rw[Gd,Gd];exact⟨fun⟨x,a,b⟩=>⟨x,(hm x).2 a,b⟩,fun⟨x,a,b⟩=>⟨x,(hm x).1 a,b⟩⟩
 have hc:lk F L 0 im GN=lk F L 0 es e0:=by rw[EI h0 (he _ (aV h0)),EI Ha (he _ (hp.mem_iff.2 (aV Ha))),Rm hp]
 unfold F6 pO rK at h |-;rw[any_eq,any_eq,all_eq,fm,fm,hc];exact h
def dp.bo(i:dp F L M r s t){e:Nat}(he:e<L.length)(o:Bool):jt M (dT L.length r s e) o=jt L e o/\um M (dT L.length r s e)=um L e:=by
 have hn:nx L e<L.length:=dr _ aa;obtain⟨k1,_,_,_,k2⟩:=i.uN he;obtain⟨m1,_,_,_,m2⟩:=i.uN hn;unfold jt um;have e1:∀x,(pA M x).l=cJ M x:=fun _=>rfl;have e2:∀x,(pA L x).l=cJ L x:=fun _=>rfl;rw[e1,e1,e2,e2];rcases i.ends he with ⟨_,p1,p2⟩|⟨_,p1,p2⟩<;>rw[p2,p1,k1,k2,m1,m2]
 .exact⟨rfl,rfl⟩
 constructor
 .cases ((cJ L e).kind==2)<;>cases ((cJ L (nx L e)).kind==2)<;>cases ((cJ L e).over==o)<;>cases ((cJ L (nx L e)).over==o)<;>rfl
 exact Bool.and_comm _ _
def dp.tg(i:dp F L M r s t){es:a_}{e0:Nat}(he:∀e∈es,e<L.length)(h0:es[0]?=some e0)(h:F6 F L es e0=true):F6 F M (es.map (dT L.length r s)) (dT L.length r s e0)=true:=by
 have hn:∀e∈es,nx L e<L.length:=fun e h=>dr _ (by have:=he e h;omega);unfold F6 at h |-;simp only[cU,dk] at h |-;obtain⟨h1,h2,h3,h4,h5,h6⟩:=h;have eV:∀e∈es,(cJ L e).kind=2/\(cJ L (nx L e)).kind=2:=fun e hm=>by have:=gO.1 h1 e hm;unfold um at this;rw[cU,dk,dk] at this;exact this
 have any_:∀o,es.any (jt L · o)=true->(es.map (dT L.length r s)).any (jt M · o)=true:=fun o h=>by obtain⟨e,hm,hb⟩:=zE.1 h;exact zE.2 ⟨_,dh.2 ⟨e,hm,rfl⟩,by rw[(i.bo (he e hm) o).1];exact hb⟩
 obtain⟨f,hf⟩:=aeq (P:=pieces L) (Q:=pieces M) (s:=s) (fun u v p p' q q' hp gn hq tQ cp mM=>by have a1:=(aT.1 hp).1;have a2:=(aT.1 gn).1;rw[fK] at a1 a2;rw[<- je hp] at cp |-;rw[<- je gn] at mM |-;rw[<- je hq,<- je tQ];exact i.BR a1 a2 (by unfold Let.aA at cp;exact dk.1 cp) (by unfold Let.aA at mM;exact dk.1 mM))
 have hid:∀v,v<L.length->(cJ L v).kind=2->(cJ M (s v)).id=f (cJ L v).id:=fun v hv hk=>by obtain⟨p,hp⟩:=aM (ls:=pieces L) (k:=v) (by rw[fK];exact hv);obtain⟨q,hq⟩:=aM (ls:=pieces M) (k:=s v) (by rw[fK,i.len];exact i.lt v hv);have:=hf v p q hp hq (by unfold Let.aA;rw[<- je hp];rw[show(pA L v).l.kind=2 from hk];rfl);rw[<- je hp,<- je hq] at this;exact this
 refine⟨?_,?_,?_,any_ true h4,any_ false h5,i.TR he h0 h6 (List.Perm.refl _) (by rw[fG,h0];rfl)⟩
 .rw[gO];intro x hx;obtain⟨e,hm,rfl⟩:=dh.1 hx;rw[(i.bo (he e hm) true).2];exact gO.1 h1 e hm
 .have e1:(iS (pO M (es.map (dT L.length r s)))).length=(iS ((pO L es).map fun z=>((s z.toNat:Nat):Int))).length:=T3 fun x=>by
   unfold pO;simp only[Gd,dh,cD,fq,or_false];constructor
   .rintro ⟨_,⟨e,hm,rfl⟩,hx⟩
    rcases i.ends (he e hm) with ⟨_,p1,p2⟩|⟨_,p1,p2⟩<;>rw[p2,p1] at hx<;>rcases hx with rfl|rfl
    .exact⟨_,⟨e,hm,.inl rfl⟩,by rw[pP]⟩
    .exact⟨_,⟨e,hm,.inr rfl⟩,by rw[pP]⟩
    .exact⟨_,⟨e,hm,.inr rfl⟩,by rw[pP]⟩
    exact⟨_,⟨e,hm,.inl rfl⟩,by rw[pP]⟩
   rintro ⟨_,⟨e,hm,hx⟩,rfl⟩
   refine⟨_,⟨e,hm,rfl⟩,?_⟩;rcases i.ends (he e hm) with ⟨_,p1,p2⟩|⟨_,p1,p2⟩<;>rw[p2,p1]<;>rcases hx with rfl|rfl<;>rw[pP]
   .exact .inl rfl
   .exact .inr rfl
   .exact .inr rfl
   exact .inl rfl
  rw[e1,abf,h2];intro x hx y hy j6;have key:∀x∈pO L es,∃n:Nat,n<L.length/\x=(n:Int):=fun x hx=>by
   unfold pO at hx;obtain⟨e,hm,hx⟩:=Gd.1 hx;simp only[cD,fq,or_false] at hx;rcases hx with rfl|rfl
   .exact⟨e,he e hm,rfl⟩
   exact⟨_,hn e hm,rfl⟩
  obtain⟨a,ha,rfl⟩:=key x hx;obtain⟨b,hb,rfl⟩:=key y hy;rw[pP,pP] at j6;rw[i.inj ha hb aa]
 have e1:(iS (rK M (es.map (dT L.length r s)))).length=(iS ((rK L es).map f)).length:=T3 fun x=>by
  unfold rK;simp only[Gd,dh,cD,fq,or_false];have e1:∀x,(pA M x).l=cJ M x:=fun _=>rfl;have e2:∀x,(pA L x).l=cJ L x:=fun _=>rfl;simp only[e1,e2];constructor
  .rintro ⟨_,⟨e,hm,rfl⟩,hx⟩
   have q1:=hid e (he e hm) (eV e hm).1;have q2:=hid _ (hn e hm) (eV e hm).2;rcases i.ends (he e hm) with ⟨_,p1,p2⟩|⟨_,p1,p2⟩<;>rw[p2,p1,q1,q2] at hx<;>rcases hx with rfl|rfl
   .exact⟨_,⟨e,hm,.inl rfl⟩,rfl⟩
   .exact⟨_,⟨e,hm,.inr rfl⟩,rfl⟩
   .exact⟨_,⟨e,hm,.inr rfl⟩,rfl⟩
   exact⟨_,⟨e,hm,.inl rfl⟩,rfl⟩
  rintro ⟨_,⟨e,hm,hx⟩,rfl⟩
  have q1:=hid e (he e hm) (eV e hm).1;have q2:=hid _ (hn e hm) (eV e hm).2;refine⟨_,⟨e,hm,rfl⟩,?_⟩;rcases i.ends (he e hm) with ⟨_,p1,p2⟩|⟨_,p1,p2⟩<;>rw[p2,p1,q1,q2]<;>rcases hx with rfl|rfl
  .exact .inl rfl
  .exact .inr rfl
  .exact .inr rfl
  exact .inl rfl
 rw[e1,abf,h3];intro x hx y hy j6;have key:∀x∈rK L es,∃v,v<L.length/\(cJ L v).kind=2/\x=(cJ L v).id:=fun x hx=>by
  unfold rK at hx;obtain⟨e,hm,hx⟩:=Gd.1 hx;simp only[cD,fq,or_false] at hx;rcases hx with rfl|rfl
  .exact⟨e,he e hm,(eV e hm).1,rfl⟩
  exact⟨_,hn e hm,(eV e hm).2,rfl⟩
 obtain⟨a,ha,ka,rfl⟩:=key x hx;obtain⟨b,hb,kb,rfl⟩:=key y hy;rw[<- hid a ha ka,<- hid b hb kb] at j6;exact(i.BR ha hb ka kb).1 j6
def auF{y:Nat}(h:x≠y):∃a b,a<b/\[x,y].Perm [a,b]:=by
 by_cases c:x<y
 .exact⟨x,y,c,List.Perm.refl _⟩
 exact⟨y,x,aa,List.Perm.swap _ _ _⟩
def auG{y z:Nat}(h1:x≠y)(h2:x≠z)(h3:y≠z):∃a b c,a<b/\b<c/\[x,y,z].Perm [a,b,c]:=by
 obtain⟨a,b,ef,hp⟩:=auF h3;have mw:[x,y,z].Perm [x,a,b]:=hp.cons x;have ha:a=y\/a=z:=by have:=hp.mem_iff.2 (show a∈[a,b] by simp);simpa using this
 have hb:b=y\/b=z:=by have:=hp.mem_iff.2 (show b∈[a,b] by simp);simpa using this
 by_cases c1:x<a
 .exact⟨x,a,b,c1,ef,mw⟩
 by_cases c2:x<b
 .exact⟨a,x,b,aa,c2,mw.trans (List.Perm.swap _ _ _)⟩
 exact⟨a,b,x,ef,aa,mw.trans ((List.Perm.swap _ _ _).trans ((List.Perm.swap _ _ _).cons a))⟩
def avg{es:a_}(h3:es.length=3)(h:(iS (pO L es)).length=6):es.Pairwise (EM L):=by
 match es,h3 with
 |[a,b,c],_=>have iw:(pO L [a,b,c]).Nodup:=abg (by rw[h];rfl);have iw:(([a,nx L a,b,nx L b,c,nx L c]:a_).map fun i:Nat=>(i:Int)).Nodup:=iw;simp only[eh,lQ,qU,cD,fq,or_false,not_or,xl,and_true,not_false_eq_true] at iw;unfold EM;simp only[rM,cD,fq,or_false,false_imp_iff,implies_true,and_true,List.Pairwise.nil,forall_eq_or_imp,forall_eq];omega
def dp.k8(i:dp F L M r s t){a b c:Nat}(ef:a<b)(xH:b<c)(hc:c<L.length){X:c_}(h:tx F L a b c=some X)(vX:bQ (F:Int) (eL X)=0):∃a' b' c' Y,a'<b'/\b'<c'/\c'<M.length/\tx F M a' b' c'=some Y/\nZ (eL Y) (eL X):=by
 have hX:=TC i.g aa aa hc h;unfold tx at h;split at h
 case isFalse=>cases h
 rename_i ht;cases h;have l6:∀e∈[a,b,c],e<L.length:=fun e he=>by simp only[cD,fq,or_false] at he;rcases he with rfl|rfl|rfl<;>omega
 have ht:F6 F L [a,b,c] a=true:=ht;have ht':=i.tg l6 rfl ht;have WG:∀e∈[a,b,c].map (dT L.length r s),e<M.length:=fun e he=>by obtain⟨x,hx,rfl⟩:=dh.1 he;rw[i.len];exact i.Dc (l6 x hx)
 have ne:∀x y,x<L.length->y<L.length->x≠y->dT L.length r s x≠dT L.length r s y:=fun x y hx hy h e=>h (by rw[<- i.JB hx,<- i.JB hy,e]);obtain⟨a',b',c',h1,h2,hp⟩:=auG (ne a b aa aa aa) (ne a c aa hc aa) (ne b c aa hc aa);have hp:([a,b,c].map (dT L.length r s)).Perm [a',b',c']:=hp;have ht2:=avf WG hp rfl rfl ht';have jw:c'<M.length:=WG c' (hp.mem_iff.2 af);have hY:tx F M a' b' c'=some (fY M (pieces M) [a',b',c']):=aD ht2;refine⟨a',b',c',_,h1,h2,jw,hY,?_⟩;have cY:=TC i.g' aa aa jw hY;have jq:=fK M;have dj:([a,b,c].map (dT L.length r s)).Pairwise (EM M):=avg rfl (by unfold F6 at ht';simp only[cU,dk] at ht';exact ht'.2.1)
 have AN:=aih hp (X:=pieces M) jq WG dj;rw[<- AN] at cY |-;exact i.acW (by rw[w8,fK]) (by rw[w8,jq,i.len]) hX cY vX (i.aaT (fK L) jq i.aaS l6)
end
section
variable {F:Nat} {L M:ai} {r:Bool} {s t:Nat->Nat}
def Th(g:cX F L){m:aP}(hk:k5 m.k):ft F L m=if di F L m.k m.a m.b m.c m.l m.o m.s=true then (qk F L m.k m.a.toNat m.b.toNat m.c.toNat m.l m.o m.s).map eL else none:=by
 have hg:gZ m.k=(0,0):=by unfold k5 at hk;rcases hk with h|h|h|h|h<;>rw[h]<;>rfl
 have h1:=g.len;have h2:=g.cr;unfold ft;rw[ay g.ne,hg];split
 .cases qk F L m.k m.a.toNat m.b.toNat m.c.toNat m.l m.o m.s with
  |none=>rfl
  |some X=>dsimp only;rw[ay aa];rfl
 rfl
def IW(g:cX F L){m:aP}(hk:k5 m.k){X:ai}(h:ft F L m=some X):bQ (F:Int) X=0/\di F L m.k m.a m.b m.c m.l m.o m.s=true/\ ∃P,qk F L m.k m.a.toNat m.b.toNat m.c.toNat m.l m.o m.s=some P/\X=eL P:=by
 rw[Th g hk] at h;split at h
 case isFalse=>cases h
 rename_i hA;obtain⟨P,hP,rfl⟩:=dS.1 h;refine⟨?_,hA,P,hP,rfl⟩;rcases LS g hk m.a m.b m.c m.l m.o m.s with ⟨e,he,h1⟩|⟨M',h1,h2,h3,Q,h4,rfl⟩
 .exfalso;have hg:gZ m.k=(0,0):=by
   unfold k5 at hk;rcases hk with h|h|h|h|h<;>rw[h]<;>rfl
  have k1:=g.len;have k2:=g.cr;unfold nU at h1;rw[aD hA,hP] at h1;have e2:sP F L m.k (some P)=jy F (eL P):=ay (by rw[hg];dsimp only;omega);rw[e2] at h1;exact YA he h1
 rw[hP] at h4;cases h4;exact h2
def OA(F:Nat)(L:ai):Prop:=(∃a,a<L.length/\(ug L a).isSome=true)\/(∃a,a<L.length/\(uM L a).isSome=true)\/ ∃a b,a<b/\b<L.length/\(uS F L a b).isSome=true
def dp.pos(i:dp F L M r s t)(h:OA F L):OA F M:=by
 rcases h with ⟨a,ha,h⟩|⟨a,ha,h⟩|⟨a,b,ef,hb,h⟩
 .exact .inl ⟨_,by rw[i.len];exact i.Dc ha,i.c1 ha h⟩
 .exact .inr (.inl ⟨_,by rw[i.len];exact i.Dc ha,i.c4 ha h⟩)
 have ha:a<L.length:=aa;have c:=i.c6 ha hb (Rx.1 h);have la:dT L.length r s a<M.length:=by rw[i.len];exact i.Dc ha
 have lb:dT L.length r s b<M.length:=by rw[i.len];exact i.Dc hb
 have aI:dT L.length r s a≠dT L.length r s b:=fun e=>by
  have:a=b:=by rw[<- i.JB ha,<- i.JB hb,e]
  omega
 by_cases aw:dT L.length r s a<dT L.length r s b
 .exact .inr (.inr ⟨_,_,aw,lb,Rx.2 c⟩)
 exact .inr (.inr ⟨_,_,aa,la,Rx.2 (c.symm la lb)⟩)
abbrev mv1(k:Int)(a:Nat):aP:=⟨k,a,0,0,false,false,0⟩
abbrev mv2(k:Int)(a b:Nat):aP:=⟨k,a,b,0,false,false,0⟩
abbrev mv3(k:Int)(a b c:Nat):aP:=⟨k,a,b,c,false,false,0⟩
def IX{k a b c sg:Int}{l o:Bool}(hk:k=1\/k=4):di F L k a b c l o sg=true↔ ∃av:Nat,av<L.length/\a=av/\b=0/\c=0/\l=false/\o=false/\sg=0:=by
 unfold di;rcases hk with rfl|rfl
 all_goals
  simp only[Int.reduceEq,if_true,if_false,or_false,or_true,cU,mj,dk];constructor
  .rintro ⟨rfl,rfl,rfl,hx,rfl,rfl⟩
   obtain⟨av,rfl,ha⟩:=oF hx;exact⟨av,ha,rfl,rfl,rfl,rfl,rfl,rfl⟩
  rintro ⟨av,ha,rfl,rfl,rfl,rfl,rfl,rfl⟩
  exact⟨rfl,rfl,rfl,by unfold jK;simp;omega,rfl,rfl⟩
def IY{k a b c sg:Int}{l o:Bool}(hk:k=3\/k=6):di F L k a b c l o sg=true↔ ∃av bv:Nat,av<bv/\bv<L.length/\a=av/\b=bv/\c=0/\l=false/\o=false/\sg=0:=by
 unfold di;rcases hk with rfl|rfl
 all_goals
  simp only[Int.reduceEq,if_true,if_false,or_false,or_true,cU,mj,dk,oO];constructor
  .rintro ⟨rfl,rfl,rfl,hx,rfl,hy,aw⟩
   obtain⟨av,rfl,ha⟩:=oF hx;obtain⟨bv,rfl,hb⟩:=oF hy;exact⟨av,bv,aa,hb,rfl,rfl,rfl,rfl,rfl,rfl⟩
  rintro ⟨av,bv,ef,hb,rfl,rfl,rfl,rfl,rfl,rfl⟩
  exact⟨rfl,rfl,rfl,by unfold jK;simp;omega,rfl,by unfold jK;simp;omega,aa⟩
def Tm{a b c sg:Int}{l o:Bool}:di F L 8 a b c l o sg=true↔ ∃av bv cv:Nat,av<bv/\bv<cv/\cv<L.length/\a=av/\b=bv/\c=cv/\l=false/\o=false/\sg=0:=by
 unfold di;simp only[Int.reduceEq,if_true,if_false,or_self,cU,mj,dk,oO];constructor
 .rintro ⟨rfl,rfl,rfl,hx,hy,hz,h1,h2⟩
  obtain⟨av,rfl,ha⟩:=oF hx;obtain⟨bv,rfl,hb⟩:=oF hy;obtain⟨cv,rfl,hc⟩:=oF hz;exact⟨av,bv,cv,aa,aa,hc,rfl,rfl,rfl,rfl,rfl,rfl⟩
 rintro ⟨av,bv,cv,ef,xH,hc,rfl,rfl,rfl,rfl,rfl,rfl⟩
 exact⟨rfl,rfl,rfl,by unfold jK;simp;omega,by unfold jK;simp;omega,by unfold jK;simp;omega,aa,aa⟩
def ag3(g:cX F L):OA F L↔ ∃m X,(m.k=1\/m.k=4\/m.k=6)/\ft F L m=some X:=by
 have mk:∀(m:aP) (P:c_),k5 m.k->di F L m.k m.a m.b m.c m.l m.o m.s=true->qk F L m.k m.a.toNat m.b.toNat m.c.toNat m.l m.o m.s=some P->ft F L m=some (eL P):=fun m P hk hA hP=>by rw[Th g hk,aD hA,hP];rfl
 constructor
 .rintro (⟨a,ha,h⟩|⟨a,ha,h⟩|⟨a,b,ef,hb,h⟩)<;>obtain⟨P,hP⟩:=Option.isSome_iff_exists.1 h
  .exact⟨mv1 1 a,_,.inl rfl,mk (mv1 1 a) P (.inl rfl) ((IX (.inl rfl)).2 ⟨a,ha,rfl,rfl,rfl,rfl,rfl,rfl⟩) hP⟩
  .exact⟨mv1 4 a,_,.inr (.inl rfl),mk (mv1 4 a) P (.inr (.inr (.inl rfl))) ((IX (.inr rfl)).2 ⟨a,ha,rfl,rfl,rfl,rfl,rfl,rfl⟩) hP⟩
  exact⟨mv2 6 a b,_,.inr (.inr rfl),mk (mv2 6 a b) P (.inr (.inr (.inr (.inl rfl)))) ((IY (.inr rfl)).2 ⟨a,b,ef,hb,rfl,rfl,rfl,rfl,rfl,rfl⟩) hP⟩
 rintro ⟨⟨k,a,b,c,l,o,sg⟩,X,hk,h⟩
 have hk:k=1\/k=4\/k=6:=hk;obtain⟨_,hA,P,hP,_⟩:=IW g (show k5 k by unfold k5;omega) h;simp only at hA hP;rcases hk with rfl|rfl|rfl
 .obtain⟨av,ha,rfl,rfl,rfl,rfl,rfl,rfl⟩:=(IX (.inl rfl)).1 hA;have hP:ug L av=some P:=hP;exact .inl ⟨av,ha,by rw[hP];rfl⟩
 .obtain⟨av,ha,rfl,rfl,rfl,rfl,rfl,rfl⟩:=(IX (.inr rfl)).1 hA;have hP:uM L av=some P:=hP;exact .inr (.inl ⟨av,ha,by rw[hP];rfl⟩)
 obtain⟨av,bv,ef,hb,rfl,rfl,rfl,rfl,rfl,rfl⟩:=(IY (.inr rfl)).1 hA;have hP:uS F L av bv=some P:=hP;exact .inr (.inr ⟨av,bv,ef,hb,by rw[hP];rfl⟩)
def dp.lvl(i:dp F L M r s t){m:aP}{X:ai}(hk:m.k=3\/m.k=8)(h:ft F L m=some X):∃m' Y,m'.k=m.k/\ft F M m'=some Y/\nZ Y X:=by
 obtain⟨k,a,b,c,l,o,sg⟩:=m;have hk:k=3\/k=8:=hk;obtain⟨hX,hA,P,hP,rfl⟩:=IW i.g (show k5 k by unfold k5;omega) h;simp only at hA hP;have mk:∀(m:aP) (P:c_),k5 m.k->di F M m.k m.a m.b m.c m.l m.o m.s=true->qk F M m.k m.a.toNat m.b.toNat m.c.toNat m.l m.o m.s=some P->ft F M m=some (eL P):=fun m P hk hA hP=>by rw[Th i.g' hk,aD hA,hP];rfl
 rcases hk with rfl|rfl
 .obtain⟨av,bv,ef,hb,rfl,rfl,rfl,rfl,rfl,rfl⟩:=(IY (.inl rfl)).1 hA;obtain⟨a',b',Y,h1,h2,h3,h4⟩:=i.k3 ef hb hP hX;exact⟨mv2 3 a' b',_,rfl,mk (mv2 3 a' b') Y (.inr (.inl rfl)) ((IY (.inl rfl)).2 ⟨a',b',h1,h2,rfl,rfl,rfl,rfl,rfl,rfl⟩) h3,h4⟩
 obtain⟨av,bv,cv,ef,xH,hc,rfl,rfl,rfl,rfl,rfl,rfl⟩:=Tm.1 hA;obtain⟨a',b',c',Y,h1,h2,h3,h4,h5⟩:=i.k8 ef xH hc hP hX;exact⟨mv3 8 a' b' c',_,rfl,mk (mv3 8 a' b' c') Y (.inr (.inr (.inr (.inr rfl)))) (Tm.2 ⟨a',b',c',h1,h2,h3,rfl,rfl,rfl,rfl,rfl,rfl⟩) h4,h5⟩
end
def atr{F:Nat}{A B:ai}(gA:cX F A)(gB:cX F B)(h:cN A=cN B)(hp:OA F A):OA F B:=by obtain⟨r,s,t,i⟩:=gA.iso gA.vK.2.1;obtain⟨r',s',t',j⟩:=gB.iso gB.vK.2.1;rw[h] at i;exact j.symm.pos (i.pos hp)
def atq{F:Nat}{A B:ai}(gA:cX F A)(gB:cX F B)(h:cN A=cN B){m:aP}{X:ai}(hk:m.k=3\/m.k=8)(hm:ft F A m=some X):∃m' Y,m'.k=m.k/\ft F B m'=some Y/\nZ Y X:=by obtain⟨r,s,t,i⟩:=gA.iso gA.vK.2.1;obtain⟨r',s',t',j⟩:=gB.iso gB.vK.2.1;rw[h] at i;obtain⟨m1,Y1,k1,h1,e1⟩:=i.lvl hk hm;obtain⟨m2,Y2,k2,h2,e2⟩:=j.symm.lvl (by rw[k1];exact hk) h1;exact⟨m2,Y2,k2.trans k1,h2,e2.trans e1⟩
end
end Go.Abs
