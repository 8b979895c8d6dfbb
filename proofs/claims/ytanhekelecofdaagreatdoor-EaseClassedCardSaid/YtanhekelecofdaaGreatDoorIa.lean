/-
  Codes with the same normal form have the same moves.
-/
import Derived.Test.YtanhekelecofdaaGreatDoorRd
set_option linter.all false
set_option maxRecDepth 100000
set_option maxHeartbeats 16000000
namespace Go.Abs
section
variable{x:Nat}
structure dw (F:Nat) (L M:ai) (r:Bool) (s t:Nat->Nat):Prop where
 g:cE F L
 g':cE F M
 len:M.length=L.length
 lt:∀v,v<L.length->s v<L.length
 Cp:∀v,v<L.length->t v<L.length
 st:∀v,v<L.length->s (t v)=v
 ts:∀v,v<L.length->t (s v)=v
 step:∀v,v<L.length->if r=true then nx L (s (nx L v))=s v else s (nx L v)=nx L (s v)
 at_:∀v l,L[v]?=some l->∃m,M[s v]?=some m/\m.kind=l.kind/\m.gate=l.gate/\m.aA=l.aA/\m.sign=l.sign/\m.over=l.over
 ids:∀u v l m l' m',L[u]?=some l->L[v]?=some m->M[s u]?=some l'->M[s v]?=some m'->l.aD=true->m.aD=true->(l'.id=m'.id↔l.id=m.id)
 dwn:∀v l,L[v]?=some l->l.aF=true->dn M (s v)=(dn L v !=r)
 cn:∀p:Let->Bool,(∀l m:Let,m.kind=l.kind->m.gate=l.gate->p m=p l)->aq p M=aq p L
def Zc{n a b:Nat}(ha:a<n)(hb:b<n)(h:(a+1)%n=(b+1)%n):a=b:=by rw[<- vI ha,<- vI hb,h]
section
variable {F:Nat} {L M:ai} {r:Bool} {s t:Nat->Nat}
def dw.symm(i:dw F L M r s t):dw F M L r t s where
 g:=i.g'
 g':=i.g
 len:=i.len.symm
 lt v hv:=by rw[i.len] at hv |-;exact i.Cp v hv
 Cp v hv:=by rw[i.len] at hv |-;exact i.lt v hv
 st v hv:=i.ts v (by rw[<- i.len];exact hv)
 ts v hv:=i.st v (by rw[<- i.len];exact hv)
 step v hv:=by
  rw[i.len] at hv;have hn:(v+1)%L.length<L.length:=dk _ aa;have e:∀u,nx M u=nx L u:=fun u=>by show(u+1)%M.length=(u+1)%L.length;rw[i.len]
  rw[e];cases r with
  |true=>rw[aG rfl,e];have hu:=i.Cp _ hn;have h:=i.step (t (nx L v)) hu;rw[aG rfl,i.st _ hn] at h;have ym:nx L (t (nx L v))<L.length:=dk _ aa;have h2:=Zc (i.lt _ ym) hv h;rw[<- h2,i.ts _ ym,h2]
  |false=>rw[aC ae,e];have h:=i.step (t v) (i.Cp v hv);rw[aC ae,i.st v hv] at h;have ym:nx L (t v)<L.length:=dk _ aa;have h3:=i.ts _ ym;rw[h] at h3;exact h3.trans (e _).symm
 at_ v m h:=by have hv:=(aW.1 h).1;rw[i.len] at hv;obtain⟨l,hl⟩:=aN (i.Cp v hv);obtain⟨m',hm,h1,h2,h3,h4,h5⟩:=i.at_ _ _ hl;rw[i.st v hv,h] at hm;cases hm;exact⟨l,hl,h1.symm,h2.symm,h3.symm,h4.symm,h5.symm⟩
 ids u v l m l' m' hl hm jV iS cl cm:=by
  have hu:=(aW.1 hl).1;have hv:=(aW.1 hm).1;rw[i.len] at hu hv;have k:∀(u:Nat) (l l':Let),u<L.length->M[u]?=some l->L[t u]?=some l'->l.aD=true->l'.aD=true:=fun u l l' hu hl jV cl=>by obtain⟨x,hx,h1,_⟩:=i.at_ _ _ jV;rw[i.st u hu,hl] at hx;cases hx;unfold Let.aD at cl |-;rw[<- h1];exact cl
  have:=i.ids _ _ _ _ l m jV iS (by rw[i.st u hu];exact hl) (by rw[i.st v hv];exact hm) (k u l l' hu hl jV cl) (k v m m' hv hm iS cm);exact this.symm
 dwn v m h hp:=by
  have hv:=(aW.1 h).1;rw[i.len] at hv;obtain⟨l,hl⟩:=aN (i.Cp v hv);obtain⟨x,hx,h1,_⟩:=i.at_ _ _ hl;rw[i.st v hv,h] at hx;cases hx;have bd:l.aF=true:=by unfold Let.aF at hp |-;rw[<- h1];exact hp
  have:=i.dwn _ _ hl bd;rw[i.st v hv] at this;rw[this];cases dn L (t v)<;>cases r<;>rfl
 cn p hp:=(i.cn p hp).symm
def dw.aF(i:dw F L M r s t){v:Nat}{l m:Let}(hl:L[v]?=some l)(hm:M[s v]?=some m):m.aF=l.aF/\m.aD=l.aD/\gX m=gX l/\m.gate=l.gate/\m.aA=l.aA/\m.kind=l.kind/\m.over=l.over/\m.sign=l.sign:=by
 obtain⟨x,hx,h1,h2,h3,h4,h5⟩:=i.at_ v l hl;rw[hm] at hx;cases hx;refine⟨?_,?_,?_,h2,h3,h1,h5,h4⟩
 .unfold Let.aF;rw[h1]
 .unfold Let.aD;rw[h1]
 unfold gX;rw[h4,h5]
def dw.pl(i:dw F L M r s t){v:Nat}{l m:Let}(hl:L[v]?=some l)(hm:M[s v]?=some m):dD M m=dD L l:=by
 obtain⟨_,_,_,h2,h3,_⟩:=i.aF hl hm;have h:∀g,fp M g=fp L g:=fun g=>by unfold fp;congr 1;refine Ai fun q _=>i.cn _ fun l m h1 h2=>?_;unfold mD Let.aF;rw[h1,h2]
 unfold dD;rw[h,h2,h3]
def dw.axl(i:dw F L M r s t):(aI M).length=(aI L).length:=by rw[Db,Db];exact i.cn _ fun l m h1 _=>by unfold Let.aF;rw[h1]
def dw.idx(i:dw F L M r s t){v:Nat}{l:Let}(hl:L[v]?=some l)(hp:l.aF=true):(aI M).idxOf (s v)=(aI L).idxOf v:=by obtain⟨m,hm,_⟩:=i.at_ v l hl;have kZ:m.aF=true:=(i.aF hl hm).1.trans hp;rw[EX i.g.ok.ax hl hp,EX i.g'.ok.ax hm kZ,i.pl hl hm]
def dw.ax(i:dw F L M r s t){k:Nat}(hk:k<(aI L).length):(aI M).getD k 0=s ((aI L).getD k 0):=by obtain⟨v,hv⟩:=aN hk;obtain⟨l,hl,hp,bd⟩:=BA i.g.ok.ax hv;obtain⟨m,hm,_⟩:=i.at_ v l hl;have kZ:m.aF=true:=(i.aF hl hm).1.trans hp;have:=Je i.g'.ok.ax hm kZ;rw[i.pl hl hm,bd] at this;rw[dK,dK,this,hv];rfl
def dw.nDe(i:dw F L M r s t):nD M=nD L:=by show 2*M.length+2*(aI M).length=_;rw[i.len,i.axl]
def dw.other(i:dw F L M r s t){v:Nat}{l:Let}(hl:L[v]?=some l)(hc:l.aD=true):fQ M (s v)=s (fQ L v):=by have hv:=(aW.1 hl).1;have ho:=Lc i.g.ok hl hc;obtain⟨m,hm⟩:=aN ho;obtain⟨hx,cm,em⟩:=BK i.g.ok hl hc hm rfl;obtain⟨l',jV,_⟩:=i.at_ v l hl;obtain⟨m',iS,_⟩:=i.at_ _ m hm;refine F9 i.g' jV iS ((i.aF hl jV).2.1.trans hc) ((i.aF hm iS).2.1.trans cm) ((i.ids _ _ _ _ _ _ hl hm jV iS hc cm).2 em.symm) fun e=>?_;have:v=fQ L v:=(i.ts v hv).symm.trans ((congrArg t e).trans (i.ts _ ho));rw[<- this,hl] at hm;cases hm;cases h:gX l<;>rw[h] at hx<;>cases hx
def jS(n:Nat)(r:Bool)(s:Nat->Nat)(d:Nat):Nat:=if d<2*n then fZ n (s (oH n d)) (ba d !=r) else d
def aqO{n v:Nat}{f:Bool}(hv:v<n):oH n (fZ n v f)=v/\ba (fZ n v f)=f:=by
 unfold oH ba fZ;cases f with
 |true=>simp only[if_true];rw[aG aa,show 2*((v+n-1)%n)/2=(v+n-1)%n by omega,vH hv];exact⟨rfl,af⟩
 |false=>simp only[dR,if_false];rw[aC aa];exact⟨aa,af⟩
def GU{n v:Nat}{f:Bool}(hv:v<n):jS n r s (fZ n v f)=fZ n (s v) (f !=r):=by obtain⟨h1,h2⟩:=aqO (f:=f) hv;unfold jS;rw[aG (xM hv f),h1,h2]
def dw.along(i:dw F L M r s t){v:Nat}(hv:v<L.length)(f:Bool):jS L.length r s (dB L.length v f)=dB L.length (s v) (f !=r):=by
 have hb:(v+L.length-1)%L.length<L.length:=dk _ aa;have hf:(v+1)%L.length<L.length:=dk _ aa;have key:∀(v:Nat),v<L.length->fZ L.length v false=dB L.length ((v+1)%L.length) false:=fun v hv=>by unfold fZ dB;simp only[dR,if_false];rw[vI hv]
 have KO:∀(v:Nat),v<L.length->fZ L.length ((v+1)%L.length) true=dB L.length v true:=fun v hv=>by unfold fZ dB;simp only[if_true];rw[vI hv]
 cases f with
 |true=>
  rw[<- KO v hv,GU hf];have h:=i.step v hv;have hs:=i.lt _ hf;cases r with
  |false=>rw[aC ae] at h;have h:s ((v+1)%L.length)=(s v+1)%L.length:=h;rw[h];exact KO _ (i.lt v hv)
  |true=>rw[aG rfl] at h;have h:(s ((v+1)%L.length)+1)%L.length=s v:=h;rw[<- h];exact key _ hs
 |false=>
  obtain⟨u,hu,rfl⟩:∃u,u<L.length/\v=(u+1)%L.length:=⟨(v+L.length-1)%L.length,hb,(vH hv).symm⟩;rw[<- key u hu,GU hu];have h:=i.step u hu;cases r with
  |false=>rw[aC ae] at h;have h:s ((u+1)%L.length)=(s u+1)%L.length:=h;rw[h];exact key _ (i.lt u hu)
  |true=>rw[aG rfl] at h;have h:(s ((u+1)%L.length)+1)%L.length=s u:=h;rw[<- h];exact KO _ (i.lt _ hv)
def dw.Qt(i:dw F L M r s t){d:Nat}(hd:d<2*L.length):jS L.length r s d<2*L.length:=by rw[Dq hd,GU (yD i.g hd)];exact xM (i.lt _ (yD i.g hd)) _
def Fh{n d:Nat}(hd:2*n<=d):jS n r s d=d:=aC aa
def dw.WW(i:dw F L M r s t){d:Nat}(hd:d<nD L):jS L.length r s d<nD L:=by
 by_cases h:d<2*L.length
 .have:=i.Qt h;show _<2*L.length+2*(aI L).length;omega
 rw[Fh aa];exact hd
def dw.Fi(i:dw F L M r s t)(d:Nat):jS L.length r t (jS L.length r s d)=d:=by
 by_cases h:d<2*L.length
 .have hh:=yD i.g h
  conv=>lhs;rw[Dq h]
  rw[GU hh,GU (i.lt _ hh),i.ts _ hh]
  conv=>rhs;rw[Dq h]
  congr 1;cases ba d<;>cases r<;>rfl
 rw[Fh (s:=s) aa,Fh aa]
def dw.next(i:dw F L M r s t){d:Nat}(hd:d<nD L):aQ M (jS L.length r s d)=jS L.length r s (aQ L d):=by
 have hd:d<2*L.length+2*(aI L).length:=hd;by_cases h:d<2*L.length
 .have hh:=yD i.g h;obtain⟨l,hl⟩:=aN hh;obtain⟨m,hm,_⟩:=i.at_ _ _ hl;obtain⟨k1,k2,k3,_⟩:=i.aF hl hm;have e:=Dq h;generalize oH L.length d=v at*;generalize ba d=f at*;subst e;rw[GU hh]
  conv=>lhs;rw[<- i.len]
  rcases wg (i.g.bad l (aZ hl)) with hp|hc
  .rw[Gf hl hp,Gf hm (k1.trans hp),i.dwn _ _ hl hp,i.idx hl hp,i.axl,i.len];have eb:((dn L v !=r)==(f !=r))=(dn L v==f):=by cases dn L v<;>cases r<;>cases f<;>rfl
   rw[eb];split
   .rw[Fh aa]
   rw[Fh aa]
  rw[yK hl hc,yK hm (k2.trans hc),i.other hl hc,i.len,i.along (Lc i.g.ok hl hc)];have e3:(m.over==(m.sign==1))=(l.over==(l.sign==1)):=k3;rw[e3];congr 1;cases f<;>cases r<;>cases (l.over==(l.sign==1))<;>rfl
 rw[Fh aa];have hm:0<(aI L).length:=aa;rcases u9 (d-2*L.length) with hq|hq
 .obtain⟨k,hk,rfl⟩:∃k,k<(aI L).length/\d=2*L.length+2*k:=⟨(d-2*L.length)/2,aa,aa⟩;have dp:(k+1)%(aI L).length<(aI L).length:=dk _ hm;rw[EA]
  conv=>lhs;rw[<- i.len,EA,i.axl,i.len,i.ax dp]
  obtain⟨u,l,_,du,hl,hp,_⟩:=Mk i.g.ok dp;rw[du,i.along (aW.1 hl).1,i.dwn _ _ hl hp];congr 1;cases dn L u<;>cases r<;>rfl
 obtain⟨k,hk,rfl⟩:∃k,k<(aI L).length/\d=2*L.length+2*k+1:=⟨(d-2*L.length)/2,aa,aa⟩;rw[Ez]
 conv=>lhs;rw[<- i.len,Ez,i.len,i.ax hk]
 obtain⟨u,l,_,du,hl,hp,_⟩:=Mk i.g.ok hk;rw[du,i.along (aW.1 hl).1,i.dwn _ _ hl hp]
end
section
variable {F:Nat} {L M:ai} {r:Bool} {s t:Nat->Nat}
def VC(g:cE F L){w:a_}(hw:w∈gO (aQ L) (nD L)):w.Nodup/\(∀y∈w,y<nD L)/\ ∃d,d∈w:=by obtain⟨⟨d,t,h1,_⟩,_,h3⟩:=aiI (aQ L) (nD L) (nD L) w hw;exact⟨List.Pairwise.sublist (List.sublist_flatten_of_mem hw) (CN (aQ L) (nD L)).1,h3,d,by rw[h1];simp⟩
def Z6(hx:x<nD L):∃w,w∈gO (aQ L) (nD L)/\x∈w:=by obtain⟨w,h1,h2⟩:=Gm.1 ((CN (aQ L) (nD L)).2 x hx);exact⟨w,h1,h2⟩
def avq{w u:a_}(hw:w∈gO (aQ L) (nD L))(hu:u∈gO (aQ L) (nD L))(h1:x∈w)(h2:x∈u):w=u:=by obtain⟨i,hi⟩:=ia hw;obtain⟨j,hj⟩:=ia hu;have:=Y0 (CN (aQ L) (nD L)).1 hi hj h1 h2;subst this;rw[hi] at hj;cases hj;rfl
def aiH(g:cE F L){w:a_}(hw:w∈gO (aQ L) (nD L))(hx:x<nD L):aQ L x∈w↔x∈w:=by refine⟨fun h=>?_,fun h=>yL (maps g.ok) hw h⟩;obtain⟨u,hu,HN⟩:=Z6 hx;have:=avq hw hu h (yL (maps g.ok) hu HN);rw[this];exact HN
def dw.walk(i:dw F L M r s t){w:a_}(hw:w∈gO (aQ L) (nD L)):∃w',w'∈gO (aQ M) (nD M)/\(w.map (jS L.length r s)).Perm w':=by
 obtain⟨hn,aB,d,hd⟩:=VC i.g hw;have pR:=i.nDe;obtain⟨w',FU,hdw⟩:=Z6 (L:=M) (x:=jS L.length r s d) (by rw[pR];exact i.WW (aB d hd));obtain⟨BX,aP,_⟩:=VC i.g' FU;refine⟨w',FU,(VL ?_ BX).2 fun z=>?_⟩
 .exact List.Pairwise.map (S:=(· ≠ ·)) _ (fun x y h e=>h (by rw[<- i.Fi x,<- i.Fi y,e])) hn
 rw[cV];constructor
 .rintro ⟨y,hy,rfl⟩
  exact(VB i.g hw (Q:=fun y=>jS L.length r s y∈w') (fun x hx=>by show jS L.length r s (aQ L x)∈w'↔_;rw[<- i.next hx];exact aiH i.g' FU (by rw[pR];exact i.WW hx)) hd hy).1 hdw
 intro hz;have h2:=i.symm.Fi z;rw[i.len] at h2;refine⟨jS L.length r t z,?_,h2⟩;have:=(VB i.g' FU (Q:=fun z=>jS L.length r t z∈w) (fun x hx=>by show jS L.length r t (aQ M x)∈w↔_;have h3:=i.symm.next hx;rw[i.len] at h3;rw[<- h3];have h4:=i.symm.WW hx;rw[i.len,pR] at h4;exact aiH i.g hw h4) hdw hz).1 (by show jS L.length r t (jS L.length r s d)∈w;rw[i.Fi];exact hd)
 exact this
def u4(F:Nat)(L:ai)(x:Nat):Nat:=if x<2*L.length then 0 else (qX F L ((x-2*L.length)/2)).length
def acF(F:Nat)(L:ai)(w:a_):(mf F L w).places.length=(w.map (u4 F L)).sum:=by
 have key:∀(w:a_) (f:Fc),(w.foldl (Fc.add F L) f).places.length=f.places.length+(w.map (u4 F L)).sum:=by
  intro w
  induction w with
  |nil=>intro f;rfl
  |cons x w ih=>
   intro f;rw[Bt,ih,eD,List.sum_cons];have h3:(Fc.add F L f x).places.length=f.places.length+u4 F L x:=by
    unfold Fc.add u4;split
    .rfl
    simp only[gJ];split
    .rfl
    rw[mT]
   omega
 have:=key w (Fc.new L (w.headD 0));exact this.trans (jr _)
def dw.piece(i:dw F L M r s t){k:Nat}(hk:k<(aI L).length):qX F M k=qX F L k:=by
 have dp:(k+1)%(aI L).length<(aI L).length:=dk _ aa;have key:∀j,j<(aI L).length->gN M ((aI M).getD j 0)=gN L ((aI L).getD j 0)/\rN M ((aI M).getD j 0)=rN L ((aI L).getD j 0):=fun j hj=>by obtain⟨u,l,_,du,hl,hp,_⟩:=Mk i.g.ok hj;obtain⟨m,hm,_⟩:=i.at_ u l hl;obtain⟨_,_,_,h1,h2,_⟩:=i.aF hl hm;rw[i.ax hj,du,AQ hl,AQ hm,Zr hl,Zr hm,h1,h2];exact⟨rfl,rfl⟩
 unfold qX;simp only[i.axl];rw[(key k hk).1,(key k hk).2,(key _ dp).1]
def dw.ab5(i:dw F L M r s t):jS L.length r s x<2*L.length↔x<2*L.length:=by
 refine⟨fun h=>?_,fun h=>i.Qt h⟩;by_cases hx:x<2*L.length
 .exact hx
 rw[Fh aa] at h;omega
def dw.wt(i:dw F L M r s t)(hx:x<nD L):u4 F M (jS L.length r s x)=u4 F L x:=by
 unfold u4;rw[i.len];by_cases h:x<2*L.length
 .rw[aG h,aG (i.Qt h)]
 rw[Fh aa,aC h,aC h,i.piece (by have:x<2*L.length+2*(aI L).length:=hx;omega)]
def eJ(n:Nat)(r:Bool)(s:Nat->Nat)(e:Nat):Nat:=jS n r s (2*e)/2
def dw.Qv(i:dw F L M r s t){e:Nat}(he:e<L.length):(jS L.length r s (2*e)=2*eJ L.length r s e/\jS L.length r s (2*e+1)=2*eJ L.length r s e+1)\/(jS L.length r s (2*e)=2*eJ L.length r s e+1/\jS L.length r s (2*e+1)=2*eJ L.length r s e):=by
 have e1:2*e=dB L.length e true:=rfl;have e2:2*e+1=fZ L.length e false:=rfl;have h1:=i.along he true;have h2:=GU (r:=r) (s:=s) (f:=false) he;rw[<- e1] at h1;rw[<- e2] at h2;unfold eJ;have h3:jS L.length r s (2*e+1)=rv (jS L.length r s (2*e)):=by rw[h1,h2,zV];cases r<;>rfl
 rw[h3];unfold rv;split<;>omega
def dw.MR(i:dw F L M r s t){e:Nat}(he:e<L.length):eJ L.length r s e<L.length:=by have:=i.Qt (d:=2*e) aa;unfold eJ;omega
def dw.QB(i:dw F L M r s t){e:Nat}(he:e<L.length):eJ L.length r t (eJ L.length r s e)=e:=by
 have h0:=i.Fi (2*e);have h1:=i.Fi (2*e+1);have h2:∀x,jS L.length r t (2*eJ L.length r s e)=x->eJ L.length r t (eJ L.length r s e)=x/2:=fun x h=>by show jS L.length r t (2*eJ L.length r s e)/2=_;rw[h]
 rcases i.Qv he with ⟨k1,k2⟩|⟨k1,k2⟩
 .rw[k1] at h0;rw[h2 _ h0];omega
 rw[k2] at h1;rw[h2 _ h1];omega
def dw.only(i:dw F L M r s t){pl:Nat}{edges:a_}(he:∀e∈edges,e<L.length)(h:vM F L pl edges=true):vM F M pl (edges.map (eJ L.length r s))=true:=by
 unfold vM at h |-;rw[u5] at h |-;obtain⟨f,hf,h⟩:=h;obtain⟨w,hw,rfl⟩:=cV.1 hf;obtain⟨w',FU,hp⟩:=i.walk hw;obtain⟨_,aB,_⟩:=VC i.g hw;refine⟨mf F M w',cV.2 ⟨w',FU,rfl⟩,?_⟩;unfold Ik at h |-;simp only[cJ,dh,gj] at h |-;obtain⟨h1,h2,h3⟩:=h;rw[BG] at h1 |-;rw[acF] at h2 |-;rw[cU];have hm:∀x,x∈w↔jS L.length r s x∈w':=fun x=>by
  rw[<- hp.mem_iff,cV];refine⟨fun h=>⟨x,h,rfl⟩,?_⟩;rintro ⟨y,hy,e⟩
  rw[<- i.Fi x,<- e,i.Fi];exact hy
 refine⟨?_,?_,fun e' DF=>?_⟩
 .rw[<- h1,<- (hp.filter _).length_eq,List.filter_map,cU];congr 1;refine List.filter_congr fun x _=>?_;rw[Function.comp_apply,i.len];exact decide_eq_decide.2 i.ab5
 .rw[<- h2,<- (hp.map _).sum_nat,uu];congr 1;exact Ai fun x hx=>i.wt (aB x hx)
 obtain⟨e,hem,rfl⟩:=cV.1 DF;have h4:=h3 e hem;have dy:=he e hem;rw[BG] at h4;have q:∀d,d<2*L.length->(d∈w.filter (fun x=>decide (x<2*L.length))↔jS L.length r s d∈w'.filter (fun x=>decide (x<2*M.length))):=fun d hd=>by rw[uv,uv,l9,l9,i.len,i.ab5,hm]
 have q0:=q (2*e) aa;have q1:=q (2*e+1) aa;rcases i.Qv dy with ⟨k1,k2⟩|⟨k1,k2⟩
 .rw[k1] at q0;rw[k2] at q1;rw[decide_eq_decide.2 q0,decide_eq_decide.2 q1] at h4;exact h4
 rw[k1] at q0;rw[k2] at q1;rw[decide_eq_decide.2 q0,decide_eq_decide.2 q1] at h4;revert h4;generalize decide (2*eJ L.length r s e∈List.filter (fun x=>decide (x<2*M.length)) w')=a;generalize decide (2*eJ L.length r s e+1∈List.filter (fun x=>decide (x<2*M.length)) w')=b;cases a<;>cases b<;>decide
def Lb{pl:Nat}{e1 e2:a_}(h:e1.Perm e2):vM F L pl e1=vM F L pl e2:=by unfold vM;congr 1;funext f;unfold Ik;rw[h.length_eq];congr 2;rw[EG,gj,gj];exact⟨fun k e he=>k e (h.mem_iff.2 he),fun k e he=>k e (h.mem_iff.1 he)⟩
def dw.WG(i:dw F L M r s t){pl:Nat}{edges:a_}{e0:Nat}(he:∀e∈edges,e<L.length)(h0:edges[0]?=some e0)(h:kQ F L pl edges e0=true){im:a_}{GW:Nat}(hp:(edges.map (eJ L.length r s)).Perm im)(Nz:im[0]?=some GW):kQ F M pl im GW=true:=by have hm:GW∈edges.map (eJ L.length r s):=hp.mem_iff.2 (aZ Nz);obtain⟨e,dy,rfl⟩:=cV.1 hm;rw[BC h0 (he _ (aZ h0))] at h;rw[BC Nz (by rw[i.len];exact i.MR (he e dy)),<- Lb hp];exact i.only he h
end
def Bf{n a:Nat}(h:a<2*n):a%n=if a<n then a else a-n:=by
 split
 .rename_i h1;exact fX h1
 rename_i h1;rw[Nat.mod_eq_sub_mod aa,fX aa]
def Lt{l:ai}{i k:Nat}(hi:i<l.length)(hk:k<l.length):(eU l i)[k]?=l[(i+k)%l.length]? :=U2 hi hk
def alb(q:Let->Bool)(l:ai)(i k:Nat)(hi:i<=l.length)(hk:k<=l.length):aq q ((eU l i).take k)+aq q (l.take i)=if i+k<=l.length then aq q (l.take (i+k)) else aq q l+aq q (l.take (i+k-l.length)):=by
 have hd:(l.drop i).length=l.length-i:=lD;unfold eU;split
 .rename_i h;rw[PK aa,Nat.add_comm,<- xO,<- List.take_add]
 rename_i h;rw[L8,gT aa,hd,xO,Gp,Aj aa,show k-(l.length-i)=i+k-l.length by omega];have:aq q l=aq q (l.take i)+aq q (l.drop i):=by rw[<- xO,mU]
 omega
def aca{l:ai}{i v:Nat}(he:aq Let.aF l%2=0)(hp:par l i)(hi:i<l.length)(hv:v<l.length):dn (eU l i) ((v+l.length-i)%l.length)=dn l v:=by
 have h1:=alb Let.aF l i ((v+l.length-i)%l.length) aa (Nat.le_of_lt (dk _ aa));have hp:aq Let.aF (l.take i)%2=0:=hp;have h2:=Bf (n:=l.length) (a:=v+l.length-i) aa;have key:aq Let.aF ((eU l i).take ((v+l.length-i)%l.length))%2=aq Let.aF (l.take v)%2:=by
  rw[h2] at h1 |-;by_cases qP:v<i
  .rw[aG aa] at h1 |-;by_cases h0:v=0
   .subst h0;rw[aG aa,show i+(0+l.length-i)=l.length by omega,lR] at h1;have e0:aq Let.aF (l.take 0)=0:=rfl;rw[e0];omega
   rw[aC aa,show i+(v+l.length-i)-l.length=v by omega] at h1;omega
  rw[aC aa] at h1 |-;rw[aG aa,show i+(v+l.length-i-l.length)=v by omega] at h1;omega
 unfold dn;rw[key]
def ab9{l:ai}{v:Nat}{x:Let}(he:aq Let.aF l%2=0)(hx:l[v]?=some x)(hp:x.aF=true):dn l.reverse (l.length-1-v)= !dn l v:=by
 have hv:=(aW.1 hx).1;have h1:aq Let.aF (l.reverse.take (l.length-1-v))=aq Let.aF (l.drop (v+1)):=by rw[List.take_reverse,vj,show l.length-(l.length-1-v)=v+1 by omega]
 have h2:aq Let.aF l=aq Let.aF (l.take (v+1))+aq Let.aF (l.drop (v+1)):=by rw[<- xO,mU]
 have h3:=sQ hx hp;unfold dn;rw[h1];rcases u9 (aq Let.aF (l.take v)) with h|h
 .rw[h,show aq Let.aF (l.drop (v+1))%2=1 by omega];rfl
 rw[h,show aq Let.aF (l.drop (v+1))%2=0 by omega];rfl
def ab8{f:Int->Int}(l:ai)(v:Nat):dn (l.map (eo f)) v=dn l v:=by unfold dn;rw[<- Gk,Ql]
def abu{f:Int->Int}{p:Let->Bool}(hp:∀l m:Let,m.kind=l.kind->m.gate=l.gate->p m=p l)(l:ai):aq p (l.map (eo f))=aq p l:=by show List.countP _ _=List.countP _ _;rw[vZ];refine IH fun x _=>?_;rw[Function.comp_apply,hp x (eo f x) (V9 f x) (by unfold eo;split<;>rfl)]
def Mf(f:Int->Int)(x:Let):(eo f x).kind=x.kind/\(eo f x).gate=x.gate/\(eo f x).aA=x.aA/\(eo f x).sign=x.sign/\(eo f x).over=x.over/\(x.aD=true->(eo f x).id=f x.id):=by
 unfold eo Let.aD;split
 .exact⟨rfl,rfl,rfl,rfl,rfl,fun _=>rfl⟩
 rename_i h;exact⟨rfl,rfl,rfl,rfl,rfl,fun h2=>absurd h2 h⟩
section
variable {F:Nat} {L:ai}
def cE.iso(g:cE F L){y:ai}(h:xS L y):∃r s t,dw F L y r s t:=by
 have hy:=g.form h;have hn:0<L.length:=jQ.2 g.ne;have gy:y.length=L.length->cE F y:=fun e=>by obtain⟨G,e1,g'⟩:=pM hy (by intro h;rw[h] at e;simp at e;omega);have:F=G:=aa;subst this;exact g'
 have idk:∀(f:Int->Int) (X:ai),inj f X->(∀x∈L,x∈X)->∀(u v:Nat) (l m l' m':Let),L[u]?=some l->L[v]?=some m->l'=eo f l->m'=eo f m->l.aD=true->m.aD=true->(l'.id=m'.id↔l.id=m.id):=by
  intro f X hf hX u v l m l' m' hl hm e1 e2 cl cm;rw[e1,e2,(Mf f l).2.2.2.2.2 cl,(Mf f m).2.2.2.2.2 cm];have kl:l.kind=2:=by unfold Let.aD at cl;exact dh.1 cl
  have km:m.kind=2:=by unfold Let.aD at cm;exact dh.1 cm
  exact⟨hf l (hX l (aZ hl)) m (hX m (aZ hm)) kl km,fun h=>by rw[h]⟩
 rcases h with h|h
 .obtain⟨i,hi,⟨_,hp⟩,rfl⟩:=h;obtain⟨f,hf,e⟩:=Zw (eU L i);rw[e] at gy |-;have hlen:((eU L i).map (eo f)).length=L.length:=by rw[cU,yG]
  have hs:∀v,v<L.length->(v+L.length-i)%L.length<L.length:=fun v _=>dk _ hn;have get:∀v l,L[v]?=some l->((eU L i).map (eo f))[(v+L.length-i)%L.length]?=some (eo f l):=fun v l hl=>by
   have hv:=(aW.1 hl).1;rw[gk,Lt hi (hs v hv)];have:(i+(v+L.length-i)%L.length)%L.length=v:=by rw[Nat.add_mod_mod,show i+(v+L.length-i)=v+L.length by omega,n9,fX hv]
   rw[this,hl];rfl
  refine⟨false,fun v=>(v+L.length-i)%L.length,fun v=>(v+i)%L.length,g,gy hlen,hlen,hs,fun v _=>dk _ hn,fun v hv=>?_,fun v hv=>?_,fun v hv=>?_,fun v l hl=>?_,fun u v l m l' m' hl hm jV iS cl cm=>?_,fun v l hl bd=>?_,fun p hp=>?_⟩
  .show((v+i)%L.length+L.length-i)%L.length=v;rw[Bf (a:=v+i) aa];split<;>(rw[Bf aa];split<;>omega)
  .show((v+L.length-i)%L.length+i)%L.length=v;rw[yP,show v+L.length-i+i=v+L.length by omega,n9,fX hv]
  .rw[aC ae];show((v+1)%L.length+L.length-i)%L.length=((v+L.length-i)%L.length+1)%L.length;rw[yP,Bf (a:=v+1) aa];split
   .congr 1;omega
   rw[show v+L.length-i+1=(v+1-L.length+L.length-i)+L.length by omega,n9]
  .obtain⟨h1,h2,h3,h4,h5,_⟩:=Mf f l;exact⟨_,get v l hl,h1,h2,h3,h4,h5⟩
  .rw[get u l hl] at jV;rw[get v m hm] at iS;exact idk f _ hf (fun x hx=>Ia.2 hx) u v l m l' m' hl hm (by cases jV;rfl) (by cases iS;rfl) cl cm
  .have hv:=(aW.1 hl).1;rw[ab8,aca g.even hp hi hv];cases dn L v<;>rfl
  rw[abu hp,Jo]
 obtain⟨i,hi,⟨_,hp⟩,rfl⟩:=h;obtain⟨f,hf,e⟩:=Zw (eU L.reverse i);rw[e] at gy |-;have HH:L.reverse.length=L.length:=mT;rw[HH] at hi;have hlen:((eU L.reverse i).map (eo f)).length=L.length:=by rw[cU,yG,HH]
 have hs:∀v,v<L.length->(L.length-1-v+L.length-i)%L.length<L.length:=fun v _=>dk _ hn;have get:∀v l,L[v]?=some l->((eU L.reverse i).map (eo f))[(L.length-1-v+L.length-i)%L.length]?=some (eo f l):=fun v l hl=>by
  have hv:=(aW.1 hl).1;rw[gk,Lt aa (by rw[HH];exact hs v hv),HH];have:(i+(L.length-1-v+L.length-i)%L.length)%L.length=L.length-1-v:=by rw[Nat.add_mod_mod,show i+(L.length-1-v+L.length-i)=L.length-1-v+L.length by omega,n9,fX aa]
  rw[this,List.getElem?_reverse aa,show L.length-1-(L.length-1-v)=v by omega,hl];rfl
 refine⟨true,fun v=>(L.length-1-v+L.length-i)%L.length,fun v=>L.length-1-(v+i)%L.length,g,gy hlen,hlen,hs,fun v _=>aa,fun v hv=>?_,fun v hv=>?_,fun v hv=>?_,fun v l hl=>?_,fun u v l m l' m' hl hm jV iS cl cm=>?_,fun v l hl bd=>?_,fun p hp=>?_⟩
 .show(L.length-1-(L.length-1-(v+i)%L.length)+L.length-i)%L.length=v;have:=dk (v+i) hn;rw[show L.length-1-(L.length-1-(v+i)%L.length)=(v+i)%L.length by omega,Bf (a:=v+i) aa];split<;>(rw[Bf aa];split<;>omega)
 .show L.length-1-((L.length-1-v+L.length-i)%L.length+i)%L.length=v;rw[yP,show L.length-1-v+L.length-i+i=L.length-1-v+L.length by omega,n9,fX aa];omega
 .rw[aG rfl];show((L.length-1-(v+1)%L.length+L.length-i)%L.length+1)%L.length=(L.length-1-v+L.length-i)%L.length;rw[yP,Bf (a:=v+1) aa];split
  .congr 1;omega
  rw[show L.length-1-(v+1-L.length)+L.length-i+1=(L.length-1-v+L.length-i)+L.length by omega,n9]
 .obtain⟨h1,h2,h3,h4,h5,_⟩:=Mf f l;exact⟨_,get v l hl,h1,h2,h3,h4,h5⟩
 .rw[get u l hl] at jV;rw[get v m hm] at iS;exact idk f _ hf (fun x hx=>Ia.2 (List.mem_reverse.2 hx)) u v l m l' m' hl hm (by cases jV;rfl) (by cases iS;rfl) cl cm
 .have hv:=(aW.1 hl).1;have h1:=aca (l:=L.reverse) (v:=L.length-1-v) (by rw[vj];exact g.even) hp aa aa;rw[HH] at h1;rw[ab8,h1,ab9 g.even hl bd];cases dn L v<;>rfl
 rw[abu hp,Jo,vj]
end
def agN{α:Type}{l:List α}{f k:Nat}(hf:f<l.length)(hk:k<l.length):(l.drop f++l.take f)[k]?=l[(f+k)%l.length]? :=U2 hf hk
def Qi{F:Nat}{P:c_}(c:Cert F P):∃f,f<P.length/\(∀k,k<P.length->(dT P)[k]?=(P[(f+k)%P.length]?).map Pc.l)/\(dT P).length=P.length/\(∃p,P[f]?=some p/\p.l.aF=true/\p.d=true)/\ ∀k p,k<P.length->P[(f+k)%P.length]?=some p->p.l.aF=true->p.d=dn (dT P) k:=by
 obtain⟨i,hi⟩:∃i,tX P=some i:=by
  cases h:tX P with
  |some i=>exact⟨i,rfl⟩
  |none=>
   exfalso;obtain⟨z,T,B,S,e,cz⟩:=c;subst e;obtain⟨x,hx,hp,hd⟩:=cz.down;obtain⟨j,hj⟩:=ia hx;have mh:=(aW.1 hj).1;have A7:(z.map aS.p)[j]?=some x.p:=by rw[gk,hj];rfl
   have:=II.1 h j (by simpa using mh);rw[Pa A7] at this;unfold Ej at this;have gI:(x.p.l.kind==1)=true:=hp;simp[gI,hd] at this
 have h1:=L3 hi;have h2:i<P.length:=iv.1 (IL hi);obtain⟨p,iD⟩:=aN h2;rw[Pa iD] at h1;unfold Ej at h1;rw[cJ] at h1;have fG:p.l.aF=true:=h1.1;have e1:dT P=(P.drop i++P.take i).map Pc.l:=by unfold dT;rw[hi];exact U3 (by exact Nat.le_of_lt h2)
 have HH:(P.drop i++P.take i).length=P.length:=by simp;omega
 have c2:Cert F (P.drop i++P.take i):=Cert.ll (by rw[mU];exact c);obtain⟨z,T,B,S,e,cz⟩:=c2;obtain⟨s,hp⟩:=cz.path;have zB:aT z=dT P:=by rw[e1,<- e,uu];rfl
 have mM:z.length=P.length:=by rw[<- HH,<- e,cU]
 have zat:∀k q,k<P.length->P[(i+k)%P.length]?=some q->∃x,z[k]?=some x/\x.p=q:=fun k q hk hq=>by
  rw[<- agN h2 hk,<- e,gk] at hq;cases hz:z[k]? with
  |none=>rw[hz] at hq;cases hq
  |some x=>rw[hz] at hq;cases hq;exact⟨x,rfl,rfl⟩
 have hs:s.b=false:=by obtain⟨x,hx,oQ⟩:=zat 0 p aa (by rw[u7,fX h2];exact iD);have ok:=(cz.ok x (aZ hx)).pb (by unfold aS.k;rw[oQ];exact fG);have h3:=Lf hp hx;rw[h3,oQ,h1.2] at ok;exact ok.2
 refine⟨i,h2,fun k hk=>?_,by rw[Tw],⟨p,iD,fG,h1.2⟩,fun k q hk hq DU=>?_⟩
 .rw[e1,gk,agN h2 hk]
 obtain⟨x,hx,rfl⟩:=zat k q hk hq;have h4:=(UH cz.ok hp hs k x hx).1;have h5:=((cz.ok x (aZ hx)).pb DU).2;rw[h4,zB] at h5;cases hh:x.p.d<;>rw[hh] at h5<;>revert h5<;>cases dn (dT P) k<;>simp
def aek{P Q:c_}{s:Nat->Nat}(h:∀u v p p' q q',P[u]?=some p->P[v]?=some p'->Q[s u]?=some q->Q[s v]?=some q'->p.l.aD=true->p'.l.aD=true->(q.l.id=q'.l.id↔p.l.id=p'.l.id)):∃f:Int->Int,∀v p q,P[v]?=some p->Q[s v]?=some q->p.l.aD=true->q.l.id=f p.l.id:=by
 classical
 refine⟨fun a=>if h:∃x:Int,∃v p q,P[v]?=some p/\Q[s v]?=some q/\p.l.aD=true/\p.l.id=a/\q.l.id=x then Classical.choose h else 0,fun v p q hp hq hc=>?_⟩;have hex:∃x:Int,∃v' p' q',P[v']?=some p'/\Q[s v']?=some q'/\p'.l.aD=true/\p'.l.id=p.l.id/\q'.l.id=x:=⟨_,v,p,q,hp,hq,hc,rfl,rfl⟩;dsimp only;rw[dif_pos hex];obtain⟨v',p',q',h1,h2,h3,h4,h5⟩:=Classical.choose_spec hex;rw[<- h5];exact(h v v' p p' q q' hp h1 hq h2 hc h3).2 h4.symm
section
variable {F:Nat} {L M:ai} {r:Bool} {s t:Nat->Nat}
def dw.aii(i:dw F L M r s t){v:Nat}(hv:v<L.length):∀k,k<=L.length->t ((v+k)%L.length)=if r=true then (t v+L.length-k)%L.length else (t v+k)%L.length:=by
 have hn:0<L.length:=aa;intro k
 induction k with
 |zero=>intro _;rw[u7,fX hv,Nat.sub_zero,n9,u7,fX (i.Cp v hv)];split<;>rfl
 |succ k ih=>
  intro hk;have ih:=ih aa;have hvk:(v+k)%L.length<L.length:=dk _ hn;have di:=i.symm.step ((v+k)%L.length) (by rw[i.len];exact hvk);have e:∀u,nx M u=(u+1)%L.length:=fun u=>by show(u+1)%M.length=_;rw[i.len]
  simp only[e,yP] at di;have aB:=i.Cp _ (show(v+k+1)%L.length<L.length from dk _ hn);rw[show v+(k+1)=v+k+1 by omega];cases r with
  |false=>rw[aC ae] at di ih |-;rw[di,ih,yP];rfl
  |true=>
   rw[aG rfl] at di ih |-;rw[ih] at di;have h2:(t v+L.length-k)%L.length=((t v+L.length-(k+1))%L.length+1)%L.length:=by rw[yP];congr 1;omega
   rw[h2] at di;exact Zc aB (dk _ hn) di
def dw.fin(i:dw F L M r s t){P Q:c_}(zi:P.length=L.length)(hQl:Q.length=L.length)(cP:Cert F P)(cQ:Cert F Q)(vP:cX (F:Int) (dT P)=0)
  (h:∀v p,P[v]?=some p->∃q,Q[s v]?=some q/\q.l.kind=p.l.kind/\q.l.gate=p.l.gate/\q.l.aA=p.l.aA/\q.l.sign=p.l.sign/\q.l.over=p.l.over/\(p.l.aD=false->q.l.id=p.l.id)/\(p.l.aF=true->q.d=(p.d !=r)))
  (hid:∀u v p p' q q',P[u]?=some p->P[v]?=some p'->Q[s u]?=some q->Q[s v]?=some q'->p.l.aD=true->p'.l.aD=true->(q.l.id=q'.l.id↔p.l.id=p'.l.id)):lI (dT Q) (dT P):=by
 obtain⟨f0,hf0,a1,al,⟨p0,hp0,pp0,pd0⟩,a2⟩:=Qi cP;obtain⟨f1,vv,b1,bl,⟨q0,OE,qp0,qd0⟩,_⟩:=Qi cQ;obtain⟨f,hf⟩:=aek hid;rw[zi] at hf0 a1 al a2;rw[hQl] at vv b1 bl;have hn:0<L.length:=aa;have aK:dT P≠[]:=fun e=>by rw[e] at al;simp at al;omega
 have he:aq Let.aF (dT P)%2=0:=by obtain⟨G,_,g⟩:=pM vP aK;exact g.even
 have hb:dS F lN=true:=rfl;have aod:∀v p q,P[v]?=some p->Q[s v]?=some q->q.l=eo f p.l:=by
  intro v p q hp hq;obtain⟨q',rH,h1,h2,h3,h4,h5,h6,_⟩:=h v p hp;rw[hq] at rH;cases rH;obtain⟨g1,g2,g3,g4,g5,g6⟩:=Mf f p.l;have an8:q.l.id=(eo f p.l).id:=by
   cases hc:p.l.aD with
   |true=>rw[g6 hc];exact hf v p q hp hq hc
   |false=>rw[aaL hc];exact h6 hc
  have an0:∀a b:Let,a.kind=b.kind->a.gate=b.gate->a.aA=b.aA->a.id=b.id->a.sign=b.sign->a.over=b.over->a=b:=fun a b=>by cases a;cases b;simp only[Let.mk.injEq];intros;simp_all
  exact an0 _ _ (h1.trans g1.symm) (h2.trans g2.symm) (h3.trans g3.symm) an8 (h4.trans g4.symm) (h5.trans g5.symm)
 have wN:∀X:ai,(∀x∈X,x∈dT P)->inj f X:=by
  intro X hX x hx y hy kx ky e;obtain⟨a,ha⟩:=ia (hX x hx);obtain⟨b,hb⟩:=ia (hX y hy);have iC:a<L.length:=by rw[<- al];exact(aW.1 ha).1
  have ya:b<L.length:=by rw[<- al];exact(aW.1 hb).1
  rw[a1 _ iC] at ha;rw[a1 _ ya] at hb;obtain⟨p,hp,rfl⟩:=ef.1 ha;obtain⟨p',gI,rfl⟩:=ef.1 hb;have cx:p.l.aD=true:=by unfold Let.aD;rw[kx];rfl
  have cy:p'.l.aD=true:=by unfold Let.aD;rw[ky];rfl
  obtain⟨q,hq,_⟩:=h _ p hp;obtain⟨q',rH,_⟩:=h _ p' gI;have e1:=hf _ p q hp hq cx;have e2:=hf _ p' q' gI rH cy;exact(hid _ _ _ _ _ _ hp gI hq rH cx cy).1 (by rw[e1,e2,e])
 have KG:=i.Cp f1 vv;obtain⟨p1,lX⟩:=aN (ls:=P) (k:=t f1) aa;have vu:p1.l.aF=true/\true=(p1.d !=r):=by
  obtain⟨q,hq,h1,_,_,_,_,_,h7⟩:=h _ p1 lX;rw[i.st f1 vv,OE] at hq;cases hq;have:p1.l.aF=true:=by unfold Let.aF at qp0 |-;rw[<- h1];exact qp0
  exact⟨this,by rw[<- h7 this];exact qd0.symm⟩
 obtain⟨j,hj,hjt⟩:∃j,j<L.length/\(f0+j)%L.length=t f1:=⟨(t f1+L.length-f0)%L.length,dk _ hn,by
  rw[Nat.add_mod_mod,show f0+(t f1+L.length-f0)=t f1+L.length by omega,n9,fX KG]⟩
 have NX:=a2 j p1 hj (by rw[hjt];exact lX) vu.1;have Dx:∀k,k<L.length->∃p,P[t ((f1+k)%L.length)]?=some p/\(dT Q)[k]?=some (eo f p.l):=fun k hk=>by have aB:(f1+k)%L.length<L.length:=dk _ hn;obtain⟨p,hp⟩:=aN (ls:=P) (k:=t ((f1+k)%L.length)) (by rw[zi];exact i.Cp _ aB);obtain⟨q,hq,_⟩:=h _ p hp;have HG:=hq;rw[i.st _ aB] at hq;refine⟨p,hp,?_⟩;rw[b1 k hk,hq];show some q.l=_;rw[aod _ p q hp HG]
 cases r with
 |false=>
  have e:dT Q=(eU (dT P) j).map (eo f):=by
   apply xA;intro k;by_cases hk:k<L.length
   .obtain⟨p,hp,hq⟩:=Dx k hk;rw[hq,gk,Lt aa aa,al,a1 _ (dk _ hn)];rw[i.aii vv k aa,aC ae,<- hjt,yP] at hp;rw[Nat.add_mod_mod,<- EM,hp];rfl
   rw[nZ aa,nZ (by rw[cU,yG];omega)]
  rw[e];refine(W3 (wN _ fun x hx=>Ia.1 hx)).trans (Tu aa he ?_);have oJ:p1.d=true:=by have:=vu.2;revert this;cases p1.d<;>simp
  rw[oJ] at NX;unfold dn at NX;exact dh.1 NX.symm
 |true=>
  have nh:L.length-1-j<L.length:=aa;have e:dT Q=(eU (dT P).reverse (L.length-1-j)).map (eo f):=by
   apply xA;intro k;by_cases hk:k<L.length
   .obtain⟨p,hp,hq⟩:=Dx k hk;have hx:(L.length-1-j+k)%L.length<L.length:=dk _ hn;rw[hq,gk,Lt (by rw[mT];omega) (by rw[mT];omega),mT,al,List.getElem?_reverse aa,al,a1 _ aa];rw[i.aii vv k aa,aG rfl,<- hjt] at hp;have:(f0+(L.length-1-(L.length-1-j+k)%L.length))%L.length=((f0+j)%L.length+L.length-k)%L.length:=by
     rw[Bf (a:=L.length-1-j+k) aa];split
     .rename_i h1;rw[show(f0+j)%L.length+L.length-k=(f0+j)%L.length+(L.length-k) by omega,yP,show f0+(L.length-1-(L.length-1-j+k))=f0+j-k by omega,show f0+j+(L.length-k)=(f0+j-k)+L.length by omega,n9]
     rename_i h1;rw[show(f0+j)%L.length+L.length-k=(f0+j)%L.length+(L.length-k) by omega,yP];congr 1;omega
    rw[this,hp];rfl
   rw[nZ aa,nZ (by rw[cU,yG,mT];omega)]
  rw[e];refine(W3 (wN _ fun x hx=>List.mem_reverse.1 (Ia.1 hx))).trans ((Tu (by rw[mT];omega) (by rw[vj];exact he) ?_).trans acC);have oJ:p1.d=false:=by have:=vu.2;revert this;cases p1.d<;>simp
  rw[oJ] at NX;have hx:(dT P)[j]?=some p1.l:=by rw[a1 j hj,hjt,lX];rfl
  have h9:=ab9 he hx vu.1;rw[<- NX,al] at h9;unfold dn at h9;exact dh.1 h9
end
abbrev bJ(L:ai)(v:Nat):Let:=(pA L v).l
section
variable {F:Nat} {L M:ai} {r:Bool} {s t:Nat->Nat}
def iL{v:Nat}{l:Let}(h:L[v]?=some l):bJ L v=l:=congrArg Pc.l (iU (jm h))
def dw.uS(i:dw F L M r s t){v:Nat}(hv:v<L.length):(bJ M (s v)).kind=(bJ L v).kind/\(bJ M (s v)).gate=(bJ L v).gate/\(bJ M (s v)).aA=(bJ L v).aA/\(bJ M (s v)).sign=(bJ L v).sign/\(bJ M (s v)).over=(bJ L v).over:=by obtain⟨l,hl⟩:=aN hv;obtain⟨m,hm,h1,h2,h3,h4,h5⟩:=i.at_ v l hl;rw[iL hl,iL hm];exact⟨h1,h2,h3,h4,h5⟩
def dw.Ch(i:dw F L M r s t){u v:Nat}(hu:u<L.length)(hv:v<L.length)(cu:(bJ L u).kind=2)(cv:(bJ L v).kind=2):(bJ M (s u)).id=(bJ M (s v)).id↔(bJ L u).id=(bJ L v).id:=by obtain⟨l,hl⟩:=aN hu;obtain⟨m,hm⟩:=aN hv;obtain⟨l',jV,_⟩:=i.at_ u l hl;obtain⟨m',iS,_⟩:=i.at_ v m hm;rw[iL hl] at cu |-;rw[iL hm] at cv |-;rw[iL jV,iL iS];exact i.ids u v l m l' m' hl hm jV iS (by unfold Let.aD;rw[cu];rfl) (by unfold Let.aD;rw[cv];rfl)
def Yo{α:Type}(c:Bool)(x:α):(if c=true then some x else none).isSome=c:=by cases c<;>rfl
def dw.ends(i:dw F L M r s t){e:Nat}(he:e<L.length):(r=false/\eJ L.length r s e=s e/\nx M (eJ L.length r s e)=s (nx L e))\/(r=true/\eJ L.length r s e=s (nx L e)/\nx M (eJ L.length r s e)=s e):=by
 have h1:=i.along he true;have e1:dB L.length e true=2*e:=rfl;rw[e1] at h1;have di:=i.step e he;have en:∀u,nx M u=(u+1)%L.length:=fun u=>by show(u+1)%M.length=_;rw[i.len]
 have hx:nx L e<L.length:=dk _ aa;unfold eJ;rw[h1,en];cases r with
 |false=>
  rw[aC ae] at di;refine .inl ⟨rfl,?_,?_⟩
  .show 2*s e/2=_;omega
  show(2*s e/2+1)%L.length=_;rw[di,show 2*s e/2=s e by omega]
 |true=>
  rw[aG rfl] at di;have e2:(s e+L.length-1)%L.length=s (nx L e):=by rw[<- di];exact vI (i.lt _ hx)
  refine .inr ⟨rfl,?_,?_⟩
  .show(2*((s e+L.length-1)%L.length)+1)/2=_;rw[e2];omega
  show((2*((s e+L.length-1)%L.length)+1)/2+1)%L.length=_;rw[e2,show(2*s (nx L e)+1)/2=s (nx L e) by omega];exact di
def GK(p q:Let)(a b:Nat):Bool:=(p.kind==1)&&((q.kind==1)&&((p.gate==q.gate)&&((uh p.aA q.aA-yB p.aA q.aA==1)&& !(decide (a<=2)&&decide (0<b)))))
def ajl{L:ai}{a:Nat}:(we L a).isSome=GK (bJ L a) (bJ L (nx L a)) (aq Let.aF L) (aq Let.aD L/2):=by unfold we GK;exact Yo _ _
def aqG(a b:Int):uh a b-yB a b=uh b a-yB b a:=by unfold uh yB;by_cases h1:a<b<;>by_cases h2:b<a<;>simp only[h1,h2,if_true,if_false]<;>omega
def akv(p q:Let)(a b:Nat):GK p q a b=GK q p a b:=by unfold GK;rw[aqG p.aA q.aA,show(p.gate==q.gate)=(q.gate==p.gate) by rw[EG,dh,dh];exact eq_comm];cases (p.kind==1)<;>cases (q.kind==1)<;>rfl
def dw.c1(i:dw F L M r s t){a:Nat}(ha:a<L.length)(h:(we L a).isSome=true):(we M (eJ L.length r s a)).isSome=true:=by
 rw[ajl] at h |-;have hx:nx L a<L.length:=dk _ aa;have n1:aq Let.aF M=aq Let.aF L:=i.cn _ fun l m h1 _=>by unfold Let.aF;rw[h1]
 have n2:aq Let.aD M=aq Let.aD L:=i.cn _ fun l m h1 _=>by unfold Let.aD;rw[h1]
 have key:GK (bJ M (s a)) (bJ M (s (nx L a))) (aq Let.aF M) (aq Let.aD M/2)=true:=by obtain⟨h1,h2,h3,_⟩:=i.uS ha;obtain⟨k1,k2,k3,_⟩:=i.uS hx;rw[n1,n2,<- h];unfold GK;rw[h1,h2,h3,k1,k2,k3]
 rcases i.ends ha with ⟨_,e1,e2⟩|⟨_,e1,e2⟩
 .rw[e2,e1];exact key
 rw[e2,e1,akv];exact key
def apH{L:ai}{a:Nat}:(w7 L a).isSome=((bJ L a).kind==2&&((bJ L (nx L a)).kind==2&&((bJ L a).id==(bJ L (nx L a)).id))):=by unfold w7;exact Yo _ _
def dw.c4(i:dw F L M r s t){a:Nat}(ha:a<L.length)(h:(w7 L a).isSome=true):(w7 M (eJ L.length r s a)).isSome=true:=by
 rw[apH] at h |-;have hx:nx L a<L.length:=dk _ aa;simp only[cJ,dh] at h |-;obtain⟨h1,h2,h3⟩:=h;have k1:=(i.uS ha).1.trans h1;have k2:=(i.uS hx).1.trans h2;have k3:=(i.Ch ha hx h1 h2).2 h3;rcases i.ends ha with ⟨_,e1,e2⟩|⟨_,e1,e2⟩
 .rw[e2,e1];exact⟨k1,k2,k3⟩
 rw[e2,e1];exact⟨k2,k1,k3.symm⟩
structure C6 (F:Nat) (L:ai) (a b:Nat):Prop where
 cr:(bJ L a).kind=2/\(bJ L (nx L a)).kind=2/\(bJ L b).kind=2/\(bJ L (nx L b)).kind=2
 ov:(bJ L (nx L a)).over=(bJ L a).over/\(bJ L (nx L b)).over=(bJ L b).over/\(bJ L b).over= !(bJ L a).over
 Cf:(bJ L a).id≠(bJ L (nx L a)).id
 Cg:((bJ L b).id=(bJ L a).id/\(bJ L (nx L b)).id=(bJ L (nx L a)).id)\/((bJ L b).id=(bJ L (nx L a)).id/\(bJ L (nx L b)).id=(bJ L a).id)
 vn:nx L (nx L a)≠b/\nx L (nx L b)≠a
 cor:kQ F L 0 [a,b] a=true
def Zd(L:ai)(a:Nat):nx L (nx L a)=(a+2)%L.length:=by show((a+1)%L.length+1)%L.length=_;rw[yP]
def arl{F:Nat}{L:ai}{a b:Nat}:(xh F L a b).isSome=true↔C6 F L a b:=by
 unfold xh;rw[Yo];unfold iB;simp only[cJ,vU,l7,dh,lS,ne_eq];constructor
 .rintro ⟨h1,h2,h3,h4,h5,h6⟩
  refine⟨?_,?_,h2,h3,⟨by rw[Zd];exact h4,by rw[Zd];exact h5⟩,h6⟩
  .rcases h1 with ⟨⟨a1,a2,_⟩,b1,b2,_⟩|⟨⟨a1,a2,_⟩,b1,b2,_⟩
   .exact⟨a1,a2,b1,b2⟩
   exact⟨a1,a2,b1,b2⟩
  rcases h1 with ⟨⟨_,_,a3,a4⟩,_,_,b3,b4⟩|⟨⟨_,_,a3,a4⟩,_,_,b3,b4⟩
  .exact⟨a4.trans a3.symm,b4.trans b3.symm,by rw[b3,a3];rfl⟩
  exact⟨a4.trans a3.symm,b4.trans b3.symm,by rw[b3,a3];rfl⟩
 rintro ⟨⟨a1,a2,b1,b2⟩,⟨o1,o2,o3⟩,h2,h3,⟨h4,h5⟩,h6⟩
 rw[Zd] at h4 h5;refine⟨?_,h2,h3,h4,h5,h6⟩;cases ho:(bJ L a).over with
 |true=>rw[ho] at o1 o3;exact .inl ⟨⟨a1,a2,rfl,o1⟩,b1,b2,o3,o2.trans o3⟩
 |false=>rw[ho] at o1 o3;exact .inr ⟨⟨a1,a2,rfl,o1⟩,b1,b2,o3,o2.trans o3⟩
def C6.symm{a b:Nat}(h:C6 F L a b)(ha:a<L.length)(hb:b<L.length):C6 F L b a:=by
 obtain⟨⟨a1,a2,b1,b2⟩,⟨o1,o2,o3⟩,h2,h3,⟨h4,h5⟩,h6⟩:=h;refine⟨⟨b1,b2,a1,a2⟩,⟨o2,o1,by rw[o3,Bool.not_not]⟩,?_,?_,⟨h5,h4⟩,?_⟩
 .rcases h3 with ⟨h,k⟩|⟨h,k⟩
  .rw[h,k];exact h2
  rw[h,k];exact h2.symm
 .rcases h3 with ⟨h,k⟩|⟨h,k⟩
  .exact .inl ⟨h.symm,k.symm⟩
  exact .inr ⟨k.symm,h.symm⟩
 rw[BC (e0:=a) rfl ha] at h6;rw[BC (e0:=b) rfl hb,Lb (List.Perm.swap a b [])];exact h6
def dw.vn(i:dw F L M r s t){a b:Nat}(ha:a<L.length)(hb:b<L.length)(h:nx L (nx L a)≠b)(h':nx L (nx L b)≠a):nx M (nx M (eJ L.length r s a))≠eJ L.length r s b:=by
 have ue:nx L a<L.length:=dk _ aa;have OO:nx L b<L.length:=dk _ aa;have aei:nx L (nx L b)<L.length:=dk _ aa;have en:∀u,nx M u=(u+1)%L.length:=fun u=>by show(u+1)%M.length=_;rw[i.len]
 have inj:∀u v,u<L.length->v<L.length->s u=s v->u=v:=fun u v hu hv e=>by rw[<- i.ts u hu,<- i.ts v hv,e]
 rcases i.ends ha with ⟨hr,e1,e2⟩|⟨hr,e1,e2⟩
 .subst hr;rcases i.ends hb with ⟨_,k1,k2⟩|⟨hr,_⟩
  .intro e;rw[e2,k1,en] at e;have h3:=i.step (nx L a) ue;rw[aC ae] at h3;exact h (inj _ _ (dk _ aa) hb (h3.trans e))
  cases hr
 subst hr;rcases i.ends hb with ⟨hr,_⟩|⟨_,k1,k2⟩
 .cases hr
 intro e;rw[e2,k1,en] at e;have h3:=i.step (nx L b) OO;rw[aG rfl] at h3;have h4:nx L (s a)=nx L (s (nx L (nx L b))):=(show nx L (s a)=s (nx L b) from e).trans h3.symm;exact h' (inj _ _ aei ha (Zc (i.lt _ ha) (i.lt _ aei) h4).symm)
def dw.c6(i:dw F L M r s t){a b:Nat}(ha:a<L.length)(hb:b<L.length)(h:C6 F L a b):C6 F M (eJ L.length r s a) (eJ L.length r s b):=by
 have ue:nx L a<L.length:=dk _ aa;have OO:nx L b<L.length:=dk _ aa;have vn:=h.vn;obtain⟨⟨a1,a2,b1,b2⟩,⟨o1,o2,o3⟩,h2,h3,_,h6⟩:=h;have la:=i.uS ha;have la':=i.uS ue;have lb:=i.uS hb;have lb':=i.uS OO;have yf:kQ F M 0 [eJ L.length r s a,eJ L.length r s b] (eJ L.length r s a)=true:=i.WG (edges:=[a,b]) (fun e he=>by simp only[ch,eL,or_false] at he;rcases he with rfl|rfl<;>assumption) rfl h6 (List.Perm.refl _) rfl
 have hf:nx M (nx M (eJ L.length r s a))≠eJ L.length r s b/\nx M (nx M (eJ L.length r s b))≠eJ L.length r s a:=⟨i.vn ha hb vn.1 vn.2,i.vn hb ha vn.2 vn.1⟩;have Cf:(bJ M (s a)).id≠(bJ M (s (nx L a))).id:=fun e=>h2 ((i.Ch ha ue a1 a2).1 e);have Cg:((bJ M (s b)).id=(bJ M (s a)).id/\(bJ M (s (nx L b))).id=(bJ M (s (nx L a))).id)\/((bJ M (s b)).id=(bJ M (s (nx L a))).id/\(bJ M (s (nx L b))).id=(bJ M (s a)).id):=by
  rcases h3 with ⟨h,k⟩|⟨h,k⟩
  .exact .inl ⟨(i.Ch hb ha b1 a1).2 h,(i.Ch OO ue b2 a2).2 k⟩
  exact .inr ⟨(i.Ch hb ue b1 a2).2 h,(i.Ch OO ha b2 a1).2 k⟩
 have ka:=la.1.trans a1;have ka':=la'.1.trans a2;have kb:=lb.1.trans b1;have kb':=lb'.1.trans b2;have va:(bJ M (s (nx L a))).over=(bJ M (s a)).over:=by rw[la.2.2.2.2,la'.2.2.2.2];exact o1
 have vb:(bJ M (s (nx L b))).over=(bJ M (s b)).over:=by rw[lb.2.2.2.2,lb'.2.2.2.2];exact o2
 have vc:(bJ M (s b)).over= !(bJ M (s a)).over:=by rw[lb.2.2.2.2,la.2.2.2.2];exact o3
 have E1:=i.ends ha;have E2:=i.ends hb;generalize eJ L.length r s a=ea at*;generalize eJ L.length r s b=eb at*;rcases E1 with ⟨hr,p1,p2⟩|⟨hr,p1,p2⟩<;>rcases E2 with ⟨mL,q1,q2⟩|⟨mL,q1,q2⟩
 .refine⟨?_,?_,?_,?_,hf,yf⟩
  .rw[p2,q2,p1,q1];exact⟨ka,ka',kb,kb'⟩
  .rw[p2,q2,p1,q1];exact⟨va,vb,vc⟩
  .rw[p2,p1];exact Cf
  rw[p2,q2,p1,q1];exact Cg
 .rw[hr] at mL;cases mL
 .rw[hr] at mL;cases mL
 refine⟨?_,?_,?_,?_,hf,yf⟩
 .rw[p2,q2,p1,q1];exact⟨ka',ka,kb',kb⟩
 .rw[p2,q2,p1,q1];exact⟨va.symm,vb.symm,by rw[va,vb];exact vc⟩
 .rw[p2,p1];exact Cf.symm
 rw[p2,q2,p1,q1];rcases Cg with ⟨h,k⟩|⟨h,k⟩
 .exact .inl ⟨k,h⟩
 exact .inr ⟨k,h⟩
end
section
variable {F:Nat} {L M:ai} {r:Bool} {s t:Nat->Nat}
def CT(L M:ai)(s:Nat->Nat)(X Y:c_):Prop:=∀x,x<L.length->∃u ρ,u<L.length/\X[x]?=some ⟨{bJ L u with aA:=ρ},eW L u⟩/\Y[s x]?=some ⟨{bJ M (s u) with aA:=ρ},eW M (s u)⟩
def dw.inj(i:dw F L M r s t){u v:Nat}(hu:u<L.length)(hv:v<L.length)(e:s u=s v):u=v:=by rw[<- i.ts u hu,<- i.ts v hv,e]
def dw.abH(i:dw F L M r s t):CT L M s (pieces L) (pieces M):=by
 intro x hx;obtain⟨l,hl⟩:=aN hx;obtain⟨m,hm⟩:=aN (ls:=M) (k:=s x) (by rw[i.len];exact i.lt x hx);refine⟨x,(bJ L x).aA,hx,?_,?_⟩
 .rw[jm hl,iL hl]
 rw[jm hm,<- (i.uS hx).2.2.1,iL hm]
def dw.abJ(i:dw F L M r s t){X Y:c_}(h:CT L M s X Y){p:Nat}(hp:p<L.length)(ρ:Int):CT L M s (dx X p ρ) (dx Y (s p) ρ):=by
 obtain⟨u0,r0,h0,a0,b0⟩:=h p hp;intro x hx;obtain⟨u,r1,h1,a1,b1⟩:=h x hx;rw[qx a0,qx b0];by_cases e:x=p
 .subst e;rw[aG rfl,aG rfl];exact⟨u0,ρ,h0,rfl,rfl⟩
 rw[aC e,aC fun e2=>e (i.inj hx hp e2)];exact⟨u,r1,h1,a1,b1⟩
def dw.corE(i:dw F L M r s t){X Y:c_}(hX:X.length=L.length)(hY:Y.length=M.length)(h:CT L M s X Y){e:Nat}(he:e<L.length):CT L M s (eN L X e) (eN M Y (eJ L.length r s e)):=by
 have hn:nx L e<L.length:=dk _ aa;have dy:eJ L.length r s e<M.length:=by rw[i.len];exact i.MR he
 obtain⟨u0,r0,h0,a0,b0⟩:=h e he;obtain⟨u1,r1,h1,a1,b1⟩:=h (nx L e) hn;have aK:=Bg i.g he;have hse:s (nx L e)≠s e:=fun e2=>aK (i.inj hn he e2).symm;have hY1:∀x,x<L.length->(eN M Y (eJ L.length r s e))[s x]?=if x=nx L e then Y[s e]? else if x=e then Y[s (nx L e)]? else Y[s x]? :=by
  intro x hx;rw[vQ hY dy];rcases i.ends he with ⟨_,k1,k2⟩|⟨_,k1,k2⟩
  .rw[k2,k1];by_cases c1:x=nx L e
   .subst c1;rw[aG rfl,aG rfl]
   rw[aC fun e2=>c1 (i.inj hx hn e2),aC c1];by_cases c2:x=e
   .subst c2;rw[aG rfl,aG rfl]
   rw[aC fun e2=>c2 (i.inj hx he e2),aC c2]
  rw[k2,k1];by_cases c1:x=nx L e
  .subst c1;rw[aC hse,aG rfl,aG rfl]
  rw[aC c1];by_cases c2:x=e
  .subst c2;rw[aG rfl,aG rfl]
  rw[aC fun e2=>c2 (i.inj hx he e2),aC fun e2=>c1 (i.inj hx hn e2),aC c2]
 intro x hx;obtain⟨u,ρ,k1,k2,k3⟩:=h x hx;rw[vQ hX he,hY1 x hx];by_cases c1:x=nx L e
 .rw[aG c1,aG c1];exact⟨u0,r0,h0,a0,b0⟩
 rw[aC c1,aC c1];by_cases c2:x=e
 .rw[aG c2,aG c2];exact⟨u1,r1,h1,a1,b1⟩
 rw[aC c2,aC c2];exact⟨u,ρ,k1,k2,k3⟩
def dw.abI(i:dw F L M r s t):∀ {es:a_} {X Y:c_},X.length=L.length->Y.length=M.length->CT L M s X Y->(∀e∈es,e<L.length)->CT L M s (dC L X es) (dC M Y (es.map (eJ L.length r s))):=by
 intro es
 induction es with
 |nil=>intro X Y _ _ h _;exact h
 |cons e es ih=>intro X Y hX hY h he;exact ih (by rw[tJ,hX]) (by rw[tJ,hY]) (i.corE hX hY h (he e af)) fun e h=>he e (by simp[h])
def dw.acO(i:dw F L M r s t){P Q:c_}(hP:P.length=L.length)(hQ:Q.length=L.length)(cP:Cert F P)(cQ:Cert F Q)(vP:cX (F:Int) (dT P)=0)(h:CT L M s P Q):lI (dT Q) (dT P):=by
 refine i.fin hP hQ cP cQ vP (fun v p hp=>?_) fun u v p p' q q' hp gI hq rH cp mF=>?_
 .have hv:v<L.length:=by rw[<- hP];exact(aW.1 hp).1
  obtain⟨u,ρ,hu,a,b⟩:=h v hv;rw[hp] at a;cases a;obtain⟨k1,k2,k3,k4,k5⟩:=i.uS hu;refine⟨_,b,k1,k2,rfl,k4,k5,fun hc=>?_,fun fG=>?_⟩
  .have hk:∀(X:ai),cE F X->∀z,z<X.length->(bJ X z).aD=false->(bJ X z).id=0:=fun X gX z hz hc=>by
    obtain⟨l,hl⟩:=aN hz;rw[iL hl] at hc |-;have hb:=gX.bad l (aZ hl);have hp:l.aF=true:=(wg hb).resolve_right (by rw[hc];decide);have:=(sC hp).1 hb;exact this.1.1.2
   have hc:(bJ L u).aD=false:=hc;have qJ:(bJ M (s u)).aD=false:=by unfold Let.aD at hc |-;rw[k1];exact hc
   exact(hk M i.g' _ (by rw[i.len];exact i.lt u hu) qJ).trans (hk L i.g u hu hc).symm
  have fG:(bJ L u).aF=true:=fG;obtain⟨l,hl⟩:=aN hu;obtain⟨m,hm,h1,_⟩:=i.at_ u l hl;rw[iL hl] at fG;have kZ:m.aF=true:=(i.aF hl hm).1.trans fG;show eW M (s u)=(eW L u !=r);unfold eW;rw[hl,hm];show(m.aF&&dn M (s u))=((l.aF&&dn L u)!=r);rw[fG,kZ,i.dwn u l hl fG];rfl
 have hu:u<L.length:=by rw[<- hP];exact(aW.1 hp).1
 have hv:v<L.length:=by rw[<- hP];exact(aW.1 gI).1
 obtain⟨x,ρ,hx,a,b⟩:=h u hu;obtain⟨y,ρ',hy,a',b'⟩:=h v hv;rw[hp] at a;rw[gI] at a';rw[hq] at b;rw[rH] at b';cases a;cases a';cases b;cases b';exact i.Ch hx hy (by unfold Let.aD at cp;exact dh.1 cp) (by unfold Let.aD at mF;exact dh.1 mF)
def rW(L:ai)(e f:Nat):Prop:=e≠f/\e≠nx L f/\nx L e≠f/\nx L e≠nx L f
def auH{X:c_}(hX:X.length=L.length){e f:Nat}(he:e<L.length)(hf:f<L.length)(h:rW L e f):eN L (eN L X e) f=eN L (eN L X f) e:=by
 obtain⟨h1,h2,h3,h4⟩:=h;apply xA;intro x;have l1:(eN L X e).length=L.length:=by rw[tJ,hX]
 have l2:(eN L X f).length=L.length:=by rw[tJ,hX]
 simp only[vQ l1 hf,vQ l2 he,vQ hX he,vQ hX hf];by_cases c1:x=nx L f
 .subst c1;rw[aG rfl,aC (Ne.symm h3),aC (by intro h;exact h1 h.symm),aC (by intro h;exact h4 h.symm),aC (by intro h;exact h2 h.symm)];simp
 by_cases c2:x=f
 .subst c2;by_cases c3:x=nx L x
  .exact absurd c3 c1
  simp[c1,h2.symm,h4.symm,Ne.symm h3,Ne.symm h1]
 by_cases c3:x=nx L e
 .subst c3;simp[h4,h3,h1,h2]
 by_cases c4:x=e
 .subst c4;simp[h1,h2,h3,h4,c3]
 simp[c1,c2,c3,c4]
def Vp{es im:a_}(hp:es.Perm im):∀ {X:c_},X.length=L.length->(∀e∈es,e<L.length)->es.Pairwise (rW L)->dC L X es=dC L X im:=by
 have sym:∀ {e f},rW L e f->rW L f e:=fun h=>⟨h.1.symm,h.2.2.1.symm,h.2.1.symm,h.2.2.2.symm⟩
 induction hp with
 |nil=>intro X _ _ _;rfl
 |cons e _ ih=>intro X hX he hd;exact ih (by rw[tJ,hX]) (fun e h=>he e (by simp[h])) (mB.1 hd).2
 |swap e f l=>intro X hX he hd;have h1:=(mB.1 hd).1 e af;show dC L (eN L (eN L X f) e) l=dC L (eN L (eN L X e) f) l;rw[auH hX (he f af) (he e af) h1]
 |trans h1 h2 ih1 ih2=>intro X hX he hd;rw[ih1 hX he hd];exact ih2 hX (fun e h=>he e (h1.mem_iff.2 h)) (h1.pairwise hd fun h=>sym h)
def ahG{X:c_}{p q:Nat}(hp:p<X.length)(hq:q<X.length)(h:p≠q)(a b:Int):dx (dx X p a) q b=dx (dx X q b) p a:=by
 obtain⟨x,hx⟩:=aN hp;obtain⟨y,hy⟩:=aN hq;have h1:(dx X p a)[q]?=some y:=by rw[qx hx,aC (Ne.symm h)];exact hy
 have h2:(dx X q b)[p]?=some x:=by rw[qx hy,aC h];exact hx
 apply xA;intro z;rw[qx h1,qx h2,qx hx,qx hy];by_cases c1:z=q
 .subst c1;rw[aG rfl,aC (Ne.symm h),aG rfl]
 rw[aC c1,aC c1]
end
section
variable {F:Nat} {L M:ai} {r:Bool} {s t:Nat->Nat}
def wB(L:ai)(e p v:Nat):Prop:=((p=e/\v=nx L e)\/(p=nx L e/\v=e))/\(bJ L p).kind=1/\(bJ L v).kind=2
structure C3 (F:Nat) (L:ai) (a b p v q w:Nat):Prop where
 ea:wB L a p v
 eb:wB L b q w
 vw:v≠w
 id:(bJ L v).id=(bJ L w).id
 cor:kQ F L 1 [a,b] a=true
def wB.pv{e p v:Nat}(h:wB L e p v):jP L e=(p,v,true):=by
 obtain⟨h1,h2,h3⟩:=h;unfold jP;rcases h1 with ⟨rfl,rfl⟩|⟨rfl,rfl⟩
 .rw[aC (by rw[show(pA L p).l.kind=1 from h2];decide),show(pA L p).l.kind=1 from h2,show(pA L (nx L p)).l.kind=2 from h3];rfl
 rw[aG (by rw[show(pA L v).l.kind=2 from h3];rfl),show(pA L (nx L v)).l.kind=1 from h2];rfl
def wB.lt{e p v:Nat}(h:wB L e p v)(he:e<L.length):p<L.length/\v<L.length:=by
 have hn:nx L e<L.length:=dk _ aa;rcases h.1 with ⟨rfl,rfl⟩|⟨rfl,rfl⟩
 .exact⟨he,hn⟩
 exact⟨hn,he⟩
def Mi(g:cE F L){a b:Nat}(ha:a<L.length)(hb:b<L.length){X:c_}(h:nI F L a b=some X):∃p v q w,C3 F L a b p v q w/\X=dC L (dx (dx (pieces L) p (bJ L q).aA) q (bJ L p).aA) [a,b]:=by
 have hn:0<L.length:=aa;unfold nI at h;split at h
 case isFalse=>cases h
 rename_i hc;simp only[cJ,l7,lS,dh] at hc;obtain⟨h1,h2,h3,h4,h5⟩:=hc;cases h;obtain⟨ea,⟨la,tm,ca⟩,ma,tn,qa⟩:=US hn ha h1;obtain⟨eb,⟨lb,uM,cb⟩,mb,tq,qb⟩:=US hn hb h2;have k1:∀ {x:Nat} {l:Let},L[x]?=some l->l.aD=true->(bJ L x).kind=2:=fun h1 h2=>by rw[iL h1];unfold Let.aD at h2;exact dh.1 h2
 have k2:∀ {x:Nat} {l:Let},L[x]?=some l->l.aF=true->(bJ L x).kind=1:=fun h1 h2=>by rw[iL h1];unfold Let.aF at h2;exact dh.1 h2
 exact⟨_,_,_,_,⟨⟨ea,k2 tn qa,k1 tm ca⟩,⟨eb,k2 tq qb,k1 uM cb⟩,h3,h4,h5⟩,rfl⟩
def C3.as{a b p v q w:Nat}(h:C3 F L a b p v q w):nI F L a b=some (dC L (dx (dx (pieces L) p (bJ L q).aA) q (bJ L p).aA) [a,b]):=by unfold nI;rw[h.ea.pv,h.eb.pv];refine aG ?_;simp only[cJ,l7,lS,dh];exact⟨trivial,trivial,h.vw,h.id,h.cor⟩
def C3.symm{a b p v q w:Nat}(h:C3 F L a b p v q w)(ha:a<L.length)(hb:b<L.length):C3 F L b a q w p v:=by refine⟨h.eb,h.ea,h.vw.symm,h.id.symm,?_⟩;have h6:=h.cor;rw[BC (e0:=a) rfl ha] at h6;rw[BC (e0:=b) rfl hb,Lb (List.Perm.swap a b [])];exact h6
def KQ{y:Nat}(h:(bJ L x).kind=1)(k:(bJ L y).kind=2):x≠y:=fun e=>by rw[e,k] at h;cases h
def C3.pq(g:cE F L){a b p v q w:Nat}(h:C3 F L a b p v q w)(ha:a<L.length)(hb:b<L.length)(dU:a≠b):p≠q:=by
 obtain⟨⟨ea,kp,kv⟩,⟨eb,kq,kw⟩,Cc,hid,yf⟩:=h;obtain⟨hp,hv⟩:=wB.lt ⟨ea,kp,kv⟩ ha;obtain⟨hq,hw⟩:=wB.lt ⟨eb,kq,kw⟩ hb;obtain⟨ma,tn⟩:=aN hp;obtain⟨la,tm⟩:=aN hv;obtain⟨mb,tq⟩:=aN hq;obtain⟨lb,uM⟩:=aN hw;rw[iL tn] at kp;rw[iL tm] at kv hid;rw[iL tq] at kq;rw[iL uM] at kw hid;have cP:∀ {l:Let},l.kind=1->l.aF=true:=fun h=>by unfold Let.aF;rw[h];rfl
 have cC:∀ {l:Let},l.kind=2->l.aD=true:=fun h=>by unfold Let.aD;rw[h];rfl
 obtain⟨wk,hwk,lX,d,d1,d2,d3,d4,two,cs⟩:=ZE g ha hb dU ea eb tm uM tn tq (cC kv) (cC kw) (cP kp) (cP kq) hid Cc yf;have key:∀ {x y u z:Nat} {lx lz lu:Let},oT L.length d=x->oT L.length (aQ L d)=z->oH L.length (aQ L d)=y->L[x]?=some lx->L[y]?=some lu->L[z]?=some lz->lu.kind=1->lz.kind=2->x≠y:=by
  intro x y u z lx lz lu e1 e2 e3 hx hy hz ku kz;obtain⟨u',m,y',y1,y2,y3,qK,y4⟩:=Uw g hwk lX d3 (v:=oH L.length (aQ L d)) (fw:=ba (aQ L d)) (Dq d4) (by rw[e3];exact hy) (cP ku);have hu:=(aW.1 y2).1;have yT:∀f,oT L.length (dB L.length u' f)=u'/\dB L.length u' f<2*L.length:=fun f=>⟨(GS hu).1,by
   have:=xM hu (!f);rw[<- zV] at this;have:=zW this;rwa[zX] at this⟩
  have vF:oT L.length y'=u'/\y'<2*L.length:=by rcases y4 with ⟨_,_,e⟩|⟨_,_,e⟩<;>rw[e]<;>exact yT _
  have hm:m.aA≠lu.aA:=by rcases y4 with ⟨_,e,_⟩|⟨_,e,_⟩<;>omega
  rcases two y' y1 vF.2 with e|e
  .rw[e,e1] at vF;rw[<- vF.1,hx] at y2;have:=pz y2;intro e4;rw[e4,hy] at hx;have:=pz hx;apply hm
   simp_all
  exfalso;rw[e,e2] at vF;rw[<- vF.1,hz] at y2;have h5:=pz y2;rw[h5] at kz;unfold Let.aF at y3;rw[kz] at y3;cases y3
 rcases cs with ⟨_,_,e1,_,e2,e3⟩|⟨_,_,e1,_,e2,e3⟩
 .exact key (u:=0) e1 e2 e3 tn tq uM kq kw
 exact(key (u:=0) e1 e2 e3 tq tn tm kp kv).symm
def C3.dj(g:cE F L){a b p v q w:Nat}(h:C3 F L a b p v q w)(ha:a<L.length)(hb:b<L.length)(dU:a≠b):rW L a b:=by
 have wR:=h.pq g ha hb dU;obtain⟨⟨ea,kp,kv⟩,⟨eb,kq,kw⟩,Cc,_⟩:=h;have h1:=KQ kp kw;have h2:=KQ kq kv;rcases ea with ⟨e1,e2⟩|⟨e1,e2⟩<;>rcases eb with ⟨e3,e4⟩|⟨e3,e4⟩<;>subst e1 e2 e3 e4
 .exact⟨wR,h1,h2.symm,Cc⟩
 .exact⟨h1,wR,Cc,h2.symm⟩
 .exact⟨h2.symm,Cc,wR,h1⟩
 exact⟨Cc,h2.symm,h1,wR⟩
def dw.ed(i:dw F L M r s t){e p v:Nat}(he:e<L.length)(h:wB L e p v):wB M (eJ L.length r s e) (s p) (s v):=by
 obtain⟨hp,hv⟩:=h.lt he;obtain⟨h1,h2,h3⟩:=h;refine⟨?_,(i.uS hp).1.trans h2,(i.uS hv).1.trans h3⟩;rcases i.ends he with ⟨_,k1,k2⟩|⟨_,k1,k2⟩<;>rw[k2,k1]<;>rcases h1 with ⟨rfl,rfl⟩|⟨rfl,rfl⟩
 .exact .inl ⟨rfl,rfl⟩
 .exact .inr ⟨rfl,rfl⟩
 .exact .inr ⟨rfl,rfl⟩
 exact .inl ⟨rfl,rfl⟩
def dw.c3(i:dw F L M r s t){a b p v q w:Nat}(ha:a<L.length)(hb:b<L.length)(h:C3 F L a b p v q w):C3 F M (eJ L.length r s a) (eJ L.length r s b) (s p) (s v) (s q) (s w):=by obtain⟨hp,hv⟩:=h.ea.lt ha;obtain⟨hq,hw⟩:=h.eb.lt hb;refine⟨i.ed ha h.ea,i.ed hb h.eb,fun e=>h.vw (i.inj hv hw e),(i.Ch hv hw h.ea.2.2 h.eb.2.2).2 h.id,?_⟩;exact i.WG (edges:=[a,b]) (fun e he=>by simp only[ch,eL,or_false] at he;rcases he with rfl|rfl<;>assumption) rfl h.cor (List.Perm.refl _) rfl
def dw.k3(i:dw F L M r s t){a b:Nat}(dU:a<b)(hb:b<L.length){X:c_}(h:nI F L a b=some X)(vX:cX (F:Int) (dT X)=0):∃a' b' Y,a'<b'/\b'<M.length/\nI F M a' b'=some Y/\lI (dT Y) (dT X):=by
 have ha:a<L.length:=aa;obtain⟨p,v,q,w,c,rfl⟩:=Mi i.g ha hb h;have aK:a≠b:=aa;obtain⟨hp,hv⟩:=c.ea.lt ha;obtain⟨hq,hw⟩:=c.eb.lt hb;have bd:=bk L;have kY:=bk M;have c':=i.c3 ha hb c;have la:eJ L.length r s a<M.length:=by rw[i.len];exact i.MR ha
 have lb:eJ L.length r s b<M.length:=by rw[i.len];exact i.MR hb
 have BY:eJ L.length r s a≠eJ L.length r s b:=fun e=>aK (by rw[<- i.QB ha,<- i.QB hb,e]);have dj:=c'.dj i.g' la lb BY;have pq:=c'.pq i.g' la lb BY;obtain⟨lp',lv'⟩:=c'.ea.lt la;obtain⟨lq',lw'⟩:=c'.eb.lt lb;have hX:=Jm i.g ha hb aK h;have rq:=(i.uS hq).2.2.1;have rp:=(i.uS hp).2.2.1;have Ol:∀(Z:c_) (p q:Nat) (a b:Int),(dx (dx Z p a) q b).length=Z.length:=fun Z p q a b=>by rw[nv,nv]
 have base:CT L M s (dx (dx (pieces L) p (bJ L q).aA) q (bJ L p).aA) (dx (dx (pieces M) (s p) (bJ M (s q)).aA) (s q) (bJ M (s p)).aA):=by rw[rq,rp];exact i.abJ (i.abJ i.abH hp _) hq _
 have hC:=i.abI (es:=[a,b]) (by rw[Ol,bd]) (by rw[Ol,kY]) base (fun e he=>by simp only[ch,eL,or_false] at he;rcases he with rfl|rfl<;>assumption)
 have aoc:(dC L (dx (dx (pieces L) p (bJ L q).aA) q (bJ L p).aA) [a,b]).length=L.length:=by rw[qy,Ol,bd]
 have done:∀a' b' Y,a'<b'->b'<M.length->nI F M a' b'=some Y->Y=dC M (dx (dx (pieces M) (s p) (bJ M (s q)).aA) (s q) (bJ M (s p)).aA) ([a,b].map (eJ L.length r s))->∃a' b' Y,a'<b'/\b'<M.length/\nI F M a' b'=some Y/\lI (dT Y) (dT (dC L (dx (dx (pieces L) p (bJ L q).aA) q (bJ L p).aA) [a,b])):=fun a' b' Y h1 h2 h3 h4=>by refine⟨a',b',Y,h1,h2,h3,?_⟩;have cY:=Jm i.g' (a:=a') (b:=b') aa h2 aa h3;rw[<- h4] at hC;exact i.acO aoc (by rw[h4,qy,Ol,kY,i.len]) hX cY vX hC
 by_cases aB:eJ L.length r s a<eJ L.length r s b
 .exact done _ _ _ aB lb c'.as rfl
 refine done _ _ _ (show eJ L.length r s b<eJ L.length r s a by omega) la (c'.symm la lb).as ?_;rw[ahG (X:=pieces M) (p:=s q) (q:=s p) aa aa (Ne.symm pq)];refine Vp (List.Perm.swap _ _ []) (by rw[Ol,kY]) (fun e he=>?_) ?_
 .simp only[ch,eL,or_false] at he;rcases he with rfl|rfl<;>assumption
 simp only[mB,ch,eL,or_false,false_imp_iff,implies_true,and_true,forall_eq,List.Pairwise.nil];exact⟨dj.1.symm,dj.2.2.1.symm,dj.2.1.symm,dj.2.2.2.symm⟩
end
def Qq{l l':d_}(h:∀x,x∈l↔x∈l'):(iQ l).length=(iQ l').length:=
 ((VL (ME l) (ME l')).2 fun x=>by rw[Az,Az,h]).length_eq
def WU{f:Int->Int}{l:d_}(hf:∀x∈l,∀y∈l,f x=f y->x=y):(iQ (l.map f)).length=(iQ l).length:=by have hn:((iQ l).map f).Nodup:=yN.2 ((ME l).imp_of_mem fun hx hy h e=>h (hf _ (Az.1 hx) _ (Az.1 hy) e));rw[show(iQ l).length=((iQ l).map f).length by rw[cU]];refine((VL (ME _) hn).2 fun x=>?_).length_eq;rw[Az,cV,cV];exact⟨fun⟨a,h1,h2⟩=>⟨a,Az.2 h1,h2⟩,fun⟨a,h1,h2⟩=>⟨a,Az.1 h1,h2⟩⟩
def vR(F:Nat)(L:ai)(es:a_)(e0:Nat):Bool:=es.all (ru L)&&(((iQ (my L es)).length==6)&&(((iQ (re L es)).length==3)&&(es.any (iB L · true)&&(es.any (iB L · false)&&kQ F L 0 es e0))))
section
variable {F:Nat} {L M:ai} {r:Bool} {s t:Nat->Nat}
def aim{es im:a_}{e0 GW:Nat}(he:∀e∈es,e<L.length)(hp:es.Perm im)(h0:es[0]?=some e0)(Nz:im[0]?=some GW)(h:vR F L es e0=true):vR F L im GW=true:=by
 have hm:∀x,x∈es↔x∈im:=fun x=>hp.mem_iff;have any_eq:∀q:Nat->Bool,im.any q=es.any q:=fun q=>by rw[EG,u5,u5];exact⟨fun⟨x,a,b⟩=>⟨x,(hm x).2 a,b⟩,fun⟨x,a,b⟩=>⟨x,(hm x).1 a,b⟩⟩
 have all_eq:im.all (ru L)=es.all (ru L):=by rw[EG,gj,gj];exact⟨fun h x a=>h x ((hm x).1 a),fun h x a=>h x ((hm x).2 a)⟩
 have fm:∀f:Nat->d_,(iQ (im.flatMap f)).length=(iQ (es.flatMap f)).length:=fun f=>Qq fun x=>by rw[CR,CR];exact⟨fun⟨x,a,b⟩=>⟨x,(hm x).2 a,b⟩,fun⟨x,a,b⟩=>⟨x,(hm x).1 a,b⟩⟩
 have hc:kQ F L 0 im GW=kQ F L 0 es e0:=by rw[BC h0 (he _ (aZ h0)),BC Nz (he _ (hp.mem_iff.2 (aZ Nz))),Lb hp]
 unfold vR my re at h |-;rw[any_eq,any_eq,all_eq,fm,fm,hc];exact h
def dw.bo(i:dw F L M r s t){e:Nat}(he:e<L.length)(o:Bool):iB M (eJ L.length r s e) o=iB L e o/\ru M (eJ L.length r s e)=ru L e:=by
 have hn:nx L e<L.length:=dk _ aa;obtain⟨k1,_,_,_,k2⟩:=i.uS he;obtain⟨m1,_,_,_,m2⟩:=i.uS hn;unfold iB ru;have e1:∀x,(pA M x).l=bJ M x:=fun _=>rfl;have e2:∀x,(pA L x).l=bJ L x:=fun _=>rfl;rw[e1,e1,e2,e2];rcases i.ends he with ⟨_,p1,p2⟩|⟨_,p1,p2⟩<;>rw[p2,p1,k1,k2,m1,m2]
 .exact⟨rfl,rfl⟩
 constructor
 .cases ((bJ L e).kind==2)<;>cases ((bJ L (nx L e)).kind==2)<;>cases ((bJ L e).over==o)<;>cases ((bJ L (nx L e)).over==o)<;>rfl
 exact Bool.and_comm _ _
def dw.tg(i:dw F L M r s t){es:a_}{e0:Nat}(he:∀e∈es,e<L.length)(h0:es[0]?=some e0)(h:vR F L es e0=true):vR F M (es.map (eJ L.length r s)) (eJ L.length r s e0)=true:=by
 have hn:∀e∈es,nx L e<L.length:=fun e h=>dk _ (by have:=he e h;omega);unfold vR at h |-;simp only[cJ,dh] at h |-;obtain⟨h1,h2,h3,h4,h5,h6⟩:=h;have fg:∀e∈es,(bJ L e).kind=2/\(bJ L (nx L e)).kind=2:=fun e hm=>by have:=gj.1 h1 e hm;unfold ru at this;rw[cJ,dh,dh] at this;exact this
 have any_:∀o,es.any (iB L · o)=true->(es.map (eJ L.length r s)).any (iB M · o)=true:=fun o h=>by obtain⟨e,hm,hb⟩:=u5.1 h;exact u5.2 ⟨_,cV.2 ⟨e,hm,rfl⟩,by rw[(i.bo (he e hm) o).1];exact hb⟩
 obtain⟨f,hf⟩:=aek (P:=pieces L) (Q:=pieces M) (s:=s) (fun u v p p' q q' hp gI hq rH cp mF=>by have a1:=(aW.1 hp).1;have a2:=(aW.1 gI).1;rw[bk] at a1 a2;rw[<- iU hp] at cp |-;rw[<- iU gI] at mF |-;rw[<- iU hq,<- iU rH];exact i.Ch a1 a2 (by unfold Let.aD at cp;exact dh.1 cp) (by unfold Let.aD at mF;exact dh.1 mF))
 have hid:∀v,v<L.length->(bJ L v).kind=2->(bJ M (s v)).id=f (bJ L v).id:=fun v hv hk=>by obtain⟨p,hp⟩:=aN (ls:=pieces L) (k:=v) (by rw[bk];exact hv);obtain⟨q,hq⟩:=aN (ls:=pieces M) (k:=s v) (by rw[bk,i.len];exact i.lt v hv);have:=hf v p q hp hq (by unfold Let.aD;rw[<- iU hp];rw[show(pA L v).l.kind=2 from hk];rfl);rw[<- iU hp,<- iU hq] at this;exact this
 refine⟨?_,?_,?_,any_ true h4,any_ false h5,i.WG he h0 h6 (List.Perm.refl _) (by rw[gk,h0];rfl)⟩
 .rw[gj];intro x hx;obtain⟨e,hm,rfl⟩:=cV.1 hx;rw[(i.bo (he e hm) true).2];exact gj.1 h1 e hm
 .have e1:(iQ (my M (es.map (eJ L.length r s)))).length=(iQ ((my L es).map fun z=>((s z.toNat:Nat):Int))).length:=Qq fun x=>by
   unfold my;simp only[CR,cV,ch,eL,or_false];constructor
   .rintro ⟨_,⟨e,hm,rfl⟩,hx⟩
    rcases i.ends (he e hm) with ⟨_,p1,p2⟩|⟨_,p1,p2⟩<;>rw[p2,p1] at hx<;>rcases hx with rfl|rfl
    .exact⟨_,⟨e,hm,.inl rfl⟩,by rw[tL]⟩
    .exact⟨_,⟨e,hm,.inr rfl⟩,by rw[tL]⟩
    .exact⟨_,⟨e,hm,.inr rfl⟩,by rw[tL]⟩
    exact⟨_,⟨e,hm,.inl rfl⟩,by rw[tL]⟩
   rintro ⟨_,⟨e,hm,hx⟩,rfl⟩
   refine⟨_,⟨e,hm,rfl⟩,?_⟩;rcases i.ends (he e hm) with ⟨_,p1,p2⟩|⟨_,p1,p2⟩<;>rw[p2,p1]<;>rcases hx with rfl|rfl<;>rw[tL]
   .exact .inl rfl
   .exact .inr rfl
   .exact .inr rfl
   exact .inl rfl
  rw[e1,WU,h2];intro x hx y hy jc;have key:∀x∈my L es,∃n:Nat,n<L.length/\x=(n:Int):=fun x hx=>by
   unfold my at hx;obtain⟨e,hm,hx⟩:=CR.1 hx;simp only[ch,eL,or_false] at hx;rcases hx with rfl|rfl
   .exact⟨e,he e hm,rfl⟩
   exact⟨_,hn e hm,rfl⟩
  obtain⟨a,ha,rfl⟩:=key x hx;obtain⟨b,hb,rfl⟩:=key y hy;rw[tL,tL] at jc;rw[i.inj ha hb aa]
 have e1:(iQ (re M (es.map (eJ L.length r s)))).length=(iQ ((re L es).map f)).length:=Qq fun x=>by
  unfold re;simp only[CR,cV,ch,eL,or_false];have e1:∀x,(pA M x).l=bJ M x:=fun _=>rfl;have e2:∀x,(pA L x).l=bJ L x:=fun _=>rfl;simp only[e1,e2];constructor
  .rintro ⟨_,⟨e,hm,rfl⟩,hx⟩
   have q1:=hid e (he e hm) (fg e hm).1;have q2:=hid _ (hn e hm) (fg e hm).2;rcases i.ends (he e hm) with ⟨_,p1,p2⟩|⟨_,p1,p2⟩<;>rw[p2,p1,q1,q2] at hx<;>rcases hx with rfl|rfl
   .exact⟨_,⟨e,hm,.inl rfl⟩,rfl⟩
   .exact⟨_,⟨e,hm,.inr rfl⟩,rfl⟩
   .exact⟨_,⟨e,hm,.inr rfl⟩,rfl⟩
   exact⟨_,⟨e,hm,.inl rfl⟩,rfl⟩
  rintro ⟨_,⟨e,hm,hx⟩,rfl⟩
  have q1:=hid e (he e hm) (fg e hm).1;have q2:=hid _ (hn e hm) (fg e hm).2;refine⟨_,⟨e,hm,rfl⟩,?_⟩;rcases i.ends (he e hm) with ⟨_,p1,p2⟩|⟨_,p1,p2⟩<;>rw[p2,p1,q1,q2]<;>rcases hx with rfl|rfl
  .exact .inl rfl
  .exact .inr rfl
  .exact .inr rfl
  exact .inl rfl
 rw[e1,WU,h3];intro x hx y hy jc;have key:∀x∈re L es,∃v,v<L.length/\(bJ L v).kind=2/\x=(bJ L v).id:=fun x hx=>by
  unfold re at hx;obtain⟨e,hm,hx⟩:=CR.1 hx;simp only[ch,eL,or_false] at hx;rcases hx with rfl|rfl
  .exact⟨e,he e hm,(fg e hm).1,rfl⟩
  exact⟨_,hn e hm,(fg e hm).2,rfl⟩
 obtain⟨a,ha,ka,rfl⟩:=key x hx;obtain⟨b,hb,kb,rfl⟩:=key y hy;rw[<- hid a ha ka,<- hid b hb kb] at jc;exact(i.Ch ha hb ka kb).1 jc
def auh{y:Nat}(h:x≠y):∃a b,a<b/\[x,y].Perm [a,b]:=by
 by_cases c:x<y
 .exact⟨x,y,c,List.Perm.refl _⟩
 exact⟨y,x,aa,List.Perm.swap _ _ _⟩
def ah3{y z:Nat}(h1:x≠y)(h2:x≠z)(h3:y≠z):∃a b c,a<b/\b<c/\[x,y,z].Perm [a,b,c]:=by
 obtain⟨a,b,dU,hp⟩:=auh h3;have ml:[x,y,z].Perm [x,a,b]:=hp.cons x;have ha:a=y\/a=z:=by have:=hp.mem_iff.2 (show a∈[a,b] by simp);simpa using this
 have hb:b=y\/b=z:=by have:=hp.mem_iff.2 (show b∈[a,b] by simp);simpa using this
 by_cases c1:x<a
 .exact⟨x,a,b,c1,dU,ml⟩
 by_cases c2:x<b
 .exact⟨a,x,b,aa,c2,ml.trans (List.Perm.swap _ _ _)⟩
 exact⟨a,b,x,dU,aa,ml.trans ((List.Perm.swap _ _ _).trans ((List.Perm.swap _ _ _).cons a))⟩
def ZR{es:a_}(h3:es.length=3)(h:(iQ (my L es)).length=6):es.Pairwise (rW L):=by
 match es,h3 with
 |[a,b,c],_=>have gH:(my L [a,b,c]).Nodup:=ab1 (by rw[h];rfl);have gH:(([a,nx L a,b,nx L b,c,nx L c]:a_).map fun i:Nat=>(i:Int)).Nodup:=gH;simp only[eD,kL,rj,ch,eL,or_false,not_or,xE,and_true,not_false_eq_true] at gH;unfold rW;simp only[mB,ch,eL,or_false,false_imp_iff,implies_true,and_true,List.Pairwise.nil,forall_eq_or_imp,forall_eq];omega
def dw.k8(i:dw F L M r s t){a b c:Nat}(dU:a<b)(wJ:b<c)(hc:c<L.length){X:c_}(h:mR F L a b c=some X)(vX:cX (F:Int) (dT X)=0):∃a' b' c' Y,a'<b'/\b'<c'/\c'<M.length/\mR F M a' b' c'=some Y/\lI (dT Y) (dT X):=by
 have hX:=Jn i.g aa aa hc h;unfold mR at h;split at h
 case isFalse=>cases h
 rename_i ht;cases h;have gG:∀e∈[a,b,c],e<L.length:=fun e he=>by simp only[ch,eL,or_false] at he;rcases he with rfl|rfl|rfl<;>omega
 have ht:vR F L [a,b,c] a=true:=ht;have DZ:=i.tg gG rfl ht;have Hr:∀e∈[a,b,c].map (eJ L.length r s),e<M.length:=fun e he=>by obtain⟨x,hx,rfl⟩:=cV.1 he;rw[i.len];exact i.MR (gG x hx)
 have ne:∀x y,x<L.length->y<L.length->x≠y->eJ L.length r s x≠eJ L.length r s y:=fun x y hx hy h e=>h (by rw[<- i.QB hx,<- i.QB hy,e]);obtain⟨a',b',c',h1,h2,hp⟩:=ah3 (ne a b aa aa aa) (ne a c aa hc aa) (ne b c aa hc aa);have hp:([a,b,c].map (eJ L.length r s)).Perm [a',b',c']:=hp;have r9:=aim Hr hp rfl rfl DZ;have iz:c'<M.length:=Hr c' (hp.mem_iff.2 af);have hY:mR F M a' b' c'=some (dC M (pieces M) [a',b',c']):=aG r9;refine⟨a',b',c',_,h1,h2,iz,hY,?_⟩;have cY:=Jn i.g' aa aa iz hY;have kY:=bk M;have dj:([a,b,c].map (eJ L.length r s)).Pairwise (rW M):=ZR rfl (by unfold vR at DZ;simp only[cJ,dh] at DZ;exact DZ.2.1)
 have yt:=Vp hp (X:=pieces M) kY Hr dj;rw[<- yt] at cY |-;exact i.acO (by rw[qy,bk]) (by rw[qy,kY,i.len]) hX cY vX (i.abI (bk L) kY i.abH gG)
end
section
variable {F:Nat} {L M:ai} {r:Bool} {s t:Nat->Nat}
def Wc(g:cE F L){m:aV}(hk:k5 m.k):fi F L m=if dr F L m.k m.a m.b m.c m.l m.o m.s=true then (qU F L m.k m.a.toNat m.b.toNat m.c.toNat m.l m.o m.s).map dT else none:=by
 have hg:mJ m.k=(0,0):=by unfold k5 at hk;rcases hk with h|h|h|h|h<;>rw[h]<;>rfl
 have h1:=g.len;have h2:=g.cr;unfold fi;rw[aC g.ne,hg];split
 .cases qU F L m.k m.a.toNat m.b.toNat m.c.toNat m.l m.o m.s with
  |none=>rfl
  |some X=>dsimp only;rw[aC aa];rfl
 rfl
def By(g:cE F L){m:aV}(hk:k5 m.k){X:ai}(h:fi F L m=some X):cX (F:Int) X=0/\dr F L m.k m.a m.b m.c m.l m.o m.s=true/\ ∃P,qU F L m.k m.a.toNat m.b.toNat m.c.toNat m.l m.o m.s=some P/\X=dT P:=by
 rw[Wc g hk] at h;split at h
 case isFalse=>cases h
 rename_i hA;obtain⟨P,hP,rfl⟩:=ef.1 h;refine⟨?_,hA,P,hP,rfl⟩;rcases PZ g hk m.a m.b m.c m.l m.o m.s with ⟨e,he,h1⟩|⟨M',h1,h2,h3,Q,h4,rfl⟩
 .exfalso;have hg:mJ m.k=(0,0):=by
   unfold k5 at hk;rcases hk with h|h|h|h|h<;>rw[h]<;>rfl
  have k1:=g.len;have k2:=g.cr;unfold pI at h1;rw[aG hA,hP] at h1;have e2:AN F L m.k (some P)=l5 F (dT P):=aC (by rw[hg];dsimp only;omega);rw[e2] at h1;exact asO he h1
 rw[hP] at h4;cases h4;exact h2
abbrev mv2(k:Int)(a b:Nat):aV:=⟨k,a,b,0,false,false,0⟩
abbrev mv3(k:Int)(a b c:Nat):aV:=⟨k,a,b,c,false,false,0⟩
def aaO{k a b c sg:Int}{l o:Bool}(hk:k=1\/k=4):dr F L k a b c l o sg=true↔ ∃av:Nat,av<L.length/\a=av/\b=0/\c=0/\l=false/\o=false/\sg=0:=by
 unfold dr;rcases hk with rfl|rfl
 all_goals
  simp only[Int.reduceEq,if_true,if_false,or_false,or_true,cJ,l7,dh];constructor
  .rintro ⟨rfl,rfl,rfl,hx,rfl,rfl⟩
   obtain⟨av,rfl,ha⟩:=nT hx;exact⟨av,ha,rfl,rfl,rfl,rfl,rfl,rfl⟩
  rintro ⟨av,ha,rfl,rfl,rfl,rfl,rfl,rfl⟩
  exact⟨rfl,rfl,rfl,by unfold jx;simp;omega,rfl,rfl⟩
def EW{k a b c sg:Int}{l o:Bool}(hk:k=3\/k=6):dr F L k a b c l o sg=true↔ ∃av bv:Nat,av<bv/\bv<L.length/\a=av/\b=bv/\c=0/\l=false/\o=false/\sg=0:=by
 unfold dr;rcases hk with rfl|rfl
 all_goals
  simp only[Int.reduceEq,if_true,if_false,or_false,or_true,cJ,l7,dh,l9];constructor
  .rintro ⟨rfl,rfl,rfl,hx,rfl,hy,aB⟩
   obtain⟨av,rfl,ha⟩:=nT hx;obtain⟨bv,rfl,hb⟩:=nT hy;exact⟨av,bv,aa,hb,rfl,rfl,rfl,rfl,rfl,rfl⟩
  rintro ⟨av,bv,dU,hb,rfl,rfl,rfl,rfl,rfl,rfl⟩
  exact⟨rfl,rfl,rfl,by unfold jx;simp;omega,rfl,by unfold jx;simp;omega,aa⟩
def GD{a b c sg:Int}{l o:Bool}:dr F L 8 a b c l o sg=true↔ ∃av bv cv:Nat,av<bv/\bv<cv/\cv<L.length/\a=av/\b=bv/\c=cv/\l=false/\o=false/\sg=0:=by
 unfold dr;simp only[Int.reduceEq,if_true,if_false,or_self,cJ,l7,dh,l9];constructor
 .rintro ⟨rfl,rfl,rfl,hx,hy,hz,h1,h2⟩
  obtain⟨av,rfl,ha⟩:=nT hx;obtain⟨bv,rfl,hb⟩:=nT hy;obtain⟨cv,rfl,hc⟩:=nT hz;exact⟨av,bv,cv,aa,aa,hc,rfl,rfl,rfl,rfl,rfl,rfl⟩
 rintro ⟨av,bv,cv,dU,wJ,hc,rfl,rfl,rfl,rfl,rfl,rfl⟩
 exact⟨rfl,rfl,rfl,by unfold jx;simp;omega,by unfold jx;simp;omega,by unfold jx;simp;omega,aa,aa⟩
def dw.lvl(i:dw F L M r s t){m:aV}{X:ai}(hk:m.k=3\/m.k=8)(h:fi F L m=some X):∃m' Y,m'.k=m.k/\fi F M m'=some Y/\lI Y X:=by
 obtain⟨k,a,b,c,l,o,sg⟩:=m;have hk:k=3\/k=8:=hk;obtain⟨hX,hA,P,hP,rfl⟩:=By i.g (show k5 k by unfold k5;omega) h;simp only at hA hP;have mk:∀(m:aV) (P:c_),k5 m.k->dr F M m.k m.a m.b m.c m.l m.o m.s=true->qU F M m.k m.a.toNat m.b.toNat m.c.toNat m.l m.o m.s=some P->fi F M m=some (dT P):=fun m P hk hA hP=>by rw[Wc i.g' hk,aG hA,hP];rfl
 rcases hk with rfl|rfl
 .obtain⟨av,bv,dU,hb,rfl,rfl,rfl,rfl,rfl,rfl⟩:=(EW (.inl rfl)).1 hA;obtain⟨a',b',Y,h1,h2,h3,h4⟩:=i.k3 dU hb hP hX;exact⟨mv2 3 a' b',_,rfl,mk (mv2 3 a' b') Y (.inr (.inl rfl)) ((EW (.inl rfl)).2 ⟨a',b',h1,h2,rfl,rfl,rfl,rfl,rfl,rfl⟩) h3,h4⟩
 obtain⟨av,bv,cv,dU,wJ,hc,rfl,rfl,rfl,rfl,rfl,rfl⟩:=GD.1 hA;obtain⟨a',b',c',Y,h1,h2,h3,h4,h5⟩:=i.k8 dU wJ hc hP hX;exact⟨mv3 8 a' b' c',_,rfl,mk (mv3 8 a' b' c') Y (.inr (.inr (.inr (.inr rfl)))) (GD.2 ⟨a',b',c',h1,h2,h3,rfl,rfl,rfl,rfl,rfl,rfl⟩) h4,h5⟩
end
def as6{F:Nat}{A B:ai}(gA:cE F A)(gB:cE F B)(h:dd A=dd B){m:aV}{X:ai}(hk:m.k=3\/m.k=8)(hm:fi F A m=some X):∃m' Y,m'.k=m.k/\fi F B m'=some Y/\lI Y X:=by obtain⟨r,s,t,i⟩:=gA.iso gA.sB.2.1;obtain⟨r',s',t',j⟩:=gB.iso gB.sB.2.1;rw[h] at i;obtain⟨m1,Y1,k1,h1,e1⟩:=i.lvl hk hm;obtain⟨m2,Y2,k2,h2,e2⟩:=j.symm.lvl (by rw[k1];exact hk) h1;exact⟨m2,Y2,k2.trans k1,h2,e2.trans e1⟩
end
end Go.Abs
