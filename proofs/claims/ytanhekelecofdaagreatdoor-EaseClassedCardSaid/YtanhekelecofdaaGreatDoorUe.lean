/- A part. -/
import Derived.Test.YtanhekelecofdaaGreatDoorUc
import Derived.Test.YtanhekelecofdaaGreatDoorVb
set_option linter.all false
set_option maxHeartbeats 16000000
namespace Go.Abs
def X4.Tz{g:Bool}{i o j q:eV}(h:X4 g i o j q):X4 (!g) (iX o) (iX i) j q:=by obtain⟨a,b,c,d⟩:=h;cases g<;>simp only[dR,if_false,if_true] at a b c d<;>constructor<;>simp[iX,a,b,c,d]
def X4.TA{g:Bool}{i o j q:eV}(h:X4 g i o j q):X4 (!g) i o (iX q) (iX j):=by obtain⟨a,b,c,d⟩:=h;cases g<;>simp only[dR,if_false,if_true] at a b c d<;>constructor<;>simp[iX,a,b,c,d]
def fS(f:Bool)(x:aS):eV:=if f then x.i else iX x.o
def iM(f:Bool)(x:aS):eV:=if f then x.o else iX x.i
def VT{f f':Bool}{x y:aS}:X4 true (fS f x) (iM f x) (fS f' y) (iM f' y)↔X4 (f==f') x.i x.o y.i y.o:=by
 cases f<;>cases f'<;>simp only[fS,iM,dR,if_false,if_true]
 .exact⟨fun h=>h.Tz.TA,fun h=>h.Tz.TA⟩
 .exact⟨fun h=>h.Tz,fun h=>h.Tz⟩
 .exact⟨fun h=>h.TA,fun h=>h.TA⟩
 exact Iff.rfl
def oT (n d:Nat):Nat:=if d%2=0 then d/2 else (d/2+1)%n
def oH (n d:Nat):Nat:=if d%2=0 then (d/2+1)%n else d/2
def ba(d:Nat):Bool:=d%2==0
section
variable {F:Nat} {ls:ai}
def cS(P:c_)(sd:Nat->eV)(i:Nat):aS:=⟨P.getD i ⟨lN,false⟩,sd ((i+P.length-1)%P.length),sd i⟩
def zG (P:c_)(sd:Nat->eV):j_:=(List.range P.length).map (cS P sd)
def aiT(P:c_)(sd:Nat->eV):(zG P sd).map aS.p=P:=by
 unfold zG;rw[uu];apply xA;intro i;rw[gk];by_cases hi:i<P.length
 .obtain⟨p,hp⟩:=aN hi;rw[tM hi,hp];show some (P.getD i _)=_;rw[dK,hp];rfl
 rw[nZ (by rw[EJ];omega),nZ aa];rfl
def avG(P:c_)(sd:Nat->eV)(h:0<P.length):∃s,ko s (zG P sd) s:=by
 refine⟨sd (P.length-1),?_⟩;have:=agI (cS P sd) (fun i=>sd ((i+P.length-1)%P.length)) P.length 0 fun i _ hi=>⟨rfl,?_⟩
 .simp only[jr] at this;rw[fX aa,show P.length+P.length-1=(P.length-1)+P.length by omega,n9,fX aa,<- List.range_eq_range'] at this;exact this
 show sd i=sd ((i+1+P.length-1)%P.length);rw[show i+1+P.length-1=i+P.length by omega,n9,fX aa]
def abl(g:cE F ls){P:c_}{sd:Nat->eV}{T' B':Nat->Nat->Nat}{tau:Nat}(hl:P.length=ls.length)
  (hC:aq Let.aD (P.map Pc.l)=aq Let.aD ls) (hP:aq Let.aF (P.map Pc.l)=aq Let.aF ls) (hG:∀k,cg (P.map Pc.l) k=cg ls k)
  (ok:∀i,i<ls.length->Bh F (cS P sd i)) (cr:∀i j,i<ls.length->j<ls.length->i≠j->Xr (cS P sd i) (cS P sd j)) (rk:∀i j,i<ls.length->j<ls.length->i≠j->Dr (cS P sd i) (cS P sd j))
  (ids:∀i,i<ls.length->(cS P sd i).k.aD=true->1<=(cS P sd i).k.id/\(cS P sd i).k.id<=((aq Let.aD ls/2:Nat):Int))
  (rr:∀i,i<ls.length->(cS P sd i).k.aF=true->1<=(cS P sd i).k.aA/\(cS P sd i).k.aA<=(cg ls (cS P sd i).k.gate.toNat:Int))
  (pl:∀i,i<ls.length->(cS P sd i).k.aF=true->Io T' B' (cS P sd i))
  (gt:∀k,k<F->T' k (cg ls k)=T' (k+1) 0/\B' k (cg ls k)=B' (k+1) 0) (gz:T' F (cg ls F)=T' 0 0/\B' F (cg ls F)=B' 0 0)
  (wit:∀j,j<ls.length->∀t,(t=(rQ ls j).l\/t=(rQ ls j).r)->t=tau\/ ∃j',j'<ls.length/\(t=(sd j').l\/t=(sd j').r)):Cert F P:=by
 have hn:0<ls.length:=jQ.2 g.ne;have zB:aT (zG P sd)=P.map Pc.l:=by
  show(zG P sd).map (fun x=>x.p.l)=_;have:(zG P sd).map (fun x=>x.p.l)=((zG P sd).map aS.p).map Pc.l:=by rw[uu];rfl
  rw[this,aiT]
 have mem:∀x∈zG P sd,∃i,i<ls.length/\x=cS P sd i:=fun x hx=>by obtain⟨i,hi,rfl⟩:=cV.1 hx;exact⟨i,by have:=iv.1 hi;omega,rfl⟩
 have inz:∀i,i<ls.length->cS P sd i∈zG P sd:=fun i hi=>cV.2 ⟨i,iv.2 aa,rfl⟩;have q:Cq F (zG P sd) T' B':=by
  refine⟨fun x hx=>?_,UF fun i j hi hj ir=>cr i j aa aa ir,?_,fun x hx hc=>?_,UF fun i j hi hj ir=>rk i j aa aa ir,fun x hx hp=>?_,fun x hx hp=>?_,fun k hk=>?_,?_⟩
  .obtain⟨i,hi,rfl⟩:=mem x hx;exact ok i hi
  .rw[zB,hC];have:=g.cz.ev;rwa[mA] at this
  .obtain⟨i,hi,rfl⟩:=mem x hx;rw[zB,hC];exact ids i hi hc
  .obtain⟨i,hi,rfl⟩:=mem x hx;rw[zB,hG];exact rr i hi hp
  .obtain⟨i,hi,rfl⟩:=mem x hx;exact pl i hi hp
  .rw[zB,hG];exact gt k hk
  rw[zB,hG];exact gz
 refine⟨zG P sd,T',B',(List.range (mO ls)).filter (fun s=> ![tau].contains s),aiT P sd,⟨avG P sd aa,q.ok,q.cr,q.ev,q.ids,q.rk,q.rr,q.pl,q.gt,q.gz,?_,Gn.filter _,fun s hs=>?_,?_⟩⟩
 .have:0<aq Let.aF (P.map Pc.l):=by
   rw[hP];obtain⟨l,h1,h2⟩:=g.first;exact Af.2 ⟨l,aZ h1,h2⟩
  rw[<- zB] at this;obtain⟨l,h1,h2⟩:=Af.1 this;obtain⟨x,hx,rfl⟩:=cV.1 h1;exact⟨x,hx,h2⟩
 .obtain⟨h1,h2⟩:=uv.1 hs;have h2:s≠tau:=by simpa using h2
  obtain⟨x,hx,e⟩:=g.cz.wit s h1;obtain⟨j,hj,rfl⟩:=cV.1 hx;have hj:=iv.1 hj;rcases wit j hj s e with h|⟨j',hj',h⟩
  .exact absurd h h2
  exact⟨cS P sd j',inz j' hj',h⟩
 rw[zB,hC,hP];have h1:=acN (L:=[tau]) (Gn (n:=mO ls));have h2:=g.nw;rw[EJ] at h1;simp only[dL,fv] at h1;omega
def Ih(g:cE F ls){d:Nat}(hd:d<2*ls.length):oT ls.length d<ls.length:=by
 unfold oT;split
 .omega
 exact dk _ (jQ.2 g.ne)
def yD(g:cE F ls){d:Nat}(hd:d<2*ls.length):oH ls.length d<ls.length:=by
 unfold oH;split
 .exact dk _ (jQ.2 g.ne)
 omega
def Dq{d:Nat}(hd:d<2*ls.length):d=fZ ls.length (oH ls.length d) (ba d):=by have:=P9 hd;unfold oH ba;exact this
def GS{n v:Nat}{f:Bool}(hv:v<n):oT n (dB n v f)=v/\ba (dB n v f)=f:=by
 unfold oT ba dB;cases f
 .simp only[dR,if_false];have e1:(2*((v+n-1)%n)+1)%2=1:=aa;have e2:(2*((v+n-1)%n)+1)/2=(v+n-1)%n:=aa;rw[e1,e2,vH hv];exact⟨rfl,rfl⟩
 simp only[if_true];have e1:(2*v)%2=0:=aa;have e2:(2*v)/2=v:=aa;rw[e1,e2];exact⟨rfl,rfl⟩
def oK (ls:ai)(d:Nat):eV:=if d%2=0 then rQ ls (d/2) else iX (rQ ls (d/2))
def Kg{d:Nat}(hd:d<2*ls.length):fS (ba d) (eE ls (oH ls.length d))=oK ls d:=by
 unfold fS ba oH oK eE;rcases u9 d with h|h
 .simp only[h,Ak,if_true];rw[vI aa]
 simp[h]
def LF{d:Nat}(hd:d<2*ls.length):iM (ba d) (eE ls (oT ls.length d))=oK ls d:=by
 unfold iM ba oT oK eE;rcases u9 d with h|h
 .simp[h]
 simp only[h,show((1:Nat)==0)=false from rfl,dR,if_false,Ma];rw[vI aa]
def Dl(g:cE F ls){d:Nat}(hd:d<2*ls.length){l:Let}(hl:ls[oH ls.length d]?=some l)(hc:l.aD=true):aQ ls d<2*ls.length/\oT ls.length (aQ ls d)=fQ ls (oH ls.length d)/\gX l=(ba d==ba (aQ ls d))/\
  X4 true (fS (ba d) (eE ls (oH ls.length d))) (iM (ba d) (eE ls (oH ls.length d))) (fS (ba (aQ ls d)) (eE ls (oT ls.length (aQ ls d)))) (iM (ba (aQ ls d)) (eE ls (oT ls.length (aQ ls d)))):=by
 have ok:=g.ok;have hv:=yD g hd;obtain⟨b1,m,hm,mc,mi,mo,ms⟩:=sD ok.cr hl hc;have ho:=(aW.1 hm).1;have e:aQ ls d=dB ls.length (fQ ls (oH ls.length d)) (ba d==gX l):=by
  conv=>lhs;rw[Dq hd]
  rw[yK hl hc];rfl
 obtain⟨a1,a2⟩:=GS (n:=ls.length) (f:=(ba d==gX l)) ho;have aK:oH ls.length d≠fQ ls (oH ls.length d):=by intro ee;rw[<- ee,hl] at hm;have:=pz hm;rw[<- this] at mo;revert mo;cases l.over<;>simp
 have hg:gX l=(ba d==(ba d==gX l)):=by cases ba d<;>cases gX l<;>rfl
 rw[e,a1,a2];refine⟨?_,rfl,hg,?_⟩
 .have:=xM ho (!(ba d==gX l));rw[<- zV] at this;have:=zW this;rwa[zX] at this
 rw[VT,<- hg];have:=(ML g hv ho aK (by rw[eS hl];exact hc) (by rw[eS hm];exact mc) (by rw[eS hl,eS hm];exact mi.symm)).x4;rwa[eS hl] at this
def vQ{l:c_}(hl:l.length=ls.length){e:Nat}(he:e<ls.length)(i:Nat):(eN ls l e)[i]?=if i=nx ls e then l[e]? else if i=e then l[nx ls e]? else l[i]? :=by
 have hn:nx ls e<ls.length:=dk _ aa;obtain⟨p,hp⟩:=aN (ls:=l) (k:=e) aa;obtain⟨q,hq⟩:=aN (ls:=l) (k:=nx ls e) aa;unfold eN;rw[rh,rh,dK,dK,hp,hq,nA];by_cases c1:i=nx ls e
 .subst c1;rw[aG rfl,aG aa,aG rfl];rfl
 rw[aC (Ne.symm c1),aC c1];by_cases c2:i=e
 .subst c2;rw[aG rfl,aG aa,aG rfl];rfl
 rw[aC (Ne.symm c2),aC c2]
def VB(g:cE F ls){w:a_}(hw:w∈gO (aQ ls) (nD ls)){Q:Nat->Prop}(h1:∀x,x<nD ls->(Q (aQ ls x)↔Q x)){x y:Nat}(hx:x∈w)(hy:y∈w):Q x↔Q y:=by
 have e:=Z8 (maps g.ok) (R:=gr (nD ls) (aQ ls)) (fun z hz=>.rel ⟨hz,rfl⟩) hw hx hy;have:=e.inv (f:=fun x=>Q x) fun a b r=>by obtain⟨ha,rfl⟩:=r;exact propext (h1 a ha).symm
 exact Eq.to_iff this
end
def auE:∀(L M:d_),L.Nodup->(∀x∈L,x∈M)->L.length<=M.length:=by
 intro L
 induction L with
 |nil=>intro M _ _;exact cA _
 |cons a L ih=>intro M hn hs;obtain⟨h1,h2⟩:=rj.1 hn;have ha:=hs a af;have:=ih (M.erase a) h2 fun x hx=>(List.mem_erase_of_ne (by rintro rfl;exact h1 hx)).2 (hs x (by simp[hx]));rw[VJ ha] at this;have:0<M.length:=L7 ha;simp only[dL];omega
def ME:∀l:d_,(iQ l).Nodup:=by
 intro l
 induction l with
 |nil=>exact xE
 |cons a l ih=>
  unfold iQ;split
  .exact ih
  rename_i h;exact rj.2 ⟨fun hm=>h (Az.1 hm),ih⟩
def ab1{l:d_}:(iQ l).length=l.length->l.Nodup:=by
 induction l with
 |nil=>intro _;exact xE
 |cons a l ih=>
  have hle:(iQ l).length<=l.length:=auE _ _ (ME l) fun x hx=>Az.1 hx;unfold iQ;rw[rj];split
  .intro e;simp only[dL] at e;omega
  rename_i h;simp only[dL];intro e;exact⟨h,ih aa⟩
def Wx{p:Pc->Bool}{l:c_}{i:Nat}{x y:Pc}(h:l[i]?=some x):(l.set i y).countP p+(if p x then 1 else 0)=l.countP p+(if p y then 1 else 0):=by
 have e:=aup h;have hl:=(aW.1 h).1;have e2:l.set i y=l.take i++y::l.drop (i+1):=by
  conv=>lhs;rw[e]
  rw[List.set_append_right _ _ (by rw[iH];omega),iH,Aj aa,Nat.sub_self];rfl
 rw[e2]
 conv=>rhs;rw[e]
 rw[xz,xz,vY,vY];omega
section
variable {F:Nat} {ls:ai}
def Eu{l:c_}(hl:l.length=ls.length){e:Nat}(he:e<ls.length)(aK:e≠nx ls e)(p:Pc->Bool):(eN ls l e).countP p=l.countP p:=by
 have hn:nx ls e<ls.length:=dk _ aa;obtain⟨x,hx⟩:=aN (ls:=l) (k:=e) aa;obtain⟨y,hy⟩:=aN (ls:=l) (k:=nx ls e) aa;unfold eN;rw[dK,dK,hx,hy];simp only[ow];have h1:=Wx (p:=p) (y:=y) hx;have h2:(l.set e y)[nx ls e]?=some y:=by rw[rh,aC aK];exact hy
 have h3:=Wx (p:=p) (y:=x) h2;omega
def Bg(g:cE F ls){e:Nat}(he:e<ls.length):e≠nx ls e:=by
 have h2:2<=ls.length:=by obtain⟨l,h1,hp⟩:=g.first;have:=g.even;have:0<aq Let.aF ls:=Af.2 ⟨l,aZ h1,hp⟩;have:=sR Let.aF ls;omega
 unfold nx;by_cases c:e+1<ls.length
 .rw[fX c];omega
 rw[show e+1=ls.length by omega,EO];omega
def Lg(p:Let->Bool):aq p ((pieces ls).map Pc.l)=aq p ls:=by
 have:(pieces ls).map Pc.l=ls:=by
  have h:=mA ls;rw[<- h];have e:aT (zF ls)=((zF ls).map aS.p).map Pc.l:=by rw[uu];rfl
  rw[h,<- IE,<- e,h]
 rw[this]
def F9(g:cE F ls){i j:Nat}{l m:Let}(hl:ls[i]?=some l)(hm:ls[j]?=some m)(hc:l.aD=true)(mc:m.aD=true)(e:l.id=m.id)(ir:i≠j):fQ ls i=j:=by obtain⟨_,hp⟩:=g.ids;obtain⟨d1,_⟩:=hp i j l m hl hm hc mc e ir;obtain⟨b1,w,hw,wc,wi,wo,ws⟩:=sD g.ok.cr hl hc;refine Classical.byContradiction fun aK=>?_;have d3:=(hp _ _ w m hw hm wc mc (by rw[wi,e]) aK).1;rw[wo] at d3;revert d1 d3;cases l.over<;>cases m.over<;>simp
def aiq(g:cE F ls){w:a_}(hw:w∈gO (aQ ls) (nD ls)){p q r:Nat}(hp:p∈w)(hq:q∈w)(hr:r∈w)(pq:p≠q)(pr:p≠r)(qr:q≠r)(lp:p<nD ls)(lq:q<nD ls)(lr:r<nD ls)
  (np:aQ ls p=p\/aQ ls p=q\/aQ ls p=r) (nq:aQ ls q=p\/aQ ls q=q\/aQ ls q=r) (nr:aQ ls r=p\/aQ ls r=q\/aQ ls r=r):
  (aQ ls p=q/\aQ ls q=r/\aQ ls r=p)\/(aQ ls p=r/\aQ ls r=q/\aQ ls q=p):=by
 have inj:=(maps g.ok).inj;have i1:aQ ls p≠aQ ls q:=fun e=>pq (inj _ _ lp lq e);have i2:aQ ls p≠aQ ls r:=fun e=>pr (inj _ _ lp lr e);have i3:aQ ls q≠aQ ls r:=fun e=>qr (inj _ _ lq lr e);have one:∀x y,x∈w->y∈w->x≠y->x<nD ls->aQ ls x≠x:=fun x y hx hy jc lx e=>by have:=VB g hw (Q:=fun t=>t=x) (fun t ht=>⟨fun h=>inj _ _ ht lx (by rw[h,e]),fun h=>by rw[h,e]⟩) hx hy;exact jc (this.1 rfl).symm
 have n1:=one p q hp hq pq lp;have n2:=one q p hq hp (Ne.symm pq) lq;have n3:=one r p hr hp (Ne.symm pr) lr;omega
def WZ{n d i:Nat}:(i≠oT n d/\i≠oH n d)↔(i≠d/2/\i≠(d/2+1)%n):=by
 unfold oT oH;split
 .exact Iff.rfl
 exact And.comm
def Qr{n d d':Nat}(h:d/2≠d'/2/\d/2≠(d'/2+1)%n/\(d/2+1)%n≠d'/2/\(d/2+1)%n≠(d'/2+1)%n):oT n d≠oT n d'/\oT n d≠oH n d'/\oH n d≠oT n d'/\oH n d≠oH n d':=by
 obtain⟨h1,h2,h3,h4⟩:=h;unfold oT oH;split<;>split
 .exact⟨h1,h2,h3,h4⟩
 .exact⟨h2,h1,h4,h3⟩
 .exact⟨h3,h4,h1,h2⟩
 exact⟨h4,h3,h2,h1⟩
def WV{n d:Nat}(h:d/2≠(d/2+1)%n):oT n d≠oH n d:=by
 unfold oT oH;split
 .exact h
 exact h.symm
def uo (f:Bool)(s:eV):eV:=if f then s else iX s
def KM(f:Bool)(x:aS):(fS f x).b=if f then x.i.b else x.o.b:=by cases f<;>rfl
def Ld(f:Bool)(x:aS):(iM f x).b=if f then x.o.b else x.i.b:=by cases f<;>rfl
def MN{P:c_}{sd:Nat->eV}{d:Nat}{k':eV}(hP:P.length=ls.length)(hd:d<2*ls.length)(hk:sd (d/2)=uo (ba d) k')(h1:sd ((d/2+ls.length-1)%ls.length)=rQ ls ((d/2+ls.length-1)%ls.length))(h2:sd (nx ls (d/2))=rQ ls (nx ls (d/2))):
  fS (ba d) (cS P sd (oT ls.length d))=fS (ba d) (eE ls (oT ls.length d))/\iM (ba d) (cS P sd (oT ls.length d))=k'/\fS (ba d) (cS P sd (oH ls.length d))=k'/\iM (ba d) (cS P sd (oH ls.length d))=iM (ba d) (eE ls (oH ls.length d)):=by
 unfold nx at h2;unfold fS iM cS eE oT oH;unfold ba at hk |-;rw[hP];rcases u9 d with h|h
 .simp only[h,Ak,if_true] at hk |-;rw[vI aa,hk,h1,h2];exact⟨rfl,rfl,rfl,rfl⟩
 simp only[h,show((1:Nat)==0)=false from rfl,dR,if_false,Ma] at hk |-;rw[vI aa,hk,h1,h2];exact⟨rfl,rfl,rfl,rfl⟩
def ack{P:c_}{sd:Nat->eV}{i:Nat}(hP:P.length=ls.length)(hi:i<ls.length)(hp:P[i]?=(pieces ls)[i]?)(h1:sd ((i+ls.length-1)%ls.length)=rQ ls ((i+ls.length-1)%ls.length))(h2:sd i=rQ ls i):cS P sd i=eE ls i:=by
 have:P.getD i ⟨lN,false⟩=⟨ls.getD i lN,eW ls i⟩:=by obtain⟨l,hl⟩:=aN hi;rw[dK,hp,jm hl,dK,hl];rfl
 unfold cS eE;rw[hP,h1,h2,this]
def JF{P:c_}{sd:Nat->eV}{i j:Nat}(hj:j<ls.length)(hp:P[i]?=(pieces ls)[j]?):(cS P sd i).p=(eE ls j).p:=by obtain⟨l,hl⟩:=aN hj;show P.getD i _=⟨ls.getD j lN,eW ls j⟩;rw[dK,hp,jm hl,dK,hl];rfl
def Jn(g:cE F ls){a b c:Nat}(ha:a<ls.length)(hb:b<ls.length)(hc:c<ls.length){L:c_}(h:mR F ls a b c=some L):Cert F L:=by
 unfold mR at h;split at h
 case isFalse=>cases h
 rename_i ht;cases h;unfold LH at ht;simp only[cJ,dh] at ht;obtain⟨fg,h6,_,_,_,yf⟩:=ht;have hn:0<ls.length:=jQ.2 g.ne;have bd:=bk ls;have ok:=g.ok
 -- six letters
 have gH:(my ls [a,b,c]).Nodup:=ab1 (by rw[h6];rfl);have gH:(([a,nx ls a,b,nx ls b,c,nx ls c]:a_).map fun i:Nat=>(i:Int)).Nodup:=gH;have six:a≠nx ls a/\a≠b/\a≠nx ls b/\a≠c/\a≠nx ls c/\nx ls a≠b/\nx ls a≠nx ls b/\nx ls a≠c/\nx ls a≠nx ls c/\b≠nx ls b/\b≠c/\b≠nx ls c/\nx ls b≠c/\nx ls b≠nx ls c/\c≠nx ls c:=by simp only[eD,kL,rj,ch,eL,or_false,not_or,xE,and_true,not_false_eq_true] at gH;omega
 have crs:∀e∈[a,b,c],∃l m,ls[e]?=some l/\ls[nx ls e]?=some m/\l.aD=true/\m.aD=true:=fun e he=>by
  have h1:=gj.1 fg e he;have dy:e<ls.length:=by simp only[ch,eL,or_false] at he;rcases he with rfl|rfl|rfl<;>assumption
  obtain⟨l,hl⟩:=aN dy;obtain⟨m,hm⟩:=aN (ls:=ls) (k:=nx ls e) (dk _ hn);have e1:pA ls e=⟨l,eW ls e⟩:=iU (jm hl);have e2:pA ls (nx ls e)=⟨m,eW ls (nx ls e)⟩:=iU (jm hm);unfold ru at h1;rw[e1,e2,cJ] at h1;exact⟨l,m,hl,hm,h1.1,h1.2⟩
 obtain⟨w,hw,_,hlen,hE⟩:=Qm g ha yf;obtain⟨da,tS,qE,tU⟩:=hE a af;obtain⟨db,uB,rz,tV⟩:=hE b af;obtain⟨dc,Fg,yY,yZ⟩:=hE c af;have hN:∀d,d<2*ls.length->d<nD ls:=fun d hd=>by unfold nD;omega
 have three:∀d,d∈w->d<2*ls.length->d=da\/d=db\/d=dc:=fun d h1 h2=>by
  have inD:∀d,d∈w->d<2*ls.length->d∈w.filter fun x=>decide (x<2*ls.length):=fun d h1 h2=>uv.2 ⟨h1,by simpa using h2⟩;have q1:=inD da tS qE;have q2:=inD db uB rz;have q3:=inD dc Fg yY;have q4:=inD d h1 h2;generalize w.filter (fun x=>decide (x<2*ls.length))=D at hlen q1 q2 q3 q4
  match D,hlen with
  |[x,y,z],_=>simp only[ch,eL,or_false] at q1 q2 q3 q4;have:=six.2.1;have:=six.2.2.2.1;have:=six.2.2.2.2.2.2.2.2.2.2.1;omega
 have Hq:∀d,d<2*ls.length->d/2∈[a,b,c]->∃l,ls[oH ls.length d]?=some l/\l.aD=true:=fun d hd he=>by
  obtain⟨l,m,h1,h2,h3,h4⟩:=crs _ he;unfold oH;split
  .exact⟨m,h2,h4⟩
  exact⟨l,h1,h3⟩
 have step:∀d,d∈w->d<2*ls.length->d/2∈[a,b,c]->aQ ls d=da\/aQ ls d=db\/aQ ls d=dc:=fun d hd hl he=>by obtain⟨l,h1,h2⟩:=Hq d hl he;exact three _ (yL (maps ok) hw hd) (Dl g hl h1 h2).1
 have round:∃d1 d2 d3,d1<2*ls.length/\d2<2*ls.length/\d3<2*ls.length/\aQ ls d1=d2/\aQ ls d2=d3/\aQ ls d3=d1/\((d1/2=a/\d2/2=b/\d3/2=c)\/(d1/2=a/\d2/2=c/\d3/2=b)):=by
  have nab:da≠db:=fun e=>six.2.1 (by rw[<- tU,<- tV,e]);have nac:da≠dc:=fun e=>six.2.2.2.1 (by rw[<- tU,<- yZ,e]);have nbc:db≠dc:=fun e=>six.2.2.2.2.2.2.2.2.2.2.1 (by rw[<- tV,<- yZ,e]);rcases aiq g hw tS uB Fg nab nac nbc (hN _ qE) (hN _ rz) (hN _ yY) (step da tS qE (by rw[tU];simp)) (step db uB rz (by rw[tV];simp)) (step dc Fg yY (by rw[yZ];simp)) with ⟨h1,h2,h3⟩|⟨h1,h2,h3⟩
  .exact⟨da,db,dc,qE,rz,yY,h1,h2,h3,.inl ⟨tU,tV,yZ⟩⟩
  exact⟨da,dc,db,qE,yY,rz,h1,h2,h3,.inr ⟨tU,yZ,tV⟩⟩
 clear three step hE hlen tS qE tU uB rz tV Fg yY yZ hw yf;clear gH fg h6;obtain⟨d1,d2,d3,l1,l2,l3,s1,s2,s3,oL⟩:=round
 -- the new pieces
 have ina:a∈[a,b,c]:=af;have inb:b∈[a,b,c]:=af;have inc:c∈[a,b,c]:=af;have DA:(dC ls (pieces ls) [a,b,c]).length=ls.length:=by rw[qy,bd]
 have yt:∀i,(dC ls (pieces ls) [a,b,c])[i]?=if i=nx ls c then (pieces ls)[c]? else if i=c then (pieces ls)[nx ls c]? else if i=nx ls b then (pieces ls)[b]? else if i=b then (pieces ls)[nx ls b]? else if i=nx ls a then (pieces ls)[a]? else if i=a then (pieces ls)[nx ls a]? else (pieces ls)[i]? :=fun i=>by
  show(eN ls (eN ls (eN ls (pieces ls) a) b) c)[i]?=_;have e1:(eN ls (pieces ls) a).length=ls.length:=by rw[tJ,bd]
  have e2:(eN ls (eN ls (pieces ls) a) b).length=ls.length:=by rw[tJ,e1]
  simp only[vQ e2 hc,vQ e1 hb,vQ bd ha];obtain⟨x1,x2,x3,x4,x5,x6,x7,x8,x9,IB,LV,LW,LX,LY,PD⟩:=six;simp only[x2.symm,x3.symm,x4.symm,x5.symm,x6.symm,x7.symm,x8.symm,x9.symm,LV.symm,LW.symm,LX.symm,LY.symm,if_false]
 have ua:∀p:Pc->Bool,(dC ls (pieces ls) [a,b,c]).countP p=(pieces ls).countP p:=fun p=>by
  show(eN ls (eN ls (eN ls (pieces ls) a) b) c).countP p=_;have e1:(eN ls (pieces ls) a).length=ls.length:=by rw[tJ,bd]
  have e2:(eN ls (eN ls (pieces ls) a) b).length=ls.length:=by rw[tJ,e1]
  rw[Eu e2 hc six.2.2.2.2.2.2.2.2.2.2.2.2.2.2,Eu e1 hb six.2.2.2.2.2.2.2.2.2.1,Eu bd ha six.1]
 generalize dC ls (pieces ls) [a,b,c]=P at DA yt ua;obtain⟨x1,x2,x3,x4,x5,x6,x7,x8,x9,IB,LV,LW,LX,LY,PD⟩:=six;have pa:P[a]?=(pieces ls)[nx ls a]? /\P[nx ls a]?=(pieces ls)[a]? :=by
  constructor
  .rw[yt];simp only[x1,x2,x3,x4,x5,if_false,if_true]
  rw[yt];simp only[x6,x7,x8,x9,if_false,if_true]
 have pb:P[b]?=(pieces ls)[nx ls b]? /\P[nx ls b]?=(pieces ls)[b]? :=by
  constructor
  .rw[yt];simp only[IB,LV,LW,if_false,if_true]
  rw[yt];simp only[LX,LY,if_false,if_true]
 have pc:P[c]?=(pieces ls)[nx ls c]? /\P[nx ls c]?=(pieces ls)[c]? :=by
  constructor
  .rw[yt];simp only[PD,if_false,if_true]
  rw[yt];simp only[if_true]
 have pn:∀i,i≠a->i≠nx ls a->i≠b->i≠nx ls b->i≠c->i≠nx ls c->P[i]?=(pieces ls)[i]? :=fun i h1 h2 h3 h4 h5 h6=>by rw[yt];simp only[h1,h2,h3,h4,h5,h6,if_false]
 clear yt
 -- edges and letters by cG
 have pX:∀d,d/2=a\/d/2=b\/d/2=c->P[oT ls.length d]?=(pieces ls)[oH ls.length d]? /\P[oH ls.length d]?=(pieces ls)[oT ls.length d]? :=fun d hd=>by
  have:P[d/2]?=(pieces ls)[nx ls (d/2)]? /\P[nx ls (d/2)]?=(pieces ls)[d/2]? :=by rcases hd with e|e|e<;>rw[e]<;>assumption
  unfold oT oH;rcases u9 d with h|h
  .simp only[h,if_true];exact this
  simp only[h,Ma,if_false];exact this.symm
 have m1:d1/2=a\/d1/2=b\/d1/2=c:=by
  rcases oL with ⟨h,_,_⟩|⟨h,_,_⟩
  .exact .inl h
  exact .inl h
 have m2:d2/2=a\/d2/2=b\/d2/2=c:=by
  rcases oL with ⟨_,h,_⟩|⟨_,h,_⟩
  .exact .inr (.inl h)
  exact .inr (.inr h)
 have m3:d3/2=a\/d3/2=b\/d3/2=c:=by
  rcases oL with ⟨_,_,h⟩|⟨_,_,h⟩
  .exact .inr (.inr h)
  exact .inr (.inl h)
 have mm:∀d,d/2=a\/d/2=b\/d/2=c->d/2∈[a,b,c]:=fun d h=>by simpa using h
 have pn2:∀i,i≠oT ls.length d1->i≠oH ls.length d1->i≠oT ls.length d2->i≠oH ls.length d2->i≠oT ls.length d3->i≠oH ls.length d3->P[i]?=(pieces ls)[i]? /\ ∀d,d/2=a\/d/2=b\/d/2=c->i≠d/2/\i≠nx ls (d/2):=fun i a1 a2 a3 a4 a5 a6=>by
  obtain⟨b1,b2⟩:=WZ.1 ⟨a1,a2⟩;obtain⟨b3,b4⟩:=WZ.1 ⟨a3,a4⟩;obtain⟨b5,b6⟩:=WZ.1 ⟨a5,a6⟩;have key:(i≠a/\i≠nx ls a)/\(i≠b/\i≠nx ls b)/\(i≠c/\i≠nx ls c):=by
   rcases oL with ⟨h1,h2,h3⟩|⟨h1,h2,h3⟩
   .rw[h1] at b1 b2;rw[h2] at b3 b4;rw[h3] at b5 b6;exact⟨⟨b1,b2⟩,⟨b3,b4⟩,b5,b6⟩
   rw[h1] at b1 b2;rw[h2] at b3 b4;rw[h3] at b5 b6;exact⟨⟨b1,b2⟩,⟨b5,b6⟩,b3,b4⟩
  obtain⟨⟨c1,c2⟩,⟨c3,c4⟩,c5,c6⟩:=key;refine⟨pn i c1 c2 c3 c4 c5 c6,fun d hd=>?_⟩;rcases hd with e|e|e<;>rw[e]
  .exact⟨c1,c2⟩
  .exact⟨c3,c4⟩
  exact⟨c5,c6⟩
 have t1:=Ih g l1;have t2:=Ih g l2;have t3:=Ih g l3;have h1:=yD g l1;have h2:=yD g l2;have h3:=yD g l3
 -- all six are different
 have apart:(d1/2≠d2/2/\d1/2≠nx ls (d2/2)/\nx ls (d1/2)≠d2/2/\nx ls (d1/2)≠nx ls (d2/2))/\(d1/2≠d3/2/\d1/2≠nx ls (d3/2)/\nx ls (d1/2)≠d3/2/\nx ls (d1/2)≠nx ls (d3/2))/\(d2/2≠d3/2/\d2/2≠nx ls (d3/2)/\nx ls (d2/2)≠d3/2/\nx ls (d2/2)≠nx ls (d3/2))/\d1/2≠nx ls (d1/2)/\d2/2≠nx ls (d2/2)/\d3/2≠nx ls (d3/2):=by
  rcases oL with ⟨h1,h2,h3⟩|⟨h1,h2,h3⟩<;>rw[h1,h2,h3]
  .exact⟨⟨x2,x3,x6,x7⟩,⟨x4,x5,x8,x9⟩,⟨LV,LW,LX,LY⟩,x1,IB,PD⟩
  exact⟨⟨x4,x5,x8,x9⟩,⟨x2,x3,x6,x7⟩,⟨LV.symm,LX.symm,LW.symm,LY.symm⟩,x1,PD,IB⟩
 obtain⟨y1,y2,y3,y4,y5,y6⟩:=apart;have f12:=Qr y1;have f13:=Qr y2;have f23:=Qr y3;have g1:=WV y4;have g2:=WV y5;have g3:=WV y6
 -- the old corners
 obtain⟨u1,Bd,Ju⟩:=Hq d1 l1 (mm d1 m1);obtain⟨u2,vE,Jv⟩:=Hq d2 l2 (mm d2 m2);obtain⟨u3,wV,Jw⟩:=Hq d3 l3 (mm d3 m3);obtain⟨_,o1,q1,k1⟩:=Dl g l1 Bd Ju;obtain⟨_,o2,q2,k2⟩:=Dl g l2 vE Jv;obtain⟨_,o3,q3,k3⟩:=Dl g l3 wV Jw;rw[s1] at o1 q1 k1;rw[s2] at o2 q2 k2;rw[s3] at o3 q3 k3;clear s1 s2 s3 oL pn pa pb pc x1 x2 x3 x4 x5 x6 x7 x8 x9 IB LV LW LX LY PD crs Hq mm ina inb inc;have ti1:=LF (ls:=ls) l1;have ti2:=LF (ls:=ls) l2;have ti3:=LF (ls:=ls) l3;have kX:=Kg (ls:=ls) l1;have hi2:=Kg (ls:=ls) l2
 have hi3:=Kg (ls:=ls) l3;rw[kX,ti2] at k1;rw[hi2,ti3] at k2;rw[hi3,ti1] at k3;obtain⟨a1,b1,c1,e1⟩:=k1;obtain⟨a2,b2,c2,e2⟩:=k2;obtain⟨a3,b3,c3,e3⟩:=k3;simp only[if_true] at a1 b1 c1 e1 a2 b2 c2 e2 a3 b3 c3 e3
 let tau:=(oK ls d1).l
 let K1:eV:=⟨(fS (ba d3) (eE ls (oT ls.length d3))).r,tau,(fS (ba d1) (eE ls (oT ls.length d1))).b⟩
 let K2:eV:=⟨(fS (ba d1) (eE ls (oT ls.length d1))).r,tau,(fS (ba d2) (eE ls (oT ls.length d2))).b⟩
 let K3:eV:=⟨(fS (ba d2) (eE ls (oT ls.length d2))).r,tau,(fS (ba d3) (eE ls (oT ls.length d3))).b⟩
 let sd:Nat->eV:=fun j=>if j=d1/2 then uo (ba d1) K1 else if j=d2/2 then uo (ba d2) K2 else if j=d3/2 then uo (ba d3) K3 else rQ ls j
 have sd1:sd (d1/2)=uo (ba d1) K1:=aG rfl;have sd2:sd (d2/2)=uo (ba d2) K2:=by show(if _ then _ else _)=_;rw[aC (Ne.symm y1.1),aG rfl]
 have sd3:sd (d3/2)=uo (ba d3) K3:=by show(if _ then _ else _)=_;rw[aC (Ne.symm y2.1),aC (Ne.symm y3.1),aG rfl]
 have sdn:∀j,j≠d1/2->j≠d2/2->j≠d3/2->sd j=rQ ls j:=fun j h1 h2 h3=>by show(if _ then _ else _)=_;rw[aC h1,aC h2,aC h3]
 have prev:∀i,i<ls.length->i≠nx ls (d1/2)->i≠nx ls (d2/2)->i≠nx ls (d3/2)->sd ((i+ls.length-1)%ls.length)=rQ ls ((i+ls.length-1)%ls.length):=fun i hi n1 n2 n3=>sdn _ (fun h=>n1 (Dc hi h)) (fun h=>n2 (Dc hi h)) (fun h=>n3 (Dc hi h))
 obtain⟨z1,z2,z3,z4⟩:=y1;obtain⟨z5,z6,z7,z8⟩:=y2;obtain⟨z9,z10,z11,z12⟩:=y3;have G1:=MN (P:=P) DA l1 sd1 (prev _ aa y4 z2 z6) (sdn _ y4.symm z3 z7);have G2:=MN (P:=P) DA l2 sd2 (prev _ aa z3.symm y5 z10) (sdn _ z2.symm y5.symm z11);have G3:=MN (P:=P) DA l3 sd3 (prev _ aa z7.symm z11.symm y6) (sdn _ z6.symm z10.symm y6.symm);have p1:=pX d1 m1;have p2:=pX d2 m2;have p3:=pX d3 m3;have pT1:=JF (sd:=sd) h1 p1.1;have pH1:=JF (sd:=sd) t1 p1.2;have pT2:=JF (sd:=sd) h2 p2.1;have pH2:=JF (sd:=sd) t2 p2.2;have pT3:=JF (sd:=sd) h3 p3.1
 have pH3:=JF (sd:=sd) t3 p3.2;have un:∀i,i<ls.length->i≠oT ls.length d1->i≠oH ls.length d1->i≠oT ls.length d2->i≠oH ls.length d2->i≠oT ls.length d3->i≠oH ls.length d3->cS P sd i=eE ls i:=fun i hi n1 n2 n3 n4 n5 n6=>by obtain⟨q1,q2⟩:=pn2 i n1 n2 n3 n4 n5 n6;exact ack DA hi q1 (prev i hi (q2 d1 m1).2 (q2 d2 m2).2 (q2 d3 m3).2) (sdn i (q2 d1 m1).1 (q2 d2 m2).1 (q2 d3 m3).1)
 clear pn2 pX prev
 -- letters of the crossings
 have hw1:=sD ok.cr Bd Ju;have hw2:=sD ok.cr vE Jv;have hw3:=sD ok.cr wV Jw;rw[<- o1] at hw1;rw[<- o2] at hw2;rw[<- o3] at hw3;obtain⟨r1,v2,qP,cv2,iv2,_,_⟩:=hw1;obtain⟨r2,v3,OM,cv3,iv3,_,_⟩:=hw2;obtain⟨r3,v1,zI,cv1,iv1,_,_⟩:=hw3
 -- the new corners
 have cornerN:∀(x y:aS) (d d' hh tt:Nat) (u v:Let),ls[hh]?=some u->ls[tt]?=some v->u.aD=true->v.aD=true->v.id=u.id->hh≠tt->x.p=(eE ls hh).p->y.p=(eE ls tt).p->gX u=(ba d==ba d')->X4 true (fS (ba d) x) (iM (ba d) x) (fS (ba d') y) (iM (ba d') y)->Xc x y:=by intro x y d d' hh tt u v ha hb ca cb ei aK hx hy hg h4;have hx':x.k=(eE ls hh).k:=congrArg Pc.l hx;have hy':y.k=(eE ls tt).k:=congrArg Pc.l hy;have old:=ML g (aW.1 ha).1 (aW.1 hb).1 aK (by rw[eS ha];exact ca) (by rw[eS hb];exact cb) (by rw[eS ha,eS hb];exact ei.symm);refine⟨by rw[hx',hy'];exact old.ov,by rw[hx',hy'];exact old.sg,?_⟩;rw[hx',eS ha,hg];exact VT.1 h4
 have C1:Xc (cS P sd (oT ls.length d1)) (cS P sd (oH ls.length d2)):=by
  refine cornerN _ _ d1 d2 _ _ u1 v2 Bd qP Ju cv2 iv2 f12.2.2.1 pT1 pH2 q1 ?_;rw[G1.1,G1.2.1,G2.2.2.1,G2.2.2.2];constructor<;>simp only[if_true]
  .exact c3.trans e2
  .rfl
  .rfl
  exact b2
 have C2:Xc (cS P sd (oT ls.length d2)) (cS P sd (oH ls.length d3)):=by
  refine cornerN _ _ d2 d3 _ _ u2 v3 vE OM Jv cv3 iv3 f23.2.2.1 pT2 pH3 q2 ?_;rw[G2.1,G2.2.1,G3.2.2.1,G3.2.2.2];constructor<;>simp only[if_true]
  .exact c1.trans e3
  .rfl
  .rfl
  exact b3
 have C3:Xc (cS P sd (oT ls.length d3)) (cS P sd (oH ls.length d1)):=by
  refine cornerN _ _ d3 d1 _ _ u3 v1 wV zI Jw cv1 iv1 f13.2.1.symm pT3 pH1 q3 ?_;rw[G3.1,G3.2.1,G1.2.2.1,G1.2.2.2];constructor<;>simp only[if_true]
  .exact c2.trans e1
  .rfl
  .rfl
  exact b1
 have six:∀i,i<ls.length->(i=oT ls.length d1\/i=oH ls.length d1\/i=oT ls.length d2\/i=oH ls.length d2\/i=oT ls.length d3\/i=oH ls.length d3)\/(cS P sd i=eE ls i/\i≠oT ls.length d1/\i≠oH ls.length d1/\i≠oT ls.length d2/\i≠oH ls.length d2/\i≠oT ls.length d3/\i≠oH ls.length d3):=fun i hi=>by
  rcases Classical.em (i=oT ls.length d1\/i=oH ls.length d1\/i=oT ls.length d2\/i=oH ls.length d2\/i=oT ls.length d3\/i=oH ls.length d3) with h|h
  .exact .inl h
  simp only[not_or] at h;exact .inr ⟨un i hi h.1 h.2.1 h.2.2.1 h.2.2.2.1 h.2.2.2.2.1 h.2.2.2.2.2,h⟩
 -- each position holds one letter
 have hold:∀i,i<ls.length->∃j l,j<ls.length/\ls[j]?=some l/\(cS P sd i).k=l/\(cS P sd i).p=(eE ls j).p:=fun i hi=>by
  have mk:∀j l,ls[j]?=some l->(cS P sd i).p=(eE ls j).p->∃j l,j<ls.length/\ls[j]?=some l/\(cS P sd i).k=l/\(cS P sd i).p=(eE ls j).p:=fun j l hl hp=>⟨j,l,(aW.1 hl).1,hl,(congrArg Pc.l hp).trans (eS hl),hp⟩;rcases six i hi with (rfl|rfl|rfl|rfl|rfl|rfl)|⟨e,_⟩
  .exact mk _ _ Bd pT1
  .exact mk _ _ zI pH1
  .exact mk _ _ vE pT2
  .exact mk _ _ qP pH2
  .exact mk _ _ wV pT3
  .exact mk _ _ OM pH3
  obtain⟨l,hl⟩:=aN hi;exact mk i l hl (by rw[e])
 have kT1:(cS P sd (oT ls.length d1)).k=u1:=(congrArg Pc.l pT1).trans (eS Bd);have kT2:(cS P sd (oT ls.length d2)).k=u2:=(congrArg Pc.l pT2).trans (eS vE);have kT3:(cS P sd (oT ls.length d3)).k=u3:=(congrArg Pc.l pT3).trans (eS wV);have kH1:(cS P sd (oH ls.length d1)).k=v1:=(congrArg Pc.l pH1).trans (eS zI);have kH2:(cS P sd (oH ls.length d2)).k=v2:=(congrArg Pc.l pH2).trans (eS qP);have kH3:(cS P sd (oH ls.length d3)).k=v3:=(congrArg Pc.l pH3).trans (eS OM);have flat:∀(f:Bool) (x:aS),(fS f x).b=(iM f x).b->x.i.b=x.o.b:=fun f x h=>by
  rw[KM,Ld] at h;cases f
  .exact h.symm
  exact h
 have acV:∀(f:Bool) (x:aS),x.i.b=x.o.b->(fS f x).b=(iM f x).b:=fun f x h=>by
  rw[KM,Ld];cases f
  .exact h.symm
  exact h
 have oldb:∀j l,ls[j]?=some l->l.aD=true->(eE ls j).i.b=(eE ls j).o.b:=fun j l hl hc=>(Fj g (aW.1 hl).1).cb (by rw[eS hl];exact hc);have bT:∀d (K:eV),fS (ba d) (cS P sd (oT ls.length d))=fS (ba d) (eE ls (oT ls.length d))->iM (ba d) (cS P sd (oT ls.length d))=K->K.b=(fS (ba d) (eE ls (oT ls.length d))).b->(cS P sd (oT ls.length d)).i.b=(cS P sd (oT ls.length d)).o.b:=fun d K q1 q2 q3=>flat (ba d) _ (by rw[q1,q2,q3])
 have bH:∀d (K:eV) (l m:Let),ls[oT ls.length d]?=some l->l.aD=true->ls[oH ls.length d]?=some m->m.aD=true->iM (ba d) (eE ls (oT ls.length d))=oK ls d->fS (ba d) (eE ls (oH ls.length d))=oK ls d->fS (ba d) (cS P sd (oH ls.length d))=K->iM (ba d) (cS P sd (oH ls.length d))=iM (ba d) (eE ls (oH ls.length d))->K.b=(fS (ba d) (eE ls (oT ls.length d))).b->(cS P sd (oH ls.length d)).i.b=(cS P sd (oH ls.length d)).o.b:=fun d K l m hl cl hm cm w1 w2 q1 q2 q3=>by refine flat (ba d) _ ?_;rw[q1,q2,q3,acV (ba d) _ (oldb _ _ hl cl),w1,<- w2];exact acV (ba d) _ (oldb _ _ hm cm)
 have bad:∀i,i<ls.length->dS F (cS P sd i).k=false:=fun i hi=>by obtain⟨j,l,hj,hl,hk,_⟩:=hold i hi;rw[hk];exact g.bad l (aZ hl)
 have mQ:∀i,i<ls.length->(cS P sd i).k.aD=true->(cS P sd i).i.b=(cS P sd i).o.b->Bh F (cS P sd i):=fun i hi hc hb=>⟨bad i hi,fun _=>hb,fun hp=>by rw[nj hc] at hp;cases hp⟩;have passUn:∀i,i<ls.length->(cS P sd i).k.aF=true->cS P sd i=eE ls i:=fun i hi hp=>by
  rcases six i hi with (rfl|rfl|rfl|rfl|rfl|rfl)|⟨e,_⟩
  .rw[kT1,nj Ju] at hp;cases hp
  .rw[kH1,nj cv1] at hp;cases hp
  .rw[kT2,nj Jv] at hp;cases hp
  .rw[kH2,nj cv2] at hp;cases hp
  .rw[kT3,nj Jw] at hp;cases hp
  .rw[kH3,nj cv3] at hp;cases hp
  exact e
 have cz:=g.cz;have cntP:∀p:Let->Bool,aq p (P.map Pc.l)=aq p ls:=fun p=>by rw[<- Lg (ls:=ls) p];show List.countP _ _=List.countP _ _;rw[vZ,vZ];exact ua _
 have labs:∀(f:Bool) i,i<ls.length->∀t,t=(fS f (cS P sd i)).l\/t=(fS f (cS P sd i)).r->∃j',j'<ls.length/\(t=(sd j').l\/t=(sd j').r):=fun f i hi t ht=>by
  cases f
  .refine⟨i,hi,?_⟩;rcases ht with ht|ht
   .exact .inr ht
   exact .inl ht
  refine⟨(i+P.length-1)%P.length,?_,ht⟩;rw[DA];exact dk _ hn
 refine abl g (tau:=tau) (sd:=sd) (T':=TF ls) (B':=BF ls) DA (cntP _) (cntP _) (fun k=>cntP _) (fun i hi=>?_) (fun i j hi hj ir ci cj e=>?_) (fun i j hi hj ir pi pj e1 e2=>?_) (fun i hi ci=>?_) (fun i hi pi=>?_) (fun i hi pi=>?_) (fun k hk=>?_) ?_ (fun j hj t ht=>?_)
 .rcases six i hi with (rfl|rfl|rfl|rfl|rfl|rfl)|⟨e,_⟩
  .exact mQ _ hi (by rw[kT1];exact Ju) (bT d1 K1 G1.1 G1.2.1 rfl)
  .exact mQ _ hi (by rw[kH1];exact cv1) (bH d1 K1 _ _ zI cv1 Bd Ju ti1 kX G1.2.2.1 G1.2.2.2 rfl)
  .exact mQ _ hi (by rw[kT2];exact Jv) (bT d2 K2 G2.1 G2.2.1 rfl)
  .exact mQ _ hi (by rw[kH2];exact cv2) (bH d2 K2 _ _ qP cv2 vE Jv ti2 hi2 G2.2.2.1 G2.2.2.2 rfl)
  .exact mQ _ hi (by rw[kT3];exact Jw) (bT d3 K3 G3.1 G3.2.1 rfl)
  .exact mQ _ hi (by rw[kH3];exact cv3) (bH d3 K3 _ _ OM cv3 wV Jw ti3 hi3 G3.2.2.1 G3.2.2.2 rfl)
  rw[e];exact Fj g hi
 · -- two visits of one crossing
  have nn:∀i,i<ls.length->∃s,s<ls.length/\(∃l,ls[s]?=some l/\(cS P sd i).k=l)/\((i=oT ls.length d1/\s=oH ls.length d1)\/(i=oH ls.length d1/\s=oT ls.length d1)\/(i=oT ls.length d2/\s=oH ls.length d2)\/(i=oH ls.length d2/\s=oT ls.length d2)\/(i=oT ls.length d3/\s=oH ls.length d3)\/(i=oH ls.length d3/\s=oT ls.length d3)\/(cS P sd i=eE ls i/\s=i/\i≠oT ls.length d1/\i≠oH ls.length d1/\i≠oT ls.length d2/\i≠oH ls.length d2/\i≠oT ls.length d3/\i≠oH ls.length d3)):=fun i hi=>by
   rcases six i hi with (rfl|rfl|rfl|rfl|rfl|rfl)|⟨e,aK⟩
   .exact⟨_,h1,⟨_,Bd,kT1⟩,.inl ⟨rfl,rfl⟩⟩
   .exact⟨_,t1,⟨_,zI,kH1⟩,.inr (.inl ⟨rfl,rfl⟩)⟩
   .exact⟨_,h2,⟨_,vE,kT2⟩,.inr (.inr (.inl ⟨rfl,rfl⟩))⟩
   .exact⟨_,t2,⟨_,qP,kH2⟩,.inr (.inr (.inr (.inl ⟨rfl,rfl⟩)))⟩
   .exact⟨_,h3,⟨_,wV,kT3⟩,.inr (.inr (.inr (.inr (.inl ⟨rfl,rfl⟩))))⟩
   .exact⟨_,t3,⟨_,OM,kH3⟩,.inr (.inr (.inr (.inr (.inr (.inl ⟨rfl,rfl⟩)))))⟩
   obtain⟨l,hl⟩:=aN hi;exact⟨i,hi,⟨l,hl,by rw[e];exact eS hl⟩,.inr (.inr (.inr (.inr (.inr (.inr ⟨e,rfl,aK⟩)))))⟩
  obtain⟨si,hsi,⟨li,vA,kli⟩,ci'⟩:=nn i hi;obtain⟨sj,KD,⟨lj,ud,klj⟩,E6⟩:=nn j hj;rw[kli] at ci e;rw[klj] at cj e;obtain⟨f1,f2,f3,f4⟩:=f12;obtain⟨f5,f6,f7,f8⟩:=f13;obtain⟨f9,f10,f11,f12⟩:=f23;have aK:si≠sj:=by
   clear e2 e3 e1 labs passUn mQ bad bH bT hold un six;rcases ci' with ⟨q1,q2⟩|⟨q1,q2⟩|⟨q1,q2⟩|⟨q1,q2⟩|⟨q1,q2⟩|⟨q1,q2⟩|⟨_,q2,n1,n2,n3,n4,n5,n6⟩<;>rcases E6 with ⟨w1,w2⟩|⟨w1,w2⟩|⟨w1,w2⟩|⟨w1,w2⟩|⟨w1,w2⟩|⟨w1,w2⟩|⟨_,w2,m1,m2,m3,m4,m5,m6⟩<;>rw[q2,w2]<;>first
    |(rw[q1,w1] at ir;exact absurd rfl ir)
    |assumption
    |exact Ne.symm (by assumption)
    |exact ir
  have ho:=F9 g vA ud ci cj e aK;rcases ci' with ⟨q1,q2⟩|⟨q1,q2⟩|⟨q1,q2⟩|⟨q1,q2⟩|⟨q1,q2⟩|⟨q1,q2⟩|⟨eu,q2,n1,n2,n3,n4,n5,n6⟩
  .rw[q2,<- o1] at ho;rcases E6 with ⟨w1,w2⟩|⟨w1,w2⟩|⟨w1,w2⟩|⟨w1,w2⟩|⟨w1,w2⟩|⟨w1,w2⟩|⟨_,w2,m1,m2,m3,m4,m5,m6⟩<;>rw[w2] at ho<;>first
    |(rw[q1,w1];exact C1)
    |exact absurd ho (by assumption)
    |exact absurd ho (Ne.symm (by assumption))
  .rw[q2,r3] at ho;rcases E6 with ⟨w1,w2⟩|⟨w1,w2⟩|⟨w1,w2⟩|⟨w1,w2⟩|⟨w1,w2⟩|⟨w1,w2⟩|⟨_,w2,m1,m2,m3,m4,m5,m6⟩<;>rw[w2] at ho<;>first
    |(rw[q1,w1];exact C3.symm)
    |exact absurd ho (by assumption)
    |exact absurd ho (Ne.symm (by assumption))
  .rw[q2,<- o2] at ho;rcases E6 with ⟨w1,w2⟩|⟨w1,w2⟩|⟨w1,w2⟩|⟨w1,w2⟩|⟨w1,w2⟩|⟨w1,w2⟩|⟨_,w2,m1,m2,m3,m4,m5,m6⟩<;>rw[w2] at ho<;>first
    |(rw[q1,w1];exact C2)
    |exact absurd ho (by assumption)
    |exact absurd ho (Ne.symm (by assumption))
  .rw[q2,r1] at ho;rcases E6 with ⟨w1,w2⟩|⟨w1,w2⟩|⟨w1,w2⟩|⟨w1,w2⟩|⟨w1,w2⟩|⟨w1,w2⟩|⟨_,w2,m1,m2,m3,m4,m5,m6⟩<;>rw[w2] at ho<;>first
    |(rw[q1,w1];exact C1.symm)
    |exact absurd ho (by assumption)
    |exact absurd ho (Ne.symm (by assumption))
  .rw[q2,<- o3] at ho;rcases E6 with ⟨w1,w2⟩|⟨w1,w2⟩|⟨w1,w2⟩|⟨w1,w2⟩|⟨w1,w2⟩|⟨w1,w2⟩|⟨_,w2,m1,m2,m3,m4,m5,m6⟩<;>rw[w2] at ho<;>first
    |(rw[q1,w1];exact C3)
    |exact absurd ho (by assumption)
    |exact absurd ho (Ne.symm (by assumption))
  .rw[q2,r2] at ho;rcases E6 with ⟨w1,w2⟩|⟨w1,w2⟩|⟨w1,w2⟩|⟨w1,w2⟩|⟨w1,w2⟩|⟨w1,w2⟩|⟨_,w2,m1,m2,m3,m4,m5,m6⟩<;>rw[w2] at ho<;>first
    |(rw[q1,w1];exact C2.symm)
    |exact absurd ho (by assumption)
    |exact absurd ho (Ne.symm (by assumption))
  have hb:=(sD ok.cr vA ci).1;rw[ho,q2] at hb;rcases E6 with ⟨w1,w2⟩|⟨w1,w2⟩|⟨w1,w2⟩|⟨w1,w2⟩|⟨w1,w2⟩|⟨w1,w2⟩|⟨eu2,w2,_⟩
  .rw[w2,<- o1] at hb;exact absurd hb.symm n3
  .rw[w2,r3] at hb;exact absurd hb.symm n6
  .rw[w2,<- o2] at hb;exact absurd hb.symm n5
  .rw[w2,r1] at hb;exact absurd hb.symm n2
  .rw[w2,<- o3] at hb;exact absurd hb.symm n1
  .rw[w2,r2] at hb;exact absurd hb.symm n4
  rw[q2] at vA;rw[w2] at ud;rw[eu,eu2];exact ML g hi hj ir (by rw[eS vA];exact ci) (by rw[eS ud];exact cj) (by rw[eS vA,eS ud];exact e)
 .have ee:=passUn i hi pi;have ee2:=passUn j hj pj;rw[ee] at pi e1 e2;rw[ee2] at pj e1 e2;exact(cz.UG (Gh hi) (Gh hj) ir).2 pi pj e1 e2
 .obtain⟨j,l,hj,hl,hk,_⟩:=hold i hi;rw[hk] at ci |-;exact g.ids.1 l (aZ hl) ci
 .have ee:=passUn i hi pi;rw[ee] at pi |-;have:=cz.rr _ (aZ (Gh hi)) pi;rwa[mA] at this
 .have ee:=passUn i hi pi;rw[ee] at pi |-;exact cz.pl _ (aZ (Gh hi)) pi
 .have:=cz.gt k hk;rwa[mA] at this
 .have:=cz.gz;rwa[mA] at this
 have viaK:∀d,j=d/2->t=(oK ls d).l\/t=(oK ls d).r:=fun d hd=>by
  rw[hd] at ht;unfold oK;split
  .exact ht
  exact ht.symm
 by_cases n1:j=d1/2
 .rcases viaK d1 n1 with h|h
  .exact .inl h
  exact .inr (labs (ba d2) _ t2 t (.inl (by rw[G2.1,h];exact c1.symm)))
 by_cases n2:j=d2/2
 .rcases viaK d2 n2 with h|h
  .exact .inl (h.trans a1.symm)
  exact .inr (labs (ba d3) _ t3 t (.inl (by rw[G3.1,h];exact c2.symm)))
 by_cases n3:j=d3/2
 .rcases viaK d3 n3 with h|h
  .exact .inl (h.trans (a2.symm.trans a1.symm))
  exact .inr (labs (ba d1) _ t1 t (.inl (by rw[G1.1,h];exact c3.symm)))
 exact .inr ⟨j,hj,by rw[sdn j n1 n2 n3];exact ht⟩
end
def CL(f:Bool)(x:aS):x.up=if f==x.p.d then fS f x else iX (iM f x):=by unfold aS.up fS iM;cases f<;>cases x.p.d<;>rfl
def Cl(f:Bool)(x:aS):x.lo=if f==x.p.d then iM f x else iX (fS f x):=by unfold aS.lo fS iM;cases f<;>cases x.p.d<;>rfl
section
variable {F:Nat} {ls:ai}
def aaF:∀(w:a_) (f:Fc),f.places.length<=(w.foldl (Fc.add F ls) f).places.length/\ ∀x∈w,2*ls.length<=x->(qX F ls ((x-2*ls.length)/2)).length<=(w.foldl (Fc.add F ls) f).places.length:=by
 intro w
 induction w with
 |nil=>intro f;exact⟨cD _,fun x hx=>nomatch hx⟩
 |cons x w ih=>
  intro f;rw[Bt];obtain⟨h1,h2⟩:=ih (Fc.add F ls f x);have h3:f.places.length<=(Fc.add F ls f x).places.length:=by
   unfold Fc.add;split
   .exact cD _
   simp only[gJ];omega
  refine⟨oZ h3 h1,fun y hy hl=>?_⟩;rcases ch.1 hy with rfl|hy
  .refine oZ ?_ h1;unfold Fc.add;rw[aC aa];simp only[gJ];split<;>(try rw[mT])<;>omega
  exact h2 y hy hl
def ade(ok:fN F ls){k u v:Nat}(hk:k+1<(aI ls).length)(hu:(aI ls).getD k 0=u)(hv:(aI ls).getD (k+1) 0=v){l m:Let}(hl:ls[u]?=some l)(hm:ls[v]?=some m)
  (pl:l.aF=true) (pm:m.aF=true) (hg:m.gate<=l.gate):l.gate=m.gate/\m.aA=l.aA+1:=by
 obtain⟨u',KH⟩:=aN (ls:=aI ls) (k:=k) aa;obtain⟨v',hv'⟩:=aN hk;rw[dK,KH,ow] at hu;rw[dK,hv',ow] at hv;subst hu hv;obtain⟨l',e1,_,e2⟩:=BA ok.ax KH;obtain⟨m',e3,_,e4⟩:=BA ok.ax hv';rw[hl] at e1;cases e1;rw[hm] at e3;cases e3;have gl:=ok.ax.fq l (aZ hl) pl;have gm:=ok.ax.fq m (aZ hm) pm;obtain⟨l1,l2,l3,l4⟩:=gl;obtain⟨m1,m2,m3,m4⟩:=gm;unfold dD at e2 e4;rcases Int.lt_or_eq_of_le hg with c|c
 .exfalso;have nO:=BH (ls:=ls) (show m.gate.toNat+1<=l.gate.toNat by omega);have hs:=uG ls m.gate.toNat;omega
 rw[c] at e4;exact⟨c.symm,aa⟩
def Uw(g:cE F ls){w:a_}(hw:w∈gO (aQ ls) (nD ls))(lX:(mf F ls w).places.length=1){x v:Nat}(hx:x∈w){fw:Bool}(ue:x=fZ ls.length v fw){l:Let}(hl:ls[v]?=some l)(pl:l.aF=true):
  ∃u m y,y∈w/\ls[u]?=some m/\m.aF=true/\l.gate=m.gate/\((dn ls v=fw/\m.aA=l.aA+1/\y=dB ls.length u (!dn ls u))\/(dn ls v=(!fw)/\l.aA=m.aA+1/\y=dB ls.length u (dn ls u))):=by
 have ok:=g.ok;have mp:=maps ok;obtain⟨i1,i2⟩:=Mj ok hl pl;have hz:=yL mp hw hx;rw[ue,Gf hl pl] at hz;by_cases cd:(dn ls v==fw)=true
 .rw[aG cd] at hz;have vD:(qX F ls ((aI ls).idxOf v)).length<=1:=by
   rw[<- lX];unfold mf;have:=(aaF (F:=F) (ls:=ls) w (Fc.new ls (w.headD 0))).2 _ hz aa;rwa[show(2*ls.length+2*(aI ls).idxOf v-2*ls.length)/2=(aI ls).idxOf v by omega] at this
  have hk:(aI ls).idxOf v+1<(aI ls).length:=by
   unfold qX at vD;simp only at vD;split at vD
   .assumption
   rw[gJ,Bn,Bn] at vD;omega
  obtain⟨m,hm,pm⟩:=GF hk;have hg:m.gate<=l.gate:=by unfold qX at vD;simp only at vD;rw[aG hk,Bn,i2,fX hk,AQ hl,AQ hm] at vD;have:=(ok.ax.fq l (aZ hl) pl).g0;have:=(ok.ax.fq m (aZ hm) pm).g0;omega
  obtain⟨r1,r2⟩:=ade ok hk i2 rfl hl hm pl pm hg;have Eb:=yL mp hw hz;rw[EA,fX hk] at Eb;exact⟨_,m,_,Eb,hm,pm,r1,.inl ⟨eq_of_beq cd,r2,rfl⟩⟩
 rw[aC cd] at hz;have BW:=dk ((aI ls).idxOf v+(aI ls).length-1) (show 0<(aI ls).length by omega);have hb:=vH i1;generalize ((aI ls).idxOf v+(aI ls).length-1)%(aI ls).length=k at hz BW hb;have vD:(qX F ls k).length<=1:=by rw[<- lX];unfold mf;have:=(aaF (F:=F) (ls:=ls) w (Fc.new ls (w.headD 0))).2 _ hz aa;rwa[show(2*ls.length+2*k+1-2*ls.length)/2=k by omega] at this
 have hk:k+1<(aI ls).length:=by
  unfold qX at vD;simp only at vD;split at vD
  .assumption
  rw[gJ,Bn,Bn] at vD;omega
 rw[fX hk] at hb;obtain⟨m,hm,pm⟩:=GF BW;have hg:l.gate<=m.gate:=by unfold qX at vD;simp only at vD;rw[aG hk,Bn,fX hk,hb,i2,AQ hl,AQ hm] at vD;have:=(ok.ax.fq l (aZ hl) pl).g0;have:=(ok.ax.fq m (aZ hm) pm).g0;omega
 obtain⟨r1,r2⟩:=ade ok hk rfl (by rw[hb];exact i2) hm hl pm pl hg;have Eb:=yL mp hw hz;rw[Ez] at Eb;refine⟨_,m,_,Eb,hm,pm,r1.symm,.inr ⟨?_,r2,rfl⟩⟩;revert cd;cases dn ls v<;>cases fw<;>simp
def qx{l:c_}{i:Nat}{r:Int}{p:Pc}(h:l[i]?=some p)(j:Nat):(dx l i r)[j]?=if j=i then some ⟨{p.l with aA:=r},p.d⟩ else l[j]? :=by
 have hl:=(aW.1 h).1;unfold dx;rw[dK,h,ow,rh];by_cases c:j=i
 .subst c;rw[aG rfl,aG hl,aG rfl]
 rw[aC (Ne.symm c),aC c]
def Iv{q:Pc->Bool}{l:c_}{i:Nat}{r:Int}{p:Pc}(h:l[i]?=some p)(hq:∀p:Pc,q ⟨{p.l with aA:=r},p.d⟩=q p):(dx l i r).countP q=l.countP q:=by unfold dx;rw[dK,h,ow];have:=Wx (p:=q) (y:=⟨{p.l with aA:=r},p.d⟩) h;rw[hq] at this;show List.countP q (l.set i ⟨{p.l with aA:=r},p.d⟩)=_;omega
def ZE(g:cE F ls){a b:Nat}(ha:a<ls.length)(hb:b<ls.length)(dU:a≠b){va vb pa pb:Nat}{la lb ma mb:Let}
  (ea:(pa=a/\va=nx ls a)\/(pa=nx ls a/\va=a)) (eb:(pb=b/\vb=nx ls b)\/(pb=nx ls b/\vb=b)) (tm:ls[va]?=some la) (uM:ls[vb]?=some lb) (tn:ls[pa]?=some ma) (tq:ls[pb]?=some mb)
  (ca:la.aD=true) (cb:lb.aD=true) (qa:ma.aF=true) (qb:mb.aF=true) (hid:la.id=lb.id) (hv:va≠vb) (yf:kQ F ls 1 [a,b] a=true):
  ∃w,w∈gO (aQ ls) (nD ls)/\(mf F ls w).places.length=1/\ ∃d,d∈w/\d<2*ls.length/\aQ ls d∈w/\aQ ls d<2*ls.length/\(∀y,y∈w->y<2*ls.length->y=d\/y=aQ ls d)/\
   ((d/2=a/\aQ ls d/2=b/\oT ls.length d=pa/\oH ls.length d=va/\oT ls.length (aQ ls d)=vb/\oH ls.length (aQ ls d)=pb)\/(d/2=b/\aQ ls d/2=a/\oT ls.length d=pb/\oH ls.length d=vb/\oT ls.length (aQ ls d)=va/\oH ls.length (aQ ls d)=pa)):=by
 have ok:=g.ok;obtain⟨w,hw,lX,hlen,hE⟩:=Qm g ha yf;obtain⟨da,tS,qE,tU⟩:=hE a af;obtain⟨db,uB,rz,tV⟩:=hE b af;have aK:da≠db:=aa;have inD:∀d,d∈w->d<2*ls.length->d∈w.filter fun x=>decide (x<2*ls.length):=fun d h1 h2=>uv.2 ⟨h1,by simpa using h2⟩;have two:∀d,d∈w->d<2*ls.length->d=da\/d=db:=fun d h1 h2=>aiz hlen (inD da tS qE) (inD db uB rz) aK (inD d h1 h2);have ends:∀d e p v:Nat,d/2=e->((p=e/\v=nx ls e)\/(p=nx ls e/\v=e))->(oT ls.length d=p/\oH ls.length d=v)\/(oT ls.length d=v/\oH ls.length d=p):=fun d e p v h1 h2=>by
  unfold oT oH;rw[h1];show((if _ then e else nx ls e)=p/\(if _ then nx ls e else e)=v)\/((if _ then e else nx ls e)=v/\(if _ then nx ls e else e)=p);rcases h2 with ⟨rfl,rfl⟩|⟨rfl,rfl⟩<;>split
  .exact .inl ⟨rfl,rfl⟩
  .exact .inr ⟨rfl,rfl⟩
  .exact .inr ⟨rfl,rfl⟩
  exact .inl ⟨rfl,rfl⟩
 have pc:∀ {x y:Nat} {l m:Let},ls[x]?=some l->ls[y]?=some m->l.aD=true->m.aF=true->x≠y:=fun h1 h2 h3 h4 e=>by subst e;rw[h1] at h2;have:=pz h2;rw[this,qV h4] at h3;cases h3
 -- a dart that leads to the crossing goes on at the other visit
 have go:∀(d d' p v p' v':Nat) (l m l' m':Let),d∈w->d<2*ls.length->d'<2*ls.length->oT ls.length d=p->oH ls.length d=v->ls[v]?=some l->ls[p]?=some m->ls[v']?=some l'->ls[p']?=some m'->l.aD=true->m.aF=true->l'.aD=true->m'.aF=true->l.id=l'.id->v≠v'->(∀y,y∈w->y<2*ls.length->y=d\/y=d')->((oT ls.length d'=p'/\oH ls.length d'=v')\/(oT ls.length d'=v'/\oH ls.length d'=p'))->aQ ls d=d'/\oT ls.length d'=v'/\oH ls.length d'=p':=by
  intro d d' p v p' v' l m l' m' d1 d2 d2' hT hH hl hm jV iS cl pm cl' Lj hid hv tw en;obtain⟨s1,s2,_⟩:=Dl g d2 (by rw[hH];exact hl) cl;rw[hH,F9 g hl jV cl cl' hid hv] at s2;rcases tw _ (yL (maps ok) hw d1) s1 with e|e
  .exfalso;rw[e,hT] at s2;exact pc jV hm cl' pm s2.symm
  rw[e] at s2;rcases en with ⟨e1,_⟩|⟨e1,e2⟩
  .exact absurd (s2.symm.trans e1) (pc jV iS cl' Lj)
  exact⟨e,e1,e2⟩
 have na:=ends da a pa va tU ea;have nb:=ends db b pb vb tV eb;rcases na with ⟨t1,t2⟩|⟨t1,t2⟩
 .obtain⟨e1,e2,e3⟩:=go da db pa va pb vb la ma lb mb tS qE rz t1 t2 tm tn uM tq ca qa cb qb hid hv two nb;refine⟨w,hw,lX,da,tS,qE,by rw[e1];exact uB,by rw[e1];exact rz,by rw[e1];exact two,.inl ⟨tU,by rw[e1];exact tV,t1,t2,by rw[e1];exact e2,by rw[e1];exact e3⟩⟩
 · -- the dart of the first Qv leads to the pass: the other one leads to the crossing
  obtain⟨u,m,y,y1,y2,y3,_,y4⟩:=Uw g hw lX tS (v:=pa) (fw:=ba da) (by rw[<- t2];exact Dq qE) tn qa;have hu:=(aW.1 y2).1;have yT:oT ls.length y=u/\y<2*ls.length:=by
   have key:∀f,oT ls.length (dB ls.length u f)=u/\dB ls.length u f<2*ls.length:=fun f=>⟨(GS hu).1,by
    have:=xM hu (!f);rw[<- zV] at this;have:=zW this;rwa[zX] at this⟩
   rcases y4 with ⟨_,_,e⟩|⟨_,_,e⟩<;>rw[e]<;>exact key _
  have yb:y=db:=by
   rcases two y y1 yT.2 with e|e
   .exfalso;rw[e,t1] at yT;rw[<- yT.1] at y2;rw[tm] at y2;have:=pz y2;rw[<- this,nj ca] at y3;cases y3
   exact e
  have nb':oT ls.length db=pb/\oH ls.length db=vb:=by
   rcases nb with h|⟨h1,h2⟩
   .exact h
   exfalso;rw[yb,h1] at yT;rw[<- yT.1,uM] at y2;have:=pz y2;rw[<- this,nj cb] at y3;cases y3
  obtain⟨e1,e2,e3⟩:=go db da pb vb pa va lb mb la ma uB rz qE nb'.1 nb'.2 uM tq tm tn cb qb ca qa hid.symm hv.symm (fun y h1 h2=>(two y h1 h2).symm) (.inr ⟨t1,t2⟩);refine⟨w,hw,lX,db,uB,rz,by rw[e1];exact tS,by rw[e1];exact qE,by rw[e1];exact fun y h1 h2=>(two y h1 h2).symm,.inr ⟨tV,by rw[e1];exact tU,nb'.1,nb'.2,by rw[e1];exact e2,by rw[e1];exact e3⟩⟩
end
section
variable {F:Nat} {ls:ai}
def US{e:Nat}(hn:0<ls.length)(he:e<ls.length)(h:(jP ls e).2.2=true):(((jP ls e).1=e/\(jP ls e).2.1=nx ls e)\/((jP ls e).1=nx ls e/\(jP ls e).2.1=e))/\(∃l,ls[(jP ls e).2.1]?=some l/\l.aD=true)/\ ∃m,ls[(jP ls e).1]?=some m/\m.aF=true:=by
 obtain⟨l,hl⟩:=aN he;obtain⟨m,hm⟩:=aN (ls:=ls) (k:=nx ls e) (dk _ hn);have e1:pA ls e=⟨l,eW ls e⟩:=iU (jm hl);have e2:pA ls (nx ls e)=⟨m,eW ls (nx ls e)⟩:=iU (jm hm);unfold jP at h |-;rw[e1,e2] at h |-;by_cases c:(l.kind==2)=true
 .rw[aG c] at h |-;exact⟨.inr ⟨rfl,rfl⟩,⟨l,hl,c⟩,m,hm,h⟩
 rw[aC c] at h |-;simp only[cJ] at h;exact⟨.inl ⟨rfl,rfl⟩,⟨m,hm,h.2⟩,l,hl,h.1⟩
def acY{f:Bool}{x y:aS}(h1:(fS f x).b=(fS f y).b)(h2:(iM f x).b=(iM f y).b):x.i.b=y.i.b/\x.o.b=y.o.b:=by
 rw[KM,KM] at h1;rw[Ld,Ld] at h2;cases f
 .exact⟨h2,h1⟩
 exact⟨h1,h2⟩
def acW{f:Bool}{x:aS}(h:(fS f x).b=(iM f x).b):x.i.b=x.o.b:=by
 rw[KM,Ld] at h;cases f
 .exact h.symm
 exact h
def acX{f:Bool}{x:aS}(h:x.i.b=x.o.b):(fS f x).b=(iM f x).b:=by
 rw[KM,Ld];cases f
 .exact h.symm
 exact h
def aa0{l:Let}{r:Int}(hp:l.aF=true)(h:dS F l=false):dS F {l with aA:=r}=false:=by have gI:({l with aA:=r}:Let).aF=true:=hp;rw[sC hp] at h;rw[sC gI];exact h
def abk(g:cE F ls){w:a_}(hw:w∈gO (aQ ls) (nD ls))(lX:(mf F ls w).places.length=1){d d':Nat}(hd:d∈w)(ld:d<2*ls.length)(yg:d'∈w)(HY:d'<2*ls.length)(FK:aQ ls d=d')(two:∀y,y∈w->y<2*ls.length->y=d\/y=d')
  {lp lv lw lq:Let} (wU:ls[oT ls.length d]?=some lp) (pV:ls[oH ls.length d]?=some lv) (uP:ls[oT ls.length d']?=some lw) (yj:ls[oH ls.length d']?=some lq) (pp:lp.aF=true) (cv:lv.aD=true) (cw:lw.aD=true) (pq:lq.aF=true)
  {P:c_} (zi:P.length=ls.length) (ua:∀q:Let->Bool,(∀(l:Let) (r:Int),q {l with aA:=r}=q l)->aq q (P.map Pc.l)=aq q ls)
  (hP:oT ls.length d≠oH ls.length d'->P[oT ls.length d]?=(pieces ls)[oH ls.length d]? /\P[oH ls.length d]?=some ⟨{lp with aA:=lq.aA},eW ls (oT ls.length d)⟩/\P[oT ls.length d']?=some ⟨{lq with aA:=lp.aA},eW ls (oH ls.length d')⟩/\P[oH ls.length d']?=(pieces ls)[oT ls.length d']? /\
   ∀i,i≠oT ls.length d->i≠oH ls.length d->i≠oT ls.length d'->i≠oH ls.length d'->P[i]?=(pieces ls)[i]?):Cert F P:=by
 have ok:=g.ok;have cz:=g.cz;have hn:0<ls.length:=jQ.2 g.ne;have t1:=Ih g ld;have t2:=Ih g HY;have h1:=yD g ld;have h2:=yD g HY
 -- the neighbours on the Qa
 obtain⟨u,m,y,y1,y2,y3,qK,y4⟩:=Uw g hw lX yg (v:=oH ls.length d') (fw:=ba d') (Dq HY) yj pq;have hu:=(aW.1 y2).1;have yT:∀f,oT ls.length (dB ls.length u f)=u/\ba (dB ls.length u f)=f/\dB ls.length u f<2*ls.length:=fun f=>⟨(GS hu).1,(GS hu).2,by
  have:=xM hu (!f);rw[<- zV] at this;have:=zW this;rwa[zX] at this⟩
 have yd:y=d:=by
  have vF:oT ls.length y=u/\y<2*ls.length:=by rcases y4 with ⟨_,_,e⟩|⟨_,_,e⟩<;>rw[e]<;>exact⟨(yT _).1,(yT _).2.2⟩
  rcases two y y1 vF.2 with e|e
  .exact e
  exfalso;rw[e] at vF;rw[<- vF.1,uP] at y2;have:=pz y2;rw[<- this,nj cw] at y3;cases y3
 subst yd;have KH:oT ls.length y=u:=by rcases y4 with ⟨_,_,e⟩|⟨_,_,e⟩<;>rw[e]<;>exact(yT _).1
 subst KH;rw[wU] at y2;cases y2
 -- cR: ig the Qa
 obtain⟨cR,hR⟩:∃cR:Bool,(cR=true/\dn ls (oH ls.length d')=ba d'/\lp.aA=lq.aA+1/\ba y= !dn ls (oT ls.length y))\/(cR=false/\dn ls (oH ls.length d')=(!ba d')/\lq.aA=lp.aA+1/\ba y=dn ls (oT ls.length y)):=by
  rcases y4 with ⟨e1,e2,e3⟩|⟨e1,e2,e3⟩
  .exact⟨true,.inl ⟨rfl,e1,e2,(congrArg ba e3).trans (yT _).2.1⟩⟩
  exact⟨false,.inr ⟨rfl,e1,e2,(congrArg ba e3).trans (yT _).2.1⟩⟩
 clear y4 yT y1 y3 hu;have mq:lp.aA≠lq.aA:=by rcases hR with ⟨_,_,h,_⟩|⟨_,_,h,_⟩<;>omega
 have npq:oT ls.length y≠oH ls.length d':=fun e=>by rw[e,yj] at wU;have:=pz wU;rw[this] at mq;exact mq rfl
 obtain⟨pT,pH,pT',pH',pU⟩:=hP npq;clear hP;obtain⟨_,o1,q1,k1⟩:=Dl g ld pV cv;rw[FK] at o1 q1 k1;rw[Kg ld,LF HY] at k1;obtain⟨xa,xb,xc,xd⟩:=k1;simp only[if_true] at xa xb xc xd;have pc:∀ {x y:Nat} {l m:Let},ls[x]?=some l->ls[y]?=some m->l.aD=true->m.aF=true->x≠y:=fun h1 h2 h3 h4 e=>by subst e;rw[h1] at h2;have:=pz h2;rw[this,qV h4] at h3;cases h3
 have nvw:oH ls.length y≠oT ls.length d':=by intro e;obtain⟨_,m,hm,_,_,mo,_⟩:=sD ok.cr pV cv;rw[<- o1,<- e,pV] at hm;have:=pz hm;rw[<- this] at mo;revert mo;cases lv.over<;>simp
 have nvp:=pc pV wU cv pp;have nvq:=pc pV yj cv pq;have nwp:=pc uP wU cw pp;have nwq:=pc uP yj cw pq
 -- ends of the edges
 have ee:∀d:Nat,(oT ls.length d=d/2/\oH ls.length d=nx ls (d/2))\/(oT ls.length d=nx ls (d/2)/\oH ls.length d=d/2):=fun d=>by
  unfold oT oH nx;split
  .exact .inl ⟨rfl,rfl⟩
  exact .inr ⟨rfl,rfl⟩
 have apart:y/2≠d'/2/\y/2≠nx ls (d'/2)/\nx ls (y/2)≠d'/2/\nx ls (y/2)≠nx ls (d'/2)/\y/2≠nx ls (y/2)/\d'/2≠nx ls (d'/2):=by
  rcases ee y with ⟨a1,a2⟩|⟨a1,a2⟩<;>rcases ee d' with ⟨b1,b2⟩|⟨b1,b2⟩
  .rw[<- a2,<- a1,<- b2,<- b1];exact⟨nwp.symm,npq,nvw,nvq,nvp.symm,nwq⟩
  .rw[<- a2,<- a1,<- b1,<- b2];exact⟨npq,nwp.symm,nvq,nvw,nvp.symm,nwq.symm⟩
  .rw[<- a1,<- a2,<- b2,<- b1];exact⟨nvw,nvq,nwp.symm,npq,nvp,nwq⟩
  rw[<- a1,<- a2,<- b1,<- b2];exact⟨nvq,nvw,npq,nwp.symm,nvp,nwq.symm⟩
 let tau:=(oK ls y).l
 let tI:=fS (ba y) (eE ls (oT ls.length y))
 let hO:=iM (ba d') (eE ls (oH ls.length d'))
 let oth:=(iM (ba y) (eE ls (oH ls.length y))).r
 let K1:eV:=⟨hO.r,tau,tI.b⟩
 let K2:eV:=⟨tI.r,tau,hO.b⟩
 let sd:Nat->eV:=fun j=>if j=y/2 then uo (ba y) K1 else if j=d'/2 then uo (ba d') K2 else rQ ls j
 have sd1:sd (y/2)=uo (ba y) K1:=aG rfl;have sd2:sd (d'/2)=uo (ba d') K2:=by show(if _ then _ else _)=_;rw[aC apart.1.symm,aG rfl]
 have sdn:∀j,j≠y/2->j≠d'/2->sd j=rQ ls j:=fun j h1 h2=>by show(if _ then _ else _)=_;rw[aC h1,aC h2]
 have prev:∀i,i<ls.length->i≠nx ls (y/2)->i≠nx ls (d'/2)->sd ((i+ls.length-1)%ls.length)=rQ ls ((i+ls.length-1)%ls.length):=fun i hi n1 n2=>sdn _ (fun h=>n1 (Dc hi h)) (fun h=>n2 (Dc hi h))
 obtain⟨z1,z2,z3,z4,z5,z6⟩:=apart;have G1:=MN (P:=P) zi ld sd1 (prev _ aa z5 z2) (sdn _ z5.symm z3);have G2:=MN (P:=P) zi HY sd2 (prev _ aa z3.symm z6) (sdn _ z2.symm z6.symm);have un:∀i,i<ls.length->i≠oT ls.length y->i≠oH ls.length y->i≠oT ls.length d'->i≠oH ls.length d'->cS P sd i=eE ls i:=fun i hi n1 n2 n3 n4=>by
  have a1:i≠y/2/\i≠nx ls (y/2):=by
   rcases ee y with ⟨a1,a2⟩|⟨a1,a2⟩
   .rw[<- a2,<- a1];exact⟨n1,n2⟩
   rw[<- a1,<- a2];exact⟨n2,n1⟩
  have a2:i≠d'/2/\i≠nx ls (d'/2):=by
   rcases ee d' with ⟨a1,a2⟩|⟨a1,a2⟩
   .rw[<- a2,<- a1];exact⟨n3,n4⟩
   rw[<- a1,<- a2];exact⟨n4,n3⟩
  exact ack zi hi (pU i n1 n2 n3 n4) (prev i hi a1.2 a2.2) (sdn i a1.1 a2.1)
 have six:∀i,i<ls.length->(i=oT ls.length y\/i=oH ls.length y\/i=oT ls.length d'\/i=oH ls.length d')\/(cS P sd i=eE ls i/\i≠oT ls.length y/\i≠oH ls.length y/\i≠oT ls.length d'/\i≠oH ls.length d'):=fun i hi=>by
  rcases Classical.em (i=oT ls.length y\/i=oH ls.length y\/i=oT ls.length d'\/i=oH ls.length d') with h|h
  .exact .inl h
  simp only[not_or] at h;exact .inr ⟨un i hi h.1 h.2.1 h.2.2.1 h.2.2.2,h⟩
 have gp:∀ {i:Nat} {p:Pc},P[i]?=some p->(cS P sd i).p=p:=fun {i p} h=>by show P.getD i _=_;rw[dK,h];rfl
 have kT:(cS P sd (oT ls.length y)).k=lv:=congrArg Pc.l (gp (pT.trans (jm pV)));have kH:(cS P sd (oH ls.length y)).k={lp with aA:=lq.aA}:=congrArg Pc.l (gp pH);have yx:(cS P sd (oT ls.length d')).k={lq with aA:=lp.aA}:=congrArg Pc.l (gp pT');have F0:(cS P sd (oH ls.length d')).k=lw:=congrArg Pc.l (gp (pH'.trans (jm uP)));have dH:(cS P sd (oH ls.length y)).p.d=(eE ls (oT ls.length y)).p.d:=by rw[gp pH];rfl
 have Dp:(cS P sd (oT ls.length d')).p.d=(eE ls (oH ls.length d')).p.d:=by rw[gp pT'];rfl
 have okv:=(Fj g h1).cb (by rw[eS pV];exact cv);have okw:=(Fj g t2).cb (by rw[eS uP];exact cw);have bv:=acX (f:=ba y) okv;have bw:=acX (f:=ba d') okw;rw[Kg ld] at bv;rw[LF HY] at bw;have bp:=LF (ls:=ls) ld;have bq:=Kg (ls:=ls) HY;have gdp:=ok.ax.fq lp (aZ wU) pp;have gdq:=ok.ax.fq lq (aZ yj) pq;have plp:=Qy g wU pp;have plq:=Qy g yj pq;obtain⟨p1,p2,p3,p4⟩:=plp;obtain⟨p5,p6,p7,p8⟩:=plq;rw[eS wU] at p1 p2 p3 p4;rw[eS yj] at p5 p6 p7 p8;have lK:=Qx g wU pp;have zq:=Qx g yj pq;rw[CL (ba y)] at p1 p2;rw[Cl (ba y)] at p3 p4;rw[CL (ba d')] at p5 p6;rw[Cl (ba d')] at p7 p8;rw[lK,bp] at p1 p2 p3 p4;rw[zq,bq] at p5 p6 p7 p8;have cgq:cg ls lq.gate.toNat=cg ls lp.gate.toNat:=by rw[qK]
 obtain⟨gp0,gp1,gp2,gp3⟩:=gdp;obtain⟨gq0,gq1,gq2,gq3⟩:=gdq;rw[cgq] at gq3;rw[qK] at p5 p6 p7 p8;obtain⟨r,T',B',k9,wS,iF,hT,pl1,pl2,wP⟩:∃(r:Nat) (T' B':Nat->Nat->Nat),1<=r/\r<cg ls lp.gate.toNat/\((lp.aA=(r:Int)/\lq.aA=(r:Int)+1)\/(lq.aA=(r:Int)/\lp.aA=(r:Int)+1))/\(∀k j,¬(k=lp.gate.toNat/\j=r)->T' k j=TF ls k j/\B' k j=BF ls k j)/\
   Io T' B' (cS P sd (oH ls.length y))/\Io T' B' (cS P sd (oT ls.length d'))/\tI.l=hO.l:=by
  rcases hR with ⟨_,fD,aoI,eO⟩|⟨_,fD,aoI,eO⟩
  .have f1:(ba y==dn ls (oT ls.length y))=false:=by rw[eO];cases dn ls (oT ls.length y)<;>rfl
   have f2:(ba d'==dn ls (oH ls.length d'))=true:=by rw[fD];cases ba d'<;>rfl
   rw[f1] at p1 p2 p3 p4;rw[f2] at p5 p6 p7 p8;simp only[dR,if_false,if_true] at p1 p2 p3 p4 p5 p6 p7 p8;have er:lp.aA.toNat=lq.aA.toNat+1:=aa;rw[er] at p1 p2 p3 p4;rw[Nat.add_sub_cancel] at p1 p3;refine⟨lq.aA.toNat,fun k j=>if k=lp.gate.toNat/\j=lq.aA.toNat then oth else TF ls k j,fun k j=>if k=lp.gate.toNat/\j=lq.aA.toNat then tau else BF ls k j,aa,aa,.inr ⟨aa,aa⟩,fun k j h=>⟨aC h,aC h⟩,?_,?_,?_⟩
   .constructor
    .rw[kH,CL (ba y),dH,lK,f1];show(iX (iM (ba y) (cS P sd (oH ls.length y)))).r=if lp.gate.toNat=lp.gate.toNat/\lq.aA.toNat-1=lq.aA.toNat then oth else TF ls lp.gate.toNat (lq.aA.toNat-1);rw[aC aa,G1.2.2.2];exact xd.symm.trans p5
    .rw[kH,CL (ba y),dH,lK,f1];show(iX (iM (ba y) (cS P sd (oH ls.length y)))).l=if lp.gate.toNat=lp.gate.toNat/\lq.aA.toNat=lq.aA.toNat then oth else TF ls lp.gate.toNat lq.aA.toNat;rw[aG ⟨rfl,rfl⟩,G1.2.2.2];rfl
    .rw[kH,Cl (ba y),dH,lK,f1];show(iX (fS (ba y) (cS P sd (oH ls.length y)))).r=if lp.gate.toNat=lp.gate.toNat/\lq.aA.toNat-1=lq.aA.toNat then tau else BF ls lp.gate.toNat (lq.aA.toNat-1);rw[aC aa,G1.2.2.1];exact p7
    rw[kH,Cl (ba y),dH,lK,f1];show(iX (fS (ba y) (cS P sd (oH ls.length y)))).l=if lp.gate.toNat=lp.gate.toNat/\lq.aA.toNat=lq.aA.toNat then tau else BF ls lp.gate.toNat lq.aA.toNat;rw[aG ⟨rfl,rfl⟩,G1.2.2.1];rfl
   .constructor
    .rw[yx,CL (ba d'),Dp,zq,f2];show(fS (ba d') (cS P sd (oT ls.length d'))).r=if lq.gate.toNat=lp.gate.toNat/\lp.aA.toNat-1=lq.aA.toNat then oth else TF ls lq.gate.toNat (lp.aA.toNat-1);rw[aG ⟨by rw[qK],aa⟩,G2.1];exact xb.symm
    .rw[yx,CL (ba d'),Dp,zq,f2];show(fS (ba d') (cS P sd (oT ls.length d'))).l=if lq.gate.toNat=lp.gate.toNat/\lp.aA.toNat=lq.aA.toNat then oth else TF ls lq.gate.toNat lp.aA.toNat;rw[aC aa,G2.1,qK,er];exact xc.trans p2
    .rw[yx,Cl (ba d'),Dp,zq,f2];show(iM (ba d') (cS P sd (oT ls.length d'))).r=if lq.gate.toNat=lp.gate.toNat/\lp.aA.toNat-1=lq.aA.toNat then tau else BF ls lq.gate.toNat (lp.aA.toNat-1);rw[aG ⟨by rw[qK],aa⟩,G2.2.1]
    rw[yx,Cl (ba d'),Dp,zq,f2];show(iM (ba d') (cS P sd (oT ls.length d'))).l=if lq.gate.toNat=lp.gate.toNat/\lp.aA.toNat=lq.aA.toNat then tau else BF ls lq.gate.toNat lp.aA.toNat;rw[aC aa,G2.2.1,qK,er];exact p4
   exact p3.trans p8.symm
  have f1:(ba y==dn ls (oT ls.length y))=true:=by rw[eO];cases dn ls (oT ls.length y)<;>rfl
  have f2:(ba d'==dn ls (oH ls.length d'))=false:=by rw[fD];cases ba d'<;>rfl
  rw[f1] at p1 p2 p3 p4;rw[f2] at p5 p6 p7 p8;simp only[dR,if_false,if_true] at p1 p2 p3 p4 p5 p6 p7 p8;have er:lq.aA.toNat=lp.aA.toNat+1:=aa;rw[er] at p5 p6 p7 p8;rw[Nat.add_sub_cancel] at p5 p7;refine⟨lp.aA.toNat,fun k j=>if k=lp.gate.toNat/\j=lp.aA.toNat then tau else TF ls k j,fun k j=>if k=lp.gate.toNat/\j=lp.aA.toNat then oth else BF ls k j,aa,aa,.inl ⟨aa,aa⟩,fun k j h=>⟨aC h,aC h⟩,?_,?_,?_⟩
  .constructor
   .rw[kH,CL (ba y),dH,lK,f1];show(fS (ba y) (cS P sd (oH ls.length y))).r=if lp.gate.toNat=lp.gate.toNat/\lq.aA.toNat-1=lp.aA.toNat then tau else TF ls lp.gate.toNat (lq.aA.toNat-1);rw[aG ⟨rfl,aa⟩,G1.2.2.1]
   .rw[kH,CL (ba y),dH,lK,f1];show(fS (ba y) (cS P sd (oH ls.length y))).l=if lp.gate.toNat=lp.gate.toNat/\lq.aA.toNat=lp.aA.toNat then tau else TF ls lp.gate.toNat lq.aA.toNat;rw[aC aa,G1.2.2.1,er];exact p6
   .rw[kH,Cl (ba y),dH,lK,f1];show(iM (ba y) (cS P sd (oH ls.length y))).r=if lp.gate.toNat=lp.gate.toNat/\lq.aA.toNat-1=lp.aA.toNat then oth else BF ls lp.gate.toNat (lq.aA.toNat-1);rw[aG ⟨rfl,aa⟩,G1.2.2.2]
   rw[kH,Cl (ba y),dH,lK,f1];show(iM (ba y) (cS P sd (oH ls.length y))).l=if lp.gate.toNat=lp.gate.toNat/\lq.aA.toNat=lp.aA.toNat then oth else BF ls lp.gate.toNat lq.aA.toNat;rw[aC aa,G1.2.2.2,er];exact xd.symm.trans p8
  .constructor
   .rw[yx,CL (ba d'),Dp,zq,f2];show(iX (iM (ba d') (cS P sd (oT ls.length d')))).r=if lq.gate.toNat=lp.gate.toNat/\lp.aA.toNat-1=lp.aA.toNat then tau else TF ls lq.gate.toNat (lp.aA.toNat-1);rw[aC aa,G2.2.1,qK];exact p1
   .rw[yx,CL (ba d'),Dp,zq,f2];show(iX (iM (ba d') (cS P sd (oT ls.length d')))).l=if lq.gate.toNat=lp.gate.toNat/\lp.aA.toNat=lp.aA.toNat then tau else TF ls lq.gate.toNat lp.aA.toNat;rw[aG ⟨by rw[qK],rfl⟩,G2.2.1];rfl
   .rw[yx,Cl (ba d'),Dp,zq,f2];show(iX (fS (ba d') (cS P sd (oT ls.length d')))).r=if lq.gate.toNat=lp.gate.toNat/\lp.aA.toNat-1=lp.aA.toNat then oth else BF ls lq.gate.toNat (lp.aA.toNat-1);rw[aC aa,G2.1,qK];exact xc.trans p3
   rw[yx,Cl (ba d'),Dp,zq,f2];show(iX (fS (ba d') (cS P sd (oT ls.length d')))).l=if lq.gate.toNat=lp.gate.toNat/\lp.aA.toNat=lp.aA.toNat then oth else BF ls lq.gate.toNat lp.aA.toNat;rw[aG ⟨by rw[qK],rfl⟩,G2.1];exact xb.symm
  exact p2.trans p5.symm
 clear p1 p2 p3 p4 p5 p6 p7 p8 hR;have mgp:∀i,i<ls.length->(cS P sd i).k.aF=true->(i=oH ls.length y\/i=oT ls.length d')\/(cS P sd i=eE ls i/\i≠oT ls.length y/\i≠oH ls.length y/\i≠oT ls.length d'/\i≠oH ls.length d'):=fun i hi hp=>by
  rcases six i hi with (rfl|rfl|rfl|rfl)|h
  .rw[kT,nj cv] at hp;cases hp
  .exact .inl (.inl rfl)
  .exact .inl (.inr rfl)
  .rw[F0,nj cw] at hp;cases hp
  exact .inr h
 have mgc:∀i,i<ls.length->(cS P sd i).k.aD=true->(i=oT ls.length y\/i=oH ls.length d')\/(cS P sd i=eE ls i/\i≠oT ls.length y/\i≠oH ls.length y/\i≠oT ls.length d'/\i≠oH ls.length d'):=fun i hi hc=>by
  have n1:∀(l:Let) (r:Int),l.aF=true->({l with aA:=r}:Let).aD=false:=fun l r h=>qV (l:={l with aA:=r}) h;rcases six i hi with (rfl|rfl|rfl|rfl)|h
  .exact .inl (.inl rfl)
  .rw[kH,n1 _ _ pp] at hc;cases hc
  .rw[yx,n1 _ _ pq] at hc;cases hc
  .exact .inl (.inr rfl)
  exact .inr h
 -- the place of a pass is that of an old one
 have old:∀i,i<ls.length->(cS P sd i).k.aF=true->∃j l,ls[j]?=some l/\l.aF=true/\(cS P sd i).k.gate=l.gate/\(cS P sd i).k.aA=l.aA/\((i=oH ls.length y/\j=oH ls.length d')\/(i=oT ls.length d'/\j=oT ls.length y)\/(i=j/\i≠oT ls.length y/\i≠oH ls.length d')):=fun i hi hp=>by
  rcases mgp i hi hp with (rfl|rfl)|⟨e,n1,n2,n3,n4⟩
  .exact⟨_,lq,yj,pq,by rw[kH];exact qK.symm,by rw[kH],.inl ⟨rfl,rfl⟩⟩
  .exact⟨_,lp,wU,pp,by rw[yx];exact qK,by rw[yx],.inr (.inl ⟨rfl,rfl⟩)⟩
  obtain⟨l,hl⟩:=aN hi;rw[e] at hp;rw[eS hl] at hp;exact⟨i,l,hl,hp,by rw[e,eS hl],by rw[e,eS hl],.inr (.inr ⟨rfl,n1,n4⟩)⟩
 have C1:Xc (cS P sd (oT ls.length y)) (cS P sd (oH ls.length d')):=by
  obtain⟨b1,m,hm,mc,mi,mo,ms⟩:=sD ok.cr pV cv;rw[<- o1,uP] at hm;have em:=pz hm;subst em;refine⟨by rw[kT,F0,mo];simp,by rw[kT,F0,ms],?_⟩;rw[kT,q1,<- VT,G1.1,G1.2.1,G2.2.2.1,G2.2.2.2];constructor<;>simp only[if_true]
  .exact wP
  .rfl
  .rfl
  rfl
 have hid:lv.id=lw.id:=by obtain⟨b1,m,hm,mc,mi,mo,ms⟩:=sD ok.cr pV cv;rw[<- o1,uP] at hm;rw[pz hm,mi]
 have ho2:fQ ls (oT ls.length d')=oH ls.length y:=by rw[o1];exact(sD ok.cr pV cv).1
 have labs:∀(f:Bool) i,i<ls.length->∀t,t=(fS f (cS P sd i)).l\/t=(fS f (cS P sd i)).r->∃j',j'<ls.length/\(t=(sd j').l\/t=(sd j').r):=fun f i hi t ht=>by
  cases f
  .refine⟨i,hi,?_⟩;rcases ht with ht|ht
   .exact .inr ht
   exact .inl ht
  refine⟨(i+P.length-1)%P.length,?_,ht⟩;rw[zi];exact dk _ hn
 have labo:∀(f:Bool) i,i<ls.length->∀t,t=(iM f (cS P sd i)).l\/t=(iM f (cS P sd i)).r->∃j',j'<ls.length/\(t=(sd j').l\/t=(sd j').r):=fun f i hi t ht=>by
  cases f
  .refine⟨(i+P.length-1)%P.length,?_,?_⟩
   .rw[zi];exact dk _ hn
   rcases ht with ht|ht
   .exact .inr ht
   exact .inl ht
  exact⟨i,hi,ht⟩
 have czgt:=cz.gt;have czgz:=cz.gz;rw[mA] at czgz;refine abl g (tau:=tau) (sd:=sd) (T':=T') (B':=B') zi (ua _ fun _ _=>rfl) (ua _ fun _ _=>rfl) (fun k=>ua _ fun _ _=>rfl) (fun i hi=>?_) (fun i j hi hj ir ci cj e=>?_) (fun i j hi hj ir pi pj e1 e2=>?_) (fun i hi ci=>?_) (fun i hi pi=>?_) (fun i hi pi=>?_) (fun k hk=>?_) ?_ (fun j hj t ht=>?_)
 .rcases six i hi with (rfl|rfl|rfl|rfl)|⟨e,_⟩
  .exact⟨by rw[kT];exact g.bad lv (aZ pV),fun _=>acW (f:=ba y) (by rw[G1.1,G1.2.1]),fun hp=>by rw[kT,nj cv] at hp;cases hp⟩
  .have fl:=acY (f:=ba y) (x:=cS P sd (oH ls.length y)) (y:=eE ls (oT ls.length y)) (by rw[G1.2.2.1]) (by rw[G1.2.2.2,bp];exact bv.symm);refine⟨by rw[kH];exact aa0 pp (g.bad lp (aZ wU)),fun hc=>?_,fun _=>?_⟩
   .rw[kH] at hc;have:=qV (l:={lp with aA:=lq.aA}) pp;rw[this] at hc;cases hc
   rw[fl.1,fl.2,dH];exact(Fj g t1).pb (by rw[eS wU];exact pp)
  .have fl:=acY (f:=ba d') (x:=cS P sd (oT ls.length d')) (y:=eE ls (oH ls.length d')) (by rw[G2.1,bq];exact bw) (by rw[G2.2.1]);refine⟨by rw[yx];exact aa0 pq (g.bad lq (aZ yj)),fun hc=>?_,fun _=>?_⟩
   .rw[yx] at hc;have:=qV (l:={lq with aA:=lp.aA}) pq;rw[this] at hc;cases hc
   rw[fl.1,fl.2,Dp];exact(Fj g h2).pb (by rw[eS yj];exact pq)
  .exact⟨by rw[F0];exact g.bad lw (aZ uP),fun _=>acW (f:=ba d') (by rw[G2.2.2.1,G2.2.2.2]),fun hp=>by rw[F0,nj cw] at hp;cases hp⟩
  rw[e];exact Fj g hi
 .rcases mgc i hi ci with (rfl|rfl)|⟨ei,n1,n2,n3,n4⟩<;>rcases mgc j hj cj with (rfl|rfl)|⟨ej,m1,m2,m3,m4⟩
  .exact absurd rfl ir
  .exact C1
  .exfalso;obtain⟨l,hl⟩:=aN hj;rw[kT,ej,eS hl] at e;rw[ej,eS hl] at cj;have:=F9 g pV hl cv cj e m2.symm;rw[<- o1] at this;exact m3 this.symm
  .exact C1.symm
  .exact absurd rfl ir
  .exfalso;obtain⟨l,hl⟩:=aN hj;rw[F0,ej,eS hl] at e;rw[ej,eS hl] at cj;have:=F9 g uP hl cw cj e m3.symm;rw[ho2] at this;exact m2 this.symm
  .exfalso;obtain⟨l,hl⟩:=aN hi;rw[kT,ei,eS hl] at e;rw[ei,eS hl] at ci;have:=F9 g pV hl cv ci e.symm n2.symm;rw[<- o1] at this;exact n3 this.symm
  .exfalso;obtain⟨l,hl⟩:=aN hi;rw[F0,ei,eS hl] at e;rw[ei,eS hl] at ci;have:=F9 g uP hl cw ci e.symm n3.symm;rw[ho2] at this;exact n2 this.symm
  rw[ei] at ci e |-;rw[ej] at cj e |-;exact ML g hi hj ir ci cj e
 .obtain⟨a,l,hl,_,g1',tE,c1⟩:=old i hi pi;obtain⟨b,m,hm,_,g2',uj,c2⟩:=old j hj pj;rename_i Lh Lj;have dU:a≠b:=by
   intro e;rcases c1 with ⟨i1,j1⟩|⟨i1,j1⟩|⟨i1,i2,i3⟩<;>rcases c2 with ⟨k1,k2⟩|⟨k1,k2⟩|⟨k1,k2,k3⟩
   .exact ir (i1.trans k1.symm)
   .exact npq (by rw[<- k2,<- e,j1])
   .exact k3 (by rw[k1,<- e,j1])
   .exact npq (by rw[<- j1,e,k2])
   .exact ir (i1.trans k1.symm)
   .exact k2 (by rw[k1,<- e,j1])
   .exact i3 (by rw[i1,e,k2])
   .exact i2 (by rw[i1,e,k2])
   exact ir (by rw[i1,k1,e])
  have gl:=ok.ax.fq l (aZ hl) Lh;have gm:=ok.ax.fq m (aZ hm) Lj;exact dU (ok.ax.inj a b l m hl hm Lh Lj ((Iq gl gm).2 ⟨by rw[<- g1',<- g2',e1],by rw[<- tE,<- uj,e2]⟩))
 .rcases mgc i hi ci with (rfl|rfl)|⟨ei,_⟩
  .rw[kT];exact g.ids.1 lv (aZ pV) cv
  .rw[F0];exact g.ids.1 lw (aZ uP) cw
  obtain⟨l,hl⟩:=aN hi;rw[ei,eS hl] at ci |-;exact g.ids.1 l (aZ hl) ci
 .obtain⟨a,l,hl,Lh,g1',tE,_⟩:=old i hi pi;rw[g1',tE];obtain⟨_,_,b1,b2⟩:=ok.ax.fq l (aZ hl) Lh;exact⟨b1,b2⟩
 .rcases mgp i hi pi with (rfl|rfl)|⟨ei,n1,n2,n3,n4⟩
  .exact pl1
  .exact pl2
  obtain⟨l,hl⟩:=aN hi;rw[ei] at pi |-;rw[eS hl] at pi;obtain⟨a1,a2,a3,a4⟩:=Qy g hl pi;rw[eS hl] at a1 a2 a3 a4;obtain⟨b0,_,b1,b2⟩:=ok.ax.fq l (aZ hl) pi;have vn:l.gate.toNat=lp.gate.toNat->l.aA.toNat≠r/\l.aA.toNat-1≠r:=fun jf=>by have gg:l.gate=lp.gate:=aa;have d1:l.aA≠lp.aA:=fun e=>n1 (ok.ax.inj i _ l lp hl wU pi pp ((Iq (ok.ax.fq l (aZ hl) pi) (ok.ax.fq lp (aZ wU) pp)).2 ⟨gg,e⟩));have d2:l.aA≠lq.aA:=fun e=>n4 (ok.ax.inj i _ l lq hl yj pi pq ((Iq (ok.ax.fq l (aZ hl) pi) (ok.ax.fq lq (aZ yj) pq)).2 ⟨by rw[gg,qK],e⟩));rcases iF with ⟨s1,s2⟩|⟨s1,s2⟩<;>omega
  have v1:=hT l.gate.toNat (l.aA.toNat-1) (fun⟨h1,h2⟩=>(vn h1).2 h2);have v2:=hT l.gate.toNat l.aA.toNat (fun⟨h1,h2⟩=>(vn h1).1 h2);constructor
  .rw[eS hl,v1.1];exact a1
  .rw[eS hl,v2.1];exact a2
  .rw[eS hl,v1.2];exact a3
  rw[eS hl,v2.2];exact a4
 .have:=czgt k hk;rw[mA] at this;have v1:=hT k (cg ls k) (fun⟨h1,h2⟩=>by rw[h1] at h2;omega);have v2:=hT (k+1) 0 (fun⟨_,h2⟩=>aa);rw[v1.1,v1.2,v2.1,v2.2];exact this
 .have v1:=hT F (cg ls F) (fun⟨h1,h2⟩=>by rw[h1] at h2;omega);have v2:=hT 0 0 (fun⟨_,h2⟩=>aa);rw[v1.1,v1.2,v2.1,v2.2];exact czgz
 have viaK:∀d,j=d/2->t=(oK ls d).l\/t=(oK ls d).r:=fun d hd=>by
  rw[hd] at ht;unfold oK;split
  .exact ht
  exact ht.symm
 by_cases n1:j=y/2
 .rcases viaK y n1 with h|h
  .exact .inl h
  exact .inr (labs (ba d') _ t2 t (.inl (by rw[G2.1,h];exact xc.symm)))
 by_cases n2:j=d'/2
 .rcases viaK d' n2 with h|h
  .exact .inl (h.trans xa.symm)
  exact .inr (labo (ba y) _ h1 t (.inl (by rw[G1.2.2.2,h];exact xd)))
 exact .inr ⟨j,hj,by rw[sdn j n1 n2];exact ht⟩
def Jm(g:cE F ls){a b:Nat}(ha:a<ls.length)(hb:b<ls.length)(dU:a≠b){L:c_}(h:nI F ls a b=some L):Cert F L:=by
 unfold nI at h;split at h
 case isFalse=>cases h
 rename_i hc;simp only[cJ,l7,lS,dh] at hc;obtain⟨h1,h2,h3,h4,h5⟩:=hc;cases h;have hn:0<ls.length:=jQ.2 g.ne;have bd:=bk ls;obtain⟨ea,⟨la,tm,ca⟩,ma,tn,qa⟩:=US hn ha h1;obtain⟨eb,⟨lb,uM,cb⟩,mb,tq,qb⟩:=US hn hb h2;generalize (jP ls a).1=pa at*;generalize (jP ls a).2.1=va at*;generalize (jP ls b).1=pb at*;generalize (jP ls b).2.1=vb at*;have eva:pA ls va=⟨la,eW ls va⟩:=iU (jm tm);have evb:pA ls vb=⟨lb,eW ls vb⟩:=iU (jm uM);have epa:pA ls pa=⟨ma,eW ls pa⟩:=iU (jm tn);have epb:pA ls pb=⟨mb,eW ls pb⟩:=iU (jm tq);rw[eva,evb] at h4;rw[epa,epb]
 obtain⟨w,hw,lX,d,d1,d2,d3,d4,two,cs⟩:=ZE g ha hb dU ea eb tm uM tn tq ca cb qa qb h4 h3 h5;have pc:∀ {x y:Nat} {l m:Let},ls[x]?=some l->ls[y]?=some m->l.aD=true->m.aF=true->x≠y:=fun h1 h2 h3 h4 e=>by subst e;rw[h1] at h2;have:=pz h2;rw[this,qV h4] at h3;cases h3
 have nva:va≠pa:=pc tm tn ca qa;have nvb:vb≠pb:=pc uM tq cb qb;have nvab:va≠pb:=pc tm tq ca qb;have nvba:vb≠pa:=pc uM tn cb qa
 let PP:=dx (dx (pieces ls) pa mb.aA) pb ma.aA
 have Ya:=jm tn;have aoG:pa≠pb->(dx (pieces ls) pa mb.aA)[pb]?=some ⟨mb,eW ls pb⟩:=fun aK=>by rw[qx Ya,aC aK.symm];exact jm tq
 have aoH:∃p,(dx (pieces ls) pa mb.aA)[pb]?=some p:=aN (by rw[nv,bd];exact(aW.1 tq).1);have TK:PP.length=ls.length:=by show(dx (dx _ _ _) _ _).length=_;rw[nv,nv,bd]
 have e1:(eN ls PP a).length=ls.length:=by rw[tJ,TK]
 have zi:(dC ls PP [a,b]).length=ls.length:=by rw[qy,TK]
 have ua:∀q:Let->Bool,(∀(l:Let) (r:Int),q {l with aA:=r}=q l)->aq q ((dC ls PP [a,b]).map Pc.l)=aq q ls:=fun q hq=>by rw[<- Lg (ls:=ls) q];show List.countP _ _=List.countP _ _;rw[vZ,vZ];show(eN ls (eN ls PP a) b).countP _=_;obtain⟨p,hp⟩:=aoH;rw[Eu e1 hb (Bg g hb),Eu TK ha (Bg g ha),Iv hp (fun p=>hq _ _),Iv Ya (fun p=>hq _ _)]
 have PPg:pa≠pb->PP[pa]?=some ⟨{ma with aA:=mb.aA},eW ls pa⟩/\PP[pb]?=some ⟨{mb with aA:=ma.aA},eW ls pb⟩/\ ∀i,i≠pa->i≠pb->PP[i]?=(pieces ls)[i]? :=fun aK=>by
  have k:∀j,PP[j]?=if j=pb then some ⟨{mb with aA:=ma.aA},eW ls pb⟩ else if j=pa then some ⟨{ma with aA:=mb.aA},eW ls pa⟩ else (pieces ls)[j]? :=fun j=>by show(dx (dx _ _ _) _ _)[j]?=_;rw[qx (aoG aK),qx Ya]
  refine⟨by rw[k,aC aK,aG rfl],by rw[k,aG rfl],fun i n1 n2=>by rw[k,aC n2,aC n1]⟩
 have swg:pa≠pb->(dC ls PP [a,b])[pa]?=PP[va]? /\(dC ls PP [a,b])[va]?=PP[pa]? /\(dC ls PP [a,b])[pb]?=PP[vb]? /\(dC ls PP [a,b])[vb]?=PP[pb]? /\ ∀i,i≠pa->i≠va->i≠pb->i≠vb->(dC ls PP [a,b])[i]?=PP[i]? :=fun aK=>by
  have k:∀i,(dC ls PP [a,b])[i]?=if i=nx ls b then (eN ls PP a)[b]? else if i=b then (eN ls PP a)[nx ls b]? else (eN ls PP a)[i]? :=fun i=>vQ e1 hb i;have k2:∀i,(eN ls PP a)[i]?=if i=nx ls a then PP[a]? else if i=a then PP[nx ls a]? else PP[i]? :=fun i=>vQ TK ha i;have ka:∀i,i≠pa->i≠va->(eN ls PP a)[i]?=PP[i]? :=fun i n1 n2=>by
   rcases ea with ⟨q1,q2⟩|⟨q1,q2⟩
   .rw[k2,aC (by rw[<- q2];exact n2),aC (by rw[<- q1];exact n1)]
   rw[k2,aC (by rw[<- q1];exact n1),aC (by rw[<- q2];exact n2)]
  have kb:∀i,i≠pb->i≠vb->(dC ls PP [a,b])[i]?=(eN ls PP a)[i]? :=fun i n1 n2=>by
   rcases eb with ⟨q1,q2⟩|⟨q1,q2⟩
   .rw[k,aC (by rw[<- q2];exact n2),aC (by rw[<- q1];exact n1)]
   rw[k,aC (by rw[<- q1];exact n1),aC (by rw[<- q2];exact n2)]
  have ka2:(eN ls PP a)[pa]?=PP[va]? /\(eN ls PP a)[va]?=PP[pa]? :=by
   rcases ea with ⟨q1,q2⟩|⟨q1,q2⟩
   .exact⟨by rw[k2,aC (by rw[<- q2];exact nva.symm),aG q1,<- q2],by rw[k2,aG q2,<- q1]⟩
   exact⟨by rw[k2,aG q1,<- q2],by rw[k2,aC (by rw[<- q1];exact nva),aG q2,<- q1]⟩
  have OU:(dC ls PP [a,b])[pb]?=(eN ls PP a)[vb]? /\(dC ls PP [a,b])[vb]?=(eN ls PP a)[pb]? :=by
   rcases eb with ⟨q1,q2⟩|⟨q1,q2⟩
   .exact⟨by rw[k,aC (by rw[<- q2];exact nvb.symm),aG q1,<- q2],by rw[k,aG q2,<- q1]⟩
   exact⟨by rw[k,aG q1,<- q2],by rw[k,aC (by rw[<- q1];exact nvb),aG q2,<- q1]⟩
  refine⟨by rw[kb _ aK nvba.symm,ka2.1],by rw[kb _ nvab h3,ka2.2],by rw[OU.1,ka _ nvba (Ne.symm h3)],by rw[OU.2,ka _ aK.symm nvab.symm],fun i n1 n2 n3 n4=>by rw[kb i n3 n4,ka i n1 n2]⟩
 rcases cs with ⟨c1,c2,c3,c4,c5,c6⟩|⟨c1,c2,c3,c4,c5,c6⟩
 .refine abk g hw lX d1 d2 d3 d4 rfl two (lp:=ma) (lv:=la) (lw:=lb) (lq:=mb) (by rw[c3];exact tn) (by rw[c4];exact tm) (by rw[c5];exact uM) (by rw[c6];exact tq) qa ca cb qb zi ua fun aK=>?_;rw[c3,c4,c5,c6] at*;obtain⟨g1,g2,g3⟩:=PPg aK;obtain⟨s1,s2,s3,s4,s5⟩:=swg aK;exact⟨by rw[s1,g3 _ nva nvab],by rw[s2,g1],by rw[s4,g2],by rw[s3,g3 _ nvba nvb],fun i n1 n2 n3 n4=>by rw[s5 i n1 n2 n4 n3,g3 i n1 n4]⟩
 refine abk g hw lX d1 d2 d3 d4 rfl two (lp:=mb) (lv:=lb) (lw:=la) (lq:=ma) (by rw[c3];exact tq) (by rw[c4];exact uM) (by rw[c5];exact tm) (by rw[c6];exact tn) qb cb ca qa zi ua fun aK=>?_;rw[c3,c4,c5,c6] at*;obtain⟨g1,g2,g3⟩:=PPg aK.symm;obtain⟨s1,s2,s3,s4,s5⟩:=swg aK.symm;exact⟨by rw[s3,g3 _ nvba nvb],by rw[s4,g2],by rw[s2,g1],by rw[s1,g3 _ nva nvab],fun i n1 n2 n3 n4=>by rw[s5 i n4 n3 n1 n2,g3 i n4 n1]⟩
end
end Go.Abs
