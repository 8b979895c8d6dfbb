/- A part. -/
import Derived.Test.YtaajncoljnafjaaGreatDoorUc
import Derived.Test.YtaajncoljnafjaaGreatDoorVb
set_option linter.all false
set_option maxHeartbeats 16000000
namespace Go.Abs
def X4.Rf{g:Bool}{i o j q:eJ}(h:X4 g i o j q):X4 (!g) (jd o) (jd i) j q:=by obtain⟨a,b,c,d⟩:=h;cases g<;>simp only[dN,if_false,if_true]at a b c d<;>constructor<;>simp[jd,a,b,c,d]
def X4.Rg{g:Bool}{i o j q:eJ}(h:X4 g i o j q):X4 (!g) i o (jd q) (jd j):=by obtain⟨a,b,c,d⟩:=h;cases g<;>simp only[dN,if_false,if_true]at a b c d<;>constructor<;>simp[jd,a,b,c,d]
def fP(f:Bool)(x:aQ):eJ:=if f then x.i else jd x.o
def iO(f:Bool)(x:aQ):eJ:=if f then x.o else jd x.i
def Ud{f f':Bool}{x y:aQ}:X4 true (fP f x) (iO f x) (fP f' y) (iO f' y)↔X4 (f==f') x.i x.o y.i y.o:=by
 cases f<;>cases f'<;>simp only[fP,iO,dN,if_false,if_true]
 .exact⟨fun h=>h.Rf.Rg,fun h=>h.Rf.Rg⟩
 .exact⟨fun h=>h.Rf,fun h=>h.Rf⟩
 .exact⟨fun h=>h.Rg,fun h=>h.Rg⟩
 exact uv
def oT (n d:Nat):Nat:=if d%2=0 then d/2 else(d/2+1)%n
def oH (n d:Nat):Nat:=if d%2=0 then(d/2+1)%n else d/2
def aY(d:Nat):Bool:=d%2==0
section
variable {F:Nat} {ls:ai}
def cN(P:c_)(sd:Nat->eJ)(i:Nat):aQ:=⟨P.getD i ⟨lQ,false⟩,sd ((i+P.length-1)%P.length),sd i⟩
def zG (P:c_)(sd:Nat->eJ):k_:=(List.range P.length).map (cN P sd)
def akj(P:c_)(sd:Nat->eJ):(zG P sd).map aQ.p=P:=by
 unfold zG;rw[uy];apply xL;intro i;rw[fG];by_cases hi:i<P.length
 .obtain⟨p,hp⟩:=aL hi;rw[vp hi,hp];show some (P.getD i _)=_;rw[dC,hp];rfl
 rw[n9 (by rw[EX];omega),n9 aa];rfl
def axQ(P:c_)(sd:Nat->eJ)(h:0<P.length):∃s,kE s (zG P sd) s:=by
 refine⟨sd (P.length-1),?_⟩;have:=ah6 (cN P sd) (fun i=>sd ((i+P.length-1)%P.length)) P.length 0 fun i _ hi=>⟨rfl,?_⟩
 .simp only[jx]at this;rw[fT aa,show P.length+P.length-1=(P.length-1)+P.length by omega,ow,fT aa,<-akA]at this;exact this
 show sd i=sd ((i+1+P.length-1)%P.length);rw[show i+1+P.length-1=i+P.length by omega,ow,fT aa]
def abL(g:ch F ls){P:c_}{sd:Nat->eJ}{T' B':Nat->Nat->Nat}{tau:Nat}(hl:P.length=ls.length)
  (hC:aq Let.aB (P.map Pc.l)=aq Let.aB ls) (hP:aq Let.aE (P.map Pc.l)=aq Let.aE ls) (hG:∀k,cg (P.map Pc.l) k=cg ls k)
  (ok:∀i,i<ls.length->Bs F (cN P sd i)) (cr:∀i j,i<ls.length->j<ls.length->i≠j->Xr (cN P sd i) (cN P sd j)) (rk:∀i j,i<ls.length->j<ls.length->i≠j->Dr (cN P sd i) (cN P sd j))
  (ids:∀i,i<ls.length->(cN P sd i).k.aB=true->1<=(cN P sd i).k.id/\(cN P sd i).k.id<=((aq Let.aB ls/2:Nat):Int))
  (rr:∀i,i<ls.length->(cN P sd i).k.aE=true->1<=(cN P sd i).k.aw/\(cN P sd i).k.aw<=(cg ls (cN P sd i).k.gate.toNat:Int))
  (pl:∀i,i<ls.length->(cN P sd i).k.aE=true->IF T' B' (cN P sd i))
  (gt:∀k,k<F->T' k (cg ls k)=T' (k+1) 0/\B' k (cg ls k)=B' (k+1) 0) (gz:T' F (cg ls F)=T' 0 0/\B' F (cg ls F)=B' 0 0)
  (wit:∀j,j<ls.length->∀t,(t=(rR ls j).l\/t=(rR ls j).r)->t=tau\/ ∃j',j'<ls.length/\(t=(sd j').l\/t=(sd j').r)):Cert F P:=by
 have hn:0<ls.length:=jl.2 g.ne;have zO:aR (zG P sd)=P.map Pc.l:=by
  show(zG P sd).map (fun x=>x.p.l)=_;have:(zG P sd).map (fun x=>x.p.l)=((zG P sd).map aQ.p).map Pc.l:=by rw[uy];rfl
  rw[this,akj]
 have mem:∀x∈zG P sd,∃i,i<ls.length/\x=cN P sd i:=fun x hx=>by obtain⟨i,hi,rfl⟩:=cJ.1 hx;exact⟨i,by have:=im.1 hi;omega,rfl⟩
 have inz:∀i,i<ls.length->cN P sd i∈zG P sd:=fun i hi=>cJ.2 ⟨i,im.2 aa,rfl⟩;have q:Cq F (zG P sd) T' B':=by
  refine⟨fun x hx=>?_,SP fun i j hi hj ij=>cr i j aa aa ij,?_,fun x hx hc=>?_,SP fun i j hi hj ij=>rk i j aa aa ij,fun x hx hp=>?_,fun x hx hp=>?_,fun k hk=>?_,?_⟩
  .obtain⟨i,hi,rfl⟩:=mem x hx;exact ok i hi
  .rw[zO,hC];have:=g.cz.ev;rwa[mz]at this
  .obtain⟨i,hi,rfl⟩:=mem x hx;rw[zO,hC];exact ids i hi hc
  .obtain⟨i,hi,rfl⟩:=mem x hx;rw[zO,hG];exact rr i hi hp
  .obtain⟨i,hi,rfl⟩:=mem x hx;exact pl i hi hp
  .rw[zO,hG];exact gt k hk
  rw[zO,hG];exact gz
 refine⟨zG P sd,T',B',(List.range (mQ ls)).filter (fun s=> ![tau].contains s),akj P sd,⟨axQ P sd aa,q.ok,q.cr,q.ev,q.ids,q.rk,q.rr,q.pl,q.gt,q.gz,?_,GH.filter _,fun s hs=>?_,?_⟩⟩
 .have:0<aq Let.aE (P.map Pc.l):=by
   rw[hP];obtain⟨l,h1,h2⟩:=g.first;exact Ap.2 ⟨l,aV h1,h2⟩
  rw[<-zO]at this;obtain⟨l,h1,h2⟩:=Ap.1 this;obtain⟨x,hx,rfl⟩:=cJ.1 h1;exact⟨x,hx,h2⟩
 .obtain⟨h1,h2⟩:=uz.1 hs;have h2:s≠tau:=by simpa using h2
  obtain⟨x,hx,e⟩:=g.cz.wit s h1;obtain⟨j,hj,rfl⟩:=cJ.1 hx;have hj:=im.1 hj;rcases wit j hj s e with h|⟨j',hj',h⟩
  .exact absurd h h2
  exact⟨cN P sd j',inz j' hj',h⟩
 rw[zO,hC,hP];have h1:=aeb (L:=[tau]) (GH (n:=mQ ls));have h2:=g.nw;rw[EX]at h1;simp only[dI,fe]at h1;omega
def Iz(g:ch F ls){d:Nat}(hd:d<2*ls.length):oT ls.length d<ls.length:=by
 unfold oT;split
 .omega
 exact de _ (jl.2 g.ne)
def yG(g:ch F ls){d:Nat}(hd:d<2*ls.length):oH ls.length d<ls.length:=by
 unfold oH;split
 .exact de _ (jl.2 g.ne)
 omega
def DK{d:Nat}(hd:d<2*ls.length):d=fV ls.length (oH ls.length d) (aY d):=by have:=Qp hd;unfold oH aY;exact this
def Hf{n v:Nat}{f:Bool}(hv:v<n):oT n (dx n v f)=v/\aY (dx n v f)=f:=by
 unfold oT aY dx;cases f
 .simp only[dN,if_false];have e1:(2*((v+n-1)%n)+1)%2=1:=aa;have e2:(2*((v+n-1)%n)+1)/2=(v+n-1)%n:=aa;rw[e1,e2,vZ hv];exact⟨rfl,rfl⟩
 simp only[if_true];have e1:(2*v)%2=0:=aa;have e2:(2*v)/2=v:=aa;rw[e1,e2];exact⟨rfl,rfl⟩
def oK (ls:ai)(d:Nat):eJ:=if d%2=0 then rR ls (d/2)else jd (rR ls (d/2))
def Ks{d:Nat}(hd:d<2*ls.length):fP (aY d) (eB ls (oH ls.length d))=oK ls d:=by
 unfold fP aY oH oK eB;rcases vt d with h|h
 .simp only[h,Av,if_true];rw[v7 aa]
 simp[h]
def LS{d:Nat}(hd:d<2*ls.length):iO (aY d) (eB ls (oT ls.length d))=oK ls d:=by
 unfold iO aY oT oK eB;rcases vt d with h|h
 .simp[h]
 simp only[h,show((1:Nat)==0)=false from rfl,dN,if_false,Mo];rw[v7 aa]
def DH(g:ch F ls){d:Nat}(hd:d<2*ls.length){l:Let}(hl:ls[oH ls.length d]?=some l)(hc:l.aB=true):aO ls d<2*ls.length/\oT ls.length (aO ls d)=fM ls (oH ls.length d)/\gX l=(aY d==aY (aO ls d))/\
  X4 true (fP (aY d) (eB ls (oH ls.length d))) (iO (aY d) (eB ls (oH ls.length d))) (fP (aY (aO ls d)) (eB ls (oT ls.length (aO ls d)))) (iO (aY (aO ls d)) (eB ls (oT ls.length (aO ls d)))):=by
 have ok:=g.ok;have hv:=yG g hd;obtain⟨b1,m,hm,mc,mi,mo,ms⟩:=sC ok.cr hl hc;have ho:=(aT.1 hm).1;have e:aO ls d=dx ls.length (fM ls (oH ls.length d)) (aY d==gX l):=by
  conv=>lhs;rw[DK hd]
  rw[yN hl hc];rfl
 obtain⟨a1,a2⟩:=Hf (n:=ls.length) (f:=(aY d==gX l)) ho;have aH:oH ls.length d≠fM ls (oH ls.length d):=by intro ee;rw[<-ee,hl]at hm;have:=pz hm;rw[<-this]at mo;revert mo;cases l.over<;>simp
 have hg:gX l=(aY d==(aY d==gX l)):=by cases aY d<;>cases gX l<;>rfl
 rw[e,a1,a2];refine⟨?_,rfl,hg,?_⟩
 .have:=xS ho (!(aY d==gX l));rw[<-Ad]at this;have:=Ae this;rwa[Af]at this
 rw[Ud,<-hg];have:=(M7 g hv ho aH (by rw[eH hl];exact hc) (by rw[eH hm];exact mc) (by rw[eH hl,eH hm];exact mi.symm)).x4;rwa[eH hl]at this
def wA{l:c_}(hl:l.length=ls.length){e:Nat}(he:e<ls.length)(i:Nat):(eG ls l e)[i]?=if i=nx ls e then l[e]? else if i=e then l[nx ls e]? else l[i]? :=by
 have hn:nx ls e<ls.length:=de _ aa;obtain⟨p,hp⟩:=aL (ls:=l) (k:=e) aa;obtain⟨q,hq⟩:=aL (ls:=l) (k:=nx ls e) aa;unfold eG;rw[qZ,qZ,dC,dC,hp,hq,ux];by_cases c1:i=nx ls e
 .subst c1;rw[aD rfl,aD aa,aD rfl];rfl
 rw[au (Ne.symm c1),au c1];by_cases c2:i=e
 .subst c2;rw[aD rfl,aD aa,aD rfl];rfl
 rw[au (Ne.symm c2),au c2]
def TI(g:ch F ls){w:a_}(hw:w∈gH (aO ls) (nD ls)){Q:Nat->Prop}(h1:∀x,x<nD ls->(Q (aO ls x)↔Q x)){x y:Nat}(hx:x∈w)(hy:y∈w):Q x↔Q y:=by
 have e:=aac (maps g.ok) (R:=gr (nD ls) (aO ls)) (fun z hz=>.rel ⟨hz,rfl⟩) hw hx hy;have:=e.inv (f:=fun x=>Q x) fun a b r=>by obtain⟨ha,rfl⟩:=r;exact propext (h1 a ha).symm
 exact Eq.to_iff this
end
def awM:∀(L M:d_),L.Nodup->(∀x∈L,x∈M)->L.length<=M.length:=by
 intro L
 induction L with
 |nil=>intro M _ _;exact bR _
 |cons a L ih=>intro M hn hs;obtain⟨h1,h2⟩:=rh.1 hn;have ha:=hs a af;have:=ih (M.erase a) h2 fun x hx=>(T1 (by rintro rfl;exact h1 hx)).2 (hs x (by simp[hx]));rw[TZ ha]at this;have:0<M.length:=Mh ha;simp only[dI];omega
def MW:∀l:d_,(iS l).Nodup:=by
 intro l
 induction l with
 |nil=>exact xO
 |cons a l ih=>
  unfold iS;split
  .exact ih
  rename_i h;exact rh.2 ⟨fun hm=>h (AW.1 hm),ih⟩
def acv{l:d_}:(iS l).length=l.length->l.Nodup:=by
 induction l with
 |nil=>intro _;exact xO
 |cons a l ih=>
  have hle:(iS l).length<=l.length:=awM _ _ (MW l) fun x hx=>AW.1 hx;unfold iS;rw[rh];split
  .intro e;simp only[dI]at e;omega
  rename_i h;simp only[dI];intro e;exact⟨h,ih aa⟩
def UJ{p:Pc->Bool}{l:c_}{i:Nat}{x y:Pc}(h:l[i]?=some x):(l.set i y).countP p+(if p x then 1 else 0)=l.countP p+(if p y then 1 else 0):=by
 have e:=awy h;have hl:=(aT.1 h).1;have e2:l.set i y=l.take i++y::l.drop (i+1):=by
  conv=>lhs;rw[e]
  rw[aaz _ _ (by rw[iz];omega),iz,Au aa,Mp];rfl
 rw[e2]
 conv=>rhs;rw[e]
 rw[xJ,xJ,xK,xK];omega
section
variable {F:Nat} {ls:ai}
def Gx{l:c_}(hl:l.length=ls.length){e:Nat}(he:e<ls.length)(aH:e≠nx ls e)(p:Pc->Bool):(eG ls l e).countP p=l.countP p:=by
 have hn:nx ls e<ls.length:=de _ aa;obtain⟨x,hx⟩:=aL (ls:=l) (k:=e) aa;obtain⟨y,hy⟩:=aL (ls:=l) (k:=nx ls e) aa;unfold eG;rw[dC,dC,hx,hy];simp only[oE];have h1:=UJ (p:=p) (y:=y) hx;have h2:(l.set e y)[nx ls e]?=some y:=by rw[qZ,au aH];exact hy
 have h3:=UJ (p:=p) (y:=x) h2;omega
def CM(g:ch F ls){e:Nat}(he:e<ls.length):e≠nx ls e:=by
 have h2:2<=ls.length:=by obtain⟨l,h1,hp⟩:=g.first;have:=g.even;have:0<aq Let.aE ls:=Ap.2 ⟨l,aV h1,hp⟩;have:=sR Let.aE ls;omega
 unfold nx;by_cases c:e+1<ls.length
 .rw[fT c];omega
 rw[show e+1=ls.length by omega,E0];omega
def Pd(p:Let->Bool):aq p ((pieces ls).map Pc.l)=aq p ls:=by
 have:(pieces ls).map Pc.l=ls:=by
  have h:=mz ls;rw[<-h];have e:aR (zF ls)=((zF ls).map aQ.p).map Pc.l:=by rw[uy];rfl
  rw[h,<-IW,<-e,h]
 rw[this]
def Gr(g:ch F ls){i j:Nat}{l m:Let}(hl:ls[i]?=some l)(hm:ls[j]?=some m)(hc:l.aB=true)(mc:m.aB=true)(e:l.id=m.id)(ij:i≠j):fM ls i=j:=by obtain⟨_,hp⟩:=g.ids;obtain⟨d1,_⟩:=hp i j l m hl hm hc mc e ij;obtain⟨b1,w,hw,wc,wi,wo,ws⟩:=sC g.ok.cr hl hc;refine TS fun aH=>?_;have d3:=(hp _ _ w m hw hm wc mc (by rw[wi,e]) aH).1;rw[wo]at d3;revert d1 d3;cases l.over<;>cases m.over<;>simp
def ajQ(g:ch F ls){w:a_}(hw:w∈gH (aO ls) (nD ls)){p q r:Nat}(hp:p∈w)(hq:q∈w)(hr:r∈w)(pq:p≠q)(pr:p≠r)(qr:q≠r)(lp:p<nD ls)(lq:q<nD ls)(lr:r<nD ls)
  (np:aO ls p=p\/aO ls p=q\/aO ls p=r) (nq:aO ls q=p\/aO ls q=q\/aO ls q=r) (nr:aO ls r=p\/aO ls r=q\/aO ls r=r):
  (aO ls p=q/\aO ls q=r/\aO ls r=p)\/(aO ls p=r/\aO ls r=q/\aO ls q=p):=by
 have inj:=(maps g.ok).inj;have i1:aO ls p≠aO ls q:=fun e=>pq (inj _ _ lp lq e);have i2:aO ls p≠aO ls r:=fun e=>pr (inj _ _ lp lr e);have i3:aO ls q≠aO ls r:=fun e=>qr (inj _ _ lq lr e);have one:∀x y,x∈w->y∈w->x≠y->x<nD ls->aO ls x≠x:=fun x y hx hy js lx e=>by have:=TI g hw (Q:=fun t=>t=x) (fun t ht=>⟨fun h=>inj _ _ ht lx (by rw[h,e]),fun h=>by rw[h,e]⟩) hx hy;exact js (this.1 rfl).symm
 have n1:=one p q hp hq pq lp;have n2:=one q p hq hp (Ne.symm pq) lq;have n3:=one r p hr hp (Ne.symm pr) lr;omega
def Vd{n d i:Nat}:(i≠oT n d/\i≠oH n d)↔(i≠d/2/\i≠(d/2+1)%n):=by
 unfold oT oH;split
 .exact uv
 exact And.comm
def QI{n d d':Nat}(h:d/2≠d'/2/\d/2≠(d'/2+1)%n/\(d/2+1)%n≠d'/2/\(d/2+1)%n≠(d'/2+1)%n):oT n d≠oT n d'/\oT n d≠oH n d'/\oH n d≠oT n d'/\oH n d≠oH n d':=by
 obtain⟨h1,h2,h3,h4⟩:=h;unfold oT oH;split<;>split
 .exact⟨h1,h2,h3,h4⟩
 .exact⟨h2,h1,h4,h3⟩
 .exact⟨h3,h4,h1,h2⟩
 exact⟨h4,h3,h2,h1⟩
def U4{n d:Nat}(h:d/2≠(d/2+1)%n):oT n d≠oH n d:=by
 unfold oT oH;split
 .exact h
 exact h.symm
def uo (f:Bool)(s:eJ):eJ:=if f then s else jd s
def KV(f:Bool)(x:aQ):(fP f x).b=if f then x.i.b else x.o.b:=by cases f<;>rfl
def Lp(f:Bool)(x:aQ):(iO f x).b=if f then x.o.b else x.i.b:=by cases f<;>rfl
def M8{P:c_}{sd:Nat->eJ}{d:Nat}{k':eJ}(hP:P.length=ls.length)(hd:d<2*ls.length)(hk:sd (d/2)=uo (aY d) k')(h1:sd ((d/2+ls.length-1)%ls.length)=rR ls ((d/2+ls.length-1)%ls.length))(h2:sd (nx ls (d/2))=rR ls (nx ls (d/2))):
  fP (aY d) (cN P sd (oT ls.length d))=fP (aY d) (eB ls (oT ls.length d))/\iO (aY d) (cN P sd (oT ls.length d))=k'/\fP (aY d) (cN P sd (oH ls.length d))=k'/\iO (aY d) (cN P sd (oH ls.length d))=iO (aY d) (eB ls (oH ls.length d)):=by
 unfold nx at h2;unfold fP iO cN eB oT oH;unfold aY at hk |-;rw[hP];rcases vt d with h|h
 .simp only[h,Av,if_true]at hk |-;rw[v7 aa,hk,h1,h2];exact⟨rfl,rfl,rfl,rfl⟩
 simp only[h,show((1:Nat)==0)=false from rfl,dN,if_false,Mo]at hk |-;rw[v7 aa,hk,h1,h2];exact⟨rfl,rfl,rfl,rfl⟩
def acO{P:c_}{sd:Nat->eJ}{i:Nat}(hP:P.length=ls.length)(hi:i<ls.length)(hp:P[i]?=(pieces ls)[i]?)(h1:sd ((i+ls.length-1)%ls.length)=rR ls ((i+ls.length-1)%ls.length))(h2:sd i=rR ls i):cN P sd i=eB ls i:=by
 have:P.getD i ⟨lQ,false⟩=⟨ls.getD i lQ,eN ls i⟩:=by obtain⟨l,hl⟩:=aL hi;rw[dC,hp,ju hl,dC,hl];rfl
 unfold cN eB;rw[hP,h1,h2,this]
def JW{P:c_}{sd:Nat->eJ}{i j:Nat}(hj:j<ls.length)(hp:P[i]?=(pieces ls)[j]?):(cN P sd i).p=(eB ls j).p:=by obtain⟨l,hl⟩:=aL hj;show P.getD i _=⟨ls.getD j lQ,eN ls j⟩;rw[dC,hp,ju hl,dC,hl];rfl
def MO(g:ch F ls){a b c:Nat}(ha:a<ls.length)(hb:b<ls.length)(hc:c<ls.length){L:c_}(h:nY F ls a b c=some L):Cert F L:=by
 unfold nY at h;split at h
 case isFalse=>cases h
 rename_i ht;cases h;unfold tgB at ht;simp only[cH,cZ]at ht;obtain⟨eX,h6,_,_,_,ym⟩:=ht;have hn:0<ls.length:=jl.2 g.ne;have bU:=eY ls;have ok:=g.ok
 -- six letters
 have gI:(mw ls [a,b,c]).Nodup:=acv (by rw[h6];rfl);have gI:(([a,nx ls a,b,nx ls b,c,nx ls c]:a_).map fun i:Nat=>(i:Int)).Nodup:=gI;have six:a≠nx ls a/\a≠b/\a≠nx ls b/\a≠c/\a≠nx ls c/\nx ls a≠b/\nx ls a≠nx ls b/\nx ls a≠c/\nx ls a≠nx ls c/\b≠nx ls b/\b≠c/\b≠nx ls c/\nx ls b≠c/\nx ls b≠nx ls c/\c≠nx ls c:=by simp only[ek,kU,rh,bJ,eo,or_false,Aw,xO,and_true,not_false_eq_true]at gI;omega
 have crs:∀e∈[a,b,c],∃l m,ls[e]?=some l/\ls[nx ls e]?=some m/\l.aB=true/\m.aB=true:=fun e he=>by
  have h1:=gk.1 eX e he;have dB:e<ls.length:=by simp only[bJ,eo,or_false]at he;rcases he with rfl|rfl|rfl<;>assumption
  obtain⟨l,hl⟩:=aL dB;obtain⟨m,hm⟩:=aL (ls:=ls) (k:=nx ls e) (de _ hn);have e1:pA ls e=⟨l,eN ls e⟩:=iY (ju hl);have e2:pA ls (nx ls e)=⟨m,eN ls (nx ls e)⟩:=iY (ju hm);unfold ru at h1;rw[e1,e2,cH]at h1;exact⟨l,m,hl,hm,h1.1,h1.2⟩
 obtain⟨w,hw,_,hlen,hE⟩:=QE g ha ym;obtain⟨da,tR,qE,tS⟩:=hE a af;obtain⟨db,uH,rz,tU⟩:=hE b af;obtain⟨dc,Fs,zh,zi⟩:=hE c af;have hN:∀d,d<2*ls.length->d<nD ls:=fun d hd=>by unfold nD;omega
 have three:∀d,d∈w->d<2*ls.length->d=da\/d=db\/d=dc:=fun d h1 h2=>by
  have inD:∀d,d∈w->d<2*ls.length->d∈w.filter fun x=>decide (x<2*ls.length):=fun d h1 h2=>uz.2 ⟨h1,by simpa using h2⟩;have q1:=inD da tR qE;have q2:=inD db uH rz;have q3:=inD dc Fs zh;have q4:=inD d h1 h2;generalize w.filter (fun x=>decide (x<2*ls.length))=D at hlen q1 q2 q3 q4
  match D,hlen with
  |[x,y,z],_=>simp only[bJ,eo,or_false]at q1 q2 q3 q4;have:=six.2.1;have:=six.2.2.2.1;have:=six.2.2.2.2.2.2.2.2.2.2.1;omega
 have HF:∀d,d<2*ls.length->d/2∈[a,b,c]->∃l,ls[oH ls.length d]?=some l/\l.aB=true:=fun d hd he=>by
  obtain⟨l,m,h1,h2,h3,h4⟩:=crs _ he;unfold oH;split
  .exact⟨m,h2,h4⟩
  exact⟨l,h1,h3⟩
 have step:∀d,d∈w->d<2*ls.length->d/2∈[a,b,c]->aO ls d=da\/aO ls d=db\/aO ls d=dc:=fun d hd hl he=>by obtain⟨l,h1,h2⟩:=HF d hl he;exact three _ (yO (maps ok) hw hd) (DH g hl h1 h2).1
 have round:∃d1 d2 d3,d1<2*ls.length/\d2<2*ls.length/\d3<2*ls.length/\aO ls d1=d2/\aO ls d2=d3/\aO ls d3=d1/\((d1/2=a/\d2/2=b/\d3/2=c)\/(d1/2=a/\d2/2=c/\d3/2=b)):=by
  have nab:da≠db:=fun e=>six.2.1 (by rw[<-tS,<-tU,e]);have nac:da≠dc:=fun e=>six.2.2.2.1 (by rw[<-tS,<-zi,e]);have nbc:db≠dc:=fun e=>six.2.2.2.2.2.2.2.2.2.2.1 (by rw[<-tU,<-zi,e]);rcases ajQ g hw tR uH Fs nab nac nbc (hN _ qE) (hN _ rz) (hN _ zh) (step da tR qE (by rw[tS];simp)) (step db uH rz (by rw[tU];simp)) (step dc Fs zh (by rw[zi];simp))with⟨h1,h2,h3⟩|⟨h1,h2,h3⟩
  .exact⟨da,db,dc,qE,rz,zh,h1,h2,h3,.inl ⟨tS,tU,zi⟩⟩
  exact⟨da,dc,db,qE,zh,rz,h1,h2,h3,.inr ⟨tS,zi,tU⟩⟩
 clear three step hE hlen tR qE tS uH rz tU Fs zh zi hw ym;clear gI eX h6;obtain⟨d1,d2,d3,l1,l2,l3,s1,s2,s3,oR⟩:=round
 -- the new pieces
 have ina:a∈[a,b,c]:=af;have inb:b∈[a,b,c]:=af;have inc:c∈[a,b,c]:=af;have DV:(dG ls (pieces ls) [a,b,c]).length=ls.length:=by rw[qt,bU]
 have yw:∀i,(dG ls (pieces ls) [a,b,c])[i]?=if i=nx ls c then(pieces ls)[c]? else if i=c then(pieces ls)[nx ls c]? else if i=nx ls b then(pieces ls)[b]? else if i=b then(pieces ls)[nx ls b]? else if i=nx ls a then(pieces ls)[a]? else if i=a then(pieces ls)[nx ls a]? else(pieces ls)[i]? :=fun i=>by
  show(eG ls (eG ls (eG ls (pieces ls) a) b) c)[i]?=_;have e1:(eG ls (pieces ls) a).length=ls.length:=by rw[uu,bU]
  have e2:(eG ls (eG ls (pieces ls) a) b).length=ls.length:=by rw[uu,e1]
  simp only[wA e2 hc,wA e1 hb,wA bU ha];obtain⟨x1,x2,x3,x4,x5,x6,x7,x8,x9,IT,L3,L4,L5,L6,PI⟩:=six;simp only[x2.symm,x3.symm,x4.symm,x5.symm,x6.symm,x7.symm,x8.symm,x9.symm,L3.symm,L4.symm,L5.symm,L6.symm,if_false]
 have tZ:∀p:Pc->Bool,(dG ls (pieces ls) [a,b,c]).countP p=(pieces ls).countP p:=fun p=>by
  show(eG ls (eG ls (eG ls (pieces ls) a) b) c).countP p=_;have e1:(eG ls (pieces ls) a).length=ls.length:=by rw[uu,bU]
  have e2:(eG ls (eG ls (pieces ls) a) b).length=ls.length:=by rw[uu,e1]
  rw[Gx e2 hc six.2.2.2.2.2.2.2.2.2.2.2.2.2.2,Gx e1 hb six.2.2.2.2.2.2.2.2.2.1,Gx bU ha six.1]
 generalize dG ls (pieces ls) [a,b,c]=P at DV yw tZ;obtain⟨x1,x2,x3,x4,x5,x6,x7,x8,x9,IT,L3,L4,L5,L6,PI⟩:=six;have pa:P[a]?=(pieces ls)[nx ls a]? /\P[nx ls a]?=(pieces ls)[a]? :=by
  constructor
  .rw[yw];simp only[x1,x2,x3,x4,x5,if_false,if_true]
  rw[yw];simp only[x6,x7,x8,x9,if_false,if_true]
 have pb:P[b]?=(pieces ls)[nx ls b]? /\P[nx ls b]?=(pieces ls)[b]? :=by
  constructor
  .rw[yw];simp only[IT,L3,L4,if_false,if_true]
  rw[yw];simp only[L5,L6,if_false,if_true]
 have pc:P[c]?=(pieces ls)[nx ls c]? /\P[nx ls c]?=(pieces ls)[c]? :=by
  constructor
  .rw[yw];simp only[PI,if_false,if_true]
  rw[yw];simp only[if_true]
 have pn:∀i,i≠a->i≠nx ls a->i≠b->i≠nx ls b->i≠c->i≠nx ls c->P[i]?=(pieces ls)[i]? :=fun i h1 h2 h3 h4 h5 h6=>by rw[yw];simp only[h1,h2,h3,h4,h5,h6,if_false]
 clear yw
 -- edges and letters by cA
 have pR:∀d,d/2=a\/d/2=b\/d/2=c->P[oT ls.length d]?=(pieces ls)[oH ls.length d]? /\P[oH ls.length d]?=(pieces ls)[oT ls.length d]? :=fun d hd=>by
  have:P[d/2]?=(pieces ls)[nx ls (d/2)]? /\P[nx ls (d/2)]?=(pieces ls)[d/2]? :=by rcases hd with e|e|e<;>rw[e]<;>assumption
  unfold oT oH;rcases vt d with h|h
  .simp only[h,if_true];exact this
  simp only[h,Mo,if_false];exact this.symm
 have m1:d1/2=a\/d1/2=b\/d1/2=c:=by
  rcases oR with⟨h,_,_⟩|⟨h,_,_⟩
  .exact .inl h
  exact .inl h
 have m2:d2/2=a\/d2/2=b\/d2/2=c:=by
  rcases oR with⟨_,h,_⟩|⟨_,h,_⟩
  .exact .inr (.inl h)
  exact .inr (.inr h)
 have m3:d3/2=a\/d3/2=b\/d3/2=c:=by
  rcases oR with⟨_,_,h⟩|⟨_,_,h⟩
  .exact .inr (.inr h)
  exact .inr (.inl h)
 have mm:∀d,d/2=a\/d/2=b\/d/2=c->d/2∈[a,b,c]:=fun d h=>by simpa using h
 have pn2:∀i,i≠oT ls.length d1->i≠oH ls.length d1->i≠oT ls.length d2->i≠oH ls.length d2->i≠oT ls.length d3->i≠oH ls.length d3->P[i]?=(pieces ls)[i]? /\ ∀d,d/2=a\/d/2=b\/d/2=c->i≠d/2/\i≠nx ls (d/2):=fun i a1 a2 a3 a4 a5 a6=>by
  obtain⟨b1,b2⟩:=Vd.1 ⟨a1,a2⟩;obtain⟨b3,b4⟩:=Vd.1 ⟨a3,a4⟩;obtain⟨b5,b6⟩:=Vd.1 ⟨a5,a6⟩;have key:(i≠a/\i≠nx ls a)/\(i≠b/\i≠nx ls b)/\(i≠c/\i≠nx ls c):=by
   rcases oR with⟨h1,h2,h3⟩|⟨h1,h2,h3⟩
   .rw[h1]at b1 b2;rw[h2]at b3 b4;rw[h3]at b5 b6;exact⟨⟨b1,b2⟩,⟨b3,b4⟩,b5,b6⟩
   rw[h1]at b1 b2;rw[h2]at b3 b4;rw[h3]at b5 b6;exact⟨⟨b1,b2⟩,⟨b5,b6⟩,b3,b4⟩
  obtain⟨⟨c1,c2⟩,⟨c3,c4⟩,c5,c6⟩:=key;refine⟨pn i c1 c2 c3 c4 c5 c6,fun d hd=>?_⟩;rcases hd with e|e|e<;>rw[e]
  .exact⟨c1,c2⟩
  .exact⟨c3,c4⟩
  exact⟨c5,c6⟩
 have t1:=Iz g l1;have t2:=Iz g l2;have t3:=Iz g l3;have h1:=yG g l1;have h2:=yG g l2;have h3:=yG g l3
 -- all six are different
 have apart:(d1/2≠d2/2/\d1/2≠nx ls (d2/2)/\nx ls (d1/2)≠d2/2/\nx ls (d1/2)≠nx ls (d2/2))/\(d1/2≠d3/2/\d1/2≠nx ls (d3/2)/\nx ls (d1/2)≠d3/2/\nx ls (d1/2)≠nx ls (d3/2))/\(d2/2≠d3/2/\d2/2≠nx ls (d3/2)/\nx ls (d2/2)≠d3/2/\nx ls (d2/2)≠nx ls (d3/2))/\d1/2≠nx ls (d1/2)/\d2/2≠nx ls (d2/2)/\d3/2≠nx ls (d3/2):=by
  rcases oR with⟨h1,h2,h3⟩|⟨h1,h2,h3⟩<;>rw[h1,h2,h3]
  .exact⟨⟨x2,x3,x6,x7⟩,⟨x4,x5,x8,x9⟩,⟨L3,L4,L5,L6⟩,x1,IT,PI⟩
  exact⟨⟨x4,x5,x8,x9⟩,⟨x2,x3,x6,x7⟩,⟨L3.symm,L5.symm,L4.symm,L6.symm⟩,x1,PI,IT⟩
 obtain⟨y1,y2,y3,y4,y5,y6⟩:=apart;have f12:=QI y1;have f13:=QI y2;have f23:=QI y3;have g1:=U4 y4;have g2:=U4 y5;have g3:=U4 y6
 -- the old corners
 obtain⟨u1,Bn,JN⟩:=HF d1 l1 (mm d1 m1);obtain⟨u2,vV,JO⟩:=HF d2 l2 (mm d2 m2);obtain⟨u3,xl,JP⟩:=HF d3 l3 (mm d3 m3);obtain⟨_,o1,q1,k1⟩:=DH g l1 Bn JN;obtain⟨_,o2,q2,k2⟩:=DH g l2 vV JO;obtain⟨_,o3,q3,k3⟩:=DH g l3 xl JP;rw[s1]at o1 q1 k1;rw[s2]at o2 q2 k2;rw[s3]at o3 q3 k3;clear s1 s2 s3 oR pn pa pb pc x1 x2 x3 x4 x5 x6 x7 x8 x9 IT L3 L4 L5 L6 PI crs HF mm ina inb inc;have ti1:=LS (ls:=ls) l1;have ti2:=LS (ls:=ls) l2;have ti3:=LS (ls:=ls) l3;have lh:=Ks (ls:=ls) l1;have hi2:=Ks (ls:=ls) l2
 have hi3:=Ks (ls:=ls) l3;rw[lh,ti2]at k1;rw[hi2,ti3]at k2;rw[hi3,ti1]at k3;obtain⟨a1,b1,c1,e1⟩:=k1;obtain⟨a2,b2,c2,e2⟩:=k2;obtain⟨a3,b3,c3,e3⟩:=k3;simp only[if_true]at a1 b1 c1 e1 a2 b2 c2 e2 a3 b3 c3 e3
 let tau:=(oK ls d1).l
 let K1:eJ:=⟨(fP (aY d3) (eB ls (oT ls.length d3))).r,tau,(fP (aY d1) (eB ls (oT ls.length d1))).b⟩
 let K2:eJ:=⟨(fP (aY d1) (eB ls (oT ls.length d1))).r,tau,(fP (aY d2) (eB ls (oT ls.length d2))).b⟩
 let K3:eJ:=⟨(fP (aY d2) (eB ls (oT ls.length d2))).r,tau,(fP (aY d3) (eB ls (oT ls.length d3))).b⟩
 let sd:Nat->eJ:=fun j=>if j=d1/2 then uo (aY d1) K1 else if j=d2/2 then uo (aY d2) K2 else if j=d3/2 then uo (aY d3) K3 else rR ls j
 have sd1:sd (d1/2)=uo (aY d1) K1:=aD rfl;have sd2:sd (d2/2)=uo (aY d2) K2:=by show(if _ then _ else _)=_;rw[au (Ne.symm y1.1),aD rfl]
 have sd3:sd (d3/2)=uo (aY d3) K3:=by show(if _ then _ else _)=_;rw[au (Ne.symm y2.1),au (Ne.symm y3.1),aD rfl]
 have sdn:∀j,j≠d1/2->j≠d2/2->j≠d3/2->sd j=rR ls j:=fun j h1 h2 h3=>by show(if _ then _ else _)=_;rw[au h1,au h2,au h3]
 have prev:∀i,i<ls.length->i≠nx ls (d1/2)->i≠nx ls (d2/2)->i≠nx ls (d3/2)->sd ((i+ls.length-1)%ls.length)=rR ls ((i+ls.length-1)%ls.length):=fun i hi n1 n2 n3=>sdn _ (fun h=>n1 (Dz hi h)) (fun h=>n2 (Dz hi h)) (fun h=>n3 (Dz hi h))
 obtain⟨z1,z2,z3,z4⟩:=y1;obtain⟨z5,z6,z7,z8⟩:=y2;obtain⟨z9,z10,z11,z12⟩:=y3;have G1:=M8 (P:=P) DV l1 sd1 (prev _ aa y4 z2 z6) (sdn _ y4.symm z3 z7);have G2:=M8 (P:=P) DV l2 sd2 (prev _ aa z3.symm y5 z10) (sdn _ z2.symm y5.symm z11);have G3:=M8 (P:=P) DV l3 sd3 (prev _ aa z7.symm z11.symm y6) (sdn _ z6.symm z10.symm y6.symm);have p1:=pR d1 m1;have p2:=pR d2 m2;have p3:=pR d3 m3;have pT1:=JW (sd:=sd) h1 p1.1;have pH1:=JW (sd:=sd) t1 p1.2;have pT2:=JW (sd:=sd) h2 p2.1;have pH2:=JW (sd:=sd) t2 p2.2;have pT3:=JW (sd:=sd) h3 p3.1
 have pH3:=JW (sd:=sd) t3 p3.2;have un:∀i,i<ls.length->i≠oT ls.length d1->i≠oH ls.length d1->i≠oT ls.length d2->i≠oH ls.length d2->i≠oT ls.length d3->i≠oH ls.length d3->cN P sd i=eB ls i:=fun i hi n1 n2 n3 n4 n5 n6=>by obtain⟨q1,q2⟩:=pn2 i n1 n2 n3 n4 n5 n6;exact acO DV hi q1 (prev i hi (q2 d1 m1).2 (q2 d2 m2).2 (q2 d3 m3).2) (sdn i (q2 d1 m1).1 (q2 d2 m2).1 (q2 d3 m3).1)
 clear pn2 pR prev
 -- letters of the crossings
 have hw1:=sC ok.cr Bn JN;have hw2:=sC ok.cr vV JO;have hw3:=sC ok.cr xl JP;rw[<-o1]at hw1;rw[<-o2]at hw2;rw[<-o3]at hw3;obtain⟨r1,v2,qO,cv2,iv2,_,_⟩:=hw1;obtain⟨r2,v3,OL,cv3,iv3,_,_⟩:=hw2;obtain⟨r3,v1,zT,cv1,iv1,_,_⟩:=hw3
 -- the new corners
 have cornerN:∀(x y:aQ) (d d' hh tt:Nat) (u v:Let),ls[hh]?=some u->ls[tt]?=some v->u.aB=true->v.aB=true->v.id=u.id->hh≠tt->x.p=(eB ls hh).p->y.p=(eB ls tt).p->gX u=(aY d==aY d')->X4 true (fP (aY d) x) (iO (aY d) x) (fP (aY d') y) (iO (aY d') y)->Xc x y:=by intro x y d d' hh tt u v ha hb ca cb ei aH hx hy hg h4;have KQ:x.k=(eB ls hh).k:=congrArg Pc.l hx;have hy':y.k=(eB ls tt).k:=congrArg Pc.l hy;have old:=M7 g (aT.1 ha).1 (aT.1 hb).1 aH (by rw[eH ha];exact ca) (by rw[eH hb];exact cb) (by rw[eH ha,eH hb];exact ei.symm);refine⟨by rw[KQ,hy'];exact old.ov,by rw[KQ,hy'];exact old.sg,?_⟩;rw[KQ,eH ha,hg];exact Ud.1 h4
 have C1:Xc (cN P sd (oT ls.length d1)) (cN P sd (oH ls.length d2)):=by
  refine cornerN _ _ d1 d2 _ _ u1 v2 Bn qO JN cv2 iv2 f12.2.2.1 pT1 pH2 q1 ?_;rw[G1.1,G1.2.1,G2.2.2.1,G2.2.2.2];constructor<;>simp only[if_true]
  .exact c3.trans e2
  .rfl
  .rfl
  exact b2
 have C2:Xc (cN P sd (oT ls.length d2)) (cN P sd (oH ls.length d3)):=by
  refine cornerN _ _ d2 d3 _ _ u2 v3 vV OL JO cv3 iv3 f23.2.2.1 pT2 pH3 q2 ?_;rw[G2.1,G2.2.1,G3.2.2.1,G3.2.2.2];constructor<;>simp only[if_true]
  .exact c1.trans e3
  .rfl
  .rfl
  exact b3
 have C3:Xc (cN P sd (oT ls.length d3)) (cN P sd (oH ls.length d1)):=by
  refine cornerN _ _ d3 d1 _ _ u3 v1 xl zT JP cv1 iv1 f13.2.1.symm pT3 pH1 q3 ?_;rw[G3.1,G3.2.1,G1.2.2.1,G1.2.2.2];constructor<;>simp only[if_true]
  .exact c2.trans e1
  .rfl
  .rfl
  exact b1
 have six:∀i,i<ls.length->(i=oT ls.length d1\/i=oH ls.length d1\/i=oT ls.length d2\/i=oH ls.length d2\/i=oT ls.length d3\/i=oH ls.length d3)\/(cN P sd i=eB ls i/\i≠oT ls.length d1/\i≠oH ls.length d1/\i≠oT ls.length d2/\i≠oH ls.length d2/\i≠oT ls.length d3/\i≠oH ls.length d3):=fun i hi=>by
  rcases IY (i=oT ls.length d1\/i=oH ls.length d1\/i=oT ls.length d2\/i=oH ls.length d2\/i=oT ls.length d3\/i=oH ls.length d3)with h|h
  .exact .inl h
  simp only[Aw]at h;exact .inr ⟨un i hi h.1 h.2.1 h.2.2.1 h.2.2.2.1 h.2.2.2.2.1 h.2.2.2.2.2,h⟩
 -- each position holds one letter
 have hold:∀i,i<ls.length->∃j l,j<ls.length/\ls[j]?=some l/\(cN P sd i).k=l/\(cN P sd i).p=(eB ls j).p:=fun i hi=>by
  have mk:∀j l,ls[j]?=some l->(cN P sd i).p=(eB ls j).p->∃j l,j<ls.length/\ls[j]?=some l/\(cN P sd i).k=l/\(cN P sd i).p=(eB ls j).p:=fun j l hl hp=>⟨j,l,(aT.1 hl).1,hl,(congrArg Pc.l hp).trans (eH hl),hp⟩;rcases six i hi with(rfl|rfl|rfl|rfl|rfl|rfl)|⟨e,_⟩
  .exact mk _ _ Bn pT1
  .exact mk _ _ zT pH1
  .exact mk _ _ vV pT2
  .exact mk _ _ qO pH2
  .exact mk _ _ xl pT3
  .exact mk _ _ OL pH3
  obtain⟨l,hl⟩:=aL hi;exact mk i l hl (by rw[e])
 have kT1:(cN P sd (oT ls.length d1)).k=u1:=(congrArg Pc.l pT1).trans (eH Bn);have kT2:(cN P sd (oT ls.length d2)).k=u2:=(congrArg Pc.l pT2).trans (eH vV);have kT3:(cN P sd (oT ls.length d3)).k=u3:=(congrArg Pc.l pT3).trans (eH xl);have kH1:(cN P sd (oH ls.length d1)).k=v1:=(congrArg Pc.l pH1).trans (eH zT);have kH2:(cN P sd (oH ls.length d2)).k=v2:=(congrArg Pc.l pH2).trans (eH qO);have kH3:(cN P sd (oH ls.length d3)).k=v3:=(congrArg Pc.l pH3).trans (eH OL);have flat:∀(f:Bool) (x:aQ),(fP f x).b=(iO f x).b->x.i.b=x.o.b:=fun f x h=>by
  rw[KV,Lp]at h;cases f
  .exact h.symm
  exact h
 have aek:∀(f:Bool) (x:aQ),x.i.b=x.o.b->(fP f x).b=(iO f x).b:=fun f x h=>by
  rw[KV,Lp];cases f
  .exact h.symm
  exact h
 have oldb:∀j l,ls[j]?=some l->l.aB=true->(eB ls j).i.b=(eB ls j).o.b:=fun j l hl hc=>(Fx g (aT.1 hl).1).cb (by rw[eH hl];exact hc);have bT:∀d (K:eJ),fP (aY d) (cN P sd (oT ls.length d))=fP (aY d) (eB ls (oT ls.length d))->iO (aY d) (cN P sd (oT ls.length d))=K->K.b=(fP (aY d) (eB ls (oT ls.length d))).b->(cN P sd (oT ls.length d)).i.b=(cN P sd (oT ls.length d)).o.b:=fun d K q1 q2 q3=>flat (aY d) _ (by rw[q1,q2,q3])
 have bH:∀d (K:eJ) (l m:Let),ls[oT ls.length d]?=some l->l.aB=true->ls[oH ls.length d]?=some m->m.aB=true->iO (aY d) (eB ls (oT ls.length d))=oK ls d->fP (aY d) (eB ls (oH ls.length d))=oK ls d->fP (aY d) (cN P sd (oH ls.length d))=K->iO (aY d) (cN P sd (oH ls.length d))=iO (aY d) (eB ls (oH ls.length d))->K.b=(fP (aY d) (eB ls (oT ls.length d))).b->(cN P sd (oH ls.length d)).i.b=(cN P sd (oH ls.length d)).o.b:=fun d K l m hl cl hm cm w1 w2 q1 q2 q3=>by refine flat (aY d) _ ?_;rw[q1,q2,q3,aek (aY d) _ (oldb _ _ hl cl),w1,<-w2];exact aek (aY d) _ (oldb _ _ hm cm)
 have bad:∀i,i<ls.length->dQ F (cN P sd i).k=false:=fun i hi=>by obtain⟨j,l,hj,hl,hk,_⟩:=hold i hi;rw[hk];exact g.bad l (aV hl)
 have mR:∀i,i<ls.length->(cN P sd i).k.aB=true->(cN P sd i).i.b=(cN P sd i).o.b->Bs F (cN P sd i):=fun i hi hc hb=>⟨bad i hi,fun _=>hb,fun hp=>by rw[nz hc]at hp;cases hp⟩;have passUn:∀i,i<ls.length->(cN P sd i).k.aE=true->cN P sd i=eB ls i:=fun i hi hp=>by
  rcases six i hi with(rfl|rfl|rfl|rfl|rfl|rfl)|⟨e,_⟩
  .rw[kT1,nz JN]at hp;cases hp
  .rw[kH1,nz cv1]at hp;cases hp
  .rw[kT2,nz JO]at hp;cases hp
  .rw[kH2,nz cv2]at hp;cases hp
  .rw[kT3,nz JP]at hp;cases hp
  .rw[kH3,nz cv3]at hp;cases hp
  exact e
 have cz:=g.cz;have cntP:∀p:Let->Bool,aq p (P.map Pc.l)=aq p ls:=fun p=>by rw[<-Pd (ls:=ls) p];show List.countP _ _=List.countP _ _;rw[yS,yS];exact tZ _
 have labs:∀(f:Bool) i,i<ls.length->∀t,t=(fP f (cN P sd i)).l\/t=(fP f (cN P sd i)).r->∃j',j'<ls.length/\(t=(sd j').l\/t=(sd j').r):=fun f i hi t ht=>by
  cases f
  .refine⟨i,hi,?_⟩;rcases ht with ht|ht
   .exact .inr ht
   exact .inl ht
  refine⟨(i+P.length-1)%P.length,?_,ht⟩;rw[DV];exact de _ hn
 refine abL g (tau:=tau) (sd:=sd) (T':=TF ls) (B':=BF ls) DV (cntP _) (cntP _) (fun k=>cntP _) (fun i hi=>?_) (fun i j hi hj ij ci cj e=>?_) (fun i j hi hj ij pi pj e1 e2=>?_) (fun i hi ci=>?_) (fun i hi pi=>?_) (fun i hi pi=>?_) (fun k hk=>?_) ?_ (fun j hj t ht=>?_)
 .rcases six i hi with(rfl|rfl|rfl|rfl|rfl|rfl)|⟨e,_⟩
  .exact mR _ hi (by rw[kT1];exact JN) (bT d1 K1 G1.1 G1.2.1 rfl)
  .exact mR _ hi (by rw[kH1];exact cv1) (bH d1 K1 _ _ zT cv1 Bn JN ti1 lh G1.2.2.1 G1.2.2.2 rfl)
  .exact mR _ hi (by rw[kT2];exact JO) (bT d2 K2 G2.1 G2.2.1 rfl)
  .exact mR _ hi (by rw[kH2];exact cv2) (bH d2 K2 _ _ qO cv2 vV JO ti2 hi2 G2.2.2.1 G2.2.2.2 rfl)
  .exact mR _ hi (by rw[kT3];exact JP) (bT d3 K3 G3.1 G3.2.1 rfl)
  .exact mR _ hi (by rw[kH3];exact cv3) (bH d3 K3 _ _ OL cv3 xl JP ti3 hi3 G3.2.2.1 G3.2.2.2 rfl)
  rw[e];exact Fx g hi
 · -- two visits of one crossing
  have nn:∀i,i<ls.length->∃s,s<ls.length/\(∃l,ls[s]?=some l/\(cN P sd i).k=l)/\((i=oT ls.length d1/\s=oH ls.length d1)\/(i=oH ls.length d1/\s=oT ls.length d1)\/(i=oT ls.length d2/\s=oH ls.length d2)\/(i=oH ls.length d2/\s=oT ls.length d2)\/(i=oT ls.length d3/\s=oH ls.length d3)\/(i=oH ls.length d3/\s=oT ls.length d3)\/(cN P sd i=eB ls i/\s=i/\i≠oT ls.length d1/\i≠oH ls.length d1/\i≠oT ls.length d2/\i≠oH ls.length d2/\i≠oT ls.length d3/\i≠oH ls.length d3)):=fun i hi=>by
   rcases six i hi with(rfl|rfl|rfl|rfl|rfl|rfl)|⟨e,aH⟩
   .exact⟨_,h1,⟨_,Bn,kT1⟩,.inl ⟨rfl,rfl⟩⟩
   .exact⟨_,t1,⟨_,zT,kH1⟩,.inr (.inl ⟨rfl,rfl⟩)⟩
   .exact⟨_,h2,⟨_,vV,kT2⟩,.inr (.inr (.inl ⟨rfl,rfl⟩))⟩
   .exact⟨_,t2,⟨_,qO,kH2⟩,.inr (.inr (.inr (.inl ⟨rfl,rfl⟩)))⟩
   .exact⟨_,h3,⟨_,xl,kT3⟩,.inr (.inr (.inr (.inr (.inl ⟨rfl,rfl⟩))))⟩
   .exact⟨_,t3,⟨_,OL,kH3⟩,.inr (.inr (.inr (.inr (.inr (.inl ⟨rfl,rfl⟩)))))⟩
   obtain⟨l,hl⟩:=aL hi;exact⟨i,hi,⟨l,hl,by rw[e];exact eH hl⟩,.inr (.inr (.inr (.inr (.inr (.inr ⟨e,rfl,aH⟩)))))⟩
  obtain⟨si,hsi,⟨li,vN,kli⟩,ci'⟩:=nn i hi;obtain⟨sj,KL,⟨lj,uc,klj⟩,Fl⟩:=nn j hj;rw[kli]at ci e;rw[klj]at cj e;obtain⟨f1,f2,f3,f4⟩:=f12;obtain⟨f5,f6,f7,f8⟩:=f13;obtain⟨f9,f10,f11,f12⟩:=f23;have aH:si≠sj:=by
   clear e2 e3 e1 labs passUn mR bad bH bT hold un six;rcases ci' with⟨q1,q2⟩|⟨q1,q2⟩|⟨q1,q2⟩|⟨q1,q2⟩|⟨q1,q2⟩|⟨q1,q2⟩|⟨_,q2,n1,n2,n3,n4,n5,n6⟩<;>rcases Fl with⟨w1,w2⟩|⟨w1,w2⟩|⟨w1,w2⟩|⟨w1,w2⟩|⟨w1,w2⟩|⟨w1,w2⟩|⟨_,w2,m1,m2,m3,m4,m5,m6⟩<;>rw[q2,w2]<;>first
    |(rw[q1,w1]at ij;exact absurd rfl ij)
    |assumption
    |exact Ne.symm (by assumption)
    |exact ij
  have ho:=Gr g vN uc ci cj e aH;rcases ci' with⟨q1,q2⟩|⟨q1,q2⟩|⟨q1,q2⟩|⟨q1,q2⟩|⟨q1,q2⟩|⟨q1,q2⟩|⟨eu,q2,n1,n2,n3,n4,n5,n6⟩
  .rw[q2,<-o1]at ho;rcases Fl with⟨w1,w2⟩|⟨w1,w2⟩|⟨w1,w2⟩|⟨w1,w2⟩|⟨w1,w2⟩|⟨w1,w2⟩|⟨_,w2,m1,m2,m3,m4,m5,m6⟩<;>rw[w2]at ho<;>first
    |(rw[q1,w1];exact C1)
    |exact absurd ho (by assumption)
    |exact absurd ho (Ne.symm (by assumption))
  .rw[q2,r3]at ho;rcases Fl with⟨w1,w2⟩|⟨w1,w2⟩|⟨w1,w2⟩|⟨w1,w2⟩|⟨w1,w2⟩|⟨w1,w2⟩|⟨_,w2,m1,m2,m3,m4,m5,m6⟩<;>rw[w2]at ho<;>first
    |(rw[q1,w1];exact C3.symm)
    |exact absurd ho (by assumption)
    |exact absurd ho (Ne.symm (by assumption))
  .rw[q2,<-o2]at ho;rcases Fl with⟨w1,w2⟩|⟨w1,w2⟩|⟨w1,w2⟩|⟨w1,w2⟩|⟨w1,w2⟩|⟨w1,w2⟩|⟨_,w2,m1,m2,m3,m4,m5,m6⟩<;>rw[w2]at ho<;>first
    |(rw[q1,w1];exact C2)
    |exact absurd ho (by assumption)
    |exact absurd ho (Ne.symm (by assumption))
  .rw[q2,r1]at ho;rcases Fl with⟨w1,w2⟩|⟨w1,w2⟩|⟨w1,w2⟩|⟨w1,w2⟩|⟨w1,w2⟩|⟨w1,w2⟩|⟨_,w2,m1,m2,m3,m4,m5,m6⟩<;>rw[w2]at ho<;>first
    |(rw[q1,w1];exact C1.symm)
    |exact absurd ho (by assumption)
    |exact absurd ho (Ne.symm (by assumption))
  .rw[q2,<-o3]at ho;rcases Fl with⟨w1,w2⟩|⟨w1,w2⟩|⟨w1,w2⟩|⟨w1,w2⟩|⟨w1,w2⟩|⟨w1,w2⟩|⟨_,w2,m1,m2,m3,m4,m5,m6⟩<;>rw[w2]at ho<;>first
    |(rw[q1,w1];exact C3)
    |exact absurd ho (by assumption)
    |exact absurd ho (Ne.symm (by assumption))
  .rw[q2,r2]at ho;rcases Fl with⟨w1,w2⟩|⟨w1,w2⟩|⟨w1,w2⟩|⟨w1,w2⟩|⟨w1,w2⟩|⟨w1,w2⟩|⟨_,w2,m1,m2,m3,m4,m5,m6⟩<;>rw[w2]at ho<;>first
    |(rw[q1,w1];exact C2.symm)
    |exact absurd ho (by assumption)
    |exact absurd ho (Ne.symm (by assumption))
  have hb:=(sC ok.cr vN ci).1;rw[ho,q2]at hb;rcases Fl with⟨w1,w2⟩|⟨w1,w2⟩|⟨w1,w2⟩|⟨w1,w2⟩|⟨w1,w2⟩|⟨w1,w2⟩|⟨eu2,w2,_⟩
  .rw[w2,<-o1]at hb;exact absurd hb.symm n3
  .rw[w2,r3]at hb;exact absurd hb.symm n6
  .rw[w2,<-o2]at hb;exact absurd hb.symm n5
  .rw[w2,r1]at hb;exact absurd hb.symm n2
  .rw[w2,<-o3]at hb;exact absurd hb.symm n1
  .rw[w2,r2]at hb;exact absurd hb.symm n4
  rw[q2]at vN;rw[w2]at uc;rw[eu,eu2];exact M7 g hi hj ij (by rw[eH vN];exact ci) (by rw[eH uc];exact cj) (by rw[eH vN,eH uc];exact e)
 .have ee:=passUn i hi pi;have ee2:=passUn j hj pj;rw[ee]at pi e1 e2;rw[ee2]at pj e1 e2;exact(cz.SQ (GB hi) (GB hj) ij).2 pi pj e1 e2
 .obtain⟨j,l,hj,hl,hk,_⟩:=hold i hi;rw[hk]at ci |-;exact g.ids.1 l (aV hl) ci
 .have ee:=passUn i hi pi;rw[ee]at pi |-;have:=cz.rr _ (aV (GB hi)) pi;rwa[mz]at this
 .have ee:=passUn i hi pi;rw[ee]at pi |-;exact cz.pl _ (aV (GB hi)) pi
 .have:=cz.gt k hk;rwa[mz]at this
 .have:=cz.gz;rwa[mz]at this
 have viaK:∀d,j=d/2->t=(oK ls d).l\/t=(oK ls d).r:=fun d hd=>by
  rw[hd]at ht;unfold oK;split
  .exact ht
  exact ht.symm
 by_cases n1:j=d1/2
 .rcases viaK d1 n1 with h|h
  .exact .inl h
  exact .inr (labs (aY d2) _ t2 t (.inl (by rw[G2.1,h];exact c1.symm)))
 by_cases n2:j=d2/2
 .rcases viaK d2 n2 with h|h
  .exact .inl (h.trans a1.symm)
  exact .inr (labs (aY d3) _ t3 t (.inl (by rw[G3.1,h];exact c2.symm)))
 by_cases n3:j=d3/2
 .rcases viaK d3 n3 with h|h
  .exact .inl (h.trans (a2.symm.trans a1.symm))
  exact .inr (labs (aY d1) _ t1 t (.inl (by rw[G1.1,h];exact c3.symm)))
 exact .inr ⟨j,hj,by rw[sdn j n1 n2 n3];exact ht⟩
end
def Db(f:Bool)(x:aQ):x.up=if f==x.p.d then fP f x else jd (iO f x):=by unfold aQ.up fP iO;cases f<;>cases x.p.d<;>rfl
def CC(f:Bool)(x:aQ):x.lo=if f==x.p.d then iO f x else jd (fP f x):=by unfold aQ.lo fP iO;cases f<;>cases x.p.d<;>rfl
section
variable {F:Nat} {ls:ai}
def aa7:∀(w:a_) (f:Fc),f.places.length<=(w.foldl (Fc.add F ls) f).places.length/\ ∀x∈w,2*ls.length<=x->(qU F ls ((x-2*ls.length)/2)).length<=(w.foldl (Fc.add F ls) f).places.length:=by
 intro w
 induction w with
 |nil=>intro f;exact⟨bY _,fun x hx=>nomatch hx⟩
 |cons x w ih=>
  intro f;rw[BD];obtain⟨h1,h2⟩:=ih (Fc.add F ls f x);have h3:f.places.length<=(Fc.add F ls f x).places.length:=by
   unfold Fc.add;split
   .exact bY _
   simp only[fS];omega
  refine⟨oz h3 h1,fun y hy hl=>?_⟩;rcases bJ.1 hy with rfl|hy
  .refine oz ?_ h1;unfold Fc.add;rw[au aa];simp only[fS];split<;>(try rw[og])<;>omega
  exact h2 y hy hl
def aeB(ok:fJ F ls){k u v:Nat}(hk:k+1<(aG ls).length)(hu:(aG ls).getD k 0=u)(hv:(aG ls).getD (k+1) 0=v){l m:Let}(hl:ls[u]?=some l)(hm:ls[v]?=some m)
  (pl:l.aE=true) (pm:m.aE=true) (hg:m.gate<=l.gate):l.gate=m.gate/\m.aw=l.aw+1:=by
 obtain⟨u',KP⟩:=aL (ls:=aG ls) (k:=k) aa;obtain⟨v',hv'⟩:=aL hk;rw[dC,KP,oE]at hu;rw[dC,hv',oE]at hv;subst hu hv;obtain⟨l',e1,_,e2⟩:=BK ok.ax KP;obtain⟨m',e3,_,e4⟩:=BK ok.ax hv';rw[hl]at e1;cases e1;rw[hm]at e3;cases e3;have gl:=ok.ax.fi l (aV hl) pl;have gm:=ok.ax.fi m (aV hm) pm;obtain⟨l1,l2,l3,l4⟩:=gl;obtain⟨m1,m2,m3,m4⟩:=gm;unfold dF at e2 e4;rcases Int.lt_or_eq_of_le hg with c|c
 .exfalso;have nU:=BS (ls:=ls) (show m.gate.toNat+1<=l.gate.toNat by omega);have hs:=uM ls m.gate.toNat;omega
 rw[c]at e4;exact⟨c.symm,aa⟩
def SD(g:ch F ls){w:a_}(hw:w∈gH (aO ls) (nD ls))(lY:(mg F ls w).places.length=1){x v:Nat}(hx:x∈w){fw:Bool}(uf:x=fV ls.length v fw){l:Let}(hl:ls[v]?=some l)(pl:l.aE=true):
  ∃u m y,y∈w/\ls[u]?=some m/\m.aE=true/\l.gate=m.gate/\((dn ls v=fw/\m.aw=l.aw+1/\y=dx ls.length u (!dn ls u))\/(dn ls v=(!fw)/\l.aw=m.aw+1/\y=dx ls.length u (dn ls u))):=by
 have ok:=g.ok;have mp:=maps ok;obtain⟨i1,i2⟩:=Mx ok hl pl;have hz:=yO mp hw hx;rw[uf,Gz hl pl]at hz;by_cases cd:(dn ls v==fw)=true
 .rw[aD cd]at hz;have vS:(qU F ls ((aG ls).idxOf v)).length<=1:=by
   rw[<-lY];unfold mg;have:=(aa7 (F:=F) (ls:=ls) w (Fc.new ls (w.headD 0))).2 _ hz aa;rwa[show(2*ls.length+2*(aG ls).idxOf v-2*ls.length)/2=(aG ls).idxOf v by omega]at this
  have hk:(aG ls).idxOf v+1<(aG ls).length:=by
   unfold qU at vS;simp only at vS;split at vS
   .assumption
   rw[fS,Bz,Bz]at vS;omega
  obtain⟨m,hm,pm⟩:=GV hk;have hg:m.gate<=l.gate:=by unfold qU at vS;simp only at vS;rw[aD hk,Bz,i2,fT hk,A3 hl,A3 hm]at vS;have:=(ok.ax.fi l (aV hl) pl).g0;have:=(ok.ax.fi m (aV hm) pm).g0;omega
  obtain⟨r1,r2⟩:=aeB ok hk i2 rfl hl hm pl pm hg;have Ic:=yO mp hw hz;rw[EN,fT hk]at Ic;exact⟨_,m,_,Ic,hm,pm,r1,.inl ⟨eq_of_beq cd,r2,rfl⟩⟩
 rw[au cd]at hz;have Ci:=de ((aG ls).idxOf v+(aG ls).length-1) (show 0<(aG ls).length by omega);have hb:=vZ i1;generalize((aG ls).idxOf v+(aG ls).length-1)%(aG ls).length=k at hz Ci hb;have vS:(qU F ls k).length<=1:=by rw[<-lY];unfold mg;have:=(aa7 (F:=F) (ls:=ls) w (Fc.new ls (w.headD 0))).2 _ hz aa;rwa[show(2*ls.length+2*k+1-2*ls.length)/2=k by omega]at this
 have hk:k+1<(aG ls).length:=by
  unfold qU at vS;simp only at vS;split at vS
  .assumption
  rw[fS,Bz,Bz]at vS;omega
 rw[fT hk]at hb;obtain⟨m,hm,pm⟩:=GV Ci;have hg:l.gate<=m.gate:=by unfold qU at vS;simp only at vS;rw[aD hk,Bz,fT hk,hb,i2,A3 hl,A3 hm]at vS;have:=(ok.ax.fi l (aV hl) pl).g0;have:=(ok.ax.fi m (aV hm) pm).g0;omega
 obtain⟨r1,r2⟩:=aeB ok hk rfl (by rw[hb];exact i2) hm hl pm pl hg;have Ic:=yO mp hw hz;rw[EM]at Ic;refine⟨_,m,_,Ic,hm,pm,r1.symm,.inr ⟨?_,r2,rfl⟩⟩;revert cd;cases dn ls v<;>cases fw<;>simp
def qp{l:c_}{i:Nat}{r:Int}{p:Pc}(h:l[i]?=some p)(j:Nat):(dp l i r)[j]?=if j=i then some ⟨{p.l with aw:=r},p.d⟩else l[j]? :=by
 have hl:=(aT.1 h).1;unfold dp;rw[dC,h,oE,qZ];by_cases c:j=i
 .subst c;rw[aD rfl,aD hl,aD rfl]
 rw[au (Ne.symm c),au c]
def Pr{q:Pc->Bool}{l:c_}{i:Nat}{r:Int}{p:Pc}(h:l[i]?=some p)(hq:∀p:Pc,q ⟨{p.l with aw:=r},p.d⟩=q p):(dp l i r).countP q=l.countP q:=by unfold dp;rw[dC,h,oE];have:=UJ (p:=q) (y:=⟨{p.l with aw:=r},p.d⟩) h;rw[hq]at this;show List.countP q (l.set i ⟨{p.l with aw:=r},p.d⟩)=_;omega
def ZK(g:ch F ls){a b:Nat}(ha:a<ls.length)(hb:b<ls.length)(dL:a≠b){va vb pa pb:Nat}{la lb ma mb:Let}
  (ea:(pa=a/\va=nx ls a)\/(pa=nx ls a/\va=a)) (eb:(pb=b/\vb=nx ls b)\/(pb=nx ls b/\vb=b)) (rH:ls[va]?=some la) (uU:ls[vb]?=some lb) (tj:ls[pa]?=some ma) (tk:ls[pb]?=some mb)
  (ca:la.aB=true) (cb:lb.aB=true) (qa:ma.aE=true) (qb:mb.aE=true) (hid:la.id=lb.id) (hv:va≠vb) (ym:kX F ls 1 [a,b] a=true):
  ∃w,w∈gH (aO ls) (nD ls)/\(mg F ls w).places.length=1/\ ∃d,d∈w/\d<2*ls.length/\aO ls d∈w/\aO ls d<2*ls.length/\(∀y,y∈w->y<2*ls.length->y=d\/y=aO ls d)/\
   ((d/2=a/\aO ls d/2=b/\oT ls.length d=pa/\oH ls.length d=va/\oT ls.length (aO ls d)=vb/\oH ls.length (aO ls d)=pb)\/(d/2=b/\aO ls d/2=a/\oT ls.length d=pb/\oH ls.length d=vb/\oT ls.length (aO ls d)=va/\oH ls.length (aO ls d)=pa)):=by
 have ok:=g.ok;obtain⟨w,hw,lY,hlen,hE⟩:=QE g ha ym;obtain⟨da,tR,qE,tS⟩:=hE a af;obtain⟨db,uH,rz,tU⟩:=hE b af;have aH:da≠db:=aa;have inD:∀d,d∈w->d<2*ls.length->d∈w.filter fun x=>decide (x<2*ls.length):=fun d h1 h2=>uz.2 ⟨h1,by simpa using h2⟩;have two:∀d,d∈w->d<2*ls.length->d=da\/d=db:=fun d h1 h2=>ajZ hlen (inD da tR qE) (inD db uH rz) aH (inD d h1 h2);have ends:∀d e p v:Nat,d/2=e->((p=e/\v=nx ls e)\/(p=nx ls e/\v=e))->(oT ls.length d=p/\oH ls.length d=v)\/(oT ls.length d=v/\oH ls.length d=p):=fun d e p v h1 h2=>by
  unfold oT oH;rw[h1];show((if _ then e else nx ls e)=p/\(if _ then nx ls e else e)=v)\/((if _ then e else nx ls e)=v/\(if _ then nx ls e else e)=p);rcases h2 with⟨rfl,rfl⟩|⟨rfl,rfl⟩<;>split
  .exact .inl ⟨rfl,rfl⟩
  .exact .inr ⟨rfl,rfl⟩
  .exact .inr ⟨rfl,rfl⟩
  exact .inl ⟨rfl,rfl⟩
 have pc:∀ {x y:Nat}{l m:Let},ls[x]?=some l->ls[y]?=some m->l.aB=true->m.aE=true->x≠y:=fun h1 h2 h3 h4 e=>by subst e;rw[h1]at h2;have:=pz h2;rw[this,qS h4]at h3;cases h3
 -- a dart that leads to the crossing goes on at the other visit
 have go:∀(d d' p v p' v':Nat) (l m l' m':Let),d∈w->d<2*ls.length->d'<2*ls.length->oT ls.length d=p->oH ls.length d=v->ls[v]?=some l->ls[p]?=some m->ls[v']?=some l'->ls[p']?=some m'->l.aB=true->m.aE=true->l'.aB=true->m'.aE=true->l.id=l'.id->v≠v'->(∀y,y∈w->y<2*ls.length->y=d\/y=d')->((oT ls.length d'=p'/\oH ls.length d'=v')\/(oT ls.length d'=v'/\oH ls.length d'=p'))->aO ls d=d'/\oT ls.length d'=v'/\oH ls.length d'=p':=by
  intro d d' p v p' v' l m l' m' d1 d2 d2' hT hH hl hm j7 iU cl pm cl' Lt hid hv tw en;obtain⟨s1,s2,_⟩:=DH g d2 (by rw[hH];exact hl) cl;rw[hH,Gr g hl j7 cl cl' hid hv]at s2;rcases tw _ (yO (maps ok) hw d1) s1 with e|e
  .exfalso;rw[e,hT]at s2;exact pc j7 hm cl' pm s2.symm
  rw[e]at s2;rcases en with⟨e1,_⟩|⟨e1,e2⟩
  .exact absurd (s2.symm.trans e1) (pc j7 iU cl' Lt)
  exact⟨e,e1,e2⟩
 have na:=ends da a pa va tS ea;have nb:=ends db b pb vb tU eb;rcases na with⟨t1,t2⟩|⟨t1,t2⟩
 .obtain⟨e1,e2,e3⟩:=go da db pa va pb vb la ma lb mb tR qE rz t1 t2 rH tj uU tk ca qa cb qb hid hv two nb;refine⟨w,hw,lY,da,tR,qE,by rw[e1];exact uH,by rw[e1];exact rz,by rw[e1];exact two,.inl ⟨tS,by rw[e1];exact tU,t1,t2,by rw[e1];exact e2,by rw[e1];exact e3⟩⟩
 · -- the dart of the first QN leads to the pass: the other one leads to the crossing
  obtain⟨u,m,y,y1,y2,y3,_,y4⟩:=SD g hw lY tR (v:=pa) (fw:=aY da) (by rw[<-t2];exact DK qE) tj qa;have hu:=(aT.1 y2).1;have yT:oT ls.length y=u/\y<2*ls.length:=by
   have key:∀f,oT ls.length (dx ls.length u f)=u/\dx ls.length u f<2*ls.length:=fun f=>⟨(Hf hu).1,by
    have:=xS hu (!f);rw[<-Ad]at this;have:=Ae this;rwa[Af]at this⟩
   rcases y4 with⟨_,_,e⟩|⟨_,_,e⟩<;>rw[e]<;>exact key _
  have yb:y=db:=by
   rcases two y y1 yT.2 with e|e
   .exfalso;rw[e,t1]at yT;rw[<-yT.1]at y2;rw[rH]at y2;have:=pz y2;rw[<-this,nz ca]at y3;cases y3
   exact e
  have nb':oT ls.length db=pb/\oH ls.length db=vb:=by
   rcases nb with h|⟨h1,h2⟩
   .exact h
   exfalso;rw[yb,h1]at yT;rw[<-yT.1,uU]at y2;have:=pz y2;rw[<-this,nz cb]at y3;cases y3
  obtain⟨e1,e2,e3⟩:=go db da pb vb pa va lb mb la ma uH rz qE nb'.1 nb'.2 uU tk rH tj cb qb ca qa hid.symm hv.symm (fun y h1 h2=>(two y h1 h2).symm) (.inr ⟨t1,t2⟩);refine⟨w,hw,lY,db,uH,rz,by rw[e1];exact tR,by rw[e1];exact qE,by rw[e1];exact fun y h1 h2=>(two y h1 h2).symm,.inr ⟨tU,by rw[e1];exact tS,nb'.1,nb'.2,by rw[e1];exact e2,by rw[e1];exact e3⟩⟩
end
section
variable {F:Nat} {ls:ai}
def S5{e:Nat}(hn:0<ls.length)(he:e<ls.length)(h:(jY ls e).2.2=true):(((jY ls e).1=e/\(jY ls e).2.1=nx ls e)\/((jY ls e).1=nx ls e/\(jY ls e).2.1=e))/\(∃l,ls[(jY ls e).2.1]?=some l/\l.aB=true)/\ ∃m,ls[(jY ls e).1]?=some m/\m.aE=true:=by
 obtain⟨l,hl⟩:=aL he;obtain⟨m,hm⟩:=aL (ls:=ls) (k:=nx ls e) (de _ hn);have e1:pA ls e=⟨l,eN ls e⟩:=iY (ju hl);have e2:pA ls (nx ls e)=⟨m,eN ls (nx ls e)⟩:=iY (ju hm);unfold jY at h |-;rw[e1,e2]at h |-;by_cases c:(l.kind==2)=true
 .rw[aD c]at h |-;exact⟨.inr ⟨rfl,rfl⟩,⟨l,hl,c⟩,m,hm,h⟩
 rw[au c]at h |-;simp only[cH]at h;exact⟨.inl ⟨rfl,rfl⟩,⟨m,hm,h.2⟩,l,hl,h.1⟩
def aen{f:Bool}{x y:aQ}(h1:(fP f x).b=(fP f y).b)(h2:(iO f x).b=(iO f y).b):x.i.b=y.i.b/\x.o.b=y.o.b:=by
 rw[KV,KV]at h1;rw[Lp,Lp]at h2;cases f
 .exact⟨h2,h1⟩
 exact⟨h1,h2⟩
def ael{f:Bool}{x:aQ}(h:(fP f x).b=(iO f x).b):x.i.b=x.o.b:=by
 rw[KV,Lp]at h;cases f
 .exact h.symm
 exact h
def aem{f:Bool}{x:aQ}(h:x.i.b=x.o.b):(fP f x).b=(iO f x).b:=by
 rw[KV,Lp];cases f
 .exact h.symm
 exact h
def abq{l:Let}{r:Int}(hp:l.aE=true)(h:dQ F l=false):dQ F {l with aw:=r}=false:=by have gh:({l with aw:=r}:Let).aE=true:=hp;rw[sB hp]at h;rw[sB gh];exact h
def abK(g:ch F ls){w:a_}(hw:w∈gH (aO ls) (nD ls))(lY:(mg F ls w).places.length=1){d d':Nat}(hd:d∈w)(ld:d<2*ls.length)(yn:d'∈w)(Iq:d'<2*ls.length)(FZ:aO ls d=d')(two:∀y,y∈w->y<2*ls.length->y=d\/y=d')
  {lp lv lw lq:Let} (xj:ls[oT ls.length d]?=some lp) (pO:ls[oH ls.length d]?=some lv) (u4:ls[oT ls.length d']?=some lw) (yr:ls[oH ls.length d']?=some lq) (pp:lp.aE=true) (cv:lv.aB=true) (cw:lw.aB=true) (pq:lq.aE=true)
  {P:c_} (zx:P.length=ls.length) (tZ:∀q:Let->Bool,(∀(l:Let) (r:Int),q {l with aw:=r}=q l)->aq q (P.map Pc.l)=aq q ls)
  (hP:oT ls.length d≠oH ls.length d'->P[oT ls.length d]?=(pieces ls)[oH ls.length d]? /\P[oH ls.length d]?=some ⟨{lp with aw:=lq.aw},eN ls (oT ls.length d)⟩/\P[oT ls.length d']?=some ⟨{lq with aw:=lp.aw},eN ls (oH ls.length d')⟩/\P[oH ls.length d']?=(pieces ls)[oT ls.length d']? /\
   ∀i,i≠oT ls.length d->i≠oH ls.length d->i≠oT ls.length d'->i≠oH ls.length d'->P[i]?=(pieces ls)[i]?):Cert F P:=by
 have ok:=g.ok;have cz:=g.cz;have hn:0<ls.length:=jl.2 g.ne;have t1:=Iz g ld;have t2:=Iz g Iq;have h1:=yG g ld;have h2:=yG g Iq
 -- the neighbours on the Qr
 obtain⟨u,m,y,y1,y2,y3,qK,y4⟩:=SD g hw lY yn (v:=oH ls.length d') (fw:=aY d') (DK Iq) yr pq;have hu:=(aT.1 y2).1;have yT:∀f,oT ls.length (dx ls.length u f)=u/\aY (dx ls.length u f)=f/\dx ls.length u f<2*ls.length:=fun f=>⟨(Hf hu).1,(Hf hu).2,by
  have:=xS hu (!f);rw[<-Ad]at this;have:=Ae this;rwa[Af]at this⟩
 have yd:y=d:=by
  have vY:oT ls.length y=u/\y<2*ls.length:=by rcases y4 with⟨_,_,e⟩|⟨_,_,e⟩<;>rw[e]<;>exact⟨(yT _).1,(yT _).2.2⟩
  rcases two y y1 vY.2 with e|e
  .exact e
  exfalso;rw[e]at vY;rw[<-vY.1,u4]at y2;have:=pz y2;rw[<-this,nz cw]at y3;cases y3
 subst yd;have KP:oT ls.length y=u:=by rcases y4 with⟨_,_,e⟩|⟨_,_,e⟩<;>rw[e]<;>exact(yT _).1
 subst KP;rw[xj]at y2;cases y2
 -- cR: hJ the Qr
 obtain⟨cR,hR⟩:∃cR:Bool,(cR=true/\dn ls (oH ls.length d')=aY d'/\lp.aw=lq.aw+1/\aY y= !dn ls (oT ls.length y))\/(cR=false/\dn ls (oH ls.length d')=(!aY d')/\lq.aw=lp.aw+1/\aY y=dn ls (oT ls.length y)):=by
  rcases y4 with⟨e1,e2,e3⟩|⟨e1,e2,e3⟩
  .exact⟨true,.inl ⟨rfl,e1,e2,(congrArg aY e3).trans (yT _).2.1⟩⟩
  exact⟨false,.inr ⟨rfl,e1,e2,(congrArg aY e3).trans (yT _).2.1⟩⟩
 clear y4 yT y1 y3 hu;have mq:lp.aw≠lq.aw:=by rcases hR with⟨_,_,h,_⟩|⟨_,_,h,_⟩<;>omega
 have npq:oT ls.length y≠oH ls.length d':=fun e=>by rw[e,yr]at xj;have:=pz xj;rw[this]at mq;exact mq rfl
 obtain⟨pT,pH,pT',pH',pU⟩:=hP npq;clear hP;obtain⟨_,o1,q1,k1⟩:=DH g ld pO cv;rw[FZ]at o1 q1 k1;rw[Ks ld,LS Iq]at k1;obtain⟨xa,xb,xc,xd⟩:=k1;simp only[if_true]at xa xb xc xd;have pc:∀ {x y:Nat}{l m:Let},ls[x]?=some l->ls[y]?=some m->l.aB=true->m.aE=true->x≠y:=fun h1 h2 h3 h4 e=>by subst e;rw[h1]at h2;have:=pz h2;rw[this,qS h4]at h3;cases h3
 have nvw:oH ls.length y≠oT ls.length d':=by intro e;obtain⟨_,m,hm,_,_,mo,_⟩:=sC ok.cr pO cv;rw[<-o1,<-e,pO]at hm;have:=pz hm;rw[<-this]at mo;revert mo;cases lv.over<;>simp
 have nvp:=pc pO xj cv pp;have nvq:=pc pO yr cv pq;have nwp:=pc u4 xj cw pp;have nwq:=pc u4 yr cw pq
 -- ends of the edges
 have ee:∀d:Nat,(oT ls.length d=d/2/\oH ls.length d=nx ls (d/2))\/(oT ls.length d=nx ls (d/2)/\oH ls.length d=d/2):=fun d=>by
  unfold oT oH nx;split
  .exact .inl ⟨rfl,rfl⟩
  exact .inr ⟨rfl,rfl⟩
 have apart:y/2≠d'/2/\y/2≠nx ls (d'/2)/\nx ls (y/2)≠d'/2/\nx ls (y/2)≠nx ls (d'/2)/\y/2≠nx ls (y/2)/\d'/2≠nx ls (d'/2):=by
  rcases ee y with⟨a1,a2⟩|⟨a1,a2⟩<;>rcases ee d' with⟨b1,b2⟩|⟨b1,b2⟩
  .rw[<-a2,<-a1,<-b2,<-b1];exact⟨nwp.symm,npq,nvw,nvq,nvp.symm,nwq⟩
  .rw[<-a2,<-a1,<-b1,<-b2];exact⟨npq,nwp.symm,nvq,nvw,nvp.symm,nwq.symm⟩
  .rw[<-a1,<-a2,<-b2,<-b1];exact⟨nvw,nvq,nwp.symm,npq,nvp,nwq⟩
  rw[<-a1,<-a2,<-b1,<-b2];exact⟨nvq,nvw,npq,nwp.symm,nvp,nwq.symm⟩
 let tau:=(oK ls y).l
 let tI:=fP (aY y) (eB ls (oT ls.length y))
 let hO:=iO (aY d') (eB ls (oH ls.length d'))
 let oth:=(iO (aY y) (eB ls (oH ls.length y))).r
 let K1:eJ:=⟨hO.r,tau,tI.b⟩
 let K2:eJ:=⟨tI.r,tau,hO.b⟩
 let sd:Nat->eJ:=fun j=>if j=y/2 then uo (aY y) K1 else if j=d'/2 then uo (aY d') K2 else rR ls j
 have sd1:sd (y/2)=uo (aY y) K1:=aD rfl;have sd2:sd (d'/2)=uo (aY d') K2:=by show(if _ then _ else _)=_;rw[au apart.1.symm,aD rfl]
 have sdn:∀j,j≠y/2->j≠d'/2->sd j=rR ls j:=fun j h1 h2=>by show(if _ then _ else _)=_;rw[au h1,au h2]
 have prev:∀i,i<ls.length->i≠nx ls (y/2)->i≠nx ls (d'/2)->sd ((i+ls.length-1)%ls.length)=rR ls ((i+ls.length-1)%ls.length):=fun i hi n1 n2=>sdn _ (fun h=>n1 (Dz hi h)) (fun h=>n2 (Dz hi h))
 obtain⟨z1,z2,z3,z4,z5,z6⟩:=apart;have G1:=M8 (P:=P) zx ld sd1 (prev _ aa z5 z2) (sdn _ z5.symm z3);have G2:=M8 (P:=P) zx Iq sd2 (prev _ aa z3.symm z6) (sdn _ z2.symm z6.symm);have un:∀i,i<ls.length->i≠oT ls.length y->i≠oH ls.length y->i≠oT ls.length d'->i≠oH ls.length d'->cN P sd i=eB ls i:=fun i hi n1 n2 n3 n4=>by
  have a1:i≠y/2/\i≠nx ls (y/2):=by
   rcases ee y with⟨a1,a2⟩|⟨a1,a2⟩
   .rw[<-a2,<-a1];exact⟨n1,n2⟩
   rw[<-a1,<-a2];exact⟨n2,n1⟩
  have a2:i≠d'/2/\i≠nx ls (d'/2):=by
   rcases ee d' with⟨a1,a2⟩|⟨a1,a2⟩
   .rw[<-a2,<-a1];exact⟨n3,n4⟩
   rw[<-a1,<-a2];exact⟨n4,n3⟩
  exact acO zx hi (pU i n1 n2 n3 n4) (prev i hi a1.2 a2.2) (sdn i a1.1 a2.1)
 have six:∀i,i<ls.length->(i=oT ls.length y\/i=oH ls.length y\/i=oT ls.length d'\/i=oH ls.length d')\/(cN P sd i=eB ls i/\i≠oT ls.length y/\i≠oH ls.length y/\i≠oT ls.length d'/\i≠oH ls.length d'):=fun i hi=>by
  rcases IY (i=oT ls.length y\/i=oH ls.length y\/i=oT ls.length d'\/i=oH ls.length d')with h|h
  .exact .inl h
  simp only[Aw]at h;exact .inr ⟨un i hi h.1 h.2.1 h.2.2.1 h.2.2.2,h⟩
 have gp:∀ {i:Nat}{p:Pc},P[i]?=some p->(cN P sd i).p=p:=fun{i p} h=>by show P.getD i _=_;rw[dC,h];rfl
 have kT:(cN P sd (oT ls.length y)).k=lv:=congrArg Pc.l (gp (pT.trans (ju pO)));have kH:(cN P sd (oH ls.length y)).k={lp with aw:=lq.aw}:=congrArg Pc.l (gp pH);have yB:(cN P sd (oT ls.length d')).k={lq with aw:=lp.aw}:=congrArg Pc.l (gp pT');have Ge:(cN P sd (oH ls.length d')).k=lw:=congrArg Pc.l (gp (pH'.trans (ju u4)));have dH:(cN P sd (oH ls.length y)).p.d=(eB ls (oT ls.length y)).p.d:=by rw[gp pH];rfl
 have DJ:(cN P sd (oT ls.length d')).p.d=(eB ls (oH ls.length d')).p.d:=by rw[gp pT'];rfl
 have okv:=(Fx g h1).cb (by rw[eH pO];exact cv);have okw:=(Fx g t2).cb (by rw[eH u4];exact cw);have bv:=aem (f:=aY y) okv;have bw:=aem (f:=aY d') okw;rw[Ks ld]at bv;rw[LS Iq]at bw;have bp:=LS (ls:=ls) ld;have bq:=Ks (ls:=ls) Iq;have gdp:=ok.ax.fi lp (aV xj) pp;have gdq:=ok.ax.fi lq (aV yr) pq;have plp:=QQ g xj pp;have plq:=QQ g yr pq;obtain⟨p1,p2,p3,p4⟩:=plp;obtain⟨p5,p6,p7,p8⟩:=plq;rw[eH xj]at p1 p2 p3 p4;rw[eH yr]at p5 p6 p7 p8;have lV:=QP g xj pp;have zH:=QP g yr pq;rw[Db (aY y)]at p1 p2;rw[CC (aY y)]at p3 p4;rw[Db (aY d')]at p5 p6;rw[CC (aY d')]at p7 p8;rw[lV,bp]at p1 p2 p3 p4;rw[zH,bq]at p5 p6 p7 p8;have cgq:cg ls lq.gate.toNat=cg ls lp.gate.toNat:=by rw[qK]
 obtain⟨gp0,Ht,gp2,gp3⟩:=gdp;obtain⟨gq0,gq1,gq2,gq3⟩:=gdq;rw[cgq]at gq3;rw[qK]at p5 p6 p7 p8;obtain⟨r,T',B',ke,uY,iE,hT,pl1,pl2,vO⟩:∃(r:Nat) (T' B':Nat->Nat->Nat),1<=r/\r<cg ls lp.gate.toNat/\((lp.aw=(r:Int)/\lq.aw=(r:Int)+1)\/(lq.aw=(r:Int)/\lp.aw=(r:Int)+1))/\(∀k j,¬(k=lp.gate.toNat/\j=r)->T' k j=TF ls k j/\B' k j=BF ls k j)/\
   IF T' B' (cN P sd (oH ls.length y))/\IF T' B' (cN P sd (oT ls.length d'))/\tI.l=hO.l:=by
  rcases hR with⟨_,ft,aqK,eF⟩|⟨_,ft,aqK,eF⟩
  .have f1:(aY y==dn ls (oT ls.length y))=false:=by rw[eF];cases dn ls (oT ls.length y)<;>rfl
   have f2:(aY d'==dn ls (oH ls.length d'))=true:=by rw[ft];cases aY d'<;>rfl
   rw[f1]at p1 p2 p3 p4;rw[f2]at p5 p6 p7 p8;simp only[dN,if_false,if_true]at p1 p2 p3 p4 p5 p6 p7 p8;have er:lp.aw.toNat=lq.aw.toNat+1:=aa;rw[er]at p1 p2 p3 p4;rw[aaE]at p1 p3;refine⟨lq.aw.toNat,fun k j=>if k=lp.gate.toNat/\j=lq.aw.toNat then oth else TF ls k j,fun k j=>if k=lp.gate.toNat/\j=lq.aw.toNat then tau else BF ls k j,aa,aa,.inr ⟨aa,aa⟩,fun k j h=>⟨au h,au h⟩,?_,?_,?_⟩
   .constructor
    .rw[kH,Db (aY y),dH,lV,f1];show(jd (iO (aY y) (cN P sd (oH ls.length y)))).r=if lp.gate.toNat=lp.gate.toNat/\lq.aw.toNat-1=lq.aw.toNat then oth else TF ls lp.gate.toNat (lq.aw.toNat-1);rw[au aa,G1.2.2.2];exact xd.symm.trans p5
    .rw[kH,Db (aY y),dH,lV,f1];show(jd (iO (aY y) (cN P sd (oH ls.length y)))).l=if lp.gate.toNat=lp.gate.toNat/\lq.aw.toNat=lq.aw.toNat then oth else TF ls lp.gate.toNat lq.aw.toNat;rw[aD ⟨rfl,rfl⟩,G1.2.2.2];rfl
    .rw[kH,CC (aY y),dH,lV,f1];show(jd (fP (aY y) (cN P sd (oH ls.length y)))).r=if lp.gate.toNat=lp.gate.toNat/\lq.aw.toNat-1=lq.aw.toNat then tau else BF ls lp.gate.toNat (lq.aw.toNat-1);rw[au aa,G1.2.2.1];exact p7
    rw[kH,CC (aY y),dH,lV,f1];show(jd (fP (aY y) (cN P sd (oH ls.length y)))).l=if lp.gate.toNat=lp.gate.toNat/\lq.aw.toNat=lq.aw.toNat then tau else BF ls lp.gate.toNat lq.aw.toNat;rw[aD ⟨rfl,rfl⟩,G1.2.2.1];rfl
   .constructor
    .rw[yB,Db (aY d'),DJ,zH,f2];show(fP (aY d') (cN P sd (oT ls.length d'))).r=if lq.gate.toNat=lp.gate.toNat/\lp.aw.toNat-1=lq.aw.toNat then oth else TF ls lq.gate.toNat (lp.aw.toNat-1);rw[aD ⟨by rw[qK],aa⟩,G2.1];exact xb.symm
    .rw[yB,Db (aY d'),DJ,zH,f2];show(fP (aY d') (cN P sd (oT ls.length d'))).l=if lq.gate.toNat=lp.gate.toNat/\lp.aw.toNat=lq.aw.toNat then oth else TF ls lq.gate.toNat lp.aw.toNat;rw[au aa,G2.1,qK,er];exact xc.trans p2
    .rw[yB,CC (aY d'),DJ,zH,f2];show(iO (aY d') (cN P sd (oT ls.length d'))).r=if lq.gate.toNat=lp.gate.toNat/\lp.aw.toNat-1=lq.aw.toNat then tau else BF ls lq.gate.toNat (lp.aw.toNat-1);rw[aD ⟨by rw[qK],aa⟩,G2.2.1]
    rw[yB,CC (aY d'),DJ,zH,f2];show(iO (aY d') (cN P sd (oT ls.length d'))).l=if lq.gate.toNat=lp.gate.toNat/\lp.aw.toNat=lq.aw.toNat then tau else BF ls lq.gate.toNat lp.aw.toNat;rw[au aa,G2.2.1,qK,er];exact p4
   exact p3.trans p8.symm
  have f1:(aY y==dn ls (oT ls.length y))=true:=by rw[eF];cases dn ls (oT ls.length y)<;>rfl
  have f2:(aY d'==dn ls (oH ls.length d'))=false:=by rw[ft];cases aY d'<;>rfl
  rw[f1]at p1 p2 p3 p4;rw[f2]at p5 p6 p7 p8;simp only[dN,if_false,if_true]at p1 p2 p3 p4 p5 p6 p7 p8;have er:lq.aw.toNat=lp.aw.toNat+1:=aa;rw[er]at p5 p6 p7 p8;rw[aaE]at p5 p7;refine⟨lp.aw.toNat,fun k j=>if k=lp.gate.toNat/\j=lp.aw.toNat then tau else TF ls k j,fun k j=>if k=lp.gate.toNat/\j=lp.aw.toNat then oth else BF ls k j,aa,aa,.inl ⟨aa,aa⟩,fun k j h=>⟨au h,au h⟩,?_,?_,?_⟩
  .constructor
   .rw[kH,Db (aY y),dH,lV,f1];show(fP (aY y) (cN P sd (oH ls.length y))).r=if lp.gate.toNat=lp.gate.toNat/\lq.aw.toNat-1=lp.aw.toNat then tau else TF ls lp.gate.toNat (lq.aw.toNat-1);rw[aD ⟨rfl,aa⟩,G1.2.2.1]
   .rw[kH,Db (aY y),dH,lV,f1];show(fP (aY y) (cN P sd (oH ls.length y))).l=if lp.gate.toNat=lp.gate.toNat/\lq.aw.toNat=lp.aw.toNat then tau else TF ls lp.gate.toNat lq.aw.toNat;rw[au aa,G1.2.2.1,er];exact p6
   .rw[kH,CC (aY y),dH,lV,f1];show(iO (aY y) (cN P sd (oH ls.length y))).r=if lp.gate.toNat=lp.gate.toNat/\lq.aw.toNat-1=lp.aw.toNat then oth else BF ls lp.gate.toNat (lq.aw.toNat-1);rw[aD ⟨rfl,aa⟩,G1.2.2.2]
   rw[kH,CC (aY y),dH,lV,f1];show(iO (aY y) (cN P sd (oH ls.length y))).l=if lp.gate.toNat=lp.gate.toNat/\lq.aw.toNat=lp.aw.toNat then oth else BF ls lp.gate.toNat lq.aw.toNat;rw[au aa,G1.2.2.2,er];exact xd.symm.trans p8
  .constructor
   .rw[yB,Db (aY d'),DJ,zH,f2];show(jd (iO (aY d') (cN P sd (oT ls.length d')))).r=if lq.gate.toNat=lp.gate.toNat/\lp.aw.toNat-1=lp.aw.toNat then tau else TF ls lq.gate.toNat (lp.aw.toNat-1);rw[au aa,G2.2.1,qK];exact p1
   .rw[yB,Db (aY d'),DJ,zH,f2];show(jd (iO (aY d') (cN P sd (oT ls.length d')))).l=if lq.gate.toNat=lp.gate.toNat/\lp.aw.toNat=lp.aw.toNat then tau else TF ls lq.gate.toNat lp.aw.toNat;rw[aD ⟨by rw[qK],rfl⟩,G2.2.1];rfl
   .rw[yB,CC (aY d'),DJ,zH,f2];show(jd (fP (aY d') (cN P sd (oT ls.length d')))).r=if lq.gate.toNat=lp.gate.toNat/\lp.aw.toNat-1=lp.aw.toNat then oth else BF ls lq.gate.toNat (lp.aw.toNat-1);rw[au aa,G2.1,qK];exact xc.trans p3
   rw[yB,CC (aY d'),DJ,zH,f2];show(jd (fP (aY d') (cN P sd (oT ls.length d')))).l=if lq.gate.toNat=lp.gate.toNat/\lp.aw.toNat=lp.aw.toNat then oth else BF ls lq.gate.toNat lp.aw.toNat;rw[aD ⟨by rw[qK],rfl⟩,G2.1];exact xb.symm
  exact p2.trans p5.symm
 clear p1 p2 p3 p4 p5 p6 p7 p8 hR;have mgp:∀i,i<ls.length->(cN P sd i).k.aE=true->(i=oH ls.length y\/i=oT ls.length d')\/(cN P sd i=eB ls i/\i≠oT ls.length y/\i≠oH ls.length y/\i≠oT ls.length d'/\i≠oH ls.length d'):=fun i hi hp=>by
  rcases six i hi with(rfl|rfl|rfl|rfl)|h
  .rw[kT,nz cv]at hp;cases hp
  .exact .inl (.inl rfl)
  .exact .inl (.inr rfl)
  .rw[Ge,nz cw]at hp;cases hp
  exact .inr h
 have mgc:∀i,i<ls.length->(cN P sd i).k.aB=true->(i=oT ls.length y\/i=oH ls.length d')\/(cN P sd i=eB ls i/\i≠oT ls.length y/\i≠oH ls.length y/\i≠oT ls.length d'/\i≠oH ls.length d'):=fun i hi hc=>by
  have n1:∀(l:Let) (r:Int),l.aE=true->({l with aw:=r}:Let).aB=false:=fun l r h=>qS (l:={l with aw:=r}) h;rcases six i hi with(rfl|rfl|rfl|rfl)|h
  .exact .inl (.inl rfl)
  .rw[kH,n1 _ _ pp]at hc;cases hc
  .rw[yB,n1 _ _ pq]at hc;cases hc
  .exact .inl (.inr rfl)
  exact .inr h
 -- the place of a pass is that of an old one
 have old:∀i,i<ls.length->(cN P sd i).k.aE=true->∃j l,ls[j]?=some l/\l.aE=true/\(cN P sd i).k.gate=l.gate/\(cN P sd i).k.aw=l.aw/\((i=oH ls.length y/\j=oH ls.length d')\/(i=oT ls.length d'/\j=oT ls.length y)\/(i=j/\i≠oT ls.length y/\i≠oH ls.length d')):=fun i hi hp=>by
  rcases mgp i hi hp with(rfl|rfl)|⟨e,n1,n2,n3,n4⟩
  .exact⟨_,lq,yr,pq,by rw[kH];exact qK.symm,by rw[kH],.inl ⟨rfl,rfl⟩⟩
  .exact⟨_,lp,xj,pp,by rw[yB];exact qK,by rw[yB],.inr (.inl ⟨rfl,rfl⟩)⟩
  obtain⟨l,hl⟩:=aL hi;rw[e]at hp;rw[eH hl]at hp;exact⟨i,l,hl,hp,by rw[e,eH hl],by rw[e,eH hl],.inr (.inr ⟨rfl,n1,n4⟩)⟩
 have C1:Xc (cN P sd (oT ls.length y)) (cN P sd (oH ls.length d')):=by
  obtain⟨b1,m,hm,mc,mi,mo,ms⟩:=sC ok.cr pO cv;rw[<-o1,u4]at hm;have em:=pz hm;subst em;refine⟨by rw[kT,Ge,mo];simp,by rw[kT,Ge,ms],?_⟩;rw[kT,q1,<-Ud,G1.1,G1.2.1,G2.2.2.1,G2.2.2.2];constructor<;>simp only[if_true]
  .exact vO
  .rfl
  .rfl
  rfl
 have hid:lv.id=lw.id:=by obtain⟨b1,m,hm,mc,mi,mo,ms⟩:=sC ok.cr pO cv;rw[<-o1,u4]at hm;rw[pz hm,mi]
 have ho2:fM ls (oT ls.length d')=oH ls.length y:=by rw[o1];exact(sC ok.cr pO cv).1
 have labs:∀(f:Bool) i,i<ls.length->∀t,t=(fP f (cN P sd i)).l\/t=(fP f (cN P sd i)).r->∃j',j'<ls.length/\(t=(sd j').l\/t=(sd j').r):=fun f i hi t ht=>by
  cases f
  .refine⟨i,hi,?_⟩;rcases ht with ht|ht
   .exact .inr ht
   exact .inl ht
  refine⟨(i+P.length-1)%P.length,?_,ht⟩;rw[zx];exact de _ hn
 have labo:∀(f:Bool) i,i<ls.length->∀t,t=(iO f (cN P sd i)).l\/t=(iO f (cN P sd i)).r->∃j',j'<ls.length/\(t=(sd j').l\/t=(sd j').r):=fun f i hi t ht=>by
  cases f
  .refine⟨(i+P.length-1)%P.length,?_,?_⟩
   .rw[zx];exact de _ hn
   rcases ht with ht|ht
   .exact .inr ht
   exact .inl ht
  exact⟨i,hi,ht⟩
 have czgt:=cz.gt;have czgz:=cz.gz;rw[mz]at czgz;refine abL g (tau:=tau) (sd:=sd) (T':=T') (B':=B') zx (tZ _ fun _ _=>rfl) (tZ _ fun _ _=>rfl) (fun k=>tZ _ fun _ _=>rfl) (fun i hi=>?_) (fun i j hi hj ij ci cj e=>?_) (fun i j hi hj ij pi pj e1 e2=>?_) (fun i hi ci=>?_) (fun i hi pi=>?_) (fun i hi pi=>?_) (fun k hk=>?_) ?_ (fun j hj t ht=>?_)
 .rcases six i hi with(rfl|rfl|rfl|rfl)|⟨e,_⟩
  .exact⟨by rw[kT];exact g.bad lv (aV pO),fun _=>ael (f:=aY y) (by rw[G1.1,G1.2.1]),fun hp=>by rw[kT,nz cv]at hp;cases hp⟩
  .have fl:=aen (f:=aY y) (x:=cN P sd (oH ls.length y)) (y:=eB ls (oT ls.length y)) (by rw[G1.2.2.1]) (by rw[G1.2.2.2,bp];exact bv.symm);refine⟨by rw[kH];exact abq pp (g.bad lp (aV xj)),fun hc=>?_,fun _=>?_⟩
   .rw[kH]at hc;have:=qS (l:={lp with aw:=lq.aw}) pp;rw[this]at hc;cases hc
   rw[fl.1,fl.2,dH];exact(Fx g t1).pb (by rw[eH xj];exact pp)
  .have fl:=aen (f:=aY d') (x:=cN P sd (oT ls.length d')) (y:=eB ls (oH ls.length d')) (by rw[G2.1,bq];exact bw) (by rw[G2.2.1]);refine⟨by rw[yB];exact abq pq (g.bad lq (aV yr)),fun hc=>?_,fun _=>?_⟩
   .rw[yB]at hc;have:=qS (l:={lq with aw:=lp.aw}) pq;rw[this]at hc;cases hc
   rw[fl.1,fl.2,DJ];exact(Fx g h2).pb (by rw[eH yr];exact pq)
  .exact⟨by rw[Ge];exact g.bad lw (aV u4),fun _=>ael (f:=aY d') (by rw[G2.2.2.1,G2.2.2.2]),fun hp=>by rw[Ge,nz cw]at hp;cases hp⟩
  rw[e];exact Fx g hi
 .rcases mgc i hi ci with(rfl|rfl)|⟨ei,n1,n2,n3,n4⟩<;>rcases mgc j hj cj with(rfl|rfl)|⟨ej,m1,m2,m3,m4⟩
  .exact absurd rfl ij
  .exact C1
  .exfalso;obtain⟨l,hl⟩:=aL hj;rw[kT,ej,eH hl]at e;rw[ej,eH hl]at cj;have:=Gr g pO hl cv cj e m2.symm;rw[<-o1]at this;exact m3 this.symm
  .exact C1.symm
  .exact absurd rfl ij
  .exfalso;obtain⟨l,hl⟩:=aL hj;rw[Ge,ej,eH hl]at e;rw[ej,eH hl]at cj;have:=Gr g u4 hl cw cj e m3.symm;rw[ho2]at this;exact m2 this.symm
  .exfalso;obtain⟨l,hl⟩:=aL hi;rw[kT,ei,eH hl]at e;rw[ei,eH hl]at ci;have:=Gr g pO hl cv ci e.symm n2.symm;rw[<-o1]at this;exact n3 this.symm
  .exfalso;obtain⟨l,hl⟩:=aL hi;rw[Ge,ei,eH hl]at e;rw[ei,eH hl]at ci;have:=Gr g u4 hl cw ci e.symm n3.symm;rw[ho2]at this;exact n2 this.symm
  rw[ei]at ci e |-;rw[ej]at cj e |-;exact M7 g hi hj ij ci cj e
 .obtain⟨a,l,hl,_,g1',tC,c1⟩:=old i hi pi;obtain⟨b,m,hm,_,g2',uq,c2⟩:=old j hj pj;rename_i CQ Lt;have dL:a≠b:=by
   intro e;rcases c1 with⟨i1,j1⟩|⟨i1,j1⟩|⟨i1,i2,i3⟩<;>rcases c2 with⟨k1,k2⟩|⟨k1,k2⟩|⟨k1,k2,k3⟩
   .exact ij (i1.trans k1.symm)
   .exact npq (by rw[<-k2,<-e,j1])
   .exact k3 (by rw[k1,<-e,j1])
   .exact npq (by rw[<-j1,e,k2])
   .exact ij (i1.trans k1.symm)
   .exact k2 (by rw[k1,<-e,j1])
   .exact i3 (by rw[i1,e,k2])
   .exact i2 (by rw[i1,e,k2])
   exact ij (by rw[i1,k1,e])
  have gl:=ok.ax.fi l (aV hl) CQ;have gm:=ok.ax.fi m (aV hm) Lt;exact dL (ok.ax.inj a b l m hl hm CQ Lt ((IH gl gm).2 ⟨by rw[<-g1',<-g2',e1],by rw[<-tC,<-uq,e2]⟩))
 .rcases mgc i hi ci with(rfl|rfl)|⟨ei,_⟩
  .rw[kT];exact g.ids.1 lv (aV pO) cv
  .rw[Ge];exact g.ids.1 lw (aV u4) cw
  obtain⟨l,hl⟩:=aL hi;rw[ei,eH hl]at ci |-;exact g.ids.1 l (aV hl) ci
 .obtain⟨a,l,hl,CQ,g1',tC,_⟩:=old i hi pi;rw[g1',tC];obtain⟨_,_,b1,b2⟩:=ok.ax.fi l (aV hl) CQ;exact⟨b1,b2⟩
 .rcases mgp i hi pi with(rfl|rfl)|⟨ei,n1,n2,n3,n4⟩
  .exact pl1
  .exact pl2
  obtain⟨l,hl⟩:=aL hi;rw[ei]at pi |-;rw[eH hl]at pi;obtain⟨a1,a2,a3,a4⟩:=QQ g hl pi;rw[eH hl]at a1 a2 a3 a4;obtain⟨b0,_,b1,b2⟩:=ok.ax.fi l (aV hl) pi;have vD:l.gate.toNat=lp.gate.toNat->l.aw.toNat≠r/\l.aw.toNat-1≠r:=fun ji=>by have gg:l.gate=lp.gate:=aa;have d1:l.aw≠lp.aw:=fun e=>n1 (ok.ax.inj i _ l lp hl xj pi pp ((IH (ok.ax.fi l (aV hl) pi) (ok.ax.fi lp (aV xj) pp)).2 ⟨gg,e⟩));have d2:l.aw≠lq.aw:=fun e=>n4 (ok.ax.inj i _ l lq hl yr pi pq ((IH (ok.ax.fi l (aV hl) pi) (ok.ax.fi lq (aV yr) pq)).2 ⟨by rw[gg,qK],e⟩));rcases iE with⟨s1,s2⟩|⟨s1,s2⟩<;>omega
  have v1:=hT l.gate.toNat (l.aw.toNat-1) (fun⟨h1,h2⟩=>(vD h1).2 h2);have v2:=hT l.gate.toNat l.aw.toNat (fun⟨h1,h2⟩=>(vD h1).1 h2);constructor
  .rw[eH hl,v1.1];exact a1
  .rw[eH hl,v2.1];exact a2
  .rw[eH hl,v1.2];exact a3
  rw[eH hl,v2.2];exact a4
 .have:=czgt k hk;rw[mz]at this;have v1:=hT k (cg ls k) (fun⟨h1,h2⟩=>by rw[h1]at h2;omega);have v2:=hT (k+1) 0 (fun⟨_,h2⟩=>aa);rw[v1.1,v1.2,v2.1,v2.2];exact this
 .have v1:=hT F (cg ls F) (fun⟨h1,h2⟩=>by rw[h1]at h2;omega);have v2:=hT 0 0 (fun⟨_,h2⟩=>aa);rw[v1.1,v1.2,v2.1,v2.2];exact czgz
 have viaK:∀d,j=d/2->t=(oK ls d).l\/t=(oK ls d).r:=fun d hd=>by
  rw[hd]at ht;unfold oK;split
  .exact ht
  exact ht.symm
 by_cases n1:j=y/2
 .rcases viaK y n1 with h|h
  .exact .inl h
  exact .inr (labs (aY d') _ t2 t (.inl (by rw[G2.1,h];exact xc.symm)))
 by_cases n2:j=d'/2
 .rcases viaK d' n2 with h|h
  .exact .inl (h.trans xa.symm)
  exact .inr (labo (aY y) _ h1 t (.inl (by rw[G1.2.2.2,h];exact xd)))
 exact .inr ⟨j,hj,by rw[sdn j n1 n2];exact ht⟩
def MN(g:ch F ls){a b:Nat}(ha:a<ls.length)(hb:b<ls.length)(dL:a≠b){L:c_}(h:oI F ls a b=some L):Cert F L:=by
 unfold oI at h;split at h
 case isFalse=>cases h
 rename_i hc;simp only[cH,l9,lS,cZ]at hc;obtain⟨h1,h2,h3,h4,h5⟩:=hc;cases h;have hn:0<ls.length:=jl.2 g.ne;have bU:=eY ls;obtain⟨ea,⟨la,rH,ca⟩,ma,tj,qa⟩:=S5 hn ha h1;obtain⟨eb,⟨lb,uU,cb⟩,mb,tk,qb⟩:=S5 hn hb h2;generalize(jY ls a).1=pa at*;generalize(jY ls a).2.1=va at*;generalize(jY ls b).1=pb at*;generalize(jY ls b).2.1=vb at*;have eva:pA ls va=⟨la,eN ls va⟩:=iY (ju rH);have evb:pA ls vb=⟨lb,eN ls vb⟩:=iY (ju uU);have epa:pA ls pa=⟨ma,eN ls pa⟩:=iY (ju tj);have epb:pA ls pb=⟨mb,eN ls pb⟩:=iY (ju tk);rw[eva,evb]at h4;rw[epa,epb]
 obtain⟨w,hw,lY,d,d1,d2,d3,d4,two,cs⟩:=ZK g ha hb dL ea eb rH uU tj tk ca cb qa qb h4 h3 h5;have pc:∀ {x y:Nat}{l m:Let},ls[x]?=some l->ls[y]?=some m->l.aB=true->m.aE=true->x≠y:=fun h1 h2 h3 h4 e=>by subst e;rw[h1]at h2;have:=pz h2;rw[this,qS h4]at h3;cases h3
 have nva:va≠pa:=pc rH tj ca qa;have nvb:vb≠pb:=pc uU tk cb qb;have nvab:va≠pb:=pc rH tk ca qb;have nvba:vb≠pa:=pc uU tj cb qa
 let PP:=dp (dp (pieces ls) pa mb.aw) pb ma.aw
 have X9:=ju tj;have aqI:pa≠pb->(dp (pieces ls) pa mb.aw)[pb]?=some ⟨mb,eN ls pb⟩:=fun aH=>by rw[qp X9,au aH.symm];exact ju tk
 have aqJ:∃p,(dp (pieces ls) pa mb.aw)[pb]?=some p:=aL (by rw[qq,bU];exact(aT.1 tk).1);have Rq:PP.length=ls.length:=by show(dp (dp _ _ _) _ _).length=_;rw[qq,qq,bU]
 have e1:(eG ls PP a).length=ls.length:=by rw[uu,Rq]
 have zx:(dG ls PP [a,b]).length=ls.length:=by rw[qt,Rq]
 have tZ:∀q:Let->Bool,(∀(l:Let) (r:Int),q {l with aw:=r}=q l)->aq q ((dG ls PP [a,b]).map Pc.l)=aq q ls:=fun q hq=>by rw[<-Pd (ls:=ls) q];show List.countP _ _=List.countP _ _;rw[yS,yS];show(eG ls (eG ls PP a) b).countP _=_;obtain⟨p,hp⟩:=aqJ;rw[Gx e1 hb (CM g hb),Gx Rq ha (CM g ha),Pr hp (fun p=>hq _ _),Pr X9 (fun p=>hq _ _)]
 have PPg:pa≠pb->PP[pa]?=some ⟨{ma with aw:=mb.aw},eN ls pa⟩/\PP[pb]?=some ⟨{mb with aw:=ma.aw},eN ls pb⟩/\ ∀i,i≠pa->i≠pb->PP[i]?=(pieces ls)[i]? :=fun aH=>by
  have k:∀j,PP[j]?=if j=pb then some ⟨{mb with aw:=ma.aw},eN ls pb⟩else if j=pa then some ⟨{ma with aw:=mb.aw},eN ls pa⟩else(pieces ls)[j]? :=fun j=>by show(dp (dp _ _ _) _ _)[j]?=_;rw[qp (aqI aH),qp X9]
  refine⟨by rw[k,au aH,aD rfl],by rw[k,aD rfl],fun i n1 n2=>by rw[k,au n2,au n1]⟩
 have swg:pa≠pb->(dG ls PP [a,b])[pa]?=PP[va]? /\(dG ls PP [a,b])[va]?=PP[pa]? /\(dG ls PP [a,b])[pb]?=PP[vb]? /\(dG ls PP [a,b])[vb]?=PP[pb]? /\ ∀i,i≠pa->i≠va->i≠pb->i≠vb->(dG ls PP [a,b])[i]?=PP[i]? :=fun aH=>by
  have k:∀i,(dG ls PP [a,b])[i]?=if i=nx ls b then(eG ls PP a)[b]? else if i=b then(eG ls PP a)[nx ls b]? else(eG ls PP a)[i]? :=fun i=>wA e1 hb i;have k2:∀i,(eG ls PP a)[i]?=if i=nx ls a then PP[a]? else if i=a then PP[nx ls a]? else PP[i]? :=fun i=>wA Rq ha i;have ka:∀i,i≠pa->i≠va->(eG ls PP a)[i]?=PP[i]? :=fun i n1 n2=>by
   rcases ea with⟨q1,q2⟩|⟨q1,q2⟩
   .rw[k2,au (by rw[<-q2];exact n2),au (by rw[<-q1];exact n1)]
   rw[k2,au (by rw[<-q1];exact n1),au (by rw[<-q2];exact n2)]
  have kb:∀i,i≠pb->i≠vb->(dG ls PP [a,b])[i]?=(eG ls PP a)[i]? :=fun i n1 n2=>by
   rcases eb with⟨q1,q2⟩|⟨q1,q2⟩
   .rw[k,au (by rw[<-q2];exact n2),au (by rw[<-q1];exact n1)]
   rw[k,au (by rw[<-q1];exact n1),au (by rw[<-q2];exact n2)]
  have ka2:(eG ls PP a)[pa]?=PP[va]? /\(eG ls PP a)[va]?=PP[pa]? :=by
   rcases ea with⟨q1,q2⟩|⟨q1,q2⟩
   .exact⟨by rw[k2,au (by rw[<-q2];exact nva.symm),aD q1,<-q2],by rw[k2,aD q2,<-q1]⟩
   exact⟨by rw[k2,aD q1,<-q2],by rw[k2,au (by rw[<-q1];exact nva),aD q2,<-q1]⟩
  have OU:(dG ls PP [a,b])[pb]?=(eG ls PP a)[vb]? /\(dG ls PP [a,b])[vb]?=(eG ls PP a)[pb]? :=by
   rcases eb with⟨q1,q2⟩|⟨q1,q2⟩
   .exact⟨by rw[k,au (by rw[<-q2];exact nvb.symm),aD q1,<-q2],by rw[k,aD q2,<-q1]⟩
   exact⟨by rw[k,aD q1,<-q2],by rw[k,au (by rw[<-q1];exact nvb),aD q2,<-q1]⟩
  refine⟨by rw[kb _ aH nvba.symm,ka2.1],by rw[kb _ nvab h3,ka2.2],by rw[OU.1,ka _ nvba (Ne.symm h3)],by rw[OU.2,ka _ aH.symm nvab.symm],fun i n1 n2 n3 n4=>by rw[kb i n3 n4,ka i n1 n2]⟩
 rcases cs with⟨c1,c2,c3,c4,c5,c6⟩|⟨c1,c2,c3,c4,c5,c6⟩
 .refine abK g hw lY d1 d2 d3 d4 rfl two (lp:=ma) (lv:=la) (lw:=lb) (lq:=mb) (by rw[c3];exact tj) (by rw[c4];exact rH) (by rw[c5];exact uU) (by rw[c6];exact tk) qa ca cb qb zx tZ fun aH=>?_;rw[c3,c4,c5,c6]at*;obtain⟨g1,g2,g3⟩:=PPg aH;obtain⟨s1,s2,s3,s4,s5⟩:=swg aH;exact⟨by rw[s1,g3 _ nva nvab],by rw[s2,g1],by rw[s4,g2],by rw[s3,g3 _ nvba nvb],fun i n1 n2 n3 n4=>by rw[s5 i n1 n2 n4 n3,g3 i n1 n4]⟩
 refine abK g hw lY d1 d2 d3 d4 rfl two (lp:=mb) (lv:=lb) (lw:=la) (lq:=ma) (by rw[c3];exact tk) (by rw[c4];exact uU) (by rw[c5];exact rH) (by rw[c6];exact tj) qb cb ca qa zx tZ fun aH=>?_;rw[c3,c4,c5,c6]at*;obtain⟨g1,g2,g3⟩:=PPg aH.symm;obtain⟨s1,s2,s3,s4,s5⟩:=swg aH.symm;exact⟨by rw[s3,g3 _ nvba nvb],by rw[s4,g2],by rw[s2,g1],by rw[s1,g3 _ nva nvab],fun i n1 n2 n3 n4=>by rw[s5 i n4 n3 n1 n2,g3 i n4 n1]⟩
end
end Go.Abs
