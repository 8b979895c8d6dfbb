/- A part. -/
import Derived.Test.YtfhejdojdajpmaaGreatDoorUc
import Derived.Test.YtfhejdojdajpmaaGreatDoorVb
set_option linter.all false
set_option maxHeartbeats 16000000
namespace Go.Abs
theorem X4.Nc{g:Bool}{i o j q:dL}(h:X4 g i o j q):X4 (!g) (gI o) (gI i) j q:=by obtain⟨a,b,c,d⟩:=h;cases g<;>simp only[eH,if_false,if_true] at a b c d<;>constructor<;>simp[gI,a,b,c,d]
theorem X4.Nd{g:Bool}{i o j q:dL}(h:X4 g i o j q):X4 (!g) i o (gI q) (gI j):=by obtain⟨a,b,c,d⟩:=h;cases g<;>simp only[eH,if_false,if_true] at a b c d<;>constructor<;>simp[gI,a,b,c,d]
def eX(f:Bool)(x:aP):dL:=if f then x.i else gI x.o
def fY(f:Bool)(x:aP):dL:=if f then x.o else gI x.i
theorem PM{f f':Bool}{x y:aP}:X4 true (eX f x) (fY f x) (eX f' y) (fY f' y)↔X4 (f==f') x.i x.o y.i y.o:=by
 cases f<;>cases f'<;>simp only[eX,fY,eH,if_false,if_true]
 .exact⟨fun h=>h.Nc.Nd,fun h=>h.Nc.Nd⟩
 .exact⟨fun h=>h.Nc,fun h=>h.Nc⟩
 .exact⟨fun h=>h.Nd,fun h=>h.Nd⟩
 exact Iff.rfl
def oT (n d:Nat):Nat:=if d%2=0 then d/2 else (d/2+1)%n
def oH (n d:Nat):Nat:=if d%2=0 then (d/2+1)%n else d/2
def bk(d:Nat):Bool:=d%2==0
section
variable {F:Nat} {ls:List Let}
def bY(P:List Pc)(sd:Nat->dL)(i:Nat):aP:=⟨P.getD i ⟨iM,false⟩,sd ((i+P.length-1)%P.length),sd i⟩
def zG (P:List Pc)(sd:Nat->dL):List aP:=(List.range P.length).map (bY P sd)
theorem afw(P:List Pc)(sd:Nat->dL):(zG P sd).map aP.p=P:=by
 unfold zG;rw[nX];apply BE;intro i;rw[gh];by_cases hi:i<P.length
 .obtain⟨p,hp⟩:=aN hi;rw[sI hi,hp];show some (P.getD i _)=_;rw[cU,hp];rfl
 rw[nV (by rw[BK];omega),nV aa];rfl
theorem ar2(P:List Pc)(sd:Nat->dL)(h:0<P.length):∃s,jH s (zG P sd) s:=by
 refine⟨sd (P.length-1),?_⟩;have:=adG (bY P sd) (fun i=>sd ((i+P.length-1)%P.length)) P.length 0 fun i _ hi=>⟨rfl,?_⟩
 .simp only[jt] at this;rw[gV aa,show P.length+P.length-1=(P.length-1)+P.length by omega,w9,gV aa,<- afO] at this;exact this
 show sd i=sd ((i+1+P.length-1)%P.length);rw[show i+1+P.length-1=i+P.length by omega,w9,gV aa]
theorem XC(g:bK F ls){P:List Pc}{sd:Nat->dL}{T' B':Nat->Nat->Nat}{tau:Nat}(hl:P.length=ls.length)
  (hC:ay Let.aB (P.map Pc.l)=ay Let.aB ls) (hP:ay Let.aG (P.map Pc.l)=ay Let.aG ls) (hG:∀k,cg (P.map Pc.l) k=cg ls k)
  (ok:∀i,i<ls.length->yn F (bY P sd i)) (cr:∀i j,i<ls.length->j<ls.length->i≠j->Xr (bY P sd i) (bY P sd j)) (rk:∀i j,i<ls.length->j<ls.length->i≠j->Dr (bY P sd i) (bY P sd j))
  (ids:∀i,i<ls.length->(bY P sd i).k.aB=true->1<=(bY P sd i).k.id/\(bY P sd i).k.id<=((ay Let.aB ls/2:Nat):Int))
  (rr:∀i,i<ls.length->(bY P sd i).k.aG=true->1<=(bY P sd i).k.aw/\(bY P sd i).k.aw<=(cg ls (bY P sd i).k.gate.toNat:Int))
  (pl:∀i,i<ls.length->(bY P sd i).k.aG=true->Ff T' B' (bY P sd i))
  (gt:∀k,k<F->T' k (cg ls k)=T' (k+1) 0/\B' k (cg ls k)=B' (k+1) 0) (gz:T' F (cg ls F)=T' 0 0/\B' F (cg ls F)=B' 0 0)
  (wit:∀j,j<ls.length->∀t,(t=(oR ls j).l\/t=(oR ls j).r)->t=tau\/ ∃j',j'<ls.length/\(t=(sd j').l\/t=(sd j').r)):Cert F P:=by
 have hn:0<ls.length:=kY.2 g.ne;have y8:aR (zG P sd)=P.map Pc.l:=by
  show(zG P sd).map (fun x=>x.p.l)=_;have:(zG P sd).map (fun x=>x.p.l)=((zG P sd).map aP.p).map Pc.l:=by rw[nX];rfl
  rw[this,afw]
 have mem:∀x∈zG P sd,∃i,i<ls.length/\x=bY P sd i:=fun x hx=>by obtain⟨i,hi,rfl⟩:=dy.1 hx;exact⟨i,by have:=fJ.1 hi;omega,rfl⟩
 have inz:∀i,i<ls.length->bY P sd i∈zG P sd:=fun i hi=>dy.2 ⟨i,fJ.2 aa,rfl⟩;have q:Cq F (zG P sd) T' B':=by
  refine⟨fun x hx=>?_,Om fun i j hi hj eT=>cr i j aa aa eT,?_,fun x hx hc=>?_,Om fun i j hi hj eT=>rk i j aa aa eT,fun x hx hp=>?_,fun x hx hp=>?_,fun k hk=>?_,?_⟩
  .obtain⟨i,hi,rfl⟩:=mem x hx;exact ok i hi
  .rw[y8,hC];have:=g.cz.ev;rwa[lS] at this
  .obtain⟨i,hi,rfl⟩:=mem x hx;rw[y8,hC];exact ids i hi hc
  .obtain⟨i,hi,rfl⟩:=mem x hx;rw[y8,hG];exact rr i hi hp
  .obtain⟨i,hi,rfl⟩:=mem x hx;exact pl i hi hp
  .rw[y8,hG];exact gt k hk
  rw[y8,hG];exact gz
 refine⟨zG P sd,T',B',(List.range (ky ls)).filter (fun s=> ![tau].contains s),afw P sd,⟨ar2 P sd aa,q.ok,q.cr,q.ev,q.ids,q.rk,q.rr,q.pl,q.gt,q.gz,?_,DF.filter _,fun s hs=>?_,?_⟩⟩
 .have:0<ay Let.aG (P.map Pc.l):=by
   rw[hP];obtain⟨l,h1,h2⟩:=g.first;exact vw.2 ⟨l,aW h1,h2⟩
  rw[<- y8] at this;obtain⟨l,h1,h2⟩:=vw.1 this;obtain⟨x,hx,rfl⟩:=dy.1 h1;exact⟨x,hx,h2⟩
 .obtain⟨h1,h2⟩:=uA.1 hs;have h2:s≠tau:=by simpa using h2
  obtain⟨x,hx,e⟩:=g.cz.wit s h1;obtain⟨j,hj,rfl⟩:=dy.1 hx;have hj:=fJ.1 hj;rcases wit j hj s e with h|⟨j',hj',h⟩
  .exact absurd h h2
  exact⟨bY P sd j',inz j' hj',h⟩
 rw[y8,hC,hP];have h1:=ZL (L:=[tau]) (DF (n:=ky ls));have h2:=g.nw;rw[BK] at h1;simp only[dp,eP] at h1;omega
theorem Lm(g:bK F ls){d:Nat}(hd:d<2*ls.length):oT ls.length d<ls.length:=by
 unfold oT;split
 .omega
 exact dK _ (kY.2 g.ne)
theorem HN(g:bK F ls){d:Nat}(hd:d<2*ls.length):oH ls.length d<ls.length:=by
 unfold oH;split
 .exact dK _ (kY.2 g.ne)
 omega
theorem QJ{d:Nat}(hd:d<2*ls.length):d=ir ls.length (oH ls.length d) (bk d):=by have:=Mv hd;unfold oH bk;exact this
theorem MG{n v:Nat}{f:Bool}(hv:v<n):oT n (dw n v f)=v/\bk (dw n v f)=f:=by
 unfold oT bk dw;cases f
 .simp only[eH,if_false];have e1:(2*((v+n-1)%n)+1)%2=1:=aa;have e2:(2*((v+n-1)%n)+1)/2=(v+n-1)%n:=aa;rw[e1,e2,vn hv];exact⟨rfl,rfl⟩
 simp only[if_true];have e1:(2*v)%2=0:=aa;have e2:(2*v)/2=v:=aa;rw[e1,e2];exact⟨rfl,rfl⟩
def oK (ls:List Let)(d:Nat):dL:=if d%2=0 then oR ls (d/2) else gI (oR ls (d/2))
theorem GQ{d:Nat}(hd:d<2*ls.length):eX (bk d) (dz ls (oH ls.length d))=oK ls d:=by
 unfold eX bk oH oK dz;rcases xe d with h|h
 .simp only[h,Mj,if_true];rw[Dc aa]
 simp[h]
theorem Im{d:Nat}(hd:d<2*ls.length):fY (bk d) (dz ls (oT ls.length d))=oK ls d:=by
 unfold fY bk oT oK dz;rcases xe d with h|h
 .simp[h]
 simp only[h,show((1:Nat)==0)=false from rfl,eH,if_false,PE];rw[Dc aa]
theorem Gf(g:bK F ls){d:Nat}(hd:d<2*ls.length){l:Let}(hl:ls[oH ls.length d]?=some l)(hc:l.aB=true):aV ls d<2*ls.length/\oT ls.length (aV ls d)=fh ls (oH ls.length d)/\gX l=(bk d==bk (aV ls d))/\
  X4 true (eX (bk d) (dz ls (oH ls.length d))) (fY (bk d) (dz ls (oH ls.length d))) (eX (bk (aV ls d)) (dz ls (oT ls.length (aV ls d)))) (fY (bk (aV ls d)) (dz ls (oT ls.length (aV ls d)))):=by
 have ok:=g.ok;have hv:=HN g hd;obtain⟨b1,m,hm,mc,mi,mo,ms⟩:=pX ok.cr hl hc;have ho:=(aY.1 hm).1;have e:aV ls d=dw ls.length (fh ls (oH ls.length d)) (bk d==gX l):=by
  conv=>lhs;rw[QJ hd]
  rw[zR hl hc];rfl
 obtain⟨a1,a2⟩:=MG (n:=ls.length) (f:=(bk d==gX l)) ho;have aM:oH ls.length d≠fh ls (oH ls.length d):=by intro ee;rw[<- ee,hl] at hm;have:=oZ hm;rw[<- this] at mo;revert mo;cases l.over<;>simp
 have hg:gX l=(bk d==(bk d==gX l)):=by cases bk d<;>cases gX l<;>rfl
 rw[e,a1,a2];refine⟨?_,rfl,hg,?_⟩
 .have:=Ag ho (!(bk d==gX l));rw[<- Bs] at this;have:=zL this;rwa[zM] at this
 rw[PM,<- hg];have:=(Jw g hv ho aM (by rw[dG hl];exact hc) (by rw[dG hm];exact mc) (by rw[dG hl,dG hm];exact mi.symm)).x4;rwa[dG hl] at this
theorem LR{l:List Pc}(hl:l.length=ls.length){e:Nat}(he:e<ls.length)(i:Nat):(gb ls l e)[i]?=if i=nx ls e then l[e]? else if i=e then l[nx ls e]? else l[i]? :=by
 have hn:nx ls e<ls.length:=dK _ aa;obtain⟨p,hp⟩:=aN (ls:=l) (k:=e) aa;obtain⟨q,hq⟩:=aN (ls:=l) (k:=nx ls e) aa;unfold gb;rw[nW,nW,cU,cU,hp,hq,rD];by_cases c1:i=nx ls e
 .subst c1;rw[aE rfl,aE aa,aE rfl];rfl
 rw[aD (Ne.symm c1),aD c1];by_cases c2:i=e
 .subst c2;rw[aE rfl,aE aa,aE rfl];rfl
 rw[aD (Ne.symm c2),aD c2]
theorem arK(g:bK F ls){w:List Nat}(hw:w∈dR (aV ls) (nD ls)){Q:Nat->Prop}(h1:∀x,x<nD ls->(Q (aV ls x)↔Q x)){x y:Nat}(hx:x∈w)(hy:y∈w):Q x↔Q y:=by
 have e:=VX (maps g.ok) (R:=gr (nD ls) (aV ls)) (fun z hz=>.rel ⟨hz,rfl⟩) hw hx hy;have:=e.inv (f:=fun x=>Q x) fun a b r=>by obtain⟨ha,rfl⟩:=r;exact propext (h1 a ha).symm
 exact Eq.to_iff this
end
theorem aqX:∀(L M:List Int),L.Nodup->(∀x∈L,x∈M)->L.length<=M.length:=by
 intro L
 induction L with
 |nil=>intro M _ _;exact bn _
 |cons a L ih=>intro M hn hs;obtain⟨h1,h2⟩:=qj.1 hn;have ha:=hs a af;have:=ih (M.erase a) h2 fun x hx=>(Wn (by rintro rfl;exact h1 hx)).2 (hs x (by simp[hx]));rw[Wl ha] at this;have:0<M.length:=Mc ha;simp only[dp];omega
theorem ait:∀l:List Int,(lY l).Nodup:=by
 intro l
 induction l with
 |nil=>exact w8
 |cons a l ih=>
  unfold lY;split
  .exact ih
  rename_i h;exact qj.2 ⟨fun hm=>h (MH.1 hm),ih⟩
theorem aiu{l:List Int}:(lY l).length=l.length->l.Nodup:=by
 induction l with
 |nil=>intro _;exact w8
 |cons a l ih=>
  have hle:(lY l).length<=l.length:=aqX _ _ (ait l) fun x hx=>MH.1 hx;unfold lY;rw[qj];split
  .intro e;simp only[dp] at e;omega
  rename_i h;simp only[dp];intro e;exact⟨h,ih aa⟩
theorem Qo{p:Pc->Bool}{l:List Pc}{i:Nat}{x y:Pc}(h:l[i]?=some x):(l.set i y).countP p+(if p x then 1 else 0)=l.countP p+(if p y then 1 else 0):=by
 have e:=aqK h;have hl:=(aY.1 h).1;have e2:l.set i y=l.take i++y::l.drop (i+1):=by
  conv=>lhs;rw[e]
  rw[Wp _ _ (by rw[iF];omega),iF,zZ aa,FI];rfl
 rw[e2]
 conv=>rhs;rw[e]
 rw[vv,vv,uy,uy];omega
section
variable {F:Nat} {ls:List Let}
theorem Ik{l:List Pc}(hl:l.length=ls.length){e:Nat}(he:e<ls.length)(aM:e≠nx ls e)(p:Pc->Bool):(gb ls l e).countP p=l.countP p:=by
 have hn:nx ls e<ls.length:=dK _ aa;obtain⟨x,hx⟩:=aN (ls:=l) (k:=e) aa;obtain⟨y,hy⟩:=aN (ls:=l) (k:=nx ls e) aa;unfold gb;rw[cU,cU,hx,hy];simp only[kE];have h1:=Qo (p:=p) (y:=y) hx;have h2:(l.set e y)[nx ls e]?=some y:=by rw[nW,aD aM];exact hy
 have h3:=Qo (p:=p) (y:=x) h2;omega
theorem UI(g:bK F ls){e:Nat}(he:e<ls.length):e≠nx ls e:=by
 have h2:2<=ls.length:=by obtain⟨l,h1,hp⟩:=g.first;have:=g.even;have:0<ay Let.aG ls:=vw.2 ⟨l,aW h1,hp⟩;have:=qt Let.aG ls;omega
 unfold nx;by_cases c:e+1<ls.length
 .rw[gV c];omega
 rw[show e+1=ls.length by omega,Aa];omega
theorem Ox(p:Let->Bool):ay p ((pieces ls).map Pc.l)=ay p ls:=by
 have:(pieces ls).map Pc.l=ls:=by
  have h:=lS ls;rw[<- h];have e:aR (zF ls)=((zF ls).map aP.p).map Pc.l:=by rw[nX];rfl
  rw[h,<- Fw,<- e,h]
 rw[this]
theorem Ib(g:bK F ls){i j:Nat}{l m:Let}(hl:ls[i]?=some l)(hm:ls[j]?=some m)(hc:l.aB=true)(mc:m.aB=true)(e:l.id=m.id)(eT:i≠j):fh ls i=j:=by obtain⟨_,hp⟩:=g.ids;obtain⟨d1,_⟩:=hp i j l m hl hm hc mc e eT;obtain⟨b1,w,hw,wc,wi,wo,ws⟩:=pX g.ok.cr hl hc;refine Classical.byContradiction fun aM=>?_;have d3:=(hp _ _ w m hw hm wc mc (by rw[wi,e]) aM).1;rw[wo] at d3;revert d1 d3;cases l.over<;>cases m.over<;>simp
theorem arb(g:bK F ls){w:List Nat}(hw:w∈dR (aV ls) (nD ls)){p q r:Nat}(hp:p∈w)(hq:q∈w)(hr:r∈w)(pq:p≠q)(pr:p≠r)(qr:q≠r)(lp:p<nD ls)(lq:q<nD ls)(lr:r<nD ls)
  (np:aV ls p=p\/aV ls p=q\/aV ls p=r) (nq:aV ls q=p\/aV ls q=q\/aV ls q=r) (nr:aV ls r=p\/aV ls r=q\/aV ls r=r):
  (aV ls p=q/\aV ls q=r/\aV ls r=p)\/(aV ls p=r/\aV ls r=q/\aV ls q=p):=by
 have inj:=(maps g.ok).inj;have i1:aV ls p≠aV ls q:=fun e=>pq (inj _ _ lp lq e);have i2:aV ls p≠aV ls r:=fun e=>pr (inj _ _ lp lr e);have i3:aV ls q≠aV ls r:=fun e=>qr (inj _ _ lq lr e);have one:∀x y,x∈w->y∈w->x≠y->x<nD ls->aV ls x≠x:=fun x y hx hy jD lx e=>by have:=arK g hw (Q:=fun t=>t=x) (fun t ht=>⟨fun h=>inj _ _ ht lx (by rw[h,e]),fun h=>by rw[h,e]⟩) hx hy;exact jD (this.1 rfl).symm
 have n1:=one p q hp hq pq lp;have n2:=one q p hq hp (Ne.symm pq) lq;have n3:=one r p hr hp (Ne.symm pr) lr;omega
theorem QP{n d i:Nat}:(i≠oT n d/\i≠oH n d)↔(i≠d/2/\i≠(d/2+1)%n):=by
 unfold oT oH;split
 .exact Iff.rfl
 exact And.comm
theorem QM{n d d':Nat}(h:d/2≠d'/2/\d/2≠(d'/2+1)%n/\(d/2+1)%n≠d'/2/\(d/2+1)%n≠(d'/2+1)%n):oT n d≠oT n d'/\oT n d≠oH n d'/\oH n d≠oT n d'/\oH n d≠oH n d':=by
 obtain⟨h1,h2,h3,h4⟩:=h;unfold oT oH;split<;>split
 .exact⟨h1,h2,h3,h4⟩
 .exact⟨h2,h1,h4,h3⟩
 .exact⟨h3,h4,h1,h2⟩
 exact⟨h4,h3,h2,h1⟩
theorem QN{n d:Nat}(h:d/2≠(d/2+1)%n):oT n d≠oH n d:=by
 unfold oT oH;split
 .exact h
 exact h.symm
def uo (f:Bool)(s:dL):dL:=if f then s else gI s
theorem Hx(f:Bool)(x:aP):(eX f x).b=if f then x.i.b else x.o.b:=by cases f<;>rfl
theorem HQ(f:Bool)(x:aP):(fY f x).b=if f then x.o.b else x.i.b:=by cases f<;>rfl
theorem Jx{P:List Pc}{sd:Nat->dL}{d:Nat}{k':dL}(hP:P.length=ls.length)(hd:d<2*ls.length)(hk:sd (d/2)=uo (bk d) k')(h1:sd ((d/2+ls.length-1)%ls.length)=oR ls ((d/2+ls.length-1)%ls.length))(h2:sd (nx ls (d/2))=oR ls (nx ls (d/2))):
  eX (bk d) (bY P sd (oT ls.length d))=eX (bk d) (dz ls (oT ls.length d))/\fY (bk d) (bY P sd (oT ls.length d))=k'/\eX (bk d) (bY P sd (oH ls.length d))=k'/\fY (bk d) (bY P sd (oH ls.length d))=fY (bk d) (dz ls (oH ls.length d)):=by
 unfold nx at h2;unfold eX fY bY dz oT oH;unfold bk at hk ⊢;rw[hP];rcases xe d with h|h
 .simp only[h,Mj,if_true] at hk ⊢;rw[Dc aa,hk,h1,h2];exact⟨rfl,rfl,rfl,rfl⟩
 simp only[h,show((1:Nat)==0)=false from rfl,eH,if_false,PE] at hk ⊢;rw[Dc aa,hk,h1,h2];exact⟨rfl,rfl,rfl,rfl⟩
theorem Yp{P:List Pc}{sd:Nat->dL}{i:Nat}(hP:P.length=ls.length)(hi:i<ls.length)(hp:P[i]?=(pieces ls)[i]?)(h1:sd ((i+ls.length-1)%ls.length)=oR ls ((i+ls.length-1)%ls.length))(h2:sd i=oR ls i):bY P sd i=dz ls i:=by
 have:P.getD i ⟨iM,false⟩=⟨ls.getD i iM,gY ls i⟩:=by obtain⟨l,hl⟩:=aN hi;rw[cU,hp,kS hl,cU,hl];rfl
 unfold bY dz;rw[hP,h1,h2,this]
theorem Gt{P:List Pc}{sd:Nat->dL}{i j:Nat}(hj:j<ls.length)(hp:P[i]?=(pieces ls)[j]?):(bY P sd i).p=(dz ls j).p:=by obtain⟨l,hl⟩:=aN hj;show P.getD i _=⟨ls.getD j iM,gY ls j⟩;rw[cU,hp,kS hl,cU,hl];rfl
theorem ahO(g:bK F ls){a b c:Nat}(ha:a<ls.length)(hb:b<ls.length)(hc:c<ls.length){L:List Pc}(h:wT F ls a b c=some L):Cert F L:=by
 unfold wT at h;split at h
 case isFalse=>cases h
 rename_i ht;cases h;unfold Ip at ht;simp only[cE,dk] at ht;obtain⟨fk,h6,_,_,_,GP⟩:=ht;have hn:0<ls.length:=kY.2 g.ne;have bG:=fG ls;have ok:=g.ok
 -- six letters
 have eV:(uv ls [a,b,c]).Nodup:=aiu (by rw[h6];rfl);have eV:(([a,nx ls a,b,nx ls b,c,nx ls c]:List Nat).map fun i:Nat=>(i:Int)).Nodup:=eV;have six:a≠nx ls a/\a≠b/\a≠nx ls b/\a≠c/\a≠nx ls c/\nx ls a≠b/\nx ls a≠nx ls b/\nx ls a≠c/\nx ls a≠nx ls c/\b≠nx ls b/\b≠c/\b≠nx ls c/\nx ls b≠c/\nx ls b≠nx ls c/\c≠nx ls c:=by simp only[eE,kZ,qj,dh,lT,or_false,Ab,w8,and_true,not_false_eq_true] at eV;omega
 have crs:∀e∈[a,b,c],∃l m,ls[e]?=some l/\ls[nx ls e]?=some m/\l.aB=true/\m.aB=true:=fun e he=>by
  have h1:=ij.1 fk e he;have di:e<ls.length:=by simp only[dh,lT,or_false] at he;rcases he with rfl|rfl|rfl<;>assumption
  obtain⟨l,hl⟩:=aN di;obtain⟨m,hm⟩:=aN (ls:=ls) (k:=nx ls e) (dK _ hn);have e1:pA ls e=⟨l,gY ls e⟩:=jo (kS hl);have e2:pA ls (nx ls e)=⟨m,gY ls (nx ls e)⟩:=jo (kS hm);unfold Au at h1;rw[e1,e2,cE] at h1;exact⟨l,m,hl,hm,h1.1,h1.2⟩
 obtain⟨w,hw,_,hlen,hE⟩:=Qy g ha GP;obtain⟨da,uN,sO,xA⟩:=hE a af;obtain⟨db,vJ,tL,xB⟩:=hE b af;obtain⟨dc,dc1,Gm,Gn⟩:=hE c af;have hN:∀d,d<2*ls.length->d<nD ls:=fun d hd=>by unfold nD;omega
 have three:∀d,d∈w->d<2*ls.length->d=da\/d=db\/d=dc:=fun d h1 h2=>by
  have inD:∀d,d∈w->d<2*ls.length->d∈w.filter fun x=>decide (x<2*ls.length):=fun d h1 h2=>uA.2 ⟨h1,by simpa using h2⟩;have q1:=inD da uN sO;have q2:=inD db vJ tL;have q3:=inD dc dc1 Gm;have q4:=inD d h1 h2;generalize w.filter (fun x=>decide (x<2*ls.length))=D at hlen q1 q2 q3 q4
  match D,hlen with
  |[x,y,z],_=>simp only[dh,lT,or_false] at q1 q2 q3 q4;have:=six.2.1;have:=six.2.2.2.1;have:=six.2.2.2.2.2.2.2.2.2.2.1;omega
 have Kn:∀d,d<2*ls.length->d/2∈[a,b,c]->∃l,ls[oH ls.length d]?=some l/\l.aB=true:=fun d hd he=>by
  obtain⟨l,m,h1,h2,h3,h4⟩:=crs _ he;unfold oH;split
  .exact⟨m,h2,h4⟩
  exact⟨l,h1,h3⟩
 have step:∀d,d∈w->d<2*ls.length->d/2∈[a,b,c]->aV ls d=da\/aV ls d=db\/aV ls d=dc:=fun d hd hl he=>by obtain⟨l,h1,h2⟩:=Kn d hl he;exact three _ (Dy (maps ok) hw hd) (Gf g hl h1 h2).1
 have round:∃d1 d2 d3,d1<2*ls.length/\d2<2*ls.length/\d3<2*ls.length/\aV ls d1=d2/\aV ls d2=d3/\aV ls d3=d1/\((d1/2=a/\d2/2=b/\d3/2=c)\/(d1/2=a/\d2/2=c/\d3/2=b)):=by
  have nab:da≠db:=fun e=>six.2.1 (by rw[<- xA,<- xB,e]);have nac:da≠dc:=fun e=>six.2.2.2.1 (by rw[<- xA,<- Gn,e]);have nbc:db≠dc:=fun e=>six.2.2.2.2.2.2.2.2.2.2.1 (by rw[<- xB,<- Gn,e]);rcases arb g hw uN vJ dc1 nab nac nbc (hN _ sO) (hN _ tL) (hN _ Gm) (step da uN sO (by rw[xA];simp)) (step db vJ tL (by rw[xB];simp)) (step dc dc1 Gm (by rw[Gn];simp)) with ⟨h1,h2,h3⟩|⟨h1,h2,h3⟩
  .exact⟨da,db,dc,sO,tL,Gm,h1,h2,h3,.inl ⟨xA,xB,Gn⟩⟩
  exact⟨da,dc,db,sO,Gm,tL,h1,h2,h3,.inr ⟨xA,Gn,xB⟩⟩
 clear three step hE hlen uN sO xA vJ tL xB dc1 Gm Gn hw GP;clear eV fk h6;obtain⟨d1,d2,d3,l1,l2,l3,s1,s2,s3,mj⟩:=round
 -- the new pieces
 have ina:a∈[a,b,c]:=af;have inb:b∈[a,b,c]:=af;have inc:c∈[a,b,c]:=af;have Cm:(ie ls (pieces ls) [a,b,c]).length=ls.length:=by rw[Dw,bG]
 have Bh:∀i,(ie ls (pieces ls) [a,b,c])[i]?=if i=nx ls c then (pieces ls)[c]? else if i=c then (pieces ls)[nx ls c]? else if i=nx ls b then (pieces ls)[b]? else if i=b then (pieces ls)[nx ls b]? else if i=nx ls a then (pieces ls)[a]? else if i=a then (pieces ls)[nx ls a]? else (pieces ls)[i]? :=fun i=>by
  show(gb ls (gb ls (gb ls (pieces ls) a) b) c)[i]?=_;have e1:(gb ls (pieces ls) a).length=ls.length:=by rw[Fm,bG]
  have e2:(gb ls (gb ls (pieces ls) a) b).length=ls.length:=by rw[Fm,e1]
  simp only[LR e2 hc,LR e1 hb,LR bG ha];obtain⟨x1,x2,x3,x4,x5,x6,x7,x8,x9,Ft,IE,IF,IG,IH,L1⟩:=six;simp only[x2.symm,x3.symm,x4.symm,x5.symm,x6.symm,x7.symm,x8.symm,x9.symm,IE.symm,IF.symm,IG.symm,IH.symm,if_false]
 have qX:∀p:Pc->Bool,(ie ls (pieces ls) [a,b,c]).countP p=(pieces ls).countP p:=fun p=>by
  show(gb ls (gb ls (gb ls (pieces ls) a) b) c).countP p=_;have e1:(gb ls (pieces ls) a).length=ls.length:=by rw[Fm,bG]
  have e2:(gb ls (gb ls (pieces ls) a) b).length=ls.length:=by rw[Fm,e1]
  rw[Ik e2 hc six.2.2.2.2.2.2.2.2.2.2.2.2.2.2,Ik e1 hb six.2.2.2.2.2.2.2.2.2.1,Ik bG ha six.1]
 generalize ie ls (pieces ls) [a,b,c]=P at Cm Bh qX;obtain⟨x1,x2,x3,x4,x5,x6,x7,x8,x9,Ft,IE,IF,IG,IH,L1⟩:=six;have pa:P[a]?=(pieces ls)[nx ls a]? /\P[nx ls a]?=(pieces ls)[a]? :=by
  constructor
  .rw[Bh];simp only[x1,x2,x3,x4,x5,if_false,if_true]
  rw[Bh];simp only[x6,x7,x8,x9,if_false,if_true]
 have pb:P[b]?=(pieces ls)[nx ls b]? /\P[nx ls b]?=(pieces ls)[b]? :=by
  constructor
  .rw[Bh];simp only[Ft,IE,IF,if_false,if_true]
  rw[Bh];simp only[IG,IH,if_false,if_true]
 have pc:P[c]?=(pieces ls)[nx ls c]? /\P[nx ls c]?=(pieces ls)[c]? :=by
  constructor
  .rw[Bh];simp only[L1,if_false,if_true]
  rw[Bh];simp only[if_true]
 have pn:∀i,i≠a->i≠nx ls a->i≠b->i≠nx ls b->i≠c->i≠nx ls c->P[i]?=(pieces ls)[i]? :=fun i h1 h2 h3 h4 h5 h6=>by rw[Bh];simp only[h1,h2,h3,h4,h5,h6,if_false]
 clear Bh
 -- edges and letters by bj
 have mL:∀d,d/2=a\/d/2=b\/d/2=c->P[oT ls.length d]?=(pieces ls)[oH ls.length d]? /\P[oH ls.length d]?=(pieces ls)[oT ls.length d]? :=fun d hd=>by
  have:P[d/2]?=(pieces ls)[nx ls (d/2)]? /\P[nx ls (d/2)]?=(pieces ls)[d/2]? :=by rcases hd with e|e|e<;>rw[e]<;>assumption
  unfold oT oH;rcases xe d with h|h
  .simp only[h,if_true];exact this
  simp only[h,PE,if_false];exact this.symm
 have m1:d1/2=a\/d1/2=b\/d1/2=c:=by
  rcases mj with ⟨h,_,_⟩|⟨h,_,_⟩
  .exact .inl h
  exact .inl h
 have m2:d2/2=a\/d2/2=b\/d2/2=c:=by
  rcases mj with ⟨_,h,_⟩|⟨_,h,_⟩
  .exact .inr (.inl h)
  exact .inr (.inr h)
 have m3:d3/2=a\/d3/2=b\/d3/2=c:=by
  rcases mj with ⟨_,_,h⟩|⟨_,_,h⟩
  .exact .inr (.inr h)
  exact .inr (.inl h)
 have mm:∀d,d/2=a\/d/2=b\/d/2=c->d/2∈[a,b,c]:=fun d h=>by simpa using h
 have pn2:∀i,i≠oT ls.length d1->i≠oH ls.length d1->i≠oT ls.length d2->i≠oH ls.length d2->i≠oT ls.length d3->i≠oH ls.length d3->P[i]?=(pieces ls)[i]? /\ ∀d,d/2=a\/d/2=b\/d/2=c->i≠d/2/\i≠nx ls (d/2):=fun i a1 a2 a3 a4 a5 a6=>by
  obtain⟨b1,b2⟩:=QP.1 ⟨a1,a2⟩;obtain⟨b3,b4⟩:=QP.1 ⟨a3,a4⟩;obtain⟨b5,b6⟩:=QP.1 ⟨a5,a6⟩;have key:(i≠a/\i≠nx ls a)/\(i≠b/\i≠nx ls b)/\(i≠c/\i≠nx ls c):=by
   rcases mj with ⟨h1,h2,h3⟩|⟨h1,h2,h3⟩
   .rw[h1] at b1 b2;rw[h2] at b3 b4;rw[h3] at b5 b6;exact⟨⟨b1,b2⟩,⟨b3,b4⟩,b5,b6⟩
   rw[h1] at b1 b2;rw[h2] at b3 b4;rw[h3] at b5 b6;exact⟨⟨b1,b2⟩,⟨b5,b6⟩,b3,b4⟩
  obtain⟨⟨c1,c2⟩,⟨c3,c4⟩,c5,c6⟩:=key;refine⟨pn i c1 c2 c3 c4 c5 c6,fun d hd=>?_⟩;rcases hd with e|e|e<;>rw[e]
  .exact⟨c1,c2⟩
  .exact⟨c3,c4⟩
  exact⟨c5,c6⟩
 have t1:=Lm g l1;have t2:=Lm g l2;have t3:=Lm g l3;have h1:=HN g l1;have h2:=HN g l2;have h3:=HN g l3
 -- all six are different
 have apart:(d1/2≠d2/2/\d1/2≠nx ls (d2/2)/\nx ls (d1/2)≠d2/2/\nx ls (d1/2)≠nx ls (d2/2))/\(d1/2≠d3/2/\d1/2≠nx ls (d3/2)/\nx ls (d1/2)≠d3/2/\nx ls (d1/2)≠nx ls (d3/2))/\(d2/2≠d3/2/\d2/2≠nx ls (d3/2)/\nx ls (d2/2)≠d3/2/\nx ls (d2/2)≠nx ls (d3/2))/\d1/2≠nx ls (d1/2)/\d2/2≠nx ls (d2/2)/\d3/2≠nx ls (d3/2):=by
  rcases mj with ⟨h1,h2,h3⟩|⟨h1,h2,h3⟩<;>rw[h1,h2,h3]
  .exact⟨⟨x2,x3,x6,x7⟩,⟨x4,x5,x8,x9⟩,⟨IE,IF,IG,IH⟩,x1,Ft,L1⟩
  exact⟨⟨x4,x5,x8,x9⟩,⟨x2,x3,x6,x7⟩,⟨IE.symm,IG.symm,IF.symm,IH.symm⟩,x1,L1,Ft⟩
 obtain⟨y1,y2,y3,y4,y5,y6⟩:=apart;have f12:=QM y1;have f13:=QM y2;have f23:=QM y3;have g1:=QN y4;have g2:=QN y5;have g3:=QN y6
 -- the old corners
 obtain⟨u1,yh,Gh⟩:=Kn d1 l1 (mm d1 m1);obtain⟨u2,EF,Gi⟩:=Kn d2 l2 (mm d2 m2);obtain⟨u3,EG,Gj⟩:=Kn d3 l3 (mm d3 m3);obtain⟨_,o1,q1,k1⟩:=Gf g l1 yh Gh;obtain⟨_,o2,q2,k2⟩:=Gf g l2 EF Gi;obtain⟨_,o3,q3,k3⟩:=Gf g l3 EG Gj;rw[s1] at o1 q1 k1;rw[s2] at o2 q2 k2;rw[s3] at o3 q3 k3;clear s1 s2 s3 mj pn pa pb pc x1 x2 x3 x4 x5 x6 x7 x8 x9 Ft IE IF IG IH L1 crs Kn mm ina inb inc;have ti1:=Im (ls:=ls) l1;have ti2:=Im (ls:=ls) l2;have ti3:=Im (ls:=ls) l3;have jB:=GQ (ls:=ls) l1;have hi2:=GQ (ls:=ls) l2
 have hi3:=GQ (ls:=ls) l3;rw[jB,ti2] at k1;rw[hi2,ti3] at k2;rw[hi3,ti1] at k3;obtain⟨a1,b1,c1,e1⟩:=k1;obtain⟨a2,b2,c2,e2⟩:=k2;obtain⟨a3,b3,c3,e3⟩:=k3;simp only[if_true] at a1 b1 c1 e1 a2 b2 c2 e2 a3 b3 c3 e3
 let tau:=(oK ls d1).l
 let K1:dL:=⟨(eX (bk d3) (dz ls (oT ls.length d3))).r,tau,(eX (bk d1) (dz ls (oT ls.length d1))).b⟩
 let K2:dL:=⟨(eX (bk d1) (dz ls (oT ls.length d1))).r,tau,(eX (bk d2) (dz ls (oT ls.length d2))).b⟩
 let K3:dL:=⟨(eX (bk d2) (dz ls (oT ls.length d2))).r,tau,(eX (bk d3) (dz ls (oT ls.length d3))).b⟩
 let sd:Nat->dL:=fun j=>if j=d1/2 then uo (bk d1) K1 else if j=d2/2 then uo (bk d2) K2 else if j=d3/2 then uo (bk d3) K3 else oR ls j
 have sd1:sd (d1/2)=uo (bk d1) K1:=aE rfl;have sd2:sd (d2/2)=uo (bk d2) K2:=by show(if _ then _ else _)=_;rw[aD (Ne.symm y1.1),aE rfl]
 have sd3:sd (d3/2)=uo (bk d3) K3:=by show(if _ then _ else _)=_;rw[aD (Ne.symm y2.1),aD (Ne.symm y3.1),aE rfl]
 have sdn:∀j,j≠d1/2->j≠d2/2->j≠d3/2->sd j=oR ls j:=fun j h1 h2 h3=>by show(if _ then _ else _)=_;rw[aD h1,aD h2,aD h3]
 have prev:∀i,i<ls.length->i≠nx ls (d1/2)->i≠nx ls (d2/2)->i≠nx ls (d3/2)->sd ((i+ls.length-1)%ls.length)=oR ls ((i+ls.length-1)%ls.length):=fun i hi n1 n2 n3=>sdn _ (fun h=>n1 (Ak hi h)) (fun h=>n2 (Ak hi h)) (fun h=>n3 (Ak hi h))
 obtain⟨z1,z2,z3,z4⟩:=y1;obtain⟨z5,z6,z7,z8⟩:=y2;obtain⟨z9,z10,z11,z12⟩:=y3;have G1:=Jx (P:=P) Cm l1 sd1 (prev _ aa y4 z2 z6) (sdn _ y4.symm z3 z7);have G2:=Jx (P:=P) Cm l2 sd2 (prev _ aa z3.symm y5 z10) (sdn _ z2.symm y5.symm z11);have G3:=Jx (P:=P) Cm l3 sd3 (prev _ aa z7.symm z11.symm y6) (sdn _ z6.symm z10.symm y6.symm);have p1:=mL d1 m1;have p2:=mL d2 m2;have p3:=mL d3 m3;have pT1:=Gt (sd:=sd) h1 p1.1;have pH1:=Gt (sd:=sd) t1 p1.2;have pT2:=Gt (sd:=sd) h2 p2.1;have pH2:=Gt (sd:=sd) t2 p2.2;have pT3:=Gt (sd:=sd) h3 p3.1
 have pH3:=Gt (sd:=sd) t3 p3.2;have un:∀i,i<ls.length->i≠oT ls.length d1->i≠oH ls.length d1->i≠oT ls.length d2->i≠oH ls.length d2->i≠oT ls.length d3->i≠oH ls.length d3->bY P sd i=dz ls i:=fun i hi n1 n2 n3 n4 n5 n6=>by obtain⟨q1,q2⟩:=pn2 i n1 n2 n3 n4 n5 n6;exact Yp Cm hi q1 (prev i hi (q2 d1 m1).2 (q2 d2 m2).2 (q2 d3 m3).2) (sdn i (q2 d1 m1).1 (q2 d2 m2).1 (q2 d3 m3).1)
 clear pn2 mL prev
 -- letters of the crossings
 have hw1:=pX ok.cr yh Gh;have CT:=pX ok.cr EF Gi;have hw3:=pX ok.cr EG Gj;rw[<- o1] at hw1;rw[<- o2] at CT;rw[<- o3] at hw3;obtain⟨r1,v2,oG,cv2,iv2,_,_⟩:=hw1;obtain⟨r2,v3,KW,cv3,iv3,_,_⟩:=CT;obtain⟨r3,v1,wC,cv1,iv1,_,_⟩:=hw3
 -- the new corners
 have cornerN:∀(x y:aP) (d d' hh tt:Nat) (u v:Let),ls[hh]?=some u->ls[tt]?=some v->u.aB=true->v.aB=true->v.id=u.id->hh≠tt->x.p=(dz ls hh).p->y.p=(dz ls tt).p->gX u=(bk d==bk d')->X4 true (eX (bk d) x) (fY (bk d) x) (eX (bk d') y) (fY (bk d') y)->Xc x y:=by intro x y d d' hh tt u v ha hb ca cb ei aM hx hy hg h4;have Hp:x.k=(dz ls hh).k:=congrArg Pc.l hx;have hy':y.k=(dz ls tt).k:=congrArg Pc.l hy;have old:=Jw g (aY.1 ha).1 (aY.1 hb).1 aM (by rw[dG ha];exact ca) (by rw[dG hb];exact cb) (by rw[dG ha,dG hb];exact ei.symm);refine⟨by rw[Hp,hy'];exact old.ov,by rw[Hp,hy'];exact old.sg,?_⟩;rw[Hp,dG ha,hg];exact PM.1 h4
 have C1:Xc (bY P sd (oT ls.length d1)) (bY P sd (oH ls.length d2)):=by
  refine cornerN _ _ d1 d2 _ _ u1 v2 yh oG Gh cv2 iv2 f12.2.2.1 pT1 pH2 q1 ?_;rw[G1.1,G1.2.1,G2.2.2.1,G2.2.2.2];constructor<;>simp only[if_true]
  .exact c3.trans e2
  .rfl
  .rfl
  exact b2
 have C2:Xc (bY P sd (oT ls.length d2)) (bY P sd (oH ls.length d3)):=by
  refine cornerN _ _ d2 d3 _ _ u2 v3 EF KW Gi cv3 iv3 f23.2.2.1 pT2 pH3 q2 ?_;rw[G2.1,G2.2.1,G3.2.2.1,G3.2.2.2];constructor<;>simp only[if_true]
  .exact c1.trans e3
  .rfl
  .rfl
  exact b3
 have C3:Xc (bY P sd (oT ls.length d3)) (bY P sd (oH ls.length d1)):=by
  refine cornerN _ _ d3 d1 _ _ u3 v1 EG wC Gj cv1 iv1 f13.2.1.symm pT3 pH1 q3 ?_;rw[G3.1,G3.2.1,G1.2.2.1,G1.2.2.2];constructor<;>simp only[if_true]
  .exact c2.trans e1
  .rfl
  .rfl
  exact b1
 have six:∀i,i<ls.length->(i=oT ls.length d1\/i=oH ls.length d1\/i=oT ls.length d2\/i=oH ls.length d2\/i=oT ls.length d3\/i=oH ls.length d3)\/(bY P sd i=dz ls i/\i≠oT ls.length d1/\i≠oH ls.length d1/\i≠oT ls.length d2/\i≠oH ls.length d2/\i≠oT ls.length d3/\i≠oH ls.length d3):=fun i hi=>by
  rcases Classical.em (i=oT ls.length d1\/i=oH ls.length d1\/i=oT ls.length d2\/i=oH ls.length d2\/i=oT ls.length d3\/i=oH ls.length d3) with h|h
  .exact .inl h
  simp only[Ab] at h;exact .inr ⟨un i hi h.1 h.2.1 h.2.2.1 h.2.2.2.1 h.2.2.2.2.1 h.2.2.2.2.2,h⟩
 -- each position holds one letter
 have hold:∀i,i<ls.length->∃j l,j<ls.length/\ls[j]?=some l/\(bY P sd i).k=l/\(bY P sd i).p=(dz ls j).p:=fun i hi=>by
  have mk:∀j l,ls[j]?=some l->(bY P sd i).p=(dz ls j).p->∃j l,j<ls.length/\ls[j]?=some l/\(bY P sd i).k=l/\(bY P sd i).p=(dz ls j).p:=fun j l hl hp=>⟨j,l,(aY.1 hl).1,hl,(congrArg Pc.l hp).trans (dG hl),hp⟩;rcases six i hi with (rfl|rfl|rfl|rfl|rfl|rfl)|⟨e,_⟩
  .exact mk _ _ yh pT1
  .exact mk _ _ wC pH1
  .exact mk _ _ EF pT2
  .exact mk _ _ oG pH2
  .exact mk _ _ EG pT3
  .exact mk _ _ KW pH3
  obtain⟨l,hl⟩:=aN hi;exact mk i l hl (by rw[e])
 have kT1:(bY P sd (oT ls.length d1)).k=u1:=(congrArg Pc.l pT1).trans (dG yh);have kT2:(bY P sd (oT ls.length d2)).k=u2:=(congrArg Pc.l pT2).trans (dG EF);have kT3:(bY P sd (oT ls.length d3)).k=u3:=(congrArg Pc.l pT3).trans (dG EG);have kH1:(bY P sd (oH ls.length d1)).k=v1:=(congrArg Pc.l pH1).trans (dG wC);have kH2:(bY P sd (oH ls.length d2)).k=v2:=(congrArg Pc.l pH2).trans (dG oG);have kH3:(bY P sd (oH ls.length d3)).k=v3:=(congrArg Pc.l pH3).trans (dG KW);have flat:∀(f:Bool) (x:aP),(eX f x).b=(fY f x).b->x.i.b=x.o.b:=fun f x h=>by
  rw[Hx,HQ] at h;cases f
  .exact h.symm
  exact h
 have ZQ:∀(f:Bool) (x:aP),x.i.b=x.o.b->(eX f x).b=(fY f x).b:=fun f x h=>by
  rw[Hx,HQ];cases f
  .exact h.symm
  exact h
 have oldb:∀j l,ls[j]?=some l->l.aB=true->(dz ls j).i.b=(dz ls j).o.b:=fun j l hl hc=>(Cd g (aY.1 hl).1).cb (by rw[dG hl];exact hc);have bT:∀d (K:dL),eX (bk d) (bY P sd (oT ls.length d))=eX (bk d) (dz ls (oT ls.length d))->fY (bk d) (bY P sd (oT ls.length d))=K->K.b=(eX (bk d) (dz ls (oT ls.length d))).b->(bY P sd (oT ls.length d)).i.b=(bY P sd (oT ls.length d)).o.b:=fun d K q1 q2 q3=>flat (bk d) _ (by rw[q1,q2,q3])
 have bH:∀d (K:dL) (l m:Let),ls[oT ls.length d]?=some l->l.aB=true->ls[oH ls.length d]?=some m->m.aB=true->fY (bk d) (dz ls (oT ls.length d))=oK ls d->eX (bk d) (dz ls (oH ls.length d))=oK ls d->eX (bk d) (bY P sd (oH ls.length d))=K->fY (bk d) (bY P sd (oH ls.length d))=fY (bk d) (dz ls (oH ls.length d))->K.b=(eX (bk d) (dz ls (oT ls.length d))).b->(bY P sd (oH ls.length d)).i.b=(bY P sd (oH ls.length d)).o.b:=fun d K l m hl cl hm cm w1 w2 q1 q2 q3=>by refine flat (bk d) _ ?_;rw[q1,q2,q3,ZQ (bk d) _ (oldb _ _ hl cl),w1,<- w2];exact ZQ (bk d) _ (oldb _ _ hm cm)
 have bad:∀i,i<ls.length->dr F (bY P sd i).k=false:=fun i hi=>by obtain⟨j,l,hj,hl,hk,_⟩:=hold i hi;rw[hk];exact g.bad l (aW hl)
 have kz:∀i,i<ls.length->(bY P sd i).k.aB=true->(bY P sd i).i.b=(bY P sd i).o.b->yn F (bY P sd i):=fun i hi hc hb=>⟨bad i hi,fun _=>hb,fun hp=>by rw[lK hc] at hp;cases hp⟩;have passUn:∀i,i<ls.length->(bY P sd i).k.aG=true->bY P sd i=dz ls i:=fun i hi hp=>by
  rcases six i hi with (rfl|rfl|rfl|rfl|rfl|rfl)|⟨e,_⟩
  .rw[kT1,lK Gh] at hp;cases hp
  .rw[kH1,lK cv1] at hp;cases hp
  .rw[kT2,lK Gi] at hp;cases hp
  .rw[kH2,lK cv2] at hp;cases hp
  .rw[kT3,lK Gj] at hp;cases hp
  .rw[kH3,lK cv3] at hp;cases hp
  exact e
 have cz:=g.cz;have cntP:∀p:Let->Bool,ay p (P.map Pc.l)=ay p ls:=fun p=>by rw[<- Ox (ls:=ls) p];show List.countP _ _=List.countP _ _;rw[DE,DE];exact qX _
 have labs:∀(f:Bool) i,i<ls.length->∀t,t=(eX f (bY P sd i)).l\/t=(eX f (bY P sd i)).r->∃j',j'<ls.length/\(t=(sd j').l\/t=(sd j').r):=fun f i hi t ht=>by
  cases f
  .refine⟨i,hi,?_⟩;rcases ht with ht|ht
   .exact .inr ht
   exact .inl ht
  refine⟨(i+P.length-1)%P.length,?_,ht⟩;rw[Cm];exact dK _ hn
 refine XC g (tau:=tau) (sd:=sd) (T':=TF ls) (B':=BF ls) Cm (cntP _) (cntP _) (fun k=>cntP _) (fun i hi=>?_) (fun i j hi hj eT ci cj e=>?_) (fun i j hi hj eT pi pj e1 e2=>?_) (fun i hi ci=>?_) (fun i hi pi=>?_) (fun i hi pi=>?_) (fun k hk=>?_) ?_ (fun j hj t ht=>?_)
 .rcases six i hi with (rfl|rfl|rfl|rfl|rfl|rfl)|⟨e,_⟩
  .exact kz _ hi (by rw[kT1];exact Gh) (bT d1 K1 G1.1 G1.2.1 rfl)
  .exact kz _ hi (by rw[kH1];exact cv1) (bH d1 K1 _ _ wC cv1 yh Gh ti1 jB G1.2.2.1 G1.2.2.2 rfl)
  .exact kz _ hi (by rw[kT2];exact Gi) (bT d2 K2 G2.1 G2.2.1 rfl)
  .exact kz _ hi (by rw[kH2];exact cv2) (bH d2 K2 _ _ oG cv2 EF Gi ti2 hi2 G2.2.2.1 G2.2.2.2 rfl)
  .exact kz _ hi (by rw[kT3];exact Gj) (bT d3 K3 G3.1 G3.2.1 rfl)
  .exact kz _ hi (by rw[kH3];exact cv3) (bH d3 K3 _ _ KW cv3 EG Gj ti3 hi3 G3.2.2.1 G3.2.2.2 rfl)
  rw[e];exact Cd g hi
 · -- two visits of one crossing
  have nn:∀i,i<ls.length->∃s,s<ls.length/\(∃l,ls[s]?=some l/\(bY P sd i).k=l)/\((i=oT ls.length d1/\s=oH ls.length d1)\/(i=oH ls.length d1/\s=oT ls.length d1)\/(i=oT ls.length d2/\s=oH ls.length d2)\/(i=oH ls.length d2/\s=oT ls.length d2)\/(i=oT ls.length d3/\s=oH ls.length d3)\/(i=oH ls.length d3/\s=oT ls.length d3)\/(bY P sd i=dz ls i/\s=i/\i≠oT ls.length d1/\i≠oH ls.length d1/\i≠oT ls.length d2/\i≠oH ls.length d2/\i≠oT ls.length d3/\i≠oH ls.length d3)):=fun i hi=>by
   rcases six i hi with (rfl|rfl|rfl|rfl|rfl|rfl)|⟨e,aM⟩
   .exact⟨_,h1,⟨_,yh,kT1⟩,.inl ⟨rfl,rfl⟩⟩
   .exact⟨_,t1,⟨_,wC,kH1⟩,.inr (.inl ⟨rfl,rfl⟩)⟩
   .exact⟨_,h2,⟨_,EF,kT2⟩,.inr (.inr (.inl ⟨rfl,rfl⟩))⟩
   .exact⟨_,t2,⟨_,oG,kH2⟩,.inr (.inr (.inr (.inl ⟨rfl,rfl⟩)))⟩
   .exact⟨_,h3,⟨_,EG,kT3⟩,.inr (.inr (.inr (.inr (.inl ⟨rfl,rfl⟩))))⟩
   .exact⟨_,t3,⟨_,KW,kH3⟩,.inr (.inr (.inr (.inr (.inr (.inl ⟨rfl,rfl⟩)))))⟩
   obtain⟨l,hl⟩:=aN hi;exact⟨i,hi,⟨l,hl,by rw[e];exact dG hl⟩,.inr (.inr (.inr (.inr (.inr (.inr ⟨e,rfl,aM⟩)))))⟩
  obtain⟨si,hsi,⟨li,sX,kli⟩,ci'⟩:=nn i hi;obtain⟨sj,Hj,⟨lj,re,klj⟩,B5⟩:=nn j hj;rw[kli] at ci e;rw[klj] at cj e;obtain⟨f1,f2,f3,f4⟩:=f12;obtain⟨f5,f6,f7,f8⟩:=f13;obtain⟨f9,f10,f11,f12⟩:=f23;have aM:si≠sj:=by
   clear e2 e3 e1 labs passUn kz bad bH bT hold un six;rcases ci' with ⟨q1,q2⟩|⟨q1,q2⟩|⟨q1,q2⟩|⟨q1,q2⟩|⟨q1,q2⟩|⟨q1,q2⟩|⟨_,q2,n1,n2,n3,n4,n5,n6⟩<;>rcases B5 with ⟨w1,w2⟩|⟨w1,w2⟩|⟨w1,w2⟩|⟨w1,w2⟩|⟨w1,w2⟩|⟨w1,w2⟩|⟨_,w2,m1,m2,m3,m4,m5,m6⟩<;>rw[q2,w2]<;>first
    |(rw[q1,w1] at eT;exact absurd rfl eT)
    |assumption
    |exact Ne.symm (by assumption)
    |exact eT
  have ho:=Ib g sX re ci cj e aM;rcases ci' with ⟨q1,q2⟩|⟨q1,q2⟩|⟨q1,q2⟩|⟨q1,q2⟩|⟨q1,q2⟩|⟨q1,q2⟩|⟨eu,q2,n1,n2,n3,n4,n5,n6⟩
  .rw[q2,<- o1] at ho;rcases B5 with ⟨w1,w2⟩|⟨w1,w2⟩|⟨w1,w2⟩|⟨w1,w2⟩|⟨w1,w2⟩|⟨w1,w2⟩|⟨_,w2,m1,m2,m3,m4,m5,m6⟩<;>rw[w2] at ho<;>first
    |(rw[q1,w1];exact C1)
    |exact absurd ho (by assumption)
    |exact absurd ho (Ne.symm (by assumption))
  .rw[q2,r3] at ho;rcases B5 with ⟨w1,w2⟩|⟨w1,w2⟩|⟨w1,w2⟩|⟨w1,w2⟩|⟨w1,w2⟩|⟨w1,w2⟩|⟨_,w2,m1,m2,m3,m4,m5,m6⟩<;>rw[w2] at ho<;>first
    |(rw[q1,w1];exact C3.symm)
    |exact absurd ho (by assumption)
    |exact absurd ho (Ne.symm (by assumption))
  .rw[q2,<- o2] at ho;rcases B5 with ⟨w1,w2⟩|⟨w1,w2⟩|⟨w1,w2⟩|⟨w1,w2⟩|⟨w1,w2⟩|⟨w1,w2⟩|⟨_,w2,m1,m2,m3,m4,m5,m6⟩<;>rw[w2] at ho<;>first
    |(rw[q1,w1];exact C2)
    |exact absurd ho (by assumption)
    |exact absurd ho (Ne.symm (by assumption))
  .rw[q2,r1] at ho;rcases B5 with ⟨w1,w2⟩|⟨w1,w2⟩|⟨w1,w2⟩|⟨w1,w2⟩|⟨w1,w2⟩|⟨w1,w2⟩|⟨_,w2,m1,m2,m3,m4,m5,m6⟩<;>rw[w2] at ho<;>first
    |(rw[q1,w1];exact C1.symm)
    |exact absurd ho (by assumption)
    |exact absurd ho (Ne.symm (by assumption))
  .rw[q2,<- o3] at ho;rcases B5 with ⟨w1,w2⟩|⟨w1,w2⟩|⟨w1,w2⟩|⟨w1,w2⟩|⟨w1,w2⟩|⟨w1,w2⟩|⟨_,w2,m1,m2,m3,m4,m5,m6⟩<;>rw[w2] at ho<;>first
    |(rw[q1,w1];exact C3)
    |exact absurd ho (by assumption)
    |exact absurd ho (Ne.symm (by assumption))
  .rw[q2,r2] at ho;rcases B5 with ⟨w1,w2⟩|⟨w1,w2⟩|⟨w1,w2⟩|⟨w1,w2⟩|⟨w1,w2⟩|⟨w1,w2⟩|⟨_,w2,m1,m2,m3,m4,m5,m6⟩<;>rw[w2] at ho<;>first
    |(rw[q1,w1];exact C2.symm)
    |exact absurd ho (by assumption)
    |exact absurd ho (Ne.symm (by assumption))
  have hb:=(pX ok.cr sX ci).1;rw[ho,q2] at hb;rcases B5 with ⟨w1,w2⟩|⟨w1,w2⟩|⟨w1,w2⟩|⟨w1,w2⟩|⟨w1,w2⟩|⟨w1,w2⟩|⟨eu2,w2,_⟩
  .rw[w2,<- o1] at hb;exact absurd hb.symm n3
  .rw[w2,r3] at hb;exact absurd hb.symm n6
  .rw[w2,<- o2] at hb;exact absurd hb.symm n5
  .rw[w2,r1] at hb;exact absurd hb.symm n2
  .rw[w2,<- o3] at hb;exact absurd hb.symm n1
  .rw[w2,r2] at hb;exact absurd hb.symm n4
  rw[q2] at sX;rw[w2] at re;rw[eu,eu2];exact Jw g hi hj eT (by rw[dG sX];exact ci) (by rw[dG re];exact cj) (by rw[dG sX,dG re];exact e)
 .have ee:=passUn i hi pi;have ee2:=passUn j hj pj;rw[ee] at pi e1 e2;rw[ee2] at pj e1 e2;exact(cz.On (II hi) (II hj) eT).2 pi pj e1 e2
 .obtain⟨j,l,hj,hl,hk,_⟩:=hold i hi;rw[hk] at ci ⊢;exact g.ids.1 l (aW hl) ci
 .have ee:=passUn i hi pi;rw[ee] at pi ⊢;have:=cz.rr _ (aW (II hi)) pi;rwa[lS] at this
 .have ee:=passUn i hi pi;rw[ee] at pi ⊢;exact cz.pl _ (aW (II hi)) pi
 .have:=cz.gt k hk;rwa[lS] at this
 .have:=cz.gz;rwa[lS] at this
 have viaK:∀d,j=d/2->t=(oK ls d).l\/t=(oK ls d).r:=fun d hd=>by
  rw[hd] at ht;unfold oK;split
  .exact ht
  exact ht.symm
 by_cases n1:j=d1/2
 .rcases viaK d1 n1 with h|h
  .exact .inl h
  exact .inr (labs (bk d2) _ t2 t (.inl (by rw[G2.1,h];exact c1.symm)))
 by_cases n2:j=d2/2
 .rcases viaK d2 n2 with h|h
  .exact .inl (h.trans a1.symm)
  exact .inr (labs (bk d3) _ t3 t (.inl (by rw[G3.1,h];exact c2.symm)))
 by_cases n3:j=d3/2
 .rcases viaK d3 n3 with h|h
  .exact .inl (h.trans (a2.symm.trans a1.symm))
  exact .inr (labs (bk d1) _ t1 t (.inl (by rw[G1.1,h];exact c3.symm)))
 exact .inr ⟨j,hj,by rw[sdn j n1 n2 n3];exact ht⟩
end
theorem zS(f:Bool)(x:aP):x.up=if f==x.p.d then eX f x else gI (fY f x):=by unfold aP.up eX fY;cases f<;>cases x.p.d<;>rfl
theorem zu(f:Bool)(x:aP):x.lo=if f==x.p.d then fY f x else gI (eX f x):=by unfold aP.lo eX fY;cases f<;>cases x.p.d<;>rfl
section
variable {F:Nat} {ls:List Let}
theorem W3:∀(w:List Nat) (f:Fc),f.places.length<=(w.foldl (Fc.add F ls) f).places.length/\ ∀x∈w,2*ls.length<=x->(pY F ls ((x-2*ls.length)/2)).length<=(w.foldl (Fc.add F ls) f).places.length:=by
 intro w
 induction w with
 |nil=>intro f;exact⟨cA _,fun x hx=>nomatch hx⟩
 |cons x w ih=>
  intro f;rw[BH];obtain⟨h1,h2⟩:=ih (Fc.add F ls f x);have h3:f.places.length<=(Fc.add F ls f x).places.length:=by
   unfold Fc.add;split
   .exact cA _
   simp only[fH];omega
  refine⟨lf h3 h1,fun y hy hl=>?_⟩;rcases dh.1 hy with rfl|hy
  .refine lf ?_ h1;unfold Fc.add;rw[aD aa];simp only[fH];split<;>(try rw[vA])<;>omega
  exact h2 y hy hl
theorem Z8(ok:dU F ls){k u v:Nat}(hk:k+1<(aC ls).length)(hu:(aC ls).getD k 0=u)(hv:(aC ls).getD (k+1) 0=v){l m:Let}(hl:ls[u]?=some l)(hm:ls[v]?=some m)
  (pl:l.aG=true) (pm:m.aG=true) (hg:m.gate<=l.gate):l.gate=m.gate/\m.aw=l.aw+1:=by
 obtain⟨u',hu'⟩:=aN (ls:=aC ls) (k:=k) aa;obtain⟨v',hv'⟩:=aN hk;rw[cU,hu',kE] at hu;rw[cU,hv',kE] at hv;subst hu hv;obtain⟨l',e1,_,e2⟩:=Aj ok.ax hu';obtain⟨m',e3,_,e4⟩:=Aj ok.ax hv';rw[hl] at e1;cases e1;rw[hm] at e3;cases e3;have gl:=ok.ax.eJ l (aW hl) pl;have gm:=ok.ax.eJ m (aW hm) pm;obtain⟨l1,l2,l3,l4⟩:=gl;obtain⟨m1,m2,m3,m4⟩:=gm;unfold dE at e2 e4;rcases Int.lt_or_eq_of_le hg with c|c
 .exfalso;have y9:=yO (ls:=ls) (show m.gate.toNat+1<=l.gate.toNat by omega);have hs:=rT ls m.gate.toNat;omega
 rw[c] at e4;exact⟨c.symm,aa⟩
theorem ac1(g:bK F ls){w:List Nat}(hw:w∈dR (aV ls) (nD ls))(rh:(iH F ls w).places.length=1){x v:Nat}(hx:x∈w){fw:Bool}(zk:x=ir ls.length v fw){l:Let}(hl:ls[v]?=some l)(pl:l.aG=true):
  ∃u m y,y∈w/\ls[u]?=some m/\m.aG=true/\l.gate=m.gate/\((dn ls v=fw/\m.aw=l.aw+1/\y=dw ls.length u (!dn ls u))\/(dn ls v=(!fw)/\l.aw=m.aw+1/\y=dw ls.length u (dn ls u))):=by
 have ok:=g.ok;have mp:=maps ok;obtain⟨i1,i2⟩:=I7 ok hl pl;have hz:=Dy mp hw hx;rw[zk,LV hl pl] at hz;by_cases cd:(dn ls v==fw)=true
 .rw[aE cd] at hz;have s0:(pY F ls ((aC ls).idxOf v)).length<=1:=by
   rw[<- rh];unfold iH;have:=(W3 (F:=F) (ls:=ls) w (Fc.new ls (w.headD 0))).2 _ hz aa;rwa[show(2*ls.length+2*(aC ls).idxOf v-2*ls.length)/2=(aC ls).idxOf v by omega] at this
  have hk:(aC ls).idxOf v+1<(aC ls).length:=by
   unfold pY at s0;simp only at s0;split at s0
   .assumption
   rw[fH,yz,yz] at s0;omega
  obtain⟨m,hm,pm⟩:=DQ hk;have hg:m.gate<=l.gate:=by unfold pY at s0;simp only at s0;rw[aE hk,yz,i2,gV hk,AP hl,AP hm] at s0;have:=(ok.ax.eJ l (aW hl) pl).g0;have:=(ok.ax.eJ m (aW hm) pm).g0;omega
  obtain⟨r1,r2⟩:=Z8 ok hk i2 rfl hl hm pl pm hg;have EL:=Dy mp hw hz;rw[Is,gV hk] at EL;exact⟨_,m,_,EL,hm,pm,r1,.inl ⟨eq_of_beq cd,r2,rfl⟩⟩
 rw[aD cd] at hz;have za:=dK ((aC ls).idxOf v+(aC ls).length-1) (show 0<(aC ls).length by omega);have hb:=vn i1;generalize ((aC ls).idxOf v+(aC ls).length-1)%(aC ls).length=k at hz za hb;have s0:(pY F ls k).length<=1:=by rw[<- rh];unfold iH;have:=(W3 (F:=F) (ls:=ls) w (Fc.new ls (w.headD 0))).2 _ hz aa;rwa[show(2*ls.length+2*k+1-2*ls.length)/2=k by omega] at this
 have hk:k+1<(aC ls).length:=by
  unfold pY at s0;simp only at s0;split at s0
  .assumption
  rw[fH,yz,yz] at s0;omega
 rw[gV hk] at hb;obtain⟨m,hm,pm⟩:=DQ za;have hg:l.gate<=m.gate:=by unfold pY at s0;simp only at s0;rw[aE hk,yz,gV hk,hb,i2,AP hl,AP hm] at s0;have:=(ok.ax.eJ l (aW hl) pl).g0;have:=(ok.ax.eJ m (aW hm) pm).g0;omega
 obtain⟨r1,r2⟩:=Z8 ok hk rfl (by rw[hb];exact i2) hm hl pm pl hg;have EL:=Dy mp hw hz;rw[Ir] at EL;refine⟨_,m,_,EL,hm,pm,r1.symm,.inr ⟨?_,r2,rfl⟩⟩;revert cd;cases dn ls v<;>cases fw<;>simp
theorem Vw{l:List Pc}{i:Nat}{r:Int}{p:Pc}(h:l[i]?=some p)(j:Nat):(jd l i r)[j]?=if j=i then some ⟨{p.l with aw:=r},p.d⟩ else l[j]? :=by
 have hl:=(aY.1 h).1;unfold jd;rw[cU,h,kE,nW];by_cases c:j=i
 .subst c;rw[aE rfl,aE hl,aE rfl]
 rw[aD (Ne.symm c),aD c]
theorem Vv{q:Pc->Bool}{l:List Pc}{i:Nat}{r:Int}{p:Pc}(h:l[i]?=some p)(hq:∀p:Pc,q ⟨{p.l with aw:=r},p.d⟩=q p):(jd l i r).countP q=l.countP q:=by unfold jd;rw[cU,h,kE];have:=Qo (p:=q) (y:=⟨{p.l with aw:=r},p.d⟩) h;rw[hq] at this;show List.countP q (l.set i ⟨{p.l with aw:=r},p.d⟩)=_;omega
theorem aqn(g:bK F ls){a b:Nat}(ha:a<ls.length)(hb:b<ls.length)(ef:a≠b){va vb pa pb:Nat}{la lb ma mb:Let}
  (ea:(pa=a/\va=nx ls a)\/(pa=nx ls a/\va=a)) (eb:(pb=b/\vb=nx ls b)\/(pb=nx ls b/\vb=b)) (nA:ls[va]?=some la) (wx:ls[vb]?=some lb) (xZ:ls[pa]?=some ma) (ya:ls[pb]?=some mb)
  (ca:la.aB=true) (cb:lb.aB=true) (qa:ma.aG=true) (qb:mb.aG=true) (hid:la.id=lb.id) (hv:va≠vb) (GP:lW F ls 1 [a,b] a=true):
  ∃w,w∈dR (aV ls) (nD ls)/\(iH F ls w).places.length=1/\ ∃d,d∈w/\d<2*ls.length/\aV ls d∈w/\aV ls d<2*ls.length/\(∀y,y∈w->y<2*ls.length->y=d\/y=aV ls d)/\
   ((d/2=a/\aV ls d/2=b/\oT ls.length d=pa/\oH ls.length d=va/\oT ls.length (aV ls d)=vb/\oH ls.length (aV ls d)=pb)\/(d/2=b/\aV ls d/2=a/\oT ls.length d=pb/\oH ls.length d=vb/\oT ls.length (aV ls d)=va/\oH ls.length (aV ls d)=pa)):=by
 have ok:=g.ok;obtain⟨w,hw,rh,hlen,hE⟩:=Qy g ha GP;obtain⟨da,uN,sO,xA⟩:=hE a af;obtain⟨db,vJ,tL,xB⟩:=hE b af;have aM:da≠db:=aa;have inD:∀d,d∈w->d<2*ls.length->d∈w.filter fun x=>decide (x<2*ls.length):=fun d h1 h2=>uA.2 ⟨h1,by simpa using h2⟩;have two:∀d,d∈w->d<2*ls.length->d=da\/d=db:=fun d h1 h2=>afd hlen (inD da uN sO) (inD db vJ tL) aM (inD d h1 h2);have ends:∀d e p v:Nat,d/2=e->((p=e/\v=nx ls e)\/(p=nx ls e/\v=e))->(oT ls.length d=p/\oH ls.length d=v)\/(oT ls.length d=v/\oH ls.length d=p):=fun d e p v h1 h2=>by
  unfold oT oH;rw[h1];show((if _ then e else nx ls e)=p/\(if _ then nx ls e else e)=v)\/((if _ then e else nx ls e)=v/\(if _ then nx ls e else e)=p);rcases h2 with ⟨rfl,rfl⟩|⟨rfl,rfl⟩<;>split
  .exact .inl ⟨rfl,rfl⟩
  .exact .inr ⟨rfl,rfl⟩
  .exact .inr ⟨rfl,rfl⟩
  exact .inl ⟨rfl,rfl⟩
 have pc:∀ {x y:Nat} {l m:Let},ls[x]?=some l->ls[y]?=some m->l.aB=true->m.aG=true->x≠y:=fun h1 h2 h3 h4 e=>by subst e;rw[h1] at h2;have:=oZ h2;rw[this,oN h4] at h3;cases h3
 -- a dart that leads to the crossing goes on at the other visit
 have go:∀(d d' p v p' v':Nat) (l m l' m':Let),d∈w->d<2*ls.length->d'<2*ls.length->oT ls.length d=p->oH ls.length d=v->ls[v]?=some l->ls[p]?=some m->ls[v']?=some l'->ls[p']?=some m'->l.aB=true->m.aG=true->l'.aB=true->m'.aG=true->l.id=l'.id->v≠v'->(∀y,y∈w->y<2*ls.length->y=d\/y=d')->((oT ls.length d'=p'/\oH ls.length d'=v')\/(oT ls.length d'=v'/\oH ls.length d'=p'))->aV ls d=d'/\oT ls.length d'=v'/\oH ls.length d'=p':=by
  intro d d' p v p' v' l m l' m' d1 d2 d2' hT hH hl hm tW j8 cl pm cl' pm' hid hv tw en;obtain⟨s1,s2,_⟩:=Gf g d2 (by rw[hH];exact hl) cl;rw[hH,Ib g hl tW cl cl' hid hv] at s2;rcases tw _ (Dy (maps ok) hw d1) s1 with e|e
  .exfalso;rw[e,hT] at s2;exact pc tW hm cl' pm s2.symm
  rw[e] at s2;rcases en with ⟨e1,_⟩|⟨e1,e2⟩
  .exact absurd (s2.symm.trans e1) (pc tW j8 cl' pm')
  exact⟨e,e1,e2⟩
 have na:=ends da a pa va xA ea;have nb:=ends db b pb vb xB eb;rcases na with ⟨t1,t2⟩|⟨t1,t2⟩
 .obtain⟨e1,e2,e3⟩:=go da db pa va pb vb la ma lb mb uN sO tL t1 t2 nA xZ wx ya ca qa cb qb hid hv two nb;refine⟨w,hw,rh,da,uN,sO,by rw[e1];exact vJ,by rw[e1];exact tL,by rw[e1];exact two,.inl ⟨xA,by rw[e1];exact xB,t1,t2,by rw[e1];exact e2,by rw[e1];exact e3⟩⟩
 · -- the dart of the first edge leads to the pass: the other one leads to the crossing
  obtain⟨u,m,y,y1,y2,y3,_,y4⟩:=ac1 g hw rh uN (v:=pa) (fw:=bk da) (by rw[<- t2];exact QJ sO) xZ qa;have hu:=(aY.1 y2).1;have yT:oT ls.length y=u/\y<2*ls.length:=by
   have key:∀f,oT ls.length (dw ls.length u f)=u/\dw ls.length u f<2*ls.length:=fun f=>⟨(MG hu).1,by
    have:=Ag hu (!f);rw[<- Bs] at this;have:=zL this;rwa[zM] at this⟩
   rcases y4 with ⟨_,_,e⟩|⟨_,_,e⟩<;>rw[e]<;>exact key _
  have yb:y=db:=by
   rcases two y y1 yT.2 with e|e
   .exfalso;rw[e,t1] at yT;rw[<- yT.1] at y2;rw[nA] at y2;have:=oZ y2;rw[<- this,lK ca] at y3;cases y3
   exact e
  have nb':oT ls.length db=pb/\oH ls.length db=vb:=by
   rcases nb with h|⟨h1,h2⟩
   .exact h
   exfalso;rw[yb,h1] at yT;rw[<- yT.1,wx] at y2;have:=oZ y2;rw[<- this,lK cb] at y3;cases y3
  obtain⟨e1,e2,e3⟩:=go db da pb vb pa va lb mb la ma vJ tL sO nb'.1 nb'.2 wx ya nA xZ cb qb ca qa hid.symm hv.symm (fun y h1 h2=>(two y h1 h2).symm) (.inr ⟨t1,t2⟩);refine⟨w,hw,rh,db,vJ,tL,by rw[e1];exact uN,by rw[e1];exact sO,by rw[e1];exact fun y h1 h2=>(two y h1 h2).symm,.inr ⟨xB,by rw[e1];exact xA,nb'.1,nb'.2,by rw[e1];exact e2,by rw[e1];exact e3⟩⟩
end
section
variable {F:Nat} {ls:List Let}
theorem adZ{e:Nat}(hn:0<ls.length)(he:e<ls.length)(h:(jq ls e).2.2=true):(((jq ls e).1=e/\(jq ls e).2.1=nx ls e)\/((jq ls e).1=nx ls e/\(jq ls e).2.1=e))/\(∃l,ls[(jq ls e).2.1]?=some l/\l.aB=true)/\ ∃m,ls[(jq ls e).1]?=some m/\m.aG=true:=by
 obtain⟨l,hl⟩:=aN he;obtain⟨m,hm⟩:=aN (ls:=ls) (k:=nx ls e) (dK _ hn);have e1:pA ls e=⟨l,gY ls e⟩:=jo (kS hl);have e2:pA ls (nx ls e)=⟨m,gY ls (nx ls e)⟩:=jo (kS hm);unfold jq at h ⊢;rw[e1,e2] at h ⊢;by_cases c:(l.kind==2)=true
 .rw[aE c] at h ⊢;exact⟨.inr ⟨rfl,rfl⟩,⟨l,hl,c⟩,m,hm,h⟩
 rw[aD c] at h ⊢;simp only[cE] at h;exact⟨.inl ⟨rfl,rfl⟩,⟨m,hm,h.2⟩,l,hl,h.1⟩
theorem ZT{f:Bool}{x y:aP}(h1:(eX f x).b=(eX f y).b)(h2:(fY f x).b=(fY f y).b):x.i.b=y.i.b/\x.o.b=y.o.b:=by
 rw[Hx,Hx] at h1;rw[HQ,HQ] at h2;cases f
 .exact⟨h2,h1⟩
 exact⟨h1,h2⟩
theorem ZR{f:Bool}{x:aP}(h:(eX f x).b=(fY f x).b):x.i.b=x.o.b:=by
 rw[Hx,HQ] at h;cases f
 .exact h.symm
 exact h
theorem ZS{f:Bool}{x:aP}(h:x.i.b=x.o.b):(eX f x).b=(fY f x).b:=by
 rw[Hx,HQ];cases f
 .exact h.symm
 exact h
theorem Xm{l:Let}{r:Int}(hp:l.aG=true)(h:dr F l=false):dr F {l with aw:=r}=false:=by have gU:({l with aw:=r}:Let).aG=true:=hp;rw[sB hp] at h;rw[sB gU];exact h
theorem XB(g:bK F ls){w:List Nat}(hw:w∈dR (aV ls) (nD ls))(rh:(iH F ls w).places.length=1){d d':Nat}(hd:d∈w)(ld:d<2*ls.length)(xQ:d'∈w)(ES:d'<2*ls.length)(wA:aV ls d=d')(two:∀y,y∈w->y<2*ls.length->y=d\/y=d')
  {lp lv lw lq:Let} (ud:ls[oT ls.length d]?=some lp) (mH:ls[oH ls.length d]?=some lv) (r8:ls[oT ls.length d']?=some lw) (u5:ls[oH ls.length d']?=some lq) (pp:lp.aG=true) (cv:lv.aB=true) (cw:lw.aB=true) (pq:lq.aG=true)
  {P:List Pc} (AT:P.length=ls.length) (qX:∀q:Let->Bool,(∀(l:Let) (r:Int),q {l with aw:=r}=q l)->ay q (P.map Pc.l)=ay q ls)
  (hP:oT ls.length d≠oH ls.length d'->P[oT ls.length d]?=(pieces ls)[oH ls.length d]? /\P[oH ls.length d]?=some ⟨{lp with aw:=lq.aw},gY ls (oT ls.length d)⟩/\P[oT ls.length d']?=some ⟨{lq with aw:=lp.aw},gY ls (oH ls.length d')⟩/\P[oH ls.length d']?=(pieces ls)[oT ls.length d']? /\
   ∀i,i≠oT ls.length d->i≠oH ls.length d->i≠oT ls.length d'->i≠oH ls.length d'->P[i]?=(pieces ls)[i]?):Cert F P:=by
 have ok:=g.ok;have cz:=g.cz;have hn:0<ls.length:=kY.2 g.ne;have t1:=Lm g ld;have t2:=Lm g ES;have h1:=HN g ld;have h2:=HN g ES
 -- the neighbours on the Mw
 obtain⟨u,m,y,y1,y2,y3,oz,y4⟩:=ac1 g hw rh xQ (v:=oH ls.length d') (fw:=bk d') (QJ ES) u5 pq;have hu:=(aY.1 y2).1;have yT:∀f,oT ls.length (dw ls.length u f)=u/\bk (dw ls.length u f)=f/\dw ls.length u f<2*ls.length:=fun f=>⟨(MG hu).1,(MG hu).2,by
  have:=Ag hu (!f);rw[<- Bs] at this;have:=zL this;rwa[zM] at this⟩
 have yd:y=d:=by
  have hyt:oT ls.length y=u/\y<2*ls.length:=by rcases y4 with ⟨_,_,e⟩|⟨_,_,e⟩<;>rw[e]<;>exact⟨(yT _).1,(yT _).2.2⟩
  rcases two y y1 hyt.2 with e|e
  .exact e
  exfalso;rw[e] at hyt;rw[<- hyt.1,r8] at y2;have:=oZ y2;rw[<- this,lK cw] at y3;cases y3
 subst yd;have hu':oT ls.length y=u:=by rcases y4 with ⟨_,_,e⟩|⟨_,_,e⟩<;>rw[e]<;>exact(yT _).1
 subst hu';rw[ud] at y2;cases y2
 -- cR: eI the Mw
 obtain⟨cR,hR⟩:∃cR:Bool,(cR=true/\dn ls (oH ls.length d')=bk d'/\lp.aw=lq.aw+1/\bk y= !dn ls (oT ls.length y))\/(cR=false/\dn ls (oH ls.length d')=(!bk d')/\lq.aw=lp.aw+1/\bk y=dn ls (oT ls.length y)):=by
  rcases y4 with ⟨e1,e2,e3⟩|⟨e1,e2,e3⟩
  .exact⟨true,.inl ⟨rfl,e1,e2,(congrArg bk e3).trans (yT _).2.1⟩⟩
  exact⟨false,.inr ⟨rfl,e1,e2,(congrArg bk e3).trans (yT _).2.1⟩⟩
 clear y4 yT y1 y3 hu;have jj:lp.aw≠lq.aw:=by rcases hR with ⟨_,_,h,_⟩|⟨_,_,h,_⟩<;>omega
 have npq:oT ls.length y≠oH ls.length d':=fun e=>by rw[e,u5] at ud;have:=oZ ud;rw[this] at jj;exact jj rfl
 obtain⟨pT,pH,pT',pH',pU⟩:=hP npq;clear hP;obtain⟨_,o1,q1,k1⟩:=Gf g ld mH cv;rw[wA] at o1 q1 k1;rw[GQ ld,Im ES] at k1;obtain⟨xa,xb,xc,xd⟩:=k1;simp only[if_true] at xa xb xc xd;have pc:∀ {x y:Nat} {l m:Let},ls[x]?=some l->ls[y]?=some m->l.aB=true->m.aG=true->x≠y:=fun h1 h2 h3 h4 e=>by subst e;rw[h1] at h2;have:=oZ h2;rw[this,oN h4] at h3;cases h3
 have nvw:oH ls.length y≠oT ls.length d':=by intro e;obtain⟨_,m,hm,_,_,mo,_⟩:=pX ok.cr mH cv;rw[<- o1,<- e,mH] at hm;have:=oZ hm;rw[<- this] at mo;revert mo;cases lv.over<;>simp
 have nvp:=pc mH ud cv pp;have nvq:=pc mH u5 cv pq;have nwp:=pc r8 ud cw pp;have nwq:=pc r8 u5 cw pq
 -- ends of the edges
 have ee:∀d:Nat,(oT ls.length d=d/2/\oH ls.length d=nx ls (d/2))\/(oT ls.length d=nx ls (d/2)/\oH ls.length d=d/2):=fun d=>by
  unfold oT oH nx;split
  .exact .inl ⟨rfl,rfl⟩
  exact .inr ⟨rfl,rfl⟩
 have apart:y/2≠d'/2/\y/2≠nx ls (d'/2)/\nx ls (y/2)≠d'/2/\nx ls (y/2)≠nx ls (d'/2)/\y/2≠nx ls (y/2)/\d'/2≠nx ls (d'/2):=by
  rcases ee y with ⟨a1,a2⟩|⟨a1,a2⟩<;>rcases ee d' with ⟨b1,b2⟩|⟨b1,b2⟩
  .rw[<- a2,<- a1,<- b2,<- b1];exact⟨nwp.symm,npq,nvw,nvq,nvp.symm,nwq⟩
  .rw[<- a2,<- a1,<- b1,<- b2];exact⟨npq,nwp.symm,nvq,nvw,nvp.symm,nwq.symm⟩
  .rw[<- a1,<- a2,<- b2,<- b1];exact⟨nvw,nvq,nwp.symm,npq,nvp,nwq⟩
  rw[<- a1,<- a2,<- b1,<- b2];exact⟨nvq,nvw,npq,nwp.symm,nvp,nwq.symm⟩
 let tau:=(oK ls y).l
 let tI:=eX (bk y) (dz ls (oT ls.length y))
 let hO:=fY (bk d') (dz ls (oH ls.length d'))
 let oth:=(fY (bk y) (dz ls (oH ls.length y))).r
 let K1:dL:=⟨hO.r,tau,tI.b⟩
 let K2:dL:=⟨tI.r,tau,hO.b⟩
 let sd:Nat->dL:=fun j=>if j=y/2 then uo (bk y) K1 else if j=d'/2 then uo (bk d') K2 else oR ls j
 have sd1:sd (y/2)=uo (bk y) K1:=aE rfl;have sd2:sd (d'/2)=uo (bk d') K2:=by show(if _ then _ else _)=_;rw[aD apart.1.symm,aE rfl]
 have sdn:∀j,j≠y/2->j≠d'/2->sd j=oR ls j:=fun j h1 h2=>by show(if _ then _ else _)=_;rw[aD h1,aD h2]
 have prev:∀i,i<ls.length->i≠nx ls (y/2)->i≠nx ls (d'/2)->sd ((i+ls.length-1)%ls.length)=oR ls ((i+ls.length-1)%ls.length):=fun i hi n1 n2=>sdn _ (fun h=>n1 (Ak hi h)) (fun h=>n2 (Ak hi h))
 obtain⟨z1,z2,z3,z4,z5,z6⟩:=apart;have G1:=Jx (P:=P) AT ld sd1 (prev _ aa z5 z2) (sdn _ z5.symm z3);have G2:=Jx (P:=P) AT ES sd2 (prev _ aa z3.symm z6) (sdn _ z2.symm z6.symm);have un:∀i,i<ls.length->i≠oT ls.length y->i≠oH ls.length y->i≠oT ls.length d'->i≠oH ls.length d'->bY P sd i=dz ls i:=fun i hi n1 n2 n3 n4=>by
  have a1:i≠y/2/\i≠nx ls (y/2):=by
   rcases ee y with ⟨a1,a2⟩|⟨a1,a2⟩
   .rw[<- a2,<- a1];exact⟨n1,n2⟩
   rw[<- a1,<- a2];exact⟨n2,n1⟩
  have a2:i≠d'/2/\i≠nx ls (d'/2):=by
   rcases ee d' with ⟨a1,a2⟩|⟨a1,a2⟩
   .rw[<- a2,<- a1];exact⟨n3,n4⟩
   rw[<- a1,<- a2];exact⟨n4,n3⟩
  exact Yp AT hi (pU i n1 n2 n3 n4) (prev i hi a1.2 a2.2) (sdn i a1.1 a2.1)
 have six:∀i,i<ls.length->(i=oT ls.length y\/i=oH ls.length y\/i=oT ls.length d'\/i=oH ls.length d')\/(bY P sd i=dz ls i/\i≠oT ls.length y/\i≠oH ls.length y/\i≠oT ls.length d'/\i≠oH ls.length d'):=fun i hi=>by
  rcases Classical.em (i=oT ls.length y\/i=oH ls.length y\/i=oT ls.length d'\/i=oH ls.length d') with h|h
  .exact .inl h
  simp only[Ab] at h;exact .inr ⟨un i hi h.1 h.2.1 h.2.2.1 h.2.2.2,h⟩
 have gp:∀ {i:Nat} {p:Pc},P[i]?=some p->(bY P sd i).p=p:=fun {i p} h=>by show P.getD i _=_;rw[cU,h];rfl
 have kT:(bY P sd (oT ls.length y)).k=lv:=congrArg Pc.l (gp (pT.trans (kS mH)));have kH:(bY P sd (oH ls.length y)).k={lp with aw:=lq.aw}:=congrArg Pc.l (gp pH);have vh:(bY P sd (oT ls.length d')).k={lq with aw:=lp.aw}:=congrArg Pc.l (gp pT');have CZ:(bY P sd (oH ls.length d')).k=lw:=congrArg Pc.l (gp (pH'.trans (kS r8)));have dH:(bY P sd (oH ls.length y)).p.d=(dz ls (oT ls.length y)).p.d:=by rw[gp pH];rfl
 have Aw:(bY P sd (oT ls.length d')).p.d=(dz ls (oH ls.length d')).p.d:=by rw[gp pT'];rfl
 have okv:=(Cd g h1).cb (by rw[dG mH];exact cv);have okw:=(Cd g t2).cb (by rw[dG r8];exact cw);have bv:=ZS (f:=bk y) okv;have bw:=ZS (f:=bk d') okw;rw[GQ ld] at bv;rw[Im ES] at bw;have bp:=Im (ls:=ls) ld;have bq:=GQ (ls:=ls) ES;have gdp:=ok.ax.eJ lp (aW ud) pp;have gdq:=ok.ax.eJ lq (aW u5) pq;have plp:=ML g ud pp;have plq:=ML g u5 pq;obtain⟨p1,p2,p3,p4⟩:=plp;obtain⟨p5,p6,p7,p8⟩:=plq;rw[dG ud] at p1 p2 p3 p4;rw[dG u5] at p5 p6 p7 p8;have j5:=MK g ud pp;have vZ:=MK g u5 pq;rw[zS (bk y)] at p1 p2;rw[zu (bk y)] at p3 p4;rw[zS (bk d')] at p5 p6;rw[zu (bk d')] at p7 p8;rw[j5,bp] at p1 p2 p3 p4;rw[vZ,bq] at p5 p6 p7 p8;have cgq:cg ls lq.gate.toNat=cg ls lp.gate.toNat:=by rw[oz]
 obtain⟨gp0,gp1,gp2,gp3⟩:=gdp;obtain⟨gq0,gq1,gq2,gq3⟩:=gdq;rw[cgq] at gq3;rw[oz] at p5 p6 p7 p8;obtain⟨r,T',B',jT,rj,jl,hT,pl1,pl2,CB⟩:∃(r:Nat) (T' B':Nat->Nat->Nat),1<=r/\r<cg ls lp.gate.toNat/\((lp.aw=(r:Int)/\lq.aw=(r:Int)+1)\/(lq.aw=(r:Int)/\lp.aw=(r:Int)+1))/\(∀k j,¬(k=lp.gate.toNat/\j=r)->T' k j=TF ls k j/\B' k j=BF ls k j)/\
   Ff T' B' (bY P sd (oH ls.length y))/\Ff T' B' (bY P sd (oT ls.length d'))/\tI.l=hO.l:=by
  rcases hR with ⟨_,dV,alc,dA⟩|⟨_,dV,alc,dA⟩
  .have f1:(bk y==dn ls (oT ls.length y))=false:=by rw[dA];cases dn ls (oT ls.length y)<;>rfl
   have f2:(bk d'==dn ls (oH ls.length d'))=true:=by rw[dV];cases bk d'<;>rfl
   rw[f1] at p1 p2 p3 p4;rw[f2] at p5 p6 p7 p8;simp only[eH,if_false,if_true] at p1 p2 p3 p4 p5 p6 p7 p8;have er:lp.aw.toNat=lq.aw.toNat+1:=aa;rw[er] at p1 p2 p3 p4;rw[Ww] at p1 p3;refine⟨lq.aw.toNat,fun k j=>if k=lp.gate.toNat/\j=lq.aw.toNat then oth else TF ls k j,fun k j=>if k=lp.gate.toNat/\j=lq.aw.toNat then tau else BF ls k j,aa,aa,.inr ⟨aa,aa⟩,fun k j h=>⟨aD h,aD h⟩,?_,?_,?_⟩
   .constructor
    .rw[kH,zS (bk y),dH,j5,f1];show(gI (fY (bk y) (bY P sd (oH ls.length y)))).r=if lp.gate.toNat=lp.gate.toNat/\lq.aw.toNat-1=lq.aw.toNat then oth else TF ls lp.gate.toNat (lq.aw.toNat-1);rw[aD aa,G1.2.2.2];exact xd.symm.trans p5
    .rw[kH,zS (bk y),dH,j5,f1];show(gI (fY (bk y) (bY P sd (oH ls.length y)))).l=if lp.gate.toNat=lp.gate.toNat/\lq.aw.toNat=lq.aw.toNat then oth else TF ls lp.gate.toNat lq.aw.toNat;rw[aE ⟨rfl,rfl⟩,G1.2.2.2];rfl
    .rw[kH,zu (bk y),dH,j5,f1];show(gI (eX (bk y) (bY P sd (oH ls.length y)))).r=if lp.gate.toNat=lp.gate.toNat/\lq.aw.toNat-1=lq.aw.toNat then tau else BF ls lp.gate.toNat (lq.aw.toNat-1);rw[aD aa,G1.2.2.1];exact p7
    rw[kH,zu (bk y),dH,j5,f1];show(gI (eX (bk y) (bY P sd (oH ls.length y)))).l=if lp.gate.toNat=lp.gate.toNat/\lq.aw.toNat=lq.aw.toNat then tau else BF ls lp.gate.toNat lq.aw.toNat;rw[aE ⟨rfl,rfl⟩,G1.2.2.1];rfl
   .constructor
    .rw[vh,zS (bk d'),Aw,vZ,f2];show(eX (bk d') (bY P sd (oT ls.length d'))).r=if lq.gate.toNat=lp.gate.toNat/\lp.aw.toNat-1=lq.aw.toNat then oth else TF ls lq.gate.toNat (lp.aw.toNat-1);rw[aE ⟨by rw[oz],aa⟩,G2.1];exact xb.symm
    .rw[vh,zS (bk d'),Aw,vZ,f2];show(eX (bk d') (bY P sd (oT ls.length d'))).l=if lq.gate.toNat=lp.gate.toNat/\lp.aw.toNat=lq.aw.toNat then oth else TF ls lq.gate.toNat lp.aw.toNat;rw[aD aa,G2.1,oz,er];exact xc.trans p2
    .rw[vh,zu (bk d'),Aw,vZ,f2];show(fY (bk d') (bY P sd (oT ls.length d'))).r=if lq.gate.toNat=lp.gate.toNat/\lp.aw.toNat-1=lq.aw.toNat then tau else BF ls lq.gate.toNat (lp.aw.toNat-1);rw[aE ⟨by rw[oz],aa⟩,G2.2.1]
    rw[vh,zu (bk d'),Aw,vZ,f2];show(fY (bk d') (bY P sd (oT ls.length d'))).l=if lq.gate.toNat=lp.gate.toNat/\lp.aw.toNat=lq.aw.toNat then tau else BF ls lq.gate.toNat lp.aw.toNat;rw[aD aa,G2.2.1,oz,er];exact p4
   exact p3.trans p8.symm
  have f1:(bk y==dn ls (oT ls.length y))=true:=by rw[dA];cases dn ls (oT ls.length y)<;>rfl
  have f2:(bk d'==dn ls (oH ls.length d'))=false:=by rw[dV];cases bk d'<;>rfl
  rw[f1] at p1 p2 p3 p4;rw[f2] at p5 p6 p7 p8;simp only[eH,if_false,if_true] at p1 p2 p3 p4 p5 p6 p7 p8;have er:lq.aw.toNat=lp.aw.toNat+1:=aa;rw[er] at p5 p6 p7 p8;rw[Ww] at p5 p7;refine⟨lp.aw.toNat,fun k j=>if k=lp.gate.toNat/\j=lp.aw.toNat then tau else TF ls k j,fun k j=>if k=lp.gate.toNat/\j=lp.aw.toNat then oth else BF ls k j,aa,aa,.inl ⟨aa,aa⟩,fun k j h=>⟨aD h,aD h⟩,?_,?_,?_⟩
  .constructor
   .rw[kH,zS (bk y),dH,j5,f1];show(eX (bk y) (bY P sd (oH ls.length y))).r=if lp.gate.toNat=lp.gate.toNat/\lq.aw.toNat-1=lp.aw.toNat then tau else TF ls lp.gate.toNat (lq.aw.toNat-1);rw[aE ⟨rfl,aa⟩,G1.2.2.1]
   .rw[kH,zS (bk y),dH,j5,f1];show(eX (bk y) (bY P sd (oH ls.length y))).l=if lp.gate.toNat=lp.gate.toNat/\lq.aw.toNat=lp.aw.toNat then tau else TF ls lp.gate.toNat lq.aw.toNat;rw[aD aa,G1.2.2.1,er];exact p6
   .rw[kH,zu (bk y),dH,j5,f1];show(fY (bk y) (bY P sd (oH ls.length y))).r=if lp.gate.toNat=lp.gate.toNat/\lq.aw.toNat-1=lp.aw.toNat then oth else BF ls lp.gate.toNat (lq.aw.toNat-1);rw[aE ⟨rfl,aa⟩,G1.2.2.2]
   rw[kH,zu (bk y),dH,j5,f1];show(fY (bk y) (bY P sd (oH ls.length y))).l=if lp.gate.toNat=lp.gate.toNat/\lq.aw.toNat=lp.aw.toNat then oth else BF ls lp.gate.toNat lq.aw.toNat;rw[aD aa,G1.2.2.2,er];exact xd.symm.trans p8
  .constructor
   .rw[vh,zS (bk d'),Aw,vZ,f2];show(gI (fY (bk d') (bY P sd (oT ls.length d')))).r=if lq.gate.toNat=lp.gate.toNat/\lp.aw.toNat-1=lp.aw.toNat then tau else TF ls lq.gate.toNat (lp.aw.toNat-1);rw[aD aa,G2.2.1,oz];exact p1
   .rw[vh,zS (bk d'),Aw,vZ,f2];show(gI (fY (bk d') (bY P sd (oT ls.length d')))).l=if lq.gate.toNat=lp.gate.toNat/\lp.aw.toNat=lp.aw.toNat then tau else TF ls lq.gate.toNat lp.aw.toNat;rw[aE ⟨by rw[oz],rfl⟩,G2.2.1];rfl
   .rw[vh,zu (bk d'),Aw,vZ,f2];show(gI (eX (bk d') (bY P sd (oT ls.length d')))).r=if lq.gate.toNat=lp.gate.toNat/\lp.aw.toNat-1=lp.aw.toNat then oth else BF ls lq.gate.toNat (lp.aw.toNat-1);rw[aD aa,G2.1,oz];exact xc.trans p3
   rw[vh,zu (bk d'),Aw,vZ,f2];show(gI (eX (bk d') (bY P sd (oT ls.length d')))).l=if lq.gate.toNat=lp.gate.toNat/\lp.aw.toNat=lp.aw.toNat then oth else BF ls lq.gate.toNat lp.aw.toNat;rw[aE ⟨by rw[oz],rfl⟩,G2.1];exact xb.symm
  exact p2.trans p5.symm
 clear p1 p2 p3 p4 p5 p6 p7 p8 hR;have mgp:∀i,i<ls.length->(bY P sd i).k.aG=true->(i=oH ls.length y\/i=oT ls.length d')\/(bY P sd i=dz ls i/\i≠oT ls.length y/\i≠oH ls.length y/\i≠oT ls.length d'/\i≠oH ls.length d'):=fun i hi hp=>by
  rcases six i hi with (rfl|rfl|rfl|rfl)|h
  .rw[kT,lK cv] at hp;cases hp
  .exact .inl (.inl rfl)
  .exact .inl (.inr rfl)
  .rw[CZ,lK cw] at hp;cases hp
  exact .inr h
 have mgc:∀i,i<ls.length->(bY P sd i).k.aB=true->(i=oT ls.length y\/i=oH ls.length d')\/(bY P sd i=dz ls i/\i≠oT ls.length y/\i≠oH ls.length y/\i≠oT ls.length d'/\i≠oH ls.length d'):=fun i hi hc=>by
  have n1:∀(l:Let) (r:Int),l.aG=true->({l with aw:=r}:Let).aB=false:=fun l r h=>oN (l:={l with aw:=r}) h;rcases six i hi with (rfl|rfl|rfl|rfl)|h
  .exact .inl (.inl rfl)
  .rw[kH,n1 _ _ pp] at hc;cases hc
  .rw[vh,n1 _ _ pq] at hc;cases hc
  .exact .inl (.inr rfl)
  exact .inr h
 -- the place of a pass is that of an old one
 have old:∀i,i<ls.length->(bY P sd i).k.aG=true->∃j l,ls[j]?=some l/\l.aG=true/\(bY P sd i).k.gate=l.gate/\(bY P sd i).k.aw=l.aw/\((i=oH ls.length y/\j=oH ls.length d')\/(i=oT ls.length d'/\j=oT ls.length y)\/(i=j/\i≠oT ls.length y/\i≠oH ls.length d')):=fun i hi hp=>by
  rcases mgp i hi hp with (rfl|rfl)|⟨e,n1,n2,n3,n4⟩
  .exact⟨_,lq,u5,pq,by rw[kH];exact oz.symm,by rw[kH],.inl ⟨rfl,rfl⟩⟩
  .exact⟨_,lp,ud,pp,by rw[vh];exact oz,by rw[vh],.inr (.inl ⟨rfl,rfl⟩)⟩
  obtain⟨l,hl⟩:=aN hi;rw[e] at hp;rw[dG hl] at hp;exact⟨i,l,hl,hp,by rw[e,dG hl],by rw[e,dG hl],.inr (.inr ⟨rfl,n1,n4⟩)⟩
 have C1:Xc (bY P sd (oT ls.length y)) (bY P sd (oH ls.length d')):=by
  obtain⟨b1,m,hm,mc,mi,mo,ms⟩:=pX ok.cr mH cv;rw[<- o1,r8] at hm;have em:=oZ hm;subst em;refine⟨by rw[kT,CZ,mo];simp,by rw[kT,CZ,ms],?_⟩;rw[kT,q1,<- PM,G1.1,G1.2.1,G2.2.2.1,G2.2.2.2];constructor<;>simp only[if_true]
  .exact CB
  .rfl
  .rfl
  rfl
 have hid:lv.id=lw.id:=by obtain⟨b1,m,hm,mc,mi,mo,ms⟩:=pX ok.cr mH cv;rw[<- o1,r8] at hm;rw[oZ hm,mi]
 have ho2:fh ls (oT ls.length d')=oH ls.length y:=by rw[o1];exact(pX ok.cr mH cv).1
 have labs:∀(f:Bool) i,i<ls.length->∀t,t=(eX f (bY P sd i)).l\/t=(eX f (bY P sd i)).r->∃j',j'<ls.length/\(t=(sd j').l\/t=(sd j').r):=fun f i hi t ht=>by
  cases f
  .refine⟨i,hi,?_⟩;rcases ht with ht|ht
   .exact .inr ht
   exact .inl ht
  refine⟨(i+P.length-1)%P.length,?_,ht⟩;rw[AT];exact dK _ hn
 have labo:∀(f:Bool) i,i<ls.length->∀t,t=(fY f (bY P sd i)).l\/t=(fY f (bY P sd i)).r->∃j',j'<ls.length/\(t=(sd j').l\/t=(sd j').r):=fun f i hi t ht=>by
  cases f
  .refine⟨(i+P.length-1)%P.length,?_,?_⟩
   .rw[AT];exact dK _ hn
   rcases ht with ht|ht
   .exact .inr ht
   exact .inl ht
  exact⟨i,hi,ht⟩
 have czgt:=cz.gt;have czgz:=cz.gz;rw[lS] at czgz;refine XC g (tau:=tau) (sd:=sd) (T':=T') (B':=B') AT (qX _ fun _ _=>rfl) (qX _ fun _ _=>rfl) (fun k=>qX _ fun _ _=>rfl) (fun i hi=>?_) (fun i j hi hj eT ci cj e=>?_) (fun i j hi hj eT pi pj e1 e2=>?_) (fun i hi ci=>?_) (fun i hi pi=>?_) (fun i hi pi=>?_) (fun k hk=>?_) ?_ (fun j hj t ht=>?_)
 .rcases six i hi with (rfl|rfl|rfl|rfl)|⟨e,_⟩
  .exact⟨by rw[kT];exact g.bad lv (aW mH),fun _=>ZR (f:=bk y) (by rw[G1.1,G1.2.1]),fun hp=>by rw[kT,lK cv] at hp;cases hp⟩
  .have fl:=ZT (f:=bk y) (x:=bY P sd (oH ls.length y)) (y:=dz ls (oT ls.length y)) (by rw[G1.2.2.1]) (by rw[G1.2.2.2,bp];exact bv.symm);refine⟨by rw[kH];exact Xm pp (g.bad lp (aW ud)),fun hc=>?_,fun _=>?_⟩
   .rw[kH] at hc;have:=oN (l:={lp with aw:=lq.aw}) pp;rw[this] at hc;cases hc
   rw[fl.1,fl.2,dH];exact(Cd g t1).pb (by rw[dG ud];exact pp)
  .have fl:=ZT (f:=bk d') (x:=bY P sd (oT ls.length d')) (y:=dz ls (oH ls.length d')) (by rw[G2.1,bq];exact bw) (by rw[G2.2.1]);refine⟨by rw[vh];exact Xm pq (g.bad lq (aW u5)),fun hc=>?_,fun _=>?_⟩
   .rw[vh] at hc;have:=oN (l:={lq with aw:=lp.aw}) pq;rw[this] at hc;cases hc
   rw[fl.1,fl.2,Aw];exact(Cd g h2).pb (by rw[dG u5];exact pq)
  .exact⟨by rw[CZ];exact g.bad lw (aW r8),fun _=>ZR (f:=bk d') (by rw[G2.2.2.1,G2.2.2.2]),fun hp=>by rw[CZ,lK cw] at hp;cases hp⟩
  rw[e];exact Cd g hi
 .rcases mgc i hi ci with (rfl|rfl)|⟨ei,n1,n2,n3,n4⟩<;>rcases mgc j hj cj with (rfl|rfl)|⟨ej,m1,m2,m3,m4⟩
  .exact absurd rfl eT
  .exact C1
  .exfalso;obtain⟨l,hl⟩:=aN hj;rw[kT,ej,dG hl] at e;rw[ej,dG hl] at cj;have:=Ib g mH hl cv cj e m2.symm;rw[<- o1] at this;exact m3 this.symm
  .exact C1.symm
  .exact absurd rfl eT
  .exfalso;obtain⟨l,hl⟩:=aN hj;rw[CZ,ej,dG hl] at e;rw[ej,dG hl] at cj;have:=Ib g r8 hl cw cj e m3.symm;rw[ho2] at this;exact m2 this.symm
  .exfalso;obtain⟨l,hl⟩:=aN hi;rw[kT,ei,dG hl] at e;rw[ei,dG hl] at ci;have:=Ib g mH hl cv ci e.symm n2.symm;rw[<- o1] at this;exact n3 this.symm
  .exfalso;obtain⟨l,hl⟩:=aN hi;rw[CZ,ei,dG hl] at e;rw[ei,dG hl] at ci;have:=Ib g r8 hl cw ci e.symm n3.symm;rw[ho2] at this;exact n2 this.symm
  rw[ei] at ci e ⊢;rw[ej] at cj e ⊢;exact Jw g hi hj eT ci cj e
 .obtain⟨a,l,hl,_,JO,qJ,c1⟩:=old i hi pi;obtain⟨b,m,hm,_,g2',rA,c2⟩:=old j hj pj;rename_i HT pm';have ef:a≠b:=by
   intro e;rcases c1 with ⟨i1,j1⟩|⟨i1,j1⟩|⟨i1,i2,i3⟩<;>rcases c2 with ⟨k1,k2⟩|⟨k1,k2⟩|⟨k1,k2,k3⟩
   .exact eT (i1.trans k1.symm)
   .exact npq (by rw[<- k2,<- e,j1])
   .exact k3 (by rw[k1,<- e,j1])
   .exact npq (by rw[<- j1,e,k2])
   .exact eT (i1.trans k1.symm)
   .exact k2 (by rw[k1,<- e,j1])
   .exact i3 (by rw[i1,e,k2])
   .exact i2 (by rw[i1,e,k2])
   exact eT (by rw[i1,k1,e])
  have gl:=ok.ax.eJ l (aW hl) HT;have gm:=ok.ax.eJ m (aW hm) pm';exact ef (ok.ax.inj a b l m hl hm HT pm' ((Dl gl gm).2 ⟨by rw[<- JO,<- g2',e1],by rw[<- qJ,<- rA,e2]⟩))
 .rcases mgc i hi ci with (rfl|rfl)|⟨ei,_⟩
  .rw[kT];exact g.ids.1 lv (aW mH) cv
  .rw[CZ];exact g.ids.1 lw (aW r8) cw
  obtain⟨l,hl⟩:=aN hi;rw[ei,dG hl] at ci ⊢;exact g.ids.1 l (aW hl) ci
 .obtain⟨a,l,hl,HT,JO,qJ,_⟩:=old i hi pi;rw[JO,qJ];obtain⟨_,_,b1,b2⟩:=ok.ax.eJ l (aW hl) HT;exact⟨b1,b2⟩
 .rcases mgp i hi pi with (rfl|rfl)|⟨ei,n1,n2,n3,n4⟩
  .exact pl1
  .exact pl2
  obtain⟨l,hl⟩:=aN hi;rw[ei] at pi ⊢;rw[dG hl] at pi;obtain⟨a1,a2,a3,a4⟩:=ML g hl pi;rw[dG hl] at a1 a2 a3 a4;obtain⟨b0,_,b1,b2⟩:=ok.ax.eJ l (aW hl) pi;have JK:l.gate.toNat=lp.gate.toNat->l.aw.toNat≠r/\l.aw.toNat-1≠r:=fun gT=>by have gg:l.gate=lp.gate:=aa;have d1:l.aw≠lp.aw:=fun e=>n1 (ok.ax.inj i _ l lp hl ud pi pp ((Dl (ok.ax.eJ l (aW hl) pi) (ok.ax.eJ lp (aW ud) pp)).2 ⟨gg,e⟩));have d2:l.aw≠lq.aw:=fun e=>n4 (ok.ax.inj i _ l lq hl u5 pi pq ((Dl (ok.ax.eJ l (aW hl) pi) (ok.ax.eJ lq (aW u5) pq)).2 ⟨by rw[gg,oz],e⟩));rcases jl with ⟨s1,s2⟩|⟨s1,s2⟩<;>omega
  have v1:=hT l.gate.toNat (l.aw.toNat-1) (fun⟨h1,h2⟩=>(JK h1).2 h2);have v2:=hT l.gate.toNat l.aw.toNat (fun⟨h1,h2⟩=>(JK h1).1 h2);constructor
  .rw[dG hl,v1.1];exact a1
  .rw[dG hl,v2.1];exact a2
  .rw[dG hl,v1.2];exact a3
  rw[dG hl,v2.2];exact a4
 .have:=czgt k hk;rw[lS] at this;have v1:=hT k (cg ls k) (fun⟨h1,h2⟩=>by rw[h1] at h2;omega);have v2:=hT (k+1) 0 (fun⟨_,h2⟩=>aa);rw[v1.1,v1.2,v2.1,v2.2];exact this
 .have v1:=hT F (cg ls F) (fun⟨h1,h2⟩=>by rw[h1] at h2;omega);have v2:=hT 0 0 (fun⟨_,h2⟩=>aa);rw[v1.1,v1.2,v2.1,v2.2];exact czgz
 have viaK:∀d,j=d/2->t=(oK ls d).l\/t=(oK ls d).r:=fun d hd=>by
  rw[hd] at ht;unfold oK;split
  .exact ht
  exact ht.symm
 by_cases n1:j=y/2
 .rcases viaK y n1 with h|h
  .exact .inl h
  exact .inr (labs (bk d') _ t2 t (.inl (by rw[G2.1,h];exact xc.symm)))
 by_cases n2:j=d'/2
 .rcases viaK d' n2 with h|h
  .exact .inl (h.trans xa.symm)
  exact .inr (labo (bk y) _ h1 t (.inl (by rw[G1.2.2.2,h];exact xd)))
 exact .inr ⟨j,hj,by rw[sdn j n1 n2];exact ht⟩
theorem ahL(g:bK F ls){a b:Nat}(ha:a<ls.length)(hb:b<ls.length)(ef:a≠b){L:List Pc}(h:yK F ls a b=some L):Cert F L:=by
 unfold yK at h;split at h
 case isFalse=>cases h
 rename_i hc;simp only[cE,kW,rI,dk] at hc;obtain⟨h1,h2,h3,h4,h5⟩:=hc;cases h;have hn:0<ls.length:=kY.2 g.ne;have bG:=fG ls;obtain⟨ea,⟨la,nA,ca⟩,ma,xZ,qa⟩:=adZ hn ha h1;obtain⟨eb,⟨lb,wx,cb⟩,mb,ya,qb⟩:=adZ hn hb h2;generalize (jq ls a).1=pa at*;generalize (jq ls a).2.1=va at*;generalize (jq ls b).1=pb at*;generalize (jq ls b).2.1=vb at*;have eva:pA ls va=⟨la,gY ls va⟩:=jo (kS nA);have evb:pA ls vb=⟨lb,gY ls vb⟩:=jo (kS wx);have epa:pA ls pa=⟨ma,gY ls pa⟩:=jo (kS xZ);have epb:pA ls pb=⟨mb,gY ls pb⟩:=jo (kS ya);rw[eva,evb] at h4;rw[epa,epb]
 obtain⟨w,hw,rh,d,d1,d2,d3,d4,two,cs⟩:=aqn g ha hb ef ea eb nA wx xZ ya ca cb qa qb h4 h3 h5;have pc:∀ {x y:Nat} {l m:Let},ls[x]?=some l->ls[y]?=some m->l.aB=true->m.aG=true->x≠y:=fun h1 h2 h3 h4 e=>by subst e;rw[h1] at h2;have:=oZ h2;rw[this,oN h4] at h3;cases h3
 have nva:va≠pa:=pc nA xZ ca qa;have nvb:vb≠pb:=pc wx ya cb qb;have nvab:va≠pb:=pc nA ya ca qb;have nvba:vb≠pa:=pc wx xZ cb qa
 let PP:=jd (jd (pieces ls) pa mb.aw) pb ma.aw
 have TX:=kS xZ;have ala:pa≠pb->(jd (pieces ls) pa mb.aw)[pb]?=some ⟨mb,gY ls pb⟩:=fun aM=>by rw[Vw TX,aD aM.symm];exact kS ya
 have alb:∃p,(jd (pieces ls) pa mb.aw)[pb]?=some p:=aN (by rw[Dt,bG];exact(aY.1 ya).1);have Np:PP.length=ls.length:=by show(jd (jd _ _ _) _ _).length=_;rw[Dt,Dt,bG]
 have e1:(gb ls PP a).length=ls.length:=by rw[Fm,Np]
 have AT:(ie ls PP [a,b]).length=ls.length:=by rw[Dw,Np]
 have qX:∀q:Let->Bool,(∀(l:Let) (r:Int),q {l with aw:=r}=q l)->ay q ((ie ls PP [a,b]).map Pc.l)=ay q ls:=fun q hq=>by rw[<- Ox (ls:=ls) q];show List.countP _ _=List.countP _ _;rw[DE,DE];show(gb ls (gb ls PP a) b).countP _=_;obtain⟨p,hp⟩:=alb;rw[Ik e1 hb (UI g hb),Ik Np ha (UI g ha),Vv hp (fun p=>hq _ _),Vv TX (fun p=>hq _ _)]
 have PPg:pa≠pb->PP[pa]?=some ⟨{ma with aw:=mb.aw},gY ls pa⟩/\PP[pb]?=some ⟨{mb with aw:=ma.aw},gY ls pb⟩/\ ∀i,i≠pa->i≠pb->PP[i]?=(pieces ls)[i]? :=fun aM=>by
  have k:∀j,PP[j]?=if j=pb then some ⟨{mb with aw:=ma.aw},gY ls pb⟩ else if j=pa then some ⟨{ma with aw:=mb.aw},gY ls pa⟩ else (pieces ls)[j]? :=fun j=>by show(jd (jd _ _ _) _ _)[j]?=_;rw[Vw (ala aM),Vw TX]
  refine⟨by rw[k,aD aM,aE rfl],by rw[k,aE rfl],fun i n1 n2=>by rw[k,aD n2,aD n1]⟩
 have swg:pa≠pb->(ie ls PP [a,b])[pa]?=PP[va]? /\(ie ls PP [a,b])[va]?=PP[pa]? /\(ie ls PP [a,b])[pb]?=PP[vb]? /\(ie ls PP [a,b])[vb]?=PP[pb]? /\ ∀i,i≠pa->i≠va->i≠pb->i≠vb->(ie ls PP [a,b])[i]?=PP[i]? :=fun aM=>by
  have k:∀i,(ie ls PP [a,b])[i]?=if i=nx ls b then (gb ls PP a)[b]? else if i=b then (gb ls PP a)[nx ls b]? else (gb ls PP a)[i]? :=fun i=>LR e1 hb i;have k2:∀i,(gb ls PP a)[i]?=if i=nx ls a then PP[a]? else if i=a then PP[nx ls a]? else PP[i]? :=fun i=>LR Np ha i;have ka:∀i,i≠pa->i≠va->(gb ls PP a)[i]?=PP[i]? :=fun i n1 n2=>by
   rcases ea with ⟨q1,q2⟩|⟨q1,q2⟩
   .rw[k2,aD (by rw[<- q2];exact n2),aD (by rw[<- q1];exact n1)]
   rw[k2,aD (by rw[<- q1];exact n1),aD (by rw[<- q2];exact n2)]
  have kb:∀i,i≠pb->i≠vb->(ie ls PP [a,b])[i]?=(gb ls PP a)[i]? :=fun i n1 n2=>by
   rcases eb with ⟨q1,q2⟩|⟨q1,q2⟩
   .rw[k,aD (by rw[<- q2];exact n2),aD (by rw[<- q1];exact n1)]
   rw[k,aD (by rw[<- q1];exact n1),aD (by rw[<- q2];exact n2)]
  have ka2:(gb ls PP a)[pa]?=PP[va]? /\(gb ls PP a)[va]?=PP[pa]? :=by
   rcases ea with ⟨q1,q2⟩|⟨q1,q2⟩
   .exact⟨by rw[k2,aD (by rw[<- q2];exact nva.symm),aE q1,<- q2],by rw[k2,aE q2,<- q1]⟩
   exact⟨by rw[k2,aE q1,<- q2],by rw[k2,aD (by rw[<- q1];exact nva),aE q2,<- q1]⟩
  have K7:(ie ls PP [a,b])[pb]?=(gb ls PP a)[vb]? /\(ie ls PP [a,b])[vb]?=(gb ls PP a)[pb]? :=by
   rcases eb with ⟨q1,q2⟩|⟨q1,q2⟩
   .exact⟨by rw[k,aD (by rw[<- q2];exact nvb.symm),aE q1,<- q2],by rw[k,aE q2,<- q1]⟩
   exact⟨by rw[k,aE q1,<- q2],by rw[k,aD (by rw[<- q1];exact nvb),aE q2,<- q1]⟩
  refine⟨by rw[kb _ aM nvba.symm,ka2.1],by rw[kb _ nvab h3,ka2.2],by rw[K7.1,ka _ nvba (Ne.symm h3)],by rw[K7.2,ka _ aM.symm nvab.symm],fun i n1 n2 n3 n4=>by rw[kb i n3 n4,ka i n1 n2]⟩
 rcases cs with ⟨c1,c2,c3,c4,c5,c6⟩|⟨c1,c2,c3,c4,c5,c6⟩
 .refine XB g hw rh d1 d2 d3 d4 rfl two (lp:=ma) (lv:=la) (lw:=lb) (lq:=mb) (by rw[c3];exact xZ) (by rw[c4];exact nA) (by rw[c5];exact wx) (by rw[c6];exact ya) qa ca cb qb AT qX fun aM=>?_;rw[c3,c4,c5,c6] at*;obtain⟨g1,g2,g3⟩:=PPg aM;obtain⟨s1,s2,s3,s4,s5⟩:=swg aM;exact⟨by rw[s1,g3 _ nva nvab],by rw[s2,g1],by rw[s4,g2],by rw[s3,g3 _ nvba nvb],fun i n1 n2 n3 n4=>by rw[s5 i n1 n2 n4 n3,g3 i n1 n4]⟩
 refine XB g hw rh d1 d2 d3 d4 rfl two (lp:=mb) (lv:=lb) (lw:=la) (lq:=ma) (by rw[c3];exact ya) (by rw[c4];exact wx) (by rw[c5];exact nA) (by rw[c6];exact xZ) qb cb ca qa AT qX fun aM=>?_;rw[c3,c4,c5,c6] at*;obtain⟨g1,g2,g3⟩:=PPg aM.symm;obtain⟨s1,s2,s3,s4,s5⟩:=swg aM.symm;exact⟨by rw[s3,g3 _ nvba nvb],by rw[s4,g2],by rw[s2,g1],by rw[s1,g3 _ nva nvab],fun i n1 n2 n3 n4=>by rw[s5 i n4 n3 n1 n2,g3 i n4 n1]⟩
end
end Go.Abs
