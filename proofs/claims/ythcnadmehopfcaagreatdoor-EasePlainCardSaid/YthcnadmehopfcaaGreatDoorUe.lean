/- A part. -/
import Derived.Test.YthcnadmehopfcaaGreatDoorUc
import Derived.Test.YthcnadmehopfcaaGreatDoorVb
set_option linter.all false
set_option maxHeartbeats 16000000
namespace Go.Abs
theorem X4.Py{g:Bool}{i o j q:dX}(h:X4 g i o j q):X4 (!g) (iB o) (iB i) j q:=by obtain⟨a,b,c,d⟩:=h;cases g<;>simp only[dx,if_false,if_true] at a b c d<;>constructor<;>simp[iB,a,b,c,d]
theorem X4.Pz{g:Bool}{i o j q:dX}(h:X4 g i o j q):X4 (!g) i o (iB q) (iB j):=by obtain⟨a,b,c,d⟩:=h;cases g<;>simp only[dx,if_false,if_true] at a b c d<;>constructor<;>simp[iB,a,b,c,d]
def fq(f:Bool)(x:aO):dX:=if f then x.i else iB x.o
def hU(f:Bool)(x:aO):dX:=if f then x.o else iB x.i
theorem Sv{f f':Bool}{x y:aO}:X4 true (fq f x) (hU f x) (fq f' y) (hU f' y)↔X4 (f==f') x.i x.o y.i y.o:=by
 cases f<;>cases f'<;>simp only[fq,hU,dx,if_false,if_true]
 .exact⟨fun h=>h.Py.Pz,fun h=>h.Py.Pz⟩
 .exact⟨fun h=>h.Py,fun h=>h.Py⟩
 .exact⟨fun h=>h.Pz,fun h=>h.Pz⟩
 exact Iff.rfl
def oT (n d:Nat):Nat:=if d%2=0 then d/2 else (d/2+1)%n
def oH (n d:Nat):Nat:=if d%2=0 then (d/2+1)%n else d/2
def bk(d:Nat):Bool:=d%2==0
section
variable {F:Nat} {ls:List Let}
def cn(P:List Pc)(sd:Nat->dX)(i:Nat):aO:=⟨P.getD i ⟨kz,false⟩,sd ((i+P.length-1)%P.length),sd i⟩
def zG (P:List Pc)(sd:Nat->dX):List aO:=(List.range P.length).map (cn P sd)
theorem ah9(P:List Pc)(sd:Nat->dX):(zG P sd).map aO.p=P:=by
 unfold zG;rw[tm];apply K4;intro i;rw[fQ];by_cases hi:i<P.length
 .obtain⟨p,hp⟩:=aM hi;rw[uf hi,hp];show some (P.getD i _)=_;rw[di,hp];rfl
 rw[ti (by rw[Dy];omega),ti aa];rfl
theorem avF(P:List Pc)(sd:Nat->dX)(h:0<P.length):∃s,jS s (zG P sd) s:=by
 refine⟨sd (P.length-1),?_⟩;have:=af0 (cn P sd) (fun i=>sd ((i+P.length-1)%P.length)) P.length 0 fun i _ hi=>⟨rfl,?_⟩
 .simp only[iQ] at this;rw[dV aa,show P.length+P.length-1=(P.length-1)+P.length by omega,qA,dV aa,<- aio] at this;exact this
 show sd i=sd ((i+1+P.length-1)%P.length);rw[show i+1+P.length-1=i+P.length by omega,qA,dV aa]
theorem ZY(g:cH F ls){P:List Pc}{sd:Nat->dX}{T' B':Nat->Nat->Nat}{tau:Nat}(hl:P.length=ls.length)
  (hC:aw Let.aC (P.map Pc.l)=aw Let.aC ls) (hP:aw Let.aG (P.map Pc.l)=aw Let.aG ls) (hG:∀k,cg (P.map Pc.l) k=cg ls k)
  (ok:∀i,i<ls.length->Ab F (cn P sd i)) (cr:∀i j,i<ls.length->j<ls.length->i≠j->Xr (cn P sd i) (cn P sd j)) (rk:∀i j,i<ls.length->j<ls.length->i≠j->Dr (cn P sd i) (cn P sd j))
  (ids:∀i,i<ls.length->(cn P sd i).k.aC=true->1<=(cn P sd i).k.id/\(cn P sd i).k.id<=((aw Let.aC ls/2:Nat):Int))
  (rr:∀i,i<ls.length->(cn P sd i).k.aG=true->1<=(cn P sd i).k.aE/\(cn P sd i).k.aE<=(cg ls (cn P sd i).k.gate.toNat:Int))
  (pl:∀i,i<ls.length->(cn P sd i).k.aG=true->Ha T' B' (cn P sd i))
  (gt:∀k,k<F->T' k (cg ls k)=T' (k+1) 0/\B' k (cg ls k)=B' (k+1) 0) (gz:T' F (cg ls F)=T' 0 0/\B' F (cg ls F)=B' 0 0)
  (wit:∀j,j<ls.length->∀t,(t=(qx ls j).l\/t=(qx ls j).r)->t=tau\/ ∃j',j'<ls.length/\(t=(sd j').l\/t=(sd j').r)):Cert F P:=by
 have hn:0<ls.length:=jf.2 g.ne;have A8:aQ (zG P sd)=P.map Pc.l:=by
  show(zG P sd).map (fun x=>x.p.l)=_;have:(zG P sd).map (fun x=>x.p.l)=((zG P sd).map aO.p).map Pc.l:=by rw[tm];rfl
  rw[this,ah9]
 have mem:∀x∈zG P sd,∃i,i<ls.length/\x=cn P sd i:=fun x hx=>by obtain⟨i,hi,rfl⟩:=dp.1 hx;exact⟨i,by have:=gA.1 hi;omega,rfl⟩
 have inz:∀i,i<ls.length->cn P sd i∈zG P sd:=fun i hi=>dp.2 ⟨i,gA.2 aa,rfl⟩;have q:Cq F (zG P sd) T' B':=by
  refine⟨fun x hx=>?_,QY fun i j hi hj fm=>cr i j aa aa fm,?_,fun x hx hc=>?_,QY fun i j hi hj fm=>rk i j aa aa fm,fun x hx hp=>?_,fun x hx hp=>?_,fun k hk=>?_,?_⟩
  .obtain⟨i,hi,rfl⟩:=mem x hx;exact ok i hi
  .rw[A8,hC];have:=g.cz.ev;rwa[lB] at this
  .obtain⟨i,hi,rfl⟩:=mem x hx;rw[A8,hC];exact ids i hi hc
  .obtain⟨i,hi,rfl⟩:=mem x hx;rw[A8,hG];exact rr i hi hp
  .obtain⟨i,hi,rfl⟩:=mem x hx;exact pl i hi hp
  .rw[A8,hG];exact gt k hk
  rw[A8,hG];exact gz
 refine⟨zG P sd,T',B',(List.range (lh ls)).filter (fun s=> ![tau].contains s),ah9 P sd,⟨avF P sd aa,q.ok,q.cr,q.ev,q.ids,q.rk,q.rr,q.pl,q.gt,q.gz,?_,DA.filter _,fun s hs=>?_,?_⟩⟩
 .have:0<aw Let.aG (P.map Pc.l):=by
   rw[hP];obtain⟨l,h1,h2⟩:=g.first;exact yN.2 ⟨l,aU h1,h2⟩
  rw[<- A8] at this;obtain⟨l,h1,h2⟩:=yN.1 this;obtain⟨x,hx,rfl⟩:=dp.1 h1;exact⟨x,hx,h2⟩
 .obtain⟨h1,h2⟩:=uZ.1 hs;have h2:s≠tau:=by simpa using h2
  obtain⟨x,hx,e⟩:=g.cz.wit s h1;obtain⟨j,hj,rfl⟩:=dp.1 hx;have hj:=gA.1 hj;rcases wit j hj s e with h|⟨j',hj',h⟩
  .exact absurd h h2
  exact⟨cn P sd j',inz j' hj',h⟩
 rw[A8,hC,hP];have h1:=ab3 (L:=[tau]) (DA (n:=lh ls));have h2:=g.nw;rw[Dy] at h1;simp only[dh,ez] at h1;omega
theorem NT(g:cH F ls){d:Nat}(hd:d<2*ls.length):oT ls.length d<ls.length:=by
 unfold oT;split
 .omega
 exact dO _ (jf.2 g.ne)
theorem Kh(g:cH F ls){d:Nat}(hd:d<2*ls.length):oH ls.length d<ls.length:=by
 unfold oH;split
 .exact dO _ (jf.2 g.ne)
 omega
theorem Tq{d:Nat}(hd:d<2*ls.length):d=eE ls.length (oH ls.length d) (bk d):=by have:=Lp hd;unfold oH bk;exact this
theorem O6{n v:Nat}{f:Bool}(hv:v<n):oT n (dr n v f)=v/\bk (dr n v f)=f:=by
 unfold oT bk dr;cases f
 .simp only[dx,if_false];have e1:(2*((v+n-1)%n)+1)%2=1:=aa;have e2:(2*((v+n-1)%n)+1)/2=(v+n-1)%n:=aa;rw[e1,e2,w9 hv];exact⟨rfl,rfl⟩
 simp only[if_true];have e1:(2*v)%2=0:=aa;have e2:(2*v)/2=v:=aa;rw[e1,e2];exact⟨rfl,rfl⟩
def oK (ls:List Let)(d:Nat):dX:=if d%2=0 then qx ls (d/2) else iB (qx ls (d/2))
theorem Jg{d:Nat}(hd:d<2*ls.length):fq (bk d) (dL ls (oH ls.length d))=oK ls d:=by
 unfold fq bk oH oK dL;rcases wm d with h|h
 .simp only[h,BS,if_true];rw[EP aa]
 simp[h]
theorem KI{d:Nat}(hd:d<2*ls.length):hU (bk d) (dL ls (oT ls.length d))=oK ls d:=by
 unfold hU bk oT oK dL;rcases wm d with h|h
 .simp[h]
 simp only[h,show((1:Nat)==0)=false from rfl,dx,if_false,Sn];rw[EP aa]
theorem Ix(g:cH F ls){d:Nat}(hd:d<2*ls.length){l:Let}(hl:ls[oH ls.length d]?=some l)(hc:l.aC=true):aS ls d<2*ls.length/\oT ls.length (aS ls d)=fG ls (oH ls.length d)/\gX l=(bk d==bk (aS ls d))/\
  X4 true (fq (bk d) (dL ls (oH ls.length d))) (hU (bk d) (dL ls (oH ls.length d))) (fq (bk (aS ls d)) (dL ls (oT ls.length (aS ls d)))) (hU (bk (aS ls d)) (dL ls (oT ls.length (aS ls d)))):=by
 have ok:=g.ok;have hv:=Kh g hd;obtain⟨b1,m,hm,mc,mi,mo,ms⟩:=qW ok.cr hl hc;have ho:=(aW.1 hm).1;have e:aS ls d=dr ls.length (fG ls (oH ls.length d)) (bk d==gX l):=by
  conv=>lhs;rw[Tq hd]
  rw[BK hl hc];rfl
 obtain⟨a1,a2⟩:=O6 (n:=ls.length) (f:=(bk d==gX l)) ho;have aI:oH ls.length d≠fG ls (oH ls.length d):=by intro ee;rw[<- ee,hl] at hm;have:=rj hm;rw[<- this] at mo;revert mo;cases l.over<;>simp
 have hg:gX l=(bk d==(bk d==gX l)):=by cases bk d<;>cases gX l<;>rfl
 rw[e,a1,a2];refine⟨?_,rfl,hg,?_⟩
 .have:=r8 ho (!(bk d==gX l));rw[<- tX] at this;have:=yD this;rwa[xh] at this
 rw[Sv,<- hg];have:=(L2 g hv ho aI (by rw[dS hl];exact hc) (by rw[dS hm];exact mc) (by rw[dS hl,dS hm];exact mi.symm)).x4;rwa[dS hl] at this
theorem Ol{l:List Pc}(hl:l.length=ls.length){e:Nat}(he:e<ls.length)(i:Nat):(ie ls l e)[i]?=if i=nx ls e then l[e]? else if i=e then l[nx ls e]? else l[i]? :=by
 have hn:nx ls e<ls.length:=dO _ aa;obtain⟨p,hp⟩:=aM (ls:=l) (k:=e) aa;obtain⟨q,hq⟩:=aM (ls:=l) (k:=nx ls e) aa;unfold ie;rw[pQ,pQ,di,di,hp,hq,tk];by_cases c1:i=nx ls e
 .subst c1;rw[aF rfl,aF aa,aF rfl];rfl
 rw[ay (Ne.symm c1),ay c1];by_cases c2:i=e
 .subst c2;rw[aF rfl,aF aa,aF rfl];rfl
 rw[ay (Ne.symm c2),ay c2]
theorem avk(g:cH F ls){w:List Nat}(hw:w∈gI (aS ls) (nD ls)){Q:Nat->Prop}(h1:∀x,x<nD ls->(Q (aS ls x)↔Q x)){x y:Nat}(hx:x∈w)(hy:y∈w):Q x↔Q y:=by
 have e:=Yf (maps g.ok) (R:=gr (nD ls) (aS ls)) (fun z hz=>.rel ⟨hz,rfl⟩) hw hx hy;have:=e.inv (f:=fun x=>Q x) fun a b r=>by obtain⟨ha,rfl⟩:=r;exact propext (h1 a ha).symm
 exact Eq.to_iff this
end
theorem auz:∀(L M:List Int),L.Nodup->(∀x∈L,x∈M)->L.length<=M.length:=by
 intro L
 induction L with
 |nil=>intro M _ _;exact bl _
 |cons a L ih=>intro M hn hs;obtain⟨h1,h2⟩:=qy.1 hn;have ha:=hs a af;have:=ih (M.erase a) h2 fun x hx=>(Yz (by rintro rfl;exact h1 hx)).2 (hs x (by simp[hx]));rw[Yw ha] at this;have:0<M.length:=OE ha;simp only[dh];omega
theorem alg:∀l:List Int,(mZ l).Nodup:=by
 intro l
 induction l with
 |nil=>exact uh
 |cons a l ih=>
  unfold mZ;split
  .exact ih
  rename_i h;exact qy.2 ⟨fun hm=>h (O7.1 hm),ih⟩
theorem alh{l:List Int}:(mZ l).length=l.length->l.Nodup:=by
 induction l with
 |nil=>intro _;exact uh
 |cons a l ih=>
  have hle:(mZ l).length<=l.length:=auz _ _ (alg l) fun x hx=>O7.1 hx;unfold mZ;rw[qy];split
  .intro e;simp only[dh] at e;omega
  rename_i h;simp only[dh];intro e;exact⟨h,ih aa⟩
theorem S6{p:Pc->Bool}{l:List Pc}{i:Nat}{x y:Pc}(h:l[i]?=some x):(l.set i y).countP p+(if p x then 1 else 0)=l.countP p+(if p y then 1 else 0):=by
 have e:=auj h;have hl:=(aW.1 h).1;have e2:l.set i y=l.take i++y::l.drop (i+1):=by
  conv=>lhs;rw[e]
  rw[YC _ _ (by rw[fX];omega),fX,Ar aa,HO];rfl
 rw[e2]
 conv=>rhs;rw[e]
 rw[v7,v7,xr,xr];omega
section
variable {F:Nat} {ls:List Let}
theorem KH{l:List Pc}(hl:l.length=ls.length){e:Nat}(he:e<ls.length)(aI:e≠nx ls e)(p:Pc->Bool):(ie ls l e).countP p=l.countP p:=by
 have hn:nx ls e<ls.length:=dO _ aa;obtain⟨x,hx⟩:=aM (ls:=l) (k:=e) aa;obtain⟨y,hy⟩:=aM (ls:=l) (k:=nx ls e) aa;unfold ie;rw[di,di,hx,hy];simp only[mV];have h1:=S6 (p:=p) (y:=y) hx;have h2:(l.set e y)[nx ls e]?=some y:=by rw[pQ,ay aI];exact hy
 have h3:=S6 (p:=p) (y:=x) h2;omega
theorem Xj(g:cH F ls){e:Nat}(he:e<ls.length):e≠nx ls e:=by
 have h2:2<=ls.length:=by obtain⟨l,h1,hp⟩:=g.first;have:=g.even;have:0<aw Let.aG ls:=yN.2 ⟨l,aU h1,hp⟩;have:=tx Let.aG ls;omega
 unfold nx;by_cases c:e+1<ls.length
 .rw[dV c];omega
 rw[show e+1=ls.length by omega,rh];omega
theorem N4(p:Let->Bool):aw p ((pieces ls).map Pc.l)=aw p ls:=by
 have:(pieces ls).map Pc.l=ls:=by
  have h:=lB ls;rw[<- h];have e:aQ (zF ls)=((zF ls).map aO.p).map Pc.l:=by rw[tm];rfl
  rw[h,<- Hz,<- e,h]
 rw[this]
theorem Ky(g:cH F ls){i j:Nat}{l m:Let}(hl:ls[i]?=some l)(hm:ls[j]?=some m)(hc:l.aC=true)(mc:m.aC=true)(e:l.id=m.id)(fm:i≠j):fG ls i=j:=by obtain⟨_,hp⟩:=g.ids;obtain⟨d1,_⟩:=hp i j l m hl hm hc mc e fm;obtain⟨b1,w,hw,wc,wi,wo,ws⟩:=qW g.ok.cr hl hc;refine Classical.byContradiction fun aI=>?_;have d3:=(hp _ _ w m hw hm wc mc (by rw[wi,e]) aI).1;rw[wo] at d3;revert d1 d3;cases l.over<;>cases m.over<;>simp
theorem auN(g:cH F ls){w:List Nat}(hw:w∈gI (aS ls) (nD ls)){p q r:Nat}(hp:p∈w)(hq:q∈w)(hr:r∈w)(pq:p≠q)(pr:p≠r)(qr:q≠r)(lp:p<nD ls)(lq:q<nD ls)(lr:r<nD ls)
  (np:aS ls p=p\/aS ls p=q\/aS ls p=r) (nq:aS ls q=p\/aS ls q=q\/aS ls q=r) (nr:aS ls r=p\/aS ls r=q\/aS ls r=r):
  (aS ls p=q/\aS ls q=r/\aS ls r=p)\/(aS ls p=r/\aS ls r=q/\aS ls q=p):=by
 have inj:=(maps g.ok).inj;have i1:aS ls p≠aS ls q:=fun e=>pq (inj _ _ lp lq e);have i2:aS ls p≠aS ls r:=fun e=>pr (inj _ _ lp lr e);have i3:aS ls q≠aS ls r:=fun e=>qr (inj _ _ lq lr e);have one:∀x y,x∈w->y∈w->x≠y->x<nD ls->aS ls x≠x:=fun x y hx hy jG lx e=>by have:=avk g hw (Q:=fun t=>t=x) (fun t ht=>⟨fun h=>inj _ _ ht lx (by rw[h,e]),fun h=>by rw[h,e]⟩) hx hy;exact jG (this.1 rfl).symm
 have n1:=one p q hp hq pq lp;have n2:=one q p hq hp (Ne.symm pq) lq;have n3:=one r p hr hp (Ne.symm pr) lr;omega
theorem Tx{n d i:Nat}:(i≠oT n d/\i≠oH n d)↔(i≠d/2/\i≠(d/2+1)%n):=by
 unfold oT oH;split
 .exact Iff.rfl
 exact And.comm
theorem Ts{n d d':Nat}(h:d/2≠d'/2/\d/2≠(d'/2+1)%n/\(d/2+1)%n≠d'/2/\(d/2+1)%n≠(d'/2+1)%n):oT n d≠oT n d'/\oT n d≠oH n d'/\oH n d≠oT n d'/\oH n d≠oH n d':=by
 obtain⟨h1,h2,h3,h4⟩:=h;unfold oT oH;split<;>split
 .exact⟨h1,h2,h3,h4⟩
 .exact⟨h2,h1,h4,h3⟩
 .exact⟨h3,h4,h1,h2⟩
 exact⟨h4,h3,h2,h1⟩
theorem Tt{n d:Nat}(h:d/2≠(d/2+1)%n):oT n d≠oH n d:=by
 unfold oT oH;split
 .exact h
 exact h.symm
def uo (f:Bool)(s:dX):dX:=if f then s else iB s
theorem JM(f:Bool)(x:aO):(fq f x).b=if f then x.i.b else x.o.b:=by cases f<;>rfl
theorem Kl(f:Bool)(x:aO):(hU f x).b=if f then x.o.b else x.i.b:=by cases f<;>rfl
theorem L3{P:List Pc}{sd:Nat->dX}{d:Nat}{k':dX}(hP:P.length=ls.length)(hd:d<2*ls.length)(hk:sd (d/2)=uo (bk d) k')(h1:sd ((d/2+ls.length-1)%ls.length)=qx ls ((d/2+ls.length-1)%ls.length))(h2:sd (nx ls (d/2))=qx ls (nx ls (d/2))):
  fq (bk d) (cn P sd (oT ls.length d))=fq (bk d) (dL ls (oT ls.length d))/\hU (bk d) (cn P sd (oT ls.length d))=k'/\fq (bk d) (cn P sd (oH ls.length d))=k'/\hU (bk d) (cn P sd (oH ls.length d))=hU (bk d) (dL ls (oH ls.length d)):=by
 unfold nx at h2;unfold fq hU cn dL oT oH;unfold bk at hk ⊢;rw[hP];rcases wm d with h|h
 .simp only[h,BS,if_true] at hk ⊢;rw[EP aa,hk,h1,h2];exact⟨rfl,rfl,rfl,rfl⟩
 simp only[h,show((1:Nat)==0)=false from rfl,dx,if_false,Sn] at hk ⊢;rw[EP aa,hk,h1,h2];exact⟨rfl,rfl,rfl,rfl⟩
theorem aaL{P:List Pc}{sd:Nat->dX}{i:Nat}(hP:P.length=ls.length)(hi:i<ls.length)(hp:P[i]?=(pieces ls)[i]?)(h1:sd ((i+ls.length-1)%ls.length)=qx ls ((i+ls.length-1)%ls.length))(h2:sd i=qx ls i):cn P sd i=dL ls i:=by
 have:P.getD i ⟨kz,false⟩=⟨ls.getD i kz,iJ ls i⟩:=by obtain⟨l,hl⟩:=aM hi;rw[di,hp,pM hl,di,hl];rfl
 unfold cn dL;rw[hP,h1,h2,this]
theorem IQ{P:List Pc}{sd:Nat->dX}{i j:Nat}(hj:j<ls.length)(hp:P[i]?=(pieces ls)[j]?):(cn P sd i).p=(dL ls j).p:=by obtain⟨l,hl⟩:=aM hj;show P.getD i _=⟨ls.getD j kz,iJ ls j⟩;rw[di,hp,pM hl,di,hl];rfl
theorem akq(g:cH F ls){a b c:Nat}(ha:a<ls.length)(hb:b<ls.length)(hc:c<ls.length){L:List Pc}(h:ub F ls a b c=some L):Cert F L:=by
 unfold ub at h;split at h
 case isFalse=>cases h
 rename_i ht;cases h;unfold Ho at ht;simp only[cN,dI] at ht;obtain⟨eI,h6,_,_,_,Jf⟩:=ht;have hn:0<ls.length:=jf.2 g.ne;have bU:=gG ls;have ok:=g.ok
 -- six letters
 have eZ:(vU ls [a,b,c]).Nodup:=alh (by rw[h6];rfl);have eZ:(([a,nx ls a,b,nx ls b,c,nx ls c]:List Nat).map fun i:Nat=>(i:Int)).Nodup:=eZ;have six:a≠nx ls a/\a≠b/\a≠nx ls b/\a≠c/\a≠nx ls c/\nx ls a≠b/\nx ls a≠nx ls b/\nx ls a≠c/\nx ls a≠nx ls c/\b≠nx ls b/\b≠c/\b≠nx ls c/\nx ls b≠c/\nx ls b≠nx ls c/\c≠nx ls c:=by simp only[dK,j7,qy,cM,gC,or_false,Au,uh,and_true,not_false_eq_true] at eZ;omega
 have crs:∀e∈[a,b,c],∃l m,ls[e]?=some l/\ls[nx ls e]?=some m/\l.aC=true/\m.aC=true:=fun e he=>by
  have h1:=jd.1 eI e he;have dB:e<ls.length:=by simp only[cM,gC,or_false] at he;rcases he with rfl|rfl|rfl<;>assumption
  obtain⟨l,hl⟩:=aM dB;obtain⟨m,hm⟩:=aM (ls:=ls) (k:=nx ls e) (dO _ hn);have e1:pA ls e=⟨l,iJ ls e⟩:=jZ (pM hl);have e2:pA ls (nx ls e)=⟨m,iJ ls (nx ls e)⟩:=jZ (pM hm);unfold Ci at h1;rw[e1,e2,cN] at h1;exact⟨l,m,hl,hm,h1.1,h1.2⟩
 obtain⟨w,hw,_,hlen,hE⟩:=Tf g ha Jf;obtain⟨da,wE,ur,zb⟩:=hE a af;obtain⟨db,xH,vf,zc⟩:=hE b af;obtain⟨dc,dc1,ID,IE⟩:=hE c af;have hN:∀d,d<2*ls.length->d<nD ls:=fun d hd=>by unfold nD;omega
 have three:∀d,d∈w->d<2*ls.length->d=da\/d=db\/d=dc:=fun d h1 h2=>by
  have inD:∀d,d∈w->d<2*ls.length->d∈w.filter fun x=>decide (x<2*ls.length):=fun d h1 h2=>uZ.2 ⟨h1,by simpa using h2⟩;have q1:=inD da wE ur;have q2:=inD db xH vf;have q3:=inD dc dc1 ID;have q4:=inD d h1 h2;generalize w.filter (fun x=>decide (x<2*ls.length))=D at hlen q1 q2 q3 q4
  match D,hlen with
  |[x,y,z],_=>simp only[cM,gC,or_false] at q1 q2 q3 q4;have:=six.2.1;have:=six.2.2.2.1;have:=six.2.2.2.2.2.2.2.2.2.2.1;omega
 have MJ:∀d,d<2*ls.length->d/2∈[a,b,c]->∃l,ls[oH ls.length d]?=some l/\l.aC=true:=fun d hd he=>by
  obtain⟨l,m,h1,h2,h3,h4⟩:=crs _ he;unfold oH;split
  .exact⟨m,h2,h4⟩
  exact⟨l,h1,h3⟩
 have step:∀d,d∈w->d<2*ls.length->d/2∈[a,b,c]->aS ls d=da\/aS ls d=db\/aS ls d=dc:=fun d hd hl he=>by obtain⟨l,h1,h2⟩:=MJ d hl he;exact three _ (Du (maps ok) hw hd) (Ix g hl h1 h2).1
 have round:∃d1 d2 d3,d1<2*ls.length/\d2<2*ls.length/\d3<2*ls.length/\aS ls d1=d2/\aS ls d2=d3/\aS ls d3=d1/\((d1/2=a/\d2/2=b/\d3/2=c)\/(d1/2=a/\d2/2=c/\d3/2=b)):=by
  have nab:da≠db:=fun e=>six.2.1 (by rw[<- zb,<- zc,e]);have nac:da≠dc:=fun e=>six.2.2.2.1 (by rw[<- zb,<- IE,e]);have nbc:db≠dc:=fun e=>six.2.2.2.2.2.2.2.2.2.2.1 (by rw[<- zc,<- IE,e]);rcases auN g hw wE xH dc1 nab nac nbc (hN _ ur) (hN _ vf) (hN _ ID) (step da wE ur (by rw[zb];simp)) (step db xH vf (by rw[zc];simp)) (step dc dc1 ID (by rw[IE];simp)) with ⟨h1,h2,h3⟩|⟨h1,h2,h3⟩
  .exact⟨da,db,dc,ur,vf,ID,h1,h2,h3,.inl ⟨zb,zc,IE⟩⟩
  exact⟨da,dc,db,ur,ID,vf,h1,h2,h3,.inr ⟨zb,IE,zc⟩⟩
 clear three step hE hlen wE ur zb xH vf zc dc1 ID IE hw Jf;clear eZ eI h6;obtain⟨d1,d2,d3,l1,l2,l3,s1,s2,s3,nv⟩:=round
 -- the new pieces
 have ina:a∈[a,b,c]:=af;have inb:b∈[a,b,c]:=af;have inc:c∈[a,b,c]:=af;have Ef:(iO ls (pieces ls) [a,b,c]).length=ls.length:=by rw[BH,bU]
 have CT:∀i,(iO ls (pieces ls) [a,b,c])[i]?=if i=nx ls c then (pieces ls)[c]? else if i=c then (pieces ls)[nx ls c]? else if i=nx ls b then (pieces ls)[b]? else if i=b then (pieces ls)[nx ls b]? else if i=nx ls a then (pieces ls)[a]? else if i=a then (pieces ls)[nx ls a]? else (pieces ls)[i]? :=fun i=>by
  show(ie ls (ie ls (ie ls (pieces ls) a) b) c)[i]?=_;have e1:(ie ls (pieces ls) a).length=ls.length:=by rw[Hm,bU]
  have e2:(ie ls (ie ls (pieces ls) a) b).length=ls.length:=by rw[Hm,e1]
  simp only[Ol e2 hc,Ol e1 hb,Ol bU ha];obtain⟨x1,x2,x3,x4,x5,x6,x7,x8,x9,Hw,KS,KT,KU,KV,Ov⟩:=six;simp only[x2.symm,x3.symm,x4.symm,x5.symm,x6.symm,x7.symm,x8.symm,x9.symm,KS.symm,KT.symm,KU.symm,KV.symm,if_false]
 have sF:∀p:Pc->Bool,(iO ls (pieces ls) [a,b,c]).countP p=(pieces ls).countP p:=fun p=>by
  show(ie ls (ie ls (ie ls (pieces ls) a) b) c).countP p=_;have e1:(ie ls (pieces ls) a).length=ls.length:=by rw[Hm,bU]
  have e2:(ie ls (ie ls (pieces ls) a) b).length=ls.length:=by rw[Hm,e1]
  rw[KH e2 hc six.2.2.2.2.2.2.2.2.2.2.2.2.2.2,KH e1 hb six.2.2.2.2.2.2.2.2.2.1,KH bU ha six.1]
 generalize iO ls (pieces ls) [a,b,c]=P at Ef CT sF;obtain⟨x1,x2,x3,x4,x5,x6,x7,x8,x9,Hw,KS,KT,KU,KV,Ov⟩:=six;have pa:P[a]?=(pieces ls)[nx ls a]? /\P[nx ls a]?=(pieces ls)[a]? :=by
  constructor
  .rw[CT];simp only[x1,x2,x3,x4,x5,if_false,if_true]
  rw[CT];simp only[x6,x7,x8,x9,if_false,if_true]
 have pb:P[b]?=(pieces ls)[nx ls b]? /\P[nx ls b]?=(pieces ls)[b]? :=by
  constructor
  .rw[CT];simp only[Hw,KS,KT,if_false,if_true]
  rw[CT];simp only[KU,KV,if_false,if_true]
 have pc:P[c]?=(pieces ls)[nx ls c]? /\P[nx ls c]?=(pieces ls)[c]? :=by
  constructor
  .rw[CT];simp only[Ov,if_false,if_true]
  rw[CT];simp only[if_true]
 have pn:∀i,i≠a->i≠nx ls a->i≠b->i≠nx ls b->i≠c->i≠nx ls c->P[i]?=(pieces ls)[i]? :=fun i h1 h2 h3 h4 h5 h6=>by rw[CT];simp only[h1,h2,h3,h4,h5,h6,if_false]
 clear CT
 -- edges and letters by cG
 have nV:∀d,d/2=a\/d/2=b\/d/2=c->P[oT ls.length d]?=(pieces ls)[oH ls.length d]? /\P[oH ls.length d]?=(pieces ls)[oT ls.length d]? :=fun d hd=>by
  have:P[d/2]?=(pieces ls)[nx ls (d/2)]? /\P[nx ls (d/2)]?=(pieces ls)[d/2]? :=by rcases hd with e|e|e<;>rw[e]<;>assumption
  unfold oT oH;rcases wm d with h|h
  .simp only[h,if_true];exact this
  simp only[h,Sn,if_false];exact this.symm
 have m1:d1/2=a\/d1/2=b\/d1/2=c:=by
  rcases nv with ⟨h,_,_⟩|⟨h,_,_⟩
  .exact .inl h
  exact .inl h
 have m2:d2/2=a\/d2/2=b\/d2/2=c:=by
  rcases nv with ⟨_,h,_⟩|⟨_,h,_⟩
  .exact .inr (.inl h)
  exact .inr (.inr h)
 have m3:d3/2=a\/d3/2=b\/d3/2=c:=by
  rcases nv with ⟨_,_,h⟩|⟨_,_,h⟩
  .exact .inr (.inr h)
  exact .inr (.inl h)
 have mm:∀d,d/2=a\/d/2=b\/d/2=c->d/2∈[a,b,c]:=fun d h=>by simpa using h
 have pn2:∀i,i≠oT ls.length d1->i≠oH ls.length d1->i≠oT ls.length d2->i≠oH ls.length d2->i≠oT ls.length d3->i≠oH ls.length d3->P[i]?=(pieces ls)[i]? /\ ∀d,d/2=a\/d/2=b\/d/2=c->i≠d/2/\i≠nx ls (d/2):=fun i a1 a2 a3 a4 a5 a6=>by
  obtain⟨b1,b2⟩:=Tx.1 ⟨a1,a2⟩;obtain⟨b3,b4⟩:=Tx.1 ⟨a3,a4⟩;obtain⟨b5,b6⟩:=Tx.1 ⟨a5,a6⟩;have key:(i≠a/\i≠nx ls a)/\(i≠b/\i≠nx ls b)/\(i≠c/\i≠nx ls c):=by
   rcases nv with ⟨h1,h2,h3⟩|⟨h1,h2,h3⟩
   .rw[h1] at b1 b2;rw[h2] at b3 b4;rw[h3] at b5 b6;exact⟨⟨b1,b2⟩,⟨b3,b4⟩,b5,b6⟩
   rw[h1] at b1 b2;rw[h2] at b3 b4;rw[h3] at b5 b6;exact⟨⟨b1,b2⟩,⟨b5,b6⟩,b3,b4⟩
  obtain⟨⟨c1,c2⟩,⟨c3,c4⟩,c5,c6⟩:=key;refine⟨pn i c1 c2 c3 c4 c5 c6,fun d hd=>?_⟩;rcases hd with e|e|e<;>rw[e]
  .exact⟨c1,c2⟩
  .exact⟨c3,c4⟩
  exact⟨c5,c6⟩
 have t1:=NT g l1;have t2:=NT g l2;have t3:=NT g l3;have h1:=Kh g l1;have h2:=Kh g l2;have h3:=Kh g l3
 -- all six are different
 have apart:(d1/2≠d2/2/\d1/2≠nx ls (d2/2)/\nx ls (d1/2)≠d2/2/\nx ls (d1/2)≠nx ls (d2/2))/\(d1/2≠d3/2/\d1/2≠nx ls (d3/2)/\nx ls (d1/2)≠d3/2/\nx ls (d1/2)≠nx ls (d3/2))/\(d2/2≠d3/2/\d2/2≠nx ls (d3/2)/\nx ls (d2/2)≠d3/2/\nx ls (d2/2)≠nx ls (d3/2))/\d1/2≠nx ls (d1/2)/\d2/2≠nx ls (d2/2)/\d3/2≠nx ls (d3/2):=by
  rcases nv with ⟨h1,h2,h3⟩|⟨h1,h2,h3⟩<;>rw[h1,h2,h3]
  .exact⟨⟨x2,x3,x6,x7⟩,⟨x4,x5,x8,x9⟩,⟨KS,KT,KU,KV⟩,x1,Hw,Ov⟩
  exact⟨⟨x4,x5,x8,x9⟩,⟨x2,x3,x6,x7⟩,⟨KS.symm,KU.symm,KT.symm,KV.symm⟩,x1,Ov,Hw⟩
 obtain⟨y1,y2,y3,y4,y5,y6⟩:=apart;have f12:=Ts y1;have f13:=Ts y2;have f23:=Ts y3;have g1:=Tt y4;have g2:=Tt y5;have g3:=Tt y6
 -- the old corners
 obtain⟨u1,zT,Iz⟩:=MJ d1 l1 (mm d1 m1);obtain⟨u2,uJ,IA⟩:=MJ d2 l2 (mm d2 m2);obtain⟨u3,vE,IB⟩:=MJ d3 l3 (mm d3 m3);obtain⟨_,o1,q1,k1⟩:=Ix g l1 zT Iz;obtain⟨_,o2,q2,k2⟩:=Ix g l2 uJ IA;obtain⟨_,o3,q3,k3⟩:=Ix g l3 vE IB;rw[s1] at o1 q1 k1;rw[s2] at o2 q2 k2;rw[s3] at o3 q3 k3;clear s1 s2 s3 nv pn pa pb pc x1 x2 x3 x4 x5 x6 x7 x8 x9 Hw KS KT KU KV Ov crs MJ mm ina inb inc;have ti1:=KI (ls:=ls) l1;have ti2:=KI (ls:=ls) l2;have ti3:=KI (ls:=ls) l3;have ko:=Jg (ls:=ls) l1;have hi2:=Jg (ls:=ls) l2
 have hi3:=Jg (ls:=ls) l3;rw[ko,ti2] at k1;rw[hi2,ti3] at k2;rw[hi3,ti1] at k3;obtain⟨a1,b1,c1,e1⟩:=k1;obtain⟨a2,b2,c2,e2⟩:=k2;obtain⟨a3,b3,c3,e3⟩:=k3;simp only[if_true] at a1 b1 c1 e1 a2 b2 c2 e2 a3 b3 c3 e3
 let tau:=(oK ls d1).l
 let K1:dX:=⟨(fq (bk d3) (dL ls (oT ls.length d3))).r,tau,(fq (bk d1) (dL ls (oT ls.length d1))).b⟩
 let K2:dX:=⟨(fq (bk d1) (dL ls (oT ls.length d1))).r,tau,(fq (bk d2) (dL ls (oT ls.length d2))).b⟩
 let K3:dX:=⟨(fq (bk d2) (dL ls (oT ls.length d2))).r,tau,(fq (bk d3) (dL ls (oT ls.length d3))).b⟩
 let sd:Nat->dX:=fun j=>if j=d1/2 then uo (bk d1) K1 else if j=d2/2 then uo (bk d2) K2 else if j=d3/2 then uo (bk d3) K3 else qx ls j
 have sd1:sd (d1/2)=uo (bk d1) K1:=aF rfl;have sd2:sd (d2/2)=uo (bk d2) K2:=by show(if _ then _ else _)=_;rw[ay (Ne.symm y1.1),aF rfl]
 have sd3:sd (d3/2)=uo (bk d3) K3:=by show(if _ then _ else _)=_;rw[ay (Ne.symm y2.1),ay (Ne.symm y3.1),aF rfl]
 have sdn:∀j,j≠d1/2->j≠d2/2->j≠d3/2->sd j=qx ls j:=fun j h1 h2 h3=>by show(if _ then _ else _)=_;rw[ay h1,ay h2,ay h3]
 have prev:∀i,i<ls.length->i≠nx ls (d1/2)->i≠nx ls (d2/2)->i≠nx ls (d3/2)->sd ((i+ls.length-1)%ls.length)=qx ls ((i+ls.length-1)%ls.length):=fun i hi n1 n2 n3=>sdn _ (fun h=>n1 (Ca hi h)) (fun h=>n2 (Ca hi h)) (fun h=>n3 (Ca hi h))
 obtain⟨z1,z2,z3,z4⟩:=y1;obtain⟨z5,z6,z7,z8⟩:=y2;obtain⟨z9,z10,z11,z12⟩:=y3;have G1:=L3 (P:=P) Ef l1 sd1 (prev _ aa y4 z2 z6) (sdn _ y4.symm z3 z7);have G2:=L3 (P:=P) Ef l2 sd2 (prev _ aa z3.symm y5 z10) (sdn _ z2.symm y5.symm z11);have G3:=L3 (P:=P) Ef l3 sd3 (prev _ aa z7.symm z11.symm y6) (sdn _ z6.symm z10.symm y6.symm);have p1:=nV d1 m1;have p2:=nV d2 m2;have p3:=nV d3 m3;have pT1:=IQ (sd:=sd) h1 p1.1;have pH1:=IQ (sd:=sd) t1 p1.2;have pT2:=IQ (sd:=sd) h2 p2.1;have pH2:=IQ (sd:=sd) t2 p2.2;have pT3:=IQ (sd:=sd) h3 p3.1
 have pH3:=IQ (sd:=sd) t3 p3.2;have un:∀i,i<ls.length->i≠oT ls.length d1->i≠oH ls.length d1->i≠oT ls.length d2->i≠oH ls.length d2->i≠oT ls.length d3->i≠oH ls.length d3->cn P sd i=dL ls i:=fun i hi n1 n2 n3 n4 n5 n6=>by obtain⟨q1,q2⟩:=pn2 i n1 n2 n3 n4 n5 n6;exact aaL Ef hi q1 (prev i hi (q2 d1 m1).2 (q2 d2 m2).2 (q2 d3 m3).2) (sdn i (q2 d1 m1).1 (q2 d2 m2).1 (q2 d3 m3).1)
 clear pn2 nV prev
 -- letters of the crossings
 have hw1:=qW ok.cr zT Iz;have hw2:=qW ok.cr uJ IA;have hw3:=qW ok.cr vE IB;rw[<- o1] at hw1;rw[<- o2] at hw2;rw[<- o3] at hw3;obtain⟨r1,v2,qo,cv2,iv2,_,_⟩:=hw1;obtain⟨r2,v3,Nu,cv3,iv3,_,_⟩:=hw2;obtain⟨r3,v1,yn,cv1,iv1,_,_⟩:=hw3
 -- the new corners
 have cornerN:∀(x y:aO) (d d' hh tt:Nat) (u v:Let),ls[hh]?=some u->ls[tt]?=some v->u.aC=true->v.aC=true->v.id=u.id->hh≠tt->x.p=(dL ls hh).p->y.p=(dL ls tt).p->gX u=(bk d==bk d')->X4 true (fq (bk d) x) (hU (bk d) x) (fq (bk d') y) (hU (bk d') y)->Xc x y:=by intro x y d d' hh tt u v ha hb ca cb ei aI hx hy hg h4;have JF:x.k=(dL ls hh).k:=congrArg Pc.l hx;have hy':y.k=(dL ls tt).k:=congrArg Pc.l hy;have old:=L2 g (aW.1 ha).1 (aW.1 hb).1 aI (by rw[dS ha];exact ca) (by rw[dS hb];exact cb) (by rw[dS ha,dS hb];exact ei.symm);refine⟨by rw[JF,hy'];exact old.ov,by rw[JF,hy'];exact old.sg,?_⟩;rw[JF,dS ha,hg];exact Sv.1 h4
 have C1:Xc (cn P sd (oT ls.length d1)) (cn P sd (oH ls.length d2)):=by
  refine cornerN _ _ d1 d2 _ _ u1 v2 zT qo Iz cv2 iv2 f12.2.2.1 pT1 pH2 q1 ?_;rw[G1.1,G1.2.1,G2.2.2.1,G2.2.2.2];constructor<;>simp only[if_true]
  .exact c3.trans e2
  .rfl
  .rfl
  exact b2
 have C2:Xc (cn P sd (oT ls.length d2)) (cn P sd (oH ls.length d3)):=by
  refine cornerN _ _ d2 d3 _ _ u2 v3 uJ Nu IA cv3 iv3 f23.2.2.1 pT2 pH3 q2 ?_;rw[G2.1,G2.2.1,G3.2.2.1,G3.2.2.2];constructor<;>simp only[if_true]
  .exact c1.trans e3
  .rfl
  .rfl
  exact b3
 have C3:Xc (cn P sd (oT ls.length d3)) (cn P sd (oH ls.length d1)):=by
  refine cornerN _ _ d3 d1 _ _ u3 v1 vE yn IB cv1 iv1 f13.2.1.symm pT3 pH1 q3 ?_;rw[G3.1,G3.2.1,G1.2.2.1,G1.2.2.2];constructor<;>simp only[if_true]
  .exact c2.trans e1
  .rfl
  .rfl
  exact b1
 have six:∀i,i<ls.length->(i=oT ls.length d1\/i=oH ls.length d1\/i=oT ls.length d2\/i=oH ls.length d2\/i=oT ls.length d3\/i=oH ls.length d3)\/(cn P sd i=dL ls i/\i≠oT ls.length d1/\i≠oH ls.length d1/\i≠oT ls.length d2/\i≠oH ls.length d2/\i≠oT ls.length d3/\i≠oH ls.length d3):=fun i hi=>by
  rcases Classical.em (i=oT ls.length d1\/i=oH ls.length d1\/i=oT ls.length d2\/i=oH ls.length d2\/i=oT ls.length d3\/i=oH ls.length d3) with h|h
  .exact .inl h
  simp only[Au] at h;exact .inr ⟨un i hi h.1 h.2.1 h.2.2.1 h.2.2.2.1 h.2.2.2.2.1 h.2.2.2.2.2,h⟩
 -- each position holds one letter
 have hold:∀i,i<ls.length->∃j l,j<ls.length/\ls[j]?=some l/\(cn P sd i).k=l/\(cn P sd i).p=(dL ls j).p:=fun i hi=>by
  have mk:∀j l,ls[j]?=some l->(cn P sd i).p=(dL ls j).p->∃j l,j<ls.length/\ls[j]?=some l/\(cn P sd i).k=l/\(cn P sd i).p=(dL ls j).p:=fun j l hl hp=>⟨j,l,(aW.1 hl).1,hl,(congrArg Pc.l hp).trans (dS hl),hp⟩;rcases six i hi with (rfl|rfl|rfl|rfl|rfl|rfl)|⟨e,_⟩
  .exact mk _ _ zT pT1
  .exact mk _ _ yn pH1
  .exact mk _ _ uJ pT2
  .exact mk _ _ qo pH2
  .exact mk _ _ vE pT3
  .exact mk _ _ Nu pH3
  obtain⟨l,hl⟩:=aM hi;exact mk i l hl (by rw[e])
 have kT1:(cn P sd (oT ls.length d1)).k=u1:=(congrArg Pc.l pT1).trans (dS zT);have kT2:(cn P sd (oT ls.length d2)).k=u2:=(congrArg Pc.l pT2).trans (dS uJ);have kT3:(cn P sd (oT ls.length d3)).k=u3:=(congrArg Pc.l pT3).trans (dS vE);have kH1:(cn P sd (oH ls.length d1)).k=v1:=(congrArg Pc.l pH1).trans (dS yn);have kH2:(cn P sd (oH ls.length d2)).k=v2:=(congrArg Pc.l pH2).trans (dS qo);have kH3:(cn P sd (oH ls.length d3)).k=v3:=(congrArg Pc.l pH3).trans (dS Nu);have flat:∀(f:Bool) (x:aO),(fq f x).b=(hU f x).b->x.i.b=x.o.b:=fun f x h=>by
  rw[JM,Kl] at h;cases f
  .exact h.symm
  exact h
 have ab9:∀(f:Bool) (x:aO),x.i.b=x.o.b->(fq f x).b=(hU f x).b:=fun f x h=>by
  rw[JM,Kl];cases f
  .exact h.symm
  exact h
 have oldb:∀j l,ls[j]?=some l->l.aC=true->(dL ls j).i.b=(dL ls j).o.b:=fun j l hl hc=>(DS g (aW.1 hl).1).cb (by rw[dS hl];exact hc);have bT:∀d (K:dX),fq (bk d) (cn P sd (oT ls.length d))=fq (bk d) (dL ls (oT ls.length d))->hU (bk d) (cn P sd (oT ls.length d))=K->K.b=(fq (bk d) (dL ls (oT ls.length d))).b->(cn P sd (oT ls.length d)).i.b=(cn P sd (oT ls.length d)).o.b:=fun d K q1 q2 q3=>flat (bk d) _ (by rw[q1,q2,q3])
 have bH:∀d (K:dX) (l m:Let),ls[oT ls.length d]?=some l->l.aC=true->ls[oH ls.length d]?=some m->m.aC=true->hU (bk d) (dL ls (oT ls.length d))=oK ls d->fq (bk d) (dL ls (oH ls.length d))=oK ls d->fq (bk d) (cn P sd (oH ls.length d))=K->hU (bk d) (cn P sd (oH ls.length d))=hU (bk d) (dL ls (oH ls.length d))->K.b=(fq (bk d) (dL ls (oT ls.length d))).b->(cn P sd (oH ls.length d)).i.b=(cn P sd (oH ls.length d)).o.b:=fun d K l m hl cl hm cm w1 w2 q1 q2 q3=>by refine flat (bk d) _ ?_;rw[q1,q2,q3,ab9 (bk d) _ (oldb _ _ hl cl),w1,<- w2];exact ab9 (bk d) _ (oldb _ _ hm cm)
 have bad:∀i,i<ls.length->dy F (cn P sd i).k=false:=fun i hi=>by obtain⟨j,l,hj,hl,hk,_⟩:=hold i hi;rw[hk];exact g.bad l (aU hl)
 have lO:∀i,i<ls.length->(cn P sd i).k.aC=true->(cn P sd i).i.b=(cn P sd i).o.b->Ab F (cn P sd i):=fun i hi hc hb=>⟨bad i hi,fun _=>hb,fun hp=>by rw[mQ hc] at hp;cases hp⟩;have passUn:∀i,i<ls.length->(cn P sd i).k.aG=true->cn P sd i=dL ls i:=fun i hi hp=>by
  rcases six i hi with (rfl|rfl|rfl|rfl|rfl|rfl)|⟨e,_⟩
  .rw[kT1,mQ Iz] at hp;cases hp
  .rw[kH1,mQ cv1] at hp;cases hp
  .rw[kT2,mQ IA] at hp;cases hp
  .rw[kH2,mQ cv2] at hp;cases hp
  .rw[kT3,mQ IB] at hp;cases hp
  .rw[kH3,mQ cv3] at hp;cases hp
  exact e
 have cz:=g.cz;have cntP:∀p:Let->Bool,aw p (P.map Pc.l)=aw p ls:=fun p=>by rw[<- N4 (ls:=ls) p];show List.countP _ _=List.countP _ _;rw[Ao,Ao];exact sF _
 have labs:∀(f:Bool) i,i<ls.length->∀t,t=(fq f (cn P sd i)).l\/t=(fq f (cn P sd i)).r->∃j',j'<ls.length/\(t=(sd j').l\/t=(sd j').r):=fun f i hi t ht=>by
  cases f
  .refine⟨i,hi,?_⟩;rcases ht with ht|ht
   .exact .inr ht
   exact .inl ht
  refine⟨(i+P.length-1)%P.length,?_,ht⟩;rw[Ef];exact dO _ hn
 refine ZY g (tau:=tau) (sd:=sd) (T':=TF ls) (B':=BF ls) Ef (cntP _) (cntP _) (fun k=>cntP _) (fun i hi=>?_) (fun i j hi hj fm ci cj e=>?_) (fun i j hi hj fm pi pj e1 e2=>?_) (fun i hi ci=>?_) (fun i hi pi=>?_) (fun i hi pi=>?_) (fun k hk=>?_) ?_ (fun j hj t ht=>?_)
 .rcases six i hi with (rfl|rfl|rfl|rfl|rfl|rfl)|⟨e,_⟩
  .exact lO _ hi (by rw[kT1];exact Iz) (bT d1 K1 G1.1 G1.2.1 rfl)
  .exact lO _ hi (by rw[kH1];exact cv1) (bH d1 K1 _ _ yn cv1 zT Iz ti1 ko G1.2.2.1 G1.2.2.2 rfl)
  .exact lO _ hi (by rw[kT2];exact IA) (bT d2 K2 G2.1 G2.2.1 rfl)
  .exact lO _ hi (by rw[kH2];exact cv2) (bH d2 K2 _ _ qo cv2 uJ IA ti2 hi2 G2.2.2.1 G2.2.2.2 rfl)
  .exact lO _ hi (by rw[kT3];exact IB) (bT d3 K3 G3.1 G3.2.1 rfl)
  .exact lO _ hi (by rw[kH3];exact cv3) (bH d3 K3 _ _ Nu cv3 vE IB ti3 hi3 G3.2.2.1 G3.2.2.2 rfl)
  rw[e];exact DS g hi
 · -- two visits of one crossing
  have nn:∀i,i<ls.length->∃s,s<ls.length/\(∃l,ls[s]?=some l/\(cn P sd i).k=l)/\((i=oT ls.length d1/\s=oH ls.length d1)\/(i=oH ls.length d1/\s=oT ls.length d1)\/(i=oT ls.length d2/\s=oH ls.length d2)\/(i=oH ls.length d2/\s=oT ls.length d2)\/(i=oT ls.length d3/\s=oH ls.length d3)\/(i=oH ls.length d3/\s=oT ls.length d3)\/(cn P sd i=dL ls i/\s=i/\i≠oT ls.length d1/\i≠oH ls.length d1/\i≠oT ls.length d2/\i≠oH ls.length d2/\i≠oT ls.length d3/\i≠oH ls.length d3)):=fun i hi=>by
   rcases six i hi with (rfl|rfl|rfl|rfl|rfl|rfl)|⟨e,aI⟩
   .exact⟨_,h1,⟨_,zT,kT1⟩,.inl ⟨rfl,rfl⟩⟩
   .exact⟨_,t1,⟨_,yn,kH1⟩,.inr (.inl ⟨rfl,rfl⟩)⟩
   .exact⟨_,h2,⟨_,uJ,kT2⟩,.inr (.inr (.inl ⟨rfl,rfl⟩))⟩
   .exact⟨_,t2,⟨_,qo,kH2⟩,.inr (.inr (.inr (.inl ⟨rfl,rfl⟩)))⟩
   .exact⟨_,h3,⟨_,vE,kT3⟩,.inr (.inr (.inr (.inr (.inl ⟨rfl,rfl⟩))))⟩
   .exact⟨_,t3,⟨_,Nu,kH3⟩,.inr (.inr (.inr (.inr (.inr (.inl ⟨rfl,rfl⟩)))))⟩
   obtain⟨l,hl⟩:=aM hi;exact⟨i,hi,⟨l,hl,by rw[e];exact dS hl⟩,.inr (.inr (.inr (.inr (.inr (.inr ⟨e,rfl,aI⟩)))))⟩
  obtain⟨si,hsi,⟨li,uF,kli⟩,ci'⟩:=nn i hi;obtain⟨sj,JB,⟨lj,sL,klj⟩,DL⟩:=nn j hj;rw[kli] at ci e;rw[klj] at cj e;obtain⟨f1,f2,f3,f4⟩:=f12;obtain⟨f5,f6,f7,f8⟩:=f13;obtain⟨f9,f10,f11,f12⟩:=f23;have aI:si≠sj:=by
   clear e2 e3 e1 labs passUn lO bad bH bT hold un six;rcases ci' with ⟨q1,q2⟩|⟨q1,q2⟩|⟨q1,q2⟩|⟨q1,q2⟩|⟨q1,q2⟩|⟨q1,q2⟩|⟨_,q2,n1,n2,n3,n4,n5,n6⟩<;>rcases DL with ⟨w1,w2⟩|⟨w1,w2⟩|⟨w1,w2⟩|⟨w1,w2⟩|⟨w1,w2⟩|⟨w1,w2⟩|⟨_,w2,m1,m2,m3,m4,m5,m6⟩<;>rw[q2,w2]<;>first
    |(rw[q1,w1] at fm;exact absurd rfl fm)
    |assumption
    |exact Ne.symm (by assumption)
    |exact fm
  have ho:=Ky g uF sL ci cj e aI;rcases ci' with ⟨q1,q2⟩|⟨q1,q2⟩|⟨q1,q2⟩|⟨q1,q2⟩|⟨q1,q2⟩|⟨q1,q2⟩|⟨eu,q2,n1,n2,n3,n4,n5,n6⟩
  .rw[q2,<- o1] at ho;rcases DL with ⟨w1,w2⟩|⟨w1,w2⟩|⟨w1,w2⟩|⟨w1,w2⟩|⟨w1,w2⟩|⟨w1,w2⟩|⟨_,w2,m1,m2,m3,m4,m5,m6⟩<;>rw[w2] at ho<;>first
    |(rw[q1,w1];exact C1)
    |exact absurd ho (by assumption)
    |exact absurd ho (Ne.symm (by assumption))
  .rw[q2,r3] at ho;rcases DL with ⟨w1,w2⟩|⟨w1,w2⟩|⟨w1,w2⟩|⟨w1,w2⟩|⟨w1,w2⟩|⟨w1,w2⟩|⟨_,w2,m1,m2,m3,m4,m5,m6⟩<;>rw[w2] at ho<;>first
    |(rw[q1,w1];exact C3.symm)
    |exact absurd ho (by assumption)
    |exact absurd ho (Ne.symm (by assumption))
  .rw[q2,<- o2] at ho;rcases DL with ⟨w1,w2⟩|⟨w1,w2⟩|⟨w1,w2⟩|⟨w1,w2⟩|⟨w1,w2⟩|⟨w1,w2⟩|⟨_,w2,m1,m2,m3,m4,m5,m6⟩<;>rw[w2] at ho<;>first
    |(rw[q1,w1];exact C2)
    |exact absurd ho (by assumption)
    |exact absurd ho (Ne.symm (by assumption))
  .rw[q2,r1] at ho;rcases DL with ⟨w1,w2⟩|⟨w1,w2⟩|⟨w1,w2⟩|⟨w1,w2⟩|⟨w1,w2⟩|⟨w1,w2⟩|⟨_,w2,m1,m2,m3,m4,m5,m6⟩<;>rw[w2] at ho<;>first
    |(rw[q1,w1];exact C1.symm)
    |exact absurd ho (by assumption)
    |exact absurd ho (Ne.symm (by assumption))
  .rw[q2,<- o3] at ho;rcases DL with ⟨w1,w2⟩|⟨w1,w2⟩|⟨w1,w2⟩|⟨w1,w2⟩|⟨w1,w2⟩|⟨w1,w2⟩|⟨_,w2,m1,m2,m3,m4,m5,m6⟩<;>rw[w2] at ho<;>first
    |(rw[q1,w1];exact C3)
    |exact absurd ho (by assumption)
    |exact absurd ho (Ne.symm (by assumption))
  .rw[q2,r2] at ho;rcases DL with ⟨w1,w2⟩|⟨w1,w2⟩|⟨w1,w2⟩|⟨w1,w2⟩|⟨w1,w2⟩|⟨w1,w2⟩|⟨_,w2,m1,m2,m3,m4,m5,m6⟩<;>rw[w2] at ho<;>first
    |(rw[q1,w1];exact C2.symm)
    |exact absurd ho (by assumption)
    |exact absurd ho (Ne.symm (by assumption))
  have hb:=(qW ok.cr uF ci).1;rw[ho,q2] at hb;rcases DL with ⟨w1,w2⟩|⟨w1,w2⟩|⟨w1,w2⟩|⟨w1,w2⟩|⟨w1,w2⟩|⟨w1,w2⟩|⟨eu2,w2,_⟩
  .rw[w2,<- o1] at hb;exact absurd hb.symm n3
  .rw[w2,r3] at hb;exact absurd hb.symm n6
  .rw[w2,<- o2] at hb;exact absurd hb.symm n5
  .rw[w2,r1] at hb;exact absurd hb.symm n2
  .rw[w2,<- o3] at hb;exact absurd hb.symm n1
  .rw[w2,r2] at hb;exact absurd hb.symm n4
  rw[q2] at uF;rw[w2] at sL;rw[eu,eu2];exact L2 g hi hj fm (by rw[dS uF];exact ci) (by rw[dS sL];exact cj) (by rw[dS uF,dS sL];exact e)
 .have ee:=passUn i hi pi;have ee2:=passUn j hj pj;rw[ee] at pi e1 e2;rw[ee2] at pj e1 e2;exact(cz.QZ (Fi hi) (Fi hj) fm).2 pi pj e1 e2
 .obtain⟨j,l,hj,hl,hk,_⟩:=hold i hi;rw[hk] at ci ⊢;exact g.ids.1 l (aU hl) ci
 .have ee:=passUn i hi pi;rw[ee] at pi ⊢;have:=cz.rr _ (aU (Fi hi)) pi;rwa[lB] at this
 .have ee:=passUn i hi pi;rw[ee] at pi ⊢;exact cz.pl _ (aU (Fi hi)) pi
 .have:=cz.gt k hk;rwa[lB] at this
 .have:=cz.gz;rwa[lB] at this
 have viaK:∀d,j=d/2->t=(oK ls d).l\/t=(oK ls d).r:=fun d hd=>by
  rw[hd] at ht;unfold oK;split
  .exact ht
  exact ht.symm
 by_cases n1:j=d1/2
 .rcases viaK d1 n1 with h|h
  .exact .inl h
  exact .inr (labs (bk d2) _ t2 t (.inl (by rw[G2.1,h];exact c1.symm)))
 by_cases n2:j=d2/2
 .rcases viaK d2 n2 with h|h
  .exact .inl (h.trans a1.symm)
  exact .inr (labs (bk d3) _ t3 t (.inl (by rw[G3.1,h];exact c2.symm)))
 by_cases n3:j=d3/2
 .rcases viaK d3 n3 with h|h
  .exact .inl (h.trans (a2.symm.trans a1.symm))
  exact .inr (labs (bk d1) _ t1 t (.inl (by rw[G1.1,h];exact c3.symm)))
 exact .inr ⟨j,hj,by rw[sdn j n1 n2 n3];exact ht⟩
end
theorem BN(f:Bool)(x:aO):x.up=if f==x.p.d then fq f x else iB (hU f x):=by unfold aO.up fq hU;cases f<;>cases x.p.d<;>rfl
theorem Bm(f:Bool)(x:aO):x.lo=if f==x.p.d then hU f x else iB (fq f x):=by unfold aO.lo fq hU;cases f<;>cases x.p.d<;>rfl
section
variable {F:Nat} {ls:List Let}
theorem Zh:∀(w:List Nat) (f:Fc),f.places.length<=(w.foldl (Fc.add F ls) f).places.length/\ ∀x∈w,2*ls.length<=x->(tU F ls ((x-2*ls.length)/2)).length<=(w.foldl (Fc.add F ls) f).places.length:=by
 intro w
 induction w with
 |nil=>intro f;exact⟨bJ _,fun x hx=>nomatch hx⟩
 |cons x w ih=>
  intro f;rw[Ap];obtain⟨h1,h2⟩:=ih (Fc.add F ls f x);have h3:f.places.length<=(Fc.add F ls f x).places.length:=by
   unfold Fc.add;split
   .exact bJ _
   simp only[ff];omega
  refine⟨mT h3 h1,fun y hy hl=>?_⟩;rcases cM.1 hy with rfl|hy
  .refine mT ?_ h1;unfold Fc.add;rw[ay aa];simp only[ff];split<;>(try rw[rZ])<;>omega
  exact h2 y hy hl
theorem acs(ok:eX F ls){k u v:Nat}(hk:k+1<(aB ls).length)(hu:(aB ls).getD k 0=u)(hv:(aB ls).getD (k+1) 0=v){l m:Let}(hl:ls[u]?=some l)(hm:ls[v]?=some m)
  (pl:l.aG=true) (pm:m.aG=true) (hg:m.gate<=l.gate):l.gate=m.gate/\m.aE=l.aE+1:=by
 obtain⟨u',hu'⟩:=aM (ls:=aB ls) (k:=k) aa;obtain⟨v',hv'⟩:=aM hk;rw[di,hu',mV] at hu;rw[di,hv',mV] at hv;subst hu hv;obtain⟨l',e1,_,e2⟩:=B9 ok.ax hu';obtain⟨m',e3,_,e4⟩:=B9 ok.ax hv';rw[hl] at e1;cases e1;rw[hm] at e3;cases e3;have gl:=ok.ax.eF l (aU hl) pl;have gm:=ok.ax.eF m (aU hm) pm;obtain⟨l1,l2,l3,l4⟩:=gl;obtain⟨m1,m2,m3,m4⟩:=gm;unfold dC at e2 e4;rcases Int.lt_or_eq_of_le hg with c|c
 .exfalso;have l6:=xJ (ls:=ls) (show m.gate.toNat+1<=l.gate.toNat by omega);have hs:=rB ls m.gate.toNat;omega
 rw[c] at e4;exact⟨c.symm,aa⟩
theorem afq(g:cH F ls){w:List Nat}(hw:w∈gI (aS ls) (nD ls))(sN:(nc F ls w).places.length=1){x v:Nat}(hx:x∈w){fw:Bool}(Bg:x=eE ls.length v fw){l:Let}(hl:ls[v]?=some l)(pl:l.aG=true):
  ∃u m y,y∈w/\ls[u]?=some m/\m.aG=true/\l.gate=m.gate/\((dn ls v=fw/\m.aE=l.aE+1/\y=dr ls.length u (!dn ls u))\/(dn ls v=(!fw)/\l.aE=m.aE+1/\y=dr ls.length u (dn ls u))):=by
 have ok:=g.ok;have mp:=maps ok;obtain⟨i1,i2⟩:=Ig ok hl pl;have hz:=Du mp hw hx;rw[Bg,BM hl pl] at hz;by_cases cd:(dn ls v==fw)=true
 .rw[aF cd] at hz;have uH:(tU F ls ((aB ls).idxOf v)).length<=1:=by
   rw[<- sN];unfold nc;have:=(Zh (F:=F) (ls:=ls) w (Fc.new ls (w.headD 0))).2 _ hz aa;rwa[show(2*ls.length+2*(aB ls).idxOf v-2*ls.length)/2=(aB ls).idxOf v by omega] at this
  have hk:(aB ls).idxOf v+1<(aB ls).length:=by
   unfold tU at uH;simp only at uH;split at uH
   .assumption
   rw[ff,BG,BG] at uH;omega
  obtain⟨m,hm,pm⟩:=DH hk;have hg:m.gate<=l.gate:=by unfold tU at uH;simp only at uH;rw[aF hk,BG,i2,dV hk,F2 hl,F2 hm] at uH;have:=(ok.ax.eF l (aU hl) pl).g0;have:=(ok.ax.eF m (aU hm) pm).g0;omega
  obtain⟨r1,r2⟩:=acs ok hk i2 rfl hl hm pl pm hg;have GC:=Du mp hw hz;rw[Dq,dV hk] at GC;exact⟨_,m,_,GC,hm,pm,r1,.inl ⟨eq_of_beq cd,r2,rfl⟩⟩
 rw[ay cd] at hz;have A9:=dO ((aB ls).idxOf v+(aB ls).length-1) (show 0<(aB ls).length by omega);have hb:=w9 i1;generalize ((aB ls).idxOf v+(aB ls).length-1)%(aB ls).length=k at hz A9 hb;have uH:(tU F ls k).length<=1:=by rw[<- sN];unfold nc;have:=(Zh (F:=F) (ls:=ls) w (Fc.new ls (w.headD 0))).2 _ hz aa;rwa[show(2*ls.length+2*k+1-2*ls.length)/2=k by omega] at this
 have hk:k+1<(aB ls).length:=by
  unfold tU at uH;simp only at uH;split at uH
  .assumption
  rw[ff,BG,BG] at uH;omega
 rw[dV hk] at hb;obtain⟨m,hm,pm⟩:=DH A9;have hg:l.gate<=m.gate:=by unfold tU at uH;simp only at uH;rw[aF hk,BG,dV hk,hb,i2,F2 hl,F2 hm] at uH;have:=(ok.ax.eF l (aU hl) pl).g0;have:=(ok.ax.eF m (aU hm) pm).g0;omega
 obtain⟨r1,r2⟩:=acs ok hk rfl (by rw[hb];exact i2) hm hl pm pl hg;have GC:=Du mp hw hz;rw[Dp] at GC;refine⟨_,m,_,GC,hm,pm,r1.symm,.inr ⟨?_,r2,rfl⟩⟩;revert cd;cases dn ls v<;>cases fw<;>simp
theorem XP{l:List Pc}{i:Nat}{r:Int}{p:Pc}(h:l[i]?=some p)(j:Nat):(jM l i r)[j]?=if j=i then some ⟨{p.l with aE:=r},p.d⟩ else l[j]? :=by
 have hl:=(aW.1 h).1;unfold jM;rw[di,h,mV,pQ];by_cases c:j=i
 .subst c;rw[aF rfl,aF hl,aF rfl]
 rw[ay (Ne.symm c),ay c]
theorem XO{q:Pc->Bool}{l:List Pc}{i:Nat}{r:Int}{p:Pc}(h:l[i]?=some p)(hq:∀p:Pc,q ⟨{p.l with aE:=r},p.d⟩=q p):(jM l i r).countP q=l.countP q:=by unfold jM;rw[di,h,mV];have:=S6 (p:=q) (y:=⟨{p.l with aE:=r},p.d⟩) h;rw[hq] at this;show List.countP q (l.set i ⟨{p.l with aE:=r},p.d⟩)=_;omega
theorem atY(g:cH F ls){a b:Nat}(ha:a<ls.length)(hb:b<ls.length)(eH:a≠b){va vb pa pb:Nat}{la lb ma mb:Let}
  (ea:(pa=a/\va=nx ls a)\/(pa=nx ls a/\va=a)) (eb:(pb=b/\vb=nx ls b)\/(pb=nx ls b/\vb=b)) (vu:ls[va]?=some la) (A7:ls[vb]?=some lb) (zN:ls[pa]?=some ma) (zP:ls[pb]?=some mb)
  (ca:la.aC=true) (cb:lb.aC=true) (qa:ma.aG=true) (qb:mb.aG=true) (hid:la.id=lb.id) (hv:va≠vb) (Jf:pY F ls 1 [a,b] a=true):
  ∃w,w∈gI (aS ls) (nD ls)/\(nc F ls w).places.length=1/\ ∃d,d∈w/\d<2*ls.length/\aS ls d∈w/\aS ls d<2*ls.length/\(∀y,y∈w->y<2*ls.length->y=d\/y=aS ls d)/\
   ((d/2=a/\aS ls d/2=b/\oT ls.length d=pa/\oH ls.length d=va/\oT ls.length (aS ls d)=vb/\oH ls.length (aS ls d)=pb)\/(d/2=b/\aS ls d/2=a/\oT ls.length d=pb/\oH ls.length d=vb/\oT ls.length (aS ls d)=va/\oH ls.length (aS ls d)=pa)):=by
 have ok:=g.ok;obtain⟨w,hw,sN,hlen,hE⟩:=Tf g ha Jf;obtain⟨da,wE,ur,zb⟩:=hE a af;obtain⟨db,xH,vf,zc⟩:=hE b af;have aI:da≠db:=aa;have inD:∀d,d∈w->d<2*ls.length->d∈w.filter fun x=>decide (x<2*ls.length):=fun d h1 h2=>uZ.2 ⟨h1,by simpa using h2⟩;have two:∀d,d∈w->d<2*ls.length->d=da\/d=db:=fun d h1 h2=>ahR hlen (inD da wE ur) (inD db xH vf) aI (inD d h1 h2);have ends:∀d e p v:Nat,d/2=e->((p=e/\v=nx ls e)\/(p=nx ls e/\v=e))->(oT ls.length d=p/\oH ls.length d=v)\/(oT ls.length d=v/\oH ls.length d=p):=fun d e p v h1 h2=>by
  unfold oT oH;rw[h1];show((if _ then e else nx ls e)=p/\(if _ then nx ls e else e)=v)\/((if _ then e else nx ls e)=v/\(if _ then nx ls e else e)=p);rcases h2 with ⟨rfl,rfl⟩|⟨rfl,rfl⟩<;>split
  .exact .inl ⟨rfl,rfl⟩
  .exact .inr ⟨rfl,rfl⟩
  .exact .inr ⟨rfl,rfl⟩
  exact .inl ⟨rfl,rfl⟩
 have pc:∀ {x y:Nat} {l m:Let},ls[x]?=some l->ls[y]?=some m->l.aC=true->m.aG=true->x≠y:=fun h1 h2 h3 h4 e=>by subst e;rw[h1] at h2;have:=rj h2;rw[this,nz h4] at h3;cases h3
 -- a dart that leads to the crossing goes on at the other visit
 have go:∀(d d' p v p' v':Nat) (l m l' m':Let),d∈w->d<2*ls.length->d'<2*ls.length->oT ls.length d=p->oH ls.length d=v->ls[v]?=some l->ls[p]?=some m->ls[v']?=some l'->ls[p']?=some m'->l.aC=true->m.aG=true->l'.aC=true->m'.aG=true->l.id=l'.id->v≠v'->(∀y,y∈w->y<2*ls.length->y=d\/y=d')->((oT ls.length d'=p'/\oH ls.length d'=v')\/(oT ls.length d'=v'/\oH ls.length d'=p'))->aS ls d=d'/\oT ls.length d'=v'/\oH ls.length d'=p':=by
  intro d d' p v p' v' l m l' m' d1 d2 d2' hT hH hl hm vt oZ cl pm cl' Ko hid hv tw en;obtain⟨s1,s2,_⟩:=Ix g d2 (by rw[hH];exact hl) cl;rw[hH,Ky g hl vt cl cl' hid hv] at s2;rcases tw _ (Du (maps ok) hw d1) s1 with e|e
  .exfalso;rw[e,hT] at s2;exact pc vt hm cl' pm s2.symm
  rw[e] at s2;rcases en with ⟨e1,_⟩|⟨e1,e2⟩
  .exact absurd (s2.symm.trans e1) (pc vt oZ cl' Ko)
  exact⟨e,e1,e2⟩
 have na:=ends da a pa va zb ea;have nb:=ends db b pb vb zc eb;rcases na with ⟨t1,t2⟩|⟨t1,t2⟩
 .obtain⟨e1,e2,e3⟩:=go da db pa va pb vb la ma lb mb wE ur vf t1 t2 vu zN A7 zP ca qa cb qb hid hv two nb;refine⟨w,hw,sN,da,wE,ur,by rw[e1];exact xH,by rw[e1];exact vf,by rw[e1];exact two,.inl ⟨zb,by rw[e1];exact zc,t1,t2,by rw[e1];exact e2,by rw[e1];exact e3⟩⟩
 · -- the dart of the first edge leads to the pass: the other one leads to the crossing
  obtain⟨u,m,y,y1,y2,y3,_,y4⟩:=afq g hw sN wE (v:=pa) (fw:=bk da) (by rw[<- t2];exact Tq ur) zN qa;have hu:=(aW.1 y2).1;have yT:oT ls.length y=u/\y<2*ls.length:=by
   have key:∀f,oT ls.length (dr ls.length u f)=u/\dr ls.length u f<2*ls.length:=fun f=>⟨(O6 hu).1,by
    have:=r8 hu (!f);rw[<- tX] at this;have:=yD this;rwa[xh] at this⟩
   rcases y4 with ⟨_,_,e⟩|⟨_,_,e⟩<;>rw[e]<;>exact key _
  have yb:y=db:=by
   rcases two y y1 yT.2 with e|e
   .exfalso;rw[e,t1] at yT;rw[<- yT.1] at y2;rw[vu] at y2;have:=rj y2;rw[<- this,mQ ca] at y3;cases y3
   exact e
  have nb':oT ls.length db=pb/\oH ls.length db=vb:=by
   rcases nb with h|⟨h1,h2⟩
   .exact h
   exfalso;rw[yb,h1] at yT;rw[<- yT.1,A7] at y2;have:=rj y2;rw[<- this,mQ cb] at y3;cases y3
  obtain⟨e1,e2,e3⟩:=go db da pb vb pa va lb mb la ma xH vf ur nb'.1 nb'.2 A7 zP vu zN cb qb ca qa hid.symm hv.symm (fun y h1 h2=>(two y h1 h2).symm) (.inr ⟨t1,t2⟩);refine⟨w,hw,sN,db,xH,vf,by rw[e1];exact wE,by rw[e1];exact ur,by rw[e1];exact fun y h1 h2=>(two y h1 h2).symm,.inr ⟨zc,by rw[e1];exact zb,nb'.1,nb'.2,by rw[e1];exact e2,by rw[e1];exact e3⟩⟩
end
section
variable {F:Nat} {ls:List Let}
theorem agp{e:Nat}(hn:0<ls.length)(he:e<ls.length)(h:(jx ls e).2.2=true):(((jx ls e).1=e/\(jx ls e).2.1=nx ls e)\/((jx ls e).1=nx ls e/\(jx ls e).2.1=e))/\(∃l,ls[(jx ls e).2.1]?=some l/\l.aC=true)/\ ∃m,ls[(jx ls e).1]?=some m/\m.aG=true:=by
 obtain⟨l,hl⟩:=aM he;obtain⟨m,hm⟩:=aM (ls:=ls) (k:=nx ls e) (dO _ hn);have e1:pA ls e=⟨l,iJ ls e⟩:=jZ (pM hl);have e2:pA ls (nx ls e)=⟨m,iJ ls (nx ls e)⟩:=jZ (pM hm);unfold jx at h ⊢;rw[e1,e2] at h ⊢;by_cases c:(l.kind==2)=true
 .rw[aF c] at h ⊢;exact⟨.inr ⟨rfl,rfl⟩,⟨l,hl,c⟩,m,hm,h⟩
 rw[ay c] at h ⊢;simp only[cN] at h;exact⟨.inl ⟨rfl,rfl⟩,⟨m,hm,h.2⟩,l,hl,h.1⟩
theorem acd{f:Bool}{x y:aO}(h1:(fq f x).b=(fq f y).b)(h2:(hU f x).b=(hU f y).b):x.i.b=y.i.b/\x.o.b=y.o.b:=by
 rw[JM,JM] at h1;rw[Kl,Kl] at h2;cases f
 .exact⟨h2,h1⟩
 exact⟨h1,h2⟩
theorem aca{f:Bool}{x:aO}(h:(fq f x).b=(hU f x).b):x.i.b=x.o.b:=by
 rw[JM,Kl] at h;cases f
 .exact h.symm
 exact h
theorem acb{f:Bool}{x:aO}(h:x.i.b=x.o.b):(fq f x).b=(hU f x).b:=by
 rw[JM,Kl];cases f
 .exact h.symm
 exact h
theorem ZF{l:Let}{r:Int}(hp:l.aG=true)(h:dy F l=false):dy F {l with aE:=r}=false:=by have iX:({l with aE:=r}:Let).aG=true:=hp;rw[sY hp] at h;rw[sY iX];exact h
theorem ZX(g:cH F ls){w:List Nat}(hw:w∈gI (aS ls) (nD ls))(sN:(nc F ls w).places.length=1){d d':Nat}(hd:d∈w)(ld:d<2*ls.length)(Ge:d'∈w)(GM:d'<2*ls.length)(Gt:aS ls d=d')(two:∀y,y∈w->y<2*ls.length->y=d\/y=d')
  {lp lv lw lq:Let} (vD:ls[oT ls.length d]?=some lp) (nN:ls[oH ls.length d]?=some lv) (tN:ls[oT ls.length d']?=some lw) (wQ:ls[oH ls.length d']?=some lq) (pp:lp.aG=true) (cv:lv.aC=true) (cw:lw.aC=true) (pq:lq.aG=true)
  {P:List Pc} (Ct:P.length=ls.length) (sF:∀q:Let->Bool,(∀(l:Let) (r:Int),q {l with aE:=r}=q l)->aw q (P.map Pc.l)=aw q ls)
  (hP:oT ls.length d≠oH ls.length d'->P[oT ls.length d]?=(pieces ls)[oH ls.length d]? /\P[oH ls.length d]?=some ⟨{lp with aE:=lq.aE},iJ ls (oT ls.length d)⟩/\P[oT ls.length d']?=some ⟨{lq with aE:=lp.aE},iJ ls (oH ls.length d')⟩/\P[oH ls.length d']?=(pieces ls)[oT ls.length d']? /\
   ∀i,i≠oT ls.length d->i≠oH ls.length d->i≠oT ls.length d'->i≠oH ls.length d'->P[i]?=(pieces ls)[i]?):Cert F P:=by
 have ok:=g.ok;have cz:=g.cz;have hn:0<ls.length:=jf.2 g.ne;have t1:=NT g ld;have t2:=NT g GM;have h1:=Kh g ld;have h2:=Kh g GM
 -- the neighbours on the Lq
 obtain⟨u,m,y,y1,y2,y3,nM,y4⟩:=afq g hw sN Ge (v:=oH ls.length d') (fw:=bk d') (Tq GM) wQ pq;have hu:=(aW.1 y2).1;have yT:∀f,oT ls.length (dr ls.length u f)=u/\bk (dr ls.length u f)=f/\dr ls.length u f<2*ls.length:=fun f=>⟨(O6 hu).1,(O6 hu).2,by
  have:=r8 hu (!f);rw[<- tX] at this;have:=yD this;rwa[xh] at this⟩
 have yd:y=d:=by
  have hyt:oT ls.length y=u/\y<2*ls.length:=by rcases y4 with ⟨_,_,e⟩|⟨_,_,e⟩<;>rw[e]<;>exact⟨(yT _).1,(yT _).2.2⟩
  rcases two y y1 hyt.2 with e|e
  .exact e
  exfalso;rw[e] at hyt;rw[<- hyt.1,tN] at y2;have:=rj y2;rw[<- this,mQ cw] at y3;cases y3
 subst yd;have hu':oT ls.length y=u:=by rcases y4 with ⟨_,_,e⟩|⟨_,_,e⟩<;>rw[e]<;>exact(yT _).1
 subst hu';rw[vD] at y2;cases y2
 -- cR: gb the Lq
 obtain⟨cR,hR⟩:∃cR:Bool,(cR=true/\dn ls (oH ls.length d')=bk d'/\lp.aE=lq.aE+1/\bk y= !dn ls (oT ls.length y))\/(cR=false/\dn ls (oH ls.length d')=(!bk d')/\lq.aE=lp.aE+1/\bk y=dn ls (oT ls.length y)):=by
  rcases y4 with ⟨e1,e2,e3⟩|⟨e1,e2,e3⟩
  .exact⟨true,.inl ⟨rfl,e1,e2,(congrArg bk e3).trans (yT _).2.1⟩⟩
  exact⟨false,.inr ⟨rfl,e1,e2,(congrArg bk e3).trans (yT _).2.1⟩⟩
 clear y4 yT y1 y3 hu;have k9:lp.aE≠lq.aE:=by rcases hR with ⟨_,_,h,_⟩|⟨_,_,h,_⟩<;>omega
 have npq:oT ls.length y≠oH ls.length d':=fun e=>by rw[e,wQ] at vD;have:=rj vD;rw[this] at k9;exact k9 rfl
 obtain⟨pT,pH,pT',pH',pU⟩:=hP npq;clear hP;obtain⟨_,o1,q1,k1⟩:=Ix g ld nN cv;rw[Gt] at o1 q1 k1;rw[Jg ld,KI GM] at k1;obtain⟨xa,xb,xc,xd⟩:=k1;simp only[if_true] at xa xb xc xd;have pc:∀ {x y:Nat} {l m:Let},ls[x]?=some l->ls[y]?=some m->l.aC=true->m.aG=true->x≠y:=fun h1 h2 h3 h4 e=>by subst e;rw[h1] at h2;have:=rj h2;rw[this,nz h4] at h3;cases h3
 have nvw:oH ls.length y≠oT ls.length d':=by intro e;obtain⟨_,m,hm,_,_,mo,_⟩:=qW ok.cr nN cv;rw[<- o1,<- e,nN] at hm;have:=rj hm;rw[<- this] at mo;revert mo;cases lv.over<;>simp
 have nvp:=pc nN vD cv pp;have nvq:=pc nN wQ cv pq;have nwp:=pc tN vD cw pp;have nwq:=pc tN wQ cw pq
 -- ends of the edges
 have ee:∀d:Nat,(oT ls.length d=d/2/\oH ls.length d=nx ls (d/2))\/(oT ls.length d=nx ls (d/2)/\oH ls.length d=d/2):=fun d=>by
  unfold oT oH nx;split
  .exact .inl ⟨rfl,rfl⟩
  exact .inr ⟨rfl,rfl⟩
 have apart:y/2≠d'/2/\y/2≠nx ls (d'/2)/\nx ls (y/2)≠d'/2/\nx ls (y/2)≠nx ls (d'/2)/\y/2≠nx ls (y/2)/\d'/2≠nx ls (d'/2):=by
  rcases ee y with ⟨a1,a2⟩|⟨a1,a2⟩<;>rcases ee d' with ⟨b1,b2⟩|⟨b1,b2⟩
  .rw[<- a2,<- a1,<- b2,<- b1];exact⟨nwp.symm,npq,nvw,nvq,nvp.symm,nwq⟩
  .rw[<- a2,<- a1,<- b1,<- b2];exact⟨npq,nwp.symm,nvq,nvw,nvp.symm,nwq.symm⟩
  .rw[<- a1,<- a2,<- b2,<- b1];exact⟨nvw,nvq,nwp.symm,npq,nvp,nwq⟩
  rw[<- a1,<- a2,<- b1,<- b2];exact⟨nvq,nvw,npq,nwp.symm,nvp,nwq.symm⟩
 let tau:=(oK ls y).l
 let tI:=fq (bk y) (dL ls (oT ls.length y))
 let hO:=hU (bk d') (dL ls (oH ls.length d'))
 let oth:=(hU (bk y) (dL ls (oH ls.length y))).r
 let K1:dX:=⟨hO.r,tau,tI.b⟩
 let K2:dX:=⟨tI.r,tau,hO.b⟩
 let sd:Nat->dX:=fun j=>if j=y/2 then uo (bk y) K1 else if j=d'/2 then uo (bk d') K2 else qx ls j
 have sd1:sd (y/2)=uo (bk y) K1:=aF rfl;have sd2:sd (d'/2)=uo (bk d') K2:=by show(if _ then _ else _)=_;rw[ay apart.1.symm,aF rfl]
 have sdn:∀j,j≠y/2->j≠d'/2->sd j=qx ls j:=fun j h1 h2=>by show(if _ then _ else _)=_;rw[ay h1,ay h2]
 have prev:∀i,i<ls.length->i≠nx ls (y/2)->i≠nx ls (d'/2)->sd ((i+ls.length-1)%ls.length)=qx ls ((i+ls.length-1)%ls.length):=fun i hi n1 n2=>sdn _ (fun h=>n1 (Ca hi h)) (fun h=>n2 (Ca hi h))
 obtain⟨z1,z2,z3,z4,z5,z6⟩:=apart;have G1:=L3 (P:=P) Ct ld sd1 (prev _ aa z5 z2) (sdn _ z5.symm z3);have G2:=L3 (P:=P) Ct GM sd2 (prev _ aa z3.symm z6) (sdn _ z2.symm z6.symm);have un:∀i,i<ls.length->i≠oT ls.length y->i≠oH ls.length y->i≠oT ls.length d'->i≠oH ls.length d'->cn P sd i=dL ls i:=fun i hi n1 n2 n3 n4=>by
  have a1:i≠y/2/\i≠nx ls (y/2):=by
   rcases ee y with ⟨a1,a2⟩|⟨a1,a2⟩
   .rw[<- a2,<- a1];exact⟨n1,n2⟩
   rw[<- a1,<- a2];exact⟨n2,n1⟩
  have a2:i≠d'/2/\i≠nx ls (d'/2):=by
   rcases ee d' with ⟨a1,a2⟩|⟨a1,a2⟩
   .rw[<- a2,<- a1];exact⟨n3,n4⟩
   rw[<- a1,<- a2];exact⟨n4,n3⟩
  exact aaL Ct hi (pU i n1 n2 n3 n4) (prev i hi a1.2 a2.2) (sdn i a1.1 a2.1)
 have six:∀i,i<ls.length->(i=oT ls.length y\/i=oH ls.length y\/i=oT ls.length d'\/i=oH ls.length d')\/(cn P sd i=dL ls i/\i≠oT ls.length y/\i≠oH ls.length y/\i≠oT ls.length d'/\i≠oH ls.length d'):=fun i hi=>by
  rcases Classical.em (i=oT ls.length y\/i=oH ls.length y\/i=oT ls.length d'\/i=oH ls.length d') with h|h
  .exact .inl h
  simp only[Au] at h;exact .inr ⟨un i hi h.1 h.2.1 h.2.2.1 h.2.2.2,h⟩
 have gp:∀ {i:Nat} {p:Pc},P[i]?=some p->(cn P sd i).p=p:=fun {i p} h=>by show P.getD i _=_;rw[di,h];rfl
 have kT:(cn P sd (oT ls.length y)).k=lv:=congrArg Pc.l (gp (pT.trans (pM nN)));have kH:(cn P sd (oH ls.length y)).k={lp with aE:=lq.aE}:=congrArg Pc.l (gp pH);have wY:(cn P sd (oT ls.length d')).k={lq with aE:=lp.aE}:=congrArg Pc.l (gp pT');have EK:(cn P sd (oH ls.length d')).k=lw:=congrArg Pc.l (gp (pH'.trans (pM tN)));have dH:(cn P sd (oH ls.length y)).p.d=(dL ls (oT ls.length y)).p.d:=by rw[gp pH];rfl
 have Ck:(cn P sd (oT ls.length d')).p.d=(dL ls (oH ls.length d')).p.d:=by rw[gp pT'];rfl
 have okv:=(DS g h1).cb (by rw[dS nN];exact cv);have okw:=(DS g t2).cb (by rw[dS tN];exact cw);have bv:=acb (f:=bk y) okv;have bw:=acb (f:=bk d') okw;rw[Jg ld] at bv;rw[KI GM] at bw;have bp:=KI (ls:=ls) ld;have bq:=Jg (ls:=ls) GM;have gdp:=ok.ax.eF lp (aU vD) pp;have gdq:=ok.ax.eF lq (aU wQ) pq;have plp:=Pd g vD pp;have plq:=Pd g wQ pq;obtain⟨p1,p2,p3,p4⟩:=plp;obtain⟨p5,p6,p7,p8⟩:=plq;rw[dS vD] at p1 p2 p3 p4;rw[dS wQ] at p5 p6 p7 p8;have kN:=Pb g vD pp;have xW:=Pb g wQ pq;rw[BN (bk y)] at p1 p2;rw[Bm (bk y)] at p3 p4;rw[BN (bk d')] at p5 p6;rw[Bm (bk d')] at p7 p8;rw[kN,bp] at p1 p2 p3 p4;rw[xW,bq] at p5 p6 p7 p8;have cgq:cg ls lq.gate.toNat=cg ls lp.gate.toNat:=by rw[nM]
 obtain⟨gp0,F5,gp2,gp3⟩:=gdp;obtain⟨gq0,gq1,gq2,gq3⟩:=gdq;rw[cgq] at gq3;rw[nM] at p5 p6 p7 p8;obtain⟨r,T',B',jE,vA,gQ,hT,pl1,pl2,uG⟩:∃(r:Nat) (T' B':Nat->Nat->Nat),1<=r/\r<cg ls lp.gate.toNat/\((lp.aE=(r:Int)/\lq.aE=(r:Int)+1)\/(lq.aE=(r:Int)/\lp.aE=(r:Int)+1))/\(∀k j,¬(k=lp.gate.toNat/\j=r)->T' k j=TF ls k j/\B' k j=BF ls k j)/\
   Ha T' B' (cn P sd (oH ls.length y))/\Ha T' B' (cn P sd (oT ls.length d'))/\tI.l=hO.l:=by
  rcases hR with ⟨_,eS,aon,dQ⟩|⟨_,eS,aon,dQ⟩
  .have f1:(bk y==dn ls (oT ls.length y))=false:=by rw[dQ];cases dn ls (oT ls.length y)<;>rfl
   have f2:(bk d'==dn ls (oH ls.length d'))=true:=by rw[eS];cases bk d'<;>rfl
   rw[f1] at p1 p2 p3 p4;rw[f2] at p5 p6 p7 p8;simp only[dx,if_false,if_true] at p1 p2 p3 p4 p5 p6 p7 p8;have er:lp.aE.toNat=lq.aE.toNat+1:=aa;rw[er] at p1 p2 p3 p4;rw[YF] at p1 p3;refine⟨lq.aE.toNat,fun k j=>if k=lp.gate.toNat/\j=lq.aE.toNat then oth else TF ls k j,fun k j=>if k=lp.gate.toNat/\j=lq.aE.toNat then tau else BF ls k j,aa,aa,.inr ⟨aa,aa⟩,fun k j h=>⟨ay h,ay h⟩,?_,?_,?_⟩
   .constructor
    .rw[kH,BN (bk y),dH,kN,f1];show(iB (hU (bk y) (cn P sd (oH ls.length y)))).r=if lp.gate.toNat=lp.gate.toNat/\lq.aE.toNat-1=lq.aE.toNat then oth else TF ls lp.gate.toNat (lq.aE.toNat-1);rw[ay aa,G1.2.2.2];exact xd.symm.trans p5
    .rw[kH,BN (bk y),dH,kN,f1];show(iB (hU (bk y) (cn P sd (oH ls.length y)))).l=if lp.gate.toNat=lp.gate.toNat/\lq.aE.toNat=lq.aE.toNat then oth else TF ls lp.gate.toNat lq.aE.toNat;rw[aF ⟨rfl,rfl⟩,G1.2.2.2];rfl
    .rw[kH,Bm (bk y),dH,kN,f1];show(iB (fq (bk y) (cn P sd (oH ls.length y)))).r=if lp.gate.toNat=lp.gate.toNat/\lq.aE.toNat-1=lq.aE.toNat then tau else BF ls lp.gate.toNat (lq.aE.toNat-1);rw[ay aa,G1.2.2.1];exact p7
    rw[kH,Bm (bk y),dH,kN,f1];show(iB (fq (bk y) (cn P sd (oH ls.length y)))).l=if lp.gate.toNat=lp.gate.toNat/\lq.aE.toNat=lq.aE.toNat then tau else BF ls lp.gate.toNat lq.aE.toNat;rw[aF ⟨rfl,rfl⟩,G1.2.2.1];rfl
   .constructor
    .rw[wY,BN (bk d'),Ck,xW,f2];show(fq (bk d') (cn P sd (oT ls.length d'))).r=if lq.gate.toNat=lp.gate.toNat/\lp.aE.toNat-1=lq.aE.toNat then oth else TF ls lq.gate.toNat (lp.aE.toNat-1);rw[aF ⟨by rw[nM],aa⟩,G2.1];exact xb.symm
    .rw[wY,BN (bk d'),Ck,xW,f2];show(fq (bk d') (cn P sd (oT ls.length d'))).l=if lq.gate.toNat=lp.gate.toNat/\lp.aE.toNat=lq.aE.toNat then oth else TF ls lq.gate.toNat lp.aE.toNat;rw[ay aa,G2.1,nM,er];exact xc.trans p2
    .rw[wY,Bm (bk d'),Ck,xW,f2];show(hU (bk d') (cn P sd (oT ls.length d'))).r=if lq.gate.toNat=lp.gate.toNat/\lp.aE.toNat-1=lq.aE.toNat then tau else BF ls lq.gate.toNat (lp.aE.toNat-1);rw[aF ⟨by rw[nM],aa⟩,G2.2.1]
    rw[wY,Bm (bk d'),Ck,xW,f2];show(hU (bk d') (cn P sd (oT ls.length d'))).l=if lq.gate.toNat=lp.gate.toNat/\lp.aE.toNat=lq.aE.toNat then tau else BF ls lq.gate.toNat lp.aE.toNat;rw[ay aa,G2.2.1,nM,er];exact p4
   exact p3.trans p8.symm
  have f1:(bk y==dn ls (oT ls.length y))=true:=by rw[dQ];cases dn ls (oT ls.length y)<;>rfl
  have f2:(bk d'==dn ls (oH ls.length d'))=false:=by rw[eS];cases bk d'<;>rfl
  rw[f1] at p1 p2 p3 p4;rw[f2] at p5 p6 p7 p8;simp only[dx,if_false,if_true] at p1 p2 p3 p4 p5 p6 p7 p8;have er:lq.aE.toNat=lp.aE.toNat+1:=aa;rw[er] at p5 p6 p7 p8;rw[YF] at p5 p7;refine⟨lp.aE.toNat,fun k j=>if k=lp.gate.toNat/\j=lp.aE.toNat then tau else TF ls k j,fun k j=>if k=lp.gate.toNat/\j=lp.aE.toNat then oth else BF ls k j,aa,aa,.inl ⟨aa,aa⟩,fun k j h=>⟨ay h,ay h⟩,?_,?_,?_⟩
  .constructor
   .rw[kH,BN (bk y),dH,kN,f1];show(fq (bk y) (cn P sd (oH ls.length y))).r=if lp.gate.toNat=lp.gate.toNat/\lq.aE.toNat-1=lp.aE.toNat then tau else TF ls lp.gate.toNat (lq.aE.toNat-1);rw[aF ⟨rfl,aa⟩,G1.2.2.1]
   .rw[kH,BN (bk y),dH,kN,f1];show(fq (bk y) (cn P sd (oH ls.length y))).l=if lp.gate.toNat=lp.gate.toNat/\lq.aE.toNat=lp.aE.toNat then tau else TF ls lp.gate.toNat lq.aE.toNat;rw[ay aa,G1.2.2.1,er];exact p6
   .rw[kH,Bm (bk y),dH,kN,f1];show(hU (bk y) (cn P sd (oH ls.length y))).r=if lp.gate.toNat=lp.gate.toNat/\lq.aE.toNat-1=lp.aE.toNat then oth else BF ls lp.gate.toNat (lq.aE.toNat-1);rw[aF ⟨rfl,aa⟩,G1.2.2.2]
   rw[kH,Bm (bk y),dH,kN,f1];show(hU (bk y) (cn P sd (oH ls.length y))).l=if lp.gate.toNat=lp.gate.toNat/\lq.aE.toNat=lp.aE.toNat then oth else BF ls lp.gate.toNat lq.aE.toNat;rw[ay aa,G1.2.2.2,er];exact xd.symm.trans p8
  .constructor
   .rw[wY,BN (bk d'),Ck,xW,f2];show(iB (hU (bk d') (cn P sd (oT ls.length d')))).r=if lq.gate.toNat=lp.gate.toNat/\lp.aE.toNat-1=lp.aE.toNat then tau else TF ls lq.gate.toNat (lp.aE.toNat-1);rw[ay aa,G2.2.1,nM];exact p1
   .rw[wY,BN (bk d'),Ck,xW,f2];show(iB (hU (bk d') (cn P sd (oT ls.length d')))).l=if lq.gate.toNat=lp.gate.toNat/\lp.aE.toNat=lp.aE.toNat then tau else TF ls lq.gate.toNat lp.aE.toNat;rw[aF ⟨by rw[nM],rfl⟩,G2.2.1];rfl
   .rw[wY,Bm (bk d'),Ck,xW,f2];show(iB (fq (bk d') (cn P sd (oT ls.length d')))).r=if lq.gate.toNat=lp.gate.toNat/\lp.aE.toNat-1=lp.aE.toNat then oth else BF ls lq.gate.toNat (lp.aE.toNat-1);rw[ay aa,G2.1,nM];exact xc.trans p3
   rw[wY,Bm (bk d'),Ck,xW,f2];show(iB (fq (bk d') (cn P sd (oT ls.length d')))).l=if lq.gate.toNat=lp.gate.toNat/\lp.aE.toNat=lp.aE.toNat then oth else BF ls lq.gate.toNat lp.aE.toNat;rw[aF ⟨by rw[nM],rfl⟩,G2.1];exact xb.symm
  exact p2.trans p5.symm
 clear p1 p2 p3 p4 p5 p6 p7 p8 hR;have mgp:∀i,i<ls.length->(cn P sd i).k.aG=true->(i=oH ls.length y\/i=oT ls.length d')\/(cn P sd i=dL ls i/\i≠oT ls.length y/\i≠oH ls.length y/\i≠oT ls.length d'/\i≠oH ls.length d'):=fun i hi hp=>by
  rcases six i hi with (rfl|rfl|rfl|rfl)|h
  .rw[kT,mQ cv] at hp;cases hp
  .exact .inl (.inl rfl)
  .exact .inl (.inr rfl)
  .rw[EK,mQ cw] at hp;cases hp
  exact .inr h
 have mgc:∀i,i<ls.length->(cn P sd i).k.aC=true->(i=oT ls.length y\/i=oH ls.length d')\/(cn P sd i=dL ls i/\i≠oT ls.length y/\i≠oH ls.length y/\i≠oT ls.length d'/\i≠oH ls.length d'):=fun i hi hc=>by
  have n1:∀(l:Let) (r:Int),l.aG=true->({l with aE:=r}:Let).aC=false:=fun l r h=>nz (l:={l with aE:=r}) h;rcases six i hi with (rfl|rfl|rfl|rfl)|h
  .exact .inl (.inl rfl)
  .rw[kH,n1 _ _ pp] at hc;cases hc
  .rw[wY,n1 _ _ pq] at hc;cases hc
  .exact .inl (.inr rfl)
  exact .inr h
 -- the place of a pass is that of an old one
 have old:∀i,i<ls.length->(cn P sd i).k.aG=true->∃j l,ls[j]?=some l/\l.aG=true/\(cn P sd i).k.gate=l.gate/\(cn P sd i).k.aE=l.aE/\((i=oH ls.length y/\j=oH ls.length d')\/(i=oT ls.length d'/\j=oT ls.length y)\/(i=j/\i≠oT ls.length y/\i≠oH ls.length d')):=fun i hi hp=>by
  rcases mgp i hi hp with (rfl|rfl)|⟨e,n1,n2,n3,n4⟩
  .exact⟨_,lq,wQ,pq,by rw[kH];exact nM.symm,by rw[kH],.inl ⟨rfl,rfl⟩⟩
  .exact⟨_,lp,vD,pp,by rw[wY];exact nM,by rw[wY],.inr (.inl ⟨rfl,rfl⟩)⟩
  obtain⟨l,hl⟩:=aM hi;rw[e] at hp;rw[dS hl] at hp;exact⟨i,l,hl,hp,by rw[e,dS hl],by rw[e,dS hl],.inr (.inr ⟨rfl,n1,n4⟩)⟩
 have C1:Xc (cn P sd (oT ls.length y)) (cn P sd (oH ls.length d')):=by
  obtain⟨b1,m,hm,mc,mi,mo,ms⟩:=qW ok.cr nN cv;rw[<- o1,tN] at hm;have em:=rj hm;subst em;refine⟨by rw[kT,EK,mo];simp,by rw[kT,EK,ms],?_⟩;rw[kT,q1,<- Sv,G1.1,G1.2.1,G2.2.2.1,G2.2.2.2];constructor<;>simp only[if_true]
  .exact uG
  .rfl
  .rfl
  rfl
 have hid:lv.id=lw.id:=by obtain⟨b1,m,hm,mc,mi,mo,ms⟩:=qW ok.cr nN cv;rw[<- o1,tN] at hm;rw[rj hm,mi]
 have ho2:fG ls (oT ls.length d')=oH ls.length y:=by rw[o1];exact(qW ok.cr nN cv).1
 have labs:∀(f:Bool) i,i<ls.length->∀t,t=(fq f (cn P sd i)).l\/t=(fq f (cn P sd i)).r->∃j',j'<ls.length/\(t=(sd j').l\/t=(sd j').r):=fun f i hi t ht=>by
  cases f
  .refine⟨i,hi,?_⟩;rcases ht with ht|ht
   .exact .inr ht
   exact .inl ht
  refine⟨(i+P.length-1)%P.length,?_,ht⟩;rw[Ct];exact dO _ hn
 have labo:∀(f:Bool) i,i<ls.length->∀t,t=(hU f (cn P sd i)).l\/t=(hU f (cn P sd i)).r->∃j',j'<ls.length/\(t=(sd j').l\/t=(sd j').r):=fun f i hi t ht=>by
  cases f
  .refine⟨(i+P.length-1)%P.length,?_,?_⟩
   .rw[Ct];exact dO _ hn
   rcases ht with ht|ht
   .exact .inr ht
   exact .inl ht
  exact⟨i,hi,ht⟩
 have czgt:=cz.gt;have czgz:=cz.gz;rw[lB] at czgz;refine ZY g (tau:=tau) (sd:=sd) (T':=T') (B':=B') Ct (sF _ fun _ _=>rfl) (sF _ fun _ _=>rfl) (fun k=>sF _ fun _ _=>rfl) (fun i hi=>?_) (fun i j hi hj fm ci cj e=>?_) (fun i j hi hj fm pi pj e1 e2=>?_) (fun i hi ci=>?_) (fun i hi pi=>?_) (fun i hi pi=>?_) (fun k hk=>?_) ?_ (fun j hj t ht=>?_)
 .rcases six i hi with (rfl|rfl|rfl|rfl)|⟨e,_⟩
  .exact⟨by rw[kT];exact g.bad lv (aU nN),fun _=>aca (f:=bk y) (by rw[G1.1,G1.2.1]),fun hp=>by rw[kT,mQ cv] at hp;cases hp⟩
  .have fl:=acd (f:=bk y) (x:=cn P sd (oH ls.length y)) (y:=dL ls (oT ls.length y)) (by rw[G1.2.2.1]) (by rw[G1.2.2.2,bp];exact bv.symm);refine⟨by rw[kH];exact ZF pp (g.bad lp (aU vD)),fun hc=>?_,fun _=>?_⟩
   .rw[kH] at hc;have:=nz (l:={lp with aE:=lq.aE}) pp;rw[this] at hc;cases hc
   rw[fl.1,fl.2,dH];exact(DS g t1).pb (by rw[dS vD];exact pp)
  .have fl:=acd (f:=bk d') (x:=cn P sd (oT ls.length d')) (y:=dL ls (oH ls.length d')) (by rw[G2.1,bq];exact bw) (by rw[G2.2.1]);refine⟨by rw[wY];exact ZF pq (g.bad lq (aU wQ)),fun hc=>?_,fun _=>?_⟩
   .rw[wY] at hc;have:=nz (l:={lq with aE:=lp.aE}) pq;rw[this] at hc;cases hc
   rw[fl.1,fl.2,Ck];exact(DS g h2).pb (by rw[dS wQ];exact pq)
  .exact⟨by rw[EK];exact g.bad lw (aU tN),fun _=>aca (f:=bk d') (by rw[G2.2.2.1,G2.2.2.2]),fun hp=>by rw[EK,mQ cw] at hp;cases hp⟩
  rw[e];exact DS g hi
 .rcases mgc i hi ci with (rfl|rfl)|⟨ei,n1,n2,n3,n4⟩<;>rcases mgc j hj cj with (rfl|rfl)|⟨ej,m1,m2,m3,m4⟩
  .exact absurd rfl fm
  .exact C1
  .exfalso;obtain⟨l,hl⟩:=aM hj;rw[kT,ej,dS hl] at e;rw[ej,dS hl] at cj;have:=Ky g nN hl cv cj e m2.symm;rw[<- o1] at this;exact m3 this.symm
  .exact C1.symm
  .exact absurd rfl fm
  .exfalso;obtain⟨l,hl⟩:=aM hj;rw[EK,ej,dS hl] at e;rw[ej,dS hl] at cj;have:=Ky g tN hl cw cj e m3.symm;rw[ho2] at this;exact m2 this.symm
  .exfalso;obtain⟨l,hl⟩:=aM hi;rw[kT,ei,dS hl] at e;rw[ei,dS hl] at ci;have:=Ky g nN hl cv ci e.symm n2.symm;rw[<- o1] at this;exact n3 this.symm
  .exfalso;obtain⟨l,hl⟩:=aM hi;rw[EK,ei,dS hl] at e;rw[ei,dS hl] at ci;have:=Ky g tN hl cw ci e.symm n3.symm;rw[ho2] at this;exact n2 this.symm
  rw[ei] at ci e ⊢;rw[ej] at cj e ⊢;exact L2 g hi hj fm ci cj e
 .obtain⟨a,l,hl,_,g1',rT,c1⟩:=old i hi pi;obtain⟨b,m,hm,_,g2',tc,c2⟩:=old j hj pj;rename_i Bu Ko;have eH:a≠b:=by
   intro e;rcases c1 with ⟨i1,j1⟩|⟨i1,j1⟩|⟨i1,i2,i3⟩<;>rcases c2 with ⟨k1,k2⟩|⟨k1,k2⟩|⟨k1,k2,k3⟩
   .exact fm (i1.trans k1.symm)
   .exact npq (by rw[<- k2,<- e,j1])
   .exact k3 (by rw[k1,<- e,j1])
   .exact npq (by rw[<- j1,e,k2])
   .exact fm (i1.trans k1.symm)
   .exact k2 (by rw[k1,<- e,j1])
   .exact i3 (by rw[i1,e,k2])
   .exact i2 (by rw[i1,e,k2])
   exact fm (by rw[i1,k1,e])
  have gl:=ok.ax.eF l (aU hl) Bu;have gm:=ok.ax.eF m (aU hm) Ko;exact eH (ok.ax.inj a b l m hl hm Bu Ko ((Hc gl gm).2 ⟨by rw[<- g1',<- g2',e1],by rw[<- rT,<- tc,e2]⟩))
 .rcases mgc i hi ci with (rfl|rfl)|⟨ei,_⟩
  .rw[kT];exact g.ids.1 lv (aU nN) cv
  .rw[EK];exact g.ids.1 lw (aU tN) cw
  obtain⟨l,hl⟩:=aM hi;rw[ei,dS hl] at ci ⊢;exact g.ids.1 l (aU hl) ci
 .obtain⟨a,l,hl,Bu,g1',rT,_⟩:=old i hi pi;rw[g1',rT];obtain⟨_,_,b1,b2⟩:=ok.ax.eF l (aU hl) Bu;exact⟨b1,b2⟩
 .rcases mgp i hi pi with (rfl|rfl)|⟨ei,n1,n2,n3,n4⟩
  .exact pl1
  .exact pl2
  obtain⟨l,hl⟩:=aM hi;rw[ei] at pi ⊢;rw[dS hl] at pi;obtain⟨a1,a2,a3,a4⟩:=Pd g hl pi;rw[dS hl] at a1 a2 a3 a4;obtain⟨b0,_,b1,b2⟩:=ok.ax.eF l (aU hl) pi;have far:l.gate.toNat=lp.gate.toNat->l.aE.toNat≠r/\l.aE.toNat-1≠r:=fun iG=>by have gg:l.gate=lp.gate:=aa;have d1:l.aE≠lp.aE:=fun e=>n1 (ok.ax.inj i _ l lp hl vD pi pp ((Hc (ok.ax.eF l (aU hl) pi) (ok.ax.eF lp (aU vD) pp)).2 ⟨gg,e⟩));have d2:l.aE≠lq.aE:=fun e=>n4 (ok.ax.inj i _ l lq hl wQ pi pq ((Hc (ok.ax.eF l (aU hl) pi) (ok.ax.eF lq (aU wQ) pq)).2 ⟨by rw[gg,nM],e⟩));rcases gQ with ⟨s1,s2⟩|⟨s1,s2⟩<;>omega
  have v1:=hT l.gate.toNat (l.aE.toNat-1) (fun⟨h1,h2⟩=>(far h1).2 h2);have v2:=hT l.gate.toNat l.aE.toNat (fun⟨h1,h2⟩=>(far h1).1 h2);constructor
  .rw[dS hl,v1.1];exact a1
  .rw[dS hl,v2.1];exact a2
  .rw[dS hl,v1.2];exact a3
  rw[dS hl,v2.2];exact a4
 .have:=czgt k hk;rw[lB] at this;have v1:=hT k (cg ls k) (fun⟨h1,h2⟩=>by rw[h1] at h2;omega);have v2:=hT (k+1) 0 (fun⟨_,h2⟩=>aa);rw[v1.1,v1.2,v2.1,v2.2];exact this
 .have v1:=hT F (cg ls F) (fun⟨h1,h2⟩=>by rw[h1] at h2;omega);have v2:=hT 0 0 (fun⟨_,h2⟩=>aa);rw[v1.1,v1.2,v2.1,v2.2];exact czgz
 have viaK:∀d,j=d/2->t=(oK ls d).l\/t=(oK ls d).r:=fun d hd=>by
  rw[hd] at ht;unfold oK;split
  .exact ht
  exact ht.symm
 by_cases n1:j=y/2
 .rcases viaK y n1 with h|h
  .exact .inl h
  exact .inr (labs (bk d') _ t2 t (.inl (by rw[G2.1,h];exact xc.symm)))
 by_cases n2:j=d'/2
 .rcases viaK d' n2 with h|h
  .exact .inl (h.trans xa.symm)
  exact .inr (labo (bk y) _ h1 t (.inl (by rw[G1.2.2.2,h];exact xd)))
 exact .inr ⟨j,hj,by rw[sdn j n1 n2];exact ht⟩
theorem akn(g:cH F ls){a b:Nat}(ha:a<ls.length)(hb:b<ls.length)(eH:a≠b){L:List Pc}(h:u9 F ls a b=some L):Cert F L:=by
 unfold u9 at h;split at h
 case isFalse=>cases h
 rename_i hc;simp only[cN,mv,lE,dI] at hc;obtain⟨h1,h2,h3,h4,h5⟩:=hc;cases h;have hn:0<ls.length:=jf.2 g.ne;have bU:=gG ls;obtain⟨ea,⟨la,vu,ca⟩,ma,zN,qa⟩:=agp hn ha h1;obtain⟨eb,⟨lb,A7,cb⟩,mb,zP,qb⟩:=agp hn hb h2;generalize (jx ls a).1=pa at*;generalize (jx ls a).2.1=va at*;generalize (jx ls b).1=pb at*;generalize (jx ls b).2.1=vb at*;have eva:pA ls va=⟨la,iJ ls va⟩:=jZ (pM vu);have evb:pA ls vb=⟨lb,iJ ls vb⟩:=jZ (pM A7);have epa:pA ls pa=⟨ma,iJ ls pa⟩:=jZ (pM zN);have epb:pA ls pb=⟨mb,iJ ls pb⟩:=jZ (pM zP);rw[eva,evb] at h4;rw[epa,epb]
 obtain⟨w,hw,sN,d,d1,d2,d3,d4,two,cs⟩:=atY g ha hb eH ea eb vu A7 zN zP ca cb qa qb h4 h3 h5;have pc:∀ {x y:Nat} {l m:Let},ls[x]?=some l->ls[y]?=some m->l.aC=true->m.aG=true->x≠y:=fun h1 h2 h3 h4 e=>by subst e;rw[h1] at h2;have:=rj h2;rw[this,nz h4] at h3;cases h3
 have nva:va≠pa:=pc vu zN ca qa;have nvb:vb≠pb:=pc A7 zP cb qb;have nvab:va≠pb:=pc vu zP ca qb;have nvba:vb≠pa:=pc A7 zN cb qa
 let PP:=jM (jM (pieces ls) pa mb.aE) pb ma.aE
 have Wo:=pM zN;have aol:pa≠pb->(jM (pieces ls) pa mb.aE)[pb]?=some ⟨mb,iJ ls pb⟩:=fun aI=>by rw[XP Wo,ay aI.symm];exact pM zP
 have aom:∃p,(jM (pieces ls) pa mb.aE)[pb]?=some p:=aM (by rw[BC,bU];exact(aW.1 zP).1);have PI:PP.length=ls.length:=by show(jM (jM _ _ _) _ _).length=_;rw[BC,BC,bU]
 have e1:(ie ls PP a).length=ls.length:=by rw[Hm,PI]
 have Ct:(iO ls PP [a,b]).length=ls.length:=by rw[BH,PI]
 have sF:∀q:Let->Bool,(∀(l:Let) (r:Int),q {l with aE:=r}=q l)->aw q ((iO ls PP [a,b]).map Pc.l)=aw q ls:=fun q hq=>by rw[<- N4 (ls:=ls) q];show List.countP _ _=List.countP _ _;rw[Ao,Ao];show(ie ls (ie ls PP a) b).countP _=_;obtain⟨p,hp⟩:=aom;rw[KH e1 hb (Xj g hb),KH PI ha (Xj g ha),XO hp (fun p=>hq _ _),XO Wo (fun p=>hq _ _)]
 have PPg:pa≠pb->PP[pa]?=some ⟨{ma with aE:=mb.aE},iJ ls pa⟩/\PP[pb]?=some ⟨{mb with aE:=ma.aE},iJ ls pb⟩/\ ∀i,i≠pa->i≠pb->PP[i]?=(pieces ls)[i]? :=fun aI=>by
  have k:∀j,PP[j]?=if j=pb then some ⟨{mb with aE:=ma.aE},iJ ls pb⟩ else if j=pa then some ⟨{ma with aE:=mb.aE},iJ ls pa⟩ else (pieces ls)[j]? :=fun j=>by show(jM (jM _ _ _) _ _)[j]?=_;rw[XP (aol aI),XP Wo]
  refine⟨by rw[k,ay aI,aF rfl],by rw[k,aF rfl],fun i n1 n2=>by rw[k,ay n2,ay n1]⟩
 have swg:pa≠pb->(iO ls PP [a,b])[pa]?=PP[va]? /\(iO ls PP [a,b])[va]?=PP[pa]? /\(iO ls PP [a,b])[pb]?=PP[vb]? /\(iO ls PP [a,b])[vb]?=PP[pb]? /\ ∀i,i≠pa->i≠va->i≠pb->i≠vb->(iO ls PP [a,b])[i]?=PP[i]? :=fun aI=>by
  have k:∀i,(iO ls PP [a,b])[i]?=if i=nx ls b then (ie ls PP a)[b]? else if i=b then (ie ls PP a)[nx ls b]? else (ie ls PP a)[i]? :=fun i=>Ol e1 hb i;have k2:∀i,(ie ls PP a)[i]?=if i=nx ls a then PP[a]? else if i=a then PP[nx ls a]? else PP[i]? :=fun i=>Ol PI ha i;have ka:∀i,i≠pa->i≠va->(ie ls PP a)[i]?=PP[i]? :=fun i n1 n2=>by
   rcases ea with ⟨q1,q2⟩|⟨q1,q2⟩
   .rw[k2,ay (by rw[<- q2];exact n2),ay (by rw[<- q1];exact n1)]
   rw[k2,ay (by rw[<- q1];exact n1),ay (by rw[<- q2];exact n2)]
  have kb:∀i,i≠pb->i≠vb->(iO ls PP [a,b])[i]?=(ie ls PP a)[i]? :=fun i n1 n2=>by
   rcases eb with ⟨q1,q2⟩|⟨q1,q2⟩
   .rw[k,ay (by rw[<- q2];exact n2),ay (by rw[<- q1];exact n1)]
   rw[k,ay (by rw[<- q1];exact n1),ay (by rw[<- q2];exact n2)]
  have ka2:(ie ls PP a)[pa]?=PP[va]? /\(ie ls PP a)[va]?=PP[pa]? :=by
   rcases ea with ⟨q1,q2⟩|⟨q1,q2⟩
   .exact⟨by rw[k2,ay (by rw[<- q2];exact nva.symm),aF q1,<- q2],by rw[k2,aF q2,<- q1]⟩
   exact⟨by rw[k2,aF q1,<- q2],by rw[k2,ay (by rw[<- q1];exact nva),aF q2,<- q1]⟩
  have NF:(iO ls PP [a,b])[pb]?=(ie ls PP a)[vb]? /\(iO ls PP [a,b])[vb]?=(ie ls PP a)[pb]? :=by
   rcases eb with ⟨q1,q2⟩|⟨q1,q2⟩
   .exact⟨by rw[k,ay (by rw[<- q2];exact nvb.symm),aF q1,<- q2],by rw[k,aF q2,<- q1]⟩
   exact⟨by rw[k,aF q1,<- q2],by rw[k,ay (by rw[<- q1];exact nvb),aF q2,<- q1]⟩
  refine⟨by rw[kb _ aI nvba.symm,ka2.1],by rw[kb _ nvab h3,ka2.2],by rw[NF.1,ka _ nvba (Ne.symm h3)],by rw[NF.2,ka _ aI.symm nvab.symm],fun i n1 n2 n3 n4=>by rw[kb i n3 n4,ka i n1 n2]⟩
 rcases cs with ⟨c1,c2,c3,c4,c5,c6⟩|⟨c1,c2,c3,c4,c5,c6⟩
 .refine ZX g hw sN d1 d2 d3 d4 rfl two (lp:=ma) (lv:=la) (lw:=lb) (lq:=mb) (by rw[c3];exact zN) (by rw[c4];exact vu) (by rw[c5];exact A7) (by rw[c6];exact zP) qa ca cb qb Ct sF fun aI=>?_;rw[c3,c4,c5,c6] at*;obtain⟨g1,g2,g3⟩:=PPg aI;obtain⟨s1,s2,s3,s4,s5⟩:=swg aI;exact⟨by rw[s1,g3 _ nva nvab],by rw[s2,g1],by rw[s4,g2],by rw[s3,g3 _ nvba nvb],fun i n1 n2 n3 n4=>by rw[s5 i n1 n2 n4 n3,g3 i n1 n4]⟩
 refine ZX g hw sN d1 d2 d3 d4 rfl two (lp:=mb) (lv:=lb) (lw:=la) (lq:=ma) (by rw[c3];exact zP) (by rw[c4];exact A7) (by rw[c5];exact vu) (by rw[c6];exact zN) qb cb ca qa Ct sF fun aI=>?_;rw[c3,c4,c5,c6] at*;obtain⟨g1,g2,g3⟩:=PPg aI.symm;obtain⟨s1,s2,s3,s4,s5⟩:=swg aI.symm;exact⟨by rw[s3,g3 _ nvba nvb],by rw[s4,g2],by rw[s2,g1],by rw[s1,g3 _ nva nvab],fun i n1 n2 n3 n4=>by rw[s5 i n4 n3 n1 n2,g3 i n4 n1]⟩
end
end Go.Abs
