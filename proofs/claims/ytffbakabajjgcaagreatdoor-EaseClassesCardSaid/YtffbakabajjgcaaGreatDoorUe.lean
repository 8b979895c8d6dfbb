/- A part. -/
import Derived.Test.YtffbakabajjgcaaGreatDoorUc
import Derived.Test.YtffbakabajjgcaaGreatDoorVb
set_option linter.all false
set_option maxHeartbeats 16000000
namespace Go.Abs
theorem X4.Pe{g:Bool}{i o j q:eO}(h:X4 g i o j q):X4 (!g) (iI o) (iI i) j q:=by obtain⟨a,b,c,d⟩:=h;cases g<;>simp only[dQ,if_false,if_true] at a b c d<;>constructor<;>simp[iI,a,b,c,d]
theorem X4.Pf{g:Bool}{i o j q:eO}(h:X4 g i o j q):X4 (!g) i o (iI q) (iI j):=by obtain⟨a,b,c,d⟩:=h;cases g<;>simp only[dQ,if_false,if_true] at a b c d<;>constructor<;>simp[iI,a,b,c,d]
def fD(f:Bool)(x:bk):eO:=if f then x.i else iI x.o
def gO(f:Bool)(x:bk):eO:=if f then x.o else iI x.i
theorem Si{f f':Bool}{x y:bk}:X4 true (fD f x) (gO f x) (fD f' y) (gO f' y)↔X4 (f==f') x.i x.o y.i y.o:=by
 cases f<;>cases f'<;>simp only[fD,gO,dQ,if_false,if_true]
 .exact⟨fun h=>h.Pe.Pf,fun h=>h.Pe.Pf⟩
 .exact⟨fun h=>h.Pe,fun h=>h.Pe⟩
 .exact⟨fun h=>h.Pf,fun h=>h.Pf⟩
 exact Iff.rfl
def oT (n d:Nat):Nat:=if d%2=0 then d/2 else (d/2+1)%n
def oH (n d:Nat):Nat:=if d%2=0 then (d/2+1)%n else d/2
def bt(d:Nat):Bool:=d%2==0
section
variable {F:Nat} {ls:List Let}
def cE(P:List Pc)(sd:Nat->eO)(i:Nat):bk:=⟨P.getD i ⟨kO,false⟩,sd ((i+P.length-1)%P.length),sd i⟩
def zG (P:List Pc)(sd:Nat->eO):List bk:=(List.range P.length).map (cE P sd)
theorem afU(P:List Pc)(sd:Nat->eO):(zG P sd).map bk.p=P:=by
 unfold zG;rw[yL];apply Au;intro i;rw[fT];by_cases hi:i<P.length
 .obtain⟨p,hp⟩:=aM hi;rw[rO hi,hp];show some (P.getD i _)=_;rw[cY,hp];rfl
 rw[mS (by rw[KN];omega),mS aa];rfl
theorem atM(P:List Pc)(sd:Nat->eO)(h:0<P.length):∃s,lM s (zG P sd) s:=by
 refine⟨sd (P.length-1),?_⟩;have:=adQ (cE P sd) (fun i=>sd ((i+P.length-1)%P.length)) P.length 0 fun i _ hi=>⟨rfl,?_⟩
 .simp only[jm] at this;rw[jN aa,show P.length+P.length-1=(P.length-1)+P.length by omega,DI,jN aa,<- aga] at this;exact this
 show sd i=sd ((i+1+P.length-1)%P.length);rw[show i+1+P.length-1=i+P.length by omega,DI,jN aa]
theorem X7(g:bQ F ls){P:List Pc}{sd:Nat->eO}{T' B':Nat->Nat->Nat}{tau:Nat}(hl:P.length=ls.length)
  (hC:aC Let.aG (P.map Pc.l)=aC Let.aG ls) (hP:aC Let.aJ (P.map Pc.l)=aC Let.aJ ls) (hG:∀k,cg (P.map Pc.l) k=cg ls k)
  (ok:∀i,i<ls.length->Bi F (cE P sd i)) (cr:∀i j,i<ls.length->j<ls.length->i≠j->Xr (cE P sd i) (cE P sd j)) (rk:∀i j,i<ls.length->j<ls.length->i≠j->Dr (cE P sd i) (cE P sd j))
  (ids:∀i,i<ls.length->(cE P sd i).k.aG=true->1<=(cE P sd i).k.id/\(cE P sd i).k.id<=((aC Let.aG ls/2:Nat):Int))
  (rr:∀i,i<ls.length->(cE P sd i).k.aJ=true->1<=(cE P sd i).k.aE/\(cE P sd i).k.aE<=(cg ls (cE P sd i).k.gate.toNat:Int))
  (pl:∀i,i<ls.length->(cE P sd i).k.aJ=true->plE T' B' (cE P sd i))
  (gt:∀k,k<F->T' k (cg ls k)=T' (k+1) 0/\B' k (cg ls k)=B' (k+1) 0) (gz:T' F (cg ls F)=T' 0 0/\B' F (cg ls F)=B' 0 0)
  (wit:∀j,j<ls.length->∀t,(t=(qF ls j).l\/t=(qF ls j).r)->t=tau\/ ∃j',j'<ls.length/\(t=(sd j').l\/t=(sd j').r)):Cert F P:=by
 have hn:0<ls.length:=jl.2 g.ne;have A6:bK (zG P sd)=P.map Pc.l:=by
  show(zG P sd).map (fun x=>x.p.l)=_;have:(zG P sd).map (fun x=>x.p.l)=((zG P sd).map bk.p).map Pc.l:=by rw[yL];rfl
  rw[this,afU]
 have mem:∀x∈zG P sd,∃i,i<ls.length/\x=cE P sd i:=fun x hx=>by obtain⟨i,hi,rfl⟩:=dI.1 hx;exact⟨i,by have:=fg.1 hi;omega,rfl⟩
 have inz:∀i,i<ls.length->cE P sd i∈zG P sd:=fun i hi=>dI.2 ⟨i,fg.2 aa,rfl⟩;have q:Cq F (zG P sd) T' B':=by
  refine⟨fun x hx=>?_,Qz fun i j hi hj eU=>cr i j aa aa eU,?_,fun x hx hc=>?_,Qz fun i j hi hj eU=>rk i j aa aa eU,fun x hx hp=>?_,fun x hx hp=>?_,fun k hk=>?_,?_⟩
  .obtain⟨i,hi,rfl⟩:=mem x hx;exact ok i hi
  .rw[A6,hC];have:=g.cz.ev;rwa[tD] at this
  .obtain⟨i,hi,rfl⟩:=mem x hx;rw[A6,hC];exact ids i hi hc
  .obtain⟨i,hi,rfl⟩:=mem x hx;rw[A6,hG];exact rr i hi hp
  .obtain⟨i,hi,rfl⟩:=mem x hx;exact pl i hi hp
  .rw[A6,hG];exact gt k hk
  rw[A6,hG];exact gz
 refine⟨zG P sd,T',B',(List.range (pN ls)).filter (fun s=> ![tau].contains s),afU P sd,⟨atM P sd aa,q.ok,q.cr,q.ev,q.ids,q.rk,q.rr,q.pl,q.gt,q.gz,?_,HS.filter _,fun s hs=>?_,?_⟩⟩
 .have:0<aC Let.aJ (P.map Pc.l):=by
   rw[hP];obtain⟨l,h1,h2⟩:=g.first;exact yJ.2 ⟨l,aW h1,h2⟩
  rw[<- A6] at this;obtain⟨l,h1,h2⟩:=yJ.1 this;obtain⟨x,hx,rfl⟩:=dI.1 h1;exact⟨x,hx,h2⟩
 .obtain⟨h1,h2⟩:=vS.1 hs;have h2:s≠tau:=by simpa using h2
  obtain⟨x,hx,e⟩:=g.cz.wit s h1;obtain⟨j,hj,rfl⟩:=dI.1 hx;have hj:=fg.1 hj;rcases wit j hj s e with h|⟨j',hj',h⟩
  .exact absurd h h2
  exact⟨cE P sd j',inz j' hj',h⟩
 rw[A6,hC,hP];have h1:=ZK (L:=[tau]) (HS (n:=pN ls));have h2:=g.nw;rw[KN] at h1;simp only[cS,eE] at h1;omega
theorem Nk(g:bQ F ls){d:Nat}(hd:d<2*ls.length):oT ls.length d<ls.length:=by
 unfold oT;split
 .omega
 exact ez _ (jl.2 g.ne)
theorem JU(g:bQ F ls){d:Nat}(hd:d<2*ls.length):oH ls.length d<ls.length:=by
 unfold oH;split
 .exact ez _ (jl.2 g.ne)
 omega
theorem S8{d:Nat}(hd:d<2*ls.length):d=jf ls.length (oH ls.length d) (bt d):=by have:=Ii hd;unfold oH bt;exact this
theorem OY{n v:Nat}{f:Bool}(hv:v<n):oT n (dT n v f)=v/\bt (dT n v f)=f:=by
 unfold oT bt dT;cases f
 .simp only[dQ,if_false];have e1:(2*((v+n-1)%n)+1)%2=1:=aa;have e2:(2*((v+n-1)%n)+1)/2=(v+n-1)%n:=aa;rw[e1,e2,vF hv];exact⟨rfl,rfl⟩
 simp only[if_true];have e1:(2*v)%2=0:=aa;have e2:(2*v)/2=v:=aa;rw[e1,e2];exact⟨rfl,rfl⟩
def oK (ls:List Let)(d:Nat):eO:=if d%2=0 then qF ls (d/2) else iI (qF ls (d/2))
theorem Ja{d:Nat}(hd:d<2*ls.length):fD (bt d) (dE ls (oH ls.length d))=oK ls d:=by
 unfold fD bt oH oK dE;rcases Ax d with h|h
 .simp only[h,BD,if_true];rw[Hh aa]
 simp[h]
theorem Kr{d:Nat}(hd:d<2*ls.length):gO (bt d) (dE ls (oT ls.length d))=oK ls d:=by
 unfold gO bt oT oK dE;rcases Ax d with h|h
 .simp[h]
 simp only[h,show((1:Nat)==0)=false from rfl,dQ,if_false,Sb];rw[Hh aa]
theorem Ix(g:bQ F ls){d:Nat}(hd:d<2*ls.length){l:Let}(hl:ls[oH ls.length d]?=some l)(hc:l.aG=true):aY ls d<2*ls.length/\oT ls.length (aY ls d)=hJ ls (oH ls.length d)/\gX l=(bt d==bt (aY ls d))/\
  X4 true (fD (bt d) (dE ls (oH ls.length d))) (gO (bt d) (dE ls (oH ls.length d))) (fD (bt (aY ls d)) (dE ls (oT ls.length (aY ls d)))) (gO (bt (aY ls d)) (dE ls (oT ls.length (aY ls d)))):=by
 have ok:=g.ok;have hv:=JU g hd;obtain⟨b1,m,hm,mc,mi,mo,ms⟩:=sE ok.cr hl hc;have ho:=(bg.1 hm).1;have e:aY ls d=dT ls.length (hJ ls (oH ls.length d)) (bt d==gX l):=by
  conv=>lhs;rw[S8 hd]
  rw[Dv hl hc];rfl
 obtain⟨a1,a2⟩:=OY (n:=ls.length) (f:=(bt d==gX l)) ho;have aI:oH ls.length d≠hJ ls (oH ls.length d):=by intro ee;rw[<- ee,hl] at hm;have:=sR hm;rw[<- this] at mo;revert mo;cases l.over<;>simp
 have hg:gX l=(bt d==(bt d==gX l)):=by cases bt d<;>cases gX l<;>rfl
 rw[e,a1,a2];refine⟨?_,rfl,hg,?_⟩
 .have:=DR ho (!(bt d==gX l));rw[<- Ai] at this;have:=Bs this;rwa[Dl] at this
 rw[Si,<- hg];have:=(Ly g hv ho aI (by rw[dU hl];exact hc) (by rw[dU hm];exact mc) (by rw[dU hl,dU hm];exact mi.symm)).x4;rwa[dU hl] at this
theorem NR{l:List Pc}(hl:l.length=ls.length){e:Nat}(he:e<ls.length)(i:Nat):(gk ls l e)[i]?=if i=nx ls e then l[e]? else if i=e then l[nx ls e]? else l[i]? :=by
 have hn:nx ls e<ls.length:=ez _ aa;obtain⟨p,hp⟩:=aM (ls:=l) (k:=e) aa;obtain⟨q,hq⟩:=aM (ls:=l) (k:=nx ls e) aa;unfold gk;rw[mC,mC,cY,cY,hp,hq,tE];by_cases c1:i=nx ls e
 .subst c1;rw[aD rfl,aD aa,aD rfl];rfl
 rw[ay (Ne.symm c1),ay c1];by_cases c2:i=e
 .subst c2;rw[aD rfl,aD aa,aD rfl];rfl
 rw[ay (Ne.symm c2),ay c2]
theorem atq(g:bQ F ls){w:List Nat}(hw:w∈eh (aY ls) (nD ls)){Q:Nat->Prop}(h1:∀x,x<nD ls->(Q (aY ls x)↔Q x)){x y:Nat}(hx:x∈w)(hy:y∈w):Q x↔Q y:=by
 have e:=Wx (maps g.ok) (R:=gr (nD ls) (aY ls)) (fun z hz=>.rel ⟨hz,rfl⟩) hw hx hy;have:=e.inv (f:=fun x=>Q x) fun a b r=>by obtain⟨ha,rfl⟩:=r;exact propext (h1 a ha).symm
 exact Eq.to_iff this
end
theorem asy:∀(L M:List Int),L.Nodup->(∀x∈L,x∈M)->L.length<=M.length:=by
 intro L
 induction L with
 |nil=>intro M _ _;exact bj _
 |cons a L ih=>intro M hn hs;obtain⟨h1,h2⟩:=nI.1 hn;have ha:=hs a af;have:=ih (M.erase a) h2 fun x hx=>(RZ (by rintro rfl;exact h1 hx)).2 (hs x (by simp[hx]));rw[RY ha] at this;have:0<M.length:=KM ha;simp only[cS];omega
theorem ai3:∀l:List Int,(jC l).Nodup:=by
 intro l
 induction l with
 |nil=>exact vU
 |cons a l ih=>
  unfold jC;split
  .exact ih
  rename_i h;exact nI.2 ⟨fun hm=>h (F9.1 hm),ih⟩
theorem ai4{l:List Int}:(jC l).length=l.length->l.Nodup:=by
 induction l with
 |nil=>intro _;exact vU
 |cons a l ih=>
  have hle:(jC l).length<=l.length:=asy _ _ (ai3 l) fun x hx=>F9.1 hx;unfold jC;rw[nI];split
  .intro e;simp only[cS] at e;omega
  rename_i h;simp only[cS];intro e;exact⟨h,ih aa⟩
theorem SO{p:Pc->Bool}{l:List Pc}{i:Nat}{x y:Pc}(h:l[i]?=some x):(l.set i y).countP p+(if p x then 1 else 0)=l.countP p+(if p y then 1 else 0):=by
 have e:=asg h;have hl:=(bg.1 h).1;have e2:l.set i y=l.take i++y::l.drop (i+1):=by
  conv=>lhs;rw[e]
  rw[WV _ _ (by rw[gT];omega),gT,yO aa,HW];rfl
 rw[e2]
 conv=>rhs;rw[e]
 rw[FQ,FQ,yI,yI];omega
section
variable {F:Nat} {ls:List Let}
theorem Kq{l:List Pc}(hl:l.length=ls.length){e:Nat}(he:e<ls.length)(aI:e≠nx ls e)(p:Pc->Bool):(gk ls l e).countP p=l.countP p:=by
 have hn:nx ls e<ls.length:=ez _ aa;obtain⟨x,hx⟩:=aM (ls:=l) (k:=e) aa;obtain⟨y,hy⟩:=aM (ls:=l) (k:=nx ls e) aa;unfold gk;rw[cY,cY,hx,hy];simp only[lZ];have h1:=SO (p:=p) (y:=y) hx;have h2:(l.set e y)[nx ls e]?=some y:=by rw[mC,ay aI];exact hy
 have h3:=SO (p:=p) (y:=x) h2;omega
theorem Vj(g:bQ F ls){e:Nat}(he:e<ls.length):e≠nx ls e:=by
 have h2:2<=ls.length:=by obtain⟨l,h1,hp⟩:=g.first;have:=g.even;have:0<aC Let.aJ ls:=yJ.2 ⟨l,aW h1,hp⟩;have:=oU Let.aJ ls;omega
 unfold nx;by_cases c:e+1<ls.length
 .rw[jN c];omega
 rw[show e+1=ls.length by omega,KX];omega
theorem VA(p:Let->Bool):aC p ((pieces ls).map Pc.l)=aC p ls:=by
 have:(pieces ls).map Pc.l=ls:=by
  have h:=tD ls;rw[<- h];have e:bK (zF ls)=((zF ls).map bk.p).map Pc.l:=by rw[yL];rfl
  rw[h,<- afT,<- e,h]
 rw[this]
theorem Kj(g:bQ F ls){i j:Nat}{l m:Let}(hl:ls[i]?=some l)(hm:ls[j]?=some m)(hc:l.aG=true)(mc:m.aG=true)(e:l.id=m.id)(eU:i≠j):hJ ls i=j:=by obtain⟨_,hp⟩:=g.ids;obtain⟨d1,_⟩:=hp i j l m hl hm hc mc e eU;obtain⟨b1,w,hw,wc,wi,wo,ws⟩:=sE g.ok.cr hl hc;refine Classical.byContradiction fun aI=>?_;have d3:=(hp _ _ w m hw hm wc mc (by rw[wi,e]) aI).1;rw[wo] at d3;revert d1 d3;cases l.over<;>cases m.over<;>simp
theorem asS(g:bQ F ls){w:List Nat}(hw:w∈eh (aY ls) (nD ls)){p q r:Nat}(hp:p∈w)(hq:q∈w)(hr:r∈w)(pq:p≠q)(pr:p≠r)(qr:q≠r)(lp:p<nD ls)(lq:q<nD ls)(lr:r<nD ls)
  (np:aY ls p=p\/aY ls p=q\/aY ls p=r) (nq:aY ls q=p\/aY ls q=q\/aY ls q=r) (nr:aY ls r=p\/aY ls r=q\/aY ls r=r):
  (aY ls p=q/\aY ls q=r/\aY ls r=p)\/(aY ls p=r/\aY ls r=q/\aY ls q=p):=by
 have inj:=(maps g.ok).inj;have i1:aY ls p≠aY ls q:=fun e=>pq (inj _ _ lp lq e);have i2:aY ls p≠aY ls r:=fun e=>pr (inj _ _ lp lr e);have i3:aY ls q≠aY ls r:=fun e=>qr (inj _ _ lq lr e);have one:∀x y,x∈w->y∈w->x≠y->x<nD ls->aY ls x≠x:=fun x y hx hy qx lx e=>by have:=atq g hw (Q:=fun t=>t=x) (fun t ht=>⟨fun h=>inj _ _ ht lx (by rw[h,e]),fun h=>by rw[h,e]⟩) hx hy;exact qx (this.1 rfl).symm
 have n1:=one p q hp hq pq lp;have n2:=one q p hq hp (Ne.symm pq) lq;have n3:=one r p hr hp (Ne.symm pr) lr;omega
theorem Tf{n d i:Nat}:(i≠oT n d/\i≠oH n d)↔(i≠d/2/\i≠(d/2+1)%n):=by
 unfold oT oH;split
 .exact Iff.rfl
 exact And.comm
theorem S9{n d d':Nat}(h:d/2≠d'/2/\d/2≠(d'/2+1)%n/\(d/2+1)%n≠d'/2/\(d/2+1)%n≠(d'/2+1)%n):oT n d≠oT n d'/\oT n d≠oH n d'/\oH n d≠oT n d'/\oH n d≠oH n d':=by
 obtain⟨h1,h2,h3,h4⟩:=h;unfold oT oH;split<;>split
 .exact⟨h1,h2,h3,h4⟩
 .exact⟨h2,h1,h4,h3⟩
 .exact⟨h3,h4,h1,h2⟩
 exact⟨h4,h3,h2,h1⟩
theorem Ta{n d:Nat}(h:d/2≠(d/2+1)%n):oT n d≠oH n d:=by
 unfold oT oH;split
 .exact h
 exact h.symm
def uo (f:Bool)(s:eO):eO:=if f then s else iI s
theorem JD(f:Bool)(x:bk):(fD f x).b=if f then x.i.b else x.o.b:=by cases f<;>rfl
theorem JX(f:Bool)(x:bk):(gO f x).b=if f then x.o.b else x.i.b:=by cases f<;>rfl
theorem Lz{P:List Pc}{sd:Nat->eO}{d:Nat}{k':eO}(hP:P.length=ls.length)(hd:d<2*ls.length)(hk:sd (d/2)=uo (bt d) k')(h1:sd ((d/2+ls.length-1)%ls.length)=qF ls ((d/2+ls.length-1)%ls.length))(h2:sd (nx ls (d/2))=qF ls (nx ls (d/2))):
  fD (bt d) (cE P sd (oT ls.length d))=fD (bt d) (dE ls (oT ls.length d))/\gO (bt d) (cE P sd (oT ls.length d))=k'/\fD (bt d) (cE P sd (oH ls.length d))=k'/\gO (bt d) (cE P sd (oH ls.length d))=gO (bt d) (dE ls (oH ls.length d)):=by
 unfold nx at h2;unfold fD gO cE dE oT oH;unfold bt at hk ⊢;rw[hP];rcases Ax d with h|h
 .simp only[h,BD,if_true] at hk ⊢;rw[Hh aa,hk,h1,h2];exact⟨rfl,rfl,rfl,rfl⟩
 simp only[h,show((1:Nat)==0)=false from rfl,dQ,if_false,Sb] at hk ⊢;rw[Hh aa,hk,h1,h2];exact⟨rfl,rfl,rfl,rfl⟩
theorem Zm{P:List Pc}{sd:Nat->eO}{i:Nat}(hP:P.length=ls.length)(hi:i<ls.length)(hp:P[i]?=(pieces ls)[i]?)(h1:sd ((i+ls.length-1)%ls.length)=qF ls ((i+ls.length-1)%ls.length))(h2:sd i=qF ls i):cE P sd i=dE ls i:=by
 have:P.getD i ⟨kO,false⟩=⟨ls.getD i kO,iz ls i⟩:=by obtain⟨l,hl⟩:=aM hi;rw[cY,hp,pP hl,cY,hl];rfl
 unfold cE dE;rw[hP,h1,h2,this]
theorem IJ{P:List Pc}{sd:Nat->eO}{i j:Nat}(hj:j<ls.length)(hp:P[i]?=(pieces ls)[j]?):(cE P sd i).p=(dE ls j).p:=by obtain⟨l,hl⟩:=aM hj;show P.getD i _=⟨ls.getD j kO,iz ls j⟩;rw[cY,hp,pP hl,cY,hl];rfl
theorem aif(g:bQ F ls){a b c:Nat}(ha:a<ls.length)(hb:b<ls.length)(hc:c<ls.length){L:List Pc}(h:tC F ls a b c=some L):Cert F L:=by
 unfold tC at h;split at h
 case isFalse=>cases h
 rename_i ht;cases h;unfold FI at ht;simp only[cN,dL] at ht;obtain⟨fU,h6,_,_,_,Pv⟩:=ht;have hn:0<ls.length:=jl.2 g.ne;have cK:=jJ ls;have ok:=g.ok
 -- six letters
 have fj:(rK ls [a,b,c]).Nodup:=ai4 (by rw[h6];rfl);have fj:(([a,nx ls a,b,nx ls b,c,nx ls c]:List Nat).map fun i:Nat=>(i:Int)).Nodup:=fj;have six:a≠nx ls a/\a≠b/\a≠nx ls b/\a≠c/\a≠nx ls c/\nx ls a≠b/\nx ls a≠nx ls b/\nx ls a≠c/\nx ls a≠nx ls c/\b≠nx ls b/\b≠c/\b≠nx ls c/\nx ls b≠c/\nx ls b≠nx ls c/\c≠nx ls c:=by simp only[fy,pV,nI,cI,iM,or_false,Az,vU,and_true,not_false_eq_true] at fj;omega
 have crs:∀e∈[a,b,c],∃l m,ls[e]?=some l/\ls[nx ls e]?=some m/\l.aG=true/\m.aG=true:=fun e he=>by
  have h1:=ir.1 fU e he;have de:e<ls.length:=by simp only[cI,iM,or_false] at he;rcases he with rfl|rfl|rfl<;>assumption
  obtain⟨l,hl⟩:=aM de;obtain⟨m,hm⟩:=aM (ls:=ls) (k:=nx ls e) (ez _ hn);have e1:pA ls e=⟨l,iz ls e⟩:=qD (pP hl);have e2:pA ls (nx ls e)=⟨m,iz ls (nx ls e)⟩:=qD (pP hm);unfold wm at h1;rw[e1,e2,cN] at h1;exact⟨l,m,hl,hm,h1.1,h1.2⟩
 obtain⟨w,hw,_,hlen,hE⟩:=YC g ha Pv;obtain⟨da,AP,wx,AQ⟩:=hE a af;obtain⟨db,B9,xJ,AR⟩:=hE b af;obtain⟨dc,dc1,IE,IF⟩:=hE c af;have hN:∀d,d<2*ls.length->d<nD ls:=fun d hd=>by unfold nD;omega
 have three:∀d,d∈w->d<2*ls.length->d=da\/d=db\/d=dc:=fun d h1 h2=>by
  have inD:∀d,d∈w->d<2*ls.length->d∈w.filter fun x=>decide (x<2*ls.length):=fun d h1 h2=>vS.2 ⟨h1,by simpa using h2⟩;have q1:=inD da AP wx;have q2:=inD db B9 xJ;have q3:=inD dc dc1 IE;have q4:=inD d h1 h2;generalize w.filter (fun x=>decide (x<2*ls.length))=D at hlen q1 q2 q3 q4
  match D,hlen with
  |[x,y,z],_=>simp only[cI,iM,or_false] at q1 q2 q3 q4;have:=six.2.1;have:=six.2.2.2.1;have:=six.2.2.2.2.2.2.2.2.2.2.1;omega
 have Mi:∀d,d<2*ls.length->d/2∈[a,b,c]->∃l,ls[oH ls.length d]?=some l/\l.aG=true:=fun d hd he=>by
  obtain⟨l,m,h1,h2,h3,h4⟩:=crs _ he;unfold oH;split
  .exact⟨m,h2,h4⟩
  exact⟨l,h1,h3⟩
 have step:∀d,d∈w->d<2*ls.length->d/2∈[a,b,c]->aY ls d=da\/aY ls d=db\/aY ls d=dc:=fun d hd hl he=>by obtain⟨l,h1,h2⟩:=Mi d hl he;exact three _ (Ao (maps ok) hw hd) (Ix g hl h1 h2).1
 have round:∃d1 d2 d3,d1<2*ls.length/\d2<2*ls.length/\d3<2*ls.length/\aY ls d1=d2/\aY ls d2=d3/\aY ls d3=d1/\((d1/2=a/\d2/2=b/\d3/2=c)\/(d1/2=a/\d2/2=c/\d3/2=b)):=by
  have nab:da≠db:=fun e=>six.2.1 (by rw[<- AQ,<- AR,e]);have nac:da≠dc:=fun e=>six.2.2.2.1 (by rw[<- AQ,<- IF,e]);have nbc:db≠dc:=fun e=>six.2.2.2.2.2.2.2.2.2.2.1 (by rw[<- AR,<- IF,e]);rcases asS g hw AP B9 dc1 nab nac nbc (hN _ wx) (hN _ xJ) (hN _ IE) (step da AP wx (by rw[AQ];simp)) (step db B9 xJ (by rw[AR];simp)) (step dc dc1 IE (by rw[IF];simp)) with ⟨h1,h2,h3⟩|⟨h1,h2,h3⟩
  .exact⟨da,db,dc,wx,xJ,IE,h1,h2,h3,.inl ⟨AQ,AR,IF⟩⟩
  exact⟨da,dc,db,wx,IE,xJ,h1,h2,h3,.inr ⟨AQ,IF,AR⟩⟩
 clear three step hE hlen AP wx AQ B9 xJ AR dc1 IE IF hw Pv;clear fj fU h6;obtain⟨d1,d2,d3,l1,l2,l3,s1,s2,s3,zN⟩:=round
 -- the new pieces
 have ina:a∈[a,b,c]:=af;have inb:b∈[a,b,c]:=af;have inc:c∈[a,b,c]:=af;have Gp:(im ls (pieces ls) [a,b,c]).length=ls.length:=by rw[Bw,cK]
 have CO:∀i,(im ls (pieces ls) [a,b,c])[i]?=if i=nx ls c then (pieces ls)[c]? else if i=c then (pieces ls)[nx ls c]? else if i=nx ls b then (pieces ls)[b]? else if i=b then (pieces ls)[nx ls b]? else if i=nx ls a then (pieces ls)[a]? else if i=a then (pieces ls)[nx ls a]? else (pieces ls)[i]? :=fun i=>by
  show(gk ls (gk ls (gk ls (pieces ls) a) b) c)[i]?=_;have e1:(gk ls (pieces ls) a).length=ls.length:=by rw[HC,cK]
  have e2:(gk ls (gk ls (pieces ls) a) b).length=ls.length:=by rw[HC,e1]
  simp only[NR e2 hc,NR e1 hb,NR cK ha];obtain⟨x1,x2,x3,x4,x5,x6,x7,x8,x9,HK,KF,KG,KH,KI,N6⟩:=six;simp only[x2.symm,x3.symm,x4.symm,x5.symm,x6.symm,x7.symm,x8.symm,x9.symm,KF.symm,KG.symm,KH.symm,KI.symm,if_false]
 have vn:∀p:Pc->Bool,(im ls (pieces ls) [a,b,c]).countP p=(pieces ls).countP p:=fun p=>by
  show(gk ls (gk ls (gk ls (pieces ls) a) b) c).countP p=_;have e1:(gk ls (pieces ls) a).length=ls.length:=by rw[HC,cK]
  have e2:(gk ls (gk ls (pieces ls) a) b).length=ls.length:=by rw[HC,e1]
  rw[Kq e2 hc six.2.2.2.2.2.2.2.2.2.2.2.2.2.2,Kq e1 hb six.2.2.2.2.2.2.2.2.2.1,Kq cK ha six.1]
 generalize im ls (pieces ls) [a,b,c]=P at Gp CO vn;obtain⟨x1,x2,x3,x4,x5,x6,x7,x8,x9,HK,KF,KG,KH,KI,N6⟩:=six;have pa:P[a]?=(pieces ls)[nx ls a]? /\P[nx ls a]?=(pieces ls)[a]? :=by
  constructor
  .rw[CO];simp only[x1,x2,x3,x4,x5,if_false,if_true]
  rw[CO];simp only[x6,x7,x8,x9,if_false,if_true]
 have pb:P[b]?=(pieces ls)[nx ls b]? /\P[nx ls b]?=(pieces ls)[b]? :=by
  constructor
  .rw[CO];simp only[HK,KF,KG,if_false,if_true]
  rw[CO];simp only[KH,KI,if_false,if_true]
 have pc:P[c]?=(pieces ls)[nx ls c]? /\P[nx ls c]?=(pieces ls)[c]? :=by
  constructor
  .rw[CO];simp only[N6,if_false,if_true]
  rw[CO];simp only[if_true]
 have pn:∀i,i≠a->i≠nx ls a->i≠b->i≠nx ls b->i≠c->i≠nx ls c->P[i]?=(pieces ls)[i]? :=fun i h1 h2 h3 h4 h5 h6=>by rw[CO];simp only[h1,h2,h3,h4,h5,h6,if_false]
 clear CO
 -- edges and letters by bl
 have nX:∀d,d/2=a\/d/2=b\/d/2=c->P[oT ls.length d]?=(pieces ls)[oH ls.length d]? /\P[oH ls.length d]?=(pieces ls)[oT ls.length d]? :=fun d hd=>by
  have:P[d/2]?=(pieces ls)[nx ls (d/2)]? /\P[nx ls (d/2)]?=(pieces ls)[d/2]? :=by rcases hd with e|e|e<;>rw[e]<;>assumption
  unfold oT oH;rcases Ax d with h|h
  .simp only[h,if_true];exact this
  simp only[h,Sb,if_false];exact this.symm
 have m1:d1/2=a\/d1/2=b\/d1/2=c:=by
  rcases zN with ⟨h,_,_⟩|⟨h,_,_⟩
  .exact .inl h
  exact .inl h
 have m2:d2/2=a\/d2/2=b\/d2/2=c:=by
  rcases zN with ⟨_,h,_⟩|⟨_,h,_⟩
  .exact .inr (.inl h)
  exact .inr (.inr h)
 have m3:d3/2=a\/d3/2=b\/d3/2=c:=by
  rcases zN with ⟨_,_,h⟩|⟨_,_,h⟩
  .exact .inr (.inr h)
  exact .inr (.inl h)
 have mm:∀d,d/2=a\/d/2=b\/d/2=c->d/2∈[a,b,c]:=fun d h=>by simpa using h
 have pn2:∀i,i≠oT ls.length d1->i≠oH ls.length d1->i≠oT ls.length d2->i≠oH ls.length d2->i≠oT ls.length d3->i≠oH ls.length d3->P[i]?=(pieces ls)[i]? /\ ∀d,d/2=a\/d/2=b\/d/2=c->i≠d/2/\i≠nx ls (d/2):=fun i a1 a2 a3 a4 a5 a6=>by
  obtain⟨b1,b2⟩:=Tf.1 ⟨a1,a2⟩;obtain⟨b3,b4⟩:=Tf.1 ⟨a3,a4⟩;obtain⟨b5,b6⟩:=Tf.1 ⟨a5,a6⟩;have key:(i≠a/\i≠nx ls a)/\(i≠b/\i≠nx ls b)/\(i≠c/\i≠nx ls c):=by
   rcases zN with ⟨h1,h2,h3⟩|⟨h1,h2,h3⟩
   .rw[h1] at b1 b2;rw[h2] at b3 b4;rw[h3] at b5 b6;exact⟨⟨b1,b2⟩,⟨b3,b4⟩,b5,b6⟩
   rw[h1] at b1 b2;rw[h2] at b3 b4;rw[h3] at b5 b6;exact⟨⟨b1,b2⟩,⟨b5,b6⟩,b3,b4⟩
  obtain⟨⟨c1,c2⟩,⟨c3,c4⟩,c5,c6⟩:=key;refine⟨pn i c1 c2 c3 c4 c5 c6,fun d hd=>?_⟩;rcases hd with e|e|e<;>rw[e]
  .exact⟨c1,c2⟩
  .exact⟨c3,c4⟩
  exact⟨c5,c6⟩
 have t1:=Nk g l1;have t2:=Nk g l2;have t3:=Nk g l3;have h1:=JU g l1;have h2:=JU g l2;have h3:=JU g l3
 -- all six are different
 have apart:(d1/2≠d2/2/\d1/2≠nx ls (d2/2)/\nx ls (d1/2)≠d2/2/\nx ls (d1/2)≠nx ls (d2/2))/\(d1/2≠d3/2/\d1/2≠nx ls (d3/2)/\nx ls (d1/2)≠d3/2/\nx ls (d1/2)≠nx ls (d3/2))/\(d2/2≠d3/2/\d2/2≠nx ls (d3/2)/\nx ls (d2/2)≠d3/2/\nx ls (d2/2)≠nx ls (d3/2))/\d1/2≠nx ls (d1/2)/\d2/2≠nx ls (d2/2)/\d3/2≠nx ls (d3/2):=by
  rcases zN with ⟨h1,h2,h3⟩|⟨h1,h2,h3⟩<;>rw[h1,h2,h3]
  .exact⟨⟨x2,x3,x6,x7⟩,⟨x4,x5,x8,x9⟩,⟨KF,KG,KH,KI⟩,x1,HK,N6⟩
  exact⟨⟨x4,x5,x8,x9⟩,⟨x2,x3,x6,x7⟩,⟨KF.symm,KH.symm,KG.symm,KI.symm⟩,x1,N6,HK⟩
 obtain⟨y1,y2,y3,y4,y5,y6⟩:=apart;have f12:=S9 y1;have f13:=S9 y2;have f23:=S9 y3;have g1:=Ta y4;have g2:=Ta y5;have g3:=Ta y6
 -- the old corners
 obtain⟨u1,GU,Iz⟩:=Mi d1 l1 (mm d1 m1);obtain⟨u2,uN,IA⟩:=Mi d2 l2 (mm d2 m2);obtain⟨u3,vA,IB⟩:=Mi d3 l3 (mm d3 m3);obtain⟨_,o1,q1,k1⟩:=Ix g l1 GU Iz;obtain⟨_,o2,q2,k2⟩:=Ix g l2 uN IA;obtain⟨_,o3,q3,k3⟩:=Ix g l3 vA IB;rw[s1] at o1 q1 k1;rw[s2] at o2 q2 k2;rw[s3] at o3 q3 k3;clear s1 s2 s3 zN pn pa pb pc x1 x2 x3 x4 x5 x6 x7 x8 x9 HK KF KG KH KI N6 crs Mi mm ina inb inc;have ti1:=Kr (ls:=ls) l1;have ti2:=Kr (ls:=ls) l2;have ti3:=Kr (ls:=ls) l3;have j8:=Ja (ls:=ls) l1;have Jf:=Ja (ls:=ls) l2;have hi3:=Ja (ls:=ls) l3;rw[j8,ti2] at k1;rw[Jf,ti3] at k2;rw[hi3,ti1] at k3;obtain⟨a1,b1,c1,e1⟩:=k1;obtain⟨a2,b2,c2,e2⟩:=k2;obtain⟨a3,b3,c3,e3⟩:=k3;simp only[if_true] at a1 b1 c1 e1 a2 b2 c2 e2 a3 b3 c3 e3
 let tau:=(oK ls d1).l
 let K1:eO:=⟨(fD (bt d3) (dE ls (oT ls.length d3))).r,tau,(fD (bt d1) (dE ls (oT ls.length d1))).b⟩
 let K2:eO:=⟨(fD (bt d1) (dE ls (oT ls.length d1))).r,tau,(fD (bt d2) (dE ls (oT ls.length d2))).b⟩
 let K3:eO:=⟨(fD (bt d2) (dE ls (oT ls.length d2))).r,tau,(fD (bt d3) (dE ls (oT ls.length d3))).b⟩
 let sd:Nat->eO:=fun j=>if j=d1/2 then uo (bt d1) K1 else if j=d2/2 then uo (bt d2) K2 else if j=d3/2 then uo (bt d3) K3 else qF ls j
 have sd1:sd (d1/2)=uo (bt d1) K1:=aD rfl;have sd2:sd (d2/2)=uo (bt d2) K2:=by show(if _ then _ else _)=_;rw[ay (Ne.symm y1.1),aD rfl]
 have sd3:sd (d3/2)=uo (bt d3) K3:=by show(if _ then _ else _)=_;rw[ay (Ne.symm y2.1),ay (Ne.symm y3.1),aD rfl]
 have sdn:∀j,j≠d1/2->j≠d2/2->j≠d3/2->sd j=qF ls j:=fun j h1 h2 h3=>by show(if _ then _ else _)=_;rw[ay h1,ay h2,ay h3]
 have prev:∀i,i<ls.length->i≠nx ls (d1/2)->i≠nx ls (d2/2)->i≠nx ls (d3/2)->sd ((i+ls.length-1)%ls.length)=qF ls ((i+ls.length-1)%ls.length):=fun i hi n1 n2 n3=>sdn _ (fun h=>n1 (Lg hi h)) (fun h=>n2 (Lg hi h)) (fun h=>n3 (Lg hi h))
 obtain⟨z1,z2,z3,z4⟩:=y1;obtain⟨z5,z6,z7,z8⟩:=y2;obtain⟨z9,z10,z11,z12⟩:=y3;have G1:=Lz (P:=P) Gp l1 sd1 (prev _ aa y4 z2 z6) (sdn _ y4.symm z3 z7);have G2:=Lz (P:=P) Gp l2 sd2 (prev _ aa z3.symm y5 z10) (sdn _ z2.symm y5.symm z11);have G3:=Lz (P:=P) Gp l3 sd3 (prev _ aa z7.symm z11.symm y6) (sdn _ z6.symm z10.symm y6.symm);have p1:=nX d1 m1;have p2:=nX d2 m2;have p3:=nX d3 m3;have pT1:=IJ (sd:=sd) h1 p1.1;have pH1:=IJ (sd:=sd) t1 p1.2;have pT2:=IJ (sd:=sd) h2 p2.1;have pH2:=IJ (sd:=sd) t2 p2.2;have pT3:=IJ (sd:=sd) h3 p3.1
 have pH3:=IJ (sd:=sd) t3 p3.2;have un:∀i,i<ls.length->i≠oT ls.length d1->i≠oH ls.length d1->i≠oT ls.length d2->i≠oH ls.length d2->i≠oT ls.length d3->i≠oH ls.length d3->cE P sd i=dE ls i:=fun i hi n1 n2 n3 n4 n5 n6=>by obtain⟨q1,q2⟩:=pn2 i n1 n2 n3 n4 n5 n6;exact Zm Gp hi q1 (prev i hi (q2 d1 m1).2 (q2 d2 m2).2 (q2 d3 m3).2) (sdn i (q2 d1 m1).1 (q2 d2 m2).1 (q2 d3 m3).1)
 clear pn2 nX prev
 -- letters of the crossings
 have Bc:=sE ok.cr GU Iz;have vC:=sE ok.cr uN IA;have hw3:=sE ok.cr vA IB;rw[<- o1] at Bc;rw[<- o2] at vC;rw[<- o3] at hw3;obtain⟨r1,v2,qu,cv2,iv2,_,_⟩:=Bc;obtain⟨r2,v3,MV,cv3,iv3,_,_⟩:=vC;obtain⟨r3,v1,ES,cv1,iv1,_,_⟩:=hw3
 -- the new corners
 have cornerN:∀(x y:bk) (d d' hh tt:Nat) (u v:Let),ls[hh]?=some u->ls[tt]?=some v->u.aG=true->v.aG=true->v.id=u.id->hh≠tt->x.p=(dE ls hh).p->y.p=(dE ls tt).p->gX u=(bt d==bt d')->X4 true (fD (bt d) x) (gO (bt d) x) (fD (bt d') y) (gO (bt d') y)->Xc x y:=by intro x y d d' hh tt u v ha hb ca cb ei aI hx hy hg h4;have hx':x.k=(dE ls hh).k:=congrArg Pc.l hx;have hy':y.k=(dE ls tt).k:=congrArg Pc.l hy;have old:=Ly g (bg.1 ha).1 (bg.1 hb).1 aI (by rw[dU ha];exact ca) (by rw[dU hb];exact cb) (by rw[dU ha,dU hb];exact ei.symm);refine⟨by rw[hx',hy'];exact old.ov,by rw[hx',hy'];exact old.sg,?_⟩;rw[hx',dU ha,hg];exact Si.1 h4
 have C1:Xc (cE P sd (oT ls.length d1)) (cE P sd (oH ls.length d2)):=by
  refine cornerN _ _ d1 d2 _ _ u1 v2 GU qu Iz cv2 iv2 f12.2.2.1 pT1 pH2 q1 ?_;rw[G1.1,G1.2.1,G2.2.2.1,G2.2.2.2];constructor<;>simp only[if_true]
  .exact c3.trans e2
  .rfl
  .rfl
  exact b2
 have C2:Xc (cE P sd (oT ls.length d2)) (cE P sd (oH ls.length d3)):=by
  refine cornerN _ _ d2 d3 _ _ u2 v3 uN MV IA cv3 iv3 f23.2.2.1 pT2 pH3 q2 ?_;rw[G2.1,G2.2.1,G3.2.2.1,G3.2.2.2];constructor<;>simp only[if_true]
  .exact c1.trans e3
  .rfl
  .rfl
  exact b3
 have C3:Xc (cE P sd (oT ls.length d3)) (cE P sd (oH ls.length d1)):=by
  refine cornerN _ _ d3 d1 _ _ u3 v1 vA ES IB cv1 iv1 f13.2.1.symm pT3 pH1 q3 ?_;rw[G3.1,G3.2.1,G1.2.2.1,G1.2.2.2];constructor<;>simp only[if_true]
  .exact c2.trans e1
  .rfl
  .rfl
  exact b1
 have six:∀i,i<ls.length->(i=oT ls.length d1\/i=oH ls.length d1\/i=oT ls.length d2\/i=oH ls.length d2\/i=oT ls.length d3\/i=oH ls.length d3)\/(cE P sd i=dE ls i/\i≠oT ls.length d1/\i≠oH ls.length d1/\i≠oT ls.length d2/\i≠oH ls.length d2/\i≠oT ls.length d3/\i≠oH ls.length d3):=fun i hi=>by
  rcases Classical.em (i=oT ls.length d1\/i=oH ls.length d1\/i=oT ls.length d2\/i=oH ls.length d2\/i=oT ls.length d3\/i=oH ls.length d3) with h|h
  .exact .inl h
  simp only[Az] at h;exact .inr ⟨un i hi h.1 h.2.1 h.2.2.1 h.2.2.2.1 h.2.2.2.2.1 h.2.2.2.2.2,h⟩
 -- each position holds one letter
 have hold:∀i,i<ls.length->∃j l,j<ls.length/\ls[j]?=some l/\(cE P sd i).k=l/\(cE P sd i).p=(dE ls j).p:=fun i hi=>by
  have mk:∀j l,ls[j]?=some l->(cE P sd i).p=(dE ls j).p->∃j l,j<ls.length/\ls[j]?=some l/\(cE P sd i).k=l/\(cE P sd i).p=(dE ls j).p:=fun j l hl hp=>⟨j,l,(bg.1 hl).1,hl,(congrArg Pc.l hp).trans (dU hl),hp⟩;rcases six i hi with (rfl|rfl|rfl|rfl|rfl|rfl)|⟨e,_⟩
  .exact mk _ _ GU pT1
  .exact mk _ _ ES pH1
  .exact mk _ _ uN pT2
  .exact mk _ _ qu pH2
  .exact mk _ _ vA pT3
  .exact mk _ _ MV pH3
  obtain⟨l,hl⟩:=aM hi;exact mk i l hl (by rw[e])
 have kT1:(cE P sd (oT ls.length d1)).k=u1:=(congrArg Pc.l pT1).trans (dU GU);have kT2:(cE P sd (oT ls.length d2)).k=u2:=(congrArg Pc.l pT2).trans (dU uN);have kT3:(cE P sd (oT ls.length d3)).k=u3:=(congrArg Pc.l pT3).trans (dU vA);have kH1:(cE P sd (oH ls.length d1)).k=v1:=(congrArg Pc.l pH1).trans (dU ES);have kH2:(cE P sd (oH ls.length d2)).k=v2:=(congrArg Pc.l pH2).trans (dU qu);have kH3:(cE P sd (oH ls.length d3)).k=v3:=(congrArg Pc.l pH3).trans (dU MV);have flat:∀(f:Bool) (x:bk),(fD f x).b=(gO f x).b->x.i.b=x.o.b:=fun f x h=>by
  rw[JD,JX] at h;cases f
  .exact h.symm
  exact h
 have ZP:∀(f:Bool) (x:bk),x.i.b=x.o.b->(fD f x).b=(gO f x).b:=fun f x h=>by
  rw[JD,JX];cases f
  .exact h.symm
  exact h
 have oldb:∀j l,ls[j]?=some l->l.aG=true->(dE ls j).i.b=(dE ls j).o.b:=fun j l hl hc=>(Ee g (bg.1 hl).1).cb (by rw[dU hl];exact hc);have bT:∀d (K:eO),fD (bt d) (cE P sd (oT ls.length d))=fD (bt d) (dE ls (oT ls.length d))->gO (bt d) (cE P sd (oT ls.length d))=K->K.b=(fD (bt d) (dE ls (oT ls.length d))).b->(cE P sd (oT ls.length d)).i.b=(cE P sd (oT ls.length d)).o.b:=fun d K q1 q2 q3=>flat (bt d) _ (by rw[q1,q2,q3])
 have bH:∀d (K:eO) (l m:Let),ls[oT ls.length d]?=some l->l.aG=true->ls[oH ls.length d]?=some m->m.aG=true->gO (bt d) (dE ls (oT ls.length d))=oK ls d->fD (bt d) (dE ls (oH ls.length d))=oK ls d->fD (bt d) (cE P sd (oH ls.length d))=K->gO (bt d) (cE P sd (oH ls.length d))=gO (bt d) (dE ls (oH ls.length d))->K.b=(fD (bt d) (dE ls (oT ls.length d))).b->(cE P sd (oH ls.length d)).i.b=(cE P sd (oH ls.length d)).o.b:=fun d K l m hl cl hm cm w1 w2 q1 q2 q3=>by refine flat (bt d) _ ?_;rw[q1,q2,q3,ZP (bt d) _ (oldb _ _ hl cl),w1,<- w2];exact ZP (bt d) _ (oldb _ _ hm cm)
 have bad:∀i,i<ls.length->dA F (cE P sd i).k=false:=fun i hi=>by obtain⟨j,l,hj,hl,hk,_⟩:=hold i hi;rw[hk];exact g.bad l (aW hl)
 have lV:∀i,i<ls.length->(cE P sd i).k.aG=true->(cE P sd i).i.b=(cE P sd i).o.b->Bi F (cE P sd i):=fun i hi hc hb=>⟨bad i hi,fun _=>hb,fun hp=>by rw[vD hc] at hp;cases hp⟩;have passUn:∀i,i<ls.length->(cE P sd i).k.aJ=true->cE P sd i=dE ls i:=fun i hi hp=>by
  rcases six i hi with (rfl|rfl|rfl|rfl|rfl|rfl)|⟨e,_⟩
  .rw[kT1,vD Iz] at hp;cases hp
  .rw[kH1,vD cv1] at hp;cases hp
  .rw[kT2,vD IA] at hp;cases hp
  .rw[kH2,vD cv2] at hp;cases hp
  .rw[kT3,vD IB] at hp;cases hp
  .rw[kH3,vD cv3] at hp;cases hp
  exact e
 have cz:=g.cz;have cntP:∀p:Let->Bool,aC p (P.map Pc.l)=aC p ls:=fun p=>by rw[<- VA (ls:=ls) p];show List.countP _ _=List.countP _ _;rw[KJ,KJ];exact vn _
 have labs:∀(f:Bool) i,i<ls.length->∀t,t=(fD f (cE P sd i)).l\/t=(fD f (cE P sd i)).r->∃j',j'<ls.length/\(t=(sd j').l\/t=(sd j').r):=fun f i hi t ht=>by
  cases f
  .refine⟨i,hi,?_⟩;rcases ht with ht|ht
   .exact .inr ht
   exact .inl ht
  refine⟨(i+P.length-1)%P.length,?_,ht⟩;rw[Gp];exact ez _ hn
 refine X7 g (tau:=tau) (sd:=sd) (T':=TF ls) (B':=BF ls) Gp (cntP _) (cntP _) (fun k=>cntP _) (fun i hi=>?_) (fun i j hi hj eU ci cj e=>?_) (fun i j hi hj eU pi pj e1 e2=>?_) (fun i hi ci=>?_) (fun i hi pi=>?_) (fun i hi pi=>?_) (fun k hk=>?_) ?_ (fun j hj t ht=>?_)
 .rcases six i hi with (rfl|rfl|rfl|rfl|rfl|rfl)|⟨e,_⟩
  .exact lV _ hi (by rw[kT1];exact Iz) (bT d1 K1 G1.1 G1.2.1 rfl)
  .exact lV _ hi (by rw[kH1];exact cv1) (bH d1 K1 _ _ ES cv1 GU Iz ti1 j8 G1.2.2.1 G1.2.2.2 rfl)
  .exact lV _ hi (by rw[kT2];exact IA) (bT d2 K2 G2.1 G2.2.1 rfl)
  .exact lV _ hi (by rw[kH2];exact cv2) (bH d2 K2 _ _ qu cv2 uN IA ti2 Jf G2.2.2.1 G2.2.2.2 rfl)
  .exact lV _ hi (by rw[kT3];exact IB) (bT d3 K3 G3.1 G3.2.1 rfl)
  .exact lV _ hi (by rw[kH3];exact cv3) (bH d3 K3 _ _ MV cv3 vA IB ti3 hi3 G3.2.2.1 G3.2.2.2 rfl)
  rw[e];exact Ee g hi
 · -- two visits of one crossing
  have nn:∀i,i<ls.length->∃s,s<ls.length/\(∃l,ls[s]?=some l/\(cE P sd i).k=l)/\((i=oT ls.length d1/\s=oH ls.length d1)\/(i=oH ls.length d1/\s=oT ls.length d1)\/(i=oT ls.length d2/\s=oH ls.length d2)\/(i=oH ls.length d2/\s=oT ls.length d2)\/(i=oT ls.length d3/\s=oH ls.length d3)\/(i=oH ls.length d3/\s=oT ls.length d3)\/(cE P sd i=dE ls i/\s=i/\i≠oT ls.length d1/\i≠oH ls.length d1/\i≠oT ls.length d2/\i≠oH ls.length d2/\i≠oT ls.length d3/\i≠oH ls.length d3)):=fun i hi=>by
   rcases six i hi with (rfl|rfl|rfl|rfl|rfl|rfl)|⟨e,aI⟩
   .exact⟨_,h1,⟨_,GU,kT1⟩,.inl ⟨rfl,rfl⟩⟩
   .exact⟨_,t1,⟨_,ES,kH1⟩,.inr (.inl ⟨rfl,rfl⟩)⟩
   .exact⟨_,h2,⟨_,uN,kT2⟩,.inr (.inr (.inl ⟨rfl,rfl⟩))⟩
   .exact⟨_,t2,⟨_,qu,kH2⟩,.inr (.inr (.inr (.inl ⟨rfl,rfl⟩)))⟩
   .exact⟨_,h3,⟨_,vA,kT3⟩,.inr (.inr (.inr (.inr (.inl ⟨rfl,rfl⟩))))⟩
   .exact⟨_,t3,⟨_,MV,kH3⟩,.inr (.inr (.inr (.inr (.inr (.inl ⟨rfl,rfl⟩)))))⟩
   obtain⟨l,hl⟩:=aM hi;exact⟨i,hi,⟨l,hl,by rw[e];exact dU hl⟩,.inr (.inr (.inr (.inr (.inr (.inr ⟨e,rfl,aI⟩)))))⟩
  obtain⟨si,hsi,⟨li,uJ,kli⟩,ci'⟩:=nn i hi;obtain⟨sj,Jt,⟨lj,wP,klj⟩,DX⟩:=nn j hj;rw[kli] at ci e;rw[klj] at cj e;obtain⟨f1,f2,f3,f4⟩:=f12;obtain⟨f5,f6,f7,f8⟩:=f13;obtain⟨f9,f10,f11,f12⟩:=f23;have aI:si≠sj:=by
   clear e2 e3 e1 labs passUn lV bad bH bT hold un six;rcases ci' with ⟨q1,q2⟩|⟨q1,q2⟩|⟨q1,q2⟩|⟨q1,q2⟩|⟨q1,q2⟩|⟨q1,q2⟩|⟨_,q2,n1,n2,n3,n4,n5,n6⟩<;>rcases DX with ⟨w1,w2⟩|⟨w1,w2⟩|⟨w1,w2⟩|⟨w1,w2⟩|⟨w1,w2⟩|⟨w1,w2⟩|⟨_,w2,m1,m2,m3,m4,m5,m6⟩<;>rw[q2,w2]<;>first
    |(rw[q1,w1] at eU;exact absurd rfl eU)
    |assumption
    |exact Ne.symm (by assumption)
    |exact eU
  have ho:=Kj g uJ wP ci cj e aI;rcases ci' with ⟨q1,q2⟩|⟨q1,q2⟩|⟨q1,q2⟩|⟨q1,q2⟩|⟨q1,q2⟩|⟨q1,q2⟩|⟨eu,q2,n1,n2,n3,n4,n5,n6⟩
  .rw[q2,<- o1] at ho;rcases DX with ⟨w1,w2⟩|⟨w1,w2⟩|⟨w1,w2⟩|⟨w1,w2⟩|⟨w1,w2⟩|⟨w1,w2⟩|⟨_,w2,m1,m2,m3,m4,m5,m6⟩<;>rw[w2] at ho<;>first
    |(rw[q1,w1];exact C1)
    |exact absurd ho (by assumption)
    |exact absurd ho (Ne.symm (by assumption))
  .rw[q2,r3] at ho;rcases DX with ⟨w1,w2⟩|⟨w1,w2⟩|⟨w1,w2⟩|⟨w1,w2⟩|⟨w1,w2⟩|⟨w1,w2⟩|⟨_,w2,m1,m2,m3,m4,m5,m6⟩<;>rw[w2] at ho<;>first
    |(rw[q1,w1];exact C3.symm)
    |exact absurd ho (by assumption)
    |exact absurd ho (Ne.symm (by assumption))
  .rw[q2,<- o2] at ho;rcases DX with ⟨w1,w2⟩|⟨w1,w2⟩|⟨w1,w2⟩|⟨w1,w2⟩|⟨w1,w2⟩|⟨w1,w2⟩|⟨_,w2,m1,m2,m3,m4,m5,m6⟩<;>rw[w2] at ho<;>first
    |(rw[q1,w1];exact C2)
    |exact absurd ho (by assumption)
    |exact absurd ho (Ne.symm (by assumption))
  .rw[q2,r1] at ho;rcases DX with ⟨w1,w2⟩|⟨w1,w2⟩|⟨w1,w2⟩|⟨w1,w2⟩|⟨w1,w2⟩|⟨w1,w2⟩|⟨_,w2,m1,m2,m3,m4,m5,m6⟩<;>rw[w2] at ho<;>first
    |(rw[q1,w1];exact C1.symm)
    |exact absurd ho (by assumption)
    |exact absurd ho (Ne.symm (by assumption))
  .rw[q2,<- o3] at ho;rcases DX with ⟨w1,w2⟩|⟨w1,w2⟩|⟨w1,w2⟩|⟨w1,w2⟩|⟨w1,w2⟩|⟨w1,w2⟩|⟨_,w2,m1,m2,m3,m4,m5,m6⟩<;>rw[w2] at ho<;>first
    |(rw[q1,w1];exact C3)
    |exact absurd ho (by assumption)
    |exact absurd ho (Ne.symm (by assumption))
  .rw[q2,r2] at ho;rcases DX with ⟨w1,w2⟩|⟨w1,w2⟩|⟨w1,w2⟩|⟨w1,w2⟩|⟨w1,w2⟩|⟨w1,w2⟩|⟨_,w2,m1,m2,m3,m4,m5,m6⟩<;>rw[w2] at ho<;>first
    |(rw[q1,w1];exact C2.symm)
    |exact absurd ho (by assumption)
    |exact absurd ho (Ne.symm (by assumption))
  have hb:=(sE ok.cr uJ ci).1;rw[ho,q2] at hb;rcases DX with ⟨w1,w2⟩|⟨w1,w2⟩|⟨w1,w2⟩|⟨w1,w2⟩|⟨w1,w2⟩|⟨w1,w2⟩|⟨eu2,w2,_⟩
  .rw[w2,<- o1] at hb;exact absurd hb.symm n3
  .rw[w2,r3] at hb;exact absurd hb.symm n6
  .rw[w2,<- o2] at hb;exact absurd hb.symm n5
  .rw[w2,r1] at hb;exact absurd hb.symm n2
  .rw[w2,<- o3] at hb;exact absurd hb.symm n1
  .rw[w2,r2] at hb;exact absurd hb.symm n4
  rw[q2] at uJ;rw[w2] at wP;rw[eu,eu2];exact Ly g hi hj eU (by rw[dU uJ];exact ci) (by rw[dU wP];exact cj) (by rw[dU uJ,dU wP];exact e)
 .have ee:=passUn i hi pi;have ee2:=passUn j hj pj;rw[ee] at pi e1 e2;rw[ee2] at pj e1 e2;exact(cz.QA (FM hi) (FM hj) eU).2 pi pj e1 e2
 .obtain⟨j,l,hj,hl,hk,_⟩:=hold i hi;rw[hk] at ci ⊢;exact g.ids.1 l (aW hl) ci
 .have ee:=passUn i hi pi;rw[ee] at pi ⊢;have:=cz.rr _ (aW (FM hi)) pi;rwa[tD] at this
 .have ee:=passUn i hi pi;rw[ee] at pi ⊢;exact cz.pl _ (aW (FM hi)) pi
 .have:=cz.gt k hk;rwa[tD] at this
 .have:=cz.gz;rwa[tD] at this
 have viaK:∀d,j=d/2->t=(oK ls d).l\/t=(oK ls d).r:=fun d hd=>by
  rw[hd] at ht;unfold oK;split
  .exact ht
  exact ht.symm
 by_cases n1:j=d1/2
 .rcases viaK d1 n1 with h|h
  .exact .inl h
  exact .inr (labs (bt d2) _ t2 t (.inl (by rw[G2.1,h];exact c1.symm)))
 by_cases n2:j=d2/2
 .rcases viaK d2 n2 with h|h
  .exact .inl (h.trans a1.symm)
  exact .inr (labs (bt d3) _ t3 t (.inl (by rw[G3.1,h];exact c2.symm)))
 by_cases n3:j=d3/2
 .rcases viaK d3 n3 with h|h
  .exact .inl (h.trans (a2.symm.trans a1.symm))
  exact .inr (labs (bt d1) _ t1 t (.inl (by rw[G1.1,h];exact c3.symm)))
 exact .inr ⟨j,hj,by rw[sdn j n1 n2 n3];exact ht⟩
end
theorem By(f:Bool)(x:bk):x.up=if f==x.p.d then fD f x else iI (gO f x):=by unfold bk.up fD gO;cases f<;>cases x.p.d<;>rfl
theorem Bh(f:Bool)(x:bk):x.lo=if f==x.p.d then gO f x else iI (fD f x):=by unfold bk.lo fD gO;cases f<;>cases x.p.d<;>rfl
section
variable {F:Nat} {ls:List Let}
theorem Xs:∀(w:List Nat) (f:Fc),f.places.length<=(w.foldl (Fc.add F ls) f).places.length/\ ∀x∈w,2*ls.length<=x->(oz F ls ((x-2*ls.length)/2)).length<=(w.foldl (Fc.add F ls) f).places.length:=by
 intro w
 induction w with
 |nil=>intro f;exact⟨bJ _,fun x hx=>nomatch hx⟩
 |cons x w ih=>
  intro f;rw[uY];obtain⟨h1,h2⟩:=ih (Fc.add F ls f x);have h3:f.places.length<=(Fc.add F ls f x).places.length:=by
   unfold Fc.add;split
   .exact bJ _
   simp only[eG];omega
  refine⟨mD h3 h1,fun y hy hl=>?_⟩;rcases cI.1 hy with rfl|hy
  .refine mD ?_ h1;unfold Fc.add;rw[ay aa];simp only[eG];split<;>(try rw[lJ])<;>omega
  exact h2 y hy hl
theorem Z8(ok:eH F ls){k u v:Nat}(hk:k+1<(aB ls).length)(hu:(aB ls).getD k 0=u)(hv:(aB ls).getD (k+1) 0=v){l m:Let}(hl:ls[u]?=some l)(hm:ls[v]?=some m)
  (pl:l.aJ=true) (pm:m.aJ=true) (hg:m.gate<=l.gate):l.gate=m.gate/\m.aE=l.aE+1:=by
 obtain⟨u',GS⟩:=aM (ls:=aB ls) (k:=k) aa;obtain⟨v',GW⟩:=aM hk;rw[cY,GS,lZ] at hu;rw[cY,GW,lZ] at hv;subst hu hv;obtain⟨l',e1,_,e2⟩:=yX ok.ax GS;obtain⟨m',e3,_,e4⟩:=yX ok.ax GW;rw[hl] at e1;cases e1;rw[hm] at e3;cases e3;have gl:=ok.ax.eQ l (aW hl) pl;have gm:=ok.ax.eQ m (aW hm) pm;obtain⟨l1,l2,l3,l4⟩:=gl;obtain⟨m1,m2,m3,m4⟩:=gm;unfold dO at e2 e4;rcases Int.lt_or_eq_of_le hg with c|c
 .exfalso;have rl:=AT (ls:=ls) (show m.gate.toNat+1<=l.gate.toNat by omega);have hs:=tS ls m.gate.toNat;omega
 rw[c] at e4;exact⟨c.symm,aa⟩
theorem acZ(g:bQ F ls){w:List Nat}(hw:w∈eh (aY ls) (nD ls))(ru:(gC F ls w).places.length=1){x v:Nat}(hx:x∈w){fw:Bool}(ue:x=jf ls.length v fw){l:Let}(hl:ls[v]?=some l)(pl:l.aJ=true):
  ∃u m y,y∈w/\ls[u]?=some m/\m.aJ=true/\l.gate=m.gate/\((dn ls v=fw/\m.aE=l.aE+1/\y=dT ls.length u (!dn ls u))\/(dn ls v=(!fw)/\l.aE=m.aE+1/\y=dT ls.length u (dn ls u))):=by
 have ok:=g.ok;have mp:=maps ok;obtain⟨i1,i2⟩:=Ij ok hl pl;have hz:=Ao mp hw hx;rw[ue,Kw hl pl] at hz;by_cases cd:(dn ls v==fw)=true
 .rw[aD cd] at hz;have pE:(oz F ls ((aB ls).idxOf v)).length<=1:=by
   rw[<- ru];unfold gC;have:=(Xs (F:=F) (ls:=ls) w (Fc.new ls (w.headD 0))).2 _ hz aa;rwa[show(2*ls.length+2*(aB ls).idxOf v-2*ls.length)/2=(aB ls).idxOf v by omega] at this
  have hk:(aB ls).idxOf v+1<(aB ls).length:=by
   unfold oz at pE;simp only at pE;split at pE
   .assumption
   rw[eG,vO,vO] at pE;omega
  obtain⟨m,hm,pm⟩:=BP hk;have hg:m.gate<=l.gate:=by unfold oz at pE;simp only at pE;rw[aD hk,vO,i2,jN hk,zj hl,zj hm] at pE;have:=(ok.ax.eQ l (aW hl) pl).g0;have:=(ok.ax.eQ m (aW hm) pm).g0;omega
  obtain⟨r1,r2⟩:=Z8 ok hk i2 rfl hl hm pl pm hg;have wW:=Ao mp hw hz;rw[HE,jN hk] at wW;exact⟨_,m,_,wW,hm,pm,r1,.inl ⟨eq_of_beq cd,r2,rfl⟩⟩
 rw[ay cd] at hz;have A8:=ez ((aB ls).idxOf v+(aB ls).length-1) (show 0<(aB ls).length by omega);have hb:=vF i1;generalize ((aB ls).idxOf v+(aB ls).length-1)%(aB ls).length=k at hz A8 hb;have pE:(oz F ls k).length<=1:=by rw[<- ru];unfold gC;have:=(Xs (F:=F) (ls:=ls) w (Fc.new ls (w.headD 0))).2 _ hz aa;rwa[show(2*ls.length+2*k+1-2*ls.length)/2=k by omega] at this
 have hk:k+1<(aB ls).length:=by
  unfold oz at pE;simp only at pE;split at pE
  .assumption
  rw[eG,vO,vO] at pE;omega
 rw[jN hk] at hb;obtain⟨m,hm,pm⟩:=BP A8;have hg:l.gate<=m.gate:=by unfold oz at pE;simp only at pE;rw[aD hk,vO,jN hk,hb,i2,zj hl,zj hm] at pE;have:=(ok.ax.eQ l (aW hl) pl).g0;have:=(ok.ax.eQ m (aW hm) pm).g0;omega
 obtain⟨r1,r2⟩:=Z8 ok hk rfl (by rw[hb];exact i2) hm hl pm pl hg;have wW:=Ao mp hw hz;rw[HD] at wW;refine⟨_,m,_,wW,hm,pm,r1.symm,.inr ⟨?_,r2,rfl⟩⟩;revert cd;cases dn ls v<;>cases fw<;>simp
theorem VU{l:List Pc}{i:Nat}{r:Int}{p:Pc}(h:l[i]?=some p)(j:Nat):(iK l i r)[j]?=if j=i then some ⟨{p.l with aE:=r},p.d⟩ else l[j]? :=by
 have hl:=(bg.1 h).1;unfold iK;rw[cY,h,lZ,mC];by_cases c:j=i
 .subst c;rw[aD rfl,aD hl,aD rfl]
 rw[ay (Ne.symm c),ay c]
theorem VT{q:Pc->Bool}{l:List Pc}{i:Nat}{r:Int}{p:Pc}(h:l[i]?=some p)(hq:∀p:Pc,q ⟨{p.l with aE:=r},p.d⟩=q p):(iK l i r).countP q=l.countP q:=by unfold iK;rw[cY,h,lZ];have:=SO (p:=q) (y:=⟨{p.l with aE:=r},p.d⟩) h;rw[hq] at this;show List.countP q (l.set i ⟨{p.l with aE:=r},p.d⟩)=_;omega
theorem arR(g:bQ F ls){a b:Nat}(ha:a<ls.length)(hb:b<ls.length)(dX:a≠b){va vb pa pb:Nat}{la lb ma mb:Let}
  (ea:(pa=a/\va=nx ls a)\/(pa=nx ls a/\va=a)) (eb:(pb=b/\vb=nx ls b)\/(pb=nx ls b/\vb=b)) (o9:ls[va]?=some la) (yj:ls[vb]?=some lb) (zH:ls[pa]?=some ma) (zI:ls[pb]?=some mb)
  (ca:la.aG=true) (cb:lb.aG=true) (qa:ma.aJ=true) (qb:mb.aJ=true) (hid:la.id=lb.id) (hv:va≠vb) (Pv:rV F ls 1 [a,b] a=true):
  ∃w,w∈eh (aY ls) (nD ls)/\(gC F ls w).places.length=1/\ ∃d,d∈w/\d<2*ls.length/\aY ls d∈w/\aY ls d<2*ls.length/\(∀y,y∈w->y<2*ls.length->y=d\/y=aY ls d)/\
   ((d/2=a/\aY ls d/2=b/\oT ls.length d=pa/\oH ls.length d=va/\oT ls.length (aY ls d)=vb/\oH ls.length (aY ls d)=pb)\/(d/2=b/\aY ls d/2=a/\oT ls.length d=pb/\oH ls.length d=vb/\oT ls.length (aY ls d)=va/\oH ls.length (aY ls d)=pa)):=by
 have ok:=g.ok;obtain⟨w,hw,ru,hlen,hE⟩:=YC g ha Pv;obtain⟨da,AP,wx,AQ⟩:=hE a af;obtain⟨db,B9,xJ,AR⟩:=hE b af;have aI:da≠db:=aa;have inD:∀d,d∈w->d<2*ls.length->d∈w.filter fun x=>decide (x<2*ls.length):=fun d h1 h2=>vS.2 ⟨h1,by simpa using h2⟩;have two:∀d,d∈w->d<2*ls.length->d=da\/d=db:=fun d h1 h2=>ate hlen (inD da AP wx) (inD db B9 xJ) aI (inD d h1 h2);have ends:∀d e p v:Nat,d/2=e->((p=e/\v=nx ls e)\/(p=nx ls e/\v=e))->(oT ls.length d=p/\oH ls.length d=v)\/(oT ls.length d=v/\oH ls.length d=p):=fun d e p v h1 h2=>by
  unfold oT oH;rw[h1];show((if _ then e else nx ls e)=p/\(if _ then nx ls e else e)=v)\/((if _ then e else nx ls e)=v/\(if _ then nx ls e else e)=p);rcases h2 with ⟨rfl,rfl⟩|⟨rfl,rfl⟩<;>split
  .exact .inl ⟨rfl,rfl⟩
  .exact .inr ⟨rfl,rfl⟩
  .exact .inr ⟨rfl,rfl⟩
  exact .inl ⟨rfl,rfl⟩
 have pc:∀ {x y:Nat} {l m:Let},ls[x]?=some l->ls[y]?=some m->l.aG=true->m.aJ=true->x≠y:=fun h1 h2 h3 h4 e=>by subst e;rw[h1] at h2;have:=sR h2;rw[this,sD h4] at h3;cases h3
 -- a dart that leads to the crossing goes on at the other visit
 have go:∀(d d' p v p' v':Nat) (l m l' m':Let),d∈w->d<2*ls.length->d'<2*ls.length->oT ls.length d=p->oH ls.length d=v->ls[v]?=some l->ls[p]?=some m->ls[v']?=some l'->ls[p']?=some m'->l.aG=true->m.aJ=true->l'.aG=true->m'.aJ=true->l.id=l'.id->v≠v'->(∀y,y∈w->y<2*ls.length->y=d\/y=d')->((oT ls.length d'=p'/\oH ls.length d'=v')\/(oT ls.length d'=v'/\oH ls.length d'=p'))->aY ls d=d'/\oT ls.length d'=v'/\oH ls.length d'=p':=by
  intro d d' p v p' v' l m l' m' d1 d2 d2' hT hH hl hm vt tn cl pm cl' Kc hid hv tw en;obtain⟨s1,s2,_⟩:=Ix g d2 (by rw[hH];exact hl) cl;rw[hH,Kj g hl vt cl cl' hid hv] at s2;rcases tw _ (Ao (maps ok) hw d1) s1 with e|e
  .exfalso;rw[e,hT] at s2;exact pc vt hm cl' pm s2.symm
  rw[e] at s2;rcases en with ⟨e1,_⟩|⟨e1,e2⟩
  .exact absurd (s2.symm.trans e1) (pc vt tn cl' Kc)
  exact⟨e,e1,e2⟩
 have na:=ends da a pa va AQ ea;have nb:=ends db b pb vb AR eb;rcases na with ⟨t1,t2⟩|⟨t1,t2⟩
 .obtain⟨e1,e2,e3⟩:=go da db pa va pb vb la ma lb mb AP wx xJ t1 t2 o9 zH yj zI ca qa cb qb hid hv two nb;refine⟨w,hw,ru,da,AP,wx,by rw[e1];exact B9,by rw[e1];exact xJ,by rw[e1];exact two,.inl ⟨AQ,by rw[e1];exact AR,t1,t2,by rw[e1];exact e2,by rw[e1];exact e3⟩⟩
 · -- the dart of the first edge leads to the pass: the other one leads to the crossing
  obtain⟨u,m,y,y1,y2,y3,_,y4⟩:=acZ g hw ru AP (v:=pa) (fw:=bt da) (by rw[<- t2];exact S8 wx) zH qa;have hu:=(bg.1 y2).1;have yT:oT ls.length y=u/\y<2*ls.length:=by
   have key:∀f,oT ls.length (dT ls.length u f)=u/\dT ls.length u f<2*ls.length:=fun f=>⟨(OY hu).1,by
    have:=DR hu (!f);rw[<- Ai] at this;have:=Bs this;rwa[Dl] at this⟩
   rcases y4 with ⟨_,_,e⟩|⟨_,_,e⟩<;>rw[e]<;>exact key _
  have yb:y=db:=by
   rcases two y y1 yT.2 with e|e
   .exfalso;rw[e,t1] at yT;rw[<- yT.1] at y2;rw[o9] at y2;have:=sR y2;rw[<- this,vD ca] at y3;cases y3
   exact e
  have nb':oT ls.length db=pb/\oH ls.length db=vb:=by
   rcases nb with h|⟨h1,h2⟩
   .exact h
   exfalso;rw[yb,h1] at yT;rw[<- yT.1,yj] at y2;have:=sR y2;rw[<- this,vD cb] at y3;cases y3
  obtain⟨e1,e2,e3⟩:=go db da pb vb pa va lb mb la ma B9 xJ wx nb'.1 nb'.2 yj zI o9 zH cb qb ca qa hid.symm hv.symm (fun y h1 h2=>(two y h1 h2).symm) (.inr ⟨t1,t2⟩);refine⟨w,hw,ru,db,B9,xJ,by rw[e1];exact AP,by rw[e1];exact wx,by rw[e1];exact fun y h1 h2=>(two y h1 h2).symm,.inr ⟨AR,by rw[e1];exact AQ,nb'.1,nb'.2,by rw[e1];exact e2,by rw[e1];exact e3⟩⟩
end
section
variable {F:Nat} {ls:List Let}
theorem aeb{e:Nat}(hn:0<ls.length)(he:e<ls.length)(h:(dC ls e).2.2=true):(((dC ls e).1=e/\(dC ls e).2.1=nx ls e)\/((dC ls e).1=nx ls e/\(dC ls e).2.1=e))/\(∃l,ls[(dC ls e).2.1]?=some l/\l.aG=true)/\ ∃m,ls[(dC ls e).1]?=some m/\m.aJ=true:=by
 obtain⟨l,hl⟩:=aM he;obtain⟨m,hm⟩:=aM (ls:=ls) (k:=nx ls e) (ez _ hn);have e1:pA ls e=⟨l,iz ls e⟩:=qD (pP hl);have e2:pA ls (nx ls e)=⟨m,iz ls (nx ls e)⟩:=qD (pP hm);unfold dC at h ⊢;rw[e1,e2] at h ⊢;by_cases c:(l.kind==2)=true
 .rw[aD c] at h ⊢;exact⟨.inr ⟨rfl,rfl⟩,⟨l,hl,c⟩,m,hm,h⟩
 rw[ay c] at h ⊢;simp only[cN] at h;exact⟨.inl ⟨rfl,rfl⟩,⟨m,hm,h.2⟩,l,hl,h.1⟩
theorem ZS{f:Bool}{x y:bk}(h1:(fD f x).b=(fD f y).b)(h2:(gO f x).b=(gO f y).b):x.i.b=y.i.b/\x.o.b=y.o.b:=by
 rw[JD,JD] at h1;rw[JX,JX] at h2;cases f
 .exact⟨h2,h1⟩
 exact⟨h1,h2⟩
theorem ZQ{f:Bool}{x:bk}(h:(fD f x).b=(gO f x).b):x.i.b=x.o.b:=by
 rw[JD,JX] at h;cases f
 .exact h.symm
 exact h
theorem ZR{f:Bool}{x:bk}(h:x.i.b=x.o.b):(fD f x).b=(gO f x).b:=by
 rw[JD,JX];cases f
 .exact h.symm
 exact h
theorem XM{l:Let}{r:Int}(hp:l.aJ=true)(h:dA F l=false):dA F {l with aE:=r}=false:=by have iU:({l with aE:=r}:Let).aJ=true:=hp;rw[xg hp] at h;rw[xg iU];exact h
theorem X6(g:bQ F ls){w:List Nat}(hw:w∈eh (aY ls) (nD ls))(ru:(gC F ls w).places.length=1){d d':Nat}(hd:d∈w)(ld:d<2*ls.length)(zt:d'∈w)(He:d'<2*ls.length)(yn:aY ls d=d')(two:∀y,y∈w->y<2*ls.length->y=d\/y=d')
  {lp lv lw lq:Let} (vz:ls[oT ls.length d]?=some lp) (nU:ls[oH ls.length d]?=some lv) (ud:ls[oT ls.length d']?=some lw) (wL:ls[oH ls.length d']?=some lq) (pp:lp.aJ=true) (cv:lv.aG=true) (cw:lw.aG=true) (pq:lq.aJ=true)
  {P:List Pc} (Ci:P.length=ls.length) (vn:∀q:Let->Bool,(∀(l:Let) (r:Int),q {l with aE:=r}=q l)->aC q (P.map Pc.l)=aC q ls)
  (hP:oT ls.length d≠oH ls.length d'->P[oT ls.length d]?=(pieces ls)[oH ls.length d]? /\P[oH ls.length d]?=some ⟨{lp with aE:=lq.aE},iz ls (oT ls.length d)⟩/\P[oT ls.length d']?=some ⟨{lq with aE:=lp.aE},iz ls (oH ls.length d')⟩/\P[oH ls.length d']?=(pieces ls)[oT ls.length d']? /\
   ∀i,i≠oT ls.length d->i≠oH ls.length d->i≠oT ls.length d'->i≠oH ls.length d'->P[i]?=(pieces ls)[i]?):Cert F P:=by
 have ok:=g.ok;have cz:=g.cz;have hn:0<ls.length:=jl.2 g.ne;have t1:=Nk g ld;have t2:=Nk g He;have h1:=JU g ld;have h2:=JU g He
 -- the neighbours on the OK
 obtain⟨u,m,y,y1,y2,y3,nk,y4⟩:=acZ g hw ru zt (v:=oH ls.length d') (fw:=bt d') (S8 He) wL pq;have hu:=(bg.1 y2).1;have yT:∀f,oT ls.length (dT ls.length u f)=u/\bt (dT ls.length u f)=f/\dT ls.length u f<2*ls.length:=fun f=>⟨(OY hu).1,(OY hu).2,by
  have:=DR hu (!f);rw[<- Ai] at this;have:=Bs this;rwa[Dl] at this⟩
 have yd:y=d:=by
  have hyt:oT ls.length y=u/\y<2*ls.length:=by rcases y4 with ⟨_,_,e⟩|⟨_,_,e⟩<;>rw[e]<;>exact⟨(yT _).1,(yT _).2.2⟩
  rcases two y y1 hyt.2 with e|e
  .exact e
  exfalso;rw[e] at hyt;rw[<- hyt.1,ud] at y2;have:=sR y2;rw[<- this,vD cw] at y3;cases y3
 subst yd;have GS:oT ls.length y=u:=by rcases y4 with ⟨_,_,e⟩|⟨_,_,e⟩<;>rw[e]<;>exact(yT _).1
 subst GS;rw[vz] at y2;cases y2
 -- cR: fi the OK
 obtain⟨cR,hR⟩:∃cR:Bool,(cR=true/\dn ls (oH ls.length d')=bt d'/\lp.aE=lq.aE+1/\bt y= !dn ls (oT ls.length y))\/(cR=false/\dn ls (oH ls.length d')=(!bt d')/\lq.aE=lp.aE+1/\bt y=dn ls (oT ls.length y)):=by
  rcases y4 with ⟨e1,e2,e3⟩|⟨e1,e2,e3⟩
  .exact⟨true,.inl ⟨rfl,e1,e2,(congrArg bt e3).trans (yT _).2.1⟩⟩
  exact⟨false,.inr ⟨rfl,e1,e2,(congrArg bt e3).trans (yT _).2.1⟩⟩
 clear y4 yT y1 y3 hu;have mv:lp.aE≠lq.aE:=by rcases hR with ⟨_,_,h,_⟩|⟨_,_,h,_⟩<;>omega
 have npq:oT ls.length y≠oH ls.length d':=fun e=>by rw[e,wL] at vz;have:=sR vz;rw[this] at mv;exact mv rfl
 obtain⟨pT,pH,pT',pH',pU⟩:=hP npq;clear hP;obtain⟨_,o1,q1,k1⟩:=Ix g ld nU cv;rw[yn] at o1 q1 k1;rw[Ja ld,Kr He] at k1;obtain⟨xa,xb,xc,xd⟩:=k1;simp only[if_true] at xa xb xc xd;have pc:∀ {x y:Nat} {l m:Let},ls[x]?=some l->ls[y]?=some m->l.aG=true->m.aJ=true->x≠y:=fun h1 h2 h3 h4 e=>by subst e;rw[h1] at h2;have:=sR h2;rw[this,sD h4] at h3;cases h3
 have nvw:oH ls.length y≠oT ls.length d':=by intro e;obtain⟨_,m,hm,_,_,mo,_⟩:=sE ok.cr nU cv;rw[<- o1,<- e,nU] at hm;have:=sR hm;rw[<- this] at mo;revert mo;cases lv.over<;>simp
 have nvp:=pc nU vz cv pp;have nvq:=pc nU wL cv pq;have nwp:=pc ud vz cw pp;have nwq:=pc ud wL cw pq
 -- ends of the edges
 have ee:∀d:Nat,(oT ls.length d=d/2/\oH ls.length d=nx ls (d/2))\/(oT ls.length d=nx ls (d/2)/\oH ls.length d=d/2):=fun d=>by
  unfold oT oH nx;split
  .exact .inl ⟨rfl,rfl⟩
  exact .inr ⟨rfl,rfl⟩
 have apart:y/2≠d'/2/\y/2≠nx ls (d'/2)/\nx ls (y/2)≠d'/2/\nx ls (y/2)≠nx ls (d'/2)/\y/2≠nx ls (y/2)/\d'/2≠nx ls (d'/2):=by
  rcases ee y with ⟨a1,a2⟩|⟨a1,a2⟩<;>rcases ee d' with ⟨b1,b2⟩|⟨b1,b2⟩
  .rw[<- a2,<- a1,<- b2,<- b1];exact⟨nwp.symm,npq,nvw,nvq,nvp.symm,nwq⟩
  .rw[<- a2,<- a1,<- b1,<- b2];exact⟨npq,nwp.symm,nvq,nvw,nvp.symm,nwq.symm⟩
  .rw[<- a1,<- a2,<- b2,<- b1];exact⟨nvw,nvq,nwp.symm,npq,nvp,nwq⟩
  rw[<- a1,<- a2,<- b1,<- b2];exact⟨nvq,nvw,npq,nwp.symm,nvp,nwq.symm⟩
 let tau:=(oK ls y).l
 let tI:=fD (bt y) (dE ls (oT ls.length y))
 let hO:=gO (bt d') (dE ls (oH ls.length d'))
 let oth:=(gO (bt y) (dE ls (oH ls.length y))).r
 let K1:eO:=⟨hO.r,tau,tI.b⟩
 let K2:eO:=⟨tI.r,tau,hO.b⟩
 let sd:Nat->eO:=fun j=>if j=y/2 then uo (bt y) K1 else if j=d'/2 then uo (bt d') K2 else qF ls j
 have sd1:sd (y/2)=uo (bt y) K1:=aD rfl;have sd2:sd (d'/2)=uo (bt d') K2:=by show(if _ then _ else _)=_;rw[ay apart.1.symm,aD rfl]
 have sdn:∀j,j≠y/2->j≠d'/2->sd j=qF ls j:=fun j h1 h2=>by show(if _ then _ else _)=_;rw[ay h1,ay h2]
 have prev:∀i,i<ls.length->i≠nx ls (y/2)->i≠nx ls (d'/2)->sd ((i+ls.length-1)%ls.length)=qF ls ((i+ls.length-1)%ls.length):=fun i hi n1 n2=>sdn _ (fun h=>n1 (Lg hi h)) (fun h=>n2 (Lg hi h))
 obtain⟨z1,z2,z3,z4,z5,z6⟩:=apart;have G1:=Lz (P:=P) Ci ld sd1 (prev _ aa z5 z2) (sdn _ z5.symm z3);have G2:=Lz (P:=P) Ci He sd2 (prev _ aa z3.symm z6) (sdn _ z2.symm z6.symm);have un:∀i,i<ls.length->i≠oT ls.length y->i≠oH ls.length y->i≠oT ls.length d'->i≠oH ls.length d'->cE P sd i=dE ls i:=fun i hi n1 n2 n3 n4=>by
  have a1:i≠y/2/\i≠nx ls (y/2):=by
   rcases ee y with ⟨a1,a2⟩|⟨a1,a2⟩
   .rw[<- a2,<- a1];exact⟨n1,n2⟩
   rw[<- a1,<- a2];exact⟨n2,n1⟩
  have a2:i≠d'/2/\i≠nx ls (d'/2):=by
   rcases ee d' with ⟨a1,a2⟩|⟨a1,a2⟩
   .rw[<- a2,<- a1];exact⟨n3,n4⟩
   rw[<- a1,<- a2];exact⟨n4,n3⟩
  exact Zm Ci hi (pU i n1 n2 n3 n4) (prev i hi a1.2 a2.2) (sdn i a1.1 a2.1)
 have six:∀i,i<ls.length->(i=oT ls.length y\/i=oH ls.length y\/i=oT ls.length d'\/i=oH ls.length d')\/(cE P sd i=dE ls i/\i≠oT ls.length y/\i≠oH ls.length y/\i≠oT ls.length d'/\i≠oH ls.length d'):=fun i hi=>by
  rcases Classical.em (i=oT ls.length y\/i=oH ls.length y\/i=oT ls.length d'\/i=oH ls.length d') with h|h
  .exact .inl h
  simp only[Az] at h;exact .inr ⟨un i hi h.1 h.2.1 h.2.2.1 h.2.2.2,h⟩
 have gp:∀ {i:Nat} {p:Pc},P[i]?=some p->(cE P sd i).p=p:=fun {i p} h=>by show P.getD i _=_;rw[cY,h];rfl
 have kT:(cE P sd (oT ls.length y)).k=lv:=congrArg Pc.l (gp (pT.trans (pP nU)));have kH:(cE P sd (oH ls.length y)).k={lp with aE:=lq.aE}:=congrArg Pc.l (gp pH);have wZ:(cE P sd (oT ls.length d')).k={lq with aE:=lp.aE}:=congrArg Pc.l (gp pT');have E0:(cE P sd (oH ls.length d')).k=lw:=congrArg Pc.l (gp (pH'.trans (pP ud)));have dH:(cE P sd (oH ls.length y)).p.d=(dE ls (oT ls.length y)).p.d:=by rw[gp pH];rfl
 have BZ:(cE P sd (oT ls.length d')).p.d=(dE ls (oH ls.length d')).p.d:=by rw[gp pT'];rfl
 have okv:=(Ee g h1).cb (by rw[dU nU];exact cv);have okw:=(Ee g t2).cb (by rw[dU ud];exact cw);have bv:=ZR (f:=bt y) okv;have bw:=ZR (f:=bt d') okw;rw[Ja ld] at bv;rw[Kr He] at bw;have bp:=Kr (ls:=ls) ld;have bq:=Ja (ls:=ls) He;have gdp:=ok.ax.eQ lp (aW vz) pp;have gdq:=ok.ax.eQ lq (aW wL) pq;have plp:=O4 g vz pp;have plq:=O4 g wL pq;obtain⟨p1,p2,p3,p4⟩:=plp;obtain⟨p5,p6,p7,p8⟩:=plq;rw[dU vz] at p1 p2 p3 p4;rw[dU wL] at p5 p6 p7 p8;have mq:=O3 g vz pp;have Cs:=O3 g wL pq;rw[By (bt y)] at p1 p2;rw[Bh (bt y)] at p3 p4;rw[By (bt d')] at p5 p6;rw[Bh (bt d')] at p7 p8;rw[mq,bp] at p1 p2 p3 p4;rw[Cs,bq] at p5 p6 p7 p8;have cgq:cg ls lq.gate.toNat=cg ls lp.gate.toNat:=by rw[nk]
 obtain⟨gp0,gp1,gp2,gp3⟩:=gdp;obtain⟨gq0,gq1,gq2,gq3⟩:=gdq;rw[cgq] at gq3;rw[nk] at p5 p6 p7 p8;obtain⟨r,T',B',ig,r9,gK,hT,Ac,Di,tj⟩:∃(r:Nat) (T' B':Nat->Nat->Nat),1<=r/\r<cg ls lp.gate.toNat/\((lp.aE=(r:Int)/\lq.aE=(r:Int)+1)\/(lq.aE=(r:Int)/\lp.aE=(r:Int)+1))/\(∀k j,¬(k=lp.gate.toNat/\j=r)->T' k j=TF ls k j/\B' k j=BF ls k j)/\
   plE T' B' (cE P sd (oH ls.length y))/\plE T' B' (cE P sd (oT ls.length d'))/\tI.l=hO.l:=by
  rcases hR with ⟨_,dV,al8,dR⟩|⟨_,dV,al8,dR⟩
  .have f1:(bt y==dn ls (oT ls.length y))=false:=by rw[dR];cases dn ls (oT ls.length y)<;>rfl
   have f2:(bt d'==dn ls (oH ls.length d'))=true:=by rw[dV];cases bt d'<;>rfl
   rw[f1] at p1 p2 p3 p4;rw[f2] at p5 p6 p7 p8;simp only[dQ,if_false,if_true] at p1 p2 p3 p4 p5 p6 p7 p8;have er:lp.aE.toNat=lq.aE.toNat+1:=aa;rw[er] at p1 p2 p3 p4;rw[Nat.add_sub_cancel] at p1 p3;refine⟨lq.aE.toNat,fun k j=>if k=lp.gate.toNat/\j=lq.aE.toNat then oth else TF ls k j,fun k j=>if k=lp.gate.toNat/\j=lq.aE.toNat then tau else BF ls k j,aa,aa,.inr ⟨aa,aa⟩,fun k j h=>⟨ay h,ay h⟩,?_,?_,?_⟩
   .constructor
    .rw[kH,By (bt y),dH,mq,f1];show(iI (gO (bt y) (cE P sd (oH ls.length y)))).r=if lp.gate.toNat=lp.gate.toNat/\lq.aE.toNat-1=lq.aE.toNat then oth else TF ls lp.gate.toNat (lq.aE.toNat-1);rw[ay aa,G1.2.2.2];exact xd.symm.trans p5
    .rw[kH,By (bt y),dH,mq,f1];show(iI (gO (bt y) (cE P sd (oH ls.length y)))).l=if lp.gate.toNat=lp.gate.toNat/\lq.aE.toNat=lq.aE.toNat then oth else TF ls lp.gate.toNat lq.aE.toNat;rw[aD ⟨rfl,rfl⟩,G1.2.2.2];rfl
    .rw[kH,Bh (bt y),dH,mq,f1];show(iI (fD (bt y) (cE P sd (oH ls.length y)))).r=if lp.gate.toNat=lp.gate.toNat/\lq.aE.toNat-1=lq.aE.toNat then tau else BF ls lp.gate.toNat (lq.aE.toNat-1);rw[ay aa,G1.2.2.1];exact p7
    rw[kH,Bh (bt y),dH,mq,f1];show(iI (fD (bt y) (cE P sd (oH ls.length y)))).l=if lp.gate.toNat=lp.gate.toNat/\lq.aE.toNat=lq.aE.toNat then tau else BF ls lp.gate.toNat lq.aE.toNat;rw[aD ⟨rfl,rfl⟩,G1.2.2.1];rfl
   .constructor
    .rw[wZ,By (bt d'),BZ,Cs,f2];show(fD (bt d') (cE P sd (oT ls.length d'))).r=if lq.gate.toNat=lp.gate.toNat/\lp.aE.toNat-1=lq.aE.toNat then oth else TF ls lq.gate.toNat (lp.aE.toNat-1);rw[aD ⟨by rw[nk],aa⟩,G2.1];exact xb.symm
    .rw[wZ,By (bt d'),BZ,Cs,f2];show(fD (bt d') (cE P sd (oT ls.length d'))).l=if lq.gate.toNat=lp.gate.toNat/\lp.aE.toNat=lq.aE.toNat then oth else TF ls lq.gate.toNat lp.aE.toNat;rw[ay aa,G2.1,nk,er];exact xc.trans p2
    .rw[wZ,Bh (bt d'),BZ,Cs,f2];show(gO (bt d') (cE P sd (oT ls.length d'))).r=if lq.gate.toNat=lp.gate.toNat/\lp.aE.toNat-1=lq.aE.toNat then tau else BF ls lq.gate.toNat (lp.aE.toNat-1);rw[aD ⟨by rw[nk],aa⟩,G2.2.1]
    rw[wZ,Bh (bt d'),BZ,Cs,f2];show(gO (bt d') (cE P sd (oT ls.length d'))).l=if lq.gate.toNat=lp.gate.toNat/\lp.aE.toNat=lq.aE.toNat then tau else BF ls lq.gate.toNat lp.aE.toNat;rw[ay aa,G2.2.1,nk,er];exact p4
   exact p3.trans p8.symm
  have f1:(bt y==dn ls (oT ls.length y))=true:=by rw[dR];cases dn ls (oT ls.length y)<;>rfl
  have f2:(bt d'==dn ls (oH ls.length d'))=false:=by rw[dV];cases bt d'<;>rfl
  rw[f1] at p1 p2 p3 p4;rw[f2] at p5 p6 p7 p8;simp only[dQ,if_false,if_true] at p1 p2 p3 p4 p5 p6 p7 p8;have er:lq.aE.toNat=lp.aE.toNat+1:=aa;rw[er] at p5 p6 p7 p8;rw[Nat.add_sub_cancel] at p5 p7;refine⟨lp.aE.toNat,fun k j=>if k=lp.gate.toNat/\j=lp.aE.toNat then tau else TF ls k j,fun k j=>if k=lp.gate.toNat/\j=lp.aE.toNat then oth else BF ls k j,aa,aa,.inl ⟨aa,aa⟩,fun k j h=>⟨ay h,ay h⟩,?_,?_,?_⟩
  .constructor
   .rw[kH,By (bt y),dH,mq,f1];show(fD (bt y) (cE P sd (oH ls.length y))).r=if lp.gate.toNat=lp.gate.toNat/\lq.aE.toNat-1=lp.aE.toNat then tau else TF ls lp.gate.toNat (lq.aE.toNat-1);rw[aD ⟨rfl,aa⟩,G1.2.2.1]
   .rw[kH,By (bt y),dH,mq,f1];show(fD (bt y) (cE P sd (oH ls.length y))).l=if lp.gate.toNat=lp.gate.toNat/\lq.aE.toNat=lp.aE.toNat then tau else TF ls lp.gate.toNat lq.aE.toNat;rw[ay aa,G1.2.2.1,er];exact p6
   .rw[kH,Bh (bt y),dH,mq,f1];show(gO (bt y) (cE P sd (oH ls.length y))).r=if lp.gate.toNat=lp.gate.toNat/\lq.aE.toNat-1=lp.aE.toNat then oth else BF ls lp.gate.toNat (lq.aE.toNat-1);rw[aD ⟨rfl,aa⟩,G1.2.2.2]
   rw[kH,Bh (bt y),dH,mq,f1];show(gO (bt y) (cE P sd (oH ls.length y))).l=if lp.gate.toNat=lp.gate.toNat/\lq.aE.toNat=lp.aE.toNat then oth else BF ls lp.gate.toNat lq.aE.toNat;rw[ay aa,G1.2.2.2,er];exact xd.symm.trans p8
  .constructor
   .rw[wZ,By (bt d'),BZ,Cs,f2];show(iI (gO (bt d') (cE P sd (oT ls.length d')))).r=if lq.gate.toNat=lp.gate.toNat/\lp.aE.toNat-1=lp.aE.toNat then tau else TF ls lq.gate.toNat (lp.aE.toNat-1);rw[ay aa,G2.2.1,nk];exact p1
   .rw[wZ,By (bt d'),BZ,Cs,f2];show(iI (gO (bt d') (cE P sd (oT ls.length d')))).l=if lq.gate.toNat=lp.gate.toNat/\lp.aE.toNat=lp.aE.toNat then tau else TF ls lq.gate.toNat lp.aE.toNat;rw[aD ⟨by rw[nk],rfl⟩,G2.2.1];rfl
   .rw[wZ,Bh (bt d'),BZ,Cs,f2];show(iI (fD (bt d') (cE P sd (oT ls.length d')))).r=if lq.gate.toNat=lp.gate.toNat/\lp.aE.toNat-1=lp.aE.toNat then oth else BF ls lq.gate.toNat (lp.aE.toNat-1);rw[ay aa,G2.1,nk];exact xc.trans p3
   rw[wZ,Bh (bt d'),BZ,Cs,f2];show(iI (fD (bt d') (cE P sd (oT ls.length d')))).l=if lq.gate.toNat=lp.gate.toNat/\lp.aE.toNat=lp.aE.toNat then oth else BF ls lq.gate.toNat lp.aE.toNat;rw[aD ⟨by rw[nk],rfl⟩,G2.1];exact xb.symm
  exact p2.trans p5.symm
 clear p1 p2 p3 p4 p5 p6 p7 p8 hR;have mgp:∀i,i<ls.length->(cE P sd i).k.aJ=true->(i=oH ls.length y\/i=oT ls.length d')\/(cE P sd i=dE ls i/\i≠oT ls.length y/\i≠oH ls.length y/\i≠oT ls.length d'/\i≠oH ls.length d'):=fun i hi hp=>by
  rcases six i hi with (rfl|rfl|rfl|rfl)|h
  .rw[kT,vD cv] at hp;cases hp
  .exact .inl (.inl rfl)
  .exact .inl (.inr rfl)
  .rw[E0,vD cw] at hp;cases hp
  exact .inr h
 have mgc:∀i,i<ls.length->(cE P sd i).k.aG=true->(i=oT ls.length y\/i=oH ls.length d')\/(cE P sd i=dE ls i/\i≠oT ls.length y/\i≠oH ls.length y/\i≠oT ls.length d'/\i≠oH ls.length d'):=fun i hi hc=>by
  have n1:∀(l:Let) (r:Int),l.aJ=true->({l with aE:=r}:Let).aG=false:=fun l r h=>sD (l:={l with aE:=r}) h;rcases six i hi with (rfl|rfl|rfl|rfl)|h
  .exact .inl (.inl rfl)
  .rw[kH,n1 _ _ pp] at hc;cases hc
  .rw[wZ,n1 _ _ pq] at hc;cases hc
  .exact .inl (.inr rfl)
  exact .inr h
 -- the place of a pass is that of an old one
 have old:∀i,i<ls.length->(cE P sd i).k.aJ=true->∃j l,ls[j]?=some l/\l.aJ=true/\(cE P sd i).k.gate=l.gate/\(cE P sd i).k.aE=l.aE/\((i=oH ls.length y/\j=oH ls.length d')\/(i=oT ls.length d'/\j=oT ls.length y)\/(i=j/\i≠oT ls.length y/\i≠oH ls.length d')):=fun i hi hp=>by
  rcases mgp i hi hp with (rfl|rfl)|⟨e,n1,n2,n3,n4⟩
  .exact⟨_,lq,wL,pq,by rw[kH];exact nk.symm,by rw[kH],.inl ⟨rfl,rfl⟩⟩
  .exact⟨_,lp,vz,pp,by rw[wZ];exact nk,by rw[wZ],.inr (.inl ⟨rfl,rfl⟩)⟩
  obtain⟨l,hl⟩:=aM hi;rw[e] at hp;rw[dU hl] at hp;exact⟨i,l,hl,hp,by rw[e,dU hl],by rw[e,dU hl],.inr (.inr ⟨rfl,n1,n4⟩)⟩
 have C1:Xc (cE P sd (oT ls.length y)) (cE P sd (oH ls.length d')):=by
  obtain⟨b1,m,hm,mc,mi,mo,ms⟩:=sE ok.cr nU cv;rw[<- o1,ud] at hm;have em:=sR hm;subst em;refine⟨by rw[kT,E0,mo];simp,by rw[kT,E0,ms],?_⟩;rw[kT,q1,<- Si,G1.1,G1.2.1,G2.2.2.1,G2.2.2.2];constructor<;>simp only[if_true]
  .exact tj
  .rfl
  .rfl
  rfl
 have hid:lv.id=lw.id:=by obtain⟨b1,m,hm,mc,mi,mo,ms⟩:=sE ok.cr nU cv;rw[<- o1,ud] at hm;rw[sR hm,mi]
 have ho2:hJ ls (oT ls.length d')=oH ls.length y:=by rw[o1];exact(sE ok.cr nU cv).1
 have labs:∀(f:Bool) i,i<ls.length->∀t,t=(fD f (cE P sd i)).l\/t=(fD f (cE P sd i)).r->∃j',j'<ls.length/\(t=(sd j').l\/t=(sd j').r):=fun f i hi t ht=>by
  cases f
  .refine⟨i,hi,?_⟩;rcases ht with ht|ht
   .exact .inr ht
   exact .inl ht
  refine⟨(i+P.length-1)%P.length,?_,ht⟩;rw[Ci];exact ez _ hn
 have labo:∀(f:Bool) i,i<ls.length->∀t,t=(gO f (cE P sd i)).l\/t=(gO f (cE P sd i)).r->∃j',j'<ls.length/\(t=(sd j').l\/t=(sd j').r):=fun f i hi t ht=>by
  cases f
  .refine⟨(i+P.length-1)%P.length,?_,?_⟩
   .rw[Ci];exact ez _ hn
   rcases ht with ht|ht
   .exact .inr ht
   exact .inl ht
  exact⟨i,hi,ht⟩
 have czgt:=cz.gt;have czgz:=cz.gz;rw[tD] at czgz;refine X7 g (tau:=tau) (sd:=sd) (T':=T') (B':=B') Ci (vn _ fun _ _=>rfl) (vn _ fun _ _=>rfl) (fun k=>vn _ fun _ _=>rfl) (fun i hi=>?_) (fun i j hi hj eU ci cj e=>?_) (fun i j hi hj eU pi pj e1 e2=>?_) (fun i hi ci=>?_) (fun i hi pi=>?_) (fun i hi pi=>?_) (fun k hk=>?_) ?_ (fun j hj t ht=>?_)
 .rcases six i hi with (rfl|rfl|rfl|rfl)|⟨e,_⟩
  .exact⟨by rw[kT];exact g.bad lv (aW nU),fun _=>ZQ (f:=bt y) (by rw[G1.1,G1.2.1]),fun hp=>by rw[kT,vD cv] at hp;cases hp⟩
  .have fl:=ZS (f:=bt y) (x:=cE P sd (oH ls.length y)) (y:=dE ls (oT ls.length y)) (by rw[G1.2.2.1]) (by rw[G1.2.2.2,bp];exact bv.symm);refine⟨by rw[kH];exact XM pp (g.bad lp (aW vz)),fun hc=>?_,fun _=>?_⟩
   .rw[kH] at hc;have:=sD (l:={lp with aE:=lq.aE}) pp;rw[this] at hc;cases hc
   rw[fl.1,fl.2,dH];exact(Ee g t1).pb (by rw[dU vz];exact pp)
  .have fl:=ZS (f:=bt d') (x:=cE P sd (oT ls.length d')) (y:=dE ls (oH ls.length d')) (by rw[G2.1,bq];exact bw) (by rw[G2.2.1]);refine⟨by rw[wZ];exact XM pq (g.bad lq (aW wL)),fun hc=>?_,fun _=>?_⟩
   .rw[wZ] at hc;have:=sD (l:={lq with aE:=lp.aE}) pq;rw[this] at hc;cases hc
   rw[fl.1,fl.2,BZ];exact(Ee g h2).pb (by rw[dU wL];exact pq)
  .exact⟨by rw[E0];exact g.bad lw (aW ud),fun _=>ZQ (f:=bt d') (by rw[G2.2.2.1,G2.2.2.2]),fun hp=>by rw[E0,vD cw] at hp;cases hp⟩
  rw[e];exact Ee g hi
 .rcases mgc i hi ci with (rfl|rfl)|⟨ei,n1,n2,n3,n4⟩<;>rcases mgc j hj cj with (rfl|rfl)|⟨ej,m1,m2,m3,m4⟩
  .exact absurd rfl eU
  .exact C1
  .exfalso;obtain⟨l,hl⟩:=aM hj;rw[kT,ej,dU hl] at e;rw[ej,dU hl] at cj;have:=Kj g nU hl cv cj e m2.symm;rw[<- o1] at this;exact m3 this.symm
  .exact C1.symm
  .exact absurd rfl eU
  .exfalso;obtain⟨l,hl⟩:=aM hj;rw[E0,ej,dU hl] at e;rw[ej,dU hl] at cj;have:=Kj g ud hl cw cj e m3.symm;rw[ho2] at this;exact m2 this.symm
  .exfalso;obtain⟨l,hl⟩:=aM hi;rw[kT,ei,dU hl] at e;rw[ei,dU hl] at ci;have:=Kj g nU hl cv ci e.symm n2.symm;rw[<- o1] at this;exact n3 this.symm
  .exfalso;obtain⟨l,hl⟩:=aM hi;rw[E0,ei,dU hl] at e;rw[ei,dU hl] at ci;have:=Kj g ud hl cw ci e.symm n3.symm;rw[ho2] at this;exact n2 this.symm
  rw[ei] at ci e ⊢;rw[ej] at cj e ⊢;exact Ly g hi hj eU ci cj e
 .obtain⟨a,l,hl,_,LN,sG,c1⟩:=old i hi pi;obtain⟨b,m,hm,_,g2',tA,c2⟩:=old j hj pj;rename_i pl' Kc;have dX:a≠b:=by
   intro e;rcases c1 with ⟨i1,j1⟩|⟨i1,j1⟩|⟨i1,i2,i3⟩<;>rcases c2 with ⟨k1,k2⟩|⟨k1,k2⟩|⟨k1,k2,k3⟩
   .exact eU (i1.trans k1.symm)
   .exact npq (by rw[<- k2,<- e,j1])
   .exact k3 (by rw[k1,<- e,j1])
   .exact npq (by rw[<- j1,e,k2])
   .exact eU (i1.trans k1.symm)
   .exact k2 (by rw[k1,<- e,j1])
   .exact i3 (by rw[i1,e,k2])
   .exact i2 (by rw[i1,e,k2])
   exact eU (by rw[i1,k1,e])
  have gl:=ok.ax.eQ l (aW hl) pl';have gm:=ok.ax.eQ m (aW hm) Kc;exact dX (ok.ax.inj a b l m hl hm pl' Kc ((Fu gl gm).2 ⟨by rw[<- LN,<- g2',e1],by rw[<- sG,<- tA,e2]⟩))
 .rcases mgc i hi ci with (rfl|rfl)|⟨ei,_⟩
  .rw[kT];exact g.ids.1 lv (aW nU) cv
  .rw[E0];exact g.ids.1 lw (aW ud) cw
  obtain⟨l,hl⟩:=aM hi;rw[ei,dU hl] at ci ⊢;exact g.ids.1 l (aW hl) ci
 .obtain⟨a,l,hl,pl',LN,sG,_⟩:=old i hi pi;rw[LN,sG];obtain⟨_,_,b1,b2⟩:=ok.ax.eQ l (aW hl) pl';exact⟨b1,b2⟩
 .rcases mgp i hi pi with (rfl|rfl)|⟨ei,n1,n2,n3,n4⟩
  .exact Ac
  .exact Di
  obtain⟨l,hl⟩:=aM hi;rw[ei] at pi ⊢;rw[dU hl] at pi;obtain⟨a1,a2,a3,a4⟩:=O4 g hl pi;rw[dU hl] at a1 a2 a3 a4;obtain⟨b0,_,b1,b2⟩:=ok.ax.eQ l (aW hl) pi;have far:l.gate.toNat=lp.gate.toNat->l.aE.toNat≠r/\l.aE.toNat-1≠r:=fun iB=>by have gg:l.gate=lp.gate:=aa;have d1:l.aE≠lp.aE:=fun e=>n1 (ok.ax.inj i _ l lp hl vz pi pp ((Fu (ok.ax.eQ l (aW hl) pi) (ok.ax.eQ lp (aW vz) pp)).2 ⟨gg,e⟩));have d2:l.aE≠lq.aE:=fun e=>n4 (ok.ax.inj i _ l lq hl wL pi pq ((Fu (ok.ax.eQ l (aW hl) pi) (ok.ax.eQ lq (aW wL) pq)).2 ⟨by rw[gg,nk],e⟩));rcases gK with ⟨s1,s2⟩|⟨s1,s2⟩<;>omega
  have v1:=hT l.gate.toNat (l.aE.toNat-1) (fun⟨h1,h2⟩=>(far h1).2 h2);have v2:=hT l.gate.toNat l.aE.toNat (fun⟨h1,h2⟩=>(far h1).1 h2);constructor
  .rw[dU hl,v1.1];exact a1
  .rw[dU hl,v2.1];exact a2
  .rw[dU hl,v1.2];exact a3
  rw[dU hl,v2.2];exact a4
 .have:=czgt k hk;rw[tD] at this;have v1:=hT k (cg ls k) (fun⟨h1,h2⟩=>by rw[h1] at h2;omega);have v2:=hT (k+1) 0 (fun⟨_,h2⟩=>aa);rw[v1.1,v1.2,v2.1,v2.2];exact this
 .have v1:=hT F (cg ls F) (fun⟨h1,h2⟩=>by rw[h1] at h2;omega);have v2:=hT 0 0 (fun⟨_,h2⟩=>aa);rw[v1.1,v1.2,v2.1,v2.2];exact czgz
 have viaK:∀d,j=d/2->t=(oK ls d).l\/t=(oK ls d).r:=fun d hd=>by
  rw[hd] at ht;unfold oK;split
  .exact ht
  exact ht.symm
 by_cases n1:j=y/2
 .rcases viaK y n1 with h|h
  .exact .inl h
  exact .inr (labs (bt d') _ t2 t (.inl (by rw[G2.1,h];exact xc.symm)))
 by_cases n2:j=d'/2
 .rcases viaK d' n2 with h|h
  .exact .inl (h.trans xa.symm)
  exact .inr (labo (bt y) _ h1 t (.inl (by rw[G1.2.2.2,h];exact xd)))
 exact .inr ⟨j,hj,by rw[sdn j n1 n2];exact ht⟩
theorem aie(g:bQ F ls){a b:Nat}(ha:a<ls.length)(hb:b<ls.length)(dX:a≠b){L:List Pc}(h:uy F ls a b=some L):Cert F L:=by
 unfold uy at h;split at h
 case isFalse=>cases h
 rename_i hc;simp only[cN,sM,tF,dL] at hc;obtain⟨h1,h2,h3,h4,h5⟩:=hc;cases h;have hn:0<ls.length:=jl.2 g.ne;have cK:=jJ ls;obtain⟨ea,⟨la,o9,ca⟩,ma,zH,qa⟩:=aeb hn ha h1;obtain⟨eb,⟨lb,yj,cb⟩,mb,zI,qb⟩:=aeb hn hb h2;generalize (dC ls a).1=pa at*;generalize (dC ls a).2.1=va at*;generalize (dC ls b).1=pb at*;generalize (dC ls b).2.1=vb at*;have eva:pA ls va=⟨la,iz ls va⟩:=qD (pP o9);have evb:pA ls vb=⟨lb,iz ls vb⟩:=qD (pP yj);have epa:pA ls pa=⟨ma,iz ls pa⟩:=qD (pP zH);have epb:pA ls pb=⟨mb,iz ls pb⟩:=qD (pP zI);rw[eva,evb] at h4;rw[epa,epb]
 obtain⟨w,hw,ru,d,d1,d2,d3,d4,two,cs⟩:=arR g ha hb dX ea eb o9 yj zH zI ca cb qa qb h4 h3 h5;have pc:∀ {x y:Nat} {l m:Let},ls[x]?=some l->ls[y]?=some m->l.aG=true->m.aJ=true->x≠y:=fun h1 h2 h3 h4 e=>by subst e;rw[h1] at h2;have:=sR h2;rw[this,sD h4] at h3;cases h3
 have nva:va≠pa:=pc o9 zH ca qa;have nvb:vb≠pb:=pc yj zI cb qb;have nvab:va≠pb:=pc o9 zI ca qb;have nvba:vb≠pa:=pc yj zH cb qa
 let PP:=iK (iK (pieces ls) pa mb.aE) pb ma.aE
 have Un:=pP zH;have al6:pa≠pb->(iK (pieces ls) pa mb.aE)[pb]?=some ⟨mb,iz ls pb⟩:=fun aI=>by rw[VU Un,ay aI.symm];exact pP zI
 have al7:∃p,(iK (pieces ls) pa mb.aE)[pb]?=some p:=aM (by rw[Bt,cK];exact(bg.1 zI).1);have Pq:PP.length=ls.length:=by show(iK (iK _ _ _) _ _).length=_;rw[Bt,Bt,cK]
 have e1:(gk ls PP a).length=ls.length:=by rw[HC,Pq]
 have Ci:(im ls PP [a,b]).length=ls.length:=by rw[Bw,Pq]
 have vn:∀q:Let->Bool,(∀(l:Let) (r:Int),q {l with aE:=r}=q l)->aC q ((im ls PP [a,b]).map Pc.l)=aC q ls:=fun q hq=>by rw[<- VA (ls:=ls) q];show List.countP _ _=List.countP _ _;rw[KJ,KJ];show(gk ls (gk ls PP a) b).countP _=_;obtain⟨p,hp⟩:=al7;rw[Kq e1 hb (Vj g hb),Kq Pq ha (Vj g ha),VT hp (fun p=>hq _ _),VT Un (fun p=>hq _ _)]
 have PPg:pa≠pb->PP[pa]?=some ⟨{ma with aE:=mb.aE},iz ls pa⟩/\PP[pb]?=some ⟨{mb with aE:=ma.aE},iz ls pb⟩/\ ∀i,i≠pa->i≠pb->PP[i]?=(pieces ls)[i]? :=fun aI=>by
  have k:∀j,PP[j]?=if j=pb then some ⟨{mb with aE:=ma.aE},iz ls pb⟩ else if j=pa then some ⟨{ma with aE:=mb.aE},iz ls pa⟩ else (pieces ls)[j]? :=fun j=>by show(iK (iK _ _ _) _ _)[j]?=_;rw[VU (al6 aI),VU Un]
  refine⟨by rw[k,ay aI,aD rfl],by rw[k,aD rfl],fun i n1 n2=>by rw[k,ay n2,ay n1]⟩
 have swg:pa≠pb->(im ls PP [a,b])[pa]?=PP[va]? /\(im ls PP [a,b])[va]?=PP[pa]? /\(im ls PP [a,b])[pb]?=PP[vb]? /\(im ls PP [a,b])[vb]?=PP[pb]? /\ ∀i,i≠pa->i≠va->i≠pb->i≠vb->(im ls PP [a,b])[i]?=PP[i]? :=fun aI=>by
  have k:∀i,(im ls PP [a,b])[i]?=if i=nx ls b then (gk ls PP a)[b]? else if i=b then (gk ls PP a)[nx ls b]? else (gk ls PP a)[i]? :=fun i=>NR e1 hb i;have k2:∀i,(gk ls PP a)[i]?=if i=nx ls a then PP[a]? else if i=a then PP[nx ls a]? else PP[i]? :=fun i=>NR Pq ha i;have ka:∀i,i≠pa->i≠va->(gk ls PP a)[i]?=PP[i]? :=fun i n1 n2=>by
   rcases ea with ⟨q1,q2⟩|⟨q1,q2⟩
   .rw[k2,ay (by rw[<- q2];exact n2),ay (by rw[<- q1];exact n1)]
   rw[k2,ay (by rw[<- q1];exact n1),ay (by rw[<- q2];exact n2)]
  have kb:∀i,i≠pb->i≠vb->(im ls PP [a,b])[i]?=(gk ls PP a)[i]? :=fun i n1 n2=>by
   rcases eb with ⟨q1,q2⟩|⟨q1,q2⟩
   .rw[k,ay (by rw[<- q2];exact n2),ay (by rw[<- q1];exact n1)]
   rw[k,ay (by rw[<- q1];exact n1),ay (by rw[<- q2];exact n2)]
  have ka2:(gk ls PP a)[pa]?=PP[va]? /\(gk ls PP a)[va]?=PP[pa]? :=by
   rcases ea with ⟨q1,q2⟩|⟨q1,q2⟩
   .exact⟨by rw[k2,ay (by rw[<- q2];exact nva.symm),aD q1,<- q2],by rw[k2,aD q2,<- q1]⟩
   exact⟨by rw[k2,aD q1,<- q2],by rw[k2,ay (by rw[<- q1];exact nva),aD q2,<- q1]⟩
  have M3:(im ls PP [a,b])[pb]?=(gk ls PP a)[vb]? /\(im ls PP [a,b])[vb]?=(gk ls PP a)[pb]? :=by
   rcases eb with ⟨q1,q2⟩|⟨q1,q2⟩
   .exact⟨by rw[k,ay (by rw[<- q2];exact nvb.symm),aD q1,<- q2],by rw[k,aD q2,<- q1]⟩
   exact⟨by rw[k,aD q1,<- q2],by rw[k,ay (by rw[<- q1];exact nvb),aD q2,<- q1]⟩
  refine⟨by rw[kb _ aI nvba.symm,ka2.1],by rw[kb _ nvab h3,ka2.2],by rw[M3.1,ka _ nvba (Ne.symm h3)],by rw[M3.2,ka _ aI.symm nvab.symm],fun i n1 n2 n3 n4=>by rw[kb i n3 n4,ka i n1 n2]⟩
 rcases cs with ⟨c1,c2,c3,c4,c5,c6⟩|⟨c1,c2,c3,c4,c5,c6⟩
 .refine X6 g hw ru d1 d2 d3 d4 rfl two (lp:=ma) (lv:=la) (lw:=lb) (lq:=mb) (by rw[c3];exact zH) (by rw[c4];exact o9) (by rw[c5];exact yj) (by rw[c6];exact zI) qa ca cb qb Ci vn fun aI=>?_;rw[c3,c4,c5,c6] at*;obtain⟨g1,g2,g3⟩:=PPg aI;obtain⟨s1,s2,s3,s4,s5⟩:=swg aI;exact⟨by rw[s1,g3 _ nva nvab],by rw[s2,g1],by rw[s4,g2],by rw[s3,g3 _ nvba nvb],fun i n1 n2 n3 n4=>by rw[s5 i n1 n2 n4 n3,g3 i n1 n4]⟩
 refine X6 g hw ru d1 d2 d3 d4 rfl two (lp:=mb) (lv:=lb) (lw:=la) (lq:=ma) (by rw[c3];exact zI) (by rw[c4];exact yj) (by rw[c5];exact o9) (by rw[c6];exact zH) qb cb ca qa Ci vn fun aI=>?_;rw[c3,c4,c5,c6] at*;obtain⟨g1,g2,g3⟩:=PPg aI.symm;obtain⟨s1,s2,s3,s4,s5⟩:=swg aI.symm;exact⟨by rw[s3,g3 _ nvba nvb],by rw[s4,g2],by rw[s2,g1],by rw[s1,g3 _ nva nvab],fun i n1 n2 n3 n4=>by rw[s5 i n4 n3 n1 n2,g3 i n4 n1]⟩
end
end Go.Abs
