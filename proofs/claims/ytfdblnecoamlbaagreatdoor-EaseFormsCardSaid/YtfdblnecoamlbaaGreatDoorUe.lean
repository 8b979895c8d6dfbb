/- A part. -/
import Derived.Test.YtfdblnecoamlbaaGreatDoorUc
import Derived.Test.YtfdblnecoamlbaaGreatDoorVb
set_option linter.all false
set_option maxHeartbeats 16000000
namespace Go.Abs
def X4.P0{g:Bool}{i o j q:eG}(h:X4 g i o j q):X4 (!g) (jh o) (jh i) j q:=by obtain⟨a,b,c,d⟩:=h;cases g<;>simp only[dN,if_false,if_true] at a b c d<;>constructor<;>simp[jh,a,b,c,d]
def X4.P9{g:Bool}{i o j q:eG}(h:X4 g i o j q):X4 (!g) i o (jh q) (jh j):=by obtain⟨a,b,c,d⟩:=h;cases g<;>simp only[dN,if_false,if_true] at a b c d<;>constructor<;>simp[jh,a,b,c,d]
def fN(f:Bool)(x:aQ):eG:=if f then x.i else jh x.o
def iN(f:Bool)(x:aQ):eG:=if f then x.o else jh x.i
def SY{f f':Bool}{x y:aQ}:X4 true (fN f x) (iN f x) (fN f' y) (iN f' y)↔X4 (f==f') x.i x.o y.i y.o:=by
 cases f<;>cases f'<;>simp only[fN,iN,dN,if_false,if_true]
 .exact⟨fun h=>h.P0.P9,fun h=>h.P0.P9⟩
 .exact⟨fun h=>h.P0,fun h=>h.P0⟩
 .exact⟨fun h=>h.P9,fun h=>h.P9⟩
 exact Iff.rfl
def oT (n d:Nat):Nat:=if d%2=0 then d/2 else (d/2+1)%n
def oH (n d:Nat):Nat:=if d%2=0 then (d/2+1)%n else d/2
def bn(d:Nat):Bool:=d%2==0
section
variable {F:Nat} {ls:ai}
def cG(P:c_)(sd:Nat->eG)(i:Nat):aQ:=⟨P.getD i ⟨lX,false⟩,sd ((i+P.length-1)%P.length),sd i⟩
def zG (P:c_)(sd:Nat->eG):l_:=(List.range P.length).map (cG P sd)
def aiQ(P:c_)(sd:Nat->eG):(zG P sd).map aQ.p=P:=by
 unfold zG;rw[ue];apply Bb;intro i;rw[fG];by_cases hi:i<P.length
 .obtain⟨p,hp⟩:=aM hi;rw[u5 hi,hp];show some (P.getD i _)=_;rw[dA,hp];rfl
 rw[qp (by rw[Ek];omega),qp aa];rfl
def av3(P:c_)(sd:Nat->eG)(h:0<P.length):∃s,kN s (zG P sd) s:=by
 refine⟨sd (P.length-1),?_⟩;have:=agN (cG P sd) (fun i=>sd ((i+P.length-1)%P.length)) P.length 0 fun i _ hi=>⟨rfl,?_⟩
 .simp only[js] at this;rw[gY aa,show P.length+P.length-1=(P.length-1)+P.length by omega,qV,gY aa,<- List.range_eq_range'] at this;exact this
 show sd i=sd ((i+1+P.length-1)%P.length);rw[show i+1+P.length-1=i+P.length by omega,qV,gY aa]
def aav(g:cX F ls){P:c_}{sd:Nat->eG}{T' B':Nat->Nat->Nat}{tau:Nat}(hl:P.length=ls.length)
  (hC:aq Let.aA (P.map Pc.l)=aq Let.aA ls) (hP:aq Let.aE (P.map Pc.l)=aq Let.aE ls) (hG:∀k,cg (P.map Pc.l) k=cg ls k)
  (ok:∀i,i<ls.length->AU F (cG P sd i)) (cr:∀i j,i<ls.length->j<ls.length->i≠j->Xr (cG P sd i) (cG P sd j)) (rk:∀i j,i<ls.length->j<ls.length->i≠j->Dr (cG P sd i) (cG P sd j))
  (ids:∀i,i<ls.length->(cG P sd i).k.aA=true->1<=(cG P sd i).k.id/\(cG P sd i).k.id<=((aq Let.aA ls/2:Nat):Int))
  (rr:∀i,i<ls.length->(cG P sd i).k.aE=true->1<=(cG P sd i).k.aC/\(cG P sd i).k.aC<=(cg ls (cG P sd i).k.gate.toNat:Int))
  (pl:∀i,i<ls.length->(cG P sd i).k.aE=true->Ie T' B' (cG P sd i))
  (gt:∀k,k<F->T' k (cg ls k)=T' (k+1) 0/\B' k (cg ls k)=B' (k+1) 0) (gz:T' F (cg ls F)=T' 0 0/\B' F (cg ls F)=B' 0 0)
  (wit:∀j,j<ls.length->∀t,(t=(rJ ls j).l\/t=(rJ ls j).r)->t=tau\/ ∃j',j'<ls.length/\(t=(sd j').l\/t=(sd j').r)):Cert F P:=by
 have hn:0<ls.length:=jl.2 g.ne;have yY:aR (zG P sd)=P.map Pc.l:=by
  show(zG P sd).map (fun x=>x.p.l)=_;have:(zG P sd).map (fun x=>x.p.l)=((zG P sd).map aQ.p).map Pc.l:=by rw[ue];rfl
  rw[this,aiQ]
 have mem:∀x∈zG P sd,∃i,i<ls.length/\x=cG P sd i:=fun x hx=>by obtain⟨i,hi,rfl⟩:=dh.1 hx;exact⟨i,by have:=gV.1 hi;omega,rfl⟩
 have inz:∀i,i<ls.length->cG P sd i∈zG P sd:=fun i hi=>dh.2 ⟨i,gV.2 aa,rfl⟩;have q:Cq F (zG P sd) T' B':=by
  refine⟨fun x hx=>?_,Rr fun i j hi hj iv=>cr i j aa aa iv,?_,fun x hx hc=>?_,Rr fun i j hi hj iv=>rk i j aa aa iv,fun x hx hp=>?_,fun x hx hp=>?_,fun k hk=>?_,?_⟩
  .obtain⟨i,hi,rfl⟩:=mem x hx;exact ok i hi
  .rw[yY,hC];have:=g.cz.ev;rwa[mF] at this
  .obtain⟨i,hi,rfl⟩:=mem x hx;rw[yY,hC];exact ids i hi hc
  .obtain⟨i,hi,rfl⟩:=mem x hx;rw[yY,hG];exact rr i hi hp
  .obtain⟨i,hi,rfl⟩:=mem x hx;exact pl i hi hp
  .rw[yY,hG];exact gt k hk
  rw[yY,hG];exact gz
 refine⟨zG P sd,T',B',(List.range (mT ls)).filter (fun s=> ![tau].contains s),aiQ P sd,⟨av3 P sd aa,q.ok,q.cr,q.ev,q.ids,q.rk,q.rr,q.pl,q.gt,q.gz,?_,Gg.filter _,fun s hs=>?_,?_⟩⟩
 .have:0<aq Let.aE (P.map Pc.l):=by
   rw[hP];obtain⟨l,h1,h2⟩:=g.first;exact zH.2 ⟨l,aV h1,h2⟩
  rw[<- yY] at this;obtain⟨l,h1,h2⟩:=zH.1 this;obtain⟨x,hx,rfl⟩:=dh.1 h1;exact⟨x,hx,h2⟩
 .obtain⟨h1,h2⟩:=u7.1 hs;have h2:s≠tau:=by simpa using h2
  obtain⟨x,hx,e⟩:=g.cz.wit s h1;obtain⟨j,hj,rfl⟩:=dh.1 hx;have hj:=gV.1 hj;rcases wit j hj s e with h|⟨j',hj',h⟩
  .exact absurd h h2
  exact⟨cG P sd j',inz j' hj',h⟩
 rw[yY,hC,hP];have h1:=acV (L:=[tau]) (Gg (n:=mT ls));have h2:=g.nw;rw[Ek] at h1;simp only[dC,fe] at h1;omega
def Oq(g:cX F ls){d:Nat}(hd:d<2*ls.length):oT ls.length d<ls.length:=by
 unfold oT;split
 .omega
 exact dr _ (jl.2 g.ne)
def Cd(g:cX F ls){d:Nat}(hd:d<2*ls.length):oH ls.length d<ls.length:=by
 unfold oH;split
 .exact dr _ (jl.2 g.ne)
 omega
def EL{d:Nat}(hd:d<2*ls.length):d=gE ls.length (oH ls.length d) (bn d):=by have:=Ph hd;unfold oH bn;exact this
def Mg{n v:Nat}{f:Bool}(hv:v<n):oT n (dF n v f)=v/\bn (dF n v f)=f:=by
 unfold oT bn dF;cases f
 .simp only[dN,if_false];have e1:(2*((v+n-1)%n)+1)%2=1:=aa;have e2:(2*((v+n-1)%n)+1)/2=(v+n-1)%n:=aa;rw[e1,e2,vH hv];exact⟨rfl,rfl⟩
 simp only[if_true];have e1:(2*v)%2=0:=aa;have e2:(2*v)/2=v:=aa;rw[e1,e2];exact⟨rfl,rfl⟩
def oK (ls:ai)(d:Nat):eG:=if d%2=0 then rJ ls (d/2) else jh (rJ ls (d/2))
def JT{d:Nat}(hd:d<2*ls.length):fN (bn d) (ek ls (oH ls.length d))=oK ls d:=by
 unfold fN bn oH oK ek;rcases xn d with h|h
 .simp only[h,Cy,if_true];rw[xY aa]
 simp[h]
def Li{d:Nat}(hd:d<2*ls.length):iN (bn d) (ek ls (oT ls.length d))=oK ls d:=by
 unfold iN bn oT oK ek;rcases xn d with h|h
 .simp[h]
 simp only[h,show((1:Nat)==0)=false from rfl,dN,if_false,Nat.one_ne_zero];rw[xY aa]
def Jo(g:cX F ls){d:Nat}(hd:d<2*ls.length){l:Let}(hl:ls[oH ls.length d]?=some l)(hc:l.aA=true):aW ls d<2*ls.length/\oT ls.length (aW ls d)=fJ ls (oH ls.length d)/\gX l=(bn d==bn (aW ls d))/\
  X4 true (fN (bn d) (ek ls (oH ls.length d))) (iN (bn d) (ek ls (oH ls.length d))) (fN (bn (aW ls d)) (ek ls (oT ls.length (aW ls d)))) (iN (bn (aW ls d)) (ek ls (oT ls.length (aW ls d)))):=by
 have ok:=g.ok;have hv:=Cd g hd;obtain⟨b1,m,hm,mc,mi,mo,ms⟩:=sC ok.cr hl hc;have ho:=(aT.1 hm).1;have e:aW ls d=dF ls.length (fJ ls (oH ls.length d)) (bn d==gX l):=by
  conv=>lhs;rw[EL hd]
  rw[zA hl hc];rfl
 obtain⟨a1,a2⟩:=Mg (n:=ls.length) (f:=(bn d==gX l)) ho;have aI:oH ls.length d≠fJ ls (oH ls.length d):=by intro ee;rw[<- ee,hl] at hm;have:=qt hm;rw[<- this] at mo;revert mo;cases l.over<;>simp
 have hg:gX l=(bn d==(bn d==gX l)):=by cases bn d<;>cases gX l<;>rfl
 rw[e,a1,a2];refine⟨?_,rfl,hg,?_⟩
 .have:=yv ho (!(bn d==gX l));rw[<- A1] at this;have:=A2 this;rwa[A3] at this
 rw[SY,<- hg];have:=(Mo g hv ho aI (by rw[eE hl];exact hc) (by rw[eE hm];exact mc) (by rw[eE hl,eE hm];exact mi.symm)).x4;rwa[eE hl] at this
def A5{l:c_}(hl:l.length=ls.length){e:Nat}(he:e<ls.length)(i:Nat):(fj ls l e)[i]?=if i=nx ls e then l[e]? else if i=e then l[nx ls e]? else l[i]? :=by
 have hn:nx ls e<ls.length:=dr _ aa;obtain⟨p,hp⟩:=aM (ls:=l) (k:=e) aa;obtain⟨q,hq⟩:=aM (ls:=l) (k:=nx ls e) aa;unfold fj;rw[qT,qT,dA,dA,hp,hq,ud];by_cases c1:i=nx ls e
 .subst c1;rw[aD rfl,aD aa,aD rfl];rfl
 rw[ay (Ne.symm c1),ay c1];by_cases c2:i=e
 .subst c2;rw[aD rfl,aD aa,aD rfl];rfl
 rw[ay (Ne.symm c2),ay c2]
def Zb(g:cX F ls){w:a_}(hw:w∈gU (aW ls) (nD ls)){Q:Nat->Prop}(h1:∀x,x<nD ls->(Q (aW ls x)↔Q x)){x y:Nat}(hx:x∈w)(hy:y∈w):Q x↔Q y:=by
 have e:=Ze (maps g.ok) (R:=gr (nD ls) (aW ls)) (fun z hz=>.rel ⟨hz,rfl⟩) hw hx hy;have:=e.inv (f:=fun x=>Q x) fun a b r=>by obtain⟨ha,rfl⟩:=r;exact propext (h1 a ha).symm
 exact Eq.to_iff this
end
def au1:∀(L M:d_),L.Nodup->(∀x∈L,x∈M)->L.length<=M.length:=by
 intro L
 induction L with
 |nil=>intro M _ _;exact bG _
 |cons a L ih=>intro M hn hs;obtain⟨h1,h2⟩:=qU.1 hn;have ha:=hs a af;have:=ih (M.erase a) h2 fun x hx=>(List.mem_erase_of_ne (by rintro rfl;exact h1 hx)).2 (hs x (by simp[hx]));rw[SN ha] at this;have:0<M.length:=LH ha;simp only[dC];omega
def Mh:∀l:d_,(iS l).Nodup:=by
 intro l
 induction l with
 |nil=>exact xl
 |cons a l ih=>
  unfold iS;split
  .exact ih
  rename_i h;exact qU.2 ⟨fun hm=>h (zY.1 hm),ih⟩
def abg{l:d_}:(iS l).length=l.length->l.Nodup:=by
 induction l with
 |nil=>intro _;exact xl
 |cons a l ih=>
  have hle:(iS l).length<=l.length:=au1 _ _ (Mh l) fun x hx=>zY.1 hx;unfold iS;rw[qU];split
  .intro e;simp only[dC] at e;omega
  rename_i h;simp only[dC];intro e;exact⟨h,ih aa⟩
def TJ{p:Pc->Bool}{l:c_}{i:Nat}{x y:Pc}(h:l[i]?=some x):(l.set i y).countP p+(if p x then 1 else 0)=l.countP p+(if p y then 1 else 0):=by
 have e:=auO h;have hl:=(aT.1 h).1;have e2:l.set i y=l.take i++y::l.drop (i+1):=by
  conv=>lhs;rw[e]
  rw[List.set_append_right _ _ (by rw[iK];omega),iK,zK aa,Nat.sub_self];rfl
 rw[e2]
 conv=>rhs;rw[e]
 rw[xf,xf,xg,xg];omega
section
variable {F:Nat} {ls:ai}
def Lh{l:c_}(hl:l.length=ls.length){e:Nat}(he:e<ls.length)(aI:e≠nx ls e)(p:Pc->Bool):(fj ls l e).countP p=l.countP p:=by
 have hn:nx ls e<ls.length:=dr _ aa;obtain⟨x,hx⟩:=aM (ls:=l) (k:=e) aa;obtain⟨y,hy⟩:=aM (ls:=l) (k:=nx ls e) aa;unfold fj;rw[dA,dA,hx,hy];simp only[nO];have h1:=TJ (p:=p) (y:=y) hx;have h2:(l.set e y)[nx ls e]?=some y:=by rw[qT,ay aI];exact hy
 have h3:=TJ (p:=p) (y:=x) h2;omega
def Rg(g:cX F ls){e:Nat}(he:e<ls.length):e≠nx ls e:=by
 have h2:2<=ls.length:=by obtain⟨l,h1,hp⟩:=g.first;have:=g.even;have:0<aq Let.aE ls:=zH.2 ⟨l,aV h1,hp⟩;have:=sL Let.aE ls;omega
 unfold nx;by_cases c:e+1<ls.length
 .rw[gY c];omega
 rw[show e+1=ls.length by omega,En];omega
def Ry(p:Let->Bool):aq p ((pieces ls).map Pc.l)=aq p ls:=by
 have:(pieces ls).map Pc.l=ls:=by
  have h:=mF ls;rw[<- h];have e:aR (zF ls)=((zF ls).map aQ.p).map Pc.l:=by rw[ue];rfl
  rw[h,<- Iz,<- e,h]
 rw[this]
def Il(g:cX F ls){i j:Nat}{l m:Let}(hl:ls[i]?=some l)(hm:ls[j]?=some m)(hc:l.aA=true)(mc:m.aA=true)(e:l.id=m.id)(iv:i≠j):fJ ls i=j:=by obtain⟨_,hp⟩:=g.ids;obtain⟨d1,_⟩:=hp i j l m hl hm hc mc e iv;obtain⟨b1,w,hw,wc,wi,wo,ws⟩:=sC g.ok.cr hl hc;refine Classical.byContradiction fun aI=>?_;have d3:=(hp _ _ w m hw hm wc mc (by rw[wi,e]) aI).1;rw[wo] at d3;revert d1 d3;cases l.over<;>cases m.over<;>simp
def avj(g:cX F ls){w:a_}(hw:w∈gU (aW ls) (nD ls)){p q r:Nat}(hp:p∈w)(hq:q∈w)(hr:r∈w)(pq:p≠q)(pr:p≠r)(qr:q≠r)(lp:p<nD ls)(lq:q<nD ls)(lr:r<nD ls)
  (np:aW ls p=p\/aW ls p=q\/aW ls p=r) (nq:aW ls q=p\/aW ls q=q\/aW ls q=r) (nr:aW ls r=p\/aW ls r=q\/aW ls r=r):
  (aW ls p=q/\aW ls q=r/\aW ls r=p)\/(aW ls p=r/\aW ls r=q/\aW ls q=p):=by
 have inj:=(maps g.ok).inj;have i1:aW ls p≠aW ls q:=fun e=>pq (inj _ _ lp lq e);have i2:aW ls p≠aW ls r:=fun e=>pr (inj _ _ lp lr e);have i3:aW ls q≠aW ls r:=fun e=>qr (inj _ _ lq lr e);have one:∀x y,x∈w->y∈w->x≠y->x<nD ls->aW ls x≠x:=fun x y hx hy j6 lx e=>by have:=Zb g hw (Q:=fun t=>t=x) (fun t ht=>⟨fun h=>inj _ _ ht lx (by rw[h,e]),fun h=>by rw[h,e]⟩) hx hy;exact j6 (this.1 rfl).symm
 have n1:=one p q hp hq pq lp;have n2:=one q p hq hp (Ne.symm pq) lq;have n3:=one r p hr hp (Ne.symm pr) lr;omega
def T9{n d i:Nat}:(i≠oT n d/\i≠oH n d)↔(i≠d/2/\i≠(d/2+1)%n):=by
 unfold oT oH;split
 .exact Iff.rfl
 exact And.comm
def T4{n d d':Nat}(h:d/2≠d'/2/\d/2≠(d'/2+1)%n/\(d/2+1)%n≠d'/2/\(d/2+1)%n≠(d'/2+1)%n):oT n d≠oT n d'/\oT n d≠oH n d'/\oH n d≠oT n d'/\oH n d≠oH n d':=by
 obtain⟨h1,h2,h3,h4⟩:=h;unfold oT oH;split<;>split
 .exact⟨h1,h2,h3,h4⟩
 .exact⟨h2,h1,h4,h3⟩
 .exact⟨h3,h4,h1,h2⟩
 exact⟨h4,h3,h2,h1⟩
def T5{n d:Nat}(h:d/2≠(d/2+1)%n):oT n d≠oH n d:=by
 unfold oT oH;split
 .exact h
 exact h.symm
def uo (f:Bool)(s:eG):eG:=if f then s else jh s
def Ku(f:Bool)(x:aQ):(fN f x).b=if f then x.i.b else x.o.b:=by cases f<;>rfl
def KT(f:Bool)(x:aQ):(iN f x).b=if f then x.o.b else x.i.b:=by cases f<;>rfl
def Mp{P:c_}{sd:Nat->eG}{d:Nat}{k':eG}(hP:P.length=ls.length)(hd:d<2*ls.length)(hk:sd (d/2)=uo (bn d) k')(h1:sd ((d/2+ls.length-1)%ls.length)=rJ ls ((d/2+ls.length-1)%ls.length))(h2:sd (nx ls (d/2))=rJ ls (nx ls (d/2))):
  fN (bn d) (cG P sd (oT ls.length d))=fN (bn d) (ek ls (oT ls.length d))/\iN (bn d) (cG P sd (oT ls.length d))=k'/\fN (bn d) (cG P sd (oH ls.length d))=k'/\iN (bn d) (cG P sd (oH ls.length d))=iN (bn d) (ek ls (oH ls.length d)):=by
 unfold nx at h2;unfold fN iN cG ek oT oH;unfold bn at hk |-;rw[hP];rcases xn d with h|h
 .simp only[h,Cy,if_true] at hk |-;rw[xY aa,hk,h1,h2];exact⟨rfl,rfl,rfl,rfl⟩
 simp only[h,show((1:Nat)==0)=false from rfl,dN,if_false,Nat.one_ne_zero] at hk |-;rw[xY aa,hk,h1,h2];exact⟨rfl,rfl,rfl,rfl⟩
def abz{P:c_}{sd:Nat->eG}{i:Nat}(hP:P.length=ls.length)(hi:i<ls.length)(hp:P[i]?=(pieces ls)[i]?)(h1:sd ((i+ls.length-1)%ls.length)=rJ ls ((i+ls.length-1)%ls.length))(h2:sd i=rJ ls i):cG P sd i=ek ls i:=by
 have:P.getD i ⟨lX,false⟩=⟨ls.getD i lX,iT ls i⟩:=by obtain⟨l,hl⟩:=aM hi;rw[dA,hp,qP hl,dA,hl];rfl
 unfold cG ek;rw[hP,h1,h2,this]
def JA{P:c_}{sd:Nat->eG}{i j:Nat}(hj:j<ls.length)(hp:P[i]?=(pieces ls)[j]?):(cG P sd i).p=(ek ls j).p:=by obtain⟨l,hl⟩:=aM hj;show P.getD i _=⟨ls.getD j lX,iT ls j⟩;rw[dA,hp,qP hl,dA,hl];rfl
def TC(g:cX F ls){a b c:Nat}(ha:a<ls.length)(hb:b<ls.length)(hc:c<ls.length){L:c_}(h:tx F ls a b c=some L):Cert F L:=by
 unfold tx at h;split at h
 case isFalse=>cases h
 rename_i ht;cases h;unfold tgB at ht;simp only[cU,dk] at ht;obtain⟨eV,h6,_,_,_,Ak⟩:=ht;have hn:0<ls.length:=jl.2 g.ne;have bY:=fK ls;have ok:=g.ok
 -- six letters
 have iw:(pO ls [a,b,c]).Nodup:=abg (by rw[h6];rfl);have iw:(([a,nx ls a,b,nx ls b,c,nx ls c]:a_).map fun i:Nat=>(i:Int)).Nodup:=iw;have six:a≠nx ls a/\a≠b/\a≠nx ls b/\a≠c/\a≠nx ls c/\nx ls a≠b/\nx ls a≠nx ls b/\nx ls a≠c/\nx ls a≠nx ls c/\b≠nx ls b/\b≠c/\b≠nx ls c/\nx ls b≠c/\nx ls b≠nx ls c/\c≠nx ls c:=by simp only[eh,lQ,qU,cD,fq,or_false,not_or,xl,and_true,not_false_eq_true] at iw;omega
 have crs:∀e∈[a,b,c],∃l m,ls[e]?=some l/\ls[nx ls e]?=some m/\l.aA=true/\m.aA=true:=fun e he=>by
  have h1:=gO.1 eV e he;have dI:e<ls.length:=by simp only[cD,fq,or_false] at he;rcases he with rfl|rfl|rfl<;>assumption
  obtain⟨l,hl⟩:=aM dI;obtain⟨m,hm⟩:=aM (ls:=ls) (k:=nx ls e) (dr _ hn);have e1:pA ls e=⟨l,iT ls e⟩:=je (qP hl);have e2:pA ls (nx ls e)=⟨m,iT ls (nx ls e)⟩:=je (qP hm);unfold um at h1;rw[e1,e2,cU] at h1;exact⟨l,m,hl,hm,h1.1,h1.2⟩
 obtain⟨w,hw,_,hlen,hE⟩:=TT g ha Ak;obtain⟨da,xy,vh,zW⟩:=hE a af;obtain⟨db,yA,wm,zX⟩:=hE b af;obtain⟨dc,dc1,Jt,Ju⟩:=hE c af;have hN:∀d,d<2*ls.length->d<nD ls:=fun d hd=>by unfold nD;omega
 have three:∀d,d∈w->d<2*ls.length->d=da\/d=db\/d=dc:=fun d h1 h2=>by
  have inD:∀d,d∈w->d<2*ls.length->d∈w.filter fun x=>decide (x<2*ls.length):=fun d h1 h2=>u7.2 ⟨h1,by simpa using h2⟩;have q1:=inD da xy vh;have q2:=inD db yA wm;have q3:=inD dc dc1 Jt;have q4:=inD d h1 h2;generalize w.filter (fun x=>decide (x<2*ls.length))=D at hlen q1 q2 q3 q4
  match D,hlen with
  |[x,y,z],_=>simp only[cD,fq,or_false] at q1 q2 q3 q4;have:=six.2.1;have:=six.2.2.2.1;have:=six.2.2.2.2.2.2.2.2.2.2.1;omega
 have Nc:∀d,d<2*ls.length->d/2∈[a,b,c]->∃l,ls[oH ls.length d]?=some l/\l.aA=true:=fun d hd he=>by
  obtain⟨l,m,h1,h2,h3,h4⟩:=crs _ he;unfold oH;split
  .exact⟨m,h2,h4⟩
  exact⟨l,h1,h3⟩
 have step:∀d,d∈w->d<2*ls.length->d/2∈[a,b,c]->aW ls d=da\/aW ls d=db\/aW ls d=dc:=fun d hd hl he=>by obtain⟨l,h1,h2⟩:=Nc d hl he;exact three _ (Cu (maps ok) hw hd) (Jo g hl h1 h2).1
 have round:∃d1 d2 d3,d1<2*ls.length/\d2<2*ls.length/\d3<2*ls.length/\aW ls d1=d2/\aW ls d2=d3/\aW ls d3=d1/\((d1/2=a/\d2/2=b/\d3/2=c)\/(d1/2=a/\d2/2=c/\d3/2=b)):=by
  have nab:da≠db:=fun e=>six.2.1 (by rw[<- zW,<- zX,e]);have nac:da≠dc:=fun e=>six.2.2.2.1 (by rw[<- zW,<- Ju,e]);have nbc:db≠dc:=fun e=>six.2.2.2.2.2.2.2.2.2.2.1 (by rw[<- zX,<- Ju,e]);rcases avj g hw xy yA dc1 nab nac nbc (hN _ vh) (hN _ wm) (hN _ Jt) (step da xy vh (by rw[zW];simp)) (step db yA wm (by rw[zX];simp)) (step dc dc1 Jt (by rw[Ju];simp)) with ⟨h1,h2,h3⟩|⟨h1,h2,h3⟩
  .exact⟨da,db,dc,vh,wm,Jt,h1,h2,h3,.inl ⟨zW,zX,Ju⟩⟩
  exact⟨da,dc,db,vh,Jt,wm,h1,h2,h3,.inr ⟨zW,Ju,zX⟩⟩
 clear three step hE hlen xy vh zW yA wm zX dc1 Jt Ju hw Ak;clear iw eV h6;obtain⟨d1,d2,d3,l1,l2,l3,s1,s2,s3,pI⟩:=round
 -- the new pieces
 have ina:a∈[a,b,c]:=af;have inb:b∈[a,b,c]:=af;have inc:c∈[a,b,c]:=af;have Fb:(fY ls (pieces ls) [a,b,c]).length=ls.length:=by rw[w8,bY]
 have AN:∀i,(fY ls (pieces ls) [a,b,c])[i]?=if i=nx ls c then (pieces ls)[c]? else if i=c then (pieces ls)[nx ls c]? else if i=nx ls b then (pieces ls)[b]? else if i=b then (pieces ls)[nx ls b]? else if i=nx ls a then (pieces ls)[a]? else if i=a then (pieces ls)[nx ls a]? else (pieces ls)[i]? :=fun i=>by
  show(fj ls (fj ls (fj ls (pieces ls) a) b) c)[i]?=_;have e1:(fj ls (pieces ls) a).length=ls.length:=by rw[zx,bY]
  have e2:(fj ls (fj ls (pieces ls) a) b).length=ls.length:=by rw[zx,e1]
  simp only[A5 e2 hc,A5 e1 hb,A5 bY ha];obtain⟨x1,x2,x3,x4,x5,x6,x7,x8,x9,Iw,Lr,Ls,Lt,Lu,OX⟩:=six;simp only[x2.symm,x3.symm,x4.symm,x5.symm,x6.symm,x7.symm,x8.symm,x9.symm,Lr.symm,Ls.symm,Lt.symm,Lu.symm,if_false]
 have tL:∀p:Pc->Bool,(fY ls (pieces ls) [a,b,c]).countP p=(pieces ls).countP p:=fun p=>by
  show(fj ls (fj ls (fj ls (pieces ls) a) b) c).countP p=_;have e1:(fj ls (pieces ls) a).length=ls.length:=by rw[zx,bY]
  have e2:(fj ls (fj ls (pieces ls) a) b).length=ls.length:=by rw[zx,e1]
  rw[Lh e2 hc six.2.2.2.2.2.2.2.2.2.2.2.2.2.2,Lh e1 hb six.2.2.2.2.2.2.2.2.2.1,Lh bY ha six.1]
 generalize fY ls (pieces ls) [a,b,c]=P at Fb AN tL;obtain⟨x1,x2,x3,x4,x5,x6,x7,x8,x9,Iw,Lr,Ls,Lt,Lu,OX⟩:=six;have pa:P[a]?=(pieces ls)[nx ls a]? /\P[nx ls a]?=(pieces ls)[a]? :=by
  constructor
  .rw[AN];simp only[x1,x2,x3,x4,x5,if_false,if_true]
  rw[AN];simp only[x6,x7,x8,x9,if_false,if_true]
 have pb:P[b]?=(pieces ls)[nx ls b]? /\P[nx ls b]?=(pieces ls)[b]? :=by
  constructor
  .rw[AN];simp only[Iw,Lr,Ls,if_false,if_true]
  rw[AN];simp only[Lt,Lu,if_false,if_true]
 have pc:P[c]?=(pieces ls)[nx ls c]? /\P[nx ls c]?=(pieces ls)[c]? :=by
  constructor
  .rw[AN];simp only[OX,if_false,if_true]
  rw[AN];simp only[if_true]
 have pn:∀i,i≠a->i≠nx ls a->i≠b->i≠nx ls b->i≠c->i≠nx ls c->P[i]?=(pieces ls)[i]? :=fun i h1 h2 h3 h4 h5 h6=>by rw[AN];simp only[h1,h2,h3,h4,h5,h6,if_false]
 clear AN
 -- edges and letters by cq
 have pZ:∀d,d/2=a\/d/2=b\/d/2=c->P[oT ls.length d]?=(pieces ls)[oH ls.length d]? /\P[oH ls.length d]?=(pieces ls)[oT ls.length d]? :=fun d hd=>by
  have:P[d/2]?=(pieces ls)[nx ls (d/2)]? /\P[nx ls (d/2)]?=(pieces ls)[d/2]? :=by rcases hd with e|e|e<;>rw[e]<;>assumption
  unfold oT oH;rcases xn d with h|h
  .simp only[h,if_true];exact this
  simp only[h,Nat.one_ne_zero,if_false];exact this.symm
 have m1:d1/2=a\/d1/2=b\/d1/2=c:=by
  rcases pI with ⟨h,_,_⟩|⟨h,_,_⟩
  .exact .inl h
  exact .inl h
 have m2:d2/2=a\/d2/2=b\/d2/2=c:=by
  rcases pI with ⟨_,h,_⟩|⟨_,h,_⟩
  .exact .inr (.inl h)
  exact .inr (.inr h)
 have m3:d3/2=a\/d3/2=b\/d3/2=c:=by
  rcases pI with ⟨_,_,h⟩|⟨_,_,h⟩
  .exact .inr (.inr h)
  exact .inr (.inl h)
 have mm:∀d,d/2=a\/d/2=b\/d/2=c->d/2∈[a,b,c]:=fun d h=>by simpa using h
 have pn2:∀i,i≠oT ls.length d1->i≠oH ls.length d1->i≠oT ls.length d2->i≠oH ls.length d2->i≠oT ls.length d3->i≠oH ls.length d3->P[i]?=(pieces ls)[i]? /\ ∀d,d/2=a\/d/2=b\/d/2=c->i≠d/2/\i≠nx ls (d/2):=fun i a1 a2 a3 a4 a5 a6=>by
  obtain⟨b1,b2⟩:=T9.1 ⟨a1,a2⟩;obtain⟨b3,b4⟩:=T9.1 ⟨a3,a4⟩;obtain⟨b5,b6⟩:=T9.1 ⟨a5,a6⟩;have key:(i≠a/\i≠nx ls a)/\(i≠b/\i≠nx ls b)/\(i≠c/\i≠nx ls c):=by
   rcases pI with ⟨h1,h2,h3⟩|⟨h1,h2,h3⟩
   .rw[h1] at b1 b2;rw[h2] at b3 b4;rw[h3] at b5 b6;exact⟨⟨b1,b2⟩,⟨b3,b4⟩,b5,b6⟩
   rw[h1] at b1 b2;rw[h2] at b3 b4;rw[h3] at b5 b6;exact⟨⟨b1,b2⟩,⟨b5,b6⟩,b3,b4⟩
  obtain⟨⟨c1,c2⟩,⟨c3,c4⟩,c5,c6⟩:=key;refine⟨pn i c1 c2 c3 c4 c5 c6,fun d hd=>?_⟩;rcases hd with e|e|e<;>rw[e]
  .exact⟨c1,c2⟩
  .exact⟨c3,c4⟩
  exact⟨c5,c6⟩
 have t1:=Oq g l1;have t2:=Oq g l2;have t3:=Oq g l3;have h1:=Cd g l1;have h2:=Cd g l2;have h3:=Cd g l3
 -- all six are different
 have apart:(d1/2≠d2/2/\d1/2≠nx ls (d2/2)/\nx ls (d1/2)≠d2/2/\nx ls (d1/2)≠nx ls (d2/2))/\(d1/2≠d3/2/\d1/2≠nx ls (d3/2)/\nx ls (d1/2)≠d3/2/\nx ls (d1/2)≠nx ls (d3/2))/\(d2/2≠d3/2/\d2/2≠nx ls (d3/2)/\nx ls (d2/2)≠d3/2/\nx ls (d2/2)≠nx ls (d3/2))/\d1/2≠nx ls (d1/2)/\d2/2≠nx ls (d2/2)/\d3/2≠nx ls (d3/2):=by
  rcases pI with ⟨h1,h2,h3⟩|⟨h1,h2,h3⟩<;>rw[h1,h2,h3]
  .exact⟨⟨x2,x3,x6,x7⟩,⟨x4,x5,x8,x9⟩,⟨Lr,Ls,Lt,Lu⟩,x1,Iw,OX⟩
  exact⟨⟨x4,x5,x8,x9⟩,⟨x2,x3,x6,x7⟩,⟨Lr.symm,Lt.symm,Ls.symm,Lu.symm⟩,x1,OX,Iw⟩
 obtain⟨y1,y2,y3,y4,y5,y6⟩:=apart;have f12:=T4 y1;have f13:=T4 y2;have f23:=T4 y3;have g1:=T5 y4;have g2:=T5 y5;have g3:=T5 y6
 -- the old corners
 obtain⟨u1,AO,Jq⟩:=Nc d1 l1 (mm d1 m1);obtain⟨u2,vE,Jr⟩:=Nc d2 l2 (mm d2 m2);obtain⟨u3,wM,Js⟩:=Nc d3 l3 (mm d3 m3);obtain⟨_,o1,q1,k1⟩:=Jo g l1 AO Jq;obtain⟨_,o2,q2,k2⟩:=Jo g l2 vE Jr;obtain⟨_,o3,q3,k3⟩:=Jo g l3 wM Js;rw[s1] at o1 q1 k1;rw[s2] at o2 q2 k2;rw[s3] at o3 q3 k3;clear s1 s2 s3 pI pn pa pb pc x1 x2 x3 x4 x5 x6 x7 x8 x9 Iw Lr Ls Lt Lu OX crs Nc mm ina inb inc;have ti1:=Li (ls:=ls) l1;have ti2:=Li (ls:=ls) l2;have ti3:=Li (ls:=ls) l3;have lG:=JT (ls:=ls) l1;have Hr:=JT (ls:=ls) l2;have hi3:=JT (ls:=ls) l3;rw[lG,ti2] at k1;rw[Hr,ti3] at k2;rw[hi3,ti1] at k3;obtain⟨a1,b1,c1,e1⟩:=k1;obtain⟨a2,b2,c2,e2⟩:=k2;obtain⟨a3,b3,c3,e3⟩:=k3;simp only[if_true] at a1 b1 c1 e1 a2 b2 c2 e2 a3 b3 c3 e3
 let tau:=(oK ls d1).l
 let K1:eG:=⟨(fN (bn d3) (ek ls (oT ls.length d3))).r,tau,(fN (bn d1) (ek ls (oT ls.length d1))).b⟩
 let K2:eG:=⟨(fN (bn d1) (ek ls (oT ls.length d1))).r,tau,(fN (bn d2) (ek ls (oT ls.length d2))).b⟩
 let K3:eG:=⟨(fN (bn d2) (ek ls (oT ls.length d2))).r,tau,(fN (bn d3) (ek ls (oT ls.length d3))).b⟩
 let sd:Nat->eG:=fun j=>if j=d1/2 then uo (bn d1) K1 else if j=d2/2 then uo (bn d2) K2 else if j=d3/2 then uo (bn d3) K3 else rJ ls j
 have sd1:sd (d1/2)=uo (bn d1) K1:=aD rfl;have sd2:sd (d2/2)=uo (bn d2) K2:=by show(if _ then _ else _)=_;rw[ay (Ne.symm y1.1),aD rfl]
 have sd3:sd (d3/2)=uo (bn d3) K3:=by show(if _ then _ else _)=_;rw[ay (Ne.symm y2.1),ay (Ne.symm y3.1),aD rfl]
 have sdn:∀j,j≠d1/2->j≠d2/2->j≠d3/2->sd j=rJ ls j:=fun j h1 h2 h3=>by show(if _ then _ else _)=_;rw[ay h1,ay h2,ay h3]
 have prev:∀i,i<ls.length->i≠nx ls (d1/2)->i≠nx ls (d2/2)->i≠nx ls (d3/2)->sd ((i+ls.length-1)%ls.length)=rJ ls ((i+ls.length-1)%ls.length):=fun i hi n1 n2 n3=>sdn _ (fun h=>n1 (CM hi h)) (fun h=>n2 (CM hi h)) (fun h=>n3 (CM hi h))
 obtain⟨z1,z2,z3,z4⟩:=y1;obtain⟨z5,z6,z7,z8⟩:=y2;obtain⟨z9,z10,z11,z12⟩:=y3;have G1:=Mp (P:=P) Fb l1 sd1 (prev _ aa y4 z2 z6) (sdn _ y4.symm z3 z7);have G2:=Mp (P:=P) Fb l2 sd2 (prev _ aa z3.symm y5 z10) (sdn _ z2.symm y5.symm z11);have G3:=Mp (P:=P) Fb l3 sd3 (prev _ aa z7.symm z11.symm y6) (sdn _ z6.symm z10.symm y6.symm);have p1:=pZ d1 m1;have p2:=pZ d2 m2;have p3:=pZ d3 m3;have pT1:=JA (sd:=sd) h1 p1.1;have pH1:=JA (sd:=sd) t1 p1.2;have pT2:=JA (sd:=sd) h2 p2.1;have pH2:=JA (sd:=sd) t2 p2.2;have pT3:=JA (sd:=sd) h3 p3.1
 have pH3:=JA (sd:=sd) t3 p3.2;have un:∀i,i<ls.length->i≠oT ls.length d1->i≠oH ls.length d1->i≠oT ls.length d2->i≠oH ls.length d2->i≠oT ls.length d3->i≠oH ls.length d3->cG P sd i=ek ls i:=fun i hi n1 n2 n3 n4 n5 n6=>by obtain⟨q1,q2⟩:=pn2 i n1 n2 n3 n4 n5 n6;exact abz Fb hi q1 (prev i hi (q2 d1 m1).2 (q2 d2 m2).2 (q2 d3 m3).2) (sdn i (q2 d1 m1).1 (q2 d2 m2).1 (q2 d3 m3).1)
 clear pn2 pZ prev
 -- letters of the crossings
 have hw1:=sC ok.cr AO Jq;have hw2:=sC ok.cr vE Jr;have hw3:=sC ok.cr wM Js;rw[<- o1] at hw1;rw[<- o2] at hw2;rw[<- o3] at hw3;obtain⟨r1,v2,qJ,cv2,iv2,_,_⟩:=hw1;obtain⟨r2,v3,NX,cv3,iv3,_,_⟩:=hw2;obtain⟨r3,v1,za,cv1,iv1,_,_⟩:=hw3
 -- the new corners
 have cornerN:∀(x y:aQ) (d d' hh tt:Nat) (u v:Let),ls[hh]?=some u->ls[tt]?=some v->u.aA=true->v.aA=true->v.id=u.id->hh≠tt->x.p=(ek ls hh).p->y.p=(ek ls tt).p->gX u=(bn d==bn d')->X4 true (fN (bn d) x) (iN (bn d) x) (fN (bn d') y) (iN (bn d') y)->Xc x y:=by intro x y d d' hh tt u v ha hb ca cb ei aI hx hy hg h4;have Kp:x.k=(ek ls hh).k:=congrArg Pc.l hx;have hy':y.k=(ek ls tt).k:=congrArg Pc.l hy;have old:=Mo g (aT.1 ha).1 (aT.1 hb).1 aI (by rw[eE ha];exact ca) (by rw[eE hb];exact cb) (by rw[eE ha,eE hb];exact ei.symm);refine⟨by rw[Kp,hy'];exact old.ov,by rw[Kp,hy'];exact old.sg,?_⟩;rw[Kp,eE ha,hg];exact SY.1 h4
 have C1:Xc (cG P sd (oT ls.length d1)) (cG P sd (oH ls.length d2)):=by
  refine cornerN _ _ d1 d2 _ _ u1 v2 AO qJ Jq cv2 iv2 f12.2.2.1 pT1 pH2 q1 ?_;rw[G1.1,G1.2.1,G2.2.2.1,G2.2.2.2];constructor<;>simp only[if_true]
  .exact c3.trans e2
  .rfl
  .rfl
  exact b2
 have C2:Xc (cG P sd (oT ls.length d2)) (cG P sd (oH ls.length d3)):=by
  refine cornerN _ _ d2 d3 _ _ u2 v3 vE NX Jr cv3 iv3 f23.2.2.1 pT2 pH3 q2 ?_;rw[G2.1,G2.2.1,G3.2.2.1,G3.2.2.2];constructor<;>simp only[if_true]
  .exact c1.trans e3
  .rfl
  .rfl
  exact b3
 have C3:Xc (cG P sd (oT ls.length d3)) (cG P sd (oH ls.length d1)):=by
  refine cornerN _ _ d3 d1 _ _ u3 v1 wM za Js cv1 iv1 f13.2.1.symm pT3 pH1 q3 ?_;rw[G3.1,G3.2.1,G1.2.2.1,G1.2.2.2];constructor<;>simp only[if_true]
  .exact c2.trans e1
  .rfl
  .rfl
  exact b1
 have six:∀i,i<ls.length->(i=oT ls.length d1\/i=oH ls.length d1\/i=oT ls.length d2\/i=oH ls.length d2\/i=oT ls.length d3\/i=oH ls.length d3)\/(cG P sd i=ek ls i/\i≠oT ls.length d1/\i≠oH ls.length d1/\i≠oT ls.length d2/\i≠oH ls.length d2/\i≠oT ls.length d3/\i≠oH ls.length d3):=fun i hi=>by
  rcases Classical.em (i=oT ls.length d1\/i=oH ls.length d1\/i=oT ls.length d2\/i=oH ls.length d2\/i=oT ls.length d3\/i=oH ls.length d3) with h|h
  .exact .inl h
  simp only[not_or] at h;exact .inr ⟨un i hi h.1 h.2.1 h.2.2.1 h.2.2.2.1 h.2.2.2.2.1 h.2.2.2.2.2,h⟩
 -- each position holds one letter
 have hold:∀i,i<ls.length->∃j l,j<ls.length/\ls[j]?=some l/\(cG P sd i).k=l/\(cG P sd i).p=(ek ls j).p:=fun i hi=>by
  have mk:∀j l,ls[j]?=some l->(cG P sd i).p=(ek ls j).p->∃j l,j<ls.length/\ls[j]?=some l/\(cG P sd i).k=l/\(cG P sd i).p=(ek ls j).p:=fun j l hl hp=>⟨j,l,(aT.1 hl).1,hl,(congrArg Pc.l hp).trans (eE hl),hp⟩;rcases six i hi with (rfl|rfl|rfl|rfl|rfl|rfl)|⟨e,_⟩
  .exact mk _ _ AO pT1
  .exact mk _ _ za pH1
  .exact mk _ _ vE pT2
  .exact mk _ _ qJ pH2
  .exact mk _ _ wM pT3
  .exact mk _ _ NX pH3
  obtain⟨l,hl⟩:=aM hi;exact mk i l hl (by rw[e])
 have kT1:(cG P sd (oT ls.length d1)).k=u1:=(congrArg Pc.l pT1).trans (eE AO);have kT2:(cG P sd (oT ls.length d2)).k=u2:=(congrArg Pc.l pT2).trans (eE vE);have kT3:(cG P sd (oT ls.length d3)).k=u3:=(congrArg Pc.l pT3).trans (eE wM);have kH1:(cG P sd (oH ls.length d1)).k=v1:=(congrArg Pc.l pH1).trans (eE za);have kH2:(cG P sd (oH ls.length d2)).k=v2:=(congrArg Pc.l pH2).trans (eE qJ);have kH3:(cG P sd (oH ls.length d3)).k=v3:=(congrArg Pc.l pH3).trans (eE NX);have flat:∀(f:Bool) (x:aQ),(fN f x).b=(iN f x).b->x.i.b=x.o.b:=fun f x h=>by
  rw[Ku,KT] at h;cases f
  .exact h.symm
  exact h
 have ac4:∀(f:Bool) (x:aQ),x.i.b=x.o.b->(fN f x).b=(iN f x).b:=fun f x h=>by
  rw[Ku,KT];cases f
  .exact h.symm
  exact h
 have oldb:∀j l,ls[j]?=some l->l.aA=true->(ek ls j).i.b=(ek ls j).o.b:=fun j l hl hc=>(ER g (aT.1 hl).1).cb (by rw[eE hl];exact hc);have bT:∀d (K:eG),fN (bn d) (cG P sd (oT ls.length d))=fN (bn d) (ek ls (oT ls.length d))->iN (bn d) (cG P sd (oT ls.length d))=K->K.b=(fN (bn d) (ek ls (oT ls.length d))).b->(cG P sd (oT ls.length d)).i.b=(cG P sd (oT ls.length d)).o.b:=fun d K q1 q2 q3=>flat (bn d) _ (by rw[q1,q2,q3])
 have bH:∀d (K:eG) (l m:Let),ls[oT ls.length d]?=some l->l.aA=true->ls[oH ls.length d]?=some m->m.aA=true->iN (bn d) (ek ls (oT ls.length d))=oK ls d->fN (bn d) (ek ls (oH ls.length d))=oK ls d->fN (bn d) (cG P sd (oH ls.length d))=K->iN (bn d) (cG P sd (oH ls.length d))=iN (bn d) (ek ls (oH ls.length d))->K.b=(fN (bn d) (ek ls (oT ls.length d))).b->(cG P sd (oH ls.length d)).i.b=(cG P sd (oH ls.length d)).o.b:=fun d K l m hl cl hm cm w1 w2 q1 q2 q3=>by refine flat (bn d) _ ?_;rw[q1,q2,q3,ac4 (bn d) _ (oldb _ _ hl cl),w1,<- w2];exact ac4 (bn d) _ (oldb _ _ hm cm)
 have bad:∀i,i<ls.length->dL F (cG P sd i).k=false:=fun i hi=>by obtain⟨j,l,hj,hl,hk,_⟩:=hold i hi;rw[hk];exact g.bad l (aV hl)
 have mU:∀i,i<ls.length->(cG P sd i).k.aA=true->(cG P sd i).i.b=(cG P sd i).o.b->AU F (cG P sd i):=fun i hi hc hb=>⟨bad i hi,fun _=>hb,fun hp=>by rw[oG hc] at hp;cases hp⟩;have passUn:∀i,i<ls.length->(cG P sd i).k.aE=true->cG P sd i=ek ls i:=fun i hi hp=>by
  rcases six i hi with (rfl|rfl|rfl|rfl|rfl|rfl)|⟨e,_⟩
  .rw[kT1,oG Jq] at hp;cases hp
  .rw[kH1,oG cv1] at hp;cases hp
  .rw[kT2,oG Jr] at hp;cases hp
  .rw[kH2,oG cv2] at hp;cases hp
  .rw[kT3,oG Js] at hp;cases hp
  .rw[kH3,oG cv3] at hp;cases hp
  exact e
 have cz:=g.cz;have cntP:∀p:Let->Bool,aq p (P.map Pc.l)=aq p ls:=fun p=>by rw[<- Ry (ls:=ls) p];show List.countP _ _=List.countP _ _;rw[Ba,Ba];exact tL _
 have labs:∀(f:Bool) i,i<ls.length->∀t,t=(fN f (cG P sd i)).l\/t=(fN f (cG P sd i)).r->∃j',j'<ls.length/\(t=(sd j').l\/t=(sd j').r):=fun f i hi t ht=>by
  cases f
  .refine⟨i,hi,?_⟩;rcases ht with ht|ht
   .exact .inr ht
   exact .inl ht
  refine⟨(i+P.length-1)%P.length,?_,ht⟩;rw[Fb];exact dr _ hn
 refine aav g (tau:=tau) (sd:=sd) (T':=TF ls) (B':=BF ls) Fb (cntP _) (cntP _) (fun k=>cntP _) (fun i hi=>?_) (fun i j hi hj iv ci cj e=>?_) (fun i j hi hj iv pi pj e1 e2=>?_) (fun i hi ci=>?_) (fun i hi pi=>?_) (fun i hi pi=>?_) (fun k hk=>?_) ?_ (fun j hj t ht=>?_)
 .rcases six i hi with (rfl|rfl|rfl|rfl|rfl|rfl)|⟨e,_⟩
  .exact mU _ hi (by rw[kT1];exact Jq) (bT d1 K1 G1.1 G1.2.1 rfl)
  .exact mU _ hi (by rw[kH1];exact cv1) (bH d1 K1 _ _ za cv1 AO Jq ti1 lG G1.2.2.1 G1.2.2.2 rfl)
  .exact mU _ hi (by rw[kT2];exact Jr) (bT d2 K2 G2.1 G2.2.1 rfl)
  .exact mU _ hi (by rw[kH2];exact cv2) (bH d2 K2 _ _ qJ cv2 vE Jr ti2 Hr G2.2.2.1 G2.2.2.2 rfl)
  .exact mU _ hi (by rw[kT3];exact Js) (bT d3 K3 G3.1 G3.2.1 rfl)
  .exact mU _ hi (by rw[kH3];exact cv3) (bH d3 K3 _ _ NX cv3 wM Js ti3 hi3 G3.2.2.1 G3.2.2.2 rfl)
  rw[e];exact ER g hi
 · -- two visits of one crossing
  have nn:∀i,i<ls.length->∃s,s<ls.length/\(∃l,ls[s]?=some l/\(cG P sd i).k=l)/\((i=oT ls.length d1/\s=oH ls.length d1)\/(i=oH ls.length d1/\s=oT ls.length d1)\/(i=oT ls.length d2/\s=oH ls.length d2)\/(i=oH ls.length d2/\s=oT ls.length d2)\/(i=oT ls.length d3/\s=oH ls.length d3)\/(i=oH ls.length d3/\s=oT ls.length d3)\/(cG P sd i=ek ls i/\s=i/\i≠oT ls.length d1/\i≠oH ls.length d1/\i≠oT ls.length d2/\i≠oH ls.length d2/\i≠oT ls.length d3/\i≠oH ls.length d3)):=fun i hi=>by
   rcases six i hi with (rfl|rfl|rfl|rfl|rfl|rfl)|⟨e,aI⟩
   .exact⟨_,h1,⟨_,AO,kT1⟩,.inl ⟨rfl,rfl⟩⟩
   .exact⟨_,t1,⟨_,za,kH1⟩,.inr (.inl ⟨rfl,rfl⟩)⟩
   .exact⟨_,h2,⟨_,vE,kT2⟩,.inr (.inr (.inl ⟨rfl,rfl⟩))⟩
   .exact⟨_,t2,⟨_,qJ,kH2⟩,.inr (.inr (.inr (.inl ⟨rfl,rfl⟩)))⟩
   .exact⟨_,h3,⟨_,wM,kT3⟩,.inr (.inr (.inr (.inr (.inl ⟨rfl,rfl⟩))))⟩
   .exact⟨_,t3,⟨_,NX,kH3⟩,.inr (.inr (.inr (.inr (.inr (.inl ⟨rfl,rfl⟩)))))⟩
   obtain⟨l,hl⟩:=aM hi;exact⟨i,hi,⟨l,hl,by rw[e];exact eE hl⟩,.inr (.inr (.inr (.inr (.inr (.inr ⟨e,rfl,aI⟩)))))⟩
  obtain⟨si,hsi,⟨li,vB,kli⟩,ci'⟩:=nn i hi;obtain⟨sj,Kk,⟨lj,tP,klj⟩,ED⟩:=nn j hj;rw[kli] at ci e;rw[klj] at cj e;obtain⟨f1,f2,f3,f4⟩:=f12;obtain⟨f5,f6,f7,f8⟩:=f13;obtain⟨f9,f10,f11,f12⟩:=f23;have aI:si≠sj:=by
   clear e2 e3 e1 labs passUn mU bad bH bT hold un six;rcases ci' with ⟨q1,q2⟩|⟨q1,q2⟩|⟨q1,q2⟩|⟨q1,q2⟩|⟨q1,q2⟩|⟨q1,q2⟩|⟨_,q2,n1,n2,n3,n4,n5,n6⟩<;>rcases ED with ⟨w1,w2⟩|⟨w1,w2⟩|⟨w1,w2⟩|⟨w1,w2⟩|⟨w1,w2⟩|⟨w1,w2⟩|⟨_,w2,m1,m2,m3,m4,m5,m6⟩<;>rw[q2,w2]<;>first
    |(rw[q1,w1] at iv;exact absurd rfl iv)
    |assumption
    |exact Ne.symm (by assumption)
    |exact iv
  have ho:=Il g vB tP ci cj e aI;rcases ci' with ⟨q1,q2⟩|⟨q1,q2⟩|⟨q1,q2⟩|⟨q1,q2⟩|⟨q1,q2⟩|⟨q1,q2⟩|⟨eu,q2,n1,n2,n3,n4,n5,n6⟩
  .rw[q2,<- o1] at ho;rcases ED with ⟨w1,w2⟩|⟨w1,w2⟩|⟨w1,w2⟩|⟨w1,w2⟩|⟨w1,w2⟩|⟨w1,w2⟩|⟨_,w2,m1,m2,m3,m4,m5,m6⟩<;>rw[w2] at ho<;>first
    |(rw[q1,w1];exact C1)
    |exact absurd ho (by assumption)
    |exact absurd ho (Ne.symm (by assumption))
  .rw[q2,r3] at ho;rcases ED with ⟨w1,w2⟩|⟨w1,w2⟩|⟨w1,w2⟩|⟨w1,w2⟩|⟨w1,w2⟩|⟨w1,w2⟩|⟨_,w2,m1,m2,m3,m4,m5,m6⟩<;>rw[w2] at ho<;>first
    |(rw[q1,w1];exact C3.symm)
    |exact absurd ho (by assumption)
    |exact absurd ho (Ne.symm (by assumption))
  .rw[q2,<- o2] at ho;rcases ED with ⟨w1,w2⟩|⟨w1,w2⟩|⟨w1,w2⟩|⟨w1,w2⟩|⟨w1,w2⟩|⟨w1,w2⟩|⟨_,w2,m1,m2,m3,m4,m5,m6⟩<;>rw[w2] at ho<;>first
    |(rw[q1,w1];exact C2)
    |exact absurd ho (by assumption)
    |exact absurd ho (Ne.symm (by assumption))
  .rw[q2,r1] at ho;rcases ED with ⟨w1,w2⟩|⟨w1,w2⟩|⟨w1,w2⟩|⟨w1,w2⟩|⟨w1,w2⟩|⟨w1,w2⟩|⟨_,w2,m1,m2,m3,m4,m5,m6⟩<;>rw[w2] at ho<;>first
    |(rw[q1,w1];exact C1.symm)
    |exact absurd ho (by assumption)
    |exact absurd ho (Ne.symm (by assumption))
  .rw[q2,<- o3] at ho;rcases ED with ⟨w1,w2⟩|⟨w1,w2⟩|⟨w1,w2⟩|⟨w1,w2⟩|⟨w1,w2⟩|⟨w1,w2⟩|⟨_,w2,m1,m2,m3,m4,m5,m6⟩<;>rw[w2] at ho<;>first
    |(rw[q1,w1];exact C3)
    |exact absurd ho (by assumption)
    |exact absurd ho (Ne.symm (by assumption))
  .rw[q2,r2] at ho;rcases ED with ⟨w1,w2⟩|⟨w1,w2⟩|⟨w1,w2⟩|⟨w1,w2⟩|⟨w1,w2⟩|⟨w1,w2⟩|⟨_,w2,m1,m2,m3,m4,m5,m6⟩<;>rw[w2] at ho<;>first
    |(rw[q1,w1];exact C2.symm)
    |exact absurd ho (by assumption)
    |exact absurd ho (Ne.symm (by assumption))
  have hb:=(sC ok.cr vB ci).1;rw[ho,q2] at hb;rcases ED with ⟨w1,w2⟩|⟨w1,w2⟩|⟨w1,w2⟩|⟨w1,w2⟩|⟨w1,w2⟩|⟨w1,w2⟩|⟨eu2,w2,_⟩
  .rw[w2,<- o1] at hb;exact absurd hb.symm n3
  .rw[w2,r3] at hb;exact absurd hb.symm n6
  .rw[w2,<- o2] at hb;exact absurd hb.symm n5
  .rw[w2,r1] at hb;exact absurd hb.symm n2
  .rw[w2,<- o3] at hb;exact absurd hb.symm n1
  .rw[w2,r2] at hb;exact absurd hb.symm n4
  rw[q2] at vB;rw[w2] at tP;rw[eu,eu2];exact Mo g hi hj iv (by rw[eE vB];exact ci) (by rw[eE tP];exact cj) (by rw[eE vB,eE tP];exact e)
 .have ee:=passUn i hi pi;have ee2:=passUn j hj pj;rw[ee] at pi e1 e2;rw[ee2] at pj e1 e2;exact(cz.Rs (Gb hi) (Gb hj) iv).2 pi pj e1 e2
 .obtain⟨j,l,hj,hl,hk,_⟩:=hold i hi;rw[hk] at ci |-;exact g.ids.1 l (aV hl) ci
 .have ee:=passUn i hi pi;rw[ee] at pi |-;have:=cz.rr _ (aV (Gb hi)) pi;rwa[mF] at this
 .have ee:=passUn i hi pi;rw[ee] at pi |-;exact cz.pl _ (aV (Gb hi)) pi
 .have:=cz.gt k hk;rwa[mF] at this
 .have:=cz.gz;rwa[mF] at this
 have viaK:∀d,j=d/2->t=(oK ls d).l\/t=(oK ls d).r:=fun d hd=>by
  rw[hd] at ht;unfold oK;split
  .exact ht
  exact ht.symm
 by_cases n1:j=d1/2
 .rcases viaK d1 n1 with h|h
  .exact .inl h
  exact .inr (labs (bn d2) _ t2 t (.inl (by rw[G2.1,h];exact c1.symm)))
 by_cases n2:j=d2/2
 .rcases viaK d2 n2 with h|h
  .exact .inl (h.trans a1.symm)
  exact .inr (labs (bn d3) _ t3 t (.inl (by rw[G3.1,h];exact c2.symm)))
 by_cases n3:j=d3/2
 .rcases viaK d3 n3 with h|h
  .exact .inl (h.trans (a2.symm.trans a1.symm))
  exact .inr (labs (bn d1) _ t1 t (.inl (by rw[G1.1,h];exact c3.symm)))
 exact .inr ⟨j,hj,by rw[sdn j n1 n2 n3];exact ht⟩
end
def Cs(f:Bool)(x:aQ):x.up=if f==x.p.d then fN f x else jh (iN f x):=by unfold aQ.up fN iN;cases f<;>cases x.p.d<;>rfl
def BW(f:Bool)(x:aQ):x.lo=if f==x.p.d then iN f x else jh (fN f x):=by unfold aQ.lo fN iN;cases f<;>cases x.p.d<;>rfl
section
variable {F:Nat} {ls:ai}
def ZN:∀(w:a_) (f:Fc),f.places.length<=(w.foldl (Fc.add F ls) f).places.length/\ ∀x∈w,2*ls.length<=x->(rG F ls ((x-2*ls.length)/2)).length<=(w.foldl (Fc.add F ls) f).places.length:=by
 intro w
 induction w with
 |nil=>intro f;exact⟨bR _,fun x hx=>nomatch hx⟩
 |cons x w ih=>
  intro f;rw[Bc];obtain⟨h1,h2⟩:=ih (Fc.add F ls f x);have h3:f.places.length<=(Fc.add F ls f x).places.length:=by
   unfold Fc.add;split
   .exact bR _
   simp only[fS];omega
  refine⟨mY h3 h1,fun y hy hl=>?_⟩;rcases cD.1 hy with rfl|hy
  .refine mY ?_ h1;unfold Fc.add;rw[ay aa];simp only[fS];split<;>(try rw[oL])<;>omega
  exact h2 y hy hl
def adn(ok:fA F ls){k u v:Nat}(hk:k+1<(aG ls).length)(hu:(aG ls).getD k 0=u)(hv:(aG ls).getD (k+1) 0=v){l m:Let}(hl:ls[u]?=some l)(hm:ls[v]?=some m)
  (pl:l.aE=true) (pm:m.aE=true) (hg:m.gate<=l.gate):l.gate=m.gate/\m.aC=l.aC+1:=by
 obtain⟨u',hu'⟩:=aM (ls:=aG ls) (k:=k) aa;obtain⟨v',hv'⟩:=aM hk;rw[dA,hu',nO] at hu;rw[dA,hv',nO] at hv;subst hu hv;obtain⟨l',e1,_,e2⟩:=Bk ok.ax hu';obtain⟨m',e3,_,e4⟩:=Bk ok.ax hv';rw[hl] at e1;cases e1;rw[hm] at e3;cases e3;have gl:=ok.ax.fy l (aV hl) pl;have gm:=ok.ax.fy m (aV hm) pm;obtain⟨l1,l2,l3,l4⟩:=gl;obtain⟨m1,m2,m3,m4⟩:=gm;unfold eB at e2 e4;rcases Int.lt_or_eq_of_le hg with c|c
 .exfalso;have oD:=Br (ls:=ls) (show m.gate.toNat+1<=l.gate.toNat by omega);have hs:=uv ls m.gate.toNat;omega
 rw[c] at e4;exact⟨c.symm,aa⟩
def X1(g:cX F ls){w:a_}(hw:w∈gU (aW ls) (nD ls))(pE:(nk F ls w).places.length=1){x v:Nat}(hx:x∈w){fw:Bool}(tV:x=gE ls.length v fw){l:Let}(hl:ls[v]?=some l)(pl:l.aE=true):
  ∃u m y,y∈w/\ls[u]?=some m/\m.aE=true/\l.gate=m.gate/\((dn ls v=fw/\m.aC=l.aC+1/\y=dF ls.length u (!dn ls u))\/(dn ls v=(!fw)/\l.aC=m.aC+1/\y=dF ls.length u (dn ls u))):=by
 have ok:=g.ok;have mp:=maps ok;obtain⟨i1,i2⟩:=LV ok hl pl;have hz:=Cu mp hw hx;rw[tV,Ip hl pl] at hz;by_cases cd:(dn ls v==fw)=true
 .rw[aD cd] at hz;have vD:(rG F ls ((aG ls).idxOf v)).length<=1:=by
   rw[<- pE];unfold nk;have:=(ZN (F:=F) (ls:=ls) w (Fc.new ls (w.headD 0))).2 _ hz aa;rwa[show(2*ls.length+2*(aG ls).idxOf v-2*ls.length)/2=(aG ls).idxOf v by omega] at this
  have hk:(aG ls).idxOf v+1<(aG ls).length:=by
   unfold rG at vD;simp only at vD;split at vD
   .assumption
   rw[fS,Co,Co] at vD;omega
  obtain⟨m,hm,pm⟩:=Gw hk;have hg:m.gate<=l.gate:=by unfold rG at vD;simp only at vD;rw[aD hk,Co,i2,gY hk,Dg hl,Dg hm] at vD;have:=(ok.ax.fy l (aV hl) pl).g0;have:=(ok.ax.fy m (aV hm) pm).g0;omega
  obtain⟨r1,r2⟩:=adn ok hk i2 rfl hl hm pl pm hg;have HK:=Cu mp hw hz;rw[F9,gY hk] at HK;exact⟨_,m,_,HK,hm,pm,r1,.inl ⟨eq_of_beq cd,r2,rfl⟩⟩
 rw[ay cd] at hz;have BH:=dr ((aG ls).idxOf v+(aG ls).length-1) (show 0<(aG ls).length by omega);have hb:=vH i1;generalize ((aG ls).idxOf v+(aG ls).length-1)%(aG ls).length=k at hz BH hb;have vD:(rG F ls k).length<=1:=by rw[<- pE];unfold nk;have:=(ZN (F:=F) (ls:=ls) w (Fc.new ls (w.headD 0))).2 _ hz aa;rwa[show(2*ls.length+2*k+1-2*ls.length)/2=k by omega] at this
 have hk:k+1<(aG ls).length:=by
  unfold rG at vD;simp only at vD;split at vD
  .assumption
  rw[fS,Co,Co] at vD;omega
 rw[gY hk] at hb;obtain⟨m,hm,pm⟩:=Gw BH;have hg:l.gate<=m.gate:=by unfold rG at vD;simp only at vD;rw[aD hk,Co,gY hk,hb,i2,Dg hl,Dg hm] at vD;have:=(ok.ax.fy l (aV hl) pl).g0;have:=(ok.ax.fy m (aV hm) pm).g0;omega
 obtain⟨r1,r2⟩:=adn ok hk rfl (by rw[hb];exact i2) hm hl pm pl hg;have HK:=Cu mp hw hz;rw[F8] at HK;refine⟨_,m,_,HK,hm,pm,r1.symm,.inr ⟨?_,r2,rfl⟩⟩;revert cd;cases dn ls v<;>cases fw<;>simp
def A4{l:c_}{i:Nat}{r:Int}{p:Pc}(h:l[i]?=some p)(j:Nat):(eW l i r)[j]?=if j=i then some ⟨{p.l with aC:=r},p.d⟩ else l[j]? :=by
 have hl:=(aT.1 h).1;unfold eW;rw[dA,h,nO,qT];by_cases c:j=i
 .subst c;rw[aD rfl,aD hl,aD rfl]
 rw[ay (Ne.symm c),ay c]
def YE{q:Pc->Bool}{l:c_}{i:Nat}{r:Int}{p:Pc}(h:l[i]?=some p)(hq:∀p:Pc,q ⟨{p.l with aC:=r},p.d⟩=q p):(eW l i r).countP q=l.countP q:=by unfold eW;rw[dA,h,nO];have:=TJ (p:=q) (y:=⟨{p.l with aC:=r},p.d⟩) h;rw[hq] at this;show List.countP q (l.set i ⟨{p.l with aC:=r},p.d⟩)=_;omega
def ahR(g:cX F ls){a b:Nat}(ha:a<ls.length)(hb:b<ls.length)(ef:a≠b){va vb pa pb:Nat}{la lb ma mb:Let}
  (ea:(pa=a/\va=nx ls a)\/(pa=nx ls a/\va=a)) (eb:(pb=b/\vb=nx ls b)\/(pb=nx ls b/\vb=b)) (rB:ls[va]?=some la) (uC:ls[vb]?=some lb) (sZ:ls[pa]?=some ma) (s0:ls[pb]?=some mb)
  (ca:la.aA=true) (cb:lb.aA=true) (qa:ma.aE=true) (qb:mb.aE=true) (hid:la.id=lb.id) (hv:va≠vb) (Ak:lk F ls 1 [a,b] a=true):
  ∃w,w∈gU (aW ls) (nD ls)/\(nk F ls w).places.length=1/\ ∃d,d∈w/\d<2*ls.length/\aW ls d∈w/\aW ls d<2*ls.length/\(∀y,y∈w->y<2*ls.length->y=d\/y=aW ls d)/\
   ((d/2=a/\aW ls d/2=b/\oT ls.length d=pa/\oH ls.length d=va/\oT ls.length (aW ls d)=vb/\oH ls.length (aW ls d)=pb)\/(d/2=b/\aW ls d/2=a/\oT ls.length d=pb/\oH ls.length d=vb/\oT ls.length (aW ls d)=va/\oH ls.length (aW ls d)=pa)):=by
 have ok:=g.ok;obtain⟨w,hw,pE,hlen,hE⟩:=TT g ha Ak;obtain⟨da,xy,vh,zW⟩:=hE a af;obtain⟨db,yA,wm,zX⟩:=hE b af;have aI:da≠db:=aa;have inD:∀d,d∈w->d<2*ls.length->d∈w.filter fun x=>decide (x<2*ls.length):=fun d h1 h2=>u7.2 ⟨h1,by simpa using h2⟩;have two:∀d,d∈w->d<2*ls.length->d=da\/d=db:=fun d h1 h2=>aiw hlen (inD da xy vh) (inD db yA wm) aI (inD d h1 h2);have ends:∀d e p v:Nat,d/2=e->((p=e/\v=nx ls e)\/(p=nx ls e/\v=e))->(oT ls.length d=p/\oH ls.length d=v)\/(oT ls.length d=v/\oH ls.length d=p):=fun d e p v h1 h2=>by
  unfold oT oH;rw[h1];show((if _ then e else nx ls e)=p/\(if _ then nx ls e else e)=v)\/((if _ then e else nx ls e)=v/\(if _ then nx ls e else e)=p);rcases h2 with ⟨rfl,rfl⟩|⟨rfl,rfl⟩<;>split
  .exact .inl ⟨rfl,rfl⟩
  .exact .inr ⟨rfl,rfl⟩
  .exact .inr ⟨rfl,rfl⟩
  exact .inl ⟨rfl,rfl⟩
 have pc:∀ {x y:Nat} {l m:Let},ls[x]?=some l->ls[y]?=some m->l.aA=true->m.aE=true->x≠y:=fun h1 h2 h3 h4 e=>by subst e;rw[h1] at h2;have:=qt h2;rw[this,qN h4] at h3;cases h3
 -- a dart that leads to the crossing goes on at the other visit
 have go:∀(d d' p v p' v':Nat) (l m l' m':Let),d∈w->d<2*ls.length->d'<2*ls.length->oT ls.length d=p->oH ls.length d=v->ls[v]?=some l->ls[p]?=some m->ls[v']?=some l'->ls[p']?=some m'->l.aA=true->m.aE=true->l'.aA=true->m'.aE=true->l.id=l'.id->v≠v'->(∀y,y∈w->y<2*ls.length->y=d\/y=d')->((oT ls.length d'=p'/\oH ls.length d'=v')\/(oT ls.length d'=v'/\oH ls.length d'=p'))->aW ls d=d'/\oT ls.length d'=v'/\oH ls.length d'=p':=by
  intro d d' p v p' v' l m l' m' d1 d2 d2' hT hH hl hm kA iX cl pm cl' KX hid hv tw en;obtain⟨s1,s2,_⟩:=Jo g d2 (by rw[hH];exact hl) cl;rw[hH,Il g hl kA cl cl' hid hv] at s2;rcases tw _ (Cu (maps ok) hw d1) s1 with e|e
  .exfalso;rw[e,hT] at s2;exact pc kA hm cl' pm s2.symm
  rw[e] at s2;rcases en with ⟨e1,_⟩|⟨e1,e2⟩
  .exact absurd (s2.symm.trans e1) (pc kA iX cl' KX)
  exact⟨e,e1,e2⟩
 have na:=ends da a pa va zW ea;have nb:=ends db b pb vb zX eb;rcases na with ⟨t1,t2⟩|⟨t1,t2⟩
 .obtain⟨e1,e2,e3⟩:=go da db pa va pb vb la ma lb mb xy vh wm t1 t2 rB sZ uC s0 ca qa cb qb hid hv two nb;refine⟨w,hw,pE,da,xy,vh,by rw[e1];exact yA,by rw[e1];exact wm,by rw[e1];exact two,.inl ⟨zW,by rw[e1];exact zX,t1,t2,by rw[e1];exact e2,by rw[e1];exact e3⟩⟩
 · -- the dart of the first Py leads to the pass: the other one leads to the crossing
  obtain⟨u,m,y,y1,y2,y3,_,y4⟩:=X1 g hw pE xy (v:=pa) (fw:=bn da) (by rw[<- t2];exact EL vh) sZ qa;have hu:=(aT.1 y2).1;have yT:oT ls.length y=u/\y<2*ls.length:=by
   have key:∀f,oT ls.length (dF ls.length u f)=u/\dF ls.length u f<2*ls.length:=fun f=>⟨(Mg hu).1,by
    have:=yv hu (!f);rw[<- A1] at this;have:=A2 this;rwa[A3] at this⟩
   rcases y4 with ⟨_,_,e⟩|⟨_,_,e⟩<;>rw[e]<;>exact key _
  have yb:y=db:=by
   rcases two y y1 yT.2 with e|e
   .exfalso;rw[e,t1] at yT;rw[<- yT.1] at y2;rw[rB] at y2;have:=qt y2;rw[<- this,oG ca] at y3;cases y3
   exact e
  have nb':oT ls.length db=pb/\oH ls.length db=vb:=by
   rcases nb with h|⟨h1,h2⟩
   .exact h
   exfalso;rw[yb,h1] at yT;rw[<- yT.1,uC] at y2;have:=qt y2;rw[<- this,oG cb] at y3;cases y3
  obtain⟨e1,e2,e3⟩:=go db da pb vb pa va lb mb la ma yA wm vh nb'.1 nb'.2 uC s0 rB sZ cb qb ca qa hid.symm hv.symm (fun y h1 h2=>(two y h1 h2).symm) (.inr ⟨t1,t2⟩);refine⟨w,hw,pE,db,yA,wm,by rw[e1];exact xy,by rw[e1];exact vh,by rw[e1];exact fun y h1 h2=>(two y h1 h2).symm,.inr ⟨zX,by rw[e1];exact zW,nb'.1,nb'.2,by rw[e1];exact e2,by rw[e1];exact e3⟩⟩
end
section
variable {F:Nat} {ls:ai}
def RZ{e:Nat}(hn:0<ls.length)(he:e<ls.length)(h:(j9 ls e).2.2=true):(((j9 ls e).1=e/\(j9 ls e).2.1=nx ls e)\/((j9 ls e).1=nx ls e/\(j9 ls e).2.1=e))/\(∃l,ls[(j9 ls e).2.1]?=some l/\l.aA=true)/\ ∃m,ls[(j9 ls e).1]?=some m/\m.aE=true:=by
 obtain⟨l,hl⟩:=aM he;obtain⟨m,hm⟩:=aM (ls:=ls) (k:=nx ls e) (dr _ hn);have e1:pA ls e=⟨l,iT ls e⟩:=je (qP hl);have e2:pA ls (nx ls e)=⟨m,iT ls (nx ls e)⟩:=je (qP hm);unfold j9 at h |-;rw[e1,e2] at h |-;by_cases c:(l.kind==2)=true
 .rw[aD c] at h |-;exact⟨.inr ⟨rfl,rfl⟩,⟨l,hl,c⟩,m,hm,h⟩
 rw[ay c] at h |-;simp only[cU] at h;exact⟨.inl ⟨rfl,rfl⟩,⟨m,hm,h.2⟩,l,hl,h.1⟩
def ac7{f:Bool}{x y:aQ}(h1:(fN f x).b=(fN f y).b)(h2:(iN f x).b=(iN f y).b):x.i.b=y.i.b/\x.o.b=y.o.b:=by
 rw[Ku,Ku] at h1;rw[KT,KT] at h2;cases f
 .exact⟨h2,h1⟩
 exact⟨h1,h2⟩
def ac5{f:Bool}{x:aQ}(h:(fN f x).b=(iN f x).b):x.i.b=x.o.b:=by
 rw[Ku,KT] at h;cases f
 .exact h.symm
 exact h
def ac6{f:Bool}{x:aQ}(h:x.i.b=x.o.b):(fN f x).b=(iN f x).b:=by
 rw[Ku,KT];cases f
 .exact h.symm
 exact h
def aaa{l:Let}{r:Int}(hp:l.aE=true)(h:dL F l=false):dL F {l with aC:=r}=false:=by have gn:({l with aC:=r}:Let).aE=true:=hp;rw[sB hp] at h;rw[sB gn];exact h
def aat(g:cX F ls){w:a_}(hw:w∈gU (aW ls) (nD ls))(pE:(nk F ls w).places.length=1){d d':Nat}(hd:d∈w)(ld:d<2*ls.length)(Hl:d'∈w)(HU:d'<2*ls.length)(hnx:aW ls d=d')(two:∀y,y∈w->y<2*ls.length->y=d\/y=d')
  {lp lv lw lq:Let} (wL:ls[oT ls.length d]?=some lp) (pW:ls[oH ls.length d]?=some lv) (uJ:ls[oT ls.length d']?=some lw) (xJ:ls[oH ls.length d']?=some lq) (pp:lp.aE=true) (cv:lv.aA=true) (cw:lw.aA=true) (pq:lq.aE=true)
  {P:c_} (yL:P.length=ls.length) (tL:∀q:Let->Bool,(∀(l:Let) (r:Int),q {l with aC:=r}=q l)->aq q (P.map Pc.l)=aq q ls)
  (hP:oT ls.length d≠oH ls.length d'->P[oT ls.length d]?=(pieces ls)[oH ls.length d]? /\P[oH ls.length d]?=some ⟨{lp with aC:=lq.aC},iT ls (oT ls.length d)⟩/\P[oT ls.length d']?=some ⟨{lq with aC:=lp.aC},iT ls (oH ls.length d')⟩/\P[oH ls.length d']?=(pieces ls)[oT ls.length d']? /\
   ∀i,i≠oT ls.length d->i≠oH ls.length d->i≠oT ls.length d'->i≠oH ls.length d'->P[i]?=(pieces ls)[i]?):Cert F P:=by
 have ok:=g.ok;have cz:=g.cz;have hn:0<ls.length:=jl.2 g.ne;have t1:=Oq g ld;have t2:=Oq g HU;have h1:=Cd g ld;have h2:=Cd g HU
 -- the neighbours on the Pj
 obtain⟨u,m,y,y1,y2,y3,qF,y4⟩:=X1 g hw pE Hl (v:=oH ls.length d') (fw:=bn d') (EL HU) xJ pq;have hu:=(aT.1 y2).1;have yT:∀f,oT ls.length (dF ls.length u f)=u/\bn (dF ls.length u f)=f/\dF ls.length u f<2*ls.length:=fun f=>⟨(Mg hu).1,(Mg hu).2,by
  have:=yv hu (!f);rw[<- A1] at this;have:=A2 this;rwa[A3] at this⟩
 have yd:y=d:=by
  have DH:oT ls.length y=u/\y<2*ls.length:=by rcases y4 with ⟨_,_,e⟩|⟨_,_,e⟩<;>rw[e]<;>exact⟨(yT _).1,(yT _).2.2⟩
  rcases two y y1 DH.2 with e|e
  .exact e
  exfalso;rw[e] at DH;rw[<- DH.1,uJ] at y2;have:=qt y2;rw[<- this,oG cw] at y3;cases y3
 subst yd;have hu':oT ls.length y=u:=by rcases y4 with ⟨_,_,e⟩|⟨_,_,e⟩<;>rw[e]<;>exact(yT _).1
 subst hu';rw[wL] at y2;cases y2
 -- cR: ie the Pj
 obtain⟨cR,hR⟩:∃cR:Bool,(cR=true/\dn ls (oH ls.length d')=bn d'/\lp.aC=lq.aC+1/\bn y= !dn ls (oT ls.length y))\/(cR=false/\dn ls (oH ls.length d')=(!bn d')/\lq.aC=lp.aC+1/\bn y=dn ls (oT ls.length y)):=by
  rcases y4 with ⟨e1,e2,e3⟩|⟨e1,e2,e3⟩
  .exact⟨true,.inl ⟨rfl,e1,e2,(congrArg bn e3).trans (yT _).2.1⟩⟩
  exact⟨false,.inr ⟨rfl,e1,e2,(congrArg bn e3).trans (yT _).2.1⟩⟩
 clear y4 yT y1 y3 hu;have my:lp.aC≠lq.aC:=by rcases hR with ⟨_,_,h,_⟩|⟨_,_,h,_⟩<;>omega
 have npq:oT ls.length y≠oH ls.length d':=fun e=>by rw[e,xJ] at wL;have:=qt wL;rw[this] at my;exact my rfl
 obtain⟨pT,pH,pT',pH',pU⟩:=hP npq;clear hP;obtain⟨_,o1,q1,k1⟩:=Jo g ld pW cv;rw[hnx] at o1 q1 k1;rw[JT ld,Li HU] at k1;obtain⟨xa,xb,xc,xd⟩:=k1;simp only[if_true] at xa xb xc xd;have pc:∀ {x y:Nat} {l m:Let},ls[x]?=some l->ls[y]?=some m->l.aA=true->m.aE=true->x≠y:=fun h1 h2 h3 h4 e=>by subst e;rw[h1] at h2;have:=qt h2;rw[this,qN h4] at h3;cases h3
 have nvw:oH ls.length y≠oT ls.length d':=by intro e;obtain⟨_,m,hm,_,_,mo,_⟩:=sC ok.cr pW cv;rw[<- o1,<- e,pW] at hm;have:=qt hm;rw[<- this] at mo;revert mo;cases lv.over<;>simp
 have nvp:=pc pW wL cv pp;have nvq:=pc pW xJ cv pq;have nwp:=pc uJ wL cw pp;have nwq:=pc uJ xJ cw pq
 -- ends of the edges
 have ee:∀d:Nat,(oT ls.length d=d/2/\oH ls.length d=nx ls (d/2))\/(oT ls.length d=nx ls (d/2)/\oH ls.length d=d/2):=fun d=>by
  unfold oT oH nx;split
  .exact .inl ⟨rfl,rfl⟩
  exact .inr ⟨rfl,rfl⟩
 have apart:y/2≠d'/2/\y/2≠nx ls (d'/2)/\nx ls (y/2)≠d'/2/\nx ls (y/2)≠nx ls (d'/2)/\y/2≠nx ls (y/2)/\d'/2≠nx ls (d'/2):=by
  rcases ee y with ⟨a1,a2⟩|⟨a1,a2⟩<;>rcases ee d' with ⟨b1,b2⟩|⟨b1,b2⟩
  .rw[<- a2,<- a1,<- b2,<- b1];exact⟨nwp.symm,npq,nvw,nvq,nvp.symm,nwq⟩
  .rw[<- a2,<- a1,<- b1,<- b2];exact⟨npq,nwp.symm,nvq,nvw,nvp.symm,nwq.symm⟩
  .rw[<- a1,<- a2,<- b2,<- b1];exact⟨nvw,nvq,nwp.symm,npq,nvp,nwq⟩
  rw[<- a1,<- a2,<- b1,<- b2];exact⟨nvq,nvw,npq,nwp.symm,nvp,nwq.symm⟩
 let tau:=(oK ls y).l
 let tI:=fN (bn y) (ek ls (oT ls.length y))
 let hO:=iN (bn d') (ek ls (oH ls.length d'))
 let oth:=(iN (bn y) (ek ls (oH ls.length y))).r
 let K1:eG:=⟨hO.r,tau,tI.b⟩
 let K2:eG:=⟨tI.r,tau,hO.b⟩
 let sd:Nat->eG:=fun j=>if j=y/2 then uo (bn y) K1 else if j=d'/2 then uo (bn d') K2 else rJ ls j
 have sd1:sd (y/2)=uo (bn y) K1:=aD rfl;have sd2:sd (d'/2)=uo (bn d') K2:=by show(if _ then _ else _)=_;rw[ay apart.1.symm,aD rfl]
 have sdn:∀j,j≠y/2->j≠d'/2->sd j=rJ ls j:=fun j h1 h2=>by show(if _ then _ else _)=_;rw[ay h1,ay h2]
 have prev:∀i,i<ls.length->i≠nx ls (y/2)->i≠nx ls (d'/2)->sd ((i+ls.length-1)%ls.length)=rJ ls ((i+ls.length-1)%ls.length):=fun i hi n1 n2=>sdn _ (fun h=>n1 (CM hi h)) (fun h=>n2 (CM hi h))
 obtain⟨z1,z2,z3,z4,z5,z6⟩:=apart;have G1:=Mp (P:=P) yL ld sd1 (prev _ aa z5 z2) (sdn _ z5.symm z3);have G2:=Mp (P:=P) yL HU sd2 (prev _ aa z3.symm z6) (sdn _ z2.symm z6.symm);have un:∀i,i<ls.length->i≠oT ls.length y->i≠oH ls.length y->i≠oT ls.length d'->i≠oH ls.length d'->cG P sd i=ek ls i:=fun i hi n1 n2 n3 n4=>by
  have a1:i≠y/2/\i≠nx ls (y/2):=by
   rcases ee y with ⟨a1,a2⟩|⟨a1,a2⟩
   .rw[<- a2,<- a1];exact⟨n1,n2⟩
   rw[<- a1,<- a2];exact⟨n2,n1⟩
  have a2:i≠d'/2/\i≠nx ls (d'/2):=by
   rcases ee d' with ⟨a1,a2⟩|⟨a1,a2⟩
   .rw[<- a2,<- a1];exact⟨n3,n4⟩
   rw[<- a1,<- a2];exact⟨n4,n3⟩
  exact abz yL hi (pU i n1 n2 n3 n4) (prev i hi a1.2 a2.2) (sdn i a1.1 a2.1)
 have six:∀i,i<ls.length->(i=oT ls.length y\/i=oH ls.length y\/i=oT ls.length d'\/i=oH ls.length d')\/(cG P sd i=ek ls i/\i≠oT ls.length y/\i≠oH ls.length y/\i≠oT ls.length d'/\i≠oH ls.length d'):=fun i hi=>by
  rcases Classical.em (i=oT ls.length y\/i=oH ls.length y\/i=oT ls.length d'\/i=oH ls.length d') with h|h
  .exact .inl h
  simp only[not_or] at h;exact .inr ⟨un i hi h.1 h.2.1 h.2.2.1 h.2.2.2,h⟩
 have gp:∀ {i:Nat} {p:Pc},P[i]?=some p->(cG P sd i).p=p:=fun {i p} h=>by show P.getD i _=_;rw[dA,h];rfl
 have kT:(cG P sd (oT ls.length y)).k=lv:=congrArg Pc.l (gp (pT.trans (qP pW)));have kH:(cG P sd (oH ls.length y)).k={lp with aC:=lq.aC}:=congrArg Pc.l (gp pH);have xT:(cG P sd (oT ls.length d')).k={lq with aC:=lp.aC}:=congrArg Pc.l (gp pT');have FK:(cG P sd (oH ls.length d')).k=lw:=congrArg Pc.l (gp (pH'.trans (qP uJ)));have dH:(cG P sd (oH ls.length y)).p.d=(ek ls (oT ls.length y)).p.d:=by rw[gp pH];rfl
 have CZ:(cG P sd (oT ls.length d')).p.d=(ek ls (oH ls.length d')).p.d:=by rw[gp pT'];rfl
 have okv:=(ER g h1).cb (by rw[eE pW];exact cv);have okw:=(ER g t2).cb (by rw[eE uJ];exact cw);have bv:=ac6 (f:=bn y) okv;have bw:=ac6 (f:=bn d') okw;rw[JT ld] at bv;rw[Li HU] at bw;have bp:=Li (ls:=ls) ld;have bq:=JT (ls:=ls) HU;have gdp:=ok.ax.fy lp (aV wL) pp;have gdq:=ok.ax.fy lq (aV xJ) pq;have plp:=PB g wL pp;have plq:=PB g xJ pq;obtain⟨p1,p2,p3,p4⟩:=plp;obtain⟨p5,p6,p7,p8⟩:=plq;rw[eE wL] at p1 p2 p3 p4;rw[eE xJ] at p5 p6 p7 p8;have l5:=PA g wL pp;have yQ:=PA g xJ pq;rw[Cs (bn y)] at p1 p2;rw[BW (bn y)] at p3 p4;rw[Cs (bn d')] at p5 p6;rw[BW (bn d')] at p7 p8;rw[l5,bp] at p1 p2 p3 p4;rw[yQ,bq] at p5 p6 p7 p8;have cgq:cg ls lq.gate.toNat=cg ls lp.gate.toNat:=by rw[qF]
 obtain⟨gp0,G9,gp2,gp3⟩:=gdp;obtain⟨gq0,gq1,gq2,gq3⟩:=gdq;rw[cgq] at gq3;rw[qF] at p5 p6 p7 p8;obtain⟨r,T',B',jV,wJ,iG,hT,pl1,pl2,wH⟩:∃(r:Nat) (T' B':Nat->Nat->Nat),1<=r/\r<cg ls lp.gate.toNat/\((lp.aC=(r:Int)/\lq.aC=(r:Int)+1)\/(lq.aC=(r:Int)/\lp.aC=(r:Int)+1))/\(∀k j,¬(k=lp.gate.toNat/\j=r)->T' k j=TF ls k j/\B' k j=BF ls k j)/\
   Ie T' B' (cG P sd (oH ls.length y))/\Ie T' B' (cG P sd (oT ls.length d'))/\tI.l=hO.l:=by
  rcases hR with ⟨_,fg,aoX,eD⟩|⟨_,fg,aoX,eD⟩
  .have f1:(bn y==dn ls (oT ls.length y))=false:=by rw[eD];cases dn ls (oT ls.length y)<;>rfl
   have f2:(bn d'==dn ls (oH ls.length d'))=true:=by rw[fg];cases bn d'<;>rfl
   rw[f1] at p1 p2 p3 p4;rw[f2] at p5 p6 p7 p8;simp only[dN,if_false,if_true] at p1 p2 p3 p4 p5 p6 p7 p8;have er:lp.aC.toNat=lq.aC.toNat+1:=aa;rw[er] at p1 p2 p3 p4;rw[Nat.add_sub_cancel] at p1 p3;refine⟨lq.aC.toNat,fun k j=>if k=lp.gate.toNat/\j=lq.aC.toNat then oth else TF ls k j,fun k j=>if k=lp.gate.toNat/\j=lq.aC.toNat then tau else BF ls k j,aa,aa,.inr ⟨aa,aa⟩,fun k j h=>⟨ay h,ay h⟩,?_,?_,?_⟩
   .constructor
    .rw[kH,Cs (bn y),dH,l5,f1];show(jh (iN (bn y) (cG P sd (oH ls.length y)))).r=if lp.gate.toNat=lp.gate.toNat/\lq.aC.toNat-1=lq.aC.toNat then oth else TF ls lp.gate.toNat (lq.aC.toNat-1);rw[ay aa,G1.2.2.2];exact xd.symm.trans p5
    .rw[kH,Cs (bn y),dH,l5,f1];show(jh (iN (bn y) (cG P sd (oH ls.length y)))).l=if lp.gate.toNat=lp.gate.toNat/\lq.aC.toNat=lq.aC.toNat then oth else TF ls lp.gate.toNat lq.aC.toNat;rw[aD ⟨rfl,rfl⟩,G1.2.2.2];rfl
    .rw[kH,BW (bn y),dH,l5,f1];show(jh (fN (bn y) (cG P sd (oH ls.length y)))).r=if lp.gate.toNat=lp.gate.toNat/\lq.aC.toNat-1=lq.aC.toNat then tau else BF ls lp.gate.toNat (lq.aC.toNat-1);rw[ay aa,G1.2.2.1];exact p7
    rw[kH,BW (bn y),dH,l5,f1];show(jh (fN (bn y) (cG P sd (oH ls.length y)))).l=if lp.gate.toNat=lp.gate.toNat/\lq.aC.toNat=lq.aC.toNat then tau else BF ls lp.gate.toNat lq.aC.toNat;rw[aD ⟨rfl,rfl⟩,G1.2.2.1];rfl
   .constructor
    .rw[xT,Cs (bn d'),CZ,yQ,f2];show(fN (bn d') (cG P sd (oT ls.length d'))).r=if lq.gate.toNat=lp.gate.toNat/\lp.aC.toNat-1=lq.aC.toNat then oth else TF ls lq.gate.toNat (lp.aC.toNat-1);rw[aD ⟨by rw[qF],aa⟩,G2.1];exact xb.symm
    .rw[xT,Cs (bn d'),CZ,yQ,f2];show(fN (bn d') (cG P sd (oT ls.length d'))).l=if lq.gate.toNat=lp.gate.toNat/\lp.aC.toNat=lq.aC.toNat then oth else TF ls lq.gate.toNat lp.aC.toNat;rw[ay aa,G2.1,qF,er];exact xc.trans p2
    .rw[xT,BW (bn d'),CZ,yQ,f2];show(iN (bn d') (cG P sd (oT ls.length d'))).r=if lq.gate.toNat=lp.gate.toNat/\lp.aC.toNat-1=lq.aC.toNat then tau else BF ls lq.gate.toNat (lp.aC.toNat-1);rw[aD ⟨by rw[qF],aa⟩,G2.2.1]
    rw[xT,BW (bn d'),CZ,yQ,f2];show(iN (bn d') (cG P sd (oT ls.length d'))).l=if lq.gate.toNat=lp.gate.toNat/\lp.aC.toNat=lq.aC.toNat then tau else BF ls lq.gate.toNat lp.aC.toNat;rw[ay aa,G2.2.1,qF,er];exact p4
   exact p3.trans p8.symm
  have f1:(bn y==dn ls (oT ls.length y))=true:=by rw[eD];cases dn ls (oT ls.length y)<;>rfl
  have f2:(bn d'==dn ls (oH ls.length d'))=false:=by rw[fg];cases bn d'<;>rfl
  rw[f1] at p1 p2 p3 p4;rw[f2] at p5 p6 p7 p8;simp only[dN,if_false,if_true] at p1 p2 p3 p4 p5 p6 p7 p8;have er:lq.aC.toNat=lp.aC.toNat+1:=aa;rw[er] at p5 p6 p7 p8;rw[Nat.add_sub_cancel] at p5 p7;refine⟨lp.aC.toNat,fun k j=>if k=lp.gate.toNat/\j=lp.aC.toNat then tau else TF ls k j,fun k j=>if k=lp.gate.toNat/\j=lp.aC.toNat then oth else BF ls k j,aa,aa,.inl ⟨aa,aa⟩,fun k j h=>⟨ay h,ay h⟩,?_,?_,?_⟩
  .constructor
   .rw[kH,Cs (bn y),dH,l5,f1];show(fN (bn y) (cG P sd (oH ls.length y))).r=if lp.gate.toNat=lp.gate.toNat/\lq.aC.toNat-1=lp.aC.toNat then tau else TF ls lp.gate.toNat (lq.aC.toNat-1);rw[aD ⟨rfl,aa⟩,G1.2.2.1]
   .rw[kH,Cs (bn y),dH,l5,f1];show(fN (bn y) (cG P sd (oH ls.length y))).l=if lp.gate.toNat=lp.gate.toNat/\lq.aC.toNat=lp.aC.toNat then tau else TF ls lp.gate.toNat lq.aC.toNat;rw[ay aa,G1.2.2.1,er];exact p6
   .rw[kH,BW (bn y),dH,l5,f1];show(iN (bn y) (cG P sd (oH ls.length y))).r=if lp.gate.toNat=lp.gate.toNat/\lq.aC.toNat-1=lp.aC.toNat then oth else BF ls lp.gate.toNat (lq.aC.toNat-1);rw[aD ⟨rfl,aa⟩,G1.2.2.2]
   rw[kH,BW (bn y),dH,l5,f1];show(iN (bn y) (cG P sd (oH ls.length y))).l=if lp.gate.toNat=lp.gate.toNat/\lq.aC.toNat=lp.aC.toNat then oth else BF ls lp.gate.toNat lq.aC.toNat;rw[ay aa,G1.2.2.2,er];exact xd.symm.trans p8
  .constructor
   .rw[xT,Cs (bn d'),CZ,yQ,f2];show(jh (iN (bn d') (cG P sd (oT ls.length d')))).r=if lq.gate.toNat=lp.gate.toNat/\lp.aC.toNat-1=lp.aC.toNat then tau else TF ls lq.gate.toNat (lp.aC.toNat-1);rw[ay aa,G2.2.1,qF];exact p1
   .rw[xT,Cs (bn d'),CZ,yQ,f2];show(jh (iN (bn d') (cG P sd (oT ls.length d')))).l=if lq.gate.toNat=lp.gate.toNat/\lp.aC.toNat=lp.aC.toNat then tau else TF ls lq.gate.toNat lp.aC.toNat;rw[aD ⟨by rw[qF],rfl⟩,G2.2.1];rfl
   .rw[xT,BW (bn d'),CZ,yQ,f2];show(jh (fN (bn d') (cG P sd (oT ls.length d')))).r=if lq.gate.toNat=lp.gate.toNat/\lp.aC.toNat-1=lp.aC.toNat then oth else BF ls lq.gate.toNat (lp.aC.toNat-1);rw[ay aa,G2.1,qF];exact xc.trans p3
   rw[xT,BW (bn d'),CZ,yQ,f2];show(jh (fN (bn d') (cG P sd (oT ls.length d')))).l=if lq.gate.toNat=lp.gate.toNat/\lp.aC.toNat=lp.aC.toNat then oth else BF ls lq.gate.toNat lp.aC.toNat;rw[aD ⟨by rw[qF],rfl⟩,G2.1];exact xb.symm
  exact p2.trans p5.symm
 clear p1 p2 p3 p4 p5 p6 p7 p8 hR;have mgp:∀i,i<ls.length->(cG P sd i).k.aE=true->(i=oH ls.length y\/i=oT ls.length d')\/(cG P sd i=ek ls i/\i≠oT ls.length y/\i≠oH ls.length y/\i≠oT ls.length d'/\i≠oH ls.length d'):=fun i hi hp=>by
  rcases six i hi with (rfl|rfl|rfl|rfl)|h
  .rw[kT,oG cv] at hp;cases hp
  .exact .inl (.inl rfl)
  .exact .inl (.inr rfl)
  .rw[FK,oG cw] at hp;cases hp
  exact .inr h
 have mgc:∀i,i<ls.length->(cG P sd i).k.aA=true->(i=oT ls.length y\/i=oH ls.length d')\/(cG P sd i=ek ls i/\i≠oT ls.length y/\i≠oH ls.length y/\i≠oT ls.length d'/\i≠oH ls.length d'):=fun i hi hc=>by
  have n1:∀(l:Let) (r:Int),l.aE=true->({l with aC:=r}:Let).aA=false:=fun l r h=>qN (l:={l with aC:=r}) h;rcases six i hi with (rfl|rfl|rfl|rfl)|h
  .exact .inl (.inl rfl)
  .rw[kH,n1 _ _ pp] at hc;cases hc
  .rw[xT,n1 _ _ pq] at hc;cases hc
  .exact .inl (.inr rfl)
  exact .inr h
 -- the place of a pass is that of an old one
 have old:∀i,i<ls.length->(cG P sd i).k.aE=true->∃j l,ls[j]?=some l/\l.aE=true/\(cG P sd i).k.gate=l.gate/\(cG P sd i).k.aC=l.aC/\((i=oH ls.length y/\j=oH ls.length d')\/(i=oT ls.length d'/\j=oT ls.length y)\/(i=j/\i≠oT ls.length y/\i≠oH ls.length d')):=fun i hi hp=>by
  rcases mgp i hi hp with (rfl|rfl)|⟨e,n1,n2,n3,n4⟩
  .exact⟨_,lq,xJ,pq,by rw[kH];exact qF.symm,by rw[kH],.inl ⟨rfl,rfl⟩⟩
  .exact⟨_,lp,wL,pp,by rw[xT];exact qF,by rw[xT],.inr (.inl ⟨rfl,rfl⟩)⟩
  obtain⟨l,hl⟩:=aM hi;rw[e] at hp;rw[eE hl] at hp;exact⟨i,l,hl,hp,by rw[e,eE hl],by rw[e,eE hl],.inr (.inr ⟨rfl,n1,n4⟩)⟩
 have C1:Xc (cG P sd (oT ls.length y)) (cG P sd (oH ls.length d')):=by
  obtain⟨b1,m,hm,mc,mi,mo,ms⟩:=sC ok.cr pW cv;rw[<- o1,uJ] at hm;have em:=qt hm;subst em;refine⟨by rw[kT,FK,mo];simp,by rw[kT,FK,ms],?_⟩;rw[kT,q1,<- SY,G1.1,G1.2.1,G2.2.2.1,G2.2.2.2];constructor<;>simp only[if_true]
  .exact wH
  .rfl
  .rfl
  rfl
 have hid:lv.id=lw.id:=by obtain⟨b1,m,hm,mc,mi,mo,ms⟩:=sC ok.cr pW cv;rw[<- o1,uJ] at hm;rw[qt hm,mi]
 have ho2:fJ ls (oT ls.length d')=oH ls.length y:=by rw[o1];exact(sC ok.cr pW cv).1
 have labs:∀(f:Bool) i,i<ls.length->∀t,t=(fN f (cG P sd i)).l\/t=(fN f (cG P sd i)).r->∃j',j'<ls.length/\(t=(sd j').l\/t=(sd j').r):=fun f i hi t ht=>by
  cases f
  .refine⟨i,hi,?_⟩;rcases ht with ht|ht
   .exact .inr ht
   exact .inl ht
  refine⟨(i+P.length-1)%P.length,?_,ht⟩;rw[yL];exact dr _ hn
 have labo:∀(f:Bool) i,i<ls.length->∀t,t=(iN f (cG P sd i)).l\/t=(iN f (cG P sd i)).r->∃j',j'<ls.length/\(t=(sd j').l\/t=(sd j').r):=fun f i hi t ht=>by
  cases f
  .refine⟨(i+P.length-1)%P.length,?_,?_⟩
   .rw[yL];exact dr _ hn
   rcases ht with ht|ht
   .exact .inr ht
   exact .inl ht
  exact⟨i,hi,ht⟩
 have czgt:=cz.gt;have czgz:=cz.gz;rw[mF] at czgz;refine aav g (tau:=tau) (sd:=sd) (T':=T') (B':=B') yL (tL _ fun _ _=>rfl) (tL _ fun _ _=>rfl) (fun k=>tL _ fun _ _=>rfl) (fun i hi=>?_) (fun i j hi hj iv ci cj e=>?_) (fun i j hi hj iv pi pj e1 e2=>?_) (fun i hi ci=>?_) (fun i hi pi=>?_) (fun i hi pi=>?_) (fun k hk=>?_) ?_ (fun j hj t ht=>?_)
 .rcases six i hi with (rfl|rfl|rfl|rfl)|⟨e,_⟩
  .exact⟨by rw[kT];exact g.bad lv (aV pW),fun _=>ac5 (f:=bn y) (by rw[G1.1,G1.2.1]),fun hp=>by rw[kT,oG cv] at hp;cases hp⟩
  .have fl:=ac7 (f:=bn y) (x:=cG P sd (oH ls.length y)) (y:=ek ls (oT ls.length y)) (by rw[G1.2.2.1]) (by rw[G1.2.2.2,bp];exact bv.symm);refine⟨by rw[kH];exact aaa pp (g.bad lp (aV wL)),fun hc=>?_,fun _=>?_⟩
   .rw[kH] at hc;have:=qN (l:={lp with aC:=lq.aC}) pp;rw[this] at hc;cases hc
   rw[fl.1,fl.2,dH];exact(ER g t1).pb (by rw[eE wL];exact pp)
  .have fl:=ac7 (f:=bn d') (x:=cG P sd (oT ls.length d')) (y:=ek ls (oH ls.length d')) (by rw[G2.1,bq];exact bw) (by rw[G2.2.1]);refine⟨by rw[xT];exact aaa pq (g.bad lq (aV xJ)),fun hc=>?_,fun _=>?_⟩
   .rw[xT] at hc;have:=qN (l:={lq with aC:=lp.aC}) pq;rw[this] at hc;cases hc
   rw[fl.1,fl.2,CZ];exact(ER g h2).pb (by rw[eE xJ];exact pq)
  .exact⟨by rw[FK];exact g.bad lw (aV uJ),fun _=>ac5 (f:=bn d') (by rw[G2.2.2.1,G2.2.2.2]),fun hp=>by rw[FK,oG cw] at hp;cases hp⟩
  rw[e];exact ER g hi
 .rcases mgc i hi ci with (rfl|rfl)|⟨ei,n1,n2,n3,n4⟩<;>rcases mgc j hj cj with (rfl|rfl)|⟨ej,m1,m2,m3,m4⟩
  .exact absurd rfl iv
  .exact C1
  .exfalso;obtain⟨l,hl⟩:=aM hj;rw[kT,ej,eE hl] at e;rw[ej,eE hl] at cj;have:=Il g pW hl cv cj e m2.symm;rw[<- o1] at this;exact m3 this.symm
  .exact C1.symm
  .exact absurd rfl iv
  .exfalso;obtain⟨l,hl⟩:=aM hj;rw[FK,ej,eE hl] at e;rw[ej,eE hl] at cj;have:=Il g uJ hl cw cj e m3.symm;rw[ho2] at this;exact m2 this.symm
  .exfalso;obtain⟨l,hl⟩:=aM hi;rw[kT,ei,eE hl] at e;rw[ei,eE hl] at ci;have:=Il g pW hl cv ci e.symm n2.symm;rw[<- o1] at this;exact n3 this.symm
  .exfalso;obtain⟨l,hl⟩:=aM hi;rw[FK,ei,eE hl] at e;rw[ei,eE hl] at ci;have:=Il g uJ hl cw ci e.symm n3.symm;rw[ho2] at this;exact n2 this.symm
  rw[ei] at ci e |-;rw[ej] at cj e |-;exact Mo g hi hj iv ci cj e
 .obtain⟨a,l,hl,_,g1',tn,c1⟩:=old i hi pi;obtain⟨b,m,hm,_,g2',ua,c2⟩:=old j hj pj;rename_i Cf KX;have ef:a≠b:=by
   intro e;rcases c1 with ⟨i1,j1⟩|⟨i1,j1⟩|⟨i1,i2,i3⟩<;>rcases c2 with ⟨k1,k2⟩|⟨k1,k2⟩|⟨k1,k2,k3⟩
   .exact iv (i1.trans k1.symm)
   .exact npq (by rw[<- k2,<- e,j1])
   .exact k3 (by rw[k1,<- e,j1])
   .exact npq (by rw[<- j1,e,k2])
   .exact iv (i1.trans k1.symm)
   .exact k2 (by rw[k1,<- e,j1])
   .exact i3 (by rw[i1,e,k2])
   .exact i2 (by rw[i1,e,k2])
   exact iv (by rw[i1,k1,e])
  have gl:=ok.ax.fy l (aV hl) Cf;have gm:=ok.ax.fy m (aV hm) KX;exact ef (ok.ax.inj a b l m hl hm Cf KX ((Ih gl gm).2 ⟨by rw[<- g1',<- g2',e1],by rw[<- tn,<- ua,e2]⟩))
 .rcases mgc i hi ci with (rfl|rfl)|⟨ei,_⟩
  .rw[kT];exact g.ids.1 lv (aV pW) cv
  .rw[FK];exact g.ids.1 lw (aV uJ) cw
  obtain⟨l,hl⟩:=aM hi;rw[ei,eE hl] at ci |-;exact g.ids.1 l (aV hl) ci
 .obtain⟨a,l,hl,Cf,g1',tn,_⟩:=old i hi pi;rw[g1',tn];obtain⟨_,_,b1,b2⟩:=ok.ax.fy l (aV hl) Cf;exact⟨b1,b2⟩
 .rcases mgp i hi pi with (rfl|rfl)|⟨ei,n1,n2,n3,n4⟩
  .exact pl1
  .exact pl2
  obtain⟨l,hl⟩:=aM hi;rw[ei] at pi |-;rw[eE hl] at pi;obtain⟨a1,a2,a3,a4⟩:=PB g hl pi;rw[eE hl] at a1 a2 a3 a4;obtain⟨b0,_,b1,b2⟩:=ok.ax.fy l (aV hl) pi;have vm:l.gate.toNat=lp.gate.toNat->l.aC.toNat≠r/\l.aC.toNat-1≠r:=fun jo=>by have gg:l.gate=lp.gate:=aa;have d1:l.aC≠lp.aC:=fun e=>n1 (ok.ax.inj i _ l lp hl wL pi pp ((Ih (ok.ax.fy l (aV hl) pi) (ok.ax.fy lp (aV wL) pp)).2 ⟨gg,e⟩));have d2:l.aC≠lq.aC:=fun e=>n4 (ok.ax.inj i _ l lq hl xJ pi pq ((Ih (ok.ax.fy l (aV hl) pi) (ok.ax.fy lq (aV xJ) pq)).2 ⟨by rw[gg,qF],e⟩));rcases iG with ⟨s1,s2⟩|⟨s1,s2⟩<;>omega
  have v1:=hT l.gate.toNat (l.aC.toNat-1) (fun⟨h1,h2⟩=>(vm h1).2 h2);have v2:=hT l.gate.toNat l.aC.toNat (fun⟨h1,h2⟩=>(vm h1).1 h2);constructor
  .rw[eE hl,v1.1];exact a1
  .rw[eE hl,v2.1];exact a2
  .rw[eE hl,v1.2];exact a3
  rw[eE hl,v2.2];exact a4
 .have:=czgt k hk;rw[mF] at this;have v1:=hT k (cg ls k) (fun⟨h1,h2⟩=>by rw[h1] at h2;omega);have v2:=hT (k+1) 0 (fun⟨_,h2⟩=>aa);rw[v1.1,v1.2,v2.1,v2.2];exact this
 .have v1:=hT F (cg ls F) (fun⟨h1,h2⟩=>by rw[h1] at h2;omega);have v2:=hT 0 0 (fun⟨_,h2⟩=>aa);rw[v1.1,v1.2,v2.1,v2.2];exact czgz
 have viaK:∀d,j=d/2->t=(oK ls d).l\/t=(oK ls d).r:=fun d hd=>by
  rw[hd] at ht;unfold oK;split
  .exact ht
  exact ht.symm
 by_cases n1:j=y/2
 .rcases viaK y n1 with h|h
  .exact .inl h
  exact .inr (labs (bn d') _ t2 t (.inl (by rw[G2.1,h];exact xc.symm)))
 by_cases n2:j=d'/2
 .rcases viaK d' n2 with h|h
  .exact .inl (h.trans xa.symm)
  exact .inr (labo (bn y) _ h1 t (.inl (by rw[G1.2.2.2,h];exact xd)))
 exact .inr ⟨j,hj,by rw[sdn j n1 n2];exact ht⟩
def TB(g:cX F ls){a b:Nat}(ha:a<ls.length)(hb:b<ls.length)(ef:a≠b){L:c_}(h:rS F ls a b=some L):Cert F L:=by
 unfold rS at h;split at h
 case isFalse=>cases h
 rename_i hc;simp only[cU,mj,lS,dk] at hc;obtain⟨h1,h2,h3,h4,h5⟩:=hc;cases h;have hn:0<ls.length:=jl.2 g.ne;have bY:=fK ls;obtain⟨ea,⟨la,rB,ca⟩,ma,sZ,qa⟩:=RZ hn ha h1;obtain⟨eb,⟨lb,uC,cb⟩,mb,s0,qb⟩:=RZ hn hb h2;generalize (j9 ls a).1=pa at*;generalize (j9 ls a).2.1=va at*;generalize (j9 ls b).1=pb at*;generalize (j9 ls b).2.1=vb at*;have eva:pA ls va=⟨la,iT ls va⟩:=je (qP rB);have evb:pA ls vb=⟨lb,iT ls vb⟩:=je (qP uC);have epa:pA ls pa=⟨ma,iT ls pa⟩:=je (qP sZ);have epb:pA ls pb=⟨mb,iT ls pb⟩:=je (qP s0);rw[eva,evb] at h4;rw[epa,epb]
 obtain⟨w,hw,pE,d,d1,d2,d3,d4,two,cs⟩:=ahR g ha hb ef ea eb rB uC sZ s0 ca cb qa qb h4 h3 h5;have pc:∀ {x y:Nat} {l m:Let},ls[x]?=some l->ls[y]?=some m->l.aA=true->m.aE=true->x≠y:=fun h1 h2 h3 h4 e=>by subst e;rw[h1] at h2;have:=qt h2;rw[this,qN h4] at h3;cases h3
 have nva:va≠pa:=pc rB sZ ca qa;have nvb:vb≠pb:=pc uC s0 cb qb;have nvab:va≠pb:=pc rB s0 ca qb;have nvba:vb≠pa:=pc uC sZ cb qa
 let PP:=eW (eW (pieces ls) pa mb.aC) pb ma.aC
 have W7:=qP sZ;have aoV:pa≠pb->(eW (pieces ls) pa mb.aC)[pb]?=some ⟨mb,iT ls pb⟩:=fun aI=>by rw[A4 W7,ay aI.symm];exact qP s0
 have aoW:∃p,(eW (pieces ls) pa mb.aC)[pb]?=some p:=aM (by rw[zu,bY];exact(aT.1 s0).1);have Qj:PP.length=ls.length:=by show(eW (eW _ _ _) _ _).length=_;rw[zu,zu,bY]
 have e1:(fj ls PP a).length=ls.length:=by rw[zx,Qj]
 have yL:(fY ls PP [a,b]).length=ls.length:=by rw[w8,Qj]
 have tL:∀q:Let->Bool,(∀(l:Let) (r:Int),q {l with aC:=r}=q l)->aq q ((fY ls PP [a,b]).map Pc.l)=aq q ls:=fun q hq=>by rw[<- Ry (ls:=ls) q];show List.countP _ _=List.countP _ _;rw[Ba,Ba];show(fj ls (fj ls PP a) b).countP _=_;obtain⟨p,hp⟩:=aoW;rw[Lh e1 hb (Rg g hb),Lh Qj ha (Rg g ha),YE hp (fun p=>hq _ _),YE W7 (fun p=>hq _ _)]
 have PPg:pa≠pb->PP[pa]?=some ⟨{ma with aC:=mb.aC},iT ls pa⟩/\PP[pb]?=some ⟨{mb with aC:=ma.aC},iT ls pb⟩/\ ∀i,i≠pa->i≠pb->PP[i]?=(pieces ls)[i]? :=fun aI=>by
  have k:∀j,PP[j]?=if j=pb then some ⟨{mb with aC:=ma.aC},iT ls pb⟩ else if j=pa then some ⟨{ma with aC:=mb.aC},iT ls pa⟩ else (pieces ls)[j]? :=fun j=>by show(eW (eW _ _ _) _ _)[j]?=_;rw[A4 (aoV aI),A4 W7]
  refine⟨by rw[k,ay aI,aD rfl],by rw[k,aD rfl],fun i n1 n2=>by rw[k,ay n2,ay n1]⟩
 have swg:pa≠pb->(fY ls PP [a,b])[pa]?=PP[va]? /\(fY ls PP [a,b])[va]?=PP[pa]? /\(fY ls PP [a,b])[pb]?=PP[vb]? /\(fY ls PP [a,b])[vb]?=PP[pb]? /\ ∀i,i≠pa->i≠va->i≠pb->i≠vb->(fY ls PP [a,b])[i]?=PP[i]? :=fun aI=>by
  have k:∀i,(fY ls PP [a,b])[i]?=if i=nx ls b then (fj ls PP a)[b]? else if i=b then (fj ls PP a)[nx ls b]? else (fj ls PP a)[i]? :=fun i=>A5 e1 hb i;have k2:∀i,(fj ls PP a)[i]?=if i=nx ls a then PP[a]? else if i=a then PP[nx ls a]? else PP[i]? :=fun i=>A5 Qj ha i;have ka:∀i,i≠pa->i≠va->(fj ls PP a)[i]?=PP[i]? :=fun i n1 n2=>by
   rcases ea with ⟨q1,q2⟩|⟨q1,q2⟩
   .rw[k2,ay (by rw[<- q2];exact n2),ay (by rw[<- q1];exact n1)]
   rw[k2,ay (by rw[<- q1];exact n1),ay (by rw[<- q2];exact n2)]
  have kb:∀i,i≠pb->i≠vb->(fY ls PP [a,b])[i]?=(fj ls PP a)[i]? :=fun i n1 n2=>by
   rcases eb with ⟨q1,q2⟩|⟨q1,q2⟩
   .rw[k,ay (by rw[<- q2];exact n2),ay (by rw[<- q1];exact n1)]
   rw[k,ay (by rw[<- q1];exact n1),ay (by rw[<- q2];exact n2)]
  have ka2:(fj ls PP a)[pa]?=PP[va]? /\(fj ls PP a)[va]?=PP[pa]? :=by
   rcases ea with ⟨q1,q2⟩|⟨q1,q2⟩
   .exact⟨by rw[k2,ay (by rw[<- q2];exact nva.symm),aD q1,<- q2],by rw[k2,aD q2,<- q1]⟩
   exact⟨by rw[k2,aD q1,<- q2],by rw[k2,ay (by rw[<- q1];exact nva),aD q2,<- q1]⟩
  have N9:(fY ls PP [a,b])[pb]?=(fj ls PP a)[vb]? /\(fY ls PP [a,b])[vb]?=(fj ls PP a)[pb]? :=by
   rcases eb with ⟨q1,q2⟩|⟨q1,q2⟩
   .exact⟨by rw[k,ay (by rw[<- q2];exact nvb.symm),aD q1,<- q2],by rw[k,aD q2,<- q1]⟩
   exact⟨by rw[k,aD q1,<- q2],by rw[k,ay (by rw[<- q1];exact nvb),aD q2,<- q1]⟩
  refine⟨by rw[kb _ aI nvba.symm,ka2.1],by rw[kb _ nvab h3,ka2.2],by rw[N9.1,ka _ nvba (Ne.symm h3)],by rw[N9.2,ka _ aI.symm nvab.symm],fun i n1 n2 n3 n4=>by rw[kb i n3 n4,ka i n1 n2]⟩
 rcases cs with ⟨c1,c2,c3,c4,c5,c6⟩|⟨c1,c2,c3,c4,c5,c6⟩
 .refine aat g hw pE d1 d2 d3 d4 rfl two (lp:=ma) (lv:=la) (lw:=lb) (lq:=mb) (by rw[c3];exact sZ) (by rw[c4];exact rB) (by rw[c5];exact uC) (by rw[c6];exact s0) qa ca cb qb yL tL fun aI=>?_;rw[c3,c4,c5,c6] at*;obtain⟨g1,g2,g3⟩:=PPg aI;obtain⟨s1,s2,s3,s4,s5⟩:=swg aI;exact⟨by rw[s1,g3 _ nva nvab],by rw[s2,g1],by rw[s4,g2],by rw[s3,g3 _ nvba nvb],fun i n1 n2 n3 n4=>by rw[s5 i n1 n2 n4 n3,g3 i n1 n4]⟩
 refine aat g hw pE d1 d2 d3 d4 rfl two (lp:=mb) (lv:=lb) (lw:=la) (lq:=ma) (by rw[c3];exact s0) (by rw[c4];exact uC) (by rw[c5];exact rB) (by rw[c6];exact sZ) qb cb ca qa yL tL fun aI=>?_;rw[c3,c4,c5,c6] at*;obtain⟨g1,g2,g3⟩:=PPg aI.symm;obtain⟨s1,s2,s3,s4,s5⟩:=swg aI.symm;exact⟨by rw[s3,g3 _ nvba nvb],by rw[s4,g2],by rw[s2,g1],by rw[s1,g3 _ nva nvab],fun i n1 n2 n3 n4=>by rw[s5 i n4 n3 n1 n2,g3 i n4 n1]⟩
end
end Go.Abs
