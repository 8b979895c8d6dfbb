/-
  The triangle keeps a code valid.
-/
import Derived.Test.YtjdfokaegjgddaaGreatDoorUc
import Derived.Test.YtjdfokaegjgddaaGreatDoorVb
set_option linter.all false
set_option maxHeartbeats 16000000
namespace Go.Abs
section
variable{v:Nat}
theorem X4.Km{g:Bool}{i o j q:gC}(h:X4 g i o j q):X4 (!g) (mZ o) (mZ i) j q:=by obtain⟨a,b,c,d⟩:=h;cases g<;>simp only[aaq,if_false,if_true] at a b c d<;>constructor<;>simp[mZ,a,b,c,d]
theorem X4.Kl{g:Bool}{i o j q:gC}(h:X4 g i o j q):X4 (!g) i o (mZ q) (mZ j):=by obtain⟨a,b,c,d⟩:=h;cases g<;>simp only[aaq,if_false,if_true] at a b c d<;>constructor<;>simp[mZ,a,b,c,d]
def kX(f:Bool)(x:aM):gC:=if f then x.i else mZ x.o
def nX(f:Bool)(x:aM):gC:=if f then x.o else mZ x.i
theorem QK{f f':Bool}{x y:aM}:X4 true (kX f x) (nX f x) (kX f' y) (nX f' y)↔X4 (f==f') x.i x.o y.i y.o:=by
 cases f<;>cases f'<;>simp only[kX,nX,aaq,if_false,if_true]
 .exact⟨fun h=>h.Km.Kl,fun h=>h.Km.Kl⟩
 .exact⟨fun h=>h.Km,fun h=>h.Km⟩
 .exact⟨fun h=>h.Kl,fun h=>h.Kl⟩
 exact Iff.rfl
def oT (n d:Nat):Nat:=if d%2=0 then d/2 else (d/2+1)%n
def oH (n d:Nat):Nat:=if d%2=0 then (d/2+1)%n else d/2
def dA(d:Nat):Bool:=d%2==0
section
variable {F:Nat} {ls:List Let}
def ez(P:List Pc)(sd:Nat->gC)(i:Nat):aM:=⟨P.getD i ⟨fG,false⟩,sd ((i+P.length-1)%P.length),sd i⟩
def zG (P:List Pc)(sd:Nat->gC):List aM:=(List.range P.length).map (ez P sd)
theorem WE(P:List Pc)(sd:Nat->gC):(zG P sd).map aM.p=P:=by
 unfold zG;rw[abq];apply adx;intro i;rw[aaz];by_cases hi:i<P.length
 .obtain⟨p,hp⟩:=ai hi;rw[abw hi,hp];show some (P.getD i _)=_;rw[aal,hp];rfl
 rw[abz (by rw[acm];omega),abz (by omega)];rfl
theorem Q1(P:List Pc)(sd:Nat->gC)(h:0<P.length):∃s,dq s (zG P sd) s:=by
 refine⟨sd (P.length-1),?_⟩;have:=Fn (ez P sd) (fun i=>sd ((i+P.length-1)%P.length)) P.length 0 fun i _ hi=>⟨rfl,?_⟩
 .simp only[aa0] at this;rw[aaB (by omega),show P.length+P.length-1=(P.length-1)+P.length by omega,abX,aaB (by omega),<- List.range_eq_range'] at this;exact this
 show sd i=sd ((i+1+P.length-1)%P.length);rw[show i+1+P.length-1=i+P.length by omega,abX,aaB (by omega)]
theorem GB(g:cD F ls){P:List Pc}{sd:Nat->gC}{T' B':Nat->Nat->Nat}{tau:Nat}(hl:P.length=ls.length)
  (hC:ao Let.aw (P.map Pc.l)=ao Let.aw ls) (hP:ao Let.aA (P.map Pc.l)=ao Let.aA ls) (hG:∀k,cg (P.map Pc.l) k=cg ls k)
  (ok:∀i,i<ls.length->LW F (ez P sd i)) (cr:∀i j,i<ls.length->j<ls.length->i≠j->Xr (ez P sd i) (ez P sd j)) (rk:∀i j,i<ls.length->j<ls.length->i≠j->Dr (ez P sd i) (ez P sd j))
  (ids:∀i,i<ls.length->(ez P sd i).k.aw=true->1<=(ez P sd i).k.id/\(ez P sd i).k.id<=((ao Let.aw ls/2:Nat):Int))
  (rr:∀i,i<ls.length->(ez P sd i).k.aA=true->1<=(ez P sd i).k.Yb/\(ez P sd i).k.Yb<=(cg ls (ez P sd i).k.gate.toNat:Int))
  (pl:∀i,i<ls.length->(ez P sd i).k.aA=true->QY T' B' (ez P sd i))
  (gt:∀k,k<F->T' k (cg ls k)=T' (k+1) 0/\B' k (cg ls k)=B' (k+1) 0) (gz:T' F (cg ls F)=T' 0 0/\B' F (cg ls F)=B' 0 0)
  (wit:∀j,j<ls.length->∀t,(t=(tK ls j).l\/t=(tK ls j).r)->t=tau\/ ∃j',j'<ls.length/\(t=(sd j').l\/t=(sd j').r)):Cert F P:=by
 have hn:0<ls.length:=aaQ.2 g.ne;have ZK:be (zG P sd)=P.map Pc.l:=by
  show(zG P sd).map (fun x=>x.p.l)=_;have:(zG P sd).map (fun x=>x.p.l)=((zG P sd).map aM.p).map Pc.l:=by rw[abq];rfl
  rw[this,WE]
 have mem:∀x∈zG P sd,∃i,i<ls.length/\x=ez P sd i:=fun x hx=>by obtain⟨i,hi,rfl⟩:=aan.1 hx;exact⟨i,by have:=aav.1 hi;omega,rfl⟩
 have inz:∀i,i<ls.length->ez P sd i∈zG P sd:=fun i hi=>aan.2 ⟨i,aav.2 (by omega),rfl⟩;have q:Cq F (zG P sd) T' B':=by
  refine⟨fun x hx=>?_,ub fun i j hi hj Zp=>cr i j (by omega) (by omega) Zp,?_,fun x hx hc=>?_,ub fun i j hi hj Zp=>rk i j (by omega) (by omega) Zp,fun x hx hp=>?_,fun x hx hp=>?_,fun k hk=>?_,?_⟩
  .obtain⟨i,hi,rfl⟩:=mem x hx;exact ok i hi
  .rw[ZK,hC];have:=g.cz.ev;rwa[dy] at this
  .obtain⟨i,hi,rfl⟩:=mem x hx;rw[ZK,hC];exact ids i hi hc
  .obtain⟨i,hi,rfl⟩:=mem x hx;rw[ZK,hG];exact rr i hi hp
  .obtain⟨i,hi,rfl⟩:=mem x hx;exact pl i hi hp
  .rw[ZK,hG];exact gt k hk
  rw[ZK,hG];exact gz
 refine⟨zG P sd,T',B',(List.range (bb ls)).filter (fun s=> ![tau].contains s),WE P sd,⟨Q1 P sd (by omega),q.ok,q.cr,q.ev,q.ids,q.rk,q.rr,q.pl,q.gt,q.gz,?_,ac6.filter _,fun s hs=>?_,?_⟩⟩
 .have:0<ao Let.aA (P.map Pc.l):=by
   rw[hP];obtain⟨l,h1,h2⟩:=g.first;exact acI.2 ⟨l,aab h1,h2⟩
  rw[<- ZK] at this;obtain⟨l,h1,h2⟩:=acI.1 this;obtain⟨x,hx,rfl⟩:=aan.1 h1;exact⟨x,hx,h2⟩
 .obtain⟨h1,h2⟩:=abD.1 hs;have h2:s≠tau:=by simpa using h2
  obtain⟨x,hx,e⟩:=g.cz.wit s h1;obtain⟨j,hj,rfl⟩:=aan.1 hx;have hj:=aav.1 hj;rcases wit j hj s e with h|⟨j',hj',h⟩
  .exact absurd h h2
  exact⟨ez P sd j',inz j' hj',h⟩
 rw[ZK,hC,hP];have h1:=zD (L:=[tau]) (ac6 (n:=bb ls));have h2:=g.nw;rw[acm] at h1;simp only[aas,aaA] at h1;omega
theorem Fs(g:cD F ls){d:Nat}(hd:d<2*ls.length):oT ls.length d<ls.length:=by
 unfold oT;split
 .omega
 exact aat _ (aaQ.2 g.ne)
theorem Bx(g:cD F ls){d:Nat}(hd:d<2*ls.length):oH ls.length d<ls.length:=by
 unfold oH;split
 .exact aat _ (aaQ.2 g.ne)
 omega
theorem zR{d:Nat}(hd:d<2*ls.length):d=fR ls.length (oH ls.length d) (dA d):=by have:=Aj hd;unfold oH dA;exact this
theorem xE{n:Nat}{f:Bool}(hv:v<n):oT n (aJ n v f)=v/\dA (aJ n v f)=f:=by
 unfold oT dA aJ;cases f
 .simp only[aaq,if_false];have e1:(2*((v+n-1)%n)+1)%2=1:=by omega
  have e2:(2*((v+n-1)%n)+1)/2=(v+n-1)%n:=by omega
  rw[e1,e2,fM hv];exact⟨rfl,rfl⟩
 simp only[if_true];have e1:(2*v)%2=0:=by omega
 have e2:(2*v)/2=v:=by omega
 rw[e1,e2];exact⟨rfl,rfl⟩
def oK (ls:List Let)(d:Nat):gC:=if d%2=0 then tK ls (d/2) else mZ (tK ls (d/2))
theorem rM{d:Nat}(hd:d<2*ls.length):kX (dA d) (gG ls (oH ls.length d))=oK ls d:=by
 unfold kX dA oH oK gG;rcases abL d with h|h
 .simp only[h,beq_self_eq_true,if_true];rw[jX (by omega)]
 simp[h]
theorem nc{d:Nat}(hd:d<2*ls.length):nX (dA d) (gG ls (oT ls.length d))=oK ls d:=by
 unfold nX dA oT oK gG;rcases abL d with h|h
 .simp[h]
 simp only[h,show((1:Nat)==0)=false from rfl,aaq,if_false,Nat.one_ne_zero];rw[jX (by omega)]
theorem jd(g:cD F ls){d:Nat}(hd:d<2*ls.length){l:Let}(hl:ls[oH ls.length d]?=some l)(hc:l.aw=true):bU ls d<2*ls.length/\oT ls.length (bU ls d)=bQ ls (oH ls.length d)/\gX l=(dA d==dA (bU ls d))/\
  X4 true (kX (dA d) (gG ls (oH ls.length d))) (nX (dA d) (gG ls (oH ls.length d))) (kX (dA (bU ls d)) (gG ls (oT ls.length (bU ls d)))) (nX (dA (bU ls d)) (gG ls (oT ls.length (bU ls d)))):=by
 have ok:=g.ok;have hv:=Bx g hd;obtain⟨b1,m,hm,mc,mi,mo,ms⟩:=bG ok.cr hl hc;have ho:=(aac.1 hm).1;have e:bU ls d=aJ ls.length (bQ ls (oH ls.length d)) (dA d==gX l):=by
  conv=>lhs;rw[zR hd]
  rw[kr hl hc];rfl
 obtain⟨a1,a2⟩:=xE (n:=ls.length) (f:=(dA d==gX l)) ho;have Yk:oH ls.length d≠bQ ls (oH ls.length d):=by intro ee;rw[<- ee,hl] at hm;have:=abu hm;rw[<- this] at mo;revert mo;cases l.over<;>simp
 have hg:gX l=(dA d==(dA d==gX l)):=by cases dA d<;>cases gX l<;>rfl
 rw[e,a1,a2];refine⟨?_,rfl,hg,?_⟩
 .have:=l7 ho (!(dA d==gX l));rw[<- fK] at this;have:=mr this;rwa[mq] at this
 rw[QK,<- hg];have:=(zM g hv ho Yk (by rw[bR hl];exact hc) (by rw[bR hm];exact mc) (by rw[bR hl,bR hm];exact mi.symm)).x4;rwa[bR hl] at this
theorem tS{l:List Pc}(hl:l.length=ls.length){e:Nat}(he:e<ls.length)(i:Nat):(nV ls l e)[i]?=if i=nx ls e then l[e]? else if i=e then l[nx ls e]? else l[i]? :=by
 have hn:nx ls e<ls.length:=aat _ (by omega);obtain⟨p,hp⟩:=ai (ls:=l) (k:=e) (by omega);obtain⟨q,hq⟩:=ai (ls:=l) (k:=nx ls e) (by omega);unfold nV;rw[abj,abj,aal,aal,hp,hq,abi];by_cases c1:i=nx ls e
 .subst c1;rw[if_pos rfl,if_pos (by omega),if_pos rfl];rfl
 rw[if_neg (Ne.symm c1),if_neg c1];by_cases c2:i=e
 .subst c2;rw[if_pos rfl,if_pos (by omega),if_pos rfl];rfl
 rw[if_neg (Ne.symm c2),if_neg c2]
theorem Em(g:cD F ls){w:List Nat}(hw:w∈bY (bU ls) (nD ls)){Q:Nat->Prop}(h1:∀x,x<nD ls->(Q (bU ls x)↔Q x)){x y:Nat}(hx:x∈w)(hy:y∈w):Q x↔Q y:=by
 have e:=jM (maps g.ok) (R:=gr (nD ls) (bU ls)) (fun z hz=>.rel ⟨hz,rfl⟩) hw hx hy;have:=e.inv (f:=fun x=>Q x) fun a b r=>by obtain⟨ha,rfl⟩:=r;exact propext (h1 a ha).symm
 exact Eq.to_iff this
end
theorem K6:∀(L M:List Int),L.Nodup->(∀x∈L,x∈M)->L.length<=M.length:=by
 intro L
 induction L with
 |nil=>intro M _ _;exact aae _
 |cons a L ih=>intro M hn hs;obtain⟨h1,h2⟩:=abk.1 hn;have ha:=hs a (by simp);have:=ih (M.erase a) h2 fun x hx=>(List.mem_erase_of_ne (by rintro rfl;exact h1 hx)).2 (hs x (by simp[hx]));rw[List.length_erase_of_mem ha] at this;have:0<M.length:=List.length_pos_of_mem ha;simp only[aas];omega
theorem Ti:∀l:List Int,(zP l).Nodup:=by
 intro l
 induction l with
 |nil=>exact abr
 |cons a l ih=>
  unfold zP;split
  .exact ih
  rename_i h;exact abk.2 ⟨fun hm=>h (xD.1 hm),ih⟩
theorem P9{l:List Int}:(zP l).length=l.length->l.Nodup:=by
 induction l with
 |nil=>intro _;exact abr
 |cons a l ih=>
  have hle:(zP l).length<=l.length:=K6 _ _ (Ti l) fun x hx=>xD.1 hx;unfold zP;rw[abk];split
  .intro e;simp only[aas] at e;omega
  rename_i h;simp only[aas];intro e;exact⟨h,ih (by omega)⟩
theorem xG{p:Pc->Bool}{l:List Pc}{i:Nat}{x y:Pc}(h:l[i]?=some x):(l.set i y).countP p+(if p x then 1 else 0)=l.countP p+(if p y then 1 else 0):=by
 have e:=qm h;have hl:=(aac.1 h).1;have e2:l.set i y=l.take i++y::l.drop (i+1):=by
  conv=>lhs;rw[e]
  rw[List.set_append_right _ _ (by rw[aay];omega),aay,ab0 (by omega),Nat.sub_self];rfl
 rw[e2]
 conv=>rhs;rw[e]
 rw[abF,abF,abM,abM];omega
section
variable {F:Nat} {ls:List Let}
theorem rg{l:List Pc}(hl:l.length=ls.length){e:Nat}(he:e<ls.length)(Yk:e≠nx ls e)(p:Pc->Bool):(nV ls l e).countP p=l.countP p:=by
 have hn:nx ls e<ls.length:=aat _ (by omega);obtain⟨x,hx⟩:=ai (ls:=l) (k:=e) (by omega);obtain⟨y,hy⟩:=ai (ls:=l) (k:=nx ls e) (by omega);unfold nV;rw[aal,aal,hx,hy];simp only[aaS];have h1:=xG (p:=p) (y:=y) hx;have h2:(l.set e y)[nx ls e]?=some y:=by rw[abj,if_neg Yk];exact hy
 have h3:=xG (p:=p) (y:=x) h2;omega
theorem HP(g:cD F ls){e:Nat}(he:e<ls.length):e≠nx ls e:=by
 have h2:2<=ls.length:=by obtain⟨l,h1,hp⟩:=g.first;have:=g.even;have:0<ao Let.aA ls:=acI.2 ⟨l,aab h1,hp⟩;have:=ir Let.aA ls;omega
 unfold nx;by_cases c:e+1<ls.length
 .rw[aaB c];omega
 rw[show e+1=ls.length by omega,acx];omega
theorem Df(p:Let->Bool):ao p ((pieces ls).map Pc.l)=ao p ls:=by
 have:(pieces ls).map Pc.l=ls:=by
  have h:=dy ls;rw[<- h];have e:be (zF ls)=((zF ls).map aM.p).map Pc.l:=by rw[abq];rfl
  rw[h,<- tL,<- e,h]
 rw[this]
theorem jA(g:cD F ls){i j:Nat}{l m:Let}(hl:ls[i]?=some l)(hm:ls[j]?=some m)(hc:l.aw=true)(mc:m.aw=true)(e:l.id=m.id)(Zp:i≠j):bQ ls i=j:=by obtain⟨_,hp⟩:=g.ids;obtain⟨d1,_⟩:=hp i j l m hl hm hc mc e Zp;obtain⟨b1,w,hw,wc,wi,wo,ws⟩:=bG g.ok.cr hl hc;refine Classical.byContradiction fun Yk=>?_;have d3:=(hp _ _ w m hw hm wc mc (by rw[wi,e]) Yk).1;rw[wo] at d3;revert d1 d3;cases l.over<;>cases m.over<;>simp
theorem Et(g:cD F ls){w:List Nat}(hw:w∈bY (bU ls) (nD ls)){p q r:Nat}(hp:p∈w)(hq:q∈w)(hr:r∈w)(pq:p≠q)(pr:p≠r)(qr:q≠r)(lp:p<nD ls)(lq:q<nD ls)(lr:r<nD ls)
  (np:bU ls p=p\/bU ls p=q\/bU ls p=r) (nq:bU ls q=p\/bU ls q=q\/bU ls q=r) (nr:bU ls r=p\/bU ls r=q\/bU ls r=r):
  (bU ls p=q/\bU ls q=r/\bU ls r=p)\/(bU ls p=r/\bU ls r=q/\bU ls q=p):=by
 have inj:=(maps g.ok).inj;have i1:bU ls p≠bU ls q:=fun e=>pq (inj _ _ lp lq e);have i2:bU ls p≠bU ls r:=fun e=>pr (inj _ _ lp lr e);have i3:bU ls q≠bU ls r:=fun e=>qr (inj _ _ lq lr e);have one:∀x y,x∈w->y∈w->x≠y->x<nD ls->bU ls x≠x:=fun x y hx hy hxy lx e=>by have:=Em g hw (Q:=fun t=>t=x) (fun t ht=>⟨fun h=>inj _ _ ht lx (by rw[h,e]),fun h=>by rw[h,e]⟩) hx hy;exact hxy (this.1 rfl).symm
 have n1:=one p q hp hq pq lp;have n2:=one q p hq hp (Ne.symm pq) lq;have n3:=one r p hr hp (Ne.symm pr) lr;omega
theorem zL{n d i:Nat}:(i≠oT n d/\i≠oH n d)↔(i≠d/2/\i≠(d/2+1)%n):=by
 unfold oT oH;split
 .exact Iff.rfl
 exact And.comm
theorem zO{n d d':Nat}(h:d/2≠d'/2/\d/2≠(d'/2+1)%n/\(d/2+1)%n≠d'/2/\(d/2+1)%n≠(d'/2+1)%n):oT n d≠oT n d'/\oT n d≠oH n d'/\oH n d≠oT n d'/\oH n d≠oH n d':=by
 obtain⟨h1,h2,h3,h4⟩:=h;unfold oT oH;split<;>split
 .exact⟨h1,h2,h3,h4⟩
 .exact⟨h2,h1,h4,h3⟩
 .exact⟨h3,h4,h1,h2⟩
 exact⟨h4,h3,h2,h1⟩
theorem zN{n d:Nat}(h:d/2≠(d/2+1)%n):oT n d≠oH n d:=by
 unfold oT oH;split
 .exact h
 exact h.symm
def uo (f:Bool)(s:gC):gC:=if f then s else mZ s
theorem BW(f:Bool)(x:aM):(kX f x).b=if f then x.i.b else x.o.b:=by cases f<;>rfl
theorem Bu(f:Bool)(x:aM):(nX f x).b=if f then x.o.b else x.i.b:=by cases f<;>rfl
theorem Gk{P:List Pc}{sd:Nat->gC}{d:Nat}{k':gC}(hP:P.length=ls.length)(hd:d<2*ls.length)(hk:sd (d/2)=uo (dA d) k')(h1:sd ((d/2+ls.length-1)%ls.length)=tK ls ((d/2+ls.length-1)%ls.length))(h2:sd (nx ls (d/2))=tK ls (nx ls (d/2))):
  kX (dA d) (ez P sd (oT ls.length d))=kX (dA d) (gG ls (oT ls.length d))/\nX (dA d) (ez P sd (oT ls.length d))=k'/\kX (dA d) (ez P sd (oH ls.length d))=k'/\nX (dA d) (ez P sd (oH ls.length d))=nX (dA d) (gG ls (oH ls.length d)):=by
 unfold nx at h2;unfold kX nX ez gG oT oH;unfold dA at hk ⊢;rw[hP];rcases abL d with h|h
 .simp only[h,beq_self_eq_true,if_true] at hk ⊢;rw[jX (by omega),hk,h1,h2];exact⟨rfl,rfl,rfl,rfl⟩
 simp only[h,show((1:Nat)==0)=false from rfl,aaq,if_false,Nat.one_ne_zero] at hk ⊢;rw[jX (by omega),hk,h1,h2];exact⟨rfl,rfl,rfl,rfl⟩
theorem PU{P:List Pc}{sd:Nat->gC}{i:Nat}(hP:P.length=ls.length)(hi:i<ls.length)(hp:P[i]?=(pieces ls)[i]?)(h1:sd ((i+ls.length-1)%ls.length)=tK ls ((i+ls.length-1)%ls.length))(h2:sd i=tK ls i):ez P sd i=gG ls i:=by
 have:P.getD i ⟨fG,false⟩=⟨ls.getD i fG,rW ls i⟩:=by obtain⟨l,hl⟩:=ai hi;rw[aal,hp,dw hl,aal,hl];rfl
 unfold ez gG;rw[hP,h1,h2,this]
theorem Cf{P:List Pc}{sd:Nat->gC}{i j:Nat}(hj:j<ls.length)(hp:P[i]?=(pieces ls)[j]?):(ez P sd i).p=(gG ls j).p:=by obtain⟨l,hl⟩:=ai hj;show P.getD i _=⟨ls.getD j fG,rW ls j⟩;rw[aal,hp,dw hl,aal,hl];rfl
theorem XQ(g:cD F ls){a b c:Nat}(ha:a<ls.length)(hb:b<ls.length)(hc:c<ls.length){L:List Pc}(h:Rj F ls a b c=some L):Cert F L:=by
 unfold Rj at h;split at h
 case isFalse=>cases h
 rename_i ht;cases h;unfold WH at ht;simp only[aaf,beq_iff_eq] at ht;obtain⟨YV,h6,_,_,_,adI⟩:=ht;have hn:0<ls.length:=aaQ.2 g.ne;have Yu:=aB ls;have ok:=g.ok
 -- six letters
 have Zx:(Jn ls [a,b,c]).Nodup:=P9 (by rw[h6];rfl);have Zx:(([a,nx ls a,b,nx ls b,c,nx ls c]:List Nat).map fun i:Nat=>(i:Int)).Nodup:=Zx;have six:a≠nx ls a/\a≠b/\a≠nx ls b/\a≠c/\a≠nx ls c/\nx ls a≠b/\nx ls a≠nx ls b/\nx ls a≠c/\nx ls a≠nx ls c/\b≠nx ls b/\b≠c/\b≠nx ls c/\nx ls b≠c/\nx ls b≠nx ls c/\c≠nx ls c:=by simp only[aar,abb,abk,aag,aaC,or_false,not_or,abr,and_true,not_false_eq_true] at Zx;omega
 have crs:∀e∈[a,b,c],∃l m,ls[e]?=some l/\ls[nx ls e]?=some m/\l.aw=true/\m.aw=true:=fun e he=>by
  have h1:=aaP.1 YV e he;have YJ:e<ls.length:=by simp only[aag,aaC,or_false] at he;rcases he with rfl|rfl|rfl<;>assumption
  obtain⟨l,hl⟩:=ai YJ;obtain⟨m,hm⟩:=ai (ls:=ls) (k:=nx ls e) (aat _ hn);have e1:pA ls e=⟨l,rW ls e⟩:=eO (dw hl);have e2:pA ls (nx ls e)=⟨m,rW ls (nx ls e)⟩:=eO (dw hm);unfold Tl at h1;rw[e1,e2,aaf] at h1;exact⟨l,m,hl,hm,h1.1,h1.2⟩
 obtain⟨w,hw,_,hlen,hE⟩:=qO g ha adI;obtain⟨da,da1,da2,da3⟩:=hE a (by simp);obtain⟨db,db1,db2,db3⟩:=hE b (by simp);obtain⟨dc,dc1,dc2,dc3⟩:=hE c (by simp);have hN:∀d,d<2*ls.length->d<nD ls:=fun d hd=>by unfold nD;omega
 have three:∀d,d∈w->d<2*ls.length->d=da\/d=db\/d=dc:=fun d h1 h2=>by
  have inD:∀d,d∈w->d<2*ls.length->d∈w.filter fun x=>decide (x<2*ls.length):=fun d h1 h2=>abD.2 ⟨h1,by simpa using h2⟩;have q1:=inD da da1 da2;have q2:=inD db db1 db2;have q3:=inD dc dc1 dc2;have q4:=inD d h1 h2;generalize w.filter (fun x=>decide (x<2*ls.length))=D at hlen q1 q2 q3 q4
  match D,hlen with
  |[x,y,z],_=>simp only[aag,aaC,or_false] at q1 q2 q3 q4;have:=six.2.1;have:=six.2.2.2.1;have:=six.2.2.2.2.2.2.2.2.2.2.1;omega
 have ach:∀d,d<2*ls.length->d/2∈[a,b,c]->∃l,ls[oH ls.length d]?=some l/\l.aw=true:=fun d hd he=>by
  obtain⟨l,m,h1,h2,h3,h4⟩:=crs _ he;unfold oH;split
  .exact⟨m,h2,h4⟩
  exact⟨l,h1,h3⟩
 have step:∀d,d∈w->d<2*ls.length->d/2∈[a,b,c]->bU ls d=da\/bU ls d=db\/bU ls d=dc:=fun d hd hl he=>by obtain⟨l,h1,h2⟩:=ach d hl he;exact three _ (eT (maps ok) hw hd) (jd g hl h1 h2).1
 have round:∃d1 d2 d3,d1<2*ls.length/\d2<2*ls.length/\d3<2*ls.length/\bU ls d1=d2/\bU ls d2=d3/\bU ls d3=d1/\((d1/2=a/\d2/2=b/\d3/2=c)\/(d1/2=a/\d2/2=c/\d3/2=b)):=by
  have nab:da≠db:=fun e=>six.2.1 (by rw[<- da3,<- db3,e]);have nac:da≠dc:=fun e=>six.2.2.2.1 (by rw[<- da3,<- dc3,e]);have nbc:db≠dc:=fun e=>six.2.2.2.2.2.2.2.2.2.2.1 (by rw[<- db3,<- dc3,e]);rcases Et g hw da1 db1 dc1 nab nac nbc (hN _ da2) (hN _ db2) (hN _ dc2) (step da da1 da2 (by rw[da3];simp)) (step db db1 db2 (by rw[db3];simp)) (step dc dc1 dc2 (by rw[dc3];simp)) with ⟨h1,h2,h3⟩|⟨h1,h2,h3⟩
  .exact⟨da,db,dc,da2,db2,dc2,h1,h2,h3,.inl ⟨da3,db3,dc3⟩⟩
  exact⟨da,dc,db,da2,dc2,db2,h1,h2,h3,.inr ⟨da3,dc3,db3⟩⟩
 clear three step hE hlen da1 da2 da3 db1 db2 db3 dc1 dc2 dc3 hw adI;clear Zx YV h6;obtain⟨d1,d2,d3,l1,l2,l3,s1,s2,s3,Ys⟩:=round
 -- the new pieces
 have ina:a∈[a,b,c]:=by simp
 have inb:b∈[a,b,c]:=by simp
 have inc:c∈[a,b,c]:=by simp
 have hP0:(pZ ls (pieces ls) [a,b,c]).length=ls.length:=by rw[ml,Yu]
 have hsw:∀i,(pZ ls (pieces ls) [a,b,c])[i]?=if i=nx ls c then (pieces ls)[c]? else if i=c then (pieces ls)[nx ls c]? else if i=nx ls b then (pieces ls)[b]? else if i=b then (pieces ls)[nx ls b]? else if i=nx ls a then (pieces ls)[a]? else if i=a then (pieces ls)[nx ls a]? else (pieces ls)[i]? :=fun i=>by
  show(nV ls (nV ls (nV ls (pieces ls) a) b) c)[i]?=_;have e1:(nV ls (pieces ls) a).length=ls.length:=by rw[n0,Yu]
  have e2:(nV ls (nV ls (pieces ls) a) b).length=ls.length:=by rw[n0,e1]
  simp only[tS e2 hc,tS e1 hb,tS Yu ha];obtain⟨x1,x2,x3,x4,x5,x6,x7,x8,x9,x10,x11,x12,x13,x14,x15⟩:=six;simp only[x2.symm,x3.symm,x4.symm,x5.symm,x6.symm,x7.symm,x8.symm,x9.symm,x11.symm,x12.symm,x13.symm,x14.symm,if_false]
 have ZN:∀p:Pc->Bool,(pZ ls (pieces ls) [a,b,c]).countP p=(pieces ls).countP p:=fun p=>by
  show(nV ls (nV ls (nV ls (pieces ls) a) b) c).countP p=_;have e1:(nV ls (pieces ls) a).length=ls.length:=by rw[n0,Yu]
  have e2:(nV ls (nV ls (pieces ls) a) b).length=ls.length:=by rw[n0,e1]
  rw[rg e2 hc six.2.2.2.2.2.2.2.2.2.2.2.2.2.2,rg e1 hb six.2.2.2.2.2.2.2.2.2.1,rg Yu ha six.1]
 generalize pZ ls (pieces ls) [a,b,c]=P at hP0 hsw ZN;obtain⟨x1,x2,x3,x4,x5,x6,x7,x8,x9,x10,x11,x12,x13,x14,x15⟩:=six;have pa:P[a]?=(pieces ls)[nx ls a]? /\P[nx ls a]?=(pieces ls)[a]? :=by
  constructor
  .rw[hsw];simp only[x1,x2,x3,x4,x5,if_false,if_true]
  rw[hsw];simp only[x6,x7,x8,x9,if_false,if_true]
 have pb:P[b]?=(pieces ls)[nx ls b]? /\P[nx ls b]?=(pieces ls)[b]? :=by
  constructor
  .rw[hsw];simp only[x10,x11,x12,if_false,if_true]
  rw[hsw];simp only[x13,x14,if_false,if_true]
 have pc:P[c]?=(pieces ls)[nx ls c]? /\P[nx ls c]?=(pieces ls)[c]? :=by
  constructor
  .rw[hsw];simp only[x15,if_false,if_true]
  rw[hsw];simp only[if_true]
 have pn:∀i,i≠a->i≠nx ls a->i≠b->i≠nx ls b->i≠c->i≠nx ls c->P[i]?=(pieces ls)[i]? :=fun i h1 h2 h3 h4 h5 h6=>by rw[hsw];simp only[h1,h2,h3,h4,h5,h6,if_false]
 clear hsw
 -- edges and letters by Yj
 have hpe:∀d,d/2=a\/d/2=b\/d/2=c->P[oT ls.length d]?=(pieces ls)[oH ls.length d]? /\P[oH ls.length d]?=(pieces ls)[oT ls.length d]? :=fun d hd=>by
  have:P[d/2]?=(pieces ls)[nx ls (d/2)]? /\P[nx ls (d/2)]?=(pieces ls)[d/2]? :=by rcases hd with e|e|e<;>rw[e]<;>assumption
  unfold oT oH;rcases abL d with h|h
  .simp only[h,if_true];exact this
  simp only[h,Nat.one_ne_zero,if_false];exact this.symm
 have m1:d1/2=a\/d1/2=b\/d1/2=c:=by
  rcases Ys with ⟨h,_,_⟩|⟨h,_,_⟩
  .exact .inl h
  exact .inl h
 have m2:d2/2=a\/d2/2=b\/d2/2=c:=by
  rcases Ys with ⟨_,h,_⟩|⟨_,h,_⟩
  .exact .inr (.inl h)
  exact .inr (.inr h)
 have m3:d3/2=a\/d3/2=b\/d3/2=c:=by
  rcases Ys with ⟨_,_,h⟩|⟨_,_,h⟩
  .exact .inr (.inr h)
  exact .inr (.inl h)
 have mm:∀d,d/2=a\/d/2=b\/d/2=c->d/2∈[a,b,c]:=fun d h=>by simpa using h
 have pn2:∀i,i≠oT ls.length d1->i≠oH ls.length d1->i≠oT ls.length d2->i≠oH ls.length d2->i≠oT ls.length d3->i≠oH ls.length d3->P[i]?=(pieces ls)[i]? /\ ∀d,d/2=a\/d/2=b\/d/2=c->i≠d/2/\i≠nx ls (d/2):=fun i a1 a2 a3 a4 a5 a6=>by
  obtain⟨b1,b2⟩:=zL.1 ⟨a1,a2⟩;obtain⟨b3,b4⟩:=zL.1 ⟨a3,a4⟩;obtain⟨b5,b6⟩:=zL.1 ⟨a5,a6⟩;have key:(i≠a/\i≠nx ls a)/\(i≠b/\i≠nx ls b)/\(i≠c/\i≠nx ls c):=by
   rcases Ys with ⟨h1,h2,h3⟩|⟨h1,h2,h3⟩
   .rw[h1] at b1 b2;rw[h2] at b3 b4;rw[h3] at b5 b6;exact⟨⟨b1,b2⟩,⟨b3,b4⟩,b5,b6⟩
   rw[h1] at b1 b2;rw[h2] at b3 b4;rw[h3] at b5 b6;exact⟨⟨b1,b2⟩,⟨b5,b6⟩,b3,b4⟩
  obtain⟨⟨c1,c2⟩,⟨c3,c4⟩,c5,c6⟩:=key;refine⟨pn i c1 c2 c3 c4 c5 c6,fun d hd=>?_⟩;rcases hd with e|e|e<;>rw[e]
  .exact⟨c1,c2⟩
  .exact⟨c3,c4⟩
  exact⟨c5,c6⟩
 have t1:=Fs g l1;have t2:=Fs g l2;have t3:=Fs g l3;have h1:=Bx g l1;have h2:=Bx g l2;have h3:=Bx g l3
 -- all six are different
 have apart:(d1/2≠d2/2/\d1/2≠nx ls (d2/2)/\nx ls (d1/2)≠d2/2/\nx ls (d1/2)≠nx ls (d2/2))/\(d1/2≠d3/2/\d1/2≠nx ls (d3/2)/\nx ls (d1/2)≠d3/2/\nx ls (d1/2)≠nx ls (d3/2))/\(d2/2≠d3/2/\d2/2≠nx ls (d3/2)/\nx ls (d2/2)≠d3/2/\nx ls (d2/2)≠nx ls (d3/2))/\d1/2≠nx ls (d1/2)/\d2/2≠nx ls (d2/2)/\d3/2≠nx ls (d3/2):=by
  rcases Ys with ⟨h1,h2,h3⟩|⟨h1,h2,h3⟩<;>rw[h1,h2,h3]
  .exact⟨⟨x2,x3,x6,x7⟩,⟨x4,x5,x8,x9⟩,⟨x11,x12,x13,x14⟩,x1,x10,x15⟩
  exact⟨⟨x4,x5,x8,x9⟩,⟨x2,x3,x6,x7⟩,⟨x11.symm,x13.symm,x12.symm,x14.symm⟩,x1,x15,x10⟩
 obtain⟨y1,y2,y3,y4,y5,y6⟩:=apart;have f12:=zO y1;have f13:=zO y2;have f23:=zO y3;have g1:=zN y4;have g2:=zN y5;have g3:=zN y6
 -- the old corners
 obtain⟨u1,hu1,cu1⟩:=ach d1 l1 (mm d1 m1);obtain⟨u2,hu2,cu2⟩:=ach d2 l2 (mm d2 m2);obtain⟨u3,hu3,cu3⟩:=ach d3 l3 (mm d3 m3);obtain⟨_,o1,q1,k1⟩:=jd g l1 hu1 cu1;obtain⟨_,o2,q2,k2⟩:=jd g l2 hu2 cu2;obtain⟨_,o3,q3,k3⟩:=jd g l3 hu3 cu3;rw[s1] at o1 q1 k1;rw[s2] at o2 q2 k2;rw[s3] at o3 q3 k3;clear s1 s2 s3 Ys pn pa pb pc x1 x2 x3 x4 x5 x6 x7 x8 x9 x10 x11 x12 x13 x14 x15 crs ach mm ina inb inc;have ti1:=nc (ls:=ls) l1;have ti2:=nc (ls:=ls) l2;have ti3:=nc (ls:=ls) l3;have hi1:=rM (ls:=ls) l1;have hi2:=rM (ls:=ls) l2
 have hi3:=rM (ls:=ls) l3;rw[hi1,ti2] at k1;rw[hi2,ti3] at k2;rw[hi3,ti1] at k3;obtain⟨a1,b1,c1,e1⟩:=k1;obtain⟨a2,b2,c2,e2⟩:=k2;obtain⟨a3,b3,c3,e3⟩:=k3;simp only[if_true] at a1 b1 c1 e1 a2 b2 c2 e2 a3 b3 c3 e3
 let tau:=(oK ls d1).l
 let K1:gC:=⟨(kX (dA d3) (gG ls (oT ls.length d3))).r,tau,(kX (dA d1) (gG ls (oT ls.length d1))).b⟩
 let K2:gC:=⟨(kX (dA d1) (gG ls (oT ls.length d1))).r,tau,(kX (dA d2) (gG ls (oT ls.length d2))).b⟩
 let K3:gC:=⟨(kX (dA d2) (gG ls (oT ls.length d2))).r,tau,(kX (dA d3) (gG ls (oT ls.length d3))).b⟩
 let sd:Nat->gC:=fun j=>if j=d1/2 then uo (dA d1) K1 else if j=d2/2 then uo (dA d2) K2 else if j=d3/2 then uo (dA d3) K3 else tK ls j
 have sd1:sd (d1/2)=uo (dA d1) K1:=if_pos rfl;have sd2:sd (d2/2)=uo (dA d2) K2:=by show(if _ then _ else _)=_;rw[if_neg (Ne.symm y1.1),if_pos rfl]
 have sd3:sd (d3/2)=uo (dA d3) K3:=by show(if _ then _ else _)=_;rw[if_neg (Ne.symm y2.1),if_neg (Ne.symm y3.1),if_pos rfl]
 have sdn:∀j,j≠d1/2->j≠d2/2->j≠d3/2->sd j=tK ls j:=fun j h1 h2 h3=>by show(if _ then _ else _)=_;rw[if_neg h1,if_neg h2,if_neg h3]
 have prev:∀i,i<ls.length->i≠nx ls (d1/2)->i≠nx ls (d2/2)->i≠nx ls (d3/2)->sd ((i+ls.length-1)%ls.length)=tK ls ((i+ls.length-1)%ls.length):=fun i hi n1 n2 n3=>sdn _ (fun h=>n1 (k8 hi h)) (fun h=>n2 (k8 hi h)) (fun h=>n3 (k8 hi h))
 obtain⟨z1,z2,z3,z4⟩:=y1;obtain⟨z5,z6,z7,z8⟩:=y2;obtain⟨z9,z10,z11,z12⟩:=y3;have G1:=Gk (P:=P) hP0 l1 sd1 (prev _ (by omega) y4 z2 z6) (sdn _ y4.symm z3 z7);have G2:=Gk (P:=P) hP0 l2 sd2 (prev _ (by omega) z3.symm y5 z10) (sdn _ z2.symm y5.symm z11);have G3:=Gk (P:=P) hP0 l3 sd3 (prev _ (by omega) z7.symm z11.symm y6) (sdn _ z6.symm z10.symm y6.symm);have p1:=hpe d1 m1;have p2:=hpe d2 m2;have p3:=hpe d3 m3;have pT1:=Cf (sd:=sd) h1 p1.1;have pH1:=Cf (sd:=sd) t1 p1.2;have pT2:=Cf (sd:=sd) h2 p2.1;have pH2:=Cf (sd:=sd) t2 p2.2;have pT3:=Cf (sd:=sd) h3 p3.1
 have pH3:=Cf (sd:=sd) t3 p3.2;have un:∀i,i<ls.length->i≠oT ls.length d1->i≠oH ls.length d1->i≠oT ls.length d2->i≠oH ls.length d2->i≠oT ls.length d3->i≠oH ls.length d3->ez P sd i=gG ls i:=fun i hi n1 n2 n3 n4 n5 n6=>by obtain⟨q1,q2⟩:=pn2 i n1 n2 n3 n4 n5 n6;exact PU hP0 hi q1 (prev i hi (q2 d1 m1).2 (q2 d2 m2).2 (q2 d3 m3).2) (sdn i (q2 d1 m1).1 (q2 d2 m2).1 (q2 d3 m3).1)
 clear pn2 hpe prev
 -- letters of the crossings
 have ZU:=bG ok.cr hu1 cu1;have ZE:=bG ok.cr hu2 cu2;have hw3:=bG ok.cr hu3 cu3;rw[<- o1] at ZU;rw[<- o2] at ZE;rw[<- o3] at hw3;obtain⟨r1,v2,hv2,cv2,iv2,_,_⟩:=ZU;obtain⟨r2,v3,hv3,cv3,iv3,_,_⟩:=ZE;obtain⟨r3,v1,hv1,cv1,iv1,_,_⟩:=hw3
 -- the new corners
 have cornerN:∀(x y:aM) (d d' hh tt:Nat) (u v:Let),ls[hh]?=some u->ls[tt]?=some v->u.aw=true->v.aw=true->v.id=u.id->hh≠tt->x.p=(gG ls hh).p->y.p=(gG ls tt).p->gX u=(dA d==dA d')->X4 true (kX (dA d) x) (nX (dA d) x) (kX (dA d') y) (nX (dA d') y)->Xc x y:=by intro x y d d' hh tt u v ha hb ca cb ei Yk hx hy hg h4;have hx':x.k=(gG ls hh).k:=congrArg Pc.l hx;have hy':y.k=(gG ls tt).k:=congrArg Pc.l hy;have old:=zM g (aac.1 ha).1 (aac.1 hb).1 Yk (by rw[bR ha];exact ca) (by rw[bR hb];exact cb) (by rw[bR ha,bR hb];exact ei.symm);refine⟨by rw[hx',hy'];exact old.ov,by rw[hx',hy'];exact old.sg,?_⟩;rw[hx',bR ha,hg];exact QK.1 h4
 have C1:Xc (ez P sd (oT ls.length d1)) (ez P sd (oH ls.length d2)):=by
  refine cornerN _ _ d1 d2 _ _ u1 v2 hu1 hv2 cu1 cv2 iv2 f12.2.2.1 pT1 pH2 q1 ?_;rw[G1.1,G1.2.1,G2.2.2.1,G2.2.2.2];constructor<;>simp only[if_true]
  .exact c3.trans e2
  .rfl
  .rfl
  exact b2
 have C2:Xc (ez P sd (oT ls.length d2)) (ez P sd (oH ls.length d3)):=by
  refine cornerN _ _ d2 d3 _ _ u2 v3 hu2 hv3 cu2 cv3 iv3 f23.2.2.1 pT2 pH3 q2 ?_;rw[G2.1,G2.2.1,G3.2.2.1,G3.2.2.2];constructor<;>simp only[if_true]
  .exact c1.trans e3
  .rfl
  .rfl
  exact b3
 have C3:Xc (ez P sd (oT ls.length d3)) (ez P sd (oH ls.length d1)):=by
  refine cornerN _ _ d3 d1 _ _ u3 v1 hu3 hv1 cu3 cv1 iv1 f13.2.1.symm pT3 pH1 q3 ?_;rw[G3.1,G3.2.1,G1.2.2.1,G1.2.2.2];constructor<;>simp only[if_true]
  .exact c2.trans e1
  .rfl
  .rfl
  exact b1
 have six:∀i,i<ls.length->(i=oT ls.length d1\/i=oH ls.length d1\/i=oT ls.length d2\/i=oH ls.length d2\/i=oT ls.length d3\/i=oH ls.length d3)\/(ez P sd i=gG ls i/\i≠oT ls.length d1/\i≠oH ls.length d1/\i≠oT ls.length d2/\i≠oH ls.length d2/\i≠oT ls.length d3/\i≠oH ls.length d3):=fun i hi=>by
  rcases Classical.em (i=oT ls.length d1\/i=oH ls.length d1\/i=oT ls.length d2\/i=oH ls.length d2\/i=oT ls.length d3\/i=oH ls.length d3) with h|h
  .exact .inl h
  simp only[not_or] at h;exact .inr ⟨un i hi h.1 h.2.1 h.2.2.1 h.2.2.2.1 h.2.2.2.2.1 h.2.2.2.2.2,h⟩
 -- each position holds one letter
 have hold:∀i,i<ls.length->∃j l,j<ls.length/\ls[j]?=some l/\(ez P sd i).k=l/\(ez P sd i).p=(gG ls j).p:=fun i hi=>by
  have mk:∀j l,ls[j]?=some l->(ez P sd i).p=(gG ls j).p->∃j l,j<ls.length/\ls[j]?=some l/\(ez P sd i).k=l/\(ez P sd i).p=(gG ls j).p:=fun j l hl hp=>⟨j,l,(aac.1 hl).1,hl,(congrArg Pc.l hp).trans (bR hl),hp⟩;rcases six i hi with (rfl|rfl|rfl|rfl|rfl|rfl)|⟨e,_⟩
  .exact mk _ _ hu1 pT1
  .exact mk _ _ hv1 pH1
  .exact mk _ _ hu2 pT2
  .exact mk _ _ hv2 pH2
  .exact mk _ _ hu3 pT3
  .exact mk _ _ hv3 pH3
  obtain⟨l,hl⟩:=ai hi;exact mk i l hl (by rw[e])
 have kT1:(ez P sd (oT ls.length d1)).k=u1:=(congrArg Pc.l pT1).trans (bR hu1);have kT2:(ez P sd (oT ls.length d2)).k=u2:=(congrArg Pc.l pT2).trans (bR hu2);have kT3:(ez P sd (oT ls.length d3)).k=u3:=(congrArg Pc.l pT3).trans (bR hu3);have kH1:(ez P sd (oH ls.length d1)).k=v1:=(congrArg Pc.l pH1).trans (bR hv1);have kH2:(ez P sd (oH ls.length d2)).k=v2:=(congrArg Pc.l pH2).trans (bR hv2);have kH3:(ez P sd (oH ls.length d3)).k=v3:=(congrArg Pc.l pH3).trans (bR hv3);have flat:∀(f:Bool) (x:aM),(kX f x).b=(nX f x).b->x.i.b=x.o.b:=fun f x h=>by
  rw[BW,Bu] at h;cases f
  .exact h.symm
  exact h
 have ahZ:∀(f:Bool) (x:aM),x.i.b=x.o.b->(kX f x).b=(nX f x).b:=fun f x h=>by
  rw[BW,Bu];cases f
  .exact h.symm
  exact h
 have oldb:∀j l,ls[j]?=some l->l.aw=true->(gG ls j).i.b=(gG ls j).o.b:=fun j l hl hc=>(qL g (aac.1 hl).1).cb (by rw[bR hl];exact hc);have bT:∀d (K:gC),kX (dA d) (ez P sd (oT ls.length d))=kX (dA d) (gG ls (oT ls.length d))->nX (dA d) (ez P sd (oT ls.length d))=K->K.b=(kX (dA d) (gG ls (oT ls.length d))).b->(ez P sd (oT ls.length d)).i.b=(ez P sd (oT ls.length d)).o.b:=fun d K q1 q2 q3=>flat (dA d) _ (by rw[q1,q2,q3])
 have bH:∀d (K:gC) (l m:Let),ls[oT ls.length d]?=some l->l.aw=true->ls[oH ls.length d]?=some m->m.aw=true->nX (dA d) (gG ls (oT ls.length d))=oK ls d->kX (dA d) (gG ls (oH ls.length d))=oK ls d->kX (dA d) (ez P sd (oH ls.length d))=K->nX (dA d) (ez P sd (oH ls.length d))=nX (dA d) (gG ls (oH ls.length d))->K.b=(kX (dA d) (gG ls (oT ls.length d))).b->(ez P sd (oH ls.length d)).i.b=(ez P sd (oH ls.length d)).o.b:=fun d K l m hl cl hm cm w1 w2 q1 q2 q3=>by refine flat (dA d) _ ?_;rw[q1,q2,q3,ahZ (dA d) _ (oldb _ _ hl cl),w1,<- w2];exact ahZ (dA d) _ (oldb _ _ hm cm)
 have bad:∀i,i<ls.length->cF F (ez P sd i).k=false:=fun i hi=>by obtain⟨j,l,hj,hl,hk,_⟩:=hold i hi;rw[hk];exact g.bad l (aab hl)
 have wh:∀i,i<ls.length->(ez P sd i).k.aw=true->(ez P sd i).i.b=(ez P sd i).o.b->LW F (ez P sd i):=fun i hi hc hb=>⟨bad i hi,fun _=>hb,fun hp=>by rw[cA hc] at hp;cases hp⟩;have passUn:∀i,i<ls.length->(ez P sd i).k.aA=true->ez P sd i=gG ls i:=fun i hi hp=>by
  rcases six i hi with (rfl|rfl|rfl|rfl|rfl|rfl)|⟨e,_⟩
  .rw[kT1,cA cu1] at hp;cases hp
  .rw[kH1,cA cv1] at hp;cases hp
  .rw[kT2,cA cu2] at hp;cases hp
  .rw[kH2,cA cv2] at hp;cases hp
  .rw[kT3,cA cu3] at hp;cases hp
  .rw[kH3,cA cv3] at hp;cases hp
  exact e
 have cz:=g.cz;have cntP:∀p:Let->Bool,ao p (P.map Pc.l)=ao p ls:=fun p=>by rw[<- Df (ls:=ls) p];show List.countP _ _=List.countP _ _;rw[adh,adh];exact ZN _
 have labs:∀(f:Bool) i,i<ls.length->∀t,t=(kX f (ez P sd i)).l\/t=(kX f (ez P sd i)).r->∃j',j'<ls.length/\(t=(sd j').l\/t=(sd j').r):=fun f i hi t ht=>by
  cases f
  .refine⟨i,hi,?_⟩;rcases ht with ht|ht
   .exact .inr ht
   exact .inl ht
  refine⟨(i+P.length-1)%P.length,?_,ht⟩;rw[hP0];exact aat _ hn
 refine GB g (tau:=tau) (sd:=sd) (T':=TF ls) (B':=BF ls) hP0 (cntP _) (cntP _) (fun k=>cntP _) (fun i hi=>?_) (fun i j hi hj Zp ci cj e=>?_) (fun i j hi hj Zp pi pj e1 e2=>?_) (fun i hi ci=>?_) (fun i hi pi=>?_) (fun i hi pi=>?_) (fun k hk=>?_) ?_ (fun j hj t ht=>?_)
 .rcases six i hi with (rfl|rfl|rfl|rfl|rfl|rfl)|⟨e,_⟩
  .exact wh _ hi (by rw[kT1];exact cu1) (bT d1 K1 G1.1 G1.2.1 rfl)
  .exact wh _ hi (by rw[kH1];exact cv1) (bH d1 K1 _ _ hv1 cv1 hu1 cu1 ti1 hi1 G1.2.2.1 G1.2.2.2 rfl)
  .exact wh _ hi (by rw[kT2];exact cu2) (bT d2 K2 G2.1 G2.2.1 rfl)
  .exact wh _ hi (by rw[kH2];exact cv2) (bH d2 K2 _ _ hv2 cv2 hu2 cu2 ti2 hi2 G2.2.2.1 G2.2.2.2 rfl)
  .exact wh _ hi (by rw[kT3];exact cu3) (bT d3 K3 G3.1 G3.2.1 rfl)
  .exact wh _ hi (by rw[kH3];exact cv3) (bH d3 K3 _ _ hv3 cv3 hu3 cu3 ti3 hi3 G3.2.2.1 G3.2.2.2 rfl)
  rw[e];exact qL g hi
 · -- two visits of one crossing
  have nn:∀i,i<ls.length->∃s,s<ls.length/\(∃l,ls[s]?=some l/\(ez P sd i).k=l)/\((i=oT ls.length d1/\s=oH ls.length d1)\/(i=oH ls.length d1/\s=oT ls.length d1)\/(i=oT ls.length d2/\s=oH ls.length d2)\/(i=oH ls.length d2/\s=oT ls.length d2)\/(i=oT ls.length d3/\s=oH ls.length d3)\/(i=oH ls.length d3/\s=oT ls.length d3)\/(ez P sd i=gG ls i/\s=i/\i≠oT ls.length d1/\i≠oH ls.length d1/\i≠oT ls.length d2/\i≠oH ls.length d2/\i≠oT ls.length d3/\i≠oH ls.length d3)):=fun i hi=>by
   rcases six i hi with (rfl|rfl|rfl|rfl|rfl|rfl)|⟨e,Yk⟩
   .exact⟨_,h1,⟨_,hu1,kT1⟩,.inl ⟨rfl,rfl⟩⟩
   .exact⟨_,t1,⟨_,hv1,kH1⟩,.inr (.inl ⟨rfl,rfl⟩)⟩
   .exact⟨_,h2,⟨_,hu2,kT2⟩,.inr (.inr (.inl ⟨rfl,rfl⟩))⟩
   .exact⟨_,t2,⟨_,hv2,kH2⟩,.inr (.inr (.inr (.inl ⟨rfl,rfl⟩)))⟩
   .exact⟨_,h3,⟨_,hu3,kT3⟩,.inr (.inr (.inr (.inr (.inl ⟨rfl,rfl⟩))))⟩
   .exact⟨_,t3,⟨_,hv3,kH3⟩,.inr (.inr (.inr (.inr (.inr (.inl ⟨rfl,rfl⟩)))))⟩
   obtain⟨l,hl⟩:=ai hi;exact⟨i,hi,⟨l,hl,by rw[e];exact bR hl⟩,.inr (.inr (.inr (.inr (.inr (.inr ⟨e,rfl,Yk⟩)))))⟩
  obtain⟨si,hsi,⟨li,hli,kli⟩,ci'⟩:=nn i hi;obtain⟨sj,hsj,⟨lj,hlj,klj⟩,cj'⟩:=nn j hj;rw[kli] at ci e;rw[klj] at cj e;obtain⟨f1,f2,f3,f4⟩:=f12;obtain⟨f5,f6,f7,f8⟩:=f13;obtain⟨f9,f10,f11,f12⟩:=f23;have Yk:si≠sj:=by
   clear e2 e3 e1 labs passUn wh bad bH bT hold un six;rcases ci' with ⟨q1,q2⟩|⟨q1,q2⟩|⟨q1,q2⟩|⟨q1,q2⟩|⟨q1,q2⟩|⟨q1,q2⟩|⟨_,q2,n1,n2,n3,n4,n5,n6⟩<;>rcases cj' with ⟨w1,w2⟩|⟨w1,w2⟩|⟨w1,w2⟩|⟨w1,w2⟩|⟨w1,w2⟩|⟨w1,w2⟩|⟨_,w2,m1,m2,m3,m4,m5,m6⟩<;>rw[q2,w2]<;>first
    |(rw[q1,w1] at Zp;exact absurd rfl Zp)
    |assumption
    |exact Ne.symm (by assumption)
    |exact Zp
  have ho:=jA g hli hlj ci cj e Yk;rcases ci' with ⟨q1,q2⟩|⟨q1,q2⟩|⟨q1,q2⟩|⟨q1,q2⟩|⟨q1,q2⟩|⟨q1,q2⟩|⟨eu,q2,n1,n2,n3,n4,n5,n6⟩
  .rw[q2,<- o1] at ho;rcases cj' with ⟨w1,w2⟩|⟨w1,w2⟩|⟨w1,w2⟩|⟨w1,w2⟩|⟨w1,w2⟩|⟨w1,w2⟩|⟨_,w2,m1,m2,m3,m4,m5,m6⟩<;>rw[w2] at ho<;>first
    |(rw[q1,w1];exact C1)
    |exact absurd ho (by assumption)
    |exact absurd ho (Ne.symm (by assumption))
  .rw[q2,r3] at ho;rcases cj' with ⟨w1,w2⟩|⟨w1,w2⟩|⟨w1,w2⟩|⟨w1,w2⟩|⟨w1,w2⟩|⟨w1,w2⟩|⟨_,w2,m1,m2,m3,m4,m5,m6⟩<;>rw[w2] at ho<;>first
    |(rw[q1,w1];exact C3.symm)
    |exact absurd ho (by assumption)
    |exact absurd ho (Ne.symm (by assumption))
  .rw[q2,<- o2] at ho;rcases cj' with ⟨w1,w2⟩|⟨w1,w2⟩|⟨w1,w2⟩|⟨w1,w2⟩|⟨w1,w2⟩|⟨w1,w2⟩|⟨_,w2,m1,m2,m3,m4,m5,m6⟩<;>rw[w2] at ho<;>first
    |(rw[q1,w1];exact C2)
    |exact absurd ho (by assumption)
    |exact absurd ho (Ne.symm (by assumption))
  .rw[q2,r1] at ho;rcases cj' with ⟨w1,w2⟩|⟨w1,w2⟩|⟨w1,w2⟩|⟨w1,w2⟩|⟨w1,w2⟩|⟨w1,w2⟩|⟨_,w2,m1,m2,m3,m4,m5,m6⟩<;>rw[w2] at ho<;>first
    |(rw[q1,w1];exact C1.symm)
    |exact absurd ho (by assumption)
    |exact absurd ho (Ne.symm (by assumption))
  .rw[q2,<- o3] at ho;rcases cj' with ⟨w1,w2⟩|⟨w1,w2⟩|⟨w1,w2⟩|⟨w1,w2⟩|⟨w1,w2⟩|⟨w1,w2⟩|⟨_,w2,m1,m2,m3,m4,m5,m6⟩<;>rw[w2] at ho<;>first
    |(rw[q1,w1];exact C3)
    |exact absurd ho (by assumption)
    |exact absurd ho (Ne.symm (by assumption))
  .rw[q2,r2] at ho;rcases cj' with ⟨w1,w2⟩|⟨w1,w2⟩|⟨w1,w2⟩|⟨w1,w2⟩|⟨w1,w2⟩|⟨w1,w2⟩|⟨_,w2,m1,m2,m3,m4,m5,m6⟩<;>rw[w2] at ho<;>first
    |(rw[q1,w1];exact C2.symm)
    |exact absurd ho (by assumption)
    |exact absurd ho (Ne.symm (by assumption))
  have hb:=(bG ok.cr hli ci).1;rw[ho,q2] at hb;rcases cj' with ⟨w1,w2⟩|⟨w1,w2⟩|⟨w1,w2⟩|⟨w1,w2⟩|⟨w1,w2⟩|⟨w1,w2⟩|⟨eu2,w2,_⟩
  .rw[w2,<- o1] at hb;exact absurd hb.symm n3
  .rw[w2,r3] at hb;exact absurd hb.symm n6
  .rw[w2,<- o2] at hb;exact absurd hb.symm n5
  .rw[w2,r1] at hb;exact absurd hb.symm n2
  .rw[w2,<- o3] at hb;exact absurd hb.symm n1
  .rw[w2,r2] at hb;exact absurd hb.symm n4
  rw[q2] at hli;rw[w2] at hlj;rw[eu,eu2];exact zM g hi hj Zp (by rw[bR hli];exact ci) (by rw[bR hlj];exact cj) (by rw[bR hli,bR hlj];exact e)
 .have ee:=passUn i hi pi;have ee2:=passUn j hj pj;rw[ee] at pi e1 e2;rw[ee2] at pj e1 e2;exact(cz.yO (qc hi) (qc hj) Zp).2 pi pj e1 e2
 .obtain⟨j,l,hj,hl,hk,_⟩:=hold i hi;rw[hk] at ci ⊢;exact g.ids.1 l (aab hl) ci
 .have ee:=passUn i hi pi;rw[ee] at pi ⊢;have:=cz.rr _ (aab (qc hi)) pi;rwa[dy] at this
 .have ee:=passUn i hi pi;rw[ee] at pi ⊢;exact cz.pl _ (aab (qc hi)) pi
 .have:=cz.gt k hk;rwa[dy] at this
 .have:=cz.gz;rwa[dy] at this
 have viaK:∀d,j=d/2->t=(oK ls d).l\/t=(oK ls d).r:=fun d hd=>by
  rw[hd] at ht;unfold oK;split
  .exact ht
  exact ht.symm
 by_cases n1:j=d1/2
 .rcases viaK d1 n1 with h|h
  .exact .inl h
  exact .inr (labs (dA d2) _ t2 t (.inl (by rw[G2.1,h];exact c1.symm)))
 by_cases n2:j=d2/2
 .rcases viaK d2 n2 with h|h
  .exact .inl (h.trans a1.symm)
  exact .inr (labs (dA d3) _ t3 t (.inl (by rw[G3.1,h];exact c2.symm)))
 by_cases n3:j=d3/2
 .rcases viaK d3 n3 with h|h
  .exact .inl (h.trans (a2.symm.trans a1.symm))
  exact .inr (labs (dA d1) _ t1 t (.inl (by rw[G1.1,h];exact c3.symm)))
 exact .inr ⟨j,hj,by rw[sdn j n1 n2 n3];exact ht⟩
end
theorem sv(f:Bool)(x:aM):x.up=if f==x.p.d then kX f x else mZ (nX f x):=by unfold aM.up kX nX;cases f<;>cases x.p.d<;>rfl
theorem sC(f:Bool)(x:aM):x.lo=if f==x.p.d then nX f x else mZ (kX f x):=by unfold aM.lo kX nX;cases f<;>cases x.p.d<;>rfl
section
variable {F:Nat} {ls:List Let}
theorem qX:∀(w:List Nat) (f:Fc),f.places.length<=(w.foldl (Fc.add F ls) f).places.length/\ ∀x∈w,2*ls.length<=x->(fU F ls ((x-2*ls.length)/2)).length<=(w.foldl (Fc.add F ls) f).places.length:=by
 intro w
 induction w with
 |nil=>intro f;exact⟨aad _,fun x hx=>nomatch hx⟩
 |cons x w ih=>
  intro f;rw[ab3];obtain⟨h1,h2⟩:=ih (Fc.add F ls f x);have h3:f.places.length<=(Fc.add F ls f x).places.length:=by
   unfold Fc.add;split
   .exact aad _
   simp only[aaF];omega
  refine⟨abc h3 h1,fun y hy hl=>?_⟩;rcases aag.1 hy with rfl|hy
  .refine abc ?_ h1;unfold Fc.add;rw[if_neg (by omega)];simp only[aaF];split<;>(try rw[abp])<;>omega
  exact h2 y hy hl
theorem FZ(ok:dT F ls){k u v:Nat}(hk:k+1<(aa ls).length)(hu:(aa ls).getD k 0=u)(hv:(aa ls).getD (k+1) 0=v){l m:Let}(hl:ls[u]?=some l)(hm:ls[v]?=some m)
  (pl:l.aA=true) (pm:m.aA=true) (hg:m.gate<=l.gate):l.gate=m.gate/\m.Yb=l.Yb+1:=by
 obtain⟨u',hu'⟩:=ai (ls:=aa ls) (k:=k) (by omega);obtain⟨v',hv'⟩:=ai hk;rw[aal,hu',aaS] at hu;rw[aal,hv',aaS] at hv;subst hu hv;obtain⟨l',e1,_,e2⟩:=jr ok.ax hu';obtain⟨m',e3,_,e4⟩:=jr ok.ax hv';rw[hl] at e1;cases e1;rw[hm] at e3;cases e3;have gl:=ok.ax.d9 l (aab hl) pl;have gm:=ok.ax.d9 m (aab hm) pm;obtain⟨l1,l2,l3,l4⟩:=gl;obtain⟨m1,m2,m3,m4⟩:=gm;unfold dk at e2 e4;rcases Int.lt_or_eq_of_le hg with c|c
 .exfalso;have hmn:=eo (ls:=ls) (show m.gate.toNat+1<=l.gate.toNat by omega);have hs:=cK ls m.gate.toNat;omega
 rw[c] at e4;exact⟨c.symm,by omega⟩
theorem BH(g:cD F ls){w:List Nat}(hw:w∈bY (bU ls) (nD ls))(hp1:(fH F ls w).places.length=1){x:Nat}(hx:x∈w){fw:Bool}(hxa:x=fR ls.length v fw){l:Let}(hl:ls[v]?=some l)(pl:l.aA=true):
  ∃u m y,y∈w/\ls[u]?=some m/\m.aA=true/\l.gate=m.gate/\((dn ls v=fw/\m.Yb=l.Yb+1/\y=aJ ls.length u (!dn ls u))\/(dn ls v=(!fw)/\l.Yb=m.Yb+1/\y=aJ ls.length u (dn ls u))):=by
 have ok:=g.ok;have mp:=maps ok;obtain⟨i1,i2⟩:=tB ok hl pl;have hz:=eT mp hw hx;rw[hxa,sM hl pl] at hz;by_cases cd:(dn ls v==fw)=true
 .rw[if_pos cd] at hz;have hpc:(fU F ls ((aa ls).idxOf v)).length<=1:=by
   rw[<- hp1];unfold fH;have:=(qX (F:=F) (ls:=ls) w (Fc.new ls (w.headD 0))).2 _ hz (by omega);rwa[show(2*ls.length+2*(aa ls).idxOf v-2*ls.length)/2=(aa ls).idxOf v by omega] at this
  have hk:(aa ls).idxOf v+1<(aa ls).length:=by
   unfold fU at hpc;simp only at hpc;split at hpc
   .assumption
   rw[aaF,fY,fY] at hpc;omega
  obtain⟨m,hm,pm⟩:=l6 hk;have hg:m.gate<=l.gate:=by unfold fU at hpc;simp only at hpc;rw[if_pos hk,fY,i2,aaB hk,uy hl,uy hm] at hpc;have:=(ok.ax.d9 l (aab hl) pl).g0;have:=(ok.ax.d9 m (aab hm) pm).g0;omega
  obtain⟨r1,r2⟩:=FZ ok hk i2 rfl hl hm pl pm hg;have hz2:=eT mp hw hz;rw[qf,aaB hk] at hz2;exact⟨_,m,_,hz2,hm,pm,r1,.inl ⟨eq_of_beq cd,r2,rfl⟩⟩
 rw[if_neg cd] at hz;have hmo:=aat ((aa ls).idxOf v+(aa ls).length-1) (show 0<(aa ls).length by omega);have hb:=fM i1;generalize ((aa ls).idxOf v+(aa ls).length-1)%(aa ls).length=k at hz hmo hb;have hpc:(fU F ls k).length<=1:=by rw[<- hp1];unfold fH;have:=(qX (F:=F) (ls:=ls) w (Fc.new ls (w.headD 0))).2 _ hz (by omega);rwa[show(2*ls.length+2*k+1-2*ls.length)/2=k by omega] at this
 have hk:k+1<(aa ls).length:=by
  unfold fU at hpc;simp only at hpc;split at hpc
  .assumption
  rw[aaF,fY,fY] at hpc;omega
 rw[aaB hk] at hb;obtain⟨m,hm,pm⟩:=l6 hmo;have hg:l.gate<=m.gate:=by unfold fU at hpc;simp only at hpc;rw[if_pos hk,fY,aaB hk,hb,i2,uy hl,uy hm] at hpc;have:=(ok.ax.d9 l (aab hl) pl).g0;have:=(ok.ax.d9 m (aab hm) pm).g0;omega
 obtain⟨r1,r2⟩:=FZ ok hk rfl (by rw[hb];exact i2) hm hl pm pl hg;have hz2:=eT mp hw hz;rw[qh] at hz2;refine⟨_,m,_,hz2,hm,pm,r1.symm,.inr ⟨?_,r2,rfl⟩⟩;revert cd;cases dn ls v<;>cases fw<;>simp
theorem uS{l:List Pc}{i:Nat}{r:Int}{p:Pc}(h:l[i]?=some p)(j:Nat):(eU l i r)[j]?=if j=i then some ⟨{p.l with Yb:=r},p.d⟩ else l[j]? :=by
 have hl:=(aac.1 h).1;unfold eU;rw[aal,h,aaS,abj];by_cases c:j=i
 .subst c;rw[if_pos rfl,if_pos hl,if_pos rfl]
 rw[if_neg (Ne.symm c),if_neg c]
theorem uT{q:Pc->Bool}{l:List Pc}{i:Nat}{r:Int}{p:Pc}(h:l[i]?=some p)(hq:∀p:Pc,q ⟨{p.l with Yb:=r},p.d⟩=q p):(eU l i r).countP q=l.countP q:=by unfold eU;rw[aal,h,aaS];have:=xG (p:=q) (y:=⟨{p.l with Yb:=r},p.d⟩) h;rw[hq] at this;show List.countP q (l.set i ⟨{p.l with Yb:=r},p.d⟩)=_;omega
theorem EJ(g:cD F ls){a b:Nat}(ha:a<ls.length)(hb:b<ls.length)(Zv:a≠b){va vb pa pb:Nat}{la lb ma mb:Let}
  (ea:(pa=a/\va=nx ls a)\/(pa=nx ls a/\va=a)) (eb:(pb=b/\vb=nx ls b)\/(pb=nx ls b/\vb=b)) (hla:ls[va]?=some la) (hlb:ls[vb]?=some lb) (hma:ls[pa]?=some ma) (hmb:ls[pb]?=some mb)
  (ca:la.aw=true) (cb:lb.aw=true) (qa:ma.aA=true) (qb:mb.aA=true) (hid:la.id=lb.id) (hv:va≠vb) (adI:kQ F ls 1 [a,b] a=true):
  ∃w,w∈bY (bU ls) (nD ls)/\(fH F ls w).places.length=1/\ ∃d,d∈w/\d<2*ls.length/\bU ls d∈w/\bU ls d<2*ls.length/\(∀y,y∈w->y<2*ls.length->y=d\/y=bU ls d)/\
   ((d/2=a/\bU ls d/2=b/\oT ls.length d=pa/\oH ls.length d=va/\oT ls.length (bU ls d)=vb/\oH ls.length (bU ls d)=pb)\/(d/2=b/\bU ls d/2=a/\oT ls.length d=pb/\oH ls.length d=vb/\oT ls.length (bU ls d)=va/\oH ls.length (bU ls d)=pa)):=by
 have ok:=g.ok;obtain⟨w,hw,hp1,hlen,hE⟩:=qO g ha adI;obtain⟨da,da1,da2,da3⟩:=hE a (by simp);obtain⟨db,db1,db2,db3⟩:=hE b (by simp);have Yk:da≠db:=by omega
 have inD:∀d,d∈w->d<2*ls.length->d∈w.filter fun x=>decide (x<2*ls.length):=fun d h1 h2=>abD.2 ⟨h1,by simpa using h2⟩;have two:∀d,d∈w->d<2*ls.length->d=da\/d=db:=fun d h1 h2=>Eo hlen (inD da da1 da2) (inD db db1 db2) Yk (inD d h1 h2);have ends:∀d e p v:Nat,d/2=e->((p=e/\v=nx ls e)\/(p=nx ls e/\v=e))->(oT ls.length d=p/\oH ls.length d=v)\/(oT ls.length d=v/\oH ls.length d=p):=fun d e p v h1 h2=>by
  unfold oT oH;rw[h1];show((if _ then e else nx ls e)=p/\(if _ then nx ls e else e)=v)\/((if _ then e else nx ls e)=v/\(if _ then nx ls e else e)=p);rcases h2 with ⟨rfl,rfl⟩|⟨rfl,rfl⟩<;>split
  .exact .inl ⟨rfl,rfl⟩
  .exact .inr ⟨rfl,rfl⟩
  .exact .inr ⟨rfl,rfl⟩
  exact .inl ⟨rfl,rfl⟩
 have pc:∀ {x y:Nat} {l m:Let},ls[x]?=some l->ls[y]?=some m->l.aw=true->m.aA=true->x≠y:=fun h1 h2 h3 h4 e=>by subst e;rw[h1] at h2;have:=abu h2;rw[this,dz h4] at h3;cases h3
 -- a dart that leads to the crossing goes on at the other visit
 have go:∀(d d' p v p' v':Nat) (l m l' m':Let),d∈w->d<2*ls.length->d'<2*ls.length->oT ls.length d=p->oH ls.length d=v->ls[v]?=some l->ls[p]?=some m->ls[v']?=some l'->ls[p']?=some m'->l.aw=true->m.aA=true->l'.aw=true->m'.aA=true->l.id=l'.id->v≠v'->(∀y,y∈w->y<2*ls.length->y=d\/y=d')->((oT ls.length d'=p'/\oH ls.length d'=v')\/(oT ls.length d'=v'/\oH ls.length d'=p'))->bU ls d=d'/\oT ls.length d'=v'/\oH ls.length d'=p':=by
  intro d d' p v p' v' l m l' m' d1 d2 d2' hT hH hl hm hl' hm' cl pm cl' pm' hid hv tw en;obtain⟨s1,s2,_⟩:=jd g d2 (by rw[hH];exact hl) cl;rw[hH,jA g hl hl' cl cl' hid hv] at s2;rcases tw _ (eT (maps ok) hw d1) s1 with e|e
  .exfalso;rw[e,hT] at s2;exact pc hl' hm cl' pm s2.symm
  rw[e] at s2;rcases en with ⟨e1,_⟩|⟨e1,e2⟩
  .exact absurd (s2.symm.trans e1) (pc hl' hm' cl' pm')
  exact⟨e,e1,e2⟩
 have na:=ends da a pa va da3 ea;have nb:=ends db b pb vb db3 eb;rcases na with ⟨t1,t2⟩|⟨t1,t2⟩
 .obtain⟨e1,e2,e3⟩:=go da db pa va pb vb la ma lb mb da1 da2 db2 t1 t2 hla hma hlb hmb ca qa cb qb hid hv two nb;refine⟨w,hw,hp1,da,da1,da2,by rw[e1];exact db1,by rw[e1];exact db2,by rw[e1];exact two,.inl ⟨da3,by rw[e1];exact db3,t1,t2,by rw[e1];exact e2,by rw[e1];exact e3⟩⟩
 · -- the dart of the first edge leads to the pass: the other one leads to the crossing
  obtain⟨u,m,y,y1,y2,y3,_,y4⟩:=BH g hw hp1 da1 (v:=pa) (fw:=dA da) (by rw[<- t2];exact zR da2) hma qa;have hu:=(aac.1 y2).1;have yT:oT ls.length y=u/\y<2*ls.length:=by
   have key:∀f,oT ls.length (aJ ls.length u f)=u/\aJ ls.length u f<2*ls.length:=fun f=>⟨(xE hu).1,by
    have:=l7 hu (!f);rw[<- fK] at this;have:=mr this;rwa[mq] at this⟩
   rcases y4 with ⟨_,_,e⟩|⟨_,_,e⟩<;>rw[e]<;>exact key _
  have yb:y=db:=by
   rcases two y y1 yT.2 with e|e
   .exfalso;rw[e,t1] at yT;rw[<- yT.1] at y2;rw[hla] at y2;have:=abu y2;rw[<- this,cA ca] at y3;cases y3
   exact e
  have nb':oT ls.length db=pb/\oH ls.length db=vb:=by
   rcases nb with h|⟨h1,h2⟩
   .exact h
   exfalso;rw[yb,h1] at yT;rw[<- yT.1,hlb] at y2;have:=abu y2;rw[<- this,cA cb] at y3;cases y3
  obtain⟨e1,e2,e3⟩:=go db da pb vb pa va lb mb la ma db1 db2 da2 nb'.1 nb'.2 hlb hmb hla hma cb qb ca qa hid.symm hv.symm (fun y h1 h2=>(two y h1 h2).symm) (.inr ⟨t1,t2⟩);refine⟨w,hw,hp1,db,db1,db2,by rw[e1];exact da1,by rw[e1];exact da2,by rw[e1];exact fun y h1 h2=>(two y h1 h2).symm,.inr ⟨db3,by rw[e1];exact da3,nb'.1,nb'.2,by rw[e1];exact e2,by rw[e1];exact e3⟩⟩
end
section
variable {F:Nat} {ls:List Let}
theorem E0{e:Nat}(hn:0<ls.length)(he:e<ls.length)(h:(sT ls e).2.2=true):(((sT ls e).1=e/\(sT ls e).2.1=nx ls e)\/((sT ls e).1=nx ls e/\(sT ls e).2.1=e))/\(∃l,ls[(sT ls e).2.1]?=some l/\l.aw=true)/\ ∃m,ls[(sT ls e).1]?=some m/\m.aA=true:=by
 obtain⟨l,hl⟩:=ai he;obtain⟨m,hm⟩:=ai (ls:=ls) (k:=nx ls e) (aat _ hn);have e1:pA ls e=⟨l,rW ls e⟩:=eO (dw hl);have e2:pA ls (nx ls e)=⟨m,rW ls (nx ls e)⟩:=eO (dw hm);unfold sT at h ⊢;rw[e1,e2] at h ⊢;by_cases c:(l.kind==2)=true
 .rw[if_pos c] at h ⊢;exact⟨.inr ⟨rfl,rfl⟩,⟨l,hl,c⟩,m,hm,h⟩
 rw[if_neg c] at h ⊢;simp only[aaf] at h;exact⟨.inl ⟨rfl,rfl⟩,⟨m,hm,h.2⟩,l,hl,h.1⟩
theorem UD{f:Bool}{x y:aM}(h1:(kX f x).b=(kX f y).b)(h2:(nX f x).b=(nX f y).b):x.i.b=y.i.b/\x.o.b=y.o.b:=by
 rw[BW,BW] at h1;rw[Bu,Bu] at h2;cases f
 .exact⟨h2,h1⟩
 exact⟨h1,h2⟩
theorem UE{f:Bool}{x:aM}(h:(kX f x).b=(nX f x).b):x.i.b=x.o.b:=by
 rw[BW,Bu] at h;cases f
 .exact h.symm
 exact h
theorem PH{f:Bool}{x:aM}(h:x.i.b=x.o.b):(kX f x).b=(nX f x).b:=by
 rw[BW,Bu];cases f
 .exact h.symm
 exact h
theorem Cm{l:Let}{r:Int}(hp:l.aA=true)(h:cF F l=false):cF F {l with Yb:=r}=false:=by have ZJ:({l with Yb:=r}:Let).aA=true:=hp;rw[cJ hp] at h;rw[cJ ZJ];exact h
theorem Ac(g:cD F ls){w:List Nat}(hw:w∈bY (bU ls) (nD ls))(hp1:(fH F ls w).places.length=1){d d':Nat}(hd:d∈w)(ld:d<2*ls.length)(hd':d'∈w)(ld':d'<2*ls.length)(hnx:bU ls d=d')(two:∀y,y∈w->y<2*ls.length->y=d\/y=d')
  {lp lv lw lq:Let} (htp:ls[oT ls.length d]?=some lp) (hhv:ls[oH ls.length d]?=some lv) (htw:ls[oT ls.length d']?=some lw) (hhq:ls[oH ls.length d']?=some lq) (pp:lp.aA=true) (cv:lv.aw=true) (cw:lw.aw=true) (pq:lq.aA=true)
  {P:List Pc} (hPl:P.length=ls.length) (ZN:∀q:Let->Bool,(∀(l:Let) (r:Int),q {l with Yb:=r}=q l)->ao q (P.map Pc.l)=ao q ls)
  (hP:oT ls.length d≠oH ls.length d'->P[oT ls.length d]?=(pieces ls)[oH ls.length d]? /\P[oH ls.length d]?=some ⟨{lp with Yb:=lq.Yb},rW ls (oT ls.length d)⟩/\P[oT ls.length d']?=some ⟨{lq with Yb:=lp.Yb},rW ls (oH ls.length d')⟩/\P[oH ls.length d']?=(pieces ls)[oT ls.length d']? /\
   ∀i,i≠oT ls.length d->i≠oH ls.length d->i≠oT ls.length d'->i≠oH ls.length d'->P[i]?=(pieces ls)[i]?):Cert F P:=by
 have ok:=g.ok;have cz:=g.cz;have hn:0<ls.length:=aaQ.2 g.ne;have t1:=Fs g ld;have t2:=Fs g ld';have h1:=Bx g ld;have h2:=Bx g ld'
 -- the neighbours on the Tw
 obtain⟨u,m,y,y1,y2,y3,hgt,y4⟩:=BH g hw hp1 hd' (v:=oH ls.length d') (fw:=dA d') (zR ld') hhq pq;have hu:=(aac.1 y2).1;have yT:∀f,oT ls.length (aJ ls.length u f)=u/\dA (aJ ls.length u f)=f/\aJ ls.length u f<2*ls.length:=fun f=>⟨(xE hu).1,(xE hu).2,by
  have:=l7 hu (!f);rw[<- fK] at this;have:=mr this;rwa[mq] at this⟩
 have yd:y=d:=by
  have hyt:oT ls.length y=u/\y<2*ls.length:=by rcases y4 with ⟨_,_,e⟩|⟨_,_,e⟩<;>rw[e]<;>exact⟨(yT _).1,(yT _).2.2⟩
  rcases two y y1 hyt.2 with e|e
  .exact e
  exfalso;rw[e] at hyt;rw[<- hyt.1,htw] at y2;have:=abu y2;rw[<- this,cA cw] at y3;cases y3
 subst yd;have hu':oT ls.length y=u:=by rcases y4 with ⟨_,_,e⟩|⟨_,_,e⟩<;>rw[e]<;>exact(yT _).1
 subst hu';rw[htp] at y2;cases y2
 -- cR: Ym the Tw
 obtain⟨cR,hR⟩:∃cR:Bool,(cR=true/\dn ls (oH ls.length d')=dA d'/\lp.Yb=lq.Yb+1/\dA y= !dn ls (oT ls.length y))\/(cR=false/\dn ls (oH ls.length d')=(!dA d')/\lq.Yb=lp.Yb+1/\dA y=dn ls (oT ls.length y)):=by
  rcases y4 with ⟨e1,e2,e3⟩|⟨e1,e2,e3⟩
  .exact⟨true,.inl ⟨rfl,e1,e2,(congrArg dA e3).trans (yT _).2.1⟩⟩
  exact⟨false,.inr ⟨rfl,e1,e2,(congrArg dA e3).trans (yT _).2.1⟩⟩
 clear y4 yT y1 y3 hu;have hrk:lp.Yb≠lq.Yb:=by rcases hR with ⟨_,_,h,_⟩|⟨_,_,h,_⟩<;>omega
 have npq:oT ls.length y≠oH ls.length d':=fun e=>by rw[e,hhq] at htp;have:=abu htp;rw[this] at hrk;exact hrk rfl
 obtain⟨pT,pH,pT',pH',pU⟩:=hP npq;clear hP;obtain⟨_,o1,q1,k1⟩:=jd g ld hhv cv;rw[hnx] at o1 q1 k1;rw[rM ld,nc ld'] at k1;obtain⟨xa,xb,xc,xd⟩:=k1;simp only[if_true] at xa xb xc xd;have pc:∀ {x y:Nat} {l m:Let},ls[x]?=some l->ls[y]?=some m->l.aw=true->m.aA=true->x≠y:=fun h1 h2 h3 h4 e=>by subst e;rw[h1] at h2;have:=abu h2;rw[this,dz h4] at h3;cases h3
 have nvw:oH ls.length y≠oT ls.length d':=by intro e;obtain⟨_,m,hm,_,_,mo,_⟩:=bG ok.cr hhv cv;rw[<- o1,<- e,hhv] at hm;have:=abu hm;rw[<- this] at mo;revert mo;cases lv.over<;>simp
 have nvp:=pc hhv htp cv pp;have nvq:=pc hhv hhq cv pq;have nwp:=pc htw htp cw pp;have nwq:=pc htw hhq cw pq
 -- ends of the edges
 have ee:∀d:Nat,(oT ls.length d=d/2/\oH ls.length d=nx ls (d/2))\/(oT ls.length d=nx ls (d/2)/\oH ls.length d=d/2):=fun d=>by
  unfold oT oH nx;split
  .exact .inl ⟨rfl,rfl⟩
  exact .inr ⟨rfl,rfl⟩
 have apart:y/2≠d'/2/\y/2≠nx ls (d'/2)/\nx ls (y/2)≠d'/2/\nx ls (y/2)≠nx ls (d'/2)/\y/2≠nx ls (y/2)/\d'/2≠nx ls (d'/2):=by
  rcases ee y with ⟨a1,a2⟩|⟨a1,a2⟩<;>rcases ee d' with ⟨b1,b2⟩|⟨b1,b2⟩
  .rw[<- a2,<- a1,<- b2,<- b1];exact⟨nwp.symm,npq,nvw,nvq,nvp.symm,nwq⟩
  .rw[<- a2,<- a1,<- b1,<- b2];exact⟨npq,nwp.symm,nvq,nvw,nvp.symm,nwq.symm⟩
  .rw[<- a1,<- a2,<- b2,<- b1];exact⟨nvw,nvq,nwp.symm,npq,nvp,nwq⟩
  rw[<- a1,<- a2,<- b1,<- b2];exact⟨nvq,nvw,npq,nwp.symm,nvp,nwq.symm⟩
 let tau:=(oK ls y).l
 let tI:=kX (dA y) (gG ls (oT ls.length y))
 let hO:=nX (dA d') (gG ls (oH ls.length d'))
 let oth:=(nX (dA y) (gG ls (oH ls.length y))).r
 let K1:gC:=⟨hO.r,tau,tI.b⟩
 let K2:gC:=⟨tI.r,tau,hO.b⟩
 let sd:Nat->gC:=fun j=>if j=y/2 then uo (dA y) K1 else if j=d'/2 then uo (dA d') K2 else tK ls j
 have sd1:sd (y/2)=uo (dA y) K1:=if_pos rfl;have sd2:sd (d'/2)=uo (dA d') K2:=by show(if _ then _ else _)=_;rw[if_neg apart.1.symm,if_pos rfl]
 have sdn:∀j,j≠y/2->j≠d'/2->sd j=tK ls j:=fun j h1 h2=>by show(if _ then _ else _)=_;rw[if_neg h1,if_neg h2]
 have prev:∀i,i<ls.length->i≠nx ls (y/2)->i≠nx ls (d'/2)->sd ((i+ls.length-1)%ls.length)=tK ls ((i+ls.length-1)%ls.length):=fun i hi n1 n2=>sdn _ (fun h=>n1 (k8 hi h)) (fun h=>n2 (k8 hi h))
 obtain⟨z1,z2,z3,z4,z5,z6⟩:=apart;have G1:=Gk (P:=P) hPl ld sd1 (prev _ (by omega) z5 z2) (sdn _ z5.symm z3);have G2:=Gk (P:=P) hPl ld' sd2 (prev _ (by omega) z3.symm z6) (sdn _ z2.symm z6.symm);have un:∀i,i<ls.length->i≠oT ls.length y->i≠oH ls.length y->i≠oT ls.length d'->i≠oH ls.length d'->ez P sd i=gG ls i:=fun i hi n1 n2 n3 n4=>by
  have a1:i≠y/2/\i≠nx ls (y/2):=by
   rcases ee y with ⟨a1,a2⟩|⟨a1,a2⟩
   .rw[<- a2,<- a1];exact⟨n1,n2⟩
   rw[<- a1,<- a2];exact⟨n2,n1⟩
  have a2:i≠d'/2/\i≠nx ls (d'/2):=by
   rcases ee d' with ⟨a1,a2⟩|⟨a1,a2⟩
   .rw[<- a2,<- a1];exact⟨n3,n4⟩
   rw[<- a1,<- a2];exact⟨n4,n3⟩
  exact PU hPl hi (pU i n1 n2 n3 n4) (prev i hi a1.2 a2.2) (sdn i a1.1 a2.1)
 have six:∀i,i<ls.length->(i=oT ls.length y\/i=oH ls.length y\/i=oT ls.length d'\/i=oH ls.length d')\/(ez P sd i=gG ls i/\i≠oT ls.length y/\i≠oH ls.length y/\i≠oT ls.length d'/\i≠oH ls.length d'):=fun i hi=>by
  rcases Classical.em (i=oT ls.length y\/i=oH ls.length y\/i=oT ls.length d'\/i=oH ls.length d') with h|h
  .exact .inl h
  simp only[not_or] at h;exact .inr ⟨un i hi h.1 h.2.1 h.2.2.1 h.2.2.2,h⟩
 have gp:∀ {i:Nat} {p:Pc},P[i]?=some p->(ez P sd i).p=p:=fun {i p} h=>by show P.getD i _=_;rw[aal,h];rfl
 have kT:(ez P sd (oT ls.length y)).k=lv:=congrArg Pc.l (gp (pT.trans (dw hhv)));have kH:(ez P sd (oH ls.length y)).k={lp with Yb:=lq.Yb}:=congrArg Pc.l (gp pH);have kT':(ez P sd (oT ls.length d')).k={lq with Yb:=lp.Yb}:=congrArg Pc.l (gp pT');have kH':(ez P sd (oH ls.length d')).k=lw:=congrArg Pc.l (gp (pH'.trans (dw htw)));have dH:(ez P sd (oH ls.length y)).p.d=(gG ls (oT ls.length y)).p.d:=by rw[gp pH];rfl
 have dT':(ez P sd (oT ls.length d')).p.d=(gG ls (oH ls.length d')).p.d:=by rw[gp pT'];rfl
 have okv:=(qL g h1).cb (by rw[bR hhv];exact cv);have okw:=(qL g t2).cb (by rw[bR htw];exact cw);have bv:=PH (f:=dA y) okv;have bw:=PH (f:=dA d') okw;rw[rM ld] at bv;rw[nc ld'] at bw;have bp:=nc (ls:=ls) ld;have bq:=rM (ls:=ls) ld';have gdp:=ok.ax.d9 lp (aab htp) pp;have gdq:=ok.ax.d9 lq (aab hhq) pq;have plp:=DJ g htp pp;have plq:=DJ g hhq pq;obtain⟨p1,p2,p3,p4⟩:=plp;obtain⟨p5,p6,p7,p8⟩:=plq;rw[bR htp] at p1 p2 p3 p4;rw[bR hhq] at p5 p6 p7 p8;have hdp:=Ks g htp pp;have hdq:=Ks g hhq pq;rw[sv (dA y)] at p1 p2;rw[sC (dA y)] at p3 p4;rw[sv (dA d')] at p5 p6;rw[sC (dA d')] at p7 p8;rw[hdp,bp] at p1 p2 p3 p4;rw[hdq,bq] at p5 p6 p7 p8;have cgq:cg ls lq.gate.toNat=cg ls lp.gate.toNat:=by rw[hgt]
 obtain⟨gp0,gp1,gp2,gp3⟩:=gdp;obtain⟨gq0,gq1,gq2,gq3⟩:=gdq;rw[cgq] at gq3;rw[hgt] at p5 p6 p7 p8;obtain⟨r,T',B',Y0,hr2,YA,hT,pl1,pl2,hll⟩:∃(r:Nat) (T' B':Nat->Nat->Nat),1<=r/\r<cg ls lp.gate.toNat/\((lp.Yb=(r:Int)/\lq.Yb=(r:Int)+1)\/(lq.Yb=(r:Int)/\lp.Yb=(r:Int)+1))/\(∀k j,¬(k=lp.gate.toNat/\j=r)->T' k j=TF ls k j/\B' k j=BF ls k j)/\
   QY T' B' (ez P sd (oH ls.length y))/\QY T' B' (ez P sd (oT ls.length d'))/\tI.l=hO.l:=by
  rcases hR with ⟨_,Ze,akT,YU⟩|⟨_,Ze,akT,YU⟩
  .have f1:(dA y==dn ls (oT ls.length y))=false:=by rw[YU];cases dn ls (oT ls.length y)<;>rfl
   have f2:(dA d'==dn ls (oH ls.length d'))=true:=by rw[Ze];cases dA d'<;>rfl
   rw[f1] at p1 p2 p3 p4;rw[f2] at p5 p6 p7 p8;simp only[aaq,if_false,if_true] at p1 p2 p3 p4 p5 p6 p7 p8;have er:lp.Yb.toNat=lq.Yb.toNat+1:=by omega
   rw[er] at p1 p2 p3 p4;rw[adO] at p1 p3;refine⟨lq.Yb.toNat,fun k j=>if k=lp.gate.toNat/\j=lq.Yb.toNat then oth else TF ls k j,fun k j=>if k=lp.gate.toNat/\j=lq.Yb.toNat then tau else BF ls k j,by omega,by omega,.inr ⟨by omega,by omega⟩,fun k j h=>⟨if_neg h,if_neg h⟩,?_,?_,?_⟩
   .constructor
    .rw[kH,sv (dA y),dH,hdp,f1];show(mZ (nX (dA y) (ez P sd (oH ls.length y)))).r=if lp.gate.toNat=lp.gate.toNat/\lq.Yb.toNat-1=lq.Yb.toNat then oth else TF ls lp.gate.toNat (lq.Yb.toNat-1);rw[if_neg (by omega),G1.2.2.2];exact xd.symm.trans p5
    .rw[kH,sv (dA y),dH,hdp,f1];show(mZ (nX (dA y) (ez P sd (oH ls.length y)))).l=if lp.gate.toNat=lp.gate.toNat/\lq.Yb.toNat=lq.Yb.toNat then oth else TF ls lp.gate.toNat lq.Yb.toNat;rw[if_pos ⟨rfl,rfl⟩,G1.2.2.2];rfl
    .rw[kH,sC (dA y),dH,hdp,f1];show(mZ (kX (dA y) (ez P sd (oH ls.length y)))).r=if lp.gate.toNat=lp.gate.toNat/\lq.Yb.toNat-1=lq.Yb.toNat then tau else BF ls lp.gate.toNat (lq.Yb.toNat-1);rw[if_neg (by omega),G1.2.2.1];exact p7
    rw[kH,sC (dA y),dH,hdp,f1];show(mZ (kX (dA y) (ez P sd (oH ls.length y)))).l=if lp.gate.toNat=lp.gate.toNat/\lq.Yb.toNat=lq.Yb.toNat then tau else BF ls lp.gate.toNat lq.Yb.toNat;rw[if_pos ⟨rfl,rfl⟩,G1.2.2.1];rfl
   .constructor
    .rw[kT',sv (dA d'),dT',hdq,f2];show(kX (dA d') (ez P sd (oT ls.length d'))).r=if lq.gate.toNat=lp.gate.toNat/\lp.Yb.toNat-1=lq.Yb.toNat then oth else TF ls lq.gate.toNat (lp.Yb.toNat-1);rw[if_pos ⟨by rw[hgt],by omega⟩,G2.1];exact xb.symm
    .rw[kT',sv (dA d'),dT',hdq,f2];show(kX (dA d') (ez P sd (oT ls.length d'))).l=if lq.gate.toNat=lp.gate.toNat/\lp.Yb.toNat=lq.Yb.toNat then oth else TF ls lq.gate.toNat lp.Yb.toNat;rw[if_neg (by omega),G2.1,hgt,er];exact xc.trans p2
    .rw[kT',sC (dA d'),dT',hdq,f2];show(nX (dA d') (ez P sd (oT ls.length d'))).r=if lq.gate.toNat=lp.gate.toNat/\lp.Yb.toNat-1=lq.Yb.toNat then tau else BF ls lq.gate.toNat (lp.Yb.toNat-1);rw[if_pos ⟨by rw[hgt],by omega⟩,G2.2.1]
    rw[kT',sC (dA d'),dT',hdq,f2];show(nX (dA d') (ez P sd (oT ls.length d'))).l=if lq.gate.toNat=lp.gate.toNat/\lp.Yb.toNat=lq.Yb.toNat then tau else BF ls lq.gate.toNat lp.Yb.toNat;rw[if_neg (by omega),G2.2.1,hgt,er];exact p4
   exact p3.trans p8.symm
  have f1:(dA y==dn ls (oT ls.length y))=true:=by rw[YU];cases dn ls (oT ls.length y)<;>rfl
  have f2:(dA d'==dn ls (oH ls.length d'))=false:=by rw[Ze];cases dA d'<;>rfl
  rw[f1] at p1 p2 p3 p4;rw[f2] at p5 p6 p7 p8;simp only[aaq,if_false,if_true] at p1 p2 p3 p4 p5 p6 p7 p8;have er:lq.Yb.toNat=lp.Yb.toNat+1:=by omega
  rw[er] at p5 p6 p7 p8;rw[adO] at p5 p7;refine⟨lp.Yb.toNat,fun k j=>if k=lp.gate.toNat/\j=lp.Yb.toNat then tau else TF ls k j,fun k j=>if k=lp.gate.toNat/\j=lp.Yb.toNat then oth else BF ls k j,by omega,by omega,.inl ⟨by omega,by omega⟩,fun k j h=>⟨if_neg h,if_neg h⟩,?_,?_,?_⟩
  .constructor
   .rw[kH,sv (dA y),dH,hdp,f1];show(kX (dA y) (ez P sd (oH ls.length y))).r=if lp.gate.toNat=lp.gate.toNat/\lq.Yb.toNat-1=lp.Yb.toNat then tau else TF ls lp.gate.toNat (lq.Yb.toNat-1);rw[if_pos ⟨rfl,by omega⟩,G1.2.2.1]
   .rw[kH,sv (dA y),dH,hdp,f1];show(kX (dA y) (ez P sd (oH ls.length y))).l=if lp.gate.toNat=lp.gate.toNat/\lq.Yb.toNat=lp.Yb.toNat then tau else TF ls lp.gate.toNat lq.Yb.toNat;rw[if_neg (by omega),G1.2.2.1,er];exact p6
   .rw[kH,sC (dA y),dH,hdp,f1];show(nX (dA y) (ez P sd (oH ls.length y))).r=if lp.gate.toNat=lp.gate.toNat/\lq.Yb.toNat-1=lp.Yb.toNat then oth else BF ls lp.gate.toNat (lq.Yb.toNat-1);rw[if_pos ⟨rfl,by omega⟩,G1.2.2.2]
   rw[kH,sC (dA y),dH,hdp,f1];show(nX (dA y) (ez P sd (oH ls.length y))).l=if lp.gate.toNat=lp.gate.toNat/\lq.Yb.toNat=lp.Yb.toNat then oth else BF ls lp.gate.toNat lq.Yb.toNat;rw[if_neg (by omega),G1.2.2.2,er];exact xd.symm.trans p8
  .constructor
   .rw[kT',sv (dA d'),dT',hdq,f2];show(mZ (nX (dA d') (ez P sd (oT ls.length d')))).r=if lq.gate.toNat=lp.gate.toNat/\lp.Yb.toNat-1=lp.Yb.toNat then tau else TF ls lq.gate.toNat (lp.Yb.toNat-1);rw[if_neg (by omega),G2.2.1,hgt];exact p1
   .rw[kT',sv (dA d'),dT',hdq,f2];show(mZ (nX (dA d') (ez P sd (oT ls.length d')))).l=if lq.gate.toNat=lp.gate.toNat/\lp.Yb.toNat=lp.Yb.toNat then tau else TF ls lq.gate.toNat lp.Yb.toNat;rw[if_pos ⟨by rw[hgt],rfl⟩,G2.2.1];rfl
   .rw[kT',sC (dA d'),dT',hdq,f2];show(mZ (kX (dA d') (ez P sd (oT ls.length d')))).r=if lq.gate.toNat=lp.gate.toNat/\lp.Yb.toNat-1=lp.Yb.toNat then oth else BF ls lq.gate.toNat (lp.Yb.toNat-1);rw[if_neg (by omega),G2.1,hgt];exact xc.trans p3
   rw[kT',sC (dA d'),dT',hdq,f2];show(mZ (kX (dA d') (ez P sd (oT ls.length d')))).l=if lq.gate.toNat=lp.gate.toNat/\lp.Yb.toNat=lp.Yb.toNat then oth else BF ls lq.gate.toNat lp.Yb.toNat;rw[if_pos ⟨by rw[hgt],rfl⟩,G2.1];exact xb.symm
  exact p2.trans p5.symm
 clear p1 p2 p3 p4 p5 p6 p7 p8 hR;have mgp:∀i,i<ls.length->(ez P sd i).k.aA=true->(i=oH ls.length y\/i=oT ls.length d')\/(ez P sd i=gG ls i/\i≠oT ls.length y/\i≠oH ls.length y/\i≠oT ls.length d'/\i≠oH ls.length d'):=fun i hi hp=>by
  rcases six i hi with (rfl|rfl|rfl|rfl)|h
  .rw[kT,cA cv] at hp;cases hp
  .exact .inl (.inl rfl)
  .exact .inl (.inr rfl)
  .rw[kH',cA cw] at hp;cases hp
  exact .inr h
 have mgc:∀i,i<ls.length->(ez P sd i).k.aw=true->(i=oT ls.length y\/i=oH ls.length d')\/(ez P sd i=gG ls i/\i≠oT ls.length y/\i≠oH ls.length y/\i≠oT ls.length d'/\i≠oH ls.length d'):=fun i hi hc=>by
  have n1:∀(l:Let) (r:Int),l.aA=true->({l with Yb:=r}:Let).aw=false:=fun l r h=>dz (l:={l with Yb:=r}) h;rcases six i hi with (rfl|rfl|rfl|rfl)|h
  .exact .inl (.inl rfl)
  .rw[kH,n1 _ _ pp] at hc;cases hc
  .rw[kT',n1 _ _ pq] at hc;cases hc
  .exact .inl (.inr rfl)
  exact .inr h
 -- the place of a pass is that of an old one
 have old:∀i,i<ls.length->(ez P sd i).k.aA=true->∃j l,ls[j]?=some l/\l.aA=true/\(ez P sd i).k.gate=l.gate/\(ez P sd i).k.Yb=l.Yb/\((i=oH ls.length y/\j=oH ls.length d')\/(i=oT ls.length d'/\j=oT ls.length y)\/(i=j/\i≠oT ls.length y/\i≠oH ls.length d')):=fun i hi hp=>by
  rcases mgp i hi hp with (rfl|rfl)|⟨e,n1,n2,n3,n4⟩
  .exact⟨_,lq,hhq,pq,by rw[kH];exact hgt.symm,by rw[kH],.inl ⟨rfl,rfl⟩⟩
  .exact⟨_,lp,htp,pp,by rw[kT'];exact hgt,by rw[kT'],.inr (.inl ⟨rfl,rfl⟩)⟩
  obtain⟨l,hl⟩:=ai hi;rw[e] at hp;rw[bR hl] at hp;exact⟨i,l,hl,hp,by rw[e,bR hl],by rw[e,bR hl],.inr (.inr ⟨rfl,n1,n4⟩)⟩
 have C1:Xc (ez P sd (oT ls.length y)) (ez P sd (oH ls.length d')):=by
  obtain⟨b1,m,hm,mc,mi,mo,ms⟩:=bG ok.cr hhv cv;rw[<- o1,htw] at hm;have em:=abu hm;subst em;refine⟨by rw[kT,kH',mo];simp,by rw[kT,kH',ms],?_⟩;rw[kT,q1,<- QK,G1.1,G1.2.1,G2.2.2.1,G2.2.2.2];constructor<;>simp only[if_true]
  .exact hll
  .rfl
  .rfl
  rfl
 have hid:lv.id=lw.id:=by obtain⟨b1,m,hm,mc,mi,mo,ms⟩:=bG ok.cr hhv cv;rw[<- o1,htw] at hm;rw[abu hm,mi]
 have ho2:bQ ls (oT ls.length d')=oH ls.length y:=by rw[o1];exact(bG ok.cr hhv cv).1
 have labs:∀(f:Bool) i,i<ls.length->∀t,t=(kX f (ez P sd i)).l\/t=(kX f (ez P sd i)).r->∃j',j'<ls.length/\(t=(sd j').l\/t=(sd j').r):=fun f i hi t ht=>by
  cases f
  .refine⟨i,hi,?_⟩;rcases ht with ht|ht
   .exact .inr ht
   exact .inl ht
  refine⟨(i+P.length-1)%P.length,?_,ht⟩;rw[hPl];exact aat _ hn
 have labo:∀(f:Bool) i,i<ls.length->∀t,t=(nX f (ez P sd i)).l\/t=(nX f (ez P sd i)).r->∃j',j'<ls.length/\(t=(sd j').l\/t=(sd j').r):=fun f i hi t ht=>by
  cases f
  .refine⟨(i+P.length-1)%P.length,?_,?_⟩
   .rw[hPl];exact aat _ hn
   rcases ht with ht|ht
   .exact .inr ht
   exact .inl ht
  exact⟨i,hi,ht⟩
 have czgt:=cz.gt;have czgz:=cz.gz;rw[dy] at czgz;refine GB g (tau:=tau) (sd:=sd) (T':=T') (B':=B') hPl (ZN _ fun _ _=>rfl) (ZN _ fun _ _=>rfl) (fun k=>ZN _ fun _ _=>rfl) (fun i hi=>?_) (fun i j hi hj Zp ci cj e=>?_) (fun i j hi hj Zp pi pj e1 e2=>?_) (fun i hi ci=>?_) (fun i hi pi=>?_) (fun i hi pi=>?_) (fun k hk=>?_) ?_ (fun j hj t ht=>?_)
 .rcases six i hi with (rfl|rfl|rfl|rfl)|⟨e,_⟩
  .exact⟨by rw[kT];exact g.bad lv (aab hhv),fun _=>UE (f:=dA y) (by rw[G1.1,G1.2.1]),fun hp=>by rw[kT,cA cv] at hp;cases hp⟩
  .have fl:=UD (f:=dA y) (x:=ez P sd (oH ls.length y)) (y:=gG ls (oT ls.length y)) (by rw[G1.2.2.1]) (by rw[G1.2.2.2,bp];exact bv.symm);refine⟨by rw[kH];exact Cm pp (g.bad lp (aab htp)),fun hc=>?_,fun _=>?_⟩
   .rw[kH] at hc;have:=dz (l:={lp with Yb:=lq.Yb}) pp;rw[this] at hc;cases hc
   rw[fl.1,fl.2,dH];exact(qL g t1).pb (by rw[bR htp];exact pp)
  .have fl:=UD (f:=dA d') (x:=ez P sd (oT ls.length d')) (y:=gG ls (oH ls.length d')) (by rw[G2.1,bq];exact bw) (by rw[G2.2.1]);refine⟨by rw[kT'];exact Cm pq (g.bad lq (aab hhq)),fun hc=>?_,fun _=>?_⟩
   .rw[kT'] at hc;have:=dz (l:={lq with Yb:=lp.Yb}) pq;rw[this] at hc;cases hc
   rw[fl.1,fl.2,dT'];exact(qL g h2).pb (by rw[bR hhq];exact pq)
  .exact⟨by rw[kH'];exact g.bad lw (aab htw),fun _=>UE (f:=dA d') (by rw[G2.2.2.1,G2.2.2.2]),fun hp=>by rw[kH',cA cw] at hp;cases hp⟩
  rw[e];exact qL g hi
 .rcases mgc i hi ci with (rfl|rfl)|⟨ei,n1,n2,n3,n4⟩<;>rcases mgc j hj cj with (rfl|rfl)|⟨ej,m1,m2,m3,m4⟩
  .exact absurd rfl Zp
  .exact C1
  .exfalso;obtain⟨l,hl⟩:=ai hj;rw[kT,ej,bR hl] at e;rw[ej,bR hl] at cj;have:=jA g hhv hl cv cj e m2.symm;rw[<- o1] at this;exact m3 this.symm
  .exact C1.symm
  .exact absurd rfl Zp
  .exfalso;obtain⟨l,hl⟩:=ai hj;rw[kH',ej,bR hl] at e;rw[ej,bR hl] at cj;have:=jA g htw hl cw cj e m3.symm;rw[ho2] at this;exact m2 this.symm
  .exfalso;obtain⟨l,hl⟩:=ai hi;rw[kT,ei,bR hl] at e;rw[ei,bR hl] at ci;have:=jA g hhv hl cv ci e.symm n2.symm;rw[<- o1] at this;exact n3 this.symm
  .exfalso;obtain⟨l,hl⟩:=ai hi;rw[kH',ei,bR hl] at e;rw[ei,bR hl] at ci;have:=jA g htw hl cw ci e.symm n3.symm;rw[ho2] at this;exact n2 this.symm
  rw[ei] at ci e ⊢;rw[ej] at cj e ⊢;exact zM g hi hj Zp ci cj e
 .obtain⟨a,l,hl,_,g1',r1',c1⟩:=old i hi pi;obtain⟨b,m,hm,_,g2',r2',c2⟩:=old j hj pj;rename_i pl' pm';have Zv:a≠b:=by
   intro e;rcases c1 with ⟨i1,j1⟩|⟨i1,j1⟩|⟨i1,i2,i3⟩<;>rcases c2 with ⟨k1,k2⟩|⟨k1,k2⟩|⟨k1,k2,k3⟩
   .exact Zp (i1.trans k1.symm)
   .exact npq (by rw[<- k2,<- e,j1])
   .exact k3 (by rw[k1,<- e,j1])
   .exact npq (by rw[<- j1,e,k2])
   .exact Zp (i1.trans k1.symm)
   .exact k2 (by rw[k1,<- e,j1])
   .exact i3 (by rw[i1,e,k2])
   .exact i2 (by rw[i1,e,k2])
   exact Zp (by rw[i1,k1,e])
  have gl:=ok.ax.d9 l (aab hl) pl';have gm:=ok.ax.d9 m (aab hm) pm';exact Zv (ok.ax.inj a b l m hl hm pl' pm' ((yK gl gm).2 ⟨by rw[<- g1',<- g2',e1],by rw[<- r1',<- r2',e2]⟩))
 .rcases mgc i hi ci with (rfl|rfl)|⟨ei,_⟩
  .rw[kT];exact g.ids.1 lv (aab hhv) cv
  .rw[kH'];exact g.ids.1 lw (aab htw) cw
  obtain⟨l,hl⟩:=ai hi;rw[ei,bR hl] at ci ⊢;exact g.ids.1 l (aab hl) ci
 .obtain⟨a,l,hl,pl',g1',r1',_⟩:=old i hi pi;rw[g1',r1'];obtain⟨_,_,b1,b2⟩:=ok.ax.d9 l (aab hl) pl';exact⟨b1,b2⟩
 .rcases mgp i hi pi with (rfl|rfl)|⟨ei,n1,n2,n3,n4⟩
  .exact pl1
  .exact pl2
  obtain⟨l,hl⟩:=ai hi;rw[ei] at pi ⊢;rw[bR hl] at pi;obtain⟨a1,a2,a3,a4⟩:=DJ g hl pi;rw[bR hl] at a1 a2 a3 a4;obtain⟨b0,_,b1,b2⟩:=ok.ax.d9 l (aab hl) pi;have far:l.gate.toNat=lp.gate.toNat->l.Yb.toNat≠r/\l.Yb.toNat-1≠r:=fun ZV=>by
   have gg:l.gate=lp.gate:=by omega
   have d1:l.Yb≠lp.Yb:=fun e=>n1 (ok.ax.inj i _ l lp hl htp pi pp ((yK (ok.ax.d9 l (aab hl) pi) (ok.ax.d9 lp (aab htp) pp)).2 ⟨gg,e⟩));have d2:l.Yb≠lq.Yb:=fun e=>n4 (ok.ax.inj i _ l lq hl hhq pi pq ((yK (ok.ax.d9 l (aab hl) pi) (ok.ax.d9 lq (aab hhq) pq)).2 ⟨by rw[gg,hgt],e⟩));rcases YA with ⟨s1,s2⟩|⟨s1,s2⟩<;>omega
  have v1:=hT l.gate.toNat (l.Yb.toNat-1) (fun⟨h1,h2⟩=>(far h1).2 h2);have v2:=hT l.gate.toNat l.Yb.toNat (fun⟨h1,h2⟩=>(far h1).1 h2);constructor
  .rw[bR hl,v1.1];exact a1
  .rw[bR hl,v2.1];exact a2
  .rw[bR hl,v1.2];exact a3
  rw[bR hl,v2.2];exact a4
 .have:=czgt k hk;rw[dy] at this;have v1:=hT k (cg ls k) (fun⟨h1,h2⟩=>by rw[h1] at h2;omega);have v2:=hT (k+1) 0 (fun⟨_,h2⟩=>by omega);rw[v1.1,v1.2,v2.1,v2.2];exact this
 .have v1:=hT F (cg ls F) (fun⟨h1,h2⟩=>by rw[h1] at h2;omega);have v2:=hT 0 0 (fun⟨_,h2⟩=>by omega);rw[v1.1,v1.2,v2.1,v2.2];exact czgz
 have viaK:∀d,j=d/2->t=(oK ls d).l\/t=(oK ls d).r:=fun d hd=>by
  rw[hd] at ht;unfold oK;split
  .exact ht
  exact ht.symm
 by_cases n1:j=y/2
 .rcases viaK y n1 with h|h
  .exact .inl h
  exact .inr (labs (dA d') _ t2 t (.inl (by rw[G2.1,h];exact xc.symm)))
 by_cases n2:j=d'/2
 .rcases viaK d' n2 with h|h
  .exact .inl (h.trans xa.symm)
  exact .inr (labo (dA y) _ h1 t (.inl (by rw[G1.2.2.2,h];exact xd)))
 exact .inr ⟨j,hj,by rw[sdn j n1 n2];exact ht⟩
theorem XV(g:cD F ls){a b:Nat}(ha:a<ls.length)(hb:b<ls.length)(Zv:a≠b){L:List Pc}(h:Wb F ls a b=some L):Cert F L:=by
 unfold Wb at h;split at h
 case isFalse=>cases h
 rename_i hc;simp only[aaf,aaR,beq_eq_false_iff_ne,beq_iff_eq] at hc;obtain⟨h1,h2,h3,h4,h5⟩:=hc;cases h;have hn:0<ls.length:=aaQ.2 g.ne;have Yu:=aB ls;obtain⟨ea,⟨la,hla,ca⟩,ma,hma,qa⟩:=E0 hn ha h1;obtain⟨eb,⟨lb,hlb,cb⟩,mb,hmb,qb⟩:=E0 hn hb h2;generalize (sT ls a).1=pa at*;generalize (sT ls a).2.1=va at*;generalize (sT ls b).1=pb at*;generalize (sT ls b).2.1=vb at*;have eva:pA ls va=⟨la,rW ls va⟩:=eO (dw hla);have evb:pA ls vb=⟨lb,rW ls vb⟩:=eO (dw hlb);have epa:pA ls pa=⟨ma,rW ls pa⟩:=eO (dw hma);have epb:pA ls pb=⟨mb,rW ls pb⟩:=eO (dw hmb);rw[eva,evb] at h4;rw[epa,epb]
 obtain⟨w,hw,hp1,d,d1,d2,d3,d4,two,cs⟩:=EJ g ha hb Zv ea eb hla hlb hma hmb ca cb qa qb h4 h3 h5;have pc:∀ {x y:Nat} {l m:Let},ls[x]?=some l->ls[y]?=some m->l.aw=true->m.aA=true->x≠y:=fun h1 h2 h3 h4 e=>by subst e;rw[h1] at h2;have:=abu h2;rw[this,dz h4] at h3;cases h3
 have nva:va≠pa:=pc hla hma ca qa;have nvb:vb≠pb:=pc hlb hmb cb qb;have nvab:va≠pb:=pc hla hmb ca qb;have nvba:vb≠pa:=pc hlb hma cb qa
 let PP:=eU (eU (pieces ls) pa mb.Yb) pb ma.Yb
 have aiK:=dw hma;have aoa:pa≠pb->(eU (pieces ls) pa mb.Yb)[pb]?=some ⟨mb,rW ls pb⟩:=fun Yk=>by rw[uS aiK,if_neg Yk.symm];exact dw hmb
 have akV:∃p,(eU (pieces ls) pa mb.Yb)[pb]?=some p:=ai (by rw[iV,Yu];exact(aac.1 hmb).1);have ahe:PP.length=ls.length:=by show(eU (eU _ _ _) _ _).length=_;rw[iV,iV,Yu]
 have e1:(nV ls PP a).length=ls.length:=by rw[n0,ahe]
 have hPl:(pZ ls PP [a,b]).length=ls.length:=by rw[ml,ahe]
 have ZN:∀q:Let->Bool,(∀(l:Let) (r:Int),q {l with Yb:=r}=q l)->ao q ((pZ ls PP [a,b]).map Pc.l)=ao q ls:=fun q hq=>by rw[<- Df (ls:=ls) q];show List.countP _ _=List.countP _ _;rw[adh,adh];show(nV ls (nV ls PP a) b).countP _=_;obtain⟨p,hp⟩:=akV;rw[rg e1 hb (HP g hb),rg ahe ha (HP g ha),uT hp (fun p=>hq _ _),uT aiK (fun p=>hq _ _)]
 have PPg:pa≠pb->PP[pa]?=some ⟨{ma with Yb:=mb.Yb},rW ls pa⟩/\PP[pb]?=some ⟨{mb with Yb:=ma.Yb},rW ls pb⟩/\ ∀i,i≠pa->i≠pb->PP[i]?=(pieces ls)[i]? :=fun Yk=>by
  have k:∀j,PP[j]?=if j=pb then some ⟨{mb with Yb:=ma.Yb},rW ls pb⟩ else if j=pa then some ⟨{ma with Yb:=mb.Yb},rW ls pa⟩ else (pieces ls)[j]? :=fun j=>by show(eU (eU _ _ _) _ _)[j]?=_;rw[uS (aoa Yk),uS aiK]
  refine⟨by rw[k,if_neg Yk,if_pos rfl],by rw[k,if_pos rfl],fun i n1 n2=>by rw[k,if_neg n2,if_neg n1]⟩
 have swg:pa≠pb->(pZ ls PP [a,b])[pa]?=PP[va]? /\(pZ ls PP [a,b])[va]?=PP[pa]? /\(pZ ls PP [a,b])[pb]?=PP[vb]? /\(pZ ls PP [a,b])[vb]?=PP[pb]? /\ ∀i,i≠pa->i≠va->i≠pb->i≠vb->(pZ ls PP [a,b])[i]?=PP[i]? :=fun Yk=>by
  have k:∀i,(pZ ls PP [a,b])[i]?=if i=nx ls b then (nV ls PP a)[b]? else if i=b then (nV ls PP a)[nx ls b]? else (nV ls PP a)[i]? :=fun i=>tS e1 hb i;have k2:∀i,(nV ls PP a)[i]?=if i=nx ls a then PP[a]? else if i=a then PP[nx ls a]? else PP[i]? :=fun i=>tS ahe ha i;have ka:∀i,i≠pa->i≠va->(nV ls PP a)[i]?=PP[i]? :=fun i n1 n2=>by
   rcases ea with ⟨q1,q2⟩|⟨q1,q2⟩
   .rw[k2,if_neg (by rw[<- q2];exact n2),if_neg (by rw[<- q1];exact n1)]
   rw[k2,if_neg (by rw[<- q1];exact n1),if_neg (by rw[<- q2];exact n2)]
  have kb:∀i,i≠pb->i≠vb->(pZ ls PP [a,b])[i]?=(nV ls PP a)[i]? :=fun i n1 n2=>by
   rcases eb with ⟨q1,q2⟩|⟨q1,q2⟩
   .rw[k,if_neg (by rw[<- q2];exact n2),if_neg (by rw[<- q1];exact n1)]
   rw[k,if_neg (by rw[<- q1];exact n1),if_neg (by rw[<- q2];exact n2)]
  have ka2:(nV ls PP a)[pa]?=PP[va]? /\(nV ls PP a)[va]?=PP[pa]? :=by
   rcases ea with ⟨q1,q2⟩|⟨q1,q2⟩
   .exact⟨by rw[k2,if_neg (by rw[<- q2];exact nva.symm),if_pos q1,<- q2],by rw[k2,if_pos q2,<- q1]⟩
   exact⟨by rw[k2,if_pos q1,<- q2],by rw[k2,if_neg (by rw[<- q1];exact nva),if_pos q2,<- q1]⟩
  have kb2:(pZ ls PP [a,b])[pb]?=(nV ls PP a)[vb]? /\(pZ ls PP [a,b])[vb]?=(nV ls PP a)[pb]? :=by
   rcases eb with ⟨q1,q2⟩|⟨q1,q2⟩
   .exact⟨by rw[k,if_neg (by rw[<- q2];exact nvb.symm),if_pos q1,<- q2],by rw[k,if_pos q2,<- q1]⟩
   exact⟨by rw[k,if_pos q1,<- q2],by rw[k,if_neg (by rw[<- q1];exact nvb),if_pos q2,<- q1]⟩
  refine⟨by rw[kb _ Yk nvba.symm,ka2.1],by rw[kb _ nvab h3,ka2.2],by rw[kb2.1,ka _ nvba (Ne.symm h3)],by rw[kb2.2,ka _ Yk.symm nvab.symm],fun i n1 n2 n3 n4=>by rw[kb i n3 n4,ka i n1 n2]⟩
 rcases cs with ⟨c1,c2,c3,c4,c5,c6⟩|⟨c1,c2,c3,c4,c5,c6⟩
 .refine Ac g hw hp1 d1 d2 d3 d4 rfl two (lp:=ma) (lv:=la) (lw:=lb) (lq:=mb) (by rw[c3];exact hma) (by rw[c4];exact hla) (by rw[c5];exact hlb) (by rw[c6];exact hmb) qa ca cb qb hPl ZN fun Yk=>?_;rw[c3,c4,c5,c6] at*;obtain⟨g1,g2,g3⟩:=PPg Yk;obtain⟨s1,s2,s3,s4,s5⟩:=swg Yk;exact⟨by rw[s1,g3 _ nva nvab],by rw[s2,g1],by rw[s4,g2],by rw[s3,g3 _ nvba nvb],fun i n1 n2 n3 n4=>by rw[s5 i n1 n2 n4 n3,g3 i n1 n4]⟩
 refine Ac g hw hp1 d1 d2 d3 d4 rfl two (lp:=mb) (lv:=lb) (lw:=la) (lq:=ma) (by rw[c3];exact hmb) (by rw[c4];exact hlb) (by rw[c5];exact hla) (by rw[c6];exact hma) qb cb ca qa hPl ZN fun Yk=>?_;rw[c3,c4,c5,c6] at*;obtain⟨g1,g2,g3⟩:=PPg Yk.symm;obtain⟨s1,s2,s3,s4,s5⟩:=swg Yk.symm;exact⟨by rw[s3,g3 _ nvba nvb],by rw[s4,g2],by rw[s2,g1],by rw[s1,g3 _ nva nvab],fun i n1 n2 n3 n4=>by rw[s5 i n4 n3 n1 n2,g3 i n4 n1]⟩
end
section
variable {F:Nat} {ls:List Let}
theorem OZ(g:cD F ls){d:Nat}(hd:d<2*ls.length):(dX F ls)[d]?=some (yM ls d):=by obtain⟨j,h1,h2,h3⟩:=th (F:=F) hd;obtain⟨w,hw,hf⟩:=rT h1;rw[hf,j9] at h2;rw[h3,u4 g hw (abD.1 h2).1]
theorem Cb(g:cD F ls){d:Nat}(hd:d<2*ls.length):∃w,w∈bY (bU ls) (nD ls)/\d∈w/\eL F ls d=fH F ls w:=by obtain⟨j,h1,h2,h3⟩:=th (F:=F) hd;obtain⟨w,hw,hf⟩:=rT h1;rw[hf,j9] at h2;exact⟨w,aab hw,(abD.1 h2).1,hf⟩
theorem M1:∀(w:List Nat) (f:Fc),(w.foldl (Fc.add F ls) f).Ym=f.Ym:=by
 intro w
 induction w with
 |nil=>intro f;rfl
 |cons x w ih=>intro f;rw[ab3,ih];unfold Fc.add;split<;>rfl
theorem GU(g:cD F ls){d:Nat}(hd:d<2*ls.length):(eL F ls d).Ym=dn ls (d/2+1):=by
 obtain⟨w,hw,hdw,hf⟩:=Cb (F:=F) g hd;rw[hf];obtain⟨⟨e,t,he,YJ⟩,_,_⟩:=dY g.ok w hw;unfold fH;rw[M1];show dn ls (w.headD 0/2+1)=_;have hh:w.headD 0=e:=by rw[he];rfl
 rw[hh];exact Bj g hw (by rw[he];exact adN) hdw YJ hd
theorem M0{p:Nat×Nat}:∀(w:List Nat) (f:Fc),p∈(w.foldl (Fc.add F ls) f).places->p∈f.places\/ ∃x∈w,2*ls.length<=x/\p∈fU F ls ((x-2*ls.length)/2):=by
 intro w
 induction w with
 |nil=>intro f h;exact .inl h
 |cons x w ih=>
  intro f h;rw[ab3] at h;rcases ih _ h with h|⟨y,hy,h1,h2⟩
  .unfold Fc.add at h;split at h
   .exact .inl h
   rename_i hx;simp only[aaw] at h;rcases h with h|h
   .exact .inl h
   refine .inr ⟨x,by simp,by omega,?_⟩;split at h
   .exact h
   exact List.mem_reverse.1 h
  exact .inr ⟨y,by simp[hy],h1,h2⟩
theorem yh{g0 r to x y:Nat}(h:(x,y)∈iT g0 r to):(x=g0/\y=r)\/(g0<x/\x<=to/\y=0):=by
 unfold iT at h;rcases aag.1 h with h|h
 .cases h;exact .inl ⟨rfl,rfl⟩
 obtain⟨i,hi,e⟩:=aan.1 h;have:=aav.1 hi;cases e;exact .inr ⟨by omega,by omega,rfl⟩
theorem Fl(g:cD F ls){j b c:Nat}(hj:j<(aa ls).length)(h:(b,c)∈fU F ls j):(bk ls b+c+(aa ls).length-1)%(aa ls).length=j:=by
 have ok:=g.ok;have hm1:=aat (j+1) (show 0<(aa ls).length by omega);obtain⟨u,hu⟩:=ai hj;obtain⟨v,hv⟩:=ai hm1;obtain⟨l,l1,l2,l3⟩:=jr ok.ax hu;obtain⟨m,m1,m2,m3⟩:=jr ok.ax hv;obtain⟨a0,a1,a2,a3⟩:=ok.ax.d9 l (aab l1) l2;obtain⟨b0,b1,b2,b3⟩:=ok.ax.d9 m (aab m1) m2;have hT:bk ls (F+1)=(aa ls).length:=wU fun l hl hp=>((cJ hp).1 (g.bad l hl)).1.1.1;have eu:(aa ls).getD j 0=u:=by rw[aal,hu];rfl
 have ev:(aa ls).getD ((j+1)%(aa ls).length) 0=v:=by rw[aal,hv];rfl
 unfold fU at h;simp only[eu,ev,uy l1,uy m1,TX l1] at h;unfold dk at l3 m3;have s1:=cK ls l.gate.toNat;have mono:∀ {x y:Nat},x<=y->bk ls x<=bk ls y:=fun h=>eo h;have fin:bk ls b+c=j+1\/(j+1=(aa ls).length/\bk ls b+c=0)->(bk ls b+c+(aa ls).length-1)%(aa ls).length=j:=by
  rintro (e|⟨e1,e2⟩)
  .rw[e,show j+1+(aa ls).length-1=j+(aa ls).length by omega,abX,aaB hj]
  rw[e2,aa0,aaB (by omega)];omega
 refine fin ?_;split at h
 .rename_i Ye;rw[aaB Ye] at m3;rcases yh h with ⟨rfl,rfl⟩|⟨h1,h2,rfl⟩
  .left;omega
  left;have e1:=mono (show l.gate.toNat+1<=b by omega);have e2:=mono h2;omega
 have ej:j+1=(aa ls).length:=by omega
 rw[ej,acx] at m3;rcases aaw.1 h with h|h
 .rcases yh h with ⟨rfl,rfl⟩|⟨h1,h2,rfl⟩
  .left;omega
  left;have e1:=mono (show l.gate.toNat+1<=b by omega);have e2:=mono (show b<=F+1 by omega);omega
 rcases yh h with ⟨rfl,rfl⟩|⟨h1,h2,rfl⟩
 .right;exact⟨ej,rfl⟩
 right;have e2:=mono h2;exact⟨ej,by omega⟩
theorem yJ(g:cD F ls){d b c:Nat}(hd:d<2*ls.length)(h:(b,c)∈(eL F ls d).places):yM ls d=if dn ls (d/2+1) then TF ls b c else BF ls b c:=by
 have ok:=g.ok;have hn:0<ls.length:=aaQ.2 g.ne;obtain⟨w,hw,hdw,hf⟩:=Cb (F:=F) g hd;rw[hf] at h;unfold fH at h;rcases M0 _ _ h with h|⟨x,hx,hxl,hp⟩
 .cases h
 obtain⟨_,_,hN⟩:=dY ok w hw;have hxN:=hN x hx;have hND:nD ls=2*ls.length+2*(aa ls).length:=rfl;have hk:(x-2*ls.length)/2<(aa ls).length:=by omega
 have hj:=Fl g hk hp;have hph:yM ls d=yM ls x:=by obtain⟨i,hi⟩:=aaO hw;rw[u4 g hi hdw,u4 g hi hx]
 have hy:=eT (maps ok) hw hx;have side:∀v f,v<ls.length->aJ ls.length v f∈w->dn ls (aJ ls.length v f/2+1)=dn ls (d/2+1):=fun v f hv hm=>by
  have lt:aJ ls.length v f<2*ls.length:=by have:=l7 hv (!f);rw[<- fK] at this;have:=mr this;rwa[mq] at this
  exact Bj g hw hm hdw lt hd
 have back:∀v,v<ls.length->dn ls ((v+ls.length-1)%ls.length+1)=dn ls v:=fun v hv=>by have:=SM g hv;have h2:(gG ls v).i.b= !dn ls ((v+ls.length-1)%ls.length+1):=rfl;rw[h2] at this;revert this;cases dn ls ((v+ls.length-1)%ls.length+1)<;>cases dn ls v<;>simp
 rcases abL x with e|e
 .have ex:x=2*ls.length+2*((x-2*ls.length)/2):=by omega
  generalize (x-2*ls.length)/2=k at ex hk hj;have hm1:=aat (k+1) (show 0<(aa ls).length by omega);obtain⟨l,hl,pl⟩:=l6 hm1;have hv:=(aac.1 hl).1;rw[ex,qf] at hy;generalize (aa ls).getD ((k+1)%(aa ls).length) 0=v at hy hl hv;have hs:=side v _ hv hy;have hup:dn ls (d/2+1)=true:=by
   rw[<- hs];cases hdv:dn ls v
   .show dn ls (2*v/2+1)=true;rw[show 2*v/2=v by omega,qM hl pl,hdv];rfl
   show dn ls ((2*((v+ls.length-1)%ls.length)+1)/2+1)=true;rw[show(2*((v+ls.length-1)%ls.length)+1)/2=(v+ls.length-1)%ls.length by omega,back v hv,hdv]
  rw[hup,if_pos rfl,hph,ex];unfold TF;rw[hj]
 have ex:x=2*ls.length+2*((x-2*ls.length)/2)+1:=by omega
 generalize (x-2*ls.length)/2=k at ex hk hj;obtain⟨l,hl,pl⟩:=l6 hk;have hv:=(aac.1 hl).1;rw[ex,qh] at hy;generalize (aa ls).getD k 0=v at hy hl hv;have hs:=side v _ hv hy;have hup:dn ls (d/2+1)=false:=by
  rw[<- hs];cases hdv:dn ls v
  .show dn ls ((2*((v+ls.length-1)%ls.length)+1)/2+1)=false;rw[show(2*((v+ls.length-1)%ls.length)+1)/2=(v+ls.length-1)%ls.length by omega,back v hv,hdv]
  show dn ls (2*v/2+1)=false;rw[show 2*v/2=v by omega,qM hl pl,hdv];rfl
 rw[hup,if_neg (by decide),hph,ex];unfold BF;rw[hj]
theorem qy{s:gC}{z X:List aM}{k:Nat}{x:aM}(h:dq s z s)(hx:z[k]?=some x)(hX:dq x.o X x.o):dq s (z.take (k+1)++X++z.drop (k+1)) s:=by
 have hz:z=z.take (k+1)++z.drop (k+1):=(aa2 ..).symm;rw[hz] at h;obtain⟨m,h1,h2⟩:=fL.1 h;have hm:m=x.o:=by
  have hk:=(aac.1 hx).1;have hl:(z.take (k+1))[(z.take (k+1)).length-1]?=some x:=by rw[aay,ab0 (by omega),aa3,if_pos (by omega),adO];exact hx
  exact(u5 h1 hl).symm
 subst hm;exact fL.2 ⟨_,fL.2 ⟨_,h1,hX⟩,h2⟩
def mj(f:Nat->Nat->Nat)(b c v G j:Nat):Nat:=if G=b then (if j<=c then f b j else if j=c+1 then v else f b (j-2)) else f G j
theorem xw{f:Nat->Nat->Nat}{b c j:Nat}(h:j<=c):mj f b c v b j=f b j:=by unfold mj;rw[if_pos rfl,if_pos h]
theorem FQ{f:Nat->Nat->Nat}{b c:Nat}:mj f b c v b (c+1)=v:=by unfold mj;rw[if_pos rfl,if_neg (by omega),if_pos rfl]
theorem xx{f:Nat->Nat->Nat}{b c j:Nat}(h:c+2<=j):mj f b c v b j=f b (j-2):=by unfold mj;rw[if_pos rfl,if_neg (by omega),if_neg (by omega)]
theorem xt{f:Nat->Nat->Nat}{b c G j:Nat}(h:G≠b):mj f b c v G j=f G j:=by unfold mj;rw[if_neg h]
theorem Dw{f:Nat->Nat->Nat}{b c G:Nat}:mj f b c v G 0=f G 0:=by
 by_cases h:G=b
 .subst h;exact xw (aae _)
 exact xt h
theorem Ad(g:cD F ls){a b c:Nat}(ha:a<ls.length)(hb:b<=F)(hc:c<=cg ls b)(side:Bool)(ZC:(if side then yM ls (2*a+1) else yM ls (2*a))=if dn ls (a+1) then TF ls b c else BF ls b c):
  Cert F (bN (aX (pieces ls) b c 2) [oF b (if dn ls (a+1)!=side then ((c+2:Nat):Int) else ((c+1:Nat):Int)) (dn ls (a+1)),oF b (if dn ls (a+1)!=side then ((c+1:Nat):Int) else ((c+2:Nat):Int)) (!dn ls (a+1))] a):=by
 have cz:=g.cz;have ZK:=dy ls;have hzl:=kn ls;obtain⟨s,hp⟩:=cz.path;generalize hA:dn ls (a+1)=A at ZC ⊢
 let m:=tK ls a
 have hmb:m.b= !A:=by show(!dn ls (a+1))=_;rw[hA]
 have hml:m.l=yM ls (2*a):=rfl;have hmr:m.r=yM ls (2*a+1):=rfl
 -- the names, and the two passes
 obtain⟨k,tn,bn,r1,r2,hk,hr,Y0,hr2,aod,aoc,aex⟩:∃(k:gC) (tn bn r1 r2:Nat),k.b=A/\((r1=c+1/\r2=c+2)\/(r1=c+2/\r2=c+1))/\((if A !=side then ((c+2:Nat):Int) else ((c+1:Nat):Int))=(r1:Int))/\((if A !=side then ((c+1:Nat):Int) else ((c+2:Nat):Int))=(r2:Int))/\
   QY (mj (TF ls) b c tn) (mj (BF ls) b c bn) ⟨oF b r1 A,m,k⟩/\QY (mj (TF ls) b c tn) (mj (BF ls) b c bn) ⟨oF b r2 (!A),k,m⟩/\(k.l=bb ls\/k.r=bb ls):=by
  have lo:∀(f:Nat->Nat->Nat) v,mj f b c v b (c+1-1)=f b c:=fun f v=>xw (by omega);have md:∀(f:Nat->Nat->Nat) v,mj f b c v b (c+1)=v:=fun f v=>FQ;have md2:∀(f:Nat->Nat->Nat) v,mj f b c v b (c+2-1)=v:=fun f v=>FQ;have hi:∀(f:Nat->Nat->Nat) v,mj f b c v b (c+2)=f b c:=fun f v=>by rw[xx (by omega)];rfl
  have plmk:∀(T B:Nat->Nat->Nat) (r:Nat) (d:Bool) (i o:gC),(if d then i else mZ o).r=T b (r-1)->(if d then i else mZ o).l=T b r->(if d then o else mZ i).r=B b (r-1)->(if d then o else mZ i).l=B b r->QY T B ⟨oF b r d,i,o⟩:=fun T B r d i o h1 h2 h3 h4=>⟨h1,h2,h3,h4⟩;cases A<;>cases side<;>simp only[aaq,if_false,if_true] at ZC
  .rw[<- hml] at ZC;refine⟨⟨TF ls b c,bb ls,false⟩,bb ls,m.r,c+1,c+2,rfl,.inl ⟨rfl,rfl⟩,rfl,rfl,plmk _ _ _ _ _ _ ?_ ?_ ?_ ?_,plmk _ _ _ _ _ _ ?_ ?_ ?_ ?_,.inr rfl⟩
   .rw[lo];rfl
   .rw[md];rfl
   .rw[lo];exact ZC
   .rw[md];rfl
   .rw[md2];rfl
   .rw[hi];rfl
   .rw[md2];rfl
   rw[hi];exact ZC
  .rw[<- hmr] at ZC;refine⟨⟨bb ls,TF ls b c,false⟩,bb ls,m.l,c+2,c+1,rfl,.inr ⟨rfl,rfl⟩,rfl,rfl,plmk _ _ _ _ _ _ ?_ ?_ ?_ ?_,plmk _ _ _ _ _ _ ?_ ?_ ?_ ?_,.inl rfl⟩
   .rw[md2];rfl
   .rw[hi];rfl
   .rw[md2];rfl
   .rw[hi];exact ZC
   .rw[lo];rfl
   .rw[md];rfl
   .rw[lo];exact ZC
   rw[md];rfl
  .rw[<- hml] at ZC;refine⟨⟨BF ls b c,bb ls,true⟩,m.r,bb ls,c+2,c+1,rfl,.inr ⟨rfl,rfl⟩,rfl,rfl,plmk _ _ _ _ _ _ ?_ ?_ ?_ ?_,plmk _ _ _ _ _ _ ?_ ?_ ?_ ?_,.inr rfl⟩
   .rw[md2];rfl
   .rw[hi];exact ZC
   .rw[md2];rfl
   .rw[hi];rfl
   .rw[lo];exact ZC
   .rw[md];rfl
   .rw[lo];rfl
   rw[md];rfl
  rw[<- hmr] at ZC;refine⟨⟨bb ls,BF ls b c,true⟩,m.l,bb ls,c+1,c+2,rfl,.inl ⟨rfl,rfl⟩,rfl,rfl,plmk _ _ _ _ _ _ ?_ ?_ ?_ ?_,plmk _ _ _ _ _ _ ?_ ?_ ?_ ?_,.inl rfl⟩
  .rw[lo];exact ZC
  .rw[md];rfl
  .rw[lo];rfl
  .rw[md];rfl
  .rw[md2];rfl
  .rw[hi];exact ZC
  .rw[md2];rfl
  rw[hi];rfl
 rw[Y0,hr2]
 let x1:aM:=⟨oF b r1 A,m,k⟩
 let x2:aM:=⟨oF b r2 (!A),k,m⟩
 have px1:x1.k.aA=true:=rfl;have px2:x2.k.aA=true:=rfl;have adL:∀(r:Int) (d:Bool),cF F (oF b r d).l=false:=fun r d=>(cJ (l:=(oF b r d).l) rfl).2 ⟨⟨⟨⟨by show(0:Int)<=(b:Int);omega,by show(b:Int)<=(F:Int);omega⟩,rfl⟩,rfl⟩,rfl⟩
 let hL:=sP b c 2
 let r:=zF ls
 have mC:ao Let.aw (be (r.map (aM.mp id hL)))=ao Let.aw ls:=by rw[iR (fun l=>(eM _ _ _).aw l)];rw[ZK]
 have mP:ao Let.aA (be (r.map (aM.mp id hL)))=ao Let.aA ls:=by rw[iR (fun l=>(eM _ _ _).aA l)];rw[ZK]
 have mG:∀q,cg (be (r.map (aM.mp id hL))) q=cg ls q:=fun q=>by show ao _ _=ao _ _;rw[iR (fun l=>CQ _ _ _ q l)];rw[ZK]
 have nC:ao Let.aw (be ([x1,x2]++r.map (aM.mp id hL)))=ao Let.aw ls:=by rw[fh,aG,aG,fg,(M8 px1).1,(M8 px2).1,mC];omega
 have nP:ao Let.aA (be ([x1,x2]++r.map (aM.mp id hL)))=ao Let.aA ls+2:=by rw[fh,aG,aG,fg,(M8 px1).2,(M8 px2).2,mP];omega
 have nG:∀q,cg (be ([x1,x2]++r.map (aM.mp id hL))) q=cg ls q+if q=b then 2 else 0:=fun q=>by
  have e1:cg (be ([x1,x2]++r.map (aM.mp id hL))) q=(if q=b then 1 else 0)+((if q=b then 1 else 0)+0)+cg (be (r.map (aM.mp id hL))) q:=by show ao _ _=_+ao _ _;rw[fh,aG,aG,fg,DR (w:=x1) px1 rfl,DR (w:=x2) px2 rfl]
  rw[e1,mG];split<;>omega
 have hold:∀w∈r,w.k.aA=true->(0<=w.k.gate/\w.k.gate<=(F:Int))/\1<=w.k.Yb/\w.k.Yb<=(cg ls w.k.gate.toNat:Int):=fun w hw pw=>by have r1:=cz.rr w hw pw;rw[ZK] at r1;exact⟨((cJ pw).1 (cz.ok w hw).bad).1.1.1,r1⟩
 have rk':∀w:aM,w.k.aA=true->(hL w.k).Yb=if w.k.gate=(b:Int)/\(c:Int)<w.k.Yb then w.k.Yb+2 else w.k.Yb:=fun w pw=>tW pw;have key:∀(f:Nat->Nat->Nat) (v:Nat),∀w∈r,w.k.aA=true->f w.k.gate.toNat (w.k.Yb.toNat-1)=mj f b c v w.k.gate.toNat ((hL w.k).Yb.toNat-1)/\f w.k.gate.toNat w.k.Yb.toNat=mj f b c v w.k.gate.toNat (hL w.k).Yb.toNat:=by
  intro f v w hw pw;obtain⟨o1,o2,o3⟩:=hold w hw pw;rw[rk' w pw];by_cases cg':w.k.gate.toNat=b
  .rw[cg'];by_cases cr:(c:Int)<w.k.Yb
   .rw[if_pos ⟨by omega,cr⟩,xx (by omega),xx (by omega)];exact⟨by congr 1;omega,by congr 1;omega⟩
   rw[if_neg (by omega),xw (by omega),xw (by omega)];exact⟨rfl,rfl⟩
  rw[if_neg (by omega),xt cg',xt cg'];exact⟨rfl,rfl⟩
 have keyg:∀(f:Nat->Nat->Nat) (v q:Nat),mj f b c v q (cg ls q+if q=b then 2 else 0)=f q (cg ls q):=fun f v q=>by
  by_cases cq:q=b
  .subst cq;rw[if_pos rfl,xx (by omega)];rfl
  rw[if_neg cq,xt cq];rfl
 have qn:Cq F ([x1,x2]++r.map (aM.mp id hL)) (mj (TF ls) b c tn) (mj (BF ls) b c bn):=by
  refine Cq.edit (X:=[]) (r:=r) cz.q (eM _ _ _) (fun w hw=>CP (cz.ok w hw).bad) (fun u hu v hv cu cv e=>?_) (fun u hu v hv pu pv e1 e2=>?_) (fun w hw=>?_) ?_ ?_ (fun u hu w hw=>?_) (fun u hu w hw pu pw e1 e2=>?_) (by rw[nC];have:=cz.ev;rwa[ZK] at this) (fun w hw cw=>?_) (fun u hu cu=>?_) (fun w hw pw=>?_) (fun u hu pu=>?_) (fun w hw pw=>?_) (fun u hu pu=>?_) (fun q hq=>?_) ?_
  .rw[mL,mL] at e;exact e
  .have e1':u.k.gate=v.k.gate:=by rw[eN,eN] at e1;exact e1
   refine⟨e1',?_⟩;have e2:(hL u.k).Yb=(hL v.k).Yb:=e2;rw[rk' u pu,rk' v pv] at e2;split at e2<;>split at e2<;>omega
  .simp only[aag,aaC,or_false] at hw;rcases hw with rfl|rfl
   .exact⟨adL _ _,fun h=>(Bool.noConfusion h),fun _=>⟨hk,hmb⟩⟩
   exact⟨adL _ _,fun h=>(Bool.noConfusion h),fun _=>⟨hmb,by show k.b= !(!A);rw[hk];simp⟩⟩
  .exact abd.2 ⟨fun w _=>UY rfl,adQ ..⟩
  .refine abd.2 ⟨fun w hw=>?_,adQ ..⟩;rw[abm] at hw;subst hw;intro _ _ _ e;have e:(r1:Int)=(r2:Int):=e;rcases hr with ⟨h1,h2⟩|⟨h1,h2⟩<;>omega
  .simp only[aag,aaC,or_false] at hu;rcases hu with rfl|rfl<;>exact UY rfl
  .have pw:w.k.aA=true:=by rw[<- (eM b c 2).aA];exact pw
   have e1:u.k.gate=w.k.gate:=e1.trans (eN _ _ _ _);have e2:u.k.Yb=(hL w.k).Yb:=e2;rw[rk' w pw] at e2;have hu2:u.k.gate=(b:Int)/\(u.k.Yb=(c:Int)+1\/u.k.Yb=(c:Int)+2):=by
    simp only[aag,aaC,or_false] at hu;rcases hu with rfl|rfl
    .refine⟨rfl,?_⟩;show(r1:Int)=_\/(r1:Int)=_;rcases hr with ⟨h1,h2⟩|⟨h1,h2⟩<;>omega
    refine⟨rfl,?_⟩;show(r2:Int)=_\/(r2:Int)=_;rcases hr with ⟨h1,h2⟩|⟨h1,h2⟩<;>omega
   obtain⟨u1,u2⟩:=hu2;split at e2<;>omega
  .simp only[aag,aaC,or_false] at hw;rcases hw with rfl|rfl<;>cases cw
  .rw[nC,mL,<- ZK];exact cz.ids u hu cu
  .rw[nG];have:w.k.gate.toNat=b/\1<=w.k.Yb/\w.k.Yb<=(c:Int)+2:=by
    simp only[aag,aaC,or_false] at hw;rcases hw with rfl|rfl
    .refine⟨aba _,?_⟩;show 1<=(r1:Int)/\(r1:Int)<=_;rcases hr with ⟨h1,h2⟩|⟨h1,h2⟩<;>omega
    refine⟨aba _,?_⟩;show 1<=(r2:Int)/\(r2:Int)<=_;rcases hr with ⟨h1,h2⟩|⟨h1,h2⟩<;>omega
   obtain⟨w1,w2,w3⟩:=this;rw[w1,if_pos rfl];omega
  .rw[eN,nG];show 1<=(hL u.k).Yb/\(hL u.k).Yb<=_;obtain⟨o1,o2,o3⟩:=hold u hu pu;rw[rk' u pu];split
   .rename_i h;rw[if_pos (by omega)];omega
   split<;>omega
  .simp only[aag,aaC,or_false] at hw;rcases hw with rfl|rfl
   .exact aod
   exact aoc
  .rw[eN];obtain⟨t1,t2⟩:=key (TF ls) tn u hu pu;obtain⟨b1,b2⟩:=key (BF ls) bn u hu pu;exact⟨⟨t1,b1⟩,t2,b2⟩
  .rw[nG,keyg,keyg,Dw,Dw];have:=cz.gt q hq;rwa[ZK] at this
  rw[nG,keyg,keyg,Dw,Dw];have:=cz.gz;rwa[ZK] at this
 have hat:=qc (ls:=ls) ha;have ZJ:dq s (r.map (aM.mp id hL)) s:=oz (ψ:=id) hp;have aoY:(r.map (aM.mp id hL))[a]?=some ((gG ls a).mp id hL):=by rw[aaz,hat];rfl
 refine Cq.done (X:=[]) (L:=[]) (N:=[bb ls]) (V:=bb ls) (z':=(r.map (aM.mp id hL)).take (a+1)++[x1,x2]++(r.map (aM.mp id hL)).drop (a+1)) qn cz.nd (fun t ht=>cz.wit t ht) ?_ ⟨s,qy ZJ aoY ⟨rfl,rfl,rfl⟩⟩ ?_ ⟨x1,by simp,px1⟩ (fun _ _ _=>rfl) (fun w hw=>by cases hw) (abk.2 ⟨aaC,abr⟩) (fun t ht=>?_) (fun t ht=>?_) (by rw[acm];exact aad _) ?_
 .have h1:((r.map (aM.mp id hL)).take (a+1)++[x1,x2]++(r.map (aM.mp id hL)).drop (a+1)).Perm ([x1,x2]++(r.map (aM.mp id hL)).take (a+1)++(r.map (aM.mp id hL)).drop (a+1)):=List.Perm.append_right _ adU;rw[abx [x1,x2],aa2] at h1;exact h1
 .have h1:(r.map (aM.mp id hL)).map aM.p=aX (pieces ls) b c 2:=by
   show _=(pieces ls).map (sy b c 2);rw[<- tL,abq,abq];refine act fun w _=>?_;show _=sy b c 2 w.p;rw[EO];rfl
  rw[aaN,aaN,acy,ac2,h1];rfl
 .rw[abm] at ht;subst ht;simp
 .rw[abm] at ht;subst ht;exact⟨x1,by simp,aex.imp Eq.symm Eq.symm⟩
 rw[nC,nP];have:=g.nw;simp only[aaA,aas];omega
theorem XW(g:cD F ls){a b c:Nat}(ha:a<ls.length)(hb:b<=F)(hc:c<=cg ls b){L:List Pc}(h:Nb F ls a b c=some L):Cert F L:=by
 have a1:=GU (F:=F) g (d:=2*a) (by omega);have a2:=GU (F:=F) g (d:=2*a+1) (by omega);rw[show 2*a/2=a by omega] at a1;rw[show(2*a+1)/2=a by omega] at a2;unfold Nb at h;split at h
 .rename_i hm;cases h;have hl:=yJ (F:=F) g (d:=2*a) (by omega) hm;rw[show 2*a/2=a by omega] at hl;unfold qV;rw[a1];exact Ad g ha hb hc false hl
 split at h
 .rename_i hm;cases h;have hl:=yJ (F:=F) g (d:=2*a+1) (by omega) hm;rw[show(2*a+1)/2=a by omega] at hl;unfold qV;rw[a2];exact Ad g ha hb hc true hl
 cases h
end
section
variable {F:Nat} {ls:List Let}
theorem rI(g:cD F ls){d:Nat}(hd:d<2*ls.length):G0 F ls d=yM ls d:=by unfold G0;rw[aal,OZ g hd];rfl
theorem Ab(g:cD F ls){a b:Nat}(ha:a<ls.length)(hb:b<ls.length)(Zv:a≠b){l fb o:Bool}{sg:Int}(hsg:sg=1\/sg= -1)(ZF:(sg==1)=(o==fb))
  (ZC:(uo l (tK ls a)).l=(uo fb (tK ls b)).l) {A0 A1 B0 B1:Pc} (eA0:A0=vV (ao Let.aw ls/2) 1 sg o) (eA1:A1=vV (ao Let.aw ls/2) 2 (-sg) o)
  (eB:if l==fb then B0=vV (ao Let.aw ls/2) 2 (-sg) (!o)/\B1=vV (ao Let.aw ls/2) 1 sg (!o) else B0=vV (ao Let.aw ls/2) 1 sg (!o)/\B1=vV (ao Let.aw ls/2) 2 (-sg) (!o)):
  Cert F (if a<b then bN (bN (pieces ls) [B0,B1] b) [A0,A1] a else bN (bN (pieces ls) [A0,A1] a) [B0,B1] b):=by
 subst eA0 eA1;have cz:=g.cz;have ZK:=dy ls;have hzl:=kn ls;obtain⟨s,hp⟩:=cz.path
 let M:=tK ls a
 let H:=tK ls b
 let K:gC:=⟨(uo fb H).r,bb ls,M.b⟩
 let J:gC:=⟨(uo l M).r,bb ls,H.b⟩
 let a0:aM:=⟨vV (ao Let.aw ls/2) 1 sg o,M,uo l K⟩
 let a1:aM:=⟨vV (ao Let.aw ls/2) 2 (-sg) o,uo l K,M⟩
 let b0:aM:=⟨B0,H,uo fb J⟩
 let b1:aM:=⟨B1,uo fb J,H⟩
 have uob:∀(f:Bool) (s:gC),(uo f s).b=s.b:=fun f s=>by cases f<;>rfl
 have hB:(B0.l.kind=2/\B0.l.gate=0/\B0.l.Yb=0/\(B0.l.sign=sg\/B0.l.sign= -sg))/\(B1.l.kind=2/\B1.l.gate=0/\B1.l.Yb=0/\(B1.l.sign=sg\/B1.l.sign= -sg)):=by
  split at eB<;>obtain⟨rfl,rfl⟩:=eB
  .exact⟨⟨rfl,rfl,rfl,.inr rfl⟩,rfl,rfl,rfl,.inl rfl⟩
  exact⟨⟨rfl,rfl,rfl,.inl rfl⟩,rfl,rfl,rfl,.inr rfl⟩
 have cA0:a0.k.aw=true:=rfl;have cA1:a1.k.aw=true:=rfl;have cB0:b0.k.aw=true:=by show(B0.l.kind==2)=true;rw[hB.1.1];rfl
 have cB1:b1.k.aw=true:=by show(B1.l.kind==2)=true;rw[hB.2.1];rfl
 have badC:∀l:Let,l.kind=2->l.gate=0->l.Yb=0->(l.sign=sg\/l.sign= -sg)->cF F l=false:=fun l h1 h2 h3 h4=>by
  have hc:l.aw=true:=by unfold Let.aw;rw[h1];rfl
  refine(qC hc).2 ⟨⟨h2,h3⟩,?_⟩;have:l.sign=1\/l.sign= -1:=by rcases h4 with h|h<;>rcases hsg with k|k<;>omega
  rcases this with h|h<;>rw[h]<;>decide
 -- the yO: a0 goes with the one of number 1, a1 with the one of number 2
 have yO:∃u v:aM,((u=b0/\v=b1)\/(u=b1/\v=b0))/\u.k.id=a0.k.id/\v.k.id=a1.k.id/\Xc a0 u/\Xc a1 v:=by
  have gA0:gX a0.k=(o==(o==fb)):=by show(o==(sg==1))=_;rw[ZF]
  have gA1:gX a1.k=(o== !(o==fb)):=by
   show(o==(-sg==1))=_;have:(-sg==1)= !(sg==1):=by rcases hsg with rfl|rfl<;>rfl
   rw[this,ZF]
  cases l<;>cases fb
  all_goals
   simp only[beq_self_eq_true,if_true,aaq,if_false,show(false==true)=false from rfl,show(true==false)=false from rfl] at eB;obtain⟨rfl,rfl⟩:=eB
  .have hm:M.r=H.r:=ZC;refine⟨b1,b0,.inr ⟨rfl,rfl⟩,rfl,rfl,⟨by show o= !!o;simp,rfl,?_⟩,⟨by show o= !!o;simp,rfl,?_⟩⟩
   .rw[gA0,show(o==(o==false))=false by cases o<;>rfl];constructor<;>first|rfl|exact hm|exact hm.symm
   rw[gA1,show(o== !(o==false))=true by cases o<;>rfl];constructor<;>first|rfl|exact hm|exact hm.symm
  .have hm:M.r=H.l:=ZC;refine⟨b0,b1,.inl ⟨rfl,rfl⟩,rfl,rfl,⟨by show o= !!o;simp,rfl,?_⟩,⟨by show o= !!o;simp,rfl,?_⟩⟩
   .rw[gA0,show(o==(o==true))=true by cases o<;>rfl];constructor<;>first|rfl|exact hm|exact hm.symm
   rw[gA1,show(o== !(o==true))=false by cases o<;>rfl];constructor<;>first|rfl|exact hm|exact hm.symm
  .have hm:M.l=H.r:=ZC;refine⟨b0,b1,.inl ⟨rfl,rfl⟩,rfl,rfl,⟨by show o= !!o;simp,rfl,?_⟩,⟨by show o= !!o;simp,rfl,?_⟩⟩
   .rw[gA0,show(o==(o==false))=false by cases o<;>rfl];constructor<;>first|rfl|exact hm|exact hm.symm
   rw[gA1,show(o== !(o==false))=true by cases o<;>rfl];constructor<;>first|rfl|exact hm|exact hm.symm
  have hm:M.l=H.l:=ZC;refine⟨b1,b0,.inr ⟨rfl,rfl⟩,rfl,rfl,⟨by show o= !!o;simp,rfl,?_⟩,⟨by show o= !!o;simp,rfl,?_⟩⟩
  .rw[gA0,show(o==(o==true))=true by cases o<;>rfl];constructor<;>first|rfl|exact hm|exact hm.symm
  rw[gA1,show(o== !(o==true))=false by cases o<;>rfl];constructor<;>first|rfl|exact hm|exact hm.symm
 obtain⟨u,v,huv,iu,iv,xu,xv⟩:=yO
 let r:=zF ls
 have N1:a0.k.id=((ao Let.aw ls/2+1:Nat):Int):=rfl;have N2:a1.k.id=((ao Let.aw ls/2+2:Nat):Int):=rfl;have four:∀w∈[a0,a1,b0,b1],w=a0\/w=a1\/w=u\/w=v:=fun w hw=>by
  simp only[aag,aaC,or_false] at hw;rcases huv with ⟨rfl,rfl⟩|⟨rfl,rfl⟩
  .exact hw
  rcases hw with h|h|h|h
  .exact .inl h
  .exact .inr (.inl h)
  .exact .inr (.inr (.inr h))
  exact .inr (.inr (.inl h))
 have cu:u.k.aw=true:=by rcases huv with ⟨rfl,_⟩|⟨rfl,_⟩<;>assumption
 have cv:v.k.aw=true:=by rcases huv with ⟨_,rfl⟩|⟨_,rfl⟩<;>assumption
 have c4:∀w∈[a0,a1,b0,b1],w.k.aw=true/\(w.k.id=((ao Let.aw ls/2+1:Nat):Int)\/w.k.id=((ao Let.aw ls/2+2:Nat):Int)):=fun w hw=>by
  rcases four w hw with rfl|rfl|rfl|rfl
  .exact⟨cA0,.inl N1⟩
  .exact⟨cA1,.inr N2⟩
  .exact⟨cu,.inl (iu.trans N1)⟩
  exact⟨cv,.inr (iv.trans N2)⟩
 have xr4:Xr a0 a1/\Xr a0 u/\Xr a0 v/\Xr a1 u/\Xr a1 v/\Xr u v:=by
  have no:∀ {x y:aM},x.k.id≠y.k.id->Xr x y:=fun h _ _ e=>absurd e h;have n12:a0.k.id≠a1.k.id:=by rw[N1,N2];omega
  exact⟨no n12,fun _ _ _=>xu,no (by rw[iv];exact n12),no (by rw[iu];exact n12.symm),fun _ _ _=>xv,no (by rw[iu,iv];exact n12)⟩
 obtain⟨w1,w2,w3,w4,w5,w6⟩:=xr4;have pw:[a0,a1,b0,b1].Pairwise Xr:=by
  simp only[abd,aag,aaC,or_false,forall_eq_or_imp,forall_eq,List.Pairwise.nil,and_true,false_imp_iff,implies_true];rcases huv with ⟨rfl,rfl⟩|⟨rfl,rfl⟩
  .exact⟨⟨w1,w2,w3⟩,⟨w4,w5⟩,w6⟩
  exact⟨⟨w1,w3,w2⟩,⟨w5,w4⟩,w6.symm⟩
 have mX:∀w∈[a0,a1,b0,b1],LW F w:=fun w hw=>by
  have mk:∀x:aM,x.k.aw=true->cF F x.k=false->x.i.b=x.o.b->LW F x:=fun x h1 h2 h3=>⟨h2,fun _=>h3,fun hp=>by rw[cA h1] at hp;cases hp⟩;simp only[aag,aaC,or_false] at hw;rcases hw with rfl|rfl|rfl|rfl
  .exact mk _ cA0 (badC _ rfl rfl rfl (.inl rfl)) (uob l K).symm
  .exact mk _ cA1 (badC _ rfl rfl rfl (.inr rfl)) (uob l K)
  .exact mk _ cB0 (badC _ hB.1.1 hB.1.2.1 hB.1.2.2.1 hB.1.2.2.2) (uob fb J).symm
  exact mk _ cB1 (badC _ hB.2.1 hB.2.2.1 hB.2.2.2.1 hB.2.2.2.2) (uob fb J)
 have acf:∀w∈r,w.k.aw=true->1<=w.k.id/\w.k.id<=((ao Let.aw ls/2:Nat):Int):=fun w hw hc=>by have:=cz.ids w hw hc;rwa[ZK] at this
 have nC:ao Let.aw (be ([a0,a1,b0,b1]++r.map (aM.mp id id)))=ao Let.aw ls+4:=by rw[fZ,fh,aG,aG,aG,aG,fg,ZK,(xz cA0).1,(xz cA1).1,(xz cB0).1,(xz cB1).1];omega
 have nP:ao Let.aA (be ([a0,a1,b0,b1]++r.map (aM.mp id id)))=ao Let.aA ls:=by rw[fZ,fh,aG,aG,aG,aG,fg,ZK,(xz cA0).2,(xz cA1).2,(xz cB0).2,(xz cB1).2];omega
 have nG:∀q,cg (be ([a0,a1,b0,b1]++r.map (aM.mp id id))) q=cg ls q:=fun q=>by show ao _ _=ao _ _;rw[fZ,fh,aG,aG,aG,aG,fg,ZK,pM q cA0,pM q cA1,pM q cB0,pM q cB1];simp
 have ev:=cz.ev;rw[ZK] at ev;have qn:Cq F ([a0,a1,b0,b1]++r.map (aM.mp id id)) (TF ls) (BF ls):=by
  refine Cq.edit (X:=[]) (r:=r) cz.q pO.id (fun w hw=>(cz.ok w hw).bad) (fun _ _ _ _ _ _ e=>e) (fun _ _ _ _ _ _ e f=>⟨e,f⟩) mX pw ?_ (fun x hx w hw h1 h2 e=>?_) (fun x hx w hw=>IG (c4 x hx).1) (by rw[nC];omega) (fun w hw hc=>?_) (fun w hw hc=>?_) (fun w hw hp=>?_) (fun w hw hp=>?_) (fun w hw hp=>?_) (fun w hw hp=>⟨⟨rfl,rfl⟩,rfl,rfl⟩) (fun q hq=>?_) ?_
  .refine abd.2 ⟨fun _ _=>IG cA0,abd.2 ⟨fun _ _=>IG cA1,abd.2 ⟨fun _ _=>IG cB0,adQ ..⟩⟩⟩
  .exfalso;have h3:=acf w hw h2;have e:x.k.id=w.k.id:=e;rcases(c4 x hx).2 with h|h<;>omega
  .rw[nC];rcases(c4 w hw).2 with h|h<;>omega
  .rw[nC];have:=acf w hw hc;simp only[id];omega
  .rw[cA (c4 w hw).1] at hp;cases hp
  .rw[nG];have:=cz.rr w hw hp;rwa[ZK] at this
  .rw[cA (c4 w hw).1] at hp;cases hp
  .have:=cz.gt q hq;rw[ZK] at this;rw[nG];exact this
  have:=cz.gz;rw[ZK] at this;rw[nG];exact this
 have alG:=qc (ls:=ls) ha;have alF:=qc (ls:=ls) hb;have pathA:dq M [a0,a1] M:=⟨rfl,rfl,rfl⟩;have pathB:dq H [b0,b1] H:=⟨rfl,rfl,rfl⟩;have insP:∀(z X:List aM) (k:Nat),(z.take (k+1)++X++z.drop (k+1)).Perm (X++z):=fun z X k=>by have h1:(z.take (k+1)++X++z.drop (k+1)).Perm (X++z.take (k+1)++z.drop (k+1)):=List.Perm.append_right _ adU;rw[abx X,aa2] at h1;exact h1
 have insM:∀(z X:List aM) (k:Nat),(z.take (k+1)++X++z.drop (k+1)).map aM.p=bN (z.map aM.p) (X.map aM.p) k:=fun z X k=>by rw[aaN,aaN,acy,ac2]
 have fin:∀z',z'.Perm ([a0,a1,b0,b1]++r)->dq s z' s->Cert F (z'.map aM.p):=fun z' h1 h2=>by
  refine Cq.done (X:=[]) (L:=[]) (N:=[bb ls]) (V:=bb ls) (z':=z') qn cz.nd (fun t ht=>cz.wit t ht) (by rw[fZ];exact h1) ⟨s,h2⟩ rfl ?_ (fun _ _ _=>rfl) (fun w hw=>by cases hw) (abk.2 ⟨aaC,abr⟩) (fun t ht=>?_) (fun t ht=>?_) (by rw[acm];exact aad _) ?_
  .obtain⟨w,hw,e⟩:=cz.one;rw[fZ];exact⟨w,acJ _ hw,e⟩
  .rw[abm] at ht;subst ht;simp
  .rw[abm] at ht;subst ht;refine⟨a0,by simp,?_⟩;show bb ls=(uo l K).l\/bb ls=(uo l K).r;cases l
   .exact .inl rfl
   exact .inr rfl
  rw[nC,nP];have:=g.nw;simp only[aaA,aas];omega
 split
 .rename_i Ye
  let z1:=r.take (b+1)++[b0,b1]++r.drop (b+1)
  have p1:dq s z1 s:=qy hp alF pathB;have at1:z1[a]?=some (gG ls a):=by show(r.take (b+1)++[b0,b1]++r.drop (b+1))[a]?=_;rw[abx,acw (by rw[aay,kn];omega),aa3,if_pos (by omega)];exact alG
  have p2:dq s (z1.take (a+1)++[a0,a1]++z1.drop (a+1)) s:=qy p1 at1 pathA;have:=fin _ ((insP z1 [a0,a1] a).trans (by show([a0,a1]++z1).Perm ([a0,a1]++([b0,b1]++r));exact List.Perm.append_left _ (insP r [b0,b1] b))) p2
  rw[insM,insM,tL] at this;exact this
 rename_i Ye
 let z1:=r.take (a+1)++[a0,a1]++r.drop (a+1)
 have p1:dq s z1 s:=qy hp alG pathA;have at1:z1[b]?=some (gG ls b):=by show(r.take (a+1)++[a0,a1]++r.drop (a+1))[b]?=_;rw[abx,acw (by rw[aay,kn];omega),aa3,if_pos (by omega)];exact alF
 have p2:dq s (z1.take (b+1)++[b0,b1]++z1.drop (b+1)) s:=qy p1 at1 pathB;have:=fin _ ((insP z1 [b0,b1] b).trans (by have h1:([b0,b1]++z1).Perm ([b0,b1]++([a0,a1]++r)):=List.Perm.append_left _ (insP r [a0,a1] a);refine h1.trans ?_;rw[<- abx];exact(List.Perm.append_right r (adU (l₁:=[b0,b1]) (l₂:=[a0,a1]))))) p2
 rw[insM,insM,tL] at this;exact this
theorem XR(g:cD F ls){a b:Nat}(ha:a<ls.length)(hb:b<ls.length)(Zv:a≠b){l o:Bool}{L:List Pc}(h:Vm F ls a b l o=some L):Cert F L:=by
 have lab:∀(f:Bool) e,(uo f (tK ls e)).l=yM ls (if f then 2*e else 2*e+1):=fun f e=>by cases f<;>rfl
 have key:∀same other:Bool,(same=true->(uo l (tK ls a)).l=(uo l (tK ls b)).l)->(other=true->(uo l (tK ls a)).l=(uo (!l) (tK ls b)).l)->nW ls a b l o same other=some L->Cert F L:=by
  intro same other h1 h2 h3;unfold nW at h3;split at h3
  .cases h3
  rename_i hso;cases h3;cases hs:same
  .have ho:other=true:=by
    rw[hs] at hso;revert hso;cases other<;>simp
   have e:(false==l)= !l:=by cases l<;>rfl
   have:=Ab g ha hb Zv (l:=l) (fb:= !l) (o:=o) (sg:=if o==(!l) then 1 else -1) (by split<;>simp) (by split<;>simp_all) (h2 ho) (A0:=vV (ao Let.aw ls/2) 1 (if o==(!l) then 1 else -1) o) (A1:=vV (ao Let.aw ls/2) 2 (-(if o==(!l) then 1 else -1)) o) (B0:=vV (ao Let.aw ls/2) 1 (if o==(!l) then 1 else -1) (!o)) (B1:=vV (ao Let.aw ls/2) 2 (-(if o==(!l) then 1 else -1)) (!o)) rfl rfl (by
    have:(l== !l)=false:=by cases l<;>rfl
    rw[this];exact⟨rfl,rfl⟩)
   simp only[e];exact this
  have e:(true==l)=l:=by cases l<;>rfl
  have:=Ab g ha hb Zv (l:=l) (fb:=l) (o:=o) (sg:=if o==l then 1 else -1) (by split<;>simp) (by split<;>simp_all) (h1 hs) (A0:=vV (ao Let.aw ls/2) 1 (if o==l then 1 else -1) o) (A1:=vV (ao Let.aw ls/2) 2 (-(if o==l then 1 else -1)) o) (B0:=vV (ao Let.aw ls/2) 2 (-(if o==l then 1 else -1)) (!o)) (B1:=vV (ao Let.aw ls/2) 1 (if o==l then 1 else -1) (!o)) rfl rfl (by rw[beq_self_eq_true];exact⟨rfl,rfl⟩)
  simp only[e];exact this
 have eqi:∀x y:Nat,((x:Int)==(y:Int))=true->x=y:=fun x y h=>by have:=eq_of_beq h;omega
 unfold Vm at h;cases l
 .rw[if_neg (by decide),rI g (by omega),rI g (by omega),rI g (by omega)] at h;refine key _ _ (fun h1=>?_) (fun h2=>?_) h
  .rw[lab,lab];exact(eqi _ _ h1).symm
  rw[lab,lab];exact(eqi _ _ h2).symm
 rw[if_pos rfl,rI g (by omega),rI g (by omega),rI g (by omega)] at h;refine key _ _ (fun h1=>?_) (fun h2=>?_) h
 .rw[lab,lab];exact(eqi _ _ h1).symm
 rw[lab,lab];exact(eqi _ _ h2).symm
end
def BR(q:Pc->Bool):Prop:=∀p p':Pc,p.l.kind=p'.l.kind->q p=q p'
theorem vg{q:Pc->Bool}(l:List Pc)(drop:Nat->Pc->Bool):(iY l drop).countP q<=l.countP q:=by
 have key:∀k,k<=l.length->(lR l drop k).countP q<=(l.take k).countP q:=by
  intro k
  induction k with
  |zero=>intro _;exact aad _
  |succ k ih=>
   intro hk;obtain⟨p,hp⟩:=ai (ls:=l) (k:=k) (by omega);have:=ih (by omega);rw[abn,hp,abF];cases hd:drop k p
   .rw[lQ hp hd,abF];exact Nat.add_le_add_right this _
   rw[gO hp hd];omega
 have:=key l.length (aad _);rwa[aaV] at this
theorem rD{q:Pc->Bool}(hq:BR q){f:Pc->Pc}(hf:∀p,(f p).l.kind=p.l.kind)(l:List Pc):(l.map f).countP q=l.countP q:=by rw[adh];exact adM fun p _=>by rw[Function.comp_apply,hq _ _ (hf p)]
theorem tV(g ab b:Int)(p:Pc):(sy g ab b p).l.kind=p.l.kind:=by unfold sy;split<;>rfl
theorem BK(ids:List Int)(p:Pc):(pS ids p).l.kind=p.l.kind:=by unfold pS;split<;>rfl
theorem lh{q:Pc->Bool}(l x:List Pc)(k:Nat):(bN l x k).countP q=l.countP q+x.countP q:=by show(l.take (k+1)++x++l.drop (k+1)).countP q=_;rw[abF,abF,Nat.add_right_comm,<- abF,aa2]
section
variable {F:Nat} {ls:List Let}
theorem Jo(g:cD F ls){q:Pc->Bool}:∀(es:List Nat) (l:List Pc),l.length=ls.length->(∀e∈es,e<ls.length)->(pZ ls l es).countP q=l.countP q:=by
 intro es
 induction es with
 |nil=>intro l _ _;rfl
 |cons e es ih=>intro l hl he;show(pZ ls (nV ls l e) es).countP q=_;rw[ih _ (by rw[n0,hl]) fun e h=>he e (by simp[h]),rg hl (he e (by simp)) (HP g (he e (by simp)))]
theorem yr{q:Pc->Bool}(hq:BR q)(l:List Pc)(i:Nat)(r:Int):(eU l i r).countP q=l.countP q:=by
 by_cases h:i<l.length
 .obtain⟨p,hp⟩:=ai h;exact uT hp fun p=>hq _ _ rfl
 unfold eU;rw[List.set_eq_of_length_le (by omega)]
theorem yu{q:Pc->Bool}(hq:BR q)(l:List Pc)(i:Nat)(g r:Int):(lG l i g r).countP q=l.countP q:=by
 by_cases h:i<l.length
 .obtain⟨p,hp⟩:=ai h;unfold lG;rw[aal,hp,aaS];have:=xG (p:=q) (y:={p with l:={p.l with gate:=g,Yb:=r}}) hp;rw[hq {p with l:={p.l with gate:=g,Yb:=r}} p rfl] at this;show List.countP q (l.set i {p with l:={p.l with gate:=g,Yb:=r}})=_;omega
 unfold lG;rw[List.set_eq_of_length_le (by omega)]
def Fm:Pc:=⟨⟨1,0,0,0,0,false⟩,false⟩
def mh:Pc:=⟨⟨2,0,0,0,0,false⟩,false⟩
def GT(q:Pc->Bool)(k:Int):Nat:=if k=2 then [Fm,Fm].countP q else if k=5 then [mh,mh].countP q else if k=7 then [mh,mh,mh,mh].countP q else 0
theorem BJ(g:cD F ls){q:Pc->Bool}(hq:BR q){k:Int}{a b c:Nat}{l o:Bool}{sg:Int}(ha:a<ls.length)(hb:b<ls.length\/(k≠3/\k≠8))(hc:c<ls.length\/k≠8){L:List Pc}(h:iG F ls k a b c l o sg=some L):L.countP q<=(pieces ls).countP q+GT q k:=by
 have Yu:=aB ls;have two:∀x y:Pc,x.l.kind=1->y.l.kind=1->[x,y].countP q=[Fm,Fm].countP q:=fun x y h1 h2=>by simp only[abM,List.countP_nil];rw[hq x Fm h1,hq y Fm h2]
 have twoC:∀x y:Pc,x.l.kind=2->y.l.kind=2->[x,y].countP q=[mh,mh].countP q:=fun x y h1 h2=>by simp only[abM,List.countP_nil];rw[hq x mh h1,hq y mh h2]
 unfold iG at h;split at h
 .unfold Wh at h;simp only at h;split at h
  .cases h;show(List.map _ _).countP q<=_;rw[rD hq (tV _ _ _)];have:=vg (q:=q) (pieces ls) (fun k _=>decide (k=a)||decide (k=(a+1)%ls.length));omega
  cases h
 split at h
 .rename_i hk;subst hk;have e:GT q 2=[Fm,Fm].countP q:=rfl;have am:∀f side,(qV ls a b c f side).countP q=(pieces ls).countP q+GT q 2:=fun f side=>by
   unfold qV;rw[lh,e];show(List.map _ _).countP q+_=_;rw[rD hq (tV _ _ _),two _ _ rfl rfl]
  unfold Nb at h;split at h
  .cases h;exact ac7 (am _ _)
  split at h
  .cases h;exact ac7 (am _ _)
  cases h
 split at h
 .rename_i hk;subst hk;unfold Wb at h;split at h
  .cases h;rw[Jo g _ _ (by rw[iV,iV,Yu]) (by
    intro e he;simp only[aag,aaC,or_false] at he;rcases he with rfl|rfl
    .exact ha
    rcases hb with hb|hb
    .exact hb
    exact absurd rfl hb.1),yr hq,yr hq]
   omega
  cases h
 split at h
 .unfold VD at h;simp only at h;split at h
  .cases h;show(List.map _ _).countP q<=_;rw[rD hq (BK _)];have:=vg (q:=q) (pieces ls) (lY [((pieces ls).getD a ⟨fG,false⟩).l.id]);omega
  cases h
 split at h
 .rename_i hk;subst hk;cases h;unfold Wy;rw[lh,twoC _ _ rfl rfl];exact aad _
 split at h
 .unfold Vt at h;split at h
  .cases h;show(List.map _ _).countP q<=_;rw[rD hq (BK _)];have:=vg (q:=q) (pieces ls) (lY [(pA ls a).l.id,(pA ls (nx ls a)).l.id]);omega
  cases h
 split at h
 .rename_i hk;subst hk;have e:GT q 7=[mh,mh].countP q+[mh,mh].countP q:=by
   show [mh,mh,mh,mh].countP q=_;rw[<- abF];rfl
  have key:∀s t,nW ls a b l o s t=some L->L.countP q<=(pieces ls).countP q+GT q 7:=fun s t h=>by
   unfold nW at h;split at h
   .cases h
   simp only[aau] at h;subst h;have h2:∀x sg o s,(AU x sg o s).countP q=[mh,mh].countP q:=fun x sg o s=>by unfold AU;split<;>exact twoC _ _ rfl rfl
   have h3:∀x sg o,(Eh x sg o).countP q=[mh,mh].countP q:=fun x sg o=>twoC _ _ rfl rfl;split
   .rw[lh,lh,h2,h3,e];omega
   rw[lh,lh,h2,h3,e];omega
  unfold Vm at h;split at h
  .exact key _ _ h
  exact key _ _ h
 split at h
 .rename_i hk;subst hk;unfold Rj at h;split at h
  .cases h;rw[Jo g _ _ Yu (by
    intro e he;simp only[aag,aaC,or_false] at he;rcases he with rfl|rfl|rfl
    .exact ha
    .rcases hb with hb|hb
     .exact hb
     exact absurd rfl hb.2
    rcases hc with hc|hc
    .exact hc
    exact absurd rfl hc)]
   omega
  cases h
 split at h
 .unfold U5 at h;split at h
  .cases h;rw[yu hq];show(List.map _ _).countP q<=_;rw[rD hq (tV _ _ _)];omega
  cases h
 unfold U7 at h;split at h
 .cases h;rw[yu hq];show(List.map _ _).countP q<=_;rw[rD hq (tV _ _ _)];omega
 cases h
theorem MW(g:cD F ls)(k a b c:Int)(l o:Bool)(sg:Int):(∃e,e≠0/\Ak F ls k a b c l o sg=ji e)\/ ∃M,Ak F ls k a b c l o sg=sR F M/\aO F M=0/\aV F ls k a b c l o sg=true/\ ∃L,iG F ls k a.toNat b.toNat c.toNat l o sg=some L/\M=mT L:=by
 unfold Ak;cases hA:aV F ls k a b c l o sg
 .exact .inl ⟨2,by decide,rfl⟩
 rw[if_pos rfl];cases hm:iG F ls k a.toNat b.toNat c.toNat l o sg with
 |none=>exact .inl ⟨4,by decide,rfl⟩
 |some L=>
  unfold IL;by_cases hgr:(400:Int)<(ls.length:Int)+(ce k).1\/(100:Int)<((ao Let.aw ls/2:Nat):Int)+(ce k).2
  .exact .inl ⟨7,by decide,if_pos hgr⟩
  refine .inr ⟨mT L,if_neg hgr,?_,rfl,L,rfl,rfl⟩;have hlen:=g.len;have YV:=g.cr;have hF:=g.fing;have ne:=g.ne;have hnl:¬ls.length=0:=by have:=aaQ.2 ne;omega
  have YU:ao Let.aw ls%2=0:=by have:=g.cz.ev;rwa[dy] at this
  have Yu:=aB ls;have kT:BR (fun _=>true):=fun _ _ _=>rfl;have kC:BR (fun p=>p.l.aw):=fun p p' h=>by show(p.l.kind==2)=(p'.l.kind==2);rw[h]
  have pC:(pieces ls).countP (fun p=>p.l.aw)=ao Let.aw ls:=by rw[<- Df (ls:=ls) Let.aw];show _=List.countP _ (List.map _ _);rw[adh];rfl
  have lC:ao Let.aw (L.map Pc.l)=L.countP (fun p=>p.l.aw):=by show List.countP _ (List.map _ _)=_;rw[adh];rfl
  have tT:∀l:List Pc,l.countP (fun _=>true)=l.length:=fun l=>by simp
  have fin:L=[]\/Cert F L->(∀ {av bv cv:Nat},a=(av:Int)->b=(bv:Int)->c=(cv:Int)->av<ls.length->(bv<ls.length\/(k≠3/\k≠8))->(cv<ls.length\/k≠8)->aO F (mT L)=0):=by
   intro hc av bv cv e1 e2 e3 ha hb hcc;subst e1 e2 e3;simp only[aba] at hm;have c1:=BJ g kT ha hb hcc hm;have c2:=BJ g kC ha hb hcc hm;rw[tT,tT,Yu] at c1;rw[pC] at c2;have b1:GT (fun _=>true) k=(ce k).1.toNat/\0<=(ce k).1/\GT (fun p=>p.l.aw) k=2*(ce k).2.toNat/\0<=(ce k).2:=by
    unfold GT ce;split
    .exact⟨rfl,by decide,rfl,by decide⟩
    split
    .exact⟨rfl,by decide,rfl,by decide⟩
    split
    .exact⟨rfl,by decide,rfl,by decide⟩
    exact⟨rfl,by decide,rfl,by decide⟩
   obtain⟨b1,b2,b3,b4⟩:=b1;rw[b1] at c1;rw[b3] at c2;rcases hc with rfl|hc
   .unfold aO;have:mT []=[]:=rfl;rw[this];rw[if_neg (by simp[ao]),if_neg (by omega),if_pos rfl]
   exact hc.check (by omega) (by rw[lC];omega) hF
  unfold aV at hA;by_cases h1:k=1
  .subst h1;simp only[Int.reduceEq,if_true,if_false,or_false,or_self] at hA;simp only[aaf,aaR,beq_iff_eq] at hA;obtain⟨rfl,rfl,rfl,hx,rfl,rfl⟩:=hA;obtain⟨av,rfl,ha⟩:=cS hx;exact fin (XX g ha (by simpa [iG] using hm)) rfl (bv:=0) rfl (cv:=0) rfl ha (.inr ⟨by decide,by decide⟩) (.inr (by decide))
  by_cases h2:k=2
  .subst h2;simp only[Int.reduceEq,if_true,if_false,or_self] at hA;simp only[aaf,ab4,aaR,beq_iff_eq,decide_eq_true_eq] at hA;obtain⟨rfl,rfl,rfl,hx,Zq,hbF,hc0,hcc⟩:=hA;rcases hx with hx|⟨hx,_⟩
   rotate_left
   .exact absurd hx hnl
   obtain⟨av,rfl,ha⟩:=cS hx;obtain⟨bv,rfl⟩:=abs Zq;obtain⟨cv,rfl⟩:=abs hc0;rw[aba] at hcc;exact fin (.inr (XW g (a:=av) (b:=bv) (c:=cv) ha (by omega) (by omega) (by simpa [iG] using hm))) rfl rfl rfl ha (.inr ⟨by decide,by decide⟩) (.inr (by decide))
  by_cases h3:k=3
  .subst h3;simp only[Int.reduceEq,if_true,if_false,or_false,or_self] at hA;simp only[aaf,aaR,beq_iff_eq,decide_eq_true_eq] at hA;obtain⟨rfl,rfl,rfl,hx,rfl,hy,Ye⟩:=hA;obtain⟨av,rfl,ha⟩:=cS hx;obtain⟨bv,rfl,hb⟩:=cS hy;exact fin (.inr (XV g ha hb (by omega) (by simpa [iG] using hm))) rfl rfl (cv:=0) rfl ha (.inl hb) (.inr (by decide))
  by_cases h4:k=4
  .subst h4;simp only[Int.reduceEq,if_true,if_false,or_false,or_true,or_self] at hA;simp only[aaf,aaR,beq_iff_eq] at hA;obtain⟨rfl,rfl,rfl,hx,rfl,rfl⟩:=hA;obtain⟨av,rfl,ha⟩:=cS hx;exact fin (.inr (XU g ha (by simpa [iG] using hm))) rfl (bv:=0) rfl (cv:=0) rfl ha (.inr ⟨by decide,by decide⟩) (.inr (by decide))
  by_cases h5:k=5
  .subst h5;simp only[Int.reduceEq,if_true,if_false,or_self] at hA;simp only[aaf,ab4,aaR,beq_iff_eq] at hA;obtain⟨rfl,hs,hx,rfl,rfl⟩:=hA;obtain⟨av,rfl,ha⟩:=cS hx;have:L=Wy ls av sg o:=by
    simp[iG] at hm;exact hm.symm
   subst this;exact fin (.inr (XT g ha hs)) rfl (bv:=0) rfl (cv:=0) rfl ha (.inr ⟨by decide,by decide⟩) (.inr (by decide))
  by_cases h6:k=6
  .subst h6;simp only[Int.reduceEq,if_true,if_false,or_true,or_self] at hA;simp only[aaf,aaR,beq_iff_eq,decide_eq_true_eq] at hA;obtain⟨rfl,rfl,rfl,hx,rfl,hy,Ye⟩:=hA;obtain⟨av,rfl,ha⟩:=cS hx;obtain⟨bv,rfl,hb⟩:=cS hy;exact fin (.inr (XS g ha hb (by simpa [iG] using hm))) rfl rfl (cv:=0) rfl ha (.inr ⟨by decide,by decide⟩) (.inr (by decide))
  by_cases h7:k=7
  .subst h7;simp only[Int.reduceEq,if_true,if_false,or_self] at hA;simp only[aaf,aaR,beq_iff_eq,beq_eq_false_iff_ne] at hA;obtain⟨rfl,hx,rfl,hy,Yk⟩:=hA;obtain⟨av,rfl,ha⟩:=cS hx;obtain⟨bv,rfl,hb⟩:=cS hy;exact fin (.inr (XR g ha hb (by omega) (by simpa [iG] using hm))) rfl rfl (cv:=0) rfl ha (.inr ⟨by decide,by decide⟩) (.inr (by decide))
  by_cases h8:k=8
  .subst h8;simp only[Int.reduceEq,if_true,if_false,or_self] at hA;simp only[aaf,aaR,beq_iff_eq,decide_eq_true_eq] at hA;obtain⟨rfl,rfl,rfl,hx,hy,hz,_,_⟩:=hA;obtain⟨av,rfl,ha⟩:=cS hx;obtain⟨bv,rfl,hb⟩:=cS hy;obtain⟨cv,rfl,hc⟩:=cS hz;exact fin (.inr (XQ g ha hb hc (by simpa [iG] using hm))) rfl rfl rfl ha (.inl hb) (.inl hc)
  by_cases h9:k=9
  .subst h9;simp only[Int.reduceEq,if_true,if_false,or_false,or_true,or_self] at hA;simp only[aaf,aaR,beq_iff_eq] at hA;obtain⟨rfl,rfl,rfl,hx,rfl,rfl⟩:=hA;obtain⟨av,rfl,ha⟩:=cS hx;exact fin (.inr (XP g ha (by simpa [iG] using hm))) rfl (bv:=0) rfl (cv:=0) rfl ha (.inr ⟨by decide,by decide⟩) (.inr (by decide))
  by_cases YN:k=10
  .subst YN;simp only[Int.reduceEq,if_true,if_false,or_true,or_self] at hA;simp only[aaf,aaR,beq_iff_eq] at hA;obtain⟨rfl,rfl,rfl,hx,rfl,rfl⟩:=hA;obtain⟨av,rfl,ha⟩:=cS hx;exact fin (.inr (VZ g ha (by simpa [iG] using hm))) rfl (bv:=0) rfl (cv:=0) rfl ha (.inr ⟨by decide,by decide⟩) (.inr (by decide))
  simp[h1,h2,h3,h4,h5,h6,h7,h8,h9,YN] at hA
end
end
end Go.Abs
