/-
  The triangle keeps a code valid.
-/
import Derived.Test.YtkfngecllhhooaaGreatDoorUc
import Derived.Test.YtkfngecllhhooaaGreatDoorVb
set_option linter.all false
set_option maxHeartbeats 16000000
namespace Go.Abs
theorem X4.KF{g:Bool}{i o j q:iZ}(h:X4 g i o j q):X4 (!g) (pV o) (pV i) j q:=by obtain⟨a,b,c,d⟩:=h;cases g<;>simp only[aaE,if_false,if_true] at a b c d<;>constructor<;>simp[pV,a,b,c,d]
theorem X4.KE{g:Bool}{i o j q:iZ}(h:X4 g i o j q):X4 (!g) i o (pV q) (pV j):=by obtain⟨a,b,c,d⟩:=h;cases g<;>simp only[aaE,if_false,if_true] at a b c d<;>constructor<;>simp[pV,a,b,c,d]
def k9(f:Bool)(x:a8):iZ:=if f then x.i else pV x.o
def nU(f:Bool)(x:a8):iZ:=if f then x.o else pV x.i
theorem RP{f f':Bool}{x y:a8}:X4 true (k9 f x) (nU f x) (k9 f' y) (nU f' y)↔X4 (f==f') x.i x.o y.i y.o:=by
 cases f<;>cases f'<;>simp only[k9,nU,aaE,if_false,if_true]
 .exact⟨fun h=>h.KF.KE,fun h=>h.KF.KE⟩
 .exact⟨fun h=>h.KF,fun h=>h.KF⟩
 .exact⟨fun h=>h.KE,fun h=>h.KE⟩
 exact Iff.rfl
def oT (n d:Nat):Nat:=if d%2=0 then d/2 else (d/2+1)%n
def oH (n d:Nat):Nat:=if d%2=0 then (d/2+1)%n else d/2
def dh(d:Nat):Bool:=d%2==0
section
variable {F:Nat} {ls:List Let}
def dN(P:List Pc)(sd:Nat->iZ)(i:Nat):a8:=⟨P.getD i ⟨fm,false⟩,sd ((i+P.length-1)%P.length),sd i⟩
def zG (P:List Pc)(sd:Nat->iZ):List a8:=(List.range P.length).map (dN P sd)
theorem Yk(P:List Pc)(sd:Nat->iZ):(zG P sd).map a8.p=P:=by
 unfold zG;rw[ab3];apply adk;intro i;rw[aa0];by_cases hi:i<P.length
 .obtain⟨p,hp⟩:=ao hi;rw[abT hi,hp];show some (P.getD i _)=_;rw[aaC,hp];rfl
 rw[abS (by rw[ac3];omega),abS (by omega)];rfl
theorem Sv(P:List Pc)(sd:Nat->iZ)(h:0<P.length):∃s,eH s (zG P sd) s:=by
 refine⟨sd (P.length-1),?_⟩;have:=Fy (dN P sd) (fun i=>sd ((i+P.length-1)%P.length)) P.length 0 fun i _ hi=>⟨rfl,?_⟩
 .simp only[abd] at this;rw[aa7 (by omega),show P.length+P.length-1=(P.length-1)+P.length by omega,acn,aa7 (by omega),<- List.range_eq_range'] at this;exact this
 show sd i=sd ((i+1+P.length-1)%P.length);rw[show i+1+P.length-1=i+P.length by omega,acn,aa7 (by omega)]
theorem GP(g:cV F ls){P:List Pc}{sd:Nat->iZ}{T' B':Nat->Nat->Nat}{tau:Nat}(hl:P.length=ls.length)
  (hC:aA Let.aD (P.map Pc.l)=aA Let.aD ls) (hP:aA Let.aH (P.map Pc.l)=aA Let.aH ls) (hG:∀k,cg (P.map Pc.l) k=cg ls k)
  (ok:∀i,i<ls.length->Pe F (dN P sd i)) (cr:∀i j,i<ls.length->j<ls.length->i≠j->Xr (dN P sd i) (dN P sd j)) (rk:∀i j,i<ls.length->j<ls.length->i≠j->Dr (dN P sd i) (dN P sd j))
  (ids:∀i,i<ls.length->(dN P sd i).k.aD=true->1<=(dN P sd i).k.id/\(dN P sd i).k.id<=((aA Let.aD ls/2:Nat):Int))
  (rr:∀i,i<ls.length->(dN P sd i).k.aH=true->1<=(dN P sd i).k.aag/\(dN P sd i).k.aag<=(cg ls (dN P sd i).k.gate.toNat:Int))
  (pl:∀i,i<ls.length->(dN P sd i).k.aH=true->WR T' B' (dN P sd i))
  (gt:∀k,k<F->T' k (cg ls k)=T' (k+1) 0/\B' k (cg ls k)=B' (k+1) 0) (gz:T' F (cg ls F)=T' 0 0/\B' F (cg ls F)=B' 0 0)
  (wit:∀j,j<ls.length->∀t,(t=(Bk ls j).l\/t=(Bk ls j).r)->t=tau\/ ∃j',j'<ls.length/\(t=(sd j').l\/t=(sd j').r)):Cert F P:=by
 have hn:0<ls.length:=abh.2 g.ne;have hls:be (zG P sd)=P.map Pc.l:=by
  show(zG P sd).map (fun x=>x.p.l)=_;have:(zG P sd).map (fun x=>x.p.l)=((zG P sd).map a8.p).map Pc.l:=by rw[ab3];rfl
  rw[this,Yk]
 have mem:∀x∈zG P sd,∃i,i<ls.length/\x=dN P sd i:=fun x hx=>by obtain⟨i,hi,rfl⟩:=aaF.1 hx;exact⟨i,by have:=aaX.1 hi;omega,rfl⟩
 have inz:∀i,i<ls.length->dN P sd i∈zG P sd:=fun i hi=>aaF.2 ⟨i,aaX.2 (by omega),rfl⟩;have q:Cq F (zG P sd) T' B':=by
  refine⟨fun x hx=>?_,t7 fun i j hi hj hij=>cr i j (by omega) (by omega) hij,?_,fun x hx hc=>?_,t7 fun i j hi hj hij=>rk i j (by omega) (by omega) hij,fun x hx hp=>?_,fun x hx hp=>?_,fun k hk=>?_,?_⟩
  .obtain⟨i,hi,rfl⟩:=mem x hx;exact ok i hi
  .rw[hls,hC];have:=g.cz.ev;rwa[fq] at this
  .obtain⟨i,hi,rfl⟩:=mem x hx;rw[hls,hC];exact ids i hi hc
  .obtain⟨i,hi,rfl⟩:=mem x hx;rw[hls,hG];exact rr i hi hp
  .obtain⟨i,hi,rfl⟩:=mem x hx;exact pl i hi hp
  .rw[hls,hG];exact gt k hk
  rw[hls,hG];exact gz
 refine⟨zG P sd,T',B',(List.range (dU ls)).filter (fun s=> ![tau].contains s),Yk P sd,⟨Sv P sd (by omega),q.ok,q.cr,q.ev,q.ids,q.rk,q.rr,q.pl,q.gt,q.gz,?_,ac9.filter _,fun s hs=>?_,?_⟩⟩
 .have:0<aA Let.aH (P.map Pc.l):=by
   rw[hP];obtain⟨l,h1,h2⟩:=g.first;exact acJ.2 ⟨l,aae h1,h2⟩
  rw[<- hls] at this;obtain⟨l,h1,h2⟩:=acJ.1 this;obtain⟨x,hx,rfl⟩:=aaF.1 h1;exact⟨x,hx,h2⟩
 .obtain⟨h1,h2⟩:=ab4.1 hs;have h2:s≠tau:=by simpa using h2
  obtain⟨x,hx,e⟩:=g.cz.wit s h1;obtain⟨j,hj,rfl⟩:=aaF.1 hx;have hj:=aaX.1 hj;rcases wit j hj s e with h|⟨j',hj',h⟩
  .exact absurd h h2
  exact⟨dN P sd j',inz j' hj',h⟩
 rw[hls,hC,hP];have h1:=zw (L:=[tau]) (ac9 (n:=dU ls));have h2:=g.nw;rw[ac3] at h1;simp only[aaz,aaL] at h1;omega
theorem FC(g:cV F ls){d:Nat}(hd:d<2*ls.length):oT ls.length d<ls.length:=by
 unfold oT;split
 .omega
 exact aaN _ (abh.2 g.ne)
theorem BA(g:cV F ls){d:Nat}(hd:d<2*ls.length):oH ls.length d<ls.length:=by
 unfold oH;split
 .exact aaN _ (abh.2 g.ne)
 omega
theorem zN{d:Nat}(hd:d<2*ls.length):d=gJ ls.length (oH ls.length d) (dh d):=by have:=Er hd;unfold oH dh;exact this
theorem xw{n v:Nat}{f:Bool}(hv:v<n):oT n (aI n v f)=v/\dh (aI n v f)=f:=by
 unfold oT dh aI;cases f
 .simp only[aaE,if_false];have e1:(2*((v+n-1)%n)+1)%2=1:=by omega
  have e2:(2*((v+n-1)%n)+1)/2=(v+n-1)%n:=by omega
  rw[e1,e2,ft hv];exact⟨rfl,rfl⟩
 simp only[if_true];have e1:(2*v)%2=0:=by omega
 have e2:(2*v)/2=v:=by omega
 rw[e1,e2];exact⟨rfl,rfl⟩
def oK (ls:List Let)(d:Nat):iZ:=if d%2=0 then Bk ls (d/2) else pV (Bk ls (d/2))
theorem rY{d:Nat}(hd:d<2*ls.length):k9 (dh d) (hU ls (oH ls.length d))=oK ls d:=by
 unfold k9 dh oH oK hU;rcases acs d with h|h
 .simp only[h,beq_self_eq_true,if_true];rw[jX (by omega)]
 simp[h]
theorem nc{d:Nat}(hd:d<2*ls.length):nU (dh d) (hU ls (oT ls.length d))=oK ls d:=by
 unfold nU dh oT oK hU;rcases acs d with h|h
 .simp[h]
 simp only[h,show((1:Nat)==0)=false from rfl,aaE,if_false,Nat.one_ne_zero];rw[jX (by omega)]
theorem iW(g:cV F ls){d:Nat}(hd:d<2*ls.length){l:Let}(hl:ls[oH ls.length d]?=some l)(hc:l.aD=true):cq ls d<2*ls.length/\oT ls.length (cq ls d)=bN ls (oH ls.length d)/\gX l=(dh d==dh (cq ls d))/\
  X4 true (k9 (dh d) (hU ls (oH ls.length d))) (nU (dh d) (hU ls (oH ls.length d))) (k9 (dh (cq ls d)) (hU ls (oT ls.length (cq ls d)))) (nU (dh (cq ls d)) (hU ls (oT ls.length (cq ls d)))):=by
 have ok:=g.ok;have hv:=BA g hd;obtain⟨b1,m,hm,mc,mi,mo,ms⟩:=bt ok.cr hl hc;have ho:=(aai.1 hm).1;have e:cq ls d=aI ls.length (bN ls (oH ls.length d)) (dh d==gX l):=by
  conv=>lhs;rw[zN hd]
  rw[mN hl hc];rfl
 obtain⟨a1,a2⟩:=xw (n:=ls.length) (f:=(dh d==gX l)) ho;have hne:oH ls.length d≠bN ls (oH ls.length d):=by intro ee;rw[<- ee,hl] at hm;have:=abP hm;rw[<- this] at mo;revert mo;cases l.over<;>simp
 have hg:gX l=(dh d==(dh d==gX l)):=by cases dh d<;>cases gX l<;>rfl
 rw[e,a1,a2];refine⟨?_,rfl,hg,?_⟩
 .have:=pM ho (!(dh d==gX l));rw[<- jf] at this;have:=sK this;rwa[sJ] at this
 rw[RP,<- hg];have:=(zE g hv ho hne (by rw[bk hl];exact hc) (by rw[bk hm];exact mc) (by rw[bk hl,bk hm];exact mi.symm)).x4;rwa[bk hl] at this
theorem tN{l:List Pc}(hl:l.length=ls.length){e:Nat}(he:e<ls.length)(i:Nat):(nT ls l e)[i]?=if i=nx ls e then l[e]? else if i=e then l[nx ls e]? else l[i]? :=by
 have hn:nx ls e<ls.length:=aaN _ (by omega);obtain⟨p,hp⟩:=ao (ls:=l) (k:=e) (by omega);obtain⟨q,hq⟩:=ao (ls:=l) (k:=nx ls e) (by omega);unfold nT;rw[abI,abI,aaC,aaC,hp,hq,abV];by_cases c1:i=nx ls e
 .subst c1;rw[if_pos rfl,if_pos (by omega),if_pos rfl];rfl
 rw[if_neg (Ne.symm c1),if_neg c1];by_cases c2:i=e
 .subst c2;rw[if_pos rfl,if_pos (by omega),if_pos rfl];rfl
 rw[if_neg (Ne.symm c2),if_neg c2]
theorem EJ(g:cV F ls){w:List Nat}(hw:w∈cP (cq ls) (nD ls)){Q:Nat->Prop}(h1:∀x,x<nD ls->(Q (cq ls x)↔Q x)){x y:Nat}(hx:x∈w)(hy:y∈w):Q x↔Q y:=by
 have e:=mL (maps g.ok) (R:=gr (nD ls) (cq ls)) (fun z hz=>.rel ⟨hz,rfl⟩) hw hx hy;have:=e.inv (f:=fun x=>Q x) fun a b r=>by obtain⟨ha,rfl⟩:=r;exact propext (h1 a ha).symm
 exact Eq.to_iff this
end
theorem Lv:∀(L M:List Int),L.Nodup->(∀x∈L,x∈M)->L.length<=M.length:=by
 intro L
 induction L with
 |nil=>intro M _ _;exact aan _
 |cons a L ih=>intro M hn hs;obtain⟨h1,h2⟩:=abQ.1 hn;have ha:=hs a (by simp);have:=ih (M.erase a) h2 fun x hx=>(List.mem_erase_of_ne (by rintro rfl;exact h1 hx)).2 (hs x (by simp[hx]));rw[List.length_erase_of_mem ha] at this;have:0<M.length:=adR ha;simp only[aaz];omega
theorem Uz:∀l:List Int,(zL l).Nodup:=by
 intro l
 induction l with
 |nil=>exact ach
 |cons a l ih=>
  unfold zL;split
  .exact ih
  rename_i h;exact abQ.2 ⟨fun hm=>h (xv.1 hm),ih⟩
theorem QQ{l:List Int}:(zL l).length=l.length->l.Nodup:=by
 induction l with
 |nil=>intro _;exact ach
 |cons a l ih=>
  have hle:(zL l).length<=l.length:=Lv _ _ (Uz l) fun x hx=>xv.1 hx;unfold zL;rw[abQ];split
  .intro e;simp only[aaz] at e;omega
  rename_i h;simp only[aaz];intro e;exact⟨h,ih (by omega)⟩
theorem Eg{p:Pc->Bool}{l:List Pc}{i:Nat}{x y:Pc}(h:l[i]?=some x):(l.set i y).countP p+(if p x then 1 else 0)=l.countP p+(if p y then 1 else 0):=by
 have e:=Oc h;have hl:=(aai.1 h).1;have e2:l.set i y=l.take i++y::l.drop (i+1):=by
  conv=>lhs;rw[e]
  rw[List.set_append_right _ _ (by rw[aa2];omega),aa2,acu (by omega),Nat.sub_self];rfl
 rw[e2]
 conv=>rhs;rw[e]
 rw[acb,acb,acl,acl];omega
section
variable {F:Nat} {ls:List Let}
theorem ru{l:List Pc}(hl:l.length=ls.length){e:Nat}(he:e<ls.length)(hne:e≠nx ls e)(p:Pc->Bool):(nT ls l e).countP p=l.countP p:=by
 have hn:nx ls e<ls.length:=aaN _ (by omega);obtain⟨x,hx⟩:=ao (ls:=l) (k:=e) (by omega);obtain⟨y,hy⟩:=ao (ls:=l) (k:=nx ls e) (by omega);unfold nT;rw[aaC,aaC,hx,hy];simp only[abv];have h1:=Eg (p:=p) (y:=y) hx;have h2:(l.set e y)[nx ls e]?=some y:=by rw[abI,if_neg hne];exact hy
 have h3:=Eg (p:=p) (y:=x) h2;omega
theorem Ia(g:cV F ls){e:Nat}(he:e<ls.length):e≠nx ls e:=by
 have h2:2<=ls.length:=by obtain⟨l,h1,hp⟩:=g.first;have:=g.even;have:0<aA Let.aH ls:=acJ.2 ⟨l,aae h1,hp⟩;have:=kI Let.aH ls;omega
 unfold nx;by_cases c:e+1<ls.length
 .rw[aa7 c];omega
 rw[show e+1=ls.length by omega,acK];omega
theorem xg(p:Let->Bool):aA p ((pieces ls).map Pc.l)=aA p ls:=by
 have:(pieces ls).map Pc.l=ls:=by
  have h:=fq ls;rw[<- h];have e:be (zF ls)=((zF ls).map a8.p).map Pc.l:=by rw[ab3];rfl
  rw[h,<- Hp,<- e,h]
 rw[this]
theorem jC(g:cV F ls){i j:Nat}{l m:Let}(hl:ls[i]?=some l)(hm:ls[j]?=some m)(hc:l.aD=true)(mc:m.aD=true)(e:l.id=m.id)(hij:i≠j):bN ls i=j:=by obtain⟨_,hp⟩:=g.ids;obtain⟨d1,_⟩:=hp i j l m hl hm hc mc e hij;obtain⟨b1,w,hw,wc,wi,wo,ws⟩:=bt g.ok.cr hl hc;refine Classical.byContradiction fun hne=>?_;have d3:=(hp _ _ w m hw hm wc mc (by rw[wi,e]) hne).1;rw[wo] at d3;revert d1 d3;cases l.over<;>cases m.over<;>simp
theorem EM(g:cV F ls){w:List Nat}(hw:w∈cP (cq ls) (nD ls)){p q r:Nat}(hp:p∈w)(hq:q∈w)(hr:r∈w)(pq:p≠q)(pr:p≠r)(qr:q≠r)(lp:p<nD ls)(lq:q<nD ls)(lr:r<nD ls)
  (np:cq ls p=p\/cq ls p=q\/cq ls p=r) (nq:cq ls q=p\/cq ls q=q\/cq ls q=r) (nr:cq ls r=p\/cq ls r=q\/cq ls r=r):
  (cq ls p=q/\cq ls q=r/\cq ls r=p)\/(cq ls p=r/\cq ls r=q/\cq ls q=p):=by
 have inj:=(maps g.ok).inj;have i1:cq ls p≠cq ls q:=fun e=>pq (inj _ _ lp lq e);have i2:cq ls p≠cq ls r:=fun e=>pr (inj _ _ lp lr e);have i3:cq ls q≠cq ls r:=fun e=>qr (inj _ _ lq lr e);have one:∀x y,x∈w->y∈w->x≠y->x<nD ls->cq ls x≠x:=fun x y hx hy hxy lx e=>by have:=EJ g hw (Q:=fun t=>t=x) (fun t ht=>⟨fun h=>inj _ _ ht lx (by rw[h,e]),fun h=>by rw[h,e]⟩) hx hy;exact hxy (this.1 rfl).symm
 have n1:=one p q hp hq pq lp;have n2:=one q p hq hp (Ne.symm pq) lq;have n3:=one r p hr hp (Ne.symm pr) lr;omega
theorem zD{n d i:Nat}:(i≠oT n d/\i≠oH n d)↔(i≠d/2/\i≠(d/2+1)%n):=by
 unfold oT oH;split
 .exact Iff.rfl
 exact And.comm
theorem zJ{n d d':Nat}(h:d/2≠d'/2/\d/2≠(d'/2+1)%n/\(d/2+1)%n≠d'/2/\(d/2+1)%n≠(d'/2+1)%n):oT n d≠oT n d'/\oT n d≠oH n d'/\oH n d≠oT n d'/\oH n d≠oH n d':=by
 obtain⟨h1,h2,h3,h4⟩:=h;unfold oT oH;split<;>split
 .exact⟨h1,h2,h3,h4⟩
 .exact⟨h2,h1,h4,h3⟩
 .exact⟨h3,h4,h1,h2⟩
 exact⟨h4,h3,h2,h1⟩
theorem zI{n d:Nat}(h:d/2≠(d/2+1)%n):oT n d≠oH n d:=by
 unfold oT oH;split
 .exact h
 exact h.symm
def uo (f:Bool)(s:iZ):iZ:=if f then s else pV s
theorem Ce(f:Bool)(x:a8):(k9 f x).b=if f then x.i.b else x.o.b:=by cases f<;>rfl
theorem Bx(f:Bool)(x:a8):(nU f x).b=if f then x.o.b else x.i.b:=by cases f<;>rfl
theorem Gx{P:List Pc}{sd:Nat->iZ}{d:Nat}{k':iZ}(hP:P.length=ls.length)(hd:d<2*ls.length)(hk:sd (d/2)=uo (dh d) k')(h1:sd ((d/2+ls.length-1)%ls.length)=Bk ls ((d/2+ls.length-1)%ls.length))(h2:sd (nx ls (d/2))=Bk ls (nx ls (d/2))):
  k9 (dh d) (dN P sd (oT ls.length d))=k9 (dh d) (hU ls (oT ls.length d))/\nU (dh d) (dN P sd (oT ls.length d))=k'/\k9 (dh d) (dN P sd (oH ls.length d))=k'/\nU (dh d) (dN P sd (oH ls.length d))=nU (dh d) (hU ls (oH ls.length d)):=by
 unfold nx at h2;unfold k9 nU dN hU oT oH;unfold dh at hk ⊢;rw[hP];rcases acs d with h|h
 .simp only[h,beq_self_eq_true,if_true] at hk ⊢;rw[jX (by omega),hk,h1,h2];exact⟨rfl,rfl,rfl,rfl⟩
 simp only[h,show((1:Nat)==0)=false from rfl,aaE,if_false,Nat.one_ne_zero] at hk ⊢;rw[jX (by omega),hk,h1,h2];exact⟨rfl,rfl,rfl,rfl⟩
theorem QK{P:List Pc}{sd:Nat->iZ}{i:Nat}(hP:P.length=ls.length)(hi:i<ls.length)(hp:P[i]?=(pieces ls)[i]?)(h1:sd ((i+ls.length-1)%ls.length)=Bk ls ((i+ls.length-1)%ls.length))(h2:sd i=Bk ls i):dN P sd i=hU ls i:=by
 have:P.getD i ⟨fm,false⟩=⟨ls.getD i fm,r8 ls i⟩:=by obtain⟨l,hl⟩:=ao hi;rw[aaC,hp,cZ hl,aaC,hl];rfl
 unfold dN hU;rw[hP,h1,h2,this]
theorem Cs{P:List Pc}{sd:Nat->iZ}{i j:Nat}(hj:j<ls.length)(hp:P[i]?=(pieces ls)[j]?):(dN P sd i).p=(hU ls j).p:=by obtain⟨l,hl⟩:=ao hj;show P.getD i _=⟨ls.getD j fm,r8 ls j⟩;rw[aaC,hp,cZ hl,aaC,hl];rfl
theorem ZR(g:cV F ls){a b c:Nat}(ha:a<ls.length)(hb:b<ls.length)(hc:c<ls.length){L:List Pc}(h:Nz F ls a b c=some L):Cert F L:=by
 unfold Nz at h;split at h
 case isFalse=>cases h
 rename_i ht;cases h;unfold Yn at ht;simp only[aay,beq_iff_eq] at ht;obtain⟨hcr,h6,_,_,_,afR⟩:=ht;have hn:0<ls.length:=abh.2 g.ne;have hpl:=aB ls;have ok:=g.ok
 -- six letters
 have hnd:(JA ls [a,b,c]).Nodup:=QQ (by rw[h6];rfl);have hnd:(([a,nx ls a,b,nx ls b,c,nx ls c]:List Nat).map fun i:Nat=>(i:Int)).Nodup:=hnd;have six:a≠nx ls a/\a≠b/\a≠nx ls b/\a≠c/\a≠nx ls c/\nx ls a≠b/\nx ls a≠nx ls b/\nx ls a≠c/\nx ls a≠nx ls c/\b≠nx ls b/\b≠c/\b≠nx ls c/\nx ls b≠c/\nx ls b≠nx ls c/\c≠nx ls c:=by simp only[aaK,abi,abQ,aat,aa9,or_false,not_or,ach,and_true,not_false_eq_true] at hnd;omega
 have crs:∀e∈[a,b,c],∃l m,ls[e]?=some l/\ls[nx ls e]?=some m/\l.aD=true/\m.aD=true:=fun e he=>by
  have h1:=aba.1 hcr e he;have hel:e<ls.length:=by simp only[aat,aa9,or_false] at he;rcases he with rfl|rfl|rfl<;>assumption
  obtain⟨l,hl⟩:=ao hel;obtain⟨m,hm⟩:=ao (ls:=ls) (k:=nx ls e) (aaN _ hn);have e1:pA ls e=⟨l,r8 ls e⟩:=eD (cZ hl);have e2:pA ls (nx ls e)=⟨m,r8 ls (nx ls e)⟩:=eD (cZ hm);unfold UE at h1;rw[e1,e2,aay] at h1;exact⟨l,m,hl,hm,h1.1,h1.2⟩
 obtain⟨w,hw,_,hlen,hE⟩:=qW g ha afR;obtain⟨da,da1,da2,da3⟩:=hE a (by simp);obtain⟨db,db1,db2,db3⟩:=hE b (by simp);obtain⟨dc,dc1,dc2,dc3⟩:=hE c (by simp);have hN:∀d,d<2*ls.length->d<nD ls:=fun d hd=>by unfold nD;omega
 have three:∀d,d∈w->d<2*ls.length->d=da\/d=db\/d=dc:=fun d h1 h2=>by
  have inD:∀d,d∈w->d<2*ls.length->d∈w.filter fun x=>decide (x<2*ls.length):=fun d h1 h2=>ab4.2 ⟨h1,by simpa using h2⟩;have q1:=inD da da1 da2;have q2:=inD db db1 db2;have q3:=inD dc dc1 dc2;have q4:=inD d h1 h2;generalize w.filter (fun x=>decide (x<2*ls.length))=D at hlen q1 q2 q3 q4
  match D,hlen with
  |[x,y,z],_=>simp only[aat,aa9,or_false] at q1 q2 q3 q4;have:=six.2.1;have:=six.2.2.2.1;have:=six.2.2.2.2.2.2.2.2.2.2.1;omega
 have aej:∀d,d<2*ls.length->d/2∈[a,b,c]->∃l,ls[oH ls.length d]?=some l/\l.aD=true:=fun d hd he=>by
  obtain⟨l,m,h1,h2,h3,h4⟩:=crs _ he;unfold oH;split
  .exact⟨m,h2,h4⟩
  exact⟨l,h1,h3⟩
 have step:∀d,d∈w->d<2*ls.length->d/2∈[a,b,c]->cq ls d=da\/cq ls d=db\/cq ls d=dc:=fun d hd hl he=>by obtain⟨l,h1,h2⟩:=aej d hl he;exact three _ (fI (maps ok) hw hd) (iW g hl h1 h2).1
 have round:∃d1 d2 d3,d1<2*ls.length/\d2<2*ls.length/\d3<2*ls.length/\cq ls d1=d2/\cq ls d2=d3/\cq ls d3=d1/\((d1/2=a/\d2/2=b/\d3/2=c)\/(d1/2=a/\d2/2=c/\d3/2=b)):=by
  have nab:da≠db:=fun e=>six.2.1 (by rw[<- da3,<- db3,e]);have nac:da≠dc:=fun e=>six.2.2.2.1 (by rw[<- da3,<- dc3,e]);have nbc:db≠dc:=fun e=>six.2.2.2.2.2.2.2.2.2.2.1 (by rw[<- db3,<- dc3,e]);rcases EM g hw da1 db1 dc1 nab nac nbc (hN _ da2) (hN _ db2) (hN _ dc2) (step da da1 da2 (by rw[da3];simp)) (step db db1 db2 (by rw[db3];simp)) (step dc dc1 dc2 (by rw[dc3];simp)) with ⟨h1,h2,h3⟩|⟨h1,h2,h3⟩
  .exact⟨da,db,dc,da2,db2,dc2,h1,h2,h3,.inl ⟨da3,db3,dc3⟩⟩
  exact⟨da,dc,db,da2,dc2,db2,h1,h2,h3,.inr ⟨da3,dc3,db3⟩⟩
 clear three step hE hlen da1 da2 da3 db1 db2 db3 dc1 dc2 dc3 hw afR;clear hnd hcr h6;obtain⟨d1,d2,d3,l1,l2,l3,s1,s2,s3,aaM⟩:=round
 -- the new pieces
 have ina:a∈[a,b,c]:=by simp
 have inb:b∈[a,b,c]:=by simp
 have inc:c∈[a,b,c]:=by simp
 have hP0:(qh ls (pieces ls) [a,b,c]).length=ls.length:=by rw[jL,hpl]
 have hsw:∀i,(qh ls (pieces ls) [a,b,c])[i]?=if i=nx ls c then (pieces ls)[c]? else if i=c then (pieces ls)[nx ls c]? else if i=nx ls b then (pieces ls)[b]? else if i=b then (pieces ls)[nx ls b]? else if i=nx ls a then (pieces ls)[a]? else if i=a then (pieces ls)[nx ls a]? else (pieces ls)[i]? :=fun i=>by
  show(nT ls (nT ls (nT ls (pieces ls) a) b) c)[i]?=_;have e1:(nT ls (pieces ls) a).length=ls.length:=by rw[nX,hpl]
  have e2:(nT ls (nT ls (pieces ls) a) b).length=ls.length:=by rw[nX,e1]
  simp only[tN e2 hc,tN e1 hb,tN hpl ha];obtain⟨x1,x2,x3,x4,x5,x6,x7,x8,x9,x10,x11,x12,x13,x14,x15⟩:=six;simp only[x2.symm,x3.symm,x4.symm,x5.symm,x6.symm,x7.symm,x8.symm,x9.symm,x11.symm,x12.symm,x13.symm,x14.symm,if_false]
 have abG:∀p:Pc->Bool,(qh ls (pieces ls) [a,b,c]).countP p=(pieces ls).countP p:=fun p=>by
  show(nT ls (nT ls (nT ls (pieces ls) a) b) c).countP p=_;have e1:(nT ls (pieces ls) a).length=ls.length:=by rw[nX,hpl]
  have e2:(nT ls (nT ls (pieces ls) a) b).length=ls.length:=by rw[nX,e1]
  rw[ru e2 hc six.2.2.2.2.2.2.2.2.2.2.2.2.2.2,ru e1 hb six.2.2.2.2.2.2.2.2.2.1,ru hpl ha six.1]
 generalize qh ls (pieces ls) [a,b,c]=P at hP0 hsw abG;obtain⟨x1,x2,x3,x4,x5,x6,x7,x8,x9,x10,x11,x12,x13,x14,x15⟩:=six;have pa:P[a]?=(pieces ls)[nx ls a]? /\P[nx ls a]?=(pieces ls)[a]? :=by
  constructor
  .rw[hsw];simp only[x1,x2,x3,x4,x5,if_false,if_true]
  rw[hsw];simp only[x6,x7,x8,x9,if_false,if_true]
 have pb:P[b]?=(pieces ls)[nx ls b]? /\P[nx ls b]?=(pieces ls)[b]? :=by
  constructor
  .rw[hsw];simp only[x10,x11,x12,if_false,if_true]
  rw[hsw];simp only[x13,x14,if_false,if_true]
 have pc:P[c]?=(pieces ls)[nx ls c]? /\P[nx ls c]?=(pieces ls)[c]? :=by
  constructor
  .rw[hsw];simp only[x15,if_false,if_true]
  rw[hsw];simp only[if_true]
 have pn:∀i,i≠a->i≠nx ls a->i≠b->i≠nx ls b->i≠c->i≠nx ls c->P[i]?=(pieces ls)[i]? :=fun i h1 h2 h3 h4 h5 h6=>by rw[hsw];simp only[h1,h2,h3,h4,h5,h6,if_false]
 clear hsw
 -- edges and letters by aap
 have hpe:∀d,d/2=a\/d/2=b\/d/2=c->P[oT ls.length d]?=(pieces ls)[oH ls.length d]? /\P[oH ls.length d]?=(pieces ls)[oT ls.length d]? :=fun d hd=>by
  have:P[d/2]?=(pieces ls)[nx ls (d/2)]? /\P[nx ls (d/2)]?=(pieces ls)[d/2]? :=by rcases hd with e|e|e<;>rw[e]<;>assumption
  unfold oT oH;rcases acs d with h|h
  .simp only[h,if_true];exact this
  simp only[h,Nat.one_ne_zero,if_false];exact this.symm
 have m1:d1/2=a\/d1/2=b\/d1/2=c:=by
  rcases aaM with ⟨h,_,_⟩|⟨h,_,_⟩
  .exact .inl h
  exact .inl h
 have m2:d2/2=a\/d2/2=b\/d2/2=c:=by
  rcases aaM with ⟨_,h,_⟩|⟨_,h,_⟩
  .exact .inr (.inl h)
  exact .inr (.inr h)
 have m3:d3/2=a\/d3/2=b\/d3/2=c:=by
  rcases aaM with ⟨_,_,h⟩|⟨_,_,h⟩
  .exact .inr (.inr h)
  exact .inr (.inl h)
 have mm:∀d,d/2=a\/d/2=b\/d/2=c->d/2∈[a,b,c]:=fun d h=>by simpa using h
 have pn2:∀i,i≠oT ls.length d1->i≠oH ls.length d1->i≠oT ls.length d2->i≠oH ls.length d2->i≠oT ls.length d3->i≠oH ls.length d3->P[i]?=(pieces ls)[i]? /\ ∀d,d/2=a\/d/2=b\/d/2=c->i≠d/2/\i≠nx ls (d/2):=fun i a1 a2 a3 a4 a5 a6=>by
  obtain⟨b1,b2⟩:=zD.1 ⟨a1,a2⟩;obtain⟨b3,b4⟩:=zD.1 ⟨a3,a4⟩;obtain⟨b5,b6⟩:=zD.1 ⟨a5,a6⟩;have key:(i≠a/\i≠nx ls a)/\(i≠b/\i≠nx ls b)/\(i≠c/\i≠nx ls c):=by
   rcases aaM with ⟨h1,h2,h3⟩|⟨h1,h2,h3⟩
   .rw[h1] at b1 b2;rw[h2] at b3 b4;rw[h3] at b5 b6;exact⟨⟨b1,b2⟩,⟨b3,b4⟩,b5,b6⟩
   rw[h1] at b1 b2;rw[h2] at b3 b4;rw[h3] at b5 b6;exact⟨⟨b1,b2⟩,⟨b5,b6⟩,b3,b4⟩
  obtain⟨⟨c1,c2⟩,⟨c3,c4⟩,c5,c6⟩:=key;refine⟨pn i c1 c2 c3 c4 c5 c6,fun d hd=>?_⟩;rcases hd with e|e|e<;>rw[e]
  .exact⟨c1,c2⟩
  .exact⟨c3,c4⟩
  exact⟨c5,c6⟩
 have t1:=FC g l1;have t2:=FC g l2;have t3:=FC g l3;have h1:=BA g l1;have h2:=BA g l2;have h3:=BA g l3
 -- all six are different
 have apart:(d1/2≠d2/2/\d1/2≠nx ls (d2/2)/\nx ls (d1/2)≠d2/2/\nx ls (d1/2)≠nx ls (d2/2))/\(d1/2≠d3/2/\d1/2≠nx ls (d3/2)/\nx ls (d1/2)≠d3/2/\nx ls (d1/2)≠nx ls (d3/2))/\(d2/2≠d3/2/\d2/2≠nx ls (d3/2)/\nx ls (d2/2)≠d3/2/\nx ls (d2/2)≠nx ls (d3/2))/\d1/2≠nx ls (d1/2)/\d2/2≠nx ls (d2/2)/\d3/2≠nx ls (d3/2):=by
  rcases aaM with ⟨h1,h2,h3⟩|⟨h1,h2,h3⟩<;>rw[h1,h2,h3]
  .exact⟨⟨x2,x3,x6,x7⟩,⟨x4,x5,x8,x9⟩,⟨x11,x12,x13,x14⟩,x1,x10,x15⟩
  exact⟨⟨x4,x5,x8,x9⟩,⟨x2,x3,x6,x7⟩,⟨x11.symm,x13.symm,x12.symm,x14.symm⟩,x1,x15,x10⟩
 obtain⟨y1,y2,y3,y4,y5,y6⟩:=apart;have f12:=zJ y1;have f13:=zJ y2;have f23:=zJ y3;have g1:=zI y4;have g2:=zI y5;have g3:=zI y6
 -- the old corners
 obtain⟨u1,hu1,cu1⟩:=aej d1 l1 (mm d1 m1);obtain⟨u2,hu2,cu2⟩:=aej d2 l2 (mm d2 m2);obtain⟨u3,hu3,cu3⟩:=aej d3 l3 (mm d3 m3);obtain⟨_,o1,q1,k1⟩:=iW g l1 hu1 cu1;obtain⟨_,o2,q2,k2⟩:=iW g l2 hu2 cu2;obtain⟨_,o3,q3,k3⟩:=iW g l3 hu3 cu3;rw[s1] at o1 q1 k1;rw[s2] at o2 q2 k2;rw[s3] at o3 q3 k3;clear s1 s2 s3 aaM pn pa pb pc x1 x2 x3 x4 x5 x6 x7 x8 x9 x10 x11 x12 x13 x14 x15 crs aej mm ina inb inc;have ti1:=nc (ls:=ls) l1;have ti2:=nc (ls:=ls) l2;have ti3:=nc (ls:=ls) l3;have hi1:=rY (ls:=ls) l1;have hi2:=rY (ls:=ls) l2
 have hi3:=rY (ls:=ls) l3;rw[hi1,ti2] at k1;rw[hi2,ti3] at k2;rw[hi3,ti1] at k3;obtain⟨a1,b1,c1,e1⟩:=k1;obtain⟨a2,b2,c2,e2⟩:=k2;obtain⟨a3,b3,c3,e3⟩:=k3;simp only[if_true] at a1 b1 c1 e1 a2 b2 c2 e2 a3 b3 c3 e3
 let tau:=(oK ls d1).l
 let K1:iZ:=⟨(k9 (dh d3) (hU ls (oT ls.length d3))).r,tau,(k9 (dh d1) (hU ls (oT ls.length d1))).b⟩
 let K2:iZ:=⟨(k9 (dh d1) (hU ls (oT ls.length d1))).r,tau,(k9 (dh d2) (hU ls (oT ls.length d2))).b⟩
 let K3:iZ:=⟨(k9 (dh d2) (hU ls (oT ls.length d2))).r,tau,(k9 (dh d3) (hU ls (oT ls.length d3))).b⟩
 let sd:Nat->iZ:=fun j=>if j=d1/2 then uo (dh d1) K1 else if j=d2/2 then uo (dh d2) K2 else if j=d3/2 then uo (dh d3) K3 else Bk ls j
 have sd1:sd (d1/2)=uo (dh d1) K1:=if_pos rfl;have sd2:sd (d2/2)=uo (dh d2) K2:=by show(if _ then _ else _)=_;rw[if_neg (Ne.symm y1.1),if_pos rfl]
 have sd3:sd (d3/2)=uo (dh d3) K3:=by show(if _ then _ else _)=_;rw[if_neg (Ne.symm y2.1),if_neg (Ne.symm y3.1),if_pos rfl]
 have sdn:∀j,j≠d1/2->j≠d2/2->j≠d3/2->sd j=Bk ls j:=fun j h1 h2 h3=>by show(if _ then _ else _)=_;rw[if_neg h1,if_neg h2,if_neg h3]
 have prev:∀i,i<ls.length->i≠nx ls (d1/2)->i≠nx ls (d2/2)->i≠nx ls (d3/2)->sd ((i+ls.length-1)%ls.length)=Bk ls ((i+ls.length-1)%ls.length):=fun i hi n1 n2 n3=>sdn _ (fun h=>n1 (ll hi h)) (fun h=>n2 (ll hi h)) (fun h=>n3 (ll hi h))
 obtain⟨z1,z2,z3,z4⟩:=y1;obtain⟨z5,z6,z7,z8⟩:=y2;obtain⟨z9,z10,z11,z12⟩:=y3;have G1:=Gx (P:=P) hP0 l1 sd1 (prev _ (by omega) y4 z2 z6) (sdn _ y4.symm z3 z7);have G2:=Gx (P:=P) hP0 l2 sd2 (prev _ (by omega) z3.symm y5 z10) (sdn _ z2.symm y5.symm z11);have G3:=Gx (P:=P) hP0 l3 sd3 (prev _ (by omega) z7.symm z11.symm y6) (sdn _ z6.symm z10.symm y6.symm);have p1:=hpe d1 m1;have p2:=hpe d2 m2;have p3:=hpe d3 m3;have pT1:=Cs (sd:=sd) h1 p1.1;have pH1:=Cs (sd:=sd) t1 p1.2;have pT2:=Cs (sd:=sd) h2 p2.1;have pH2:=Cs (sd:=sd) t2 p2.2;have pT3:=Cs (sd:=sd) h3 p3.1
 have pH3:=Cs (sd:=sd) t3 p3.2;have un:∀i,i<ls.length->i≠oT ls.length d1->i≠oH ls.length d1->i≠oT ls.length d2->i≠oH ls.length d2->i≠oT ls.length d3->i≠oH ls.length d3->dN P sd i=hU ls i:=fun i hi n1 n2 n3 n4 n5 n6=>by obtain⟨q1,q2⟩:=pn2 i n1 n2 n3 n4 n5 n6;exact QK hP0 hi q1 (prev i hi (q2 d1 m1).2 (q2 d2 m2).2 (q2 d3 m3).2) (sdn i (q2 d1 m1).1 (q2 d2 m2).1 (q2 d3 m3).1)
 clear pn2 hpe prev
 -- letters of the crossings
 have hw1:=bt ok.cr hu1 cu1;have hw2:=bt ok.cr hu2 cu2;have hw3:=bt ok.cr hu3 cu3;rw[<- o1] at hw1;rw[<- o2] at hw2;rw[<- o3] at hw3;obtain⟨r1,v2,hv2,cv2,iv2,_,_⟩:=hw1;obtain⟨r2,v3,hv3,cv3,iv3,_,_⟩:=hw2;obtain⟨r3,v1,hv1,cv1,iv1,_,_⟩:=hw3
 -- the new corners
 have cornerN:∀(x y:a8) (d d' hh tt:Nat) (u v:Let),ls[hh]?=some u->ls[tt]?=some v->u.aD=true->v.aD=true->v.id=u.id->hh≠tt->x.p=(hU ls hh).p->y.p=(hU ls tt).p->gX u=(dh d==dh d')->X4 true (k9 (dh d) x) (nU (dh d) x) (k9 (dh d') y) (nU (dh d') y)->Xc x y:=by intro x y d d' hh tt u v ha hb ca cb ei hne hx hy hg h4;have hx':x.k=(hU ls hh).k:=congrArg Pc.l hx;have hy':y.k=(hU ls tt).k:=congrArg Pc.l hy;have old:=zE g (aai.1 ha).1 (aai.1 hb).1 hne (by rw[bk ha];exact ca) (by rw[bk hb];exact cb) (by rw[bk ha,bk hb];exact ei.symm);refine⟨by rw[hx',hy'];exact old.ov,by rw[hx',hy'];exact old.sg,?_⟩;rw[hx',bk ha,hg];exact RP.1 h4
 have C1:Xc (dN P sd (oT ls.length d1)) (dN P sd (oH ls.length d2)):=by
  refine cornerN _ _ d1 d2 _ _ u1 v2 hu1 hv2 cu1 cv2 iv2 f12.2.2.1 pT1 pH2 q1 ?_;rw[G1.1,G1.2.1,G2.2.2.1,G2.2.2.2];constructor<;>simp only[if_true]
  .exact c3.trans e2
  .rfl
  .rfl
  exact b2
 have C2:Xc (dN P sd (oT ls.length d2)) (dN P sd (oH ls.length d3)):=by
  refine cornerN _ _ d2 d3 _ _ u2 v3 hu2 hv3 cu2 cv3 iv3 f23.2.2.1 pT2 pH3 q2 ?_;rw[G2.1,G2.2.1,G3.2.2.1,G3.2.2.2];constructor<;>simp only[if_true]
  .exact c1.trans e3
  .rfl
  .rfl
  exact b3
 have C3:Xc (dN P sd (oT ls.length d3)) (dN P sd (oH ls.length d1)):=by
  refine cornerN _ _ d3 d1 _ _ u3 v1 hu3 hv1 cu3 cv1 iv1 f13.2.1.symm pT3 pH1 q3 ?_;rw[G3.1,G3.2.1,G1.2.2.1,G1.2.2.2];constructor<;>simp only[if_true]
  .exact c2.trans e1
  .rfl
  .rfl
  exact b1
 have six:∀i,i<ls.length->(i=oT ls.length d1\/i=oH ls.length d1\/i=oT ls.length d2\/i=oH ls.length d2\/i=oT ls.length d3\/i=oH ls.length d3)\/(dN P sd i=hU ls i/\i≠oT ls.length d1/\i≠oH ls.length d1/\i≠oT ls.length d2/\i≠oH ls.length d2/\i≠oT ls.length d3/\i≠oH ls.length d3):=fun i hi=>by
  rcases Classical.em (i=oT ls.length d1\/i=oH ls.length d1\/i=oT ls.length d2\/i=oH ls.length d2\/i=oT ls.length d3\/i=oH ls.length d3) with h|h
  .exact .inl h
  simp only[not_or] at h;exact .inr ⟨un i hi h.1 h.2.1 h.2.2.1 h.2.2.2.1 h.2.2.2.2.1 h.2.2.2.2.2,h⟩
 -- each position holds one letter
 have hold:∀i,i<ls.length->∃j l,j<ls.length/\ls[j]?=some l/\(dN P sd i).k=l/\(dN P sd i).p=(hU ls j).p:=fun i hi=>by
  have mk:∀j l,ls[j]?=some l->(dN P sd i).p=(hU ls j).p->∃j l,j<ls.length/\ls[j]?=some l/\(dN P sd i).k=l/\(dN P sd i).p=(hU ls j).p:=fun j l hl hp=>⟨j,l,(aai.1 hl).1,hl,(congrArg Pc.l hp).trans (bk hl),hp⟩;rcases six i hi with (rfl|rfl|rfl|rfl|rfl|rfl)|⟨e,_⟩
  .exact mk _ _ hu1 pT1
  .exact mk _ _ hv1 pH1
  .exact mk _ _ hu2 pT2
  .exact mk _ _ hv2 pH2
  .exact mk _ _ hu3 pT3
  .exact mk _ _ hv3 pH3
  obtain⟨l,hl⟩:=ao hi;exact mk i l hl (by rw[e])
 have kT1:(dN P sd (oT ls.length d1)).k=u1:=(congrArg Pc.l pT1).trans (bk hu1);have kT2:(dN P sd (oT ls.length d2)).k=u2:=(congrArg Pc.l pT2).trans (bk hu2);have kT3:(dN P sd (oT ls.length d3)).k=u3:=(congrArg Pc.l pT3).trans (bk hu3);have kH1:(dN P sd (oH ls.length d1)).k=v1:=(congrArg Pc.l pH1).trans (bk hv1);have kH2:(dN P sd (oH ls.length d2)).k=v2:=(congrArg Pc.l pH2).trans (bk hv2);have kH3:(dN P sd (oH ls.length d3)).k=v3:=(congrArg Pc.l pH3).trans (bk hv3);have flat:∀(f:Bool) (x:a8),(k9 f x).b=(nU f x).b->x.i.b=x.o.b:=fun f x h=>by
  rw[Ce,Bx] at h;cases f
  .exact h.symm
  exact h
 have ajW:∀(f:Bool) (x:a8),x.i.b=x.o.b->(k9 f x).b=(nU f x).b:=fun f x h=>by
  rw[Ce,Bx];cases f
  .exact h.symm
  exact h
 have oldb:∀j l,ls[j]?=some l->l.aD=true->(hU ls j).i.b=(hU ls j).o.b:=fun j l hl hc=>(qT g (aai.1 hl).1).cb (by rw[bk hl];exact hc);have bT:∀d (K:iZ),k9 (dh d) (dN P sd (oT ls.length d))=k9 (dh d) (hU ls (oT ls.length d))->nU (dh d) (dN P sd (oT ls.length d))=K->K.b=(k9 (dh d) (hU ls (oT ls.length d))).b->(dN P sd (oT ls.length d)).i.b=(dN P sd (oT ls.length d)).o.b:=fun d K q1 q2 q3=>flat (dh d) _ (by rw[q1,q2,q3])
 have bH:∀d (K:iZ) (l m:Let),ls[oT ls.length d]?=some l->l.aD=true->ls[oH ls.length d]?=some m->m.aD=true->nU (dh d) (hU ls (oT ls.length d))=oK ls d->k9 (dh d) (hU ls (oH ls.length d))=oK ls d->k9 (dh d) (dN P sd (oH ls.length d))=K->nU (dh d) (dN P sd (oH ls.length d))=nU (dh d) (hU ls (oH ls.length d))->K.b=(k9 (dh d) (hU ls (oT ls.length d))).b->(dN P sd (oH ls.length d)).i.b=(dN P sd (oH ls.length d)).o.b:=fun d K l m hl cl hm cm w1 w2 q1 q2 q3=>by refine flat (dh d) _ ?_;rw[q1,q2,q3,ajW (dh d) _ (oldb _ _ hl cl),w1,<- w2];exact ajW (dh d) _ (oldb _ _ hm cm)
 have bad:∀i,i<ls.length->ch F (dN P sd i).k=false:=fun i hi=>by obtain⟨j,l,hj,hl,hk,_⟩:=hold i hi;rw[hk];exact g.bad l (aae hl)
 have Mp:∀i,i<ls.length->(dN P sd i).k.aD=true->(dN P sd i).i.b=(dN P sd i).o.b->Pe F (dN P sd i):=fun i hi hc hb=>⟨bad i hi,fun _=>hb,fun hp=>by rw[cF hc] at hp;cases hp⟩;have passUn:∀i,i<ls.length->(dN P sd i).k.aH=true->dN P sd i=hU ls i:=fun i hi hp=>by
  rcases six i hi with (rfl|rfl|rfl|rfl|rfl|rfl)|⟨e,_⟩
  .rw[kT1,cF cu1] at hp;cases hp
  .rw[kH1,cF cv1] at hp;cases hp
  .rw[kT2,cF cu2] at hp;cases hp
  .rw[kH2,cF cv2] at hp;cases hp
  .rw[kT3,cF cu3] at hp;cases hp
  .rw[kH3,cF cv3] at hp;cases hp
  exact e
 have cz:=g.cz;have cntP:∀p:Let->Bool,aA p (P.map Pc.l)=aA p ls:=fun p=>by rw[<- xg (ls:=ls) p];show List.countP _ _=List.countP _ _;rw[ac4,ac4];exact abG _
 have labs:∀(f:Bool) i,i<ls.length->∀t,t=(k9 f (dN P sd i)).l\/t=(k9 f (dN P sd i)).r->∃j',j'<ls.length/\(t=(sd j').l\/t=(sd j').r):=fun f i hi t ht=>by
  cases f
  .refine⟨i,hi,?_⟩;rcases ht with ht|ht
   .exact .inr ht
   exact .inl ht
  refine⟨(i+P.length-1)%P.length,?_,ht⟩;rw[hP0];exact aaN _ hn
 refine GP g (tau:=tau) (sd:=sd) (T':=TF ls) (B':=BF ls) hP0 (cntP _) (cntP _) (fun k=>cntP _) (fun i hi=>?_) (fun i j hi hj hij ci cj e=>?_) (fun i j hi hj hij pi pj e1 e2=>?_) (fun i hi ci=>?_) (fun i hi pi=>?_) (fun i hi pi=>?_) (fun k hk=>?_) ?_ (fun j hj t ht=>?_)
 .rcases six i hi with (rfl|rfl|rfl|rfl|rfl|rfl)|⟨e,_⟩
  .exact Mp _ hi (by rw[kT1];exact cu1) (bT d1 K1 G1.1 G1.2.1 rfl)
  .exact Mp _ hi (by rw[kH1];exact cv1) (bH d1 K1 _ _ hv1 cv1 hu1 cu1 ti1 hi1 G1.2.2.1 G1.2.2.2 rfl)
  .exact Mp _ hi (by rw[kT2];exact cu2) (bT d2 K2 G2.1 G2.2.1 rfl)
  .exact Mp _ hi (by rw[kH2];exact cv2) (bH d2 K2 _ _ hv2 cv2 hu2 cu2 ti2 hi2 G2.2.2.1 G2.2.2.2 rfl)
  .exact Mp _ hi (by rw[kT3];exact cu3) (bT d3 K3 G3.1 G3.2.1 rfl)
  .exact Mp _ hi (by rw[kH3];exact cv3) (bH d3 K3 _ _ hv3 cv3 hu3 cu3 ti3 hi3 G3.2.2.1 G3.2.2.2 rfl)
  rw[e];exact qT g hi
 · -- two visits of one crossing
  have nn:∀i,i<ls.length->∃s,s<ls.length/\(∃l,ls[s]?=some l/\(dN P sd i).k=l)/\((i=oT ls.length d1/\s=oH ls.length d1)\/(i=oH ls.length d1/\s=oT ls.length d1)\/(i=oT ls.length d2/\s=oH ls.length d2)\/(i=oH ls.length d2/\s=oT ls.length d2)\/(i=oT ls.length d3/\s=oH ls.length d3)\/(i=oH ls.length d3/\s=oT ls.length d3)\/(dN P sd i=hU ls i/\s=i/\i≠oT ls.length d1/\i≠oH ls.length d1/\i≠oT ls.length d2/\i≠oH ls.length d2/\i≠oT ls.length d3/\i≠oH ls.length d3)):=fun i hi=>by
   rcases six i hi with (rfl|rfl|rfl|rfl|rfl|rfl)|⟨e,hne⟩
   .exact⟨_,h1,⟨_,hu1,kT1⟩,.inl ⟨rfl,rfl⟩⟩
   .exact⟨_,t1,⟨_,hv1,kH1⟩,.inr (.inl ⟨rfl,rfl⟩)⟩
   .exact⟨_,h2,⟨_,hu2,kT2⟩,.inr (.inr (.inl ⟨rfl,rfl⟩))⟩
   .exact⟨_,t2,⟨_,hv2,kH2⟩,.inr (.inr (.inr (.inl ⟨rfl,rfl⟩)))⟩
   .exact⟨_,h3,⟨_,hu3,kT3⟩,.inr (.inr (.inr (.inr (.inl ⟨rfl,rfl⟩))))⟩
   .exact⟨_,t3,⟨_,hv3,kH3⟩,.inr (.inr (.inr (.inr (.inr (.inl ⟨rfl,rfl⟩)))))⟩
   obtain⟨l,hl⟩:=ao hi;exact⟨i,hi,⟨l,hl,by rw[e];exact bk hl⟩,.inr (.inr (.inr (.inr (.inr (.inr ⟨e,rfl,hne⟩)))))⟩
  obtain⟨si,hsi,⟨li,hli,kli⟩,ci'⟩:=nn i hi;obtain⟨sj,hsj,⟨lj,hlj,klj⟩,cj'⟩:=nn j hj;rw[kli] at ci e;rw[klj] at cj e;obtain⟨f1,f2,f3,f4⟩:=f12;obtain⟨f5,f6,f7,f8⟩:=f13;obtain⟨f9,f10,f11,f12⟩:=f23;have hne:si≠sj:=by
   clear e2 e3 e1 labs passUn Mp bad bH bT hold un six;rcases ci' with ⟨q1,q2⟩|⟨q1,q2⟩|⟨q1,q2⟩|⟨q1,q2⟩|⟨q1,q2⟩|⟨q1,q2⟩|⟨_,q2,n1,n2,n3,n4,n5,n6⟩<;>rcases cj' with ⟨w1,w2⟩|⟨w1,w2⟩|⟨w1,w2⟩|⟨w1,w2⟩|⟨w1,w2⟩|⟨w1,w2⟩|⟨_,w2,m1,m2,m3,m4,m5,m6⟩<;>rw[q2,w2]<;>first
    |(rw[q1,w1] at hij;exact absurd rfl hij)
    |assumption
    |exact Ne.symm (by assumption)
    |exact hij
  have ho:=jC g hli hlj ci cj e hne;rcases ci' with ⟨q1,q2⟩|⟨q1,q2⟩|⟨q1,q2⟩|⟨q1,q2⟩|⟨q1,q2⟩|⟨q1,q2⟩|⟨eu,q2,n1,n2,n3,n4,n5,n6⟩
  .rw[q2,<- o1] at ho;rcases cj' with ⟨w1,w2⟩|⟨w1,w2⟩|⟨w1,w2⟩|⟨w1,w2⟩|⟨w1,w2⟩|⟨w1,w2⟩|⟨_,w2,m1,m2,m3,m4,m5,m6⟩<;>rw[w2] at ho<;>first
    |(rw[q1,w1];exact C1)
    |exact absurd ho (by assumption)
    |exact absurd ho (Ne.symm (by assumption))
  .rw[q2,r3] at ho;rcases cj' with ⟨w1,w2⟩|⟨w1,w2⟩|⟨w1,w2⟩|⟨w1,w2⟩|⟨w1,w2⟩|⟨w1,w2⟩|⟨_,w2,m1,m2,m3,m4,m5,m6⟩<;>rw[w2] at ho<;>first
    |(rw[q1,w1];exact C3.symm)
    |exact absurd ho (by assumption)
    |exact absurd ho (Ne.symm (by assumption))
  .rw[q2,<- o2] at ho;rcases cj' with ⟨w1,w2⟩|⟨w1,w2⟩|⟨w1,w2⟩|⟨w1,w2⟩|⟨w1,w2⟩|⟨w1,w2⟩|⟨_,w2,m1,m2,m3,m4,m5,m6⟩<;>rw[w2] at ho<;>first
    |(rw[q1,w1];exact C2)
    |exact absurd ho (by assumption)
    |exact absurd ho (Ne.symm (by assumption))
  .rw[q2,r1] at ho;rcases cj' with ⟨w1,w2⟩|⟨w1,w2⟩|⟨w1,w2⟩|⟨w1,w2⟩|⟨w1,w2⟩|⟨w1,w2⟩|⟨_,w2,m1,m2,m3,m4,m5,m6⟩<;>rw[w2] at ho<;>first
    |(rw[q1,w1];exact C1.symm)
    |exact absurd ho (by assumption)
    |exact absurd ho (Ne.symm (by assumption))
  .rw[q2,<- o3] at ho;rcases cj' with ⟨w1,w2⟩|⟨w1,w2⟩|⟨w1,w2⟩|⟨w1,w2⟩|⟨w1,w2⟩|⟨w1,w2⟩|⟨_,w2,m1,m2,m3,m4,m5,m6⟩<;>rw[w2] at ho<;>first
    |(rw[q1,w1];exact C3)
    |exact absurd ho (by assumption)
    |exact absurd ho (Ne.symm (by assumption))
  .rw[q2,r2] at ho;rcases cj' with ⟨w1,w2⟩|⟨w1,w2⟩|⟨w1,w2⟩|⟨w1,w2⟩|⟨w1,w2⟩|⟨w1,w2⟩|⟨_,w2,m1,m2,m3,m4,m5,m6⟩<;>rw[w2] at ho<;>first
    |(rw[q1,w1];exact C2.symm)
    |exact absurd ho (by assumption)
    |exact absurd ho (Ne.symm (by assumption))
  have hb:=(bt ok.cr hli ci).1;rw[ho,q2] at hb;rcases cj' with ⟨w1,w2⟩|⟨w1,w2⟩|⟨w1,w2⟩|⟨w1,w2⟩|⟨w1,w2⟩|⟨w1,w2⟩|⟨eu2,w2,_⟩
  .rw[w2,<- o1] at hb;exact absurd hb.symm n3
  .rw[w2,r3] at hb;exact absurd hb.symm n6
  .rw[w2,<- o2] at hb;exact absurd hb.symm n5
  .rw[w2,r1] at hb;exact absurd hb.symm n2
  .rw[w2,<- o3] at hb;exact absurd hb.symm n1
  .rw[w2,r2] at hb;exact absurd hb.symm n4
  rw[q2] at hli;rw[w2] at hlj;rw[eu,eu2];exact zE g hi hj hij (by rw[bk hli];exact ci) (by rw[bk hlj];exact cj) (by rw[bk hli,bk hlj];exact e)
 .have ee:=passUn i hi pi;have ee2:=passUn j hj pj;rw[ee] at pi e1 e2;rw[ee2] at pj e1 e2;exact(cz.JU (vS hi) (vS hj) hij).2 pi pj e1 e2
 .obtain⟨j,l,hj,hl,hk,_⟩:=hold i hi;rw[hk] at ci ⊢;exact g.ids.1 l (aae hl) ci
 .have ee:=passUn i hi pi;rw[ee] at pi ⊢;have:=cz.rr _ (aae (vS hi)) pi;rwa[fq] at this
 .have ee:=passUn i hi pi;rw[ee] at pi ⊢;exact cz.pl _ (aae (vS hi)) pi
 .have:=cz.gt k hk;rwa[fq] at this
 .have:=cz.gz;rwa[fq] at this
 have viaK:∀d,j=d/2->t=(oK ls d).l\/t=(oK ls d).r:=fun d hd=>by
  rw[hd] at ht;unfold oK;split
  .exact ht
  exact ht.symm
 by_cases n1:j=d1/2
 .rcases viaK d1 n1 with h|h
  .exact .inl h
  exact .inr (labs (dh d2) _ t2 t (.inl (by rw[G2.1,h];exact c1.symm)))
 by_cases n2:j=d2/2
 .rcases viaK d2 n2 with h|h
  .exact .inl (h.trans a1.symm)
  exact .inr (labs (dh d3) _ t3 t (.inl (by rw[G3.1,h];exact c2.symm)))
 by_cases n3:j=d3/2
 .rcases viaK d3 n3 with h|h
  .exact .inl (h.trans (a2.symm.trans a1.symm))
  exact .inr (labs (dh d1) _ t1 t (.inl (by rw[G1.1,h];exact c3.symm)))
 exact .inr ⟨j,hj,by rw[sdn j n1 n2 n3];exact ht⟩
end
theorem sG(f:Bool)(x:a8):x.up=if f==x.p.d then k9 f x else pV (nU f x):=by unfold a8.up k9 nU;cases f<;>cases x.p.d<;>rfl
theorem sN(f:Bool)(x:a8):x.lo=if f==x.p.d then nU f x else pV (k9 f x):=by unfold a8.lo k9 nU;cases f<;>cases x.p.d<;>rfl
section
variable {F:Nat} {ls:List Let}
theorem rj:∀(w:List Nat) (f:Fc),f.places.length<=(w.foldl (Fc.add F ls) f).places.length/\ ∀x∈w,2*ls.length<=x->(ie F ls ((x-2*ls.length)/2)).length<=(w.foldl (Fc.add F ls) f).places.length:=by
 intro w
 induction w with
 |nil=>intro f;exact⟨aaj _,fun x hx=>nomatch hx⟩
 |cons x w ih=>
  intro f;rw[acT];obtain⟨h1,h2⟩:=ih (Fc.add F ls f x);have h3:f.places.length<=(Fc.add F ls f x).places.length:=by
   unfold Fc.add;split
   .exact aaj _
   simp only[aaY];omega
  refine⟨abm h3 h1,fun y hy hl=>?_⟩;rcases aat.1 hy with rfl|hy
  .refine abm ?_ h1;unfold Fc.add;rw[if_neg (by omega)];simp only[aaY];split<;>(try rw[ab2])<;>omega
  exact h2 y hy hl
theorem Ga(ok:dS F ls){k u v:Nat}(hk:k+1<(ae ls).length)(hu:(ae ls).getD k 0=u)(hv:(ae ls).getD (k+1) 0=v){l m:Let}(hl:ls[u]?=some l)(hm:ls[v]?=some m)
  (pl:l.aH=true) (pm:m.aH=true) (hg:m.gate<=l.gate):l.gate=m.gate/\m.aag=l.aag+1:=by
 obtain⟨u',hu'⟩:=ao (ls:=ae ls) (k:=k) (by omega);obtain⟨v',hv'⟩:=ao hk;rw[aaC,hu',abv] at hu;rw[aaC,hv',abv] at hv;subst hu hv;obtain⟨l',e1,_,e2⟩:=lz ok.ax hu';obtain⟨m',e3,_,e4⟩:=lz ok.ax hv';rw[hl] at e1;cases e1;rw[hm] at e3;cases e3;have gl:=ok.ax.dX l (aae hl) pl;have gm:=ok.ax.dX m (aae hm) pm;obtain⟨l1,l2,l3,l4⟩:=gl;obtain⟨m1,m2,m3,m4⟩:=gm;unfold cY at e2 e4;rcases Int.lt_or_eq_of_le hg with c|c
 .exfalso;have hmn:=eo (ls:=ls) (show m.gate.toNat+1<=l.gate.toNat by omega);have hs:=cE ls m.gate.toNat;omega
 rw[c] at e4;exact⟨c.symm,by omega⟩
theorem BM(g:cV F ls){w:List Nat}(hw:w∈cP (cq ls) (nD ls))(hp1:(gI F ls w).places.length=1){x v:Nat}(hx:x∈w){fw:Bool}(hxa:x=gJ ls.length v fw){l:Let}(hl:ls[v]?=some l)(pl:l.aH=true):
  ∃u m y,y∈w/\ls[u]?=some m/\m.aH=true/\l.gate=m.gate/\((dn ls v=fw/\m.aag=l.aag+1/\y=aI ls.length u (!dn ls u))\/(dn ls v=(!fw)/\l.aag=m.aag+1/\y=aI ls.length u (dn ls u))):=by
 have ok:=g.ok;have mp:=maps ok;obtain⟨i1,i2⟩:=Ai ok hl pl;have hz:=fI mp hw hx;rw[hxa,xL hl pl] at hz;by_cases cd:(dn ls v==fw)=true
 .rw[if_pos cd] at hz;have hpc:(ie F ls ((ae ls).idxOf v)).length<=1:=by
   rw[<- hp1];unfold gI;have:=(rj (F:=F) (ls:=ls) w (Fc.new ls (w.headD 0))).2 _ hz (by omega);rwa[show(2*ls.length+2*(ae ls).idxOf v-2*ls.length)/2=(ae ls).idxOf v by omega] at this
  have hk:(ae ls).idxOf v+1<(ae ls).length:=by
   unfold ie at hpc;simp only at hpc;split at hpc
   .assumption
   rw[aaY,fV,fV] at hpc;omega
  obtain⟨m,hm,pm⟩:=tE hk;have hg:m.gate<=l.gate:=by unfold ie at hpc;simp only at hpc;rw[if_pos hk,fV,i2,aa7 hk,ze hl,ze hm] at hpc;have:=(ok.ax.dX l (aae hl) pl).g0;have:=(ok.ax.dX m (aae hm) pm).g0;omega
  obtain⟨r1,r2⟩:=Ga ok hk i2 rfl hl hm pl pm hg;have hz2:=fI mp hw hz;rw[uV,aa7 hk] at hz2;exact⟨_,m,_,hz2,hm,pm,r1,.inl ⟨eq_of_beq cd,r2,rfl⟩⟩
 rw[if_neg cd] at hz;have hmo:=aaN ((ae ls).idxOf v+(ae ls).length-1) (show 0<(ae ls).length by omega);have hb:=ft i1;generalize ((ae ls).idxOf v+(ae ls).length-1)%(ae ls).length=k at hz hmo hb;have hpc:(ie F ls k).length<=1:=by rw[<- hp1];unfold gI;have:=(rj (F:=F) (ls:=ls) w (Fc.new ls (w.headD 0))).2 _ hz (by omega);rwa[show(2*ls.length+2*k+1-2*ls.length)/2=k by omega] at this
 have hk:k+1<(ae ls).length:=by
  unfold ie at hpc;simp only at hpc;split at hpc
  .assumption
  rw[aaY,fV,fV] at hpc;omega
 rw[aa7 hk] at hb;obtain⟨m,hm,pm⟩:=tE hmo;have hg:l.gate<=m.gate:=by unfold ie at hpc;simp only at hpc;rw[if_pos hk,fV,aa7 hk,hb,i2,ze hl,ze hm] at hpc;have:=(ok.ax.dX l (aae hl) pl).g0;have:=(ok.ax.dX m (aae hm) pm).g0;omega
 obtain⟨r1,r2⟩:=Ga ok hk rfl (by rw[hb];exact i2) hm hl pm pl hg;have hz2:=fI mp hw hz;rw[uW] at hz2;refine⟨_,m,_,hz2,hm,pm,r1.symm,.inr ⟨?_,r2,rfl⟩⟩;revert cd;cases dn ls v<;>cases fw<;>simp
theorem u4{l:List Pc}{i:Nat}{r:Int}{p:Pc}(h:l[i]?=some p)(j:Nat):(ek l i r)[j]?=if j=i then some ⟨{p.l with aag:=r},p.d⟩ else l[j]? :=by
 have hl:=(aai.1 h).1;unfold ek;rw[aaC,h,abv,abI];by_cases c:j=i
 .subst c;rw[if_pos rfl,if_pos hl,if_pos rfl]
 rw[if_neg (Ne.symm c),if_neg c]
theorem u5{q:Pc->Bool}{l:List Pc}{i:Nat}{r:Int}{p:Pc}(h:l[i]?=some p)(hq:∀p:Pc,q ⟨{p.l with aag:=r},p.d⟩=q p):(ek l i r).countP q=l.countP q:=by unfold ek;rw[aaC,h,abv];have:=Eg (p:=q) (y:=⟨{p.l with aag:=r},p.d⟩) h;rw[hq] at this;show List.countP q (l.set i ⟨{p.l with aag:=r},p.d⟩)=_;omega
theorem E6(g:cV F ls){a b:Nat}(ha:a<ls.length)(hb:b<ls.length)(hab:a≠b){va vb pa pb:Nat}{la lb ma mb:Let}
  (ea:(pa=a/\va=nx ls a)\/(pa=nx ls a/\va=a)) (eb:(pb=b/\vb=nx ls b)\/(pb=nx ls b/\vb=b)) (hla:ls[va]?=some la) (hlb:ls[vb]?=some lb) (hma:ls[pa]?=some ma) (hmb:ls[pb]?=some mb)
  (ca:la.aD=true) (cb:lb.aD=true) (qa:ma.aH=true) (qb:mb.aH=true) (hid:la.id=lb.id) (hv:va≠vb) (afR:kV F ls 1 [a,b] a=true):
  ∃w,w∈cP (cq ls) (nD ls)/\(gI F ls w).places.length=1/\ ∃d,d∈w/\d<2*ls.length/\cq ls d∈w/\cq ls d<2*ls.length/\(∀y,y∈w->y<2*ls.length->y=d\/y=cq ls d)/\
   ((d/2=a/\cq ls d/2=b/\oT ls.length d=pa/\oH ls.length d=va/\oT ls.length (cq ls d)=vb/\oH ls.length (cq ls d)=pb)\/(d/2=b/\cq ls d/2=a/\oT ls.length d=pb/\oH ls.length d=vb/\oT ls.length (cq ls d)=va/\oH ls.length (cq ls d)=pa)):=by
 have ok:=g.ok;obtain⟨w,hw,hp1,hlen,hE⟩:=qW g ha afR;obtain⟨da,da1,da2,da3⟩:=hE a (by simp);obtain⟨db,db1,db2,db3⟩:=hE b (by simp);have hne:da≠db:=by omega
 have inD:∀d,d∈w->d<2*ls.length->d∈w.filter fun x=>decide (x<2*ls.length):=fun d h1 h2=>ab4.2 ⟨h1,by simpa using h2⟩;have two:∀d,d∈w->d<2*ls.length->d=da\/d=db:=fun d h1 h2=>EK hlen (inD da da1 da2) (inD db db1 db2) hne (inD d h1 h2);have ends:∀d e p v:Nat,d/2=e->((p=e/\v=nx ls e)\/(p=nx ls e/\v=e))->(oT ls.length d=p/\oH ls.length d=v)\/(oT ls.length d=v/\oH ls.length d=p):=fun d e p v h1 h2=>by
  unfold oT oH;rw[h1];show((if _ then e else nx ls e)=p/\(if _ then nx ls e else e)=v)\/((if _ then e else nx ls e)=v/\(if _ then nx ls e else e)=p);rcases h2 with ⟨rfl,rfl⟩|⟨rfl,rfl⟩<;>split
  .exact .inl ⟨rfl,rfl⟩
  .exact .inr ⟨rfl,rfl⟩
  .exact .inr ⟨rfl,rfl⟩
  exact .inl ⟨rfl,rfl⟩
 have pc:∀ {x y:Nat} {l m:Let},ls[x]?=some l->ls[y]?=some m->l.aD=true->m.aH=true->x≠y:=fun h1 h2 h3 h4 e=>by subst e;rw[h1] at h2;have:=abP h2;rw[this,dL h4] at h3;cases h3
 -- a dart that leads to the crossing goes on at the other visit
 have go:∀(d d' p v p' v':Nat) (l m l' m':Let),d∈w->d<2*ls.length->d'<2*ls.length->oT ls.length d=p->oH ls.length d=v->ls[v]?=some l->ls[p]?=some m->ls[v']?=some l'->ls[p']?=some m'->l.aD=true->m.aH=true->l'.aD=true->m'.aH=true->l.id=l'.id->v≠v'->(∀y,y∈w->y<2*ls.length->y=d\/y=d')->((oT ls.length d'=p'/\oH ls.length d'=v')\/(oT ls.length d'=v'/\oH ls.length d'=p'))->cq ls d=d'/\oT ls.length d'=v'/\oH ls.length d'=p':=by
  intro d d' p v p' v' l m l' m' d1 d2 d2' hT hH hl hm hl' hm' cl pm cl' pm' hid hv tw en;obtain⟨s1,s2,_⟩:=iW g d2 (by rw[hH];exact hl) cl;rw[hH,jC g hl hl' cl cl' hid hv] at s2;rcases tw _ (fI (maps ok) hw d1) s1 with e|e
  .exfalso;rw[e,hT] at s2;exact pc hl' hm cl' pm s2.symm
  rw[e] at s2;rcases en with ⟨e1,_⟩|⟨e1,e2⟩
  .exact absurd (s2.symm.trans e1) (pc hl' hm' cl' pm')
  exact⟨e,e1,e2⟩
 have na:=ends da a pa va da3 ea;have nb:=ends db b pb vb db3 eb;rcases na with ⟨t1,t2⟩|⟨t1,t2⟩
 .obtain⟨e1,e2,e3⟩:=go da db pa va pb vb la ma lb mb da1 da2 db2 t1 t2 hla hma hlb hmb ca qa cb qb hid hv two nb;refine⟨w,hw,hp1,da,da1,da2,by rw[e1];exact db1,by rw[e1];exact db2,by rw[e1];exact two,.inl ⟨da3,by rw[e1];exact db3,t1,t2,by rw[e1];exact e2,by rw[e1];exact e3⟩⟩
 · -- the dart of the first edge leads to the pass: the other one leads to the crossing
  obtain⟨u,m,y,y1,y2,y3,_,y4⟩:=BM g hw hp1 da1 (v:=pa) (fw:=dh da) (by rw[<- t2];exact zN da2) hma qa;have hu:=(aai.1 y2).1;have yT:oT ls.length y=u/\y<2*ls.length:=by
   have key:∀f,oT ls.length (aI ls.length u f)=u/\aI ls.length u f<2*ls.length:=fun f=>⟨(xw hu).1,by
    have:=pM hu (!f);rw[<- jf] at this;have:=sK this;rwa[sJ] at this⟩
   rcases y4 with ⟨_,_,e⟩|⟨_,_,e⟩<;>rw[e]<;>exact key _
  have yb:y=db:=by
   rcases two y y1 yT.2 with e|e
   .exfalso;rw[e,t1] at yT;rw[<- yT.1] at y2;rw[hla] at y2;have:=abP y2;rw[<- this,cF ca] at y3;cases y3
   exact e
  have nb':oT ls.length db=pb/\oH ls.length db=vb:=by
   rcases nb with h|⟨h1,h2⟩
   .exact h
   exfalso;rw[yb,h1] at yT;rw[<- yT.1,hlb] at y2;have:=abP y2;rw[<- this,cF cb] at y3;cases y3
  obtain⟨e1,e2,e3⟩:=go db da pb vb pa va lb mb la ma db1 db2 da2 nb'.1 nb'.2 hlb hmb hla hma cb qb ca qa hid.symm hv.symm (fun y h1 h2=>(two y h1 h2).symm) (.inr ⟨t1,t2⟩);refine⟨w,hw,hp1,db,db1,db2,by rw[e1];exact da1,by rw[e1];exact da2,by rw[e1];exact fun y h1 h2=>(two y h1 h2).symm,.inr ⟨db3,by rw[e1];exact da3,nb'.1,nb'.2,by rw[e1];exact e2,by rw[e1];exact e3⟩⟩
end
section
variable {F:Nat} {ls:List Let}
theorem Fn{e:Nat}(hn:0<ls.length)(he:e<ls.length)(h:(tc ls e).2.2=true):(((tc ls e).1=e/\(tc ls e).2.1=nx ls e)\/((tc ls e).1=nx ls e/\(tc ls e).2.1=e))/\(∃l,ls[(tc ls e).2.1]?=some l/\l.aD=true)/\ ∃m,ls[(tc ls e).1]?=some m/\m.aH=true:=by
 obtain⟨l,hl⟩:=ao he;obtain⟨m,hm⟩:=ao (ls:=ls) (k:=nx ls e) (aaN _ hn);have e1:pA ls e=⟨l,r8 ls e⟩:=eD (cZ hl);have e2:pA ls (nx ls e)=⟨m,r8 ls (nx ls e)⟩:=eD (cZ hm);unfold tc at h ⊢;rw[e1,e2] at h ⊢;by_cases c:(l.kind==2)=true
 .rw[if_pos c] at h ⊢;exact⟨.inr ⟨rfl,rfl⟩,⟨l,hl,c⟩,m,hm,h⟩
 rw[if_neg c] at h ⊢;simp only[aay] at h;exact⟨.inl ⟨rfl,rfl⟩,⟨m,hm,h.2⟩,l,hl,h.1⟩
theorem V8{f:Bool}{x y:a8}(h1:(k9 f x).b=(k9 f y).b)(h2:(nU f x).b=(nU f y).b):x.i.b=y.i.b/\x.o.b=y.o.b:=by
 rw[Ce,Ce] at h1;rw[Bx,Bx] at h2;cases f
 .exact⟨h2,h1⟩
 exact⟨h1,h2⟩
theorem V9{f:Bool}{x:a8}(h:(k9 f x).b=(nU f x).b):x.i.b=x.o.b:=by
 rw[Ce,Bx] at h;cases f
 .exact h.symm
 exact h
theorem QB{f:Bool}{x:a8}(h:x.i.b=x.o.b):(k9 f x).b=(nU f x).b:=by
 rw[Ce,Bx];cases f
 .exact h.symm
 exact h
theorem CG{l:Let}{r:Int}(hp:l.aH=true)(h:ch F l=false):ch F {l with aag:=r}=false:=by have hp':({l with aag:=r}:Let).aH=true:=hp;rw[dG hp] at h;rw[dG hp'];exact h
theorem Ab(g:cV F ls){w:List Nat}(hw:w∈cP (cq ls) (nD ls))(hp1:(gI F ls w).places.length=1){d d':Nat}(hd:d∈w)(ld:d<2*ls.length)(hd':d'∈w)(ld':d'<2*ls.length)(hnx:cq ls d=d')(two:∀y,y∈w->y<2*ls.length->y=d\/y=d')
  {lp lv lw lq:Let} (htp:ls[oT ls.length d]?=some lp) (hhv:ls[oH ls.length d]?=some lv) (htw:ls[oT ls.length d']?=some lw) (hhq:ls[oH ls.length d']?=some lq) (pp:lp.aH=true) (cv:lv.aD=true) (cw:lw.aD=true) (pq:lq.aH=true)
  {P:List Pc} (hPl:P.length=ls.length) (abG:∀q:Let->Bool,(∀(l:Let) (r:Int),q {l with aag:=r}=q l)->aA q (P.map Pc.l)=aA q ls)
  (hP:oT ls.length d≠oH ls.length d'->P[oT ls.length d]?=(pieces ls)[oH ls.length d]? /\P[oH ls.length d]?=some ⟨{lp with aag:=lq.aag},r8 ls (oT ls.length d)⟩/\P[oT ls.length d']?=some ⟨{lq with aag:=lp.aag},r8 ls (oH ls.length d')⟩/\P[oH ls.length d']?=(pieces ls)[oT ls.length d']? /\
   ∀i,i≠oT ls.length d->i≠oH ls.length d->i≠oT ls.length d'->i≠oH ls.length d'->P[i]?=(pieces ls)[i]?):Cert F P:=by
 have ok:=g.ok;have cz:=g.cz;have hn:0<ls.length:=abh.2 g.ne;have t1:=FC g ld;have t2:=FC g ld';have h1:=BA g ld;have h2:=BA g ld'
 -- the neighbours on the US
 obtain⟨u,m,y,y1,y2,y3,hgt,y4⟩:=BM g hw hp1 hd' (v:=oH ls.length d') (fw:=dh d') (zN ld') hhq pq;have hu:=(aai.1 y2).1;have yT:∀f,oT ls.length (aI ls.length u f)=u/\dh (aI ls.length u f)=f/\aI ls.length u f<2*ls.length:=fun f=>⟨(xw hu).1,(xw hu).2,by
  have:=pM hu (!f);rw[<- jf] at this;have:=sK this;rwa[sJ] at this⟩
 have yd:y=d:=by
  have hyt:oT ls.length y=u/\y<2*ls.length:=by rcases y4 with ⟨_,_,e⟩|⟨_,_,e⟩<;>rw[e]<;>exact⟨(yT _).1,(yT _).2.2⟩
  rcases two y y1 hyt.2 with e|e
  .exact e
  exfalso;rw[e] at hyt;rw[<- hyt.1,htw] at y2;have:=abP y2;rw[<- this,cF cw] at y3;cases y3
 subst yd;have hu':oT ls.length y=u:=by rcases y4 with ⟨_,_,e⟩|⟨_,_,e⟩<;>rw[e]<;>exact(yT _).1
 subst hu';rw[htp] at y2;cases y2
 -- cR: aaw the US
 obtain⟨cR,hR⟩:∃cR:Bool,(cR=true/\dn ls (oH ls.length d')=dh d'/\lp.aag=lq.aag+1/\dh y= !dn ls (oT ls.length y))\/(cR=false/\dn ls (oH ls.length d')=(!dh d')/\lq.aag=lp.aag+1/\dh y=dn ls (oT ls.length y)):=by
  rcases y4 with ⟨e1,e2,e3⟩|⟨e1,e2,e3⟩
  .exact⟨true,.inl ⟨rfl,e1,e2,(congrArg dh e3).trans (yT _).2.1⟩⟩
  exact⟨false,.inr ⟨rfl,e1,e2,(congrArg dh e3).trans (yT _).2.1⟩⟩
 clear y4 yT y1 y3 hu;have hrk:lp.aag≠lq.aag:=by rcases hR with ⟨_,_,h,_⟩|⟨_,_,h,_⟩<;>omega
 have npq:oT ls.length y≠oH ls.length d':=fun e=>by rw[e,hhq] at htp;have:=abP htp;rw[this] at hrk;exact hrk rfl
 obtain⟨pT,pH,pT',pH',pU⟩:=hP npq;clear hP;obtain⟨_,o1,q1,k1⟩:=iW g ld hhv cv;rw[hnx] at o1 q1 k1;rw[rY ld,nc ld'] at k1;obtain⟨xa,xb,xc,xd⟩:=k1;simp only[if_true] at xa xb xc xd;have pc:∀ {x y:Nat} {l m:Let},ls[x]?=some l->ls[y]?=some m->l.aD=true->m.aH=true->x≠y:=fun h1 h2 h3 h4 e=>by subst e;rw[h1] at h2;have:=abP h2;rw[this,dL h4] at h3;cases h3
 have nvw:oH ls.length y≠oT ls.length d':=by intro e;obtain⟨_,m,hm,_,_,mo,_⟩:=bt ok.cr hhv cv;rw[<- o1,<- e,hhv] at hm;have:=abP hm;rw[<- this] at mo;revert mo;cases lv.over<;>simp
 have nvp:=pc hhv htp cv pp;have nvq:=pc hhv hhq cv pq;have nwp:=pc htw htp cw pp;have nwq:=pc htw hhq cw pq
 -- ends of the edges
 have ee:∀d:Nat,(oT ls.length d=d/2/\oH ls.length d=nx ls (d/2))\/(oT ls.length d=nx ls (d/2)/\oH ls.length d=d/2):=fun d=>by
  unfold oT oH nx;split
  .exact .inl ⟨rfl,rfl⟩
  exact .inr ⟨rfl,rfl⟩
 have apart:y/2≠d'/2/\y/2≠nx ls (d'/2)/\nx ls (y/2)≠d'/2/\nx ls (y/2)≠nx ls (d'/2)/\y/2≠nx ls (y/2)/\d'/2≠nx ls (d'/2):=by
  rcases ee y with ⟨a1,a2⟩|⟨a1,a2⟩<;>rcases ee d' with ⟨b1,b2⟩|⟨b1,b2⟩
  .rw[<- a2,<- a1,<- b2,<- b1];exact⟨nwp.symm,npq,nvw,nvq,nvp.symm,nwq⟩
  .rw[<- a2,<- a1,<- b1,<- b2];exact⟨npq,nwp.symm,nvq,nvw,nvp.symm,nwq.symm⟩
  .rw[<- a1,<- a2,<- b2,<- b1];exact⟨nvw,nvq,nwp.symm,npq,nvp,nwq⟩
  rw[<- a1,<- a2,<- b1,<- b2];exact⟨nvq,nvw,npq,nwp.symm,nvp,nwq.symm⟩
 let tau:=(oK ls y).l
 let tI:=k9 (dh y) (hU ls (oT ls.length y))
 let hO:=nU (dh d') (hU ls (oH ls.length d'))
 let oth:=(nU (dh y) (hU ls (oH ls.length y))).r
 let K1:iZ:=⟨hO.r,tau,tI.b⟩
 let K2:iZ:=⟨tI.r,tau,hO.b⟩
 let sd:Nat->iZ:=fun j=>if j=y/2 then uo (dh y) K1 else if j=d'/2 then uo (dh d') K2 else Bk ls j
 have sd1:sd (y/2)=uo (dh y) K1:=if_pos rfl;have sd2:sd (d'/2)=uo (dh d') K2:=by show(if _ then _ else _)=_;rw[if_neg apart.1.symm,if_pos rfl]
 have sdn:∀j,j≠y/2->j≠d'/2->sd j=Bk ls j:=fun j h1 h2=>by show(if _ then _ else _)=_;rw[if_neg h1,if_neg h2]
 have prev:∀i,i<ls.length->i≠nx ls (y/2)->i≠nx ls (d'/2)->sd ((i+ls.length-1)%ls.length)=Bk ls ((i+ls.length-1)%ls.length):=fun i hi n1 n2=>sdn _ (fun h=>n1 (ll hi h)) (fun h=>n2 (ll hi h))
 obtain⟨z1,z2,z3,z4,z5,z6⟩:=apart;have G1:=Gx (P:=P) hPl ld sd1 (prev _ (by omega) z5 z2) (sdn _ z5.symm z3);have G2:=Gx (P:=P) hPl ld' sd2 (prev _ (by omega) z3.symm z6) (sdn _ z2.symm z6.symm);have un:∀i,i<ls.length->i≠oT ls.length y->i≠oH ls.length y->i≠oT ls.length d'->i≠oH ls.length d'->dN P sd i=hU ls i:=fun i hi n1 n2 n3 n4=>by
  have a1:i≠y/2/\i≠nx ls (y/2):=by
   rcases ee y with ⟨a1,a2⟩|⟨a1,a2⟩
   .rw[<- a2,<- a1];exact⟨n1,n2⟩
   rw[<- a1,<- a2];exact⟨n2,n1⟩
  have a2:i≠d'/2/\i≠nx ls (d'/2):=by
   rcases ee d' with ⟨a1,a2⟩|⟨a1,a2⟩
   .rw[<- a2,<- a1];exact⟨n3,n4⟩
   rw[<- a1,<- a2];exact⟨n4,n3⟩
  exact QK hPl hi (pU i n1 n2 n3 n4) (prev i hi a1.2 a2.2) (sdn i a1.1 a2.1)
 have six:∀i,i<ls.length->(i=oT ls.length y\/i=oH ls.length y\/i=oT ls.length d'\/i=oH ls.length d')\/(dN P sd i=hU ls i/\i≠oT ls.length y/\i≠oH ls.length y/\i≠oT ls.length d'/\i≠oH ls.length d'):=fun i hi=>by
  rcases Classical.em (i=oT ls.length y\/i=oH ls.length y\/i=oT ls.length d'\/i=oH ls.length d') with h|h
  .exact .inl h
  simp only[not_or] at h;exact .inr ⟨un i hi h.1 h.2.1 h.2.2.1 h.2.2.2,h⟩
 have gp:∀ {i:Nat} {p:Pc},P[i]?=some p->(dN P sd i).p=p:=fun {i p} h=>by show P.getD i _=_;rw[aaC,h];rfl
 have kT:(dN P sd (oT ls.length y)).k=lv:=congrArg Pc.l (gp (pT.trans (cZ hhv)));have kH:(dN P sd (oH ls.length y)).k={lp with aag:=lq.aag}:=congrArg Pc.l (gp pH);have kT':(dN P sd (oT ls.length d')).k={lq with aag:=lp.aag}:=congrArg Pc.l (gp pT');have kH':(dN P sd (oH ls.length d')).k=lw:=congrArg Pc.l (gp (pH'.trans (cZ htw)));have dH:(dN P sd (oH ls.length y)).p.d=(hU ls (oT ls.length y)).p.d:=by rw[gp pH];rfl
 have dT':(dN P sd (oT ls.length d')).p.d=(hU ls (oH ls.length d')).p.d:=by rw[gp pT'];rfl
 have okv:=(qT g h1).cb (by rw[bk hhv];exact cv);have okw:=(qT g t2).cb (by rw[bk htw];exact cw);have bv:=QB (f:=dh y) okv;have bw:=QB (f:=dh d') okw;rw[rY ld] at bv;rw[nc ld'] at bw;have bp:=nc (ls:=ls) ld;have bq:=rY (ls:=ls) ld';have gdp:=ok.ax.dX lp (aae htp) pp;have gdq:=ok.ax.dX lq (aae hhq) pq;have plp:=Eb g htp pp;have plq:=Eb g hhq pq;obtain⟨p1,p2,p3,p4⟩:=plp;obtain⟨p5,p6,p7,p8⟩:=plq;rw[bk htp] at p1 p2 p3 p4;rw[bk hhq] at p5 p6 p7 p8;have hdp:=KL g htp pp;have hdq:=KL g hhq pq;rw[sG (dh y)] at p1 p2;rw[sN (dh y)] at p3 p4;rw[sG (dh d')] at p5 p6;rw[sN (dh d')] at p7 p8;rw[hdp,bp] at p1 p2 p3 p4;rw[hdq,bq] at p5 p6 p7 p8;have cgq:cg ls lq.gate.toNat=cg ls lp.gate.toNat:=by rw[hgt]
 obtain⟨gp0,gp1,gp2,gp3⟩:=gdp;obtain⟨gq0,gq1,gq2,gq3⟩:=gdq;rw[cgq] at gq3;rw[hgt] at p5 p6 p7 p8;obtain⟨r,T',B',hr1,hr2,aaH,hT,pl1,pl2,hll⟩:∃(r:Nat) (T' B':Nat->Nat->Nat),1<=r/\r<cg ls lp.gate.toNat/\((lp.aag=(r:Int)/\lq.aag=(r:Int)+1)\/(lq.aag=(r:Int)/\lp.aag=(r:Int)+1))/\(∀k j,¬(k=lp.gate.toNat/\j=r)->T' k j=TF ls k j/\B' k j=BF ls k j)/\
   WR T' B' (dN P sd (oH ls.length y))/\WR T' B' (dN P sd (oT ls.length d'))/\tI.l=hO.l:=by
  rcases hR with ⟨_,hdn,am5,hev⟩|⟨_,hdn,am5,hev⟩
  .have f1:(dh y==dn ls (oT ls.length y))=false:=by rw[hev];cases dn ls (oT ls.length y)<;>rfl
   have f2:(dh d'==dn ls (oH ls.length d'))=true:=by rw[hdn];cases dh d'<;>rfl
   rw[f1] at p1 p2 p3 p4;rw[f2] at p5 p6 p7 p8;simp only[aaE,if_false,if_true] at p1 p2 p3 p4 p5 p6 p7 p8;have er:lp.aag.toNat=lq.aag.toNat+1:=by omega
   rw[er] at p1 p2 p3 p4;rw[Nat.add_sub_cancel] at p1 p3;refine⟨lq.aag.toNat,fun k j=>if k=lp.gate.toNat/\j=lq.aag.toNat then oth else TF ls k j,fun k j=>if k=lp.gate.toNat/\j=lq.aag.toNat then tau else BF ls k j,by omega,by omega,.inr ⟨by omega,by omega⟩,fun k j h=>⟨if_neg h,if_neg h⟩,?_,?_,?_⟩
   .constructor
    .rw[kH,sG (dh y),dH,hdp,f1];show(pV (nU (dh y) (dN P sd (oH ls.length y)))).r=if lp.gate.toNat=lp.gate.toNat/\lq.aag.toNat-1=lq.aag.toNat then oth else TF ls lp.gate.toNat (lq.aag.toNat-1);rw[if_neg (by omega),G1.2.2.2];exact xd.symm.trans p5
    .rw[kH,sG (dh y),dH,hdp,f1];show(pV (nU (dh y) (dN P sd (oH ls.length y)))).l=if lp.gate.toNat=lp.gate.toNat/\lq.aag.toNat=lq.aag.toNat then oth else TF ls lp.gate.toNat lq.aag.toNat;rw[if_pos ⟨rfl,rfl⟩,G1.2.2.2];rfl
    .rw[kH,sN (dh y),dH,hdp,f1];show(pV (k9 (dh y) (dN P sd (oH ls.length y)))).r=if lp.gate.toNat=lp.gate.toNat/\lq.aag.toNat-1=lq.aag.toNat then tau else BF ls lp.gate.toNat (lq.aag.toNat-1);rw[if_neg (by omega),G1.2.2.1];exact p7
    rw[kH,sN (dh y),dH,hdp,f1];show(pV (k9 (dh y) (dN P sd (oH ls.length y)))).l=if lp.gate.toNat=lp.gate.toNat/\lq.aag.toNat=lq.aag.toNat then tau else BF ls lp.gate.toNat lq.aag.toNat;rw[if_pos ⟨rfl,rfl⟩,G1.2.2.1];rfl
   .constructor
    .rw[kT',sG (dh d'),dT',hdq,f2];show(k9 (dh d') (dN P sd (oT ls.length d'))).r=if lq.gate.toNat=lp.gate.toNat/\lp.aag.toNat-1=lq.aag.toNat then oth else TF ls lq.gate.toNat (lp.aag.toNat-1);rw[if_pos ⟨by rw[hgt],by omega⟩,G2.1];exact xb.symm
    .rw[kT',sG (dh d'),dT',hdq,f2];show(k9 (dh d') (dN P sd (oT ls.length d'))).l=if lq.gate.toNat=lp.gate.toNat/\lp.aag.toNat=lq.aag.toNat then oth else TF ls lq.gate.toNat lp.aag.toNat;rw[if_neg (by omega),G2.1,hgt,er];exact xc.trans p2
    .rw[kT',sN (dh d'),dT',hdq,f2];show(nU (dh d') (dN P sd (oT ls.length d'))).r=if lq.gate.toNat=lp.gate.toNat/\lp.aag.toNat-1=lq.aag.toNat then tau else BF ls lq.gate.toNat (lp.aag.toNat-1);rw[if_pos ⟨by rw[hgt],by omega⟩,G2.2.1]
    rw[kT',sN (dh d'),dT',hdq,f2];show(nU (dh d') (dN P sd (oT ls.length d'))).l=if lq.gate.toNat=lp.gate.toNat/\lp.aag.toNat=lq.aag.toNat then tau else BF ls lq.gate.toNat lp.aag.toNat;rw[if_neg (by omega),G2.2.1,hgt,er];exact p4
   exact p3.trans p8.symm
  have f1:(dh y==dn ls (oT ls.length y))=true:=by rw[hev];cases dn ls (oT ls.length y)<;>rfl
  have f2:(dh d'==dn ls (oH ls.length d'))=false:=by rw[hdn];cases dh d'<;>rfl
  rw[f1] at p1 p2 p3 p4;rw[f2] at p5 p6 p7 p8;simp only[aaE,if_false,if_true] at p1 p2 p3 p4 p5 p6 p7 p8;have er:lq.aag.toNat=lp.aag.toNat+1:=by omega
  rw[er] at p5 p6 p7 p8;rw[Nat.add_sub_cancel] at p5 p7;refine⟨lp.aag.toNat,fun k j=>if k=lp.gate.toNat/\j=lp.aag.toNat then tau else TF ls k j,fun k j=>if k=lp.gate.toNat/\j=lp.aag.toNat then oth else BF ls k j,by omega,by omega,.inl ⟨by omega,by omega⟩,fun k j h=>⟨if_neg h,if_neg h⟩,?_,?_,?_⟩
  .constructor
   .rw[kH,sG (dh y),dH,hdp,f1];show(k9 (dh y) (dN P sd (oH ls.length y))).r=if lp.gate.toNat=lp.gate.toNat/\lq.aag.toNat-1=lp.aag.toNat then tau else TF ls lp.gate.toNat (lq.aag.toNat-1);rw[if_pos ⟨rfl,by omega⟩,G1.2.2.1]
   .rw[kH,sG (dh y),dH,hdp,f1];show(k9 (dh y) (dN P sd (oH ls.length y))).l=if lp.gate.toNat=lp.gate.toNat/\lq.aag.toNat=lp.aag.toNat then tau else TF ls lp.gate.toNat lq.aag.toNat;rw[if_neg (by omega),G1.2.2.1,er];exact p6
   .rw[kH,sN (dh y),dH,hdp,f1];show(nU (dh y) (dN P sd (oH ls.length y))).r=if lp.gate.toNat=lp.gate.toNat/\lq.aag.toNat-1=lp.aag.toNat then oth else BF ls lp.gate.toNat (lq.aag.toNat-1);rw[if_pos ⟨rfl,by omega⟩,G1.2.2.2]
   rw[kH,sN (dh y),dH,hdp,f1];show(nU (dh y) (dN P sd (oH ls.length y))).l=if lp.gate.toNat=lp.gate.toNat/\lq.aag.toNat=lp.aag.toNat then oth else BF ls lp.gate.toNat lq.aag.toNat;rw[if_neg (by omega),G1.2.2.2,er];exact xd.symm.trans p8
  .constructor
   .rw[kT',sG (dh d'),dT',hdq,f2];show(pV (nU (dh d') (dN P sd (oT ls.length d')))).r=if lq.gate.toNat=lp.gate.toNat/\lp.aag.toNat-1=lp.aag.toNat then tau else TF ls lq.gate.toNat (lp.aag.toNat-1);rw[if_neg (by omega),G2.2.1,hgt];exact p1
   .rw[kT',sG (dh d'),dT',hdq,f2];show(pV (nU (dh d') (dN P sd (oT ls.length d')))).l=if lq.gate.toNat=lp.gate.toNat/\lp.aag.toNat=lp.aag.toNat then tau else TF ls lq.gate.toNat lp.aag.toNat;rw[if_pos ⟨by rw[hgt],rfl⟩,G2.2.1];rfl
   .rw[kT',sN (dh d'),dT',hdq,f2];show(pV (k9 (dh d') (dN P sd (oT ls.length d')))).r=if lq.gate.toNat=lp.gate.toNat/\lp.aag.toNat-1=lp.aag.toNat then oth else BF ls lq.gate.toNat (lp.aag.toNat-1);rw[if_neg (by omega),G2.1,hgt];exact xc.trans p3
   rw[kT',sN (dh d'),dT',hdq,f2];show(pV (k9 (dh d') (dN P sd (oT ls.length d')))).l=if lq.gate.toNat=lp.gate.toNat/\lp.aag.toNat=lp.aag.toNat then oth else BF ls lq.gate.toNat lp.aag.toNat;rw[if_pos ⟨by rw[hgt],rfl⟩,G2.1];exact xb.symm
  exact p2.trans p5.symm
 clear p1 p2 p3 p4 p5 p6 p7 p8 hR;have mgp:∀i,i<ls.length->(dN P sd i).k.aH=true->(i=oH ls.length y\/i=oT ls.length d')\/(dN P sd i=hU ls i/\i≠oT ls.length y/\i≠oH ls.length y/\i≠oT ls.length d'/\i≠oH ls.length d'):=fun i hi hp=>by
  rcases six i hi with (rfl|rfl|rfl|rfl)|h
  .rw[kT,cF cv] at hp;cases hp
  .exact .inl (.inl rfl)
  .exact .inl (.inr rfl)
  .rw[kH',cF cw] at hp;cases hp
  exact .inr h
 have mgc:∀i,i<ls.length->(dN P sd i).k.aD=true->(i=oT ls.length y\/i=oH ls.length d')\/(dN P sd i=hU ls i/\i≠oT ls.length y/\i≠oH ls.length y/\i≠oT ls.length d'/\i≠oH ls.length d'):=fun i hi hc=>by
  have n1:∀(l:Let) (r:Int),l.aH=true->({l with aag:=r}:Let).aD=false:=fun l r h=>dL (l:={l with aag:=r}) h;rcases six i hi with (rfl|rfl|rfl|rfl)|h
  .exact .inl (.inl rfl)
  .rw[kH,n1 _ _ pp] at hc;cases hc
  .rw[kT',n1 _ _ pq] at hc;cases hc
  .exact .inl (.inr rfl)
  exact .inr h
 -- the place of a pass is that of an old one
 have old:∀i,i<ls.length->(dN P sd i).k.aH=true->∃j l,ls[j]?=some l/\l.aH=true/\(dN P sd i).k.gate=l.gate/\(dN P sd i).k.aag=l.aag/\((i=oH ls.length y/\j=oH ls.length d')\/(i=oT ls.length d'/\j=oT ls.length y)\/(i=j/\i≠oT ls.length y/\i≠oH ls.length d')):=fun i hi hp=>by
  rcases mgp i hi hp with (rfl|rfl)|⟨e,n1,n2,n3,n4⟩
  .exact⟨_,lq,hhq,pq,by rw[kH];exact hgt.symm,by rw[kH],.inl ⟨rfl,rfl⟩⟩
  .exact⟨_,lp,htp,pp,by rw[kT'];exact hgt,by rw[kT'],.inr (.inl ⟨rfl,rfl⟩)⟩
  obtain⟨l,hl⟩:=ao hi;rw[e] at hp;rw[bk hl] at hp;exact⟨i,l,hl,hp,by rw[e,bk hl],by rw[e,bk hl],.inr (.inr ⟨rfl,n1,n4⟩)⟩
 have C1:Xc (dN P sd (oT ls.length y)) (dN P sd (oH ls.length d')):=by
  obtain⟨b1,m,hm,mc,mi,mo,ms⟩:=bt ok.cr hhv cv;rw[<- o1,htw] at hm;have em:=abP hm;subst em;refine⟨by rw[kT,kH',mo];simp,by rw[kT,kH',ms],?_⟩;rw[kT,q1,<- RP,G1.1,G1.2.1,G2.2.2.1,G2.2.2.2];constructor<;>simp only[if_true]
  .exact hll
  .rfl
  .rfl
  rfl
 have hid:lv.id=lw.id:=by obtain⟨b1,m,hm,mc,mi,mo,ms⟩:=bt ok.cr hhv cv;rw[<- o1,htw] at hm;rw[abP hm,mi]
 have ho2:bN ls (oT ls.length d')=oH ls.length y:=by rw[o1];exact(bt ok.cr hhv cv).1
 have labs:∀(f:Bool) i,i<ls.length->∀t,t=(k9 f (dN P sd i)).l\/t=(k9 f (dN P sd i)).r->∃j',j'<ls.length/\(t=(sd j').l\/t=(sd j').r):=fun f i hi t ht=>by
  cases f
  .refine⟨i,hi,?_⟩;rcases ht with ht|ht
   .exact .inr ht
   exact .inl ht
  refine⟨(i+P.length-1)%P.length,?_,ht⟩;rw[hPl];exact aaN _ hn
 have labo:∀(f:Bool) i,i<ls.length->∀t,t=(nU f (dN P sd i)).l\/t=(nU f (dN P sd i)).r->∃j',j'<ls.length/\(t=(sd j').l\/t=(sd j').r):=fun f i hi t ht=>by
  cases f
  .refine⟨(i+P.length-1)%P.length,?_,?_⟩
   .rw[hPl];exact aaN _ hn
   rcases ht with ht|ht
   .exact .inr ht
   exact .inl ht
  exact⟨i,hi,ht⟩
 have czgt:=cz.gt;have czgz:=cz.gz;rw[fq] at czgz;refine GP g (tau:=tau) (sd:=sd) (T':=T') (B':=B') hPl (abG _ fun _ _=>rfl) (abG _ fun _ _=>rfl) (fun k=>abG _ fun _ _=>rfl) (fun i hi=>?_) (fun i j hi hj hij ci cj e=>?_) (fun i j hi hj hij pi pj e1 e2=>?_) (fun i hi ci=>?_) (fun i hi pi=>?_) (fun i hi pi=>?_) (fun k hk=>?_) ?_ (fun j hj t ht=>?_)
 .rcases six i hi with (rfl|rfl|rfl|rfl)|⟨e,_⟩
  .exact⟨by rw[kT];exact g.bad lv (aae hhv),fun _=>V9 (f:=dh y) (by rw[G1.1,G1.2.1]),fun hp=>by rw[kT,cF cv] at hp;cases hp⟩
  .have fl:=V8 (f:=dh y) (x:=dN P sd (oH ls.length y)) (y:=hU ls (oT ls.length y)) (by rw[G1.2.2.1]) (by rw[G1.2.2.2,bp];exact bv.symm);refine⟨by rw[kH];exact CG pp (g.bad lp (aae htp)),fun hc=>?_,fun _=>?_⟩
   .rw[kH] at hc;have:=dL (l:={lp with aag:=lq.aag}) pp;rw[this] at hc;cases hc
   rw[fl.1,fl.2,dH];exact(qT g t1).pb (by rw[bk htp];exact pp)
  .have fl:=V8 (f:=dh d') (x:=dN P sd (oT ls.length d')) (y:=hU ls (oH ls.length d')) (by rw[G2.1,bq];exact bw) (by rw[G2.2.1]);refine⟨by rw[kT'];exact CG pq (g.bad lq (aae hhq)),fun hc=>?_,fun _=>?_⟩
   .rw[kT'] at hc;have:=dL (l:={lq with aag:=lp.aag}) pq;rw[this] at hc;cases hc
   rw[fl.1,fl.2,dT'];exact(qT g h2).pb (by rw[bk hhq];exact pq)
  .exact⟨by rw[kH'];exact g.bad lw (aae htw),fun _=>V9 (f:=dh d') (by rw[G2.2.2.1,G2.2.2.2]),fun hp=>by rw[kH',cF cw] at hp;cases hp⟩
  rw[e];exact qT g hi
 .rcases mgc i hi ci with (rfl|rfl)|⟨ei,n1,n2,n3,n4⟩<;>rcases mgc j hj cj with (rfl|rfl)|⟨ej,m1,m2,m3,m4⟩
  .exact absurd rfl hij
  .exact C1
  .exfalso;obtain⟨l,hl⟩:=ao hj;rw[kT,ej,bk hl] at e;rw[ej,bk hl] at cj;have:=jC g hhv hl cv cj e m2.symm;rw[<- o1] at this;exact m3 this.symm
  .exact C1.symm
  .exact absurd rfl hij
  .exfalso;obtain⟨l,hl⟩:=ao hj;rw[kH',ej,bk hl] at e;rw[ej,bk hl] at cj;have:=jC g htw hl cw cj e m3.symm;rw[ho2] at this;exact m2 this.symm
  .exfalso;obtain⟨l,hl⟩:=ao hi;rw[kT,ei,bk hl] at e;rw[ei,bk hl] at ci;have:=jC g hhv hl cv ci e.symm n2.symm;rw[<- o1] at this;exact n3 this.symm
  .exfalso;obtain⟨l,hl⟩:=ao hi;rw[kH',ei,bk hl] at e;rw[ei,bk hl] at ci;have:=jC g htw hl cw ci e.symm n3.symm;rw[ho2] at this;exact n2 this.symm
  rw[ei] at ci e ⊢;rw[ej] at cj e ⊢;exact zE g hi hj hij ci cj e
 .obtain⟨a,l,hl,_,g1',r1',c1⟩:=old i hi pi;obtain⟨b,m,hm,_,g2',r2',c2⟩:=old j hj pj;rename_i pl' pm';have hab:a≠b:=by
   intro e;rcases c1 with ⟨i1,j1⟩|⟨i1,j1⟩|⟨i1,i2,i3⟩<;>rcases c2 with ⟨k1,k2⟩|⟨k1,k2⟩|⟨k1,k2,k3⟩
   .exact hij (i1.trans k1.symm)
   .exact npq (by rw[<- k2,<- e,j1])
   .exact k3 (by rw[k1,<- e,j1])
   .exact npq (by rw[<- j1,e,k2])
   .exact hij (i1.trans k1.symm)
   .exact k2 (by rw[k1,<- e,j1])
   .exact i3 (by rw[i1,e,k2])
   .exact i2 (by rw[i1,e,k2])
   exact hij (by rw[i1,k1,e])
  have gl:=ok.ax.dX l (aae hl) pl';have gm:=ok.ax.dX m (aae hm) pm';exact hab (ok.ax.inj a b l m hl hm pl' pm' ((yx gl gm).2 ⟨by rw[<- g1',<- g2',e1],by rw[<- r1',<- r2',e2]⟩))
 .rcases mgc i hi ci with (rfl|rfl)|⟨ei,_⟩
  .rw[kT];exact g.ids.1 lv (aae hhv) cv
  .rw[kH'];exact g.ids.1 lw (aae htw) cw
  obtain⟨l,hl⟩:=ao hi;rw[ei,bk hl] at ci ⊢;exact g.ids.1 l (aae hl) ci
 .obtain⟨a,l,hl,pl',g1',r1',_⟩:=old i hi pi;rw[g1',r1'];obtain⟨_,_,b1,b2⟩:=ok.ax.dX l (aae hl) pl';exact⟨b1,b2⟩
 .rcases mgp i hi pi with (rfl|rfl)|⟨ei,n1,n2,n3,n4⟩
  .exact pl1
  .exact pl2
  obtain⟨l,hl⟩:=ao hi;rw[ei] at pi ⊢;rw[bk hl] at pi;obtain⟨a1,a2,a3,a4⟩:=Eb g hl pi;rw[bk hl] at a1 a2 a3 a4;obtain⟨b0,_,b1,b2⟩:=ok.ax.dX l (aae hl) pi;have far:l.gate.toNat=lp.gate.toNat->l.aag.toNat≠r/\l.aag.toNat-1≠r:=fun hgg=>by
   have gg:l.gate=lp.gate:=by omega
   have d1:l.aag≠lp.aag:=fun e=>n1 (ok.ax.inj i _ l lp hl htp pi pp ((yx (ok.ax.dX l (aae hl) pi) (ok.ax.dX lp (aae htp) pp)).2 ⟨gg,e⟩));have d2:l.aag≠lq.aag:=fun e=>n4 (ok.ax.inj i _ l lq hl hhq pi pq ((yx (ok.ax.dX l (aae hl) pi) (ok.ax.dX lq (aae hhq) pq)).2 ⟨by rw[gg,hgt],e⟩));rcases aaH with ⟨s1,s2⟩|⟨s1,s2⟩<;>omega
  have v1:=hT l.gate.toNat (l.aag.toNat-1) (fun⟨h1,h2⟩=>(far h1).2 h2);have v2:=hT l.gate.toNat l.aag.toNat (fun⟨h1,h2⟩=>(far h1).1 h2);constructor
  .rw[bk hl,v1.1];exact a1
  .rw[bk hl,v2.1];exact a2
  .rw[bk hl,v1.2];exact a3
  rw[bk hl,v2.2];exact a4
 .have:=czgt k hk;rw[fq] at this;have v1:=hT k (cg ls k) (fun⟨h1,h2⟩=>by rw[h1] at h2;omega);have v2:=hT (k+1) 0 (fun⟨_,h2⟩=>by omega);rw[v1.1,v1.2,v2.1,v2.2];exact this
 .have v1:=hT F (cg ls F) (fun⟨h1,h2⟩=>by rw[h1] at h2;omega);have v2:=hT 0 0 (fun⟨_,h2⟩=>by omega);rw[v1.1,v1.2,v2.1,v2.2];exact czgz
 have viaK:∀d,j=d/2->t=(oK ls d).l\/t=(oK ls d).r:=fun d hd=>by
  rw[hd] at ht;unfold oK;split
  .exact ht
  exact ht.symm
 by_cases n1:j=y/2
 .rcases viaK y n1 with h|h
  .exact .inl h
  exact .inr (labs (dh d') _ t2 t (.inl (by rw[G2.1,h];exact xc.symm)))
 by_cases n2:j=d'/2
 .rcases viaK d' n2 with h|h
  .exact .inl (h.trans xa.symm)
  exact .inr (labo (dh y) _ h1 t (.inl (by rw[G1.2.2.2,h];exact xd)))
 exact .inr ⟨j,hj,by rw[sdn j n1 n2];exact ht⟩
theorem ZU(g:cV F ls){a b:Nat}(ha:a<ls.length)(hb:b<ls.length)(hab:a≠b){L:List Pc}(h:Sr F ls a b=some L):Cert F L:=by
 unfold Sr at h;split at h
 case isFalse=>cases h
 rename_i hc;simp only[aay,abB,beq_eq_false_iff_ne,beq_iff_eq] at hc;obtain⟨h1,h2,h3,h4,h5⟩:=hc;cases h;have hn:0<ls.length:=abh.2 g.ne;have hpl:=aB ls;obtain⟨ea,⟨la,hla,ca⟩,ma,hma,qa⟩:=Fn hn ha h1;obtain⟨eb,⟨lb,hlb,cb⟩,mb,hmb,qb⟩:=Fn hn hb h2;generalize (tc ls a).1=pa at*;generalize (tc ls a).2.1=va at*;generalize (tc ls b).1=pb at*;generalize (tc ls b).2.1=vb at*;have eva:pA ls va=⟨la,r8 ls va⟩:=eD (cZ hla);have evb:pA ls vb=⟨lb,r8 ls vb⟩:=eD (cZ hlb);have epa:pA ls pa=⟨ma,r8 ls pa⟩:=eD (cZ hma);have epb:pA ls pb=⟨mb,r8 ls pb⟩:=eD (cZ hmb);rw[eva,evb] at h4;rw[epa,epb]
 obtain⟨w,hw,hp1,d,d1,d2,d3,d4,two,cs⟩:=E6 g ha hb hab ea eb hla hlb hma hmb ca cb qa qb h4 h3 h5;have pc:∀ {x y:Nat} {l m:Let},ls[x]?=some l->ls[y]?=some m->l.aD=true->m.aH=true->x≠y:=fun h1 h2 h3 h4 e=>by subst e;rw[h1] at h2;have:=abP h2;rw[this,dL h4] at h3;cases h3
 have nva:va≠pa:=pc hla hma ca qa;have nvb:vb≠pb:=pc hlb hmb cb qb;have nvab:va≠pb:=pc hla hmb ca qb;have nvba:vb≠pa:=pc hlb hma cb qa
 let PP:=ek (ek (pieces ls) pa mb.aag) pb ma.aag
 have akK:=cZ hma;have aqu:pa≠pb->(ek (pieces ls) pa mb.aag)[pb]?=some ⟨mb,r8 ls pb⟩:=fun hne=>by rw[u4 akK,if_neg hne.symm];exact cZ hmb
 have am9:∃p,(ek (pieces ls) pa mb.aag)[pb]?=some p:=ao (by rw[fW,hpl];exact(aai.1 hmb).1);have ajj:PP.length=ls.length:=by show(ek (ek _ _ _) _ _).length=_;rw[fW,fW,hpl]
 have e1:(nT ls PP a).length=ls.length:=by rw[nX,ajj]
 have hPl:(qh ls PP [a,b]).length=ls.length:=by rw[jL,ajj]
 have abG:∀q:Let->Bool,(∀(l:Let) (r:Int),q {l with aag:=r}=q l)->aA q ((qh ls PP [a,b]).map Pc.l)=aA q ls:=fun q hq=>by rw[<- xg (ls:=ls) q];show List.countP _ _=List.countP _ _;rw[ac4,ac4];show(nT ls (nT ls PP a) b).countP _=_;obtain⟨p,hp⟩:=am9;rw[ru e1 hb (Ia g hb),ru ajj ha (Ia g ha),u5 hp (fun p=>hq _ _),u5 akK (fun p=>hq _ _)]
 have PPg:pa≠pb->PP[pa]?=some ⟨{ma with aag:=mb.aag},r8 ls pa⟩/\PP[pb]?=some ⟨{mb with aag:=ma.aag},r8 ls pb⟩/\ ∀i,i≠pa->i≠pb->PP[i]?=(pieces ls)[i]? :=fun hne=>by
  have k:∀j,PP[j]?=if j=pb then some ⟨{mb with aag:=ma.aag},r8 ls pb⟩ else if j=pa then some ⟨{ma with aag:=mb.aag},r8 ls pa⟩ else (pieces ls)[j]? :=fun j=>by show(ek (ek _ _ _) _ _)[j]?=_;rw[u4 (aqu hne),u4 akK]
  refine⟨by rw[k,if_neg hne,if_pos rfl],by rw[k,if_pos rfl],fun i n1 n2=>by rw[k,if_neg n2,if_neg n1]⟩
 have swg:pa≠pb->(qh ls PP [a,b])[pa]?=PP[va]? /\(qh ls PP [a,b])[va]?=PP[pa]? /\(qh ls PP [a,b])[pb]?=PP[vb]? /\(qh ls PP [a,b])[vb]?=PP[pb]? /\ ∀i,i≠pa->i≠va->i≠pb->i≠vb->(qh ls PP [a,b])[i]?=PP[i]? :=fun hne=>by
  have k:∀i,(qh ls PP [a,b])[i]?=if i=nx ls b then (nT ls PP a)[b]? else if i=b then (nT ls PP a)[nx ls b]? else (nT ls PP a)[i]? :=fun i=>tN e1 hb i;have k2:∀i,(nT ls PP a)[i]?=if i=nx ls a then PP[a]? else if i=a then PP[nx ls a]? else PP[i]? :=fun i=>tN ajj ha i;have ka:∀i,i≠pa->i≠va->(nT ls PP a)[i]?=PP[i]? :=fun i n1 n2=>by
   rcases ea with ⟨q1,q2⟩|⟨q1,q2⟩
   .rw[k2,if_neg (by rw[<- q2];exact n2),if_neg (by rw[<- q1];exact n1)]
   rw[k2,if_neg (by rw[<- q1];exact n1),if_neg (by rw[<- q2];exact n2)]
  have kb:∀i,i≠pb->i≠vb->(qh ls PP [a,b])[i]?=(nT ls PP a)[i]? :=fun i n1 n2=>by
   rcases eb with ⟨q1,q2⟩|⟨q1,q2⟩
   .rw[k,if_neg (by rw[<- q2];exact n2),if_neg (by rw[<- q1];exact n1)]
   rw[k,if_neg (by rw[<- q1];exact n1),if_neg (by rw[<- q2];exact n2)]
  have ka2:(nT ls PP a)[pa]?=PP[va]? /\(nT ls PP a)[va]?=PP[pa]? :=by
   rcases ea with ⟨q1,q2⟩|⟨q1,q2⟩
   .exact⟨by rw[k2,if_neg (by rw[<- q2];exact nva.symm),if_pos q1,<- q2],by rw[k2,if_pos q2,<- q1]⟩
   exact⟨by rw[k2,if_pos q1,<- q2],by rw[k2,if_neg (by rw[<- q1];exact nva),if_pos q2,<- q1]⟩
  have kb2:(qh ls PP [a,b])[pb]?=(nT ls PP a)[vb]? /\(qh ls PP [a,b])[vb]?=(nT ls PP a)[pb]? :=by
   rcases eb with ⟨q1,q2⟩|⟨q1,q2⟩
   .exact⟨by rw[k,if_neg (by rw[<- q2];exact nvb.symm),if_pos q1,<- q2],by rw[k,if_pos q2,<- q1]⟩
   exact⟨by rw[k,if_pos q1,<- q2],by rw[k,if_neg (by rw[<- q1];exact nvb),if_pos q2,<- q1]⟩
  refine⟨by rw[kb _ hne nvba.symm,ka2.1],by rw[kb _ nvab h3,ka2.2],by rw[kb2.1,ka _ nvba (Ne.symm h3)],by rw[kb2.2,ka _ hne.symm nvab.symm],fun i n1 n2 n3 n4=>by rw[kb i n3 n4,ka i n1 n2]⟩
 rcases cs with ⟨c1,c2,c3,c4,c5,c6⟩|⟨c1,c2,c3,c4,c5,c6⟩
 .refine Ab g hw hp1 d1 d2 d3 d4 rfl two (lp:=ma) (lv:=la) (lw:=lb) (lq:=mb) (by rw[c3];exact hma) (by rw[c4];exact hla) (by rw[c5];exact hlb) (by rw[c6];exact hmb) qa ca cb qb hPl abG fun hne=>?_;rw[c3,c4,c5,c6] at*;obtain⟨g1,g2,g3⟩:=PPg hne;obtain⟨s1,s2,s3,s4,s5⟩:=swg hne;exact⟨by rw[s1,g3 _ nva nvab],by rw[s2,g1],by rw[s4,g2],by rw[s3,g3 _ nvba nvb],fun i n1 n2 n3 n4=>by rw[s5 i n1 n2 n4 n3,g3 i n1 n4]⟩
 refine Ab g hw hp1 d1 d2 d3 d4 rfl two (lp:=mb) (lv:=lb) (lw:=la) (lq:=ma) (by rw[c3];exact hmb) (by rw[c4];exact hlb) (by rw[c5];exact hla) (by rw[c6];exact hma) qb cb ca qa hPl abG fun hne=>?_;rw[c3,c4,c5,c6] at*;obtain⟨g1,g2,g3⟩:=PPg hne.symm;obtain⟨s1,s2,s3,s4,s5⟩:=swg hne.symm;exact⟨by rw[s3,g3 _ nvba nvb],by rw[s4,g2],by rw[s2,g1],by rw[s1,g3 _ nva nvab],fun i n1 n2 n3 n4=>by rw[s5 i n4 n3 n1 n2,g3 i n4 n1]⟩
end
end Go.Abs
