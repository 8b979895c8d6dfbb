/- A part. -/
import Derived.Test.YtonblbhhnelniaaGreatDoorUc
import Derived.Test.YtonblbhhnelniaaGreatDoorVb
set_option linter.all false
set_option maxHeartbeats 16000000
namespace Go.Abs
theorem X4.OU{g:Bool}{i o j q:dS}(h:X4 g i o j q):X4 (!g) (iF o) (iF i) j q:=by obtain⟨a,b,c,d⟩:=h;cases g<;>simp only[dx,if_false,if_true] at a b c d<;>constructor<;>simp[iF,a,b,c,d]
theorem X4.OV{g:Bool}{i o j q:dS}(h:X4 g i o j q):X4 (!g) i o (iF q) (iF j):=by obtain⟨a,b,c,d⟩:=h;cases g<;>simp only[dx,if_false,if_true] at a b c d<;>constructor<;>simp[iF,a,b,c,d]
def fe(f:Bool)(x:aN):dS:=if f then x.i else iF x.o
def ie(f:Bool)(x:aN):dS:=if f then x.o else iF x.i
theorem RP{f f':Bool}{x y:aN}:X4 true (fe f x) (ie f x) (fe f' y) (ie f' y)↔X4 (f==f') x.i x.o y.i y.o:=by
 cases f<;>cases f'<;>simp only[fe,ie,dx,if_false,if_true]
 .exact⟨fun h=>h.OU.OV,fun h=>h.OU.OV⟩
 .exact⟨fun h=>h.OU,fun h=>h.OU⟩
 .exact⟨fun h=>h.OV,fun h=>h.OV⟩
 exact Iff.rfl
def oT (n d:Nat):Nat:=if d%2=0 then d/2 else (d/2+1)%n
def oH (n d:Nat):Nat:=if d%2=0 then (d/2+1)%n else d/2
def bj(d:Nat):Bool:=d%2==0
section
variable {F:Nat} {ls:List Let}
def ch(P:List Pc)(sd:Nat->dS)(i:Nat):aN:=⟨P.getD i ⟨j9,false⟩,sd ((i+P.length-1)%P.length),sd i⟩
def zG (P:List Pc)(sd:Nat->dS):List aN:=(List.range P.length).map (ch P sd)
theorem ahw(P:List Pc)(sd:Nat->dS):(zG P sd).map aN.p=P:=by
 unfold zG;rw[ti];apply vF;intro i;rw[fR];by_cases hi:i<P.length
 .obtain⟨p,hp⟩:=aK hi;rw[te hi,hp];show some (P.getD i _)=_;rw[de,hp];rfl
 rw[lS (by rw[Dx];omega),lS aa];rfl
theorem au0(P:List Pc)(sd:Nat->dS)(h:0<P.length):∃s,jE s (zG P sd) s:=by
 refine⟨sd (P.length-1),?_⟩;have:=afi (ch P sd) (fun i=>sd ((i+P.length-1)%P.length)) P.length 0 fun i _ hi=>⟨rfl,?_⟩
 .simp only[iD] at this;rw[gD aa,show P.length+P.length-1=(P.length-1)+P.length by omega,w9,gD aa,<- List.range_eq_range'] at this;exact this
 show sd i=sd ((i+1+P.length-1)%P.length);rw[show i+1+P.length-1=i+P.length by omega,w9,gD aa]
theorem YP(g:dr F ls){P:List Pc}{sd:Nat->dS}{T' B':Nat->Nat->Nat}{tau:Nat}(hl:P.length=ls.length)
  (hC:ay Let.aC (P.map Pc.l)=ay Let.aC ls) (hP:ay Let.aA (P.map Pc.l)=ay Let.aA ls) (hG:∀k,cg (P.map Pc.l) k=cg ls k)
  (ok:∀i,i<ls.length->yq F (ch P sd i)) (cr:∀i j,i<ls.length->j<ls.length->i≠j->Xr (ch P sd i) (ch P sd j)) (rk:∀i j,i<ls.length->j<ls.length->i≠j->Dr (ch P sd i) (ch P sd j))
  (ids:∀i,i<ls.length->(ch P sd i).k.aC=true->1<=(ch P sd i).k.id/\(ch P sd i).k.id<=((ay Let.aC ls/2:Nat):Int))
  (rr:∀i,i<ls.length->(ch P sd i).k.aA=true->1<=(ch P sd i).k.aB/\(ch P sd i).k.aB<=(cg ls (ch P sd i).k.gate.toNat:Int))
  (pl:∀i,i<ls.length->(ch P sd i).k.aA=true->GM T' B' (ch P sd i))
  (gt:∀k,k<F->T' k (cg ls k)=T' (k+1) 0/\B' k (cg ls k)=B' (k+1) 0) (gz:T' F (cg ls F)=T' 0 0/\B' F (cg ls F)=B' 0 0)
  (wit:∀j,j<ls.length->∀t,(t=(qC ls j).l\/t=(qC ls j).r)->t=tau\/ ∃j',j'<ls.length/\(t=(sd j').l\/t=(sd j').r)):Cert F P:=by
 have hn:0<ls.length:=gV.2 g.ne;have AO:aO (zG P sd)=P.map Pc.l:=by
  show(zG P sd).map (fun x=>x.p.l)=_;have:(zG P sd).map (fun x=>x.p.l)=((zG P sd).map aN.p).map Pc.l:=by rw[ti];rfl
  rw[this,ahw]
 have mem:∀x∈zG P sd,∃i,i<ls.length/\x=ch P sd i:=fun x hx=>by obtain⟨i,hi,rfl⟩:=dq.1 hx;exact⟨i,by have:=fm.1 hi;omega,rfl⟩
 have inz:∀i,i<ls.length->ch P sd i∈zG P sd:=fun i hi=>dq.2 ⟨i,fm.2 aa,rfl⟩;have q:Cq F (zG P sd) T' B':=by
  refine⟨fun x hx=>?_,Qo fun i j hi hj fL=>cr i j aa aa fL,?_,fun x hx hc=>?_,Qo fun i j hi hj fL=>rk i j aa aa fL,fun x hx hp=>?_,fun x hx hp=>?_,fun k hk=>?_,?_⟩
  .obtain⟨i,hi,rfl⟩:=mem x hx;exact ok i hi
  .rw[AO,hC];have:=g.cz.ev;rwa[kU] at this
  .obtain⟨i,hi,rfl⟩:=mem x hx;rw[AO,hC];exact ids i hi hc
  .obtain⟨i,hi,rfl⟩:=mem x hx;rw[AO,hG];exact rr i hi hp
  .obtain⟨i,hi,rfl⟩:=mem x hx;exact pl i hi hp
  .rw[AO,hG];exact gt k hk
  rw[AO,hG];exact gz
 refine⟨zG P sd,T',B',(List.range (mh ls)).filter (fun s=> ![tau].contains s),ahw P sd,⟨au0 P sd aa,q.ok,q.cr,q.ev,q.ids,q.rk,q.rr,q.pl,q.gt,q.gz,?_,Fj.filter _,fun s hs=>?_,?_⟩⟩
 .have:0<ay Let.aA (P.map Pc.l):=by
   rw[hP];obtain⟨l,h1,h2⟩:=g.first;exact Bz.2 ⟨l,aU h1,h2⟩
  rw[<- AO] at this;obtain⟨l,h1,h2⟩:=Bz.1 this;obtain⟨x,hx,rfl⟩:=dq.1 h1;exact⟨x,hx,h2⟩
 .obtain⟨h1,h2⟩:=uM.1 hs;have h2:s≠tau:=by simpa using h2
  obtain⟨x,hx,e⟩:=g.cz.wit s h1;obtain⟨j,hj,rfl⟩:=dq.1 hx;have hj:=fm.1 hj;rcases wit j hj s e with h|⟨j',hj',h⟩
  .exact absurd h h2
  exact⟨ch P sd j',inz j' hj',h⟩
 rw[AO,hC,hP];have h1:=abb (L:=[tau]) (Fj (n:=mh ls));have h2:=g.nw;rw[Dx] at h1;simp only[cq,dN] at h1;omega
theorem Nj(g:dr F ls){d:Nat}(hd:d<2*ls.length):oT ls.length d<ls.length:=by
 unfold oT;split
 .omega
 exact dQ _ (gV.2 g.ne)
theorem Jt(g:dr F ls){d:Nat}(hd:d<2*ls.length):oH ls.length d<ls.length:=by
 unfold oH;split
 .exact dQ _ (gV.2 g.ne)
 omega
theorem SU{d:Nat}(hd:d<2*ls.length):d=iX ls.length (oH ls.length d) (bj d):=by have:=Of hd;unfold oH bj;exact this
theorem Ou{n v:Nat}{f:Bool}(hv:v<n):oT n (dD n v f)=v/\bj (dD n v f)=f:=by
 unfold oT bj dD;cases f
 .simp only[dx,if_false];have e1:(2*((v+n-1)%n)+1)%2=1:=aa;have e2:(2*((v+n-1)%n)+1)/2=(v+n-1)%n:=aa;rw[e1,e2,wP hv];exact⟨rfl,rfl⟩
 simp only[if_true];have e1:(2*v)%2=0:=aa;have e2:(2*v)/2=v:=aa;rw[e1,e2];exact⟨rfl,rfl⟩
def oK (ls:List Let)(d:Nat):dS:=if d%2=0 then qC ls (d/2) else iF (qC ls (d/2))
theorem IC{d:Nat}(hd:d<2*ls.length):fe (bj d) (dI ls (oH ls.length d))=oK ls d:=by
 unfold fe bj oH oK dI;rcases xf d with h|h
 .simp only[h,beq_self_eq_true,if_true];rw[EO aa]
 simp[h]
theorem JX{d:Nat}(hd:d<2*ls.length):ie (bj d) (dI ls (oT ls.length d))=oK ls d:=by
 unfold ie bj oT oK dI;rcases xf d with h|h
 .simp[h]
 simp only[h,show((1:Nat)==0)=false from rfl,dx,if_false,Nat.one_ne_zero];rw[EO aa]
theorem HS(g:dr F ls){d:Nat}(hd:d<2*ls.length){l:Let}(hl:ls[oH ls.length d]?=some l)(hc:l.aC=true):aT ls d<2*ls.length/\oT ls.length (aT ls d)=ib ls (oH ls.length d)/\gX l=(bj d==bj (aT ls d))/\
  X4 true (fe (bj d) (dI ls (oH ls.length d))) (ie (bj d) (dI ls (oH ls.length d))) (fe (bj (aT ls d)) (dI ls (oT ls.length (aT ls d)))) (ie (bj (aT ls d)) (dI ls (oT ls.length (aT ls d)))):=by
 have ok:=g.ok;have hv:=Jt g hd;obtain⟨b1,m,hm,mc,mi,mo,ms⟩:=rl ok.cr hl hc;have ho:=(aS.1 hm).1;have e:aT ls d=dD ls.length (ib ls (oH ls.length d)) (bj d==gX l):=by
  conv=>lhs;rw[SU hd]
  rw[Br hl hc];rfl
 obtain⟨a1,a2⟩:=Ou (n:=ls.length) (f:=(bj d==gX l)) ho;have aF:oH ls.length d≠ib ls (oH ls.length d):=by intro ee;rw[<- ee,hl] at hm;have:=qF hm;rw[<- this] at mo;revert mo;cases l.over<;>simp
 have hg:gX l=(bj d==(bj d==gX l)):=by cases bj d<;>cases gX l<;>rfl
 rw[e,a1,a2];refine⟨?_,rfl,hg,?_⟩
 .have:=BM ho (!(bj d==gX l));rw[<- Df] at this;have:=Bi this;rwa[Bj] at this
 rw[RP,<- hg];have:=(K0 g hv ho aF (by rw[dU hl];exact hc) (by rw[dU hm];exact mc) (by rw[dU hl,dU hm];exact mi.symm)).x4;rwa[dU hl] at this
theorem E6{l:List Pc}(hl:l.length=ls.length){e:Nat}(he:e<ls.length)(i:Nat):(fP ls l e)[i]?=if i=nx ls e then l[e]? else if i=e then l[nx ls e]? else l[i]? :=by
 have hn:nx ls e<ls.length:=dQ _ aa;obtain⟨p,hp⟩:=aK (ls:=l) (k:=e) aa;obtain⟨q,hq⟩:=aK (ls:=l) (k:=nx ls e) aa;unfold fP;rw[oI,oI,de,de,hp,hq,th];by_cases c1:i=nx ls e
 .subst c1;rw[if_pos rfl,if_pos aa,if_pos rfl];rfl
 rw[if_neg (Ne.symm c1),if_neg c1];by_cases c2:i=e
 .subst c2;rw[if_pos rfl,if_pos aa,if_pos rfl];rfl
 rw[if_neg (Ne.symm c2),if_neg c2]
theorem auA(g:dr F ls){w:List Nat}(hw:w∈js (aT ls) (nD ls)){Q:Nat->Prop}(h1:∀x,x<nD ls->(Q (aT ls x)↔Q x)){x y:Nat}(hx:x∈w)(hy:y∈w):Q x↔Q y:=by
 have e:=Xw (maps g.ok) (R:=gr (nD ls) (aT ls)) (fun z hz=>.rel ⟨hz,rfl⟩) hw hx hy;have:=e.inv (f:=fun x=>Q x) fun a b r=>by obtain⟨ha,rfl⟩:=r;exact propext (h1 a ha).symm
 exact Eq.to_iff this
end
theorem atK:∀(L M:List Int),L.Nodup->(∀x∈L,x∈M)->L.length<=M.length:=by
 intro L
 induction L with
 |nil=>intro M _ _;exact bd _
 |cons a L ih=>intro M hn hs;obtain⟨h1,h2⟩:=sa.1 hn;have ha:=hs a af;have:=ih (M.erase a) h2 fun x hx=>(List.mem_erase_of_ne (by rintro rfl;exact h1 hx)).2 (hs x (by simp[hx]));rw[List.length_erase_of_mem ha] at this;have:0<M.length:=NU ha;simp only[cq];omega
theorem akj:∀l:List Int,(mW l).Nodup:=by
 intro l
 induction l with
 |nil=>exact w7
 |cons a l ih=>
  unfold mW;split
  .exact ih
  rename_i h;exact sa.2 ⟨fun hm=>h (Ov.1 hm),ih⟩
theorem akk{l:List Int}:(mW l).length=l.length->l.Nodup:=by
 induction l with
 |nil=>intro _;exact w7
 |cons a l ih=>
  have hle:(mW l).length<=l.length:=atK _ _ (akj l) fun x hx=>Ov.1 hx;unfold mW;rw[sa];split
  .intro e;simp only[cq] at e;omega
  rename_i h;simp only[cq];intro e;exact⟨h,ih aa⟩
theorem Sy{p:Pc->Bool}{l:List Pc}{i:Nat}{x y:Pc}(h:l[i]?=some x):(l.set i y).countP p+(if p x then 1 else 0)=l.countP p+(if p y then 1 else 0):=by
 have e:=ato h;have hl:=(aS.1 h).1;have e2:l.set i y=l.take i++y::l.drop (i+1):=by
  conv=>lhs;rw[e]
  rw[List.set_append_right _ _ (by rw[eQ];omega),eQ,xe aa,Fm];rfl
 rw[e2]
 conv=>rhs;rw[e]
 rw[vE,vE,wZ,wZ];omega
section
variable {F:Nat} {ls:List Let}
theorem JW{l:List Pc}(hl:l.length=ls.length){e:Nat}(he:e<ls.length)(aF:e≠nx ls e)(p:Pc->Bool):(fP ls l e).countP p=l.countP p:=by
 have hn:nx ls e<ls.length:=dQ _ aa;obtain⟨x,hx⟩:=aK (ls:=l) (k:=e) aa;obtain⟨y,hy⟩:=aK (ls:=l) (k:=nx ls e) aa;unfold fP;rw[de,de,hx,hy];simp only[mS];have h1:=Sy (p:=p) (y:=y) hx;have h2:(l.set e y)[nx ls e]?=some y:=by rw[oI,if_neg aF];exact hy
 have h3:=Sy (p:=p) (y:=x) h2;omega
theorem GI(g:dr F ls){e:Nat}(he:e<ls.length):e≠nx ls e:=by
 have h2:2<=ls.length:=by obtain⟨l,h1,hp⟩:=g.first;have:=g.even;have:0<ay Let.aA ls:=Bz.2 ⟨l,aU h1,hp⟩;have:=xx Let.aA ls;omega
 unfold nx;by_cases c:e+1<ls.length
 .rw[gD c];omega
 rw[show e+1=ls.length by omega,yH];omega
theorem Qs(p:Let->Bool):ay p ((pieces ls).map Pc.l)=ay p ls:=by
 have:(pieces ls).map Pc.l=ls:=by
  have h:=kU ls;rw[<- h];have e:aO (zF ls)=((zF ls).map aN.p).map Pc.l:=by rw[ti];rfl
  rw[h,<- Dq,<- e,h]
 rw[this]
theorem JL(g:dr F ls){i j:Nat}{l m:Let}(hl:ls[i]?=some l)(hm:ls[j]?=some m)(hc:l.aC=true)(mc:m.aC=true)(e:l.id=m.id)(fL:i≠j):ib ls i=j:=by obtain⟨_,hp⟩:=g.ids;obtain⟨d1,_⟩:=hp i j l m hl hm hc mc e fL;obtain⟨b1,w,hw,wc,wi,wo,ws⟩:=rl g.ok.cr hl hc;refine Classical.byContradiction fun aF=>?_;have d3:=(hp _ _ w m hw hm wc mc (by rw[wi,e]) aF).1;rw[wo] at d3;revert d1 d3;cases l.over<;>cases m.over<;>simp
theorem atY(g:dr F ls){w:List Nat}(hw:w∈js (aT ls) (nD ls)){p q r:Nat}(hp:p∈w)(hq:q∈w)(hr:r∈w)(pq:p≠q)(pr:p≠r)(qr:q≠r)(lp:p<nD ls)(lq:q<nD ls)(lr:r<nD ls)
  (np:aT ls p=p\/aT ls p=q\/aT ls p=r) (nq:aT ls q=p\/aT ls q=q\/aT ls q=r) (nr:aT ls r=p\/aT ls r=q\/aT ls r=r):
  (aT ls p=q/\aT ls q=r/\aT ls r=p)\/(aT ls p=r/\aT ls r=q/\aT ls q=p):=by
 have inj:=(maps g.ok).inj;have i1:aT ls p≠aT ls q:=fun e=>pq (inj _ _ lp lq e);have i2:aT ls p≠aT ls r:=fun e=>pr (inj _ _ lp lr e);have i3:aT ls q≠aT ls r:=fun e=>qr (inj _ _ lq lr e);have one:∀x y,x∈w->y∈w->x≠y->x<nD ls->aT ls x≠x:=fun x y hx hy hU lx e=>by have:=auA g hw (Q:=fun t=>t=x) (fun t ht=>⟨fun h=>inj _ _ ht lx (by rw[h,e]),fun h=>by rw[h,e]⟩) hx hy;exact hU (this.1 rfl).symm
 have n1:=one p q hp hq pq lp;have n2:=one q p hq hp (Ne.symm pq) lq;have n3:=one r p hr hp (Ne.symm pr) lr;omega
theorem SZ{n d i:Nat}:(i≠oT n d/\i≠oH n d)↔(i≠d/2/\i≠(d/2+1)%n):=by
 unfold oT oH;split
 .exact Iff.rfl
 exact And.comm
theorem SV{n d d':Nat}(h:d/2≠d'/2/\d/2≠(d'/2+1)%n/\(d/2+1)%n≠d'/2/\(d/2+1)%n≠(d'/2+1)%n):oT n d≠oT n d'/\oT n d≠oH n d'/\oH n d≠oT n d'/\oH n d≠oH n d':=by
 obtain⟨h1,h2,h3,h4⟩:=h;unfold oT oH;split<;>split
 .exact⟨h1,h2,h3,h4⟩
 .exact⟨h2,h1,h4,h3⟩
 .exact⟨h3,h4,h1,h2⟩
 exact⟨h4,h3,h2,h1⟩
theorem SX{n d:Nat}(h:d/2≠(d/2+1)%n):oT n d≠oH n d:=by
 unfold oT oH;split
 .exact h
 exact h.symm
def uo (f:Bool)(s:dS):dS:=if f then s else iF s
theorem Jb(f:Bool)(x:aN):(fe f x).b=if f then x.i.b else x.o.b:=by cases f<;>rfl
theorem Jx(f:Bool)(x:aN):(ie f x).b=if f then x.o.b else x.i.b:=by cases f<;>rfl
theorem K4{P:List Pc}{sd:Nat->dS}{d:Nat}{k':dS}(hP:P.length=ls.length)(hd:d<2*ls.length)(hk:sd (d/2)=uo (bj d) k')(h1:sd ((d/2+ls.length-1)%ls.length)=qC ls ((d/2+ls.length-1)%ls.length))(h2:sd (nx ls (d/2))=qC ls (nx ls (d/2))):
  fe (bj d) (ch P sd (oT ls.length d))=fe (bj d) (dI ls (oT ls.length d))/\ie (bj d) (ch P sd (oT ls.length d))=k'/\fe (bj d) (ch P sd (oH ls.length d))=k'/\ie (bj d) (ch P sd (oH ls.length d))=ie (bj d) (dI ls (oH ls.length d)):=by
 unfold nx at h2;unfold fe ie ch dI oT oH;unfold bj at hk ⊢;rw[hP];rcases xf d with h|h
 .simp only[h,beq_self_eq_true,if_true] at hk ⊢;rw[EO aa,hk,h1,h2];exact⟨rfl,rfl,rfl,rfl⟩
 simp only[h,show((1:Nat)==0)=false from rfl,dx,if_false,Nat.one_ne_zero] at hk ⊢;rw[EO aa,hk,h1,h2];exact⟨rfl,rfl,rfl,rfl⟩
theorem ZU{P:List Pc}{sd:Nat->dS}{i:Nat}(hP:P.length=ls.length)(hi:i<ls.length)(hp:P[i]?=(pieces ls)[i]?)(h1:sd ((i+ls.length-1)%ls.length)=qC ls ((i+ls.length-1)%ls.length))(h2:sd i=qC ls i):ch P sd i=dI ls i:=by
 have:P.getD i ⟨j9,false⟩=⟨ls.getD i j9,im ls i⟩:=by obtain⟨l,hl⟩:=aK hi;rw[de,hp,pL hl,de,hl];rfl
 unfold ch dI;rw[hP,h1,h2,this]
theorem Ie{P:List Pc}{sd:Nat->dS}{i j:Nat}(hj:j<ls.length)(hp:P[i]?=(pieces ls)[j]?):(ch P sd i).p=(dI ls j).p:=by obtain⟨l,hl⟩:=aK hj;show P.getD i _=⟨ls.getD j j9,im ls j⟩;rw[de,hp,pL hl,de,hl];rfl
theorem YO(g:dr F ls){a b c:Nat}(ha:a<ls.length)(hb:b<ls.length)(hc:c<ls.length){L:List Pc}(h:vz F ls a b c=some L):Cert F L:=by
 unfold vz at h;split at h
 case isFalse=>cases h
 rename_i ht;cases h;unfold tgB at ht;simp only[cH,beq_iff_eq] at ht;obtain⟨eV,h6,_,_,_,IB⟩:=ht;have hn:0<ls.length:=gV.2 g.ne;have bK:=fi ls;have ok:=g.ok
 -- six letters
 have iS:(vx ls [a,b,c]).Nodup:=akk (by rw[h6];rfl);have iS:(([a,nx ls a,b,nx ls b,c,nx ls c]:List Nat).map fun i:Nat=>(i:Int)).Nodup:=iS;have six:a≠nx ls a/\a≠b/\a≠nx ls b/\a≠c/\a≠nx ls c/\nx ls a≠b/\nx ls a≠nx ls b/\nx ls a≠c/\nx ls a≠nx ls c/\b≠nx ls b/\b≠c/\b≠nx ls c/\nx ls b≠c/\nx ls b≠nx ls c/\c≠nx ls c:=by simp only[dG,kE,sa,cM,iO,or_false,not_or,w7,and_true,not_false_eq_true] at iS;omega
 have crs:∀e∈[a,b,c],∃l m,ls[e]?=some l/\ls[nx ls e]?=some m/\l.aC=true/\m.aC=true:=fun e he=>by
  have h1:=jf.1 eV e he;have dw:e<ls.length:=by simp only[cM,iO,or_false] at he;rcases he with rfl|rfl|rfl<;>assumption
  obtain⟨l,hl⟩:=aK dw;obtain⟨m,hm⟩:=aK (ls:=ls) (k:=nx ls e) (dQ _ hn);have e1:pA ls e=⟨l,im ls e⟩:=jA (pL hl);have e2:pA ls (nx ls e)=⟨m,im ls (nx ls e)⟩:=jA (pL hm);unfold yV at h1;rw[e1,e2,cH] at h1;exact⟨l,m,hl,hm,h1.1,h1.2⟩
 obtain⟨w,hw,_,hlen,hE⟩:=SJ g ha IB;obtain⟨da,vU,uu,yX⟩:=hE a af;obtain⟨db,xA,uV,yY⟩:=hE b af;obtain⟨dc,dc1,HY,HZ⟩:=hE c af;have hN:∀d,d<2*ls.length->d<nD ls:=fun d hd=>by unfold nD;omega
 have three:∀d,d∈w->d<2*ls.length->d=da\/d=db\/d=dc:=fun d h1 h2=>by
  have inD:∀d,d∈w->d<2*ls.length->d∈w.filter fun x=>decide (x<2*ls.length):=fun d h1 h2=>uM.2 ⟨h1,by simpa using h2⟩;have q1:=inD da vU uu;have q2:=inD db xA uV;have q3:=inD dc dc1 HY;have q4:=inD d h1 h2;generalize w.filter (fun x=>decide (x<2*ls.length))=D at hlen q1 q2 q3 q4
  match D,hlen with
  |[x,y,z],_=>simp only[cM,iO,or_false] at q1 q2 q3 q4;have:=six.2.1;have:=six.2.2.2.1;have:=six.2.2.2.2.2.2.2.2.2.2.1;omega
 have L7:∀d,d<2*ls.length->d/2∈[a,b,c]->∃l,ls[oH ls.length d]?=some l/\l.aC=true:=fun d hd he=>by
  obtain⟨l,m,h1,h2,h3,h4⟩:=crs _ he;unfold oH;split
  .exact⟨m,h2,h4⟩
  exact⟨l,h1,h3⟩
 have step:∀d,d∈w->d<2*ls.length->d/2∈[a,b,c]->aT ls d=da\/aT ls d=db\/aT ls d=dc:=fun d hd hl he=>by obtain⟨l,h1,h2⟩:=L7 d hl he;exact three _ (Fe (maps ok) hw hd) (HS g hl h1 h2).1
 have round:∃d1 d2 d3,d1<2*ls.length/\d2<2*ls.length/\d3<2*ls.length/\aT ls d1=d2/\aT ls d2=d3/\aT ls d3=d1/\((d1/2=a/\d2/2=b/\d3/2=c)\/(d1/2=a/\d2/2=c/\d3/2=b)):=by
  have nab:da≠db:=fun e=>six.2.1 (by rw[<- yX,<- yY,e]);have nac:da≠dc:=fun e=>six.2.2.2.1 (by rw[<- yX,<- HZ,e]);have nbc:db≠dc:=fun e=>six.2.2.2.2.2.2.2.2.2.2.1 (by rw[<- yY,<- HZ,e]);rcases atY g hw vU xA dc1 nab nac nbc (hN _ uu) (hN _ uV) (hN _ HY) (step da vU uu (by rw[yX];simp)) (step db xA uV (by rw[yY];simp)) (step dc dc1 HY (by rw[HZ];simp)) with ⟨h1,h2,h3⟩|⟨h1,h2,h3⟩
  .exact⟨da,db,dc,uu,uV,HY,h1,h2,h3,.inl ⟨yX,yY,HZ⟩⟩
  exact⟨da,dc,db,uu,HY,uV,h1,h2,h3,.inr ⟨yX,HZ,yY⟩⟩
 clear three step hE hlen vU uu yX xA uV yY dc1 HY HZ hw IB;clear iS eV h6;obtain⟨d1,d2,d3,l1,l2,l3,s1,s2,s3,nu⟩:=round
 -- the new pieces
 have ina:a∈[a,b,c]:=af;have inb:b∈[a,b,c]:=af;have inc:c∈[a,b,c]:=af;have Ec:(iN ls (pieces ls) [a,b,c]).length=ls.length:=by rw[Bo,bK]
 have CO:∀i,(iN ls (pieces ls) [a,b,c])[i]?=if i=nx ls c then (pieces ls)[c]? else if i=c then (pieces ls)[nx ls c]? else if i=nx ls b then (pieces ls)[b]? else if i=b then (pieces ls)[nx ls b]? else if i=nx ls a then (pieces ls)[a]? else if i=a then (pieces ls)[nx ls a]? else (pieces ls)[i]? :=fun i=>by
  show(fP ls (fP ls (fP ls (pieces ls) a) b) c)[i]?=_;have e1:(fP ls (pieces ls) a).length=ls.length:=by rw[Dk,bK]
  have e2:(fP ls (fP ls (pieces ls) a) b).length=ls.length:=by rw[Dk,e1]
  simp only[E6 e2 hc,E6 e1 hb,E6 bK ha];obtain⟨x1,x2,x3,x4,x5,x6,x7,x8,x9,Hb,Kk,Kl,Km,Kn,NQ⟩:=six;simp only[x2.symm,x3.symm,x4.symm,x5.symm,x6.symm,x7.symm,x8.symm,x9.symm,Kk.symm,Kl.symm,Km.symm,Kn.symm,if_false]
 have sH:∀p:Pc->Bool,(iN ls (pieces ls) [a,b,c]).countP p=(pieces ls).countP p:=fun p=>by
  show(fP ls (fP ls (fP ls (pieces ls) a) b) c).countP p=_;have e1:(fP ls (pieces ls) a).length=ls.length:=by rw[Dk,bK]
  have e2:(fP ls (fP ls (pieces ls) a) b).length=ls.length:=by rw[Dk,e1]
  rw[JW e2 hc six.2.2.2.2.2.2.2.2.2.2.2.2.2.2,JW e1 hb six.2.2.2.2.2.2.2.2.2.1,JW bK ha six.1]
 generalize iN ls (pieces ls) [a,b,c]=P at Ec CO sH;obtain⟨x1,x2,x3,x4,x5,x6,x7,x8,x9,Hb,Kk,Kl,Km,Kn,NQ⟩:=six;have pa:P[a]?=(pieces ls)[nx ls a]? /\P[nx ls a]?=(pieces ls)[a]? :=by
  constructor
  .rw[CO];simp only[x1,x2,x3,x4,x5,if_false,if_true]
  rw[CO];simp only[x6,x7,x8,x9,if_false,if_true]
 have pb:P[b]?=(pieces ls)[nx ls b]? /\P[nx ls b]?=(pieces ls)[b]? :=by
  constructor
  .rw[CO];simp only[Hb,Kk,Kl,if_false,if_true]
  rw[CO];simp only[Km,Kn,if_false,if_true]
 have pc:P[c]?=(pieces ls)[nx ls c]? /\P[nx ls c]?=(pieces ls)[c]? :=by
  constructor
  .rw[CO];simp only[NQ,if_false,if_true]
  rw[CO];simp only[if_true]
 have pn:∀i,i≠a->i≠nx ls a->i≠b->i≠nx ls b->i≠c->i≠nx ls c->P[i]?=(pieces ls)[i]? :=fun i h1 h2 h3 h4 h5 h6=>by rw[CO];simp only[h1,h2,h3,h4,h5,h6,if_false]
 clear CO
 -- edges and letters by dh
 have sL:∀d,d/2=a\/d/2=b\/d/2=c->P[oT ls.length d]?=(pieces ls)[oH ls.length d]? /\P[oH ls.length d]?=(pieces ls)[oT ls.length d]? :=fun d hd=>by
  have:P[d/2]?=(pieces ls)[nx ls (d/2)]? /\P[nx ls (d/2)]?=(pieces ls)[d/2]? :=by rcases hd with e|e|e<;>rw[e]<;>assumption
  unfold oT oH;rcases xf d with h|h
  .simp only[h,if_true];exact this
  simp only[h,Nat.one_ne_zero,if_false];exact this.symm
 have m1:d1/2=a\/d1/2=b\/d1/2=c:=by
  rcases nu with ⟨h,_,_⟩|⟨h,_,_⟩
  .exact .inl h
  exact .inl h
 have m2:d2/2=a\/d2/2=b\/d2/2=c:=by
  rcases nu with ⟨_,h,_⟩|⟨_,h,_⟩
  .exact .inr (.inl h)
  exact .inr (.inr h)
 have m3:d3/2=a\/d3/2=b\/d3/2=c:=by
  rcases nu with ⟨_,_,h⟩|⟨_,_,h⟩
  .exact .inr (.inr h)
  exact .inr (.inl h)
 have mm:∀d,d/2=a\/d/2=b\/d/2=c->d/2∈[a,b,c]:=fun d h=>by simpa using h
 have pn2:∀i,i≠oT ls.length d1->i≠oH ls.length d1->i≠oT ls.length d2->i≠oH ls.length d2->i≠oT ls.length d3->i≠oH ls.length d3->P[i]?=(pieces ls)[i]? /\ ∀d,d/2=a\/d/2=b\/d/2=c->i≠d/2/\i≠nx ls (d/2):=fun i a1 a2 a3 a4 a5 a6=>by
  obtain⟨b1,b2⟩:=SZ.1 ⟨a1,a2⟩;obtain⟨b3,b4⟩:=SZ.1 ⟨a3,a4⟩;obtain⟨b5,b6⟩:=SZ.1 ⟨a5,a6⟩;have key:(i≠a/\i≠nx ls a)/\(i≠b/\i≠nx ls b)/\(i≠c/\i≠nx ls c):=by
   rcases nu with ⟨h1,h2,h3⟩|⟨h1,h2,h3⟩
   .rw[h1] at b1 b2;rw[h2] at b3 b4;rw[h3] at b5 b6;exact⟨⟨b1,b2⟩,⟨b3,b4⟩,b5,b6⟩
   rw[h1] at b1 b2;rw[h2] at b3 b4;rw[h3] at b5 b6;exact⟨⟨b1,b2⟩,⟨b5,b6⟩,b3,b4⟩
  obtain⟨⟨c1,c2⟩,⟨c3,c4⟩,c5,c6⟩:=key;refine⟨pn i c1 c2 c3 c4 c5 c6,fun d hd=>?_⟩;rcases hd with e|e|e<;>rw[e]
  .exact⟨c1,c2⟩
  .exact⟨c3,c4⟩
  exact⟨c5,c6⟩
 have t1:=Nj g l1;have t2:=Nj g l2;have t3:=Nj g l3;have h1:=Jt g l1;have h2:=Jt g l2;have h3:=Jt g l3
 -- all six are different
 have apart:(d1/2≠d2/2/\d1/2≠nx ls (d2/2)/\nx ls (d1/2)≠d2/2/\nx ls (d1/2)≠nx ls (d2/2))/\(d1/2≠d3/2/\d1/2≠nx ls (d3/2)/\nx ls (d1/2)≠d3/2/\nx ls (d1/2)≠nx ls (d3/2))/\(d2/2≠d3/2/\d2/2≠nx ls (d3/2)/\nx ls (d2/2)≠d3/2/\nx ls (d2/2)≠nx ls (d3/2))/\d1/2≠nx ls (d1/2)/\d2/2≠nx ls (d2/2)/\d3/2≠nx ls (d3/2):=by
  rcases nu with ⟨h1,h2,h3⟩|⟨h1,h2,h3⟩<;>rw[h1,h2,h3]
  .exact⟨⟨x2,x3,x6,x7⟩,⟨x4,x5,x8,x9⟩,⟨Kk,Kl,Km,Kn⟩,x1,Hb,NQ⟩
  exact⟨⟨x4,x5,x8,x9⟩,⟨x2,x3,x6,x7⟩,⟨Kk.symm,Km.symm,Kl.symm,Kn.symm⟩,x1,NQ,Hb⟩
 obtain⟨y1,y2,y3,y4,y5,y6⟩:=apart;have f12:=SV y1;have f13:=SV y2;have f23:=SV y3;have g1:=SX y4;have g2:=SX y5;have g3:=SX y6
 -- the old corners
 obtain⟨u1,wH,HU⟩:=L7 d1 l1 (mm d1 m1);obtain⟨u2,sP,HV⟩:=L7 d2 l2 (mm d2 m2);obtain⟨u3,vh,HW⟩:=L7 d3 l3 (mm d3 m3);obtain⟨_,o1,q1,k1⟩:=HS g l1 wH HU;obtain⟨_,o2,q2,k2⟩:=HS g l2 sP HV;obtain⟨_,o3,q3,k3⟩:=HS g l3 vh HW;rw[s1] at o1 q1 k1;rw[s2] at o2 q2 k2;rw[s3] at o3 q3 k3;clear s1 s2 s3 nu pn pa pb pc x1 x2 x3 x4 x5 x6 x7 x8 x9 Hb Kk Kl Km Kn NQ crs L7 mm ina inb inc;have ti1:=JX (ls:=ls) l1;have ti2:=JX (ls:=ls) l2;have ti3:=JX (ls:=ls) l3;have hi1:=IC (ls:=ls) l1;have hi2:=IC (ls:=ls) l2
 have hi3:=IC (ls:=ls) l3;rw[hi1,ti2] at k1;rw[hi2,ti3] at k2;rw[hi3,ti1] at k3;obtain⟨a1,b1,c1,e1⟩:=k1;obtain⟨a2,b2,c2,e2⟩:=k2;obtain⟨a3,b3,c3,e3⟩:=k3;simp only[if_true] at a1 b1 c1 e1 a2 b2 c2 e2 a3 b3 c3 e3
 let tau:=(oK ls d1).l
 let K1:dS:=⟨(fe (bj d3) (dI ls (oT ls.length d3))).r,tau,(fe (bj d1) (dI ls (oT ls.length d1))).b⟩
 let K2:dS:=⟨(fe (bj d1) (dI ls (oT ls.length d1))).r,tau,(fe (bj d2) (dI ls (oT ls.length d2))).b⟩
 let K3:dS:=⟨(fe (bj d2) (dI ls (oT ls.length d2))).r,tau,(fe (bj d3) (dI ls (oT ls.length d3))).b⟩
 let sd:Nat->dS:=fun j=>if j=d1/2 then uo (bj d1) K1 else if j=d2/2 then uo (bj d2) K2 else if j=d3/2 then uo (bj d3) K3 else qC ls j
 have sd1:sd (d1/2)=uo (bj d1) K1:=if_pos rfl;have sd2:sd (d2/2)=uo (bj d2) K2:=by show(if _ then _ else _)=_;rw[if_neg (Ne.symm y1.1),if_pos rfl]
 have sd3:sd (d3/2)=uo (bj d3) K3:=by show(if _ then _ else _)=_;rw[if_neg (Ne.symm y2.1),if_neg (Ne.symm y3.1),if_pos rfl]
 have sdn:∀j,j≠d1/2->j≠d2/2->j≠d3/2->sd j=qC ls j:=fun j h1 h2 h3=>by show(if _ then _ else _)=_;rw[if_neg h1,if_neg h2,if_neg h3]
 have prev:∀i,i<ls.length->i≠nx ls (d1/2)->i≠nx ls (d2/2)->i≠nx ls (d3/2)->sd ((i+ls.length-1)%ls.length)=qC ls ((i+ls.length-1)%ls.length):=fun i hi n1 n2 n3=>sdn _ (fun h=>n1 (BS hi h)) (fun h=>n2 (BS hi h)) (fun h=>n3 (BS hi h))
 obtain⟨z1,z2,z3,z4⟩:=y1;obtain⟨z5,z6,z7,z8⟩:=y2;obtain⟨z9,z10,z11,z12⟩:=y3;have G1:=K4 (P:=P) Ec l1 sd1 (prev _ aa y4 z2 z6) (sdn _ y4.symm z3 z7);have G2:=K4 (P:=P) Ec l2 sd2 (prev _ aa z3.symm y5 z10) (sdn _ z2.symm y5.symm z11);have G3:=K4 (P:=P) Ec l3 sd3 (prev _ aa z7.symm z11.symm y6) (sdn _ z6.symm z10.symm y6.symm);have p1:=sL d1 m1;have p2:=sL d2 m2;have p3:=sL d3 m3;have pT1:=Ie (sd:=sd) h1 p1.1;have pH1:=Ie (sd:=sd) t1 p1.2;have pT2:=Ie (sd:=sd) h2 p2.1;have pH2:=Ie (sd:=sd) t2 p2.2;have pT3:=Ie (sd:=sd) h3 p3.1
 have pH3:=Ie (sd:=sd) t3 p3.2;have un:∀i,i<ls.length->i≠oT ls.length d1->i≠oH ls.length d1->i≠oT ls.length d2->i≠oH ls.length d2->i≠oT ls.length d3->i≠oH ls.length d3->ch P sd i=dI ls i:=fun i hi n1 n2 n3 n4 n5 n6=>by obtain⟨q1,q2⟩:=pn2 i n1 n2 n3 n4 n5 n6;exact ZU Ec hi q1 (prev i hi (q2 d1 m1).2 (q2 d2 m2).2 (q2 d3 m3).2) (sdn i (q2 d1 m1).1 (q2 d2 m2).1 (q2 d3 m3).1)
 clear pn2 sL prev
 -- letters of the crossings
 have hw1:=rl ok.cr wH HU;have hw2:=rl ok.cr sP HV;have hw3:=rl ok.cr vh HW;rw[<- o1] at hw1;rw[<- o2] at hw2;rw[<- o3] at hw3;obtain⟨r1,v2,tR,cv2,iv2,_,_⟩:=hw1;obtain⟨r2,v3,MQ,cv3,iv3,_,_⟩:=hw2;obtain⟨r3,v1,xY,cv1,iv1,_,_⟩:=hw3
 -- the new corners
 have cornerN:∀(x y:aN) (d d' hh tt:Nat) (u v:Let),ls[hh]?=some u->ls[tt]?=some v->u.aC=true->v.aC=true->v.id=u.id->hh≠tt->x.p=(dI ls hh).p->y.p=(dI ls tt).p->gX u=(bj d==bj d')->X4 true (fe (bj d) x) (ie (bj d) x) (fe (bj d') y) (ie (bj d') y)->Xc x y:=by intro x y d d' hh tt u v ha hb ca cb ei aF hx hy hg h4;have I4:x.k=(dI ls hh).k:=congrArg Pc.l hx;have hy':y.k=(dI ls tt).k:=congrArg Pc.l hy;have old:=K0 g (aS.1 ha).1 (aS.1 hb).1 aF (by rw[dU ha];exact ca) (by rw[dU hb];exact cb) (by rw[dU ha,dU hb];exact ei.symm);refine⟨by rw[I4,hy'];exact old.ov,by rw[I4,hy'];exact old.sg,?_⟩;rw[I4,dU ha,hg];exact RP.1 h4
 have C1:Xc (ch P sd (oT ls.length d1)) (ch P sd (oH ls.length d2)):=by
  refine cornerN _ _ d1 d2 _ _ u1 v2 wH tR HU cv2 iv2 f12.2.2.1 pT1 pH2 q1 ?_;rw[G1.1,G1.2.1,G2.2.2.1,G2.2.2.2];constructor<;>simp only[if_true]
  .exact c3.trans e2
  .rfl
  .rfl
  exact b2
 have C2:Xc (ch P sd (oT ls.length d2)) (ch P sd (oH ls.length d3)):=by
  refine cornerN _ _ d2 d3 _ _ u2 v3 sP MQ HV cv3 iv3 f23.2.2.1 pT2 pH3 q2 ?_;rw[G2.1,G2.2.1,G3.2.2.1,G3.2.2.2];constructor<;>simp only[if_true]
  .exact c1.trans e3
  .rfl
  .rfl
  exact b3
 have C3:Xc (ch P sd (oT ls.length d3)) (ch P sd (oH ls.length d1)):=by
  refine cornerN _ _ d3 d1 _ _ u3 v1 vh xY HW cv1 iv1 f13.2.1.symm pT3 pH1 q3 ?_;rw[G3.1,G3.2.1,G1.2.2.1,G1.2.2.2];constructor<;>simp only[if_true]
  .exact c2.trans e1
  .rfl
  .rfl
  exact b1
 have six:∀i,i<ls.length->(i=oT ls.length d1\/i=oH ls.length d1\/i=oT ls.length d2\/i=oH ls.length d2\/i=oT ls.length d3\/i=oH ls.length d3)\/(ch P sd i=dI ls i/\i≠oT ls.length d1/\i≠oH ls.length d1/\i≠oT ls.length d2/\i≠oH ls.length d2/\i≠oT ls.length d3/\i≠oH ls.length d3):=fun i hi=>by
  rcases Classical.em (i=oT ls.length d1\/i=oH ls.length d1\/i=oT ls.length d2\/i=oH ls.length d2\/i=oT ls.length d3\/i=oH ls.length d3) with h|h
  .exact .inl h
  simp only[not_or] at h;exact .inr ⟨un i hi h.1 h.2.1 h.2.2.1 h.2.2.2.1 h.2.2.2.2.1 h.2.2.2.2.2,h⟩
 -- each position holds one letter
 have hold:∀i,i<ls.length->∃j l,j<ls.length/\ls[j]?=some l/\(ch P sd i).k=l/\(ch P sd i).p=(dI ls j).p:=fun i hi=>by
  have mk:∀j l,ls[j]?=some l->(ch P sd i).p=(dI ls j).p->∃j l,j<ls.length/\ls[j]?=some l/\(ch P sd i).k=l/\(ch P sd i).p=(dI ls j).p:=fun j l hl hp=>⟨j,l,(aS.1 hl).1,hl,(congrArg Pc.l hp).trans (dU hl),hp⟩;rcases six i hi with (rfl|rfl|rfl|rfl|rfl|rfl)|⟨e,_⟩
  .exact mk _ _ wH pT1
  .exact mk _ _ xY pH1
  .exact mk _ _ sP pT2
  .exact mk _ _ tR pH2
  .exact mk _ _ vh pT3
  .exact mk _ _ MQ pH3
  obtain⟨l,hl⟩:=aK hi;exact mk i l hl (by rw[e])
 have kT1:(ch P sd (oT ls.length d1)).k=u1:=(congrArg Pc.l pT1).trans (dU wH);have kT2:(ch P sd (oT ls.length d2)).k=u2:=(congrArg Pc.l pT2).trans (dU sP);have kT3:(ch P sd (oT ls.length d3)).k=u3:=(congrArg Pc.l pT3).trans (dU vh);have kH1:(ch P sd (oH ls.length d1)).k=v1:=(congrArg Pc.l pH1).trans (dU xY);have kH2:(ch P sd (oH ls.length d2)).k=v2:=(congrArg Pc.l pH2).trans (dU tR);have kH3:(ch P sd (oH ls.length d3)).k=v3:=(congrArg Pc.l pH3).trans (dU MQ);have flat:∀(f:Bool) (x:aN),(fe f x).b=(ie f x).b->x.i.b=x.o.b:=fun f x h=>by
  rw[Jb,Jx] at h;cases f
  .exact h.symm
  exact h
 have abi:∀(f:Bool) (x:aN),x.i.b=x.o.b->(fe f x).b=(ie f x).b:=fun f x h=>by
  rw[Jb,Jx];cases f
  .exact h.symm
  exact h
 have oldb:∀j l,ls[j]?=some l->l.aC=true->(dI ls j).i.b=(dI ls j).o.b:=fun j l hl hc=>(DR g (aS.1 hl).1).cb (by rw[dU hl];exact hc);have bT:∀d (K:dS),fe (bj d) (ch P sd (oT ls.length d))=fe (bj d) (dI ls (oT ls.length d))->ie (bj d) (ch P sd (oT ls.length d))=K->K.b=(fe (bj d) (dI ls (oT ls.length d))).b->(ch P sd (oT ls.length d)).i.b=(ch P sd (oT ls.length d)).o.b:=fun d K q1 q2 q3=>flat (bj d) _ (by rw[q1,q2,q3])
 have bH:∀d (K:dS) (l m:Let),ls[oT ls.length d]?=some l->l.aC=true->ls[oH ls.length d]?=some m->m.aC=true->ie (bj d) (dI ls (oT ls.length d))=oK ls d->fe (bj d) (dI ls (oH ls.length d))=oK ls d->fe (bj d) (ch P sd (oH ls.length d))=K->ie (bj d) (ch P sd (oH ls.length d))=ie (bj d) (dI ls (oH ls.length d))->K.b=(fe (bj d) (dI ls (oT ls.length d))).b->(ch P sd (oH ls.length d)).i.b=(ch P sd (oH ls.length d)).o.b:=fun d K l m hl cl hm cm w1 w2 q1 q2 q3=>by refine flat (bj d) _ ?_;rw[q1,q2,q3,abi (bj d) _ (oldb _ _ hl cl),w1,<- w2];exact abi (bj d) _ (oldb _ _ hm cm)
 have bad:∀i,i<ls.length->dj F (ch P sd i).k=false:=fun i hi=>by obtain⟨j,l,hj,hl,hk,_⟩:=hold i hi;rw[hk];exact g.bad l (aU hl)
 have wR:∀i,i<ls.length->(ch P sd i).k.aC=true->(ch P sd i).i.b=(ch P sd i).o.b->yq F (ch P sd i):=fun i hi hc hb=>⟨bad i hi,fun _=>hb,fun hp=>by rw[lJ hc] at hp;cases hp⟩;have passUn:∀i,i<ls.length->(ch P sd i).k.aA=true->ch P sd i=dI ls i:=fun i hi hp=>by
  rcases six i hi with (rfl|rfl|rfl|rfl|rfl|rfl)|⟨e,_⟩
  .rw[kT1,lJ HU] at hp;cases hp
  .rw[kH1,lJ cv1] at hp;cases hp
  .rw[kT2,lJ HV] at hp;cases hp
  .rw[kH2,lJ cv2] at hp;cases hp
  .rw[kT3,lJ HW] at hp;cases hp
  .rw[kH3,lJ cv3] at hp;cases hp
  exact e
 have cz:=g.cz;have cntP:∀p:Let->Bool,ay p (P.map Pc.l)=ay p ls:=fun p=>by rw[<- Qs (ls:=ls) p];show List.countP _ _=List.countP _ _;rw[Du,Du];exact sH _
 have labs:∀(f:Bool) i,i<ls.length->∀t,t=(fe f (ch P sd i)).l\/t=(fe f (ch P sd i)).r->∃j',j'<ls.length/\(t=(sd j').l\/t=(sd j').r):=fun f i hi t ht=>by
  cases f
  .refine⟨i,hi,?_⟩;rcases ht with ht|ht
   .exact .inr ht
   exact .inl ht
  refine⟨(i+P.length-1)%P.length,?_,ht⟩;rw[Ec];exact dQ _ hn
 refine YP g (tau:=tau) (sd:=sd) (T':=TF ls) (B':=BF ls) Ec (cntP _) (cntP _) (fun k=>cntP _) (fun i hi=>?_) (fun i j hi hj fL ci cj e=>?_) (fun i j hi hj fL pi pj e1 e2=>?_) (fun i hi ci=>?_) (fun i hi pi=>?_) (fun i hi pi=>?_) (fun k hk=>?_) ?_ (fun j hj t ht=>?_)
 .rcases six i hi with (rfl|rfl|rfl|rfl|rfl|rfl)|⟨e,_⟩
  .exact wR _ hi (by rw[kT1];exact HU) (bT d1 K1 G1.1 G1.2.1 rfl)
  .exact wR _ hi (by rw[kH1];exact cv1) (bH d1 K1 _ _ xY cv1 wH HU ti1 hi1 G1.2.2.1 G1.2.2.2 rfl)
  .exact wR _ hi (by rw[kT2];exact HV) (bT d2 K2 G2.1 G2.2.1 rfl)
  .exact wR _ hi (by rw[kH2];exact cv2) (bH d2 K2 _ _ tR cv2 sP HV ti2 hi2 G2.2.2.1 G2.2.2.2 rfl)
  .exact wR _ hi (by rw[kT3];exact HW) (bT d3 K3 G3.1 G3.2.1 rfl)
  .exact wR _ hi (by rw[kH3];exact cv3) (bH d3 K3 _ _ MQ cv3 vh HW ti3 hi3 G3.2.2.1 G3.2.2.2 rfl)
  rw[e];exact DR g hi
 · -- two visits of one crossing
  have nn:∀i,i<ls.length->∃s,s<ls.length/\(∃l,ls[s]?=some l/\(ch P sd i).k=l)/\((i=oT ls.length d1/\s=oH ls.length d1)\/(i=oH ls.length d1/\s=oT ls.length d1)\/(i=oT ls.length d2/\s=oH ls.length d2)\/(i=oH ls.length d2/\s=oT ls.length d2)\/(i=oT ls.length d3/\s=oH ls.length d3)\/(i=oH ls.length d3/\s=oT ls.length d3)\/(ch P sd i=dI ls i/\s=i/\i≠oT ls.length d1/\i≠oH ls.length d1/\i≠oT ls.length d2/\i≠oH ls.length d2/\i≠oT ls.length d3/\i≠oH ls.length d3)):=fun i hi=>by
   rcases six i hi with (rfl|rfl|rfl|rfl|rfl|rfl)|⟨e,aF⟩
   .exact⟨_,h1,⟨_,wH,kT1⟩,.inl ⟨rfl,rfl⟩⟩
   .exact⟨_,t1,⟨_,xY,kH1⟩,.inr (.inl ⟨rfl,rfl⟩)⟩
   .exact⟨_,h2,⟨_,sP,kT2⟩,.inr (.inr (.inl ⟨rfl,rfl⟩))⟩
   .exact⟨_,t2,⟨_,tR,kH2⟩,.inr (.inr (.inr (.inl ⟨rfl,rfl⟩)))⟩
   .exact⟨_,h3,⟨_,vh,kT3⟩,.inr (.inr (.inr (.inr (.inl ⟨rfl,rfl⟩))))⟩
   .exact⟨_,t3,⟨_,MQ,kH3⟩,.inr (.inr (.inr (.inr (.inr (.inl ⟨rfl,rfl⟩)))))⟩
   obtain⟨l,hl⟩:=aK hi;exact⟨i,hi,⟨l,hl,by rw[e];exact dU hl⟩,.inr (.inr (.inr (.inr (.inr (.inr ⟨e,rfl,aF⟩)))))⟩
  obtain⟨si,hsi,⟨li,CG,kli⟩,ci'⟩:=nn i hi;obtain⟨sj,IZ,⟨lj,sJ,klj⟩,DI⟩:=nn j hj;rw[kli] at ci e;rw[klj] at cj e;obtain⟨f1,f2,f3,f4⟩:=f12;obtain⟨f5,f6,f7,f8⟩:=f13;obtain⟨f9,f10,f11,f12⟩:=f23;have aF:si≠sj:=by
   clear e2 e3 e1 labs passUn wR bad bH bT hold un six;rcases ci' with ⟨q1,q2⟩|⟨q1,q2⟩|⟨q1,q2⟩|⟨q1,q2⟩|⟨q1,q2⟩|⟨q1,q2⟩|⟨_,q2,n1,n2,n3,n4,n5,n6⟩<;>rcases DI with ⟨w1,w2⟩|⟨w1,w2⟩|⟨w1,w2⟩|⟨w1,w2⟩|⟨w1,w2⟩|⟨w1,w2⟩|⟨_,w2,m1,m2,m3,m4,m5,m6⟩<;>rw[q2,w2]<;>first
    |(rw[q1,w1] at fL;exact absurd rfl fL)
    |assumption
    |exact Ne.symm (by assumption)
    |exact fL
  have ho:=JL g CG sJ ci cj e aF;rcases ci' with ⟨q1,q2⟩|⟨q1,q2⟩|⟨q1,q2⟩|⟨q1,q2⟩|⟨q1,q2⟩|⟨q1,q2⟩|⟨eu,q2,n1,n2,n3,n4,n5,n6⟩
  .rw[q2,<- o1] at ho;rcases DI with ⟨w1,w2⟩|⟨w1,w2⟩|⟨w1,w2⟩|⟨w1,w2⟩|⟨w1,w2⟩|⟨w1,w2⟩|⟨_,w2,m1,m2,m3,m4,m5,m6⟩<;>rw[w2] at ho<;>first
    |(rw[q1,w1];exact C1)
    |exact absurd ho (by assumption)
    |exact absurd ho (Ne.symm (by assumption))
  .rw[q2,r3] at ho;rcases DI with ⟨w1,w2⟩|⟨w1,w2⟩|⟨w1,w2⟩|⟨w1,w2⟩|⟨w1,w2⟩|⟨w1,w2⟩|⟨_,w2,m1,m2,m3,m4,m5,m6⟩<;>rw[w2] at ho<;>first
    |(rw[q1,w1];exact C3.symm)
    |exact absurd ho (by assumption)
    |exact absurd ho (Ne.symm (by assumption))
  .rw[q2,<- o2] at ho;rcases DI with ⟨w1,w2⟩|⟨w1,w2⟩|⟨w1,w2⟩|⟨w1,w2⟩|⟨w1,w2⟩|⟨w1,w2⟩|⟨_,w2,m1,m2,m3,m4,m5,m6⟩<;>rw[w2] at ho<;>first
    |(rw[q1,w1];exact C2)
    |exact absurd ho (by assumption)
    |exact absurd ho (Ne.symm (by assumption))
  .rw[q2,r1] at ho;rcases DI with ⟨w1,w2⟩|⟨w1,w2⟩|⟨w1,w2⟩|⟨w1,w2⟩|⟨w1,w2⟩|⟨w1,w2⟩|⟨_,w2,m1,m2,m3,m4,m5,m6⟩<;>rw[w2] at ho<;>first
    |(rw[q1,w1];exact C1.symm)
    |exact absurd ho (by assumption)
    |exact absurd ho (Ne.symm (by assumption))
  .rw[q2,<- o3] at ho;rcases DI with ⟨w1,w2⟩|⟨w1,w2⟩|⟨w1,w2⟩|⟨w1,w2⟩|⟨w1,w2⟩|⟨w1,w2⟩|⟨_,w2,m1,m2,m3,m4,m5,m6⟩<;>rw[w2] at ho<;>first
    |(rw[q1,w1];exact C3)
    |exact absurd ho (by assumption)
    |exact absurd ho (Ne.symm (by assumption))
  .rw[q2,r2] at ho;rcases DI with ⟨w1,w2⟩|⟨w1,w2⟩|⟨w1,w2⟩|⟨w1,w2⟩|⟨w1,w2⟩|⟨w1,w2⟩|⟨_,w2,m1,m2,m3,m4,m5,m6⟩<;>rw[w2] at ho<;>first
    |(rw[q1,w1];exact C2.symm)
    |exact absurd ho (by assumption)
    |exact absurd ho (Ne.symm (by assumption))
  have hb:=(rl ok.cr CG ci).1;rw[ho,q2] at hb;rcases DI with ⟨w1,w2⟩|⟨w1,w2⟩|⟨w1,w2⟩|⟨w1,w2⟩|⟨w1,w2⟩|⟨w1,w2⟩|⟨eu2,w2,_⟩
  .rw[w2,<- o1] at hb;exact absurd hb.symm n3
  .rw[w2,r3] at hb;exact absurd hb.symm n6
  .rw[w2,<- o2] at hb;exact absurd hb.symm n5
  .rw[w2,r1] at hb;exact absurd hb.symm n2
  .rw[w2,<- o3] at hb;exact absurd hb.symm n1
  .rw[w2,r2] at hb;exact absurd hb.symm n4
  rw[q2] at CG;rw[w2] at sJ;rw[eu,eu2];exact K0 g hi hj fL (by rw[dU CG];exact ci) (by rw[dU sJ];exact cj) (by rw[dU CG,dU sJ];exact e)
 .have ee:=passUn i hi pi;have ee2:=passUn j hj pj;rw[ee] at pi e1 e2;rw[ee2] at pj e1 e2;exact(cz.Qp (Fg hi) (Fg hj) fL).2 pi pj e1 e2
 .obtain⟨j,l,hj,hl,hk,_⟩:=hold i hi;rw[hk] at ci ⊢;exact g.ids.1 l (aU hl) ci
 .have ee:=passUn i hi pi;rw[ee] at pi ⊢;have:=cz.rr _ (aU (Fg hi)) pi;rwa[kU] at this
 .have ee:=passUn i hi pi;rw[ee] at pi ⊢;exact cz.pl _ (aU (Fg hi)) pi
 .have:=cz.gt k hk;rwa[kU] at this
 .have:=cz.gz;rwa[kU] at this
 have viaK:∀d,j=d/2->t=(oK ls d).l\/t=(oK ls d).r:=fun d hd=>by
  rw[hd] at ht;unfold oK;split
  .exact ht
  exact ht.symm
 by_cases n1:j=d1/2
 .rcases viaK d1 n1 with h|h
  .exact .inl h
  exact .inr (labs (bj d2) _ t2 t (.inl (by rw[G2.1,h];exact c1.symm)))
 by_cases n2:j=d2/2
 .rcases viaK d2 n2 with h|h
  .exact .inl (h.trans a1.symm)
  exact .inr (labs (bj d3) _ t3 t (.inl (by rw[G3.1,h];exact c2.symm)))
 by_cases n3:j=d3/2
 .rcases viaK d3 n3 with h|h
  .exact .inl (h.trans (a2.symm.trans a1.symm))
  exact .inr (labs (bj d1) _ t1 t (.inl (by rw[G1.1,h];exact c3.symm)))
 exact .inr ⟨j,hj,by rw[sdn j n1 n2 n3];exact ht⟩
end
theorem Bt(f:Bool)(x:aN):x.up=if f==x.p.d then fe f x else iF (ie f x):=by unfold aN.up fe ie;cases f<;>cases x.p.d<;>rfl
theorem A3(f:Bool)(x:aN):x.lo=if f==x.p.d then ie f x else iF (fe f x):=by unfold aN.lo fe ie;cases f<;>cases x.p.d<;>rfl
section
variable {F:Nat} {ls:List Let}
theorem X7:∀(w:List Nat) (f:Fc),f.places.length<=(w.foldl (Fc.add F ls) f).places.length/\ ∀x∈w,2*ls.length<=x->(tY F ls ((x-2*ls.length)/2)).length<=(w.foldl (Fc.add F ls) f).places.length:=by
 intro w
 induction w with
 |nil=>intro f;exact⟨aX _,fun x hx=>nomatch hx⟩
 |cons x w ih=>
  intro f;rw[zZ];obtain⟨h1,h2⟩:=ih (Fc.add F ls f x);have h3:f.places.length<=(Fc.add F ls f x).places.length:=by
   unfold Fc.add;split
   .exact aX _
   simp only[dX];omega
  refine⟨ll h3 h1,fun y hy hl=>?_⟩;rcases cM.1 hy with rfl|hy
  .refine ll ?_ h1;unfold Fc.add;rw[if_neg aa];simp only[dX];split<;>(try rw[qD])<;>omega
  exact h2 y hy hl
theorem abz(ok:eS F ls){k u v:Nat}(hk:k+1<(aE ls).length)(hu:(aE ls).getD k 0=u)(hv:(aE ls).getD (k+1) 0=v){l m:Let}(hl:ls[u]?=some l)(hm:ls[v]?=some m)
  (pl:l.aA=true) (pm:m.aA=true) (hg:m.gate<=l.gate):l.gate=m.gate/\m.aB=l.aB+1:=by
 obtain⟨u',hu'⟩:=aK (ls:=aE ls) (k:=k) aa;obtain⟨v',hv'⟩:=aK hk;rw[de,hu',mS] at hu;rw[de,hv',mS] at hv;subst hu hv;obtain⟨l',e1,_,e2⟩:=BQ ok.ax hu';obtain⟨m',e3,_,e4⟩:=BQ ok.ax hv';rw[hl] at e1;cases e1;rw[hm] at e3;cases e3;have gl:=ok.ax.eU l (aU hl) pl;have gm:=ok.ax.eU m (aU hm) pm;obtain⟨l1,l2,l3,l4⟩:=gl;obtain⟨m1,m2,m3,m4⟩:=gm;unfold dM at e2 e4;rcases Int.lt_or_eq_of_le hg with c|c
 .exfalso;have mI:=Aj (ls:=ls) (show m.gate.toNat+1<=l.gate.toNat by omega);have hs:=tC ls m.gate.toNat;omega
 rw[c] at e4;exact⟨c.symm,aa⟩
theorem aeG(g:dr F ls){w:List Nat}(hw:w∈js (aT ls) (nD ls))(sK:(mY F ls w).places.length=1){x v:Nat}(hx:x∈w){fw:Bool}(AX:x=iX ls.length v fw){l:Let}(hl:ls[v]?=some l)(pl:l.aA=true):
  ∃u m y,y∈w/\ls[u]?=some m/\m.aA=true/\l.gate=m.gate/\((dn ls v=fw/\m.aB=l.aB+1/\y=dD ls.length u (!dn ls u))\/(dn ls v=(!fw)/\l.aB=m.aB+1/\y=dD ls.length u (dn ls u))):=by
 have ok:=g.ok;have mp:=maps ok;obtain⟨i1,i2⟩:=KB ok hl pl;have hz:=Fe mp hw hx;rw[AX,NI hl pl] at hz;by_cases cd:(dn ls v==fw)=true
 .rw[if_pos cd] at hz;have uy:(tY F ls ((aE ls).idxOf v)).length<=1:=by
   rw[<- sK];unfold mY;have:=(X7 (F:=F) (ls:=ls) w (Fc.new ls (w.headD 0))).2 _ hz aa;rwa[show(2*ls.length+2*(aE ls).idxOf v-2*ls.length)/2=(aE ls).idxOf v by omega] at this
  have hk:(aE ls).idxOf v+1<(aE ls).length:=by
   unfold tY at uy;simp only at uy;split at uy
   .assumption
   rw[dX,Bm,Bm] at uy;omega
  obtain⟨m,hm,pm⟩:=Fy hk;have hg:m.gate<=l.gate:=by unfold tY at uy;simp only at uy;rw[if_pos hk,Bm,i2,gD hk,FU hl,FU hm] at uy;have:=(ok.ax.eU l (aU hl) pl).g0;have:=(ok.ax.eU m (aU hm) pm).g0;omega
  obtain⟨r1,r2⟩:=abz ok hk i2 rfl hl hm pl pm hg;have Gt:=Fe mp hw hz;rw[Kb,gD hk] at Gt;exact⟨_,m,_,Gt,hm,pm,r1,.inl ⟨eq_of_beq cd,r2,rfl⟩⟩
 rw[if_neg cd] at hz;have AP:=dQ ((aE ls).idxOf v+(aE ls).length-1) (show 0<(aE ls).length by omega);have hb:=wP i1;generalize ((aE ls).idxOf v+(aE ls).length-1)%(aE ls).length=k at hz AP hb;have uy:(tY F ls k).length<=1:=by rw[<- sK];unfold mY;have:=(X7 (F:=F) (ls:=ls) w (Fc.new ls (w.headD 0))).2 _ hz aa;rwa[show(2*ls.length+2*k+1-2*ls.length)/2=k by omega] at this
 have hk:k+1<(aE ls).length:=by
  unfold tY at uy;simp only at uy;split at uy
  .assumption
  rw[dX,Bm,Bm] at uy;omega
 rw[gD hk] at hb;obtain⟨m,hm,pm⟩:=Fy AP;have hg:l.gate<=m.gate:=by unfold tY at uy;simp only at uy;rw[if_pos hk,Bm,gD hk,hb,i2,FU hl,FU hm] at uy;have:=(ok.ax.eU l (aU hl) pl).g0;have:=(ok.ax.eU m (aU hm) pm).g0;omega
 obtain⟨r1,r2⟩:=abz ok hk rfl (by rw[hb];exact i2) hm hl pm pl hg;have Gt:=Fe mp hw hz;rw[Ka] at Gt;refine⟨_,m,_,Gt,hm,pm,r1.symm,.inr ⟨?_,r2,rfl⟩⟩;revert cd;cases dn ls v<;>cases fw<;>simp
theorem QS{l:List Pc}{i:Nat}{r:Int}{p:Pc}(h:l[i]?=some p)(j:Nat):(fV l i r)[j]?=if j=i then some ⟨{p.l with aB:=r},p.d⟩ else l[j]? :=by
 have hl:=(aS.1 h).1;unfold fV;rw[de,h,mS,oI];by_cases c:j=i
 .subst c;rw[if_pos rfl,if_pos hl,if_pos rfl]
 rw[if_neg (Ne.symm c),if_neg c]
theorem WZ{q:Pc->Bool}{l:List Pc}{i:Nat}{r:Int}{p:Pc}(h:l[i]?=some p)(hq:∀p:Pc,q ⟨{p.l with aB:=r},p.d⟩=q p):(fV l i r).countP q=l.countP q:=by unfold fV;rw[de,h,mS];have:=Sy (p:=q) (y:=⟨{p.l with aB:=r},p.d⟩) h;rw[hq] at this;show List.countP q (l.set i ⟨{p.l with aB:=r},p.d⟩)=_;omega
theorem as3(g:dr F ls){a b:Nat}(ha:a<ls.length)(hb:b<ls.length)(iR:a≠b){va vb pa pb:Nat}{la lb ma mb:Let}
  (ea:(pa=a/\va=nx ls a)\/(pa=nx ls a/\va=a)) (eb:(pb=b/\vb=nx ls b)\/(pb=nx ls b/\vb=b)) (xT:ls[va]?=some la) (AN:ls[vb]?=some lb) (zD:ls[pa]?=some ma) (zE:ls[pb]?=some mb)
  (ca:la.aC=true) (cb:lb.aC=true) (qa:ma.aA=true) (qb:mb.aA=true) (hid:la.id=lb.id) (hv:va≠vb) (IB:tq F ls 1 [a,b] a=true):
  ∃w,w∈js (aT ls) (nD ls)/\(mY F ls w).places.length=1/\ ∃d,d∈w/\d<2*ls.length/\aT ls d∈w/\aT ls d<2*ls.length/\(∀y,y∈w->y<2*ls.length->y=d\/y=aT ls d)/\
   ((d/2=a/\aT ls d/2=b/\oT ls.length d=pa/\oH ls.length d=va/\oT ls.length (aT ls d)=vb/\oH ls.length (aT ls d)=pb)\/(d/2=b/\aT ls d/2=a/\oT ls.length d=pb/\oH ls.length d=vb/\oT ls.length (aT ls d)=va/\oH ls.length (aT ls d)=pa)):=by
 have ok:=g.ok;obtain⟨w,hw,sK,hlen,hE⟩:=SJ g ha IB;obtain⟨da,vU,uu,yX⟩:=hE a af;obtain⟨db,xA,uV,yY⟩:=hE b af;have aF:da≠db:=aa;have inD:∀d,d∈w->d<2*ls.length->d∈w.filter fun x=>decide (x<2*ls.length):=fun d h1 h2=>uM.2 ⟨h1,by simpa using h2⟩;have two:∀d,d∈w->d<2*ls.length->d=da\/d=db:=fun d h1 h2=>ag6 hlen (inD da vU uu) (inD db xA uV) aF (inD d h1 h2);have ends:∀d e p v:Nat,d/2=e->((p=e/\v=nx ls e)\/(p=nx ls e/\v=e))->(oT ls.length d=p/\oH ls.length d=v)\/(oT ls.length d=v/\oH ls.length d=p):=fun d e p v h1 h2=>by
  unfold oT oH;rw[h1];show((if _ then e else nx ls e)=p/\(if _ then nx ls e else e)=v)\/((if _ then e else nx ls e)=v/\(if _ then nx ls e else e)=p);rcases h2 with ⟨rfl,rfl⟩|⟨rfl,rfl⟩<;>split
  .exact .inl ⟨rfl,rfl⟩
  .exact .inr ⟨rfl,rfl⟩
  .exact .inr ⟨rfl,rfl⟩
  exact .inl ⟨rfl,rfl⟩
 have pc:∀ {x y:Nat} {l m:Let},ls[x]?=some l->ls[y]?=some m->l.aC=true->m.aA=true->x≠y:=fun h1 h2 h3 h4 e=>by subst e;rw[h1] at h2;have:=qF h2;rw[this,n9 h4] at h3;cases h3
 -- a dart that leads to the crossing goes on at the other visit
 have go:∀(d d' p v p' v':Nat) (l m l' m':Let),d∈w->d<2*ls.length->d'<2*ls.length->oT ls.length d=p->oH ls.length d=v->ls[v]?=some l->ls[p]?=some m->ls[v']?=some l'->ls[p']?=some m'->l.aC=true->m.aA=true->l'.aC=true->m'.aA=true->l.id=l'.id->v≠v'->(∀y,y∈w->y<2*ls.length->y=d\/y=d')->((oT ls.length d'=p'/\oH ls.length d'=v')\/(oT ls.length d'=v'/\oH ls.length d'=p'))->aT ls d=d'/\oT ls.length d'=v'/\oH ls.length d'=p':=by
  intro d d' p v p' v' l m l' m' d1 d2 d2' hT hH hl hm u9 wC cl pm HL JA hid hv tw en;obtain⟨s1,s2,_⟩:=HS g d2 (by rw[hH];exact hl) cl;rw[hH,JL g hl u9 cl HL hid hv] at s2;rcases tw _ (Fe (maps ok) hw d1) s1 with e|e
  .exfalso;rw[e,hT] at s2;exact pc u9 hm HL pm s2.symm
  rw[e] at s2;rcases en with ⟨e1,_⟩|⟨e1,e2⟩
  .exact absurd (s2.symm.trans e1) (pc u9 wC HL JA)
  exact⟨e,e1,e2⟩
 have na:=ends da a pa va yX ea;have nb:=ends db b pb vb yY eb;rcases na with ⟨t1,t2⟩|⟨t1,t2⟩
 .obtain⟨e1,e2,e3⟩:=go da db pa va pb vb la ma lb mb vU uu uV t1 t2 xT zD AN zE ca qa cb qb hid hv two nb;refine⟨w,hw,sK,da,vU,uu,by rw[e1];exact xA,by rw[e1];exact uV,by rw[e1];exact two,.inl ⟨yX,by rw[e1];exact yY,t1,t2,by rw[e1];exact e2,by rw[e1];exact e3⟩⟩
 · -- the dart of the first edge leads to the pass: the other one leads to the crossing
  obtain⟨u,m,y,y1,y2,y3,_,y4⟩:=aeG g hw sK vU (v:=pa) (fw:=bj da) (by rw[<- t2];exact SU uu) zD qa;have hu:=(aS.1 y2).1;have yT:oT ls.length y=u/\y<2*ls.length:=by
   have key:∀f,oT ls.length (dD ls.length u f)=u/\dD ls.length u f<2*ls.length:=fun f=>⟨(Ou hu).1,by
    have:=BM hu (!f);rw[<- Df] at this;have:=Bi this;rwa[Bj] at this⟩
   rcases y4 with ⟨_,_,e⟩|⟨_,_,e⟩<;>rw[e]<;>exact key _
  have yb:y=db:=by
   rcases two y y1 yT.2 with e|e
   .exfalso;rw[e,t1] at yT;rw[<- yT.1] at y2;rw[xT] at y2;have:=qF y2;rw[<- this,lJ ca] at y3;cases y3
   exact e
  have nb':oT ls.length db=pb/\oH ls.length db=vb:=by
   rcases nb with h|⟨h1,h2⟩
   .exact h
   exfalso;rw[yb,h1] at yT;rw[<- yT.1,AN] at y2;have:=qF y2;rw[<- this,lJ cb] at y3;cases y3
  obtain⟨e1,e2,e3⟩:=go db da pb vb pa va lb mb la ma xA uV uu nb'.1 nb'.2 AN zE xT zD cb qb ca qa hid.symm hv.symm (fun y h1 h2=>(two y h1 h2).symm) (.inr ⟨t1,t2⟩);refine⟨w,hw,sK,db,xA,uV,by rw[e1];exact vU,by rw[e1];exact uu,by rw[e1];exact fun y h1 h2=>(two y h1 h2).symm,.inr ⟨yY,by rw[e1];exact yX,nb'.1,nb'.2,by rw[e1];exact e2,by rw[e1];exact e3⟩⟩
end
section
variable {F:Nat} {ls:List Let}
theorem QC{e:Nat}(hn:0<ls.length)(he:e<ls.length)(h:(iM ls e).2.2=true):(((iM ls e).1=e/\(iM ls e).2.1=nx ls e)\/((iM ls e).1=nx ls e/\(iM ls e).2.1=e))/\(∃l,ls[(iM ls e).2.1]?=some l/\l.aC=true)/\ ∃m,ls[(iM ls e).1]?=some m/\m.aA=true:=by
 obtain⟨l,hl⟩:=aK he;obtain⟨m,hm⟩:=aK (ls:=ls) (k:=nx ls e) (dQ _ hn);have e1:pA ls e=⟨l,im ls e⟩:=jA (pL hl);have e2:pA ls (nx ls e)=⟨m,im ls (nx ls e)⟩:=jA (pL hm);unfold iM at h ⊢;rw[e1,e2] at h ⊢;by_cases c:(l.kind==2)=true
 .rw[if_pos c] at h ⊢;exact⟨.inr ⟨rfl,rfl⟩,⟨l,hl,c⟩,m,hm,h⟩
 rw[if_neg c] at h ⊢;simp only[cH] at h;exact⟨.inl ⟨rfl,rfl⟩,⟨m,hm,h.2⟩,l,hl,h.1⟩
theorem abl{f:Bool}{x y:aN}(h1:(fe f x).b=(fe f y).b)(h2:(ie f x).b=(ie f y).b):x.i.b=y.i.b/\x.o.b=y.o.b:=by
 rw[Jb,Jb] at h1;rw[Jx,Jx] at h2;cases f
 .exact⟨h2,h1⟩
 exact⟨h1,h2⟩
theorem abj{f:Bool}{x:aN}(h:(fe f x).b=(ie f x).b):x.i.b=x.o.b:=by
 rw[Jb,Jx] at h;cases f
 .exact h.symm
 exact h
theorem abk{f:Bool}{x:aN}(h:x.i.b=x.o.b):(fe f x).b=(ie f x).b:=by
 rw[Jb,Jx];cases f
 .exact h.symm
 exact h
theorem Yr{l:Let}{r:Int}(hp:l.aA=true)(h:dj F l=false):dj F {l with aB:=r}=false:=by have gO:({l with aB:=r}:Let).aA=true:=hp;rw[r4 hp] at h;rw[r4 gO];exact h
theorem YL(g:dr F ls){w:List Nat}(hw:w∈js (aT ls) (nD ls))(sK:(mY F ls w).places.length=1){d d':Nat}(hd:d∈w)(ld:d<2*ls.length)(F7:d'∈w)(GD:d'<2*ls.length)(tN:aT ls d=d')(two:∀y,y∈w->y<2*ls.length->y=d\/y=d')
  {lp lv lw lq:Let} (vg:ls[oT ls.length d]?=some lp) (nO:ls[oH ls.length d]?=some lv) (zK:ls[oT ls.length d']?=some lw) (wA:ls[oH ls.length d']?=some lq) (pp:lp.aA=true) (cv:lv.aC=true) (cw:lw.aC=true) (pq:lq.aA=true)
  {P:List Pc} (Cn:P.length=ls.length) (sH:∀q:Let->Bool,(∀(l:Let) (r:Int),q {l with aB:=r}=q l)->ay q (P.map Pc.l)=ay q ls)
  (hP:oT ls.length d≠oH ls.length d'->P[oT ls.length d]?=(pieces ls)[oH ls.length d]? /\P[oH ls.length d]?=some ⟨{lp with aB:=lq.aB},im ls (oT ls.length d)⟩/\P[oT ls.length d']?=some ⟨{lq with aB:=lp.aB},im ls (oH ls.length d')⟩/\P[oH ls.length d']?=(pieces ls)[oT ls.length d']? /\
   ∀i,i≠oT ls.length d->i≠oH ls.length d->i≠oT ls.length d'->i≠oH ls.length d'->P[i]?=(pieces ls)[i]?):Cert F P:=by
 have ok:=g.ok;have cz:=g.cz;have hn:0<ls.length:=gV.2 g.ne;have t1:=Nj g ld;have t2:=Nj g GD;have h1:=Jt g ld;have h2:=Jt g GD
 -- the neighbours on the Og
 obtain⟨u,m,y,y1,y2,y3,kx,y4⟩:=aeG g hw sK F7 (v:=oH ls.length d') (fw:=bj d') (SU GD) wA pq;have hu:=(aS.1 y2).1;have yT:∀f,oT ls.length (dD ls.length u f)=u/\bj (dD ls.length u f)=f/\dD ls.length u f<2*ls.length:=fun f=>⟨(Ou hu).1,(Ou hu).2,by
  have:=BM hu (!f);rw[<- Df] at this;have:=Bi this;rwa[Bj] at this⟩
 have yd:y=d:=by
  have hyt:oT ls.length y=u/\y<2*ls.length:=by rcases y4 with ⟨_,_,e⟩|⟨_,_,e⟩<;>rw[e]<;>exact⟨(yT _).1,(yT _).2.2⟩
  rcases two y y1 hyt.2 with e|e
  .exact e
  exfalso;rw[e] at hyt;rw[<- hyt.1,zK] at y2;have:=qF y2;rw[<- this,lJ cw] at y3;cases y3
 subst yd;have hu':oT ls.length y=u:=by rcases y4 with ⟨_,_,e⟩|⟨_,_,e⟩<;>rw[e]<;>exact(yT _).1
 subst hu';rw[vg] at y2;cases y2
 -- cR: fZ the Og
 obtain⟨cR,hR⟩:∃cR:Bool,(cR=true/\dn ls (oH ls.length d')=bj d'/\lp.aB=lq.aB+1/\bj y= !dn ls (oT ls.length y))\/(cR=false/\dn ls (oH ls.length d')=(!bj d')/\lq.aB=lp.aB+1/\bj y=dn ls (oT ls.length y)):=by
  rcases y4 with ⟨e1,e2,e3⟩|⟨e1,e2,e3⟩
  .exact⟨true,.inl ⟨rfl,e1,e2,(congrArg bj e3).trans (yT _).2.1⟩⟩
  exact⟨false,.inr ⟨rfl,e1,e2,(congrArg bj e3).trans (yT _).2.1⟩⟩
 clear y4 yT y1 y3 hu;have kz:lp.aB≠lq.aB:=by rcases hR with ⟨_,_,h,_⟩|⟨_,_,h,_⟩<;>omega
 have npq:oT ls.length y≠oH ls.length d':=fun e=>by rw[e,wA] at vg;have:=qF vg;rw[this] at kz;exact kz rfl
 obtain⟨pT,pH,pT',pH',pU⟩:=hP npq;clear hP;obtain⟨_,o1,q1,k1⟩:=HS g ld nO cv;rw[tN] at o1 q1 k1;rw[IC ld,JX GD] at k1;obtain⟨xa,xb,xc,xd⟩:=k1;simp only[if_true] at xa xb xc xd;have pc:∀ {x y:Nat} {l m:Let},ls[x]?=some l->ls[y]?=some m->l.aC=true->m.aA=true->x≠y:=fun h1 h2 h3 h4 e=>by subst e;rw[h1] at h2;have:=qF h2;rw[this,n9 h4] at h3;cases h3
 have nvw:oH ls.length y≠oT ls.length d':=by intro e;obtain⟨_,m,hm,_,_,mo,_⟩:=rl ok.cr nO cv;rw[<- o1,<- e,nO] at hm;have:=qF hm;rw[<- this] at mo;revert mo;cases lv.over<;>simp
 have nvp:=pc nO vg cv pp;have nvq:=pc nO wA cv pq;have nwp:=pc zK vg cw pp;have nwq:=pc zK wA cw pq
 -- ends of the edges
 have ee:∀d:Nat,(oT ls.length d=d/2/\oH ls.length d=nx ls (d/2))\/(oT ls.length d=nx ls (d/2)/\oH ls.length d=d/2):=fun d=>by
  unfold oT oH nx;split
  .exact .inl ⟨rfl,rfl⟩
  exact .inr ⟨rfl,rfl⟩
 have apart:y/2≠d'/2/\y/2≠nx ls (d'/2)/\nx ls (y/2)≠d'/2/\nx ls (y/2)≠nx ls (d'/2)/\y/2≠nx ls (y/2)/\d'/2≠nx ls (d'/2):=by
  rcases ee y with ⟨a1,a2⟩|⟨a1,a2⟩<;>rcases ee d' with ⟨b1,b2⟩|⟨b1,b2⟩
  .rw[<- a2,<- a1,<- b2,<- b1];exact⟨nwp.symm,npq,nvw,nvq,nvp.symm,nwq⟩
  .rw[<- a2,<- a1,<- b1,<- b2];exact⟨npq,nwp.symm,nvq,nvw,nvp.symm,nwq.symm⟩
  .rw[<- a1,<- a2,<- b2,<- b1];exact⟨nvw,nvq,nwp.symm,npq,nvp,nwq⟩
  rw[<- a1,<- a2,<- b1,<- b2];exact⟨nvq,nvw,npq,nwp.symm,nvp,nwq.symm⟩
 let tau:=(oK ls y).l
 let tI:=fe (bj y) (dI ls (oT ls.length y))
 let hO:=ie (bj d') (dI ls (oH ls.length d'))
 let oth:=(ie (bj y) (dI ls (oH ls.length y))).r
 let K1:dS:=⟨hO.r,tau,tI.b⟩
 let K2:dS:=⟨tI.r,tau,hO.b⟩
 let sd:Nat->dS:=fun j=>if j=y/2 then uo (bj y) K1 else if j=d'/2 then uo (bj d') K2 else qC ls j
 have sd1:sd (y/2)=uo (bj y) K1:=if_pos rfl;have sd2:sd (d'/2)=uo (bj d') K2:=by show(if _ then _ else _)=_;rw[if_neg apart.1.symm,if_pos rfl]
 have sdn:∀j,j≠y/2->j≠d'/2->sd j=qC ls j:=fun j h1 h2=>by show(if _ then _ else _)=_;rw[if_neg h1,if_neg h2]
 have prev:∀i,i<ls.length->i≠nx ls (y/2)->i≠nx ls (d'/2)->sd ((i+ls.length-1)%ls.length)=qC ls ((i+ls.length-1)%ls.length):=fun i hi n1 n2=>sdn _ (fun h=>n1 (BS hi h)) (fun h=>n2 (BS hi h))
 obtain⟨z1,z2,z3,z4,z5,z6⟩:=apart;have G1:=K4 (P:=P) Cn ld sd1 (prev _ aa z5 z2) (sdn _ z5.symm z3);have G2:=K4 (P:=P) Cn GD sd2 (prev _ aa z3.symm z6) (sdn _ z2.symm z6.symm);have un:∀i,i<ls.length->i≠oT ls.length y->i≠oH ls.length y->i≠oT ls.length d'->i≠oH ls.length d'->ch P sd i=dI ls i:=fun i hi n1 n2 n3 n4=>by
  have a1:i≠y/2/\i≠nx ls (y/2):=by
   rcases ee y with ⟨a1,a2⟩|⟨a1,a2⟩
   .rw[<- a2,<- a1];exact⟨n1,n2⟩
   rw[<- a1,<- a2];exact⟨n2,n1⟩
  have a2:i≠d'/2/\i≠nx ls (d'/2):=by
   rcases ee d' with ⟨a1,a2⟩|⟨a1,a2⟩
   .rw[<- a2,<- a1];exact⟨n3,n4⟩
   rw[<- a1,<- a2];exact⟨n4,n3⟩
  exact ZU Cn hi (pU i n1 n2 n3 n4) (prev i hi a1.2 a2.2) (sdn i a1.1 a2.1)
 have six:∀i,i<ls.length->(i=oT ls.length y\/i=oH ls.length y\/i=oT ls.length d'\/i=oH ls.length d')\/(ch P sd i=dI ls i/\i≠oT ls.length y/\i≠oH ls.length y/\i≠oT ls.length d'/\i≠oH ls.length d'):=fun i hi=>by
  rcases Classical.em (i=oT ls.length y\/i=oH ls.length y\/i=oT ls.length d'\/i=oH ls.length d') with h|h
  .exact .inl h
  simp only[not_or] at h;exact .inr ⟨un i hi h.1 h.2.1 h.2.2.1 h.2.2.2,h⟩
 have gp:∀ {i:Nat} {p:Pc},P[i]?=some p->(ch P sd i).p=p:=fun {i p} h=>by show P.getD i _=_;rw[de,h];rfl
 have kT:(ch P sd (oT ls.length y)).k=lv:=congrArg Pc.l (gp (pT.trans (pL nO)));have kH:(ch P sd (oH ls.length y)).k={lp with aB:=lq.aB}:=congrArg Pc.l (gp pH);have wM:(ch P sd (oT ls.length d')).k={lq with aB:=lp.aB}:=congrArg Pc.l (gp pT');have EI:(ch P sd (oH ls.length d')).k=lw:=congrArg Pc.l (gp (pH'.trans (pL zK)));have dH:(ch P sd (oH ls.length y)).p.d=(dI ls (oT ls.length y)).p.d:=by rw[gp pH];rfl
 have Cd:(ch P sd (oT ls.length d')).p.d=(dI ls (oH ls.length d')).p.d:=by rw[gp pT'];rfl
 have okv:=(DR g h1).cb (by rw[dU nO];exact cv);have okw:=(DR g t2).cb (by rw[dU zK];exact cw);have bv:=abk (f:=bj y) okv;have bw:=abk (f:=bj d') okw;rw[IC ld] at bv;rw[JX GD] at bw;have bp:=JX (ls:=ls) ld;have bq:=IC (ls:=ls) GD;have gdp:=ok.ax.eU lp (aU vg) pp;have gdq:=ok.ax.eU lq (aU wA) pq;have plp:=OA g vg pp;have plq:=OA g wA pq;obtain⟨p1,p2,p3,p4⟩:=plp;obtain⟨p5,p6,p7,p8⟩:=plq;rw[dU vg] at p1 p2 p3 p4;rw[dU wA] at p5 p6 p7 p8;have kM:=Oz g vg pp;have xO:=Oz g wA pq;rw[Bt (bj y)] at p1 p2;rw[A3 (bj y)] at p3 p4;rw[Bt (bj d')] at p5 p6;rw[A3 (bj d')] at p7 p8;rw[kM,bp] at p1 p2 p3 p4;rw[xO,bq] at p5 p6 p7 p8;have cgq:cg ls lq.gate.toNat=cg ls lp.gate.toNat:=by rw[kx]
 obtain⟨gp0,F0,gp2,gp3⟩:=gdp;obtain⟨gq0,gq1,gq2,gq3⟩:=gdq;rw[cgq] at gq3;rw[kx] at p5 p6 p7 p8;obtain⟨r,T',B',ky,sN,iH,hT,pl1,pl2,rU⟩:∃(r:Nat) (T' B':Nat->Nat->Nat),1<=r/\r<cg ls lp.gate.toNat/\((lp.aB=(r:Int)/\lq.aB=(r:Int)+1)\/(lq.aB=(r:Int)/\lp.aB=(r:Int)+1))/\(∀k j,¬(k=lp.gate.toNat/\j=r)->T' k j=TF ls k j/\B' k j=BF ls k j)/\
   GM T' B' (ch P sd (oH ls.length y))/\GM T' B' (ch P sd (oT ls.length d'))/\tI.l=hO.l:=by
  rcases hR with ⟨_,fy,anr,dL⟩|⟨_,fy,anr,dL⟩
  .have f1:(bj y==dn ls (oT ls.length y))=false:=by rw[dL];cases dn ls (oT ls.length y)<;>rfl
   have f2:(bj d'==dn ls (oH ls.length d'))=true:=by rw[fy];cases bj d'<;>rfl
   rw[f1] at p1 p2 p3 p4;rw[f2] at p5 p6 p7 p8;simp only[dx,if_false,if_true] at p1 p2 p3 p4 p5 p6 p7 p8;have er:lp.aB.toNat=lq.aB.toNat+1:=aa;rw[er] at p1 p2 p3 p4;rw[Nat.add_sub_cancel] at p1 p3;refine⟨lq.aB.toNat,fun k j=>if k=lp.gate.toNat/\j=lq.aB.toNat then oth else TF ls k j,fun k j=>if k=lp.gate.toNat/\j=lq.aB.toNat then tau else BF ls k j,aa,aa,.inr ⟨aa,aa⟩,fun k j h=>⟨if_neg h,if_neg h⟩,?_,?_,?_⟩
   .constructor
    .rw[kH,Bt (bj y),dH,kM,f1];show(iF (ie (bj y) (ch P sd (oH ls.length y)))).r=if lp.gate.toNat=lp.gate.toNat/\lq.aB.toNat-1=lq.aB.toNat then oth else TF ls lp.gate.toNat (lq.aB.toNat-1);rw[if_neg aa,G1.2.2.2];exact xd.symm.trans p5
    .rw[kH,Bt (bj y),dH,kM,f1];show(iF (ie (bj y) (ch P sd (oH ls.length y)))).l=if lp.gate.toNat=lp.gate.toNat/\lq.aB.toNat=lq.aB.toNat then oth else TF ls lp.gate.toNat lq.aB.toNat;rw[if_pos ⟨rfl,rfl⟩,G1.2.2.2];rfl
    .rw[kH,A3 (bj y),dH,kM,f1];show(iF (fe (bj y) (ch P sd (oH ls.length y)))).r=if lp.gate.toNat=lp.gate.toNat/\lq.aB.toNat-1=lq.aB.toNat then tau else BF ls lp.gate.toNat (lq.aB.toNat-1);rw[if_neg aa,G1.2.2.1];exact p7
    rw[kH,A3 (bj y),dH,kM,f1];show(iF (fe (bj y) (ch P sd (oH ls.length y)))).l=if lp.gate.toNat=lp.gate.toNat/\lq.aB.toNat=lq.aB.toNat then tau else BF ls lp.gate.toNat lq.aB.toNat;rw[if_pos ⟨rfl,rfl⟩,G1.2.2.1];rfl
   .constructor
    .rw[wM,Bt (bj d'),Cd,xO,f2];show(fe (bj d') (ch P sd (oT ls.length d'))).r=if lq.gate.toNat=lp.gate.toNat/\lp.aB.toNat-1=lq.aB.toNat then oth else TF ls lq.gate.toNat (lp.aB.toNat-1);rw[if_pos ⟨by rw[kx],aa⟩,G2.1];exact xb.symm
    .rw[wM,Bt (bj d'),Cd,xO,f2];show(fe (bj d') (ch P sd (oT ls.length d'))).l=if lq.gate.toNat=lp.gate.toNat/\lp.aB.toNat=lq.aB.toNat then oth else TF ls lq.gate.toNat lp.aB.toNat;rw[if_neg aa,G2.1,kx,er];exact xc.trans p2
    .rw[wM,A3 (bj d'),Cd,xO,f2];show(ie (bj d') (ch P sd (oT ls.length d'))).r=if lq.gate.toNat=lp.gate.toNat/\lp.aB.toNat-1=lq.aB.toNat then tau else BF ls lq.gate.toNat (lp.aB.toNat-1);rw[if_pos ⟨by rw[kx],aa⟩,G2.2.1]
    rw[wM,A3 (bj d'),Cd,xO,f2];show(ie (bj d') (ch P sd (oT ls.length d'))).l=if lq.gate.toNat=lp.gate.toNat/\lp.aB.toNat=lq.aB.toNat then tau else BF ls lq.gate.toNat lp.aB.toNat;rw[if_neg aa,G2.2.1,kx,er];exact p4
   exact p3.trans p8.symm
  have f1:(bj y==dn ls (oT ls.length y))=true:=by rw[dL];cases dn ls (oT ls.length y)<;>rfl
  have f2:(bj d'==dn ls (oH ls.length d'))=false:=by rw[fy];cases bj d'<;>rfl
  rw[f1] at p1 p2 p3 p4;rw[f2] at p5 p6 p7 p8;simp only[dx,if_false,if_true] at p1 p2 p3 p4 p5 p6 p7 p8;have er:lq.aB.toNat=lp.aB.toNat+1:=aa;rw[er] at p5 p6 p7 p8;rw[Nat.add_sub_cancel] at p5 p7;refine⟨lp.aB.toNat,fun k j=>if k=lp.gate.toNat/\j=lp.aB.toNat then tau else TF ls k j,fun k j=>if k=lp.gate.toNat/\j=lp.aB.toNat then oth else BF ls k j,aa,aa,.inl ⟨aa,aa⟩,fun k j h=>⟨if_neg h,if_neg h⟩,?_,?_,?_⟩
  .constructor
   .rw[kH,Bt (bj y),dH,kM,f1];show(fe (bj y) (ch P sd (oH ls.length y))).r=if lp.gate.toNat=lp.gate.toNat/\lq.aB.toNat-1=lp.aB.toNat then tau else TF ls lp.gate.toNat (lq.aB.toNat-1);rw[if_pos ⟨rfl,aa⟩,G1.2.2.1]
   .rw[kH,Bt (bj y),dH,kM,f1];show(fe (bj y) (ch P sd (oH ls.length y))).l=if lp.gate.toNat=lp.gate.toNat/\lq.aB.toNat=lp.aB.toNat then tau else TF ls lp.gate.toNat lq.aB.toNat;rw[if_neg aa,G1.2.2.1,er];exact p6
   .rw[kH,A3 (bj y),dH,kM,f1];show(ie (bj y) (ch P sd (oH ls.length y))).r=if lp.gate.toNat=lp.gate.toNat/\lq.aB.toNat-1=lp.aB.toNat then oth else BF ls lp.gate.toNat (lq.aB.toNat-1);rw[if_pos ⟨rfl,aa⟩,G1.2.2.2]
   rw[kH,A3 (bj y),dH,kM,f1];show(ie (bj y) (ch P sd (oH ls.length y))).l=if lp.gate.toNat=lp.gate.toNat/\lq.aB.toNat=lp.aB.toNat then oth else BF ls lp.gate.toNat lq.aB.toNat;rw[if_neg aa,G1.2.2.2,er];exact xd.symm.trans p8
  .constructor
   .rw[wM,Bt (bj d'),Cd,xO,f2];show(iF (ie (bj d') (ch P sd (oT ls.length d')))).r=if lq.gate.toNat=lp.gate.toNat/\lp.aB.toNat-1=lp.aB.toNat then tau else TF ls lq.gate.toNat (lp.aB.toNat-1);rw[if_neg aa,G2.2.1,kx];exact p1
   .rw[wM,Bt (bj d'),Cd,xO,f2];show(iF (ie (bj d') (ch P sd (oT ls.length d')))).l=if lq.gate.toNat=lp.gate.toNat/\lp.aB.toNat=lp.aB.toNat then tau else TF ls lq.gate.toNat lp.aB.toNat;rw[if_pos ⟨by rw[kx],rfl⟩,G2.2.1];rfl
   .rw[wM,A3 (bj d'),Cd,xO,f2];show(iF (fe (bj d') (ch P sd (oT ls.length d')))).r=if lq.gate.toNat=lp.gate.toNat/\lp.aB.toNat-1=lp.aB.toNat then oth else BF ls lq.gate.toNat (lp.aB.toNat-1);rw[if_neg aa,G2.1,kx];exact xc.trans p3
   rw[wM,A3 (bj d'),Cd,xO,f2];show(iF (fe (bj d') (ch P sd (oT ls.length d')))).l=if lq.gate.toNat=lp.gate.toNat/\lp.aB.toNat=lp.aB.toNat then oth else BF ls lq.gate.toNat lp.aB.toNat;rw[if_pos ⟨by rw[kx],rfl⟩,G2.1];exact xb.symm
  exact p2.trans p5.symm
 clear p1 p2 p3 p4 p5 p6 p7 p8 hR;have mgp:∀i,i<ls.length->(ch P sd i).k.aA=true->(i=oH ls.length y\/i=oT ls.length d')\/(ch P sd i=dI ls i/\i≠oT ls.length y/\i≠oH ls.length y/\i≠oT ls.length d'/\i≠oH ls.length d'):=fun i hi hp=>by
  rcases six i hi with (rfl|rfl|rfl|rfl)|h
  .rw[kT,lJ cv] at hp;cases hp
  .exact .inl (.inl rfl)
  .exact .inl (.inr rfl)
  .rw[EI,lJ cw] at hp;cases hp
  exact .inr h
 have mgc:∀i,i<ls.length->(ch P sd i).k.aC=true->(i=oT ls.length y\/i=oH ls.length d')\/(ch P sd i=dI ls i/\i≠oT ls.length y/\i≠oH ls.length y/\i≠oT ls.length d'/\i≠oH ls.length d'):=fun i hi hc=>by
  have n1:∀(l:Let) (r:Int),l.aA=true->({l with aB:=r}:Let).aC=false:=fun l r h=>n9 (l:={l with aB:=r}) h;rcases six i hi with (rfl|rfl|rfl|rfl)|h
  .exact .inl (.inl rfl)
  .rw[kH,n1 _ _ pp] at hc;cases hc
  .rw[wM,n1 _ _ pq] at hc;cases hc
  .exact .inl (.inr rfl)
  exact .inr h
 -- the place of a pass is that of an old one
 have old:∀i,i<ls.length->(ch P sd i).k.aA=true->∃j l,ls[j]?=some l/\l.aA=true/\(ch P sd i).k.gate=l.gate/\(ch P sd i).k.aB=l.aB/\((i=oH ls.length y/\j=oH ls.length d')\/(i=oT ls.length d'/\j=oT ls.length y)\/(i=j/\i≠oT ls.length y/\i≠oH ls.length d')):=fun i hi hp=>by
  rcases mgp i hi hp with (rfl|rfl)|⟨e,n1,n2,n3,n4⟩
  .exact⟨_,lq,wA,pq,by rw[kH];exact kx.symm,by rw[kH],.inl ⟨rfl,rfl⟩⟩
  .exact⟨_,lp,vg,pp,by rw[wM];exact kx,by rw[wM],.inr (.inl ⟨rfl,rfl⟩)⟩
  obtain⟨l,hl⟩:=aK hi;rw[e] at hp;rw[dU hl] at hp;exact⟨i,l,hl,hp,by rw[e,dU hl],by rw[e,dU hl],.inr (.inr ⟨rfl,n1,n4⟩)⟩
 have C1:Xc (ch P sd (oT ls.length y)) (ch P sd (oH ls.length d')):=by
  obtain⟨b1,m,hm,mc,mi,mo,ms⟩:=rl ok.cr nO cv;rw[<- o1,zK] at hm;have em:=qF hm;subst em;refine⟨by rw[kT,EI,mo];simp,by rw[kT,EI,ms],?_⟩;rw[kT,q1,<- RP,G1.1,G1.2.1,G2.2.2.1,G2.2.2.2];constructor<;>simp only[if_true]
  .exact rU
  .rfl
  .rfl
  rfl
 have hid:lv.id=lw.id:=by obtain⟨b1,m,hm,mc,mi,mo,ms⟩:=rl ok.cr nO cv;rw[<- o1,zK] at hm;rw[qF hm,mi]
 have ho2:ib ls (oT ls.length d')=oH ls.length y:=by rw[o1];exact(rl ok.cr nO cv).1
 have labs:∀(f:Bool) i,i<ls.length->∀t,t=(fe f (ch P sd i)).l\/t=(fe f (ch P sd i)).r->∃j',j'<ls.length/\(t=(sd j').l\/t=(sd j').r):=fun f i hi t ht=>by
  cases f
  .refine⟨i,hi,?_⟩;rcases ht with ht|ht
   .exact .inr ht
   exact .inl ht
  refine⟨(i+P.length-1)%P.length,?_,ht⟩;rw[Cn];exact dQ _ hn
 have labo:∀(f:Bool) i,i<ls.length->∀t,t=(ie f (ch P sd i)).l\/t=(ie f (ch P sd i)).r->∃j',j'<ls.length/\(t=(sd j').l\/t=(sd j').r):=fun f i hi t ht=>by
  cases f
  .refine⟨(i+P.length-1)%P.length,?_,?_⟩
   .rw[Cn];exact dQ _ hn
   rcases ht with ht|ht
   .exact .inr ht
   exact .inl ht
  exact⟨i,hi,ht⟩
 have czgt:=cz.gt;have czgz:=cz.gz;rw[kU] at czgz;refine YP g (tau:=tau) (sd:=sd) (T':=T') (B':=B') Cn (sH _ fun _ _=>rfl) (sH _ fun _ _=>rfl) (fun k=>sH _ fun _ _=>rfl) (fun i hi=>?_) (fun i j hi hj fL ci cj e=>?_) (fun i j hi hj fL pi pj e1 e2=>?_) (fun i hi ci=>?_) (fun i hi pi=>?_) (fun i hi pi=>?_) (fun k hk=>?_) ?_ (fun j hj t ht=>?_)
 .rcases six i hi with (rfl|rfl|rfl|rfl)|⟨e,_⟩
  .exact⟨by rw[kT];exact g.bad lv (aU nO),fun _=>abj (f:=bj y) (by rw[G1.1,G1.2.1]),fun hp=>by rw[kT,lJ cv] at hp;cases hp⟩
  .have fl:=abl (f:=bj y) (x:=ch P sd (oH ls.length y)) (y:=dI ls (oT ls.length y)) (by rw[G1.2.2.1]) (by rw[G1.2.2.2,bp];exact bv.symm);refine⟨by rw[kH];exact Yr pp (g.bad lp (aU vg)),fun hc=>?_,fun _=>?_⟩
   .rw[kH] at hc;have:=n9 (l:={lp with aB:=lq.aB}) pp;rw[this] at hc;cases hc
   rw[fl.1,fl.2,dH];exact(DR g t1).pb (by rw[dU vg];exact pp)
  .have fl:=abl (f:=bj d') (x:=ch P sd (oT ls.length d')) (y:=dI ls (oH ls.length d')) (by rw[G2.1,bq];exact bw) (by rw[G2.2.1]);refine⟨by rw[wM];exact Yr pq (g.bad lq (aU wA)),fun hc=>?_,fun _=>?_⟩
   .rw[wM] at hc;have:=n9 (l:={lq with aB:=lp.aB}) pq;rw[this] at hc;cases hc
   rw[fl.1,fl.2,Cd];exact(DR g h2).pb (by rw[dU wA];exact pq)
  .exact⟨by rw[EI];exact g.bad lw (aU zK),fun _=>abj (f:=bj d') (by rw[G2.2.2.1,G2.2.2.2]),fun hp=>by rw[EI,lJ cw] at hp;cases hp⟩
  rw[e];exact DR g hi
 .rcases mgc i hi ci with (rfl|rfl)|⟨ei,n1,n2,n3,n4⟩<;>rcases mgc j hj cj with (rfl|rfl)|⟨ej,m1,m2,m3,m4⟩
  .exact absurd rfl fL
  .exact C1
  .exfalso;obtain⟨l,hl⟩:=aK hj;rw[kT,ej,dU hl] at e;rw[ej,dU hl] at cj;have:=JL g nO hl cv cj e m2.symm;rw[<- o1] at this;exact m3 this.symm
  .exact C1.symm
  .exact absurd rfl fL
  .exfalso;obtain⟨l,hl⟩:=aK hj;rw[EI,ej,dU hl] at e;rw[ej,dU hl] at cj;have:=JL g zK hl cw cj e m3.symm;rw[ho2] at this;exact m2 this.symm
  .exfalso;obtain⟨l,hl⟩:=aK hi;rw[kT,ei,dU hl] at e;rw[ei,dU hl] at ci;have:=JL g nO hl cv ci e.symm n2.symm;rw[<- o1] at this;exact n3 this.symm
  .exfalso;obtain⟨l,hl⟩:=aK hi;rw[EI,ei,dU hl] at e;rw[ei,dU hl] at ci;have:=JL g zK hl cw ci e.symm n3.symm;rw[ho2] at this;exact n2 this.symm
  rw[ei] at ci e ⊢;rw[ej] at cj e ⊢;exact K0 g hi hj fL ci cj e
 .obtain⟨a,l,hl,_,g1',r6,c1⟩:=old i hi pi;obtain⟨b,m,hm,_,g2',sW,c2⟩:=old j hj pj;rename_i Ba JA;have iR:a≠b:=by
   intro e;rcases c1 with ⟨i1,j1⟩|⟨i1,j1⟩|⟨i1,i2,i3⟩<;>rcases c2 with ⟨k1,k2⟩|⟨k1,k2⟩|⟨k1,k2,k3⟩
   .exact fL (i1.trans k1.symm)
   .exact npq (by rw[<- k2,<- e,j1])
   .exact k3 (by rw[k1,<- e,j1])
   .exact npq (by rw[<- j1,e,k2])
   .exact fL (i1.trans k1.symm)
   .exact k2 (by rw[k1,<- e,j1])
   .exact i3 (by rw[i1,e,k2])
   .exact i2 (by rw[i1,e,k2])
   exact fL (by rw[i1,k1,e])
  have gl:=ok.ax.eU l (aU hl) Ba;have gm:=ok.ax.eU m (aU hm) JA;exact iR (ok.ax.inj a b l m hl hm Ba JA ((GO gl gm).2 ⟨by rw[<- g1',<- g2',e1],by rw[<- r6,<- sW,e2]⟩))
 .rcases mgc i hi ci with (rfl|rfl)|⟨ei,_⟩
  .rw[kT];exact g.ids.1 lv (aU nO) cv
  .rw[EI];exact g.ids.1 lw (aU zK) cw
  obtain⟨l,hl⟩:=aK hi;rw[ei,dU hl] at ci ⊢;exact g.ids.1 l (aU hl) ci
 .obtain⟨a,l,hl,Ba,g1',r6,_⟩:=old i hi pi;rw[g1',r6];obtain⟨_,_,b1,b2⟩:=ok.ax.eU l (aU hl) Ba;exact⟨b1,b2⟩
 .rcases mgp i hi pi with (rfl|rfl)|⟨ei,n1,n2,n3,n4⟩
  .exact pl1
  .exact pl2
  obtain⟨l,hl⟩:=aK hi;rw[ei] at pi ⊢;rw[dU hl] at pi;obtain⟨a1,a2,a3,a4⟩:=OA g hl pi;rw[dU hl] at a1 a2 a3 a4;obtain⟨b0,_,b1,b2⟩:=ok.ax.eU l (aU hl) pi;have far:l.gate.toNat=lp.gate.toNat->l.aB.toNat≠r/\l.aB.toNat-1≠r:=fun iL=>by have gg:l.gate=lp.gate:=aa;have d1:l.aB≠lp.aB:=fun e=>n1 (ok.ax.inj i _ l lp hl vg pi pp ((GO (ok.ax.eU l (aU hl) pi) (ok.ax.eU lp (aU vg) pp)).2 ⟨gg,e⟩));have d2:l.aB≠lq.aB:=fun e=>n4 (ok.ax.inj i _ l lq hl wA pi pq ((GO (ok.ax.eU l (aU hl) pi) (ok.ax.eU lq (aU wA) pq)).2 ⟨by rw[gg,kx],e⟩));rcases iH with ⟨s1,s2⟩|⟨s1,s2⟩<;>omega
  have v1:=hT l.gate.toNat (l.aB.toNat-1) (fun⟨h1,h2⟩=>(far h1).2 h2);have v2:=hT l.gate.toNat l.aB.toNat (fun⟨h1,h2⟩=>(far h1).1 h2);constructor
  .rw[dU hl,v1.1];exact a1
  .rw[dU hl,v2.1];exact a2
  .rw[dU hl,v1.2];exact a3
  rw[dU hl,v2.2];exact a4
 .have:=czgt k hk;rw[kU] at this;have v1:=hT k (cg ls k) (fun⟨h1,h2⟩=>by rw[h1] at h2;omega);have v2:=hT (k+1) 0 (fun⟨_,h2⟩=>aa);rw[v1.1,v1.2,v2.1,v2.2];exact this
 .have v1:=hT F (cg ls F) (fun⟨h1,h2⟩=>by rw[h1] at h2;omega);have v2:=hT 0 0 (fun⟨_,h2⟩=>aa);rw[v1.1,v1.2,v2.1,v2.2];exact czgz
 have viaK:∀d,j=d/2->t=(oK ls d).l\/t=(oK ls d).r:=fun d hd=>by
  rw[hd] at ht;unfold oK;split
  .exact ht
  exact ht.symm
 by_cases n1:j=y/2
 .rcases viaK y n1 with h|h
  .exact .inl h
  exact .inr (labs (bj d') _ t2 t (.inl (by rw[G2.1,h];exact xc.symm)))
 by_cases n2:j=d'/2
 .rcases viaK d' n2 with h|h
  .exact .inl (h.trans xa.symm)
  exact .inr (labo (bj y) _ h1 t (.inl (by rw[G1.2.2.2,h];exact xd)))
 exact .inr ⟨j,hj,by rw[sdn j n1 n2];exact ht⟩
theorem YK(g:dr F ls){a b:Nat}(ha:a<ls.length)(hb:b<ls.length)(iR:a≠b){L:List Pc}(h:xn F ls a b=some L):Cert F L:=by
 unfold xn at h;split at h
 case isFalse=>cases h
 rename_i hc;simp only[cH,kV,beq_eq_false_iff_ne,beq_iff_eq] at hc;obtain⟨h1,h2,h3,h4,h5⟩:=hc;cases h;have hn:0<ls.length:=gV.2 g.ne;have bK:=fi ls;obtain⟨ea,⟨la,xT,ca⟩,ma,zD,qa⟩:=QC hn ha h1;obtain⟨eb,⟨lb,AN,cb⟩,mb,zE,qb⟩:=QC hn hb h2;generalize (iM ls a).1=pa at*;generalize (iM ls a).2.1=va at*;generalize (iM ls b).1=pb at*;generalize (iM ls b).2.1=vb at*;have eva:pA ls va=⟨la,im ls va⟩:=jA (pL xT);have evb:pA ls vb=⟨lb,im ls vb⟩:=jA (pL AN);have epa:pA ls pa=⟨ma,im ls pa⟩:=jA (pL zD);have epb:pA ls pb=⟨mb,im ls pb⟩:=jA (pL zE);rw[eva,evb] at h4;rw[epa,epb]
 obtain⟨w,hw,sK,d,d1,d2,d3,d4,two,cs⟩:=as3 g ha hb iR ea eb xT AN zD zE ca cb qa qb h4 h3 h5;have pc:∀ {x y:Nat} {l m:Let},ls[x]?=some l->ls[y]?=some m->l.aC=true->m.aA=true->x≠y:=fun h1 h2 h3 h4 e=>by subst e;rw[h1] at h2;have:=qF h2;rw[this,n9 h4] at h3;cases h3
 have nva:va≠pa:=pc xT zD ca qa;have nvb:vb≠pb:=pc AN zE cb qb;have nvab:va≠pb:=pc xT zE ca qb;have nvba:vb≠pa:=pc AN zD cb qa
 let PP:=fV (fV (pieces ls) pa mb.aB) pb ma.aB
 have VH:=pL zD;have anp:pa≠pb->(fV (pieces ls) pa mb.aB)[pb]?=some ⟨mb,im ls pb⟩:=fun aF=>by rw[QS VH,if_neg aF.symm];exact pL zE
 have anq:∃p,(fV (pieces ls) pa mb.aB)[pb]?=some p:=aK (by rw[yy,bK];exact(aS.1 zE).1);have O6:PP.length=ls.length:=by show(fV (fV _ _ _) _ _).length=_;rw[yy,yy,bK]
 have e1:(fP ls PP a).length=ls.length:=by rw[Dk,O6]
 have Cn:(iN ls PP [a,b]).length=ls.length:=by rw[Bo,O6]
 have sH:∀q:Let->Bool,(∀(l:Let) (r:Int),q {l with aB:=r}=q l)->ay q ((iN ls PP [a,b]).map Pc.l)=ay q ls:=fun q hq=>by rw[<- Qs (ls:=ls) q];show List.countP _ _=List.countP _ _;rw[Du,Du];show(fP ls (fP ls PP a) b).countP _=_;obtain⟨p,hp⟩:=anq;rw[JW e1 hb (GI g hb),JW O6 ha (GI g ha),WZ hp (fun p=>hq _ _),WZ VH (fun p=>hq _ _)]
 have PPg:pa≠pb->PP[pa]?=some ⟨{ma with aB:=mb.aB},im ls pa⟩/\PP[pb]?=some ⟨{mb with aB:=ma.aB},im ls pb⟩/\ ∀i,i≠pa->i≠pb->PP[i]?=(pieces ls)[i]? :=fun aF=>by
  have k:∀j,PP[j]?=if j=pb then some ⟨{mb with aB:=ma.aB},im ls pb⟩ else if j=pa then some ⟨{ma with aB:=mb.aB},im ls pa⟩ else (pieces ls)[j]? :=fun j=>by show(fV (fV _ _ _) _ _)[j]?=_;rw[QS (anp aF),QS VH]
  refine⟨by rw[k,if_neg aF,if_pos rfl],by rw[k,if_pos rfl],fun i n1 n2=>by rw[k,if_neg n2,if_neg n1]⟩
 have swg:pa≠pb->(iN ls PP [a,b])[pa]?=PP[va]? /\(iN ls PP [a,b])[va]?=PP[pa]? /\(iN ls PP [a,b])[pb]?=PP[vb]? /\(iN ls PP [a,b])[vb]?=PP[pb]? /\ ∀i,i≠pa->i≠va->i≠pb->i≠vb->(iN ls PP [a,b])[i]?=PP[i]? :=fun aF=>by
  have k:∀i,(iN ls PP [a,b])[i]?=if i=nx ls b then (fP ls PP a)[b]? else if i=b then (fP ls PP a)[nx ls b]? else (fP ls PP a)[i]? :=fun i=>E6 e1 hb i;have k2:∀i,(fP ls PP a)[i]?=if i=nx ls a then PP[a]? else if i=a then PP[nx ls a]? else PP[i]? :=fun i=>E6 O6 ha i;have ka:∀i,i≠pa->i≠va->(fP ls PP a)[i]?=PP[i]? :=fun i n1 n2=>by
   rcases ea with ⟨q1,q2⟩|⟨q1,q2⟩
   .rw[k2,if_neg (by rw[<- q2];exact n2),if_neg (by rw[<- q1];exact n1)]
   rw[k2,if_neg (by rw[<- q1];exact n1),if_neg (by rw[<- q2];exact n2)]
  have kb:∀i,i≠pb->i≠vb->(iN ls PP [a,b])[i]?=(fP ls PP a)[i]? :=fun i n1 n2=>by
   rcases eb with ⟨q1,q2⟩|⟨q1,q2⟩
   .rw[k,if_neg (by rw[<- q2];exact n2),if_neg (by rw[<- q1];exact n1)]
   rw[k,if_neg (by rw[<- q1];exact n1),if_neg (by rw[<- q2];exact n2)]
  have ka2:(fP ls PP a)[pa]?=PP[va]? /\(fP ls PP a)[va]?=PP[pa]? :=by
   rcases ea with ⟨q1,q2⟩|⟨q1,q2⟩
   .exact⟨by rw[k2,if_neg (by rw[<- q2];exact nva.symm),if_pos q1,<- q2],by rw[k2,if_pos q2,<- q1]⟩
   exact⟨by rw[k2,if_pos q1,<- q2],by rw[k2,if_neg (by rw[<- q1];exact nva),if_pos q2,<- q1]⟩
  have M1:(iN ls PP [a,b])[pb]?=(fP ls PP a)[vb]? /\(iN ls PP [a,b])[vb]?=(fP ls PP a)[pb]? :=by
   rcases eb with ⟨q1,q2⟩|⟨q1,q2⟩
   .exact⟨by rw[k,if_neg (by rw[<- q2];exact nvb.symm),if_pos q1,<- q2],by rw[k,if_pos q2,<- q1]⟩
   exact⟨by rw[k,if_pos q1,<- q2],by rw[k,if_neg (by rw[<- q1];exact nvb),if_pos q2,<- q1]⟩
  refine⟨by rw[kb _ aF nvba.symm,ka2.1],by rw[kb _ nvab h3,ka2.2],by rw[M1.1,ka _ nvba (Ne.symm h3)],by rw[M1.2,ka _ aF.symm nvab.symm],fun i n1 n2 n3 n4=>by rw[kb i n3 n4,ka i n1 n2]⟩
 rcases cs with ⟨c1,c2,c3,c4,c5,c6⟩|⟨c1,c2,c3,c4,c5,c6⟩
 .refine YL g hw sK d1 d2 d3 d4 rfl two (lp:=ma) (lv:=la) (lw:=lb) (lq:=mb) (by rw[c3];exact zD) (by rw[c4];exact xT) (by rw[c5];exact AN) (by rw[c6];exact zE) qa ca cb qb Cn sH fun aF=>?_;rw[c3,c4,c5,c6] at*;obtain⟨g1,g2,g3⟩:=PPg aF;obtain⟨s1,s2,s3,s4,s5⟩:=swg aF;exact⟨by rw[s1,g3 _ nva nvab],by rw[s2,g1],by rw[s4,g2],by rw[s3,g3 _ nvba nvb],fun i n1 n2 n3 n4=>by rw[s5 i n1 n2 n4 n3,g3 i n1 n4]⟩
 refine YL g hw sK d1 d2 d3 d4 rfl two (lp:=mb) (lv:=lb) (lw:=la) (lq:=ma) (by rw[c3];exact zE) (by rw[c4];exact AN) (by rw[c5];exact xT) (by rw[c6];exact zD) qb cb ca qa Cn sH fun aF=>?_;rw[c3,c4,c5,c6] at*;obtain⟨g1,g2,g3⟩:=PPg aF.symm;obtain⟨s1,s2,s3,s4,s5⟩:=swg aF.symm;exact⟨by rw[s3,g3 _ nvba nvb],by rw[s4,g2],by rw[s2,g1],by rw[s1,g3 _ nva nvab],fun i n1 n2 n3 n4=>by rw[s5 i n4 n3 n1 n2,g3 i n4 n1]⟩
end
end Go.Abs
