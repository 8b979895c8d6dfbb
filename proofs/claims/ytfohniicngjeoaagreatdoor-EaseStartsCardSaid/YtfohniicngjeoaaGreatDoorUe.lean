/-
  The triangle keeps a code valid.
-/
import Derived.Test.YtfohniicngjeoaaGreatDoorUc
import Derived.Test.YtfohniicngjeoaaGreatDoorVb
set_option linter.all false
set_option maxHeartbeats 16000000
namespace Go.Abs
theorem X4.Oq{g:Bool}{i o j q:dV}(h:X4 g i o j q):X4 (!g) (iG o) (iG i) j q:=by obtain⟨a,b,c,d⟩:=h;cases g<;>simp only[dL,if_false,if_true] at a b c d<;>constructor<;>simp[iG,a,b,c,d]
theorem X4.Ot{g:Bool}{i o j q:dV}(h:X4 g i o j q):X4 (!g) i o (iG q) (iG j):=by obtain⟨a,b,c,d⟩:=h;cases g<;>simp only[dL,if_false,if_true] at a b c d<;>constructor<;>simp[iG,a,b,c,d]
def fC(f:Bool)(x:aQ):dV:=if f then x.i else iG x.o
def im(f:Bool)(x:aQ):dV:=if f then x.o else iG x.i
theorem QW{f f':Bool}{x y:aQ}:X4 true (fC f x) (im f x) (fC f' y) (im f' y)↔X4 (f==f') x.i x.o y.i y.o:=by
 cases f<;>cases f'<;>simp only[fC,im,dL,if_false,if_true]
 .exact⟨fun h=>h.Oq.Ot,fun h=>h.Oq.Ot⟩
 .exact⟨fun h=>h.Oq,fun h=>h.Oq⟩
 .exact⟨fun h=>h.Ot,fun h=>h.Ot⟩
 exact Iff.rfl
def oT (n d:Nat):Nat:=if d%2=0 then d/2 else (d/2+1)%n
def oH (n d:Nat):Nat:=if d%2=0 then (d/2+1)%n else d/2
def bn(d:Nat):Bool:=d%2==0
section
variable {F:Nat} {ls:List Let}
def bU(P:List Pc)(sd:Nat->dV)(i:Nat):aQ:=⟨P.getD i ⟨lh,false⟩,sd ((i+P.length-1)%P.length),sd i⟩
def zG (P:List Pc)(sd:Nat->dV):List aQ:=(List.range P.length).map (bU P sd)
theorem afR(P:List Pc)(sd:Nat->dV):(zG P sd).map aQ.p=P:=by
 unfold zG;rw[uM];apply Kb;intro i;rw[fZ];by_cases hi:i<P.length
 .obtain⟨p,hp⟩:=aL hi;rw[r4 hi,hp];show some (P.getD i _)=_;rw[dq,hp];rfl
 rw[tZ (by rw[Dg];omega),tZ aa];rfl
theorem asj(P:List Pc)(sd:Nat->dV)(h:0<P.length):∃s,j5 s (zG P sd) s:=by
 refine⟨sd (P.length-1),?_⟩;have:=adZ (bU P sd) (fun i=>sd ((i+P.length-1)%P.length)) P.length 0 fun i _ hi=>⟨rfl,?_⟩
 .simp only[kU] at this;rw[jA aa,show P.length+P.length-1=(P.length-1)+P.length by omega,yj,jA aa,<- List.range_eq_range'] at this;exact this
 show sd i=sd ((i+1+P.length-1)%P.length);rw[show i+1+P.length-1=i+P.length by omega,yj,jA aa]
theorem XQ(g:dF F ls){P:List Pc}{sd:Nat->dV}{T' B':Nat->Nat->Nat}{tau:Nat}(hl:P.length=ls.length)
  (hC:aw Let.aB (P.map Pc.l)=aw Let.aB ls) (hP:aw Let.aE (P.map Pc.l)=aw Let.aE ls) (hG:∀k,cg (P.map Pc.l) k=cg ls k)
  (ok:∀i,i<ls.length->zq F (bU P sd i)) (cr:∀i j,i<ls.length->j<ls.length->i≠j->Xr (bU P sd i) (bU P sd j)) (rk:∀i j,i<ls.length->j<ls.length->i≠j->Dr (bU P sd i) (bU P sd j))
  (ids:∀i,i<ls.length->(bU P sd i).k.aB=true->1<=(bU P sd i).k.id/\(bU P sd i).k.id<=((aw Let.aB ls/2:Nat):Int))
  (rr:∀i,i<ls.length->(bU P sd i).k.aE=true->1<=(bU P sd i).k.aD/\(bU P sd i).k.aD<=(cg ls (bU P sd i).k.gate.toNat:Int))
  (pl:∀i,i<ls.length->(bU P sd i).k.aE=true->GG T' B' (bU P sd i))
  (gt:∀k,k<F->T' k (cg ls k)=T' (k+1) 0/\B' k (cg ls k)=B' (k+1) 0) (gz:T' F (cg ls F)=T' 0 0/\B' F (cg ls F)=B' 0 0)
  (wit:∀j,j<ls.length->∀t,(t=(qu ls j).l\/t=(qu ls j).r)->t=tau\/ ∃j',j'<ls.length/\(t=(sd j').l\/t=(sd j').r)):Cert F P:=by
 have hn:0<ls.length:=iX.2 g.ne;have Ao:aM (zG P sd)=P.map Pc.l:=by
  show(zG P sd).map (fun x=>x.p.l)=_;have:(zG P sd).map (fun x=>x.p.l)=((zG P sd).map aQ.p).map Pc.l:=by rw[uM];rfl
  rw[this,afR]
 have mem:∀x∈zG P sd,∃i,i<ls.length/\x=bU P sd i:=fun x hx=>by obtain⟨i,hi,rfl⟩:=dQ.1 hx;exact⟨i,by have:=gj.1 hi;omega,rfl⟩
 have inz:∀i,i<ls.length->bU P sd i∈zG P sd:=fun i hi=>dQ.2 ⟨i,gj.2 aa,rfl⟩;have q:Cq F (zG P sd) T' B':=by
  refine⟨fun x hx=>?_,PL fun i j hi hj gA=>cr i j aa aa gA,?_,fun x hx hc=>?_,PL fun i j hi hj gA=>rk i j aa aa gA,fun x hx hp=>?_,fun x hx hp=>?_,fun k hk=>?_,?_⟩
  .obtain⟨i,hi,rfl⟩:=mem x hx;exact ok i hi
  .rw[Ao,hC];have:=g.cz.ev;rwa[jL] at this
  .obtain⟨i,hi,rfl⟩:=mem x hx;rw[Ao,hC];exact ids i hi hc
  .obtain⟨i,hi,rfl⟩:=mem x hx;rw[Ao,hG];exact rr i hi hp
  .obtain⟨i,hi,rfl⟩:=mem x hx;exact pl i hi hp
  .rw[Ao,hG];exact gt k hk
  rw[Ao,hG];exact gz
 refine⟨zG P sd,T',B',(List.range (l5 ls)).filter (fun s=> ![tau].contains s),afR P sd,⟨asj P sd aa,q.ok,q.cr,q.ev,q.ids,q.rk,q.rr,q.pl,q.gt,q.gz,?_,E6.filter _,fun s hs=>?_,?_⟩⟩
 .have:0<aw Let.aE (P.map Pc.l):=by
   rw[hP];obtain⟨l,h1,h2⟩:=g.first;exact Bs.2 ⟨l,aU h1,h2⟩
  rw[<- Ao] at this;obtain⟨l,h1,h2⟩:=Bs.1 this;obtain⟨x,hx,rfl⟩:=dQ.1 h1;exact⟨x,hx,h2⟩
 .obtain⟨h1,h2⟩:=vG.1 hs;have h2:s≠tau:=by simpa using h2
  obtain⟨x,hx,e⟩:=g.cz.wit s h1;obtain⟨j,hj,rfl⟩:=dQ.1 hx;have hj:=gj.1 hj;rcases wit j hj s e with h|⟨j',hj',h⟩
  .exact absurd h h2
  exact⟨bU P sd j',inz j' hj',h⟩
 rw[Ao,hC,hP];have h1:=Z4 (L:=[tau]) (E6 (n:=l5 ls));have h2:=g.nw;rw[Dg] at h1;simp only[dh,ff] at h1;omega
theorem MU(g:dF F ls){d:Nat}(hd:d<2*ls.length):oT ls.length d<ls.length:=by
 unfold oT;split
 .omega
 exact eH _ (iX.2 g.ne)
theorem Jh(g:dF F ls){d:Nat}(hd:d<2*ls.length):oH ls.length d<ls.length:=by
 unfold oH;split
 .exact eH _ (iX.2 g.ne)
 omega
theorem Sc{d:Nat}(hd:d<2*ls.length):d=jd ls.length (oH ls.length d) (bn d):=by have:=NK hd;unfold oH bn;exact this
theorem NU{n v:Nat}{f:Bool}(hv:v<n):oT n (dJ n v f)=v/\bn (dJ n v f)=f:=by
 unfold oT bn dJ;cases f
 .simp only[dL,if_false];have e1:(2*((v+n-1)%n)+1)%2=1:=aa;have e2:(2*((v+n-1)%n)+1)/2=(v+n-1)%n:=aa;rw[e1,e2,wE hv];exact⟨rfl,rfl⟩
 simp only[if_true];have e1:(2*v)%2=0:=aa;have e2:(2*v)/2=v:=aa;rw[e1,e2];exact⟨rfl,rfl⟩
def oK (ls:List Let)(d:Nat):dV:=if d%2=0 then qu ls (d/2) else iG (qu ls (d/2))
theorem Ix{d:Nat}(hd:d<2*ls.length):fC (bn d) (dM ls (oH ls.length d))=oK ls d:=by
 unfold fC bn oH oK dM;rcases ym d with h|h
 .simp only[h,beq_self_eq_true,if_true];rw[EG aa]
 simp[h]
theorem JI{d:Nat}(hd:d<2*ls.length):im (bn d) (dM ls (oT ls.length d))=oK ls d:=by
 unfold im bn oT oK dM;rcases ym d with h|h
 .simp[h]
 simp only[h,show((1:Nat)==0)=false from rfl,dL,if_false,Nat.one_ne_zero];rw[EG aa]
theorem HH(g:dF F ls){d:Nat}(hd:d<2*ls.length){l:Let}(hl:ls[oH ls.length d]?=some l)(hc:l.aB=true):aV ls d<2*ls.length/\oT ls.length (aV ls d)=fN ls (oH ls.length d)/\gX l=(bn d==bn (aV ls d))/\
  X4 true (fC (bn d) (dM ls (oH ls.length d))) (im (bn d) (dM ls (oH ls.length d))) (fC (bn (aV ls d)) (dM ls (oT ls.length (aV ls d)))) (im (bn (aV ls d)) (dM ls (oT ls.length (aV ls d)))):=by
 have ok:=g.ok;have hv:=Jh g hd;obtain⟨b1,m,hm,mc,mi,mo,ms⟩:=qS ok.cr hl hc;have ho:=(aW.1 hm).1;have e:aV ls d=dJ ls.length (fN ls (oH ls.length d)) (bn d==gX l):=by
  conv=>lhs;rw[Sc hd]
  rw[Bk hl hc];rfl
 obtain⟨a1,a2⟩:=NU (n:=ls.length) (f:=(bn d==gX l)) ho;have aH:oH ls.length d≠fN ls (oH ls.length d):=by intro ee;rw[<- ee,hl] at hm;have:=qZ hm;rw[<- this] at mo;revert mo;cases l.over<;>simp
 have hg:gX l=(bn d==(bn d==gX l)):=by cases bn d<;>cases gX l<;>rfl
 rw[e,a1,a2];refine⟨?_,rfl,hg,?_⟩
 .have:=BC ho (!(bn d==gX l));rw[<- CT] at this;have:=Bb this;rwa[Bc] at this
 rw[QW,<- hg];have:=(KU g hv ho aH (by rw[dT hl];exact hc) (by rw[dT hm];exact mc) (by rw[dT hl,dT hm];exact mi.symm)).x4;rwa[dT hl] at this
theorem Nd{l:List Pc}(hl:l.length=ls.length){e:Nat}(he:e<ls.length)(i:Nat):(ir ls l e)[i]?=if i=nx ls e then l[e]? else if i=e then l[nx ls e]? else l[i]? :=by
 have hn:nx ls e<ls.length:=eH _ aa;obtain⟨p,hp⟩:=aL (ls:=l) (k:=e) aa;obtain⟨q,hq⟩:=aL (ls:=l) (k:=nx ls e) aa;unfold ir;rw[pN,pN,dq,dq,hp,hq,qX];by_cases c1:i=nx ls e
 .subst c1;rw[if_pos rfl,if_pos aa,if_pos rfl];rfl
 rw[if_neg (Ne.symm c1),if_neg c1];by_cases c2:i=e
 .subst c2;rw[if_pos rfl,if_pos aa,if_pos rfl];rfl
 rw[if_neg (Ne.symm c2),if_neg c2]
theorem ar4(g:dF F ls){w:List Nat}(hw:w∈iJ (aV ls) (nD ls)){Q:Nat->Prop}(h1:∀x,x<nD ls->(Q (aV ls x)↔Q x)){x y:Nat}(hx:x∈w)(hy:y∈w):Q x↔Q y:=by
 have e:=Wx (maps g.ok) (R:=gr (nD ls) (aV ls)) (fun z hz=>.rel ⟨hz,rfl⟩) hw hx hy;have:=e.inv (f:=fun x=>Q x) fun a b r=>by obtain⟨ha,rfl⟩:=r;exact propext (h1 a ha).symm
 exact Eq.to_iff this
end
theorem arn:∀(L M:List Int),L.Nodup->(∀x∈L,x∈M)->L.length<=M.length:=by
 intro L
 induction L with
 |nil=>intro M _ _;exact bG _
 |cons a L ih=>intro M hn hs;obtain⟨h1,h2⟩:=r6.1 hn;have ha:=hs a af;have:=ih (M.erase a) h2 fun x hx=>(List.mem_erase_of_ne (by rintro rfl;exact h1 hx)).2 (hs x (by simp[hx]));rw[List.length_erase_of_mem ha] at this;have:0<M.length:=Nw ha;simp only[dh];omega
theorem ais:∀l:List Int,(nu l).Nodup:=by
 intro l
 induction l with
 |nil=>exact wS
 |cons a l ih=>
  unfold nu;split
  .exact ih
  rename_i h;exact r6.2 ⟨fun hm=>h (NV.1 hm),ih⟩
theorem ait{l:List Int}:(nu l).length=l.length->l.Nodup:=by
 induction l with
 |nil=>intro _;exact wS
 |cons a l ih=>
  have hle:(nu l).length<=l.length:=arn _ _ (ais l) fun x hx=>NV.1 hx;unfold nu;rw[r6];split
  .intro e;simp only[dh] at e;omega
  rename_i h;simp only[dh];intro e;exact⟨h,ih aa⟩
theorem Rv{p:Pc->Bool}{l:List Pc}{i:Nat}{x y:Pc}(h:l[i]?=some x):(l.set i y).countP p+(if p x then 1 else 0)=l.countP p+(if p y then 1 else 0):=by
 have e:=aq2 h;have hl:=(aW.1 h).1;have e2:l.set i y=l.take i++y::l.drop (i+1):=by
  conv=>lhs;rw[e]
  rw[List.set_append_right _ _ (by rw[iu];omega),iu,zH aa,Nat.sub_self];rfl
 rw[e2]
 conv=>rhs;rw[e]
 rw[vF,vF,wP,wP];omega
section
variable {F:Nat} {ls:List Let}
theorem JH{l:List Pc}(hl:l.length=ls.length){e:Nat}(he:e<ls.length)(aH:e≠nx ls e)(p:Pc->Bool):(ir ls l e).countP p=l.countP p:=by
 have hn:nx ls e<ls.length:=eH _ aa;obtain⟨x,hx⟩:=aL (ls:=l) (k:=e) aa;obtain⟨y,hy⟩:=aL (ls:=l) (k:=nx ls e) aa;unfold ir;rw[dq,dq,hx,hy];simp only[nc];have h1:=Rv (p:=p) (y:=y) hx;have h2:(l.set e y)[nx ls e]?=some y:=by rw[pN,if_neg aH];exact hy
 have h3:=Rv (p:=p) (y:=x) h2;omega
theorem VG(g:dF F ls){e:Nat}(he:e<ls.length):e≠nx ls e:=by
 have h2:2<=ls.length:=by obtain⟨l,h1,hp⟩:=g.first;have:=g.even;have:0<aw Let.aE ls:=Bs.2 ⟨l,aU h1,hp⟩;have:=tj Let.aE ls;omega
 unfold nx;by_cases c:e+1<ls.length
 .rw[jA c];omega
 rw[show e+1=ls.length by omega,Dj];omega
theorem PS(p:Let->Bool):aw p ((pieces ls).map Pc.l)=aw p ls:=by
 have:(pieces ls).map Pc.l=ls:=by
  have h:=jL ls;rw[<- h];have e:aM (zF ls)=((zF ls).map aQ.p).map Pc.l:=by rw[uM];rfl
  rw[h,<- GZ,<- e,h]
 rw[this]
theorem Jz(g:dF F ls){i j:Nat}{l m:Let}(hl:ls[i]?=some l)(hm:ls[j]?=some m)(hc:l.aB=true)(mc:m.aB=true)(e:l.id=m.id)(gA:i≠j):fN ls i=j:=by obtain⟨_,hp⟩:=g.ids;obtain⟨d1,_⟩:=hp i j l m hl hm hc mc e gA;obtain⟨b1,w,hw,wc,wi,wo,ws⟩:=qS g.ok.cr hl hc;refine Classical.byContradiction fun aH=>?_;have d3:=(hp _ _ w m hw hm wc mc (by rw[wi,e]) aH).1;rw[wo] at d3;revert d1 d3;cases l.over<;>cases m.over<;>simp
theorem arB(g:dF F ls){w:List Nat}(hw:w∈iJ (aV ls) (nD ls)){p q r:Nat}(hp:p∈w)(hq:q∈w)(hr:r∈w)(pq:p≠q)(pr:p≠r)(qr:q≠r)(lp:p<nD ls)(lq:q<nD ls)(lr:r<nD ls)
  (np:aV ls p=p\/aV ls p=q\/aV ls p=r) (nq:aV ls q=p\/aV ls q=q\/aV ls q=r) (nr:aV ls r=p\/aV ls r=q\/aV ls r=r):
  (aV ls p=q/\aV ls q=r/\aV ls r=p)\/(aV ls p=r/\aV ls r=q/\aV ls q=p):=by
 have inj:=(maps g.ok).inj;have i1:aV ls p≠aV ls q:=fun e=>pq (inj _ _ lp lq e);have i2:aV ls p≠aV ls r:=fun e=>pr (inj _ _ lp lr e);have i3:aV ls q≠aV ls r:=fun e=>qr (inj _ _ lq lr e);have one:∀x y,x∈w->y∈w->x≠y->x<nD ls->aV ls x≠x:=fun x y hx hy lf lx e=>by have:=ar4 g hw (Q:=fun t=>t=x) (fun t ht=>⟨fun h=>inj _ _ ht lx (by rw[h,e]),fun h=>by rw[h,e]⟩) hx hy;exact lf (this.1 rfl).symm
 have n1:=one p q hp hq pq lp;have n2:=one q p hq hp (Ne.symm pq) lq;have n3:=one r p hr hp (Ne.symm pr) lr;omega
theorem Sh{n d i:Nat}:(i≠oT n d/\i≠oH n d)↔(i≠d/2/\i≠(d/2+1)%n):=by
 unfold oT oH;split
 .exact Iff.rfl
 exact And.comm
theorem Sd{n d d':Nat}(h:d/2≠d'/2/\d/2≠(d'/2+1)%n/\(d/2+1)%n≠d'/2/\(d/2+1)%n≠(d'/2+1)%n):oT n d≠oT n d'/\oT n d≠oH n d'/\oH n d≠oT n d'/\oH n d≠oH n d':=by
 obtain⟨h1,h2,h3,h4⟩:=h;unfold oT oH;split<;>split
 .exact⟨h1,h2,h3,h4⟩
 .exact⟨h2,h1,h4,h3⟩
 .exact⟨h3,h4,h1,h2⟩
 exact⟨h4,h3,h2,h1⟩
theorem Se{n d:Nat}(h:d/2≠(d/2+1)%n):oT n d≠oH n d:=by
 unfold oT oH;split
 .exact h
 exact h.symm
def uo (f:Bool)(s:dV):dV:=if f then s else iG s
theorem I0(f:Bool)(x:aQ):(fC f x).b=if f then x.i.b else x.o.b:=by cases f<;>rfl
theorem Jl(f:Bool)(x:aQ):(im f x).b=if f then x.o.b else x.i.b:=by cases f<;>rfl
theorem KV{P:List Pc}{sd:Nat->dV}{d:Nat}{k':dV}(hP:P.length=ls.length)(hd:d<2*ls.length)(hk:sd (d/2)=uo (bn d) k')(h1:sd ((d/2+ls.length-1)%ls.length)=qu ls ((d/2+ls.length-1)%ls.length))(h2:sd (nx ls (d/2))=qu ls (nx ls (d/2))):
  fC (bn d) (bU P sd (oT ls.length d))=fC (bn d) (dM ls (oT ls.length d))/\im (bn d) (bU P sd (oT ls.length d))=k'/\fC (bn d) (bU P sd (oH ls.length d))=k'/\im (bn d) (bU P sd (oH ls.length d))=im (bn d) (dM ls (oH ls.length d)):=by
 unfold nx at h2;unfold fC im bU dM oT oH;unfold bn at hk ⊢;rw[hP];rcases ym d with h|h
 .simp only[h,beq_self_eq_true,if_true] at hk ⊢;rw[EG aa,hk,h1,h2];exact⟨rfl,rfl,rfl,rfl⟩
 simp only[h,show((1:Nat)==0)=false from rfl,dL,if_false,Nat.one_ne_zero] at hk ⊢;rw[EG aa,hk,h1,h2];exact⟨rfl,rfl,rfl,rfl⟩
theorem YD{P:List Pc}{sd:Nat->dV}{i:Nat}(hP:P.length=ls.length)(hi:i<ls.length)(hp:P[i]?=(pieces ls)[i]?)(h1:sd ((i+ls.length-1)%ls.length)=qu ls ((i+ls.length-1)%ls.length))(h2:sd i=qu ls i):bU P sd i=dM ls i:=by
 have:P.getD i ⟨lh,false⟩=⟨ls.getD i lh,gV ls i⟩:=by obtain⟨l,hl⟩:=aL hi;rw[dq,hp,rV hl,dq,hl];rfl
 unfold bU dM;rw[hP,h1,h2,this]
theorem HV{P:List Pc}{sd:Nat->dV}{i j:Nat}(hj:j<ls.length)(hp:P[i]?=(pieces ls)[j]?):(bU P sd i).p=(dM ls j).p:=by obtain⟨l,hl⟩:=aL hj;show P.getD i _=⟨ls.getD j lh,gV ls j⟩;rw[dq,hp,rV hl,dq,hl];rfl
theorem ahJ(g:dF F ls){a b c:Nat}(ha:a<ls.length)(hb:b<ls.length)(hc:c<ls.length){L:List Pc}(h:xY F ls a b c=some L):Cert F L:=by
 unfold xY at h;split at h
 case isFalse=>cases h
 rename_i ht;cases h;unfold Nf at ht;simp only[cX,beq_iff_eq] at ht;obtain⟨fv,h6,_,_,_,Iw⟩:=ht;have hn:0<ls.length:=iX.2 g.ne;have cA:=fW ls;have ok:=g.ok
 -- six letters
 have iR:(vA ls [a,b,c]).Nodup:=ait (by rw[h6];rfl);have iR:(([a,nx ls a,b,nx ls b,c,nx ls c]:List Nat).map fun i:Nat=>(i:Int)).Nodup:=iR;have six:a≠nx ls a/\a≠b/\a≠nx ls b/\a≠c/\a≠nx ls c/\nx ls a≠b/\nx ls a≠nx ls b/\nx ls a≠c/\nx ls a≠nx ls c/\b≠nx ls b/\b≠c/\b≠nx ls c/\nx ls b≠c/\nx ls b≠nx ls c/\c≠nx ls c:=by simp only[dS,kQ,r6,cP,jz,or_false,not_or,wS,and_true,not_false_eq_true] at iR;omega
 have crs:∀e∈[a,b,c],∃l m,ls[e]?=some l/\ls[nx ls e]?=some m/\l.aB=true/\m.aB=true:=fun e he=>by
  have h1:=ko.1 fv e he;have dC:e<ls.length:=by simp only[cP,jz,or_false] at he;rcases he with rfl|rfl|rfl<;>assumption
  obtain⟨l,hl⟩:=aL dC;obtain⟨m,hm⟩:=aL (ls:=ls) (k:=nx ls e) (eH _ hn);have e1:pA ls e=⟨l,gV ls e⟩:=kh (rV hl);have e2:pA ls (nx ls e)=⟨m,gV ls (nx ls e)⟩:=kh (rV hm);unfold BS at h1;rw[e1,e2,cX] at h1;exact⟨l,m,hl,hm,h1.1,h1.2⟩
 obtain⟨w,hw,_,hlen,hE⟩:=RX g ha Iw;obtain⟨da,vQ,ug,yF⟩:=hE a af;obtain⟨db,xe,uU,yG⟩:=hE b af;obtain⟨dc,dc1,HO,HP⟩:=hE c af;have hN:∀d,d<2*ls.length->d<nD ls:=fun d hd=>by unfold nD;omega
 have three:∀d,d∈w->d<2*ls.length->d=da\/d=db\/d=dc:=fun d h1 h2=>by
  have inD:∀d,d∈w->d<2*ls.length->d∈w.filter fun x=>decide (x<2*ls.length):=fun d h1 h2=>vG.2 ⟨h1,by simpa using h2⟩;have q1:=inD da vQ ug;have q2:=inD db xe uU;have q3:=inD dc dc1 HO;have q4:=inD d h1 h2;generalize w.filter (fun x=>decide (x<2*ls.length))=D at hlen q1 q2 q3 q4
  match D,hlen with
  |[x,y,z],_=>simp only[cP,jz,or_false] at q1 q2 q3 q4;have:=six.2.1;have:=six.2.2.2.1;have:=six.2.2.2.2.2.2.2.2.2.2.1;omega
 have LQ:∀d,d<2*ls.length->d/2∈[a,b,c]->∃l,ls[oH ls.length d]?=some l/\l.aB=true:=fun d hd he=>by
  obtain⟨l,m,h1,h2,h3,h4⟩:=crs _ he;unfold oH;split
  .exact⟨m,h2,h4⟩
  exact⟨l,h1,h3⟩
 have step:∀d,d∈w->d<2*ls.length->d/2∈[a,b,c]->aV ls d=da\/aV ls d=db\/aV ls d=dc:=fun d hd hl he=>by obtain⟨l,h1,h2⟩:=LQ d hl he;exact three _ (EX (maps ok) hw hd) (HH g hl h1 h2).1
 have round:∃d1 d2 d3,d1<2*ls.length/\d2<2*ls.length/\d3<2*ls.length/\aV ls d1=d2/\aV ls d2=d3/\aV ls d3=d1/\((d1/2=a/\d2/2=b/\d3/2=c)\/(d1/2=a/\d2/2=c/\d3/2=b)):=by
  have nab:da≠db:=fun e=>six.2.1 (by rw[<- yF,<- yG,e]);have nac:da≠dc:=fun e=>six.2.2.2.1 (by rw[<- yF,<- HP,e]);have nbc:db≠dc:=fun e=>six.2.2.2.2.2.2.2.2.2.2.1 (by rw[<- yG,<- HP,e]);rcases arB g hw vQ xe dc1 nab nac nbc (hN _ ug) (hN _ uU) (hN _ HO) (step da vQ ug (by rw[yF];simp)) (step db xe uU (by rw[yG];simp)) (step dc dc1 HO (by rw[HP];simp)) with ⟨h1,h2,h3⟩|⟨h1,h2,h3⟩
  .exact⟨da,db,dc,ug,uU,HO,h1,h2,h3,.inl ⟨yF,yG,HP⟩⟩
  exact⟨da,dc,db,ug,HO,uU,h1,h2,h3,.inr ⟨yF,HP,yG⟩⟩
 clear three step hE hlen vQ ug yF xe uU yG dc1 HO HP hw Iw;clear iR fv h6;obtain⟨d1,d2,d3,l1,l2,l3,s1,s2,s3,nE⟩:=round
 -- the new pieces
 have ina:a∈[a,b,c]:=af;have inb:b∈[a,b,c]:=af;have inc:c∈[a,b,c]:=af;have DQ:(iW ls (pieces ls) [a,b,c]).length=ls.length:=by rw[Bh,cA]
 have Cx:∀i,(iW ls (pieces ls) [a,b,c])[i]?=if i=nx ls c then (pieces ls)[c]? else if i=c then (pieces ls)[nx ls c]? else if i=nx ls b then (pieces ls)[b]? else if i=b then (pieces ls)[nx ls b]? else if i=nx ls a then (pieces ls)[a]? else if i=a then (pieces ls)[nx ls a]? else (pieces ls)[i]? :=fun i=>by
  show(ir ls (ir ls (ir ls (pieces ls) a) b) c)[i]?=_;have e1:(ir ls (pieces ls) a).length=ls.length:=by rw[GP,cA]
  have e2:(ir ls (ir ls (pieces ls) a) b).length=ls.length:=by rw[GP,e1]
  simp only[Nd e2 hc,Nd e1 hb,Nd cA ha];obtain⟨x1,x2,x3,x4,x5,x6,x7,x8,x9,GW,JV,JW,JX,JY,Nr⟩:=six;simp only[x2.symm,x3.symm,x4.symm,x5.symm,x6.symm,x7.symm,x8.symm,x9.symm,JV.symm,JW.symm,JX.symm,JY.symm,if_false]
 have sD:∀p:Pc->Bool,(iW ls (pieces ls) [a,b,c]).countP p=(pieces ls).countP p:=fun p=>by
  show(ir ls (ir ls (ir ls (pieces ls) a) b) c).countP p=_;have e1:(ir ls (pieces ls) a).length=ls.length:=by rw[GP,cA]
  have e2:(ir ls (ir ls (pieces ls) a) b).length=ls.length:=by rw[GP,e1]
  rw[JH e2 hc six.2.2.2.2.2.2.2.2.2.2.2.2.2.2,JH e1 hb six.2.2.2.2.2.2.2.2.2.1,JH cA ha six.1]
 generalize iW ls (pieces ls) [a,b,c]=P at DQ Cx sD;obtain⟨x1,x2,x3,x4,x5,x6,x7,x8,x9,GW,JV,JW,JX,JY,Nr⟩:=six;have pa:P[a]?=(pieces ls)[nx ls a]? /\P[nx ls a]?=(pieces ls)[a]? :=by
  constructor
  .rw[Cx];simp only[x1,x2,x3,x4,x5,if_false,if_true]
  rw[Cx];simp only[x6,x7,x8,x9,if_false,if_true]
 have pb:P[b]?=(pieces ls)[nx ls b]? /\P[nx ls b]?=(pieces ls)[b]? :=by
  constructor
  .rw[Cx];simp only[GW,JV,JW,if_false,if_true]
  rw[Cx];simp only[JX,JY,if_false,if_true]
 have pc:P[c]?=(pieces ls)[nx ls c]? /\P[nx ls c]?=(pieces ls)[c]? :=by
  constructor
  .rw[Cx];simp only[Nr,if_false,if_true]
  rw[Cx];simp only[if_true]
 have pn:∀i,i≠a->i≠nx ls a->i≠b->i≠nx ls b->i≠c->i≠nx ls c->P[i]?=(pieces ls)[i]? :=fun i h1 h2 h3 h4 h5 h6=>by rw[Cx];simp only[h1,h2,h3,h4,h5,h6,if_false]
 clear Cx
 -- edges and letters by dp
 have sM:∀d,d/2=a\/d/2=b\/d/2=c->P[oT ls.length d]?=(pieces ls)[oH ls.length d]? /\P[oH ls.length d]?=(pieces ls)[oT ls.length d]? :=fun d hd=>by
  have:P[d/2]?=(pieces ls)[nx ls (d/2)]? /\P[nx ls (d/2)]?=(pieces ls)[d/2]? :=by rcases hd with e|e|e<;>rw[e]<;>assumption
  unfold oT oH;rcases ym d with h|h
  .simp only[h,if_true];exact this
  simp only[h,Nat.one_ne_zero,if_false];exact this.symm
 have m1:d1/2=a\/d1/2=b\/d1/2=c:=by
  rcases nE with ⟨h,_,_⟩|⟨h,_,_⟩
  .exact .inl h
  exact .inl h
 have m2:d2/2=a\/d2/2=b\/d2/2=c:=by
  rcases nE with ⟨_,h,_⟩|⟨_,h,_⟩
  .exact .inr (.inl h)
  exact .inr (.inr h)
 have m3:d3/2=a\/d3/2=b\/d3/2=c:=by
  rcases nE with ⟨_,_,h⟩|⟨_,_,h⟩
  .exact .inr (.inr h)
  exact .inr (.inl h)
 have mm:∀d,d/2=a\/d/2=b\/d/2=c->d/2∈[a,b,c]:=fun d h=>by simpa using h
 have pn2:∀i,i≠oT ls.length d1->i≠oH ls.length d1->i≠oT ls.length d2->i≠oH ls.length d2->i≠oT ls.length d3->i≠oH ls.length d3->P[i]?=(pieces ls)[i]? /\ ∀d,d/2=a\/d/2=b\/d/2=c->i≠d/2/\i≠nx ls (d/2):=fun i a1 a2 a3 a4 a5 a6=>by
  obtain⟨b1,b2⟩:=Sh.1 ⟨a1,a2⟩;obtain⟨b3,b4⟩:=Sh.1 ⟨a3,a4⟩;obtain⟨b5,b6⟩:=Sh.1 ⟨a5,a6⟩;have key:(i≠a/\i≠nx ls a)/\(i≠b/\i≠nx ls b)/\(i≠c/\i≠nx ls c):=by
   rcases nE with ⟨h1,h2,h3⟩|⟨h1,h2,h3⟩
   .rw[h1] at b1 b2;rw[h2] at b3 b4;rw[h3] at b5 b6;exact⟨⟨b1,b2⟩,⟨b3,b4⟩,b5,b6⟩
   rw[h1] at b1 b2;rw[h2] at b3 b4;rw[h3] at b5 b6;exact⟨⟨b1,b2⟩,⟨b5,b6⟩,b3,b4⟩
  obtain⟨⟨c1,c2⟩,⟨c3,c4⟩,c5,c6⟩:=key;refine⟨pn i c1 c2 c3 c4 c5 c6,fun d hd=>?_⟩;rcases hd with e|e|e<;>rw[e]
  .exact⟨c1,c2⟩
  .exact⟨c3,c4⟩
  exact⟨c5,c6⟩
 have t1:=MU g l1;have t2:=MU g l2;have t3:=MU g l3;have h1:=Jh g l1;have h2:=Jh g l2;have h3:=Jh g l3
 -- all six are different
 have apart:(d1/2≠d2/2/\d1/2≠nx ls (d2/2)/\nx ls (d1/2)≠d2/2/\nx ls (d1/2)≠nx ls (d2/2))/\(d1/2≠d3/2/\d1/2≠nx ls (d3/2)/\nx ls (d1/2)≠d3/2/\nx ls (d1/2)≠nx ls (d3/2))/\(d2/2≠d3/2/\d2/2≠nx ls (d3/2)/\nx ls (d2/2)≠d3/2/\nx ls (d2/2)≠nx ls (d3/2))/\d1/2≠nx ls (d1/2)/\d2/2≠nx ls (d2/2)/\d3/2≠nx ls (d3/2):=by
  rcases nE with ⟨h1,h2,h3⟩|⟨h1,h2,h3⟩<;>rw[h1,h2,h3]
  .exact⟨⟨x2,x3,x6,x7⟩,⟨x4,x5,x8,x9⟩,⟨JV,JW,JX,JY⟩,x1,GW,Nr⟩
  exact⟨⟨x4,x5,x8,x9⟩,⟨x2,x3,x6,x7⟩,⟨JV.symm,JX.symm,JW.symm,JY.symm⟩,x1,Nr,GW⟩
 obtain⟨y1,y2,y3,y4,y5,y6⟩:=apart;have f12:=Sd y1;have f13:=Sd y2;have f23:=Sd y3;have g1:=Se y4;have g2:=Se y5;have g3:=Se y6
 -- the old corners
 obtain⟨u1,zc,HK⟩:=LQ d1 l1 (mm d1 m1);obtain⟨u2,uD,HL⟩:=LQ d2 l2 (mm d2 m2);obtain⟨u3,vj,HM⟩:=LQ d3 l3 (mm d3 m3);obtain⟨_,o1,q1,k1⟩:=HH g l1 zc HK;obtain⟨_,o2,q2,k2⟩:=HH g l2 uD HL;obtain⟨_,o3,q3,k3⟩:=HH g l3 vj HM;rw[s1] at o1 q1 k1;rw[s2] at o2 q2 k2;rw[s3] at o3 q3 k3;clear s1 s2 s3 nE pn pa pb pc x1 x2 x3 x4 x5 x6 x7 x8 x9 GW JV JW JX JY Nr crs LQ mm ina inb inc;have ti1:=JI (ls:=ls) l1;have ti2:=JI (ls:=ls) l2;have ti3:=JI (ls:=ls) l3;have kA:=Ix (ls:=ls) l1;have hi2:=Ix (ls:=ls) l2
 have hi3:=Ix (ls:=ls) l3;rw[kA,ti2] at k1;rw[hi2,ti3] at k2;rw[hi3,ti1] at k3;obtain⟨a1,b1,c1,e1⟩:=k1;obtain⟨a2,b2,c2,e2⟩:=k2;obtain⟨a3,b3,c3,e3⟩:=k3;simp only[if_true] at a1 b1 c1 e1 a2 b2 c2 e2 a3 b3 c3 e3
 let tau:=(oK ls d1).l
 let K1:dV:=⟨(fC (bn d3) (dM ls (oT ls.length d3))).r,tau,(fC (bn d1) (dM ls (oT ls.length d1))).b⟩
 let K2:dV:=⟨(fC (bn d1) (dM ls (oT ls.length d1))).r,tau,(fC (bn d2) (dM ls (oT ls.length d2))).b⟩
 let K3:dV:=⟨(fC (bn d2) (dM ls (oT ls.length d2))).r,tau,(fC (bn d3) (dM ls (oT ls.length d3))).b⟩
 let sd:Nat->dV:=fun j=>if j=d1/2 then uo (bn d1) K1 else if j=d2/2 then uo (bn d2) K2 else if j=d3/2 then uo (bn d3) K3 else qu ls j
 have sd1:sd (d1/2)=uo (bn d1) K1:=if_pos rfl;have sd2:sd (d2/2)=uo (bn d2) K2:=by show(if _ then _ else _)=_;rw[if_neg (Ne.symm y1.1),if_pos rfl]
 have sd3:sd (d3/2)=uo (bn d3) K3:=by show(if _ then _ else _)=_;rw[if_neg (Ne.symm y2.1),if_neg (Ne.symm y3.1),if_pos rfl]
 have sdn:∀j,j≠d1/2->j≠d2/2->j≠d3/2->sd j=qu ls j:=fun j h1 h2 h3=>by show(if _ then _ else _)=_;rw[if_neg h1,if_neg h2,if_neg h3]
 have prev:∀i,i<ls.length->i≠nx ls (d1/2)->i≠nx ls (d2/2)->i≠nx ls (d3/2)->sd ((i+ls.length-1)%ls.length)=qu ls ((i+ls.length-1)%ls.length):=fun i hi n1 n2 n3=>sdn _ (fun h=>n1 (BI hi h)) (fun h=>n2 (BI hi h)) (fun h=>n3 (BI hi h))
 obtain⟨z1,z2,z3,z4⟩:=y1;obtain⟨z5,z6,z7,z8⟩:=y2;obtain⟨z9,z10,z11,z12⟩:=y3;have G1:=KV (P:=P) DQ l1 sd1 (prev _ aa y4 z2 z6) (sdn _ y4.symm z3 z7);have G2:=KV (P:=P) DQ l2 sd2 (prev _ aa z3.symm y5 z10) (sdn _ z2.symm y5.symm z11);have G3:=KV (P:=P) DQ l3 sd3 (prev _ aa z7.symm z11.symm y6) (sdn _ z6.symm z10.symm y6.symm);have p1:=sM d1 m1;have p2:=sM d2 m2;have p3:=sM d3 m3;have pT1:=HV (sd:=sd) h1 p1.1;have pH1:=HV (sd:=sd) t1 p1.2;have pT2:=HV (sd:=sd) h2 p2.1;have pH2:=HV (sd:=sd) t2 p2.2;have pT3:=HV (sd:=sd) h3 p3.1
 have pH3:=HV (sd:=sd) t3 p3.2;have un:∀i,i<ls.length->i≠oT ls.length d1->i≠oH ls.length d1->i≠oT ls.length d2->i≠oH ls.length d2->i≠oT ls.length d3->i≠oH ls.length d3->bU P sd i=dM ls i:=fun i hi n1 n2 n3 n4 n5 n6=>by obtain⟨q1,q2⟩:=pn2 i n1 n2 n3 n4 n5 n6;exact YD DQ hi q1 (prev i hi (q2 d1 m1).2 (q2 d2 m2).2 (q2 d3 m3).2) (sdn i (q2 d1 m1).1 (q2 d2 m2).1 (q2 d3 m3).1)
 clear pn2 sM prev
 -- letters of the crossings
 have hw1:=qS ok.cr zc HK;have hw2:=qS ok.cr uD HL;have hw3:=qS ok.cr vj HM;rw[<- o1] at hw1;rw[<- o2] at hw2;rw[<- o3] at hw3;obtain⟨r1,v2,qh,cv2,iv2,_,_⟩:=hw1;obtain⟨r2,v3,Mu,cv3,iv3,_,_⟩:=hw2;obtain⟨r3,v1,xN,cv1,iv1,_,_⟩:=hw3
 -- the new corners
 have cornerN:∀(x y:aQ) (d d' hh tt:Nat) (u v:Let),ls[hh]?=some u->ls[tt]?=some v->u.aB=true->v.aB=true->v.id=u.id->hh≠tt->x.p=(dM ls hh).p->y.p=(dM ls tt).p->gX u=(bn d==bn d')->X4 true (fC (bn d) x) (im (bn d) x) (fC (bn d') y) (im (bn d') y)->Xc x y:=by intro x y d d' hh tt u v ha hb ca cb ei aH hx hy hg h4;have IT:x.k=(dM ls hh).k:=congrArg Pc.l hx;have hy':y.k=(dM ls tt).k:=congrArg Pc.l hy;have old:=KU g (aW.1 ha).1 (aW.1 hb).1 aH (by rw[dT ha];exact ca) (by rw[dT hb];exact cb) (by rw[dT ha,dT hb];exact ei.symm);refine⟨by rw[IT,hy'];exact old.ov,by rw[IT,hy'];exact old.sg,?_⟩;rw[IT,dT ha,hg];exact QW.1 h4
 have C1:Xc (bU P sd (oT ls.length d1)) (bU P sd (oH ls.length d2)):=by
  refine cornerN _ _ d1 d2 _ _ u1 v2 zc qh HK cv2 iv2 f12.2.2.1 pT1 pH2 q1 ?_;rw[G1.1,G1.2.1,G2.2.2.1,G2.2.2.2];constructor<;>simp only[if_true]
  .exact c3.trans e2
  .rfl
  .rfl
  exact b2
 have C2:Xc (bU P sd (oT ls.length d2)) (bU P sd (oH ls.length d3)):=by
  refine cornerN _ _ d2 d3 _ _ u2 v3 uD Mu HL cv3 iv3 f23.2.2.1 pT2 pH3 q2 ?_;rw[G2.1,G2.2.1,G3.2.2.1,G3.2.2.2];constructor<;>simp only[if_true]
  .exact c1.trans e3
  .rfl
  .rfl
  exact b3
 have C3:Xc (bU P sd (oT ls.length d3)) (bU P sd (oH ls.length d1)):=by
  refine cornerN _ _ d3 d1 _ _ u3 v1 vj xN HM cv1 iv1 f13.2.1.symm pT3 pH1 q3 ?_;rw[G3.1,G3.2.1,G1.2.2.1,G1.2.2.2];constructor<;>simp only[if_true]
  .exact c2.trans e1
  .rfl
  .rfl
  exact b1
 have six:∀i,i<ls.length->(i=oT ls.length d1\/i=oH ls.length d1\/i=oT ls.length d2\/i=oH ls.length d2\/i=oT ls.length d3\/i=oH ls.length d3)\/(bU P sd i=dM ls i/\i≠oT ls.length d1/\i≠oH ls.length d1/\i≠oT ls.length d2/\i≠oH ls.length d2/\i≠oT ls.length d3/\i≠oH ls.length d3):=fun i hi=>by
  rcases Classical.em (i=oT ls.length d1\/i=oH ls.length d1\/i=oT ls.length d2\/i=oH ls.length d2\/i=oT ls.length d3\/i=oH ls.length d3) with h|h
  .exact .inl h
  simp only[not_or] at h;exact .inr ⟨un i hi h.1 h.2.1 h.2.2.1 h.2.2.2.1 h.2.2.2.2.1 h.2.2.2.2.2,h⟩
 -- each position holds one letter
 have hold:∀i,i<ls.length->∃j l,j<ls.length/\ls[j]?=some l/\(bU P sd i).k=l/\(bU P sd i).p=(dM ls j).p:=fun i hi=>by
  have mk:∀j l,ls[j]?=some l->(bU P sd i).p=(dM ls j).p->∃j l,j<ls.length/\ls[j]?=some l/\(bU P sd i).k=l/\(bU P sd i).p=(dM ls j).p:=fun j l hl hp=>⟨j,l,(aW.1 hl).1,hl,(congrArg Pc.l hp).trans (dT hl),hp⟩;rcases six i hi with (rfl|rfl|rfl|rfl|rfl|rfl)|⟨e,_⟩
  .exact mk _ _ zc pT1
  .exact mk _ _ xN pH1
  .exact mk _ _ uD pT2
  .exact mk _ _ qh pH2
  .exact mk _ _ vj pT3
  .exact mk _ _ Mu pH3
  obtain⟨l,hl⟩:=aL hi;exact mk i l hl (by rw[e])
 have kT1:(bU P sd (oT ls.length d1)).k=u1:=(congrArg Pc.l pT1).trans (dT zc);have kT2:(bU P sd (oT ls.length d2)).k=u2:=(congrArg Pc.l pT2).trans (dT uD);have kT3:(bU P sd (oT ls.length d3)).k=u3:=(congrArg Pc.l pT3).trans (dT vj);have kH1:(bU P sd (oH ls.length d1)).k=v1:=(congrArg Pc.l pH1).trans (dT xN);have kH2:(bU P sd (oH ls.length d2)).k=v2:=(congrArg Pc.l pH2).trans (dT qh);have kH3:(bU P sd (oH ls.length d3)).k=v3:=(congrArg Pc.l pH3).trans (dT Mu);have flat:∀(f:Bool) (x:aQ),(fC f x).b=(im f x).b->x.i.b=x.o.b:=fun f x h=>by
  rw[I0,Jl] at h;cases f
  .exact h.symm
  exact h
 have aab:∀(f:Bool) (x:aQ),x.i.b=x.o.b->(fC f x).b=(im f x).b:=fun f x h=>by
  rw[I0,Jl];cases f
  .exact h.symm
  exact h
 have oldb:∀j l,ls[j]?=some l->l.aB=true->(dM ls j).i.b=(dM ls j).o.b:=fun j l hl hc=>(DE g (aW.1 hl).1).cb (by rw[dT hl];exact hc);have bT:∀d (K:dV),fC (bn d) (bU P sd (oT ls.length d))=fC (bn d) (dM ls (oT ls.length d))->im (bn d) (bU P sd (oT ls.length d))=K->K.b=(fC (bn d) (dM ls (oT ls.length d))).b->(bU P sd (oT ls.length d)).i.b=(bU P sd (oT ls.length d)).o.b:=fun d K q1 q2 q3=>flat (bn d) _ (by rw[q1,q2,q3])
 have bH:∀d (K:dV) (l m:Let),ls[oT ls.length d]?=some l->l.aB=true->ls[oH ls.length d]?=some m->m.aB=true->im (bn d) (dM ls (oT ls.length d))=oK ls d->fC (bn d) (dM ls (oH ls.length d))=oK ls d->fC (bn d) (bU P sd (oH ls.length d))=K->im (bn d) (bU P sd (oH ls.length d))=im (bn d) (dM ls (oH ls.length d))->K.b=(fC (bn d) (dM ls (oT ls.length d))).b->(bU P sd (oH ls.length d)).i.b=(bU P sd (oH ls.length d)).o.b:=fun d K l m hl cl hm cm w1 w2 q1 q2 q3=>by refine flat (bn d) _ ?_;rw[q1,q2,q3,aab (bn d) _ (oldb _ _ hl cl),w1,<- w2];exact aab (bn d) _ (oldb _ _ hm cm)
 have bad:∀i,i<ls.length->dz F (bU P sd i).k=false:=fun i hi=>by obtain⟨j,l,hj,hl,hk,_⟩:=hold i hi;rw[hk];exact g.bad l (aU hl)
 have l6:∀i,i<ls.length->(bU P sd i).k.aB=true->(bU P sd i).i.b=(bU P sd i).o.b->zq F (bU P sd i):=fun i hi hc hb=>⟨bad i hi,fun _=>hb,fun hp=>by rw[mQ hc] at hp;cases hp⟩;have passUn:∀i,i<ls.length->(bU P sd i).k.aE=true->bU P sd i=dM ls i:=fun i hi hp=>by
  rcases six i hi with (rfl|rfl|rfl|rfl|rfl|rfl)|⟨e,_⟩
  .rw[kT1,mQ HK] at hp;cases hp
  .rw[kH1,mQ cv1] at hp;cases hp
  .rw[kT2,mQ HL] at hp;cases hp
  .rw[kH2,mQ cv2] at hp;cases hp
  .rw[kT3,mQ HM] at hp;cases hp
  .rw[kH3,mQ cv3] at hp;cases hp
  exact e
 have cz:=g.cz;have cntP:∀p:Let->Bool,aw p (P.map Pc.l)=aw p ls:=fun p=>by rw[<- PS (ls:=ls) p];show List.countP _ _=List.countP _ _;rw[Dc,Dc];exact sD _
 have labs:∀(f:Bool) i,i<ls.length->∀t,t=(fC f (bU P sd i)).l\/t=(fC f (bU P sd i)).r->∃j',j'<ls.length/\(t=(sd j').l\/t=(sd j').r):=fun f i hi t ht=>by
  cases f
  .refine⟨i,hi,?_⟩;rcases ht with ht|ht
   .exact .inr ht
   exact .inl ht
  refine⟨(i+P.length-1)%P.length,?_,ht⟩;rw[DQ];exact eH _ hn
 refine XQ g (tau:=tau) (sd:=sd) (T':=TF ls) (B':=BF ls) DQ (cntP _) (cntP _) (fun k=>cntP _) (fun i hi=>?_) (fun i j hi hj gA ci cj e=>?_) (fun i j hi hj gA pi pj e1 e2=>?_) (fun i hi ci=>?_) (fun i hi pi=>?_) (fun i hi pi=>?_) (fun k hk=>?_) ?_ (fun j hj t ht=>?_)
 .rcases six i hi with (rfl|rfl|rfl|rfl|rfl|rfl)|⟨e,_⟩
  .exact l6 _ hi (by rw[kT1];exact HK) (bT d1 K1 G1.1 G1.2.1 rfl)
  .exact l6 _ hi (by rw[kH1];exact cv1) (bH d1 K1 _ _ xN cv1 zc HK ti1 kA G1.2.2.1 G1.2.2.2 rfl)
  .exact l6 _ hi (by rw[kT2];exact HL) (bT d2 K2 G2.1 G2.2.1 rfl)
  .exact l6 _ hi (by rw[kH2];exact cv2) (bH d2 K2 _ _ qh cv2 uD HL ti2 hi2 G2.2.2.1 G2.2.2.2 rfl)
  .exact l6 _ hi (by rw[kT3];exact HM) (bT d3 K3 G3.1 G3.2.1 rfl)
  .exact l6 _ hi (by rw[kH3];exact cv3) (bH d3 K3 _ _ Mu cv3 vj HM ti3 hi3 G3.2.2.1 G3.2.2.2 rfl)
  rw[e];exact DE g hi
 · -- two visits of one crossing
  have nn:∀i,i<ls.length->∃s,s<ls.length/\(∃l,ls[s]?=some l/\(bU P sd i).k=l)/\((i=oT ls.length d1/\s=oH ls.length d1)\/(i=oH ls.length d1/\s=oT ls.length d1)\/(i=oT ls.length d2/\s=oH ls.length d2)\/(i=oH ls.length d2/\s=oT ls.length d2)\/(i=oT ls.length d3/\s=oH ls.length d3)\/(i=oH ls.length d3/\s=oT ls.length d3)\/(bU P sd i=dM ls i/\s=i/\i≠oT ls.length d1/\i≠oH ls.length d1/\i≠oT ls.length d2/\i≠oH ls.length d2/\i≠oT ls.length d3/\i≠oH ls.length d3)):=fun i hi=>by
   rcases six i hi with (rfl|rfl|rfl|rfl|rfl|rfl)|⟨e,aH⟩
   .exact⟨_,h1,⟨_,zc,kT1⟩,.inl ⟨rfl,rfl⟩⟩
   .exact⟨_,t1,⟨_,xN,kH1⟩,.inr (.inl ⟨rfl,rfl⟩)⟩
   .exact⟨_,h2,⟨_,uD,kT2⟩,.inr (.inr (.inl ⟨rfl,rfl⟩))⟩
   .exact⟨_,t2,⟨_,qh,kH2⟩,.inr (.inr (.inr (.inl ⟨rfl,rfl⟩)))⟩
   .exact⟨_,h3,⟨_,vj,kT3⟩,.inr (.inr (.inr (.inr (.inl ⟨rfl,rfl⟩))))⟩
   .exact⟨_,t3,⟨_,Mu,kH3⟩,.inr (.inr (.inr (.inr (.inr (.inl ⟨rfl,rfl⟩)))))⟩
   obtain⟨l,hl⟩:=aL hi;exact⟨i,hi,⟨l,hl,by rw[e];exact dT hl⟩,.inr (.inr (.inr (.inr (.inr (.inr ⟨e,rfl,aH⟩)))))⟩
  obtain⟨si,hsi,⟨li,uy,kli⟩,ci'⟩:=nn i hi;obtain⟨sj,IP,⟨lj,sH,klj⟩,Dw⟩:=nn j hj;rw[kli] at ci e;rw[klj] at cj e;obtain⟨f1,f2,f3,f4⟩:=f12;obtain⟨f5,f6,f7,f8⟩:=f13;obtain⟨f9,f10,f11,f12⟩:=f23;have aH:si≠sj:=by
   clear e2 e3 e1 labs passUn l6 bad bH bT hold un six;rcases ci' with ⟨q1,q2⟩|⟨q1,q2⟩|⟨q1,q2⟩|⟨q1,q2⟩|⟨q1,q2⟩|⟨q1,q2⟩|⟨_,q2,n1,n2,n3,n4,n5,n6⟩<;>rcases Dw with ⟨w1,w2⟩|⟨w1,w2⟩|⟨w1,w2⟩|⟨w1,w2⟩|⟨w1,w2⟩|⟨w1,w2⟩|⟨_,w2,m1,m2,m3,m4,m5,m6⟩<;>rw[q2,w2]<;>first
    |(rw[q1,w1] at gA;exact absurd rfl gA)
    |assumption
    |exact Ne.symm (by assumption)
    |exact gA
  have ho:=Jz g uy sH ci cj e aH;rcases ci' with ⟨q1,q2⟩|⟨q1,q2⟩|⟨q1,q2⟩|⟨q1,q2⟩|⟨q1,q2⟩|⟨q1,q2⟩|⟨eu,q2,n1,n2,n3,n4,n5,n6⟩
  .rw[q2,<- o1] at ho;rcases Dw with ⟨w1,w2⟩|⟨w1,w2⟩|⟨w1,w2⟩|⟨w1,w2⟩|⟨w1,w2⟩|⟨w1,w2⟩|⟨_,w2,m1,m2,m3,m4,m5,m6⟩<;>rw[w2] at ho<;>first
    |(rw[q1,w1];exact C1)
    |exact absurd ho (by assumption)
    |exact absurd ho (Ne.symm (by assumption))
  .rw[q2,r3] at ho;rcases Dw with ⟨w1,w2⟩|⟨w1,w2⟩|⟨w1,w2⟩|⟨w1,w2⟩|⟨w1,w2⟩|⟨w1,w2⟩|⟨_,w2,m1,m2,m3,m4,m5,m6⟩<;>rw[w2] at ho<;>first
    |(rw[q1,w1];exact C3.symm)
    |exact absurd ho (by assumption)
    |exact absurd ho (Ne.symm (by assumption))
  .rw[q2,<- o2] at ho;rcases Dw with ⟨w1,w2⟩|⟨w1,w2⟩|⟨w1,w2⟩|⟨w1,w2⟩|⟨w1,w2⟩|⟨w1,w2⟩|⟨_,w2,m1,m2,m3,m4,m5,m6⟩<;>rw[w2] at ho<;>first
    |(rw[q1,w1];exact C2)
    |exact absurd ho (by assumption)
    |exact absurd ho (Ne.symm (by assumption))
  .rw[q2,r1] at ho;rcases Dw with ⟨w1,w2⟩|⟨w1,w2⟩|⟨w1,w2⟩|⟨w1,w2⟩|⟨w1,w2⟩|⟨w1,w2⟩|⟨_,w2,m1,m2,m3,m4,m5,m6⟩<;>rw[w2] at ho<;>first
    |(rw[q1,w1];exact C1.symm)
    |exact absurd ho (by assumption)
    |exact absurd ho (Ne.symm (by assumption))
  .rw[q2,<- o3] at ho;rcases Dw with ⟨w1,w2⟩|⟨w1,w2⟩|⟨w1,w2⟩|⟨w1,w2⟩|⟨w1,w2⟩|⟨w1,w2⟩|⟨_,w2,m1,m2,m3,m4,m5,m6⟩<;>rw[w2] at ho<;>first
    |(rw[q1,w1];exact C3)
    |exact absurd ho (by assumption)
    |exact absurd ho (Ne.symm (by assumption))
  .rw[q2,r2] at ho;rcases Dw with ⟨w1,w2⟩|⟨w1,w2⟩|⟨w1,w2⟩|⟨w1,w2⟩|⟨w1,w2⟩|⟨w1,w2⟩|⟨_,w2,m1,m2,m3,m4,m5,m6⟩<;>rw[w2] at ho<;>first
    |(rw[q1,w1];exact C2.symm)
    |exact absurd ho (by assumption)
    |exact absurd ho (Ne.symm (by assumption))
  have hb:=(qS ok.cr uy ci).1;rw[ho,q2] at hb;rcases Dw with ⟨w1,w2⟩|⟨w1,w2⟩|⟨w1,w2⟩|⟨w1,w2⟩|⟨w1,w2⟩|⟨w1,w2⟩|⟨eu2,w2,_⟩
  .rw[w2,<- o1] at hb;exact absurd hb.symm n3
  .rw[w2,r3] at hb;exact absurd hb.symm n6
  .rw[w2,<- o2] at hb;exact absurd hb.symm n5
  .rw[w2,r1] at hb;exact absurd hb.symm n2
  .rw[w2,<- o3] at hb;exact absurd hb.symm n1
  .rw[w2,r2] at hb;exact absurd hb.symm n4
  rw[q2] at uy;rw[w2] at sH;rw[eu,eu2];exact KU g hi hj gA (by rw[dT uy];exact ci) (by rw[dT sH];exact cj) (by rw[dT uy,dT sH];exact e)
 .have ee:=passUn i hi pi;have ee2:=passUn j hj pj;rw[ee] at pi e1 e2;rw[ee2] at pj e1 e2;exact(cz.PM (Bn hi) (Bn hj) gA).2 pi pj e1 e2
 .obtain⟨j,l,hj,hl,hk,_⟩:=hold i hi;rw[hk] at ci ⊢;exact g.ids.1 l (aU hl) ci
 .have ee:=passUn i hi pi;rw[ee] at pi ⊢;have:=cz.rr _ (aU (Bn hi)) pi;rwa[jL] at this
 .have ee:=passUn i hi pi;rw[ee] at pi ⊢;exact cz.pl _ (aU (Bn hi)) pi
 .have:=cz.gt k hk;rwa[jL] at this
 .have:=cz.gz;rwa[jL] at this
 have viaK:∀d,j=d/2->t=(oK ls d).l\/t=(oK ls d).r:=fun d hd=>by
  rw[hd] at ht;unfold oK;split
  .exact ht
  exact ht.symm
 by_cases n1:j=d1/2
 .rcases viaK d1 n1 with h|h
  .exact .inl h
  exact .inr (labs (bn d2) _ t2 t (.inl (by rw[G2.1,h];exact c1.symm)))
 by_cases n2:j=d2/2
 .rcases viaK d2 n2 with h|h
  .exact .inl (h.trans a1.symm)
  exact .inr (labs (bn d3) _ t3 t (.inl (by rw[G3.1,h];exact c2.symm)))
 by_cases n3:j=d3/2
 .rcases viaK d3 n3 with h|h
  .exact .inl (h.trans (a2.symm.trans a1.symm))
  exact .inr (labs (bn d1) _ t1 t (.inl (by rw[G1.1,h];exact c3.symm)))
 exact .inr ⟨j,hj,by rw[sdn j n1 n2 n3];exact ht⟩
end
theorem Bl(f:Bool)(x:aQ):x.up=if f==x.p.d then fC f x else iG (im f x):=by unfold aQ.up fC im;cases f<;>cases x.p.d<;>rfl
theorem AR(f:Bool)(x:aQ):x.lo=if f==x.p.d then im f x else iG (fC f x):=by unfold aQ.lo fC im;cases f<;>cases x.p.d<;>rfl
section
variable {F:Nat} {ls:List Let}
theorem W8:∀(w:List Nat) (f:Fc),f.places.length<=(w.foldl (Fc.add F ls) f).places.length/\ ∀x∈w,2*ls.length<=x->(tR F ls ((x-2*ls.length)/2)).length<=(w.foldl (Fc.add F ls) f).places.length:=by
 intro w
 induction w with
 |nil=>intro f;exact⟨bN _,fun x hx=>nomatch hx⟩
 |cons x w ih=>
  intro f;rw[Dd];obtain⟨h1,h2⟩:=ih (Fc.add F ls f x);have h3:f.places.length<=(Fc.add F ls f x).places.length:=by
   unfold Fc.add;split
   .exact bN _
   simp only[gh];omega
  refine⟨mD h3 h1,fun y hy hl=>?_⟩;rcases cP.1 hy with rfl|hy
  .refine mD ?_ h1;unfold Fc.add;rw[if_neg aa];simp only[gh];split<;>(try rw[qW])<;>omega
  exact h2 y hy hl
theorem aar(ok:fj F ls){k u v:Nat}(hk:k+1<(aF ls).length)(hu:(aF ls).getD k 0=u)(hv:(aF ls).getD (k+1) 0=v){l m:Let}(hl:ls[u]?=some l)(hm:ls[v]?=some m)
  (pl:l.aE=true) (pm:m.aE=true) (hg:m.gate<=l.gate):l.gate=m.gate/\m.aD=l.aD+1:=by
 obtain⟨u',hu'⟩:=aL (ls:=aF ls) (k:=k) aa;obtain⟨v',hv'⟩:=aL hk;rw[dq,hu',nc] at hu;rw[dq,hv',nc] at hv;subst hu hv;obtain⟨l',e1,_,e2⟩:=BG ok.ax hu';obtain⟨m',e3,_,e4⟩:=BG ok.ax hv';rw[hl] at e1;cases e1;rw[hm] at e3;cases e3;have gl:=ok.ax.fm l (aU hl) pl;have gm:=ok.ax.fm m (aU hm) pm;obtain⟨l1,l2,l3,l4⟩:=gl;obtain⟨m1,m2,m3,m4⟩:=gm;unfold dR at e2 e4;rcases Int.lt_or_eq_of_le hg with c|c
 .exfalso;have mN:=zW (ls:=ls) (show m.gate.toNat+1<=l.gate.toNat by omega);have hs:=tz ls m.gate.toNat;omega
 rw[c] at e4;exact⟨c.symm,aa⟩
theorem adn(g:dF F ls){w:List Nat}(hw:w∈iJ (aV ls) (nD ls))(sL:(nv F ls w).places.length=1){x v:Nat}(hx:x∈w){fw:Bool}(Ay:x=jd ls.length v fw){l:Let}(hl:ls[v]?=some l)(pl:l.aE=true):
  ∃u m y,y∈w/\ls[u]?=some m/\m.aE=true/\l.gate=m.gate/\((dn ls v=fw/\m.aD=l.aD+1/\y=dJ ls.length u (!dn ls u))\/(dn ls v=(!fw)/\l.aD=m.aD+1/\y=dJ ls.length u (dn ls u))):=by
 have ok:=g.ok;have mp:=maps ok;obtain⟨i1,i2⟩:=Kq ok hl pl;have hz:=EX mp hw hx;rw[Ay,Nh hl pl] at hz;by_cases cd:(dn ls v==fw)=true
 .rw[if_pos cd] at hz;have uA:(tR F ls ((aF ls).idxOf v)).length<=1:=by
   rw[<- sL];unfold nv;have:=(W8 (F:=F) (ls:=ls) w (Fc.new ls (w.headD 0))).2 _ hz aa;rwa[show(2*ls.length+2*(aF ls).idxOf v-2*ls.length)/2=(aF ls).idxOf v by omega] at this
  have hk:(aF ls).idxOf v+1<(aF ls).length:=by
   unfold tR at uA;simp only at uA;split at uA
   .assumption
   rw[gh,Bg,Bg] at uA;omega
  obtain⟨m,hm,pm⟩:=Fp hk;have hg:m.gate<=l.gate:=by unfold tR at uA;simp only at uA;rw[if_pos hk,Bg,i2,jA hk,FI hl,FI hm] at uA;have:=(ok.ax.fm l (aU hl) pl).g0;have:=(ok.ax.fm m (aU hm) pm).g0;omega
  obtain⟨r1,r2⟩:=aar ok hk i2 rfl hl hm pl pm hg;have Gk:=EX mp hw hz;rw[JM,jA hk] at Gk;exact⟨_,m,_,Gk,hm,pm,r1,.inl ⟨eq_of_beq cd,r2,rfl⟩⟩
 rw[if_neg cd] at hz;have Ap:=eH ((aF ls).idxOf v+(aF ls).length-1) (show 0<(aF ls).length by omega);have hb:=wE i1;generalize ((aF ls).idxOf v+(aF ls).length-1)%(aF ls).length=k at hz Ap hb;have uA:(tR F ls k).length<=1:=by rw[<- sL];unfold nv;have:=(W8 (F:=F) (ls:=ls) w (Fc.new ls (w.headD 0))).2 _ hz aa;rwa[show(2*ls.length+2*k+1-2*ls.length)/2=k by omega] at this
 have hk:k+1<(aF ls).length:=by
  unfold tR at uA;simp only at uA;split at uA
  .assumption
  rw[gh,Bg,Bg] at uA;omega
 rw[jA hk] at hb;obtain⟨m,hm,pm⟩:=Fp Ap;have hg:l.gate<=m.gate:=by unfold tR at uA;simp only at uA;rw[if_pos hk,Bg,jA hk,hb,i2,FI hl,FI hm] at uA;have:=(ok.ax.fm l (aU hl) pl).g0;have:=(ok.ax.fm m (aU hm) pm).g0;omega
 obtain⟨r1,r2⟩:=aar ok hk rfl (by rw[hb];exact i2) hm hl pm pl hg;have Gk:=EX mp hw hz;rw[JL] at Gk;refine⟨_,m,_,Gk,hm,pm,r1.symm,.inr ⟨?_,r2,rfl⟩⟩;revert cd;cases dn ls v<;>cases fw<;>simp
theorem V9{l:List Pc}{i:Nat}{r:Int}{p:Pc}(h:l[i]?=some p)(j:Nat):(jY l i r)[j]?=if j=i then some ⟨{p.l with aD:=r},p.d⟩ else l[j]? :=by
 have hl:=(aW.1 h).1;unfold jY;rw[dq,h,nc,pN];by_cases c:j=i
 .subst c;rw[if_pos rfl,if_pos hl,if_pos rfl]
 rw[if_neg (Ne.symm c),if_neg c]
theorem V8{q:Pc->Bool}{l:List Pc}{i:Nat}{r:Int}{p:Pc}(h:l[i]?=some p)(hq:∀p:Pc,q ⟨{p.l with aD:=r},p.d⟩=q p):(jY l i r).countP q=l.countP q:=by unfold jY;rw[dq,h,nc];have:=Rv (p:=q) (y:=⟨{p.l with aD:=r},p.d⟩) h;rw[hq] at this;show List.countP q (l.set i ⟨{p.l with aD:=r},p.d⟩)=_;omega
theorem aqJ(g:dF F ls){a b:Nat}(ha:a<ls.length)(hb:b<ls.length)(iQ:a≠b){va vb pa pb:Nat}{la lb ma mb:Let}
  (ea:(pa=a/\va=nx ls a)\/(pa=nx ls a/\va=a)) (eb:(pb=b/\vb=nx ls b)\/(pb=nx ls b/\vb=b)) (vd:ls[va]?=some la) (An:ls[vb]?=some lb) (y8:ls[pa]?=some ma) (y9:ls[pb]?=some mb)
  (ca:la.aB=true) (cb:lb.aB=true) (qa:ma.aE=true) (qb:mb.aE=true) (hid:la.id=lb.id) (hv:va≠vb) (Iw:tm F ls 1 [a,b] a=true):
  ∃w,w∈iJ (aV ls) (nD ls)/\(nv F ls w).places.length=1/\ ∃d,d∈w/\d<2*ls.length/\aV ls d∈w/\aV ls d<2*ls.length/\(∀y,y∈w->y<2*ls.length->y=d\/y=aV ls d)/\
   ((d/2=a/\aV ls d/2=b/\oT ls.length d=pa/\oH ls.length d=va/\oT ls.length (aV ls d)=vb/\oH ls.length (aV ls d)=pb)\/(d/2=b/\aV ls d/2=a/\oT ls.length d=pb/\oH ls.length d=vb/\oT ls.length (aV ls d)=va/\oH ls.length (aV ls d)=pa)):=by
 have ok:=g.ok;obtain⟨w,hw,sL,hlen,hE⟩:=RX g ha Iw;obtain⟨da,vQ,ug,yF⟩:=hE a af;obtain⟨db,xe,uU,yG⟩:=hE b af;have aH:da≠db:=aa;have inD:∀d,d∈w->d<2*ls.length->d∈w.filter fun x=>decide (x<2*ls.length):=fun d h1 h2=>vG.2 ⟨h1,by simpa using h2⟩;have two:∀d,d∈w->d<2*ls.length->d=da\/d=db:=fun d h1 h2=>afB hlen (inD da vQ ug) (inD db xe uU) aH (inD d h1 h2);have ends:∀d e p v:Nat,d/2=e->((p=e/\v=nx ls e)\/(p=nx ls e/\v=e))->(oT ls.length d=p/\oH ls.length d=v)\/(oT ls.length d=v/\oH ls.length d=p):=fun d e p v h1 h2=>by
  unfold oT oH;rw[h1];show((if _ then e else nx ls e)=p/\(if _ then nx ls e else e)=v)\/((if _ then e else nx ls e)=v/\(if _ then nx ls e else e)=p);rcases h2 with ⟨rfl,rfl⟩|⟨rfl,rfl⟩<;>split
  .exact .inl ⟨rfl,rfl⟩
  .exact .inr ⟨rfl,rfl⟩
  .exact .inr ⟨rfl,rfl⟩
  exact .inl ⟨rfl,rfl⟩
 have pc:∀ {x y:Nat} {l m:Let},ls[x]?=some l->ls[y]?=some m->l.aB=true->m.aE=true->x≠y:=fun h1 h2 h3 h4 e=>by subst e;rw[h1] at h2;have:=qZ h2;rw[this,pI h4] at h3;cases h3
 -- a dart that leads to the crossing goes on at the other visit
 have go:∀(d d' p v p' v':Nat) (l m l' m':Let),d∈w->d<2*ls.length->d'<2*ls.length->oT ls.length d=p->oH ls.length d=v->ls[v]?=some l->ls[p]?=some m->ls[v']?=some l'->ls[p']?=some m'->l.aB=true->m.aE=true->l'.aB=true->m'.aE=true->l.id=l'.id->v≠v'->(∀y,y∈w->y<2*ls.length->y=d\/y=d')->((oT ls.length d'=p'/\oH ls.length d'=v')\/(oT ls.length d'=v'/\oH ls.length d'=p'))->aV ls d=d'/\oT ls.length d'=v'/\oH ls.length d'=p':=by
  intro d d' p v p' v' l m l' m' d1 d2 d2' hT hH hl hm u9 we cl pm cl' Jp hid hv tw en;obtain⟨s1,s2,_⟩:=HH g d2 (by rw[hH];exact hl) cl;rw[hH,Jz g hl u9 cl cl' hid hv] at s2;rcases tw _ (EX (maps ok) hw d1) s1 with e|e
  .exfalso;rw[e,hT] at s2;exact pc u9 hm cl' pm s2.symm
  rw[e] at s2;rcases en with ⟨e1,_⟩|⟨e1,e2⟩
  .exact absurd (s2.symm.trans e1) (pc u9 we cl' Jp)
  exact⟨e,e1,e2⟩
 have na:=ends da a pa va yF ea;have nb:=ends db b pb vb yG eb;rcases na with ⟨t1,t2⟩|⟨t1,t2⟩
 .obtain⟨e1,e2,e3⟩:=go da db pa va pb vb la ma lb mb vQ ug uU t1 t2 vd y8 An y9 ca qa cb qb hid hv two nb;refine⟨w,hw,sL,da,vQ,ug,by rw[e1];exact xe,by rw[e1];exact uU,by rw[e1];exact two,.inl ⟨yF,by rw[e1];exact yG,t1,t2,by rw[e1];exact e2,by rw[e1];exact e3⟩⟩
 · -- the dart of the first edge leads to the pass: the other one leads to the crossing
  obtain⟨u,m,y,y1,y2,y3,_,y4⟩:=adn g hw sL vQ (v:=pa) (fw:=bn da) (by rw[<- t2];exact Sc ug) y8 qa;have hu:=(aW.1 y2).1;have yT:oT ls.length y=u/\y<2*ls.length:=by
   have key:∀f,oT ls.length (dJ ls.length u f)=u/\dJ ls.length u f<2*ls.length:=fun f=>⟨(NU hu).1,by
    have:=BC hu (!f);rw[<- CT] at this;have:=Bb this;rwa[Bc] at this⟩
   rcases y4 with ⟨_,_,e⟩|⟨_,_,e⟩<;>rw[e]<;>exact key _
  have yb:y=db:=by
   rcases two y y1 yT.2 with e|e
   .exfalso;rw[e,t1] at yT;rw[<- yT.1] at y2;rw[vd] at y2;have:=qZ y2;rw[<- this,mQ ca] at y3;cases y3
   exact e
  have nb':oT ls.length db=pb/\oH ls.length db=vb:=by
   rcases nb with h|⟨h1,h2⟩
   .exact h
   exfalso;rw[yb,h1] at yT;rw[<- yT.1,An] at y2;have:=qZ y2;rw[<- this,mQ cb] at y3;cases y3
  obtain⟨e1,e2,e3⟩:=go db da pb vb pa va lb mb la ma xe uU ug nb'.1 nb'.2 An y9 vd y8 cb qb ca qa hid.symm hv.symm (fun y h1 h2=>(two y h1 h2).symm) (.inr ⟨t1,t2⟩);refine⟨w,hw,sL,db,xe,uU,by rw[e1];exact vQ,by rw[e1];exact ug,by rw[e1];exact fun y h1 h2=>(two y h1 h2).symm,.inr ⟨yG,by rw[e1];exact yF,nb'.1,nb'.2,by rw[e1];exact e2,by rw[e1];exact e3⟩⟩
end
section
variable {F:Nat} {ls:List Let}
theorem ael{e:Nat}(hn:0<ls.length)(he:e<ls.length)(h:(ki ls e).2.2=true):(((ki ls e).1=e/\(ki ls e).2.1=nx ls e)\/((ki ls e).1=nx ls e/\(ki ls e).2.1=e))/\(∃l,ls[(ki ls e).2.1]?=some l/\l.aB=true)/\ ∃m,ls[(ki ls e).1]?=some m/\m.aE=true:=by
 obtain⟨l,hl⟩:=aL he;obtain⟨m,hm⟩:=aL (ls:=ls) (k:=nx ls e) (eH _ hn);have e1:pA ls e=⟨l,gV ls e⟩:=kh (rV hl);have e2:pA ls (nx ls e)=⟨m,gV ls (nx ls e)⟩:=kh (rV hm);unfold ki at h ⊢;rw[e1,e2] at h ⊢;by_cases c:(l.kind==2)=true
 .rw[if_pos c] at h ⊢;exact⟨.inr ⟨rfl,rfl⟩,⟨l,hl,c⟩,m,hm,h⟩
 rw[if_neg c] at h ⊢;simp only[cX] at h;exact⟨.inl ⟨rfl,rfl⟩,⟨m,hm,h.2⟩,l,hl,h.1⟩
theorem aae{f:Bool}{x y:aQ}(h1:(fC f x).b=(fC f y).b)(h2:(im f x).b=(im f y).b):x.i.b=y.i.b/\x.o.b=y.o.b:=by
 rw[I0,I0] at h1;rw[Jl,Jl] at h2;cases f
 .exact⟨h2,h1⟩
 exact⟨h1,h2⟩
theorem aac{f:Bool}{x:aQ}(h:(fC f x).b=(im f x).b):x.i.b=x.o.b:=by
 rw[I0,Jl] at h;cases f
 .exact h.symm
 exact h
theorem aad{f:Bool}{x:aQ}(h:x.i.b=x.o.b):(fC f x).b=(im f x).b:=by
 rw[I0,Jl];cases f
 .exact h.symm
 exact h
theorem Xy{l:Let}{r:Int}(hp:l.aE=true)(h:dz F l=false):dz F {l with aD:=r}=false:=by have jh:({l with aD:=r}:Let).aE=true:=hp;rw[sR hp] at h;rw[sR jh];exact h
theorem XP(g:dF F ls){w:List Nat}(hw:w∈iJ (aV ls) (nD ls))(sL:(nv F ls w).places.length=1){d d':Nat}(hd:d∈w)(ld:d<2*ls.length)(FV:d'∈w)(Gu:d'<2*ls.length)(hnx:aV ls d=d')(two:∀y,y∈w->y<2*ls.length->y=d\/y=d')
  {lp lv lw lq:Let} (vh:ls[oT ls.length d]?=some lp) (nV:ls[oH ls.length d]?=some lv) (tJ:ls[oT ls.length d']?=some lw) (wa:ls[oH ls.length d']?=some lq) (pp:lp.aE=true) (cv:lv.aB=true) (cw:lw.aB=true) (pq:lq.aE=true)
  {P:List Pc} (Cd:P.length=ls.length) (sD:∀q:Let->Bool,(∀(l:Let) (r:Int),q {l with aD:=r}=q l)->aw q (P.map Pc.l)=aw q ls)
  (hP:oT ls.length d≠oH ls.length d'->P[oT ls.length d]?=(pieces ls)[oH ls.length d]? /\P[oH ls.length d]?=some ⟨{lp with aD:=lq.aD},gV ls (oT ls.length d)⟩/\P[oT ls.length d']?=some ⟨{lq with aD:=lp.aD},gV ls (oH ls.length d')⟩/\P[oH ls.length d']?=(pieces ls)[oT ls.length d']? /\
   ∀i,i≠oT ls.length d->i≠oH ls.length d->i≠oT ls.length d'->i≠oH ls.length d'->P[i]?=(pieces ls)[i]?):Cert F P:=by
 have ok:=g.ok;have cz:=g.cz;have hn:0<ls.length:=iX.2 g.ne;have t1:=MU g ld;have t2:=MU g Gu;have h1:=Jh g ld;have h2:=Jh g Gu
 -- the neighbours on the NL
 obtain⟨u,m,y,y1,y2,y3,pZ,y4⟩:=adn g hw sL FV (v:=oH ls.length d') (fw:=bn d') (Sc Gu) wa pq;have hu:=(aW.1 y2).1;have yT:∀f,oT ls.length (dJ ls.length u f)=u/\bn (dJ ls.length u f)=f/\dJ ls.length u f<2*ls.length:=fun f=>⟨(NU hu).1,(NU hu).2,by
  have:=BC hu (!f);rw[<- CT] at this;have:=Bb this;rwa[Bc] at this⟩
 have yd:y=d:=by
  have hyt:oT ls.length y=u/\y<2*ls.length:=by rcases y4 with ⟨_,_,e⟩|⟨_,_,e⟩<;>rw[e]<;>exact⟨(yT _).1,(yT _).2.2⟩
  rcases two y y1 hyt.2 with e|e
  .exact e
  exfalso;rw[e] at hyt;rw[<- hyt.1,tJ] at y2;have:=qZ y2;rw[<- this,mQ cw] at y3;cases y3
 subst yd;have hu':oT ls.length y=u:=by rcases y4 with ⟨_,_,e⟩|⟨_,_,e⟩<;>rw[e]<;>exact(yT _).1
 subst hu';rw[vh] at y2;cases y2
 -- cR: ij the NL
 obtain⟨cR,hR⟩:∃cR:Bool,(cR=true/\dn ls (oH ls.length d')=bn d'/\lp.aD=lq.aD+1/\bn y= !dn ls (oT ls.length y))\/(cR=false/\dn ls (oH ls.length d')=(!bn d')/\lq.aD=lp.aD+1/\bn y=dn ls (oT ls.length y)):=by
  rcases y4 with ⟨e1,e2,e3⟩|⟨e1,e2,e3⟩
  .exact⟨true,.inl ⟨rfl,e1,e2,(congrArg bn e3).trans (yT _).2.1⟩⟩
  exact⟨false,.inr ⟨rfl,e1,e2,(congrArg bn e3).trans (yT _).2.1⟩⟩
 clear y4 yT y1 y3 hu;have lJ:lp.aD≠lq.aD:=by rcases hR with ⟨_,_,h,_⟩|⟨_,_,h,_⟩<;>omega
 have npq:oT ls.length y≠oH ls.length d':=fun e=>by rw[e,wa] at vh;have:=qZ vh;rw[this] at lJ;exact lJ rfl
 obtain⟨pT,pH,pT',pH',pU⟩:=hP npq;clear hP;obtain⟨_,o1,q1,k1⟩:=HH g ld nV cv;rw[hnx] at o1 q1 k1;rw[Ix ld,JI Gu] at k1;obtain⟨xa,xb,xc,xd⟩:=k1;simp only[if_true] at xa xb xc xd;have pc:∀ {x y:Nat} {l m:Let},ls[x]?=some l->ls[y]?=some m->l.aB=true->m.aE=true->x≠y:=fun h1 h2 h3 h4 e=>by subst e;rw[h1] at h2;have:=qZ h2;rw[this,pI h4] at h3;cases h3
 have nvw:oH ls.length y≠oT ls.length d':=by intro e;obtain⟨_,m,hm,_,_,mo,_⟩:=qS ok.cr nV cv;rw[<- o1,<- e,nV] at hm;have:=qZ hm;rw[<- this] at mo;revert mo;cases lv.over<;>simp
 have nvp:=pc nV vh cv pp;have nvq:=pc nV wa cv pq;have nwp:=pc tJ vh cw pp;have nwq:=pc tJ wa cw pq
 -- ends of the edges
 have ee:∀d:Nat,(oT ls.length d=d/2/\oH ls.length d=nx ls (d/2))\/(oT ls.length d=nx ls (d/2)/\oH ls.length d=d/2):=fun d=>by
  unfold oT oH nx;split
  .exact .inl ⟨rfl,rfl⟩
  exact .inr ⟨rfl,rfl⟩
 have apart:y/2≠d'/2/\y/2≠nx ls (d'/2)/\nx ls (y/2)≠d'/2/\nx ls (y/2)≠nx ls (d'/2)/\y/2≠nx ls (y/2)/\d'/2≠nx ls (d'/2):=by
  rcases ee y with ⟨a1,a2⟩|⟨a1,a2⟩<;>rcases ee d' with ⟨b1,b2⟩|⟨b1,b2⟩
  .rw[<- a2,<- a1,<- b2,<- b1];exact⟨nwp.symm,npq,nvw,nvq,nvp.symm,nwq⟩
  .rw[<- a2,<- a1,<- b1,<- b2];exact⟨npq,nwp.symm,nvq,nvw,nvp.symm,nwq.symm⟩
  .rw[<- a1,<- a2,<- b2,<- b1];exact⟨nvw,nvq,nwp.symm,npq,nvp,nwq⟩
  rw[<- a1,<- a2,<- b1,<- b2];exact⟨nvq,nvw,npq,nwp.symm,nvp,nwq.symm⟩
 let tau:=(oK ls y).l
 let tI:=fC (bn y) (dM ls (oT ls.length y))
 let hO:=im (bn d') (dM ls (oH ls.length d'))
 let oth:=(im (bn y) (dM ls (oH ls.length y))).r
 let K1:dV:=⟨hO.r,tau,tI.b⟩
 let K2:dV:=⟨tI.r,tau,hO.b⟩
 let sd:Nat->dV:=fun j=>if j=y/2 then uo (bn y) K1 else if j=d'/2 then uo (bn d') K2 else qu ls j
 have sd1:sd (y/2)=uo (bn y) K1:=if_pos rfl;have sd2:sd (d'/2)=uo (bn d') K2:=by show(if _ then _ else _)=_;rw[if_neg apart.1.symm,if_pos rfl]
 have sdn:∀j,j≠y/2->j≠d'/2->sd j=qu ls j:=fun j h1 h2=>by show(if _ then _ else _)=_;rw[if_neg h1,if_neg h2]
 have prev:∀i,i<ls.length->i≠nx ls (y/2)->i≠nx ls (d'/2)->sd ((i+ls.length-1)%ls.length)=qu ls ((i+ls.length-1)%ls.length):=fun i hi n1 n2=>sdn _ (fun h=>n1 (BI hi h)) (fun h=>n2 (BI hi h))
 obtain⟨z1,z2,z3,z4,z5,z6⟩:=apart;have G1:=KV (P:=P) Cd ld sd1 (prev _ aa z5 z2) (sdn _ z5.symm z3);have G2:=KV (P:=P) Cd Gu sd2 (prev _ aa z3.symm z6) (sdn _ z2.symm z6.symm);have un:∀i,i<ls.length->i≠oT ls.length y->i≠oH ls.length y->i≠oT ls.length d'->i≠oH ls.length d'->bU P sd i=dM ls i:=fun i hi n1 n2 n3 n4=>by
  have a1:i≠y/2/\i≠nx ls (y/2):=by
   rcases ee y with ⟨a1,a2⟩|⟨a1,a2⟩
   .rw[<- a2,<- a1];exact⟨n1,n2⟩
   rw[<- a1,<- a2];exact⟨n2,n1⟩
  have a2:i≠d'/2/\i≠nx ls (d'/2):=by
   rcases ee d' with ⟨a1,a2⟩|⟨a1,a2⟩
   .rw[<- a2,<- a1];exact⟨n3,n4⟩
   rw[<- a1,<- a2];exact⟨n4,n3⟩
  exact YD Cd hi (pU i n1 n2 n3 n4) (prev i hi a1.2 a2.2) (sdn i a1.1 a2.1)
 have six:∀i,i<ls.length->(i=oT ls.length y\/i=oH ls.length y\/i=oT ls.length d'\/i=oH ls.length d')\/(bU P sd i=dM ls i/\i≠oT ls.length y/\i≠oH ls.length y/\i≠oT ls.length d'/\i≠oH ls.length d'):=fun i hi=>by
  rcases Classical.em (i=oT ls.length y\/i=oH ls.length y\/i=oT ls.length d'\/i=oH ls.length d') with h|h
  .exact .inl h
  simp only[not_or] at h;exact .inr ⟨un i hi h.1 h.2.1 h.2.2.1 h.2.2.2,h⟩
 have gp:∀ {i:Nat} {p:Pc},P[i]?=some p->(bU P sd i).p=p:=fun {i p} h=>by show P.getD i _=_;rw[dq,h];rfl
 have kT:(bU P sd (oT ls.length y)).k=lv:=congrArg Pc.l (gp (pT.trans (rV nV)));have kH:(bU P sd (oH ls.length y)).k={lp with aD:=lq.aD}:=congrArg Pc.l (gp pH);have wB:(bU P sd (oT ls.length d')).k={lq with aD:=lp.aD}:=congrArg Pc.l (gp pT');have EB:(bU P sd (oH ls.length d')).k=lw:=congrArg Pc.l (gp (pH'.trans (rV tJ)));have dH:(bU P sd (oH ls.length y)).p.d=(dM ls (oT ls.length y)).p.d:=by rw[gp pH];rfl
 have BU:(bU P sd (oT ls.length d')).p.d=(dM ls (oH ls.length d')).p.d:=by rw[gp pT'];rfl
 have okv:=(DE g h1).cb (by rw[dT nV];exact cv);have okw:=(DE g t2).cb (by rw[dT tJ];exact cw);have bv:=aad (f:=bn y) okv;have bw:=aad (f:=bn d') okw;rw[Ix ld] at bv;rw[JI Gu] at bw;have bp:=JI (ls:=ls) ld;have bq:=Ix (ls:=ls) Gu;have gdp:=ok.ax.fm lp (aU vh) pp;have gdq:=ok.ax.fm lq (aU wa) pq;have plp:=N4 g vh pp;have plq:=N4 g wa pq;obtain⟨p1,p2,p3,p4⟩:=plp;obtain⟨p5,p6,p7,p8⟩:=plq;rw[dT vh] at p1 p2 p3 p4;rw[dT wa] at p5 p6 p7 p8;have kY:=NZ g vh pp;have xA:=NZ g wa pq;rw[Bl (bn y)] at p1 p2;rw[AR (bn y)] at p3 p4;rw[Bl (bn d')] at p5 p6;rw[AR (bn d')] at p7 p8;rw[kY,bp] at p1 p2 p3 p4;rw[xA,bq] at p5 p6 p7 p8;have cgq:cg ls lq.gate.toNat=cg ls lp.gate.toNat:=by rw[pZ]
 obtain⟨gp0,FO,gp2,gp3⟩:=gdp;obtain⟨gq0,gq1,gq2,gq3⟩:=gdq;rw[cgq] at gq3;rw[pZ] at p5 p6 p7 p8;obtain⟨r,T',B',jv,tF,ia,hT,pl1,pl2,rJ⟩:∃(r:Nat) (T' B':Nat->Nat->Nat),1<=r/\r<cg ls lp.gate.toNat/\((lp.aD=(r:Int)/\lq.aD=(r:Int)+1)\/(lq.aD=(r:Int)/\lp.aD=(r:Int)+1))/\(∀k j,¬(k=lp.gate.toNat/\j=r)->T' k j=TF ls k j/\B' k j=BF ls k j)/\
   GG T' B' (bU P sd (oH ls.length y))/\GG T' B' (bU P sd (oT ls.length d'))/\tI.l=hO.l:=by
  rcases hR with ⟨_,eF,alq,dY⟩|⟨_,eF,alq,dY⟩
  .have f1:(bn y==dn ls (oT ls.length y))=false:=by rw[dY];cases dn ls (oT ls.length y)<;>rfl
   have f2:(bn d'==dn ls (oH ls.length d'))=true:=by rw[eF];cases bn d'<;>rfl
   rw[f1] at p1 p2 p3 p4;rw[f2] at p5 p6 p7 p8;simp only[dL,if_false,if_true] at p1 p2 p3 p4 p5 p6 p7 p8;have er:lp.aD.toNat=lq.aD.toNat+1:=aa;rw[er] at p1 p2 p3 p4;rw[Nat.add_sub_cancel] at p1 p3;refine⟨lq.aD.toNat,fun k j=>if k=lp.gate.toNat/\j=lq.aD.toNat then oth else TF ls k j,fun k j=>if k=lp.gate.toNat/\j=lq.aD.toNat then tau else BF ls k j,aa,aa,.inr ⟨aa,aa⟩,fun k j h=>⟨if_neg h,if_neg h⟩,?_,?_,?_⟩
   .constructor
    .rw[kH,Bl (bn y),dH,kY,f1];show(iG (im (bn y) (bU P sd (oH ls.length y)))).r=if lp.gate.toNat=lp.gate.toNat/\lq.aD.toNat-1=lq.aD.toNat then oth else TF ls lp.gate.toNat (lq.aD.toNat-1);rw[if_neg aa,G1.2.2.2];exact xd.symm.trans p5
    .rw[kH,Bl (bn y),dH,kY,f1];show(iG (im (bn y) (bU P sd (oH ls.length y)))).l=if lp.gate.toNat=lp.gate.toNat/\lq.aD.toNat=lq.aD.toNat then oth else TF ls lp.gate.toNat lq.aD.toNat;rw[if_pos ⟨rfl,rfl⟩,G1.2.2.2];rfl
    .rw[kH,AR (bn y),dH,kY,f1];show(iG (fC (bn y) (bU P sd (oH ls.length y)))).r=if lp.gate.toNat=lp.gate.toNat/\lq.aD.toNat-1=lq.aD.toNat then tau else BF ls lp.gate.toNat (lq.aD.toNat-1);rw[if_neg aa,G1.2.2.1];exact p7
    rw[kH,AR (bn y),dH,kY,f1];show(iG (fC (bn y) (bU P sd (oH ls.length y)))).l=if lp.gate.toNat=lp.gate.toNat/\lq.aD.toNat=lq.aD.toNat then tau else BF ls lp.gate.toNat lq.aD.toNat;rw[if_pos ⟨rfl,rfl⟩,G1.2.2.1];rfl
   .constructor
    .rw[wB,Bl (bn d'),BU,xA,f2];show(fC (bn d') (bU P sd (oT ls.length d'))).r=if lq.gate.toNat=lp.gate.toNat/\lp.aD.toNat-1=lq.aD.toNat then oth else TF ls lq.gate.toNat (lp.aD.toNat-1);rw[if_pos ⟨by rw[pZ],aa⟩,G2.1];exact xb.symm
    .rw[wB,Bl (bn d'),BU,xA,f2];show(fC (bn d') (bU P sd (oT ls.length d'))).l=if lq.gate.toNat=lp.gate.toNat/\lp.aD.toNat=lq.aD.toNat then oth else TF ls lq.gate.toNat lp.aD.toNat;rw[if_neg aa,G2.1,pZ,er];exact xc.trans p2
    .rw[wB,AR (bn d'),BU,xA,f2];show(im (bn d') (bU P sd (oT ls.length d'))).r=if lq.gate.toNat=lp.gate.toNat/\lp.aD.toNat-1=lq.aD.toNat then tau else BF ls lq.gate.toNat (lp.aD.toNat-1);rw[if_pos ⟨by rw[pZ],aa⟩,G2.2.1]
    rw[wB,AR (bn d'),BU,xA,f2];show(im (bn d') (bU P sd (oT ls.length d'))).l=if lq.gate.toNat=lp.gate.toNat/\lp.aD.toNat=lq.aD.toNat then tau else BF ls lq.gate.toNat lp.aD.toNat;rw[if_neg aa,G2.2.1,pZ,er];exact p4
   exact p3.trans p8.symm
  have f1:(bn y==dn ls (oT ls.length y))=true:=by rw[dY];cases dn ls (oT ls.length y)<;>rfl
  have f2:(bn d'==dn ls (oH ls.length d'))=false:=by rw[eF];cases bn d'<;>rfl
  rw[f1] at p1 p2 p3 p4;rw[f2] at p5 p6 p7 p8;simp only[dL,if_false,if_true] at p1 p2 p3 p4 p5 p6 p7 p8;have er:lq.aD.toNat=lp.aD.toNat+1:=aa;rw[er] at p5 p6 p7 p8;rw[Nat.add_sub_cancel] at p5 p7;refine⟨lp.aD.toNat,fun k j=>if k=lp.gate.toNat/\j=lp.aD.toNat then tau else TF ls k j,fun k j=>if k=lp.gate.toNat/\j=lp.aD.toNat then oth else BF ls k j,aa,aa,.inl ⟨aa,aa⟩,fun k j h=>⟨if_neg h,if_neg h⟩,?_,?_,?_⟩
  .constructor
   .rw[kH,Bl (bn y),dH,kY,f1];show(fC (bn y) (bU P sd (oH ls.length y))).r=if lp.gate.toNat=lp.gate.toNat/\lq.aD.toNat-1=lp.aD.toNat then tau else TF ls lp.gate.toNat (lq.aD.toNat-1);rw[if_pos ⟨rfl,aa⟩,G1.2.2.1]
   .rw[kH,Bl (bn y),dH,kY,f1];show(fC (bn y) (bU P sd (oH ls.length y))).l=if lp.gate.toNat=lp.gate.toNat/\lq.aD.toNat=lp.aD.toNat then tau else TF ls lp.gate.toNat lq.aD.toNat;rw[if_neg aa,G1.2.2.1,er];exact p6
   .rw[kH,AR (bn y),dH,kY,f1];show(im (bn y) (bU P sd (oH ls.length y))).r=if lp.gate.toNat=lp.gate.toNat/\lq.aD.toNat-1=lp.aD.toNat then oth else BF ls lp.gate.toNat (lq.aD.toNat-1);rw[if_pos ⟨rfl,aa⟩,G1.2.2.2]
   rw[kH,AR (bn y),dH,kY,f1];show(im (bn y) (bU P sd (oH ls.length y))).l=if lp.gate.toNat=lp.gate.toNat/\lq.aD.toNat=lp.aD.toNat then oth else BF ls lp.gate.toNat lq.aD.toNat;rw[if_neg aa,G1.2.2.2,er];exact xd.symm.trans p8
  .constructor
   .rw[wB,Bl (bn d'),BU,xA,f2];show(iG (im (bn d') (bU P sd (oT ls.length d')))).r=if lq.gate.toNat=lp.gate.toNat/\lp.aD.toNat-1=lp.aD.toNat then tau else TF ls lq.gate.toNat (lp.aD.toNat-1);rw[if_neg aa,G2.2.1,pZ];exact p1
   .rw[wB,Bl (bn d'),BU,xA,f2];show(iG (im (bn d') (bU P sd (oT ls.length d')))).l=if lq.gate.toNat=lp.gate.toNat/\lp.aD.toNat=lp.aD.toNat then tau else TF ls lq.gate.toNat lp.aD.toNat;rw[if_pos ⟨by rw[pZ],rfl⟩,G2.2.1];rfl
   .rw[wB,AR (bn d'),BU,xA,f2];show(iG (fC (bn d') (bU P sd (oT ls.length d')))).r=if lq.gate.toNat=lp.gate.toNat/\lp.aD.toNat-1=lp.aD.toNat then oth else BF ls lq.gate.toNat (lp.aD.toNat-1);rw[if_neg aa,G2.1,pZ];exact xc.trans p3
   rw[wB,AR (bn d'),BU,xA,f2];show(iG (fC (bn d') (bU P sd (oT ls.length d')))).l=if lq.gate.toNat=lp.gate.toNat/\lp.aD.toNat=lp.aD.toNat then oth else BF ls lq.gate.toNat lp.aD.toNat;rw[if_pos ⟨by rw[pZ],rfl⟩,G2.1];exact xb.symm
  exact p2.trans p5.symm
 clear p1 p2 p3 p4 p5 p6 p7 p8 hR;have mgp:∀i,i<ls.length->(bU P sd i).k.aE=true->(i=oH ls.length y\/i=oT ls.length d')\/(bU P sd i=dM ls i/\i≠oT ls.length y/\i≠oH ls.length y/\i≠oT ls.length d'/\i≠oH ls.length d'):=fun i hi hp=>by
  rcases six i hi with (rfl|rfl|rfl|rfl)|h
  .rw[kT,mQ cv] at hp;cases hp
  .exact .inl (.inl rfl)
  .exact .inl (.inr rfl)
  .rw[EB,mQ cw] at hp;cases hp
  exact .inr h
 have mgc:∀i,i<ls.length->(bU P sd i).k.aB=true->(i=oT ls.length y\/i=oH ls.length d')\/(bU P sd i=dM ls i/\i≠oT ls.length y/\i≠oH ls.length y/\i≠oT ls.length d'/\i≠oH ls.length d'):=fun i hi hc=>by
  have n1:∀(l:Let) (r:Int),l.aE=true->({l with aD:=r}:Let).aB=false:=fun l r h=>pI (l:={l with aD:=r}) h;rcases six i hi with (rfl|rfl|rfl|rfl)|h
  .exact .inl (.inl rfl)
  .rw[kH,n1 _ _ pp] at hc;cases hc
  .rw[wB,n1 _ _ pq] at hc;cases hc
  .exact .inl (.inr rfl)
  exact .inr h
 -- the place of a pass is that of an old one
 have old:∀i,i<ls.length->(bU P sd i).k.aE=true->∃j l,ls[j]?=some l/\l.aE=true/\(bU P sd i).k.gate=l.gate/\(bU P sd i).k.aD=l.aD/\((i=oH ls.length y/\j=oH ls.length d')\/(i=oT ls.length d'/\j=oT ls.length y)\/(i=j/\i≠oT ls.length y/\i≠oH ls.length d')):=fun i hi hp=>by
  rcases mgp i hi hp with (rfl|rfl)|⟨e,n1,n2,n3,n4⟩
  .exact⟨_,lq,wa,pq,by rw[kH];exact pZ.symm,by rw[kH],.inl ⟨rfl,rfl⟩⟩
  .exact⟨_,lp,vh,pp,by rw[wB];exact pZ,by rw[wB],.inr (.inl ⟨rfl,rfl⟩)⟩
  obtain⟨l,hl⟩:=aL hi;rw[e] at hp;rw[dT hl] at hp;exact⟨i,l,hl,hp,by rw[e,dT hl],by rw[e,dT hl],.inr (.inr ⟨rfl,n1,n4⟩)⟩
 have C1:Xc (bU P sd (oT ls.length y)) (bU P sd (oH ls.length d')):=by
  obtain⟨b1,m,hm,mc,mi,mo,ms⟩:=qS ok.cr nV cv;rw[<- o1,tJ] at hm;have em:=qZ hm;subst em;refine⟨by rw[kT,EB,mo];simp,by rw[kT,EB,ms],?_⟩;rw[kT,q1,<- QW,G1.1,G1.2.1,G2.2.2.1,G2.2.2.2];constructor<;>simp only[if_true]
  .exact rJ
  .rfl
  .rfl
  rfl
 have hid:lv.id=lw.id:=by obtain⟨b1,m,hm,mc,mi,mo,ms⟩:=qS ok.cr nV cv;rw[<- o1,tJ] at hm;rw[qZ hm,mi]
 have ho2:fN ls (oT ls.length d')=oH ls.length y:=by rw[o1];exact(qS ok.cr nV cv).1
 have labs:∀(f:Bool) i,i<ls.length->∀t,t=(fC f (bU P sd i)).l\/t=(fC f (bU P sd i)).r->∃j',j'<ls.length/\(t=(sd j').l\/t=(sd j').r):=fun f i hi t ht=>by
  cases f
  .refine⟨i,hi,?_⟩;rcases ht with ht|ht
   .exact .inr ht
   exact .inl ht
  refine⟨(i+P.length-1)%P.length,?_,ht⟩;rw[Cd];exact eH _ hn
 have labo:∀(f:Bool) i,i<ls.length->∀t,t=(im f (bU P sd i)).l\/t=(im f (bU P sd i)).r->∃j',j'<ls.length/\(t=(sd j').l\/t=(sd j').r):=fun f i hi t ht=>by
  cases f
  .refine⟨(i+P.length-1)%P.length,?_,?_⟩
   .rw[Cd];exact eH _ hn
   rcases ht with ht|ht
   .exact .inr ht
   exact .inl ht
  exact⟨i,hi,ht⟩
 have czgt:=cz.gt;have czgz:=cz.gz;rw[jL] at czgz;refine XQ g (tau:=tau) (sd:=sd) (T':=T') (B':=B') Cd (sD _ fun _ _=>rfl) (sD _ fun _ _=>rfl) (fun k=>sD _ fun _ _=>rfl) (fun i hi=>?_) (fun i j hi hj gA ci cj e=>?_) (fun i j hi hj gA pi pj e1 e2=>?_) (fun i hi ci=>?_) (fun i hi pi=>?_) (fun i hi pi=>?_) (fun k hk=>?_) ?_ (fun j hj t ht=>?_)
 .rcases six i hi with (rfl|rfl|rfl|rfl)|⟨e,_⟩
  .exact⟨by rw[kT];exact g.bad lv (aU nV),fun _=>aac (f:=bn y) (by rw[G1.1,G1.2.1]),fun hp=>by rw[kT,mQ cv] at hp;cases hp⟩
  .have fl:=aae (f:=bn y) (x:=bU P sd (oH ls.length y)) (y:=dM ls (oT ls.length y)) (by rw[G1.2.2.1]) (by rw[G1.2.2.2,bp];exact bv.symm);refine⟨by rw[kH];exact Xy pp (g.bad lp (aU vh)),fun hc=>?_,fun _=>?_⟩
   .rw[kH] at hc;have:=pI (l:={lp with aD:=lq.aD}) pp;rw[this] at hc;cases hc
   rw[fl.1,fl.2,dH];exact(DE g t1).pb (by rw[dT vh];exact pp)
  .have fl:=aae (f:=bn d') (x:=bU P sd (oT ls.length d')) (y:=dM ls (oH ls.length d')) (by rw[G2.1,bq];exact bw) (by rw[G2.2.1]);refine⟨by rw[wB];exact Xy pq (g.bad lq (aU wa)),fun hc=>?_,fun _=>?_⟩
   .rw[wB] at hc;have:=pI (l:={lq with aD:=lp.aD}) pq;rw[this] at hc;cases hc
   rw[fl.1,fl.2,BU];exact(DE g h2).pb (by rw[dT wa];exact pq)
  .exact⟨by rw[EB];exact g.bad lw (aU tJ),fun _=>aac (f:=bn d') (by rw[G2.2.2.1,G2.2.2.2]),fun hp=>by rw[EB,mQ cw] at hp;cases hp⟩
  rw[e];exact DE g hi
 .rcases mgc i hi ci with (rfl|rfl)|⟨ei,n1,n2,n3,n4⟩<;>rcases mgc j hj cj with (rfl|rfl)|⟨ej,m1,m2,m3,m4⟩
  .exact absurd rfl gA
  .exact C1
  .exfalso;obtain⟨l,hl⟩:=aL hj;rw[kT,ej,dT hl] at e;rw[ej,dT hl] at cj;have:=Jz g nV hl cv cj e m2.symm;rw[<- o1] at this;exact m3 this.symm
  .exact C1.symm
  .exact absurd rfl gA
  .exfalso;obtain⟨l,hl⟩:=aL hj;rw[EB,ej,dT hl] at e;rw[ej,dT hl] at cj;have:=Jz g tJ hl cw cj e m3.symm;rw[ho2] at this;exact m2 this.symm
  .exfalso;obtain⟨l,hl⟩:=aL hi;rw[kT,ei,dT hl] at e;rw[ei,dT hl] at ci;have:=Jz g nV hl cv ci e.symm n2.symm;rw[<- o1] at this;exact n3 this.symm
  .exfalso;obtain⟨l,hl⟩:=aL hi;rw[EB,ei,dT hl] at e;rw[ei,dT hl] at ci;have:=Jz g tJ hl cw ci e.symm n3.symm;rw[ho2] at this;exact n2 this.symm
  rw[ei] at ci e ⊢;rw[ej] at cj e ⊢;exact KU g hi hj gA ci cj e
 .obtain⟨a,l,hl,_,g1',rW,c1⟩:=old i hi pi;obtain⟨b,m,hm,_,g2',sW,c2⟩:=old j hj pj;rename_i A2 Jp;have iQ:a≠b:=by
   intro e;rcases c1 with ⟨i1,j1⟩|⟨i1,j1⟩|⟨i1,i2,i3⟩<;>rcases c2 with ⟨k1,k2⟩|⟨k1,k2⟩|⟨k1,k2,k3⟩
   .exact gA (i1.trans k1.symm)
   .exact npq (by rw[<- k2,<- e,j1])
   .exact k3 (by rw[k1,<- e,j1])
   .exact npq (by rw[<- j1,e,k2])
   .exact gA (i1.trans k1.symm)
   .exact k2 (by rw[k1,<- e,j1])
   .exact i3 (by rw[i1,e,k2])
   .exact i2 (by rw[i1,e,k2])
   exact gA (by rw[i1,k1,e])
  have gl:=ok.ax.fm l (aU hl) A2;have gm:=ok.ax.fm m (aU hm) Jp;exact iQ (ok.ax.inj a b l m hl hm A2 Jp ((GI gl gm).2 ⟨by rw[<- g1',<- g2',e1],by rw[<- rW,<- sW,e2]⟩))
 .rcases mgc i hi ci with (rfl|rfl)|⟨ei,_⟩
  .rw[kT];exact g.ids.1 lv (aU nV) cv
  .rw[EB];exact g.ids.1 lw (aU tJ) cw
  obtain⟨l,hl⟩:=aL hi;rw[ei,dT hl] at ci ⊢;exact g.ids.1 l (aU hl) ci
 .obtain⟨a,l,hl,A2,g1',rW,_⟩:=old i hi pi;rw[g1',rW];obtain⟨_,_,b1,b2⟩:=ok.ax.fm l (aU hl) A2;exact⟨b1,b2⟩
 .rcases mgp i hi pi with (rfl|rfl)|⟨ei,n1,n2,n3,n4⟩
  .exact pl1
  .exact pl2
  obtain⟨l,hl⟩:=aL hi;rw[ei] at pi ⊢;rw[dT hl] at pi;obtain⟨a1,a2,a3,a4⟩:=N4 g hl pi;rw[dT hl] at a1 a2 a3 a4;obtain⟨b0,_,b1,b2⟩:=ok.ax.fm l (aU hl) pi;have far:l.gate.toNat=lp.gate.toNat->l.aD.toNat≠r/\l.aD.toNat-1≠r:=fun js=>by have gg:l.gate=lp.gate:=aa;have d1:l.aD≠lp.aD:=fun e=>n1 (ok.ax.inj i _ l lp hl vh pi pp ((GI (ok.ax.fm l (aU hl) pi) (ok.ax.fm lp (aU vh) pp)).2 ⟨gg,e⟩));have d2:l.aD≠lq.aD:=fun e=>n4 (ok.ax.inj i _ l lq hl wa pi pq ((GI (ok.ax.fm l (aU hl) pi) (ok.ax.fm lq (aU wa) pq)).2 ⟨by rw[gg,pZ],e⟩));rcases ia with ⟨s1,s2⟩|⟨s1,s2⟩<;>omega
  have v1:=hT l.gate.toNat (l.aD.toNat-1) (fun⟨h1,h2⟩=>(far h1).2 h2);have v2:=hT l.gate.toNat l.aD.toNat (fun⟨h1,h2⟩=>(far h1).1 h2);constructor
  .rw[dT hl,v1.1];exact a1
  .rw[dT hl,v2.1];exact a2
  .rw[dT hl,v1.2];exact a3
  rw[dT hl,v2.2];exact a4
 .have:=czgt k hk;rw[jL] at this;have v1:=hT k (cg ls k) (fun⟨h1,h2⟩=>by rw[h1] at h2;omega);have v2:=hT (k+1) 0 (fun⟨_,h2⟩=>aa);rw[v1.1,v1.2,v2.1,v2.2];exact this
 .have v1:=hT F (cg ls F) (fun⟨h1,h2⟩=>by rw[h1] at h2;omega);have v2:=hT 0 0 (fun⟨_,h2⟩=>aa);rw[v1.1,v1.2,v2.1,v2.2];exact czgz
 have viaK:∀d,j=d/2->t=(oK ls d).l\/t=(oK ls d).r:=fun d hd=>by
  rw[hd] at ht;unfold oK;split
  .exact ht
  exact ht.symm
 by_cases n1:j=y/2
 .rcases viaK y n1 with h|h
  .exact .inl h
  exact .inr (labs (bn d') _ t2 t (.inl (by rw[G2.1,h];exact xc.symm)))
 by_cases n2:j=d'/2
 .rcases viaK d' n2 with h|h
  .exact .inl (h.trans xa.symm)
  exact .inr (labo (bn y) _ h1 t (.inl (by rw[G1.2.2.2,h];exact xd)))
 exact .inr ⟨j,hj,by rw[sdn j n1 n2];exact ht⟩
theorem ahG(g:dF F ls){a b:Nat}(ha:a<ls.length)(hb:b<ls.length)(iQ:a≠b){L:List Pc}(h:zN F ls a b=some L):Cert F L:=by
 unfold zN at h;split at h
 case isFalse=>cases h
 rename_i hc;simp only[cX,pL,beq_eq_false_iff_ne,beq_iff_eq] at hc;obtain⟨h1,h2,h3,h4,h5⟩:=hc;cases h;have hn:0<ls.length:=iX.2 g.ne;have cA:=fW ls;obtain⟨ea,⟨la,vd,ca⟩,ma,y8,qa⟩:=ael hn ha h1;obtain⟨eb,⟨lb,An,cb⟩,mb,y9,qb⟩:=ael hn hb h2;generalize (ki ls a).1=pa at*;generalize (ki ls a).2.1=va at*;generalize (ki ls b).1=pb at*;generalize (ki ls b).2.1=vb at*;have eva:pA ls va=⟨la,gV ls va⟩:=kh (rV vd);have evb:pA ls vb=⟨lb,gV ls vb⟩:=kh (rV An);have epa:pA ls pa=⟨ma,gV ls pa⟩:=kh (rV y8);have epb:pA ls pb=⟨mb,gV ls pb⟩:=kh (rV y9);rw[eva,evb] at h4;rw[epa,epb]
 obtain⟨w,hw,sL,d,d1,d2,d3,d4,two,cs⟩:=aqJ g ha hb iQ ea eb vd An y8 y9 ca cb qa qb h4 h3 h5;have pc:∀ {x y:Nat} {l m:Let},ls[x]?=some l->ls[y]?=some m->l.aB=true->m.aE=true->x≠y:=fun h1 h2 h3 h4 e=>by subst e;rw[h1] at h2;have:=qZ h2;rw[this,pI h4] at h3;cases h3
 have nva:va≠pa:=pc vd y8 ca qa;have nvb:vb≠pb:=pc An y9 cb qb;have nvab:va≠pb:=pc vd y9 ca qb;have nvba:vb≠pa:=pc An y8 cb qa
 let PP:=jY (jY (pieces ls) pa mb.aD) pb ma.aD
 have UT:=rV y8;have aln:pa≠pb->(jY (pieces ls) pa mb.aD)[pb]?=some ⟨mb,gV ls pb⟩:=fun aH=>by rw[V9 UT,if_neg aH.symm];exact rV y9
 have alo:∃p,(jY (pieces ls) pa mb.aD)[pb]?=some p:=aL (by rw[Bd,cA];exact(aW.1 y9).1);have OD:PP.length=ls.length:=by show(jY (jY _ _ _) _ _).length=_;rw[Bd,Bd,cA]
 have e1:(ir ls PP a).length=ls.length:=by rw[GP,OD]
 have Cd:(iW ls PP [a,b]).length=ls.length:=by rw[Bh,OD]
 have sD:∀q:Let->Bool,(∀(l:Let) (r:Int),q {l with aD:=r}=q l)->aw q ((iW ls PP [a,b]).map Pc.l)=aw q ls:=fun q hq=>by rw[<- PS (ls:=ls) q];show List.countP _ _=List.countP _ _;rw[Dc,Dc];show(ir ls (ir ls PP a) b).countP _=_;obtain⟨p,hp⟩:=alo;rw[JH e1 hb (VG g hb),JH OD ha (VG g ha),V8 hp (fun p=>hq _ _),V8 UT (fun p=>hq _ _)]
 have PPg:pa≠pb->PP[pa]?=some ⟨{ma with aD:=mb.aD},gV ls pa⟩/\PP[pb]?=some ⟨{mb with aD:=ma.aD},gV ls pb⟩/\ ∀i,i≠pa->i≠pb->PP[i]?=(pieces ls)[i]? :=fun aH=>by
  have k:∀j,PP[j]?=if j=pb then some ⟨{mb with aD:=ma.aD},gV ls pb⟩ else if j=pa then some ⟨{ma with aD:=mb.aD},gV ls pa⟩ else (pieces ls)[j]? :=fun j=>by show(jY (jY _ _ _) _ _)[j]?=_;rw[V9 (aln aH),V9 UT]
  refine⟨by rw[k,if_neg aH,if_pos rfl],by rw[k,if_pos rfl],fun i n1 n2=>by rw[k,if_neg n2,if_neg n1]⟩
 have swg:pa≠pb->(iW ls PP [a,b])[pa]?=PP[va]? /\(iW ls PP [a,b])[va]?=PP[pa]? /\(iW ls PP [a,b])[pb]?=PP[vb]? /\(iW ls PP [a,b])[vb]?=PP[pb]? /\ ∀i,i≠pa->i≠va->i≠pb->i≠vb->(iW ls PP [a,b])[i]?=PP[i]? :=fun aH=>by
  have k:∀i,(iW ls PP [a,b])[i]?=if i=nx ls b then (ir ls PP a)[b]? else if i=b then (ir ls PP a)[nx ls b]? else (ir ls PP a)[i]? :=fun i=>Nd e1 hb i;have k2:∀i,(ir ls PP a)[i]?=if i=nx ls a then PP[a]? else if i=a then PP[nx ls a]? else PP[i]? :=fun i=>Nd OD ha i;have ka:∀i,i≠pa->i≠va->(ir ls PP a)[i]?=PP[i]? :=fun i n1 n2=>by
   rcases ea with ⟨q1,q2⟩|⟨q1,q2⟩
   .rw[k2,if_neg (by rw[<- q2];exact n2),if_neg (by rw[<- q1];exact n1)]
   rw[k2,if_neg (by rw[<- q1];exact n1),if_neg (by rw[<- q2];exact n2)]
  have kb:∀i,i≠pb->i≠vb->(iW ls PP [a,b])[i]?=(ir ls PP a)[i]? :=fun i n1 n2=>by
   rcases eb with ⟨q1,q2⟩|⟨q1,q2⟩
   .rw[k,if_neg (by rw[<- q2];exact n2),if_neg (by rw[<- q1];exact n1)]
   rw[k,if_neg (by rw[<- q1];exact n1),if_neg (by rw[<- q2];exact n2)]
  have ka2:(ir ls PP a)[pa]?=PP[va]? /\(ir ls PP a)[va]?=PP[pa]? :=by
   rcases ea with ⟨q1,q2⟩|⟨q1,q2⟩
   .exact⟨by rw[k2,if_neg (by rw[<- q2];exact nva.symm),if_pos q1,<- q2],by rw[k2,if_pos q2,<- q1]⟩
   exact⟨by rw[k2,if_pos q1,<- q2],by rw[k2,if_neg (by rw[<- q1];exact nva),if_pos q2,<- q1]⟩
  have MC:(iW ls PP [a,b])[pb]?=(ir ls PP a)[vb]? /\(iW ls PP [a,b])[vb]?=(ir ls PP a)[pb]? :=by
   rcases eb with ⟨q1,q2⟩|⟨q1,q2⟩
   .exact⟨by rw[k,if_neg (by rw[<- q2];exact nvb.symm),if_pos q1,<- q2],by rw[k,if_pos q2,<- q1]⟩
   exact⟨by rw[k,if_pos q1,<- q2],by rw[k,if_neg (by rw[<- q1];exact nvb),if_pos q2,<- q1]⟩
  refine⟨by rw[kb _ aH nvba.symm,ka2.1],by rw[kb _ nvab h3,ka2.2],by rw[MC.1,ka _ nvba (Ne.symm h3)],by rw[MC.2,ka _ aH.symm nvab.symm],fun i n1 n2 n3 n4=>by rw[kb i n3 n4,ka i n1 n2]⟩
 rcases cs with ⟨c1,c2,c3,c4,c5,c6⟩|⟨c1,c2,c3,c4,c5,c6⟩
 .refine XP g hw sL d1 d2 d3 d4 rfl two (lp:=ma) (lv:=la) (lw:=lb) (lq:=mb) (by rw[c3];exact y8) (by rw[c4];exact vd) (by rw[c5];exact An) (by rw[c6];exact y9) qa ca cb qb Cd sD fun aH=>?_;rw[c3,c4,c5,c6] at*;obtain⟨g1,g2,g3⟩:=PPg aH;obtain⟨s1,s2,s3,s4,s5⟩:=swg aH;exact⟨by rw[s1,g3 _ nva nvab],by rw[s2,g1],by rw[s4,g2],by rw[s3,g3 _ nvba nvb],fun i n1 n2 n3 n4=>by rw[s5 i n1 n2 n4 n3,g3 i n1 n4]⟩
 refine XP g hw sL d1 d2 d3 d4 rfl two (lp:=mb) (lv:=lb) (lw:=la) (lq:=ma) (by rw[c3];exact y9) (by rw[c4];exact An) (by rw[c5];exact vd) (by rw[c6];exact y8) qb cb ca qa Cd sD fun aH=>?_;rw[c3,c4,c5,c6] at*;obtain⟨g1,g2,g3⟩:=PPg aH.symm;obtain⟨s1,s2,s3,s4,s5⟩:=swg aH.symm;exact⟨by rw[s3,g3 _ nvba nvb],by rw[s4,g2],by rw[s2,g1],by rw[s1,g3 _ nva nvab],fun i n1 n2 n3 n4=>by rw[s5 i n4 n3 n1 n2,g3 i n4 n1]⟩
end
end Go.Abs
