/-
  Entries of a code.
-/
import Derived.Test.YtfgognempokgkaaGreatDoorVe
set_option linter.all false
set_option maxHeartbeats 16000000
namespace Go.Abs
section
variable{F v:Nat}

def Gz(ls:List Let)(x:Nat):Nat:=bR ls (rv x)
section
variable {F:Nat} {ls:List Let}
abbrev E2(ls:List Let):Nat:=ls.length+(aD ls).length
end
structure jL where
 l:Nat
 r:Nat
 b:Bool
structure bt where
 p:Pc
 i:jL
 o:jL
abbrev bt.k(x:bt):Let:=x.p.l
def lS:jL->List bt->jL->Prop
 |s,[],t=>s=t
 |s,x::r,t=>x.i=s/\lS x.o r t
theorem UJ{s t:jL}{a b:List bt}:lS s (a++b) t↔ ∃m,lS s a m/\lS m b t:=by
 induction a generalizing s with
 |nil=>exact⟨fun h=>⟨s,rfl,h⟩,fun⟨m,h1,h2⟩=>by cases h1;exact h2⟩
 |cons x a ih=>show(x.i=s/\lS x.o (a++b) t)↔_;rw[ih];exact⟨fun⟨h,m,h1,h2⟩=>⟨m,⟨h,h1⟩,h2⟩,fun⟨m,⟨h,h1⟩,h2⟩=>⟨h,m,h1,h2⟩⟩
theorem adt{s:jL}{a b:List bt}(h:lS s (a++b) s):∃m,lS m (b++a) m:=by obtain⟨m,h1,h2⟩:=UJ.1 h;exact⟨m,UJ.2 ⟨s,h2,h1⟩⟩
structure X4 (g:Bool) (i o j q:jL):Prop where
 a:if g then i.l=q.l else i.l=j.r
 b:if g then o.r=j.r else o.r=q.l
 c:if g then j.l=i.r else j.l=o.l
 d:if g then q.r=o.l else q.r=i.r
def gX (l:Let):Bool:=l.over==(l.sign==1)
structure Xc (x y:bt):Prop where
 ov:x.k.over= !y.k.over
 sg:x.k.sign=y.k.sign
 x4:X4 (gX x.k) x.i x.o y.i y.o
theorem Xc.symm{x y:bt}(h:Xc x y):Xc y x:=by
 obtain⟨h1,h2,a,b,c,d⟩:=h;have e:gX y.k= !gX x.k:=by unfold gX;rw[h1,h2];cases y.k.over<;>cases (y.k.sign==1)<;>rfl
 refine⟨by rw[h1];simp,h2.symm,?_⟩;rw[e];cases hg:gX x.k
 .rw[hg] at a b c d;simp only[iF,if_false] at a b c d;constructor<;>simp only[Bool.not_false,if_true]
  .exact c
  .exact d
  .exact a
  exact b
 rw[hg] at a b c d;simp only[if_true] at a b c d;constructor<;>simp only[Bp,iF,if_false]
 .exact c
 .exact d
 .exact a
 exact b
def EH(s:jL):jL:=⟨s.r,s.l,s.b⟩
def bt.up(x:bt):jL:=if x.p.d then x.i else EH x.o
def bt.lo(x:bt):jL:=if x.p.d then x.o else EH x.i
structure ze (F:Nat) (x:bt):Prop where
 bad:cV F x.k=false
 cb:x.k.aC=true->x.i.b=x.o.b
 pb:x.k.aG=true->x.o.b=x.p.d/\x.i.b= !x.p.d
def Xr (x y:bt):Prop:=x.k.aC=true->y.k.aC=true->x.k.id=y.k.id->Xc x y
theorem Xr.symm{x y:bt}(h:Xr x y):Xr y x:=fun a b c=>(h b a c.symm).symm
def Dr (x y:bt):Prop:=x.k.aG=true->y.k.aG=true->x.k.gate=y.k.gate->x.k.aO≠y.k.aO
theorem Dr.symm{x y:bt}(h:Dr x y):Dr y x:=fun a b c d=>h b a c.symm d.symm
structure plE (T B:Nat->Nat->Nat) (x:bt):Prop where
 wt:x.up.r=T x.k.gate.toNat (x.k.aO.toNat-1)
 et:x.up.l=T x.k.gate.toNat x.k.aO.toNat
 wb:x.lo.r=B x.k.gate.toNat (x.k.aO.toNat-1)
 eb:x.lo.l=B x.k.gate.toNat x.k.aO.toNat
abbrev bN(z:List bt):List Let:=z.map bt.k
structure Cz (F:Nat) (z:List bt) (T B:Nat->Nat->Nat) (S:List Nat):Prop where
 path:∃s,lS s z s
 ok:∀x∈z,ze F x
 cr:z.Pairwise Xr
 ev:aA Let.aC (bN z)%2=0
 ids:∀x∈z,x.k.aC=true->1<=x.k.id/\x.k.id<=((aA Let.aC (bN z)/2:Nat):Int)
 rk:z.Pairwise Dr
 rr:∀x∈z,x.k.aG=true->1<=x.k.aO/\x.k.aO<=(cg (bN z) x.k.gate.toNat:Int)
 pl:∀x∈z,x.k.aG=true->plE T B x
 gt:∀g,g<F->T g (cg (bN z) g)=T (g+1) 0/\B g (cg (bN z) g)=B (g+1) 0
 gz:T F (cg (bN z) F)=T 0 0/\B F (cg (bN z) F)=B 0 0
 one:∃x∈z,x.k.aG=true
 nd:S.Nodup
 wit:∀s∈S,∃x∈z,s=x.o.l\/s=x.o.r
 num:aA Let.aG (bN z)+aA Let.aC (bN z)/2+1<=S.length
def Cert(F:Nat)(l:List Pc):Prop:= ∃z T B S,z.map bt.p=l/\Cz F z T B S
theorem JO{p:Let->Bool}{z z':List bt}(h:z.Perm z'):aA p (bN z)=aA p (bN z'):=(h.map bt.k).countP_eq p
theorem Cz.perm{z z':List bt}{T B:Nat->Nat->Nat}{S:List Nat}(c:Cz F z T B S)(h:z.Perm z')(hp:∃s,lS s z' s):Cz F z' T B S:=by
 have hm:∀ {x},x∈z'↔x∈z:=fun {x}=>h.symm.mem_iff;have e:∀p,aA p (bN z')=aA p (bN z):=fun p=>(JO h).symm;have eg:∀g,cg (bN z') g=cg (bN z) g:=fun g=>e _;refine⟨hp,fun x hx=>c.ok x (hm.1 hx),(h.pairwise_iff fun {x y}=>Xr.symm).1 c.cr,by rw[e];exact c.ev,fun x hx=>by rw[e];exact c.ids x (hm.1 hx),(h.pairwise_iff fun {x y}=>Dr.symm).1 c.rk,
  fun x hx=>by rw[eg];exact c.rr x (hm.1 hx),fun x hx=>c.pl x (hm.1 hx),fun g hg=>by rw[eg];exact c.gt g hg,by rw[eg];exact c.gz,?_,c.nd,fun s hs=>?_,by rw[e,e];exact c.num⟩
 .obtain⟨x,hx,h1⟩:=c.one;exact⟨x,hm.2 hx,h1⟩
 obtain⟨x,hx,h1⟩:=c.wit s hs;exact⟨x,hm.2 hx,h1⟩
theorem Cz.Gz{a b:List bt}{T B:Nat->Nat->Nat}{S:List Nat}(c:Cz F (a++b) T B S):Cz F (b++a) T B S:=by obtain⟨s,h⟩:=c.path;exact c.perm (List.perm_append_comm) (adt h)
theorem Cert.Gz{a b:List Pc}(c:Cert F (a++b)):Cert F (b++a):=by obtain⟨z,T,B,S,h,c⟩:=c;obtain⟨x,y,rfl,rfl,rfl⟩:=List.map_eq_append_iff.1 h;exact⟨y++x,T,B,S,by rw[uU],c.Gz⟩
theorem adq:∀ {z:List bt} {s t:jL},(∀x∈z,ze F x)->lS s z t->s.b=false->t.b=true->∃x∈z,x.k.aG=true/\x.p.d=true:=by
 intro z
 induction z with
 |nil=>intro s t _ h h1 h2;cases h;rw[h1] at h2;cases h2
 |cons x z ih=>
  intro s t ok h h1 h2;obtain⟨rfl,h⟩:=h;have ox:=ok x af;by_cases hd:x.k.aG=true/\x.p.d=true
  .exact⟨x,af,hd⟩
  have hb:x.o.b=false:=by
   rcases yd ox.bad with hp|hc
   .rw[(ox.pb hp).1];cases Fp:x.p.d
    .rfl
    exact absurd ⟨hp,Fp⟩ hd
   rw[<- ox.cb hc];exact h1
  obtain⟨y,hy,e⟩:=ih (fun x hx=>ok x (by simp[hx])) h hb h2;exact⟨y,by simp[hy],e⟩
theorem Cz.down{z:List bt}{T B:Nat->Nat->Nat}{S:List Nat}(c:Cz F z T B S):∃x∈z,x.k.aG=true/\x.p.d=true:=by
 obtain⟨x,hx,hp⟩:=c.one;cases hd:x.p.d
 .obtain⟨a,b,rfl⟩:=List.append_of_mem hx;have c2:=c.Gz;obtain⟨s,h⟩:=c2.path;obtain⟨rfl,h⟩:=h;obtain⟨e1,e2⟩:=(c.ok x af).pb hp;rw[hd] at e1 e2;obtain⟨y,hy,e⟩:=adq (fun y hy=>c.ok y (by
   rcases fk.1 hy with hy|hy
   .simp[hy]
   simp[hy])) h e1 e2
  refine⟨y,?_,e⟩;rcases fk.1 hy with hy|hy
  .simp[hy]
  simp[hy]
 exact⟨x,hx,hp,hd⟩
theorem Vd{l:List Pc}{f:Nat}(hf:f<=l.length):rl l f l.length=(l.drop f++l.take f).map Pc.l:=by
 apply List.ext_getElem?;intro i;by_cases hi:i<l.length
 .have h1:(rl l f l.length)[i]?=some (l.getD ((f+i)%l.length) ⟨iK,false⟩).l:=by
   simp[rl,hi]
  rw[h1,js];by_cases h2:f+i<l.length
  .rw[Br (by simp;omega),DF,mq h2];simp[h2]
  rw[zG (by simp;omega),Bs];have h3:(f+i)%l.length=i-(l.length-f):=by rw[Nat.mod_eq_sub_mod aa,mq aa];omega
  have h4:i-(l.length-f)<l.length:=aa;rw[h3,lQ,if_pos aa];simp[h4]
 have h1:(rl l f l.length).length=l.length:=by simp[rl]
 rw[uT (by rw[h1];omega),uT (by simp;omega)]
theorem Cert.fin{l:List Pc}(c:Cert F l):∃z T B S x r,z=x::r/\x.k.aG=true/\x.p.d=true/\bN z=pW l/\z.length=l.length/\Cz F z T B S:=by
 obtain⟨z,T,B,S,h,c⟩:=c;subst h;obtain⟨x,hx,hp,hd⟩:=c.down;have hP:∀y:bt,y.k.aG=(y.p.l.kind==1):=fun y=>rfl;obtain⟨j,hj⟩:=iV hx;have pj:=(bn.1 hj).1;have qf:(z.map bt.p)[j]?=some x.p:=by rw[js,hj];rfl
 obtain⟨f,hf⟩:∃f,pX (z.map bt.p)=some f:=by
  cases h:pX (z.map bt.p) with
  |some f=>exact⟨f,rfl⟩
  |none=>have:=DE.1 h j (by simpa using pj);rw[Nw qf] at this;unfold A5 at this;rw[hP] at hp;simp[hp,hd] at this
 have h1:=List.find?_some hf;have h2:f<z.length:=by
  have:=Jn hf
  simpa using this
 obtain⟨y,hy⟩:=bn.2 ⟨h2,rfl⟩ |> fun h=>(⟨_,h⟩:∃y,z[f]?=some y)
 have hyp:(z.map bt.p)[f]?=some y.p:=by rw[js,hy];rfl
 rw[Nw hyp] at h1;unfold A5 at h1;rw[cA] at h1;have hz:z=z.take f++y::z.drop (f+1):=by obtain⟨hl,e⟩:=bn.1 hy;rw[<- e,List.getElem_cons_drop,xR]
 have Ag:z.drop f=y::z.drop (f+1):=by obtain⟨hl,e⟩:=bn.1 hy;rw[<- e,List.getElem_cons_drop]
 refine⟨y::z.drop (f+1)++z.take f,T,B,S,y,z.drop (f+1)++z.take f,rfl,h1.1,h1.2,?_,?_,?_⟩
 .unfold pW;rw[hf,kL,Vd (by rw[cq];omega),<- Ag];simp only[uU,List.map_drop,List.map_take,zH];rfl
 .rw[<- Ag,iW,Bs,jt,cq];omega
 rw[hz] at c;exact c.Gz
theorem YU{ls:List Let}(he:aA Let.aC ls%2=0)(hi:MS ls)(hp:CW ls):km ls=true:=by
 rw[Ke he (DC.2 ⟨hi,hp⟩)];have F4:=Og ls;have hle:∀id∈dO ls ls.length,aA (jr id) ls<=2:=fun id _=>by rw[Ig id];have:=vd hp id true;have:=vd hp id false;omega
 have h1:=V4 (f:=fun id=>aA (jr id) ls) _ hle;have h2:(dO ls ls.length).length<=aA Let.aC ls/2:=by
  have hr:∀id∈dO ls ls.length,1<=id/\id<=((aA Let.aC ls/2:Nat):Int):=fun id hid=>by obtain⟨j,o,hj,hh⟩:=(Ga (bo _)).1 hid;obtain⟨m,hm,mc,mi,_⟩:=wX hh;rw[<- mi];exact hi m (ba hm) mc
  have:=V2 ((dO ls ls.length).map Int.toNat) (List.range' 1 (aA Let.aC ls/2)) ?_ ?_
  .rwa[cq,List.length_range'] at this
  .refine List.pairwise_map.2 (List.Pairwise.imp_of_mem (fun {a b} ha hb h e=>h ?_) (MT ls ls.length));have:=hr a ha;have:=hr b hb;omega
  intro x hx;obtain⟨id,hid,rfl⟩:=iX.1 hx;have:=hr id hid;rw[List.mem_range'_1];omega
 simp only[beq_iff_eq];omega
theorem Nu{s t:jL}{z:List bt}{x:bt}(h:lS s z t)(hx:z[0]?=some x):x.i=s:=by
 cases z with
 |nil=>cases hx
 |cons y z=>cases hx;exact h.1
theorem UL:∀ {z:List bt} {s t:jL} {i:Nat} {x y:bt},lS s z t->z[i]?=some x->z[i+1]?=some y->x.o=y.i:=by
 intro z
 induction z with
 |nil=>intro s t i x y _ hx;cases hx
 |cons a z ih=>
  intro s t i x y h hx hy;cases i with
  |zero=>cases hx;exact(Nu h.2 hy).symm
  |succ i=>exact ih h.2 hx hy
theorem adr:∀ {z:List bt} {s t:jL} {x:bt},lS s z t->z[z.length-1]?=some x->x.o=t:=by
 intro z
 induction z with
 |nil=>intro s t x _ hx;cases hx
 |cons a z ih=>
  intro s t x h hx;cases z with
  |nil=>cases hx;exact h.2
  |cons b z=>exact ih h.2 hx
theorem UK{z:List bt}{s:jL}{j:Nat}{x y:bt}(h:lS s z s)(hx:z[j]?=some x)(hy:z[(j+1)%z.length]?=some y):x.o=y.i:=by
 have hj:=(bn.1 hx).1;by_cases c:j+1<z.length
 .rw[mq c] at hy;exact UL h hx hy
 have:j+1=z.length:=aa;rw[this,Nat.mod_self] at hy;rw[adr h (by rw[<- this];exact hx),Nu h hy]
theorem Gf{z:List bt}{i:Nat}{x:bt}(h:z[i]?=some x):(bN z)[i]?=some x.k:=by rw[js,h];rfl
theorem y7{z:List bt}{i:Nat}{l:Let}(h:(bN z)[i]?=some l):∃x,z[i]?=some x/\x.k=l:=by rw[js,cH] at h;exact h
theorem adp{z:List bt}{s t:jL}(ok:∀x∈z,ze F x)(h:lS s z t)(hs:s.b=false):∀i x,z[i]?=some x->x.i.b= !dn (bN z) i/\x.o.b= !dn (bN z) (i+1):=by
 have step:∀i x,z[i]?=some x->x.i.b=(!dn (bN z) i)->x.o.b= !dn (bN z) (i+1):=fun i x hx hb=>by
  have ox:=ok x (ba hx);rcases yd ox.bad with hp|hc
  .rw[En (Gf hx) hp,Bool.not_not,(ox.pb hp).1];have:=(ox.pb hp).2;rw[hb] at this;revert this;cases dn (bN z) i<;>cases x.p.d<;>simp
  rw[Eo (Gf hx) (by
   cases hp:x.k.aG
   .rfl
   rw[Iv hp] at hc;cases hc),<- hb,ox.cb hc]
 intro i
 induction i with
 |zero=>
  intro x hx;have:x.i.b= !dn (bN z) 0:=by rw[Nu h hx,hs];rfl
  exact⟨this,step 0 x hx this⟩
 |succ i ih=>intro y hy;obtain⟨x,hx⟩:=aL (ls:=z) (k:=i) (by have:=(bn.1 hy).1;omega);have e:=(ih x hx).2;rw[UL h hx hy] at e;exact⟨e,step (i+1) y hy e⟩
theorem UP{ls:List Let}{f:Nat->Nat->Nat}(hf:∀g,g<F->f g (cg ls g)=f (g+1) 0):∀(d g k g' k':Nat),g'=g+d->g'<=F->k<=cg ls g->k'<=cg ls g'->eE ls g+k=eE ls g'+k'->f g k=f g' k':=by
 intro d
 induction d with
 |zero=>intro g k g' k' e _ _ _ h;rw[vP] at e;subst e;rw[show k=k' by omega]
 |succ d ih=>intro g k g' k' e hF hk Ct h;have hm:=wJ (ls:=ls) (show g+1<=g' by omega);have hs:=pY ls g;have:k=cg ls g:=aa;subst this;rw[hf g aa];exact ih (g+1) 0 g' k' aa hF (bc _) Ct aa
theorem ND{ls:List Let}{f:Nat->Nat->Nat}(hf:∀g,g<F->f g (cg ls g)=f (g+1) 0){g k g' k':Nat}(hg:g<=F)(Ak:g'<=F)(hk:k<=cg ls g)(Ct:k'<=cg ls g')(h:eE ls g+k=eE ls g'+k'):f g k=f g' k':=by
 rcases Nat.le_total g g' with c|c
 .exact UP hf (g'-g) g k g' k' aa Ak hk Ct h
 exact(UP hf (g-g') g' k' g k aa hg Ct hk h.symm).symm
def Gl:bt:=⟨⟨iK,false⟩,⟨0,0,false⟩,⟨0,0,false⟩⟩
def pE(z:List bt)(x:Nat):Nat:=
 if x<2*z.length then (if x%2=0 then (z.getD (x/2) Gl).o.l else (z.getD (x/2) Gl).o.r)
 else if x%2=0 then (z.getD ((aD (bN z)).getD ((x-2*z.length)/2) 0) Gl).up.l else (z.getD ((aD (bN z)).getD ((x-2*z.length)/2) 0) Gl).lo.l
theorem Cf{z:List bt}{i:Nat}{x:bt}(h:z[i]?=some x):z.getD i Gl=x:=by rw[cP,h];rfl
section
variable {F:Nat} {z:List bt} {s:jL}
theorem Na(h:lS s z s){x:bt}(hx:z[v]?=some x)(g:Bool):pE z (gn z.length v g)=if g then x.o.l else x.i.r:=by
 have hv:=(bn.1 hx).1;cases g with
 |true=>show pE z (2*v)=_;unfold pE;rw[if_pos aa,if_pos aa,show 2*v/2=v by omega,Cf hx];rfl
 |false=>show pE z (2*((v+z.length-1)%z.length)+1)=_;have hm:=eJ (v+z.length-1) (show 0<z.length by omega);obtain⟨y,hy⟩:=aL (ls:=z) hm;have e:=UK h hy (by rw[y8 hv];exact hx);unfold pE;rw[if_pos aa,if_neg aa,show(2*((v+z.length-1)%z.length)+1)/2=(v+z.length-1)%z.length by omega,Cf hy,e];rfl
theorem acq(h:lS s z s){x:bt}(hx:z[v]?=some x)(g:Bool):pE z (kO z.length v g)=if g then x.i.l else x.o.r:=by
 have hv:=(bn.1 hx).1;cases g with
 |false=>show pE z (2*v+1)=_;unfold pE;rw[if_pos aa,if_neg aa,show(2*v+1)/2=v by omega,Cf hx];rfl
 |true=>show pE z (2*((v+z.length-1)%z.length))=_;have hm:=eJ (v+z.length-1) (show 0<z.length by omega);obtain⟨y,hy⟩:=aL (ls:=z) hm;have e:=UK h hy (by rw[y8 hv];exact hx);unfold pE;rw[if_pos aa,if_pos aa,show(2*((v+z.length-1)%z.length))/2=(v+z.length-1)%z.length by omega,Cf hy,e];rfl
theorem TM{k:Nat}{x:bt}(ha:(aD (bN z)).getD k 0=v)(hx:z[v]?=some x):pE z (2*z.length+2*k)=x.up.l:=by unfold pE;rw[if_neg aa,if_pos aa,show(2*z.length+2*k-2*z.length)/2=k by omega,ha,Cf hx]
theorem TL{k:Nat}{x:bt}(ha:(aD (bN z)).getD k 0=v)(hx:z[v]?=some x):pE z (2*z.length+2*k+1)=x.lo.l:=by unfold pE;rw[if_neg aa,if_neg aa,show(2*z.length+2*k+1-2*z.length)/2=k by omega,ha,Cf hx]
theorem Cz.Nr{T B:Nat->Nat->Nat}{S:List Nat}(c:Cz F z T B S){i j:Nat}{x y:bt}(hx:z[i]?=some x)(hy:z[j]?=some y)(jX:i≠j):Xr x y/\Dr x y:=by
 obtain⟨hi,ex⟩:=bn.1 hx;obtain⟨hj,ey⟩:=bn.1 hy;subst ex ey;rcases Nat.lt_or_gt_of_ne jX with h|h
 .exact⟨Jo.1 c.cr i j hi hj h,Jo.1 c.rk i j hi hj h⟩
 exact⟨(Jo.1 c.cr j i hj hi h).symm,(Jo.1 c.rk j i hj hi h).symm⟩
theorem Cz.gA{T B:Nat->Nat->Nat}{S:List Nat}(c:Cz F z T B S){x:bt}(hx:x∈z)(hp:x.k.aG=true):nV F (bN z) x.k:=by obtain⟨⟨⟨⟨g0,g1⟩,_⟩,_⟩,_⟩:=(vz hp).1 (c.ok x hx).bad;obtain⟨r0,r1⟩:=c.rr x hx hp;exact⟨g0,g1,r0,r1⟩
theorem Cz.dg{T B:Nat->Nat->Nat}{S:List Nat}(c:Cz F z T B S)(hl:z.length<=1000000):gU F (bN z):=by
 refine⟨by rw[cq];exact hl,⟨fun l hl hp=>?_,fun i j l m hi hj pl pm e=>?_⟩,YU c.ev (fun l hl hc=>?_) (fun i j l m hi hj cl cm e jX=>?_),fun l hl=>?_⟩
 .obtain⟨x,hx,rfl⟩:=iX.1 hl;exact c.gA hx hp
 .obtain⟨x,hx,rfl⟩:=y7 hi;obtain⟨y,hy,rfl⟩:=y7 hj;refine Decidable.byContradiction fun jX=>?_;obtain⟨h1,h2⟩:=(IH (c.gA (ba hx) pl) (c.gA (ba hy) pm)).1 e;exact(c.Nr hx hy jX).2 pl pm h1 h2
 .obtain⟨x,hx,rfl⟩:=iX.1 hl;exact c.ids x hx hc
 .obtain⟨x,hx,rfl⟩:=y7 hi;obtain⟨y,hy,rfl⟩:=y7 hj;have:=(c.Nr hx hy jX).1 cl cm e;refine⟨?_,this.sg⟩;rw[this.ov];cases y.k.over<;>simp
 obtain⟨x,hx,rfl⟩:=iX.1 hl;exact yd (c.ok x hx).bad
theorem Cz.mw{T B:Nat->Nat->Nat}{S:List Nat}(c:Cz F z T B S):mw F (bN z):=fun l hl hp=>by obtain⟨x,hx,rfl⟩:=iX.1 hl;exact((vz hp).1 (c.ok x hx).bad).1.1.1
theorem Cz.Pb{T B:Nat->Nat->Nat}{S:List Nat}(c:Cz F z T B S)(hl:z.length<=1000000){k u:Nat}{x y:bt}(hu:(aD (bN z))[k]?=some u)(hv:(aD (bN z))[(k+1)%(aD (bN z)).length]?=some v)(hx:z[u]?=some x)(hy:z[v]?=some y):x.up.l=y.up.r/\x.lo.l=y.lo.r:=by
 have ok:=c.dg hl;have hk:=(bn.1 hu).1;obtain⟨l,l1,l2,l3⟩:=zT ok.ax hu;obtain⟨m,m1,m2,m3⟩:=zT ok.ax hv;rw[Gf hx] at l1;cases l1;rw[Gf hy] at m1;cases m1;have gx:=c.gA (ba hx) l2;have gy:=c.gA (ba hy) m2;have px:=c.pl x (ba hx) l2;have py:=c.pl y (ba hy) m2;obtain⟨x1,x2,x3,x4⟩:=gx;obtain⟨y1,y2,y3,y4⟩:=gy;have key:∀f:Nat->Nat->Nat,(∀g,g<F->f g (cg (bN z) g)=f (g+1) 0)->f F (cg (bN z) F)=f 0 0->f x.k.gate.toNat x.k.aO.toNat=f y.k.gate.toNat (y.k.aO.toNat-1):=by
  intro f hf hz;unfold cU at l3 m3;by_cases c1:k+1<(aD (bN z)).length
  .rw[mq c1] at m3;exact ND hf aa aa aa aa aa
  have hT:=zO c.mw;have hs:=pY (bN z) F;have:k+1=(aD (bN z)).length:=aa;rw[this,Nat.mod_self] at m3;rw[ND hf (g:=x.k.gate.toNat) (k:=x.k.aO.toNat) (g':=F) (k':=cg (bN z) F) aa (bo _) aa (bo _) aa,hz];exact ND hf (bc _) aa (bc _) aa (by show 0+0=_;omega)
 exact⟨by rw[px.et,py.wt];exact key T (fun g hg=>(c.gt g hg).1) c.gz.1,by rw[px.eb,py.wb];exact key B (fun g hg=>(c.gt g hg).2) c.gz.2⟩
theorem Cz.walk{T B:Nat->Nat->Nat}{S:List Nat}(c:Cz F z T B S)(hl:z.length<=1000000)(h:lS s z s)(hs:s.b=false){x:Nat}(hx:x<nD (bN z)):pE z (bR (bN z) x)=pE z x:=by
 have ok:=c.dg hl;have hn:(bN z).length=z.length:=cq ..;have hN:nD (bN z)=2*z.length+2*(aD (bN z)).length:=by unfold nD;rw[hn]
 have eS:=adp c.ok h hs;by_cases c1:x<2*z.length
 .obtain⟨v,fw,hv,rfl⟩:∃v fw,v<z.length/\x=kO z.length v fw:=⟨_,_,by
   split
   .exact eJ _ aa
   omega,XD c1⟩
  obtain⟨e,he⟩:=aL (ls:=z) hv;have hle:=Gf he;have oe:=c.ok e (ba he);rw[acq h he];rcases yd oe.bad with hp|hc
  .have hd:dn (bN z) v=e.p.d:=by
    have:=(eS v e he).1;rw[(oe.pb hp).2] at this;revert this;cases e.p.d<;>cases dn (bN z) v<;>simp
   obtain⟨a1,a2⟩:=Pa ok hle hp;have t:=Wg hle hp fw;rw[hn] at t;rw[t,hd];by_cases c2:(e.p.d==fw)=true
   .rw[if_pos c2,TM a2 he];unfold bt.up;have:=eq_of_beq c2;subst this;cases e.p.d<;>rfl
   rw[if_neg c2];have hm:=eJ ((aD (bN z)).idxOf v+(aD (bN z)).length-1) (show 0<(aD (bN z)).length by omega);obtain⟨u,hu⟩:=aL hm;obtain⟨l,u1,u2⟩:=rF.1 (ba hu);obtain⟨y,hy,rfl⟩:=y7 u1;have hv':(aD (bN z))[(aD (bN z)).idxOf v]?=some v:=by obtain⟨q,hq⟩:=aL a1;rw[cP,hq] at a2;rw[hq];exact congrArg some a2
   have:=(c.Pb hl hu (by rw[y8 a1];exact hv') hy he).2;rw[TL (by rw[cP,hu];rfl) hy,this];unfold bt.lo;revert c2;cases e.p.d<;>cases fw<;>simp[EH]
  obtain⟨b1,m,hm,mc,mi,mo,ms⟩:=Gr ok.cr hle hc;obtain⟨y,hy,rfl⟩:=y7 hm;have aR:v≠fL (bN z) v:=by intro ee;rw[<- ee,hle] at hm;have:=DN hm;rw[<- this] at mo;revert mo;cases e.k.over<;>simp
  obtain⟨_,_,xa,xb,xc,xd⟩:=(c.Nr he hy aR).1 hc mc mi.symm;have t:=GL hle hc fw;rw[hn] at t;rw[t,Na h hy];unfold gX at xa xb;cases hg:(e.k.over==(e.k.sign==1))<;>rw[hg] at xa xb<;>simp only[iF,if_false,if_true] at xa xb<;>cases fw<;>simp_all
 have hk:(x-2*z.length)/2<(aD (bN z)).length:=aa;obtain⟨u,hu⟩:=aL hk;obtain⟨l,u1,u2⟩:=rF.1 (ba hu);obtain⟨e,he,rfl⟩:=y7 u1;have hgu:(aD (bN z)).getD ((x-2*z.length)/2) 0=u:=by rw[cP,hu];rfl
 rcases DM x with uD|uD
 .have ex:x=2*z.length+2*((x-2*z.length)/2):=aa;have hm:=eJ ((x-2*z.length)/2+1) (show 0<(aD (bN z)).length by omega);obtain⟨w,hw⟩:=aL hm;obtain⟨l,w1,w2⟩:=rF.1 (ba hw);obtain⟨y,hy,rfl⟩:=y7 w1;have hgw:(aD (bN z)).getD (((x-2*z.length)/2+1)%(aD (bN z)).length) 0=w:=by rw[cP,hw];rfl
  have oy:=c.ok y (ba hy);have hd:dn (bN z) w=y.p.d:=by have:=(eS w y hy).1;rw[(oy.pb w2).2] at this;revert this;cases y.p.d<;>cases dn (bN z) w<;>simp
  have t:=Wh (ls:=bN z) ((x-2*z.length)/2);rw[hn,<- ex] at t;rw[t,hgw,Na h hy,hd];have a:=(c.Pb hl hu hw he hy).1;have r:=TM hgu he;rw[<- ex] at r;rw[r,a];unfold bt.up;cases y.p.d<;>simp[EH]
 have ex:x=2*z.length+2*((x-2*z.length)/2)+1:=aa;have oy:=c.ok e (ba he);have hd:dn (bN z) u=e.p.d:=by have:=(eS u e he).1;rw[(oy.pb u2).2] at this;revert this;cases e.p.d<;>cases dn (bN z) u<;>simp
 have t:=Wf (ls:=bN z) ((x-2*z.length)/2);rw[hn,<- ex] at t;rw[t,hgu,Na h he,hd];have r:=TL hgu he;rw[<- ex] at r;rw[r];unfold bt.lo;cases e.p.d<;>simp[EH]
end
def sk(ls:List Let)(x:Nat):Nat:=Wv (lN (bR ls) (nD ls)) x
def Dl(ls:List Let)(i:Nat):jL:=⟨sk ls (2*i),sk ls (2*i+1),!dn ls (i+1)⟩
def nT(ls:List Let)(i:Nat):bt:=⟨⟨ls.getD i iK,ko ls i⟩,Dl ls ((i+ls.length-1)%ls.length),Dl ls i⟩
def zF (ls:List Let):List bt:=(List.range ls.length).map (nT ls)
def TF (ls:List Let)(g k:Nat):Nat:=sk ls (2*ls.length+2*((eE ls g+k+(aD ls).length-1)%(aD ls).length))
def BF (ls:List Let)(g k:Nat):Nat:=sk ls (2*ls.length+2*((eE ls g+k+(aD ls).length-1)%(aD ls).length)+1)
theorem WC(ls:List Let):(zF ls).map bt.p=pieces ls:=by unfold zF pieces;rw[zH];rfl
theorem Bn(ls:List Let):bN (zF ls)=ls:=by
 have h:bN (zF ls)=(pieces ls).map Pc.l:=by rw[<- WC,zH];rfl
 rw[h];apply List.ext_getElem?;intro i;rw[js];by_cases hi:i<ls.length
 .obtain⟨l,hl⟩:=aL hi;rw[ss hl,hl];rfl
 rw[uT (by rw[eI];omega),uT aa];rfl
theorem WB{ls:List Let}{i:Nat}(h:i<ls.length):(zF ls)[i]?=some (nT ls i):=by simp[zF,h]
theorem pU{ls:List Let}{i:Nat}{l:Let}(h:ls[i]?=some l):(nT ls i).k=l:=by show ls.getD i iK=l;rw[cP,h];rfl
theorem ads(f:Nat->bt)(e:Nat->jL):∀k a,(∀i,a<=i->i<a+k->(f i).i=e i/\(f i).o=e (i+1))->lS (e a) ((List.range' a k).map f) (e (a+k)):=by
 intro k
 induction k with
 |zero=>intro a _;rfl
 |succ k ih=>intro a h;rw[List.range'_succ,dE];obtain⟨h1,h2⟩:=h a (bo _) aa;refine⟨h1,?_⟩;rw[h2,show a+(k+1)=a+1+k by omega];exact ih (a+1) fun i hi hk=>h i aa aa
theorem UH{R:bt->bt->Prop}{f:Nat->bt}{n:Nat}(h:∀i j,i<n->j<n->i≠j->R (f i) (f j)):((List.range n).map f).Pairwise R:=List.pairwise_map.2 (List.Pairwise.imp_of_mem (fun {a b} ha hb ur=>h a b (iN.1 ha) (iN.1 hb) ur) (List.nodup_range (n:=n)))
section
variable {F:Nat} {ls:List Let}
theorem Ny(g:cS F ls){i x:Nat}{w:List Nat}(hi:(lN (bR ls) (nD ls))[i]?=some w)(hx:x∈w):sk ls x=i:=ag7 (Ji _ _).1 hi hx
theorem adz(g:cS F ls){x:Nat}(hx:x<nD ls):∃w,(lN (bR ls) (nD ls))[sk ls x]?=some w/\x∈w:=by obtain⟨u,hu,hxu⟩:=List.mem_flatten.1 ((Ji (bR ls) (nD ls)).2 x hx);obtain⟨i,hi⟩:=iV hu;rw[Ny g hi hxu];exact⟨u,hi,hxu⟩
theorem zn(g:cS F ls){x:Nat}(hx:x<nD ls):sk ls (bR ls x)=sk ls x:=by obtain⟨w,hw,hxw⟩:=adz g hx;exact Ny g hw (Wr (maps g.ok) (ba hw) hxw)
theorem Nx(g:cS F ls)(hv:v<ls.length)(fw:Bool):sk ls (kO ls.length v fw)=if fw then (nT ls v).i.l else (nT ls v).o.r:=by cases fw<;>rfl
theorem IG(fw:Bool):sk ls (gn ls.length v fw)=if fw then (nT ls v).o.l else (nT ls v).i.r:=by cases fw<;>rfl
theorem Y4(g:cS F ls):dn ls ls.length=true:=by unfold dn;rw[ke];have:=g.even;simp[this]
theorem Tv(g:cS F ls){i:Nat}(hi:i<ls.length):(nT ls i).i.b= !dn ls i:=by
 show(!dn ls ((i+ls.length-1)%ls.length+1))=_;by_cases h:i=0
 .subst h;rw[kZ,mq aa,show ls.length-1+1=ls.length by omega,Y4 g];rfl
 rw[show i+ls.length-1=(i-1)+ls.length by omega,Bu,mq aa,show i-1+1=i by omega]
theorem BK(hv:v<ls.length)(fw:Bool):kO ls.length v fw<nD ls:=by have:=Jz hv fw;unfold nD;omega
theorem Qu(g:cS F ls){l:Let}(hl:ls[v]?=some l)(hp:l.aG=true):(nT ls v).p.d=dn ls v:=by show ko ls v=_;simp[ko,hl,hp]
theorem Zj(g:cS F ls){i:Nat}(hi:i<ls.length):ze F (nT ls i):=by
 obtain⟨l,hl⟩:=aL hi;have hk:=pU hl;refine⟨by rw[hk];exact g.bad l (ba hl),fun hc=>?_,fun hp=>?_⟩
 .rw[hk] at hc;rw[Tv g hi];show _= !dn ls (i+1);rw[Eo hl (by
   cases hp:l.aG
   .rfl
   rw[Iv hp] at hc;cases hc)]
 rw[hk] at hp;rw[Tv g hi,Qu g hl hp];refine⟨?_,rfl⟩;show(!dn ls (i+1))=_;rw[En hl hp,Bool.not_not]
theorem Zl(g:cS F ls){i j:Nat}(hi:i<ls.length)(hj:j<ls.length)(jX:i≠j):Xr (nT ls i) (nT ls j):=by
 obtain⟨l,hl⟩:=aL hi;obtain⟨m,hm⟩:=aL hj;intro hc mc e;rw[pU hl] at hc e;rw[pU hm] at mc e;obtain⟨_,hp⟩:=g.ids;obtain⟨d1,d2⟩:=hp i j l m hl hm hc mc e jX;obtain⟨b1,w,hw,wc,wi,wo,ws⟩:=Gr g.ok.cr hl hc;have hoj:fL ls i=j:=by refine Classical.byContradiction fun aR=>?_;have d3:=(hp _ _ w m hw hm wc mc (by rw[wi,e]) aR).1;rw[wo] at d3;revert d1 d3;cases l.over<;>cases m.over<;>simp
 refine⟨?_,by rw[pU hl,pU hm];exact d2,?_⟩
 .rw[pU hl,pU hm];revert d1;cases l.over<;>cases m.over<;>simp
 rw[pU hl];have t1:=zn g (BK hi true);have t2:=zn g (BK hi false);have t3:=zn g (BK hj true);have t4:=zn g (BK hj false);rw[GL hl hc,hoj,IG,Nx g hi] at t1 t2;rw[GL hm mc,<- hoj,b1,hoj,IG,Nx g hj] at t3 t4;have hg:(m.over==(m.sign==1))= !gX l:=by unfold gX;rw[<- d2];revert d1;cases l.over<;>cases m.over<;>cases (l.sign==1)<;>simp
 rw[hg] at t3 t4;have Ak:(l.over==(l.sign==1))=gX l:=rfl;rw[Ak] at t1 t2;cases hgx:gX l<;>rw[hgx] at t1 t2 t3 t4<;>simp at t1 t2 t3 t4<;>constructor<;>simp[t1,t2,t3,t4]
theorem Zk(g:cS F ls){l:Let}(hl:ls[v]?=some l)(hp:l.aG=true):plE (TF ls) (BF ls) (nT ls v):=by
 have hv:=(bn.1 hl).1;have ok:=g.ok;have gd:=ok.ax.gA l (ba hl) hp;obtain⟨g0,g1,r0,r1⟩:=gd;obtain⟨a1,a2⟩:=Pa ok hl hp;have Mv:=BO ok.ax hl hp;have hP:eE ls l.gate.toNat+l.aO.toNat=(aD ls).idxOf v+1:=by rw[Mv];unfold cU;omega
 have hPm:eE ls l.gate.toNat+(l.aO.toNat-1)=(aD ls).idxOf v:=aa;have eR:(eE ls l.gate.toNat+l.aO.toNat+(aD ls).length-1)%(aD ls).length=(aD ls).idxOf v:=by rw[hP,show(aD ls).idxOf v+1+(aD ls).length-1=(aD ls).idxOf v+(aD ls).length by omega,Bu,mq a1]
 have hk:=pU hl;have hd:=Qu g hl hp;have nR:∀k,k<(aD ls).length->2*ls.length+2*k<nD ls/\2*ls.length+2*k+1<nD ls:=fun k hk=>by unfold nD;omega
 have hm:=eJ ((aD ls).idxOf v+(aD ls).length-1) (show 0<(aD ls).length by omega);have q1:=zn g (BK hv (dn ls v));have q2:=zn g (BK hv (!dn ls v));have q3:=zn g (nR _ a1).2;have q4:=zn g (nR _ hm).1;rw[Wg hl hp,Nx g hv] at q1 q2;rw[Wf,a2,IG] at q3;rw[Wh,y8 a1,a2,IG] at q4;constructor
 .rw[hk];unfold TF;rw[hPm];unfold bt.up;rw[hd];cases eS:dn ls v<;>rw[eS] at q4<;>exact q4
 .rw[hk];unfold TF;rw[eR];unfold bt.up;rw[hd];cases eS:dn ls v<;>rw[eS] at q1<;>exact q1.symm
 .rw[hk];unfold BF;rw[hPm];unfold bt.lo;rw[hd];cases eS:dn ls v<;>rw[eS] at q2<;>exact q2.symm
 rw[hk];unfold BF;rw[eR];unfold bt.lo;rw[hd];cases eS:dn ls v<;>rw[eS] at q3<;>exact q3
theorem cS.cz(g:cS F ls):Cz F (zF ls) (TF ls) (BF ls) (List.range (sj ls)):=by
 have hn:0<ls.length:=nH.2 g.ne;have mem:∀x∈zF ls,∃i,i<ls.length/\x=nT ls i:=fun x hx=>by obtain⟨i,hi,rfl⟩:=iX.1 hx;exact⟨i,iN.1 hi,rfl⟩
 have hT:eE ls (F+1)=(aD ls).length:=zO fun l hl hp=>((vz hp).1 (g.bad l hl)).1.1.1;have hs:=pY ls F;have hm:0<(aD ls).length:=by obtain⟨l,h1,h2⟩:=g.first;exact List.length_pos_of_mem (rF.2 ⟨l,h1,h2⟩)
 have fD:=g.ok.cr;unfold km at fD;simp only[cA,beq_iff_eq] at fD;refine⟨⟨Dl ls (ls.length-1),?_⟩,fun x hx=>?_,UH fun i j hi hj jX=>Zl g hi hj jX,by rw[Bn];exact fD.1.1,fun x hx hc=>?_,UH fun i j hi hj jX=>?_,fun x hx hp=>?_,fun x hx hp=>?_,
  fun k hk=>?_,?_,?_,List.nodup_range,fun s hs=>?_,?_⟩
 .have:=ads (nT ls) (fun i=>Dl ls ((i+ls.length-1)%ls.length)) ls.length 0 fun i _ hi=>⟨rfl,?_⟩
  .simp only[kZ] at this;rw[mq aa,show ls.length+ls.length-1=(ls.length-1)+ls.length by omega,Bu,mq aa,<- List.range_eq_range'] at this;exact this
  show Dl ls i=Dl ls ((i+1+ls.length-1)%ls.length);rw[show i+1+ls.length-1=i+ls.length by omega,Bu,mq aa]
 .obtain⟨i,hi,rfl⟩:=mem x hx;exact Zj g hi
 .obtain⟨i,hi,rfl⟩:=mem x hx;obtain⟨l,hl⟩:=aL hi;rw[pU hl] at hc ⊢;rw[Bn];exact g.ids.1 l (ba hl) hc
 .obtain⟨l,hl⟩:=aL hi;obtain⟨m,hm⟩:=aL hj;intro pl pm e1 e2;rw[pU hl] at pl e1 e2;rw[pU hm] at pm e1 e2;exact jX (g.ok.ax.inj i j l m hl hm pl pm ((IH (g.ok.ax.gA l (ba hl) pl) (g.ok.ax.gA m (ba hm) pm)).2 ⟨e1,e2⟩))
 .obtain⟨i,hi,rfl⟩:=mem x hx;obtain⟨l,hl⟩:=aL hi;rw[pU hl] at hp ⊢;rw[Bn];obtain⟨_,_,r0,r1⟩:=g.ok.ax.gA l (ba hl) hp;exact⟨r0,r1⟩
 .obtain⟨i,hi,rfl⟩:=mem x hx;obtain⟨l,hl⟩:=aL hi;rw[pU hl] at hp;exact Zk g hl hp
 .rw[Bn];unfold TF BF;rw[pY ls k,vP];exact⟨rfl,rfl⟩
 .rw[Bn];unfold TF BF;have e1:eE ls F+cg ls F=(aD ls).length:=aa;have e0:eE ls 0=0:=rfl;rw[e1,e0,kZ,show(aD ls).length+(aD ls).length-1=((aD ls).length-1)+(aD ls).length by omega,Bu];exact⟨rfl,rfl⟩
 .obtain⟨l,h1,h2⟩:=g.first;exact⟨nT ls 0,ba (WB hn),by rw[pU h1];exact h2⟩
 .obtain⟨w,hw⟩:=aL (iN.1 hs);obtain⟨⟨d,t,e,hd⟩,_⟩:=Jh g.ok w (ba hw);have hp:sk ls d=s:=Ny g hw (by rw[e];simp);refine⟨nT ls (d/2),ba (WB aa),?_⟩;rcases DM d with h|h
  .refine .inl ?_;show s=sk ls (2*(d/2));rw[show 2*(d/2)=d by omega,hp]
  refine .inr ?_;show s=sk ls (2*(d/2)+1);rw[show 2*(d/2)+1=d by omega,hp]
 rw[Bn,List.length_range,g.nw];omega
end
structure Cq (F:Nat) (z:List bt) (T B:Nat->Nat->Nat):Prop where
 ok:∀x∈z,ze F x
 cr:z.Pairwise Xr
 ev:aA Let.aC (bN z)%2=0
 ids:∀x∈z,x.k.aC=true->1<=x.k.id/\x.k.id<=((aA Let.aC (bN z)/2:Nat):Int)
 rk:z.Pairwise Dr
 rr:∀x∈z,x.k.aG=true->1<=x.k.aO/\x.k.aO<=(cg (bN z) x.k.gate.toNat:Int)
 pl:∀x∈z,x.k.aG=true->plE T B x
 gt:∀g,g<F->T g (cg (bN z) g)=T (g+1) 0/\B g (cg (bN z) g)=B (g+1) 0
 gz:T F (cg (bN z) F)=T 0 0/\B F (cg (bN z) F)=B 0 0
def jL.mp(ψ:Nat->Nat)(s:jL):jL:=⟨ψ s.l,ψ s.r,s.b⟩
def bt.mp(ψ:Nat->Nat)(h:Let->Let)(x:bt):bt:=⟨⟨h x.p.l,x.p.d⟩,x.i.mp ψ,x.o.mp ψ⟩
theorem X4.mp{g:Bool}{i o j q:jL}(h:X4 g i o j q)(ψ:Nat->Nat):X4 g (i.mp ψ) (o.mp ψ) (j.mp ψ) (q.mp ψ):=by obtain⟨a,b,c,d⟩:=h;cases g<;>simp only[iF,if_false,if_true] at a b c d<;>constructor<;>simp[jL.mp,a,b,c,d]
theorem ZU{S L:List Nat}(hn:S.Nodup):S.length<=(S.filter fun s=> !L.contains s).length+L.length:=by
 have h1:S.length=(S.filter fun s=> !L.contains s).length+(S.filter fun s=>L.contains s).length:=by have:=List.length_eq_countP_add_countP (fun s=> !L.contains s) (l:=S);rw[List.countP_eq_length_filter,List.countP_eq_length_filter] at this;rw[this];congr 2;apply List.filter_congr;intro x _;simp
 have h2:=V2 (S.filter fun s=>L.contains s) L (hn.filter _) fun x hx=>by simpa using (xP.1 hx).2
 omega
structure zN (h:Let->Let):Prop where
 kind:∀l,(h l).kind=l.kind
 over:∀l,(h l).over=l.over
 sign:∀l,(h l).sign=l.sign
theorem zN.aG{h:Let->Let}(s:zN h)(l:Let):(h l).aG=l.aG:=by unfold Let.aG;rw[s.kind]
theorem zN.aC{h:Let->Let}(s:zN h)(l:Let):(h l).aC=l.aC:=by unfold Let.aC;rw[s.kind]
theorem zN.id:zN id:=⟨fun _=>rfl,fun _=>rfl,fun _=>rfl⟩
section
variable {F:Nat} {X r X':List bt} {T B T' B':Nat->Nat->Nat} {S:List Nat} {ψ:Nat->Nat} {h:Let->Let}
theorem Cz.q{z:List bt}(c:Cz F z T B S):Cq F z T B:=⟨c.ok,c.cr,c.ev,c.ids,c.rk,c.rr,c.pl,c.gt,c.gz⟩
theorem Cq.perm{z z':List bt}(c:Cq F z T B)(hh:z.Perm z'):Cq F z' T B:=by
 have hm:∀ {x},x∈z'↔x∈z:=fun {x}=>hh.symm.mem_iff;have e:∀p,aA p (bN z')=aA p (bN z):=fun p=>(JO hh).symm;have eg:∀g,cg (bN z') g=cg (bN z) g:=fun g=>e _;exact⟨fun x hx=>c.ok x (hm.1 hx),(hh.pairwise_iff fun {x y}=>Xr.symm).1 c.cr,by rw[e];exact c.ev,fun x hx=>by rw[e];exact c.ids x (hm.1 hx),(hh.pairwise_iff fun {x y}=>Dr.symm).1 c.rk,
  fun x hx=>by rw[eg];exact c.rr x (hm.1 hx),fun x hx=>c.pl x (hm.1 hx),fun g hg=>by rw[eg];exact c.gt g hg,by rw[eg];exact c.gz⟩
theorem ze.mp{x:bt}(o:ze F x)(s:zN h)(hb:cV F (h x.k)=false):ze F (x.mp ψ h):=by
 refine⟨hb,fun hc=>?_,fun hp=>?_⟩
 .exact o.cb (by rw[<- s.aC];exact hc)
 exact o.pb (by rw[<- s.aG];exact hp)
theorem Cq.done{l:List Pc}{z':List bt}{L N:List Nat}{V:Nat}(q:Cq F (X'++r.map (bt.mp ψ h)) T' B')(jq:S.Nodup)(wit:∀s∈S,∃x∈X++r,s=x.o.l\/s=x.o.r)
  (MH:z'.Perm (X'++r.map (bt.mp ψ h))) (abq:∃s,lS s z' s) (hl:z'.map bt.p=l) (one:∃x∈X'++r.map (bt.mp ψ h),x.k.aG=true)
  (hψ:∀s∈S,s∉L->ψ s=s) (hX:∀x∈X,∀s∈S,(s=x.o.l\/s=x.o.r)->s∉L->∃y∈X'++r.map (bt.mp ψ h),s=y.o.l\/s=y.o.r)
  (hN:N.Nodup) (hNS:∀s∈N,s∉S) (hNw:∀s∈N,∃y∈X'++r.map (bt.mp ψ h),s=y.o.l\/s=y.o.r)
  (hS:V<=S.length) (num:aA Let.aG (bN (X'++r.map (bt.mp ψ h)))+aA Let.aC (bN (X'++r.map (bt.mp ψ h)))/2+1+L.length<=V+N.length):Cert F l:=by
 have qz:=q.perm MH.symm;have hm:∀ {x},x∈z'↔x∈X'++r.map (bt.mp ψ h):=fun {x}=>MH.mem_iff;refine⟨z',T',B',N++S.filter (fun s=> !L.contains s),hl,⟨abq,qz.ok,qz.cr,qz.ev,qz.ids,qz.rk,qz.rr,qz.pl,qz.gt,qz.gz,?_,?_,fun s hs=>?_,?_⟩⟩
 .obtain⟨x,hx,e⟩:=one;exact⟨x,hm.2 hx,e⟩
 .refine List.nodup_append.2 ⟨hN,jq.filter _,fun a ha b hb e=>?_⟩;subst e;exact hNS a ha (xP.1 hb).1
 .have key:∃y∈X'++r.map (bt.mp ψ h),s=y.o.l\/s=y.o.r:=by
   rcases fk.1 hs with hs|hs
   .exact hNw s hs
   obtain⟨h1,h2⟩:=xP.1 hs;have h2:s∉L:=by simpa using h2
   obtain⟨x,hx,e⟩:=wit s h1;rcases fk.1 hx with hx|hx
   .exact hX x hx s h1 e h2
   refine⟨x.mp ψ h,List.mem_append_right _ (iX.2 ⟨x,hx,rfl⟩),?_⟩;have hp:=hψ s h1 h2;rcases e with e|e
   .left;show s=ψ x.o.l;rw[<- e,hp]
   right;show s=ψ x.o.r;rw[<- e,hp]
  obtain⟨y,hy,e⟩:=key;exact⟨y,hm.2 hy,e⟩
 have e:∀p,aA p (bN z')=aA p (bN (X'++r.map (bt.mp ψ h))):=fun p=>JO MH;rw[e,e,iW];have:=ZU (L:=L) jq;omega
end
section
variable {F:Nat} {ls:List Let}
end
section
variable {F:Nat} {ls:List Let}
end
section
variable {F:Nat} {ls:List Let}
end
section
variable {F:Nat} {ls:List Let}
theorem YQ(g:cS F ls){pl:Nat}{edges:List Nat}{e0:Nat}(he0:e0<ls.length)(h:pS F ls pl edges e0=true):∃w,w∈lN (bR ls) (nD ls)/\(lW F ls w).places.length=pl/\((w.filter fun x=>decide (x<2*ls.length)).length=edges.length)/\ ∀e∈edges,∃d,d∈w/\d<2*ls.length/\d/2=e:=by
 have key:∀f∈cX F ls,yj f pl edges=true->∃w,w∈lN (bR ls) (nD ls)/\(lW F ls w).places.length=pl/\((w.filter fun x=>decide (x<2*ls.length)).length=edges.length)/\ ∀e∈edges,∃d,d∈w/\d<2*ls.length/\d/2=e:=by intro f hf hc;obtain⟨w,hw,rfl⟩:=iX.1 hf;unfold yj at hc;simp only[cA,beq_iff_eq,im] at hc;obtain⟨h1,h2,h3⟩:=hc;rw[B5] at h1;refine⟨w,hw,h2,h1,fun e he=>?_⟩;have h4:=h3 e he;unfold uf at h4;obtain⟨d,hd,qG⟩:=Bq.1 (show 0<((lW F ls w).bX.countP fun d=>d/2==e) by omega);rw[B5] at hd;obtain⟨d1,d2⟩:=xP.1 hd;exact⟨d,d1,by simpa using d2,by simpa using qG⟩
 unfold pS at h;rw[sG] at h;rcases h with h|h
 .exact key _ (RX aa) h
 exact key _ (RX aa) h
theorem agQ{D:List Nat}(h:D.length=2){x y:Nat}(hx:x∈D)(hy:y∈D)(aR:x≠y){z:Nat}(hz:z∈D):z=x\/z=y:=by
 match D,h with
 |[p,q],_=>simp only[dU,vO,or_false] at hx hy hz;omega
theorem Uu{e:Nat}(he:e<ls.length){l:Let}(hl:ls[nx ls e]?=some l)(hc:l.aC=true):bR ls (2*e)=gn ls.length (fL ls (nx ls e)) (gX l):=by
 have:2*e=kO ls.length (nx ls e) true:=by unfold kO nx;rw[if_pos rfl,Io he]
 rw[this,GL hl hc];unfold gX;cases (l.over==(l.sign==1))<;>rfl
theorem Ut{e:Nat}{l:Let}(hl:ls[e]?=some l)(hc:l.aC=true):bR ls (2*e+1)=gn ls.length (fL ls e) (!gX l):=by have:2*e+1=kO ls.length e false:=rfl;rw[this,GL hl hc];unfold gX;cases (l.over==(l.sign==1))<;>rfl
theorem sQ{b:Bool}{x:Nat}(h:gn ls.length v b=x):(b=true/\x=2*v)\/(b=false/\x=2*((v+ls.length-1)%ls.length)+1):=by
 cases b
 .exact .inr ⟨rfl,h.symm⟩
 exact .inl ⟨rfl,h.symm⟩
theorem Hf{e:Nat}(hv:v<ls.length)(h:(v+ls.length-1)%ls.length=e):v=nx ls e:=by unfold nx;rw[<- h,y8 hv]
theorem yq(ok:gU F ls){u:Nat}{l m:Let}(hl:ls[v]?=some l)(hc:l.aC=true)(hm:ls[u]?=some m)(ho:fL ls v=u):gX m= !gX l/\m.aC=true/\m.id=l.id:=by obtain⟨_,w,hw,wc,wi,wo,ws⟩:=Gr ok.cr hl hc;rw[ho,hm] at hw;cases hw;refine⟨?_,wc,wi⟩;unfold gX;rw[wo,ws];cases l.over<;>cases (l.sign==1)<;>rfl
theorem IC(ok:gU F ls){l:Let}(hl:ls[v]?=some l)(hc:l.aC=true):fL ls v<ls.length:=by obtain⟨_,w,hw,_⟩:=Gr ok.cr hl hc;exact(bn.1 hw).1
theorem adm(g:cS F ls){a b:Nat}(ha:a<ls.length)(hb:b<ls.length){lx ly lu lv:Let}(hx:ls[a]?=some lx)(hy:ls[nx ls a]?=some ly)(hu:ls[b]?=some lu)(hv:ls[nx ls b]?=some lv)
  (cx:lx.aC=true) (cy:ly.aC=true) (cu:lu.aC=true) (cv:lv.aC=true) (ql:lx.id≠ly.id) (huv:lu.id≠lv.id) (ur:a≠b) (h:pS F ls 0 [a,b] a=true):gX lx= !gX ly:=by
 have ok:=g.ok;obtain⟨w,hw,_,hlen,hE⟩:=YQ g ha h;obtain⟨da,da1,da2,da3⟩:=hE a af;obtain⟨db,db1,db2,db3⟩:=hE b af;have aR:da≠db:=aa;have inD:∀d,d∈w->d<2*ls.length->d∈w.filter fun x=>decide (x<2*ls.length):=fun d h1 h2=>xP.2 ⟨h1,by simpa using h2⟩;have two:∀d,d∈w->d<2*ls.length->d=da\/d=db:=fun d h1 h2=>agQ hlen (inD da da1 da2) (inD db db1 db2) aR (inD d h1 h2);have nin:∀d,d∈w->bR ls d∈w:=fun d hd=>Wr (maps ok) hw hd;have str:∀(v:Nat) (b:Bool),v<ls.length->gn ls.length v b<2*ls.length:=fun v b hv=>by have:=Jz hv (!b);rw[<- aeP] at this;have:=aeQ this;rwa[aeR] at this
 have oy:=IC ok hy cy;have ox:=IC ok hx cx;have ou:=IC ok hu cu;have ov:=IC ok hv cv
 -- where the walk goes on
 have na:(da=2*a/\bR ls da=gn ls.length (fL ls (nx ls a)) (gX ly))\/(da=2*a+1/\bR ls da=gn ls.length (fL ls a) (!gX lx)):=by
  rcases DM da with c|c
  .have:da=2*a:=aa;exact .inl ⟨this,by rw[this];exact Uu ha hy cy⟩
  have:da=2*a+1:=aa;exact .inr ⟨this,by rw[this];exact Ut hx cx⟩
 have nb:(db=2*b/\bR ls db=gn ls.length (fL ls (nx ls b)) (gX lv))\/(db=2*b+1/\bR ls db=gn ls.length (fL ls b) (!gX lu)):=by
  rcases DM db with c|c
  .have:db=2*b:=aa;exact .inl ⟨this,by rw[this];exact Uu hb hv cv⟩
  have:db=2*b+1:=aa;exact .inr ⟨this,by rw[this];exact Ut hu cu⟩
 have ta:bR ls da=da\/bR ls da=db:=two _ (nin _ da1) (by rcases na with ⟨_,e⟩|⟨_,e⟩<;>rw[e]<;>exact str _ _ (by assumption));have tb:bR ls db=da\/bR ls db=db:=two _ (nin _ db1) (by rcases nb with ⟨_,e⟩|⟨_,e⟩<;>rw[e]<;>exact str _ _ (by assumption));have ta':bR ls da=db:=by
  rcases ta with e|e
  .exfalso;rcases na with ⟨e1,e2⟩|⟨e1,e2⟩
   .rw[e] at e2;rcases sQ e2.symm with ⟨_,e3⟩|⟨_,e3⟩
    .exact ql (yq ok hy cy hx aa).2.2
    omega
   rw[e] at e2;rcases sQ e2.symm with ⟨_,e3⟩|⟨_,e3⟩
   .omega
   exact ql (yq ok hx cx hy (Hf ox aa)).2.2.symm
  exact e
 have tb':bR ls db=da:=by
  rcases tb with e|e
  .exact e
  exfalso;rcases nb with ⟨e1,e2⟩|⟨e1,e2⟩
  .rw[e] at e2;rcases sQ e2.symm with ⟨_,e3⟩|⟨_,e3⟩
   .exact huv (yq ok hv cv hu aa).2.2
   omega
  rw[e] at e2;rcases sQ e2.symm with ⟨_,e3⟩|⟨_,e3⟩
  .omega
  exact huv (yq ok hu cu hv (Hf ou aa)).2.2.symm
 rcases na with ⟨ea,e1⟩|⟨ea,e1⟩<;>rcases nb with ⟨eb,e2⟩|⟨eb,e2⟩<;>rw[ta'] at e1<;>rw[tb'] at e2
 .rcases sQ e1.symm with ⟨g1,e3⟩|⟨g1,e3⟩<;>rcases sQ e2.symm with ⟨g2,e4⟩|⟨g2,e4⟩<;>try omega
  have:=(yq ok hv cv hx aa).1;rw[this,g1,g2]
 .rcases sQ e1.symm with ⟨g1,e3⟩|⟨g1,e3⟩<;>rcases sQ e2.symm with ⟨g2,e4⟩|⟨g2,e4⟩<;>try omega
  have:=(yq ok hu cu hx aa).1;rw[this,g1,g2];rfl
 .rcases sQ e1.symm with ⟨g1,e3⟩|⟨g1,e3⟩<;>rcases sQ e2.symm with ⟨g2,e4⟩|⟨g2,e4⟩<;>try omega
  have:=(yq ok hv cv hy (Hf ov aa)).1;rw[this,g2];revert g1;cases gX lx<;>simp
 rcases sQ e1.symm with ⟨g1,e3⟩|⟨g1,e3⟩<;>rcases sQ e2.symm with ⟨g2,e4⟩|⟨g2,e4⟩<;>try omega
 have:=(yq ok hu cu hy (Hf ou aa)).1;rw[this];revert g1 g2;cases gX lx<;>cases gX lu<;>simp
end
section
variable {F:Nat} {ls:List Let}
end
section
variable {F:Nat} {ls:List Let}
end
section
variable {F:Nat} {ls:List Let}
end
section
variable {F:Nat} {ls:List Let}
end
section
variable {F:Nat} {ls:List Let}
theorem Gn(g:cS F ls){e:Nat}(he:e<ls.length):e≠nx ls e:=by
 have h2:2<=ls.length:=by obtain⟨l,h1,hp⟩:=g.first;have:=g.even;have:0<aA Let.aG ls:=Bq.2 ⟨l,ba h1,hp⟩;have:=oH Let.aG ls;omega
 unfold nx;by_cases c:e+1<ls.length
 .rw[mq c];omega
 rw[show e+1=ls.length by omega,Nat.mod_self];omega
end
end
end Go.Abs
