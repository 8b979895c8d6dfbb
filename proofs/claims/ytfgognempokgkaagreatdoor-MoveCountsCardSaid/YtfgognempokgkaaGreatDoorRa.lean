/-
  The moves that are tried and those that are possible.
-/
import Derived.Test.YtfgognempokgkaaGreatDoorWx
set_option linter.all false
set_option maxRecDepth 100000
set_option maxHeartbeats 16000000
namespace Go.Abs
section
variable{g ty:Nat}
def vu(x y:cG):Bool:=decide (x.b<y.b)||(decide (x.b=y.b)&&decide (x.c<y.c))
def xH(m:cG):Prop:=(0<=m.b/\m.b<=1000000)/\0<=m.c/\m.c<=1000000
theorem Oi:Swo vu:=⟨fun a b h=>by unfold vu at*;simp at*;omega,fun a b c h k=>by unfold vu at*;simp at*;omega⟩
theorem YB(x y:cG)(hx:xH x)(hy:xH y):∃n:Int,aE S 132 [Gj x,Gj y] (ri n)/\(decide (n<0)=vu x y):=by
 obtain⟨⟨x1,x2⟩,x3,x4⟩:=hx;obtain⟨⟨y1,y2⟩,y3,y4⟩:=hy;have w1:IntKind.i64.wrap (x.b-y.b)=x.b-y.b:=nE aa aa;have w2:IntKind.i64.wrap (x.c-y.c)=x.c-y.c:=nE aa aa;cases hb:(x.b==y.b) with
 |true=>
  have e:x.b=y.b:=eq_of_beq hb;refine⟨x.c-y.c,?_,?_⟩
  .refine bd c132 ?_;simp only[go_sem,i132,bne,hb,w2]
  unfold vu;rw[Bool.eq_iff_iff];simp;omega
 |false=>
  have e:¬x.b=y.b:=by simpa using hb
  refine⟨x.b-y.b,?_,?_⟩
  .refine bd c132 ?_;simp only[go_sem,i132,bne,hb,w1]
  unfold vu;rw[Bool.eq_iff_iff];simp;omega
abbrev mP(o:List cG):List (List PV):=o.map cG.ps
theorem T1(o:List cG)(k:Nat)(v:cG):(mP o).set k v.ps=mP (o.set k v):=by simp[List.map_set]
theorem nv(o:List cG):(mP o).length=o.length:=cq _
def Dn(id g ty:Nat)(es:List cG)(blk:aw)(v:V)(ak:aw):Prop:=v=.tup []/\(∃ws:List cG,ak id=(g,some (.arr ty 7 (mP ws)))/\ws.Perm es/\tU vu ws 0 ws.length)/\Kept (· =id) blk ak
abbrev yh:V:=.one (.p (.fn 132 [] []))
theorem abW{al:Al}{blk:aw}{id:Nat}{es:List cG}(o:al.ok id=true)(hl:es.length<=1000000)(hsm:∀m∈es,xH m)(hC:blk id=(g,some (.arr ty 7 (mP es)))):
  ∃v ak,fT S 167 [.one (.hsl id g 7 0 es.length),vi 0,vi es.length,yh] al blk v ak/\Dn id g ty es blk v ak:=by
 have scm:S.shared 132=false:=ah;refine lf c167 (fy rfl) ?_;have w0:IntKind.i64.wrap (0+1)=((0+1:Nat):Int):=ae;simp only[go_sem,i167];refine ck (fun k aj ak=>aj 0=.one (.hsl id g 7 0 es.length)/\aj 1=vi 0/\aj 2=vi es.length/\aj 3=yh/\aj 8=vi ((k+1:Nat):Int)/\ ∃zs:List cG,ak id=(g,some (.arr ty 7 (mP zs)))/\zs.Perm es/\tU vu zs 0 (k+1)/\Kept (· =id) blk ak) 0 es.length (bc _) ?_ ?_
 .simp only[go_sem];exact⟨rfl,es,hC,.refl _,fun p q x y _ h1 h2=>aa,Kept.refl _ _⟩
 rintro k aj aW hk ⟨h0,h1,h2,h3,h6,zs,hZ,hp,hs,bJ⟩
 have kT:=hp.length_eq;by_cases au:k+1<es.length
 .have aF:((k+1:Nat):Int)<(es.length:Int):=aa;obtain⟨x,hx⟩:=aL (ls:=zs) (k:=k+1) aa;have sx:xH x:=hsm x (hp.mem_iff.1 (ba hx));simp only[go_sem,i167_l3,h2,h6,aF];refine ck (fun q aj ak=>aj 0=.one (.hsl id g 7 0 es.length)/\aj 1=vi 0/\aj 2=vi es.length/\aj 3=yh/\aj 8=vi ((k+1:Nat):Int)/\aj 9=vi ((k+1-q:Nat):Int)/\ ∃ws:List cG,ak id=(g,some (.arr ty 7 (mP ws)))/\tS vu zs ws x 0 (k+1) (k+1-q)/\Kept (· =id) blk ak) 0 (k+1) (bc _) ?_ ?_
  .simp only[go_sem,h0,h1,h2,h3,h6];exact⟨zs,hZ,tS.start (bc _) hx hs,bJ⟩
  rintro q bH aN hq ⟨k0,k1,k2,k3,k6,k7,ws,hW,hI,Ar⟩
  have tB:ws.length=es.length:=hI.perm.length_eq.trans kT;have wk:IntKind.i64.wrap (((k+1:Nat):Int)+1)=((k+1+1:Nat):Int):=bj (n:=k+1) aa;by_cases hj0:k+1-q=0
  .have e7:¬((0:Int)<((k+1-q:Nat):Int)):=aa;simp only[go_sem,i167_l1,i167_r2,k0,k1,k2,k3,k6,k7,e7,wk];refine⟨ay,aa,ws,hW,hI.perm.trans hp,hI.stop Oi (.inl hj0),Ar⟩
  obtain⟨j,hj⟩:∃j,k+1-q=j+1:=⟨k-q,aa⟩;have e7:((0:Int)<((j+1:Nat):Int)):=aa;obtain⟨y,hy⟩:=aL (ls:=ws) (k:=j) aa;have sy:xH y:=hsm y ((hI.perm.trans hp).mem_iff.1 (ba hy));rw[hj] at hI k7;have wj:IntKind.i64.wrap (((j+1:Nat):Int)-1)=(j:Int):=by rw[ru aa];omega
  have qk:=Gk hI.at';have qP:=Gk hy;have j1:j+1<es.length:=by have:=hI.le;omega
  have j2:j<es.length:=aa;obtain⟨n,pl,hn⟩:=YB x y sx sy;cases ql:vu x y with
  |false=>
   rw[ql] at hn;have w9:¬(n<0):=by simpa using hn
   simp only[go_sem,i167_l1,i167_r2,k0,k1,k2,k3,k6,k7,e7,wk,wj,hW,qk,qP,cG.ps,j1,j2,o,scm,Hk pl,w9];refine⟨ay,aa,ws,rfl,hI.perm.trans hp,hI.stop Oi (.inr ⟨y,aa,hy,ql⟩),Ar⟩
  |true=>
   rw[ql] at hn;have w9:n<0:=by simpa using hn
   have rV:=hI.step Oi (bc _) hy ql;have hjj:¬(j+1=j):=aa;have l1:j+1<ws.length:=aa;have l2:j<ws.length:=aa;simp only[go_sem,i167_l1,i167_r2,k0,k1,k2,k3,k6,k7,e7,wj,hW,qk,qP,cG.ps,j1,j2,l1,hjj,o,scm,Hk pl,w9,ml,nv];have FZ:k+1-(q+1)=j:=aa;refine⟨ay,ay,aa,by rw[FZ],(ws.set (j+1) y).set j x,by rw[<- T1,<- T1];rfl,by rw[FZ];exact rV,(Ar.ca rfl _).ca rfl _⟩
 have aF:¬(((k+1:Nat):Int)<(es.length:Int)):=aa;simp only[go_sem,i167_l3,h2,h6,aF];exact⟨rfl,⟨zs,hZ,hp,hs.mono (.inl aa)⟩,bJ⟩
theorem ady{al:Al}{blk:aw}{id:Nat}{es:List cG}(o:al.ok id=true)(f1:al.fs.contains 167=true)(hl:es.length<=12)(hsm:∀m∈es,xH m)(hC:blk id=(g,some (.arr ty 7 (mP es))))(lim:Int):
  ∃v ak,fT S 157 [.one (.hsl id g 7 0 es.length),vi 0,vi es.length,vi lim,yh] al blk v ak/\Dn id g ty es blk v ak:=by
 refine lf c157 (fy rfl) ?_;have w0:IntKind.i64.wrap ((es.length:Int)-0)=(es.length:Int):=by rw[Int.sub_zero];exact nE aa aa
 have jO:(es.length:Int)<=12:=aa;simp only[go_sem,i157];refine k8 ?_;simp only[go_sem,i157_l1,w0,jO,s167];refine s0 hC (by rfl) (.inr ⟨o,by rw[show S.sites 167=[167] by kernel_rfl];simp only[tQ,vN,f1,Bo]⟩) (P:=Dn id g ty es blk) (fun ki h1 _=>abW h1 aa hsm hC) fun v ak hP=>?_;obtain⟨rfl,h2⟩:=hP;simp only[go_sem];exact⟨rfl,h2⟩
theorem afS{al:Al}{blk:aw}{id:Nat}{es:List cG}(o:al.ok id=true)(f1:(S.sites 157).all al.fs.contains=true)(hl:es.length<=12)(hsm:∀m∈es,xH m)(hC:blk id=(g,some (.arr ty 7 (mP es)))):
  ∃v ak,fT S 131 [.one (.hsl id g 7 0 es.length),yh] al blk v ak/\Dn id g ty es blk v ak:=by
 obtain⟨k,pb⟩:=JG es.length aa;have wu:IntKind.u64.wrap (es.length:Int)=(es.length:Int):=by
  have e:IntKind.u64.wrap (es.length:Int)=(es.length:Int)%18446744073709551616:=by unfold IntKind.wrap;rfl
  rw[e];omega
 refine lf c131 (fy rfl) ?_;have sbl:S.shared 121=false:=ah;simp only[go_sem,i131,wu,sbl,Mj pb,s157];refine s0 hC (by rfl) (.inr ⟨o,f1⟩) (P:=Dn id g ty es blk) (fun ki h1 h2=>ady h1 (by rw[h2];kernel_rfl) hl hsm hC k) fun v ak hP=>?_;obtain⟨rfl,h2⟩:=hP;simp only[go_sem];exact⟨rfl,h2⟩
def meq(a b:cG):Bool:=(a.k==b.k)&&((a.a==b.a)&&((a.b==b.b)&&((a.c==b.c)&&((a.l==b.l)&&((a.o==b.o)&&(a.s==b.s))))))
theorem Zt(x y:cG):lq [true,true,true,true,false,false,true] [.p (.int .i64 x.k),.p (.int .i64 x.a),.p (.int .i64 x.b),.p (.int .i64 x.c),.p (.bool x.l),.p (.bool x.o),.p (.int .i64 x.s)] [.p (.int .i64 y.k),.p (.int .i64 y.a),.p (.int .i64 y.b),.p (.int .i64 y.c),.p (.bool y.l),.p (.bool y.o),.p (.int .i64 y.s)]=some (meq x y):=by
 have e:∀a b:Int,lV true (.int .i64 a) (.int .i64 b)=some (a==b):=fun a b=>by simp[lV]
 have e2:∀a b:Bool,lV false (.bool a) (.bool b)=some (a==b):=fun a b=>by simp[lV]
 simp only[lq,meq,e,e2];cases (x.k==y.k)<;>cases (x.a==y.a)<;>cases (x.b==y.b)<;>cases (x.c==y.c)<;>cases (x.l==y.l)<;>cases (x.o==y.o)<;>cases (x.s==y.s)<;>rfl
theorem abP(ms:List cG)(x:cG)(hm:ms.length<=1000000):∃i:Int,aE S 156 [.one (.p (.sl (mP ms))),Gj x] (ri i):=by
 have:∃r,isN r/\aE S 156 [.one (.p (.sl (mP ms))),Gj x] r:=by
  refine xZ rfl c156 (fy rfl) ?_;simp only[go_sem,i156];refine ck (fun k aj blk=>aj 0=.one (.p (.sl (mP ms)))/\aj 3=.one (.aZ 9984000000 1 0)/\blk 9984000000=(1,some (.var [.p (.int .i64 x.k),.p (.int .i64 x.a),.p (.int .i64 x.b),.p (.int .i64 x.c),.p (.bool x.l),.p (.bool x.o),.p (.int .i64 x.s)]))/\aj 7=vi ms.length/\aj 8=vi k) 0 ms.length (bc _) ?_ ?_
  .simp only[go_sem];first|done|rfl|exact⟨rfl,rfl⟩|exact⟨rfl,rfl,rfl⟩
  rintro k aj blk hk ⟨h0,h3,hB,h7,h8⟩
  by_cases au:k<ms.length
  .have aF:((k:Int)<(ms.length:Int)):=aa;obtain⟨m,mB⟩:=aL au;have Cv:=Gk mB;have w1:=bj (n:=k) aa;have he:=Zt x m;cases hb:meq x m with
   |true=>rw[hb] at he;simp only[go_sem,i156_l1,h0,h3,hB,h7,h8,aF,Cv,cG.ps,he];exact⟨ay,_,⟨_,rfl⟩,rfl⟩
   |false=>rw[hb] at he;simp only[go_sem,i156_l1,h0,h3,hB,h7,h8,au,aF,Cv,cG.ps,w1,he];exact ay
  have:k=ms.length:=aa;subst this;simp only[go_sem,i156_l1,i156_r2,h7,h8,dT];exact⟨_,⟨_,rfl⟩,rfl⟩
 obtain⟨_,⟨i,rfl⟩,h⟩:=this;exact⟨i,h⟩
theorem PL(ms:List cG)(x:cG)(hm:ms.length<=1000000):∃b,aE S 130 [.one (.p (.sl (mP ms))),Gj x] (rb b):=by obtain⟨i,pi⟩:=abP ms x hm;refine⟨decide (0<=i),?_⟩;refine bd c130 ?_;simp only[go_sem,i130,s156,dR pi]
theorem I0{S:List Bool}{x:Nat}(h:sn S x=false):x<S.length:=by
 rcases Nat.lt_or_ge x S.length with h1|h1
 .exact h1
 rw[sn,cP,uT h1] at h;cases h
theorem Wp(next:Nat->Nat):∀(k x:Nat) (S:List Bool),(∀y∈(ei next k x S).1,sn S y=false)/\(ei next k x S).1.Nodup/\ ∀y,sn (ei next k x S).2 y=(sn S y||decide (y∈(ei next k x S).1)):=by
 intro k
 induction k with
 |zero=>intro x S;simp[ei]
 |succ k ih=>
  intro x S;unfold ei;cases hx:S.getD x true with
  |true=>simp
  |false=>
   have hl:=I0 (S:=S) (x:=x) hx;obtain⟨h1,h2,h3⟩:=ih (next x) (S.set x true);simp only[iF,if_false];have iT:∀y,sn (S.set x true) y=if y=x then true else sn S y:=fun y=>GG hl;refine⟨fun y hy=>?_,?_,fun y=>?_⟩
   .rcases dU.1 hy with rfl|hy
    .exact hx
    have:=h1 y hy;rw[iT] at this;split at this
    .cases this
    exact this
   .refine DK.2 ⟨fun hm=>?_,h2⟩;have:=h1 x hm;rw[iT,if_pos rfl] at this;cases this
   rw[h3,iT];by_cases e:y=x
   .subst e;simp
   rw[if_neg e];have:decide (y∈x::(ei next k (next x) (S.set x true)).1)=decide (y∈(ei next k (next x) (S.set x true)).1):=by simp[e]
   rw[this]
theorem ag2(next:Nat->Nat)(N:Nat):∀k,(cR next N k).1.flatten.Nodup/\(∀y,y<N->sn (cR next N k).2 y=decide (y∈(cR next N k).1.flatten))/\(∀y∈(cR next N k).1.flatten,y<N)/\ ∀x,x<k->x<N->sn (cR next N k).2 x=true:=by
 intro k
 induction k with
 |zero=>refine⟨by simp[cR],fun y hy=>?_,by simp[cR],fun x hx=>absurd hx (rC x)⟩;have:(cR next N 0).2=List.replicate N false:=rfl;rw[this,N4 hy];simp[cR]
 |succ k ih=>
  obtain⟨h1,h2,h4,h3⟩:=ih;rw[uR];unfold rq;have hlen:=Bh next N k;cases hk:(cR next N k).2.getD k true with
  |true=>
   rw[if_pos rfl];refine⟨h1,h2,h4,fun x hx vp=>?_⟩;rcases kK.1 hx with h|rfl
   .exact h3 x h vp
   exact hk
  |false=>
   rw[if_neg ae];have hkN:k<N:=by have:=I0 (S:=(cR next N k).2) hk;omega
   obtain⟨g1,g2,g3⟩:=Wp next ((cR next N k).2.length+1) k (cR next N k).2;have Mt:=Wo next ((cR next N k).2.length+1) k (cR next N k).2 (by have:=Dy (cR next N k).2;omega);refine⟨?_,fun y hy=>?_,?_,fun x hx vp=>?_⟩
   .rw[zE,List.nodup_append];refine⟨h1,by simpa using g2,fun y hy z hz=>?_⟩;rintro rfl
    have e1:=g1 y (by simpa using hz);have hyN:=h4 y hy;rw[h2 y hyN] at e1;simp[hy] at e1
   .rw[g3,h2 y hy,zE,Bool.eq_iff_iff];simp
   .intro y hy;rw[zE,fk] at hy;rcases hy with hy|hy
    .exact h4 y hy
    have:=I0 (g1 y (by simpa using hy));omega
   rcases kK.1 hx with h|rfl
   .rw[g3,h3 x h vp];rfl
   exact Mt
theorem Ji(next:Nat->Nat)(N:Nat):(lN next N).flatten.Nodup/\ ∀y,y<N->y∈(lN next N).flatten:=by obtain⟨h1,h2,_,h3⟩:=ag2 next N N;refine⟨h1,fun y hy=>?_⟩;have:=h3 y hy hy;rw[h2 y hy] at this;exact of_decide_eq_true this
theorem Uh{L:List (List Nat)}(h:L.flatten.Nodup){i j:Nat}{a b:List Nat}{x:Nat}(hi:L[i]?=some a)(hj:L[j]?=some b)(ha:x∈a)(hb:x∈b):i=j:=by
 induction L generalizing i j with
 |nil=>simp at hi
 |cons l L ih=>
  rw[kb,List.nodup_append] at h;obtain⟨_,h2,h3⟩:=h;cases i with
  |zero=>
   simp at hi;subst hi;cases j with
   |zero=>rfl
   |succ j=>simp at hj;exact absurd rfl (h3 x ha x (List.mem_flatten.2 ⟨b,ba hj,hb⟩))
  |succ i=>
   simp at hi;cases j with
   |zero=>simp at hj;subst hj;exact absurd rfl (h3 x hb x (List.mem_flatten.2 ⟨a,ba hi,ha⟩))
   |succ j=>simp at hj;rw[ih h2 hi hj]
section
variable {F:Nat} {ls:List Let}
theorem R5{j:Nat}{f:Fc}(h:(cX F ls)[j]?=some f):∃w,(lN (bR ls) (nD ls))[j]?=some w/\f=lW F ls w:=by
 unfold cX at h;rw[js] at h;cases hw:(lN (bR ls) (nD ls))[j]? with
 |none=>rw[hw] at h;cases h
 |some w=>rw[hw] at h;cases h;exact⟨w,rfl,rfl⟩
theorem YX{i j:Nat}{a b:Fc}{d:Nat}(hi:(cX F ls)[i]?=some a)(hj:(cX F ls)[j]?=some b)(ha:d∈a.bX)(hb:d∈b.bX):i=j:=by obtain⟨v,hv,rfl⟩:=R5 hi;obtain⟨w,hw,rfl⟩:=R5 hj;rw[B5] at ha hb;exact Uh (Ji _ _).1 hv hw (xP.1 ha).1 (xP.1 hb).1
theorem YY{d:Nat}(hd:d<2*ls.length):∃(j:Nat) (f:Fc),(cX F ls)[j]?=some f/\d∈f.bX:=by
 have:=(Ji (bR ls) (nD ls)).2 d (by unfold nD;omega);obtain⟨w,hw,hdw⟩:=List.mem_flatten.1 this;obtain⟨j,hj⟩:=iV hw;have iR:(cX F ls)[j]?=some (lW F ls w):=by unfold cX;rw[js,hj];rfl
 refine⟨j,lW F ls w,iR,?_⟩;rw[B5];exact xP.2 ⟨hdw,by simpa using hd⟩
theorem Vm{ds:List Nat}{v:Nat}{d:Nat}:∀ {L:List Nat},d<L.length->(kX L ds v)[d]?=if d∈ds then some v else L[d]? :=by
 induction ds with
 |nil=>intro L _;simp[kX]
 |cons e ds ih=>
  intro L hd;show(kX (L.set e v) ds v)[d]?=_;rw[ih (by simpa using hd),ml];by_cases h1:d∈ds
  .simp[h1]
  by_cases h2:e=d
  .subst h2;simp[hd]
  have:d≠e:=fun h=>h2 h.symm;simp[h1,h2,this]
theorem acu{d:Nat}:∀ {fs:List Fc} {j:Nat} {L:List Nat},d<L.length->(∀f∈fs,d∉f.bX)->(me fs j L)[d]?=L[d]? :=by
 intro fs
 induction fs with
 |nil=>intro j L _ _;rfl
 |cons f fs ih=>intro j L hd h;show(me fs (j+1) (kX L f.bX j))[d]?=_;rw[ih (by rw[GA];exact hd) fun g hg=>h g (by simp[hg]),Vm hd,if_neg (h f af)]
theorem acs{d:Nat}:∀ {fs:List Fc} {j i:Nat} {L:List Nat} {f:Fc},d<L.length->fs[i]?=some f->d∈f.bX->(∀i' f',fs[i']?=some f'->d∈f'.bX->i'=i)->(me fs j L)[d]?=some (j+i):=by
 intro fs
 induction fs with
 |nil=>intro j i L f _ h;simp at h
 |cons g fs ih=>
  intro j i L f hd hi hf hu;show(me fs (j+1) (kX L g.bX j))[d]?=_;cases i with
  |zero=>
   simp at hi;subst hi;rw[acu (by rw[GA];exact hd),Vm hd,if_pos hf]
   .rfl
   intro f' hf' Fp;obtain⟨i',ux⟩:=iV hf';have:=hu (i'+1) f' (by simpa using ux) Fp;omega
  |succ i=>simp at hi;rw[ih (by rw[GA];exact hd) hi hf fun i' f' h1 h2=>by have:=hu (i'+1) f' (by simpa using h1) h2;omega];congr 1;omega
theorem left_at{d j:Nat}{f:Fc}(hd:d<2*ls.length)(hf:(cX F ls)[j]?=some f)(hm:d∈f.bX):(fQ F ls)[d]?=some j:=by unfold fQ;rw[acs (by simpa using hd) hf hm fun i' f' h1 h2=>YX h1 hf h2 hm];congr 1;omega
theorem RW{d:Nat}(hd:d<2*ls.length):∃j,(cX F ls)[j]?=some (jW F ls d)/\d∈(jW F ls d).bX/\(fQ F ls)[d]?=some j:=by
 obtain⟨j,f,hf,hm⟩:=YY (F:=F) hd;have hl:=left_at hd hf hm;have e:jW F ls d=f:=by unfold jW;rw[cP (l:=fQ F ls),hl,kL,cP,hf,kL]
 exact⟨j,e▸hf,e▸hm,hl⟩
theorem RX{d:Nat}(hd:d<2*ls.length):jW F ls d∈cX F ls:=by obtain⟨j,h1,_⟩:=RW (F:=F) hd;exact ba h1
end
abbrev fF:Nat:=29
abbrev edT:Nat:=3
def Gp(k:Int)(av:Nat)(m:cG):Prop:=m.k=k/\m.a=(av:Int)/\m.l=false/\m.o=false/\m.s=0/\xH m
theorem lI2{l:List Int}(h:l.length=2):∃a b,l=[a,b]:=by
 match l,h with
 |[a,b],_=>exact⟨a,b,rfl⟩
theorem lI3{l:List Int}(h:l.length=3):∃a b c,l=[a,b,c]:=by
 match l,h with
 |[a,b,c],_=>exact⟨a,b,c,rfl⟩
def CR(blk:aw)(v:V)(ak:aw):Prop:=v=.tup []/\ak=blk
theorem EO{Q:dF}{al:Al}{aj:Env}{blk:aw}{os:List aI}{d:Option Nat}{f:Nat}{vs:List V}{P:V->aw->Prop}(mF:(vs.map (jG blk)).flatten=[])(hh:al=.all\/(S.sites f).all al.fs.contains=true)
  (h:∀ki,ki.fs=S.sites f->∃v ak,fT S f vs ki blk v ak/\P v ak) (hK:∀v ak,P v ak->RN S al os Q (put aj d v) ak):gP S al (.sc f vs) d os Q aj blk:=by
 refine rQ (P:=P) ?_ (h _ rfl) hK;rcases hh with rfl|h2
 .rfl
 refine holds_of ?_ h2;show al.fi (vs.map (jG blk)).flatten=true;rw[mF];rfl
theorem abV{al:Al}{blk:aw}:∃v ak,fT S 167 [.one (.p .nils),vi 0,vi 0,yh] al blk v ak/\CR blk v ak:=by refine lf c167 (fy rfl) ?_;have w0:IntKind.i64.wrap 1=1:=ae;have hz:¬((1:Int)<0):=ae;simp only[go_sem,i167];refine k8 ?_;simp only[go_sem,i167_l3,w0,hz];first|done|exact⟨rfl,rfl⟩|trace_state
theorem adx{al:Al}{blk:aw}(f1:al.fs.contains 167=true)(lim:Int):∃v ak,fT S 157 [.one (.p .nils),vi 0,vi 0,vi lim,yh] al blk v ak/\CR blk v ak:=by refine lf c157 (fy rfl) ?_;have w0:IntKind.i64.wrap (0-0)=0:=ae;have jO:((0:Int)<=12):=ae;simp only[go_sem,i157];refine k8 ?_;simp only[go_sem,i157_l1,w0,jO,s167];refine EO (by rfl) (.inr (by rw[show S.sites 167=[167] by kernel_rfl];simp only[tQ,vN,f1,Bo])) (P:=CR blk) (fun ki _=>abV) fun v ak hP=>?_;obtain⟨rfl,h2⟩:=hP;simp only[go_sem];exact⟨rfl,h2⟩
theorem afR{al:Al}{blk:aw}(f1:(S.sites 157).all al.fs.contains=true):∃v ak,fT S 131 [.one (.p .nils),yh] al blk v ak/\CR blk v ak:=by obtain⟨k,pb⟩:=JG 0 aa;have wu:IntKind.u64.wrap ((0:Nat):Int)=((0:Nat):Int):=ae;refine lf c131 (fy rfl) ?_;have sbl:S.shared 121=false:=ah;simp only[go_sem,i131,wu,sbl,Mj pb,s157];refine EO (by rfl) (.inr f1) (P:=CR blk) (fun ki h2=>adx (by rw[h2];kernel_rfl) k) fun v ak hP=>?_;obtain⟨rfl,h2⟩:=hP;simp only[go_sem];exact⟨rfl,h2⟩
theorem YR{F:Nat}{ls:List Let}(g:cS F ls)(kk:Int){av:Nat}(ha:av<ls.length):∃ms:List cG,(ms.length<=2/\ ∀m∈ms,Gp kk av m)/\aE S 111 [.one (.p (cE F ls)),vi kk,vi av] (.one (bg fF 7 (mP ms))):=by
 have hlen:=g.len;have hN:nD ls<=1600:=by have:=pQ ls ls.length;unfold nD;have:(aD ls).length<=ls.length:=pQ ls ls.length;omega
 suffices h:∃r,(∃ms:List cG,(ms.length<=2/\ ∀m∈ms,Gp kk av m)/\r=.one (bg fF 7 (mP ms)))/\aE S 111 [.one (.p (cE F ls)),vi kk,vi av] r by obtain⟨r,⟨ms,h1,rfl⟩,h2⟩:=h;exact⟨ms,h1,h2⟩
 refine xZ rfl c111 (fy rfl) ?_;simp only[go_sem,i111];refine ck (fun k aj blk=>aj 0=.one (.p (cE F ls))/\aj 1=vi kk/\aj 2=vi av/\aj 14=vi k/\ ∃ms c,ms.length<=k/\(∀m∈ms,Gp kk av m)/\aj 7=.one c/\grown 7105280192 fF 7 (mP ms) (.one c) blk) 0 2 (bc _) ?_ ?_
 .simp only[go_sem];exact⟨rfl,[],.p .nils,bo _,fun m h=>(by cases h),rfl,grown.nil⟩
 rintro k aj blk hk ⟨h0,h1,h2,jP,ms,c,lD,aq,h7,gm⟩
 by_cases au:k<2
 .have aF:((k:Int)<2):=aa;obtain⟨j,Ao,iR,ve⟩:=EE g (d:=2*av+k) aa;have Ay:=ba iR;have qf:=fv Ao;have rZ:=EF iR;have m2:=mj (a:=av) aa;have m3:=wrap_add (a:=2*av) (b:=k) aa;have w1:=bj (n:=k) aa;have Cl:2*av+k<(fQ F ls).length:=by rw[A1];omega
  have hdd:=L6 Ay;have aaK:=L7 g.ok Ay;obtain⟨_,_,hdm,_⟩:=RW (F:=F) (ls:=ls) (d:=2*av+k) aa;generalize FA:jW F ls (2*av+k)=f at*;simp only[go_sem,i111_l4,h0,h2,jP,aF,m2,m3,qf,rZ,Fc.ps];refine⟨ay,?_⟩;obtain⟨g9,hg9⟩:∃g9,(blk 7104321024).fst+1=g9:=⟨_,rfl⟩;rw[hg9]
  refine ck (fun q bH aN=>bH 0=.one (.p (cE F ls))/\bH 1=vi kk/\bH 2=vi av/\bH 14=vi k/\bH 7=.one c/\grown 7105280192 fF 7 (mP ms) (.one c) aN/\bH 9=.one (.aZ 7104321024 g9 0)/\aN 7104321024=(g9,some (.var (f.ps.map .p)))/\bH 34=.one (.p (.sl (nP f.bX)))/\bH 35=vi f.bX.length/\bH 36=vi q/\(0<q->f.bX.length<=3)/\ ∃zs ce,zs.length=q/\(∀z∈zs,0<=z/\z<=1000000)/\bH 10=.one ce/\grown 7104704256 edT 1 (iP zs) (.one ce) aN) 0 f.bX.length (bc _) ?_ ?_
  .have gm':grown 7105280192 fF 7 (mP ms) (.one c) (ca (ca blk 7104321024 (g9,some (Ob.var [C.p (PV.bool false),C.p PV.nils,C.p PV.nils,C.p PV.nils,C.p (PV.bool false)]))) 7104321024 (g9,some (Ob.var (f.ps.map .p)))):=gm.of_eq ((aJ ae).trans (aJ ae));simp only[go_sem,h0,h1,h2,h7,jP,Fc.ps] at gm' ⊢;refine⟨gm',rfl,fun h=>h.elim,[],.p .nils,rfl,fun z h=>(by cases h),rfl,grown.nil⟩
  rintro q bH aN hq ⟨p0,p1,p2,qX,p7,uj,p9,b9,zi,Gs,Gt,h3,zs,ce,kT,hzb,xx,gz⟩
  simp only[Fc.ps,dE,jj] at b9;by_cases yS:q<f.bX.length
  .have MI:((q:Int)<(f.bX.length:Int)):=aa;obtain⟨d,hd⟩:=aL yS;have nY:=fv hd;have hdb:=hdd d (ba hd);have wq:=wrap_small (n:=d/2) aa;have w2:=bj (n:=q) aa;by_cases c1:d/2<av
   .have c1':(((d/2:Nat):Int)<(av:Int)):=aa;simp only[go_sem,i111_l1,i111_r3,p0,p1,p2,qX,p7,p9,xx,zi,Gs,Gt,b9,yS,MI,nY,dw,eo,wq,c1',w1,au];exact⟨ms,c,aa,aq,rfl,uj⟩
   have c1':¬(((d/2:Nat):Int)<(av:Int)):=aa;by_cases c2:3<f.bX.length
   .have c2':((3:Int)<(f.bX.length:Int)):=aa;simp only[go_sem,i111_l1,i111_r3,p0,p1,p2,qX,p7,p9,xx,zi,Gs,Gt,b9,yS,MI,nY,dw,eo,wq,c1',c2',w1,au];exact⟨ms,c,aa,aq,rfl,uj⟩
   have c2':¬((3:Int)<(f.bX.length:Int)):=aa;simp only[go_sem,i111_l1,p2,p9,xx,zi,Gs,Gt,b9,MI,nY,dw,eo,wq,c1',c2'];refine nU (xs:=[[.int .i64 ((d/2:Nat):Int)]]) (gz.of_eq (aJ ae)) (by simp only[eK,aP,if_true];rfl) (.inl rfl) (by simp only[sb,dN,fj];omega) fun c2 iG gz2 hb=>?_;have q9:=hb 7104321024 ae ae;have qa:=uj.of_eq ((hb 7105280192 ae ae).trans (aJ ae));simp only[go_sem,b9] at q9;simp only[go_sem,p0,p1,p2,qX,p7,p9,zi,Gs,Gt,q9,w2,Fc.ps];refine⟨yS,qa,fun _=>aa,zs++[((d/2:Nat):Int)],c2,by simp;omega,fun z hz=>?_,rfl,?_⟩
   .rcases fk.1 hz with h|h
    .exact hzb z h
    have:=sK.1 h;omega
   rw[show iP (zs++[((d/2:Nat):Int)])=iP zs++[[.int .i64 ((d/2:Nat):Int)]] by simp[iP]];exact gz2
  have:q=f.bX.length:=aa;subst this;have aaM:0<f.bX.length:=List.length_pos_of_mem hdm;have oY:=h3 aaM;rcases gz with ⟨e,_⟩|⟨_,gg,e,bz⟩
  .have hz0:(iP zs).length=0:=by rw[e];rfl
   rw[sb] at hz0;omega
  cases e;have sS:S.shared 93=true:=ah;simp only[go_sem,i111_l1,i111_r2,xx,Gs,Gt,dT,sS,sb];refine s0 bz (by rfl) (.inl rfl) (P:=zw pG 7104704256 gg edT zs aN) (fun ki h1 h2=>Oc h1 (by rw[h2];kernel_rfl) aa bz) fun v iG hP=>?_;obtain⟨rfl,⟨ws,bw,pw,sw⟩,kw⟩:=hP;have qa:=uj.of_eq (kw 7105280192 ae);have tB:=pw.length_eq;have hwb:∀z∈ws,0<=z/\z<=1000000:=fun z hz=>hzb z (pw.mem_iff.1 hz);rw[kT] at tB;clear sw pw hzb b9 bz;clear h3 yS hdd aaK Ay hdm hq;generalize f.bX.length=n at*;have s120:S.shared 130=false:=ah;have uO:(((2:Nat):Int)==2)=true:=ae;have q12:(((1:Nat):Int)==2)=false:=ae;have q32:(((3:Nat):Int)==2)=false:=ae;have q13:(((1:Nat):Int)==3)=false:=ae;have mM:(((2:Nat):Int)==3)=false:=ae
  have q33:(((3:Nat):Int)==3)=true:=ae;rcases(by omega:n=1\/n=2\/n=3) with rfl|rfl|rfl
  .simp only[go_sem,i111_r3,p0,p1,p2,qX,p7,xx,kT,q12,q13,w1,au];exact⟨ms,c,aa,aq,rfl,qa.of_eq ((aJ ae).trans (aJ ae))⟩
  .obtain⟨y0,y1,rfl⟩:=lI2 tB;by_cases h8:kk=8
   .have e8:(kk !=8)=false:=by rw[h8];rfl
    simp only[go_sem,i111_r3,p0,p1,p2,qX,p7,xx,kT,uO,mM,e8,w1,au];exact⟨ms,c,aa,aq,rfl,qa.of_eq ((aJ ae).trans (aJ ae))⟩
   have e8:(kk !=8)=true:=by simpa using h8
   simp only[go_sem,i111_r3,p1,p2,p7,xx,kT,uO,e8,bw];obtain⟨bb,pcv⟩:=PL ms ⟨kk,av,y1,0,false,false,0⟩ aa;have Nv:aE S 130 [.one (.p (.sl (mP ms))),.agg [.p (.int .i64 kk),.p (.int .i64 av),.p (.int .i64 y1),.p (.int .i64 0),.p (.bool false),.p (.bool false),.p (.int .i64 0)]] (rb bb):=pcv;obtain⟨r,snB,hr⟩:=qa.N6;simp only[go_sem,s120,snB,bY Nv];cases bb with
   |true=>simp only[go_sem,p0,p1,p2,qX,p7,w1,au];exact⟨ms,c,aa,aq,rfl,qa.of_eq (by simp only[aP,Nat.reduceEqDiff,if_false])⟩
   |false=>
    simp only[go_sem,p7];refine nU (xs:=[cG.ps ⟨kk,av,y1,0,false,false,0⟩]) (qa.of_eq (by simp only[aP,Nat.reduceEqDiff,if_false])) (by simp only[eK,aP,if_true];rfl) (.inl rfl) (by simp only[nv,dN,fj];omega) fun c2 nN qb jC=>?_;simp only[go_sem,p0,p1,p2,qX,w1,au];refine⟨ms++[⟨kk,av,y1,0,false,false,0⟩],c2,by simp;omega,fun m hm=>?_,rfl,by rw[show mP (ms++[⟨kk,av,y1,0,false,false,0⟩])=mP ms++[cG.ps ⟨kk,av,y1,0,false,false,0⟩] by simp[mP]];exact qb⟩;rcases fk.1 hm with h|h
    .exact aq m h
    have:=sK.1 h;subst this;exact⟨rfl,rfl,rfl,rfl,rfl,hwb y1 af,af⟩
  obtain⟨y0,y1,y2,rfl⟩:=lI3 tB;by_cases h8:kk=8
  .have e8:(kk==8)=true:=by rw[h8];rfl
   simp only[go_sem,i111_r3,p1,p2,p7,xx,kT,q32,q33,e8,bw];obtain⟨bb,pcv⟩:=PL ms ⟨kk,av,y1,y2,false,false,0⟩ aa;have Nv:aE S 130 [.one (.p (.sl (mP ms))),.agg [.p (.int .i64 kk),.p (.int .i64 av),.p (.int .i64 y1),.p (.int .i64 y2),.p (.bool false),.p (.bool false),.p (.int .i64 0)]] (rb bb):=pcv;obtain⟨r,snB,hr⟩:=qa.N6;refine⟨ay,?_⟩;simp only[go_sem,s120,snB,bY Nv];cases bb with
   |true=>simp only[go_sem,p0,p1,p2,qX,p7,w1,au];exact⟨ms,c,aa,aq,rfl,qa.of_eq (by simp only[aP,Nat.reduceEqDiff,if_false])⟩
   |false=>
    simp only[go_sem,p7];refine nU (xs:=[cG.ps ⟨kk,av,y1,y2,false,false,0⟩]) (qa.of_eq (by simp only[aP,Nat.reduceEqDiff,if_false])) (by simp only[eK,aP,if_true];rfl) (.inl rfl) (by simp only[nv,dN,fj];omega) fun c2 nN qb jC=>?_;simp only[go_sem,p0,p1,p2,qX,w1,au];refine⟨ms++[⟨kk,av,y1,y2,false,false,0⟩],c2,by simp;omega,fun m hm=>?_,rfl,by rw[show mP (ms++[⟨kk,av,y1,y2,false,false,0⟩])=mP ms++[cG.ps ⟨kk,av,y1,y2,false,false,0⟩] by simp[mP]];exact qb⟩;rcases fk.1 hm with h|h
    .exact aq m h
    have:=sK.1 h;subst this;exact⟨rfl,rfl,rfl,rfl,rfl,hwb y1 af,hwb y2 af⟩
  have e8:(kk==8)=false:=by simpa using h8
  simp only[go_sem,i111_r3,p0,p1,p2,qX,p7,xx,kT,q32,q33,e8,w1,au];exact⟨ms,c,aa,aq,rfl,qa.of_eq ((aJ ae).trans (aJ ae))⟩
 have:k=2:=aa;subst this;have n0:¬(((2:Nat):Int)<2):=ae;have sS:S.shared 131=true:=ah;simp only[go_sem,i111_l4,i111_r5,h7,jP,n0,sS];rcases gm with ⟨e,e2⟩|⟨aR,gg,e2,bm⟩
 .cases e2;have:ms=[]:=by simpa [mP] using e
  subst this;refine EO (by rfl) (.inl rfl) (P:=CR blk) (fun ki h2=>afR (by rw[h2];kernel_rfl)) fun v iG hP=>?_;obtain⟨rfl,rfl⟩:=hP;simp only[go_sem,h7];exact⟨_,⟨[],⟨af,fun m h=>by cases h⟩,rfl⟩,rfl⟩
 cases e2;rw[nv] at h7 ⊢;refine s0 bm (by rfl) (.inl rfl) (P:=Dn 7105280192 gg fF ms blk) (fun ki h1 h2=>afS h1 (by rw[h2];kernel_rfl) aa (fun m hm=>(aq m hm).2.2.2.2.2) bm) fun v iG hP=>?_;obtain⟨rfl,⟨ws,bw,pw,sw⟩,kw⟩:=hP;simp only[go_sem,h7];have tB:=pw.length_eq;refine⟨_,⟨ws,⟨aa,fun m hm=>aq m (pw.mem_iff.1 hm)⟩,rfl⟩,?_⟩;rw[<- tB,<- nv ws];refine tc (.inr ⟨fun e=>aR ?_,gg,rfl,bw⟩);have h0:(mP ws).length=0:=by rw[e];rfl
 rw[nv,tB] at h0;rw[List.length_eq_zero_iff.1 h0];rfl
def xw(k:Int)(n:Nat)(m:cG):Prop:= ∃a,a<n/\Gp k a m
theorem Nk{k:Int}{n a:Nat}{ms ns:List cG}(h:∀m∈ms,xw k n m)(h2:∀m∈ns,Gp k a m)(ha:a<n):∀m∈ms++ns,xw k n m:=fun m hm=>(fk.1 hm).elim (h m) fun h3=>⟨a,ha,h2 m h3⟩
section
variable {F:Nat} {ls:List Let}
theorem Yj(g:cS F ls)(aR:0<ls.length){kk:Int}(d2:(kk==2)=false)(d5:(kk==5)=false)(d7:(kk==7)=false)(d3:(kk==3)=false)(d6:(kk==6)=false)(d8:(kk==8)=false):∃ms:List cG,(ms.length<=2*ls.length/\ ∀m∈ms,xw kk ls.length m)/\aE S 75 [.one (.p (cE F ls)),vi kk] (.one (bg fF 7 (mP ms))):=by
 have hlen:=g.len;have bq:(aX (pieces ls)).length=ls.length:=by rw[aX,cq,eI]
 have eX:(((ls.length:Nat):Int)==0)=false:=by rw[beq_eq_false_iff_ne];omega
 suffices h:∃r,(∃ms:List cG,(ms.length<=2*ls.length/\ ∀m∈ms,xw kk ls.length m)/\r=.one (bg fF 7 (mP ms)))/\aE S 75 [.one (.p (cE F ls)),vi kk] r by obtain⟨r,⟨ms,h1,rfl⟩,h2⟩:=h;exact⟨ms,h1,h2⟩
 refine xZ rfl c75 (fy rfl) ?_;simp only[go_sem,i75,i75_r12,bq,eX];refine ck (fun k aj blk=>aj 0=.one (.p (cE F ls))/\aj 1=vi kk/\aj 41=vi ls.length/\aj 42=vi k/\ ∃ms c,ms.length<=2*k/\(∀m∈ms,xw kk ls.length m)/\aj 5=.one c/\grown 4800768320 fF 7 (mP ms) (.one c) blk) 0 ls.length (bc _) ?_ ?_
 .simp only[go_sem];exact⟨rfl,[],.p .nils,af,fun m h=>(by cases h),rfl,grown.nil⟩
 rintro k aj blk hk ⟨h0,h1,ky,jc,ms,c,lD,aq,h5,gm⟩
 by_cases au:k<ls.length
 .have aF:((k:Int)<(ls.length:Int)):=aa;have w1:=bj (n:=k) aa;simp only[go_sem,i75_l10,i75_r9,h1,ky,jc,h5,aF,d2,d5,d7,d3,d6,d8];refine nU (xs:=[cG.ps ⟨kk,k,0,0,false,false,0⟩]) (gm.of_eq (by simp only[aP,Nat.reduceEqDiff,if_false])) (by simp only[eK,aP,if_true];rfl) (.inl rfl) (by simp only[nv,dN,fj];omega) fun c2 nN qb jC=>?_;simp only[go_sem,h0,h1,ky,jc,w1,au];refine⟨ms++[⟨kk,k,0,0,false,false,0⟩],c2,by simp;omega,fun m hm=>?_,rfl,by rw[show mP (ms++[⟨kk,k,0,0,false,false,0⟩])=mP ms++[cG.ps ⟨kk,k,0,0,false,false,0⟩] by simp[mP]];exact qb⟩;rcases fk.1 hm with h|h
  .exact aq m h
  have:=sK.1 h;subst this;exact⟨k,au,rfl,rfl,rfl,rfl,rfl,by simp[xH]⟩
 have:k=ls.length:=aa;subst this;simp only[go_sem,i75_l10,i75_r11,ky,jc,h5,dT];exact⟨_,⟨ms,⟨lD,aq⟩,rfl⟩,tc gm⟩
theorem Yi(g:cS F ls)(aR:0<ls.length){kk:Int}(qJ:kk=3\/kk=6\/kk=8):∃ms:List cG,(ms.length<=2*ls.length/\ ∀m∈ms,xw kk ls.length m)/\aE S 75 [.one (.p (cE F ls)),vi kk] (.one (bg fF 7 (mP ms))):=by
 have hlen:=g.len;have lo:S.lone 4802944256=false:=ah;have bq:(aX (pieces ls)).length=ls.length:=by rw[aX,cq,eI]
 have eX:(((ls.length:Nat):Int)==0)=false:=by rw[beq_eq_false_iff_ne];omega
 suffices h:∃r,(∃ms:List cG,(ms.length<=2*ls.length/\ ∀m∈ms,xw kk ls.length m)/\r=.one (bg fF 7 (mP ms)))/\aE S 75 [.one (.p (cE F ls)),vi kk] r by obtain⟨r,⟨ms,h1,rfl⟩,h2⟩:=h;exact⟨ms,h1,h2⟩
 have d2:(kk==2)=false:=by rw[beq_eq_false_iff_ne];omega
 have d5:(kk==5)=false:=by rw[beq_eq_false_iff_ne];omega
 have d7:(kk==7)=false:=by rw[beq_eq_false_iff_ne];omega
 refine xZ rfl c75 (fy rfl) ?_;simp only[go_sem,i75,i75_r12,bq,eX];refine ck (fun k aj blk=>aj 0=.one (.p (cE F ls))/\aj 1=vi kk/\aj 41=vi ls.length/\aj 42=vi k/\ ∃ms c,ms.length<=2*k/\(∀m∈ms,xw kk ls.length m)/\aj 5=.one c/\grown 4802944320 fF 7 (mP ms) (.one c) blk) 0 ls.length (bc _) ?_ ?_
 .simp only[go_sem];exact⟨rfl,[],.p .nils,af,fun m h=>(by cases h),rfl,grown.nil⟩
 rintro k aj blk hk ⟨h0,h1,ky,jc,ms,c,lD,aq,h5,gm⟩
 by_cases au:k<ls.length
 .have aF:((k:Int)<(ls.length:Int)):=aa;have w1:=bj (n:=k) aa;obtain⟨ns,⟨hns,FP⟩,pc⟩:=YR g kk au;cases d3:(kk==3) with
  |true=>simp only[go_sem,i75_l10,i75_r9,h0,h1,ky,jc,h5,aF,d2,d5,d7,d3,s111];refine jz pc lo (.inl rfl) fun cc aW gl aQ=>?_;have rR:=gm.of_eq (aQ 4802944320 ae);obtain⟨r,hx,hr⟩:=gl.elems;simp only[go_sem];refine nU (xs:=mP ns) rR hx gl.fR (by simp only[nv];omega) fun c2 nN qb jC=>?_;simp only[go_sem,h0,h1,ky,jc,w1,au];exact⟨ms++ns,c2,by simp;omega,Nk aq FP au,rfl,by rw[show mP (ms++ns)=mP ms++mP ns by simp[mP]];exact qb⟩
  |false=>
   cases d6:(kk==6) with
   |true=>simp only[go_sem,i75_l10,i75_r9,h0,h1,ky,jc,h5,aF,d2,d5,d7,d3,d6,s111];refine jz pc lo (.inl rfl) fun cc aW gl aQ=>?_;have rR:=gm.of_eq (aQ 4802944320 ae);obtain⟨r,hx,hr⟩:=gl.elems;simp only[go_sem];refine nU (xs:=mP ns) rR hx gl.fR (by simp only[nv];omega) fun c2 nN qb jC=>?_;simp only[go_sem,h0,h1,ky,jc,w1,au];exact⟨ms++ns,c2,by simp;omega,Nk aq FP au,rfl,by rw[show mP (ms++ns)=mP ms++mP ns by simp[mP]];exact qb⟩
   |false=>
    have d8:(kk==8)=true:=by
     rcases qJ with rfl|rfl|rfl
     .cases d3
     .cases d6
     rfl
    simp only[go_sem,i75_l10,i75_r9,h0,h1,ky,jc,h5,aF,d2,d5,d7,d3,d6,d8,s111];refine jz pc lo (.inl rfl) fun cc aW gl aQ=>?_;have rR:=gm.of_eq (aQ 4802944320 ae);obtain⟨r,hx,hr⟩:=gl.elems;simp only[go_sem];refine nU (xs:=mP ns) rR hx gl.fR (by simp only[nv];omega) fun c2 nN qb jC=>?_;simp only[go_sem,h0,h1,ky,jc,w1,au];exact⟨ms++ns,c2,by simp;omega,Nk aq FP au,rfl,by rw[show mP (ms++ns)=mP ms++mP ns by simp[mP]];exact qb⟩
 have:k=ls.length:=aa;subst this;simp only[go_sem,i75_l10,i75_r11,ky,jc,h5,dT];exact⟨_,⟨ms,⟨lD,aq⟩,rfl⟩,tc gm⟩
end
section
variable {F:Nat} {ls:List Let}
theorem Yk(g:cS F ls)(aR:0<ls.length):∃ms:List cG,(ms.length<=4*ls.length/\ ∀m∈ms,m.k=5)/\aE S 75 [.one (.p (cE F ls)),vi 5] (.one (bg fF 7 (mP ms))):=by
 have hlen:=g.len;have bq:(aX (pieces ls)).length=ls.length:=by rw[aX,cq,eI]
 have eX:(((ls.length:Nat):Int)==0)=false:=by rw[beq_eq_false_iff_ne];omega
 have d2:((5:Int)==2)=false:=ae;have d5:((5:Int)==5)=true:=ae;have oT:¬((2:Int)=0):=ae
 suffices h:∃r,(∃ms:List cG,(ms.length<=4*ls.length/\ ∀m∈ms,m.k=5)/\r=.one (bg fF 7 (mP ms)))/\aE S 75 [.one (.p (cE F ls)),vi 5] r by obtain⟨r,⟨ms,h1,rfl⟩,h2⟩:=h;exact⟨ms,h1,h2⟩
 refine xZ rfl c75 (fy rfl) ?_;simp only[go_sem,i75,i75_r12,bq,eX];refine ck (fun k aj blk=>aj 0=.one (.p (cE F ls))/\aj 1=vi 5/\aj 41=vi ls.length/\aj 42=vi k/\ ∃ms c,ms.length<=4*k/\(∀m∈ms,m.k=5)/\aj 5=.one c/\grown 4801920704 fF 7 (mP ms) (.one c) blk) 0 ls.length (bc _) ?_ ?_
 .simp only[go_sem];exact⟨rfl,[],.p .nils,af,fun m h=>(by cases h),rfl,grown.nil⟩
 rintro k aj blk hk ⟨h0,h1,ky,jc,ms,c,lD,aq,h5,gm⟩
 by_cases au:k<ls.length
 .have aF:((k:Int)<(ls.length:Int)):=aa;have w1:=bj (n:=k) aa;simp only[go_sem,i75_l10,i75_r9,h1,ky,jc,aF,d2,d5];refine ck (fun i aB ak=>aB 0=.one (.p (cE F ls))/\aB 1=vi 5/\aB 8=vi k/\aB 41=vi ls.length/\aB 42=vi k/\aB 99=vi i/\ ∃ms c,ms.length<=4*k+i/\(∀m∈ms,m.k=5)/\aB 5=.one c/\grown 4801920704 fF 7 (mP ms) (.one c) ak) 0 4 (bc _) ?_ ?_
  .refine⟨?_,?_,?_,?_,?_,?_,ms,c,aa,aq,?_,gm⟩<;>(simp only[go_sem,h0,h1,ky,jc,h5];first|done|rfl)
  rintro i aB ak hi ⟨q0,q1,q8,vD,vE,q99,ms,c,lD,aq,q5,gm⟩
  by_cases kQ:i<4
  .have Cr:((i:Int)<4):=aa;have w2:=bj (n:=i) aa;simp only[go_sem,i75_l5,q1,q8,q99,q5,Cr,oT];refine nU (xs:=[cG.ps ⟨5,k,0,0,false,decide ((1:Int)<(i:Int)),IntKind.i64.wrap (IntKind.i64.wrap (2*((i:Int).tmod 2))-1)⟩]) (gm.of_eq (by simp only[aP,Nat.reduceEqDiff,if_false])) (by simp only[eK,aP,if_true];rfl) (.inl rfl) (by simp only[nv,dN,fj];omega) fun c2 nN qb jC=>?_;simp only[go_sem,q0,q1,q8,vD,vE,q99,w2,kQ];refine⟨ms++[⟨5,k,0,0,false,decide ((1:Int)<(i:Int)),IntKind.i64.wrap (IntKind.i64.wrap (2*((i:Int).tmod 2))-1)⟩],c2,by simp;omega,fun m hm=>?_,rfl,by rw[mP,uU];exact qb⟩;rcases fk.1 hm with h|h
   .exact aq m h
   rw[sK.1 h]
  have:i=4:=aa;subst this;have h4:¬(((4:Nat):Int)<4):=ae;simp only[go_sem,i75_l5,q0,q1,vD,vE,q99,q5,h4,w1,au];exact⟨ms,c,aa,aq,rfl,gm⟩
 have:k=ls.length:=aa;subst this;simp only[go_sem,i75_l10,i75_r11,ky,jc,h5,dT];exact⟨_,⟨ms,⟨lD,aq⟩,rfl⟩,tc gm⟩
theorem Ym(g:cS F ls)(aR:0<ls.length):∃ms:List cG,(ms.length<=4*(ls.length*ls.length)/\ ∀m∈ms,m.k=7)/\aE S 75 [.one (.p (cE F ls)),vi 7] (.one (bg fF 7 (mP ms))):=by
 have hlen:=g.len;have bq:(aX (pieces ls)).length=ls.length:=by rw[aX,cq,eI]
 have eX:(((ls.length:Nat):Int)==0)=false:=by rw[beq_eq_false_iff_ne];omega
 have d2:((7:Int)==2)=false:=ae;have d5:((7:Int)==5)=false:=ae;have d7:((7:Int)==7)=true:=ae;have oT:¬((2:Int)=0):=ae;have h04:((0:Int)<4):=ae
 suffices h:∃r,(∃ms:List cG,(ms.length<=4*(ls.length*ls.length)/\ ∀m∈ms,m.k=7)/\r=.one (bg fF 7 (mP ms)))/\aE S 75 [.one (.p (cE F ls)),vi 7] r by obtain⟨r,⟨ms,h1,rfl⟩,h2⟩:=h;exact⟨ms,h1,h2⟩
 refine xZ rfl c75 (fy rfl) ?_;simp only[go_sem,i75,i75_r12,bq,eX];refine ck (fun k aj blk=>aj 0=.one (.p (cE F ls))/\aj 1=vi 7/\aj 6=vi ls.length/\aj 41=vi ls.length/\aj 42=vi k/\ ∃ms c,ms.length<=4*(ls.length*k)/\(∀m∈ms,m.k=7)/\aj 5=.one c/\grown 4802560704 fF 7 (mP ms) (.one c) blk) 0 ls.length (bc _) ?_ ?_
 .simp only[go_sem];exact⟨rfl,[],.p .nils,af,fun m h=>(by cases h),rfl,grown.nil⟩
 rintro k aj blk hk ⟨h0,h1,h6,ky,jc,ms,c,lD,aq,h5,gm⟩
 by_cases au:k<ls.length
 .have aF:((k:Int)<(ls.length:Int)):=aa;have w1:=bj (n:=k) aa;have hb:ls.length*k<=400*400:=Nat.mul_le_mul hlen aa;simp only[go_sem,i75_l10,i75_r9,h1,h6,ky,jc,aF,d2,d5,d7];refine ck (fun j aB ak=>aB 0=.one (.p (cE F ls))/\aB 1=vi 7/\aB 6=vi ls.length/\aB 8=vi k/\aB 41=vi ls.length/\aB 42=vi k/\aB 117=vi ls.length/\aB 118=vi j/\ ∃ms c,ms.length<=4*(ls.length*k+j)/\(∀m∈ms,m.k=7)/\aB 5=.one c/\grown 4802560704 fF 7 (mP ms) (.one c) ak) 0 ls.length (bc _) ?_ ?_
  .refine⟨?_,?_,?_,?_,?_,?_,?_,?_,ms,c,aa,aq,?_,gm⟩<;>(simp only[go_sem,h0,h1,h6,ky,jc,h5];first|done|rfl)
  rintro j aB ak hj ⟨q0,q1,q6,q8,vD,vE,NL,NM,ms,c,lD,aq,q5,gm⟩
  by_cases pj:j<ls.length
  .have aaT:((j:Int)<(ls.length:Int)):=aa;have w2:=bj (n:=j) aa;simp only[go_sem,i75_l8,i75_r7,NL,NM,aaT];refine ck (fun i nc v7=>nc 0=.one (.p (cE F ls))/\nc 1=vi 7/\nc 6=vi ls.length/\nc 8=vi k/\nc 14=vi j/\nc 41=vi ls.length/\nc 42=vi k/\nc 117=vi ls.length/\nc 118=vi j/\nc 121=vi i/\ ∃ms c,ms.length<=4*(ls.length*k+j)+i/\(∀m∈ms,m.k=7)/\nc 5=.one c/\grown 4802560704 fF 7 (mP ms) (.one c) v7) 0 4 (bc _) ?_ ?_
   .refine⟨?_,?_,?_,?_,?_,?_,?_,?_,?_,?_,ms,c,aa,aq,?_,gm⟩<;>(simp only[go_sem,q0,q1,q6,q8,vD,vE,NL,NM,q5];first|done|rfl)
   rintro i nc v7 hi ⟨r0,r1,r6,r8,r14,Df,Dg,NN,NO,IP,ms,c,lD,aq,r5,gm⟩
   by_cases kQ:i<4
   .have Cr:((i:Int)<4):=aa;have w3:=bj (n:=i) aa;by_cases hjk:j=k
    .subst hjk;have e1:((j:Int)!=(j:Int))=false:=af;simp only[go_sem,i75_l6,r0,r1,r6,r8,r14,Df,Dg,NN,NO,IP,r5,Cr,kQ,e1,w3];exact⟨ms,c,aa,aq,rfl,gm⟩
    have e1:((j:Int)!=(k:Int))=true:=by simp;omega
    simp only[go_sem,i75_l6,r1,r8,r14,IP,r5,Cr,oT,e1];refine nU (xs:=[cG.ps ⟨7,k,j,0,decide ((1:Int)<(i:Int)),((i:Int).tmod 2)==1,0⟩]) (gm.of_eq (by simp only[aP,Nat.reduceEqDiff,if_false])) (by simp only[eK,aP,if_true];rfl) (.inl rfl) (by simp only[nv,dN,fj];omega) fun c2 nN qb jC=>?_;simp only[go_sem,r0,r1,r6,r8,r14,Df,Dg,NN,NO,IP,w3,kQ];refine⟨ms++[⟨7,k,j,0,decide ((1:Int)<(i:Int)),((i:Int).tmod 2)==1,0⟩],c2,by simp;omega,fun m hm=>?_,rfl,by rw[mP,uU];exact qb⟩;rcases fk.1 hm with h|h
    .exact aq m h
    rw[sK.1 h]
   have:i=4:=aa;subst this;have h4:¬(((4:Nat):Int)<4):=ae;simp only[go_sem,i75_l6,r0,r1,r6,r8,Df,Dg,NN,NO,IP,r5,h4,w2,pj];exact⟨ms,c,aa,aq,rfl,gm⟩
  have:j=ls.length:=aa;subst this;simp only[go_sem,i75_l8,q0,q1,q6,vD,vE,NL,NM,q5,dT,w1,au];exact⟨ms,c,by rw[Nat.mul_succ];omega,aq,rfl,gm⟩
 have:k=ls.length:=aa;subst this;simp only[go_sem,i75_l10,i75_r11,ky,jc,h5,dT];exact⟨_,⟨ms,⟨lD,aq⟩,rfl⟩,tc gm⟩
end
abbrev qlV(p:Int×Int):List PV:=[.int .i64 p.1,.int .i64 p.2]
abbrev kH(l:List (Int×Int)):List (List PV):=l.map qlV
theorem De{l:List (Int×Int)}{k:Nat}{x:Int×Int}(h:l[k]?=some x):(kH l)[k]?=some [.int .i64 x.1,.int .i64 x.2]:=by rw[js,h];rfl
theorem U5(l:List (Int×Int)):(kH l).length=l.length:=cq ..
theorem U6(l:List (Int×Int))(k:Nat)(x:Int×Int):(kH l).set k [.int .i64 x.1,.int .i64 x.2]=kH (l.set k x):=by rw[kH,kH,List.map_set]
theorem aet{cs:List (Int×Int)}{k:Nat}(hk:k<=cs.length):List.take k (kH cs)++List.replicate (cs.length-k) [PV.int .i64 0,PV.int .i64 0]++List.drop (k+(cs.length-k)) (kH cs)=kH (cs.take k++List.replicate (cs.length-k) (0,0)):=by rw[List.drop_of_length_le (by simp;omega),qu];simp only[kH,uU,List.map_replicate,List.map_take]
def P0(id g ty n:Nat)(blk:aw)(v:V)(ak:aw):Prop:=(∃(m:Nat) (cs:List (Int×Int)),m<=n/\cs.length=n/\v=.one (.hsl id g 2 0 m)/\ak id=(g,some (.arr ty 2 (kH cs))))/\Kept (· =id) blk ak
theorem YI{al:Al}{blk:aw}{id:Nat}{ws:List (Int×Int)}(o:al.ok id=true)(hl:ws.length<=1000000)(hC:blk id=(g,some (.arr ty 2 (kH ws)))):
  ∃v ak,fT S 110 [.one (.hsl id g 2 0 ws.length)] al blk v ak/\P0 id g ty ws.length blk v ak:=by
 refine lf c110 (fy rfl) ?_;by_cases h2:ws.length<2
 .have fU:((ws.length:Int)<2):=aa;simp only[go_sem,i110,fU];exact⟨⟨ws.length,ws,bo _,rfl,rfl,hC⟩,Kept.refl _ _⟩
 have fU:¬((ws.length:Int)<2):=aa;simp only[go_sem,i110,fU];refine ck (fun q aj ak=>aj 0=.one (.hsl id g 2 0 ws.length)/\aj 3=vi ((q+1:Nat):Int)/\ak=blk) 0 ws.length (bc _) ?_ ?_
 .simp only[go_sem];first|done|exact⟨rfl,rfl⟩|rfl
 rintro q aj aW hq ⟨h0,h3,rfl⟩
 by_cases au:q+1<ws.length
 .have aF:(((q+1:Nat):Int)<(ws.length:Int)):=aa;obtain⟨x,hx⟩:=aL (ls:=ws) (k:=q+1) au;obtain⟨y,hy⟩:=aL (ls:=ws) (k:=q) aa;have qk:=De hx;have qP:=De hy;have wj:IntKind.i64.wrap (((q+1:Nat):Int)-1)=(q:Int):=by rw[ru aa];omega
  have wk:=bj (n:=q+1) aa;have q1:q<ws.length:=aa;have q2:q+1<=ws.length:=aa;have As:=U5 ws;have no:(x.1==y.1)=false\/((x.1==y.1)=true/\(x.2==y.2)=false)\/((x.1==y.1)=true/\(x.2==y.2)=true):=by cases (x.1==y.1)<;>cases (x.2==y.2)<;>simp
  rcases no with e1|⟨e1,e2⟩|⟨e1,e2⟩
  .simp only[go_sem,i110_l4,i110_r3,h0,h3,au,aF,qk,qP,wj,wk,q1,hC,o,e1,lV,lq];first|done|exact ay|exact⟨ay,rfl⟩|(refine⟨ay,?_⟩;first|done|exact⟨rfl,rfl⟩|rfl|omega)
  .simp only[go_sem,i110_l4,i110_r3,h0,h3,au,aF,qk,qP,wj,wk,q1,hC,o,e1,e2,lV,lq];first|done|exact ay|exact⟨ay,rfl⟩|(refine⟨ay,?_⟩;first|done|exact⟨rfl,rfl⟩|rfl|omega)
  simp only[go_sem,i110_l4,h0,h3,au,aF,qk,qP,wj,q1,q2,hC,o,e1,e2,lV,lq];refine⟨ay,?_⟩;clear e1 e2 qk qP hx hy;refine ck (fun r aj ak=>aj 0=.one (.hsl id g 2 0 ws.length)/\aj 4=.one (.hsl id g 2 (q+1) (ws.length-(q+1)))/\aj 5=vi ((r+1:Nat):Int)/\ ∃(cs:List (Int×Int)) (k:Nat),aj 3=vi (k:Nat)/\ak id=(g,some (.arr ty 2 (kH cs)))/\cs.length=ws.length/\k<q+2+r/\q+2+r<=ws.length/\Kept (· =id) aW ak) 0 ws.length (bc _) ?_ ?_
  .simp only[go_sem,h0];exact⟨rfl,ws,q+1,h3,hC,rfl,aa,aa,Kept.refl _ _⟩
  rintro r bH aN hr ⟨k0,k4,k5,cs,k,k3,hB,ef,hkq,hqr,bJ⟩
  by_cases yM:r+1<ws.length-(q+1)
  .have vj:(((r+1:Nat):Int)<((ws.length-(q+1):Nat):Int)):=aa;obtain⟨u,hu⟩:=aL (ls:=cs) (k:=q+1+(r+1)) aa;obtain⟨v,hv⟩:=aL (ls:=cs) (k:=q+1+r) aa;have cu:=De hu;have cv:=De hv;have wr:IntKind.i64.wrap (((r+1:Nat):Int)-1)=(r:Int):=by rw[ru aa];omega
   have DB:=bj (n:=r+1) aa;have wk2:=bj (n:=k) aa;have r1:r<ws.length-(q+1):=aa;have kk:k<ws.length:=aa;have kk2:k<cs.length:=aa;obtain⟨z,hz⟩:=aL kk2;have cz:=De hz;have no:(u.1==v.1)=false\/((u.1==v.1)=true/\(u.2==v.2)=false)\/((u.1==v.1)=true/\(u.2==v.2)=true):=by cases (u.1==v.1)<;>cases (u.2==v.2)<;>simp
   rcases no with e1|⟨e1,e2⟩|⟨e1,e2⟩
   .simp only[go_sem,i110_l1,k0,k4,k5,k3,yM,vj,r1,hB,cu,cv,wr,DB,wk2,kk,cz,o,e1,lV,lq];refine⟨ay,aa,cs.set k u,k+1,rfl,by rw[U6],by simpa using ef,aa,aa,bJ.ca rfl _⟩
   .simp only[go_sem,i110_l1,k0,k4,k5,k3,yM,vj,r1,hB,cu,cv,wr,DB,wk2,kk,cz,o,e1,e2,lV,lq];refine⟨ay,aa,cs.set k u,k+1,rfl,by rw[U6],by simpa using ef,aa,aa,bJ.ca rfl _⟩
   simp only[go_sem,i110_l1,k0,k4,k5,k3,yM,vj,r1,hB,cu,cv,wr,DB,o,e1,e2,lV,lq];exact⟨ay,aa,cs,k,rfl,rfl,ef,aa,aa,bJ⟩
  have vj:¬(((r+1:Nat):Int)<((ws.length-(q+1):Nat):Int)):=aa;have kk3:k<=ws.length:=aa;have kk4:k+(ws.length-k)<=cs.length:=aa;by_cases hz:ws.length-k=0
  .exact absurd hz aa
  have kD:=aet (cs:=cs) (k:=k) aa;rw[ef] at kD;simp only[go_sem,i110_l1,i110_r2,k0,k4,k5,k3,vj,hB,o,kk3,kk4,hz,List.length_replicate,U5,kD];exact⟨⟨k,_,kk3,by simp;omega,rfl,rn⟩,bJ.ca rfl _⟩
 have aF:¬(((q+1:Nat):Int)<(ws.length:Int)):=aa;simp only[go_sem,i110_l4,i110_r5,h0,h3,aF];exact⟨⟨ws.length,ws,bo _,rfl,rfl,hC⟩,Kept.refl _ _⟩
abbrev Hi:V:=.one (.p (.fn 109 [] []))
theorem prS(f:Nat)(args:List V)(al:Al)(blk:aw):S.primS f args al blk=vH kG args al blk:=rfl
theorem afU{al:Al}{blk:aw}{id:Nat}{l:List (Int×Int)}(ho:al.ok id=true)(hb:blk id=(g,some (.arr ty 2 (kH l))))(hl:l.length<4611686018427387904)(hsm:l.all uP=true):∃v ak,fT S 108 [.one (.hsl id g 2 0 l.length),Hi] al blk v ak/\v=.tup []/\ak=ca blk id (g,some (.arr ty 2 (kH (oD kG l)))):=
 ⟨_,_,⟨1,by rw[fm,if_pos (show S.trig 108 [.one (.hsl id g 2 0 l.length),Hi]=true from rfl),prS,VL hb rfl hl hsm ho];rfl⟩,rfl,rfl⟩
theorem afT{al:Al}{blk:aw}:∃v ak,fT S 108 [.one (.p .nils),Hi] al blk v ak/\v=.tup []/\ak=blk:=
 ⟨_,_,⟨1,by rw[fm,if_pos (show S.trig 108 [.one (.p .nils),Hi]=true from rfl)];rfl⟩,rfl,rfl⟩
theorem YH{al:Al}{blk:aw}:∃v ak,fT S 110 [.one (.p .nils)] al blk v ak/\v=.one (.p .nils)/\ak=blk:=by refine lf c110 (fy rfl) ?_;have h2:(((0:Nat):Int)<2):=ae;simp only[go_sem,i110,h2];first|done|exact⟨rfl,rfl⟩|trace_state
def vB(l:List (Nat×Nat)):List (Int×Int):=l.map fun p=>((p.1:Int),(p.2:Int))
theorem adG(l:List (Nat×Nat)):kH (vB l)=gQ l:=by rw[kH,vB,zH];rfl
section
variable {F:Nat} {ls:List Let}
theorem Yl(g:cS F ls)(aR:0<ls.length)(hpb:∀f∈cX F ls,f.places.length<=200000/\ ∀p∈f.places,p.1<=1000000/\p.2<=1000000):∃ms:List cG,(ms.length<=400000*ls.length/\ ∀m∈ms,m.k=2)/\aE S 75 [.one (.p (cE F ls)),vi 2] (.one (bg fF 7 (mP ms))):=by
 have hlen:=g.len;have bq:(aX (pieces ls)).length=ls.length:=by rw[aX,cq,eI]
 have eX:(((ls.length:Nat):Int)==0)=false:=by rw[beq_eq_false_iff_ne];omega
 have d2:((2:Int)==2)=true:=ae
 suffices h:∃r,(∃ms:List cG,(ms.length<=400000*ls.length/\ ∀m∈ms,m.k=2)/\r=.one (bg fF 7 (mP ms)))/\aE S 75 [.one (.p (cE F ls)),vi 2] r by obtain⟨r,⟨ms,h1,rfl⟩,h2⟩:=h;exact⟨ms,h1,h2⟩
 refine xZ rfl c75 (fy rfl) ?_;simp only[go_sem,i75,i75_r12,bq,eX];refine ck (fun k aj blk=>aj 0=.one (.p (cE F ls))/\aj 1=vi 2/\aj 41=vi ls.length/\aj 42=vi k/\ ∃ms c,ms.length<=400000*k/\(∀m∈ms,m.k=2)/\aj 5=.one c/\grown 4801536576 fF 7 (mP ms) (.one c) blk) 0 ls.length (bc _) ?_ ?_
 .simp only[go_sem];exact⟨rfl,[],.p .nils,af,fun m h=>(by cases h),rfl,grown.nil⟩
 rintro k aj blk hk ⟨h0,h1,ky,jc,ms,c,lD,aq,h5,gm⟩
 by_cases au:k<ls.length
 .have aF:((k:Int)<(ls.length:Int)):=aa;have w1:=bj (n:=k) aa;simp only[go_sem,i75_l10,i75_r9,h1,ky,jc,aF,d2];refine ck (fun s aB ak=>aB 0=.one (.p (cE F ls))/\aB 1=vi 2/\aB 8=vi k/\aB 41=vi ls.length/\aB 42=vi k/\aB 54=vi s/\aB 5=.one c/\grown 4801536576 fF 7 (mP ms) (.one c) ak/\ ∃(ps:List (Nat×Nat)) (cp:C),ps.length<=200000*s/\(∀p∈ps,p.1<=1000000/\p.2<=1000000)/\aB 9=.one cp/\grown 4801153152 127 2 (gQ ps) (.one cp) ak) 0 2 (bc _) ?_ ?_
  .refine⟨?_,?_,?_,?_,?_,?_,?_,gm,[],.p .nils,bo _,(fun p h=>by cases h),?_,grown.nil⟩<;>(simp only[go_sem,h0,h1,ky,jc,h5];first|done|rfl)
  rintro s aB ak hs ⟨q0,q1,q8,vD,vE,q54,q5,gm,ps,cp,abw,cn,q9,gp⟩
  by_cases hsl:s<2
  .have abA:((s:Int)<2):=aa;obtain⟨j,Ao,iR,ve⟩:=EE g (d:=2*k+s) aa;have Ay:=ba iR;obtain⟨hpl1,abr⟩:=hpb _ Ay;have qf:=fv Ao;have rZ:=EF iR;have m2:=mj (a:=k) aa;have m3:=wrap_add (a:=2*k) (b:=s) aa;have w2:=bj (n:=s) aa;have Cl:2*k+s<(fQ F ls).length:=by rw[A1];omega
   generalize jW F ls (2*k+s)=f at*;simp only[go_sem,i75_l2,q0,q8,q54,q9,abA,m2,m3,qf,rZ,Fc.ps];refine wy (xs:=gQ f.places) (rd:=[]) (gp.of_eq (by simp only[])) rfl (.inr (by simp[fR])) (by simp only[cq];omega) fun c' iG r1 u1 g1 jB de=>?_;have qa:=gm.of_eq (jB 4801536576 ae ae);rw[show gQ ps++gQ f.places=gQ (ps++f.places) by simp[gQ]] at g1;simp only[go_sem,q0,q1,q8,vD,vE,q54,q5,w2,hsl];refine⟨?_,qa,ps++f.places,c',by rw[iW];omega,fun p hp=>?_,rfl,g1⟩
   .rcases de with ⟨rfl,rfl⟩|⟨rfl,rfl⟩|⟨rfl,rfl⟩<;>kernel_rfl
   rcases fk.1 hp with h|h
   .exact cn p h
   exact abr p h
  have:s=2:=aa;subst this;have h2:¬(((2:Nat):Int)<2):=ae;simp only[go_sem,i75_l2,i75_r4,q0,q1,vD,vE,q54,q5,q9,h2,s108];rcases gp with ⟨he,hc⟩|⟨he,g9,hc,hC⟩
  .cases hc;refine EO (by rfl) (.inl rfl) (P:=fun v b=>v=.tup []/\b=ak) (fun ki _=>afT) fun v b hP=>?_;obtain⟨rfl,rfl⟩:=hP;simp only[go_sem,q9,s110];refine EO (by rfl) (.inl rfl) (P:=fun v b'=>v=.one (.p .nils)/\b'=b) (fun ki _=>YH) fun v b2 hP=>?_;obtain⟨rfl,rfl⟩:=hP;have z0:¬((0:Int)<((0:Nat):Int)):=ae;simp only[go_sem];refine k8 ?_;simp only[go_sem,i75_l3,q0,q1,vD,vE,q5,z0,w1,au];first|exact⟨ms,c,aa,aq,rfl,gm⟩|trace_state
  cases hc;rw[<- adG] at hC;have kT:(vB ps).length=ps.length:=by simp[vB]
  have yS:(gQ ps).length=(vB ps).length:=by simp[vB]
  have hsm:(vB ps).all uP=true:=im.2 fun x hx=>by obtain⟨p,hp,rfl⟩:=iX.1 hx;have:=cn p hp;simp only[uP,cA,decide_eq_true_eq];omega
  rw[yS] at q9 ⊢;refine s0 hC (by rfl) (.inl rfl) (P:=fun v b=>v=.tup []/\b=ca ak 4801153152 (g9,some (.arr 127 2 (kH (oD kG (vB ps)))))) (fun ki o1 o2=>afU o1 hC aa hsm) fun v b hP=>?_;obtain⟨rfl,rfl⟩:=hP;simp only[go_sem,q9,s110];have hsl:=VP kG (vB ps);rw[<- hsl] at q9 ⊢;generalize oD kG (vB ps)=so at*;have ti:ca ak 4801153152 (g9,some (.arr 127 2 (kH so))) 4801153152=(g9,some (.arr 127 2 (kH so))):=rn;have uj:grown 4801536576 fF 7 (mP ms) (.one c) (ca ak 4801153152 (g9,some (.arr 127 2 (kH so)))):=gm.of_eq (aJ ae);generalize ca ak 4801153152 (g9,some (.arr 127 2 (kH so)))=aN at*
  refine s0 ti (by rfl) (.inl rfl) (P:=P0 4801153152 g9 127 so.length aN) (fun ki o1 o2=>YI o1 aa ti) fun v iG hP=>?_;obtain⟨⟨m,cs,hm,bZ,rfl,hb⟩,bJ⟩:=hP;have qa:=uj.of_eq (bJ 4801536576 ae);simp only[go_sem];refine ck (fun i u5 nN=>u5 0=.one (.p (cE F ls))/\u5 1=vi 2/\u5 8=vi k/\u5 41=vi ls.length/\u5 42=vi k/\u5 80=.one (.hsl 4801153152 g9 2 0 m)/\u5 81=vi m/\u5 82=vi i/\nN 4801153152=(g9,some (.arr 127 2 (kH cs)))/\ ∃ms c,ms.length<=400000*k+i/\(∀m∈ms,m.k=2)/\u5 5=.one c/\grown 4801536576 fF 7 (mP ms) (.one c) nN) 0 m (bc _) ?_ ?_
  .refine⟨?_,?_,?_,?_,?_,?_,?_,?_,hb,ms,c,aa,aq,?_,qa⟩<;>(simp only[go_sem,q0,q1,q8,vD,vE,q5];first|done|rfl)
  rintro i u5 nN hi ⟨r0,r1,r8,Df,Dg,r80,r81,r82,rb,ms,c,lD,aq,r5,gm⟩
  by_cases kQ:i<m
  .have Cr:((i:Int)<(m:Int)):=aa;obtain⟨x,hx⟩:=aL (ls:=cs) (k:=i) aa;have qk:=De hx;have w3:=bj (n:=i) aa;simp only[go_sem,i75_l3,r1,r8,r80,r81,r82,r5,rb,kQ,Cr,qk];refine nU (xs:=[cG.ps ⟨2,k,x.1,x.2,false,false,0⟩]) (gm.of_eq (by simp only[aP,Nat.reduceEqDiff,if_false])) (by simp only[eK,aP,if_true];rfl) (.inl rfl) (by simp only[nv,dN,fj];omega) fun c2 v8 gm5 u7=>?_;have rb5:=u7 4801153152 ae ae;simp only[go_sem,rb] at rb5;simp only[go_sem,r0,r1,r8,Df,Dg,r80,r81,r82,w3,kQ];refine⟨rb5,ms++[⟨2,k,x.1,x.2,false,false,0⟩],c2,by rw[iW];simp only[dN,fj];omega,fun m hm=>?_,rfl,by rw[mP,uU];exact gm5⟩;rcases fk.1 hm with h|h
   .exact aq m h
   rw[sK.1 h]
  have:i=m:=aa;subst this;simp only[go_sem,i75_l3,r0,r1,Df,Dg,r81,r82,r5,dT,w1,au];exact⟨ms,c,aa,aq,rfl,gm⟩
 have:k=ls.length:=aa;subst this;simp only[go_sem,i75_l10,i75_r11,ky,jc,h5,dT];exact⟨_,⟨ms,⟨lD,aq⟩,rfl⟩,tc gm⟩
end
abbrev za:Nat:=29
abbrev Hh:Nat:=24
def y9(i:Nat):List PV:=[.int .i64 2,.int .i64 0,.int .i64 i,.int .i64 0,.bool false,.bool false,.int .i64 0]
def qo(n:Nat):List (List PV):=(List.range n).map y9
def Pt(F i:Nat):List PV:=[.int .i64 F,.sl (si (yf i))]
def ye(F n:Nat):List (List PV):=(List.range n).map (Pt F)
theorem Ud(n:Nat):qo (n+1)=qo n++[y9 n]:=by simp[qo,sL]
theorem Yq(F n:Nat):ye F (n+1)=ye F n++[Pt F n]:=by simp[ye,sL]
theorem Ip(n:Nat):(qo n).length=n:=by simp[qo]
theorem Yp(F n:Nat):(ye F n).length=n:=by simp[ye]
theorem ac3{n k:Nat}(h:k<n):(qo n)[k]?=some (y9 k):=by simp[qo,h]
section
variable {F:Nat}
theorem Yh(hF:F<=40):aE S 75 [wa F,vi 2] (.one (bg za 7 (qo (F+1)))):=by
 have h7:(((0:Nat):Int)==0)=true:=ae;refine bd c75 ?_;simp only[go_sem,i75,h7];refine ck (fun k aj blk=>aj 0=wa F/\aj 1=vi 2/\aj 6=vi ((0:Nat):Int)/\aj 7=vi k/\ ∃c,aj 5=.one c/\grown 4800448320 za 7 (qo k) (.one c) blk) 0 (F+1) (bc _) ?_ ?_
 .simp only[go_sem];first|exact⟨rfl,.p .nils,rfl,.inl ⟨rfl,rfl⟩⟩|exact⟨rfl,rfl,.p .nils,rfl,.inl ⟨rfl,rfl⟩⟩|exact⟨.p .nils,rfl,.inl ⟨rfl,rfl⟩⟩
 rintro k aj blk hk ⟨e0,e1,e6,e7,c,e5,gc⟩
 by_cases au:k<F+1
 .have aF:((k:Int)<=(F:Int)):=aa;have w1:=bj (n:=k) aa;have hs:=Ud k;simp only[go_sem,i75_l1,e0,e1,e5,e7,aF];refine nU (site:=4800448320) (id:=4800448320) (bytes:=48) (xs:=[y9 k]) (rd:=[4800448256]) (gc.of_eq (aJ ae)) (by simp[eK,aP,y9]) (.inl rfl) (by simp only[Ip,dN,fj];omega) fun c' aW hc hb=>?_;simp only[go_sem,e0,e1,e6,e7,w1,au];refine⟨c',rfl,?_⟩;rw[hs];exact hc
 have:k=F+1:=aa;subst this;have jd:¬(((F+1:Nat):Int)<=(F:Int)):=aa;simp only[go_sem,i75_l1,i75_r12,e0,e6,e7,jd];refine k8 ?_;simp only[go_sem,i75_l10,i75_r11,e5,zz];exact tc gc
theorem Yo{k:Int}(hk:(k==2)=false):aE S 75 [wa F,vi k] (.one (bg za 7 [])):=by have h7:(((0:Nat):Int)==0)=true:=ae;refine bd c75 ?_;simp only[go_sem,i75,i75_r12,h7,hk];refine k8 ?_;simp only[go_sem,i75_l10,i75_r11,zz];rfl
end
theorem SP{k:Nat}(hk:k<10):aE S 74 [.one (.p (.sl (nP (kinds 10)))),vi ((k+1:Nat):Int)] (rb true):=by
 have:∀k,k<10->wg S 20 74 [.one (.p (.sl (nP (kinds 10)))),vi ((k+1:Nat):Int)]=some (rb true):=by intro k hk;rcases(show k=0\/k=1\/k=2\/k=3\/k=4\/k=5\/k=6\/k=7\/k=8\/k=9 by omega) with rfl|rfl|rfl|rfl|rfl|rfl|rfl|rfl|rfl|rfl<;>kernel_rfl
 exact OG S 20 (this k hk)
theorem ahg{a:PV}{id z o l:Nat}:vJ [[.p a,.hsl id g z o l]]=none:=rfl
theorem Qs{blk:aw}{s sd td zd:Nat}{x:Int}{cd:C}{D:List (List PV)}(hb:blk s=(g,some (.fO ty 2 [[.p (.int .i64 x),cd]])))(gd:grown sd td zd D (.one cd) blk):
  ∃fr,eK blk (.one (.hsl s g 2 0 1))=some ([[.int .i64 x,.sl D]],[s],fr)/\rD blk fr/\(fr=[]\/fr=[sd]):=by
 obtain⟨r1,n1,a1,q1⟩:=gd.I1;refine⟨r1,?_,a1,q1⟩;simp only[eK,hb];simp[collect,n1,I4,PV.norm]
section
variable {F:Nat}
def nM (F k:Nat):Nat:=if 2<=k then F+1 else 0
theorem ac4{k:Nat}(h:k≠1):nM F (k+1)=nM F k:=by
 unfold nM;by_cases c:2<=k
 .rw[if_pos c,if_pos aa]
 rw[if_neg c,if_neg aa]
theorem afP(hF:F<=40):aE S 49 [wa F,.one (.p (.sl (nP (kinds 10))))] (.tup [.one (bg za 7 (qo (F+1))),.one (bg Hh 2 (ye F (F+1)))]):=by
 have qn:S.lone 3136448128=false:=ah;have vt:S.lone 3136640128=false:=ah;refine bd c49 ?_;simp only[go_sem,i49];refine ck (fun k aj blk=>aj 0=wa F/\aj 1=.one (.p (.sl (nP (kinds 10))))/\aj 8=vi ((k+1:Nat):Int)/\ ∃c d,aj 6=.one c/\aj 7=.one d/\grown 3136768192 za 7 (qo (nM F k)) (.one c) blk/\grown 3136768448 Hh 2 (ye F (nM F k)) (.one d) blk) 0 10 (bc _) ?_ ?_
 .simp only[go_sem];first|exact⟨rfl,.p .nils,.p .nils,rfl,rfl,.inl ⟨rfl,rfl⟩,.inl ⟨rfl,rfl⟩⟩|exact⟨rfl,rfl,.p .nils,.p .nils,rfl,rfl,.inl ⟨rfl,rfl⟩,.inl ⟨rfl,rfl⟩⟩
 rintro k aj blk hk ⟨e0,e1,e8,c,d,e6,e7,gm,gc⟩
 by_cases au:k<10
 .have aF:((k+1:Nat):Int)<=10:=aa;have ph:=SP au;have w1:=bj (n:=k+1) aa;simp only[go_sem,i49_l3,e0,e1,e8,aF,s74,bY ph,s75];by_cases h1:k=1
  .subst h1;refine jz (Yh hF) qn (.inl rfl) fun cc aW gl aQ=>?_;have rR:=gm.of_eq (aQ 3136768192 ae);have ui:=gc.of_eq (aQ 3136768448 ae);rcases gl with ⟨e,_⟩|⟨_,gg,e,lA⟩
   .exact absurd (congrArg List.length e) (by rw[Ip];simp)
   cases e;rw[Ip];simp only[go_sem];refine ck (fun j aj blk=>aj 0=wa F/\aj 1=.one (.p (.sl (nP (kinds 10))))/\aj 8=vi 2/\aj 23=.one (.hsl 3136448128 gg 7 0 (F+1))/\aj 24=vi ((F+1:Nat):Int)/\aj 25=vi j/\blk 3136448128=(gg,some (.arr za 7 (qo (F+1))))/\ ∃c d,aj 6=.one c/\aj 7=.one d/\grown 3136768192 za 7 (qo j) (.one c) blk/\grown 3136768448 Hh 2 (ye F j) (.one d) blk) 0 (F+1) (bc _) ?_ ?_
   .simp only[go_sem,e0,e1,e6,e7,e8];exact⟨rfl,rfl,lA,c,d,rfl,rfl,rR,ui⟩
   rintro j aj blk hj ⟨q0,q1,q8,mM,j8,qY,bL,c,d,q6,q7,gm,gc⟩
   by_cases pz:j<F+1
   .have w7:((j:Int)<((F+1:Nat):Int)):=aa;have w2:=bj (n:=j) aa;have gJ:=ac3 pz;have pd:=Qj (F:=F) (b:=j) aa;have hm:=Ud j;have hc:=Yq F j;simp only[go_sem,i49_l1,q0,mM,j8,qY,bL,pz,w7,gJ,y9,s18];refine EN pd vt fun cx aN gx aS=>?_;have BP:=aS 3136576128 ae;simp only[go_sem] at BP;have bL2:=(aS 3136448128 ae).trans ((aJ ae).trans bL);have uj:=gm.of_eq ((aS 3136768192 ae).trans (aJ ae));have oR:=gc.of_eq ((aS 3136768448 ae).trans (aJ ae));rcases gx with ⟨e,_⟩|⟨aR,g2,e,Fh⟩
    .cases e
    cases e;simp only[go_sem,BP,q6];refine wy (site:=3136768192) (id:=3136768192) (bytes:=48) (xs:=[y9 j]) (rd:=[3136768128]) (uj.of_eq (by simp only[aP,Nat.reduceEqDiff,if_false])) (by simp[eK,aP,y9]) (.inl rfl) (by simp only[Ip,dN,fj];omega) fun c' iG r1 u1 fC jB de=>?_;have ya:=jB 3136640384 ae ae;simp only[go_sem] at ya;simp only[go_sem,ya,q7];have Ec:=(jB (3136640128+1) ae ae);simp only[Nat.reduceAdd,aP,Nat.reduceEqDiff,if_false] at Ec Fh;have hx3:=Ec.trans Fh;have gx3:grown (3136640128+1) xu 6 (si (yf j)) (.one (.hsl (3136640128+1) g2 6 0 2)) iG:=.inr ⟨aR,g2,rfl,hx3⟩
    obtain⟨fr,hx,tv,u9⟩:=Qs (blk:=ca iG 3136768384 ((iG 3136768384).1+1,some (.fO Hh 2 [[.p (.int .i64 F),.hsl (3136640128+1) g2 6 0 2]]))) (s:=3136768384) rn (gx3.of_eq (aJ ae));have wN:=oR.of_eq ((jB 3136768448 ae ae).trans (by simp only[aP,Nat.reduceEqDiff,if_false]:_=aN 3136768448));have nf:∀i,i≠3136640128+1->i∉fr:=fun i a h=>by
     rcases u9 with rfl|rfl
     .cases h
     exact a (sK.1 h)
    refine Qa (site:=3136768448) (id:=3136768448) (bytes:=32) (wN.of_eq (aJ ae)) hx tv (nf _ ae) (nf _ ae) (.inl rfl) (by simp only[Yp,dN,fj];omega) fun d' nN r2 u2 Fq jC og=>?_;have yc:=(jC 3136448128 ae ae (nf _ ae)).trans ((aJ ae).trans (jB 3136448128 ae ae));simp only[aP,Nat.reduceEqDiff,if_false] at yc;have DZ:=yc.trans bL2;simp only[go_sem,q0,q1,q6,q7,q8,mM,j8,qY,DZ,w2,pz];refine⟨?_,c',d',rfl,rfl,?_,?_⟩
    .rcases u9 with rfl|rfl<;>rcases de with ⟨rfl,rfl⟩|⟨rfl,rfl⟩|⟨rfl,rfl⟩<;>rcases og with ⟨rfl,rfl⟩|⟨rfl,rfl⟩|⟨rfl,rfl⟩<;>kernel_rfl
    .rw[hm];exact fC.of_eq ((jC 3136768192 ae ae (nf _ ae)).trans (aJ ae))
    rw[hc];exact Fq
   have:j=F+1:=aa;subst this;simp only[go_sem,i49_l1,i49_r2,q0,q1,q6,q7,q8,j8,qY,dT];exact⟨rfl,c,d,rfl,rfl,gm,gc⟩
  have nj:(((k+1:Nat):Int)==2)=false:=by rw[beq_eq_false_iff_ne];omega
  refine jz (Yo nj) qn (.inl rfl) fun cc aW gl aQ=>?_;have rR:=gm.of_eq (aQ 3136768192 ae);have ui:=gc.of_eq (aQ 3136768448 ae);rcases gl with ⟨_,e⟩|⟨h,_⟩
  .cases e;simp only[go_sem];refine k8 ?_;simp only[go_sem,i49_l1,i49_r2,e0,e1,e6,e7,e8,zz,w1];rw[ac4 h1];exact⟨au,c,d,rfl,rfl,rR,ui⟩
  exact absurd rfl h
 have:k=10:=aa;subst this;have jd:¬(((10+1:Nat):Int)<=10):=ae;simp only[go_sem,i49_l3,i49_r4,e6,e7,e8,jd];exact EX ae gm gc
theorem WK(hF:F<=40):aE S 31 [wm F,.one (.p (.sl (nP (kinds 10))))] (.tup [.one (bg za 7 (qo (F+1))),.one (.p (.int .i64 0))]):=by have po:aE S 17 [wm F] (tN (.box [.int .i64 F,.sl [],.sl [],.sl [],.int .i64 ((0:Nat):Int),.int .i64 ((0:Nat):Int),.sl (nP (counts [] F))]) (.int .i64 0)):=Np hF;have ps:=afP hF;have lo:S.lone 1984256128=false:=ah;refine bd c31 ?_;simp only[go_sem,i31,s17,cN po fE,s49];refine Sx ps lo fun c d aW gc gd hb=>?_;simp only[go_sem];exact gY gc
end
section
variable {F:Nat} {ls:List Let}
theorem VN{r to:Nat}:∀p∈mh g r to,p.1<=max g to/\p.2<=r:=by
 intro p hp;unfold mh at hp;rcases dU.1 hp with rfl|h
 .exact⟨Bv _ _,bo _⟩
 obtain⟨i,hi,rfl⟩:=iX.1 h;have:=iN.1 hi;exact⟨by show g+1+i<=max g to;omega,bc _⟩
theorem UO(g:cS F ls){j:Nat}(hj:j<(aD ls).length):∀p∈uN F ls j,p.1<=1000000/\p.2<=1000000:=by
 have ok:=g.ok;have hF:=g.fing;have hlen:=g.len;have h1:=Cc ok hj;have h2:=Cc ok (eJ (j+1) (show 0<(aD ls).length by omega));have hr:rN ls ((aD ls).getD j 0)<=ls.length:=by obtain⟨u,l,_,du,hl,_,hg⟩:=JB ok hj;rw[du,U7 hl];have:=hg.r1;have:=hg.r0;have hc:cg ls l.gate.toNat<=ls.length:=oH _ _;omega
 intro p hp;unfold uN at hp;simp only at hp;split at hp
 .have:=VN p hp;omega
 rcases fk.1 hp with h|h<;>(have:=VN p h;omega)
theorem ZL(g:cS F ls){w:List Nat}(hw:∀x∈w,x<nD ls):∀k,k<=w.length->∀p∈(wH F ls w k).places,p.1<=1000000/\p.2<=1000000:=by
 intro k
 induction k with
 |zero=>intro _ p hp;cases hp
 |succ k ih=>
  intro hk;obtain⟨x,hx⟩:=aL (show k<w.length by omega);have qO:=hw x (ba hx);have ih:=ih aa;rw[R0 hx];unfold Fc.add;by_cases h:x<2*ls.length
  .rw[if_pos h];exact ih
  rw[if_neg h];have hj:(x-2*ls.length)/2<(aD ls).length:=by unfold nD at qO;omega
  intro p hp;rcases fk.1 hp with h|h
  .exact ih p h
  split at h
  .exact UO g hj p h
  exact UO g hj p (List.mem_reverse.1 h)
theorem ZN(g:cS F ls):∀f∈cX F ls,f.places.length<=200000/\ ∀p∈f.places,p.1<=1000000/\p.2<=1000000:=by intro f hf;obtain⟨w,hw,rfl⟩:=iX.1 hf;obtain⟨_,h2,h3⟩:=Jh g.ok w hw;rw[<- RY];have gI:(aD ls).length<=ls.length:=pQ ls ls.length;have h4:=(RZ g.ok h3 w.length (bo _)).2.1;have hlen:=g.len;have hF:=g.fing;refine⟨?_,ZL g h3 w.length (bo _)⟩;have h5:w.length*(2*F+2)<=1600*82:=Nat.mul_le_mul (by unfold nD at h2;omega) aa;omega
theorem Yn(g:cS F ls)(aR:0<ls.length){kk:Int}:∃ms:List cG,(ms.length<=200000000/\ ∀m∈ms,m.k=kk)/\aE S 75 [.one (.p (cE F ls)),vi kk] (.one (bg fF 7 (mP ms))):=by
 have hlen:=g.len;have ok2:∀ms:List cG,(ms.length<=2*ls.length/\ ∀m∈ms,xw kk ls.length m)->ms.length<=200000000/\ ∀m∈ms,m.k=kk:=fun ms h=>⟨aa,fun m hm=>(h.2 m hm).choose_spec.2.1⟩;by_cases hc:kk=3\/kk=6\/kk=8
 .obtain⟨ms,h,p⟩:=Yi g aR hc;exact⟨ms,ok2 ms h,p⟩
 by_cases e2:kk=2
 .subst e2;obtain⟨ms,h,p⟩:=Yl g aR (ZN g);exact⟨ms,⟨by have:=h.1;omega,h.2⟩,p⟩
 by_cases e5:kk=5
 .subst e5;obtain⟨ms,h,p⟩:=Yk g aR;exact⟨ms,⟨by have:=h.1;omega,h.2⟩,p⟩
 by_cases e7:kk=7
 .subst e7;obtain⟨ms,h,p⟩:=Ym g aR;have:=Nat.mul_le_mul hlen hlen;exact⟨ms,⟨by have:=h.1;omega,h.2⟩,p⟩
 obtain⟨ms,h,p⟩:=Yj g aR (beq_eq_false_iff_ne.2 e2) (beq_eq_false_iff_ne.2 e5) (beq_eq_false_iff_ne.2 e7) (beq_eq_false_iff_ne.2 fun e=>hc (.inl e)) (beq_eq_false_iff_ne.2 fun e=>hc (.inr (.inl e))) (beq_eq_false_iff_ne.2 fun e=>hc (.inr (.inr e)));exact⟨ms,ok2 ms h,p⟩
end
abbrev Ef:Nat:=24
def zg(F:Nat)(ls:List Let)(m:cG):Prop:=1<=m.k/\m.k<=10/\ ∃M,sR F ls m.k m.a m.b m.c m.l m.o m.s=rj F M
theorem Xf{F:Nat}{ls:List Let}{k a b c:Int}{l o:Bool}{sg:Int}:(∃e:Int,e≠0/\sR F ls k a b c l o sg=pH e)\/ ∃L,sR F ls k a b c l o sg=rj F L:=by
 unfold sR;split
 .cases xv F ls k a.toNat b.toNat c.toNat l o sg with
  |none=>exact .inl ⟨4,ae,rfl⟩
  |some L=>
   by_cases h:(400:Int)<(ls.length:Int)+(gZ k).1\/(100:Int)<((aA Let.aC ls/2:Nat):Int)+(gZ k).2
   .exact .inl ⟨7,ae,if_pos h⟩
   exact .inr ⟨pW L,if_neg h⟩
 exact .inl ⟨2,ae,rfl⟩
section
variable {F:Nat} {ls:List Let}
theorem afQ(g:cS F ls)(aR:0<ls.length):∃ms cs,(ms.length<=2000000000/\ ∀m∈ms,zg F ls m)/\aE S 49 [.one (.p (cE F ls)),.one (.p (.sl (nP (kinds 10))))] (.tup [.one (bg fF 7 (mP ms)),.one (bg Ef 2 cs)]):=by
 have hlen:=g.len;have qn:S.lone 3136448128=false:=ah;have vt:S.lone 3136640128=false:=ah
 suffices h:∃r,(∃ms cs,(ms.length<=2000000000/\ ∀m∈ms,zg F ls m)/\r=.tup [.one (bg fF 7 (mP ms)),.one (bg Ef 2 cs)])/\aE S 49 [.one (.p (cE F ls)),.one (.p (.sl (nP (kinds 10))))] r by obtain⟨r,⟨ms,cs,h1,rfl⟩,h2⟩:=h;exact⟨ms,cs,h1,h2⟩
 refine xZ rfl c49 (fy rfl) ?_;simp only[go_sem,i49];refine ck (fun k aj blk=>aj 0=.one (.p (cE F ls))/\aj 1=.one (.p (.sl (nP (kinds 10))))/\aj 8=vi ((k+1:Nat):Int)/\ ∃ms cs c d,ms.length<=200000000*k/\cs.length<=200000000*k/\(∀m∈ms,zg F ls m)/\aj 6=.one c/\aj 7=.one d/\grown 3136768192 fF 7 (mP ms) (.one c) blk/\grown 3136768448 Ef 2 cs (.one d) blk) 0 10 (bc _) ?_ ?_
 .simp only[go_sem];exact⟨rfl,[],[],.p .nils,.p .nils,af,af,fun m h=>(by cases h),rfl,rfl,grown.nil,grown.nil⟩
 rintro k aj blk hk ⟨e0,e1,e8,ms,cs,c,d,lD,bZ,aq,e6,e7,gm,gc⟩
 by_cases au:k<10
 .have aF:((k+1:Nat):Int)<=10:=aa;have w1:=bj (n:=k+1) aa;have ph:=SP au;obtain⟨ns,⟨hns,FP⟩,pc⟩:=Yn g aR (kk:=((k+1:Nat):Int));simp only[go_sem,i49_l3,e0,e1,e8,aF,s74,bY ph,s75];refine jz pc qn (.inl rfl) fun cc aW gl aQ=>?_;have rR:=gm.of_eq (aQ 3136768192 ae);have ui:=gc.of_eq (aQ 3136768448 ae);rcases gl with ⟨e,e2⟩|⟨_,gg,e,lA⟩
  .cases e2;simp only[go_sem];refine k8 ?_;simp only[go_sem,i49_l1,i49_r2,e0,e1,e6,e7,e8,zz,w1];exact⟨au,ms,cs,c,d,aa,aa,aq,rfl,rfl,rR,ui⟩
  cases e;rw[nv];simp only[go_sem];refine ck (fun j aj blk=>aj 0=.one (.p (cE F ls))/\aj 1=.one (.p (.sl (nP (kinds 10))))/\aj 8=vi ((k+1:Nat):Int)/\aj 23=.one (.hsl 3136448128 gg 7 0 ns.length)/\aj 24=vi ns.length/\aj 25=vi j/\blk 3136448128=(gg,some (.arr fF 7 (mP ns)))/\ ∃ms cs c d,ms.length<=200000000*k+j/\cs.length<=200000000*k+j/\(∀m∈ms,zg F ls m)/\aj 6=.one c/\aj 7=.one d/\grown 3136768192 fF 7 (mP ms) (.one c) blk/\grown 3136768448 Ef 2 cs (.one d) blk) 0 ns.length (bc _) ?_ ?_
  .simp only[go_sem,e0,e1,e6,e7,e8];exact⟨rfl,lA,ms,cs,c,d,aa,aa,aq,rfl,rfl,rR,ui⟩
  clear gm gc rR ui aq lD bZ lA aQ e0 e1 e6 e7 e8;rintro j aj blk hj ⟨q0,q1,q8,mM,j8,qY,bL,ms,cs,c,d,lD,bZ,aq,q6,q7,gm,gc⟩
  by_cases pz:j<ns.length
  .have w7:((j:Int)<(ns.length:Int)):=aa;have w2:=bj (n:=j) aa;obtain⟨m,mB⟩:=aL pz;have gJ:=Gk mB;have hmk:=FP m (ba mB);have hkm:m.k=((k+1:Nat):Int):=hmk;have hmlen:(mP ns).length=ns.length:=nv ns;have pd:=Ql g m.k m.a m.b m.c m.l m.o m.s;rcases Xf (F:=F) (ls:=ls) (k:=m.k) (a:=m.a) (b:=m.b) (c:=m.c) (l:=m.l) (o:=m.o) (sg:=m.s) with ⟨e,he,ha⟩|⟨M,ha⟩
   .rw[ha] at pd;have Ah:(e==0)=false:=by simpa using he
    simp only[go_sem,i49_l1,q0,q1,q6,q7,q8,mM,j8,qY,bL,pz,w7,gJ,cG.ps,s18,cN pd ach,Ah,w2];exact⟨ms,cs,c,d,aa,aa,aq,rfl,rfl,gm.of_eq (by simp only[aP,Nat.reduceEqDiff,if_false]),gc.of_eq (by simp only[aP,Nat.reduceEqDiff,if_false])⟩
   have abj:zg F ls m:=⟨aa,aa,M,ha⟩;rw[ha] at pd;simp only[go_sem,i49_l1,q0,mM,j8,qY,bL,pz,w7,gJ,cG.ps,s18];refine EN pd vt fun cx aN gx aS=>?_;have BP:=aS 3136576128 ae;simp only[go_sem] at BP;have bL2:=(aS 3136448128 ae).trans ((aJ ae).trans ((aJ ae).trans bL));have uj:=gm.of_eq ((aS 3136768192 ae).trans (by simp only[aP,Nat.reduceEqDiff,if_false]));have oR:=gc.of_eq ((aS 3136768448 ae).trans (by simp only[aP,Nat.reduceEqDiff,if_false]));have hmm:∀m'∈ms++[m],zg F ls m':=fun m' h=>(fk.1 h).elim (aq m') fun h=>(sK.1 h)▸abj;have uA:mP (ms++[m])=mP ms++[cG.ps m]:=by simp[mP]
   rcases gx with ⟨eM,e2⟩|⟨aa3,g2,e2,Fh⟩
   .cases e2;simp only[go_sem,BP,q6];refine wy (site:=3136768192) (id:=3136768192) (bytes:=48) (xs:=[cG.ps m]) (rd:=[3136768128]) (uj.of_eq (by simp only[aP,Nat.reduceEqDiff,if_false])) (by simp[eK,aP,cG.ps]) (.inl rfl) (by simp only[nv,dN,fj];omega) fun c' iG r1 u1 fC jB de=>?_;have ya:=jB 3136640384 ae ae;simp only[go_sem] at ya;simp only[go_sem,ya,q7];have wN:=oR.of_eq ((jB 3136768448 ae ae).trans (by simp only[aP,Nat.reduceEqDiff,if_false]:_=aN 3136768448));refine wy (site:=3136768448) (id:=3136768448) (bytes:=32) (xs:=[[.int .i64 F,.sl []]]) (rd:=[3136768384]) (wN.of_eq (aJ ae)) (by simp[eK,aP]) (.inl rfl) (by simp only[dN,fj];omega) fun d' nN r2 u2 Fq jC og=>?_
    have yc:=(jC 3136448128 ae ae).trans ((aJ ae).trans (jB 3136448128 ae ae));simp only[aP,Nat.reduceEqDiff,if_false] at yc;have DZ:=yc.trans bL2;simp only[go_sem,q0,q1,q6,q7,q8,mM,j8,qY,DZ,w2,pz];refine⟨?_,ms++[m],_,c',d',by simp;omega,by simp;omega,hmm,rfl,rfl,?_,Fq⟩
    .rcases de with ⟨rfl,rfl⟩|⟨rfl,rfl⟩|⟨rfl,rfl⟩<;>rcases og with ⟨rfl,rfl⟩|⟨rfl,rfl⟩|⟨rfl,rfl⟩<;>kernel_rfl
    rw[uA];exact fC.of_eq ((jC 3136768192 ae ae).trans (aJ ae))
   cases e2;simp only[go_sem,BP,q6];refine wy (site:=3136768192) (id:=3136768192) (bytes:=48) (xs:=[cG.ps m]) (rd:=[3136768128]) (uj.of_eq (by simp only[aP,Nat.reduceEqDiff,if_false])) (by simp[eK,aP,cG.ps]) (.inl rfl) (by simp only[nv,dN,fj];omega) fun c' iG r1 u1 fC jB de=>?_;have ya:=jB 3136640384 ae ae;simp only[go_sem] at ya;simp only[go_sem,ya,q7];have Ec:=(jB (3136640128+1) ae ae);simp only[Nat.reduceAdd,aP,Nat.reduceEqDiff,if_false] at Ec Fh;have hx3:=Ec.trans Fh;have gx3:grown (3136640128+1) xu 6 (si M) (.one (.hsl (3136640128+1) g2 6 0 M.length)) iG:=.inr ⟨aa3,g2,by rw[si,cq],hx3⟩
   obtain⟨fr,hx,tv,u9⟩:=Qs (blk:=ca iG 3136768384 ((iG 3136768384).1+1,some (.fO Ef 2 [[.p (.int .i64 F),.hsl (3136640128+1) g2 6 0 M.length]]))) (s:=3136768384) rn (gx3.of_eq (aJ ae));have wN:=oR.of_eq ((jB 3136768448 ae ae).trans (by simp only[aP,Nat.reduceEqDiff,if_false]:_=aN 3136768448));have nf:∀i,i≠3136640128+1->i∉fr:=fun i a h=>by
    rcases u9 with rfl|rfl
    .cases h
    exact a (sK.1 h)
   refine Qa (site:=3136768448) (id:=3136768448) (bytes:=32) (wN.of_eq (aJ ae)) hx tv (nf _ ae) (nf _ ae) (.inl rfl) (by simp only[dN,fj];omega) fun d' nN r2 u2 Fq jC og=>?_;have yc:=(jC 3136448128 ae ae (nf _ ae)).trans ((aJ ae).trans (jB 3136448128 ae ae));simp only[aP,Nat.reduceEqDiff,if_false] at yc;have DZ:=yc.trans bL2;simp only[go_sem,q0,q1,q6,q7,q8,mM,j8,qY,DZ,w2,pz];refine⟨?_,ms++[m],_,c',d',by simp;omega,by simp;omega,hmm,rfl,rfl,?_,Fq⟩
   .rcases u9 with rfl|rfl<;>rcases de with ⟨rfl,rfl⟩|⟨rfl,rfl⟩|⟨rfl,rfl⟩<;>rcases og with ⟨rfl,rfl⟩|⟨rfl,rfl⟩|⟨rfl,rfl⟩<;>kernel_rfl
   rw[uA];exact fC.of_eq ((jC 3136768192 ae ae (nf _ ae)).trans (aJ ae))
  have:j=ns.length:=aa;subst this;simp only[go_sem,i49_l1,i49_r2,q0,q1,q6,q7,q8,j8,qY,dT,w1];exact⟨au,ms,cs,c,d,aa,aa,aq,rfl,rfl,gm,gc⟩
 have:k=10:=aa;subst this;have jd:¬(((10+1:Nat):Int)<=10):=ae;simp only[go_sem,i49_l3,i49_r4,e6,e7,e8,jd];exact⟨_,⟨ms,cs,⟨lD,aq⟩,rfl⟩,EX ae gm gc⟩
end
end
end Go.Abs
