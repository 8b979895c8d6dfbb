/-
  The moves that are tried and those that are possible.
-/
import Derived.Test.YtniibcmpbldbcaaGreatDoorWx
set_option linter.all false
set_option maxRecDepth 100000
set_option maxHeartbeats 16000000
namespace Go.Abs
section
variable{g ty:Nat}
def A2(x y:dx):Bool:=decide (x.b<y.b)||(decide (x.b=y.b)&&decide (x.c<y.c))
def CX(m:dx):Prop:=(0<=m.b/\m.b<=1000000)/\0<=m.c/\m.c<=1000000
theorem Wf:Swo A2:=⟨fun a b h=>by unfold A2 at*;simp at*;omega,fun a b c h k=>by unfold A2 at*;simp at*;omega⟩
theorem ahI(x y:dx)(hx:CX x)(hy:CX y):∃n:Int,aH S 155 [MP x,MP y] (ri n)/\(decide (n<0)=A2 x y):=by
 obtain⟨⟨x1,x2⟩,x3,x4⟩:=hx;obtain⟨⟨y1,y2⟩,y3,y4⟩:=hy;have w1:IntKind.i64.wrap (x.b-y.b)=x.b-y.b:=sF aa aa;have w2:IntKind.i64.wrap (x.c-y.c)=x.c-y.c:=sF aa aa;cases hb:(x.b==y.b) with
 |true=>
  have e:x.b=y.b:=eq_of_beq hb;refine⟨x.c-y.c,?_,?_⟩
  .refine ba c155 ?_;simp only[go_sem,i155,bne,hb,w2]
  unfold A2;rw[Bool.eq_iff_iff];simp;omega
 |false=>
  have e:¬x.b=y.b:=by simpa using hb
  refine⟨x.b-y.b,?_,?_⟩
  .refine ba c155 ?_;simp only[go_sem,i155,bne,hb,w1]
  unfold A2;rw[Bool.eq_iff_iff];simp;omega
abbrev mP(o:List dx):List (List PV):=o.map dx.ps
theorem ack(o:List dx)(k:Nat)(v:dx):(mP o).set k v.ps=mP (o.set k v):=by simp[List.map_set]
theorem sC(o:List dx):(mP o).length=o.length:=cF _
def JS(id g ty:Nat)(es:List dx)(blk:aB)(v:V)(ak:aB):Prop:=v=.tup []/\(∃ws:List dx,ak id=(g,some (.arr ty 7 (mP ws)))/\ws.Perm es/\vQ A2 ws 0 ws.length)/\Kept (· =id) blk ak
abbrev DA:V:=.one (.p (.fn 155 [] []))
theorem alz{al:Al}{blk:aB}{id:Nat}{es:List dx}(o:al.ok id=true)(hl:es.length<=1000000)(hsm:∀m∈es,CX m)(hC:blk id=(g,some (.arr ty 7 (mP es)))):
  ∃v ak,jd S 187 [.one (.hsl id g 7 0 es.length),vi 0,vi es.length,DA] al blk v ak/\JS id g ty es blk v ak:=by
 have scm:S.shared 155=false:=ah;refine oY c187 (hU rfl) ?_;have w0:IntKind.i64.wrap (0+1)=((0+1:Nat):Int):=ae;simp only[go_sem,i187];refine cQ (fun k aj ak=>aj 0=.one (.hsl id g 7 0 es.length)/\aj 1=vi 0/\aj 2=vi es.length/\aj 3=DA/\aj 8=vi ((k+1:Nat):Int)/\ ∃zs:List dx,ak id=(g,some (.arr ty 7 (mP zs)))/\zs.Perm es/\vQ A2 zs 0 (k+1)/\Kept (· =id) blk ak) 0 es.length (aY _) ?_ ?_
 .simp only[go_sem];exact⟨rfl,es,hC,.refl _,fun p q x y _ h1 h2=>aa,Kept.refl _ _⟩
 rintro k aj bc hk ⟨h0,h1,h2,h3,h6,zs,hZ,hp,hs,cU⟩
 have kM:=hp.length_eq;by_cases aq:k+1<es.length
 .have aJ:((k+1:Nat):Int)<(es.length:Int):=aa;obtain⟨x,hx⟩:=aI (ls:=zs) (k:=k+1) aa;have sx:CX x:=hsm x (hp.mem_iff.1 (aQ hx));simp only[go_sem,i187_l3,h2,h6,aJ];refine cQ (fun q aj ak=>aj 0=.one (.hsl id g 7 0 es.length)/\aj 1=vi 0/\aj 2=vi es.length/\aj 3=DA/\aj 8=vi ((k+1:Nat):Int)/\aj 9=vi ((k+1-q:Nat):Int)/\ ∃ws:List dx,ak id=(g,some (.arr ty 7 (mP ws)))/\yM A2 zs ws x 0 (k+1) (k+1-q)/\Kept (· =id) blk ak) 0 (k+1) (aY _) ?_ ?_
  .simp only[go_sem,h0,h1,h2,h3,h6];exact⟨zs,hZ,yM.start (aY _) hx hs,cU⟩
  rintro q cS aT hq ⟨k0,k1,k2,k3,k6,k7,ws,hW,hI,F8⟩
  have wW:ws.length=es.length:=hI.perm.length_eq.trans kM;have wk:IntKind.i64.wrap (((k+1:Nat):Int)+1)=((k+1+1:Nat):Int):=bG (n:=k+1) aa;by_cases hj0:k+1-q=0
  .have e7:¬((0:Int)<((k+1-q:Nat):Int)):=aa;simp only[go_sem,i187_l1,i187_r2,k0,k1,k2,k3,k6,k7,e7,wk];refine⟨aD,aa,ws,hW,hI.perm.trans hp,hI.stop Wf (.inl hj0),F8⟩
  obtain⟨j,hj⟩:∃j,k+1-q=j+1:=⟨k-q,aa⟩;have e7:((0:Int)<((j+1:Nat):Int)):=aa;obtain⟨y,hy⟩:=aI (ls:=ws) (k:=j) aa;have sy:CX y:=hsm y ((hI.perm.trans hp).mem_iff.1 (aQ hy));rw[hj] at hI k7;have wj:IntKind.i64.wrap (((j+1:Nat):Int)-1)=(j:Int):=by rw[vK aa];omega
  have sZ:=MQ hI.at';have vt:=MQ hy;have j1:j+1<es.length:=by have:=hI.le;omega
  have j2:j<es.length:=aa;obtain⟨n,pl,hn⟩:=ahI x y sx sy;cases kr:A2 x y with
  |false=>
   rw[kr] at hn;have Ct:¬(n<0):=by simpa using hn
   simp only[go_sem,i187_l1,i187_r2,k0,k1,k2,k3,k6,k7,e7,wk,wj,hW,sZ,vt,dx.ps,j1,j2,o,scm,N6 pl,Ct];refine⟨aD,aa,ws,rfl,hI.perm.trans hp,hI.stop Wf (.inr ⟨y,aa,hy,kr⟩),F8⟩
  |true=>
   rw[kr] at hn;have Ct:n<0:=by simpa using hn
   have wJ:=hI.step Wf (aY _) hy kr;have hjj:¬(j+1=j):=aa;have l1:j+1<ws.length:=aa;have l2:j<ws.length:=aa;simp only[go_sem,i187_l1,i187_r2,k0,k1,k2,k3,k6,k7,e7,wj,hW,sZ,vt,dx.ps,j1,j2,l1,hjj,o,scm,N6 pl,Ct,mT,sC];have Gi:k+1-(q+1)=j:=aa;refine⟨aD,aD,aa,by rw[Gi],(ws.set (j+1) y).set j x,by rw[<- ack,<- ack];rfl,by rw[Gi];exact wJ,(F8.cZ rfl _).cZ rfl _⟩
 have aJ:¬(((k+1:Nat):Int)<(es.length:Int)):=aa;simp only[go_sem,i187_l3,h2,h6,aJ];exact⟨rfl,⟨zs,hZ,hp,hs.mono (.inl aa)⟩,cU⟩
theorem anr{al:Al}{blk:aB}{id:Nat}{es:List dx}(o:al.ok id=true)(f1:al.fs.contains 187=true)(hl:es.length<=12)(hsm:∀m∈es,CX m)(hC:blk id=(g,some (.arr ty 7 (mP es))))(lim:Int):
  ∃v ak,jd S 178 [.one (.hsl id g 7 0 es.length),vi 0,vi es.length,vi lim,DA] al blk v ak/\JS id g ty es blk v ak:=by
 refine oY c178 (hU rfl) ?_;have w0:IntKind.i64.wrap ((es.length:Int)-0)=(es.length:Int):=by rw[Int.sub_zero];exact sF aa aa
 have iH:(es.length:Int)<=12:=aa;simp only[go_sem,i178];refine oU ?_;simp only[go_sem,i178_l1,w0,iH,s187];refine xM hC (by rfl) (.inr ⟨o,by rw[show S.sites 187=[187] by kernel_rfl];simp only[uT,yH,f1,Fl]⟩) (P:=JS id g ty es blk) (fun mW h1 _=>alz h1 aa hsm hC) fun v ak hP=>?_;obtain⟨rfl,h2⟩:=hP;simp only[go_sem];exact⟨rfl,h2⟩
theorem ap7{al:Al}{blk:aB}{id:Nat}{es:List dx}(o:al.ok id=true)(f1:(S.sites 178).all al.fs.contains=true)(hl:es.length<=12)(hsm:∀m∈es,CX m)(hC:blk id=(g,some (.arr ty 7 (mP es)))):
  ∃v ak,jd S 154 [.one (.hsl id g 7 0 es.length),DA] al blk v ak/\JS id g ty es blk v ak:=by
 obtain⟨k,pb⟩:=Q4 es.length aa;have wu:IntKind.u64.wrap (es.length:Int)=(es.length:Int):=by
  have e:IntKind.u64.wrap (es.length:Int)=(es.length:Int)%18446744073709551616:=by unfold IntKind.wrap;rfl
  rw[e];omega
 refine oY c154 (hU rfl) ?_;have sbl:S.shared 145=false:=ah;simp only[go_sem,i154,wu,sbl,T1 pb,s178];refine xM hC (by rfl) (.inr ⟨o,f1⟩) (P:=JS id g ty es blk) (fun mW h1 h2=>anr h1 (by rw[h2];kernel_rfl) hl hsm hC k) fun v ak hP=>?_;obtain⟨rfl,h2⟩:=hP;simp only[go_sem];exact⟨rfl,h2⟩
def meq(a b:dx):Bool:=(a.k==b.k)&&((a.a==b.a)&&((a.b==b.b)&&((a.c==b.c)&&((a.l==b.l)&&((a.o==b.o)&&(a.s==b.s))))))
theorem aiL(x y:dx):pF [true,true,true,true,false,false,true] [.p (.int .i64 x.k),.p (.int .i64 x.a),.p (.int .i64 x.b),.p (.int .i64 x.c),.p (.bool x.l),.p (.bool x.o),.p (.int .i64 x.s)] [.p (.int .i64 y.k),.p (.int .i64 y.a),.p (.int .i64 y.b),.p (.int .i64 y.c),.p (.bool y.l),.p (.bool y.o),.p (.int .i64 y.s)]=some (meq x y):=by
 have e:∀a b:Int,qh true (.int .i64 a) (.int .i64 b)=some (a==b):=fun a b=>by simp[qh]
 have e2:∀a b:Bool,qh false (.bool a) (.bool b)=some (a==b):=fun a b=>by simp[qh]
 simp only[pF,meq,e,e2];cases (x.k==y.k)<;>cases (x.a==y.a)<;>cases (x.b==y.b)<;>cases (x.c==y.c)<;>cases (x.l==y.l)<;>cases (x.o==y.o)<;>cases (x.s==y.s)<;>rfl
theorem alr(ms:List dx)(x:dx)(hm:ms.length<=1000000):∃i:Int,aH S 177 [.one (.p (.sl (mP ms))),MP x] (ri i):=by
 have:∃r,isN r/\aH S 177 [.one (.p (.sl (mP ms))),MP x] r:=by
  refine Bw rfl c177 (hU rfl) ?_;simp only[go_sem,i177];refine cQ (fun k aj blk=>aj 0=.one (.p (.sl (mP ms)))/\aj 3=.one (.bt 11328000000 1 0)/\blk 11328000000=(1,some (.var [.p (.int .i64 x.k),.p (.int .i64 x.a),.p (.int .i64 x.b),.p (.int .i64 x.c),.p (.bool x.l),.p (.bool x.o),.p (.int .i64 x.s)]))/\aj 7=vi ms.length/\aj 8=vi k) 0 ms.length (aY _) ?_ ?_
  .simp only[go_sem];first|done|rfl|exact⟨rfl,rfl⟩|exact⟨rfl,rfl,rfl⟩
  rintro k aj blk hk ⟨h0,h3,hB,h7,h8⟩
  by_cases aq:k<ms.length
  .have aJ:((k:Int)<(ms.length:Int)):=aa;obtain⟨m,nz⟩:=aI aq;have IS:=MQ nz;have w1:=bG (n:=k) aa;have he:=aiL x m;cases hb:meq x m with
   |true=>rw[hb] at he;simp only[go_sem,i177_l1,h0,h3,hB,h7,h8,aJ,IS,dx.ps,he];exact⟨aD,_,⟨_,rfl⟩,rfl⟩
   |false=>rw[hb] at he;simp only[go_sem,i177_l1,h0,h3,hB,h7,h8,aq,aJ,IS,dx.ps,w1,he];exact aD
  have:k=ms.length:=aa;subst this;simp only[go_sem,i177_l1,i177_r2,h7,h8,dZ];exact⟨_,⟨_,rfl⟩,rfl⟩
 obtain⟨_,⟨i,rfl⟩,h⟩:=this;exact⟨i,h⟩
theorem Yd(ms:List dx)(x:dx)(hm:ms.length<=1000000):∃b,aH S 153 [.one (.p (.sl (mP ms))),MP x] (rb b):=by obtain⟨i,pi⟩:=alr ms x hm;refine⟨decide (0<=i),?_⟩;refine ba c153 ?_;simp only[go_sem,i153,s177,dV pi]
theorem Qh{S:List Bool}{x:Nat}(h:sn S x=false):x<S.length:=by
 rcases Nat.lt_or_ge x S.length with h1|h1
 .exact h1
 rw[sn,cJ,mS h1] at h;cases h
theorem afg(next:Nat->Nat):∀(k x:Nat) (S:List Bool),(∀y∈(eZ next k x S).1,sn S y=false)/\(eZ next k x S).1.Nodup/\ ∀y,sn (eZ next k x S).2 y=(sn S y||decide (y∈(eZ next k x S).1)):=by
 intro k
 induction k with
 |zero=>intro x S;simp[eZ]
 |succ k ih=>
  intro x S;unfold eZ;cases hx:S.getD x true with
  |true=>simp
  |false=>
   have hl:=Qh (S:=S) (x:=x) hx;obtain⟨h1,h2,h3⟩:=ih (next x) (S.set x true);simp only[eY,if_false];have km:∀y,sn (S.set x true) y=if y=x then true else sn S y:=fun y=>Nk hl;refine⟨fun y hy=>?_,?_,fun y=>?_⟩
   .rcases cT.1 hy with rfl|hy
    .exact hx
    have:=h1 y hy;rw[km] at this;split at this
    .cases this
    exact this
   .refine nY.2 ⟨fun hm=>?_,h2⟩;have:=h1 x hm;rw[km,if_pos rfl] at this;cases this
   rw[h3,km];by_cases e:y=x
   .subst e;simp
   rw[if_neg e];have:decide (y∈x::(eZ next k (next x) (S.set x true)).1)=decide (y∈(eZ next k (next x) (S.set x true)).1):=by simp[e]
   rw[this]
theorem arI(next:Nat->Nat)(N:Nat):∀k,(dC next N k).1.flatten.Nodup/\(∀y,y<N->sn (dC next N k).2 y=decide (y∈(dC next N k).1.flatten))/\(∀y∈(dC next N k).1.flatten,y<N)/\ ∀x,x<k->x<N->sn (dC next N k).2 x=true:=by
 intro k
 induction k with
 |zero=>refine⟨by simp[dC],fun y hy=>?_,by simp[dC],fun x hx=>absurd hx (tA x)⟩;have:(dC next N 0).2=List.replicate N false:=rfl;rw[this,VX hy];simp[dC]
 |succ k ih=>
  obtain⟨h1,h2,h4,h3⟩:=ih;rw[yG];unfold uS;have hlen:=GW next N k;cases hk:(dC next N k).2.getD k true with
  |true=>
   rw[if_pos rfl];refine⟨h1,h2,h4,fun x hx zK=>?_⟩;rcases nZ.1 hx with h|rfl
   .exact h3 x h zK
   exact hk
  |false=>
   rw[if_neg ae];have hkN:k<N:=by have:=Qh (S:=(dC next N k).2) hk;omega
   obtain⟨g1,g2,g3⟩:=afg next ((dC next N k).2.length+1) k (dC next N k).2;have Uf:=aff next ((dC next N k).2.length+1) k (dC next N k).2 (by have:=Kc (dC next N k).2;omega);refine⟨?_,fun y hy=>?_,?_,fun x hx zK=>?_⟩
   .rw[Di,Hh];refine⟨h1,by simpa using g2,fun y hy z hz=>?_⟩;rintro rfl
    have e1:=g1 y (by simpa using hz);have hyN:=h4 y hy;rw[h2 y hyN] at e1;simp[hy] at e1
   .rw[g3,h2 y hy,Di,Bool.eq_iff_iff];simp
   .intro y hy;rw[Di,fq] at hy;rcases hy with hy|hy
    .exact h4 y hy
    have:=Qh (g1 y (by simpa using hy));omega
   rcases nZ.1 hx with h|rfl
   .rw[g3,h3 x h zK];rfl
   exact Uf
theorem GX(next:Nat->Nat)(N:Nat):(fV next N).flatten.Nodup/\ ∀y,y<N->y∈(fV next N).flatten:=by obtain⟨h1,h2,_,h3⟩:=arI next N N;refine⟨h1,fun y hy=>?_⟩;have:=h3 y hy hy;rw[h2 y hy] at this;exact of_decide_eq_true this
theorem acG{L:List (List Nat)}(h:L.flatten.Nodup){i j:Nat}{a b:List Nat}{x:Nat}(hi:L[i]?=some a)(hj:L[j]?=some b)(ha:x∈a)(hb:x∈b):i=j:=by
 induction L generalizing i j with
 |nil=>simp at hi
 |cons l L ih=>
  rw[mR,Hh] at h;obtain⟨_,h2,h3⟩:=h;cases i with
  |zero=>
   simp at hi;subst hi;cases j with
   |zero=>rfl
   |succ j=>simp at hj;exact absurd rfl (h3 x ha x (Fm.2 ⟨b,aQ hj,hb⟩))
  |succ i=>
   simp at hi;cases j with
   |zero=>simp at hj;subst hj;exact absurd rfl (h3 x hb x (Fm.2 ⟨a,aQ hi,ha⟩))
   |succ j=>simp at hj;rw[ih h2 hi hj]
section
variable {F:Nat} {ls:List Let}
theorem Oz{j:Nat}{f:Fc}(h:(dS F ls)[j]?=some f):∃w,(fV (aO ls) (nD ls))[j]?=some w/\f=lA F ls w:=by
 unfold dS at h;rw[fX] at h;cases hw:(fV (aO ls) (nD ls))[j]? with
 |none=>rw[hw] at h;cases h
 |some w=>rw[hw] at h;cases h;exact⟨w,rfl,rfl⟩
theorem aid{i j:Nat}{a b:Fc}{d:Nat}(hi:(dS F ls)[i]?=some a)(hj:(dS F ls)[j]?=some b)(ha:d∈a.dd)(hb:d∈b.dd):i=j:=by obtain⟨v,hv,rfl⟩:=Oz hi;obtain⟨w,hw,rfl⟩:=Oz hj;rw[DH] at ha hb;exact acG (GX _ _).1 hv hw (tv.1 ha).1 (tv.1 hb).1
theorem aie{d:Nat}(hd:d<2*ls.length):∃(j:Nat) (f:Fc),(dS F ls)[j]?=some f/\d∈f.dd:=by
 have:=(GX (aO ls) (nD ls)).2 d (by unfold nD;omega);obtain⟨w,hw,IF⟩:=Fm.1 this;obtain⟨j,hj⟩:=jy hw;have jK:(dS F ls)[j]?=some (lA F ls w):=by unfold dS;rw[fX,hj];rfl
 refine⟨j,lA F ls w,jK,?_⟩;rw[DH];exact tv.2 ⟨IF,by simpa using hd⟩
theorem adZ{ds:List Nat}{v:Nat}{d:Nat}:∀ {L:List Nat},d<L.length->(oI L ds v)[d]?=if d∈ds then some v else L[d]? :=by
 induction ds with
 |nil=>intro L _;simp[oI]
 |cons e ds ih=>
  intro L hd;show(oI (L.set e v) ds v)[d]?=_;rw[ih (by simpa using hd),mT];by_cases h1:d∈ds
  .simp[h1]
  by_cases h2:e=d
  .subst h2;simp[hd]
  have:d≠e:=fun h=>h2 h.symm;simp[h1,h2,this]
theorem amc{d:Nat}:∀ {fs:List Fc} {j:Nat} {L:List Nat},d<L.length->(∀f∈fs,d∉f.dd)->(qE fs j L)[d]?=L[d]? :=by
 intro fs
 induction fs with
 |nil=>intro j L _ _;rfl
 |cons f fs ih=>intro j L hd h;show(qE fs (j+1) (oI L f.dd j))[d]?=_;rw[ih (by rw[Nf];exact hd) fun g hg=>h g (by simp[hg]),adZ hd,if_neg (h f af)]
theorem amb{d:Nat}:∀ {fs:List Fc} {j i:Nat} {L:List Nat} {f:Fc},d<L.length->fs[i]?=some f->d∈f.dd->(∀i' f',fs[i']?=some f'->d∈f'.dd->i'=i)->(qE fs j L)[d]?=some (j+i):=by
 intro fs
 induction fs with
 |nil=>intro j i L f _ h;simp at h
 |cons g fs ih=>
  intro j i L f hd hi hf hu;show(qE fs (j+1) (oI L g.dd j))[d]?=_;cases i with
  |zero=>
   simp at hi;subst hi;rw[amc (by rw[Nf];exact hd),adZ hd,if_pos hf]
   .rfl
   intro f' hf' F0;obtain⟨i',zx⟩:=jy hf';have:=hu (i'+1) f' (by simpa using zx) F0;omega
  |succ i=>simp at hi;rw[ih (by rw[Nf];exact hd) hi hf fun i' f' h1 h2=>by have:=hu (i'+1) f' (by simpa using h1) h2;omega];congr 1;omega
theorem left_at{d j:Nat}{f:Fc}(hd:d<2*ls.length)(hf:(dS F ls)[j]?=some f)(hm:d∈f.dd):(iN F ls)[d]?=some j:=by unfold iN;rw[amb (by simpa using hd) hf hm fun i' f' h1 h2=>aid h1 hf h2 hm];congr 1;omega
theorem Oy{d:Nat}(hd:d<2*ls.length):∃j,(dS F ls)[j]?=some (lQ F ls d)/\d∈(lQ F ls d).dd/\(iN F ls)[d]?=some j:=by
 obtain⟨j,f,hf,hm⟩:=aie (F:=F) hd;have hl:=left_at hd hf hm;have e:lQ F ls d=f:=by unfold lQ;rw[cJ (l:=iN F ls),hl,kA,cJ,hf,kA]
 exact⟨j,e▸hf,e▸hm,hl⟩
theorem ZT{d:Nat}(hd:d<2*ls.length):lQ F ls d∈dS F ls:=by obtain⟨j,h1,_⟩:=Oy (F:=F) hd;exact aQ h1
end
abbrev iI:Nat:=29
abbrev edT:Nat:=3
def MW(k:Int)(av:Nat)(m:dx):Prop:=m.k=k/\m.a=(av:Int)/\m.l=false/\m.o=false/\m.s=0/\CX m
theorem lI2{l:List Int}(h:l.length=2):∃a b,l=[a,b]:=by
 match l,h with
 |[a,b],_=>exact⟨a,b,rfl⟩
theorem lI3{l:List Int}(h:l.length=3):∃a b c,l=[a,b,c]:=by
 match l,h with
 |[a,b,c],_=>exact⟨a,b,c,rfl⟩
def Jt(blk:aB)(v:V)(ak:aB):Prop:=v=.tup []/\ak=blk
theorem Le{Q:ef}{al:Al}{aj:Env}{blk:aB}{os:List ch}{d:Option Nat}{f:Nat}{vs:List V}{P:V->aB->Prop}(qZ:(vs.map (mh blk)).flatten=[])(hh:al=.all\/(S.sites f).all al.fs.contains=true)
  (h:∀mW,mW.fs=S.sites f->∃v ak,jd S f vs mW blk v ak/\P v ak) (hK:∀v ak,P v ak->RN S al os Q (put aj d v) ak):gP S al (.sc f vs) d os Q aj blk:=by
 refine wD (P:=P) ?_ (h _ rfl) hK;rcases hh with rfl|h2
 .rfl
 refine holds_of ?_ h2;show al.gG (vs.map (mh blk)).flatten=true;rw[qZ];rfl
theorem aly{al:Al}{blk:aB}:∃v ak,jd S 187 [.one (.p .nils),vi 0,vi 0,DA] al blk v ak/\Jt blk v ak:=by refine oY c187 (hU rfl) ?_;have w0:IntKind.i64.wrap 1=1:=ae;have hz:¬((1:Int)<0):=ae;simp only[go_sem,i187];refine oU ?_;simp only[go_sem,i187_l3,w0,hz];first|done|exact⟨rfl,rfl⟩|trace_state
theorem anq{al:Al}{blk:aB}(f1:al.fs.contains 187=true)(lim:Int):∃v ak,jd S 178 [.one (.p .nils),vi 0,vi 0,vi lim,DA] al blk v ak/\Jt blk v ak:=by refine oY c178 (hU rfl) ?_;have w0:IntKind.i64.wrap (0-0)=0:=ae;have iH:((0:Int)<=12):=ae;simp only[go_sem,i178];refine oU ?_;simp only[go_sem,i178_l1,w0,iH,s187];refine Le (by rfl) (.inr (by rw[show S.sites 187=[187] by kernel_rfl];simp only[uT,yH,f1,Fl])) (P:=Jt blk) (fun mW _=>aly) fun v ak hP=>?_;obtain⟨rfl,h2⟩:=hP;simp only[go_sem];exact⟨rfl,h2⟩
theorem ap6{al:Al}{blk:aB}(f1:(S.sites 178).all al.fs.contains=true):∃v ak,jd S 154 [.one (.p .nils),DA] al blk v ak/\Jt blk v ak:=by obtain⟨k,pb⟩:=Q4 0 aa;have wu:IntKind.u64.wrap ((0:Nat):Int)=((0:Nat):Int):=ae;refine oY c154 (hU rfl) ?_;have sbl:S.shared 145=false:=ah;simp only[go_sem,i154,wu,sbl,T1 pb,s178];refine Le (by rfl) (.inr f1) (P:=Jt blk) (fun mW h2=>anq (by rw[h2];kernel_rfl) k) fun v ak hP=>?_;obtain⟨rfl,h2⟩:=hP;simp only[go_sem];exact⟨rfl,h2⟩
theorem ah0{F:Nat}{ls:List Let}(g:ct F ls)(kk:Int){av:Nat}(ha:av<ls.length):∃ms:List dx,(ms.length<=2/\ ∀m∈ms,MW kk av m)/\aH S 136 [.one (.p (dj F ls)),vi kk,vi av] (.one (bK iI 7 (mP ms))):=by
 have hlen:=g.len;have hN:nD ls<=1600:=by have:=uy ls ls.length;unfold nD;have:(aC ls).length<=ls.length:=uy ls ls.length;omega
 suffices h:∃r,(∃ms:List dx,(ms.length<=2/\ ∀m∈ms,MW kk av m)/\r=.one (bK iI 7 (mP ms)))/\aH S 136 [.one (.p (dj F ls)),vi kk,vi av] r by obtain⟨r,⟨ms,h1,rfl⟩,h2⟩:=h;exact⟨ms,h1,h2⟩
 refine Bw rfl c136 (hU rfl) ?_;simp only[go_sem,i136];refine cQ (fun k aj blk=>aj 0=.one (.p (dj F ls))/\aj 1=vi kk/\aj 2=vi av/\aj 14=vi k/\ ∃ms c,ms.length<=k/\(∀m∈ms,MW kk av m)/\aj 7=.one c/\grown 8705280192 iI 7 (mP ms) (.one c) blk) 0 2 (aY _) ?_ ?_
 .simp only[go_sem];exact⟨rfl,[],.p .nils,aZ _,fun m h=>(by cases h),rfl,grown.nil⟩
 rintro k aj blk hk ⟨h0,h1,h2,mu,ms,c,pL,ao,h7,gm⟩
 by_cases aq:k<2
 .have aJ:((k:Int)<2):=aa;obtain⟨j,zA,jK,yg⟩:=K7 g (d:=2*av+k) aa;have Gb:=aQ jK;have sY:=iA zA;have wM:=K8 jK;have m2:=qF (a:=av) aa;have m3:=wrap_add (a:=2*av) (b:=k) aa;have w1:=bG (n:=k) aa;have IE:2*av+k<(iN F ls).length:=by rw[GB];omega
  have hdd:=TP Gb;have akc:=TQ g.ok Gb;obtain⟨_,_,hdm,_⟩:=Oy (F:=F) (ls:=ls) (d:=2*av+k) aa;generalize L0:lQ F ls (2*av+k)=f at*;simp only[go_sem,i136_l4,h0,h2,mu,aJ,m2,m3,sY,wM,Fc.ps];refine⟨aD,?_⟩;obtain⟨g9,hg9⟩:∃g9,(blk 8704321024).fst+1=g9:=⟨_,rfl⟩;rw[hg9]
  refine cQ (fun q cS aT=>cS 0=.one (.p (dj F ls))/\cS 1=vi kk/\cS 2=vi av/\cS 14=vi k/\cS 7=.one c/\grown 8705280192 iI 7 (mP ms) (.one c) aT/\cS 9=.one (.bt 8704321024 g9 0)/\aT 8704321024=(g9,some (.var (f.ps.map .p)))/\cS 34=.one (.p (.sl (nP f.dd)))/\cS 35=vi f.dd.length/\cS 36=vi q/\(0<q->f.dd.length<=3)/\ ∃zs ce,zs.length=q/\(∀z∈zs,0<=z/\z<=1000000)/\cS 10=.one ce/\grown 8704704256 edT 1 (iP zs) (.one ce) aT) 0 f.dd.length (aY _) ?_ ?_
  .have gm':grown 8705280192 iI 7 (mP ms) (.one c) (cZ (cZ blk 8704321024 (g9,some (Ob.var [C.p (PV.bool false),C.p PV.nils,C.p PV.nils,C.p PV.nils,C.p (PV.bool false)]))) 8704321024 (g9,some (Ob.var (f.ps.map .p)))):=gm.of_eq ((aN ae).trans (aN ae));simp only[go_sem,h0,h1,h2,h7,mu,Fc.ps] at gm' ⊢;refine⟨gm',rfl,fun h=>h.elim,[],.p .nils,rfl,fun z h=>(by cases h),rfl,grown.nil⟩
  rintro q cS aT hq ⟨p0,p1,p2,vC,p7,zj,p9,b9,ES,MZ,M0,h3,zs,ce,kM,hzb,CK,gz⟩
  simp only[Fc.ps,dG,lK] at b9;by_cases Et:q<f.dd.length
  .have UC:((q:Int)<(f.dd.length:Int)):=aa;obtain⟨d,hd⟩:=aI Et;have mv:=iA hd;have hdb:=hdd d (aQ hd);have wq:=wrap_small (n:=d/2) aa;have w2:=bG (n:=q) aa;by_cases c1:d/2<av
   .have c1':(((d/2:Nat):Int)<(av:Int)):=aa;simp only[go_sem,i136_l1,i136_r3,p0,p1,p2,vC,p7,p9,CK,ES,MZ,M0,b9,Et,UC,mv,eD,fy,wq,c1',w1,aq];exact⟨ms,c,aa,ao,rfl,zj⟩
   have c1':¬(((d/2:Nat):Int)<(av:Int)):=aa;by_cases c2:3<f.dd.length
   .have c2':((3:Int)<(f.dd.length:Int)):=aa;simp only[go_sem,i136_l1,i136_r3,p0,p1,p2,vC,p7,p9,CK,ES,MZ,M0,b9,Et,UC,mv,eD,fy,wq,c1',c2',w1,aq];exact⟨ms,c,aa,ao,rfl,zj⟩
   have c2':¬((3:Int)<(f.dd.length:Int)):=aa;simp only[go_sem,i136_l1,p2,p9,CK,ES,MZ,M0,b9,UC,mv,eD,fy,wq,c1',c2'];refine qk (xs:=[[.int .i64 ((d/2:Nat):Int)]]) (gz.of_eq (aN ae)) (by simp only[eT,aS,if_true];rfl) (.inl rfl) (by simp only[wZ,cE,dQ];omega) fun c2 jz gz2 hb=>?_;have q9:=hb 8704321024 ae ae;have uF:=zj.of_eq ((hb 8705280192 ae ae).trans (aN ae));simp only[go_sem,b9] at q9;simp only[go_sem,p0,p1,p2,vC,p7,p9,ES,MZ,M0,q9,w2,Fc.ps];refine⟨Et,uF,fun _=>aa,zs++[((d/2:Nat):Int)],c2,by simp;omega,fun z hz=>?_,rfl,?_⟩
   .rcases fq.1 hz with h|h
    .exact hzb z h
    have:=j6.1 h;omega
   rw[show iP (zs++[((d/2:Nat):Int)])=iP zs++[[.int .i64 ((d/2:Nat):Int)]] by simp[iP]];exact gz2
  have:q=f.dd.length:=aa;subst this;have akf:0<f.dd.length:=NF hdm;have qo:=h3 akf;rcases gz with ⟨e,_⟩|⟨_,gg,e,bz⟩
  .have hz0:(iP zs).length=0:=by rw[e];rfl
   rw[wZ] at hz0;omega
  cases e;have sS:S.shared 117=true:=ah;simp only[go_sem,i136_l1,i136_r2,CK,MZ,M0,dZ,sS,wZ];refine xM bz (by rfl) (.inl rfl) (P:=Fa tZ 8704704256 gg edT zs aT) (fun mW h1 h2=>V5 h1 (by rw[h2];kernel_rfl) aa bz) fun v jz hP=>?_;obtain⟨rfl,⟨ws,bw,pw,sw⟩,kw⟩:=hP;have uF:=zj.of_eq (kw 8705280192 ae);have wW:=pw.length_eq;have hwb:∀z∈ws,0<=z/\z<=1000000:=fun z hz=>hzb z (pw.mem_iff.1 hz);rw[kM] at wW;clear sw pw hzb b9 bz;clear h3 Et hdd akc Gb hdm hq;generalize f.dd.length=n at*;have s120:S.shared 153=false:=ah;have zS:(((2:Nat):Int)==2)=true:=ae;have q12:(((1:Nat):Int)==2)=false:=ae;have q32:(((3:Nat):Int)==2)=false:=ae;have q13:(((1:Nat):Int)==3)=false:=ae;have rm:(((2:Nat):Int)==3)=false:=ae
  have q33:(((3:Nat):Int)==3)=true:=ae;rcases(by omega:n=1\/n=2\/n=3) with rfl|rfl|rfl
  .simp only[go_sem,i136_r3,p0,p1,p2,vC,p7,CK,kM,q12,q13,w1,aq];exact⟨ms,c,aa,ao,rfl,uF.of_eq ((aN ae).trans (aN ae))⟩
  .obtain⟨y0,y1,rfl⟩:=lI2 wW;by_cases h8:kk=8
   .have e8:(kk !=8)=false:=by rw[h8];rfl
    simp only[go_sem,i136_r3,p0,p1,p2,vC,p7,CK,kM,zS,rm,e8,w1,aq];exact⟨ms,c,aa,ao,rfl,uF.of_eq ((aN ae).trans (aN ae))⟩
   have e8:(kk !=8)=true:=by simpa using h8
   simp only[go_sem,i136_r3,p1,p2,p7,CK,kM,zS,e8,bw];obtain⟨bb,pcv⟩:=Yd ms ⟨kk,av,y1,0,false,false,0⟩ aa;have Vk:aH S 153 [.one (.p (.sl (mP ms))),.agg [.p (.int .i64 kk),.p (.int .i64 av),.p (.int .i64 y1),.p (.int .i64 0),.p (.bool false),.p (.bool false),.p (.int .i64 0)]] (rb bb):=pcv;obtain⟨r,snB,hr⟩:=uF.VZ;simp only[go_sem,s120,snB,cH Vk];cases bb with
   |true=>simp only[go_sem,p0,p1,p2,vC,p7,w1,aq];exact⟨ms,c,aa,ao,rfl,uF.of_eq (by simp only[aS,Nat.reduceEqDiff,if_false])⟩
   |false=>
    simp only[go_sem,p7];refine qk (xs:=[dx.ps ⟨kk,av,y1,0,false,false,0⟩]) (uF.of_eq (by simp only[aS,Nat.reduceEqDiff,if_false])) (by simp only[eT,aS,if_true];rfl) (.inl rfl) (by simp only[sC,cE,dQ];omega) fun c2 qf uG kh=>?_;simp only[go_sem,p0,p1,p2,vC,w1,aq];refine⟨ms++[⟨kk,av,y1,0,false,false,0⟩],c2,by simp;omega,fun m hm=>?_,rfl,by rw[show mP (ms++[⟨kk,av,y1,0,false,false,0⟩])=mP ms++[dx.ps ⟨kk,av,y1,0,false,false,0⟩] by simp[mP]];exact uG⟩;rcases fq.1 hm with h|h
    .exact ao m h
    have:=j6.1 h;subst this;exact⟨rfl,rfl,rfl,rfl,rfl,hwb y1 af,af⟩
  obtain⟨y0,y1,y2,rfl⟩:=lI3 wW;by_cases h8:kk=8
  .have e8:(kk==8)=true:=by rw[h8];rfl
   simp only[go_sem,i136_r3,p1,p2,p7,CK,kM,q32,q33,e8,bw];obtain⟨bb,pcv⟩:=Yd ms ⟨kk,av,y1,y2,false,false,0⟩ aa;have Vk:aH S 153 [.one (.p (.sl (mP ms))),.agg [.p (.int .i64 kk),.p (.int .i64 av),.p (.int .i64 y1),.p (.int .i64 y2),.p (.bool false),.p (.bool false),.p (.int .i64 0)]] (rb bb):=pcv;obtain⟨r,snB,hr⟩:=uF.VZ;refine⟨aD,?_⟩;simp only[go_sem,s120,snB,cH Vk];cases bb with
   |true=>simp only[go_sem,p0,p1,p2,vC,p7,w1,aq];exact⟨ms,c,aa,ao,rfl,uF.of_eq (by simp only[aS,Nat.reduceEqDiff,if_false])⟩
   |false=>
    simp only[go_sem,p7];refine qk (xs:=[dx.ps ⟨kk,av,y1,y2,false,false,0⟩]) (uF.of_eq (by simp only[aS,Nat.reduceEqDiff,if_false])) (by simp only[eT,aS,if_true];rfl) (.inl rfl) (by simp only[sC,cE,dQ];omega) fun c2 qf uG kh=>?_;simp only[go_sem,p0,p1,p2,vC,w1,aq];refine⟨ms++[⟨kk,av,y1,y2,false,false,0⟩],c2,by simp;omega,fun m hm=>?_,rfl,by rw[show mP (ms++[⟨kk,av,y1,y2,false,false,0⟩])=mP ms++[dx.ps ⟨kk,av,y1,y2,false,false,0⟩] by simp[mP]];exact uG⟩;rcases fq.1 hm with h|h
    .exact ao m h
    have:=j6.1 h;subst this;exact⟨rfl,rfl,rfl,rfl,rfl,hwb y1 af,hwb y2 af⟩
  have e8:(kk==8)=false:=by simpa using h8
  simp only[go_sem,i136_r3,p0,p1,p2,vC,p7,CK,kM,q32,q33,e8,w1,aq];exact⟨ms,c,aa,ao,rfl,uF.of_eq ((aN ae).trans (aN ae))⟩
 have:k=2:=aa;subst this;have mI:¬(((2:Nat):Int)<2):=ae;have sS:S.shared 154=true:=ah;simp only[go_sem,i136_l4,i136_r5,h7,mu,mI,sS];rcases gm with ⟨e,e2⟩|⟨aK,gg,e2,bm⟩
 .cases e2;have:ms=[]:=by simpa [mP] using e
  subst this;refine Le (by rfl) (.inl rfl) (P:=Jt blk) (fun mW h2=>ap6 (by rw[h2];kernel_rfl)) fun v jz hP=>?_;obtain⟨rfl,rfl⟩:=hP;simp only[go_sem,h7];exact⟨_,⟨[],⟨af,fun m h=>by cases h⟩,rfl⟩,rfl⟩
 cases e2;rw[sC] at h7 ⊢;refine xM bm (by rfl) (.inl rfl) (P:=JS 8705280192 gg iI ms blk) (fun mW h1 h2=>ap7 h1 (by rw[h2];kernel_rfl) aa (fun m hm=>(ao m hm).2.2.2.2.2) bm) fun v jz hP=>?_;obtain⟨rfl,⟨ws,bw,pw,sw⟩,kw⟩:=hP;simp only[go_sem,h7];have wW:=pw.length_eq;refine⟨_,⟨ws,⟨aa,fun m hm=>ao m (pw.mem_iff.1 hm)⟩,rfl⟩,?_⟩;rw[<- wW,<- sC ws];refine sQ (.inr ⟨fun e=>aK ?_,gg,rfl,bw⟩);have h0:(mP ws).length=0:=by rw[e];rfl
 rw[sC,wW] at h0;rw[Hg.1 h0];rfl
def CJ(k:Int)(n:Nat)(m:dx):Prop:= ∃a,a<n/\MW k a m
theorem Vb{k:Int}{n a:Nat}{ms ns:List dx}(h:∀m∈ms,CJ k n m)(h2:∀m∈ns,MW k a m)(ha:a<n):∀m∈ms++ns,CJ k n m:=fun m hm=>(fq.1 hm).elim (h m) fun h3=>⟨a,ha,h2 m h3⟩
section
variable {F:Nat} {ls:List Let}
theorem ahi(g:ct F ls)(aK:0<ls.length){kk:Int}(d2:(kk==2)=false)(d5:(kk==5)=false)(d7:(kk==7)=false)(d3:(kk==3)=false)(d6:(kk==6)=false)(d8:(kk==8)=false):∃ms:List dx,(ms.length<=2*ls.length/\ ∀m∈ms,CJ kk ls.length m)/\aH S 100 [.one (.p (dj F ls)),vi kk] (.one (bK iI 7 (mP ms))):=by
 have hlen:=g.len;have bh:(bJ (pieces ls)).length=ls.length:=by rw[bJ,cF,eW]
 have fR:(((ls.length:Nat):Int)==0)=false:=by rw[beq_eq_false_iff_ne];omega
 suffices h:∃r,(∃ms:List dx,(ms.length<=2*ls.length/\ ∀m∈ms,CJ kk ls.length m)/\r=.one (bK iI 7 (mP ms)))/\aH S 100 [.one (.p (dj F ls)),vi kk] r by obtain⟨r,⟨ms,h1,rfl⟩,h2⟩:=h;exact⟨ms,h1,h2⟩
 refine Bw rfl c100 (hU rfl) ?_;simp only[go_sem,i100,i100_r12,bh,fR];refine cQ (fun k aj blk=>aj 0=.one (.p (dj F ls))/\aj 1=vi kk/\aj 41=vi ls.length/\aj 42=vi k/\ ∃ms c,ms.length<=2*k/\(∀m∈ms,CJ kk ls.length m)/\aj 5=.one c/\grown 6400768320 iI 7 (mP ms) (.one c) blk) 0 ls.length (aY _) ?_ ?_
 .simp only[go_sem];exact⟨rfl,[],.p .nils,af,fun m h=>(by cases h),rfl,grown.nil⟩
 rintro k aj blk hk ⟨h0,h1,nk,lB,ms,c,pL,ao,h5,gm⟩
 by_cases aq:k<ls.length
 .have aJ:((k:Int)<(ls.length:Int)):=aa;have w1:=bG (n:=k) aa;simp only[go_sem,i100_l10,i100_r9,h1,nk,lB,h5,aJ,d2,d5,d7,d3,d6,d8];refine qk (xs:=[dx.ps ⟨kk,k,0,0,false,false,0⟩]) (gm.of_eq (by simp only[aS,Nat.reduceEqDiff,if_false])) (by simp only[eT,aS,if_true];rfl) (.inl rfl) (by simp only[sC,cE,dQ];omega) fun c2 qf uG kh=>?_;simp only[go_sem,h0,h1,nk,lB,w1,aq];refine⟨ms++[⟨kk,k,0,0,false,false,0⟩],c2,by simp;omega,fun m hm=>?_,rfl,by rw[show mP (ms++[⟨kk,k,0,0,false,false,0⟩])=mP ms++[dx.ps ⟨kk,k,0,0,false,false,0⟩] by simp[mP]];exact uG⟩;rcases fq.1 hm with h|h
  .exact ao m h
  have:=j6.1 h;subst this;exact⟨k,aq,rfl,rfl,rfl,rfl,rfl,by simp[CX]⟩
 have:k=ls.length:=aa;subst this;simp only[go_sem,i100_l10,i100_r11,nk,lB,h5,dZ];exact⟨_,⟨ms,⟨pL,ao⟩,rfl⟩,sQ gm⟩
theorem ahh(g:ct F ls)(aK:0<ls.length){kk:Int}(vg:kk=3\/kk=6\/kk=8):∃ms:List dx,(ms.length<=2*ls.length/\ ∀m∈ms,CJ kk ls.length m)/\aH S 100 [.one (.p (dj F ls)),vi kk] (.one (bK iI 7 (mP ms))):=by
 have hlen:=g.len;have lo:S.lone 6402944256=false:=ah;have bh:(bJ (pieces ls)).length=ls.length:=by rw[bJ,cF,eW]
 have fR:(((ls.length:Nat):Int)==0)=false:=by rw[beq_eq_false_iff_ne];omega
 suffices h:∃r,(∃ms:List dx,(ms.length<=2*ls.length/\ ∀m∈ms,CJ kk ls.length m)/\r=.one (bK iI 7 (mP ms)))/\aH S 100 [.one (.p (dj F ls)),vi kk] r by obtain⟨r,⟨ms,h1,rfl⟩,h2⟩:=h;exact⟨ms,h1,h2⟩
 have d2:(kk==2)=false:=by rw[beq_eq_false_iff_ne];omega
 have d5:(kk==5)=false:=by rw[beq_eq_false_iff_ne];omega
 have d7:(kk==7)=false:=by rw[beq_eq_false_iff_ne];omega
 refine Bw rfl c100 (hU rfl) ?_;simp only[go_sem,i100,i100_r12,bh,fR];refine cQ (fun k aj blk=>aj 0=.one (.p (dj F ls))/\aj 1=vi kk/\aj 41=vi ls.length/\aj 42=vi k/\ ∃ms c,ms.length<=2*k/\(∀m∈ms,CJ kk ls.length m)/\aj 5=.one c/\grown 6402944320 iI 7 (mP ms) (.one c) blk) 0 ls.length (aY _) ?_ ?_
 .simp only[go_sem];exact⟨rfl,[],.p .nils,af,fun m h=>(by cases h),rfl,grown.nil⟩
 rintro k aj blk hk ⟨h0,h1,nk,lB,ms,c,pL,ao,h5,gm⟩
 by_cases aq:k<ls.length
 .have aJ:((k:Int)<(ls.length:Int)):=aa;have w1:=bG (n:=k) aa;obtain⟨ns,⟨hns,Ml⟩,pc⟩:=ah0 g kk aq;cases d3:(kk==3) with
  |true=>simp only[go_sem,i100_l10,i100_r9,h0,h1,nk,lB,h5,aJ,d2,d5,d7,d3,s136];refine jH pc lo (.inl rfl) fun cc bc gl aR=>?_;have wH:=gm.of_eq (aR 6402944320 ae);obtain⟨r,hx,hr⟩:=gl.elems;simp only[go_sem];refine qk (xs:=mP ns) wH hx gl.fM (by simp only[sC];omega) fun c2 qf uG kh=>?_;simp only[go_sem,h0,h1,nk,lB,w1,aq];exact⟨ms++ns,c2,by simp;omega,Vb ao Ml aq,rfl,by rw[show mP (ms++ns)=mP ms++mP ns by simp[mP]];exact uG⟩
  |false=>
   cases d6:(kk==6) with
   |true=>simp only[go_sem,i100_l10,i100_r9,h0,h1,nk,lB,h5,aJ,d2,d5,d7,d3,d6,s136];refine jH pc lo (.inl rfl) fun cc bc gl aR=>?_;have wH:=gm.of_eq (aR 6402944320 ae);obtain⟨r,hx,hr⟩:=gl.elems;simp only[go_sem];refine qk (xs:=mP ns) wH hx gl.fM (by simp only[sC];omega) fun c2 qf uG kh=>?_;simp only[go_sem,h0,h1,nk,lB,w1,aq];exact⟨ms++ns,c2,by simp;omega,Vb ao Ml aq,rfl,by rw[show mP (ms++ns)=mP ms++mP ns by simp[mP]];exact uG⟩
   |false=>
    have d8:(kk==8)=true:=by
     rcases vg with rfl|rfl|rfl
     .cases d3
     .cases d6
     rfl
    simp only[go_sem,i100_l10,i100_r9,h0,h1,nk,lB,h5,aJ,d2,d5,d7,d3,d6,d8,s136];refine jH pc lo (.inl rfl) fun cc bc gl aR=>?_;have wH:=gm.of_eq (aR 6402944320 ae);obtain⟨r,hx,hr⟩:=gl.elems;simp only[go_sem];refine qk (xs:=mP ns) wH hx gl.fM (by simp only[sC];omega) fun c2 qf uG kh=>?_;simp only[go_sem,h0,h1,nk,lB,w1,aq];exact⟨ms++ns,c2,by simp;omega,Vb ao Ml aq,rfl,by rw[show mP (ms++ns)=mP ms++mP ns by simp[mP]];exact uG⟩
 have:k=ls.length:=aa;subst this;simp only[go_sem,i100_l10,i100_r11,nk,lB,h5,dZ];exact⟨_,⟨ms,⟨pL,ao⟩,rfl⟩,sQ gm⟩
end
section
variable {F:Nat} {ls:List Let}
theorem ahj(g:ct F ls)(aK:0<ls.length):∃ms:List dx,(ms.length<=4*ls.length/\ ∀m∈ms,m.k=5)/\aH S 100 [.one (.p (dj F ls)),vi 5] (.one (bK iI 7 (mP ms))):=by
 have hlen:=g.len;have bh:(bJ (pieces ls)).length=ls.length:=by rw[bJ,cF,eW]
 have fR:(((ls.length:Nat):Int)==0)=false:=by rw[beq_eq_false_iff_ne];omega
 have d2:((5:Int)==2)=false:=ae;have d5:((5:Int)==5)=true:=ae;have mF:¬((2:Int)=0):=ae
 suffices h:∃r,(∃ms:List dx,(ms.length<=4*ls.length/\ ∀m∈ms,m.k=5)/\r=.one (bK iI 7 (mP ms)))/\aH S 100 [.one (.p (dj F ls)),vi 5] r by obtain⟨r,⟨ms,h1,rfl⟩,h2⟩:=h;exact⟨ms,h1,h2⟩
 refine Bw rfl c100 (hU rfl) ?_;simp only[go_sem,i100,i100_r12,bh,fR];refine cQ (fun k aj blk=>aj 0=.one (.p (dj F ls))/\aj 1=vi 5/\aj 41=vi ls.length/\aj 42=vi k/\ ∃ms c,ms.length<=4*k/\(∀m∈ms,m.k=5)/\aj 5=.one c/\grown 6401920704 iI 7 (mP ms) (.one c) blk) 0 ls.length (aY _) ?_ ?_
 .simp only[go_sem];exact⟨rfl,[],.p .nils,af,fun m h=>(by cases h),rfl,grown.nil⟩
 rintro k aj blk hk ⟨h0,h1,nk,lB,ms,c,pL,ao,h5,gm⟩
 by_cases aq:k<ls.length
 .have aJ:((k:Int)<(ls.length:Int)):=aa;have w1:=bG (n:=k) aa;simp only[go_sem,i100_l10,i100_r9,h1,nk,lB,aJ,d2,d5];refine cQ (fun i aE ak=>aE 0=.one (.p (dj F ls))/\aE 1=vi 5/\aE 8=vi k/\aE 41=vi ls.length/\aE 42=vi k/\aE 99=vi i/\ ∃ms c,ms.length<=4*k+i/\(∀m∈ms,m.k=5)/\aE 5=.one c/\grown 6401920704 iI 7 (mP ms) (.one c) ak) 0 4 (aY _) ?_ ?_
  .refine⟨?_,?_,?_,?_,?_,?_,ms,c,aa,ao,?_,gm⟩<;>(simp only[go_sem,h0,h1,nk,lB,h5];first|done|rfl)
  rintro i aE ak hi ⟨q0,q1,q8,Ba,Bb,q99,ms,c,pL,ao,q5,gm⟩
  by_cases oh:i<4
  .have IL:((i:Int)<4):=aa;have w2:=bG (n:=i) aa;simp only[go_sem,i100_l5,q1,q8,q99,q5,IL,mF];refine qk (xs:=[dx.ps ⟨5,k,0,0,false,decide ((1:Int)<(i:Int)),IntKind.i64.wrap (IntKind.i64.wrap (2*((i:Int).tmod 2))-1)⟩]) (gm.of_eq (by simp only[aS,Nat.reduceEqDiff,if_false])) (by simp only[eT,aS,if_true];rfl) (.inl rfl) (by simp only[sC,cE,dQ];omega) fun c2 qf uG kh=>?_;simp only[go_sem,q0,q1,q8,Ba,Bb,q99,w2,oh];refine⟨ms++[⟨5,k,0,0,false,decide ((1:Int)<(i:Int)),IntKind.i64.wrap (IntKind.i64.wrap (2*((i:Int).tmod 2))-1)⟩],c2,by simp;omega,fun m hm=>?_,rfl,by rw[mP,iS];exact uG⟩;rcases fq.1 hm with h|h
   .exact ao m h
   rw[j6.1 h]
  have:i=4:=aa;subst this;have h4:¬(((4:Nat):Int)<4):=ae;simp only[go_sem,i100_l5,q0,q1,Ba,Bb,q99,q5,h4,w1,aq];exact⟨ms,c,aa,ao,rfl,gm⟩
 have:k=ls.length:=aa;subst this;simp only[go_sem,i100_l10,i100_r11,nk,lB,h5,dZ];exact⟨_,⟨ms,⟨pL,ao⟩,rfl⟩,sQ gm⟩
theorem ahl(g:ct F ls)(aK:0<ls.length):∃ms:List dx,(ms.length<=4*(ls.length*ls.length)/\ ∀m∈ms,m.k=7)/\aH S 100 [.one (.p (dj F ls)),vi 7] (.one (bK iI 7 (mP ms))):=by
 have hlen:=g.len;have bh:(bJ (pieces ls)).length=ls.length:=by rw[bJ,cF,eW]
 have fR:(((ls.length:Nat):Int)==0)=false:=by rw[beq_eq_false_iff_ne];omega
 have d2:((7:Int)==2)=false:=ae;have d5:((7:Int)==5)=false:=ae;have d7:((7:Int)==7)=true:=ae;have mF:¬((2:Int)=0):=ae;have h04:((0:Int)<4):=ae
 suffices h:∃r,(∃ms:List dx,(ms.length<=4*(ls.length*ls.length)/\ ∀m∈ms,m.k=7)/\r=.one (bK iI 7 (mP ms)))/\aH S 100 [.one (.p (dj F ls)),vi 7] r by obtain⟨r,⟨ms,h1,rfl⟩,h2⟩:=h;exact⟨ms,h1,h2⟩
 refine Bw rfl c100 (hU rfl) ?_;simp only[go_sem,i100,i100_r12,bh,fR];refine cQ (fun k aj blk=>aj 0=.one (.p (dj F ls))/\aj 1=vi 7/\aj 6=vi ls.length/\aj 41=vi ls.length/\aj 42=vi k/\ ∃ms c,ms.length<=4*(ls.length*k)/\(∀m∈ms,m.k=7)/\aj 5=.one c/\grown 6402560704 iI 7 (mP ms) (.one c) blk) 0 ls.length (aY _) ?_ ?_
 .simp only[go_sem];exact⟨rfl,[],.p .nils,af,fun m h=>(by cases h),rfl,grown.nil⟩
 rintro k aj blk hk ⟨h0,h1,h6,nk,lB,ms,c,pL,ao,h5,gm⟩
 by_cases aq:k<ls.length
 .have aJ:((k:Int)<(ls.length:Int)):=aa;have w1:=bG (n:=k) aa;have hb:ls.length*k<=400*400:=Nat.mul_le_mul hlen aa;simp only[go_sem,i100_l10,i100_r9,h1,h6,nk,lB,aJ,d2,d5,d7];refine cQ (fun j aE ak=>aE 0=.one (.p (dj F ls))/\aE 1=vi 7/\aE 6=vi ls.length/\aE 8=vi k/\aE 41=vi ls.length/\aE 42=vi k/\aE 117=vi ls.length/\aE 118=vi j/\ ∃ms c,ms.length<=4*(ls.length*k+j)/\(∀m∈ms,m.k=7)/\aE 5=.one c/\grown 6402560704 iI 7 (mP ms) (.one c) ak) 0 ls.length (aY _) ?_ ?_
  .refine⟨?_,?_,?_,?_,?_,?_,?_,?_,ms,c,aa,ao,?_,gm⟩<;>(simp only[go_sem,h0,h1,h6,nk,lB,h5];first|done|rfl)
  rintro j aE ak hj ⟨q0,q1,q6,q8,Ba,Bb,Vz,VA,ms,c,pL,ao,q5,gm⟩
  by_cases k8:j<ls.length
  .have ako:((j:Int)<(ls.length:Int)):=aa;have w2:=bG (n:=j) aa;simp only[go_sem,i100_l8,i100_r7,Vz,VA,ako];refine cQ (fun i rS BK=>rS 0=.one (.p (dj F ls))/\rS 1=vi 7/\rS 6=vi ls.length/\rS 8=vi k/\rS 14=vi j/\rS 41=vi ls.length/\rS 42=vi k/\rS 117=vi ls.length/\rS 118=vi j/\rS 121=vi i/\ ∃ms c,ms.length<=4*(ls.length*k+j)+i/\(∀m∈ms,m.k=7)/\rS 5=.one c/\grown 6402560704 iI 7 (mP ms) (.one c) BK) 0 4 (aY _) ?_ ?_
   .refine⟨?_,?_,?_,?_,?_,?_,?_,?_,?_,?_,ms,c,aa,ao,?_,gm⟩<;>(simp only[go_sem,q0,q1,q6,q8,Ba,Bb,Vz,VA,q5];first|done|rfl)
   rintro i rS BK hi ⟨r0,r1,r6,r8,r14,JK,JL,VB,VC,PU,ms,c,pL,ao,r5,gm⟩
   by_cases oh:i<4
   .have IL:((i:Int)<4):=aa;have w3:=bG (n:=i) aa;by_cases hjk:j=k
    .subst hjk;have e1:((j:Int)!=(j:Int))=false:=af;simp only[go_sem,i100_l6,r0,r1,r6,r8,r14,JK,JL,VB,VC,PU,r5,IL,oh,e1,w3];exact⟨ms,c,aa,ao,rfl,gm⟩
    have e1:((j:Int)!=(k:Int))=true:=by simp;omega
    simp only[go_sem,i100_l6,r1,r8,r14,PU,r5,IL,mF,e1];refine qk (xs:=[dx.ps ⟨7,k,j,0,decide ((1:Int)<(i:Int)),((i:Int).tmod 2)==1,0⟩]) (gm.of_eq (by simp only[aS,Nat.reduceEqDiff,if_false])) (by simp only[eT,aS,if_true];rfl) (.inl rfl) (by simp only[sC,cE,dQ];omega) fun c2 qf uG kh=>?_;simp only[go_sem,r0,r1,r6,r8,r14,JK,JL,VB,VC,PU,w3,oh];refine⟨ms++[⟨7,k,j,0,decide ((1:Int)<(i:Int)),((i:Int).tmod 2)==1,0⟩],c2,by simp;omega,fun m hm=>?_,rfl,by rw[mP,iS];exact uG⟩;rcases fq.1 hm with h|h
    .exact ao m h
    rw[j6.1 h]
   have:i=4:=aa;subst this;have h4:¬(((4:Nat):Int)<4):=ae;simp only[go_sem,i100_l6,r0,r1,r6,r8,JK,JL,VB,VC,PU,r5,h4,w2,k8];exact⟨ms,c,aa,ao,rfl,gm⟩
  have:j=ls.length:=aa;subst this;simp only[go_sem,i100_l8,q0,q1,q6,Ba,Bb,Vz,VA,q5,dZ,w1,aq];exact⟨ms,c,by rw[Nat.mul_succ];omega,ao,rfl,gm⟩
 have:k=ls.length:=aa;subst this;simp only[go_sem,i100_l10,i100_r11,nk,lB,h5,dZ];exact⟨_,⟨ms,⟨pL,ao⟩,rfl⟩,sQ gm⟩
end
abbrev qlV(p:Int×Int):List PV:=[.int .i64 p.1,.int .i64 p.2]
abbrev nO(l:List (Int×Int)):List (List PV):=l.map qlV
theorem JJ{l:List (Int×Int)}{k:Nat}{x:Int×Int}(h:l[k]?=some x):(nO l)[k]?=some [.int .i64 x.1,.int .i64 x.2]:=by rw[fX,h];rfl
theorem adB(l:List (Int×Int)):(nO l).length=l.length:=cF ..
theorem adC(l:List (Int×Int))(k:Nat)(x:Int×Int):(nO l).set k [.int .i64 x.1,.int .i64 x.2]=nO (l.set k x):=by rw[nO,nO,List.map_set]
theorem aop{cs:List (Int×Int)}{k:Nat}(hk:k<=cs.length):List.take k (nO cs)++List.replicate (cs.length-k) [PV.int .i64 0,PV.int .i64 0]++List.drop (k+(cs.length-k)) (nO cs)=nO (cs.take k++List.replicate (cs.length-k) (0,0)):=by rw[List.drop_of_length_le (by simp;omega),oN];simp only[nO,iS,List.map_replicate,Ad]
def Yk(id g ty n:Nat)(blk:aB)(v:V)(ak:aB):Prop:=(∃(m:Nat) (cs:List (Int×Int)),m<=n/\cs.length=n/\v=.one (.hsl id g 2 0 m)/\ak id=(g,some (.arr ty 2 (nO cs))))/\Kept (· =id) blk ak
theorem ahO{al:Al}{blk:aB}{id:Nat}{ws:List (Int×Int)}(o:al.ok id=true)(hl:ws.length<=1000000)(hC:blk id=(g,some (.arr ty 2 (nO ws)))):
  ∃v ak,jd S 135 [.one (.hsl id g 2 0 ws.length)] al blk v ak/\Yk id g ty ws.length blk v ak:=by
 refine oY c135 (hU rfl) ?_;by_cases h2:ws.length<2
 .have ij:((ws.length:Int)<2):=aa;simp only[go_sem,i135,ij];exact⟨⟨ws.length,ws,aZ _,rfl,rfl,hC⟩,Kept.refl _ _⟩
 have ij:¬((ws.length:Int)<2):=aa;simp only[go_sem,i135,ij];refine cQ (fun q aj ak=>aj 0=.one (.hsl id g 2 0 ws.length)/\aj 3=vi ((q+1:Nat):Int)/\ak=blk) 0 ws.length (aY _) ?_ ?_
 .simp only[go_sem];first|done|exact⟨rfl,rfl⟩|rfl
 rintro q aj bc hq ⟨h0,h3,rfl⟩
 by_cases aq:q+1<ws.length
 .have aJ:(((q+1:Nat):Int)<(ws.length:Int)):=aa;obtain⟨x,hx⟩:=aI (ls:=ws) (k:=q+1) aq;obtain⟨y,hy⟩:=aI (ls:=ws) (k:=q) aa;have sZ:=JJ hx;have vt:=JJ hy;have wj:IntKind.i64.wrap (((q+1:Nat):Int)-1)=(q:Int):=by rw[vK aa];omega
  have wk:=bG (n:=q+1) aa;have q1:q<ws.length:=aa;have q2:q+1<=ws.length:=aa;have vh:=adB ws;have no:(x.1==y.1)=false\/((x.1==y.1)=true/\(x.2==y.2)=false)\/((x.1==y.1)=true/\(x.2==y.2)=true):=by cases (x.1==y.1)<;>cases (x.2==y.2)<;>simp
  rcases no with e1|⟨e1,e2⟩|⟨e1,e2⟩
  .simp only[go_sem,i135_l4,i135_r3,h0,h3,aq,aJ,sZ,vt,wj,wk,q1,hC,o,e1,qh,pF];first|done|exact aD|exact⟨aD,rfl⟩|(refine⟨aD,?_⟩;first|done|exact⟨rfl,rfl⟩|rfl|omega)
  .simp only[go_sem,i135_l4,i135_r3,h0,h3,aq,aJ,sZ,vt,wj,wk,q1,hC,o,e1,e2,qh,pF];first|done|exact aD|exact⟨aD,rfl⟩|(refine⟨aD,?_⟩;first|done|exact⟨rfl,rfl⟩|rfl|omega)
  simp only[go_sem,i135_l4,h0,h3,aq,aJ,sZ,vt,wj,q1,q2,hC,o,e1,e2,qh,pF];refine⟨aD,?_⟩;clear e1 e2 sZ vt hx hy;refine cQ (fun r aj ak=>aj 0=.one (.hsl id g 2 0 ws.length)/\aj 4=.one (.hsl id g 2 (q+1) (ws.length-(q+1)))/\aj 5=vi ((r+1:Nat):Int)/\ ∃(cs:List (Int×Int)) (k:Nat),aj 3=vi (k:Nat)/\ak id=(g,some (.arr ty 2 (nO cs)))/\cs.length=ws.length/\k<q+2+r/\q+2+r<=ws.length/\Kept (· =id) bc ak) 0 ws.length (aY _) ?_ ?_
  .simp only[go_sem,h0];exact⟨rfl,ws,q+1,h3,hC,rfl,aa,aa,Kept.refl _ _⟩
  rintro r cS aT hr ⟨k0,k4,k5,cs,k,k3,hB,eo,hkq,hqr,cU⟩
  by_cases Ek:r+1<ws.length-(q+1)
  .have Ay:(((r+1:Nat):Int)<((ws.length-(q+1):Nat):Int)):=aa;obtain⟨u,hu⟩:=aI (ls:=cs) (k:=q+1+(r+1)) aa;obtain⟨v,hv⟩:=aI (ls:=cs) (k:=q+1+r) aa;have cu:=JJ hu;have cv:=JJ hv;have wr:IntKind.i64.wrap (((r+1:Nat):Int)-1)=(r:Int):=by rw[vK aa];omega
   have Kg:=bG (n:=r+1) aa;have wk2:=bG (n:=k) aa;have r1:r<ws.length-(q+1):=aa;have kk:k<ws.length:=aa;have kk2:k<cs.length:=aa;obtain⟨z,hz⟩:=aI kk2;have cz:=JJ hz;have no:(u.1==v.1)=false\/((u.1==v.1)=true/\(u.2==v.2)=false)\/((u.1==v.1)=true/\(u.2==v.2)=true):=by cases (u.1==v.1)<;>cases (u.2==v.2)<;>simp
   rcases no with e1|⟨e1,e2⟩|⟨e1,e2⟩
   .simp only[go_sem,i135_l1,k0,k4,k5,k3,Ek,Ay,r1,hB,cu,cv,wr,Kg,wk2,kk,cz,o,e1,qh,pF];refine⟨aD,aa,cs.set k u,k+1,rfl,by rw[adC],by simpa using eo,aa,aa,cU.cZ rfl _⟩
   .simp only[go_sem,i135_l1,k0,k4,k5,k3,Ek,Ay,r1,hB,cu,cv,wr,Kg,wk2,kk,cz,o,e1,e2,qh,pF];refine⟨aD,aa,cs.set k u,k+1,rfl,by rw[adC],by simpa using eo,aa,aa,cU.cZ rfl _⟩
   simp only[go_sem,i135_l1,k0,k4,k5,k3,Ek,Ay,r1,hB,cu,cv,wr,Kg,o,e1,e2,qh,pF];exact⟨aD,aa,cs,k,rfl,rfl,eo,aa,aa,cU⟩
  have Ay:¬(((r+1:Nat):Int)<((ws.length-(q+1):Nat):Int)):=aa;have kk3:k<=ws.length:=aa;have kk4:k+(ws.length-k)<=cs.length:=aa;by_cases hz:ws.length-k=0
  .exact absurd hz aa
  have mw:=aop (cs:=cs) (k:=k) aa;rw[eo] at mw;simp only[go_sem,i135_l1,i135_r2,k0,k4,k5,k3,Ay,hB,o,kk3,kk4,hz,List.length_replicate,adB,mw];exact⟨⟨k,_,kk3,by simp;omega,rfl,rz⟩,cU.cZ rfl _⟩
 have aJ:¬(((q+1:Nat):Int)<(ws.length:Int)):=aa;simp only[go_sem,i135_l4,i135_r5,h0,h3,aJ];exact⟨⟨ws.length,ws,aZ _,rfl,rfl,hC⟩,Kept.refl _ _⟩
abbrev N0:V:=.one (.p (.fn 134 [] []))
theorem prS(f:Nat)(args:List V)(al:Al)(blk:aB):S.primS f args al blk=Bh nJ args al blk:=rfl
theorem ap9{al:Al}{blk:aB}{id:Nat}{l:List (Int×Int)}(ho:al.ok id=true)(hb:blk id=(g,some (.arr ty 2 (nO l))))(hl:l.length<4611686018427387904)(hsm:l.all zW=true):∃v ak,jd S 133 [.one (.hsl id g 2 0 l.length),N0] al blk v ak/\v=.tup []/\ak=cZ blk id (g,some (.arr ty 2 (nO (tq nJ l)))):=
 ⟨_,_,⟨1,by rw[ia,if_pos (show S.trig 133 [.one (.hsl id g 2 0 l.length),N0]=true from rfl),prS,aeu hb rfl hl hsm ho];rfl⟩,rfl,rfl⟩
theorem ap8{al:Al}{blk:aB}:∃v ak,jd S 133 [.one (.p .nils),N0] al blk v ak/\v=.tup []/\ak=blk:=
 ⟨_,_,⟨1,by rw[ia,if_pos (show S.trig 133 [.one (.p .nils),N0]=true from rfl)];rfl⟩,rfl,rfl⟩
theorem ahN{al:Al}{blk:aB}:∃v ak,jd S 135 [.one (.p .nils)] al blk v ak/\v=.one (.p .nils)/\ak=blk:=by refine oY c135 (hU rfl) ?_;have h2:(((0:Nat):Int)<2):=ae;simp only[go_sem,i135,h2];first|done|exact⟨rfl,rfl⟩|trace_state
def A8(l:List (Nat×Nat)):List (Int×Int):=l.map fun p=>((p.1:Int),(p.2:Int))
theorem anB(l:List (Nat×Nat)):nO (A8 l)=jF l:=by rw[nO,A8,qH];rfl
section
variable {F:Nat} {ls:List Let}
theorem ahk(g:ct F ls)(aK:0<ls.length)(hpb:∀f∈dS F ls,f.places.length<=200000/\ ∀p∈f.places,p.1<=1000000/\p.2<=1000000):∃ms:List dx,(ms.length<=400000*ls.length/\ ∀m∈ms,m.k=2)/\aH S 100 [.one (.p (dj F ls)),vi 2] (.one (bK iI 7 (mP ms))):=by
 have hlen:=g.len;have bh:(bJ (pieces ls)).length=ls.length:=by rw[bJ,cF,eW]
 have fR:(((ls.length:Nat):Int)==0)=false:=by rw[beq_eq_false_iff_ne];omega
 have d2:((2:Int)==2)=true:=ae
 suffices h:∃r,(∃ms:List dx,(ms.length<=400000*ls.length/\ ∀m∈ms,m.k=2)/\r=.one (bK iI 7 (mP ms)))/\aH S 100 [.one (.p (dj F ls)),vi 2] r by obtain⟨r,⟨ms,h1,rfl⟩,h2⟩:=h;exact⟨ms,h1,h2⟩
 refine Bw rfl c100 (hU rfl) ?_;simp only[go_sem,i100,i100_r12,bh,fR];refine cQ (fun k aj blk=>aj 0=.one (.p (dj F ls))/\aj 1=vi 2/\aj 41=vi ls.length/\aj 42=vi k/\ ∃ms c,ms.length<=400000*k/\(∀m∈ms,m.k=2)/\aj 5=.one c/\grown 6401536576 iI 7 (mP ms) (.one c) blk) 0 ls.length (aY _) ?_ ?_
 .simp only[go_sem];exact⟨rfl,[],.p .nils,af,fun m h=>(by cases h),rfl,grown.nil⟩
 rintro k aj blk hk ⟨h0,h1,nk,lB,ms,c,pL,ao,h5,gm⟩
 by_cases aq:k<ls.length
 .have aJ:((k:Int)<(ls.length:Int)):=aa;have w1:=bG (n:=k) aa;simp only[go_sem,i100_l10,i100_r9,h1,nk,lB,aJ,d2];refine cQ (fun s aE ak=>aE 0=.one (.p (dj F ls))/\aE 1=vi 2/\aE 8=vi k/\aE 41=vi ls.length/\aE 42=vi k/\aE 54=vi s/\aE 5=.one c/\grown 6401536576 iI 7 (mP ms) (.one c) ak/\ ∃(ps:List (Nat×Nat)) (cp:C),ps.length<=200000*s/\(∀p∈ps,p.1<=1000000/\p.2<=1000000)/\aE 9=.one cp/\grown 6401153152 147 2 (jF ps) (.one cp) ak) 0 2 (aY _) ?_ ?_
  .refine⟨?_,?_,?_,?_,?_,?_,?_,gm,[],.p .nils,aZ _,(fun p h=>by cases h),?_,grown.nil⟩<;>(simp only[go_sem,h0,h1,nk,lB,h5];first|done|rfl)
  rintro s aE ak hs ⟨q0,q1,q8,Ba,Bb,q54,q5,gm,ps,cp,ak0,dh,q9,gp⟩
  by_cases hsl:s<2
  .have ak7:((s:Int)<2):=aa;obtain⟨j,zA,jK,yg⟩:=K7 g (d:=2*k+s) aa;have Gb:=aQ jK;obtain⟨abi,Uy⟩:=hpb _ Gb;have sY:=iA zA;have wM:=K8 jK;have m2:=qF (a:=k) aa;have m3:=wrap_add (a:=2*k) (b:=s) aa;have w2:=bG (n:=s) aa;have IE:2*k+s<(iN F ls).length:=by rw[GB];omega
   generalize lQ F ls (2*k+s)=f at*;simp only[go_sem,i100_l2,q0,q8,q54,q9,ak7,m2,m3,sY,wM,Fc.ps];refine y9 (xs:=jF f.places) (rd:=[]) (gp.of_eq (by simp only[])) rfl (.inr (by simp[fM])) (by simp only[cF];omega) fun c' jz r1 u1 g1 kG dI=>?_;have uF:=gm.of_eq (kG 6401536576 ae ae);rw[show jF ps++jF f.places=jF (ps++f.places) by simp[jF]] at g1;simp only[go_sem,q0,q1,q8,Ba,Bb,q54,q5,w2,hsl];refine⟨?_,uF,ps++f.places,c',by rw[fc];omega,fun p hp=>?_,rfl,g1⟩
   .rcases dI with ⟨rfl,rfl⟩|⟨rfl,rfl⟩|⟨rfl,rfl⟩<;>kernel_rfl
   rcases fq.1 hp with h|h
   .exact dh p h
   exact Uy p h
  have:s=2:=aa;subst this;have h2:¬(((2:Nat):Int)<2):=ae;simp only[go_sem,i100_l2,i100_r4,q0,q1,Ba,Bb,q54,q5,q9,h2,s133];rcases gp with ⟨he,hc⟩|⟨he,g9,hc,hC⟩
  .cases hc;refine Le (by rfl) (.inl rfl) (P:=fun v b=>v=.tup []/\b=ak) (fun mW _=>ap8) fun v b hP=>?_;obtain⟨rfl,rfl⟩:=hP;simp only[go_sem,q9,s135];refine Le (by rfl) (.inl rfl) (P:=fun v b'=>v=.one (.p .nils)/\b'=b) (fun mW _=>ahN) fun v b2 hP=>?_;obtain⟨rfl,rfl⟩:=hP;have z0:¬((0:Int)<((0:Nat):Int)):=ae;simp only[go_sem];refine oU ?_;simp only[go_sem,i100_l3,q0,q1,Ba,Bb,q5,z0,w1,aq];first|exact⟨ms,c,aa,ao,rfl,gm⟩|trace_state
  cases hc;rw[<- anB] at hC;have kM:(A8 ps).length=ps.length:=by simp[A8]
  have Et:(jF ps).length=(A8 ps).length:=by simp[A8]
  have hsm:(A8 ps).all zW=true:=iC.2 fun x hx=>by obtain⟨p,hp,rfl⟩:=dr.1 hx;have:=dh p hp;simp only[zW,bQ,decide_eq_true_eq];omega
  rw[Et] at q9 ⊢;refine xM hC (by rfl) (.inl rfl) (P:=fun v b=>v=.tup []/\b=cZ ak 6401153152 (g9,some (.arr 147 2 (nO (tq nJ (A8 ps)))))) (fun mW o1 o2=>ap9 o1 hC aa hsm) fun v b hP=>?_;obtain⟨rfl,rfl⟩:=hP;simp only[go_sem,q9,s135];have hsl:=aeA nJ (A8 ps);rw[<- hsl] at q9 ⊢;generalize tq nJ (A8 ps)=so at*;have xR:cZ ak 6401153152 (g9,some (.arr 147 2 (nO so))) 6401153152=(g9,some (.arr 147 2 (nO so))):=rz;have zj:grown 6401536576 iI 7 (mP ms) (.one c) (cZ ak 6401153152 (g9,some (.arr 147 2 (nO so)))):=gm.of_eq (aN ae);generalize cZ ak 6401153152 (g9,some (.arr 147 2 (nO so)))=aT at*
  refine xM xR (by rfl) (.inl rfl) (P:=Yk 6401153152 g9 147 so.length aT) (fun mW o1 o2=>ahO o1 aa xR) fun v jz hP=>?_;obtain⟨⟨m,cs,hm,cY,rfl,hb⟩,cU⟩:=hP;have uF:=zj.of_eq (cU 6401536576 ae);simp only[go_sem];refine cQ (fun i Am qf=>Am 0=.one (.p (dj F ls))/\Am 1=vi 2/\Am 8=vi k/\Am 41=vi ls.length/\Am 42=vi k/\Am 80=.one (.hsl 6401153152 g9 2 0 m)/\Am 81=vi m/\Am 82=vi i/\qf 6401153152=(g9,some (.arr 147 2 (nO cs)))/\ ∃ms c,ms.length<=400000*k+i/\(∀m∈ms,m.k=2)/\Am 5=.one c/\grown 6401536576 iI 7 (mP ms) (.one c) qf) 0 m (aY _) ?_ ?_
  .refine⟨?_,?_,?_,?_,?_,?_,?_,?_,hb,ms,c,aa,ao,?_,uF⟩<;>(simp only[go_sem,q0,q1,q8,Ba,Bb,q5];first|done|rfl)
  rintro i Am qf hi ⟨r0,r1,r8,JK,JL,r80,r81,r82,rb,ms,c,pL,ao,r5,gm⟩
  by_cases oh:i<m
  .have IL:((i:Int)<(m:Int)):=aa;obtain⟨x,hx⟩:=aI (ls:=cs) (k:=i) aa;have sZ:=JJ hx;have w3:=bG (n:=i) aa;simp only[go_sem,i100_l3,r1,r8,r80,r81,r82,r5,rb,oh,IL,sZ];refine qk (xs:=[dx.ps ⟨2,k,x.1,x.2,false,false,0⟩]) (gm.of_eq (by simp only[aS,Nat.reduceEqDiff,if_false])) (by simp only[eT,aS,if_true];rfl) (.inl rfl) (by simp only[sC,cE,dQ];omega) fun c2 Ag gm5 xW=>?_;have rb5:=xW 6401153152 ae ae;simp only[go_sem,rb] at rb5;simp only[go_sem,r0,r1,r8,JK,JL,r80,r81,r82,w3,oh];refine⟨rb5,ms++[⟨2,k,x.1,x.2,false,false,0⟩],c2,by rw[fc];simp only[cE,dQ];omega,fun m hm=>?_,rfl,by rw[mP,iS];exact gm5⟩;rcases fq.1 hm with h|h
   .exact ao m h
   rw[j6.1 h]
  have:i=m:=aa;subst this;simp only[go_sem,i100_l3,r0,r1,JK,JL,r81,r82,r5,dZ,w1,aq];exact⟨ms,c,aa,ao,rfl,gm⟩
 have:k=ls.length:=aa;subst this;simp only[go_sem,i100_l10,i100_r11,nk,lB,h5,dZ];exact⟨_,⟨ms,⟨pL,ao⟩,rfl⟩,sQ gm⟩
end
abbrev EN:Nat:=29
abbrev NY:Nat:=24
def EM(i:Nat):List PV:=[.int .i64 2,.int .i64 0,.int .i64 i,.int .i64 0,.bool false,.bool false,.int .i64 0]
def uM(n:Nat):List (List PV):=(List.range n).map EM
def XK(F i:Nat):List PV:=[.int .i64 F,.sl (w9 (vY i))]
def Dx(F n:Nat):List (List PV):=(List.range n).map (XK F)
theorem acA(n:Nat):uM (n+1)=uM n++[EM n]:=by simp[uM,uv]
theorem ahp(F n:Nat):Dx F (n+1)=Dx F n++[XK F n]:=by simp[Dx,uv]
theorem Pq(n:Nat):(uM n).length=n:=by simp[uM]
theorem aho(F n:Nat):(Dx F n).length=n:=by simp[Dx]
theorem amQ{n k:Nat}(h:k<n):(uM n)[k]?=some (EM k):=by simp[uM,h]
section
variable {F:Nat}
theorem ahg(hF:F<=40):aH S 100 [BM F,vi 2] (.one (bK EN 7 (uM (F+1)))):=by
 have h7:(((0:Nat):Int)==0)=true:=ae;refine ba c100 ?_;simp only[go_sem,i100,h7];refine cQ (fun k aj blk=>aj 0=BM F/\aj 1=vi 2/\aj 6=vi ((0:Nat):Int)/\aj 7=vi k/\ ∃c,aj 5=.one c/\grown 6400448320 EN 7 (uM k) (.one c) blk) 0 (F+1) (aY _) ?_ ?_
 .simp only[go_sem];first|exact⟨rfl,.p .nils,rfl,.inl ⟨rfl,rfl⟩⟩|exact⟨rfl,rfl,.p .nils,rfl,.inl ⟨rfl,rfl⟩⟩|exact⟨.p .nils,rfl,.inl ⟨rfl,rfl⟩⟩
 rintro k aj blk hk ⟨e0,e1,e6,e7,c,e5,gc⟩
 by_cases aq:k<F+1
 .have aJ:((k:Int)<=(F:Int)):=aa;have w1:=bG (n:=k) aa;have hs:=acA k;simp only[go_sem,i100_l1,e0,e1,e5,e7,aJ];refine qk (site:=6400448320) (id:=6400448320) (bytes:=48) (xs:=[EM k]) (rd:=[6400448256]) (gc.of_eq (aN ae)) (by simp[eT,aS,EM]) (.inl rfl) (by simp only[Pq,cE,dQ];omega) fun c' bc hc hb=>?_;simp only[go_sem,e0,e1,e6,e7,w1,aq];refine⟨c',rfl,?_⟩;rw[hs];exact hc
 have:k=F+1:=aa;subst this;have ir:¬(((F+1:Nat):Int)<=(F:Int)):=aa;simp only[go_sem,i100_l1,i100_r12,e0,e6,e7,ir];refine oU ?_;simp only[go_sem,i100_l10,i100_r11,e5,zz];exact sQ gc
theorem ahn{k:Int}(hk:(k==2)=false):aH S 100 [BM F,vi k] (.one (bK EN 7 [])):=by have h7:(((0:Nat):Int)==0)=true:=ae;refine ba c100 ?_;simp only[go_sem,i100,i100_r12,h7,hk];refine oU ?_;simp only[go_sem,i100_l10,i100_r11,zz];rfl
end
theorem aaQ{k:Nat}(hk:k<10):aH S 99 [.one (.p (.sl (nP (kinds 10)))),vi ((k+1:Nat):Int)] (rb true):=by
 have:∀k,k<10->BO S 20 99 [.one (.p (.sl (nP (kinds 10)))),vi ((k+1:Nat):Int)]=some (rb true):=by intro k hk;rcases(show k=0\/k=1\/k=2\/k=3\/k=4\/k=5\/k=6\/k=7\/k=8\/k=9 by omega) with rfl|rfl|rfl|rfl|rfl|rfl|rfl|rfl|rfl|rfl<;>kernel_rfl
 exact WI S 20 (this k hk)
theorem ar1{a:PV}{id z o l:Nat}:Bl [[.p a,.hsl id g z o l]]=none:=rfl
theorem YL{blk:aB}{s sd td zd:Nat}{x:Int}{cd:C}{D:List (List PV)}(hb:blk s=(g,some (.iT ty 2 [[.p (.int .i64 x),cd]])))(gd:grown sd td zd D (.one cd) blk):
  ∃fr,eT blk (.one (.hsl s g 2 0 1))=some ([[.int .i64 x,.sl D]],[s],fr)/\vS blk fr/\(fr=[]\/fr=[sd]):=by
 obtain⟨r1,n1,a1,q1⟩:=gd.Qi;refine⟨r1,?_,a1,q1⟩;simp only[eT,hb];simp[collect,n1,Ql,PV.norm]
section
variable {F:Nat}
def nM (F k:Nat):Nat:=if 2<=k then F+1 else 0
theorem amS{k:Nat}(h:k≠1):nM F (k+1)=nM F k:=by
 unfold nM;by_cases c:2<=k
 .rw[if_pos c,if_pos aa]
 rw[if_neg c,if_neg aa]
theorem ap4(hF:F<=40):aH S 64 [BM F,.one (.p (.sl (nP (kinds 10))))] (.tup [.one (bK EN 7 (uM (F+1))),.one (bK NY 2 (Dx F (F+1)))]):=by
 have pP:S.lone 4096448128=false:=ah;have sB:S.lone 4096640128=false:=ah;refine ba c64 ?_;simp only[go_sem,i64];refine cQ (fun k aj blk=>aj 0=BM F/\aj 1=.one (.p (.sl (nP (kinds 10))))/\aj 8=vi ((k+1:Nat):Int)/\ ∃c d,aj 6=.one c/\aj 7=.one d/\grown 4096768192 EN 7 (uM (nM F k)) (.one c) blk/\grown 4096768448 NY 2 (Dx F (nM F k)) (.one d) blk) 0 10 (aY _) ?_ ?_
 .simp only[go_sem];first|exact⟨rfl,.p .nils,.p .nils,rfl,rfl,.inl ⟨rfl,rfl⟩,.inl ⟨rfl,rfl⟩⟩|exact⟨rfl,rfl,.p .nils,.p .nils,rfl,rfl,.inl ⟨rfl,rfl⟩,.inl ⟨rfl,rfl⟩⟩
 rintro k aj blk hk ⟨e0,e1,e8,c,d,e6,e7,gm,gc⟩
 by_cases aq:k<10
 .have aJ:((k+1:Nat):Int)<=10:=aa;have ph:=aaQ aq;have w1:=bG (n:=k+1) aa;simp only[go_sem,i64_l3,e0,e1,e8,aJ,s99,cH ph,s100];by_cases h1:k=1
  .subst h1;refine jH (ahg hF) pP (.inl rfl) fun cc bc gl aR=>?_;have wH:=gm.of_eq (aR 4096768192 ae);have wE:=gc.of_eq (aR 4096768448 ae);rcases gl with ⟨e,_⟩|⟨_,gg,e,mH⟩
   .exact absurd (congrArg List.length e) (by rw[Pq];simp)
   cases e;rw[Pq];simp only[go_sem];refine cQ (fun j aj blk=>aj 0=BM F/\aj 1=.one (.p (.sl (nP (kinds 10))))/\aj 8=vi 2/\aj 23=.one (.hsl 4096448128 gg 7 0 (F+1))/\aj 24=vi ((F+1:Nat):Int)/\aj 25=vi j/\blk 4096448128=(gg,some (.arr EN 7 (uM (F+1))))/\ ∃c d,aj 6=.one c/\aj 7=.one d/\grown 4096768192 EN 7 (uM j) (.one c) blk/\grown 4096768448 NY 2 (Dx F j) (.one d) blk) 0 (F+1) (aY _) ?_ ?_
   .simp only[go_sem,e0,e1,e6,e7,e8];exact⟨rfl,rfl,mH,c,d,rfl,rfl,wH,wE⟩
   rintro j aj blk hj ⟨q0,q1,q8,rm,mO,vD,bL,c,d,q6,q7,gm,gc⟩
   by_cases pJ:j<F+1
   .have Cn:((j:Int)<((F+1:Nat):Int)):=aa;have w2:=bG (n:=j) aa;have gh:=amQ pJ;have pd:=Yw (F:=F) (b:=j) aa;have hm:=acA j;have hc:=ahp F j;simp only[go_sem,i64_l1,q0,rm,mO,vD,bL,pJ,Cn,gh,EM,s19];refine Ld pd sB fun cx aT gx aU=>?_;have HE:=aU 4096576128 ae;simp only[go_sem] at HE;have bL2:=(aU 4096448128 ae).trans ((aN ae).trans bL);have zj:=gm.of_eq ((aU 4096768192 ae).trans (aN ae));have oc:=gc.of_eq ((aU 4096768448 ae).trans (aN ae));rcases gx with ⟨e,_⟩|⟨aK,g2,e,Lz⟩
    .cases e
    cases e;simp only[go_sem,HE,q6];refine y9 (site:=4096768192) (id:=4096768192) (bytes:=48) (xs:=[EM j]) (rd:=[4096768128]) (zj.of_eq (by simp only[aS,Nat.reduceEqDiff,if_false])) (by simp[eT,aS,EM]) (.inl rfl) (by simp only[Pq,cE,dQ];omega) fun c' jz r1 u1 fG kG dI=>?_;have Dv:=kG 4096640384 ae ae;simp only[go_sem] at Dv;simp only[go_sem,Dv,q7];have KG:=(kG (4096640128+1) ae ae);simp only[Nat.reduceAdd,aS,Nat.reduceEqDiff,if_false] at KG Lz;have hx3:=KG.trans Lz;have gx3:grown (4096640128+1) CG 6 (w9 (vY j)) (.one (.hsl (4096640128+1) g2 6 0 2)) jz:=.inr ⟨aK,g2,rfl,hx3⟩
    obtain⟨fr,hx,ye,Aq⟩:=YL (blk:=cZ jz 4096768384 ((jz 4096768384).1+1,some (.iT NY 2 [[.p (.int .i64 F),.hsl (4096640128+1) g2 6 0 2]]))) (s:=4096768384) rz (gx3.of_eq (aN ae));have B5:=oc.of_eq ((kG 4096768448 ae ae).trans (by simp only[aS,Nat.reduceEqDiff,if_false]:_=aT 4096768448));have nf:∀i,i≠4096640128+1->i∉fr:=fun i a h=>by
     rcases Aq with rfl|rfl
     .cases h
     exact a (j6.1 h)
    refine Yn (site:=4096768448) (id:=4096768448) (bytes:=32) (B5.of_eq (aN ae)) hx ye (nf _ ae) (nf _ ae) (.inl rfl) (by simp only[aho,cE,dQ];omega) fun d' qf r2 u2 xZ kh nH=>?_;have Dw:=(kh 4096448128 ae ae (nf _ ae)).trans ((aN ae).trans (kG 4096448128 ae ae));simp only[aS,Nat.reduceEqDiff,if_false] at Dw;have KD:=Dw.trans bL2;simp only[go_sem,q0,q1,q6,q7,q8,rm,mO,vD,KD,w2,pJ];refine⟨?_,c',d',rfl,rfl,?_,?_⟩
    .rcases Aq with rfl|rfl<;>rcases dI with ⟨rfl,rfl⟩|⟨rfl,rfl⟩|⟨rfl,rfl⟩<;>rcases nH with ⟨rfl,rfl⟩|⟨rfl,rfl⟩|⟨rfl,rfl⟩<;>kernel_rfl
    .rw[hm];exact fG.of_eq ((kh 4096768192 ae ae (nf _ ae)).trans (aN ae))
    rw[hc];exact xZ
   have:j=F+1:=aa;subst this;simp only[go_sem,i64_l1,i64_r2,q0,q1,q6,q7,q8,mO,vD,dZ];exact⟨rfl,c,d,rfl,rfl,gm,gc⟩
  have r4:(((k+1:Nat):Int)==2)=false:=by rw[beq_eq_false_iff_ne];omega
  refine jH (ahn r4) pP (.inl rfl) fun cc bc gl aR=>?_;have wH:=gm.of_eq (aR 4096768192 ae);have wE:=gc.of_eq (aR 4096768448 ae);rcases gl with ⟨_,e⟩|⟨h,_⟩
  .cases e;simp only[go_sem];refine oU ?_;simp only[go_sem,i64_l1,i64_r2,e0,e1,e6,e7,e8,zz,w1];rw[amS h1];exact⟨aq,c,d,rfl,rfl,wH,wE⟩
  exact absurd rfl h
 have:k=10:=aa;subst this;have ir:¬(((10+1:Nat):Int)<=10):=ae;simp only[go_sem,i64_l3,i64_r4,e6,e7,e8,ir];exact Ll ae gm gc
theorem afJ(hF:F<=40):aH S 39 [BR F,.one (.p (.sl (nP (kinds 10))))] (.tup [.one (bK EN 7 (uM (F+1))),.one (.p (.int .i64 0))]):=by have po:aH S 18 [BR F] (uQ (.box [.int .i64 F,.sl [],.sl [],.sl [],.int .i64 ((0:Nat):Int),.int .i64 ((0:Nat):Int),.sl (nP (counts [] F))]) (.int .i64 0)):=Vf hF;have ps:=ap4 hF;have lo:S.lone 2496256128=false:=ah;refine ba c39 ?_;simp only[go_sem,i39,s18,dB po iz,s64];refine aax ps lo fun c d bc gc gd hb=>?_;simp only[go_sem];exact jB gc
end
section
variable {F:Nat} {ls:List Let}
theorem aew{r to:Nat}:∀p∈oJ g r to,p.1<=max g to/\p.2<=r:=by
 intro p hp;unfold oJ at hp;rcases cT.1 hp with rfl|h
 .exact⟨Hm _ _,aZ _⟩
 obtain⟨i,hi,rfl⟩:=dr.1 h;have:=fk.1 hi;exact⟨by show g+1+i<=max g to;omega,aY _⟩
theorem adi(g:ct F ls){j:Nat}(hj:j<(aC ls).length):∀p∈pX F ls j,p.1<=1000000/\p.2<=1000000:=by
 have ok:=g.ok;have hF:=g.fing;have hlen:=g.len;have h1:=Iu ok hj;have h2:=Iu ok (dw (j+1) (show 0<(aC ls).length by omega));have hr:rN ls ((aC ls).getD j 0)<=ls.length:=by obtain⟨u,l,_,du,hl,_,hg⟩:=QY ok hj;rw[du,VD hl];have:=hg.r1;have:=hg.r0;have hc:cg ls l.gate.toNat<=ls.length:=sM _ _;omega
 intro p hp;unfold pX at hp;simp only at hp;split at hp
 .have:=aew p hp;omega
 rcases fq.1 hp with h|h<;>(have:=aew p h;omega)
theorem ai4(g:ct F ls){w:List Nat}(hw:∀x∈w,x<nD ls):∀k,k<=w.length->∀p∈(BZ F ls w k).places,p.1<=1000000/\p.2<=1000000:=by
 intro k
 induction k with
 |zero=>intro _ p hp;cases hp
 |succ k ih=>
  intro hk;obtain⟨x,hx⟩:=aI (show k<w.length by omega);have vr:=hw x (aQ hx);have ih:=ih aa;rw[ZW hx];unfold Fc.add;by_cases h:x<2*ls.length
  .rw[if_pos h];exact ih
  rw[if_neg h];have hj:(x-2*ls.length)/2<(aC ls).length:=by unfold nD at vr;omega
  intro p hp;rcases fq.1 hp with h|h
  .exact ih p h
  split at h
  .exact adi g hj p h
  exact adi g hj p (List.mem_reverse.1 h)
theorem ai6(g:ct F ls):∀f∈dS F ls,f.places.length<=200000/\ ∀p∈f.places,p.1<=1000000/\p.2<=1000000:=by intro f hf;obtain⟨w,hw,rfl⟩:=dr.1 hf;obtain⟨_,h2,h3⟩:=zZ g.ok w hw;rw[<- ZU];have iK:(aC ls).length<=ls.length:=uy ls ls.length;have h4:=(ZV g.ok h3 w.length (aZ _)).2.1;have hlen:=g.len;have hF:=g.fing;refine⟨?_,ai4 g h3 w.length (aZ _)⟩;have h5:w.length*(2*F+2)<=1600*82:=Nat.mul_le_mul (by unfold nD at h2;omega) aa;omega
theorem ahm(g:ct F ls)(aK:0<ls.length){kk:Int}:∃ms:List dx,(ms.length<=200000000/\ ∀m∈ms,m.k=kk)/\aH S 100 [.one (.p (dj F ls)),vi kk] (.one (bK iI 7 (mP ms))):=by
 have hlen:=g.len;have ok2:∀ms:List dx,(ms.length<=2*ls.length/\ ∀m∈ms,CJ kk ls.length m)->ms.length<=200000000/\ ∀m∈ms,m.k=kk:=fun ms h=>⟨aa,fun m hm=>(h.2 m hm).choose_spec.2.1⟩;by_cases hc:kk=3\/kk=6\/kk=8
 .obtain⟨ms,h,p⟩:=ahh g aK hc;exact⟨ms,ok2 ms h,p⟩
 by_cases e2:kk=2
 .subst e2;obtain⟨ms,h,p⟩:=ahk g aK (ai6 g);exact⟨ms,⟨by have:=h.1;omega,h.2⟩,p⟩
 by_cases e5:kk=5
 .subst e5;obtain⟨ms,h,p⟩:=ahj g aK;exact⟨ms,⟨by have:=h.1;omega,h.2⟩,p⟩
 by_cases e7:kk=7
 .subst e7;obtain⟨ms,h,p⟩:=ahl g aK;have:=Nat.mul_le_mul hlen hlen;exact⟨ms,⟨by have:=h.1;omega,h.2⟩,p⟩
 obtain⟨ms,h,p⟩:=ahi g aK (beq_eq_false_iff_ne.2 e2) (beq_eq_false_iff_ne.2 e5) (beq_eq_false_iff_ne.2 e7) (beq_eq_false_iff_ne.2 fun e=>hc (.inl e)) (beq_eq_false_iff_ne.2 fun e=>hc (.inr (.inl e))) (beq_eq_false_iff_ne.2 fun e=>hc (.inr (.inr e)));exact⟨ms,ok2 ms h,p⟩
end
abbrev KK:Nat:=24
def EP(F:Nat)(ls:List Let)(m:dx):Prop:=1<=m.k/\m.k<=10/\ ∃M,vV F ls m.k m.a m.b m.c m.l m.o m.s=uP F M
theorem age{F:Nat}{ls:List Let}{k a b c:Int}{l o:Bool}{sg:Int}:(∃e:Int,e≠0/\vV F ls k a b c l o sg=th e)\/ ∃L,vV F ls k a b c l o sg=uP F L:=by
 unfold vV;split
 .cases ow F ls k a.toNat b.toNat c.toNat l o sg with
  |none=>exact .inl ⟨4,ae,rfl⟩
  |some L=>
   by_cases h:(400:Int)<(ls.length:Int)+(ig k).1\/(100:Int)<((au Let.aw ls/2:Nat):Int)+(ig k).2
   .exact .inl ⟨7,ae,if_pos h⟩
   exact .inr ⟨nj L,if_neg h⟩
 exact .inl ⟨2,ae,rfl⟩
section
variable {F:Nat} {ls:List Let}
theorem ap5(g:ct F ls)(aK:0<ls.length):∃ms cs,(ms.length<=2000000000/\ ∀m∈ms,EP F ls m)/\aH S 64 [.one (.p (dj F ls)),.one (.p (.sl (nP (kinds 10))))] (.tup [.one (bK iI 7 (mP ms)),.one (bK KK 2 cs)]):=by
 have hlen:=g.len;have pP:S.lone 4096448128=false:=ah;have sB:S.lone 4096640128=false:=ah
 suffices h:∃r,(∃ms cs,(ms.length<=2000000000/\ ∀m∈ms,EP F ls m)/\r=.tup [.one (bK iI 7 (mP ms)),.one (bK KK 2 cs)])/\aH S 64 [.one (.p (dj F ls)),.one (.p (.sl (nP (kinds 10))))] r by obtain⟨r,⟨ms,cs,h1,rfl⟩,h2⟩:=h;exact⟨ms,cs,h1,h2⟩
 refine Bw rfl c64 (hU rfl) ?_;simp only[go_sem,i64];refine cQ (fun k aj blk=>aj 0=.one (.p (dj F ls))/\aj 1=.one (.p (.sl (nP (kinds 10))))/\aj 8=vi ((k+1:Nat):Int)/\ ∃ms cs c d,ms.length<=200000000*k/\cs.length<=200000000*k/\(∀m∈ms,EP F ls m)/\aj 6=.one c/\aj 7=.one d/\grown 4096768192 iI 7 (mP ms) (.one c) blk/\grown 4096768448 KK 2 cs (.one d) blk) 0 10 (aY _) ?_ ?_
 .simp only[go_sem];exact⟨rfl,[],[],.p .nils,.p .nils,af,af,fun m h=>(by cases h),rfl,rfl,grown.nil,grown.nil⟩
 rintro k aj blk hk ⟨e0,e1,e8,ms,cs,c,d,pL,cY,ao,e6,e7,gm,gc⟩
 by_cases aq:k<10
 .have aJ:((k+1:Nat):Int)<=10:=aa;have w1:=bG (n:=k+1) aa;have ph:=aaQ aq;obtain⟨ns,⟨hns,Ml⟩,pc⟩:=ahm g aK (kk:=((k+1:Nat):Int));simp only[go_sem,i64_l3,e0,e1,e8,aJ,s99,cH ph,s100];refine jH pc pP (.inl rfl) fun cc bc gl aR=>?_;have wH:=gm.of_eq (aR 4096768192 ae);have wE:=gc.of_eq (aR 4096768448 ae);rcases gl with ⟨e,e2⟩|⟨_,gg,e,mH⟩
  .cases e2;simp only[go_sem];refine oU ?_;simp only[go_sem,i64_l1,i64_r2,e0,e1,e6,e7,e8,zz,w1];exact⟨aq,ms,cs,c,d,aa,aa,ao,rfl,rfl,wH,wE⟩
  cases e;rw[sC];simp only[go_sem];refine cQ (fun j aj blk=>aj 0=.one (.p (dj F ls))/\aj 1=.one (.p (.sl (nP (kinds 10))))/\aj 8=vi ((k+1:Nat):Int)/\aj 23=.one (.hsl 4096448128 gg 7 0 ns.length)/\aj 24=vi ns.length/\aj 25=vi j/\blk 4096448128=(gg,some (.arr iI 7 (mP ns)))/\ ∃ms cs c d,ms.length<=200000000*k+j/\cs.length<=200000000*k+j/\(∀m∈ms,EP F ls m)/\aj 6=.one c/\aj 7=.one d/\grown 4096768192 iI 7 (mP ms) (.one c) blk/\grown 4096768448 KK 2 cs (.one d) blk) 0 ns.length (aY _) ?_ ?_
  .simp only[go_sem,e0,e1,e6,e7,e8];exact⟨rfl,mH,ms,cs,c,d,aa,aa,ao,rfl,rfl,wH,wE⟩
  clear gm gc wH wE ao pL cY mH aR e0 e1 e6 e7 e8;rintro j aj blk hj ⟨q0,q1,q8,rm,mO,vD,bL,ms,cs,c,d,pL,cY,ao,q6,q7,gm,gc⟩
  by_cases pJ:j<ns.length
  .have Cn:((j:Int)<(ns.length:Int)):=aa;have w2:=bG (n:=j) aa;obtain⟨m,nz⟩:=aI pJ;have gh:=MQ nz;have Cs:=Ml m (aQ nz);have hkm:m.k=((k+1:Nat):Int):=Cs;have hmlen:(mP ns).length=ns.length:=sC ns;have pd:=Yy g m.k m.a m.b m.c m.l m.o m.s;rcases age (F:=F) (ls:=ls) (k:=m.k) (a:=m.a) (b:=m.b) (c:=m.c) (l:=m.l) (o:=m.o) (sg:=m.s) with ⟨e,he,ha⟩|⟨M,ha⟩
   .rw[ha] at pd;have Ce:(e==0)=false:=by simpa using he
    simp only[go_sem,i64_l1,q0,q1,q6,q7,q8,rm,mO,vD,bL,pJ,Cn,gh,dx.ps,s19,dB pd alW,Ce,w2];exact⟨ms,cs,c,d,aa,aa,ao,rfl,rfl,gm.of_eq (by simp only[aS,Nat.reduceEqDiff,if_false]),gc.of_eq (by simp only[aS,Nat.reduceEqDiff,if_false])⟩
   have akO:EP F ls m:=⟨aa,aa,M,ha⟩;rw[ha] at pd;simp only[go_sem,i64_l1,q0,rm,mO,vD,bL,pJ,Cn,gh,dx.ps,s19];refine Ld pd sB fun cx aT gx aU=>?_;have HE:=aU 4096576128 ae;simp only[go_sem] at HE;have bL2:=(aU 4096448128 ae).trans ((aN ae).trans ((aN ae).trans bL));have zj:=gm.of_eq ((aU 4096768192 ae).trans (by simp only[aS,Nat.reduceEqDiff,if_false]));have oc:=gc.of_eq ((aU 4096768448 ae).trans (by simp only[aS,Nat.reduceEqDiff,if_false]));have IT:∀m'∈ms++[m],EP F ls m':=fun m' h=>(fq.1 h).elim (ao m') fun h=>(j6.1 h)▸akO;have zD:mP (ms++[m])=mP ms++[dx.ps m]:=by simp[mP]
   rcases gx with ⟨eM,e2⟩|⟨akz,g2,e2,Lz⟩
   .cases e2;simp only[go_sem,HE,q6];refine y9 (site:=4096768192) (id:=4096768192) (bytes:=48) (xs:=[dx.ps m]) (rd:=[4096768128]) (zj.of_eq (by simp only[aS,Nat.reduceEqDiff,if_false])) (by simp[eT,aS,dx.ps]) (.inl rfl) (by simp only[sC,cE,dQ];omega) fun c' jz r1 u1 fG kG dI=>?_;have Dv:=kG 4096640384 ae ae;simp only[go_sem] at Dv;simp only[go_sem,Dv,q7];have B5:=oc.of_eq ((kG 4096768448 ae ae).trans (by simp only[aS,Nat.reduceEqDiff,if_false]:_=aT 4096768448));refine y9 (site:=4096768448) (id:=4096768448) (bytes:=32) (xs:=[[.int .i64 F,.sl []]]) (rd:=[4096768384]) (B5.of_eq (aN ae)) (by simp[eT,aS]) (.inl rfl) (by simp only[cE,dQ];omega) fun d' qf r2 u2 xZ kh nH=>?_
    have Dw:=(kh 4096448128 ae ae).trans ((aN ae).trans (kG 4096448128 ae ae));simp only[aS,Nat.reduceEqDiff,if_false] at Dw;have KD:=Dw.trans bL2;simp only[go_sem,q0,q1,q6,q7,q8,rm,mO,vD,KD,w2,pJ];refine⟨?_,ms++[m],_,c',d',by simp;omega,by simp;omega,IT,rfl,rfl,?_,xZ⟩
    .rcases dI with ⟨rfl,rfl⟩|⟨rfl,rfl⟩|⟨rfl,rfl⟩<;>rcases nH with ⟨rfl,rfl⟩|⟨rfl,rfl⟩|⟨rfl,rfl⟩<;>kernel_rfl
    rw[zD];exact fG.of_eq ((kh 4096768192 ae ae).trans (aN ae))
   cases e2;simp only[go_sem,HE,q6];refine y9 (site:=4096768192) (id:=4096768192) (bytes:=48) (xs:=[dx.ps m]) (rd:=[4096768128]) (zj.of_eq (by simp only[aS,Nat.reduceEqDiff,if_false])) (by simp[eT,aS,dx.ps]) (.inl rfl) (by simp only[sC,cE,dQ];omega) fun c' jz r1 u1 fG kG dI=>?_;have Dv:=kG 4096640384 ae ae;simp only[go_sem] at Dv;simp only[go_sem,Dv,q7];have KG:=(kG (4096640128+1) ae ae);simp only[Nat.reduceAdd,aS,Nat.reduceEqDiff,if_false] at KG Lz;have hx3:=KG.trans Lz;have gx3:grown (4096640128+1) CG 6 (w9 M) (.one (.hsl (4096640128+1) g2 6 0 M.length)) jz:=.inr ⟨akz,g2,by rw[w9,cF],hx3⟩
   obtain⟨fr,hx,ye,Aq⟩:=YL (blk:=cZ jz 4096768384 ((jz 4096768384).1+1,some (.iT KK 2 [[.p (.int .i64 F),.hsl (4096640128+1) g2 6 0 M.length]]))) (s:=4096768384) rz (gx3.of_eq (aN ae));have B5:=oc.of_eq ((kG 4096768448 ae ae).trans (by simp only[aS,Nat.reduceEqDiff,if_false]:_=aT 4096768448));have nf:∀i,i≠4096640128+1->i∉fr:=fun i a h=>by
    rcases Aq with rfl|rfl
    .cases h
    exact a (j6.1 h)
   refine Yn (site:=4096768448) (id:=4096768448) (bytes:=32) (B5.of_eq (aN ae)) hx ye (nf _ ae) (nf _ ae) (.inl rfl) (by simp only[cE,dQ];omega) fun d' qf r2 u2 xZ kh nH=>?_;have Dw:=(kh 4096448128 ae ae (nf _ ae)).trans ((aN ae).trans (kG 4096448128 ae ae));simp only[aS,Nat.reduceEqDiff,if_false] at Dw;have KD:=Dw.trans bL2;simp only[go_sem,q0,q1,q6,q7,q8,rm,mO,vD,KD,w2,pJ];refine⟨?_,ms++[m],_,c',d',by simp;omega,by simp;omega,IT,rfl,rfl,?_,xZ⟩
   .rcases Aq with rfl|rfl<;>rcases dI with ⟨rfl,rfl⟩|⟨rfl,rfl⟩|⟨rfl,rfl⟩<;>rcases nH with ⟨rfl,rfl⟩|⟨rfl,rfl⟩|⟨rfl,rfl⟩<;>kernel_rfl
   rw[zD];exact fG.of_eq ((kh 4096768192 ae ae (nf _ ae)).trans (aN ae))
  have:j=ns.length:=aa;subst this;simp only[go_sem,i64_l1,i64_r2,q0,q1,q6,q7,q8,mO,vD,dZ,w1];exact⟨aq,ms,cs,c,d,aa,aa,ao,rfl,rfl,gm,gc⟩
 have:k=10:=aa;subst this;have ir:¬(((10+1:Nat):Int)<=10):=ae;simp only[go_sem,i64_l3,i64_r4,e6,e7,e8,ir];exact⟨_,⟨ms,cs,⟨pL,ao⟩,rfl⟩,Ll ae gm gc⟩
end
end
end Go.Abs
