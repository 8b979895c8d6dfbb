/- A part. -/
import Derived.Test.YtenindeoffokoaaGreatDoorWd
set_option linter.all false
open List renaming length->I
set_option maxRecDepth 100000
set_option maxHeartbeats 16000000
namespace Go.Abs
variable{f u v:Nat}{x:Int}{m n:cL}
section
variable{h:af}{F:Nat}{j:cL}
def l_(n:Nat)(i:Int):Bool:=decide (0<=i)&&decide (i<(n:Int))
def yt(i:Int)(n:Nat):aL S 68 [aI i,.one (.p (.box [.int .i64 n]))] (fv (l_ n i)):=by
 refine cG as9 ?_;unfold l_;by_cases h:0<=i
 .by_cases H:i<(n:Int)
  .simp only[go_sem,UZ,h,H,ai,aB]
  simp only[go_sem,UZ,h,H,ai,aB]
 simp only[go_sem,UZ,h,ai,aB]
def Ih(l:af):((cX l).all λe=>e.all PV.scalar):=by simp[U.ps,PV.scalar]
abbrev mQ(F:Nat)(L:af):RV:=.tup [.agg [.p (.int .i64 F),cU ml 6 (cX L)],.one (.p (.int .i64 0))]
def ui(F:Nat)(h:af)(k:Int):Option aW->RV
 |none=>oX 4
 |some L=>if(400:Int)<(I h:Int)+(gL k).1\/(100:Int)<((aq U.ak h/2:Nat):Int)+(gL k).2 then oX 7 else mQ F (aY L)
def Nl(l:aW)(drop:Nat->aN->Bool)(i:Nat):Option aN:=match l[i]? with|some p=>if drop i p then none else some p|none=>none
def wc(l:aW)(drop:Nat->aN->Bool)(k:Nat):aW:=(List.range k).filterMap (Nl l drop)
def oc(l:aW)(drop:Nat->aN->Bool):aW:=wc l drop (I l)
theorem EK{l:aW}{drop:Nat->aN->Bool}{k:Nat}{p:aN}(h:l[k]?=some p)(H:drop k p):wc l drop (k+1)=wc l drop k:=by simp[wc,nJ,acB,Nl,h,H]
theorem Nw{l:aW}{drop:Nat->aN->Bool}{k:Nat}{p:aN}(h:l[k]?=some p)(H:drop k p=false):wc l drop (k+1)=wc l drop k++[p]:=by simp[wc,nJ,acB,Nl,h,H]
def IL(l:aW)(drop:Nat->aN->Bool)(k:Nat):I (wc l drop k)<=k:=by have:=List.length_filterMap_le (Nl l drop) (List.range k);rwa[wI]at this
def Df(g:bj F h){e:Nat}(m:e<I h):aL S 106 [.one (.p (eK F h)),aI e] (x_ (.int .i64 e) (.int .i64 ((e+1)%I h:Nat))):=by have H:=g.len;have A:=bY h;have f:=cS (n:=e) J;have E:=xw (e+1) (I h);have j:¬((I h:Int)=0):=J;refine cG axr ?_;simp only[go_sem,adM,f,E,A,j,ai,aB];exact⟨aS,rfl⟩
def afG(l:aW)(hl:I l<=1000000){x y:PV}(X:x.norm=x/\y.norm=y)(N:S.shared f=false)(drop:Nat->aN->Bool)(Q:∀(k:Nat) (p:aN),l[k]?=some p->aL S f [aI k,.agg (p.ps.map .p),.one (.p x),.one (.p y)] (fv (drop k p))):
  aL S 107 [.one (.p (.sl (dP l))),.one (.p (.fn f [] [x,y]))] (.one (cU mI 7 (dP (oc l drop)))):=by
 obtain⟨B,z⟩:=X;refine cG agG ?_;simp only[go_sem,Wf,B,z];refine dt (λk A blk=>A 1=.one (.p (.fn f [] [x,y]))/\A 8=.one (.p (.sl (dP l)))/\A 9=aI (I l)/\A 10=aI k/\ ∃c,A 5=.one c/\bh 6848384192 mI 7 (dP (wc l drop k)) (.one c) blk) 0 (I l) (bZ _) ?_ ?_
 .simp only[go_sem];first|exact⟨rfl,_,rfl,.inl ⟨rfl,rfl⟩⟩|exact⟨_,rfl,.inl ⟨rfl,rfl⟩⟩|exact⟨rfl,rfl,_,rfl,.inl ⟨rfl,rfl⟩⟩
 rintro k A blk Z ⟨m,u,v,F,c,D,E⟩
 by_cases j:k<I l
 .have M:((k:Int)<(I l:Int)):=J;obtain⟨p,hp⟩:=aP j;have O:=jR hp;have L:=cS (n:=k) J;have h:=Q k p hp;have fq:=IL l drop k;simp only[aN.ps,eZ,m_]at h;cases H:drop k p with
  |true=>rw[H]at h;have ae:=EK hp H;simp only[go_sem,HG,m,D,u,v,F,j,M,O,aN.ps,B,z,N,b_ h,L];refine⟨c,rfl,?_⟩;rw[ae];exact E.of_eq (by simp only[bG,Nat.reduceEqDiff,if_false])
  |false=>rw[H]at h;have ae:=Nw hp H;simp only[go_sem,HG,m,D,u,v,F,j,M,O,aN.ps,B,z,N,b_ h];refine re (m:=6848384192) (id:=6848384192) (bytes:=56) (B:=[p.ps]) (rd:=[6848384128]) (E.of_eq (by simp only[bG,Nat.reduceEqDiff,if_false])) (by simp[hU,bG,aN.ps]) (.inl rfl) (by simp only[cg,fP,ga];omega) λR de Y T=>?_;simp only[go_sem,m,u,v,F,j,L];refine⟨R,rfl,?_⟩;rw[ae,Rv];exact Y
 have:k=I l:=J;subst this;simp only[go_sem,HG,Z2,m,D,u,v,F,fF];exact ve E
def aub(l:aW)(hl:I l<=1000000){x:PV}(R:x.norm=x)(L:S.shared f=false)(drop:Nat->aN->Bool)(N:∀(k:Nat) (p:aN),l[k]?=some p->aL S f [aI k,.agg (p.ps.map .p),.one (.p x)] (fv (drop k p))):
  aL S 107 [.one (.p (.sl (dP l))),.one (.p (.fn f [] [x]))] (.one (cU mI 7 (dP (oc l drop)))):=by
 have y:=R;refine cG agG ?_;simp only[go_sem,Wf,y];refine dt (λk A blk=>A 1=.one (.p (.fn f [] [x]))/\A 8=.one (.p (.sl (dP l)))/\A 9=aI (I l)/\A 10=aI k/\ ∃c,A 5=.one c/\bh 6848384192 mI 7 (dP (wc l drop k)) (.one c) blk) 0 (I l) (bZ _) ?_ ?_
 .simp only[go_sem];first|exact⟨rfl,_,rfl,.inl ⟨rfl,rfl⟩⟩|exact⟨_,rfl,.inl ⟨rfl,rfl⟩⟩|exact⟨rfl,rfl,_,rfl,.inl ⟨rfl,rfl⟩⟩
 rintro k A blk X ⟨m,u,v,F,c,z,B⟩
 by_cases j:k<I l
 .have E:((k:Int)<(I l:Int)):=J;obtain⟨p,hp⟩:=aP j;have M:=jR hp;have D:=cS (n:=k) J;have h:=N k p hp;have Y:=IL l drop k;simp only[aN.ps,eZ,m_]at h;cases H:drop k p with
  |true=>rw[H]at h;have ae:=EK hp H;simp only[go_sem,HG,m,z,u,v,F,j,E,M,aN.ps,y,L,b_ h,D];refine⟨c,rfl,?_⟩;rw[ae];exact B.of_eq (by simp only[bG,Nat.reduceEqDiff,if_false])
  |false=>rw[H]at h;have ae:=Nw hp H;simp only[go_sem,HG,m,z,u,v,F,j,E,M,aN.ps,y,L,b_ h];refine re (m:=6848384192) (id:=6848384192) (bytes:=56) (B:=[p.ps]) (rd:=[6848384128]) (B.of_eq (by simp only[bG,Nat.reduceEqDiff,if_false])) (by simp[hU,bG,aN.ps]) (.inl rfl) (by simp only[cg,fP,ga];omega) λO Z T Q=>?_;simp only[go_sem,m,u,v,F,j,D];refine⟨O,rfl,?_⟩;rw[ae,Rv];exact T
 have:k=I l:=J;subst this;simp only[go_sem,HG,Z2,m,z,u,v,F,fF];exact ve B
def acX(k i j:Nat)(p:aN):aL S 108 [aI k,.agg (p.ps.map .p),.one (.p (.box [.int .i64 i])),.one (.p (.box [.int .i64 j]))] (fv (decide (k=i)||decide (k=j))):=by
 refine cG asg ?_;by_cases H:k=i
 .have E:((k:Int)==(i:Int)):=by simp[H]
  rw[show(decide (k=i)||decide (k=j))=true by simp[H]];simp only[go_sem,Q7,aN.ps,E,ai,aB]
 have E:((k:Int)==(i:Int))=false:=by simp;omega
 by_cases h:k=j
 .have f:((k:Int)==(j:Int)):=by simp[h]
  rw[show(decide (k=i)||decide (k=j))=true by simp[h]];simp only[go_sem,Q7,aN.ps,E,f,ai,aB]
 have f:((k:Int)==(j:Int))=false:=by simp;omega
 rw[show(decide (k=i)||decide (k=j))=false by simp[H,h]];simp only[go_sem,Q7,aN.ps,E,f,ai,aB]
def j6(a b:Int):Int:=if a<b then b else a
def rN(a b:Int):Int:=if b<a then b else a
def n_(h:af)(u:Nat):Option aW:=
 let p:=(an h).getD u ⟨ij,false⟩
 let q:=(an h).getD ((u+1)%I h) ⟨ij,false⟩
 if(p.l.kind==1)&&((q.l.kind==1)&&((p.l.gate==q.l.gate)&&((j6 p.l.au q.l.au-rN p.l.au q.l.au==1)&& !(decide (aq U.ay h<=2)&&decide (0<aq U.ak h/2)))))
 then some (dO (oc (an h) λk _=>decide (k=u)||decide (k=(u+1)%I h)) p.l.gate (j6 p.l.au q.l.au) (-2))else none
def aah{l:aW}{drop:Nat->aN->Bool}{p:aN}(h:p∈oc l drop):p∈l:=by
 obtain _:=CY.1 h
 grind [Nl]
def aBr(g:bj F h)(H:u<I h){k b c:Int}{l o:Bool}{sg:Int}:
  aL S 69 [.one (.p (eK F h)),jL k u b c l o sg] (uU (n_ h u)):=by
 have ab:=g.len;have A:=bY h;have m:=Df g H;have v:=cT (u+1) (show 0<I h by omega);have O:=NX g;obtain⟨p,hp⟩:=aP (h:=an h) (k:=u) J;obtain⟨q,T⟩:=aP (h:=an h) (k:=(u+1)%I h) J;obtain⟨p1,p2⟩:=O p (a7 hp);obtain⟨q1,q2⟩:=O q (a7 T);have j:=jR hp;have f:=jR T;have ie:S.shared 109:=ah;have lo:S.lone 4416320320=false:=ah;have eS:=g.cr;unfold n_;simp only[dD,hp,T,nM];refine cG aAb ?_;cases c1:(p.l.kind==1)with
 |false=>
  have n:(p.l.kind !=1):=by simp[bne,c1]
  simp only[go_sem,EN,iF,cE m dX,j,f,aN.ps,A,H,v,n];exact⟨aS,rfl⟩
 |true=>
 have n:(p.l.kind !=1)=false:=by simp[bne,c1]
 cases c2:(q.l.kind==1)with
 |false=>
  have N:(q.l.kind !=1):=by simp[bne,c2]
  simp only[go_sem,EN,iF,cE m dX,j,f,aN.ps,A,H,v,n,N];exact⟨aS,rfl⟩
 |true=>
 have N:(q.l.kind !=1)=false:=by simp[bne,c2]
 cases c3:(p.l.gate==q.l.gate)with
 |false=>
  have y:(p.l.gate !=q.l.gate):=by simp[bne,c3]
  simp only[go_sem,EN,iF,cE m dX,j,f,aN.ps,A,H,v,n,N,y];exact⟨aS,rfl⟩
 |true=>
 have y:(p.l.gate !=q.l.gate)=false:=by simp[bne,c3]
 have Q:(if q.l.au>p.l.au then q.l.au else p.l.au)=j6 p.l.au q.l.au:=rfl;have L:(if q.l.au<p.l.au then q.l.au else p.l.au)=rN p.l.au q.l.au:=rfl;have ad: -1000000<=j6 p.l.au q.l.au/\j6 p.l.au q.l.au<=1000000:=by unfold j6;split<;>omega
 have ac: -1000000<=rN p.l.au q.l.au/\rN p.l.au q.l.au<=1000000:=by unfold rN;split<;>omega
 have M:=nj (x:=j6 p.l.au q.l.au-rN p.l.au q.l.au) J J;generalize j6 p.l.au q.l.au=Y at*;generalize rN p.l.au q.l.au=mn at*;cases c4:(Y-mn==1)with
 |false=>
  have B:(Y-mn !=1):=by simp[bne,c4]
  simp only[go_sem,EN,iF,cE m dX,j,f,aN.ps,A,H,v,n,N,y,Q,L,M,B];exact⟨aS,rfl⟩
 |true=>
 have B:(Y-mn !=1)=false:=by simp[bne,c4]
 have fA:∀(X:Prop),X->X:=λ_ ag=>ag;by_cases c5:aq U.ay h<=2
 .have E:((aq U.ay h:Int)<=2):=J;by_cases c6:0<aq U.ak h/2
  .have Z:((0:Int)<((aq U.ak h/2:Nat):Int)):=J;rw[tV c5,tV c6];simp only[go_sem,EN,iF,cE m dX,j,f,aN.ps,A,H,v,n,N,y,Q,L,M,B,E,Z];exact⟨aS,rfl⟩
  have Z:¬((0:Int)<((aq U.ak h/2:Nat):Int)):=J;rw[tV c5,vg c6];simp only[go_sem,EN,iF,cE m dX,j,f,aN.ps,A,H,v,n,N,y,Q,L,M,B,E,Z,Xs];refine⟨aS,?_⟩;refine nI (afG (an h) J ⟨rfl,rfl⟩ alz (λk _=>decide (k=u)||decide (k=(u+1)%I h)) (λk p _=>acX k u ((u+1)%I h) p)) lo (.inr (r9 (yK _))) λcc de gc z=>?_;have b8:=z 4416128896 aa;have D:=z 4416128960 aa;simp only[go_sem]at b8 D;simp only[go_sem,b8,D,Q,ie];refine Jp (oO (IL _ _ _) J) aa (λx hx=>O x (aah hx)) gc λbK R cV=>?_;simp only[go_sem];exact uc R
 have E:¬((aq U.ay h:Int)<=2):=J;rw[vg c5];simp only[go_sem,EN,iF,cE m dX,j,f,aN.ps,A,H,v,n,N,y,Q,L,M,B,E,Xs];refine⟨aS,?_⟩;refine nI (afG (an h) J ⟨rfl,rfl⟩ alz (λk _=>decide (k=u)||decide (k=(u+1)%I h)) (λk p _=>acX k u ((u+1)%I h) p)) lo (.inr (r9 (yK _))) λcc de gc z=>?_;have b8:=z 4416128896 aa;have D:=z 4416128960 aa;simp only[go_sem]at b8 D;simp only[go_sem,b8,D,Q,ie];refine Jp (oO (IL _ _ _) J) aa (λx hx=>O x (aah hx)) gc λbK R cV=>?_;simp only[go_sem];exact uc R
abbrev fJ(o:cL):dI:=o.map λn=>[PV.int .i64 n]
def yM{o:cL}{k:Nat}{v:Int}(h:o[k]?=some v):(fJ o)[k]?=some [.int .i64 v]:=by simp[h]
def qk(o:cL)(x:Int)(i:Nat):Bool:=match o[i]? with|some y=>y==x|none=>false
def az7(o:cL)(x:Int)(hl:I o<=1000000):aL S 169 [.one (.p (.sl (fJ o))),aI x] (jr (match (List.range (I o)).find? (qk o x)with|some k=>(k:Int)|none=> -1)):=by
 refine cG aAA ?_;simp only[go_sem,ahj,ai,aB];refine dt (λk A blk=>A 0=.one (.p (.sl (fJ o)))/\A 1=aI x/\A 7=aI (I o)/\A 8=aI k/\ ∀j,j<k->qk o x j=false) 0 (I o) (bZ _) ?_ ?_
 .simp only[go_sem];exact⟨rfl,λj B=>absurd B (o6 j)⟩
 rintro k A blk Q ⟨u,L,D,m,v⟩
 by_cases f:k<I o
 .have F:((k:Int)<(I o:Int)):=J;obtain⟨y,E⟩:=aP f;have M:=yM E;have N:=cS (n:=k) J;have O:qk o x k=(y==x):=by simp[qk,E]
  cases H:(y==x)with
  |true=>
   have z:(x==y):=by have:=c8.1 H;simp[this]
   rw[H]at O;have hf:=AB (p:=qk o x) f v O;simp only[go_sem,RT,u,L,D,m,f,F,M,H,z,hf,ai,aB];first|done|exact aS|rfl
  |false=>
   have z:(x==y)=false:=by
    have:¬y=x:=by simpa using H
    simp;exactλh=>this h.symm
   rw[H]at O;have Y:∀j,j<k+1->qk o x j=false:=λj B=>by
    rcases rH.1 B with h|rfl
    .exact v j h
    exact O
   simp only[go_sem,RT,u,L,D,m,f,F,M,H,z,N,ai,aB];first|exact Y|exact⟨aS,Y⟩
 have:k=I o:=J;subst this;have hf:=Fa (p:=qk o x) v;simp only[go_sem,RT,amU,u,D,m,fF,hf,ai,aB]
def atc(o:cL)(x:Int)(hl:I o<=1000000):aL S 147 [.one (.p (.sl (fJ o))),aI x] (fv (o.contains x)):=by
 have f:=az7 o x hl;refine cG axB ?_;cases n:o.contains x with
 |true=>
  have m:x∈o:=by simpa using n
  obtain⟨k,u⟩:=fK m;have F:=(bt.1 u).1;cases hf:(List.range (I o)).find? (qk o x)with
  |none=>have:=B6.1 hf k (gA.2 F);simp[qk,u]at this
  |some j=>rw[hf]at f;have M:(0:Int)<=(j:Int):=J;simp only[go_sem,acg,amK,gr f,M,ai,aB]
 |false=>
  have m:x∉o:=by simpa using n
  cases hf:(List.range (I o)).find? (qk o x)with
  |some j=>
   have h:=AW hf;unfold qk at h;cases H:o[j]? with
   |none=>rw[H]at h;cases h
   |some y=>
    rw[H]at h;have:y=x:=by simpa using h
    subst this;exact absurd (a7 H) m
  |none=>rw[hf]at f;have M:¬(0:Int)<= -1:=aa;simp only[go_sem,acg,amK,gr f,M,ai,aB]
def uR(ids:cL)(_:Nat)(p:aN):Bool:=(p.l.kind==2)&&ids.contains p.l.id
def aw4(ids:cL)(hl:I ids<=1000000)(k:Nat)(p:aN):aL S 146 [aI k,.agg (p.ps.map .p),.one (.p (.box [.sl (fJ ids)]))] (fv (uR ids k p)):=by
 have pc:=atc ids p.l.id hl;refine cG aBz ?_;unfold uR;cases h:(p.l.kind==2)with
 |true=>simp only[go_sem,X4,aN.ps,h,apA,b_ pc,ai,aB]
 |false=>simp only[go_sem,X4,aN.ps,h,ai,aB]
def ao8(a:Int):aL S 197 [aI a] (fv false):=by refine cG au0 ?_;have h:(a !=a)=false:=aE;simp only[go_sem,ams,h,ai,aB]
def ays(a b:Int):aL S 176 [aI a,aI b] (fv (vl a b)):=by have f:=ao8 a;refine cG aAe ?_;simp only[go_sem,amC,awf,b_ f,vl,ai,aB]
def aaB(n:Nat)(h:n<=1000000):∃k:Int,aL S 129 [.one (.p (.int .u64 n))] (jr k):=by
 refine⟨((Lib.bitLen n:Nat):Int),⟨1,?_⟩⟩;have hp:S.prim 129 [.one (.p (.int .u64 (n:Int)))]=some (some (jr ((Lib.bitLen n:Nat):Int))):=by show some (Ox [.one (.p (.int .u64 (n:Int)))])=_;simp only[Ox];rw[aD ⟨J,J⟩];rfl
 rw[kB,hp]
def aai(o:cL)(k:Nat)(v:Int):(fJ o).set k [.int .i64 v]=fJ (o.set k v):=by simp[Ew]
def vZ(o:cL):I (fJ o)=I o:=cg _
def LF(lt:Int->Int->Bool)(id g v:Nat)(m:cL)(blk:aJ)(f:V)(A:aJ):Prop:=f=.tup []/\(∃j:cL,A id=(g,some (.arr v 1 (fJ j)))/\j.Perm m/\xx lt j 0 (I j))/\d_ (· =id) blk A
def avz{al:cF}{blk:aJ}{id g:Nat}(o:al.ok id)(hl:I m<=1000000)(hC:blk id=(g,some (.arr v 1 (fJ m)))):
  ∃ab f,jQ S 170 [.one (.hsl id g 1 0 (I m)),aI 0,aI (I m)] al blk ab f/\LF vl id g v m blk ab f:=by
 refine oZ ati (ju rfl) ?_;have w0:IntKind.i64.wrap (0+1)=((0+1:Nat):Int):=aa;simp only[go_sem,akT,w0,ai,aB];refine dt (λk A f=>A 0=.one (.hsl id g 1 0 (I m))/\A 1=aI 0/\A 2=aI (I m)/\A 6=aI ((k+1:Nat):Int)/\ ∃zs:cL,f id=(g,some (.arr v 1 (fJ zs)))/\zs.Perm m/\xx vl zs 0 (k+1)/\d_ (· =id) blk f) 0 (I m) (bZ _) ?_ ?_
 .simp only[go_sem];exact⟨rfl,m,hC,.refl _,λp q x y _ B z=>J,d_.refl _ _⟩
 rintro k A de hk ⟨F,B,z,X,zs,hZ,hp,ae,Y⟩
 have l9:=hp.length_eq;by_cases aw:k+1<I m
 .have L:((k+1:Nat):Int)<(I m:Int):=J;obtain⟨x,hx⟩:=aP (h:=zs) (k:=k+1) J;simp only[go_sem,abA,F,B,z,X,L,ai,aB];refine dt (λq A f=>A 0=.one (.hsl id g 1 0 (I m))/\A 1=aI 0/\A 2=aI (I m)/\A 6=aI ((k+1:Nat):Int)/\A 7=aI ((k+1-q:Nat):Int)/\ ∃j:cL,f id=(g,some (.arr v 1 (fJ j)))/\A6 vl zs j x 0 (k+1) (k+1-q)/\d_ (· =id) blk f) 0 (k+1) (bZ _) ?_ ?_
  .simp only[go_sem,F,B,z,X];exact⟨zs,hZ,A6.start (bZ _) hx ae,Y⟩
  rintro q dM bK hq ⟨N,k1,k2,k6,k7,j,M,H,T⟩
  have tM:I j=I m:=H.perm.length_eq.trans l9;have O:IntKind.i64.wrap (((k+1:Nat):Int)+1)=((k+1+1:Nat):Int):=cS (n:=k+1) J;by_cases Hr:k+1-q=0
  .have E:¬((0:Int)<((k+1-q:Nat):Int)):=J;simp only[go_sem,QG,Rr,N,k1,k2,k6,k7,E,O,ai,aB];refine⟨aS,J,j,M,H.perm.trans hp,H.stop abS (.inl Hr),T⟩
  obtain⟨u,hj⟩:∃u,k+1-q=u+1:=⟨k-q,J⟩;have E:((0:Int)<((u+1:Nat):Int)):=J;obtain⟨y,R⟩:=aP (h:=j) (k:=u) J;rw[hj]at H k7;have wj:IntKind.i64.wrap (((u+1:Nat):Int)-1)=(u:Int):=by rw[uA J];omega
  have qX:=yM H.at';have zy:=yM R;have Z:u+1<I m:=by have:=H.le;omega
  have j2:u<I m:=J;have pl:=ays x y;cases D:vl x y with
  |false=>rw[D]at pl;simp only[go_sem,QG,Rr,N,k1,k2,k6,k7,E,O,wj,M,qX,zy,Z,j2,o,ajl,U1 pl,ai,aB];refine⟨aS,J,j,rfl,H.perm.trans hp,H.stop abS (.inr ⟨y,J,R,D⟩),T⟩
  |true=>rw[D]at pl;have xZ:=H.step abS (bZ _) R D;have Q:¬(u+1=u):=J;have l1:u+1<I j:=J;have l2:u<I j:=J;simp only[go_sem,QG,Rr,N,k1,k2,k6,k7,E,O,wj,M,qX,zy,Z,j2,l1,l2,Q,o,ajl,U1 pl,pJ,j7,vZ,ai,aB];have CH:k+1-(q+1)=u:=J;refine⟨aS,aS,J,by rw[CH],(j.set (u+1) y).set u x,by rw[aai,aai],by rw[CH];exact xZ,(T.dV rfl _).dV rfl _⟩
 have L:¬(((k+1:Nat):Int)<(I m:Int)):=J;simp only[go_sem,abA,F,B,z,X,L,ai,aB];exact⟨rfl,⟨zs,hZ,hp,ae.mono (.inl J)⟩,Y⟩
def zG{Q:iw}{al:cF}{y:bJ}{blk:aJ}{os:fV}{d:eT}{id g z o n:Nat}{j:dZ}{m:dI}{P:V->aJ->Prop}(B:blk id=(g,some (.arr v z m)))(T:(j.map (qd blk)).flatten=[])(E:al=.all\/al.ok id/\(S.sites f).all al.fs.contains)
  (h:∀u,u.ok id->u.fs=S.sites f->∃x A,jQ S f (.one (.hsl id g z o n)::j) u blk x A/\P x A)
  (F:∀x A,P x A->kG S al os Q (eQ y d x) A):kE S al (.sc f (.one (.hsl id g z o n)::j)) d os Q y blk:=by
 have H:((V.one (.hsl id g z o n)::j).map (qd blk)).flatten=[id]:=by rw[eZ,xX,T,Wm B];rfl
 refine xB (P:=P) ?_ (h _ (Ep (by rw[H];simp)) rfl) F;rcases E with rfl|⟨L,D⟩
 .rfl
 refine Ow ?_ D;show al.jk ((V.one (.hsl id g z o n)::j).map (qd blk)).flatten=true;rw[H];simp[cF.jk,L]
def aA3{al:cF}{blk:aJ}{id g:Nat}(o:al.ok id)(F:al.fs.contains 170)(hl:I m<=12)(h:blk id=(g,some (.arr v 1 (fJ m))))(L:Int):
  ∃j A,jQ S 148 [.one (.hsl id g 1 0 (I m)),aI 0,aI (I m),aI L] al blk j A/\LF vl id g v m blk j A:=by
 refine oZ aox (ju rfl) ?_;have f:IntKind.i64.wrap ((I m:Int)-0)=(I m:Int):=by rw[Int.sub_zero];exact nj J J
 have n:(I m:Int)<=12:=J;simp only[go_sem,akg,ai,aB];refine og ?_;simp only[go_sem,ahE,f,n,auU,ai,aB];refine zG h (by rfl) (.inr ⟨o,by rw[show S.sites 170=[170] by kernel_rfl];simp only[wE,zO,F,zK]⟩) (P:=LF vl id g v m blk) (λQ x _=>avz x J h) λj A u=>?_;obtain⟨rfl,H⟩:=u;simp only[go_sem,ai,aB];exact⟨rfl,H⟩
def aaC{al:cF}{blk:aJ}{id g:Nat}(o:al.ok id)(F:(S.sites 148).all al.fs.contains)(hl:I m<=12)(H:blk id=(g,some (.arr v 1 (fJ m)))):
  ∃j A,jQ S 119 [.one (.hsl id g 1 0 (I m))] al blk j A/\LF vl id g v m blk j A:=by
 obtain⟨k,pb⟩:=aaB (I m) J;have u:IntKind.u64.wrap (I m:Int)=(I m:Int):=by
  have e:IntKind.u64.wrap (I m:Int)=(I m:Int)%18446744073709551616:=by unfold IntKind.wrap;rfl
  rw[e];omega
 refine oZ aq6 (ju rfl) ?_;have f:S.shared 129=false:=ah;simp only[go_sem,adZ,u,f,Y_ pb,aBO,ai,aB];refine zG H (by rfl) (.inr ⟨o,F⟩) (P:=LF vl id g v m blk) (λQ x h=>aA3 x (by rw[h];kernel_rfl) hl H k) λj A n=>?_;obtain⟨rfl,h⟩:=n;simp only[go_sem,ai,aB];exact⟨rfl,h⟩
def nT(j:cL):Nat->cL
 |0=>[]
 |k+1=>match j[k]? with
  |some x=>if 0<k/\j[k-1]?=some x then nT j k else nT j k++[x]
  |none=>nT j k
def ajb(j:cL):∀k,I (nT j k)<=k:=by
 intro k
 induction k with
 |zero=>exact cJ _
 |succ k f=>
  unfold nT;split
  .split
   .omega
   simp;omega
  omega
def aae{k:Nat}(h:j[k+1]?=some x)(hp:j[k]?=some x):nT j (k+2)=nT j (k+1):=by
 conv=>lhs;unfold nT
 rw[h];simp[hp]
def Xk{k:Nat}{y:Int}(h:j[k+1]?=some x)(hp:j[k]?=some y)(H:¬x=y):nT j (k+2)=nT j (k+1)++[x]:=by
 conv=>lhs;unfold nT
 rw[h];have:¬y=x:=λe=>H e.symm;simp[hp,this]
def anm(h:j[0]?=some x):nT j 1=[x]:=by simp[nT,h]
def Vv(j:cL)(k:Nat):Prop:=∀i x y,i+1<k->j[i]?=some x->j[i+1]?=some y-> ¬y=x
def ab8:∀k,k<=I j->Vv j k->nT j k=j.take k:=by
 intro k
 induction k with
 |zero=>intro _ _;rfl
 |succ k n=>
  intro v u;obtain⟨x,H⟩:=aP (h:=j) (k:=k) J;have e:=n J λi x y z=>u i x y J;have m:j.take (k+1)=j.take k++[x]:=by rw[k_,H];rfl
  rcases k with _|k
  .rw[anm H,m];rfl
  obtain⟨y,f⟩:=aP (h:=j) (k:=k) J;rw[Xk H f (u k y x J f H),e,m]
structure AK (ws cs:cL) (k q:Nat):Prop where
 len:I cs=I ws
 kl:k=I (nT ws q)
 pre:cs.take k=nT ws q
 out:∀p,q-1<=p->cs[p]?=ws[p]?
 kq:k<q
def AK.step{k q:Nat}{y:Int}(h:AK j n k (q+1))(H:j[q+1]?=some x)(f:j[q]?=some y)(m:¬x=y):AK j (n.set k x) (k+1) (q+2):=by
 obtain⟨z,u,A,v,D⟩:=h;have hl:=ajb j (q+1);have B:q+1<I j:=(bt.1 H).1;refine⟨by simpa using z,by rw[Xk H f m,gb,<-u];rfl,?_,λp hp=>?_,J⟩
 .rw[Xk H f m,k_,pJ];have:k<I n:=J;rw[aD rfl,aD this,Zd (cJ _),A];rfl
 rw[pJ,aC J];exact v p J
def AK.skip{k q:Nat}(h:AK j n k (q+1))(f:j[q+1]?=some x)(H:j[q]?=some x):AK j n k (q+2):=by obtain⟨v,m,y,u,z⟩:=h;exact⟨v,by rw[aae f H];exact m,by rw[aae f H];exact y,λp hp=>u p J,J⟩
def AK.start{k:Nat}(m:k+1<I j)(h:Vv j (k+1))(f:j[k+1]?=some x)(H:j[k]?=some x):AK j j (k+1) (k+2):=by have e:=ab8 (k+1) J h;have E:nT j (k+2)=j.take (k+1):=(aae f H).trans e;exact⟨rfl,by rw[E];simp;omega,by rw[E],λ_ _=>rfl,J⟩
def aBe(id g v:Nat)(j:cL)(blk:aJ)(f:V)(A:aJ):Prop:=f=.one (.hsl id g 1 0 (I (nT j (I j))))/\(∃n:cL,A id=(g,some (.arr v 1 (fJ n)))/\I n=I j/\n.take (I (nT j (I j)))=nT j (I j))/\d_ (· =id) blk A
def an2{k:Nat}(h:k<=I n):List.take k (fJ n)++List.replicate (I n-k) [PV.int .i64 0]++List.drop (k+(I n-k)) (fJ n)=fJ (n.take k++List.replicate (I n-k) 0):=by rw[PS (by simp;omega),ic];simp only[fJ,fL,List.map_replicate,sC]
def aja{al:cF}{blk:aJ}{id g:Nat}(o:al.ok id)(hl:I j<=1000000)(m:blk id=(g,some (.arr v 1 (fJ j)))):
  ∃ab f,jQ S 120 [.one (.hsl id g 1 0 (I j))] al blk ab f/\aBe id g v j blk ab f:=by
 refine oZ aq5 (ju rfl) ?_;by_cases h2:I j<2
 .have ki:((I j:Int)<2):=J;have F:Vv j (I j):=λi x y ar=>J;have e:=ab8 (I j) (cJ _) F;rw[jZ]at e;simp only[go_sem,VN,ki,ai,aB];exact⟨by rw[e],⟨j,m,rfl,by rw[e,jZ]⟩,d_.refl _ _⟩
 have ki:¬((I j:Int)<2):=J;simp only[go_sem,VN,ki,ai,aB];refine dt (λq A f=>A 0=.one (.hsl id g 1 0 (I j))/\A 3=aI ((q+1:Nat):Int)/\Vv j (q+1)/\f=blk) 0 (I j) (bZ _) ?_ ?_
 .simp only[go_sem];exact⟨rfl,λi x y ar=>J⟩
 rintro q A de hq ⟨M,D,F,rfl⟩
 by_cases N:q+1<I j
 .have B:(((q+1:Nat):Int)<(I j:Int)):=J;obtain⟨x,R⟩:=aP (h:=j) (k:=q+1) N;obtain⟨y,hy⟩:=aP (h:=j) (k:=q) J;have qX:=yM R;have zy:=yM hy;have wj:IntKind.i64.wrap (((q+1:Nat):Int)-1)=(q:Int):=by rw[uA J];omega
  have wk:=cS (n:=q+1) J;have q1:q<I j:=J;have q2:q+1<=I j:=J;by_cases e:x=y
  .subst e;simp only[go_sem,Te,M,D,N,B,qX,zy,wj,q1,q2,m,o,ai,aB];refine⟨aS,?_⟩;refine dt (λr A f=>A 0=.one (.hsl id g 1 0 (I j))/\A 4=.one (.hsl id g 1 (q+1) (I j-(q+1)))/\A 5=aI ((r+1:Nat):Int)/\ ∃(n:cL) (k:Nat),A 3=aI (k:Nat)/\f id=(g,some (.arr v 1 (fJ n)))/\AK j n k (q+2+r)/\q+2+r<=I j/\d_ (· =id) de f) 0 (I j) (bZ _) ?_ ?_
   .simp only[go_sem,M];exact⟨rfl,j,q+1,D,m,AK.start N F R hy,J,d_.refl _ _⟩
   rintro r dM bK hr ⟨k0,k4,k5,n,k,k3,hB,H,am,Z⟩
   have dF:=H.len;have fq:=H.kl;have ag:=ajb j (q+2+r);have ap:=H.kq;have Mi:AK j n k (q+1+r+1):=by rw[show q+1+r+1=q+2+r by omega];exact H
   by_cases Hy:r+1<I j-(q+1)
   .have L:(((r+1:Nat):Int)<((I j-(q+1):Nat):Int)):=J;obtain⟨u,Q⟩:=aP (h:=j) (k:=q+1+(r+1)) J;obtain⟨ab,T⟩:=aP (h:=j) (k:=q+1+r) J;have cu:=yM ((H.out (q+1+(r+1)) J).trans Q);have cv:=yM ((H.out (q+1+r) J).trans T);have wr:IntKind.i64.wrap (((r+1:Nat):Int)-1)=(r:Int):=by rw[uA J];omega
    have N8:=cS (n:=r+1) J;have Y:=cS (n:=k) J;have r1:r<I j-(q+1):=J;have kk:k<I j:=J;have HS:k<I n:=J;obtain⟨z,hz⟩:=aP HS;have cz:=yM hz;by_cases E:u=ab
    .subst E;have HK:(u !=u)=false:=aE;have X:=Mi.skip (by rw[show q+1+r+1=q+1+(r+1) by omega];exact Q) T;simp only[go_sem,Ua,k0,k4,k5,k3,Hy,L,r1,hB,cu,cv,wr,N8,HK,o,ai,aB];refine⟨aS,J,n,k,rfl,rfl,by rw[show q+2+(r+1)=q+1+r+2 by omega];exact X,J,Z⟩
    have HK:=(show(u !=ab)=true by simp[E]);simp only[go_sem,Ua,k0,k4,k5,k3,Hy,L,r1,hB,cu,cv,wr,N8,Y,kk,HS,cz,HK,o,vZ,ai,aB];have X:=Mi.step (by rw[show q+1+r+1=q+1+(r+1) by omega];exact Q) T E;refine⟨aS,J,n.set k u,k+1,rfl,by rw[aai],by rw[show q+2+(r+1)=q+1+r+2 by omega];exact X,J,Z.dV rfl _⟩
   have L:¬(((r+1:Nat):Int)<((I j-(q+1):Nat):Int)):=J;have ac:k<=I j:=J;have ad:k+(I j-k)<=I n:=J;have aO:¬(I j-k=0):=J;have YX:q+2+r=I j:=J;rw[YX]at H;have qV:=an2 (n:=n) (k:=k) J;rw[dF]at qV;simp only[go_sem,Ua,aih,k0,k4,k5,k3,L,hB,o,ac,ad,aO,Ph,vZ,qV,ai,aB];obtain⟨i1,i2,i3,i4,i5⟩:=H;refine⟨by rw[<-i2],⟨_,zI,by simp;omega,?_⟩,Z.dV rfl _⟩;rw[<-i2,List.take_left' (by simp;omega),i3]
  have e1:=(show(x==y)=false by simp[e]);simp only[go_sem,Te,ajF,M,D,N,B,qX,zy,wj,wk,q1,m,o,e1,ai,aB];refine⟨aS,λi u ab ar O h5=>?_⟩;by_cases E:i=q
  .subst E;rw[hy]at O;rw[R]at h5;cases O;cases h5;exact e
  exact F i u ab J O h5
 have B:¬(((q+1:Nat):Int)<(I j:Int)):=J;have e:=ab8 (I j) (cJ _) (λi x y ar=>F i x y J);rw[jZ]at e;simp only[go_sem,Te,aj0,M,D,B,ai,aB];exact⟨by rw[e],⟨j,m,rfl,by rw[e,jZ]⟩,d_.refl _ _⟩
abbrev nQ(ls:af)(i:Nat):U:=ls.getD i ij
def aed{i:Nat}{l:U}(H:h[i]?=some l):nQ h i=l:=by rw[nQ,dD,H];rfl
def A7{i:Nat}(H:i<I h):h[i]?=some (nQ h i):=by obtain⟨l,hl⟩:=aP H;rw[aed hl,hl]
def AF(l:af):aB 6 (cX l):=by simp[aB,U.ps]
def abi(a b:af):cX (a++b)=cX a++cX b:=fL
def avr{L:af}(h:L≠[]):cX L≠[]:=by simpa [cX]using h
def uo(a b:U):Bool:=(a.kind==b.kind)&&((a.gate==b.gate)&&((a.au==b.au)&&((a.id==b.id)&&((a.sign==b.sign)&&(a.over==b.over)))))
def Ko(x y:U):oU [true,true,true,true,true,false] [.p (.int .i64 x.kind),.p (.int .i64 x.gate),.p (.int .i64 x.au),.p (.int .i64 x.id),.p (.int .i64 x.sign),.p (.bool x.over)] [.p (.int .i64 y.kind),.p (.int .i64 y.gate),.p (.int .i64 y.au),.p (.int .i64 y.id),.p (.int .i64 y.sign),.p (.bool y.over)]=some (uo x y):=by
 have e:∀a b:Int,pg true (.int .i64 a) (.int .i64 b)=some (a==b):=λa b=>by simp[pg]
 have E:∀a b:Bool,pg false (.bool a) (.bool b)=some (a==b):=λa b=>by simp[pg]
 simp only[oU,uo,e,E];cases(x.kind==y.kind)<;>cases(x.gate==y.gate)<;>cases(x.au==y.au)<;>cases(x.id==y.id)<;>cases(x.sign==y.sign)<;>cases(x.over==y.over)<;>rfl
theorem H7(x:U):uo x x:=by simp[uo]
def agh(L:af)(k:Nat)(h:k<=I L)(hl:I L<=1000000):aL S 126 [.one (.p (gC L)),aI k] (.one (cU ml 6 (cX (L.drop k++L.take k)))):=by
 have Q:=AF L;have m:List.take (I L-k) (List.drop k (cX L))=cX (L.drop k):=by rw[f_ aE];simp[vv]
 have n:List.take k (cX L)=cX (L.take k):=by simp[sC]
 rw[abi];refine cG ar0 ?_;simp only[go_sem,amz,h,Q,m];refine s_ (id:=8064064192) (bytes:=48) bh.nil (B:=cX (L.drop k)) (rd:=[]) rfl (.inr (AF _)) (by simp;omega) λc1 D r w g1 x H=>?_;rw[fB]at g1;simp only[go_sem,h,Q,n];refine s_ (bytes:=48) g1 (B:=cX (L.take k)) (rd:=[]) rfl (.inr (AF _)) (by simp;omega) λu B R y j v f=>?_;simp only[go_sem];refine⟨?_,ve j⟩;rcases H with⟨rfl,rfl⟩|⟨rfl,rfl⟩|⟨rfl,rfl⟩<;>rcases f with⟨rfl,rfl⟩|⟨rfl,rfl⟩|⟨rfl,rfl⟩<;>kernel_rfl

def AQ{S:Sys}{fn:aZ}{A:dZ}{P:RV->Prop}(hp:S.prim f A=none)(hf:S.fns f=some fn)(hl:I A<=fn.ntmps)
  (h:W S .all fn.body (sW .all fn.results λv blk=>∃r,P r/\lM blk v=some r) (tl A) Bc):∃r,P r/\aL S f A r:=by
 obtain⟨n,v,u,j,r,m,H⟩:=Xi h;refine⟨r,m,n+1,?_⟩;rw[kB];simp only[hp,hf,hl,if_true];unfold EO;simp only[j,H]
def Y2{l:af}(A:l≠[])(hl:I l<=1000000):aL S 30 [.one (.p (gC l))] (.one (cU ml 6 (cX l))):=by
 have ae:((cX l).all λe=>I e==6):=AF l;have h:(0+I (cX l))*48<=mN:=by unfold mN;rw[cg];omega
 show aL S _ [.one (.p (.sl (cX l)))] _;obtain⟨E,m,hq⟩:∃E m,cX l=E::m:=by cases l with
  |nil=>exact absurd rfl A
  |cons a t=>exact⟨_,_,rfl⟩
 rw[hq]at ae h |-;refine cG axi ?_;have A:E::m≠[]:=aE;have f:cU ml 6 (E::m)=.own ml 6 (E::m):=aC A;rw[f];unfold mN at h;simp only[jN,fP]at h;simp only[aB,wE]at ae;simp only[go_sem,adg,ai,aB];simp only[ae,h,not_true_eq_false,if_true,if_false];simp only[go_sem,ai,aB];exact Nh zI rfl
abbrev Pt(M:jd):yF:=M.map λe=>(PV.int .i64 e.1,[PV.int .i64 e.2])
def NR:jd->Int->Nat->Option (Nat×Int)
 |[],_,_=>none
 |(a,v)::r,x,i=>if x==a then some (i,v)else NR r x (i+1)
def akQ(M:jd)(x:Int):∀i,xz (.int .i64 x) (Pt M) i=some ((NR M x i).map λp=>(p.1,[PV.int .i64 p.2])):=by
 induction M with
 |nil=>intro i;rfl
 |cons e M f=>
  intro i;obtain⟨a,v⟩:=e;show xz (.int .i64 x) ((PV.int .i64 a,[PV.int .i64 v])::Pt M) i=_;unfold xz;have ae:DB (.int .i64 x) (.int .i64 a)=some (x==a):=by simp[DB]
  rw[ae];unfold NR;cases(x==a)with
  |true=>rfl
  |false=>exact f (i+1)
def aeQ(M:jd)(x v:Int):Pt M++[(PV.int .i64 x,[PV.int .i64 v])]=Pt (M++[(x,v)]):=aE
def ad4(l:af)(k:Nat)(p:U):(cX l).set k p.ps=cX (l.set k p):=by simp[Ew]
def kh(ids:cL)(k:Nat)(p:aN):aN:={p with l:={p.l with id:=p.l.id-((ids.take k).countP (λi=>decide (i<p.l.id)):Nat)}}
def jn(ids:cL)(p:aN):aN:=if p.l.kind==2 then kh ids (I ids) p else p
abbrev jA(l:aW)(ids:cL):aW:=(oc l (uR ids)).map (jn ids)
abbrev xW(ids:cL)(l:aW)(k:Nat):aW:=(l.take k).map (jn ids)++l.drop k
def ait{ids:cL}{l:aW}{k:Nat}{p:aN}(h:l[k]?=some p):(xW ids l k)[k]?=some p:=by grind
def avM(ids:cL)(l:aW)(k:Nat):I (xW ids l k)=I l:=by grind
def azg{ids:cL}{l:aW}{k:Nat}{p:aN}(h:l[k]?=some p):(xW ids l k).set k (jn ids p)=xW ids l (k+1):=by
 have H:=(bt.1 h).1;have f:l.drop k=p::l.drop (k+1):=by
  obtain⟨j,rfl⟩:=bt.1 h
  simp_all
 have E:I ((l.take k).map (jn ids))=k:=by rw[cg,jO];omega
 rw[xW,Oe _ _ J,E,xt,f,XH,xW,k_,h];simp
def AZ(o:aW)(k:Nat)(p:aN):(dP o).set k p.ps=dP (o.set k p):=by simp[Ew]
def ak1(l:aW)(ids:cL)(hl:I l<=1000000)(hi:I ids<=1000)(hb:∀p∈l,-1000000<=p.l.id/\p.l.id<=1000000):
  aL S 115 [.one (.p (.sl (dP l))),.one (.p (.sl (fJ ids)))] (.one (cU mI 7 (dP (jA l ids)))):=by
 have mX:∀p∈oc l (uR ids),-1000000<=p.l.id/\p.l.id<=1000000:=λp hp=>hb p (aah hp);have fq:I (oc l (uR ids))<=1000000:=oO (IL _ _ _) hl;refine cG axI ?_;simp only[go_sem,akp,Xs];refine nI (aub l hl rfl ayZ (uR ids) (λk p _=>aw4 ids J k p)) ah (.inr (r9 (yK _))) λcc mq gc iD=>?_;have z3:=iD 7360000000 aa;simp only[go_sem]at z3;unfold jA;generalize oc l (uR ids)=m at gc mX fq;rcases gc with⟨e,e2⟩|⟨aO,v,e2,hC⟩
 .cases e2;have:m=[]:=by simpa using e
  subst this;have hz:¬(((0:Nat):Int)<((0:Nat):Int)):=J;simp only[go_sem];refine dt (λk A blk=>k=0/\A 5=.one (.p .nils)/\A 14=aI ((0:Nat):Int)/\A 15=aI ((0:Nat):Int)) 0 0 (cJ _) ?_ ?_
  .simp only[go_sem];exact rfl
  rintro k A blk _ ⟨rfl,L,F,B⟩
  simp only[go_sem,N5,WY,L,F,B,hz];rfl
 cases e2;simp only[go_sem];refine dt (λk A blk=>A 3=.one (.bR 7360000000 1 0)/\blk 7360000000=(1,some (.var [.p (.sl (fJ ids))]))/\A 5=.one (.hsl 7360064128 v 7 0 (I m))/\A 13=.one (.hsl 7360064128 v 7 0 (I m))/\A 14=aI (I m)/\A 15=aI k/\blk 7360064128=(v,some (.arr mI 7 (dP (xW ids m k))))) 0 (I m) (bZ _) ?_ ?_
 .simp only[go_sem,z3,hC];refine⟨rfl,?_⟩;simp[xW]
 rintro k A blk hk ⟨T,bI,L,X,F,B,E⟩
 by_cases Q:k<I m
 .have aM:((k:Int)<(I m:Int)):=J;obtain⟨p,hp⟩:=aP Q;have Y:=jR (ait (ids:=ids) hp);have w1:=cS (n:=k) J;have zn:=avM ids m k;have iE:=azg (ids:=ids) hp;have Hw:k<I (xW ids m k):=J;cases c1:(p.l.kind==2)with
  |false=>
   have n1:(p.l.kind !=2):=by simp[bne,c1]
   have l7:xW ids m (k+1)=xW ids m k:=by
    rw[<-iE];have e:jn ids p=p:=by unfold jn;rw[c1];rfl
    rw[e];obtain⟨hh,he⟩:=bt.1 (ait hp);rw[<-he,Z_]
   simp only[go_sem,N5,YE,T,bI,L,X,F,B,E,Q,aM,Hw,Y,aN.ps,n1,w1,l7]
  |true=>
   have n1:(p.l.kind !=2)=false:=by simp[bne,c1]
   have ac:=mX p (a7 hp);have uK:jn ids p=kh ids (I ids) p:=by unfold jn;rw[c1];rfl
   rw[uK]at iE;generalize xW ids m k=q at Y zn iE Hw E;have q0:q.set k (kh ids 0 p)=q:=by
    have:kh ids 0 p=p:=by unfold kh;simp
    rw[this];have h1:q[k]?=some p:=by
     have H:=Y;rw[fz]at H;cases hq:q[k]? with
     |none=>rw[hq]at H;cases H
     |some x=>rw[hq]at H;simp[aN.ps]at H;obtain⟨⟨a,b,c,d,e,f⟩,g⟩:=x;obtain⟨⟨a',b',c',d',e',f'⟩,g'⟩:=p;simp at H;obtain⟨rfl,rfl,rfl,rfl,rfl,rfl,rfl⟩:=H;rfl
    obtain⟨hh,he⟩:=bt.1 h1;rw[<-he,Z_]
   simp only[go_sem,N5,T,bI,L,X,F,B,E,Q,aM,Hw,Y,aN.ps,n1];refine dt (λj D bK=>D 3=.one (.bR 7360000000 1 0)/\bK 7360000000=(1,some (.var [.p (.sl (fJ ids))]))/\D 5=.one (.hsl 7360064128 v 7 0 (I m))/\D 13=.one (.hsl 7360064128 v 7 0 (I m))/\D 14=aI (I m)/\D 15=aI k/\D 6=aI k/\D 24=.one (.p (.sl (fJ ids)))/\D 25=aI (I ids)/\D 26=aI j/\
    (∃N,D 7=.one (.bR 7360256192 N 0)/\bK 7360256192=(N,some (.var (p.ps.map .p))))/\bK 7360064128=(v,some (.arr mI 7 (dP (q.set k (kh ids j p)))))) 0 (I ids) (bZ _) ?_ ?_
   .simp only[go_sem,T,bI,L,X,F,B,E,q0];first|exact⟨rfl,_,⟨rfl,rfl⟩,rfl⟩|exact⟨rfl,⟨_,rfl,rfl⟩⟩|exact⟨_,rfl,rfl⟩|exact⟨⟨_,rfl,rfl⟩,rfl⟩|exact⟨rfl,⟨_,rfl,rfl⟩,rfl⟩|trace_state
   rintro j D bK hj ⟨p3,cI,p5,y,rm,h,p6,M,z,u,⟨N,p7,Ej⟩,qP⟩
   by_cases rW:j<I ids
   .have F0:((j:Int)<(I ids:Int)):=J;obtain⟨d,hd⟩:=aP rW;have nU:=yM hd;have w2:=cS (n:=j) J;have uI:(ids.take (j+1)).countP (λi=>decide (i<p.l.id))=(ids.take j).countP (λi=>decide (i<p.l.id))+if d<p.l.id then 1 else 0:=by
     rw[k_,hd,uu];simp[Di,R0]
    have dF:(ids.take j).countP (λi=>decide (i<p.l.id))<=j:=oO NY (by rw[jO];omega);have ab:(dP (q.set k (kh ids j p)))[k]?=some (kh ids j p).ps:=jR (by rw[pJ,aD rfl,aD J]);have D0:k<I (q.set k (kh ids j p)):=by rw[j7];omega
    by_cases Z:d<p.l.id
    .have O:(kh ids j p).l.id-1=(kh ids (j+1) p).l.id:=by
      unfold kh;simp only;rw[uI,aD Z];omega
     have w3:IntKind.i64.wrap ((kh ids j p).l.id-1)=(kh ids (j+1) p).l.id:=by rw[<-O];exact nj (by unfold kh;simp only;omega) (by unfold kh;simp only;omega)
     have eE:((kh ids (j+1) p).ps)=[.int .i64 (kh ids j p).l.kind,.int .i64 (kh ids j p).l.gate,.int .i64 (kh ids j p).l.au,.int .i64 (kh ids (j+1) p).l.id,.int .i64 (kh ids j p).l.sign,.bool (kh ids j p).l.over,.bool (kh ids j p).d]:=rfl;have R:(dP (q.set k (kh ids j p))).set k (kh ids (j+1) p).ps=dP (q.set k (kh ids (j+1) p)):=by rw[AZ,List.set_set]
     rw[eE]at R;generalize kh ids j p=x at*;simp only[go_sem,QZ,p3,cI,p5,y,rm,h,p6,M,z,u,p7,Ej,qP,Q,rW,F0,nU,Z,ab,D0,aN.ps,w2,w3,R];exact⟨N,rfl,rfl⟩
    have O:kh ids (j+1) p=kh ids j p:=by unfold kh;rw[uI,aC Z];simp
    simp only[go_sem,QZ,p3,cI,p5,y,rm,h,p6,M,z,u,p7,Ej,qP,rW,F0,nU,Z,aN.ps,w2,O];exact⟨N,rfl,rfl⟩
   have:j=I ids:=J;subst this;rw[iE]at qP;simp only[go_sem,QZ,YE,p3,cI,p5,y,rm,h,u,z,qP,fF,w1,Q]
 have:k=I m:=J;subst this;have O:xW ids m (I m)=m.map (jn ids):=by rw[xW,jZ,Lx,ic]
 rw[O]at E;simp only[go_sem,N5,WY,T,L,X,F,B,fF];exact ve (.inr ⟨by simpa using(by simpa using aO),v,aE,E⟩)
def bj.ids(g:bj F h):aaU h/\HV h:=by have H:=g.ok.cr;unfold nN at H;simp only[cP]at H;exact Hq.1 λk f=>j4.1 H.1.2 k (gA.2 f)
def NQ{p:aN}(f:p∈an h):∃(i:Nat) (l:U),h[i]?=some l/\p=⟨l,c9 h i⟩:=by
 obtain⟨i,H⟩:=fK f;obtain⟨l,hl⟩:=aP (by rw[<-bY];exact(bt.1 H).1);rw[fX hl]at H
 grind
def aiE(g:bj F h):∀p∈an h,-1000000<=p.l.id/\p.l.id<=1000000:=by
 intro p hp;obtain⟨i,l,hl,rfl⟩:=NQ hp;have H:=a7 hl;rcases g.ok.kinds l H with f|f
 .have:=(lQ f).1 (g.bad l H)
  grind
 have j:=g.ids.1 l H f;have:=g.cr;simp only;omega
def qh(h:af)(u:Nat):Option aW:=
 let p:=(an h).getD u ⟨ij,false⟩
 let q:=(an h).getD ((u+1)%I h) ⟨ij,false⟩
 if(p.l.kind==2)&&((q.l.kind==2)&&(p.l.id==q.l.id))then some (jA (an h) [p.l.id])else none
def azq(g:bj F h)(H:u<I h){k b c:Int}{l o:Bool}{sg:Int}:
  aL S 72 [.one (.p (eK F h)),jL k u b c l o sg] (uU (qh h u)):=by
 have B:=g.len;have A:=bY h;have m:=Df g H;have v:=cT (u+1) (show 0<I h by omega);obtain⟨p,hp⟩:=aP (h:=an h) (k:=u) J;obtain⟨q,z⟩:=aP (h:=an h) (k:=(u+1)%I h) J;have j:=jR hp;have f:=jR z;unfold qh;simp only[dD,hp,z,nM];refine cG apr ?_;cases c1:(p.l.kind==2)with
 |false=>
  have n:(p.l.kind !=2):=by simp[bne,c1]
  simp only[go_sem,O9,iF,cE m dX,j,f,aN.ps,A,H,v,n];exact⟨aS,rfl⟩
 |true=>
 have n:(p.l.kind !=2)=false:=by simp[bne,c1]
 cases y:(q.l.kind==2)with
 |false=>
  have N:(q.l.kind !=2):=by simp[bne,y]
  simp only[go_sem,O9,iF,cE m dX,j,f,aN.ps,A,H,v,n,N];exact⟨aS,rfl⟩
 |true=>
 have N:(q.l.kind !=2)=false:=by simp[bne,y]
 cases c3:(p.l.id==q.l.id)with
 |false=>
  have x:(p.l.id !=q.l.id):=by simp[bne,c3]
  simp only[go_sem,O9,iF,cE m dX,j,f,aN.ps,A,H,v,n,N,x];exact⟨aS,rfl⟩
 |true=>
 have x:(p.l.id !=q.l.id)=false:=by simp[bne,c3]
 have L:=ak1 (an h) [p.l.id] J aE (aiE g);simp only[go_sem,O9,iF,cE m dX,j,f,aN.ps,A,H,v,n,N,x,oR];refine⟨aS,?_⟩;refine Kx L ah (.inr (r9 (yK _))) λM Q w E O D=>?_;simp only[go_sem];refine⟨?_,uc E⟩;rcases D with rfl|rfl<;>kernel_rfl
abbrev dE(ls:af)(i:Nat):aN:=(an ls).getD i ⟨ij,false⟩
def gU{i:Nat}{p:aN}(H:(an h)[i]?=some p):dE h i=p:=by simp[dE,dD,H]
abbrev nx(ls:af)(e:Nat):Nat:=(e+1)%I ls
def jx(h:af)(e:Nat)(ov:Bool):Bool:=((dE h e).l.kind==2)&&(((dE h (nx h e)).l.kind==2)&&(((dE h e).l.over==ov)&&((dE h (nx h e)).l.over==ov)))
def II(g:bj F h){e:Nat}(H:e<I h)(ov:Bool):aL S 117 [.one (.p (eK F h)),aI e,i_ ov] (fv (jx h e ov)):=by
 have x:=g.len;have A:=bY h;have m:=Df g H;have n:=cT (e+1) (show 0<I h by omega);obtain⟨p,hp⟩:=aP (h:=an h) (k:=e) J;obtain⟨q,v⟩:=aP (h:=an h) (k:=(e+1)%I h) J;have j:=jR hp;have f:=jR v;unfold jx;rw[gU hp,gU v];refine cG aoJ ?_;cases c1:(p.l.kind==2)with
 |false=>simp only[go_sem,Jq,iF,cE m dX,j,f,aN.ps,A,H,n,c1]
 |true=>
 cases u:(q.l.kind==2)with
 |false=>simp only[go_sem,Jq,iF,cE m dX,j,f,aN.ps,A,H,n,c1,u]
 |true=>
 cases c3:(p.l.over==ov)with
 |false=>simp only[go_sem,Jq,iF,cE m dX,j,f,aN.ps,A,H,n,c1,u,c3]
 |true=>
 cases c4:(q.l.over==ov)with
 |false=>simp only[go_sem,Jq,iF,cE m dX,j,f,aN.ps,A,H,n,c1,u,c3,c4]
 |true=>simp only[go_sem,Jq,iF,cE m dX,j,f,aN.ps,A,H,n,c1,u,c3,c4]
def kZ(h:af)(e:Nat):Nat×Nat×Bool:=if(dE h e).l.kind==2 then(nx h e,e,(dE h (nx h e)).l.kind==1)else(e,nx h e,((dE h e).l.kind==1)&&((dE h (nx h e)).l.kind==2))
abbrev aiX(a b c:PV):RV:=.tup [.one (.p a),.one (.p b),.one (.p c)]
def zN{blk:aJ}{s:Nat}{a b c:PV}{l:Bool}:fR blk [] s ((aiX a b c).iA l)=some (.tup [.one (.p a),.one (.p b),.one (.p c)],[]):=by cases l<;>rfl
def amb(g:bj F h){e:Nat}(H:e<I h):aL S 113 [.one (.p (eK F h)),aI e] (aiX (.int .i64 ((kZ h e).1:Nat)) (.int .i64 ((kZ h e).2.1:Nat)) (.bool (kZ h e).2.2)):=by
 have x:=g.len;have A:=bY h;have n:=Df g H;have u:=cT (e+1) (show 0<I h by omega);obtain⟨p,hp⟩:=aP (h:=an h) (k:=e) J;obtain⟨q,v⟩:=aP (h:=an h) (k:=(e+1)%I h) J;have j:=jR hp;have m:=jR v;unfold kZ;rw[gU hp,gU v];refine cG au8 ?_;cases c1:(p.l.kind==2)with
 |true=>
  have E:p.l.kind=2:=by simpa using c1
  rw[aD rfl];cases f:(q.l.kind==1)with
  |true=>simp only[go_sem,Kr,iF,cE n dX,j,m,aN.ps,A,H,u,c1,f];exact⟨aS,rfl⟩
  |false=>simp only[go_sem,Kr,iF,cE n dX,j,m,aN.ps,A,H,u,c1,f];exact⟨aS,rfl⟩
 |false=>
  rw[aC aa];cases f:(p.l.kind==1)with
  |true=>
   cases c3:(q.l.kind==2)with
   |true=>simp only[go_sem,Kr,iF,cE n dX,j,m,aN.ps,A,H,u,c1,f,c3];exact⟨aS,rfl⟩
   |false=>simp only[go_sem,Kr,iF,cE n dX,j,m,aN.ps,A,H,u,c1,f,c3];exact⟨aS,rfl⟩
  |false=>simp only[go_sem,Kr,iF,cE n dX,j,m,aN.ps,A,H,u,c1,f];exact⟨aS,rfl⟩
def FD(o:aG)(pr:Nat->Bool)(i:Nat):Bool:=match o[i]? with|some v=>pr v|none=>false
def aBn(o:aG)(hl:I o<=1000000){x y z:PV}(Z:x.norm=x/\y.norm=y/\z.norm=z)(R:S.shared f=false)(pr:Nat->Bool)(Y:∀v∈o,aL S f [aI (v:Nat),.one (.p x),.one (.p y),.one (.p z)] (fv (pr v))):
  aL S 168 [.one (.p (.sl (bQ o))),.one (.p (.fn f [] [x,y,z]))] (jr (match (List.range (I o)).find? (FD o pr)with|some k=>(k:Int)|none=> -1)):=by
 obtain⟨B,u,L⟩:=Z;refine cG asq ?_;simp only[go_sem,akC,B,u,L,ai,aB];refine dt (λk A blk=>A 0=.one (.p (.sl (bQ o)))/\A 1=.one (.p (.fn f [] [x,y,z]))/\A 7=aI (I o)/\A 8=aI k/\ ∀j,j<k->FD o pr j=false) 0 (I o) (bZ _) ?_ ?_
 .simp only[go_sem];exact⟨rfl,λj hj=>absurd hj (o6 j)⟩
 rintro k A blk hk ⟨H,D,E,F,T⟩
 by_cases h:k<I o
 .have Q:((k:Int)<(I o:Int)):=J;obtain⟨v,M⟩:=aP h;have X:=jy M;have m:=Y v (a7 M);have O:FD o pr k=pr v:=by simp[FD,M]
  cases N:pr v with
  |true=>rw[N]at m O;simp only[go_sem,Rj,H,D,E,F,h,Q,X,R,B,u,L,b_ m,AB h T O,ai,aB]
  |false=>
   rw[N]at m O;simp only[go_sem,Rj,H,D,E,F,h,Q,X,R,B,u,L,b_ m,cS (n:=k) J,ai,aB]
   grind
 have:k=I o:=J;subst this;simp only[go_sem,Rj,akn,H,D,E,F,fF,Fa T,ai,aB]
def aBZ(o:aG)(hl:I o<=1000000){x y z:PV}(H:x.norm=x/\y.norm=y/\z.norm=z)(D:S.shared f=false)(pr:Nat->Bool)(B:∀v∈o,aL S f [aI (v:Nat),.one (.p x),.one (.p y),.one (.p z)] (fv (pr v))):
  aL S 144 [.one (.p (.sl (bQ o))),.one (.p (.fn f [] [x,y,z]))] (fv (o.any pr)):=by
 have h:=aBn o hl H D pr B;obtain⟨u,n,L⟩:=H;refine cG awc ?_;cases F:o.any pr with
 |true=>
  obtain⟨v,E,hp⟩:=zr.1 F;obtain⟨k,A⟩:=fK E;cases hf:(List.range (I o)).find? (FD o pr)with
  |none=>have:=B6.1 hf k (gA.2 ((bt.1 A).1));simp[FD,A,hp]at this
  |some j=>rw[hf]at h;have m:(0:Int)<=(j:Int):=J;simp only[go_sem,acu,ad7,u,n,L,gr h,m,ai,aB]
 |false=>
  cases hf:(List.range (I o)).find? (FD o pr)with
  |some j=>
   have M:=AW hf
   grind [FD]
  |none=>rw[hf]at h;have m:¬(0:Int)<= -1:=aa;simp only[go_sem,acu,ad7,u,n,L,gr h,m,ai,aB]
def yw(f:dL)(e:Nat):Nat:=f.di.countP λd=>d/2==e
def xH(f:dL)(pl:Nat)(E:aG):Bool:=(I f.di==I E)&&((I f.places==pl)&&E.all λe=>yw f e==1)
def ae8(g:bj F h){j:Nat}{f:dL}(hf:(fZ F h)[j]?=some f)(E:aG)(he:I E<=1000)(pl:Nat):
  aL S 145 [aI j,.one (.p (.box [eK F h])),.one (.p (.box [.sl (bQ E)])),.one (.p (.box [.int .i64 pl]))] (fv (xH f pl E)):=by
 have ac:=g.len;have jt:I (aA h)<=I h:=xo h (I h);have zi:=YK g.ok (a7 hf);have fN:aT h<=1600:=by unfold aT;omega
 have Cw:=NS hf;have sP:=(bt.1 hf).1;refine cG ayA ?_;unfold xH;cases c1:(I f.di==I E)with
 |false=>
  have T:(((I f.di:Nat):Int)!=((I E:Nat):Int)):=by
   have:¬I f.di=I E:=by simpa using c1
   simp[bne];omega
  simp only[go_sem,Tl,Cw,dL.ps,sP,T,ai,aB]
 |true=>
 have T:(((I f.di:Nat):Int)!=((I E:Nat):Int))=false:=by
  have:I f.di=I E:=by simpa using c1
  simp[bne,this]
 cases c2:(I f.places==pl)with
 |false=>
  have n2:(((I f.places:Nat):Int)!=((pl:Nat):Int)):=by
   have:¬I f.places=pl:=by simpa using c2
   simp[bne];omega
  simp only[go_sem,Tl,Cw,dL.ps,sP,T,n2,ai,aB]
 |true=>
 have n2:(((I f.places:Nat):Int)!=((pl:Nat):Int))=false:=by
  have:I f.places=pl:=by simpa using c2
  simp[bne,this]
 simp only[go_sem,Tl,Cw,dL.ps,sP,T,n2,ai,aB];refine dt (λk A blk=>A 6=.one (.bR 9280064448 1 0)/\blk 9280064448=(1,some (.var (f.ps.map .p)))/\A 32=.one (.p (.sl (bQ E)))/\A 33=aI (I E)/\A 34=aI k/\ ∀i e,i<k->E[i]?=some e->(yw f e==1)) 0 (I E) (bZ _) ?_ ?_
 .simp only[go_sem,dL.ps];first|exact⟨rfl,λi e H=>absurd H (o6 i)⟩|exact⟨rfl,rfl,λi e H=>absurd H (o6 i)⟩|exactλi e H=>absurd H (o6 i)
 rintro k A blk hk ⟨h6,b6,PJ,Jt,PK,aF⟩
 simp only[dL.ps,eZ,m_]at b6;by_cases aw:k<I E
 .have aM:((k:Int)<(I E:Int)):=J;obtain⟨e,z⟩:=aP aw;have w1:=cS (n:=k) J;simp only[go_sem,XW,h6,b6,PJ,Jt,PK,aw,aM,jy z,ai,aB];refine dt (λi D bK=>D 6=.one (.bR 9280064448 1 0)/\bK 9280064448=(1,some (.var (f.ps.map .p)))/\D 32=.one (.p (.sl (bQ E)))/\D 33=aI (I E)/\D 34=aI k/\D 8=aI e/\D 9=aI ((f.di.take i).countP λd=>d/2==e:Nat)/\D 39=.one (.p (.sl (bQ f.di)))/\D 40=aI (I f.di)/\D 41=aI i) 0 (I f.di) (bZ _) ?_ ?_
  .simp only[go_sem,h6,b6,PJ,Jt,PK,dL.ps];first|exact⟨rfl,rfl⟩|exact rfl|exact⟨rfl,rfl,rfl⟩
  rintro i D bK H ⟨L,O,m,v,Y,Q,y,x,N,u⟩
  by_cases Z:i<I f.di
  .have B:((i:Int)<(I f.di:Int)):=J;obtain⟨d,X⟩:=aP Z;have nU:=jy X;have w2:=cS (n:=i) J;have wq:=wrap_small (n:=d/2) (by have:=aag (a7 hf) d (a7 X);omega);have dF:(f.di.take i).countP (λd=>d/2==e)<=i:=oO NY (by rw[jO];omega);have M:(f.di.take (i+1)).countP (λd=>d/2==e)=(f.di.take i).countP (λd=>d/2==e)+if(d/2==e)=true then 1 else 0:=by
    rw[k_,X,uu];simp[Di,R0]
   cases R:(d/2==e)with
   |true=>
    have n3:(((d/2:Nat):Int)==(e:Int)):=by
     have:d/2=e:=by simpa using R
     simp;omega
    rw[R,aD rfl]at M;simp only[go_sem,O1,L,m,v,Y,Q,y,x,N,u,Z,B,nU,jG,mx,wq,n3,w2,cS (n:=(f.di.take i).countP λd=>d/2==e) J,M,ai,aB];first|exact O|exact⟨O,rfl⟩
   |false=>
    have n3:(((d/2:Nat):Int)==(e:Int))=false:=by
     have:¬d/2=e:=by simpa using R
     simp;omega
    rw[R,aC aa,uz]at M;simp only[go_sem,O1,L,m,v,Y,Q,y,x,N,u,Z,B,nU,jG,mx,wq,n3,w2,M,ai,aB];first|exact O|exact⟨O,rfl⟩
  have:i=I f.di:=J;subst this;rw[jZ]at y;have ab:(f.di.countP λd=>d/2==e)=yw f e:=rfl;rw[ab]at y;cases hq:(yw f e==1)with
  |true=>
   have n4:(((yw f e:Nat):Int)!=1)=false:=by
    have:yw f e=1:=by simpa using hq
    simp[bne,this]
   simp only[go_sem,O1,aas,adu,L,m,v,Y,Q,y,x,N,u,fF,n4,w1,aw,ai,aB]
   grind
  |false=>
   have n4:(((yw f e:Nat):Int)!=1):=by
    have:¬yw f e=1:=by simpa using hq
    simp[bne];omega
   have jI:(E.all λe=>yw f e==1)=false:=VT.2 ⟨e,a7 z,by rw[hq];decide⟩;simp only[go_sem,O1,aas,L,m,v,Y,Q,y,x,N,u,fF,n4,jI,ai,aB]
 have:k=I E:=J;subst this;have jI:=j4.2 λe he=>by obtain⟨i,H⟩:=fK he;exact aF i e (bt.1 H).1 H
 simp only[go_sem,XW,ak7,PJ,Jt,PK,fF,jI,ai,aB]
def oF(F:Nat)(h:af)(pl:Nat)(E:aG)(f:Nat):Bool:=xH (gJ F h (2*f)) pl E||xH (gJ F h (2*f+1)) pl E
def aaf(g:bj F h)(E:aG)(dR:I E<=1000){m:Nat}(H:E[0]?=some m)(X:m<I h)(pl:Nat):
  aL S 114 [.one (.p (eK F h)),aI pl,.one (.p (.sl (bQ E)))] (fv (oF F h pl E m)):=by
 have O:=g.len;obtain⟨B,a1,N,a3⟩:=OA g (d:=2*m) J;obtain⟨u,Q,L,b3⟩:=OA g (d:=2*m+1) J;have g0:(fZ F h).getD B OW=gJ F h (2*m):=by rw[dD,N];rfl
 have g1:(fZ F h).getD u OW=gJ F h (2*m+1):=by rw[dD,L];rfl
 have pc:=aBZ [B,u] aE (f:=145) (x:=.box [eK F h]) (y:=.box [.sl (bQ E)]) (z:=.box [.int .i64 pl]) ⟨rfl,rfl,rfl⟩ aqt (λj=>xH ((fZ F h).getD j OW) pl E) (λv M=>by
  simp only[c7,eD,or_false]at M;rcases M with rfl|rfl
  .rw[g0];exact ae8 g N E dR pl
  rw[g1];exact ae8 g L E dR pl)
 have A:([B,u].any λj=>xH ((fZ F h).getD j OW) pl E)=oF F h pl E m:=by simp only[List.any_cons,List.any_nil,aar,g0,g1];rfl
 rw[A]at pc;simp only[eZ,m_]at pc;have Y:=jy a1;have jb:=jy Q;have he:=jy H;have R:=rQ (a:=m) J;have T:=cS (n:=2*m) J;have qt:=GA F h;have l1:2*m<I (kX F h):=J;have l2:2*m+1<I (kX F h):=J;have Z:0<I E:=(bt.1 H).1;have D:(0:Int)<(I E:Int):=J;refine cG avG ?_;simp only[go_sem,ah6,he,Z,D,R,T,Y,jb,l1,l2,apH,fx pc,ai,aB];exact aS
def gX(h:af)(l:aW)(e:Nat):aW:=(l.set e (l.getD (nx h e) ⟨ij,false⟩)).set (nx h e) (l.getD e ⟨ij,false⟩)
theorem ub(h:af)(l:aW)(e:Nat):I (gX h l e)=I l:=by simp[gX]
def ef(h:af)(l:aW)(m:aG):aW:=m.foldl (gX h) l
def s6(h:af):∀(m:aG) (l:aW),I (ef h l m)=I l:=by
 intro m
 induction m with
 |nil=>intro l;rfl
 |cons e m f=>intro l;show(ef h (gX h l e) m).length=_;rw[f,ub]
def aAK(g:bj F h)(m:aG)(fi:∀e∈m,e<I h)(dR:I m<=1000):
  aL S 121 [.one (.p (eK F h)),.one (.p (.sl (bQ m)))] (.one (cU mI 7 (dP (ef h (an h) m)))):=by
 have T:=g.len;have x:=bY h;have X:an h≠[]:=gy.1 (by have:=gy.2 g.ne;omega);have j:=Pr X J;have lo:S.lone 7744064256=false:=ah;refine cG auZ ?_;simp only[go_sem,aj3,Fb];refine nI j lo (.inl rfl) λcc mq gc iD=>?_;rcases gc with⟨e,_⟩|⟨_,u,e,hC⟩
 .exact absurd (by simpa using e) X
 cases e;rw[cg,x];simp only[go_sem];refine dt (λk A blk=>A 0=.one (.p (eK F h))/\A 5=.one (.hsl 7744064256 u 7 0 (I h))/\A 15=.one (.p (.sl (bQ m)))/\A 16=aI (I m)/\A 17=aI k/\blk 7744064256=(u,some (.arr mI 7 (dP (ef h (an h) (m.take k)))))) 0 (I m) (bZ _) ?_ ?_
 .simp only[go_sem,hC];first|exact⟨rfl,rfl⟩|rfl|exact⟨rfl,rfl,rfl⟩
 rintro k A blk hk ⟨y,O,E,N,Y,B⟩
 by_cases z:k<I m
 .have aM:((k:Int)<(I m:Int)):=J;obtain⟨e,v⟩:=aP z;have H:=jy v;have Q:=fi e (a7 v);have pe:=Df g Q;have w1:=cS (n:=k) J;have R:ef h (an h) (m.take (k+1))=gX h (ef h (an h) (m.take k)) e:=by
   unfold ef;rw[k_,v,A8];rfl
  have fj:I (ef h (an h) (m.take k))=I h:=by rw[s6,x]
  have hm:=cT (e+1) (show 0<I h by omega);generalize ef h (an h) (m.take k)=M at B R fj;obtain⟨p,hp⟩:=aP (h:=M) (k:=e) J;obtain⟨q,D⟩:=aP (h:=M) (k:=(e+1)%I h) J;have dx:=jR hp;have F5:=jR D;have l1:e<I M:=J;have l2:(e+1)%I h<I M:=J;have Z:=AZ M e q;have uK:(M.set e q).set ((e+1)%I h) p=gX h M e:=by unfold gX nx;rw[dD,D,dD,hp];rfl
  have f:=AZ (M.set e q) ((e+1)%I h) p;rw[uK,<-R]at f;simp only[aN.ps]at Z f;obtain⟨p',fO⟩:=aP (h:=M.set e q) (k:=e) (by rw[j7];omega);obtain⟨q',lG⟩:=aP (h:=M.set e q) (k:=(e+1)%I h) (by rw[j7];omega);have ZC:=jR lG;simp only[go_sem,ZT,y,O,E,N,Y,B,z,aM,H,iF,cE pe dX,Q,hm,dx,F5,ZC,l1,l2,Z,f,j7,aN.ps,w1];exact aS
 have:k=I m:=J;subst this;rw[jZ]at B;simp only[go_sem,ZT,aml,y,O,E,N,Y,fF];have L:I (ef h (an h) m)=I h:=by rw[s6,x]
 refine ve (.inr ⟨?_,u,by rw[cg,L],B⟩);intro h2;have:=congrArg List.length h2;rw[cg,L,ga]at this;have h3:=gy.2 g.ne;omega
end
end Go.Abs
