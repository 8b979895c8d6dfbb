/- A part. -/
import Derived.Test.YtgjjncbeombnbaaGreatDoorWj
set_option linter.all false
open List renaming length->I
set_option maxHeartbeats 16000000
namespace Go.Abs
variable{T B:Nat->Nat->Nat}{L:aU}{h:Nat->dW}{n v:Nat}
def PB{α:Type}{z:List α}{a:Nat}{x:α}(h:z[a]?=some x):z=z.take a++x::z.drop (a+1):=by
 obtain _:=bd.1 h
 grind [uA,jC]
def awr{ψ:Nat->Nat}{h:U->U}{Z z:fI}{x X:aT}{s:dW}(hp:ie s (Z++x::z) s)(u:X.i=x.i.mp ψ)(H:X.o=x.o.mp ψ):ie (s.mp ψ) (Z.map (aT.mp ψ h)++X::z.map (aT.mp ψ h)) (s.mp ψ):=by obtain⟨m,j,f,n⟩:=wJ.1 hp;exact wJ.2 ⟨m.mp ψ,D7 j,by rw[u,f],by rw[H];exact D7 n⟩
def Qd{w:aT}{G:Nat}(h:w.k.aw)(H:w.k.gate=(G:Int))(k:Nat):(if ir k w.k=true then 1 else 0)=if k=G then 1 else 0:=by grind [ir]
def Vt{l:aU}{f:aK->aK}{i:Nat}{p q:aK}(hp:l[i]?=some p):(l.map f).set i q=(l.take i).map f++q::(l.drop (i+1)).map f:=by
 have hl:=(bd.1 hp).1
 conv=>lhs;rw[PB hp]
 rw[fE,eQ,Mi _ _ (by grind),bG,jw,v7 J,xf];rfl
section
variable {F:Nat} {f:af}
def afx(g:a_ F f){a:Nat}{x:aT}(hx:(eE f)[a]?=some x)(O:x.k.aw){G j:Nat}(hG:x.k.gate=(G:Int))(aj:j<=F)(aN:j≠G){g' A y E:Int}
  (ia:∀w∈(eE f).take a++(eE f).drop (a+1),w.k.aw->(1<=(kP g' A y w.k).ao/\(kP g' A y w.k).ao<=((aJ f w.k.gate.toNat:Nat):Int)+(if w.k.gate.toNat=j then 1 else 0)-(if w.k.gate.toNat=G then 1 else 0))/\(w.k.gate=(j:Int)->(kP g' A y w.k).ao≠E))
  (mY:∀u∈(eE f).take a++(eE f).drop (a+1),∀v∈(eE f).take a++(eE f).drop (a+1),u.k.aw->v.k.aw->u.k.gate=v.k.gate->(kP g' A y u.k).ao=(kP g' A y v.k).ao->u.k.ao=v.k.ao)
  (j5:1<=E/\E<=(aJ f j:Int)+1)
  (hT:∀ag D:Nat->Nat->Nat,(ag=eS f/\D=T)\/(ag=eR f/\D=B)->(ag x.k.gate.toNat (x.k.ao.toNat-1)=D j (E.toNat-1)/\ag x.k.gate.toNat x.k.ao.toNat=D j E.toNat)/\
   (∀w∈(eE f).take a++(eE f).drop (a+1),w.k.aw->ag w.k.gate.toNat (w.k.ao.toNat-1)=D w.k.gate.toNat ((kP g' A y w.k).ao.toNat-1)/\ag w.k.gate.toNat w.k.ao.toNat=D w.k.gate.toNat (kP g' A y w.k).ao.toNat)/\
   (∀k,k<F->D k (aJ f k+(if k=j then 1 else 0)-(if k=G then 1 else 0))=D (k+1) 0)/\D F (aJ f F+(if F=j then 1 else 0)-(if F=G then 1 else 0))=D 0 0):
  fP F (((aA f).take a).map (ch g' A y)++⟨{x.k with gate:=(j:Int),ao:=E},x.p.d⟩::((aA f).drop (a+1)).map (ch g' A y)):=by
 have c:=g.cz;have hz:=PB hx
 let Z:=(eE f).take a
 let N:=(eE f).drop (a+1)
 let z:aT:=⟨⟨{x.k with gate:=(j:Int),ao:=E},x.p.d⟩,x.i,x.o⟩
 have Lu:z.k.aw:=O;have iV:(eE f).Perm ([x]++(Z++N)):=by
  conv=>lhs;rw[hz]
  exact Ev
 have q:=c.q.perm iV
 let r:=Z++N
 let m:=kP g' A y
 have mG:∀k,aJ (aP (r.map (aT.mp id m))) k=aJ (aP r) k:=λk=>ur (λl=>YK _ _ _ k l) r;have tC:au U.aq f=au U.aq (aP r):=by have:=x_ (p:=U.aq) iV;rw[h_,rT,fQ,rO,(yf O).1]at this;show _=au U.aq (aP (Z++N));rw[this];omega
 have tP:au U.aw f=au U.aw (aP r)+1:=by have:=x_ (p:=U.aw) iV;rw[h_,rT,fQ,rO,(yf O).2]at this;show _=au U.aw (aP (Z++N))+1;rw[this];omega
 have tG:∀k,aJ f k=aJ (aP r) k+if k=G then 1 else 0:=λk=>by have:=x_ (p:=ir k) iV;rw[h_,rT,fQ,rO,Qd O hG]at this;show au _ _=au (ir k) (aP (Z++N))+_;rw[this];omega
 have nC:au U.aq (aP ([z]++r.map (aT.mp id m)))=au U.aq f:=by rw[rT,fQ,rO,(yf Lu).1,ur (λl=>(tz _ _ _).aq l) r,tC];omega
 have bt:au U.aw (aP ([z]++r.map (aT.mp id m)))=au U.aw f:=by rw[rT,fQ,rO,(yf Lu).2,ur (λl=>(tz _ _ _).aw l) r,tP];omega
 have nG:∀k,aJ (aP ([z]++r.map (aT.mp id m))) k=aJ f k+(if k=j then 1 else 0)-(if k=G then 1 else 0):=λk=>by
  have M:aJ (aP ([z]++r.map (aT.mp id m))) k=(if k=j then 1 else 0)+aJ (aP (r.map (aT.mp id m))) k:=by show au _ _=_+au _ _;rw[rT,fQ,rO,Qd Lu rfl];omega
  rw[M,mG,tG];split<;>split<;>omega
 have Y:=nv Lu;have ac:d_ F z.k=false:=by have:=(kL O).1 (c.ok x (aX hx)).bad;refine(kL Lu).2 ?_;exact⟨⟨⟨⟨by show(0:Int)<=(j:Int);omega,by show(j:Int)<=(F:Int);omega⟩,this.1.1.2⟩,this.1.2⟩,this.2⟩
 have inr:∀w∈r,w∈[x]++r:=λw H=>vx _ H;have tx:=hT (eS f) T (.inl ⟨rfl,rfl⟩);have bx:=hT (eR f) B (.inr ⟨rfl,rfl⟩);have ad:=q.pl x aH O;have qn:jA F ([z]++r.map (aT.mp id m)) T B:=by
  refine jA.edit q (tz _ _ _) (λw H=>UC (q.ok w (inr w H)).bad) (λu n v hv cu cv e=>?_) (λu n v hv Q pv M e2=>?_) (λw H=>?_) (ED ..) (ED ..) (λu n w H=>?_) (λu n w H Q pw M e2=>?_) (by rw[nC];have:=c.ev;rwa[h_]at this) (λw H cw=>?_) (λu n cu=>?_) (λw H pw=>?_) (λu n Q=>?_) (λw H pw=>?_) (λu n Q=>?_) (λk hk=>?_) ?_
  .rw[AH,AH]at e;exact e
  .have DJ:u.k.gate=v.k.gate:=by rw[s8,s8]at M;exact M
   exact⟨DJ,mY u n v hv Q pv DJ e2⟩
  .rw[nY]at H;subst H;exact⟨ac,λh=>absurd h (by rw[Y];decide),λ_=>(c.ok x (aX hx)).pb O⟩
  .rw[nY]at n;subst n;exact WB Y
  .rw[nY]at n;subst n;have M:(j:Int)=(m w.k).gate:=M;exact(ia w H (by rw[<- (tz g' A y).aw];exact pw)).2 (by rw[M];exact(s8 _ _ _ _).symm) e2.symm
  .rw[nY]at H;subst H;rw[Y]at cw;cases cw
  .rw[nC,AH,<-h_ f];exact c.ids u (iV.mem_iff.2 (inr u n)) cu
  .rw[nY]at H;subst H;rw[nG];show 1<=E/\E<=((aJ f ((j:Int)).toNat+(if((j:Int)).toNat=j then 1 else 0)-(if((j:Int)).toNat=G then 1 else 0):Nat):Int);rw[js,an rfl,ai aN];omega
  .rw[s8,nG];obtain⟨⟨a1,a2⟩,_⟩:=ia u n Q;refine⟨a1,?_⟩;have jd:(if u.k.gate.toNat=G then 1 else 0)<=aJ f u.k.gate.toNat:=by rw[tG];omega
   have a2:(m u.k).ao<=((aJ f u.k.gate.toNat:Nat):Int)+(if u.k.gate.toNat=j then 1 else 0)-(if u.k.gate.toNat=G then 1 else 0):=a2;show(m u.k).ao<=((aJ f u.k.gate.toNat+(if u.k.gate.toNat=j then 1 else 0)-(if u.k.gate.toNat=G then 1 else 0):Nat):Int);by_cases R:u.k.gate.toNat=j<;>by_cases h2:u.k.gate.toNat=G
   .rw[an R,an h2]at a2 |-;rw[an h2]at jd;omega
   .rw[an R,ai h2]at a2 |-;omega
   .rw[ai R,an h2]at a2 |-;rw[an h2]at jd;omega
   rw[ai R,ai h2]at a2 |-;omega
  .rw[nY]at H;subst H;obtain⟨p1,p2,p3,p4⟩:=ad;obtain⟨⟨t1,t2⟩,_⟩:=tx;obtain⟨⟨b1,b2⟩,_⟩:=bx;have e0:z.k.gate.toNat=j:=js _;constructor
   .rw[e0];exact p1.trans t1
   .rw[e0];exact p2.trans t2
   .rw[e0];exact p3.trans b1
   rw[e0];exact p4.trans b2
  .rw[s8];obtain⟨t1,t2⟩:=tx.2.1 u n Q;obtain⟨b1,b2⟩:=bx.2.1 u n Q;exact⟨⟨t1,b1⟩,t2,b2⟩
  .rw[nG];exact⟨tx.2.2.1 k hk,bx.2.2.1 k hk⟩
  rw[nG];exact⟨tx.2.2.2,bx.2.2.2⟩
 obtain⟨s,hp⟩:=c.path;rw[hz]at hp;refine jA.done (X:=[x]) (L:=[]) (H:=Z.map (aT.mp id m)++z::N.map (aT.mp id m)) qn c.nd (λt ht=>?_) ?_ ⟨s.mp id,awr hp rfl rfl⟩ ?_ ⟨z,aH,Lu⟩ (λ_ _ _=>rfl) (λw H t ht ew _=>?_) qX (λt ht=>by cases ht) (λt ht=>by cases ht) (by rw[rY];exact ct _) ?_
 .obtain⟨w,H,ew⟩:=c.wit t ht;exact⟨w,iV.mem_iff.1 H,ew⟩
 .show(Z.map (aT.mp id m)++z::N.map (aT.mp id m)).Perm ([z]++(Z++N).map (aT.mp id m));rw[fE];exact Ev
 .have R:∀t:fI,(t.map (aT.mp id m)).map aT.p=(t.map aT.p).map (ch g' A y):=λt=>by
   rw[gi,gi];refine kD λw _=>?_;show _=ch g' A y w.p;rw[LN];rfl
  rw[fE,eQ,R,R];show(((eE f).take a).map aT.p).map _++_::(((eE f).drop (a+1)).map aT.p).map _=_;rw[sh,uy,rC]
 .rw[nY]at H;subst H;exact⟨z,aH,ew⟩
 rw[nC,bt];have:=g.nw;simp only[gk];omega
def acP(g:a_ F f){a:Nat}(ha:a<I f)(h:s3 F f a=some L):fP F L:=by
 have mR:=xQ f;obtain⟨x,z⟩:=aM (h:=eE f) (k:=a) J;have X:(aA f)[a]?=some x.p:=by rw[<-rC,dy,z];rfl
 unfold s3 at h;rw[jr X]at h;split at h
 case isFalse=>cases h
 rename_i hc;simp only[cN,cW,jn]at hc;obtain⟨h1,h2,D⟩:=hc;cases h;have c:=g.cz;have A:x.k.aw:=by show(x.k.kind==1)=true;simp[h1]
 have rx:=c.rr x (aX z) A;rw[h_]at rx;have D:=D;have h2:x.k.gate<(F:Int):=h2;have y:=(Ta (((kL A).1 (c.ok x (aX z)).bad).1.1.1).1).symm;generalize x.k.gate.toNat=G at y D rx;have iV:(eE f).Perm (x::((eE f).take a++(eE f).drop (a+1))):=by
  conv=>lhs;rw[PB z]
  exact Ev
 have O:∀w∈(eE f).take a++(eE f).drop (a+1),w.k.aw->(0<=w.k.gate/\w.k.gate<=(F:Int))/\1<=w.k.ao/\w.k.ao<=(aJ f w.k.gate.toNat:Int)/\(w.k.gate=(G:Int)->w.k.ao≠x.k.ao):=λw H pw=>by have j7:=iV.mem_iff.2 (zj _ H);have r1:=c.rr w j7 pw;rw[h_]at r1;refine⟨((kL pw).1 (c.ok w j7).bad).1.1.1,r1.1,r1.2,λn E=>?_⟩;exact(jy.1 (c.q.perm iV).rk).1 w H A pw (by rw[y,n]) E.symm
 have rk:∀w:aT,w.k.aw->(kP ((G:Int)+1) 0 1 w.k).ao=if w.k.gate=(G:Int)+1/\0<w.k.ao then w.k.ao+1 else w.k.ao:=λw pw=>St pw;have ac:x.k.gate.toNat=G:=by rw[y];exact js _
 have Y:x.k.ao.toNat=aJ f G:=by rw[D];exact js _
 have M:=afx g z A (j:=G+1) y J J (g':=(G:Int)+1) (A:=0) (y:=1) (E:=1)
  (T:=λk j=>if k=G+1 then(if j=0 then eS f G (aJ f G-1)else eS f (G+1) (j-1))else eS f k j)
  (B:=λk j=>if k=G+1 then(if j=0 then eR f G (aJ f G-1)else eR f (G+1) (j-1))else eR f k j) ?_ ?_ ⟨J,J⟩ ?_
 .have e:sZ (eL (aA f) (x.p.l.gate+1) 0 1) a (x.p.l.gate+1) 1=((aA f).take a).map (ch ((G:Int)+1) 0 1)++⟨{x.k with gate:=((G+1:Nat):Int),ao:=1},x.p.d⟩::((aA f).drop (a+1)).map (ch ((G:Int)+1) 0 1):=by
   unfold sZ;have fS:(eL (aA f) (x.p.l.gate+1) 0 1)[a]?=some x.p:=by
    show((aA f).map _)[a]?=_;rw[dy,X];show some (ch _ _ _ x.p)=_;rw[LN];congr 1;have:kP (x.p.l.gate+1) 0 1 x.p.l=x.p.l:=by unfold kP;rw[ai];simp only[cN,cW,not_and];intro _ h;omega
    rw[this]
   rw[dz,fS,nm];rw[show eL (aA f) (x.p.l.gate+1) 0 1=(aA f).map (ch (x.p.l.gate+1) 0 1)from rfl,Vt X,y];rfl
  rw[e];exact M
 .intro w H pw;obtain⟨o1,o2,R,o4⟩:=O w H pw;rw[rk w pw];refine⟨?_,λe=>?_⟩
  .by_cases c1:w.k.gate=(G:Int)+1
   .rw[an ⟨c1,J⟩,an J,ai J];omega
   rw[ai J,ai J];by_cases m:w.k.gate=(G:Int)
   .rw[an J];have:=o4 m;have e3:w.k.gate.toNat=G:=J;rw[e3]at R |-;omega
   rw[ai J];omega
  rw[an ⟨J,J⟩];omega
 .intro u hu v hv pu pv n E;rw[rk u pu,rk v pv]at E;obtain⟨_,o2,_⟩:=O u hu pu;obtain⟨_,R,_⟩:=O v hv pv;split at E<;>split at E<;>omega
 intro Q f' HD;have hf:f'=λk j=>if k=G+1 then(if j=0 then Q G (aJ f G-1)else Q (G+1) (j-1))else Q k j:=by rcases HD with⟨rfl,rfl⟩|⟨rfl,rfl⟩<;>rfl
 have Z:∀k,k<F->Q k (aJ f k)=Q (k+1) 0:=λk N=>by
  have:=c.gt k N;rw[h_]at this;rcases HD with⟨rfl,_⟩|⟨rfl,_⟩
  .exact this.1
  exact this.2
 have HH:Q F (aJ f F)=Q 0 0:=by
  have:=c.gz;rw[h_]at this;rcases HD with⟨rfl,_⟩|⟨rfl,_⟩
  .exact this.1
  exact this.2
 rw[hf,ac,Y];refine⟨⟨?_,?_⟩,λw H pw=>?_,λk N=>?_,?_⟩
 .simp
 .simp[Z G J]
 .obtain⟨o1,o2,R,o4⟩:=O w H pw;rw[rk w pw];by_cases c1:w.k.gate=(G:Int)+1
  .have n:w.k.gate.toNat=G+1:=J;have E:(w.k.ao+1).toNat=w.k.ao.toNat+1:=J;have e3:w.k.ao.toNat≠0:=J;rw[an ⟨c1,J⟩,n,E];simp[e3]
  have n:w.k.gate.toNat≠G+1:=J;rw[ai J];simp[n]
 .by_cases c1:k=G
  .subst c1;simp
  by_cases m:k=G+1
  .subst m;simp[Z _ N]
  have:k+1≠G+1:=J;simp[c1,m,Z k N]
 have ad:F≠G:=J;by_cases m:F=G+1
 .rw[m]at HH;simp[m,HH]
 simp[ad,m,HH]
end
section
variable {F:Nat} {f:af}
def ahK(g:a_ F f){a:Nat}(ha:a<I f)(h:tl f a=some L):fP F L:=by
 have mR:=xQ f;obtain⟨x,D⟩:=aM (h:=eE f) (k:=a) J;have iB:(aA f)[a]?=some x.p:=by rw[<-rC,dy,D];rfl
 unfold tl at h;rw[jr iB]at h;split at h
 case isFalse=>cases h
 rename_i hc;simp only[cN,cW,jn]at hc;obtain⟨h1,Y,A⟩:=hc;cases h;have c:=g.cz;have X:x.k.aw:=by show(x.k.kind==1)=true;simp[h1]
 have gx:=((kL X).1 (c.ok x (aX D)).bad).1.1.1;have rx:=c.rr x (aX D) X;rw[h_]at rx;have A:=A;have Y:0<x.k.gate:=Y;obtain⟨G,hG⟩:∃G:Nat,x.k.gate=((G+1:Nat):Int):=⟨x.k.gate.toNat-1,J⟩;have N:x.k.gate.toNat=G+1:=by rw[hG];exact js _
 rw[N]at rx;have iV:(eE f).Perm (x::((eE f).take a++(eE f).drop (a+1))):=by
  conv=>lhs;rw[PB D]
  exact Ev
 have O:∀w∈(eE f).take a++(eE f).drop (a+1),w.k.aw->(0<=w.k.gate/\w.k.gate<=(F:Int))/\1<=w.k.ao/\w.k.ao<=(aJ f w.k.gate.toNat:Int)/\(w.k.gate=((G+1:Nat):Int)->w.k.ao≠1):=λw H pw=>by have j7:=iV.mem_iff.2 (zj _ H);have r1:=c.rr w j7 pw;rw[h_]at r1;refine⟨((kL pw).1 (c.ok w j7).bad).1.1.1,r1.1,r1.2,λE y=>?_⟩;exact(jy.1 (c.q.perm iV).rk).1 w H X pw (by rw[hG,E]) (by rw[A,y])
 have rk:∀w:aT,w.k.aw->(kP ((G+1:Nat):Int) 1 (-1) w.k).ao=if w.k.gate=((G+1:Nat):Int)/\1<w.k.ao then w.k.ao-1 else w.k.ao:=λw pw=>by rw[St pw];rfl
 have ac:x.k.ao.toNat=1:=by rw[A];rfl
 have M:=afx g D X (j:=G) hG J J (g':=((G+1:Nat):Int)) (A:=1) (y:= -1) (E:=((aJ f G+1:Nat):Int))
  (T:=λk j=>if k=G+1 then eS f (G+1) (j+1)else if k=G then(if j<=aJ f G then eS f G j else eS f (G+1) 1)else eS f k j)
  (B:=λk j=>if k=G+1 then eR f (G+1) (j+1)else if k=G then(if j<=aJ f G then eR f G j else eR f (G+1) 1)else eR f k j) ?_ ?_ ⟨J,J⟩ ?_
 .have Kn:=hG;have HF:x.p.l.gate-1=(G:Int):=by rw[Kn];omega
  have e:sZ (eL (aA f) x.p.l.gate 1 (-1)) a (x.p.l.gate-1) ((aJ f (x.p.l.gate-1).toNat+1:Nat):Int)=((aA f).take a).map (ch ((G+1:Nat):Int) 1 (-1))++⟨{x.k with gate:=(G:Int),ao:=((aJ f G+1:Nat):Int)},x.p.d⟩::((aA f).drop (a+1)).map (ch ((G+1:Nat):Int) 1 (-1)):=by
   unfold sZ;have fS:(eL (aA f) x.p.l.gate 1 (-1))[a]?=some x.p:=by
    show((aA f).map _)[a]?=_;rw[dy,iB];show some (ch _ _ _ x.p)=_;rw[LN];congr 1;have:kP x.p.l.gate 1 (-1) x.p.l=x.p.l:=by unfold kP;rw[ai];simp only[cN,cW,jn,not_and];intro _ _ h;have wU:=A;omega
    rw[this]
   rw[dz,fS,nm];rw[show eL (aA f) x.p.l.gate 1 (-1)=(aA f).map (ch x.p.l.gate 1 (-1))from rfl,Vt iB,HF,Kn,js]
  rw[e];exact M
 .intro w H pw;obtain⟨o1,o2,Z,R⟩:=O w H pw;rw[rk w pw];refine⟨?_,λe=>?_⟩
  .by_cases c1:w.k.gate=((G+1:Nat):Int)
   .have:=R c1;rw[an ⟨c1,J⟩,ai J,an J];omega
   rw[ai J,ai (show¬w.k.gate.toNat=G+1 by omega)];split<;>omega
  rw[ai J];have e3:w.k.gate.toNat=G:=J;rw[e3]at Z;omega
 .intro u hu v hv pu pv E y;rw[rk u pu,rk v pv]at y;obtain⟨_,o2,_,R⟩:=O u hu pu;obtain⟨_,Z,_,o5⟩:=O v hv pv;by_cases c1:u.k.gate=((G+1:Nat):Int)
  .have n1:=R c1;have n2:=o5 (by rw[<-E,c1]);rw[an ⟨c1,J⟩,an ⟨by rw[<-E,c1],J⟩]at y;omega
  rwa[ai J,ai (by rw[<-E];omega)]at y
 intro n z HD;have hf:z=λk j=>if k=G+1 then n (G+1) (j+1)else if k=G then(if j<=aJ f G then n G j else n (G+1) 1)else n k j:=by rcases HD with⟨rfl,rfl⟩|⟨rfl,rfl⟩<;>rfl
 have jK:∀k,k<F->n k (aJ f k)=n (k+1) 0:=λk hk=>by
  have:=c.gt k hk;rw[h_]at this;rcases HD with⟨rfl,_⟩|⟨rfl,_⟩
  .exact this.1
  exact this.2
 have HH:n F (aJ f F)=n 0 0:=by
  have:=c.gz;rw[h_]at this;rcases HD with⟨rfl,_⟩|⟨rfl,_⟩
  .exact this.1
  exact this.2
 have jd:1<=aJ f (G+1):=J;have kU:∀j,z (G+1) j=n (G+1) (j+1):=λj=>by rw[hf];exact an rfl
 have v2:∀j,j<=aJ f G->z G j=n G j:=λj hj=>by rw[hf];show(if G=G+1 then _ else if G=G then(if j<=aJ f G then n G j else n (G+1) 1)else n G j)=_;rw[ai J,an rfl,an hj]
 have v3:z G (aJ f G+1)=n (G+1) 1:=by rw[hf];show(if G=G+1 then _ else if G=G then(if aJ f G+1<=aJ f G then n G (aJ f G+1)else n (G+1) 1)else n G (aJ f G+1))=_;rw[ai J,an rfl,ai J]
 have v4:∀k j,k≠G->k≠G+1->z k j=n k j:=λk j h1 Y=>by rw[hf];show(if k=G+1 then _ else if k=G then _ else n k j)=_;rw[ai Y,ai h1]
 have v0:∀k,k≠G+1->z k 0=n k 0:=λk h=>by
  by_cases c:k=G
  .subst c;exact v2 0 (bN _)
  exact v4 k 0 c h
 have ec:aJ f (G+1)-1+1=aJ f (G+1):=J;rw[N,ac,js];refine⟨⟨?_,?_⟩,λw H pw=>?_,λk hk=>?_,?_⟩
 .rw[Fw,v2 _ (ct _),jK G J]
 .exact v3.symm
 .obtain⟨o1,o2,Z,R⟩:=O w H pw;rw[rk w pw];by_cases c1:w.k.gate=((G+1:Nat):Int)
  .have n1:=R c1;have E:w.k.gate.toNat=G+1:=J;have y:(w.k.ao-1).toNat-1+1=w.k.ao.toNat-1:=J;have e3:(w.k.ao-1).toNat+1=w.k.ao.toNat:=J;rw[an ⟨c1,J⟩,E,kU,kU,y,e3];exact⟨rfl,rfl⟩
  have E:w.k.gate.toNat≠G+1:=J;rw[ai J];by_cases m:w.k.gate.toNat=G
  .rw[m]at Z |-;rw[v2 _ J,v2 _ J];exact⟨rfl,rfl⟩
  rw[v4 _ _ m E,v4 _ _ m E];exact⟨rfl,rfl⟩
 .by_cases c1:k=G+1
  .subst c1;rw[ai J,an rfl,kU,show aJ f (G+1)+0-1+1=aJ f (G+1) by omega,v0 _ J,jK _ hk]
  rw[ai c1,LA];by_cases m:k=G
  .subst m;rw[an rfl,v3,kU]
  rw[ai m,uX,v4 _ _ m c1,v0 _ J,jK k hk]
 rw[v0 0 J];have Q:F≠G:=J;rw[ai Q,uX];by_cases m:F=G+1
 .rw[an m];rw[m]at HH |-;rw[kU,ec,HH]
 rw[ai m,LA,v4 _ _ Q m,HH]
end
def rb.Q6{g:Bool}{i o j q:dW}(h:rb g i o j q):rb (!g) (iZ o) (iZ i) j q:=by obtain⟨a,b,c,d⟩:=h;cases g<;>simp at a b c d<;>constructor<;>simp[iZ,a,b,c,d]
def rb.Q7{g:Bool}{i o j q:dW}(h:rb g i o j q):rb (!g) i o (iZ q) (iZ j):=by obtain⟨a,b,c,d⟩:=h;cases g<;>simp at a b c d<;>constructor<;>simp[iZ,a,b,c,d]
def gV(f:Bool)(x:aT):dW:=if f then x.i else iZ x.o
def jl(f:Bool)(x:aT):dW:=if f then x.o else iZ x.i
def V_{f F:Bool}{x y:aT}:rb true (gV f x) (jl f x) (gV F y) (jl F y)↔rb (f==F) x.i x.o y.i y.o:=by
 cases f<;>cases F<;>simp
 .exact⟨λh=>h.Q6.Q7,λh=>h.Q6.Q7⟩
 .exact⟨λh=>h.Q6,λh=>h.Q6⟩
 .exact⟨λh=>h.Q7,λh=>h.Q7⟩
 exact Iff.rfl
def bJ (n d:Nat):Nat:=if d%2=0 then d/2 else(d/2+1)%n
def bP (n d:Nat):Nat:=if d%2=0 then(d/2+1)%n else d/2
def bY(d:Nat):Bool:=d%2==0
section
variable {F:Nat} {f:af}
def cV(P:aU)(h:Nat->dW)(i:Nat):aT:=⟨P.getD i ⟨ga,false⟩,h ((i+I P-1)%I P),h i⟩
def zF (P:aU)(h:Nat->dW):fI:=(List.range (I P)).map (cV P h)
def aiH(P:aU)(h:Nat->dW):(zF P h).map aT.p=P:=by
 unfold zF;rw[gi];apply nj;intro i;rw[dy];by_cases H:i<I P
 .obtain⟨p,hp⟩:=aM H;rw[sy H,hp];show some (P.getD i _)=_
  grind
 grind
def awv(P:aU)(h:Nat->dW)(f:0<I P):∃s,ie s (zF P h) s:=by
 refine⟨h (I P-1),?_⟩;have:=agp (cV P h) (λi=>h _) (I P) 0 λi _ H=>⟨rfl,?_⟩
 .simp only[jO]at this;rwa[eN J,show I P+I P-1=(I P-1)+I P by omega,mT,eN J,<-Xk]at this
 show h i=h _
 grind [mT,eN]
def ai8(g:a_ F f){P:aU}{u:Nat}(hl:I P=I f)
  (E:au U.aq (P.map aK.l)=au U.aq f) (X:au U.aw (P.map aK.l)=au U.aw f) (R:∀k,aJ (P.map aK.l) k=aJ f k)
  (ok:∀i,i<I f->vA F (cV P h i)) (cr:∀i j,i<I f->j<I f->i≠j->mj (cV P h i) (cV P h j)) (rk:∀i j,i<I f->j<I f->i≠j->xR (cV P h i) (cV P h j))
  (ids:∀i,i<I f->(cV P h i).k.aq->1<=(cV P h i).k.id/\(cV P h i).k.id<=((au U.aq f/2:Nat):Int))
  (rr:∀i,i<I f->(cV P h i).k.aw->1<=(cV P h i).k.ao/\(cV P h i).k.ao<=(aJ f (cV P h i).k.gate.toNat:Int))
  (pl:∀i,i<I f->(cV P h i).k.aw->Aj T B (cV P h i))
  (gt:∀k,k<F->T k (aJ f k)=T (k+1) 0/\B k (aJ f k)=B (k+1) 0) (gz:T F (aJ f F)=T 0 0/\B F (aJ f F)=B 0 0)
  (wit:∀j,j<I f->∀t,(t=(jH f j).l\/t=(jH f j).r)->t=u\/ ∃z,z<I f/\(t=(h z).l\/t=(h z).r)):fP F P:=by
 have hn:=gA.2 g.ne;have y:aP (zF P h)=P.map aK.l:=by
  show(zF P h).map (λx=>x.p.l)=_;have:(zF P h).map (λx=>x.p.l)=((zF P h).map aT.p).map aK.l:=by rw[gi];rfl
  rw[this,aiH]
 have M:∀x∈zF P h,∃i,i<I f/\x=cV P h i:=λx H=>by obtain⟨i,m,rfl⟩:=cD.1 H;exact⟨i,by have:=fA.1 m;omega,rfl⟩
 have Q:∀i,i<I f->cV P h i∈zF P h:=λi m=>cD.2 ⟨i,fA.2 J,rfl⟩;have q:jA F (zF P h) T B:=by
  refine⟨λx H=>?_,RF λi j m D O=>cr i j J J O,?_,λx H hc=>?_,RF λi j m D O=>rk i j J J O,λx H hp=>?_,λx H hp=>?_,λk Y=>?_,?_⟩
  .obtain⟨i,m,rfl⟩:=M x H;exact ok i m
  .rw[y,E];have:=g.cz.ev;rwa[h_]at this
  .obtain⟨i,m,rfl⟩:=M x H;rw[y,E];exact ids i m hc
  .obtain⟨i,m,rfl⟩:=M x H;rw[y,R];exact rr i m hp
  .obtain⟨i,m,rfl⟩:=M x H;exact pl i m hp
  .rw[y,R];exact gt k Y
  rw[y,R];exact gz
 refine⟨zF P h,T,B,(List.range (fp f)).filter (λs=> ![u].contains s),aiH P h,⟨awv P h J,q.ok,q.cr,q.ev,q.ids,q.rk,q.rr,q.pl,q.gt,q.gz,?_,B0.filter _,λs ae=>?_,?_⟩⟩
 .have:0<au U.aw (P.map aK.l):=by
   rw[X];obtain⟨l,A,v⟩:=g.first;exact zm.2 ⟨l,aX A,v⟩
  rw[<-y]at this;obtain⟨l,A,v⟩:=zm.1 this;obtain⟨x,H,rfl⟩:=cD.1 A;exact⟨x,H,v⟩
 .obtain⟨A,v⟩:=pg.1 ae;have v:s≠u:=by simpa using v
  obtain⟨x,H,e⟩:=g.cz.wit s A;obtain⟨j,D,rfl⟩:=cD.1 H;have D:=fA.1 D;rcases wit j D s e with Z|⟨z,N,Z⟩
  .exact absurd Z v
  exact⟨cV P h z,Q z N,Z⟩
 rw[y,E,X];have A:=W2 (L:=[u]) (B0 (n:=fp f));have v:=g.nw
 grind [rY,fG,gk]
def JM(g:a_ F f){d:Nat}(h:d<2*I f):bJ (I f) d<I f:=by
 unfold bJ;split
 .omega
 exact cJ _ (gA.2 g.ne)
def zG(g:a_ F f){d:Nat}(h:d<2*I f):bP (I f) d<I f:=by
 unfold bP;split
 .exact cJ _ (gA.2 g.ne)
 omega
def CS{d:Nat}(h:d<2*I f):d=gn (I f) (bP (I f) d) (bY d):=by have:=My h;exact this
def GD{f:Bool}(h:v<n):bJ n (dx n v f)=v/\bY (dx n v f)=f:=by grind [bJ,bY,dx,uE]
def vk (f:af)(d:Nat):dW:=if d%2=0 then jH f (d/2)else iZ (jH f (d/2))
def Jx{d:Nat}(H:d<2*I f):gV (bY d) (eK f (bP (I f) d))=vk f d:=by
 unfold gV bY bP vk eK;rcases oH d with h|h
 .simp[h];rw[vi J]
 simp[h]
def Hp{d:Nat}(H:d<2*I f):jl (bY d) (eK f (bJ (I f) d))=vk f d:=by
 unfold jl bY bJ vk eK;rcases oH d with h|h
 .simp[h]
 simp[h,gJ];rw[vi J]
def EJ(g:a_ F f){d:Nat}(n:d<2*I f){l:U}(hl:f[bP (I f) d]?=some l)(j:l.aq):aO f d<2*I f/\bJ (I f) (aO f d)=gC f (bP (I f) d)/\eY l=(bY d==bY (aO f d))/\
  rb true (gV (bY d) (eK f (bP (I f) d))) (jl (bY d) (eK f (bP (I f) d))) (gV (bY (aO f d)) (eK f (bJ (I f) (aO f d)))) (jl (bY (aO f d)) (eK f (bJ (I f) (aO f d)))):=by
 obtain⟨B,m,H,y,M,D,z⟩:=pE (g.ok).cr hl j;have h:=(bd.1 H).1;have e:aO f d=dx (I f) (gC f (bP (I f) d)) (bY d==eY l):=by
  conv=>lhs;rw[CS n]
  rw[uk hl j];rfl
 obtain⟨v,x⟩:=GD h;have A:bP (I f) d≠gC f (bP (I f) d):=by grind
 have u:eY l=(bY d==(bY d==eY l)):=by cases bY d<;>cases eY l<;>rfl
 rw[e,v,x];refine⟨?_,rfl,u,?_⟩
 .have:=uB h (!(bY d==eY l))
  grind [tc,tD,tp]
 rw[V_,<-u];have:=(LC g (zG g n) h A (by rw[fq hl];exact j) (by rw[fq H];exact y) (by rw[fq hl,fq H];exact M.symm)).x4;rwa[fq hl]at this
theorem Am{l:aU}(hl:I l=I f){e:Nat}(h:e<I f)(i:Nat):(gw f l e)[i]?=if i=nx f e then l[e]? else if i=e then l[nx f e]? else l[i]? :=by
 have H:nx f e<I f:=cJ _ J;obtain _:=aM J;obtain _:=aM J;unfold gw
 grind
def QD(g:a_ F f){w:aC}(h:w∈fF (aO f) (nD f)){Q:Nat->Prop}(m:∀x,x<nD f->(Q (aO f x)↔Q x)){x y:Nat}(n:x∈w)(j:y∈w):Q x↔Q y:=by
 have:=(Ru (n0 g.ok) (R:=gY _ _) (λz u=>.rel ⟨u,rfl⟩) h n j).inv λa b r=>by obtain⟨H,rfl⟩:=r;exact propext (m a H).symm
 exact Eq.to_iff this
end
def amf:∀(L M:bQ),L.Nodup->(∀x∈L,x∈M)->I L<=I M:=by
 intro L
 induction L with
 |nil=>intro M _ _;exact bN _
 |cons a L f=>
  intro M j ae;obtain⟨m,h⟩:=qH.1 j;have:=f (M.erase a) h λx H=>(O_ (by grind)).2 (ae x (by simp[H]))
  grind
def axP:∀l:bQ,(oJ l).Nodup:=by
 intro l
 induction l with
 |nil=>exact qX
 |cons a l f=>grind [oJ,R3]
def alF{l:bQ}:I (oJ l)=I l->l.Nodup:=by
 induction l with
 |nil=>intro _;exact qX
 |cons a l f=>
  have h:=amf _ _ (axP l) λx H=>R3.1 H
  grind [oJ]
def aog{p:aK->Bool}{l:aU}{i:Nat}{x y:aK}(h:l[i]?=some x):(l.set i y).countP p+(if p x then 1 else 0)=l.countP p+(if p y then 1 else 0):=by grind
section
variable {F:Nat} {f:af}
theorem Jc{l:aU}(hl:I l=I f){e:Nat}(h:e<I f)(A:e≠nx f e)(p:aK->Bool):(gw f l e).countP p=l.countP p:=by
 have H:nx f e<I f:=cJ _ J
 grind [gw]
theorem Mu(g:a_ F f){e:Nat}(H:e<I f):e≠nx f e:=by
 have h:2<=I f:=by
  obtain _:=g.first;have:=g.even
  grind
 unfold nx;by_cases c:e+1<I f
 .rw[eN c];omega
 rw[show e+1=I f by omega,vv];omega
def Ul(p:U->Bool):au p ((aA f).map aK.l)=au p f:=by
 have:(aA f).map aK.l=f:=by
  have h:=h_ f;rw[<-h];have e:aP (eE f)=((eE f).map aT.p).map aK.l:=by rw[gi];rfl
  rw[h,<-rC,<-e,h]
 rw[this]
def D8(g:a_ F f){i j:Nat}{l m:U}(hl:f[i]?=some l)(h:f[j]?=some m)(H:l.aq)(M:m.aq)(e:l.id=m.id)(v:i≠j):gC f i=j:=by
 obtain⟨_,hp⟩:=g.ids;obtain _:=hp i j l m hl h H M e v;obtain⟨B,w,n,x,u,y,z⟩:=pE g.ok.cr hl H;refine Classical.byContradiction λA=>?_;have D:=(hp _ _ w m n h x M (by rw[u,e]) A).1
 grind
def amk(g:a_ F f){w:aC}(n:w∈fF (aO f) (nD f)){p q r:Nat}(hp:p∈w)(H:q∈w)(z:r∈w)(pq:p≠q)(pr:p≠r)(Q:q≠r)(m:p<nD f)(L:q<nD f)(j:r<nD f)
  (E:aO f p=p\/aO f p=q\/aO f p=r) (R:aO f q=p\/aO f q=q\/aO f q=r) (N:aO f r=p\/aO f r=q\/aO f r=r):
  (aO f p=q/\aO f q=r/\aO f r=p)\/(aO f p=r/\aO f r=q/\aO f q=p):=by
 have inj:=(n0 g.ok).inj;have i1:aO f p≠aO f q:=λe=>pq (inj _ _ m L e);have i2:aO f p≠aO f r:=λe=>pr (inj _ _ m j e);have i3:aO f q≠aO f r:=λe=>Q (inj _ _ L j e);have one:∀x y,x∈w->y∈w->x≠y->x<nD f->aO f x≠x:=λx y B v u D e=>by have:=QD g n (λt A=>⟨λh=>inj _ _ A D (by rw[h,e]),λh=>by rw[h,e]⟩) B v;exact u (this.1 rfl).symm
 have O:=one p q hp H pq m;have T:=one q p H hp (Ne.symm pq) L;have M:=one r p z hp (Ne.symm pr) j;omega
def Ui{d i:Nat}:(i≠bJ n d/\i≠bP n d)↔(i≠d/2/\i≠(d/2+1)%n):=by
 unfold bJ bP
 grind
def Tu{d D:Nat}(h:d/2≠D/2/\d/2≠(D/2+1)%n/\(d/2+1)%n≠D/2/\(d/2+1)%n≠(D/2+1)%n):bJ n d≠bJ n D/\bJ n d≠bP n D/\bP n d≠bJ n D/\bP n d≠bP n D:=by grind [bJ,bP]
def U2{d:Nat}(h:d/2≠(d/2+1)%n):bJ n d≠bP n d:=by
 unfold bJ bP
 grind
def mH (f:Bool)(s:dW):dW:=if f then s else iZ s
theorem M7(f:Bool)(x:aT):(gV f x).b=if f then x.i.b else x.o.b:=by cases f<;>rfl
theorem LU(f:Bool)(x:aT):(jl f x).b=if f then x.o.b else x.i.b:=by cases f<;>rfl
def K8{P:aU}{d:Nat}{j:dW}(n:I P=I f)(x:d<2*I f)(H:h (d/2)=mH (bY d) j)(v:h ((d/2+I f-1)%I f)=jH f ((d/2+I f-1)%I f))(u:h (nx f (d/2))=jH f (nx f (d/2))):
  gV (bY d) (cV P h (bJ (I f) d))=gV (bY d) (eK f (bJ (I f) d))/\jl (bY d) (cV P h (bJ (I f) d))=j/\gV (bY d) (cV P h (bP (I f) d))=j/\jl (bY d) (cV P h (bP (I f) d))=jl (bY d) (eK f (bP (I f) d)):=by
 unfold gV jl cV eK bJ bP;unfold bY at H |-;rw[n];rcases oH d with m|m
 case' _=>simp[m]at H |-
 rotate_left
 case' _=>simp[m,gJ]at H |-
 all_goals
  rw[vi J,H,v,u];exact⟨rfl,rfl,rfl,rfl⟩
def afm{P:aU}{i:Nat}(H:I P=I f)(n:i<I f)(hp:P[i]?=(aA f)[i]?)(m:h ((i+I f-1)%I f)=jH f ((i+I f-1)%I f))(j:h i=jH f i):cV P h i=eK f i:=by
 have:P.getD i ⟨ga,false⟩=⟨f.getD i ga,dw f i⟩:=by obtain⟨l,hl⟩:=aM n;rw[dz,hp,gZ hl,dz,hl];rfl
 unfold cV eK;rw[H,m,j,this]
def Hc{P:aU}{i j:Nat}(H:j<I f)(hp:P[i]?=(aA f)[j]?):(cV P h i).p=(eK f j).p:=by obtain⟨l,hl⟩:=aM H;show P.getD i _=⟨f.getD j ga,dw f j⟩;rw[dz,hp,gZ hl,dz,hl];rfl
def aw1(g:a_ F f){a b c:Nat}(ha:a<I f)(hb:b<I f)(hc:c<I f)(Z:uH F f a b c=some L):fP F L:=by
 unfold uH at Z;split at Z
 case isFalse=>cases Z
 rename_i ht;cases Z;unfold Fq at ht;simp only[cN,cW]at ht;obtain⟨fj,h6,_,_,_,A5⟩:=ht;have hn:=gA.2 g.ne;have cA:=cZ f;have ok:=g.ok
 have fJ:=alF (by rw[h6];rfl);have fJ:(([a,nx f a,b,nx f b,c,nx f c]:aC).map λi:Nat=>(i:Int)).Nodup:=fJ;have O:a≠nx f a/\a≠b/\a≠nx f b/\a≠c/\a≠nx f c/\nx f a≠b/\nx f a≠nx f b/\nx f a≠c/\nx f a≠nx f c/\b≠nx f b/\b≠c/\b≠nx f c/\nx f b≠c/\nx f b≠nx f c/\c≠nx f c:=by simp only[eQ,oO,qH,dt,gH,or_false,AX,qX,and_true,not_false_eq_true]at fJ;omega
 have bE:∀e∈[a,b,c],∃l m,f[e]?=some l/\f[nx f e]?=some m/\l.aq/\m.aq:=λe he=>by
  have X:=mB.1 fj e he;have dV:e<I f:=by simp only[dt,gH,or_false]at he;rcases he with rfl|rfl|rfl<;>assumption
  obtain⟨l,hl⟩:=aM dV;obtain⟨m,hm⟩:=aM (cJ _ hn);have e1:=jr (gZ hl);have e2:=jr (gZ hm);unfold vh at X;rw[e1,e2,cN]at X;exact⟨l,m,hl,hm,X.1,X.2⟩
 obtain⟨w,hw,_,ak,hE⟩:=Ya g ha A5;obtain⟨da,xV,vJ,AN⟩:=hE a aH;obtain⟨db,zu,wQ,AO⟩:=hE b aH;obtain⟨dc,av,JC,JD⟩:=hE c aH;have hN:∀d,d<2*I f->d<nD f:=λd hd=>by unfold nD;omega
 have three:∀d,d∈w->d<2*I f->d=da\/d=db\/d=dc:=λd X h2=>by
  have aD:∀d,d∈w->d<2*I f->d∈w.filter λx=>decide (x<2*I f):=λd X h2=>pg.2 ⟨X,by simpa using h2⟩;have R:=aD da xV vJ;have Q:=aD db zu wQ;have q3:=aD dc av JC;have q4:=aD d X h2;generalize w.filter (λx=>decide (x<2*I f))=D at ak R Q q3 q4
  match D,ak with
  |[x,y,z],_=>simp only[dt,gH,or_false]at R Q q3 q4;have:=O.2.1;have:=O.2.2.2.1;have:=O.2.2.2.2.2.2.2.2.2.2.1;omega
 have NO:∀d,d<2*I f->d/2∈[a,b,c]->∃l,f[bP (I f) d]?=some l/\l.aq:=λd hd he=>by
  obtain⟨l,m,X,h2,h3,h4⟩:=bE _ he;unfold bP;split
  .exact⟨m,h2,h4⟩
  exact⟨l,X,h3⟩
 have step:∀d,d∈w->d<2*I f->d/2∈[a,b,c]->aO f d=da\/aO f d=db\/aO f d=dc:=λd hd hl he=>by obtain⟨l,X,h2⟩:=NO d hl he;exact three _ (yO (n0 ok) hw hd) (EJ g hl X h2).1
 have bf:∃A E H,A<2*I f/\E<2*I f/\H<2*I f/\aO f A=E/\aO f E=H/\aO f H=A/\((A/2=a/\E/2=b/\H/2=c)\/(A/2=a/\E/2=c/\H/2=b)):=by
  have cq:da≠db:=λe=>O.2.1 (by rw[<-AN,<-AO,e]);have cu:da≠dc:=λe=>O.2.2.2.1 (by rw[<-AN,<-JD,e]);have cd:db≠dc:=λe=>O.2.2.2.2.2.2.2.2.2.2.1 (by rw[<-AO,<-JD,e]);rcases amk g hw xV zu av cq cu cd (hN _ vJ) (hN _ wQ) (hN _ JC) (step da xV vJ (by rw[AN];simp)) (step db zu wQ (by rw[AO];simp)) (step dc av JC (by rw[JD];simp))with⟨X,h2,h3⟩|⟨X,h2,h3⟩
  .exact⟨da,db,dc,vJ,wQ,JC,X,h2,h3,.inl ⟨AN,AO,JD⟩⟩
  exact⟨da,dc,db,vJ,JC,wQ,X,h2,h3,.inr ⟨AN,JD,AO⟩⟩
 clear three step hE ak xV vJ AN zu wQ AO av JC JD hw A5;clear fJ fj h6;obtain⟨A,E,H,l1,l2,l3,s1,s2,uY,iV⟩:=bf
 have b0:a∈[a,b,c]:=aH;have b9:b∈[a,b,c]:=aH;have cf:c∈[a,b,c]:=aH;have FB:I (fN f (aA f) [a,b,c])=I f:=by rw[Aq,cA]
 have xe:∀i,(fN f (aA f) [a,b,c])[i]?=if i=nx f c then(aA f)[c]? else if i=c then(aA f)[nx f c]? else if i=nx f b then(aA f)[b]? else if i=b then(aA f)[nx f b]? else if i=nx f a then(aA f)[a]? else if i=a then(aA f)[nx f a]? else(aA f)[i]? :=λi=>by
  show(gw f (gw f (gw f (aA f) a) b) c)[i]?=_;have e1:I (gw f (aA f) a)=I f:=by rw[uI,cA]
  have e2:I (gw f (gw f (aA f) a) b)=I f:=by rw[uI,e1]
  simp only[Am e2 hc,Am e1 hb,Am cA ha];obtain⟨x1,x2,x3,x4,x5,x6,x7,x8,x9,IM,Mc,Md,Me,Mf,PI⟩:=O;simp only[x2.symm,x3.symm,x4.symm,x5.symm,x6.symm,x7.symm,x8.symm,x9.symm,Mc.symm,Md.symm,Me.symm,Mf.symm,if_false]
 have jT:∀p:aK->Bool,(fN f (aA f) [a,b,c]).countP p=(aA f).countP p:=λp=>by
  show(gw f (gw f (gw f (aA f) a) b) c).countP p=_;have e1:I (gw f (aA f) a)=I f:=by rw[uI,cA]
  have e2:I (gw f (gw f (aA f) a) b)=I f:=by rw[uI,e1]
  rw[Jc e2 hc O.2.2.2.2.2.2.2.2.2.2.2.2.2.2,Jc e1 hb O.2.2.2.2.2.2.2.2.2.1,Jc cA ha O.1]
 generalize fN f (aA f) [a,b,c]=P at FB xe jT;obtain⟨x1,x2,x3,x4,x5,x6,x7,x8,x9,IM,Mc,Md,Me,Mf,PI⟩:=O;have pa:P[a]?=(aA f)[nx f a]? /\P[nx f a]?=(aA f)[a]? :=by
  constructor
  .rw[xe];simp only[x1,x2,x3,x4,x5,if_false,if_true]
  rw[xe];simp only[x6,x7,x8,x9,if_false,if_true]
 have pb:P[b]?=(aA f)[nx f b]? /\P[nx f b]?=(aA f)[b]? :=by
  constructor
  .rw[xe];simp only[IM,Mc,Md,if_false,if_true]
  rw[xe];simp only[Me,Mf,if_false,if_true]
 have pc:P[c]?=(aA f)[nx f c]? /\P[nx f c]?=(aA f)[c]? :=by
  constructor
  .rw[xe];simp only[PI,if_false,if_true]
  rw[xe];simp only[if_true]
 have pn:∀i,i≠a->i≠nx f a->i≠b->i≠nx f b->i≠c->i≠nx f c->P[i]?=(aA f)[i]? :=λi X h2 h3 h4 h5 h6=>by rw[xe];simp only[X,h2,h3,h4,h5,h6,if_false]
 clear xe
 have lV:∀d,d/2=a\/d/2=b\/d/2=c->P[bJ (I f) d]?=(aA f)[bP (I f) d]? /\P[bP (I f) d]?=(aA f)[bJ (I f) d]? :=λd hd=>by
  have:P[d/2]?=(aA f)[nx f (d/2)]? /\P[nx f (d/2)]?=(aA f)[d/2]? :=by rcases hd with e|e|e<;>rw[e]<;>assumption
  unfold bJ bP;rcases oH d with Z|Z
  .simp only[Z,if_true];exact this
  simp only[Z,Nat.one_ne_zero,if_false];exact this.symm
 have m1:A/2=a\/A/2=b\/A/2=c:=by
  rcases iV with⟨Z,_,_⟩|⟨Z,_,_⟩
  .exact .inl Z
  exact .inl Z
 have m2:E/2=a\/E/2=b\/E/2=c:=by
  rcases iV with⟨_,Z,_⟩|⟨_,Z,_⟩
  .exact .inr (.inl Z)
  exact .inr (.inr Z)
 have m3:H/2=a\/H/2=b\/H/2=c:=by
  rcases iV with⟨_,_,Z⟩|⟨_,_,Z⟩
  .exact .inr (.inr Z)
  exact .inr (.inl Z)
 have mm:∀d,d/2=a\/d/2=b\/d/2=c->d/2∈[a,b,c]:=λd Z=>by simpa using Z
 have bD:∀i,i≠bJ (I f) A->i≠bP (I f) A->i≠bJ (I f) E->i≠bP (I f) E->i≠bJ (I f) H->i≠bP (I f) H->P[i]?=(aA f)[i]? /\ ∀d,d/2=a\/d/2=b\/d/2=c->i≠d/2/\i≠nx f (d/2):=λi a1 a2 a3 a4 a5 a6=>by
  obtain⟨b1,b2⟩:=Ui.1 ⟨a1,a2⟩;obtain⟨b3,b4⟩:=Ui.1 ⟨a3,a4⟩;obtain⟨b5,b6⟩:=Ui.1 ⟨a5,a6⟩;have cs:(i≠a/\i≠nx f a)/\(i≠b/\i≠nx f b)/\(i≠c/\i≠nx f c):=by
   rcases iV with⟨X,h2,h3⟩|⟨X,h2,h3⟩
   .rw[X]at b1 b2;rw[h2]at b3 b4;rw[h3]at b5 b6;exact⟨⟨b1,b2⟩,⟨b3,b4⟩,b5,b6⟩
   rw[X]at b1 b2;rw[h2]at b3 b4;rw[h3]at b5 b6;exact⟨⟨b1,b2⟩,⟨b5,b6⟩,b3,b4⟩
  obtain⟨⟨c1,c2⟩,⟨c3,c4⟩,c5,c6⟩:=cs;refine⟨pn i c1 c2 c3 c4 c5 c6,λd hd=>?_⟩;rcases hd with e|e|e<;>rw[e]
  .exact⟨c1,c2⟩
  .exact⟨c3,c4⟩
  exact⟨c5,c6⟩
 have t1:=JM g l1;have t2:=JM g l2;have t3:=JM g l3;have X:=zG g l1;have h2:=zG g l2;have h3:=zG g l3
 have n9:(A/2≠E/2/\A/2≠nx f (E/2)/\nx f (A/2)≠E/2/\nx f (A/2)≠nx f (E/2))/\(A/2≠H/2/\A/2≠nx f (H/2)/\nx f (A/2)≠H/2/\nx f (A/2)≠nx f (H/2))/\(E/2≠H/2/\E/2≠nx f (H/2)/\nx f (E/2)≠H/2/\nx f (E/2)≠nx f (H/2))/\A/2≠nx f (A/2)/\E/2≠nx f (E/2)/\H/2≠nx f (H/2):=by
  rcases iV with⟨X,h2,h3⟩|⟨X,h2,h3⟩<;>rw[X,h2,h3]
  .exact⟨⟨x2,x3,x6,x7⟩,⟨x4,x5,x8,x9⟩,⟨Mc,Md,Me,Mf⟩,x1,IM,PI⟩
  exact⟨⟨x4,x5,x8,x9⟩,⟨x2,x3,x6,x7⟩,⟨Mc.symm,Me.symm,Md.symm,Mf.symm⟩,x1,PI,IM⟩
 obtain⟨y1,y2,y3,y4,y5,y6⟩:=n9;have bl:=Tu y1;have bw:=Tu y2;have bA:=Tu y3;have g1:=U2 y4;have g2:=U2 y5;have g3:=U2 y6
 obtain⟨u1,Bi,Jy⟩:=NO A l1 (mm A m1);obtain⟨u2,El,Jz⟩:=NO E l2 (mm E m2);obtain⟨u3,HV,JA⟩:=NO H l3 (mm H m3);obtain⟨_,o1,R,k1⟩:=EJ g l1 Bi Jy;obtain⟨_,o2,Q,k2⟩:=EJ g l2 El Jz;obtain⟨_,o3,q3,k3⟩:=EJ g l3 HV JA;rw[s1]at o1 R k1;rw[s2]at o2 Q k2;rw[uY]at o3 q3 k3;clear s1 s2 uY iV pn pa pb pc x1 x2 x3 x4 x5 x6 x7 x8 x9 IM Mc Md Me Mf PI bE NO mm b0 b9 cf;have bC:=Hp l1;have bM:=Hp l2;have bI:=Hp l3;have mX:=Jx l1;have bz:=Jx l2;have bO:=Jx l3;rw[mX,bM]at k1;rw[bz,bI]at k2;rw[bO,bC]at k3;obtain⟨a1,b1,c1,e1⟩:=k1;obtain⟨a2,b2,c2,e2⟩:=k2;obtain⟨a3,b3,c3,e3⟩:=k3;simp only[if_true]at a1 b1 c1 e1 a2 b2 c2 e2 a3 b3 c3 e3
 let ap:=(vk f A).l
 let K1:dW:=⟨(gV (bY H) (eK f (bJ (I f) H))).r,ap,(gV (bY A) (eK f (bJ (I f) A))).b⟩
 let K2:dW:=⟨(gV (bY A) (eK f (bJ (I f) A))).r,ap,(gV (bY E) (eK f (bJ (I f) E))).b⟩
 let K3:dW:=⟨(gV (bY E) (eK f (bJ (I f) E))).r,ap,(gV (bY H) (eK f (bJ (I f) H))).b⟩
 let h:Nat->dW:=λj=>if j=A/2 then mH (bY A) K1 else if j=E/2 then mH (bY E) K2 else if j=H/2 then mH (bY H) K3 else jH f j
 have ce:h (A/2)=mH (bY A) K1:=an rfl;have ck:h (E/2)=mH (bY E) K2:=by show(if _ then _ else _)=_;rw[ai (Ne.symm y1.1),an rfl]
 have bZ:h (H/2)=mH (bY H) K3:=by show(if _ then _ else _)=_;rw[ai (Ne.symm y2.1),ai (Ne.symm y3.1),an rfl]
 have ag:∀j,j≠A/2->j≠E/2->j≠H/2->h j=jH f j:=λj X h2 h3=>by show(if _ then _ else _)=_;rw[ai X,ai h2,ai h3]
 have ac:∀i,i<I f->i≠nx f (A/2)->i≠nx f (E/2)->i≠nx f (H/2)->h ((i+I f-1)%I f)=jH f ((i+I f-1)%I f):=λi N n1 n2 n3=>ag _ (λZ=>n1 (BU N Z)) (λZ=>n2 (BU N Z)) (λZ=>n3 (BU N Z))
 obtain⟨z1,z2,z3,z4⟩:=y1;obtain⟨z5,z6,z7,z8⟩:=y2;obtain⟨z9,br,bV,cy⟩:=y3;have G1:=K8 FB l1 ce (ac _ J y4 z2 z6) (ag _ y4.symm z3 z7);have G2:=K8 FB l2 ck (ac _ J z3.symm y5 br) (ag _ z2.symm y5.symm bV);have G3:=K8 FB l3 bZ (ac _ J z7.symm bV.symm y6) (ag _ z6.symm br.symm y6.symm);have p1:=lV A m1;have p2:=lV E m2;have p3:=lV H m3;have bb:=Hc (h:=h) X p1.1;have bm:=Hc (h:=h) t1 p1.2;have bp:=Hc (h:=h) h2 p2.1;have bi:=Hc (h:=h) t2 p2.2;have bk:=Hc (h:=h) h3 p3.1;have aZ:=Hc (h:=h) t3 p3.2
 have un:∀i,i<I f->i≠bJ (I f) A->i≠bP (I f) A->i≠bJ (I f) E->i≠bP (I f) E->i≠bJ (I f) H->i≠bP (I f) H->cV P h i=eK f i:=λi N n1 n2 n3 n4 n5 n6=>by obtain⟨R,Q⟩:=bD i n1 n2 n3 n4 n5 n6;exact afm FB N R (ac i N (Q A m1).2 (Q E m2).2 (Q H m3).2) (ag i (Q A m1).1 (Q E m2).1 (Q H m3).1)
 clear bD lV ac
 have zS:=pE ok.cr Bi Jy;have qT:=pE ok.cr El Jz;have bs:=pE ok.cr HV JA;rw[<-o1]at zS;rw[<-o2]at qT;rw[<-o3]at bs;obtain⟨r1,v2,qS,ar,bX,_,_⟩:=zS;obtain⟨r2,v3,Ot,aB,b7,_,_⟩:=qT;obtain⟨r3,kU,zR,az,co,_,_⟩:=bs
 have ab:∀(x y:aT) (d d' hh tt:Nat) (u v:U),f[hh]?=some u->f[tt]?=some v->u.aq->v.aq->v.id=u.id->hh≠tt->x.p=(eK f hh).p->y.p=(eK f tt).p->eY u=(bY d==bY d')->rb true (gV (bY d) x) (jl (bY d) x) (gV (bY d') y) (jl (bY d') y)->yx x y:=by intro x y d d' hh tt u v ha hb ca cb ei aN hx hy hg h4;have HZ:x.k=(eK f hh).k:=congrArg aK.l hx;have bv:y.k=(eK f tt).k:=congrArg aK.l hy;have bx:=LC g (bd.1 ha).1 (bd.1 hb).1 aN (by rw[fq ha];exact ca) (by rw[fq hb];exact cb) (by rw[fq ha,fq hb];exact ei.symm);refine⟨by rw[HZ,bv];exact bx.ov,by rw[HZ,bv];exact bx.sg,?_⟩;rw[HZ,fq ha,hg];exact V_.1 h4
 have C1:yx (cV P h (bJ (I f) A)) (cV P h (bP (I f) E)):=by
  refine ab _ _ A E _ _ u1 v2 Bi qS Jy ar bX bl.2.2.1 bb bi R ?_;rw[G1.1,G1.2.1,G2.2.2.1,G2.2.2.2];constructor<;>simp only[if_true]
  .exact c3.trans e2
  .rfl
  .rfl
  exact b2
 have C2:yx (cV P h (bJ (I f) E)) (cV P h (bP (I f) H)):=by
  refine ab _ _ E H _ _ u2 v3 El Ot Jz aB b7 bA.2.2.1 bp aZ Q ?_;rw[G2.1,G2.2.1,G3.2.2.1,G3.2.2.2];constructor<;>simp only[if_true]
  .exact c1.trans e3
  .rfl
  .rfl
  exact b3
 have rN:yx (cV P h (bJ (I f) H)) (cV P h (bP (I f) A)):=by
  refine ab _ _ H A _ _ u3 kU HV zR JA az co bw.2.1.symm bk bm q3 ?_;rw[G3.1,G3.2.1,G1.2.2.1,G1.2.2.2];constructor<;>simp only[if_true]
  .exact c2.trans e1
  .rfl
  .rfl
  exact b1
 have O:∀i,i<I f->(i=bJ (I f) A\/i=bP (I f) A\/i=bJ (I f) E\/i=bP (I f) E\/i=bJ (I f) H\/i=bP (I f) H)\/(cV P h i=eK f i/\i≠bJ (I f) A/\i≠bP (I f) A/\i≠bJ (I f) E/\i≠bP (I f) E/\i≠bJ (I f) H/\i≠bP (I f) H):=λi N=>by
  rcases Classical.em (i=bJ (I f) A\/i=bP (I f) A\/i=bJ (I f) E\/i=bP (I f) E\/i=bJ (I f) H\/i=bP (I f) H)with Z|Z
  .exact .inl Z
  simp only[AX]at Z;exact .inr ⟨un i N Z.1 Z.2.1 Z.2.2.1 Z.2.2.2.1 Z.2.2.2.2.1 Z.2.2.2.2.2,Z⟩
 have aj:∀i,i<I f->∃j l,j<I f/\f[j]?=some l/\(cV P h i).k=l/\(cV P h i).p=(eK f j).p:=λi N=>by
  have mk:∀j l,f[j]?=some l->(cV P h i).p=(eK f j).p->∃j l,j<I f/\f[j]?=some l/\(cV P h i).k=l/\(cV P h i).p=(eK f j).p:=λj l hl hp=>⟨j,l,(bd.1 hl).1,hl,(congrArg aK.l hp).trans (fq hl),hp⟩;rcases O i N with(rfl|rfl|rfl|rfl|rfl|rfl)|⟨e,_⟩
  .exact mk _ _ Bi bb
  .exact mk _ _ zR bm
  .exact mk _ _ El bp
  .exact mk _ _ qS bi
  .exact mk _ _ HV bk
  .exact mk _ _ Ot aZ
  obtain⟨l,hl⟩:=aM N;exact mk i l hl (by rw[e])
 have a9:(cV P h (bJ (I f) A)).k=u1:=(congrArg aK.l bb).trans (fq Bi);have bg:(cV P h (bJ (I f) E)).k=u2:=(congrArg aK.l bp).trans (fq El);have be:(cV P h (bJ (I f) H)).k=u3:=(congrArg aK.l bk).trans (fq HV);have bc:(cV P h (bP (I f) A)).k=kU:=(congrArg aK.l bm).trans (fq zR);have bn:(cV P h (bP (I f) E)).k=v2:=(congrArg aK.l bi).trans (fq qS);have a0:(cV P h (bP (I f) H)).k=v3:=(congrArg aK.l aZ).trans (fq Ot);have aL:∀(bq:Bool) (x:aT),(gV bq x).b=(jl bq x).b->x.i.b=x.o.b:=λbq x Z=>by
  rw[M7,LU]at Z;cases bq
  .exact Z.symm
  exact Z
 have bu:∀(bq:Bool) (x:aT),x.i.b=x.o.b->(gV bq x).b=(jl bq x).b:=λbq x Z=>by
  rw[M7,LU];cases bq
  .exact Z.symm
  exact Z
 have aF:∀j l,f[j]?=some l->l.aq->(eK f j).i.b=(eK f j).o.b:=λj l hl hc=>(DS g (bd.1 hl).1).cb (by rw[fq hl];exact hc);have bT:∀d (aY:dW),gV (bY d) (cV P h (bJ (I f) d))=gV (bY d) (eK f (bJ (I f) d))->jl (bY d) (cV P h (bJ (I f) d))=aY->aY.b=(gV (bY d) (eK f (bJ (I f) d))).b->(cV P h (bJ (I f) d)).i.b=(cV P h (bJ (I f) d)).o.b:=λd aY R Q q3=>aL (bY d) _ (by rw[R,Q,q3])
 have bH:∀d (aY:dW) (l m:U),f[bJ (I f) d]?=some l->l.aq->f[bP (I f) d]?=some m->m.aq->jl (bY d) (eK f (bJ (I f) d))=vk f d->gV (bY d) (eK f (bP (I f) d))=vk f d->gV (bY d) (cV P h (bP (I f) d))=aY->jl (bY d) (cV P h (bP (I f) d))=jl (bY d) (eK f (bP (I f) d))->aY.b=(gV (bY d) (eK f (bJ (I f) d))).b->(cV P h (bP (I f) d)).i.b=(cV P h (bP (I f) d)).o.b:=λd aY l m hl cl hm cm M n R Q q3=>by refine aL (bY d) _ ?_;rw[R,Q,q3,bu (bY d) _ (aF _ _ hl cl),M,<-n];exact bu (bY d) _ (aF _ _ hm cm)
 have bad:∀i,i<I f->d_ F (cV P h i).k=false:=λi N=>by obtain⟨j,l,hj,hl,hk,_⟩:=aj i N;rw[hk];exact g.bad l (aX hl)
 have vZ:∀i,i<I f->(cV P h i).k.aq->(cV P h i).i.b=(cV P h i).o.b->vA F (cV P h i):=λi N hc hb=>⟨bad i N,λ_=>hb,λhp=>by rw[jV hc]at hp;cases hp⟩;have Y:∀i,i<I f->(cV P h i).k.aw->cV P h i=eK f i:=λi N hp=>by
  rcases O i N with(rfl|rfl|rfl|rfl|rfl|rfl)|⟨e,_⟩
  .rw[a9,jV Jy]at hp;cases hp
  .rw[bc,jV az]at hp;cases hp
  .rw[bg,jV Jz]at hp;cases hp
  .rw[bn,jV ar]at hp;cases hp
  .rw[be,jV JA]at hp;cases hp
  .rw[a0,jV aB]at hp;cases hp
  exact e
 have cz:=g.cz;have DE:∀p:U->Bool,au p (P.map aK.l)=au p f:=λp=>by rw[<-Ul (f:=f) p];show List.countP _ _=List.countP _ _;rw[xt,xt];exact jT _
 have ad:∀(bq:Bool) i,i<I f->∀t,t=(gV bq (cV P h i)).l\/t=(gV bq (cV P h i)).r->∃j',j'<I f/\(t=(h j').l\/t=(h j').r):=λbq i N t ht=>by
  cases bq
  .refine⟨i,N,?_⟩;rcases ht with ht|ht
   .exact .inr ht
   exact .inl ht
  refine⟨(i+I P-1)%I P,?_,ht⟩;rw[FB];exact cJ _ hn
 refine ai8 g (u:=ap) (h:=h) (T:=eS f) (B:=eR f) FB (DE _) (DE _) (λk=>DE _) (λi N=>?_) (λi j N hj gI ci cj e=>?_) (λi j N hj gI pi pj e1 e2=>?_) (λi N ci=>?_) (λi N pi=>?_) (λi N pi=>?_) (λk hk=>?_) ?_ (λj hj t ht=>?_)
 .rcases O i N with(rfl|rfl|rfl|rfl|rfl|rfl)|⟨e,_⟩
  .exact vZ _ N (by rw[a9];exact Jy) (bT A K1 G1.1 G1.2.1 rfl)
  .exact vZ _ N (by rw[bc];exact az) (bH A K1 _ _ zR az Bi Jy bC mX G1.2.2.1 G1.2.2.2 rfl)
  .exact vZ _ N (by rw[bg];exact Jz) (bT E K2 G2.1 G2.2.1 rfl)
  .exact vZ _ N (by rw[bn];exact ar) (bH E K2 _ _ qS ar El Jz bM bz G2.2.2.1 G2.2.2.2 rfl)
  .exact vZ _ N (by rw[be];exact JA) (bT H K3 G3.1 G3.2.1 rfl)
  .exact vZ _ N (by rw[a0];exact aB) (bH H K3 _ _ Ot aB HV JA bI bO G3.2.2.1 G3.2.2.2 rfl)
  rw[e];exact DS g N
 ·
  have nn:∀i,i<I f->∃s,s<I f/\(∃l,f[s]?=some l/\(cV P h i).k=l)/\((i=bJ (I f) A/\s=bP (I f) A)\/(i=bP (I f) A/\s=bJ (I f) A)\/(i=bJ (I f) E/\s=bP (I f) E)\/(i=bP (I f) E/\s=bJ (I f) E)\/(i=bJ (I f) H/\s=bP (I f) H)\/(i=bP (I f) H/\s=bJ (I f) H)\/(cV P h i=eK f i/\s=i/\i≠bJ (I f) A/\i≠bP (I f) A/\i≠bJ (I f) E/\i≠bP (I f) E/\i≠bJ (I f) H/\i≠bP (I f) H)):=λi N=>by
   rcases O i N with(rfl|rfl|rfl|rfl|rfl|rfl)|⟨e,aN⟩
   .exact⟨_,X,⟨_,Bi,a9⟩,.inl ⟨rfl,rfl⟩⟩
   .exact⟨_,t1,⟨_,zR,bc⟩,.inr (.inl ⟨rfl,rfl⟩)⟩
   .exact⟨_,h2,⟨_,El,bg⟩,.inr (.inr (.inl ⟨rfl,rfl⟩))⟩
   .exact⟨_,t2,⟨_,qS,bn⟩,.inr (.inr (.inr (.inl ⟨rfl,rfl⟩)))⟩
   .exact⟨_,h3,⟨_,HV,be⟩,.inr (.inr (.inr (.inr (.inl ⟨rfl,rfl⟩))))⟩
   .exact⟨_,t3,⟨_,Ot,a0⟩,.inr (.inr (.inr (.inr (.inr (.inl ⟨rfl,rfl⟩)))))⟩
   obtain⟨l,hl⟩:=aM N;exact⟨i,N,⟨l,hl,by rw[e];exact fq hl⟩,.inr (.inr (.inr (.inr (.inr (.inr ⟨e,rfl,aN⟩)))))⟩
  obtain⟨si,cw,⟨li,rK,cc⟩,bL⟩:=nn i N;obtain⟨sj,KH,⟨lj,qo,bW⟩,Fl⟩:=nn j hj;rw[cc]at ci e;rw[bW]at cj e;obtain⟨f1,f2,f3,f4⟩:=bl;obtain⟨f5,f6,f7,f8⟩:=bw;obtain⟨f9,cx,cB,bl⟩:=bA;have aN:si≠sj:=by
   clear e2 e3 e1 ad Y vZ bad bH bT aj un O;rcases bL with⟨R,Q⟩|⟨R,Q⟩|⟨R,Q⟩|⟨R,Q⟩|⟨R,Q⟩|⟨R,Q⟩|⟨_,Q,n1,n2,n3,n4,n5,n6⟩<;>rcases Fl with⟨M,n⟩|⟨M,n⟩|⟨M,n⟩|⟨M,n⟩|⟨M,n⟩|⟨M,n⟩|⟨_,n,m1,m2,m3,m4,m5,m6⟩<;>rw[Q,n]<;>first
    |(rw[R,M]at gI;exact absurd rfl gI)
    |assumption
    |exact Ne.symm (by assumption)
    |exact gI
  have ho:=D8 g rK qo ci cj e aN;rcases bL with⟨R,Q⟩|⟨R,Q⟩|⟨R,Q⟩|⟨R,Q⟩|⟨R,Q⟩|⟨R,Q⟩|⟨eu,Q,n1,n2,n3,n4,n5,n6⟩
  .rw[Q,<-o1]at ho;rcases Fl with⟨M,n⟩|⟨M,n⟩|⟨M,n⟩|⟨M,n⟩|⟨M,n⟩|⟨M,n⟩|⟨_,n,m1,m2,m3,m4,m5,m6⟩<;>rw[n]at ho<;>first
    |(rw[R,M];exact C1)
    |exact absurd ho (by assumption)
    |exact absurd ho (Ne.symm (by assumption))
  .rw[Q,r3]at ho;rcases Fl with⟨M,n⟩|⟨M,n⟩|⟨M,n⟩|⟨M,n⟩|⟨M,n⟩|⟨M,n⟩|⟨_,n,m1,m2,m3,m4,m5,m6⟩<;>rw[n]at ho<;>first
    |(rw[R,M];exact rN.symm)
    |exact absurd ho (by assumption)
    |exact absurd ho (Ne.symm (by assumption))
  .rw[Q,<-o2]at ho;rcases Fl with⟨M,n⟩|⟨M,n⟩|⟨M,n⟩|⟨M,n⟩|⟨M,n⟩|⟨M,n⟩|⟨_,n,m1,m2,m3,m4,m5,m6⟩<;>rw[n]at ho<;>first
    |(rw[R,M];exact C2)
    |exact absurd ho (by assumption)
    |exact absurd ho (Ne.symm (by assumption))
  .rw[Q,r1]at ho;rcases Fl with⟨M,n⟩|⟨M,n⟩|⟨M,n⟩|⟨M,n⟩|⟨M,n⟩|⟨M,n⟩|⟨_,n,m1,m2,m3,m4,m5,m6⟩<;>rw[n]at ho<;>first
    |(rw[R,M];exact C1.symm)
    |exact absurd ho (by assumption)
    |exact absurd ho (Ne.symm (by assumption))
  .rw[Q,<-o3]at ho;rcases Fl with⟨M,n⟩|⟨M,n⟩|⟨M,n⟩|⟨M,n⟩|⟨M,n⟩|⟨M,n⟩|⟨_,n,m1,m2,m3,m4,m5,m6⟩<;>rw[n]at ho<;>first
    |(rw[R,M];exact rN)
    |exact absurd ho (by assumption)
    |exact absurd ho (Ne.symm (by assumption))
  .rw[Q,r2]at ho;rcases Fl with⟨M,n⟩|⟨M,n⟩|⟨M,n⟩|⟨M,n⟩|⟨M,n⟩|⟨M,n⟩|⟨_,n,m1,m2,m3,m4,m5,m6⟩<;>rw[n]at ho<;>first
    |(rw[R,M];exact C2.symm)
    |exact absurd ho (by assumption)
    |exact absurd ho (Ne.symm (by assumption))
  have hb:=(pE ok.cr rK ci).1;rw[ho,Q]at hb;rcases Fl with⟨M,n⟩|⟨M,n⟩|⟨M,n⟩|⟨M,n⟩|⟨M,n⟩|⟨M,n⟩|⟨cp,n,_⟩
  .rw[n,<-o1]at hb;exact absurd hb.symm n3
  .rw[n,r3]at hb;exact absurd hb.symm n6
  .rw[n,<-o2]at hb;exact absurd hb.symm n5
  .rw[n,r1]at hb;exact absurd hb.symm n2
  .rw[n,<-o3]at hb;exact absurd hb.symm n1
  .rw[n,r2]at hb;exact absurd hb.symm n4
  rw[Q]at rK;rw[n]at qo;rw[eu,cp];exact LC g N hj gI (by rw[fq rK];exact ci) (by rw[fq qo];exact cj) (by rw[fq rK,fq qo];exact e)
 .have ee:=Y i N pi;have cv:=Y j hj pj;rw[ee]at pi e1 e2;rw[cv]at pj e1 e2;exact(cz.Iv (xi N) (xi hj) gI).2 pi pj e1 e2
 .obtain⟨j,l,hj,hl,hk,_⟩:=aj i N;rw[hk]at ci |-;exact g.ids.1 l (aX hl) ci
 .have ee:=Y i N pi;rw[ee]at pi |-;have:=cz.rr _ (aX (xi N)) pi;rwa[h_]at this
 .have ee:=Y i N pi;rw[ee]at pi |-;exact cz.pl _ (aX (xi N)) pi
 .have:=cz.gt k hk;rwa[h_]at this
 .have:=cz.gz;rwa[h_]at this
 have am:∀d,j=d/2->t=(vk f d).l\/t=(vk f d).r:=λd hd=>by
  rw[hd]at ht;unfold vk;split
  .exact ht
  exact ht.symm
 by_cases n1:j=A/2
 .rcases am A n1 with Z|Z
  .exact .inl Z
  exact .inr (ad (bY E) _ t2 t (.inl (by rw[G2.1,Z];exact c1.symm)))
 by_cases n2:j=E/2
 .rcases am E n2 with Z|Z
  .exact .inl (Z.trans a1.symm)
  exact .inr (ad (bY H) _ t3 t (.inl (by rw[G3.1,Z];exact c2.symm)))
 by_cases n3:j=H/2
 .rcases am H n3 with Z|Z
  .exact .inl (Z.trans (a2.symm.trans a1.symm))
  exact .inr (ad (bY A) _ t1 t (.inl (by rw[G1.1,Z];exact c3.symm)))
 exact .inr ⟨j,hj,by rw[ag j n1 n2 n3];exact ht⟩
end
def AS(f:Bool)(x:aT):x.up=if f==x.p.d then gV f x else iZ (jl f x):=by unfold aT.up gV jl;cases f<;>cases x.p.d<;>rfl
def zY(f:Bool)(x:aT):x.lo=if f==x.p.d then jl f x else iZ (gV f x):=by unfold aT.lo gV jl;cases f<;>cases x.p.d<;>rfl
section
variable {F:Nat} {f:af}
def ZN:∀(w:aC) (h:c9),I h.places<=(w.foldl (c9.add F f) h).places.length/\ ∀x∈w,2*I f<=x->I (lE F f ((x-2*I f)/2))<=(w.foldl (c9.add F f) h).places.length:=by
 intro w
 induction w with
 |nil=>intro h;exact⟨ct _,λx v=>nomatch v⟩
 |cons x w m=>
  intro h;obtain⟨j,n⟩:=m _;have u:I h.places<=(c9.add F f h x).places.length:=by
   unfold c9.add;split
   .exact ct _
   grind
  refine⟨nA u j,λy H hl=>?_⟩;rcases dt.1 H with rfl|H
  .refine nA ?_ j
   grind [c9.add]
  exact n y H hl
def ae3(ok:fY F f){k u:Nat}(B:k+1<I (ay f))(j:(ay f).getD k 0=u)(y:(ay f).getD (k+1) 0=v){l m:U}(hl:f[u]?=some l)(n:f[v]?=some m)
  (pl:l.aw) (z:m.aw) (A:m.gate<=l.gate):l.gate=m.gate/\m.ao=l.ao+1:=by
 obtain⟨u',H⟩:=aM (h:=ay f) (k:=k) J;obtain⟨N,h⟩:=aM B;rw[dz,H,nm]at j;rw[dz,h,nm]at y;subst j y;obtain⟨l',E,_,L⟩:=uh ok.ax H;obtain⟨X,x,_,D⟩:=uh ok.ax h;rw[hl]at E;cases E;rw[n]at x;cases x;obtain⟨Y,Z,l3,M⟩:=ok.ax.eO l (aX hl) pl;obtain⟨R,O,Q,m4⟩:=ok.ax.eO m (aX n) z;unfold eC at L D;rcases Int.lt_or_eq_of_le A with c|c
 .exfalso;have T:=wO (h:=f) (show m.gate.toNat+1<=l.gate.toNat by omega);have ae:=lz f m.gate.toNat;omega
 grind
def O8(g:a_ F f){w:aC}(E:w∈fF (aO f) (nD f))(N:(kO F f w).places.length=1){x:Nat}(Q:x∈w){z:Bool}(T:x=gn (I f) v z){l:U}(hl:f[v]?=some l)(pl:l.aw):
  ∃u m y,y∈w/\f[u]?=some m/\m.aw/\l.gate=m.gate/\((dn f v=z/\m.ao=l.ao+1/\y=dx (I f) u (!dn f u))\/(dn f v=(!z)/\l.ao=m.ao+1/\y=dx (I f) u (dn f u))):=by
 have ok:=g.ok;have mp:=n0 ok;obtain⟨i1,i2⟩:=GA ok hl pl;have j:=yO mp E Q;rw[T,B1 hl pl]at j;by_cases B:(dn f v==z)
 .rw[an B]at j;have R:I (lE F f ((ay f).idxOf v))<=1:=by
   rw[<-N];unfold kO;have:=(ZN (F:=F) (f:=f) w (c9.new f (w.headD 0))).2 _ j J;rwa[show(2*I f+2*(ay f).idxOf v-2*I f)/2=(ay f).idxOf v by omega]at this
  have h:(ay f).idxOf v+1<I (ay f):=by
   unfold lE at R;simp only at R;split at R
   .assumption
   rw[fU,tJ,tJ]at R;omega
  obtain⟨m,H,n⟩:=zt h;have D:m.gate<=l.gate:=by unfold lE at R;simp only at R;rw[an h,tJ,i2,eN h,rG hl,rG H]at R;have:=(ok.ax.eO l (aX hl) pl).g0;have:=(ok.ax.eO m (aX H) n).g0;omega
  obtain⟨r1,M⟩:=ae3 ok h i2 rfl hl H pl n D;have O:=yO mp E j;rw[Ae,eN h]at O;exact⟨_,m,_,O,H,n,r1,.inl ⟨eq_of_beq B,M,rfl⟩⟩
 rw[ai B]at j;have L:=cJ ((ay f).idxOf v+I (ay f)-1) (show 0<I (ay f) by omega);have A:=uE i1;generalize((ay f).idxOf v+I (ay f)-1)%I (ay f)=k at j L A;have R:I (lE F f k)<=1:=by rw[<-N];unfold kO;have:=(ZN (F:=F) (f:=f) w (c9.new f (w.headD 0))).2 _ j J;rwa[show(2*I f+2*k+1-2*I f)/2=k by omega]at this
 have h:k+1<I (ay f):=by
  unfold lE at R;simp only at R;split at R
  .assumption
  rw[fU,tJ,tJ]at R;omega
 rw[eN h]at A;obtain⟨m,H,n⟩:=zt L;have D:l.gate<=m.gate:=by unfold lE at R;simp only at R;rw[an h,tJ,eN h,A,i2,rG hl,rG H]at R;have:=(ok.ax.eO l (aX hl) pl).g0;have:=(ok.ax.eO m (aX H) n).g0;omega
 obtain⟨r1,M⟩:=ae3 ok h rfl (by rw[A];exact i2) H hl n pl D
 grind [yO,A_,dn]
def xZ{l:aU}{i:Nat}{r:Int}{p:aK}(h:l[i]?=some p)(j:Nat):(fv l i r)[j]?=if j=i then some ⟨{p.l with ao:=r},p.d⟩else l[j]? :=by
 unfold fv
 grind
def X8{q:aK->Bool}{l:aU}{i:Nat}{r:Int}{p:aK}(h:l[i]?=some p)(H:∀p:aK,q ⟨{p.l with ao:=r},p.d⟩=q p):(fv l i r).countP q=l.countP q:=by
 unfold fv
 grind
def ZB(g:a_ F f){a b:Nat}(ha:a<I f)(hb:b<I f)(dm:a≠b){n iI A pb:Nat}{la X ma mb:U}
  (ea:(A=a/\n=nx f a)\/(A=nx f a/\n=a)) (eb:(pb=b/\iI=nx f b)\/(pb=nx f b/\iI=b)) (qm:f[n]?=some la) (qQ:f[iI]?=some X) (oz:f[A]?=some ma) (mO:f[pb]?=some mb)
  (ca:la.aq) (cb:X.aq) (qa:ma.aw) (qb:mb.aw) (z:la.id=X.id) (hv:n≠iI) (A5:mI F f 1 [a,b] a):
  ∃w,w∈fF (aO f) (nD f)/\(kO F f w).places.length=1/\ ∃d,d∈w/\d<2*I f/\aO f d∈w/\aO f d<2*I f/\(∀y,y∈w->y<2*I f->y=d\/y=aO f d)/\
   ((d/2=a/\aO f d/2=b/\bJ (I f) d=A/\bP (I f) d=n/\bJ (I f) (aO f d)=iI/\bP (I f) (aO f d)=pb)\/(d/2=b/\aO f d/2=a/\bJ (I f) d=pb/\bP (I f) d=iI/\bJ (I f) (aO f d)=n/\bP (I f) (aO f d)=A)):=by
 obtain⟨w,hw,k9,R,hE⟩:=Ya g ha A5;obtain⟨Z,xV,Q,AN⟩:=hE a aH;obtain⟨B,zu,wQ,AO⟩:=hE b aH;have M:∀d,d∈w->d<2*I f->d∈w.filter λx=>decide (x<2*I f):=λd j H=>pg.2 ⟨j,by simpa using H⟩;have two:=λd j H=>af6 R (M Z xV Q) (M B zu wQ) J (M d j H);have ends:∀d e p v:Nat,d/2=e->((p=e/\v=nx f e)\/(p=nx f e/\v=e))->(bJ (I f) d=p/\bP (I f) d=v)\/(bJ (I f) d=v/\bP (I f) d=p):=λd e p v j H=>by
  unfold bJ bP;rw[j];show((if _ then e else nx f e)=p/\(if _ then nx f e else e)=v)\/((if _ then e else nx f e)=v/\(if _ then nx f e else e)=p);rcases H with⟨rfl,rfl⟩|⟨rfl,rfl⟩<;>split
  .exact .inl ⟨rfl,rfl⟩
  .exact .inr ⟨rfl,rfl⟩
  .exact .inr ⟨rfl,rfl⟩
  exact .inl ⟨rfl,rfl⟩
 have pc:∀ {x y:Nat}{l m:U},f[x]?=some l->f[y]?=some m->l.aq->m.aw->x≠y:=λj H h3 h4 e=>by subst e;rw[j]at H;have:=ld H;rw[this,nv h4]at h3;cases h3
 have go:∀(d D p v p' O:Nat) (l m l' m':U),d∈w->d<2*I f->D<2*I f->bJ (I f) d=p->bP (I f) d=v->f[v]?=some l->f[p]?=some m->f[O]?=some l'->f[p']?=some m'->l.aq->m.aw->l'.aq->m'.aw->l.id=l'.id->v≠O->(∀y,y∈w->y<2*I f->y=d\/y=D)->((bJ (I f) D=p'/\bP (I f) D=O)\/(bJ (I f) D=O/\bP (I f) D=p'))->aO f d=D/\bJ (I f) D=O/\bP (I f) D=p':=by
  intro d D p v p' O l m l' m' d1 d2 ag hT hH hl hm lI rL cl pm L ac z hv tw en;obtain⟨s1,s2,_⟩:=EJ g d2 (by rw[hH];exact hl) cl;rw[hH,D8 g hl lI cl L z hv]at s2;rcases tw _ (yO (n0 (g.ok)) hw d1) s1 with e|e
  .exfalso;rw[e,hT]at s2;exact pc lI hm L pm s2.symm
  rw[e]at s2;rcases en with⟨E,_⟩|⟨E,T⟩
  .exact absurd (s2.symm.trans E) (pc lI rL L ac)
  exact⟨e,E,T⟩
 have nb:=ends B b pb iI AO eb;rcases(ends Z a A n AN ea)with⟨t1,Y⟩|⟨t1,Y⟩
 .obtain⟨E,T,e3⟩:=go Z B A n pb iI la ma X mb xV Q wQ t1 Y qm oz qQ mO ca qa cb qb z hv two nb;refine⟨w,hw,k9,Z,xV,Q,by rw[E];exact zu,by rw[E];exact wQ,by rw[E];exact two,.inl ⟨AN,by rw[E];exact AO,t1,Y,by rw[E];exact T,by rw[E];exact e3⟩⟩
 ·
  obtain⟨u,m,y,y1,y2,y3,_,y4⟩:=O8 g hw k9 xV (by rw[<-Y];exact CS Q) oz qa;have hu:=(bd.1 y2).1;have yT:bJ (I f) y=u/\y<2*I f:=by
   have ab:∀ad,bJ (I f) (dx (I f) u ad)=u/\dx (I f) u ad<2*I f:=λad=>⟨(GD hu).1,by
    have:=uB hu (!ad);rw[<-tc]at this;have:=tD this;rwa[tp]at this⟩
   rcases y4 with⟨_,_,e⟩|⟨_,_,e⟩<;>rw[e]<;>exact ab _
  have yb:y=B:=by grind
  have N:bJ (I f) B=pb/\bP (I f) B=iI:=by
   rcases nb with h|⟨j,H⟩
   .exact h
   exfalso;rw[yb,j]at yT;rw[<-yT.1,qQ]at y2;have:=ld y2;rw[<-this,jV cb]at y3;cases y3
  obtain⟨E,T,e3⟩:=go B Z pb iI A n X mb la ma zu wQ Q N.1 N.2 qQ mO qm oz cb qb ca qa z.symm hv.symm (λy j H=>(two y j H).symm) (.inr ⟨t1,Y⟩);refine⟨w,hw,k9,B,zu,wQ,by rw[E];exact xV,by rw[E];exact Q,by rw[E];exactλy j H=>(two y j H).symm,.inr ⟨AO,by rw[E];exact AN,N.1,N.2,by rw[E];exact T,by rw[E];exact e3⟩⟩
end
end Go.Abs
