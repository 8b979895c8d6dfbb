/-
  MoveLists: for every code and every list of kinds the call returns true and the arguments read as they did. It holds for every input that the row speaks of; the tables that the row lists hold what the text lays.
-/
import Derived.Test.YtdlmpmilnbhmgaaGreatDoorWn
import Derived.Test.YtdlmpmilnbhmgaaGreatDoorTie
import Derived.Deep.DeepHandedRow
import Derived.Deep.DeepLaidRun
import Derived.Stop.LaidErr
import Derived.Test.YtdlmpmilnbhmgaaGreatDoorSb
import Derived.Test.YtdlmpmilnbhmgaaGreatDoorTa
import Derived.Test.YtdlmpmilnbhmgaaGreatDoorFa
import Derived.Test.YtdlmpmilnbhmgaaGreatDoorGa
set_option linter.all false
open List renaming length->I
set_option maxRecDepth 100000
set_option maxHeartbeats 16000000
namespace Go.Abs
variable{m:db}{j:Int->dm}{F n z:Nat}{x:PV}{h:cS}{L:dm}
theorem Sj{α β:Type}{f:α->β}{p:β->Bool}{g:α->List β}:∀ {l:List α},(∀a∈l,g a=if p (f a)then [f a]else [])->l.flatMap g=(l.map f).filter p
 |[],_=>rfl
 |a::l,h=>by rw[xn,ew,KD,Sj λx H=>h x (s4 _ H),h a aG];split<;>simp
theorem ML{α β:Type}{f g:α->List β}:∀ {l:List α},(∀a∈l,f a=g a)->l.flatMap f=l.flatMap g
 |[],_=>rfl
 |a::l,h=>by rw[xn,xn,ML λx H=>h x (s4 _ H),h a aG]
section
variable {F:Nat} {g:aI}
theorem GR(h:okB F g m):bV F g m.k m.a m.b m.c m.l m.o m.s/\ ∃M,xP F g m.k m.a.toNat m.b.toNat m.c.toNat m.l m.o m.s=some M:=by
 obtain⟨M,H⟩:=GV.1 h;unfold uJ at H;split at H
 .rename_i j;refine⟨j,?_⟩;cases f:xP F g m.k m.a.toNat m.b.toNat m.c.toNat m.l m.o m.s with
  |none=>rw[f]at H;exact absurd H.symm (FR (e:=4) U)
  |some L=>exact⟨L,rfl⟩
 exact absurd H.symm (FR (e:=2) U)
theorem OU(h:ch F g)(f:I g<=40)(k:Int):∃v:Nat->Nat->Nat->Int,∀a b c:Nat,aC S 59 [eQ F g,dp k a b c false false 0] (fy (v a b c))/\(v a b c=0↔okB F g ⟨k,a,b,c,false,false,0⟩=true):=
 ⟨λa b c=>Classical.choose (Lx h f k a b c false false 0),λa b c=>Classical.choose_spec (Lx h f k a b c false false 0)⟩
theorem WZ(h:ch F g)(f:I g<=40)(k:Int):∃v:Nat->Nat->Nat->Bool->Bool->Int->Int,∀(a b c:Nat) (l o:Bool) (s:Int),aC S 59 [eQ F g,dp k a b c l o s] (fy (v a b c l o s))/\(v a b c l o s=0↔okB F g ⟨k,a,b,c,l,o,s⟩=true):=
 ⟨λa b c l o s=>Classical.choose (Lx h f k a b c l o s),λa b c l o s=>Classical.choose_spec (Lx h f k a b c l o s)⟩
theorem EV(f:ch F g):max (I g) 1=I g:=by have:=f.pos;omega
theorem Kr(f:ch F g)(n:I g<=40){k:Int}(m:k=1\/k=4\/k=9\/k=10):aC S 17 [dQ F g,aq k] (.one (bn fN 7 (bh ((rb (I g) k).filter (okB F g))))):=by
 obtain⟨v,H⟩:=OU f n k;have j:=EV f;have e:v_ (I g) 1 1 k v=(rb (I g) k).filter (okB F g):=by
  refine Sj λa _=>?_;have E:vG 1 1 k v a=jz k v a 0 0:=by simp[vG,vq]
  rw[E];unfold jz;by_cases h:v a 0 0=0
  .rw[aM h];exact(aM ((H a 0 0).2.1 h)).symm
  rw[aD h];exact(aD λe=>h ((H a 0 0).2.2 e)).symm
 rw[<-e];rcases m with rfl|rfl|rfl|rfl
 .have h:=rv (.inr f) f.len U KP pU qc qo pY λa b c=>(H a b c).1;rw[j]at h;exact h
 .have h:=rv (.inr f) f.len U Ko pU qc qo pY λa b c=>(H a b c).1;rw[j]at h;exact h
 .have h:=rv (.inr f) f.len U ME pU qc qo pY λa b c=>(H a b c).1;rw[j]at h;exact h
 have h:=rv (.inr f) f.len U Mx pU qc qo pY λa b c=>(H a b c).1;rw[j]at h;exact h
theorem afW{k:Int}{M:dm}(h:M.Pairwise wJ)(H:∀m∈M,m.k=k):M.Pairwise yA:=h.imp_of_mem λg f hl=>.inr ⟨by rw[H _ g,H _ f],hl⟩
theorem adF(y:ch F g)(v:m.k=3\/m.k=6\/m.k=8)(h:okB F g m){N:dm}(n:Mw F g m.k N):m∈N/\ ∃a b c:Nat,a<I g/\b<I g/\c<I g/\(m.k=8\/c=0)/\m=⟨m.k,a,b,c,false,false,0⟩:=by
 obtain⟨k,a,b,c,l,o,aP⟩:=m;obtain⟨q,P,H⟩:=GR h;have hp:=y.pos;simp only at q H n v |-;rcases v with rfl|rfl|rfl
 .obtain⟨A,B,j,r,rfl,rfl,rfl,rfl,rfl,rfl⟩:=(aak (.inl rfl)).1 q;have H:xQ F g A B=some P:=H;unfold xQ at H;split at H
  case isFalse=>cases H
  rename_i f;simp only[cq]at f;exact⟨acK j f.2.2.2.2 (n.2 (.inl rfl) A J) U,A,B,0,J,r,hp,.inr rfl,rfl⟩
 .obtain⟨A,B,j,r,rfl,rfl,rfl,rfl,rfl,rfl⟩:=(aak (.inr rfl)).1 q;have H:xk F g A B=some P:=H;unfold xk at H;split at H
  case isFalse=>cases H
  rename_i f;simp only[cq]at f;exact⟨acK j f.2.2.2.2.2 (n.2 (.inr (.inl rfl)) A J) U,A,B,0,J,r,hp,.inr rfl,rfl⟩
 obtain⟨A,B,u,j,x,D,rfl,rfl,rfl,rfl,rfl,rfl⟩:=afs.1 q;have H:uL F g A B u=some P:=H;unfold uL at H;split at H
 case isFalse=>cases H
 rename_i f;unfold Ch at f;simp only[cq]at f;exact⟨arA j x f.2.2.2.2.2 (n.2 (.inr (.inr rfl)) A J),A,B,u,J,J,D,.inl rfl,rfl⟩
theorem OG(q:ch F g)(X:I g<=40)(b_:Hh F g j){k:Int}(r:k=3\/k=6\/k=8):aC S 17 [dQ F g,aq k] (.one (bn fN 7 (bh ((j k).filter (okB F g))))):=by
 obtain⟨v,f⟩:=OU q X k;have z:=EV q;obtain⟨Q,L,cP⟩:=b_.three k r;have E:∀m∈j k,m.k=k:=λm B=>by obtain⟨a,_,T⟩:=Q m B;exact T.1
 have e:∀ {n:Nat},n=(if k=8 then I g else 1)->v_ (I g) (I g) n k v=(j k).filter (okB F g):=by
  intro n Z;refine Xx (R:=yA) (λx y=>abK) (YS ..) ((afW cP E).filter _) λm=>?_;rw[XZ,tx];constructor
  .rintro ⟨a,b,c,M,D,N,O,rfl⟩
   have A:=(f a b c).2.1 O;exact⟨(adF q (m:=⟨k,a,b,c,false,false,0⟩) r A L).1,A⟩
  rintro⟨B,A⟩
  have u:=E m B;obtain⟨_,a,b,c,M,D,N,H,e⟩:=adF q (m:=m) (by rw[u];exact r) A (by rw[u];exact L);rw[u]at e H;refine⟨a,b,c,M,D,?_,(f a b c).2.2 (by rw[<-e];exact A),e⟩;rw[Z];split
  .exact N
  rename_i h;rcases H with H|H
  .exact absurd H h
  omega
 rcases r with rfl|rfl|rfl
 .have h:=rv (.inr q) q.len U MJ zz z8 Ak zU λa b c=>(f a b c).1;rw[z]at h;rw[<-e (n:=1) rfl];exact h
 .have h:=rv (.inr q) q.len U MH zz z8 Ak zU λa b c=>(f a b c).1;rw[z]at h;rw[<-e (n:=1) rfl];exact h
 have h:=rv (.inr q) q.len U Jd y7 yL yr zb λa b c=>(f a b c).1;rw[z]at h;rw[<-e (n:=I g) rfl];exact h
theorem arP(k:Nat):(yo F g k).Pairwise λx y=>jS x y=true:=by
 refine apD (L:=λx y=>wa x y=true) (λx y h A=>?_) (λx y z f H=>?_) (λx y f H=>?_) _ (Wk _)
 .rw[uV]at h;rw[Hs];by_cases e:x.1=y.1/\x.2=y.2
  .exact absurd (zw e.1 e.2) A
  omega
 .rw[uV]at*;omega
 rw[uV]at*;exact zw J J
theorem abg:∀n:Nat,(nR F g n).Pairwise yA/\ ∀m∈nR F g n,m.k=2/\m.a<(n:Int)
 |0=>⟨List.Pairwise.nil,λm h=>by cases h⟩
 |n+1=>by
  obtain⟨r,H⟩:=abg n;rw[aaX];refine⟨Bv.2 ⟨r,?_,λx j y f=>?_⟩,λm q=>?_⟩
  .rw[Iv];refine(arP n).imp λ{x y} h=>?_;rw[Hs]at h;refine .inr ⟨rfl,.inr ⟨rfl,?_⟩⟩;unfold lZ G_;simp only[jC,cq,fH];exact h
  .obtain⟨z,_,rfl⟩:=eJ.1 f;obtain⟨E,u⟩:=H x j;exact .inr ⟨E,.inl u⟩
  rcases fB.1 q with h|h
  .have:=H m h;exact⟨this.1,J⟩
  obtain⟨z,_,rfl⟩:=eJ.1 h;exact⟨rfl,by show(n:Int)<_;omega⟩
theorem alz{k b c:Nat}(h:(b,c)∈(cK F g (2*k)).places\/(b,c)∈(cK F g (2*k+1)).places):((b:Int),(c:Int))∈yo F g k:=by
 unfold yo;rw[ad7,(Sq jS _).mem_iff];refine eJ.2 ⟨(b,c),?_,rfl⟩;rcases h with h|h
 .exact pR.2 ⟨0,aG,h⟩
 exact pR.2 ⟨1,aG,h⟩
theorem amD(z:ch F g)(L:I g<=40):aC S 17 [dQ F g,aq 2] (.one (bn fN 7 (bh ((nR F g (I g)).filter (okB F g))))):=by
 obtain⟨v,q⟩:=OU z L 2;have N:=EV z;have e:v_ (I g) (F+1) (I g+1) 2 v=(nR F g (I g)).filter (okB F g):=by
  refine Xx (R:=yA) (λx y=>abK) (YS ..) ((abg _).1.filter _) λm=>?_;rw[XZ,tx];constructor
  .rintro ⟨a,b,c,f,X,Z,E,rfl⟩
   have A:=(q a b c).2.1 E;obtain⟨_,M,H⟩:=GR A;refine⟨pR.2 ⟨a,f_.2 f,eJ.2 ⟨((b:Int),(c:Int)),alz ?_,rfl⟩⟩,A⟩;have H:rQ F g a b c=some M:=H;unfold rQ at H;by_cases D:(b,c)∈(cK F g (2*a)).places
   .exact .inl D
   rw[aD D]at H;by_cases r:(b,c)∈(cK F g (2*a+1)).places
   .exact .inr r
   rw[aD r]at H;cases H
  rintro⟨n,A⟩
  obtain⟨a,f,n⟩:=pR.1 n;have f:=f_.1 f;obtain⟨x,Y,rfl⟩:=eJ.1 n;obtain⟨j,_⟩:=GR A;have j:bV F g 2 a x.1 x.2 false false 0:=j;unfold bV at j;simp only[if_true,cq,fH]at j;obtain⟨_,_,_,_,B,Q,u,O⟩:=j;have T:=ld (rn x.1.toNat) g;refine⟨a,x.1.toNat,x.2.toNat,f,J,?_,(q _ _ _).2.2 ?_,?_⟩
  .simp only[dY]at O;omega
  .rw[D0 B,D0 u];exact A
  rw[D0 B,D0 u];rfl
 rw[<-e];have h:=DC (.inr z) z.len z.fing (g:=true) U KI y7 yL (q:=jz 2 v) (λa b c=>Ox yr zb (q a b c).1) (λa b c=>by unfold jz;split<;>simp);rw[N]at h;exact h
theorem apx(m:ch F g)(q:I g<=40):aC S 17 [dQ F g,aq 5] (.one (bn fN 7 (bh ((mL (I g)).filter (okB F g))))):=by
 obtain⟨v,H⟩:=WZ m q 5;have r:=EV m;have e:Br (I g) 1 1 (λa b c=>lY 5 a b c (v a b c) true)=(mL (I g)).filter (okB F g):=by
  rw[mL,NR];refine ML λa _=>?_;have E:xj 1 1 (λa b c=>lY 5 a b c (v a b c) true) a=lY 5 a 0 0 (v a 0 0) true:=by simp[xj,uj]
  rw[E];have n:∀(o:Bool) (s:Int),v a 0 0 true o s≠0:=λo s h=>by have j:=(GR ((H a 0 0 true o s).2.1 h)).1;have j:bV F g 5 a 0 0 true o s:=j;unfold bV at j;simp at j
  have x:(List.range 4).map (CJ a)=[⟨5,a,0,0,false,false,-1⟩,⟨5,a,0,0,false,false,1⟩,⟨5,a,0,0,false,true,-1⟩,⟨5,a,0,0,false,true,1⟩]:=rfl;have u:lY 5 a 0 0 (v a 0 0) true=(fF 5 a 0 0 (v a 0 0) false false (-1)++fF 5 a 0 0 (v a 0 0) false false 1++(fF 5 a 0 0 (v a 0 0) false true (-1)++fF 5 a 0 0 (v a 0 0) false true 1)):=by have z:∀(o:Bool) (s:Int),fF 5 a 0 0 (v a 0 0) true o s=[]:=λo s=>aD (n o s);show((fF 5 a 0 0 (v a 0 0) false false (-1)++(fF 5 a 0 0 (v a 0 0) false false 1++[]))++((fF 5 a 0 0 (v a 0 0) false true (-1)++(fF 5 a 0 0 (v a 0 0) false true 1++[]))++[]))++(((fF 5 a 0 0 (v a 0 0) true false (-1)++(fF 5 a 0 0 (v a 0 0) true false 1++[]))++((fF 5 a 0 0 (v a 0 0) true true (-1)++(fF 5 a 0 0 (v a 0 0) true true 1++[]))++[]))++[])=_;simp only[z,jE,tz]
  have f:∀(o:Bool) (s:Int),fF 5 a 0 0 (v a 0 0) false o s=if okB F g ⟨5,a,0,0,false,o,s⟩then [⟨5,a,0,0,false,o,s⟩]else []:=λo s=>by
   unfold fF;by_cases h:v a 0 0 false o s=0
   .rw[aM h];exact(aM ((H a 0 0 false o s).2.1 h)).symm
   rw[aD h];exact(aD λe=>h ((H a 0 0 false o s).2.2 e)).symm
  rw[u,x,f,f,f,f];simp only[KD,Nt];cases okB F g ⟨5,a,0,0,false,false,-1⟩<;>cases okB F g ⟨5,a,0,0,false,false,1⟩<;>cases okB F g ⟨5,a,0,0,false,true,-1⟩<;>cases okB F g ⟨5,a,0,0,false,true,1⟩<;>rfl
 rw[<-e];have h:=DC (.inr m) m.len m.fing (g:=false) U Nv L_ LI (q:=λa b c=>lY 5 a b c (v a b c) true) (λa b c=>KO (j:=false) (m:=true) rfl MB Jp Lu λl o s=>(H a b c l o s).1) (λa b c=>IN ..);rw[r]at h;exact h
theorem ard(m:ch F g)(r:I g<=40):aC S 17 [dQ F g,aq 7] (.one (bn fN 7 (bh ((qA (I g) (I g)).filter (okB F g))))):=by
 obtain⟨v,j⟩:=WZ m r 7;have u:=EV m;have e:Br (I g) (I g) 1 (λa b c=>lY 7 a b c (v a b c) false)=(qA (I g) (I g)).filter (okB F g):=by
  rw[qA,NR];refine ML λa _=>?_;rw[uA,NR];refine ML λb _=>?_;have E:uj 1 (λa b c=>lY 7 a b c (v a b c) false) a b=lY 7 a b 0 (v a b 0) false:=by simp[uj]
  rw[E];have x:lY 7 a b 0 (v a b 0) false=(fF 7 a b 0 (v a b 0) false false 0++fF 7 a b 0 (v a b 0) false true 0)++(fF 7 a b 0 (v a b 0) true false 0++fF 7 a b 0 (v a b 0) true true 0):=by show((fF 7 a b 0 (v a b 0) false false 0++[])++((fF 7 a b 0 (v a b 0) false true 0++[])++[]))++(((fF 7 a b 0 (v a b 0) true false 0++[])++((fF 7 a b 0 (v a b 0) true true 0++[])++[]))++[])=_;simp only[jE]
  have f:∀(l o:Bool),fF 7 a b 0 (v a b 0) l o 0=if okB F g ⟨7,a,b,0,l,o,0⟩then [⟨7,a,b,0,l,o,0⟩]else []:=λl o=>by
   unfold fF;by_cases h:v a b 0 l o 0=0
   .rw[aM h];exact(aM ((j a b 0 l o 0).2.1 h)).symm
   rw[aD h];exact(aD λe=>h ((j a b 0 l o 0).2.2 e)).symm
  rw[x,f,f,f,f];unfold rD;by_cases q:b=a
  .subst q;rw[aM rfl];have n:∀l o:Bool,okB F g ⟨7,b,b,0,l,o,0⟩=false:=λl o=>by
    cases h:okB F g ⟨7,b,b,0,l,o,0⟩with
    |false=>rfl
    |true=>have H:=(GR h).1;have H:bV F g 7 b b 0 l o 0:=H;unfold bV at H;simp at H
   rw[n,n,n,n];rfl
  rw[aD q];have y:(List.range 4).map (L7 a b)=[⟨7,a,b,0,false,false,0⟩,⟨7,a,b,0,false,true,0⟩,⟨7,a,b,0,true,false,0⟩,⟨7,a,b,0,true,true,0⟩]:=rfl;rw[y];simp only[KD,Nt];cases okB F g ⟨7,a,b,0,false,false,0⟩<;>cases okB F g ⟨7,a,b,0,false,true,0⟩<;>cases okB F g ⟨7,a,b,0,true,false,0⟩<;>cases okB F g ⟨7,a,b,0,true,true,0⟩<;>rfl
 rw[<-e];have h:=DC (.inr m) m.len m.fing (g:=false) U It JZ KF (q:=λa b c=>lY 7 a b c (v a b c) false) (λa b c=>KO (j:=true) (m:=true) rfl JN Me LB λl o s=>(j a b c l o s).1) (λa b c=>IN ..);rw[u]at h;exact h
theorem arE(m:ch F g)(f:I g<=40)(b_:Hh F g j){k:Nat}(H:k<10):aC S 17 [dQ F g,aq ((k+1:Nat):Int)] (.one (bn fN 7 (bh ((j ((k+1:Nat):Int)).filter (okB F g))))):=by
 rcases k with _|_|_|_|_|_|_|_|_|_|k
 .have h:=Kr m f (k:=1) U;rw[<-b_.one 1 U]at h;exact h
 .have h:=amD m f;rw[<-b_.two]at h;exact h
 .exact OG m f b_ (k:=3) U
 .have h:=Kr m f (k:=4) U;rw[<-b_.one 4 U]at h;exact h
 .have h:=apx m f;rw[<-b_.five]at h;exact h
 .exact OG m f b_ (k:=6) U
 .have h:=ard m f;rw[<-b_.seven]at h;exact h
 .exact OG m f b_ (k:=8) U
 .have h:=Kr m f (k:=9) U;rw[<-b_.one 9 U]at h;exact h
 .have h:=Kr m f (k:=10) U;rw[<-b_.one 10 U]at h;exact h
 omega
end
theorem akN:aC S 16 [] (.one (.own 35 1 (aS (kinds 10)))):=by refine bG ahM ?_;simp only[go_sem,WR];first|done|rfl|(simp[kinds,j0];done)|trace_state
theorem aj0{k:Nat}(h:k<10):(aS (kinds 10))[k]?=some [.int .i64 ((k+1:Nat):Int)]:=by simp[kinds,h]
section
variable {f:Int} {g:aI}
theorem akl{out:Nat->dm}(v:∀k,k<10->aC S 17 [dQ f g,aq ((k+1:Nat):Int)] (.one (bn fN 7 (bh (out k)))))(H:∀k,k<10->I (out k)<=200000000):aC S 8 [dQ f g] (.one (bn fN 7 (bh ((List.range 10).flatMap out)))):=by
 have R:S.lone 512128000:=ah;have pG:S.lone 512384384:=ah;have M:I (aS (kinds 10))=10:=by simp[kinds]
 suffices h:∃r,r=.one (bn fN 7 (bh ((List.range 10).flatMap out)))/\aC S 8 [dQ f g] r by obtain⟨r,rfl,O⟩:=h;exact O
 refine vm rfl zr (gU rfl) ?_;have L:∀(blk:aB),d_ blk [] 512128000 ((RV.one (.own 35 1 (aS (kinds 10)))).eU (S.lone 512128000))=some (.one (.p (.sl (aS (kinds 10)))),[]):=λblk=>by rw[R];rfl
 simp only[go_sem,VA,apS,bl akN (L _)];refine cD (λk A blk=>A 1=.one (.bg 512000000 1 0)/\A 4=.one (.p (.sl (aS (kinds 10))))/\A 5=aq k/\blk 512000000=(1,some (.var (mw f g)))/\ ∃c,A 3=.one c/\I ((List.range k).flatMap out)<=200000000*k/\aW 512384448 fN 7 (bh ((List.range k).flatMap out)) (.one c) blk) 0 10 (bC _) ?_ ?_
 .simp only[go_sem];first|exact⟨rfl,rfl,rfl,rfl,.p .nils,rfl,aG,aW.nil⟩|exact⟨.p .nils,rfl,aG,aW.nil⟩|exact⟨rfl,.p .nils,rfl,aG,aW.nil⟩
 rintro k A blk hk ⟨F,x,q,y,c,E,hl,z⟩
 by_cases j:k<10
 .have T:((k:Int)<((10:Nat):Int)):=J;have Y:((k:Int)<10):=J;have N:=bJ (n:=k) J;have D:=qW out k;have pk:=v k j;have ay:=H k j;have u:=aj0 j;have m:=WO (out k);have kE:I (bh (out k))=I (out k):=j4 _;generalize(List.range k).flatMap out=ea at*;generalize out k=Z at*;simp only[go_sem,Ti,F,E,x,q,y,j,T,Y,M,u,apc,fT pk (Gw pG)];refine tB (q:=512384448) (id:=512384448) (j:=bh ea) (A:=bh Z) (rd:=[]) (z.of_eq rfl) (Oz _) (.inr m) (by rw[j4,j4];omega) λQ gh r1 u1 g1 fX X=>?_;have B:=fX 512000000 U U;rw[y]at B;simp only[go_sem,F,x,q,B,N,j];refine⟨?_,?_⟩
  .rcases X with⟨rfl,rfl⟩|⟨rfl,rfl⟩|⟨rfl,rfl⟩<;>exact aw
  exact⟨Q,rfl,by rw[D,ep];omega,by rw[D,EB];exact g1⟩
 have:k=10:=J;subst this;have hn:¬(((10:Nat):Int)<10):=U;simp only[go_sem,Ti,Y9,F,E,x,q,M,hn,dF];exact⟨_,rfl,nV z⟩
end
def xu(F:Nat):dm:=(List.range (F+1)).map λi=>⟨2,0,(i:Nat),0,false,false,0⟩
theorem aef(F:Nat):bh (xu F)=yy (F+1):=by rw[bh,xu,u9];rfl
theorem ac8(F:Nat):I (xu F)=F+1:=by simp[xu]
def yu(F:Nat)(k:Int):dm:=if k=2 then xu F else []
theorem LV(F:Nat):yu F 2=xu F:=aM rfl
theorem sv{k:Int}(h:k≠2):yu F k=[]:=aD h
section
variable {F:Nat}
theorem aeS(v:F<=40){f:cS}{g:PV}(r:g.norm=.sl (dz f))(n:I f<=1000000):∃q,aC S 19 [.one (.p (df F [])),.one (.p g)] (.tup [.one (bn fx 7 (bh (oL (λ_=>true) (yu F) f 10))),.one (bn z7 2 q)]):=by
 refine ac1 (λk j m H=>?_) (λk j=>?_) r n
 .by_cases h:((k+1:Nat):Int)=2
  .rw[h,LV]at H;obtain⟨i,u,rfl⟩:=eJ.1 H;exact .inr ⟨MA i,rfl,aiO (by have:=f_.1 u;omega)⟩
  rw[sv h]at H;cases H
 by_cases h:((k+1:Nat):Int)=2
 .rw[h,LV];exact⟨by rw[ac8];omega,by rw[aef];exact arL v⟩
 rw[sv h];exact⟨bC _,aq8 (by simpa using h)⟩
theorem WV(k a b c:Int)(l o:Bool)(aP:Int):∃v,aC S 59 [eQ F [],dp k a b c l o aP] (fy v)/\(v=0↔bV F [] k a b c l o aP=true):=by
 have pw:=OA (F:=F) (f:=[]) (bC _) k a b c l o aP;cases H:bV F [] k a b c l o aP with
 |false=>rw[H]at pw;refine⟨_,JV (f:=[]) (p:=false) (bC _) pw (λh=>by cases h),?_⟩;unfold D1;simp
 |true=>rw[H]at pw;obtain⟨B,rfl,rfl,rfl,f,rfl,rfl,rfl,rfl⟩:=UN H;refine⟨_,JV (f:=[]) (bC _) pw λ_=>ajy,?_⟩;exact⟨λ_=>rfl,λ_=>by unfold D1 AI;simp[aF]⟩
theorem Mc(k:Int):∃v:Nat->Nat->Nat->Bool->Bool->Int->Int,∀(a b c:Nat) (l o:Bool) (s:Int),aC S 59 [eQ F [],dp k a b c l o s] (fy (v a b c l o s))/\(v a b c l o s=0↔bV F [] k a b c l o s=true):=
 ⟨λa b c l o s=>Classical.choose (WV k a b c l o s),λa b c l o s=>Classical.choose_spec (WV k a b c l o s)⟩
theorem Ug{k a b c:Int}{l o:Bool}{aP:Int}(h:k≠2):bV F [] k a b c l o aP≠true:=λH=>h (UN H).choose_spec.1
theorem AK{k:Int}(f:k=1\/k=3\/k=4\/k=6\/k=8\/k=9\/k=10):aC S 17 [dQ F [],aq k] (.one (bn fN 7 (bh []))):=by
 obtain⟨v,H⟩:=Mc (F:=F) k;have g:k≠2:=J;have e:∀a b c:Nat,jz k (λa b c=>v a b c false false 0) a b c=[]:=λa b c=>aD λh=>Ug g ((H a b c false false 0).2.1 h);have E:v_ 1 1 1 k (λa b c=>v a b c false false 0)=[]:=by show((jz k _ 0 0 0++[])++[])++[]=[];rw[e];rfl
 rw[<-E];rcases f with rfl|rfl|rfl|rfl|rfl|rfl|rfl
 .exact rv (.inl rfl) (bC _) U KP pU qc qo pY λa b c=>(H a b c false false 0).1
 .exact rv (.inl rfl) (bC _) U MJ zz z8 Ak zU λa b c=>(H a b c false false 0).1
 .exact rv (.inl rfl) (bC _) U Ko pU qc qo pY λa b c=>(H a b c false false 0).1
 .exact rv (.inl rfl) (bC _) U MH zz z8 Ak zU λa b c=>(H a b c false false 0).1
 .exact rv (.inl rfl) (bC _) U Jd y7 yL yr zb λa b c=>(H a b c false false 0).1
 .exact rv (.inl rfl) (bC _) U ME pU qc qo pY λa b c=>(H a b c false false 0).1
 exact rv (.inl rfl) (bC _) U Mx pU qc qo pY λa b c=>(H a b c false false 0).1
theorem X8{k:Int}{a b c:Nat}{v:Bool->Bool->Int->Int}{p:Bool}(h:∀l o s,v l o s≠0):lY k a b c v p=[]:=by unfold lY s3 qw fF;simp[h]
theorem Vr(f:F<=40):aC S 17 [dQ F [],aq 5] (.one (bn fN 7 (bh [])))/\aC S 17 [dQ F [],aq 7] (.one (bn fN 7 (bh []))):=by
 constructor
 .obtain⟨v,H⟩:=Mc (F:=F) 5;have e:Br 1 1 1 (λa b c=>lY 5 a b c (v a b c) true)=[]:=by
   show((lY 5 0 0 0 (v 0 0 0) true++[])++[])++[]=[];rw[X8 λl o s h=>Ug U ((H 0 0 0 l o s).2.1 h)];rfl
  have h:=DC (F:=F) (f:=[]) (.inl rfl) (bC _) f (g:=false) U Nv L_ LI (q:=λa b c=>lY 5 a b c (v a b c) true) (λa b c=>KO (j:=false) (m:=true) rfl MB Jp Lu λl o s=>(H a b c l o s).1) (λa b c=>IN ..);rw[<-e];exact h
 obtain⟨v,H⟩:=Mc (F:=F) 7;have e:Br 1 1 1 (λa b c=>lY 7 a b c (v a b c) false)=[]:=by show((lY 7 0 0 0 (v 0 0 0) false++[])++[])++[]=[];rw[X8 λl o s h=>Ug U ((H 0 0 0 l o s).2.1 h)];rfl
 have h:=DC (F:=F) (f:=[]) (.inl rfl) (bC _) f (g:=false) U It JZ KF (q:=λa b c=>lY 7 a b c (v a b c) false) (λa b c=>KO (j:=true) (m:=true) rfl JN Me LB λl o s=>(H a b c l o s).1) (λa b c=>IN ..);rw[<-e];exact h
theorem adX{b c:Nat}(H:b<=F):bV F [] 2 (0:Nat) b c false false 0↔c=0:=by
 constructor
 .intro h;obtain⟨B,_,_,_,_,f,_⟩:=UN h;omega
 rintro rfl
 unfold bV;simp[gW,dY,aF];omega
theorem ar3(q:F<=40):aC S 17 [dQ F [],aq 2] (.one (bn fN 7 (bh (xu F)))):=by
 obtain⟨v,H⟩:=Mc (F:=F) 2;have e:Br 1 (F+1) 2 (jz 2 λa b c=>v a b c false false 0)=xu F:=by
  show(xj (F+1) 2 _ 0++[])=_;rw[jE];have h:=Sj (f:=λi:Nat=>(⟨2,0,(i:Nat),0,false,false,0⟩:db)) (p:=λ_=>true) (g:=uj 2 (jz 2 λa b c=>v a b c false false 0) 0) (l:=List.range (F+1)) λb j=>by have j:=f_.1 j;show(jz 2 _ 0 b 0++(jz 2 _ 0 b 1++[]))=_;have n:v 0 b 0 false false 0=0:=(H 0 b 0 false false 0).2.2 ((adX J).2 rfl);have m:¬v 0 b 1 false false 0=0:=λh=>absurd ((adX J).1 ((H 0 b 1 false false 0).2.1 h)) U;unfold jz;rw[aM n,aD m];rfl
  exact h.trans (by simp[xu])
 have h:=DC (F:=F) (f:=[]) (.inl rfl) (bC _) q (g:=true) U KI y7 yL (q:=jz 2 λa b c=>v a b c false false 0) (λa b c=>Ox yr zb (H a b c false false 0).1) (λa b c=>by unfold jz;split<;>simp);rw[<-e];exact h
theorem ahq(h:F<=40){k:Nat}(H:k<10):aC S 17 [dQ F [],aq ((k+1:Nat):Int)] (.one (bn fN 7 (bh (yu F ((k+1:Nat):Int))))):=by
 rcases k with _|_|_|_|_|_|_|_|_|_|k
 .rw[sv U];exact AK (k:=1) U
 .exact ar3 h
 .rw[sv U];exact AK (k:=3) U
 .rw[sv U];exact AK (k:=4) U
 .rw[sv U];exact(Vr h).1
 .rw[sv U];exact AK (k:=6) U
 .rw[sv U];exact(Vr h).2
 .rw[sv U];exact AK (k:=8) U
 .rw[sv U];exact AK (k:=9) U
 .rw[sv U];exact AK (k:=10) U
 omega
end
theorem arI{f:Int}{g:aI}{n:Int}(j:n<=1000000):aC S 4 [dQ f g,aq n] (bK (decide ((I g:Int)<=n)&&(kM f g==0))):=by
 by_cases h:(I g:Int)<=n
 .have pc:=asd f g J;have H:decide ((I g:Int)<=n)=true:=sN h;rw[H];generalize kM f g=e at*;refine bG fv ?_;simp only[go_sem,i4,H,h,agW,dj pc,bne,ae,ao];all_goals(first|done|exact aw|exact⟨aw,rfl⟩|rfl)
 have H:decide ((I g:Int)<=n)=false:=r3 h;rw[H];refine bG fv ?_;simp only[go_sem,i4,H,h,bne,ae,ao];all_goals(first|done|exact aw|exact⟨aw,rfl⟩|rfl)
theorem JS(p:dm)(hp:I p<=4000000000):aC S 7 [.one (.p (Kp p)),.one (.p (Kp p))] (bK true):=by
 refine bG uX ?_;have h:((I p:Int)!=(I p:Int))=false:=aG;simp only[go_sem,abQ,h];refine cD (λk A blk=>A 0=.one (.p (Kp p))/\A 1=.one (.p (Kp p))/\A 5=aq k) 0 (I p) (bC _) ⟨rfl,rfl,rfl⟩ ?_;rintro k A blk v ⟨g,H,f⟩
 by_cases j:k<I p
 .have q:((k:Int)<(I p:Int)):=J;obtain⟨m,u⟩:=bq j;have B:=Et u;have r:=bJ (n:=k) J;simp only[go_sem,R4,g,H,f,j,q,B,db.ps,r,k_,kV];first|done|exact aw|exact⟨aw,rfl⟩
 have:k=I p:=J;subst this;simp only[go_sem,R4,acv,g,H,f,dF];first|done|rfl
theorem aaD{blk:aB}{s:Nat}{E:dC}(L:S.lone s):d_ blk [] s ((RV.tup [.one (bn n z E),.one (.p x)]).eU (S.lone s))=some (.tup [.one (.p (nJ E)),.one (.p x)],[]):=by
 rw[L];unfold bn nJ;by_cases h:E=[]
 .rw[aM h,aM h];rfl
 rw[aD h,aD h];rfl
theorem Ke{blk:aB}{rd:aA}{s:Nat}(L:S.lone s)(H:x.scalar):d_ blk rd s ((RV.tup [.one (bn n z []),.one (.p x)]).eU (S.lone s))=some (.tup [.one (.p .nils),.one (.p x)],[]):=by
 rw[L];have h:(RV.tup [.one (.p .nils),.one (.p x)]).alone:=by show(true&&(x.scalar&&true))=true;rw[H];rfl
 show d_ blk rd s (RV.tup [.one (.p .nils),.one (.p x)])=_;unfold d_;rw[aM (.inr h)];rfl
theorem akI{blk:aB}{id g T Z s:Nat}{E r:dC}(L:S.lone s)(j:blk id=(g,some (.arr T Z r)))(H:E≠[]):d_ blk [id] s ((RV.tup [.one (bn n z E),.one (.p x)]).eU (S.lone s))=some (.tup [.one (.p (.sl E)),.one (.p x)],[(id,(g,some (.lW T Z r)))]):=by
 rw[L];unfold bn;rw[aD H];show d_ blk [id] s (RV.tup [.one (.p (.sl E)),.one (.p x)])=_;have f:(RV.tup [.one (.p (.sl E)),.one (.p x)]).alone=false:=rfl;unfold d_;rw[aD (by rw[f];simp)];have h:oa blk [id]=some [(id,(g,some (.lW T Z r)))]:=by unfold oa pT sR;rw[j];rfl
 rw[h];rfl
theorem aeR{blk:aB}{rd:aA}{s:Nat}{b l:Bool}:d_ blk rd s ((bK b).eU l)=some (.one (.p (.bool b)),[]):=by
 cases l;all_goals
  show d_ blk rd s (bK b)=_;unfold d_;rw[aM (.inr rfl)];rfl
theorem aq1{k:Nat}{x z:Int}(H:h[k]?=some x):decide (z∈h.take (k+1))=(decide (z∈h.take k)||(x==z)):=by rw[tw H,kS,jC,decide_eq_true_iff,decide_eq_true_iff,fB,pA,c6];exact or_congr Iff.rfl eq_comm
theorem aru(h:cS)(z:Int):h.contains z=decide (z∈h):=by rw[kS,List.contains_iff_mem,decide_eq_true_iff]
section
variable {f:Int} {g:aI}
theorem amR(j:aC S 5 [] (.one (.p (.bool true))))(H:aC S 4 [dQ f g,aq 14] (bK false)):aC S 3 [dQ f g,.one (.p (.sl (dz h)))] (bK true):=by have v:S.shared 5=false:=ah;refine bG cP ?_;simp only[go_sem,i3,xU,ai H,v,ai j,ae,ao]
theorem aiC(m:aC S 5 [] (.one (.p (.bool true))))(H:aC S 4 [dQ f g,aq 14] (bK true))(hl:20<I h):aC S 3 [dQ f g,.one (.p (.sl (dz h)))] (bK true):=by have v:S.shared 5=false:=ah;have q:((20:Int)<(I h:Int)):=J;have j:I (dz h)=I h:=aG;refine bG cP ?_;simp only[go_sem,i3,xU,ai H,j,q,v,ai m,ae,ao];first|done|rfl|trace_state
def mS(h:cS)(L:dm)(i:Nat):dm:=(L.take i).filter λm=>h.contains m.k
theorem apV{i:Nat}(H:L[i]?=some m):mS h L (i+1)=mS h L i++if decide (m.k∈h)then [m]else []:=by rw[mS,tw H,Oi,KD,Nt,aru];rfl
theorem aaT(h:cS)(L:dm)(i:Nat):I (mS h L i)<=I L:=jO (Ge _ _) (by rw[iU];omega)
theorem Ky{x:dC}(h:x≠[]):nJ x=.sl x:=aD h
abbrev R2:Nat:=35
abbrev VI:Nat:=37
theorem ar6(hk:aC S 5 [] (.one (.p (.bool true))))(aY:h≠[])(ad:aC S 4 [dQ f g,aq 14] (bK true))(hl:I h<=20)(hL:I L<=4000000000)
  (aQ:aC S 6 [dQ f g] (.tup [.one (bn fx 7 (bh L)),.one (.p (.int .i64 0))])) (pD:aC S 8 [dQ f g] (.one (bn fN 7 (bh L))))
  (pS:aC S 9 [dQ f g,.one (.p (.sl (dz h)))] (.tup [.one (bn fx 7 (bh (mS h L (I L)))),.one (.p (.int .i64 0))])):aC S 3 [dQ f g,.one (.p (.sl (dz h)))] (bK true):=by
 have vg:S.shared 5=false:=ah;have qT:¬((20:Int)<(I h:Int)):=J;have Z:I (dz h)=I h:=aG;have X:I (bh L)=I L:=j4 L;have nW:S.lone 192192064:=ah;have pG:S.lone 192256320:=ah;have yp:S.lone 193408128:=ah;have ag:=JS L hL;have jI:=aaT h L (I L);have JH:=JS (mS h L (I L)) J;have eK:List.take (I h) (dz h)=dz h:=eW J;refine bG cP ?_;simp only[go_sem,i3,xU,ai ad,Z,qT,adn,bl aQ (aaD nW),WK,Xp,bl pD (Gw pG),As,ai ag]
 refine cD (λk A blk=>A 1=.one (.p (.sl (dz h)))/\A 2=.one (.bg 192000000 1 0)/\A 5=.one (.p (nJ (bh L)))/\A 7=.one (.p .nils)/\A 9=aq k/\blk 192000000=(1,some (.var (mw f g)))/\ ∃c,A 8=.one c/\aW 192704384 R2 1 (dz (h.take k)) (.one c) blk) 0 (I h) (bC _) ?_ ?_
 .simp only[go_sem];first|exact⟨rfl,rfl,rfl,rfl,rfl,rfl,.p .nils,rfl,aW.nil⟩|exact⟨rfl,.p .nils,rfl,aW.nil⟩|exact⟨.p .nils,rfl,aW.nil⟩|trace_state
 rintro k A blk py ⟨f1,r,j,v,f9,B,c,u,gm⟩
 by_cases au:k<I h
 .have aL:((k:Int)<(I h:Int)):=J;have w1:=bJ (n:=k) J;obtain⟨x,hx⟩:=bq (h:=h) (k:=k) au;have kY:=sQ hx;simp only[go_sem,MY,f1,r,j,v,u,f9,au,aL,Z,kY];refine iR (id:=192704384) (q:=192704384) (j:=dz (h.take k)) (A:=[[.int .i64 x]]) (gm.of_eq (by simp only[bj,Nat.reduceEqDiff,if_false])) (by simp only[eO,bj,if_true];rfl) (.inl rfl) (by simp;omega) λc2 ak g1 hb=>?_;have vL:=(hb 192000000 U U).trans (by simp only[bj,Nat.reduceEqDiff,if_false];exact B);simp only[go_sem,f1,r,j,v,f9,w1,au];exact⟨vL,c2,rfl,by rw[tw hx,dz,q_];exact g1⟩
 have:k=I h:=J;subst this;rw[iV]at gm;rcases gm with⟨he,O⟩|⟨an,g9,O,H⟩
 .exact absurd (by simpa using he) aY
 cases O;rw[Z]at u;simp only[go_sem,MY,SE,f1,r,j,v,u,f9,Z,dF];refine cD (λi A blk=>A 2=.one (.bg 192000000 1 0)/\A 5=.one (.p (nJ (bh L)))/\A 8=.one (.hsl 192704384 g9 1 0 (I h))/\A 10=aq i/\blk 192000000=(1,some (.var (mw f g)))/\blk 192704384=(g9,some (.arr R2 1 (dz h)))/\ ∃Y,A 7=.one Y/\aW 193344384 VI 7 (bh (mS h L i)) (.one Y) blk) 0 (I L) (bC _) ?_ ?_
 .simp only[go_sem,r,j,v,u];first|exact⟨rfl,B,H,.p .nils,rfl,aW.nil⟩|exact⟨rfl,rfl,rfl,rfl,B,H,.p .nils,rfl,aW.nil⟩
 clear f1 r j v u f9 B H;rintro i A blk hi ⟨r,j,u,F,B,H,Y,v,y⟩
 by_cases T:i<I L
 .have nN:((i:Int)<(I L:Int)):=J;have w2:=bJ (n:=i) J;obtain⟨m,hm⟩:=bq T;have ab:=Et hm;have N:nJ (bh L)=.sl (bh L):=Ky λe=>by rw[<-X,e]at T;simp at T
  have M:=j;rw[N]at M;simp only[go_sem,yV,r,M,v,u,F,nN,X];refine cD (λk A blk=>A 2=.one (.bg 192000000 1 0)/\A 5=.one (.p (nJ (bh L)))/\A 7=.one Y/\A 8=.one (.hsl 192704384 g9 1 0 (I h))/\A 10=aq i/\A 11=kN (decide (m.k∈h.take k))/\A 12=aq k/\blk 192000000=(1,some (.var (mw f g)))/\blk 192704384=(g9,some (.arr R2 1 (dz h)))/\aW 193344384 VI 7 (bh (mS h L i)) (.one Y) blk) 0 (I h) (bC _) ?_ ?_
  .simp only[go_sem,r,M,v,u,F,N];first|exact⟨B,H,y⟩|exact⟨rfl,B,H,y⟩
  clear r j M v u F B H y;rintro k A blk py ⟨r,j,v,u,F,q,E,B,H,y⟩
  rw[N]at j;by_cases dq:k<I h
  .have YC:((k:Int)<(I h:Int)):=J;have w3:=bJ (n:=k) J;obtain⟨x,hx⟩:=bq (h:=h) (k:=k) dq;have kY:=sQ hx;have ik:=aq1 (z:=m.k) hx;cases Q:decide (m.k∈h.take k)with
   |true=>rw[Q]at q ik;simp only[go_sem,Du,r,j,v,u,F,q,E,dq,YC,w3];exact⟨aw,by rw[N],by rw[ik];rfl,B,H,y⟩
   |false=>rw[Q]at q ik;simp only[go_sem,Du,r,j,v,u,F,q,E,dq,YC,T,nN,X,Z,H,kY,ab,db.ps,w3];exact⟨aw,by rw[N],by rw[ik];rfl,B,y⟩
  have:k=I h:=J;subst this;rw[iV]at q;have D:=apV (h:=h) hm;have nj:=aaT h L i;cases Q:decide (m.k∈h)with
  |true=>rw[Q]at q;rw[Q,aM rfl]at D;simp only[go_sem,Du,MW,r,j,v,u,F,q,E,dF,T,nN,X,ab,db.ps];refine iR (id:=193344384) (q:=193344384) (j:=bh (mS h L i)) (A:=[db.ps m]) (y.of_eq (by simp only[bj,Nat.reduceEqDiff,if_false])) (by simp only[eO,bj,if_true];rfl) (.inl rfl) (by rw[j4];simp only[dE,eR];omega) λc2 ak g1 hb=>?_;have vL:=(hb 192000000 U U).trans (by simp only[bj,Nat.reduceEqDiff,if_false];exact B);have am:=(hb 192704384 U U).trans (by simp only[bj,Nat.reduceEqDiff,if_false];exact H);simp only[go_sem,L2,r,j,u,F,w2,T,N];first|exact⟨vL,am,c2,rfl,by rw[D,EB];exact g1⟩
  |false=>rw[Q]at q;rw[Q,aD U,jE]at D;simp only[go_sem,Du,MW,L2,r,j,v,u,F,q,E,dF,w2,T,N];first|exact⟨B,H,Y,rfl,by rw[D];exact y⟩
 have:i=I L:=J;subst this;have z0:¬(((0:Nat):Int)<((0:Nat):Int)):=U;have z1:¬((0:Int)<((0:Nat):Int)):=U;by_cases AX:L=[]
 .have Db:nJ (bh L)=.nils:=by rw[AX];exact aM rfl
  have mF:I L=0:=by rw[AX];rfl
  have R:mS h L (I L)=[]:=by rw[AX];rfl
  rw[Db]at j;rw[R]at JH pS y;rcases y with⟨he,O⟩|⟨S1,_⟩
  case inr=>exact absurd rfl S1
  cases O;rw[mF]at F;have Gc:aC S 7 [.one (.p (.sl [])),.one (.p (.sl []))] (bK true):=JH;simp only[go_sem,yV,Cw,r,j,v,u,F,mF,z0,z1,B,H,eK,Dw,bl pS (Ke yp rfl),As,ai Gc,vg,ai hk];first|done|rfl
 have N:nJ (bh L)=.sl (bh L):=Ky λe=>AX (by simpa [bh]using e);rw[N]at j;rcases y with⟨he,O⟩|⟨S1,g8,O,hW⟩
 .cases O;have R:mS h L (I L)=[]:=by simpa [bh]using he
  rw[R]at JH pS;have Gc:aC S 7 [.one (.p (.sl [])),.one (.p (.sl []))] (bK true):=JH;simp only[go_sem,yV,Cw,r,j,v,u,F,X,dF,B,H,eK,Dw,bl pS (Ke yp rfl),As,ai Gc,vg,ai hk];first|done|rfl
 cases O;have ap:I (bh (mS h L (I L)))=I (mS h L (I L)):=j4 _;have FC:List.take (I (mS h L (I L))) (bh (mS h L (I L)))=bh (mS h L (I L)):=eW J;simp only[go_sem,yV,Cw,r,j,v,u,F,X,dF,B,H,hW,eK,FC,Dw,bl pS (akI yp H S1),As,bl JH aeR,vg,ai hk];first|done|rfl
theorem aqW(N:aC S 5 [] (.one (.p (.bool true))))(H:aC S 4 [dQ f g,aq 14] (bK true))(hL:I L<=4000000000)
  (aQ:aC S 6 [dQ f g] (.tup [.one (bn fx 7 (bh L)),.one (.p (.int .i64 0))])) (pD:aC S 8 [dQ f g] (.one (bn fN 7 (bh L))))
  (v:aC S 9 [dQ f g,.one (.p (.sl []))] (.tup [.one (bn fx 7 []),.one (.p (.int .i64 0))])):aC S 3 [dQ f g,.one (.p (.sl []))] (bK true):=by
 have Q:S.shared 5=false:=ah;have qT:¬((20:Int)<((0:Nat):Int)):=U;have x:I (bh L)=I L:=j4 L;have Y:S.lone 192192064:=ah;have R:S.lone 192256320:=ah;have y:S.lone 193408128:=ah;have r:=JS L hL;have O:aC S 7 [.one (.p (.sl [])),.one (.p (.sl []))] (bK true):=JS [] U;have z:¬(((0:Nat):Int)<((0:Nat):Int)):=U;have Z:¬((0:Int)<((0:Nat):Int)):=U
 refine bG cP ?_;simp only[go_sem,i3,xU,ai H,qT,adn,bl aQ (aaD Y),WK,Xp,bl pD (Gw R),As,ai r];refine mu ?_;simp only[go_sem,MY,SE,z,Z];refine cD (λi A blk=>A 2=.one (.bg 192000000 1 0)/\A 5=.one (.p (nJ (bh L)))/\A 7=.one (.p .nils)/\A 8=.one (.p .nils)/\A 10=aq i/\blk 192000000=(1,some (.var (mw f g)))) 0 (I L) (bC _) ?_ ?_
 .simp only[go_sem];first|done|exact⟨rfl,rfl⟩|rfl
 rintro i A blk hi ⟨m,h,q,j,F,B⟩
 by_cases D:i<I L
 .have T:((i:Int)<(I L:Int)):=J;have w2:=bJ (n:=i) J;have E:nJ (bh L)=.sl (bh L):=Ky λe=>by rw[<-x,e]at D;simp at D
  rw[E]at h;simp only[go_sem,yV,m,h,q,j,F,T,x];refine mu ?_;simp only[go_sem,Du,MW,L2,m,h,q,j,F,z,Z,w2,D,E];first|done|exact B|exact⟨D,B⟩
 have:i=I L:=J;subst this;by_cases u:L=[]
 .have X:nJ (bh L)=.nils:=by rw[u];exact aM rfl
  have M:I L=0:=by rw[u];rfl
  rw[X]at h;rw[M]at F;simp only[go_sem,yV,Cw,m,h,q,j,F,M,z,Z,B,Dw,bl v (Ke y rfl),As,ai O,Q,ai N];first|done|rfl
 have E:nJ (bh L)=.sl (bh L):=Ky λe=>u (by simpa [bh]using e);rw[E]at h;simp only[go_sem,yV,Cw,m,h,q,j,F,x,dF,B,Dw,bl v (Ke y rfl),As,ai O,Q,ai N];first|done|rfl
end
def yJ:cS:=(List.range 10).map λk=>((k+1:Nat):Int)
theorem Ze:∀k,k<10->yJ.contains ((k+1:Nat):Int):=U
theorem apA:aS (kinds 10)=dz yJ:=rfl
theorem X5{ok:db->Bool}{j:Int->dm}:∀ {n:Nat},n<=10->oL ok j yJ n=(List.range n).flatMap λk=>(j ((k+1:Nat):Int)).filter ok
 |0,_=>rfl
 |n+1,h=>by rw[El,X5 J,j0,qW,uD,Ze n J,aM rfl]
theorem agd{ok:db->Bool}(H:∀k,k<10->∀m∈j ((k+1:Nat):Int),m.k=((k+1:Nat):Int)):mS h (oL ok j yJ 10) (I (oL ok j yJ 10))=oL ok j h 10:=by rw[mS,iV];exact aah λk f=>⟨H k f,Ze k f⟩
section
variable {f:Int} {g:aI}
def acd(f:Int)(g:aI):Prop:= ∃L:dm,I L<=4000000000/\aC S 6 [dQ f g] (.tup [.one (bn fx 7 (bh L)),.one (.p (.int .i64 0))])/\aC S 8 [dQ f g] (.one (bn fN 7 (bh L)))/\
 ∀h:cS,I h<=20->aC S 9 [dQ f g,.one (.p (.sl (dz h)))] (.tup [.one (bn fx 7 (bh (mS h L (I L)))),.one (.p (.int .i64 0))])
theorem Wh{ok:db->Bool}(r:aC S 18 [dQ F g] (uR (df F g) (.int .i64 0)))(u:∀k,k<10->∀m∈j ((k+1:Nat):Int),m.k=((k+1:Nat):Int))(H:∀k:Nat,k<10->I (j ((k+1:Nat):Int))<=200000000)
  (aa:∀h:cS,I h<=1000000->∃n,aC S 19 [.one (.p (df F g)),.one (.p (.sl (dz h)))] (.tup [.one (bn fx 7 (bh (oL ok j h 10))),.one (bn z7 2 n)]))
  (f:∀k,k<10->aC S 17 [dQ F g,aq ((k+1:Nat):Int)] (.one (bn fN 7 (bh ((j ((k+1:Nat):Int)).filter ok))))):acd F g:=by
 have z:∀h:cS,I h<=1000000->aC S 9 [dQ F g,.one (.p (.sl (dz h)))] (.tup [.one (bn fx 7 (bh (oL ok j h 10))),.one (.p (.int .i64 0))]):=λh q=>by obtain⟨n,p⟩:=aa h q;exact alR r rfl p
 refine⟨oL ok j yJ 10,?_,ahD ?_,?_,λh q=>?_⟩
 .have:=OK (ok:=ok) (h:=yJ) H;omega
 .rw[apA];exact z yJ U
 .rw[X5 (cH _)];exact akl f λk q=>jO (Ge _ _) (H k q)
 rw[agd u];exact z h J
theorem agG(r:kM f g=0)(hl:I g<=14):acd f g:=by
 by_cases n:g=[]
 .subst n;have z:0<=f/\f<=40:=by
   unfold kM at r;rw[aD U]at r;by_cases v:f<0\/40<f
   .rw[aM v]at r;cases r
   omega
  obtain⟨F,rfl⟩:=lM z.1;have x:F<=40:=J;have D:∀k:Nat,k<10->∀m∈yu F ((k+1:Nat):Int),m.k=((k+1:Nat):Int):=λk H m u=>by
   by_cases q:((k+1:Nat):Int)=2
   .rw[q,LV]at u;obtain⟨i,_,rfl⟩:=eJ.1 u;exact q.symm
   rw[sv q]at u;cases u
  refine Wh (ok:=λ_=>true) (j:=yu F) (agu x) D (λk H=>?_) (λh v=>aeS x rfl v) (λk H=>?_)
  .by_cases q:((k+1:Nat):Int)=2
   .rw[q,LV,ac8];omega
   rw[sv q];exact bC _
  have v:=ahq x H;rw[show(yu F ((k+1:Nat):Int)).filter (λ_=>true)=yu F ((k+1:Nat):Int)from List.filter_eq_self.2 λ_ _=>rfl];exact v
 obtain⟨F,e,y⟩:=ajG r n;subst e;obtain⟨j,b_⟩:=af7 y (nA.2 n);exact Wh (ok:=okB F g) (j:=j) (anV y) (λk H=>b_.kind H) b_.len (λh v=>ac1 (λk H m _=>ao0 y m) (λk H=>⟨b_.len k H,b_.pev k H⟩) rfl v) (λk H=>arE y J b_ H)
theorem am0(m:aC S 5 [] (.one (.p (.bool true))))(f:Int)(g:aI)(h:cS):aC S 3 [dQ f g,.one (.p (.sl (dz h)))] (bK true):=by
 have ps:=arI (f:=f) (g:=g) (n:=14) U;cases H:(decide ((I g:Int)<=14)&&(kM f g==0))with
 |false=>rw[H]at ps;exact amR m ps
 |true=>
  rw[H]at ps;by_cases hl:20<I h
  .exact aiC m ps hl
  rw[cq,decide_eq_true_iff,c6]at H;obtain⟨L,v,q,r,u⟩:=agG H.2 J;by_cases j:h=[]
  .subst j;have x:=u [] U;have y:mS [] L (I L)=[]:=by unfold mS;exact List.filter_eq_nil_iff.2 λ_ _=>aG
   rw[y]at x;exact aqW m ps v q r x
  exact ar6 m j ps J v q r (u h J)
end
end Go.Abs
namespace Go.Proofs.YtdlmpmilnbhmgaaGreatDoor.fnMoveLists
open Go.Abs Go.ChangeShapes Go.WideShapes Go.ChangeAt Go.RowKit
theorem abt {P : Program}{N n : Nat}{t : TypeId}{fs : Array Field}{p : c_} (H : P.underlying t = some (.struct fs)) (h : ji P N (n + 1) t p) :
    ∃g : dC, p = g.flatten ∧ I g = I fs.toList ∧ ∀(i : Nat) (f : Field) (x : c_), fs.toList[i]?= some f → g[i]?= some x → ji P N n f.type x := by
  simp only [ji, H]at h;exact h
theorem aim {E : dC} (h :∀x ∈ E, ∃l : af, x = l.ps) :∃g : aI, E = g.map af.ps := by
  induction E with
  | nil => exact⟨[], rfl⟩
  | cons e E f =>obtain⟨l, rfl⟩ := h e (by simp);obtain⟨g, rfl⟩ := f λx H => h x (by simp [H]);exact⟨l :: g, rfl⟩
theorem arx {N n : Nat}{p : c_} (h : ji S.P N (n + 1 + 1) 59 p) :∃l : af, p = l.ps := by
  obtain⟨f, rfl, hl, hp⟩ := abt Tryz.underlying59 h;rcases f with _ | ⟨y, _ | ⟨u, _ | ⟨v, _ | ⟨j, _ | ⟨q, _ | ⟨m, _ | ⟨x, r⟩⟩⟩⟩⟩⟩⟩ <;> first
    | (simp at hl; done)
    | skip
  obtain⟨k, rfl, _⟩ := B7 Tryz.underlying57 (hp 0 _ _ rfl rfl);obtain⟨g, rfl, _⟩ := B7 Tryz.underlying3 (hp 1 _ _ rfl rfl);obtain⟨r, rfl, _⟩ := B7 Tryz.underlying3 (hp 2 _ _ rfl rfl);obtain⟨i, rfl, _⟩ := B7 Tryz.underlying3 (hp 3 _ _ rfl rfl);obtain⟨s, rfl, _⟩ := B7 Tryz.underlying3 (hp 4 _ _ rfl rfl);obtain⟨o, rfl⟩ := akt Tryz.underlying4 (hp 5 _ _ rfl rfl);exact⟨⟨k, g, r, i, s, o⟩, rfl⟩
theorem agQ {N n : Nat}{p : c_} (h : ji S.P N (n + 1 + 1 + 1 + 1) 24 p) :∃(k : Int) (g : aI), p = [.int .i64 k,.sl (g.map af.ps)] := by
  obtain⟨f, rfl, hl, hp⟩ := abt Tryz.underlying24 h;rcases f with _ | ⟨u, _ | ⟨m, _ | ⟨q, r⟩⟩⟩ <;> first
    | (simp at hl; done)
    | skip
  obtain⟨k, rfl, _⟩ := B7 Tryz.underlying3 (hp 0 _ _ rfl rfl);obtain⟨E, rfl, _, j⟩ := adI Tryz.underlying22 (hp 1 _ _ rfl rfl);obtain⟨g, rfl⟩ := aim λx H => arx (j x H);exact⟨k, g, rfl⟩
theorem ajJ {N n : Nat}{p : c_} (h : ji S.P N (n + 1 + 1) 25 p) :∃l : cS, p = [.sl (l.map λi => [.int .i64 i])] := by
  obtain⟨E, rfl, H, f⟩ := adI Tryz.underlying25 h;clear h H
  suffices ∃l : cS, E = l.map λi => [.int .i64 i] by obtain⟨l, rfl⟩ := this; exact⟨l, rfl⟩
  induction E with
  | nil => exact⟨[], rfl⟩
  | cons e E j =>obtain⟨z, rfl, _⟩ := B7 Tryz.underlying3 (f e (by simp));obtain⟨l, rfl⟩ := j λx g => f x (by simp [g]);exact⟨z :: l, rfl⟩
theorem aga (g : dC) (h : Ku S.P maxLen 4 Tryz.f3.params.toList g) : aC S 3 (wN S.P Tryz.f3.params.toList g) (.one (.p (.bool true))) := by
  have hp : Tryz.f3.params.toList = [24, 25] := by rw [Tryz.params3]
  rw [hp]at h |-;rcases g with _ | ⟨A, _ | ⟨q, _ | ⟨r, z⟩⟩⟩
  · exact h.elim
  · exact h.2.elim
  · obtain⟨F, L, rfl⟩ := agQ (n := 0) h.1
    obtain⟨j, rfl⟩ := ajJ (n := 2) h.2.1;have m :∀(f : Int) (a : aI), wT S.P 24 [.int .i64 f,.sl (a.map af.ps)] = dQ f a := λf a => aqb (P := S.P) Tryz.underlying24;have E :∀l : cS, wT S.P 25 [.sl (l.map λi => [.int .i64 i])] =.one (.p (.sl (l.map λi => [.int .i64 i]))) := λl => ajh (P := S.P) Tryz.underlying25 (λfs h => by cases h);simp only [wN, m, E];exact am0 aiZ F L j
  · exact h.2.2.elim
theorem amC : Tryz.prog.globalNamed Nr = some 0 := by kernel_rfl
theorem al3 : (Tryz.prog.globals[0]?).map (·.type) = some 210 := by kernel_rfl
theorem apH : Tryz.prog.cellsOf 210 = 20 := by kernel_rfl
theorem afQ : Tryz.prog.cellsOf 170 = 1 := by kernel_rfl
theorem table {W : World} (h : laidMetH Tryz.prog Rows.moveListsRow.laid W) : G W := by
  have f : laidMet Tryz.prog Rows.moveListsRow.laid W := h;have H := f.tail.tail;have e : (Rows.laid_internal_strconv_uint64pow10 : DataW Unit) = Lib.tabData .u64 Lib.pow10Tab := by kernel_rfl
  rw [e]at H;exact Lib.tabIs_of_head (rest := []) amC al3 Tryz.underlying210 Tryz.underlying170 afQ apH H
end Go.Proofs.YtdlmpmilnbhmgaaGreatDoor.fnMoveLists
namespace Go.Proofs.YtdlmpmilnbhmgaaGreatDoor.fnMoveLists
open Go.Abs Go.ChangeShapes Go.WideShapes Go.ChangeAt Go.RowKit
theorem own : ownKnob Tryz.prog.godebug = none := by kernel_rfl
theorem ahT (H : Type) (E : TypeId×Value → H) (W : World) (base : Nat) (A : Array Value) (D F : List (DataW H)) (B : List MemPlace)
    (g :∀(j : Nat) t v, Tryz.f3.params[j]?= some t → A[j]?= some v → Value.okWide Tryz.prog W .any base t v)
    (r : DataW.Whole E Tryz.prog Tryz.f3.params.toList Rows.moveListsSpec.vars false W A.toList D F B) (z : laidMetH Tryz.prog Rows.moveListsRow.laid W) :
    Calls Tryz.prog 3 A W λe L =>∃v, e =.returned v ∧ Rows.moveListsSpec.post E Tryz.prog Tryz.f3 false true false false W A v L := by
  have n :∀t ∈ Tryz.f3.params.toList, jg S.P 4 t = true := by
    rw [Tryz.params3];intro t x;have e : t = 24 ∨ t = 25 := by simpa using x
    have y : jg S.P 4 24 = true := by kernel_rfl
    have u : jg S.P 4 25 = true := by kernel_rfl
    rcases e with e | e
    · exact e ▸ y
    · exact e ▸ u
  have f :∀d ∈ D, qk maxLen d := by obtain⟨p, q, M, _⟩ := r;exact(Wo n M).1
  exact aly S_ok (λw h => ag5 h) (fn := Tryz.f3) (s := Rows.moveListsSpec) rfl
    (λH D m => by
      rw [Tryz.params3]at m
      match D, m with
      | [N, O], _ => rfl) (tb := 4) (by kernel_rfl) Tryz.underlying4 n aga g r (table z) f

noncomputable def aiG (d : DataW Unit) : Array Value :=
  match d with
  | .agg l => (l.map fun
    | .lit (.int k z) => Value.int k z
    | _ => undef).toArray
  | _ => #[]
noncomputable def T8 (d : DataW Unit) : Obj → Obj
  | .cells _ t frozen =>.cells (aiG d) t frozen
  | o => o
noncomputable def UF (os : Os) : World :={ World.holding Tryz.prog os ⟨#[], #[], []⟩with heap := (((World.holding Tryz.prog os ⟨#[], #[], []⟩).heap.modify 2 (T8 Rows.laid_math_bits_deBruijn32tab)).modify 3 (T8 Rows.laid_math_bits_deBruijn64tab)).modify 0 (T8 Rows.laid_internal_strconv_uint64pow10) }
theorem am6 (os : Os) : laidMet Tryz.prog Rows.moveListsRow.laid ((UF os).forCall (λ_ _ => 0) ⟨#[], #[Value.agg #[.int .i64 0,.slice none 0 0],.slice none 0 0], []⟩).memory :=laidMet_of_run' 8 (by kernel_rfl) (by kernel_rfl)
theorem agq (os : Os) {H : Type} (E : TypeId×Value → H) :∃places, DataW.whole E Tryz.prog ((UF os).forCall (λ_ _ => 0) ⟨#[], #[Value.agg #[.int .i64 0,.slice none 0 0],.slice none 0 0], []⟩).memory Tryz.f3.params.toList Rows.moveListsSpec.vars false #[Value.agg #[.int .i64 0,.slice none 0 0],.slice none 0 0].toList 8 = some ([.agg [.lit (.int .i64 0),.nil],.nil], [], places) :=
  ⟨[], by kernel_rfl⟩

theorem am3 (os : Os) (f : os.Started) (H : Type) (E : TypeId×Value → H) (F : Stop.Interp) :
    ReturnsInHanded {} Tryz.checked os 3 .any ((OpenSpec.ofChange Rows.moveListsSpec).preRow E Tryz.prog Tryz.f3 Rows.moveListsRow.domain false Rows.moveListsRow.laid) (((OpenSpec.ofChange Rows.moveListsSpec).at F).post E Tryz.prog Tryz.f3 false true false false) := by
  obtain⟨places, g⟩ := agq os E;refine returnsInHanded_of_row (C := Tryz.checked) (s := (OpenSpec.ofChange Rows.moveListsSpec)) own f (by kernel_rfl) Tryz.func3
    (witness_row_at (enc := E) (C := Tryz.checked) false (UF os) #[Value.agg #[.int .i64 0,.slice none 0 0],.slice none 0 0] rfl (by kernel_rfl) (by kernel_rfl) (by kernel_rfl)
      (OpenSpec.preRow_of_cond 8 g (by kernel_rfl) (λk m => by cases m) (by kernel_rfl) (am6 os))) ?_
  intro W base A D n B h j _ _ _ q _ _;exact ahT H E W base A D n B h j q
end Go.Proofs.YtdlmpmilnbhmgaaGreatDoor.fnMoveLists
namespace Go.Proofs.YtdlmpmilnbhmgaaGreatDoor.fnMoveLists
open Go.Abs Go.ChangeShapes Go.WideShapes Go.ChangeAt Go.RowKit
theorem ah0 : Rows.MoveListsSaid :=
  OpenClaim.holds_of_cond 3 Tryz.f3 rfl rfl rfl rfl rfl rfl rfl ⟨rfl, rfl, rfl, rfl, rfl⟩ rfl rfl rfl rfl rfl (by kernel_rfl) Tryz.func3 closed
    (of_decide_eq_true (by kernel_rfl)) (by unfold Func.isWrapper; first | (rw [if_pos (by decide +kernel)]; kernel_rfl) | (rw [if_neg (by decide +kernel)]; exact⟨rfl, rfl⟩))
    (λos f H E _ F => by rw [OpenClaim.pre_eq_preRow]; exact am3 os f H E F)

theorem ajs (f : FuncId) (fn : Func) (H : Tryz.pinned.checked.prog.funcNamed Rows.moveListsRow.func = some f) (hfn : Tryz.pinned.checked.prog.funcs[f]?= some fn) :
    false = Tryz.pinned.checked.prog.looks [] ∧ ∀(j : Nat) t, fn.params[j]?= some t → Tryz.pinned.checked.prog.wantsStandIn t = false := by
  obtain rfl : f = 3 := Option.some.inj ((show Tryz.prog.funcNamed Rows.moveListsRow.func = some 3 by kernel_rfl).symm.trans H) |>.symm
  obtain rfl : fn = Tryz.f3 := (Option.some.inj (Tryz.func3.symm.trans hfn)).symm;refine⟨by kernel_rfl, ?_⟩
  · intro j t h
    rw [Tryz.params3]at h;have e : t = 24 ∨ t = 25 := by simpa using Array.mem_of_getElem? h
    have m : Tryz.prog.wantsStandIn 24 = false := by kernel_rfl
    have g : Tryz.prog.wantsStandIn 25 = false := by kernel_rfl
    rcases e with e | e
    · exact e ▸ m
    · exact e ▸ g

theorem arT : Rows.moveListsRow.wfByText (OpenSpec.ofChange Rows.moveListsSpec) = true := by kernel_rfl
theorem ani : Tryz.pinned.checked.prog.mainIs = some ((true, "845c111087a0528a9847e7e88ff24ba241a218aaa94c6d28bb378e5b3696549a").1, (true, "845c111087a0528a9847e7e88ff24ba241a218aaa94c6d28bb378e5b3696549a").2.toList) := by kernel_rfl
theorem card : Rows.MoveListsCardSaid :=Claim7.holds_tied_plain_at .later [] _ _ _ _ ah0 (λ_ h => by cases h) arT (λ_ h => by cases h) moveLists_row_tie rfl ⟨rfl, rfl⟩ ani rfl ajs goes
end Go.Proofs.YtdlmpmilnbhmgaaGreatDoor.fnMoveLists
