/- A part. -/
import Derived.Test.YtpfkjhlcoghioaaGreatDoorWc
set_option linter.all false
open List renaming length->I
set_option maxRecDepth 100000
set_option maxHeartbeats 16000000
namespace Go.Abs
variable{y f z n O bv cv v u E M R:Nat}{L:ae}{D:dK}{m H:cT}{T:dG}
section
variable{x:Int}{F j N:Nat}{h:ae}{A:cT}
def je (b:Bool)(s:Nat):Nat:=if b then 1-s else s
def C7{b:Bool}{s:Nat}(h:s<2):je b s<2:=by unfold je;split<;>omega
def LL{b:Bool}{s:Nat}(h:s<2):je b (je b s)=s:=by unfold je;cases b<;>simp;omega
def ru(p:Nat->Bool)(y:Nat):Nat:=2*eH (y/2)+je (p (y/2)) (y%2)
def wy(p:Nat->Bool)(nx:Nat->Nat)(y:Nat):Nat:=2*nx (eH (y/2))+je (p (y/2)) (y%2)
def xO(p:Nat->Bool)(k:Nat):pI:=(List.range k).flatMap λe=>[(4*e,ru p (4*e)),(4*e+1,ru p (4*e+1))]
theorem MQ(p:Nat->Bool)(e:Nat):ru p (4*e)=if p (2*e)then 4*e+3 else 4*e+2:=by unfold ru je;rw[show 4*e/2=2*e by omega,s8,show 4*e%2=0 by omega];split<;>omega
theorem LH(p:Nat->Bool)(e:Nat):ru p (4*e+1)=if p (2*e)then 4*e+2 else 4*e+3:=by unfold ru je;rw[show(4*e+1)/2=2*e by omega,s8,show _%2=1 by omega];split<;>omega
def ajL{p:Nat->Bool}(hp:∀x,p (eH x)=p x)(e:Nat):ru p (4*e+2)=if p (2*e)then 4*e+1 else 4*e:=by unfold ru je;rw[show _/2=2*e+1 by omega,BT,show _%2=0 by omega,<-hp (2*e),s8];split<;>omega
def anq{p:Nat->Bool}(hp:∀x,p (eH x)=p x)(e:Nat):ru p (4*e+3)=if p (2*e)then 4*e else 4*e+1:=by unfold ru je;rw[show _/2=2*e+1 by omega,BT,show _%2=1 by omega,<-hp (2*e),s8];split<;>omega
def ahL(p:Nat->Bool)(k:Nat):xO p (k+1)=xO p k++[(4*k,ru p (4*k)),(4*k+1,ru p (4*k+1))]:=by unfold xO;rw[mJ,List.flatMap_append];simp
def aCs(p:Nat->Bool)(k:Nat):I (xO p k)=2*k:=by
 induction k with
 |zero=>rfl
 |succ k f=>rw[ahL,iM,f];simp;omega
def azB(p:Nat->Bool)(k:Nat):∀t∈xO p k,t.1<4*k/\t.2<4*k:=by
 intro t H;obtain⟨e,f,h⟩:=qx.1 H;simp[dh,e_,or_false,MQ,LH]at h
 grind
def awy(p:Nat->Bool){k e:Nat}(h:e<k):(4*e,ru p (4*e))∈xO p k/\(4*e+1,ru p (4*e+1))∈xO p k:=
 ⟨qx.2 ⟨e,fU.2 h,aG⟩,qx.2 ⟨e,fU.2 h,aG⟩⟩
def atD{p:Nat->Bool}(hp:∀x,p (eH x)=p x)(q:Nat->Nat):∀k y,(xO p k).foldl tr q y=if y<4*k then q (ru p y)else q y:=by
 intro k
 induction k with
 |zero=>intro y;simp[xO]
 |succ k f=>
  intro y;rw[ahL,Bq,Ac,Ac,ND,LU,LU,f,MQ,LH];by_cases c:y<4*k
  .grind
  have h:=ajL hp k;have m:=anq hp k;have A:=MQ p k;have j:=LH p k
  grind
def aGm{p:Nat->Bool}(hp:∀x,p (eH x)=p x)(nx:Nat->Nat){k:Nat}(h:y<4*k):(xO p k).foldl tr (wy p nx) y=2*nx (y/2)+y%2:=by
 rw[atD hp,aI h];unfold wy;have hf:je (p (y/2)) (y%2)<2:=C7 J;have f:ru p y/2=eH (y/2):=by unfold ru;omega
 have H:ru p y%2=je (p (y/2)) (y%2):=by unfold ru;omega
 rw[f,H,vz,hp,LL J]
def ab9{α β:Type}{P:α->β->Prop}{f:β->α}(hf:∀a b,P a b->f b=a):∀ {L:List α},(∀a∈L,∃b,P a b)->∃M:List β,M.map f=L/\ ∀b∈M,∃a∈L,P a b:=by
 intro L
 induction L with
 |nil=>intro _;exact⟨[],rfl,aG⟩
 |cons a L m=>
  intro h;obtain⟨b,j⟩:=h a aG;obtain⟨M,n,u⟩:=m λx H=>h x mt;refine⟨b::M,by rw[fq,n,hf a b j],λx H=>?_⟩
  grind
section
variable {F:Nat} {h:ae}
def aug(ok:fY F h):(aA h).Nodup:=by
 have:=apN ok.ax (I h) (cP _);refine aeO (λ{a b} H e=>?_) this
 grind
def Vm(ok:fY F h):I h=aq U.ay h+aq U.au h:=by
 have:∀l:ae,(∀x∈l,x.ay\/x.au)->I l=aq U.ay l+aq U.au l:=by
  intro l
  induction l with
  |nil=>intro _;rfl
  |cons a l f=>
   intro j;have f:=f λx H=>j x mt;unfold aq at f |-;rw[G4,G4,fF,f];rcases j a aG with c|c
   .rw[c,oV c];simp;omega
   have:a.ay=false:=by cases hp:a.ay;rfl;rw[oV hp]at c;cases c
   grind
 exact this h ok.kinds
def aiw(ok:fY F h):∃L:aD,I L=aq U.ay h+aq U.au h/2/\(∀j∈L,j<I h)/\(L.map (l7 h)).Nodup:=by
 have x:=ok.cr;unfold oH at x;simp only[cF,cW]at x;have v:=x.2
 let ids:jn:=(gL h (I h)).map λid=>(1,id)
 have A:∀a∈ids,∃j,(l7 h j=a/\j<I h):=by intro a N;obtain⟨id,n,rfl⟩:=c_.1 N;obtain⟨j,o,H,B⟩:=(H4 (cP _)).1 n;obtain⟨m,E,O,D,_⟩:=FG B;refine⟨j,?_,H⟩;unfold l7;rw[E];simp[O,D]
 obtain⟨M,y,z⟩:=ab9 (P:=λa j=>l7 h j=a/\j<I h) (f:=l7 h) (λa b u=>u.1) A;have kG:∀i∈aA h,i<I h/\l7 h i=(0,(i:Int)):=λi n=>by obtain⟨l,hl,hp⟩:=sX.1 n;refine⟨(bN.1 hl).1,?_⟩;unfold l7;rw[hl];simp[oV hp]
 refine⟨aA h++M,?_,λj H=>?_,?_⟩
 .have:I M=I (gL h (I h)):=by
   have:=congrArg List.length y
   simpa [ids]using this
  rw[iM,this,v,Ea]
 .rcases iI.1 H with H|H
  .exact(kG j H).1
  obtain⟨_,_,u⟩:=z j H;exact u.2
 rw[iT,y,SK];refine⟨?_,?_,?_⟩
 .have:(aA h).map (l7 h)=(aA h).map λi:Nat=>((0:Int),(i:Int)):=s7 λi n=>(kG i n).2;rw[this];refine BG.2 (aeO (λ{a b} u e=>u ?_) (aug ok));have:=congrArg Prod.snd e;simp only at this;omega
 .refine BG.2 (aeO (λ{a b} u e=>u ?_) (Vp h (I h)));exact congrArg Prod.snd e
 grind
def aAD(ok:fY F h)(p:Nat->Bool):uT (2*aX h) (wy p (aT h)):=by
 have m:=nc ok;have n:aX h=2*(I h+I (aA h)):=i8
 have f:∀y,y<2*aX h->eH (y/2)<aX h:=λy H=>by rw[n];exact vi J
 have hf:∀y,je (p (y/2)) (y%2)<2:=λy=>C7 J;refine⟨λy H=>?_,λx y u H e=>?_⟩
 .have:=m.lt _ (f y H);have:=hf y;unfold wy;omega
 unfold wy at e;have:=hf x;have:=hf y;have j:x/2=y/2:=by rw[<-vz (x/2),m.inj _ _ (f x u) (f y H) J,vz]
 have E:je (p (x/2)) (x%2)=je (p (y/2)) (y%2):=J;rw[j]at E;have v:x%2=y%2:=by rw[<-LL (s:=x%2) J,E,LL J]
 omega
end
section
variable {F:Nat} {h:ae} {p:Nat->Bool}
abbrev yI(ls:ae)(p:Nat->Bool):Nat->Nat->Prop:=AN (2*aX ls) (wy p (aT ls)) (xO p (I ls+I (aA ls)))
def FV(h:ae):aX h=2*(I h+I (aA h)):=by unfold aX;omega
def aBl(hp:∀x,p (eH x)=p x)(m:y<2*aX h):cM (yI h p) y (ru p y):=by
 have n:=FV h;obtain⟨j,H⟩:=awy p (k:=I h+I (aA h)) (e:=y/4) J;have r1:cM (yI h p) _ _:=.rel (.inr j);have R:cM (yI h p) _ _:=.rel (.inr H);have A:=ajL hp (y/4);have f:=anq hp (y/4);rcases(by omega:y=4*(y/4)\/y=4*(y/4)+1\/y=4*(y/4)+2\/y=4*(y/4)+3)with e|e|e|e
 .rw[<-e]at r1;exact r1
 .rw[<-e]at R;exact R
 .rw[<-e]at A;rw[A];rw[MQ]at r1;rw[LH]at R;by_cases c:p (2*(y/4))
  .rw[aI c]at R |-;rw[<-e]at R;exact R.symm
  rw[aE c]at r1 |-;rw[<-e]at r1;exact r1.symm
 rw[<-e]at f;rw[f];rw[MQ]at r1;rw[LH]at R;by_cases c:p (2*(y/4))
 .rw[aI c]at r1 |-;rw[<-e]at r1;exact r1.symm
 rw[aE c]at R |-;rw[<-e]at R;exact R.symm
def Pc(hp:∀x,p (eH x)=p x){x s:Nat}(H:x<aX h)(af:s<2):cM (yI h p) (2*x+s) (2*eH x+je (p x) s):=by
 have:=aBl (h:=h) hp (y:=2*x+s) J;unfold ru at this
 grind
def Q5(hp:∀x,p (eH x)=p x){x s:Nat}(f:x<aX h)(af:s<2):cM (yI h p) (2*x+s) (2*aT h x+s):=by
 have H:=FV h;have hf:je (p x) s<2:=C7 af;refine(Pc hp f af).trans (.rel (.inl ⟨?_,?_⟩))
 .have:eH x<aX h:=by rw[H];exact vi J
  omega
 unfold wy;rw[show _/2=eH x by omega,show _%2=je (p x) s by omega,vz,hp,LL af]
def D1(h:ae)(p:Nat->Bool)(x:Nat):Prop:= ∃b,∀s,s<2->cM (yI h p) (2*x+s) (je b s)
def avv(h:ae)(p:Nat->Bool):D1 h p 0:=⟨false,λs _=>by rw[show 2*0+s=s by omega];exact .refl _⟩
def ajw(a b:Bool){s:Nat}(h:s<2):je a (je b s)=je (a !=b) s:=by unfold je;cases a<;>cases b<;>simp;omega
def apP(hp:∀x,p (eH x)=p x){x:Nat}(j:x<aX h)(H:D1 h p x):D1 h p (eH x):=by obtain⟨b,H⟩:=H;refine⟨b !=p x,λs af=>?_⟩;have f:=(Pc hp j (C7 af)).symm.trans (H (je (p x) s) (C7 af));rwa[LL af,ajw _ _ af]at f
def aoW(hp:∀x,p (eH x)=p x){x:Nat}(f:x<aX h)(H:D1 h p x):D1 h p (aT h x):=by obtain⟨t,H⟩:=H;exact⟨t,λs af=>(Q5 hp f af).symm.trans (H s af)⟩
def at5(hp:∀x,p (eH x)=p x){x:Nat}(f:x<aX h)(H:D1 h p (aT h x)):D1 h p x:=by obtain⟨t,H⟩:=H;exact⟨t,λs af=>(Q5 hp f af).trans (H s af)⟩
def aa9(hp:∀x,p (eH x)=p x)(ok:fY F h){x:Nat}(n:x<aX h):D1 h p x:=by
 have m:=nc ok;have D:=FV h;have E:∀y,y<aX h->eH y<aX h:=λy H=>by rw[D]at H |-;exact vi H
 have f:∀i,i<I h->D1 h p (2*i):=by
  intro i
  induction i with
  |zero=>intro _;exact avv h p
  |succ i L=>
   intro B;have z:=L J;have j:2*i<aX h:=J;have A:=aoW hp j z;have u:=m.lt _ j;have v:=aoW hp (E _ u) (apP hp u A);have e:2*i=jB (I h) (i+1) true:=Fr
   rw[e,X6 ok B]at v;exact v
 have str:∀y,y<2*I h->D1 h p y:=λy H=>by
  rcases rN y with c|c
  .rw[show y=2*(y/2) by omega];exact f _ J
  have:=apP hp (x:=2*(y/2)) J (f (y/2) J);rw[s8]at this
  grind
 rcases RL x (2*I h)with c|c
 .exact str x c
 exact at5 hp n (str _ (m.ax x n c))
def apz(g:aU F h)(hp:∀x,p (eH x)=p x){c:Nat->Bool}(hc:∀x,x<aX h->c (eH (aT h x))=(c x !=p x)):¬cM (yI h p) 0 1:=by
 intro B;have ok:=g.ok;have hN:=FV h;have Z:∀y,y<aX h->eH y<aX h:=λy H=>by rw[hN]at H |-;exact vi H
 obtain⟨A,Uv⟩:=CO (aT h) (aX h);have E:=aot (xO p (I h+I (aA h))) (wy p (aT h)) (aAD ok p) (λt z=>by have:=azB p _ t z;omega)
 rw[aCs]at E;have K1:bJ (cM (yI h p)) (2*aX h)<=1:=anK λy H=>by
  obtain⟨b,z⟩:=aa9 hp ok (x:=y/2) J;have e:=z (y%2) J;rw[show 2*(y/2)+y%2=y by omega]at e;have hf:je b (y%2)<2:=C7 J;rcases(by omega:je b (y%2)=0\/je b (y%2)=1)with k|k
  .rw[k]at e;exact e
  rw[k]at e;exact e.trans B.symm
 have K2:2*fV h<=bJ (cM (iz (2*aX h) ((xO p (I h+I (aA h))).foldl tr (wy p (aT h))))) (2*aX h):=by
  have Y:∀w∈eX (aT h) (aX h),w≠[]:=λw D=>by obtain⟨⟨d,t,e,_⟩,_⟩:=xR ok w D;rw[e];simp
  have:=Wm (R:=iz (2*aX h) ((xO p (I h+I (aA h))).foldl tr (wy p (aT h)))) (f:=λy=>(BQ (eX (aT h) (aX h)) (y/2),decide (y%2=1))) (n:=2*aX h)
   (j:=((eX (aT h) (aX h)).map (·.headD 0)).flatMap λx=>[2*x,2*x+1]) ?_ ?_ ?_
  .rw[ajz,ct]at this;exact this
  .rintro a b ⟨ha,rfl⟩
   rw[aGm hp _ J];have H:a/2<aX h:=J;obtain⟨u,O,m⟩:=Fp.1 (Uv _ H);obtain⟨i,Q⟩:=gJ O;simp only[show(2*aT h (a/2)+a%2)/2=aT h (a/2) by omega,show(2*aT h (a/2)+a%2)%2=a%2 by omega];rw[MA A Q m,MA A Q (uB (nc ok) O m)]
  .refine aia λx M=>?_;obtain⟨w,D,rfl⟩:=c_.1 M;obtain⟨⟨d,t,e,hd⟩,_⟩:=xR ok w D;rw[e];simp only[List.headD_cons];omega
  refine ao9 (g:=BQ (eX (aT h) (aX h))) (c:=λ_=>false) (λx=>?_) (λx=>?_) ?_
  .simp only[show 2*x/2=x by omega,show 2*x%2=0 by omega];simp
  .simp only[show(2*x+1)/2=x by omega,show(2*x+1)%2=1 by omega];simp
  rw[al4 A Y];exact FN
 have K3:2*(aq U.ay h+aq U.au h/2)<=bJ (cM (iz (2*aX h) (wy p (aT h)))) (2*aX h):=by
  obtain⟨L,l1,T,l3⟩:=aiw ok;have:=Wm (R:=iz (2*aX h) (wy p (aT h))) (f:=λy=>(l7 h (oc h (eH (y/2))),(c (eH (y/2))!=decide (y%2=1)))) (n:=2*aX h)
   (j:=(L.map (2* ·)).flatMap λx=>[2*x,2*x+1]) ?_ ?_ ?_
  .rw[ajz,ct,l1]at this;exact this
  .rintro a b ⟨ha,rfl⟩
   have H:eH (a/2)<aX h:=Z _ J;have t1:=(X7 ok H).1;have X:=hc _ H;have hf:je (p (a/2)) (a%2)<2:=C7 J;unfold wy;simp only[show(2*aT h (eH (a/2))+je (p (a/2)) (a%2))/2=aT h (eH (a/2)) by omega,show(2*aT h (eH (a/2))+je (p (a/2)) (a%2))%2=je (p (a/2)) (a%2) by omega,t1,X,hp];rcases rN a with k|k<;>rw[k]<;>cases c (eH (a/2))<;>cases p (a/2)<;>rfl
  .refine aia λx M=>?_;obtain⟨j,N,rfl⟩:=c_.1 M;have:=T j N;omega
  refine ao9 (g:=λx=>l7 h (oc h (eH x))) (c:=λx=>c (eH x)) (λx=>?_) (λx=>?_) ?_
  .simp only[show 2*x/2=x by omega,show 2*x%2=0 by omega];simp
  .simp only[show(2*x+1)/2=x by omega,show(2*x+1)%2=1 by omega];simp
  rw[kU];have:L.map ((λx=>l7 h (oc h (eH x))) ∘ (2* ·))=L.map (l7 h):=s7 λj N=>by have:=DW (u:=h) (T j N) false;simp only[Function.comp_apply,s8];rw[show 2*j+1=jB (I h) j false from rfl,this]
  rw[this];exact l3
 have ab:=Vm ok;have kG:=Ea (h:=h);have Nd:=g.nw;have v:=ok.cr;unfold oH at v;simp only[cF,cW]at v;have eM:=v.1.1;have E:bJ (cM (iz (2*aX h) ((xO p (I h+I (aA h))).foldl tr (wy p (aT h))))) (2*aX h)+bJ (cM (iz (2*aX h) (wy p (aT h)))) (2*aX h)<=2*bJ (cM (yI h p)) (2*aX h)+2*(I h+I (aA h)):=E;omega
def ah3(g:aU F h)(hp:∀x,p (eH x)=p x){w:aD}(f:w∈eX (aT h) (aX h)){x s:Nat}(j:x∈w)(H:y∈w)(af:s<2):cM (yI h p) (2*x+s) (2*y+s):=by
 have base:∀a b,cM (λu v=>cM (yI h p) (2*u+s) (2*v+s)) a b->cM (yI h p) (2*a+s) (2*b+s):=by
  intro a b n
  induction n with
  |rel r=>exact r
  |refl a=>exact .refl _
  |symm _ m=>exact m.symm
  |trans _ _ i1 i2=>exact i1.trans i2
 exact base _ _ (Uk (nc g.ok) (λy H=>.rel (Q5 hp H af)) f j H)
def aru(g:aU F h)(hp:∀x,p (eH x)=p x){c:Nat->Bool}(f:∀x,x<aX h->c (eH (aT h x))=(c x !=p x)){x:Nat}(j:x<aX h)(m:cM (yI h p) (2*x+0) (2*x+1)):False:=by
 obtain⟨b,H⟩:=aa9 hp g.ok j;have E:=(H 0 aa).symm.trans (m.trans (H 1 aa));refine apz g hp f ?_;cases b with
 |true=>exact E.symm
 |false=>exact E
def alL(g:aU F h){x:Nat}(H:x<aX h){w:aD}(f:w∈eX (aT h) (aX h))(m:x∈w)(j:eH x∈w):False:=by
 have hp:∀x:Nat,(λ_:Nat=>true) (eH x)=(λ_:Nat=>true) x:=λ_=>rfl;have n:∀x,x<aX h->DS h _=(DS h x !=(λ_:Nat=>true) x):=λx H=>by rw[(X7 g.ok H).2];cases DS h x<;>rfl
 exact aru g hp n H ((ah3 g hp f m j aa).trans (Pc hp H (s:=1) aa).symm)
end
def gq(l:bK)(L:ae)(D:dK):Prop:= ∃z:List (aQ×Bool),z.map (·.1)=l/\z.map (·.1.l)=L/\z.map (·.2)=D/\ ∀x∈z,(x.1.l.kind==1)->x.2=x.1.d
def gq.fin{l:bK}(h:gq l L D):ch l=kj L D:=by
 obtain⟨z,rfl,rfl,rfl,f⟩:=h;refine aFU aG aG λi p hp H=>?_
 grind
def gq.base(h:ae):gq (aJ h) h (eR h):=by
 refine⟨(List.range (I h)).map λi=>(⟨h.getD i jJ,ep h i⟩,dn h i),?_,?_,?_,?_⟩
 .simp[aJ]
 .rw[kU];apply qO
  grind
 .rw[kU];rfl
 intro x j H;obtain⟨i,f,rfl⟩:=c_.1 j;obtain⟨l,hl⟩:=aP (fU.1 f);simp only[dM,hl,mw]at H |-;unfold ep;rw[hl];simp only;unfold U.ay;rw[H,BE]
def aaj{α β:Type}(f:α->β)(l x:List α)(k:Nat):(hJ l x k).map f=hJ (l.map f) (x.map f) k:=by unfold hJ;simp[uC,uN]
def gq.ins{l x:bK}{X:ae}{E:dK}(h:gq l L D)(H:gq x X E)(k:Nat):gq (fe l x k) (hJ L X k) (hJ D E k):=by
 obtain⟨z,rfl,rfl,rfl,j⟩:=h;obtain⟨y,rfl,rfl,rfl,f⟩:=H;refine⟨hJ z y k,by rw[aaj];rfl,by rw[aaj],by rw[aaj],λx H=>?_⟩;unfold hJ at H
 grind
def Yl{α β:Type}(f:α->β)(l:List α)(out:aD):(kr l out).map f=kr (l.map f) out:=by
 unfold kr w_;rw[List.map_filterMap,ct];congr 1;funext i;unfold IG
 grind
def gq.wo{l:bK}(h:gq l L D)(out:aD):gq (kr l out) (kr L out) (kr D out):=by obtain⟨z,rfl,rfl,rfl,H⟩:=h;exact⟨kr z out,Yl _ _ _,Yl _ _ _,Yl _ _ _,λx f=>H x (Vv f)⟩
def adu{α β:Type}(f:α->β)(l:List α)(i j:Nat):(gK l i j).map f=gK (l.map f) i j:=by unfold gK;rw[fX,fX];cases l[i]? <;>cases l[j]? <;>simp[vt]
def aEH{α:Type}{l:List α}{i:Nat}{x:α}(h:x∈gK l i j):x∈l:=by grind [gK]
def gq.sw{l:bK}(h:gq l L D)(i j:Nat):gq (gK l i j) (gK L i j) (gK D i j):=by obtain⟨z,rfl,rfl,rfl,H⟩:=h;exact⟨gK z i j,adu _ _ _ _,adu _ _ _ _,adu _ _ _ _,λx f=>H x (aEH f)⟩
def gq.map{l:bK}(h:gq l L D){f:aQ->aQ}{g:U->U}(hf:∀p∈l,(f p).l=g p.l/\(f p).d=p.d/\(f p).l.kind=p.l.kind):gq (l.map f) (L.map g) D:=by
 obtain⟨z,rfl,rfl,rfl,H⟩:=h;refine⟨z.map λx=>(f x.1,x.2),?_,?_,?_,?_⟩
 .simp_all
 .simp_all
 .simp_all
 grind
def gq.set{l:bK}(h:gq l L D){i:Nat}{p q:aQ}(hp:l[i]?=some p)(j:q.d=p.d)(m:q.l.kind=p.l.kind):gq (l.set i q) (L.set i q.l) D:=by
 obtain⟨z,rfl,rfl,rfl,u⟩:=h;rw[fX]at hp;cases f:z[i]? with
 |none=>rw[f]at hp;cases hp
 |some x=>
  refine⟨z.set i (q,x.2),by rw[vt],by rw[vt],?_,λy n H=>?_⟩
  .rw[vt];apply qO
   grind
  grind
def gq.two{p q:aQ}{d e:Bool}(hp:(p.l.kind==1)->d=p.d)(H:(q.l.kind==1)->e=q.d):gq [p,q] [p.l,q.l] [d,e]:=
 ⟨[(p,d),(q,e)],rfl,rfl,rfl,λx h=>by
  simp at h;rcases h with rfl|rfl
  .exact hp
  exact H⟩
theorem oL(h:ae)(i:Nat):(bR h i).l=aV h i:=by
 by_cases H:i<I h
 .obtain⟨l,hl⟩:=aP H;show((aJ h).getD i _).l=h.getD i jJ;rw[dM,dM,gX hl,hl];rfl
 show((aJ h).getD i _).l=h.getD i jJ;rw[dM,dM,pS Nm,pS J];rfl
def LB{i:Nat}(H:i<I h):h[i]?=some (aV h i):=by grind
theorem axk{α β:Type}{f g:α->Option β}:∀ {l:List α},(∀x∈l,f x=g x)->l.filterMap f=l.filterMap g:=by
 intro l
 induction l with
 |nil=>intro _;rfl
 |cons a l h=>grind
def WQ{i:Nat}(H:i<I h):(aJ h)[i]?=some (bR h i):=by rw[gX (LB H)];congr 1;show _=(aJ h).getD i _;rw[dM,gX (LB H)];rfl
def Cy{l:U}(h:l.kind=2):l.au:=by unfold U.au;rw[h];rfl
def FJ{l:U}(h:l.kind=1):l.ay:=by unfold U.ay;rw[h];rfl
def aBx{l:U}(h:l.au):l.kind=2:=by unfold U.au at h;exact eq_of_beq h
def YU{l:U}(h:l.ay):l.kind=1:=by unfold U.ay at h;exact eq_of_beq h
def XQ(l:bK)(drop:Nat->aQ->Bool)(out:aD)(h:∀i p,l[i]?=some p->(drop i p↔i∈out)):mK l drop=kr l out:=by
 unfold mK wE kr w_
 grind [axk,NB,IG]
def asA{α:Type}{l:List α}{out:aD}{x:α}(h:x∈kr l out):∃i,i∉out/\l[i]?=some x:=by
 obtain _:=Cb.1 h
 grind [IG]
section
variable {F:Nat} {h:ae}
def aU.pos(g:aU F h):0<I h:=iW.2 g.ne
def aU.Cs(g:aU F h)(e:Nat):nx h e<I h:=dB _ g.pos
def aU.HS(g:aU F h){i:Nat}{l:U}(hl:h[i]?=some l)(hp:l.ay):ub F h l:=g.ok.ax.fg l (a8 hl) hp
def aU.one(g:aU F h){i:Nat}{l m:U}(hl:h[i]?=some l)(H:h[j]?=some m)(pl:l.ay)(f:m.ay)(u:l.gate=m.gate)(n:l.ao=m.ao):i=j:=g.ok.ax.inj i j l m hl H pl f ((C3 (g.HS hl pl) (g.HS H f)).2 ⟨u,n⟩)
def alx(g:aU F h){a:Nat}(T:a<I h):
  (td h a).isSome=(zk (aV h a) (aV h (nx h a))&&(decide ((2:Int)<(aq U.ay h:Nat))||(((aq U.au h/2:Nat):Int)==0)))/\
  ∀L,td h a=some L->gq L ((kr h [a,nx h a]).map (jx (aV h a).gate (if(aV h (nx h a)).ao<(aV h a).ao then(aV h (nx h a)).ao else(aV h a).ao) 2)) (kr (eR h) [a,nx h a]):=by
 have H:=g.Cs a;unfold td;simp only
 change ((if((bR h a).l.kind==1)&&(((bR h (nx h a)).l.kind==1)&&(((bR h a).l.gate==(bR h (nx h a)).l.gate)&&((pR (bR h a).l.ao (bR h (nx h a)).l.ao-uV (bR h a).l.ao (bR h (nx h a)).l.ao==1)&& !(decide (aq U.ay h<=2)&&decide (0<aq U.au h/2)))))then some (dT (mK (aJ h) λk _=>decide (k=a)||decide (k=nx h a)) (bR h a).l.gate (pR (bR h a).l.ao (bR h (nx h a)).l.ao) (-2))else none).isSome=_/\ ∀L,(if((bR h a).l.kind==1)&&(((bR h (nx h a)).l.kind==1)&&(((bR h a).l.gate==(bR h (nx h a)).l.gate)&&((pR (bR h a).l.ao (bR h (nx h a)).l.ao-uV (bR h a).l.ao (bR h (nx h a)).l.ao==1)&& !(decide (aq U.ay h<=2)&&decide (0<aq U.au h/2)))))then some (dT (mK (aJ h) λk _=>decide (k=a)||decide (k=nx h a)) (bR h a).l.gate (pR (bR h a).l.ao (bR h (nx h a)).l.ao) (-2))else none)=some L->_)
 rw[oL h a,oL h (nx h a)];have X:=LB T;have E:=LB H;generalize hx:aV h a=x at*;generalize Z:aV h (nx h a)=y at*;have m:(pR x.ao y.ao-uV x.ao y.ao==1)=((x.ao==y.ao+1)||(y.ao==x.ao+1)):=by rw[sv];unfold pR uV;simp only[cW,nK];split<;>split<;>omega
 have M:(!(decide (aq U.ay h<=2)&&decide (0<aq U.au h/2)))=(decide ((2:Int)<(aq U.ay h:Nat))||(((aq U.au h/2:Nat):Int)==0)):=by rw[sv];simp only[gH,Bool.and_eq_false_iff,decide_eq_false_iff_not,nK,fL,cW];omega
 rw[m,M];have O:((x.kind==1)&&((y.kind==1)&&((x.gate==y.gate)&&(((x.ao==y.ao+1)||(y.ao==x.ao+1))&&(decide ((2:Int)<(aq U.ay h:Nat))||(((aq U.au h/2:Nat):Int)==0))))))=(zk x y&&(decide ((2:Int)<(aq U.ay h:Nat))||(((aq U.au h/2:Nat):Int)==0))):=by unfold zk;simp only[NS]
 rw[O];refine⟨by split<;>simp_all,λL v=>?_⟩;split at v
 .rename_i A;cases v;rw[cF]at A;have H:=A.1;unfold zk at H;simp only[cF,nK,cW]at H;obtain⟨D,Q,R,k4⟩:=H;rw[XQ (aJ h) (λk _=>decide (k=a)||decide (k=nx h a)) [a,nx h a] (λi p _=>aG)];refine((gq.base h).wo _).map λp hp=>?_;obtain⟨i,u,n⟩:=asA hp;simp only[dh,e_,or_false,Ag]at u;have z:i<I h:=by have:=(bN.1 n).1;rwa[dI]at this
  have B:h[i]?=some p.l:=by rw[gX (LB z)]at n;cases n;exact LB z
  unfold dD jx;by_cases j:(p.l.kind==1)
  .rw[j];by_cases f:(p.l.gate==x.gate)
   .rw[f];simp only[BE,fL];have Y:p.l.ao≠x.ao:=λe=>u.1 (g.one B X j (by unfold U.ay;simp[D]) (eq_of_beq f) e);have N:p.l.ao≠y.ao:=λe=>u.2 (g.one B E j (by unfold U.ay;simp[Q]) (by rw[eq_of_beq f,R]) e)
    grind [pR]
   rw[aeY.2 f];exact⟨rfl,rfl,rfl⟩
  rw[aeY.2 j];exact⟨rfl,rfl,rfl⟩
 cases v
end
section
variable {F:Nat} {h:ae}
def aU.two(g:aU F h):2<=I h:=by have j:=Vm g.ok;obtain⟨l,hl,hp⟩:=g.first;have H:0<aq U.ay h:=zF.2 ⟨l,a8 hl,hp⟩;have f:=g.even;omega
def aU.NV(g:aU F h){a:Nat}(H:a<I h):a≠nx h a:=Nz g.two H
def aU.three(g:aU F h){i k:Nat}{l m x:U}(f:h[i]?=some l)(v:h[j]?=some m)(n:h[k]?=some x)(u:l.au)(y:m.au)(z:x.au)(E:l.id=m.id)(B:l.id=x.id)(D:i≠j):k=i\/k=j:=by
 have hp:=g.ids.2;by_cases A:k=i
 .exact .inl A
 by_cases H:k=j
 .exact .inr H
 have M:=(hp i j l m f v u y E D).1;have L:=(hp i k l x f n u z B λe=>A e.symm).1;have O:=(hp j k m x v n y z (E▸B) λe=>H e.symm).1;revert M L O;cases l.over<;>cases m.over<;>cases x.over<;>simp
def agM(ids:cT)(p:aQ):(kY ids p).l=ot ids p.l/\(kY ids p).d=p.d/\(kY ids p).l.kind=p.l.kind:=by grind [kY,ot,kW,BJ]
def anB(g:aU F h){a:Nat}(f:a<I h):
  (wS h a).isSome=(r6 h a&&((aV h a).id==(aV h (nx h a)).id))/\
  ∀L,wS h a=some L->gq L ((kr h [a,nx h a]).map (ot [(aV h a).id])) (kr (eR h) [a,nx h a]):=by
 have u:=g.Cs a;unfold wS r6;simp only;change ((if((bR h a).l.kind==2)&&(((bR h (nx h a)).l.kind==2)&&((bR h a).l.id==(bR h (nx h a)).l.id))then some (pV (aJ h) [(bR h a).l.id])else none).isSome=_/\ ∀L,(if((bR h a).l.kind==2)&&(((bR h (nx h a)).l.kind==2)&&((bR h a).l.id==(bR h (nx h a)).l.id))then some (pV (aJ h) [(bR h a).l.id])else none)=some L->_);rw[oL,oL,<-NS];refine⟨by split<;>simp_all,λL H=>?_⟩;split at H
 .rename_i j;cases H;simp only[cF,cW]at j;obtain⟨⟨m,x⟩,y⟩:=j;have v:mK (aJ h) (qH [(aV h a).id])=kr (aJ h) [a,nx h a]:=by
   refine XQ _ _ _ λi p hp=>?_;have n:i<I h:=by have:=(bN.1 hp).1;rwa[dI]at this
   have B:h[i]?=some p.l:=by
    rw[gX (iQ n)]at hp
    grind
   unfold qH;simp only[cF,cW,Vt,dh,e_,or_false,fL];constructor
   .rintro ⟨Q,z⟩
    exact g.three (iQ f) (iQ u) B (Cy m) (Cy x) (Cy Q) y z.symm (g.NV f)
   grind
  show gq ((mK (aJ h) (qH [(aV h a).id])).map (kY [(aV h a).id])) _ _;rw[v];exact((gq.base h).wo _).map λp _=>agM _ p
 cases H
def aAo(a:Nat)(sg:Int)(o:Bool):gq (u_ h a sg o) (hJ h [⟨2,0,0,(aq U.au h/2:Nat)+1,sg,o⟩,⟨2,0,0,(aq U.au h/2:Nat)+1,sg,!o⟩] a) (hJ (eR h) [false,!false] a):=by refine(gq.base h).ins ?_ a;exact gq.two aG aG
def acm(h:ae)(e:Nat)(ov:Bool):jf h e ov=(r6 h e&&(((aV h e).over==ov)&&((aV h (nx h e)).over==ov))):=by unfold jf r6;rw[oL,oL,NS]
def amh(g:aU F h){a b:Nat}(z:a<I h)(A:b<I h):
  (sV F h a b).isSome=JO F h a b/\
  ∀L,sV F h a b=some L->gq L ((kr h [a,nx h a,b,nx h b]).map (ot [(aV h a).id,(aV h (nx h a)).id])) (kr (eR h) [a,nx h a,b,nx h b]):=by
 have Y:=g.Cs a;have Z:=g.Cs b;have na:=g.NV z;have nb:=g.NV A;have E:=iQ z;have H:=iQ Y;have O:=iQ A;have y:=iQ Z;have Dk:(((jf h a true&&jf h b false)||(jf h a false&&jf h b true))&&(!((bR h a).l.id==(bR h (nx h a)).l.id)&&
  (((((bR h b).l.id==(bR h a).l.id)&&((bR h (nx h b)).l.id==(bR h (nx h a)).l.id))||(((bR h b).l.id==(bR h (nx h a)).l.id)&&((bR h (nx h b)).l.id==(bR h a).l.id)))&&
  (!((a+2)%I h==b)&&(!((b+2)%I h==a)&&pN F h 0 [a,b] a)))))=JO F h a b:=by
  rw[Ft rfl z];unfold JO;simp only[acm,oL];have e1:((a+2)%I h==b)=((((a+2)%I h:Nat):Int)==(b:Int)):=by rw[sv];simp only[cW];omega
  have e2:((b+2)%I h==a)=((((b+2)%I h:Nat):Int)==(a:Int)):=by rw[sv];simp only[cW];omega
  rw[e1,e2];have s1:((aV h b).id==(aV h a).id)=((aV h a).id==(aV h b).id):=t8
  have s2:((aV h (nx h b)).id==(aV h (nx h a)).id)=((aV h (nx h a)).id==(aV h (nx h b)).id):=t8
  have xj:((aV h b).id==(aV h (nx h a)).id)=((aV h (nx h a)).id==(aV h b).id):=t8
  have Bl:((aV h (nx h b)).id==(aV h a).id)=((aV h a).id==(aV h (nx h b)).id):=t8
  rw[s1,s2,xj,Bl];generalize r6 h a=p1;generalize r6 h b=p2;generalize((aV h a).id==(aV h (nx h a)).id)=p3;generalize((((a+2)%I h:Nat):Int)==(b:Int))=p4;generalize((((b+2)%I h:Nat):Int)==(a:Int))=p5;generalize((aV h a).id==(aV h b).id)=p6;generalize((aV h (nx h a)).id==(aV h (nx h b)).id)=p7;generalize((aV h (nx h a)).id==(aV h b).id)=p8;generalize((aV h a).id==(aV h (nx h b)).id)=p9;generalize mZ F h 0 [a,b]=Bp;generalize(aV h a).over=o1;generalize(aV h b).over=o2;generalize(aV h (nx h a)).over=o3;generalize(aV h (nx h b)).over=o4;cases p1<;>cases p2<;>cases p3<;>simp
  all_goals(cases o1<;>cases o2<;>cases o3<;>cases o4<;>simp)
  all_goals(cases p6<;>cases p7<;>cases p8<;>cases p9<;>cases p4<;>cases p5<;>simp)
 unfold sV;rw[Dk];refine⟨by split<;>simp_all,λL N=>?_⟩;split at N
 .rename_i R;cases N;unfold JO at R;simp only[cF,nK,gH,cW,nj]at R;obtain⟨f,n,c4,fv,c5,fZ,Bo,Hv,tc,_⟩:=R;unfold r6 at f n;simp only[cF,cW]at f n;have T:=Cy f.1;have v:=Cy f.2;have kb:=Cy n.1;have u:=Cy n.2;have hk:mK (aJ h) (qH [(bR h a).l.id,(bR h (nx h a)).l.id])=kr (aJ h) [a,nx h a,b,nx h b]:=by
   rw[oL,oL];refine XQ _ _ _ λi p hp=>?_;have X:i<I h:=by have:=(bN.1 hp).1;rwa[dI]at this
   have B:h[i]?=some p.l:=by rw[gX (iQ X)]at hp;cases hp;exact iQ X
   unfold qH;simp only[cF,cW,Vt,dh,e_,or_false,fL];constructor
   .rintro ⟨q1,Q⟩
    have x:=Cy q1;have over:∀ {i j:Nat}{l m:U},h[i]?=some l->h[j]?=some m->l.over≠m.over->i≠j:=λab k ho e=>by subst e;rw[ab]at k;cases k;exact ho rfl
    rcases Q with Q|Q<;>rcases fZ with⟨M,D⟩|⟨M,D⟩
    .rcases g.three E O B T kb x M Q.symm (λe=>tc aIC)with e|e<;>subst e<;>simp
    .rcases g.three E y B T u x M Q.symm (over E y (by rw[<-Hv];exact tc))with e|e<;>subst e<;>simp
    .rcases g.three H y B v u x D Q.symm (over H y (by rw[<-Hv,<-Bo];exact tc))with e|e<;>subst e<;>simp
    rcases g.three H O B v kb x D Q.symm (over H O (by rw[<-Bo];exact tc))with e|e<;>subst e<;>simp
   have get:∀j,j<I h->i=j->p.l=aV h j:=λj hj e=>by subst e;rw[iQ hj]at B;exact(mQ B).symm
   rintro(e|e|e|e)
   .rw[get _ z e];exact⟨f.1,.inl rfl⟩
   .rw[get _ Y e];exact⟨f.2,.inr rfl⟩
   .rw[get _ A e];exact⟨n.1,fZ.elim (λd=>.inl d.1.symm) (λd=>.inr d.2.symm)⟩
   rw[get _ Z e];exact⟨n.2,fZ.elim (λd=>.inr d.2.symm) (λd=>.inl d.1.symm)⟩
  show gq ((mK (aJ h) (qH [(bR h a).l.id,(bR h (nx h a)).l.id])).map (kY [(bR h a).l.id,(bR h (nx h a)).l.id])) _ _;rw[hk,oL,oL];exact((gq.base h).wo _).map λp _=>agM _ p
 cases N
end
structure WK {α:Type} (lt:α->α->Bool):Prop where
 asym:∀a b,lt a b->lt b a=false
 ntrans:∀a b c,lt b a=false->lt c b=false->lt c a=false
def xQ{α:Type}(lt:α->α->Bool)(A:List α)(a b:Nat):Prop:=∀p q x y,a<=p->p<q->q<b->A[p]?=some x->A[q]?=some y->lt y x=false
structure Ca {α:Type} (lt:α->α->Bool) (zs ws:List α) (x:α) (a i j:Nat):Prop where
 perm:ws.Perm zs
 le:a<=j/\j<=i/\i<I ws
 at':ws[j]?=some x
 up:∀p y,j<p->p<=i->ws[p]?=some y->lt x y
 so:∀p q y z,a<=p->p<q->q<=i->p≠j->q≠j->ws[p]?=some y->ws[q]?=some z->lt z y=false
 out:∀p,p<a\/i<p->ws[p]?=zs[p]?
def Ca.start{α:Type}{lt:α->α->Bool}{zs:List α}{x:α}{a i:Nat}(m:a<=i)(h:zs[i]?=some x)(af:xQ lt zs a i):Ca lt zs zs x a i i:=
 ⟨.refl _,⟨m,cP _,(bN.1 h).1⟩,h,λp y H f=>J,λp q y z j H f n u=>af p q y z j H J,λ_ _=>rfl⟩
def awC{α:Type}{A:List α}{i:Nat}{x y:α}(n:A[i]?=some x)(h:A[j]?=some y):((A.set i y).set j x).Perm A:=by obtain⟨f,E⟩:=bN.1 n;obtain⟨H,m⟩:=bN.1 h;have:=List.set_set_perm f H;rwa[E,m]at this
def Ca.step{α:Type}{lt:α->α->Bool}{zs A:List α}{x y:α}{a i:Nat}(o:WK lt)(h:Ca lt zs A x a i (j+1))(N:a<=j)(B:A[j]?=some y)(O:lt x y):
  Ca lt zs ((A.set (j+1) y).set j x) x a i j:=by
 obtain⟨hp,⟨_,ab,hl⟩,Q,Z,F,Y⟩:=h;have get:∀p,((A.set (j+1) y).set j x)[p]?=if p=j then some x else if p=j+1 then some y else A[p]? :=λp=>by
  rw[qt,qt,oF];by_cases D:j=p
  .subst D;simp[(bN.1 B).1]
  by_cases E:j+1=p
  .subst E;have:¬(j+1=j):=J;rw[aE D,aI rfl,aI J,aE this,aI rfl]
  rw[aE D,aE E,aE (λh=>D h.symm),aE (λh=>E h.symm)]
 refine⟨(awC Q B).trans hp,⟨N,J,by simp;omega⟩,by rw[get];simp,?_,?_,?_⟩
 .intro p z M n m;rw[get,aE J]at m;by_cases e:p=j+1
  .rw[aI e]at m;cases m;exact O
  rw[aE e]at m;exact Z p z J n m
 .intro p q u v L M n X R f H;rw[get,aE X]at f;rw[get,aE R]at H;by_cases e:p=j+1
  .rw[aI e]at f;cases f;rw[aE J]at H;exact F j q _ _ N J n J J B H
  rw[aE e]at f;by_cases E:q=j+1
  .rw[aI E]at H;cases H;exact F p j _ _ L J J e J f B
  rw[aE E]at H;exact F p q _ _ L M n e E f H
 intro p T;rw[get,aE J,aE J,Y p T]
def Ca.stop{α:Type}{lt:α->α->Bool}{zs A:List α}{x:α}{a i:Nat}(o:WK lt)(h:Ca lt zs A x a i j)(n:j=a\/ ∃y,a<j/\A[j-1]?=some y/\lt x y=false):xQ lt A a (i+1):=by
 obtain⟨hp,⟨z,M,hl⟩,m,Z,D,Q⟩:=h;intro p q u v F L O H f;by_cases e:q=j
 .subst e;rw[m]at f;cases f;rcases n with n|⟨y,T,E,B⟩
  .omega
  by_cases R:p=q-1
  .grind
  exact o.ntrans _ _ _ (D p (q-1) _ _ F J J J J H E) B
 by_cases N:p=j
 .subst N;rw[m]at H;cases H;exact o.asym _ _ (Z q v L J f)
 grind
def xQ.mono{α:Type}{lt:α->α->Bool}{A:List α}{a b c:Nat}(h:xQ lt A a c)(H:b<=c\/I A<=c):xQ lt A a b:=λp q x y m j u n f=>h p q x y m j (by
 rcases H with H|H
 .omega
 have:=(bN.1 f).1;omega) n f
abbrev xU(a b:Int):Bool:=decide (a<b)
def acE:WK xU:=⟨λa b h=>by simp at*;omega,λa b c h k=>by simp at*;omega⟩
def azL(a:Int):aC S 234 [ai a] (cK false):=by refine ba aCY ?_;have h:(a !=a)=false:=aG;simp only[go_sem,ai2,h]
def av0(a b:Int):aC S 214 [ai a,ai b] (cK (xU a b)):=by refine ba aFz ?_;simp only[go_sem,ake,aAi,cS (azL a),xU]
def adQ(n:Nat)(h:n<=1000000):∃k:Int,aC S 134 [.one (.p (.int .u64 n))] (fH k):=by
 refine⟨((Lib.bitLen n:Nat):Int),⟨1,?_⟩⟩;have hp:S.prim 134 [.one (.p (.int .u64 (n:Int)))]=some (some (fH ((Lib.bitLen n:Nat):Int))):=by
  show some _=_;simp[UP]
  grind
 rw[lk,hp]
def aax(o:cT)(k:Nat)(v:Int):(fm o).set k [.int .i64 v]=fm (o.set k v):=by simp[vt]
def rC(o:cT):I (fm o)=I o:=ct _
def VM(lt:Int->Int->Bool)(id g N:Nat)(m:cT)(blk:aH)(v:V)(f:aH):Prop:=v=.tup []/\(∃A:cT,f id=(g,some (.arr N 1 (fm A)))/\A.Perm m/\xQ lt A 0 (I A))/\dk (· =id) blk f
def ayL{al:cD}{blk:aH}{id g:Nat}(o:al.ok id)(hl:I m<=1000000)(hC:blk id=(g,some (.arr N 1 (fm m)))):
  ∃v f,ja S 208 [.one (.hsl id g 1 0 (I m)),ai 0,ai (I m)] al blk v f/\VM xU id g N m blk v f:=by
 refine mL axr (jg rfl) ?_;have w0:IntKind.i64.wrap (0+1)=((0+1:Nat):Int):=aa;simp only[go_sem,ahp];refine cZ (λk B f=>B 0=.one (.hsl id g 1 0 (I m))/\B 1=ai 0/\B 2=ai (I m)/\B 6=ai ((k+1:Nat):Int)/\ ∃zs:cT,f id=(g,some (.arr N 1 (fm zs)))/\zs.Perm m/\xQ xU zs 0 (k+1)/\dk (· =id) blk f) 0 (I m) (bj _) ?_ ?_
 .simp only[go_sem];exact⟨rfl,m,hC,.refl _,λp q x y _ h1 n=>J,dk.refl _ _⟩
 rintro k B cE hk ⟨h0,h1,n,T,zs,hZ,hp,af,dm⟩
 have mj:=hp.length_eq;by_cases aw:k+1<I m
 .have F:((k+1:Nat):Int)<(I m:Int):=J;obtain⟨x,hx⟩:=aP (h:=zs) (k:=k+1) J;simp only[go_sem,ac4,n,T,F];refine cZ (λq B f=>B 0=.one (.hsl id g 1 0 (I m))/\B 1=ai 0/\B 2=ai (I m)/\B 6=ai ((k+1:Nat):Int)/\B 7=ai ((k+1-q:Nat):Int)/\ ∃A:cT,f id=(g,some (.arr N 1 (fm A)))/\Ca xU zs A x 0 (k+1) (k+1-q)/\dk (· =id) blk f) 0 (k+1) (bj _) ?_ ?_
  .simp only[go_sem,h0,h1,n,T];exact⟨zs,hZ,Ca.start (bj _) hx af,dm⟩
  rintro q dq bt hq ⟨M,D,X,R,u,A,L,H,O⟩
  have wB:=H.perm.length_eq.trans mj;have wk:IntKind.i64.wrap (((k+1:Nat):Int)+1)=((k+1+1:Nat):Int):=cg J;by_cases Dt:k+1-q=0
  .have E:¬((0:Int)<((k+1-q:Nat):Int)):=J;simp only[go_sem,Uf,Xl,M,D,X,R,u,E,wk];refine⟨aK,J,A,L,H.perm.trans hp,H.stop acE (.inl Dt),O⟩
  obtain⟨j,hj⟩:∃j,k+1-q=j+1:=⟨k-q,J⟩;have E:((0:Int)<((j+1:Nat):Int)):=J;obtain⟨y,Q⟩:=aP (h:=A) (k:=j) J;rw[hj]at H u;have Z:IntKind.i64.wrap (((j+1:Nat):Int)-1)=(j:Int):=by rw[sq J];omega
  have sQ:=yL H.at';have zT:=yL Q;have Y:j+1<I m:=by have:=H.le;omega
  have j2:j<I m:=J;have pl:=av0 x y;cases z:xU x y with
  |false=>rw[z]at pl;simp only[go_sem,Uf,Xl,M,D,X,R,u,E,wk,Z,L,sQ,zT,Y,j2,o,aoQ,RM pl];refine⟨aK,J,A,rfl,H.perm.trans hp,H.stop acE (.inr ⟨y,J,Q,z⟩),O⟩
  |true=>rw[z]at pl;have yt:=H.step acE (bj _) Q z;have QA:¬(j+1=j):=J;have l2:j<I A:=J;simp only[go_sem,Uf,Xl,M,D,X,R,u,E,Z,L,sQ,zT,Y,j2,QA,o,aoQ,RM pl,qt,rC];have GG:k+1-(q+1)=j:=J;refine⟨aK,aK,J,by rw[GG],(A.set (j+1) y).set j x,by rw[aax,aax],by rw[GG];exact yt,(O.dz rfl _).dz rfl _⟩
 have F:¬(((k+1:Nat):Int)<(I m:Int)):=J;simp only[go_sem,ac4,n,T,F];exact⟨rfl,⟨zs,hZ,hp,af.mono (.inl J)⟩,dm⟩
def Bi{Q:ib}{al:cD}{B:bP}{blk:aH}{os:fx}{d:eF}{id g N o:Nat}{m:dy}{P:V->aH->Prop}(H:blk id=(g,some (.arr N z m)))(u:(T.map (mI blk)).flatten=[])(y:al=.all\/al.ok id/\(S.sites f).all al.fs.contains)
  (h:∀j,j.ok id->j.fs=S.sites f->∃v A,ja S f (.one (.hsl id g z o n)::T) j blk v A/\P v A)
  (E:∀v A,P v A->jC S al os Q (dL B d v) A):jW S al (.sc f (.one (.hsl id g z o n)::T)) d os Q B blk:=by
 have D:((V.one (.hsl id g z o n)::T).map (mI blk)).flatten=[id]:=by rw[fq,tR,u,JR H];rfl
 refine rG ?_ (h _ (uI ii) rfl) E;rcases y with rfl|⟨F,x⟩
 .rfl
 refine Mk ?_ x;show al.iG ((V.one _::T).map _).flatten=true;rw[D];simp[cD.iG,F]
def aG6{al:cD}{blk:aH}{id g:Nat}(o:al.ok id)(F:al.fs.contains 208)(hl:I m<=12)(h:blk id=(g,some (.arr N 1 (fm m))))(L:Int):
  ∃v A,ja S 186 [.one (.hsl id g 1 0 (I m)),ai 0,ai (I m),ai L] al blk v A/\VM xU id g N m blk v A:=by
 refine mL aDJ (jg rfl) ?_;have f:IntKind.i64.wrap ((I m:Int)-0)=(I m:Int):=by rw[Int.sub_zero];exact iS J J
 have M:(I m:Int)<=12:=J;simp only[go_sem,alX];refine oG ?_;simp only[go_sem,ant,f,M,aEO];refine Bi h aH6 (.inr ⟨o,by rw[show S.sites 208=[208] by kernel_rfl];simp only[vO,Br,F,Bu]⟩) (λQ n _=>ayL n J h) λv A j=>?_;obtain⟨rfl,H⟩:=j;simp only[go_sem];exact⟨rfl,H⟩
def Yj{al:cD}{blk:aH}{id g:Nat}(o:al.ok id)(F:(S.sites 186).all al.fs.contains)(hl:I m<=12)(H:blk id=(g,some (.arr N 1 (fm m)))):
  ∃v A,ja S 135 [.one (.hsl id g 1 0 (I m))] al blk v A/\VM xU id g N m blk v A:=by
 obtain⟨k,pb⟩:=adQ (I m) J;have n:IntKind.u64.wrap (I m:Int)=(I m:Int):=by
  have e:IntKind.u64.wrap (I m:Int)=(I m:Int)%18446744073709551616:=aH6
  rw[e];omega
 refine mL aAv (jg rfl) ?_;have f:S.shared 134=false:=ah;simp only[go_sem,ak0,n,f,Uw pb,aDc];refine Bi H aH6 (.inr ⟨o,F⟩) (λQ u h=>aG6 u aIq hl H k) λv A j=>?_;obtain⟨rfl,h⟩:=j;simp only[go_sem];exact⟨rfl,h⟩
def oO(A:cT):Nat->cT
 |0=>[]
 |k+1=>match A[k]? with
  |some x=>if 0<k/\A[k-1]?=some x then oO A k else oO A k++[x]
  |none=>oO A k
def agv(A:cT):∀k,I (oO A k)<=k:=by
 intro k
 induction k with
 |zero=>exact cP _
 |succ k f=>grind [oO]
def X8{k:Nat}(h:A[k+1]?=some x)(hp:A[k]?=some x):oO A (k+2)=oO A (k+1):=by
 conv=>lhs;unfold oO
 rw[h];simp[hp]
def Yc{k:Nat}{y:Int}(h:A[k+1]?=some x)(hp:A[k]?=some y)(H:¬x=y):oO A (k+2)=oO A (k+1)++[x]:=by grind [oO]
def avh(h:A[0]?=some x):oO A 1=[x]:=by simp[oO,h]
def SP(A:cT)(k:Nat):Prop:=∀i x y,i+1<k->A[i]?=some x->A[i+1]?=some y-> ¬y=x
def aeT:∀k,k<=I A->SP A k->oO A k=A.take k:=by
 intro k
 induction k with
 |zero=>intro _ _;rfl
 |succ k m=>
  intro u n;obtain⟨x,H⟩:=aP (h:=A) (k:=k) J;have j:A.take (k+1)=A.take k++[x]:=by rw[jM,H];rfl
  rcases k with _|k
  .rw[avh H,j];rfl
  obtain⟨y,f⟩:=aP (h:=A) (k:=k) J;rw[Yc H f (n k y x J f H),m J λi x y v=>n i x y J,j]
structure BH (ws cs:cT) (k q:Nat):Prop where
 len:I cs=I ws
 kl:k=I (oO ws q)
 pre:cs.take k=oO ws q
 out:∀p,q-1<=p->cs[p]?=ws[p]?
 kq:k<q
def BH.step{k q:Nat}{y:Int}(h:BH A H k (q+1))(f:A[q+1]?=some x)(j:A[q]?=some y)(m:¬x=y):BH A (H.set k x) (k+1) (q+2):=by
 obtain⟨u,n,v,B,D⟩:=h;have hl:=agv A (q+1);have z:=(bN.1 f).1;refine⟨by simpa using u,by rw[Yc f j m,iM,<-n];rfl,?_,λp hp=>?_,J⟩
 .rw[Yc f j m,jM,qt];have:k<I H:=J;rw[aI rfl,aI this,X0 (cP _),v];rfl
 grind
def BH.skip{k q:Nat}(h:BH A H k (q+1))(j:A[q+1]?=some x)(f:A[q]?=some x):BH A H k (q+2):=by obtain⟨u,m,v,n,y⟩:=h;exact⟨u,by rw[X8 j f];exact m,by rw[X8 j f];exact v,λp hp=>n p J,J⟩
def BH.start{k:Nat}(j:k+1<I A)(h:SP A (k+1))(H:A[k+1]?=some x)(f:A[k]?=some x):BH A A (k+1) (k+2):=by have E:=(X8 H f).trans (aeT _ J h);exact⟨rfl,by rw[E];simp;omega,by rw[E],λ_ _=>rfl,J⟩
def ayq(id g N:Nat)(A:cT)(blk:aH)(v:V)(f:aH):Prop:=v=.one (.hsl id g 1 0 (I (oO A (I A))))/\(∃H:cT,f id=(g,some (.arr N 1 (fm H)))/\I H=I A/\H.take (I (oO A (I A)))=oO A (I A))/\dk (· =id) blk f
def awz{k:Nat}(h:k<=I H):List.take k (fm H)++List.replicate (I H-k) [PV.int .i64 0]++List.drop (k+(I H-k)) (fm H)=fm (H.take k++List.replicate (I H-k) 0):=by simp_all
def ano{al:cD}{blk:aH}{id g:Nat}(o:al.ok id)(hl:I A<=1000000)(m:blk id=(g,some (.arr N 1 (fm A)))):
  ∃v j,ja S 161 [.one (.hsl id g 1 0 (I A))] al blk v j/\ayq id g N A blk v j:=by
 refine mL arR (jg rfl) ?_;by_cases h2:I A<2
 .have j8:((I A:Int)<2):=J;have D:SP A (I A):=λi x y ar=>J;have e:=aeT (I A) (cP _) D;rw[lN]at e;simp only[go_sem,acF,j8];exact⟨by rw[e],⟨A,m,rfl,by rw[e,lN]⟩,dk.refl _ _⟩
 have j8:¬((I A:Int)<2):=J;simp only[go_sem,acF,j8];refine cZ (λq B j=>B 0=.one (.hsl id g 1 0 (I A))/\B 3=ai ((q+1:Nat):Int)/\SP A (q+1)/\j=blk) 0 (I A) (bj _) ?_ ?_
 .simp only[go_sem];exact⟨rfl,λi x y ar=>J⟩
 rintro q B cE hq ⟨O,M,D,rfl⟩
 by_cases Q:q+1<I A
 .have L:(((q+1:Nat):Int)<(I A:Int)):=J;obtain⟨x,hx⟩:=aP Q;obtain⟨y,hy⟩:=aP (h:=A) (k:=q) J;have sQ:=yL hx;have zT:=yL hy;have wj:IntKind.i64.wrap (((q+1:Nat):Int)-1)=(q:Int):=by rw[sq J];omega
  have wk:=cg (n:=q+1) J;have q1:q<I A:=J;have q2:q+1<=I A:=J;by_cases e:x=y
  .subst e;simp only[go_sem,Ue,O,M,Q,L,sQ,zT,wj,q1,q2,m,o];refine⟨aK,?_⟩;refine cZ (λr B j=>B 0=.one (.hsl id g 1 0 (I A))/\B 4=.one (.hsl id g 1 (q+1) (I A-(q+1)))/\B 5=ai ((r+1:Nat):Int)/\ ∃(H:cT) (k:Nat),B 3=ai (k:Nat)/\j id=(g,some (.arr N 1 (fm H)))/\BH A H k (q+2+r)/\q+2+r<=I A/\dk (· =id) cE j) 0 (I A) (bj _) ?_ ?_
   .simp only[go_sem,O];exact⟨rfl,A,q+1,M,m,BH.start Q D hx hy,J,dk.refl _ _⟩
   rintro r dq bt hr ⟨k0,k4,X,H,k,R,hB,f,an,dm⟩
   have eh:=f.len;have fR:=f.kl;have am:=agv A (q+2+r);have ap:=f.kq;have MP:BH A H k (q+1+r+1):=by rw[show q+1+r+1=q+2+r by omega];exact f
   by_cases Iq:r+1<I A-(q+1)
   .have F:(((r+1:Nat):Int)<((I A-(q+1):Nat):Int)):=J;obtain⟨u,Z⟩:=aP (h:=A) (k:=q+1+(r+1)) J;obtain⟨v,hv⟩:=aP (h:=A) (k:=q+1+r) J;have cu:=yL ((f.out (q+1+(r+1)) J).trans Z);have cv:=yL ((f.out (q+1+r) J).trans hv);have wr:IntKind.i64.wrap (((r+1:Nat):Int)-1)=(r:Int):=by rw[sq J];omega
    have ON:=cg (n:=r+1) J;have ab:=cg (n:=k) J;have r1:r<I A-(q+1):=J;have kk:k<I A:=J;have Ri:k<I H:=J;obtain⟨z,hz⟩:=aP Ri;have cz:=yL hz;by_cases E:u=v
    .subst E;have KA:(u !=u)=false:=aG;have Y:=MP.skip act hv;simp only[go_sem,UB,k0,k4,X,R,Iq,F,r1,hB,cu,cv,wr,ON,KA,o];refine⟨aK,J,H,k,rfl,rfl,by rw[show q+2+(r+1)=q+1+r+2 by omega];exact Y,J,dm⟩
    have KA:=(show(u !=v)=true by simp[E]);simp only[go_sem,UB,k0,k4,X,R,Iq,F,r1,hB,cu,cv,wr,ON,ab,kk,cz,KA,o];have Y:=MP.step act hv E;refine⟨aK,J,H.set k u,k+1,rfl,by rw[aax],by rw[show q+2+(r+1)=q+1+r+2 by omega];exact Y,J,dm.dz rfl _⟩
   have F:¬(((r+1:Nat):Int)<((I A-(q+1):Nat):Int)):=J;have ad:k<=I A:=J;have ag:k+(I A-k)<=I H:=J;have aN:¬(I A-k=0):=J;have Qp:q+2+r=I A:=J;rw[Qp]at f;have rT:=awz (H:=H) (k:=k) J;rw[eh]at rT;simp only[go_sem,UB,anV,k0,k4,X,R,F,hB,o,ad,ag,aN,RK,rC,rT];obtain⟨i1,i2,i3,i4,i5⟩:=f;refine⟨by rw[<-i2],⟨_,Ao,by simp;omega,?_⟩,dm.dz rfl _⟩;rw[<-i2,List.take_left' fd,i3]
  have e1:=(show(x==y)=false by simp[e]);simp only[go_sem,Ue,ajt,O,M,Q,L,sQ,zT,wj,wk,q1,m,o,e1];refine⟨aK,λi u v ar T h5=>?_⟩;by_cases E:i=q
  .subst E;rw[hy]at T;rw[hx]at h5;cases T;cases h5;exact e
  exact D i u v J T h5
 have L:¬(((q+1:Nat):Int)<(I A:Int)):=J;have e:=aeT (I A) (cP _) (λi x y ar=>D i x y J);rw[lN]at e;simp only[go_sem,Ue,afT,O,M,L];exact⟨by rw[e],⟨A,m,rfl,by rw[e,lN]⟩,dk.refl _ _⟩
def jO:cT->cT
 |[]=>[]
 |x::r=>if x∈r then jO r else x::jO r
theorem AA:∀ {l:cT},x∈jO l↔x∈l:=by
 intro l
 induction l with
 |nil=>simp[jO]
 |cons y r f=>
  unfold jO
  grind
def auz:∀l:cT,(jO l).Nodup:=by
 intro l
 induction l with
 |nil=>exact pW
 |cons y r f=>grind [jO,AA]
def alB:∀k,k<=I A->(x∈oO A k↔x∈A.take k):=by
 intro k
 induction k with
 |zero=>intro _;simp[oO]
 |succ k f=>grind [oO,List.mem_take_iff_getElem]
def aA0(af:xQ xU A 0 (I A)):∀k,k<=I A->(oO A k).Nodup:=by
 intro k
 induction k with
 |zero=>intro _;exact pW
 |succ k f=>
  intro D;obtain⟨y,j⟩:=aP (h:=A) (k:=k) J;have f:=f J;unfold oO;rw[j];simp only;split
  .exact f
  rename_i E;rw[SK];refine⟨f,aG,λz n w H=>?_⟩;simp at H;subst H;rintro rfl
  rw[alB k J,List.mem_take_iff_getElem]at n;obtain⟨p,hp,N⟩:=n;obtain⟨u,m⟩:=aP (h:=A) (k:=k-1) J;have x:=af _ k u z (bj _) J J m j;have v:u=z:=by
   by_cases e:p=k-1
   .grind
   have B:=af p _ z u (bj _) J J ii m;simp at x B;omega
  grind
def aiU(hp:A.Perm m)(af:xQ xU A 0 (I A)):I (oO A (I A))=I (jO m):=by refine List.Perm.length_eq ((Ob (aA0 af _ (cP _)) (auz m)).2 λx=>?_);rw[alB _ (cP _),lN,AA,hp.mem_iff]
def tz(h:ae)(e:Nat):Bool:=((bR h e).l.kind==2)&&((bR h (nx h e)).l.kind==2)
def pG(h:ae)(m:aD):cT:=m.flatMap λe:Nat=>[(e:Int),(nx h e:Int)]
def tY(h:ae)(m:aD):cT:=m.flatMap λe:Nat=>[(bR h e).l.id,(bR h (nx h e)).l.id]
def G9(F:Nat)(h:ae)(a b c:Nat):Bool:=[a,b,c].all (tz h)&&((I (jO (pG h [a,b,c]))==6)&&((I (jO (tY h [a,b,c]))==3)&&([a,b,c].any (jf h · true)&&([a,b,c].any (jf h · false)&&pN F h 0 [a,b,c] a))))
def uA(F:Nat)(h:ae)(a b c:Nat):Option bK:=if G9 F h a b c then some (dY h (aJ h) [a,b,c])else none
def U1(f:Nat->cT)(hf:∀e,I (f e)=2):∀l:aD,I (l.flatMap f)=2*I l:=by
 intro l
 induction l with
 |nil=>rfl
 |cons a r h=>rw[FY,iM,h,hf,fF];omega
def apm(f:Nat->cT)(l:aD)(k e:Nat)(h:l[k]?=some e):(l.take (k+1)).flatMap f=(l.take k).flatMap f++f e:=by rw[jM,h];simp
def ane(f:Nat->Bool)(l:aD)(k e:Nat)(h:l[k]?=some e):(l.take (k+1)).any f=((l.take k).any f||f e):=by rw[jM,h];simp
def aqP(f:Nat->Bool)(l:aD)(k e:Nat)(h:l[k]?=some e):(l.take (k+1)).all f=((l.take k).all f&&f e):=by rw[jM,h];simp
def akC(f:Nat->cT)(m:aD)(x y:Int):fm (m.flatMap f)++[[PV.int .i64 x],[PV.int .i64 y]]=fm (m.flatMap f++[x,y]):=aG
def axF(g:aU F h)(ha:O<I h)(hb:bv<I h)(hc:cv<I h){k:Int}{l o:Bool}{sg:Int}:
  aC S 121 [.one (.p (fk F h)),c6 k O bv cv l o sg] (vu (uA F h O bv cv)):=by
 have a4:=g.len;have bQ:=dI h;have fD:∀e∈[O,bv,cv],e<I h:=λe a5=>by simp at a5;rcases a5 with rfl|rfl|rfl<;>assumption
 generalize Y:[O,bv,cv]=m at*;have eo:I m=3:=by rw[<-Y];rfl
 have Kp:aY [O,bv,cv]=[[.int .i64 O],[.int .i64 bv],[.int .i64 cv]]:=rfl;rw[Y]at Kp;have w3:((3:Nat):Int)=3:=rfl;refine ba azq ?_;simp only[go_sem,anv];refine cZ (λj B blk=>B 0=.one (.p (fk F h))/\B 6=.one (.hsl 7744064384 1 1 0 3)/\B 22=.one (.hsl 7744064384 1 1 0 3)/\B 23=ai 3/\B 24=ai j/\blk 7744064384=(1,some (.arr 3 1 (aY m)))/\(m.take j).all (tz h)/\
  B 9=iB ((m.take j).any (jf h · true))/\B 10=iB ((m.take j).any (jf h · false))/\ ∃Bo Hv,B 7=.one Bo/\B 8=.one Hv/\a_ 7744640256 3 1 (fm (pG h (m.take j))) (.one Bo) blk/\a_ 7744705280 3 1 (fm (tY h (m.take j))) (.one Hv) blk) 0 3 (bj _) ?_ ?_
 .simp only[go_sem];exact⟨rfl,rfl,by rw[Kp],rfl,rfl,_,_,rfl,rfl,a_.nil,a_.nil⟩
 rintro j B blk hj ⟨R,h6,qA,tE,pY,b6,im,y,E,Bo,Hv,h7,h8,g7,g8⟩
 by_cases aw:j<3
 .have aL:((j:Int)<3):=J;obtain⟨e,D⟩:=aP (h:=m) (k:=j) J;have Gv:=fD e (a8 D);have A9:=i_ D;have pe:=FB g Gv;have hm:=dB (e+1) (show 0<I h by omega);obtain⟨P,H⟩:=aP (h:=aJ h) (k:=e) J;obtain⟨Q,hQ⟩:=aP (h:=aJ h) (k:=(e+1)%I h) J;have rM:=kA H;have X:=kA hQ;have w1:=cg (n:=j) J;have po:=Lh g Gv true;have pu:=Lh g Gv false;have Z:tz h e=((P.l.kind==2)&&(Q.l.kind==2)):=by unfold tz;rw[jL H,jL hQ]
  have bb:I (fm (pG h (m.take j)))<=100:=by unfold pG;rw[rC,U1 _ (λ_=>rfl),ko];omega
  have a9:I (fm (tY h (m.take j)))<=100:=by unfold tY;rw[rC,U1 _ (λ_=>rfl),ko];omega
  have ef:tz h e=false->uA F h O bv cv=none:=λa5=>by
   have:m.all (tz h)=false:=by
    cases hh:m.all (tz h)with
    |false=>rfl
    |true=>rw[mz.1 hh e (a8 D)]at a5;cases a5
   unfold uA G9;rw[Y,this];rfl
  cases k1:(P.l.kind==2)with
  |false=>
   rw[k1]at Z;have x:(P.l.kind !=2):=by simp only[bne,k1];rfl
   rw[ef Z];simp only[go_sem,Q_,R,qA,tE,pY,b6,aw,aL,A9,oK,dt pe kR,rM,aQ.ps,x];rfl
  |true=>
   have x:(P.l.kind !=2)=false:=by simp only[bne,k1];rfl
   cases k2:(Q.l.kind==2)with
   |false=>
    rw[k1,k2]at Z;have N:(Q.l.kind !=2):=by simp only[bne,k2];rfl
    rw[ef Z];simp only[go_sem,Q_,R,qA,tE,pY,b6,aw,aL,A9,oK,dt pe kR,rM,X,aQ.ps,x,N];rfl
   |true=>
    rw[k1,k2]at Z;have N:(Q.l.kind !=2)=false:=by simp only[bne,k2];rfl
    simp only[go_sem,Q_,R,h7,qA,tE,pY,b6,aw,aL,A9,oK,dt pe kR,rM,X,aQ.ps,x,N];refine mO (B:=[[.int .i64 (e:Nat)],[.int .i64 ((e+1)%I h:Nat)]]) (g7.of_eq (cJ aa)) f0 (.inl rfl) H1 λd7 cE ap cU=>?_;have q6:=cU 7744064384 aa aa;simp only[go_sem,b6]at q6;have az:=g8.of_eq ((cU 7744705280 aa aa).trans (cJ aa));simp only[go_sem,R,h8,rM,X,aQ.ps];refine oT (B:=[[.int .i64 P.l.id],[.int .i64 Q.l.id]]) (az.of_eq (cJ aa)) f0 (.inl rfl) H1 λd8 bt r w a1 bh hw=>?_
    have p6:=(bh 7744064384 aa aa).trans ((cJ aa).trans q6);have a3:=ap.of_eq ((bh 7744640256 aa aa).trans (cJ aa));simp only[go_sem];refine⟨?_,?_⟩
    .rcases hw with⟨rfl,rfl⟩|⟨rfl,rfl⟩|⟨rfl,rfl⟩<;>kernel_rfl
    generalize aF:(m.take j).any (jf h · true)=x9 at y;generalize aB:(m.take j).any (jf h · false)=FO at E;have e9:=ane (jf h · true) m j e D;have ad:=ane (jf h · false) m j e D;have eA:=aqP (tz h) m j e D;rw[aF]at e9;rw[aB]at ad;rw[im,Z]at eA;have G7:a_ 7744640256 3 1 (fm (pG h (m.take (j+1)))) (.one d7) bt:=by have:=akC (λe:Nat=>[(e:Int),(nx h e:Int)]) (m.take j) e (nx h e);have u:=apm (λe:Nat=>[(e:Int),(nx h e:Int)]) m j e D;rw[show pG h (m.take (j+1))=(m.take j).flatMap (λe:Nat=>[(e:Int),(nx h e:Int)])++[(e:Int),(nx h e:Int)]from u,<-this];exact a3
    have G8:a_ 7744705280 3 1 (fm (tY h (m.take (j+1)))) (.one d8) bt:=by have:=akC (λe:Nat=>[(bR h e).l.id,(bR h (nx h e)).l.id]) (m.take j) (bR h e).l.id (bR h (nx h e)).l.id;have u:=apm (λe:Nat=>[(bR h e).l.id,(bR h (nx h e)).l.id]) m j e D;rw[show tY h (m.take (j+1))=(m.take j).flatMap (λe:Nat=>[(bR h e).l.id,(bR h (nx h e)).l.id])++[(bR h e).l.id,(bR h (nx h e)).l.id]from u,<-this,jL H,show bR h (nx h e)=Q from jL hQ];exact a1
    cases x9<;>cases FO<;>simp only[go_sem,R,y,E,qA,tE,pY,L_,cS po,cS pu,w1,aw]<;>exact⟨h6,p6,by rw[eA];rfl,by rw[e9];rfl,by rw[ad];rfl,d7,d8,rfl,rfl,G7,G8⟩
 have:j=3:=J;subst this;have ht:m.take 3=m:=by rw[<-Y];rfl
 rw[ht]at im y E g7 g8;have n7:I (pG h m)=6:=by unfold pG;rw[U1 _ (λ_=>rfl),eo]
 have n8:I (tY h m)=6:=by unfold tY;rw[U1 _ (λ_=>rfl),eo]
 rcases g7 with⟨e,_⟩|⟨_,a6,e,b7⟩
 .have:=congrArg List.length e;rw[rC,n7]at this;cases this
 cases e;rcases g8 with⟨e,_⟩|⟨_,bd,e,b8⟩
 .have:=congrArg List.length e;rw[rC,n8]at this;cases this
 cases e;have L:S.shared 135:=ah;have z:S.shared 161:=ah;have Cc:¬(((3:Nat):Int)<3):=aa;simp only[go_sem,Q_,apQ,h7,tE,pY,Cc,L,rC];refine Bi b7 aH6 (.inl rfl) (λqK T u=>Yj T (by rw[u];kernel_rfl) J b7) λv cE H=>?_;obtain⟨rfl,⟨A,bw,pw,sw⟩,kw⟩:=H;have ak:=(kw 7744705280 aa).trans b8;have O9:=(kw 7744064384 aa).trans b6;simp only[go_sem,h8,L,rC];refine Bi ak aH6 (.inl rfl) (λqK T u=>Yj T (by rw[u];kernel_rfl) J ak) λv bt H=>?_
 obtain⟨rfl,⟨us,bu,pu,su⟩,ku⟩:=H;have ab:=(ku 7744640256 aa).trans bw;have aN:=(ku 7744064384 aa).trans O9;have wl:=pw.length_eq;have ul:=pu.length_eq;have cw:=aiU pw sw;have cu:=aiU pu su;have f:=aaX g m J (by rw[<-Y];rfl) ha 0;have a2:((0:Nat):Int)=0:=rfl;rw[a2]at f;have a0:=aEi g m fD J;have ag:List.take 3 (aY m)=aY m:=eT (by rw[QU];omega);have hB:G9 F h O bv cv=(((I (jO (pG h m)):Int)==6)&&(((I (jO (tY h m)):Int)==3)&&(m.any (jf h · true)&&(m.any (jf h · false)&&pN F h 0 m O)))):=by unfold G9;rw[Y,im,J1,J1];rfl
 unfold uA;rw[hB];clear hB;simp only[go_sem,h7,z,rC,<-wl];refine Bi ab aH6 (.inl rfl) (λqK T u=>ano T J ab) λv nE H=>?_;obtain⟨rfl,_,kc⟩:=H;have am:=(kc 7744705280 aa).trans bu;have ar:=(kc 7744064384 aa).trans aN;rw[cw];have lo:S.lone 7745152128=false:=ah;cases q1:((I (jO (pG h m)):Int)==6)with
 |false=>
  have M:((I (jO (pG h m)):Int)!=6):=by simp only[bne,q1];rfl
  simp only[go_sem,M];rfl
 |true=>
  have M:((I (jO (pG h m)):Int)!=6)=false:=by simp only[bne,q1];rfl
  simp only[go_sem,h8,M,z,rC,<-ul];refine Bi am aH6 (.inl rfl) (λqK T u=>ano T J am) λv zo H=>?_;obtain⟨rfl,_,kd⟩:=H;have an:=(kd 7744064384 aa).trans ar;rw[cu];cases q2:((I (jO (tY h m)):Int)==3)with
  |false=>
   have On:((I (jO (tY h m)):Int)!=3):=by simp only[bne,q2];rfl
   simp only[go_sem,On];rfl
  |true=>
   have On:((I (jO (tY h m)):Int)!=3)=false:=by simp only[bne,q2];rfl
   cases q3:m.any (jf h · true)with
   |false=>rw[q3]at y;simp only[go_sem,y,On];rfl
   |true=>
    rw[q3]at y;cases q4:m.any (jf h · false)with
    |false=>rw[q4]at E;simp only[go_sem,y,E,On];rfl
    |true=>
     rw[q4]at E;cases q5:pN F h 0 m O with
     |false=>rw[q5]at f;simp only[go_sem,R,h6,y,E,On,an,Oo,cS f,eo,QU,ag];rfl
     |true=>rw[q5]at f;simp only[go_sem,R,h6,y,E,On,an,Oo,cS f,axy,eo,QU,ag];refine pB a0 lo (.inr (qF (zP _))) λcc Mb gc Dg=>?_;simp only[go_sem];rw[<-Y]at gc;exact Ak gc
section
variable {F:Nat} {h:ae}
def jI(l:cT)(x:Int):cT:=if x∈l then l else l++[x]
def CZ(h:ae)(l:cT)(e:Nat):cT:=jI (jI l (aV h e).id) (aV h (nx h e)).id
def vj(h:ae)(m:aD):aD:=m.flatMap λe=>[e,nx h e]
def se(h:ae)(m:aD):cT:=m.map (IY h)
def lY(h:ae)(m:aD):cT:=m.foldl (CZ h) []
def Bw(h:ae)(m:aD)(j:Nat):Bool:=match m[j]? with|some e=>r6 h e&&(!decide (e∈vj h (m.take j))&& !decide (nx h e∈vj h (m.take j)))|none=>true
def Ei(F:Nat)(h:ae)(m:aD):Bool:=(List.range (I m)).all (Bw h m)&&((I (lY h m)==3)&&(decide ((2:Int)∈se h m)&&(decide ((0:Int)∈se h m)&&mZ F h 0 m)))
def adb(m:aD):I (vj h m)=2*I m:=by
 unfold vj
 induction m with
 |nil=>rfl
 |cons a r f=>rw[FY,iM,f,fF];simp;omega
def aDU(l:cT)(e:Nat):I (CZ h l e)<=I l+2:=by
 unfold CZ jI
 grind
def NI(m:aD):I (lY h m)<=2*I m:=by
 unfold lY;have:∀(m:aD) (l:cT),I (m.foldl (CZ h) l)<=I l+2*I m:=by
  intro m
  induction m with
  |nil=>intro l;simp
  |cons a r f=>intro l;have j:=f (CZ h l a);have H:=aDU (h:=h) l a;simp;omega
 grind
def awG(g:aU F h)(ha:O<I h)(hb:bv<I h)(hc:cv<I h):aC S 99 [ic F h,ai O,ai bv,ai cv] (cK (Ei F h [O,bv,cv])):=by
 have bn:=g.len;have fD:∀e∈[O,bv,cv],e<I h:=λe bf=>by simp at bf;rcases bf with rfl|rfl|rfl<;>assumption
 have po:=ab7 g 0 [O,bv,cv] fD aG;have c1:((0:Nat):Int)=0:=rfl;rw[c1]at po;have Kp:aY [O,bv,cv]=[[.int .i64 O],[.int .i64 bv],[.int .i64 cv]]:=rfl;generalize hE:[O,bv,cv]=m at*;have eo:I m=3:=by rw[<-hE];rfl
 refine ba auc ?_;simp only[go_sem,aif];refine cZ (λj B blk=>B 4=.one (.aW 6336000000 1 0)/\B 9=.one (.hsl 6336064192 1 1 0 3)/\B 13=ai j/\blk 6336000000=(1,some (.var (AF F h)))/\blk 6336064192=(1,some (.arr 3 1 (aY m)))/\(∀i,i<j->Bw h m i)/\
  ∃R8 ME BN,∃q_,B 10=.one R8/\B 11=.one ME/\B 12=.one BN/\(q_=6336832256\/q_=6336960256)/\a_ 6336640768 3 1 (aY (vj h (m.take j))) (.one R8) blk/\a_ q_ 3 1 (fm (lY h (m.take j))) (.one ME) blk/\a_ 6336704512 3 1 (fm (se h (m.take j))) (.one BN) blk) 0 3 (bj _) ?_ ?_
 .simp only[go_sem];exact⟨rfl,by rw[Kp],λi hi=>absurd hi (oJ i),_,_,_,6336832256,rfl,rfl,rfl,.inl rfl,a_.nil,a_.nil,a_.nil⟩
 rintro j B blk hj ⟨H,v,R,b0,b9,aB,R8,ME,BN,q_,dZ,L,mS,D,ab,Z,ak⟩
 have rQ:I (m.take j)<=3:=ww
 by_cases A:j<3
 .have aL:((j:Int)<3):=J;obtain⟨e,he⟩:=aP (h:=m) (k:=j) J;have Gv:=fD e (a8 he);have A9:=i_ he;have w1:=cg (n:=j) J;have pc:=WT (F:=F) Gv J;have pe:=BB (F:=F) Gv J;have pl:=aDd (F:=F) Gv J;have p1:=Et (vj h (m.take j)) e (by rw[adb];omega);have p2:=Et (vj h (m.take j)) (nx h e) (by rw[adb];omega);obtain⟨bp,ag,ZT⟩:=ab.DR;have E:Bw h m j=(r6 h e&&(!decide (e∈vj h (m.take j))&& !decide (nx h e∈vj h (m.take j)))):=by unfold Bw;rw[he]
  have ef:Bw h m j=false->Ei F h m=false:=λbf=>by
   have:(List.range (I m)).all (Bw h m)=false:=by
    cases hh:(List.range (I m)).all (Bw h m)with
    |false=>rfl
    |true=>rw[mz.1 hh j (fU.2 J)]at bf;cases bf
   unfold Ei;rw[this];rfl
  cases cr:r6 h e with
  |false=>rw[cr]at E;rw[ef E];rw[cr]at pc;simp only[go_sem,D6,H,v,R,b0,b9,A,aL,A9,NA,od pc (HP _ _ _)];first|done|exact aK|exact⟨aK,rfl⟩|exact⟨aK,aK,rfl⟩
  |true=>
   rw[cr]at E pc;cases m1:decide (e∈vj h (m.take j))with
   |true=>rw[m1]at E p1;rw[ef E];simp only[go_sem,D6,H,v,dZ,R,b0,b9,A,aL,A9,ag,NA,od pc (HP _ _ _),uy,mA p1];refine⟨aK,?_⟩;rcases ZT with rfl|rfl<;>exact aK
   |false=>
    rw[m1]at E p1;cases m2:decide (nx h e∈vj h (m.take j))with
    |true=>rw[m2]at E p2;rw[ef E];simp only[go_sem,D6,H,v,dZ,R,b0,b9,A,aL,A9,ag,NA,od pc (HP _ _ _),uy,mA p1,mA p2,yf,jZ pe];refine⟨aK,?_⟩;rcases ZT with rfl|rfl<;>exact aK
    |false=>
     rw[m2]at E p2;simp only[go_sem,D6,H,v,dZ,R,b0,b9,A,aL,A9,ag,NA,od pc (HP _ _ _),uy,mA p1,mA p2,yf,jZ pe];refine⟨aK,?_,?_⟩
     .rcases ZT with rfl|rfl<;>exact aK
     have n1:q_≠6336640768:=i7
     have n2:q_≠6336704512:=i7
     have n3:q_≠6336448640:=i7
     have n4:q_≠6336448704:=i7
     have n5:q_≠6336640704:=i7
     have n6:q_≠6336704448:=i7
     refine oT (B:=[[.int .i64 (e:Nat)],[.int .i64 ((e+1)%I h:Nat)]]) (ab.of_eq d9) f0 (.inl rfl) (by simp only[QU,adb,fF,fB];omega) λX cE r w a3 cU hw=>?_;have q0:=cU 6336000000 aa aa;have q9:=cU 6336064192 aa aa;have ap:=cU 6336448640 aa aa;have a1:=cU 6336448704 aa aa;have ar:=cU 6336704512 aa aa;have Hj:=cU q_ n1 n1;simp only[go_sem,b0,b9,n3,n4,n5]at q0 q9 ap a1 ar Hj;have a4:=ak.of_eq ar;have bk:=Z.of_eq Hj;simp only[go_sem,H,v,mS,R,q0,q9,A,A9,aDE,jZ pl];refine⟨?_,?_⟩
     .rcases hw with⟨rfl,rfl⟩|⟨rfl,rfl⟩|⟨rfl,rfl⟩<;>kernel_rfl
     refine oT (a4.of_eq (cJ aa)) f0 (.inl rfl) (by simp[se];omega) λQ bt r2 w2 YW bh qD=>?_;have YV:=a3.of_eq ((bh 6336640768 aa aa).trans (cJ aa));have p0:=bh 6336000000 aa aa;have p9:=bh 6336064192 aa aa;have ux:=bh 6336448640 aa aa;have IV:=bh 6336448704 aa aa;have a2:=bh q_ n2 n2;simp only[go_sem,q0,q9,ap,a1,n6]at p0 p9 ux IV a2;have PN:=bk.of_eq a2;have M:aY (vj h (m.take (j+1)))=aY (vj h (m.take j))++[[.int .i64 (e:Nat)],[.int .i64 ((e+1)%I h:Nat)]]:=by rw[jM,he,vj,vj];simp
     have N:fm (se h (m.take (j+1)))=fm (se h (m.take j))++[[.int .i64 (IY h e)]]:=by rw[jM,he,se,se];simp
     have x:lY h (m.take (j+1))=jI (jI (lY h (m.take j)) (aV h e).id) (aV h (nx h e)).id:=by rw[jM,he];simp[lY,Bq,CZ]
     have UJ:∀i,i<j+1->Bw h m i:=λi hi=>by
      rcases vq.1 hi with bf|rfl
      .exact aB i bf
      rw[E];rfl
     simp only[go_sem,L,ux];refine⟨?_,?_⟩
     .rcases qD with⟨rfl,rfl⟩|⟨rfl,rfl⟩|⟨rfl,rfl⟩<;>kernel_rfl
     have m0:6336000000≠q_:=i7
     have m9:6336064192≠q_:=i7
     have m3:q_≠6336832192:=i7
     have m4:q_≠6336960192:=i7
     have bd:6336448640≠q_:=n3.symm;have a9:6336448704≠q_:=n4.symm;have N9:=NZ (lY h (m.take j)) (aV h e).id (by have:=NI (h:=h) (m.take j);omega);obtain⟨bo,az,_⟩:=PN.DR;cases hx:decide ((aV h e).id∈lY h (m.take j))with
     |true=>
      rw[hx]at N9;simp only[go_sem,L,IV,az,uy,cS N9];have Qd:jI (lY h (m.take j)) (aV h e).id=lY h (m.take j):=by rw[jI,aI (xT hx)]
      have u:=NZ (lY h (m.take j)) (aV h (nx h e)).id (by have:=NI (h:=h) (m.take j);omega);obtain⟨aF,f,_⟩:=PN.DR;cases y:decide ((aV h (nx h e)).id∈lY h (m.take j))with
      |true=>
       rw[y]at u;have hI:lY h (m.take (j+1))=lY h (m.take j):=by rw[x,Qd,jI,aI (xT y)]
       simp only[go_sem,H,v,R,L,p0,p9,cS u,w1,A];exact⟨UJ,X,ME,Q,q_,rfl,rfl,rfl,D,by rw[M];exact YV,by rw[hI];exact PN,by rw[N];exact YW⟩
      |false=>
       rw[y]at u;have hI:fm (lY h (m.take (j+1)))=fm (lY h (m.take j))++[[.int .i64 (aV h (nx h e)).id]]:=by rw[x,Qd,jI,aE (tq y)];simp
       simp only[go_sem,L,IV,cS u];refine mO (B:=[[.int .i64 (aV h (nx h e)).id]]) (PN.of_eq (cJ (m4))) f0 (.inl rfl) IR λGh bi ge T=>?_;have z0:=T 6336000000 aa m0;have z9:=T 6336064192 aa m9;simp only[go_sem,p0,p9]at z0 z9;have Y9:=YV.of_eq ((T 6336640768 aa n1.symm).trans (cJ aa));have Za:=YW.of_eq ((T 6336704512 aa n2.symm).trans (cJ aa));simp only[go_sem,H,v,R,z0,z9,w1,A];exact⟨UJ,X,Gh,Q,6336960256,rfl,rfl,rfl,.inr rfl,by rw[M];exact Y9,by rw[hI];exact ge,by rw[N];exact Za⟩
     |false=>
      rw[hx]at N9;simp only[go_sem,L,ux,az,uy,cS N9];have Qd:jI (lY h (m.take j)) (aV h e).id=lY h (m.take j)++[(aV h e).id]:=by rw[jI,aE (tq hx)]
      refine mO (B:=[[.int .i64 (aV h e).id]]) (PN.of_eq (cJ m3)) f0 (.inl rfl) IR λY a5 ga MS=>?_;have y0:=MS 6336000000 aa m0;have y9:=MS 6336064192 aa m9;have be:=MS 6336448640 aa bd;have ad:=MS 6336448704 aa a9;simp only[go_sem,p0,p9,ux,IV]at y0 y9 be ad;have a0:=YV.of_eq ((MS 6336640768 aa n1.symm).trans (cJ aa));have aN:=YW.of_eq ((MS 6336704512 aa n2.symm).trans (cJ aa));have am:a_ 6336832256 3 1 (fm (lY h (m.take j)++[(aV h e).id])) (.one Y) a5:=by rw[fm,iT];exact ga
      have u:=NZ (lY h (m.take j)++[(aV h e).id]) (aV h (nx h e)).id (by have:=NI (h:=h) (m.take j);simp only[iM,fF,fB];omega);obtain⟨aF,f,_⟩:=am.DR;cases y:decide ((aV h (nx h e)).id∈lY h (m.take j)++[(aV h e).id])with
      |true=>
       rw[y]at u;have hI:lY h (m.take (j+1))=lY h (m.take j)++[(aV h e).id]:=by rw[x,Qd,jI,aI (xT y)]
       simp only[go_sem,H,v,R,y0,y9,ad,f,uy,cS u,w1,A];exact⟨UJ,X,Y,Q,6336832256,rfl,rfl,rfl,.inl rfl,by rw[M];exact a0,by rw[hI];exact am,by rw[N];exact aN⟩
      |false=>
       rw[y]at u;have hI:fm (lY h (m.take (j+1)))=fm (lY h (m.take j)++[(aV h e).id])++[[.int .i64 (aV h (nx h e)).id]]:=by rw[x,Qd,jI,aE (tq y)];simp
       simp only[go_sem,ad,f,uy,cS u];refine mO (B:=[[.int .i64 (aV h (nx h e)).id]]) (am.of_eq (cJ aa)) f0 (.inl rfl) (by have:=NI (h:=h) (m.take j);simp only[rC,iM,fF,fB];omega) λGh bi ge T=>?_;have z0:=T 6336000000 aa aa;have z9:=T 6336064192 aa aa;simp only[go_sem,y0,y9]at z0 z9;have Y9:=a0.of_eq ((T 6336640768 aa aa).trans (cJ aa));have Za:=aN.of_eq ((T 6336704512 aa aa).trans (cJ aa));simp only[go_sem,H,v,R,z0,z9,w1,A];exact⟨UJ,X,Gh,Q,6336960256,rfl,rfl,rfl,.inr rfl,by rw[M];exact Y9,by rw[hI];exact ge,by rw[N];exact Za⟩
 have:j=3:=J;subst this;have ht:m.take 3=m:=by rw[<-hE];rfl
 rw[ht]at ab Z ak;have im:(List.range (I m)).all (Bw h m):=by rw[mz];intro i hi;exact aB i (by have:=fU.1 hi;omega)
 have bg:Ei F h m=(((I (lY h m):Int)==3)&&(decide ((2:Int)∈se h m)&&(decide ((0:Int)∈se h m)&&mZ F h 0 m))):=by unfold Ei;rw[im,J1];rfl
 rw[bg];have Cc:¬(((3:Nat):Int)<3):=aa;have u:=NZ (se h m) 2 (by simp[se];omega);have z:=NZ (se h m) 0 (by simp[se];omega);obtain⟨bq,an,_⟩:=ak.DR;have a6:3<=I m:=J;have bm:List.take 3 (aY m)=aY m:=eT (by rw[QU];omega);rcases Z with⟨Gh,q⟩|⟨_,gg,q,bb⟩
 .cases q;have e0:lY h m=[]:=by simpa using Gh
  rw[e0];simp only[go_sem,D6,KT,L,R,Cc,show((((0:Nat):Int))==3)=false from rfl];try rfl
 cases q;cases q1:((I (lY h m):Int)==3)with
 |false=>simp only[go_sem,D6,KT,L,R,Cc,rC,q1];try rfl
 |true=>
  cases q2:decide ((2:Int)∈se h m)with
  |false=>rw[q2]at u;simp only[go_sem,D6,KT,L,mS,R,Cc,rC,an,q1,uy,cS u];try rfl
  |true=>
   rw[q2]at u;cases q3:decide ((0:Int)∈se h m)with
   |false=>rw[q3]at z;simp only[go_sem,D6,KT,L,mS,R,Cc,rC,an,q1,uy,cS u,cS z];try rfl
   |true=>rw[q3]at z;simp only[go_sem,D6,KT,H,v,L,mS,R,b0,b9,Cc,rC,an,bm,a6,q1,uy,cS u,cS z,adx,cS po];try rfl
end
def agJ{α:Type}{l:List α}{i:Nat}{x y:α}(h:l[i]?=some x)(H:l[j]?=some y):gK l i j=Jp l i j x y:=by unfold gK;rw[h,H];rfl
def za{α:Type}(l:List α)(i j:Nat):I (gK l i j)=I l:=by unfold gK;split<;>simp
section
variable {Q:ib} {os all:fx} {d:eF} {B:bP} {blk:aH} {tr:gl} {E ez M R:Nat} {L:ae} {D:dK}
def QP{i j:Nat}(T:E≠M)(Y:E≠1920000000)(N:M≠1920000000)(Z:blk E=(ez,some (.arr fO 6 (bY L))))(O:blk M=(R,some (.arr 4 1 (dx D))))(hl:I L=n)(H:I D=n)(hi:i<n)(hj:j<n)(F:i≠j)
  (X:∀A,A E=(ez,some (.arr fO 6 (bY (gK L i j))))->A M=(R,some (.arr 4 1 (dx (gK D i j))))->(∀q,q≠E->q≠M->q≠1920000000->A q=blk q)->p_ S .all all os Q (dL B d (.tup [])) A (tr++[⟨[E,M],[E,M],[30]⟩])):
  sY S .all (.sc 30 [zG E ez M R n n,ai i,ai j]) d all os Q B blk tr:=by
 obtain⟨x,m⟩:=aP (h:=L) (k:=i) J;obtain⟨y,f⟩:=aP (h:=L) (k:=j) J;obtain⟨c,v⟩:=aP (h:=D) (k:=i) J;obtain⟨e,u⟩:=aP (h:=D) (k:=j) J;have ab:=aw7 T Y N Z O (H.trans hl.symm) m f v u F λA a b z=>X A (by rw[agJ m f];exact a) (by rw[agJ v u];exact b) z;rwa[hl,H]at ab
end
def RJ{k:Nat}(H:2<=I h):nx h k<I h:=dB _ J
def avX(g:aU F h)(i j k:Nat)(l o:Bool)(sg:Int)(Z:i<I h)(hj:j<I h)(z:k<I h)(H:2<=I h)(hl:I h<=400):
  aC S 9 [c7 F h,c6 8 i j k l o sg] (pM F (gK (gK (gK h i (nx h i)) j (nx h j)) k (nx h k)) (gK (gK (gK (eR h) i (nx h i)) j (nx h j)) k (nx h k))):=by
 have m:=Ay g;have po:=B4 (F:Int) h J;have l1:S.lone 576064064=false:=ah;have l2:S.lone 576128064=false:=ah;have l4:S.lone 579136128=false:=ah;rw[oa (AK g)]at m;have nh:=s3 g.ne (lL h);simp only[uM]at nh;rw[nh]at po;have N8:=BB (F:=F) Z J;have Hg:=BB (F:=F) hj J;have A:=BB (F:=F) z J;have x1:=za h i (nx h i);have x2:=(za (gK h i (nx h i)) j (nx h j)).trans x1;have X:=(za (gK (gK h i (nx h i)) j (nx h j)) k (nx h k)).trans x2;have y0:=lL h;have y1:=(za (eR h) i (nx h i)).trans y0;have y2:=(za (gK (eR h) i (nx h i)) j (nx h j)).trans y1
 have Y:=(za (gK (gK (eR h) i (nx h i)) j (nx h j)) k (nx h k)).trans y2;refine ba tc ?_;simp only[go_sem,i9,tQ,gN m l1 (.inl rfl)];simp only[go_sem,yS,gN po l2 (.inl rfl),lz,vr,yf,jZ N8,Pq,lL];refine QP aa aa aa d9 d9 rfl y0 Z (RJ H) (Nz H Z) λb1 Gp E f=>?_;have p0:=f 576000000 aa aa aa;have O:=f 576000064 aa aa aa;have p2:=f 576000128 aa aa aa;have v:=f 576064128 aa aa aa;have y:=f 576064067 aa aa aa;have x:=f 576128128 aa aa aa;simp only[go_sem]at p0 O p2 v y x;simp only[go_sem,O,v,y,x,vr,yf,jZ Hg,Pq];refine⟨aK,?_⟩;refine QP aa aa aa Gp E x1 y1 hj (RJ H) (Nz H hj) λb2 ab R B=>?_
 have q0:=B 576000000 aa aa aa;have Q:=B 576000064 aa aa aa;have q2:=B 576000128 aa aa aa;have q3:=B 576064128 aa aa aa;have q4:=B 576064067 aa aa aa;have N:=B 576128128 aa aa aa;simp only[p0,O,p2,v,y,x]at q0 Q q2 q3 q4 N;simp only[go_sem,Q,q3,q4,N,vr,yf,jZ A,Pq];refine⟨aK,?_⟩;refine QP aa aa aa ab R x2 y2 z (RJ H) (Nz H z) λb3 M T u=>?_
 have r0:=u 576000000 aa aa aa;have r1:=u 576000064 aa aa aa;have r2:=u 576000128 aa aa aa;have r3:=u 576128128 aa aa aa;simp only[q0,Q,q2,N]at r0 r1 r2 r3;generalize gK (gK (gK h i (nx h i)) j (nx h j)) k (nx h k)=L at*;generalize gK (gK (gK (eR h) i (nx h i)) j (nx h j)) k (nx h k)=D at*;have n:=ym (F:Int) h L D J (Y.trans X.symm);have cN:I (kj L D)=I L:=Cv _ _;simp only[pM];rw[oa (Ah (λe=>by rw[e]at cN;simp only[fB]at cN;omega))]at n |-;have tk:List.take (I h) (bY L)=bY L:=by rw[<-X];exact lz L
 have tb:List.take (I h) (dx D)=dx D:=by rw[<-Y];exact ri D
 have tl:I h<=I (bY L):=by rw[uL];omega
 have tm:I h<=I (dx D):=by rw[Hk];omega
 simp only[go_sem,M,T,r0,r2,r3,tk,tb,X,Y,wX,ya,gN n l4 (.inr (B6 _ _))];refine⟨aK,?_⟩;simp[iD,mM,kZ,kD,iN,bG,lg,oE,nq,lz]
def abl:∀(L M:cT),L.Nodup->(∀x∈L,x∈M)->I L<=I M:=by
 intro L
 induction L with
 |nil=>intro M _ _;exact bj _
 |cons a L f=>
  intro M j af;obtain⟨m,h⟩:=qQ.1 j;have:=f (M.erase a) h λx H=>(RN ii).2 (af x mt)
  grind
def aln:∀l:cT,(jO l).Nodup:=by
 intro l
 induction l with
 |nil=>exact pW
 |cons a l f=>grind [jO,AA]
def ayF{l:cT}:I (jO l)=I l↔l.Nodup:=by
 induction l with
 |nil=>simp[jO]
 |cons a l f=>
  have h:=abl _ _ (aln l) λx H=>AA.1 H
  grind [jO]
def aqw{l:cT}(h:l.Nodup):(jI l x).Nodup:=by grind [jI]
def ajC{l:cT}{y:Int}:y∈jI l x↔y∈l\/y=x:=by grind [jI]
section
variable {F:Nat} {h:ae}
def asz{l:cT}(H:l.Nodup)(e:Nat):(CZ h l e).Nodup:=aqw (aqw H)
def auR(m:aD):∀l:cT,l.Nodup->(m.foldl (CZ h) l).Nodup/\ ∀y,y∈m.foldl (CZ h) l↔y∈l\/y∈m.flatMap λe:Nat=>[(aV h e).id,(aV h (nx h e)).id]:=by
 induction m with
 |nil=>intro l H;exact⟨H,λy=>aG⟩
 |cons e m f=>
  intro l H;obtain⟨n,j⟩:=f _ (asz H e);refine⟨n,λy=>?_⟩;rw[Ac,j];unfold CZ;rw[ajC,ajC,FY,iI]
  grind
def azA(m:aD):I (jO (tY h m))=I (lY h m):=by
 obtain⟨j,n⟩:=auR m [] pW;have f:∀y,y∈jO (tY h m)↔y∈lY h m:=λy=>by rw[AA];unfold lY;rw[n];unfold tY;simp only[oL,e_,false_or]
 exact Z4 (abl _ _ (aln _) λx H=>(f x).1 H) (abl _ _ j λx H=>(f x).2 H)
def NY{e:Nat}(H:r6 h e):jf h e true=(IY h e==2)/\jf h e false=(IY h e==0):=by
 rw[acm,acm,H];unfold IY
 grind
def am7(e:Nat):tz h e=r6 h e:=by unfold tz r6;rw[oL,oL]
def awr(g:aU F h){a b c:Nat}(m:a<I h)(v:b<I h)(z:c<I h):G9 F h a b c=Ei F h [a,b,c]:=by
 have N:=g.NV m;have D:=g.NV v;have O:=g.NV z;unfold G9 Ei;rw[Ft rfl m,azA];have y:(I (jO (pG h [a,b,c]))==6)=decide ((pG h [a,b,c]).Nodup):=by rw[sv];simp only[cW,fL];rw[<-ayF];unfold pG;simp
 rw[y];have x:(List.range [a,b,c].length).all (Bw h [a,b,c])=([a,b,c].all (tz h)&&decide ((pG h [a,b,c]).Nodup)):=by
  have:List.range [a,b,c].length=[0,1,2]:=rfl;rw[this];unfold Bw vj pG;simp only[vO,Br,List.getElem?_cons_zero,List.getElem?_cons_succ,Oj,PQ,FY,List.flatMap_nil,B2,gM,am7];rw[sv];simp only[cF,gH,decide_eq_false_iff_not,fL,dh,e_,or_false,qQ,Ag,not_false_eq_true,pW,and_true];constructor
  .rintro ⟨H,⟨f,B,M⟩,j,L,R⟩
   refine⟨⟨H,f,j⟩,?_⟩;omega
  rintro⟨⟨H,f,j⟩,T⟩
  refine⟨H,⟨f,?_,?_⟩,j,?_,?_⟩<;>omega
 rw[x];cases H:[a,b,c].all (tz h)with
 |false=>rfl
 |true=>
  simp only[vO,Br,Fg,cF,am7]at H;obtain⟨Q,u,n⟩:=H;have E:([a,b,c].any (jf h · true))=decide ((2:Int)∈se h [a,b,c]):=by rw[sv];unfold se;simp only[Vr,Tq,Rt,(NY Q).1,(NY u).1,(NY n).1,nK,cW,fL,fq,ml,dh,e_,or_false];omega
  have A:([a,b,c].any (jf h · false))=decide ((0:Int)∈se h [a,b,c]):=by rw[sv];unfold se;simp only[Vr,Tq,Rt,(NY Q).2,(NY u).2,(NY n).2,nK,cW,fL,fq,ml,dh,e_,or_false];omega
  rw[E,A];simp only[BE]
def Ss(g:aU F h){l:bK}(hl:I l=I h){e:Nat}(H:e<I h):ig h l e=gK l e (nx h e):=by
 have f:=g.Cs e;obtain _:=aP J;obtain _:=aP J;unfold ig gK
 grind
def afF(g:aU F h){a b c:Nat}(f:a<I h)(j:b<I h)(m:c<I h):
  (uA F h a b c).isSome=Ei F h [a,b,c]/\
  ∀L,uA F h a b c=some L->gq L (gK (gK (gK h a (nx h a)) b (nx h b)) c (nx h c)) (gK (gK (gK (eR h) a (nx h a)) b (nx h b)) c (nx h c)):=by
 unfold uA;rw[awr g f j m];refine⟨by split<;>simp_all,λL H=>?_⟩;split at H
 .cases H;unfold dY;simp;rw[Ss g (dI h) f,Ss g (by rw[za,dI]) j,Ss g (by rw[za,za,dI]) m];exact(((gq.base h).sw _ _).sw _ _).sw _ _
 cases H
def WD(g' A D:Int)(p:aQ):(dD g' A D p).l=jx g' A (-D) p.l/\(dD g' A D p).d=p.d/\(dD g' A D p).l.kind=p.l.kind:=by grind [dD,jx]
def afr(g:aU F h){a:Nat}(f:a<I h):
  (wY F h a).isSome=(((aV h a).kind==1)&&(decide ((aV h a).gate<(F:Int))&&((aV h a).ao==((aq (m_ (aV h a).gate) h:Nat):Int))))/\
  ∀L,wY F h a=some L->gq L ((h.map (jx ((aV h a).gate+1) 0 (-1))).set a {jx ((aV h a).gate+1) 0 (-1) (aV h a)with gate:=(aV h a).gate+1,ao:=1}) (eR h):=by
 have D:(aV h a).kind=1->aZ h (aV h a).gate.toNat=aq (m_ (aV h a).gate) h:=λj=>by have:=(g.HS (iQ f) (FJ j)).g0;exact BM λl _=>by rw[Jw _ this]
 unfold wY;rw[oL];refine⟨?_,λL H=>?_⟩
 .grind
 split at H
 .cases H;have hp:(dT (aJ h) ((aV h a).gate+1) 0 1)[a]?=some (dD ((aV h a).gate+1) 0 1 (bR h a)):=by
   unfold dT;rw[fX,WQ f];rfl
  unfold qi;rw[dM,hp,mw];have:=((gq.base h).map λp _=>WD _ _ _ p).set hp (q:={dD _ 0 1 (bR h a)with l:={(dD _ 0 1 (bR h a)).l with gate:=(aV h a).gate+1,ao:=1}}) rfl rfl;have e:({(dD ((aV h a).gate+1) 0 1 (bR h a)).l with gate:=(aV h a).gate+1,ao:=1}:U)={jx ((aV h a).gate+1) 0 (-1) (aV h a)with gate:=(aV h a).gate+1,ao:=1}:=by rw[(WD _ 0 1 (bR h a)).1,oL]
  rw[<-e];exact this
 cases H
def ah9(g:aU F h){a:Nat}(m:a<I h):
  (xE h a).isSome=(((aV h a).kind==1)&&(decide (0<(aV h a).gate)&&((aV h a).ao==1)))/\
  ∀L,xE h a=some L->gq L ((h.set a {aV h a with gate:=(aV h a).gate-1,ao:=((aq (m_ ((aV h a).gate-1)) h:Nat):Int)+1}).map (jx (aV h a).gate 1 1)) (eR h):=by
 unfold xE;rw[oL];refine⟨by split<;>simp_all,λL H=>?_⟩;split at H
 .rename_i f;cases H;simp only[cF,cW,fL]at f;obtain⟨u,v,j⟩:=f;have D:aZ h ((aV h a).gate-1).toNat=aq (m_ ((aV h a).gate-1)) h:=BM λl _=>by rw[Jw _ J]
  have hp:(dT (aJ h) (aV h a).gate 1 (-1))[a]?=some (dD (aV h a).gate 1 (-1) (bR h a)):=by unfold dT;rw[fX,WQ m];rfl
  have n:dD (aV h a).gate 1 (-1) (bR h a)=bR h a:=by unfold dD;rw[oL,j];simp
  rw[n]at hp;have:=((gq.base h).map λp _=>WD _ _ _ p).set hp (q:={bR h a with l:={(bR h a).l with gate:=(aV h a).gate-1,ao:=((aZ h ((aV h a).gate-1).toNat+1:Nat):Int)}}) rfl rfl;unfold qi;rw[dM,hp,mw,vt];have e:jx (aV h a).gate 1 1 {aV h a with gate:=(aV h a).gate-1,ao:=((aq (m_ ((aV h a).gate-1)) h:Nat):Int)+1}={aV h a with gate:=(aV h a).gate-1,ao:=((aq (m_ ((aV h a).gate-1)) h:Nat):Int)+1}:=by
   unfold jx
   grind
  grind [oL]
 cases H
end
def rj(F:Nat)(h:ae)(a b:Nat)(l:Bool):Bool:=decide (2*b∈(c8 F h (if l then 2*a else 2*a+1)).bc)==l
def uK(f l o:Bool):Int:=let s:Int:=if f !=l then -1 else 1;if o then s else -s
def zA(h:ae):Int:=((aq U.au h/2:Nat):Int)
def J0(c s:Int)(o:Bool):U:=⟨2,0,0,c+1,s,o⟩
def JN(c s:Int)(o:Bool):U:=⟨2,0,0,c+2,-s,o⟩
def MR{α:Type}(L:List α)(a:Nat)(x:List α)(b:Nat)(u:List α):List α:=if b<a then hJ (hJ L x a) u b else hJ (hJ L u b) x a
def EV(F:Nat)(h:ae)(a b:Nat)(l o:Bool):ae:=
 MR h a [J0 (zA h) (uK (rj F h a b l) l o) o,JN (zA h) (uK (rj F h a b l) l o) o] b
  (if rj F h a b l then [JN (zA h) (uK (rj F h a b l) l o) !o,J0 (zA h) (uK (rj F h a b l) l o) !o]else [J0 (zA h) (uK (rj F h a b l) l o) !o,JN (zA h) (uK (rj F h a b l) l o) !o])
def FP(h:ae)(a b:Nat):dK:=MR (eR h) a [false,true] b [false,true]
def akv{α:Type}(L:List α)(a:Nat)(x:List α)(b:Nat)(u:List α):I (MR L a x b u)=I L+I x+I u:=by unfold MR;split<;>simp[lA]<;>omega
def auu(g:aU F h)(a b:Nat)(c:Int)(l o:Bool)(sg:Int)(z:a<I h)(M:b<I h)(hl:I h<=400):
  aC S 34 [ic F h,Gf h (eR h),c6 7 a b c l o sg] (E_ (EV F h a b l o) (FP h a b)):=by
 have L:=R1 g z l;have A:(c8 F h (if l then 2*a else 2*a+1)).bc.length<=1000000:=by have H:=IU (F:=F) g.ok (AP (aov (F:=F) (u:=h) (d:=if l then 2*a else 2*a+1) Fd));have kG:I (aA h)<=I h:=qp h (I h);simp only[aX]at H;omega
 have ph:=Et (c8 F h (if l then 2*a else 2*a+1)).bc (2*b) A;have v:=Oy (F:Int) h J;have nN:aq U.au h<=I h:=ny _ _;have w0:IntKind.i64.wrap (2*(b:Int))=((2*b:Nat):Int):=iS J J;have B:IntKind.i64.wrap (((aq U.au h/2:Nat):Int)+1)=((aq U.au h/2:Nat):Int)+1:=iS J J;have w2:IntKind.i64.wrap (((aq U.au h/2:Nat):Int)+2)=((aq U.au h/2:Nat):Int)+2:=iS J J;have w3:IntKind.i64.wrap (-1)= -1:=aa;have w4:IntKind.i64.wrap (- -1)=1:=aa;have w5:IntKind.i64.wrap (Int.negSucc 0)= -1:=aa;have w6:IntKind.i64.wrap 1=1:=aa;have l1:S.lone 2176064320=false:=ah;have l2:S.lone 2177024320=false:=ah;have T:S.lone 2177024640=false:=ah;have X:S.lone 2177088320=false:=ah
 have N:S.lone 2177088640=false:=ah;have D:=lL h;have Q:∀(i s m j:Int) (o O:Bool),aC S 33 [Gf h (eR h),ai a,.agg [.p (.int .i64 2),.p (.int .i64 0),.p (.int .i64 0),.p (.int .i64 i),.p (.int .i64 s),.p (.bool o)],.agg [.p (.int .i64 2),.p (.int .i64 0),.p (.int .i64 0),.p (.int .i64 m),.p (.int .i64 j),.p (.bool O)],iB false] (E_ (hJ h [⟨2,0,0,i,s,o⟩,⟨2,0,0,m,j,O⟩] a) (hJ (eR h) [false,true] a)):=λi s m j o O=>by have H:=NH h (eR h) a ⟨2,0,0,i,s,o⟩ ⟨2,0,0,m,j,O⟩ false J D z;rw[s3 (H5 (n:=I h+1) (by rw[lA];rfl)) aH7]at H;exact H
 have q2:∀(i s m j:Int) (o O:Bool),aC S 33 [Gf h (eR h),ai b,.agg [.p (.int .i64 2),.p (.int .i64 0),.p (.int .i64 0),.p (.int .i64 i),.p (.int .i64 s),.p (.bool o)],.agg [.p (.int .i64 2),.p (.int .i64 0),.p (.int .i64 0),.p (.int .i64 m),.p (.int .i64 j),.p (.bool O)],iB false] (E_ (hJ h [⟨2,0,0,i,s,o⟩,⟨2,0,0,m,j,O⟩] b) (hJ (eR h) [false,true] b)):=λi s m j o O=>by have H:=NH h (eR h) b ⟨2,0,0,i,s,o⟩ ⟨2,0,0,m,j,O⟩ false J D M;rw[s3 (H5 (n:=I h+1) (by rw[lA];rfl)) aH7]at H;exact H
 have R:∀(x y:U) (i s m j:Int) (o O:Bool),aC S 33 [Gf (hJ h [x,y] a) (hJ (eR h) [false,true] a),ai b,.agg [.p (.int .i64 2),.p (.int .i64 0),.p (.int .i64 0),.p (.int .i64 i),.p (.int .i64 s),.p (.bool o)],.agg [.p (.int .i64 2),.p (.int .i64 0),.p (.int .i64 0),.p (.int .i64 m),.p (.int .i64 j),.p (.bool O)],iB false] (E_ (hJ (hJ h [x,y] a) [⟨2,0,0,i,s,o⟩,⟨2,0,0,m,j,O⟩] b) (hJ (hJ (eR h) [false,true] a) [false,true] b)):=λx y i s m j o O=>by have H:=NH (hJ h [x,y] a) (hJ (eR h) [false,true] a) b ⟨2,0,0,i,s,o⟩ ⟨2,0,0,m,j,O⟩ false (by rw[lA];simp;omega) aH7 (by rw[lA];omega);rw[s3 (H5 (n:=I h+3) (by rw[lA,lA];rfl)) (by rw[lA,lA,lA,lA,D];rfl)]at H;exact H
 have Y:∀(x y:U) (i s m j:Int) (o O:Bool),aC S 33 [Gf (hJ h [x,y] b) (hJ (eR h) [false,true] b),ai a,.agg [.p (.int .i64 2),.p (.int .i64 0),.p (.int .i64 0),.p (.int .i64 i),.p (.int .i64 s),.p (.bool o)],.agg [.p (.int .i64 2),.p (.int .i64 0),.p (.int .i64 0),.p (.int .i64 m),.p (.int .i64 j),.p (.bool O)],iB false] (E_ (hJ (hJ h [x,y] b) [⟨2,0,0,i,s,o⟩,⟨2,0,0,m,j,O⟩] a) (hJ (hJ (eR h) [false,true] b) [false,true] a)):=λx y i s m j o O=>by have H:=NH (hJ h [x,y] b) (hJ (eR h) [false,true] b) a ⟨2,0,0,i,s,o⟩ ⟨2,0,0,m,j,O⟩ false (by rw[lA];simp;omega) aH7 (by rw[lA];omega);rw[s3 (H5 (n:=I h+3) (by rw[lA,lA];rfl)) (by rw[lA,lA,lA,lA,D];rfl)]at H;exact H
 unfold EV FP rj zA MR J0 JN;generalize aq U.au h/2=cc at*;generalize c8 F h (if l then 2*a else 2*a+1)=f at*;generalize decide (2*b∈f.bc)=Z at*;refine ba art ?_;simp only[go_sem,agx,Ro,gN L l1 (.inl rfl),w0,uy,mA ph];refine⟨aK,?_⟩;have aep:(false==true)=false:=rfl;have XE:(true==false)=false:=rfl;have XC:(false !=true):=rfl;have XG:(true !=false):=rfl;have aa1:(true !=true)=false:=rfl;have adP:(false !=false)=false:=rfl;have E:(b:Int)<(a:Int)↔b<a:=J
 cases l<;>cases o<;>cases Z<;>by_cases u:b<a<;>simp only[go_sem,uK,XC,XG,u,E,B,w2,Int.neg_neg,Int.reduceNeg,Sa,ie v,aeq,xV (Q _ _ _ _ _ _) l2 (.inr (CM _ _)),xV (R _ _ _ _ _ _ _ _) T (.inr (CM _ _)),xV (q2 _ _ _ _ _ _) X (.inr (CM _ _)),xV (Y _ _ _ _ _ _ _ _) N (.inr (CM _ _)),lz,ri]
 all_goals(refine⟨aK,aK,aK,?_⟩;simp[iD,mM,kZ,kD,iN,bG,lg,oE,nq,lz,ri]<;>rfl)
section
variable {F:Nat} {h:ae}
def Ty{d e:Nat}(H:d<2*I h)(f:e<2*I h):lG F h d=lG F h e↔d∈(c8 F h e).bc:=by
 obtain⟨i,i1,i2,i3⟩:=BC H;obtain⟨j,n,v,m⟩:=BC f;have u:lG F h d=i:=by show(lM F h).getD d 0=i;rw[dM,i3];rfl
 have E:lG F h e=j:=by show(lM F h).getD e 0=j;rw[dM,m];rfl
 grind [W7]
theorem aqL(g:aU F h){f:cX}(hf:f∈dA F h){e:Nat}(j:2*e∈f.bc)(H:2*e+1∈f.bc):False:=by
 obtain⟨w,m,rfl⟩:=c_.1 hf;rw[zd]at j H;obtain⟨A,n⟩:=rv.1 j;obtain⟨B,_⟩:=rv.1 H;have:2*e<2*I h:=at9
 exact alL g ii m A (by rw[s8];exact B)
theorem ah4(g:aU F h){a b:Nat}(D:a≠b)(l o f O:Bool)(af:rj F h a b l=f):
  ∀L,tj h a b l o f O=some L->gq L (EV F h a b l o) (FP h a b):=by
 intro L H;unfold tj at H;split at H
 .cases H
 simp only[jb]at H;have m:(if o==(f==l)then 1 else -1:Int)=uK (rj F h a b l) l o:=by rw[af];unfold uK;cases o<;>cases f<;>cases l<;>rfl
 rw[m]at H;subst H;have r1:gq (pP (aq U.au h/2) (uK (rj F h a b l) l o) o) [J0 (zA h) (uK (rj F h a b l) l o) o,JN (zA h) (uK (rj F h a b l) l o) o] [false,true]:=gq.two WP WP
 have R:gq (qo (aq U.au h/2) (uK (rj F h a b l) l o) o f) (if rj F h a b l then [JN (zA h) (uK (rj F h a b l) l o) !o,J0 (zA h) (uK (rj F h a b l) l o) !o]else [J0 (zA h) (uK (rj F h a b l) l o) !o,JN (zA h) (uK (rj F h a b l) l o) !o]) [false,true]:=by
  rw[af];unfold qo;cases f with
  |true=>simp only[if_true];exact gq.two WP WP
  |false=>simp only[iJ,if_false];exact gq.two WP WP
 unfold EV FP MR;by_cases c:a<b
 .rw[aI c,aE J,aE (show¬b<a by omega)];exact((gq.base h).ins R b).ins r1 a
 rw[aE c,aI J,aI (show b<a by omega)];exact((gq.base h).ins r1 a).ins R b
def awO(a b:Nat):((a:Int)==(b:Int))=decide (a=b):=by grind
def aga(g:aU F h){a b:Nat}(H:a<I h)(n:b<I h)(D:a≠b)(l o:Bool):
  (wH F h a b l o).isSome=(decide (2*b∈(c8 F h (if l then 2*a else 2*a+1)).bc)||decide (2*b+1∈(c8 F h (if l then 2*a else 2*a+1)).bc))/\
  ∀L,wH F h a b l o=some L->gq L (EV F h a b l o) (FP h a b):=by
 have m:∀f O,(tj h a b l o f O).isSome=(f||O):=λf O=>by unfold tj;cases f<;>cases O<;>rfl
 unfold wH;simp only[awO];cases l with
 |true=>
  have E:decide (lG F h (2*b)=lG F h (2*a))=decide (2*b∈(c8 F h (2*a)).bc):=v6
  have j:decide (lG F h (2*b+1)=lG F h (2*a))=decide (2*b+1∈(c8 F h (2*a)).bc):=v6
  simp only[if_true];rw[E,j]
  grind [ah4,rj]
 |false=>
  have E:decide (lG F h (2*b+1)=lG F h (2*a+1))=decide (2*b+1∈(c8 F h (2*a+1)).bc):=v6
  have j:decide (lG F h (2*b)=lG F h (2*a+1))=decide (2*b∈(c8 F h (2*a+1)).bc):=v6
  simp only[iJ,if_false];rw[E,j]
  grind [c8,aqL,Jg,ah4,rj]
end
section
variable {F:Nat} {h:ae}
def amd:∀(w:aD) (f:cX),I f.places<=(w.foldl (cX.add F h) f).places.length/\ ∀x∈w,2*I h<=x->I (l_ F h ((x-2*I h)/2))<=(w.foldl (cX.add F h) f).places.length:=by
 intro w
 induction w with
 |nil=>intro f;exact⟨cP _,λx v=>nomatch v⟩
 |cons x w j=>
  intro f;obtain⟨n,m⟩:=j _;have u:I f.places<=(cX.add F h f x).places.length:=by
   unfold cX.add;split
   .exact cP _
   grind
  refine⟨ob u n,λy H hl=>?_⟩;rcases dh.1 H with rfl|H
  .grind [cX.add]
  exact m y H hl
def aDa(ok:fY F h){l:U}(hl:h[v]?=some l)(hp:l.ay)(f:Bool):∃k,k<I (aA h)/\
  ((aT h (jB (I h) v f)=2*I h+2*k/\(aA h).getD k 0=v)\/(aT h (jB (I h) v f)=2*I h+2*k+1/\(aA h).getD ((k+1)%I (aA h)) 0=v)):=by
 obtain⟨j,H⟩:=F2 ok hl hp;rw[El hl hp];by_cases c:(dn h v==f)
 .grind [aA]
 grind [dB,yW]
def ayY(ok:fY F h){k:Nat}(M:k+1<I (aA h))(H:(aA h).getD k 0=u)(z:(aA h).getD (k+1) 0=v){l m:U}(hl:h[u]?=some l)(x:h[v]?=some m)
  (pl:l.ay) (L:m.ay) (Q:m.gate<=l.gate):l.gate=m.gate/\m.ao=l.ao+1:=by
 obtain⟨X,B⟩:=aP (h:=aA h) (k:=k) J;obtain⟨O,n⟩:=aP M;rw[dM,B,mw]at H;rw[dM,n,mw]at z;subst H z;obtain⟨T,E,_,D⟩:=v_ ok.ax B;obtain⟨R,y,_,N⟩:=v_ ok.ax n;rw[hl]at E;cases E;rw[x]at y;cases y;have j:=ok.ax.fg l (a8 hl) pl;have A:=(ahH j (ok.ax.fg m (a8 x) L)).2 J;unfold Jr at A;simp at A;have f:l.gate=m.gate:=J;refine⟨f,?_⟩;unfold dN at D N;rw[f]at D;have:=j.r0;omega
end
def ady:S.sites 28=[27,28]:=ah
def um(b c:Nat)(i:Int):U:=⟨1,b,(c:Int)+i,0,0,false⟩
def ac3(F:Nat)(h:ae)(a b c:Nat):Bool:=decide ((b,c)∈(c8 F h (2*a)).places)
def F3(F:Nat)(h:ae)(a b c:Nat):ae:=hJ (h.map (jx b c (-2))) (if ac3 F h a b c != !dn h (a+1)then [um b c 2,um b c 1]else [um b c 1,um b c 2]) a
def Hd(h:ae)(a:Nat):dK:=hJ (eR h) [dn h (a+1),!dn h (a+1)] a
section
variable {al:cD} {Q:ib} {os all:fx} {d:eF} {B:bP} {blk:aH} {tr:gl}
def aGg{id s g:Nat}{m:dy}{r:RV}(hp:aC S f T r)(lo:S.lone s=false)(h:r.alone=false)(H:blk id=(g,some (.arr N z m))):sY S al (.pc f T [id] s) d all os Q B blk tr↔al.iG ([id]++(id::(jH blk s r).2.map (·.1)))=true/\p_ S al all os Q (dL B d (jH blk s r).1) (app (jH blk s r).2 (dz blk id (g,some (.uZ N z m)))) (tr++[⟨[id]++(id::(jH blk s r).2.map (·.1)),id::(jH blk s r).2.map (·.1),[]⟩]):=by refine adk (u:=(id,(g,some _))::(jH blk s r).2) hp ?_;rw[lo,Bf];unfold fQ;rw[aE ut];simp[vF,xh,zV,H]
def aFY{ez m:Nat}{g h f:Int}(X:al.ok E)(o2:al.ok M)(O:(S.sites 27).all al.fs.contains)(Z:E≠1728000000)(hl:I L<=1000000)(j:∀x∈L,IntKind.i64.wrap (x.ao-f)=x.ao-f)(H:blk E=(ez,some (.arr fO 6 (bY L))))(z:blk M=(R,some (.arr 4 1 (dx D))))(F:n=I L)(N:m=I D)
  (Y:∀A,A E=(ez,some (.arr fO 6 (bY (L.map (jx g h f)))))->(∀i,i≠E->i≠1728000000->A i=blk i)->jC S al os Q (dL B d (.tup [])) A):
  jW S al (.sc 27 [zG E ez M R n m,ai g,ai h,ai f]) d os Q B blk:=by
 subst F N;have y:=Sp (n:=I L) (m:=I D) H z;refine rG (Mk ?_ O) (aiF (uI ?_) (zy (by rw[SR];decide)) Z hl H j) ?_
 .show al.iG (([zG E ez M R (I L) (I D),ai g,ai h,ai f]:dG).map _).flatten=true;simp[fq,tR,y];have e:∀x:Int,mI blk (ai x)=[]:=λ_=>rfl;simp[cD.iG,X,o2,e]
 .grind
 rintro v A ⟨rfl,T,u⟩
 exact Y A T λi a b=>u i J
end
def aBB(E f:Nat)(L:ae)(D:dK)(blk:aH)(v:V)(A:aH):Prop:= ∃g1 h,v=.agg [.hsl 1792640448 g1 6 0 (I L),.hsl 1792640449 h 1 0 (I D)]/\A 1792640448=(g1,some (.arr fO 6 (bY L)))/\A 1792640449=(h,some (.arr 4 1 (dx D)))/\dk (λi=>i=E\/i=f\/lf i=27\/lf i=28) blk A
def at1{F:Nat}{h:ae}(g:aU F h){al:cD}{blk:aH}{ez j gF:Nat}(a b c:Nat)(l o:Bool)(sg:Int)(o1:al.ok E)(o2:al.ok M)(o4:al.ok j)(X:∀i,lf i=27\/lf i=28->al.ok i)(a1:(S.sites 27).all al.fs.contains)(n1:lf E≠27)(n2:lf E≠28)(n3:lf M≠27)(Y:lf M≠28)(n5:lf j≠27)(Z:lf j≠28)(a3:E≠M)(aN:E≠j)(ar:M≠j)(ha:a<I h)(hc:c<=1000)(hl:I h<=400)(jj:∀x∈h,IntKind.i64.wrap (x.ao - -2)=x.ao - -2)
  (hL:blk E=(ez,some (.arr fO 6 (bY h)))) (hD:blk M=(R,some (.arr 4 1 (dx (eR h))))) (hF:blk j=(gF,some (.arr tV 5 (ki (dA F h))))) (bQ:(c8 F h (2*a)).places.length<=1000000):
  ∃v ak,ja S 28 [.agg [.p (.int .i64 F),.p (fz h),.p (.int .i64 (I h)),.hsl j gF 5 0 (I (dA F h))],zG E ez M R (I h) (I h),c6 2 a b c l o sg] al blk v ak/\aBB E j (F3 F h a b c) (Hd h a) blk v ak:=by
 have pf:=R1 g ha true;have po:aC S 65 [.agg [.p (.bool (c8 F h (2*a)).eO),.p (.sl (aY (c8 F h (2*a)).bc)),.p (.sl (d_ (c8 F h (2*a)).places)),.p (.sl (aY (c8 F h (2*a)).sH)),.p (.bool (c8 F h (2*a)).outer)],.agg [.p (.int .i64 b),.p (.int .i64 c)]] (cK (decide ((b,c)∈(c8 F h (2*a)).places))):=adq (c8 F h (2*a)) (b,c) bQ;have pb:=akj (F:Int) h a J ha;have hn:((I h:Int)==0)=false:=beq_false_of_ne J;have l1:S.lone 1792320192=false:=ah;have l3:S.lone 1792640448=false:=ah;have w1:IntKind.i64.wrap ((c:Int)+1)=(c:Int)+1:=iS J J;have w2:IntKind.i64.wrap ((c:Int)+2)=(c:Int)+2:=iS J J;have an:E≠1792000000:=λH=>n2 i6
 have ad:E≠1792000064:=λH=>n2 i6;have ap:E≠1792000128:=λH=>n2 i6;have az:E≠1792000192:=λH=>n2 i6;have T:E≠1792064384:=λH=>n2 i6;have B:E≠1792128384:=λH=>n2 i6;have bb:E≠1792640448:=λH=>n2 i6;have a6:E≠1792640449:=λH=>n2 i6;have aB:M≠1792000000:=λH=>Y i6;have aw:M≠1792000064:=λH=>Y i6;have ab:M≠1792000128:=λH=>Y i6;have am:M≠1792000192:=λH=>Y i6;have A:M≠1792064384:=λH=>Y i6;have O:M≠1792128384:=λH=>Y i6;have a9:M≠1792640448:=λH=>Y i6
 have be:M≠1792640449:=λH=>Y i6;have Rv:j≠1792000000:=λH=>Z i6;have Q:j≠1792000064:=λH=>Z i6;have NO:j≠1792000128:=λH=>Z i6;have aL:j≠1792000192:=λH=>Z i6;have ag:j≠1792064384:=λH=>Z i6;have aF:j≠1792128384:=λH=>Z i6;have a5:j≠1792640448:=λH=>Z i6;have bd:j≠1792640449:=λH=>Z i6;have a0:E≠1728000000:=λH=>n1 i6;have a4:M≠1728000000:=λH=>n3 i6;have bf:j≠1728000000:=λH=>n5 i6
 have k0:al.ok 1792000000:=X _ (.inr rfl);have k1:al.ok 1792000064:=X _ (.inr rfl);have k2:al.ok 1792000128:=X _ (.inr rfl);have k3:al.ok 1792000192:=X _ (.inr rfl);have k4:al.ok 1792064384:=X _ (.inr rfl);have k5:al.ok 1792128384:=X _ (.inr rfl);have k6:al.ok 1792640448:=X _ (.inr rfl);have k7:al.ok 1792640449:=X _ (.inr rfl);simp only[if_true]at pf;unfold F3 Hd ac3;generalize hf:c8 F h (2*a)=f at*;generalize GD:decide ((b,c)∈f.places)=on at*;generalize iE:dn h (a+1)=dw at*;refine mL als (jg rfl) ?_;simp only[go_sem,acH,k0,k1,k2,k3,k4,k5,Rv,Q,NO,aL,ag,aF,hF,hn,w1,w2,vr,Ro]
 rw[aGg (g:=gF) (N:=tV) (z:=5) (m:=ki (dA F h)) pf l1 rfl (by simp only[go_sem,Rv,Q,NO,aL,ag,aF,hF])];simp only[go_sem,k0,k1,k2,an,ad,ap,az,T,B,aB,aw,ab,am,A,O,Rv.symm,Q.symm,NO.symm,aN,ar,o4,hL,hD,ad7,RM po,ahi,Uw pb,O0];refine⟨aK (by simp[qI,CY,zc,sd,zh,NO,Rv.symm,NO.symm]<;>decide),?_⟩
 refine aFY (L:=h) (D:=eR h) o1 o2 a1 a0 J jj (by simp only[go_sem,an,ad,ap,az,T,B,aN,hL]) (by simp only[go_sem,aB,aw,ab,am,A,O,ar,hD]) rfl (lL h).symm λb1 Gp y=>?_;have z0:=y 1792000000 an.symm aa;have z1:=y 1792000064 ad.symm aa;have z2:=y 1792000128 ap.symm aa;have z3:=y 1792000192 az.symm aa;have z4:=y 1792064384 T.symm aa;have z5:=y 1792128384 B.symm aa;have zD:=y M a3.symm a4;simp only[go_sem,aB,aw,ab,am,A,O,Rv.symm,Q.symm,NO.symm,aL.symm,ag.symm,aF.symm,ar,hD]at z0 z1 z2 z3 z4 z5 zD;have a2:dk (λi=>i=E\/i=j\/lf i=27\/lf i=28) blk b1:=by
  intro i u;have i1:i≠E:=λH=>u (.inl H);have i2:i≠j:=λH=>u (.inr (.inl H));have i3:i≠1728000000:=λH=>u (.inr (.inr (.inl i6)));rw[y i i1 i3];have j0:i≠1792000000:=λH=>u (.inr (.inr (.inr i6)));have j1:i≠1792000064:=λH=>u (.inr (.inr (.inr i6)));have j2:i≠1792000128:=λH=>u (.inr (.inr (.inr i6)));have j3:i≠1792000192:=λH=>u (.inr (.inr (.inr i6)));have j4:i≠1792064384:=λH=>u (.inr (.inr (.inr i6)));have j5:i≠1792128384:=λH=>u (.inr (.inr (.inr i6)));have j6:i≠1792640448:=λH=>u (.inr (.inr (.inr i6)))
  have j7:i≠1792640449:=λH=>u (.inr (.inr (.inr i6)));simp only[go_sem,i2,j0,j1,j2,j3,j4,j5]
 clear y;have RP:I (h.map (jx (b:Int) (c:Int) (-2)))=I h:=ct _;generalize h.map (jx (b:Int) (c:Int) (-2))=L1 at*;have q1:∀(g r g' r':Int) (e:Bool),aC S 33 [Gf L1 (eR h),ai a,.agg [.p (.int .i64 1),.p (.int .i64 g),.p (.int .i64 r),.p (.int .i64 0),.p (.int .i64 0),.p (.bool false)],.agg [.p (.int .i64 1),.p (.int .i64 g'),.p (.int .i64 r'),.p (.int .i64 0),.p (.int .i64 0),.p (.bool false)],iB e] (E_ (hJ L1 [⟨1,g,r,0,0,false⟩,⟨1,g',r',0,0,false⟩] a) (hJ (eR h) [e,!e] a)):=λg r g' r' e=>by have H:=NH L1 (eR h) a ⟨1,g,r,0,0,false⟩ ⟨1,g',r',0,0,false⟩ e J ((lL h).trans RP.symm) J;rw[s3 (H5 (n:=I h+1) (by rw[lA,RP];rfl)) (by rw[lA,lA,lL,RP];rfl)]at H;exact H
 have tk:List.take (I h) (bY L1)=bY L1:=by rw[<-RP];exact lz L1
 have tb:List.take (I h) (dx (eR h))=dx (eR h):=eT (by rw[Hk,lL];omega);have aep:(false==true)=false:=rfl;have XE:(true==false)=false:=rfl;have XC:(false !=true):=rfl;have XG:(true !=false):=rfl;have aa1:(true !=true)=false:=rfl;have adP:(false !=false)=false:=rfl;cases on<;>cases dw<;>simp only[go_sem,k1,k2,k3,k4,k5,k6,k7,T,B,A,O,o1,o2,Gp,z1,z2,z3,z4,z5,zD,XC,XG,uL,Hk,lL,RP,tk,tb,aeq,gN (q1 _ _ _ _ _) l3 (.inr (CM _ _))]
 all_goals
  refine⟨_,_,rfl,?_,?_,?_⟩
  .simp only[go_sem];rfl
  .simp only[go_sem]
  repeat' (first|exact a2|refine dk.dz ?_ (.inr (.inr (.inr rfl))) _)
section
variable {F:Nat} {h:ae}
def t_(h:ae)(x:Nat):Bool:=decide (2*I h<=x)
def CH(h:ae)(x:Nat):Bool:=if 2*I h<=x then x%2==1 else match h[oc h x]? with|some l=>l.ay&&(dn h (oc h x)==(x%2==0))|none=>false
def apX(x:Nat):t_ h (eH x)=t_ h x:=by
 unfold t_ eH
 grind
theorem VS{l:U}(hl:h[v]?=some l)(f:Bool):CH h (jB (I h) v f)=(l.ay&&(dn h v==f)):=by
 have A:=zi ((bN.1 hl).1) f
 grind [CH,DW,jB]
def ayi(ok:fY F h){x:Nat}(j:x<aX h):CH h (eH (aT h x))=(CH h x !=t_ h x):=by
 unfold aX at j;rcases RL x (2*I h)with c|c
 .have H:t_ h x=false:=by unfold t_;simp;omega
  rw[H];have f:(if x%2=0 then(x/2+1)%I h else x/2)<I h:=by have:=dB (x/2+1) (show 0<I h by omega);split<;>omega
  rw[IN c];generalize(if x%2=0 then(x/2+1)%I h else x/2)=v at f;generalize(x%2==0)=fw;obtain⟨l,hl⟩:=aP f;rw[VS hl];rcases ok.kinds l (a8 hl)with hp|y
  .obtain⟨u,A⟩:=F2 ok hl hp;rw[El hl hp,hp];by_cases d:(dn h v==fw)
   .rw[aI d,d,show 2*I h+2*(aA h).idxOf v=2*(I h+(aA h).idxOf v) by omega,s8]
    grind [CH]
   rw[aE d,aeY.2 d,show 2*I h+2*(((aA h).idxOf v+I (aA h)-1)%I (aA h))+1=2*(I h+((aA h).idxOf v+I (aA h)-1)%I (aA h))+1 by omega,BT]
   grind [CH]
  obtain⟨u,m,D,E,B,z,M⟩:=qy ok.cr hl y
  grind [oV,yZ,tX,VS]
 have H:t_ h x:=by unfold t_;simpa using c
 rw[H];rcases rN x with d|d
 .obtain⟨l,hl,hp⟩:=z_ (dB ((x-2*I h)/2+1) (show 0<I (aA h) by omega));have e:CH h x=false:=by unfold CH;rw[aI c,d];rfl
  rw[e,show x=2*I h+2*((x-2*I h)/2) by omega,CE,tX,FU];rw[VS hl,hp];simp
 have n:(x-2*I h)/2<I (aA h):=J;obtain⟨l,hl,hp⟩:=z_ n;have e:CH h x:=by unfold CH;rw[aI c,d];rfl
 rw[e,show x=2*I h+2*((x-2*I h)/2)+1 by omega,D3,tX]
 grind [VS]
abbrev YE(ls:ae):Nat->Nat->Prop:=yI ls (t_ ls)
def aj9(g:aU F h){x s:Nat}(u:x<2*I h)(af:s<2):cM (YE h) (2*x+s) (je (dn h (x/2+1)!=dn h 1) s):=by
 have ok:=g.ok;have N:=FV h;have hp:=apX (h:=h);have str:∀y,y<2*I h->t_ h y=false:=λy R=>by unfold t_;simp;omega
 have f:∀i,i<I h->∀s,s<2->cM (YE h) (2*(2*i)+s) (je (dn h (i+1)!=dn h 1) s):=by
  intro i
  induction i with
  |zero=>intro _ s _;simp only[lh];cases dn h 1<;>(rw[show 2*(2*0)+s=s by omega];exact .refl _)
  |succ i M=>
   intro z s af;obtain⟨l,hl⟩:=aP z;have e:2*i=jB (I h) (i+1) true:=Fr
   have v:=X6 ok z true;rw[<-e]at v;have H:2*i<aX h:=J;have m:=(nc ok).lt _ H;have step:∀t,t<2->cM (YE h) (2*(2*i)+t) (2*(2*(i+1))+je (t_ h (aT h (2*i))) t):=λt j=>by have A:=Q5 hp (by rw[N]at m |-;exact vi m) (s:=je (t_ h (aT h (2*i))) t) (C7 j);rw[v]at A;exact(Q5 hp H j).trans ((Pc hp m j).trans A)
   have n:=(step (je (t_ h (aT h (2*i))) s) (C7 af)).symm.trans (M J (je (t_ h (aT h (2*i))) s) (C7 af));rw[LL af,ajw _ _ af]at n;rcases ok.kinds l (a8 hl)with B|D
   .have Q:=(F2 ok hl B).1;have u:t_ h (aT h (2*i)):=by
     rw[e,El hl B];unfold t_;simp only[fL];split<;>omega
    rw[u]at n;rw[Gs hl B];have:((dn h (i+1)!=dn h 1)!=true)=((!dn h (i+1))!=dn h 1):=by cases dn h (i+1)<;>cases dn h 1<;>rfl
    rwa[this]at n
   obtain⟨_,w,E,O,_⟩:=qy ok.cr hl D;have u:t_ h (aT h (2*i))=false:=by rw[e,yZ hl D];exact str _ (C4 (bN.1 E).1)
   grind [Nw,oV,dn]
 rcases rN x with c|c
 .have:=f (x/2) J s af;rwa[show 2*(x/2)=x by omega]at this
 have H:=Pc (h:=h) hp (x:=2*(x/2)) J af;rw[s8,str _ J]at H;have L:je false s=s:=rfl;rw[L,show 2*(x/2)+1=x by omega]at H;exact H.symm.trans (f (x/2) J s af)
theorem SV(g:aU F h){w:aD}(f:w∈eX (aT h) (aX h)){x:Nat}(H:x∈w)(j:y∈w)(u:x<2*I h)(m:y<2*I h):dn h (x/2+1)=dn h (y/2+1):=by have hp:=apX (h:=h);have E:=(aj9 g u aa).symm.trans ((ah3 g hp f H j aa).trans (aj9 g m (s:=0) aa));have n:=apz g hp λx H=>ayi g.ok H;revert E;cases dn h _<;>cases dn h (y/2+1)<;>cases dn h 1<;>intro E<;>first|rfl|exact absurd E n|exact absurd E.symm n
end
section
variable {F:Nat} {h:ae}
def aw6:∀(w:aD) (f:cX),(w.foldl (cX.add F h) f).eO=f.eO:=by
 intro w
 induction w with
 |nil=>intro f;rfl
 |cons x w j=>intro f;rw[Ac,j];unfold cX.add;split<;>rfl
def ame(g:aU F h){d:Nat}(H:d<2*I h):(c8 F h d).eO=dn h (d/2+1):=by
 obtain⟨j,_,m,_⟩:=BC H;obtain⟨w,f,hf⟩:=c_.1 (Jg H);rw[<-hf,zd]at m;rw[<-hf];obtain _:=xR g.ok w f;unfold jc;rw[aw6];show dn h _=_
 grind [SV]
def ahj(g:aU F h){a b c:Nat}(v:a<I h):
  (o_ F h a b c).isSome=(decide ((b,c)∈(c8 F h (2*a)).places)||decide ((b,c)∈(c8 F h (2*a+1)).places))/\
  ∀L,o_ F h a b c=some L->gq L (F3 F h a b c) (Hd h a):=by
 have A:=ame g (d:=2*a) J;have u:=ame g (d:=2*a+1) J;rw[show 2*a/2=a by omega]at A;rw[show(2*a+1)/2=a by omega]at u;have m:gq (dT (aJ h) b c 2) (h.map (jx b c (-2))) (eR h):=(gq.base h).map λp _=>WD _ _ _ p;have f:∀d,gq [jU b ((c+1:Nat):Int) d,jU b ((c+2:Nat):Int) (!d)] [um b c 1,um b c 2] [d,!d]:=λd=>gq.two (λ_=>rfl) (λ_=>rfl);have R:∀d,gq [jU b ((c+2:Nat):Int) d,jU b ((c+1:Nat):Int) (!d)] [um b c 2,um b c 1] [d,!d]:=λd=>gq.two (λ_=>rfl) (λ_=>rfl);unfold o_ F3 Hd ac3;by_cases n:(b,c)∈(c8 F h (2*a)).places
 .rw[aI n,uG n];refine⟨aG,λL H=>?_⟩;cases H;unfold vD;rw[A];cases dn h (a+1)with
  |true=>exact m.ins (R true) a
  |false=>exact m.ins (f false) a
 rw[aE n,uE n];by_cases j:(b,c)∈(c8 F h (2*a+1)).places
 .rw[aI j,uG j];refine⟨aG,λL H=>?_⟩;cases H;unfold vD;rw[u];cases dn h (a+1)with
  |true=>exact m.ins (f true) a
  |false=>exact m.ins (R false) a
 rw[aE j,uE j];exact⟨rfl,λL H=>by cases H⟩
end
def CI(n f k:Int):Int×Int:=if k==2 then(n+2,f)else if k==5 then(n+2,f+1)else if k==7 then(n+4,f+2)else(n,f)
def JJ(w p:Bool)(n f k:Int):Int:=if w then 2 else if p then(if decide (400<(CI n f k).1)||decide (100<(CI n f k).2)then 7 else 0)else 4
def HL{k a b c:Int}{l o:Bool}{sg:Int}{w p:Bool}(hl:I h<=400)(pw:aC S 56 [ic F h,c6 k a b c l o sg] (cK w))(f:w=false->aC S 57 [ic F h,c6 k a b c l o sg] (cK p)):
  aC S 20 [ic F h,c6 k a b c l o sg] (fH (JJ w p (I h) (aq U.au h/2:Nat) k)):=by
 have j:=Oy (F:Int) h J;have N:aq U.au h<=I h:=ny _ _;have y:aq U.au h/2<=400:=J;generalize aq U.au h/2=m at*;have u:IntKind.i64.wrap _=(m:Int)+1:=iS J J;have x:IntKind.i64.wrap _=(m:Int)+2:=iS J J;have v:IntKind.i64.wrap _=(I h:Int)+2:=iS J J;have n:IntKind.i64.wrap _=(I h:Int)+4:=iS J J;unfold JJ CI;cases w with
 |true=>
  refine ba adF ?_;simp only[go_sem,i20,P7,cS pw];repeat' ((first|apply qh|apply ql|apply qg|apply qq|apply pL|apply qf)<;>intro H<;>simp only[go_sem, *,P7,cS pw,bne,jl,gk])
  all_goals(first|done|exact aK|exact _|rfl)
 |false=>
  have f:=f rfl;cases p
  case' false=>refine ba adF ?_;simp only[go_sem,i20,P7,cS pw,XD,cS f];repeat' ((first|apply qh|apply ql|apply qg|apply qq|apply pL|apply qf)<;>intro H<;>simp only[go_sem, *,P7,cS pw,XD,cS f,bne,jl,gk])
  case' true=>refine ba adF ?_;simp only[go_sem,i20,P7,cS pw,XD,cS f,Sa,jZ j];refine⟨aK,?_⟩;repeat' ((first|apply qh|apply ql|apply qg|apply qq|apply pL|apply qf)<;>intro H<;>simp only[go_sem, *])
  all_goals
   all_goals(first|done|exact aK|exact⟨aK,rfl⟩|rfl)
def agc(g:aU F h){k a b c:Int}{l o:Bool}{sg v:Int}(H:aC S 20 [ic F h,c6 k a b c l o sg] (fH v)):aC S 7 [c7 F h,c6 k a b c l o sg] (fH v):=by have f:=Ay g;have L:S.lone 448064064=false:=ah;rw[oa (AK g)]at f;refine ba Bo ?_;simp only[go_sem,adn,tQ,xV f L _,vr,MY,jZ H];exact aK
def apB(g:aU F h){i:Nat}{c:Int}{l o:Bool}{sg:Int}(f:i<I h)(H:j<I h):aC S 57 [ic F h,c6 3 i j c l o sg] (cK (IC F h i j)):=by
 have ps:=ay0 g f H;refine ba Co ?_;simp only[go_sem,Ax,apY,cS ps];repeat' ((first|apply qh|apply ql|apply qg|apply qq|apply pL|apply qf)<;>intro m<;>simp only[go_sem, *,apY,cS ps,bne,jl,gk])
 all_goals(first|done|exact aK|exact _|rfl)
def amV(g:aU F h){i:Nat}{c:Int}{l o:Bool}{sg:Int}(f:i<I h)(H:j<I h):aC S 57 [ic F h,c6 6 i j c l o sg] (cK (JO F h i j)):=by
 have ps:=azE g f H;refine ba Co ?_;simp only[go_sem,Ax,anW,cS ps];repeat' ((first|apply qh|apply ql|apply qg|apply qq|apply pL|apply qf)<;>intro m<;>simp only[go_sem, *,anW,cS ps,bne,jl,gk])
 all_goals(first|done|exact aK|exact _|rfl)
def ak1(g:aU F h){i k:Nat}{l o:Bool}{sg:Int}(m:i<I h)(f:j<I h)(H:k<I h):aC S 57 [ic F h,c6 8 i j k l o sg] (cK (Ei F h [i,j,k])):=by
 have ps:=awG g m f H;refine ba Co ?_;simp only[go_sem,Ax,amS,cS ps];repeat' ((first|apply qh|apply ql|apply qg|apply qq|apply pL|apply qf)<;>intro n<;>simp only[go_sem, *,amS,cS ps,bne,jl,gk])
 all_goals(first|done|exact aK|exact _|rfl)
def amQ{a b c:Int}{l o:Bool}{sg:Int}:aC S 57 [ic F h,c6 5 a b c l o sg] (cK (true)):=by
 refine ba Co ?_;simp only[go_sem,Ax];repeat' ((first|apply qh|apply ql|apply qg|apply qq|apply pL|apply qf)<;>intro H<;>simp only[go_sem, *,U.ps,bne,jl,gk])
 all_goals(first|done|exact aK|exact _|rfl)
def anp(g:aU F h){i:Nat}{b c:Int}{l o:Bool}{sg:Int}(H:i<I h):aC S 57 [ic F h,c6 4 i b c l o sg] (cK (r6 h i&&((aV h i).id==(aV h (nx h i)).id))):=by
 have L:S.lone 3648704192=false:=ah;have pc:=WT (F:=F) H (by have:=g.len;omega);refine ba Co ?_;simp only[go_sem,Ax,NA,gN pc L _];repeat' ((first|apply qh|apply ql|apply qg|apply qq|apply pL|apply qf)<;>intro f<;>simp only[go_sem, *])
 all_goals(first|done|exact aK|exact _|rfl)
def agk(g:aU F h){i:Nat}{c:Int}{l o:Bool}{sg:Int}(x:i<I h)(A:j<I h):aC S 57 [ic F h,c6 7 i j c l o sg] (cK (decide (2*j∈(c8 F h (if l then 2*i else 2*i+1)).bc)||decide (2*j+1∈(c8 F h (if l then 2*i else 2*i+1)).bc))):=by
 have u:=R1 g x l;have m:=g.len;have H:(c8 F h (if l then 2*i else 2*i+1)).bc.length<=1000000:=by have y:=IU g.ok (AP (aov (d:=if l then 2*i else 2*i+1) Fd));have kG:I (aA h)<=I h:=qp h (I h);simp[aX]at y;omega
 have N:=Et (c8 F h (if l then 2*i else 2*i+1)).bc (2*j) H;have v:=Et (c8 F h (if l then 2*i else 2*i+1)).bc (2*j+1) H;have n:IntKind.i64.wrap (2*(j:Int))=((2*j:Nat):Int):=iS J J;have B:IntKind.i64.wrap (((2*j:Nat):Int)+1)=((2*j+1:Nat):Int):=cg J;have L:S.lone 3649024320=false:=ah;generalize c8 F h (if l then 2*i else 2*i+1)=f at*;refine ba Co ?_;simp only[go_sem,Ax,Ro,gN u L (.inl rfl),uy,cS N,n];repeat' ((first|apply qh|apply ql|apply qg|apply qq|apply pL|apply qf)<;>intro z<;>simp only[go_sem, *,uy,cS v])
 all_goals(first|done|exact aK|exact⟨aK,rfl⟩|rfl)
def aqp(g:aU F h){i:Nat}{b c:Int}{l o:Bool}{sg:Int}(m:i<I h)(n:Mt (aV h i))(j:Mt (aV h (nx h i))):aC S 57 [ic F h,c6 1 i b c l o sg] (cK (zk (aV h i) (aV h (nx h i))&&(decide ((2:Int)<(aq U.ay h:Nat))||(((aq U.au h/2:Nat):Int)==0)))):=by
 have H:=g.len;have pb:=Kt (F:=F) m J;have f:=anY _ _ n j;have u:=ai3 (F:Int) h J;have pc:=Oy (F:Int) h J;have L:S.lone 3648192192=false:=ah;generalize zk (aV h i) (aV h (nx h i))=v at*;generalize aV h i=X at*;generalize aV h (nx h i)=Y at*;generalize aq U.ay h=N at*;generalize aq U.au h/2=y at*;refine ba Co ?_;simp only[go_sem,Ax,F1,gN pb L (.inl rfl),ajd,cS f];repeat' ((first|apply qh|apply ql|apply qg|apply qq|apply pL|apply qf)<;>intro x<;>simp only[go_sem, *,Og,ie u,Sa,ie pc])
 all_goals(first|done|exact aK|exact⟨aK,rfl⟩|rfl)
def agz(g:aU F h){i:Nat}{b c:Int}{l o:Bool}{sg:Int}{x:U}(H:h[i]?=some x):aC S 57 [ic F h,c6 10 i b c l o sg] (cK ((x.kind==1)&&(decide (0<x.gate)&&(x.ao==1)))):=by
 have m:=(bN.1 H).1;have f:=fW H;refine ba Co ?_;simp only[go_sem,Ax,f,U.ps];repeat' ((first|apply qh|apply ql|apply qg|apply qq|apply pL|apply qf)<;>intro j<;>simp only[go_sem, *])
 all_goals(first|done|exact aK|exact⟨aK,rfl⟩|rfl)
def agE(g:aU F h){i:Nat}{b c:Int}{l o:Bool}{sg:Int}{x:U}(j:h[i]?=some x):aC S 57 [ic F h,c6 9 i b c l o sg] (cK ((x.kind==1)&&(decide (x.gate<(F:Int))&&(x.ao==((aq (m_ x.gate) h:Nat):Int))))):=by
 have u:=(bN.1 j).1;have H:=g.len;have m:=fW j;have f:=V7 (F:Int) h J x.gate;refine ba Co ?_;simp only[go_sem,Ax,m,U.ps];repeat' ((first|apply qh|apply ql|apply qg|apply qq|apply pL|apply qf)<;>intro n<;>simp only[go_sem, *,WL,jZ f])
 all_goals(first|done|exact aK|exact⟨aK,rfl⟩|rfl)
def ahe(g:aU F h){i b c:Nat}{l o:Bool}{sg:Int}(H:i<I h)(B:(c8 F h (2*i)).places.length<=1000000)(y:(c8 F h (2*i+1)).places.length<=1000000):aC S 57 [ic F h,c6 2 i b c l o sg] (cK (decide ((b,c)∈(c8 F h (2*i)).places)||decide ((b,c)∈(c8 F h (2*i+1)).places))):=by
 have j:=g.len;have m:((I h:Int)==0)=false:=beq_false_of_ne J;have f:=R1 g H true;have pr:=R1 g H false;simp only[if_true,iJ,if_false]at f pr;have L:S.lone 3648448448=false:=ah;have v:S.lone 3648448960=false:=ah;have x:aC S 65 [.agg [.p (.bool (c8 F h (2*i)).eO),.p (.sl (aY (c8 F h (2*i)).bc)),.p (.sl (d_ (c8 F h (2*i)).places)),.p (.sl (aY (c8 F h (2*i)).sH)),.p (.bool (c8 F h (2*i)).outer)],.agg [.p (.int .i64 b),.p (.int .i64 c)]] (cK (decide ((b,c)∈(c8 F h (2*i)).places))):=adq (c8 F h (2*i)) (b,c) B
 have O:aC S 65 [.agg [.p (.bool (c8 F h (2*i+1)).eO),.p (.sl (aY (c8 F h (2*i+1)).bc)),.p (.sl (d_ (c8 F h (2*i+1)).places)),.p (.sl (aY (c8 F h (2*i+1)).sH)),.p (.bool (c8 F h (2*i+1)).outer)],.agg [.p (.int .i64 b),.p (.int .i64 c)]] (cK (decide ((b,c)∈(c8 F h (2*i+1)).places))):=adq (c8 F h (2*i+1)) (b,c) y;generalize c8 F h (2*i)=u at*;generalize c8 F h (2*i+1)=n at*;generalize decide ((b,c)∈u.places)=z at*;generalize decide ((b,c)∈n.places)=E at*;refine ba Co ?_;simp only[go_sem,Ax,m,Ro,xV f L (.inl rfl),ad7,mA x];repeat' ((first|apply qh|apply ql|apply qg|apply qq|apply pL|apply qf)<;>intro A<;>simp only[go_sem, *,Ro,xV pr v (.inl rfl),ad7,mA O])
 all_goals(first|done|exact aK|exact⟨aK,rfl⟩|rfl)
abbrev g_(s:ByteArray):V:=.one (.p (.str s))
abbrev zX(s:ByteArray):RV:=.one (.p (.str s))
theorem abe:aC S 58 [ai 1] (zX ⟨#[65]⟩):=jY S 20 ah
def YY:aC S 58 [ai 2] (zX ⟨#[65,66,67]⟩):=jY S 20 ah
def abt:aC S 58 [ai 3] (zX ⟨#[65,66]⟩):=jY S 20 ah
def acq:aC S 58 [ai 4] (zX ⟨#[65]⟩):=jY S 20 ah
def aab:aC S 58 [ai 5] (zX ⟨#[65,79,83]⟩):=jY S 20 ah
def acs:aC S 58 [ai 6] (zX ⟨#[65,66]⟩):=jY S 20 ah
def aco:aC S 58 [ai 7] (zX ⟨#[65,66,76,79]⟩):=jY S 20 ah
def aak:aC S 58 [ai 8] (zX ⟨#[65,66,67]⟩):=jY S 20 ah
def ab8:aC S 58 [ai 9] (zX ⟨#[65]⟩):=jY S 20 ah
def X_:aC S 58 [ai 10] (zX ⟨#[65]⟩):=jY S 20 ah
theorem En:aC S 59 [g_ ⟨#[65]⟩,.one (.p (.int .u8 66))] (cK false):=jY S 30 ah
theorem FD:aC S 59 [g_ ⟨#[65]⟩,.one (.p (.int .u8 67))] (cK false):=jY S 30 ah
theorem D8:aC S 59 [g_ ⟨#[65]⟩,.one (.p (.int .u8 76))] (cK false):=jY S 30 ah
theorem FL:aC S 59 [g_ ⟨#[65]⟩,.one (.p (.int .u8 79))] (cK false):=jY S 30 ah
def aDy:aC S 59 [g_ ⟨#[65]⟩,.one (.p (.int .u8 83))] (cK false):=jY S 30 ah
def Ru:aC S 59 [g_ ⟨#[65,66]⟩,.one (.p (.int .u8 66))] (cK true):=jY S 30 ah
def OW:aC S 59 [g_ ⟨#[65,66]⟩,.one (.p (.int .u8 67))] (cK false):=jY S 30 ah
def Sn:aC S 59 [g_ ⟨#[65,66]⟩,.one (.p (.int .u8 76))] (cK false):=jY S 30 ah
def Oc:aC S 59 [g_ ⟨#[65,66]⟩,.one (.p (.int .u8 79))] (cK false):=jY S 30 ah
def aGY:aC S 59 [g_ ⟨#[65,66]⟩,.one (.p (.int .u8 83))] (cK false):=jY S 30 ah
def RY:aC S 59 [g_ ⟨#[65,66,67]⟩,.one (.p (.int .u8 66))] (cK true):=jY S 30 ah
def O4:aC S 59 [g_ ⟨#[65,66,67]⟩,.one (.p (.int .u8 67))] (cK true):=jY S 30 ah
def PI:aC S 59 [g_ ⟨#[65,66,67]⟩,.one (.p (.int .u8 76))] (cK false):=jY S 30 ah
def Q3:aC S 59 [g_ ⟨#[65,66,67]⟩,.one (.p (.int .u8 79))] (cK false):=jY S 30 ah
def aAw:aC S 59 [g_ ⟨#[65,66,67]⟩,.one (.p (.int .u8 83))] (cK false):=jY S 30 ah
def aec:aC S 59 [g_ ⟨#[65,66,76,79]⟩,.one (.p (.int .u8 66))] (cK true):=jY S 30 ah
def XB:aC S 59 [g_ ⟨#[65,66,76,79]⟩,.one (.p (.int .u8 67))] (cK false):=jY S 30 ah
def aat:aC S 59 [g_ ⟨#[65,66,76,79]⟩,.one (.p (.int .u8 76))] (cK true):=jY S 30 ah
def ZE:aC S 59 [g_ ⟨#[65,66,76,79]⟩,.one (.p (.int .u8 79))] (cK true):=jY S 30 ah
def XM:aC S 59 [g_ ⟨#[65,66,76,79]⟩,.one (.p (.int .u8 83))] (cK false):=jY S 30 ah
def abQ:aC S 59 [g_ ⟨#[65,79,83]⟩,.one (.p (.int .u8 66))] (cK false):=jY S 30 ah
def Ya:aC S 59 [g_ ⟨#[65,79,83]⟩,.one (.p (.int .u8 67))] (cK false):=jY S 30 ah
def adU:aC S 59 [g_ ⟨#[65,79,83]⟩,.one (.p (.int .u8 76))] (cK false):=jY S 30 ah
def aa5:aC S 59 [g_ ⟨#[65,79,83]⟩,.one (.p (.int .u8 79))] (cK true):=jY S 30 ah
def acw:aC S 59 [g_ ⟨#[65,79,83]⟩,.one (.p (.int .u8 83))] (cK true):=jY S 30 ah
def aEl:FR .eql ⟨#[65]⟩ ⟨#[]⟩=some (.bool false):=ah
def aCg:FR .eql ⟨#[65,66]⟩ ⟨#[]⟩=some (.bool false):=ah
def asO:FR .eql ⟨#[65,66,67]⟩ ⟨#[]⟩=some (.bool false):=ah
def arc:FR .eql ⟨#[65,66,76,79]⟩ ⟨#[]⟩=some (.bool false):=ah
def aFE:FR .eql ⟨#[65,79,83]⟩ ⟨#[]⟩=some (.bool false):=ah
def azt{a b:Int}:decide (a<b)= !decide (b<=a):=by
 by_cases h:a<b
 .have:¬b<=a:=J;simp[h,this]
 have:b<=a:=J;simp[h,this]
section
variable {F:Nat} {h:ae} {a b c:Int} {l o:Bool} {sg:Int}
def aCX(F:Nat)(h:ae)(b c:Int):(decide (0<=b)&&(decide (b<=(F:Int))&&(decide (0<=c)&&decide (c<=((aq (m_ b) h:Nat):Int)))))=(decide (0<=b)&&(decide (b<=(F:Int))&&(decide (0<=c)&&decide (c<=(aZ h b.toNat:Int))))):=by
 by_cases H:0<=b
 .rw[show aq (m_ b) h=aZ h b.toNat by rw[aZ,aq,aq];congr 1;funext x;exact Jw b H x]
 simp[H]
def aC6(hl:I h<=1000000){k:Int}(f:k=1\/k=2\/k=3\/k=4\/k=5\/k=6\/k=7\/k=8\/k=9\/k=10):aC S 56 [ic F h,c6 k a b c l o sg] (cK (!dQ F h k a b c l o sg)):=by
 unfold dQ;have pl:=ar8 (F:=F) b c hl;rw[aCX]at pl;generalize(decide (0<=b)&&(decide (b<=(F:Int))&&(decide (0<=c)&&decide (c<=(aZ h b.toNat:Int)))))=PB at pl |-;have j:(I h==0)=((I h:Int)==0):=by rw[sv];simp
 rw[j];rcases f with rfl|rfl|rfl|rfl|rfl|rfl|rfl|rfl|rfl|rfl
 all_goals
  simp only[Int.reduceEq,if_true,if_false,or_false,or_true,or_self,azt];refine ba apd ?_;repeat' (first|simp only[go_sem, *,abA,Ti,Am abe,Am YY,Am abt,Am acq,Am aab,Am acs,Am aco,Am aak,Am ab8,Am X_,aEl,aCg,asO,arc,aFE,KW,cS En,cS FD,cS D8,cS FL,cS aDy,cS Ru,cS OW,cS Sn,cS Oc,cS aGY,cS RY,cS O4,cS PI,cS Q3,cS aAw,cS aec,cS XB,cS aat,cS ZE,cS XM,cS abQ,cS Ya,cS adU,cS aa5,cS acw,atZ,cS (aeC a),cS (aeC b),cS (aeC c),avZ,cS pl,bne]|refine qh (λH=>?_) (λH=>?_)|refine ql (λH=>?_) (λH=>?_)|refine qg (λH=>?_) (λH=>?_)|refine qq (λH=>?_) (λH=>?_)|refine pL (λH=>?_) (λH=>?_)|refine qf (λH=>?_) (λH=>?_))
  all_goals(first|done|exact aK|exact⟨aK,rfl⟩|rfl)
end
def aF3{k:Int}(m:(k==1)=false)(F:(k==2)=false)(u:(k==3)=false)(j:(k==4)=false)(v:(k==5)=false)(y:(k==6)=false)(h:(k==7)=false)(n:(k==8)=false)(x:(k==9)=false)(f:(k==10)=false):aC S 58 [ai k] (zX ⟨#[]⟩):=by refine ba aBJ ?_;simp only[go_sem,aiC,m,F,u,j,v,y,h,n,x,f];try rfl
def aEt:FR .eql ⟨#[]⟩ ⟨#[]⟩=some (.bool true):=ah
def aHi{k a b c:Int}{l o:Bool}{sg:Int}(u:(k==1)=false)(j:(k==2)=false)(x:(k==3)=false)(n:(k==4)=false)(y:(k==5)=false)(B:(k==6)=false)(m:(k==7)=false)(v:(k==8)=false)(z:(k==9)=false)(f:(k==10)=false):aC S 56 [ic F h,c6 k a b c l o sg] (cK true):=by have A:=aF3 u j x n y B m v z f;refine ba apd ?_;simp only[go_sem,abA,Ti,Am A,aEt];all_goals(first|done|exact aK|exact⟨aK,rfl⟩|rfl)
def oi(p q l:U):U:=if qk l p then q else if qk l q then p else l
def aro(g:aU F h)(i j:Nat)(c:Int)(l o:Bool)(sg:Int)(hi:i<I h)(hj:j<I h)(H:2<=I h)(hl:I h<=400):
  aC S 9 [c7 F h,c6 3 i j c l o sg] (pM F (gK (gK (h.map (oi (kQ h i).2.1 (kQ h j).2.1)) i (nx h i)) j (nx h j)) (gK (gK (eR h) i (nx h i)) j (nx h j))):=by
 have M:=Ay g;have po:=B4 (F:Int) h J;have l1:S.lone 576064064=false:=ah;have l2:S.lone 576128064=false:=ah;have l4:S.lone 579136128=false:=ah;rw[oa (AK g)]at M;have nh:=s3 g.ne (lL h);simp only[uM]at nh;rw[nh]at po;have N8:=BB (F:=F) hi J;have Hg:=BB (F:=F) hj J;have am:=Wg (F:=F) hi J;have ad:=Wg (F:=F) hj J;have l5:S.lone 576704192=false:=ah;have l6:S.lone 576768192=false:=ah
 generalize(kQ h i).1=X at*;generalize(kQ h i).2.1=P at*;generalize(kQ h i).2.2=e1 at*;generalize(kQ h j).1=Y at*;generalize(kQ h j).2.1=Z at*;generalize(kQ h j).2.2=e2 at*;refine ba tc ?_;simp only[go_sem,i9,tQ,gN M l1 (.inl rfl)];simp only[go_sem,yS,gN po l2 (.inl rfl),vr,afN,gN am l5 (.inr rfl),gN ad l6 (.inr rfl),lL];refine cZ (λq B blk=>B 2=.one (.aW 576000000 1 0)/\B 3=.one (.aW 576000064 1 0)/\B 4=.one (.aW 576000128 1 0)/\B 5=.one (.aW 576064128 1 0)/\B 6=.one (.aW 576128128 1 0)/\B 10=.one (.aW 576704576 1 0)/\B 13=.one (.aW 576768576 1 0)/\B 15=ai q/\
   blk 576000000=(1,some (.var [.p (.int .i64 F),.p (fz h)]))/\blk 576000064=(1,some (.var [.p (.int .i64 3),.p (.int .i64 i),.p (.int .i64 j),.p (.int .i64 c),.p (.bool l),.p (.bool o),.p (.int .i64 sg)]))/\
   blk 576000128=(1,some (.var [.p (.int .i64 0),.p .nils]))/\blk 576064067=(1,some (.arr tV 5 (ki (dA F h))))/\blk 576064128=(1,some (.var [.p (.int .i64 F),.p (fz h),.p (.int .i64 (I h)),.hsl 576064067 1 5 0 (I (dA F h))]))/\
   blk 576128128=(1,some (.var [.hsl 576128064 1 6 0 (I h),.hsl 576128065 1 1 0 (I h)]))/\blk 576128065=(1,some (.arr 4 1 (dx (eR h))))/\
   blk 576704576=(1,some (.var (RD P)))/\blk 576768576=(1,some (.var (RD Z)))/\blk 576128064=(1,some (.arr fO 6 (bY (qe (oi P Z) h q))))) 0 (I h) (bj _) ?_ ?_
 .simp only[go_sem,qe]
  trivial
 rintro q B blk hq ⟨v2,v3,v4,v5,Je,u,m,v,b0,N,b2,bf,O,T,bD,pK,bZ,A⟩
 by_cases Q:q<I h
 .have aL:((q:Int)<(I h:Int)):=J;have w1:=cg (n:=q) J;obtain⟨x,hx⟩:=aP Q;have hm:=Xt (f:=oi P Z) hx;have gR:=fW hm;have iX:q<I (qe (oi P Z) h q):=by rw[acy];exact Q
  have Pz:=F_ x P;have E:=F_ x Z;cases R:qk x P with
  |true=>rw[R]at Pz;simp only[go_sem,OZ,v2,v3,v4,v5,Je,u,m,v,b0,N,b2,bf,O,T,bD,pK,bZ,A,Q,aL,gR,U.ps,w1,Pz];refine⟨aK,?_⟩;have af:=OV (f:=oi P Z) hx;rw[show oi P Z x=Z by simp[oi,R]]at af;rw[show(bY (qe (oi P Z) h q)).set q [.int .i64 Z.kind,.int .i64 Z.gate,.int .i64 Z.ao,.int .i64 Z.id,.int .i64 Z.sign,.bool Z.over]=bY ((qe (oi P Z) h q).set q Z)from F4 _ _ _ rfl,af]
  |false=>
   rw[R]at Pz;cases H:qk x Z with
   |true=>rw[H]at E;simp only[go_sem,OZ,v2,v3,v4,v5,Je,u,m,v,b0,N,b2,bf,O,T,bD,pK,bZ,A,Q,aL,gR,U.ps,w1,Pz,E];refine⟨aK,aK,?_⟩;have af:=OV (f:=oi P Z) hx;rw[show oi P Z x=P by simp[oi,R,H]]at af;rw[show(bY (qe (oi P Z) h q)).set q [.int .i64 P.kind,.int .i64 P.gate,.int .i64 P.ao,.int .i64 P.id,.int .i64 P.sign,.bool P.over]=bY ((qe (oi P Z) h q).set q P)from F4 _ _ _ rfl,af]
   |false=>rw[H]at E;simp only[go_sem,OZ,v2,v3,v4,v5,Je,u,m,v,b0,N,b2,bf,O,T,bD,pK,bZ,A,Q,aL,gR,U.ps,w1,Pz,E];refine⟨aK,aK,?_⟩;exact congrArg (λz=>(1,some (gr.arr fO 6 (bY z)))) (aem hx (by simp[oi,R,H]))
 have:q=I h:=J;subst this;rw[show qe (oi P Z) h (I h)=h.map (oi P Z) by simp[qe]]at A;have n0:I (h.map (oi P Z))=I h:=ct _;generalize h.map (oi P Z)=L0 at*;have x1:=(za L0 i (nx h i)).trans n0;have x3:=(za (gK L0 i (nx h i)) j (nx h j)).trans x1;have y0:=lL h;have y1:=(za (eR h) i (nx h i)).trans y0;have y3:=(za (gK (eR h) i (nx h i)) j (nx h j)).trans y1;simp only[go_sem,OZ,aou,v3,v5,Je,v,N,bf,O,T,ek,vr,yf,jZ N8,Pq];refine QP aa aa aa A bD n0 y0 hi (RJ H) (Nz H hi) λB1 Gp ag y=>?_
 have p0:=y 576000000 aa aa aa;have p1:=y 576000064 aa aa aa;have p2:=y 576000128 aa aa aa;have p3:=y 576064128 aa aa aa;have p4:=y 576064067 aa aa aa;have p5:=y 576128128 aa aa aa;simp only[b0,N,b2,O,bf,T]at p0 p1 p2 p3 p4 p5;simp only[go_sem,v3,v5,Je,p1,p3,p4,p5,vr,yf,jZ Hg,Pq];refine⟨aK,?_⟩;refine QP aa aa aa Gp ag x1 y1 hj (RJ H) (Nz H hj) λB3 ak an jE=>?_
 have r0:=jE 576000000 aa aa aa;have r1:=jE 576000064 aa aa aa;have r2:=jE 576000128 aa aa aa;have r3:=jE 576128128 aa aa aa;simp only[p0,p1,p2,p5]at r0 r1 r2 r3;generalize gK (gK L0 i (nx h i)) j (nx h j)=L at*;generalize gK (gK (eR h) i (nx h i)) j (nx h j)=D at*;have ab:=ym (F:Int) h L D J (y3.trans x3.symm);have cN:I (kj L D)=I L:=Cv _ _;have jP:kj L D≠[]:=λe=>by rw[e]at cN;simp only[fB]at cN;omega
 simp only[pM];rw[oa (Ah jP)]at ab |-;have tk:List.take (I h) (bY L)=bY L:=by rw[<-x3];exact lz L
 have tb:List.take (I h) (dx D)=dx D:=by rw[<-y3];exact ri D
 simp only[go_sem,v2,v4,Je,ak,an,r0,r2,r3,uL,Hk,tk,tb,x3,y3,wX,ya,gN ab l4 (.inr (B6 _ _))];refine⟨aK,?_⟩;simp[iD,mM,kZ,kD,iN,bG,lg,oE,nq,lz]
section
variable {F:Nat} {h:ae}
def MX(e:Nat):(ff h e).2.2=(kQ h e).2.2/\((kQ h e).2.2->(kQ h e).1=aV h (ff h e).2.1/\(kQ h e).2.1=aV h (ff h e).1/\(aV h (ff h e).1).kind=1/\(aV h (ff h e).2.1).kind=2/\
  (((ff h e).1=e/\(ff h e).2.1=nx h e)\/((ff h e).1=nx h e/\(ff h e).2.1=e))):=by
 unfold ff kQ;rw[oL,oL]
 grind
def V6{x:Nat}(H:x<2*I h):oc h x=if x%2=0 then nx h (x/2)else x/2:=by unfold oc;rw[aE J]
def ah6(g:aU F h){w:aD}(L:w∈eX (aT h) (aX h))(Y:(jc F h w).places.length=1){x:Nat}(hx:x∈w)(N:x<2*I h)(hu:oc h x=u){l:U}(hl:h[u]?=some l)(pl:l.ay):
  ∃y v m,y∈w/\y<2*I h/\oc h (eH y)=v/\h[v]?=some m/\m.ay/\l.gate=m.gate/\(l.ao=m.ao+1\/m.ao=l.ao+1):=by
 have ok:=g.ok;have m:=nc ok;have O:=IN N;have hv:(if x%2=0 then(x/2+1)%I h else x/2)=u:=by rw[<-hu,V6 N]
 rw[hv]at O;have H:=uB m L hx;rw[O]at H;obtain⟨k,hk,X⟩:=aDa ok hl pl (x%2==0);have xx:I (l_ F h k)<=1:=by
  rw[<-Y];unfold jc;rcases X with⟨e,_⟩|⟨e,_⟩
  .have:=(amd (F:=F) (h:=h) w (cX.new h (w.headD 0))).2 _ (e▸H) J;rwa[show(2*I h+2*k-2*I h)/2=k by omega]at this
  have:=(amd (F:=F) (h:=h) w (cX.new h (w.headD 0))).2 _ (e▸H) J;rwa[show(2*I h+2*k+1-2*I h)/2=k by omega]at this
 obtain⟨Q,n,E⟩:=z_ hk;obtain⟨T,f,M⟩:=z_ (dB (k+1) (show 0<I (aA h) by omega));have Z:k+1<I (aA h)/\uP h ((aA h).getD ((k+1)%I (aA h)) 0)<=uP h ((aA h).getD k 0):=by grind [l_,zl]
 obtain⟨D,j⟩:=Z;rw[fC D]at f j;rw[uU n,uU f]at j;have kI:T.gate<=Q.gate:=by have:=(g.HS n E).g0;have:=(g.HS f M).g0;omega
 obtain⟨r1,R⟩:=ayY ok D rfl rfl n f E M kI;rcases X with⟨e,B⟩|⟨e,B⟩
 .rw[e]at H;have z:=uB m L H;rw[CE,fC D]at z;rw[B,hl]at n;cases n;have A:=(bN.1 f).1;exact⟨_,_,T,z,C4 A,by rw[tX,DW A],f,M,r1,.inr R⟩
 rw[e]at H;have z:=uB m L H;rw[D3]at z;rw[fC D]at B;rw[B,hl]at f;cases f;have A:=(bN.1 n).1;exact⟨_,_,Q,z,C4 A,by rw[tX,DW A],n,E,r1.symm,.inl R⟩
def aGy(g:aU F h){w:aD}(B:w∈eX (aT h) (aX h)){x:Nat}(E:x∈w)(j:x<2*I h)(D:oc h x=u){l:U}(hl:h[u]?=some l)(n:l.au):
  ∃y v m,y∈w/\y<2*I h/\oc h (eH y)=v/\h[v]?=some m/\m.au:=by
 have ok:=g.ok;have f:=IN j;have L:(if x%2=0 then(x/2+1)%I h else x/2)=u:=by rw[<-D,V6 j]
 rw[L]at f;have z:=uB (nc ok) B E;rw[f,yZ hl n]at z;obtain⟨_,k,H,M,_⟩:=qy ok.cr hl n;have A:=(bN.1 H).1;exact⟨_,_,k,z,C4 A,by rw[tX,DW A],H,M⟩
def asZ{D:aD}(h:I D=2){x:Nat}(f:x∈D)(H:y∈D)(A:x≠y)(j:z∈D):z=x\/z=y:=by
 match D,h with
 |[p,q],_=>grind
def aiT{l:U}(h:l.kind=1)(H:l.au):False:=by rw[aBx H]at h;cases h
def auD(g:aU F h){a b:Nat}(ha:a<I h)(hb:b<I h)(dE:a≠b)(ma:(kQ h a).2.2)(mb:(kQ h b).2.2)(ho:mZ F h 1 [a,b]):zk (kQ h a).2.1 (kQ h b).2.1:=by
 obtain⟨_,p1,p2,M,A⟩:=And.intro (MX (h:=h) a).1 ((MX a).2 ma);obtain⟨_,q1,q2,N,j⟩:=And.intro (MX (h:=h) b).1 ((MX b).2 mb);rw[p2,q2];unfold mZ at ho;obtain⟨f,hf,ad⟩:=Bk.1 ho;obtain⟨w,hw,rfl⟩:=c_.1 hf;unfold Aq at ad;simp only[cF,cW,fF,fB,vO,Br,Fg,gH]at ad;obtain⟨Dl,mf,xa,xb⟩:=ad;have m:∀x,x∈(jc F h w).bc↔x∈w/\x<2*I h:=λx=>by rw[zd,rv,fL]
 have ex:∀e,(decide (2*e∈(jc F h w).bc)==decide (2*e+1∈(jc F h w).bc))=false->∃d,d∈(jc F h w).bc/\d/2=e:=ii
 obtain⟨x,hx,xe⟩:=ex a xa;obtain⟨y,hy,ye⟩:=ex b xb;obtain⟨xw,xl⟩:=(m x).1 hx;obtain⟨yw,yl⟩:=(m y).1 hy;have only:=λz h1 T=>asZ Dl hx hy (λe=>dE (by rw[<-xe,<-ye,e])) ((m z).2 ⟨h1,T⟩)
 have E:∀ {d e:Nat},d/2=e->d<2*I h->(((ff h e).1=e/\(ff h e).2.1=nx h e)\/((ff h e).1=nx h e/\(ff h e).2.1=e))->
   (oc h d=(ff h e).1/\oc h (eH d)=(ff h e).2.1)\/(oc h d=(ff h e).2.1/\oc h (eH d)=(ff h e).1):=by
  intro d e zI yx hc;rw[V6 yx,V6 (vi yx),aBT,zI];rcases rN d with c|c
  case' _=>
   have c':eH d%2=1:=by unfold eH;rw[aI c];omega
   rw[aI c,aE J]
  rotate_left
  case' _=>rw[aE J,aI (by unfold eH;rw[aE J];omega)]
  all_goals
   rcases hc with⟨D,u⟩|⟨D,u⟩<;>rw[D,u]<;>simp
 have n:∀ {e:Nat},e<I h->(((ff h e).1=e/\(ff h e).2.1=nx h e)\/((ff h e).1=nx h e/\(ff h e).2.1=e))->(ff h e).1<I h/\(ff h e).2.1<I h:=λhe hc=>by
  have:=g.Cs ‹Nat›;rcases hc with⟨D,u⟩|⟨D,u⟩<;>rw[D,u]
  .exact⟨he,g.Cs _⟩
  exact⟨g.Cs _,he⟩
 obtain⟨DL,Hi⟩:=n ha A.2;obtain⟨Sw,ab⟩:=n hb j.2;have hP:=iQ DL;have hV:=iQ Hi;have hQ:=iQ Sw;have hW:=iQ ab;have Ey:=E ye yl j.2;have fin:∀ {P Q:U},P.kind=1->Q.kind=1->P.gate=Q.gate->(P.ao=Q.ao+1\/Q.ao=P.ao+1)->zk P Q:=λh1 T h3 h4=>by unfold zk;simp[h1,T,h3,h4]
 rcases(E xe xl A.2)with⟨x1,X⟩|⟨x1,X⟩
 .obtain⟨z,v,mm,B,L,Z,H,O,r1,r2⟩:=ah6 g hw mf xw xl x1 hP (FJ M);rcases only z B L with rfl|rfl
  .rw[X]at Z;subst Z;rw[hV]at H;cases H;rw[YU O]at A;exact absurd A.1 aa
  rcases Ey with⟨R,Y⟩|⟨R,Y⟩
  .rw[Y]at Z;subst Z;rw[hW]at H;cases H;rw[YU O]at j;exact absurd j.1 aa
  rw[Y]at Z;subst Z;rw[hQ]at H;cases H;exact fin M N r1 r2
 rcases Ey with⟨R,Y⟩|⟨R,Y⟩
 .obtain⟨z,v,mm,B,L,Z,H,O,r1,r2⟩:=ah6 g hw mf yw yl R hQ (FJ N);rcases only z B L with rfl|rfl
  .rw[X]at Z;subst Z;rw[hP]at H;cases H;exact fin M N r1.symm r2.symm
  rw[Y]at Z;subst Z;rw[hW]at H;cases H;rw[YU O]at j;exact absurd j.1 aa
 obtain⟨z,v,mm,B,L,Z,H,cm⟩:=aGy g hw xw xl x1 hV (Cy A.1);rcases only z B L with rfl|rfl
 .rw[X]at Z;subst Z;rw[hP]at H;cases H;exact absurd cm λad=>aiT M ad
 rw[Y]at Z;subst Z;rw[hQ]at H;cases H;exact absurd cm λad=>aiT N ad
theorem Xz(x y:U):qk x y↔x=y:=by
 constructor
 .intro h;unfold qk at h;simp at h;obtain _:=h;cases x;cases y
  grind
 rintro rfl;exact Er x
def aqa(g:aU F h){i:Nat}{l:U}(hl:h[i]?=some l)(f:l.kind=1):l=⟨1,l.gate,l.ao,0,0,false⟩:=by
 have H:=g.bad l (a8 hl);rw[nu (FJ f)]at H;obtain _:=H;cases l
 grind
def awQ(g:aU F h){i:Nat}(x:i<I h)(z:j<I h)(n:(aV h i).kind=1)(m:(aV h j).kind=1)(D:(aV h i).gate=(aV h j).gate)(B:(aV h i).ao≠(aV h j).ao):
  (h.set i (aV h j)).set j (aV h i)=h.map (oi (aV h i) (aV h j)):=by
 have A:=iQ x;have v:=iQ z;apply qO;intro k;rw[fX,qt,qt,oF];have Y:oi (aV h i) (aV h j) (aV h i)=aV h j:=by unfold oi;rw[aI (Er _)]
 have L:oi (aV h i) (aV h j) (aV h j)=aV h i:=by grind [oi,Xz]
 by_cases E:j=k
 .grind
 rw[aE E];by_cases u:i=k
 .grind
 rw[aE u];by_cases y:k<I h
 .have f:=iQ y;rw[f,vB];congr 1;unfold oi;rw[aE,aE]
  .intro H;have H:=(Xz _ _).1 H;exact E (g.one v f (FJ m) (by rw[H];exact FJ m) aIB aIB)
  intro H;have H:=(Xz _ _).1 H;exact u (g.one A f (FJ n) (by rw[H];exact FJ n) aIB aIB)
 grind
def aqq{l:bK}{i:Nat}{p:aQ}{r:Int}(h:l[i]?=some p):eI l i r=l.set i {p with l:={p.l with ao:=r}}:=by
 unfold eI
 grind
def aqb(g:aU F h){a b:Nat}(j:a<I h)(v:b<I h)(dE:a≠b):
  (sE F h a b).isSome=IC F h a b/\
  ∀L,sE F h a b=some L->gq L (gK (gK (h.map (oi (kQ h a).2.1 (kQ h b).2.1)) a (nx h a)) b (nx h b)) (gK (gK (eR h) a (nx h a)) b (nx h b)):=by
 obtain⟨ea,X⟩:=MX a;obtain⟨eb,pb⟩:=MX b;obtain⟨D,Hi⟩:=UR j;obtain⟨z,A⟩:=UR v;have Dk:((ff h a).2.2&&((ff h b).2.2&&(!((ff h a).2.1==(ff h b).2.1)&&(((bR h (ff h a).2.1).l.id==(bR h (ff h b).2.1).l.id)&&pN F h 1 [a,b] a))))=IC F h a b:=by
  unfold IC;rw[ea,eb,Ft (F:=F) (pl:=1) (E:=[a,b]) rfl j,oL,oL];cases m:(kQ h a).2.2 with
  |false=>rfl
  |true=>
  cases H:(kQ h b).2.2 with
  |false=>rfl
  |true=>
  obtain⟨p1,M,u,p4,p5⟩:=X m;obtain⟨q1,Y,x,q4,q5⟩:=pb H;cases h3:mZ F h 1 [a,b]with
  |false=>simp
  |true=>
  rw[auD g j v dE m H h3,p1,q1];simp only[BE,Fg];cases h4:((aV h (ff h a).2.1).id==(aV h (ff h b).2.1).id)with
  |false=>simp
  |true=>
  simp only[Fg,BE];congr 1;rw[sv,cW,cW];constructor
  .intro e;rw[e]
  intro e;apply Classical.byContradiction;intro aN;exact(g.ids.2 _ _ _ _ (iQ Hi) (iQ A) (Cy p4) (Cy q4) (eq_of_beq h4) aN).1 e
 unfold sE;rw[Dk];refine⟨by split<;>simp_all,λL y=>?_⟩;split at y
 .rename_i B;cases y;unfold IC at B;simp only[cF]at B;obtain⟨m,H,_,_,n,_⟩:=B;obtain⟨p1,M,u,p4,p5⟩:=X m;obtain⟨q1,Y,x,q4,q5⟩:=pb H;rw[M,Y]at n |-;unfold zk at n;simp only[cF,nK,cW]at n;obtain⟨_,_,E,hr⟩:=n;have O:(aV h (ff h a).1).ao≠(aV h (ff h b).1).ao:=J;have gp:=aqa g (iQ D) u;have N:=aqa g (iQ z) x;generalize iY:(ff h a).1=f at*;generalize GH:(ff h b).1=Q at*;have T:=WQ D;have Z:((aJ h).set f {bR h f with l:={(bR h f).l with ao:=(bR h Q).l.ao}})[Q]?=some (bR h Q):=by rw[Pd (λe=>O aIC)];exact WQ z
  have R:=((gq.base h).set T (q:={bR h f with l:={(bR h f).l with ao:=(bR h Q).l.ao}}) rfl rfl).set Z (q:={bR h Q with l:={(bR h Q).l with ao:=(bR h f).l.ao}}) rfl rfl;have eL:(h.set f ({(bR h f).l with ao:=(bR h Q).l.ao}:U)).set Q ({(bR h Q).l with ao:=(bR h f).l.ao}:U)=h.map (oi (aV h f) (aV h Q)):=by
   rw[<-awQ g D z u x E O,oL,oL];have x1:({aV h f with ao:=(aV h Q).ao}:U)=aV h Q:=by rw[gp,N,E]
   have x2:({aV h Q with ao:=(aV h f).ao}:U)=aV h f:=by rw[gp,N,E]
   rw[x1,x2]
  have eS:eI (eI (aJ h) f (bR h Q).l.ao) Q (bR h f).l.ao=((aJ h).set f {bR h f with l:={(bR h f).l with ao:=(bR h Q).l.ao}}).set Q {bR h Q with l:={(bR h Q).l with ao:=(bR h f).l.ao}}:=by rw[aqq T,aqq Z]
  simp only at R;rw[eL]at R;rw[eS];unfold dY;simp only[Ac,ND];have PK:I (((aJ h).set f {bR h f with l:={(bR h f).l with ao:=(bR h Q).l.ao}}).set Q {bR h Q with l:={(bR h Q).l with ao:=(bR h f).l.ao}})=I h:=by simp[dI]
  rw[Ss g PK j,Ss g (by rw[za,PK]) v];exact(R.sw _ _).sw _ _
 cases y
end
def adi(F:Int):aC S 19 [c7 F []] (.agg [.p (.int .i64 F),.p (.sl []),.p (.int .i64 0),.p .nils]):=by refine ba ajn ?_;have h:¬((0:Int)<0):=J;simp only[go_sem,aby,Int.ofNat_zero,h];all_goals(first|done|exact aK|exact⟨aK,rfl⟩|rfl)
def ayP(F:Int):aC S 23 [c7 F []] (.agg [.p .nils,.p .nils]):=B4 F [] aG
def aoP{a b c:Int}{l o:Bool}{sg:Int}:aC S 57 [ic F [],c6 2 a b c l o sg] (cK true):=by refine ba Co ?_;have h:(((0:Nat):Int)==0):=rfl;simp only[go_sem,Ax,h];all_goals(first|done|exact aK|exact⟨aK,rfl⟩|rfl)
def anO{k a b c:Int}{l o:Bool}{sg v:Int}(h:aC S 20 [ic F [],c6 k a b c l o sg] (fH v)):aC S 7 [c7 F [],c6 k a b c l o sg] (fH v):=by have f:=adi F;have L:S.lone 448064064=false:=ah;have h:aC S 20 [.agg [.p (.int .i64 F),.p (.sl []),.p (.int .i64 0),.p (.sl [])],c6 k a b c l o sg] (fH v):=h;have f:aC S 19 [.agg [.p (.int .i64 F),.p (.sl [])]] (.agg [.p (.int .i64 F),.p (.sl []),.p (.int .i64 0),.p .nils]):=f;refine ba Bo ?_;simp only[go_sem,adn,tQ,xV f L (.inl rfl),MY,jZ h];all_goals(first|done|exact aK|exact⟨aK,rfl⟩|rfl)
def aio(L:ae)(k:Nat)(h:k<=I L)(hl:I L<=1000000):aC S 131 [.one (.p (fz L)),ai k] (.one (bU fO 6 (bY (L.drop k++L.take k)))):=by
 have Q:=w7 L;have z:List.take (I L-k) (List.drop k (bY L))=bY (L.drop k):=WF
 have f:List.take k (bY L)=bY (L.take k):=aIx
 rw[WJ];refine ba aul ?_;simp only[go_sem,ao6,h,Q,z];refine oT (id:=8384064192) (bytes:=48) a_.nil (B:=bY (L.drop k)) (rd:=[]) rfl (.inr (w7 _)) fd λA u r w g1 v H=>?_;rw[gM]at g1;simp only[go_sem,h,Q,f];refine oT (bytes:=48) g1 (B:=bY (L.take k)) (rd:=[]) rfl (.inr (w7 _)) fd λn y R x m B j=>?_;simp only[go_sem];refine⟨?_,qN m⟩;rcases H with⟨rfl,rfl⟩|⟨rfl,rfl⟩|⟨rfl,rfl⟩<;>rcases j with⟨rfl,rfl⟩|⟨rfl,rfl⟩|⟨rfl,rfl⟩<;>kernel_rfl

def Ho{S:Sys}{fn:aS}{A:dG}{P:RV->Prop}(hp:S.prim f A=none)(hf:S.fns f=some fn)(hl:I A<=fn.ntmps)
  (h:W S .all fn.body (rU .all fn.results λv blk=>∃r,P r/\iD blk v=some r) (tW A) CL):∃r,P r/\aC S f A r:=by
 obtain⟨n,v,u,j,r,m,H⟩:=ZK h;refine⟨r,m,n+1,?_⟩;rw[lk];simp only[hp,hf,hl,if_true];unfold G6;simp only[j,H]
def ajB{l:ae}(A:l≠[])(hl:I l<=1000000):aC S 44 [.one (.p (fz l))] (.one (bU fO 6 (bY l))):=by
 have af:((bY l).all λe=>I e==6):=w7 l;have h:(0+I (bY l))*48<=pE:=by unfold pE;rw[ct];omega
 show aC S _ [.one (.p (.sl (bY l)))] _;obtain⟨E,m,hq⟩:∃E m,bY l=E::m:=by cases l with
  |nil=>exact absurd rfl A
  |cons a t=>exact⟨_,_,rfl⟩
 rw[hq]at af h |-;refine ba aCZ ?_;have A:E::m≠[]:=aG;have f:bU fO 6 (E::m)=.own fO 6 (E::m):=aE A;rw[f];unfold pE at h;simp only[lh,fF]at h;simp only[vO]at af;simp only[go_sem,ap3,jl,gk];simp only[af,h,not_true_eq_false,if_true,if_false];simp only[go_sem];exact Ig Ao rfl
abbrev WS(M:jn):zf:=M.map λe=>(PV.int .i64 e.1,[PV.int .i64 e.2])
def Ql:jn->Int->Nat->Option (Nat×Int)
 |[],_,_=>none
 |(a,v)::r,x,i=>if x==a then some (i,v)else Ql r x (i+1)
def afb(M:jn)(x:Int):∀i,zW (.int .i64 x) (WS M) i=some ((Ql M x i).map λp=>(p.1,[PV.int .i64 p.2])):=by
 induction M with
 |nil=>intro i;rfl
 |cons e M f=>
  intro i;obtain⟨a,v⟩:=e;unfold zW;have af:Fc (.int .i64 x) (.int .i64 a)=some (x==a):=by simp[Fc]
  grind [Ql]
def aja(M:jn)(x v:Int):WS M++[(PV.int .i64 x,[PV.int .i64 v])]=WS (M++[(x,v)]):=aG
def ahu(l:ae)(k:Nat)(p:U):(bY l).set k p.ps=bY (l.set k p):=by simp[vt]
def an2{e:dR}(h:I e=6):∃x X j f x4 m,e=[x,X,j,f,x4,m]:=by
 match e,h with
 |[x,X,j,f,x4,m],_=>exact⟨_,_,_,_,_,_,rfl⟩
def az2{al:cD}{blk:aH}{id:Nat}{m:dy}{c:cG}(o:m=[]\/al.ok id)(hl:I m<=1000000)(M:∀e∈m,I e=6/\ ∀v∈e,v.norm=v)(h:a_ id N 6 m (.one c) blk):
  ∃v A,ja S 174 [.one c] al blk v A/\Ki id N 6 m c blk v A:=by
 refine mL af9 (jg rfl) ?_;rcases h with⟨rfl,H⟩|⟨F,g,H,hC⟩
 .cases H;have w0:IntKind.i64.wrap (((0:Nat):Int)-1)= -1:=aa;have hz:¬((0:Int)< -1):=aa;simp only[go_sem,W6,w0];refine cZ (λk B A=>k=0/\B 2=ai 0/\B 3=ai (-1)/\A=blk) 0 0 (cP _) ?_ ?_
  .simp only[go_sem]
  rintro k B A _ ⟨rfl,H,u,rfl⟩
  simp only[go_sem,Pk,H,u,hz];exact⟨rfl,.inl ⟨rfl,rfl⟩,λ_ _=>rfl⟩
 cases H;have o:=o.resolve_left F;simp only[go_sem,W6,sq (a:=I m) J];refine cZ (λk B A=>B 0=.one (.hsl id g 6 0 (I m))/\B 2=ai k/\B 3=ai ((I m:Int)-1-(k:Int))/\ ∃fs,A id=(g,some (.arr N 6 fs))/\wN m fs k/\dk (· =id) blk A) 0 (I m) (bj _) ?_ ?_
 .simp only[go_sem];refine⟨rfl,aG,m,hC,wN.start m,dk.refl _ _⟩
 rintro k B A hk ⟨h0,H,u,fs,y,z,L⟩
 by_cases O:k<I m-1-k
 .have e1:((I m:Int)-1-(k:Int))=((I m-1-k:Nat):Int):=J;rw[e1]at u;have x:((k:Int)<((I m-1-k:Nat):Int)):=J;have w1:=cg (n:=k) J;have w2:IntKind.i64.wrap (((I m-1-k:Nat):Int)-1)=((I m:Int)-1-((k+1:Nat):Int)):=by
   rw[sq J];omega
  obtain⟨a,E⟩:=aP (show k<I m by omega);obtain⟨b,D⟩:=aP (show I m-1-k<I m by omega);obtain⟨fa,fb,T⟩:=z.step O E D;obtain⟨la,j⟩:=M a (a8 E);obtain⟨lb,f⟩:=M b (a8 D);obtain⟨x0,x1,x2,X,x4,x5,rfl⟩:=an2 la;obtain⟨y0,y1,y2,Y,y4,y5,rfl⟩:=an2 lb;have Kr:=j x0 aG;have QG:=j x1 aG;have R:=j x2 aG;have ZI:=j X aG;have ZJ:=j x4 aG;have Q:=j x5 aG;have Ks:=f y0 aG;have QH:=f y1 aG;have ZL:=f y2 aG;have ZM:=f Y aG;have ZN:=f y4 aG;have Z:=f y5 aG;have qT:=z.len;have ET:¬(k=I m-1-k):=J;have l1:k<I fs:=J;have l2:I m-1-k<I fs:=J;have l3:k<I m:=J;have l4:I m-1-k<I m:=J
  simp only[go_sem,Pk,h0,H,u,y,x,fa,fb,w1,w2,o,l1,l3,ET,by omega,Kr,QG,R,ZI,ZJ,Q,Ks,QH,ZL,ZM,ZN,Z,qt];refine⟨aK,_,rfl,T,?_⟩;exact(L.dz rfl _).dz rfl _
 have x:¬((k:Int)<(I m:Int)-1-(k:Int)):=J;simp only[go_sem,Pk,H,u,x];refine⟨rfl,?_,L⟩;rw[z.done O]at y;exact .inr ⟨by simpa using F,g,by rw[r_],y⟩
def as6(l:ae):∀e∈bY l,I e=6/\ ∀v∈e,v.norm=v:=λe H=>by obtain⟨x,_,rfl⟩:=c_.1 H;refine⟨rfl,λv h=>?_⟩;simp[U.ps,dh,e_,or_false]at h;rcases h with rfl|rfl|rfl|rfl|rfl|rfl<;>rfl
def atl(l:ae):(bY l).reverse=bY l.reverse:=aG
end
end Go.Abs
