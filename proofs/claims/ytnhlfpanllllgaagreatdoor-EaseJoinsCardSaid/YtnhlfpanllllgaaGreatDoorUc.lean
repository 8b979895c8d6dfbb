/- A part. -/
import Derived.Test.YtnhlfpanllllgaaGreatDoorUa
import Derived.Test.YtnhlfpanllllgaaGreatDoorWw
set_option linter.all false
open List renaming length->I
set_option maxHeartbeats 16000000
namespace Go.Abs
variable{g m h:Int}{L:cY}{x j:Nat}
def kY(c e a:Nat):Nat:=if a=c then e else a
def vc(c e:Nat):kY c e c=e:=aH rfl
def uG(c e:Nat):kY c e e=e:=by unfold kY;split<;>rfl
def Ue{c e a:Nat}(h:a≠c):kY c e a=a:=aw h
def u4(g m h:Int)(l:aa):aa:=if(l.kind==1)&&((l.gate==g)&&decide (m<l.ay))then{l with ay:=l.ay+h}else l
def awA(g m h:Int)(p:aU):sn g m h p=⟨u4 g m h p.l,p.d⟩:=by unfold sn u4;split<;>rfl
def F4(g m h:Int):Bo (u4 g m h):=by refine⟨λl=>?_,λl=>?_,λl=>?_⟩<;>unfold u4<;>split<;>rfl
def Lt(g m h:Int)(l:aa):(u4 g m h l).gate=l.gate:=by unfold u4;split<;>rfl
def Vf(g m h:Int)(l:aa):(u4 g m h l).id=l.id:=by unfold u4;split<;>rfl
def avi{l:aa}(H:l.aF):u4 g m h l=l:=by unfold u4;have:=pk H;unfold aa.aM at this;rw[this];simp
def aA0(g m h:Int)(k:Nat)(l:aa):pP k (u4 g m h l)=pP k l:=by unfold pP;rw[(F4 g m h).aM,Lt]
def ayJ{l:aa}(H:l.aM):(u4 g m h l).ay=if l.gate=g/\m<l.ay then l.ay+h else l.ay:=by
 unfold u4;unfold aa.aM at H;rw[H];by_cases c:l.gate=g/\m<l.ay
 .rw[aH c,aH (by simp[c.1,c.2])]
 rw[aw c,aw (by simpa using c)]
def ayb{F:Nat}{l:aa}(H:eO F l=false):eO F (u4 g m h l)=false:=by
 rcases yO H with hp|f
 .have j:(u4 g m h l).aM:=by rw[(F4 g m h).aM];exact hp
  rw[sU hp]at H;rw[sU j,Lt,Vf,(F4 g m h).sign,(F4 g m h).over];exact H
 rw[avi f];exact H
def adB{l:cY}{drop:Nat->aU->Bool}:∀d j,j+d<=I l->(∀i p,j<=i->i<j+d->drop i p=false)->ux l drop (j+d)=ux l drop j++(l.drop j).take d:=by
 intro d
 induction d with
 |zero=>intro j _ _;simp
 |succ d g=>intro j m h;obtain⟨p,hp⟩:=aR (L:=l) (k:=j+d) J;rw[show j+(d+1)=(j+d)+1 by omega,Kp hp (h _ _ J J),g j J λi p H u=>h i p H J,iJ,yt,hp,s5];rfl
def akn{l:cY}{a:Nat}(N:a<I l)(m:2<=I l){p q:aU}{r:cY}(e:l.drop a++l.take a=p::q::r):∃u v,(nb l λk _=>decide (k=a)||decide (k=(a+1)%I l))=u++v/\r=v++u:=by
 have j:∀i (p:aU),i≠a->i≠(a+1)%I l->(λ(k:Nat) (_:aU)=>decide (k=a)||decide (k=(a+1)%I l)) i p=false:=λi p H m=>by simp[H,m]
 have D:∀i (p:aU),i=a\/i=(a+1)%I l->(λ(k:Nat) (_:aU)=>decide (k=a)||decide (k=(a+1)%I l)) i p=true:=λi p h=>by simpa using h
 obtain⟨x,z⟩:=aR N;by_cases c:a+1<I l
 .obtain⟨y,g⟩:=aR c;have F:(a+1)%I l=a+1:=jv c;rw[F]at j D |-;have L:=adB (l:=l) (drop:=λk _=>decide (k=a)||decide (k=a+1)) a 0 J λi p _ h=>j i p J J;have E:=Bp (drop:=λk _=>decide (k=a)||decide (k=a+1)) z (D a x (.inl rfl));have A:=Bp (drop:=λk _=>decide (k=a)||decide (k=a+1)) g (D (a+1) y (.inr rfl));have B:=adB (l:=l) (drop:=λk _=>decide (k=a)||decide (k=a+1)) (I l-(a+2)) (a+1+1) J λi p h _=>j i p J J;refine⟨l.take a,l.drop (a+2),?_,?_⟩
  .unfold nb;rw[show a+1+1+(I l-(a+2))=I l by omega,A,E]at B;rw[kA]at L;rw[B,L];have:ux l (λk _=>decide (k=a)||decide (k=a+1)) 0=[]:=rfl;rw[this,Ih,fN,e_ (l:=l.drop (a+1+1)) (by rw[l8];omega)]
  have e1:l.drop a=x::y::l.drop (a+2):=by obtain⟨H,e1⟩:=cD.1 z;obtain⟨m,e2⟩:=cD.1 g;rw[<-sQ H,e1,<-sQ m,e2]
  rw[e1]at e;simp only[nA,vN]at e;exact e.2.2.symm
 have M:a+1=I l:=J;have F:(a+1)%I l=0:=by rw[M,Am]
 rw[F]at j D |-;obtain⟨y,g⟩:=aR (L:=l) (k:=0) J;have E:=Bp (drop:=λk _=>decide (k=a)||decide (k=0)) g (D 0 y (.inr rfl));have A:=adB (l:=l) (drop:=λk _=>decide (k=a)||decide (k=0)) (a-1) 1 J λi p h O=>j i p J J;have B:=Bp (drop:=λk _=>decide (k=a)||decide (k=0)) z (D a x (.inl rfl));refine⟨[],(l.drop 1).take (a-1),?_,?_⟩
 .unfold nb;rw[<-M,B];rw[show 1+(a-1)=a by omega]at A;rw[A];rw[show(1:Nat)=0+1 from rfl,E];rfl
 have e1:l.drop a=[x]:=by obtain⟨H,e1⟩:=cD.1 z;rw[<-sQ H,e1,List.drop_eq_nil_of_le J]
 have e2:l.take a=y::(l.drop 1).take (a-1):=by
  obtain⟨H,e1⟩:=cD.1 g;have:l=y::l.drop 1:=by have:=sQ H;rw[e1,Ih]at this;exact this.symm
  conv=>lhs;rw[this]
  rw[show a=(a-1)+1 by omega,Es];rfl
 rw[e1,e2]at e;simp only[nA,fN,vN]at e;rw[lg];exact e.2.2.symm
section
variable {F:Nat} {f:ae}
def gj.ext'{s t:gj}(h:s.l=t.l)(f:s.r=t.r)(H:s.b=t.b):s=t:=by cases s;cases t;simp_all
def as7(g:cK F f){a:Nat}(ha:a<I f)(O:yz f a=some L):L=[]\/oD F L:=by
 obtain⟨x,y,r,s,e,hx,hy,c,hp,L9,_,_,qQ⟩:=aaw g ha;have q:=c.q;unfold yz at O;have e1:(cq f).getD a ⟨lD,false⟩=x.p:=by rw[dS,hx];rfl
 have e2:(cq f).getD ((a+1)%I f) ⟨lD,false⟩=y.p:=by rw[dS,hy];rfl
 simp only[e1,e2]at O;split at O
 case isFalse=>cases O
 rename_i hc;simp only[dj,dI,mP,aem,decide_eq_false_iff_not]at hc;obtain⟨ji,l9,pQ,lk,ap⟩:=hc;cases O;have px:x.k.aM:=by show(x.k.kind==1)=true;simp[ji]
 have py:y.k.aM:=by show(y.k.kind==1)=true;simp[l9]
 obtain⟨jU,gV,wL⟩:=hp;have tR:=(q.ok x aQ).pb px;have oy:=(q.ok y aQ).pb py;have ar:=q.pl x aQ px;have aE:=q.pl y aQ py;have gx:=((sU px).1 (q.ok x aQ).bad).1.1.1;have rx:=q.rr x aQ px;have ry:=q.rr y aQ py;have A6:y.k.gate=x.k.gate:=pQ.symm;rw[A6]at ry
 have Cg:∀z:iA,ai aa.aF (bG (x::y::z))=ai aa.aF (bG z):=λz=>by rw[n_,n_,(QW px).1,(QW py).1];omega
 have IX:∀z:iA,ai aa.aM (bG (x::y::z))=ai aa.aM (bG z)+2:=λz=>by rw[n_,n_,(QW px).2,(QW py).2];omega
 have aA:((x.k.gate.toNat:Nat):Int)=x.k.gate:=aeg gx.1;have AZ:∀(z:iA) k,di (bG (x::y::z)) k=di (bG z) k+if k=x.k.gate.toNat then 2 else 0:=λz k=>by
  show ai _ _=ai _ _+_;rw[n_,n_];have:∀w:cM,w.k.aM->w.k.gate=x.k.gate->(if pP k w.k=true then 1 else 0)=if k=x.k.gate.toNat then 1 else 0:=λw A aq=>by
   unfold pP;rw[A,aq];by_cases ck:k=x.k.gate.toNat
   .subst ck;simp[aA]
   have:(x.k.gate==(k:Int))=false:=by rw[ng];omega
   simp[this,ck]
  rw[this x px rfl,this y py A6];split<;>omega
 have h2:ai aa.aF (bG (x::y::r))=ai aa.aF f:=by rw[DU qQ,nV]
 have h3:ai aa.aM (bG (x::y::r))=ai aa.aM f:=by rw[DU qQ,nV]
 have aN:I f=I r+2:=by have:=qQ.length_eq;rw[Jr]at this;simpa using this.symm
 obtain⟨lo,hlo1,aaN,vB⟩:∃lo:Nat,1<=lo/\((x.k.ay=lo/\y.k.ay=lo+1)\/(x.k.ay=lo+1/\y.k.ay=lo))/\qT x.k.ay y.k.ay=lo+1:=by
  have L8:qT x.k.ay y.k.ay-yf x.k.ay y.k.ay=1:=lk;unfold qT yf at L8;unfold qT;by_cases c1:x.k.ay<y.k.ay
  .rw[aH c1]at L8 |-;rw[aw J]at L8;exact⟨x.k.ay.toNat,J,.inl ⟨J,J⟩,J⟩
  rw[aw c1]at L8 |-;by_cases c2:y.k.ay<x.k.ay
  .rw[aH c2]at L8;exact⟨y.k.ay.toNat,J,.inr ⟨J,J⟩,J⟩
  rw[aw c2]at L8;omega
 have an:lo+1<=di (bG (x::y::r)) x.k.gate.toNat:=by rcases aaN with⟨Z,h2⟩|⟨Z,h2⟩<;>omega
 obtain⟨M,B,m1,m2,m3,m4,m5⟩:∃M B:Nat,(y.o.mp (kY M B)=s.mp (kY M B))/\kY M B (kP f x.k.gate.toNat (lo+1))=kY M B (kP f x.k.gate.toNat (lo-1))/\kY M B (j0 f x.k.gate.toNat (lo+1))=kY M B (j0 f x.k.gate.toNat (lo-1))/\
   (∀t,(t=y.o.l\/t=y.o.r)->t=M\/t=s.l\/t=s.r)/\True:=by
  have ao:y.p.d= !x.p.d:=by have Z:=oy.2;rw[gV,tR.1]at Z;revert Z;cases x.p.d<;>cases y.p.d<;>simp
  have hb:y.o.b=s.b:=by rw[oy.1,ao,<-jU,tR.2]
  obtain⟨p1,p2,p3,p4⟩:=ar;obtain⟨D,T,E,Q⟩:=aE;rw[A6]at D T E Q;unfold cM.up at p1 p2 D T;unfold cM.lo at p3 p4 E Q;rw[ao]at D T E Q;rw[jU]at p1 p2 p3 p4;rw[gV]at D T E Q;have done:∀M B,(kY M B y.o.l=kY M B s.l)->(kY M B y.o.r=kY M B s.r)->y.o.mp (kY M B)=s.mp (kY M B):=λM B Z h2=>gj.ext' Z h2 hb;rcases aaN with⟨r1,r2⟩|⟨r1,r2⟩
  .have n1:x.k.ay.toNat=lo:=J;have n2:y.k.ay.toNat=lo+1:=J;rw[n1]at p1 p2 p3 p4;rw[n2]at D T E Q;rw[Tz]at D E;cases hd:x.p.d<;>rw[hd]at p1 p2 p3 p4 D T E Q<;>simp only[GD,zl,eX,if_false,if_true,jX]at p1 p2 p3 p4 D T E Q
   .have ee:y.o.r=s.r:=by rw[E,p4]
    refine⟨y.o.l,s.l,done _ _ ?_ (by rw[ee]),by rw[<-T,p1],by rw[<-Q,<-p3,vc,uG],?_,trivial⟩
    .rw[vc,uG]
    rintro t (rfl|rfl)
    .exact .inl rfl
    exact .inr (.inr ee)
   have ee:y.o.l=s.l:=by rw[D,p2]
   refine⟨y.o.r,s.r,done _ _ (by rw[ee]) ?_,by rw[<-T,<-p1,vc,uG],by rw[<-Q,p3],?_,trivial⟩
   .rw[vc,uG]
   rintro t (rfl|rfl)
   .exact .inr (.inl ee)
   exact .inl rfl
  have n1:x.k.ay.toNat=lo+1:=J;have n2:y.k.ay.toNat=lo:=J;rw[n1]at p1 p2 p3 p4;rw[n2]at D T E Q;rw[Tz]at p1 p3;cases hd:x.p.d<;>rw[hd]at p1 p2 p3 p4 D T E Q<;>simp only[GD,zl,eX,if_false,if_true,jX]at p1 p2 p3 p4 D T E Q
  .have ee:y.o.l=s.l:=by rw[Q,p3]
   refine⟨y.o.r,s.r,done _ _ (by rw[ee]) ?_,by rw[<-p2,D],by rw[<-p4,<-E,vc,uG],?_,trivial⟩
   .rw[vc,uG]
   rintro t (rfl|rfl)
   .exact .inr (.inl ee)
   exact .inl rfl
  have ee:y.o.r=s.r:=by rw[T,p1]
  refine⟨y.o.l,s.l,done _ _ ?_ (by rw[ee]),by rw[<-p2,<-D,vc,uG],by rw[<-p4,E],?_,trivial⟩
  .rw[vc,uG]
  rintro t (rfl|rfl)
  .exact .inl rfl
  exact .inr (.inr ee)
 clear m5;by_cases hr:∃w∈r,w.k.aM
 case neg=>
  left;have Ha:ai aa.aM (bG r)=0:=Hi.2 λl hl FT=>by obtain⟨w,A,rfl⟩:=eg.1 hl;exact hr ⟨w,A,FT⟩
  have aO:ai aa.aF f=0:=by have eB:=q.ev;rw[h2]at eB;rw[IX]at h3;rcases ap with O|O<;>omega
  have:I f=2:=by have:=Wn g.ok;rw[IX]at h3;omega
  have wH:r=[]:=uE.1 J;obtain⟨u,v,k1,k2⟩:=akn (l:=cq f) (a:=a) (by rw[cU];exact ha) (by rw[cU];omega) (by rw[L9];rfl);rw[cU]at k1;rw[wH]at k2;have k2:=k2.symm;simp only[jS,List.append_eq_nil_iff]at k2;unfold lz;rw[k1,k2.1,k2.2];rfl
 right;obtain⟨w0,xL,av⟩:=hr;have T8:r≠[]:=U6 xL
 let ψ:=kY M B
 let H:=u4 x.k.gate (lo+1) (-2)
 let T':Nat->Nat->Nat:=λG k=>if G=x.k.gate.toNat then(if k<=lo-1 then ψ (kP f G k)else ψ (kP f G (k+2)))else ψ (kP f G k)
 let B':Nat->Nat->Nat:=λG k=>if G=x.k.gate.toNat then(if k<=lo-1 then ψ (j0 f G k)else ψ (j0 f G (k+2)))else ψ (j0 f G k)
 have mC:ai aa.aF (bG (r.map (cM.mp ψ H)))=ai aa.aF (bG r):=Ds (λl=>(F4 _ _ _).aF l) r;have aS:ai aa.aM (bG (r.map (cM.mp ψ H)))=ai aa.aM (bG r):=Ds (λl=>(F4 _ _ _).aM l) r;have mG:∀k,di (bG (r.map (cM.mp ψ H))) k=di (bG r) k:=λk=>Ds (λl=>aA0 _ _ _ k l) r;have inr:∀w∈r,w∈x::y::r:=λw A=>by simp[A]
 have ad:∀w∈r,w.k.aM->w.k.gate=x.k.gate->w.k.ay<lo\/(lo:Int)+1<w.k.ay:=λw A pw gw=>by obtain⟨d1,d2⟩:=tD.1 q.rk;obtain⟨d3,_⟩:=tD.1 d2;have n1:=d1 w (by simp[A]) px pw gw.symm;have n2:=d3 w A py pw (by rw[A6,gw]);rcases aaN with⟨r1,r2⟩|⟨r1,r2⟩<;>omega
 have ag:∀w∈r,w.k.aM->(H w.k).ay=if w.k.gate=x.k.gate/\(lo:Int)+1<w.k.ay then w.k.ay-2 else w.k.ay:=λw A pw=>by have:=ayJ (g:=x.k.gate) (m:=(lo:Int)+1) (h:= -2) pw;rw[show w.k.ay+ -2=w.k.ay-2 by omega]at this;exact this
 have key:∀ac:Nat->Nat->Nat,ψ (ac x.k.gate.toNat (lo+1))=ψ (ac x.k.gate.toNat (lo-1))->∀w∈r,w.k.aM->
   (ψ (ac w.k.gate.toNat (w.k.ay.toNat-1))=(λG k=>if G=x.k.gate.toNat then(if k<=lo-1 then ψ (ac G k)else ψ (ac G (k+2)))else ψ (ac G k)) (H w.k).gate.toNat ((H w.k).ay.toNat-1))/\
   ψ (ac w.k.gate.toNat w.k.ay.toNat)=(λG k=>if G=x.k.gate.toNat then(if k<=lo-1 then ψ (ac G k)else ψ (ac G (k+2)))else ψ (ac G k)) (H w.k).gate.toNat (H w.k).ay.toNat:=by
  intro ac hf w A pw;have FO:(H w.k).gate=w.k.gate:=Lt _ _ _ _;have gw:=((sU pw).1 (q.ok w (inr w A)).bad).1.1.1;have a0:=(q.rr w (inr w A) pw).1;rw[ag w A pw,FO];by_cases Y:w.k.gate=x.k.gate
  .have ho:=ad w A pw Y;simp only[Y,if_true,true_and];by_cases cr:(lo:Int)+1<w.k.ay
   .rw[aH cr];constructor
    .by_cases c3:(w.k.ay-2).toNat-1<=lo-1
     .rw[aH c3];have e3:w.k.ay.toNat-1=lo+1:=J;have e4:(w.k.ay-2).toNat-1=lo-1:=J;rw[e3,e4];exact hf
     rw[aw c3];congr 2;omega
    rw[aw J];congr 2;omega
   rw[aw cr];constructor
   .rw[aH J]
   rw[aH J]
  have:¬(w.k.gate.toNat=x.k.gate.toNat):=J;simp only[Y,false_and,if_false,aw this];exact⟨trivial,trivial⟩
 have j:∀ac:Nat->Nat->Nat,ψ (ac x.k.gate.toNat (lo+1))=ψ (ac x.k.gate.toNat (lo-1))->∀k,
   ((λG k=>if G=x.k.gate.toNat then(if k<=lo-1 then ψ (ac G k)else ψ (ac G (k+2)))else ψ (ac G k)) k (di (bG r) k)=ψ (ac k (di (bG (x::y::r)) k)))/\
   (λG k=>if G=x.k.gate.toNat then(if k<=lo-1 then ψ (ac G k)else ψ (ac G (k+2)))else ψ (ac G k)) k 0=ψ (ac k 0):=by
  intro ac hf k;rw[AZ r k];by_cases ck:k=x.k.gate.toNat
  .subst ck;simp only[if_true];rw[aH (cE _)];refine⟨?_,rfl⟩;rw[AZ r x.k.gate.toNat,aH rfl]at an;by_cases c3:di (bG r) x.k.gate.toNat<=lo-1
   .rw[aH c3];have e3:di (bG r) x.k.gate.toNat=lo-1:=J;rw[e3,show lo-1+2=lo+1 by omega];exact hf.symm
   rw[aw c3]
  simp only[aw ck,vX];exact⟨trivial,trivial⟩
 have qn:qV F ([]++r.map (cM.mp ψ H)) T' B':=by
  refine qV.edit (X:=[x,y]) (r:=r) q (F4 _ _ _) (λw A=>ayb (q.ok w (inr w A)).bad) (λu R v hv cu cv e=>?_) (λu R v hv pu pv e1 e2=>?_) (λ_ O=>by cases O) List.Pairwise.nil List.Pairwise.nil (λ_ O=>by cases O) (λ_ O=>by cases O) ?_ (λ_ O=>by cases O) (λu R cu=>?_) (λ_ O=>by cases O) (λu R pu=>?_) (λ_ O=>by cases O) (λu R pu=>?_) (λk hk=>?_) ?_
  .rw[Vf,Vf]at e;exact e
  .have ak:u.k.gate=v.k.gate:=by rw[Lt,Lt]at e1;exact e1
   refine⟨ak,?_⟩;have e2:(H u.k).ay=(H v.k).ay:=e2;rw[ag u R pu,ag v hv pv]at e2;by_cases Y:u.k.gate=x.k.gate
   .have o1:=ad u R pu Y;have o2:=ad v hv pv (ak▸Y);have cv:v.k.gate=x.k.gate:=ak▸Y;simp only[Y,cv,true_and]at e2;split at e2<;>split at e2<;>omega
   have cv:¬v.k.gate=x.k.gate:=ak▸Y;simp only[Y,cv,false_and,if_false]at e2;exact e2
  .rw[fN,mC,<-Cg r];exact q.ev
  .rw[fN,mC,Vf,<-Cg r];exact q.ids u (inr u R) cu
  .rw[fN,Lt,mG];show 1<=(H u.k).ay/\(H u.k).ay<=_;rw[ag u R pu];have Z:=q.rr u (inr u R) pu;rw[AZ r]at Z;have gu:=((sU pu).1 (q.ok u (inr u R)).bad).1.1.1;by_cases Y:u.k.gate=x.k.gate
   .have o1:=ad u R pu Y;rw[Y]at Z |-;rw[aH rfl]at Z;rw[AZ r,aH rfl]at an;simp only[true_and];split<;>omega
   simp only[Y,false_and,if_false];rw[aw J]at Z;exact Z
  .obtain⟨t1,t2⟩:=key (kP f) m2 u R pu;obtain⟨b1,b2⟩:=key (j0 f) m3 u R pu;exact⟨⟨t1,b1⟩,t2,b2⟩
  .rw[fN,mG];obtain⟨t1,t2⟩:=j (kP f) m2 k;obtain⟨b1,b2⟩:=j (j0 f) m3 k;obtain⟨_,t3⟩:=j (kP f) m2 (k+1);obtain⟨_,b3⟩:=j (j0 f) m3 (k+1);have:=q.gt k hk;exact⟨by rw[show T' k _=_ from t1,this.1];exact t3.symm,by rw[show B' k _=_ from b1,this.2];exact b3.symm⟩
  rw[fN,mG];obtain⟨t1,t2⟩:=j (kP f) m2 F;obtain⟨b1,b2⟩:=j (j0 f) m3 F;obtain⟨_,t3⟩:=j (kP f) m2 0;obtain⟨_,b3⟩:=j (j0 f) m3 0;have:=q.gz;exact⟨by rw[show T' F _=_ from t1,this.1];exact t3.symm,by rw[show B' F _=_ from b1,this.2];exact b3.symm⟩
 have Po:oD F (r.map λw=>sn x.k.gate (lo+1) (-2) w.p):=by
  refine qV.done (X:=[x,y]) (r:=r) (A:=[]) (L:=[M,x.o.l,x.o.r]) (N:=[]) (V:=oi f) (z:=r.map (cM.mp ψ H)) qn c.nd (λt ht=>c.wit t ht) (List.Perm.refl _) ⟨s.mp ψ,?_⟩ ?_ ?_ (λt _ ht=>Ue λe=>ht (by simp[e])) (λw A t ht ew DL=>?_) tA (λt ht=>by cases ht) (λt ht=>by cases ht) (by rw[Cq];exact cT _) ?_
  .have:=UX (m:=ψ) (h:=H) wL;rwa[show y.o.mp ψ=s.mp ψ from m1]at this
  .rw[o9];refine Ax λw _=>?_;rw[awA];rfl
  .refine⟨w0.mp ψ H,?_,?_⟩
   .rw[fN];exact eg.2 ⟨w0,xL,rfl⟩
   show(H w0.k).aM=true;rw[(F4 _ _ _).aM];exact av
  .obtain⟨v,hv,az⟩:=UM wL T8;simp only[dk,iu,or_false,vW]at A DL;have key:t=s.l\/t=s.r:=by
    rcases A with rfl|rfl
    .rcases ew with ew|ew
     .exact absurd ew DL.2.1
     exact absurd ew DL.2.2
    rcases m4 t ew with O|O
    .exact absurd O DL.1
    exact O
   refine⟨v.mp ψ H,by rw[fN];exact eg.2 ⟨v,hv,rfl⟩,?_⟩;show t=ψ v.o.l\/t=ψ v.o.r;rw[az];have:ψ t=t:=Ue DL.1;rcases key with O|O
   .left;rw[<-O,this]
   right;rw[<-O,this]
  rw[fN,mC,aS];have Z:=g.nw;rw[Cg]at h2;rw[IX]at h3;simp only[eK,dw];omega
 obtain⟨u,v,k1,k2⟩:=akn (l:=cq f) (a:=a) (by rw[cU];exact ha) (by rw[cU];omega) (by rw[L9];rfl);rw[cU]at k1;show oD F ((nb (cq f) λk _=>decide (k=a)||decide (k=(a+1)%I f)).map (sn x.k.gate (qT x.k.ay y.k.ay) (-2)));rw[k1,vB,lU];refine oD.mV ?_;rw[<-lU,<-k2,o9];exact Po
end
section
variable {F:Nat} {f:ae}
def aeP(g:cK F f){pl:Nat}{E:aG}{j:Nat}(B:j<I f)(h:oT F f pl E j):∃w,w∈fO (cA f) (ct f)/\(jC F f w).places.length=pl/\(I (w.filter λx=>decide (x<2*I f))=I E)/\ ∀e∈E,∃d,d∈w/\d<2*I f/\d/2=e:=by
 have key:∀Q∈eD F f,wT Q pl E->∃w,w∈fO (cA f) (ct f)/\(jC F f w).places.length=pl/\(I (w.filter λx=>decide (x<2*I f))=I E)/\ ∀e∈E,∃d,d∈w/\d<2*I f/\d/2=e:=by intro Q z H;obtain⟨w,y,rfl⟩:=eg.1 z;unfold wT at H;simp only[dj,dI,jP]at H;obtain⟨u,A,L⟩:=H;rw[Ez]at u;refine⟨w,y,A,u,λe M=>?_⟩;have N:=L e M;unfold vL at N;obtain⟨d,m,T⟩:=xk.1 (show 0<((jC F f w).cn.countP λd=>d/2==e) by omega);rw[Ez]at m;obtain⟨O,D⟩:=uQ.1 m;exact⟨d,O,by simpa using D,by simpa using T⟩
 unfold oT at h;rw[oG]at h;rcases h with h|h
 .exact key _ (Sm J) h
 exact key _ (Sm J) h
def aia{D:aG}(h:I D=2){y:Nat}(f:x∈D)(H:y∈D)(A:x≠y){z:Nat}(g:z∈D):z=x\/z=y:=by
 match D,h with
 |[p,q],_=>simp only[dk,iu,or_false]at f H g;omega
def apO{e:Nat}(h:e<I f){l:aa}(hl:f[aK f e]?=some l)(H:l.aF):cA f (2*e)=fj (I f) (iK f (aK f e)) (gN l):=by
 have:2*e=j5 (I f) (aK f e) true:=by unfold j5 aK;rw[aH rfl,Ep h]
 rw[this,Al hl H];unfold gN;cases(l.over==(l.sign==1))<;>rfl
def an4{e:Nat}{l:aa}(hl:f[e]?=some l)(h:l.aF):cA f (2*e+1)=fj (I f) (iK f e) (!gN l):=by have:2*e+1=j5 (I f) e false:=rfl;rw[this,Al hl h];unfold gN;cases(l.over==(l.sign==1))<;>rfl
def zb{v:Nat}{b:Bool}(h:fj (I f) v b=x):(b/\x=2*v)\/(b=false/\x=2*((v+I f-1)%I f)+1):=by
 cases b
 .exact .inr ⟨rfl,h.symm⟩
 exact .inl ⟨rfl,h.symm⟩
def DI{v e:Nat}(H:v<I f)(h:(v+I f-1)%I f=e):v=aK f e:=by unfold aK;rw[<-h,vZ H]
def Fh(ok:gy F f){v u:Nat}{l m:aa}(hl:f[v]?=some l)(y:l.aF)(H:f[u]?=some m)(j:iK f v=u):gN m= !gN l/\m.aF/\m.id=l.id:=by obtain⟨_,w,h,z,g,wo,x⟩:=rJ ok.cr hl y;rw[j,H]at h;cases h;refine⟨?_,z,g⟩;unfold gN;rw[wo,x];cases l.over<;>cases(l.sign==1)<;>rfl
def Sd(ok:gy F f){v:Nat}{l:aa}(hl:f[v]?=some l)(H:l.aF):iK f v<I f:=by obtain⟨_,w,h,_⟩:=rJ ok.cr hl H;exact(cD.1 h).1
def axv(g:cK F f){a b:Nat}(ha:a<I f)(hb:b<I f){L R O T:aa}(A:f[a]?=some L)(y:f[aK f a]?=some R)(z:f[b]?=some O)(H:f[aK f b]?=some T)
  (Z:L.aF) (Y:R.aF) (M:O.aF) (B:T.aF) (kM:L.id≠R.id) (Jl:O.id≠T.id) (ez:a≠b) (h:oT F f 0 [a,b] a):gN L= !gN R:=by
 have ok:=g.ok;obtain⟨w,hw,_,N,hE⟩:=aeP g ha h;obtain⟨D,zy,xu,BZ⟩:=hE a aQ;obtain⟨j,AN,yu,B5⟩:=hE b aQ;have aN:D≠j:=J;have u:∀d,d∈w->d<2*I f->d∈w.filter λx=>decide (x<2*I f):=λd h1 X=>uQ.2 ⟨h1,by simpa using X⟩;have two:∀d,d∈w->d<2*I f->d=D\/d=j:=λd h1 X=>aia N (u D zy xu) (u j AN yu) aN (u d h1 X);have Q:∀d,d∈w->cA f d∈w:=λd hd=>zr (uu ok) hw hd;have str:∀(v:Nat) (b:Bool),v<I f->fj (I f) v b<2*I f:=λv b H=>by have:=DS H (!b);rw[<-zc]at this;have:=Aq this;rwa[Bs]at this
 have oy:=Sd ok y Y;have tR:=Sd ok A Z;have ou:=Sd ok z M;have ov:=Sd ok H B
 have na:(D=2*a/\cA f D=fj (I f) (iK f (aK f a)) (gN R))\/(D=2*a+1/\cA f D=fj (I f) (iK f a) (!gN L)):=by
  rcases w6 D with c|c
  .have:D=2*a:=J;exact .inl ⟨this,by rw[this];exact apO ha y Y⟩
  have:D=2*a+1:=J;exact .inr ⟨this,by rw[this];exact an4 A Z⟩
 have fg:(j=2*b/\cA f j=fj (I f) (iK f (aK f b)) (gN T))\/(j=2*b+1/\cA f j=fj (I f) (iK f b) (!gN O)):=by
  rcases w6 j with c|c
  .have:j=2*b:=J;exact .inl ⟨this,by rw[this];exact apO hb H B⟩
  have:j=2*b+1:=J;exact .inr ⟨this,by rw[this];exact an4 z M⟩
 have ta:cA f D=D\/cA f D=j:=two _ (Q _ zy) (by rcases na with⟨_,e⟩|⟨_,e⟩<;>rw[e]<;>exact str _ _ (by assumption));have tb:cA f j=D\/cA f j=j:=two _ (Q _ AN) (by rcases fg with⟨_,e⟩|⟨_,e⟩<;>rw[e]<;>exact str _ _ (by assumption));have ad:cA f D=j:=by
  rcases ta with e|e
  .exfalso;rcases na with⟨e1,e2⟩|⟨e1,e2⟩
   .rw[e]at e2;rcases zb e2.symm with⟨_,E⟩|⟨_,E⟩
    .exact kM (Fh ok y Y A J).2.2
    omega
   rw[e]at e2;rcases zb e2.symm with⟨_,E⟩|⟨_,E⟩
   .omega
   exact kM (Fh ok A Z y (DI tR J)).2.2.symm
  exact e
 have ac:cA f j=D:=by
  rcases tb with e|e
  .exact e
  exfalso;rcases fg with⟨e1,e2⟩|⟨e1,e2⟩
  .rw[e]at e2;rcases zb e2.symm with⟨_,E⟩|⟨_,E⟩
   .exact Jl (Fh ok H B z J).2.2
   omega
  rw[e]at e2;rcases zb e2.symm with⟨_,E⟩|⟨_,E⟩
  .omega
  exact Jl (Fh ok z M H (DI ou J)).2.2.symm
 rcases na with⟨ea,e1⟩|⟨ea,e1⟩<;>rcases fg with⟨eb,e2⟩|⟨eb,e2⟩<;>rw[ad]at e1<;>rw[ac]at e2
 .rcases zb e1.symm with⟨g1,E⟩|⟨g1,E⟩<;>rcases zb e2.symm with⟨m,e4⟩|⟨m,e4⟩<;>try omega
  have:=(Fh ok H B A J).1;rw[this,g1,m]
 .rcases zb e1.symm with⟨g1,E⟩|⟨g1,E⟩<;>rcases zb e2.symm with⟨m,e4⟩|⟨m,e4⟩<;>try omega
  have:=(Fh ok z M A J).1;rw[this,g1,m];rfl
 .rcases zb e1.symm with⟨g1,E⟩|⟨g1,E⟩<;>rcases zb e2.symm with⟨m,e4⟩|⟨m,e4⟩<;>try omega
  have:=(Fh ok H B y (DI ov J)).1;rw[this,m];revert g1;cases gN L<;>simp
 rcases zb e1.symm with⟨g1,E⟩|⟨g1,E⟩<;>rcases zb e2.symm with⟨m,e4⟩|⟨m,e4⟩<;>try omega
 have:=(Fh ok z M y (DI ou J)).1;rw[this];revert g1 m;cases gN L<;>cases gN O<;>simp
def R7{x p w:cM}(j:nY x p)(H:nY x w)(m:nY p w)(f:x.k.aF)(g:p.k.aF)(h:w.k.aF)(e1:x.k.id=p.k.id):w.k.id≠x.k.id:=by intro e2;have a:=(j f g e1).ov;have b:=(H f h e2.symm).ov;have d:=(m g h (by rw[<-e1,e2])).ov;rw[b]at a;rw[d]at a;revert a;cases w.k.over<;>simp
def aj0{α:Type}{z:List α}{a:Nat}(f:a<I z)(H:j<I z):(z.drop a++z.take a)[j]?=z[(a+j)%I z]? :=by
 by_cases h:a+j<I z
 .rw[xv (by rw[l8];omega),yt,jv h]
 rw[vI (by rw[l8];omega),l8,nN,aH J,acJ J,jv J];congr 1;omega
def arN{α:Type}{r:List α}{u v:α}(g:r[j]?=some u)(h:r[j+1]?=some v):r=r.take j++u::v::r.drop (j+2):=by
 obtain⟨f,e1⟩:=cD.1 g;obtain⟨H,e2⟩:=cD.1 h;have:r.drop j=u::v::r.drop (j+2):=by rw[<-sQ f,e1,<-sQ H,e2]
 rw[<-this,ot]
end
def abN{p q w:Int}{l:aa}(H:l.aF)(h:l.id=w):(jD [p,q] l).id=w-(if p<w then 1 else 0)-(if q<w then 1 else 0):=by rw[aeW H,h];by_cases g:p<w<;>by_cases f:q<w<;>simp[g,f]<;>omega
section
variable {F:Nat} {f:ae}
def atB(g:cK F f){a b:Nat}(ha:a<I f)(hb:b<I f)(H:vS F f a b=some L):oD F L:=by
 obtain⟨x,y,r0,s,e,hx,hy,c,hp,L9,ad,an,qQ⟩:=aaw g ha;have q:=c.q;have pW:=Jr f;unfold vS at H;split at H
 case isFalse=>cases H
 rename_i hc;simp only[dj,oG,dI,mP,ng]at hc;obtain⟨a5,aN,aA,iv,mD,LG⟩:=hc;have pa:aW f a=x.p:=ml hx;have pb:aW f (aK f a)=y.p:=ml hy;cases H;have bm:aK f b<I f:=fC _ J;have bj:aK f a<I f:=fC _ J;obtain⟨u,Mi⟩:=aR (L:=mY f) (k:=b) J;obtain⟨v,Qk⟩:=aR (L:=mY f) (k:=aK f b) J;have pc:aW f b=u.p:=ml (by rw[<-G6,fY,Mi];rfl);have pd:aW f (aK f b)=v.p:=ml (by rw[<-G6,fY,Qk];rfl);rw[pa,pb]at aN;rw[pa,pb,pc,pd]at aA
 have kinds:x.k.aF/\y.k.aF/\u.k.aF/\v.k.aF/\x.k.over=y.k.over/\u.k.over=v.k.over/\x.k.over≠u.k.over:=by
  have bo:∀e ov,jY f e ov->(aW f e).l.aF/\(aW f (aK f e)).l.aF/\(aW f e).l.over=ov/\(aW f (aK f e)).l.over=ov:=λe ov H=>by unfold jY at H;simp only[dj,dI]at H;obtain⟨R,D,h3,h4⟩:=H;exact⟨by unfold aa.aF;rw[R];rfl,by unfold aa.aF;rw[D];rfl,h3,h4⟩
  rcases a5 with⟨R,D⟩|⟨R,D⟩<;>obtain⟨A,E,B,m⟩:=bo _ _ R<;>obtain⟨Z,Y,Q,T⟩:=bo _ _ D
  all_goals
   rw[pa]at A B;rw[pb]at E m;rw[pc]at Z Q;rw[pd]at Y T;refine⟨A,E,Z,Y,?_,?_,?_⟩
   .show x.p.l.over=y.p.l.over;rw[B,m]
   .show u.p.l.over=v.p.l.over;rw[Q,T]
   show x.p.l.over≠u.p.l.over;rw[B,Q];decide
 obtain⟨cx,cy,cu,cv,bc,a9,ak⟩:=kinds;have kM:x.k.id≠y.k.id:=aN;have PA:(u.k.id=x.k.id/\v.k.id=y.k.id)\/(u.k.id=y.k.id/\v.k.id=x.k.id):=aA;have Jl:u.k.id≠v.k.id:=by
  rcases PA with⟨R,D⟩|⟨R,D⟩
  .rw[R,D];exact kM
  rw[R,D];exact kM.symm
 have ez:a≠b:=by
  rintro rfl
  rw[ad]at Mi;cases Mi;exact ak rfl
 have lx:f[a]?=some x.k:=by have:=Bt ad;rwa[nV]at this
 have ly:f[aK f a]?=some y.k:=by have:=Bt an;rwa[nV]at this
 have lu:f[b]?=some u.k:=by have:=Bt Mi;rwa[nV]at this
 have lv:f[aK f b]?=some v.k:=by have:=Bt Qk;rwa[nV]at this
 have hg:=axv g ha hb lx ly lu lv cx cy cu cv kM Jl ez LG
 obtain⟨j,hj1,oR,Cs⟩:∃j,j+3<I f/\(a+(j+2))%I f=b/\(a+(j+3))%I f=aK f b:=by
  have T1:aK f a≠b:=by intro e;rw[e,Mi]at an;cases an;exact ak bc
  have ag:aK f b≠a:=by intro e;rw[e,ad]at Qk;cases Qk;exact ak a9.symm
  unfold aK at T1 ag |-;by_cases c1:a<b
  .have e1:(a+1)%I f=a+1:=jv J;rw[e1]at T1;have D:b≠a+1:=λH=>T1 H.symm;have h3:¬(b+1=I f/\a=0):=λ⟨h3,h4⟩=>ag (by rw[h3,Am,h4]);refine⟨b-a-2,J,?_,?_⟩
   .rw[show a+(b-a-2+2)=b by omega,jv hb]
   rw[show a+(b-a-2+3)=b+1 by omega]
  have e1:(b+1)%I f=b+1:=jv J;rw[e1]at ag;have h3:¬(a+1=I f/\b=0):=λ⟨h3,h4⟩=>T1 (by rw[h3,Am,h4]);refine⟨b+I f-a-2,J,?_,?_⟩
  .rw[show a+(b+I f-a-2+2)=b+I f by omega,yq,jv hb]
  rw[show a+(b+I f-a-2+3)=b+1+I f by omega,yq]
 have av:r0[j]?=some u:=by have:=aj0 (z:=mY f) (a:=a) (j:=j+2) J J;rw[e,pW,oR,Mi]at this;exact this
 have Ed:r0[j+1]?=some v:=by have:=aj0 (z:=mY f) (a:=a) (j:=j+3) J J;rw[e,pW,Cs,Qk]at this;exact this
 have rI:=arN av Ed;obtain⟨c1,c2,ue,asU,IZ⟩:∃c1 c2,r0=c1++u::v::c2/\I c1=j/\I c2+j+4=I f:=by
  refine⟨_,_,rI,?_,?_⟩
  .have:=(cD.1 av).1;rw[iM];omega
  have R:=(cD.1 Ed).1;have D:=qQ.length_eq;rw[pW]at D;simp only[dw]at D;rw[l8];omega
 subst ue
 obtain⟨jU,gV,wL⟩:=hp;obtain⟨s2,pV,CG,Ba,oX⟩:=Nw.1 wL;have bi:j≠0:=by
  rintro rfl
  exact iv oR
 have bb:c2≠[]:=by
  rintro rfl
  simp only[eK]at IZ;refine mD ?_;rw[<-oR,Nat.mod_add_mod,show a+(j+2)+2=a+I f by omega,yq,jv ha]
 have ji:c1≠[]:=by rintro rfl;simp at asU;omega
 have q4:qV F ([x,y,u,v]++(c1++c2)) (kP f) (j0 f):=by refine q.perm ?_;refine List.Perm.cons x (List.Perm.cons y ?_);exact SI.trans (List.Perm.cons u SI)
 obtain⟨w1,q5⟩:=tD.1 q4.cr;obtain⟨w2,q6⟩:=tD.1 q5;obtain⟨w3,q7⟩:=tD.1 q6;obtain⟨w4,q8⟩:=tD.1 q7;have az:nY x u:=w1 u aQ;have aq:nY x v:=w1 v aQ;have ar:nY y u:=w2 u aQ;have aE:nY y v:=w2 v aQ;have VB:∀w∈c1++c2,w.k.aF->w.k.id≠x.k.id/\w.k.id≠y.k.id:=λw hw cw=>by
  have A:nY x w:=w1 w (zt [y,u,v] hw);have E:nY y w:=w2 w (zt [u,v] hw);have B:nY u w:=w3 w (zt [v] hw);have m:nY v w:=w4 w hw;rcases PA with⟨R,D⟩|⟨R,D⟩
  .exact⟨R7 az A B cx cu cw R.symm,R7 aE E m cy cv cw D.symm⟩
  exact⟨R7 aq A m cx cv cw D.symm,R7 ar E B cy cu cw R.symm⟩
 have bx:=(q4.ok x aQ).cb cx;have h:=(q4.ok y aQ).cb cy;have bu:=(q4.ok u aQ).cb cu;have bv:=(q4.ok v aQ).cb cv;rw[jU]at bx;rw[gV]at h;rw[Ba]at bv
 obtain⟨M,O,bg,m1,m2,m3⟩:∃M O bg:Nat,y.o.mp (kY M O)=s.mp (kY M O)/\v.o.mp (kY M O)=s2.mp (kY M O)/\
   (∀t,(t=x.o.l\/t=x.o.r)\/(t=y.o.l\/t=y.o.r)\/(t=u.o.l\/t=u.o.r)\/(t=v.o.l\/t=v.o.r)->t=M\/t=bg\/(t=s.l\/t=s.r)\/(t=s2.l\/t=s2.r)):=by
  have cF:y.o.b=s.b:=by rw[<-h,<-bx]
  have bl:v.o.b=s2.b:=by rw[<-bv,<-bu,CG]
  have fin:∀M O,kY M O y.o.l=kY M O s.l->kY M O y.o.r=kY M O s.r->kY M O v.o.l=kY M O s2.l->kY M O v.o.r=kY M O s2.r->y.o.mp (kY M O)=s.mp (kY M O)/\v.o.mp (kY M O)=s2.mp (kY M O):=λM O k1 k2 k3 k4=>⟨gj.ext' k1 k2 cF,gj.ext' k3 k4 bl⟩;rcases PA with⟨R,D⟩|⟨R,D⟩
  .have p1:=(az cx cu R.symm).x4;have p2:=(aE cy cv D.symm).x4;rw[jU,CG]at p1;rw[gV,Ba]at p2;obtain⟨A,E,B,m⟩:=p1;obtain⟨Z,Y,Q,T⟩:=p2;cases zN:gN x.k
   .have A6:gN y.k:=by revert hg;rw[zN];cases gN y.k<;>simp
    rw[zN]at A E B m;rw[A6]at Z Y Q T;simp only[eX,if_false,if_true]at A E B m Z Y Q T;refine⟨y.o.l,s.l,x.o.r,?_⟩;have ao:=fin y.o.l s.l (by rw[vc,uG]) (by rw[Y,m]) (by rw[<-Z,B]) (by rw[T,<-A,vc,uG]);refine⟨ao.1,ao.2,?_⟩;rintro t ((rfl|rfl)|(rfl|rfl)|(rfl|rfl)|(rfl|rfl))
    .exact .inr (.inr (.inr (.inl B.symm)))
    .exact .inr (.inl rfl)
    .exact .inl rfl
    .exact .inr (.inr (.inl (.inr (Y.trans m))))
    .exact .inr (.inl E.symm)
    .exact .inr (.inr (.inl (.inr m)))
    .exact .inr (.inr (.inr (.inl (by rw[<-Z,B]))))
    exact .inl T
   have A6:gN y.k=false:=by revert hg;rw[zN];cases gN y.k<;>simp
   rw[zN]at A E B m;rw[A6]at Z Y Q T;simp only[eX,if_false,if_true]at A E B m Z Y Q T;refine⟨y.o.r,s.r,x.o.l,?_⟩;have ao:=fin y.o.r s.r (by rw[<-Q,A]) (by rw[vc,uG]) (by rw[B,<-Y,vc,uG]) (by rw[T,E]);refine⟨ao.1,ao.2,?_⟩;rintro t ((rfl|rfl)|(rfl|rfl)|(rfl|rfl)|(rfl|rfl))
   .exact .inr (.inl rfl)
   .exact .inr (.inr (.inr (.inr E)))
   .exact .inr (.inr (.inl (.inl (by rw[<-Q,A]))))
   .exact .inl rfl
   .exact .inr (.inr (.inl (.inl A.symm)))
   .exact .inr (.inl m)
   .exact .inl Y.symm
   exact .inr (.inr (.inr (.inr (T.trans E))))
  have p1:=(aq cx cv D.symm).x4;have p2:=(ar cy cu R.symm).x4;rw[jU,Ba]at p1;rw[gV,CG]at p2;obtain⟨A,E,B,m⟩:=p1;obtain⟨Z,Y,Q,T⟩:=p2;cases zN:gN x.k
  .have A6:gN y.k:=by revert hg;rw[zN];cases gN y.k<;>simp
   rw[zN]at A E B m;rw[A6]at Z Y Q T;simp only[eX,if_false,if_true]at A E B m Z Y Q T;refine⟨y.o.r,s.r,x.o.l,?_⟩;have ao:=fin y.o.r s.r (by rw[A,<-T]) (by rw[vc,uG]) (by rw[<-E,Q]) (by rw[m,<-Y,vc,uG]);refine⟨ao.1,ao.2,?_⟩;rintro t ((rfl|rfl)|(rfl|rfl)|(rfl|rfl)|(rfl|rfl))
   .exact .inr (.inl rfl)
   .exact .inr (.inr (.inr (.inl Q.symm)))
   .exact .inr (.inr (.inl (.inl (by rw[A,<-T]))))
   .exact .inl rfl
   .exact .inr (.inl Z.symm)
   .exact .inr (.inr (.inl (.inl (by rw[A]))))
   .exact .inr (.inr (.inr (.inl (by rw[<-E,Q]))))
   exact .inr (.inr (.inl (.inr m)))
  have A6:gN y.k=false:=by revert hg;rw[zN];cases gN y.k<;>simp
  rw[zN]at A E B m;rw[A6]at Z Y Q T;simp only[eX,if_false,if_true]at A E B m Z Y Q T;refine⟨y.o.l,s.l,x.o.r,?_⟩;have ao:=fin y.o.l s.l (by rw[vc,uG]) (by rw[Y,B]) (by rw[<-A,Q,vc,uG]) (by rw[m,Z]);refine⟨ao.1,ao.2,?_⟩;rintro t ((rfl|rfl)|(rfl|rfl)|(rfl|rfl)|(rfl|rfl))
  .exact .inr (.inr (.inr (.inr Z)))
  .exact .inr (.inl rfl)
  .exact .inl rfl
  .exact .inr (.inr (.inl (.inr (by rw[Y,B]))))
  .exact .inr (.inr (.inl (.inr B)))
  .exact .inr (.inl T)
  .exact .inr (.inr (.inl (.inl A.symm)))
  exact .inr (.inr (.inr (.inr (m.trans Z))))
 have Cg:∀z:iA,ai aa.aF (bG ([x,y,u,v]++z))=ai aa.aF (bG z)+4:=λz=>by rw[aeJ,n_,n_,n_,n_,Xu,(zh cx).1,(zh cy).1,(zh cu).1,(zh cv).1];omega
 have IX:∀z:iA,ai aa.aM (bG ([x,y,u,v]++z))=ai aa.aM (bG z):=λz=>by rw[aeJ,n_,n_,n_,n_,Xu,(zh cx).2,(zh cy).2,(zh cu).2,(zh cv).2];omega
 have AZ:∀(z:iA) k,di (bG ([x,y,u,v]++z)) k=di (bG z) k:=λz k=>by show ai _ _=ai _ _;rw[aeJ,n_,n_,n_,n_,Xu,JF k cx,JF k cy,JF k cu,JF k cv];simp
 have ac:([x,y,u,v]++(c1++c2)).Perm (mY f):=by refine List.Perm.trans (List.Perm.symm ?_) qQ;refine List.Perm.cons x (List.Perm.cons y ?_);exact SI.trans (List.Perm.cons u SI)
 have D:ai aa.aF (bG ([x,y,u,v]++(c1++c2)))=ai aa.aF f:=by rw[DU ac,nV]
 have h3:ai aa.aM (bG ([x,y,u,v]++(c1++c2)))=ai aa.aM f:=by rw[DU ac,nV]
 have eB:=q4.ev
 let ψ:=kY M O
 let hL:=jD [x.k.id,y.k.id]
 let r:=c1++c2
 have mC:ai aa.aF (bG (r.map (cM.mp ψ hL)))=ai aa.aF (bG r):=Ds (λl=>(B7 _).aF l) r;have aS:ai aa.aM (bG (r.map (cM.mp ψ hL)))=ai aa.aM (bG r):=Ds (λl=>(B7 _).aM l) r;have mG:∀k,di (bG (r.map (cM.mp ψ hL))) k=di (bG r) k:=λk=>Ds (λl=>ajZ _ k l) r;have LQ:∀w∈[x,y,u,v]++r,w.k.aF->1<=w.k.id/\w.k.id<=((ai aa.aF (bG r)/2:Nat):Int)+2:=λw hw hc=>by have:=q4.ids w hw hc;rw[Cg]at this;show 1<=w.k.id/\w.k.id<=((ai aa.aF (bG (c1++c2))/2:Nat):Int)+2;omega
 have bp:=LQ x aQ cx;have be:=LQ y aQ cy;have inr:∀w∈r,w∈[x,y,u,v]++r:=λw hw=>zt _ hw;have qn:qV F ([]++r.map (cM.mp ψ hL)) (λG k=>ψ (kP f G k)) (λG k=>ψ (j0 f G k)):=by
  refine qV.edit (X:=[x,y,u,v]) (r:=r) q4 (B7 _) (λw hw=>alz (q4.ok w (inr w hw)).bad) (λp hp o ho cp co e=>?_) (λp hp o ho pp po e1 e2=>?_) (λ_ H=>by cases H) List.Pairwise.nil List.Pairwise.nil (λ_ H=>by cases H) (λ_ H=>by cases H) ?_ (λ_ H=>by cases H) (λp hp cp=>?_) (λ_ H=>by cases H) (λp hp pp=>?_) (λ_ H=>by cases H) (λp hp pp=>?_) (λk hk=>?_) ?_
  .obtain⟨n1,n2⟩:=VB p hp cp;obtain⟨n3,n4⟩:=VB o ho co;rw[abN cp rfl,abN co rfl]at e;split at e<;>split at e<;>split at e<;>split at e<;>omega
  .have e1:(jD [x.k.id,y.k.id] p.k).gate=(jD [x.k.id,y.k.id] o.k).gate:=e1;have e2:(jD [x.k.id,y.k.id] p.k).ay=(jD [x.k.id,y.k.id] o.k).ay:=e2;rw[Bk pp,Bk po]at e1 e2;exact⟨e1,e2⟩
  .rw[fN,mC];rw[Cg]at eB;show ai aa.aF (bG (c1++c2))%2=0;omega
  .rw[fN,mC];show 1<=(jD [x.k.id,y.k.id] p.k).id/\(jD [x.k.id,y.k.id] p.k).id<=_;rw[abN cp rfl];have R:=LQ p (inr p hp) cp;obtain⟨n1,n2⟩:=VB p hp cp;have bd:=kM;split<;>split<;>omega
  .rw[fN,mG];show 1<=(jD [x.k.id,y.k.id] p.k).ay/\(jD [x.k.id,y.k.id] p.k).ay<=((di (bG r) (jD [x.k.id,y.k.id] p.k).gate.toNat:Nat):Int);rw[Bk pp,<-AZ r];exact q4.rr p (inr p hp) pp
  .show(ψ _=ψ (kP f (jD [x.k.id,y.k.id] p.k).gate.toNat ((jD [x.k.id,y.k.id] p.k).ay.toNat-1))/\ψ _=ψ (j0 f (jD [x.k.id,y.k.id] p.k).gate.toNat ((jD [x.k.id,y.k.id] p.k).ay.toNat-1)))/\ψ _=ψ (kP f (jD [x.k.id,y.k.id] p.k).gate.toNat (jD [x.k.id,y.k.id] p.k).ay.toNat)/\ψ _=ψ (j0 f (jD [x.k.id,y.k.id] p.k).gate.toNat (jD [x.k.id,y.k.id] p.k).ay.toNat);rw[Bk pp];exact⟨⟨rfl,rfl⟩,rfl,rfl⟩
  .rw[fN,mG,<-AZ r];obtain⟨t1,t2⟩:=q4.gt k hk;exact⟨congrArg ψ t1,congrArg ψ t2⟩
  rw[fN,mG,<-AZ r];obtain⟨t1,t2⟩:=q4.gz;exact⟨congrArg ψ t1,congrArg ψ t2⟩
 have Po:oD F (r.map λw=>oZ [x.k.id,y.k.id] w.p):=by
  refine qV.done (X:=[x,y,u,v]) (r:=r) (A:=[]) (L:=[M,bg]) (N:=[]) (V:=oi f) (z:=r.map (cM.mp ψ hL)) qn D5 (λt ht=>?_) (List.Perm.refl _) ⟨s.mp ψ,?_⟩ ?_ ?_ (λt _ ht=>Ue λe=>ht (by simp[e])) (λw hw t ht ew DL=>?_) tA (λt ht=>by cases ht) (λt ht=>by cases ht) (by rw[Cq];exact cT _) ?_
  .obtain⟨w,hw,ew⟩:=c.wit t ht;refine⟨w,?_,ew⟩;have:w∈mY f:=qQ.mem_iff.1 hw;exact ac.mem_iff.2 this
  .have e1:=UX (m:=ψ) (h:=hL) pV;have e2:=UX (m:=ψ) (h:=hL) oX;rw[show y.o.mp ψ=s.mp ψ from m1]at e1;rw[show v.o.mp ψ=s2.mp ψ from m2]at e2;show mr (s.mp ψ) ((c1++c2).map (cM.mp ψ hL)) (s.mp ψ);rw[lU];exact Nw.2 ⟨_,e1,e2⟩
  .rw[o9];refine Ax λw _=>?_;rw[apG];rfl
  .obtain⟨w,hw,tv⟩:=c.one;have a0:w∈[x,y,u,v]++r:=ac.mem_iff.2 (qQ.mem_iff.1 hw);rcases fc.1 a0 with H|H
   .exfalso;simp only[dk,iu,or_false]at H;rcases H with rfl|rfl|rfl|rfl
    .rw[pk cx]at tv;cases tv
    .rw[pk cy]at tv;cases tv
    .rw[pk cu]at tv;cases tv
    rw[pk cv]at tv;cases tv
   refine⟨w.mp ψ hL,by rw[fN];exact eg.2 ⟨w,H,rfl⟩,?_⟩;show(jD [x.k.id,y.k.id] w.k).aM=true;rw[(B7 _).aM];exact tv
  .simp only[dk,iu,or_false,vW]at hw DL;have key:=m3 t (by
    rcases hw with rfl|rfl|rfl|rfl
    .exact .inl ew
    .exact .inr (.inl ew)
    .exact .inr (.inr (.inl ew))
    exact .inr (.inr (.inr ew)))
   have ap:ψ t=t:=Ue DL.1;have dF:∀d∈r,(t=d.o.l\/t=d.o.r)->∃y'∈[]++r.map (cM.mp ψ hL),t=y'.o.l\/t=y'.o.r:=λd hd H=>by
    refine⟨d.mp ψ hL,by rw[fN];exact eg.2 ⟨d,hd,rfl⟩,?_⟩;rcases H with H|H
    .left;show t=ψ d.o.l;rw[<-H,ap]
    right;show t=ψ d.o.r;rw[<-H,ap]
   rcases key with H|H|H|H
   .exact absurd H DL.1
   .exact absurd H DL.2
   .obtain⟨d,hd,ed⟩:=UM oX bb;exact dF d (zt _ hd) (by rw[ed];exact H)
   obtain⟨d,hd,ed⟩:=UM pV ji;exact dF d (AI _ hd) (by rw[ed];exact H)
  rw[fN,mC,aS];have R:=g.nw;rw[Cg]at D;rw[IX]at h3;show ai aa.aM (bG (c1++c2))+ai aa.aF (bG (c1++c2))/2+1+2<=_;simp only[eK];omega
 rw[pa,pb];show oD F ((nb (cq f) (ri [x.k.id,y.k.id])).map (oZ [x.k.id,y.k.id]));rw[ahW (l:=cq f) (drop:=ri [x.k.id,y.k.id]) (d:=λp=>(p.l.kind==2)&&[x.k.id,y.k.id].contains p.l.id) λ_ _=>rfl];refine akB (a:=a) ?_;rw[L9];have aO:(x.p.l.kind==2):=cx;have PG:(y.p.l.kind==2):=cy;have a6:(u.p.l.kind==2):=cu;have a7:(v.p.l.kind==2):=cv;have a8:∀d∈r,(λp:aU=> !((p.l.kind==2)&&[x.k.id,y.k.id].contains p.l.id)) d.p:=λd hd=>by
  show(!((d.p.l.kind==2)&&_))=true;cases hk:(d.p.l.kind==2)
  .rfl
  obtain⟨n1,n2⟩:=VB d hd hk;simp[n1,n2]
 have TS:∀(d:cM) (t:cY),(d.p.l.kind==2)->(d.k.id=x.k.id\/d.k.id=y.k.id)->(d.p::t).filter (λp=> !((p.l.kind==2)&&[x.k.id,y.k.id].contains p.l.id))=t.filter (λp=> !((p.l.kind==2)&&[x.k.id,y.k.id].contains p.l.id)):=λd t hd H=>by
  refine Uf ?_;rcases H with H|H
  .have H:d.p.l.id=x.k.id:=H;simp[H,hd]
  have H:d.p.l.id=y.k.id:=H;simp[H,hd]
 have hf:((x::y::(c1++u::v::c2)).map cM.p).filter (λp=> !((p.l.kind==2)&&[x.k.id,y.k.id].contains p.l.id))=r.map cM.p:=by
  rw[eR,eR,TS x _ aO (.inl rfl),TS y _ PG (.inr rfl),lU,KN,eR,eR,
   TS u _ a6 (PA.imp (λH=>H.1) λH=>H.1),TS v _ a7 (PA.symm.imp (λH=>H.2) λH=>H.2)]
  rw[<-KN,<-lU];refine aou λp hp=>?_;obtain⟨d,hd,rfl⟩:=eg.1 hp;exact a8 d hd
 rw[hf,o9];exact Po
end
def aAW{α:Type}{z:List α}{a:Nat}{x:α}(h:z[a]?=some x):z=z.take a++x::z.drop (a+1):=by
 obtain⟨hl,e⟩:=cD.1 h;have:z.drop a=x::z.drop (a+1):=by rw[<-e,sQ]
 rw[<-this,ot]
end Go.Abs
