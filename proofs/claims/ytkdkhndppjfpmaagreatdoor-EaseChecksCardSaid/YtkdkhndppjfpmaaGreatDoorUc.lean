/- A part. -/
import Derived.Test.YtkdkhndppjfpmaaGreatDoorUa
import Derived.Test.YtkdkhndppjfpmaaGreatDoorWw
set_option linter.all false
open List renaming length->I
set_option maxHeartbeats 16000000
namespace Go.Abs
variable{g m h:Int}{L:cX}{v j:Nat}
def l_(c e a:Nat):Nat:=if a=c then e else a
def vv(c e:Nat):l_ c e c=e:=aD rfl
def uE(c e:Nat):l_ c e e=e:=by unfold l_;split<;>rfl
def Un{c e a:Nat}(h:a≠c):l_ c e a=a:=aC h
def mU(g m h:Int)(l:aa):aa:=if(l.kind==1)&&((l.gate==g)&&decide (m<l.ay))then{l with ay:=l.ay+h}else l
def Na(g m h:Int)(p:aR):kX g m h p=⟨mU g m h p.l,p.d⟩:=by unfold kX mU;split<;>rfl
def vf(g m h:Int):AE (mU g m h):=by refine⟨λl=>?_,λl=>?_,λl=>?_⟩<;>unfold mU<;>split<;>rfl
def vB(g m h:Int)(l:aa):(mU g m h l).gate=l.gate:=by unfold mU;split<;>rfl
def DG(g m h:Int)(l:aa):(mU g m h l).id=l.id:=by unfold mU;split<;>rfl
def aum{l:aa}(H:l.aB):mU g m h l=l:=by unfold mU;have:=oi H;unfold aa.aI at this;rw[this];simp
def abx(g m h:Int)(k:Nat)(l:aa):oQ k (mU g m h l)=oQ k l:=by unfold oQ;rw[(vf g m h).aI,vB]
def TC{l:aa}(H:l.aI):(mU g m h l).ay=if l.gate=g/\m<l.ay then l.ay+h else l.ay:=by
 unfold mU;unfold aa.aI at H;rw[H];by_cases c:l.gate=g/\m<l.ay
 .rw[aD c,aD (by simp[c.1,c.2])]
 rw[aC c,aC (by simpa using c)]
def Z7{F:Nat}{l:aa}(H:ek F l=false):ek F (mU g m h l)=false:=by
 rcases Dg H with hp|f
 .have j:(mU g m h l).aI:=by rw[(vf g m h).aI];exact hp
  rw[oX hp]at H;rw[oX j,vB,DG,(vf g m h).sign,(vf g m h).over];exact H
 rw[aum f];exact H
def abT{l:cX}{drop:Nat->aR->Bool}:∀d j,j+d<=I l->(∀i p,j<=i->i<j+d->drop i p=false)->uY l drop (j+d)=uY l drop j++(l.drop j).take d:=by
 intro d
 induction d with
 |zero=>intro j _ _;simp
 |succ d g=>intro j m h;obtain⟨p,hp⟩:=aT (L:=l) (k:=j+d) J;rw[show j+(d+1)=(j+d)+1 by omega,QD hp (h _ _ J J),g j J λi p H n=>h i p H J,jT,BY,hp,sn];rfl
def anM{l:cX}{a:Nat}(O:a<I l)(m:2<=I l){p q:aR}{r:cX}(e:l.drop a++l.take a=p::q::r):∃u v,(oa l λk _=>decide (k=a)||decide (k=(a+1)%I l))=u++v/\r=v++u:=by
 have j:∀i (p:aR),i≠a->i≠(a+1)%I l->(λ(k:Nat) (_:aR)=>decide (k=a)||decide (k=(a+1)%I l)) i p=false:=λi p H m=>by simp[H,m]
 have M:∀i (p:aR),i=a\/i=(a+1)%I l->(λ(k:Nat) (_:aR)=>decide (k=a)||decide (k=(a+1)%I l)) i p=true:=λi p h=>by simpa using h
 obtain⟨x,n⟩:=aT O;by_cases c:a+1<I l
 .obtain⟨y,g⟩:=aT c;have D:(a+1)%I l=a+1:=jh c;rw[D]at j M |-;have L:=abT (l:=l) (drop:=λk _=>decide (k=a)||decide (k=a+1)) a 0 J λi p _ h=>j i p J J;have B:=GY (drop:=λk _=>decide (k=a)||decide (k=a+1)) n (M a x (.inl rfl));have z:=GY (drop:=λk _=>decide (k=a)||decide (k=a+1)) g (M (a+1) y (.inr rfl));have A:=abT (l:=l) (drop:=λk _=>decide (k=a)||decide (k=a+1)) (I l-(a+2)) (a+1+1) J λi p h _=>j i p J J;refine⟨l.take a,l.drop (a+2),?_,?_⟩
  .unfold oa;rw[show a+1+1+(I l-(a+2))=I l by omega,z,B]at A;rw[lq]at L;rw[A,L];have:uY l (λk _=>decide (k=a)||decide (k=a+1)) 0=[]:=rfl;rw[this,Lm,iZ,fx (l:=l.drop (a+1+1)) (by rw[kV];omega)]
  have E:l.drop a=x::y::l.drop (a+2):=by obtain⟨H,E⟩:=cn.1 n;obtain⟨m,F⟩:=cn.1 g;rw[<-tj H,E,<-tj m,F]
  rw[E]at e;simp only[Bv,Lz]at e;exact e.2.2.symm
 have N:a+1=I l:=J;have D:(a+1)%I l=0:=by rw[N,zu]
 rw[D]at j M |-;obtain⟨y,g⟩:=aT (L:=l) (k:=0) J;have B:=GY (drop:=λk _=>decide (k=a)||decide (k=0)) g (M 0 y (.inr rfl));have z:=abT (l:=l) (drop:=λk _=>decide (k=a)||decide (k=0)) (a-1) 1 J λi p h Q=>j i p J J;have A:=GY (drop:=λk _=>decide (k=a)||decide (k=0)) n (M a x (.inl rfl));refine⟨[],(l.drop 1).take (a-1),?_,?_⟩
 .unfold oa;rw[<-N,A];rw[show 1+(a-1)=a by omega]at z;rw[z];rw[show(1:Nat)=0+1 from rfl,B];rfl
 have E:l.drop a=[x]:=by obtain⟨H,E⟩:=cn.1 n;rw[<-tj H,E,List.drop_eq_nil_of_le J]
 have F:l.take a=y::(l.drop 1).take (a-1):=by
  obtain⟨H,E⟩:=cn.1 g;have:l=y::l.drop 1:=by have:=tj H;rw[E,Lm]at this;exact this.symm
  conv=>lhs;rw[this]
  rw[show a=(a-1)+1 by omega,Fo];rfl
 rw[E,F]at e;simp only[Bv,iZ,Lz]at e;rw[rT];exact e.2.2.symm
section
variable {F:Nat} {f:ai}
def ff.ext'{s t:ff}(h:s.l=t.l)(f:s.r=t.r)(H:s.b=t.b):s=t:=by cases s;cases t;simp_all
def arE(g:cE F f){a:Nat}(ha:a<I f)(O:C9 f a=some L):L=[]\/lL F L:=by
 obtain⟨x,y,r,s,e,hx,hy,c,hp,Mq,_,_,kL⟩:=ac0 g ha;have q:=c.q;unfold C9 at O;have e1:(aQ f).getD a ⟨mw,false⟩=x.p:=by rw[dC,hx];rfl
 have e2:(aQ f).getD ((a+1)%I f) ⟨mw,false⟩=y.p:=by rw[dC,hy];rfl
 simp only[e1,e2]at O;split at O
 case isFalse=>cases O
 rename_i hc;simp only[c6,dk,jf,Bool.and_eq_false_iff,decide_eq_false_iff_not]at hc;obtain⟨lQ,lz,nW,jZ,ar⟩:=hc;cases O;have px:x.k.aI:=by show(x.k.kind==1)=true;simp[lQ]
 have py:y.k.aI:=by show(y.k.kind==1)=true;simp[lz]
 obtain⟨lS,iO,vU⟩:=hp;have ox:=(q.ok x aP).pb px;have oy:=(q.ok y aP).pb py;have aq:=q.pl x aP px;have aG:=q.pl y aP py;have gx:=((oX px).1 (q.ok x aP).bad).1.1.1;have rx:=q.rr x aP px;have ry:=q.rr y aP py;have Bi:y.k.gate=x.k.gate:=nW.symm;rw[Bi]at ry
 have CB:∀z:gW,an aa.aB (aZ (x::y::z))=an aa.aB (aZ z):=λz=>by rw[gP,gP,(zN px).1,(zN py).1];omega
 have Jz:∀z:gW,an aa.aI (aZ (x::y::z))=an aa.aI (aZ z)+2:=λz=>by rw[gP,gP,(zN px).2,(zN py).2];omega
 have az:((x.k.gate.toNat:Nat):Int)=x.k.gate:=RL gx.1;have Be:∀(z:gW) k,bU (aZ (x::y::z)) k=bU (aZ z) k+if k=x.k.gate.toNat then 2 else 0:=λz k=>by
  show an _ _=an _ _+_;rw[gP,gP];have:∀w:bl,w.k.aI->w.k.gate=x.k.gate->(if oQ k w.k=true then 1 else 0)=if k=x.k.gate.toNat then 1 else 0:=λw n ap=>by
   unfold oQ;rw[n,ap];by_cases ck:k=x.k.gate.toNat
   .subst ck;simp[az]
   have:(x.k.gate==(k:Int))=false:=by rw[sK];omega
   simp[this,ck]
  rw[this x px rfl,this y py Bi];split<;>omega
 have h2:an aa.aB (aZ (x::y::r))=an aa.aB f:=by rw[Al kL,jK]
 have h3:an aa.aI (aZ (x::y::r))=an aa.aI f:=by rw[Al kL,jK]
 have aL:I f=I r+2:=by have:=kL.length_eq;rw[Ay]at this;simpa using this.symm
 obtain⟨lo,hlo1,aaL,u7⟩:∃lo:Nat,1<=lo/\((x.k.ay=lo/\y.k.ay=lo+1)\/(x.k.ay=lo+1/\y.k.ay=lo))/\rA x.k.ay y.k.ay=lo+1:=by
  have Mp:rA x.k.ay y.k.ay-xH x.k.ay y.k.ay=1:=jZ;unfold rA xH at Mp;unfold rA;by_cases c1:x.k.ay<y.k.ay
  .rw[aD c1]at Mp |-;rw[aC J]at Mp;exact⟨x.k.ay.toNat,J,.inl ⟨J,J⟩,J⟩
  rw[aC c1]at Mp |-;by_cases c2:y.k.ay<x.k.ay
  .rw[aD c2]at Mp;exact⟨y.k.ay.toNat,J,.inr ⟨J,J⟩,J⟩
  rw[aC c2]at Mp;omega
 have ak:lo+1<=bU (aZ (x::y::r)) x.k.gate.toNat:=by rcases aaL with⟨Y,h2⟩|⟨Y,h2⟩<;>omega
 obtain⟨M,A,m1,m2,m3,m4,m5⟩:∃M A:Nat,(y.o.mp (l_ M A)=s.mp (l_ M A))/\l_ M A (gL f x.k.gate.toNat (lo+1))=l_ M A (gL f x.k.gate.toNat (lo-1))/\l_ M A (gq f x.k.gate.toNat (lo+1))=l_ M A (gq f x.k.gate.toNat (lo-1))/\
   (∀t,(t=y.o.l\/t=y.o.r)->t=M\/t=s.l\/t=s.r)/\True:=by
  have am:y.p.d= !x.p.d:=by have Y:=oy.2;rw[iO,ox.1]at Y;revert Y;cases x.p.d<;>cases y.p.d<;>simp
  have hb:y.o.b=s.b:=by rw[oy.1,am,<-lS,ox.2]
  obtain⟨p1,p2,Z,p4⟩:=aq;obtain⟨D,T,E,Q⟩:=aG;rw[Bi]at D T E Q;unfold bl.up at p1 p2 D T;unfold bl.lo at Z p4 E Q;rw[am]at D T E Q;rw[lS]at p1 p2 Z p4;rw[iO]at D T E Q;have done:∀M A,(l_ M A y.o.l=l_ M A s.l)->(l_ M A y.o.r=l_ M A s.r)->y.o.mp (l_ M A)=s.mp (l_ M A):=λM A Y h2=>ff.ext' Y h2 hb;rcases aaL with⟨r1,r2⟩|⟨r1,r2⟩
  .have n1:x.k.ay.toNat=lo:=J;have n2:y.k.ay.toNat=lo+1:=J;rw[n1]at p1 p2 Z p4;rw[n2]at D T E Q;rw[H4]at D E;cases hd:x.p.d<;>rw[hd]at p1 p2 Z p4 D T E Q<;>simp only[HG,BS,eI,if_false,if_true,jW]at p1 p2 Z p4 D T E Q
   .have ee:y.o.r=s.r:=by rw[E,p4]
    refine⟨y.o.l,s.l,done _ _ ?_ (by rw[ee]),by rw[<-T,p1],by rw[<-Q,<-Z,vv,uE],?_,trivial⟩
    .rw[vv,uE]
    rintro t (rfl|rfl)
    .exact .inl rfl
    exact .inr (.inr ee)
   have ee:y.o.l=s.l:=by rw[D,p2]
   refine⟨y.o.r,s.r,done _ _ (by rw[ee]) ?_,by rw[<-T,<-p1,vv,uE],by rw[<-Q,Z],?_,trivial⟩
   .rw[vv,uE]
   rintro t (rfl|rfl)
   .exact .inr (.inl ee)
   exact .inl rfl
  have n1:x.k.ay.toNat=lo+1:=J;have n2:y.k.ay.toNat=lo:=J;rw[n1]at p1 p2 Z p4;rw[n2]at D T E Q;rw[H4]at p1 Z;cases hd:x.p.d<;>rw[hd]at p1 p2 Z p4 D T E Q<;>simp only[HG,BS,eI,if_false,if_true,jW]at p1 p2 Z p4 D T E Q
  .have ee:y.o.l=s.l:=by rw[Q,Z]
   refine⟨y.o.r,s.r,done _ _ (by rw[ee]) ?_,by rw[<-p2,D],by rw[<-p4,<-E,vv,uE],?_,trivial⟩
   .rw[vv,uE]
   rintro t (rfl|rfl)
   .exact .inr (.inl ee)
   exact .inl rfl
  have ee:y.o.r=s.r:=by rw[T,p1]
  refine⟨y.o.l,s.l,done _ _ ?_ (by rw[ee]),by rw[<-p2,<-D,vv,uE],by rw[<-p4,E],?_,trivial⟩
  .rw[vv,uE]
  rintro t (rfl|rfl)
  .exact .inl rfl
  exact .inr (.inr ee)
 clear m5;by_cases hr:∃w∈r,w.k.aI
 case neg=>
  left;have HJ:an aa.aI (aZ r)=0:=Ho.2 λl hl Gg=>by obtain⟨w,n,rfl⟩:=dY.1 hl;exact hr ⟨w,n,Gg⟩
  have aM:an aa.aB f=0:=by have ez:=q.ev;rw[h2]at ez;rw[Jz]at h3;rcases ar with O|O<;>omega
  have:I f=2:=by have:=Ru g.ok;rw[Jz]at h3;omega
  have xM:r=[]:=vj.1 J;obtain⟨u,v,k1,k2⟩:=anM (l:=aQ f) (a:=a) (by rw[cW];exact ha) (by rw[cW];omega) (by rw[Mq];rfl);rw[cW]at k1;rw[xM]at k2;have k2:=k2.symm;simp only[lr,List.append_eq_nil_iff]at k2;unfold fQ;rw[k1,k2.1,k2.2];rfl
 right;obtain⟨w0,Bq,av⟩:=hr;have TZ:r≠[]:=List.ne_nil_of_mem Bq
 let ψ:=l_ M A
 let H:=mU x.k.gate (lo+1) (-2)
 let T':Nat->Nat->Nat:=λG k=>if G=x.k.gate.toNat then(if k<=lo-1 then ψ (gL f G k)else ψ (gL f G (k+2)))else ψ (gL f G k)
 let B':Nat->Nat->Nat:=λG k=>if G=x.k.gate.toNat then(if k<=lo-1 then ψ (gq f G k)else ψ (gq f G (k+2)))else ψ (gq f G k)
 have mC:an aa.aB (aZ (r.map (bl.mp ψ H)))=an aa.aB (aZ r):=vJ (λl=>(vf _ _ _).aB l) r;have mP:an aa.aI (aZ (r.map (bl.mp ψ H)))=an aa.aI (aZ r):=vJ (λl=>(vf _ _ _).aI l) r;have mG:∀k,bU (aZ (r.map (bl.mp ψ H))) k=bU (aZ r) k:=λk=>vJ (λl=>abx _ _ _ k l) r;have inr:∀w∈r,w∈x::y::r:=λw n=>by simp[n]
 have ad:∀w∈r,w.k.aI->w.k.gate=x.k.gate->w.k.ay<lo\/(lo:Int)+1<w.k.ay:=λw n pw gw=>by obtain⟨d1,d2⟩:=ot.1 q.rk;obtain⟨d3,_⟩:=ot.1 d2;have n1:=d1 w (by simp[n]) px pw gw.symm;have n2:=d3 w n py pw (by rw[Bi,gw]);rcases aaL with⟨r1,r2⟩|⟨r1,r2⟩<;>omega
 have rX:∀w∈r,w.k.aI->(H w.k).ay=if w.k.gate=x.k.gate/\(lo:Int)+1<w.k.ay then w.k.ay-2 else w.k.ay:=λw n pw=>by have:=TC (g:=x.k.gate) (m:=(lo:Int)+1) (h:= -2) pw;rw[show w.k.ay+ -2=w.k.ay-2 by omega]at this;exact this
 have ag:∀ac:Nat->Nat->Nat,ψ (ac x.k.gate.toNat (lo+1))=ψ (ac x.k.gate.toNat (lo-1))->∀w∈r,w.k.aI->
   (ψ (ac w.k.gate.toNat (w.k.ay.toNat-1))=(λG k=>if G=x.k.gate.toNat then(if k<=lo-1 then ψ (ac G k)else ψ (ac G (k+2)))else ψ (ac G k)) (H w.k).gate.toNat ((H w.k).ay.toNat-1))/\
   ψ (ac w.k.gate.toNat w.k.ay.toNat)=(λG k=>if G=x.k.gate.toNat then(if k<=lo-1 then ψ (ac G k)else ψ (ac G (k+2)))else ψ (ac G k)) (H w.k).gate.toNat (H w.k).ay.toNat:=by
  intro ac hf w n pw;have Gc:(H w.k).gate=w.k.gate:=vB _ _ _ _;have gw:=((oX pw).1 (q.ok w (inr w n)).bad).1.1.1;have aO:=(q.rr w (inr w n) pw).1;rw[rX w n pw,Gc];by_cases B:w.k.gate=x.k.gate
  .have ho:=ad w n pw B;simp only[B,if_true,true_and];by_cases cr:(lo:Int)+1<w.k.ay
   .rw[aD cr];constructor
    .by_cases c9:(w.k.ay-2).toNat-1<=lo-1
     .rw[aD c9];have e3:w.k.ay.toNat-1=lo+1:=J;have e4:(w.k.ay-2).toNat-1=lo-1:=J;rw[e3,e4];exact hf
     rw[aC c9];congr 2;omega
    rw[aC J];congr 2;omega
   rw[aC cr];constructor
   .rw[aD J]
   rw[aD J]
  have:¬(w.k.gate.toNat=x.k.gate.toNat):=J;simp only[B,false_and,if_false,aC this];exact⟨trivial,trivial⟩
 have j:∀ac:Nat->Nat->Nat,ψ (ac x.k.gate.toNat (lo+1))=ψ (ac x.k.gate.toNat (lo-1))->∀k,
   ((λG k=>if G=x.k.gate.toNat then(if k<=lo-1 then ψ (ac G k)else ψ (ac G (k+2)))else ψ (ac G k)) k (bU (aZ r) k)=ψ (ac k (bU (aZ (x::y::r)) k)))/\
   (λG k=>if G=x.k.gate.toNat then(if k<=lo-1 then ψ (ac G k)else ψ (ac G (k+2)))else ψ (ac G k)) k 0=ψ (ac k 0):=by
  intro ac hf k;rw[Be r k];by_cases ck:k=x.k.gate.toNat
  .subst ck;simp only[if_true];rw[aD (cG _)];refine⟨?_,rfl⟩;rw[Be r x.k.gate.toNat,aD rfl]at ak;by_cases c9:bU (aZ r) x.k.gate.toNat<=lo-1
   .rw[aD c9];have e3:bU (aZ r) x.k.gate.toNat=lo-1:=J;rw[e3,show lo-1+2=lo+1 by omega];exact hf.symm
   rw[aC c9]
  simp only[aC ck,vu];exact⟨trivial,trivial⟩
 have qn:me F ([]++r.map (bl.mp ψ H)) T' B':=by
  refine me.edit (X:=[x,y]) (r:=r) q (vf _ _ _) (λw n=>Z7 (q.ok w (inr w n)).bad) (λu R v hv cu cv e=>?_) (λu R v hv pu pv e1 e2=>?_) (λ_ O=>by cases O) List.Pairwise.nil List.Pairwise.nil (λ_ O=>by cases O) (λ_ O=>by cases O) ?_ (λ_ O=>by cases O) (λu R cu=>?_) (λ_ O=>by cases O) (λu R pu=>?_) (λ_ O=>by cases O) (λu R pu=>?_) (λk hk=>?_) ?_
  .rw[DG,DG]at e;exact e
  .have FP:u.k.gate=v.k.gate:=by rw[vB,vB]at e1;exact e1
   refine⟨FP,?_⟩;have e2:(H u.k).ay=(H v.k).ay:=e2;rw[rX u R pu,rX v hv pv]at e2;by_cases B:u.k.gate=x.k.gate
   .have o1:=ad u R pu B;have o2:=ad v hv pv (FP▸B);have cv:v.k.gate=x.k.gate:=FP▸B;simp only[B,cv,true_and]at e2;split at e2<;>split at e2<;>omega
   have cv:¬v.k.gate=x.k.gate:=FP▸B;simp only[B,cv,false_and,if_false]at e2;exact e2
  .rw[iZ,mC,<-CB r];exact q.ev
  .rw[iZ,mC,DG,<-CB r];exact q.ids u (inr u R) cu
  .rw[iZ,vB,mG];show 1<=(H u.k).ay/\(H u.k).ay<=_;rw[rX u R pu];have Y:=q.rr u (inr u R) pu;rw[Be r]at Y;have gu:=((oX pu).1 (q.ok u (inr u R)).bad).1.1.1;by_cases B:u.k.gate=x.k.gate
   .have o1:=ad u R pu B;rw[B]at Y |-;rw[aD rfl]at Y;rw[Be r,aD rfl]at ak;simp only[true_and];split<;>omega
   simp only[B,false_and,if_false];rw[aC J]at Y;exact Y
  .obtain⟨t1,t2⟩:=ag (gL f) m2 u R pu;obtain⟨b1,b2⟩:=ag (gq f) m3 u R pu;exact⟨⟨t1,b1⟩,t2,b2⟩
  .rw[iZ,mG];obtain⟨t1,t2⟩:=j (gL f) m2 k;obtain⟨b1,b2⟩:=j (gq f) m3 k;obtain⟨_,t3⟩:=j (gL f) m2 (k+1);obtain⟨_,b3⟩:=j (gq f) m3 (k+1);have:=q.gt k hk;exact⟨by rw[show T' k _=_ from t1,this.1];exact t3.symm,by rw[show B' k _=_ from b1,this.2];exact b3.symm⟩
  rw[iZ,mG];obtain⟨t1,t2⟩:=j (gL f) m2 F;obtain⟨b1,b2⟩:=j (gq f) m3 F;obtain⟨_,t3⟩:=j (gL f) m2 0;obtain⟨_,b3⟩:=j (gq f) m3 0;have:=q.gz;exact⟨by rw[show T' F _=_ from t1,this.1];exact t3.symm,by rw[show B' F _=_ from b1,this.2];exact b3.symm⟩
 have Pv:lL F (r.map λw=>kX x.k.gate (lo+1) (-2) w.p):=by
  refine me.done (X:=[x,y]) (r:=r) (A:=[]) (L:=[M,x.o.l,x.o.r]) (N:=[]) (V:=gC f) (z:=r.map (bl.mp ψ H)) qn c.nd (λt ht=>c.wit t ht) (List.Perm.refl _) ⟨s.mp ψ,?_⟩ ?_ ?_ (λt _ ht=>Un λe=>ht (by simp[e])) (λw n t ht ew Ej=>?_) qF (λt ht=>by cases ht) (λt ht=>by cases ht) (by rw[xi];exact c3 _) ?_
  .have:=Hs (m:=ψ) (h:=H) vU;rwa[show y.o.mp ψ=s.mp ψ from m1]at this
  .rw[nU];refine xx λw _=>?_;rw[Na];rfl
  .refine⟨w0.mp ψ H,?_,?_⟩
   .rw[iZ];exact dY.2 ⟨w0,Bq,rfl⟩
   show(H w0.k).aI=true;rw[(vf _ _ _).aI];exact av
  .obtain⟨v,hv,aw⟩:=TF vU TZ;simp only[dr,ic,or_false,za]at n Ej;have ag:t=s.l\/t=s.r:=by
    rcases n with rfl|rfl
    .rcases ew with ew|ew
     .exact absurd ew Ej.2.1
     exact absurd ew Ej.2.2
    rcases m4 t ew with O|O
    .exact absurd O Ej.1
    exact O
   refine⟨v.mp ψ H,by rw[iZ];exact dY.2 ⟨v,hv,rfl⟩,?_⟩;show t=ψ v.o.l\/t=ψ v.o.r;rw[aw];have:ψ t=t:=Un Ej.1;rcases ag with O|O
   .left;rw[<-O,this]
   right;rw[<-O,this]
  rw[iZ,mC,mP];have Y:=g.nw;rw[CB]at h2;rw[Jz]at h3;simp only[fU,dW];omega
 obtain⟨u,v,k1,k2⟩:=anM (l:=aQ f) (a:=a) (by rw[cW];exact ha) (by rw[cW];omega) (by rw[Mq];rfl);rw[cW]at k1;show lL F ((oa (aQ f) λk _=>decide (k=a)||decide (k=(a+1)%I f)).map (kX x.k.gate (rA x.k.ay y.k.ay) (-2)));rw[k1,u7,kP];refine lL.nN ?_;rw[<-kP,<-k2,nU];exact Pv
end
section
variable {F:Nat} {f:ai}
def adH(g:cE F f){pl:Nat}{E:aF}{m:Nat}(B:m<I f)(h:r4 F f pl E m):∃w,w∈fz (bz f) (bt f)/\(jg F f w).places.length=pl/\(I (w.filter λx=>decide (x<2*I f))=I E)/\ ∀e∈E,∃d,d∈w/\d<2*I f/\d/2=e:=by
 have j:∀Q∈dG F f,B8 Q pl E->∃w,w∈fz (bz f) (bt f)/\(jg F f w).places.length=pl/\(I (w.filter λx=>decide (x<2*I f))=I E)/\ ∀e∈E,∃d,d∈w/\d<2*I f/\d/2=e:=by intro Q y H;obtain⟨w,v,rfl⟩:=dY.1 y;unfold B8 at H;simp only[c6,dk,kr]at H;obtain⟨u,z,L⟩:=H;rw[AB]at u;refine⟨w,v,z,u,λe M=>?_⟩;have N:=L e M;unfold zd at N;obtain⟨d,n,A⟩:=At.1 (show 0<((jg F f w).bQ.countP λd=>d/2==e) by omega);rw[AB]at n;obtain⟨O,D⟩:=rY.1 n;exact⟨d,O,by simpa using D,by simpa using A⟩
 unfold r4 at h;rw[pB]at h;rcases h with h|h
 .exact j _ (Gr J) h
 exact j _ (Gr J) h
def aji{D:aF}(h:I D=2){x y:Nat}(g:x∈D)(H:y∈D)(A:x≠y){z:Nat}(f:z∈D):z=x\/z=y:=by
 match D,h with
 |[p,q],_=>simp only[dr,ic,or_false]at g H f;omega
def alY{e:Nat}(h:e<I f){l:aa}(hl:f[aJ f e]?=some l)(H:l.aB):bz f (2*e)=eZ (I f) (i_ f (aJ f e)) (gQ l):=by
 have:2*e=jF (I f) (aJ f e) true:=by unfold jF aJ;rw[aD rfl,FG h]
 rw[this,yB hl H];unfold gQ;cases(l.over==(l.sign==1))<;>rfl
def af4{e:Nat}{l:aa}(hl:f[e]?=some l)(h:l.aB):bz f (2*e+1)=eZ (I f) (i_ f e) (!gQ l):=by have:2*e+1=jF (I f) e false:=rfl;rw[this,yB hl h];unfold gQ;cases(l.over==(l.sign==1))<;>rfl
def zy{b:Bool}{x:Nat}(h:eZ (I f) v b=x):(b/\x=2*v)\/(b=false/\x=2*((v+I f-1)%I f)+1):=by
 cases b
 .exact .inr ⟨rfl,h.symm⟩
 exact .inl ⟨rfl,h.symm⟩
def El{e:Nat}(H:v<I f)(h:(v+I f-1)%I f=e):v=aJ f e:=by unfold aJ;rw[<-h,xU H]
def GL(ok:gh F f){u:Nat}{l m:aa}(hl:f[v]?=some l)(x:l.aB)(H:f[u]?=some m)(j:i_ f v=u):gQ m= !gQ l/\m.aB/\m.id=l.id:=by obtain⟨_,w,h,y,g,wo,n⟩:=qM ok.cr hl x;rw[j,H]at h;cases h;refine⟨?_,y,g⟩;unfold gQ;rw[wo,n];cases l.over<;>cases(l.sign==1)<;>rfl
def Vt(ok:gh F f){l:aa}(hl:f[v]?=some l)(H:l.aB):i_ f v<I f:=by obtain⟨_,w,h,_⟩:=qM ok.cr hl H;exact(cn.1 h).1
def aBz(g:cE F f){a b:Nat}(ha:a<I f)(hb:b<I f){L X R Y:aa}(M:f[a]?=some L)(A:f[aJ f a]?=some X)(B:f[b]?=some R)(H:f[aJ f b]?=some Y)
  (cx:L.aB) (cy:X.aB) (O:R.aB) (N:Y.aB) (nM:L.id≠X.id) (Bo:R.id≠Y.id) (fV:a≠b) (h:r4 F f 0 [a,b] a):gQ L= !gQ X:=by
 have ok:=g.ok;obtain⟨w,hw,_,Q,hE⟩:=adH g ha h;obtain⟨D,zK,xE,Cl⟩:=hE a aP;obtain⟨j,AZ,yA,Cm⟩:=hE b aP;have aO:D≠j:=J;have y:∀d,d∈w->d<2*I f->d∈w.filter λx=>decide (x<2*I f):=λd h1 Z=>rY.2 ⟨h1,by simpa using Z⟩;have two:∀d,d∈w->d<2*I f->d=D\/d=j:=λd h1 Z=>aji Q (y D zK xE) (y j AZ yA) aO (y d h1 Z);have T:∀d,d∈w->bz f d∈w:=λd hd=>w8 (qS ok) hw hd;have str:∀(v:Nat) (b:Bool),v<I f->eZ (I f) v b<2*I f:=λv b H=>by have:=Bj H (!b);rw[<-u9]at this;have:=wT this;rwa[w_]at this
 have oy:=Vt ok A cy;have ox:=Vt ok M cx;have ou:=Vt ok B O;have ov:=Vt ok H N
 have na:(D=2*a/\bz f D=eZ (I f) (i_ f (aJ f a)) (gQ X))\/(D=2*a+1/\bz f D=eZ (I f) (i_ f a) (!gQ L)):=by
  rcases tD D with c|c
  .have:D=2*a:=J;exact .inl ⟨this,by rw[this];exact alY ha A cy⟩
  have:D=2*a+1:=J;exact .inr ⟨this,by rw[this];exact af4 M cx⟩
 have nb:(j=2*b/\bz f j=eZ (I f) (i_ f (aJ f b)) (gQ Y))\/(j=2*b+1/\bz f j=eZ (I f) (i_ f b) (!gQ R)):=by
  rcases tD j with c|c
  .have:j=2*b:=J;exact .inl ⟨this,by rw[this];exact alY hb H N⟩
  have:j=2*b+1:=J;exact .inr ⟨this,by rw[this];exact af4 B O⟩
 have ta:bz f D=D\/bz f D=j:=two _ (T _ zK) (by rcases na with⟨_,e⟩|⟨_,e⟩<;>rw[e]<;>exact str _ _ (by assumption));have tb:bz f j=D\/bz f j=j:=two _ (T _ AZ) (by rcases nb with⟨_,e⟩|⟨_,e⟩<;>rw[e]<;>exact str _ _ (by assumption));have ad:bz f D=j:=by
  rcases ta with e|e
  .exfalso;rcases na with⟨u,E⟩|⟨u,E⟩
   .rw[e]at E;rcases zy E.symm with⟨_,m⟩|⟨_,m⟩
    .exact nM (GL ok A cy M J).2.2
    omega
   rw[e]at E;rcases zy E.symm with⟨_,m⟩|⟨_,m⟩
   .omega
   exact nM (GL ok M cx A (El ox J)).2.2.symm
  exact e
 have ac:bz f j=D:=by
  rcases tb with e|e
  .exact e
  exfalso;rcases nb with⟨u,E⟩|⟨u,E⟩
  .rw[e]at E;rcases zy E.symm with⟨_,m⟩|⟨_,m⟩
   .exact Bo (GL ok H N B J).2.2
   omega
  rw[e]at E;rcases zy E.symm with⟨_,m⟩|⟨_,m⟩
  .omega
  exact Bo (GL ok B O H (El ou J)).2.2.symm
 rcases na with⟨ea,u⟩|⟨ea,u⟩<;>rcases nb with⟨eb,E⟩|⟨eb,E⟩<;>rw[ad]at u<;>rw[ac]at E
 .rcases zy u.symm with⟨g1,m⟩|⟨g1,m⟩<;>rcases zy E.symm with⟨n,z⟩|⟨n,z⟩<;>try omega
  have:=(GL ok H N M J).1;rw[this,g1,n]
 .rcases zy u.symm with⟨g1,m⟩|⟨g1,m⟩<;>rcases zy E.symm with⟨n,z⟩|⟨n,z⟩<;>try omega
  have:=(GL ok B O M J).1;rw[this,g1,n];rfl
 .rcases zy u.symm with⟨g1,m⟩|⟨g1,m⟩<;>rcases zy E.symm with⟨n,z⟩|⟨n,z⟩<;>try omega
  have:=(GL ok H N A (El ov J)).1;rw[this,n];revert g1;cases gQ L<;>simp
 rcases zy u.symm with⟨g1,m⟩|⟨g1,m⟩<;>rcases zy E.symm with⟨n,z⟩|⟨n,z⟩<;>try omega
 have:=(GL ok B O A (El ou J)).1;rw[this];revert g1 n;cases gQ L<;>cases gQ R<;>simp
def U_{x p w:bl}(m:lG x p)(H:lG x w)(n:lG p w)(f:x.k.aB)(h:p.k.aB)(j:w.k.aB)(E:x.k.id=p.k.id):w.k.id≠x.k.id:=by intro g;have a:=(m f h E).ov;have b:=(H f j g.symm).ov;have d:=(n h j (by rw[<-E,g])).ov;rw[b]at a;rw[d]at a;revert a;cases w.k.over<;>simp
def ana{α:Type}{z:List α}{a:Nat}(f:a<I z)(H:j<I z):(z.drop a++z.take a)[j]?=z[(a+j)%I z]? :=by
 by_cases h:a+j<I z
 .rw[zl (by rw[kV];omega),BY,jh h]
 rw[wY (by rw[kV];omega),kV,nE,aD J,aaw J,jh J];congr 1;omega
def arV{α:Type}{r:List α}{u v:α}(g:r[j]?=some u)(h:r[j+1]?=some v):r=r.take j++u::v::r.drop (j+2):=by
 obtain⟨f,E⟩:=cn.1 g;obtain⟨H,m⟩:=cn.1 h;have:r.drop j=u::v::r.drop (j+2):=by rw[<-tj f,E,<-tj H,m]
 rw[<-this,nu]
end
def V_{p q w:Int}{l:aa}(H:l.aB)(h:l.id=w):(j_ [p,q] l).id=w-(if p<w then 1 else 0)-(if q<w then 1 else 0):=by rw[agD H,h];by_cases g:p<w<;>by_cases f:q<w<;>simp[g,f]<;>omega
section
variable {F:Nat} {f:ai}
def aqr(g:cE F f){a b:Nat}(ha:a<I f)(hb:b<I f)(H:Ct F f a b=some L):lL F L:=by
 obtain⟨x,y,r0,s,e,hx,hy,c,hp,Mq,ad,ak,kL⟩:=ac0 g ha;have q:=c.q;have s8:=Ay f;unfold Ct at H;split at H
 case isFalse=>cases H
 rename_i hc;simp only[c6,pB,dk,jf,sK]at hc;obtain⟨a5,aO,ar,ju,ni,Mc⟩:=hc;have pa:aV f a=x.p:=mu hx;have pb:aV f (aJ f a)=y.p:=mu hy;cases H;have bi:aJ f b<I f:=fk _ J;have bh:aJ f a<I f:=fk _ J;obtain⟨u,My⟩:=aT (L:=eU f) (k:=b) J;obtain⟨v,Qm⟩:=aT (L:=eU f) (k:=aJ f b) J;have pc:aV f b=u.p:=mu (by rw[<-xV,ig,My];rfl);have pd:aV f (aJ f b)=v.p:=mu (by rw[<-xV,ig,Qm];rfl);rw[pa,pb]at aO;rw[pa,pb,pc,pd]at ar
 have kinds:x.k.aB/\y.k.aB/\u.k.aB/\v.k.aB/\x.k.over=y.k.over/\u.k.over=v.k.over/\x.k.over≠u.k.over:=by
  have bo:∀e ov,kR f e ov->(aV f e).l.aB/\(aV f (aJ f e)).l.aB/\(aV f e).l.over=ov/\(aV f (aJ f e)).l.over=ov:=λe ov H=>by unfold kR at H;simp only[c6,dk]at H;obtain⟨Q,B,h3,h4⟩:=H;exact⟨by unfold aa.aB;rw[Q];rfl,by unfold aa.aB;rw[B];rfl,h3,h4⟩
  rcases a5 with⟨Q,B⟩|⟨Q,B⟩<;>obtain⟨A,D,n,m⟩:=bo _ _ Q<;>obtain⟨Y,T,O,R⟩:=bo _ _ B
  all_goals
   rw[pa]at A n;rw[pb]at D m;rw[pc]at Y O;rw[pd]at T R;refine⟨A,D,Y,T,?_,?_,?_⟩
   .show x.p.l.over=y.p.l.over;rw[n,m]
   .show u.p.l.over=v.p.l.over;rw[O,R]
   show x.p.l.over≠u.p.l.over;rw[n,O];decide
 obtain⟨cx,cy,cu,cv,bc,a8,ag⟩:=kinds;have nM:x.k.id≠y.k.id:=aO;have PJ:(u.k.id=x.k.id/\v.k.id=y.k.id)\/(u.k.id=y.k.id/\v.k.id=x.k.id):=ar;have Bo:u.k.id≠v.k.id:=by
  rcases PJ with⟨Q,B⟩|⟨Q,B⟩
  .rw[Q,B];exact nM
  rw[Q,B];exact nM.symm
 have fV:a≠b:=by
  rintro rfl
  rw[ad]at My;cases My;exact ag rfl
 have lx:f[a]?=some x.k:=by have:=Df ad;rwa[jK]at this
 have ly:f[aJ f a]?=some y.k:=by have:=Df ak;rwa[jK]at this
 have lu:f[b]?=some u.k:=by have:=Df My;rwa[jK]at this
 have lv:f[aJ f b]?=some v.k:=by have:=Df Qm;rwa[jK]at this
 have hg:=aBz g ha hb lx ly lu lv cx cy cu cv nM Bo fV Mc
 obtain⟨j,hj1,pN,Aa⟩:∃j,j+3<I f/\(a+(j+2))%I f=b/\(a+(j+3))%I f=aJ f b:=by
  have TU:aJ f a≠b:=by intro e;rw[e,My]at ak;cases ak;exact ag bc
  have am:aJ f b≠a:=by intro e;rw[e,ad]at Qm;cases Qm;exact ag a8.symm
  unfold aJ at TU am |-;by_cases Z:a<b
  .have e1:(a+1)%I f=a+1:=jh J;rw[e1]at TU;have B:b≠a+1:=λH=>TU H.symm;have h3:¬(b+1=I f/\a=0):=λ⟨h3,h4⟩=>am (by rw[h3,zu,h4]);refine⟨b-a-2,J,?_,?_⟩
   .rw[show a+(b-a-2+2)=b by omega,jh hb]
   rw[show a+(b-a-2+3)=b+1 by omega]
  have e1:(b+1)%I f=b+1:=jh J;rw[e1]at am;have h3:¬(a+1=I f/\b=0):=λ⟨h3,h4⟩=>TU (by rw[h3,zu,h4]);refine⟨b+I f-a-2,J,?_,?_⟩
  .rw[show a+(b+I f-a-2+2)=b+I f by omega,v8,jh hb]
  rw[show a+(b+I f-a-2+3)=b+1+I f by omega,v8]
 have az:r0[j]?=some u:=by have:=ana (z:=eU f) (a:=a) (j:=j+2) J J;rw[e,s8,pN,My]at this;exact this
 have Bm:r0[j+1]?=some v:=by have:=ana (z:=eU f) (a:=a) (j:=j+3) J J;rw[e,s8,Aa,Qm]at this;exact this
 have rO:=arV az Bm;obtain⟨Z,c2,Ie,ar8,TD⟩:∃Z c2,r0=Z++u::v::c2/\I Z=j/\I c2+j+4=I f:=by
  refine⟨_,_,rO,?_,?_⟩
  .have:=(cn.1 az).1;rw[gX];omega
  have Q:=(cn.1 Bm).1;have B:=kL.length_eq;rw[s8]at B;simp only[dW]at B;rw[kV];omega
 subst Ie
 obtain⟨lS,iO,vU⟩:=hp;obtain⟨s2,qC,Da,Bp,pZ⟩:=zh.1 vU;have bf:j≠0:=by
  rintro rfl
  exact ju pN
 have bb:c2≠[]:=by
  rintro rfl
  simp only[fU]at TD;refine ni ?_;rw[<-pN,Nat.mod_add_mod,show a+(j+2)+2=a+I f by omega,v8,jh ha]
 have lQ:Z≠[]:=by rintro rfl;simp at ar8;omega
 have q4:me F ([x,y,u,v]++(Z++c2)) (gL f) (gq f):=by refine q.perm ?_;refine List.Perm.cons x (List.Perm.cons y ?_);exact Ha.trans (List.Perm.cons u Ha)
 obtain⟨w1,q5⟩:=ot.1 q4.cr;obtain⟨w2,q6⟩:=ot.1 q5;obtain⟨w3,q7⟩:=ot.1 q6;obtain⟨w4,q8⟩:=ot.1 q7;have aG:lG x u:=w1 u aP;have av:lG x v:=w1 v aP;have aw:lG y u:=w2 u aP;have aL:lG y v:=w2 v aP;have VF:∀w∈Z++c2,w.k.aB->w.k.id≠x.k.id/\w.k.id≠y.k.id:=λw hw cw=>by
  have A:lG x w:=w1 w (Aw [y,u,v] hw);have D:lG y w:=w2 w (Aw [u,v] hw);have n:lG u w:=w3 w (Aw [v] hw);have m:lG v w:=w4 w hw;rcases PJ with⟨Q,B⟩|⟨Q,B⟩
  .exact⟨U_ aG A n cx cu cw Q.symm,U_ aL D m cy cv cw B.symm⟩
  exact⟨U_ av A m cx cv cw B.symm,U_ aw D n cy cu cw Q.symm⟩
 have bx:=(q4.ok x aP).cb cx;have h:=(q4.ok y aP).cb cy;have bu:=(q4.ok u aP).cb cu;have bv:=(q4.ok v aP).cb cv;rw[lS]at bx;rw[iO]at h;rw[Bp]at bv
 obtain⟨M,E,bg,m1,m2,m3⟩:∃M E bg:Nat,y.o.mp (l_ M E)=s.mp (l_ M E)/\v.o.mp (l_ M E)=s2.mp (l_ M E)/\
   (∀t,(t=x.o.l\/t=x.o.r)\/(t=y.o.l\/t=y.o.r)\/(t=u.o.l\/t=u.o.r)\/(t=v.o.l\/t=v.o.r)->t=M\/t=bg\/(t=s.l\/t=s.r)\/(t=s2.l\/t=s2.r)):=by
  have ba:y.o.b=s.b:=by rw[<-h,<-bx]
  have aW:v.o.b=s2.b:=by rw[<-bv,<-bu,Da]
  have fin:∀M E,l_ M E y.o.l=l_ M E s.l->l_ M E y.o.r=l_ M E s.r->l_ M E v.o.l=l_ M E s2.l->l_ M E v.o.r=l_ M E s2.r->y.o.mp (l_ M E)=s.mp (l_ M E)/\v.o.mp (l_ M E)=s2.mp (l_ M E):=λM E k1 k2 k3 k4=>⟨ff.ext' k1 k2 ba,ff.ext' k3 k4 aW⟩;rcases PJ with⟨Q,B⟩|⟨Q,B⟩
  .have p1:=(aG cx cu Q.symm).x4;have p2:=(aL cy cv B.symm).x4;rw[lS,Da]at p1;rw[iO,Bp]at p2;obtain⟨A,D,n,m⟩:=p1;obtain⟨Y,T,O,R⟩:=p2;cases CN:gQ x.k
   .have Bi:gQ y.k:=by revert hg;rw[CN];cases gQ y.k<;>simp
    rw[CN]at A D n m;rw[Bi]at Y T O R;simp only[eI,if_false,if_true]at A D n m Y T O R;refine⟨y.o.l,s.l,x.o.r,?_⟩;have ap:=fin y.o.l s.l (by rw[vv,uE]) (by rw[T,m]) (by rw[<-Y,n]) (by rw[R,<-A,vv,uE]);refine⟨ap.1,ap.2,?_⟩;rintro t ((rfl|rfl)|(rfl|rfl)|(rfl|rfl)|(rfl|rfl))
    .exact .inr (.inr (.inr (.inl n.symm)))
    .exact .inr (.inl rfl)
    .exact .inl rfl
    .exact .inr (.inr (.inl (.inr (T.trans m))))
    .exact .inr (.inl D.symm)
    .exact .inr (.inr (.inl (.inr m)))
    .exact .inr (.inr (.inr (.inl (by rw[<-Y,n]))))
    exact .inl R
   have Bi:gQ y.k=false:=by revert hg;rw[CN];cases gQ y.k<;>simp
   rw[CN]at A D n m;rw[Bi]at Y T O R;simp only[eI,if_false,if_true]at A D n m Y T O R;refine⟨y.o.r,s.r,x.o.l,?_⟩;have ap:=fin y.o.r s.r (by rw[<-O,A]) (by rw[vv,uE]) (by rw[n,<-T,vv,uE]) (by rw[R,D]);refine⟨ap.1,ap.2,?_⟩;rintro t ((rfl|rfl)|(rfl|rfl)|(rfl|rfl)|(rfl|rfl))
   .exact .inr (.inl rfl)
   .exact .inr (.inr (.inr (.inr D)))
   .exact .inr (.inr (.inl (.inl (by rw[<-O,A]))))
   .exact .inl rfl
   .exact .inr (.inr (.inl (.inl A.symm)))
   .exact .inr (.inl m)
   .exact .inl T.symm
   exact .inr (.inr (.inr (.inr (R.trans D))))
  have p1:=(av cx cv B.symm).x4;have p2:=(aw cy cu Q.symm).x4;rw[lS,Bp]at p1;rw[iO,Da]at p2;obtain⟨A,D,n,m⟩:=p1;obtain⟨Y,T,O,R⟩:=p2;cases CN:gQ x.k
  .have Bi:gQ y.k:=by revert hg;rw[CN];cases gQ y.k<;>simp
   rw[CN]at A D n m;rw[Bi]at Y T O R;simp only[eI,if_false,if_true]at A D n m Y T O R;refine⟨y.o.r,s.r,x.o.l,?_⟩;have ap:=fin y.o.r s.r (by rw[A,<-R]) (by rw[vv,uE]) (by rw[<-D,O]) (by rw[m,<-T,vv,uE]);refine⟨ap.1,ap.2,?_⟩;rintro t ((rfl|rfl)|(rfl|rfl)|(rfl|rfl)|(rfl|rfl))
   .exact .inr (.inl rfl)
   .exact .inr (.inr (.inr (.inl O.symm)))
   .exact .inr (.inr (.inl (.inl (by rw[A,<-R]))))
   .exact .inl rfl
   .exact .inr (.inl Y.symm)
   .exact .inr (.inr (.inl (.inl (by rw[A]))))
   .exact .inr (.inr (.inr (.inl (by rw[<-D,O]))))
   exact .inr (.inr (.inl (.inr m)))
  have Bi:gQ y.k=false:=by revert hg;rw[CN];cases gQ y.k<;>simp
  rw[CN]at A D n m;rw[Bi]at Y T O R;simp only[eI,if_false,if_true]at A D n m Y T O R;refine⟨y.o.l,s.l,x.o.r,?_⟩;have ap:=fin y.o.l s.l (by rw[vv,uE]) (by rw[T,n]) (by rw[<-A,O,vv,uE]) (by rw[m,Y]);refine⟨ap.1,ap.2,?_⟩;rintro t ((rfl|rfl)|(rfl|rfl)|(rfl|rfl)|(rfl|rfl))
  .exact .inr (.inr (.inr (.inr Y)))
  .exact .inr (.inl rfl)
  .exact .inl rfl
  .exact .inr (.inr (.inl (.inr (by rw[T,n]))))
  .exact .inr (.inr (.inl (.inr n)))
  .exact .inr (.inl R)
  .exact .inr (.inr (.inl (.inl A.symm)))
  exact .inr (.inr (.inr (.inr (m.trans Y))))
 have CB:∀z:gW,an aa.aB (aZ ([x,y,u,v]++z))=an aa.aB (aZ z)+4:=λz=>by rw[td,gP,gP,gP,gP,te,(qc cx).1,(qc cy).1,(qc cu).1,(qc cv).1];omega
 have Jz:∀z:gW,an aa.aI (aZ ([x,y,u,v]++z))=an aa.aI (aZ z):=λz=>by rw[td,gP,gP,gP,gP,te,(qc cx).2,(qc cy).2,(qc cu).2,(qc cv).2];omega
 have Be:∀(z:gW) k,bU (aZ ([x,y,u,v]++z)) k=bU (aZ z) k:=λz k=>by show an _ _=an _ _;rw[td,gP,gP,gP,gP,te,AN k cx,AN k cy,AN k cu,AN k cv];simp
 have ac:([x,y,u,v]++(Z++c2)).Perm (eU f):=by refine List.Perm.trans (List.Perm.symm ?_) kL;refine List.Perm.cons x (List.Perm.cons y ?_);exact Ha.trans (List.Perm.cons u Ha)
 have B:an aa.aB (aZ ([x,y,u,v]++(Z++c2)))=an aa.aB f:=by rw[Al ac,jK]
 have h3:an aa.aI (aZ ([x,y,u,v]++(Z++c2)))=an aa.aI f:=by rw[Al ac,jK]
 have ez:=q4.ev
 let ψ:=l_ M E
 let hL:=j_ [x.k.id,y.k.id]
 let r:=Z++c2
 have mC:an aa.aB (aZ (r.map (bl.mp ψ hL)))=an aa.aB (aZ r):=vJ (λl=>(Cb _).aB l) r;have mP:an aa.aI (aZ (r.map (bl.mp ψ hL)))=an aa.aI (aZ r):=vJ (λl=>(Cb _).aI l) r;have mG:∀k,bU (aZ (r.map (bl.mp ψ hL))) k=bU (aZ r) k:=λk=>vJ (λl=>afz _ k l) r;have Mi:∀w∈[x,y,u,v]++r,w.k.aB->1<=w.k.id/\w.k.id<=((an aa.aB (aZ r)/2:Nat):Int)+2:=λw hw hc=>by have:=q4.ids w hw hc;rw[CB]at this;show 1<=w.k.id/\w.k.id<=((an aa.aB (aZ (Z++c2))/2:Nat):Int)+2;omega
 have bk:=Mi x aP cx;have be:=Mi y aP cy;have inr:∀w∈r,w∈[x,y,u,v]++r:=λw hw=>Aw _ hw;have qn:me F ([]++r.map (bl.mp ψ hL)) (λG k=>ψ (gL f G k)) (λG k=>ψ (gq f G k)):=by
  refine me.edit (X:=[x,y,u,v]) (r:=r) q4 (Cb _) (λw hw=>anu (q4.ok w (inr w hw)).bad) (λp hp o ho cp co e=>?_) (λp hp o ho pp po e1 e2=>?_) (λ_ H=>by cases H) List.Pairwise.nil List.Pairwise.nil (λ_ H=>by cases H) (λ_ H=>by cases H) ?_ (λ_ H=>by cases H) (λp hp cp=>?_) (λ_ H=>by cases H) (λp hp pp=>?_) (λ_ H=>by cases H) (λp hp pp=>?_) (λk hk=>?_) ?_
  .obtain⟨n1,n2⟩:=VF p hp cp;obtain⟨n3,n4⟩:=VF o ho co;rw[V_ cp rfl,V_ co rfl]at e;split at e<;>split at e<;>split at e<;>split at e<;>omega
  .have e1:(j_ [x.k.id,y.k.id] p.k).gate=(j_ [x.k.id,y.k.id] o.k).gate:=e1;have e2:(j_ [x.k.id,y.k.id] p.k).ay=(j_ [x.k.id,y.k.id] o.k).ay:=e2;rw[Ci pp,Ci po]at e1 e2;exact⟨e1,e2⟩
  .rw[iZ,mC];rw[CB]at ez;show an aa.aB (aZ (Z++c2))%2=0;omega
  .rw[iZ,mC];show 1<=(j_ [x.k.id,y.k.id] p.k).id/\(j_ [x.k.id,y.k.id] p.k).id<=_;rw[V_ cp rfl];have Q:=Mi p (inr p hp) cp;obtain⟨n1,n2⟩:=VF p hp cp;have bd:=nM;split<;>split<;>omega
  .rw[iZ,mG];show 1<=(j_ [x.k.id,y.k.id] p.k).ay/\(j_ [x.k.id,y.k.id] p.k).ay<=((bU (aZ r) (j_ [x.k.id,y.k.id] p.k).gate.toNat:Nat):Int);rw[Ci pp,<-Be r];exact q4.rr p (inr p hp) pp
  .show(ψ _=ψ (gL f (j_ [x.k.id,y.k.id] p.k).gate.toNat ((j_ [x.k.id,y.k.id] p.k).ay.toNat-1))/\ψ _=ψ (gq f (j_ [x.k.id,y.k.id] p.k).gate.toNat ((j_ [x.k.id,y.k.id] p.k).ay.toNat-1)))/\ψ _=ψ (gL f (j_ [x.k.id,y.k.id] p.k).gate.toNat (j_ [x.k.id,y.k.id] p.k).ay.toNat)/\ψ _=ψ (gq f (j_ [x.k.id,y.k.id] p.k).gate.toNat (j_ [x.k.id,y.k.id] p.k).ay.toNat);rw[Ci pp];exact⟨⟨rfl,rfl⟩,rfl,rfl⟩
  .rw[iZ,mG,<-Be r];obtain⟨t1,t2⟩:=q4.gt k hk;exact⟨congrArg ψ t1,congrArg ψ t2⟩
  rw[iZ,mG,<-Be r];obtain⟨t1,t2⟩:=q4.gz;exact⟨congrArg ψ t1,congrArg ψ t2⟩
 have Pv:lL F (r.map λw=>qh [x.k.id,y.k.id] w.p):=by
  refine me.done (X:=[x,y,u,v]) (r:=r) (A:=[]) (L:=[M,bg]) (N:=[]) (V:=gC f) (z:=r.map (bl.mp ψ hL)) qn Cq (λt ht=>?_) (List.Perm.refl _) ⟨s.mp ψ,?_⟩ ?_ ?_ (λt _ ht=>Un λe=>ht (by simp[e])) (λw hw t ht ew Ej=>?_) qF (λt ht=>by cases ht) (λt ht=>by cases ht) (by rw[xi];exact c3 _) ?_
  .obtain⟨w,hw,ew⟩:=c.wit t ht;refine⟨w,?_,ew⟩;have:w∈eU f:=kL.mem_iff.1 hw;exact ac.mem_iff.2 this
  .have e1:=Hs (m:=ψ) (h:=hL) qC;have e2:=Hs (m:=ψ) (h:=hL) pZ;rw[show y.o.mp ψ=s.mp ψ from m1]at e1;rw[show v.o.mp ψ=s2.mp ψ from m2]at e2;show jj (s.mp ψ) ((Z++c2).map (bl.mp ψ hL)) (s.mp ψ);rw[kP];exact zh.2 ⟨_,e1,e2⟩
  .rw[nU];refine xx λw _=>?_;rw[age];rfl
  .obtain⟨w,hw,s7⟩:=c.one;have JZ:w∈[x,y,u,v]++r:=ac.mem_iff.2 (kL.mem_iff.1 hw);rcases iW.1 JZ with H|H
   .exfalso;simp only[dr,ic,or_false]at H;rcases H with rfl|rfl|rfl|rfl
    .rw[oi cx]at s7;cases s7
    .rw[oi cy]at s7;cases s7
    .rw[oi cu]at s7;cases s7
    rw[oi cv]at s7;cases s7
   refine⟨w.mp ψ hL,by rw[iZ];exact dY.2 ⟨w,H,rfl⟩,?_⟩;show(j_ [x.k.id,y.k.id] w.k).aI=true;rw[(Cb _).aI];exact s7
  .simp only[dr,ic,or_false,za]at hw Ej;have a9:=m3 t (by
    rcases hw with rfl|rfl|rfl|rfl
    .exact .inl ew
    .exact .inr (.inl ew)
    .exact .inr (.inr (.inl ew))
    exact .inr (.inr (.inr ew)))
   have aq:ψ t=t:=Un Ej.1;have dP:∀d∈r,(t=d.o.l\/t=d.o.r)->∃y'∈[]++r.map (bl.mp ψ hL),t=y'.o.l\/t=y'.o.r:=λd hd H=>by
    refine⟨d.mp ψ hL,by rw[iZ];exact dY.2 ⟨d,hd,rfl⟩,?_⟩;rcases H with H|H
    .left;show t=ψ d.o.l;rw[<-H,aq]
    right;show t=ψ d.o.r;rw[<-H,aq]
   rcases a9 with H|H|H|H
   .exact absurd H Ej.1
   .exact absurd H Ej.2
   .obtain⟨d,hd,ed⟩:=TF pZ bb;exact dP d (Aw _ hd) (by rw[ed];exact H)
   obtain⟨d,hd,ed⟩:=TF qC lQ;exact dP d (Qu _ hd) (by rw[ed];exact H)
  rw[iZ,mC,mP];have Q:=g.nw;rw[CB]at B;rw[Jz]at h3;show an aa.aI (aZ (Z++c2))+an aa.aB (aZ (Z++c2))/2+1+2<=_;simp only[fU];omega
 rw[pa,pb];show lL F ((oa (aQ f) (rW [x.k.id,y.k.id])).map (qh [x.k.id,y.k.id]));rw[akQ (l:=aQ f) (drop:=rW [x.k.id,y.k.id]) (d:=λp=>(p.l.kind==2)&&[x.k.id,y.k.id].contains p.l.id) λ_ _=>rfl];refine ag5 (a:=a) ?_;rw[Mq];have a0:(x.p.l.kind==2):=cx;have PO:(y.p.l.kind==2):=cy;have a6:(u.p.l.kind==2):=cu;have a7:(v.p.l.kind==2):=cv;have aM:∀d∈r,(λp:aR=> !((p.l.kind==2)&&[x.k.id,y.k.id].contains p.l.id)) d.p:=λd hd=>by
  show(!((d.p.l.kind==2)&&_))=true;cases hk:(d.p.l.kind==2)
  .rfl
  obtain⟨n1,n2⟩:=VF d hd hk;simp[n1,n2]
 have TM:∀(d:bl) (t:cX),(d.p.l.kind==2)->(d.k.id=x.k.id\/d.k.id=y.k.id)->(d.p::t).filter (λp=> !((p.l.kind==2)&&[x.k.id,y.k.id].contains p.l.id))=t.filter (λp=> !((p.l.kind==2)&&[x.k.id,y.k.id].contains p.l.id)):=λd t hd H=>by
  refine VA ?_;rcases H with H|H
  .have H:d.p.l.id=x.k.id:=H;simp[H,hd]
  have H:d.p.l.id=y.k.id:=H;simp[H,hd]
 have hf:((x::y::(Z++u::v::c2)).map bl.p).filter (λp=> !((p.l.kind==2)&&[x.k.id,y.k.id].contains p.l.id))=r.map bl.p:=by
  rw[eJ,eJ,TM x _ a0 (.inl rfl),TM y _ PO (.inr rfl),kP,Js,eJ,eJ,
   TM u _ a6 (PJ.imp (λH=>H.1) λH=>H.1),TM v _ a7 (PJ.symm.imp (λH=>H.2) λH=>H.2)]
  rw[<-Js,<-kP];refine ams λp hp=>?_;obtain⟨d,hd,rfl⟩:=dY.1 hp;exact aM d hd
 rw[hf,nU];exact Pv
end
def Nu{α:Type}{z:List α}{a:Nat}{x:α}(h:z[a]?=some x):z=z.take a++x::z.drop (a+1):=by
 obtain⟨hl,e⟩:=cn.1 h;have:z.drop a=x::z.drop (a+1):=by rw[<-e,tj]
 rw[<-this,nu]
def aqm{ψ:Nat->Nat}{h:aa->aa}{Z z:gW}{x X:bl}{s:ff}(hp:jj s (Z++x::z) s)(n:X.i=x.i.mp ψ)(H:X.o=x.o.mp ψ):jj (s.mp ψ) (Z.map (bl.mp ψ h)++X::z.map (bl.mp ψ h)) (s.mp ψ):=by obtain⟨m,g,f,j⟩:=zh.1 hp;exact zh.2 ⟨m.mp ψ,Hs g,by rw[n,f],by rw[H];exact Hs j⟩
def VK{w:bl}{G:Nat}(h:w.k.aI)(H:w.k.gate=(G:Int))(k:Nat):(if oQ k w.k=true then 1 else 0)=if k=G then 1 else 0:=by
 unfold oQ;rw[h,H];by_cases f:k=G
 .subst f;simp
 have:((G:Int)==(k:Int))=false:=by rw[sK];omega
 simp[this,f]
def am4{l:cX}{f:aR->aR}{i:Nat}{p q:aR}(hp:l[i]?=some p):(l.map f).set i q=(l.take i).map f++q::(l.drop (i+1)).map f:=by
 have hl:=(cn.1 hp).1
 conv=>lhs;rw[Nu hp]
 rw[kP,eJ,IZ _ _ (by rw[cY,gX];omega),cY,gX,vm J,zB];rfl
section
variable {F:Nat} {f:ai}
def amm(g:cE F f){a:Nat}{x:bl}(hx:(eU f)[a]?=some x)(M:x.k.aI){G j:Nat}(hG:x.k.gate=(G:Int))(Jw:j<=F)(aO:j≠G){A R:Int}{T' B':Nat->Nat->Nat}
  (nK:∀w∈(eU f).take a++(eU f).drop (a+1),w.k.aI->(1<=(mU A m h w.k).ay/\(mU A m h w.k).ay<=((bU f w.k.gate.toNat:Nat):Int)+(if w.k.gate.toNat=j then 1 else 0)-(if w.k.gate.toNat=G then 1 else 0))/\(w.k.gate=(j:Int)->(mU A m h w.k).ay≠R))
  (ad:∀u∈(eU f).take a++(eU f).drop (a+1),∀v∈(eU f).take a++(eU f).drop (a+1),u.k.aI->v.k.aI->u.k.gate=v.k.gate->(mU A m h u.k).ay=(mU A m h v.k).ay->u.k.ay=v.k.ay)
  (jZ:1<=R/\R<=(bU f j:Int)+1)
  (hT:∀ak B:Nat->Nat->Nat,(ak=gL f/\B=T')\/(ak=gq f/\B=B')->(ak x.k.gate.toNat (x.k.ay.toNat-1)=B j (R.toNat-1)/\ak x.k.gate.toNat x.k.ay.toNat=B j R.toNat)/\
   (∀w∈(eU f).take a++(eU f).drop (a+1),w.k.aI->ak w.k.gate.toNat (w.k.ay.toNat-1)=B w.k.gate.toNat ((mU A m h w.k).ay.toNat-1)/\ak w.k.gate.toNat w.k.ay.toNat=B w.k.gate.toNat (mU A m h w.k).ay.toNat)/\
   (∀k,k<F->B k (bU f k+(if k=j then 1 else 0)-(if k=G then 1 else 0))=B (k+1) 0)/\B F (bU f F+(if F=j then 1 else 0)-(if F=G then 1 else 0))=B 0 0):
  lL F (((aQ f).take a).map (kX A m h)++⟨{x.k with gate:=(j:Int),ay:=R},x.p.d⟩::((aQ f).drop (a+1)).map (kX A m h)):=by
 have c:=g.cz;have hz:=Nu hx
 let Z:=(eU f).take a
 let D:=(eU f).drop (a+1)
 let z:bl:=⟨⟨{x.k with gate:=(j:Int),ay:=R},x.p.d⟩,x.i,x.o⟩
 have Nh:z.k.aI:=M;have kL:(eU f).Perm ([x]++(Z++D)):=by
  conv=>lhs;rw[hz]
  exact Ha
 have q:me F ([x]++(Z++D)) (gL f) (gq f):=c.q.perm kL
 let r:=Z++D
 let n:=mU A m h
 have mC:an aa.aB (aZ (r.map (bl.mp id n)))=an aa.aB (aZ r):=vJ (λl=>(vf _ _ _).aB l) r;have mP:an aa.aI (aZ (r.map (bl.mp id n)))=an aa.aI (aZ r):=vJ (λl=>(vf _ _ _).aI l) r;have mG:∀k,bU (aZ (r.map (bl.mp id n))) k=bU (aZ r) k:=λk=>vJ (λl=>abx _ _ _ k l) r;have tC:an aa.aB f=an aa.aB (aZ r):=by have:=Al (p:=aa.aB) kL;rw[jK,td,gP,te,(zN M).1]at this;show _=an aa.aB (aZ (Z++D));rw[this];omega
 have tP:an aa.aI f=an aa.aI (aZ r)+1:=by have:=Al (p:=aa.aI) kL;rw[jK,td,gP,te,(zN M).2]at this;show _=an aa.aI (aZ (Z++D))+1;rw[this];omega
 have tG:∀k,bU f k=bU (aZ r) k+if k=G then 1 else 0:=λk=>by have:=Al (p:=oQ k) kL;rw[jK,td,gP,te,VK M hG]at this;show an _ _=an (oQ k) (aZ (Z++D))+_;rw[this];omega
 have nC:an aa.aB (aZ ([z]++r.map (bl.mp id n)))=an aa.aB f:=by rw[td,gP,te,(zN Nh).1,mC,tC];omega
 have a_:an aa.aI (aZ ([z]++r.map (bl.mp id n)))=an aa.aI f:=by rw[td,gP,te,(zN Nh).2,mP,tP];omega
 have nG:∀k,bU (aZ ([z]++r.map (bl.mp id n))) k=bU f k+(if k=j then 1 else 0)-(if k=G then 1 else 0):=λk=>by
  have E:bU (aZ ([z]++r.map (bl.mp id n))) k=(if k=j then 1 else 0)+bU (aZ (r.map (bl.mp id n))) k:=by show an _ _=_+an _ _;rw[td,gP,te,VK Nh rfl];omega
  rw[E,mG,tG];split<;>split<;>omega
 have T:z.k.aB=false:=pR Nh;have ac:ek F z.k=false:=by have:=(oX M).1 (c.ok x (bR hx)).bad;refine(oX Nh).2 ?_;exact⟨⟨⟨⟨by show(0:Int)<=(j:Int);omega,by show(j:Int)<=(F:Int);omega⟩,this.1.1.2⟩,this.1.2⟩,this.2⟩
 have inr:∀w∈r,w∈[x]++r:=λw H=>Aw _ H;have tx:=hT (gL f) T' (.inl ⟨rfl,rfl⟩);have bx:=hT (gq f) B' (.inr ⟨rfl,rfl⟩);have ag:=q.pl x aP M;have qn:me F ([z]++r.map (bl.mp id n)) T' B':=by
  refine me.edit (X:=[x]) (r:=r) q (vf _ _ _) (λw H=>Z7 (q.ok w (inr w H)).bad) (λu y v hv cu cv e=>?_) (λu y v hv O pv E e2=>?_) (λw H=>?_) (IM ..) (IM ..) (λu y w H=>?_) (λu y w H O pw E e2=>?_) (by rw[nC];have:=c.ev;rwa[jK]at this) (λw H cw=>?_) (λu y cu=>?_) (λw H pw=>?_) (λu y O=>?_) (λw H pw=>?_) (λu y O=>?_) (λk hk=>?_) ?_
  .rw[DG,DG]at e;exact e
  .have FP:u.k.gate=v.k.gate:=by rw[vB,vB]at E;exact E
   exact⟨FP,ad u y v hv O pv FP e2⟩
  .rw[rb]at H;subst H;exact⟨ac,λam=>absurd am (by rw[T];decide),λ_=>(c.ok x (bR hx)).pb M⟩
  .rw[rb]at y;subst y;exact acT T
  .rw[rb]at y;subst y;have pw:w.k.aI:=by rw[<- (vf A m h).aI];exact pw
   have E:(j:Int)=(n w.k).gate:=E;have E:w.k.gate=(j:Int):=by rw[E];exact(vB _ _ _ _).symm
   exact(nK w H pw).2 E e2.symm
  .rw[rb]at H;subst H;rw[T]at cw;cases cw
  .rw[nC,DG,<-jK f];exact c.ids u (kL.mem_iff.2 (inr u y)) cu
  .rw[rb]at H;subst H;rw[nG];show 1<=R/\R<=((bU f ((j:Int)).toNat+(if((j:Int)).toNat=j then 1 else 0)-(if((j:Int)).toNat=G then 1 else 0):Nat):Int);rw[nP,aD rfl,aC aO];omega
  .rw[vB,nG];obtain⟨⟨a1,a2⟩,_⟩:=nK u y O;refine⟨a1,?_⟩;have jS:(if u.k.gate.toNat=G then 1 else 0)<=bU f u.k.gate.toNat:=by rw[tG];omega
   have a2:(n u.k).ay<=((bU f u.k.gate.toNat:Nat):Int)+(if u.k.gate.toNat=j then 1 else 0)-(if u.k.gate.toNat=G then 1 else 0):=a2;show(n u.k).ay<=((bU f u.k.gate.toNat+(if u.k.gate.toNat=j then 1 else 0)-(if u.k.gate.toNat=G then 1 else 0):Nat):Int);by_cases Q:u.k.gate.toNat=j<;>by_cases Y:u.k.gate.toNat=G
   .rw[aD Q,aD Y]at a2 |-;rw[aD Y]at jS;omega
   .rw[aD Q,aC Y]at a2 |-;omega
   .rw[aC Q,aD Y]at a2 |-;rw[aD Y]at jS;omega
   rw[aC Q,aC Y]at a2 |-;omega
  .rw[rb]at H;subst H;obtain⟨p1,p2,p3,p4⟩:=ag;obtain⟨⟨t1,t2⟩,_⟩:=tx;obtain⟨⟨b1,b2⟩,_⟩:=bx;have e0:z.k.gate.toNat=j:=nP _;constructor
   .rw[e0];exact p1.trans t1
   .rw[e0];exact p2.trans t2
   .rw[e0];exact p3.trans b1
   rw[e0];exact p4.trans b2
  .rw[vB];obtain⟨t1,t2⟩:=tx.2.1 u y O;obtain⟨b1,b2⟩:=bx.2.1 u y O;exact⟨⟨t1,b1⟩,t2,b2⟩
  .rw[nG];exact⟨tx.2.2.1 k hk,bx.2.2.1 k hk⟩
  rw[nG];exact⟨tx.2.2.2,bx.2.2.2⟩
 obtain⟨s,hp⟩:=c.path;rw[hz]at hp;refine me.done (X:=[x]) (r:=r) (A:=[z]) (L:=[]) (N:=[]) (V:=gC f) (z:=Z.map (bl.mp id n)++z::D.map (bl.mp id n)) qn c.nd (λt ht=>?_) ?_ ⟨s.mp id,aqm hp rfl rfl⟩ ?_ ⟨z,aP,Nh⟩ (λ_ _ _=>rfl) (λw H t ht ew _=>?_) qF (λt ht=>by cases ht) (λt ht=>by cases ht) (by rw[xi];exact c3 _) ?_
 .obtain⟨w,H,ew⟩:=c.wit t ht;exact⟨w,kL.mem_iff.1 H,ew⟩
 .show(Z.map (bl.mp id n)++z::D.map (bl.mp id n)).Perm ([z]++(Z++D).map (bl.mp id n));rw[kP];exact Ha
 .have Q:∀t:gW,(t.map (bl.mp id n)).map bl.p=(t.map bl.p).map (kX A m h):=λt=>by
   rw[nU,nU];refine xx λw _=>?_;show _=kX A m h w.p;rw[Na];rfl
  rw[kP,eJ,Q,Q];show(((eU f).take a).map bl.p).map _++_::(((eU f).drop (a+1)).map bl.p).map _=_;rw[uJ,u_,xV]
 .rw[rb]at H;subst H;exact⟨z,aP,ew⟩
 rw[nC,a_];have:=g.nw;simp only[fU];omega
def as3(g:cE F f){a:Nat}(ha:a<I f)(ag:IU F f a=some L):lL F L:=by
 have s8:=Ay f;obtain⟨x,B⟩:=aT (L:=eU f) (k:=a) J;have X:(aQ f)[a]?=some x.p:=by rw[<-xV,ig,B];rfl
 have Z:aV f a=x.p:=mu X;unfold IU at ag;rw[Z]at ag;split at ag
 case isFalse=>cases ag
 rename_i hc;simp only[c6,dk,iI]at hc;obtain⟨h1,h2,N⟩:=hc;cases ag;have c:=g.cz;have D:x.k.aI:=by show(x.k.kind==1)=true;simp[h1]
 have gx:=((oX D).1 (c.ok x (bR B)).bad).1.1.1;have rx:=c.rr x (bR B) D;rw[jK]at rx;have N:x.k.ay=(bU f x.k.gate.toNat:Int):=N;have h2:x.k.gate<(F:Int):=h2;have A:x.k.gate=((x.k.gate.toNat:Nat):Int):=(RL gx.1).symm;generalize x.k.gate.toNat=G at A N rx;have hz:=Nu B;have kL:(eU f).Perm (x::((eU f).take a++(eU f).drop (a+1))):=by
  conv=>lhs;rw[hz]
  exact Ha
 have q:=c.q.perm kL;have O:∀w∈(eU f).take a++(eU f).drop (a+1),w.k.aI->(0<=w.k.gate/\w.k.gate<=(F:Int))/\1<=w.k.ay/\w.k.ay<=(bU f w.k.gate.toNat:Int)/\(w.k.gate=(G:Int)->w.k.ay≠x.k.ay):=λw H pw=>by have JZ:w∈eU f:=kL.mem_iff.2 (yc _ H);have r1:=c.rr w JZ pw;rw[jK]at r1;refine⟨((oX pw).1 (c.ok w JZ).bad).1.1.1,r1.1,r1.2,λy E=>?_⟩;exact(ot.1 q.rk).1 w H D pw (by rw[A,y]) E.symm
 have rk:∀w:bl,w.k.aI->(mU ((G:Int)+1) 0 1 w.k).ay=if w.k.gate=(G:Int)+1/\0<w.k.ay then w.k.ay+1 else w.k.ay:=λw pw=>TC pw;have ac:x.k.gate.toNat=G:=by rw[A];exact nP _
 have Y:x.k.ay.toNat=bU f G:=by rw[N];exact nP _
 have M:=amm g B D (G:=G) (j:=G+1) A J J (A:=(G:Int)+1) (m:=0) (h:=1) (R:=1)
  (T':=λk j=>if k=G+1 then(if j=0 then gL f G (bU f G-1)else gL f (G+1) (j-1))else gL f k j)
  (B':=λk j=>if k=G+1 then(if j=0 then gq f G (bU f G-1)else gq f (G+1) (j-1))else gq f k j) ?_ ?_ ⟨J,J⟩ ?_
 .have e:wU (fQ (aQ f) (x.p.l.gate+1) 0 1) a (x.p.l.gate+1) 1=((aQ f).take a).map (kX ((G:Int)+1) 0 1)++⟨{x.k with gate:=((G+1:Nat):Int),ay:=1},x.p.d⟩::((aQ f).drop (a+1)).map (kX ((G:Int)+1) 0 1):=by
   have HS:x.p.l.gate=(G:Int):=A;unfold wU;have eX:(fQ (aQ f) (x.p.l.gate+1) 0 1)[a]?=some x.p:=by
    show((aQ f).map _)[a]?=_;rw[ig,X];show some (kX _ _ _ x.p)=_;rw[Na];congr 1;have:mU (x.p.l.gate+1) 0 1 x.p.l=x.p.l:=by unfold mU;rw[aC];simp only[c6,dk,not_and];intro _ ag;omega
    rw[this]
   rw[dC,eX,kZ];rw[show fQ (aQ f) (x.p.l.gate+1) 0 1=(aQ f).map (kX (x.p.l.gate+1) 0 1)from rfl,am4 X,HS];rfl
  rw[e];exact M
 .intro w H pw;obtain⟨o1,o2,T,o4⟩:=O w H pw;rw[rk w pw];refine⟨?_,λe=>?_⟩
  .by_cases z:w.k.gate=(G:Int)+1
   .rw[aD ⟨z,J⟩,aD J,aC J];omega
   rw[aC J,aC J];by_cases n:w.k.gate=(G:Int)
   .rw[aD J];have:=o4 n;have e3:w.k.gate.toNat=G:=J;rw[e3]at T |-;omega
   rw[aC J];omega
  rw[aD ⟨J,J⟩];omega
 .intro u hu v hv pu pv y E;rw[rk u pu,rk v pv]at E;obtain⟨_,o2,_⟩:=O u hu pu;obtain⟨_,T,_⟩:=O v hv pv;split at E<;>split at E<;>omega
 intro R f' JE;have hf:f'=λk j=>if k=G+1 then(if j=0 then R G (bU f G-1)else R (G+1) (j-1))else R k j:=by rcases JE with⟨rfl,rfl⟩|⟨rfl,rfl⟩<;>rfl
 have nW:∀k,k<F->R k (bU f k)=R (k+1) 0:=λk Q=>by
  have:=c.gt k Q;rw[jK]at this;rcases JE with⟨rfl,_⟩|⟨rfl,_⟩
  .exact this.1
  exact this.2
 have JG:R F (bU f F)=R 0 0:=by
  have:=c.gz;rw[jK]at this;rcases JE with⟨rfl,_⟩|⟨rfl,_⟩
  .exact this.1
  exact this.2
 rw[hf,ac,Y];refine⟨⟨?_,?_⟩,λw H pw=>?_,λk Q=>?_,?_⟩
 .simp
 .simp[nW G J]
 .obtain⟨o1,o2,T,o4⟩:=O w H pw;rw[rk w pw];by_cases z:w.k.gate=(G:Int)+1
  .have y:w.k.gate.toNat=G+1:=J;have E:(w.k.ay+1).toNat=w.k.ay.toNat+1:=J;have e3:w.k.ay.toNat≠0:=J;rw[aD ⟨z,J⟩,y,E];simp[e3]
  have y:w.k.gate.toNat≠G+1:=J;rw[aC J];simp[y]
 .by_cases z:k=G
  .subst z;simp
  by_cases n:k=G+1
  .subst n;simp[nW _ Q]
  have:k+1≠G+1:=J;simp[z,n,nW k Q]
 have ad:F≠G:=J;by_cases n:F=G+1
 .rw[n]at JG;simp[n,JG]
 simp[ad,n,JG]
end
section
variable {F:Nat} {f:ai}
def aoG(g:cE F f){a:Nat}(ha:a<I f)(ac:IE f a=some L):lL F L:=by
 have s8:=Ay f;obtain⟨x,Q⟩:=aT (L:=eU f) (k:=a) J;have fY:(aQ f)[a]?=some x.p:=by rw[<-xV,ig,Q];rfl
 have ag:aV f a=x.p:=mu fY;unfold IE at ac;rw[ag]at ac;split at ac
 case isFalse=>cases ac
 rename_i hc;simp only[c6,dk,iI]at hc;obtain⟨h1,h2,N⟩:=hc;cases ac;have c:=g.cz;have Z:x.k.aI:=by show(x.k.kind==1)=true;simp[h1]
 have gx:=((oX Z).1 (c.ok x (bR Q)).bad).1.1.1;have rx:=c.rr x (bR Q) Z;rw[jK]at rx;have N:x.k.ay=1:=N;have h2:0<x.k.gate:=h2;obtain⟨G,hG⟩:∃G:Nat,x.k.gate=((G+1:Nat):Int):=⟨x.k.gate.toNat-1,J⟩;have R:x.k.gate.toNat=G+1:=by rw[hG];exact nP _
 rw[R]at rx;have hz:=Nu Q;have kL:(eU f).Perm (x::((eU f).take a++(eU f).drop (a+1))):=by
  conv=>lhs;rw[hz]
  exact Ha
 have q:=c.q.perm kL;have O:∀w∈(eU f).take a++(eU f).drop (a+1),w.k.aI->(0<=w.k.gate/\w.k.gate<=(F:Int))/\1<=w.k.ay/\w.k.ay<=(bU f w.k.gate.toNat:Int)/\(w.k.gate=((G+1:Nat):Int)->w.k.ay≠1):=λw H pw=>by have JZ:w∈eU f:=kL.mem_iff.2 (yc _ H);have r1:=c.rr w JZ pw;rw[jK]at r1;refine⟨((oX pw).1 (c.ok w JZ).bad).1.1.1,r1.1,r1.2,λE A=>?_⟩;exact(ot.1 q.rk).1 w H Z pw (by rw[hG,E]) (by rw[N,A])
 have rk:∀w:bl,w.k.aI->(mU ((G+1:Nat):Int) 1 (-1) w.k).ay=if w.k.gate=((G+1:Nat):Int)/\1<w.k.ay then w.k.ay-1 else w.k.ay:=λw pw=>by rw[TC pw];rfl
 have ad:x.k.ay.toNat=1:=by rw[N];rfl
 have M:=amm g Q Z (G:=G+1) (j:=G) hG J J (A:=((G+1:Nat):Int)) (m:=1) (h:= -1) (R:=((bU f G+1:Nat):Int))
  (T':=λk j=>if k=G+1 then gL f (G+1) (j+1)else if k=G then(if j<=bU f G then gL f G j else gL f (G+1) 1)else gL f k j)
  (B':=λk j=>if k=G+1 then gq f (G+1) (j+1)else if k=G then(if j<=bU f G then gq f G j else gq f (G+1) 1)else gq f k j) ?_ ?_ ⟨J,J⟩ ?_
 .have HS:x.p.l.gate=((G+1:Nat):Int):=hG;have JF:x.p.l.gate-1=(G:Int):=by rw[HS];omega
  have e:wU (fQ (aQ f) x.p.l.gate 1 (-1)) a (x.p.l.gate-1) ((bU f (x.p.l.gate-1).toNat+1:Nat):Int)=((aQ f).take a).map (kX ((G+1:Nat):Int) 1 (-1))++⟨{x.k with gate:=(G:Int),ay:=((bU f G+1:Nat):Int)},x.p.d⟩::((aQ f).drop (a+1)).map (kX ((G+1:Nat):Int) 1 (-1)):=by
   unfold wU;have eX:(fQ (aQ f) x.p.l.gate 1 (-1))[a]?=some x.p:=by
    show((aQ f).map _)[a]?=_;rw[ig,fY];show some (kX _ _ _ x.p)=_;rw[Na];congr 1;have:mU x.p.l.gate 1 (-1) x.p.l=x.p.l:=by unfold mU;rw[aC];simp only[c6,dk,iI,not_and];intro _ _ ac;have sk:x.p.l.ay=1:=N;omega
    rw[this]
   rw[dC,eX,kZ];rw[show fQ (aQ f) x.p.l.gate 1 (-1)=(aQ f).map (kX x.p.l.gate 1 (-1))from rfl,am4 fY,JF,HS,nP]
  rw[e];exact M
 .intro w H pw;obtain⟨o1,o2,o3,Y⟩:=O w H pw;rw[rk w pw];refine⟨?_,λe=>?_⟩
  .by_cases n:w.k.gate=((G+1:Nat):Int)
   .have:=Y n;rw[aD ⟨n,J⟩,aC J,aD J];omega
   rw[aC J,aC (show¬w.k.gate.toNat=G+1 by omega)];split<;>omega
  rw[aC J];have e3:w.k.gate.toNat=G:=J;rw[e3]at o3;omega
 .intro u hu v hv pu pv E A;rw[rk u pu,rk v pv]at A;obtain⟨_,o2,_,Y⟩:=O u hu pu;obtain⟨_,o3,_,o5⟩:=O v hv pv;by_cases n:u.k.gate=((G+1:Nat):Int)
  .have n1:=Y n;have n2:=o5 (by rw[<-E,n]);rw[aD ⟨n,J⟩,aD ⟨by rw[<-E,n],J⟩]at A;omega
  rw[aC J,aC (by rw[<-E];omega)]at A;exact A
 intro z B JE;have hf:B=λk j=>if k=G+1 then z (G+1) (j+1)else if k=G then(if j<=bU f G then z G j else z (G+1) 1)else z k j:=by rcases JE with⟨rfl,rfl⟩|⟨rfl,rfl⟩<;>rfl
 have nW:∀k,k<F->z k (bU f k)=z (k+1) 0:=λk hk=>by
  have:=c.gt k hk;rw[jK]at this;rcases JE with⟨rfl,_⟩|⟨rfl,_⟩
  .exact this.1
  exact this.2
 have JG:z F (bU f F)=z 0 0:=by
  have:=c.gz;rw[jK]at this;rcases JE with⟨rfl,_⟩|⟨rfl,_⟩
  .exact this.1
  exact this.2
 have Cw:G<F:=J;have jS:1<=bU f (G+1):=J;have D:∀j,B (G+1) j=z (G+1) (j+1):=λj=>by rw[hf];exact aD rfl
 have v2:∀j,j<=bU f G->B G j=z G j:=λj hj=>by rw[hf];show(if G=G+1 then _ else if G=G then(if j<=bU f G then z G j else z (G+1) 1)else z G j)=_;rw[aC J,aD rfl,aD hj]
 have v3:B G (bU f G+1)=z (G+1) 1:=by rw[hf];show(if G=G+1 then _ else if G=G then(if bU f G+1<=bU f G then z G (bU f G+1)else z (G+1) 1)else z G (bU f G+1))=_;rw[aC J,aD rfl,aC J]
 have X:∀k j,k≠G->k≠G+1->B k j=z k j:=λk j h1 h2=>by rw[hf];show(if k=G+1 then _ else if k=G then _ else z k j)=_;rw[aC h2,aC h1]
 have v0:∀k,k≠G+1->B k 0=z k 0:=λk ac=>by
  by_cases c:k=G
  .subst c;exact v2 0 (cG _)
  exact X k 0 c ac
 have ec:bU f (G+1)-1+1=bU f (G+1):=J;rw[R,ad,nP];refine⟨⟨?_,?_⟩,λw H pw=>?_,λk hk=>?_,?_⟩
 .rw[H4,v2 _ (c3 _),nW G Cw]
 .exact v3.symm
 .obtain⟨o1,o2,o3,Y⟩:=O w H pw;rw[rk w pw];by_cases n:w.k.gate=((G+1:Nat):Int)
  .have n1:=Y n;have E:w.k.gate.toNat=G+1:=J;have A:(w.k.ay-1).toNat-1+1=w.k.ay.toNat-1:=J;have e3:(w.k.ay-1).toNat+1=w.k.ay.toNat:=J;rw[aD ⟨n,J⟩,E,D,D,A,e3];exact⟨rfl,rfl⟩
  have E:w.k.gate.toNat≠G+1:=J;rw[aC J];by_cases y:w.k.gate.toNat=G
  .rw[y]at o3 |-;rw[v2 _ J,v2 _ J];exact⟨rfl,rfl⟩
  rw[X _ _ y E,X _ _ y E];exact⟨rfl,rfl⟩
 .by_cases n:k=G+1
  .subst n;rw[aC J,aD rfl,D,show bU f (G+1)+0-1+1=bU f (G+1) by omega,v0 _ J,nW _ hk]
  rw[aC n,Nat.sub_zero];by_cases y:k=G
  .subst y;rw[aD rfl,v3,D]
  rw[aC y,vu,X _ _ y n,v0 _ J,nW k hk]
 rw[v0 0 J];have T:F≠G:=J;rw[aC T,vu];by_cases y:F=G+1
 .rw[aD y];rw[y]at JG |-;rw[D,ec,JG]
 rw[aC y,Nat.sub_zero,X _ _ T y,JG]
end
end Go.Abs
