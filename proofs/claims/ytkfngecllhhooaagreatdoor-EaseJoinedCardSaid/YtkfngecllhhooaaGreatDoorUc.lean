/-
  AxisCut and PairCut keep a code valid.
-/
import Derived.Test.YtkfngecllhhooaaGreatDoorUa
import Derived.Test.YtkfngecllhhooaaGreatDoorWw
set_option linter.all false
set_option maxHeartbeats 16000000
namespace Go.Abs
def gV(c e a:Nat):Nat:=if a=c then e else a
theorem kQ(c e:Nat):gV c e c=e:=if_pos rfl
theorem kO(c e:Nat):gV c e e=e:=by unfold gV;split<;>rfl
theorem Ke{c e a:Nat}(h:a≠c):gV c e a=a:=if_neg h
def Hk(g ab by':Int)(l:Let):Let:=if (l.kind==1)&&((l.gate==g)&&decide (ab<l.aag)) then {l with aag:=l.aag+by'} else l
theorem Yr(g ab by':Int)(p:Pc):ED g ab by' p=⟨Hk g ab by' p.l,p.d⟩:=by unfold ED Hk;split<;>rfl
theorem jU(g ab by':Int):sV (Hk g ab by'):=by refine⟨fun l=>?_,fun l=>?_,fun l=>?_⟩<;>unfold Hk<;>split<;>rfl
theorem ni(g ab by':Int)(l:Let):(Hk g ab by' l).gate=l.gate:=by unfold Hk;split<;>rfl
theorem Di(g ab by':Int)(l:Let):(Hk g ab by' l).id=l.id:=by unfold Hk;split<;>rfl
theorem Ys{g ab by':Int}{l:Let}(h:l.aD=true):Hk g ab by' l=l:=by unfold Hk;have:=cF h;unfold Let.aH at this;rw[this];simp
theorem Tc(g ab by':Int)(k:Nat)(l:Let):Aj k (Hk g ab by' l)=Aj k l:=by unfold Aj;rw[(jU g ab by').aH,ni]
theorem Oz{g ab by':Int}{l:Let}(h:l.aH=true):(Hk g ab by' l).aag=if l.gate=g/\ab<l.aag then l.aag+by' else l.aag:=by
 unfold Hk;unfold Let.aH at h;rw[h];by_cases c:l.gate=g/\ab<l.aag
 .rw[if_pos c,if_pos (by simp[c.1,c.2])]
 rw[if_neg c,if_neg (by simpa using c)]
theorem Tb{F:Nat}{g ab by':Int}{l:Let}(h:ch F l=false):ch F (Hk g ab by' l)=false:=by
 rcases fU h with hp|hc
 .have hp':(Hk g ab by' l).aH=true:=by rw[(jU g ab by').aH];exact hp
  rw[dG hp] at h;rw[dG hp',ni,Di,(jU g ab by').sign,(jU g ab by').over];exact h
 rw[Ys hc];exact h
theorem yR{l:List Pc}{drop:Nat->Pc->Bool}:∀d j,j+d<=l.length->(∀i p,j<=i->i<j+d->drop i p=false)->kS l drop (j+d)=kS l drop j++(l.drop j).take d:=by
 intro d
 induction d with
 |zero=>intro j _ _;simp
 |succ d ih=>intro j hj h;obtain⟨p,hp⟩:=ao (ls:=l) (k:=j+d) (by omega);rw[show j+(d+1)=(j+d)+1 by omega,jG hp (h _ _ (by omega) (by omega)),ih j (by omega) fun i p h1 h2=>h i p h1 (by omega),abM,acB,hp,acw];rfl
theorem FV{l:List Pc}{a:Nat}(ha:a<l.length)(h2:2<=l.length){p q:Pc}{r:List Pc}(e:l.drop a++l.take a=p::q::r):∃u v,(iD l fun k _=>decide (k=a)||decide (k=(a+1)%l.length))=u++v/\r=v++u:=by
 have hd0:∀i (p:Pc),i≠a->i≠(a+1)%l.length->(fun(k:Nat) (_:Pc)=>decide (k=a)||decide (k=(a+1)%l.length)) i p=false:=fun i p h1 h2=>by simp[h1,h2]
 have hd1:∀i (p:Pc),i=a\/i=(a+1)%l.length->(fun(k:Nat) (_:Pc)=>decide (k=a)||decide (k=(a+1)%l.length)) i p=true:=fun i p h=>by simpa using h
 obtain⟨x,hx⟩:=ao ha;by_cases c:a+1<l.length
 .obtain⟨y,hy⟩:=ao c;have hm:(a+1)%l.length=a+1:=aa7 c;rw[hm] at hd0 hd1 ⊢;have k0:=yR (l:=l) (drop:=fun k _=>decide (k=a)||decide (k=a+1)) a 0 (by omega) fun i p _ h=>hd0 i p (by omega) (by omega);have k1:=fh (drop:=fun k _=>decide (k=a)||decide (k=a+1)) hx (hd1 a x (.inl rfl));have k2:=fh (drop:=fun k _=>decide (k=a)||decide (k=a+1)) hy (hd1 (a+1) y (.inr rfl));have k3:=yR (l:=l) (drop:=fun k _=>decide (k=a)||decide (k=a+1)) (l.length-(a+2)) (a+1+1) (by omega) fun i p h _=>hd0 i p (by omega) (by omega);refine⟨l.take a,l.drop (a+2),?_,?_⟩
  .unfold iD;rw[show a+1+1+(l.length-(a+2))=l.length by omega,k2,k1] at k3;rw[abd] at k0;rw[k3,k0];have:kS l (fun k _=>decide (k=a)||decide (k=a+1)) 0=[]:=rfl;rw[this,List.drop_zero,aaZ,aa4 (l:=l.drop (a+1+1)) (by rw[abk];omega)]
  have e1:l.drop a=x::y::l.drop (a+2):=by obtain⟨h1,e1⟩:=aai.1 hx;obtain⟨h2,e2⟩:=aai.1 hy;rw[<- abY h1,e1,<- abY h2,e2]
  rw[e1] at e;simp only[acp,ada] at e;exact e.2.2.symm
 have ea:a+1=l.length:=by omega
 have hm:(a+1)%l.length=0:=by rw[ea,acK]
 rw[hm] at hd0 hd1 ⊢;obtain⟨y,hy⟩:=ao (ls:=l) (k:=0) (by omega);have k1:=fh (drop:=fun k _=>decide (k=a)||decide (k=0)) hy (hd1 0 y (.inr rfl));have k2:=yR (l:=l) (drop:=fun k _=>decide (k=a)||decide (k=0)) (a-1) 1 (by omega) fun i p h h'=>hd0 i p (by omega) (by omega);have k3:=fh (drop:=fun k _=>decide (k=a)||decide (k=0)) hx (hd1 a x (.inl rfl));refine⟨[],(l.drop 1).take (a-1),?_,?_⟩
 .unfold iD;rw[<- ea,k3];rw[show 1+(a-1)=a by omega] at k2;rw[k2];rw[show(1:Nat)=0+1 from rfl,k1];rfl
 have e1:l.drop a=[x]:=by obtain⟨h1,e1⟩:=aai.1 hx;rw[<- abY h1,e1,List.drop_eq_nil_of_le (by omega)]
 have e2:l.take a=y::(l.drop 1).take (a-1):=by
  obtain⟨h1,e1⟩:=aai.1 hy;have:l=y::l.drop 1:=by have:=abY h1;rw[e1,List.drop_zero] at this;exact this.symm
  conv=>lhs;rw[this]
  rw[show a=(a-1)+1 by omega,List.take_succ_cons];rfl
 rw[e1,e2] at e;simp only[acp,aaZ,ada] at e;rw[abo];exact e.2.2.symm
section
variable {F:Nat} {ls:List Let}
theorem iZ.ext'{s t:iZ}(h1:s.l=t.l)(h2:s.r=t.r)(h3:s.b=t.b):s=t:=by cases s;cases t;simp_all
theorem ZV(g:cV F ls){a:Nat}(ha:a<ls.length){L:List Pc}(h:Ss ls a=some L):L=[]\/Cert F L:=by
 obtain⟨x,y,r,s,e,hx,hy,c,hp,afE,_,_,aaM⟩:=Hq g ha;have q:=c.q;unfold Ss at h;have e1:(pieces ls).getD a ⟨fm,false⟩=x.p:=by rw[aaC,hx];rfl
 have e2:(pieces ls).getD ((a+1)%ls.length) ⟨fm,false⟩=y.p:=by rw[aaC,hy];rfl
 simp only[e1,e2] at h;split at h
 case isFalse=>cases h
 rename_i hc;simp only[aay,beq_iff_eq,abB,Bool.and_eq_false_iff,decide_eq_false_iff_not] at hc;obtain⟨hc1,hc2,hgt,hrk,arb⟩:=hc;cases h;have px:x.k.aH=true:=by show(x.k.kind==1)=true;simp[hc1]
 have py:y.k.aH=true:=by show(y.k.kind==1)=true;simp[hc2]
 obtain⟨hs1,hs2,hpr⟩:=hp;have ox:=(q.ok x (by simp)).pb px;have oy:=(q.ok y (by simp)).pb py;have plx:=q.pl x (by simp) px;have ply:=q.pl y (by simp) py;have gx:=((dG px).1 (q.ok x (by simp)).bad).1.1.1;have rx:=q.rr x (by simp) px;have ry:=q.rr y (by simp) py;have hgy:y.k.gate=x.k.gate:=hgt.symm;rw[hgy] at ry
 -- the counts
 have hcC:∀z:List a8,aA Let.aD (be (x::y::z))=aA Let.aD (be z):=fun z=>by rw[bR,bR,(ifP px).1,(ifP py).1];omega
 have hcP:∀z:List a8,aA Let.aH (be (x::y::z))=aA Let.aH (be z)+2:=fun z=>by rw[bR,bR,(ifP px).2,(ifP py).2];omega
 have hGi:((x.k.gate.toNat:Nat):Int)=x.k.gate:=Int.toNat_of_nonneg gx.1;have hcG:∀(z:List a8) k,cg (be (x::y::z)) k=cg (be z) k+if k=x.k.gate.toNat then 2 else 0:=fun z k=>by
  show aA _ _=aA _ _+_;rw[bR,bR];have:∀w:a8,w.k.aH=true->w.k.gate=x.k.gate->(if Aj k w.k=true then 1 else 0)=if k=x.k.gate.toNat then 1 else 0:=fun w hw hgw=>by
   unfold Aj;rw[hw,hgw];by_cases ck:k=x.k.gate.toNat
   .subst ck;simp[hGi]
   have:(x.k.gate==(k:Int))=false:=by rw[beq_eq_false_iff_ne];omega
   simp[this,ck]
  rw[this x px rfl,this y py hgy];split<;>omega
 have h2:aA Let.aD (be (x::y::r))=aA Let.aD ls:=by rw[jl aaM,fq]
 have h3:aA Let.aH (be (x::y::r))=aA Let.aH ls:=by rw[jl aaM,fq]
 have hlen:ls.length=r.length+2:=by have:=aaM.length_eq;rw[uU] at this;simpa using this.symm
 -- ranks
 obtain⟨lo,hlo1,akV,hmx⟩:∃lo:Nat,1<=lo/\((x.k.aag=lo/\y.k.aag=lo+1)\/(x.k.aag=lo+1/\y.k.aag=lo))/\Ms x.k.aag y.k.aag=lo+1:=by
  have afF:Ms x.k.aag y.k.aag-TJ x.k.aag y.k.aag=1:=hrk;unfold Ms TJ at afF;unfold Ms;by_cases c1:x.k.aag<y.k.aag
  .rw[if_pos c1] at afF ⊢;rw[if_neg (by omega)] at afF;exact⟨x.k.aag.toNat,by omega,.inl ⟨by omega,by omega⟩,by omega⟩
  rw[if_neg c1] at afF ⊢;by_cases c2:y.k.aag<x.k.aag
  .rw[if_pos c2] at afF;exact⟨y.k.aag.toNat,by omega,.inr ⟨by omega,by omega⟩,by omega⟩
  rw[if_neg c2] at afF;omega
 have anR:lo+1<=cg (be (x::y::r)) x.k.gate.toNat:=by rcases akV with ⟨h1,h2⟩|⟨h1,h2⟩<;>omega
 -- which names are merged
 obtain⟨mc,me,m1,m2,m3,m4,m5⟩:∃mc me:Nat,(y.o.mp (gV mc me)=s.mp (gV mc me))/\gV mc me (TF ls x.k.gate.toNat (lo+1))=gV mc me (TF ls x.k.gate.toNat (lo-1))/\gV mc me (BF ls x.k.gate.toNat (lo+1))=gV mc me (BF ls x.k.gate.toNat (lo-1))/\
   (∀t,(t=y.o.l\/t=y.o.r)->t=mc\/t=s.l\/t=s.r)/\True:=by
  have hdy:y.p.d= !x.p.d:=by have h1:=oy.2;rw[hs2,ox.1] at h1;revert h1;cases x.p.d<;>cases y.p.d<;>simp
  have hb:y.o.b=s.b:=by rw[oy.1,hdy,<- hs1,ox.2]
  obtain⟨p1,p2,p3,p4⟩:=plx;obtain⟨p5,p6,p7,p8⟩:=ply;rw[hgy] at p5 p6 p7 p8;unfold a8.up at p1 p2 p5 p6;unfold a8.lo at p3 p4 p7 p8;rw[hdy] at p5 p6 p7 p8;rw[hs1] at p1 p2 p3 p4;rw[hs2] at p5 p6 p7 p8;have done:∀mc me,(gV mc me y.o.l=gV mc me s.l)->(gV mc me y.o.r=gV mc me s.r)->y.o.mp (gV mc me)=s.mp (gV mc me):=fun mc me h1 h2=>iZ.ext' h1 h2 hb;rcases akV with ⟨r1,r2⟩|⟨r1,r2⟩
  .have n1:x.k.aag.toNat=lo:=by omega
   have n2:y.k.aag.toNat=lo+1:=by omega
   rw[n1] at p1 p2 p3 p4;rw[n2] at p5 p6 p7 p8;rw[Nat.add_sub_cancel] at p5 p7;cases hd:x.p.d<;>rw[hd] at p1 p2 p3 p4 p5 p6 p7 p8<;>simp only[Bool.not_false,acE,aaE,if_false,if_true,pV] at p1 p2 p3 p4 p5 p6 p7 p8
   .have ee:y.o.r=s.r:=by rw[p7,p4]
    refine⟨y.o.l,s.l,done _ _ ?_ (by rw[ee]),by rw[<- p6,p1],by rw[<- p8,<- p3,kQ,kO],?_,trivial⟩
    .rw[kQ,kO]
    rintro t (rfl|rfl)
    .exact .inl rfl
    exact .inr (.inr ee)
   have ee:y.o.l=s.l:=by rw[p5,p2]
   refine⟨y.o.r,s.r,done _ _ (by rw[ee]) ?_,by rw[<- p6,<- p1,kQ,kO],by rw[<- p8,p3],?_,trivial⟩
   .rw[kQ,kO]
   rintro t (rfl|rfl)
   .exact .inr (.inl ee)
   exact .inl rfl
  have n1:x.k.aag.toNat=lo+1:=by omega
  have n2:y.k.aag.toNat=lo:=by omega
  rw[n1] at p1 p2 p3 p4;rw[n2] at p5 p6 p7 p8;rw[Nat.add_sub_cancel] at p1 p3;cases hd:x.p.d<;>rw[hd] at p1 p2 p3 p4 p5 p6 p7 p8<;>simp only[Bool.not_false,acE,aaE,if_false,if_true,pV] at p1 p2 p3 p4 p5 p6 p7 p8
  .have ee:y.o.l=s.l:=by rw[p8,p3]
   refine⟨y.o.r,s.r,done _ _ (by rw[ee]) ?_,by rw[<- p2,p5],by rw[<- p4,<- p7,kQ,kO],?_,trivial⟩
   .rw[kQ,kO]
   rintro t (rfl|rfl)
   .exact .inr (.inl ee)
   exact .inl rfl
  have ee:y.o.r=s.r:=by rw[p6,p1]
  refine⟨y.o.l,s.l,done _ _ ?_ (by rw[ee]),by rw[<- p2,<- p5,kQ,kO],by rw[<- p4,p7],?_,trivial⟩
  .rw[kQ,kO]
  rintro t (rfl|rfl)
  .exact .inl rfl
  exact .inr (.inr ee)
 clear m5;by_cases hr:∃w∈r,w.k.aH=true
 case neg=>
  left;have hP0:aA Let.aH (be r)=0:=adh.2 fun l hl hlp=>by obtain⟨w,hw,rfl⟩:=aaF.1 hl;exact hr ⟨w,hw,hlp⟩
  have hC0:aA Let.aD ls=0:=by have hev:=q.ev;rw[h2] at hev;rw[hcP] at h3;rcases arb with h|h<;>omega
  have:ls.length=2:=by have:=PM g.ok;rw[hcP] at h3;omega
  have hk0:r=[]:=adg.1 (by omega);obtain⟨u,v,k1,k2⟩:=FV (l:=pieces ls) (a:=a) (by rw[aB];exact ha) (by rw[aB];omega) (by rw[afE];rfl);rw[aB] at k1;rw[hk0] at k2;have k2:=k2.symm;simp only[abi,List.append_eq_nil_iff] at k2;unfold dr;rw[k1,k2.1,k2.2];rfl
 right;obtain⟨w0,hw0,pw0⟩:=hr;have aqq:r≠[]:=List.ne_nil_of_mem hw0
 let ψ:=gV mc me
 let hL:=Hk x.k.gate (lo+1) (-2)
 let T':Nat->Nat->Nat:=fun G k=>if G=x.k.gate.toNat then (if k<=lo-1 then ψ (TF ls G k) else ψ (TF ls G (k+2))) else ψ (TF ls G k)
 let B':Nat->Nat->Nat:=fun G k=>if G=x.k.gate.toNat then (if k<=lo-1 then ψ (BF ls G k) else ψ (BF ls G (k+2))) else ψ (BF ls G k)
 have mC:aA Let.aD (be (r.map (a8.mp ψ hL)))=aA Let.aD (be r):=pI (fun l=>(jU _ _ _).aD l) r;have mP:aA Let.aH (be (r.map (a8.mp ψ hL)))=aA Let.aH (be r):=pI (fun l=>(jU _ _ _).aH l) r;have mG:∀k,cg (be (r.map (a8.mp ψ hL))) k=cg (be r) k:=fun k=>pI (fun l=>Tc _ _ _ k l) r;have inr:∀w∈r,w∈x::y::r:=fun w hw=>by simp[hw]
 -- the others have other ranks
 have oth:∀w∈r,w.k.aH=true->w.k.gate=x.k.gate->w.k.aag<lo\/(lo:Int)+1<w.k.aag:=fun w hw pw gw=>by obtain⟨d1,d2⟩:=ab0.1 q.rk;obtain⟨d3,_⟩:=ab0.1 d2;have n1:=d1 w (by simp[hw]) px pw gw.symm;have n2:=d3 w hw py pw (by rw[hgy,gw]);rcases akV with ⟨r1,r2⟩|⟨r1,r2⟩<;>omega
 have rk':∀w∈r,w.k.aH=true->(hL w.k).aag=if w.k.gate=x.k.gate/\(lo:Int)+1<w.k.aag then w.k.aag-2 else w.k.aag:=fun w hw pw=>by have:=Oz (g:=x.k.gate) (ab:=(lo:Int)+1) (by':= -2) pw;rw[show w.k.aag+ -2=w.k.aag-2 by omega] at this;exact this
 have key:∀f:Nat->Nat->Nat,ψ (f x.k.gate.toNat (lo+1))=ψ (f x.k.gate.toNat (lo-1))->∀w∈r,w.k.aH=true->
   (ψ (f w.k.gate.toNat (w.k.aag.toNat-1))=(fun G k=>if G=x.k.gate.toNat then (if k<=lo-1 then ψ (f G k) else ψ (f G (k+2))) else ψ (f G k)) (hL w.k).gate.toNat ((hL w.k).aag.toNat-1))/\
   ψ (f w.k.gate.toNat w.k.aag.toNat)=(fun G k=>if G=x.k.gate.toNat then (if k<=lo-1 then ψ (f G k) else ψ (f G (k+2))) else ψ (f G k)) (hL w.k).gate.toNat (hL w.k).aag.toNat:=by
  intro f hf w hw pw;have hg':(hL w.k).gate=w.k.gate:=ni _ _ _ _;have gw:=((dG pw).1 (q.ok w (inr w hw)).bad).1.1.1;have rw1:=(q.rr w (inr w hw) pw).1;rw[rk' w hw pw,hg'];by_cases cg':w.k.gate=x.k.gate
  .have ho:=oth w hw pw cg';simp only[cg',if_true,true_and];by_cases cr:(lo:Int)+1<w.k.aag
   .rw[if_pos cr];constructor
    .by_cases c3:(w.k.aag-2).toNat-1<=lo-1
     .rw[if_pos c3];have e3:w.k.aag.toNat-1=lo+1:=by omega
      have e4:(w.k.aag-2).toNat-1=lo-1:=by omega
      rw[e3,e4];exact hf
     rw[if_neg c3];congr 2;omega
    rw[if_neg (by omega)];congr 2;omega
   rw[if_neg cr];constructor
   .rw[if_pos (by omega)]
   rw[if_pos (by omega)]
  have:¬(w.k.gate.toNat=x.k.gate.toNat):=by omega
  simp only[cg',false_and,if_false,if_neg this];exact⟨trivial,trivial⟩
 have keyg:∀f:Nat->Nat->Nat,ψ (f x.k.gate.toNat (lo+1))=ψ (f x.k.gate.toNat (lo-1))->∀k,
   ((fun G k=>if G=x.k.gate.toNat then (if k<=lo-1 then ψ (f G k) else ψ (f G (k+2))) else ψ (f G k)) k (cg (be r) k)=ψ (f k (cg (be (x::y::r)) k)))/\
   (fun G k=>if G=x.k.gate.toNat then (if k<=lo-1 then ψ (f G k) else ψ (f G (k+2))) else ψ (f G k)) k 0=ψ (f k 0):=by
  intro f hf k;rw[hcG r k];by_cases ck:k=x.k.gate.toNat
  .subst ck;simp only[if_true];rw[if_pos (aan _)];refine⟨?_,rfl⟩;rw[hcG r x.k.gate.toNat,if_pos rfl] at anR;by_cases c3:cg (be r) x.k.gate.toNat<=lo-1
   .rw[if_pos c3];have e3:cg (be r) x.k.gate.toNat=lo-1:=by omega
    rw[e3,show lo-1+2=lo+1 by omega];exact hf.symm
   rw[if_neg c3]
  simp only[if_neg ck,aco];exact⟨trivial,trivial⟩
 have qn:Cq F ([]++r.map (a8.mp ψ hL)) T' B':=by
  refine Cq.edit (X:=[x,y]) (r:=r) q (jU _ _ _) (fun w hw=>Tb (q.ok w (inr w hw)).bad) (fun u hu v hv cu cv e=>?_) (fun u hu v hv pu pv e1 e2=>?_) (fun _ h=>by cases h) List.Pairwise.nil List.Pairwise.nil (fun _ h=>by cases h) (fun _ h=>by cases h) ?_ (fun _ h=>by cases h) (fun u hu cu=>?_) (fun _ h=>by cases h) (fun u hu pu=>?_) (fun _ h=>by cases h) (fun u hu pu=>?_) (fun k hk=>?_) ?_
  .rw[Di,Di] at e;exact e
  .have e1':u.k.gate=v.k.gate:=by rw[ni,ni] at e1;exact e1
   refine⟨e1',?_⟩;have e2:(hL u.k).aag=(hL v.k).aag:=e2;rw[rk' u hu pu,rk' v hv pv] at e2;by_cases cg':u.k.gate=x.k.gate
   .have o1:=oth u hu pu cg';have o2:=oth v hv pv (e1'▸cg');have cv:v.k.gate=x.k.gate:=e1'▸cg';simp only[cg',cv,true_and] at e2;split at e2<;>split at e2<;>omega
   have cv:¬v.k.gate=x.k.gate:=e1'▸cg';simp only[cg',cv,false_and,if_false] at e2;exact e2
  .rw[aaZ,mC,<- hcC r];exact q.ev
  .rw[aaZ,mC,Di,<- hcC r];exact q.ids u (inr u hu) cu
  .rw[aaZ,ni,mG];show 1<=(hL u.k).aag/\(hL u.k).aag<=_;rw[rk' u hu pu];have h1:=q.rr u (inr u hu) pu;rw[hcG r] at h1;have gu:=((dG pu).1 (q.ok u (inr u hu)).bad).1.1.1;by_cases cg':u.k.gate=x.k.gate
   .have o1:=oth u hu pu cg';rw[cg'] at h1 ⊢;rw[if_pos rfl] at h1;rw[hcG r,if_pos rfl] at anR;simp only[true_and];split<;>omega
   simp only[cg',false_and,if_false];rw[if_neg (by omega)] at h1;exact h1
  .obtain⟨t1,t2⟩:=key (TF ls) m2 u hu pu;obtain⟨b1,b2⟩:=key (BF ls) m3 u hu pu;exact⟨⟨t1,b1⟩,t2,b2⟩
  .rw[aaZ,mG];obtain⟨t1,t2⟩:=keyg (TF ls) m2 k;obtain⟨b1,b2⟩:=keyg (BF ls) m3 k;obtain⟨_,t3⟩:=keyg (TF ls) m2 (k+1);obtain⟨_,b3⟩:=keyg (BF ls) m3 (k+1);have:=q.gt k hk;exact⟨by rw[show T' k _=_ from t1,this.1];exact t3.symm,by rw[show B' k _=_ from b1,this.2];exact b3.symm⟩
  rw[aaZ,mG];obtain⟨t1,t2⟩:=keyg (TF ls) m2 F;obtain⟨b1,b2⟩:=keyg (BF ls) m3 F;obtain⟨_,t3⟩:=keyg (TF ls) m2 0;obtain⟨_,b3⟩:=keyg (BF ls) m3 0;have:=q.gz;exact⟨by rw[show T' F _=_ from t1,this.1];exact t3.symm,by rw[show B' F _=_ from b1,this.2];exact b3.symm⟩
 have aek:Cert F (r.map fun w=>ED x.k.gate (lo+1) (-2) w.p):=by
  refine Cq.done (X:=[x,y]) (r:=r) (X':=[]) (L:=[mc,x.o.l,x.o.r]) (N:=[]) (V:=dU ls) (z':=r.map (a8.mp ψ hL)) qn c.nd (fun t ht=>c.wit t ht) (List.Perm.refl _) ⟨s.mp ψ,?_⟩ ?_ ?_ (fun t _ ht=>Ke fun e=>ht (by simp[e])) (fun w hw t ht ew hL'=>?_) ach (fun t ht=>by cases ht) (fun t ht=>by cases ht) (by rw[ac3];exact aaj _) ?_
  .have:=xh (ψ:=ψ) (h:=hL) hpr;rwa[show y.o.mp ψ=s.mp ψ from m1] at this
  .rw[ab3];refine ac2 fun w _=>?_;rw[Yr];rfl
  .refine⟨w0.mp ψ hL,?_,?_⟩
   .rw[aaZ];exact aaF.2 ⟨w0,hw0,rfl⟩
   show(hL w0.k).aH=true;rw[(jU _ _ _).aH];exact pw0
  .obtain⟨v,hv,hvo⟩:=oD hpr aqq;simp only[aat,aa9,or_false,not_or] at hw hL';have key:t=s.l\/t=s.r:=by
    rcases hw with rfl|rfl
    .rcases ew with ew|ew
     .exact absurd ew hL'.2.1
     exact absurd ew hL'.2.2
    rcases m4 t ew with h|h
    .exact absurd h hL'.1
    exact h
   refine⟨v.mp ψ hL,by rw[aaZ];exact aaF.2 ⟨v,hv,rfl⟩,?_⟩;show t=ψ v.o.l\/t=ψ v.o.r;rw[hvo];have:ψ t=t:=Ke hL'.1;rcases key with h|h
   .left;rw[<- h,this]
   right;rw[<- h,this]
  rw[aaZ,mC,mP];have h1:=g.nw;rw[hcC] at h2;rw[hcP] at h3;simp only[aaL,aaz];omega
 obtain⟨u,v,k1,k2⟩:=FV (l:=pieces ls) (a:=a) (by rw[aB];exact ha) (by rw[aB];omega) (by rw[afE];rfl);rw[aB] at k1;show Cert F ((iD (pieces ls) fun k _=>decide (k=a)||decide (k=(a+1)%ls.length)).map (ED x.k.gate (Ms x.k.aag y.k.aag) (-2)));rw[k1,hmx,abq];refine Cert.tV ?_;rw[<- abq,<- k2,ab3];exact aek
end
section
variable {F:Nat} {ls:List Let}
theorem qW(g:cV F ls){pl:Nat}{edges:List Nat}{e0:Nat}(he0:e0<ls.length)(h:kV F ls pl edges e0=true):∃w,w∈cP (cq ls) (nD ls)/\(gI F ls w).places.length=pl/\((w.filter fun x=>decide (x<2*ls.length)).length=edges.length)/\ ∀e∈edges,∃d,d∈w/\d<2*ls.length/\d/2=e:=by
 have key:∀f∈aW F ls,wK f pl edges=true->∃w,w∈cP (cq ls) (nD ls)/\(gI F ls w).places.length=pl/\((w.filter fun x=>decide (x<2*ls.length)).length=edges.length)/\ ∀e∈edges,∃d,d∈w/\d<2*ls.length/\d/2=e:=by intro f hf hc;obtain⟨w,hw,rfl⟩:=aaF.1 hf;unfold wK at hc;simp only[aay,beq_iff_eq,aba] at hc;obtain⟨h1,h2,h3⟩:=hc;rw[nG] at h1;refine⟨w,hw,h2,h1,fun e he=>?_⟩;have h4:=h3 e he;unfold zM at h4;obtain⟨d,hd,hde⟩:=acJ.1 (show 0<((gI F ls w).aap.countP fun d=>d/2==e) by omega);rw[nG] at hd;obtain⟨d1,d2⟩:=ab4.1 hd;exact⟨d,d1,by simpa using d2,by simpa using hde⟩
 unfold kV at h;rw[acF] at h;rcases h with h|h
 .exact key _ (zy (by omega)) h
 exact key _ (zy (by omega)) h
theorem EK{D:List Nat}(h:D.length=2){x y:Nat}(hx:x∈D)(hy:y∈D)(hne:x≠y){z:Nat}(hz:z∈D):z=x\/z=y:=by
 match D,h with
 |[p,q],_=>simp only[aat,aa9,or_false] at hx hy hz;omega
theorem Pf{e:Nat}(he:e<ls.length){l:Let}(hl:ls[nx ls e]?=some l)(hc:l.aD=true):cq ls (2*e)=aI ls.length (bN ls (nx ls e)) (gX l):=by
 have:2*e=gJ ls.length (nx ls e) true:=by unfold gJ nx;rw[if_pos rfl,jX he]
 rw[this,mN hl hc];unfold gX;cases (l.over==(l.sign==1))<;>rfl
theorem Pg{e:Nat}{l:Let}(hl:ls[e]?=some l)(hc:l.aD=true):cq ls (2*e+1)=aI ls.length (bN ls e) (!gX l):=by have:2*e+1=gJ ls.length e false:=rfl;rw[this,mN hl hc];unfold gX;cases (l.over==(l.sign==1))<;>rfl
theorem pX{v:Nat}{b:Bool}{x:Nat}(h:aI ls.length v b=x):(b=true/\x=2*v)\/(b=false/\x=2*((v+ls.length-1)%ls.length)+1):=by
 cases b
 .exact .inr ⟨rfl,h.symm⟩
 exact .inl ⟨rfl,h.symm⟩
theorem ll{v e:Nat}(hv:v<ls.length)(h:(v+ls.length-1)%ls.length=e):v=nx ls e:=by unfold nx;rw[<- h,ft hv]
theorem j8(ok:dS F ls){v u:Nat}{l m:Let}(hl:ls[v]?=some l)(hc:l.aD=true)(hm:ls[u]?=some m)(ho:bN ls v=u):gX m= !gX l/\m.aD=true/\m.id=l.id:=by obtain⟨_,w,hw,wc,wi,wo,ws⟩:=bt ok.cr hl hc;rw[ho,hm] at hw;cases hw;refine⟨?_,wc,wi⟩;unfold gX;rw[wo,ws];cases l.over<;>cases (l.sign==1)<;>rfl
theorem ua(ok:dS F ls){v:Nat}{l:Let}(hl:ls[v]?=some l)(hc:l.aD=true):bN ls v<ls.length:=by obtain⟨_,w,hw,_⟩:=bt ok.cr hl hc;exact(aai.1 hw).1
theorem FB(g:cV F ls){a b:Nat}(ha:a<ls.length)(hb:b<ls.length){lx ly lu lv:Let}(hx:ls[a]?=some lx)(hy:ls[nx ls a]?=some ly)(hu:ls[b]?=some lu)(hv:ls[nx ls b]?=some lv)
  (cx:lx.aD=true) (cy:ly.aD=true) (cu:lu.aD=true) (cv:lv.aD=true) (hxy:lx.id≠ly.id) (huv:lu.id≠lv.id) (hab:a≠b) (h:kV F ls 0 [a,b] a=true):gX lx= !gX ly:=by
 have ok:=g.ok;obtain⟨w,hw,_,hlen,hE⟩:=qW g ha h;obtain⟨da,da1,da2,da3⟩:=hE a (by simp);obtain⟨db,db1,db2,db3⟩:=hE b (by simp);have hne:da≠db:=by omega
 have inD:∀d,d∈w->d<2*ls.length->d∈w.filter fun x=>decide (x<2*ls.length):=fun d h1 h2=>ab4.2 ⟨h1,by simpa using h2⟩;have two:∀d,d∈w->d<2*ls.length->d=da\/d=db:=fun d h1 h2=>EK hlen (inD da da1 da2) (inD db db1 db2) hne (inD d h1 h2);have nin:∀d,d∈w->cq ls d∈w:=fun d hd=>fI (maps ok) hw hd;have str:∀(v:Nat) (b:Bool),v<ls.length->aI ls.length v b<2*ls.length:=fun v b hv=>by have:=pM hv (!b);rw[<- jf] at this;have:=sK this;rwa[sJ] at this
 have oy:=ua ok hy cy;have ox:=ua ok hx cx;have ou:=ua ok hu cu;have ov:=ua ok hv cv
 -- where the walk goes on
 have na:(da=2*a/\cq ls da=aI ls.length (bN ls (nx ls a)) (gX ly))\/(da=2*a+1/\cq ls da=aI ls.length (bN ls a) (!gX lx)):=by
  rcases acs da with c|c
  .have:da=2*a:=by omega
   exact .inl ⟨this,by rw[this];exact Pf ha hy cy⟩
  have:da=2*a+1:=by omega
  exact .inr ⟨this,by rw[this];exact Pg hx cx⟩
 have nb:(db=2*b/\cq ls db=aI ls.length (bN ls (nx ls b)) (gX lv))\/(db=2*b+1/\cq ls db=aI ls.length (bN ls b) (!gX lu)):=by
  rcases acs db with c|c
  .have:db=2*b:=by omega
   exact .inl ⟨this,by rw[this];exact Pf hb hv cv⟩
  have:db=2*b+1:=by omega
  exact .inr ⟨this,by rw[this];exact Pg hu cu⟩
 have ta:cq ls da=da\/cq ls da=db:=two _ (nin _ da1) (by rcases na with ⟨_,e⟩|⟨_,e⟩<;>rw[e]<;>exact str _ _ (by assumption));have tb:cq ls db=da\/cq ls db=db:=two _ (nin _ db1) (by rcases nb with ⟨_,e⟩|⟨_,e⟩<;>rw[e]<;>exact str _ _ (by assumption));have ta':cq ls da=db:=by
  rcases ta with e|e
  .exfalso;rcases na with ⟨e1,e2⟩|⟨e1,e2⟩
   .rw[e] at e2;rcases pX e2.symm with ⟨_,e3⟩|⟨_,e3⟩
    .exact hxy (j8 ok hy cy hx (by omega)).2.2
    omega
   rw[e] at e2;rcases pX e2.symm with ⟨_,e3⟩|⟨_,e3⟩
   .omega
   exact hxy (j8 ok hx cx hy (ll ox (by omega))).2.2.symm
  exact e
 have tb':cq ls db=da:=by
  rcases tb with e|e
  .exact e
  exfalso;rcases nb with ⟨e1,e2⟩|⟨e1,e2⟩
  .rw[e] at e2;rcases pX e2.symm with ⟨_,e3⟩|⟨_,e3⟩
   .exact huv (j8 ok hv cv hu (by omega)).2.2
   omega
  rw[e] at e2;rcases pX e2.symm with ⟨_,e3⟩|⟨_,e3⟩
  .omega
  exact huv (j8 ok hu cu hv (ll ou (by omega))).2.2.symm
 rcases na with ⟨ea,e1⟩|⟨ea,e1⟩<;>rcases nb with ⟨eb,e2⟩|⟨eb,e2⟩<;>rw[ta'] at e1<;>rw[tb'] at e2
 .rcases pX e1.symm with ⟨g1,e3⟩|⟨g1,e3⟩<;>rcases pX e2.symm with ⟨g2,e4⟩|⟨g2,e4⟩<;>try omega
  have:=(j8 ok hv cv hx (by omega)).1;rw[this,g1,g2]
 .rcases pX e1.symm with ⟨g1,e3⟩|⟨g1,e3⟩<;>rcases pX e2.symm with ⟨g2,e4⟩|⟨g2,e4⟩<;>try omega
  have:=(j8 ok hu cu hx (by omega)).1;rw[this,g1,g2];rfl
 .rcases pX e1.symm with ⟨g1,e3⟩|⟨g1,e3⟩<;>rcases pX e2.symm with ⟨g2,e4⟩|⟨g2,e4⟩<;>try omega
  have:=(j8 ok hv cv hy (ll ov (by omega))).1;rw[this,g2];revert g1;cases gX lx<;>simp
 rcases pX e1.symm with ⟨g1,e3⟩|⟨g1,e3⟩<;>rcases pX e2.symm with ⟨g2,e4⟩|⟨g2,e4⟩<;>try omega
 have:=(j8 ok hu cu hy (ll ou (by omega))).1;rw[this];revert g1 g2;cases gX lx<;>cases gX lu<;>simp
theorem Jz{x p w:a8}(h1:Xr x p)(h2:Xr x w)(h3:Xr p w)(cx:x.k.aD=true)(cp:p.k.aD=true)(cw:w.k.aD=true)(e1:x.k.id=p.k.id):w.k.id≠x.k.id:=by intro e2;have a:=(h1 cx cp e1).ov;have b:=(h2 cx cw e2.symm).ov;have d:=(h3 cp cw (by rw[<- e1,e2])).ov;rw[b] at a;rw[d] at a;revert a;cases w.k.over<;>simp
theorem OG{α:Type}{z:List α}{a j:Nat}(ha:a<z.length)(hj:j<z.length):(z.drop a++z.take a)[j]?=z[(a+j)%z.length]? :=by
 by_cases h:a+j<z.length
 .rw[acN (by rw[abk];omega),acB,aa7 h]
 rw[acA (by rw[abk];omega),abk,aby,if_pos (by omega),Nat.mod_eq_sub_mod (by omega),aa7 (by omega)];congr 1;omega
theorem Lz{α:Type}{r:List α}{j:Nat}{u v:α}(hu:r[j]?=some u)(hv:r[j+1]?=some v):r=r.take j++u::v::r.drop (j+2):=by
 obtain⟨h1,e1⟩:=aai.1 hu;obtain⟨h2,e2⟩:=aai.1 hv;have:r.drop j=u::v::r.drop (j+2):=by rw[<- abY h1,e1,<- abY h2,e2]
 rw[<- this,abA]
end
theorem W3{p q w:Int}{l:Let}(hc:l.aD=true)(hw:l.id=w):(fv [p,q] l).id=w-(if p<w then 1 else 0)-(if q<w then 1 else 0):=by rw[Kk hc,hw];by_cases c1:p<w<;>by_cases c2:q<w<;>simp[c1,c2]<;>omega
section
variable {F:Nat} {ls:List Let}
theorem ZS(g:cV F ls){a b:Nat}(ha:a<ls.length)(hb:b<ls.length){L:List Pc}(h:Sh F ls a b=some L):Cert F L:=by
 obtain⟨x,y,r0,s,e,hx,hy,c,hp,afE,hzx,hzy,aaM⟩:=Hq g ha;have q:=c.q;have hzl:=uU ls;unfold Sh at h;split at h
 case isFalse=>cases h
 rename_i hc;simp only[aay,acF,beq_iff_eq,abB,beq_eq_false_iff_ne] at hc;obtain⟨hbo,hne,anH,hn1,hn2,afR⟩:=hc;have pa:pA ls a=x.p:=eD hx;have pb:pA ls (nx ls a)=y.p:=eD hy;cases h;have hnb:nx ls b<ls.length:=aaN _ (by omega);have hna:nx ls a<ls.length:=aaN _ (by omega);obtain⟨u,hzu⟩:=ao (ls:=zF ls) (k:=b) (by omega);obtain⟨v,hzv⟩:=ao (ls:=zF ls) (k:=nx ls b) (by omega);have pc:pA ls b=u.p:=eD (by rw[<- Hp,aa0,hzu];rfl);have pd:pA ls (nx ls b)=v.p:=eD (by rw[<- Hp,aa0,hzv];rfl);rw[pa,pb] at hne;rw[pa,pb,pc,pd] at anH
 -- they are visits, two over and two under
 have kinds:x.k.aD=true/\y.k.aD=true/\u.k.aD=true/\v.k.aD=true/\x.k.over=y.k.over/\u.k.over=v.k.over/\x.k.over≠u.k.over:=by
  have bo:∀e ov,uT ls e ov=true->(pA ls e).l.aD=true/\(pA ls (nx ls e)).l.aD=true/\(pA ls e).l.over=ov/\(pA ls (nx ls e)).l.over=ov:=fun e ov h=>by unfold uT at h;simp only[aay,beq_iff_eq] at h;obtain⟨h1,h2,h3,h4⟩:=h;exact⟨by unfold Let.aD;rw[h1];rfl,by unfold Let.aD;rw[h2];rfl,h3,h4⟩
  rcases hbo with ⟨h1,h2⟩|⟨h1,h2⟩<;>obtain⟨a1,a2,a3,a4⟩:=bo _ _ h1<;>obtain⟨b1,b2,b3,b4⟩:=bo _ _ h2
  all_goals
   rw[pa] at a1 a3;rw[pb] at a2 a4;rw[pc] at b1 b3;rw[pd] at b2 b4;refine⟨a1,a2,b1,b2,?_,?_,?_⟩
   .show x.p.l.over=y.p.l.over;rw[a3,a4]
   .show u.p.l.over=v.p.l.over;rw[b3,b4]
   show x.p.l.over≠u.p.l.over;rw[a3,b3];decide
 obtain⟨cx,cy,cu,cv,ov1,ov2,ov3⟩:=kinds;have hxy:x.k.id≠y.k.id:=hne;have agU:(u.k.id=x.k.id/\v.k.id=y.k.id)\/(u.k.id=y.k.id/\v.k.id=x.k.id):=anH;have huv:u.k.id≠v.k.id:=by
  rcases agU with ⟨h1,h2⟩|⟨h1,h2⟩
  .rw[h1,h2];exact hxy
  rw[h1,h2];exact hxy.symm
 have hab:a≠b:=by
  rintro rfl
  rw[hzx] at hzu;cases hzu;exact ov3 rfl
 have lx:ls[a]?=some x.k:=by have:=mU hzx;rwa[fq] at this
 have ly:ls[nx ls a]?=some y.k:=by have:=mU hzy;rwa[fq] at this
 have lu:ls[b]?=some u.k:=by have:=mU hzu;rwa[fq] at this
 have lv:ls[nx ls b]?=some v.k:=by have:=mU hzv;rwa[fq] at this
 have hg:=FB g ha hb lx ly lu lv cx cy cu cv hxy huv hab afR
 -- where the second edge stands, from the first one on
 obtain⟨j,hj1,hj2,hj3⟩:∃j,j+3<ls.length/\(a+(j+2))%ls.length=b/\(a+(j+3))%ls.length=nx ls b:=by
  have ai0:nx ls a≠b:=by intro e;rw[e,hzu] at hzy;cases hzy;exact ov3 ov1
  have akR:nx ls b≠a:=by intro e;rw[e,hzx] at hzv;cases hzv;exact ov3 ov2.symm
  unfold nx at ai0 akR ⊢;by_cases c1:a<b
  .have e1:(a+1)%ls.length=a+1:=aa7 (by omega);rw[e1] at ai0;have h2:b≠a+1:=fun h=>ai0 h.symm;have h3:¬(b+1=ls.length/\a=0):=fun⟨h3,h4⟩=>akR (by rw[h3,acK,h4]);refine⟨b-a-2,by omega,?_,?_⟩
   .rw[show a+(b-a-2+2)=b by omega,aa7 hb]
   rw[show a+(b-a-2+3)=b+1 by omega]
  have e1:(b+1)%ls.length=b+1:=aa7 (by omega);rw[e1] at akR;have h3:¬(a+1=ls.length/\b=0):=fun⟨h3,h4⟩=>ai0 (by rw[h3,acK,h4]);refine⟨b+ls.length-a-2,by omega,?_,?_⟩
  .rw[show a+(b+ls.length-a-2+2)=b+ls.length by omega,acn,aa7 hb]
  rw[show a+(b+ls.length-a-2+3)=b+1+ls.length by omega,acn]
 have hru:r0[j]?=some u:=by have:=OG (z:=zF ls) (a:=a) (j:=j+2) (by omega) (by omega);rw[e,hzl,hj2,hzu] at this;exact this
 have hrv:r0[j+1]?=some v:=by have:=OG (z:=zF ls) (a:=a) (j:=j+3) (by omega) (by omega);rw[e,hzl,hj3,hzv] at this;exact this
 have hsp:=Lz hru hrv;obtain⟨c1,c2,hr0,arq,ag7⟩:∃c1 c2,r0=c1++u::v::c2/\c1.length=j/\c2.length+j+4=ls.length:=by
  refine⟨_,_,hsp,?_,?_⟩
  .have:=(aai.1 hru).1;rw[aa2];omega
  have h1:=(aai.1 hrv).1;have h2:=aaM.length_eq;rw[hzl] at h2;simp only[aaz] at h2;rw[abk];omega
 subst hr0
 -- the two paths that are left
 obtain⟨hs1,hs2,hpr⟩:=hp;obtain⟨s2,hp1,hu1,hv1,hp2⟩:=qE.1 hpr;have hj0:j≠0:=by
  rintro rfl
  exact hn1 hj2
 have hj9:c2≠[]:=by
  rintro rfl
  simp only[aaL] at ag7;refine hn2 ?_;rw[<- hj2,Nat.mod_add_mod,show a+(j+2)+2=a+ls.length by omega,acn,aa7 ha]
 have hc1:c1≠[]:=by rintro rfl;simp at arq;omega
 have q4:Cq F ([x,y,u,v]++(c1++c2)) (TF ls) (BF ls):=by refine q.perm ?_;refine List.Perm.cons x (List.Perm.cons y ?_);exact List.perm_middle.trans (List.Perm.cons u List.perm_middle)
 obtain⟨w1,q5⟩:=ab0.1 q4.cr;obtain⟨w2,q6⟩:=ab0.1 q5;obtain⟨w3,q7⟩:=ab0.1 q6;obtain⟨w4,q8⟩:=ab0.1 q7;have rxu:Xr x u:=w1 u (by simp);have rxv:Xr x v:=w1 v (by simp);have ryu:Xr y u:=w2 u (by simp);have ryv:Xr y v:=w2 v (by simp);have adq:∀w∈c1++c2,w.k.aD=true->w.k.id≠x.k.id/\w.k.id≠y.k.id:=fun w hw cw=>by
  have a1:Xr x w:=w1 w (adl [y,u,v] hw);have a2:Xr y w:=w2 w (adl [u,v] hw);have a3:Xr u w:=w3 w (adl [v] hw);have a4:Xr v w:=w4 w hw;rcases agU with ⟨h1,h2⟩|⟨h1,h2⟩
  .exact⟨Jz rxu a1 a3 cx cu cw h1.symm,Jz ryv a2 a4 cy cv cw h2.symm⟩
  exact⟨Jz rxv a1 a4 cx cv cw h2.symm,Jz ryu a2 a3 cy cu cw h1.symm⟩
 have bx:=(q4.ok x (by simp)).cb cx;have by':=(q4.ok y (by simp)).cb cy
 have bu:=(q4.ok u (by simp)).cb cu;have bv:=(q4.ok v (by simp)).cb cv;rw[hs1] at bx;rw[hs2] at by'
 rw[hv1] at bv
 -- which names are merged, and which are lost
 obtain⟨mc,me,bg,m1,m2,m3⟩:∃mc me bg:Nat,y.o.mp (gV mc me)=s.mp (gV mc me)/\v.o.mp (gV mc me)=s2.mp (gV mc me)/\
   (∀t,(t=x.o.l\/t=x.o.r)\/(t=y.o.l\/t=y.o.r)\/(t=u.o.l\/t=u.o.r)\/(t=v.o.l\/t=v.o.r)->t=mc\/t=bg\/(t=s.l\/t=s.r)\/(t=s2.l\/t=s2.r)):=by
  have hb1:y.o.b=s.b:=by rw[<- by',<- bx]
  have hb2:v.o.b=s2.b:=by rw[<- bv,<- bu,hu1]
  have fin:∀mc me,gV mc me y.o.l=gV mc me s.l->gV mc me y.o.r=gV mc me s.r->gV mc me v.o.l=gV mc me s2.l->gV mc me v.o.r=gV mc me s2.r->y.o.mp (gV mc me)=s.mp (gV mc me)/\v.o.mp (gV mc me)=s2.mp (gV mc me):=fun mc me k1 k2 k3 k4=>⟨iZ.ext' k1 k2 hb1,iZ.ext' k3 k4 hb2⟩;rcases agU with ⟨h1,h2⟩|⟨h1,h2⟩
  .have p1:=(rxu cx cu h1.symm).x4;have p2:=(ryv cy cv h2.symm).x4;rw[hs1,hu1] at p1;rw[hs2,hv1] at p2;obtain⟨a1,a2,a3,a4⟩:=p1;obtain⟨b1,b2,b3,b4⟩:=p2;cases hgx:gX x.k
   .have hgy:gX y.k=true:=by revert hg;rw[hgx];cases gX y.k<;>simp
    rw[hgx] at a1 a2 a3 a4;rw[hgy] at b1 b2 b3 b4;simp only[aaE,if_false,if_true] at a1 a2 a3 a4 b1 b2 b3 b4;refine⟨y.o.l,s.l,x.o.r,?_⟩;have f:=fin y.o.l s.l (by rw[kQ,kO]) (by rw[b2,a4]) (by rw[<- b1,a3]) (by rw[b4,<- a1,kQ,kO]);refine⟨f.1,f.2,?_⟩;rintro t ((rfl|rfl)|(rfl|rfl)|(rfl|rfl)|(rfl|rfl))
    .exact .inr (.inr (.inr (.inl a3.symm)))
    .exact .inr (.inl rfl)
    .exact .inl rfl
    .exact .inr (.inr (.inl (.inr (b2.trans a4))))
    .exact .inr (.inl a2.symm)
    .exact .inr (.inr (.inl (.inr a4)))
    .exact .inr (.inr (.inr (.inl (by rw[<- b1,a3]))))
    exact .inl b4
   have hgy:gX y.k=false:=by revert hg;rw[hgx];cases gX y.k<;>simp
   rw[hgx] at a1 a2 a3 a4;rw[hgy] at b1 b2 b3 b4;simp only[aaE,if_false,if_true] at a1 a2 a3 a4 b1 b2 b3 b4;refine⟨y.o.r,s.r,x.o.l,?_⟩;have f:=fin y.o.r s.r (by rw[<- b3,a1]) (by rw[kQ,kO]) (by rw[a3,<- b2,kQ,kO]) (by rw[b4,a2]);refine⟨f.1,f.2,?_⟩;rintro t ((rfl|rfl)|(rfl|rfl)|(rfl|rfl)|(rfl|rfl))
   .exact .inr (.inl rfl)
   .exact .inr (.inr (.inr (.inr a2)))
   .exact .inr (.inr (.inl (.inl (by rw[<- b3,a1]))))
   .exact .inl rfl
   .exact .inr (.inr (.inl (.inl a1.symm)))
   .exact .inr (.inl a4)
   .exact .inl b2.symm
   exact .inr (.inr (.inr (.inr (b4.trans a2))))
  have p1:=(rxv cx cv h2.symm).x4;have p2:=(ryu cy cu h1.symm).x4;rw[hs1,hv1] at p1;rw[hs2,hu1] at p2;obtain⟨a1,a2,a3,a4⟩:=p1;obtain⟨b1,b2,b3,b4⟩:=p2;cases hgx:gX x.k
  .have hgy:gX y.k=true:=by revert hg;rw[hgx];cases gX y.k<;>simp
   rw[hgx] at a1 a2 a3 a4;rw[hgy] at b1 b2 b3 b4;simp only[aaE,if_false,if_true] at a1 a2 a3 a4 b1 b2 b3 b4;refine⟨y.o.r,s.r,x.o.l,?_⟩;have f:=fin y.o.r s.r (by rw[a1,<- b4]) (by rw[kQ,kO]) (by rw[<- a2,b3]) (by rw[a4,<- b2,kQ,kO]);refine⟨f.1,f.2,?_⟩;rintro t ((rfl|rfl)|(rfl|rfl)|(rfl|rfl)|(rfl|rfl))
   .exact .inr (.inl rfl)
   .exact .inr (.inr (.inr (.inl b3.symm)))
   .exact .inr (.inr (.inl (.inl (by rw[a1,<- b4]))))
   .exact .inl rfl
   .exact .inr (.inl b1.symm)
   .exact .inr (.inr (.inl (.inl (by rw[a1]))))
   .exact .inr (.inr (.inr (.inl (by rw[<- a2,b3]))))
   exact .inr (.inr (.inl (.inr a4)))
  have hgy:gX y.k=false:=by revert hg;rw[hgx];cases gX y.k<;>simp
  rw[hgx] at a1 a2 a3 a4;rw[hgy] at b1 b2 b3 b4;simp only[aaE,if_false,if_true] at a1 a2 a3 a4 b1 b2 b3 b4;refine⟨y.o.l,s.l,x.o.r,?_⟩;have f:=fin y.o.l s.l (by rw[kQ,kO]) (by rw[b2,a3]) (by rw[<- a1,b3,kQ,kO]) (by rw[a4,b1]);refine⟨f.1,f.2,?_⟩;rintro t ((rfl|rfl)|(rfl|rfl)|(rfl|rfl)|(rfl|rfl))
  .exact .inr (.inr (.inr (.inr b1)))
  .exact .inr (.inl rfl)
  .exact .inl rfl
  .exact .inr (.inr (.inl (.inr (by rw[b2,a3]))))
  .exact .inr (.inr (.inl (.inr a3)))
  .exact .inr (.inl b4)
  .exact .inr (.inr (.inl (.inl a1.symm)))
  exact .inr (.inr (.inr (.inr (a4.trans b1))))
 have hcC:∀z:List a8,aA Let.aD (be ([x,y,u,v]++z))=aA Let.aD (be z)+4:=fun z=>by rw[Ei,bR,bR,bR,bR,Eh,(NC cx).1,(NC cy).1,(NC cu).1,(NC cv).1];omega
 have hcP:∀z:List a8,aA Let.aH (be ([x,y,u,v]++z))=aA Let.aH (be z):=fun z=>by rw[Ei,bR,bR,bR,bR,Eh,(NC cx).2,(NC cy).2,(NC cu).2,(NC cv).2];omega
 have hcG:∀(z:List a8) k,cg (be ([x,y,u,v]++z)) k=cg (be z) k:=fun z k=>by show aA _ _=aA _ _;rw[Ei,bR,bR,bR,bR,Eh,CI k cx,CI k cy,CI k cu,CI k cv];simp
 have hP4:([x,y,u,v]++(c1++c2)).Perm (zF ls):=by refine List.Perm.trans (List.Perm.symm ?_) aaM;refine List.Perm.cons x (List.Perm.cons y ?_);exact List.perm_middle.trans (List.Perm.cons u List.perm_middle)
 have h2:aA Let.aD (be ([x,y,u,v]++(c1++c2)))=aA Let.aD ls:=by rw[jl hP4,fq]
 have h3:aA Let.aH (be ([x,y,u,v]++(c1++c2)))=aA Let.aH ls:=by rw[jl hP4,fq]
 have hev:=q4.ev
 let ψ:=gV mc me
 let hL:=fv [x.k.id,y.k.id]
 let r:=c1++c2
 have mC:aA Let.aD (be (r.map (a8.mp ψ hL)))=aA Let.aD (be r):=pI (fun l=>(fX _).aD l) r;have mP:aA Let.aH (be (r.map (a8.mp ψ hL)))=aA Let.aH (be r):=pI (fun l=>(fX _).aH l) r;have mG:∀k,cg (be (r.map (a8.mp ψ hL))) k=cg (be r) k:=fun k=>pI (fun l=>FP _ k l) r;have afK:∀w∈[x,y,u,v]++r,w.k.aD=true->1<=w.k.id/\w.k.id<=((aA Let.aD (be r)/2:Nat):Int)+2:=fun w hw hc=>by have:=q4.ids w hw hc;rw[hcC] at this;show 1<=w.k.id/\w.k.id<=((aA Let.aD (be (c1++c2))/2:Nat):Int)+2;omega
 have idx:=afK x (by simp) cx;have idy:=afK y (by simp) cy;have inr:∀w∈r,w∈[x,y,u,v]++r:=fun w hw=>adl _ hw;have qn:Cq F ([]++r.map (a8.mp ψ hL)) (fun G k=>ψ (TF ls G k)) (fun G k=>ψ (BF ls G k)):=by
  refine Cq.edit (X:=[x,y,u,v]) (r:=r) q4 (fX _) (fun w hw=>FO (q4.ok w (inr w hw)).bad) (fun p hp o ho cp co e=>?_) (fun p hp o ho pp po e1 e2=>?_) (fun _ h=>by cases h) List.Pairwise.nil List.Pairwise.nil (fun _ h=>by cases h) (fun _ h=>by cases h) ?_ (fun _ h=>by cases h) (fun p hp cp=>?_) (fun _ h=>by cases h) (fun p hp pp=>?_) (fun _ h=>by cases h) (fun p hp pp=>?_) (fun k hk=>?_) ?_
  .obtain⟨n1,n2⟩:=adq p hp cp;obtain⟨n3,n4⟩:=adq o ho co;rw[W3 cp rfl,W3 co rfl] at e;split at e<;>split at e<;>split at e<;>split at e<;>omega
  .have e1:(fv [x.k.id,y.k.id] p.k).gate=(fv [x.k.id,y.k.id] o.k).gate:=e1;have e2:(fv [x.k.id,y.k.id] p.k).aag=(fv [x.k.id,y.k.id] o.k).aag:=e2;rw[mV pp,mV po] at e1 e2;exact⟨e1,e2⟩
  .rw[aaZ,mC];rw[hcC] at hev;show aA Let.aD (be (c1++c2))%2=0;omega
  .rw[aaZ,mC];show 1<=(fv [x.k.id,y.k.id] p.k).id/\(fv [x.k.id,y.k.id] p.k).id<=_;rw[W3 cp rfl];have h1:=afK p (inr p hp) cp;obtain⟨n1,n2⟩:=adq p hp cp;have hxy':=hxy;split<;>split<;>omega
  .rw[aaZ,mG];show 1<=(fv [x.k.id,y.k.id] p.k).aag/\(fv [x.k.id,y.k.id] p.k).aag<=((cg (be r) (fv [x.k.id,y.k.id] p.k).gate.toNat:Nat):Int);rw[mV pp,<- hcG r];exact q4.rr p (inr p hp) pp
  .show(ψ _=ψ (TF ls (fv [x.k.id,y.k.id] p.k).gate.toNat ((fv [x.k.id,y.k.id] p.k).aag.toNat-1))/\ψ _=ψ (BF ls (fv [x.k.id,y.k.id] p.k).gate.toNat ((fv [x.k.id,y.k.id] p.k).aag.toNat-1)))/\ψ _=ψ (TF ls (fv [x.k.id,y.k.id] p.k).gate.toNat (fv [x.k.id,y.k.id] p.k).aag.toNat)/\ψ _=ψ (BF ls (fv [x.k.id,y.k.id] p.k).gate.toNat (fv [x.k.id,y.k.id] p.k).aag.toNat);rw[mV pp];exact⟨⟨rfl,rfl⟩,rfl,rfl⟩
  .rw[aaZ,mG,<- hcG r];obtain⟨t1,t2⟩:=q4.gt k hk;exact⟨congrArg ψ t1,congrArg ψ t2⟩
  rw[aaZ,mG,<- hcG r];obtain⟨t1,t2⟩:=q4.gz;exact⟨congrArg ψ t1,congrArg ψ t2⟩
 have aek:Cert F (r.map fun w=>pY [x.k.id,y.k.id] w.p):=by
  refine Cq.done (X:=[x,y,u,v]) (r:=r) (X':=[]) (L:=[mc,bg]) (N:=[]) (V:=dU ls) (z':=r.map (a8.mp ψ hL)) qn ac9 (fun t ht=>?_) (List.Perm.refl _) ⟨s.mp ψ,?_⟩ ?_ ?_ (fun t _ ht=>Ke fun e=>ht (by simp[e])) (fun w hw t ht ew hL'=>?_) ach (fun t ht=>by cases ht) (fun t ht=>by cases ht) (by rw[ac3];exact aaj _) ?_
  .obtain⟨w,hw,ew⟩:=c.wit t ht;refine⟨w,?_,ew⟩;have:w∈zF ls:=aaM.mem_iff.1 hw;exact hP4.mem_iff.2 this
  .have e1:=xh (ψ:=ψ) (h:=hL) hp1;have e2:=xh (ψ:=ψ) (h:=hL) hp2;rw[show y.o.mp ψ=s.mp ψ from m1] at e1;rw[show v.o.mp ψ=s2.mp ψ from m2] at e2;show eH (s.mp ψ) ((c1++c2).map (a8.mp ψ hL)) (s.mp ψ);rw[abq];exact qE.2 ⟨_,e1,e2⟩
  .rw[ab3];refine ac2 fun w _=>?_;rw[Pz];rfl
  .obtain⟨w,hw,hwp⟩:=c.one;have hw':w∈[x,y,u,v]++r:=hP4.mem_iff.2 (aaM.mem_iff.1 hw);rcases aaR.1 hw' with h|h
   .exfalso;simp only[aat,aa9,or_false] at h;rcases h with rfl|rfl|rfl|rfl
    .rw[cF cx] at hwp;cases hwp
    .rw[cF cy] at hwp;cases hwp
    .rw[cF cu] at hwp;cases hwp
    rw[cF cv] at hwp;cases hwp
   refine⟨w.mp ψ hL,by rw[aaZ];exact aaF.2 ⟨w,h,rfl⟩,?_⟩;show(fv [x.k.id,y.k.id] w.k).aH=true;rw[(fX _).aH];exact hwp
  .simp only[aat,aa9,or_false,not_or] at hw hL';have key:=m3 t (by
    rcases hw with rfl|rfl|rfl|rfl
    .exact .inl ew
    .exact .inr (.inl ew)
    .exact .inr (.inr (.inl ew))
    exact .inr (.inr (.inr ew)))
   have hψ:ψ t=t:=Ke hL'.1;have put:∀d∈r,(t=d.o.l\/t=d.o.r)->∃y'∈[]++r.map (a8.mp ψ hL),t=y'.o.l\/t=y'.o.r:=fun d hd h=>by
    refine⟨d.mp ψ hL,by rw[aaZ];exact aaF.2 ⟨d,hd,rfl⟩,?_⟩;rcases h with h|h
    .left;show t=ψ d.o.l;rw[<- h,hψ]
    right;show t=ψ d.o.r;rw[<- h,hψ]
   rcases key with h|h|h|h
   .exact absurd h hL'.1
   .exact absurd h hL'.2
   .obtain⟨d,hd,ed⟩:=oD hp2 hj9;exact put d (adl _ hd) (by rw[ed];exact h)
   obtain⟨d,hd,ed⟩:=oD hp1 hc1;exact put d (List.mem_append_left _ hd) (by rw[ed];exact h)
  rw[aaZ,mC,mP];have h1:=g.nw;rw[hcC] at h2;rw[hcP] at h3;show aA Let.aH (be (c1++c2))+aA Let.aD (be (c1++c2))/2+1+2<=_;simp only[aaL];omega
 rw[pa,pb];show Cert F ((iD (pieces ls) (lY [x.k.id,y.k.id])).map (pY [x.k.id,y.k.id]));rw[wy (l:=pieces ls) (drop:=lY [x.k.id,y.k.id]) (d:=fun p=>(p.l.kind==2)&&[x.k.id,y.k.id].contains p.l.id) fun _ _=>rfl];refine Gz (a:=a) ?_;rw[afE];have hkx:(x.p.l.kind==2)=true:=cx;have hky:(y.p.l.kind==2)=true:=cy;have hku:(u.p.l.kind==2)=true:=cu;have hkv:(v.p.l.kind==2)=true:=cv;have anD:∀d∈r,(fun p:Pc=> !((p.l.kind==2)&&[x.k.id,y.k.id].contains p.l.id)) d.p=true:=fun d hd=>by
  show(!((d.p.l.kind==2)&&_))=true;cases hk:(d.p.l.kind==2)
  .rfl
  obtain⟨n1,n2⟩:=adq d hd hk;simp[n1,n2]
 have afm:∀(d:a8) (t:List Pc),(d.p.l.kind==2)=true->(d.k.id=x.k.id\/d.k.id=y.k.id)->(d.p::t).filter (fun p=> !((p.l.kind==2)&&[x.k.id,y.k.id].contains p.l.id))=t.filter (fun p=> !((p.l.kind==2)&&[x.k.id,y.k.id].contains p.l.id)):=fun d t hd h=>by
  refine List.filter_cons_of_neg ?_;rcases h with h|h
  .have h:d.p.l.id=x.k.id:=h;simp[h,hd]
  have h:d.p.l.id=y.k.id:=h;simp[h,hd]
 have hf:((x::y::(c1++u::v::c2)).map a8.p).filter (fun p=> !((p.l.kind==2)&&[x.k.id,y.k.id].contains p.l.id))=r.map a8.p:=by
  rw[aaK,aaK,afm x _ hkx (.inl rfl),afm y _ hky (.inr rfl),abq,List.filter_append,aaK,aaK,
   afm u _ hku (agU.imp (fun h=>h.1) fun h=>h.1),afm v _ hkv (agU.symm.imp (fun h=>h.2) fun h=>h.2)]
  rw[<- List.filter_append,<- abq];refine filter_all fun p hp=>?_;obtain⟨d,hd,rfl⟩:=aaF.1 hp;exact anD d hd
 rw[hf,ab3];exact aek
end
theorem Oc{α:Type}{z:List α}{a:Nat}{x:α}(h:z[a]?=some x):z=z.take a++x::z.drop (a+1):=by
 obtain⟨hl,e⟩:=aai.1 h;have:z.drop a=x::z.drop (a+1):=by rw[<- e,abY]
 rw[<- this,abA]
section
variable {F:Nat} {ls:List Let}
end
section
variable {F:Nat} {ls:List Let}
end
end Go.Abs
