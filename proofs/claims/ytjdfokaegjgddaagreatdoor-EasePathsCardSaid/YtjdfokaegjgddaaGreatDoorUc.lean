/-
  AxisCut and PairCut keep a code valid.
-/
import Derived.Test.YtjdfokaegjgddaaGreatDoorUa
import Derived.Test.YtjdfokaegjgddaaGreatDoorWw
set_option linter.all false
set_option maxHeartbeats 16000000
namespace Go.Abs
def g9(c e a:Nat):Nat:=if a=c then e else a
theorem kK(c e:Nat):g9 c e c=e:=if_pos rfl
theorem kJ(c e:Nat):g9 c e e=e:=by unfold g9;split<;>rfl
theorem JP{c e a:Nat}(h:a≠c):g9 c e a=a:=if_neg h
def sP(g ab Zo:Int)(l:Let):Let:=if (l.kind==1)&&((l.gate==g)&&decide (ab<l.Yb)) then {l with Yb:=l.Yb+Zo} else l
theorem EO(g ab Zo:Int)(p:Pc):sy g ab Zo p=⟨sP g ab Zo p.l,p.d⟩:=by unfold sy sP;split<;>rfl
theorem eM(g ab Zo:Int):pO (sP g ab Zo):=by refine⟨fun l=>?_,fun l=>?_,fun l=>?_⟩<;>unfold sP<;>split<;>rfl
theorem eN(g ab Zo:Int)(l:Let):(sP g ab Zo l).gate=l.gate:=by unfold sP;split<;>rfl
theorem mL(g ab Zo:Int)(l:Let):(sP g ab Zo l).id=l.id:=by unfold sP;split<;>rfl
theorem WJ{g ab Zo:Int}{l:Let}(h:l.aw=true):sP g ab Zo l=l:=by unfold sP;have:=cA h;unfold Let.aA at this;rw[this];simp
theorem CQ(g ab Zo:Int)(k:Nat)(l:Let):vG k (sP g ab Zo l)=vG k l:=by unfold vG;rw[(eM g ab Zo).aA,eN]
theorem tW{g ab Zo:Int}{l:Let}(h:l.aA=true):(sP g ab Zo l).Yb=if l.gate=g/\ab<l.Yb then l.Yb+Zo else l.Yb:=by
 unfold sP;unfold Let.aA at h;rw[h];by_cases c:l.gate=g/\ab<l.Yb
 .rw[if_pos c,if_pos (by simp[c.1,c.2])]
 rw[if_neg c,if_neg (by simpa using c)]
theorem CP{F:Nat}{g ab Zo:Int}{l:Let}(h:cF F l=false):cF F (sP g ab Zo l)=false:=by
 rcases gR h with hp|hc
 .have ZJ:(sP g ab Zo l).aA=true:=by rw[(eM g ab Zo).aA];exact hp
  rw[cJ hp] at h;rw[cJ ZJ,eN,mL,(eM g ab Zo).sign,(eM g ab Zo).over];exact h
 rw[WJ hc];exact h
theorem y9{l:List Pc}{drop:Nat->Pc->Bool}:∀d j,j+d<=l.length->(∀i p,j<=i->i<j+d->drop i p=false)->lR l drop (j+d)=lR l drop j++(l.drop j).take d:=by
 intro d
 induction d with
 |zero=>intro j _ _;simp
 |succ d ih=>intro j hj h;obtain⟨p,hp⟩:=ai (ls:=l) (k:=j+d) (by omega);rw[show j+(d+1)=(j+d)+1 by omega,lQ hp (h _ _ (by omega) (by omega)),ih j (by omega) fun i p h1 h2=>h i p h1 (by omega),abn,acA,hp,abx];rfl
theorem FJ{l:List Pc}{a:Nat}(ha:a<l.length)(h2:2<=l.length){p q:Pc}{r:List Pc}(e:l.drop a++l.take a=p::q::r):∃u v,(iY l fun k _=>decide (k=a)||decide (k=(a+1)%l.length))=u++v/\r=v++u:=by
 have hd0:∀i (p:Pc),i≠a->i≠(a+1)%l.length->(fun(k:Nat) (_:Pc)=>decide (k=a)||decide (k=(a+1)%l.length)) i p=false:=fun i p h1 h2=>by simp[h1,h2]
 have hd1:∀i (p:Pc),i=a\/i=(a+1)%l.length->(fun(k:Nat) (_:Pc)=>decide (k=a)||decide (k=(a+1)%l.length)) i p=true:=fun i p h=>by simpa using h
 obtain⟨x,hx⟩:=ai ha;by_cases c:a+1<l.length
 .obtain⟨y,hy⟩:=ai c;have hm:(a+1)%l.length=a+1:=aaB c;rw[hm] at hd0 hd1 ⊢;have k0:=y9 (l:=l) (drop:=fun k _=>decide (k=a)||decide (k=a+1)) a 0 (by omega) fun i p _ h=>hd0 i p (by omega) (by omega);have k1:=gO (drop:=fun k _=>decide (k=a)||decide (k=a+1)) hx (hd1 a x (.inl rfl));have k2:=gO (drop:=fun k _=>decide (k=a)||decide (k=a+1)) hy (hd1 (a+1) y (.inr rfl));have k3:=y9 (l:=l) (drop:=fun k _=>decide (k=a)||decide (k=a+1)) (l.length-(a+2)) (a+1+1) (by omega) fun i p h _=>hd0 i p (by omega) (by omega);refine⟨l.take a,l.drop (a+2),?_,?_⟩
  .unfold iY;rw[show a+1+1+(l.length-(a+2))=l.length by omega,k2,k1] at k3;rw[aa0] at k0;rw[k3,k0];have:lR l (fun k _=>decide (k=a)||decide (k=a+1)) 0=[]:=rfl;rw[this,List.drop_zero,aaE,aaD (l:=l.drop (a+1+1)) (by rw[aa1];omega)]
  have e1:l.drop a=x::y::l.drop (a+2):=by obtain⟨h1,e1⟩:=aac.1 hx;obtain⟨h2,e2⟩:=aac.1 hy;rw[<- abH h1,e1,<- abH h2,e2]
  rw[e1] at e;simp only[ac3,List.cons.injEq] at e;exact e.2.2.symm
 have ea:a+1=l.length:=by omega
 have hm:(a+1)%l.length=0:=by rw[ea,acx]
 rw[hm] at hd0 hd1 ⊢;obtain⟨y,hy⟩:=ai (ls:=l) (k:=0) (by omega);have k1:=gO (drop:=fun k _=>decide (k=a)||decide (k=0)) hy (hd1 0 y (.inr rfl));have k2:=y9 (l:=l) (drop:=fun k _=>decide (k=a)||decide (k=0)) (a-1) 1 (by omega) fun i p h h'=>hd0 i p (by omega) (by omega);have k3:=gO (drop:=fun k _=>decide (k=a)||decide (k=0)) hx (hd1 a x (.inl rfl));refine⟨[],(l.drop 1).take (a-1),?_,?_⟩
 .unfold iY;rw[<- ea,k3];rw[show 1+(a-1)=a by omega] at k2;rw[k2];rw[show(1:Nat)=0+1 from rfl,k1];rfl
 have e1:l.drop a=[x]:=by obtain⟨h1,e1⟩:=aac.1 hx;rw[<- abH h1,e1,List.drop_eq_nil_of_le (by omega)]
 have e2:l.take a=y::(l.drop 1).take (a-1):=by
  obtain⟨h1,e1⟩:=aac.1 hy;have:l=y::l.drop 1:=by have:=abH h1;rw[e1,List.drop_zero] at this;exact this.symm
  conv=>lhs;rw[this]
  rw[show a=(a-1)+1 by omega,List.take_succ_cons];rfl
 rw[e1,e2] at e;simp only[ac3,aaE,List.cons.injEq] at e;rw[abo];exact e.2.2.symm
section
variable {F:Nat} {ls:List Let}
theorem gC.ext'{s t:gC}(h1:s.l=t.l)(h2:s.r=t.r)(h3:s.b=t.b):s=t:=by cases s;cases t;simp_all
theorem XX(g:cD F ls){a:Nat}(ha:a<ls.length){L:List Pc}(h:Wh ls a=some L):L=[]\/Cert F L:=by
 obtain⟨x,y,r,s,e,hx,hy,c,hp,adz,_,_,Ys⟩:=Ha g ha;have q:=c.q;unfold Wh at h;have e1:(pieces ls).getD a ⟨fG,false⟩=x.p:=by rw[aal,hx];rfl
 have e2:(pieces ls).getD ((a+1)%ls.length) ⟨fG,false⟩=y.p:=by rw[aal,hy];rfl
 simp only[e1,e2] at h;split at h
 case isFalse=>cases h
 rename_i hc;simp only[aaf,beq_iff_eq,aaR,Bool.and_eq_false_iff,decide_eq_false_iff_not] at hc;obtain⟨Zz,hc2,hgt,hrk,aoH⟩:=hc;cases h;have px:x.k.aA=true:=by show(x.k.kind==1)=true;simp[Zz]
 have py:y.k.aA=true:=by show(y.k.kind==1)=true;simp[hc2]
 obtain⟨ZF,Zd,hpr⟩:=hp;have ox:=(q.ok x (by simp)).pb px;have oy:=(q.ok y (by simp)).pb py;have plx:=q.pl x (by simp) px;have ply:=q.pl y (by simp) py;have gx:=((cJ px).1 (q.ok x (by simp)).bad).1.1.1;have rx:=q.rr x (by simp) px;have ry:=q.rr y (by simp) py;have hgy:y.k.gate=x.k.gate:=hgt.symm;rw[hgy] at ry
 -- the counts
 have hcC:∀z:List aM,ao Let.aw (be (x::y::z))=ao Let.aw (be z):=fun z=>by rw[aG,aG,(M8 px).1,(M8 py).1];omega
 have hcP:∀z:List aM,ao Let.aA (be (x::y::z))=ao Let.aA (be z)+2:=fun z=>by rw[aG,aG,(M8 px).2,(M8 py).2];omega
 have hGi:((x.k.gate.toNat:Nat):Int)=x.k.gate:=Int.toNat_of_nonneg gx.1;have hcG:∀(z:List aM) k,cg (be (x::y::z)) k=cg (be z) k+if k=x.k.gate.toNat then 2 else 0:=fun z k=>by
  show ao _ _=ao _ _+_;rw[aG,aG];have:∀w:aM,w.k.aA=true->w.k.gate=x.k.gate->(if vG k w.k=true then 1 else 0)=if k=x.k.gate.toNat then 1 else 0:=fun w hw hgw=>by
   unfold vG;rw[hw,hgw];by_cases ck:k=x.k.gate.toNat
   .subst ck;simp[hGi]
   have:(x.k.gate==(k:Int))=false:=by rw[beq_eq_false_iff_ne];omega
   simp[this,ck]
  rw[this x px rfl,this y py hgy];split<;>omega
 have h2:ao Let.aw (be (x::y::r))=ao Let.aw ls:=by rw[fW Ys,dy]
 have h3:ao Let.aA (be (x::y::r))=ao Let.aA ls:=by rw[fW Ys,dy]
 have hlen:ls.length=r.length+2:=by have:=Ys.length_eq;rw[kn] at this;simpa using this.symm
 -- ranks
 obtain⟨lo,hlo1,ai0,hmx⟩:∃lo:Nat,1<=lo/\((x.k.Yb=lo/\y.k.Yb=lo+1)\/(x.k.Yb=lo+1/\y.k.Yb=lo))/\LZ x.k.Yb y.k.Yb=lo+1:=by
  have adA:LZ x.k.Yb y.k.Yb-St x.k.Yb y.k.Yb=1:=hrk;unfold LZ St at adA;unfold LZ;by_cases c1:x.k.Yb<y.k.Yb
  .rw[if_pos c1] at adA ⊢;rw[if_neg (by omega)] at adA;exact⟨x.k.Yb.toNat,by omega,.inl ⟨by omega,by omega⟩,by omega⟩
  rw[if_neg c1] at adA ⊢;by_cases c2:y.k.Yb<x.k.Yb
  .rw[if_pos c2] at adA;exact⟨y.k.Yb.toNat,by omega,.inr ⟨by omega,by omega⟩,by omega⟩
  rw[if_neg c2] at adA;omega
 have alx:lo+1<=cg (be (x::y::r)) x.k.gate.toNat:=by rcases ai0 with ⟨h1,h2⟩|⟨h1,h2⟩<;>omega
 -- which names are merged
 obtain⟨mc,me,m1,m2,m3,m4,m5⟩:∃mc me:Nat,(y.o.mp (g9 mc me)=s.mp (g9 mc me))/\g9 mc me (TF ls x.k.gate.toNat (lo+1))=g9 mc me (TF ls x.k.gate.toNat (lo-1))/\g9 mc me (BF ls x.k.gate.toNat (lo+1))=g9 mc me (BF ls x.k.gate.toNat (lo-1))/\
   (∀t,(t=y.o.l\/t=y.o.r)->t=mc\/t=s.l\/t=s.r)/\True:=by
  have hdy:y.p.d= !x.p.d:=by have h1:=oy.2;rw[Zd,ox.1] at h1;revert h1;cases x.p.d<;>cases y.p.d<;>simp
  have hb:y.o.b=s.b:=by rw[oy.1,hdy,<- ZF,ox.2]
  obtain⟨p1,p2,p3,p4⟩:=plx;obtain⟨p5,p6,p7,p8⟩:=ply;rw[hgy] at p5 p6 p7 p8;unfold aM.up at p1 p2 p5 p6;unfold aM.lo at p3 p4 p7 p8;rw[hdy] at p5 p6 p7 p8;rw[ZF] at p1 p2 p3 p4;rw[Zd] at p5 p6 p7 p8;have done:∀mc me,(g9 mc me y.o.l=g9 mc me s.l)->(g9 mc me y.o.r=g9 mc me s.r)->y.o.mp (g9 mc me)=s.mp (g9 mc me):=fun mc me h1 h2=>gC.ext' h1 h2 hb;rcases ai0 with ⟨r1,r2⟩|⟨r1,r2⟩
  .have n1:x.k.Yb.toNat=lo:=by omega
   have n2:y.k.Yb.toNat=lo+1:=by omega
   rw[n1] at p1 p2 p3 p4;rw[n2] at p5 p6 p7 p8;rw[adO] at p5 p7;cases hd:x.p.d<;>rw[hd] at p1 p2 p3 p4 p5 p6 p7 p8<;>simp only[Bool.not_false,acC,aaq,if_false,if_true,mZ] at p1 p2 p3 p4 p5 p6 p7 p8
   .have ee:y.o.r=s.r:=by rw[p7,p4]
    refine⟨y.o.l,s.l,done _ _ ?_ (by rw[ee]),by rw[<- p6,p1],by rw[<- p8,<- p3,kK,kJ],?_,trivial⟩
    .rw[kK,kJ]
    rintro t (rfl|rfl)
    .exact .inl rfl
    exact .inr (.inr ee)
   have ee:y.o.l=s.l:=by rw[p5,p2]
   refine⟨y.o.r,s.r,done _ _ (by rw[ee]) ?_,by rw[<- p6,<- p1,kK,kJ],by rw[<- p8,p3],?_,trivial⟩
   .rw[kK,kJ]
   rintro t (rfl|rfl)
   .exact .inr (.inl ee)
   exact .inl rfl
  have n1:x.k.Yb.toNat=lo+1:=by omega
  have n2:y.k.Yb.toNat=lo:=by omega
  rw[n1] at p1 p2 p3 p4;rw[n2] at p5 p6 p7 p8;rw[adO] at p1 p3;cases hd:x.p.d<;>rw[hd] at p1 p2 p3 p4 p5 p6 p7 p8<;>simp only[Bool.not_false,acC,aaq,if_false,if_true,mZ] at p1 p2 p3 p4 p5 p6 p7 p8
  .have ee:y.o.l=s.l:=by rw[p8,p3]
   refine⟨y.o.r,s.r,done _ _ (by rw[ee]) ?_,by rw[<- p2,p5],by rw[<- p4,<- p7,kK,kJ],?_,trivial⟩
   .rw[kK,kJ]
   rintro t (rfl|rfl)
   .exact .inr (.inl ee)
   exact .inl rfl
  have ee:y.o.r=s.r:=by rw[p6,p1]
  refine⟨y.o.l,s.l,done _ _ ?_ (by rw[ee]),by rw[<- p2,<- p5,kK,kJ],by rw[<- p4,p7],?_,trivial⟩
  .rw[kK,kJ]
  rintro t (rfl|rfl)
  .exact .inl rfl
  exact .inr (.inr ee)
 clear m5;by_cases hr:∃w∈r,w.k.aA=true
 case neg=>
  left;have hP0:ao Let.aA (be r)=0:=adw.2 fun l hl hlp=>by obtain⟨w,hw,rfl⟩:=aan.1 hl;exact hr ⟨w,hw,hlp⟩
  have hC0:ao Let.aw ls=0:=by have YU:=q.ev;rw[h2] at YU;rw[hcP] at h3;rcases aoH with h|h<;>omega
  have:ls.length=2:=by have:=Ia g.ok;rw[hcP] at h3;omega
  have hk0:r=[]:=ad2.1 (by omega);obtain⟨u,v,k1,k2⟩:=FJ (l:=pieces ls) (a:=a) (by rw[aB];exact ha) (by rw[aB];omega) (by rw[adz];rfl);rw[aB] at k1;rw[hk0] at k2;have k2:=k2.symm;simp only[abb,List.append_eq_nil_iff] at k2;unfold aX;rw[k1,k2.1,k2.2];rfl
 right;obtain⟨w0,hw0,pw0⟩:=hr;have an5:r≠[]:=List.ne_nil_of_mem hw0
 let ψ:=g9 mc me
 let hL:=sP x.k.gate (lo+1) (-2)
 let T':Nat->Nat->Nat:=fun G k=>if G=x.k.gate.toNat then (if k<=lo-1 then ψ (TF ls G k) else ψ (TF ls G (k+2))) else ψ (TF ls G k)
 let B':Nat->Nat->Nat:=fun G k=>if G=x.k.gate.toNat then (if k<=lo-1 then ψ (BF ls G k) else ψ (BF ls G (k+2))) else ψ (BF ls G k)
 have mC:ao Let.aw (be (r.map (aM.mp ψ hL)))=ao Let.aw (be r):=iR (fun l=>(eM _ _ _).aw l) r;have mP:ao Let.aA (be (r.map (aM.mp ψ hL)))=ao Let.aA (be r):=iR (fun l=>(eM _ _ _).aA l) r;have mG:∀k,cg (be (r.map (aM.mp ψ hL))) k=cg (be r) k:=fun k=>iR (fun l=>CQ _ _ _ k l) r;have inr:∀w∈r,w∈x::y::r:=fun w hw=>by simp[hw]
 -- the others have other ranks
 have oth:∀w∈r,w.k.aA=true->w.k.gate=x.k.gate->w.k.Yb<lo\/(lo:Int)+1<w.k.Yb:=fun w hw pw gw=>by obtain⟨d1,d2⟩:=abd.1 q.rk;obtain⟨d3,_⟩:=abd.1 d2;have n1:=d1 w (by simp[hw]) px pw gw.symm;have n2:=d3 w hw py pw (by rw[hgy,gw]);rcases ai0 with ⟨r1,r2⟩|⟨r1,r2⟩<;>omega
 have rk':∀w∈r,w.k.aA=true->(hL w.k).Yb=if w.k.gate=x.k.gate/\(lo:Int)+1<w.k.Yb then w.k.Yb-2 else w.k.Yb:=fun w hw pw=>by have:=tW (g:=x.k.gate) (ab:=(lo:Int)+1) (Zo:= -2) pw;rw[show w.k.Yb+ -2=w.k.Yb-2 by omega] at this;exact this
 have key:∀f:Nat->Nat->Nat,ψ (f x.k.gate.toNat (lo+1))=ψ (f x.k.gate.toNat (lo-1))->∀w∈r,w.k.aA=true->
   (ψ (f w.k.gate.toNat (w.k.Yb.toNat-1))=(fun G k=>if G=x.k.gate.toNat then (if k<=lo-1 then ψ (f G k) else ψ (f G (k+2))) else ψ (f G k)) (hL w.k).gate.toNat ((hL w.k).Yb.toNat-1))/\
   ψ (f w.k.gate.toNat w.k.Yb.toNat)=(fun G k=>if G=x.k.gate.toNat then (if k<=lo-1 then ψ (f G k) else ψ (f G (k+2))) else ψ (f G k)) (hL w.k).gate.toNat (hL w.k).Yb.toNat:=by
  intro f hf w hw pw;have hg':(hL w.k).gate=w.k.gate:=eN _ _ _ _;have gw:=((cJ pw).1 (q.ok w (inr w hw)).bad).1.1.1;have rw1:=(q.rr w (inr w hw) pw).1;rw[rk' w hw pw,hg'];by_cases cg':w.k.gate=x.k.gate
  .have ho:=oth w hw pw cg';simp only[cg',if_true,true_and];by_cases cr:(lo:Int)+1<w.k.Yb
   .rw[if_pos cr];constructor
    .by_cases c3:(w.k.Yb-2).toNat-1<=lo-1
     .rw[if_pos c3];have e3:w.k.Yb.toNat-1=lo+1:=by omega
      have e4:(w.k.Yb-2).toNat-1=lo-1:=by omega
      rw[e3,e4];exact hf
     rw[if_neg c3];congr 2;omega
    rw[if_neg (by omega)];congr 2;omega
   rw[if_neg cr];constructor
   .rw[if_pos (by omega)]
   rw[if_pos (by omega)]
  have:¬(w.k.gate.toNat=x.k.gate.toNat):=by omega
  simp only[cg',false_and,if_false,if_neg this];exact⟨trivial,trivial⟩
 have keyg:∀f:Nat->Nat->Nat,ψ (f x.k.gate.toNat (lo+1))=ψ (f x.k.gate.toNat (lo-1))->∀k,
   ((fun G k=>if G=x.k.gate.toNat then (if k<=lo-1 then ψ (f G k) else ψ (f G (k+2))) else ψ (f G k)) k (cg (be r) k)=ψ (f k (cg (be (x::y::r)) k)))/\
   (fun G k=>if G=x.k.gate.toNat then (if k<=lo-1 then ψ (f G k) else ψ (f G (k+2))) else ψ (f G k)) k 0=ψ (f k 0):=by
  intro f hf k;rw[hcG r k];by_cases ck:k=x.k.gate.toNat
  .subst ck;simp only[if_true];rw[if_pos (aae _)];refine⟨?_,rfl⟩;rw[hcG r x.k.gate.toNat,if_pos rfl] at alx;by_cases c3:cg (be r) x.k.gate.toNat<=lo-1
   .rw[if_pos c3];have e3:cg (be r) x.k.gate.toNat=lo-1:=by omega
    rw[e3,show lo-1+2=lo+1 by omega];exact hf.symm
   rw[if_neg c3]
  simp only[if_neg ck,abY];exact⟨trivial,trivial⟩
 have qn:Cq F ([]++r.map (aM.mp ψ hL)) T' B':=by
  refine Cq.edit (X:=[x,y]) (r:=r) q (eM _ _ _) (fun w hw=>CP (q.ok w (inr w hw)).bad) (fun u hu v hv cu cv e=>?_) (fun u hu v hv pu pv e1 e2=>?_) (fun _ h=>by cases h) List.Pairwise.nil List.Pairwise.nil (fun _ h=>by cases h) (fun _ h=>by cases h) ?_ (fun _ h=>by cases h) (fun u hu cu=>?_) (fun _ h=>by cases h) (fun u hu pu=>?_) (fun _ h=>by cases h) (fun u hu pu=>?_) (fun k hk=>?_) ?_
  .rw[mL,mL] at e;exact e
  .have e1':u.k.gate=v.k.gate:=by rw[eN,eN] at e1;exact e1
   refine⟨e1',?_⟩;have e2:(hL u.k).Yb=(hL v.k).Yb:=e2;rw[rk' u hu pu,rk' v hv pv] at e2;by_cases cg':u.k.gate=x.k.gate
   .have o1:=oth u hu pu cg';have o2:=oth v hv pv (e1'▸cg');have cv:v.k.gate=x.k.gate:=e1'▸cg';simp only[cg',cv,true_and] at e2;split at e2<;>split at e2<;>omega
   have cv:¬v.k.gate=x.k.gate:=e1'▸cg';simp only[cg',cv,false_and,if_false] at e2;exact e2
  .rw[aaE,mC,<- hcC r];exact q.ev
  .rw[aaE,mC,mL,<- hcC r];exact q.ids u (inr u hu) cu
  .rw[aaE,eN,mG];show 1<=(hL u.k).Yb/\(hL u.k).Yb<=_;rw[rk' u hu pu];have h1:=q.rr u (inr u hu) pu;rw[hcG r] at h1;have gu:=((cJ pu).1 (q.ok u (inr u hu)).bad).1.1.1;by_cases cg':u.k.gate=x.k.gate
   .have o1:=oth u hu pu cg';rw[cg'] at h1 ⊢;rw[if_pos rfl] at h1;rw[hcG r,if_pos rfl] at alx;simp only[true_and];split<;>omega
   simp only[cg',false_and,if_false];rw[if_neg (by omega)] at h1;exact h1
  .obtain⟨t1,t2⟩:=key (TF ls) m2 u hu pu;obtain⟨b1,b2⟩:=key (BF ls) m3 u hu pu;exact⟨⟨t1,b1⟩,t2,b2⟩
  .rw[aaE,mG];obtain⟨t1,t2⟩:=keyg (TF ls) m2 k;obtain⟨b1,b2⟩:=keyg (BF ls) m3 k;obtain⟨_,t3⟩:=keyg (TF ls) m2 (k+1);obtain⟨_,b3⟩:=keyg (BF ls) m3 (k+1);have:=q.gt k hk;exact⟨by rw[show T' k _=_ from t1,this.1];exact t3.symm,by rw[show B' k _=_ from b1,this.2];exact b3.symm⟩
  rw[aaE,mG];obtain⟨t1,t2⟩:=keyg (TF ls) m2 F;obtain⟨b1,b2⟩:=keyg (BF ls) m3 F;obtain⟨_,t3⟩:=keyg (TF ls) m2 0;obtain⟨_,b3⟩:=keyg (BF ls) m3 0;have:=q.gz;exact⟨by rw[show T' F _=_ from t1,this.1];exact t3.symm,by rw[show B' F _=_ from b1,this.2];exact b3.symm⟩
 have aci:Cert F (r.map fun w=>sy x.k.gate (lo+1) (-2) w.p):=by
  refine Cq.done (X:=[x,y]) (r:=r) (X':=[]) (L:=[mc,x.o.l,x.o.r]) (N:=[]) (V:=bb ls) (z':=r.map (aM.mp ψ hL)) qn c.nd (fun t ht=>c.wit t ht) (List.Perm.refl _) ⟨s.mp ψ,?_⟩ ?_ ?_ (fun t _ ht=>JP fun e=>ht (by simp[e])) (fun w hw t ht ew hL'=>?_) abr (fun t ht=>by cases ht) (fun t ht=>by cases ht) (by rw[acm];exact aad _) ?_
  .have:=oz (ψ:=ψ) (h:=hL) hpr;rwa[show y.o.mp ψ=s.mp ψ from m1] at this
  .rw[abq];refine act fun w _=>?_;rw[EO];rfl
  .refine⟨w0.mp ψ hL,?_,?_⟩
   .rw[aaE];exact aan.2 ⟨w0,hw0,rfl⟩
   show(hL w0.k).aA=true;rw[(eM _ _ _).aA];exact pw0
  .obtain⟨v,hv,hvo⟩:=oD hpr an5;simp only[aag,aaC,or_false,not_or] at hw hL';have key:t=s.l\/t=s.r:=by
    rcases hw with rfl|rfl
    .rcases ew with ew|ew
     .exact absurd ew hL'.2.1
     exact absurd ew hL'.2.2
    rcases m4 t ew with h|h
    .exact absurd h hL'.1
    exact h
   refine⟨v.mp ψ hL,by rw[aaE];exact aan.2 ⟨v,hv,rfl⟩,?_⟩;show t=ψ v.o.l\/t=ψ v.o.r;rw[hvo];have:ψ t=t:=JP hL'.1;rcases key with h|h
   .left;rw[<- h,this]
   right;rw[<- h,this]
  rw[aaE,mC,mP];have h1:=g.nw;rw[hcC] at h2;rw[hcP] at h3;simp only[aaA,aas];omega
 obtain⟨u,v,k1,k2⟩:=FJ (l:=pieces ls) (a:=a) (by rw[aB];exact ha) (by rw[aB];omega) (by rw[adz];rfl);rw[aB] at k1;show Cert F ((iY (pieces ls) fun k _=>decide (k=a)||decide (k=(a+1)%ls.length)).map (sy x.k.gate (LZ x.k.Yb y.k.Yb) (-2)));rw[k1,hmx,aaN];refine Cert.t6 ?_;rw[<- aaN,<- k2,abq];exact aci
end
section
variable {F:Nat} {ls:List Let}
theorem qO(g:cD F ls){pl:Nat}{edges:List Nat}{e0:Nat}(he0:e0<ls.length)(h:kQ F ls pl edges e0=true):∃w,w∈bY (bU ls) (nD ls)/\(fH F ls w).places.length=pl/\((w.filter fun x=>decide (x<2*ls.length)).length=edges.length)/\ ∀e∈edges,∃d,d∈w/\d<2*ls.length/\d/2=e:=by
 have key:∀f∈aT F ls,wK f pl edges=true->∃w,w∈bY (bU ls) (nD ls)/\(fH F ls w).places.length=pl/\((w.filter fun x=>decide (x<2*ls.length)).length=edges.length)/\ ∀e∈edges,∃d,d∈w/\d<2*ls.length/\d/2=e:=by intro f hf hc;obtain⟨w,hw,rfl⟩:=aan.1 hf;unfold wK at hc;simp only[aaf,beq_iff_eq,aaP] at hc;obtain⟨h1,h2,h3⟩:=hc;rw[j9] at h1;refine⟨w,hw,h2,h1,fun e he=>?_⟩;have h4:=h3 e he;unfold zQ at h4;obtain⟨d,hd,hde⟩:=acI.1 (show 0<((fH F ls w).Yj.countP fun d=>d/2==e) by omega);rw[j9] at hd;obtain⟨d1,d2⟩:=abD.1 hd;exact⟨d,d1,by simpa using d2,by simpa using hde⟩
 unfold kQ at h;rw[ab4] at h;rcases h with h|h
 .exact key _ (zI (by omega)) h
 exact key _ (zI (by omega)) h
theorem Eo{D:List Nat}(h:D.length=2){x y:Nat}(hx:x∈D)(hy:y∈D)(Yk:x≠y){z:Nat}(hz:z∈D):z=x\/z=y:=by
 match D,h with
 |[p,q],_=>simp only[aag,aaC,or_false] at hx hy hz;omega
theorem OE{e:Nat}(he:e<ls.length){l:Let}(hl:ls[nx ls e]?=some l)(hc:l.aw=true):bU ls (2*e)=aJ ls.length (bQ ls (nx ls e)) (gX l):=by
 have:2*e=fR ls.length (nx ls e) true:=by unfold fR nx;rw[if_pos rfl,jX he]
 rw[this,kr hl hc];unfold gX;cases (l.over==(l.sign==1))<;>rfl
theorem OF{e:Nat}{l:Let}(hl:ls[e]?=some l)(hc:l.aw=true):bU ls (2*e+1)=aJ ls.length (bQ ls e) (!gX l):=by have:2*e+1=fR ls.length e false:=rfl;rw[this,kr hl hc];unfold gX;cases (l.over==(l.sign==1))<;>rfl
theorem pN{v:Nat}{b:Bool}{x:Nat}(h:aJ ls.length v b=x):(b=true/\x=2*v)\/(b=false/\x=2*((v+ls.length-1)%ls.length)+1):=by
 cases b
 .exact .inr ⟨rfl,h.symm⟩
 exact .inl ⟨rfl,h.symm⟩
theorem k8{v e:Nat}(hv:v<ls.length)(h:(v+ls.length-1)%ls.length=e):v=nx ls e:=by unfold nx;rw[<- h,fM hv]
theorem j8(ok:dT F ls){v u:Nat}{l m:Let}(hl:ls[v]?=some l)(hc:l.aw=true)(hm:ls[u]?=some m)(ho:bQ ls v=u):gX m= !gX l/\m.aw=true/\m.id=l.id:=by obtain⟨_,w,hw,wc,wi,wo,ws⟩:=bG ok.cr hl hc;rw[ho,hm] at hw;cases hw;refine⟨?_,wc,wi⟩;unfold gX;rw[wo,ws];cases l.over<;>cases (l.sign==1)<;>rfl
theorem uc(ok:dT F ls){v:Nat}{l:Let}(hl:ls[v]?=some l)(hc:l.aw=true):bQ ls v<ls.length:=by obtain⟨_,w,hw,_⟩:=bG ok.cr hl hc;exact(aac.1 hw).1
theorem Fq(g:cD F ls){a b:Nat}(ha:a<ls.length)(hb:b<ls.length){lx ly lu lv:Let}(hx:ls[a]?=some lx)(hy:ls[nx ls a]?=some ly)(hu:ls[b]?=some lu)(hv:ls[nx ls b]?=some lv)
  (cx:lx.aw=true) (cy:ly.aw=true) (cu:lu.aw=true) (cv:lv.aw=true) (hxy:lx.id≠ly.id) (huv:lu.id≠lv.id) (Zv:a≠b) (h:kQ F ls 0 [a,b] a=true):gX lx= !gX ly:=by
 have ok:=g.ok;obtain⟨w,hw,_,hlen,hE⟩:=qO g ha h;obtain⟨da,da1,da2,da3⟩:=hE a (by simp);obtain⟨db,db1,db2,db3⟩:=hE b (by simp);have Yk:da≠db:=by omega
 have inD:∀d,d∈w->d<2*ls.length->d∈w.filter fun x=>decide (x<2*ls.length):=fun d h1 h2=>abD.2 ⟨h1,by simpa using h2⟩;have two:∀d,d∈w->d<2*ls.length->d=da\/d=db:=fun d h1 h2=>Eo hlen (inD da da1 da2) (inD db db1 db2) Yk (inD d h1 h2);have nin:∀d,d∈w->bU ls d∈w:=fun d hd=>eT (maps ok) hw hd;have str:∀(v:Nat) (b:Bool),v<ls.length->aJ ls.length v b<2*ls.length:=fun v b hv=>by have:=l7 hv (!b);rw[<- fK] at this;have:=mr this;rwa[mq] at this
 have oy:=uc ok hy cy;have ox:=uc ok hx cx;have ou:=uc ok hu cu;have ov:=uc ok hv cv
 -- where the walk goes on
 have na:(da=2*a/\bU ls da=aJ ls.length (bQ ls (nx ls a)) (gX ly))\/(da=2*a+1/\bU ls da=aJ ls.length (bQ ls a) (!gX lx)):=by
  rcases abL da with c|c
  .have:da=2*a:=by omega
   exact .inl ⟨this,by rw[this];exact OE ha hy cy⟩
  have:da=2*a+1:=by omega
  exact .inr ⟨this,by rw[this];exact OF hx cx⟩
 have nb:(db=2*b/\bU ls db=aJ ls.length (bQ ls (nx ls b)) (gX lv))\/(db=2*b+1/\bU ls db=aJ ls.length (bQ ls b) (!gX lu)):=by
  rcases abL db with c|c
  .have:db=2*b:=by omega
   exact .inl ⟨this,by rw[this];exact OE hb hv cv⟩
  have:db=2*b+1:=by omega
  exact .inr ⟨this,by rw[this];exact OF hu cu⟩
 have ta:bU ls da=da\/bU ls da=db:=two _ (nin _ da1) (by rcases na with ⟨_,e⟩|⟨_,e⟩<;>rw[e]<;>exact str _ _ (by assumption));have tb:bU ls db=da\/bU ls db=db:=two _ (nin _ db1) (by rcases nb with ⟨_,e⟩|⟨_,e⟩<;>rw[e]<;>exact str _ _ (by assumption));have ta':bU ls da=db:=by
  rcases ta with e|e
  .exfalso;rcases na with ⟨e1,e2⟩|⟨e1,e2⟩
   .rw[e] at e2;rcases pN e2.symm with ⟨_,e3⟩|⟨_,e3⟩
    .exact hxy (j8 ok hy cy hx (by omega)).2.2
    omega
   rw[e] at e2;rcases pN e2.symm with ⟨_,e3⟩|⟨_,e3⟩
   .omega
   exact hxy (j8 ok hx cx hy (k8 ox (by omega))).2.2.symm
  exact e
 have tb':bU ls db=da:=by
  rcases tb with e|e
  .exact e
  exfalso;rcases nb with ⟨e1,e2⟩|⟨e1,e2⟩
  .rw[e] at e2;rcases pN e2.symm with ⟨_,e3⟩|⟨_,e3⟩
   .exact huv (j8 ok hv cv hu (by omega)).2.2
   omega
  rw[e] at e2;rcases pN e2.symm with ⟨_,e3⟩|⟨_,e3⟩
  .omega
  exact huv (j8 ok hu cu hv (k8 ou (by omega))).2.2.symm
 rcases na with ⟨ea,e1⟩|⟨ea,e1⟩<;>rcases nb with ⟨eb,e2⟩|⟨eb,e2⟩<;>rw[ta'] at e1<;>rw[tb'] at e2
 .rcases pN e1.symm with ⟨g1,e3⟩|⟨g1,e3⟩<;>rcases pN e2.symm with ⟨g2,e4⟩|⟨g2,e4⟩<;>try omega
  have:=(j8 ok hv cv hx (by omega)).1;rw[this,g1,g2]
 .rcases pN e1.symm with ⟨g1,e3⟩|⟨g1,e3⟩<;>rcases pN e2.symm with ⟨g2,e4⟩|⟨g2,e4⟩<;>try omega
  have:=(j8 ok hu cu hx (by omega)).1;rw[this,g1,g2];rfl
 .rcases pN e1.symm with ⟨g1,e3⟩|⟨g1,e3⟩<;>rcases pN e2.symm with ⟨g2,e4⟩|⟨g2,e4⟩<;>try omega
  have:=(j8 ok hv cv hy (k8 ov (by omega))).1;rw[this,g2];revert g1;cases gX lx<;>simp
 rcases pN e1.symm with ⟨g1,e3⟩|⟨g1,e3⟩<;>rcases pN e2.symm with ⟨g2,e4⟩|⟨g2,e4⟩<;>try omega
 have:=(j8 ok hu cu hy (k8 ou (by omega))).1;rw[this];revert g1 g2;cases gX lx<;>cases gX lu<;>simp
theorem Jm{x p w:aM}(h1:Xr x p)(h2:Xr x w)(h3:Xr p w)(cx:x.k.aw=true)(cp:p.k.aw=true)(cw:w.k.aw=true)(e1:x.k.id=p.k.id):w.k.id≠x.k.id:=by intro e2;have a:=(h1 cx cp e1).ov;have b:=(h2 cx cw e2.symm).ov;have d:=(h3 cp cw (by rw[<- e1,e2])).ov;rw[b] at a;rw[d] at a;revert a;cases w.k.over<;>simp
theorem Oa{α:Type}{z:List α}{a j:Nat}(ha:a<z.length)(hj:j<z.length):(z.drop a++z.take a)[j]?=z[(a+j)%z.length]? :=by
 by_cases h:a+j<z.length
 .rw[acw (by rw[aa1];omega),acA,aaB h]
 rw[acz (by rw[aa1];omega),aa1,aa3,if_pos (by omega),Nat.mod_eq_sub_mod (by omega),aaB (by omega)];congr 1;omega
theorem La{α:Type}{r:List α}{j:Nat}{u v:α}(hu:r[j]?=some u)(hv:r[j+1]?=some v):r=r.take j++u::v::r.drop (j+2):=by
 obtain⟨h1,e1⟩:=aac.1 hu;obtain⟨h2,e2⟩:=aac.1 hv;have:r.drop j=u::v::r.drop (j+2):=by rw[<- abH h1,e1,<- abH h2,e2]
 rw[<- this,aa2]
end
theorem Vw{p q w:Int}{l:Let}(hc:l.aw=true)(hw:l.id=w):(fN [p,q] l).id=w-(if p<w then 1 else 0)-(if q<w then 1 else 0):=by rw[JV hc,hw];by_cases c1:p<w<;>by_cases c2:q<w<;>simp[c1,c2]<;>omega
section
variable {F:Nat} {ls:List Let}
theorem XS(g:cD F ls){a b:Nat}(ha:a<ls.length)(hb:b<ls.length){L:List Pc}(h:Vt F ls a b=some L):Cert F L:=by
 obtain⟨x,y,r0,s,e,hx,hy,c,hp,adz,hzx,hzy,Ys⟩:=Ha g ha;have q:=c.q;have hzl:=kn ls;unfold Vt at h;split at h
 case isFalse=>cases h
 rename_i hc;simp only[aaf,ab4,beq_iff_eq,aaR,beq_eq_false_iff_ne] at hc;obtain⟨hbo,Yk,alm,ZG,hn2,adI⟩:=hc;have pa:pA ls a=x.p:=eO hx;have pb:pA ls (nx ls a)=y.p:=eO hy;cases h;have hnb:nx ls b<ls.length:=aat _ (by omega);have hna:nx ls a<ls.length:=aat _ (by omega);obtain⟨u,hzu⟩:=ai (ls:=zF ls) (k:=b) (by omega);obtain⟨v,hzv⟩:=ai (ls:=zF ls) (k:=nx ls b) (by omega);have pc:pA ls b=u.p:=eO (by rw[<- tL,aaz,hzu];rfl);have pd:pA ls (nx ls b)=v.p:=eO (by rw[<- tL,aaz,hzv];rfl);rw[pa,pb] at Yk;rw[pa,pb,pc,pd] at alm
 -- they are visits, two over and two under
 have kinds:x.k.aw=true/\y.k.aw=true/\u.k.aw=true/\v.k.aw=true/\x.k.over=y.k.over/\u.k.over=v.k.over/\x.k.over≠u.k.over:=by
  have bo:∀e ov,vE ls e ov=true->(pA ls e).l.aw=true/\(pA ls (nx ls e)).l.aw=true/\(pA ls e).l.over=ov/\(pA ls (nx ls e)).l.over=ov:=fun e ov h=>by unfold vE at h;simp only[aaf,beq_iff_eq] at h;obtain⟨h1,h2,h3,h4⟩:=h;exact⟨by unfold Let.aw;rw[h1];rfl,by unfold Let.aw;rw[h2];rfl,h3,h4⟩
  rcases hbo with ⟨h1,h2⟩|⟨h1,h2⟩<;>obtain⟨a1,a2,a3,a4⟩:=bo _ _ h1<;>obtain⟨b1,b2,b3,b4⟩:=bo _ _ h2
  all_goals
   rw[pa] at a1 a3;rw[pb] at a2 a4;rw[pc] at b1 b3;rw[pd] at b2 b4;refine⟨a1,a2,b1,b2,?_,?_,?_⟩
   .show x.p.l.over=y.p.l.over;rw[a3,a4]
   .show u.p.l.over=v.p.l.over;rw[b3,b4]
   show x.p.l.over≠u.p.l.over;rw[a3,b3];decide
 obtain⟨cx,cy,cu,cv,ov1,ov2,ov3⟩:=kinds;have hxy:x.k.id≠y.k.id:=Yk;have aeL:(u.k.id=x.k.id/\v.k.id=y.k.id)\/(u.k.id=y.k.id/\v.k.id=x.k.id):=alm;have huv:u.k.id≠v.k.id:=by
  rcases aeL with ⟨h1,h2⟩|⟨h1,h2⟩
  .rw[h1,h2];exact hxy
  rw[h1,h2];exact hxy.symm
 have Zv:a≠b:=by
  rintro rfl
  rw[hzx] at hzu;cases hzu;exact ov3 rfl
 have lx:ls[a]?=some x.k:=by have:=mO hzx;rwa[dy] at this
 have ly:ls[nx ls a]?=some y.k:=by have:=mO hzy;rwa[dy] at this
 have lu:ls[b]?=some u.k:=by have:=mO hzu;rwa[dy] at this
 have lv:ls[nx ls b]?=some v.k:=by have:=mO hzv;rwa[dy] at this
 have hg:=Fq g ha hb lx ly lu lv cx cy cu cv hxy huv Zv adI
 -- where the second edge stands, from the first one on
 obtain⟨j,hj1,hj2,hj3⟩:∃j,j+3<ls.length/\(a+(j+2))%ls.length=b/\(a+(j+3))%ls.length=nx ls b:=by
  have agO:nx ls a≠b:=by intro e;rw[e,hzu] at hzy;cases hzy;exact ov3 ov1
  have aiW:nx ls b≠a:=by intro e;rw[e,hzx] at hzv;cases hzv;exact ov3 ov2.symm
  unfold nx at agO aiW ⊢;by_cases c1:a<b
  .have e1:(a+1)%ls.length=a+1:=aaB (by omega);rw[e1] at agO;have h2:b≠a+1:=fun h=>agO h.symm;have h3:¬(b+1=ls.length/\a=0):=fun⟨h3,h4⟩=>aiW (by rw[h3,acx,h4]);refine⟨b-a-2,by omega,?_,?_⟩
   .rw[show a+(b-a-2+2)=b by omega,aaB hb]
   rw[show a+(b-a-2+3)=b+1 by omega]
  have e1:(b+1)%ls.length=b+1:=aaB (by omega);rw[e1] at aiW;have h3:¬(a+1=ls.length/\b=0):=fun⟨h3,h4⟩=>agO (by rw[h3,acx,h4]);refine⟨b+ls.length-a-2,by omega,?_,?_⟩
  .rw[show a+(b+ls.length-a-2+2)=b+ls.length by omega,abX,aaB hb]
  rw[show a+(b+ls.length-a-2+3)=b+1+ls.length by omega,abX]
 have hru:r0[j]?=some u:=by have:=Oa (z:=zF ls) (a:=a) (j:=j+2) (by omega) (by omega);rw[e,hzl,hj2,hzu] at this;exact this
 have hrv:r0[j+1]?=some v:=by have:=Oa (z:=zF ls) (a:=a) (j:=j+3) (by omega) (by omega);rw[e,hzl,hj3,hzv] at this;exact this
 have hsp:=La hru hrv;obtain⟨c1,c2,hr0,aoS,ag7⟩:∃c1 c2,r0=c1++u::v::c2/\c1.length=j/\c2.length+j+4=ls.length:=by
  refine⟨_,_,hsp,?_,?_⟩
  .have:=(aac.1 hru).1;rw[aay];omega
  have h1:=(aac.1 hrv).1;have h2:=Ys.length_eq;rw[hzl] at h2;simp only[aas] at h2;rw[aa1];omega
 subst hr0
 -- the two paths that are left
 obtain⟨ZF,Zd,hpr⟩:=hp;obtain⟨s2,hp1,hu1,hv1,hp2⟩:=fL.1 hpr;have hj0:j≠0:=by
  rintro rfl
  exact ZG hj2
 have hj9:c2≠[]:=by
  rintro rfl
  simp only[aaA] at ag7;refine hn2 ?_;rw[<- hj2,Nat.mod_add_mod,show a+(j+2)+2=a+ls.length by omega,abX,aaB ha]
 have Zz:c1≠[]:=by rintro rfl;simp at aoS;omega
 have q4:Cq F ([x,y,u,v]++(c1++c2)) (TF ls) (BF ls):=by refine q.perm ?_;refine List.Perm.cons x (List.Perm.cons y ?_);exact ady.trans (List.Perm.cons u ady)
 obtain⟨w1,q5⟩:=abd.1 q4.cr;obtain⟨w2,q6⟩:=abd.1 q5;obtain⟨w3,q7⟩:=abd.1 q6;obtain⟨w4,q8⟩:=abd.1 q7;have rxu:Xr x u:=w1 u (by simp);have rxv:Xr x v:=w1 v (by simp);have ryu:Xr y u:=w2 u (by simp);have ryv:Xr y v:=w2 v (by simp);have abA:∀w∈c1++c2,w.k.aw=true->w.k.id≠x.k.id/\w.k.id≠y.k.id:=fun w hw cw=>by
  have a1:Xr x w:=w1 w (acJ [y,u,v] hw);have a2:Xr y w:=w2 w (acJ [u,v] hw);have a3:Xr u w:=w3 w (acJ [v] hw);have a4:Xr v w:=w4 w hw;rcases aeL with ⟨h1,h2⟩|⟨h1,h2⟩
  .exact⟨Jm rxu a1 a3 cx cu cw h1.symm,Jm ryv a2 a4 cy cv cw h2.symm⟩
  exact⟨Jm rxv a1 a4 cx cv cw h2.symm,Jm ryu a2 a3 cy cu cw h1.symm⟩
 have bx:=(q4.ok x (by simp)).cb cx;have Zo:=(q4.ok y (by simp)).cb cy;have bu:=(q4.ok u (by simp)).cb cu;have bv:=(q4.ok v (by simp)).cb cv;rw[ZF] at bx;rw[Zd] at Zo;rw[hv1] at bv
 -- which names are merged, and which are lost
 obtain⟨mc,me,bg,m1,m2,m3⟩:∃mc me bg:Nat,y.o.mp (g9 mc me)=s.mp (g9 mc me)/\v.o.mp (g9 mc me)=s2.mp (g9 mc me)/\
   (∀t,(t=x.o.l\/t=x.o.r)\/(t=y.o.l\/t=y.o.r)\/(t=u.o.l\/t=u.o.r)\/(t=v.o.l\/t=v.o.r)->t=mc\/t=bg\/(t=s.l\/t=s.r)\/(t=s2.l\/t=s2.r)):=by
  have Yo:y.o.b=s.b:=by rw[<- Zo,<- bx]
  have Yp:v.o.b=s2.b:=by rw[<- bv,<- bu,hu1]
  have fin:∀mc me,g9 mc me y.o.l=g9 mc me s.l->g9 mc me y.o.r=g9 mc me s.r->g9 mc me v.o.l=g9 mc me s2.l->g9 mc me v.o.r=g9 mc me s2.r->y.o.mp (g9 mc me)=s.mp (g9 mc me)/\v.o.mp (g9 mc me)=s2.mp (g9 mc me):=fun mc me k1 k2 k3 k4=>⟨gC.ext' k1 k2 Yo,gC.ext' k3 k4 Yp⟩;rcases aeL with ⟨h1,h2⟩|⟨h1,h2⟩
  .have p1:=(rxu cx cu h1.symm).x4;have p2:=(ryv cy cv h2.symm).x4;rw[ZF,hu1] at p1;rw[Zd,hv1] at p2;obtain⟨a1,a2,a3,a4⟩:=p1;obtain⟨b1,b2,b3,b4⟩:=p2;cases hgx:gX x.k
   .have hgy:gX y.k=true:=by revert hg;rw[hgx];cases gX y.k<;>simp
    rw[hgx] at a1 a2 a3 a4;rw[hgy] at b1 b2 b3 b4;simp only[aaq,if_false,if_true] at a1 a2 a3 a4 b1 b2 b3 b4;refine⟨y.o.l,s.l,x.o.r,?_⟩;have f:=fin y.o.l s.l (by rw[kK,kJ]) (by rw[b2,a4]) (by rw[<- b1,a3]) (by rw[b4,<- a1,kK,kJ]);refine⟨f.1,f.2,?_⟩;rintro t ((rfl|rfl)|(rfl|rfl)|(rfl|rfl)|(rfl|rfl))
    .exact .inr (.inr (.inr (.inl a3.symm)))
    .exact .inr (.inl rfl)
    .exact .inl rfl
    .exact .inr (.inr (.inl (.inr (b2.trans a4))))
    .exact .inr (.inl a2.symm)
    .exact .inr (.inr (.inl (.inr a4)))
    .exact .inr (.inr (.inr (.inl (by rw[<- b1,a3]))))
    exact .inl b4
   have hgy:gX y.k=false:=by revert hg;rw[hgx];cases gX y.k<;>simp
   rw[hgx] at a1 a2 a3 a4;rw[hgy] at b1 b2 b3 b4;simp only[aaq,if_false,if_true] at a1 a2 a3 a4 b1 b2 b3 b4;refine⟨y.o.r,s.r,x.o.l,?_⟩;have f:=fin y.o.r s.r (by rw[<- b3,a1]) (by rw[kK,kJ]) (by rw[a3,<- b2,kK,kJ]) (by rw[b4,a2]);refine⟨f.1,f.2,?_⟩;rintro t ((rfl|rfl)|(rfl|rfl)|(rfl|rfl)|(rfl|rfl))
   .exact .inr (.inl rfl)
   .exact .inr (.inr (.inr (.inr a2)))
   .exact .inr (.inr (.inl (.inl (by rw[<- b3,a1]))))
   .exact .inl rfl
   .exact .inr (.inr (.inl (.inl a1.symm)))
   .exact .inr (.inl a4)
   .exact .inl b2.symm
   exact .inr (.inr (.inr (.inr (b4.trans a2))))
  have p1:=(rxv cx cv h2.symm).x4;have p2:=(ryu cy cu h1.symm).x4;rw[ZF,hv1] at p1;rw[Zd,hu1] at p2;obtain⟨a1,a2,a3,a4⟩:=p1;obtain⟨b1,b2,b3,b4⟩:=p2;cases hgx:gX x.k
  .have hgy:gX y.k=true:=by revert hg;rw[hgx];cases gX y.k<;>simp
   rw[hgx] at a1 a2 a3 a4;rw[hgy] at b1 b2 b3 b4;simp only[aaq,if_false,if_true] at a1 a2 a3 a4 b1 b2 b3 b4;refine⟨y.o.r,s.r,x.o.l,?_⟩;have f:=fin y.o.r s.r (by rw[a1,<- b4]) (by rw[kK,kJ]) (by rw[<- a2,b3]) (by rw[a4,<- b2,kK,kJ]);refine⟨f.1,f.2,?_⟩;rintro t ((rfl|rfl)|(rfl|rfl)|(rfl|rfl)|(rfl|rfl))
   .exact .inr (.inl rfl)
   .exact .inr (.inr (.inr (.inl b3.symm)))
   .exact .inr (.inr (.inl (.inl (by rw[a1,<- b4]))))
   .exact .inl rfl
   .exact .inr (.inl b1.symm)
   .exact .inr (.inr (.inl (.inl (by rw[a1]))))
   .exact .inr (.inr (.inr (.inl (by rw[<- a2,b3]))))
   exact .inr (.inr (.inl (.inr a4)))
  have hgy:gX y.k=false:=by revert hg;rw[hgx];cases gX y.k<;>simp
  rw[hgx] at a1 a2 a3 a4;rw[hgy] at b1 b2 b3 b4;simp only[aaq,if_false,if_true] at a1 a2 a3 a4 b1 b2 b3 b4;refine⟨y.o.l,s.l,x.o.r,?_⟩;have f:=fin y.o.l s.l (by rw[kK,kJ]) (by rw[b2,a3]) (by rw[<- a1,b3,kK,kJ]) (by rw[a4,b1]);refine⟨f.1,f.2,?_⟩;rintro t ((rfl|rfl)|(rfl|rfl)|(rfl|rfl)|(rfl|rfl))
  .exact .inr (.inr (.inr (.inr b1)))
  .exact .inr (.inl rfl)
  .exact .inl rfl
  .exact .inr (.inr (.inl (.inr (by rw[b2,a3]))))
  .exact .inr (.inr (.inl (.inr a3)))
  .exact .inr (.inl b4)
  .exact .inr (.inr (.inl (.inl a1.symm)))
  exact .inr (.inr (.inr (.inr (a4.trans b1))))
 have hcC:∀z:List aM,ao Let.aw (be ([x,y,u,v]++z))=ao Let.aw (be z)+4:=fun z=>by rw[fh,aG,aG,aG,aG,fg,(xz cx).1,(xz cy).1,(xz cu).1,(xz cv).1];omega
 have hcP:∀z:List aM,ao Let.aA (be ([x,y,u,v]++z))=ao Let.aA (be z):=fun z=>by rw[fh,aG,aG,aG,aG,fg,(xz cx).2,(xz cy).2,(xz cu).2,(xz cv).2];omega
 have hcG:∀(z:List aM) k,cg (be ([x,y,u,v]++z)) k=cg (be z) k:=fun z k=>by show ao _ _=ao _ _;rw[fh,aG,aG,aG,aG,fg,pM k cx,pM k cy,pM k cu,pM k cv];simp
 have hP4:([x,y,u,v]++(c1++c2)).Perm (zF ls):=by refine List.Perm.trans (List.Perm.symm ?_) Ys;refine List.Perm.cons x (List.Perm.cons y ?_);exact ady.trans (List.Perm.cons u ady)
 have h2:ao Let.aw (be ([x,y,u,v]++(c1++c2)))=ao Let.aw ls:=by rw[fW hP4,dy]
 have h3:ao Let.aA (be ([x,y,u,v]++(c1++c2)))=ao Let.aA ls:=by rw[fW hP4,dy]
 have YU:=q4.ev
 let ψ:=g9 mc me
 let hL:=fN [x.k.id,y.k.id]
 let r:=c1++c2
 have mC:ao Let.aw (be (r.map (aM.mp ψ hL)))=ao Let.aw (be r):=iR (fun l=>(ga _).aw l) r;have mP:ao Let.aA (be (r.map (aM.mp ψ hL)))=ao Let.aA (be r):=iR (fun l=>(ga _).aA l) r;have mG:∀k,cg (be (r.map (aM.mp ψ hL))) k=cg (be r) k:=fun k=>iR (fun l=>FC _ k l) r;have adC:∀w∈[x,y,u,v]++r,w.k.aw=true->1<=w.k.id/\w.k.id<=((ao Let.aw (be r)/2:Nat):Int)+2:=fun w hw hc=>by have:=q4.ids w hw hc;rw[hcC] at this;show 1<=w.k.id/\w.k.id<=((ao Let.aw (be (c1++c2))/2:Nat):Int)+2;omega
 have idx:=adC x (by simp) cx;have idy:=adC y (by simp) cy;have inr:∀w∈r,w∈[x,y,u,v]++r:=fun w hw=>acJ _ hw;have qn:Cq F ([]++r.map (aM.mp ψ hL)) (fun G k=>ψ (TF ls G k)) (fun G k=>ψ (BF ls G k)):=by
  refine Cq.edit (X:=[x,y,u,v]) (r:=r) q4 (ga _) (fun w hw=>FB (q4.ok w (inr w hw)).bad) (fun p hp o ho cp co e=>?_) (fun p hp o ho pp po e1 e2=>?_) (fun _ h=>by cases h) List.Pairwise.nil List.Pairwise.nil (fun _ h=>by cases h) (fun _ h=>by cases h) ?_ (fun _ h=>by cases h) (fun p hp cp=>?_) (fun _ h=>by cases h) (fun p hp pp=>?_) (fun _ h=>by cases h) (fun p hp pp=>?_) (fun k hk=>?_) ?_
  .obtain⟨n1,n2⟩:=abA p hp cp;obtain⟨n3,n4⟩:=abA o ho co;rw[Vw cp rfl,Vw co rfl] at e;split at e<;>split at e<;>split at e<;>split at e<;>omega
  .have e1:(fN [x.k.id,y.k.id] p.k).gate=(fN [x.k.id,y.k.id] o.k).gate:=e1;have e2:(fN [x.k.id,y.k.id] p.k).Yb=(fN [x.k.id,y.k.id] o.k).Yb:=e2;rw[mQ pp,mQ po] at e1 e2;exact⟨e1,e2⟩
  .rw[aaE,mC];rw[hcC] at YU;show ao Let.aw (be (c1++c2))%2=0;omega
  .rw[aaE,mC];show 1<=(fN [x.k.id,y.k.id] p.k).id/\(fN [x.k.id,y.k.id] p.k).id<=_;rw[Vw cp rfl];have h1:=adC p (inr p hp) cp;obtain⟨n1,n2⟩:=abA p hp cp;have hxy':=hxy;split<;>split<;>omega
  .rw[aaE,mG];show 1<=(fN [x.k.id,y.k.id] p.k).Yb/\(fN [x.k.id,y.k.id] p.k).Yb<=((cg (be r) (fN [x.k.id,y.k.id] p.k).gate.toNat:Nat):Int);rw[mQ pp,<- hcG r];exact q4.rr p (inr p hp) pp
  .show(ψ _=ψ (TF ls (fN [x.k.id,y.k.id] p.k).gate.toNat ((fN [x.k.id,y.k.id] p.k).Yb.toNat-1))/\ψ _=ψ (BF ls (fN [x.k.id,y.k.id] p.k).gate.toNat ((fN [x.k.id,y.k.id] p.k).Yb.toNat-1)))/\ψ _=ψ (TF ls (fN [x.k.id,y.k.id] p.k).gate.toNat (fN [x.k.id,y.k.id] p.k).Yb.toNat)/\ψ _=ψ (BF ls (fN [x.k.id,y.k.id] p.k).gate.toNat (fN [x.k.id,y.k.id] p.k).Yb.toNat);rw[mQ pp];exact⟨⟨rfl,rfl⟩,rfl,rfl⟩
  .rw[aaE,mG,<- hcG r];obtain⟨t1,t2⟩:=q4.gt k hk;exact⟨congrArg ψ t1,congrArg ψ t2⟩
  rw[aaE,mG,<- hcG r];obtain⟨t1,t2⟩:=q4.gz;exact⟨congrArg ψ t1,congrArg ψ t2⟩
 have aci:Cert F (r.map fun w=>pS [x.k.id,y.k.id] w.p):=by
  refine Cq.done (X:=[x,y,u,v]) (r:=r) (X':=[]) (L:=[mc,bg]) (N:=[]) (V:=bb ls) (z':=r.map (aM.mp ψ hL)) qn ac6 (fun t ht=>?_) (List.Perm.refl _) ⟨s.mp ψ,?_⟩ ?_ ?_ (fun t _ ht=>JP fun e=>ht (by simp[e])) (fun w hw t ht ew hL'=>?_) abr (fun t ht=>by cases ht) (fun t ht=>by cases ht) (by rw[acm];exact aad _) ?_
  .obtain⟨w,hw,ew⟩:=c.wit t ht;refine⟨w,?_,ew⟩;have:w∈zF ls:=Ys.mem_iff.1 hw;exact hP4.mem_iff.2 this
  .have e1:=oz (ψ:=ψ) (h:=hL) hp1;have e2:=oz (ψ:=ψ) (h:=hL) hp2;rw[show y.o.mp ψ=s.mp ψ from m1] at e1;rw[show v.o.mp ψ=s2.mp ψ from m2] at e2;show dq (s.mp ψ) ((c1++c2).map (aM.mp ψ hL)) (s.mp ψ);rw[aaN];exact fL.2 ⟨_,e1,e2⟩
  .rw[abq];refine act fun w _=>?_;rw[OP];rfl
  .obtain⟨w,hw,hwp⟩:=c.one;have hw':w∈[x,y,u,v]++r:=hP4.mem_iff.2 (Ys.mem_iff.1 hw);rcases aaw.1 hw' with h|h
   .exfalso;simp only[aag,aaC,or_false] at h;rcases h with rfl|rfl|rfl|rfl
    .rw[cA cx] at hwp;cases hwp
    .rw[cA cy] at hwp;cases hwp
    .rw[cA cu] at hwp;cases hwp
    rw[cA cv] at hwp;cases hwp
   refine⟨w.mp ψ hL,by rw[aaE];exact aan.2 ⟨w,h,rfl⟩,?_⟩;show(fN [x.k.id,y.k.id] w.k).aA=true;rw[(ga _).aA];exact hwp
  .simp only[aag,aaC,or_false,not_or] at hw hL';have key:=m3 t (by
    rcases hw with rfl|rfl|rfl|rfl
    .exact .inl ew
    .exact .inr (.inl ew)
    .exact .inr (.inr (.inl ew))
    exact .inr (.inr (.inr ew)))
   have hψ:ψ t=t:=JP hL'.1;have put:∀d∈r,(t=d.o.l\/t=d.o.r)->∃y'∈[]++r.map (aM.mp ψ hL),t=y'.o.l\/t=y'.o.r:=fun d hd h=>by
    refine⟨d.mp ψ hL,by rw[aaE];exact aan.2 ⟨d,hd,rfl⟩,?_⟩;rcases h with h|h
    .left;show t=ψ d.o.l;rw[<- h,hψ]
    right;show t=ψ d.o.r;rw[<- h,hψ]
   rcases key with h|h|h|h
   .exact absurd h hL'.1
   .exact absurd h hL'.2
   .obtain⟨d,hd,ed⟩:=oD hp2 hj9;exact put d (acJ _ hd) (by rw[ed];exact h)
   obtain⟨d,hd,ed⟩:=oD hp1 Zz;exact put d (List.mem_append_left _ hd) (by rw[ed];exact h)
  rw[aaE,mC,mP];have h1:=g.nw;rw[hcC] at h2;rw[hcP] at h3;show ao Let.aA (be (c1++c2))+ao Let.aw (be (c1++c2))/2+1+2<=_;simp only[aaA];omega
 rw[pa,pb];show Cert F ((iY (pieces ls) (lY [x.k.id,y.k.id])).map (pS [x.k.id,y.k.id]));rw[wy (l:=pieces ls) (drop:=lY [x.k.id,y.k.id]) (d:=fun p=>(p.l.kind==2)&&[x.k.id,y.k.id].contains p.l.id) fun _ _=>rfl];refine Gl (a:=a) ?_;rw[adz];have hkx:(x.p.l.kind==2)=true:=cx;have hky:(y.p.l.kind==2)=true:=cy;have hku:(u.p.l.kind==2)=true:=cu;have hkv:(v.p.l.kind==2)=true:=cv;have alh:∀d∈r,(fun p:Pc=> !((p.l.kind==2)&&[x.k.id,y.k.id].contains p.l.id)) d.p=true:=fun d hd=>by
  show(!((d.p.l.kind==2)&&_))=true;cases hk:(d.p.l.kind==2)
  .rfl
  obtain⟨n1,n2⟩:=abA d hd hk;simp[n1,n2]
 have adj:∀(d:aM) (t:List Pc),(d.p.l.kind==2)=true->(d.k.id=x.k.id\/d.k.id=y.k.id)->(d.p::t).filter (fun p=> !((p.l.kind==2)&&[x.k.id,y.k.id].contains p.l.id))=t.filter (fun p=> !((p.l.kind==2)&&[x.k.id,y.k.id].contains p.l.id)):=fun d t hd h=>by
  refine List.filter_cons_of_neg ?_;rcases h with h|h
  .have h:d.p.l.id=x.k.id:=h;simp[h,hd]
  have h:d.p.l.id=y.k.id:=h;simp[h,hd]
 have hf:((x::y::(c1++u::v::c2)).map aM.p).filter (fun p=> !((p.l.kind==2)&&[x.k.id,y.k.id].contains p.l.id))=r.map aM.p:=by
  rw[aar,aar,adj x _ hkx (.inl rfl),adj y _ hky (.inr rfl),aaN,List.filter_append,aar,aar,
   adj u _ hku (aeL.imp (fun h=>h.1) fun h=>h.1),adj v _ hkv (aeL.symm.imp (fun h=>h.2) fun h=>h.2)]
  rw[<- List.filter_append,<- aaN];refine filter_all fun p hp=>?_;obtain⟨d,hd,rfl⟩:=aan.1 hp;exact alh d hd
 rw[hf,abq];exact aci
end
theorem qm{α:Type}{z:List α}{a:Nat}{x:α}(h:z[a]?=some x):z=z.take a++x::z.drop (a+1):=by
 obtain⟨hl,e⟩:=aac.1 h;have:z.drop a=x::z.drop (a+1):=by rw[<- e,abH]
 rw[<- this,aa2]
theorem Oz{ψ:Nat->Nat}{h:Let->Let}{z1 z2:List aM}{x x':aM}{s:gC}(hp:dq s (z1++x::z2) s)(hi:x'.i=x.i.mp ψ)(ho:x'.o=x.o.mp ψ):dq (s.mp ψ) (z1.map (aM.mp ψ h)++x'::z2.map (aM.mp ψ h)) (s.mp ψ):=by obtain⟨m,h1,h2,h3⟩:=fL.1 hp;exact fL.2 ⟨m.mp ψ,oz h1,by rw[hi,h2],by rw[ho];exact oz h3⟩
theorem DR{w:aM}{G:Nat}(hw:w.k.aA=true)(hg:w.k.gate=(G:Int))(k:Nat):(if vG k w.k=true then 1 else 0)=if k=G then 1 else 0:=by
 unfold vG;rw[hw,hg];by_cases ck:k=G
 .subst ck;simp
 have:((G:Int)==(k:Int))=false:=by rw[beq_eq_false_iff_ne];omega
 simp[this,ck]
theorem Jy{l:List Pc}{f:Pc->Pc}{i:Nat}{p q:Pc}(hp:l[i]?=some p):(l.map f).set i q=(l.take i).map f++q::(l.drop (i+1)).map f:=by
 have hl:=(aac.1 hp).1
 conv=>lhs;rw[qm hp]
 rw[aaN,aar,List.set_append_right _ _ (by rw[aah,aay];omega),aah,aay,ab0 (by omega),Nat.sub_self];rfl
section
variable {F:Nat} {ls:List Let}
theorem GA(g:cD F ls){a:Nat}{x:aM}(hx:(zF ls)[a]?=some x)(px:x.k.aA=true){G G':Nat}(hG:x.k.gate=(G:Int))(hG':G'<=F)(Yk:G'≠G){g' ab Zo rk':Int}{T' B':Nat->Nat->Nat}
  (hin:∀w∈(zF ls).take a++(zF ls).drop (a+1),w.k.aA=true->(1<=(sP g' ab Zo w.k).Yb/\(sP g' ab Zo w.k).Yb<=((cg ls w.k.gate.toNat:Nat):Int)+(if w.k.gate.toNat=G' then 1 else 0)-(if w.k.gate.toNat=G then 1 else 0))/\(w.k.gate=(G':Int)->(sP g' ab Zo w.k).Yb≠rk'))
  (aoA:∀u∈(zF ls).take a++(zF ls).drop (a+1),∀v∈(zF ls).take a++(zF ls).drop (a+1),u.k.aA=true->v.k.aA=true->u.k.gate=v.k.gate->(sP g' ab Zo u.k).Yb=(sP g' ab Zo v.k).Yb->u.k.Yb=v.k.Yb)
  (hrk:1<=rk'/\rk'<=(cg ls G':Int)+1)
  (hT:∀f f':Nat->Nat->Nat,(f=TF ls/\f'=T')\/(f=BF ls/\f'=B')->(f x.k.gate.toNat (x.k.Yb.toNat-1)=f' G' (rk'.toNat-1)/\f x.k.gate.toNat x.k.Yb.toNat=f' G' rk'.toNat)/\
   (∀w∈(zF ls).take a++(zF ls).drop (a+1),w.k.aA=true->f w.k.gate.toNat (w.k.Yb.toNat-1)=f' w.k.gate.toNat ((sP g' ab Zo w.k).Yb.toNat-1)/\f w.k.gate.toNat w.k.Yb.toNat=f' w.k.gate.toNat (sP g' ab Zo w.k).Yb.toNat)/\
   (∀k,k<F->f' k (cg ls k+(if k=G' then 1 else 0)-(if k=G then 1 else 0))=f' (k+1) 0)/\f' F (cg ls F+(if F=G' then 1 else 0)-(if F=G then 1 else 0))=f' 0 0):
  Cert F (((pieces ls).take a).map (sy g' ab Zo)++⟨{x.k with gate:=(G':Int),Yb:=rk'},x.p.d⟩::((pieces ls).drop (a+1)).map (sy g' ab Zo)):=by
 have c:=g.cz;have hz:=qm hx
 let z1:=(zF ls).take a
 let z2:=(zF ls).drop (a+1)
 let x':aM:=⟨⟨{x.k with gate:=(G':Int),Yb:=rk'},x.p.d⟩,x.i,x.o⟩
 have px':x'.k.aA=true:=px;have Ys:(zF ls).Perm ([x]++(z1++z2)):=by
  conv=>lhs;rw[hz]
  exact ady
 have q:Cq F ([x]++(z1++z2)) (TF ls) (BF ls):=c.q.perm Ys
 let r:=z1++z2
 let hL:=sP g' ab Zo
 have mC:ao Let.aw (be (r.map (aM.mp id hL)))=ao Let.aw (be r):=iR (fun l=>(eM _ _ _).aw l) r;have mP:ao Let.aA (be (r.map (aM.mp id hL)))=ao Let.aA (be r):=iR (fun l=>(eM _ _ _).aA l) r;have mG:∀k,cg (be (r.map (aM.mp id hL))) k=cg (be r) k:=fun k=>iR (fun l=>CQ _ _ _ k l) r;have tC:ao Let.aw ls=ao Let.aw (be r):=by have:=fW (p:=Let.aw) Ys;rw[dy,fh,aG,fg,(M8 px).1] at this;show _=ao Let.aw (be (z1++z2));rw[this];omega
 have tP:ao Let.aA ls=ao Let.aA (be r)+1:=by have:=fW (p:=Let.aA) Ys;rw[dy,fh,aG,fg,(M8 px).2] at this;show _=ao Let.aA (be (z1++z2))+1;rw[this];omega
 have tG:∀k,cg ls k=cg (be r) k+if k=G then 1 else 0:=fun k=>by have:=fW (p:=vG k) Ys;rw[dy,fh,aG,fg,DR px hG] at this;show ao _ _=ao (vG k) (be (z1++z2))+_;rw[this];omega
 have nC:ao Let.aw (be ([x']++r.map (aM.mp id hL)))=ao Let.aw ls:=by rw[fh,aG,fg,(M8 px').1,mC,tC];omega
 have nP:ao Let.aA (be ([x']++r.map (aM.mp id hL)))=ao Let.aA ls:=by rw[fh,aG,fg,(M8 px').2,mP,tP];omega
 have nG:∀k,cg (be ([x']++r.map (aM.mp id hL))) k=cg ls k+(if k=G' then 1 else 0)-(if k=G then 1 else 0):=fun k=>by
  have e1:cg (be ([x']++r.map (aM.mp id hL))) k=(if k=G' then 1 else 0)+cg (be (r.map (aM.mp id hL))) k:=by show ao _ _=_+ao _ _;rw[fh,aG,fg,DR px' rfl];omega
  rw[e1,mG,tG];split<;>split<;>omega
 have nx':x'.k.aw=false:=dz px';have aps:cF F x'.k=false:=by have:=(cJ px).1 (c.ok x (aab hx)).bad;refine(cJ px').2 ?_;exact⟨⟨⟨⟨by show(0:Int)<=(G':Int);omega,by show(G':Int)<=(F:Int);omega⟩,this.1.1.2⟩,this.1.2⟩,this.2⟩
 have inr:∀w∈r,w∈[x]++r:=fun w hw=>acJ _ hw;have tx:=hT (TF ls) T' (.inl ⟨rfl,rfl⟩);have bx:=hT (BF ls) B' (.inr ⟨rfl,rfl⟩);have plx:=q.pl x (by simp) px;have qn:Cq F ([x']++r.map (aM.mp id hL)) T' B':=by
  refine Cq.edit (X:=[x]) (r:=r) q (eM _ _ _) (fun w hw=>CP (q.ok w (inr w hw)).bad) (fun u hu v hv cu cv e=>?_) (fun u hu v hv pu pv e1 e2=>?_) (fun w hw=>?_) (adQ ..) (adQ ..) (fun u hu w hw=>?_) (fun u hu w hw pu pw e1 e2=>?_) (by rw[nC];have:=c.ev;rwa[dy] at this) (fun w hw cw=>?_) (fun u hu cu=>?_) (fun w hw pw=>?_) (fun u hu pu=>?_) (fun w hw pw=>?_) (fun u hu pu=>?_) (fun k hk=>?_) ?_
  .rw[mL,mL] at e;exact e
  .have e1':u.k.gate=v.k.gate:=by rw[eN,eN] at e1;exact e1
   exact⟨e1',aoA u hu v hv pu pv e1' e2⟩
  .rw[abm] at hw;subst hw;exact⟨aps,fun h=>absurd h (by rw[nx'];decide),fun _=>(c.ok x (aab hx)).pb px⟩
  .rw[abm] at hu;subst hu;exact UY nx'
  .rw[abm] at hu;subst hu;have pw:w.k.aA=true:=by rw[<- (eM g' ab Zo).aA];exact pw
   have e1:(G':Int)=(hL w.k).gate:=e1;have e1:w.k.gate=(G':Int):=by rw[e1];exact(eN _ _ _ _).symm
   exact(hin w hw pw).2 e1 e2.symm
  .rw[abm] at hw;subst hw;rw[nx'] at cw;cases cw
  .rw[nC,mL,<- dy ls];exact c.ids u (Ys.mem_iff.2 (inr u hu)) cu
  .rw[abm] at hw;subst hw;rw[nG];show 1<=rk'/\rk'<=((cg ls ((G':Int)).toNat+(if ((G':Int)).toNat=G' then 1 else 0)-(if ((G':Int)).toNat=G then 1 else 0):Nat):Int);rw[aba,if_pos rfl,if_neg Yk];omega
  .rw[eN,nG];obtain⟨⟨a1,a2⟩,_⟩:=hin u hu pu;refine⟨a1,?_⟩;have YG:(if u.k.gate.toNat=G then 1 else 0)<=cg ls u.k.gate.toNat:=by rw[tG];omega
   have a2:(hL u.k).Yb<=((cg ls u.k.gate.toNat:Nat):Int)+(if u.k.gate.toNat=G' then 1 else 0)-(if u.k.gate.toNat=G then 1 else 0):=a2;show(hL u.k).Yb<=((cg ls u.k.gate.toNat+(if u.k.gate.toNat=G' then 1 else 0)-(if u.k.gate.toNat=G then 1 else 0):Nat):Int);by_cases h1:u.k.gate.toNat=G'<;>by_cases h2:u.k.gate.toNat=G
   .rw[if_pos h1,if_pos h2] at a2 ⊢;rw[if_pos h2] at YG;omega
   .rw[if_pos h1,if_neg h2] at a2 ⊢;omega
   .rw[if_neg h1,if_pos h2] at a2 ⊢;rw[if_pos h2] at YG;omega
   rw[if_neg h1,if_neg h2] at a2 ⊢;omega
  .rw[abm] at hw;subst hw;obtain⟨p1,p2,p3,p4⟩:=plx;obtain⟨⟨t1,t2⟩,_⟩:=tx;obtain⟨⟨b1,b2⟩,_⟩:=bx;have e0:x'.k.gate.toNat=G':=aba _;constructor
   .rw[e0];exact p1.trans t1
   .rw[e0];exact p2.trans t2
   .rw[e0];exact p3.trans b1
   rw[e0];exact p4.trans b2
  .rw[eN];obtain⟨t1,t2⟩:=tx.2.1 u hu pu;obtain⟨b1,b2⟩:=bx.2.1 u hu pu;exact⟨⟨t1,b1⟩,t2,b2⟩
  .rw[nG];exact⟨tx.2.2.1 k hk,bx.2.2.1 k hk⟩
  rw[nG];exact⟨tx.2.2.2,bx.2.2.2⟩
 obtain⟨s,hp⟩:=c.path;rw[hz] at hp;refine Cq.done (X:=[x]) (r:=r) (X':=[x']) (L:=[]) (N:=[]) (V:=bb ls) (z':=z1.map (aM.mp id hL)++x'::z2.map (aM.mp id hL)) qn c.nd (fun t ht=>?_) ?_ ⟨s.mp id,Oz hp rfl rfl⟩ ?_ ⟨x',by simp,px'⟩ (fun _ _ _=>rfl) (fun w hw t ht ew _=>?_) abr (fun t ht=>by cases ht) (fun t ht=>by cases ht) (by rw[acm];exact aad _) ?_
 .obtain⟨w,hw,ew⟩:=c.wit t ht;exact⟨w,Ys.mem_iff.1 hw,ew⟩
 .show(z1.map (aM.mp id hL)++x'::z2.map (aM.mp id hL)).Perm ([x']++(z1++z2).map (aM.mp id hL));rw[aaN];exact ady
 .have h1:∀t:List aM,(t.map (aM.mp id hL)).map aM.p=(t.map aM.p).map (sy g' ab Zo):=fun t=>by
   rw[abq,abq];refine act fun w _=>?_;show _=sy g' ab Zo w.p;rw[EO];rfl
  rw[aaN,aar,h1,h1];show(((zF ls).take a).map aM.p).map _++_::(((zF ls).drop (a+1)).map aM.p).map _=_;rw[acy,ac2,tL]
 .rw[abm] at hw;subst hw;exact⟨x',by simp,ew⟩
 rw[nC,nP];have:=g.nw;simp only[aaA];omega
theorem XP(g:cD F ls){a:Nat}(ha:a<ls.length){L:List Pc}(h:U5 F ls a=some L):Cert F L:=by
 have hzl:=kn ls;obtain⟨x,hx⟩:=ai (ls:=zF ls) (k:=a) (by omega);have hxp:(pieces ls)[a]?=some x.p:=by rw[<- tL,aaz,hx];rfl
 have hpA:pA ls a=x.p:=eO hxp;unfold U5 at h;rw[hpA] at h;split at h
 case isFalse=>cases h
 rename_i hc;simp only[aaf,beq_iff_eq,decide_eq_true_eq] at hc;obtain⟨h1,h2,h3⟩:=hc;cases h;have c:=g.cz;have px:x.k.aA=true:=by show(x.k.kind==1)=true;simp[h1]
 have gx:=((cJ px).1 (c.ok x (aab hx)).bad).1.1.1;have rx:=c.rr x (aab hx) px;rw[dy] at rx;have h3:x.k.Yb=(cg ls x.k.gate.toNat:Int):=h3;have h2:x.k.gate<(F:Int):=h2;have hG:x.k.gate=((x.k.gate.toNat:Nat):Int):=(Int.toNat_of_nonneg gx.1).symm;generalize x.k.gate.toNat=G at hG h3 rx;have hz:=qm hx;have Ys:(zF ls).Perm (x::((zF ls).take a++(zF ls).drop (a+1))):=by
  conv=>lhs;rw[hz]
  exact ady
 have q:=c.q.perm Ys;have oth:∀w∈(zF ls).take a++(zF ls).drop (a+1),w.k.aA=true->(0<=w.k.gate/\w.k.gate<=(F:Int))/\1<=w.k.Yb/\w.k.Yb<=(cg ls w.k.gate.toNat:Int)/\(w.k.gate=(G:Int)->w.k.Yb≠x.k.Yb):=fun w hw pw=>by have hw':w∈zF ls:=Ys.mem_iff.2 (abv _ hw);have r1:=c.rr w hw' pw;rw[dy] at r1;refine⟨((cJ pw).1 (c.ok w hw').bad).1.1.1,r1.1,r1.2,fun e1 e2=>?_⟩;exact(abd.1 q.rk).1 w hw px pw (by rw[hG,e1]) e2.symm
 have rk:∀w:aM,w.k.aA=true->(sP ((G:Int)+1) 0 1 w.k).Yb=if w.k.gate=(G:Int)+1/\0<w.k.Yb then w.k.Yb+1 else w.k.Yb:=fun w pw=>tW pw;have gxn:x.k.gate.toNat=G:=by rw[hG];exact aba _
 have rxn:x.k.Yb.toNat=cg ls G:=by rw[h3];exact aba _
 have main:=GA g hx px (G:=G) (G':=G+1) hG (by omega) (by omega) (g':=(G:Int)+1) (ab:=0) (Zo:=1) (rk':=1)
  (T':=fun k j=>if k=G+1 then (if j=0 then TF ls G (cg ls G-1) else TF ls (G+1) (j-1)) else TF ls k j)
  (B':=fun k j=>if k=G+1 then (if j=0 then BF ls G (cg ls G-1) else BF ls (G+1) (j-1)) else BF ls k j) ?_ ?_ ⟨by omega,by omega⟩ ?_
 .have e:lG (aX (pieces ls) (x.p.l.gate+1) 0 1) a (x.p.l.gate+1) 1=((pieces ls).take a).map (sy ((G:Int)+1) 0 1)++⟨{x.k with gate:=((G+1:Nat):Int),Yb:=1},x.p.d⟩::((pieces ls).drop (a+1)).map (sy ((G:Int)+1) 0 1):=by
   have hg0:x.p.l.gate=(G:Int):=hG;unfold lG;have Za:(aX (pieces ls) (x.p.l.gate+1) 0 1)[a]?=some x.p:=by
    show((pieces ls).map _)[a]?=_;rw[aaz,hxp];show some (sy _ _ _ x.p)=_;rw[EO];congr 1;have:sP (x.p.l.gate+1) 0 1 x.p.l=x.p.l:=by unfold sP;rw[if_neg];simp only[aaf,beq_iff_eq,not_and];intro _ h;omega
    rw[this]
   rw[aal,Za,aaS];rw[show aX (pieces ls) (x.p.l.gate+1) 0 1=(pieces ls).map (sy (x.p.l.gate+1) 0 1) from rfl,Jy hxp,hg0];rfl
  rw[e];exact main
 .intro w hw pw;obtain⟨o1,o2,o3,o4⟩:=oth w hw pw;rw[rk w pw];refine⟨?_,fun e=>?_⟩
  .by_cases c1:w.k.gate=(G:Int)+1
   .rw[if_pos ⟨c1,by omega⟩,if_pos (by omega),if_neg (by omega)];omega
   rw[if_neg (by omega),if_neg (by omega)];by_cases c2:w.k.gate=(G:Int)
   .rw[if_pos (by omega)];have:=o4 c2;have e3:w.k.gate.toNat=G:=by omega
    rw[e3] at o3 ⊢;omega
   rw[if_neg (by omega)];omega
  rw[if_pos ⟨by omega,by omega⟩];omega
 .intro u hu v hv pu pv e1 e2;rw[rk u pu,rk v pv] at e2;obtain⟨_,o2,_⟩:=oth u hu pu;obtain⟨_,o3,_⟩:=oth v hv pv;split at e2<;>split at e2<;>omega
 intro f f' hff;have hf:f'=fun k j=>if k=G+1 then (if j=0 then f G (cg ls G-1) else f (G+1) (j-1)) else f k j:=by rcases hff with ⟨rfl,rfl⟩|⟨rfl,rfl⟩<;>rfl
 have hgt:∀k,k<F->f k (cg ls k)=f (k+1) 0:=fun k hk=>by
  have:=c.gt k hk;rw[dy] at this;rcases hff with ⟨rfl,_⟩|⟨rfl,_⟩
  .exact this.1
  exact this.2
 have hgz:f F (cg ls F)=f 0 0:=by
  have:=c.gz;rw[dy] at this;rcases hff with ⟨rfl,_⟩|⟨rfl,_⟩
  .exact this.1
  exact this.2
 rw[hf,gxn,rxn];refine⟨⟨?_,?_⟩,fun w hw pw=>?_,fun k hk=>?_,?_⟩
 .simp
 .simp[hgt G (by omega)]
 .obtain⟨o1,o2,o3,o4⟩:=oth w hw pw;rw[rk w pw];by_cases c1:w.k.gate=(G:Int)+1
  .have e1:w.k.gate.toNat=G+1:=by omega
   have e2:(w.k.Yb+1).toNat=w.k.Yb.toNat+1:=by omega
   have e3:w.k.Yb.toNat≠0:=by omega
   rw[if_pos ⟨c1,by omega⟩,e1,e2];simp[e3]
  have e1:w.k.gate.toNat≠G+1:=by omega
  rw[if_neg (by omega)];simp[e1]
 .by_cases c1:k=G
  .subst c1;simp
  by_cases c2:k=G+1
  .subst c2;simp[hgt _ hk]
  have:k+1≠G+1:=by omega
  simp[c1,c2,hgt k hk]
 have hFG:F≠G:=by omega
 by_cases c2:F=G+1
 .rw[c2] at hgz;simp[c2,hgz]
 simp[hFG,c2,hgz]
end
section
variable {F:Nat} {ls:List Let}
theorem VZ(g:cD F ls){a:Nat}(ha:a<ls.length){L:List Pc}(h:U7 ls a=some L):Cert F L:=by
 have hzl:=kn ls;obtain⟨x,hx⟩:=ai (ls:=zF ls) (k:=a) (by omega);have hxp:(pieces ls)[a]?=some x.p:=by rw[<- tL,aaz,hx];rfl
 have hpA:pA ls a=x.p:=eO hxp;unfold U7 at h;rw[hpA] at h;split at h
 case isFalse=>cases h
 rename_i hc;simp only[aaf,beq_iff_eq,decide_eq_true_eq] at hc;obtain⟨h1,h2,h3⟩:=hc;cases h;have c:=g.cz;have px:x.k.aA=true:=by show(x.k.kind==1)=true;simp[h1]
 have gx:=((cJ px).1 (c.ok x (aab hx)).bad).1.1.1;have rx:=c.rr x (aab hx) px;rw[dy] at rx;have h3:x.k.Yb=1:=h3;have h2:0<x.k.gate:=h2;obtain⟨G,hG⟩:∃G:Nat,x.k.gate=((G+1:Nat):Int):=⟨x.k.gate.toNat-1,by omega⟩;have gxn:x.k.gate.toNat=G+1:=by rw[hG];exact aba _
 rw[gxn] at rx;have hz:=qm hx;have Ys:(zF ls).Perm (x::((zF ls).take a++(zF ls).drop (a+1))):=by
  conv=>lhs;rw[hz]
  exact ady
 have q:=c.q.perm Ys;have oth:∀w∈(zF ls).take a++(zF ls).drop (a+1),w.k.aA=true->(0<=w.k.gate/\w.k.gate<=(F:Int))/\1<=w.k.Yb/\w.k.Yb<=(cg ls w.k.gate.toNat:Int)/\(w.k.gate=((G+1:Nat):Int)->w.k.Yb≠1):=fun w hw pw=>by have hw':w∈zF ls:=Ys.mem_iff.2 (abv _ hw);have r1:=c.rr w hw' pw;rw[dy] at r1;refine⟨((cJ pw).1 (c.ok w hw').bad).1.1.1,r1.1,r1.2,fun e1 e2=>?_⟩;exact(abd.1 q.rk).1 w hw px pw (by rw[hG,e1]) (by rw[h3,e2])
 have rk:∀w:aM,w.k.aA=true->(sP ((G+1:Nat):Int) 1 (-1) w.k).Yb=if w.k.gate=((G+1:Nat):Int)/\1<w.k.Yb then w.k.Yb-1 else w.k.Yb:=fun w pw=>by rw[tW pw];rfl
 have rxn:x.k.Yb.toNat=1:=by rw[h3];rfl
 have main:=GA g hx px (G:=G+1) (G':=G) hG (by omega) (by omega) (g':=((G+1:Nat):Int)) (ab:=1) (Zo:= -1) (rk':=((cg ls G+1:Nat):Int))
  (T':=fun k j=>if k=G+1 then TF ls (G+1) (j+1) else if k=G then (if j<=cg ls G then TF ls G j else TF ls (G+1) 1) else TF ls k j)
  (B':=fun k j=>if k=G+1 then BF ls (G+1) (j+1) else if k=G then (if j<=cg ls G then BF ls G j else BF ls (G+1) 1) else BF ls k j) ?_ ?_ ⟨by omega,by omega⟩ ?_
 .have hg0:x.p.l.gate=((G+1:Nat):Int):=hG;have hgm:x.p.l.gate-1=(G:Int):=by rw[hg0];omega
  have e:lG (aX (pieces ls) x.p.l.gate 1 (-1)) a (x.p.l.gate-1) ((cg ls (x.p.l.gate-1).toNat+1:Nat):Int)=((pieces ls).take a).map (sy ((G+1:Nat):Int) 1 (-1))++⟨{x.k with gate:=(G:Int),Yb:=((cg ls G+1:Nat):Int)},x.p.d⟩::((pieces ls).drop (a+1)).map (sy ((G+1:Nat):Int) 1 (-1)):=by
   unfold lG;have Za:(aX (pieces ls) x.p.l.gate 1 (-1))[a]?=some x.p:=by
    show((pieces ls).map _)[a]?=_;rw[aaz,hxp];show some (sy _ _ _ x.p)=_;rw[EO];congr 1;have:sP x.p.l.gate 1 (-1) x.p.l=x.p.l:=by unfold sP;rw[if_neg];simp only[aaf,beq_iff_eq,decide_eq_true_eq,not_and];intro _ _ h;have h3':x.p.l.Yb=1:=h3;omega
    rw[this]
   rw[aal,Za,aaS];rw[show aX (pieces ls) x.p.l.gate 1 (-1)=(pieces ls).map (sy x.p.l.gate 1 (-1)) from rfl,Jy hxp,hgm,hg0,aba]
  rw[e];exact main
 .intro w hw pw;obtain⟨o1,o2,o3,o4⟩:=oth w hw pw;rw[rk w pw];refine⟨?_,fun e=>?_⟩
  .by_cases c1:w.k.gate=((G+1:Nat):Int)
   .have:=o4 c1;rw[if_pos ⟨c1,by omega⟩,if_neg (by omega),if_pos (by omega)];omega
   rw[if_neg (by omega),if_neg (show ¬w.k.gate.toNat=G+1 by omega)];split<;>omega
  rw[if_neg (by omega)];have e3:w.k.gate.toNat=G:=by omega
  rw[e3] at o3;omega
 .intro u hu v hv pu pv e1 e2;rw[rk u pu,rk v pv] at e2;obtain⟨_,o2,_,o4⟩:=oth u hu pu;obtain⟨_,o3,_,o5⟩:=oth v hv pv;by_cases c1:u.k.gate=((G+1:Nat):Int)
  .have n1:=o4 c1;have n2:=o5 (by rw[<- e1,c1]);rw[if_pos ⟨c1,by omega⟩,if_pos ⟨by rw[<- e1,c1],by omega⟩] at e2;omega
  rw[if_neg (by omega),if_neg (by rw[<- e1];omega)] at e2;exact e2
 intro f f' hff;have hf:f'=fun k j=>if k=G+1 then f (G+1) (j+1) else if k=G then (if j<=cg ls G then f G j else f (G+1) 1) else f k j:=by rcases hff with ⟨rfl,rfl⟩|⟨rfl,rfl⟩<;>rfl
 have hgt:∀k,k<F->f k (cg ls k)=f (k+1) 0:=fun k hk=>by
  have:=c.gt k hk;rw[dy] at this;rcases hff with ⟨rfl,_⟩|⟨rfl,_⟩
  .exact this.1
  exact this.2
 have hgz:f F (cg ls F)=f 0 0:=by
  have:=c.gz;rw[dy] at this;rcases hff with ⟨rfl,_⟩|⟨rfl,_⟩
  .exact this.1
  exact this.2
 have hGF:G<F:=by omega
 have YG:1<=cg ls (G+1):=by omega
 have v1:∀j,f' (G+1) j=f (G+1) (j+1):=fun j=>by rw[hf];exact if_pos rfl
 have v2:∀j,j<=cg ls G->f' G j=f G j:=fun j hj=>by rw[hf];show(if G=G+1 then _ else if G=G then (if j<=cg ls G then f G j else f (G+1) 1) else f G j)=_;rw[if_neg (by omega),if_pos rfl,if_pos hj]
 have v3:f' G (cg ls G+1)=f (G+1) 1:=by rw[hf];show(if G=G+1 then _ else if G=G then (if cg ls G+1<=cg ls G then f G (cg ls G+1) else f (G+1) 1) else f G (cg ls G+1))=_;rw[if_neg (by omega),if_pos rfl,if_neg (by omega)]
 have v4:∀k j,k≠G->k≠G+1->f' k j=f k j:=fun k j h1 h2=>by rw[hf];show(if k=G+1 then _ else if k=G then _ else f k j)=_;rw[if_neg h2,if_neg h1]
 have v0:∀k,k≠G+1->f' k 0=f k 0:=fun k h=>by
  by_cases c:k=G
  .subst c;exact v2 0 (aae _)
  exact v4 k 0 c h
 have ec:cg ls (G+1)-1+1=cg ls (G+1):=by omega
 rw[gxn,rxn,aba];refine⟨⟨?_,?_⟩,fun w hw pw=>?_,fun k hk=>?_,?_⟩
 .rw[adO,v2 _ (aad _),hgt G hGF]
 .exact v3.symm
 .obtain⟨o1,o2,o3,o4⟩:=oth w hw pw;rw[rk w pw];by_cases c1:w.k.gate=((G+1:Nat):Int)
  .have n1:=o4 c1;have e1:w.k.gate.toNat=G+1:=by omega
   have e2:(w.k.Yb-1).toNat-1+1=w.k.Yb.toNat-1:=by omega
   have e3:(w.k.Yb-1).toNat+1=w.k.Yb.toNat:=by omega
   rw[if_pos ⟨c1,by omega⟩,e1,v1,v1,e2,e3];exact⟨rfl,rfl⟩
  have e1:w.k.gate.toNat≠G+1:=by omega
  rw[if_neg (by omega)];by_cases c2:w.k.gate.toNat=G
  .rw[c2] at o3 ⊢;rw[v2 _ (by omega),v2 _ (by omega)];exact⟨rfl,rfl⟩
  rw[v4 _ _ c2 e1,v4 _ _ c2 e1];exact⟨rfl,rfl⟩
 .by_cases c1:k=G+1
  .subst c1;rw[if_neg (by omega),if_pos rfl,v1,show cg ls (G+1)+0-1+1=cg ls (G+1) by omega,v0 _ (by omega),hgt _ hk]
  rw[if_neg c1,Nat.sub_zero];by_cases c2:k=G
  .subst c2;rw[if_pos rfl,v3,v1]
  rw[if_neg c2,abY,v4 _ _ c2 c1,v0 _ (by omega),hgt k hk]
 rw[v0 0 (by omega)];have hFG:F≠G:=by omega
 rw[if_neg hFG,abY];by_cases c2:F=G+1
 .rw[if_pos c2];rw[c2] at hgz ⊢;rw[v1,ec,hgz]
 rw[if_neg c2,Nat.sub_zero,v4 _ _ hFG c2,hgz]
end
end Go.Abs
