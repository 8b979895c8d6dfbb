/- A part. -/
import Derived.Test.YthcnadmehopfcaaGreatDoorUa
import Derived.Test.YthcnadmehopfcaaGreatDoorWw
set_option linter.all false
set_option maxHeartbeats 16000000
namespace Go.Abs
def jo(c e a:Nat):Nat:=if a=c then e else a
theorem tR(c e:Nat):jo c e c=e:=aF rfl
theorem tS(c e:Nat):jo c e e=e:=by unfold jo;split<;>rfl
theorem QI{c e a:Nat}(h:a≠c):jo c e a=a:=ay h
def tZ(g ab kK:Int)(l:Let):Let:=if (l.kind==1)&&((l.gate==g)&&decide (ab<l.aE)) then {l with aE:=l.aE+kK} else l
theorem as9(g ab kK:Int)(p:Pc):rX g ab kK p=⟨tZ g ab kK p.l,p.d⟩:=by unfold rX tZ;split<;>rfl
theorem Fe(g ab kK:Int):Ax (tZ g ab kK):=by refine⟨fun l=>?_,fun l=>?_,fun l=>?_⟩<;>unfold tZ<;>split<;>rfl
theorem KB(g ab kK:Int)(l:Let):(tZ g ab kK l).gate=l.gate:=by unfold tZ;split<;>rfl
theorem Rp(g ab kK:Int)(l:Let):(tZ g ab kK l).id=l.id:=by unfold tZ;split<;>rfl
theorem as5{g ab kK:Int}{l:Let}(h:l.aC=true):tZ g ab kK l=l:=by unfold tZ;have:=mQ h;unfold Let.aG at this;rw[this];simp
theorem as6(g ab kK:Int)(k:Nat)(l:Let):nJ k (tZ g ab kK l)=nJ k l:=by unfold nJ;rw[(Fe g ab kK).aG,KB]
theorem as8{g ab kK:Int}{l:Let}(h:l.aG=true):(tZ g ab kK l).aE=if l.gate=g/\ab<l.aE then l.aE+kK else l.aE:=by
 unfold tZ;unfold Let.aG at h;rw[h];by_cases c:l.gate=g/\ab<l.aE
 .rw[aF c,aF (by simp[c.1,c.2])]
 rw[ay c,ay (by simpa using c)]
theorem as7{F:Nat}{g ab kK:Int}{l:Let}(h:dy F l=false):dy F (tZ g ab kK l)=false:=by
 rcases yX h with hp|hc
 .have iX:(tZ g ab kK l).aG=true:=by rw[(Fe g ab kK).aG];exact hp
  rw[sY hp] at h;rw[sY iX,KB,Rp,(Fe g ab kK).sign,(Fe g ab kK).over];exact h
 rw[as5 hc];exact h
theorem WR{l:List Pc}{drop:Nat->Pc->Bool}:∀d j,j+d<=l.length->(∀i p,j<=i->i<j+d->drop i p=false)->tP l drop (j+d)=tP l drop j++(l.drop j).take d:=by
 intro d
 induction d with
 |zero=>intro j _ _;simp
 |succ d ih=>intro j hj h;obtain⟨p,hp⟩:=aM (ls:=l) (k:=j+d) aa;rw[show j+(d+1)=(j+d)+1 by omega,JN hp (h _ _ aa aa),ih j aa fun i p h1 h2=>h i p h1 aa,kX,xu,hp,yK];rfl
theorem aeD{l:List Pc}{a:Nat}(ha:a<l.length)(h2:2<=l.length){p q:Pc}{r:List Pc}(e:l.drop a++l.take a=p::q::r):∃u v,(pI l fun k _=>decide (k=a)||decide (k=(a+1)%l.length))=u++v/\r=v++u:=by
 have MG:∀i (p:Pc),i≠a->i≠(a+1)%l.length->(fun(k:Nat) (_:Pc)=>decide (k=a)||decide (k=(a+1)%l.length)) i p=false:=fun i p h1 h2=>by simp[h1,h2]
 have AY:∀i (p:Pc),i=a\/i=(a+1)%l.length->(fun(k:Nat) (_:Pc)=>decide (k=a)||decide (k=(a+1)%l.length)) i p=true:=fun i p h=>by simpa using h
 obtain⟨x,hx⟩:=aM ha;by_cases c:a+1<l.length
 .obtain⟨y,hy⟩:=aM c;have hm:(a+1)%l.length=a+1:=dV c;rw[hm] at MG AY ⊢;have k0:=WR (l:=l) (drop:=fun k _=>decide (k=a)||decide (k=a+1)) a 0 aa fun i p _ h=>MG i p aa aa;have k1:=Bh (drop:=fun k _=>decide (k=a)||decide (k=a+1)) hx (AY a x (.inl rfl));have k2:=Bh (drop:=fun k _=>decide (k=a)||decide (k=a+1)) hy (AY (a+1) y (.inr rfl));have k3:=WR (l:=l) (drop:=fun k _=>decide (k=a)||decide (k=a+1)) (l.length-(a+2)) (a+1+1) aa fun i p h _=>MG i p aa aa;refine⟨l.take a,l.drop (a+2),?_,?_⟩
  .unfold pI;rw[show a+1+1+(l.length-(a+2))=l.length by omega,k2,k1] at k3;rw[iQ] at k0;rw[k3,k0];have:tP l (fun k _=>decide (k=a)||decide (k=a+1)) 0=[]:=rfl;rw[this,OA,fY,fR (l:=l.drop (a+1+1)) (by rw[jy];omega)]
  have e1:l.drop a=x::y::l.drop (a+2):=by obtain⟨h1,e1⟩:=aW.1 hx;obtain⟨h2,e2⟩:=aW.1 hy;rw[<- tj h1,e1,<- tj h2,e2]
  rw[e1] at e;simp only[yM,yL] at e;exact e.2.2.symm
 have ea:a+1=l.length:=aa;have hm:(a+1)%l.length=0:=by rw[ea,rh]
 rw[hm] at MG AY ⊢;obtain⟨y,hy⟩:=aM (ls:=l) (k:=0) aa;have k1:=Bh (drop:=fun k _=>decide (k=a)||decide (k=0)) hy (AY 0 y (.inr rfl));have k2:=WR (l:=l) (drop:=fun k _=>decide (k=a)||decide (k=0)) (a-1) 1 aa fun i p h h'=>MG i p aa aa;have k3:=Bh (drop:=fun k _=>decide (k=a)||decide (k=0)) hx (AY a x (.inl rfl));refine⟨[],(l.drop 1).take (a-1),?_,?_⟩
 .unfold pI;rw[<- ea,k3];rw[show 1+(a-1)=a by omega] at k2;rw[k2];rw[show(1:Nat)=0+1 from rfl,k1];rfl
 have e1:l.drop a=[x]:=by obtain⟨h1,e1⟩:=aW.1 hx;rw[<- tj h1,e1,List.drop_eq_nil_of_le aa]
 have e2:l.take a=y::(l.drop 1).take (a-1):=by
  obtain⟨h1,e1⟩:=aW.1 hy;have:l=y::l.drop 1:=by have:=tj h1;rw[e1,OA] at this;exact this.symm
  conv=>lhs;rw[this]
  rw[show a=(a-1)+1 by omega,YE];rfl
 rw[e1,e2] at e;simp only[yM,fY,yL] at e;rw[jP];exact e.2.2.symm
section
variable {F:Nat} {ls:List Let}
theorem dX.ext'{s t:dX}(h1:s.l=t.l)(h2:s.r=t.r)(h3:s.b=t.b):s=t:=by cases s;cases t;simp_all
theorem akm(g:cH F ls){a:Nat}(ha:a<ls.length){L:List Pc}(h:wB ls a=some L):L=[]\/Cert F L:=by
 obtain⟨x,y,r,s,e,hx,hy,c,hp,Jz,_,_,nv⟩:=Yk g ha;have q:=c.q;unfold wB at h;have e1:(pieces ls).getD a ⟨kz,false⟩=x.p:=by rw[di,hx];rfl
 have e2:(pieces ls).getD ((a+1)%ls.length) ⟨kz,false⟩=y.p:=by rw[di,hy];rfl
 simp only[e1,e2] at h;split at h
 case isFalse=>cases h
 rename_i hc;simp only[cN,dI,mv,Bool.and_eq_false_iff,decide_eq_false_iff_not] at hc;obtain⟨iC,oY,nM,k9,anN⟩:=hc;cases h;have px:x.k.aG=true:=by show(x.k.kind==1)=true;simp[iC]
 have py:y.k.aG=true:=by show(y.k.kind==1)=true;simp[oY]
 obtain⟨jX,fp,tL⟩:=hp;have ox:=(q.ok x af).pb px;have oy:=(q.ok y af).pb py;have plx:=q.pl x af px;have ply:=q.pl y af py;have gx:=((sY px).1 (q.ok x af).bad).1.1.1;have rx:=q.rr x af px;have ry:=q.rr y af py;have ya:y.k.gate=x.k.gate:=nM.symm;rw[ya] at ry
 -- the counts
 have zx:∀z:List aO,aw Let.aC (aQ (x::y::z))=aw Let.aC (aQ z):=fun z=>by rw[lH,lH,(ifP px).1,(ifP py).1];omega
 have Gd:∀z:List aO,aw Let.aG (aQ (x::y::z))=aw Let.aG (aQ z)+2:=fun z=>by rw[lH,lH,(ifP px).2,(ifP py).2];omega
 have hGi:((x.k.gate.toNat:Nat):Int)=x.k.gate:=aie gx.1;have xS:∀(z:List aO) k,cg (aQ (x::y::z)) k=cg (aQ z) k+if k=x.k.gate.toNat then 2 else 0:=fun z k=>by
  show aw _ _=aw _ _+_;rw[lH,lH];have:∀w:aO,w.k.aG=true->w.k.gate=x.k.gate->(if nJ k w.k=true then 1 else 0)=if k=x.k.gate.toNat then 1 else 0:=fun w hw hgw=>by
   unfold nJ;rw[hw,hgw];by_cases ck:k=x.k.gate.toNat
   .subst ck;simp[hGi]
   have:(x.k.gate==(k:Int))=false:=by rw[lE];omega
   simp[this,ck]
  rw[this x px rfl,this y py ya];split<;>omega
 have h2:aw Let.aC (aQ (x::y::r))=aw Let.aC ls:=by rw[Cg nv,lB]
 have h3:aw Let.aG (aQ (x::y::r))=aw Let.aG ls:=by rw[Cg nv,lB]
 have hlen:ls.length=r.length+2:=by have:=nv.length_eq;rw[KW] at this;simpa using this.symm
 -- ranks
 obtain⟨lo,hlo1,V8,rJ⟩:∃lo:Nat,1<=lo/\((x.k.aE=lo/\y.k.aE=lo+1)\/(x.k.aE=lo+1/\y.k.aE=lo))/\uO x.k.aE y.k.aE=lo+1:=by
  have Jy:uO x.k.aE y.k.aE-zZ x.k.aE y.k.aE=1:=k9;unfold uO zZ at Jy;unfold uO;by_cases c1:x.k.aE<y.k.aE
  .rw[aF c1] at Jy ⊢;rw[ay aa] at Jy;exact⟨x.k.aE.toNat,aa,.inl ⟨aa,aa⟩,aa⟩
  rw[ay c1] at Jy ⊢;by_cases c2:y.k.aE<x.k.aE
  .rw[aF c2] at Jy;exact⟨y.k.aE.toNat,aa,.inr ⟨aa,aa⟩,aa⟩
  rw[ay c2] at Jy;omega
 have acY:lo+1<=cg (aQ (x::y::r)) x.k.gate.toNat:=by rcases V8 with ⟨h1,h2⟩|⟨h1,h2⟩<;>omega
 -- which names are merged
 obtain⟨mc,me,m1,m2,m3,m4,m5⟩:∃mc me:Nat,(y.o.mp (jo mc me)=s.mp (jo mc me))/\jo mc me (TF ls x.k.gate.toNat (lo+1))=jo mc me (TF ls x.k.gate.toNat (lo-1))/\jo mc me (BF ls x.k.gate.toNat (lo+1))=jo mc me (BF ls x.k.gate.toNat (lo-1))/\
   (∀t,(t=y.o.l\/t=y.o.r)->t=mc\/t=s.l\/t=s.r)/\True:=by
  have hdy:y.p.d= !x.p.d:=by have h1:=oy.2;rw[fp,ox.1] at h1;revert h1;cases x.p.d<;>cases y.p.d<;>simp
  have hb:y.o.b=s.b:=by rw[oy.1,hdy,<- jX,ox.2]
  obtain⟨p1,p2,p3,p4⟩:=plx;obtain⟨p5,p6,p7,p8⟩:=ply;rw[ya] at p5 p6 p7 p8;unfold aO.up at p1 p2 p5 p6;unfold aO.lo at p3 p4 p7 p8;rw[hdy] at p5 p6 p7 p8;rw[jX] at p1 p2 p3 p4;rw[fp] at p5 p6 p7 p8;have done:∀mc me,(jo mc me y.o.l=jo mc me s.l)->(jo mc me y.o.r=jo mc me s.r)->y.o.mp (jo mc me)=s.mp (jo mc me):=fun mc me h1 h2=>dX.ext' h1 h2 hb;rcases V8 with ⟨r1,r2⟩|⟨r1,r2⟩
  .have n1:x.k.aE.toNat=lo:=aa;have n2:y.k.aE.toNat=lo+1:=aa;rw[n1] at p1 p2 p3 p4;rw[n2] at p5 p6 p7 p8;rw[YF] at p5 p7;cases hd:x.p.d<;>rw[hd] at p1 p2 p3 p4 p5 p6 p7 p8<;>simp only[HC,BQ,dx,if_false,if_true,iB] at p1 p2 p3 p4 p5 p6 p7 p8
   .have ee:y.o.r=s.r:=by rw[p7,p4]
    refine⟨y.o.l,s.l,done _ _ ?_ (by rw[ee]),by rw[<- p6,p1],by rw[<- p8,<- p3,tR,tS],?_,trivial⟩
    .rw[tR,tS]
    rintro t (rfl|rfl)
    .exact .inl rfl
    exact .inr (.inr ee)
   have ee:y.o.l=s.l:=by rw[p5,p2]
   refine⟨y.o.r,s.r,done _ _ (by rw[ee]) ?_,by rw[<- p6,<- p1,tR,tS],by rw[<- p8,p3],?_,trivial⟩
   .rw[tR,tS]
   rintro t (rfl|rfl)
   .exact .inr (.inl ee)
   exact .inl rfl
  have n1:x.k.aE.toNat=lo+1:=aa;have n2:y.k.aE.toNat=lo:=aa;rw[n1] at p1 p2 p3 p4;rw[n2] at p5 p6 p7 p8;rw[YF] at p1 p3;cases hd:x.p.d<;>rw[hd] at p1 p2 p3 p4 p5 p6 p7 p8<;>simp only[HC,BQ,dx,if_false,if_true,iB] at p1 p2 p3 p4 p5 p6 p7 p8
  .have ee:y.o.l=s.l:=by rw[p8,p3]
   refine⟨y.o.r,s.r,done _ _ (by rw[ee]) ?_,by rw[<- p2,p5],by rw[<- p4,<- p7,tR,tS],?_,trivial⟩
   .rw[tR,tS]
   rintro t (rfl|rfl)
   .exact .inr (.inl ee)
   exact .inl rfl
  have ee:y.o.r=s.r:=by rw[p6,p1]
  refine⟨y.o.l,s.l,done _ _ ?_ (by rw[ee]),by rw[<- p2,<- p5,tR,tS],by rw[<- p4,p7],?_,trivial⟩
  .rw[tR,tS]
  rintro t (rfl|rfl)
  .exact .inl rfl
  exact .inr (.inr ee)
 clear m5;by_cases hr:∃w∈r,w.k.aG=true
 case neg=>
  left;have Ef:aw Let.aG (aQ r)=0:=Fk.2 fun l hl CL=>by obtain⟨w,hw,rfl⟩:=dp.1 hl;exact hr ⟨w,hw,CL⟩
  have hC0:aw Let.aC ls=0:=by have dQ:=q.ev;rw[h2] at dQ;rw[Gd] at h3;rcases anN with h|h<;>omega
  have:ls.length=2:=by have:=WZ g.ok;rw[Gd] at h3;omega
  have A5:r=[]:=HG.1 aa;obtain⟨u,v,k1,k2⟩:=aeD (l:=pieces ls) (a:=a) (by rw[gG];exact ha) (by rw[gG];omega) (by rw[Jz];rfl);rw[gG] at k1;rw[A5] at k2;have k2:=k2.symm;simp only[j7,List.append_eq_nil_iff] at k2;unfold j5;rw[k1,k2.1,k2.2];rfl
 right;obtain⟨w0,uL,pw0⟩:=hr;have aoq:r≠[]:=List.ne_nil_of_mem uL
 let ψ:=jo mc me
 let hL:=tZ x.k.gate (lo+1) (-2)
 let T':Nat->Nat->Nat:=fun G k=>if G=x.k.gate.toNat then (if k<=lo-1 then ψ (TF ls G k) else ψ (TF ls G (k+2))) else ψ (TF ls G k)
 let B':Nat->Nat->Nat:=fun G k=>if G=x.k.gate.toNat then (if k<=lo-1 then ψ (BF ls G k) else ψ (BF ls G (k+2))) else ψ (BF ls G k)
 have mC:aw Let.aC (aQ (r.map (aO.mp ψ hL)))=aw Let.aC (aQ r):=Cf (fun l=>(Fe _ _ _).aC l) r;have mP:aw Let.aG (aQ (r.map (aO.mp ψ hL)))=aw Let.aG (aQ r):=Cf (fun l=>(Fe _ _ _).aG l) r;have mG:∀k,cg (aQ (r.map (aO.mp ψ hL))) k=cg (aQ r) k:=fun k=>Cf (fun l=>as6 _ _ _ k l) r;have inr:∀w∈r,w∈x::y::r:=fun w hw=>by simp[hw]
 -- the others have other ranks
 have oth:∀w∈r,w.k.aG=true->w.k.gate=x.k.gate->w.k.aE<lo\/(lo:Int)+1<w.k.aE:=fun w hw pw gw=>by obtain⟨d1,d2⟩:=ui.1 q.rk;obtain⟨d3,_⟩:=ui.1 d2;have n1:=d1 w (by simp[hw]) px pw gw.symm;have n2:=d3 w hw py pw (by rw[ya,gw]);rcases V8 with ⟨r1,r2⟩|⟨r1,r2⟩<;>omega
 have rk':∀w∈r,w.k.aG=true->(hL w.k).aE=if w.k.gate=x.k.gate/\(lo:Int)+1<w.k.aE then w.k.aE-2 else w.k.aE:=fun w hw pw=>by have:=as8 (g:=x.k.gate) (ab:=(lo:Int)+1) (kK:= -2) pw;rw[show w.k.aE+ -2=w.k.aE-2 by omega] at this;exact this
 have key:∀f:Nat->Nat->Nat,ψ (f x.k.gate.toNat (lo+1))=ψ (f x.k.gate.toNat (lo-1))->∀w∈r,w.k.aG=true->
   (ψ (f w.k.gate.toNat (w.k.aE.toNat-1))=(fun G k=>if G=x.k.gate.toNat then (if k<=lo-1 then ψ (f G k) else ψ (f G (k+2))) else ψ (f G k)) (hL w.k).gate.toNat ((hL w.k).aE.toNat-1))/\
   ψ (f w.k.gate.toNat w.k.aE.toNat)=(fun G k=>if G=x.k.gate.toNat then (if k<=lo-1 then ψ (f G k) else ψ (f G (k+2))) else ψ (f G k)) (hL w.k).gate.toNat (hL w.k).aE.toNat:=by
  intro f hf w hw pw;have CB:(hL w.k).gate=w.k.gate:=KB _ _ _ _;have gw:=((sY pw).1 (q.ok w (inr w hw)).bad).1.1.1;have rw1:=(q.rr w (inr w hw) pw).1;rw[rk' w hw pw,CB];by_cases vd:w.k.gate=x.k.gate
  .have ho:=oth w hw pw vd;simp only[vd,if_true,true_and];by_cases cr:(lo:Int)+1<w.k.aE
   .rw[aF cr];constructor
    .by_cases c3:(w.k.aE-2).toNat-1<=lo-1
     .rw[aF c3];have e3:w.k.aE.toNat-1=lo+1:=aa;have e4:(w.k.aE-2).toNat-1=lo-1:=aa;rw[e3,e4];exact hf
     rw[ay c3];congr 2;omega
    rw[ay aa];congr 2;omega
   rw[ay cr];constructor
   .rw[aF aa]
   rw[aF aa]
  have:¬(w.k.gate.toNat=x.k.gate.toNat):=aa;simp only[vd,false_and,if_false,ay this];exact⟨trivial,trivial⟩
 have keyg:∀f:Nat->Nat->Nat,ψ (f x.k.gate.toNat (lo+1))=ψ (f x.k.gate.toNat (lo-1))->∀k,
   ((fun G k=>if G=x.k.gate.toNat then (if k<=lo-1 then ψ (f G k) else ψ (f G (k+2))) else ψ (f G k)) k (cg (aQ r) k)=ψ (f k (cg (aQ (x::y::r)) k)))/\
   (fun G k=>if G=x.k.gate.toNat then (if k<=lo-1 then ψ (f G k) else ψ (f G (k+2))) else ψ (f G k)) k 0=ψ (f k 0):=by
  intro f hf k;rw[xS r k];by_cases ck:k=x.k.gate.toNat
  .subst ck;simp only[if_true];rw[aF (bl _)];refine⟨?_,rfl⟩;rw[xS r x.k.gate.toNat,aF rfl] at acY;by_cases c3:cg (aQ r) x.k.gate.toNat<=lo-1
   .rw[aF c3];have e3:cg (aQ r) x.k.gate.toNat=lo-1:=aa;rw[e3,show lo-1+2=lo+1 by omega];exact hf.symm
   rw[ay c3]
  simp only[ay ck,xw];exact⟨trivial,trivial⟩
 have qn:Cq F ([]++r.map (aO.mp ψ hL)) T' B':=by
  refine Cq.edit (X:=[x,y]) (r:=r) q (Fe _ _ _) (fun w hw=>as7 (q.ok w (inr w hw)).bad) (fun u hu v hv cu cv e=>?_) (fun u hu v hv pu pv e1 e2=>?_) (fun _ h=>by cases h) List.Pairwise.nil List.Pairwise.nil (fun _ h=>by cases h) (fun _ h=>by cases h) ?_ (fun _ h=>by cases h) (fun u hu cu=>?_) (fun _ h=>by cases h) (fun u hu pu=>?_) (fun _ h=>by cases h) (fun u hu pu=>?_) (fun k hk=>?_) ?_
  .rw[Rp,Rp] at e;exact e
  .have e1':u.k.gate=v.k.gate:=by rw[KB,KB] at e1;exact e1
   refine⟨e1',?_⟩;have e2:(hL u.k).aE=(hL v.k).aE:=e2;rw[rk' u hu pu,rk' v hv pv] at e2;by_cases vd:u.k.gate=x.k.gate
   .have o1:=oth u hu pu vd;have o2:=oth v hv pv (e1'▸vd);have cv:v.k.gate=x.k.gate:=e1'▸vd;simp only[vd,cv,true_and] at e2;split at e2<;>split at e2<;>omega
   have cv:¬v.k.gate=x.k.gate:=e1'▸vd;simp only[vd,cv,false_and,if_false] at e2;exact e2
  .rw[fY,mC,<- zx r];exact q.ev
  .rw[fY,mC,Rp,<- zx r];exact q.ids u (inr u hu) cu
  .rw[fY,KB,mG];show 1<=(hL u.k).aE/\(hL u.k).aE<=_;rw[rk' u hu pu];have h1:=q.rr u (inr u hu) pu;rw[xS r] at h1;have gu:=((sY pu).1 (q.ok u (inr u hu)).bad).1.1.1;by_cases vd:u.k.gate=x.k.gate
   .have o1:=oth u hu pu vd;rw[vd] at h1 ⊢;rw[aF rfl] at h1;rw[xS r,aF rfl] at acY;simp only[true_and];split<;>omega
   simp only[vd,false_and,if_false];rw[ay aa] at h1;exact h1
  .obtain⟨t1,t2⟩:=key (TF ls) m2 u hu pu;obtain⟨b1,b2⟩:=key (BF ls) m3 u hu pu;exact⟨⟨t1,b1⟩,t2,b2⟩
  .rw[fY,mG];obtain⟨t1,t2⟩:=keyg (TF ls) m2 k;obtain⟨b1,b2⟩:=keyg (BF ls) m3 k;obtain⟨_,t3⟩:=keyg (TF ls) m2 (k+1);obtain⟨_,b3⟩:=keyg (BF ls) m3 (k+1);have:=q.gt k hk;exact⟨by rw[show T' k _=_ from t1,this.1];exact t3.symm,by rw[show B' k _=_ from b1,this.2];exact b3.symm⟩
  rw[fY,mG];obtain⟨t1,t2⟩:=keyg (TF ls) m2 F;obtain⟨b1,b2⟩:=keyg (BF ls) m3 F;obtain⟨_,t3⟩:=keyg (TF ls) m2 0;obtain⟨_,b3⟩:=keyg (BF ls) m3 0;have:=q.gz;exact⟨by rw[show T' F _=_ from t1,this.1];exact t3.symm,by rw[show B' F _=_ from b1,this.2];exact b3.symm⟩
 have MI:Cert F (r.map fun w=>rX x.k.gate (lo+1) (-2) w.p):=by
  refine Cq.done (X:=[x,y]) (r:=r) (X':=[]) (L:=[mc,x.o.l,x.o.r]) (N:=[]) (V:=lh ls) (z':=r.map (aO.mp ψ hL)) qn c.nd (fun t ht=>c.wit t ht) (List.Perm.refl _) ⟨s.mp ψ,?_⟩ ?_ ?_ (fun t _ ht=>QI fun e=>ht (by simp[e])) (fun w hw t ht ew AU=>?_) uh (fun t ht=>by cases ht) (fun t ht=>by cases ht) (by rw[Dy];exact bJ _) ?_
  .have:=Q1 (ψ:=ψ) (h:=hL) tL;rwa[show y.o.mp ψ=s.mp ψ from m1] at this
  .rw[tm];refine Aq fun w _=>?_;rw[as9];rfl
  .refine⟨w0.mp ψ hL,?_,?_⟩
   .rw[fY];exact dp.2 ⟨w0,uL,rfl⟩
   show(hL w0.k).aG=true;rw[(Fe _ _ _).aG];exact pw0
  .obtain⟨v,hv,hvo⟩:=Q0 tL aoq;simp only[cM,gC,or_false,Au] at hw AU;have key:t=s.l\/t=s.r:=by
    rcases hw with rfl|rfl
    .rcases ew with ew|ew
     .exact absurd ew AU.2.1
     exact absurd ew AU.2.2
    rcases m4 t ew with h|h
    .exact absurd h AU.1
    exact h
   refine⟨v.mp ψ hL,by rw[fY];exact dp.2 ⟨v,hv,rfl⟩,?_⟩;show t=ψ v.o.l\/t=ψ v.o.r;rw[hvo];have:ψ t=t:=QI AU.1;rcases key with h|h
   .left;rw[<- h,this]
   right;rw[<- h,this]
  rw[fY,mC,mP];have h1:=g.nw;rw[zx] at h2;rw[Gd] at h3;simp only[ez,dh];omega
 obtain⟨u,v,k1,k2⟩:=aeD (l:=pieces ls) (a:=a) (by rw[gG];exact ha) (by rw[gG];omega) (by rw[Jz];rfl);rw[gG] at k1;show Cert F ((pI (pieces ls) fun k _=>decide (k=a)||decide (k=(a+1)%ls.length)).map (rX x.k.gate (uO x.k.aE y.k.aE) (-2)));rw[k1,rJ,j6];refine Cert.kG ?_;rw[<- j6,<- k2,tm];exact MI
end
section
variable {F:Nat} {ls:List Let}
theorem Tf(g:cH F ls){pl:Nat}{edges:List Nat}{e0:Nat}(he0:e0<ls.length)(h:pY F ls pl edges e0=true):∃w,w∈gI (aS ls) (nD ls)/\(nc F ls w).places.length=pl/\((w.filter fun x=>decide (x<2*ls.length)).length=edges.length)/\ ∀e∈edges,∃d,d∈w/\d<2*ls.length/\d/2=e:=by
 have key:∀f∈eL F ls,xF f pl edges=true->∃w,w∈gI (aS ls) (nD ls)/\(nc F ls w).places.length=pl/\((w.filter fun x=>decide (x<2*ls.length)).length=edges.length)/\ ∀e∈edges,∃d,d∈w/\d<2*ls.length/\d/2=e:=by intro f hf hc;obtain⟨w,hw,rfl⟩:=dp.1 hf;unfold xF at hc;simp only[cN,dI,jd] at hc;obtain⟨h1,h2,h3⟩:=hc;rw[IT] at h1;refine⟨w,hw,h2,h1,fun e he=>?_⟩;have h4:=h3 e he;unfold wG at h4;obtain⟨d,hd,rF⟩:=yN.1 (show 0<((nc F ls w).cG.countP fun d=>d/2==e) by omega);rw[IT] at hd;obtain⟨d1,d2⟩:=uZ.1 hd;exact⟨d,d1,by simpa using d2,by simpa using rF⟩
 unfold pY at h;rw[yJ] at h;rcases h with h|h
 .exact key _ (abW aa) h
 exact key _ (abW aa) h
theorem ahR{D:List Nat}(h:D.length=2){x y:Nat}(hx:x∈D)(hy:y∈D)(aI:x≠y){z:Nat}(hz:z∈D):z=x\/z=y:=by
 match D,h with
 |[p,q],_=>simp only[cM,gC,or_false] at hx hy hz;omega
theorem afK{e:Nat}(he:e<ls.length){l:Let}(hl:ls[nx ls e]?=some l)(hc:l.aC=true):aS ls (2*e)=dr ls.length (fG ls (nx ls e)) (gX l):=by
 have:2*e=eE ls.length (nx ls e) true:=by unfold eE nx;rw[aF rfl,EP he]
 rw[this,BK hl hc];unfold gX;cases (l.over==(l.sign==1))<;>rfl
theorem afJ{e:Nat}{l:Let}(hl:ls[e]?=some l)(hc:l.aC=true):aS ls (2*e+1)=dr ls.length (fG ls e) (!gX l):=by have:2*e+1=eE ls.length e false:=rfl;rw[this,BK hl hc];unfold gX;cases (l.over==(l.sign==1))<;>rfl
theorem xz{v:Nat}{b:Bool}{x:Nat}(h:dr ls.length v b=x):(b=true/\x=2*v)\/(b=false/\x=2*((v+ls.length-1)%ls.length)+1):=by
 cases b
 .exact .inr ⟨rfl,h.symm⟩
 exact .inl ⟨rfl,h.symm⟩
theorem Ca{v e:Nat}(hv:v<ls.length)(h:(v+ls.length-1)%ls.length=e):v=nx ls e:=by unfold nx;rw[<- h,w9 hv]
theorem DZ(ok:eX F ls){v u:Nat}{l m:Let}(hl:ls[v]?=some l)(hc:l.aC=true)(hm:ls[u]?=some m)(ho:fG ls v=u):gX m= !gX l/\m.aC=true/\m.id=l.id:=by obtain⟨_,w,hw,wc,wi,wo,ws⟩:=qW ok.cr hl hc;rw[ho,hm] at hw;cases hw;refine⟨?_,wc,wi⟩;unfold gX;rw[wo,ws];cases l.over<;>cases (l.sign==1)<;>rfl
theorem QU(ok:eX F ls){v:Nat}{l:Let}(hl:ls[v]?=some l)(hc:l.aC=true):fG ls v<ls.length:=by obtain⟨_,w,hw,_⟩:=qW ok.cr hl hc;exact(aW.1 hw).1
theorem aqZ(g:cH F ls){a b:Nat}(ha:a<ls.length)(hb:b<ls.length){lx ly lu lv:Let}(hx:ls[a]?=some lx)(hy:ls[nx ls a]?=some ly)(hu:ls[b]?=some lu)(hv:ls[nx ls b]?=some lv)
  (cx:lx.aC=true) (cy:ly.aC=true) (cu:lu.aC=true) (cv:lv.aC=true) (jG:lx.id≠ly.id) (GB:lu.id≠lv.id) (eH:a≠b) (h:pY F ls 0 [a,b] a=true):gX lx= !gX ly:=by
 have ok:=g.ok;obtain⟨w,hw,_,hlen,hE⟩:=Tf g ha h;obtain⟨da,wE,ur,zb⟩:=hE a af;obtain⟨db,xH,vf,zc⟩:=hE b af;have aI:da≠db:=aa;have inD:∀d,d∈w->d<2*ls.length->d∈w.filter fun x=>decide (x<2*ls.length):=fun d h1 h2=>uZ.2 ⟨h1,by simpa using h2⟩;have two:∀d,d∈w->d<2*ls.length->d=da\/d=db:=fun d h1 h2=>ahR hlen (inD da wE ur) (inD db xH vf) aI (inD d h1 h2);have nin:∀d,d∈w->aS ls d∈w:=fun d hd=>Du (maps ok) hw hd;have str:∀(v:Nat) (b:Bool),v<ls.length->dr ls.length v b<2*ls.length:=fun v b hv=>by have:=r8 hv (!b);rw[<- tX] at this;have:=yD this;rwa[xh] at this
 have oy:=QU ok hy cy;have ox:=QU ok hx cx;have ou:=QU ok hu cu;have ov:=QU ok hv cv
 -- where the walk goes on
 have na:(da=2*a/\aS ls da=dr ls.length (fG ls (nx ls a)) (gX ly))\/(da=2*a+1/\aS ls da=dr ls.length (fG ls a) (!gX lx)):=by
  rcases wm da with c|c
  .have:da=2*a:=aa;exact .inl ⟨this,by rw[this];exact afK ha hy cy⟩
  have:da=2*a+1:=aa;exact .inr ⟨this,by rw[this];exact afJ hx cx⟩
 have nb:(db=2*b/\aS ls db=dr ls.length (fG ls (nx ls b)) (gX lv))\/(db=2*b+1/\aS ls db=dr ls.length (fG ls b) (!gX lu)):=by
  rcases wm db with c|c
  .have:db=2*b:=aa;exact .inl ⟨this,by rw[this];exact afK hb hv cv⟩
  have:db=2*b+1:=aa;exact .inr ⟨this,by rw[this];exact afJ hu cu⟩
 have ta:aS ls da=da\/aS ls da=db:=two _ (nin _ wE) (by rcases na with ⟨_,e⟩|⟨_,e⟩<;>rw[e]<;>exact str _ _ (by assumption));have tb:aS ls db=da\/aS ls db=db:=two _ (nin _ xH) (by rcases nb with ⟨_,e⟩|⟨_,e⟩<;>rw[e]<;>exact str _ _ (by assumption));have ta':aS ls da=db:=by
  rcases ta with e|e
  .exfalso;rcases na with ⟨e1,e2⟩|⟨e1,e2⟩
   .rw[e] at e2;rcases xz e2.symm with ⟨_,e3⟩|⟨_,e3⟩
    .exact jG (DZ ok hy cy hx aa).2.2
    omega
   rw[e] at e2;rcases xz e2.symm with ⟨_,e3⟩|⟨_,e3⟩
   .omega
   exact jG (DZ ok hx cx hy (Ca ox aa)).2.2.symm
  exact e
 have tb':aS ls db=da:=by
  rcases tb with e|e
  .exact e
  exfalso;rcases nb with ⟨e1,e2⟩|⟨e1,e2⟩
  .rw[e] at e2;rcases xz e2.symm with ⟨_,e3⟩|⟨_,e3⟩
   .exact GB (DZ ok hv cv hu aa).2.2
   omega
  rw[e] at e2;rcases xz e2.symm with ⟨_,e3⟩|⟨_,e3⟩
  .omega
  exact GB (DZ ok hu cu hv (Ca ou aa)).2.2.symm
 rcases na with ⟨ea,e1⟩|⟨ea,e1⟩<;>rcases nb with ⟨eb,e2⟩|⟨eb,e2⟩<;>rw[ta'] at e1<;>rw[tb'] at e2
 .rcases xz e1.symm with ⟨g1,e3⟩|⟨g1,e3⟩<;>rcases xz e2.symm with ⟨g2,e4⟩|⟨g2,e4⟩<;>try omega
  have:=(DZ ok hv cv hx aa).1;rw[this,g1,g2]
 .rcases xz e1.symm with ⟨g1,e3⟩|⟨g1,e3⟩<;>rcases xz e2.symm with ⟨g2,e4⟩|⟨g2,e4⟩<;>try omega
  have:=(DZ ok hu cu hx aa).1;rw[this,g1,g2];rfl
 .rcases xz e1.symm with ⟨g1,e3⟩|⟨g1,e3⟩<;>rcases xz e2.symm with ⟨g2,e4⟩|⟨g2,e4⟩<;>try omega
  have:=(DZ ok hv cv hy (Ca ov aa)).1;rw[this,g2];revert g1;cases gX lx<;>simp
 rcases xz e1.symm with ⟨g1,e3⟩|⟨g1,e3⟩<;>rcases xz e2.symm with ⟨g2,e4⟩|⟨g2,e4⟩<;>try omega
 have:=(DZ ok hu cu hy (Ca ou aa)).1;rw[this];revert g1 g2;cases gX lx<;>cases gX lu<;>simp
theorem RR{x p w:aO}(h1:Xr x p)(h2:Xr x w)(h3:Xr p w)(cx:x.k.aC=true)(cp:p.k.aC=true)(cw:w.k.aC=true)(e1:x.k.id=p.k.id):w.k.id≠x.k.id:=by intro e2;have a:=(h1 cx cp e1).ov;have b:=(h2 cx cw e2.symm).ov;have d:=(h3 cp cw (by rw[<- e1,e2])).ov;rw[b] at a;rw[d] at a;revert a;cases w.k.over<;>simp
theorem agH{α:Type}{z:List α}{a j:Nat}(ha:a<z.length)(hj:j<z.length):(z.drop a++z.take a)[j]?=z[(a+j)%z.length]? :=by
 by_cases h:a+j<z.length
 .rw[uY (by rw[jy];omega),xu,dV h]
 rw[v8 (by rw[jy];omega),jy,kJ,aF aa,Nat.mod_eq_sub_mod aa,dV aa];congr 1;omega
theorem auk{α:Type}{r:List α}{j:Nat}{u v:α}(hu:r[j]?=some u)(hv:r[j+1]?=some v):r=r.take j++u::v::r.drop (j+2):=by
 obtain⟨h1,e1⟩:=aW.1 hu;obtain⟨h2,e2⟩:=aW.1 hv;have:r.drop j=u::v::r.drop (j+2):=by rw[<- tj h1,e1,<- tj h2,e2]
 rw[<- this,nC]
end
theorem W5{p q w:Int}{l:Let}(hc:l.aC=true)(hw:l.id=w):(gT [p,q] l).id=w-(if p<w then 1 else 0)-(if q<w then 1 else 0):=by rw[ae4 hc,hw];by_cases c1:p<w<;>by_cases c2:q<w<;>simp[c1,c2]<;>omega
section
variable {F:Nat} {ls:List Let}
theorem akp(g:cH F ls){a b:Nat}(ha:a<ls.length)(hb:b<ls.length){L:List Pc}(h:vO F ls a b=some L):Cert F L:=by
 obtain⟨x,y,r0,s,e,hx,hy,c,hp,Jz,hzx,hzy,nv⟩:=Yk g ha;have q:=c.q;have mf:=KW ls;unfold vO at h;split at h
 case isFalse=>cases h
 rename_i hc;simp only[cN,yJ,dI,mv,lE] at hc;obtain⟨hbo,aI,ac7,iD,vw,Jf⟩:=hc;have pa:pA ls a=x.p:=jZ hx;have pb:pA ls (nx ls a)=y.p:=jZ hy;cases h;have hnb:nx ls b<ls.length:=dO _ aa;have hna:nx ls a<ls.length:=dO _ aa;obtain⟨u,JJ⟩:=aM (ls:=zF ls) (k:=b) aa;obtain⟨v,NB⟩:=aM (ls:=zF ls) (k:=nx ls b) aa;have pc:pA ls b=u.p:=jZ (by rw[<- Hz,fQ,JJ];rfl);have pd:pA ls (nx ls b)=v.p:=jZ (by rw[<- Hz,fQ,NB];rfl);rw[pa,pb] at aI;rw[pa,pb,pc,pd] at ac7
 -- they are visits, two over and two under
 have kinds:x.k.aC=true/\y.k.aC=true/\u.k.aC=true/\v.k.aC=true/\x.k.over=y.k.over/\u.k.over=v.k.over/\x.k.over≠u.k.over:=by
  have bo:∀e ov,jU ls e ov=true->(pA ls e).l.aC=true/\(pA ls (nx ls e)).l.aC=true/\(pA ls e).l.over=ov/\(pA ls (nx ls e)).l.over=ov:=fun e ov h=>by unfold jU at h;simp only[cN,dI] at h;obtain⟨h1,h2,h3,h4⟩:=h;exact⟨by unfold Let.aC;rw[h1];rfl,by unfold Let.aC;rw[h2];rfl,h3,h4⟩
  rcases hbo with ⟨h1,h2⟩|⟨h1,h2⟩<;>obtain⟨a1,a2,a3,a4⟩:=bo _ _ h1<;>obtain⟨b1,b2,b3,b4⟩:=bo _ _ h2
  all_goals
   rw[pa] at a1 a3;rw[pb] at a2 a4;rw[pc] at b1 b3;rw[pd] at b2 b4;refine⟨a1,a2,b1,b2,?_,?_,?_⟩
   .show x.p.l.over=y.p.l.over;rw[a3,a4]
   .show u.p.l.over=v.p.l.over;rw[b3,b4]
   show x.p.l.over≠u.p.l.over;rw[a3,b3];decide
 obtain⟨cx,cy,cu,cv,ov1,ov2,ov3⟩:=kinds;have jG:x.k.id≠y.k.id:=aI;have MV:(u.k.id=x.k.id/\v.k.id=y.k.id)\/(u.k.id=y.k.id/\v.k.id=x.k.id):=ac7;have GB:u.k.id≠v.k.id:=by
  rcases MV with ⟨h1,h2⟩|⟨h1,h2⟩
  .rw[h1,h2];exact jG
  rw[h1,h2];exact jG.symm
 have eH:a≠b:=by
  rintro rfl
  rw[hzx] at JJ;cases JJ;exact ov3 rfl
 have lx:ls[a]?=some x.k:=by have:=Bp hzx;rwa[lB] at this
 have ly:ls[nx ls a]?=some y.k:=by have:=Bp hzy;rwa[lB] at this
 have lu:ls[b]?=some u.k:=by have:=Bp JJ;rwa[lB] at this
 have lv:ls[nx ls b]?=some v.k:=by have:=Bp NB;rwa[lB] at this
 have hg:=aqZ g ha hb lx ly lu lv cx cy cu cv jG GB eH Jf
 -- where the second edge stands, from the first one on
 obtain⟨j,Gm,mM,A3⟩:∃j,j+3<ls.length/\(a+(j+2))%ls.length=b/\(a+(j+3))%ls.length=nx ls b:=by
  have Qa:nx ls a≠b:=by intro e;rw[e,JJ] at hzy;cases hzy;exact ov3 ov1
  have Wf:nx ls b≠a:=by intro e;rw[e,hzx] at NB;cases NB;exact ov3 ov2.symm
  unfold nx at Qa Wf ⊢;by_cases c1:a<b
  .have e1:(a+1)%ls.length=a+1:=dV aa;rw[e1] at Qa;have h2:b≠a+1:=fun h=>Qa h.symm;have h3:¬(b+1=ls.length/\a=0):=fun⟨h3,h4⟩=>Wf (by rw[h3,rh,h4]);refine⟨b-a-2,aa,?_,?_⟩
   .rw[show a+(b-a-2+2)=b by omega,dV hb]
   rw[show a+(b-a-2+3)=b+1 by omega]
  have e1:(b+1)%ls.length=b+1:=dV aa;rw[e1] at Wf;have h3:¬(a+1=ls.length/\b=0):=fun⟨h3,h4⟩=>Qa (by rw[h3,rh,h4]);refine⟨b+ls.length-a-2,aa,?_,?_⟩
  .rw[show a+(b+ls.length-a-2+2)=b+ls.length by omega,qA,dV hb]
  rw[show a+(b+ls.length-a-2+3)=b+1+ls.length by omega,qA]
 have hru:r0[j]?=some u:=by have:=agH (z:=zF ls) (a:=a) (j:=j+2) aa aa;rw[e,mf,mM,JJ] at this;exact this
 have EB:r0[j+1]?=some v:=by have:=agH (z:=zF ls) (a:=a) (j:=j+3) aa aa;rw[e,mf,A3,NB] at this;exact this
 have nW:=auk hru EB;obtain⟨c1,c2,uI,anx,MD⟩:∃c1 c2,r0=c1++u::v::c2/\c1.length=j/\c2.length+j+4=ls.length:=by
  refine⟨_,_,nW,?_,?_⟩
  .have:=(aW.1 hru).1;rw[fX];omega
  have h1:=(aW.1 EB).1;have h2:=nv.length_eq;rw[mf] at h2;simp only[dh] at h2;rw[jy];omega
 subst uI
 -- the two paths that are left
 obtain⟨jX,fp,tL⟩:=hp;obtain⟨s2,sN,zT,yn,nu⟩:=NY.1 tL;have hj0:j≠0:=by
  rintro rfl
  exact iD mM
 have hj9:c2≠[]:=by
  rintro rfl
  simp only[ez] at MD;refine vw ?_;rw[<- mM,aix,show a+(j+2)+2=a+ls.length by omega,qA,dV ha]
 have iC:c1≠[]:=by rintro rfl;simp at anx;omega
 have q4:Cq F ([x,y,u,v]++(c1++c2)) (TF ls) (BF ls):=by refine q.perm ?_;refine List.Perm.cons x (List.Perm.cons y ?_);exact YB.trans (List.Perm.cons u YB)
 obtain⟨w1,q5⟩:=ui.1 q4.cr;obtain⟨w2,q6⟩:=ui.1 q5;obtain⟨w3,q7⟩:=ui.1 q6;obtain⟨w4,q8⟩:=ui.1 q7;have rxu:Xr x u:=w1 u af;have rxv:Xr x v:=w1 v af;have ryu:Xr y u:=w2 u af;have ryv:Xr y v:=w2 v af;have RW:∀w∈c1++c2,w.k.aC=true->w.k.id≠x.k.id/\w.k.id≠y.k.id:=fun w hw cw=>by
  have a1:Xr x w:=w1 w (BR [y,u,v] hw);have a2:Xr y w:=w2 w (BR [u,v] hw);have a3:Xr u w:=w3 w (BR [v] hw);have a4:Xr v w:=w4 w hw;rcases MV with ⟨h1,h2⟩|⟨h1,h2⟩
  .exact⟨RR rxu a1 a3 cx cu cw h1.symm,RR ryv a2 a4 cy cv cw h2.symm⟩
  exact⟨RR rxv a1 a4 cx cv cw h2.symm,RR ryu a2 a3 cy cu cw h1.symm⟩
 have bx:=(q4.ok x af).cb cx;have kK:=(q4.ok y af).cb cy;have bu:=(q4.ok u af).cb cu;have bv:=(q4.ok v af).cb cv;rw[jX] at bx;rw[fp] at kK;rw[yn] at bv
 -- which names are merged, and which are lost
 obtain⟨mc,me,bg,m1,m2,m3⟩:∃mc me bg:Nat,y.o.mp (jo mc me)=s.mp (jo mc me)/\v.o.mp (jo mc me)=s2.mp (jo mc me)/\
   (∀t,(t=x.o.l\/t=x.o.r)\/(t=y.o.l\/t=y.o.r)\/(t=u.o.l\/t=u.o.r)\/(t=v.o.l\/t=v.o.r)->t=mc\/t=bg\/(t=s.l\/t=s.r)\/(t=s2.l\/t=s2.r)):=by
  have dd:y.o.b=s.b:=by rw[<- kK,<- bx]
  have bn:v.o.b=s2.b:=by rw[<- bv,<- bu,zT]
  have fin:∀mc me,jo mc me y.o.l=jo mc me s.l->jo mc me y.o.r=jo mc me s.r->jo mc me v.o.l=jo mc me s2.l->jo mc me v.o.r=jo mc me s2.r->y.o.mp (jo mc me)=s.mp (jo mc me)/\v.o.mp (jo mc me)=s2.mp (jo mc me):=fun mc me k1 k2 k3 k4=>⟨dX.ext' k1 k2 dd,dX.ext' k3 k4 bn⟩;rcases MV with ⟨h1,h2⟩|⟨h1,h2⟩
  .have p1:=(rxu cx cu h1.symm).x4;have p2:=(ryv cy cv h2.symm).x4;rw[jX,zT] at p1;rw[fp,yn] at p2;obtain⟨a1,a2,a3,a4⟩:=p1;obtain⟨b1,b2,b3,b4⟩:=p2;cases zI:gX x.k
   .have ya:gX y.k=true:=by revert hg;rw[zI];cases gX y.k<;>simp
    rw[zI] at a1 a2 a3 a4;rw[ya] at b1 b2 b3 b4;simp only[dx,if_false,if_true] at a1 a2 a3 a4 b1 b2 b3 b4;refine⟨y.o.l,s.l,x.o.r,?_⟩;have f:=fin y.o.l s.l (by rw[tR,tS]) (by rw[b2,a4]) (by rw[<- b1,a3]) (by rw[b4,<- a1,tR,tS]);refine⟨f.1,f.2,?_⟩;rintro t ((rfl|rfl)|(rfl|rfl)|(rfl|rfl)|(rfl|rfl))
    .exact .inr (.inr (.inr (.inl a3.symm)))
    .exact .inr (.inl rfl)
    .exact .inl rfl
    .exact .inr (.inr (.inl (.inr (b2.trans a4))))
    .exact .inr (.inl a2.symm)
    .exact .inr (.inr (.inl (.inr a4)))
    .exact .inr (.inr (.inr (.inl (by rw[<- b1,a3]))))
    exact .inl b4
   have ya:gX y.k=false:=by revert hg;rw[zI];cases gX y.k<;>simp
   rw[zI] at a1 a2 a3 a4;rw[ya] at b1 b2 b3 b4;simp only[dx,if_false,if_true] at a1 a2 a3 a4 b1 b2 b3 b4;refine⟨y.o.r,s.r,x.o.l,?_⟩;have f:=fin y.o.r s.r (by rw[<- b3,a1]) (by rw[tR,tS]) (by rw[a3,<- b2,tR,tS]) (by rw[b4,a2]);refine⟨f.1,f.2,?_⟩;rintro t ((rfl|rfl)|(rfl|rfl)|(rfl|rfl)|(rfl|rfl))
   .exact .inr (.inl rfl)
   .exact .inr (.inr (.inr (.inr a2)))
   .exact .inr (.inr (.inl (.inl (by rw[<- b3,a1]))))
   .exact .inl rfl
   .exact .inr (.inr (.inl (.inl a1.symm)))
   .exact .inr (.inl a4)
   .exact .inl b2.symm
   exact .inr (.inr (.inr (.inr (b4.trans a2))))
  have p1:=(rxv cx cv h2.symm).x4;have p2:=(ryu cy cu h1.symm).x4;rw[jX,yn] at p1;rw[fp,zT] at p2;obtain⟨a1,a2,a3,a4⟩:=p1;obtain⟨b1,b2,b3,b4⟩:=p2;cases zI:gX x.k
  .have ya:gX y.k=true:=by revert hg;rw[zI];cases gX y.k<;>simp
   rw[zI] at a1 a2 a3 a4;rw[ya] at b1 b2 b3 b4;simp only[dx,if_false,if_true] at a1 a2 a3 a4 b1 b2 b3 b4;refine⟨y.o.r,s.r,x.o.l,?_⟩;have f:=fin y.o.r s.r (by rw[a1,<- b4]) (by rw[tR,tS]) (by rw[<- a2,b3]) (by rw[a4,<- b2,tR,tS]);refine⟨f.1,f.2,?_⟩;rintro t ((rfl|rfl)|(rfl|rfl)|(rfl|rfl)|(rfl|rfl))
   .exact .inr (.inl rfl)
   .exact .inr (.inr (.inr (.inl b3.symm)))
   .exact .inr (.inr (.inl (.inl (by rw[a1,<- b4]))))
   .exact .inl rfl
   .exact .inr (.inl b1.symm)
   .exact .inr (.inr (.inl (.inl (by rw[a1]))))
   .exact .inr (.inr (.inr (.inl (by rw[<- a2,b3]))))
   exact .inr (.inr (.inl (.inr a4)))
  have ya:gX y.k=false:=by revert hg;rw[zI];cases gX y.k<;>simp
  rw[zI] at a1 a2 a3 a4;rw[ya] at b1 b2 b3 b4;simp only[dx,if_false,if_true] at a1 a2 a3 a4 b1 b2 b3 b4;refine⟨y.o.l,s.l,x.o.r,?_⟩;have f:=fin y.o.l s.l (by rw[tR,tS]) (by rw[b2,a3]) (by rw[<- a1,b3,tR,tS]) (by rw[a4,b1]);refine⟨f.1,f.2,?_⟩;rintro t ((rfl|rfl)|(rfl|rfl)|(rfl|rfl)|(rfl|rfl))
  .exact .inr (.inr (.inr (.inr b1)))
  .exact .inr (.inl rfl)
  .exact .inl rfl
  .exact .inr (.inr (.inl (.inr (by rw[b2,a3]))))
  .exact .inr (.inr (.inl (.inr a3)))
  .exact .inr (.inl b4)
  .exact .inr (.inr (.inl (.inl a1.symm)))
  exact .inr (.inr (.inr (.inr (a4.trans b1))))
 have zx:∀z:List aO,aw Let.aC (aQ ([x,y,u,v]++z))=aw Let.aC (aQ z)+4:=fun z=>by rw[S2,lH,lH,lH,lH,S4,(yr cx).1,(yr cy).1,(yr cu).1,(yr cv).1];omega
 have Gd:∀z:List aO,aw Let.aG (aQ ([x,y,u,v]++z))=aw Let.aG (aQ z):=fun z=>by rw[S2,lH,lH,lH,lH,S4,(yr cx).2,(yr cy).2,(yr cu).2,(yr cv).2];omega
 have xS:∀(z:List aO) k,cg (aQ ([x,y,u,v]++z)) k=cg (aQ z) k:=fun z k=>by show aw _ _=aw _ _;rw[S2,lH,lH,lH,lH,S4,Ie k cx,Ie k cy,Ie k cu,Ie k cv];simp
 have hP4:([x,y,u,v]++(c1++c2)).Perm (zF ls):=by refine List.Perm.trans (List.Perm.symm ?_) nv;refine List.Perm.cons x (List.Perm.cons y ?_);exact YB.trans (List.Perm.cons u YB)
 have h2:aw Let.aC (aQ ([x,y,u,v]++(c1++c2)))=aw Let.aC ls:=by rw[Cg hP4,lB]
 have h3:aw Let.aG (aQ ([x,y,u,v]++(c1++c2)))=aw Let.aG ls:=by rw[Cg hP4,lB]
 have dQ:=q4.ev
 let ψ:=jo mc me
 let hL:=gT [x.k.id,y.k.id]
 let r:=c1++c2
 have mC:aw Let.aC (aQ (r.map (aO.mp ψ hL)))=aw Let.aC (aQ r):=Cf (fun l=>(Bo _).aC l) r;have mP:aw Let.aG (aQ (r.map (aO.mp ψ hL)))=aw Let.aG (aQ r):=Cf (fun l=>(Bo _).aG l) r;have mG:∀k,cg (aQ (r.map (aO.mp ψ hL))) k=cg (aQ r) k:=fun k=>Cf (fun l=>ae2 _ k l) r;have Jn:∀w∈[x,y,u,v]++r,w.k.aC=true->1<=w.k.id/\w.k.id<=((aw Let.aC (aQ r)/2:Nat):Int)+2:=fun w hw hc=>by have:=q4.ids w hw hc;rw[zx] at this;show 1<=w.k.id/\w.k.id<=((aw Let.aC (aQ (c1++c2))/2:Nat):Int)+2;omega
 have idx:=Jn x af cx;have idy:=Jn y af cy;have inr:∀w∈r,w∈[x,y,u,v]++r:=fun w hw=>BR _ hw;have qn:Cq F ([]++r.map (aO.mp ψ hL)) (fun G k=>ψ (TF ls G k)) (fun G k=>ψ (BF ls G k)):=by
  refine Cq.edit (X:=[x,y,u,v]) (r:=r) q4 (Bo _) (fun w hw=>ae3 (q4.ok w (inr w hw)).bad) (fun p hp o ho cp co e=>?_) (fun p hp o ho pp po e1 e2=>?_) (fun _ h=>by cases h) List.Pairwise.nil List.Pairwise.nil (fun _ h=>by cases h) (fun _ h=>by cases h) ?_ (fun _ h=>by cases h) (fun p hp cp=>?_) (fun _ h=>by cases h) (fun p hp pp=>?_) (fun _ h=>by cases h) (fun p hp pp=>?_) (fun k hk=>?_) ?_
  .obtain⟨n1,n2⟩:=RW p hp cp;obtain⟨n3,n4⟩:=RW o ho co;rw[W5 cp rfl,W5 co rfl] at e;split at e<;>split at e<;>split at e<;>split at e<;>omega
  .have e1:(gT [x.k.id,y.k.id] p.k).gate=(gT [x.k.id,y.k.id] o.k).gate:=e1;have e2:(gT [x.k.id,y.k.id] p.k).aE=(gT [x.k.id,y.k.id] o.k).aE:=e2;rw[Bn pp,Bn po] at e1 e2;exact⟨e1,e2⟩
  .rw[fY,mC];rw[zx] at dQ;show aw Let.aC (aQ (c1++c2))%2=0;omega
  .rw[fY,mC];show 1<=(gT [x.k.id,y.k.id] p.k).id/\(gT [x.k.id,y.k.id] p.k).id<=_;rw[W5 cp rfl];have h1:=Jn p (inr p hp) cp;obtain⟨n1,n2⟩:=RW p hp cp;have hxy':=jG;split<;>split<;>omega
  .rw[fY,mG];show 1<=(gT [x.k.id,y.k.id] p.k).aE/\(gT [x.k.id,y.k.id] p.k).aE<=((cg (aQ r) (gT [x.k.id,y.k.id] p.k).gate.toNat:Nat):Int);rw[Bn pp,<- xS r];exact q4.rr p (inr p hp) pp
  .show(ψ _=ψ (TF ls (gT [x.k.id,y.k.id] p.k).gate.toNat ((gT [x.k.id,y.k.id] p.k).aE.toNat-1))/\ψ _=ψ (BF ls (gT [x.k.id,y.k.id] p.k).gate.toNat ((gT [x.k.id,y.k.id] p.k).aE.toNat-1)))/\ψ _=ψ (TF ls (gT [x.k.id,y.k.id] p.k).gate.toNat (gT [x.k.id,y.k.id] p.k).aE.toNat)/\ψ _=ψ (BF ls (gT [x.k.id,y.k.id] p.k).gate.toNat (gT [x.k.id,y.k.id] p.k).aE.toNat);rw[Bn pp];exact⟨⟨rfl,rfl⟩,rfl,rfl⟩
  .rw[fY,mG,<- xS r];obtain⟨t1,t2⟩:=q4.gt k hk;exact⟨congrArg ψ t1,congrArg ψ t2⟩
  rw[fY,mG,<- xS r];obtain⟨t1,t2⟩:=q4.gz;exact⟨congrArg ψ t1,congrArg ψ t2⟩
 have MI:Cert F (r.map fun w=>rO [x.k.id,y.k.id] w.p):=by
  refine Cq.done (X:=[x,y,u,v]) (r:=r) (X':=[]) (L:=[mc,bg]) (N:=[]) (V:=lh ls) (z':=r.map (aO.mp ψ hL)) qn DA (fun t ht=>?_) (List.Perm.refl _) ⟨s.mp ψ,?_⟩ ?_ ?_ (fun t _ ht=>QI fun e=>ht (by simp[e])) (fun w hw t ht ew AU=>?_) uh (fun t ht=>by cases ht) (fun t ht=>by cases ht) (by rw[Dy];exact bJ _) ?_
  .obtain⟨w,hw,ew⟩:=c.wit t ht;refine⟨w,?_,ew⟩;have:w∈zF ls:=nv.mem_iff.1 hw;exact hP4.mem_iff.2 this
  .have e1:=Q1 (ψ:=ψ) (h:=hL) sN;have e2:=Q1 (ψ:=ψ) (h:=hL) nu;rw[show y.o.mp ψ=s.mp ψ from m1] at e1;rw[show v.o.mp ψ=s2.mp ψ from m2] at e2;show jS (s.mp ψ) ((c1++c2).map (aO.mp ψ hL)) (s.mp ψ);rw[j6];exact NY.2 ⟨_,e1,e2⟩
  .rw[tm];refine Aq fun w _=>?_;rw[ae6];rfl
  .obtain⟨w,hw,qp⟩:=c.one;have hw':w∈[x,y,u,v]++r:=hP4.mem_iff.2 (nv.mem_iff.1 hw);rcases eD.1 hw' with h|h
   .exfalso;simp only[cM,gC,or_false] at h;rcases h with rfl|rfl|rfl|rfl
    .rw[mQ cx] at qp;cases qp
    .rw[mQ cy] at qp;cases qp
    .rw[mQ cu] at qp;cases qp
    rw[mQ cv] at qp;cases qp
   refine⟨w.mp ψ hL,by rw[fY];exact dp.2 ⟨w,h,rfl⟩,?_⟩;show(gT [x.k.id,y.k.id] w.k).aG=true;rw[(Bo _).aG];exact qp
  .simp only[cM,gC,or_false,Au] at hw AU;have key:=m3 t (by
    rcases hw with rfl|rfl|rfl|rfl
    .exact .inl ew
    .exact .inr (.inl ew)
    .exact .inr (.inr (.inl ew))
    exact .inr (.inr (.inr ew)))
   have hψ:ψ t=t:=QI AU.1;have put:∀d∈r,(t=d.o.l\/t=d.o.r)->∃y'∈[]++r.map (aO.mp ψ hL),t=y'.o.l\/t=y'.o.r:=fun d hd h=>by
    refine⟨d.mp ψ hL,by rw[fY];exact dp.2 ⟨d,hd,rfl⟩,?_⟩;rcases h with h|h
    .left;show t=ψ d.o.l;rw[<- h,hψ]
    right;show t=ψ d.o.r;rw[<- h,hψ]
   rcases key with h|h|h|h
   .exact absurd h AU.1
   .exact absurd h AU.2
   .obtain⟨d,hd,ed⟩:=Q0 nu hj9;exact put d (BR _ hd) (by rw[ed];exact h)
   obtain⟨d,hd,ed⟩:=Q0 sN iC;exact put d (Fl _ hd) (by rw[ed];exact h)
  rw[fY,mC,mP];have h1:=g.nw;rw[zx] at h2;rw[Gd] at h3;show aw Let.aG (aQ (c1++c2))+aw Let.aC (aQ (c1++c2))/2+1+2<=_;simp only[ez];omega
 rw[pa,pb];show Cert F ((pI (pieces ls) (uu [x.k.id,y.k.id])).map (rO [x.k.id,y.k.id]));rw[aeC (l:=pieces ls) (drop:=uu [x.k.id,y.k.id]) (d:=fun p=>(p.l.kind==2)&&[x.k.id,y.k.id].contains p.l.id) fun _ _=>rfl];refine aaF (a:=a) ?_;rw[Jz];have hkx:(x.p.l.kind==2)=true:=cx;have hky:(y.p.l.kind==2)=true:=cy;have hku:(u.p.l.kind==2)=true:=cu;have hkv:(v.p.l.kind==2)=true:=cv;have anR:∀d∈r,(fun p:Pc=> !((p.l.kind==2)&&[x.k.id,y.k.id].contains p.l.id)) d.p=true:=fun d hd=>by
  show(!((d.p.l.kind==2)&&_))=true;cases hk:(d.p.l.kind==2)
  .rfl
  obtain⟨n1,n2⟩:=RW d hd hk;simp[n1,n2]
 have PW:∀(d:aO) (t:List Pc),(d.p.l.kind==2)=true->(d.k.id=x.k.id\/d.k.id=y.k.id)->(d.p::t).filter (fun p=> !((p.l.kind==2)&&[x.k.id,y.k.id].contains p.l.id))=t.filter (fun p=> !((p.l.kind==2)&&[x.k.id,y.k.id].contains p.l.id)):=fun d t hd h=>by
  refine Yt ?_;rcases h with h|h
  .have h:d.p.l.id=x.k.id:=h;simp[h,hd]
  have h:d.p.l.id=y.k.id:=h;simp[h,hd]
 have hf:((x::y::(c1++u::v::c2)).map aO.p).filter (fun p=> !((p.l.kind==2)&&[x.k.id,y.k.id].contains p.l.id))=r.map aO.p:=by
  rw[dK,dK,PW x _ hkx (.inl rfl),PW y _ hky (.inr rfl),j6,OB,dK,dK,
   PW u _ hku (MV.imp (fun h=>h.1) fun h=>h.1),PW v _ hkv (MV.symm.imp (fun h=>h.2) fun h=>h.2)]
  rw[<- OB,<- j6];refine filter_all fun p hp=>?_;obtain⟨d,hd,rfl⟩:=dp.1 hp;exact anR d hd
 rw[hf,tm];exact MI
end
theorem auj{α:Type}{z:List α}{a:Nat}{x:α}(h:z[a]?=some x):z=z.take a++x::z.drop (a+1):=by
 obtain⟨hl,e⟩:=aW.1 h;have:z.drop a=x::z.drop (a+1):=by rw[<- e,tj]
 rw[<- this,nC]
section
variable {F:Nat} {ls:List Let}
end
section
variable {F:Nat} {ls:List Let}
end
end Go.Abs
