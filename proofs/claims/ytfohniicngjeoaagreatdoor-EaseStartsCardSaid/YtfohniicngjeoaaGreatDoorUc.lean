/-
  AxisCut and PairCut keep a code valid.
-/
import Derived.Test.YtfohniicngjeoaaGreatDoorUa
import Derived.Test.YtfohniicngjeoaaGreatDoorWw
set_option linter.all false
set_option maxHeartbeats 16000000
namespace Go.Abs
def jw(c e a:Nat):Nat:=if a=c then e else a
theorem tO(c e:Nat):jw c e c=e:=if_pos rfl
theorem tP(c e:Nat):jw c e e=e:=by unfold jw;split<;>rfl
theorem Px{c e a:Nat}(h:a≠c):jw c e a=a:=if_neg h
def tU(g ab kW:Int)(l:Let):Let:=if (l.kind==1)&&((l.gate==g)&&decide (ab<l.aD)) then {l with aD:=l.aD+kW} else l
theorem apW(g ab kW:Int)(p:Pc):rY g ab kW p=⟨tU g ab kW p.l,p.d⟩:=by unfold rY tU;split<;>rfl
theorem ES(g ab kW:Int):zK (tU g ab kW):=by refine⟨fun l=>?_,fun l=>?_,fun l=>?_⟩<;>unfold tU<;>split<;>rfl
theorem JB(g ab kW:Int)(l:Let):(tU g ab kW l).gate=l.gate:=by unfold tU;split<;>rfl
theorem Qm(g ab kW:Int)(l:Let):(tU g ab kW l).id=l.id:=by unfold tU;split<;>rfl
theorem apS{g ab kW:Int}{l:Let}(h:l.aB=true):tU g ab kW l=l:=by unfold tU;have:=mQ h;unfold Let.aE at this;rw[this];simp
theorem apT(g ab kW:Int)(k:Nat)(l:Let):nL k (tU g ab kW l)=nL k l:=by unfold nL;rw[(ES g ab kW).aE,JB]
theorem apV{g ab kW:Int}{l:Let}(h:l.aE=true):(tU g ab kW l).aD=if l.gate=g/\ab<l.aD then l.aD+kW else l.aD:=by
 unfold tU;unfold Let.aE at h;rw[h];by_cases c:l.gate=g/\ab<l.aD
 .rw[if_pos c,if_pos (by simp[c.1,c.2])]
 rw[if_neg c,if_neg (by simpa using c)]
theorem apU{F:Nat}{g ab kW:Int}{l:Let}(h:dz F l=false):dz F (tU g ab kW l)=false:=by
 rcases yz h with hp|hc
 .have jh:(tU g ab kW l).aE=true:=by rw[(ES g ab kW).aE];exact hp
  rw[sR hp] at h;rw[sR jh,JB,Qm,(ES g ab kW).sign,(ES g ab kW).over];exact h
 rw[apS hc];exact h
theorem Vi{l:List Pc}{drop:Nat->Pc->Bool}:∀d j,j+d<=l.length->(∀i p,j<=i->i<j+d->drop i p=false)->tK l drop (j+d)=tK l drop j++(l.drop j).take d:=by
 intro d
 induction d with
 |zero=>intro j _ _;simp
 |succ d ih=>intro j hj h;obtain⟨p,hp⟩:=aL (ls:=l) (k:=j+d) aa;rw[show j+(d+1)=(j+d)+1 by omega,I1 hp (h _ _ aa aa),ih j aa fun i p h1 h2=>h i p h1 aa,pP,Bu,hp,zE];rfl
theorem acx{l:List Pc}{a:Nat}(ha:a<l.length)(h2:2<=l.length){p q:Pc}{r:List Pc}(e:l.drop a++l.take a=p::q::r):∃u v,(pz l fun k _=>decide (k=a)||decide (k=(a+1)%l.length))=u++v/\r=v++u:=by
 have LI:∀i (p:Pc),i≠a->i≠(a+1)%l.length->(fun(k:Nat) (_:Pc)=>decide (k=a)||decide (k=(a+1)%l.length)) i p=false:=fun i p h1 h2=>by simp[h1,h2]
 have Ad:∀i (p:Pc),i=a\/i=(a+1)%l.length->(fun(k:Nat) (_:Pc)=>decide (k=a)||decide (k=(a+1)%l.length)) i p=true:=fun i p h=>by simpa using h
 obtain⟨x,hx⟩:=aL ha;by_cases c:a+1<l.length
 .obtain⟨y,hy⟩:=aL c;have hm:(a+1)%l.length=a+1:=jA c;rw[hm] at LI Ad ⊢;have k0:=Vi (l:=l) (drop:=fun k _=>decide (k=a)||decide (k=a+1)) a 0 aa fun i p _ h=>LI i p aa aa;have k1:=AM (drop:=fun k _=>decide (k=a)||decide (k=a+1)) hx (Ad a x (.inl rfl));have k2:=AM (drop:=fun k _=>decide (k=a)||decide (k=a+1)) hy (Ad (a+1) y (.inr rfl));have k3:=Vi (l:=l) (drop:=fun k _=>decide (k=a)||decide (k=a+1)) (l.length-(a+2)) (a+1+1) aa fun i p h _=>LI i p aa aa;refine⟨l.take a,l.drop (a+2),?_,?_⟩
  .unfold pz;rw[show a+1+1+(l.length-(a+2))=l.length by omega,k2,k1] at k3;rw[kU] at k0;rw[k3,k0];have:tK l (fun k _=>decide (k=a)||decide (k=a+1)) 0=[]:=rfl;rw[this,List.drop_zero,gD,gR (l:=l.drop (a+1+1)) (by rw[kO];omega)]
  have e1:l.drop a=x::y::l.drop (a+2):=by obtain⟨h1,e1⟩:=aW.1 hx;obtain⟨h2,e2⟩:=aW.1 hy;rw[<- r5 h1,e1,<- r5 h2,e2]
  rw[e1] at e;simp only[yf,G9] at e;exact e.2.2.symm
 have ea:a+1=l.length:=aa;have hm:(a+1)%l.length=0:=by rw[ea,Dj]
 rw[hm] at LI Ad ⊢;obtain⟨y,hy⟩:=aL (ls:=l) (k:=0) aa;have k1:=AM (drop:=fun k _=>decide (k=a)||decide (k=0)) hy (Ad 0 y (.inr rfl));have k2:=Vi (l:=l) (drop:=fun k _=>decide (k=a)||decide (k=0)) (a-1) 1 aa fun i p h h'=>LI i p aa aa;have k3:=AM (drop:=fun k _=>decide (k=a)||decide (k=0)) hx (Ad a x (.inl rfl));refine⟨[],(l.drop 1).take (a-1),?_,?_⟩
 .unfold pz;rw[<- ea,k3];rw[show 1+(a-1)=a by omega] at k2;rw[k2];rw[show(1:Nat)=0+1 from rfl,k1];rfl
 have e1:l.drop a=[x]:=by obtain⟨h1,e1⟩:=aW.1 hx;rw[<- r5 h1,e1,List.drop_eq_nil_of_le aa]
 have e2:l.take a=y::(l.drop 1).take (a-1):=by
  obtain⟨h1,e1⟩:=aW.1 hy;have:l=y::l.drop 1:=by have:=r5 h1;rw[e1,List.drop_zero] at this;exact this.symm
  conv=>lhs;rw[this]
  rw[show a=(a-1)+1 by omega,List.take_succ_cons];rfl
 rw[e1,e2] at e;simp only[yf,gD,G9] at e;rw[kN];exact e.2.2.symm
section
variable {F:Nat} {ls:List Let}
theorem dV.ext'{s t:dV}(h1:s.l=t.l)(h2:s.r=t.r)(h3:s.b=t.b):s=t:=by cases s;cases t;simp_all
theorem ahF(g:dF F ls){a:Nat}(ha:a<ls.length){L:List Pc}(h:zL ls a=some L):L=[]\/Cert F L:=by
 obtain⟨x,y,r,s,e,hx,hy,c,hp,IK,_,_,nE⟩:=WC g ha;have q:=c.q;unfold zL at h;have e1:(pieces ls).getD a ⟨lh,false⟩=x.p:=by rw[dq,hx];rfl
 have e2:(pieces ls).getD ((a+1)%ls.length) ⟨lh,false⟩=y.p:=by rw[dq,hy];rfl
 simp only[e1,e2] at h;split at h
 case isFalse=>cases h
 rename_i hc;simp only[cX,beq_iff_eq,pL,Bool.and_eq_false_iff,decide_eq_false_iff_not] at hc;obtain⟨fG,qI,pZ,lJ,akL⟩:=hc;cases h;have px:x.k.aE=true:=by show(x.k.kind==1)=true;simp[fG]
 have py:y.k.aE=true:=by show(y.k.kind==1)=true;simp[qI]
 obtain⟨ji,eG,tE⟩:=hp;have ox:=(q.ok x af).pb px;have oy:=(q.ok y af).pb py;have plx:=q.pl x af px;have ply:=q.pl y af py;have gx:=((sR px).1 (q.ok x af).bad).1.1.1;have rx:=q.rr x af px;have ry:=q.rr y af py;have xG:y.k.gate=x.k.gate:=pZ.symm;rw[xG] at ry
 -- the counts
 have yQ:∀z:List aQ,aw Let.aB (aM (x::y::z))=aw Let.aB (aM z):=fun z=>by rw[lT,lT,(ifP px).1,(ifP py).1];omega
 have FU:∀z:List aQ,aw Let.aE (aM (x::y::z))=aw Let.aE (aM z)+2:=fun z=>by rw[lT,lT,(ifP px).2,(ifP py).2];omega
 have hGi:((x.k.gate.toNat:Nat):Int)=x.k.gate:=Int.toNat_of_nonneg gx.1;have xx:∀(z:List aQ) k,cg (aM (x::y::z)) k=cg (aM z) k+if k=x.k.gate.toNat then 2 else 0:=fun z k=>by
  show aw _ _=aw _ _+_;rw[lT,lT];have:∀w:aQ,w.k.aE=true->w.k.gate=x.k.gate->(if nL k w.k=true then 1 else 0)=if k=x.k.gate.toNat then 1 else 0:=fun w hw hgw=>by
   unfold nL;rw[hw,hgw];by_cases ck:k=x.k.gate.toNat
   .subst ck;simp[hGi]
   have:(x.k.gate==(k:Int))=false:=by rw[beq_eq_false_iff_ne];omega
   simp[this,ck]
  rw[this x px rfl,this y py xG];split<;>omega
 have h2:aw Let.aB (aM (x::y::r))=aw Let.aB ls:=by rw[BQ nE,jL]
 have h3:aw Let.aE (aM (x::y::r))=aw Let.aE ls:=by rw[BQ nE,jL]
 have hlen:ls.length=r.length+2:=by have:=nE.length_eq;rw[Bo] at this;simpa using this.symm
 -- ranks
 obtain⟨lo,hlo1,UG,sI⟩:∃lo:Nat,1<=lo/\((x.k.aD=lo/\y.k.aD=lo+1)\/(x.k.aD=lo+1/\y.k.aD=lo))/\wG x.k.aD y.k.aD=lo+1:=by
  have IJ:wG x.k.aD y.k.aD-CJ x.k.aD y.k.aD=1:=lJ;unfold wG CJ at IJ;unfold wG;by_cases c1:x.k.aD<y.k.aD
  .rw[if_pos c1] at IJ ⊢;rw[if_neg aa] at IJ;exact⟨x.k.aD.toNat,aa,.inl ⟨aa,aa⟩,aa⟩
  rw[if_neg c1] at IJ ⊢;by_cases c2:y.k.aD<x.k.aD
  .rw[if_pos c2] at IJ;exact⟨y.k.aD.toNat,aa,.inr ⟨aa,aa⟩,aa⟩
  rw[if_neg c2] at IJ;omega
 have aaT:lo+1<=cg (aM (x::y::r)) x.k.gate.toNat:=by rcases UG with ⟨h1,h2⟩|⟨h1,h2⟩<;>omega
 -- which names are merged
 obtain⟨mc,me,m1,m2,m3,m4,m5⟩:∃mc me:Nat,(y.o.mp (jw mc me)=s.mp (jw mc me))/\jw mc me (TF ls x.k.gate.toNat (lo+1))=jw mc me (TF ls x.k.gate.toNat (lo-1))/\jw mc me (BF ls x.k.gate.toNat (lo+1))=jw mc me (BF ls x.k.gate.toNat (lo-1))/\
   (∀t,(t=y.o.l\/t=y.o.r)->t=mc\/t=s.l\/t=s.r)/\True:=by
  have hdy:y.p.d= !x.p.d:=by have h1:=oy.2;rw[eG,ox.1] at h1;revert h1;cases x.p.d<;>cases y.p.d<;>simp
  have hb:y.o.b=s.b:=by rw[oy.1,hdy,<- ji,ox.2]
  obtain⟨p1,p2,p3,p4⟩:=plx;obtain⟨p5,p6,p7,p8⟩:=ply;rw[xG] at p5 p6 p7 p8;unfold aQ.up at p1 p2 p5 p6;unfold aQ.lo at p3 p4 p7 p8;rw[hdy] at p5 p6 p7 p8;rw[ji] at p1 p2 p3 p4;rw[eG] at p5 p6 p7 p8;have done:∀mc me,(jw mc me y.o.l=jw mc me s.l)->(jw mc me y.o.r=jw mc me s.r)->y.o.mp (jw mc me)=s.mp (jw mc me):=fun mc me h1 h2=>dV.ext' h1 h2 hb;rcases UG with ⟨r1,r2⟩|⟨r1,r2⟩
  .have n1:x.k.aD.toNat=lo:=aa;have n2:y.k.aD.toNat=lo+1:=aa;rw[n1] at p1 p2 p3 p4;rw[n2] at p5 p6 p7 p8;rw[Nat.add_sub_cancel] at p5 p7;cases hd:x.p.d<;>rw[hd] at p1 p2 p3 p4 p5 p6 p7 p8<;>simp only[Bool.not_false,Bq,dL,if_false,if_true,iG] at p1 p2 p3 p4 p5 p6 p7 p8
   .have ee:y.o.r=s.r:=by rw[p7,p4]
    refine⟨y.o.l,s.l,done _ _ ?_ (by rw[ee]),by rw[<- p6,p1],by rw[<- p8,<- p3,tO,tP],?_,trivial⟩
    .rw[tO,tP]
    rintro t (rfl|rfl)
    .exact .inl rfl
    exact .inr (.inr ee)
   have ee:y.o.l=s.l:=by rw[p5,p2]
   refine⟨y.o.r,s.r,done _ _ (by rw[ee]) ?_,by rw[<- p6,<- p1,tO,tP],by rw[<- p8,p3],?_,trivial⟩
   .rw[tO,tP]
   rintro t (rfl|rfl)
   .exact .inr (.inl ee)
   exact .inl rfl
  have n1:x.k.aD.toNat=lo+1:=aa;have n2:y.k.aD.toNat=lo:=aa;rw[n1] at p1 p2 p3 p4;rw[n2] at p5 p6 p7 p8;rw[Nat.add_sub_cancel] at p1 p3;cases hd:x.p.d<;>rw[hd] at p1 p2 p3 p4 p5 p6 p7 p8<;>simp only[Bool.not_false,Bq,dL,if_false,if_true,iG] at p1 p2 p3 p4 p5 p6 p7 p8
  .have ee:y.o.l=s.l:=by rw[p8,p3]
   refine⟨y.o.r,s.r,done _ _ (by rw[ee]) ?_,by rw[<- p2,p5],by rw[<- p4,<- p7,tO,tP],?_,trivial⟩
   .rw[tO,tP]
   rintro t (rfl|rfl)
   .exact .inr (.inl ee)
   exact .inl rfl
  have ee:y.o.r=s.r:=by rw[p6,p1]
  refine⟨y.o.l,s.l,done _ _ ?_ (by rw[ee]),by rw[<- p2,<- p5,tO,tP],by rw[<- p4,p7],?_,trivial⟩
  .rw[tO,tP]
  rintro t (rfl|rfl)
  .exact .inl rfl
  exact .inr (.inr ee)
 clear m5;by_cases hr:∃w∈r,w.k.aE=true
 case neg=>
  left;have DQ:aw Let.aE (aM r)=0:=JZ.2 fun l hl Cs=>by obtain⟨w,hw,rfl⟩:=dQ.1 hl;exact hr ⟨w,hw,Cs⟩
  have hC0:aw Let.aB ls=0:=by have dY:=q.ev;rw[h2] at dY;rw[FU] at h3;rcases akL with h|h<;>omega
  have:ls.length=2:=by have:=acJ g.ok;rw[FU] at h3;omega
  have Ak:r=[]:=E0.1 aa;obtain⟨u,v,k1,k2⟩:=acx (l:=pieces ls) (a:=a) (by rw[fW];exact ha) (by rw[fW];omega) (by rw[IK];rfl);rw[fW] at k1;rw[Ak] at k2;have k2:=k2.symm;simp only[kQ,List.append_eq_nil_iff] at k2;unfold kn;rw[k1,k2.1,k2.2];rfl
 right;obtain⟨w0,uE,pw0⟩:=hr;have O2:r≠[]:=List.ne_nil_of_mem uE
 let ψ:=jw mc me
 let hL:=tU x.k.gate (lo+1) (-2)
 let T':Nat->Nat->Nat:=fun G k=>if G=x.k.gate.toNat then (if k<=lo-1 then ψ (TF ls G k) else ψ (TF ls G (k+2))) else ψ (TF ls G k)
 let B':Nat->Nat->Nat:=fun G k=>if G=x.k.gate.toNat then (if k<=lo-1 then ψ (BF ls G k) else ψ (BF ls G (k+2))) else ψ (BF ls G k)
 have mC:aw Let.aB (aM (r.map (aQ.mp ψ hL)))=aw Let.aB (aM r):=BP (fun l=>(ES _ _ _).aB l) r;have mP:aw Let.aE (aM (r.map (aQ.mp ψ hL)))=aw Let.aE (aM r):=BP (fun l=>(ES _ _ _).aE l) r;have mG:∀k,cg (aM (r.map (aQ.mp ψ hL))) k=cg (aM r) k:=fun k=>BP (fun l=>apT _ _ _ k l) r;have inr:∀w∈r,w∈x::y::r:=fun w hw=>by simp[hw]
 -- the others have other ranks
 have oth:∀w∈r,w.k.aE=true->w.k.gate=x.k.gate->w.k.aD<lo\/(lo:Int)+1<w.k.aD:=fun w hw pw gw=>by obtain⟨d1,d2⟩:=ua.1 q.rk;obtain⟨d3,_⟩:=ua.1 d2;have n1:=d1 w (by simp[hw]) px pw gw.symm;have n2:=d3 w hw py pw (by rw[xG,gw]);rcases UG with ⟨r1,r2⟩|⟨r1,r2⟩<;>omega
 have rk':∀w∈r,w.k.aE=true->(hL w.k).aD=if w.k.gate=x.k.gate/\(lo:Int)+1<w.k.aD then w.k.aD-2 else w.k.aD:=fun w hw pw=>by have:=apV (g:=x.k.gate) (ab:=(lo:Int)+1) (kW:= -2) pw;rw[show w.k.aD+ -2=w.k.aD-2 by omega] at this;exact this
 have key:∀f:Nat->Nat->Nat,ψ (f x.k.gate.toNat (lo+1))=ψ (f x.k.gate.toNat (lo-1))->∀w∈r,w.k.aE=true->
   (ψ (f w.k.gate.toNat (w.k.aD.toNat-1))=(fun G k=>if G=x.k.gate.toNat then (if k<=lo-1 then ψ (f G k) else ψ (f G (k+2))) else ψ (f G k)) (hL w.k).gate.toNat ((hL w.k).aD.toNat-1))/\
   ψ (f w.k.gate.toNat w.k.aD.toNat)=(fun G k=>if G=x.k.gate.toNat then (if k<=lo-1 then ψ (f G k) else ψ (f G (k+2))) else ψ (f G k)) (hL w.k).gate.toNat (hL w.k).aD.toNat:=by
  intro f hf w hw pw;have Cm:(hL w.k).gate=w.k.gate:=JB _ _ _ _;have gw:=((sR pw).1 (q.ok w (inr w hw)).bad).1.1.1;have rw1:=(q.rr w (inr w hw) pw).1;rw[rk' w hw pw,Cm];by_cases uS:w.k.gate=x.k.gate
  .have ho:=oth w hw pw uS;simp only[uS,if_true,true_and];by_cases cr:(lo:Int)+1<w.k.aD
   .rw[if_pos cr];constructor
    .by_cases c3:(w.k.aD-2).toNat-1<=lo-1
     .rw[if_pos c3];have e3:w.k.aD.toNat-1=lo+1:=aa;have e4:(w.k.aD-2).toNat-1=lo-1:=aa;rw[e3,e4];exact hf
     rw[if_neg c3];congr 2;omega
    rw[if_neg aa];congr 2;omega
   rw[if_neg cr];constructor
   .rw[if_pos aa]
   rw[if_pos aa]
  have:¬(w.k.gate.toNat=x.k.gate.toNat):=aa;simp only[uS,false_and,if_false,if_neg this];exact⟨trivial,trivial⟩
 have keyg:∀f:Nat->Nat->Nat,ψ (f x.k.gate.toNat (lo+1))=ψ (f x.k.gate.toNat (lo-1))->∀k,
   ((fun G k=>if G=x.k.gate.toNat then (if k<=lo-1 then ψ (f G k) else ψ (f G (k+2))) else ψ (f G k)) k (cg (aM r) k)=ψ (f k (cg (aM (x::y::r)) k)))/\
   (fun G k=>if G=x.k.gate.toNat then (if k<=lo-1 then ψ (f G k) else ψ (f G (k+2))) else ψ (f G k)) k 0=ψ (f k 0):=by
  intro f hf k;rw[xx r k];by_cases ck:k=x.k.gate.toNat
  .subst ck;simp only[if_true];rw[if_pos (bG _)];refine⟨?_,rfl⟩;rw[xx r x.k.gate.toNat,if_pos rfl] at aaT;by_cases c3:cg (aM r) x.k.gate.toNat<=lo-1
   .rw[if_pos c3];have e3:cg (aM r) x.k.gate.toNat=lo-1:=aa;rw[e3,show lo-1+2=lo+1 by omega];exact hf.symm
   rw[if_neg c3]
  simp only[if_neg ck,yl];exact⟨trivial,trivial⟩
 have qn:Cq F ([]++r.map (aQ.mp ψ hL)) T' B':=by
  refine Cq.edit (X:=[x,y]) (r:=r) q (ES _ _ _) (fun w hw=>apU (q.ok w (inr w hw)).bad) (fun u hu v hv cu cv e=>?_) (fun u hu v hv pu pv e1 e2=>?_) (fun _ h=>by cases h) List.Pairwise.nil List.Pairwise.nil (fun _ h=>by cases h) (fun _ h=>by cases h) ?_ (fun _ h=>by cases h) (fun u hu cu=>?_) (fun _ h=>by cases h) (fun u hu pu=>?_) (fun _ h=>by cases h) (fun u hu pu=>?_) (fun k hk=>?_) ?_
  .rw[Qm,Qm] at e;exact e
  .have e1':u.k.gate=v.k.gate:=by rw[JB,JB] at e1;exact e1
   refine⟨e1',?_⟩;have e2:(hL u.k).aD=(hL v.k).aD:=e2;rw[rk' u hu pu,rk' v hv pv] at e2;by_cases uS:u.k.gate=x.k.gate
   .have o1:=oth u hu pu uS;have o2:=oth v hv pv (e1'▸uS);have cv:v.k.gate=x.k.gate:=e1'▸uS;simp only[uS,cv,true_and] at e2;split at e2<;>split at e2<;>omega
   have cv:¬v.k.gate=x.k.gate:=e1'▸uS;simp only[uS,cv,false_and,if_false] at e2;exact e2
  .rw[gD,mC,<- yQ r];exact q.ev
  .rw[gD,mC,Qm,<- yQ r];exact q.ids u (inr u hu) cu
  .rw[gD,JB,mG];show 1<=(hL u.k).aD/\(hL u.k).aD<=_;rw[rk' u hu pu];have h1:=q.rr u (inr u hu) pu;rw[xx r] at h1;have gu:=((sR pu).1 (q.ok u (inr u hu)).bad).1.1.1;by_cases uS:u.k.gate=x.k.gate
   .have o1:=oth u hu pu uS;rw[uS] at h1 ⊢;rw[if_pos rfl] at h1;rw[xx r,if_pos rfl] at aaT;simp only[true_and];split<;>omega
   simp only[uS,false_and,if_false];rw[if_neg aa] at h1;exact h1
  .obtain⟨t1,t2⟩:=key (TF ls) m2 u hu pu;obtain⟨b1,b2⟩:=key (BF ls) m3 u hu pu;exact⟨⟨t1,b1⟩,t2,b2⟩
  .rw[gD,mG];obtain⟨t1,t2⟩:=keyg (TF ls) m2 k;obtain⟨b1,b2⟩:=keyg (BF ls) m3 k;obtain⟨_,t3⟩:=keyg (TF ls) m2 (k+1);obtain⟨_,b3⟩:=keyg (BF ls) m3 (k+1);have:=q.gt k hk;exact⟨by rw[show T' k _=_ from t1,this.1];exact t3.symm,by rw[show B' k _=_ from b1,this.2];exact b3.symm⟩
  rw[gD,mG];obtain⟨t1,t2⟩:=keyg (TF ls) m2 F;obtain⟨b1,b2⟩:=keyg (BF ls) m3 F;obtain⟨_,t3⟩:=keyg (TF ls) m2 0;obtain⟨_,b3⟩:=keyg (BF ls) m3 0;have:=q.gz;exact⟨by rw[show T' F _=_ from t1,this.1];exact t3.symm,by rw[show B' F _=_ from b1,this.2];exact b3.symm⟩
 have LN:Cert F (r.map fun w=>rY x.k.gate (lo+1) (-2) w.p):=by
  refine Cq.done (X:=[x,y]) (r:=r) (X':=[]) (L:=[mc,x.o.l,x.o.r]) (N:=[]) (V:=l5 ls) (z':=r.map (aQ.mp ψ hL)) qn c.nd (fun t ht=>c.wit t ht) (List.Perm.refl _) ⟨s.mp ψ,?_⟩ ?_ ?_ (fun t _ ht=>Px fun e=>ht (by simp[e])) (fun w hw t ht ew Ab=>?_) wS (fun t ht=>by cases ht) (fun t ht=>by cases ht) (by rw[Dg];exact bN _) ?_
  .have:=PQ (ψ:=ψ) (h:=hL) tE;rwa[show y.o.mp ψ=s.mp ψ from m1] at this
  .rw[uM];refine Dh fun w _=>?_;rw[apW];rfl
  .refine⟨w0.mp ψ hL,?_,?_⟩
   .rw[gD];exact dQ.2 ⟨w0,uE,rfl⟩
   show(hL w0.k).aE=true;rw[(ES _ _ _).aE];exact pw0
  .obtain⟨v,hv,hvo⟩:=PO tE O2;simp only[cP,jz,or_false,not_or] at hw Ab;have key:t=s.l\/t=s.r:=by
    rcases hw with rfl|rfl
    .rcases ew with ew|ew
     .exact absurd ew Ab.2.1
     exact absurd ew Ab.2.2
    rcases m4 t ew with h|h
    .exact absurd h Ab.1
    exact h
   refine⟨v.mp ψ hL,by rw[gD];exact dQ.2 ⟨v,hv,rfl⟩,?_⟩;show t=ψ v.o.l\/t=ψ v.o.r;rw[hvo];have:ψ t=t:=Px Ab.1;rcases key with h|h
   .left;rw[<- h,this]
   right;rw[<- h,this]
  rw[gD,mC,mP];have h1:=g.nw;rw[yQ] at h2;rw[FU] at h3;simp only[ff,dh];omega
 obtain⟨u,v,k1,k2⟩:=acx (l:=pieces ls) (a:=a) (by rw[fW];exact ha) (by rw[fW];omega) (by rw[IK];rfl);rw[fW] at k1;show Cert F ((pz (pieces ls) fun k _=>decide (k=a)||decide (k=(a+1)%ls.length)).map (rY x.k.gate (wG x.k.aD y.k.aD) (-2)));rw[k1,sI,ll];refine Cert.kL ?_;rw[<- ll,<- k2,uM];exact LN
end
section
variable {F:Nat} {ls:List Let}
theorem RX(g:dF F ls){pl:Nat}{edges:List Nat}{e0:Nat}(he0:e0<ls.length)(h:tm F ls pl edges e0=true):∃w,w∈iJ (aV ls) (nD ls)/\(nv F ls w).places.length=pl/\((w.filter fun x=>decide (x<2*ls.length)).length=edges.length)/\ ∀e∈edges,∃d,d∈w/\d<2*ls.length/\d/2=e:=by
 have key:∀f∈eV F ls,DA f pl edges=true->∃w,w∈iJ (aV ls) (nD ls)/\(nv F ls w).places.length=pl/\((w.filter fun x=>decide (x<2*ls.length)).length=edges.length)/\ ∀e∈edges,∃d,d∈w/\d<2*ls.length/\d/2=e:=by intro f hf hc;obtain⟨w,hw,rfl⟩:=dQ.1 hf;unfold DA at hc;simp only[cX,beq_iff_eq,ko] at hc;obtain⟨h1,h2,h3⟩:=hc;rw[HY] at h1;refine⟨w,hw,h2,h1,fun e he=>?_⟩;have h4:=h3 e he;unfold yH at h4;obtain⟨d,hd,u5⟩:=Bs.1 (show 0<((nv F ls w).dp.countP fun d=>d/2==e) by omega);rw[HY] at hd;obtain⟨d1,d2⟩:=vG.1 hd;exact⟨d,d1,by simpa using d2,by simpa using u5⟩
 unfold tm at h;rw[Br] at h;rcases h with h|h
 .exact key _ (ZW aa) h
 exact key _ (ZW aa) h
theorem afB{D:List Nat}(h:D.length=2){x y:Nat}(hx:x∈D)(hy:y∈D)(aH:x≠y){z:Nat}(hz:z∈D):z=x\/z=y:=by
 match D,h with
 |[p,q],_=>simp only[cP,jz,or_false] at hx hy hz;omega
theorem adI{e:Nat}(he:e<ls.length){l:Let}(hl:ls[nx ls e]?=some l)(hc:l.aB=true):aV ls (2*e)=dJ ls.length (fN ls (nx ls e)) (gX l):=by
 have:2*e=jd ls.length (nx ls e) true:=by unfold jd nx;rw[if_pos rfl,EG he]
 rw[this,Bk hl hc];unfold gX;cases (l.over==(l.sign==1))<;>rfl
theorem adH{e:Nat}{l:Let}(hl:ls[e]?=some l)(hc:l.aB=true):aV ls (2*e+1)=dJ ls.length (fN ls e) (!gX l):=by have:2*e+1=jd ls.length e false:=rfl;rw[this,Bk hl hc];unfold gX;cases (l.over==(l.sign==1))<;>rfl
theorem wY{v:Nat}{b:Bool}{x:Nat}(h:dJ ls.length v b=x):(b=true/\x=2*v)\/(b=false/\x=2*((v+ls.length-1)%ls.length)+1):=by
 cases b
 .exact .inr ⟨rfl,h.symm⟩
 exact .inl ⟨rfl,h.symm⟩
theorem BI{v e:Nat}(hv:v<ls.length)(h:(v+ls.length-1)%ls.length=e):v=nx ls e:=by unfold nx;rw[<- h,wE hv]
theorem DI(ok:fj F ls){v u:Nat}{l m:Let}(hl:ls[v]?=some l)(hc:l.aB=true)(hm:ls[u]?=some m)(ho:fN ls v=u):gX m= !gX l/\m.aB=true/\m.id=l.id:=by obtain⟨_,w,hw,wc,wi,wo,ws⟩:=qS ok.cr hl hc;rw[ho,hm] at hw;cases hw;refine⟨?_,wc,wi⟩;unfold gX;rw[wo,ws];cases l.over<;>cases (l.sign==1)<;>rfl
theorem PI(ok:fj F ls){v:Nat}{l:Let}(hl:ls[v]?=some l)(hc:l.aB=true):fN ls v<ls.length:=by obtain⟨_,w,hw,_⟩:=qS ok.cr hl hc;exact(aW.1 hw).1
theorem an1(g:dF F ls){a b:Nat}(ha:a<ls.length)(hb:b<ls.length){lx ly lu lv:Let}(hx:ls[a]?=some lx)(hy:ls[nx ls a]?=some ly)(hu:ls[b]?=some lu)(hv:ls[nx ls b]?=some lv)
  (cx:lx.aB=true) (cy:ly.aB=true) (cu:lu.aB=true) (cv:lv.aB=true) (lf:lx.id≠ly.id) (Gj:lu.id≠lv.id) (iQ:a≠b) (h:tm F ls 0 [a,b] a=true):gX lx= !gX ly:=by
 have ok:=g.ok;obtain⟨w,hw,_,hlen,hE⟩:=RX g ha h;obtain⟨da,vQ,ug,yF⟩:=hE a af;obtain⟨db,xe,uU,yG⟩:=hE b af;have aH:da≠db:=aa;have inD:∀d,d∈w->d<2*ls.length->d∈w.filter fun x=>decide (x<2*ls.length):=fun d h1 h2=>vG.2 ⟨h1,by simpa using h2⟩;have two:∀d,d∈w->d<2*ls.length->d=da\/d=db:=fun d h1 h2=>afB hlen (inD da vQ ug) (inD db xe uU) aH (inD d h1 h2);have nin:∀d,d∈w->aV ls d∈w:=fun d hd=>EX (maps ok) hw hd;have str:∀(v:Nat) (b:Bool),v<ls.length->dJ ls.length v b<2*ls.length:=fun v b hv=>by have:=BC hv (!b);rw[<- CT] at this;have:=Bb this;rwa[Bc] at this
 have oy:=PI ok hy cy;have ox:=PI ok hx cx;have ou:=PI ok hu cu;have ov:=PI ok hv cv
 -- where the walk goes on
 have na:(da=2*a/\aV ls da=dJ ls.length (fN ls (nx ls a)) (gX ly))\/(da=2*a+1/\aV ls da=dJ ls.length (fN ls a) (!gX lx)):=by
  rcases ym da with c|c
  .have:da=2*a:=aa;exact .inl ⟨this,by rw[this];exact adI ha hy cy⟩
  have:da=2*a+1:=aa;exact .inr ⟨this,by rw[this];exact adH hx cx⟩
 have nb:(db=2*b/\aV ls db=dJ ls.length (fN ls (nx ls b)) (gX lv))\/(db=2*b+1/\aV ls db=dJ ls.length (fN ls b) (!gX lu)):=by
  rcases ym db with c|c
  .have:db=2*b:=aa;exact .inl ⟨this,by rw[this];exact adI hb hv cv⟩
  have:db=2*b+1:=aa;exact .inr ⟨this,by rw[this];exact adH hu cu⟩
 have ta:aV ls da=da\/aV ls da=db:=two _ (nin _ vQ) (by rcases na with ⟨_,e⟩|⟨_,e⟩<;>rw[e]<;>exact str _ _ (by assumption));have tb:aV ls db=da\/aV ls db=db:=two _ (nin _ xe) (by rcases nb with ⟨_,e⟩|⟨_,e⟩<;>rw[e]<;>exact str _ _ (by assumption));have ta':aV ls da=db:=by
  rcases ta with e|e
  .exfalso;rcases na with ⟨e1,e2⟩|⟨e1,e2⟩
   .rw[e] at e2;rcases wY e2.symm with ⟨_,e3⟩|⟨_,e3⟩
    .exact lf (DI ok hy cy hx aa).2.2
    omega
   rw[e] at e2;rcases wY e2.symm with ⟨_,e3⟩|⟨_,e3⟩
   .omega
   exact lf (DI ok hx cx hy (BI ox aa)).2.2.symm
  exact e
 have tb':aV ls db=da:=by
  rcases tb with e|e
  .exact e
  exfalso;rcases nb with ⟨e1,e2⟩|⟨e1,e2⟩
  .rw[e] at e2;rcases wY e2.symm with ⟨_,e3⟩|⟨_,e3⟩
   .exact Gj (DI ok hv cv hu aa).2.2
   omega
  rw[e] at e2;rcases wY e2.symm with ⟨_,e3⟩|⟨_,e3⟩
  .omega
  exact Gj (DI ok hu cu hv (BI ou aa)).2.2.symm
 rcases na with ⟨ea,e1⟩|⟨ea,e1⟩<;>rcases nb with ⟨eb,e2⟩|⟨eb,e2⟩<;>rw[ta'] at e1<;>rw[tb'] at e2
 .rcases wY e1.symm with ⟨g1,e3⟩|⟨g1,e3⟩<;>rcases wY e2.symm with ⟨g2,e4⟩|⟨g2,e4⟩<;>try omega
  have:=(DI ok hv cv hx aa).1;rw[this,g1,g2]
 .rcases wY e1.symm with ⟨g1,e3⟩|⟨g1,e3⟩<;>rcases wY e2.symm with ⟨g2,e4⟩|⟨g2,e4⟩<;>try omega
  have:=(DI ok hu cu hx aa).1;rw[this,g1,g2];rfl
 .rcases wY e1.symm with ⟨g1,e3⟩|⟨g1,e3⟩<;>rcases wY e2.symm with ⟨g2,e4⟩|⟨g2,e4⟩<;>try omega
  have:=(DI ok hv cv hy (BI ov aa)).1;rw[this,g2];revert g1;cases gX lx<;>simp
 rcases wY e1.symm with ⟨g1,e3⟩|⟨g1,e3⟩<;>rcases wY e2.symm with ⟨g2,e4⟩|⟨g2,e4⟩<;>try omega
 have:=(DI ok hu cu hy (BI ou aa)).1;rw[this];revert g1 g2;cases gX lx<;>cases gX lu<;>simp
theorem QA{x p w:aQ}(h1:Xr x p)(h2:Xr x w)(h3:Xr p w)(cx:x.k.aB=true)(cp:p.k.aB=true)(cw:w.k.aB=true)(e1:x.k.id=p.k.id):w.k.id≠x.k.id:=by intro e2;have a:=(h1 cx cp e1).ov;have b:=(h2 cx cw e2.symm).ov;have d:=(h3 cp cw (by rw[<- e1,e2])).ov;rw[b] at a;rw[d] at a;revert a;cases w.k.over<;>simp
theorem aey{α:Type}{z:List α}{a j:Nat}(ha:a<z.length)(hj:j<z.length):(z.drop a++z.take a)[j]?=z[(a+j)%z.length]? :=by
 by_cases h:a+j<z.length
 .rw[De (by rw[kO];omega),Bu,jA h]
 rw[Bt (by rw[kO];omega),kO,mW,if_pos aa,Nat.mod_eq_sub_mod aa,jA aa];congr 1;omega
theorem aq3{α:Type}{r:List α}{j:Nat}{u v:α}(hu:r[j]?=some u)(hv:r[j+1]?=some v):r=r.take j++u::v::r.drop (j+2):=by
 obtain⟨h1,e1⟩:=aW.1 hu;obtain⟨h2,e2⟩:=aW.1 hv;have:r.drop j=u::v::r.drop (j+2):=by rw[<- r5 h1,e1,<- r5 h2,e2]
 rw[<- this,mX]
end
theorem Vu{p q w:Int}{l:Let}(hc:l.aB=true)(hw:l.id=w):(ib [p,q] l).id=w-(if p<w then 1 else 0)-(if q<w then 1 else 0):=by rw[ac0 hc,hw];by_cases c1:p<w<;>by_cases c2:q<w<;>simp[c1,c2]<;>omega
section
variable {F:Nat} {ls:List Let}
theorem ahI(g:dF F ls){a b:Nat}(ha:a<ls.length)(hb:b<ls.length){L:List Pc}(h:A1 F ls a b=some L):Cert F L:=by
 obtain⟨x,y,r0,s,e,hx,hy,c,hp,IK,hzx,hzy,nE⟩:=WC g ha;have q:=c.q;have mr:=Bo ls;unfold A1 at h;split at h
 case isFalse=>cases h
 rename_i hc;simp only[cX,Br,beq_iff_eq,pL,beq_eq_false_iff_ne] at hc;obtain⟨hbo,aH,aa1,iH,ve,Iw⟩:=hc;have pa:pA ls a=x.p:=kh hx;have pb:pA ls (nx ls a)=y.p:=kh hy;cases h;have hnb:nx ls b<ls.length:=eH _ aa;have hna:nx ls a<ls.length:=eH _ aa;obtain⟨u,IX⟩:=aL (ls:=zF ls) (k:=b) aa;obtain⟨v,Mz⟩:=aL (ls:=zF ls) (k:=nx ls b) aa;have pc:pA ls b=u.p:=kh (by rw[<- GZ,fZ,IX];rfl);have pd:pA ls (nx ls b)=v.p:=kh (by rw[<- GZ,fZ,Mz];rfl);rw[pa,pb] at aH;rw[pa,pb,pc,pd] at aa1
 -- they are visits, two over and two under
 have kinds:x.k.aB=true/\y.k.aB=true/\u.k.aB=true/\v.k.aB=true/\x.k.over=y.k.over/\u.k.over=v.k.over/\x.k.over≠u.k.over:=by
  have bo:∀e ov,kV ls e ov=true->(pA ls e).l.aB=true/\(pA ls (nx ls e)).l.aB=true/\(pA ls e).l.over=ov/\(pA ls (nx ls e)).l.over=ov:=fun e ov h=>by unfold kV at h;simp only[cX,beq_iff_eq] at h;obtain⟨h1,h2,h3,h4⟩:=h;exact⟨by unfold Let.aB;rw[h1];rfl,by unfold Let.aB;rw[h2];rfl,h3,h4⟩
  rcases hbo with ⟨h1,h2⟩|⟨h1,h2⟩<;>obtain⟨a1,a2,a3,a4⟩:=bo _ _ h1<;>obtain⟨b1,b2,b3,b4⟩:=bo _ _ h2
  all_goals
   rw[pa] at a1 a3;rw[pb] at a2 a4;rw[pc] at b1 b3;rw[pd] at b2 b4;refine⟨a1,a2,b1,b2,?_,?_,?_⟩
   .show x.p.l.over=y.p.l.over;rw[a3,a4]
   .show u.p.l.over=v.p.l.over;rw[b3,b4]
   show x.p.l.over≠u.p.l.over;rw[a3,b3];decide
 obtain⟨cx,cy,cu,cv,ov1,ov2,ov3⟩:=kinds;have lf:x.k.id≠y.k.id:=aH;have L1:(u.k.id=x.k.id/\v.k.id=y.k.id)\/(u.k.id=y.k.id/\v.k.id=x.k.id):=aa1;have Gj:u.k.id≠v.k.id:=by
  rcases L1 with ⟨h1,h2⟩|⟨h1,h2⟩
  .rw[h1,h2];exact lf
  rw[h1,h2];exact lf.symm
 have iQ:a≠b:=by
  rintro rfl
  rw[hzx] at IX;cases IX;exact ov3 rfl
 have lx:ls[a]?=some x.k:=by have:=AU hzx;rwa[jL] at this
 have ly:ls[nx ls a]?=some y.k:=by have:=AU hzy;rwa[jL] at this
 have lu:ls[b]?=some u.k:=by have:=AU IX;rwa[jL] at this
 have lv:ls[nx ls b]?=some v.k:=by have:=AU Mz;rwa[jL] at this
 have hg:=an1 g ha hb lx ly lu lv cx cy cu cv lf Gj iQ Iw
 -- where the second edge stands, from the first one on
 obtain⟨j,hj1,mM,Ai⟩:∃j,j+3<ls.length/\(a+(j+2))%ls.length=b/\(a+(j+3))%ls.length=nx ls b:=by
  have OV:nx ls a≠b:=by intro e;rw[e,IX] at hzy;cases hzy;exact ov3 ov1
  have UL:nx ls b≠a:=by intro e;rw[e,hzx] at Mz;cases Mz;exact ov3 ov2.symm
  unfold nx at OV UL ⊢;by_cases c1:a<b
  .have e1:(a+1)%ls.length=a+1:=jA aa;rw[e1] at OV;have h2:b≠a+1:=fun h=>OV h.symm;have h3:¬(b+1=ls.length/\a=0):=fun⟨h3,h4⟩=>UL (by rw[h3,Dj,h4]);refine⟨b-a-2,aa,?_,?_⟩
   .rw[show a+(b-a-2+2)=b by omega,jA hb]
   rw[show a+(b-a-2+3)=b+1 by omega]
  have e1:(b+1)%ls.length=b+1:=jA aa;rw[e1] at UL;have h3:¬(a+1=ls.length/\b=0):=fun⟨h3,h4⟩=>OV (by rw[h3,Dj,h4]);refine⟨b+ls.length-a-2,aa,?_,?_⟩
  .rw[show a+(b+ls.length-a-2+2)=b+ls.length by omega,yj,jA hb]
  rw[show a+(b+ls.length-a-2+3)=b+1+ls.length by omega,yj]
 have hru:r0[j]?=some u:=by have:=aey (z:=zF ls) (a:=a) (j:=j+2) aa aa;rw[e,mr,mM,IX] at this;exact this
 have IL:r0[j+1]?=some v:=by have:=aey (z:=zF ls) (a:=a) (j:=j+3) aa aa;rw[e,mr,Ai,Mz] at this;exact this
 have nY:=aq3 hru IL;obtain⟨c1,c2,uC,akx,LF⟩:∃c1 c2,r0=c1++u::v::c2/\c1.length=j/\c2.length+j+4=ls.length:=by
  refine⟨_,_,nY,?_,?_⟩
  .have:=(aW.1 hru).1;rw[iu];omega
  have h1:=(aW.1 IL).1;have h2:=nE.length_eq;rw[mr] at h2;simp only[dh] at h2;rw[kO];omega
 subst uC
 -- the two paths that are left
 obtain⟨ji,eG,tE⟩:=hp;obtain⟨s2,sL,zc,xN,nC⟩:=M1.1 tE;have hj0:j≠0:=by
  rintro rfl
  exact iH mM
 have hj9:c2≠[]:=by
  rintro rfl
  simp only[ff] at LF;refine ve ?_;rw[<- mM,Nat.mod_add_mod,show a+(j+2)+2=a+ls.length by omega,yj,jA ha]
 have fG:c1≠[]:=by rintro rfl;simp at akx;omega
 have q4:Cq F ([x,y,u,v]++(c1++c2)) (TF ls) (BF ls):=by refine q.perm ?_;refine List.Perm.cons x (List.Perm.cons y ?_);exact List.perm_middle.trans (List.Perm.cons u List.perm_middle)
 obtain⟨w1,q5⟩:=ua.1 q4.cr;obtain⟨w2,q6⟩:=ua.1 q5;obtain⟨w3,q7⟩:=ua.1 q6;obtain⟨w4,q8⟩:=ua.1 q7;have rxu:Xr x u:=w1 u af;have rxv:Xr x v:=w1 v af;have ryu:Xr y u:=w2 u af;have ryv:Xr y v:=w2 v af;have QB:∀w∈c1++c2,w.k.aB=true->w.k.id≠x.k.id/\w.k.id≠y.k.id:=fun w hw cw=>by
  have a1:Xr x w:=w1 w (Hc [y,u,v] hw);have a2:Xr y w:=w2 w (Hc [u,v] hw);have a3:Xr u w:=w3 w (Hc [v] hw);have a4:Xr v w:=w4 w hw;rcases L1 with ⟨h1,h2⟩|⟨h1,h2⟩
  .exact⟨QA rxu a1 a3 cx cu cw h1.symm,QA ryv a2 a4 cy cv cw h2.symm⟩
  exact⟨QA rxv a1 a4 cx cv cw h2.symm,QA ryu a2 a3 cy cu cw h1.symm⟩
 have bx:=(q4.ok x af).cb cx;have kW:=(q4.ok y af).cb cy;have bu:=(q4.ok u af).cb cu;have bv:=(q4.ok v af).cb cv;rw[ji] at bx;rw[eG] at kW;rw[xN] at bv
 -- which names are merged, and which are lost
 obtain⟨mc,me,bg,m1,m2,m3⟩:∃mc me bg:Nat,y.o.mp (jw mc me)=s.mp (jw mc me)/\v.o.mp (jw mc me)=s2.mp (jw mc me)/\
   (∀t,(t=x.o.l\/t=x.o.r)\/(t=y.o.l\/t=y.o.r)\/(t=u.o.l\/t=u.o.r)\/(t=v.o.l\/t=v.o.r)->t=mc\/t=bg\/(t=s.l\/t=s.r)\/(t=s2.l\/t=s2.r)):=by
  have cD:y.o.b=s.b:=by rw[<- kW,<- bx]
  have bj:v.o.b=s2.b:=by rw[<- bv,<- bu,zc]
  have fin:∀mc me,jw mc me y.o.l=jw mc me s.l->jw mc me y.o.r=jw mc me s.r->jw mc me v.o.l=jw mc me s2.l->jw mc me v.o.r=jw mc me s2.r->y.o.mp (jw mc me)=s.mp (jw mc me)/\v.o.mp (jw mc me)=s2.mp (jw mc me):=fun mc me k1 k2 k3 k4=>⟨dV.ext' k1 k2 cD,dV.ext' k3 k4 bj⟩;rcases L1 with ⟨h1,h2⟩|⟨h1,h2⟩
  .have p1:=(rxu cx cu h1.symm).x4;have p2:=(ryv cy cv h2.symm).x4;rw[ji,zc] at p1;rw[eG,xN] at p2;obtain⟨a1,a2,a3,a4⟩:=p1;obtain⟨b1,b2,b3,b4⟩:=p2;cases yW:gX x.k
   .have xG:gX y.k=true:=by revert hg;rw[yW];cases gX y.k<;>simp
    rw[yW] at a1 a2 a3 a4;rw[xG] at b1 b2 b3 b4;simp only[dL,if_false,if_true] at a1 a2 a3 a4 b1 b2 b3 b4;refine⟨y.o.l,s.l,x.o.r,?_⟩;have f:=fin y.o.l s.l (by rw[tO,tP]) (by rw[b2,a4]) (by rw[<- b1,a3]) (by rw[b4,<- a1,tO,tP]);refine⟨f.1,f.2,?_⟩;rintro t ((rfl|rfl)|(rfl|rfl)|(rfl|rfl)|(rfl|rfl))
    .exact .inr (.inr (.inr (.inl a3.symm)))
    .exact .inr (.inl rfl)
    .exact .inl rfl
    .exact .inr (.inr (.inl (.inr (b2.trans a4))))
    .exact .inr (.inl a2.symm)
    .exact .inr (.inr (.inl (.inr a4)))
    .exact .inr (.inr (.inr (.inl (by rw[<- b1,a3]))))
    exact .inl b4
   have xG:gX y.k=false:=by revert hg;rw[yW];cases gX y.k<;>simp
   rw[yW] at a1 a2 a3 a4;rw[xG] at b1 b2 b3 b4;simp only[dL,if_false,if_true] at a1 a2 a3 a4 b1 b2 b3 b4;refine⟨y.o.r,s.r,x.o.l,?_⟩;have f:=fin y.o.r s.r (by rw[<- b3,a1]) (by rw[tO,tP]) (by rw[a3,<- b2,tO,tP]) (by rw[b4,a2]);refine⟨f.1,f.2,?_⟩;rintro t ((rfl|rfl)|(rfl|rfl)|(rfl|rfl)|(rfl|rfl))
   .exact .inr (.inl rfl)
   .exact .inr (.inr (.inr (.inr a2)))
   .exact .inr (.inr (.inl (.inl (by rw[<- b3,a1]))))
   .exact .inl rfl
   .exact .inr (.inr (.inl (.inl a1.symm)))
   .exact .inr (.inl a4)
   .exact .inl b2.symm
   exact .inr (.inr (.inr (.inr (b4.trans a2))))
  have p1:=(rxv cx cv h2.symm).x4;have p2:=(ryu cy cu h1.symm).x4;rw[ji,xN] at p1;rw[eG,zc] at p2;obtain⟨a1,a2,a3,a4⟩:=p1;obtain⟨b1,b2,b3,b4⟩:=p2;cases yW:gX x.k
  .have xG:gX y.k=true:=by revert hg;rw[yW];cases gX y.k<;>simp
   rw[yW] at a1 a2 a3 a4;rw[xG] at b1 b2 b3 b4;simp only[dL,if_false,if_true] at a1 a2 a3 a4 b1 b2 b3 b4;refine⟨y.o.r,s.r,x.o.l,?_⟩;have f:=fin y.o.r s.r (by rw[a1,<- b4]) (by rw[tO,tP]) (by rw[<- a2,b3]) (by rw[a4,<- b2,tO,tP]);refine⟨f.1,f.2,?_⟩;rintro t ((rfl|rfl)|(rfl|rfl)|(rfl|rfl)|(rfl|rfl))
   .exact .inr (.inl rfl)
   .exact .inr (.inr (.inr (.inl b3.symm)))
   .exact .inr (.inr (.inl (.inl (by rw[a1,<- b4]))))
   .exact .inl rfl
   .exact .inr (.inl b1.symm)
   .exact .inr (.inr (.inl (.inl (by rw[a1]))))
   .exact .inr (.inr (.inr (.inl (by rw[<- a2,b3]))))
   exact .inr (.inr (.inl (.inr a4)))
  have xG:gX y.k=false:=by revert hg;rw[yW];cases gX y.k<;>simp
  rw[yW] at a1 a2 a3 a4;rw[xG] at b1 b2 b3 b4;simp only[dL,if_false,if_true] at a1 a2 a3 a4 b1 b2 b3 b4;refine⟨y.o.l,s.l,x.o.r,?_⟩;have f:=fin y.o.l s.l (by rw[tO,tP]) (by rw[b2,a3]) (by rw[<- a1,b3,tO,tP]) (by rw[a4,b1]);refine⟨f.1,f.2,?_⟩;rintro t ((rfl|rfl)|(rfl|rfl)|(rfl|rfl)|(rfl|rfl))
  .exact .inr (.inr (.inr (.inr b1)))
  .exact .inr (.inl rfl)
  .exact .inl rfl
  .exact .inr (.inr (.inl (.inr (by rw[b2,a3]))))
  .exact .inr (.inr (.inl (.inr a3)))
  .exact .inr (.inl b4)
  .exact .inr (.inr (.inl (.inl a1.symm)))
  exact .inr (.inr (.inr (.inr (a4.trans b1))))
 have yQ:∀z:List aQ,aw Let.aB (aM ([x,y,u,v]++z))=aw Let.aB (aM z)+4:=fun z=>by rw[Rs,lT,lT,lT,lT,Ru,(xO cx).1,(xO cy).1,(xO cu).1,(xO cv).1];omega
 have FU:∀z:List aQ,aw Let.aE (aM ([x,y,u,v]++z))=aw Let.aE (aM z):=fun z=>by rw[Rs,lT,lT,lT,lT,Ru,(xO cx).2,(xO cy).2,(xO cu).2,(xO cv).2];omega
 have xx:∀(z:List aQ) k,cg (aM ([x,y,u,v]++z)) k=cg (aM z) k:=fun z k=>by show aw _ _=aw _ _;rw[Rs,lT,lT,lT,lT,Ru,Hu k cx,Hu k cy,Hu k cu,Hu k cv];simp
 have hP4:([x,y,u,v]++(c1++c2)).Perm (zF ls):=by refine List.Perm.trans (List.Perm.symm ?_) nE;refine List.Perm.cons x (List.Perm.cons y ?_);exact List.perm_middle.trans (List.Perm.cons u List.perm_middle)
 have h2:aw Let.aB (aM ([x,y,u,v]++(c1++c2)))=aw Let.aB ls:=by rw[BQ hP4,jL]
 have h3:aw Let.aE (aM ([x,y,u,v]++(c1++c2)))=aw Let.aE ls:=by rw[BQ hP4,jL]
 have dY:=q4.ev
 let ψ:=jw mc me
 let hL:=ib [x.k.id,y.k.id]
 let r:=c1++c2
 have mC:aw Let.aB (aM (r.map (aQ.mp ψ hL)))=aw Let.aB (aM r):=BP (fun l=>(AT _).aB l) r;have mP:aw Let.aE (aM (r.map (aQ.mp ψ hL)))=aw Let.aE (aM r):=BP (fun l=>(AT _).aE l) r;have mG:∀k,cg (aM (r.map (aQ.mp ψ hL))) k=cg (aM r) k:=fun k=>BP (fun l=>acY _ k l) r;have ID:∀w∈[x,y,u,v]++r,w.k.aB=true->1<=w.k.id/\w.k.id<=((aw Let.aB (aM r)/2:Nat):Int)+2:=fun w hw hc=>by have:=q4.ids w hw hc;rw[yQ] at this;show 1<=w.k.id/\w.k.id<=((aw Let.aB (aM (c1++c2))/2:Nat):Int)+2;omega
 have idx:=ID x af cx;have idy:=ID y af cy;have inr:∀w∈r,w∈[x,y,u,v]++r:=fun w hw=>Hc _ hw;have qn:Cq F ([]++r.map (aQ.mp ψ hL)) (fun G k=>ψ (TF ls G k)) (fun G k=>ψ (BF ls G k)):=by
  refine Cq.edit (X:=[x,y,u,v]) (r:=r) q4 (AT _) (fun w hw=>acZ (q4.ok w (inr w hw)).bad) (fun p hp o ho cp co e=>?_) (fun p hp o ho pp po e1 e2=>?_) (fun _ h=>by cases h) List.Pairwise.nil List.Pairwise.nil (fun _ h=>by cases h) (fun _ h=>by cases h) ?_ (fun _ h=>by cases h) (fun p hp cp=>?_) (fun _ h=>by cases h) (fun p hp pp=>?_) (fun _ h=>by cases h) (fun p hp pp=>?_) (fun k hk=>?_) ?_
  .obtain⟨n1,n2⟩:=QB p hp cp;obtain⟨n3,n4⟩:=QB o ho co;rw[Vu cp rfl,Vu co rfl] at e;split at e<;>split at e<;>split at e<;>split at e<;>omega
  .have e1:(ib [x.k.id,y.k.id] p.k).gate=(ib [x.k.id,y.k.id] o.k).gate:=e1;have e2:(ib [x.k.id,y.k.id] p.k).aD=(ib [x.k.id,y.k.id] o.k).aD:=e2;rw[AS pp,AS po] at e1 e2;exact⟨e1,e2⟩
  .rw[gD,mC];rw[yQ] at dY;show aw Let.aB (aM (c1++c2))%2=0;omega
  .rw[gD,mC];show 1<=(ib [x.k.id,y.k.id] p.k).id/\(ib [x.k.id,y.k.id] p.k).id<=_;rw[Vu cp rfl];have h1:=ID p (inr p hp) cp;obtain⟨n1,n2⟩:=QB p hp cp;have hxy':=lf;split<;>split<;>omega
  .rw[gD,mG];show 1<=(ib [x.k.id,y.k.id] p.k).aD/\(ib [x.k.id,y.k.id] p.k).aD<=((cg (aM r) (ib [x.k.id,y.k.id] p.k).gate.toNat:Nat):Int);rw[AS pp,<- xx r];exact q4.rr p (inr p hp) pp
  .show(ψ _=ψ (TF ls (ib [x.k.id,y.k.id] p.k).gate.toNat ((ib [x.k.id,y.k.id] p.k).aD.toNat-1))/\ψ _=ψ (BF ls (ib [x.k.id,y.k.id] p.k).gate.toNat ((ib [x.k.id,y.k.id] p.k).aD.toNat-1)))/\ψ _=ψ (TF ls (ib [x.k.id,y.k.id] p.k).gate.toNat (ib [x.k.id,y.k.id] p.k).aD.toNat)/\ψ _=ψ (BF ls (ib [x.k.id,y.k.id] p.k).gate.toNat (ib [x.k.id,y.k.id] p.k).aD.toNat);rw[AS pp];exact⟨⟨rfl,rfl⟩,rfl,rfl⟩
  .rw[gD,mG,<- xx r];obtain⟨t1,t2⟩:=q4.gt k hk;exact⟨congrArg ψ t1,congrArg ψ t2⟩
  rw[gD,mG,<- xx r];obtain⟨t1,t2⟩:=q4.gz;exact⟨congrArg ψ t1,congrArg ψ t2⟩
 have LN:Cert F (r.map fun w=>rR [x.k.id,y.k.id] w.p):=by
  refine Cq.done (X:=[x,y,u,v]) (r:=r) (X':=[]) (L:=[mc,bg]) (N:=[]) (V:=l5 ls) (z':=r.map (aQ.mp ψ hL)) qn E6 (fun t ht=>?_) (List.Perm.refl _) ⟨s.mp ψ,?_⟩ ?_ ?_ (fun t _ ht=>Px fun e=>ht (by simp[e])) (fun w hw t ht ew Ab=>?_) wS (fun t ht=>by cases ht) (fun t ht=>by cases ht) (by rw[Dg];exact bN _) ?_
  .obtain⟨w,hw,ew⟩:=c.wit t ht;refine⟨w,?_,ew⟩;have:w∈zF ls:=nE.mem_iff.1 hw;exact hP4.mem_iff.2 this
  .have e1:=PQ (ψ:=ψ) (h:=hL) sL;have e2:=PQ (ψ:=ψ) (h:=hL) nC;rw[show y.o.mp ψ=s.mp ψ from m1] at e1;rw[show v.o.mp ψ=s2.mp ψ from m2] at e2;show j5 (s.mp ψ) ((c1++c2).map (aQ.mp ψ hL)) (s.mp ψ);rw[ll];exact M1.2 ⟨_,e1,e2⟩
  .rw[uM];refine Dh fun w _=>?_;rw[ac2];rfl
  .obtain⟨w,hw,qj⟩:=c.one;have hw':w∈[x,y,u,v]++r:=hP4.mem_iff.2 (nE.mem_iff.1 hw);rcases fg.1 hw' with h|h
   .exfalso;simp only[cP,jz,or_false] at h;rcases h with rfl|rfl|rfl|rfl
    .rw[mQ cx] at qj;cases qj
    .rw[mQ cy] at qj;cases qj
    .rw[mQ cu] at qj;cases qj
    rw[mQ cv] at qj;cases qj
   refine⟨w.mp ψ hL,by rw[gD];exact dQ.2 ⟨w,h,rfl⟩,?_⟩;show(ib [x.k.id,y.k.id] w.k).aE=true;rw[(AT _).aE];exact qj
  .simp only[cP,jz,or_false,not_or] at hw Ab;have key:=m3 t (by
    rcases hw with rfl|rfl|rfl|rfl
    .exact .inl ew
    .exact .inr (.inl ew)
    .exact .inr (.inr (.inl ew))
    exact .inr (.inr (.inr ew)))
   have hψ:ψ t=t:=Px Ab.1;have put:∀d∈r,(t=d.o.l\/t=d.o.r)->∃y'∈[]++r.map (aQ.mp ψ hL),t=y'.o.l\/t=y'.o.r:=fun d hd h=>by
    refine⟨d.mp ψ hL,by rw[gD];exact dQ.2 ⟨d,hd,rfl⟩,?_⟩;rcases h with h|h
    .left;show t=ψ d.o.l;rw[<- h,hψ]
    right;show t=ψ d.o.r;rw[<- h,hψ]
   rcases key with h|h|h|h
   .exact absurd h Ab.1
   .exact absurd h Ab.2
   .obtain⟨d,hd,ed⟩:=PO nC hj9;exact put d (Hc _ hd) (by rw[ed];exact h)
   obtain⟨d,hd,ed⟩:=PO sL fG;exact put d (List.mem_append_left _ hd) (by rw[ed];exact h)
  rw[gD,mC,mP];have h1:=g.nw;rw[yQ] at h2;rw[FU] at h3;show aw Let.aE (aM (c1++c2))+aw Let.aB (aM (c1++c2))/2+1+2<=_;simp only[ff];omega
 rw[pa,pb];show Cert F ((pz (pieces ls) (uh [x.k.id,y.k.id])).map (rR [x.k.id,y.k.id]));rw[acw (l:=pieces ls) (drop:=uh [x.k.id,y.k.id]) (d:=fun p=>(p.l.kind==2)&&[x.k.id,y.k.id].contains p.l.id) fun _ _=>rfl];refine Yy (a:=a) ?_;rw[IK];have hkx:(x.p.l.kind==2)=true:=cx;have hky:(y.p.l.kind==2)=true:=cy;have hku:(u.p.l.kind==2)=true:=cu;have hkv:(v.p.l.kind==2)=true:=cv;have akP:∀d∈r,(fun p:Pc=> !((p.l.kind==2)&&[x.k.id,y.k.id].contains p.l.id)) d.p=true:=fun d hd=>by
  show(!((d.p.l.kind==2)&&_))=true;cases hk:(d.p.l.kind==2)
  .rfl
  obtain⟨n1,n2⟩:=QB d hd hk;simp[n1,n2]
 have OO:∀(d:aQ) (t:List Pc),(d.p.l.kind==2)=true->(d.k.id=x.k.id\/d.k.id=y.k.id)->(d.p::t).filter (fun p=> !((p.l.kind==2)&&[x.k.id,y.k.id].contains p.l.id))=t.filter (fun p=> !((p.l.kind==2)&&[x.k.id,y.k.id].contains p.l.id)):=fun d t hd h=>by
  refine List.filter_cons_of_neg ?_;rcases h with h|h
  .have h:d.p.l.id=x.k.id:=h;simp[h,hd]
  have h:d.p.l.id=y.k.id:=h;simp[h,hd]
 have hf:((x::y::(c1++u::v::c2)).map aQ.p).filter (fun p=> !((p.l.kind==2)&&[x.k.id,y.k.id].contains p.l.id))=r.map aQ.p:=by
  rw[dS,dS,OO x _ hkx (.inl rfl),OO y _ hky (.inr rfl),ll,List.filter_append,dS,dS,
   OO u _ hku (L1.imp (fun h=>h.1) fun h=>h.1),OO v _ hkv (L1.symm.imp (fun h=>h.2) fun h=>h.2)]
  rw[<- List.filter_append,<- ll];refine filter_all fun p hp=>?_;obtain⟨d,hd,rfl⟩:=dQ.1 hp;exact akP d hd
 rw[hf,uM];exact LN
end
theorem aq2{α:Type}{z:List α}{a:Nat}{x:α}(h:z[a]?=some x):z=z.take a++x::z.drop (a+1):=by
 obtain⟨hl,e⟩:=aW.1 h;have:z.drop a=x::z.drop (a+1):=by rw[<- e,r5]
 rw[<- this,mX]
section
variable {F:Nat} {ls:List Let}
end
section
variable {F:Nat} {ls:List Let}
end
end Go.Abs
