/- A part. -/
import Derived.Test.YtfhejdojdajpmaaGreatDoorUa
import Derived.Test.YtfhejdojdajpmaaGreatDoorWw
set_option linter.all false
set_option maxHeartbeats 16000000
namespace Go.Abs
def iE(c e a:Nat):Nat:=if a=c then e else a
theorem sv(c e:Nat):iE c e c=e:=aE rfl
theorem sA(c e:Nat):iE c e e=e:=by unfold iE;split<;>rfl
theorem N8{c e a:Nat}(h:a≠c):iE c e a=a:=aD h
def sF(g ab dZ:Int)(l:Let):Let:=if (l.kind==1)&&((l.gate==g)&&decide (ab<l.aw)) then {l with aw:=l.aw+dZ} else l
theorem apA(g ab dZ:Int)(p:Pc):qe g ab dZ p=⟨sF g ab dZ p.l,p.d⟩:=by unfold qe sF;split<;>rfl
theorem Du(g ab dZ:Int):yI (sF g ab dZ):=by refine⟨fun l=>?_,fun l=>?_,fun l=>?_⟩<;>unfold sF<;>split<;>rfl
theorem Ie(g ab dZ:Int)(l:Let):(sF g ab dZ l).gate=l.gate:=by unfold sF;split<;>rfl
theorem OR(g ab dZ:Int)(l:Let):(sF g ab dZ l).id=l.id:=by unfold sF;split<;>rfl
theorem apw{g ab dZ:Int}{l:Let}(h:l.aB=true):sF g ab dZ l=l:=by unfold sF;have:=lK h;unfold Let.aG at this;rw[this];simp
theorem apx(g ab dZ:Int)(k:Nat)(l:Let):n0 k (sF g ab dZ l)=n0 k l:=by unfold n0;rw[(Du g ab dZ).aG,Ie]
theorem apz{g ab dZ:Int}{l:Let}(h:l.aG=true):(sF g ab dZ l).aw=if l.gate=g/\ab<l.aw then l.aw+dZ else l.aw:=by
 unfold sF;unfold Let.aG at h;rw[h];by_cases c:l.gate=g/\ab<l.aw
 .rw[aE c,aE (by simp[c.1,c.2])]
 rw[aD c,aD (by simpa using c)]
theorem apy{F:Nat}{g ab dZ:Int}{l:Let}(h:dr F l=false):dr F (sF g ab dZ l)=false:=by
 rcases Am h with hp|hc
 .have gU:(sF g ab dZ l).aG=true:=by rw[(Du g ab dZ).aG];exact hp
  rw[sB hp] at h;rw[sB gU,Ie,OR,(Du g ab dZ).sign,(Du g ab dZ).over];exact h
 rw[apw hc];exact h
theorem Uk{l:List Pc}{drop:Nat->Pc->Bool}:∀d j,j+d<=l.length->(∀i p,j<=i->i<j+d->drop i p=false)->rl l drop (j+d)=rl l drop j++(l.drop j).take d:=by
 intro d
 induction d with
 |zero=>intro j _ _;simp
 |succ d ih=>intro j hj h;obtain⟨p,hp⟩:=aN (ls:=l) (k:=j+d) aa;rw[show j+(d+1)=(j+d)+1 by omega,HB hp (h _ _ aa aa),ih j aa fun i p h1 h2=>h i p h1 aa,iw,wZ,hp,wY];rfl
theorem acd{l:List Pc}{a:Nat}(ha:a<l.length)(h2:2<=l.length){p q:Pc}{r:List Pc}(e:l.drop a++l.take a=p::q::r):∃u v,(jQ l fun k _=>decide (k=a)||decide (k=(a+1)%l.length))=u++v/\r=v++u:=by
 have Kj:∀i (p:Pc),i≠a->i≠(a+1)%l.length->(fun(k:Nat) (_:Pc)=>decide (k=a)||decide (k=(a+1)%l.length)) i p=false:=fun i p h1 h2=>by simp[h1,h2]
 have yU:∀i (p:Pc),i=a\/i=(a+1)%l.length->(fun(k:Nat) (_:Pc)=>decide (k=a)||decide (k=(a+1)%l.length)) i p=true:=fun i p h=>by simpa using h
 obtain⟨x,hx⟩:=aN ha;by_cases c:a+1<l.length
 .obtain⟨y,hy⟩:=aN c;have hm:(a+1)%l.length=a+1:=gV c;rw[hm] at Kj yU ⊢;have k0:=Uk (l:=l) (drop:=fun k _=>decide (k=a)||decide (k=a+1)) a 0 aa fun i p _ h=>Kj i p aa aa;have k1:=zn (drop:=fun k _=>decide (k=a)||decide (k=a+1)) hx (yU a x (.inl rfl));have k2:=zn (drop:=fun k _=>decide (k=a)||decide (k=a+1)) hy (yU (a+1) y (.inr rfl));have k3:=Uk (l:=l) (drop:=fun k _=>decide (k=a)||decide (k=a+1)) (l.length-(a+2)) (a+1+1) aa fun i p h _=>Kj i p aa aa;refine⟨l.take a,l.drop (a+2),?_,?_⟩
  .unfold jQ;rw[show a+1+1+(l.length-(a+2))=l.length by omega,k2,k1] at k3;rw[jt] at k0;rw[k3,k0];have:rl l (fun k _=>decide (k=a)||decide (k=a+1)) 0=[]:=rfl;rw[this,L9,gi,eY (l:=l.drop (a+1+1)) (by rw[tx];omega)]
  have e1:l.drop a=x::y::l.drop (a+2):=by obtain⟨h1,e1⟩:=aY.1 hx;obtain⟨h2,e2⟩:=aY.1 hy;rw[<- w7 h1,e1,<- w7 h2,e2]
  rw[e1] at e;simp only[DD,yE] at e;exact e.2.2.symm
 have ea:a+1=l.length:=aa;have hm:(a+1)%l.length=0:=by rw[ea,Aa]
 rw[hm] at Kj yU ⊢;obtain⟨y,hy⟩:=aN (ls:=l) (k:=0) aa;have k1:=zn (drop:=fun k _=>decide (k=a)||decide (k=0)) hy (yU 0 y (.inr rfl));have k2:=Uk (l:=l) (drop:=fun k _=>decide (k=a)||decide (k=0)) (a-1) 1 aa fun i p h h'=>Kj i p aa aa;have k3:=zn (drop:=fun k _=>decide (k=a)||decide (k=0)) hx (yU a x (.inl rfl));refine⟨[],(l.drop 1).take (a-1),?_,?_⟩
 .unfold jQ;rw[<- ea,k3];rw[show 1+(a-1)=a by omega] at k2;rw[k2];rw[show(1:Nat)=0+1 from rfl,k1];rfl
 have e1:l.drop a=[x]:=by obtain⟨h1,e1⟩:=aY.1 hx;rw[<- w7 h1,e1,List.drop_eq_nil_of_le aa]
 have e2:l.take a=y::(l.drop 1).take (a-1):=by
  obtain⟨h1,e1⟩:=aY.1 hy;have:l=y::l.drop 1:=by have:=w7 h1;rw[e1,L9] at this;exact this.symm
  conv=>lhs;rw[this]
  rw[show a=(a-1)+1 by omega,Wu];rfl
 rw[e1,e2] at e;simp only[DD,gi,yE] at e;rw[qh];exact e.2.2.symm
section
variable {F:Nat} {ls:List Let}
theorem dL.ext'{s t:dL}(h1:s.l=t.l)(h2:s.r=t.r)(h3:s.b=t.b):s=t:=by cases s;cases t;simp_all
theorem ahK(g:bK F ls){a:Nat}(ha:a<ls.length){L:List Pc}(h:uF ls a=some L):L=[]\/Cert F L:=by
 obtain⟨x,y,r,s,e,hx,hy,c,hp,Hh,_,_,mj⟩:=Wd g ha;have q:=c.q;unfold uF at h;have e1:(pieces ls).getD a ⟨iM,false⟩=x.p:=by rw[cU,hx];rfl
 have e2:(pieces ls).getD ((a+1)%ls.length) ⟨iM,false⟩=y.p:=by rw[cU,hy];rfl
 simp only[e1,e2] at h;split at h
 case isFalse=>cases h
 rename_i hc;simp only[cE,dk,kW,afA,decide_eq_false_iff_not] at hc;obtain⟨gK,jO,oz,jj,akE⟩:=hc;cases h;have px:x.k.aG=true:=by show(x.k.kind==1)=true;simp[gK]
 have py:y.k.aG=true:=by show(y.k.kind==1)=true;simp[jO]
 obtain⟨jk,eW,ub⟩:=hp;have ox:=(q.ok x af).pb px;have oy:=(q.ok y af).pb py;have plx:=q.pl x af px;have ply:=q.pl y af py;have gx:=((sB px).1 (q.ok x af).bad).1.1.1;have rx:=q.rr x af px;have ry:=q.rr y af py;have wm:y.k.gate=x.k.gate:=oz.symm;rw[wm] at ry
 -- the counts
 have xN:∀z:List aP,ay Let.aB (aR (x::y::z))=ay Let.aB (aR z):=fun z=>by rw[kn,kn,(ifP px).1,(ifP py).1];omega
 have Ek:∀z:List aP,ay Let.aG (aR (x::y::z))=ay Let.aG (aR z)+2:=fun z=>by rw[kn,kn,(ifP px).2,(ifP py).2];omega
 have hGi:((x.k.gate.toNat:Nat):Int)=x.k.gate:=afC gx.1;have vV:∀(z:List aP) k,cg (aR (x::y::z)) k=cg (aR z) k+if k=x.k.gate.toNat then 2 else 0:=fun z k=>by
  show ay _ _=ay _ _+_;rw[kn,kn];have:∀w:aP,w.k.aG=true->w.k.gate=x.k.gate->(if n0 k w.k=true then 1 else 0)=if k=x.k.gate.toNat then 1 else 0:=fun w hw hgw=>by
   unfold n0;rw[hw,hgw];by_cases ck:k=x.k.gate.toNat
   .subst ck;simp[hGi]
   have:(x.k.gate==(k:Int))=false:=by rw[rI];omega
   simp[this,ck]
  rw[this x px rfl,this y py wm];split<;>omega
 have h2:ay Let.aB (aR (x::y::r))=ay Let.aB ls:=by rw[Ar mj,lS]
 have h3:ay Let.aG (aR (x::y::r))=ay Let.aG ls:=by rw[Ar mj,lS]
 have hlen:ls.length=r.length+2:=by have:=mj.length_eq;rw[We] at this;simpa using this.symm
 -- ranks
 obtain⟨lo,hlo1,TJ,qE⟩:∃lo:Nat,1<=lo/\((x.k.aw=lo/\y.k.aw=lo+1)\/(x.k.aw=lo+1/\y.k.aw=lo))/\nL x.k.aw y.k.aw=lo+1:=by
  have Hg:nL x.k.aw y.k.aw-vm x.k.aw y.k.aw=1:=jj;unfold nL vm at Hg;unfold nL;by_cases c1:x.k.aw<y.k.aw
  .rw[aE c1] at Hg ⊢;rw[aD aa] at Hg;exact⟨x.k.aw.toNat,aa,.inl ⟨aa,aa⟩,aa⟩
  rw[aD c1] at Hg ⊢;by_cases c2:y.k.aw<x.k.aw
  .rw[aE c2] at Hg;exact⟨y.k.aw.toNat,aa,.inr ⟨aa,aa⟩,aa⟩
  rw[aD c2] at Hg;omega
 have aaG:lo+1<=cg (aR (x::y::r)) x.k.gate.toNat:=by rcases TJ with ⟨h1,h2⟩|⟨h1,h2⟩<;>omega
 -- which names are merged
 obtain⟨mc,me,m1,m2,m3,m4,m5⟩:∃mc me:Nat,(y.o.mp (iE mc me)=s.mp (iE mc me))/\iE mc me (TF ls x.k.gate.toNat (lo+1))=iE mc me (TF ls x.k.gate.toNat (lo-1))/\iE mc me (BF ls x.k.gate.toNat (lo+1))=iE mc me (BF ls x.k.gate.toNat (lo-1))/\
   (∀t,(t=y.o.l\/t=y.o.r)->t=mc\/t=s.l\/t=s.r)/\True:=by
  have hdy:y.p.d= !x.p.d:=by have h1:=oy.2;rw[eW,ox.1] at h1;revert h1;cases x.p.d<;>cases y.p.d<;>simp
  have hb:y.o.b=s.b:=by rw[oy.1,hdy,<- jk,ox.2]
  obtain⟨p1,p2,p3,p4⟩:=plx;obtain⟨p5,p6,p7,p8⟩:=ply;rw[wm] at p5 p6 p7 p8;unfold aP.up at p1 p2 p5 p6;unfold aP.lo at p3 p4 p7 p8;rw[hdy] at p5 p6 p7 p8;rw[jk] at p1 p2 p3 p4;rw[eW] at p5 p6 p7 p8;have done:∀mc me,(iE mc me y.o.l=iE mc me s.l)->(iE mc me y.o.r=iE mc me s.r)->y.o.mp (iE mc me)=s.mp (iE mc me):=fun mc me h1 h2=>dL.ext' h1 h2 hb;rcases TJ with ⟨r1,r2⟩|⟨r1,r2⟩
  .have n1:x.k.aw.toNat=lo:=aa;have n2:y.k.aw.toNat=lo+1:=aa;rw[n1] at p1 p2 p3 p4;rw[n2] at p5 p6 p7 p8;rw[Ww] at p5 p7;cases hd:x.p.d<;>rw[hd] at p1 p2 p3 p4 p5 p6 p7 p8<;>simp only[L5,zV,eH,if_false,if_true,gI] at p1 p2 p3 p4 p5 p6 p7 p8
   .have ee:y.o.r=s.r:=by rw[p7,p4]
    refine⟨y.o.l,s.l,done _ _ ?_ (by rw[ee]),by rw[<- p6,p1],by rw[<- p8,<- p3,sv,sA],?_,trivial⟩
    .rw[sv,sA]
    rintro t (rfl|rfl)
    .exact .inl rfl
    exact .inr (.inr ee)
   have ee:y.o.l=s.l:=by rw[p5,p2]
   refine⟨y.o.r,s.r,done _ _ (by rw[ee]) ?_,by rw[<- p6,<- p1,sv,sA],by rw[<- p8,p3],?_,trivial⟩
   .rw[sv,sA]
   rintro t (rfl|rfl)
   .exact .inr (.inl ee)
   exact .inl rfl
  have n1:x.k.aw.toNat=lo+1:=aa;have n2:y.k.aw.toNat=lo:=aa;rw[n1] at p1 p2 p3 p4;rw[n2] at p5 p6 p7 p8;rw[Ww] at p1 p3;cases hd:x.p.d<;>rw[hd] at p1 p2 p3 p4 p5 p6 p7 p8<;>simp only[L5,zV,eH,if_false,if_true,gI] at p1 p2 p3 p4 p5 p6 p7 p8
  .have ee:y.o.l=s.l:=by rw[p8,p3]
   refine⟨y.o.r,s.r,done _ _ (by rw[ee]) ?_,by rw[<- p2,p5],by rw[<- p4,<- p7,sv,sA],?_,trivial⟩
   .rw[sv,sA]
   rintro t (rfl|rfl)
   .exact .inr (.inl ee)
   exact .inl rfl
  have ee:y.o.r=s.r:=by rw[p6,p1]
  refine⟨y.o.l,s.l,done _ _ ?_ (by rw[ee]),by rw[<- p2,<- p5,sv,sA],by rw[<- p4,p7],?_,trivial⟩
  .rw[sv,sA]
  rintro t (rfl|rfl)
  .exact .inl rfl
  exact .inr (.inr ee)
 clear m5;by_cases hr:∃w∈r,w.k.aG=true
 case neg=>
  left;have Cm:ay Let.aG (aR r)=0:=IL.2 fun l hl Bc=>by obtain⟨w,hw,rfl⟩:=dy.1 hl;exact hr ⟨w,hw,Bc⟩
  have hC0:ay Let.aB ls=0:=by have dA:=q.ev;rw[h2] at dA;rw[Ek] at h3;rcases akE with h|h<;>omega
  have:ls.length=2:=by have:=Uu g.ok;rw[Ek] at h3;omega
  have sW:r=[]:=BJ.1 aa;obtain⟨u,v,k1,k2⟩:=acd (l:=pieces ls) (a:=a) (by rw[fG];exact ha) (by rw[fG];omega) (by rw[Hh];rfl);rw[fG] at k1;rw[sW] at k2;have k2:=k2.symm;simp only[kZ,List.append_eq_nil_iff] at k2;unfold iO;rw[k1,k2.1,k2.2];rfl
 right;obtain⟨w0,hw0,pw0⟩:=hr;have alg:r≠[]:=List.ne_nil_of_mem hw0
 let ψ:=iE mc me
 let hL:=sF x.k.gate (lo+1) (-2)
 let T':Nat->Nat->Nat:=fun G k=>if G=x.k.gate.toNat then (if k<=lo-1 then ψ (TF ls G k) else ψ (TF ls G (k+2))) else ψ (TF ls G k)
 let B':Nat->Nat->Nat:=fun G k=>if G=x.k.gate.toNat then (if k<=lo-1 then ψ (BF ls G k) else ψ (BF ls G (k+2))) else ψ (BF ls G k)
 have mC:ay Let.aB (aR (r.map (aP.mp ψ hL)))=ay Let.aB (aR r):=Aq (fun l=>(Du _ _ _).aB l) r;have mP:ay Let.aG (aR (r.map (aP.mp ψ hL)))=ay Let.aG (aR r):=Aq (fun l=>(Du _ _ _).aG l) r;have mG:∀k,cg (aR (r.map (aP.mp ψ hL))) k=cg (aR r) k:=fun k=>Aq (fun l=>apx _ _ _ k l) r;have inr:∀w∈r,w∈x::y::r:=fun w hw=>by simp[hw]
 -- the others have other ranks
 have oth:∀w∈r,w.k.aG=true->w.k.gate=x.k.gate->w.k.aw<lo\/(lo:Int)+1<w.k.aw:=fun w hw pw gw=>by obtain⟨d1,d2⟩:=rG.1 q.rk;obtain⟨d3,_⟩:=rG.1 d2;have n1:=d1 w (by simp[hw]) px pw gw.symm;have n2:=d3 w hw py pw (by rw[wm,gw]);rcases TJ with ⟨r1,r2⟩|⟨r1,r2⟩<;>omega
 have rk':∀w∈r,w.k.aG=true->(hL w.k).aw=if w.k.gate=x.k.gate/\(lo:Int)+1<w.k.aw then w.k.aw-2 else w.k.aw:=fun w hw pw=>by have:=apz (g:=x.k.gate) (ab:=(lo:Int)+1) (dZ:= -2) pw;rw[show w.k.aw+ -2=w.k.aw-2 by omega] at this;exact this
 have key:∀f:Nat->Nat->Nat,ψ (f x.k.gate.toNat (lo+1))=ψ (f x.k.gate.toNat (lo-1))->∀w∈r,w.k.aG=true->
   (ψ (f w.k.gate.toNat (w.k.aw.toNat-1))=(fun G k=>if G=x.k.gate.toNat then (if k<=lo-1 then ψ (f G k) else ψ (f G (k+2))) else ψ (f G k)) (hL w.k).gate.toNat ((hL w.k).aw.toNat-1))/\
   ψ (f w.k.gate.toNat w.k.aw.toNat)=(fun G k=>if G=x.k.gate.toNat then (if k<=lo-1 then ψ (f G k) else ψ (f G (k+2))) else ψ (f G k)) (hL w.k).gate.toNat (hL w.k).aw.toNat:=by
  intro f hf w hw pw;have A5:(hL w.k).gate=w.k.gate:=Ie _ _ _ _;have gw:=((sB pw).1 (q.ok w (inr w hw)).bad).1.1.1;have rw1:=(q.rr w (inr w hw) pw).1;rw[rk' w hw pw,A5];by_cases tF:w.k.gate=x.k.gate
  .have ho:=oth w hw pw tF;simp only[tF,if_true,true_and];by_cases cr:(lo:Int)+1<w.k.aw
   .rw[aE cr];constructor
    .by_cases c3:(w.k.aw-2).toNat-1<=lo-1
     .rw[aE c3];have e3:w.k.aw.toNat-1=lo+1:=aa;have e4:(w.k.aw-2).toNat-1=lo-1:=aa;rw[e3,e4];exact hf
     rw[aD c3];congr 2;omega
    rw[aD aa];congr 2;omega
   rw[aD cr];constructor
   .rw[aE aa]
   rw[aE aa]
  have:¬(w.k.gate.toNat=x.k.gate.toNat):=aa;simp only[tF,false_and,if_false,aD this];exact⟨trivial,trivial⟩
 have keyg:∀f:Nat->Nat->Nat,ψ (f x.k.gate.toNat (lo+1))=ψ (f x.k.gate.toNat (lo-1))->∀k,
   ((fun G k=>if G=x.k.gate.toNat then (if k<=lo-1 then ψ (f G k) else ψ (f G (k+2))) else ψ (f G k)) k (cg (aR r) k)=ψ (f k (cg (aR (x::y::r)) k)))/\
   (fun G k=>if G=x.k.gate.toNat then (if k<=lo-1 then ψ (f G k) else ψ (f G (k+2))) else ψ (f G k)) k 0=ψ (f k 0):=by
  intro f hf k;rw[vV r k];by_cases ck:k=x.k.gate.toNat
  .subst ck;simp only[if_true];rw[aE (bn _)];refine⟨?_,rfl⟩;rw[vV r x.k.gate.toNat,aE rfl] at aaG;by_cases c3:cg (aR r) x.k.gate.toNat<=lo-1
   .rw[aE c3];have e3:cg (aR r) x.k.gate.toNat=lo-1:=aa;rw[e3,show lo-1+2=lo+1 by omega];exact hf.symm
   rw[aD c3]
  simp only[aD ck,vD];exact⟨trivial,trivial⟩
 have qn:Cq F ([]++r.map (aP.mp ψ hL)) T' B':=by
  refine Cq.edit (X:=[x,y]) (r:=r) q (Du _ _ _) (fun w hw=>apy (q.ok w (inr w hw)).bad) (fun u hu v hv cu cv e=>?_) (fun u hu v hv pu pv e1 e2=>?_) (fun _ h=>by cases h) List.Pairwise.nil List.Pairwise.nil (fun _ h=>by cases h) (fun _ h=>by cases h) ?_ (fun _ h=>by cases h) (fun u hu cu=>?_) (fun _ h=>by cases h) (fun u hu pu=>?_) (fun _ h=>by cases h) (fun u hu pu=>?_) (fun k hk=>?_) ?_
  .rw[OR,OR] at e;exact e
  .have e1':u.k.gate=v.k.gate:=by rw[Ie,Ie] at e1;exact e1
   refine⟨e1',?_⟩;have e2:(hL u.k).aw=(hL v.k).aw:=e2;rw[rk' u hu pu,rk' v hv pv] at e2;by_cases tF:u.k.gate=x.k.gate
   .have o1:=oth u hu pu tF;have o2:=oth v hv pv (e1'▸tF);have cv:v.k.gate=x.k.gate:=e1'▸tF;simp only[tF,cv,true_and] at e2;split at e2<;>split at e2<;>omega
   have cv:¬v.k.gate=x.k.gate:=e1'▸tF;simp only[tF,cv,false_and,if_false] at e2;exact e2
  .rw[gi,mC,<- xN r];exact q.ev
  .rw[gi,mC,OR,<- xN r];exact q.ids u (inr u hu) cu
  .rw[gi,Ie,mG];show 1<=(hL u.k).aw/\(hL u.k).aw<=_;rw[rk' u hu pu];have h1:=q.rr u (inr u hu) pu;rw[vV r] at h1;have gu:=((sB pu).1 (q.ok u (inr u hu)).bad).1.1.1;by_cases tF:u.k.gate=x.k.gate
   .have o1:=oth u hu pu tF;rw[tF] at h1 ⊢;rw[aE rfl] at h1;rw[vV r,aE rfl] at aaG;simp only[true_and];split<;>omega
   simp only[tF,false_and,if_false];rw[aD aa] at h1;exact h1
  .obtain⟨t1,t2⟩:=key (TF ls) m2 u hu pu;obtain⟨b1,b2⟩:=key (BF ls) m3 u hu pu;exact⟨⟨t1,b1⟩,t2,b2⟩
  .rw[gi,mG];obtain⟨t1,t2⟩:=keyg (TF ls) m2 k;obtain⟨b1,b2⟩:=keyg (BF ls) m3 k;obtain⟨_,t3⟩:=keyg (TF ls) m2 (k+1);obtain⟨_,b3⟩:=keyg (BF ls) m3 (k+1);have:=q.gt k hk;exact⟨by rw[show T' k _=_ from t1,this.1];exact t3.symm,by rw[show B' k _=_ from b1,this.2];exact b3.symm⟩
  rw[gi,mG];obtain⟨t1,t2⟩:=keyg (TF ls) m2 F;obtain⟨b1,b2⟩:=keyg (BF ls) m3 F;obtain⟨_,t3⟩:=keyg (TF ls) m2 0;obtain⟨_,b3⟩:=keyg (BF ls) m3 0;have:=q.gz;exact⟨by rw[show T' F _=_ from t1,this.1];exact t3.symm,by rw[show B' F _=_ from b1,this.2];exact b3.symm⟩
 have Km:Cert F (r.map fun w=>qe x.k.gate (lo+1) (-2) w.p):=by
  refine Cq.done (X:=[x,y]) (r:=r) (X':=[]) (L:=[mc,x.o.l,x.o.r]) (N:=[]) (V:=ky ls) (z':=r.map (aP.mp ψ hL)) qn c.nd (fun t ht=>c.wit t ht) (List.Perm.refl _) ⟨s.mp ψ,?_⟩ ?_ ?_ (fun t _ ht=>N8 fun e=>ht (by simp[e])) (fun w hw t ht ew yR=>?_) w8 (fun t ht=>by cases ht) (fun t ht=>by cases ht) (by rw[BK];exact cA _) ?_
  .have:=Ow (ψ:=ψ) (h:=hL) ub;rwa[show y.o.mp ψ=s.mp ψ from m1] at this
  .rw[nX];refine zW fun w _=>?_;rw[apA];rfl
  .refine⟨w0.mp ψ hL,?_,?_⟩
   .rw[gi];exact dy.2 ⟨w0,hw0,rfl⟩
   show(hL w0.k).aG=true;rw[(Du _ _ _).aG];exact pw0
  .obtain⟨v,hv,hvo⟩:=Ov ub alg;simp only[dh,lT,or_false,Ab] at hw yR;have key:t=s.l\/t=s.r:=by
    rcases hw with rfl|rfl
    .rcases ew with ew|ew
     .exact absurd ew yR.2.1
     exact absurd ew yR.2.2
    rcases m4 t ew with h|h
    .exact absurd h yR.1
    exact h
   refine⟨v.mp ψ hL,by rw[gi];exact dy.2 ⟨v,hv,rfl⟩,?_⟩;show t=ψ v.o.l\/t=ψ v.o.r;rw[hvo];have:ψ t=t:=N8 yR.1;rcases key with h|h
   .left;rw[<- h,this]
   right;rw[<- h,this]
  rw[gi,mC,mP];have h1:=g.nw;rw[xN] at h2;rw[Ek] at h3;simp only[eP,dp];omega
 obtain⟨u,v,k1,k2⟩:=acd (l:=pieces ls) (a:=a) (by rw[fG];exact ha) (by rw[fG];omega) (by rw[Hh];rfl);rw[fG] at k1;show Cert F ((jQ (pieces ls) fun k _=>decide (k=a)||decide (k=(a+1)%ls.length)).map (qe x.k.gate (nL x.k.aw y.k.aw) (-2)));rw[k1,qE,km];refine Cert.jV ?_;rw[<- km,<- k2,nX];exact Km
end
section
variable {F:Nat} {ls:List Let}
theorem Qy(g:bK F ls){pl:Nat}{edges:List Nat}{e0:Nat}(he0:e0<ls.length)(h:lW F ls pl edges e0=true):∃w,w∈dR (aV ls) (nD ls)/\(iH F ls w).places.length=pl/\((w.filter fun x=>decide (x<2*ls.length)).length=edges.length)/\ ∀e∈edges,∃d,d∈w/\d<2*ls.length/\d/2=e:=by
 have key:∀f∈de F ls,tH f pl edges=true->∃w,w∈dR (aV ls) (nD ls)/\(iH F ls w).places.length=pl/\((w.filter fun x=>decide (x<2*ls.length)).length=edges.length)/\ ∀e∈edges,∃d,d∈w/\d<2*ls.length/\d/2=e:=by intro f hf hc;obtain⟨w,hw,rfl⟩:=dy.1 hf;unfold tH at hc;simp only[cE,dk,ij] at hc;obtain⟨h1,h2,h3⟩:=hc;rw[D0] at h1;refine⟨w,hw,h2,h1,fun e he=>?_⟩;have h4:=h3 e he;unfold sP at h4;obtain⟨d,hd,qB⟩:=vw.1 (show 0<((iH F ls w).bj.countP fun d=>d/2==e) by omega);rw[D0] at hd;obtain⟨d1,d2⟩:=uA.1 hd;exact⟨d,d1,by simpa using d2,by simpa using qB⟩
 unfold lW at h;rw[oY] at h;rcases h with h|h
 .exact key _ (M6 aa) h
 exact key _ (M6 aa) h
theorem afd{D:List Nat}(h:D.length=2){x y:Nat}(hx:x∈D)(hy:y∈D)(aM:x≠y){z:Nat}(hz:z∈D):z=x\/z=y:=by
 match D,h with
 |[p,q],_=>simp only[dh,lT,or_false] at hx hy hz;omega
theorem adm{e:Nat}(he:e<ls.length){l:Let}(hl:ls[nx ls e]?=some l)(hc:l.aB=true):aV ls (2*e)=dw ls.length (fh ls (nx ls e)) (gX l):=by
 have:2*e=ir ls.length (nx ls e) true:=by unfold ir nx;rw[aE rfl,Dc he]
 rw[this,zR hl hc];unfold gX;cases (l.over==(l.sign==1))<;>rfl
theorem adl{e:Nat}{l:Let}(hl:ls[e]?=some l)(hc:l.aB=true):aV ls (2*e+1)=dw ls.length (fh ls e) (!gX l):=by have:2*e+1=ir ls.length e false:=rfl;rw[this,zR hl hc];unfold gX;cases (l.over==(l.sign==1))<;>rfl
theorem vF{v:Nat}{b:Bool}{x:Nat}(h:dw ls.length v b=x):(b=true/\x=2*v)\/(b=false/\x=2*((v+ls.length-1)%ls.length)+1):=by
 cases b
 .exact .inr ⟨rfl,h.symm⟩
 exact .inl ⟨rfl,h.symm⟩
theorem Ak{v e:Nat}(hv:v<ls.length)(h:(v+ls.length-1)%ls.length=e):v=nx ls e:=by unfold nx;rw[<- h,vn hv]
theorem Ch(ok:dU F ls){v u:Nat}{l m:Let}(hl:ls[v]?=some l)(hc:l.aB=true)(hm:ls[u]?=some m)(ho:fh ls v=u):gX m= !gX l/\m.aB=true/\m.id=l.id:=by obtain⟨_,w,hw,wc,wi,wo,ws⟩:=pX ok.cr hl hc;rw[ho,hm] at hw;cases hw;refine⟨?_,wc,wi⟩;unfold gX;rw[wo,ws];cases l.over<;>cases (l.sign==1)<;>rfl
theorem Oj(ok:dU F ls){v:Nat}{l:Let}(hl:ls[v]?=some l)(hc:l.aB=true):fh ls v<ls.length:=by obtain⟨_,w,hw,_⟩:=pX ok.cr hl hc;exact(aY.1 hw).1
theorem anA(g:bK F ls){a b:Nat}(ha:a<ls.length)(hb:b<ls.length){lx ly lu lv:Let}(hx:ls[a]?=some lx)(hy:ls[nx ls a]?=some ly)(hu:ls[b]?=some lu)(hv:ls[nx ls b]?=some lv)
  (cx:lx.aB=true) (cy:ly.aB=true) (cu:lu.aB=true) (cv:lv.aB=true) (jD:lx.id≠ly.id) (EI:lu.id≠lv.id) (ef:a≠b) (h:lW F ls 0 [a,b] a=true):gX lx= !gX ly:=by
 have ok:=g.ok;obtain⟨w,hw,_,hlen,hE⟩:=Qy g ha h;obtain⟨da,uN,sO,xA⟩:=hE a af;obtain⟨db,vJ,tL,xB⟩:=hE b af;have aM:da≠db:=aa;have inD:∀d,d∈w->d<2*ls.length->d∈w.filter fun x=>decide (x<2*ls.length):=fun d h1 h2=>uA.2 ⟨h1,by simpa using h2⟩;have two:∀d,d∈w->d<2*ls.length->d=da\/d=db:=fun d h1 h2=>afd hlen (inD da uN sO) (inD db vJ tL) aM (inD d h1 h2);have nin:∀d,d∈w->aV ls d∈w:=fun d hd=>Dy (maps ok) hw hd;have str:∀(v:Nat) (b:Bool),v<ls.length->dw ls.length v b<2*ls.length:=fun v b hv=>by have:=Ag hv (!b);rw[<- Bs] at this;have:=zL this;rwa[zM] at this
 have oy:=Oj ok hy cy;have ox:=Oj ok hx cx;have ou:=Oj ok hu cu;have ov:=Oj ok hv cv
 -- where the walk goes on
 have na:(da=2*a/\aV ls da=dw ls.length (fh ls (nx ls a)) (gX ly))\/(da=2*a+1/\aV ls da=dw ls.length (fh ls a) (!gX lx)):=by
  rcases xe da with c|c
  .have:da=2*a:=aa;exact .inl ⟨this,by rw[this];exact adm ha hy cy⟩
  have:da=2*a+1:=aa;exact .inr ⟨this,by rw[this];exact adl hx cx⟩
 have nb:(db=2*b/\aV ls db=dw ls.length (fh ls (nx ls b)) (gX lv))\/(db=2*b+1/\aV ls db=dw ls.length (fh ls b) (!gX lu)):=by
  rcases xe db with c|c
  .have:db=2*b:=aa;exact .inl ⟨this,by rw[this];exact adm hb hv cv⟩
  have:db=2*b+1:=aa;exact .inr ⟨this,by rw[this];exact adl hu cu⟩
 have ta:aV ls da=da\/aV ls da=db:=two _ (nin _ uN) (by rcases na with ⟨_,e⟩|⟨_,e⟩<;>rw[e]<;>exact str _ _ (by assumption));have tb:aV ls db=da\/aV ls db=db:=two _ (nin _ vJ) (by rcases nb with ⟨_,e⟩|⟨_,e⟩<;>rw[e]<;>exact str _ _ (by assumption));have ta':aV ls da=db:=by
  rcases ta with e|e
  .exfalso;rcases na with ⟨e1,e2⟩|⟨e1,e2⟩
   .rw[e] at e2;rcases vF e2.symm with ⟨_,e3⟩|⟨_,e3⟩
    .exact jD (Ch ok hy cy hx aa).2.2
    omega
   rw[e] at e2;rcases vF e2.symm with ⟨_,e3⟩|⟨_,e3⟩
   .omega
   exact jD (Ch ok hx cx hy (Ak ox aa)).2.2.symm
  exact e
 have tb':aV ls db=da:=by
  rcases tb with e|e
  .exact e
  exfalso;rcases nb with ⟨e1,e2⟩|⟨e1,e2⟩
  .rw[e] at e2;rcases vF e2.symm with ⟨_,e3⟩|⟨_,e3⟩
   .exact EI (Ch ok hv cv hu aa).2.2
   omega
  rw[e] at e2;rcases vF e2.symm with ⟨_,e3⟩|⟨_,e3⟩
  .omega
  exact EI (Ch ok hu cu hv (Ak ou aa)).2.2.symm
 rcases na with ⟨ea,e1⟩|⟨ea,e1⟩<;>rcases nb with ⟨eb,e2⟩|⟨eb,e2⟩<;>rw[ta'] at e1<;>rw[tb'] at e2
 .rcases vF e1.symm with ⟨g1,e3⟩|⟨g1,e3⟩<;>rcases vF e2.symm with ⟨g2,e4⟩|⟨g2,e4⟩<;>try omega
  have:=(Ch ok hv cv hx aa).1;rw[this,g1,g2]
 .rcases vF e1.symm with ⟨g1,e3⟩|⟨g1,e3⟩<;>rcases vF e2.symm with ⟨g2,e4⟩|⟨g2,e4⟩<;>try omega
  have:=(Ch ok hu cu hx aa).1;rw[this,g1,g2];rfl
 .rcases vF e1.symm with ⟨g1,e3⟩|⟨g1,e3⟩<;>rcases vF e2.symm with ⟨g2,e4⟩|⟨g2,e4⟩<;>try omega
  have:=(Ch ok hv cv hy (Ak ov aa)).1;rw[this,g2];revert g1;cases gX lx<;>simp
 rcases vF e1.symm with ⟨g1,e3⟩|⟨g1,e3⟩<;>rcases vF e2.symm with ⟨g2,e4⟩|⟨g2,e4⟩<;>try omega
 have:=(Ch ok hu cu hy (Ak ou aa)).1;rw[this];revert g1 g2;cases gX lx<;>cases gX lu<;>simp
theorem O5{x p w:aP}(h1:Xr x p)(h2:Xr x w)(h3:Xr p w)(cx:x.k.aB=true)(cp:p.k.aB=true)(cw:w.k.aB=true)(e1:x.k.id=p.k.id):w.k.id≠x.k.id:=by intro e2;have a:=(h1 cx cp e1).ov;have b:=(h2 cx cw e2.symm).ov;have d:=(h3 cp cw (by rw[<- e1,e2])).ov;rw[b] at a;rw[d] at a;revert a;cases w.k.over<;>simp
theorem aed{α:Type}{z:List α}{a j:Nat}(ha:a<z.length)(hj:j<z.length):(z.drop a++z.take a)[j]?=z[(a+j)%z.length]? :=by
 by_cases h:a+j<z.length
 .rw[uz (by rw[tx];omega),wZ,gV h]
 rw[vz (by rw[tx];omega),tx,jY,aE aa,afX aa,gV aa];congr 1;omega
theorem aqL{α:Type}{r:List α}{j:Nat}{u v:α}(hu:r[j]?=some u)(hv:r[j+1]?=some v):r=r.take j++u::v::r.drop (j+2):=by
 obtain⟨h1,e1⟩:=aY.1 hu;obtain⟨h2,e2⟩:=aY.1 hv;have:r.drop j=u::v::r.drop (j+2):=by rw[<- w7 h1,e1,<- w7 h2,e2]
 rw[<- this,tz]
end
theorem Uy{p q w:Int}{l:Let}(hc:l.aB=true)(hw:l.id=w):(fT [p,q] l).id=w-(if p<w then 1 else 0)-(if q<w then 1 else 0):=by rw[acH hc,hw];by_cases c1:p<w<;>by_cases c2:q<w<;>simp[c1,c2]<;>omega
section
variable {F:Nat} {ls:List Let}
theorem ahN(g:bK F ls){a b:Nat}(ha:a<ls.length)(hb:b<ls.length){L:List Pc}(h:ti F ls a b=some L):Cert F L:=by
 obtain⟨x,y,r0,s,e,hx,hy,c,hp,Hh,hzx,hzy,mj⟩:=Wd g ha;have q:=c.q;have kN:=We ls;unfold ti at h;split at h
 case isFalse=>cases h
 rename_i hc;simp only[cE,oY,dk,kW,rI] at hc;obtain⟨hbo,aM,aaQ,gM,tY,GP⟩:=hc;have pa:pA ls a=x.p:=jo hx;have pb:pA ls (nx ls a)=y.p:=jo hy;cases h;have hnb:nx ls b<ls.length:=dK _ aa;have hna:nx ls a<ls.length:=dK _ aa;obtain⟨u,Ht⟩:=aN (ls:=zF ls) (k:=b) aa;obtain⟨v,K4⟩:=aN (ls:=zF ls) (k:=nx ls b) aa;have pc:pA ls b=u.p:=jo (by rw[<- Fw,gh,Ht];rfl);have pd:pA ls (nx ls b)=v.p:=jo (by rw[<- Fw,gh,K4];rfl);rw[pa,pb] at aM;rw[pa,pb,pc,pd] at aaQ
 -- they are visits, two over and two under
 have kinds:x.k.aB=true/\y.k.aB=true/\u.k.aB=true/\v.k.aB=true/\x.k.over=y.k.over/\u.k.over=v.k.over/\x.k.over≠u.k.over:=by
  have bo:∀e ov,iB ls e ov=true->(pA ls e).l.aB=true/\(pA ls (nx ls e)).l.aB=true/\(pA ls e).l.over=ov/\(pA ls (nx ls e)).l.over=ov:=fun e ov h=>by unfold iB at h;simp only[cE,dk] at h;obtain⟨h1,h2,h3,h4⟩:=h;exact⟨by unfold Let.aB;rw[h1];rfl,by unfold Let.aB;rw[h2];rfl,h3,h4⟩
  rcases hbo with ⟨h1,h2⟩|⟨h1,h2⟩<;>obtain⟨a1,a2,a3,a4⟩:=bo _ _ h1<;>obtain⟨b1,b2,b3,b4⟩:=bo _ _ h2
  all_goals
   rw[pa] at a1 a3;rw[pb] at a2 a4;rw[pc] at b1 b3;rw[pd] at b2 b4;refine⟨a1,a2,b1,b2,?_,?_,?_⟩
   .show x.p.l.over=y.p.l.over;rw[a3,a4]
   .show u.p.l.over=v.p.l.over;rw[b3,b4]
   show x.p.l.over≠u.p.l.over;rw[a3,b3];decide
 obtain⟨cx,cy,cu,cv,ov1,ov2,ov3⟩:=kinds;have jD:x.k.id≠y.k.id:=aM;have Kz:(u.k.id=x.k.id/\v.k.id=y.k.id)\/(u.k.id=y.k.id/\v.k.id=x.k.id):=aaQ;have EI:u.k.id≠v.k.id:=by
  rcases Kz with ⟨h1,h2⟩|⟨h1,h2⟩
  .rw[h1,h2];exact jD
  rw[h1,h2];exact jD.symm
 have ef:a≠b:=by
  rintro rfl
  rw[hzx] at Ht;cases Ht;exact ov3 rfl
 have lx:ls[a]?=some x.k:=by have:=zy hzx;rwa[lS] at this
 have ly:ls[nx ls a]?=some y.k:=by have:=zy hzy;rwa[lS] at this
 have lu:ls[b]?=some u.k:=by have:=zy Ht;rwa[lS] at this
 have lv:ls[nx ls b]?=some v.k:=by have:=zy K4;rwa[lS] at this
 have hg:=anA g ha hb lx ly lu lv cx cy cu cv jD EI ef GP
 -- where the second edge stands, from the first one on
 obtain⟨j,Et,lD,yY⟩:∃j,j+3<ls.length/\(a+(j+2))%ls.length=b/\(a+(j+3))%ls.length=nx ls b:=by
  have NA:nx ls a≠b:=by intro e;rw[e,Ht] at hzy;cases hzy;exact ov3 ov1
  have TP:nx ls b≠a:=by intro e;rw[e,hzx] at K4;cases K4;exact ov3 ov2.symm
  unfold nx at NA TP ⊢;by_cases c1:a<b
  .have e1:(a+1)%ls.length=a+1:=gV aa;rw[e1] at NA;have h2:b≠a+1:=fun h=>NA h.symm;have h3:¬(b+1=ls.length/\a=0):=fun⟨h3,h4⟩=>TP (by rw[h3,Aa,h4]);refine⟨b-a-2,aa,?_,?_⟩
   .rw[show a+(b-a-2+2)=b by omega,gV hb]
   rw[show a+(b-a-2+3)=b+1 by omega]
  have e1:(b+1)%ls.length=b+1:=gV aa;rw[e1] at TP;have h3:¬(a+1=ls.length/\b=0):=fun⟨h3,h4⟩=>NA (by rw[h3,Aa,h4]);refine⟨b+ls.length-a-2,aa,?_,?_⟩
  .rw[show a+(b+ls.length-a-2+2)=b+ls.length by omega,w9,gV hb]
  rw[show a+(b+ls.length-a-2+3)=b+1+ls.length by omega,w9]
 have hru:r0[j]?=some u:=by have:=aed (z:=zF ls) (a:=a) (j:=j+2) aa aa;rw[e,kN,lD,Ht] at this;exact this
 have zh:r0[j+1]?=some v:=by have:=aed (z:=zF ls) (a:=a) (j:=j+3) aa aa;rw[e,kN,yY,K4] at this;exact this
 have mM:=aqL hru zh;obtain⟨c1,c2,CN,aks,Ki⟩:∃c1 c2,r0=c1++u::v::c2/\c1.length=j/\c2.length+j+4=ls.length:=by
  refine⟨_,_,mM,?_,?_⟩
  .have:=(aY.1 hru).1;rw[iF];omega
  have h1:=(aY.1 zh).1;have h2:=mj.length_eq;rw[kN] at h2;simp only[dp] at h2;rw[tx];omega
 subst CN
 -- the two paths that are left
 obtain⟨jk,eW,ub⟩:=hp;obtain⟨s2,rh,yh,wC,mh⟩:=Lq.1 ub;have hj0:j≠0:=by
  rintro rfl
  exact gM lD
 have hj9:c2≠[]:=by
  rintro rfl
  simp only[eP] at Ki;refine tY ?_;rw[<- lD,Nat.mod_add_mod,show a+(j+2)+2=a+ls.length by omega,w9,gV ha]
 have gK:c1≠[]:=by rintro rfl;simp at aks;omega
 have q4:Cq F ([x,y,u,v]++(c1++c2)) (TF ls) (BF ls):=by refine q.perm ?_;refine List.Perm.cons x (List.Perm.cons y ?_);exact Wo.trans (List.Perm.cons u Wo)
 obtain⟨w1,q5⟩:=rG.1 q4.cr;obtain⟨w2,q6⟩:=rG.1 q5;obtain⟨w3,q7⟩:=rG.1 q6;obtain⟨w4,q8⟩:=rG.1 q7;have rxu:Xr x u:=w1 u af;have rxv:Xr x v:=w1 v af;have ryu:Xr y u:=w2 u af;have ryv:Xr y v:=w2 v af;have O6:∀w∈c1++c2,w.k.aB=true->w.k.id≠x.k.id/\w.k.id≠y.k.id:=fun w hw cw=>by
  have a1:Xr x w:=w1 w (zY [y,u,v] hw);have a2:Xr y w:=w2 w (zY [u,v] hw);have a3:Xr u w:=w3 w (zY [v] hw);have a4:Xr v w:=w4 w hw;rcases Kz with ⟨h1,h2⟩|⟨h1,h2⟩
  .exact⟨O5 rxu a1 a3 cx cu cw h1.symm,O5 ryv a2 a4 cy cv cw h2.symm⟩
  exact⟨O5 rxv a1 a4 cx cv cw h2.symm,O5 ryu a2 a3 cy cu cw h1.symm⟩
 have bx:=(q4.ok x af).cb cx;have dZ:=(q4.ok y af).cb cy;have bu:=(q4.ok u af).cb cu;have bv:=(q4.ok v af).cb cv;rw[jk] at bx;rw[eW] at dZ;rw[wC] at bv
 -- which names are merged, and which are lost
 obtain⟨mc,me,bg,m1,m2,m3⟩:∃mc me bg:Nat,y.o.mp (iE mc me)=s.mp (iE mc me)/\v.o.mp (iE mc me)=s2.mp (iE mc me)/\
   (∀t,(t=x.o.l\/t=x.o.r)\/(t=y.o.l\/t=y.o.r)\/(t=u.o.l\/t=u.o.r)\/(t=v.o.l\/t=v.o.r)->t=mc\/t=bg\/(t=s.l\/t=s.r)\/(t=s2.l\/t=s2.r)):=by
  have cQ:y.o.b=s.b:=by rw[<- dZ,<- bx]
  have aZ:v.o.b=s2.b:=by rw[<- bv,<- bu,yh]
  have fin:∀mc me,iE mc me y.o.l=iE mc me s.l->iE mc me y.o.r=iE mc me s.r->iE mc me v.o.l=iE mc me s2.l->iE mc me v.o.r=iE mc me s2.r->y.o.mp (iE mc me)=s.mp (iE mc me)/\v.o.mp (iE mc me)=s2.mp (iE mc me):=fun mc me k1 k2 k3 k4=>⟨dL.ext' k1 k2 cQ,dL.ext' k3 k4 aZ⟩;rcases Kz with ⟨h1,h2⟩|⟨h1,h2⟩
  .have p1:=(rxu cx cu h1.symm).x4;have p2:=(ryv cy cv h2.symm).x4;rw[jk,yh] at p1;rw[eW,wC] at p2;obtain⟨a1,a2,a3,a4⟩:=p1;obtain⟨b1,b2,b3,b4⟩:=p2;cases xV:gX x.k
   .have wm:gX y.k=true:=by revert hg;rw[xV];cases gX y.k<;>simp
    rw[xV] at a1 a2 a3 a4;rw[wm] at b1 b2 b3 b4;simp only[eH,if_false,if_true] at a1 a2 a3 a4 b1 b2 b3 b4;refine⟨y.o.l,s.l,x.o.r,?_⟩;have f:=fin y.o.l s.l (by rw[sv,sA]) (by rw[b2,a4]) (by rw[<- b1,a3]) (by rw[b4,<- a1,sv,sA]);refine⟨f.1,f.2,?_⟩;rintro t ((rfl|rfl)|(rfl|rfl)|(rfl|rfl)|(rfl|rfl))
    .exact .inr (.inr (.inr (.inl a3.symm)))
    .exact .inr (.inl rfl)
    .exact .inl rfl
    .exact .inr (.inr (.inl (.inr (b2.trans a4))))
    .exact .inr (.inl a2.symm)
    .exact .inr (.inr (.inl (.inr a4)))
    .exact .inr (.inr (.inr (.inl (by rw[<- b1,a3]))))
    exact .inl b4
   have wm:gX y.k=false:=by revert hg;rw[xV];cases gX y.k<;>simp
   rw[xV] at a1 a2 a3 a4;rw[wm] at b1 b2 b3 b4;simp only[eH,if_false,if_true] at a1 a2 a3 a4 b1 b2 b3 b4;refine⟨y.o.r,s.r,x.o.l,?_⟩;have f:=fin y.o.r s.r (by rw[<- b3,a1]) (by rw[sv,sA]) (by rw[a3,<- b2,sv,sA]) (by rw[b4,a2]);refine⟨f.1,f.2,?_⟩;rintro t ((rfl|rfl)|(rfl|rfl)|(rfl|rfl)|(rfl|rfl))
   .exact .inr (.inl rfl)
   .exact .inr (.inr (.inr (.inr a2)))
   .exact .inr (.inr (.inl (.inl (by rw[<- b3,a1]))))
   .exact .inl rfl
   .exact .inr (.inr (.inl (.inl a1.symm)))
   .exact .inr (.inl a4)
   .exact .inl b2.symm
   exact .inr (.inr (.inr (.inr (b4.trans a2))))
  have p1:=(rxv cx cv h2.symm).x4;have p2:=(ryu cy cu h1.symm).x4;rw[jk,wC] at p1;rw[eW,yh] at p2;obtain⟨a1,a2,a3,a4⟩:=p1;obtain⟨b1,b2,b3,b4⟩:=p2;cases xV:gX x.k
  .have wm:gX y.k=true:=by revert hg;rw[xV];cases gX y.k<;>simp
   rw[xV] at a1 a2 a3 a4;rw[wm] at b1 b2 b3 b4;simp only[eH,if_false,if_true] at a1 a2 a3 a4 b1 b2 b3 b4;refine⟨y.o.r,s.r,x.o.l,?_⟩;have f:=fin y.o.r s.r (by rw[a1,<- b4]) (by rw[sv,sA]) (by rw[<- a2,b3]) (by rw[a4,<- b2,sv,sA]);refine⟨f.1,f.2,?_⟩;rintro t ((rfl|rfl)|(rfl|rfl)|(rfl|rfl)|(rfl|rfl))
   .exact .inr (.inl rfl)
   .exact .inr (.inr (.inr (.inl b3.symm)))
   .exact .inr (.inr (.inl (.inl (by rw[a1,<- b4]))))
   .exact .inl rfl
   .exact .inr (.inl b1.symm)
   .exact .inr (.inr (.inl (.inl (by rw[a1]))))
   .exact .inr (.inr (.inr (.inl (by rw[<- a2,b3]))))
   exact .inr (.inr (.inl (.inr a4)))
  have wm:gX y.k=false:=by revert hg;rw[xV];cases gX y.k<;>simp
  rw[xV] at a1 a2 a3 a4;rw[wm] at b1 b2 b3 b4;simp only[eH,if_false,if_true] at a1 a2 a3 a4 b1 b2 b3 b4;refine⟨y.o.l,s.l,x.o.r,?_⟩;have f:=fin y.o.l s.l (by rw[sv,sA]) (by rw[b2,a3]) (by rw[<- a1,b3,sv,sA]) (by rw[a4,b1]);refine⟨f.1,f.2,?_⟩;rintro t ((rfl|rfl)|(rfl|rfl)|(rfl|rfl)|(rfl|rfl))
  .exact .inr (.inr (.inr (.inr b1)))
  .exact .inr (.inl rfl)
  .exact .inl rfl
  .exact .inr (.inr (.inl (.inr (by rw[b2,a3]))))
  .exact .inr (.inr (.inl (.inr a3)))
  .exact .inr (.inl b4)
  .exact .inr (.inr (.inl (.inl a1.symm)))
  exact .inr (.inr (.inr (.inr (a4.trans b1))))
 have xN:∀z:List aP,ay Let.aB (aR ([x,y,u,v]++z))=ay Let.aB (aR z)+4:=fun z=>by rw[Qm,kn,kn,kn,kn,Qn,(wG cx).1,(wG cy).1,(wG cu).1,(wG cv).1];omega
 have Ek:∀z:List aP,ay Let.aG (aR ([x,y,u,v]++z))=ay Let.aG (aR z):=fun z=>by rw[Qm,kn,kn,kn,kn,Qn,(wG cx).2,(wG cy).2,(wG cu).2,(wG cv).2];omega
 have vV:∀(z:List aP) k,cg (aR ([x,y,u,v]++z)) k=cg (aR z) k:=fun z k=>by show ay _ _=ay _ _;rw[Qm,kn,kn,kn,kn,Qn,F2 k cx,F2 k cy,F2 k cu,F2 k cv];simp
 have hP4:([x,y,u,v]++(c1++c2)).Perm (zF ls):=by refine List.Perm.trans (List.Perm.symm ?_) mj;refine List.Perm.cons x (List.Perm.cons y ?_);exact Wo.trans (List.Perm.cons u Wo)
 have h2:ay Let.aB (aR ([x,y,u,v]++(c1++c2)))=ay Let.aB ls:=by rw[Ar hP4,lS]
 have h3:ay Let.aG (aR ([x,y,u,v]++(c1++c2)))=ay Let.aG ls:=by rw[Ar hP4,lS]
 have dA:=q4.ev
 let ψ:=iE mc me
 let hL:=fT [x.k.id,y.k.id]
 let r:=c1++c2
 have mC:ay Let.aB (aR (r.map (aP.mp ψ hL)))=ay Let.aB (aR r):=Aq (fun l=>(zx _).aB l) r;have mP:ay Let.aG (aR (r.map (aP.mp ψ hL)))=ay Let.aG (aR r):=Aq (fun l=>(zx _).aG l) r;have mG:∀k,cg (aR (r.map (aP.mp ψ hL))) k=cg (aR r) k:=fun k=>Aq (fun l=>acF _ k l) r;have GW:∀w∈[x,y,u,v]++r,w.k.aB=true->1<=w.k.id/\w.k.id<=((ay Let.aB (aR r)/2:Nat):Int)+2:=fun w hw hc=>by have:=q4.ids w hw hc;rw[xN] at this;show 1<=w.k.id/\w.k.id<=((ay Let.aB (aR (c1++c2))/2:Nat):Int)+2;omega
 have idx:=GW x af cx;have idy:=GW y af cy;have inr:∀w∈r,w∈[x,y,u,v]++r:=fun w hw=>zY _ hw;have qn:Cq F ([]++r.map (aP.mp ψ hL)) (fun G k=>ψ (TF ls G k)) (fun G k=>ψ (BF ls G k)):=by
  refine Cq.edit (X:=[x,y,u,v]) (r:=r) q4 (zx _) (fun w hw=>acG (q4.ok w (inr w hw)).bad) (fun p hp o ho cp co e=>?_) (fun p hp o ho pp po e1 e2=>?_) (fun _ h=>by cases h) List.Pairwise.nil List.Pairwise.nil (fun _ h=>by cases h) (fun _ h=>by cases h) ?_ (fun _ h=>by cases h) (fun p hp cp=>?_) (fun _ h=>by cases h) (fun p hp pp=>?_) (fun _ h=>by cases h) (fun p hp pp=>?_) (fun k hk=>?_) ?_
  .obtain⟨n1,n2⟩:=O6 p hp cp;obtain⟨n3,n4⟩:=O6 o ho co;rw[Uy cp rfl,Uy co rfl] at e;split at e<;>split at e<;>split at e<;>split at e<;>omega
  .have e1:(fT [x.k.id,y.k.id] p.k).gate=(fT [x.k.id,y.k.id] o.k).gate:=e1;have e2:(fT [x.k.id,y.k.id] p.k).aw=(fT [x.k.id,y.k.id] o.k).aw:=e2;rw[zw pp,zw po] at e1 e2;exact⟨e1,e2⟩
  .rw[gi,mC];rw[xN] at dA;show ay Let.aB (aR (c1++c2))%2=0;omega
  .rw[gi,mC];show 1<=(fT [x.k.id,y.k.id] p.k).id/\(fT [x.k.id,y.k.id] p.k).id<=_;rw[Uy cp rfl];have h1:=GW p (inr p hp) cp;obtain⟨n1,n2⟩:=O6 p hp cp;have hxy':=jD;split<;>split<;>omega
  .rw[gi,mG];show 1<=(fT [x.k.id,y.k.id] p.k).aw/\(fT [x.k.id,y.k.id] p.k).aw<=((cg (aR r) (fT [x.k.id,y.k.id] p.k).gate.toNat:Nat):Int);rw[zw pp,<- vV r];exact q4.rr p (inr p hp) pp
  .show(ψ _=ψ (TF ls (fT [x.k.id,y.k.id] p.k).gate.toNat ((fT [x.k.id,y.k.id] p.k).aw.toNat-1))/\ψ _=ψ (BF ls (fT [x.k.id,y.k.id] p.k).gate.toNat ((fT [x.k.id,y.k.id] p.k).aw.toNat-1)))/\ψ _=ψ (TF ls (fT [x.k.id,y.k.id] p.k).gate.toNat (fT [x.k.id,y.k.id] p.k).aw.toNat)/\ψ _=ψ (BF ls (fT [x.k.id,y.k.id] p.k).gate.toNat (fT [x.k.id,y.k.id] p.k).aw.toNat);rw[zw pp];exact⟨⟨rfl,rfl⟩,rfl,rfl⟩
  .rw[gi,mG,<- vV r];obtain⟨t1,t2⟩:=q4.gt k hk;exact⟨congrArg ψ t1,congrArg ψ t2⟩
  rw[gi,mG,<- vV r];obtain⟨t1,t2⟩:=q4.gz;exact⟨congrArg ψ t1,congrArg ψ t2⟩
 have Km:Cert F (r.map fun w=>lL [x.k.id,y.k.id] w.p):=by
  refine Cq.done (X:=[x,y,u,v]) (r:=r) (X':=[]) (L:=[mc,bg]) (N:=[]) (V:=ky ls) (z':=r.map (aP.mp ψ hL)) qn DF (fun t ht=>?_) (List.Perm.refl _) ⟨s.mp ψ,?_⟩ ?_ ?_ (fun t _ ht=>N8 fun e=>ht (by simp[e])) (fun w hw t ht ew yR=>?_) w8 (fun t ht=>by cases ht) (fun t ht=>by cases ht) (by rw[BK];exact cA _) ?_
  .obtain⟨w,hw,ew⟩:=c.wit t ht;refine⟨w,?_,ew⟩;have:w∈zF ls:=mj.mem_iff.1 hw;exact hP4.mem_iff.2 this
  .have e1:=Ow (ψ:=ψ) (h:=hL) rh;have e2:=Ow (ψ:=ψ) (h:=hL) mh;rw[show y.o.mp ψ=s.mp ψ from m1] at e1;rw[show v.o.mp ψ=s2.mp ψ from m2] at e2;show jH (s.mp ψ) ((c1++c2).map (aP.mp ψ hL)) (s.mp ψ);rw[km];exact Lq.2 ⟨_,e1,e2⟩
  .rw[nX];refine zW fun w _=>?_;rw[acJ];rfl
  .obtain⟨w,hw,oI⟩:=c.one;have hw':w∈[x,y,u,v]++r:=hP4.mem_iff.2 (mj.mem_iff.1 hw);rcases fi.1 hw' with h|h
   .exfalso;simp only[dh,lT,or_false] at h;rcases h with rfl|rfl|rfl|rfl
    .rw[lK cx] at oI;cases oI
    .rw[lK cy] at oI;cases oI
    .rw[lK cu] at oI;cases oI
    rw[lK cv] at oI;cases oI
   refine⟨w.mp ψ hL,by rw[gi];exact dy.2 ⟨w,h,rfl⟩,?_⟩;show(fT [x.k.id,y.k.id] w.k).aG=true;rw[(zx _).aG];exact oI
  .simp only[dh,lT,or_false,Ab] at hw yR;have key:=m3 t (by
    rcases hw with rfl|rfl|rfl|rfl
    .exact .inl ew
    .exact .inr (.inl ew)
    .exact .inr (.inr (.inl ew))
    exact .inr (.inr (.inr ew)))
   have hψ:ψ t=t:=N8 yR.1;have put:∀d∈r,(t=d.o.l\/t=d.o.r)->∃y'∈[]++r.map (aP.mp ψ hL),t=y'.o.l\/t=y'.o.r:=fun d hd h=>by
    refine⟨d.mp ψ hL,by rw[gi];exact dy.2 ⟨d,hd,rfl⟩,?_⟩;rcases h with h|h
    .left;show t=ψ d.o.l;rw[<- h,hψ]
    right;show t=ψ d.o.r;rw[<- h,hψ]
   rcases key with h|h|h|h
   .exact absurd h yR.1
   .exact absurd h yR.2
   .obtain⟨d,hd,ed⟩:=Ov mh hj9;exact put d (zY _ hd) (by rw[ed];exact h)
   obtain⟨d,hd,ed⟩:=Ov rh gK;exact put d (FA _ hd) (by rw[ed];exact h)
  rw[gi,mC,mP];have h1:=g.nw;rw[xN] at h2;rw[Ek] at h3;show ay Let.aG (aR (c1++c2))+ay Let.aB (aR (c1++c2))/2+1+2<=_;simp only[eP];omega
 rw[pa,pb];show Cert F ((jQ (pieces ls) (nk [x.k.id,y.k.id])).map (lL [x.k.id,y.k.id]));rw[acb (l:=pieces ls) (drop:=nk [x.k.id,y.k.id]) (d:=fun p=>(p.l.kind==2)&&[x.k.id,y.k.id].contains p.l.id) fun _ _=>rfl];refine Yj (a:=a) ?_;rw[Hh];have hkx:(x.p.l.kind==2)=true:=cx;have KD:(y.p.l.kind==2)=true:=cy;have hku:(u.p.l.kind==2)=true:=cu;have hkv:(v.p.l.kind==2)=true:=cv;have akJ:∀d∈r,(fun p:Pc=> !((p.l.kind==2)&&[x.k.id,y.k.id].contains p.l.id)) d.p=true:=fun d hd=>by
  show(!((d.p.l.kind==2)&&_))=true;cases hk:(d.p.l.kind==2)
  .rfl
  obtain⟨n1,n2⟩:=O6 d hd hk;simp[n1,n2]
 have Nu:∀(d:aP) (t:List Pc),(d.p.l.kind==2)=true->(d.k.id=x.k.id\/d.k.id=y.k.id)->(d.p::t).filter (fun p=> !((p.l.kind==2)&&[x.k.id,y.k.id].contains p.l.id))=t.filter (fun p=> !((p.l.kind==2)&&[x.k.id,y.k.id].contains p.l.id)):=fun d t hd h=>by
  refine Wh ?_;rcases h with h|h
  .have h:d.p.l.id=x.k.id:=h;simp[h,hd]
  have h:d.p.l.id=y.k.id:=h;simp[h,hd]
 have hf:((x::y::(c1++u::v::c2)).map aP.p).filter (fun p=> !((p.l.kind==2)&&[x.k.id,y.k.id].contains p.l.id))=r.map aP.p:=by
  rw[eE,eE,Nu x _ hkx (.inl rfl),Nu y _ KD (.inr rfl),km,Ma,eE,eE,
   Nu u _ hku (Kz.imp (fun h=>h.1) fun h=>h.1),Nu v _ hkv (Kz.symm.imp (fun h=>h.2) fun h=>h.2)]
  rw[<- Ma,<- km];refine filter_all fun p hp=>?_;obtain⟨d,hd,rfl⟩:=dy.1 hp;exact akJ d hd
 rw[hf,nX];exact Km
end
theorem aqK{α:Type}{z:List α}{a:Nat}{x:α}(h:z[a]?=some x):z=z.take a++x::z.drop (a+1):=by
 obtain⟨hl,e⟩:=aY.1 h;have:z.drop a=x::z.drop (a+1):=by rw[<- e,w7]
 rw[<- this,tz]
section
variable {F:Nat} {ls:List Let}
end
section
variable {F:Nat} {ls:List Let}
end
end Go.Abs
