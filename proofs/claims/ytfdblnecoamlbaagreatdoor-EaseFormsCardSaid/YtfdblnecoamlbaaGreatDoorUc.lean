/- A part. -/
import Derived.Test.YtfdblnecoamlbaaGreatDoorUa
import Derived.Test.YtfdblnecoamlbaaGreatDoorWw
set_option linter.all false
set_option maxHeartbeats 16000000
namespace Go.Abs
def jW(c e a:Nat):Nat:=if a=c then e else a
def uQ(c e:Nat):jW c e c=e:=aD rfl
def uR(c e:Nat):jW c e e=e:=by unfold jW;split<;>rfl
def Q9{c e a:Nat}(h:a≠c):jW c e a=a:=ay h
def uW(g ab lZ:Int)(l:Let):Let:=if (l.kind==1)&&((l.gate==g)&&decide (ab<l.aC)) then {l with aC:=l.aC+lZ} else l
def atA(g ab lZ:Int)(p:Pc):tu g ab lZ p=⟨uW g ab lZ p.l,p.d⟩:=by unfold tu uW;split<;>rfl
def F2(g ab lZ:Int):Bi (uW g ab lZ):=by refine⟨fun l=>?_,fun l=>?_,fun l=>?_⟩<;>unfold uW<;>split<;>rfl
def Lb(g ab lZ:Int)(l:Let):(uW g ab lZ l).gate=l.gate:=by unfold uW;split<;>rfl
def Sk(g ab lZ:Int)(l:Let):(uW g ab lZ l).id=l.id:=by unfold uW;split<;>rfl
def atw{g ab lZ:Int}{l:Let}(h:l.aA=true):uW g ab lZ l=l:=by unfold uW;have:=oG h;unfold Let.aE at this;rw[this];simp
def atx(g ab lZ:Int)(k:Nat)(l:Let):nV k (uW g ab lZ l)=nV k l:=by unfold nV;rw[(F2 g ab lZ).aE,Lb]
def atz{g ab lZ:Int}{l:Let}(h:l.aE=true):(uW g ab lZ l).aC=if l.gate=g/\ab<l.aC then l.aC+lZ else l.aC:=by
 unfold uW;unfold Let.aE at h;rw[h];by_cases c:l.gate=g/\ab<l.aC
 .rw[aD c,aD (by simp[c.1,c.2])]
 rw[ay c,ay (by simpa using c)]
def aty{F:Nat}{g ab lZ:Int}{l:Let}(h:dL F l=false):dL F (uW g ab lZ l)=false:=by
 rcases v7 h with hp|hc
 .have gn:(uW g ab lZ l).aE=true:=by rw[(F2 g ab lZ).aE];exact hp
  rw[sB hp] at h;rw[sB gn,Lb,Sk,(F2 g ab lZ).sign,(F2 g ab lZ).over];exact h
 rw[atw hc];exact h
def Xy{l:c_}{drop:Nat->Pc->Bool}:∀d j,j+d<=l.length->(∀i p,j<=i->i<j+d->drop i p=false)->uL l drop (j+d)=uL l drop j++(l.drop j).take d:=by
 intro d
 induction d with
 |zero=>intro j _ _;simp
 |succ d ih=>intro j hj h;obtain⟨p,hp⟩:=aM (ls:=l) (k:=j+d) aa;rw[show j+(d+1)=(j+d)+1 by omega,Kv hp (h _ _ aa aa),ih j aa fun i p h1 h2=>h i p h1 aa,qq,zJ,hp,vU];rfl
def aft{l:c_}{a:Nat}(ha:a<l.length)(h2:2<=l.length){p q:Pc}{r:c_}(e:l.drop a++l.take a=p::q::r):∃u v,(qK l fun k _=>decide (k=a)||decide (k=(a+1)%l.length))=u++v/\r=v++u:=by
 have M8:∀i (p:Pc),i≠a->i≠(a+1)%l.length->(fun(k:Nat) (_:Pc)=>decide (k=a)||decide (k=(a+1)%l.length)) i p=false:=fun i p h1 h2=>by simp[h1,h2]
 have vx:∀i (p:Pc),i=a\/i=(a+1)%l.length->(fun(k:Nat) (_:Pc)=>decide (k=a)||decide (k=(a+1)%l.length)) i p=true:=fun i p h=>by simpa using h
 obtain⟨x,hx⟩:=aM ha;by_cases c:a+1<l.length
 .obtain⟨y,hy⟩:=aM c;have hm:(a+1)%l.length=a+1:=gY c;rw[hm] at M8 vx |-;have k0:=Xy (l:=l) (drop:=fun k _=>decide (k=a)||decide (k=a+1)) a 0 aa fun i p _ h=>M8 i p aa aa;have k1:=BS (drop:=fun k _=>decide (k=a)||decide (k=a+1)) hx (vx a x (.inl rfl));have k2:=BS (drop:=fun k _=>decide (k=a)||decide (k=a+1)) hy (vx (a+1) y (.inr rfl));have k3:=Xy (l:=l) (drop:=fun k _=>decide (k=a)||decide (k=a+1)) (l.length-(a+2)) (a+1+1) aa fun i p h _=>M8 i p aa aa;refine⟨l.take a,l.drop (a+2),?_,?_⟩
  .unfold qK;rw[show a+1+1+(l.length-(a+2))=l.length by omega,k2,k1] at k3;rw[js] at k0;rw[k3,k0];have:uL l (fun k _=>decide (k=a)||decide (k=a+1)) 0=[]:=rfl;rw[this,List.drop_zero,fZ,iz (l:=l.drop (a+1+1)) (by rw[lO];omega)]
  have e1:l.drop a=x::y::l.drop (a+2):=by obtain⟨h1,e1⟩:=aT.1 hx;obtain⟨h2,e2⟩:=aT.1 hy;rw[<- uc h1,e1,<- uc h2,e2]
  rw[e1] at e;simp only[mW,yh] at e;exact e.2.2.symm
 have ea:a+1=l.length:=aa;have hm:(a+1)%l.length=0:=by rw[ea,En]
 rw[hm] at M8 vx |-;obtain⟨y,hy⟩:=aM (ls:=l) (k:=0) aa;have k1:=BS (drop:=fun k _=>decide (k=a)||decide (k=0)) hy (vx 0 y (.inr rfl));have k2:=Xy (l:=l) (drop:=fun k _=>decide (k=a)||decide (k=0)) (a-1) 1 aa fun i p h h'=>M8 i p aa aa;have k3:=BS (drop:=fun k _=>decide (k=a)||decide (k=0)) hx (vx a x (.inl rfl));refine⟨[],(l.drop 1).take (a-1),?_,?_⟩
 .unfold qK;rw[<- ea,k3];rw[show 1+(a-1)=a by omega] at k2;rw[k2];rw[show(1:Nat)=0+1 from rfl,k1];rfl
 have e1:l.drop a=[x]:=by obtain⟨h1,e1⟩:=aT.1 hx;rw[<- uc h1,e1,List.drop_eq_nil_of_le aa]
 have e2:l.take a=y::(l.drop 1).take (a-1):=by
  obtain⟨h1,e1⟩:=aT.1 hy;have:l=y::l.drop 1:=by have:=uc h1;rw[e1,List.drop_zero] at this;exact this.symm
  conv=>lhs;rw[this]
  rw[show a=(a-1)+1 by omega,List.take_succ_cons];rfl
 rw[e1,e2] at e;simp only[mW,fZ,yh] at e;rw[jA];exact e.2.2.symm
section
variable {F:Nat} {ls:ai}
def eG.ext'{s t:eG}(h1:s.l=t.l)(h2:s.r=t.r)(h3:s.b=t.b):s=t:=by cases s;cases t;simp_all
def akP(g:cX F ls){a:Nat}(ha:a<ls.length){L:c_}(h:ug ls a=some L):L=[]\/Cert F L:=by
 obtain⟨x,y,r,s,e,hx,hy,c,hp,Kh,_,_,pI⟩:=Zj g ha;have q:=c.q;unfold ug at h;have e1:(pieces ls).getD a ⟨lX,false⟩=x.p:=by rw[dA,hx];rfl
 have e2:(pieces ls).getD ((a+1)%ls.length) ⟨lX,false⟩=y.p:=by rw[dA,hy];rfl
 simp only[e1,e2] at h;split at h
 case isFalse=>cases h
 rename_i hc;simp only[cU,dk,mj,Bool.and_eq_false_iff,decide_eq_false_iff_not] at hc;obtain⟨ji,o9,qF,my,aoj⟩:=hc;cases h;have px:x.k.aE=true:=by show(x.k.kind==1)=true;simp[ji]
 have py:y.k.aE=true:=by show(y.k.kind==1)=true;simp[o9]
 obtain⟨kW,fM,uF⟩:=hp;have ox:=(q.ok x af).pb px;have oy:=(q.ok y af).pb py;have plx:=q.pl x af px;have ply:=q.pl y af py;have gx:=((sB px).1 (q.ok x af).bad).1.1.1;have rx:=q.rr x af px;have ry:=q.rr y af py;have yX:y.k.gate=x.k.gate:=qF.symm;rw[yX] at ry
 -- the counts
 have Ai:∀z:l_,aq Let.aA (aR (x::y::z))=aq Let.aA (aR z):=fun z=>by rw[mL,mL,(ifP px).1,(ifP py).1];omega
 have Hk:∀z:l_,aq Let.aE (aR (x::y::z))=aq Let.aE (aR z)+2:=fun z=>by rw[mL,mL,(ifP px).2,(ifP py).2];omega
 have hGi:((x.k.gate.toNat:Nat):Int)=x.k.gate:=Int.toNat_of_nonneg gx.1;have yM:∀(z:l_) k,cg (aR (x::y::z)) k=cg (aR z) k+if k=x.k.gate.toNat then 2 else 0:=fun z k=>by
  show aq _ _=aq _ _+_;rw[mL,mL];have:∀w:aQ,w.k.aE=true->w.k.gate=x.k.gate->(if nV k w.k=true then 1 else 0)=if k=x.k.gate.toNat then 1 else 0:=fun w hw hgw=>by
   unfold nV;rw[hw,hgw];by_cases ck:k=x.k.gate.toNat
   .subst ck;simp[hGi]
   have:(x.k.gate==(k:Int))=false:=by rw[lS];omega
   simp[this,ck]
  rw[this x px rfl,this y py yX];split<;>omega
 have h2:aq Let.aA (aR (x::y::r))=aq Let.aA ls:=by rw[CW pI,mF]
 have h3:aq Let.aE (aR (x::y::r))=aq Let.aE ls:=by rw[CW pI,mF]
 have hlen:ls.length=r.length+2:=by have:=pI.length_eq;rw[Lv] at this;simpa using this.symm
 -- ranks
 obtain⟨lo,hlo1,WR,tc⟩:∃lo:Nat,1<=lo/\((x.k.aC=lo/\y.k.aC=lo+1)\/(x.k.aC=lo+1/\y.k.aC=lo))/\tY x.k.aC y.k.aC=lo+1:=by
  have Kg:tY x.k.aC y.k.aC-xX x.k.aC y.k.aC=1:=my;unfold tY xX at Kg;unfold tY;by_cases c1:x.k.aC<y.k.aC
  .rw[aD c1] at Kg |-;rw[ay aa] at Kg;exact⟨x.k.aC.toNat,aa,.inl ⟨aa,aa⟩,aa⟩
  rw[ay c1] at Kg |-;by_cases c2:y.k.aC<x.k.aC
  .rw[aD c2] at Kg;exact⟨y.k.aC.toNat,aa,.inr ⟨aa,aa⟩,aa⟩
  rw[ay c2] at Kg;omega
 have adQ:lo+1<=cg (aR (x::y::r)) x.k.gate.toNat:=by rcases WR with ⟨h1,h2⟩|⟨h1,h2⟩<;>omega
 -- which names are merged
 obtain⟨mc,me,m1,m2,m3,m4,m5⟩:∃mc me:Nat,(y.o.mp (jW mc me)=s.mp (jW mc me))/\jW mc me (TF ls x.k.gate.toNat (lo+1))=jW mc me (TF ls x.k.gate.toNat (lo-1))/\jW mc me (BF ls x.k.gate.toNat (lo+1))=jW mc me (BF ls x.k.gate.toNat (lo-1))/\
   (∀t,(t=y.o.l\/t=y.o.r)->t=mc\/t=s.l\/t=s.r)/\True:=by
  have hdy:y.p.d= !x.p.d:=by have h1:=oy.2;rw[fM,ox.1] at h1;revert h1;cases x.p.d<;>cases y.p.d<;>simp
  have hb:y.o.b=s.b:=by rw[oy.1,hdy,<- kW,ox.2]
  obtain⟨p1,p2,p3,p4⟩:=plx;obtain⟨p5,p6,p7,p8⟩:=ply;rw[yX] at p5 p6 p7 p8;unfold aQ.up at p1 p2 p5 p6;unfold aQ.lo at p3 p4 p7 p8;rw[hdy] at p5 p6 p7 p8;rw[kW] at p1 p2 p3 p4;rw[fM] at p5 p6 p7 p8;have done:∀mc me,(jW mc me y.o.l=jW mc me s.l)->(jW mc me y.o.r=jW mc me s.r)->y.o.mp (jW mc me)=s.mp (jW mc me):=fun mc me h1 h2=>eG.ext' h1 h2 hb;rcases WR with ⟨r1,r2⟩|⟨r1,r2⟩
  .have n1:x.k.aC.toNat=lo:=aa;have n2:y.k.aC.toNat=lo+1:=aa;rw[n1] at p1 p2 p3 p4;rw[n2] at p5 p6 p7 p8;rw[Nat.add_sub_cancel] at p5 p7;cases hd:x.p.d<;>rw[hd] at p1 p2 p3 p4 p5 p6 p7 p8<;>simp only[Bool.not_false,Cx,dN,if_false,if_true,jh] at p1 p2 p3 p4 p5 p6 p7 p8
   .have ee:y.o.r=s.r:=by rw[p7,p4]
    refine⟨y.o.l,s.l,done _ _ ?_ (by rw[ee]),by rw[<- p6,p1],by rw[<- p8,<- p3,uQ,uR],?_,trivial⟩
    .rw[uQ,uR]
    rintro t (rfl|rfl)
    .exact .inl rfl
    exact .inr (.inr ee)
   have ee:y.o.l=s.l:=by rw[p5,p2]
   refine⟨y.o.r,s.r,done _ _ (by rw[ee]) ?_,by rw[<- p6,<- p1,uQ,uR],by rw[<- p8,p3],?_,trivial⟩
   .rw[uQ,uR]
   rintro t (rfl|rfl)
   .exact .inr (.inl ee)
   exact .inl rfl
  have n1:x.k.aC.toNat=lo+1:=aa;have n2:y.k.aC.toNat=lo:=aa;rw[n1] at p1 p2 p3 p4;rw[n2] at p5 p6 p7 p8;rw[Nat.add_sub_cancel] at p1 p3;cases hd:x.p.d<;>rw[hd] at p1 p2 p3 p4 p5 p6 p7 p8<;>simp only[Bool.not_false,Cx,dN,if_false,if_true,jh] at p1 p2 p3 p4 p5 p6 p7 p8
  .have ee:y.o.l=s.l:=by rw[p8,p3]
   refine⟨y.o.r,s.r,done _ _ (by rw[ee]) ?_,by rw[<- p2,p5],by rw[<- p4,<- p7,uQ,uR],?_,trivial⟩
   .rw[uQ,uR]
   rintro t (rfl|rfl)
   .exact .inr (.inl ee)
   exact .inl rfl
  have ee:y.o.r=s.r:=by rw[p6,p1]
  refine⟨y.o.l,s.l,done _ _ ?_ (by rw[ee]),by rw[<- p2,<- p5,uQ,uR],by rw[<- p4,p7],?_,trivial⟩
  .rw[uQ,uR]
  rintro t (rfl|rfl)
  .exact .inl rfl
  exact .inr (.inr ee)
 clear m5;by_cases hr:∃w∈r,w.k.aE=true
 case neg=>
  left;have Fb:aq Let.aE (aR r)=0:=Lx.2 fun l hl Dz=>by obtain⟨w,hw,rfl⟩:=dh.1 hl;exact hr ⟨w,hw,Dz⟩
  have hC0:aq Let.aA ls=0:=by have eD:=q.ev;rw[h2] at eD;rw[Hk] at h3;rcases aoj with h|h<;>omega
  have:ls.length=2:=by have:=afI g.ok;rw[Hk] at h3;omega
  have BE:r=[]:=Ej.1 aa;obtain⟨u,v,k1,k2⟩:=aft (l:=pieces ls) (a:=a) (by rw[fK];exact ha) (by rw[fK];omega) (by rw[Kh];rfl);rw[fK] at k1;rw[BE] at k2;have k2:=k2.symm;simp only[lQ,List.append_eq_nil_iff] at k2;unfold kY;rw[k1,k2.1,k2.2];rfl
 right;obtain⟨w0,vF,pw0⟩:=hr;have ao0:r≠[]:=List.ne_nil_of_mem vF
 let ψ:=jW mc me
 let hL:=uW x.k.gate (lo+1) (-2)
 let T':Nat->Nat->Nat:=fun G k=>if G=x.k.gate.toNat then (if k<=lo-1 then ψ (TF ls G k) else ψ (TF ls G (k+2))) else ψ (TF ls G k)
 let B':Nat->Nat->Nat:=fun G k=>if G=x.k.gate.toNat then (if k<=lo-1 then ψ (BF ls G k) else ψ (BF ls G (k+2))) else ψ (BF ls G k)
 have mC:aq Let.aA (aR (r.map (aQ.mp ψ hL)))=aq Let.aA (aR r):=CV (fun l=>(F2 _ _ _).aA l) r;have mP:aq Let.aE (aR (r.map (aQ.mp ψ hL)))=aq Let.aE (aR r):=CV (fun l=>(F2 _ _ _).aE l) r;have mG:∀k,cg (aR (r.map (aQ.mp ψ hL))) k=cg (aR r) k:=fun k=>CV (fun l=>atx _ _ _ k l) r;have inr:∀w∈r,w∈x::y::r:=fun w hw=>by simp[hw]
 -- the others have other ranks
 have oth:∀w∈r,w.k.aE=true->w.k.gate=x.k.gate->w.k.aC<lo\/(lo:Int)+1<w.k.aC:=fun w hw pw gw=>by obtain⟨d1,d2⟩:=rM.1 q.rk;obtain⟨d3,_⟩:=rM.1 d2;have n1:=d1 w (by simp[hw]) px pw gw.symm;have n2:=d3 w hw py pw (by rw[yX,gw]);rcases WR with ⟨r1,r2⟩|⟨r1,r2⟩<;>omega
 have rk':∀w∈r,w.k.aE=true->(hL w.k).aC=if w.k.gate=x.k.gate/\(lo:Int)+1<w.k.aC then w.k.aC-2 else w.k.aC:=fun w hw pw=>by have:=atz (g:=x.k.gate) (ab:=(lo:Int)+1) (lZ:= -2) pw;rw[show w.k.aC+ -2=w.k.aC-2 by omega] at this;exact this
 have key:∀f:Nat->Nat->Nat,ψ (f x.k.gate.toNat (lo+1))=ψ (f x.k.gate.toNat (lo-1))->∀w∈r,w.k.aE=true->
   (ψ (f w.k.gate.toNat (w.k.aC.toNat-1))=(fun G k=>if G=x.k.gate.toNat then (if k<=lo-1 then ψ (f G k) else ψ (f G (k+2))) else ψ (f G k)) (hL w.k).gate.toNat ((hL w.k).aC.toNat-1))/\
   ψ (f w.k.gate.toNat w.k.aC.toNat)=(fun G k=>if G=x.k.gate.toNat then (if k<=lo-1 then ψ (f G k) else ψ (f G (k+2))) else ψ (f G k)) (hL w.k).gate.toNat (hL w.k).aC.toNat:=by
  intro f hf w hw pw;have Ds:(hL w.k).gate=w.k.gate:=Lb _ _ _ _;have gw:=((sB pw).1 (q.ok w (inr w hw)).bad).1.1.1;have rw1:=(q.rr w (inr w hw) pw).1;rw[rk' w hw pw,Ds];by_cases v8:w.k.gate=x.k.gate
  .have ho:=oth w hw pw v8;simp only[v8,if_true,true_and];by_cases cr:(lo:Int)+1<w.k.aC
   .rw[aD cr];constructor
    .by_cases c3:(w.k.aC-2).toNat-1<=lo-1
     .rw[aD c3];have e3:w.k.aC.toNat-1=lo+1:=aa;have e4:(w.k.aC-2).toNat-1=lo-1:=aa;rw[e3,e4];exact hf
     rw[ay c3];congr 2;omega
    rw[ay aa];congr 2;omega
   rw[ay cr];constructor
   .rw[aD aa]
   rw[aD aa]
  have:¬(w.k.gate.toNat=x.k.gate.toNat):=aa;simp only[v8,false_and,if_false,ay this];exact⟨trivial,trivial⟩
 have keyg:∀f:Nat->Nat->Nat,ψ (f x.k.gate.toNat (lo+1))=ψ (f x.k.gate.toNat (lo-1))->∀k,
   ((fun G k=>if G=x.k.gate.toNat then (if k<=lo-1 then ψ (f G k) else ψ (f G (k+2))) else ψ (f G k)) k (cg (aR r) k)=ψ (f k (cg (aR (x::y::r)) k)))/\
   (fun G k=>if G=x.k.gate.toNat then (if k<=lo-1 then ψ (f G k) else ψ (f G (k+2))) else ψ (f G k)) k 0=ψ (f k 0):=by
  intro f hf k;rw[yM r k];by_cases ck:k=x.k.gate.toNat
  .subst ck;simp only[if_true];rw[aD (bG _)];refine⟨?_,rfl⟩;rw[yM r x.k.gate.toNat,aD rfl] at adQ;by_cases c3:cg (aR r) x.k.gate.toNat<=lo-1
   .rw[aD c3];have e3:cg (aR r) x.k.gate.toNat=lo-1:=aa;rw[e3,show lo-1+2=lo+1 by omega];exact hf.symm
   rw[ay c3]
  simp only[ay ck,u9];exact⟨trivial,trivial⟩
 have qn:Cq F ([]++r.map (aQ.mp ψ hL)) T' B':=by
  refine Cq.edit (X:=[x,y]) (r:=r) q (F2 _ _ _) (fun w hw=>aty (q.ok w (inr w hw)).bad) (fun u hu v hv cu cv e=>?_) (fun u hu v hv pu pv e1 e2=>?_) (fun _ h=>by cases h) List.Pairwise.nil List.Pairwise.nil (fun _ h=>by cases h) (fun _ h=>by cases h) ?_ (fun _ h=>by cases h) (fun u hu cu=>?_) (fun _ h=>by cases h) (fun u hu pu=>?_) (fun _ h=>by cases h) (fun u hu pu=>?_) (fun k hk=>?_) ?_
  .rw[Sk,Sk] at e;exact e
  .have e1':u.k.gate=v.k.gate:=by rw[Lb,Lb] at e1;exact e1
   refine⟨e1',?_⟩;have e2:(hL u.k).aC=(hL v.k).aC:=e2;rw[rk' u hu pu,rk' v hv pv] at e2;by_cases v8:u.k.gate=x.k.gate
   .have o1:=oth u hu pu v8;have o2:=oth v hv pv (e1'▸v8);have cv:v.k.gate=x.k.gate:=e1'▸v8;simp only[v8,cv,true_and] at e2;split at e2<;>split at e2<;>omega
   have cv:¬v.k.gate=x.k.gate:=e1'▸v8;simp only[v8,cv,false_and,if_false] at e2;exact e2
  .rw[fZ,mC,<- Ai r];exact q.ev
  .rw[fZ,mC,Sk,<- Ai r];exact q.ids u (inr u hu) cu
  .rw[fZ,Lb,mG];show 1<=(hL u.k).aC/\(hL u.k).aC<=_;rw[rk' u hu pu];have h1:=q.rr u (inr u hu) pu;rw[yM r] at h1;have gu:=((sB pu).1 (q.ok u (inr u hu)).bad).1.1.1;by_cases v8:u.k.gate=x.k.gate
   .have o1:=oth u hu pu v8;rw[v8] at h1 |-;rw[aD rfl] at h1;rw[yM r,aD rfl] at adQ;simp only[true_and];split<;>omega
   simp only[v8,false_and,if_false];rw[ay aa] at h1;exact h1
  .obtain⟨t1,t2⟩:=key (TF ls) m2 u hu pu;obtain⟨b1,b2⟩:=key (BF ls) m3 u hu pu;exact⟨⟨t1,b1⟩,t2,b2⟩
  .rw[fZ,mG];obtain⟨t1,t2⟩:=keyg (TF ls) m2 k;obtain⟨b1,b2⟩:=keyg (BF ls) m3 k;obtain⟨_,t3⟩:=keyg (TF ls) m2 (k+1);obtain⟨_,b3⟩:=keyg (BF ls) m3 (k+1);have:=q.gt k hk;exact⟨by rw[show T' k _=_ from t1,this.1];exact t3.symm,by rw[show B' k _=_ from b1,this.2];exact b3.symm⟩
  rw[fZ,mG];obtain⟨t1,t2⟩:=keyg (TF ls) m2 F;obtain⟨b1,b2⟩:=keyg (BF ls) m3 F;obtain⟨_,t3⟩:=keyg (TF ls) m2 0;obtain⟨_,b3⟩:=keyg (BF ls) m3 0;have:=q.gz;exact⟨by rw[show T' F _=_ from t1,this.1];exact t3.symm,by rw[show B' F _=_ from b1,this.2];exact b3.symm⟩
 have Nb:Cert F (r.map fun w=>tu x.k.gate (lo+1) (-2) w.p):=by
  refine Cq.done (X:=[x,y]) (r:=r) (X':=[]) (L:=[mc,x.o.l,x.o.r]) (N:=[]) (V:=mT ls) (z':=r.map (aQ.mp ψ hL)) qn c.nd (fun t ht=>c.wit t ht) (List.Perm.refl _) ⟨s.mp ψ,?_⟩ ?_ ?_ (fun t _ ht=>Q9 fun e=>ht (by simp[e])) (fun w hw t ht ew Bv=>?_) xl (fun t ht=>by cases ht) (fun t ht=>by cases ht) (by rw[Ek];exact bR _) ?_
  .have:=Rw (ψ:=ψ) (h:=hL) uF;rwa[show y.o.mp ψ=s.mp ψ from m1] at this
  .rw[ue];refine Bd fun w _=>?_;rw[atA];rfl
  .refine⟨w0.mp ψ hL,?_,?_⟩
   .rw[fZ];exact dh.2 ⟨w0,vF,rfl⟩
   show(hL w0.k).aE=true;rw[(F2 _ _ _).aE];exact pw0
  .obtain⟨v,hv,hvo⟩:=Rv uF ao0;simp only[cD,fq,or_false,not_or] at hw Bv;have key:t=s.l\/t=s.r:=by
    rcases hw with rfl|rfl
    .rcases ew with ew|ew
     .exact absurd ew Bv.2.1
     exact absurd ew Bv.2.2
    rcases m4 t ew with h|h
    .exact absurd h Bv.1
    exact h
   refine⟨v.mp ψ hL,by rw[fZ];exact dh.2 ⟨v,hv,rfl⟩,?_⟩;show t=ψ v.o.l\/t=ψ v.o.r;rw[hvo];have:ψ t=t:=Q9 Bv.1;rcases key with h|h
   .left;rw[<- h,this]
   right;rw[<- h,this]
  rw[fZ,mC,mP];have h1:=g.nw;rw[Ai] at h2;rw[Hk] at h3;simp only[fe,dC];omega
 obtain⟨u,v,k1,k2⟩:=aft (l:=pieces ls) (a:=a) (by rw[fK];exact ha) (by rw[fK];omega) (by rw[Kh];rfl);rw[fK] at k1;show Cert F ((qK (pieces ls) fun k _=>decide (k=a)||decide (k=(a+1)%ls.length)).map (tu x.k.gate (tY x.k.aC y.k.aC) (-2)));rw[k1,tc,kZ];refine Cert.lM ?_;rw[<- kZ,<- k2,ue];exact Nb
end
section
variable {F:Nat} {ls:ai}
def TT(g:cX F ls){pl:Nat}{edges:a_}{e0:Nat}(he0:e0<ls.length)(h:lk F ls pl edges e0=true):∃w,w∈gU (aW ls) (nD ls)/\(nk F ls w).places.length=pl/\((w.filter fun x=>decide (x<2*ls.length)).length=edges.length)/\ ∀e∈edges,∃d,d∈w/\d<2*ls.length/\d/2=e:=by
 have key:∀f∈eS F ls,we f pl edges=true->∃w,w∈gU (aW ls) (nD ls)/\(nk F ls w).places.length=pl/\((w.filter fun x=>decide (x<2*ls.length)).length=edges.length)/\ ∀e∈edges,∃d,d∈w/\d<2*ls.length/\d/2=e:=by intro f hf hc;obtain⟨w,hw,rfl⟩:=dh.1 hf;unfold we at hc;simp only[cU,dk,gO] at hc;obtain⟨h1,h2,h3⟩:=hc;rw[Dd] at h1;refine⟨w,hw,h2,h1,fun e he=>?_⟩;have h4:=h3 e he;unfold vj at h4;obtain⟨d,hd,pV⟩:=zH.1 (show 0<((nk F ls w).cq.countP fun d=>d/2==e) by omega);rw[Dd] at hd;obtain⟨d1,d2⟩:=u7.1 hd;exact⟨d,d1,by simpa using d2,by simpa using pV⟩
 unfold lk at h;rw[vT] at h;rcases h with h|h
 .exact key _ (PW aa) h
 exact key _ (PW aa) h
def aiw{D:a_}(h:D.length=2){x y:Nat}(hx:x∈D)(hy:y∈D)(aI:x≠y){z:Nat}(hz:z∈D):z=x\/z=y:=by
 match D,h with
 |[p,q],_=>simp only[cD,fq,or_false] at hx hy hz;omega
def agv{e:Nat}(he:e<ls.length){l:Let}(hl:ls[nx ls e]?=some l)(hc:l.aA=true):aW ls (2*e)=dF ls.length (fJ ls (nx ls e)) (gX l):=by
 have:2*e=gE ls.length (nx ls e) true:=by unfold gE nx;rw[aD rfl,xY he]
 rw[this,zA hl hc];unfold gX;cases (l.over==(l.sign==1))<;>rfl
def agu{e:Nat}{l:Let}(hl:ls[e]?=some l)(hc:l.aA=true):aW ls (2*e+1)=dF ls.length (fJ ls e) (!gX l):=by have:2*e+1=gE ls.length e false:=rfl;rw[this,zA hl hc];unfold gX;cases (l.over==(l.sign==1))<;>rfl
def yt{v:Nat}{b:Bool}{x:Nat}(h:dF ls.length v b=x):(b=true/\x=2*v)\/(b=false/\x=2*((v+ls.length-1)%ls.length)+1):=by
 cases b
 .exact .inr ⟨rfl,h.symm⟩
 exact .inl ⟨rfl,h.symm⟩
def CM{v e:Nat}(hv:v<ls.length)(h:(v+ls.length-1)%ls.length=e):v=nx ls e:=by unfold nx;rw[<- h,vH hv]
def Dh(ok:fA F ls){v u:Nat}{l m:Let}(hl:ls[v]?=some l)(hc:l.aA=true)(hm:ls[u]?=some m)(ho:fJ ls v=u):gX m= !gX l/\m.aA=true/\m.id=l.id:=by obtain⟨_,w,hw,wc,wi,wo,ws⟩:=sC ok.cr hl hc;rw[ho,hm] at hw;cases hw;refine⟨?_,wc,wi⟩;unfold gX;rw[wo,ws];cases l.over<;>cases (l.sign==1)<;>rfl
def KS(ok:fA F ls){v:Nat}{l:Let}(hl:ls[v]?=some l)(hc:l.aA=true):fJ ls v<ls.length:=by obtain⟨_,w,hw,_⟩:=sC ok.cr hl hc;exact(aT.1 hw).1
def ary(g:cX F ls){a b:Nat}(ha:a<ls.length)(hb:b<ls.length){lx ly lu lv:Let}(hx:ls[a]?=some lx)(hy:ls[nx ls a]?=some ly)(hu:ls[b]?=some lu)(hv:ls[nx ls b]?=some lv)
  (cx:lx.aA=true) (cy:ly.aA=true) (cu:lu.aA=true) (cv:lv.aA=true) (j6:lx.id≠ly.id) (HH:lu.id≠lv.id) (ef:a≠b) (h:lk F ls 0 [a,b] a=true):gX lx= !gX ly:=by
 have ok:=g.ok;obtain⟨w,hw,_,hlen,hE⟩:=TT g ha h;obtain⟨da,xy,vh,zW⟩:=hE a af;obtain⟨db,yA,wm,zX⟩:=hE b af;have aI:da≠db:=aa;have inD:∀d,d∈w->d<2*ls.length->d∈w.filter fun x=>decide (x<2*ls.length):=fun d h1 h2=>u7.2 ⟨h1,by simpa using h2⟩;have two:∀d,d∈w->d<2*ls.length->d=da\/d=db:=fun d h1 h2=>aiw hlen (inD da xy vh) (inD db yA wm) aI (inD d h1 h2);have nin:∀d,d∈w->aW ls d∈w:=fun d hd=>Cu (maps ok) hw hd;have str:∀(v:Nat) (b:Bool),v<ls.length->dF ls.length v b<2*ls.length:=fun v b hv=>by have:=yv hv (!b);rw[<- A1] at this;have:=A2 this;rwa[A3] at this
 have oy:=KS ok hy cy;have ox:=KS ok hx cx;have ou:=KS ok hu cu;have ov:=KS ok hv cv
 -- where the walk goes on
 have na:(da=2*a/\aW ls da=dF ls.length (fJ ls (nx ls a)) (gX ly))\/(da=2*a+1/\aW ls da=dF ls.length (fJ ls a) (!gX lx)):=by
  rcases xn da with c|c
  .have:da=2*a:=aa;exact .inl ⟨this,by rw[this];exact agv ha hy cy⟩
  have:da=2*a+1:=aa;exact .inr ⟨this,by rw[this];exact agu hx cx⟩
 have nb:(db=2*b/\aW ls db=dF ls.length (fJ ls (nx ls b)) (gX lv))\/(db=2*b+1/\aW ls db=dF ls.length (fJ ls b) (!gX lu)):=by
  rcases xn db with c|c
  .have:db=2*b:=aa;exact .inl ⟨this,by rw[this];exact agv hb hv cv⟩
  have:db=2*b+1:=aa;exact .inr ⟨this,by rw[this];exact agu hu cu⟩
 have ta:aW ls da=da\/aW ls da=db:=two _ (nin _ xy) (by rcases na with ⟨_,e⟩|⟨_,e⟩<;>rw[e]<;>exact str _ _ (by assumption));have tb:aW ls db=da\/aW ls db=db:=two _ (nin _ yA) (by rcases nb with ⟨_,e⟩|⟨_,e⟩<;>rw[e]<;>exact str _ _ (by assumption));have ta':aW ls da=db:=by
  rcases ta with e|e
  .exfalso;rcases na with ⟨e1,e2⟩|⟨e1,e2⟩
   .rw[e] at e2;rcases yt e2.symm with ⟨_,e3⟩|⟨_,e3⟩
    .exact j6 (Dh ok hy cy hx aa).2.2
    omega
   rw[e] at e2;rcases yt e2.symm with ⟨_,e3⟩|⟨_,e3⟩
   .omega
   exact j6 (Dh ok hx cx hy (CM ox aa)).2.2.symm
  exact e
 have tb':aW ls db=da:=by
  rcases tb with e|e
  .exact e
  exfalso;rcases nb with ⟨e1,e2⟩|⟨e1,e2⟩
  .rw[e] at e2;rcases yt e2.symm with ⟨_,e3⟩|⟨_,e3⟩
   .exact HH (Dh ok hv cv hu aa).2.2
   omega
  rw[e] at e2;rcases yt e2.symm with ⟨_,e3⟩|⟨_,e3⟩
  .omega
  exact HH (Dh ok hu cu hv (CM ou aa)).2.2.symm
 rcases na with ⟨ea,e1⟩|⟨ea,e1⟩<;>rcases nb with ⟨eb,e2⟩|⟨eb,e2⟩<;>rw[ta'] at e1<;>rw[tb'] at e2
 .rcases yt e1.symm with ⟨g1,e3⟩|⟨g1,e3⟩<;>rcases yt e2.symm with ⟨g2,e4⟩|⟨g2,e4⟩<;>try omega
  have:=(Dh ok hv cv hx aa).1;rw[this,g1,g2]
 .rcases yt e1.symm with ⟨g1,e3⟩|⟨g1,e3⟩<;>rcases yt e2.symm with ⟨g2,e4⟩|⟨g2,e4⟩<;>try omega
  have:=(Dh ok hu cu hx aa).1;rw[this,g1,g2];rfl
 .rcases yt e1.symm with ⟨g1,e3⟩|⟨g1,e3⟩<;>rcases yt e2.symm with ⟨g2,e4⟩|⟨g2,e4⟩<;>try omega
  have:=(Dh ok hv cv hy (CM ov aa)).1;rw[this,g2];revert g1;cases gX lx<;>simp
 rcases yt e1.symm with ⟨g1,e3⟩|⟨g1,e3⟩<;>rcases yt e2.symm with ⟨g2,e4⟩|⟨g2,e4⟩<;>try omega
 have:=(Dh ok hu cu hy (CM ou aa)).1;rw[this];revert g1 g2;cases gX lx<;>cases gX lu<;>simp
def Sy{x p w:aQ}(h1:Xr x p)(h2:Xr x w)(h3:Xr p w)(cx:x.k.aA=true)(cp:p.k.aA=true)(cw:w.k.aA=true)(e1:x.k.id=p.k.id):w.k.id≠x.k.id:=by intro e2;have a:=(h1 cx cp e1).ov;have b:=(h2 cx cw e2.symm).ov;have d:=(h3 cp cw (by rw[<- e1,e2])).ov;rw[b] at a;rw[d] at a;revert a;cases w.k.over<;>simp
def Sc{α:Type}{z:List α}{a j:Nat}(ha:a<z.length)(hj:j<z.length):(z.drop a++z.take a)[j]?=z[(a+j)%z.length]? :=by
 by_cases h:a+j<z.length
 .rw[xh (by rw[lO];omega),zJ,gY h]
 rw[zI (by rw[lO];omega),lO,mI,aD aa,Nat.mod_eq_sub_mod aa,gY aa];congr 1;omega
def auP{α:Type}{r:List α}{j:Nat}{u v:α}(hu:r[j]?=some u)(hv:r[j+1]?=some v):r=r.take j++u::v::r.drop (j+2):=by
 obtain⟨h1,e1⟩:=aT.1 hu;obtain⟨h2,e2⟩:=aT.1 hv;have:r.drop j=u::v::r.drop (j+2):=by rw[<- uc h1,e1,<- uc h2,e2]
 rw[<- this,mJ]
end
def XM{p q w:Int}{l:Let}(hc:l.aA=true)(hw:l.id=w):(iH [p,q] l).id=w-(if p<w then 1 else 0)-(if q<w then 1 else 0):=by rw[afU hc,hw];by_cases c1:p<w<;>by_cases c2:q<w<;>simp[c1,c2]<;>omega
section
variable {F:Nat} {ls:ai}
def akR(g:cX F ls){a b:Nat}(ha:a<ls.length)(hb:b<ls.length){L:c_}(h:uS F ls a b=some L):Cert F L:=by
 obtain⟨x,y,r0,s,e,hx,hy,c,hp,Kh,hzx,hzy,pI⟩:=Zj g ha;have q:=c.q;have mS:=Lv ls;unfold uS at h;split at h
 case isFalse=>cases h
 rename_i hc;simp only[cU,vT,dk,mj,lS] at hc;obtain⟨hbo,aI,ad1,jk,uD,Ak⟩:=hc;have pa:pA ls a=x.p:=je hx;have pb:pA ls (nx ls a)=y.p:=je hy;cases h;have hnb:nx ls b<ls.length:=dr _ aa;have hna:nx ls a<ls.length:=dr _ aa;obtain⟨u,Kt⟩:=aM (ls:=zF ls) (k:=b) aa;obtain⟨v,N6⟩:=aM (ls:=zF ls) (k:=nx ls b) aa;have pc:pA ls b=u.p:=je (by rw[<- Iz,fG,Kt];rfl);have pd:pA ls (nx ls b)=v.p:=je (by rw[<- Iz,fG,N6];rfl);rw[pa,pb] at aI;rw[pa,pb,pc,pd] at ad1
 -- they are visits, two over and two under
 have kinds:x.k.aA=true/\y.k.aA=true/\u.k.aA=true/\v.k.aA=true/\x.k.over=y.k.over/\u.k.over=v.k.over/\x.k.over≠u.k.over:=by
  have bo:∀e ov,jt ls e ov=true->(pA ls e).l.aA=true/\(pA ls (nx ls e)).l.aA=true/\(pA ls e).l.over=ov/\(pA ls (nx ls e)).l.over=ov:=fun e ov h=>by unfold jt at h;simp only[cU,dk] at h;obtain⟨h1,h2,h3,h4⟩:=h;exact⟨by unfold Let.aA;rw[h1];rfl,by unfold Let.aA;rw[h2];rfl,h3,h4⟩
  rcases hbo with ⟨h1,h2⟩|⟨h1,h2⟩<;>obtain⟨a1,a2,a3,a4⟩:=bo _ _ h1<;>obtain⟨b1,b2,b3,b4⟩:=bo _ _ h2
  all_goals
   rw[pa] at a1 a3;rw[pb] at a2 a4;rw[pc] at b1 b3;rw[pd] at b2 b4;refine⟨a1,a2,b1,b2,?_,?_,?_⟩
   .show x.p.l.over=y.p.l.over;rw[a3,a4]
   .show u.p.l.over=v.p.l.over;rw[b3,b4]
   show x.p.l.over≠u.p.l.over;rw[a3,b3];decide
 obtain⟨cx,cy,cu,cv,ov1,ov2,ov3⟩:=kinds;have j6:x.k.id≠y.k.id:=aI;have Nq:(u.k.id=x.k.id/\v.k.id=y.k.id)\/(u.k.id=y.k.id/\v.k.id=x.k.id):=ad1;have HH:u.k.id≠v.k.id:=by
  rcases Nq with ⟨h1,h2⟩|⟨h1,h2⟩
  .rw[h1,h2];exact j6
  rw[h1,h2];exact j6.symm
 have ef:a≠b:=by
  rintro rfl
  rw[hzx] at Kt;cases Kt;exact ov3 rfl
 have lx:ls[a]?=some x.k:=by have:=BZ hzx;rwa[mF] at this
 have ly:ls[nx ls a]?=some y.k:=by have:=BZ hzy;rwa[mF] at this
 have lu:ls[b]?=some u.k:=by have:=BZ Kt;rwa[mF] at this
 have lv:ls[nx ls b]?=some v.k:=by have:=BZ N6;rwa[mF] at this
 have hg:=ary g ha hb lx ly lu lv cx cy cu cv j6 HH ef Ak
 -- where the second Py stands, from the first one on
 obtain⟨j,Hs,nz,BC⟩:∃j,j+3<ls.length/\(a+(j+2))%ls.length=b/\(a+(j+3))%ls.length=nx ls b:=by
  have QB:nx ls a≠b:=by intro e;rw[e,Kt] at hzy;cases hzy;exact ov3 ov1
  have WX:nx ls b≠a:=by intro e;rw[e,hzx] at N6;cases N6;exact ov3 ov2.symm
  unfold nx at QB WX |-;by_cases c1:a<b
  .have e1:(a+1)%ls.length=a+1:=gY aa;rw[e1] at QB;have h2:b≠a+1:=fun h=>QB h.symm;have h3:¬(b+1=ls.length/\a=0):=fun⟨h3,h4⟩=>WX (by rw[h3,En,h4]);refine⟨b-a-2,aa,?_,?_⟩
   .rw[show a+(b-a-2+2)=b by omega,gY hb]
   rw[show a+(b-a-2+3)=b+1 by omega]
  have e1:(b+1)%ls.length=b+1:=gY aa;rw[e1] at WX;have h3:¬(a+1=ls.length/\b=0):=fun⟨h3,h4⟩=>QB (by rw[h3,En,h4]);refine⟨b+ls.length-a-2,aa,?_,?_⟩
  .rw[show a+(b+ls.length-a-2+2)=b+ls.length by omega,qV,gY hb]
  rw[show a+(b+ls.length-a-2+3)=b+1+ls.length by omega,qV]
 have hru:r0[j]?=some u:=by have:=Sc (z:=zF ls) (a:=a) (j:=j+2) aa aa;rw[e,mS,nz,Kt] at this;exact this
 have Ki:r0[j+1]?=some v:=by have:=Sc (z:=zF ls) (a:=a) (j:=j+3) aa aa;rw[e,mS,BC,N6] at this;exact this
 have qc:=auP hru Ki;obtain⟨c1,c2,tS,an3,M5⟩:∃c1 c2,r0=c1++u::v::c2/\c1.length=j/\c2.length+j+4=ls.length:=by
  refine⟨_,_,qc,?_,?_⟩
  .have:=(aT.1 hru).1;rw[iK];omega
  have h1:=(aT.1 Ki).1;have h2:=pI.length_eq;rw[mS] at h2;simp only[dC] at h2;rw[lO];omega
 subst tS
 -- the two paths that are left
 obtain⟨kW,fM,uF⟩:=hp;obtain⟨s2,pE,AO,za,mw⟩:=Ox.1 uF;have hj0:j≠0:=by
  rintro rfl
  exact jk nz
 have hj9:c2≠[]:=by
  rintro rfl
  simp only[fe] at M5;refine uD ?_;rw[<- nz,Be,show a+(j+2)+2=a+ls.length by omega,qV,gY ha]
 have ji:c1≠[]:=by rintro rfl;simp at an3;omega
 have q4:Cq F ([x,y,u,v]++(c1++c2)) (TF ls) (BF ls):=by refine q.perm ?_;refine List.Perm.cons x (List.Perm.cons y ?_);exact List.perm_middle.trans (List.Perm.cons u List.perm_middle)
 obtain⟨w1,q5⟩:=rM.1 q4.cr;obtain⟨w2,q6⟩:=rM.1 q5;obtain⟨w3,q7⟩:=rM.1 q6;obtain⟨w4,q8⟩:=rM.1 q7;have rxu:Xr x u:=w1 u af;have rxv:Xr x v:=w1 v af;have ryu:Xr y u:=w2 u af;have ryv:Xr y v:=w2 v af;have Sz:∀w∈c1++c2,w.k.aA=true->w.k.id≠x.k.id/\w.k.id≠y.k.id:=fun w hw cw=>by
  have a1:Xr x w:=w1 w (El [y,u,v] hw);have a2:Xr y w:=w2 w (El [u,v] hw);have a3:Xr u w:=w3 w (El [v] hw);have a4:Xr v w:=w4 w hw;rcases Nq with ⟨h1,h2⟩|⟨h1,h2⟩
  .exact⟨Sy rxu a1 a3 cx cu cw h1.symm,Sy ryv a2 a4 cy cv cw h2.symm⟩
  exact⟨Sy rxv a1 a4 cx cv cw h2.symm,Sy ryu a2 a3 cy cu cw h1.symm⟩
 have bx:=(q4.ok x af).cb cx;have lZ:=(q4.ok y af).cb cy;have bu:=(q4.ok u af).cb cu;have bv:=(q4.ok v af).cb cv;rw[kW] at bx;rw[fM] at lZ;rw[za] at bv
 -- which names are merged, and which are lost
 obtain⟨mc,me,bg,m1,m2,m3⟩:∃mc me bg:Nat,y.o.mp (jW mc me)=s.mp (jW mc me)/\v.o.mp (jW mc me)=s2.mp (jW mc me)/\
   (∀t,(t=x.o.l\/t=x.o.r)\/(t=y.o.l\/t=y.o.r)\/(t=u.o.l\/t=u.o.r)\/(t=v.o.l\/t=v.o.r)->t=mc\/t=bg\/(t=s.l\/t=s.r)\/(t=s2.l\/t=s2.r)):=by
  have dw:y.o.b=s.b:=by rw[<- lZ,<- bx]
  have bj:v.o.b=s2.b:=by rw[<- bv,<- bu,AO]
  have fin:∀mc me,jW mc me y.o.l=jW mc me s.l->jW mc me y.o.r=jW mc me s.r->jW mc me v.o.l=jW mc me s2.l->jW mc me v.o.r=jW mc me s2.r->y.o.mp (jW mc me)=s.mp (jW mc me)/\v.o.mp (jW mc me)=s2.mp (jW mc me):=fun mc me k1 k2 k3 k4=>⟨eG.ext' k1 k2 dw,eG.ext' k3 k4 bj⟩;rcases Nq with ⟨h1,h2⟩|⟨h1,h2⟩
  .have p1:=(rxu cx cu h1.symm).x4;have p2:=(ryv cy cv h2.symm).x4;rw[kW,AO] at p1;rw[fM,za] at p2;obtain⟨a1,a2,a3,a4⟩:=p1;obtain⟨b1,b2,b3,b4⟩:=p2;cases Au:gX x.k
   .have yX:gX y.k=true:=by revert hg;rw[Au];cases gX y.k<;>simp
    rw[Au] at a1 a2 a3 a4;rw[yX] at b1 b2 b3 b4;simp only[dN,if_false,if_true] at a1 a2 a3 a4 b1 b2 b3 b4;refine⟨y.o.l,s.l,x.o.r,?_⟩;have f:=fin y.o.l s.l (by rw[uQ,uR]) (by rw[b2,a4]) (by rw[<- b1,a3]) (by rw[b4,<- a1,uQ,uR]);refine⟨f.1,f.2,?_⟩;rintro t ((rfl|rfl)|(rfl|rfl)|(rfl|rfl)|(rfl|rfl))
    .exact .inr (.inr (.inr (.inl a3.symm)))
    .exact .inr (.inl rfl)
    .exact .inl rfl
    .exact .inr (.inr (.inl (.inr (b2.trans a4))))
    .exact .inr (.inl a2.symm)
    .exact .inr (.inr (.inl (.inr a4)))
    .exact .inr (.inr (.inr (.inl (by rw[<- b1,a3]))))
    exact .inl b4
   have yX:gX y.k=false:=by revert hg;rw[Au];cases gX y.k<;>simp
   rw[Au] at a1 a2 a3 a4;rw[yX] at b1 b2 b3 b4;simp only[dN,if_false,if_true] at a1 a2 a3 a4 b1 b2 b3 b4;refine⟨y.o.r,s.r,x.o.l,?_⟩;have f:=fin y.o.r s.r (by rw[<- b3,a1]) (by rw[uQ,uR]) (by rw[a3,<- b2,uQ,uR]) (by rw[b4,a2]);refine⟨f.1,f.2,?_⟩;rintro t ((rfl|rfl)|(rfl|rfl)|(rfl|rfl)|(rfl|rfl))
   .exact .inr (.inl rfl)
   .exact .inr (.inr (.inr (.inr a2)))
   .exact .inr (.inr (.inl (.inl (by rw[<- b3,a1]))))
   .exact .inl rfl
   .exact .inr (.inr (.inl (.inl a1.symm)))
   .exact .inr (.inl a4)
   .exact .inl b2.symm
   exact .inr (.inr (.inr (.inr (b4.trans a2))))
  have p1:=(rxv cx cv h2.symm).x4;have p2:=(ryu cy cu h1.symm).x4;rw[kW,za] at p1;rw[fM,AO] at p2;obtain⟨a1,a2,a3,a4⟩:=p1;obtain⟨b1,b2,b3,b4⟩:=p2;cases Au:gX x.k
  .have yX:gX y.k=true:=by revert hg;rw[Au];cases gX y.k<;>simp
   rw[Au] at a1 a2 a3 a4;rw[yX] at b1 b2 b3 b4;simp only[dN,if_false,if_true] at a1 a2 a3 a4 b1 b2 b3 b4;refine⟨y.o.r,s.r,x.o.l,?_⟩;have f:=fin y.o.r s.r (by rw[a1,<- b4]) (by rw[uQ,uR]) (by rw[<- a2,b3]) (by rw[a4,<- b2,uQ,uR]);refine⟨f.1,f.2,?_⟩;rintro t ((rfl|rfl)|(rfl|rfl)|(rfl|rfl)|(rfl|rfl))
   .exact .inr (.inl rfl)
   .exact .inr (.inr (.inr (.inl b3.symm)))
   .exact .inr (.inr (.inl (.inl (by rw[a1,<- b4]))))
   .exact .inl rfl
   .exact .inr (.inl b1.symm)
   .exact .inr (.inr (.inl (.inl (by rw[a1]))))
   .exact .inr (.inr (.inr (.inl (by rw[<- a2,b3]))))
   exact .inr (.inr (.inl (.inr a4)))
  have yX:gX y.k=false:=by revert hg;rw[Au];cases gX y.k<;>simp
  rw[Au] at a1 a2 a3 a4;rw[yX] at b1 b2 b3 b4;simp only[dN,if_false,if_true] at a1 a2 a3 a4 b1 b2 b3 b4;refine⟨y.o.l,s.l,x.o.r,?_⟩;have f:=fin y.o.l s.l (by rw[uQ,uR]) (by rw[b2,a3]) (by rw[<- a1,b3,uQ,uR]) (by rw[a4,b1]);refine⟨f.1,f.2,?_⟩;rintro t ((rfl|rfl)|(rfl|rfl)|(rfl|rfl)|(rfl|rfl))
  .exact .inr (.inr (.inr (.inr b1)))
  .exact .inr (.inl rfl)
  .exact .inl rfl
  .exact .inr (.inr (.inl (.inr (by rw[b2,a3]))))
  .exact .inr (.inr (.inl (.inr a3)))
  .exact .inr (.inl b4)
  .exact .inr (.inr (.inl (.inl a1.symm)))
  exact .inr (.inr (.inr (.inr (a4.trans b1))))
 have Ai:∀z:l_,aq Let.aA (aR ([x,y,u,v]++z))=aq Let.aA (aR z)+4:=fun z=>by rw[TH,mL,mL,mL,mL,TI,(zc cx).1,(zc cy).1,(zc cu).1,(zc cv).1];omega
 have Hk:∀z:l_,aq Let.aE (aR ([x,y,u,v]++z))=aq Let.aE (aR z):=fun z=>by rw[TH,mL,mL,mL,mL,TI,(zc cx).2,(zc cy).2,(zc cu).2,(zc cv).2];omega
 have yM:∀(z:l_) k,cg (aR ([x,y,u,v]++z)) k=cg (aR z) k:=fun z k=>by show aq _ _=aq _ _;rw[TH,mL,mL,mL,mL,TI,I0 k cx,I0 k cy,I0 k cu,I0 k cv];simp
 have hP4:([x,y,u,v]++(c1++c2)).Perm (zF ls):=by refine List.Perm.trans (List.Perm.symm ?_) pI;refine List.Perm.cons x (List.Perm.cons y ?_);exact List.perm_middle.trans (List.Perm.cons u List.perm_middle)
 have h2:aq Let.aA (aR ([x,y,u,v]++(c1++c2)))=aq Let.aA ls:=by rw[CW hP4,mF]
 have h3:aq Let.aE (aR ([x,y,u,v]++(c1++c2)))=aq Let.aE ls:=by rw[CW hP4,mF]
 have eD:=q4.ev
 let ψ:=jW mc me
 let hL:=iH [x.k.id,y.k.id]
 let r:=c1++c2
 have mC:aq Let.aA (aR (r.map (aQ.mp ψ hL)))=aq Let.aA (aR r):=CV (fun l=>(BY _).aA l) r;have mP:aq Let.aE (aR (r.map (aQ.mp ψ hL)))=aq Let.aE (aR r):=CV (fun l=>(BY _).aE l) r;have mG:∀k,cg (aR (r.map (aQ.mp ψ hL))) k=cg (aR r) k:=fun k=>CV (fun l=>afS _ k l) r;have JY:∀w∈[x,y,u,v]++r,w.k.aA=true->1<=w.k.id/\w.k.id<=((aq Let.aA (aR r)/2:Nat):Int)+2:=fun w hw hc=>by have:=q4.ids w hw hc;rw[Ai] at this;show 1<=w.k.id/\w.k.id<=((aq Let.aA (aR (c1++c2))/2:Nat):Int)+2;omega
 have idx:=JY x af cx;have idy:=JY y af cy;have inr:∀w∈r,w∈[x,y,u,v]++r:=fun w hw=>El _ hw;have qn:Cq F ([]++r.map (aQ.mp ψ hL)) (fun G k=>ψ (TF ls G k)) (fun G k=>ψ (BF ls G k)):=by
  refine Cq.edit (X:=[x,y,u,v]) (r:=r) q4 (BY _) (fun w hw=>afT (q4.ok w (inr w hw)).bad) (fun p hp o ho cp co e=>?_) (fun p hp o ho pp po e1 e2=>?_) (fun _ h=>by cases h) List.Pairwise.nil List.Pairwise.nil (fun _ h=>by cases h) (fun _ h=>by cases h) ?_ (fun _ h=>by cases h) (fun p hp cp=>?_) (fun _ h=>by cases h) (fun p hp pp=>?_) (fun _ h=>by cases h) (fun p hp pp=>?_) (fun k hk=>?_) ?_
  .obtain⟨n1,n2⟩:=Sz p hp cp;obtain⟨n3,n4⟩:=Sz o ho co;rw[XM cp rfl,XM co rfl] at e;split at e<;>split at e<;>split at e<;>split at e<;>omega
  .have e1:(iH [x.k.id,y.k.id] p.k).gate=(iH [x.k.id,y.k.id] o.k).gate:=e1;have e2:(iH [x.k.id,y.k.id] p.k).aC=(iH [x.k.id,y.k.id] o.k).aC:=e2;rw[BX pp,BX po] at e1 e2;exact⟨e1,e2⟩
  .rw[fZ,mC];rw[Ai] at eD;show aq Let.aA (aR (c1++c2))%2=0;omega
  .rw[fZ,mC];show 1<=(iH [x.k.id,y.k.id] p.k).id/\(iH [x.k.id,y.k.id] p.k).id<=_;rw[XM cp rfl];have h1:=JY p (inr p hp) cp;obtain⟨n1,n2⟩:=Sz p hp cp;have hxy':=j6;split<;>split<;>omega
  .rw[fZ,mG];show 1<=(iH [x.k.id,y.k.id] p.k).aC/\(iH [x.k.id,y.k.id] p.k).aC<=((cg (aR r) (iH [x.k.id,y.k.id] p.k).gate.toNat:Nat):Int);rw[BX pp,<- yM r];exact q4.rr p (inr p hp) pp
  .show(ψ _=ψ (TF ls (iH [x.k.id,y.k.id] p.k).gate.toNat ((iH [x.k.id,y.k.id] p.k).aC.toNat-1))/\ψ _=ψ (BF ls (iH [x.k.id,y.k.id] p.k).gate.toNat ((iH [x.k.id,y.k.id] p.k).aC.toNat-1)))/\ψ _=ψ (TF ls (iH [x.k.id,y.k.id] p.k).gate.toNat (iH [x.k.id,y.k.id] p.k).aC.toNat)/\ψ _=ψ (BF ls (iH [x.k.id,y.k.id] p.k).gate.toNat (iH [x.k.id,y.k.id] p.k).aC.toNat);rw[BX pp];exact⟨⟨rfl,rfl⟩,rfl,rfl⟩
  .rw[fZ,mG,<- yM r];obtain⟨t1,t2⟩:=q4.gt k hk;exact⟨congrArg ψ t1,congrArg ψ t2⟩
  rw[fZ,mG,<- yM r];obtain⟨t1,t2⟩:=q4.gz;exact⟨congrArg ψ t1,congrArg ψ t2⟩
 have Nb:Cert F (r.map fun w=>tj [x.k.id,y.k.id] w.p):=by
  refine Cq.done (X:=[x,y,u,v]) (r:=r) (X':=[]) (L:=[mc,bg]) (N:=[]) (V:=mT ls) (z':=r.map (aQ.mp ψ hL)) qn Gg (fun t ht=>?_) (List.Perm.refl _) ⟨s.mp ψ,?_⟩ ?_ ?_ (fun t _ ht=>Q9 fun e=>ht (by simp[e])) (fun w hw t ht ew Bv=>?_) xl (fun t ht=>by cases ht) (fun t ht=>by cases ht) (by rw[Ek];exact bR _) ?_
  .obtain⟨w,hw,ew⟩:=c.wit t ht;refine⟨w,?_,ew⟩;have:w∈zF ls:=pI.mem_iff.1 hw;exact hP4.mem_iff.2 this
  .have e1:=Rw (ψ:=ψ) (h:=hL) pE;have e2:=Rw (ψ:=ψ) (h:=hL) mw;rw[show y.o.mp ψ=s.mp ψ from m1] at e1;rw[show v.o.mp ψ=s2.mp ψ from m2] at e2;show kN (s.mp ψ) ((c1++c2).map (aQ.mp ψ hL)) (s.mp ψ);rw[kZ];exact Ox.2 ⟨_,e1,e2⟩
  .rw[ue];refine Bd fun w _=>?_;rw[afW];rfl
  .obtain⟨w,hw,rC⟩:=c.one;have FB:w∈[x,y,u,v]++r:=hP4.mem_iff.2 (pI.mem_iff.1 hw);rcases eK.1 FB with h|h
   .exfalso;simp only[cD,fq,or_false] at h;rcases h with rfl|rfl|rfl|rfl
    .rw[oG cx] at rC;cases rC
    .rw[oG cy] at rC;cases rC
    .rw[oG cu] at rC;cases rC
    rw[oG cv] at rC;cases rC
   refine⟨w.mp ψ hL,by rw[fZ];exact dh.2 ⟨w,h,rfl⟩,?_⟩;show(iH [x.k.id,y.k.id] w.k).aE=true;rw[(BY _).aE];exact rC
  .simp only[cD,fq,or_false,not_or] at hw Bv;have key:=m3 t (by
    rcases hw with rfl|rfl|rfl|rfl
    .exact .inl ew
    .exact .inr (.inl ew)
    .exact .inr (.inr (.inl ew))
    exact .inr (.inr (.inr ew)))
   have hψ:ψ t=t:=Q9 Bv.1;have put:∀d∈r,(t=d.o.l\/t=d.o.r)->∃y'∈[]++r.map (aQ.mp ψ hL),t=y'.o.l\/t=y'.o.r:=fun d hd h=>by
    refine⟨d.mp ψ hL,by rw[fZ];exact dh.2 ⟨d,hd,rfl⟩,?_⟩;rcases h with h|h
    .left;show t=ψ d.o.l;rw[<- h,hψ]
    right;show t=ψ d.o.r;rw[<- h,hψ]
   rcases key with h|h|h|h
   .exact absurd h Bv.1
   .exact absurd h Bv.2
   .obtain⟨d,hd,ed⟩:=Rv mw hj9;exact put d (El _ hd) (by rw[ed];exact h)
   obtain⟨d,hd,ed⟩:=Rv pE ji;exact put d (Gc _ hd) (by rw[ed];exact h)
  rw[fZ,mC,mP];have h1:=g.nw;rw[Ai] at h2;rw[Hk] at h3;show aq Let.aE (aR (c1++c2))+aq Let.aA (aR (c1++c2))/2+1+2<=_;simp only[fe];omega
 rw[pa,pb];show Cert F ((qK (pieces ls) (vk [x.k.id,y.k.id])).map (tj [x.k.id,y.k.id]));rw[afs (l:=pieces ls) (drop:=vk [x.k.id,y.k.id]) (d:=fun p=>(p.l.kind==2)&&[x.k.id,y.k.id].contains p.l.id) fun _ _=>rfl];refine abu (a:=a) ?_;rw[Kh];have hkx:(x.p.l.kind==2)=true:=cx;have hky:(y.p.l.kind==2)=true:=cy;have hku:(u.p.l.kind==2)=true:=cu;have hkv:(v.p.l.kind==2)=true:=cv;have aoo:∀d∈r,(fun p:Pc=> !((p.l.kind==2)&&[x.k.id,y.k.id].contains p.l.id)) d.p=true:=fun d hd=>by
  show(!((d.p.l.kind==2)&&_))=true;cases hk:(d.p.l.kind==2)
  .rfl
  obtain⟨n1,n2⟩:=Sz d hd hk;simp[n1,n2]
 have Qt:∀(d:aQ) (t:c_),(d.p.l.kind==2)=true->(d.k.id=x.k.id\/d.k.id=y.k.id)->(d.p::t).filter (fun p=> !((p.l.kind==2)&&[x.k.id,y.k.id].contains p.l.id))=t.filter (fun p=> !((p.l.kind==2)&&[x.k.id,y.k.id].contains p.l.id)):=fun d t hd h=>by
  refine List.filter_cons_of_neg ?_;rcases h with h|h
  .have h:d.p.l.id=x.k.id:=h;simp[h,hd]
  have h:d.p.l.id=y.k.id:=h;simp[h,hd]
 have hf:((x::y::(c1++u::v::c2)).map aQ.p).filter (fun p=> !((p.l.kind==2)&&[x.k.id,y.k.id].contains p.l.id))=r.map aQ.p:=by
  rw[eh,eh,Qt x _ hkx (.inl rfl),Qt y _ hky (.inr rfl),kZ,List.filter_append,eh,eh,
   Qt u _ hku (Nq.imp (fun h=>h.1) fun h=>h.1),Qt v _ hkv (Nq.symm.imp (fun h=>h.2) fun h=>h.2)]
  rw[<- List.filter_append,<- kZ];refine filter_all fun p hp=>?_;obtain⟨d,hd,rfl⟩:=dh.1 hp;exact aoo d hd
 rw[hf,ue];exact Nb
end
def auO{α:Type}{z:List α}{a:Nat}{x:α}(h:z[a]?=some x):z=z.take a++x::z.drop (a+1):=by
 obtain⟨hl,e⟩:=aT.1 h;have:z.drop a=x::z.drop (a+1):=by rw[<- e,uc]
 rw[<- this,mJ]
section
variable {F:Nat} {ls:ai}
end
section
variable {F:Nat} {ls:ai}
end
end Go.Abs
