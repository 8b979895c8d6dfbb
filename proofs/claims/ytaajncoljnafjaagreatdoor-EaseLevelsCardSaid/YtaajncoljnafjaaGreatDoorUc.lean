/- A part. -/
import Derived.Test.YtaajncoljnafjaaGreatDoorUa
import Derived.Test.YtaajncoljnafjaaGreatDoorWw
set_option linter.all false
set_option maxHeartbeats 16000000
namespace Go.Abs
def jP(c e a:Nat):Nat:=if a=c then e else a
def ve(c e:Nat):jP c e c=e:=aD rfl
def vf(c e:Nat):jP c e e=e:=by unfold jP;split<;>rfl
def SB{c e a:Nat}(h:a≠c):jP c e a=a:=au h
def vj(g ab lT:Int)(l:Let):Let:=if(l.kind==1)&&((l.gate==g)&&decide (ab<l.aw))then{l with aw:=l.aw+lT}else l
def avq(g ab lT:Int)(p:Pc):tF g ab lT p=⟨vj g ab lT p.l,p.d⟩:=by unfold tF vj;split<;>rfl
def Gt(g ab lT:Int):BI (vj g ab lT):=by refine⟨fun l=>?_,fun l=>?_,fun l=>?_⟩<;>unfold vj<;>split<;>rfl
def LJ(g ab lT:Int)(l:Let):(vj g ab lT l).gate=l.gate:=by unfold vj;split<;>rfl
def Tk(g ab lT:Int)(l:Let):(vj g ab lT l).id=l.id:=by unfold vj;split<;>rfl
def avm{g ab lT:Int}{l:Let}(h:l.aB=true):vj g ab lT l=l:=by unfold vj;have:=nz h;unfold Let.aE at this;rw[this];simp
def avn(g ab lT:Int)(k:Nat)(l:Let):mE k (vj g ab lT l)=mE k l:=by unfold mE;rw[(Gt g ab lT).aE,LJ]
def avp{g ab lT:Int}{l:Let}(h:l.aE=true):(vj g ab lT l).aw=if l.gate=g/\ab<l.aw then l.aw+lT else l.aw:=by
 unfold vj;unfold Let.aE at h;rw[h];by_cases c:l.gate=g/\ab<l.aw
 .rw[aD c,aD (by simp[c.1,c.2])]
 rw[au c,au (by simpa using c)]
def avo{F:Nat}{g ab lT:Int}{l:Let}(h:dQ F l=false):dQ F (vj g ab lT l)=false:=by
 rcases wM h with hp|hc
 .have gh:(vj g ab lT l).aE=true:=by rw[(Gt g ab lT).aE];exact hp
  rw[sB hp]at h;rw[sB gh,LJ,Tk,(Gt g ab lT).sign,(Gt g ab lT).over];exact h
 rw[avm hc];exact h
def Yy{l:c_}{drop:Nat->Pc->Bool}:∀d j,j+d<=l.length->(∀i p,j<=i->i<j+d->drop i p=false)->u6 l drop (j+d)=u6 l drop j++(l.drop j).take d:=by
 intro d
 induction d with
 |zero=>intro j _ _;simp
 |succ d ih=>intro j hj h;obtain⟨p,hp⟩:=aL (ls:=l) (k:=j+d) aa;rw[show j+(d+1)=(j+d)+1 by omega,KW hp (h _ _ aa aa),ih j aa fun i p h1 h2=>h i p h1 aa,oZ,Ar,hp,wH];rfl
def agI{l:c_}{a:Nat}(ha:a<l.length)(h2:2<=l.length){p q:Pc}{r:c_}(e:l.drop a++l.take a=p::q::r):∃u v,(qP l fun k _=>decide (k=a)||decide (k=(a+1)%l.length))=u++v/\r=v++u:=by
 have NP:∀i (p:Pc),i≠a->i≠(a+1)%l.length->(fun(k:Nat) (_:Pc)=>decide (k=a)||decide (k=(a+1)%l.length)) i p=false:=fun i p h1 h2=>by simp[h1,h2]
 have vJ:∀i (p:Pc),i=a\/i=(a+1)%l.length->(fun(k:Nat) (_:Pc)=>decide (k=a)||decide (k=(a+1)%l.length)) i p=true:=fun i p h=>by simpa using h
 obtain⟨x,hx⟩:=aL ha;by_cases c:a+1<l.length
 .obtain⟨y,hy⟩:=aL c;have hm:(a+1)%l.length=a+1:=fT c;rw[hm]at NP vJ |-;have k0:=Yy (l:=l) (drop:=fun k _=>decide (k=a)||decide (k=a+1)) a 0 aa fun i p _ h=>NP i p aa aa;have k1:=Cx (drop:=fun k _=>decide (k=a)||decide (k=a+1)) hx (vJ a x (.inl rfl));have k2:=Cx (drop:=fun k _=>decide (k=a)||decide (k=a+1)) hy (vJ (a+1) y (.inr rfl));have k3:=Yy (l:=l) (drop:=fun k _=>decide (k=a)||decide (k=a+1)) (l.length-(a+2)) (a+1+1) aa fun i p h _=>NP i p aa aa;refine⟨l.take a,l.drop (a+2),?_,?_⟩
  .unfold qP;rw[show a+1+1+(l.length-(a+2))=l.length by omega,k2,k1]at k3;rw[jx]at k0;rw[k3,k0];have:u6 l (fun k _=>decide (k=a)||decide (k=a+1)) 0=[]:=rfl;rw[this,PO,gn,gK (l:=l.drop (a+1+1)) (by rw[lH];omega)]
  have e1:l.drop a=x::y::l.drop (a+2):=by obtain⟨h1,e1⟩:=aT.1 hx;obtain⟨h2,e2⟩:=aT.1 hy;rw[<-uw h1,e1,<-uw h2,e2]
  rw[e1]at e;simp only[nJ,yR]at e;exact e.2.2.symm
 have ea:a+1=l.length:=aa;have hm:(a+1)%l.length=0:=by rw[ea,E0]
 rw[hm]at NP vJ |-;obtain⟨y,hy⟩:=aL (ls:=l) (k:=0) aa;have k1:=Cx (drop:=fun k _=>decide (k=a)||decide (k=0)) hy (vJ 0 y (.inr rfl));have k2:=Yy (l:=l) (drop:=fun k _=>decide (k=a)||decide (k=0)) (a-1) 1 aa fun i p h h'=>NP i p aa aa;have k3:=Cx (drop:=fun k _=>decide (k=a)||decide (k=0)) hx (vJ a x (.inl rfl));refine⟨[],(l.drop 1).take (a-1),?_,?_⟩
 .unfold qP;rw[<-ea,k3];rw[show 1+(a-1)=a by omega]at k2;rw[k2];rw[show(1:Nat)=0+1 from rfl,k1];rfl
 have e1:l.drop a=[x]:=by obtain⟨h1,e1⟩:=aT.1 hx;rw[<-uw h1,e1,List.drop_eq_nil_of_le aa]
 have e2:l.take a=y::(l.drop 1).take (a-1):=by
  obtain⟨h1,e1⟩:=aT.1 hy;have:l=y::l.drop 1:=by have:=uw h1;rw[e1,PO]at this;exact this.symm
  conv=>lhs;rw[this]
  rw[show a=(a-1)+1 by omega,aaD];rfl
 rw[e1,e2]at e;simp only[nJ,gn,yR]at e;rw[jG];exact e.2.2.symm
section
variable {F:Nat} {ls:ai}
def eJ.ext'{s t:eJ}(h1:s.l=t.l)(h2:s.r=t.r)(h3:s.b=t.b):s=t:=by cases s;cases t;simp_all
def amI(g:ch F ls){a:Nat}(ha:a<ls.length){L:c_}(h:uC ls a=some L):L=[]\/Cert F L:=by
 obtain⟨x,y,r,s,e,hx,hy,c,hp,KI,_,_,oR⟩:=aah g ha;have q:=c.q;unfold uC at h;have e1:(pieces ls).getD a ⟨lQ,false⟩=x.p:=by rw[dC,hx];rfl
 have e2:(pieces ls).getD ((a+1)%ls.length) ⟨lQ,false⟩=y.p:=by rw[dC,hy];rfl
 simp only[e1,e2]at h;split at h
 case isFalse=>cases h
 rename_i hc;simp only[cH,cZ,l9,Bool.and_eq_false_iff,decide_eq_false_iff_not]at hc;obtain⟨je,qJ,qK,mq,ap6⟩:=hc;cases h;have px:x.k.aE=true:=by show(x.k.kind==1)=true;simp[je]
 have py:y.k.aE=true:=by show(y.k.kind==1)=true;simp[qJ]
 obtain⟨kM,fO,uX⟩:=hp;have ox:=(q.ok x af).pb px;have oy:=(q.ok y af).pb py;have plx:=q.pl x af px;have ply:=q.pl y af py;have gx:=((sB px).1 (q.ok x af).bad).1.1.1;have rx:=q.rr x af px;have ry:=q.rr y af py;have zM:y.k.gate=x.k.gate:=qK.symm;rw[zM]at ry
 -- the counts
 have A8:∀z:k_,aq Let.aB (aR (x::y::z))=aq Let.aB (aR z):=fun z=>by rw[mF,mF,(ifP px).1,(ifP py).1];omega
 have HC:∀z:k_,aq Let.aE (aR (x::y::z))=aq Let.aE (aR z)+2:=fun z=>by rw[mF,mF,(ifP px).2,(ifP py).2];omega
 have hGi:((x.k.gate.toNat:Nat):Int)=x.k.gate:=ako gx.1;have zB:∀(z:k_) k,cg (aR (x::y::z)) k=cg (aR z) k+if k=x.k.gate.toNat then 2 else 0:=fun z k=>by
  show aq _ _=aq _ _+_;rw[mF,mF];have:∀w:aQ,w.k.aE=true->w.k.gate=x.k.gate->(if mE k w.k=true then 1 else 0)=if k=x.k.gate.toNat then 1 else 0:=fun w hw hgw=>by
   unfold mE;rw[hw,hgw];by_cases ck:k=x.k.gate.toNat
   .subst ck;simp[hGi]
   have:(x.k.gate==(k:Int))=false:=by rw[lS];omega
   simp[this,ck]
  rw[this x px rfl,this y py zM];split<;>omega
 have h2:aq Let.aB (aR (x::y::r))=aq Let.aB ls:=by rw[DF oR,mz]
 have h3:aq Let.aE (aR (x::y::r))=aq Let.aE ls:=by rw[DF oR,mz]
 have hlen:ls.length=r.length+2:=by have:=oR.length_eq;rw[L7]at this;simpa using this.symm
 -- ranks
 obtain⟨lo,hlo1,XR,tm⟩:∃lo:Nat,1<=lo/\((x.k.aw=lo/\y.k.aw=lo+1)\/(x.k.aw=lo+1/\y.k.aw=lo))/\uk x.k.aw y.k.aw=lo+1:=by
  have KH:uk x.k.aw y.k.aw-yF x.k.aw y.k.aw=1:=mq;unfold uk yF at KH;unfold uk;by_cases c1:x.k.aw<y.k.aw
  .rw[aD c1]at KH |-;rw[au aa]at KH;exact⟨x.k.aw.toNat,aa,.inl ⟨aa,aa⟩,aa⟩
  rw[au c1]at KH |-;by_cases c2:y.k.aw<x.k.aw
  .rw[aD c2]at KH;exact⟨y.k.aw.toNat,aa,.inr ⟨aa,aa⟩,aa⟩
  rw[au c2]at KH;omega
 have ae4:lo+1<=cg (aR (x::y::r)) x.k.gate.toNat:=by rcases XR with⟨h1,h2⟩|⟨h1,h2⟩<;>omega
 -- which names are merged
 obtain⟨mc,me,m1,m2,m3,m4,m5⟩:∃mc me:Nat,(y.o.mp (jP mc me)=s.mp (jP mc me))/\jP mc me (TF ls x.k.gate.toNat (lo+1))=jP mc me (TF ls x.k.gate.toNat (lo-1))/\jP mc me (BF ls x.k.gate.toNat (lo+1))=jP mc me (BF ls x.k.gate.toNat (lo-1))/\
   (∀t,(t=y.o.l\/t=y.o.r)->t=mc\/t=s.l\/t=s.r)/\True:=by
  have hdy:y.p.d= !x.p.d:=by have h1:=oy.2;rw[fO,ox.1]at h1;revert h1;cases x.p.d<;>cases y.p.d<;>simp
  have hb:y.o.b=s.b:=by rw[oy.1,hdy,<-kM,ox.2]
  obtain⟨p1,p2,p3,p4⟩:=plx;obtain⟨p5,p6,p7,p8⟩:=ply;rw[zM]at p5 p6 p7 p8;unfold aQ.up at p1 p2 p5 p6;unfold aQ.lo at p3 p4 p7 p8;rw[hdy]at p5 p6 p7 p8;rw[kM]at p1 p2 p3 p4;rw[fO]at p5 p6 p7 p8;have done:∀mc me,(jP mc me y.o.l=jP mc me s.l)->(jP mc me y.o.r=jP mc me s.r)->y.o.mp (jP mc me)=s.mp (jP mc me):=fun mc me h1 h2=>eJ.ext' h1 h2 hb;rcases XR with⟨r1,r2⟩|⟨r1,r2⟩
  .have n1:x.k.aw.toNat=lo:=aa;have n2:y.k.aw.toNat=lo+1:=aa;rw[n1]at p1 p2 p3 p4;rw[n2]at p5 p6 p7 p8;rw[aaE]at p5 p7;cases hd:x.p.d<;>rw[hd]at p1 p2 p3 p4 p5 p6 p7 p8<;>simp only[GC,Ao,dN,if_false,if_true,jd]at p1 p2 p3 p4 p5 p6 p7 p8
   .have ee:y.o.r=s.r:=by rw[p7,p4]
    refine⟨y.o.l,s.l,done _ _ ?_ (by rw[ee]),by rw[<-p6,p1],by rw[<-p8,<-p3,ve,vf],?_,trivial⟩
    .rw[ve,vf]
    rintro t (rfl|rfl)
    .exact .inl rfl
    exact .inr (.inr ee)
   have ee:y.o.l=s.l:=by rw[p5,p2]
   refine⟨y.o.r,s.r,done _ _ (by rw[ee]) ?_,by rw[<-p6,<-p1,ve,vf],by rw[<-p8,p3],?_,trivial⟩
   .rw[ve,vf]
   rintro t (rfl|rfl)
   .exact .inr (.inl ee)
   exact .inl rfl
  have n1:x.k.aw.toNat=lo+1:=aa;have n2:y.k.aw.toNat=lo:=aa;rw[n1]at p1 p2 p3 p4;rw[n2]at p5 p6 p7 p8;rw[aaE]at p1 p3;cases hd:x.p.d<;>rw[hd]at p1 p2 p3 p4 p5 p6 p7 p8<;>simp only[GC,Ao,dN,if_false,if_true,jd]at p1 p2 p3 p4 p5 p6 p7 p8
  .have ee:y.o.l=s.l:=by rw[p8,p3]
   refine⟨y.o.r,s.r,done _ _ (by rw[ee]) ?_,by rw[<-p2,p5],by rw[<-p4,<-p7,ve,vf],?_,trivial⟩
   .rw[ve,vf]
   rintro t (rfl|rfl)
   .exact .inr (.inl ee)
   exact .inl rfl
  have ee:y.o.r=s.r:=by rw[p6,p1]
  refine⟨y.o.l,s.l,done _ _ ?_ (by rw[ee]),by rw[<-p2,<-p5,ve,vf],by rw[<-p4,p7],?_,trivial⟩
  .rw[ve,vf]
  rintro t (rfl|rfl)
  .exact .inl rfl
  exact .inr (.inr ee)
 clear m5;by_cases hr:∃w∈r,w.k.aE=true
 case neg=>
  left;have DV:aq Let.aE (aR r)=0:=Mb.2 fun l hl nu=>by obtain⟨w,hw,rfl⟩:=cJ.1 hl;exact hr ⟨w,hw,nu⟩
  have hC0:aq Let.aB ls=0:=by have eF:=q.ev;rw[h2]at eF;rw[HC]at h3;rcases ap6 with h|h<;>omega
  have:ls.length=2:=by have:=agX g.ok;rw[HC]at h3;omega
  have Cg:r=[]:=GD.1 aa;obtain⟨u,v,k1,k2⟩:=agI (l:=pieces ls) (a:=a) (by rw[eY];exact ha) (by rw[eY];omega) (by rw[KI];rfl);rw[eY]at k1;rw[Cg]at k2;have k2:=k2.symm;simp only[kU,List.append_eq_nil_iff]at k2;unfold kQ;rw[k1,k2.1,k2.2];rfl
 right;obtain⟨w0,vW,pw0⟩:=hr;have aqN:r≠[]:=akz vW
 let ψ:=jP mc me
 let hL:=vj x.k.gate (lo+1) (-2)
 let T':Nat->Nat->Nat:=fun G k=>if G=x.k.gate.toNat then(if k<=lo-1 then ψ (TF ls G k)else ψ (TF ls G (k+2)))else ψ (TF ls G k)
 let B':Nat->Nat->Nat:=fun G k=>if G=x.k.gate.toNat then(if k<=lo-1 then ψ (BF ls G k)else ψ (BF ls G (k+2)))else ψ (BF ls G k)
 have mC:aq Let.aB (aR (r.map (aQ.mp ψ hL)))=aq Let.aB (aR r):=DE (fun l=>(Gt _ _ _).aB l) r;have mP:aq Let.aE (aR (r.map (aQ.mp ψ hL)))=aq Let.aE (aR r):=DE (fun l=>(Gt _ _ _).aE l) r;have mG:∀k,cg (aR (r.map (aQ.mp ψ hL))) k=cg (aR r) k:=fun k=>DE (fun l=>avn _ _ _ k l) r;have inr:∀w∈r,w∈x::y::r:=fun w hw=>by simp[hw]
 -- the others have other ranks
 have oth:∀w∈r,w.k.aE=true->w.k.gate=x.k.gate->w.k.aw<lo\/(lo:Int)+1<w.k.aw:=fun w hw pw gw=>by obtain⟨d1,d2⟩:=mB.1 q.rk;obtain⟨d3,_⟩:=mB.1 d2;have n1:=d1 w (by simp[hw]) px pw gw.symm;have n2:=d3 w hw py pw (by rw[zM,gw]);rcases XR with⟨r1,r2⟩|⟨r1,r2⟩<;>omega
 have rk':∀w∈r,w.k.aE=true->(hL w.k).aw=if w.k.gate=x.k.gate/\(lo:Int)+1<w.k.aw then w.k.aw-2 else w.k.aw:=fun w hw pw=>by have:=avp (g:=x.k.gate) (ab:=(lo:Int)+1) (lT:= -2) pw;rw[show w.k.aw+ -2=w.k.aw-2 by omega]at this;exact this
 have key:∀f:Nat->Nat->Nat,ψ (f x.k.gate.toNat (lo+1))=ψ (f x.k.gate.toNat (lo-1))->∀w∈r,w.k.aE=true->
   (ψ (f w.k.gate.toNat (w.k.aw.toNat-1))=(fun G k=>if G=x.k.gate.toNat then(if k<=lo-1 then ψ (f G k)else ψ (f G (k+2)))else ψ (f G k)) (hL w.k).gate.toNat ((hL w.k).aw.toNat-1))/\
   ψ (f w.k.gate.toNat w.k.aw.toNat)=(fun G k=>if G=x.k.gate.toNat then(if k<=lo-1 then ψ (f G k)else ψ (f G (k+2)))else ψ (f G k)) (hL w.k).gate.toNat (hL w.k).aw.toNat:=by
  intro f hf w hw pw;have Eb:(hL w.k).gate=w.k.gate:=LJ _ _ _ _;have gw:=((sB pw).1 (q.ok w (inr w hw)).bad).1.1.1;have rw1:=(q.rr w (inr w hw) pw).1;rw[rk' w hw pw,Eb];by_cases wO:w.k.gate=x.k.gate
  .have ho:=oth w hw pw wO;simp only[wO,if_true,true_and];by_cases cr:(lo:Int)+1<w.k.aw
   .rw[aD cr];constructor
    .by_cases c3:(w.k.aw-2).toNat-1<=lo-1
     .rw[aD c3];have e3:w.k.aw.toNat-1=lo+1:=aa;have e4:(w.k.aw-2).toNat-1=lo-1:=aa;rw[e3,e4];exact hf
     rw[au c3];congr 2;omega
    rw[au aa];congr 2;omega
   rw[au cr];constructor
   .rw[aD aa]
   rw[aD aa]
  have:¬(w.k.gate.toNat=x.k.gate.toNat):=aa;simp only[wO,false_and,if_false,au this];exact⟨trivial,trivial⟩
 have keyg:∀f:Nat->Nat->Nat,ψ (f x.k.gate.toNat (lo+1))=ψ (f x.k.gate.toNat (lo-1))->∀k,
   ((fun G k=>if G=x.k.gate.toNat then(if k<=lo-1 then ψ (f G k)else ψ (f G (k+2)))else ψ (f G k)) k (cg (aR r) k)=ψ (f k (cg (aR (x::y::r)) k)))/\
   (fun G k=>if G=x.k.gate.toNat then(if k<=lo-1 then ψ (f G k)else ψ (f G (k+2)))else ψ (f G k)) k 0=ψ (f k 0):=by
  intro f hf k;rw[zB r k];by_cases ck:k=x.k.gate.toNat
  .subst ck;simp only[if_true];rw[aD (bR _)];refine⟨?_,rfl⟩;rw[zB r x.k.gate.toNat,aD rfl]at ae4;by_cases c3:cg (aR r) x.k.gate.toNat<=lo-1
   .rw[aD c3];have e3:cg (aR r) x.k.gate.toNat=lo-1:=aa;rw[e3,show lo-1+2=lo+1 by omega];exact hf.symm
   rw[au c3]
  simp only[au ck,vr];exact⟨trivial,trivial⟩
 have qn:Cq F ([]++r.map (aQ.mp ψ hL)) T' B':=by
  refine Cq.edit (X:=[x,y]) (r:=r) q (Gt _ _ _) (fun w hw=>avo (q.ok w (inr w hw)).bad) (fun u hu v hv cu cv e=>?_) (fun u hu v hv pu pv e1 e2=>?_) (fun _ h=>by cases h) List.Pairwise.nil List.Pairwise.nil (fun _ h=>by cases h) (fun _ h=>by cases h) ?_ (fun _ h=>by cases h) (fun u hu cu=>?_) (fun _ h=>by cases h) (fun u hu pu=>?_) (fun _ h=>by cases h) (fun u hu pu=>?_) (fun k hk=>?_) ?_
  .rw[Tk,Tk]at e;exact e
  .have e1':u.k.gate=v.k.gate:=by rw[LJ,LJ]at e1;exact e1
   refine⟨e1',?_⟩;have e2:(hL u.k).aw=(hL v.k).aw:=e2;rw[rk' u hu pu,rk' v hv pv]at e2;by_cases wO:u.k.gate=x.k.gate
   .have o1:=oth u hu pu wO;have o2:=oth v hv pv (e1'▸wO);have cv:v.k.gate=x.k.gate:=e1'▸wO;simp only[wO,cv,true_and]at e2;split at e2<;>split at e2<;>omega
   have cv:¬v.k.gate=x.k.gate:=e1'▸wO;simp only[wO,cv,false_and,if_false]at e2;exact e2
  .rw[gn,mC,<-A8 r];exact q.ev
  .rw[gn,mC,Tk,<-A8 r];exact q.ids u (inr u hu) cu
  .rw[gn,LJ,mG];show 1<=(hL u.k).aw/\(hL u.k).aw<=_;rw[rk' u hu pu];have h1:=q.rr u (inr u hu) pu;rw[zB r]at h1;have gu:=((sB pu).1 (q.ok u (inr u hu)).bad).1.1.1;by_cases wO:u.k.gate=x.k.gate
   .have o1:=oth u hu pu wO;rw[wO]at h1 |-;rw[aD rfl]at h1;rw[zB r,aD rfl]at ae4;simp only[true_and];split<;>omega
   simp only[wO,false_and,if_false];rw[au aa]at h1;exact h1
  .obtain⟨t1,t2⟩:=key (TF ls) m2 u hu pu;obtain⟨b1,b2⟩:=key (BF ls) m3 u hu pu;exact⟨⟨t1,b1⟩,t2,b2⟩
  .rw[gn,mG];obtain⟨t1,t2⟩:=keyg (TF ls) m2 k;obtain⟨b1,b2⟩:=keyg (BF ls) m3 k;obtain⟨_,t3⟩:=keyg (TF ls) m2 (k+1);obtain⟨_,b3⟩:=keyg (BF ls) m3 (k+1);have:=q.gt k hk;exact⟨by rw[show T' k _=_ from t1,this.1];exact t3.symm,by rw[show B' k _=_ from b1,this.2];exact b3.symm⟩
  rw[gn,mG];obtain⟨t1,t2⟩:=keyg (TF ls) m2 F;obtain⟨b1,b2⟩:=keyg (BF ls) m3 F;obtain⟨_,t3⟩:=keyg (TF ls) m2 0;obtain⟨_,b3⟩:=keyg (BF ls) m3 0;have:=q.gz;exact⟨by rw[show T' F _=_ from t1,this.1];exact t3.symm,by rw[show B' F _=_ from b1,this.2];exact b3.symm⟩
 have NT:Cert F (r.map fun w=>tF x.k.gate (lo+1) (-2) w.p):=by
  refine Cq.done (X:=[x,y]) (r:=r) (X':=[]) (L:=[mc,x.o.l,x.o.r]) (N:=[]) (V:=mQ ls) (z':=r.map (aQ.mp ψ hL)) qn c.nd (fun t ht=>c.wit t ht) (L9 _) ⟨s.mp ψ,?_⟩ ?_ ?_ (fun t _ ht=>SB fun e=>ht (by simp[e])) (fun w hw t ht ew BY=>?_) xO (fun t ht=>by cases ht) (fun t ht=>by cases ht) (by rw[EX];exact bY _) ?_
  .have:=SU (ψ:=ψ) (h:=hL) uX;rwa[show y.o.mp ψ=s.mp ψ from m1]at this
  .rw[uy];refine As fun w _=>?_;rw[avq];rfl
  .refine⟨w0.mp ψ hL,?_,?_⟩
   .rw[gn];exact cJ.2 ⟨w0,vW,rfl⟩
   show(hL w0.k).aE=true;rw[(Gt _ _ _).aE];exact pw0
  .obtain⟨v,hv,hvo⟩:=SS uX aqN;simp only[bJ,eo,or_false,Aw]at hw BY;have key:t=s.l\/t=s.r:=by
    rcases hw with rfl|rfl
    .rcases ew with ew|ew
     .exact absurd ew BY.2.1
     exact absurd ew BY.2.2
    rcases m4 t ew with h|h
    .exact absurd h BY.1
    exact h
   refine⟨v.mp ψ hL,by rw[gn];exact cJ.2 ⟨v,hv,rfl⟩,?_⟩;show t=ψ v.o.l\/t=ψ v.o.r;rw[hvo];have:ψ t=t:=SB BY.1;rcases key with h|h
   .left;rw[<-h,this]
   right;rw[<-h,this]
  rw[gn,mC,mP];have h1:=g.nw;rw[A8]at h2;rw[HC]at h3;simp only[fe,dI];omega
 obtain⟨u,v,k1,k2⟩:=agI (l:=pieces ls) (a:=a) (by rw[eY];exact ha) (by rw[eY];omega) (by rw[KI];rfl);rw[eY]at k1;show Cert F ((qP (pieces ls) fun k _=>decide (k=a)||decide (k=(a+1)%ls.length)).map (tF x.k.gate (uk x.k.aw y.k.aw) (-2)));rw[k1,tm,kS];refine Cert.lE ?_;rw[<-kS,<-k2,uy];exact NT
end
section
variable {F:Nat} {ls:ai}
def QE(g:ch F ls){pl:Nat}{edges:a_}{e0:Nat}(he0:e0<ls.length)(h:kX F ls pl edges e0=true):∃w,w∈gH (aO ls) (nD ls)/\(mg F ls w).places.length=pl/\((w.filter fun x=>decide (x<2*ls.length)).length=edges.length)/\ ∀e∈edges,∃d,d∈w/\d<2*ls.length/\d/2=e:=by
 have key:∀f∈eV F ls,wQ f pl edges=true->∃w,w∈gH (aO ls) (nD ls)/\(mg F ls w).places.length=pl/\((w.filter fun x=>decide (x<2*ls.length)).length=edges.length)/\ ∀e∈edges,∃d,d∈w/\d<2*ls.length/\d/2=e:=by intro f hf hc;obtain⟨w,hw,rfl⟩:=cJ.1 hf;unfold wQ at hc;simp only[cH,cZ,gk]at hc;obtain⟨h1,h2,h3⟩:=hc;rw[BR]at h1;refine⟨w,hw,h2,h1,fun e he=>?_⟩;have h4:=h3 e he;unfold vA at h4;obtain⟨d,hd,pN⟩:=Ap.1 (show 0<((mg F ls w).cA.countP fun d=>d/2==e) by omega);rw[BR]at hd;obtain⟨d1,d2⟩:=uz.1 hd;exact⟨d,d1,by simpa using d2,by simpa using pN⟩
 unfold kX at h;rw[wE]at h;rcases h with h|h
 .exact key _ (Q9 aa) h
 exact key _ (Q9 aa) h
def ajZ{D:a_}(h:D.length=2){x y:Nat}(hx:x∈D)(hy:y∈D)(aH:x≠y){z:Nat}(hz:z∈D):z=x\/z=y:=by
 match D,h with
 |[p,q],_=>simp only[bJ,eo,or_false]at hx hy hz;omega
def ahM{e:Nat}(he:e<ls.length){l:Let}(hl:ls[nx ls e]?=some l)(hc:l.aB=true):aO ls (2*e)=dx ls.length (fM ls (nx ls e)) (gX l):=by
 have:2*e=fV ls.length (nx ls e) true:=by unfold fV nx;rw[aD rfl,v7 he]
 rw[this,yN hl hc];unfold gX;cases(l.over==(l.sign==1))<;>rfl
def ahL{e:Nat}{l:Let}(hl:ls[e]?=some l)(hc:l.aB=true):aO ls (2*e+1)=dx ls.length (fM ls e) (!gX l):=by have:2*e+1=fV ls.length e false:=rfl;rw[this,yN hl hc];unfold gX;cases(l.over==(l.sign==1))<;>rfl
def y7{v:Nat}{b:Bool}{x:Nat}(h:dx ls.length v b=x):(b=true/\x=2*v)\/(b=false/\x=2*((v+ls.length-1)%ls.length)+1):=by
 cases b
 .exact .inr ⟨rfl,h.symm⟩
 exact .inl ⟨rfl,h.symm⟩
def Dz{v e:Nat}(hv:v<ls.length)(h:(v+ls.length-1)%ls.length=e):v=nx ls e:=by unfold nx;rw[<-h,vZ hv]
def BW(ok:fJ F ls){v u:Nat}{l m:Let}(hl:ls[v]?=some l)(hc:l.aB=true)(hm:ls[u]?=some m)(ho:fM ls v=u):gX m= !gX l/\m.aB=true/\m.id=l.id:=by obtain⟨_,w,hw,wc,wi,wo,ws⟩:=sC ok.cr hl hc;rw[ho,hm]at hw;cases hw;refine⟨?_,wc,wi⟩;unfold gX;rw[wo,ws];cases l.over<;>cases(l.sign==1)<;>rfl
def Lo(ok:fJ F ls){v:Nat}{l:Let}(hl:ls[v]?=some l)(hc:l.aB=true):fM ls v<ls.length:=by obtain⟨_,w,hw,_⟩:=sC ok.cr hl hc;exact(aT.1 hw).1
def atn(g:ch F ls){a b:Nat}(ha:a<ls.length)(hb:b<ls.length){lx ly lu lv:Let}(hx:ls[a]?=some lx)(hy:ls[nx ls a]?=some ly)(hu:ls[b]?=some lu)(hv:ls[nx ls b]?=some lv)
  (cx:lx.aB=true) (cy:ly.aB=true) (cu:lu.aB=true) (cv:lv.aB=true) (js:lx.id≠ly.id) (Ia:lu.id≠lv.id) (dL:a≠b) (h:kX F ls 0 [a,b] a=true):gX lx= !gX ly:=by
 have ok:=g.ok;obtain⟨w,hw,_,hlen,hE⟩:=QE g ha h;obtain⟨da,tR,qE,tS⟩:=hE a af;obtain⟨db,uH,rz,tU⟩:=hE b af;have aH:da≠db:=aa;have inD:∀d,d∈w->d<2*ls.length->d∈w.filter fun x=>decide (x<2*ls.length):=fun d h1 h2=>uz.2 ⟨h1,by simpa using h2⟩;have two:∀d,d∈w->d<2*ls.length->d=da\/d=db:=fun d h1 h2=>ajZ hlen (inD da tR qE) (inD db uH rz) aH (inD d h1 h2);have nin:∀d,d∈w->aO ls d∈w:=fun d hd=>yO (maps ok) hw hd;have str:∀(v:Nat) (b:Bool),v<ls.length->dx ls.length v b<2*ls.length:=fun v b hv=>by have:=xS hv (!b);rw[<-Ad]at this;have:=Ae this;rwa[Af]at this
 have oy:=Lo ok hy cy;have ox:=Lo ok hx cx;have ou:=Lo ok hu cu;have ov:=Lo ok hv cv
 -- where the walk goes on
 have na:(da=2*a/\aO ls da=dx ls.length (fM ls (nx ls a)) (gX ly))\/(da=2*a+1/\aO ls da=dx ls.length (fM ls a) (!gX lx)):=by
  rcases vt da with c|c
  .have:da=2*a:=aa;exact .inl ⟨this,by rw[this];exact ahM ha hy cy⟩
  have:da=2*a+1:=aa;exact .inr ⟨this,by rw[this];exact ahL hx cx⟩
 have nb:(db=2*b/\aO ls db=dx ls.length (fM ls (nx ls b)) (gX lv))\/(db=2*b+1/\aO ls db=dx ls.length (fM ls b) (!gX lu)):=by
  rcases vt db with c|c
  .have:db=2*b:=aa;exact .inl ⟨this,by rw[this];exact ahM hb hv cv⟩
  have:db=2*b+1:=aa;exact .inr ⟨this,by rw[this];exact ahL hu cu⟩
 have ta:aO ls da=da\/aO ls da=db:=two _ (nin _ tR) (by rcases na with⟨_,e⟩|⟨_,e⟩<;>rw[e]<;>exact str _ _ (by assumption));have tb:aO ls db=da\/aO ls db=db:=two _ (nin _ uH) (by rcases nb with⟨_,e⟩|⟨_,e⟩<;>rw[e]<;>exact str _ _ (by assumption));have ta':aO ls da=db:=by
  rcases ta with e|e
  .exfalso;rcases na with⟨e1,e2⟩|⟨e1,e2⟩
   .rw[e]at e2;rcases y7 e2.symm with⟨_,e3⟩|⟨_,e3⟩
    .exact js (BW ok hy cy hx aa).2.2
    omega
   rw[e]at e2;rcases y7 e2.symm with⟨_,e3⟩|⟨_,e3⟩
   .omega
   exact js (BW ok hx cx hy (Dz ox aa)).2.2.symm
  exact e
 have tb':aO ls db=da:=by
  rcases tb with e|e
  .exact e
  exfalso;rcases nb with⟨e1,e2⟩|⟨e1,e2⟩
  .rw[e]at e2;rcases y7 e2.symm with⟨_,e3⟩|⟨_,e3⟩
   .exact Ia (BW ok hv cv hu aa).2.2
   omega
  rw[e]at e2;rcases y7 e2.symm with⟨_,e3⟩|⟨_,e3⟩
  .omega
  exact Ia (BW ok hu cu hv (Dz ou aa)).2.2.symm
 rcases na with⟨ea,e1⟩|⟨ea,e1⟩<;>rcases nb with⟨eb,e2⟩|⟨eb,e2⟩<;>rw[ta']at e1<;>rw[tb']at e2
 .rcases y7 e1.symm with⟨g1,e3⟩|⟨g1,e3⟩<;>rcases y7 e2.symm with⟨g2,e4⟩|⟨g2,e4⟩<;>try omega
  have:=(BW ok hv cv hx aa).1;rw[this,g1,g2]
 .rcases y7 e1.symm with⟨g1,e3⟩|⟨g1,e3⟩<;>rcases y7 e2.symm with⟨g2,e4⟩|⟨g2,e4⟩<;>try omega
  have:=(BW ok hu cu hx aa).1;rw[this,g1,g2];rfl
 .rcases y7 e1.symm with⟨g1,e3⟩|⟨g1,e3⟩<;>rcases y7 e2.symm with⟨g2,e4⟩|⟨g2,e4⟩<;>try omega
  have:=(BW ok hv cv hy (Dz ov aa)).1;rw[this,g2];revert g1;cases gX lx<;>simp
 rcases y7 e1.symm with⟨g1,e3⟩|⟨g1,e3⟩<;>rcases y7 e2.symm with⟨g2,e4⟩|⟨g2,e4⟩<;>try omega
 have:=(BW ok hu cu hy (Dz ou aa)).1;rw[this];revert g1 g2;cases gX lx<;>cases gX lu<;>simp
def TA{x p w:aQ}(h1:Xr x p)(h2:Xr x w)(h3:Xr p w)(cx:x.k.aB=true)(cp:p.k.aB=true)(cw:w.k.aB=true)(e1:x.k.id=p.k.id):w.k.id≠x.k.id:=by intro e2;have a:=(h1 cx cp e1).ov;have b:=(h2 cx cw e2.symm).ov;have d:=(h3 cp cw (by rw[<-e1,e2])).ov;rw[b]at a;rw[d]at a;revert a;cases w.k.over<;>simp
def Tc{α:Type}{z:List α}{a j:Nat}(ha:a<z.length)(hj:j<z.length):(z.drop a++z.take a)[j]?=z[(a+j)%z.length]? :=by
 by_cases h:a+j<z.length
 .rw[xM (by rw[lH];omega),Ar,fT h]
 rw[Aq (by rw[lH];omega),lH,mA,aD aa,akI aa,fT aa];congr 1;omega
def awz{α:Type}{r:List α}{j:Nat}{u v:α}(hu:r[j]?=some u)(hv:r[j+1]?=some v):r=r.take j++u::v::r.drop (j+2):=by
 obtain⟨h1,e1⟩:=aT.1 hu;obtain⟨h2,e2⟩:=aT.1 hv;have:r.drop j=u::v::r.drop (j+2):=by rw[<-uw h1,e1,<-uw h2,e2]
 rw[<-this,mU]
end
def YL{p q w:Int}{l:Let}(hc:l.aB=true)(hw:l.id=w):(iF [p,q] l).id=w-(if p<w then 1 else 0)-(if q<w then 1 else 0):=by rw[aha hc,hw];by_cases c1:p<w<;>by_cases c2:q<w<;>simp[c1,c2]<;>omega
section
variable {F:Nat} {ls:ai}
def amK(g:ch F ls){a b:Nat}(ha:a<ls.length)(hb:b<ls.length){L:c_}(h:vg F ls a b=some L):Cert F L:=by
 obtain⟨x,y,r0,s,e,hx,hy,c,hp,KI,hzx,hzy,oR⟩:=aah g ha;have q:=c.q;have mN:=L7 ls;unfold vg at h;split at h
 case isFalse=>cases h
 rename_i hc;simp only[cH,wE,cZ,l9,lS]at hc;obtain⟨HA,aH,afg,iL,uW,ym⟩:=hc;have pa:pA ls a=x.p:=iY hx;have pb:pA ls (nx ls a)=y.p:=iY hy;cases h;have hnb:nx ls b<ls.length:=de _ aa;have hna:nx ls a<ls.length:=de _ aa;obtain⟨u,KU⟩:=aL (ls:=zF ls) (k:=b) aa;obtain⟨v,OR⟩:=aL (ls:=zF ls) (k:=nx ls b) aa;have pc:pA ls b=u.p:=iY (by rw[<-IW,fG,KU];rfl);have pd:pA ls (nx ls b)=v.p:=iY (by rw[<-IW,fG,OR];rfl);rw[pa,pb]at aH;rw[pa,pb,pc,pd]at afg
 -- they are visits, two over and two under
 have kinds:x.k.aB=true/\y.k.aB=true/\u.k.aB=true/\v.k.aB=true/\x.k.over=y.k.over/\u.k.over=v.k.over/\x.k.over≠u.k.over:=by
  have bo:∀e ov,iA ls e ov=true->(pA ls e).l.aB=true/\(pA ls (nx ls e)).l.aB=true/\(pA ls e).l.over=ov/\(pA ls (nx ls e)).l.over=ov:=fun e ov h=>by unfold iA at h;simp only[cH,cZ]at h;obtain⟨h1,h2,h3,h4⟩:=h;exact⟨by unfold Let.aB;rw[h1];rfl,by unfold Let.aB;rw[h2];rfl,h3,h4⟩
  rcases HA with⟨h1,h2⟩|⟨h1,h2⟩<;>obtain⟨a1,a2,a3,a4⟩:=bo _ _ h1<;>obtain⟨b1,b2,b3,b4⟩:=bo _ _ h2
  all_goals
   rw[pa]at a1 a3;rw[pb]at a2 a4;rw[pc]at b1 b3;rw[pd]at b2 b4;refine⟨a1,a2,b1,b2,?_,?_,?_⟩
   .show x.p.l.over=y.p.l.over;rw[a3,a4]
   .show u.p.l.over=v.p.l.over;rw[b3,b4]
   show x.p.l.over≠u.p.l.over;rw[a3,b3];decide
 obtain⟨cx,cy,cu,cv,ov1,ov2,ov3⟩:=kinds;have js:x.k.id≠y.k.id:=aH;have Oa:(u.k.id=x.k.id/\v.k.id=y.k.id)\/(u.k.id=y.k.id/\v.k.id=x.k.id):=afg;have Ia:u.k.id≠v.k.id:=by
  rcases Oa with⟨h1,h2⟩|⟨h1,h2⟩
  .rw[h1,h2];exact js
  rw[h1,h2];exact js.symm
 have dL:a≠b:=by
  rintro rfl
  rw[hzx]at KU;cases KU;exact ov3 rfl
 have lx:ls[a]?=some x.k:=by have:=CH hzx;rwa[mz]at this
 have ly:ls[nx ls a]?=some y.k:=by have:=CH hzy;rwa[mz]at this
 have lu:ls[b]?=some u.k:=by have:=CH KU;rwa[mz]at this
 have lv:ls[nx ls b]?=some v.k:=by have:=CH OR;rwa[mz]at this
 have hg:=atn g ha hb lx ly lu lv cx cy cu cv js Ia dL ym
 -- where the second QN stands, from the first one on
 obtain⟨j,HN,nk,Ce⟩:∃j,j+3<ls.length/\(a+(j+2))%ls.length=b/\(a+(j+3))%ls.length=nx ls b:=by
  have RZ:nx ls a≠b:=by intro e;rw[e,KU]at hzy;cases hzy;exact ov3 ov1
  have XX:nx ls b≠a:=by intro e;rw[e,hzx]at OR;cases OR;exact ov3 ov2.symm
  unfold nx at RZ XX |-;by_cases c1:a<b
  .have e1:(a+1)%ls.length=a+1:=fT aa;rw[e1]at RZ;have h2:b≠a+1:=fun h=>RZ h.symm;have h3:¬(b+1=ls.length/\a=0):=fun⟨h3,h4⟩=>XX (by rw[h3,E0,h4]);refine⟨b-a-2,aa,?_,?_⟩
   .rw[show a+(b-a-2+2)=b by omega,fT hb]
   rw[show a+(b-a-2+3)=b+1 by omega]
  have e1:(b+1)%ls.length=b+1:=fT aa;rw[e1]at XX;have h3:¬(a+1=ls.length/\b=0):=fun⟨h3,h4⟩=>RZ (by rw[h3,E0,h4]);refine⟨b+ls.length-a-2,aa,?_,?_⟩
  .rw[show a+(b+ls.length-a-2+2)=b+ls.length by omega,ow,fT hb]
  rw[show a+(b+ls.length-a-2+3)=b+1+ls.length by omega,ow]
 have hru:r0[j]?=some u:=by have:=Tc (z:=zF ls) (a:=a) (j:=j+2) aa aa;rw[e,mN,nk,KU]at this;exact this
 have KJ:r0[j+1]?=some v:=by have:=Tc (z:=zF ls) (a:=a) (j:=j+3) aa aa;rw[e,mN,Ce,OR]at this;exact this
 have pW:=awz hru KJ;obtain⟨c1,c2,vT,apR,NN⟩:∃c1 c2,r0=c1++u::v::c2/\c1.length=j/\c2.length+j+4=ls.length:=by
  refine⟨_,_,pW,?_,?_⟩
  .have:=(aT.1 hru).1;rw[iz];omega
  have h1:=(aT.1 KJ).1;have h2:=oR.length_eq;rw[mN]at h2;simp only[dI]at h2;rw[lH];omega
 subst vT
 -- the two paths that are left
 obtain⟨kM,fO,uX⟩:=hp;obtain⟨s2,lY,Bn,zT,ml⟩:=Pb.1 uX;have hj0:j≠0:=by
  rintro rfl
  exact iL nk
 have hj9:c2≠[]:=by
  rintro rfl
  simp only[fe]at NN;refine uW ?_;rw[<-nk,yY,show a+(j+2)+2=a+ls.length by omega,ow,fT ha]
 have je:c1≠[]:=by rintro rfl;simp at apR;omega
 have q4:Cq F ([x,y,u,v]++(c1++c2)) (TF ls) (BF ls):=by refine q.perm ?_;refine List.Perm.cons x (List.Perm.cons y ?_);exact aay.trans (List.Perm.cons u aay)
 obtain⟨w1,q5⟩:=mB.1 q4.cr;obtain⟨w2,q6⟩:=mB.1 q5;obtain⟨w3,q7⟩:=mB.1 q6;obtain⟨w4,q8⟩:=mB.1 q7;have rxu:Xr x u:=w1 u af;have rxv:Xr x v:=w1 v af;have ryu:Xr y u:=w2 u af;have ryv:Xr y v:=w2 v af;have TB:∀w∈c1++c2,w.k.aB=true->w.k.id≠x.k.id/\w.k.id≠y.k.id:=fun w hw cw=>by
  have a1:Xr x w:=w1 w (Dh [y,u,v] hw);have a2:Xr y w:=w2 w (Dh [u,v] hw);have a3:Xr u w:=w3 w (Dh [v] hw);have a4:Xr v w:=w4 w hw;rcases Oa with⟨h1,h2⟩|⟨h1,h2⟩
  .exact⟨TA rxu a1 a3 cx cu cw h1.symm,TA ryv a2 a4 cy cv cw h2.symm⟩
  exact⟨TA rxv a1 a4 cx cv cw h2.symm,TA ryu a2 a3 cy cu cw h1.symm⟩
 have bx:=(q4.ok x af).cb cx;have lT:=(q4.ok y af).cb cy;have bu:=(q4.ok u af).cb cu;have bv:=(q4.ok v af).cb cv;rw[kM]at bx;rw[fO]at lT;rw[zT]at bv
 -- which names are merged, and which are lost
 obtain⟨mc,me,bg,m1,m2,m3⟩:∃mc me bg:Nat,y.o.mp (jP mc me)=s.mp (jP mc me)/\v.o.mp (jP mc me)=s2.mp (jP mc me)/\
   (∀t,(t=x.o.l\/t=x.o.r)\/(t=y.o.l\/t=y.o.r)\/(t=u.o.l\/t=u.o.r)\/(t=v.o.l\/t=v.o.r)->t=mc\/t=bg\/(t=s.l\/t=s.r)\/(t=s2.l\/t=s2.r)):=by
  have dE:y.o.b=s.b:=by rw[<-lT,<-bx]
  have bK:v.o.b=s2.b:=by rw[<-bv,<-bu,Bn]
  have fin:∀mc me,jP mc me y.o.l=jP mc me s.l->jP mc me y.o.r=jP mc me s.r->jP mc me v.o.l=jP mc me s2.l->jP mc me v.o.r=jP mc me s2.r->y.o.mp (jP mc me)=s.mp (jP mc me)/\v.o.mp (jP mc me)=s2.mp (jP mc me):=fun mc me k1 k2 k3 k4=>⟨eJ.ext' k1 k2 dE,eJ.ext' k3 k4 bK⟩;rcases Oa with⟨h1,h2⟩|⟨h1,h2⟩
  .have p1:=(rxu cx cu h1.symm).x4;have p2:=(ryv cy cv h2.symm).x4;rw[kM,Bn]at p1;rw[fO,zT]at p2;obtain⟨a1,a2,a3,a4⟩:=p1;obtain⟨b1,b2,b3,b4⟩:=p2;cases Bg:gX x.k
   .have zM:gX y.k=true:=by revert hg;rw[Bg];cases gX y.k<;>simp
    rw[Bg]at a1 a2 a3 a4;rw[zM]at b1 b2 b3 b4;simp only[dN,if_false,if_true]at a1 a2 a3 a4 b1 b2 b3 b4;refine⟨y.o.l,s.l,x.o.r,?_⟩;have f:=fin y.o.l s.l (by rw[ve,vf]) (by rw[b2,a4]) (by rw[<-b1,a3]) (by rw[b4,<-a1,ve,vf]);refine⟨f.1,f.2,?_⟩;rintro t ((rfl|rfl)|(rfl|rfl)|(rfl|rfl)|(rfl|rfl))
    .exact .inr (.inr (.inr (.inl a3.symm)))
    .exact .inr (.inl rfl)
    .exact .inl rfl
    .exact .inr (.inr (.inl (.inr (b2.trans a4))))
    .exact .inr (.inl a2.symm)
    .exact .inr (.inr (.inl (.inr a4)))
    .exact .inr (.inr (.inr (.inl (by rw[<-b1,a3]))))
    exact .inl b4
   have zM:gX y.k=false:=by revert hg;rw[Bg];cases gX y.k<;>simp
   rw[Bg]at a1 a2 a3 a4;rw[zM]at b1 b2 b3 b4;simp only[dN,if_false,if_true]at a1 a2 a3 a4 b1 b2 b3 b4;refine⟨y.o.r,s.r,x.o.l,?_⟩;have f:=fin y.o.r s.r (by rw[<-b3,a1]) (by rw[ve,vf]) (by rw[a3,<-b2,ve,vf]) (by rw[b4,a2]);refine⟨f.1,f.2,?_⟩;rintro t ((rfl|rfl)|(rfl|rfl)|(rfl|rfl)|(rfl|rfl))
   .exact .inr (.inl rfl)
   .exact .inr (.inr (.inr (.inr a2)))
   .exact .inr (.inr (.inl (.inl (by rw[<-b3,a1]))))
   .exact .inl rfl
   .exact .inr (.inr (.inl (.inl a1.symm)))
   .exact .inr (.inl a4)
   .exact .inl b2.symm
   exact .inr (.inr (.inr (.inr (b4.trans a2))))
  have p1:=(rxv cx cv h2.symm).x4;have p2:=(ryu cy cu h1.symm).x4;rw[kM,zT]at p1;rw[fO,Bn]at p2;obtain⟨a1,a2,a3,a4⟩:=p1;obtain⟨b1,b2,b3,b4⟩:=p2;cases Bg:gX x.k
  .have zM:gX y.k=true:=by revert hg;rw[Bg];cases gX y.k<;>simp
   rw[Bg]at a1 a2 a3 a4;rw[zM]at b1 b2 b3 b4;simp only[dN,if_false,if_true]at a1 a2 a3 a4 b1 b2 b3 b4;refine⟨y.o.r,s.r,x.o.l,?_⟩;have f:=fin y.o.r s.r (by rw[a1,<-b4]) (by rw[ve,vf]) (by rw[<-a2,b3]) (by rw[a4,<-b2,ve,vf]);refine⟨f.1,f.2,?_⟩;rintro t ((rfl|rfl)|(rfl|rfl)|(rfl|rfl)|(rfl|rfl))
   .exact .inr (.inl rfl)
   .exact .inr (.inr (.inr (.inl b3.symm)))
   .exact .inr (.inr (.inl (.inl (by rw[a1,<-b4]))))
   .exact .inl rfl
   .exact .inr (.inl b1.symm)
   .exact .inr (.inr (.inl (.inl (by rw[a1]))))
   .exact .inr (.inr (.inr (.inl (by rw[<-a2,b3]))))
   exact .inr (.inr (.inl (.inr a4)))
  have zM:gX y.k=false:=by revert hg;rw[Bg];cases gX y.k<;>simp
  rw[Bg]at a1 a2 a3 a4;rw[zM]at b1 b2 b3 b4;simp only[dN,if_false,if_true]at a1 a2 a3 a4 b1 b2 b3 b4;refine⟨y.o.l,s.l,x.o.r,?_⟩;have f:=fin y.o.l s.l (by rw[ve,vf]) (by rw[b2,a3]) (by rw[<-a1,b3,ve,vf]) (by rw[a4,b1]);refine⟨f.1,f.2,?_⟩;rintro t ((rfl|rfl)|(rfl|rfl)|(rfl|rfl)|(rfl|rfl))
  .exact .inr (.inr (.inr (.inr b1)))
  .exact .inr (.inl rfl)
  .exact .inl rfl
  .exact .inr (.inr (.inl (.inr (by rw[b2,a3]))))
  .exact .inr (.inr (.inl (.inr a3)))
  .exact .inr (.inl b4)
  .exact .inr (.inr (.inl (.inl a1.symm)))
  exact .inr (.inr (.inr (.inr (a4.trans b1))))
 have A8:∀z:k_,aq Let.aB (aR ([x,y,u,v]++z))=aq Let.aB (aR z)+4:=fun z=>by rw[UH,mF,mF,mF,mF,UI,(zU cx).1,(zU cy).1,(zU cu).1,(zU cv).1];omega
 have HC:∀z:k_,aq Let.aE (aR ([x,y,u,v]++z))=aq Let.aE (aR z):=fun z=>by rw[UH,mF,mF,mF,mF,UI,(zU cx).2,(zU cy).2,(zU cu).2,(zU cv).2];omega
 have zB:∀(z:k_) k,cg (aR ([x,y,u,v]++z)) k=cg (aR z) k:=fun z k=>by show aq _ _=aq _ _;rw[UH,mF,mF,mF,mF,UI,Jv k cx,Jv k cy,Jv k cu,Jv k cv];simp
 have hP4:([x,y,u,v]++(c1++c2)).Perm (zF ls):=by refine List.Perm.trans (List.Perm.symm ?_) oR;refine List.Perm.cons x (List.Perm.cons y ?_);exact aay.trans (List.Perm.cons u aay)
 have h2:aq Let.aB (aR ([x,y,u,v]++(c1++c2)))=aq Let.aB ls:=by rw[DF hP4,mz]
 have h3:aq Let.aE (aR ([x,y,u,v]++(c1++c2)))=aq Let.aE ls:=by rw[DF hP4,mz]
 have eF:=q4.ev
 let ψ:=jP mc me
 let hL:=iF [x.k.id,y.k.id]
 let r:=c1++c2
 have mC:aq Let.aB (aR (r.map (aQ.mp ψ hL)))=aq Let.aB (aR r):=DE (fun l=>(CG _).aB l) r;have mP:aq Let.aE (aR (r.map (aQ.mp ψ hL)))=aq Let.aE (aR r):=DE (fun l=>(CG _).aE l) r;have mG:∀k,cg (aR (r.map (aQ.mp ψ hL))) k=cg (aR r) k:=fun k=>DE (fun l=>ag8 _ k l) r;have Ky:∀w∈[x,y,u,v]++r,w.k.aB=true->1<=w.k.id/\w.k.id<=((aq Let.aB (aR r)/2:Nat):Int)+2:=fun w hw hc=>by have:=q4.ids w hw hc;rw[A8]at this;show 1<=w.k.id/\w.k.id<=((aq Let.aB (aR (c1++c2))/2:Nat):Int)+2;omega
 have idx:=Ky x af cx;have idy:=Ky y af cy;have inr:∀w∈r,w∈[x,y,u,v]++r:=fun w hw=>Dh _ hw;have qn:Cq F ([]++r.map (aQ.mp ψ hL)) (fun G k=>ψ (TF ls G k)) (fun G k=>ψ (BF ls G k)):=by
  refine Cq.edit (X:=[x,y,u,v]) (r:=r) q4 (CG _) (fun w hw=>ag9 (q4.ok w (inr w hw)).bad) (fun p hp o ho cp co e=>?_) (fun p hp o ho pp po e1 e2=>?_) (fun _ h=>by cases h) List.Pairwise.nil List.Pairwise.nil (fun _ h=>by cases h) (fun _ h=>by cases h) ?_ (fun _ h=>by cases h) (fun p hp cp=>?_) (fun _ h=>by cases h) (fun p hp pp=>?_) (fun _ h=>by cases h) (fun p hp pp=>?_) (fun k hk=>?_) ?_
  .obtain⟨n1,n2⟩:=TB p hp cp;obtain⟨n3,n4⟩:=TB o ho co;rw[YL cp rfl,YL co rfl]at e;split at e<;>split at e<;>split at e<;>split at e<;>omega
  .have e1:(iF [x.k.id,y.k.id] p.k).gate=(iF [x.k.id,y.k.id] o.k).gate:=e1;have e2:(iF [x.k.id,y.k.id] p.k).aw=(iF [x.k.id,y.k.id] o.k).aw:=e2;rw[CF pp,CF po]at e1 e2;exact⟨e1,e2⟩
  .rw[gn,mC];rw[A8]at eF;show aq Let.aB (aR (c1++c2))%2=0;omega
  .rw[gn,mC];show 1<=(iF [x.k.id,y.k.id] p.k).id/\(iF [x.k.id,y.k.id] p.k).id<=_;rw[YL cp rfl];have h1:=Ky p (inr p hp) cp;obtain⟨n1,n2⟩:=TB p hp cp;have hxy':=js;split<;>split<;>omega
  .rw[gn,mG];show 1<=(iF [x.k.id,y.k.id] p.k).aw/\(iF [x.k.id,y.k.id] p.k).aw<=((cg (aR r) (iF [x.k.id,y.k.id] p.k).gate.toNat:Nat):Int);rw[CF pp,<-zB r];exact q4.rr p (inr p hp) pp
  .show(ψ _=ψ (TF ls (iF [x.k.id,y.k.id] p.k).gate.toNat ((iF [x.k.id,y.k.id] p.k).aw.toNat-1))/\ψ _=ψ (BF ls (iF [x.k.id,y.k.id] p.k).gate.toNat ((iF [x.k.id,y.k.id] p.k).aw.toNat-1)))/\ψ _=ψ (TF ls (iF [x.k.id,y.k.id] p.k).gate.toNat (iF [x.k.id,y.k.id] p.k).aw.toNat)/\ψ _=ψ (BF ls (iF [x.k.id,y.k.id] p.k).gate.toNat (iF [x.k.id,y.k.id] p.k).aw.toNat);rw[CF pp];exact⟨⟨rfl,rfl⟩,rfl,rfl⟩
  .rw[gn,mG,<-zB r];obtain⟨t1,t2⟩:=q4.gt k hk;exact⟨congrArg ψ t1,congrArg ψ t2⟩
  rw[gn,mG,<-zB r];obtain⟨t1,t2⟩:=q4.gz;exact⟨congrArg ψ t1,congrArg ψ t2⟩
 have NT:Cert F (r.map fun w=>tz [x.k.id,y.k.id] w.p):=by
  refine Cq.done (X:=[x,y,u,v]) (r:=r) (X':=[]) (L:=[mc,bg]) (N:=[]) (V:=mQ ls) (z':=r.map (aQ.mp ψ hL)) qn GH (fun t ht=>?_) (L9 _) ⟨s.mp ψ,?_⟩ ?_ ?_ (fun t _ ht=>SB fun e=>ht (by simp[e])) (fun w hw t ht ew BY=>?_) xO (fun t ht=>by cases ht) (fun t ht=>by cases ht) (by rw[EX];exact bY _) ?_
  .obtain⟨w,hw,ew⟩:=c.wit t ht;refine⟨w,?_,ew⟩;have:w∈zF ls:=oR.mem_iff.1 hw;exact hP4.mem_iff.2 this
  .have e1:=SU (ψ:=ψ) (h:=hL) lY;have e2:=SU (ψ:=ψ) (h:=hL) ml;rw[show y.o.mp ψ=s.mp ψ from m1]at e1;rw[show v.o.mp ψ=s2.mp ψ from m2]at e2;show kE (s.mp ψ) ((c1++c2).map (aQ.mp ψ hL)) (s.mp ψ);rw[kS];exact Pb.2 ⟨_,e1,e2⟩
  .rw[uy];refine As fun w _=>?_;rw[ahc];rfl
  .obtain⟨w,hw,rJ⟩:=c.one;have F8:w∈[x,y,u,v]++r:=hP4.mem_iff.2 (oR.mem_iff.1 hw);rcases eO.1 F8 with h|h
   .exfalso;simp only[bJ,eo,or_false]at h;rcases h with rfl|rfl|rfl|rfl
    .rw[nz cx]at rJ;cases rJ
    .rw[nz cy]at rJ;cases rJ
    .rw[nz cu]at rJ;cases rJ
    rw[nz cv]at rJ;cases rJ
   refine⟨w.mp ψ hL,by rw[gn];exact cJ.2 ⟨w,h,rfl⟩,?_⟩;show(iF [x.k.id,y.k.id] w.k).aE=true;rw[(CG _).aE];exact rJ
  .simp only[bJ,eo,or_false,Aw]at hw BY;have key:=m3 t (by
    rcases hw with rfl|rfl|rfl|rfl
    .exact .inl ew
    .exact .inr (.inl ew)
    .exact .inr (.inr (.inl ew))
    exact .inr (.inr (.inr ew)))
   have hψ:ψ t=t:=SB BY.1;have put:∀d∈r,(t=d.o.l\/t=d.o.r)->∃y'∈[]++r.map (aQ.mp ψ hL),t=y'.o.l\/t=y'.o.r:=fun d hd h=>by
    refine⟨d.mp ψ hL,by rw[gn];exact cJ.2 ⟨d,hd,rfl⟩,?_⟩;rcases h with h|h
    .left;show t=ψ d.o.l;rw[<-h,hψ]
    right;show t=ψ d.o.r;rw[<-h,hψ]
   rcases key with h|h|h|h
   .exact absurd h BY.1
   .exact absurd h BY.2
   .obtain⟨d,hd,ed⟩:=SS ml hj9;exact put d (Dh _ hd) (by rw[ed];exact h)
   obtain⟨d,hd,ed⟩:=SS lY je;exact put d (Dg _ hd) (by rw[ed];exact h)
  rw[gn,mC,mP];have h1:=g.nw;rw[A8]at h2;rw[HC]at h3;show aq Let.aE (aR (c1++c2))+aq Let.aB (aR (c1++c2))/2+1+2<=_;simp only[fe];omega
 rw[pa,pb];show Cert F ((qP (pieces ls) (vB [x.k.id,y.k.id])).map (tz [x.k.id,y.k.id]));rw[agH (l:=pieces ls) (drop:=vB [x.k.id,y.k.id]) (d:=fun p=>(p.l.kind==2)&&[x.k.id,y.k.id].contains p.l.id) fun _ _=>rfl];refine acI (a:=a) ?_;rw[KI];have hkx:(x.p.l.kind==2)=true:=cx;have hky:(y.p.l.kind==2)=true:=cy;have hku:(u.p.l.kind==2)=true:=cu;have hkv:(v.p.l.kind==2)=true:=cv;have aqb:∀d∈r,(fun p:Pc=> !((p.l.kind==2)&&[x.k.id,y.k.id].contains p.l.id)) d.p=true:=fun d hd=>by
  show(!((d.p.l.kind==2)&&_))=true;cases hk:(d.p.l.kind==2)
  .rfl
  obtain⟨n1,n2⟩:=TB d hd hk;simp[n1,n2]
 have RO:∀(d:aQ) (t:c_),(d.p.l.kind==2)=true->(d.k.id=x.k.id\/d.k.id=y.k.id)->(d.p::t).filter (fun p=> !((p.l.kind==2)&&[x.k.id,y.k.id].contains p.l.id))=t.filter (fun p=> !((p.l.kind==2)&&[x.k.id,y.k.id].contains p.l.id)):=fun d t hd h=>by
  refine TW ?_;rcases h with h|h
  .have h:d.p.l.id=x.k.id:=h;simp[h,hd]
  have h:d.p.l.id=y.k.id:=h;simp[h,hd]
 have hf:((x::y::(c1++u::v::c2)).map aQ.p).filter (fun p=> !((p.l.kind==2)&&[x.k.id,y.k.id].contains p.l.id))=r.map aQ.p:=by
  rw[ek,ek,RO x _ hkx (.inl rfl),RO y _ hky (.inr rfl),kS,TV,ek,ek,
   RO u _ hku (Oa.imp (fun h=>h.1) fun h=>h.1),RO v _ hkv (Oa.symm.imp (fun h=>h.2) fun h=>h.2)]
  rw[<-TV,<-kS];refine filter_all fun p hp=>?_;obtain⟨d,hd,rfl⟩:=cJ.1 hp;exact aqb d hd
 rw[hf,uy];exact NT
end
def awy{α:Type}{z:List α}{a:Nat}{x:α}(h:z[a]?=some x):z=z.take a++x::z.drop (a+1):=by
 obtain⟨hl,e⟩:=aT.1 h;have:z.drop a=x::z.drop (a+1):=by rw[<-e,uw]
 rw[<-this,mU]
section
variable {F:Nat} {ls:ai}
end
section
variable {F:Nat} {ls:ai}
end
end Go.Abs
