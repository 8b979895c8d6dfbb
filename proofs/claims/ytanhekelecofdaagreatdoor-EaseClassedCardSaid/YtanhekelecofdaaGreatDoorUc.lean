/- A part. -/
import Derived.Test.YtanhekelecofdaaGreatDoorUa
import Derived.Test.YtanhekelecofdaaGreatDoorWw
set_option linter.all false
set_option maxHeartbeats 16000000
namespace Go.Abs
def jG(c e a:Nat):Nat:=if a=c then e else a
def uU(c e:Nat):jG c e c=e:=aG rfl
def uV(c e:Nat):jG c e e=e:=by unfold jG;split<;>rfl
def Uu{c e a:Nat}(h:a≠c):jG c e a=a:=aC h
def uW(g ab lT:Int)(l:Let):Let:=if (l.kind==1)&&((l.gate==g)&&decide (ab<l.aA)) then {l with aA:=l.aA+lT} else l
def atd(g ab lT:Int)(p:Pc):tG g ab lT p=⟨uW g ab lT p.l,p.d⟩:=by unfold tG uW;split<;>rfl
def Gb(g ab lT:Int):Bx (uW g ab lT):=by refine⟨fun l=>?_,fun l=>?_,fun l=>?_⟩<;>unfold uW<;>split<;>rfl
def Lv(g ab lT:Int)(l:Let):(uW g ab lT l).gate=l.gate:=by unfold uW;split<;>rfl
def Ve(g ab lT:Int)(l:Let):(uW g ab lT l).id=l.id:=by unfold uW;split<;>rfl
def as9{g ab lT:Int}{l:Let}(h:l.aD=true):uW g ab lT l=l:=by unfold uW;have:=nj h;unfold Let.aF at this;rw[this];simp
def ata(g ab lT:Int)(k:Nat)(l:Let):mD k (uW g ab lT l)=mD k l:=by unfold mD;rw[(Gb g ab lT).aF,Lv]
def atc{g ab lT:Int}{l:Let}(h:l.aF=true):(uW g ab lT l).aA=if l.gate=g/\ab<l.aA then l.aA+lT else l.aA:=by
 unfold uW;unfold Let.aF at h;rw[h];by_cases c:l.gate=g/\ab<l.aA
 .rw[aG c,aG (by simp[c.1,c.2])]
 rw[aC c,aC (by simpa using c)]
def atb{F:Nat}{g ab lT:Int}{l:Let}(h:dS F l=false):dS F (uW g ab lT l)=false:=by
 rcases wg h with hp|hc
 .have gI:(uW g ab lT l).aF=true:=by rw[(Gb g ab lT).aF];exact hp
  rw[sC hp] at h;rw[sC gI,Lv,Ve,(Gb g ab lT).sign,(Gb g ab lT).over];exact h
 rw[as9 hc];exact h
def YA{l:c_}{drop:Nat->Pc->Bool}:∀d j,j+d<=l.length->(∀i p,j<=i->i<j+d->drop i p=false)->uR l drop (j+d)=uR l drop j++(l.drop j).take d:=by
 intro d
 induction d with
 |zero=>intro j _ _;simp
 |succ d ih=>intro j hj h;obtain⟨p,hp⟩:=aN (ls:=l) (k:=j+d) aa;rw[show j+(d+1)=(j+d)+1 by omega,KN hp (h _ _ aa aa),ih j aa fun i p h1 h2=>h i p h1 aa,nC,Ah,hp,vW];rfl
def afm{l:c_}{a:Nat}(ha:a<l.length)(h2:2<=l.length){p q:Pc}{r:c_}(e:l.drop a++l.take a=p::q::r):∃u v,(qQ l fun k _=>decide (k=a)||decide (k=(a+1)%l.length))=u++v/\r=v++u:=by
 have NW:∀i (p:Pc),i≠a->i≠(a+1)%l.length->(fun(k:Nat) (_:Pc)=>decide (k=a)||decide (k=(a+1)%l.length)) i p=false:=fun i p h1 h2=>by simp[h1,h2]
 have vu:∀i (p:Pc),i=a\/i=(a+1)%l.length->(fun(k:Nat) (_:Pc)=>decide (k=a)||decide (k=(a+1)%l.length)) i p=true:=fun i p h=>by simpa using h
 obtain⟨x,hx⟩:=aN ha;by_cases c:a+1<l.length
 .obtain⟨y,hy⟩:=aN c;have hm:(a+1)%l.length=a+1:=fX c;rw[hm] at NW vu |-;have k0:=YA (l:=l) (drop:=fun k _=>decide (k=a)||decide (k=a+1)) a 0 aa fun i p _ h=>NW i p aa aa;have k1:=Ci (drop:=fun k _=>decide (k=a)||decide (k=a+1)) hx (vu a x (.inl rfl));have k2:=Ci (drop:=fun k _=>decide (k=a)||decide (k=a+1)) hy (vu (a+1) y (.inr rfl));have k3:=YA (l:=l) (drop:=fun k _=>decide (k=a)||decide (k=a+1)) (l.length-(a+2)) (a+1+1) aa fun i p h _=>NW i p aa aa;refine⟨l.take a,l.drop (a+2),?_,?_⟩
  .unfold qQ;rw[show a+1+1+(l.length-(a+2))=l.length by omega,k2,k1] at k3;rw[jr] at k0;rw[k3,k0];have:uR l (fun k _=>decide (k=a)||decide (k=a+1)) 0=[]:=rfl;rw[this,List.drop_zero,gR,gT (l:=l.drop (a+1+1)) (by rw[lD];omega)]
  have e1:l.drop a=x::y::l.drop (a+2):=by obtain⟨h1,e1⟩:=aW.1 hx;obtain⟨h2,e2⟩:=aW.1 hy;rw[<- ur h1,e1,<- ur h2,e2]
  rw[e1] at e;simp only[nY,Ae] at e;exact e.2.2.symm
 have ea:a+1=l.length:=aa;have hm:(a+1)%l.length=0:=by rw[ea,EO]
 rw[hm] at NW vu |-;obtain⟨y,hy⟩:=aN (ls:=l) (k:=0) aa;have k1:=Ci (drop:=fun k _=>decide (k=a)||decide (k=0)) hy (vu 0 y (.inr rfl));have k2:=YA (l:=l) (drop:=fun k _=>decide (k=a)||decide (k=0)) (a-1) 1 aa fun i p h h'=>NW i p aa aa;have k3:=Ci (drop:=fun k _=>decide (k=a)||decide (k=0)) hx (vu a x (.inl rfl));refine⟨[],(l.drop 1).take (a-1),?_,?_⟩
 .unfold qQ;rw[<- ea,k3];rw[show 1+(a-1)=a by omega] at k2;rw[k2];rw[show(1:Nat)=0+1 from rfl,k1];rfl
 have e1:l.drop a=[x]:=by obtain⟨h1,e1⟩:=aW.1 hx;rw[<- ur h1,e1,List.drop_eq_nil_of_le aa]
 have e2:l.take a=y::(l.drop 1).take (a-1):=by
  obtain⟨h1,e1⟩:=aW.1 hy;have:l=y::l.drop 1:=by have:=ur h1;rw[e1,List.drop_zero] at this;exact this.symm
  conv=>lhs;rw[this]
  rw[show a=(a-1)+1 by omega,List.take_succ_cons];rfl
 rw[e1,e2] at e;simp only[nY,gR,Ae] at e;rw[jJ];exact e.2.2.symm
section
variable {F:Nat} {ls:ai}
def eV.ext'{s t:eV}(h1:s.l=t.l)(h2:s.r=t.r)(h3:s.b=t.b):s=t:=by cases s;cases t;simp_all
def akM(g:cE F ls){a:Nat}(ha:a<ls.length){L:c_}(h:we ls a=some L):L=[]\/Cert F L:=by
 obtain⟨x,y,r,s,e,hx,hy,c,hp,KA,_,_,oL⟩:=aad g ha;have q:=c.q;unfold we at h;have e1:(pieces ls).getD a ⟨lN,false⟩=x.p:=by rw[dK,hx];rfl
 have e2:(pieces ls).getD ((a+1)%ls.length) ⟨lN,false⟩=y.p:=by rw[dK,hy];rfl
 simp only[e1,e2] at h;split at h
 case isFalse=>cases h
 rename_i hc;simp only[cJ,dh,l7,Bool.and_eq_false_iff,decide_eq_false_iff_not] at hc;obtain⟨iZ,qJ,qK,mq,an5⟩:=hc;cases h;have px:x.k.aF=true:=by show(x.k.kind==1)=true;simp[iZ]
 have py:y.k.aF=true:=by show(y.k.kind==1)=true;simp[qJ]
 obtain⟨kG,fR,uN⟩:=hp;have ox:=(q.ok x af).pb px;have oy:=(q.ok y af).pb py;have plx:=q.pl x af px;have ply:=q.pl y af py;have gx:=((sC px).1 (q.ok x af).bad).1.1.1;have rx:=q.rr x af px;have ry:=q.rr y af py;have zy:y.k.gate=x.k.gate:=qK.symm;rw[zy] at ry
 -- the counts
 have AW:∀z:j_,aq Let.aD (aT (x::y::z))=aq Let.aD (aT z):=fun z=>by rw[mE,mE,(ifP px).1,(ifP py).1];omega
 have Hn:∀z:j_,aq Let.aF (aT (x::y::z))=aq Let.aF (aT z)+2:=fun z=>by rw[mE,mE,(ifP px).2,(ifP py).2];omega
 have hGi:((x.k.gate.toNat:Nat):Int)=x.k.gate:=Int.toNat_of_nonneg gx.1;have zk:∀(z:j_) k,cg (aT (x::y::z)) k=cg (aT z) k+if k=x.k.gate.toNat then 2 else 0:=fun z k=>by
  show aq _ _=aq _ _+_;rw[mE,mE];have:∀w:aS,w.k.aF=true->w.k.gate=x.k.gate->(if mD k w.k=true then 1 else 0)=if k=x.k.gate.toNat then 1 else 0:=fun w hw hgw=>by
   unfold mD;rw[hw,hgw];by_cases ck:k=x.k.gate.toNat
   .subst ck;simp[hGi]
   have:(x.k.gate==(k:Int))=false:=by rw[lS];omega
   simp[this,ck]
  rw[this x px rfl,this y py zy];split<;>omega
 have h2:aq Let.aD (aT (x::y::r))=aq Let.aD ls:=by rw[Dj oL,mA]
 have h3:aq Let.aF (aT (x::y::r))=aq Let.aF ls:=by rw[Dj oL,mA]
 have hlen:ls.length=r.length+2:=by have:=oL.length_eq;rw[LZ] at this;simpa using this.symm
 -- ranks
 obtain⟨lo,hlo1,XS,tu⟩:∃lo:Nat,1<=lo/\((x.k.aA=lo/\y.k.aA=lo+1)\/(x.k.aA=lo+1/\y.k.aA=lo))/\uh x.k.aA y.k.aA=lo+1:=by
  have Kz:uh x.k.aA y.k.aA-yB x.k.aA y.k.aA=1:=mq;unfold uh yB at Kz;unfold uh;by_cases c1:x.k.aA<y.k.aA
  .rw[aG c1] at Kz |-;rw[aC aa] at Kz;exact⟨x.k.aA.toNat,aa,.inl ⟨aa,aa⟩,aa⟩
  rw[aC c1] at Kz |-;by_cases c2:y.k.aA<x.k.aA
  .rw[aG c2] at Kz;exact⟨y.k.aA.toNat,aa,.inr ⟨aa,aa⟩,aa⟩
  rw[aC c2] at Kz;omega
 have adI:lo+1<=cg (aT (x::y::r)) x.k.gate.toNat:=by rcases XS with ⟨h1,h2⟩|⟨h1,h2⟩<;>omega
 -- which names are merged
 obtain⟨mc,me,m1,m2,m3,m4,m5⟩:∃mc me:Nat,(y.o.mp (jG mc me)=s.mp (jG mc me))/\jG mc me (TF ls x.k.gate.toNat (lo+1))=jG mc me (TF ls x.k.gate.toNat (lo-1))/\jG mc me (BF ls x.k.gate.toNat (lo+1))=jG mc me (BF ls x.k.gate.toNat (lo-1))/\
   (∀t,(t=y.o.l\/t=y.o.r)->t=mc\/t=s.l\/t=s.r)/\True:=by
  have hdy:y.p.d= !x.p.d:=by have h1:=oy.2;rw[fR,ox.1] at h1;revert h1;cases x.p.d<;>cases y.p.d<;>simp
  have hb:y.o.b=s.b:=by rw[oy.1,hdy,<- kG,ox.2]
  obtain⟨p1,p2,p3,p4⟩:=plx;obtain⟨p5,p6,p7,p8⟩:=ply;rw[zy] at p5 p6 p7 p8;unfold aS.up at p1 p2 p5 p6;unfold aS.lo at p3 p4 p7 p8;rw[hdy] at p5 p6 p7 p8;rw[kG] at p1 p2 p3 p4;rw[fR] at p5 p6 p7 p8;have done:∀mc me,(jG mc me y.o.l=jG mc me s.l)->(jG mc me y.o.r=jG mc me s.r)->y.o.mp (jG mc me)=s.mp (jG mc me):=fun mc me h1 h2=>eV.ext' h1 h2 hb;rcases XS with ⟨r1,r2⟩|⟨r1,r2⟩
  .have n1:x.k.aA.toNat=lo:=aa;have n2:y.k.aA.toNat=lo+1:=aa;rw[n1] at p1 p2 p3 p4;rw[n2] at p5 p6 p7 p8;rw[Nat.add_sub_cancel] at p5 p7;cases hd:x.p.d<;>rw[hd] at p1 p2 p3 p4 p5 p6 p7 p8<;>simp only[Gi,Ad,dR,if_false,if_true,iX] at p1 p2 p3 p4 p5 p6 p7 p8
   .have ee:y.o.r=s.r:=by rw[p7,p4]
    refine⟨y.o.l,s.l,done _ _ ?_ (by rw[ee]),by rw[<- p6,p1],by rw[<- p8,<- p3,uU,uV],?_,trivial⟩
    .rw[uU,uV]
    rintro t (rfl|rfl)
    .exact .inl rfl
    exact .inr (.inr ee)
   have ee:y.o.l=s.l:=by rw[p5,p2]
   refine⟨y.o.r,s.r,done _ _ (by rw[ee]) ?_,by rw[<- p6,<- p1,uU,uV],by rw[<- p8,p3],?_,trivial⟩
   .rw[uU,uV]
   rintro t (rfl|rfl)
   .exact .inr (.inl ee)
   exact .inl rfl
  have n1:x.k.aA.toNat=lo+1:=aa;have n2:y.k.aA.toNat=lo:=aa;rw[n1] at p1 p2 p3 p4;rw[n2] at p5 p6 p7 p8;rw[Nat.add_sub_cancel] at p1 p3;cases hd:x.p.d<;>rw[hd] at p1 p2 p3 p4 p5 p6 p7 p8<;>simp only[Gi,Ad,dR,if_false,if_true,iX] at p1 p2 p3 p4 p5 p6 p7 p8
  .have ee:y.o.l=s.l:=by rw[p8,p3]
   refine⟨y.o.r,s.r,done _ _ (by rw[ee]) ?_,by rw[<- p2,p5],by rw[<- p4,<- p7,uU,uV],?_,trivial⟩
   .rw[uU,uV]
   rintro t (rfl|rfl)
   .exact .inr (.inl ee)
   exact .inl rfl
  have ee:y.o.r=s.r:=by rw[p6,p1]
  refine⟨y.o.l,s.l,done _ _ ?_ (by rw[ee]),by rw[<- p2,<- p5,uU,uV],by rw[<- p4,p7],?_,trivial⟩
  .rw[uU,uV]
  rintro t (rfl|rfl)
  .exact .inl rfl
  exact .inr (.inr ee)
 clear m5;by_cases hr:∃w∈r,w.k.aF=true
 case neg=>
  left;have DA:aq Let.aF (aT r)=0:=L2.2 fun l hl ni=>by obtain⟨w,hw,rfl⟩:=cV.1 hl;exact hr ⟨w,hw,ni⟩
  have hC0:aq Let.aD ls=0:=by have eO:=q.ev;rw[h2] at eO;rw[Hn] at h3;rcases an5 with h|h<;>omega
  have:ls.length=2:=by have:=afB g.ok;rw[Hn] at h3;omega
  have DL:r=[]:=Gj.1 aa;obtain⟨u,v,k1,k2⟩:=afm (l:=pieces ls) (a:=a) (by rw[bk];exact ha) (by rw[bk];omega) (by rw[KA];rfl);rw[bk] at k1;rw[DL] at k2;have k2:=k2.symm;simp only[kL,List.append_eq_nil_iff] at k2;unfold ke;rw[k1,k2.1,k2.2];rfl
 right;obtain⟨w0,zJ,pw0⟩:=hr;have aoM:r≠[]:=List.ne_nil_of_mem zJ
 let ψ:=jG mc me
 let hL:=uW x.k.gate (lo+1) (-2)
 let T':Nat->Nat->Nat:=fun G k=>if G=x.k.gate.toNat then (if k<=lo-1 then ψ (TF ls G k) else ψ (TF ls G (k+2))) else ψ (TF ls G k)
 let B':Nat->Nat->Nat:=fun G k=>if G=x.k.gate.toNat then (if k<=lo-1 then ψ (BF ls G k) else ψ (BF ls G (k+2))) else ψ (BF ls G k)
 have mC:aq Let.aD (aT (r.map (aS.mp ψ hL)))=aq Let.aD (aT r):=Di (fun l=>(Gb _ _ _).aD l) r;have mP:aq Let.aF (aT (r.map (aS.mp ψ hL)))=aq Let.aF (aT r):=Di (fun l=>(Gb _ _ _).aF l) r;have mG:∀k,cg (aT (r.map (aS.mp ψ hL))) k=cg (aT r) k:=fun k=>Di (fun l=>ata _ _ _ k l) r;have inr:∀w∈r,w∈x::y::r:=fun w hw=>by simp[hw]
 -- the others have other ranks
 have oth:∀w∈r,w.k.aF=true->w.k.gate=x.k.gate->w.k.aA<lo\/(lo:Int)+1<w.k.aA:=fun w hw pw gw=>by obtain⟨d1,d2⟩:=mB.1 q.rk;obtain⟨d3,_⟩:=mB.1 d2;have n1:=d1 w (by simp[hw]) px pw gw.symm;have n2:=d3 w hw py pw (by rw[zy,gw]);rcases XS with ⟨r1,r2⟩|⟨r1,r2⟩<;>omega
 have rk':∀w∈r,w.k.aF=true->(hL w.k).aA=if w.k.gate=x.k.gate/\(lo:Int)+1<w.k.aA then w.k.aA-2 else w.k.aA:=fun w hw pw=>by have:=atc (g:=x.k.gate) (ab:=(lo:Int)+1) (lT:= -2) pw;rw[show w.k.aA+ -2=w.k.aA-2 by omega] at this;exact this
 have key:∀f:Nat->Nat->Nat,ψ (f x.k.gate.toNat (lo+1))=ψ (f x.k.gate.toNat (lo-1))->∀w∈r,w.k.aF=true->
   (ψ (f w.k.gate.toNat (w.k.aA.toNat-1))=(fun G k=>if G=x.k.gate.toNat then (if k<=lo-1 then ψ (f G k) else ψ (f G (k+2))) else ψ (f G k)) (hL w.k).gate.toNat ((hL w.k).aA.toNat-1))/\
   ψ (f w.k.gate.toNat w.k.aA.toNat)=(fun G k=>if G=x.k.gate.toNat then (if k<=lo-1 then ψ (f G k) else ψ (f G (k+2))) else ψ (f G k)) (hL w.k).gate.toNat (hL w.k).aA.toNat:=by
  intro f hf w hw pw;have DH:(hL w.k).gate=w.k.gate:=Lv _ _ _ _;have gw:=((sC pw).1 (q.ok w (inr w hw)).bad).1.1.1;have rw1:=(q.rr w (inr w hw) pw).1;rw[rk' w hw pw,DH];by_cases wm:w.k.gate=x.k.gate
  .have ho:=oth w hw pw wm;simp only[wm,if_true,true_and];by_cases cr:(lo:Int)+1<w.k.aA
   .rw[aG cr];constructor
    .by_cases c3:(w.k.aA-2).toNat-1<=lo-1
     .rw[aG c3];have e3:w.k.aA.toNat-1=lo+1:=aa;have e4:(w.k.aA-2).toNat-1=lo-1:=aa;rw[e3,e4];exact hf
     rw[aC c3];congr 2;omega
    rw[aC aa];congr 2;omega
   rw[aC cr];constructor
   .rw[aG aa]
   rw[aG aa]
  have:¬(w.k.gate.toNat=x.k.gate.toNat):=aa;simp only[wm,false_and,if_false,aC this];exact⟨trivial,trivial⟩
 have keyg:∀f:Nat->Nat->Nat,ψ (f x.k.gate.toNat (lo+1))=ψ (f x.k.gate.toNat (lo-1))->∀k,
   ((fun G k=>if G=x.k.gate.toNat then (if k<=lo-1 then ψ (f G k) else ψ (f G (k+2))) else ψ (f G k)) k (cg (aT r) k)=ψ (f k (cg (aT (x::y::r)) k)))/\
   (fun G k=>if G=x.k.gate.toNat then (if k<=lo-1 then ψ (f G k) else ψ (f G (k+2))) else ψ (f G k)) k 0=ψ (f k 0):=by
  intro f hf k;rw[zk r k];by_cases ck:k=x.k.gate.toNat
  .subst ck;simp only[if_true];rw[aG (cA _)];refine⟨?_,rfl⟩;rw[zk r x.k.gate.toNat,aG rfl] at adI;by_cases c3:cg (aT r) x.k.gate.toNat<=lo-1
   .rw[aG c3];have e3:cg (aT r) x.k.gate.toNat=lo-1:=aa;rw[e3,show lo-1+2=lo+1 by omega];exact hf.symm
   rw[aC c3]
  simp only[aC ck,u7];exact⟨trivial,trivial⟩
 have qn:Cq F ([]++r.map (aS.mp ψ hL)) T' B':=by
  refine Cq.edit (X:=[x,y]) (r:=r) q (Gb _ _ _) (fun w hw=>atb (q.ok w (inr w hw)).bad) (fun u hu v hv cu cv e=>?_) (fun u hu v hv pu pv e1 e2=>?_) (fun _ h=>by cases h) List.Pairwise.nil List.Pairwise.nil (fun _ h=>by cases h) (fun _ h=>by cases h) ?_ (fun _ h=>by cases h) (fun u hu cu=>?_) (fun _ h=>by cases h) (fun u hu pu=>?_) (fun _ h=>by cases h) (fun u hu pu=>?_) (fun k hk=>?_) ?_
  .rw[Ve,Ve] at e;exact e
  .have e1':u.k.gate=v.k.gate:=by rw[Lv,Lv] at e1;exact e1
   refine⟨e1',?_⟩;have e2:(hL u.k).aA=(hL v.k).aA:=e2;rw[rk' u hu pu,rk' v hv pv] at e2;by_cases wm:u.k.gate=x.k.gate
   .have o1:=oth u hu pu wm;have o2:=oth v hv pv (e1'▸wm);have cv:v.k.gate=x.k.gate:=e1'▸wm;simp only[wm,cv,true_and] at e2;split at e2<;>split at e2<;>omega
   have cv:¬v.k.gate=x.k.gate:=e1'▸wm;simp only[wm,cv,false_and,if_false] at e2;exact e2
  .rw[gR,mC,<- AW r];exact q.ev
  .rw[gR,mC,Ve,<- AW r];exact q.ids u (inr u hu) cu
  .rw[gR,Lv,mG];show 1<=(hL u.k).aA/\(hL u.k).aA<=_;rw[rk' u hu pu];have h1:=q.rr u (inr u hu) pu;rw[zk r] at h1;have gu:=((sC pu).1 (q.ok u (inr u hu)).bad).1.1.1;by_cases wm:u.k.gate=x.k.gate
   .have o1:=oth u hu pu wm;rw[wm] at h1 |-;rw[aG rfl] at h1;rw[zk r,aG rfl] at adI;simp only[true_and];split<;>omega
   simp only[wm,false_and,if_false];rw[aC aa] at h1;exact h1
  .obtain⟨t1,t2⟩:=key (TF ls) m2 u hu pu;obtain⟨b1,b2⟩:=key (BF ls) m3 u hu pu;exact⟨⟨t1,b1⟩,t2,b2⟩
  .rw[gR,mG];obtain⟨t1,t2⟩:=keyg (TF ls) m2 k;obtain⟨b1,b2⟩:=keyg (BF ls) m3 k;obtain⟨_,t3⟩:=keyg (TF ls) m2 (k+1);obtain⟨_,b3⟩:=keyg (BF ls) m3 (k+1);have:=q.gt k hk;exact⟨by rw[show T' k _=_ from t1,this.1];exact t3.symm,by rw[show B' k _=_ from b1,this.2];exact b3.symm⟩
  rw[gR,mG];obtain⟨t1,t2⟩:=keyg (TF ls) m2 F;obtain⟨b1,b2⟩:=keyg (BF ls) m3 F;obtain⟨_,t3⟩:=keyg (TF ls) m2 0;obtain⟨_,b3⟩:=keyg (BF ls) m3 0;have:=q.gz;exact⟨by rw[show T' F _=_ from t1,this.1];exact t3.symm,by rw[show B' F _=_ from b1,this.2];exact b3.symm⟩
 have NZ:Cert F (r.map fun w=>tG x.k.gate (lo+1) (-2) w.p):=by
  refine Cq.done (X:=[x,y]) (r:=r) (X':=[]) (L:=[mc,x.o.l,x.o.r]) (N:=[]) (V:=mO ls) (z':=r.map (aS.mp ψ hL)) qn c.nd (fun t ht=>c.wit t ht) (List.Perm.refl _) ⟨s.mp ψ,?_⟩ ?_ ?_ (fun t _ ht=>Uu fun e=>ht (by simp[e])) (fun w hw t ht ew BN=>?_) xE (fun t ht=>by cases ht) (fun t ht=>by cases ht) (by rw[EJ];exact cD _) ?_
  .have:=UJ (ψ:=ψ) (h:=hL) uN;rwa[show y.o.mp ψ=s.mp ψ from m1] at this
  .rw[uu];refine Ai fun w _=>?_;rw[atd];rfl
  .refine⟨w0.mp ψ hL,?_,?_⟩
   .rw[gR];exact cV.2 ⟨w0,zJ,rfl⟩
   show(hL w0.k).aF=true;rw[(Gb _ _ _).aF];exact pw0
  .obtain⟨v,hv,hvo⟩:=UI uN aoM;simp only[ch,eL,or_false,not_or] at hw BN;have key:t=s.l\/t=s.r:=by
    rcases hw with rfl|rfl
    .rcases ew with ew|ew
     .exact absurd ew BN.2.1
     exact absurd ew BN.2.2
    rcases m4 t ew with h|h
    .exact absurd h BN.1
    exact h
   refine⟨v.mp ψ hL,by rw[gR];exact cV.2 ⟨v,hv,rfl⟩,?_⟩;show t=ψ v.o.l\/t=ψ v.o.r;rw[hvo];have:ψ t=t:=Uu BN.1;rcases key with h|h
   .left;rw[<- h,this]
   right;rw[<- h,this]
  rw[gR,mC,mP];have h1:=g.nw;rw[AW] at h2;rw[Hn] at h3;simp only[fv,dL];omega
 obtain⟨u,v,k1,k2⟩:=afm (l:=pieces ls) (a:=a) (by rw[bk];exact ha) (by rw[bk];omega) (by rw[KA];rfl);rw[bk] at k1;show Cert F ((qQ (pieces ls) fun k _=>decide (k=a)||decide (k=(a+1)%ls.length)).map (tG x.k.gate (uh x.k.aA y.k.aA) (-2)));rw[k1,tu,ki];refine Cert.ll ?_;rw[<- ki,<- k2,uu];exact NZ
end
section
variable {F:Nat} {ls:ai}
def Qm(g:cE F ls){pl:Nat}{edges:a_}{e0:Nat}(he0:e0<ls.length)(h:kQ F ls pl edges e0=true):∃w,w∈gO (aQ ls) (nD ls)/\(mf F ls w).places.length=pl/\((w.filter fun x=>decide (x<2*ls.length)).length=edges.length)/\ ∀e∈edges,∃d,d∈w/\d<2*ls.length/\d/2=e:=by
 have key:∀f∈ff F ls,wx f pl edges=true->∃w,w∈gO (aQ ls) (nD ls)/\(mf F ls w).places.length=pl/\((w.filter fun x=>decide (x<2*ls.length)).length=edges.length)/\ ∀e∈edges,∃d,d∈w/\d<2*ls.length/\d/2=e:=by intro f hf hc;obtain⟨w,hw,rfl⟩:=cV.1 hf;unfold wx at hc;simp only[cJ,dh,gj] at hc;obtain⟨h1,h2,h3⟩:=hc;rw[BG] at h1;refine⟨w,hw,h2,h1,fun e he=>?_⟩;have h4:=h3 e he;unfold vk at h4;obtain⟨d,hd,pR⟩:=Af.1 (show 0<((mf F ls w).cG.countP fun d=>d/2==e) by omega);rw[BG] at hd;obtain⟨d1,d2⟩:=uv.1 hd;exact⟨d,d1,by simpa using d2,by simpa using pR⟩
 unfold kQ at h;rw[vU] at h;rcases h with h|h
 .exact key _ (Tv aa) h
 exact key _ (Tv aa) h
def aiz{D:a_}(h:D.length=2){x y:Nat}(hx:x∈D)(hy:y∈D)(aK:x≠y){z:Nat}(hz:z∈D):z=x\/z=y:=by
 match D,h with
 |[p,q],_=>simp only[ch,eL,or_false] at hx hy hz;omega
def agr{e:Nat}(he:e<ls.length){l:Let}(hl:ls[nx ls e]?=some l)(hc:l.aD=true):aQ ls (2*e)=dB ls.length (fQ ls (nx ls e)) (gX l):=by
 have:2*e=fZ ls.length (nx ls e) true:=by unfold fZ nx;rw[aG rfl,vI he]
 rw[this,yK hl hc];unfold gX;cases (l.over==(l.sign==1))<;>rfl
def agq{e:Nat}{l:Let}(hl:ls[e]?=some l)(hc:l.aD=true):aQ ls (2*e+1)=dB ls.length (fQ ls e) (!gX l):=by have:2*e+1=fZ ls.length e false:=rfl;rw[this,yK hl hc];unfold gX;cases (l.over==(l.sign==1))<;>rfl
def yS{v:Nat}{b:Bool}{x:Nat}(h:dB ls.length v b=x):(b=true/\x=2*v)\/(b=false/\x=2*((v+ls.length-1)%ls.length)+1):=by
 cases b
 .exact .inr ⟨rfl,h.symm⟩
 exact .inl ⟨rfl,h.symm⟩
def Dc{v e:Nat}(hv:v<ls.length)(h:(v+ls.length-1)%ls.length=e):v=nx ls e:=by unfold nx;rw[<- h,vH hv]
def BK(ok:fN F ls){v u:Nat}{l m:Let}(hl:ls[v]?=some l)(hc:l.aD=true)(hm:ls[u]?=some m)(ho:fQ ls v=u):gX m= !gX l/\m.aD=true/\m.id=l.id:=by obtain⟨_,w,hw,wc,wi,wo,ws⟩:=sD ok.cr hl hc;rw[ho,hm] at hw;cases hw;refine⟨?_,wc,wi⟩;unfold gX;rw[wo,ws];cases l.over<;>cases (l.sign==1)<;>rfl
def Lc(ok:fN F ls){v:Nat}{l:Let}(hl:ls[v]?=some l)(hc:l.aD=true):fQ ls v<ls.length:=by obtain⟨_,w,hw,_⟩:=sD ok.cr hl hc;exact(aW.1 hw).1
def aq6(g:cE F ls){a b:Nat}(ha:a<ls.length)(hb:b<ls.length){lx ly lu lv:Let}(hx:ls[a]?=some lx)(hy:ls[nx ls a]?=some ly)(hu:ls[b]?=some lu)(hv:ls[nx ls b]?=some lv)
  (cx:lx.aD=true) (cy:ly.aD=true) (cu:lu.aD=true) (cv:lv.aD=true) (jc:lx.id≠ly.id) (HM:lu.id≠lv.id) (dU:a≠b) (h:kQ F ls 0 [a,b] a=true):gX lx= !gX ly:=by
 have ok:=g.ok;obtain⟨w,hw,_,hlen,hE⟩:=Qm g ha h;obtain⟨da,tS,qE,tU⟩:=hE a af;obtain⟨db,uB,rz,tV⟩:=hE b af;have aK:da≠db:=aa;have inD:∀d,d∈w->d<2*ls.length->d∈w.filter fun x=>decide (x<2*ls.length):=fun d h1 h2=>uv.2 ⟨h1,by simpa using h2⟩;have two:∀d,d∈w->d<2*ls.length->d=da\/d=db:=fun d h1 h2=>aiz hlen (inD da tS qE) (inD db uB rz) aK (inD d h1 h2);have nin:∀d,d∈w->aQ ls d∈w:=fun d hd=>yL (maps ok) hw hd;have str:∀(v:Nat) (b:Bool),v<ls.length->dB ls.length v b<2*ls.length:=fun v b hv=>by have:=xM hv (!b);rw[<- zV] at this;have:=zW this;rwa[zX] at this
 have oy:=Lc ok hy cy;have ox:=Lc ok hx cx;have ou:=Lc ok hu cu;have ov:=Lc ok hv cv
 -- where the walk goes on
 have na:(da=2*a/\aQ ls da=dB ls.length (fQ ls (nx ls a)) (gX ly))\/(da=2*a+1/\aQ ls da=dB ls.length (fQ ls a) (!gX lx)):=by
  rcases u9 da with c|c
  .have:da=2*a:=aa;exact .inl ⟨this,by rw[this];exact agr ha hy cy⟩
  have:da=2*a+1:=aa;exact .inr ⟨this,by rw[this];exact agq hx cx⟩
 have nb:(db=2*b/\aQ ls db=dB ls.length (fQ ls (nx ls b)) (gX lv))\/(db=2*b+1/\aQ ls db=dB ls.length (fQ ls b) (!gX lu)):=by
  rcases u9 db with c|c
  .have:db=2*b:=aa;exact .inl ⟨this,by rw[this];exact agr hb hv cv⟩
  have:db=2*b+1:=aa;exact .inr ⟨this,by rw[this];exact agq hu cu⟩
 have ta:aQ ls da=da\/aQ ls da=db:=two _ (nin _ tS) (by rcases na with ⟨_,e⟩|⟨_,e⟩<;>rw[e]<;>exact str _ _ (by assumption));have tb:aQ ls db=da\/aQ ls db=db:=two _ (nin _ uB) (by rcases nb with ⟨_,e⟩|⟨_,e⟩<;>rw[e]<;>exact str _ _ (by assumption));have ta':aQ ls da=db:=by
  rcases ta with e|e
  .exfalso;rcases na with ⟨e1,e2⟩|⟨e1,e2⟩
   .rw[e] at e2;rcases yS e2.symm with ⟨_,e3⟩|⟨_,e3⟩
    .exact jc (BK ok hy cy hx aa).2.2
    omega
   rw[e] at e2;rcases yS e2.symm with ⟨_,e3⟩|⟨_,e3⟩
   .omega
   exact jc (BK ok hx cx hy (Dc ox aa)).2.2.symm
  exact e
 have tb':aQ ls db=da:=by
  rcases tb with e|e
  .exact e
  exfalso;rcases nb with ⟨e1,e2⟩|⟨e1,e2⟩
  .rw[e] at e2;rcases yS e2.symm with ⟨_,e3⟩|⟨_,e3⟩
   .exact HM (BK ok hv cv hu aa).2.2
   omega
  rw[e] at e2;rcases yS e2.symm with ⟨_,e3⟩|⟨_,e3⟩
  .omega
  exact HM (BK ok hu cu hv (Dc ou aa)).2.2.symm
 rcases na with ⟨ea,e1⟩|⟨ea,e1⟩<;>rcases nb with ⟨eb,e2⟩|⟨eb,e2⟩<;>rw[ta'] at e1<;>rw[tb'] at e2
 .rcases yS e1.symm with ⟨g1,e3⟩|⟨g1,e3⟩<;>rcases yS e2.symm with ⟨g2,e4⟩|⟨g2,e4⟩<;>try omega
  have:=(BK ok hv cv hx aa).1;rw[this,g1,g2]
 .rcases yS e1.symm with ⟨g1,e3⟩|⟨g1,e3⟩<;>rcases yS e2.symm with ⟨g2,e4⟩|⟨g2,e4⟩<;>try omega
  have:=(BK ok hu cu hx aa).1;rw[this,g1,g2];rfl
 .rcases yS e1.symm with ⟨g1,e3⟩|⟨g1,e3⟩<;>rcases yS e2.symm with ⟨g2,e4⟩|⟨g2,e4⟩<;>try omega
  have:=(BK ok hv cv hy (Dc ov aa)).1;rw[this,g2];revert g1;cases gX lx<;>simp
 rcases yS e1.symm with ⟨g1,e3⟩|⟨g1,e3⟩<;>rcases yS e2.symm with ⟨g2,e4⟩|⟨g2,e4⟩<;>try omega
 have:=(BK ok hu cu hy (Dc ou aa)).1;rw[this];revert g1 g2;cases gX lx<;>cases gX lu<;>simp
def Vt{x p w:aS}(h1:Xr x p)(h2:Xr x w)(h3:Xr p w)(cx:x.k.aD=true)(cp:p.k.aD=true)(cw:w.k.aD=true)(e1:x.k.id=p.k.id):w.k.id≠x.k.id:=by intro e2;have a:=(h1 cx cp e1).ov;have b:=(h2 cx cw e2.symm).ov;have d:=(h3 cp cw (by rw[<- e1,e2])).ov;rw[b] at a;rw[d] at a;revert a;cases w.k.over<;>simp
def U2{α:Type}{z:List α}{a j:Nat}(ha:a<z.length)(hj:j<z.length):(z.drop a++z.take a)[j]?=z[(a+j)%z.length]? :=by
 by_cases h:a+j<z.length
 .rw[xB (by rw[lD];omega),Ah,fX h]
 rw[Ag (by rw[lD];omega),lD,l8,aG aa,Nat.mod_eq_sub_mod aa,fX aa];congr 1;omega
def auq{α:Type}{r:List α}{j:Nat}{u v:α}(hu:r[j]?=some u)(hv:r[j+1]?=some v):r=r.take j++u::v::r.drop (j+2):=by
 obtain⟨h1,e1⟩:=aW.1 hu;obtain⟨h2,e2⟩:=aW.1 hv;have:r.drop j=u::v::r.drop (j+2):=by rw[<- ur h1,e1,<- ur h2,e2]
 rw[<- this,mU]
end
def YL{p q w:Int}{l:Let}(hc:l.aD=true)(hw:l.id=w):(iG [p,q] l).id=w-(if p<w then 1 else 0)-(if q<w then 1 else 0):=by rw[afN hc,hw];by_cases c1:p<w<;>by_cases c2:q<w<;>simp[c1,c2]<;>omega
section
variable {F:Nat} {ls:ai}
def akO(g:cE F ls){a b:Nat}(ha:a<ls.length)(hb:b<ls.length){L:c_}(h:xh F ls a b=some L):Cert F L:=by
 obtain⟨x,y,r0,s,e,hx,hy,c,hp,KA,hzx,hzy,oL⟩:=aad g ha;have q:=c.q;have mM:=LZ ls;unfold xh at h;split at h
 case isFalse=>cases h
 rename_i hc;simp only[cJ,vU,dh,l7,lS] at hc;obtain⟨Hl,aK,adV,hJ,lM,yf⟩:=hc;have pa:pA ls a=x.p:=iU hx;have pb:pA ls (nx ls a)=y.p:=iU hy;cases h;have hnb:nx ls b<ls.length:=dk _ aa;have hna:nx ls a<ls.length:=dk _ aa;obtain⟨u,KL⟩:=aN (ls:=zF ls) (k:=b) aa;obtain⟨v,OR⟩:=aN (ls:=zF ls) (k:=nx ls b) aa;have pc:pA ls b=u.p:=iU (by rw[<- IE,gk,KL];rfl);have pd:pA ls (nx ls b)=v.p:=iU (by rw[<- IE,gk,OR];rfl);rw[pa,pb] at aK;rw[pa,pb,pc,pd] at adV
 -- they are visits, two over and two under
 have kinds:x.k.aD=true/\y.k.aD=true/\u.k.aD=true/\v.k.aD=true/\x.k.over=y.k.over/\u.k.over=v.k.over/\x.k.over≠u.k.over:=by
  have bo:∀e ov,iB ls e ov=true->(pA ls e).l.aD=true/\(pA ls (nx ls e)).l.aD=true/\(pA ls e).l.over=ov/\(pA ls (nx ls e)).l.over=ov:=fun e ov h=>by unfold iB at h;simp only[cJ,dh] at h;obtain⟨h1,h2,h3,h4⟩:=h;exact⟨by unfold Let.aD;rw[h1];rfl,by unfold Let.aD;rw[h2];rfl,h3,h4⟩
  rcases Hl with ⟨h1,h2⟩|⟨h1,h2⟩<;>obtain⟨a1,a2,a3,a4⟩:=bo _ _ h1<;>obtain⟨b1,b2,b3,b4⟩:=bo _ _ h2
  all_goals
   rw[pa] at a1 a3;rw[pb] at a2 a4;rw[pc] at b1 b3;rw[pd] at b2 b4;refine⟨a1,a2,b1,b2,?_,?_,?_⟩
   .show x.p.l.over=y.p.l.over;rw[a3,a4]
   .show u.p.l.over=v.p.l.over;rw[b3,b4]
   show x.p.l.over≠u.p.l.over;rw[a3,b3];decide
 obtain⟨cx,cy,cu,cv,ov1,ov2,ov3⟩:=kinds;have jc:x.k.id≠y.k.id:=aK;have Oh:(u.k.id=x.k.id/\v.k.id=y.k.id)\/(u.k.id=y.k.id/\v.k.id=x.k.id):=adV;have HM:u.k.id≠v.k.id:=by
  rcases Oh with ⟨h1,h2⟩|⟨h1,h2⟩
  .rw[h1,h2];exact jc
  rw[h1,h2];exact jc.symm
 have dU:a≠b:=by
  rintro rfl
  rw[hzx] at KL;cases KL;exact ov3 rfl
 have lx:ls[a]?=some x.k:=by have:=Co hzx;rwa[mA] at this
 have ly:ls[nx ls a]?=some y.k:=by have:=Co hzy;rwa[mA] at this
 have lu:ls[b]?=some u.k:=by have:=Co KL;rwa[mA] at this
 have lv:ls[nx ls b]?=some v.k:=by have:=Co OR;rwa[mA] at this
 have hg:=aq6 g ha hb lx ly lu lv cx cy cu cv jc HM dU yf
 -- where the second Qv stands, from the first one on
 obtain⟨j,Hx,nh,A6⟩:∃j,j+3<ls.length/\(a+(j+2))%ls.length=b/\(a+(j+3))%ls.length=nx ls b:=by
  have T0:nx ls a≠b:=by intro e;rw[e,KL] at hzy;cases hzy;exact ov3 ov1
  have XY:nx ls b≠a:=by intro e;rw[e,hzx] at OR;cases OR;exact ov3 ov2.symm
  unfold nx at T0 XY |-;by_cases c1:a<b
  .have e1:(a+1)%ls.length=a+1:=fX aa;rw[e1] at T0;have h2:b≠a+1:=fun h=>T0 h.symm;have h3:¬(b+1=ls.length/\a=0):=fun⟨h3,h4⟩=>XY (by rw[h3,EO,h4]);refine⟨b-a-2,aa,?_,?_⟩
   .rw[show a+(b-a-2+2)=b by omega,fX hb]
   rw[show a+(b-a-2+3)=b+1 by omega]
  have e1:(b+1)%ls.length=b+1:=fX aa;rw[e1] at XY;have h3:¬(a+1=ls.length/\b=0):=fun⟨h3,h4⟩=>T0 (by rw[h3,EO,h4]);refine⟨b+ls.length-a-2,aa,?_,?_⟩
  .rw[show a+(b+ls.length-a-2+2)=b+ls.length by omega,n9,fX hb]
  rw[show a+(b+ls.length-a-2+3)=b+1+ls.length by omega,n9]
 have hru:r0[j]?=some u:=by have:=U2 (z:=zF ls) (a:=a) (j:=j+2) aa aa;rw[e,mM,nh,KL] at this;exact this
 have KB:r0[j+1]?=some v:=by have:=U2 (z:=zF ls) (a:=a) (j:=j+3) aa aa;rw[e,mM,A6,OR] at this;exact this
 have qc:=auq hru KB;obtain⟨c1,c2,yq,anP,TN⟩:∃c1 c2,r0=c1++u::v::c2/\c1.length=j/\c2.length+j+4=ls.length:=by
  refine⟨_,_,qc,?_,?_⟩
  .have:=(aW.1 hru).1;rw[iH];omega
  have h1:=(aW.1 KB).1;have h2:=oL.length_eq;rw[mM] at h2;simp only[dL] at h2;rw[lD];omega
 subst yq
 -- the two paths that are left
 obtain⟨kG,fR,uN⟩:=hp;obtain⟨s2,lX,Bd,zI,ml⟩:=O9.1 uN;have hj0:j≠0:=by
  rintro rfl
  exact hJ nh
 have hj9:c2≠[]:=by
  rintro rfl
  simp only[fv] at TN;refine lM ?_;rw[<- nh,yP,show a+(j+2)+2=a+ls.length by omega,n9,fX ha]
 have iZ:c1≠[]:=by rintro rfl;simp at anP;omega
 have q4:Cq F ([x,y,u,v]++(c1++c2)) (TF ls) (BF ls):=by refine q.perm ?_;refine List.Perm.cons x (List.Perm.cons y ?_);exact List.perm_middle.trans (List.Perm.cons u List.perm_middle)
 obtain⟨w1,q5⟩:=mB.1 q4.cr;obtain⟨w2,q6⟩:=mB.1 q5;obtain⟨w3,q7⟩:=mB.1 q6;obtain⟨w4,q8⟩:=mB.1 q7;have rxu:Xr x u:=w1 u af;have rxv:Xr x v:=w1 v af;have ryu:Xr y u:=w2 u af;have ryv:Xr y v:=w2 v af;have Vu:∀w∈c1++c2,w.k.aD=true->w.k.id≠x.k.id/\w.k.id≠y.k.id:=fun w hw cw=>by
  have a1:Xr x w:=w1 w (EK [y,u,v] hw);have a2:Xr y w:=w2 w (EK [u,v] hw);have a3:Xr u w:=w3 w (EK [v] hw);have a4:Xr v w:=w4 w hw;rcases Oh with ⟨h1,h2⟩|⟨h1,h2⟩
  .exact⟨Vt rxu a1 a3 cx cu cw h1.symm,Vt ryv a2 a4 cy cv cw h2.symm⟩
  exact⟨Vt rxv a1 a4 cx cv cw h2.symm,Vt ryu a2 a3 cy cu cw h1.symm⟩
 have bx:=(q4.ok x af).cb cx;have lT:=(q4.ok y af).cb cy;have bu:=(q4.ok u af).cb cu;have bv:=(q4.ok v af).cb cv;rw[kG] at bx;rw[fR] at lT;rw[zI] at bv
 -- which names are merged, and which are lost
 obtain⟨mc,me,bg,m1,m2,m3⟩:∃mc me bg:Nat,y.o.mp (jG mc me)=s.mp (jG mc me)/\v.o.mp (jG mc me)=s2.mp (jG mc me)/\
   (∀t,(t=x.o.l\/t=x.o.r)\/(t=y.o.l\/t=y.o.r)\/(t=u.o.l\/t=u.o.r)\/(t=v.o.l\/t=v.o.r)->t=mc\/t=bg\/(t=s.l\/t=s.r)\/(t=s2.l\/t=s2.r)):=by
  have dN:y.o.b=s.b:=by rw[<- lT,<- bx]
  have bR:v.o.b=s2.b:=by rw[<- bv,<- bu,Bd]
  have fin:∀mc me,jG mc me y.o.l=jG mc me s.l->jG mc me y.o.r=jG mc me s.r->jG mc me v.o.l=jG mc me s2.l->jG mc me v.o.r=jG mc me s2.r->y.o.mp (jG mc me)=s.mp (jG mc me)/\v.o.mp (jG mc me)=s2.mp (jG mc me):=fun mc me k1 k2 k3 k4=>⟨eV.ext' k1 k2 dN,eV.ext' k3 k4 bR⟩;rcases Oh with ⟨h1,h2⟩|⟨h1,h2⟩
  .have p1:=(rxu cx cu h1.symm).x4;have p2:=(ryv cy cv h2.symm).x4;rw[kG,Bd] at p1;rw[fR,zI] at p2;obtain⟨a1,a2,a3,a4⟩:=p1;obtain⟨b1,b2,b3,b4⟩:=p2;cases A4:gX x.k
   .have zy:gX y.k=true:=by revert hg;rw[A4];cases gX y.k<;>simp
    rw[A4] at a1 a2 a3 a4;rw[zy] at b1 b2 b3 b4;simp only[dR,if_false,if_true] at a1 a2 a3 a4 b1 b2 b3 b4;refine⟨y.o.l,s.l,x.o.r,?_⟩;have f:=fin y.o.l s.l (by rw[uU,uV]) (by rw[b2,a4]) (by rw[<- b1,a3]) (by rw[b4,<- a1,uU,uV]);refine⟨f.1,f.2,?_⟩;rintro t ((rfl|rfl)|(rfl|rfl)|(rfl|rfl)|(rfl|rfl))
    .exact .inr (.inr (.inr (.inl a3.symm)))
    .exact .inr (.inl rfl)
    .exact .inl rfl
    .exact .inr (.inr (.inl (.inr (b2.trans a4))))
    .exact .inr (.inl a2.symm)
    .exact .inr (.inr (.inl (.inr a4)))
    .exact .inr (.inr (.inr (.inl (by rw[<- b1,a3]))))
    exact .inl b4
   have zy:gX y.k=false:=by revert hg;rw[A4];cases gX y.k<;>simp
   rw[A4] at a1 a2 a3 a4;rw[zy] at b1 b2 b3 b4;simp only[dR,if_false,if_true] at a1 a2 a3 a4 b1 b2 b3 b4;refine⟨y.o.r,s.r,x.o.l,?_⟩;have f:=fin y.o.r s.r (by rw[<- b3,a1]) (by rw[uU,uV]) (by rw[a3,<- b2,uU,uV]) (by rw[b4,a2]);refine⟨f.1,f.2,?_⟩;rintro t ((rfl|rfl)|(rfl|rfl)|(rfl|rfl)|(rfl|rfl))
   .exact .inr (.inl rfl)
   .exact .inr (.inr (.inr (.inr a2)))
   .exact .inr (.inr (.inl (.inl (by rw[<- b3,a1]))))
   .exact .inl rfl
   .exact .inr (.inr (.inl (.inl a1.symm)))
   .exact .inr (.inl a4)
   .exact .inl b2.symm
   exact .inr (.inr (.inr (.inr (b4.trans a2))))
  have p1:=(rxv cx cv h2.symm).x4;have p2:=(ryu cy cu h1.symm).x4;rw[kG,zI] at p1;rw[fR,Bd] at p2;obtain⟨a1,a2,a3,a4⟩:=p1;obtain⟨b1,b2,b3,b4⟩:=p2;cases A4:gX x.k
  .have zy:gX y.k=true:=by revert hg;rw[A4];cases gX y.k<;>simp
   rw[A4] at a1 a2 a3 a4;rw[zy] at b1 b2 b3 b4;simp only[dR,if_false,if_true] at a1 a2 a3 a4 b1 b2 b3 b4;refine⟨y.o.r,s.r,x.o.l,?_⟩;have f:=fin y.o.r s.r (by rw[a1,<- b4]) (by rw[uU,uV]) (by rw[<- a2,b3]) (by rw[a4,<- b2,uU,uV]);refine⟨f.1,f.2,?_⟩;rintro t ((rfl|rfl)|(rfl|rfl)|(rfl|rfl)|(rfl|rfl))
   .exact .inr (.inl rfl)
   .exact .inr (.inr (.inr (.inl b3.symm)))
   .exact .inr (.inr (.inl (.inl (by rw[a1,<- b4]))))
   .exact .inl rfl
   .exact .inr (.inl b1.symm)
   .exact .inr (.inr (.inl (.inl (by rw[a1]))))
   .exact .inr (.inr (.inr (.inl (by rw[<- a2,b3]))))
   exact .inr (.inr (.inl (.inr a4)))
  have zy:gX y.k=false:=by revert hg;rw[A4];cases gX y.k<;>simp
  rw[A4] at a1 a2 a3 a4;rw[zy] at b1 b2 b3 b4;simp only[dR,if_false,if_true] at a1 a2 a3 a4 b1 b2 b3 b4;refine⟨y.o.l,s.l,x.o.r,?_⟩;have f:=fin y.o.l s.l (by rw[uU,uV]) (by rw[b2,a3]) (by rw[<- a1,b3,uU,uV]) (by rw[a4,b1]);refine⟨f.1,f.2,?_⟩;rintro t ((rfl|rfl)|(rfl|rfl)|(rfl|rfl)|(rfl|rfl))
  .exact .inr (.inr (.inr (.inr b1)))
  .exact .inr (.inl rfl)
  .exact .inl rfl
  .exact .inr (.inr (.inl (.inr (by rw[b2,a3]))))
  .exact .inr (.inr (.inl (.inr a3)))
  .exact .inr (.inl b4)
  .exact .inr (.inr (.inl (.inl a1.symm)))
  exact .inr (.inr (.inr (.inr (a4.trans b1))))
 have AW:∀z:j_,aq Let.aD (aT ([x,y,u,v]++z))=aq Let.aD (aT z)+4:=fun z=>by rw[Wv,mE,mE,mE,mE,Ww,(zK cx).1,(zK cy).1,(zK cu).1,(zK cv).1];omega
 have Hn:∀z:j_,aq Let.aF (aT ([x,y,u,v]++z))=aq Let.aF (aT z):=fun z=>by rw[Wv,mE,mE,mE,mE,Ww,(zK cx).2,(zK cy).2,(zK cu).2,(zK cv).2];omega
 have zk:∀(z:j_) k,cg (aT ([x,y,u,v]++z)) k=cg (aT z) k:=fun z k=>by show aq _ _=aq _ _;rw[Wv,mE,mE,mE,mE,Ww,Jc k cx,Jc k cy,Jc k cu,Jc k cv];simp
 have hP4:([x,y,u,v]++(c1++c2)).Perm (zF ls):=by refine List.Perm.trans (List.Perm.symm ?_) oL;refine List.Perm.cons x (List.Perm.cons y ?_);exact List.perm_middle.trans (List.Perm.cons u List.perm_middle)
 have h2:aq Let.aD (aT ([x,y,u,v]++(c1++c2)))=aq Let.aD ls:=by rw[Dj hP4,mA]
 have h3:aq Let.aF (aT ([x,y,u,v]++(c1++c2)))=aq Let.aF ls:=by rw[Dj hP4,mA]
 have eO:=q4.ev
 let ψ:=jG mc me
 let hL:=iG [x.k.id,y.k.id]
 let r:=c1++c2
 have mC:aq Let.aD (aT (r.map (aS.mp ψ hL)))=aq Let.aD (aT r):=Di (fun l=>(Cn _).aD l) r;have mP:aq Let.aF (aT (r.map (aS.mp ψ hL)))=aq Let.aF (aT r):=Di (fun l=>(Cn _).aF l) r;have mG:∀k,cg (aT (r.map (aS.mp ψ hL))) k=cg (aT r) k:=fun k=>Di (fun l=>afL _ k l) r;have Km:∀w∈[x,y,u,v]++r,w.k.aD=true->1<=w.k.id/\w.k.id<=((aq Let.aD (aT r)/2:Nat):Int)+2:=fun w hw hc=>by have:=q4.ids w hw hc;rw[AW] at this;show 1<=w.k.id/\w.k.id<=((aq Let.aD (aT (c1++c2))/2:Nat):Int)+2;omega
 have idx:=Km x af cx;have idy:=Km y af cy;have inr:∀w∈r,w∈[x,y,u,v]++r:=fun w hw=>EK _ hw;have qn:Cq F ([]++r.map (aS.mp ψ hL)) (fun G k=>ψ (TF ls G k)) (fun G k=>ψ (BF ls G k)):=by
  refine Cq.edit (X:=[x,y,u,v]) (r:=r) q4 (Cn _) (fun w hw=>afM (q4.ok w (inr w hw)).bad) (fun p hp o ho cp co e=>?_) (fun p hp o ho pp po e1 e2=>?_) (fun _ h=>by cases h) List.Pairwise.nil List.Pairwise.nil (fun _ h=>by cases h) (fun _ h=>by cases h) ?_ (fun _ h=>by cases h) (fun p hp cp=>?_) (fun _ h=>by cases h) (fun p hp pp=>?_) (fun _ h=>by cases h) (fun p hp pp=>?_) (fun k hk=>?_) ?_
  .obtain⟨n1,n2⟩:=Vu p hp cp;obtain⟨n3,n4⟩:=Vu o ho co;rw[YL cp rfl,YL co rfl] at e;split at e<;>split at e<;>split at e<;>split at e<;>omega
  .have e1:(iG [x.k.id,y.k.id] p.k).gate=(iG [x.k.id,y.k.id] o.k).gate:=e1;have e2:(iG [x.k.id,y.k.id] p.k).aA=(iG [x.k.id,y.k.id] o.k).aA:=e2;rw[Cm pp,Cm po] at e1 e2;exact⟨e1,e2⟩
  .rw[gR,mC];rw[AW] at eO;show aq Let.aD (aT (c1++c2))%2=0;omega
  .rw[gR,mC];show 1<=(iG [x.k.id,y.k.id] p.k).id/\(iG [x.k.id,y.k.id] p.k).id<=_;rw[YL cp rfl];have h1:=Km p (inr p hp) cp;obtain⟨n1,n2⟩:=Vu p hp cp;have hxy':=jc;split<;>split<;>omega
  .rw[gR,mG];show 1<=(iG [x.k.id,y.k.id] p.k).aA/\(iG [x.k.id,y.k.id] p.k).aA<=((cg (aT r) (iG [x.k.id,y.k.id] p.k).gate.toNat:Nat):Int);rw[Cm pp,<- zk r];exact q4.rr p (inr p hp) pp
  .show(ψ _=ψ (TF ls (iG [x.k.id,y.k.id] p.k).gate.toNat ((iG [x.k.id,y.k.id] p.k).aA.toNat-1))/\ψ _=ψ (BF ls (iG [x.k.id,y.k.id] p.k).gate.toNat ((iG [x.k.id,y.k.id] p.k).aA.toNat-1)))/\ψ _=ψ (TF ls (iG [x.k.id,y.k.id] p.k).gate.toNat (iG [x.k.id,y.k.id] p.k).aA.toNat)/\ψ _=ψ (BF ls (iG [x.k.id,y.k.id] p.k).gate.toNat (iG [x.k.id,y.k.id] p.k).aA.toNat);rw[Cm pp];exact⟨⟨rfl,rfl⟩,rfl,rfl⟩
  .rw[gR,mG,<- zk r];obtain⟨t1,t2⟩:=q4.gt k hk;exact⟨congrArg ψ t1,congrArg ψ t2⟩
  rw[gR,mG,<- zk r];obtain⟨t1,t2⟩:=q4.gz;exact⟨congrArg ψ t1,congrArg ψ t2⟩
 have NZ:Cert F (r.map fun w=>tB [x.k.id,y.k.id] w.p):=by
  refine Cq.done (X:=[x,y,u,v]) (r:=r) (X':=[]) (L:=[mc,bg]) (N:=[]) (V:=mO ls) (z':=r.map (aS.mp ψ hL)) qn Gn (fun t ht=>?_) (List.Perm.refl _) ⟨s.mp ψ,?_⟩ ?_ ?_ (fun t _ ht=>Uu fun e=>ht (by simp[e])) (fun w hw t ht ew BN=>?_) xE (fun t ht=>by cases ht) (fun t ht=>by cases ht) (by rw[EJ];exact cD _) ?_
  .obtain⟨w,hw,ew⟩:=c.wit t ht;refine⟨w,?_,ew⟩;have:w∈zF ls:=oL.mem_iff.1 hw;exact hP4.mem_iff.2 this
  .have e1:=UJ (ψ:=ψ) (h:=hL) lX;have e2:=UJ (ψ:=ψ) (h:=hL) ml;rw[show y.o.mp ψ=s.mp ψ from m1] at e1;rw[show v.o.mp ψ=s2.mp ψ from m2] at e2;show ko (s.mp ψ) ((c1++c2).map (aS.mp ψ hL)) (s.mp ψ);rw[ki];exact O9.2 ⟨_,e1,e2⟩
  .rw[uu];refine Ai fun w _=>?_;rw[afP];rfl
  .obtain⟨w,hw,rJ⟩:=c.one;have FU:w∈[x,y,u,v]++r:=hP4.mem_iff.2 (oL.mem_iff.1 hw);rcases eX.1 FU with h|h
   .exfalso;simp only[ch,eL,or_false] at h;rcases h with rfl|rfl|rfl|rfl
    .rw[nj cx] at rJ;cases rJ
    .rw[nj cy] at rJ;cases rJ
    .rw[nj cu] at rJ;cases rJ
    rw[nj cv] at rJ;cases rJ
   refine⟨w.mp ψ hL,by rw[gR];exact cV.2 ⟨w,h,rfl⟩,?_⟩;show(iG [x.k.id,y.k.id] w.k).aF=true;rw[(Cn _).aF];exact rJ
  .simp only[ch,eL,or_false,not_or] at hw BN;have key:=m3 t (by
    rcases hw with rfl|rfl|rfl|rfl
    .exact .inl ew
    .exact .inr (.inl ew)
    .exact .inr (.inr (.inl ew))
    exact .inr (.inr (.inr ew)))
   have hψ:ψ t=t:=Uu BN.1;have put:∀d∈r,(t=d.o.l\/t=d.o.r)->∃y'∈[]++r.map (aS.mp ψ hL),t=y'.o.l\/t=y'.o.r:=fun d hd h=>by
    refine⟨d.mp ψ hL,by rw[gR];exact cV.2 ⟨d,hd,rfl⟩,?_⟩;rcases h with h|h
    .left;show t=ψ d.o.l;rw[<- h,hψ]
    right;show t=ψ d.o.r;rw[<- h,hψ]
   rcases key with h|h|h|h
   .exact absurd h BN.1
   .exact absurd h BN.2
   .obtain⟨d,hd,ed⟩:=UI ml hj9;exact put d (EK _ hd) (by rw[ed];exact h)
   obtain⟨d,hd,ed⟩:=UI lX iZ;exact put d (Gl _ hd) (by rw[ed];exact h)
  rw[gR,mC,mP];have h1:=g.nw;rw[AW] at h2;rw[Hn] at h3;show aq Let.aF (aT (c1++c2))+aq Let.aD (aT (c1++c2))/2+1+2<=_;simp only[fv];omega
 rw[pa,pb];show Cert F ((qQ (pieces ls) (vl [x.k.id,y.k.id])).map (tB [x.k.id,y.k.id]));rw[afl (l:=pieces ls) (drop:=vl [x.k.id,y.k.id]) (d:=fun p=>(p.l.kind==2)&&[x.k.id,y.k.id].contains p.l.id) fun _ _=>rfl];refine acf (a:=a) ?_;rw[KA];have hkx:(x.p.l.kind==2)=true:=cx;have hky:(y.p.l.kind==2)=true:=cy;have hku:(u.p.l.kind==2)=true:=cu;have hkv:(v.p.l.kind==2)=true:=cv;have aoa:∀d∈r,(fun p:Pc=> !((p.l.kind==2)&&[x.k.id,y.k.id].contains p.l.id)) d.p=true:=fun d hd=>by
  show(!((d.p.l.kind==2)&&_))=true;cases hk:(d.p.l.kind==2)
  .rfl
  obtain⟨n1,n2⟩:=Vu d hd hk;simp[n1,n2]
 have TT:∀(d:aS) (t:c_),(d.p.l.kind==2)=true->(d.k.id=x.k.id\/d.k.id=y.k.id)->(d.p::t).filter (fun p=> !((p.l.kind==2)&&[x.k.id,y.k.id].contains p.l.id))=t.filter (fun p=> !((p.l.kind==2)&&[x.k.id,y.k.id].contains p.l.id)):=fun d t hd h=>by
  refine VI ?_;rcases h with h|h
  .have h:d.p.l.id=x.k.id:=h;simp[h,hd]
  have h:d.p.l.id=y.k.id:=h;simp[h,hd]
 have hf:((x::y::(c1++u::v::c2)).map aS.p).filter (fun p=> !((p.l.kind==2)&&[x.k.id,y.k.id].contains p.l.id))=r.map aS.p:=by
  rw[eD,eD,TT x _ hkx (.inl rfl),TT y _ hky (.inr rfl),ki,List.filter_append,eD,eD,
   TT u _ hku (Oh.imp (fun h=>h.1) fun h=>h.1),TT v _ hkv (Oh.symm.imp (fun h=>h.2) fun h=>h.2)]
  rw[<- List.filter_append,<- ki];refine filter_all fun p hp=>?_;obtain⟨d,hd,rfl⟩:=cV.1 hp;exact aoa d hd
 rw[hf,uu];exact NZ
end
def aup{α:Type}{z:List α}{a:Nat}{x:α}(h:z[a]?=some x):z=z.take a++x::z.drop (a+1):=by
 obtain⟨hl,e⟩:=aW.1 h;have:z.drop a=x::z.drop (a+1):=by rw[<- e,ur]
 rw[<- this,mU]
section
variable {F:Nat} {ls:ai}
end
section
variable {F:Nat} {ls:ai}
end
end Go.Abs
