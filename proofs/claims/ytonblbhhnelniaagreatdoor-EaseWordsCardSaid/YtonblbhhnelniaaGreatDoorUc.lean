/- A part. -/
import Derived.Test.YtonblbhhnelniaaGreatDoorUa
import Derived.Test.YtonblbhhnelniaaGreatDoorWw
set_option linter.all false
set_option maxHeartbeats 16000000
namespace Go.Abs
def jq(c e a:Nat):Nat:=if a=c then e else a
theorem tV(c e:Nat):jq c e c=e:=if_pos rfl
theorem tW(c e:Nat):jq c e e=e:=by unfold jq;split<;>rfl
theorem Qc{c e a:Nat}(h:a≠c):jq c e a=a:=if_neg h
def ue(g ab kK:Int)(l:Let):Let:=if (l.kind==1)&&((l.gate==g)&&decide (ab<l.aB)) then {l with aB:=l.aB+kK} else l
theorem asd(g ab kK:Int)(p:Pc):rA g ab kK p=⟨ue g ab kK p.l,p.d⟩:=by unfold rA ue;split<;>rfl
theorem EY(g ab kK:Int):Ac (ue g ab kK):=by refine⟨fun l=>?_,fun l=>?_,fun l=>?_⟩<;>unfold ue<;>split<;>rfl
theorem JO(g ab kK:Int)(l:Let):(ue g ab kK l).gate=l.gate:=by unfold ue;split<;>rfl
theorem QU(g ab kK:Int)(l:Let):(ue g ab kK l).id=l.id:=by unfold ue;split<;>rfl
theorem ar9{g ab kK:Int}{l:Let}(h:l.aC=true):ue g ab kK l=l:=by unfold ue;have:=lJ h;unfold Let.aA at this;rw[this];simp
theorem asa(g ab kK:Int)(k:Nat)(l:Let):mU k (ue g ab kK l)=mU k l:=by unfold mU;rw[(EY g ab kK).aA,JO]
theorem asc{g ab kK:Int}{l:Let}(h:l.aA=true):(ue g ab kK l).aB=if l.gate=g/\ab<l.aB then l.aB+kK else l.aB:=by
 unfold ue;unfold Let.aA at h;rw[h];by_cases c:l.gate=g/\ab<l.aB
 .rw[if_pos c,if_pos (by simp[c.1,c.2])]
 rw[if_neg c,if_neg (by simpa using c)]
theorem asb{F:Nat}{g ab kK:Int}{l:Let}(h:dj F l=false):dj F (ue g ab kK l)=false:=by
 rcases vQ h with hp|hc
 .have gO:(ue g ab kK l).aA=true:=by rw[(EY g ab kK).aA];exact hp
  rw[r4 hp] at h;rw[r4 gO,JO,QU,(EY g ab kK).sign,(EY g ab kK).over];exact h
 rw[ar9 hc];exact h
theorem V2{l:List Pc}{drop:Nat->Pc->Bool}:∀d j,j+d<=l.length->(∀i p,j<=i->i<j+d->drop i p=false)->ny l drop (j+d)=ny l drop j++(l.drop j).take d:=by
 intro d
 induction d with
 |zero=>intro j _ _;simp
 |succ d ih=>intro j hj h;obtain⟨p,hp⟩:=aK (ls:=l) (k:=j+d) aa;rw[show j+(d+1)=(j+d)+1 by omega,AZ hp (h _ _ aa aa),ih j aa fun i p h1 h2=>h i p h1 aa,kn,r9,hp,tc];rfl
theorem adM{l:List Pc}{a:Nat}(ha:a<l.length)(h2:2<=l.length){p q:Pc}{r:List Pc}(e:l.drop a++l.take a=p::q::r):∃u v,(k9 l fun k _=>decide (k=a)||decide (k=(a+1)%l.length))=u++v/\r=v++u:=by
 have LV:∀i (p:Pc),i≠a->i≠(a+1)%l.length->(fun(k:Nat) (_:Pc)=>decide (k=a)||decide (k=(a+1)%l.length)) i p=false:=fun i p h1 h2=>by simp[h1,h2]
 have Au:∀i (p:Pc),i=a\/i=(a+1)%l.length->(fun(k:Nat) (_:Pc)=>decide (k=a)||decide (k=(a+1)%l.length)) i p=true:=fun i p h=>by simpa using h
 obtain⟨x,hx⟩:=aK ha;by_cases c:a+1<l.length
 .obtain⟨y,hy⟩:=aK c;have hm:(a+1)%l.length=a+1:=gD c;rw[hm] at LV Au ⊢;have k0:=V2 (l:=l) (drop:=fun k _=>decide (k=a)||decide (k=a+1)) a 0 aa fun i p _ h=>LV i p aa aa;have k1:=uD (drop:=fun k _=>decide (k=a)||decide (k=a+1)) hx (Au a x (.inl rfl));have k2:=uD (drop:=fun k _=>decide (k=a)||decide (k=a+1)) hy (Au (a+1) y (.inr rfl));have k3:=V2 (l:=l) (drop:=fun k _=>decide (k=a)||decide (k=a+1)) (l.length-(a+2)) (a+1+1) aa fun i p h _=>LV i p aa aa;refine⟨l.take a,l.drop (a+2),?_,?_⟩
  .unfold k9;rw[show a+1+1+(l.length-(a+2))=l.length by omega,k2,k1] at k3;rw[iD] at k0;rw[k3,k0];have:ny l (fun k _=>decide (k=a)||decide (k=a+1)) 0=[]:=rfl;rw[this,List.drop_zero,fp,fS (l:=l.drop (a+1+1)) (by rw[iC];omega)]
  have e1:l.drop a=x::y::l.drop (a+2):=by obtain⟨h1,e1⟩:=aS.1 hx;obtain⟨h2,e2⟩:=aS.1 hy;rw[<- tg h1,e1,<- tg h2,e2]
  rw[e1] at e;simp only[jg,Fh] at e;exact e.2.2.symm
 have ea:a+1=l.length:=aa;have hm:(a+1)%l.length=0:=by rw[ea,yH]
 rw[hm] at LV Au ⊢;obtain⟨y,hy⟩:=aK (ls:=l) (k:=0) aa;have k1:=uD (drop:=fun k _=>decide (k=a)||decide (k=0)) hy (Au 0 y (.inr rfl));have k2:=V2 (l:=l) (drop:=fun k _=>decide (k=a)||decide (k=0)) (a-1) 1 aa fun i p h h'=>LV i p aa aa;have k3:=uD (drop:=fun k _=>decide (k=a)||decide (k=0)) hx (Au a x (.inl rfl));refine⟨[],(l.drop 1).take (a-1),?_,?_⟩
 .unfold k9;rw[<- ea,k3];rw[show 1+(a-1)=a by omega] at k2;rw[k2];rw[show(1:Nat)=0+1 from rfl,k1];rfl
 have e1:l.drop a=[x]:=by obtain⟨h1,e1⟩:=aS.1 hx;rw[<- tg h1,e1,List.drop_eq_nil_of_le aa]
 have e2:l.take a=y::(l.drop 1).take (a-1):=by
  obtain⟨h1,e1⟩:=aS.1 hy;have:l=y::l.drop 1:=by have:=tg h1;rw[e1,List.drop_zero] at this;exact this.symm
  conv=>lhs;rw[this]
  rw[show a=(a-1)+1 by omega,List.take_succ_cons];rfl
 rw[e1,e2] at e;simp only[jg,fp,Fh] at e;rw[jR];exact e.2.2.symm
section
variable {F:Nat} {ls:List Let}
theorem dS.ext'{s t:dS}(h1:s.l=t.l)(h2:s.r=t.r)(h3:s.b=t.b):s=t:=by cases s;cases t;simp_all
theorem YJ(g:dr F ls){a:Nat}(ha:a<ls.length){L:List Pc}(h:xj ls a=some L):L=[]\/Cert F L:=by
 obtain⟨x,y,r,s,e,hx,hy,c,hp,IW,_,_,nu⟩:=XD g ha;have q:=c.q;unfold xj at h;have e1:(pieces ls).getD a ⟨j9,false⟩=x.p:=by rw[de,hx];rfl
 have e2:(pieces ls).getD ((a+1)%ls.length) ⟨j9,false⟩=y.p:=by rw[de,hy];rfl
 simp only[e1,e2] at h;split at h
 case isFalse=>cases h
 rename_i hc;simp only[cH,beq_iff_eq,kV,Bool.and_eq_false_iff,decide_eq_false_iff_not] at hc;obtain⟨fH,qP,kx,kz,amO⟩:=hc;cases h;have px:x.k.aA=true:=by show(x.k.kind==1)=true;simp[fH]
 have py:y.k.aA=true:=by show(y.k.kind==1)=true;simp[qP]
 obtain⟨gQ,eh,tO⟩:=hp;have ox:=(q.ok x af).pb px;have oy:=(q.ok y af).pb py;have plx:=q.pl x af px;have ply:=q.pl y af py;have gx:=((r4 px).1 (q.ok x af).bad).1.1.1;have rx:=q.rr x af px;have ry:=q.rr y af py;have u6:y.k.gate=x.k.gate:=kx.symm;rw[u6] at ry
 -- the counts
 have zk:∀z:List aN,ay Let.aC (aO (x::y::z))=ay Let.aC (aO z):=fun z=>by rw[lB,lB,(ifP px).1,(ifP py).1];omega
 have F6:∀z:List aN,ay Let.aA (aO (x::y::z))=ay Let.aA (aO z)+2:=fun z=>by rw[lB,lB,(ifP px).2,(ifP py).2];omega
 have hGi:((x.k.gate.toNat:Nat):Int)=x.k.gate:=Int.toNat_of_nonneg gx.1;have xK:∀(z:List aN) k,cg (aO (x::y::z)) k=cg (aO z) k+if k=x.k.gate.toNat then 2 else 0:=fun z k=>by
  show ay _ _=ay _ _+_;rw[lB,lB];have:∀w:aN,w.k.aA=true->w.k.gate=x.k.gate->(if mU k w.k=true then 1 else 0)=if k=x.k.gate.toNat then 1 else 0:=fun w hw hgw=>by
   unfold mU;rw[hw,hgw];by_cases ck:k=x.k.gate.toNat
   .subst ck;simp[hGi]
   have:(x.k.gate==(k:Int))=false:=by rw[beq_eq_false_iff_ne];omega
   simp[this,ck]
  rw[this x px rfl,this y py u6];split<;>omega
 have h2:ay Let.aC (aO (x::y::r))=ay Let.aC ls:=by rw[B0 nu,kU]
 have h3:ay Let.aA (aO (x::y::r))=ay Let.aA ls:=by rw[B0 nu,kU]
 have hlen:ls.length=r.length+2:=by have:=nu.length_eq;rw[Ko] at this;simpa using this.symm
 -- ranks
 obtain⟨lo,hlo1,Vs,rW⟩:∃lo:Nat,1<=lo/\((x.k.aB=lo/\y.k.aB=lo+1)\/(x.k.aB=lo+1/\y.k.aB=lo))/\wQ x.k.aB y.k.aB=lo+1:=by
  have IV:wQ x.k.aB y.k.aB-CW x.k.aB y.k.aB=1:=kz;unfold wQ CW at IV;unfold wQ;by_cases c1:x.k.aB<y.k.aB
  .rw[if_pos c1] at IV ⊢;rw[if_neg aa] at IV;exact⟨x.k.aB.toNat,aa,.inl ⟨aa,aa⟩,aa⟩
  rw[if_neg c1] at IV ⊢;by_cases c2:y.k.aB<x.k.aB
  .rw[if_pos c2] at IV;exact⟨y.k.aB.toNat,aa,.inr ⟨aa,aa⟩,aa⟩
  rw[if_neg c2] at IV;omega
 have ab5:lo+1<=cg (aO (x::y::r)) x.k.gate.toNat:=by rcases Vs with ⟨h1,h2⟩|⟨h1,h2⟩<;>omega
 -- which names are merged
 obtain⟨mc,me,m1,m2,m3,m4,m5⟩:∃mc me:Nat,(y.o.mp (jq mc me)=s.mp (jq mc me))/\jq mc me (TF ls x.k.gate.toNat (lo+1))=jq mc me (TF ls x.k.gate.toNat (lo-1))/\jq mc me (BF ls x.k.gate.toNat (lo+1))=jq mc me (BF ls x.k.gate.toNat (lo-1))/\
   (∀t,(t=y.o.l\/t=y.o.r)->t=mc\/t=s.l\/t=s.r)/\True:=by
  have hdy:y.p.d= !x.p.d:=by have h1:=oy.2;rw[eh,ox.1] at h1;revert h1;cases x.p.d<;>cases y.p.d<;>simp
  have hb:y.o.b=s.b:=by rw[oy.1,hdy,<- gQ,ox.2]
  obtain⟨p1,p2,p3,p4⟩:=plx;obtain⟨p5,p6,p7,p8⟩:=ply;rw[u6] at p5 p6 p7 p8;unfold aN.up at p1 p2 p5 p6;unfold aN.lo at p3 p4 p7 p8;rw[hdy] at p5 p6 p7 p8;rw[gQ] at p1 p2 p3 p4;rw[eh] at p5 p6 p7 p8;have done:∀mc me,(jq mc me y.o.l=jq mc me s.l)->(jq mc me y.o.r=jq mc me s.r)->y.o.mp (jq mc me)=s.mp (jq mc me):=fun mc me h1 h2=>dS.ext' h1 h2 hb;rcases Vs with ⟨r1,r2⟩|⟨r1,r2⟩
  .have n1:x.k.aB.toNat=lo:=aa;have n2:y.k.aB.toNat=lo+1:=aa;rw[n1] at p1 p2 p3 p4;rw[n2] at p5 p6 p7 p8;rw[Nat.add_sub_cancel] at p5 p7;cases hd:x.p.d<;>rw[hd] at p1 p2 p3 p4 p5 p6 p7 p8<;>simp only[Bool.not_false,Bx,dx,if_false,if_true,iF] at p1 p2 p3 p4 p5 p6 p7 p8
   .have ee:y.o.r=s.r:=by rw[p7,p4]
    refine⟨y.o.l,s.l,done _ _ ?_ (by rw[ee]),by rw[<- p6,p1],by rw[<- p8,<- p3,tV,tW],?_,trivial⟩
    .rw[tV,tW]
    rintro t (rfl|rfl)
    .exact .inl rfl
    exact .inr (.inr ee)
   have ee:y.o.l=s.l:=by rw[p5,p2]
   refine⟨y.o.r,s.r,done _ _ (by rw[ee]) ?_,by rw[<- p6,<- p1,tV,tW],by rw[<- p8,p3],?_,trivial⟩
   .rw[tV,tW]
   rintro t (rfl|rfl)
   .exact .inr (.inl ee)
   exact .inl rfl
  have n1:x.k.aB.toNat=lo+1:=aa;have n2:y.k.aB.toNat=lo:=aa;rw[n1] at p1 p2 p3 p4;rw[n2] at p5 p6 p7 p8;rw[Nat.add_sub_cancel] at p1 p3;cases hd:x.p.d<;>rw[hd] at p1 p2 p3 p4 p5 p6 p7 p8<;>simp only[Bool.not_false,Bx,dx,if_false,if_true,iF] at p1 p2 p3 p4 p5 p6 p7 p8
  .have ee:y.o.l=s.l:=by rw[p8,p3]
   refine⟨y.o.r,s.r,done _ _ (by rw[ee]) ?_,by rw[<- p2,p5],by rw[<- p4,<- p7,tV,tW],?_,trivial⟩
   .rw[tV,tW]
   rintro t (rfl|rfl)
   .exact .inr (.inl ee)
   exact .inl rfl
  have ee:y.o.r=s.r:=by rw[p6,p1]
  refine⟨y.o.l,s.l,done _ _ ?_ (by rw[ee]),by rw[<- p2,<- p5,tV,tW],by rw[<- p4,p7],?_,trivial⟩
  .rw[tV,tW]
  rintro t (rfl|rfl)
  .exact .inl rfl
  exact .inr (.inr ee)
 clear m5;by_cases hr:∃w∈r,w.k.aA=true
 case neg=>
  left;have Ec:ay Let.aA (aO r)=0:=Hf.2 fun l hl CH=>by obtain⟨w,hw,rfl⟩:=dq.1 hl;exact hr ⟨w,hw,CH⟩
  have hC0:ay Let.aC ls=0:=by have dL:=q.ev;rw[h2] at dL;rw[F6] at h3;rcases amO with h|h<;>omega
  have:ls.length=2:=by have:=ad5 g.ok;rw[F6] at h3;omega
  have IM:r=[]:=uL.1 aa;obtain⟨u,v,k1,k2⟩:=adM (l:=pieces ls) (a:=a) (by rw[fi];exact ha) (by rw[fi];omega) (by rw[IW];rfl);rw[fi] at k1;rw[IM] at k2;have k2:=k2.symm;simp only[kE,List.append_eq_nil_iff] at k2;unfold jP;rw[k1,k2.1,k2.2];rfl
 right;obtain⟨w0,uB,pw0⟩:=hr;have anu:r≠[]:=List.ne_nil_of_mem uB
 let ψ:=jq mc me
 let hL:=ue x.k.gate (lo+1) (-2)
 let T':Nat->Nat->Nat:=fun G k=>if G=x.k.gate.toNat then (if k<=lo-1 then ψ (TF ls G k) else ψ (TF ls G (k+2))) else ψ (TF ls G k)
 let B':Nat->Nat->Nat:=fun G k=>if G=x.k.gate.toNat then (if k<=lo-1 then ψ (BF ls G k) else ψ (BF ls G (k+2))) else ψ (BF ls G k)
 have mC:ay Let.aC (aO (r.map (aN.mp ψ hL)))=ay Let.aC (aO r):=BZ (fun l=>(EY _ _ _).aC l) r;have mP:ay Let.aA (aO (r.map (aN.mp ψ hL)))=ay Let.aA (aO r):=BZ (fun l=>(EY _ _ _).aA l) r;have mG:∀k,cg (aO (r.map (aN.mp ψ hL))) k=cg (aO r) k:=fun k=>BZ (fun l=>asa _ _ _ k l) r;have inr:∀w∈r,w∈x::y::r:=fun w hw=>by simp[hw]
 -- the others have other ranks
 have oth:∀w∈r,w.k.aA=true->w.k.gate=x.k.gate->w.k.aB<lo\/(lo:Int)+1<w.k.aB:=fun w hw pw gw=>by obtain⟨d1,d2⟩:=ui.1 q.rk;obtain⟨d3,_⟩:=ui.1 d2;have n1:=d1 w (by simp[hw]) px pw gw.symm;have n2:=d3 w hw py pw (by rw[u6,gw]);rcases Vs with ⟨r1,r2⟩|⟨r1,r2⟩<;>omega
 have rk':∀w∈r,w.k.aA=true->(hL w.k).aB=if w.k.gate=x.k.gate/\(lo:Int)+1<w.k.aB then w.k.aB-2 else w.k.aB:=fun w hw pw=>by have:=asc (g:=x.k.gate) (ab:=(lo:Int)+1) (kK:= -2) pw;rw[show w.k.aB+ -2=w.k.aB-2 by omega] at this;exact this
 have key:∀f:Nat->Nat->Nat,ψ (f x.k.gate.toNat (lo+1))=ψ (f x.k.gate.toNat (lo-1))->∀w∈r,w.k.aA=true->
   (ψ (f w.k.gate.toNat (w.k.aB.toNat-1))=(fun G k=>if G=x.k.gate.toNat then (if k<=lo-1 then ψ (f G k) else ψ (f G (k+2))) else ψ (f G k)) (hL w.k).gate.toNat ((hL w.k).aB.toNat-1))/\
   ψ (f w.k.gate.toNat w.k.aB.toNat)=(fun G k=>if G=x.k.gate.toNat then (if k<=lo-1 then ψ (f G k) else ψ (f G (k+2))) else ψ (f G k)) (hL w.k).gate.toNat (hL w.k).aB.toNat:=by
  intro f hf w hw pw;have Cw:(hL w.k).gate=w.k.gate:=JO _ _ _ _;have gw:=((r4 pw).1 (q.ok w (inr w hw)).bad).1.1.1;have rw1:=(q.rr w (inr w hw) pw).1;rw[rk' w hw pw,Cw];by_cases uT:w.k.gate=x.k.gate
  .have ho:=oth w hw pw uT;simp only[uT,if_true,true_and];by_cases cr:(lo:Int)+1<w.k.aB
   .rw[if_pos cr];constructor
    .by_cases c3:(w.k.aB-2).toNat-1<=lo-1
     .rw[if_pos c3];have e3:w.k.aB.toNat-1=lo+1:=aa;have e4:(w.k.aB-2).toNat-1=lo-1:=aa;rw[e3,e4];exact hf
     rw[if_neg c3];congr 2;omega
    rw[if_neg aa];congr 2;omega
   rw[if_neg cr];constructor
   .rw[if_pos aa]
   rw[if_pos aa]
  have:¬(w.k.gate.toNat=x.k.gate.toNat):=aa;simp only[uT,false_and,if_false,if_neg this];exact⟨trivial,trivial⟩
 have keyg:∀f:Nat->Nat->Nat,ψ (f x.k.gate.toNat (lo+1))=ψ (f x.k.gate.toNat (lo-1))->∀k,
   ((fun G k=>if G=x.k.gate.toNat then (if k<=lo-1 then ψ (f G k) else ψ (f G (k+2))) else ψ (f G k)) k (cg (aO r) k)=ψ (f k (cg (aO (x::y::r)) k)))/\
   (fun G k=>if G=x.k.gate.toNat then (if k<=lo-1 then ψ (f G k) else ψ (f G (k+2))) else ψ (f G k)) k 0=ψ (f k 0):=by
  intro f hf k;rw[xK r k];by_cases ck:k=x.k.gate.toNat
  .subst ck;simp only[if_true];rw[if_pos (bd _)];refine⟨?_,rfl⟩;rw[xK r x.k.gate.toNat,if_pos rfl] at ab5;by_cases c3:cg (aO r) x.k.gate.toNat<=lo-1
   .rw[if_pos c3];have e3:cg (aO r) x.k.gate.toNat=lo-1:=aa;rw[e3,show lo-1+2=lo+1 by omega];exact hf.symm
   rw[if_neg c3]
  simp only[if_neg ck,se];exact⟨trivial,trivial⟩
 have qn:Cq F ([]++r.map (aN.mp ψ hL)) T' B':=by
  refine Cq.edit (X:=[x,y]) (r:=r) q (EY _ _ _) (fun w hw=>asb (q.ok w (inr w hw)).bad) (fun u hu v hv cu cv e=>?_) (fun u hu v hv pu pv e1 e2=>?_) (fun _ h=>by cases h) List.Pairwise.nil List.Pairwise.nil (fun _ h=>by cases h) (fun _ h=>by cases h) ?_ (fun _ h=>by cases h) (fun u hu cu=>?_) (fun _ h=>by cases h) (fun u hu pu=>?_) (fun _ h=>by cases h) (fun u hu pu=>?_) (fun k hk=>?_) ?_
  .rw[QU,QU] at e;exact e
  .have e1':u.k.gate=v.k.gate:=by rw[JO,JO] at e1;exact e1
   refine⟨e1',?_⟩;have e2:(hL u.k).aB=(hL v.k).aB:=e2;rw[rk' u hu pu,rk' v hv pv] at e2;by_cases uT:u.k.gate=x.k.gate
   .have o1:=oth u hu pu uT;have o2:=oth v hv pv (e1'▸uT);have cv:v.k.gate=x.k.gate:=e1'▸uT;simp only[uT,cv,true_and] at e2;split at e2<;>split at e2<;>omega
   have cv:¬v.k.gate=x.k.gate:=e1'▸uT;simp only[uT,cv,false_and,if_false] at e2;exact e2
  .rw[fp,mC,<- zk r];exact q.ev
  .rw[fp,mC,QU,<- zk r];exact q.ids u (inr u hu) cu
  .rw[fp,JO,mG];show 1<=(hL u.k).aB/\(hL u.k).aB<=_;rw[rk' u hu pu];have h1:=q.rr u (inr u hu) pu;rw[xK r] at h1;have gu:=((r4 pu).1 (q.ok u (inr u hu)).bad).1.1.1;by_cases uT:u.k.gate=x.k.gate
   .have o1:=oth u hu pu uT;rw[uT] at h1 ⊢;rw[if_pos rfl] at h1;rw[xK r,if_pos rfl] at ab5;simp only[true_and];split<;>omega
   simp only[uT,false_and,if_false];rw[if_neg aa] at h1;exact h1
  .obtain⟨t1,t2⟩:=key (TF ls) m2 u hu pu;obtain⟨b1,b2⟩:=key (BF ls) m3 u hu pu;exact⟨⟨t1,b1⟩,t2,b2⟩
  .rw[fp,mG];obtain⟨t1,t2⟩:=keyg (TF ls) m2 k;obtain⟨b1,b2⟩:=keyg (BF ls) m3 k;obtain⟨_,t3⟩:=keyg (TF ls) m2 (k+1);obtain⟨_,b3⟩:=keyg (BF ls) m3 (k+1);have:=q.gt k hk;exact⟨by rw[show T' k _=_ from t1,this.1];exact t3.symm,by rw[show B' k _=_ from b1,this.2];exact b3.symm⟩
  rw[fp,mG];obtain⟨t1,t2⟩:=keyg (TF ls) m2 F;obtain⟨b1,b2⟩:=keyg (BF ls) m3 F;obtain⟨_,t3⟩:=keyg (TF ls) m2 0;obtain⟨_,b3⟩:=keyg (BF ls) m3 0;have:=q.gz;exact⟨by rw[show T' F _=_ from t1,this.1];exact t3.symm,by rw[show B' F _=_ from b1,this.2];exact b3.symm⟩
 have LY:Cert F (r.map fun w=>rA x.k.gate (lo+1) (-2) w.p):=by
  refine Cq.done (X:=[x,y]) (r:=r) (X':=[]) (L:=[mc,x.o.l,x.o.r]) (N:=[]) (V:=mh ls) (z':=r.map (aN.mp ψ hL)) qn c.nd (fun t ht=>c.wit t ht) (List.Perm.refl _) ⟨s.mp ψ,?_⟩ ?_ ?_ (fun t _ ht=>Qc fun e=>ht (by simp[e])) (fun w hw t ht ew Ar=>?_) w7 (fun t ht=>by cases ht) (fun t ht=>by cases ht) (by rw[Dx];exact aX _) ?_
  .have:=Qr (ψ:=ψ) (h:=hL) tO;rwa[show y.o.mp ψ=s.mp ψ from m1] at this
  .rw[ti];refine vH fun w _=>?_;rw[asd];rfl
  .refine⟨w0.mp ψ hL,?_,?_⟩
   .rw[fp];exact dq.2 ⟨w0,uB,rfl⟩
   show(hL w0.k).aA=true;rw[(EY _ _ _).aA];exact pw0
  .obtain⟨v,hv,hvo⟩:=Qq tO anu;simp only[cM,iO,or_false,not_or] at hw Ar;have key:t=s.l\/t=s.r:=by
    rcases hw with rfl|rfl
    .rcases ew with ew|ew
     .exact absurd ew Ar.2.1
     exact absurd ew Ar.2.2
    rcases m4 t ew with h|h
    .exact absurd h Ar.1
    exact h
   refine⟨v.mp ψ hL,by rw[fp];exact dq.2 ⟨v,hv,rfl⟩,?_⟩;show t=ψ v.o.l\/t=ψ v.o.r;rw[hvo];have:ψ t=t:=Qc Ar.1;rcases key with h|h
   .left;rw[<- h,this]
   right;rw[<- h,this]
  rw[fp,mC,mP];have h1:=g.nw;rw[zk] at h2;rw[F6] at h3;simp only[dN,cq];omega
 obtain⟨u,v,k1,k2⟩:=adM (l:=pieces ls) (a:=a) (by rw[fi];exact ha) (by rw[fi];omega) (by rw[IW];rfl);rw[fi] at k1;show Cert F ((k9 (pieces ls) fun k _=>decide (k=a)||decide (k=(a+1)%ls.length)).map (rA x.k.gate (wQ x.k.aB y.k.aB) (-2)));rw[k1,rW,km];refine Cert.kh ?_;rw[<- km,<- k2,ti];exact LY
end
section
variable {F:Nat} {ls:List Let}
theorem SJ(g:dr F ls){pl:Nat}{edges:List Nat}{e0:Nat}(he0:e0<ls.length)(h:tq F ls pl edges e0=true):∃w,w∈js (aT ls) (nD ls)/\(mY F ls w).places.length=pl/\((w.filter fun x=>decide (x<2*ls.length)).length=edges.length)/\ ∀e∈edges,∃d,d∈w/\d<2*ls.length/\d/2=e:=by
 have key:∀f∈eI F ls,DO f pl edges=true->∃w,w∈js (aT ls) (nD ls)/\(mY F ls w).places.length=pl/\((w.filter fun x=>decide (x<2*ls.length)).length=edges.length)/\ ∀e∈edges,∃d,d∈w/\d<2*ls.length/\d/2=e:=by intro f hf hc;obtain⟨w,hw,rfl⟩:=dq.1 hf;unfold DO at hc;simp only[cH,beq_iff_eq,jf] at hc;obtain⟨h1,h2,h3⟩:=hc;rw[Ih] at h1;refine⟨w,hw,h2,h1,fun e he=>?_⟩;have h4:=h3 e he;unfold yZ at h4;obtain⟨d,hd,uZ⟩:=Bz.1 (show 0<((mY F ls w).dh.countP fun d=>d/2==e) by omega);rw[Ih] at hd;obtain⟨d1,d2⟩:=uM.1 hd;exact⟨d,d1,by simpa using d2,by simpa using uZ⟩
 unfold tq at h;rw[By] at h;rcases h with h|h
 .exact key _ (aa4 aa) h
 exact key _ (aa4 aa) h
theorem ag6{D:List Nat}(h:D.length=2){x y:Nat}(hx:x∈D)(hy:y∈D)(aF:x≠y){z:Nat}(hz:z∈D):z=x\/z=y:=by
 match D,h with
 |[p,q],_=>simp only[cM,iO,or_false] at hx hy hz;omega
theorem ae0{e:Nat}(he:e<ls.length){l:Let}(hl:ls[nx ls e]?=some l)(hc:l.aC=true):aT ls (2*e)=dD ls.length (ib ls (nx ls e)) (gX l):=by
 have:2*e=iX ls.length (nx ls e) true:=by unfold iX nx;rw[if_pos rfl,EO he]
 rw[this,Br hl hc];unfold gX;cases (l.over==(l.sign==1))<;>rfl
theorem aeZ{e:Nat}{l:Let}(hl:ls[e]?=some l)(hc:l.aC=true):aT ls (2*e+1)=dD ls.length (ib ls e) (!gX l):=by have:2*e+1=iX ls.length e false:=rfl;rw[this,Br hl hc];unfold gX;cases (l.over==(l.sign==1))<;>rfl
theorem xl{v:Nat}{b:Bool}{x:Nat}(h:dD ls.length v b=x):(b=true/\x=2*v)\/(b=false/\x=2*((v+ls.length-1)%ls.length)+1):=by
 cases b
 .exact .inr ⟨rfl,h.symm⟩
 exact .inl ⟨rfl,h.symm⟩
theorem BS{v e:Nat}(hv:v<ls.length)(h:(v+ls.length-1)%ls.length=e):v=nx ls e:=by unfold nx;rw[<- h,wP hv]
theorem DX(ok:eS F ls){v u:Nat}{l m:Let}(hl:ls[v]?=some l)(hc:l.aC=true)(hm:ls[u]?=some m)(ho:ib ls v=u):gX m= !gX l/\m.aC=true/\m.id=l.id:=by obtain⟨_,w,hw,wc,wi,wo,ws⟩:=rl ok.cr hl hc;rw[ho,hm] at hw;cases hw;refine⟨?_,wc,wi⟩;unfold gX;rw[wo,ws];cases l.over<;>cases (l.sign==1)<;>rfl
theorem Qm(ok:eS F ls){v:Nat}{l:Let}(hl:ls[v]?=some l)(hc:l.aC=true):ib ls v<ls.length:=by obtain⟨_,w,hw,_⟩:=rl ok.cr hl hc;exact(aS.1 hw).1
theorem ap7(g:dr F ls){a b:Nat}(ha:a<ls.length)(hb:b<ls.length){lx ly lu lv:Let}(hx:ls[a]?=some lx)(hy:ls[nx ls a]?=some ly)(hu:ls[b]?=some lu)(hv:ls[nx ls b]?=some lv)
  (cx:lx.aC=true) (cy:ly.aC=true) (cu:lu.aC=true) (cv:lv.aC=true) (hU:lx.id≠ly.id) (Gs:lu.id≠lv.id) (iR:a≠b) (h:tq F ls 0 [a,b] a=true):gX lx= !gX ly:=by
 have ok:=g.ok;obtain⟨w,hw,_,hlen,hE⟩:=SJ g ha h;obtain⟨da,vU,uu,yX⟩:=hE a af;obtain⟨db,xA,uV,yY⟩:=hE b af;have aF:da≠db:=aa;have inD:∀d,d∈w->d<2*ls.length->d∈w.filter fun x=>decide (x<2*ls.length):=fun d h1 h2=>uM.2 ⟨h1,by simpa using h2⟩;have two:∀d,d∈w->d<2*ls.length->d=da\/d=db:=fun d h1 h2=>ag6 hlen (inD da vU uu) (inD db xA uV) aF (inD d h1 h2);have nin:∀d,d∈w->aT ls d∈w:=fun d hd=>Fe (maps ok) hw hd;have str:∀(v:Nat) (b:Bool),v<ls.length->dD ls.length v b<2*ls.length:=fun v b hv=>by have:=BM hv (!b);rw[<- Df] at this;have:=Bi this;rwa[Bj] at this
 have oy:=Qm ok hy cy;have ox:=Qm ok hx cx;have ou:=Qm ok hu cu;have ov:=Qm ok hv cv
 -- where the walk goes on
 have na:(da=2*a/\aT ls da=dD ls.length (ib ls (nx ls a)) (gX ly))\/(da=2*a+1/\aT ls da=dD ls.length (ib ls a) (!gX lx)):=by
  rcases xf da with c|c
  .have:da=2*a:=aa;exact .inl ⟨this,by rw[this];exact ae0 ha hy cy⟩
  have:da=2*a+1:=aa;exact .inr ⟨this,by rw[this];exact aeZ hx cx⟩
 have nb:(db=2*b/\aT ls db=dD ls.length (ib ls (nx ls b)) (gX lv))\/(db=2*b+1/\aT ls db=dD ls.length (ib ls b) (!gX lu)):=by
  rcases xf db with c|c
  .have:db=2*b:=aa;exact .inl ⟨this,by rw[this];exact ae0 hb hv cv⟩
  have:db=2*b+1:=aa;exact .inr ⟨this,by rw[this];exact aeZ hu cu⟩
 have ta:aT ls da=da\/aT ls da=db:=two _ (nin _ vU) (by rcases na with ⟨_,e⟩|⟨_,e⟩<;>rw[e]<;>exact str _ _ (by assumption));have tb:aT ls db=da\/aT ls db=db:=two _ (nin _ xA) (by rcases nb with ⟨_,e⟩|⟨_,e⟩<;>rw[e]<;>exact str _ _ (by assumption));have ta':aT ls da=db:=by
  rcases ta with e|e
  .exfalso;rcases na with ⟨e1,e2⟩|⟨e1,e2⟩
   .rw[e] at e2;rcases xl e2.symm with ⟨_,e3⟩|⟨_,e3⟩
    .exact hU (DX ok hy cy hx aa).2.2
    omega
   rw[e] at e2;rcases xl e2.symm with ⟨_,e3⟩|⟨_,e3⟩
   .omega
   exact hU (DX ok hx cx hy (BS ox aa)).2.2.symm
  exact e
 have tb':aT ls db=da:=by
  rcases tb with e|e
  .exact e
  exfalso;rcases nb with ⟨e1,e2⟩|⟨e1,e2⟩
  .rw[e] at e2;rcases xl e2.symm with ⟨_,e3⟩|⟨_,e3⟩
   .exact Gs (DX ok hv cv hu aa).2.2
   omega
  rw[e] at e2;rcases xl e2.symm with ⟨_,e3⟩|⟨_,e3⟩
  .omega
  exact Gs (DX ok hu cu hv (BS ou aa)).2.2.symm
 rcases na with ⟨ea,e1⟩|⟨ea,e1⟩<;>rcases nb with ⟨eb,e2⟩|⟨eb,e2⟩<;>rw[ta'] at e1<;>rw[tb'] at e2
 .rcases xl e1.symm with ⟨g1,e3⟩|⟨g1,e3⟩<;>rcases xl e2.symm with ⟨g2,e4⟩|⟨g2,e4⟩<;>try omega
  have:=(DX ok hv cv hx aa).1;rw[this,g1,g2]
 .rcases xl e1.symm with ⟨g1,e3⟩|⟨g1,e3⟩<;>rcases xl e2.symm with ⟨g2,e4⟩|⟨g2,e4⟩<;>try omega
  have:=(DX ok hu cu hx aa).1;rw[this,g1,g2];rfl
 .rcases xl e1.symm with ⟨g1,e3⟩|⟨g1,e3⟩<;>rcases xl e2.symm with ⟨g2,e4⟩|⟨g2,e4⟩<;>try omega
  have:=(DX ok hv cv hy (BS ov aa)).1;rw[this,g2];revert g1;cases gX lx<;>simp
 rcases xl e1.symm with ⟨g1,e3⟩|⟨g1,e3⟩<;>rcases xl e2.symm with ⟨g2,e4⟩|⟨g2,e4⟩<;>try omega
 have:=(DX ok hu cu hy (BS ou aa)).1;rw[this];revert g1 g2;cases gX lx<;>cases gX lu<;>simp
theorem Q8{x p w:aN}(h1:Xr x p)(h2:Xr x w)(h3:Xr p w)(cx:x.k.aC=true)(cp:p.k.aC=true)(cw:w.k.aC=true)(e1:x.k.id=p.k.id):w.k.id≠x.k.id:=by intro e2;have a:=(h1 cx cp e1).ov;have b:=(h2 cx cw e2.symm).ov;have d:=(h3 cp cw (by rw[<- e1,e2])).ov;rw[b] at a;rw[d] at a;revert a;cases w.k.over<;>simp
theorem afV{α:Type}{z:List α}{a j:Nat}(ha:a<z.length)(hj:j<z.length):(z.drop a++z.take a)[j]?=z[(a+j)%z.length]? :=by
 by_cases h:a+j<z.length
 .rw[pS (by rw[iC];omega),r9,gD h]
 rw[mQ (by rw[iC];omega),iC,jt,if_pos aa,Nat.mod_eq_sub_mod aa,gD aa];congr 1;omega
theorem atp{α:Type}{r:List α}{j:Nat}{u v:α}(hu:r[j]?=some u)(hv:r[j+1]?=some v):r=r.take j++u::v::r.drop (j+2):=by
 obtain⟨h1,e1⟩:=aS.1 hu;obtain⟨h2,e2⟩:=aS.1 hv;have:r.drop j=u::v::r.drop (j+2):=by rw[<- tg h1,e1,<- tg h2,e2]
 rw[<- this,kG]
end
theorem Wf{p q w:Int}{l:Let}(hc:l.aC=true)(hw:l.id=w):(gR [p,q] l).id=w-(if p<w then 1 else 0)-(if q<w then 1 else 0):=by rw[aej hc,hw];by_cases c1:p<w<;>by_cases c2:q<w<;>simp[c1,c2]<;>omega
section
variable {F:Nat} {ls:List Let}
theorem YN(g:dr F ls){a b:Nat}(ha:a<ls.length)(hb:b<ls.length){L:List Pc}(h:yt F ls a b=some L):Cert F L:=by
 obtain⟨x,y,r0,s,e,hx,hy,c,hp,IW,hzx,hzy,nu⟩:=XD g ha;have q:=c.q;have l8:=Ko ls;unfold yt at h;split at h
 case isFalse=>cases h
 rename_i hc;simp only[cH,By,beq_iff_eq,kV,beq_eq_false_iff_ne] at hc;obtain⟨hbo,aF,acf,xV,vc,IB⟩:=hc;have pa:pA ls a=x.p:=jA hx;have pb:pA ls (nx ls a)=y.p:=jA hy;cases h;have hnb:nx ls b<ls.length:=dQ _ aa;have hna:nx ls a<ls.length:=dQ _ aa;obtain⟨u,I8⟩:=aK (ls:=zF ls) (k:=b) aa;obtain⟨v,MW⟩:=aK (ls:=zF ls) (k:=nx ls b) aa;have pc:pA ls b=u.p:=jA (by rw[<- Dq,fR,I8];rfl);have pd:pA ls (nx ls b)=v.p:=jA (by rw[<- Dq,fR,MW];rfl);rw[pa,pb] at aF;rw[pa,pb,pc,pd] at acf
 -- they are visits, two over and two under
 have kinds:x.k.aC=true/\y.k.aC=true/\u.k.aC=true/\v.k.aC=true/\x.k.over=y.k.over/\u.k.over=v.k.over/\x.k.over≠u.k.over:=by
  have bo:∀e ov,kJ ls e ov=true->(pA ls e).l.aC=true/\(pA ls (nx ls e)).l.aC=true/\(pA ls e).l.over=ov/\(pA ls (nx ls e)).l.over=ov:=fun e ov h=>by unfold kJ at h;simp only[cH,beq_iff_eq] at h;obtain⟨h1,h2,h3,h4⟩:=h;exact⟨by unfold Let.aC;rw[h1];rfl,by unfold Let.aC;rw[h2];rfl,h3,h4⟩
  rcases hbo with ⟨h1,h2⟩|⟨h1,h2⟩<;>obtain⟨a1,a2,a3,a4⟩:=bo _ _ h1<;>obtain⟨b1,b2,b3,b4⟩:=bo _ _ h2
  all_goals
   rw[pa] at a1 a3;rw[pb] at a2 a4;rw[pc] at b1 b3;rw[pd] at b2 b4;refine⟨a1,a2,b1,b2,?_,?_,?_⟩
   .show x.p.l.over=y.p.l.over;rw[a3,a4]
   .show u.p.l.over=v.p.l.over;rw[b3,b4]
   show x.p.l.over≠u.p.l.over;rw[a3,b3];decide
 obtain⟨cx,cy,cu,cv,ov1,ov2,ov3⟩:=kinds;have hU:x.k.id≠y.k.id:=aF;have Mm:(u.k.id=x.k.id/\v.k.id=y.k.id)\/(u.k.id=y.k.id/\v.k.id=x.k.id):=acf;have Gs:u.k.id≠v.k.id:=by
  rcases Mm with ⟨h1,h2⟩|⟨h1,h2⟩
  .rw[h1,h2];exact hU
  rw[h1,h2];exact hU.symm
 have iR:a≠b:=by
  rintro rfl
  rw[hzx] at I8;cases I8;exact ov3 rfl
 have lx:ls[a]?=some x.k:=by have:=A6 hzx;rwa[kU] at this
 have ly:ls[nx ls a]?=some y.k:=by have:=A6 hzy;rwa[kU] at this
 have lu:ls[b]?=some u.k:=by have:=A6 I8;rwa[kU] at this
 have lv:ls[nx ls b]?=some v.k:=by have:=A6 MW;rwa[kU] at this
 have hg:=ap7 g ha hb lx ly lu lv cx cy cu cv hU Gs iR IB
 -- where the second edge stands, from the first one on
 obtain⟨j,Gc,mE,Az⟩:∃j,j+3<ls.length/\(a+(j+2))%ls.length=b/\(a+(j+3))%ls.length=nx ls b:=by
  have Pp:nx ls a≠b:=by intro e;rw[e,I8] at hzy;cases hzy;exact ov3 ov1
  have Vy:nx ls b≠a:=by intro e;rw[e,hzx] at MW;cases MW;exact ov3 ov2.symm
  unfold nx at Pp Vy ⊢;by_cases c1:a<b
  .have e1:(a+1)%ls.length=a+1:=gD aa;rw[e1] at Pp;have h2:b≠a+1:=fun h=>Pp h.symm;have h3:¬(b+1=ls.length/\a=0):=fun⟨h3,h4⟩=>Vy (by rw[h3,yH,h4]);refine⟨b-a-2,aa,?_,?_⟩
   .rw[show a+(b-a-2+2)=b by omega,gD hb]
   rw[show a+(b-a-2+3)=b+1 by omega]
  have e1:(b+1)%ls.length=b+1:=gD aa;rw[e1] at Vy;have h3:¬(a+1=ls.length/\b=0):=fun⟨h3,h4⟩=>Pp (by rw[h3,yH,h4]);refine⟨b+ls.length-a-2,aa,?_,?_⟩
  .rw[show a+(b+ls.length-a-2+2)=b+ls.length by omega,w9,gD hb]
  rw[show a+(b+ls.length-a-2+3)=b+1+ls.length by omega,w9]
 have hru:r0[j]?=some u:=by have:=afV (z:=zF ls) (a:=a) (j:=j+2) aa aa;rw[e,l8,mE,I8] at this;exact this
 have IX:r0[j+1]?=some v:=by have:=afV (z:=zF ls) (a:=a) (j:=j+3) aa aa;rw[e,l8,Az,MW] at this;exact this
 have nT:=atp hru IX;obtain⟨c1,c2,uz,amy,LR⟩:∃c1 c2,r0=c1++u::v::c2/\c1.length=j/\c2.length+j+4=ls.length:=by
  refine⟨_,_,nT,?_,?_⟩
  .have:=(aS.1 hru).1;rw[eQ];omega
  have h1:=(aS.1 IX).1;have h2:=nu.length_eq;rw[l8] at h2;simp only[cq] at h2;rw[iC];omega
 subst uz
 -- the two paths that are left
 obtain⟨gQ,eh,tO⟩:=hp;obtain⟨s2,sK,wH,xY,qV⟩:=Nq.1 tO;have hj0:j≠0:=by
  rintro rfl
  exact xV mE
 have hj9:c2≠[]:=by
  rintro rfl
  simp only[dN] at LR;refine vc ?_;rw[<- mE,Nat.mod_add_mod,show a+(j+2)+2=a+ls.length by omega,w9,gD ha]
 have fH:c1≠[]:=by rintro rfl;simp at amy;omega
 have q4:Cq F ([x,y,u,v]++(c1++c2)) (TF ls) (BF ls):=by refine q.perm ?_;refine List.Perm.cons x (List.Perm.cons y ?_);exact List.perm_middle.trans (List.Perm.cons u List.perm_middle)
 obtain⟨w1,q5⟩:=ui.1 q4.cr;obtain⟨w2,q6⟩:=ui.1 q5;obtain⟨w3,q7⟩:=ui.1 q6;obtain⟨w4,q8⟩:=ui.1 q7;have rxu:Xr x u:=w1 u af;have rxv:Xr x v:=w1 v af;have ryu:Xr y u:=w2 u af;have ryv:Xr y v:=w2 v af;have Q9:∀w∈c1++c2,w.k.aC=true->w.k.id≠x.k.id/\w.k.id≠y.k.id:=fun w hw cw=>by
  have a1:Xr x w:=w1 w (Hk [y,u,v] hw);have a2:Xr y w:=w2 w (Hk [u,v] hw);have a3:Xr u w:=w3 w (Hk [v] hw);have a4:Xr v w:=w4 w hw;rcases Mm with ⟨h1,h2⟩|⟨h1,h2⟩
  .exact⟨Q8 rxu a1 a3 cx cu cw h1.symm,Q8 ryv a2 a4 cy cv cw h2.symm⟩
  exact⟨Q8 rxv a1 a4 cx cv cw h2.symm,Q8 ryu a2 a3 cy cu cw h1.symm⟩
 have bx:=(q4.ok x af).cb cx;have kK:=(q4.ok y af).cb cy;have bu:=(q4.ok u af).cb cu;have bv:=(q4.ok v af).cb cv;rw[gQ] at bx;rw[eh] at kK;rw[xY] at bv
 -- which names are merged, and which are lost
 obtain⟨mc,me,bg,m1,m2,m3⟩:∃mc me bg:Nat,y.o.mp (jq mc me)=s.mp (jq mc me)/\v.o.mp (jq mc me)=s2.mp (jq mc me)/\
   (∀t,(t=x.o.l\/t=x.o.r)\/(t=y.o.l\/t=y.o.r)\/(t=u.o.l\/t=u.o.r)\/(t=v.o.l\/t=v.o.r)->t=mc\/t=bg\/(t=s.l\/t=s.r)\/(t=s2.l\/t=s2.r)):=by
  have cU:y.o.b=s.b:=by rw[<- kK,<- bx]
  have aV:v.o.b=s2.b:=by rw[<- bv,<- bu,wH]
  have fin:∀mc me,jq mc me y.o.l=jq mc me s.l->jq mc me y.o.r=jq mc me s.r->jq mc me v.o.l=jq mc me s2.l->jq mc me v.o.r=jq mc me s2.r->y.o.mp (jq mc me)=s.mp (jq mc me)/\v.o.mp (jq mc me)=s2.mp (jq mc me):=fun mc me k1 k2 k3 k4=>⟨dS.ext' k1 k2 cU,dS.ext' k3 k4 aV⟩;rcases Mm with ⟨h1,h2⟩|⟨h1,h2⟩
  .have p1:=(rxu cx cu h1.symm).x4;have p2:=(ryv cy cv h2.symm).x4;rw[gQ,wH] at p1;rw[eh,xY] at p2;obtain⟨a1,a2,a3,a4⟩:=p1;obtain⟨b1,b2,b3,b4⟩:=p2;cases wy:gX x.k
   .have u6:gX y.k=true:=by revert hg;rw[wy];cases gX y.k<;>simp
    rw[wy] at a1 a2 a3 a4;rw[u6] at b1 b2 b3 b4;simp only[dx,if_false,if_true] at a1 a2 a3 a4 b1 b2 b3 b4;refine⟨y.o.l,s.l,x.o.r,?_⟩;have f:=fin y.o.l s.l (by rw[tV,tW]) (by rw[b2,a4]) (by rw[<- b1,a3]) (by rw[b4,<- a1,tV,tW]);refine⟨f.1,f.2,?_⟩;rintro t ((rfl|rfl)|(rfl|rfl)|(rfl|rfl)|(rfl|rfl))
    .exact .inr (.inr (.inr (.inl a3.symm)))
    .exact .inr (.inl rfl)
    .exact .inl rfl
    .exact .inr (.inr (.inl (.inr (b2.trans a4))))
    .exact .inr (.inl a2.symm)
    .exact .inr (.inr (.inl (.inr a4)))
    .exact .inr (.inr (.inr (.inl (by rw[<- b1,a3]))))
    exact .inl b4
   have u6:gX y.k=false:=by revert hg;rw[wy];cases gX y.k<;>simp
   rw[wy] at a1 a2 a3 a4;rw[u6] at b1 b2 b3 b4;simp only[dx,if_false,if_true] at a1 a2 a3 a4 b1 b2 b3 b4;refine⟨y.o.r,s.r,x.o.l,?_⟩;have f:=fin y.o.r s.r (by rw[<- b3,a1]) (by rw[tV,tW]) (by rw[a3,<- b2,tV,tW]) (by rw[b4,a2]);refine⟨f.1,f.2,?_⟩;rintro t ((rfl|rfl)|(rfl|rfl)|(rfl|rfl)|(rfl|rfl))
   .exact .inr (.inl rfl)
   .exact .inr (.inr (.inr (.inr a2)))
   .exact .inr (.inr (.inl (.inl (by rw[<- b3,a1]))))
   .exact .inl rfl
   .exact .inr (.inr (.inl (.inl a1.symm)))
   .exact .inr (.inl a4)
   .exact .inl b2.symm
   exact .inr (.inr (.inr (.inr (b4.trans a2))))
  have p1:=(rxv cx cv h2.symm).x4;have p2:=(ryu cy cu h1.symm).x4;rw[gQ,xY] at p1;rw[eh,wH] at p2;obtain⟨a1,a2,a3,a4⟩:=p1;obtain⟨b1,b2,b3,b4⟩:=p2;cases wy:gX x.k
  .have u6:gX y.k=true:=by revert hg;rw[wy];cases gX y.k<;>simp
   rw[wy] at a1 a2 a3 a4;rw[u6] at b1 b2 b3 b4;simp only[dx,if_false,if_true] at a1 a2 a3 a4 b1 b2 b3 b4;refine⟨y.o.r,s.r,x.o.l,?_⟩;have f:=fin y.o.r s.r (by rw[a1,<- b4]) (by rw[tV,tW]) (by rw[<- a2,b3]) (by rw[a4,<- b2,tV,tW]);refine⟨f.1,f.2,?_⟩;rintro t ((rfl|rfl)|(rfl|rfl)|(rfl|rfl)|(rfl|rfl))
   .exact .inr (.inl rfl)
   .exact .inr (.inr (.inr (.inl b3.symm)))
   .exact .inr (.inr (.inl (.inl (by rw[a1,<- b4]))))
   .exact .inl rfl
   .exact .inr (.inl b1.symm)
   .exact .inr (.inr (.inl (.inl (by rw[a1]))))
   .exact .inr (.inr (.inr (.inl (by rw[<- a2,b3]))))
   exact .inr (.inr (.inl (.inr a4)))
  have u6:gX y.k=false:=by revert hg;rw[wy];cases gX y.k<;>simp
  rw[wy] at a1 a2 a3 a4;rw[u6] at b1 b2 b3 b4;simp only[dx,if_false,if_true] at a1 a2 a3 a4 b1 b2 b3 b4;refine⟨y.o.l,s.l,x.o.r,?_⟩;have f:=fin y.o.l s.l (by rw[tV,tW]) (by rw[b2,a3]) (by rw[<- a1,b3,tV,tW]) (by rw[a4,b1]);refine⟨f.1,f.2,?_⟩;rintro t ((rfl|rfl)|(rfl|rfl)|(rfl|rfl)|(rfl|rfl))
  .exact .inr (.inr (.inr (.inr b1)))
  .exact .inr (.inl rfl)
  .exact .inl rfl
  .exact .inr (.inr (.inl (.inr (by rw[b2,a3]))))
  .exact .inr (.inr (.inl (.inr a3)))
  .exact .inr (.inl b4)
  .exact .inr (.inr (.inl (.inl a1.symm)))
  exact .inr (.inr (.inr (.inr (a4.trans b1))))
 have zk:∀z:List aN,ay Let.aC (aO ([x,y,u,v]++z))=ay Let.aC (aO z)+4:=fun z=>by rw[Sv,lB,lB,lB,lB,Sw,(ya cx).1,(ya cy).1,(ya cu).1,(ya cv).1];omega
 have F6:∀z:List aN,ay Let.aA (aO ([x,y,u,v]++z))=ay Let.aA (aO z):=fun z=>by rw[Sv,lB,lB,lB,lB,Sw,(ya cx).2,(ya cy).2,(ya cu).2,(ya cv).2];omega
 have xK:∀(z:List aN) k,cg (aO ([x,y,u,v]++z)) k=cg (aO z) k:=fun z k=>by show ay _ _=ay _ _;rw[Sv,lB,lB,lB,lB,Sw,HA k cx,HA k cy,HA k cu,HA k cv];simp
 have hP4:([x,y,u,v]++(c1++c2)).Perm (zF ls):=by refine List.Perm.trans (List.Perm.symm ?_) nu;refine List.Perm.cons x (List.Perm.cons y ?_);exact List.perm_middle.trans (List.Perm.cons u List.perm_middle)
 have h2:ay Let.aC (aO ([x,y,u,v]++(c1++c2)))=ay Let.aC ls:=by rw[B0 hP4,kU]
 have h3:ay Let.aA (aO ([x,y,u,v]++(c1++c2)))=ay Let.aA ls:=by rw[B0 hP4,kU]
 have dL:=q4.ev
 let ψ:=jq mc me
 let hL:=gR [x.k.id,y.k.id]
 let r:=c1++c2
 have mC:ay Let.aC (aO (r.map (aN.mp ψ hL)))=ay Let.aC (aO r):=BZ (fun l=>(A5 _).aC l) r;have mP:ay Let.aA (aO (r.map (aN.mp ψ hL)))=ay Let.aA (aO r):=BZ (fun l=>(A5 _).aA l) r;have mG:∀k,cg (aO (r.map (aN.mp ψ hL))) k=cg (aO r) k:=fun k=>BZ (fun l=>aeh _ k l) r;have II:∀w∈[x,y,u,v]++r,w.k.aC=true->1<=w.k.id/\w.k.id<=((ay Let.aC (aO r)/2:Nat):Int)+2:=fun w hw hc=>by have:=q4.ids w hw hc;rw[zk] at this;show 1<=w.k.id/\w.k.id<=((ay Let.aC (aO (c1++c2))/2:Nat):Int)+2;omega
 have idx:=II x af cx;have idy:=II y af cy;have inr:∀w∈r,w∈[x,y,u,v]++r:=fun w hw=>Hk _ hw;have qn:Cq F ([]++r.map (aN.mp ψ hL)) (fun G k=>ψ (TF ls G k)) (fun G k=>ψ (BF ls G k)):=by
  refine Cq.edit (X:=[x,y,u,v]) (r:=r) q4 (A5 _) (fun w hw=>aei (q4.ok w (inr w hw)).bad) (fun p hp o ho cp co e=>?_) (fun p hp o ho pp po e1 e2=>?_) (fun _ h=>by cases h) List.Pairwise.nil List.Pairwise.nil (fun _ h=>by cases h) (fun _ h=>by cases h) ?_ (fun _ h=>by cases h) (fun p hp cp=>?_) (fun _ h=>by cases h) (fun p hp pp=>?_) (fun _ h=>by cases h) (fun p hp pp=>?_) (fun k hk=>?_) ?_
  .obtain⟨n1,n2⟩:=Q9 p hp cp;obtain⟨n3,n4⟩:=Q9 o ho co;rw[Wf cp rfl,Wf co rfl] at e;split at e<;>split at e<;>split at e<;>split at e<;>omega
  .have e1:(gR [x.k.id,y.k.id] p.k).gate=(gR [x.k.id,y.k.id] o.k).gate:=e1;have e2:(gR [x.k.id,y.k.id] p.k).aB=(gR [x.k.id,y.k.id] o.k).aB:=e2;rw[A4 pp,A4 po] at e1 e2;exact⟨e1,e2⟩
  .rw[fp,mC];rw[zk] at dL;show ay Let.aC (aO (c1++c2))%2=0;omega
  .rw[fp,mC];show 1<=(gR [x.k.id,y.k.id] p.k).id/\(gR [x.k.id,y.k.id] p.k).id<=_;rw[Wf cp rfl];have h1:=II p (inr p hp) cp;obtain⟨n1,n2⟩:=Q9 p hp cp;have hxy':=hU;split<;>split<;>omega
  .rw[fp,mG];show 1<=(gR [x.k.id,y.k.id] p.k).aB/\(gR [x.k.id,y.k.id] p.k).aB<=((cg (aO r) (gR [x.k.id,y.k.id] p.k).gate.toNat:Nat):Int);rw[A4 pp,<- xK r];exact q4.rr p (inr p hp) pp
  .show(ψ _=ψ (TF ls (gR [x.k.id,y.k.id] p.k).gate.toNat ((gR [x.k.id,y.k.id] p.k).aB.toNat-1))/\ψ _=ψ (BF ls (gR [x.k.id,y.k.id] p.k).gate.toNat ((gR [x.k.id,y.k.id] p.k).aB.toNat-1)))/\ψ _=ψ (TF ls (gR [x.k.id,y.k.id] p.k).gate.toNat (gR [x.k.id,y.k.id] p.k).aB.toNat)/\ψ _=ψ (BF ls (gR [x.k.id,y.k.id] p.k).gate.toNat (gR [x.k.id,y.k.id] p.k).aB.toNat);rw[A4 pp];exact⟨⟨rfl,rfl⟩,rfl,rfl⟩
  .rw[fp,mG,<- xK r];obtain⟨t1,t2⟩:=q4.gt k hk;exact⟨congrArg ψ t1,congrArg ψ t2⟩
  rw[fp,mG,<- xK r];obtain⟨t1,t2⟩:=q4.gz;exact⟨congrArg ψ t1,congrArg ψ t2⟩
 have LY:Cert F (r.map fun w=>pI [x.k.id,y.k.id] w.p):=by
  refine Cq.done (X:=[x,y,u,v]) (r:=r) (X':=[]) (L:=[mc,bg]) (N:=[]) (V:=mh ls) (z':=r.map (aN.mp ψ hL)) qn Fj (fun t ht=>?_) (List.Perm.refl _) ⟨s.mp ψ,?_⟩ ?_ ?_ (fun t _ ht=>Qc fun e=>ht (by simp[e])) (fun w hw t ht ew Ar=>?_) w7 (fun t ht=>by cases ht) (fun t ht=>by cases ht) (by rw[Dx];exact aX _) ?_
  .obtain⟨w,hw,ew⟩:=c.wit t ht;refine⟨w,?_,ew⟩;have:w∈zF ls:=nu.mem_iff.1 hw;exact hP4.mem_iff.2 this
  .have e1:=Qr (ψ:=ψ) (h:=hL) sK;have e2:=Qr (ψ:=ψ) (h:=hL) qV;rw[show y.o.mp ψ=s.mp ψ from m1] at e1;rw[show v.o.mp ψ=s2.mp ψ from m2] at e2;show jE (s.mp ψ) ((c1++c2).map (aN.mp ψ hL)) (s.mp ψ);rw[km];exact Nq.2 ⟨_,e1,e2⟩
  .rw[ti];refine vH fun w _=>?_;rw[ael];rfl
  .obtain⟨w,hw,qu⟩:=c.one;have hw':w∈[x,y,u,v]++r:=hP4.mem_iff.2 (nu.mem_iff.1 hw);rcases eF.1 hw' with h|h
   .exfalso;simp only[cM,iO,or_false] at h;rcases h with rfl|rfl|rfl|rfl
    .rw[lJ cx] at qu;cases qu
    .rw[lJ cy] at qu;cases qu
    .rw[lJ cu] at qu;cases qu
    rw[lJ cv] at qu;cases qu
   refine⟨w.mp ψ hL,by rw[fp];exact dq.2 ⟨w,h,rfl⟩,?_⟩;show(gR [x.k.id,y.k.id] w.k).aA=true;rw[(A5 _).aA];exact qu
  .simp only[cM,iO,or_false,not_or] at hw Ar;have key:=m3 t (by
    rcases hw with rfl|rfl|rfl|rfl
    .exact .inl ew
    .exact .inr (.inl ew)
    .exact .inr (.inr (.inl ew))
    exact .inr (.inr (.inr ew)))
   have hψ:ψ t=t:=Qc Ar.1;have put:∀d∈r,(t=d.o.l\/t=d.o.r)->∃y'∈[]++r.map (aN.mp ψ hL),t=y'.o.l\/t=y'.o.r:=fun d hd h=>by
    refine⟨d.mp ψ hL,by rw[fp];exact dq.2 ⟨d,hd,rfl⟩,?_⟩;rcases h with h|h
    .left;show t=ψ d.o.l;rw[<- h,hψ]
    right;show t=ψ d.o.r;rw[<- h,hψ]
   rcases key with h|h|h|h
   .exact absurd h Ar.1
   .exact absurd h Ar.2
   .obtain⟨d,hd,ed⟩:=Qq qV hj9;exact put d (Hk _ hd) (by rw[ed];exact h)
   obtain⟨d,hd,ed⟩:=Qq sK fH;exact put d (List.mem_append_left _ hd) (by rw[ed];exact h)
  rw[fp,mC,mP];have h1:=g.nw;rw[zk] at h2;rw[F6] at h3;show ay Let.aA (aO (c1++c2))+ay Let.aC (aO (c1++c2))/2+1+2<=_;simp only[dN];omega
 rw[pa,pb];show Cert F ((k9 (pieces ls) (sD [x.k.id,y.k.id])).map (pI [x.k.id,y.k.id]));rw[adL (l:=pieces ls) (drop:=sD [x.k.id,y.k.id]) (d:=fun p=>(p.l.kind==2)&&[x.k.id,y.k.id].contains p.l.id) fun _ _=>rfl];refine ZK (a:=a) ?_;rw[IW];have hkx:(x.p.l.kind==2)=true:=cx;have hky:(y.p.l.kind==2)=true:=cy;have hku:(u.p.l.kind==2)=true:=cu;have hkv:(v.p.l.kind==2)=true:=cv;have amT:∀d∈r,(fun p:Pc=> !((p.l.kind==2)&&[x.k.id,y.k.id].contains p.l.id)) d.p=true:=fun d hd=>by
  show(!((d.p.l.kind==2)&&_))=true;cases hk:(d.p.l.kind==2)
  .rfl
  obtain⟨n1,n2⟩:=Q9 d hd hk;simp[n1,n2]
 have Ph:∀(d:aN) (t:List Pc),(d.p.l.kind==2)=true->(d.k.id=x.k.id\/d.k.id=y.k.id)->(d.p::t).filter (fun p=> !((p.l.kind==2)&&[x.k.id,y.k.id].contains p.l.id))=t.filter (fun p=> !((p.l.kind==2)&&[x.k.id,y.k.id].contains p.l.id)):=fun d t hd h=>by
  refine List.filter_cons_of_neg ?_;rcases h with h|h
  .have h:d.p.l.id=x.k.id:=h;simp[h,hd]
  have h:d.p.l.id=y.k.id:=h;simp[h,hd]
 have hf:((x::y::(c1++u::v::c2)).map aN.p).filter (fun p=> !((p.l.kind==2)&&[x.k.id,y.k.id].contains p.l.id))=r.map aN.p:=by
  rw[dG,dG,Ph x _ hkx (.inl rfl),Ph y _ hky (.inr rfl),km,NT,dG,dG,
   Ph u _ hku (Mm.imp (fun h=>h.1) fun h=>h.1),Ph v _ hkv (Mm.symm.imp (fun h=>h.2) fun h=>h.2)]
  rw[<- NT,<- km];refine filter_all fun p hp=>?_;obtain⟨d,hd,rfl⟩:=dq.1 hp;exact amT d hd
 rw[hf,ti];exact LY
end
theorem ato{α:Type}{z:List α}{a:Nat}{x:α}(h:z[a]?=some x):z=z.take a++x::z.drop (a+1):=by
 obtain⟨hl,e⟩:=aS.1 h;have:z.drop a=x::z.drop (a+1):=by rw[<- e,tg]
 rw[<- this,kG]
section
variable {F:Nat} {ls:List Let}
end
section
variable {F:Nat} {ls:List Let}
end
end Go.Abs
