/- A part. -/
import Derived.Test.YtenindeoffokoaaGreatDoorWk
set_option linter.all false
open List renaming length->I
set_option maxHeartbeats 16000000
namespace Go.Abs
variable{L:aW}{T B:Nat->Nat->Nat}{h:Nat->eN}{n v:Nat}
def U6{p q w:Int}{l:U}(H:l.ak)(h:l.id=w):(gq [p,q] l).id=w-(if p<w then 1 else 0)-(if q<w then 1 else 0):=by grind [ahV]
section
variable {F:Nat} {f:af}
def ale(g:bj F f){a b:Nat}(ha:a<I f)(hb:b<I f)(h:oY F f a b=some L):∃(x y u v:aQ) (c1 N:fG) (ψ:Nat->Nat) (s s2:eN) (T B:Nat->Nat->Nat) (S:aG),L=jA (an f) [x.k.id,y.k.id]/\(an f).drop a++(an f).take a=(x::y::(c1++u::v::N)).map aQ.p/\(c1≠[]/\N≠[])/\
  (x.k.ak/\y.k.ak/\u.k.ak/\v.k.ak)/\(x.k.over=y.k.over/\u.k.over=v.k.over/\x.k.over≠u.k.over)/\x.k.id≠y.k.id/\(∀w∈c1++N,w.k.ak->w.k.id≠x.k.id/\w.k.id≠y.k.id)/\cM x.k=(!cM y.k)/\
  (iR (s.mp ψ) (c1.map (aQ.mp ψ (gq [x.k.id,y.k.id]))) (s2.mp ψ)/\iR (s2.mp ψ) (N.map (aQ.mp ψ (gq [x.k.id,y.k.id]))) (s.mp ψ))/\fT F ((c1++N).map (aQ.mp ψ (gq [x.k.id,y.k.id]))) T B S/\fW f<=I S+2/\
  ∃ab:Bool,(if ab=true then(u.k.id=y.k.id/\v.k.id=x.k.id)/\u.k.sign=y.k.sign/\v.k.sign=x.k.sign else(u.k.id=x.k.id/\v.k.id=y.k.id)/\u.k.sign=x.k.sign/\v.k.sign=y.k.sign)/\(if(cM x.k==ab)=true then(s.mp ψ).l else(s.mp ψ).r)=(if cM x.k=true then(s2.mp ψ).l else(s2.mp ψ).r):=by
 obtain⟨x,y,r0,s,e,hx,hy,c,hp,mZ,MU,MV,iU⟩:=GF g ha;have q:=c.q;have l9:=yy f;unfold oY at h;split at h
 case isFalse=>cases h
 rename_i hc;simp only[cP,uW,c8,ke,mM]at hc;obtain⟨Jz,aO,Qk,jJ,lE,Ak⟩:=hc;have pa:=gU hx;have pb:=gU hy;cases h;have aM:nx f b<I f:=cT _ J;have JU:nx f a<I f:=cT _ J;obtain⟨u,MT⟩:=aP (h:=fc f) (k:=b) J;obtain⟨v,QP⟩:=aP (h:=fc f) (k:=nx f b) J;have pc:=gU (by rw[<-vA,fz,MT];rfl);have pd:=gU (by rw[<-vA,fz,QP];rfl);rw[pa,pb]at aO;rw[pa,pb,pc,pd]at Qk
 have kinds:x.k.ak/\y.k.ak/\u.k.ak/\v.k.ak/\x.k.over=y.k.over/\u.k.over=v.k.over/\x.k.over≠u.k.over:=by
  have bo:∀e ov,jx f e ov->(dE f e).l.ak/\(dE f (nx f e)).l.ak/\(dE f e).l.over=ov/\(dE f (nx f e)).l.over=ov:=λe ov h=>by unfold jx at h;simp only[cP,c8]at h;obtain⟨n,H,h3,h4⟩:=h;exact⟨by unfold U.ak;rw[n];rfl,by unfold U.ak;rw[H];rfl,h3,h4⟩
  rcases Jz with⟨n,H⟩|⟨n,H⟩<;>obtain⟨A,O,E,D⟩:=bo _ _ n<;>obtain⟨Z,Y,Q,R⟩:=bo _ _ H
  all_goals
   rw[pa]at A E;rw[pb]at O D;rw[pc]at Z Q;rw[pd]at Y R;refine⟨A,O,Z,Y,?_,?_,?_⟩
   .show x.p.l.over=y.p.l.over;rw[E,D]
   .show u.p.l.over=v.p.l.over;rw[Q,R]
   show x.p.l.over≠u.p.l.over;rw[E,Q];decide
 obtain⟨cx,cy,cu,cv,Ru,ar,Nq⟩:=kinds;have iO:=aO;have FV:(u.k.id=x.k.id/\v.k.id=y.k.id)\/(u.k.id=y.k.id/\v.k.id=x.k.id):=Qk;have BK:u.k.id≠v.k.id:=by
  rcases FV with⟨n,H⟩|⟨n,H⟩
  .rw[n,H];exact iO
  rw[n,H];exact iO.symm
 have dp:a≠b:=by
  rintro rfl
  rw[MU]at MT;cases MT;exact Nq rfl
 have lx:f[a]?=some x.k:=by have:=Aa MU;rwa[iX]at this
 have ly:f[nx f a]?=some y.k:=by have:=Aa MV;rwa[iX]at this
 have lu:f[b]?=some u.k:=by have:=Aa MT;rwa[iX]at this
 have lv:f[nx f b]?=some v.k:=by have:=Aa QP;rwa[iX]at this
 have hg:=auG g ha hb lx ly lu lv cx cy cu cv iO BK dp Ak
 obtain⟨j,Hs,mV,vB⟩:∃j,j+3<I f/\(a+(j+2))%I f=b/\(a+(j+3))%I f=nx f b:=by
  have UE:nx f a≠b:=by intro e;rw[e,MT]at MV;cases MV;exact Nq Ru
  have Zl:nx f b≠a:=by intro e;rw[e,MU]at QP;cases QP;exact Nq ar.symm
  unfold nx at UE Zl |-;by_cases c1:a<b
  .have e1:(a+1)%I f=a+1:=eJ J;rw[e1]at UE;have H:b≠a+1:=λh=>UE h.symm;have h3:¬(b+1=I f/\a=0):=λ⟨h3,h4⟩=>Zl (by rw[h3,w_,h4]);refine⟨b-a-2,J,?_,?_⟩
   .rw[show a+(b-a-2+2)=b by omega,eJ hb]
   rw[show a+(b-a-2+3)=b+1 by omega]
  have e1:(b+1)%I f=b+1:=eJ J;rw[e1]at Zl;have h3:¬(a+1=I f/\b=0):=λ⟨h3,h4⟩=>UE (by rw[h3,w_,h4]);refine⟨b+I f-a-2,J,?_,?_⟩
  .rw[show a+(b+I f-a-2+2)=b+I f by omega,lg,eJ hb]
  rw[show a+(b+I f-a-2+3)=b+1+I f by omega,lg]
 have av:r0[j]?=some u:=by have:=Sh (z:=fc f) (a:=a) (j:=j+2) J J;rw[e,l9,mV,MT]at this;exact this
 have HF:r0[j+1]?=some v:=by have:=Sh (z:=fc f) (a:=a) (j:=j+3) J J;rw[e,l9,vB,QP]at this;exact this
 have qV:=axu av HF;obtain⟨c1,N,MH,aqR,Up⟩:∃c1 N,r0=c1++u::v::N/\I c1=j/\I N+j+4=I f:=by
  refine⟨_,_,qV,?_,?_⟩
  .have:=(bt.1 av).1;rw[jO];omega
  have n:=(bt.1 HF).1;have H:=iU.length_eq;rw[l9]at H;simp only[fP]at H;rw[rG];omega
 subst MH
 obtain⟨jj,iK,Av⟩:=hp;obtain⟨s2,mA,CI,BM,oz⟩:=zm.1 Av;have Hr:j≠0:=by
  rintro rfl
  exact jJ mV
 have aw:N≠[]:=by
  rintro rfl
  simp only[ga]at Up;refine lE ?_;rw[<-mV,tU,show a+(j+2)+2=a+I f by omega,lg,eJ ha]
 have ib:c1≠[]:=by rintro rfl;simp at aqR;omega
 have q4:j_ F ([x,y,u,v]++(c1++N)) (fp f) (fm f):=by refine q.perm ?_;refine List.Perm.cons x (List.Perm.cons y ?_);exact F1.trans (List.Perm.cons u F1)
 obtain⟨w1,q5⟩:=iN.1 q4.cr;obtain⟨w2,q6⟩:=iN.1 q5;obtain⟨w3,q7⟩:=iN.1 q6;obtain⟨w4,q8⟩:=iN.1 q7;have aj:=w1 u aE;have ad:=w1 v aE;have ag:=w2 u aE;have am:=w2 v aE;have NV:∀w∈c1++N,w.k.ak->w.k.id≠x.k.id/\w.k.id≠y.k.id:=λw hw cw=>by
  have A:=w1 w (uX [y,u,v] hw);have O:=w2 w (uX [u,v] hw);have E:=w3 w (uX [v] hw);have D:=w4 w hw;rcases FV with⟨n,H⟩|⟨n,H⟩
  .exact⟨It aj A E cx cu cw n.symm,It am O D cy cv cw H.symm⟩
  exact⟨It ad A D cx cv cw H.symm,It ag O E cy cu cw n.symm⟩
 have bx:=(q4.ok x aE).cb cx;have je:=(q4.ok y aE).cb cy;have bu:=(q4.ok u aE).cb cu;have bv:=(q4.ok v aE).cb cv;rw[jj]at bx;rw[iK]at je;rw[BM]at bv
 obtain⟨m,M,bg,m4,m1,m2,m3⟩:∃m M bg:Nat,(∃ab:Bool,(if ab=true then(u.k.id=y.k.id/\v.k.id=x.k.id)/\u.k.sign=y.k.sign/\v.k.sign=x.k.sign else(u.k.id=x.k.id/\v.k.id=y.k.id)/\u.k.sign=x.k.sign/\v.k.sign=y.k.sign)/\(if(cM x.k==ab)=true then(s.mp (ig m M)).l else(s.mp (ig m M)).r)=(if cM x.k=true then(s2.mp (ig m M)).l else(s2.mp (ig m M)).r))/\y.o.mp (ig m M)=s.mp (ig m M)/\v.o.mp (ig m M)=s2.mp (ig m M)/\
   (∀t,(t=x.o.l\/t=x.o.r)\/(t=y.o.l\/t=y.o.r)\/(t=u.o.l\/t=u.o.r)\/(t=v.o.l\/t=v.o.r)->t=m\/t=bg\/(t=s.l\/t=s.r)\/(t=s2.l\/t=s2.r)):=by
  have dB:y.o.b=s.b:=by rw[<-je,<-bx]
  have cV:v.o.b=s2.b:=by rw[<-bv,<-bu,CI]
  have fin:∀m M,ig m M y.o.l=ig m M s.l->ig m M y.o.r=ig m M s.r->ig m M v.o.l=ig m M s2.l->ig m M v.o.r=ig m M s2.r->y.o.mp (ig m M)=s.mp (ig m M)/\v.o.mp (ig m M)=s2.mp (ig m M):=λm M k1 k2 k3 k4=>⟨eN.ext' k1 k2 dB,eN.ext' k3 k4 cV⟩;rcases FV with⟨n,H⟩|⟨n,H⟩
  .have R8:=(aj cx cu n.symm).sg.symm;have R9:=(am cy cv H.symm).sg.symm;have p1:=(aj cx cu n.symm).x4;have p2:=(am cy cv H.symm).x4;rw[jj,CI]at p1;rw[iK,BM]at p2;obtain⟨A,O,E,D⟩:=p1;obtain⟨Z,Y,Q,R⟩:=p2;cases wS:cM x.k
   .have wT:cM y.k:=by revert hg;rw[wS];cases cM y.k<;>simp
    rw[wS]at A O E D;rw[wT]at Z Y Q R;simp only[fE,if_false,if_true]at A O E D Z Y Q R;refine⟨y.o.l,s.l,x.o.r,?_⟩;have ao:=fin y.o.l s.l (by rw[tA,tz]) (by rw[Y,D]) (by rw[<-Z,E]) (by rw[R,<-A,tA,tz]);refine⟨⟨false,by rw[aC aa];exact⟨⟨n,H⟩,R8,R9⟩,congrArg (ig y.o.l s.l) A⟩,ao.1,ao.2,?_⟩;rintro t ((rfl|rfl)|(rfl|rfl)|(rfl|rfl)|(rfl|rfl))
    .exact .inr (.inr (.inr (.inl E.symm)))
    .exact .inr (.inl rfl)
    .exact .inl rfl
    .exact .inr (.inr (.inl (.inr (Y.trans D))))
    .exact .inr (.inl O.symm)
    .exact .inr (.inr (.inl (.inr D)))
    .exact .inr (.inr (.inr (.inl (by rw[<-Z,E]))))
    exact .inl R
   have wT:cM y.k=false:=by revert hg;rw[wS];cases cM y.k<;>simp
   rw[wS]at A O E D;rw[wT]at Z Y Q R;simp only[fE,if_false,if_true]at A O E D Z Y Q R;refine⟨y.o.r,s.r,x.o.l,?_⟩;have ao:=fin y.o.r s.r (by rw[<-Q,A]) (by rw[tA,tz]) (by rw[E,<-Y,tA,tz]) (by rw[R,O]);refine⟨⟨false,by rw[aC aa];exact⟨⟨n,H⟩,R8,R9⟩,congrArg (ig y.o.r s.r) E.symm⟩,ao.1,ao.2,?_⟩;rintro t ((rfl|rfl)|(rfl|rfl)|(rfl|rfl)|(rfl|rfl))
   .exact .inr (.inl rfl)
   .exact .inr (.inr (.inr (.inr O)))
   .exact .inr (.inr (.inl (.inl (by rw[<-Q,A]))))
   .exact .inl rfl
   .exact .inr (.inr (.inl (.inl A.symm)))
   .exact .inr (.inl D)
   .exact .inl Y.symm
   exact .inr (.inr (.inr (.inr (R.trans O))))
  have R8:=(ag cy cu n.symm).sg.symm;have R9:=(ad cx cv H.symm).sg.symm;have p1:=(ad cx cv H.symm).x4;have p2:=(ag cy cu n.symm).x4;rw[jj,BM]at p1;rw[iK,CI]at p2;obtain⟨A,O,E,D⟩:=p1;obtain⟨Z,Y,Q,R⟩:=p2;cases wS:cM x.k
  .have wT:cM y.k:=by revert hg;rw[wS];cases cM y.k<;>simp
   rw[wS]at A O E D;rw[wT]at Z Y Q R;simp only[fE,if_false,if_true]at A O E D Z Y Q R;refine⟨y.o.r,s.r,x.o.l,?_⟩;have ao:=fin y.o.r s.r (by rw[A,<-R]) (by rw[tA,tz]) (by rw[<-O,Q]) (by rw[D,<-Y,tA,tz]);refine⟨⟨true,by rw[aD rfl];exact⟨⟨n,H⟩,R8,R9⟩,(congrArg (ig y.o.r s.r) D.symm).trans (congrArg eN.r ao.2)⟩,ao.1,ao.2,?_⟩;rintro t ((rfl|rfl)|(rfl|rfl)|(rfl|rfl)|(rfl|rfl))
   .exact .inr (.inl rfl)
   .exact .inr (.inr (.inr (.inl Q.symm)))
   .exact .inr (.inr (.inl (.inl (by rw[A,<-R]))))
   .exact .inl rfl
   .exact .inr (.inl Z.symm)
   .exact .inr (.inr (.inl (.inl (by rw[A]))))
   .exact .inr (.inr (.inr (.inl (by rw[<-O,Q]))))
   exact .inr (.inr (.inl (.inr D)))
  have wT:cM y.k=false:=by revert hg;rw[wS];cases cM y.k<;>simp
  rw[wS]at A O E D;rw[wT]at Z Y Q R;simp only[fE,if_false,if_true]at A O E D Z Y Q R;refine⟨y.o.l,s.l,x.o.r,?_⟩;have ao:=fin y.o.l s.l (by rw[tA,tz]) (by rw[Y,E]) (by rw[<-A,Q,tA,tz]) (by rw[D,Z]);refine⟨⟨true,by rw[aD rfl];exact⟨⟨n,H⟩,R8,R9⟩,(congrArg (ig y.o.l s.l) A).trans (congrArg eN.l ao.2)⟩,ao.1,ao.2,?_⟩;rintro t ((rfl|rfl)|(rfl|rfl)|(rfl|rfl)|(rfl|rfl))
  .exact .inr (.inr (.inr (.inr Z)))
  .exact .inr (.inl rfl)
  .exact .inl rfl
  .exact .inr (.inr (.inl (.inr (by rw[Y,E]))))
  .exact .inr (.inr (.inl (.inr E)))
  .exact .inr (.inl R)
  .exact .inr (.inr (.inl (.inl A.symm)))
  exact .inr (.inr (.inr (.inr (D.trans Z))))
 have Cs:∀z:fG,aq U.ak (aK ([x,y,u,v]++z))=aq U.ak (aK z)+4:=λz=>by rw[qj,fh,fh,fh,fh,tq,(kW cx).1,(kW cy).1,(kW cu).1,(kW cv).1];omega
 have JA:∀z:fG,aq U.ay (aK ([x,y,u,v]++z))=aq U.ay (aK z):=λz=>by rw[qj,fh,fh,fh,fh,tq,(kW cx).2,(kW cy).2,(kW cu).2,(kW cv).2];omega
 have Aj:∀(z:fG) k,aV (aK ([x,y,u,v]++z)) k=aV (aK z) k:=λz k=>by show aq _ _=aq _ _;rw[qj,fh,fh,fh,fh,tq,Ab k cx,Ab k cy,Ab k cu,Ab k cv];simp
 have ac:([x,y,u,v]++(c1++N)).Perm (fc f):=by refine List.Perm.trans (List.Perm.symm ?_) iU;refine List.Perm.cons x (List.Perm.cons y ?_);exact F1.trans (List.Perm.cons u F1)
 have H:aq U.ak (aK ([x,y,u,v]++(c1++N)))=aq U.ak f:=by rw[vQ ac,iX]
 have h3:aq U.ay (aK ([x,y,u,v]++(c1++N)))=aq U.ay f:=by rw[vQ ac,iX]
 have ff:=q4.ev
 let ψ:=ig m M
 let hL:=gq [x.k.id,y.k.id]
 let r:=c1++N
 have mC:aq U.ak (aK (r.map (aQ.mp ψ hL)))=aq U.ak (aK r):=rB (λl=>(yY _).ak l) r;have cO:aq U.ay (aK (r.map (aQ.mp ψ hL)))=aq U.ay (aK r):=rB (λl=>(yY _).ay l) r;have mG:∀k,aV (aK (r.map (aQ.mp ψ hL))) k=aV (aK r) k:=λk=>rB (λl=>afW _ k l) r;have Ms:∀w∈[x,y,u,v]++r,w.k.ak->1<=w.k.id/\w.k.id<=((aq U.ak (aK r)/2:Nat):Int)+2:=λw hw hc=>by have:=q4.ids w hw hc;rw[Cs]at this;show 1<=w.k.id/\w.k.id<=((aq U.ak (aK (c1++N))/2:Nat):Int)+2;omega
 have idx:=Ms x aE cx;have aH:=Ms y aE cy;have inr:∀w∈r,w∈[x,y,u,v]++r:=λw hw=>uX _ hw;have qn:j_ F ([]++r.map (aQ.mp ψ hL)) (λG k=>ψ (fp f G k)) (λG k=>ψ (fm f G k)):=by
  refine j_.edit q4 (yY _) (λw hw=>aeA (q4.ok w (inr w hw)).bad) (λp hp o ho cp co e=>?_) (λp hp o ho pp po e1 e2=>?_) (λ_ h=>by cases h) List.Pairwise.nil List.Pairwise.nil (λ_ h=>by cases h) (λ_ h=>by cases h) ?_ (λ_ h=>by cases h) (λp hp cp=>?_) (λ_ h=>by cases h) (λp hp pp=>?_) (λ_ h=>by cases h) (λp hp pp=>?_) (λk hk=>?_) ?_
  .obtain⟨n1,n2⟩:=NV p hp cp;obtain⟨n3,n4⟩:=NV o ho co;rw[U6 cp rfl,U6 co rfl]at e;split at e<;>split at e<;>split at e<;>split at e<;>omega
  .have e1:(gq [x.k.id,y.k.id] p.k).gate=(gq [x.k.id,y.k.id] o.k).gate:=e1;have e2:(gq [x.k.id,y.k.id] p.k).au=(gq [x.k.id,y.k.id] o.k).au:=e2;rw[Ca pp,Ca po]at e1 e2;exact⟨e1,e2⟩
  .rw[fB,mC];rw[Cs]at ff;show aq U.ak (aK (c1++N))%2=0;omega
  .rw[fB,mC];show 1<=(gq [x.k.id,y.k.id] p.k).id/\(gq [x.k.id,y.k.id] p.k).id<=_;rw[U6 cp rfl];have n:=Ms p (inr p hp) cp;obtain⟨n1,n2⟩:=NV p hp cp;have aF:=iO;split<;>split<;>omega
  .rw[fB,mG];show 1<=(gq [x.k.id,y.k.id] p.k).au/\(gq [x.k.id,y.k.id] p.k).au<=((aV (aK r) (gq [x.k.id,y.k.id] p.k).gate.toNat:Nat):Int);rw[Ca pp,<-Aj r];exact q4.rr p (inr p hp) pp
  .show(ψ _=ψ (fp f (gq [x.k.id,y.k.id] p.k).gate.toNat ((gq [x.k.id,y.k.id] p.k).au.toNat-1))/\ψ _=ψ (fm f (gq [x.k.id,y.k.id] p.k).gate.toNat ((gq [x.k.id,y.k.id] p.k).au.toNat-1)))/\ψ _=ψ (fp f (gq [x.k.id,y.k.id] p.k).gate.toNat (gq [x.k.id,y.k.id] p.k).au.toNat)/\ψ _=ψ (fm f (gq [x.k.id,y.k.id] p.k).gate.toNat (gq [x.k.id,y.k.id] p.k).au.toNat);rw[Ca pp];exact⟨⟨rfl,rfl⟩,rfl,rfl⟩
  .rw[fB,mG,<-Aj r];obtain⟨t1,t2⟩:=q4.gt k hk;exact⟨congrArg ψ t1,congrArg ψ t2⟩
  rw[fB,mG,<-Aj r];obtain⟨t1,t2⟩:=q4.gz;exact⟨congrArg ψ t1,congrArg ψ t2⟩
 have e1:=Gk (n:=ψ) (h:=hL) mA;have e2:=Gk (n:=ψ) (h:=hL) oz;rw[show y.o.mp ψ=s.mp ψ from m1]at e1;rw[show v.o.mp ψ=s2.mp ψ from m2]at e2;obtain⟨hz,hlen⟩:fT F (r.map (aQ.mp ψ hL)) (λG k=>ψ (fp f G k)) (λG k=>ψ (fm f G k)) ([]++(List.range (fW f)).filter λs=> ![m,bg].contains s)/\fW f+I ([]:aG)<=I ([]++(List.range (fW f)).filter λs=> ![m,bg].contains s)+[m,bg].length:=by
  refine j_.XV (X:=[x,y,u,v]) qn D8 (λt ht=>?_) (CW _) ⟨s.mp ψ,?_⟩ ?_ (λt _ ht=>PI λe=>ht (by simp[e])) (λw hw t ht ew DK=>?_) qK (λt ht=>by cases ht) (λt ht=>by cases ht) (by rw[wI];exact cJ _) ?_
  .obtain⟨w,hw,ew⟩:=c.wit t ht;refine⟨w,?_,ew⟩;have:w∈fc f:=iU.mem_iff.1 hw;exact ac.mem_iff.2 this
  .show iR (s.mp ψ) ((c1++N).map (aQ.mp ψ hL)) (s.mp ψ);rw[fL];exact zm.2 ⟨_,e1,e2⟩
  .obtain⟨w,hw,sT⟩:=c.one;have lH:w∈[x,y,u,v]++r:=ac.mem_iff.2 (iU.mem_iff.1 hw);rcases gn.1 lH with h|h
   .exfalso;simp only[c7,eD,or_false]at h;rcases h with rfl|rfl|rfl|rfl
    .rw[kJ cx]at sT;cases sT
    .rw[kJ cy]at sT;cases sT
    .rw[kJ cu]at sT;cases sT
    rw[kJ cv]at sT;cases sT
   refine⟨w.mp ψ hL,by rw[fB];exact ch.2 ⟨w,h,rfl⟩,?_⟩;show(gq [x.k.id,y.k.id] w.k).ay=true;rw[(yY _).ay];exact sT
  .simp only[c7,eD,or_false,A4]at hw DK;have az:=m3 t (by
    rcases hw with rfl|rfl|rfl|rfl
    .exact .inl ew
    .exact .inr (.inl ew)
    .exact .inr (.inr (.inl ew))
    exact .inr (.inr (.inr ew)))
   have ap:ψ t=t:=PI DK.1;have eQ:∀d∈r,(t=d.o.l\/t=d.o.r)->∃y'∈[]++r.map (aQ.mp ψ hL),t=y'.o.l\/t=y'.o.r:=λd hd h=>by
    refine⟨d.mp ψ hL,by rw[fB];exact ch.2 ⟨d,hd,rfl⟩,?_⟩;rcases h with h|h
    .left;show t=ψ d.o.l;rw[<-h,ap]
    right;show t=ψ d.o.r;rw[<-h,ap]
   rcases az with h|h|h|h
   .exact absurd h DK.1
   .exact absurd h DK.2
   .obtain⟨d,hd,ed⟩:=Sb oz aw;exact eQ d (uX _ hd) (by rw[ed];exact h)
   obtain⟨d,hd,ed⟩:=Sb mA ib;exact eQ d (Fy _ hd) (by rw[ed];exact h)
  rw[fB,mC,cO];have n:=g.nw;rw[Cs]at H;rw[JA]at h3;show aq U.ay (aK (c1++N))+aq U.ak (aK (c1++N))/2+1+2<=_;simp only[ga];omega
 refine⟨x,y,u,v,c1,N,ψ,s,s2,_,_,_,?_,mZ,⟨ib,aw⟩,⟨cx,cy,cu,cv⟩,⟨Ru,ar,Nq⟩,iO,NV,hg,⟨e1,e2⟩,hz,by simpa using hlen,m4⟩;rw[pa,pb]
def Vy(g:bj F f){a b:Nat}(ha:a<I f)(N:b<I f)(h:oY F f a b=some L):gO F L:=by
 obtain⟨x,y,u,v,c1,D,ψ,s,s2,T,B,S,rfl,M,_,⟨Y,O,Z,Q⟩,_,_,NV,_,_,hz,_,m,j,_⟩:=ale g ha N h;have E:(u.k.id=x.k.id\/u.k.id=y.k.id)/\(v.k.id=x.k.id\/v.k.id=y.k.id):=by
  cases m
  .rw[aC aa]at j;exact⟨.inl j.1.1,.inr j.1.2⟩
  rw[aD rfl]at j;exact⟨.inr j.1.1,.inl j.1.2⟩
 let r:=c1++D
 have X:gO F (r.map λw=>jn [x.k.id,y.k.id] w.p):=by refine⟨_,_,_,_,?_,hz⟩;rw[h_];refine lq λw _=>?_;rw[Wp];rfl
 show gO F ((oc (an f) (uR [x.k.id,y.k.id])).map (jn [x.k.id,y.k.id]));rw[abp (drop:=uR [x.k.id,y.k.id]) λ_ _=>rfl];refine adN (a:=a) ?_;rw[M];have z:=Q;have A:∀d∈r,(λp:aN=> !((p.l.kind==2)&&[x.k.id,y.k.id].contains p.l.id)) d.p:=λd H=>by
  show(!((d.p.l.kind==2)&&_))=true;cases R:(d.p.l.kind==2)
  .rfl
  obtain⟨n1,n2⟩:=NV d H R;simp[n1,n2]
 have n:∀(d:aQ) (t:aW),(d.p.l.kind==2)->(d.k.id=x.k.id\/d.k.id=y.k.id)->(d.p::t).filter (λp=> !((p.l.kind==2)&&[x.k.id,y.k.id].contains p.l.id))=t.filter (λp=> !((p.l.kind==2)&&[x.k.id,y.k.id].contains p.l.id)):=λd t H h=>by grind
 have hf:((x::y::(c1++u::v::D)).map aQ.p).filter (λp=> !((p.l.kind==2)&&[x.k.id,y.k.id].contains p.l.id))=r.map aQ.p:=by
  rw[eZ,eZ,n x _ Y (.inl rfl),n y _ O (.inr rfl),fL,xK,eZ,eZ,
   n u _ Z E.1,n v _ z E.2]
  rw[<-xK,<-fL];refine Ge λp hp=>?_;obtain⟨d,H,rfl⟩:=ch.1 hp;exact A d H
 rw[hf,h_];exact X
end
def Po{α:Type}{z:List α}{a:Nat}{x:α}(h:z[a]?=some x):z=z.take a++x::z.drop (a+1):=by
 obtain _:=bt.1 h
 grind [ux,jS]
def aoA{ψ:Nat->Nat}{h:U->U}{Z z:fG}{x X:aQ}{s:eN}(hp:iR s (Z++x::z) s)(u:X.i=x.i.mp ψ)(H:X.o=x.o.mp ψ):iR (s.mp ψ) (Z.map (aQ.mp ψ h)++X::z.map (aQ.mp ψ h)) (s.mp ψ):=by obtain⟨m,j,f,n⟩:=zm.1 hp;exact zm.2 ⟨m.mp ψ,Gk j,by rw[u,f],by rw[H];exact Gk n⟩
def Tm{w:aQ}{G:Nat}(h:w.k.ay)(H:w.k.gate=(G:Int))(k:Nat):(if jq k w.k=true then 1 else 0)=if k=G then 1 else 0:=by grind [jq]
def S2{l:aW}{f:aN->aN}{i:Nat}{p q:aN}(hp:l[i]?=some p):(l.map f).set i q=(l.take i).map f++q::(l.drop (i+1)).map f:=by
 have hl:=(bt.1 hp).1
 conv=>lhs;rw[Po hp]
 rw[fL,eZ,Oe _ _ (by grind),cg,jO,yO J,xt];rfl
section
variable {F:Nat} {f:af}
def ahb(g:bj F f){a:Nat}{x:aQ}(hx:(fc f)[a]?=some x)(N:x.k.ay){G j:Nat}(hG:x.k.gate=(G:Int))(aj:j<=F)(aO:j≠G){g' A y R:Int}
  (gY:∀w∈(fc f).take a++(fc f).drop (a+1),w.k.ay->(1<=(iZ g' A y w.k).au/\(iZ g' A y w.k).au<=((aV f w.k.gate.toNat:Nat):Int)+(if w.k.gate.toNat=j then 1 else 0)-(if w.k.gate.toNat=G then 1 else 0))/\(w.k.gate=(j:Int)->(iZ g' A y w.k).au≠R))
  (o9:∀u∈(fc f).take a++(fc f).drop (a+1),∀v∈(fc f).take a++(fc f).drop (a+1),u.k.ay->v.k.ay->u.k.gate=v.k.gate->(iZ g' A y u.k).au=(iZ g' A y v.k).au->u.k.au=v.k.au)
  (jX:1<=R/\R<=(aV f j:Int)+1)
  (hT:∀ag D:Nat->Nat->Nat,(ag=fp f/\D=T)\/(ag=fm f/\D=B)->(ag x.k.gate.toNat (x.k.au.toNat-1)=D j (R.toNat-1)/\ag x.k.gate.toNat x.k.au.toNat=D j R.toNat)/\
   (∀w∈(fc f).take a++(fc f).drop (a+1),w.k.ay->ag w.k.gate.toNat (w.k.au.toNat-1)=D w.k.gate.toNat ((iZ g' A y w.k).au.toNat-1)/\ag w.k.gate.toNat w.k.au.toNat=D w.k.gate.toNat (iZ g' A y w.k).au.toNat)/\
   (∀k,k<F->D k (aV f k+(if k=j then 1 else 0)-(if k=G then 1 else 0))=D (k+1) 0)/\D F (aV f F+(if F=j then 1 else 0)-(if F=G then 1 else 0))=D 0 0):
  gO F (((an f).take a).map (cW g' A y)++⟨{x.k with gate:=(j:Int),au:=R},x.p.d⟩::((an f).drop (a+1)).map (cW g' A y)):=by
 have c:=g.cz;have hz:=Po hx
 let Z:=(fc f).take a
 let M:=(fc f).drop (a+1)
 let z:aQ:=⟨⟨{x.k with gate:=(j:Int),au:=R},x.p.d⟩,x.i,x.o⟩
 have ND:z.k.ay:=N;have iU:(fc f).Perm ([x]++(Z++M)):=by
  conv=>lhs;rw[hz]
  exact F1
 have q:=c.q.perm iU
 let r:=Z++M
 let m:=iZ g' A y
 have mG:∀k,aV (aK (r.map (aQ.mp id m))) k=aV (aK r) k:=λk=>rB (λl=>NG _ _ _ k l) r;have tC:aq U.ak f=aq U.ak (aK r):=by have:=vQ (p:=U.ak) iU;rw[iX,qj,fh,tq,(u4 N).1]at this;show _=aq U.ak (aK (Z++M));rw[this];omega
 have tP:aq U.ay f=aq U.ay (aK r)+1:=by have:=vQ (p:=U.ay) iU;rw[iX,qj,fh,tq,(u4 N).2]at this;show _=aq U.ay (aK (Z++M))+1;rw[this];omega
 have tG:∀k,aV f k=aV (aK r) k+if k=G then 1 else 0:=λk=>by have:=vQ (p:=jq k) iU;rw[iX,qj,fh,tq,Tm N hG]at this;show aq _ _=aq (jq k) (aK (Z++M))+_;rw[this];omega
 have nC:aq U.ak (aK ([z]++r.map (aQ.mp id m)))=aq U.ak f:=by rw[qj,fh,tq,(u4 ND).1,rB (λl=>(sn _ _ _).ak l) r,tC];omega
 have bQ:aq U.ay (aK ([z]++r.map (aQ.mp id m)))=aq U.ay f:=by rw[qj,fh,tq,(u4 ND).2,rB (λl=>(sn _ _ _).ay l) r,tP];omega
 have nG:∀k,aV (aK ([z]++r.map (aQ.mp id m))) k=aV f k+(if k=j then 1 else 0)-(if k=G then 1 else 0):=λk=>by
  have E:aV (aK ([z]++r.map (aQ.mp id m))) k=(if k=j then 1 else 0)+aV (aK (r.map (aQ.mp id m))) k:=by show aq _ _=_+aq _ _;rw[qj,fh,tq,Tm ND rfl];omega
  rw[E,mG,tG];split<;>split<;>omega
 have Y:=nL ND;have ac:eo F z.k=false:=by have:=(lQ N).1 (c.ok x (a7 hx)).bad;refine(lQ ND).2 ?_;exact⟨⟨⟨⟨by show(0:Int)<=(j:Int);omega,by show(j:Int)<=(F:Int);omega⟩,this.1.1.2⟩,this.1.2⟩,this.2⟩
 have inr:∀w∈r,w∈[x]++r:=λw H=>uX _ H;have tx:=hT (fp f) T (.inl ⟨rfl,rfl⟩);have bx:=hT (fm f) B (.inr ⟨rfl,rfl⟩);have ad:=q.pl x aE N;have qn:j_ F ([z]++r.map (aQ.mp id m)) T B:=by
  refine j_.edit q (sn _ _ _) (λw H=>ZW (q.ok w (inr w H)).bad) (λu n v hv cu cv e=>?_) (λu n v hv O pv E e2=>?_) (λw H=>?_) (Ex ..) (Ex ..) (λu n w H=>?_) (λu n w H O pw E e2=>?_) (by rw[nC];have:=c.ev;rwa[iX]at this) (λw H cw=>?_) (λu n cu=>?_) (λw H pw=>?_) (λu n O=>?_) (λw H pw=>?_) (λu n O=>?_) (λk hk=>?_) ?_
  .rw[Bj,Bj]at e;exact e
  .have Fx:u.k.gate=v.k.gate:=by rw[u7,u7]at E;exact E
   exact⟨Fx,o9 u n v hv O pv Fx e2⟩
  .rw[mj]at H;subst H;exact⟨ac,λh=>absurd h (by rw[Y];decide),λ_=>(c.ok x (a7 hx)).pb N⟩
  .rw[mj]at n;subst n;exact abE Y
  .rw[mj]at n;subst n;have E:(j:Int)=(m w.k).gate:=E;exact(gY w H (by rw[<- (sn g' A y).ay];exact pw)).2 (by rw[E];exact(u7 _ _ _ _).symm) e2.symm
  .rw[mj]at H;subst H;rw[Y]at cw;cases cw
  .rw[nC,Bj,<-iX f];exact c.ids u (iU.mem_iff.2 (inr u n)) cu
  .rw[mj]at H;subst H;rw[nG];show 1<=R/\R<=((aV f ((j:Int)).toNat+(if((j:Int)).toNat=j then 1 else 0)-(if((j:Int)).toNat=G then 1 else 0):Nat):Int);rw[js,aD rfl,aC aO];omega
  .rw[u7,nG];obtain⟨⟨a1,a2⟩,_⟩:=gY u n O;refine⟨a1,?_⟩;have jD:(if u.k.gate.toNat=G then 1 else 0)<=aV f u.k.gate.toNat:=by rw[tG];omega
   have a2:(m u.k).au<=((aV f u.k.gate.toNat:Nat):Int)+(if u.k.gate.toNat=j then 1 else 0)-(if u.k.gate.toNat=G then 1 else 0):=a2;show(m u.k).au<=((aV f u.k.gate.toNat+(if u.k.gate.toNat=j then 1 else 0)-(if u.k.gate.toNat=G then 1 else 0):Nat):Int);by_cases Q:u.k.gate.toNat=j<;>by_cases h2:u.k.gate.toNat=G
   .rw[aD Q,aD h2]at a2 |-;rw[aD h2]at jD;omega
   .rw[aD Q,aC h2]at a2 |-;omega
   .rw[aC Q,aD h2]at a2 |-;rw[aD h2]at jD;omega
   rw[aC Q,aC h2]at a2 |-;omega
  .rw[mj]at H;subst H;obtain⟨p1,p2,p3,p4⟩:=ad;obtain⟨⟨t1,t2⟩,_⟩:=tx;obtain⟨⟨b1,b2⟩,_⟩:=bx;have e0:z.k.gate.toNat=j:=js _;constructor
   .rw[e0];exact p1.trans t1
   .rw[e0];exact p2.trans t2
   .rw[e0];exact p3.trans b1
   rw[e0];exact p4.trans b2
  .rw[u7];obtain⟨t1,t2⟩:=tx.2.1 u n O;obtain⟨b1,b2⟩:=bx.2.1 u n O;exact⟨⟨t1,b1⟩,t2,b2⟩
  .rw[nG];exact⟨tx.2.2.1 k hk,bx.2.2.1 k hk⟩
  rw[nG];exact⟨tx.2.2.2,bx.2.2.2⟩
 obtain⟨s,hp⟩:=c.path;rw[hz]at hp;refine j_.done (X:=[x]) (L:=[]) (O:=Z.map (aQ.mp id m)++z::M.map (aQ.mp id m)) qn c.nd (λt ht=>?_) ?_ ⟨s.mp id,aoA hp rfl rfl⟩ ?_ ⟨z,aE,ND⟩ (λ_ _ _=>rfl) (λw H t ht ew _=>?_) qK (λt ht=>by cases ht) (λt ht=>by cases ht) (by rw[wI];exact cJ _) ?_
 .obtain⟨w,H,ew⟩:=c.wit t ht;exact⟨w,iU.mem_iff.1 H,ew⟩
 .show(Z.map (aQ.mp id m)++z::M.map (aQ.mp id m)).Perm ([z]++(Z++M).map (aQ.mp id m));rw[fL];exact F1
 .have Q:∀t:fG,(t.map (aQ.mp id m)).map aQ.p=(t.map aQ.p).map (cW g' A y):=λt=>by
   rw[h_,h_];refine lq λw _=>?_;show _=cW g' A y w.p;rw[Fz];rfl
  rw[fL,eZ,Q,Q];show(((fc f).take a).map aQ.p).map _++_::(((fc f).drop (a+1)).map aQ.p).map _=_;rw[sC,vv,vA]
 .rw[mj]at H;subst H;exact⟨z,aE,ew⟩
 rw[nC,bQ];have:=g.nw;simp only[ga];omega
def Og(g:bj F f){a:Nat}(ha:a<I f)(h:th F f a=some L):gO F L:=by
 have l9:=yy f;obtain⟨x,z⟩:=aP (h:=fc f) (k:=a) J;have Z:(an f)[a]?=some x.p:=by rw[<-vA,fz,z];rfl
 unfold th at h;rw[gU Z]at h;split at h
 case isFalse=>cases h
 rename_i hc;simp only[cP,c8,iJ]at hc;obtain⟨h1,h2,D⟩:=hc;cases h;have c:=g.cz;have A:x.k.ay:=by show(x.k.kind==1)=true;simp[h1]
 have rx:=c.rr x (a7 z) A;rw[iX]at rx;have D:=D;have h2:x.k.gate<(F:Int):=h2;have y:=(Qn (((lQ A).1 (c.ok x (a7 z)).bad).1.1.1).1).symm;generalize x.k.gate.toNat=G at y D rx;have iU:(fc f).Perm (x::((fc f).take a++(fc f).drop (a+1))):=by
  conv=>lhs;rw[Po z]
  exact F1
 have O:∀w∈(fc f).take a++(fc f).drop (a+1),w.k.ay->(0<=w.k.gate/\w.k.gate<=(F:Int))/\1<=w.k.au/\w.k.au<=(aV f w.k.gate.toNat:Int)/\(w.k.gate=(G:Int)->w.k.au≠x.k.au):=λw H pw=>by have lH:=iU.mem_iff.2 (zY _ H);have r1:=c.rr w lH pw;rw[iX]at r1;refine⟨((lQ pw).1 (c.ok w lH).bad).1.1.1,r1.1,r1.2,λn E=>?_⟩;exact(iN.1 (c.q.perm iU).rk).1 w H A pw (by rw[y,n]) E.symm
 have rk:∀w:aQ,w.k.ay->(iZ ((G:Int)+1) 0 1 w.k).au=if w.k.gate=(G:Int)+1/\0<w.k.au then w.k.au+1 else w.k.au:=λw pw=>UR pw;have ac:x.k.gate.toNat=G:=by rw[y];exact js _
 have Y:x.k.au.toNat=aV f G:=by rw[D];exact js _
 have M:=ahb g z A (j:=G+1) y J J (g':=(G:Int)+1) (A:=0) (y:=1) (R:=1)
  (T:=λk j=>if k=G+1 then(if j=0 then fp f G (aV f G-1)else fp f (G+1) (j-1))else fp f k j)
  (B:=λk j=>if k=G+1 then(if j=0 then fm f G (aV f G-1)else fm f (G+1) (j-1))else fm f k j) ?_ ?_ ⟨J,J⟩ ?_
 .have e:pF (dO (an f) (x.p.l.gate+1) 0 1) a (x.p.l.gate+1) 1=((an f).take a).map (cW ((G:Int)+1) 0 1)++⟨{x.k with gate:=((G+1:Nat):Int),au:=1},x.p.d⟩::((an f).drop (a+1)).map (cW ((G:Int)+1) 0 1):=by
   unfold pF;have ie:(dO (an f) (x.p.l.gate+1) 0 1)[a]?=some x.p:=by
    show((an f).map _)[a]?=_;rw[fz,Z];show some (cW _ _ _ x.p)=_;rw[Fz];congr 1;have:iZ (x.p.l.gate+1) 0 1 x.p.l=x.p.l:=by unfold iZ;rw[aC];simp only[cP,c8,not_and];intro _ h;omega
    rw[this]
   rw[dD,ie,nM];rw[show dO (an f) (x.p.l.gate+1) 0 1=(an f).map (cW (x.p.l.gate+1) 0 1)from rfl,S2 Z,y];rfl
  rw[e];exact M
 .intro w H pw;obtain⟨o1,o2,X,o4⟩:=O w H pw;rw[rk w pw];refine⟨?_,λe=>?_⟩
  .by_cases c1:w.k.gate=(G:Int)+1
   .rw[aD ⟨c1,J⟩,aD J,aC J];omega
   rw[aC J,aC J];by_cases m:w.k.gate=(G:Int)
   .rw[aD J];have:=o4 m;have e3:w.k.gate.toNat=G:=J;rw[e3]at X |-;omega
   rw[aC J];omega
  rw[aD ⟨J,J⟩];omega
 .intro u hu v hv pu pv n E;rw[rk u pu,rk v pv]at E;obtain⟨_,o2,_⟩:=O u hu pu;obtain⟨_,X,_⟩:=O v hv pv;split at E<;>split at E<;>omega
 intro R f' JK;have hf:f'=λk j=>if k=G+1 then(if j=0 then R G (aV f G-1)else R (G+1) (j-1))else R k j:=by rcases JK with⟨rfl,rfl⟩|⟨rfl,rfl⟩<;>rfl
 have jC:∀k,k<F->R k (aV f k)=R (k+1) 0:=λk N=>by
  have:=c.gt k N;rw[iX]at this;rcases JK with⟨rfl,_⟩|⟨rfl,_⟩
  .exact this.1
  exact this.2
 have Q:R F (aV f F)=R 0 0:=by
  have:=c.gz;rw[iX]at this;rcases JK with⟨rfl,_⟩|⟨rfl,_⟩
  .exact this.1
  exact this.2
 rw[hf,ac,Y];refine⟨⟨?_,?_⟩,λw H pw=>?_,λk N=>?_,?_⟩
 .simp
 .simp[jC G J]
 .obtain⟨o1,o2,X,o4⟩:=O w H pw;rw[rk w pw];by_cases c1:w.k.gate=(G:Int)+1
  .have n:w.k.gate.toNat=G+1:=J;have E:(w.k.au+1).toNat=w.k.au.toNat+1:=J;have e3:w.k.au.toNat≠0:=J;rw[aD ⟨c1,J⟩,n,E];simp[e3]
  have n:w.k.gate.toNat≠G+1:=J;rw[aC J];simp[n]
 .by_cases c1:k=G
  .subst c1;simp
  by_cases m:k=G+1
  .subst m;simp[jC _ N]
  have:k+1≠G+1:=J;simp[c1,m,jC k N]
 have ad:F≠G:=J;by_cases m:F=G+1
 .rw[m]at Q;simp[m,Q]
 simp[ad,m,Q]
end
section
variable {F:Nat} {f:af}
def Nz(g:bj F f){a:Nat}(ha:a<I f)(h:te f a=some L):gO F L:=by
 have l9:=yy f;obtain⟨x,D⟩:=aP (h:=fc f) (k:=a) J;have jo:(an f)[a]?=some x.p:=by rw[<-vA,fz,D];rfl
 have ad:dE f a=x.p:=gU jo;unfold te at h;rw[ad]at h;split at h
 case isFalse=>cases h
 rename_i hc;simp only[cP,c8,iJ]at hc;obtain⟨h1,Y,A⟩:=hc;cases h;have c:=g.cz;have X:x.k.ay:=by show(x.k.kind==1)=true;simp[h1]
 have gx:=((lQ X).1 (c.ok x (a7 D)).bad).1.1.1;have rx:=c.rr x (a7 D) X;rw[iX]at rx;have A:x.k.au=1:=A;have Y:0<x.k.gate:=Y;obtain⟨G,hG⟩:∃G:Nat,x.k.gate=((G+1:Nat):Int):=⟨x.k.gate.toNat-1,J⟩;have N:x.k.gate.toNat=G+1:=by rw[hG];exact js _
 rw[N]at rx;have hz:=Po D;have iU:(fc f).Perm (x::((fc f).take a++(fc f).drop (a+1))):=by
  conv=>lhs;rw[hz]
  exact F1
 have q:=c.q.perm iU;have O:∀w∈(fc f).take a++(fc f).drop (a+1),w.k.ay->(0<=w.k.gate/\w.k.gate<=(F:Int))/\1<=w.k.au/\w.k.au<=(aV f w.k.gate.toNat:Int)/\(w.k.gate=((G+1:Nat):Int)->w.k.au≠1):=λw H pw=>by have lH:w∈fc f:=iU.mem_iff.2 (zY _ H);have r1:=c.rr w lH pw;rw[iX]at r1;refine⟨((lQ pw).1 (c.ok w lH).bad).1.1.1,r1.1,r1.2,λE y=>?_⟩;exact(iN.1 q.rk).1 w H X pw (by rw[hG,E]) (by rw[A,y])
 have rk:∀w:aQ,w.k.ay->(iZ ((G+1:Nat):Int) 1 (-1) w.k).au=if w.k.gate=((G+1:Nat):Int)/\1<w.k.au then w.k.au-1 else w.k.au:=λw pw=>by rw[UR pw];rfl
 have ac:x.k.au.toNat=1:=by rw[A];rfl
 have M:=ahb g D X (G:=G+1) (j:=G) hG J J (g':=((G+1:Nat):Int)) (A:=1) (y:= -1) (R:=((aV f G+1:Nat):Int))
  (T:=λk j=>if k=G+1 then fp f (G+1) (j+1)else if k=G then(if j<=aV f G then fp f G j else fp f (G+1) 1)else fp f k j)
  (B:=λk j=>if k=G+1 then fm f (G+1) (j+1)else if k=G then(if j<=aV f G then fm f G j else fm f (G+1) 1)else fm f k j) ?_ ?_ ⟨J,J⟩ ?_
 .have JN:x.p.l.gate=((G+1:Nat):Int):=hG;have ag:x.p.l.gate-1=(G:Int):=by rw[JN];omega
  have e:pF (dO (an f) x.p.l.gate 1 (-1)) a (x.p.l.gate-1) ((aV f (x.p.l.gate-1).toNat+1:Nat):Int)=((an f).take a).map (cW ((G+1:Nat):Int) 1 (-1))++⟨{x.k with gate:=(G:Int),au:=((aV f G+1:Nat):Int)},x.p.d⟩::((an f).drop (a+1)).map (cW ((G+1:Nat):Int) 1 (-1)):=by
   unfold pF;have ie:(dO (an f) x.p.l.gate 1 (-1))[a]?=some x.p:=by
    show((an f).map _)[a]?=_;rw[fz,jo];show some (cW _ _ _ x.p)=_;rw[Fz];congr 1;have:iZ x.p.l.gate 1 (-1) x.p.l=x.p.l:=by unfold iZ;rw[aC];simp only[cP,c8,iJ,not_and];intro _ _ h;have vr:x.p.l.au=1:=A;omega
    rw[this]
   rw[dD,ie,nM];rw[show dO (an f) x.p.l.gate 1 (-1)=(an f).map (cW x.p.l.gate 1 (-1))from rfl,S2 jo,ag,JN,js]
  rw[e];exact M
 .intro w H pw;obtain⟨o1,o2,Z,R⟩:=O w H pw;rw[rk w pw];refine⟨?_,λe=>?_⟩
  .by_cases c1:w.k.gate=((G+1:Nat):Int)
   .have:=R c1;rw[aD ⟨c1,J⟩,aC J,aD J];omega
   rw[aC J,aC (show¬w.k.gate.toNat=G+1 by omega)];split<;>omega
  rw[aC J];have e3:w.k.gate.toNat=G:=J;rw[e3]at Z;omega
 .intro u hu v hv pu pv E y;rw[rk u pu,rk v pv]at y;obtain⟨_,o2,_,R⟩:=O u hu pu;obtain⟨_,Z,_,o5⟩:=O v hv pv;by_cases c1:u.k.gate=((G+1:Nat):Int)
  .have n1:=R c1;have n2:=o5 (by rw[<-E,c1]);rw[aD ⟨c1,J⟩,aD ⟨by rw[<-E,c1],J⟩]at y;omega
  rw[aC J,aC (by rw[<-E];omega)]at y;exact y
 intro n z JK;have hf:z=λk j=>if k=G+1 then n (G+1) (j+1)else if k=G then(if j<=aV f G then n G j else n (G+1) 1)else n k j:=by rcases JK with⟨rfl,rfl⟩|⟨rfl,rfl⟩<;>rfl
 have jC:∀k,k<F->n k (aV f k)=n (k+1) 0:=λk hk=>by
  have:=c.gt k hk;rw[iX]at this;rcases JK with⟨rfl,_⟩|⟨rfl,_⟩
  .exact this.1
  exact this.2
 have JO:n F (aV f F)=n 0 0:=by
  have:=c.gz;rw[iX]at this;rcases JK with⟨rfl,_⟩|⟨rfl,_⟩
  .exact this.1
  exact this.2
 have wM:G<F:=J;have jD:1<=aV f (G+1):=J;have kU:∀j,z (G+1) j=n (G+1) (j+1):=λj=>by rw[hf];exact aD rfl
 have v2:∀j,j<=aV f G->z G j=n G j:=λj hj=>by rw[hf];show(if G=G+1 then _ else if G=G then(if j<=aV f G then n G j else n (G+1) 1)else n G j)=_;rw[aC J,aD rfl,aD hj]
 have v3:z G (aV f G+1)=n (G+1) 1:=by rw[hf];show(if G=G+1 then _ else if G=G then(if aV f G+1<=aV f G then n G (aV f G+1)else n (G+1) 1)else n G (aV f G+1))=_;rw[aC J,aD rfl,aC J]
 have v4:∀k j,k≠G->k≠G+1->z k j=n k j:=λk j h1 Y=>by rw[hf];show(if k=G+1 then _ else if k=G then _ else n k j)=_;rw[aC Y,aC h1]
 have v0:∀k,k≠G+1->z k 0=n k 0:=λk h=>by
  by_cases c:k=G
  .subst c;exact v2 0 (bZ _)
  exact v4 k 0 c h
 have ec:aV f (G+1)-1+1=aV f (G+1):=J;rw[N,ac,js];refine⟨⟨?_,?_⟩,λw H pw=>?_,λk hk=>?_,?_⟩
 .rw[Is,v2 _ (cJ _),jC G wM]
 .exact v3.symm
 .obtain⟨o1,o2,Z,R⟩:=O w H pw;rw[rk w pw];by_cases c1:w.k.gate=((G+1:Nat):Int)
  .have n1:=R c1;have E:w.k.gate.toNat=G+1:=J;have y:(w.k.au-1).toNat-1+1=w.k.au.toNat-1:=J;have e3:(w.k.au-1).toNat+1=w.k.au.toNat:=J;rw[aD ⟨c1,J⟩,E,kU,kU,y,e3];exact⟨rfl,rfl⟩
  have E:w.k.gate.toNat≠G+1:=J;rw[aC J];by_cases m:w.k.gate.toNat=G
  .rw[m]at Z |-;rw[v2 _ J,v2 _ J];exact⟨rfl,rfl⟩
  rw[v4 _ _ m E,v4 _ _ m E];exact⟨rfl,rfl⟩
 .by_cases c1:k=G+1
  .subst c1;rw[aC J,aD rfl,kU,show aV f (G+1)+0-1+1=aV f (G+1) by omega,v0 _ J,jC _ hk]
  rw[aC c1,OO];by_cases m:k=G
  .subst m;rw[aD rfl,v3,kU]
  rw[aC m,uz,v4 _ _ m c1,v0 _ J,jC k hk]
 rw[v0 0 J];have Q:F≠G:=J;rw[aC Q,uz];by_cases m:F=G+1
 .rw[aD m];rw[m]at JO |-;rw[kU,ec,JO]
 rw[aC m,OO,v4 _ _ Q m,JO]
end
def sD.T8{g:Bool}{i o j q:eN}(h:sD g i o j q):sD (!g) (jE o) (jE i) j q:=by obtain⟨a,b,c,d⟩:=h;cases g<;>simp at a b c d<;>constructor<;>simp[jE,a,b,c,d]
def sD.T9{g:Bool}{i o j q:eN}(h:sD g i o j q):sD (!g) i o (jE q) (jE j):=by obtain⟨a,b,c,d⟩:=h;cases g<;>simp at a b c d<;>constructor<;>simp[jE,a,b,c,d]
def iH(f:Bool)(x:aQ):eN:=if f then x.i else jE x.o
def jM(f:Bool)(x:aQ):eN:=if f then x.o else jE x.i
def ZR{f F:Bool}{x y:aQ}:sD true (iH f x) (jM f x) (iH F y) (jM F y)↔sD (f==F) x.i x.o y.i y.o:=by
 cases f<;>cases F<;>simp
 .exact⟨λh=>h.T8.T9,λh=>h.T8.T9⟩
 .exact⟨λh=>h.T8,λh=>h.T8⟩
 .exact⟨λh=>h.T9,λh=>h.T9⟩
 exact Iff.rfl
def bP (n d:Nat):Nat:=if d%2=0 then d/2 else(d/2+1)%n
def bU (n d:Nat):Nat:=if d%2=0 then(d/2+1)%n else d/2
def cD(d:Nat):Bool:=d%2==0
section
variable {F:Nat} {f:af}
def dq(P:aW)(h:Nat->eN)(i:Nat):aQ:=⟨P.getD i ⟨ij,false⟩,h ((i+I P-1)%I P),h i⟩
def Bf (P:aW)(h:Nat->eN):fG:=(List.range (I P)).map (dq P h)
def agn(P:aW)(h:Nat->eN):(Bf P h).map aQ.p=P:=by
 unfold Bf;rw[h_];apply pk;intro i;rw[fz];by_cases H:i<I P
 .obtain⟨p,hp⟩:=aP H;rw[tX H,hp];show some (P.getD i _)=_
  grind
 grind
def avL(P:aW)(h:Nat->eN)(f:0<I P):∃s,iR s (Bf P h) s:=by
 refine⟨h (I P-1),?_⟩;have:=ail (dq P h) (λi=>h _) (I P) 0 λi _ H=>⟨rfl,?_⟩
 .simp only[jN]at this;rwa[eJ J,show I P+I P-1=(I P-1)+I P by omega,lg,eJ J,<-abz]at this
 show h i=h _
 grind [lg,eJ]
def ako(g:bj F f){P:aW}{u:Nat}(hl:I P=I f)
  (E:aq U.ak (P.map aN.l)=aq U.ak f) (X:aq U.ay (P.map aN.l)=aq U.ay f) (R:∀k,aV (P.map aN.l) k=aV f k)
  (ok:∀i,i<I f->yW F (dq P h i)) (cr:∀i j,i<I f->j<I f->i≠j->nk (dq P h i) (dq P h j)) (rk:∀i j,i<I f->j<I f->i≠j->zH (dq P h i) (dq P h j))
  (ids:∀i,i<I f->(dq P h i).k.ak->1<=(dq P h i).k.id/\(dq P h i).k.id<=((aq U.ak f/2:Nat):Int))
  (rr:∀i,i<I f->(dq P h i).k.ay->1<=(dq P h i).k.au/\(dq P h i).k.au<=(aV f (dq P h i).k.gate.toNat:Int))
  (pl:∀i,i<I f->(dq P h i).k.ay->B1 T B (dq P h i))
  (gt:∀k,k<F->T k (aV f k)=T (k+1) 0/\B k (aV f k)=B (k+1) 0) (gz:T F (aV f F)=T 0 0/\B F (aV f F)=B 0 0)
  (wit:∀j,j<I f->∀t,(t=(j8 f j).l\/t=(j8 f j).r)->t=u\/ ∃z,z<I f/\(t=(h z).l\/t=(h z).r)):gO F P:=by
 have hn:=gy.2 g.ne;have y:aK (Bf P h)=P.map aN.l:=by
  show(Bf P h).map (λx=>x.p.l)=_;have:(Bf P h).map (λx=>x.p.l)=((Bf P h).map aQ.p).map aN.l:=by rw[h_];rfl
  rw[this,agn]
 have M:∀x∈Bf P h,∃i,i<I f/\x=dq P h i:=λx H=>by obtain⟨i,m,rfl⟩:=ch.1 H;exact⟨i,by have:=gA.1 m;omega,rfl⟩
 have Q:∀i,i<I f->dq P h i∈Bf P h:=λi m=>ch.2 ⟨i,gA.2 J,rfl⟩;have q:j_ F (Bf P h) T B:=by
  refine⟨λx H=>?_,R_ λi j m D N=>cr i j J J N,?_,λx H hc=>?_,R_ λi j m D N=>rk i j J J N,λx H hp=>?_,λx H hp=>?_,λk Y=>?_,?_⟩
  .obtain⟨i,m,rfl⟩:=M x H;exact ok i m
  .rw[y,E];have:=g.cz.ev;rwa[iX]at this
  .obtain⟨i,m,rfl⟩:=M x H;rw[y,E];exact ids i m hc
  .obtain⟨i,m,rfl⟩:=M x H;rw[y,R];exact rr i m hp
  .obtain⟨i,m,rfl⟩:=M x H;exact pl i m hp
  .rw[y,R];exact gt k Y
  rw[y,R];exact gz
 refine⟨Bf P h,T,B,(List.range (fW f)).filter (λs=> ![u].contains s),agn P h,⟨avL P h J,q.ok,q.cr,q.ev,q.ids,q.rk,q.rr,q.pl,q.gt,q.gz,?_,D8.filter _,λs ae=>?_,?_⟩⟩
 .have:0<aq U.ay (P.map aN.l):=by
   rw[X];obtain⟨l,A,v⟩:=g.first;exact zp.2 ⟨l,a7 A,v⟩
  rw[<-y]at this;obtain⟨l,A,v⟩:=zp.1 this;obtain⟨x,H,rfl⟩:=ch.1 A;exact⟨x,H,v⟩
 .obtain⟨A,v⟩:=r4.1 ae;have v:s≠u:=by simpa using v
  obtain⟨x,H,e⟩:=g.cz.wit s A;obtain⟨j,D,rfl⟩:=ch.1 H;have D:=gA.1 D;rcases wit j D s e with Z|⟨z,O,Z⟩
  .exact absurd Z v
  exact⟨dq P h z,Q z O,Z⟩
 rw[y,E,X];have A:=ab7 (L:=[u]) (D8 (n:=fW f));have v:=g.nw
 grind [wI,fP,ga]
def Iq(g:bj F f){d:Nat}(h:d<2*I f):bP (I f) d<I f:=by
 unfold bP;split
 .omega
 exact cT _ (gy.2 g.ne)
def yH(g:bj F f){d:Nat}(h:d<2*I f):bU (I f) d<I f:=by
 unfold bU;split
 .exact cT _ (gy.2 g.ne)
 omega
def Dg{d:Nat}(h:d<2*I f):d=g_ (I f) (bU (I f) d) (cD d):=by have:=Nx h;exact this
def HZ{f:Bool}(h:v<n):bP n (dS n v f)=v/\cD (dS n v f)=f:=by grind [bP,cD,dS,wx]
def xy (f:af)(d:Nat):eN:=if d%2=0 then j8 f (d/2)else jE (j8 f (d/2))
def KD{d:Nat}(H:d<2*I f):iH (cD d) (e_ f (bU (I f) d))=xy f d:=by
 unfold iH cD bU xy e_;rcases qL d with h|h
 .simp[h,sv,if_true];rw[w8 J]
 simp[h]
def K_{d:Nat}(H:d<2*I f):jM (cD d) (e_ f (bP (I f) d))=xy f d:=by
 unfold jM cD bP xy e_;rcases qL d with h|h
 .simp[h]
 simp[h,show _=false from rfl,fE,if_false,N7];rw[w8 J]
def DX(g:bj F f){d:Nat}(n:d<2*I f){l:U}(hl:f[bU (I f) d]?=some l)(j:l.ak):aU f d<2*I f/\bP (I f) (aU f d)=iI f (bU (I f) d)/\cM l=(cD d==cD (aU f d))/\
  sD true (iH (cD d) (e_ f (bU (I f) d))) (jM (cD d) (e_ f (bU (I f) d))) (iH (cD (aU f d)) (e_ f (bP (I f) (aU f d)))) (jM (cD (aU f d)) (e_ f (bP (I f) (aU f d)))):=by
 obtain⟨B,m,H,x,M,D,z⟩:=qN (g.ok).cr hl j;have h:=(bt.1 H).1;have e:aU f d=dS (I f) (iI f (bU (I f) d)) (cD d==cM l):=by
  conv=>lhs;rw[Dg n]
  rw[w9 hl j];rfl
 obtain⟨A,v⟩:=HZ h;have y:bU (I f) d≠iI f (bU (I f) d):=by grind
 have u:cM l=(cD d==(cD d==cM l)):=by cases cD d<;>cases cM l<;>rfl
 rw[e,A,v];refine⟨?_,rfl,u,?_⟩
 .have:=wJ h (!(cD d==cM l))
  grind [uZ,uB,uQ]
 rw[ZR,<-u];have:=(Ps g (yH g n) h y (by rw[fU hl];exact j) (by rw[fU H];exact x) (by rw[fU hl,fU H];exact M.symm)).x4;rwa[fU hl]at this
theorem At{l:aW}(hl:I l=I f){e:Nat}(h:e<I f)(i:Nat):(gX f l e)[i]?=if i=nx f e then l[e]? else if i=e then l[nx f e]? else l[i]? :=by
 have H:nx f e<I f:=cT _ J;obtain _:=aP J;obtain _:=aP J;unfold gX
 grind
def Lf(g:bj F f){w:aG}(h:w∈gW (aU f) (aT f)){Q:Nat->Prop}(m:∀x,x<aT f->(Q (aU f x)↔Q x)){x y:Nat}(n:x∈w)(j:y∈w):Q x↔Q y:=by
 have:=(Rl (mE g.ok) (R:=gR _ _) (λz u=>.rel ⟨u,rfl⟩) h n j).inv λa b r=>by obtain⟨H,rfl⟩:=r;exact propext (m a H).symm
 exact Eq.to_iff this
end
def auF:∀(L M:cL),L.Nodup->(∀x∈L,x∈M)->I L<=I M:=by
 intro L
 induction L with
 |nil=>intro M _ _;exact bZ _
 |cons a L f=>
  intro M j ae;obtain⟨m,h⟩:=rR.1 j;have:=f (M.erase a) h λx H=>(Vb (by grind)).2 (ae x (by simp[H]))
  grind
def O3:∀l:cL,(jY l).Nodup:=by
 intro l
 induction l with
 |nil=>exact qK
 |cons a l f=>grind [jY,Dm]
def alE{l:cL}:I (jY l)=I l->l.Nodup:=by
 induction l with
 |nil=>intro _;exact qK
 |cons a l f=>
  have h:=auF _ _ (O3 l) λx H=>Dm.1 H
  grind [jY]
def ax0{p:aN->Bool}{l:aW}{i:Nat}{x y:aN}(h:l[i]?=some x):(l.set i y).countP p+(if p x then 1 else 0)=l.countP p+(if p y then 1 else 0):=by grind
section
variable {F:Nat} {f:af}
theorem Gg{l:aW}(hl:I l=I f){e:Nat}(h:e<I f)(A:e≠nx f e)(p:aN->Bool):(gX f l e).countP p=l.countP p:=by
 have H:nx f e<I f:=cT _ J
 grind [gX]
theorem C4(g:bj F f){e:Nat}(H:e<I f):e≠nx f e:=by
 have h:2<=I f:=by
  obtain _:=g.first;have:=g.even
  grind
 unfold nx;by_cases c:e+1<I f
 .rw[eJ c];omega
 rw[show e+1=I f by omega,w_];omega
def Dl(p:U->Bool):aq p ((an f).map aN.l)=aq p f:=by
 have:(an f).map aN.l=f:=by
  have h:=iX f;rw[<-h];have e:aK (fc f)=((fc f).map aQ.p).map aN.l:=by rw[h_];rfl
  rw[h,<-vA,<-e,h]
 rw[this]
def uL(g:bj F f){i j:Nat}{l m:U}(hl:f[i]?=some l)(h:f[j]?=some m)(H:l.ak)(M:m.ak)(e:l.id=m.id)(x:i≠j):iI f i=j:=by
 obtain⟨_,hp⟩:=g.ids;obtain _:=hp i j l m hl h H M e x;obtain⟨B,w,n,v,u,y,z⟩:=qN g.ok.cr hl H;refine Classical.byContradiction λA=>?_;have D:=(hp _ _ w m n h v M (by rw[u,e]) A).1
 grind
def akb(g:bj F f){w:aG}(n:w∈gW (aU f) (aT f)){p q r:Nat}(hp:p∈w)(H:q∈w)(v:r∈w)(pq:p≠q)(pr:p≠r)(Q:q≠r)(m:p<aT f)(L:q<aT f)(j:r<aT f)
  (E:aU f p=p\/aU f p=q\/aU f p=r) (R:aU f q=p\/aU f q=q\/aU f q=r) (N:aU f r=p\/aU f r=q\/aU f r=r):
  (aU f p=q/\aU f q=r/\aU f r=p)\/(aU f p=r/\aU f r=q/\aU f q=p):=by
 have inj:=(mE g.ok).inj;have i1:aU f p≠aU f q:=λe=>pq (inj _ _ m L e);have i2:aU f p≠aU f r:=λe=>pr (inj _ _ m j e);have i3:aU f q≠aU f r:=λe=>Q (inj _ _ L j e);have one:∀x y,x∈w->y∈w->x≠y->x<aT f->aU f x≠x:=λx y A u D B e=>by have:=Lf g n (λt z=>⟨λh=>inj _ _ z B (by rw[h,e]),λh=>by rw[h,e]⟩) A u;exact D (this.1 rfl).symm
 have O:=one p q hp H pq m;have T:=one q p H hp (Ne.symm pq) L;have M:=one r p v hp (Ne.symm pr) j;omega
def ace{d i:Nat}:(i≠bP n d/\i≠bU n d)↔(i≠d/2/\i≠(d/2+1)%n):=by
 unfold bP bU
 grind
def Ss{d D:Nat}(h:d/2≠D/2/\d/2≠(D/2+1)%n/\(d/2+1)%n≠D/2/\(d/2+1)%n≠(D/2+1)%n):bP n d≠bP n D/\bP n d≠bU n D/\bU n d≠bP n D/\bU n d≠bU n D:=by grind [bP,bU]
def aak{d:Nat}(h:d/2≠(d/2+1)%n):bP n d≠bU n d:=by
 unfold bP bU
 grind
def nP (f:Bool)(s:eN):eN:=if f then s else jE s
theorem Oh(f:Bool)(x:aQ):(iH f x).b=if f then x.i.b else x.o.b:=by cases f<;>rfl
theorem Mh(f:Bool)(x:aQ):(jM f x).b=if f then x.o.b else x.i.b:=by cases f<;>rfl
def Pe{P:aW}{d:Nat}{j:eN}(n:I P=I f)(x:d<2*I f)(H:h (d/2)=nP (cD d) j)(v:h ((d/2+I f-1)%I f)=j8 f ((d/2+I f-1)%I f))(u:h (nx f (d/2))=j8 f (nx f (d/2))):
  iH (cD d) (dq P h (bP (I f) d))=iH (cD d) (e_ f (bP (I f) d))/\jM (cD d) (dq P h (bP (I f) d))=j/\iH (cD d) (dq P h (bU (I f) d))=j/\jM (cD d) (dq P h (bU (I f) d))=jM (cD d) (e_ f (bU (I f) d)):=by
 unfold iH jM dq e_ bP bU;unfold cD at H |-;rw[n];rcases qL d with m|m
 case' _=>simp[m,sv,if_true]at H |-
 rotate_left
 case' _=>simp[m,show _=false from rfl,fE,if_false,N7]at H |-
 all_goals
  rw[w8 J,H,v,u];exact⟨rfl,rfl,rfl,rfl⟩
def aez{P:aW}{i:Nat}(H:I P=I f)(n:i<I f)(hp:P[i]?=(an f)[i]?)(m:h ((i+I f-1)%I f)=j8 f ((i+I f-1)%I f))(j:h i=j8 f i):dq P h i=e_ f i:=by
 have:P.getD i ⟨ij,false⟩=⟨f.getD i ij,c9 f i⟩:=by obtain⟨l,hl⟩:=aP n;rw[dD,hp,fX hl,dD,hl];rfl
 unfold dq e_;rw[H,m,j,this]
def KJ{P:aW}{i j:Nat}(H:j<I f)(hp:P[i]?=(an f)[j]?):(dq P h i).p=(e_ f j).p:=by obtain⟨l,hl⟩:=aP H;show P.getD i _=⟨f.getD j ij,c9 f j⟩;rw[dD,hp,fX hl,dD,hl];rfl
def OM(g:bj F f){a b c:Nat}(ha:a<I f)(hb:b<I f)(hc:c<I f)(Z:sk F f a b c=some L):gO F L:=by
 unfold sk at Z;split at Z
 case isFalse=>cases Z
 rename_i ht;cases Z;unfold JM at ht;simp only[cP,c8]at ht;obtain⟨eS,h6,_,_,_,Ak⟩:=ht;have hn:=gy.2 g.ne;have aX:=bY f;have ok:=g.ok
 have fN:=alE (by rw[h6];rfl);have fN:(([a,nx f a,b,nx f b,c,nx f c]:aG).map λi:Nat=>(i:Int)).Nodup:=fN;have O:a≠nx f a/\a≠b/\a≠nx f b/\a≠c/\a≠nx f c/\nx f a≠b/\nx f a≠nx f b/\nx f a≠c/\nx f a≠nx f c/\b≠nx f b/\b≠c/\b≠nx f c/\nx f b≠c/\nx f b≠nx f c/\c≠nx f c:=by simp only[eZ,m_,rR,c7,eD,or_false,A4,qK,and_true,not_false_eq_true]at fN;omega
 have bD:∀e∈[a,b,c],∃l m,f[e]?=some l/\f[nx f e]?=some m/\l.ak/\m.ak:=λe he=>by
  have X:=j4.1 eS e he;have dR:e<I f:=by simp only[c7,eD,or_false]at he;rcases he with rfl|rfl|rfl<;>assumption
  obtain⟨l,hl⟩:=aP dR;obtain⟨m,hm⟩:=aP (cT _ hn);have e1:=gU (fX hl);have e2:=gU (fX hm);unfold tk at X;rw[e1,e2,cP]at X;exact⟨l,m,hl,hm,X.1,X.2⟩
 obtain⟨w,hw,_,am,hE⟩:=QA g ha Ak;obtain⟨da,vh,rL,vj⟩:=hE a aE;obtain⟨db,wA,sK,vk⟩:=hE b aE;obtain⟨dc,G9,Bo,Bp⟩:=hE c aE;have hN:∀d,d<2*I f->d<aT f:=λd hd=>by unfold aT;omega
 have three:∀d,d∈w->d<2*I f->d=da\/d=db\/d=dc:=λd X h2=>by
  have az:∀d,d∈w->d<2*I f->d∈w.filter λx=>decide (x<2*I f):=λd X h2=>r4.2 ⟨X,by simpa using h2⟩;have R:=az da vh rL;have Q:=az db wA sK;have q3:=az dc G9 Bo;have q4:=az d X h2;generalize w.filter (λx=>decide (x<2*I f))=D at am R Q q3 q4
  match D,am with
  |[x,y,z],_=>simp only[c7,eD,or_false]at R Q q3 q4;have:=O.2.1;have:=O.2.2.2.1;have:=O.2.2.2.2.2.2.2.2.2.2.1;omega
 have JF:∀d,d<2*I f->d/2∈[a,b,c]->∃l,f[bU (I f) d]?=some l/\l.ak:=λd hd he=>by
  obtain⟨l,m,X,h2,h3,h4⟩:=bD _ he;unfold bU;split
  .exact⟨m,h2,h4⟩
  exact⟨l,X,h3⟩
 have step:∀d,d∈w->d<2*I f->d/2∈[a,b,c]->aU f d=da\/aU f d=db\/aU f d=dc:=λd hd hl he=>by obtain⟨l,X,h2⟩:=JF d hl he;exact three _ (uY (mE ok) hw hd) (DX g hl X h2).1
 have bf:∃A E H,A<2*I f/\E<2*I f/\H<2*I f/\aU f A=E/\aU f E=H/\aU f H=A/\((A/2=a/\E/2=b/\H/2=c)\/(A/2=a/\E/2=c/\H/2=b)):=by
  have cq:da≠db:=λe=>O.2.1 (by rw[<-vj,<-vk,e]);have cu:da≠dc:=λe=>O.2.2.2.1 (by rw[<-vj,<-Bp,e]);have cd:db≠dc:=λe=>O.2.2.2.2.2.2.2.2.2.2.1 (by rw[<-vk,<-Bp,e]);rcases akb g hw vh wA G9 cq cu cd (hN _ rL) (hN _ sK) (hN _ Bo) (step da vh rL (by rw[vj];simp)) (step db wA sK (by rw[vk];simp)) (step dc G9 Bo (by rw[Bp];simp))with⟨X,h2,h3⟩|⟨X,h2,h3⟩
  .exact⟨da,db,dc,rL,sK,Bo,X,h2,h3,.inl ⟨vj,vk,Bp⟩⟩
  exact⟨da,dc,db,rL,Bo,sK,X,h2,h3,.inr ⟨vj,Bp,vk⟩⟩
 clear three step hE am vh rL vj wA sK vk G9 Bo Bp hw Ak;clear fN eS h6;obtain⟨A,E,H,l1,l2,l3,s1,s2,y9,iU⟩:=bf
 have b0:a∈[a,b,c]:=aE;have b9:b∈[a,b,c]:=aE;have cf:c∈[a,b,c]:=aE;have Hh:I (ef f (an f) [a,b,c])=I f:=by rw[s6,aX]
 have wZ:∀i,(ef f (an f) [a,b,c])[i]?=if i=nx f c then(an f)[c]? else if i=c then(an f)[nx f c]? else if i=nx f b then(an f)[b]? else if i=b then(an f)[nx f b]? else if i=nx f a then(an f)[a]? else if i=a then(an f)[nx f a]? else(an f)[i]? :=λi=>by
  show(gX f (gX f (gX f (an f) a) b) c)[i]?=_;have e1:I (gX f (an f) a)=I f:=by rw[ub,aX]
  have e2:I (gX f (gX f (an f) a) b)=I f:=by rw[ub,e1]
  simp only[At e2 hc,At e1 hb,At aX ha];obtain⟨x1,x2,x3,x4,x5,x6,x7,x8,x9,KW,N9,Oa,Oc,Od,Sn⟩:=O;simp only[x2.symm,x3.symm,x4.symm,x5.symm,x6.symm,x7.symm,x8.symm,x9.symm,N9.symm,Oa.symm,Oc.symm,Od.symm,if_false]
 have uI:∀p:aN->Bool,(ef f (an f) [a,b,c]).countP p=(an f).countP p:=λp=>by
  show(gX f (gX f (gX f (an f) a) b) c).countP p=_;have e1:I (gX f (an f) a)=I f:=by rw[ub,aX]
  have e2:I (gX f (gX f (an f) a) b)=I f:=by rw[ub,e1]
  rw[Gg e2 hc O.2.2.2.2.2.2.2.2.2.2.2.2.2.2,Gg e1 hb O.2.2.2.2.2.2.2.2.2.1,Gg aX ha O.1]
 generalize ef f (an f) [a,b,c]=P at Hh wZ uI;obtain⟨x1,x2,x3,x4,x5,x6,x7,x8,x9,KW,N9,Oa,Oc,Od,Sn⟩:=O;have pa:P[a]?=(an f)[nx f a]? /\P[nx f a]?=(an f)[a]? :=by
  constructor
  .rw[wZ];simp only[x1,x2,x3,x4,x5,if_false,if_true]
  rw[wZ];simp only[x6,x7,x8,x9,if_false,if_true]
 have pb:P[b]?=(an f)[nx f b]? /\P[nx f b]?=(an f)[b]? :=by
  constructor
  .rw[wZ];simp only[KW,N9,Oa,if_false,if_true]
  rw[wZ];simp only[Oc,Od,if_false,if_true]
 have pc:P[c]?=(an f)[nx f c]? /\P[nx f c]?=(an f)[c]? :=by
  constructor
  .rw[wZ];simp only[Sn,if_false,if_true]
  rw[wZ];simp only[if_true]
 have pn:∀i,i≠a->i≠nx f a->i≠b->i≠nx f b->i≠c->i≠nx f c->P[i]?=(an f)[i]? :=λi X h2 h3 h4 h5 h6=>by rw[wZ];simp only[X,h2,h3,h4,h5,h6,if_false]
 clear wZ
 have l5:∀d,d/2=a\/d/2=b\/d/2=c->P[bP (I f) d]?=(an f)[bU (I f) d]? /\P[bU (I f) d]?=(an f)[bP (I f) d]? :=λd hd=>by
  have:P[d/2]?=(an f)[nx f (d/2)]? /\P[nx f (d/2)]?=(an f)[d/2]? :=by rcases hd with e|e|e<;>rw[e]<;>assumption
  unfold bP bU;rcases qL d with Z|Z
  .simp only[Z,if_true];exact this
  simp only[Z,N7,if_false];exact this.symm
 have m1:A/2=a\/A/2=b\/A/2=c:=by
  rcases iU with⟨Z,_,_⟩|⟨Z,_,_⟩
  .exact .inl Z
  exact .inl Z
 have m2:E/2=a\/E/2=b\/E/2=c:=by
  rcases iU with⟨_,Z,_⟩|⟨_,Z,_⟩
  .exact .inr (.inl Z)
  exact .inr (.inr Z)
 have m3:H/2=a\/H/2=b\/H/2=c:=by
  rcases iU with⟨_,_,Z⟩|⟨_,_,Z⟩
  .exact .inr (.inr Z)
  exact .inr (.inl Z)
 have mm:∀d,d/2=a\/d/2=b\/d/2=c->d/2∈[a,b,c]:=λd Z=>by simpa using Z
 have bC:∀i,i≠bP (I f) A->i≠bU (I f) A->i≠bP (I f) E->i≠bU (I f) E->i≠bP (I f) H->i≠bU (I f) H->P[i]?=(an f)[i]? /\ ∀d,d/2=a\/d/2=b\/d/2=c->i≠d/2/\i≠nx f (d/2):=λi a1 a2 a3 a4 a5 a6=>by
  obtain⟨b1,b2⟩:=ace.1 ⟨a1,a2⟩;obtain⟨b3,b4⟩:=ace.1 ⟨a3,a4⟩;obtain⟨b5,b6⟩:=ace.1 ⟨a5,a6⟩;have cs:(i≠a/\i≠nx f a)/\(i≠b/\i≠nx f b)/\(i≠c/\i≠nx f c):=by
   rcases iU with⟨X,h2,h3⟩|⟨X,h2,h3⟩
   .rw[X]at b1 b2;rw[h2]at b3 b4;rw[h3]at b5 b6;exact⟨⟨b1,b2⟩,⟨b3,b4⟩,b5,b6⟩
   rw[X]at b1 b2;rw[h2]at b3 b4;rw[h3]at b5 b6;exact⟨⟨b1,b2⟩,⟨b5,b6⟩,b3,b4⟩
  obtain⟨⟨c1,c2⟩,⟨c3,c4⟩,c5,c6⟩:=cs;refine⟨pn i c1 c2 c3 c4 c5 c6,λd hd=>?_⟩;rcases hd with e|e|e<;>rw[e]
  .exact⟨c1,c2⟩
  .exact⟨c3,c4⟩
  exact⟨c5,c6⟩
 have t1:=Iq g l1;have t2:=Iq g l2;have t3:=Iq g l3;have X:=yH g l1;have h2:=yH g l2;have h3:=yH g l3
 have qf:(A/2≠E/2/\A/2≠nx f (E/2)/\nx f (A/2)≠E/2/\nx f (A/2)≠nx f (E/2))/\(A/2≠H/2/\A/2≠nx f (H/2)/\nx f (A/2)≠H/2/\nx f (A/2)≠nx f (H/2))/\(E/2≠H/2/\E/2≠nx f (H/2)/\nx f (E/2)≠H/2/\nx f (E/2)≠nx f (H/2))/\A/2≠nx f (A/2)/\E/2≠nx f (E/2)/\H/2≠nx f (H/2):=by
  rcases iU with⟨X,h2,h3⟩|⟨X,h2,h3⟩<;>rw[X,h2,h3]
  .exact⟨⟨x2,x3,x6,x7⟩,⟨x4,x5,x8,x9⟩,⟨N9,Oa,Oc,Od⟩,x1,KW,Sn⟩
  exact⟨⟨x4,x5,x8,x9⟩,⟨x2,x3,x6,x7⟩,⟨N9.symm,Oc.symm,Oa.symm,Od.symm⟩,x1,Sn,KW⟩
 obtain⟨y1,y2,y3,y4,y5,y6⟩:=qf;have bl:=Ss y1;have bv:=Ss y2;have bz:=Ss y3;have g1:=aak y4;have g2:=aak y5;have g3:=aak y6
 obtain⟨u1,CI,LS⟩:=JF A l1 (mm A m1);obtain⟨u2,Gc,LU⟩:=JF E l2 (mm E m2);obtain⟨u3,Kd,LV⟩:=JF H l3 (mm H m3);obtain⟨_,o1,R,k1⟩:=DX g l1 CI LS;obtain⟨_,o2,Q,k2⟩:=DX g l2 Gc LU;obtain⟨_,o3,q3,k3⟩:=DX g l3 Kd LV;rw[s1]at o1 R k1;rw[s2]at o2 Q k2;rw[y9]at o3 q3 k3;clear s1 s2 y9 iU pn pa pb pc x1 x2 x3 x4 x5 x6 x7 x8 x9 KW N9 Oa Oc Od Sn bD JF mm b0 b9 cf;have bA:=K_ l1;have bK:=K_ l2;have bE:=K_ l3;have ny:=KD l1;have bx:=KD l2;have bL:=KD l3;rw[ny,bK]at k1;rw[bx,bE]at k2;rw[bL,bA]at k3;obtain⟨a1,b1,c1,e1⟩:=k1;obtain⟨a2,b2,c2,e2⟩:=k2;obtain⟨a3,b3,c3,e3⟩:=k3;simp only[if_true]at a1 b1 c1 e1 a2 b2 c2 e2 a3 b3 c3 e3
 let ap:=(xy f A).l
 let K1:eN:=⟨(iH (cD H) (e_ f (bP (I f) H))).r,ap,(iH (cD A) (e_ f (bP (I f) A))).b⟩
 let K2:eN:=⟨(iH (cD A) (e_ f (bP (I f) A))).r,ap,(iH (cD E) (e_ f (bP (I f) E))).b⟩
 let K3:eN:=⟨(iH (cD E) (e_ f (bP (I f) E))).r,ap,(iH (cD H) (e_ f (bP (I f) H))).b⟩
 let h:Nat->eN:=λj=>if j=A/2 then nP (cD A) K1 else if j=E/2 then nP (cD E) K2 else if j=H/2 then nP (cD H) K3 else j8 f j
 have ce:h (A/2)=nP (cD A) K1:=aD rfl;have ck:h (E/2)=nP (cD E) K2:=by show(if _ then _ else _)=_;rw[aC (Ne.symm y1.1),aD rfl]
 have bX:h (H/2)=nP (cD H) K3:=by show(if _ then _ else _)=_;rw[aC (Ne.symm y2.1),aC (Ne.symm y3.1),aD rfl]
 have ag:∀j,j≠A/2->j≠E/2->j≠H/2->h j=j8 f j:=λj X h2 h3=>by show(if _ then _ else _)=_;rw[aC X,aC h2,aC h3]
 have ac:∀i,i<I f->i≠nx f (A/2)->i≠nx f (E/2)->i≠nx f (H/2)->h ((i+I f-1)%I f)=j8 f ((i+I f-1)%I f):=λi N n1 n2 n3=>ag _ (λZ=>n1 (C9 N Z)) (λZ=>n2 (C9 N Z)) (λZ=>n3 (C9 N Z))
 obtain⟨z1,z2,z3,z4⟩:=y1;obtain⟨z5,z6,z7,z8⟩:=y2;obtain⟨z9,br,bO,cy⟩:=y3;have G1:=Pe Hh l1 ce (ac _ J y4 z2 z6) (ag _ y4.symm z3 z7);have G2:=Pe Hh l2 ck (ac _ J z3.symm y5 br) (ag _ z2.symm y5.symm bO);have G3:=Pe Hh l3 bX (ac _ J z7.symm bO.symm y6) (ag _ z6.symm br.symm y6.symm);have p1:=l5 A m1;have p2:=l5 E m2;have p3:=l5 H m3;have bb:=KJ (h:=h) X p1.1;have bm:=KJ (h:=h) t1 p1.2;have bp:=KJ (h:=h) h2 p2.1;have bi:=KJ (h:=h) t2 p2.2;have bk:=KJ (h:=h) h3 p3.1;have aM:=KJ (h:=h) t3 p3.2
 have un:∀i,i<I f->i≠bP (I f) A->i≠bU (I f) A->i≠bP (I f) E->i≠bU (I f) E->i≠bP (I f) H->i≠bU (I f) H->dq P h i=e_ f i:=λi N n1 n2 n3 n4 n5 n6=>by obtain⟨R,Q⟩:=bC i n1 n2 n3 n4 n5 n6;exact aez Hh N R (ac i N (Q A m1).2 (Q E m2).2 (Q H m3).2) (ag i (Q A m1).1 (Q E m2).1 (Q H m3).1)
 clear bC l5 ac
 have BN:=qN ok.cr CI LS;have qW:=qN ok.cr Gc LU;have bs:=qN ok.cr Kd LV;rw[<-o1]at BN;rw[<-o2]at qW;rw[<-o3]at bs;obtain⟨r1,v2,rZ,ar,bW,_,_⟩:=BN;obtain⟨r2,v3,QH,aw,b7,_,_⟩:=qW;obtain⟨r3,kU,BM,av,co,_,_⟩:=bs
 have ab:∀(x y:aQ) (d d' hh tt:Nat) (u v:U),f[hh]?=some u->f[tt]?=some v->u.ak->v.ak->v.id=u.id->hh≠tt->x.p=(e_ f hh).p->y.p=(e_ f tt).p->cM u=(cD d==cD d')->sD true (iH (cD d) x) (jM (cD d) x) (iH (cD d') y) (jM (cD d') y)->zW x y:=by intro x y d d' hh tt u v ha hb ca cb ei aO hx hy hg h4;have Kg:x.k=(e_ f hh).k:=congrArg aN.l hx;have bu:y.k=(e_ f tt).k:=congrArg aN.l hy;have bw:=Ps g (bt.1 ha).1 (bt.1 hb).1 aO (by rw[fU ha];exact ca) (by rw[fU hb];exact cb) (by rw[fU ha,fU hb];exact ei.symm);refine⟨by rw[Kg,bu];exact bw.ov,by rw[Kg,bu];exact bw.sg,?_⟩;rw[Kg,fU ha,hg];exact ZR.1 h4
 have C1:zW (dq P h (bP (I f) A)) (dq P h (bU (I f) E)):=by
  refine ab _ _ A E _ _ u1 v2 CI rZ LS ar bW bl.2.2.1 bb bi R ?_;rw[G1.1,G1.2.1,G2.2.2.1,G2.2.2.2];constructor<;>simp only[if_true]
  .exact c3.trans e2
  .rfl
  .rfl
  exact b2
 have C2:zW (dq P h (bP (I f) E)) (dq P h (bU (I f) H)):=by
  refine ab _ _ E H _ _ u2 v3 Gc QH LU aw b7 bz.2.2.1 bp aM Q ?_;rw[G2.1,G2.2.1,G3.2.2.1,G3.2.2.2];constructor<;>simp only[if_true]
  .exact c1.trans e3
  .rfl
  .rfl
  exact b3
 have u0:zW (dq P h (bP (I f) H)) (dq P h (bU (I f) A)):=by
  refine ab _ _ H A _ _ u3 kU Kd BM LV av co bv.2.1.symm bk bm q3 ?_;rw[G3.1,G3.2.1,G1.2.2.1,G1.2.2.2];constructor<;>simp only[if_true]
  .exact c2.trans e1
  .rfl
  .rfl
  exact b1
 have O:∀i,i<I f->(i=bP (I f) A\/i=bU (I f) A\/i=bP (I f) E\/i=bU (I f) E\/i=bP (I f) H\/i=bU (I f) H)\/(dq P h i=e_ f i/\i≠bP (I f) A/\i≠bU (I f) A/\i≠bP (I f) E/\i≠bU (I f) E/\i≠bP (I f) H/\i≠bU (I f) H):=λi N=>by
  rcases Classical.em (i=bP (I f) A\/i=bU (I f) A\/i=bP (I f) E\/i=bU (I f) E\/i=bP (I f) H\/i=bU (I f) H)with Z|Z
  .exact .inl Z
  simp only[A4]at Z;exact .inr ⟨un i N Z.1 Z.2.1 Z.2.2.1 Z.2.2.2.1 Z.2.2.2.2.1 Z.2.2.2.2.2,Z⟩
 have aj:∀i,i<I f->∃j l,j<I f/\f[j]?=some l/\(dq P h i).k=l/\(dq P h i).p=(e_ f j).p:=λi N=>by
  have mk:∀j l,f[j]?=some l->(dq P h i).p=(e_ f j).p->∃j l,j<I f/\f[j]?=some l/\(dq P h i).k=l/\(dq P h i).p=(e_ f j).p:=λj l hl hp=>⟨j,l,(bt.1 hl).1,hl,(congrArg aN.l hp).trans (fU hl),hp⟩;rcases O i N with(rfl|rfl|rfl|rfl|rfl|rfl)|⟨e,_⟩
  .exact mk _ _ CI bb
  .exact mk _ _ BM bm
  .exact mk _ _ Gc bp
  .exact mk _ _ rZ bi
  .exact mk _ _ Kd bk
  .exact mk _ _ QH aM
  obtain⟨l,hl⟩:=aP N;exact mk i l hl (by rw[e])
 have a9:(dq P h (bP (I f) A)).k=u1:=(congrArg aN.l bb).trans (fU CI);have bg:(dq P h (bP (I f) E)).k=u2:=(congrArg aN.l bp).trans (fU Gc);have be:(dq P h (bP (I f) H)).k=u3:=(congrArg aN.l bk).trans (fU Kd);have bc:(dq P h (bU (I f) A)).k=kU:=(congrArg aN.l bm).trans (fU BM);have bn:(dq P h (bU (I f) E)).k=v2:=(congrArg aN.l bi).trans (fU rZ);have a0:(dq P h (bU (I f) H)).k=v3:=(congrArg aN.l aM).trans (fU QH);have aH:∀(bq:Bool) (x:aQ),(iH bq x).b=(jM bq x).b->x.i.b=x.o.b:=λbq x Z=>by
  rw[Oh,Mh]at Z;cases bq
  .exact Z.symm
  exact Z
 have bM:∀(bq:Bool) (x:aQ),x.i.b=x.o.b->(iH bq x).b=(jM bq x).b:=λbq x Z=>by
  rw[Oh,Mh];cases bq
  .exact Z.symm
  exact Z
 have aF:∀j l,f[j]?=some l->l.ak->(e_ f j).i.b=(e_ f j).o.b:=λj l hl hc=>(EF g (bt.1 hl).1).cb (by rw[fU hl];exact hc);have bT:∀d (ba:eN),iH (cD d) (dq P h (bP (I f) d))=iH (cD d) (e_ f (bP (I f) d))->jM (cD d) (dq P h (bP (I f) d))=ba->ba.b=(iH (cD d) (e_ f (bP (I f) d))).b->(dq P h (bP (I f) d)).i.b=(dq P h (bP (I f) d)).o.b:=λd ba R Q q3=>aH (cD d) _ (by rw[R,Q,q3])
 have bH:∀d (ba:eN) (l m:U),f[bP (I f) d]?=some l->l.ak->f[bU (I f) d]?=some m->m.ak->jM (cD d) (e_ f (bP (I f) d))=xy f d->iH (cD d) (e_ f (bU (I f) d))=xy f d->iH (cD d) (dq P h (bU (I f) d))=ba->jM (cD d) (dq P h (bU (I f) d))=jM (cD d) (e_ f (bU (I f) d))->ba.b=(iH (cD d) (e_ f (bP (I f) d))).b->(dq P h (bU (I f) d)).i.b=(dq P h (bU (I f) d)).o.b:=λd ba l m hl cl hm cm M n R Q q3=>by refine aH (cD d) _ ?_;rw[R,Q,q3,bM (cD d) _ (aF _ _ hl cl),M,<-n];exact bM (cD d) _ (aF _ _ hm cm)
 have bad:∀i,i<I f->eo F (dq P h i).k=false:=λi N=>by obtain⟨j,l,hj,hl,hk,_⟩:=aj i N;rw[hk];exact g.bad l (a7 hl)
 have xG:∀i,i<I f->(dq P h i).k.ak->(dq P h i).i.b=(dq P h i).o.b->yW F (dq P h i):=λi N hc hb=>⟨bad i N,λ_=>hb,λhp=>by rw[kJ hc]at hp;cases hp⟩;have Y:∀i,i<I f->(dq P h i).k.ay->dq P h i=e_ f i:=λi N hp=>by
  rcases O i N with(rfl|rfl|rfl|rfl|rfl|rfl)|⟨e,_⟩
  .rw[a9,kJ LS]at hp;cases hp
  .rw[bc,kJ av]at hp;cases hp
  .rw[bg,kJ LU]at hp;cases hp
  .rw[bn,kJ ar]at hp;cases hp
  .rw[be,kJ LV]at hp;cases hp
  .rw[a0,kJ aw]at hp;cases hp
  exact e
 have cz:=g.cz;have OZ:∀p:U->Bool,aq p (P.map aN.l)=aq p f:=λp=>by rw[<-Dl (f:=f) p];show List.countP _ _=List.countP _ _;rw[qg,qg];exact uI _
 have ad:∀(bq:Bool) i,i<I f->∀t,t=(iH bq (dq P h i)).l\/t=(iH bq (dq P h i)).r->∃j',j'<I f/\(t=(h j').l\/t=(h j').r):=λbq i N t ht=>by
  cases bq
  .refine⟨i,N,?_⟩;rcases ht with ht|ht
   .exact .inr ht
   exact .inl ht
  refine⟨(i+I P-1)%I P,?_,ht⟩;rw[Hh];exact cT _ hn
 refine ako g (u:=ap) (h:=h) (T:=fp f) (B:=fm f) Hh (OZ _) (OZ _) (λk=>OZ _) (λi N=>?_) (λi j N hj iT ci cj e=>?_) (λi j N hj iT pi pj e1 e2=>?_) (λi N ci=>?_) (λi N pi=>?_) (λi N pi=>?_) (λk hk=>?_) ?_ (λj hj t ht=>?_)
 .rcases O i N with(rfl|rfl|rfl|rfl|rfl|rfl)|⟨e,_⟩
  .exact xG _ N (by rw[a9];exact LS) (bT A K1 G1.1 G1.2.1 rfl)
  .exact xG _ N (by rw[bc];exact av) (bH A K1 _ _ BM av CI LS bA ny G1.2.2.1 G1.2.2.2 rfl)
  .exact xG _ N (by rw[bg];exact LU) (bT E K2 G2.1 G2.2.1 rfl)
  .exact xG _ N (by rw[bn];exact ar) (bH E K2 _ _ rZ ar Gc LU bK bx G2.2.2.1 G2.2.2.2 rfl)
  .exact xG _ N (by rw[be];exact LV) (bT H K3 G3.1 G3.2.1 rfl)
  .exact xG _ N (by rw[a0];exact aw) (bH H K3 _ _ QH aw Kd LV bE bL G3.2.2.1 G3.2.2.2 rfl)
  rw[e];exact EF g N
 ·
  have nn:∀i,i<I f->∃s,s<I f/\(∃l,f[s]?=some l/\(dq P h i).k=l)/\((i=bP (I f) A/\s=bU (I f) A)\/(i=bU (I f) A/\s=bP (I f) A)\/(i=bP (I f) E/\s=bU (I f) E)\/(i=bU (I f) E/\s=bP (I f) E)\/(i=bP (I f) H/\s=bU (I f) H)\/(i=bU (I f) H/\s=bP (I f) H)\/(dq P h i=e_ f i/\s=i/\i≠bP (I f) A/\i≠bU (I f) A/\i≠bP (I f) E/\i≠bU (I f) E/\i≠bP (I f) H/\i≠bU (I f) H)):=λi N=>by
   rcases O i N with(rfl|rfl|rfl|rfl|rfl|rfl)|⟨e,aO⟩
   .exact⟨_,X,⟨_,CI,a9⟩,.inl ⟨rfl,rfl⟩⟩
   .exact⟨_,t1,⟨_,BM,bc⟩,.inr (.inl ⟨rfl,rfl⟩)⟩
   .exact⟨_,h2,⟨_,Gc,bg⟩,.inr (.inr (.inl ⟨rfl,rfl⟩))⟩
   .exact⟨_,t2,⟨_,rZ,bn⟩,.inr (.inr (.inr (.inl ⟨rfl,rfl⟩)))⟩
   .exact⟨_,h3,⟨_,Kd,be⟩,.inr (.inr (.inr (.inr (.inl ⟨rfl,rfl⟩))))⟩
   .exact⟨_,t3,⟨_,QH,a0⟩,.inr (.inr (.inr (.inr (.inr (.inl ⟨rfl,rfl⟩)))))⟩
   obtain⟨l,hl⟩:=aP N;exact⟨i,N,⟨l,hl,by rw[e];exact fU hl⟩,.inr (.inr (.inr (.inr (.inr (.inr ⟨e,rfl,aO⟩)))))⟩
  obtain⟨si,cw,⟨li,yj,cc⟩,bI⟩:=nn i N;obtain⟨sj,ML,⟨lj,rW,bV⟩,GW⟩:=nn j hj;rw[cc]at ci e;rw[bV]at cj e;obtain⟨f1,f2,f3,f4⟩:=bl;obtain⟨f5,f6,f7,f8⟩:=bv;obtain⟨f9,cx,cA,bl⟩:=bz;have aO:si≠sj:=by
   clear e2 e3 e1 ad Y xG bad bH bT aj un O;rcases bI with⟨R,Q⟩|⟨R,Q⟩|⟨R,Q⟩|⟨R,Q⟩|⟨R,Q⟩|⟨R,Q⟩|⟨_,Q,n1,n2,n3,n4,n5,n6⟩<;>rcases GW with⟨M,n⟩|⟨M,n⟩|⟨M,n⟩|⟨M,n⟩|⟨M,n⟩|⟨M,n⟩|⟨_,n,m1,m2,m3,m4,m5,m6⟩<;>rw[Q,n]<;>first
    |(rw[R,M]at iT;exact absurd rfl iT)
    |assumption
    |exact Ne.symm (by assumption)
    |exact iT
  have ho:=uL g yj rW ci cj e aO;rcases bI with⟨R,Q⟩|⟨R,Q⟩|⟨R,Q⟩|⟨R,Q⟩|⟨R,Q⟩|⟨R,Q⟩|⟨eu,Q,n1,n2,n3,n4,n5,n6⟩
  .rw[Q,<-o1]at ho;rcases GW with⟨M,n⟩|⟨M,n⟩|⟨M,n⟩|⟨M,n⟩|⟨M,n⟩|⟨M,n⟩|⟨_,n,m1,m2,m3,m4,m5,m6⟩<;>rw[n]at ho<;>first
    |(rw[R,M];exact C1)
    |exact absurd ho (by assumption)
    |exact absurd ho (Ne.symm (by assumption))
  .rw[Q,r3]at ho;rcases GW with⟨M,n⟩|⟨M,n⟩|⟨M,n⟩|⟨M,n⟩|⟨M,n⟩|⟨M,n⟩|⟨_,n,m1,m2,m3,m4,m5,m6⟩<;>rw[n]at ho<;>first
    |(rw[R,M];exact u0.symm)
    |exact absurd ho (by assumption)
    |exact absurd ho (Ne.symm (by assumption))
  .rw[Q,<-o2]at ho;rcases GW with⟨M,n⟩|⟨M,n⟩|⟨M,n⟩|⟨M,n⟩|⟨M,n⟩|⟨M,n⟩|⟨_,n,m1,m2,m3,m4,m5,m6⟩<;>rw[n]at ho<;>first
    |(rw[R,M];exact C2)
    |exact absurd ho (by assumption)
    |exact absurd ho (Ne.symm (by assumption))
  .rw[Q,r1]at ho;rcases GW with⟨M,n⟩|⟨M,n⟩|⟨M,n⟩|⟨M,n⟩|⟨M,n⟩|⟨M,n⟩|⟨_,n,m1,m2,m3,m4,m5,m6⟩<;>rw[n]at ho<;>first
    |(rw[R,M];exact C1.symm)
    |exact absurd ho (by assumption)
    |exact absurd ho (Ne.symm (by assumption))
  .rw[Q,<-o3]at ho;rcases GW with⟨M,n⟩|⟨M,n⟩|⟨M,n⟩|⟨M,n⟩|⟨M,n⟩|⟨M,n⟩|⟨_,n,m1,m2,m3,m4,m5,m6⟩<;>rw[n]at ho<;>first
    |(rw[R,M];exact u0)
    |exact absurd ho (by assumption)
    |exact absurd ho (Ne.symm (by assumption))
  .rw[Q,r2]at ho;rcases GW with⟨M,n⟩|⟨M,n⟩|⟨M,n⟩|⟨M,n⟩|⟨M,n⟩|⟨M,n⟩|⟨_,n,m1,m2,m3,m4,m5,m6⟩<;>rw[n]at ho<;>first
    |(rw[R,M];exact C2.symm)
    |exact absurd ho (by assumption)
    |exact absurd ho (Ne.symm (by assumption))
  have hb:=(qN ok.cr yj ci).1;rw[ho,Q]at hb;rcases GW with⟨M,n⟩|⟨M,n⟩|⟨M,n⟩|⟨M,n⟩|⟨M,n⟩|⟨M,n⟩|⟨cp,n,_⟩
  .rw[n,<-o1]at hb;exact absurd hb.symm n3
  .rw[n,r3]at hb;exact absurd hb.symm n6
  .rw[n,<-o2]at hb;exact absurd hb.symm n5
  .rw[n,r1]at hb;exact absurd hb.symm n2
  .rw[n,<-o3]at hb;exact absurd hb.symm n1
  .rw[n,r2]at hb;exact absurd hb.symm n4
  rw[Q]at yj;rw[n]at rW;rw[eu,cp];exact Ps g N hj iT (by rw[fU yj];exact ci) (by rw[fU rW];exact cj) (by rw[fU yj,fU rW];exact e)
 .have ee:=Y i N pi;have cv:=Y j hj pj;rw[ee]at pi e1 e2;rw[cv]at pj e1 e2;exact(cz.KB (y_ N) (y_ hj) iT).2 pi pj e1 e2
 .obtain⟨j,l,hj,hl,hk,_⟩:=aj i N;rw[hk]at ci |-;exact g.ids.1 l (a7 hl) ci
 .have ee:=Y i N pi;rw[ee]at pi |-;have:=cz.rr _ (a7 (y_ N)) pi;rwa[iX]at this
 .have ee:=Y i N pi;rw[ee]at pi |-;exact cz.pl _ (a7 (y_ N)) pi
 .have:=cz.gt k hk;rwa[iX]at this
 .have:=cz.gz;rwa[iX]at this
 have ao:∀d,j=d/2->t=(xy f d).l\/t=(xy f d).r:=λd hd=>by
  rw[hd]at ht;unfold xy;split
  .exact ht
  exact ht.symm
 by_cases n1:j=A/2
 .rcases ao A n1 with Z|Z
  .exact .inl Z
  exact .inr (ad (cD E) _ t2 t (.inl (by rw[G2.1,Z];exact c1.symm)))
 by_cases n2:j=E/2
 .rcases ao E n2 with Z|Z
  .exact .inl (Z.trans a1.symm)
  exact .inr (ad (cD H) _ t3 t (.inl (by rw[G3.1,Z];exact c2.symm)))
 by_cases n3:j=H/2
 .rcases ao H n3 with Z|Z
  .exact .inl (Z.trans (a2.symm.trans a1.symm))
  exact .inr (ad (cD A) _ t1 t (.inl (by rw[G1.1,Z];exact c3.symm)))
 exact .inr ⟨j,hj,by rw[ag j n1 n2 n3];exact ht⟩
end
def Cg(f:Bool)(x:aQ):x.up=if f==x.p.d then iH f x else jE (jM f x):=by unfold aQ.up iH jM;cases f<;>cases x.p.d<;>rfl
def Cc(f:Bool)(x:aQ):x.lo=if f==x.p.d then jM f x else jE (iH f x):=by unfold aQ.lo iH jM;cases f<;>cases x.p.d<;>rfl
section
variable {F:Nat} {f:af}
def adY:∀(w:aG) (h:dL),I h.places<=(w.foldl (dL.add F f) h).places.length/\ ∀x∈w,2*I f<=x->I (mL F f ((x-2*I f)/2))<=(w.foldl (dL.add F f) h).places.length:=by
 intro w
 induction w with
 |nil=>intro h;exact⟨cJ _,λx v=>nomatch v⟩
 |cons x w m=>
  intro h;obtain⟨j,n⟩:=m _;have u:I h.places<=(dL.add F f h x).places.length:=by
   unfold dL.add;split
   .exact cJ _
   grind
  refine⟨oO u j,λy H hl=>?_⟩;rcases c7.1 H with rfl|H
  .refine oO ?_ j
   grind [dL.add]
  exact n y H hl
def af0(ok:gN F f){k u:Nat}(A:k+1<I (aA f))(H:(aA f).getD k 0=u)(x:(aA f).getD (k+1) 0=v){l m:U}(hl:f[u]?=some l)(j:f[v]?=some m)
  (pl:l.ay) (y:m.ay) (z:m.gate<=l.gate):l.gate=m.gate/\m.au=l.au+1:=by
 obtain⟨u',M⟩:=aP (h:=aA f) (k:=k) J;obtain⟨N,h⟩:=aP A;rw[dD,M,nM]at H;rw[dD,h,nM]at x;subst H x;obtain⟨l',E,_,D⟩:=v7 ok.ax M;obtain⟨X,n,_,B⟩:=v7 ok.ax h;rw[hl]at E;cases E;rw[j]at n;cases n;obtain⟨Y,Z,l3,L⟩:=ok.ax.fA l (a7 hl) pl;obtain⟨T,O,Q,m4⟩:=ok.ax.fA m (a7 j) y;unfold dQ at D B;rcases Int.lt_or_eq_of_le z with c|c
 .exfalso;have R:=yR (h:=f) (show m.gate.toNat+1<=l.gate.toNat by omega);have ae:=pX f m.gate.toNat;omega
 grind
def Q8(g:bj F f){w:aG}(E:w∈gW (aU f) (aT f))(M:(kY F f w).places.length=1){x:Nat}(O:x∈w){A:Bool}(Q:x=g_ (I f) v A){l:U}(hl:f[v]?=some l)(pl:l.ay):
  ∃u m y,y∈w/\f[u]?=some m/\m.ay/\l.gate=m.gate/\((dn f v=A/\m.au=l.au+1/\y=dS (I f) u (!dn f u))\/(dn f v=(!A)/\l.au=m.au+1/\y=dS (I f) u (dn f u))):=by
 have ok:=g.ok;have mp:=mE ok;obtain⟨i1,i2⟩:=Iu ok hl pl;have j:=uY mp E O;rw[Q,Cn hl pl]at j;by_cases B:(dn f v==A)
 .rw[aD B]at j;have T:I (mL F f ((aA f).idxOf v))<=1:=by
   rw[<-M];unfold kY;have:=(adY (F:=F) (f:=f) w (dL.new f (w.headD 0))).2 _ j J;rwa[show(2*I f+2*(aA f).idxOf v-2*I f)/2=(aA f).idxOf v by omega]at this
  have h:(aA f).idxOf v+1<I (aA f):=by
   unfold mL at T;simp only at T;split at T
   .assumption
   rw[gb,Bh,Bh]at T;omega
  obtain⟨m,H,n⟩:=AI h;have D:m.gate<=l.gate:=by unfold mL at T;simp only at T;rw[aD h,Bh,i2,eJ h,vU hl,vU H]at T;have:=(ok.ax.fA l (a7 hl) pl).g0;have:=(ok.ax.fA m (a7 H) n).g0;omega
  obtain⟨r1,R⟩:=af0 ok h i2 rfl hl H pl n D;have L:=uY mp E j;rw[AN,eJ h]at L;exact⟨_,m,_,L,H,n,r1,.inl ⟨eq_of_beq B,R,rfl⟩⟩
 rw[aC B]at j;have N:=cT ((aA f).idxOf v+I (aA f)-1) (show 0<I (aA f) by omega);have z:=wx i1;generalize((aA f).idxOf v+I (aA f)-1)%I (aA f)=k at j N z;have T:I (mL F f k)<=1:=by rw[<-M];unfold kY;have:=(adY (F:=F) (f:=f) w (dL.new f (w.headD 0))).2 _ j J;rwa[show(2*I f+2*k+1-2*I f)/2=k by omega]at this
 have h:k+1<I (aA f):=by
  unfold mL at T;simp only at T;split at T
  .assumption
  rw[gb,Bh,Bh]at T;omega
 rw[eJ h]at z;obtain⟨m,H,n⟩:=AI N;have D:l.gate<=m.gate:=by unfold mL at T;simp only at T;rw[aD h,Bh,eJ h,z,i2,vU hl,vU H]at T;have:=(ok.ax.fA l (a7 hl) pl).g0;have:=(ok.ax.fA m (a7 H) n).g0;omega
 obtain⟨r1,R⟩:=af0 ok h rfl (by rw[z];exact i2) H hl n pl D
 grind [uY,A_,dn]
def pI{l:aW}{i:Nat}{r:Int}{p:aN}(h:l[i]?=some p)(j:Nat):(dY l i r)[j]?=if j=i then some ⟨{p.l with au:=r},p.d⟩else l[j]? :=by
 unfold dY
 grind
def O5{q:aN->Bool}{l:aW}{i:Nat}{r:Int}{p:aN}(h:l[i]?=some p)(H:∀p:aN,q ⟨{p.l with au:=r},p.d⟩=q p):(dY l i r).countP q=l.countP q:=by
 unfold dY
 grind
def abq(g:bj F f){a b:Nat}(ha:a<I f)(hb:b<I f)(dp:a≠b){n i_ A pb:Nat}{la Y ma mb:U}
  (ea:(A=a/\n=nx f a)\/(A=nx f a/\n=a)) (eb:(pb=b/\i_=nx f b)\/(pb=nx f b/\i_=b)) (vC:f[n]?=some la) (wV:f[i_]?=some Y) (uM:f[A]?=some ma) (rX:f[pb]?=some mb)
  (ca:la.ak) (cb:Y.ak) (qa:ma.ay) (qb:mb.ay) (z:la.id=Y.id) (hv:n≠i_) (Ak:oF F f 1 [a,b] a):
  ∃w,w∈gW (aU f) (aT f)/\(kY F f w).places.length=1/\ ∃d,d∈w/\d<2*I f/\aU f d∈w/\aU f d<2*I f/\(∀y,y∈w->y<2*I f->y=d\/y=aU f d)/\
   ((d/2=a/\aU f d/2=b/\bP (I f) d=A/\bU (I f) d=n/\bP (I f) (aU f d)=i_/\bU (I f) (aU f d)=pb)\/(d/2=b/\aU f d/2=a/\bP (I f) d=pb/\bU (I f) d=i_/\bP (I f) (aU f d)=n/\bU (I f) (aU f d)=A)):=by
 obtain⟨w,hw,mA,T,hE⟩:=QA g ha Ak;obtain⟨da,vh,R,vj⟩:=hE a aE;obtain⟨B,wA,Q,vk⟩:=hE b aE;have M:∀d,d∈w->d<2*I f->d∈w.filter λx=>decide (x<2*I f):=λd j H=>r4.2 ⟨j,by simpa using H⟩;have two:=λd j H=>ajk T (M da vh R) (M B wA Q) J (M d j H);have ends:∀d e p v:Nat,d/2=e->((p=e/\v=nx f e)\/(p=nx f e/\v=e))->(bP (I f) d=p/\bU (I f) d=v)\/(bP (I f) d=v/\bU (I f) d=p):=λd e p v j H=>by
  unfold bP bU;rw[j];show((if _ then e else nx f e)=p/\(if _ then nx f e else e)=v)\/((if _ then e else nx f e)=v/\(if _ then nx f e else e)=p);rcases H with⟨rfl,rfl⟩|⟨rfl,rfl⟩<;>split
  .exact .inl ⟨rfl,rfl⟩
  .exact .inr ⟨rfl,rfl⟩
  .exact .inr ⟨rfl,rfl⟩
  exact .inl ⟨rfl,rfl⟩
 have pc:∀ {x y:Nat}{l m:U},f[x]?=some l->f[y]?=some m->l.ak->m.ay->x≠y:=λj H h3 h4 e=>by subst e;rw[j]at H;have:=kA H;rw[this,nL h4]at h3;cases h3
 have go:∀(d D p v p' O:Nat) (l m l' m':U),d∈w->d<2*I f->D<2*I f->bP (I f) d=p->bU (I f) d=v->f[v]?=some l->f[p]?=some m->f[O]?=some l'->f[p']?=some m'->l.ak->m.ay->l'.ak->m'.ay->l.id=l'.id->v≠O->(∀y,y∈w->y<2*I f->y=d\/y=D)->((bP (I f) D=p'/\bU (I f) D=O)\/(bP (I f) D=O/\bU (I f) D=p'))->aU f d=D/\bP (I f) D=O/\bU (I f) D=p':=by
  intro d D p v p' O l m l' m' d1 d2 ag hT hH hl hm jW mW cl pm L ac z hv tw en;obtain⟨s1,s2,_⟩:=DX g d2 (by rw[hH];exact hl) cl;rw[hH,uL g hl jW cl L z hv]at s2;rcases tw _ (uY (mE (g.ok)) hw d1) s1 with e|e
  .exfalso;rw[e,hT]at s2;exact pc jW hm L pm s2.symm
  rw[e]at s2;rcases en with⟨E,_⟩|⟨E,X⟩
  .exact absurd (s2.symm.trans E) (pc jW mW L ac)
  exact⟨e,E,X⟩
 have nb:=ends B b pb i_ vk eb;rcases(ends da a A n vj ea)with⟨t1,Z⟩|⟨t1,Z⟩
 .obtain⟨E,X,e3⟩:=go da B A n pb i_ la ma Y mb vh R Q t1 Z vC uM wV rX ca qa cb qb z hv two nb;refine⟨w,hw,mA,da,vh,R,by rw[E];exact wA,by rw[E];exact Q,by rw[E];exact two,.inl ⟨vj,by rw[E];exact vk,t1,Z,by rw[E];exact X,by rw[E];exact e3⟩⟩
 ·
  obtain⟨u,m,y,y1,y2,y3,_,y4⟩:=Q8 g hw mA vh (by rw[<-Z];exact Dg R) uM qa;have hu:=(bt.1 y2).1;have yT:bP (I f) y=u/\y<2*I f:=by
   have ab:∀ad,bP (I f) (dS (I f) u ad)=u/\dS (I f) u ad<2*I f:=λad=>⟨(HZ hu).1,by
    have:=wJ hu (!ad);rw[<-uZ]at this;have:=uB this;rwa[uQ]at this⟩
   rcases y4 with⟨_,_,e⟩|⟨_,_,e⟩<;>rw[e]<;>exact ab _
  have yb:y=B:=by grind
  have N:bP (I f) B=pb/\bU (I f) B=i_:=by
   rcases nb with h|⟨j,H⟩
   .exact h
   exfalso;rw[yb,j]at yT;rw[<-yT.1,wV]at y2;have:=kA y2;rw[<-this,kJ cb]at y3;cases y3
  obtain⟨E,X,e3⟩:=go B da pb i_ A n Y mb la ma wA Q R N.1 N.2 wV rX vC uM cb qb ca qa z.symm hv.symm (λy j H=>(two y j H).symm) (.inr ⟨t1,Z⟩);refine⟨w,hw,mA,B,wA,Q,by rw[E];exact vh,by rw[E];exact R,by rw[E];exactλy j H=>(two y j H).symm,.inr ⟨vk,by rw[E];exact vj,N.1,N.2,by rw[E];exact X,by rw[E];exact e3⟩⟩
end
end Go.Abs
