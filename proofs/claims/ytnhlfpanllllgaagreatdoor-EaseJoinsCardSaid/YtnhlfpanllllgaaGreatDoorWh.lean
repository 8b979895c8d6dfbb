/- A part. -/
import Derived.Test.YtnhlfpanllllgaaGreatDoorWa
set_option linter.all false
open List renaming length->I
set_option maxRecDepth 100000
set_option maxHeartbeats 16000000
namespace Go.Abs
variable{Q:fM}{f g N T:Nat}{y A z:c6}
section
variable{h:ae}{F j u x:Nat}
abbrev o_(F:Nat)(ls:ae):PV:=NF F ls (.sl (eC (mg ls))) (.sl (cg (aL ls))) (.sl (cg (lB ls (I ls)))) (.mp true (qJ ls (I ls))) (.sl (cg (jh ls F)))
structure gy (F:Nat) (ls:ae):Prop where
 hl:I ls<=1000000
 ax:CT F ls
 cr:nX ls
 kinds:∀l∈ls,l.aM\/l.aF
def u9{a:Nat}(h:a<=9223372036854775807):IntKind.i64.wrap ((a:Int)-1)=(a:Int)-1:=by
 cases a with
 |zero=>decide
 |succ a=>rw[C7 J h];omega
def ao1{a n:Nat}(H:1<=n)(h:a+n<=9223372036854775807):IntKind.i64.wrap (((a:Int)-1)+(n:Int))=((a+n-1:Nat):Int):=by have e:((a:Int)-1)+(n:Int)=((a+n-1:Nat):Int):=J;rw[e];exact wrap_small J
def abA(F:Nat)(h:ae)(i:Nat)(hl:I h<=1000000)(H:i<I h):aJ S 169 [.one (.p (o_ F h)),aC i] (fQ (fj (I h) i true)):=by refine bt aFf ?_;have e:=tP (a:=i) J;simp only[go_sem,akK,e,fj,af,au]
def aer(F:Nat)(h:ae)(i:Nat)(hl:I h<=1000000)(g:i<I h):aJ S 168 [.one (.p (o_ F h)),aC i] (fQ (fj (I h) i false)):=by refine bt av9 ?_;have e1:=u9 (a:=i) J;have e2:=ao1 (a:=i) (n:=I h) J J;have E:=tf (i+I h-1) (I h);have f:=fC (i+I h-1) (show 0<I h by omega);have e4:=tP (a:=(i+I h-1)%I h) J;have e5:=cP (n:=2*((i+I h-1)%I h)) J;have H:¬((I h:Int)=0):=J;simp only[go_sem,anW,e1,e2,E,e4,e5,H,fj,af,au]
def T0{v:Nat}{l:aa}(H:h[v]?=some l)(hp:l.aM):(mg h)[v]?=some (c9 h v):=by have:=(cD.1 H).1;simp[mg,qx this,jK,H,hp]
def ato{v:Nat}{l:aa}(H:h[v]?=some l)(hp:l.aM):(lB h (I h))[v]?=some (fH h l):=by have:=(cD.1 H).1;simp[lB,qx this,this,Gz H hp]
def gy.Uq(ok:gy F h){v:Nat}{l:aa}(g:h[v]?=some l)(f:(l.kind==2)=false):l.aM:=by
 rcases ok.kinds l (ch g)with hp|H
 .exact hp
 unfold aa.aF at H;rw[f]at H;cases H
def agQ(ok:gy F h)(d:Nat)(hd:d<2*I h+2*I (aL h)):aJ S 142 [.one (.p (o_ F h)),aC d] (fQ (jx h (aL h) d)):=by
 have hl:=ok.hl;have hJ:I (aL h)<=1000000:=lX (uq h (I h)) hl;have lN:∀x∈aL h,x<I h/\ ∃l,h[x]?=some l/\l.aM:=λx hx=>by obtain⟨l,h1,h2⟩:=uh.1 hx;exact⟨(cD.1 h1).1,l,h1,h2⟩
 have M:IntKind.i64.wrap (2*(I h:Int))=((2*I h:Nat):Int):=tP J;unfold jx;by_cases ad:2*I h<=d
 .rw[aH ad];refine bt ajO ?_;have y:((2*I h:Nat):Int)<=(d:Int):=J;have m2:=SH (a:=d) (b:=2*I h) ad J;have m:=wrap_small (n:=(d-2*I h)/2) J;have hm:=fC ((d-2*I h)/2+1) (show 0<I (aL h) by omega);have Z:¬((I (aL h):Int)=0):=J;obtain⟨ac,hu⟩:=aR (L:=aL h) (k:=(d-2*I h)/2) J;have Cy:=jZ hu;by_cases h2:d%2=0
  .rw[aH h2];have A:=cP (n:=(d-2*I h)/2) J;have j7:(((d%2:Nat):Int)==0):=by simp[h2]
   have z:=tf ((d-2*I h)/2+1) (I (aL h));obtain⟨v,hv⟩:=aR hm;have tu:(aL h).getD (((d-2*I h)/2+1)%I (aL h)) 0=v:=by rw[dS,hv];rfl
   rw[tu];obtain⟨X,l,R,FT⟩:=lN v (ch hv);have uc:=jZ hv;have E:=qG (T0 R FT);have j:=abA F h v hl X;have pb:=aer F h v hl X;cases Y:c9 h v with
   |true=>rw[Y]at E;simp only[go_sem,uo,M,m2,m,A,z,y,j7,Cy,uc,E,Z,kz,ik,fF,zT,yZ,dP j,dP pb,af,au];exact⟨aI,aI⟩
   |false=>rw[Y]at E;simp only[go_sem,uo,M,m2,m,A,z,y,j7,Cy,uc,E,Z,kz,ik,fF,zT,yZ,dP j,dP pb,af,au];exact⟨aI,aI⟩
  rw[aw h2];have j7:(((d%2:Nat):Int)==0)=false:=by simp;omega
  have tu:(aL h).getD ((d-2*I h)/2) 0=ac:=by rw[dS,hu];rfl
  rw[tu];obtain⟨X,l,R,FT⟩:=lN ac (ch hu);have E:=qG (T0 R FT);have j:=abA F h ac hl X;have pb:=aer F h ac hl X;cases Y:c9 h ac with
  |true=>rw[Y]at E;simp only[go_sem,uo,M,m2,m,y,j7,Cy,E,Z,kz,ik,fF,zT,yZ,dP j,dP pb,af,au];exact aI
  |false=>rw[Y]at E;simp only[go_sem,uo,M,m2,m,y,j7,Cy,E,Z,kz,ik,fF,zT,yZ,dP j,dP pb,af,au];exact aI
 rw[aw ad];have y:¬(((2*I h:Nat):Int)<=(d:Int)):=J;have m:=wrap_small (n:=d/2) J;have B:¬((I h:Int)=0):=J;have Z:=fC (d/2+1) (show 0<I h by omega);have A:=cP (n:=d/2) J;have z:=tf (d/2+1) (I h);have body:∀v:Nat,v<I h->∀N:Bool,v=(if N then(d/2+1)%I h else d/2)->(((d%2:Nat):Int)==0)=N->aJ S 142 [.one (.p (o_ F h)),aC d] (fQ ((match h[v]? with
   |none=>0
   |some l=>if l.kind==2 then fj (I h) (iK h v) (N==(l.over==(l.sign==1)))
    else if c9 h v==N then 2*I h+2*(aL h).idxOf v else 2*I h+2*(((aL h).idxOf v+I (aL h)-1)%I (aL h))+1:Nat):Int)):=by
  intro v hv N g T;obtain⟨l,R⟩:=aR hv;have f:=fP R;rw[R];simp only;refine bt ajO ?_;cases hk:(l.kind==2)with
  |true=>
   have hc:l.aF:=hk;have D:(l.kind==1)=false:=by simp only[dI]at hk;rw[hk];rfl
   obtain⟨Q,PQ⟩:=VT ok.cr R hc;have H:=am4 h (I h) l.id;rw[aH (Uz (ch R) hc)]at H;have j:=abA F h (iK h v) hl PQ;have pb:=aer F h (iK h v) hl PQ;cases L:l.over with
   |true=>
    rw[L]at Q;have Q:i_ h (I h) l.id false=some (iK h v):=Q;simp only[sq,Q]at H;simp only[BT]at H;cases hs:(l.sign==1)with
    |true=>
     cases N with
     |true=>have g:v=(d/2+1)%I h:=g;rw[g]at f H j pb |-;simp only[go_sem,uo,M,m,A,z,y,T,f,pF,aa.ps,B,D,L,hs,kz,ik,fF,ni,mW,j4,H,zT,yZ,dP j,dP pb,af,au];exact⟨aI,aI⟩
     |false=>have g:v=d/2:=g;rw[g]at f H j pb |-;simp only[go_sem,uo,M,m,A,z,y,T,f,pF,aa.ps,B,D,L,hs,kz,ik,fF,ni,mW,j4,H,zT,yZ,dP j,dP pb,af,au];exact⟨aI,aI⟩
    |false=>
     cases N with
     |true=>have g:v=(d/2+1)%I h:=g;rw[g]at f H j pb |-;simp only[go_sem,uo,M,m,A,z,y,T,f,pF,aa.ps,B,D,L,hs,kz,ik,fF,ni,mW,j4,H,zT,yZ,dP j,dP pb,af,au];exact⟨aI,aI⟩
     |false=>have g:v=d/2:=g;rw[g]at f H j pb |-;simp only[go_sem,uo,M,m,A,z,y,T,f,pF,aa.ps,B,D,L,hs,kz,ik,fF,ni,mW,j4,H,zT,yZ,dP j,dP pb,af,au];exact⟨aI,aI⟩
   |false=>
    rw[L]at Q;have Q:i_ h (I h) l.id true=some (iK h v):=Q;simp only[sq,Q]at H;simp only[BT]at H;cases hs:(l.sign==1)with
    |true=>
     cases N with
     |true=>have g:v=(d/2+1)%I h:=g;rw[g]at f H j pb |-;simp only[go_sem,uo,M,m,A,z,y,T,f,pF,aa.ps,B,D,L,hs,kz,ik,fF,ni,mW,j4,H,zT,yZ,dP j,dP pb,af,au];exact⟨aI,aI⟩
     |false=>have g:v=d/2:=g;rw[g]at f H j pb |-;simp only[go_sem,uo,M,m,A,z,y,T,f,pF,aa.ps,B,D,L,hs,kz,ik,fF,ni,mW,j4,H,zT,yZ,dP j,dP pb,af,au];exact⟨aI,aI⟩
    |false=>
     cases N with
     |true=>have g:v=(d/2+1)%I h:=g;rw[g]at f H j pb |-;simp only[go_sem,uo,M,m,A,z,y,T,f,pF,aa.ps,B,D,L,hs,kz,ik,fF,ni,mW,j4,H,zT,yZ,dP j,dP pb,af,au];exact⟨aI,aI⟩
     |false=>have g:v=d/2:=g;rw[g]at f H j pb |-;simp only[go_sem,uo,M,m,A,z,y,T,f,pF,aa.ps,B,D,L,hs,kz,ik,fF,ni,mW,j4,H,zT,yZ,dP j,dP pb,af,au];exact⟨aI,aI⟩
  |false=>
   have hp:=ok.Uq R hk;have D:(l.kind==1):=hp;have E:=qG (T0 R hp);have O:=jZ (ato R hp);have I7:=Nk ok.ax R hp;have ab:=abj (ok.ax.fK l (ch R) hp);rw[HH ok.ax.tV]at ab;rw[I7];have Jc:¬((I (aL h):Int)=0):=J;have iB:=fC (fH h l+I (aL h)-1) (show 0<I (aL h) by omega);have n1:=tP (a:=fH h l) J;have u:=vR (a:=2*I h) (b:=2*fH h l) J;have n3:=u9 (a:=fH h l) J;have n4:=ao1 (a:=fH h l) (n:=I (aL h)) J J;have n5:=tf (fH h l+I (aL h)-1) (I (aL h));have n6:=tP (a:=(fH h l+I (aL h)-1)%I (aL h)) J;have n7:=vR (a:=2*I h) (b:=2*((fH h l+I (aL h)-1)%I (aL h))) J
   have n8:=cP (n:=2*I h+2*((fH h l+I (aL h)-1)%I (aL h))) J;cases N with
   |true=>
    have g:v=(d/2+1)%I h:=g;cases Pn:c9 h v with
    |true=>rw[Pn]at E;rw[g]at f E O;simp only[go_sem,uo,M,m,A,z,y,T,f,pF,aa.ps,B,D,kz,ik,fF,E,O,n1,u,n3,n4,n5,n6,n7,n8,Jc,af,au];exact aI
    |false=>rw[Pn]at E;rw[g]at f E O;simp only[go_sem,uo,M,m,A,z,y,T,f,pF,aa.ps,B,D,kz,ik,fF,E,O,n1,u,n3,n4,n5,n6,n7,n8,Jc,af,au];exact aI
   |false=>
    have g:v=d/2:=g;cases Pn:c9 h v with
    |true=>rw[Pn]at E;rw[g]at f E O;simp only[go_sem,uo,M,m,A,z,y,T,f,pF,aa.ps,B,D,kz,ik,fF,E,O,n1,u,n3,n4,n5,n6,n7,n8,Jc,af,au];exact aI
    |false=>rw[Pn]at E;rw[g]at f E O;simp only[go_sem,uo,M,m,A,z,y,T,f,pF,aa.ps,B,D,kz,ik,fF,E,O,n1,u,n3,n4,n5,n6,n7,n8,Jc,af,au];exact aI
 have X:(if(d%2==0)=true then(d/2+1)%I h else d/2)<I h:=by
  split
  .exact Z
  omega
 have:=body _ X (d%2==0) rfl (by cases Y:(d%2==0)<;>simp at Y |- <;>omega);exact this
abbrev cA(ls:ae):Nat->Nat:=jx ls (aL ls)
def aC5(ok:gy F h):
  ∀(f x:Nat) (dQ:eH) (m:bn) (aj:aB),m 0=.one (.p (o_ F h))->m 4=.one (.hsl 7360128064 1 1 0 (I dQ))->aj 7360128064=(1,some (.arr 4 1 (eC dQ)))->
   m 7=aC x->x<I dQ->I dQ=2*I h+2*I (aL h)->zi dQ<f->
   (∀A g,A 0=m 0->A 4=m 4->A 5=m 5->A 24=m 24->A 25=m 25->g 7360128064=(1,some (.arr 4 1 (eC (gW (cA h) f x dQ).2)))->Q .normal A g)->
   bP S .all (.loop Rh) (ld 2 Q) m aj:=by
 have hJ:I (aL h)<=1000000:=lX (uq h (I h)) ok.hl;have lN:∀x∈aL h,x<I h:=λx ab=>U9 ab;have hp:∀v l,h[v]?=some l->(l.kind==2)=false->v∈aL h:=λv l E R=>uh.2 ⟨l,E,ok.Uq E R⟩;intro f
 induction f with
 |zero=>intro x dQ m aj _ _ _ _ _ _ ab;omega
 |succ f ih=>
  intro x dQ m aj B j z D y hsl hu H;obtain⟨b,u⟩:=aR y;have M:=qG u;have Z:dQ.getD x true=b:=by rw[dS,u];rfl
  unfold gW at H;rw[Z]at H;refine mx ?_;cases b with
  |true=>simp only[go_sem,Rh,j,z,D,y,M,af,au];refine H _ _ ?_ ?_ ?_ ?_ ?_ z;all_goals simp only[go_sem,j]
  |false=>
   have HD:=Ns u;have X:=agQ ok x J;have O:=Vz (d:=x) lN hp J;have T:=Lp dQ x true;simp only[go_sem,Rh,B,j,z,D,y,M,T,RI,dP X,af,au];refine ih (jx h (aL h) x) (dQ.set x true) _ _ ?_ ?_ ?_ ?_ (by simpa [hsl]using O) (by simpa using hsl) J ?_
   .simp only[go_sem,B]
   .simp only[go_sem,j,kI]
   .simp only[go_sem]
   .simp only[go_sem]
   intro A g N q4 Y qC yS L;refine H A g ?_ ?_ ?_ ?_ ?_ L
   .rw[N];simp only[go_sem]
   .rw[q4];simp only[go_sem]
   .rw[Y];simp only[go_sem]
   .rw[qC];simp only[go_sem]
   rw[yS];simp only[go_sem]
def aHm(ok:gy F h):aJ S 115 [.one (.p (o_ F h))] (dn (oi h==ai aa.aM h+ai aa.aF h/2+2)):=by
 have hl:=ok.hl;have hJ:I (aL h)<=I h:=uq h (I h);have m1:=tP (a:=I h) J;have m2:=tP (a:=I (aL h)) J;have m3:=vR (a:=2*I h) (b:=2*I (aL h)) J;have R:2*I h+2*I (aL h)<=140737488355328:=J;have wN:List.replicate (2*I h+2*I (aL h)) [PV.bool false]=eC (List.replicate (2*I h+2*I (aL h)) false):=aQ;have iB:I (qJ h (I h))=ai aa.aF h/2:=by have:=ok.cr;unfold nX at this;simp only[dj,dI]at this;simp[qJ,this.2]
 have wD:ai aa.aF h<=I h:=qk _ _;refine bt aBV ?_;simp only[go_sem,anJ,m1,m2,m3,R,wN,af,au];refine⟨aI,?_⟩;generalize hN:2*I h+2*I (aL h)=N at R;refine c_ (λk m aj=>m 0=.one (.p (o_ F h))/\m 4=.one (.hsl 7360128064 1 1 0 N)/\aj 7360128064=(1,some (.arr 4 1 (eC (eY (cA h) N k).2)))/\
   m 5=aC (eY (cA h) N k).1.length/\m 24=aC N/\m 25=aC k) 0 N (cE _) ?_ ?_
 .simp only[go_sem];exact⟨rfl,rfl,rfl⟩
 rintro k m aj hk ⟨g,x,j,f,O,y⟩
 have H:=Gy (cA h) N k;have B:=Kj (cA h) N k;by_cases A:k<N
 .have E:((k:Int)<(N:Int)):=J;have z:=cP (n:=k) J;have hs:=yX (cA h) N k;generalize dh:eY (cA h) N k=st at H hs j f B;obtain⟨out,dQ⟩:=st;simp only at H j f B;obtain⟨b,u⟩:=aR (L:=dQ) (k:=k) J;have M:=qG u;unfold vC at hs;have Z:dQ.getD k true=b:=by rw[dS,u];rfl
  simp only[Z]at hs;cases b with
  |true=>have hs:eY (cA h) N (k+1)=(out,dQ):=hs;simp only[go_sem,TZ,aa3,g,x,j,f,O,y,A,E,M,z,hs,af,au]
  |false=>
   have hs:eY (cA h) N (k+1)=(out++[(gW (cA h) (N+1) k dQ).1],(gW (cA h) (N+1) k dQ).2):=by rw[hs,H];rfl
   have ab:=Km dQ;have w2:=cP (n:=I out) J;simp only[go_sem,TZ,g,x,j,f,O,y,A,E,M,w2,af,au];refine aC5 ok (N+1) k dQ _ _ ?_ ?_ ?_ ?_ J J J ?_
   .simp only[go_sem,g]
   .simp only[go_sem,x,H]
   .simp only[go_sem,j]
   .simp only[go_sem]
   intro aE ao Q L D T Y b1;simp only[go_sem,g,x,f,O,y]at Q L D T Y;simp only[go_sem,aa3,Q,L,D,T,Y,b1,z,hs,A,af,au];simp
 have:k=N:=J;subst this;have he:oi h=(eY (cA h) k k).1.length:=by unfold oi fO cA;rw[hN]
 rw[<-he]at f;have w3:=vR (a:=I (aL h)) (b:=ai aa.aF h/2) J;have X:IntKind.i64.wrap (((I (aL h)+ai aa.aF h/2:Nat):Int)+2)=((I (aL h)+ai aa.aF h/2+2:Nat):Int):=vR (a:=I (aL h)+ai aa.aF h/2) (b:=2) J;have u:(((oi h:Nat):Int)==((I (aL h)+ai aa.aF h/2+2:Nat):Int))=(oi h==ai aa.aM h+ai aa.aF h/2+2):=by
  rw[O2];cases ac:(oi h==ai aa.aM h+ai aa.aF h/2+2)with
  |true=>simp at ac |-;omega
  |false=>simp at ac |-;omega
 simp only[go_sem,TZ,ag2,g,f,O,y,dW,AT,iB,w3,X,u,af,au];exact aI
abbrev NO(id:Nat):Prop:=id=2496320128\/(kO id=77\/kO id=113\/kO id=114)
def awf(F:Nat)(h:ae)(g:Nat)(aj:aB):Prop:= ∃g1 j u f m,
 aj 2496320128=(g,some (.var (xm F h (hs 7232128448 j (I h)) (hs 7233344128 m (I (aL h))) (hs 7232192448 u (I h)) (.mS 7296256064 f) (hs 7232064448 g1 (F+1)))))/\
 aj 7232064448=(g1,some (.arr 3 1 (cg (jh h F))))/\aj 7232128448=(j,some (.arr 4 1 (eC (mg h))))/\aj 7232192448=(u,some (.arr 3 1 (cg (lB h (I h)))))/\
 aj 7233344128=(m,some (.arr 3 1 (cg (aL h))))/\aj 7296256064=(f,some (.map true (qJ h (I h))))
def TF(F:Nat)(h:ae):Bool:=decide (h=[])||nH F h
def acm(F:Nat)(h:ae)(g:Nat)(f:aB)(v:V)(A:aB):Prop:=v=fT (TF F h)/\dG NO f A/\(h≠[]->nH F h->awf F h g A)/\(h=[]->A 2496320128=f 2496320128)
def ael:S.sites 77=[77,113,114]:=ah
def anG:S.sites 113=[113]:=ah
def afT:S.sites 114=[114]:=ah
def dG.VJ{bK f:Nat->Prop}{a b:aB}(h:dG bK a b)(H:∀id,bK id->f id):dG f a b:=λid j=>h id λg=>j (H id g)
abbrev CS(g:Nat):List eG:=[[.hfn 111 [.bh 2496320128 g 0] []],[.hfn 112 [.bh 2496320128 g 0] []],[.hfn 113 [.bh 2496320128 g 0] []],[.hfn 114 [.bh 2496320128 g 0] []],[.hfn 115 [.bh 2496320128 g 0] []]]
section
variable {al:cG} {Q:fM} {m:bn} {aj:aB} {g g0:Nat}
def aap(k:Nat){D:PV}{r:aG}{b:Bool}(B:k<5)(H:(CS g)[k]?=some [.hfn f [.bh 2496320128 g 0] []])(M:S.shared f=false)(O:al.ok 4928192640)
  (h:m 22=.one (hs 4928192640 g0 5)) (R:m 23=aC 5) (x:m 24=aC k) (bV:aj 4928192640=(g0,some (.jw 26 1 (CS g))))
  (E:pX aj (.one (.bh 2496320128 g 0))=some (.one (.p D),r)) (y:al.gH r) (hp:aJ S f [.one (.p D)] (dn b))
  (u:b=false->∀A,A 2=fT false->Q .ret A aj)
  (j:b->∀A,A 22=.one (hs 4928192640 g0 5)->A 23=aC 5->A 24=aC ((k+1:Nat):Int)->bP S al (.loop Df) Q A aj):bP S al (.loop Df) Q m aj:=by
 refine mx ?_;have z:((k:Int)<5):=J;have F:=cP (n:=k) J;cases b with
 |false=>simp only[go_sem,Df,h,R,x,bV,z,B,H,M,O,↓E,aeV hp,y,af,au];exact u rfl _ (by simp only[go_sem])
 |true=>
  simp only[go_sem,Df,h,R,x,bV,z,B,H,M,O,↓E,aeV hp,y,F,af,au];refine j rfl _ ?_ ?_ ?_
  .simp only[go_sem,h]
  .simp only[go_sem,R]
  simp only[go_sem]
def alP(k:Nat){P:V->aB->Prop}{b:Bool}(F:k<5)(H:(CS g)[k]?=some [.hfn f [.bh 2496320128 g 0] []])(M:S.shared f)(D:al.ok 4928192640)
  (u:m 22=.one (hs 4928192640 g0 5)) (R:m 23=aC 5) (O:m 24=aC k) (bV:aj 4928192640=(g0,some (.jw 26 1 (CS g))))
  (B:al.holds (f_ (S.ctx al) f [.one (.bh 2496320128 g 0)] aj)) (h:∃v A,je S f [.one (.bh 2496320128 g 0)] (f_ (S.ctx al) f [.one (.bh 2496320128 g 0)] aj) aj v A/\P v A)
  (N:∀v A,P v A->v=fT b)
  (y:b=false->∀v j A,P v A->j 2=fT false->Q .ret j A)
  (x:b->∀v j A,P v A->j 22=.one (hs 4928192640 g0 5)->j 23=aC 5->j 24=aC ((k+1:Nat):Int)->bP S al (.loop Df) Q j A):bP S al (.loop Df) Q m aj:=by
 refine mx ?_;have E:((k:Int)<5):=J;have z:=cP (n:=k) J;simp only[go_sem,Df,u,R,O,bV,E,F,H,M,D,af,au];refine qq B h λv A hp=>?_;have L:=N v A hp;subst L;cases b with
 |false=>simp only[go_sem,u,R,O,af,au];exact y rfl _ _ _ hp (by simp only[go_sem])
 |true=>
  simp only[go_sem,u,R,O,z,af,au];refine x rfl _ _ _ hp ?_ ?_ ?_
  .simp only[go_sem,u]
  .simp only[go_sem,R]
  simp only[go_sem]
end
def atF{al:cG}(u:al.ok 2496320128)(O:∀id,(kO id=77\/kO id=113\/kO id=114)->al.ok id)(f1:al.fs.contains 113)(f2:al.fs.contains 114)
  {aj:aB}{F:Nat}{h:ae} (hl:I h<=1000000) (hF:F<=1000000)
  (B:aj 2496320128=(g,some (.var (xm F h (.p .nils) (.p .nils) (.p .nils) (.p .um) (.p .nils))))):∃v j,je S 77 [.one (.bh 2496320128 g 0)] al aj v j/\acm F h g aj v j:=by
 have y:=O 4928192640 (.inl rfl);refine nc aFH (jn rfl) ?_;by_cases M:h=[]
 .subst M;have hz:(((0:Nat):Int)==0):=U;simp only[go_sem,Y8,B,hz,u,y,af,au];exact⟨rfl,dG.refl _ _,λH=>absurd rfl H,λ_=>rfl⟩
 have jT:=jr.2 M;have Jd:(((I h:Nat):Int)==0)=false:=by simp;omega
 obtain⟨l0,h0⟩:=aR jT;have th:decide (h=[])=false:=by simp[M]
 have pl:=aBg F h (.sl []) (.sl []) (.sl []) .um (.sl []) hl ⟨rfl,rfl,rfl,rfl,rfl⟩;have pb:=aFn F h l0 (.sl []) (.sl []) (.sl []) .um (.sl []) hl h0;have X:=WT (F:=F) (L:=h);have fail:∀A j,dG NO aj j->nH F h=false->A 2=fT false->ld 0 (vb S al ac9 (ns al [(2,none)] (acm F h g aj))) .ret A j:=λA j hk hv m=>by simp only[go_sem,m,af,au];exact⟨by rw[TF,th,hv];rfl,hk,λ_ H=>(by rw[hv]at H;cases H),λH=>absurd H M⟩
 have ag:xP F h=false->nH F h=false:=λH=>by simp[nH,H]
 have x:¬(h.any (eO F)=false/\zB h/\nX h)->nH F h=false:=λH=>ag (by
  cases hq:xP F h with
  |false=>rfl
  |true=>exact absurd (X.1 hq) H)
 simp only[go_sem,Y8,B,Jd,u,y,af,au];have dd:dG NO aj (dE aj 4928192640 ((aj 4928192640).1+1,some (.jw 26 1 (CS g)))):=dG.dE (dG.refl _ _) (.inr (.inl rfl)) _;generalize z:dE aj 4928192640 ((aj 4928192640).1+1,some (.jw 26 1 (CS g)))=E;rw[z]at dd;have bV:E 4928192640=((aj 4928192640).1+1,some (.jw 26 1 (CS g))):=by rw[<-z];simp only[go_sem]
 have B:E 2496320128=(g,some (.var (xm F h (.p .nils) (.p .nils) (.p .nils) (.p .um) (.p .nils)))):=by rw[<-z];simp only[go_sem,B]
 clear z;have km:pX E (.one (.bh 2496320128 g 0))=some (.one (.p (NF F h (.sl []) (.sl []) (.sl []) .um (.sl []))),[2496320128]):=by simp only[go_sem,B,af,au]
 have T:al.gH [2496320128]:=by simp only[go_sem,u]
 refine aap 0 J rfl axi y (by simp only[go_sem]) (by simp only[go_sem];rfl) (by simp only[go_sem];rfl) bV km T pl (λf A m=>fail A E dd (x λH=>by simp[H.1]at f) m) (λf A D R Q=>?_);have z:h.any (eO F)=false:=by simpa using f
 have rB:∀l∈h,eO F l=false:=λl hl=>by simpa using E5.1 z l hl
 have hg:tV F h:=λl hl hp=>((sU hp).1 (rB l hl)).1.1.1;refine aap 1 J rfl aG4 y D R Q bV km T pb (λf A m=>fail A E dd (by simp only[nH,h0,f];rfl) m) (λad A D R Q=>?_);clear f;have P0:jA E (.one (.bh 2496320128 g 0))=[2496320128]:=by rw[LR B];simp[Jk]
 refine alP (b:=zB h) 2 J rfl ah y D R Q bV ?_ (aE9 (qf (by simp[P0])) (λid H=>sP (by rw[anG,H];rfl)) hl hF hg B) (λv j H=>H.1) ?_ ?_
 .refine E9 ?_ ?_
  .show al.gH ([V.one (.bh 2496320128 g 0)].map (jA E)).flatten=true;simp only[eR,jS,P0,lI,Fo,lg];exact T
  show(S.sites 113).all al.fs.contains=true;rw[anG];simp only[mN,oc,f1];rfl
 .intro f v A j hp m;exact fail A j (dd.trans (hp.2.1.VJ λid H=>H.elim .inl λH=>.inr (.inr (.inl H)))) (x λH=>by rw[H.2.1]at f;cases f) m
 intro lk v A bJ hp D R Q;obtain⟨_,jk,sE⟩:=hp;obtain⟨g1,g2,g3,g5,B,bC,bW,pE,bA⟩:=sE lk;have lN:CT F h:=by obtain⟨a,b⟩:=(PS hg).1 lk;exact⟨a,b⟩
 rw[axE lN]at bA;rw[HH hg]at B;have bV:bJ 4928192640=((aj 4928192640).1+1,some (.jw 26 1 (CS g))):=by rw[<-bV];exact jk _ U
 have L:dG NO aj bJ:=dd.trans (jk.VJ λid H=>H.elim .inl λH=>.inr (.inr (.inl H)));have oC:=O 7232064448 (.inr (.inl rfl));have oW:=O 7232128448 (.inr (.inl rfl));have oP:=O 7232192448 (.inr (.inl rfl));have oA:=O 7233344128 (.inr (.inl rfl));have oM:=O 7296256064 (.inr (.inr rfl));have P9:jA bJ (.one (.bh 2496320128 g 0))=[2496320128,7232128448,7233344128,7232192448,7232064448]:=by rw[LR B];simp only[eR,jS,Jk,DD bW,DD bA,DD pE,DD bC,lI,Fo,fN,lg,nA]
 refine alP (b:=nX h) 3 J rfl ah y D R Q bV ?_ (avp (qf (by simp[P9])) (λid H=>sP (by rw[afT,H];rfl)) hl B) (λv j H=>H.1) ?_ ?_
 .refine E9 ?_ ?_
  .show al.gH ([V.one (.bh 2496320128 g 0)].map (jA bJ)).flatten=true;simp only[eR,jS,P9,lI,Fo,lg,Gt,F_,u,oC,oW,oP,oA,wX]
  show(S.sites 114).all al.fs.contains=true;rw[afT];simp only[mN,oc,f2];rfl
 .intro f v A j hp m;exact fail A j (L.trans (hp.2.1.VJ λid H=>H.elim .inl λH=>.inr (.inr (.inr H)))) (x λH=>by rw[H.2.2]at f;cases f) m
 intro hU v A N hp D R Q;obtain⟨_,Hp,PW⟩:=hp;obtain⟨g4,B,bM⟩:=PW hU;have kp:∀id,kO id=113->N id=bJ id:=λid H=>Hp id (by
  rintro(e|e)
  .rw[e]at H;revert H;decide
  rw[e]at H;revert H;decide)
 rw[<-kp _ rfl]at bC bW pE bA;have bV:N 4928192640=((aj 4928192640).1+1,some (.jw 26 1 (CS g))):=by rw[<-bV];exact Hp _ U
 have ab:dG NO aj N:=L.trans (Hp.VJ λid H=>H.elim .inl λH=>.inr (.inr (.inr H)));have ok:gy F h:=⟨hl,lN,hU,λl hl=>yO (rB l hl)⟩;have pf:=aHm ok;have ac:xP F h:=X.2 ⟨z,lk,hU⟩;have Z:nH F h=(oi h==ai aa.aM h+ai aa.aF h/2+2):=by
  have Y:(l0.kind==1)/\(ai aa.aM h%2==0):=by simpa using ad
  simp only[nH,h0,Y.1,Y.2,ac,tg]
 have t1:List.take (I h) (eC (mg h))=eC (mg h):=e_ (by simp[mg]);have t2:List.take (I (aL h)) (cg (aL h))=cg (aL h):=e_ aQ;have t3:List.take (I h) (cg (lB h (I h)))=cg (lB h (I h)):=e_ (by simp[lB]);have t4:List.take (F+1) (cg (jh h F))=cg (jh h F):=e_ (by simp[jh]);have n1:I h<=I (mg h):=by simp[mg]
 have n3:I h<=I (lB h (I h)):=by simp[lB]
 have n4:F+1<=I (jh h F):=by simp[jh]
 have km:pX N (.one (.bh 2496320128 g 0))=some (.one (.p (o_ F h)),[2496320128,7232128448,7233344128,7232192448,7296256064,7232064448]):=by simp only[go_sem,ae0,B,bW,bA,pE,bC,bM,ads,t1,t2,t3,t4,n1,n3,n4,af,au]
 have T:al.gH [2496320128,7232128448,7233344128,7232192448,7296256064,7232064448]:=by simp only[Gt,F_,u,oC,oW,oP,oA,oM,wX]
 refine aap 4 J rfl aF9 y D R Q bV km T pf (λf A m=>fail A N ab (by rw[Z];exact f) m) (λxD A D R Q=>?_);have hv:nH F h:=by rw[Z];exact xD
 refine mx ?_;have n5:¬((((4+1:Nat)):Int)<5):=U;simp only[go_sem,Df,ac9,R,Q,n5,af,au];exact⟨by rw[TF,th,hv];rfl,ab,λ_ _=>⟨g1,g2,g3,g4,g5,B,bC,bW,pE,bA,bM⟩,λH=>absurd H M⟩
abbrev As(f:Int):PV:=NF f [] (.sl []) (.sl []) (.sl []) .um (.sl [])
abbrev AM(a b:PV):RV:=.tup [.one (.p a),.one (.p b)]
def J1(f:Int)(h:ae):RV:=if dA f h=0 then AM (if h=[]then As f else o_ f.toNat h) (.int .i64 0)else AM .xQ (.int .i64 (dA f h))
def cS{aj:aB}{s:Nat}{a b:PV}{l:Bool}:eF aj [] s ((AM a b).fi l)=some (.tup [.one (.p a),.one (.p b)],[]):=by cases l<;>rfl
def MW{f:Int}{e:Int}(g:dA f h=e)(H:e≠0):J1 f h=AM .xQ (.int .i64 e):=by unfold J1;rw[g,aw H]
def Ng{f:Int}(H:dA f h=0):J1 f h=AM (if h=[]then As f else o_ f.toNat h) (.int .i64 0):=by unfold J1;rw[aH H]
def R1(f:Int)(h:ae)(hl:I h<=1000000):aJ S 39 [df f h] (J1 f h):=by
 have pc:=Z9 f h hl;refine bt arX ?_;by_cases Z:400<I h
 .have L:(400:Int)<(I h:Int):=J;rw[MW (e:=7) (by unfold dA;rw[aH (Or.inl Z)]) U];simp only[go_sem,Mt,L,Er,dP pc,af,au];rfl
 have L:¬(400:Int)<(I h:Int):=J;by_cases M:200<ai aa.aF h
 .have j:(200:Int)<(ai aa.aF h:Int):=J;rw[MW (e:=7) (by unfold dA;rw[aH (Or.inr M)]) U];simp only[go_sem,Mt,L,j,Er,dP pc,af,au];rfl
 have j:¬(200:Int)<(ai aa.aF h:Int):=J;have N:¬(400<I h\/200<ai aa.aF h):=J;by_cases g:f<0
 .rw[MW (e:=2) (by unfold dA;rw[aw N,aH (Or.inl g)]) U];simp only[go_sem,Mt,L,j,g,Er,dP pc,af,au];rfl
 by_cases x:40<f
 .rw[MW (e:=2) (by unfold dA;rw[aw N,aH (Or.inr x)]) U];simp only[go_sem,Mt,L,j,g,x,Er,dP pc,af,au];rfl
 have u:¬(f<0\/40<f):=J;obtain⟨F,rfl⟩:=qX (show 0<=f by omega);have kh:S.shared 77:=ah;simp only[go_sem,Mt,L,j,g,x,Er,dP pc,kh,af,au];refine qq (P:=acm F h 1 _) uR (atF (F:=F) (h:=h) ?_ ?_ ?_ ?_ hl J ?_) ?_
 .refine qf ?_;rw[eR,jS,LR (g0:=1) (X:=xm F h (.p .nils) (.p .nils) (.p .nils) (.p .um) (.p .nils)) (by simp only[go_sem])];simp
 .intro id A;refine sP ?_;rw[ael];rcases A with A|A|A<;>rw[A]<;>rfl
 .show(S.sites 77).contains _=true;rw[ael];rfl
 .show(S.sites 77).contains _=true;rw[ael];rfl
 .simp only[go_sem]
 rintro v ao ⟨rfl,hk,hr,hz⟩
 unfold TF;by_cases H:h=[]
 .have z:dA F h=0:=by unfold dA;rw[aw N,aw u,aH H]
  have B:=hz H;rw[Ng z,aH H];have T:(decide (h=[])||nH F h)=true:=by simp[H]
  rw[T];subst H;simp only[go_sem]at B;simp only[go_sem,af,au];simp only[go_sem,gr,nx,tH,k5,kj,gR,B,af,au];rfl
 have T:decide (h=[])=false:=by simp[H]
 cases y:nH F h with
 |false=>rw[MW (e:=3) (by unfold dA;rw[aw N,aw u,aw H,y];rfl) U];rw[T,DJ];simp only[go_sem,af,au];rfl
 |true=>
  have z:dA F h=0:=by unfold dA;rw[aw N,aw u,aw H,y];rfl
  rw[Ng z,aw H];obtain⟨g1,g2,g3,g4,g5,B,R,bW,X,bA,bM⟩:=hr H y;have m:(F:Int).toNat=F:=rfl;rw[m];have t1:List.take (I h) (eC (mg h))=eC (mg h):=e_ (by simp[mg]);have D:List.take (I (aL h)) (cg (aL h))=cg (aL h):=e_ aQ;have E:List.take (I h) (cg (lB h (I h)))=cg (lB h (I h)):=e_ (by simp[lB]);have O:List.take (F+1) (cg (jh h F))=cg (jh h F):=e_ (by simp[jh]);have N:I h<=I (mg h):=by simp[mg]
  have Q:I h<=I (lB h (I h)):=by simp[lB]
  have Y:F+1<=I (jh h F):=by simp[jh]
  rw[T,DJ];simp only[go_sem,af,au];simp only[go_sem,gr,nx,tH,k5,kj,gR,ae0,B,bW,bA,X,R,bM,ads,t1,D,E,O,N,Q,Y,af,au];rfl
def aju(f:Int)(h:ae)(hl:I h<=1000000):aJ S 33 [df f h] (fQ (dA f h)):=by
 have pr:=R1 f h hl;refine bt asc ?_;unfold J1 at pr;by_cases H:dA f h=0
 .rw[aH H]at pr;simp only[go_sem,WZ,N6,a_ pr cS,H,af,au]
 rw[aw H]at pr;simp only[go_sem,WZ,N6,a_ pr cS,af,au]
abbrev gP(k a b c:Int)(l o:Bool)(s:Int):V:=.agg [.p (.int .i64 k),.p (.int .i64 a),.p (.int .i64 b),.p (.int .i64 c),.p (.bool l),.p (.bool o),.p (.int .i64 s)]
abbrev sV(e:Int):RV:=.tup [.agg [.p (.int .i64 0),.p .nils],.one (.p (.int .i64 e))]
def aEE{aj:aB}{s:Nat}{e:Int}{l:Bool}:eF aj [] s ((sV e).fi l)=some (.tup [.agg [.p (.int .i64 0),.p .nils],.one (.p (.int .i64 e))],[]):=by cases l<;>rfl
section
variable {f:Int} {h:ae} {e:Int}
abbrev kinds(k:Nat):aG:=(List.range k).map (· +1)
end
def j5(n v:Nat)(f:Bool):Nat:=if f then 2*((v+n-1)%n)else 2*v+1
def aci(n e:Nat):Nat:=if e%2=0 then e/2 else(e/2+1)%n
def vZ{n v:Nat}(H:v<n):((v+n-1)%n+1)%n=v:=by
 by_cases h:v=0
 .subst h;rw[kA,jv (show n-1<n by omega),show n-1+1=n by omega,Am]
 rw[show v+n-1=(v-1)+n by omega,yq,jv (show v-1<n by omega),show v-1+1=v by omega,jv H]
def Ep{n v:Nat}(H:v<n):((v+1)%n+n-1)%n=v:=by
 by_cases h:v+1=n
 .rw[h,Am,kA,jv (show n-1<n by omega)];omega
 rw[jv (show v+1<n by omega),show v+1+n-1=v+n by omega,yq,jv H]
def akh{n v:Nat}(H:v<n)(g:Bool):aci n (fj n v g)=v/\(fj n v g%2==0)=g:=by
 unfold aci fj;cases g with
 |true=>have h:(2*v)%2=0:=J;simp only[if_true,h];exact⟨J,rfl⟩
 |false=>have h:(2*((v+n-1)%n)+1)%2=1:=J;have f:(2*((v+n-1)%n)+1)/2=(v+n-1)%n:=J;simp only[eX,if_false,h,f,MM,vZ H];exact⟨trivial,rfl⟩
def Lj(h:ae)(ax:aG)(e:Nat):Nat:=
 if 2*I h<=e then
  if e%2=0 then j5 (I h) (ax.getD ((e-2*I h)/2) 0) (c9 h (ax.getD ((e-2*I h)/2) 0))
  else j5 (I h) (ax.getD (((e-2*I h)/2+1)%I ax) 0) (!c9 h (ax.getD (((e-2*I h)/2+1)%I ax) 0))
 else
  let v:=aci (I h) e
  let g:=e%2==0
  match h[v]? with
  |none=>0
  |some l=>if l.kind==2 then
    match h[iK h v]? with
    |some u=>j5 (I h) (iK h v) (g==(u.over==(u.sign==1)))
    |none=>0
   else if g==c9 h v then 2*I h+2*ax.idxOf v+1 else 2*I h+2*((ax.idxOf v+I ax-1)%I ax)
def rJ(f:nX h){i:Nat}{l:aa}(hl:h[i]?=some l)(j:l.aF):iK h (iK h i)=i/\ ∃m,h[iK h i]?=some m/\m.aF/\m.id=l.id/\m.over= !l.over/\m.sign=l.sign:=by
 obtain⟨E,N⟩:=VT f hl j;obtain⟨_,u⟩:=GX E;obtain⟨m,H,g,od,M⟩:=BS u;have hp:GW h:=by have:=f;unfold nX at this;simp only[dj,dI,jP,gI]at this;exact(G9.1 this.1.2).2
 have A:i≠iK h i:=by intro e;rw[<-e,hl]at H;cases H;revert M;cases l.over<;>simp
 obtain⟨D,O⟩:=VT f H g;obtain⟨_,B⟩:=GX D;obtain⟨x,z,L,X,F⟩:=BS B;refine⟨?_,m,H,g,od,M,((hp i _ l m hl H j g od.symm A).2).symm⟩;refine Decidable.byContradiction λy=>?_;have:=(hp _ i x l z hl L j (by rw[X,od]) y).1;rw[F,M]at this;revert this;cases l.over<;>simp
def apk{ax:aG}{d v:Nat}{f:Bool}{l:aa}(g:¬2*I h<=d)(A:(d%2==0)=f)(H:v=if f then(d/2+1)%I h else d/2)(hl:h[v]?=some l):
  jx h ax d=if l.kind==2 then fj (I h) (iK h v) (f==(l.over==(l.sign==1)))
   else if c9 h v==f then 2*I h+2*ax.idxOf v else 2*I h+2*((ax.idxOf v+I ax-1)%I ax)+1:=by
 subst A;subst H;unfold jx;rw[aw g];simp only[hl]
def alc(ok:gy F h){d:Nat}(hd:d<2*I h+2*I (aL h)):Lj h (aL h) (jx h (aL h) d)=d:=by
 have lN:∀x∈aL h,x<I h/\ ∃l,h[x]?=some l/\l.aM:=λx hx=>by obtain⟨l,Z,y⟩:=uh.1 hx;exact⟨(cD.1 Z).1,l,Z,y⟩
 have Q:∀ {p v:Nat},(aL h)[p]?=some v->(aL h).idxOf v=p:=λ{p v} hp=>by obtain⟨l,hl,z,he⟩:=Af ok.ax hp;rw[Nk ok.ax hl z,he]
 have A:∀ {v:Nat} (g:Bool),v<I h-> ¬2*I h<=fj (I h) v g:=λ{v} g H=>by have:=Dm (n:=I h) (f:=g) H;omega
 have N:∀ {l:aa},l.aM->(l.kind==2)=false:=λ{l} ab=>q_ ab;have f:∀ {p v:Nat} (g:Bool),(aL h)[p]?=some v->Lj h (aL h) (fj (I h) v g)=if g==c9 h v then 2*I h+2*p+1 else 2*I h+2*((p+I (aL h)-1)%I (aL h)):=by intro p v g hp;obtain⟨H,l,hl,z⟩:=lN v (ch hp);obtain⟨e1,e2⟩:=akh H g;unfold Lj;rw[aw (A g H)];simp only[e1,e2,hl,N z,Q hp];rfl
 by_cases ab:2*I h<=d
 .unfold jx;rw[aH ab];have M:=fC ((d-2*I h)/2+1) (show 0<I (aL h) by omega);by_cases y:d%2=0
  .rw[aH y];obtain⟨v,H⟩:=aR M;have T:(aL h).getD (((d-2*I h)/2+1)%I (aL h)) 0=v:=by rw[dS,H];rfl
   rw[T,f _ H];have B:((!c9 h v)==c9 h v)=false:=by cases c9 h v<;>rfl
   rw[B,Ep (show(d-2*I h)/2<I (aL h) by omega)];simp only[eX,if_false];omega
  rw[aw y];obtain⟨v,H⟩:=aR (L:=aL h) (k:=(d-2*I h)/2) J;have T:(aL h).getD ((d-2*I h)/2) 0=v:=by rw[dS,H];rfl
  rw[T,f _ H];simp only[CD,if_true];omega
 have hn:0<I h:=J;have lO:=fC (d/2+1) hn;have key:∀(v:Nat) (j:Bool),v<I h->(d%2==0)=j->v=(if j then(d/2+1)%I h else d/2)->j5 (I h) v j=d:=by
  intro v j H u O;unfold j5;cases j with
  |true=>
   have u:d%2=0:=by simpa using u
   simp only[if_true]at O |-;rw[O,Ep (show d/2<I h by omega)];omega
  |false=>
   have u:d%2≠0:=by simpa using u
   simp only[eX,if_false]at O |-;omega
 generalize H:(if(d%2==0)=true then(d/2+1)%I h else d/2)=v;generalize u:(d%2==0)=j at H;have uP:v<I h:=by rw[<-H];split<;>omega
 have D:=key v j uP u H.symm;obtain⟨l,hl⟩:=aR uP;rw[apk ab u H.symm hl];cases X:(l.kind==2)with
 |true=>
  have hc:l.aF:=X;obtain⟨B,m,M,mc,od,mo,ms⟩:=rJ ok.cr hl hc;have R:=(VT ok.cr hl hc).2;rw[aH rfl];obtain⟨e1,e2⟩:=akh R (j==(l.over==(l.sign==1)));unfold Lj;rw[aw (A _ R)];have mk:(m.kind==2):=mc;simp only[e1,e2,M,mk,if_true,B,hl];have xC:((j==(l.over==(l.sign==1)))==(l.over==(l.sign==1)))=j:=by cases j<;>cases(l.over==(l.sign==1))<;>rfl
  rw[xC];exact D
 |false=>
  have hp:=ok.Uq hl X;have I7:=Nk ok.ax hl hp;have L:=WX ok.ax hl hp;have E:=(cD.1 L).1;rw[aw aQ,I7];cases Y:(c9 h v==j)with
  |true=>
   simp only[if_true];unfold Lj;rw[aH J,aH J];have e1:(2*I h+2*fH h l-2*I h)/2=fH h l:=J;have e2:(aL h).getD (fH h l) 0=v:=by rw[dS,L];rfl
   rw[e1,e2,show c9 h v=j by simpa using Y];exact D
  |false=>
   have iB:=fC (fH h l+I (aL h)-1) (show 0<I (aL h) by omega);simp only[eX,if_false];unfold Lj;rw[aH J,aw J];have e1:(2*I h+2*((fH h l+I (aL h)-1)%I (aL h))+1-2*I h)/2=(fH h l+I (aL h)-1)%I (aL h):=J;have e2:(aL h).getD (fH h l) 0=v:=by rw[dS,L];rfl
   rw[e1,vZ E,e2,show(!c9 h v)=j by revert Y;cases c9 h v<;>cases j<;>simp];exact D
def aso(ok:gy F h){d e:Nat}(f:d<2*I h+2*I (aL h))(j:e<2*I h+2*I (aL h))(m:cA h d=cA h e):d=e:=by have H:=alc ok f;have g:=alc ok j;rw[<-H,<-g];exact congrArg _ m
def Kn(next:Nat->Nat)(u:Nat):Nat->Nat->eH->aG×eH
 |0,_,f=>([],f)
 |k+1,x,f=>if x<u then
   if f.getD x true then([],f)else(x::(Kn next u k (next x) (f.set x true)).1,(Kn next u k (next x) (f.set x true)).2)
  else(x::(Kn next u k (next x) f).1,(Kn next u k (next x) f).2)
abbrev dQ(S:eH)(x:Nat):Bool:=S.getD x true
def OM{S:eH}{y:Nat}(H:x<I S):dQ (S.set x true) y=if y=x then true else dQ S y:=by
 unfold dQ;rw[dS,dS,mA];by_cases h:x=y
 .subst h;simp[H]
 rw[aw h,aw (λe=>h e.symm)]
structure At (next:Nat->Nat) (n2 N:Nat):Prop where
 le:n2<=N
 lt:∀x,x<N->next x<N
 inj:∀x y,x<N->y<N->next x=next y->x=y
 ax:∀x,x<N->n2<=x->next x<n2
def P6(next:Nat->Nat)(N:Nat)(S:eH):Prop:=∀y,y<N->dQ S y=dQ S (next y)
structure Inv (next:Nat->Nat) (N d:Nat) (S:eH) (x:Nat):Prop where
 i1:∀y,y<N->dQ S (next y)->dQ S y\/next y=d
 i2:∀y,y<N->dQ S y->dQ S (next y)\/next y=x
 i4:dQ S x->x=d
 pr:(x=d/\dQ S x=false)\/ ∃p,p<N/\next p=x/\dQ S p
def Inv.start{next:Nat->Nat}{d:Nat}{S:eH}(h:P6 next N S)(f:dQ S d=false):Inv next N d S d:=
 ⟨λy H hs=>.inl (by rw[h y H];exact hs),λy H hs=>.inl (by rw[<-h y H];exact hs),λ_=>rfl,.inl ⟨rfl,f⟩⟩
def Inv.stop{next:Nat->Nat}{d:Nat}{S:eH}(m:At next u N)(h:Inv next N d S x)(A:dQ S x):P6 next N S:=by
 have g:=h.i4 A;subst g;intro y j;cases f:dQ S y with
 |true=>
  rcases h.i2 y j f with H|H
  .rw[H]
  rw[H,A]
 |false=>
  cases H:dQ S (next y)with
  |false=>rfl
  |true=>
   rcases h.i1 y j H with z|z
   .rw[z]at f;cases f
   rcases h.pr with⟨_,B⟩|⟨p,hp,L,D⟩
   .rw[A]at B;cases B
   have:=m.inj y p j hp (by rw[z,L]);rw[this,D]at f;cases f
def Inv.step{next:Nat->Nat}{d:Nat}{S:eH}(m:At next u N)(hl:I S=N)(E:x<N)(h:Inv next N d S x)(j:dQ S x=false):Inv next N d (S.set x true) (next x):=by
 have T:x<I S:=J;refine⟨λy f hs=>?_,λy f hs=>?_,λhs=>?_,.inr ⟨x,E,rfl,by rw[OM T,aH rfl]⟩⟩
 .rw[OM T]at hs |-;by_cases e:next y=x
  .rcases h.pr with⟨g,_⟩|⟨p,hp,L,D⟩
   .exact .inr (by rw[e,g])
   have:=m.inj y p f hp (by rw[e,L]);left;rw[this];split
   .rfl
   exact D
  rw[aw e]at hs;rcases h.i1 y f hs with H|H
  .left;split
   .rfl
   exact H
  exact .inr H
 .rw[OM T]at hs |-;by_cases e:y=x
  .subst e;exact .inr rfl
  rw[aw e]at hs;rcases h.i2 y f hs with H|H
  .left;split
   .rfl
   exact H
  left;rw[aH H]
 rw[OM T]at hs;by_cases e:next x=x
 .rcases h.pr with⟨g,_⟩|⟨p,hp,L,D⟩
  .rw[e,g]
  have:=m.inj p x hp E (by rw[L,e]);rw[this,j]at D;cases D
 rw[aw e]at hs;rcases h.i1 x E hs with H|H
 .rw[j]at H;cases H
 exact H
def ac5{S:eH}(h:x<u)(hl:u<=I S):(S.take u).getD x true=dQ S x:=by unfold dQ;rw[dS,dS,nN,aH h]
def akd{S:eH}:(S.take u).set x true=(S.set x true).take u:=by rw[<-List.take_set]
def amk{S:eH}(h:u<=x):(S.set x true).take u=S.take u:=by rw[List.take_set];exact Xc (by rw[iM];omega)
def aE5{next:Nat->Nat}{d:Nat}(m:At next u N)(F:d<u):∀(f x:Nat) (S:eH),I S=N->x<N->Inv next N d S x->zi S<f->
  P6 next N (gW next f x S).2/\Kn next u f x (S.take u)=((gW next f x S).1,(gW next f x S).2.take u):=by
 intro f
 induction f with
 |zero=>intro x S _ _ _ h;omega
 |succ f D=>
  intro x S hl y H L;have E:=m.le;unfold gW Kn;cases hs:S.getD x true with
  |true=>have z:=H.i4 hs;have A:x<u:=J;rw[aH A,ac5 A J,show dQ S x=true from hs];exact⟨H.stop m hs,rfl⟩
  |false=>
   have M:S[x]?=some false:=by
    rw[dS]at hs;cases j:S[x]? with
    |none=>rw[j]at hs;cases hs
    |some b=>rw[j]at hs;exact congrArg some hs
   have O:=Ns M;obtain⟨B,g⟩:=D (next x) (S.set x true) (by rw[kI,hl]) (m.lt x y) (H.step m hl y hs) J;simp only[eX,if_false];refine⟨B,?_⟩;by_cases A:x<u
   .rw[aH A,ac5 A J,show dQ S x=false from hs];simp only[eX,if_false];rw[akd,g]
   rw[aw A];rw[amk J]at g;rw[g]
def gy.lN(_:gy F h):∀x∈aL h,x<I h:=λ_ H=>U9 H
def gy.hp(ok:gy F h):∀v l,h[v]?=some l->(l.kind==2)=false->v∈aL h:=λ_ l H f=>uh.2 ⟨l,H,ok.Uq H f⟩
abbrev ct(ls:ae):Nat:=2*I ls+2*I (aL ls)
def uu(ok:gy F h):At (cA h) (2*I h) (ct h):=by
 refine⟨by unfold ct;omega,λx H=>Vz ok.lN ok.hp H,λx y H u A=>aso ok H u A,λx H z=>?_⟩;have H:x<2*I h+2*I (aL h):=H;have f:∀k,k<I (aL h)->(aL h).getD k 0<I h:=λk m=>by obtain⟨v,g⟩:=aR m;rw[dS,g];exact ok.lN v (ch g)
 have j:=fC ((x-2*I h)/2+1) (show 0<I (aL h) by omega);show jx h (aL h) x<_;unfold jx;rw[aH z];split
 .exact Dm (f _ j)
 exact Dm (f _ J)
def aoO(next:Nat->Nat):∀(k x:Nat) (S:eH) (y:Nat),dQ S y->dQ (gW next k x S).2 y:=by
 intro k
 induction k with
 |zero=>intro x S y h;exact h
 |succ k f=>
  intro x S y h;unfold gW;split
  .exact h
  refine f _ _ _ ?_;unfold dQ;rw[dS,mA];split
  .split<;>rfl
  rw[<-dS];exact h
def aj7(next:Nat->Nat)(k x:Nat)(S:eH)(H:zi S<k):dQ (gW next k x S).2 x:=by
 cases k with
 |zero=>omega
 |succ k=>
  unfold gW;cases hs:S.getD x true with
  |true=>simpa using hs
  |false=>
   simp only[eX,if_false];refine aoO _ _ _ _ _ ?_;unfold dQ;rw[dS,mA];split
   .split<;>rfl
   rename_i h;exact absurd rfl h
section
variable {next:Nat->Nat} {u N:Nat}
def acj(h:x<N):dQ (List.replicate N false) x=false:=by unfold dQ;rw[dS,List.getElem?_replicate,aH h];rfl
def Rp(m:At next u N):∀k,k<=u->P6 next N (eY next N k).2/\ ∀x,x<k->dQ (eY next N k).2 x:=by
 intro k
 induction k with
 |zero=>intro _;refine⟨λy g=>?_,λx h=>absurd h (mX x)⟩;show dQ (List.replicate N false) y=dQ (List.replicate N false) (next y);rw[acj g,acj (m.lt y g)]
 |succ k z=>
  intro D;obtain⟨c,s⟩:=z J;have H:=Gy next N k;have A:=m.le;rw[yX];unfold vC;cases hs:(eY next N k).2.getD k true with
  |true=>
   simp only[if_true];refine⟨c,λx f=>?_⟩;rcases m_.1 f with h|rfl
   .exact s x h
   exact hs
  |false=>
   simp only[eX,if_false];have j:=Km (eY next N k).2;obtain⟨B,_⟩:=aE5 m (show k<u by omega) ((eY next N k).2.length+1) k (eY next N k).2 H J (Inv.start c hs) J;refine⟨B,λx f=>?_⟩;rcases m_.1 f with h|rfl
   .exact aoO _ _ _ _ _ (s x h)
   exact aj7 _ _ _ _ J
def adQ(m:At next u N):∀k,u<=k->k<=N->eY next N k=eY next N u:=by
 intro k
 induction k with
 |zero=>intro h _;rw[show u=0 by omega]
 |succ k f=>
  intro x j;by_cases e:u=k+1
  .rw[e]
  rw[yX,f J J];obtain⟨c,s⟩:=Rp m u (cT _);unfold vC;have:(eY next N u).2.getD k true:=by have H:=c k J;have g:=s (next k) (m.ax k J J);show dQ (eY next N u).2 k=true;rw[H,g]
  rw[this];rfl
end
def ath(f:Int)(h:ae)(e:Nat)(hl:I h<=1000000)(H:e<I h):aJ S 139 [df f h,aC e] (dn (!c9 h (e+1))):=by have j:=Ir f h (e+1) hl J;have g:=cP (n:=e) J;refine bt aE7 ?_;simp only[go_sem,apI,g,zz,aD j,af,au]
def aut(w:aG)(R:I w<=1000000):aJ S 166 [.one (.p (uA w))] (.one (aX 3 1 (cg w.reverse))):=by
 have O:=u9 (a:=I w) J;refine bt auD ?_;simp only[go_sem,anK,O,af,au];refine c_ (λk m aj=>m 0=.one (.p (uA w))/\m 4=aC ((I w:Int)-1-(k:Int))/\aY 10624320384 3 1 (cg (w.reverse.take k)) (m 3) aj) 0 (I w) (cE _) ?_ ?_
 .simp only[go_sem];refine⟨aQ,.inl ⟨aQ,rfl⟩⟩
 rintro k m aj X ⟨D,H,z⟩
 by_cases A:k<I w
 .have e1:((I w:Int)-1-(k:Int))=((I w-1-k:Nat):Int):=J;rw[e1]at H;have j:(0:Int)<=((I w-1-k:Nat):Int):=J;obtain⟨v,L⟩:=aR (show I w-1-k<I w by omega);have F:=jZ L;have B:IntKind.i64.wrap (((I w-1-k:Nat):Int)-1)=((I w:Int)-1-((k+1:Nat):Int)):=by
   rw[u9 J];omega
  have Q:w.reverse[k]?=some v:=by rw[IW A];exact L
  have f:cg (w.reverse.take (k+1))=cg (w.reverse.take k)++[[.int .i64 (v:Int)]]:=by rw[iJ,Q];simp
  have x:I (cg (w.reverse.take k))=k:=by simp;omega
  rcases z with⟨e,h⟩|⟨M,g,h,u⟩
  .rw[e]at f x;have Y:k=0:=by simpa using x.symm
   simp only[go_sem,Oq,D,h,H,j,F,B,A,af,au];refine .inr ⟨by rw[f];simp,(aj 10624320384).1+1,?_,?_⟩
   .rw[f];rfl
   simp only[aT,if_true];rw[f];rfl
  rw[x]at h;have y:List.take k (cg (w.reverse.take k))=cg (w.reverse.take k):=e_ J;have N:(k+1)*8<=140737488355328:=J;have E:k<=I (cg (w.reverse.take k)):=J;generalize cg (w.reverse.take k)=T at f x u y E;simp only[go_sem,Oq,D,h,H,j,F,B,A,u,y,N,E,af,au];refine .inr ⟨by rw[f];simp,g+1,?_,?_⟩
  .rw[f];simp[x]
  simp only[aT,if_true];rw[f]
 have:k=I w:=J;subst this;have j:¬(0:Int)<=((I w:Int)-1-(I w:Int)):=J;have y:w.reverse.take (I w)=w.reverse:=e_ aQ;rw[y]at z;rcases z with⟨e,h⟩|⟨M,g,h,u⟩
 .simp only[go_sem,Oq,Wk,h,H,j,af,au];rw[aX,aH e]
 simp only[go_sem,Oq,Wk,h,H,j,af,au];rw[aX,aw M];exact E3 u aQ
abbrev fB(o:tK):s_:=o.map λp=>[PV.int .i64 (p.1:Int),PV.int .i64 (p.2:Int)]
def aC0{o:tK}{k:Nat}{p:Nat×Nat}(h:o[k]?=some p):(fB o)[k]?=some [.int .i64 (p.1:Int),.int .i64 (p.2:Int)]:=by simp[h]
def aHk(w:tK)(R:I w<=1000000):aJ S 165 [.one (.p (.sl (fB w)))] (.one (aX 198 2 (fB w.reverse))):=by
 have O:=u9 (a:=I w) J;refine bt aE3 ?_;simp only[go_sem,amS,O,af,au];refine c_ (λk m aj=>m 0=.one (.p (.sl (fB w)))/\m 4=aC ((I w:Int)-1-(k:Int))/\aY 10560320384 198 2 (fB (w.reverse.take k)) (m 3) aj) 0 (I w) (cE _) ?_ ?_
 .simp only[go_sem];refine⟨aQ,.inl ⟨aQ,rfl⟩⟩
 rintro k m aj X ⟨D,H,z⟩
 by_cases A:k<I w
 .have e1:((I w:Int)-1-(k:Int))=((I w-1-k:Nat):Int):=J;rw[e1]at H;have j:(0:Int)<=((I w-1-k:Nat):Int):=J;obtain⟨v,L⟩:=aR (show I w-1-k<I w by omega);have F:=aC0 L;have B:IntKind.i64.wrap (((I w-1-k:Nat):Int)-1)=((I w:Int)-1-((k+1:Nat):Int)):=by
   rw[u9 J];omega
  have Q:w.reverse[k]?=some v:=by rw[IW A];exact L
  have f:fB (w.reverse.take (k+1))=fB (w.reverse.take k)++[[.int .i64 (v.1:Int),.int .i64 (v.2:Int)]]:=by rw[iJ,Q];simp
  have x:I (fB (w.reverse.take k))=k:=by simp;omega
  rcases z with⟨e,h⟩|⟨M,g,h,u⟩
  .rw[e]at f x;have Y:k=0:=by simpa using x.symm
   simp only[go_sem,P5,D,h,H,j,F,B,A,af,au];refine .inr ⟨by rw[f];simp,(aj 10560320384).1+1,?_,?_⟩
   .rw[f];rfl
   simp only[aT,if_true];rw[f];rfl
  rw[x]at h;have y:List.take k (fB (w.reverse.take k))=fB (w.reverse.take k):=e_ J;have N:(k+1)*16<=140737488355328:=J;have E:k<=I (fB (w.reverse.take k)):=J;generalize fB (w.reverse.take k)=T at f x u y E;simp only[go_sem,P5,D,h,H,j,F,B,A,u,y,N,E,af,au];refine .inr ⟨by rw[f];simp,g+1,?_,?_⟩
  .rw[f];simp[x]
  simp only[aT,if_true];rw[f]
 have:k=I w:=J;subst this;have j:¬(0:Int)<=((I w:Int)-1-(I w:Int)):=J;have y:w.reverse.take (I w)=w.reverse:=e_ aQ;rw[y]at z;rcases z with⟨e,h⟩|⟨M,g,h,u⟩
 .simp only[go_sem,P5,aee,h,H,j,af,au];rw[aX,aH e]
 simp only[go_sem,P5,aee,h,H,j,af,au];rw[aX,aw M];exact E3 u aQ
def oV(g r to:Nat):tK:=(g,r)::(List.range (to-g)).map λi=>(g+1+i,0)
def sC(g to:Nat):aG:=(List.range (to-g)).map λi=>g+1+i
def ny(g r k:Nat):tK:=(g,r)::(List.range k).map λi=>(g+1+i,0)
def rT(g k:Nat):aG:=(List.range k).map λi=>g+1+i
def aty(g r k:Nat):fB (ny g r (k+1))=fB (ny g r k)++[[.int .i64 ((g+1+k:Nat):Int),.int .i64 0]]:=by simp[ny,r9]
def aGj(g k:Nat):cg (rT g (k+1))=cg (rT g k)++[[.int .i64 ((g+1+k:Nat):Int)]]:=by simp[rT,r9]
def awT(g r k:Nat)(v:V)(aj:aB):Prop:=(k=0/\ ∃e,v=.one (.hsl 12800064192 e 2 0 1)/\aj 12800064192=(e,some (.arr 198 2 (fB (ny g r 0)))))\/
 (k≠0/\ ∃e,v=.one (.hsl 12800384256 e 2 0 (k+1))/\aj 12800384256=(e,some (.arr 198 2 (fB (ny g r k)))))
def axd(g r to:Nat)(hg:g<=1000)(hr:r<=1000000)(ht:to<=1000):aJ S 200 [aC g,aC r,aC to] (.tup [.one (.own 198 2 (fB (oV g r to))),.one (aX 3 1 (cg (sC g to)))]):=by
 have Y:=cP (n:=g) J;refine bt atn ?_;simp only[go_sem,alb,Y,af,au];refine c_ (λk m aj=>m 2=aC to/\m 10=aC ((g+1+k:Nat):Int)/\awT g r k (m 8) aj/\aY 12800448192 3 1 (cg (rT g k)) (m 9) aj) 0 (to-g) (cE _) ?_ ?_
 .simp only[go_sem];exact⟨.inl ⟨rfl,1,rfl,rfl⟩,.inl ⟨rfl,rfl⟩⟩
 rintro k m aj hk ⟨E,D,hs,z⟩
 by_cases Q:k<to-g
 .have h:((g+1+k:Nat):Int)<=(to:Int):=J;have M:=cP (n:=g+1+k) J;have hp:=aty g r k;have F:=aGj g k;rcases hs with⟨rfl,e,j,H⟩|⟨wH,e,j,H⟩
  .rcases z with⟨_,f⟩|⟨A,_⟩
   .have O:I (fB (ny g r 0))=1:=by simp[ny]
    have T:List.take 1 (fB (ny g r 0))=fB (ny g r 0):=e_ J;have N:1<=I (fB (ny g r 0)):=J;generalize fB (ny g r 0)=ps at hp H T N;simp only[go_sem,P2,E,j,f,D,H,h,M,Q,T,N,af,au];refine⟨.inr ⟨J,(aj 12800384256).1+1,rfl,?_⟩,.inr ⟨by simp[rT],(aj 12800448192).1+1,?_,?_⟩⟩
    .simp only[aT,if_true,reduceIte,Nat.reduceEqDiff];rw[hp]
    .rfl
    simp only[aT,if_true];rfl
   exact absurd rfl A
  rcases z with⟨L,_⟩|⟨A,e2,f,B⟩
  .exact absurd L (by simp[rT];omega)
  have y:I (cg (rT g k))=k:=by simp[rT]
  have O:I (fB (ny g r k))=k+1:=by simp[ny]
  rw[y]at f;have T:List.take (k+1) (fB (ny g r k))=fB (ny g r k):=e_ J;have x:List.take k (cg (rT g k))=cg (rT g k):=e_ J;have r1:(k+1+1)*16<=140737488355328:=J;have Z:(k+1)*8<=140737488355328:=J;have N:k+1<=I (fB (ny g r k)):=J;have u:k<=I (cg (rT g k)):=J;generalize fB (ny g r k)=ps at hp H T N;generalize cg (rT g k)=fs at F B x u y A;simp only[go_sem,P2,E,j,f,D,H,B,h,M,Q,T,x,r1,Z,N,u,af,au];refine⟨rfl,.inr ⟨J,e+1,rfl,?_⟩,.inr ⟨by rw[F];simp,e2+1,?_,?_⟩⟩
  .simp only[aT,if_true,reduceIte,Nat.reduceEqDiff];rw[hp]
  .rw[F];simp[y]
  simp only[aT,if_true];rw[F]
 have:k=to-g:=J;subst this;have h:¬((g+1+(to-g):Nat):Int)<=(to:Int):=J;have e1:oV g r to=ny g r (to-g):=rfl;have e2:sC g to=rT g (to-g):=rfl;rw[e1,e2];generalize R:to-g=bK at hs z;have O:I (fB (ny g r bK))=bK+1:=by simp[ny]
 have y:I (cg (rT g bK))=bK:=by simp[rT]
 rw[R]at h D;rcases hs with⟨rfl,e,j,H⟩|⟨wH,e,j,H⟩
 .rcases z with⟨X,f⟩|⟨A,_⟩
  .have T:List.take 1 (fB (ny g r 0))=fB (ny g r 0):=e_ J;have N:1<=I (fB (ny g r 0)):=J;rw[aX,aH X];generalize fB (ny g r 0)=ps at H T N;simp only[go_sem,P2,aei,E,j,f,D,h,af,au];simp only[go_sem,gr,nx,tH,k5,kj,gR,H,T,N,af,au];rfl
  exact absurd rfl A
 rcases z with⟨L,_⟩|⟨A,e3,f,B⟩
 .exact absurd L (by simp[rT];omega)
 rw[y]at f;have T:List.take (bK+1) (fB (ny g r bK))=fB (ny g r bK):=e_ J;have x:List.take bK (cg (rT g bK))=cg (rT g bK):=e_ J;have N:bK+1<=I (fB (ny g r bK)):=J;have u:bK<=I (cg (rT g bK)):=J;rw[aX,aw A];generalize fB (ny g r bK)=ps at H T N;generalize cg (rT g bK)=fs at B x u;simp only[go_sem,P2,aei,E,j,f,D,h,af,au];simp only[go_sem,gr,nx,tH,k5,kj,gR,H,B,T,x,N,u,af,au];rfl
abbrev wi:Nat:=198
def xV (h:ae)(i:Nat):Nat:=match h[i]? with|some l=>l.gate.toNat|none=>0
def Rs (h:ae)(i:Nat):Nat:=match h[i]? with|some l=>l.ay.toNat|none=>0
def Aw{i:Nat}{l:aa}(H:h[i]?=some l):xV h i=l.gate.toNat:=by simp[xV,H]
def ahV{i:Nat}{l:aa}(H:h[i]?=some l):Rs h i=l.ay.toNat:=by simp[Rs,H]
def qE(F:Nat)(h:ae)(j:Nat):tK:=
 let u:=(aL h).getD j 0
 let v:=(aL h).getD ((j+1)%I (aL h)) 0
 if j+1<I (aL h) then oV (xV h u) (Rs h u) (xV h v)else oV (xV h u) (Rs h u) F++oV 0 0 (xV h v)
def zW(F:Nat)(h:ae)(j:Nat):aG:=
 let u:=(aL h).getD j 0
 let v:=(aL h).getD ((j+1)%I (aL h)) 0
 if j+1<I (aL h) then sC (xV h u) (xV h v)else sC (xV h u) F++sC 0 (xV h v)
def Aj(a b:tK):fB (a++b)=fB a++fB b:=aQ
def yW(a b:aG):cg (a++b)=cg a++cg b:=aQ
def xg(g r to:Nat):I (oV g r to)=to-g+1:=by simp[oV]
def OJ(g to:Nat):I (sC g to)=to-g:=by simp[sC]
def aeR(g r to:Nat)(H:g<=1000)(j:r<=1000000)(f:to<=1000):aJ S 200 [aC g,aC r,aC to] (.tup [.one (aX wi 2 (fB (oV g r to))),.one (aX 3 1 (cg (sC g to)))]):=by have h:=axd g r to H j f;have e:aX wi 2 (fB (oV g r to))=.own wi 2 (fB (oV g r to)):=aw (by simp[oV]);rw[e];exact h
def V2(ok:gy F h)(m:j<I (aL h)):∃u l,(aL h)[j]?=some u/\(aL h).getD j 0=u/\h[u]?=some l/\l.aM/\vf F h l:=by obtain⟨u,H⟩:=aR m;obtain⟨l,f,g⟩:=uh.1 (ch H);exact⟨u,l,H,by rw[dS,H];rfl,f,g,ok.ax.fK l (ch f) g⟩
def aqp(ok:gy F h)(hF:F<=1000)(hj:j<I (aL h)):
  aJ S 164 [df F h,.one (.p (uA (aL h))),aC j] (.tup [.one (aX wi 2 (fB (qE F h j))),.one (aX 3 1 (cg (zW F h j)))]):=by
 have hl:=ok.hl;have hJ:I (aL h)<=1000000:=lX (uq h (I h)) hl;have hm:=fC (j+1) (show 0<I (aL h) by omega);obtain⟨u,p,hu,du,hp,pp,gp⟩:=V2 ok hj;obtain⟨v,q,hv,dv,Z,pq,L⟩:=V2 ok hm;unfold qE zW;simp only[du,dv,Aw hp,Aw Z,ahV hp];have M:=fP hp;have A9:=fP Z;have N:=jZ hu;have E:=jZ hv;have e1:=tf (j+1) (I (aL h));have T:=cP (n:=j) J;have w2:=C7 (a:=I (aL h)) J J;have X:¬((I (aL h):Int)=0):=J
 have I5:=gp.g0;have Cn:=gp.g1;have wH:=L.g0;have dd:=L.g1;have ue:=gp.r0;have m:=gp.r1;have Pl:di h p.gate.toNat<=I h:=qk _ _;obtain⟨pg,g⟩:=qX (show 0<=p.gate by omega);obtain⟨pr,f⟩:=qX (show 0<=p.ay by omega);obtain⟨Q,H⟩:=qX (show 0<=q.gate by omega);rw[g]at Cn m Pl I5;rw[f]at m ue;rw[H]at wH dd;rw[g,f,H];simp only[s9]at m Pl |-;refine bt aw5 ?_;have iI:S.lone 10496192384=false:=ah;have mU:S.lone 10496256384=false:=ah;have Qv:S.lone 10496320128=false:=ah;by_cases B:j+1<I (aL h)
 .have A:(j:Int)<((I (aL h)-1:Nat):Int):=J;have ps:=aeR pg pr Q J J J;simp only[aH B];simp only[go_sem,Xa,N,E,M,A9,pF,aa.ps,T,e1,w2,A,X,g,f,H,apE];refine⟨aI,?_⟩;refine Mf ps iI λc e ao y x hb=>?_;simp only[go_sem];exact Kl U y x
 have A:¬(j:Int)<((I (aL h)-1:Nat):Int):=J;have ps:=aeR pg pr F J J J;have R:=aeR 0 0 Q J J J;have e0:((0:Nat):Int)=0:=rfl;rw[e0]at R;simp only[aw B];simp only[go_sem,Xa,N,E,M,A9,pF,aa.ps,T,e1,w2,A,X,g,f,H,apE];refine⟨aI,?_⟩;refine Mf ps mU λc e bY y x cF=>?_;simp only[go_sem,cF,H];refine Mf R Qv λc2 e2 bJ O A2 Y=>?_;simp only[go_sem];obtain⟨r1,ug,_⟩:=O.elems;refine l_ (y.of_eq (Y _ U U)) ug O.au (by simp only[cH,xg];omega) λc3 fy zJ D=>?_;simp only[go_sem];obtain⟨r2,zS,_⟩:=(A2.of_eq (D _ U U)).elems;refine l_ (x.of_eq ((D _ U U).trans (Y _ U U))) zS A2.au (by simp only[cH,OJ];omega) λc5 jF z eQ=>?_
 simp only[go_sem];rw[Aj,yW];exact Kl U (zJ.of_eq (eQ _ U U)) z
structure dV where
 gZ:Bool
 cn:aG
 places:tK
 wm:aG
 outer:Bool
abbrev CU:=List dV
def dV.ps(f:dV):b_:=[.bool f.gZ,.sl (cg f.cn),.sl (fB f.places),.sl (cg f.wm),.bool f.outer]
def dV.add(F:Nat)(h:ae)(f:dV)(x:Nat):dV:=
 if x<2*I h then{f with cn:=f.cn++[x]}
 else{f with places:=f.places++(if x%2=0 then qE F h ((x-2*I h)/2)else(qE F h ((x-2*I h)/2)).reverse),wm:=f.wm++(if x%2=0 then zW F h ((x-2*I h)/2)else(zW F h ((x-2*I h)/2)).reverse),outer:=f.outer||decide ((x-2*I h)/2+1=I (aL h))}
def dV.new(h:ae)(d:Nat):dV:=⟨c9 h (d/2+1),[],[],[],false⟩
def zp(F:Nat)(h:ae)(w:aG)(k:Nat):dV:=(w.take k).foldl (dV.add F h) (dV.new h (w.headD 0))
def jC(F:Nat)(h:ae)(w:aG):dV:=w.foldl (dV.add F h) (dV.new h (w.headD 0))
def eD(F:Nat)(h:ae):CU:=(fO (cA h) (ct h)).map (jC F h)
def azg(F:Nat)(h:ae)(w:aG):zp F h w (I w)=jC F h w:=by unfold zp jC;rw[jN]
def aj6{w:aG}{k:Nat}(H:w[k]?=some x):zp F h w (k+1)=(zp F h w k).add F h x:=by unfold zp;rw[iJ,H,za];rfl
def Sf(ok:gy F h)(f:j<I (aL h)):xV h ((aL h).getD j 0)<=F:=by obtain⟨u,l,_,D,hl,_,H⟩:=V2 ok f;rw[D,Aw hl];have:=H.g1;have:=H.g0;omega
def Uc(ok:gy F h)(H:j<I (aL h)):I (qE F h j)<=2*F+2:=by have f:=Sf ok H;have g:=Sf ok (fC (j+1) (show 0<I (aL h) by omega));unfold qE;simp only;split<;>simp only[fv,xg]<;>omega
def RT(ok:gy F h)(H:j<I (aL h)):I (zW F h j)<=2*F+2:=by have f:=Sf ok H;have g:=Sf ok (fC (j+1) (show 0<I (aL h) by omega));unfold zW;simp only;split<;>simp only[fv,OJ]<;>omega
def aw7(ok:gy F h){w:aG}(g:∀x∈w,x<ct h):∀k,k<=I w->(zp F h w k).cn.length<=k/\(zp F h w k).places.length<=k*(2*F+2)/\(zp F h w k).wm.length<=k*(2*F+2):=by
 intro k
 induction k with
 |zero=>intro _;exact⟨cT _,cE _,cE _⟩
 |succ k j=>
  intro y;obtain⟨x,H⟩:=aR (show k<I w by omega);obtain⟨i1,i2,u⟩:=j J;have X:=g x (ch H);rw[aj6 H,Ie];unfold dV.add;by_cases m:x<2*I h
  .rw[aH m];simp only[fv,dw,eK];exact⟨J,J,J⟩
  rw[aw m];have f:(x-2*I h)/2<I (aL h):=by unfold ct at X;omega
  have L:=Uc ok f;have z:=RT ok f;refine⟨by simp only;omega,?_,?_⟩
  .simp only[fv];split<;>(try rw[lK])<;>omega
  simp only[fv];split<;>(try rw[lK])<;>omega
def aEu(next:Nat->Nat):∀(k x:Nat) (S:eH),∀y∈(gW next k x S).1,y<I S:=by
 intro k
 induction k with
 |zero=>intro x S y h;simp[gW]at h
 |succ k g=>
  intro x S y h;unfold gW at h;cases hs:S.getD x true with
  |true=>rw[hs]at h;simp at h
  |false=>
   rw[hs]at h;have f:x<I S:=by
    rcases LB x (I S) with H|H
    .exact H
    rw[dS,oF H]at hs;cases hs
   simp only[eX,if_false,dk]at h;rcases h with rfl|h
   .exact f
   have:=g _ _ y h
   simpa using this
def aA2(next:Nat->Nat):∀(k x:Nat) (S:eH),(gW next k x S).1.length<=zi S:=by
 intro k
 induction k with
 |zero=>intro x S;simp[gW]
 |succ k f=>
  intro x S;unfold gW;cases hs:S.getD x true with
  |true=>simp
  |false=>
   have M:S[x]?=some false:=by
    rw[dS]at hs;cases h:S[x]? with
    |none=>rw[h]at hs;cases hs
    |some b=>rw[h]at hs;exact congrArg some hs
   have H:=Ns M;have:=f (next x) (S.set x true);simp only[eX,if_false,dw];omega
def agn(next:Nat->Nat){k:Nat}{S:eH}(h:S.getD x true=false):∃t,(gW next (k+1) x S).1=x::t:=by unfold gW;rw[h];exact⟨_,rfl⟩
def aqY(next:Nat->Nat)(N:Nat):∀k,∀w∈(eY next N k).1,(∃d t,w=d::t/\d<k)/\I w<=N/\ ∀y∈w,y<N:=by
 intro k
 induction k with
 |zero=>intro w h;simp[eY]at h
 |succ k x=>
  intro w h;rw[yX]at h;unfold vC at h;have f:=Gy next N k;have O:w∈(eY next N k).1->(∃d t,w=d::t/\d<k+1)/\I w<=N/\ ∀y∈w,y<N:=λh=>by obtain⟨⟨d,t,H,g⟩,u⟩:=x w h;exact⟨⟨d,t,H,J⟩,u⟩
  cases hs:(eY next N k).2.getD k true with
  |true=>simp only[hs,if_true]at h;exact O h
  |false=>
   simp only[hs,eX,if_false,fc,kV]at h;rcases h with h|rfl
   .exact O h
   obtain⟨t,m⟩:=agn next (k:=(eY next N k).2.length) hs;refine⟨⟨k,t,m,J⟩,?_,λy j=>?_⟩
   .have H:=aA2 next ((eY next N k).2.length+1) k (eY next N k).2;have g:=Km (eY next N k).2;omega
   have:=aEu next _ _ _ y j;omega
def LL(ok:gy F h):∀w∈fO (cA h) (ct h),(∃d t,w=d::t/\d<2*I h)/\I w<=ct h/\ ∀y∈w,y<ct h:=by intro w H;unfold fO at H;rw[adQ (uu ok) (ct h) (by unfold ct;omega) (cT _)]at H;exact aqY (cA h) (ct h) _ w H
abbrev uO:Nat:=178
abbrev Lb(o:List aG):s_:=o.map λw=>[uA w]
def atA{o:List aG}{k:Nat}{w:aG}(h:o[k]?=some w):(Lb o)[k]?=some [uA w]:=by simp[h]
def jV:aG:=[8576000000,8576128064,8576192064,8576576512,8576896448,8577216192,8577280192,8577408192]
structure aaP (F:Nat) (ls:ae) (outs:s_) (gA qZ gF:Nat) (f:dV) (cd cp cf vo:c6) (aj:aB):Prop where
 b0:aj 8576000000=(1,some (.var (oz F ls)))
 bA:aj 8576128064=(gA,some (.arr 3 1 (cg (aL ls))))
 bW:aj 8576192064=(qZ,some (.arr 110 1 (Lb (fO (cA ls) (ct ls)))))
 bF:aj 8576576512=(gF,some (.var [.p (.bool f.gZ),cd,cp,cf,.p (.bool f.outer)]))
 gd:aY 8576896448 3 1 (cg f.cn) (.one cd) aj
 gp:aY 8577216192 wi 2 (fB f.places) (.one cp) aj
 gf:aY 8577280192 3 1 (cg f.wm) (.one cf) aj
 go:aY 8577408192 uO 5 outs (.one vo) aj
def au9{F:Nat}{h:ae}(ok:gy F h)(hF:F<=1000){w:aG}(hw:∀x∈w,x<ct h)(iX:I w<=ct h){ac:s_}{gA qZ gF i:Nat}{vo:c6}{m:bn}{aj:aB}
  (e1:m 1=.one (.bh 8576000000 1 0)) (e3:m 3=.one vo) (e4:m 4=.one (.hsl 8576128064 gA 1 0 (I (aL h)))) (e5:m 5=.one (.hsl 8576192064 qZ 1 0 (I (fO (cA h) (ct h))))) (e6:m 6=aC (I h)) (e7:m 7=aC i) (e8:m 8=.one (.p (uA w))) (e9:m 9=.one (.bh 8576576512 gF 0)) (fD:m 10=aC 0)
  (H:aaP F h ac gA qZ gF (zp F h w 0) y A z vo aj)
  (hq:∀g ao Az qN zo,g 1=m 1->g 3=m 3->g 4=m 4->g 5=m 5->g 6=m 6->g 7=m 7->g 9=m 9->aaP F h ac gA qZ gF (jC F h w) Az qN zo vo ao->Q .normal g ao):
  bP S .all (.loop NT) (ld 2 Q) m aj:=by
 have hl:=ok.hl;have hJ:I (aL h)<=1000000:=lX (uq h (I h)) hl;have gk:ct h<=4000000:=by unfold ct;omega
 have m2:=tP (a:=I h) J;refine c_ (λk g ao=>g 1=.one (.bh 8576000000 1 0)/\g 3=.one vo/\g 4=.one (.hsl 8576128064 gA 1 0 (I (aL h)))/\g 5=.one (.hsl 8576192064 qZ 1 0 (I (fO (cA h) (ct h))))/\g 6=aC (I h)/\g 7=aC i/\g 8=.one (.p (uA w))/\g 9=.one (.bh 8576576512 gF 0)/\g 10=aC k/\
   ∃y A z,aaP F h ac gA qZ gF (zp F h w k) y A z vo ao) 0 (I w) (cE _) ⟨e1,e3,e4,e5,e6,e7,e8,e9,fD,y,A,z,H⟩ ?_
 rintro k g aj hk ⟨M,L,B,O,R,N,X,T,Y,y,A,z,H⟩
 by_cases aq:k<I w
 .have aO:((k:Int)<(I w:Int)):=J;obtain⟨x,hx⟩:=aR aq;have xM:=hw x (ch hx);have zP:=jZ hx;have w1:=cP (n:=k) J;obtain⟨l1,l2,l3⟩:=aw7 ok hw k J;have hs:=aj6 (F:=F) (h:=h) hx;have aN:k*(2*F+2)<=4000000*2002:=PR J J;generalize zp F h w k=f at H hs l1 l2 l3;unfold dV.add at hs;by_cases hd:x<2*I h
  .rw[aH hd]at hs;have Cj:((x:Int)<((2*I h:Nat):Int)):=J;simp only[go_sem,NT,M,L,B,O,R,N,X,T,Y,H.bF,aq,aO,zP,m2,Cj];generalize hG:(aj 8576896384).1+1=g2;refine nP (y:=8576896448) (id:=8576896448) (B:=[[.int .i64 (x:Int)]]) (rd:=[8576896384]) (H.gd.of_eq (by simp[aT])) (by simp[fz,aT]) (.inl rfl) (by simp only[cH,dw,eK];omega) λc bY r a1 hc hb hr=>?_;have qo:∀i∈jV,i≠8576896448->bY i=aj i:=λi j hn=>by
    rw[hb i hn hn,aT,aw (PO j U).symm.symm]
   have az:=(qo 8576576512 (by simp[jV]) U).trans H.bF;simp only[go_sem,az,M,L,B,O,R,N,X,T,Y,w1,aq];refine⟨?_,c,A,z,?_⟩
   .rcases hr with⟨rfl,rfl⟩|⟨rfl,rfl⟩|⟨rfl,rfl⟩<;>kernel_rfl
   rw[hs];refine⟨?_,?_,?_,?_,?_,?_,?_,?_⟩
   .simp only[aT,Nat.reduceEqDiff,if_false];exact(qo _ (by simp[jV]) U).trans H.b0
   .simp only[aT,Nat.reduceEqDiff,if_false];exact(qo _ (by simp[jV]) U).trans H.bA
   .simp only[aT,Nat.reduceEqDiff,if_false];exact(qo _ (by simp[jV]) U).trans H.bW
   .simp only[aT,if_true]
   .rw[yW];exact hc.of_eq (by simp[aT])
   .exact(H.gp.of_eq (qo _ (by simp[jV]) U)).of_eq (by simp[aT])
   .exact(H.gf.of_eq (qo _ (by simp[jV]) U)).of_eq (by simp[aT])
   exact(H.go.of_eq (qo _ (by simp[jV]) U)).of_eq (by simp[aT])
  rw[aw hd]at hs;have hj:(x-2*I h)/2<I (aL h):=by unfold ct at xM;omega
  have pp:=aqp ok hF hj;have lP:=Uc ok hj;have lF:=RT ok hj;have Cj:¬((x:Int)<((2*I h:Nat):Int)):=J;have ws:=SH (a:=x) (b:=2*I h) J J;have wq:=wrap_small (n:=(x-2*I h)/2) J;have w2:=C7 (a:=I (aL h)) J J;have t1:List.take (I (aL h)) (cg (aL h))=cg (aL h):=e_ aQ;have I2:((((x-2*I h)/2:Nat):Int)==((I (aL h)-1:Nat):Int))=decide ((x-2*I h)/2+1=I (aL h)):=by
   by_cases a0:(x-2*I h)/2+1=I (aL h)
   .rw[xi a0];simp;omega
   rw[tJ a0];simp;omega
  have iI:S.lone 8577024192=false:=ah;have mU:S.lone 8577152064=false:=ah;have Qv:S.lone 8577152192=false:=ah;have ad:∀l:tK,((fB l).all λe=>e.all PV.scalar):=λl=>by simp[PV.scalar]
  have ag:∀l:aG,((cg l).all λe=>e.all PV.scalar):=λl=>by simp[PV.scalar]
  generalize qE F h ((x-2*I h)/2)=PP at*;generalize zW F h ((x-2*I h)/2)=FF at*;simp only[go_sem,NT,M,L,B,O,R,N,X,T,Y,H.bF,H.b0,H.bA,aq,aO,zP,m2,Cj,ws,wq,fF,ik,t1,aBd];refine ave pp iI (ad _) (ag _) λc e bY hc he hb=>?_;have an:∀i∈jV,bY i=aj i:=λi j=>hb i (PO j U) (PO j U);by_cases eB:x%2=0
  .have CB:((x:Int).tmod 2 !=0)=false:=by rw[kz,eB];rfl
   simp only[aH eB]at hs;have hP:=hc;have hE:=he;have FL:=an;have lE:=lF;have ab:=(FL _ (by simp[jV])).trans H.bF;simp only[go_sem,fF,CB,zP,aq,ab,M,L,B,O,R,N,X,T,Y];obtain⟨rP,Jo,_⟩:=hP.elems;refine l_ (y:=8577216192) (id:=8577216192) (bytes:=16) (H.gp.of_eq (FL _ (by simp[jV]))) Jo hP.au (by simp only[cH,lK];omega) λc2 bJ l9 bl=>?_
   have BQ:=(bl 8576576512 U U).trans ab;simp only[go_sem,BQ,M,L,B,O,R,N,X,T,Y];obtain⟨rE,Jn,_⟩:=(hE.of_eq (ao:=dE bJ 8576576512 (gF,some (.var [.p (.bool f.gZ),y,c2,z,.p (.bool f.outer)]))) ((bU U).trans (bl _ U U))).elems;refine l_ (y:=8577280192) (id:=8577280192) (bytes:=8) (H.gf.of_eq ((bU U).trans ((bl _ U U).trans (FL _ (by simp[jV]))))) Jn hE.au (by simp only[cH,lK];omega) λc3 fy zJ Z=>?_
   have xr:=(Z 8576576512 U U).trans (sW (b:=bJ) (a:=8576576512) (x:=(gF,some (.var [.p (.bool f.gZ),y,c2,z,.p (.bool f.outer)]))));have D:∀i∈jV,i≠8576576512->i≠8577216192->i≠8577280192->fy i=aj i:=λi j n1 u n3=>(Z i n3 n3).trans ((bU n1).trans ((bl i u u).trans (FL i j)));have E:∀aA y2:Nat×Option fZ,∀i,i≠8576576512->dE (dE fy 8576576512 aA) 8576576512 y2 i=fy i:=λaA y2 i j=>(bU j).trans (bU j);cases ho:f.outer with
   |true=>
    rw[ho]at xr;simp only[go_sem,xr,M,L,B,O,R,N,X,T,Y,w1,aq];refine⟨y,c2,c3,?_⟩;rw[hs];exact⟨(E _ _ _ U).trans ((D _ (by simp[jV]) U U U).trans H.b0),(E _ _ _ U).trans ((D _ (by simp[jV]) U U U).trans H.bA),(E _ _ _ U).trans ((D _ (by simp[jV]) U U U).trans H.bW),(by rw[sW];simp[ho]),
     H.gd.of_eq ((E _ _ _ U).trans (D _ (by simp[jV]) U U U)),(Aj _ _▸l9).of_eq ((E _ _ _ U).trans ((Z _ U U).trans (bU U))),(yW _ _▸zJ).of_eq (E _ _ _ U),H.go.of_eq ((E _ _ _ U).trans (D _ (by simp[jV]) U U U))⟩
   |false=>
    rw[ho]at xr;simp only[go_sem,xr,M,L,B,O,R,N,X,T,Y,w1,w2,aq,I2];refine⟨y,c2,c3,?_⟩;rw[hs];exact⟨(E _ _ _ U).trans ((D _ (by simp[jV]) U U U).trans H.b0),(E _ _ _ U).trans ((D _ (by simp[jV]) U U U).trans H.bA),(E _ _ _ U).trans ((D _ (by simp[jV]) U U U).trans H.bW),(by rw[sW];simp[ho]),
     H.gd.of_eq ((E _ _ _ U).trans (D _ (by simp[jV]) U U U)),(Aj _ _▸l9).of_eq ((E _ _ _ U).trans ((Z _ U U).trans (bU U))),(yW _ _▸zJ).of_eq (E _ _ _ U),H.go.of_eq ((E _ _ _ U).trans (D _ (by simp[jV]) U U U))⟩
  have CB:((x:Int).tmod 2 !=0):=by rw[kz,show x%2=1 by omega];rfl
  simp only[aw eB]at hs;obtain⟨r1,ar,_⟩:=hc.ia;simp only[go_sem,fF,CB,zP,aq,ar,M,L,B,O,R,N,X,T,Y,ayO];refine qW (aHk PP J) mU (.inr (pA (ad _))) λc1 bJ ji bl=>?_;have A2:=he.of_eq (bl _ U);obtain⟨r2,av,_⟩:=A2.ia;simp only[go_sem,av,M,L,B,O,R,N,X,T,Y,ata];refine qW (aut FF J) Qv (.inr (pA (ag _))) λe1 fy ap Z=>?_;have FL:∀i∈jV,fy i=aj i:=λi j=>(Z i (PO j U)).trans ((bl i (PO j U)).trans (an i j));have hP:=ji.of_eq (Z _ U);have hE:=ap;have lE:I FF.reverse<=2*F+2:=by rw[lK];exact lF
  have lP:I PP.reverse<=2*F+2:=by rw[lK];exact lP
  have ab:=(FL _ (by simp[jV])).trans H.bF;simp only[go_sem,fF,CB,zP,aq,ab,M,L,B,O,R,N,X,T,Y];obtain⟨rP,Jo,_⟩:=hP.elems;refine l_ (y:=8577216192) (id:=8577216192) (bytes:=16) (H.gp.of_eq (FL _ (by simp[jV]))) Jo hP.au (by simp only[cH,lK];omega) λc2 bJ l9 bl=>?_
  have BQ:=(bl 8576576512 U U).trans ab;simp only[go_sem,BQ,M,L,B,O,R,N,X,T,Y];obtain⟨rE,Jn,_⟩:=(hE.of_eq (ao:=dE bJ 8576576512 (gF,some (.var [.p (.bool f.gZ),y,c2,z,.p (.bool f.outer)]))) ((bU U).trans (bl _ U U))).elems;refine l_ (y:=8577280192) (id:=8577280192) (bytes:=8) (H.gf.of_eq ((bU U).trans ((bl _ U U).trans (FL _ (by simp[jV]))))) Jn hE.au (by simp only[cH,lK];omega) λc3 fy zJ Z=>?_
  have xr:=(Z 8576576512 U U).trans (sW (b:=bJ) (a:=8576576512) (x:=(gF,some (.var [.p (.bool f.gZ),y,c2,z,.p (.bool f.outer)]))));have D:∀i∈jV,i≠8576576512->i≠8577216192->i≠8577280192->fy i=aj i:=λi j n1 u n3=>(Z i n3 n3).trans ((bU n1).trans ((bl i u u).trans (FL i j)));have E:∀aA y2:Nat×Option fZ,∀i,i≠8576576512->dE (dE fy 8576576512 aA) 8576576512 y2 i=fy i:=λaA y2 i j=>(bU j).trans (bU j);cases ho:f.outer with
  |true=>
   rw[ho]at xr;simp only[go_sem,xr,M,L,B,O,R,N,X,T,Y,w1,aq];refine⟨y,c2,c3,?_⟩;rw[hs];exact⟨(E _ _ _ U).trans ((D _ (by simp[jV]) U U U).trans H.b0),(E _ _ _ U).trans ((D _ (by simp[jV]) U U U).trans H.bA),(E _ _ _ U).trans ((D _ (by simp[jV]) U U U).trans H.bW),(by rw[sW];simp[ho]),
    H.gd.of_eq ((E _ _ _ U).trans (D _ (by simp[jV]) U U U)),(Aj _ _▸l9).of_eq ((E _ _ _ U).trans ((Z _ U U).trans (bU U))),(yW _ _▸zJ).of_eq (E _ _ _ U),H.go.of_eq ((E _ _ _ U).trans (D _ (by simp[jV]) U U U))⟩
  |false=>
   rw[ho]at xr;simp only[go_sem,xr,M,L,B,O,R,N,X,T,Y,w1,w2,aq,I2];refine⟨y,c2,c3,?_⟩;rw[hs];exact⟨(E _ _ _ U).trans ((D _ (by simp[jV]) U U U).trans H.b0),(E _ _ _ U).trans ((D _ (by simp[jV]) U U U).trans H.bA),(E _ _ _ U).trans ((D _ (by simp[jV]) U U U).trans H.bW),(by rw[sW];simp[ho]),
    H.gd.of_eq ((E _ _ _ U).trans (D _ (by simp[jV]) U U U)),(Aj _ _▸l9).of_eq ((E _ _ _ U).trans ((Z _ U U).trans (bU U))),(yW _ _▸zJ).of_eq (E _ _ _ U),H.go.of_eq ((E _ _ _ U).trans (D _ (by simp[jV]) U U U))⟩
 have:k=I w:=J;subst this;rw[azg]at H;simp only[go_sem,NT,M,L,B,O,R,N,X,T,Y,dW];exact hq _ _ y A z (by simp only[go_sem,M,e1]) (by simp only[go_sem,L,e3]) (by simp only[go_sem,B,e4]) (by simp only[go_sem,O,e5]) (by simp only[go_sem,R,e6]) (by simp only[go_sem,N,e7]) (by simp only[go_sem,T,e9]) H
def afo{a b:PV}{id Z o l:Nat}:Ce [[.p a,.hsl id g Z o l,A,z,.p b]]=none:=rfl
def alQ{aj:aB}{s M j T Z f F O m L E:Nat}{a o:Bool}{D P G:s_}(H:aj s=(g,some (.jw M 5 [[.p (.bool a),y,A,z,.p (.bool o)]])))(gd:aY j T Z D (.one y) aj)(gp:aY f F O P (.one A) aj)(gf:aY m L E G (.one z) aj):
  ∃fr,fz aj (.one (.hsl s g 5 0 1))=some ([[.bool a,.sl D,.sl P,.sl G,.bool o]],[s],fr)/\rh aj fr/\ ∀i∈fr,i=j\/i=f\/i=m:=by
 obtain⟨r1,n1,Y,Q⟩:=gd.Rj;obtain⟨X,u,a2,q2⟩:=gp.Rj;obtain⟨R,N,x,B⟩:=gf.Rj;refine⟨r1++(X++R),?_,Y.app (a2.app x),λi h=>?_⟩
 .simp only[fz,H];simp[ic,n1,u,N,St,PV.norm]
 simp only[fc]at h;rcases h with h|h|h
 .rcases Q with rfl|rfl<;>simp at h;exact .inl h
 .rcases q2 with rfl|rfl<;>simp at h;exact .inr (.inl h)
 rcases B with rfl|rfl<;>simp at h;exact .inr (.inr h)
abbrev mv(l:CU):s_:=l.map dV.ps
def aE8(F:Nat)(h:ae):∀(w:aG) (f:dV),f.cn≠[]->(w.foldl (dV.add F h) f).cn≠[]:=by
 intro w
 induction w with
 |nil=>intro f H;exact H
 |cons x w g=>
  intro f H;refine g _ ?_;unfold dV.add;split
  .simp
  exact H
def aiq{d:Nat}{t:aG}(H:d<2*I h):(jC F h (d::t)).cn≠[]:=by unfold jC;refine aE8 F h t _ ?_;unfold dV.add;rw[show(d::t).headD 0=d from rfl,aH H];simp
def awv(ok:gy F h)(hF:F<=1000)(aN:aL h≠[]):aJ S 134 [df F h] (.one (aX uO 5 (mv (eD F h)))):=by
 have hl:=ok.hl;have hJ:I (aL h)<=1000000:=lX (uq h (I h)) hl;have gk:ct h<=4000000:=by unfold ct;omega
 have ad:=LL ok;have pa:=alY F h hl;have pw:=ago F h hl aN ok.hp;unfold QI at pa;rw[aw aN]at pa;have iX:I (fO (cA h) (ct h))<=ct h:=Kj (cA h) (ct h) _;have ap:∀aj:aB,eF aj [] 8576128064 ((RV.one (.own 3 1 (cg (aL h)))).fi (S.lone 8576128064))=some (.one (.hsl 8576128064 ((aj 8576128064).1+1) 1 0 (I (aL h))),[(8576128064,((aj 8576128064).1+1,some (.arr 3 1 (cg (aL h)))))]):=by intro aj;rw[show S.lone 8576128064=false by kernel_rfl,show(aL h).length=I (cg (aL h)) by simp];rfl
 have aA:∀aj:aB,eF aj [] 8576192064 ((RV.one (.own 110 1 (Lb (fO (cA h) (ct h))))).fi (S.lone 8576192064))=some (.one (.hsl 8576192064 ((aj 8576192064).1+1) 1 0 (I (fO (cA h) (ct h)))),[(8576192064,((aj 8576192064).1+1,some (.arr 110 1 (Lb (fO (cA h) (ct h))))))]):=by intro aj;rw[show S.lone 8576192064=false by kernel_rfl,show(fO (cA h) (ct h)).length=I (Lb (fO (cA h) (ct h))) by simp];rfl
 refine bt aBU ?_;simp only[go_sem,afV,agN,Y2,a_ pa (ap _),a_ pw (aA _)];refine c_ (λk m aj=>m 1=.one (.bh 8576000000 1 0)/\m 4=.one (.hsl 8576128064 1 1 0 (I (aL h)))/\m 5=.one (.hsl 8576192064 1 1 0 (I (fO (cA h) (ct h))))/\m 6=aC (I h)/\m 7=aC k/\
   aj 8576000000=(1,some (.var (oz F h)))/\aj 8576128064=(1,some (.arr 3 1 (cg (aL h))))/\aj 8576192064=(1,some (.arr 110 1 (Lb (fO (cA h) (ct h)))))/\
   ∃g,m 3=.one g/\aY 8577408192 uO 5 (mv (((fO (cA h) (ct h)).take k).map (jC F h))) (.one g) aj) 0 (I (fO (cA h) (ct h))) (cE _) ?_ ?_
 .simp only[go_sem];first|exact⟨rfl,_,rfl,.inl ⟨rfl,rfl⟩⟩|exact⟨rfl,rfl,_,rfl,.inl ⟨rfl,rfl⟩⟩|exact⟨rfl,rfl,rfl,_,rfl,.inl ⟨rfl,rfl⟩⟩|exact⟨rfl,rfl,rfl,rfl,_,rfl,.inl ⟨rfl,rfl⟩⟩
 rintro k m aj hk ⟨x,j,D,L,B,b0,bA,bW,g,u,go⟩
 by_cases R:k<I (fO (cA h) (ct h))
 .have aO:((k:Int)<(I (fO (cA h) (ct h)):Int)):=J;obtain⟨w,hw⟩:=aR R;obtain⟨⟨d,t,H,hd⟩,Z,ab⟩:=ad w (ch hw);have mE:=atA hw;have w1:=cP (n:=k) J;have gh:(cg w)[0]?=some [.int .i64 (d:Int)]:=by rw[H];rfl
  have ag:0<I w:=by rw[H];simp
  have av:(0:Int)<(I w:Int):=J;have wq:=wrap_small (n:=d/2) J;have pb:=ath F h (d/2) hl J;have Pz:w.headD 0=d:=by rw[H];rfl
  have M:mv (((fO (cA h) (ct h)).take (k+1)).map (jC F h))=mv (((fO (cA h) (ct h)).take k).map (jC F h))++[(jC F h w).ps]:=by rw[iJ,hw];simp
  have xF:I (mv (((fO (cA h) (ct h)).take k).map (jC F h)))<=k:=by simp;omega
  generalize mv (((fO (cA h) (ct h)).take k).map (jC F h))=O at go M xF;simp only[go_sem,ac0,x,u,j,D,L,B,b0,bA,bW,R,aO,mE,gh,ag,av,fF,ik,wq,aCa,dC pb];refine⟨aI,?_⟩;refine au9 ok hF ab Z (gA:=1) (qZ:=1) (gF:=(aj 8576576512).1+1) (i:=k) (y:=.p .nils) (A:=.p .nils) (z:=.p .nils) (vo:=g) (ac:=O) ?_ ?_ ?_ ?_ ?_ ?_ ?_ ?_ ?_ ⟨?_,?_,?_,?_,aY.nil,aY.nil,aY.nil,?_⟩ ?_
  .simp only[go_sem,x]
  .simp only[go_sem,u]
  .simp only[go_sem,j]
  .simp only[go_sem,D]
  .simp only[go_sem,L]
  .simp only[go_sem,B]
  .simp only[go_sem]
  .simp only[go_sem]
  .simp only[go_sem]
  .simp only[go_sem,b0]
  .simp only[go_sem,bA]
  .simp only[go_sem,bW]
  .simp only[go_sem,zp,dV.new,Pz];simp
  .exact go.of_eq (by simp only[go_sem])
  intro aE X Az qN zo q1 q3 q4 q5 q6 q7 Q hB;simp only[go_sem,x,u,j,D,L,B]at q1 q3 q4 q5 q6 q7 Q;have E:=aiq (F:=F) (t:=t) hd;rw[<-H]at E;generalize jC F h w=f at hB M E;obtain⟨B0,BA,BW,j0,gd,gp,gf,ac⟩:=hB;rcases gd with⟨e,_⟩|⟨_,gg,e,an⟩
  .simp at e;exact absurd e E
  cases e;simp only[go_sem,aip,aaJ,q1,q3,q4,q5,q6,q7,Q,j0,afo];have gd:aY 8576896448 3 1 (cg f.cn) (.one (.hsl 8576896448 gg 1 0 (I (cg f.cn)))) X:=.inr ⟨by simpa using E,gg,rfl,an⟩;rw[cH]at gd;obtain⟨fr,hx,yF,A4⟩:=alQ (aj:=dE X 8577408128 ((X 8577408128).1+1,some (.jw uO 5 [[.p (.bool f.gZ),.hsl 8576896448 gg 1 0 (I f.cn),qN,zo,.p (.bool f.outer)]]))) (s:=8577408128) sW (gd.of_eq (bU U)) (gp.of_eq (bU U)) (gf.of_eq (bU U));have N:∀i,i≠8576896448->i≠8577216192->i≠8577280192->i∉fr:=λi a b c az=>by
   rcases A4 i az with az|az|az
   .exact a az
   .exact b az
   exact c az
  refine akP (y:=8577408192) (id:=8577408192) (bytes:=88) (ac.of_eq (bU U)) hx yF (N _ U U U) (N _ U U U) (.inl rfl) (by simp only[dw,eK];omega) λc bJ hc bl=>?_;have T:=(bl 8576000000 U U (N _ U U U)).trans ((bU U).trans B0);have ar:=(bl 8576128064 U U (N _ U U U)).trans ((bU U).trans BA);have Y:=(bl 8576192064 U U (N _ U U U)).trans ((bU U).trans BW);simp only[go_sem,aaJ,q1,q3,q4,q5,q6,q7,Q,T,ar,Y,w1,R];refine⟨c,rfl,?_⟩;rw[M];exact hc
 have:k=I (fO (cA h) (ct h)):=J;subst this;rw[jN]at go;simp only[go_sem,ac0,ahr,x,u,j,D,L,B,b0,bA,bW,dW];exact uX go
def vM(h:ae)(k:Nat):eH:=(List.range (I h)).map λi=>decide (i<k)&& !c9 h (i+1)
def ajv(h:ae)(k:Nat):I (vM h k)=I h:=by simp[vM]
def ayp(h:ae):vM h 0=List.replicate (I h) false:=by
 refine y_ λi=>?_;simp only[vM,fY,List.getElem?_replicate];by_cases H:i<I h
 .simp[qx H,H]
 rw[oF (by simpa using H),aw H];rfl
def asV(h:ae)(k:Nat):vM h (k+1)=(vM h k).set k (!c9 h (k+1)):=by
 refine y_ λi=>?_;rw[mA,ajv];simp only[vM,fY];by_cases H:i<I h
 .rw[qx H];by_cases e:k=i
  .subst e;simp[H]
  simp only[se,e,if_false];congr 2;exact decide_eq_decide.2 J
 rw[oF (by simpa using H)];by_cases e:k=i
 .subst e;rw[aH rfl,aw H];rfl
 rw[aw e];rfl
abbrev DW(ls:ae):eH:=vM ls (I ls)
def atM{i:Nat}(H:i<I h):(DW h)[i]?=some (!c9 h (i+1)):=by simp[vM,H]
def aCT(ok:gy F h):aJ S 143 [.one (.p (o_ F h))] (.one (.own 4 1 (eC (DW h)))):=by
 have hl:=ok.hl;have T:I h<=140737488355328:=J;have X:List.replicate (I h) [PV.bool false]=eC (vM h 0):=by rw[ayp];simp
 refine bt aod ?_;simp only[go_sem,Z7,T,X,af,au];refine c_ (λk m aj=>m 0=.one (.p (o_ F h))/\m 3=.one (.hsl 9152064384 1 1 0 (I h))/\aj 9152064384=(1,some (.arr 4 1 (eC (vM h k))))/\
   m 4=fT (!c9 h k)/\m 18=.one (.p (c8 h))/\m 19=aC (I h)/\m 20=aC k) 0 (I h) (cE _) ?_ ?_
 .simp only[go_sem];first|exact⟨rfl,rfl⟩|exact⟨rfl,rfl,rfl⟩|exact⟨rfl,rfl,rfl,rfl⟩|exact rfl
 rintro k m aj Y ⟨x,y,j,E,u,z,L⟩
 by_cases A:k<I h
 .obtain⟨l,D⟩:=aR A;have N:=fP D;have Q:((k:Int)<(I h:Int)):=J;have M:=cP (n:=k) J;have g:k<I (vM h k):=by rw[ajv];exact A
  obtain⟨b0,R⟩:=aR g;have O:=qG R;have f:=Lp (vM h k) k (!c9 h (k+1));rw[<-asV]at f;cases hp:(l.kind==1)with
  |true=>have H:=PI D hp;have B:=qG (T0 D hp);rw[H]at f;rw[N9]at f;simp only[go_sem,QJ,x,y,j,E,u,z,L,N,pF,aa.ps,A,Q,M,hp,B,O,f,H,af,au]
  |false=>have H:=NH D hp;rw[H]at f;simp only[go_sem,QJ,x,y,j,E,u,z,L,N,pF,aa.ps,A,Q,M,hp,O,f,H,af,au]
 have:k=I h:=J;subst this;simp only[go_sem,QJ,Wt,x,y,j,E,u,z,L,dW,af,au];exact E3 j (by simp[vM])
abbrev FM(id:Nat):Prop:=kO id=201
def ahc{r k:Nat}(h:k<=T-g):(oV g r T)[k]?=some (g+k,if k=0 then r else 0):=by
 cases k with
 |zero=>rfl
 |succ k=>unfold oV;rw[List.getElem?_cons_succ,fY,qx J];simp;omega
def aEq{k:Nat}(h:k<T-g):(sC g T)[k]?=some (g+1+k):=by unfold sC;rw[fY,qx h];rfl
def Ms(g r T:Nat)(ps fs:s_)(i1 i2:Nat)(aj:aB)(v:V)(A:aB):Prop:=
 ∃h f j,v=.tup [.one h,.one f]/\aY 12864320192 wi 2 (ps++fB (oV g r T)) (.one h) A/\aY j 3 1 (fs++cg (sC g T)) (.one f) A/\(j=i2\/j=12864256256)/\
  dG (λid=>FM id\/id=i1\/id=i2) aj A
def Sk:aG:=[12864000000,12864000064,12864128128,12864256192,12864256256,12864320128]
def V7:aG:=[12864000000,12864000064,12864128128,12864128192,12864256192,12864320128,12864320192]
def NK{al:cG}{aj:aB}{r t i1 i2:Nat}{ps fs:s_}{c1 c2:c6}(O:∀id,FM id->al.ok id)(o1:al.ok i1)(o2:al.ok i2)(hT:g<=T)(ht:t=if T=g then r else 0)(hb:T<=1000)(dT:I ps<=1000000)(uM:I fs<=1000000)
  (az:i1≠i2) (N:i1∉Sk) (z:i2∉V7) (M:aY i1 wi 2 ps (.one c1) aj) (h2:aY i2 3 1 fs (.one c2) aj):
  ∃v A,je S 201 [.agg [.p (.int .i64 g),.p (.int .i64 r)],.agg [.p (.int .i64 T),.p (.int .i64 t)],.one c1,.one c2] al aj v A/\Ms g r T ps fs i1 i2 aj v A:=by
 have k0:al.ok 12864000000:=O _ rfl;have y:al.ok 12864000064:=O _ rfl;have Y:al.ok 12864128128:=O _ rfl;have ar:al.ok 12864128192:=O _ rfl;have Qo:al.ok 12864256192:=O _ rfl;have ac:al.ok 12864256256:=O _ rfl;have D:al.ok 12864320128:=O _ rfl;have aA:al.ok 12864320192:=O _ rfl;refine nc asi (jn rfl) ?_;simp only[go_sem,af6,k0,y];have aN:=xg g r T;have aE:=OJ g T;refine c_ (λk m A=>m 4=.one (.bh 12864000000 ((aj 12864000000).1+1) 0)/\m 5=.one (.bh 12864000064 ((aj 12864000064).1+1) 0)/\
   A 12864000000=((aj 12864000000).1+1,some (.var [.p (.int .i64 ((g+k:Nat):Int)),.p (.int .i64 ((if k=0 then r else 0:Nat):Int))]))/\A 12864000064=((aj 12864000064).1+1,some (.var [.p (.int .i64 T),.p (.int .i64 t)]))/\
   ∃d1 d2 j f,m 2=.one d1/\m 3=.one d2/\(j=i1\/j=12864128192)/\(f=i2\/f=12864256256)/\aY j wi 2 (ps++fB ((oV g r T).take k)) (.one d1) A/\aY f 3 1 (fs++cg ((sC g T).take k)) (.one d2) A/\dG (λid=>FM id\/id=i1\/id=i2) aj A) 0 (T-g) (cE _) ?_ ?_
 .simp only[go_sem];refine⟨rfl,c1,c2,i1,i2,rfl,rfl,.inl rfl,.inl rfl,?_,?_,?_⟩
  .exact(M.of_eq (bU (Tn N (by simp[Sk])))).of_eq (bU (Tn N (by simp[Sk])))
  .exact(h2.of_eq (bU (Tn z (by simp[V7])))).of_eq (bU (Tn z (by simp[V7])))
  exact((dG.refl _ _).dE (.inl rfl) _).dE (.inl rfl) _
 rintro k m A hk ⟨h4,h5,hA,hB,d1,d2,j,f,e2,R,q1,Q,g1,g2,dD⟩
 have Z:al.ok j:=by rcases q1 with rfl|rfl<;>assumption
 have av:al.ok f:=by rcases Q with rfl|rfl<;>assumption
 have X:∀a,a∈Sk->j≠a:=λa E e=>by
  rcases q1 with rfl|rfl
  .exact N (e▸E)
  exact absurd (e▸E) U
 have u:∀a,a∈V7->f≠a:=λa E e=>by
  rcases Q with rfl|rfl
  .exact z (e▸E)
  exact absurd (e▸E) U
 have n3:j≠f:=λe=>by
  rcases q1 with rfl|rfl
  .rcases Q with rfl|rfl
   .exact az e
   exact X _ U e
  exact u _ U e.symm
 have F:FM j\/j=i1\/j=i2:=by
  rcases q1 with rfl|rfl
  .exact .inr (.inl rfl)
  exact .inl rfl
 have ad:FM f\/f=i1\/f=i2:=by
  rcases Q with rfl|rfl
  .exact .inr (.inr rfl)
  exact .inl rfl
 have L:I ((oV g r T).take k)=k:=by rw[iM];omega
 have ab:I ((sC g T).take k)=k:=by rw[iM];omega
 by_cases aq:k<T-g
 .have aO:(((g+k:Nat):Int)<(T:Int)):=J;have w1:IntKind.i64.wrap (((g+k:Nat):Int)+1)=((g+(k+1):Nat):Int):=cP (n:=g+k) J;have hp:fB ((oV g r T).take (k+1))=fB ((oV g r T).take k)++[[.int .i64 ((g+k:Nat):Int),.int .i64 ((if k=0 then r else 0:Nat):Int)]]:=by
   rw[iJ,ahc J,Aj];rfl
  have hf:cg ((sC g T).take (k+1))=cg ((sC g T).take k)++[[.int .i64 ((g+(k+1):Nat):Int)]]:=by rw[iJ,aEq aq,yW,show g+1+k=g+(k+1) by omega];rfl
  simp only[go_sem,ab6,h4,h5,hA,hB,e2,R,aq,aO,k0,y,Y];refine UT (id:=j) (y:=12864128192) (bytes:=16) (B:=[[.int .i64 ((g+k:Nat):Int),.int .i64 ((if k=0 then r else 0:Nat):Int)]]) (rd:=[12864128128]) (by simp[ar,Z,Y]) (g1.of_eq (bU (X _ U))) (by simp[fz,aT]) (.inl rfl) (by simp only[fv,cH,L,dw,eK];omega) λc bJ hc B=>?_;have an:=(B 12864000000 U (X _ U).symm).trans ((bU U).trans hA);have ql:=(B 12864000064 U (X _ U).symm).trans ((bU U).trans hB);simp only[go_sem,h4,h5,an,ql,e2,R,w1,k0,y,Qo]
  refine UT (id:=f) (y:=12864256256) (bytes:=8) (B:=[[.int .i64 ((g+(k+1):Nat):Int)]]) (rd:=[12864256192]) (by simp[ac,av,Qo]) (g2.of_eq ((bU (u _ U)).trans ((bU (u _ U)).trans ((B _ (u _ U) n3.symm).trans (bU (u _ U)))))) (by simp[fz,aT]) (.inl rfl) (by simp only[fv,cH,ab,dw,eK];omega) λc' fy kZ dO=>?_;have ag:=(dO 12864000000 U (u _ U).symm).trans ((bU U).trans sW);have ap:=(dO 12864000064 U (u _ U).symm).trans ((bU U).trans ((bU U).trans ql));simp only[go_sem,h4,h5,ag,ap,e2,R,aq];refine⟨rfl,c,c',12864128192,12864256256,rfl,rfl,.inr rfl,.inr rfl,?_,?_,λid H=>?_⟩
  .rw[hp,<-s5];exact hc.of_eq ((dO _ U (u _ U).symm).trans ((bU U).trans (bU U)))
  .rw[hf,<-s5];exact kZ
  have a:∀x,FM x->id≠x:=λx hx e=>H (.inl (e▸hx));have b1:id≠j:=λe=>H (e▸F);have b2:id≠f:=λe=>H (e▸ad);exact(dO id (a _ rfl) b2).trans ((bU (a _ rfl)).trans ((bU (a _ rfl)).trans ((B id (a _ rfl) b1).trans ((bU (a _ rfl)).trans (dD id H)))))
 have:k=T-g:=J;subst this;have aO:¬(((g+(T-g):Nat):Int)<(T:Int)):=J;simp only[go_sem,ab6,ap1,h4,h5,hA,hB,e2,R,aO,k0,y,D];have PH:fB (oV g r T)=fB ((oV g r T).take (T-g))++[[.int .i64 (T:Int),.int .i64 (t:Int)]]:=by
  have M:=iJ (l:=oV g r T) (i:=T-g);rw[ahc (cT _),e_ (show(oV g r T).length<=T-g+1 by omega)]at M;have e1:g+(T-g)=T:=J;have e2:(if T-g=0 then r else 0)=t:=by
   rw[ht];by_cases h:T=g
   .rw[aH h,aH J]
   rw[aw h,aw J]
  rw[e1,e2]at M;exact(congrArg (λl:tK=>fB l) M).trans (Aj _ _)
 have dp:(sC g T).take (T-g)=sC g T:=e_ J;refine UT (id:=j) (y:=12864320192) (bytes:=16) (B:=[[.int .i64 (T:Int),.int .i64 (t:Int)]]) (rd:=[12864320128]) (by simp[aA,Z,D]) (g1.of_eq (bU (X _ U))) (by simp[fz,aT]) (.inl rfl) (by simp only[fv,cH,L,dw,eK];omega) λc bJ hc B=>?_;simp only[go_sem,R];refine⟨c,d2,f,rfl,?_,?_,Q,λid H=>?_⟩
 .rw[PH,<-s5];exact hc
 .rw[dp]at g2;exact g2.of_eq ((B _ (u _ U) n3.symm).trans (bU (u _ U)))
 have a:∀x,FM x->id≠x:=λx hx e=>H (.inl (e▸hx));have b1:id≠j:=λe=>H (e▸F);exact(B id (a _ rfl) b1).trans ((bU (a _ rfl)).trans (dD id H))
def ap3(ok:gy F h)(x:j<I (aL h)):∃u l,(aL h)[j]?=some u/\(aL h).getD j 0=u/\h[u]?=some l/\l.aM/\vf F h l/\fH h l=j:=by obtain⟨u,l,H,y,g,z,A⟩:=V2 ok x;obtain⟨L,f,B,m⟩:=Af ok.ax H;rw[g]at f;cases f;exact⟨u,l,H,y,g,z,A,m⟩
def atJ{f pr Q z:Nat}{p q:aa}(gp:vf F h p)(E:vf F h q)(hp:fH h p=j)(g:fH h q=j+1)(A:p.gate=(f:Int))(H:p.ay=(pr:Int))(y:q.gate=(Q:Int))(m:q.ay=(z:Int)):
  f<=Q/\z-1=if Q=f then pr else 0:=by
 obtain⟨_,_,D,x⟩:=gp;obtain⟨_,_,L,B⟩:=E;unfold fH at hp g;rw[A,H]at hp;rw[y,m]at g;rw[H]at D;rw[A,H]at x;rw[m]at L;rw[y,m]at B;simp only[s9]at hp g x B;have N:=u6 h f;have O:=u6 h Q;have u:f<=Q:=by
  rcases LB Q f with M|M
  .have:=B2 (L:=h) (show Q+1<=f by omega);omega
  exact M
 refine⟨u,?_⟩;by_cases e:Q=f
 .subst e;rw[aH rfl];omega
 rw[aw e];have:=B2 (L:=h) (show f+1<=Q by omega);omega
def aFe{g Q:Nat}{q:aa}(j:vf F h q)(H:fH h q=0)(u:q.gate=(g:Int))(f:q.ay=(Q:Int)):Q-1=0:=by obtain⟨_,_,m,x⟩:=j;unfold fH at H;rw[u,f]at H;rw[f]at m;simp only[s9]at H;omega
def aw2:S.sites 201=[201]:=ah
def vF{f:dN}{aj:aB}:∀id,FM id->(f_ (S.ctx .all) 201 f aj).ok id:=λid h=>sP (by rw[aw2,h];simp)
def aCd(ok:gy F h)(hF:F<=1000)(hj:j<I (aL h)):
  aJ S 170 [.one (.p (o_ F h)),aC j] (.tup [.one (aX wi 2 (fB (qE F h j))),.one (aX 3 1 (cg (zW F h j)))]):=by
 have hl:=ok.hl;have hJ:I (aL h)<=1000000:=lX (uq h (I h)) hl;have hm:=fC (j+1) (show 0<I (aL h) by omega);obtain⟨ag,p,hu,du,hp,pp,gp,xp⟩:=ap3 ok hj;obtain⟨v,q,hv,dv,hq,pq,M,xq⟩:=ap3 ok hm;unfold qE zW;simp only[du,dv,Aw hp,Aw hq,ahV hp];have iD:=fP hp;have A9:=fP hq;have Cy:=jZ hu;have uc:=jZ hv;have e1:=tf (j+1) (I (aL h));have w1:=cP (n:=j) J;have w2:=C7 (a:=I (aL h)) J J;have lO:¬((I (aL h):Int)=0):=J
 have I5:=gp.g0;have Cn:=gp.g1;have wH:=M.g0;have dd:=M.g1;have ue:=gp.r0;have iQ:=gp.r1;have sG:=M.r0;have jU:=M.r1;have Pl:di h p.gate.toNat<=I h:=qk _ _;have R:di h q.gate.toNat<=I h:=qk _ _;obtain⟨f,N⟩:=qX (show 0<=p.gate by omega);obtain⟨pr,E⟩:=qX (show 0<=p.ay by omega);obtain⟨Q,A⟩:=qX (show 0<=q.gate by omega);obtain⟨qr,z⟩:=qX (show 0<=q.ay by omega);have wr:=C7 (a:=qr) (by rw[z]at sG;omega) J;have Y:S.shared 201:=ah;have Hw:=λH=>atJ gp M xp (H:fH h q=j+1) N E A z;have ac:=λH=>aFe M (H:fH h q=0) A z
 rw[N]at Cn iQ Pl I5;rw[E]at iQ ue;rw[A]at wH dd jU R;rw[z]at sG jU;rw[N,E,A];simp only[s9]at iQ Pl jU R |-;refine bt aw9 ?_;by_cases aq:j+1<I (aL h)
 .have aO:(j:Int)<((I (aL h)-1:Nat):Int):=J;rw[jv aq]at xq;obtain⟨n1,u⟩:=Hw xq;simp only[aH aq];simp only[go_sem,Vn,Cy,uc,iD,A9,pF,aa.ps,w1,e1,w2,wr,aO,lO,N,E,A,z,Y];refine⟨aI,?_⟩;refine qq (P:=Ms f pr Q [] [] 12864128192 12864256256 _) uR (NK (g:=f) (r:=pr) (T:=Q) (t:=qr-1) (c1:=.p .nils) (c2:=.p .nils) vF (vF _ rfl) (vF _ rfl) n1 u J (cE _) (cE _) U U U aY.nil aY.nil) ?_;rintro v ao ⟨y,x,Z,rfl,g1,B,O,dD⟩
  have O:Z=12864256256:=by rcases O with H|H<;>exact H
  subst O;simp only[go_sem];exact Kl U g1 B
 have aO:¬(j:Int)<((I (aL h)-1:Nat):Int):=J;have I8:(j+1)%I (aL h)=0:=by rw[show j+1=I (aL h) by omega,Am]
 rw[I8]at xq;have u:=ac xq;simp only[aw aq];have PH:∃t:Nat,t=(if F=f then pr else 0):=⟨_,rfl⟩;obtain⟨t,L⟩:=PH;have fin:∀(m:bn) (aj:aB) (y x:c6),True:=λ_ _ _ _=>trivial;have ab:(((f:Int)==(F:Int))/\t=pr/\F=f)\/(((f:Int)==(F:Int))=false/\t=0):=by
  by_cases H:F=f
  .subst H;rw[aH rfl]at L;exact .inl ⟨aQ,L,rfl⟩
  rw[aw H]at L;exact .inr ⟨by simp;omega,L⟩
 rcases ab with⟨hb,CF,ad⟩|⟨hb,CF⟩
 .subst ad;simp only[go_sem,Vn,Cy,uc,iD,A9,pF,aa.ps,w1,e1,w2,wr,aO,lO,N,E,A,z,Y,hb];refine⟨aI,?_⟩;refine⟨aI,?_⟩;refine qq (P:=Ms F pr F [] [] 12864128192 12864256256 _) uR (NK (g:=F) (r:=pr) (T:=F) (t:=pr) (c1:=.p .nils) (c2:=.p .nils) vF (vF _ rfl) (vF _ rfl) J (by rw[aH rfl]) J (cE _) (cE _) U U U aY.nil aY.nil) ?_;rintro v bY ⟨y,x,Z,rfl,g1,B,O,dD⟩
  have O:Z=12864256256:=by rcases O with H|H<;>exact H
  subst O;rw[fN]at g1 B;have X:=dD 10880256384 U;simp only[go_sem]at X;simp only[go_sem,X,Y];refine qq (P:=Ms 0 0 Q (fB (oV F pr F)) (cg (sC F F)) 12864320192 12864256256 _) uR (NK (g:=0) (r:=0) (T:=Q) (t:=qr-1) (c1:=y) (c2:=x) vF (vF _ rfl) (vF _ rfl) (cE _) (by rw[u];split<;>rfl) J (by simp only[cH,xg];omega) (by simp only[cH,OJ];omega) U U U g1 B) ?_;rintro v bJ ⟨d1,d2,j3,rfl,k1,k2,D,_⟩
  have D:j3=12864256256:=by rcases D with H|H<;>exact H
  subst D;simp only[go_sem];rw[Aj,yW];exact Kl U k1 k2
 simp only[go_sem,Vn,Cy,uc,iD,A9,pF,aa.ps,w1,e1,w2,wr,aO,lO,N,E,A,z,Y,hb];refine⟨aI,?_⟩;refine⟨aI,?_⟩;refine qq (P:=Ms f pr F [] [] 12864128192 12864256256 _) uR (NK (g:=f) (r:=pr) (T:=F) (t:=0) (c1:=.p .nils) (c2:=.p .nils) vF (vF _ rfl) (vF _ rfl) J (by rw[CF]at L;exact L) J (cE _) (cE _) U U U aY.nil aY.nil) ?_;rintro v bY ⟨y,x,Z,rfl,g1,B,O,dD⟩
 have O:Z=12864256256:=by rcases O with H|H<;>exact H
 subst O;rw[fN]at g1 B;have X:=dD 10880256384 U;simp only[go_sem]at X;simp only[go_sem,X,Y];refine qq (P:=Ms 0 0 Q (fB (oV f pr F)) (cg (sC f F)) 12864320192 12864256256 _) uR (NK (g:=0) (r:=0) (T:=Q) (t:=qr-1) (c1:=y) (c2:=x) vF (vF _ rfl) (vF _ rfl) (cE _) (by rw[u];split<;>rfl) J (by simp only[cH,xg];omega) (by simp only[cH,OJ];omega) U U U g1 B) ?_;rintro v bJ ⟨d1,d2,j3,rfl,k1,k2,D,_⟩
 have D:j3=12864256256:=by rcases D with H|H<;>exact H
 subst D;simp only[go_sem];rw[Aj,yW];exact Kl U k1 k2
end
end Go.Abs
