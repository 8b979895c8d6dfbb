/- A part. -/
import Derived.Test.YtkdkhndppjfpmaaGreatDoorWa
set_option linter.all false
open List renaming length->I
set_option maxRecDepth 100000
set_option maxHeartbeats 16000000
namespace Go.Abs
variable{n f g N T:Nat}{Q:hs}{y A z:dI}
section
variable{h:ai}{F j u v x:Nat}
abbrev mD(F:Nat)(ls:ai):PV:=NH F ls (.sl (dB (ld ls))) (.sl (a_ (aE ls))) (.sl (a_ (mq ls (I ls)))) (.mp true (rC ls (I ls))) (.sl (a_ (gy ls F)))
structure gh (F:Nat) (ls:ai):Prop where
 hl:I ls<=1000000
 ax:Ee F ls
 cr:oo ls
 kinds:∀l∈ls,l.aI\/l.aB
def ud{a:Nat}(h:a<=9223372036854775807):IntKind.i64.wrap ((a:Int)-1)=(a:Int)-1:=by
 cases a with
 |zero=>decide
 |succ a=>rw[EF J h];omega
def ae3{a:Nat}(H:1<=n)(h:a+n<=9223372036854775807):IntKind.i64.wrap (((a:Int)-1)+(n:Int))=((a+n-1:Nat):Int):=by have e:((a:Int)-1)+(n:Int)=((a+n-1:Nat):Int):=J;rw[e];exact wrap_small J
def V5(F:Nat)(h:ai)(i:Nat)(hl:I h<=1000000)(H:i<I h):aK S 168 [.one (.p (mD F h)),aH i] (ja (eZ (I h) i true)):=by refine bj ath ?_;have e:=rB (a:=i) J;simp only[go_sem,al0,e,eZ,af,ao]
def ab7(F:Nat)(h:ai)(i:Nat)(hl:I h<=1000000)(v:i<I h):aK S 167 [.one (.p (mD F h)),aH i] (ja (eZ (I h) i false)):=by refine bj atq ?_;have f:=ud (a:=i) J;have m:=ae3 (a:=i) (n:=I h) J J;have g:=tB (i+I h-1) (I h);have u:=fk (i+I h-1) (show 0<I h by omega);have j:=rB (a:=(i+I h-1)%I h) J;have E:=cN (n:=2*((i+I h-1)%I h)) J;have H:¬((I h:Int)=0):=J;simp only[go_sem,aeM,f,m,g,j,E,H,eZ,af,ao]
def Sz{l:aa}(H:h[v]?=some l)(hp:l.aI):(ld h)[v]?=some (bN h v):=by have:=(cn.1 H).1;simp[ld,qI this,km,H,hp]
def ax8{l:aa}(H:h[v]?=some l)(hp:l.aI):(mq h (I h))[v]?=some (fD h l):=by have:=(cn.1 H).1;simp[mq,qI this,this,Jd H hp]
def gh.Ug(ok:gh F h){l:aa}(g:h[v]?=some l)(f:(l.kind==2)=false):l.aI:=by
 rcases ok.kinds l (bR g)with hp|H
 .exact hp
 unfold aa.aB at H;rw[f]at H;cases H
def agX(ok:gh F h)(d:Nat)(hd:d<2*I h+2*I (aE h)):aK S 142 [.one (.p (mD F h)),aH d] (ja (j8 h (aE h) d)):=by
 have hl:=ok.hl;have jQ:I (aE h)<=1000000:=ny (sF h (I h)) hl;have kK:∀x∈aE h,x<I h/\ ∃l,h[x]?=some l/\l.aI:=λx hx=>by obtain⟨l,h1,h2⟩:=uk.1 hx;exact⟨(cn.1 h1).1,l,h1,h2⟩
 have M:IntKind.i64.wrap (2*(I h:Int))=((2*I h:Nat):Int):=rB J;unfold j8;by_cases ad:2*I h<=d
 .rw[aD ad];refine bj ahc ?_;have y:((2*I h:Nat):Int)<=(d:Int):=J;have m2:=UR (a:=d) (b:=2*I h) ad J;have m:=wrap_small (n:=(d-2*I h)/2) J;have hm:=fk ((d-2*I h)/2+1) (show 0<I (aE h) by omega);have Z:¬((I (aE h):Int)=0):=J;obtain⟨ac,hu⟩:=aT (L:=aE h) (k:=(d-2*I h)/2) J;have CX:=jG hu;by_cases h2:d%2=0
  .rw[aD h2];have A:=cN (n:=(d-2*I h)/2) J;have jA:(((d%2:Nat):Int)==0):=by simp[h2]
   have z:=tB ((d-2*I h)/2+1) (I (aE h));obtain⟨v,hv⟩:=aT hm;have s0:(aE h).getD (((d-2*I h)/2+1)%I (aE h)) 0=v:=by rw[dC,hv];rfl
   rw[s0];obtain⟨X,l,R,Gg⟩:=kK v (bR hv);have tL:=jG hv;have E:=qO (Sz R Gg);have f:=V5 F h v hl X;have pb:=ab7 F h v hl X;cases Y:bN h v with
   |true=>rw[Y]at E;simp only[go_sem,uh,M,m2,m,A,z,y,jA,CX,tL,E,Z,k_,fW,eH,zA,AJ,dJ f,dJ pb,af,ao];exact⟨aA,aA⟩
   |false=>rw[Y]at E;simp only[go_sem,uh,M,m2,m,A,z,y,jA,CX,tL,E,Z,k_,fW,eH,zA,AJ,dJ f,dJ pb,af,ao];exact⟨aA,aA⟩
  rw[aC h2];have jA:(((d%2:Nat):Int)==0)=false:=by simp;omega
  have s0:(aE h).getD ((d-2*I h)/2) 0=ac:=by rw[dC,hu];rfl
  rw[s0];obtain⟨X,l,R,Gg⟩:=kK ac (bR hu);have E:=qO (Sz R Gg);have f:=V5 F h ac hl X;have pb:=ab7 F h ac hl X;cases Y:bN h ac with
  |true=>rw[Y]at E;simp only[go_sem,uh,M,m2,m,y,jA,CX,E,Z,k_,fW,eH,zA,AJ,dJ f,dJ pb,af,ao];exact aA
  |false=>rw[Y]at E;simp only[go_sem,uh,M,m2,m,y,jA,CX,E,Z,k_,fW,eH,zA,AJ,dJ f,dJ pb,af,ao];exact aA
 rw[aC ad];have y:¬(((2*I h:Nat):Int)<=(d:Int)):=J;have m:=wrap_small (n:=d/2) J;have D:¬((I h:Int)=0):=J;have Z:=fk (d/2+1) (show 0<I h by omega);have A:=cN (n:=d/2) J;have z:=tB (d/2+1) (I h);have body:∀v:Nat,v<I h->∀N:Bool,v=(if N then(d/2+1)%I h else d/2)->(((d%2:Nat):Int)==0)=N->aK S 142 [.one (.p (mD F h)),aH d] (ja ((match h[v]? with
   |none=>0
   |some l=>if l.kind==2 then eZ (I h) (i_ h v) (N==(l.over==(l.sign==1)))
    else if bN h v==N then 2*I h+2*(aE h).idxOf v else 2*I h+2*(((aE h).idxOf v+I (aE h)-1)%I (aE h))+1:Nat):Int)):=by
  intro v hv N g T;obtain⟨l,R⟩:=aT hv;have j:=gb R;rw[R];simp only;refine bj ahc ?_;cases hk:(l.kind==2)with
  |true=>
   have hc:l.aB:=hk;have B:(l.kind==1)=false:=by simp only[dk]at hk;rw[hk];rfl
   obtain⟨O,PX⟩:=RZ ok.cr R hc;have H:=aeJ h (I h) l.id;rw[aD (U1 (bR R) hc)]at H;have f:=V5 F h (i_ h v) hl PX;have pb:=ab7 F h (i_ h v) hl PX;cases L:l.over with
   |true=>
    rw[L]at O;have O:jr h (I h) l.id false=some (i_ h v):=O;simp only[s4,O]at H;simp only[CC]at H;cases ae:(l.sign==1)with
    |true=>
     cases N with
     |true=>have g:v=(d/2+1)%I h:=g;rw[g]at j H f pb |-;simp only[go_sem,uh,M,m,A,z,y,T,j,dD,aa.ps,D,B,L,ae,k_,fW,eH,nq,nc,kD,H,zA,AJ,dJ f,dJ pb,af,ao];exact⟨aA,aA⟩
     |false=>have g:v=d/2:=g;rw[g]at j H f pb |-;simp only[go_sem,uh,M,m,A,z,y,T,j,dD,aa.ps,D,B,L,ae,k_,fW,eH,nq,nc,kD,H,zA,AJ,dJ f,dJ pb,af,ao];exact⟨aA,aA⟩
    |false=>
     cases N with
     |true=>have g:v=(d/2+1)%I h:=g;rw[g]at j H f pb |-;simp only[go_sem,uh,M,m,A,z,y,T,j,dD,aa.ps,D,B,L,ae,k_,fW,eH,nq,nc,kD,H,zA,AJ,dJ f,dJ pb,af,ao];exact⟨aA,aA⟩
     |false=>have g:v=d/2:=g;rw[g]at j H f pb |-;simp only[go_sem,uh,M,m,A,z,y,T,j,dD,aa.ps,D,B,L,ae,k_,fW,eH,nq,nc,kD,H,zA,AJ,dJ f,dJ pb,af,ao];exact⟨aA,aA⟩
   |false=>
    rw[L]at O;have O:jr h (I h) l.id true=some (i_ h v):=O;simp only[s4,O]at H;simp only[CC]at H;cases ae:(l.sign==1)with
    |true=>
     cases N with
     |true=>have g:v=(d/2+1)%I h:=g;rw[g]at j H f pb |-;simp only[go_sem,uh,M,m,A,z,y,T,j,dD,aa.ps,D,B,L,ae,k_,fW,eH,nq,nc,kD,H,zA,AJ,dJ f,dJ pb,af,ao];exact⟨aA,aA⟩
     |false=>have g:v=d/2:=g;rw[g]at j H f pb |-;simp only[go_sem,uh,M,m,A,z,y,T,j,dD,aa.ps,D,B,L,ae,k_,fW,eH,nq,nc,kD,H,zA,AJ,dJ f,dJ pb,af,ao];exact⟨aA,aA⟩
    |false=>
     cases N with
     |true=>have g:v=(d/2+1)%I h:=g;rw[g]at j H f pb |-;simp only[go_sem,uh,M,m,A,z,y,T,j,dD,aa.ps,D,B,L,ae,k_,fW,eH,nq,nc,kD,H,zA,AJ,dJ f,dJ pb,af,ao];exact⟨aA,aA⟩
     |false=>have g:v=d/2:=g;rw[g]at j H f pb |-;simp only[go_sem,uh,M,m,A,z,y,T,j,dD,aa.ps,D,B,L,ae,k_,fW,eH,nq,nc,kD,H,zA,AJ,dJ f,dJ pb,af,ao];exact⟨aA,aA⟩
  |false=>
   have hp:=ok.Ug R hk;have B:(l.kind==1):=hp;have E:=qO (Sz R hp);have Q:=jG (ax8 R hp);have JH:=NP ok.ax R hp;have ab:=V6 (ok.ax.fG l (bR R) hp);rw[E4 ok.ax.tE]at ab;rw[JH];have Gh:¬((I (aE h):Int)=0):=J;have im:=fk (fD h l+I (aE h)-1) (show 0<I (aE h) by omega);have n1:=rB (a:=fD h l) J;have u:=vc (a:=2*I h) (b:=2*fD h l) J;have n3:=ud (a:=fD h l) J;have n4:=ae3 (a:=fD h l) (n:=I (aE h)) J J;have n5:=tB (fD h l+I (aE h)-1) (I (aE h));have n6:=rB (a:=(fD h l+I (aE h)-1)%I (aE h)) J;have n7:=vc (a:=2*I h) (b:=2*((fD h l+I (aE h)-1)%I (aE h))) J
   have n8:=cN (n:=2*I h+2*((fD h l+I (aE h)-1)%I (aE h))) J;cases N with
   |true=>
    have g:v=(d/2+1)%I h:=g;cases Pu:bN h v with
    |true=>rw[Pu]at E;rw[g]at j E Q;simp only[go_sem,uh,M,m,A,z,y,T,j,dD,aa.ps,D,B,k_,fW,eH,E,Q,n1,u,n3,n4,n5,n6,n7,n8,Gh,af,ao];exact aA
    |false=>rw[Pu]at E;rw[g]at j E Q;simp only[go_sem,uh,M,m,A,z,y,T,j,dD,aa.ps,D,B,k_,fW,eH,E,Q,n1,u,n3,n4,n5,n6,n7,n8,Gh,af,ao];exact aA
   |false=>
    have g:v=d/2:=g;cases Pu:bN h v with
    |true=>rw[Pu]at E;rw[g]at j E Q;simp only[go_sem,uh,M,m,A,z,y,T,j,dD,aa.ps,D,B,k_,fW,eH,E,Q,n1,u,n3,n4,n5,n6,n7,n8,Gh,af,ao];exact aA
    |false=>rw[Pu]at E;rw[g]at j E Q;simp only[go_sem,uh,M,m,A,z,y,T,j,dD,aa.ps,D,B,k_,fW,eH,E,Q,n1,u,n3,n4,n5,n6,n7,n8,Gh,af,ao];exact aA
 have X:(if(d%2==0)=true then(d/2+1)%I h else d/2)<I h:=by
  split
  .exact Z
  omega
 have:=body _ X (d%2==0) rfl (by cases Y:(d%2==0)<;>simp at Y |- <;>omega);exact this
abbrev bz(ls:ai):Nat->Nat:=j8 ls (aE ls)
def auA(ok:gh F h):
  ∀(f x:Nat) (dL:dS) (m:ct) (aj:aN),m 0=.one (.p (mD F h))->m 4=.one (.hsl 7360128064 1 1 0 (I dL))->aj 7360128064=(1,some (.arr 4 1 (dB dL)))->
   m 7=aH x->x<I dL->I dL=2*I h+2*I (aE h)->zM dL<f->
   (∀A g,A 0=m 0->A 4=m 4->A 5=m 5->A 24=m 24->A 25=m 25->g 7360128064=(1,some (.arr 4 1 (dB (g_ (bz h) f x dL).2)))->Q .normal A g)->
   ch S .all (.loop Q7) (oR 2 Q) m aj:=by
 have jQ:I (aE h)<=1000000:=ny (sF h (I h)) ok.hl;have kK:∀x∈aE h,x<I h:=λx ab=>QN ab;have hp:∀v l,h[v]?=some l->(l.kind==2)=false->v∈aE h:=λv l E O=>uk.2 ⟨l,E,ok.Ug E O⟩;intro f
 induction f with
 |zero=>intro x dL m aj _ _ _ _ _ _ ab;omega
 |succ f ih=>
  intro x dL m aj B j z D u hsl hu H;obtain⟨b,n⟩:=aT u;have N:=qO n;have CM:dL.getD x true=b:=by rw[dC,n];rfl
  unfold g_ at H;rw[CM]at H;refine sZ ?_;cases b with
  |true=>simp only[go_sem,Q7,j,z,D,u,N,af,ao];refine H _ _ ?_ ?_ ?_ ?_ ?_ z;all_goals simp only[go_sem,j]
  |false=>
   have Ij:=ND n;have T:=agX ok x J;have uA:=S_ (d:=x) kK hp J;have R:=Jo dL x true;simp only[go_sem,Q7,B,j,z,D,u,N,R,Rr,dJ T,af,ao];refine ih (j8 h (aE h) x) (dL.set x true) _ _ ?_ ?_ ?_ ?_ (by simpa [hsl]using uA) (by simpa using hsl) J ?_
   .simp only[go_sem,B]
   .simp only[go_sem,j,jo]
   .simp only[go_sem]
   .simp only[go_sem]
   intro A g M Y X Z y L;refine H A g ?_ ?_ ?_ ?_ ?_ L
   .rw[M];simp only[go_sem]
   .rw[Y];simp only[go_sem]
   .rw[X];simp only[go_sem]
   .rw[Z];simp only[go_sem]
   rw[y];simp only[go_sem]
def au7(ok:gh F h):aK S 115 [.one (.p (mD F h))] (cO (gC h==an aa.aI h+an aa.aB h/2+2)):=by
 have hl:=ok.hl;have jQ:I (aE h)<=I h:=sF h (I h);have m1:=rB (a:=I h) J;have Y:=rB (a:=I (aE h)) J;have m3:=vc (a:=2*I h) (b:=2*I (aE h)) J;have y:2*I h+2*I (aE h)<=140737488355328:=J;have yQ:List.replicate (2*I h+2*I (aE h)) [PV.bool false]=dB (List.replicate (2*I h+2*I (aE h)) false):=aP;have im:I (rC h (I h))=an aa.aB h/2:=by have:=ok.cr;unfold oo at this;simp only[c6,dk]at this;simp[rC,this.2]
 have qy:an aa.aB h<=I h:=o7 _ _;refine bj ayA ?_;simp only[go_sem,alN,m1,Y,m3,y,yQ,af,ao];refine⟨aA,?_⟩;generalize hN:2*I h+2*I (aE h)=N at y;refine dy (λk m aj=>m 0=.one (.p (mD F h))/\m 4=.one (.hsl 7360128064 1 1 0 N)/\aj 7360128064=(1,some (.arr 4 1 (dB (fe (bz h) N k).2)))/\
   m 5=aH (fe (bz h) N k).1.length/\m 24=aH N/\m 25=aH k) 0 N (cG _) ?_ ?_
 .simp only[go_sem];exact⟨rfl,rfl,rfl⟩
 rintro k m aj hk ⟨g,x,j,f,v,L⟩
 have H:=Hj (bz h) N k;have E:=Kx (bz h) N k;by_cases A:k<N
 .have D:((k:Int)<(N:Int)):=J;have z:=cN (n:=k) J;have ae:=zO (bz h) N k;generalize cV:fe (bz h) N k=st at H ae j f E;obtain⟨out,dL⟩:=st;simp only at H j f E;obtain⟨b,u⟩:=aT (L:=dL) (k:=k) J;have R:=qO u;unfold wz at ae;have CM:dL.getD k true=b:=by rw[dC,u];rfl
  simp only[CM]at ae;cases b with
  |true=>have ae:fe (bz h) N (k+1)=(out,dL):=ae;simp only[go_sem,Tp,aat,g,x,j,f,v,L,A,D,R,z,ae,af,ao]
  |false=>
   have ae:fe (bz h) N (k+1)=(out++[(g_ (bz h) (N+1) k dL).1],(g_ (bz h) (N+1) k dL).2):=by rw[ae,H];rfl
   have ab:=Mf dL;have w2:=cN (n:=I out) J;simp only[go_sem,Tp,g,x,j,f,v,L,A,D,R,w2,af,ao];refine auA ok (N+1) k dL _ _ ?_ ?_ ?_ ?_ J J J ?_
   .simp only[go_sem,g]
   .simp only[go_sem,x,H]
   .simp only[go_sem,j]
   .simp only[go_sem]
   intro aL aq B O M Z Q X;simp only[go_sem,g,x,f,v,L]at B O M Z Q;simp only[go_sem,aat,B,O,M,Z,Q,X,z,ae,A,af,ao];simp
 have:k=N:=J;subst this;have he:gC h=(fe (bz h) k k).1.length:=by unfold gC fz bz;rw[hN]
 rw[<-he]at f;have w3:=vc (a:=I (aE h)) (b:=an aa.aB h/2) J;have T:IntKind.i64.wrap (((I (aE h)+an aa.aB h/2:Nat):Int)+2)=((I (aE h)+an aa.aB h/2+2:Nat):Int):=vc (a:=I (aE h)+an aa.aB h/2) (b:=2) J;have u:(((gC h:Nat):Int)==((I (aE h)+an aa.aB h/2+2:Nat):Int))=(gC h==an aa.aI h+an aa.aB h/2+2):=by
  rw[Lb];cases ac:(gC h==an aa.aI h+an aa.aB h/2+2)with
  |true=>simp at ac |-;omega
  |false=>simp at ac |-;omega
 simp only[go_sem,Tp,afy,g,f,v,L,eR,qk,im,w3,T,u,af,ao];exact aA
abbrev MZ(id:Nat):Prop:=id=3264320128\/(kW id=90\/kW id=113\/kW id=114)
def aoX(F:Nat)(h:ai)(g:Nat)(aj:aN):Prop:= ∃g1 j n f m,
 aj 3264320128=(g,some (.var (xz F h (ae 7232128448 j (I h)) (ae 7233344128 m (I (aE h))) (ae 7232192448 n (I h)) (.nL 7296256064 f) (ae 7232064448 g1 (F+1)))))/\
 aj 7232064448=(g1,some (.arr 3 1 (a_ (gy h F))))/\aj 7232128448=(j,some (.arr 4 1 (dB (ld h))))/\aj 7232192448=(n,some (.arr 3 1 (a_ (mq h (I h)))))/\
 aj 7233344128=(m,some (.arr 3 1 (a_ (aE h))))/\aj 7296256064=(f,some (.map true (rC h (I h))))
def Rd(F:Nat)(h:ai):Bool:=decide (h=[])||oD F h
def Xc(F:Nat)(h:ai)(g:Nat)(L:aN)(v:V)(A:aN):Prop:=v=gE (Rd F h)/\dE MZ L A/\(h≠[]->oD F h->aoX F h g A)/\(h=[]->A 3264320128=L 3264320128)
def WY:S.sites 90=[90,113,114]:=ah
def agG:S.sites 113=[113]:=ah
def akg:S.sites 114=[114]:=ah
def dE.VM{bY f:Nat->Prop}{a b:aN}(h:dE bY a b)(H:∀id,bY id->f id):dE f a b:=λid j=>h id λg=>j (H id g)
abbrev DK(g:Nat):List eE:=[[.hfn 111 [.bm 3264320128 g 0] []],[.hfn 112 [.bm 3264320128 g 0] []],[.hfn 113 [.bm 3264320128 g 0] []],[.hfn 114 [.bm 3264320128 g 0] []],[.hfn 115 [.bm 3264320128 g 0] []]]
section
variable {al:cT} {Q:hs} {m:ct} {aj:aN} {g g0:Nat}
def V9(k:Nat){D:PV}{r:aF}{b:Bool}(F:k<5)(H:(DK g)[k]?=some [.hfn f [.bm 3264320128 g 0] []])(M:S.shared f=false)(O:al.ok 5760192640)
  (u:m 22=.one (ae 5760192640 g0 5)) (h:m 23=aH 5) (y:m 24=aH k) (B:aj 5760192640=(g0,some (.lN 28 1 (DK g))))
  (E:qz aj (.one (.bm 3264320128 g 0))=some (.one (.p D),r)) (x:al.iA r) (hp:aK S f [.one (.p D)] (cO b))
  (j:b=false->∀A,A 2=gE false->Q .ret A aj)
  (v:b->∀A,A 22=.one (ae 5760192640 g0 5)->A 23=aH 5->A 24=aH ((k+1:Nat):Int)->ch S al (.loop Er) Q A aj):ch S al (.loop Er) Q m aj:=by
 refine sZ ?_;have z:((k:Int)<5):=J;have L:=cN (n:=k) J;cases b with
 |false=>simp only[go_sem,Er,u,h,y,B,z,F,H,M,O,↓E,akK hp,x,af,ao];exact j rfl _ (by simp only[go_sem])
 |true=>
  simp only[go_sem,Er,u,h,y,B,z,F,H,M,O,↓E,akK hp,x,L,af,ao];refine v rfl _ ?_ ?_ ?_
  .simp only[go_sem,u]
  .simp only[go_sem,h]
  simp only[go_sem]
def aof(k:Nat){P:V->aN->Prop}{b:Bool}(M:k<5)(H:(DK g)[k]?=some [.hfn f [.bm 3264320128 g 0] []])(T:S.shared f)(O:al.ok 5760192640)
  (x:m 22=.one (ae 5760192640 g0 5)) (u:m 23=aH 5) (z:m 24=aH k) (F:aj 5760192640=(g0,some (.lN 28 1 (DK g))))
  (E:al.holds (iB (S.ctx al) f [.one (.bm 3264320128 g 0)] aj)) (h:∃v A,lK S f [.one (.bm 3264320128 g 0)] (iB (S.ctx al) f [.one (.bm 3264320128 g 0)] aj) aj v A/\P v A)
  (R:∀v A,P v A->v=gE b)
  (y:b=false->∀v j A,P v A->j 2=gE false->Q .ret j A)
  (B:b->∀v j A,P v A->j 22=.one (ae 5760192640 g0 5)->j 23=aH 5->j 24=aH ((k+1:Nat):Int)->ch S al (.loop Er) Q j A):ch S al (.loop Er) Q m aj:=by
 refine sZ ?_;have L:((k:Int)<5):=J;have D:=cN (n:=k) J;simp only[go_sem,Er,x,u,z,F,L,M,H,T,O,af,ao];refine sG E h λv A hp=>?_;have N:=R v A hp;subst N;cases b with
 |false=>simp only[go_sem,x,u,z,af,ao];exact y rfl _ _ _ hp (by simp only[go_sem])
 |true=>
  simp only[go_sem,x,u,z,D,af,ao];refine B rfl _ _ _ hp ?_ ?_ ?_
  .simp only[go_sem,x]
  .simp only[go_sem,u]
  simp only[go_sem]
end
def au6{al:cT}(n:al.ok 3264320128)(O:∀id,(kW id=90\/kW id=113\/kW id=114)->al.ok id)(f1:al.fs.contains 113)(f2:al.fs.contains 114)
  {aj:aN}{F:Nat}{h:ai} (hl:I h<=1000000) (hF:F<=1000000)
  (B:aj 3264320128=(g,some (.var (xz F h (.p .nils) (.p .nils) (.p .nils) (.p .tQ) (.p .nils))))):∃v j,lK S 90 [.one (.bm 3264320128 g 0)] al aj v j/\Xc F h g aj v j:=by
 have D:=O 5760192640 (.inl rfl);refine qK axx (jc rfl) ?_;by_cases Z:h=[]
 .subst Z;have hz:(((0:Nat):Int)==0):=U;simp only[go_sem,Z6,B,hz,n,D,af,ao];exact⟨rfl,dE.refl _ _,λH=>absurd rfl H,λ_=>rfl⟩
 have jS:=jH.2 Z;have Gi:(((I h:Nat):Int)==0)=false:=by simp;omega
 obtain⟨l0,h0⟩:=aT jS;have vN:decide (h=[])=false:=by simp[Z]
 have pl:=arG F h (.sl []) (.sl []) (.sl []) .tQ (.sl []) hl ⟨rfl,rfl,rfl,rfl,rfl⟩;have pb:=aoK F h l0 (.sl []) (.sl []) (.sl []) .tQ (.sl []) hl h0;have X:=aaU (F:=F) (L:=h);have fail:∀A j,dE MZ aj j->oD F h=false->A 2=gE false->oR 0 (v_ S al ac6 (sO al [(2,none)] (Xc F h g aj))) .ret A j:=λA j hk hv m=>by simp only[go_sem,m,af,ao];exact⟨by rw[Rd,vN,hv];rfl,hk,λ_ H=>(by rw[hv]at H;cases H),λH=>absurd H Z⟩
 have ap:yg F h=false->oD F h=false:=λH=>by simp[oD,H]
 have L:¬(h.any (ek F)=false/\zJ h/\oo h)->oD F h=false:=λH=>ap (by
  cases hq:yg F h with
  |false=>rfl
  |true=>exact absurd (X.1 hq) H)
 simp only[go_sem,Z6,B,Gi,n,D,af,ao];have T:dE MZ aj (dx aj 5760192640 ((aj 5760192640).1+1,some (.lN 28 1 (DK g)))):=dE.dx (dE.refl _ _) (.inr (.inl rfl)) _;generalize N:dx aj 5760192640 ((aj 5760192640).1+1,some (.lN 28 1 (DK g)))=M;rw[N]at T;have u:M 5760192640=((aj 5760192640).1+1,some (.lN 28 1 (DK g))):=by rw[<-N];simp only[go_sem]
 have B:M 3264320128=(g,some (.var (xz F h (.p .nils) (.p .nils) (.p .nils) (.p .tQ) (.p .nils)))):=by rw[<-N];simp only[go_sem,B]
 clear N;have jD:qz M (.one (.bm 3264320128 g 0))=some (.one (.p (NH F h (.sl []) (.sl []) (.sl []) .tQ (.sl []))),[3264320128]):=by simp only[go_sem,B,af,ao]
 have uB:al.iA [3264320128]:=by simp only[go_sem,n]
 refine V9 0 J rfl auy D (by simp only[go_sem]) (by simp only[go_sem];rfl) (by simp only[go_sem];rfl) u jD uB pl (λf A m=>fail A M T (L λH=>by simp[H.1]at f) m) (λf A y x z=>?_);have N:h.any (ek F)=false:=by simpa using f
 have CA:∀l∈h,ek F l=false:=λl hl=>by simpa using E6.1 N l hl
 have hg:tE F h:=λl hl hp=>((oX hp).1 (CA l hl)).1.1.1;refine V9 1 J rfl aDd D y x z u jD uB pb (λf A m=>fail A M T (by simp only[oD,h0,f];rfl) m) (λam A y x z=>?_);clear f;have ad:lH M (.one (.bm 3264320128 g 0))=[3264320128]:=by rw[abJ B];simp[acU]
 refine aof (b:=zJ h) 2 J rfl ah D y x z u ?_ (auI (tu (by simp[ad])) (λid H=>yu (by rw[agG,H];rfl)) hl hF hg B) (λv j H=>H.1) ?_ ?_
 .refine OW ?_ ?_
  .show al.iA ([V.one (.bm 3264320128 g 0)].map (lH M)).flatten=true;simp only[eJ,lr,ad,mO,UG,rT];exact uB
  show(S.sites 113).all al.fs.contains=true;rw[agG];simp only[vg,yF,f1];rfl
 .intro f v A j hp m;exact fail A j (T.trans (hp.2.1.VM λid H=>H.elim .inl λH=>.inr (.inr (.inl H)))) (L λH=>by rw[H.2.1]at f;cases f) m
 intro jZ v A bh hp y x z;obtain⟨_,iH,xR⟩:=hp;obtain⟨g1,g2,g3,g5,B,bC,bW,nV,bA⟩:=xR jZ;have kK:Ee F h:=by obtain⟨a,b⟩:=(NG hg).1 jZ;exact⟨a,b⟩
 rw[aC0 kK]at bA;rw[E4 hg]at B;have u:bh 5760192640=((aj 5760192640).1+1,some (.lN 28 1 (DK g))):=by rw[<-u];exact iH _ U
 have Y:dE MZ aj bh:=T.trans (iH.VM λid H=>H.elim .inl λH=>.inr (.inr (.inl H)));have oC:=O 7232064448 (.inr (.inl rfl));have oW:=O 7232128448 (.inr (.inl rfl));have oP:=O 7232192448 (.inr (.inl rfl));have oA:=O 7233344128 (.inr (.inl rfl));have oM:=O 7296256064 (.inr (.inr rfl));have Qb:lH bh (.one (.bm 3264320128 g 0))=[3264320128,7232128448,7233344128,7232192448,7232064448]:=by rw[abJ B];simp only[eJ,lr,acU,KG bW,KG bA,KG nV,KG bC,mO,UG,iZ,rT,Bv]
 refine aof (b:=oo h) 3 J rfl ah D y x z u ?_ (aro (tu (by simp[Qb])) (λid H=>yu (by rw[akg,H];rfl)) hl B) (λv j H=>H.1) ?_ ?_
 .refine OW ?_ ?_
  .show al.iA ([V.one (.bm 3264320128 g 0)].map (lH bh)).flatten=true;simp only[eJ,lr,Qb,mO,UG,rT,adE,WK,n,oC,oW,oP,oA,OX]
  show(S.sites 114).all al.fs.contains=true;rw[akg];simp only[vg,yF,f2];rfl
 .intro f v A j hp m;exact fail A j (Y.trans (hp.2.1.VM λid H=>H.elim .inl λH=>.inr (.inr (.inr H)))) (L λH=>by rw[H.2.2]at f;cases f) m
 intro fi v A Q hp y x z;obtain⟨_,E,ar⟩:=hp;obtain⟨g4,B,bM⟩:=ar fi;have kp:∀id,kW id=113->Q id=bh id:=λid H=>E id (by
  rintro(e|e)
  .rw[e]at H;revert H;decide
  rw[e]at H;revert H;decide)
 rw[<-kp _ rfl]at bC bW nV bA;have u:Q 5760192640=((aj 5760192640).1+1,some (.lN 28 1 (DK g))):=by rw[<-u];exact E _ U
 have R:dE MZ aj Q:=Y.trans (E.VM λid H=>H.elim .inl λH=>.inr (.inr (.inr H)));have ok:gh F h:=⟨hl,kK,fi,λl hl=>Dg (CA l hl)⟩;have pf:=au7 ok;have ag:yg F h:=X.2 ⟨N,jZ,fi⟩;have ab:oD F h=(gC h==an aa.aI h+an aa.aB h/2+2):=by
  have ac:(l0.kind==1)/\(an aa.aI h%2==0):=by simpa using am
  simp only[oD,h0,ac.1,ac.2,ag,sf]
 have t1:List.take (I h) (dB (ld h))=dB (ld h):=fx (by simp[ld]);have t2:List.take (I (aE h)) (a_ (aE h))=a_ (aE h):=fx aP;have t3:List.take (I h) (a_ (mq h (I h)))=a_ (mq h (I h)):=fx (by simp[mq]);have t4:List.take (F+1) (a_ (gy h F))=a_ (gy h F):=fx (by simp[gy]);have n1:I h<=I (ld h):=by simp[ld]
 have n3:I h<=I (mq h (I h)):=by simp[mq]
 have n4:F+1<=I (gy h F):=by simp[gy]
 have jD:qz Q (.one (.bm 3264320128 g 0))=some (.one (.p (mD F h)),[3264320128,7232128448,7233344128,7232192448,7296256064,7232064448]):=by simp only[go_sem,amR,B,bW,bA,nV,bC,bM,aae,t1,t2,t3,t4,n1,n3,n4,af,ao]
 have uB:al.iA [3264320128,7232128448,7233344128,7232192448,7296256064,7232064448]:=by simp only[adE,WK,n,oC,oW,oP,oA,oM,OX]
 refine V9 4 J rfl aCh D y x z u jD uB pf (λf A m=>fail A Q R (by rw[ab];exact f) m) (λxK A y x z=>?_);have hv:oD F h:=by rw[ab];exact xK
 refine sZ ?_;have n5:¬((((4+1:Nat)):Int)<5):=U;simp only[go_sem,Er,ac6,x,z,n5,af,ao];exact⟨by rw[Rd,vN,hv];rfl,R,λ_ _=>⟨g1,g2,g3,g4,g5,B,bC,bW,nV,bA,bM⟩,λH=>absurd H Z⟩
abbrev wv(f:Int):PV:=NH f [] (.sl []) (.sl []) (.sl []) .tQ (.sl [])
abbrev uD(a b:PV):RV:=.tup [.one (.p a),.one (.p b)]
def Lk(f:Int)(h:ai):RV:=if de f h=0 then uD (if h=[]then wv f else mD f.toNat h) (.int .i64 0)else uD .vp (.int .i64 (de f h))
def cM{aj:aN}{s:Nat}{a b:PV}{l:Bool}:fg aj [] s ((uD a b).fR l)=some (.tup [.one (.p a),.one (.p b)],[]):=by cases l<;>rfl
def HE{f:Int}{e:Int}(g:de f h=e)(H:e≠0):Lk f h=uD .vp (.int .i64 e):=by unfold Lk;rw[g,aC H]
def Kp{f:Int}(H:de f h=0):Lk f h=uD (if h=[]then wv f else mD f.toNat h) (.int .i64 0):=by unfold Lk;rw[aD H]
def MG(f:Int)(h:ai)(hl:I h<=1000000):aK S 51 [c_ f h] (Lk f h):=by
 have pc:=Xs f h hl;refine bj aAw ?_;by_cases Y:400<I h
 .have j:(400:Int)<(I h:Int):=J;rw[HE (e:=7) (by unfold de;rw[aD (Or.inl Y)]) U];simp only[go_sem,i51,j,Fl,dJ pc,af,ao];rfl
 have j:¬(400:Int)<(I h:Int):=J;by_cases M:200<an aa.aB h
 .have g:(200:Int)<(an aa.aB h:Int):=J;rw[HE (e:=7) (by unfold de;rw[aD (Or.inr M)]) U];simp only[go_sem,i51,j,g,Fl,dJ pc,af,ao];rfl
 have g:¬(200:Int)<(an aa.aB h:Int):=J;have n:¬(400<I h\/200<an aa.aB h):=J;by_cases x:f<0
 .rw[HE (e:=2) (by unfold de;rw[aC n,aD (Or.inl x)]) U];simp only[go_sem,i51,j,g,x,Fl,dJ pc,af,ao];rfl
 by_cases z:40<f
 .rw[HE (e:=2) (by unfold de;rw[aC n,aD (Or.inr z)]) U];simp only[go_sem,i51,j,g,x,z,Fl,dJ pc,af,ao];rfl
 have u:¬(f<0\/40<f):=J;obtain⟨F,rfl⟩:=o_ (show 0<=f by omega);have eX:S.shared 90:=ah;simp only[go_sem,i51,j,g,x,z,Fl,dJ pc,eX,af,ao];refine sG (P:=Xc F h 1 _) t_ (au6 (F:=F) (h:=h) ?_ ?_ ?_ ?_ hl J ?_) ?_
 .refine tu ?_;rw[eJ,lr,abJ (g0:=1) (X:=xz F h (.p .nils) (.p .nils) (.p .nils) (.p .tQ) (.p .nils)) (by simp only[go_sem])];simp
 .intro id E;refine yu ?_;rw[WY];rcases E with E|E|E<;>rw[E]<;>rfl
 .show(S.sites 90).contains _=true;rw[WY];rfl
 .show(S.sites 90).contains _=true;rw[WY];rfl
 .simp only[go_sem]
 rintro v aq ⟨rfl,hk,hr,hz⟩
 unfold Rd;by_cases H:h=[]
 .have D:de F h=0:=by unfold de;rw[aC n,aC u,aD H]
  have B:=hz H;rw[Kp D,aD H];have m:(decide (h=[])||oD F h)=true:=by simp[H]
  rw[m];subst H;simp only[go_sem]at B;simp only[go_sem,af,ao];simp only[go_sem,iR,n_,vE,lX,kS,ij,B,af,ao];rfl
 have m:decide (h=[])=false:=by simp[H]
 cases A:oD F h with
 |false=>rw[HE (e:=3) (by unfold de;rw[aC n,aC u,aC H,A];rfl) U];rw[m,Di];simp only[go_sem,af,ao];rfl
 |true=>
  have D:de F h=0:=by unfold de;rw[aC n,aC u,aC H,A];rfl
  rw[Kp D,aC H];obtain⟨g1,g2,g3,g4,g5,B,R,bW,N,bA,Z⟩:=hr H A;have y:(F:Int).toNat=F:=rfl;rw[y];have t1:List.take (I h) (dB (ld h))=dB (ld h):=fx (by simp[ld]);have T:List.take (I (aE h)) (a_ (aE h))=a_ (aE h):=fx aP;have L:List.take (I h) (a_ (mq h (I h)))=a_ (mq h (I h)):=fx (by simp[mq]);have O:List.take (F+1) (a_ (gy h F))=a_ (gy h F):=fx (by simp[gy]);have n:I h<=I (ld h):=by simp[ld]
  have Q:I h<=I (mq h (I h)):=by simp[mq]
  have X:F+1<=I (gy h F):=by simp[gy]
  rw[m,Di];simp only[go_sem,af,ao];simp only[go_sem,iR,n_,vE,lX,kS,ij,amR,B,bW,bA,N,R,Z,aae,t1,T,L,O,n,Q,X,af,ao];rfl
def am2(f:Int)(h:ai)(hl:I h<=1000000):aK S 22 [c_ f h] (ja (de f h)):=by
 have pr:=MG f h hl;refine bj auG ?_;unfold Lk at pr;by_cases H:de f h=0
 .rw[aD H]at pr;simp only[go_sem,aag,Ft,aU pr cM,H,af,ao]
 rw[aC H]at pr;simp only[go_sem,aag,Ft,aU pr cM,af,ao]
abbrev ep(k a b c:Int)(l o:Bool)(s:Int):V:=.agg [.p (.int .i64 k),.p (.int .i64 a),.p (.int .i64 b),.p (.int .i64 c),.p (.bool l),.p (.bool o),.p (.int .i64 s)]
abbrev azH(e:Int):RV:=.tup [.one (.p .nils),.one (.p (.int .i64 e))]
abbrev qi(e:Int):RV:=.tup [.agg [.p (.int .i64 0),.p .nils],.one (.p (.int .i64 e))]
def ao3{aj:aN}{s:Nat}{e:Int}{l:Bool}:fg aj [] s ((qi e).fR l)=some (.tup [.agg [.p (.int .i64 0),.p .nils],.one (.p (.int .i64 e))],[]):=by cases l<;>rfl
section
variable {f:Int} {h:ai} {e:Int}
def aq5(hl:I h<=1000000)(g:de f h=e)(H:e≠0):aK S 51 [c_ f h] (uD .vp (.int .i64 e)):=by have:=MG f h hl;rwa[HE g H]at this
def aCn(hl:I h<=1000000)(g:de f h=e)(H:e≠0):aK S 116 [c_ f h] (azH e):=by
 have pr:=aq5 hl g H;have Q:(e !=0):=by simpa using H
 refine bj adr ?_;simp only[go_sem,UO,Ft,aU pr cM,Q,af,ao];rfl
def api(hl:I h<=1000000)(g:de f h=e)(H:e≠0):aK S 91 [c_ f h] (uD .vp (.int .i64 e)):=by
 have pr:=aCn hl g H;have Q:(e !=0):=by simpa using H
 refine bj abq ?_;simp only[go_sem,SD,V7,aU pr cM,Q,af,ao];rfl
def aDk(hl:I h<=1000000)(g:de f h=e)(H:e≠0)(k a b c:Int)(l o:Bool)(s:Int):aK S 52 [c_ f h,ep k a b c l o s] (qi e):=by
 have pr:=api hl g H;have Q:(e !=0):=by simpa using H
 refine bj Y4 ?_;simp only[go_sem,OV,VB,aU pr cM,Q,af,ao];rfl
abbrev kinds(k:Nat):aF:=(List.range k).map (· +1)
end
def jF(n v:Nat)(f:Bool):Nat:=if f then 2*((v+n-1)%n)else 2*v+1
def abE(n e:Nat):Nat:=if e%2=0 then e/2 else(e/2+1)%n
def xU(H:v<n):((v+n-1)%n+1)%n=v:=by
 by_cases h:v=0
 .subst h;rw[lq,jh (show n-1<n by omega),show n-1+1=n by omega,zu]
 rw[show v+n-1=(v-1)+n by omega,v8,jh (show v-1<n by omega),show v-1+1=v by omega,jh H]
def FG(H:v<n):((v+1)%n+n-1)%n=v:=by
 by_cases h:v+1=n
 .rw[h,zu,lq,jh (show n-1<n by omega)];omega
 rw[jh (show v+1<n by omega),show v+1+n-1=v+n by omega,v8,jh H]
def al2(H:v<n)(g:Bool):abE n (eZ n v g)=v/\(eZ n v g%2==0)=g:=by
 unfold abE eZ;cases g with
 |true=>have h:(2*v)%2=0:=J;simp only[if_true,h];exact⟨J,rfl⟩
 |false=>have h:(2*((v+n-1)%n)+1)%2=1:=J;have f:(2*((v+n-1)%n)+1)/2=(v+n-1)%n:=J;simp only[eI,if_false,h,f,Pc,xU H];exact⟨trivial,rfl⟩
def L7(h:ai)(ax:aF)(e:Nat):Nat:=
 if 2*I h<=e then
  if e%2=0 then jF (I h) (ax.getD ((e-2*I h)/2) 0) (bN h (ax.getD ((e-2*I h)/2) 0))
  else jF (I h) (ax.getD (((e-2*I h)/2+1)%I ax) 0) (!bN h (ax.getD (((e-2*I h)/2+1)%I ax) 0))
 else
  let v:=abE (I h) e
  let g:=e%2==0
  match h[v]? with
  |none=>0
  |some l=>if l.kind==2 then
    match h[i_ h v]? with
    |some u=>jF (I h) (i_ h v) (g==(u.over==(u.sign==1)))
    |none=>0
   else if g==bN h v then 2*I h+2*ax.idxOf v+1 else 2*I h+2*((ax.idxOf v+I ax-1)%I ax)
def qM(f:oo h){i:Nat}{l:aa}(hl:h[i]?=some l)(n:l.aB):i_ h (i_ h i)=i/\ ∃m,h[i_ h i]?=some m/\m.aB/\m.id=l.id/\m.over= !l.over/\m.sign=l.sign:=by
 obtain⟨B,L⟩:=RZ f hl n;obtain⟨_,u⟩:=HB B;obtain⟨m,H,j,g,M⟩:=C4 u;have hp:Hn h:=by have:=f;unfold oo at this;simp only[c6,dk,kr,gN]at this;exact(IQ.1 this.1.2).2
 have F:i≠i_ h i:=by intro e;rw[<-e,hl]at H;cases H;revert M;cases l.over<;>simp
 obtain⟨A,N⟩:=RZ f H j;obtain⟨_,z⟩:=HB A;obtain⟨x,y,E,X,D⟩:=C4 z;refine⟨?_,m,H,j,g,M,((hp i _ l m hl H n j g.symm F).2).symm⟩;refine Decidable.byContradiction λv=>?_;have:=(hp _ i x l y hl E n (by rw[X,g]) v).1;rw[D,M]at this;revert this;cases l.over<;>simp
def agc{ax:aF}{d:Nat}{f:Bool}{l:aa}(g:¬2*I h<=d)(B:(d%2==0)=f)(H:v=if f then(d/2+1)%I h else d/2)(hl:h[v]?=some l):
  j8 h ax d=if l.kind==2 then eZ (I h) (i_ h v) (f==(l.over==(l.sign==1)))
   else if bN h v==f then 2*I h+2*ax.idxOf v else 2*I h+2*((ax.idxOf v+I ax-1)%I ax)+1:=by
 subst B;subst H;unfold j8;rw[aC g];simp only[hl]
def alL(ok:gh F h){d:Nat}(hd:d<2*I h+2*I (aE h)):L7 h (aE h) (j8 h (aE h) d)=d:=by
 have kK:∀x∈aE h,x<I h/\ ∃l,h[x]?=some l/\l.aI:=λx hx=>by obtain⟨l,h1,y⟩:=uk.1 hx;exact⟨(cn.1 h1).1,l,h1,y⟩
 have L:∀ {p v:Nat},(aE h)[p]?=some v->(aE h).idxOf v=p:=λ{p v} hp=>by obtain⟨l,hl,z,he⟩:=yz ok.ax hp;rw[NP ok.ax hl z,he]
 have A:∀ {v:Nat} (g:Bool),v<I h-> ¬2*I h<=eZ (I h) v g:=λ{v} g H=>by have:=Du (n:=I h) (f:=g) H;omega
 have N:∀ {l:aa},l.aI->(l.kind==2)=false:=λ{l} ab=>pR ab;have f:∀ {p v:Nat} (g:Bool),(aE h)[p]?=some v->L7 h (aE h) (eZ (I h) v g)=if g==bN h v then 2*I h+2*p+1 else 2*I h+2*((p+I (aE h)-1)%I (aE h)):=by intro p v g hp;obtain⟨H,l,hl,z⟩:=kK v (bR hp);obtain⟨u,E⟩:=al2 H g;unfold L7;rw[aC (A g H)];simp only[u,E,hl,N z,L hp];rfl
 by_cases ab:2*I h<=d
 .unfold j8;rw[aD ab];have T:=fk ((d-2*I h)/2+1) (show 0<I (aE h) by omega);by_cases y:d%2=0
  .rw[aD y];obtain⟨v,H⟩:=aT T;have M:(aE h).getD (((d-2*I h)/2+1)%I (aE h)) 0=v:=by rw[dC,H];rfl
   rw[M,f _ H];have D:((!bN h v)==bN h v)=false:=by cases bN h v<;>rfl
   rw[D,FG (show(d-2*I h)/2<I (aE h) by omega)];simp only[eI,if_false];omega
  rw[aC y];obtain⟨v,H⟩:=aT (L:=aE h) (k:=(d-2*I h)/2) J;have M:(aE h).getD ((d-2*I h)/2) 0=v:=by rw[dC,H];rfl
  rw[M,f _ H];simp only[zL,if_true];omega
 have hn:0<I h:=J;have oY:=fk (d/2+1) hn;have Q:∀(v:Nat) (j:Bool),v<I h->(d%2==0)=j->v=(if j then(d/2+1)%I h else d/2)->jF (I h) v j=d:=by
  intro v j H B R;unfold jF;cases j with
  |true=>
   have B:d%2=0:=by simpa using B
   simp only[if_true]at R |-;rw[R,FG (show d/2<I h by omega)];omega
  |false=>
   have B:d%2≠0:=by simpa using B
   simp only[eI,if_false]at R |-;omega
 generalize H:(if(d%2==0)=true then(d/2+1)%I h else d/2)=v;generalize B:(d%2==0)=j at H;have Z:v<I h:=by rw[<-H];split<;>omega
 have X:=Q v j Z B H.symm;obtain⟨l,hl⟩:=aT Z;rw[agc ab B H.symm hl];cases hk:(l.kind==2)with
 |true=>
  have hc:l.aB:=hk;obtain⟨D,m,T,mc,mi,mo,ms⟩:=qM ok.cr hl hc;have PX:=(RZ ok.cr hl hc).2;rw[aD rfl];obtain⟨u,E⟩:=al2 PX (j==(l.over==(l.sign==1)));unfold L7;rw[aC (A _ PX)];have mk:(m.kind==2):=mc;simp only[u,E,T,mk,if_true,D,hl];have F8:((j==(l.over==(l.sign==1)))==(l.over==(l.sign==1)))=j:=by cases j<;>cases(l.over==(l.sign==1))<;>rfl
  rw[F8];exact X
 |false=>
  have hp:=ok.Ug hl hk;have JH:=NP ok.ax hl hp;have Y:=Z1 ok.ax hl hp;have O:=(cn.1 Y).1;rw[aC aP,JH];cases hq:(bN h v==j)with
  |true=>
   simp only[if_true];unfold L7;rw[aD J,aD J];have u:(2*I h+2*fD h l-2*I h)/2=fD h l:=J;have E:(aE h).getD (fD h l) 0=v:=by rw[dC,Y];rfl
   rw[u,E,show bN h v=j by simpa using hq];exact X
  |false=>
   have im:=fk (fD h l+I (aE h)-1) (show 0<I (aE h) by omega);simp only[eI,if_false];unfold L7;rw[aD J,aC J];have u:(2*I h+2*((fD h l+I (aE h)-1)%I (aE h))+1-2*I h)/2=(fD h l+I (aE h)-1)%I (aE h):=J;have E:(aE h).getD (fD h l) 0=v:=by rw[dC,Y];rfl
   rw[u,xU O,E,show(!bN h v)=j by revert hq;cases bN h v<;>cases j<;>simp];exact X
def aB9(ok:gh F h){d e:Nat}(f:d<2*I h+2*I (aE h))(j:e<2*I h+2*I (aE h))(m:bz h d=bz h e):d=e:=by have H:=alL ok f;have g:=alL ok j;rw[<-H,<-g];exact congrArg _ m
def KU(next:Nat->Nat)(u:Nat):Nat->Nat->dS->aF×dS
 |0,_,f=>([],f)
 |k+1,x,f=>if x<u then
   if f.getD x true then([],f)else(x::(KU next u k (next x) (f.set x true)).1,(KU next u k (next x) (f.set x true)).2)
  else(x::(KU next u k (next x) f).1,(KU next u k (next x) f).2)
abbrev dL(S:dS)(x:Nat):Bool:=S.getD x true
def NZ{S:dS}{y:Nat}(H:x<I S):dL (S.set x true) y=if y=x then true else dL S y:=by
 unfold dL;rw[dC,dC,mT];by_cases h:x=y
 .subst h;simp[H]
 rw[aC h,aC (λe=>h e.symm)]
structure Bu (next:Nat->Nat) (n2 N:Nat):Prop where
 le:n2<=N
 lt:∀x,x<N->next x<N
 inj:∀x y,x<N->y<N->next x=next y->x=y
 ax:∀x,x<N->n2<=x->next x<n2
def OH(next:Nat->Nat)(N:Nat)(S:dS):Prop:=∀y,y<N->dL S y=dL S (next y)
structure Inv (next:Nat->Nat) (N d:Nat) (S:dS) (x:Nat):Prop where
 i1:∀y,y<N->dL S (next y)->dL S y\/next y=d
 i2:∀y,y<N->dL S y->dL S (next y)\/next y=x
 i4:dL S x->x=d
 pr:(x=d/\dL S x=false)\/ ∃p,p<N/\next p=x/\dL S p
def Inv.start{next:Nat->Nat}{d:Nat}{S:dS}(h:OH next N S)(f:dL S d=false):Inv next N d S d:=
 ⟨λy H ae=>.inl (by rw[h y H];exact ae),λy H ae=>.inl (by rw[<-h y H];exact ae),λ_=>rfl,.inl ⟨rfl,f⟩⟩
def Inv.stop{next:Nat->Nat}{d:Nat}{S:dS}(m:Bu next u N)(h:Inv next N d S x)(v:dL S x):OH next N S:=by
 have g:=h.i4 v;subst g;intro y j;cases f:dL S y with
 |true=>
  rcases h.i2 y j f with H|H
  .rw[H]
  rw[H,v]
 |false=>
  cases H:dL S (next y)with
  |false=>rfl
  |true=>
   rcases h.i1 y j H with n|n
   .rw[n]at f;cases f
   rcases h.pr with⟨_,z⟩|⟨p,hp,L,D⟩
   .rw[v]at z;cases z
   have:=m.inj y p j hp (by rw[n,L]);rw[this,D]at f;cases f
def Inv.step{next:Nat->Nat}{d:Nat}{S:dS}(m:Bu next u N)(hl:I S=N)(j:x<N)(h:Inv next N d S x)(v:dL S x=false):Inv next N d (S.set x true) (next x):=by
 have g:x<I S:=J;refine⟨λy f ae=>?_,λy f ae=>?_,λae=>?_,.inr ⟨x,j,rfl,by rw[NZ g,aD rfl]⟩⟩
 .rw[NZ g]at ae |-;by_cases e:next y=x
  .rcases h.pr with⟨n,_⟩|⟨p,hp,L,D⟩
   .exact .inr (by rw[e,n])
   have:=m.inj y p f hp (by rw[e,L]);left;rw[this];split
   .rfl
   exact D
  rw[aC e]at ae;rcases h.i1 y f ae with H|H
  .left;split
   .rfl
   exact H
  exact .inr H
 .rw[NZ g]at ae |-;by_cases e:y=x
  .subst e;exact .inr rfl
  rw[aC e]at ae;rcases h.i2 y f ae with H|H
  .left;split
   .rfl
   exact H
  left;rw[aD H]
 rw[NZ g]at ae;by_cases e:next x=x
 .rcases h.pr with⟨n,_⟩|⟨p,hp,L,D⟩
  .rw[e,n]
  have:=m.inj p x hp j (by rw[L,e]);rw[this,v]at D;cases D
 rw[aC e]at ae;rcases h.i1 x j ae with H|H
 .rw[v]at H;cases H
 exact H
def Wr{S:dS}(h:x<u)(hl:u<=I S):(S.take u).getD x true=dL S x:=by unfold dL;rw[dC,dC,nE,aD h]
def ahl{S:dS}:(S.take u).set x true=(S.set x true).take u:=by rw[<-List.take_set]
def ai6{S:dS}(h:u<=x):(S.set x true).take u=S.take u:=by rw[List.take_set];exact Sa (by rw[gX];omega)
def aq0{next:Nat->Nat}{d:Nat}(m:Bu next u N)(D:d<u):∀(f x:Nat) (S:dS),I S=N->x<N->Inv next N d S x->zM S<f->
  OH next N (g_ next f x S).2/\KU next u f x (S.take u)=((g_ next f x S).1,(g_ next f x S).2.take u):=by
 intro f
 induction f with
 |zero=>intro x S _ _ _ h;omega
 |succ f z=>
  intro x S hl n H E;have B:=m.le;unfold g_ KU;cases ae:S.getD x true with
  |true=>have v:=H.i4 ae;have A:x<u:=J;rw[aD A,Wr A J,show dL S x=true from ae];exact⟨H.stop m ae,rfl⟩
  |false=>
   have M:S[x]?=some false:=by
    rw[dC]at ae;cases j:S[x]? with
    |none=>rw[j]at ae;cases ae
    |some b=>rw[j]at ae;exact congrArg some ae
   have F:=ND M;obtain⟨y,g⟩:=z (next x) (S.set x true) (by rw[jo,hl]) (m.lt x n) (H.step m hl n ae) J;simp only[eI,if_false];refine⟨y,?_⟩;by_cases A:x<u
   .rw[aD A,Wr A J,show dL S x=false from ae];simp only[eI,if_false];rw[ahl,g]
   rw[aC A];rw[ai6 J]at g;rw[g]
def gh.kK(_:gh F h):∀x∈aE h,x<I h:=λ_ H=>QN H
def gh.hp(ok:gh F h):∀v l,h[v]?=some l->(l.kind==2)=false->v∈aE h:=λ_ l H f=>uk.2 ⟨l,H,ok.Ug H f⟩
abbrev bt(ls:ai):Nat:=2*I ls+2*I (aE ls)
def qS(ok:gh F h):Bu (bz h) (2*I h) (bt h):=by
 refine⟨by unfold bt;omega,λx H=>S_ ok.kK ok.hp H,λx y H n z=>aB9 ok H n z,λx H u=>?_⟩;have H:x<2*I h+2*I (aE h):=H;have g:∀k,k<I (aE h)->(aE h).getD k 0<I h:=λk m=>by obtain⟨v,f⟩:=aT m;rw[dC,f];exact ok.kK v (bR f)
 have j:=fk ((x-2*I h)/2+1) (show 0<I (aE h) by omega);show j8 h (aE h) x<_;unfold j8;rw[aD u];split
 .exact Du (g _ j)
 exact Du (g _ J)
def adN(next:Nat->Nat):∀(k x:Nat) (S:dS) (y:Nat),dL S y->dL (g_ next k x S).2 y:=by
 intro k
 induction k with
 |zero=>intro x S y h;exact h
 |succ k f=>
  intro x S y h;unfold g_;split
  .exact h
  refine f _ _ _ ?_;unfold dL;rw[dC,mT];split
  .split<;>rfl
  rw[<-dC];exact h
def aeD(next:Nat->Nat)(k x:Nat)(S:dS)(H:zM S<k):dL (g_ next k x S).2 x:=by
 cases k with
 |zero=>omega
 |succ k=>
  unfold g_;cases ae:S.getD x true with
  |true=>simpa using ae
  |false=>
   simp only[eI,if_false];refine adN _ _ _ _ _ ?_;unfold dL;rw[dC,mT];split
   .split<;>rfl
   rename_i h;exact absurd rfl h
section
variable {next:Nat->Nat} {u N:Nat}
def W3(h:x<N):dL (List.replicate N false) x=false:=by unfold dL;rw[dC,List.getElem?_replicate,aD h];rfl
def Ux(m:Bu next u N):∀k,k<=u->OH next N (fe next N k).2/\ ∀x,x<k->dL (fe next N k).2 x:=by
 intro k
 induction k with
 |zero=>intro _;refine⟨λy g=>?_,λx h=>absurd h (pG x)⟩;show dL (List.replicate N false) y=dL (List.replicate N false) (next y);rw[W3 g,W3 (m.lt y g)]
 |succ k n=>
  intro A;obtain⟨c,s⟩:=n J;have H:=Hj next N k;have v:=m.le;rw[zO];unfold wz;cases ae:(fe next N k).2.getD k true with
  |true=>
   simp only[if_true];refine⟨c,λx f=>?_⟩;rcases mQ.1 f with h|rfl
   .exact s x h
   exact ae
  |false=>
   simp only[eI,if_false];have j:=Mf (fe next N k).2;obtain⟨z,_⟩:=aq0 m (show k<u by omega) ((fe next N k).2.length+1) k (fe next N k).2 H J (Inv.start c ae) J;refine⟨z,λx f=>?_⟩;rcases mQ.1 f with h|rfl
   .exact adN _ _ _ _ _ (s x h)
   exact aeD _ _ _ _ J
def Y8(m:Bu next u N):∀k,u<=k->k<=N->fe next N k=fe next N u:=by
 intro k
 induction k with
 |zero=>intro h _;rw[show u=0 by omega]
 |succ k f=>
  intro n j;by_cases e:u=k+1
  .rw[e]
  rw[zO,f J J];obtain⟨c,s⟩:=Ux m u (c3 _);unfold wz;have:(fe next N u).2.getD k true:=by have H:=c k J;have g:=s (next k) (m.ax k J J);show dL (fe next N u).2 k=true;rw[H,g]
  rw[this];rfl
end
def amD(f:Int)(h:ai)(e:Nat)(hl:I h<=1000000)(H:e<I h):aK S 110 [c_ f h,aH e] (cO (!bN h (e+1))):=by have j:=I_ f h (e+1) hl J;have g:=cN (n:=e) J;refine bj av3 ?_;simp only[go_sem,agt,g,zP,au j,af,ao]
def apv(w:aF)(Q:I w<=1000000):aK S 130 [.one (.p (tU w))] (.one (cF 3 1 (a_ w.reverse))):=by
 have M:=ud (a:=I w) J;refine bj ay6 ?_;simp only[go_sem,aft,M,af,ao];refine dy (λk m aj=>m 0=.one (.p (tU w))/\m 4=aH ((I w:Int)-1-(k:Int))/\cg 8320320384 3 1 (a_ (w.reverse.take k)) (m 3) aj) 0 (I w) (cG _) ?_ ?_
 .simp only[go_sem];refine⟨aP,.inl ⟨aP,rfl⟩⟩
 rintro k m aj Y ⟨z,H,u⟩
 by_cases A:k<I w
 .have N:((I w:Int)-1-(k:Int))=((I w-1-k:Nat):Int):=J;rw[N]at H;have L:(0:Int)<=((I w-1-k:Nat):Int):=J;obtain⟨v,D⟩:=aT (show I w-1-k<I w by omega);have y:=jG D;have x:IntKind.i64.wrap (((I w-1-k:Nat):Int)-1)=((I w:Int)-1-((k+1:Nat):Int)):=by
   rw[ud J];omega
  have O:w.reverse[k]?=some v:=by rw[J5 A];exact D
  have f:a_ (w.reverse.take (k+1))=a_ (w.reverse.take k)++[[.int .i64 (v:Int)]]:=by rw[jT,O];simp
  have T:I (a_ (w.reverse.take k))=k:=by simp;omega
  rcases u with⟨e,h⟩|⟨B,g,h,j⟩
  .rw[e]at f T;have X:k=0:=by simpa using T.symm
   simp only[go_sem,O2,z,h,H,L,y,x,A,af,ao];refine .inr ⟨by rw[f];simp,(aj 8320320384).1+1,?_,?_⟩
   .rw[f];rfl
   simp only[cD,if_true];rw[f];rfl
  rw[T]at h;have n:List.take k (a_ (w.reverse.take k))=a_ (w.reverse.take k):=fx J;have E:(k+1)*8<=140737488355328:=J;have F:k<=I (a_ (w.reverse.take k)):=J;generalize a_ (w.reverse.take k)=R at f T j n F;simp only[go_sem,O2,z,h,H,L,y,x,A,j,n,E,F,af,ao];refine .inr ⟨by rw[f];simp,g+1,?_,?_⟩
  .rw[f];simp[T]
  simp only[cD,if_true];rw[f]
 have:k=I w:=J;subst this;have L:¬(0:Int)<=((I w:Int)-1-(I w:Int)):=J;have n:w.reverse.take (I w)=w.reverse:=fx aP;rw[n]at u;rcases u with⟨e,h⟩|⟨B,g,h,j⟩
 .simp only[go_sem,O2,adD,h,H,L,af,ao];rw[cF,aD e]
 simp only[go_sem,O2,adD,h,H,L,af,ao];rw[cF,aC B];exact Hz j aP
abbrev eO(o:rV):q_:=o.map λp=>[PV.int .i64 (p.1:Int),PV.int .i64 (p.2:Int)]
def abk{o:rV}{k:Nat}{p:Nat×Nat}(h:o[k]?=some p):(eO o)[k]?=some [.int .i64 (p.1:Int),.int .i64 (p.2:Int)]:=by simp[h]
def aBg(w:rV)(Q:I w<=1000000):aK S 129 [.one (.p (.sl (eO w)))] (.one (cF 164 2 (eO w.reverse))):=by
 have M:=ud (a:=I w) J;refine bj arH ?_;simp only[go_sem,aho,M,af,ao];refine dy (λk m aj=>m 0=.one (.p (.sl (eO w)))/\m 4=aH ((I w:Int)-1-(k:Int))/\cg 8256320384 164 2 (eO (w.reverse.take k)) (m 3) aj) 0 (I w) (cG _) ?_ ?_
 .simp only[go_sem];refine⟨aP,.inl ⟨aP,rfl⟩⟩
 rintro k m aj Y ⟨z,H,u⟩
 by_cases A:k<I w
 .have N:((I w:Int)-1-(k:Int))=((I w-1-k:Nat):Int):=J;rw[N]at H;have L:(0:Int)<=((I w-1-k:Nat):Int):=J;obtain⟨v,D⟩:=aT (show I w-1-k<I w by omega);have y:=abk D;have x:IntKind.i64.wrap (((I w-1-k:Nat):Int)-1)=((I w:Int)-1-((k+1:Nat):Int)):=by
   rw[ud J];omega
  have O:w.reverse[k]?=some v:=by rw[J5 A];exact D
  have f:eO (w.reverse.take (k+1))=eO (w.reverse.take k)++[[.int .i64 (v.1:Int),.int .i64 (v.2:Int)]]:=by rw[jT,O];simp
  have T:I (eO (w.reverse.take k))=k:=by simp;omega
  rcases u with⟨e,h⟩|⟨B,g,h,j⟩
  .rw[e]at f T;have X:k=0:=by simpa using T.symm
   simp only[go_sem,NY,z,h,H,L,y,x,A,af,ao];refine .inr ⟨by rw[f];simp,(aj 8256320384).1+1,?_,?_⟩
   .rw[f];rfl
   simp only[cD,if_true];rw[f];rfl
  rw[T]at h;have n:List.take k (eO (w.reverse.take k))=eO (w.reverse.take k):=fx J;have E:(k+1)*16<=140737488355328:=J;have F:k<=I (eO (w.reverse.take k)):=J;generalize eO (w.reverse.take k)=R at f T j n F;simp only[go_sem,NY,z,h,H,L,y,x,A,j,n,E,F,af,ao];refine .inr ⟨by rw[f];simp,g+1,?_,?_⟩
  .rw[f];simp[T]
  simp only[cD,if_true];rw[f]
 have:k=I w:=J;subst this;have L:¬(0:Int)<=((I w:Int)-1-(I w:Int)):=J;have n:w.reverse.take (I w)=w.reverse:=fx aP;rw[n]at u;rcases u with⟨e,h⟩|⟨B,g,h,j⟩
 .simp only[go_sem,NY,WM,h,H,L,af,ao];rw[cF,aD e]
 simp only[go_sem,NY,WM,h,H,L,af,ao];rw[cF,aC B];exact Hz j aP
def o9(g r to:Nat):rV:=(g,r)::(List.range (to-g)).map λi=>(g+1+i,0)
def sU(g to:Nat):aF:=(List.range (to-g)).map λi=>g+1+i
def od(g r k:Nat):rV:=(g,r)::(List.range k).map λi=>(g+1+i,0)
def sE(g k:Nat):aF:=(List.range k).map λi=>g+1+i
def awQ(g r k:Nat):eO (od g r (k+1))=eO (od g r k)++[[.int .i64 ((g+1+k:Nat):Int),.int .i64 0]]:=by simp[od,rN]
def atD(g k:Nat):a_ (sE g (k+1))=a_ (sE g k)++[[.int .i64 ((g+1+k:Nat):Int)]]:=by simp[sE,rN]
def apb(g r k:Nat)(v:V)(aj:aN):Prop:=(k=0/\ ∃e,v=.one (.hsl 10432064192 e 2 0 1)/\aj 10432064192=(e,some (.arr 164 2 (eO (od g r 0)))))\/
 (k≠0/\ ∃e,v=.one (.hsl 10432384256 e 2 0 (k+1))/\aj 10432384256=(e,some (.arr 164 2 (eO (od g r k)))))
def aCf(g r to:Nat)(hg:g<=1000)(hr:r<=1000000)(ht:to<=1000):aK S 163 [aH g,aH r,aH to] (.tup [.one (.own 164 2 (eO (o9 g r to))),.one (cF 3 1 (a_ (sU g to)))]):=by
 have Z:=cN (n:=g) J;refine bj atw ?_;simp only[go_sem,ah1,Z,af,ao];refine dy (λk m aj=>m 2=aH to/\m 10=aH ((g+1+k:Nat):Int)/\apb g r k (m 8) aj/\cg 10432448192 3 1 (a_ (sE g k)) (m 9) aj) 0 (to-g) (cG _) ?_ ?_
 .simp only[go_sem];exact⟨.inl ⟨rfl,1,rfl,rfl⟩,.inl ⟨rfl,rfl⟩⟩
 rintro k m aj hk ⟨D,z,ae,y⟩
 by_cases O:k<to-g
 .have h:((g+1+k:Nat):Int)<=(to:Int):=J;have M:=cN (n:=g+1+k) J;have hp:=awQ g r k;have E:=atD g k;rcases ae with⟨rfl,e,j,H⟩|⟨X,e,j,H⟩
  .rcases y with⟨_,f⟩|⟨A,_⟩
   .have Q:I (eO (od g r 0))=1:=by simp[od]
    have T:List.take 1 (eO (od g r 0))=eO (od g r 0):=fx J;have N:1<=I (eO (od g r 0)):=J;generalize eO (od g r 0)=ps at hp H T N;simp only[go_sem,Ni,D,j,f,z,H,h,M,O,T,N,af,ao];refine⟨.inr ⟨J,(aj 10432384256).1+1,rfl,?_⟩,.inr ⟨by simp[sE],(aj 10432448192).1+1,?_,?_⟩⟩
    .simp only[cD,if_true,reduceIte,Nat.reduceEqDiff];rw[hp]
    .rfl
    simp only[cD,if_true];rfl
   exact absurd rfl A
  rcases y with⟨F,_⟩|⟨A,L,f,B⟩
  .exact absurd F (by simp[sE];omega)
  have x:I (a_ (sE g k))=k:=by simp[sE]
  have Q:I (eO (od g r k))=k+1:=by simp[od]
  rw[x]at f;have T:List.take (k+1) (eO (od g r k))=eO (od g r k):=fx J;have v:List.take k (a_ (sE g k))=a_ (sE g k):=fx J;have r1:(k+1+1)*16<=140737488355328:=J;have r2:(k+1)*8<=140737488355328:=J;have N:k+1<=I (eO (od g r k)):=J;have u:k<=I (a_ (sE g k)):=J;generalize eO (od g r k)=ps at hp H T N;generalize a_ (sE g k)=fs at E B v u x A;simp only[go_sem,Ni,D,j,f,z,H,B,h,M,O,T,v,r1,r2,N,u,af,ao];refine⟨rfl,.inr ⟨J,e+1,rfl,?_⟩,.inr ⟨by rw[E];simp,L+1,?_,?_⟩⟩
  .simp only[cD,if_true,reduceIte,Nat.reduceEqDiff];rw[hp]
  .rw[E];simp[x]
  simp only[cD,if_true];rw[E]
 have:k=to-g:=J;subst this;have h:¬((g+1+(to-g):Nat):Int)<=(to:Int):=J;have e1:o9 g r to=od g r (to-g):=rfl;have L:sU g to=sE g (to-g):=rfl;rw[e1,L];generalize R:to-g=bY at ae y;have Q:I (eO (od g r bY))=bY+1:=by simp[od]
 have x:I (a_ (sE g bY))=bY:=by simp[sE]
 rw[R]at h z;rcases ae with⟨rfl,e,j,H⟩|⟨X,e,j,H⟩
 .rcases y with⟨Y,f⟩|⟨A,_⟩
  .have T:List.take 1 (eO (od g r 0))=eO (od g r 0):=fx J;have N:1<=I (eO (od g r 0)):=J;rw[cF,aD Y];generalize eO (od g r 0)=ps at H T N;simp only[go_sem,Ni,aas,D,j,f,z,h,af,ao];simp only[go_sem,iR,n_,vE,lX,kS,ij,H,T,N,af,ao];rfl
  exact absurd rfl A
 rcases y with⟨F,_⟩|⟨A,e3,f,B⟩
 .exact absurd F (by simp[sE];omega)
 rw[x]at f;have T:List.take (bY+1) (eO (od g r bY))=eO (od g r bY):=fx J;have v:List.take bY (a_ (sE g bY))=a_ (sE g bY):=fx J;have N:bY+1<=I (eO (od g r bY)):=J;have u:bY<=I (a_ (sE g bY)):=J;rw[cF,aC A];generalize eO (od g r bY)=ps at H T N;generalize a_ (sE g bY)=fs at B v u;simp only[go_sem,Ni,aas,D,j,f,z,h,af,ao];simp only[go_sem,iR,n_,vE,lX,kS,ij,H,B,T,v,N,u,af,ao];rfl
abbrev xn:Nat:=164
def yE (h:ai)(i:Nat):Nat:=match h[i]? with|some l=>l.gate.toNat|none=>0
def Re (h:ai)(i:Nat):Nat:=match h[i]? with|some l=>l.ay.toNat|none=>0
def y_{i:Nat}{l:aa}(H:h[i]?=some l):yE h i=l.gate.toNat:=by simp[yE,H]
def acv{i:Nat}{l:aa}(H:h[i]?=some l):Re h i=l.ay.toNat:=by simp[Re,H]
def pI(F:Nat)(h:ai)(j:Nat):rV:=
 let u:=(aE h).getD j 0
 let v:=(aE h).getD ((j+1)%I (aE h)) 0
 if j+1<I (aE h) then o9 (yE h u) (Re h u) (yE h v)else o9 (yE h u) (Re h u) F++o9 0 0 (yE h v)
def As(F:Nat)(h:ai)(j:Nat):aF:=
 let u:=(aE h).getD j 0
 let v:=(aE h).getD ((j+1)%I (aE h)) 0
 if j+1<I (aE h) then sU (yE h u) (yE h v)else sU (yE h u) F++sU 0 (yE h v)
def BB(a b:rV):eO (a++b)=eO a++eO b:=aP
def z_(a b:aF):a_ (a++b)=a_ a++a_ b:=aP
def xB(g r to:Nat):I (o9 g r to)=to-g+1:=by simp[o9]
def PG(g to:Nat):I (sU g to)=to-g:=by simp[sU]
def abm(g r to:Nat)(H:g<=1000)(j:r<=1000000)(f:to<=1000):aK S 163 [aH g,aH r,aH to] (.tup [.one (cF xn 2 (eO (o9 g r to))),.one (cF 3 1 (a_ (sU g to)))]):=by have h:=aCf g r to H j f;have e:cF xn 2 (eO (o9 g r to))=.own xn 2 (eO (o9 g r to)):=aC (by simp[o9]);rw[e];exact h
def QP(ok:gh F h)(m:j<I (aE h)):∃u l,(aE h)[j]?=some u/\(aE h).getD j 0=u/\h[u]?=some l/\l.aI/\tq F h l:=by obtain⟨u,H⟩:=aT m;obtain⟨l,f,g⟩:=uk.1 (bR H);exact⟨u,l,H,by rw[dC,H];rfl,f,g,ok.ax.fG l (bR f) g⟩
def apL(ok:gh F h)(hF:F<=1000)(hj:j<I (aE h)):
  aK S 128 [c_ F h,.one (.p (tU (aE h))),aH j] (.tup [.one (cF xn 2 (eO (pI F h j))),.one (cF 3 1 (a_ (As F h j)))]):=by
 have hl:=ok.hl;have jQ:I (aE h)<=1000000:=ny (sF h (I h)) hl;have hm:=fk (j+1) (show 0<I (aE h) by omega);obtain⟨u,p,hu,du,hp,pp,gp⟩:=QP ok hj;obtain⟨v,q,hv,dv,hq,pq,M⟩:=QP ok hm;unfold pI As;simp only[du,dv,y_ hp,y_ hq,acv hp];have eV:=gb hp;have E:=gb hq;have D:=jG hu;have T:=jG hv;have R:=tB (j+1) (I (aE h));have Y:=cN (n:=j) J;have w2:=EF (a:=I (aE h)) J J;have O:¬((I (aE h):Int)=0):=J
 have HS:=gp.g0;have CL:=gp.g1;have xM:=M.g0;have cK:=M.g1;have Ie:=gp.r0;have x:=gp.r1;have Z:bU h p.gate.toNat<=I h:=o7 _ _;obtain⟨pg,m⟩:=o_ (show 0<=p.gate by omega);obtain⟨pr,g⟩:=o_ (show 0<=p.ay by omega);obtain⟨Q,H⟩:=o_ (show 0<=q.gate by omega);rw[m]at CL x Z HS;rw[g]at x Ie;rw[H]at xM cK;rw[m,g,H];simp only[nP]at x Z |-;refine bj avj ?_;have jk:S.lone 8192192384=false:=ah;have jE:S.lone 8192256384=false:=ah;have L:S.lone 8192320128=false:=ah;by_cases aw:j+1<I (aE h)
 .have A:(j:Int)<((I (aE h)-1:Nat):Int):=J;have ps:=abm pg pr Q J J J;simp only[aD aw];simp only[go_sem,acA,D,T,eV,E,dD,aa.ps,Y,R,w2,A,O,m,g,H,an5];refine⟨aA,?_⟩;refine UH ps jk λc e aq z y hb=>?_;simp only[go_sem];exact Nn U z y
 have A:¬(j:Int)<((I (aE h)-1:Nat):Int):=J;have ps:=abm pg pr F J J J;have f:=abm 0 0 Q J J J;have e0:((0:Nat):Int)=0:=rfl;rw[e0]at f;simp only[aC aw];simp only[go_sem,acA,D,T,eV,E,dD,aa.ps,Y,R,w2,A,O,m,g,H,an5];refine⟨aA,?_⟩;refine UH ps jE λc e bG z y ba=>?_;simp only[go_sem,ba,H];refine UH f L λc2 e2 bh lz N X=>?_;simp only[go_sem];obtain⟨r1,rh,_⟩:=lz.elems;refine th (z.of_eq (X _ U U)) rh lz.ao (by simp only[cY,xB];omega) λc9 mW zW iL=>?_;simp only[go_sem];obtain⟨r2,Ag,_⟩:=(N.of_eq (iL _ U U)).elems;refine th (y.of_eq ((iL _ U U).trans (X _ U U))) Ag N.ao (by simp only[cY,PG];omega) λc4 St B iF=>?_
 simp only[go_sem];rw[BB,z_];exact Nn U (zW.of_eq (iF _ U U)) B
structure dt where
 eF:Bool
 bQ:aF
 places:rV
 rH:aF
 outer:Bool
abbrev D4:=List dt
def dt.ps(f:dt):b_:=[.bool f.eF,.sl (a_ f.bQ),.sl (eO f.places),.sl (a_ f.rH),.bool f.outer]
def dt.add(F:Nat)(h:ai)(f:dt)(x:Nat):dt:=
 if x<2*I h then{f with bQ:=f.bQ++[x]}
 else{f with places:=f.places++(if x%2=0 then pI F h ((x-2*I h)/2)else(pI F h ((x-2*I h)/2)).reverse),rH:=f.rH++(if x%2=0 then As F h ((x-2*I h)/2)else(As F h ((x-2*I h)/2)).reverse),outer:=f.outer||decide ((x-2*I h)/2+1=I (aE h))}
def dt.new(h:ai)(d:Nat):dt:=⟨bN h (d/2+1),[],[],[],false⟩
def AG(F:Nat)(h:ai)(w:aF)(k:Nat):dt:=(w.take k).foldl (dt.add F h) (dt.new h (w.headD 0))
def jg(F:Nat)(h:ai)(w:aF):dt:=w.foldl (dt.add F h) (dt.new h (w.headD 0))
def dG(F:Nat)(h:ai):D4:=(fz (bz h) (bt h)).map (jg F h)
def aab(F:Nat)(h:ai)(w:aF):AG F h w (I w)=jg F h w:=by unfold AG jg;rw[lA]
def ahY{w:aF}{k:Nat}(H:w[k]?=some x):AG F h w (k+1)=(AG F h w k).add F h x:=by unfold AG;rw[jT,H,BN];rfl
def R_(ok:gh F h)(f:j<I (aE h)):yE h ((aE h).getD j 0)<=F:=by obtain⟨u,l,_,D,hl,_,H⟩:=QP ok f;rw[D,y_ hl];have:=H.g1;have:=H.g0;omega
def Rz(ok:gh F h)(H:j<I (aE h)):I (pI F h j)<=2*F+2:=by have f:=R_ ok H;have g:=R_ ok (fk (j+1) (show 0<I (aE h) by omega));unfold pI;simp only;split<;>simp only[gT,xB]<;>omega
def VX(ok:gh F h)(H:j<I (aE h)):I (As F h j)<=2*F+2:=by have f:=R_ ok H;have g:=R_ ok (fk (j+1) (show 0<I (aE h) by omega));unfold As;simp only;split<;>simp only[gT,PG]<;>omega
def Xe(ok:gh F h){w:aF}(g:∀x∈w,x<bt h):∀k,k<=I w->(AG F h w k).bQ.length<=k/\(AG F h w k).places.length<=k*(2*F+2)/\(AG F h w k).rH.length<=k*(2*F+2):=by
 intro k
 induction k with
 |zero=>intro _;exact⟨c3 _,cG _,cG _⟩
 |succ k j=>
  intro n;obtain⟨x,H⟩:=aT (show k<I w by omega);obtain⟨i1,i2,i3⟩:=j J;have B:=g x (bR H);rw[ahY H,Nat.succ_mul];unfold dt.add;by_cases m:x<2*I h
  .rw[aD m];simp only[gT,dW,fU];exact⟨J,J,J⟩
  rw[aC m];have f:(x-2*I h)/2<I (aE h):=by unfold bt at B;omega
  have L:=Rz ok f;have u:=VX ok f;refine⟨by simp only;omega,?_,?_⟩
  .simp only[gT];split<;>(try rw[jl])<;>omega
  simp only[gT];split<;>(try rw[jl])<;>omega
def ay3(next:Nat->Nat):∀(k x:Nat) (S:dS),∀y∈(g_ next k x S).1,y<I S:=by
 intro k
 induction k with
 |zero=>intro x S y h;simp[g_]at h
 |succ k g=>
  intro x S y h;unfold g_ at h;cases ae:S.getD x true with
  |true=>rw[ae]at h;simp at h
  |false=>
   rw[ae]at h;have f:x<I S:=by
    rcases I9 x (I S) with H|H
    .exact H
    rw[dC,pF H]at ae;cases ae
   simp only[eI,if_false,dr]at h;rcases h with rfl|h
   .exact f
   have:=g _ _ y h
   simpa using this
def aw6(next:Nat->Nat):∀(k x:Nat) (S:dS),(g_ next k x S).1.length<=zM S:=by
 intro k
 induction k with
 |zero=>intro x S;simp[g_]
 |succ k f=>
  intro x S;unfold g_;cases ae:S.getD x true with
  |true=>simp
  |false=>
   have M:S[x]?=some false:=by
    rw[dC]at ae;cases h:S[x]? with
    |none=>rw[h]at ae;cases ae
    |some b=>rw[h]at ae;exact congrArg some ae
   have g:=ND M;have:=f (next x) (S.set x true);simp only[eI,if_false,dW];omega
def anA(next:Nat->Nat){k:Nat}{S:dS}(h:S.getD x true=false):∃t,(g_ next (k+1) x S).1=x::t:=by unfold g_;rw[h];exact⟨_,rfl⟩
def aun(next:Nat->Nat)(N:Nat):∀k,∀w∈(fe next N k).1,(∃d t,w=d::t/\d<k)/\I w<=N/\ ∀y∈w,y<N:=by
 intro k
 induction k with
 |zero=>intro w h;simp[fe]at h
 |succ k u=>
  intro w h;rw[zO]at h;unfold wz at h;have f:=Hj next N k;have O:w∈(fe next N k).1->(∃d t,w=d::t/\d<k+1)/\I w<=N/\ ∀y∈w,y<N:=λh=>by obtain⟨⟨d,t,H,g⟩,n⟩:=u w h;exact⟨⟨d,t,H,J⟩,n⟩
  cases ae:(fe next N k).2.getD k true with
  |true=>simp only[ae,if_true]at h;exact O h
  |false=>
   simp only[ae,eI,if_false,iW,rb]at h;rcases h with h|rfl
   .exact O h
   obtain⟨t,m⟩:=anA next (k:=(fe next N k).2.length) ae;refine⟨⟨k,t,m,J⟩,?_,λy j=>?_⟩
   .have H:=aw6 next ((fe next N k).2.length+1) k (fe next N k).2;have g:=Mf (fe next N k).2;omega
   have:=ay3 next _ _ _ y j;omega
def yh(ok:gh F h):∀w∈fz (bz h) (bt h),(∃d t,w=d::t/\d<2*I h)/\I w<=bt h/\ ∀y∈w,y<bt h:=by intro w H;unfold fz at H;rw[Y8 (qS ok) (bt h) (by unfold bt;omega) (c3 _)]at H;exact aun (bz h) (bt h) _ w H
abbrev sq:Nat:=161
abbrev LH(o:List aF):q_:=o.map λw=>[tU w]
def awT{o:List aF}{k:Nat}{w:aF}(h:o[k]?=some w):(LH o)[k]?=some [tU w]:=by simp[h]
def kM:aF:=[6592000000,6592128064,6592192064,6592576512,6592896448,6593216192,6593280192,6593408192]
structure aaf (F:Nat) (ls:ai) (outs:q_) (gA rR gF:Nat) (f:dt) (cd cp cf vo:dI) (aj:aN):Prop where
 b0:aj 6592000000=(1,some (.var (qg F ls)))
 bA:aj 6592128064=(gA,some (.arr 3 1 (a_ (aE ls))))
 bW:aj 6592192064=(rR,some (.arr 109 1 (LH (fz (bz ls) (bt ls)))))
 bF:aj 6592576512=(gF,some (.var [.p (.bool f.eF),cd,cp,cf,.p (.bool f.outer)]))
 gd:cg 6592896448 3 1 (a_ f.bQ) (.one cd) aj
 gp:cg 6593216192 xn 2 (eO f.places) (.one cp) aj
 gf:cg 6593280192 3 1 (a_ f.rH) (.one cf) aj
 go:cg 6593408192 sq 5 outs (.one vo) aj
def ayP{F:Nat}{h:ai}(ok:gh F h)(hF:F<=1000){w:aF}(hw:∀x∈w,x<bt h)(Af:I w<=bt h){ac:q_}{gA rR gF i:Nat}{vo:dI}{m:ct}{aj:aN}
  (e1:m 1=.one (.bm 6592000000 1 0)) (e3:m 3=.one vo) (e4:m 4=.one (.hsl 6592128064 gA 1 0 (I (aE h)))) (e5:m 5=.one (.hsl 6592192064 rR 1 0 (I (fz (bz h) (bt h))))) (e6:m 6=aH (I h)) (e7:m 7=aH i) (e8:m 8=.one (.p (tU w))) (e9:m 9=.one (.bm 6592576512 gF 0)) (Jq:m 10=aH 0)
  (H:aaf F h ac gA rR gF (AG F h w 0) y A z vo aj)
  (hq:∀j aq AU qT zH,j 1=m 1->j 3=m 3->j 4=m 4->j 5=m 5->j 6=m 6->j 7=m 7->j 9=m 9->aaf F h ac gA rR gF (jg F h w) AU qT zH vo aq->Q .normal j aq):
  ch S .all (.loop NV) (oR 2 Q) m aj:=by
 have hl:=ok.hl;have jQ:I (aE h)<=1000000:=ny (sF h (I h)) hl;have iU:bt h<=4000000:=by unfold bt;omega
 have m2:=rB (a:=I h) J;refine dy (λk j aq=>j 1=.one (.bm 6592000000 1 0)/\j 3=.one vo/\j 4=.one (.hsl 6592128064 gA 1 0 (I (aE h)))/\j 5=.one (.hsl 6592192064 rR 1 0 (I (fz (bz h) (bt h))))/\j 6=aH (I h)/\j 7=aH i/\j 8=.one (.p (tU w))/\j 9=.one (.bm 6592576512 gF 0)/\j 10=aH k/\
   ∃y A z,aaf F h ac gA rR gF (AG F h w k) y A z vo aq) 0 (I w) (cG _) ⟨e1,e3,e4,e5,e6,e7,e8,e9,Jq,y,A,z,H⟩ ?_
 rintro k j aj hk ⟨L,D,B,N,O,M,T,R,X,y,A,z,H⟩
 by_cases aw:k<I w
 .have aM:((k:Int)<(I w:Int)):=J;obtain⟨x,hx⟩:=aT aw;have Br:=hw x (bR hx);have Ez:=jG hx;have w1:=cN (n:=k) J;obtain⟨l1,l2,l3⟩:=Xe ok hw k J;have ae:=ahY (F:=F) (h:=h) hx;have a0:k*(2*F+2)<=4000000*2002:=Uv J J;generalize AG F h w k=f at H ae l1 l2 l3;unfold dt.add at ae;by_cases hd:x<2*I h
  .rw[aD hd]at ae;have CH:((x:Int)<((2*I h:Nat):Int)):=J;simp only[go_sem,NV,L,D,B,N,O,M,T,R,X,H.bF,aw,aM,Ez,m2,CH];generalize hG:(aj 6592896384).1+1=g2;refine qe (y:=6592896448) (id:=6592896448) (B:=[[.int .i64 (x:Int)]]) (rd:=[6592896384]) (H.gd.of_eq (by simp[cD])) (by simp[js,cD]) (.inl rfl) (by simp only[cY,dW,fU];omega) λc bG r a2 hc hb hr=>?_;have ux:∀i∈kM,i≠6592896448->bG i=aj i:=λi v hn=>by
    rw[hb i hn hn,cD,aC (OD v U).symm.symm]
   have aG:=(ux 6592576512 (by simp[kM]) U).trans H.bF;simp only[go_sem,aG,L,D,B,N,O,M,T,R,X,w1,aw];refine⟨?_,c,A,z,?_⟩
   .rcases hr with⟨rfl,rfl⟩|⟨rfl,rfl⟩|⟨rfl,rfl⟩<;>kernel_rfl
   rw[ae];refine⟨?_,?_,?_,?_,?_,?_,?_,?_⟩
   .simp only[cD,Nat.reduceEqDiff,if_false];exact(ux _ (by simp[kM]) U).trans H.b0
   .simp only[cD,Nat.reduceEqDiff,if_false];exact(ux _ (by simp[kM]) U).trans H.bA
   .simp only[cD,Nat.reduceEqDiff,if_false];exact(ux _ (by simp[kM]) U).trans H.bW
   .simp only[cD,if_true]
   .rw[z_];exact hc.of_eq (by simp[cD])
   .exact(H.gp.of_eq (ux _ (by simp[kM]) U)).of_eq (by simp[cD])
   .exact(H.gf.of_eq (ux _ (by simp[kM]) U)).of_eq (by simp[cD])
   exact(H.go.of_eq (ux _ (by simp[kM]) U)).of_eq (by simp[cD])
  rw[aC hd]at ae;have hj:(x-2*I h)/2<I (aE h):=by unfold bt at Br;omega
  have pp:=apL ok hF hj;have lP:=Rz ok hj;have lF:=VX ok hj;have CH:¬((x:Int)<((2*I h:Nat):Int)):=J;have ws:=UR (a:=x) (b:=2*I h) J J;have wq:=wrap_small (n:=(x-2*I h)/2) J;have w2:=EF (a:=I (aE h)) J J;have t1:List.take (I (aE h)) (a_ (aE h))=a_ (aE h):=fx aP;have JD:((((x-2*I h)/2:Nat):Int)==((I (aE h)-1:Nat):Int))=decide ((x-2*I h)/2+1=I (aE h)):=by
   by_cases a1:(x-2*I h)/2+1=I (aE h)
   .rw[pA a1];simp;omega
   rw[nr a1];simp;omega
  have jk:S.lone 6593024192=false:=ah;have jE:S.lone 6593152064=false:=ah;have ap:S.lone 6593152192=false:=ah;have ad:∀l:rV,((eO l).all λe=>e.all PV.scalar):=λl=>by simp[PV.scalar]
  have ag:∀l:aF,((a_ l).all λe=>e.all PV.scalar):=λl=>by simp[PV.scalar]
  generalize pI F h ((x-2*I h)/2)=PP at*;generalize As F h ((x-2*I h)/2)=FF at*;simp only[go_sem,NV,L,D,B,N,O,M,T,R,X,H.bF,H.b0,H.bA,aw,aM,Ez,m2,CH,ws,wq,eH,fW,t1,apw];refine aAK pp jk (ad _) (ag _) λc e bG hc he hb=>?_;have am:∀i∈kM,bG i=aj i:=λi v=>hb i (OD v U) (OD v U);by_cases ez:x%2=0
  .have CZ:((x:Int).tmod 2 !=0)=false:=by rw[k_,ez];rfl
   simp only[aD ez]at ae;have hP:=hc;have hE:=he;have F7:=am;have lE:=lF;have ab:=(F7 _ (by simp[kM])).trans H.bF;simp only[go_sem,eH,CZ,Ez,aw,ab,L,D,B,N,O,M,T,R,X];obtain⟨rP,Kb,_⟩:=hP.elems;refine th (y:=6593216192) (id:=6593216192) (bytes:=16) (H.gp.of_eq (F7 _ (by simp[kM]))) Kb hP.ao (by simp only[cY,jl];omega) λc2 bh lz Y=>?_
   have Ce:=(Y 6592576512 U U).trans ab;simp only[go_sem,Ce,L,D,B,N,O,M,T,R,X];obtain⟨rE,Ka,_⟩:=(hE.of_eq (aq:=dx bh 6592576512 (gF,some (.var [.p (.bool f.eF),y,c2,z,.p (.bool f.outer)]))) ((bK U).trans (Y _ U U))).elems;refine th (y:=6593280192) (id:=6593280192) (bytes:=8) (H.gf.of_eq ((bK U).trans ((Y _ U U).trans (F7 _ (by simp[kM]))))) Ka hE.ao (by simp only[cY,jl];omega) λc9 mW zW Z=>?_
   have xA:=(Z 6592576512 U U).trans (vx (b:=bh) (a:=6592576512) (x:=(gF,some (.var [.p (.bool f.eF),y,c2,z,.p (.bool f.outer)]))));have E:∀i∈kM,i≠6592576512->i≠6593216192->i≠6593280192->mW i=aj i:=λi v n1 u n3=>(Z i n3 n3).trans ((bK n1).trans ((Y i u u).trans (F7 i v)));have g:∀aO y2:Nat×Option f_,∀i,i≠6592576512->dx (dx mW 6592576512 aO) 6592576512 y2 i=mW i:=λaO y2 i v=>(bK v).trans (bK v);cases ho:f.outer with
   |true=>
    rw[ho]at xA;simp only[go_sem,xA,L,D,B,N,O,M,T,R,X,w1,aw];refine⟨y,c2,c9,?_⟩;rw[ae];exact⟨(g _ _ _ U).trans ((E _ (by simp[kM]) U U U).trans H.b0),(g _ _ _ U).trans ((E _ (by simp[kM]) U U U).trans H.bA),(g _ _ _ U).trans ((E _ (by simp[kM]) U U U).trans H.bW),(by rw[vx];simp[ho]),
     H.gd.of_eq ((g _ _ _ U).trans (E _ (by simp[kM]) U U U)),(BB _ _▸lz).of_eq ((g _ _ _ U).trans ((Z _ U U).trans (bK U))),(z_ _ _▸zW).of_eq (g _ _ _ U),H.go.of_eq ((g _ _ _ U).trans (E _ (by simp[kM]) U U U))⟩
   |false=>
    rw[ho]at xA;simp only[go_sem,xA,L,D,B,N,O,M,T,R,X,w1,w2,aw,JD];refine⟨y,c2,c9,?_⟩;rw[ae];exact⟨(g _ _ _ U).trans ((E _ (by simp[kM]) U U U).trans H.b0),(g _ _ _ U).trans ((E _ (by simp[kM]) U U U).trans H.bA),(g _ _ _ U).trans ((E _ (by simp[kM]) U U U).trans H.bW),(by rw[vx];simp[ho]),
     H.gd.of_eq ((g _ _ _ U).trans (E _ (by simp[kM]) U U U)),(BB _ _▸lz).of_eq ((g _ _ _ U).trans ((Z _ U U).trans (bK U))),(z_ _ _▸zW).of_eq (g _ _ _ U),H.go.of_eq ((g _ _ _ U).trans (E _ (by simp[kM]) U U U))⟩
  have CZ:((x:Int).tmod 2 !=0):=by rw[k_,show x%2=1 by omega];rfl
  simp only[aC ez]at ae;obtain⟨r1,av,_⟩:=hc.fA;simp only[go_sem,eH,CZ,Ez,aw,av,L,D,B,N,O,M,T,R,X,avF];refine mX (aBg PP J) jE (.inr (fN (ad _))) λc1 bh lQ Y=>?_;have Bg:=he.of_eq (Y _ U);obtain⟨r2,az,_⟩:=Bg.fA;simp only[go_sem,az,L,D,B,N,O,M,T,R,X,aqO];refine mX (apv FF J) ap (.inr (fN (ag _))) λe1 mW ar Z=>?_;have F7:∀i∈kM,mW i=aj i:=λi v=>(Z i (OD v U)).trans ((Y i (OD v U)).trans (am i v));have hP:=lQ.of_eq (Z _ U);have hE:=ar;have lE:I FF.reverse<=2*F+2:=by rw[jl];exact lF
  have lP:I PP.reverse<=2*F+2:=by rw[jl];exact lP
  have ab:=(F7 _ (by simp[kM])).trans H.bF;simp only[go_sem,eH,CZ,Ez,aw,ab,L,D,B,N,O,M,T,R,X];obtain⟨rP,Kb,_⟩:=hP.elems;refine th (y:=6593216192) (id:=6593216192) (bytes:=16) (H.gp.of_eq (F7 _ (by simp[kM]))) Kb hP.ao (by simp only[cY,jl];omega) λc2 bh lz Y=>?_
  have Ce:=(Y 6592576512 U U).trans ab;simp only[go_sem,Ce,L,D,B,N,O,M,T,R,X];obtain⟨rE,Ka,_⟩:=(hE.of_eq (aq:=dx bh 6592576512 (gF,some (.var [.p (.bool f.eF),y,c2,z,.p (.bool f.outer)]))) ((bK U).trans (Y _ U U))).elems;refine th (y:=6593280192) (id:=6593280192) (bytes:=8) (H.gf.of_eq ((bK U).trans ((Y _ U U).trans (F7 _ (by simp[kM]))))) Ka hE.ao (by simp only[cY,jl];omega) λc9 mW zW Z=>?_
  have xA:=(Z 6592576512 U U).trans (vx (b:=bh) (a:=6592576512) (x:=(gF,some (.var [.p (.bool f.eF),y,c2,z,.p (.bool f.outer)]))));have E:∀i∈kM,i≠6592576512->i≠6593216192->i≠6593280192->mW i=aj i:=λi v n1 u n3=>(Z i n3 n3).trans ((bK n1).trans ((Y i u u).trans (F7 i v)));have g:∀aO y2:Nat×Option f_,∀i,i≠6592576512->dx (dx mW 6592576512 aO) 6592576512 y2 i=mW i:=λaO y2 i v=>(bK v).trans (bK v);cases ho:f.outer with
  |true=>
   rw[ho]at xA;simp only[go_sem,xA,L,D,B,N,O,M,T,R,X,w1,aw];refine⟨y,c2,c9,?_⟩;rw[ae];exact⟨(g _ _ _ U).trans ((E _ (by simp[kM]) U U U).trans H.b0),(g _ _ _ U).trans ((E _ (by simp[kM]) U U U).trans H.bA),(g _ _ _ U).trans ((E _ (by simp[kM]) U U U).trans H.bW),(by rw[vx];simp[ho]),
    H.gd.of_eq ((g _ _ _ U).trans (E _ (by simp[kM]) U U U)),(BB _ _▸lz).of_eq ((g _ _ _ U).trans ((Z _ U U).trans (bK U))),(z_ _ _▸zW).of_eq (g _ _ _ U),H.go.of_eq ((g _ _ _ U).trans (E _ (by simp[kM]) U U U))⟩
  |false=>
   rw[ho]at xA;simp only[go_sem,xA,L,D,B,N,O,M,T,R,X,w1,w2,aw,JD];refine⟨y,c2,c9,?_⟩;rw[ae];exact⟨(g _ _ _ U).trans ((E _ (by simp[kM]) U U U).trans H.b0),(g _ _ _ U).trans ((E _ (by simp[kM]) U U U).trans H.bA),(g _ _ _ U).trans ((E _ (by simp[kM]) U U U).trans H.bW),(by rw[vx];simp[ho]),
    H.gd.of_eq ((g _ _ _ U).trans (E _ (by simp[kM]) U U U)),(BB _ _▸lz).of_eq ((g _ _ _ U).trans ((Z _ U U).trans (bK U))),(z_ _ _▸zW).of_eq (g _ _ _ U),H.go.of_eq ((g _ _ _ U).trans (E _ (by simp[kM]) U U U))⟩
 have:k=I w:=J;subst this;rw[aab]at H;simp only[go_sem,NV,L,D,B,N,O,M,T,R,X,eR];exact hq _ _ y A z (by simp only[go_sem,L,e1]) (by simp only[go_sem,D,e3]) (by simp only[go_sem,B,e4]) (by simp only[go_sem,N,e5]) (by simp only[go_sem,O,e6]) (by simp only[go_sem,M,e7]) (by simp only[go_sem,R,e9]) H
def anN{a b:PV}{id Z o l:Nat}:F4 [[.p a,.hsl id g Z o l,A,z,.p b]]=none:=rfl
def aet{aj:aN}{s L j T Z f E M m F B:Nat}{a o:Bool}{D P G:q_}(H:aj s=(g,some (.lN L 5 [[.p (.bool a),y,A,z,.p (.bool o)]])))(gd:cg j T Z D (.one y) aj)(gp:cg f E M P (.one A) aj)(gf:cg m F B G (.one z) aj):
  ∃fr,js aj (.one (.hsl s g 5 0 1))=some ([[.bool a,.sl D,.sl P,.sl G,.bool o]],[s],fr)/\BD aj fr/\ ∀i∈fr,i=j\/i=f\/i=m:=by
 obtain⟨r1,Y,O,Q⟩:=gd.acD;obtain⟨N,u,X,q2⟩:=gp.acD;obtain⟨R,n,v,x⟩:=gf.acD;refine⟨r1++(N++R),?_,O.app (X.app v),λi h=>?_⟩
 .simp only[js,H];simp[iD,Y,u,n,amF,PV.norm]
 simp only[iW]at h;rcases h with h|h|h
 .rcases Q with rfl|rfl<;>simp at h;exact .inl h
 .rcases q2 with rfl|rfl<;>simp at h;exact .inr (.inl h)
 rcases x with rfl|rfl<;>simp at h;exact .inr (.inr h)
abbrev kz(l:D4):q_:=l.map dt.ps
def au0(F:Nat)(h:ai):∀(w:aF) (f:dt),f.bQ≠[]->(w.foldl (dt.add F h) f).bQ≠[]:=by
 intro w
 induction w with
 |nil=>intro f H;exact H
 |cons x w g=>
  intro f H;refine g _ ?_;unfold dt.add;split
  .simp
  exact H
def ag3{d:Nat}{t:aF}(H:d<2*I h):(jg F h (d::t)).bQ≠[]:=by unfold jg;refine au0 F h t _ ?_;unfold dt.add;rw[show(d::t).headD 0=d from rfl,aD H];simp
def avo(ok:gh F h)(hF:F<=1000)(aO:aE h≠[]):aK S 103 [c_ F h] (.one (cF sq 5 (kz (dG F h)))):=by
 have hl:=ok.hl;have jQ:I (aE h)<=1000000:=ny (sF h (I h)) hl;have iU:bt h<=4000000:=by unfold bt;omega
 have am:=yh ok;have pa:=aea F h hl;have pw:=aeY F h hl aO ok.hp;unfold Of at pa;rw[aC aO]at pa;have Af:I (fz (bz h) (bt h))<=bt h:=Kx (bz h) (bt h) _;have ag:∀aj:aN,fg aj [] 6592128064 ((RV.one (.own 3 1 (a_ (aE h)))).fR (S.lone 6592128064))=some (.one (.hsl 6592128064 ((aj 6592128064).1+1) 1 0 (I (aE h))),[(6592128064,((aj 6592128064).1+1,some (.arr 3 1 (a_ (aE h)))))]):=by intro aj;rw[show S.lone 6592128064=false by kernel_rfl,show(aE h).length=I (a_ (aE h)) by simp];rfl
 have av:∀aj:aN,fg aj [] 6592192064 ((RV.one (.own 109 1 (LH (fz (bz h) (bt h))))).fR (S.lone 6592192064))=some (.one (.hsl 6592192064 ((aj 6592192064).1+1) 1 0 (I (fz (bz h) (bt h)))),[(6592192064,((aj 6592192064).1+1,some (.arr 109 1 (LH (fz (bz h) (bt h))))))]):=by intro aj;rw[show S.lone 6592192064=false by kernel_rfl,show(fz (bz h) (bt h)).length=I (LH (fz (bz h) (bt h))) by simp];rfl
 refine bj aAV ?_;simp only[go_sem,am3,ak4,aaE,aU pa (ag _),aU pw (av _)];refine dy (λk m aj=>m 1=.one (.bm 6592000000 1 0)/\m 4=.one (.hsl 6592128064 1 1 0 (I (aE h)))/\m 5=.one (.hsl 6592192064 1 1 0 (I (fz (bz h) (bt h))))/\m 6=aH (I h)/\m 7=aH k/\
   aj 6592000000=(1,some (.var (qg F h)))/\aj 6592128064=(1,some (.arr 3 1 (a_ (aE h))))/\aj 6592192064=(1,some (.arr 109 1 (LH (fz (bz h) (bt h)))))/\
   ∃v,m 3=.one v/\cg 6593408192 sq 5 (kz (((fz (bz h) (bt h)).take k).map (jg F h))) (.one v) aj) 0 (I (fz (bz h) (bt h))) (cG _) ?_ ?_
 .simp only[go_sem];first|exact⟨rfl,_,rfl,.inl ⟨rfl,rfl⟩⟩|exact⟨rfl,rfl,_,rfl,.inl ⟨rfl,rfl⟩⟩|exact⟨rfl,rfl,rfl,_,rfl,.inl ⟨rfl,rfl⟩⟩|exact⟨rfl,rfl,rfl,rfl,_,rfl,.inl ⟨rfl,rfl⟩⟩
 rintro k m aj hk ⟨u,g,B,D,x,b0,bA,bW,v,j,go⟩
 by_cases aw:k<I (fz (bz h) (bt h))
 .have aM:((k:Int)<(I (fz (bz h) (bt h)):Int)):=J;obtain⟨w,hw⟩:=aT aw;obtain⟨⟨d,t,H,hd⟩,ab,Qj⟩:=am w (bR hw);have vV:=awT hw;have w1:=cN (n:=k) J;have gO:(a_ w)[0]?=some [.int .i64 (d:Int)]:=by rw[H];rfl
  have ad:0<I w:=by rw[H];simp
  have M:(0:Int)<(I w:Int):=J;have wq:=wrap_small (n:=d/2) J;have pb:=amD F h (d/2) hl J;have PI:w.headD 0=d:=by rw[H];rfl
  have L:kz (((fz (bz h) (bt h)).take (k+1)).map (jg F h))=kz (((fz (bz h) (bt h)).take k).map (jg F h))++[(jg F h w).ps]:=by rw[jT,hw];simp
  have tK:I (kz (((fz (bz h) (bt h)).take k).map (jg F h)))<=k:=by simp;omega
  generalize kz (((fz (bz h) (bt h)).take k).map (jg F h))=O at go L tK;simp only[go_sem,Wc,u,j,g,B,D,x,b0,bA,bW,aw,aM,vV,gO,ad,M,eH,fW,wq,amg,dq pb];refine⟨aA,?_⟩;refine ayP ok hF Qj ab (gA:=1) (rR:=1) (gF:=(aj 6592576512).1+1) (i:=k) (y:=.p .nils) (A:=.p .nils) (z:=.p .nils) (vo:=v) (ac:=O) ?_ ?_ ?_ ?_ ?_ ?_ ?_ ?_ ?_ ⟨?_,?_,?_,?_,cg.nil,cg.nil,cg.nil,?_⟩ ?_
  .simp only[go_sem,u]
  .simp only[go_sem,j]
  .simp only[go_sem,g]
  .simp only[go_sem,B]
  .simp only[go_sem,D]
  .simp only[go_sem,x]
  .simp only[go_sem]
  .simp only[go_sem]
  .simp only[go_sem]
  .simp only[go_sem,b0]
  .simp only[go_sem,bA]
  .simp only[go_sem,bW]
  .simp only[go_sem,AG,dt.new,PI];simp
  .exact go.of_eq (by simp only[go_sem])
  intro aL R AU qT zH q1 Y q4 Z q6 q7 Q hB;simp only[go_sem,u,j,g,B,D,x]at q1 Y q4 Z q6 q7 Q;have E:=ag3 (F:=F) (t:=t) hd;rw[<-H]at E;generalize jg F h w=f at hB L E;obtain⟨B0,BA,BW,gq,gd,gp,gf,ac⟩:=hB;rcases gd with⟨e,_⟩|⟨_,gg,e,iG⟩
  .simp at e;exact absurd e E
  cases e;simp only[go_sem,agT,aa7,q1,Y,q4,Z,q6,q7,Q,gq,anN];have gd:cg 6592896448 3 1 (a_ f.bQ) (.one (.hsl 6592896448 gg 1 0 (I (a_ f.bQ)))) R:=.inr ⟨by simpa using E,gg,rfl,iG⟩;rw[cY]at gd;obtain⟨fr,hx,Em,yK⟩:=aet (aj:=dx R 6593408128 ((R 6593408128).1+1,some (.lN sq 5 [[.p (.bool f.eF),.hsl 6592896448 gg 1 0 (I f.bQ),qT,zH,.p (.bool f.outer)]]))) (s:=6593408128) vx (gd.of_eq (bK U)) (gp.of_eq (bK U)) (gf.of_eq (bK U));have N:∀i,i≠6592896448->i≠6593216192->i≠6593280192->i∉fr:=λi a b c ar=>by
   rcases yK i ar with ar|ar|ar
   .exact a ar
   .exact b ar
   exact c ar
  refine afg (y:=6593408192) (id:=6593408192) (bytes:=88) (ac.of_eq (bK U)) hx Em (N _ U U U) (N _ U U U) (.inl rfl) (by simp only[dW,fU];omega) λc bh hc aW=>?_;have T:=(aW 6592000000 U U (N _ U U U)).trans ((bK U).trans B0);have ap:=(aW 6592128064 U U (N _ U U U)).trans ((bK U).trans BA);have X:=(aW 6592192064 U U (N _ U U U)).trans ((bK U).trans BW);simp only[go_sem,aa7,q1,Y,q4,Z,q6,q7,Q,T,ap,X,w1,aw];refine⟨c,rfl,?_⟩;rw[L];exact hc
 have:k=I (fz (bz h) (bt h)):=J;subst this;rw[lA]at go;simp only[go_sem,Wc,aj6,u,j,g,B,D,x,b0,bA,bW,eR];exact wX go
def vM(h:ai)(k:Nat):dS:=(List.range (I h)).map λi=>decide (i<k)&& !bN h (i+1)
def ajP(h:ai)(k:Nat):I (vM h k)=I h:=by simp[vM]
def aA8(h:ai):vM h 0=List.replicate (I h) false:=by
 refine yV λi=>?_;simp only[vM,ig,List.getElem?_replicate];by_cases H:i<I h
 .simp[qI H,H]
 rw[pF (by simpa using H),aC H];rfl
def aqj(h:ai)(k:Nat):vM h (k+1)=(vM h k).set k (!bN h (k+1)):=by
 refine yV λi=>?_;rw[mT,ajP];simp only[vM,ig];by_cases H:i<I h
 .rw[qI H];by_cases e:k=i
  .subst e;simp[H]
  simp only[rm,e,if_false];congr 2;exact decide_eq_decide.2 J
 rw[pF (by simpa using H)];by_cases e:k=i
 .subst e;rw[aD rfl,aC H];rfl
 rw[aC e];rfl
abbrev DI(ls:ai):dS:=vM ls (I ls)
def aAB{i:Nat}(H:i<I h):(DI h)[i]?=some (!bN h (i+1)):=by simp[vM,H]
def aoT(ok:gh F h):aK S 143 [.one (.p (mD F h))] (.one (.own 4 1 (dB (DI h)))):=by
 have hl:=ok.hl;have Q:I h<=140737488355328:=J;have Y:List.replicate (I h) [PV.bool false]=dB (vM h 0):=by rw[aA8];simp
 refine bj amd ?_;simp only[go_sem,Xr,Q,Y,af,ao];refine dy (λk m aj=>m 0=.one (.p (mD F h))/\m 3=.one (.hsl 9152064384 1 1 0 (I h))/\aj 9152064384=(1,some (.arr 4 1 (dB (vM h k))))/\
   m 4=gE (!bN h k)/\m 18=.one (.p (eg h))/\m 19=aH (I h)/\m 20=aH k) 0 (I h) (cG _) ?_ ?_
 .simp only[go_sem];first|exact⟨rfl,rfl⟩|exact⟨rfl,rfl,rfl⟩|exact⟨rfl,rfl,rfl,rfl⟩|exact rfl
 rintro k m aj T ⟨v,x,u,D,z,B,L⟩
 by_cases A:k<I h
 .obtain⟨l,j⟩:=aT A;have M:=gb j;have N:((k:Int)<(I h:Int)):=J;have E:=cN (n:=k) J;have g:k<I (vM h k):=by rw[ajP];exact A
  obtain⟨b0,R⟩:=aT g;have O:=qO R;have f:=Jo (vM h k) k (!bN h (k+1));rw[<-aqj]at f;cases hp:(l.kind==1)with
  |true=>have H:=FK j hp;have y:=qO (Sz j hp);rw[H]at f;rw[MK]at f;simp only[go_sem,QK,v,x,u,D,z,B,L,M,dD,aa.ps,A,N,E,hp,y,O,f,H,af,ao]
  |false=>have H:=Ks j hp;rw[H]at f;simp only[go_sem,QK,v,x,u,D,z,B,L,M,dD,aa.ps,A,N,E,hp,O,f,H,af,ao]
 have:k=I h:=J;subst this;simp only[go_sem,QK,Wg,v,x,u,D,z,B,L,eR,af,ao];exact Hz u (by simp[vM])
abbrev GX(id:Nat):Prop:=kW id=197
def an7{r k:Nat}(h:k<=T-g):(o9 g r T)[k]?=some (g+k,if k=0 then r else 0):=by
 cases k with
 |zero=>rfl
 |succ k=>unfold o9;rw[List.getElem?_cons_succ,ig,qI J];simp;omega
def aCI{k:Nat}(h:k<T-g):(sU g T)[k]?=some (g+1+k):=by unfold sU;rw[ig,qI h];rfl
def MF(g r T:Nat)(ps fs:q_)(i1 i2:Nat)(aj:aN)(v:V)(A:aN):Prop:=
 ∃h f j,v=.tup [.one h,.one f]/\cg 12608320192 xn 2 (ps++eO (o9 g r T)) (.one h) A/\cg j 3 1 (fs++a_ (sU g T)) (.one f) A/\(j=i2\/j=12608256256)/\
  dE (λid=>GX id\/id=i1\/id=i2) aj A
def R2:aF:=[12608000000,12608000064,12608128128,12608256192,12608256256,12608320128]
def VL:aF:=[12608000000,12608000064,12608128128,12608128192,12608256192,12608320128,12608320192]
def Qw{al:cT}{aj:aN}{r t i1 i2:Nat}{ps fs:q_}{c1 c2:dI}(O:∀id,GX id->al.ok id)(o1:al.ok i1)(o2:al.ok i2)(hT:g<=T)(ht:t=if T=g then r else 0)(hb:T<=1000)(dX:I ps<=1000000)(sY:I fs<=1000000)
  (MU:i1≠i2) (N:i1∉R2) (B:i2∉VL) (R:cg i1 xn 2 ps (.one c1) aj) (h2:cg i2 3 1 fs (.one c2) aj):
  ∃v A,lK S 197 [.agg [.p (.int .i64 g),.p (.int .i64 r)],.agg [.p (.int .i64 T),.p (.int .i64 t)],.one c1,.one c2] al aj v A/\MF g r T ps fs i1 i2 aj v A:=by
 have k0:al.ok 12608000000:=O _ rfl;have y:al.ok 12608000064:=O _ rfl;have Z:al.ok 12608128128:=O _ rfl;have av:al.ok 12608128192:=O _ rfl;have Qr:al.ok 12608256192:=O _ rfl;have ad:al.ok 12608256256:=O _ rfl;have D:al.ok 12608320128:=O _ rfl;have aL:al.ok 12608320192:=O _ rfl;refine qK awa (jc rfl) ?_;simp only[go_sem,anD,k0,y];have a0:=xB g r T;have aO:=PG g T;refine dy (λk m A=>m 4=.one (.bm 12608000000 ((aj 12608000000).1+1) 0)/\m 5=.one (.bm 12608000064 ((aj 12608000064).1+1) 0)/\
   A 12608000000=((aj 12608000000).1+1,some (.var [.p (.int .i64 ((g+k:Nat):Int)),.p (.int .i64 ((if k=0 then r else 0:Nat):Int))]))/\A 12608000064=((aj 12608000064).1+1,some (.var [.p (.int .i64 T),.p (.int .i64 t)]))/\
   ∃d1 d2 j f,m 2=.one d1/\m 3=.one d2/\(j=i1\/j=12608128192)/\(f=i2\/f=12608256256)/\cg j xn 2 (ps++eO ((o9 g r T).take k)) (.one d1) A/\cg f 3 1 (fs++a_ ((sU g T).take k)) (.one d2) A/\dE (λid=>GX id\/id=i1\/id=i2) aj A) 0 (T-g) (cG _) ?_ ?_
 .simp only[go_sem];refine⟨rfl,c1,c2,i1,i2,rfl,rfl,.inl rfl,.inl rfl,?_,?_,?_⟩
  .exact(R.of_eq (bK (Ub N (by simp[R2])))).of_eq (bK (Ub N (by simp[R2])))
  .exact(h2.of_eq (bK (Ub B (by simp[VL])))).of_eq (bK (Ub B (by simp[VL])))
  exact((dE.refl _ _).dx (.inl rfl) _).dx (.inl rfl) _
 rintro k m A hk ⟨h4,h5,hA,hB,d1,d2,j,f,E,X,q1,Q,g1,g2,dz⟩
 have ab:al.ok j:=by rcases q1 with rfl|rfl<;>assumption
 have az:al.ok f:=by rcases Q with rfl|rfl<;>assumption
 have Y:∀a,a∈R2->j≠a:=λa F e=>by
  rcases q1 with rfl|rfl
  .exact N (e▸F)
  exact absurd (e▸F) U
 have u:∀a,a∈VL->f≠a:=λa F e=>by
  rcases Q with rfl|rfl
  .exact B (e▸F)
  exact absurd (e▸F) U
 have n3:j≠f:=λe=>by
  rcases q1 with rfl|rfl
  .rcases Q with rfl|rfl
   .exact MU e
   exact Y _ U e
  exact u _ U e.symm
 have M:GX j\/j=i1\/j=i2:=by
  rcases q1 with rfl|rfl
  .exact .inr (.inl rfl)
  exact .inl rfl
 have ag:GX f\/f=i1\/f=i2:=by
  rcases Q with rfl|rfl
  .exact .inr (.inr rfl)
  exact .inl rfl
 have L:I ((o9 g r T).take k)=k:=by rw[gX];omega
 have ac:I ((sU g T).take k)=k:=by rw[gX];omega
 by_cases aw:k<T-g
 .have aM:(((g+k:Nat):Int)<(T:Int)):=J;have w1:IntKind.i64.wrap (((g+k:Nat):Int)+1)=((g+(k+1):Nat):Int):=cN (n:=g+k) J;have hp:eO ((o9 g r T).take (k+1))=eO ((o9 g r T).take k)++[[.int .i64 ((g+k:Nat):Int),.int .i64 ((if k=0 then r else 0:Nat):Int)]]:=by
   rw[jT,an7 J,BB];rfl
  have hf:a_ ((sU g T).take (k+1))=a_ ((sU g T).take k)++[[.int .i64 ((g+(k+1):Nat):Int)]]:=by rw[jT,aCI aw,z_,show g+1+k=g+(k+1) by omega];rfl
  simp only[go_sem,ady,h4,h5,hA,hB,E,X,aw,aM,k0,y,Z];refine Vc (id:=j) (y:=12608128192) (bytes:=16) (B:=[[.int .i64 ((g+k:Nat):Int),.int .i64 ((if k=0 then r else 0:Nat):Int)]]) (rd:=[12608128128]) (by simp[av,ab,Z]) (g1.of_eq (bK (Y _ U))) (by simp[js,cD]) (.inl rfl) (by simp only[gT,cY,L,dW,fU];omega) λc bh hc z=>?_;have ap:=(z 12608000000 U (Y _ U).symm).trans ((bK U).trans hA);have qx:=(z 12608000064 U (Y _ U).symm).trans ((bK U).trans hB);simp only[go_sem,h4,h5,ap,qx,E,X,w1,k0,y,Qr]
  refine Vc (id:=f) (y:=12608256256) (bytes:=8) (B:=[[.int .i64 ((g+(k+1):Nat):Int)]]) (rd:=[12608256192]) (by simp[ad,az,Qr]) (g2.of_eq ((bK (u _ U)).trans ((bK (u _ U)).trans ((z _ (u _ U) n3.symm).trans (bK (u _ U)))))) (by simp[js,cD]) (.inl rfl) (by simp only[gT,cY,ac,dW,fU];omega) λc' mW nJ iL=>?_;have am:=(iL 12608000000 U (u _ U).symm).trans ((bK U).trans vx);have ar:=(iL 12608000064 U (u _ U).symm).trans ((bK U).trans ((bK U).trans qx));simp only[go_sem,h4,h5,am,ar,E,X,aw];refine⟨rfl,c,c',12608128192,12608256256,rfl,rfl,.inr rfl,.inr rfl,?_,?_,λid H=>?_⟩
  .rw[hp,<-sn];exact hc.of_eq ((iL _ U (u _ U).symm).trans ((bK U).trans (bK U)))
  .rw[hf,<-sn];exact nJ
  have a:∀x,GX x->id≠x:=λx hx e=>H (.inl (e▸hx));have b1:id≠j:=λe=>H (e▸M);have b2:id≠f:=λe=>H (e▸ag);exact(iL id (a _ rfl) b2).trans ((bK (a _ rfl)).trans ((bK (a _ rfl)).trans ((z id (a _ rfl) b1).trans ((bK (a _ rfl)).trans (dz id H)))))
 have:k=T-g:=J;subst this;have aM:¬(((g+(T-g):Nat):Int)<(T:Int)):=J;simp only[go_sem,ady,anf,h4,h5,hA,hB,E,X,aM,k0,y,D];have aG:eO (o9 g r T)=eO ((o9 g r T).take (T-g))++[[.int .i64 (T:Int),.int .i64 (t:Int)]]:=by
  have R:=jT (l:=o9 g r T) (i:=T-g);rw[an7 (c3 _),fx (show(o9 g r T).length<=T-g+1 by omega)]at R;have e1:g+(T-g)=T:=J;have E:(if T-g=0 then r else 0)=t:=by
   rw[ht];by_cases h:T=g
   .rw[aD h,aD J]
   rw[aC h,aC J]
  rw[e1,E]at R;exact(congrArg (λl:rV=>eO l) R).trans (BB _ _)
 have ef:(sU g T).take (T-g)=sU g T:=fx J;refine Vc (id:=j) (y:=12608320192) (bytes:=16) (B:=[[.int .i64 (T:Int),.int .i64 (t:Int)]]) (rd:=[12608320128]) (by simp[aL,ab,D]) (g1.of_eq (bK (Y _ U))) (by simp[js,cD]) (.inl rfl) (by simp only[gT,cY,L,dW,fU];omega) λc bh hc z=>?_;simp only[go_sem,X];refine⟨c,d2,f,rfl,?_,?_,Q,λid H=>?_⟩
 .rw[aG,<-sn];exact hc
 .rw[ef]at g2;exact g2.of_eq ((z _ (u _ U) n3.symm).trans (bK (u _ U)))
 have a:∀x,GX x->id≠x:=λx hx e=>H (.inl (e▸hx));have b1:id≠j:=λe=>H (e▸M);exact(z id (a _ rfl) b1).trans ((bK (a _ rfl)).trans (dz id H))
def ama(ok:gh F h)(n:j<I (aE h)):∃u l,(aE h)[j]?=some u/\(aE h).getD j 0=u/\h[u]?=some l/\l.aI/\tq F h l/\fD h l=j:=by obtain⟨u,l,H,v,g,x,y⟩:=QP ok n;obtain⟨L,f,z,m⟩:=yz ok.ax H;rw[g]at f;cases f;exact⟨u,l,H,v,g,x,y,m⟩
def aug{f pr Q x:Nat}{p q:aa}(gp:tq F h p)(B:tq F h q)(hp:fD h p=j)(g:fD h q=j+1)(y:p.gate=(f:Int))(H:p.ay=(pr:Int))(v:q.gate=(Q:Int))(m:q.ay=(x:Int)):
  f<=Q/\x-1=if Q=f then pr else 0:=by
 obtain⟨_,_,A,u⟩:=gp;obtain⟨_,_,D,z⟩:=B;unfold fD at hp g;rw[y,H]at hp;rw[v,m]at g;rw[H]at A;rw[y,H]at u;rw[m]at D;rw[v,m]at z;simp only[nP]at hp g u z;have L:=tX h f;have M:=tX h Q;have n:f<=Q:=by
  rcases I9 Q f with E|E
  .have:=Bz (L:=h) (show Q+1<=f by omega);omega
  exact E
 refine⟨n,?_⟩;by_cases e:Q=f
 .subst e;rw[aD rfl];omega
 rw[aC e];have:=Bz (L:=h) (show f+1<=Q by omega);omega
def auD{g Q:Nat}{q:aa}(j:tq F h q)(H:fD h q=0)(n:q.gate=(g:Int))(f:q.ay=(Q:Int)):Q-1=0:=by obtain⟨_,_,m,u⟩:=j;unfold fD at H;rw[n,f]at H;rw[f]at m;simp only[nP]at H;omega
def aBy:S.sites 197=[197]:=ah
def vI{v:dT}{aj:aN}:∀id,GX id->(iB (S.ctx .all) 197 v aj).ok id:=λid h=>yu (by rw[aBy,h];simp)
def aqa(ok:gh F h)(hF:F<=1000)(hj:j<I (aE h)):
  aK S 169 [.one (.p (mD F h)),aH j] (.tup [.one (cF xn 2 (eO (pI F h j))),.one (cF 3 1 (a_ (As F h j)))]):=by
 have hl:=ok.hl;have jQ:I (aE h)<=1000000:=ny (sF h (I h)) hl;have hm:=fk (j+1) (show 0<I (aE h) by omega);obtain⟨am,p,hu,du,hp,pp,gp,xp⟩:=ama ok hj;obtain⟨v,q,hv,dv,hq,pq,N,xq⟩:=ama ok hm;unfold pI As;simp only[du,dv,y_ hp,y_ hq,acv hp];have eV:=gb hp;have Bl:=gb hq;have CX:=jG hu;have tL:=jG hv;have e1:=tB (j+1) (I (aE h));have w1:=cN (n:=j) J;have w2:=EF (a:=I (aE h)) J J;have oY:¬((I (aE h):Int)=0):=J
 have HS:=gp.g0;have CL:=gp.g1;have xM:=N.g0;have cK:=N.g1;have Ie:=gp.r0;have fE:=gp.r1;have sC:=N.r0;have lS:=N.r1;have JB:bU h p.gate.toNat<=I h:=o7 _ _;have R:bU h q.gate.toNat<=I h:=o7 _ _;obtain⟨f,O⟩:=o_ (show 0<=p.gate by omega);obtain⟨pr,L⟩:=o_ (show 0<=p.ay by omega);obtain⟨Q,B⟩:=o_ (show 0<=q.gate by omega);obtain⟨qr,A⟩:=o_ (show 0<=q.ay by omega);have wr:=EF (a:=qr) (by rw[A]at sC;omega) J;have Y:S.shared 197:=ah;have Ia:=λH=>aug gp N xp (H:fD h q=j+1) O L B A;have ag:=λH=>auD N (H:fD h q=0) B A
 rw[O]at CL fE JB HS;rw[L]at fE Ie;rw[B]at xM cK lS R;rw[A]at sC lS;rw[O,L,B];simp only[nP]at fE JB lS R |-;refine bj aBC ?_;by_cases aw:j+1<I (aE h)
 .have aM:(j:Int)<((I (aE h)-1:Nat):Int):=J;rw[jh aw]at xq;obtain⟨n1,u⟩:=Ia xq;simp only[aD aw];simp only[go_sem,SI,CX,tL,eV,Bl,dD,aa.ps,w1,e1,w2,wr,aM,oY,O,L,B,A,Y];refine⟨aA,?_⟩;refine sG (P:=MF f pr Q [] [] 12608128192 12608256256 _) t_ (Qw (g:=f) (r:=pr) (T:=Q) (t:=qr-1) (c1:=.p .nils) (c2:=.p .nils) vI (vI _ rfl) (vI _ rfl) n1 u J (cG _) (cG _) U U U cg.nil cg.nil) ?_;rintro v aq ⟨z,y,Z,rfl,g1,E,x,dz⟩
  have x:Z=12608256256:=by rcases x with H|H<;>exact H
  subst x;simp only[go_sem];exact Nn U g1 E
 have aM:¬(j:Int)<((I (aE h)-1:Nat):Int):=J;have JI:(j+1)%I (aE h)=0:=by rw[show j+1=I (aE h) by omega,zu]
 rw[JI]at xq;have u:=ag xq;simp only[aC aw];have ad:∃t:Nat,t=(if F=f then pr else 0):=⟨_,rfl⟩;obtain⟨t,M⟩:=ad;have fin:∀(m:ct) (aj:aN) (z y:dI),True:=λ_ _ _ _=>trivial;have ab:(((f:Int)==(F:Int))/\t=pr/\F=f)\/(((f:Int)==(F:Int))=false/\t=0):=by
  by_cases H:F=f
  .subst H;rw[aD rfl]at M;exact .inl ⟨aP,M,rfl⟩
  rw[aC H]at M;exact .inr ⟨by simp;omega,M⟩
 rcases ab with⟨hb,Mu,ac⟩|⟨hb,Mu⟩
 .subst ac;simp only[go_sem,SI,CX,tL,eV,Bl,dD,aa.ps,w1,e1,w2,wr,aM,oY,O,L,B,A,Y,hb];refine⟨aA,?_⟩;refine⟨aA,?_⟩;refine sG (P:=MF F pr F [] [] 12608128192 12608256256 _) t_ (Qw (g:=F) (r:=pr) (T:=F) (t:=pr) (c1:=.p .nils) (c2:=.p .nils) vI (vI _ rfl) (vI _ rfl) J (by rw[aD rfl]) J (cG _) (cG _) U U U cg.nil cg.nil) ?_;rintro v bG ⟨z,y,Z,rfl,g1,E,x,dz⟩
  have x:Z=12608256256:=by rcases x with H|H<;>exact H
  subst x;rw[iZ]at g1 E;have X:=dz 10816256384 U;simp only[go_sem]at X;simp only[go_sem,X,Y];refine sG (P:=MF 0 0 Q (eO (o9 F pr F)) (a_ (sU F F)) 12608320192 12608256256 _) t_ (Qw (g:=0) (r:=0) (T:=Q) (t:=qr-1) (c1:=z) (c2:=y) vI (vI _ rfl) (vI _ rfl) (cG _) (by rw[u];split<;>rfl) J (by simp only[cY,xB];omega) (by simp only[cY,PG];omega) U U U g1 E) ?_;rintro v bh ⟨d1,d2,j3,rfl,k1,k2,D,_⟩
  have D:j3=12608256256:=by rcases D with H|H<;>exact H
  subst D;simp only[go_sem];rw[BB,z_];exact Nn U k1 k2
 simp only[go_sem,SI,CX,tL,eV,Bl,dD,aa.ps,w1,e1,w2,wr,aM,oY,O,L,B,A,Y,hb];refine⟨aA,?_⟩;refine⟨aA,?_⟩;refine sG (P:=MF f pr F [] [] 12608128192 12608256256 _) t_ (Qw (g:=f) (r:=pr) (T:=F) (t:=0) (c1:=.p .nils) (c2:=.p .nils) vI (vI _ rfl) (vI _ rfl) J (by rw[Mu]at M;exact M) J (cG _) (cG _) U U U cg.nil cg.nil) ?_;rintro v bG ⟨z,y,Z,rfl,g1,E,x,dz⟩
 have x:Z=12608256256:=by rcases x with H|H<;>exact H
 subst x;rw[iZ]at g1 E;have X:=dz 10816256384 U;simp only[go_sem]at X;simp only[go_sem,X,Y];refine sG (P:=MF 0 0 Q (eO (o9 f pr F)) (a_ (sU f F)) 12608320192 12608256256 _) t_ (Qw (g:=0) (r:=0) (T:=Q) (t:=qr-1) (c1:=z) (c2:=y) vI (vI _ rfl) (vI _ rfl) (cG _) (by rw[u];split<;>rfl) J (by simp only[cY,xB];omega) (by simp only[cY,PG];omega) U U U g1 E) ?_;rintro v bh ⟨d1,d2,j3,rfl,k1,k2,D,_⟩
 have D:j3=12608256256:=by rcases D with H|H<;>exact H
 subst D;simp only[go_sem];rw[BB,z_];exact Nn U k1 k2
end
end Go.Abs
