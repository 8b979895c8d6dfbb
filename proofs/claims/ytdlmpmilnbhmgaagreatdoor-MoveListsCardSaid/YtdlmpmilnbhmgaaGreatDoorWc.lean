/- A part. -/
import Derived.Test.YtdlmpmilnbhmgaaGreatDoorWb
set_option linter.all false
open List renaming length->I
set_option maxRecDepth 100000
set_option maxHeartbeats 16000000
namespace Go.Abs
variable{n f N j:Nat}
section
variable{h:aI}{F m v x:Nat}
abbrev pV(F:Nat)(ls:aI):PV:=G4 F ls (.sl (gE (mN ls))) (.sl (aS (aH ls))) (.sl (aS (iQ ls (I ls)))) (.mp true (mR ls (I ls))) (.sl (aS (eF ls F)))
structure gC (F:Nat) (ls:aI):Prop where
 hl:I ls<=1000000
 ax:xL F ls
 cr:lA ls
 kinds:∀l∈ls,l.aN\/l.aJ
def oe{a:Nat}(h:a<=9223372036854775807):IntKind.i64.wrap ((a:Int)-1)=(a:Int)-1:=by
 cases a with
 |zero=>decide
 |succ a=>rw[wO J h];omega
def WT{a:Nat}(H:1<=n)(h:a+n<=9223372036854775807):IntKind.i64.wrap (((a:Int)-1)+(n:Int))=((a+n-1:Nat):Int):=by have e:((a:Int)-1)+(n:Int)=((a+n-1:Nat):Int):=J;rw[e];exact wrap_small J
def U0(F:Nat)(h:aI)(i:Nat)(hl:I h<=1000000)(H:i<I h):aC S 144 [.one (.p (pV F h)),aq i] (fy (jX (I h) i true)):=by refine bG alX ?_;have e:=lR (a:=i) J;simp only[go_sem,adQ,e,jX,ae,ao]
def SP(F:Nat)(h:aI)(i:Nat)(hl:I h<=1000000)(r:i<I h):aC S 143 [.one (.p (pV F h)),aq i] (fy (jX (I h) i false)):=by refine bG apP ?_;have f:=oe (a:=i) J;have m:=WT (a:=i) (n:=I h) J J;have g:=n_ (i+I h-1) (I h);have q:=fO (i+I h-1) (show 0<I h by omega);have j:=lR (a:=(i+I h-1)%I h) J;have E:=bJ (n:=2*((i+I h-1)%I h)) J;have H:¬((I h:Int)=0):=J;simp only[go_sem,Xv,f,m,g,j,E,H,jX,ae,ao]
def MO{l:af}(H:h[v]?=some l)(hp:l.aN):(mN h)[v]?=some (dP h v):=by have:=(ct.1 H).1;simp[mN,nH this,rB,H,hp]
def ajl{l:af}(H:h[v]?=some l)(hp:l.aN):(iQ h (I h))[v]?=some (ei h l):=by have:=(ct.1 H).1;simp[iQ,nH this,this,Cc H hp]
def gC.Mb(ok:gC F h){l:af}(g:h[v]?=some l)(f:(l.kind==2)=false):l.aN:=by
 rcases ok.kinds l (bY g)with hp|H
 .exact hp
 unfold af.aJ at H;rw[f]at H;cases H
def aba(ok:gC F h)(d:Nat)(hd:d<2*I h+2*I (aH h)):aC S 95 [.one (.p (pV F h)),aq d] (fy (fz h (aH h) d)):=by
 have hl:=ok.hl;have fQ:I (aH h)<=1000000:=jO (mv h (I h)) hl;have iD:∀x∈aH h,x<I h/\ ∃l,h[x]?=some l/\l.aN:=λx hx=>by obtain⟨l,h1,h2⟩:=tm.1 hx;exact⟨(ct.1 h1).1,l,h1,h2⟩
 have y:IntKind.i64.wrap (2*(I h:Int))=((2*I h:Nat):Int):=lR J;unfold fz;by_cases ad:2*I h<=d
 .rw[aM ad];refine bG VH ?_;have r:((2*I h:Nat):Int)<=(d:Int):=J;have m2:=KM (a:=d) (b:=2*I h) ad J;have M:=wrap_small (n:=(d-2*I h)/2) J;have hm:=fO ((d-2*I h)/2+1) (show 0<I (aH h) by omega);have Z:¬((I (aH h):Int)=0):=J;obtain⟨u,hu⟩:=bq (h:=aH h) (k:=(d-2*I h)/2) J;have wx:=fC hu;by_cases h2:d%2=0
  .rw[aM h2];have A:=bJ (n:=(d-2*I h)/2) J;have gk:(((d%2:Nat):Int)==0):=by simp[h2]
   have z:=n_ ((d-2*I h)/2+1) (I (aH h));obtain⟨v,hv⟩:=bq hm;have te:(aH h).getD (((d-2*I h)/2+1)%I (aH h)) 0=v:=by rw[dT,hv];rfl
   rw[te];obtain⟨X,l,L,CX⟩:=iD v (bY hv);have oq:=fC hv;have q:=qa (MO L CX);have g:=U0 F h v hl X;have j:=SP F h v hl X;cases Y:dP h v with
   |true=>rw[Y]at q;simp only[go_sem,pF,y,m2,M,A,z,r,gk,wx,oq,q,Z,hD,dZ,de,tf,tu,dj g,dj j,ae,ao];exact⟨aw,aw⟩
   |false=>rw[Y]at q;simp only[go_sem,pF,y,m2,M,A,z,r,gk,wx,oq,q,Z,hD,dZ,de,tf,tu,dj g,dj j,ae,ao];exact⟨aw,aw⟩
  rw[aD h2];have gk:(((d%2:Nat):Int)==0)=false:=by simp;omega
  have te:(aH h).getD ((d-2*I h)/2) 0=u:=by rw[dT,hu];rfl
  rw[te];obtain⟨X,l,L,CX⟩:=iD u (bY hu);have q:=qa (MO L CX);have g:=U0 F h u hl X;have j:=SP F h u hl X;cases Y:dP h u with
  |true=>rw[Y]at q;simp only[go_sem,pF,y,m2,M,r,gk,wx,q,Z,hD,dZ,de,tf,tu,dj g,dj j,ae,ao];exact aw
  |false=>rw[Y]at q;simp only[go_sem,pF,y,m2,M,r,gk,wx,q,Z,hD,dZ,de,tf,tu,dj g,dj j,ae,ao];exact aw
 rw[aD ad];have r:¬(((2*I h:Nat):Int)<=(d:Int)):=J;have M:=wrap_small (n:=d/2) J;have D:¬((I h:Int)=0):=J;have Z:=fO (d/2+1) (show 0<I h by omega);have A:=bJ (n:=d/2) J;have z:=n_ (d/2+1) (I h);have body:∀v:Nat,v<I h->∀Q:Bool,v=(if Q then(d/2+1)%I h else d/2)->(((d%2:Nat):Int)==0)=Q->aC S 95 [.one (.p (pV F h)),aq d] (fy ((match h[v]? with
   |none=>0
   |some l=>if l.kind==2 then jX (I h) (jY h v) (Q==(l.over==(l.sign==1)))
    else if dP h v==Q then 2*I h+2*(aH h).idxOf v else 2*I h+2*(((aH h).idxOf v+I (aH h)-1)%I (aH h))+1:Nat):Int)):=by
  intro v hv Q E O;obtain⟨l,L⟩:=bq hv;have f:=iF L;rw[L];simp only;refine bG VH ?_;cases hk:(l.kind==2)with
  |true=>
   have hc:l.aJ:=hk;have B:(l.kind==1)=false:=by simp only[c6]at hk;rw[hk];rfl
   obtain⟨R,IV⟩:=Ja ok.cr L hc;have H:=abH h (I h) l.id;rw[aM (Kd (bY L) hc)]at H;have g:=U0 F h (jY h v) hl IV;have j:=SP F h (jY h v) hl IV;cases N:l.over with
   |true=>
    rw[N]at R;have R:gn h (I h) l.id false=some (jY h v):=R;simp only[nP,R]at H;simp only[vn]at H;cases aa:(l.sign==1)with
    |true=>
     cases Q with
     |true=>have E:v=(d/2+1)%I h:=E;rw[E]at f H g j |-;simp only[go_sem,pF,y,M,A,z,r,O,f,cW,af.ps,D,B,N,aa,hD,dZ,de,lh,lf,jd,H,tf,tu,dj g,dj j,ae,ao];exact⟨aw,aw⟩
     |false=>have E:v=d/2:=E;rw[E]at f H g j |-;simp only[go_sem,pF,y,M,A,z,r,O,f,cW,af.ps,D,B,N,aa,hD,dZ,de,lh,lf,jd,H,tf,tu,dj g,dj j,ae,ao];exact⟨aw,aw⟩
    |false=>
     cases Q with
     |true=>have E:v=(d/2+1)%I h:=E;rw[E]at f H g j |-;simp only[go_sem,pF,y,M,A,z,r,O,f,cW,af.ps,D,B,N,aa,hD,dZ,de,lh,lf,jd,H,tf,tu,dj g,dj j,ae,ao];exact⟨aw,aw⟩
     |false=>have E:v=d/2:=E;rw[E]at f H g j |-;simp only[go_sem,pF,y,M,A,z,r,O,f,cW,af.ps,D,B,N,aa,hD,dZ,de,lh,lf,jd,H,tf,tu,dj g,dj j,ae,ao];exact⟨aw,aw⟩
   |false=>
    rw[N]at R;have R:gn h (I h) l.id true=some (jY h v):=R;simp only[nP,R]at H;simp only[vn]at H;cases aa:(l.sign==1)with
    |true=>
     cases Q with
     |true=>have E:v=(d/2+1)%I h:=E;rw[E]at f H g j |-;simp only[go_sem,pF,y,M,A,z,r,O,f,cW,af.ps,D,B,N,aa,hD,dZ,de,lh,lf,jd,H,tf,tu,dj g,dj j,ae,ao];exact⟨aw,aw⟩
     |false=>have E:v=d/2:=E;rw[E]at f H g j |-;simp only[go_sem,pF,y,M,A,z,r,O,f,cW,af.ps,D,B,N,aa,hD,dZ,de,lh,lf,jd,H,tf,tu,dj g,dj j,ae,ao];exact⟨aw,aw⟩
    |false=>
     cases Q with
     |true=>have E:v=(d/2+1)%I h:=E;rw[E]at f H g j |-;simp only[go_sem,pF,y,M,A,z,r,O,f,cW,af.ps,D,B,N,aa,hD,dZ,de,lh,lf,jd,H,tf,tu,dj g,dj j,ae,ao];exact⟨aw,aw⟩
     |false=>have E:v=d/2:=E;rw[E]at f H g j |-;simp only[go_sem,pF,y,M,A,z,r,O,f,cW,af.ps,D,B,N,aa,hD,dZ,de,lh,lf,jd,H,tf,tu,dj g,dj j,ae,ao];exact⟨aw,aw⟩
  |false=>
   have hp:=ok.Mb L hk;have B:(l.kind==1):=hp;have q:=qa (MO L hp);have T:=fC (ajl L hp);have IE:=E0 ok.ax L hp;have ab:=RS (ok.ax.good l (bY L) hp);rw[GW ok.ax.qN]at ab;rw[IE];have zE:¬((I (aH h):Int)=0):=J;have kE:=fO (ei h l+I (aH h)-1) (show 0<I (aH h) by omega);have n1:=lR (a:=ei h l) J;have m:=oo (a:=2*I h) (b:=2*ei h l) J;have n3:=oe (a:=ei h l) J;have n4:=WT (a:=ei h l) (n:=I (aH h)) J J;have n5:=n_ (ei h l+I (aH h)-1) (I (aH h));have n6:=lR (a:=(ei h l+I (aH h)-1)%I (aH h)) J;have n7:=oo (a:=2*I h) (b:=2*((ei h l+I (aH h)-1)%I (aH h))) J
   have n8:=bJ (n:=2*I h+2*((ei h l+I (aH h)-1)%I (aH h))) J;cases Q with
   |true=>
    have E:v=(d/2+1)%I h:=E;cases Io:dP h v with
    |true=>rw[Io]at q;rw[E]at f q T;simp only[go_sem,pF,y,M,A,z,r,O,f,cW,af.ps,D,B,hD,dZ,de,q,T,n1,m,n3,n4,n5,n6,n7,n8,zE,ae,ao];exact aw
    |false=>rw[Io]at q;rw[E]at f q T;simp only[go_sem,pF,y,M,A,z,r,O,f,cW,af.ps,D,B,hD,dZ,de,q,T,n1,m,n3,n4,n5,n6,n7,n8,zE,ae,ao];exact aw
   |false=>
    have E:v=d/2:=E;cases Io:dP h v with
    |true=>rw[Io]at q;rw[E]at f q T;simp only[go_sem,pF,y,M,A,z,r,O,f,cW,af.ps,D,B,hD,dZ,de,q,T,n1,m,n3,n4,n5,n6,n7,n8,zE,ae,ao];exact aw
    |false=>rw[Io]at q;rw[E]at f q T;simp only[go_sem,pF,y,M,A,z,r,O,f,cW,af.ps,D,B,hD,dZ,de,q,T,n1,m,n3,n4,n5,n6,n7,n8,zE,ae,ao];exact aw
 have X:(if(d%2==0)=true then(d/2+1)%I h else d/2)<I h:=by
  split
  .exact Z
  omega
 have:=body _ X (d%2==0) rfl (by cases Y:(d%2==0)<;>simp at Y |- <;>omega);exact this
abbrev bZ(ls:aI):Nat->Nat:=fz ls (aH ls)
def amO(ok:gC F h){Q:fp}:
  ∀(f x:Nat) (cG:eo) (q:bD) (blk:aB),q 0=.one (.p (pV F h))->q 4=.one (.hsl 7936128064 1 1 0 (I cG))->blk 7936128064=(1,some (.arr 4 1 (gE cG)))->
   q 7=aq x->x<I cG->I cG=2*I h+2*I (aH h)->tR cG<f->
   (∀A j,A 0=q 0->A 4=q 4->A 5=q 5->A 24=q 24->A 25=q 25->j 7936128064=(1,some (.arr 4 1 (gE (eZ (bZ h) f x cG).2)))->Q .normal A j)->
   W S .all (.loop J0) (kZ 2 Q) q blk:=by
 have fQ:I (aH h)<=1000000:=jO (mv h (I h)) ok.hl;have iD:∀x∈aH h,x<I h:=λx ab=>JR ab;have hp:∀v l,h[v]?=some l->(l.kind==2)=false->v∈aH h:=λv l z L=>tm.2 ⟨l,z,ok.Mb z L⟩;intro f
 induction f with
 |zero=>intro x cG q blk _ _ _ _ _ _ ab;omega
 |succ f ih=>
  intro x cG q blk u g r y n hsl hu H;obtain⟨b,m⟩:=bq n;have N:=qa m;have O:cG.getD x true=b:=by rw[dT,m];rfl
  unfold eZ at H;rw[O]at H;refine mu ?_;cases b with
  |true=>simp only[go_sem,J0,g,r,y,n,N,ae,ao];refine H _ _ ?_ ?_ ?_ ?_ ?_ r;all_goals simp only[go_sem,g]
  |false=>
   have Bp:=HW m;have M:=aba ok x J;have Y:=JW (d:=x) iD hp J;have E:=Dj cG x true;simp only[go_sem,J0,u,g,r,y,n,N,E,Kt,dj M,ae,ao];refine ih (fz h (aH h) x) (cG.set x true) _ _ ?_ ?_ ?_ ?_ (by simpa [hsl]using Y) (by simpa using hsl) J ?_
   .simp only[go_sem,u]
   .simp only[go_sem,g,jc]
   .simp only[go_sem]
   .simp only[go_sem]
   intro A j D X R Z T B;refine H A j ?_ ?_ ?_ ?_ ?_ B
   .rw[D];simp only[go_sem]
   .rw[X];simp only[go_sem]
   .rw[R];simp only[go_sem]
   .rw[Z];simp only[go_sem]
   rw[T];simp only[go_sem]
def agn(ok:gC F h):aC S 124 [.one (.p (pV F h))] (bK (sJ h==aF af.aN h+aF af.aJ h/2+2)):=by
 have hl:=ok.hl;have fQ:I (aH h)<=I h:=mv h (I h);have m1:=lR (a:=I h) J;have X:=lR (a:=I (aH h)) J;have Y:=oo (a:=2*I h) (b:=2*I (aH h)) J;have y:2*I h+2*I (aH h)<=140737488355328:=J;have De:List.replicate (2*I h+2*I (aH h)) [PV.bool false]=gE (List.replicate (2*I h+2*I (aH h)) false):=aG;have kE:I (mR h (I h))=aF af.aJ h/2:=by have:=ok.cr;unfold lA at this;simp only[cq,c6]at this;simp[mR,this.2]
 have ng:aF af.aJ h<=I h:=ld _ _;refine bG amq ?_;simp only[go_sem,ad4,m1,X,Y,y,De,ae,ao];refine⟨aw,?_⟩;generalize hN:2*I h+2*I (aH h)=N at y;refine cD (λk q blk=>q 0=.one (.p (pV F h))/\q 4=.one (.hsl 7936128064 1 1 0 N)/\blk 7936128064=(1,some (.arr 4 1 (gE (dN (bZ h) N k).2)))/\
   q 5=aq (dN (bZ h) N k).1.length/\q 24=aq N/\q 25=aq k) 0 N (bC _) ?_ ?_
 .simp only[go_sem];exact⟨rfl,rfl,rfl⟩
 rintro k q blk hk ⟨g,r,j,f,u,Q⟩
 have H:=Ce (bZ h) N k;have M:=Dr (bZ h) N k;by_cases A:k<N
 .have z:((k:Int)<(N:Int)):=J;have v:=bJ (n:=k) J;have aa:=s_ (bZ h) N k;generalize da:dN (bZ h) N k=st at H aa j f M;obtain⟨out,cG⟩:=st;simp only at H j f M;obtain⟨b,m⟩:=bq (h:=cG) (k:=k) J;have B:=qa m;unfold qX at aa;have vZ:cG.getD k true=b:=by rw[dT,m];rfl
  simp only[vZ]at aa;cases b with
  |true=>have aa:dN (bZ h) N (k+1)=(out,cG):=aa;simp only[go_sem,KK,Ou,g,r,j,f,u,Q,A,z,B,v,aa,ae,ao]
  |false=>
   have aa:dN (bZ h) N (k+1)=(out++[(eZ (bZ h) (N+1) k cG).1],(eZ (bZ h) (N+1) k cG).2):=by rw[aa,H];rfl
   have ab:=EK cG;have w2:=bJ (n:=I out) J;simp only[go_sem,KK,g,r,j,f,u,Q,A,z,B,w2,ae,ao];refine amO ok (N+1) k cG _ _ ?_ ?_ ?_ ?_ J J J ?_
   .simp only[go_sem,g]
   .simp only[go_sem,r,H]
   .simp only[go_sem,j]
   .simp only[go_sem]
   intro aE ak x E D L T R;simp only[go_sem,g,r,f,u,Q]at x E D L T;simp only[go_sem,Ou,x,E,D,L,T,R,v,aa,A,ae,ao];simp
 have:k=N:=J;subst this;have he:sJ h=(dN (bZ h) k k).1.length:=by unfold sJ fW bZ;rw[hN]
 rw[<-he]at f;have Z:=oo (a:=I (aH h)) (b:=aF af.aJ h/2) J;have O:IntKind.i64.wrap (((I (aH h)+aF af.aJ h/2:Nat):Int)+2)=((I (aH h)+aF af.aJ h/2+2:Nat):Int):=oo (a:=I (aH h)+aF af.aJ h/2) (b:=2) J;have m:(((sJ h:Nat):Int)==((I (aH h)+aF af.aJ h/2+2:Nat):Int))=(sJ h==aF af.aN h+aF af.aJ h/2+2):=by
  rw[F_];cases ad:(sJ h==aF af.aN h+aF af.aJ h/2+2)with
  |true=>simp at ad |-;omega
  |false=>simp at ad |-;omega
 simp only[go_sem,KK,aay,g,f,u,Q,dF,pM,kE,Z,O,m,ae,ao];exact aw
abbrev Fe(id:Nat):Prop:=id=3328320128\/(lG id=85\/lG id=122\/lG id=123)
def alp(F:Nat)(h:aI)(g:Nat)(blk:aB):Prop:= ∃g1 j n f m,
 blk 3328320128=(g,some (.var (rC F h (aa 7808128448 j (I h)) (aa 7809344128 m (I (aH h))) (aa 7808192448 n (I h)) (.km 7872256064 f) (aa 7808064448 g1 (F+1)))))/\
 blk 7808064448=(g1,some (.arr 3 1 (aS (eF h F))))/\blk 7808128448=(j,some (.arr 4 1 (gE (mN h))))/\blk 7808192448=(n,some (.arr 3 1 (aS (iQ h (I h)))))/\
 blk 7809344128=(m,some (.arr 3 1 (aS (aH h))))/\blk 7872256064=(f,some (.map true (mR h (I h))))
def Km(F:Nat)(h:aI):Bool:=decide (h=[])||kn F h
def UO(F:Nat)(h:aI)(g:Nat)(f:aB)(v:V)(A:aB):Prop:=v=kN (Km F h)/\c8 Fe f A/\(h≠[]->kn F h->alp F h g A)/\(h=[]->A 3328320128=f 3328320128)
def UL:S.sites 85=[85,122,123]:=ah
def aco:S.sites 122=[122]:=ah
def WG:S.sites 123=[123]:=ah
def c8.NL{bN f:Nat->Prop}{a b:aB}(h:c8 bN a b)(H:∀id,bN id->f id):c8 f a b:=λid j=>h id λg=>j (H id g)
abbrev wZ(g:Nat):List dk:=[[.hfn 120 [.bg 3328320128 g 0] []],[.hfn 121 [.bg 3328320128 g 0] []],[.hfn 122 [.bg 3328320128 g 0] []],[.hfn 123 [.bg 3328320128 g 0] []],[.hfn 124 [.bg 3328320128 g 0] []]]
section
variable {al:bP} {Q:fp} {q:bD} {blk:aB} {g g0:Nat}
def TH(k:Nat){D:PV}{r:aA}{b:Bool}(u:k<5)(H:(wZ g)[k]?=some [.hfn f [.bg 3328320128 g 0] []])(F:S.shared f=false)(O:al.ok 5440192640)
  (L:q 22=.one (aa 5440192640 g0 5)) (h:q 23=aq 5) (j:q 24=aq k) (B:blk 5440192640=(g0,some (.gT 27 1 (wZ g))))
  (v:lI blk (.one (.bg 3328320128 g 0))=some (.one (.p D),r)) (m:al.fG r) (hp:aC S f [.one (.p D)] (bK b))
  (z:b=false->∀A,A 2=kN false->Q .ret A blk)
  (T:b->∀A,A 22=.one (aa 5440192640 g0 5)->A 23=aq 5->A 24=aq ((k+1:Nat):Int)->W S al (.loop xC) Q A blk):W S al (.loop xC) Q q blk:=by
 refine mu ?_;have x:((k:Int)<5):=J;have y:=bJ (n:=k) J;cases b with
 |false=>simp only[go_sem,xC,L,h,j,B,x,u,H,F,O,↓v,abN hp,m,ae,ao];exact z rfl _ (by simp only[go_sem])
 |true=>
  simp only[go_sem,xC,L,h,j,B,x,u,H,F,O,↓v,abN hp,m,y,ae,ao];refine T rfl _ ?_ ?_ ?_
  .simp only[go_sem,L]
  .simp only[go_sem,h]
  simp only[go_sem]
def ZR(k:Nat){P:V->aB->Prop}{b:Bool}(z:k<5)(H:(wZ g)[k]?=some [.hfn f [.bg 3328320128 g 0] []])(F:S.shared f)(O:al.ok 5440192640)
  (L:q 22=.one (aa 5440192640 g0 5)) (m:q 23=aq 5) (r:q 24=aq k) (B:blk 5440192640=(g0,some (.gT 27 1 (wZ g))))
  (y:al.holds (gr (S.ctx al) f [.one (.bg 3328320128 g 0)] blk)) (h:∃v A,ia S f [.one (.bg 3328320128 g 0)] (gr (S.ctx al) f [.one (.bg 3328320128 g 0)] blk) blk v A/\P v A)
  (E:∀v A,P v A->v=kN b)
  (x:b=false->∀v j A,P v A->j 2=kN false->Q .ret j A)
  (T:b->∀v j A,P v A->j 22=.one (aa 5440192640 g0 5)->j 23=aq 5->j 24=aq ((k+1:Nat):Int)->W S al (.loop xC) Q j A):W S al (.loop xC) Q q blk:=by
 refine mu ?_;have M:((k:Int)<5):=J;have u:=bJ (n:=k) J;simp only[go_sem,xC,L,m,r,B,M,z,H,F,O,ae,ao];refine sf y h λv A hp=>?_;have D:=E v A hp;subst D;cases b with
 |false=>simp only[go_sem,L,m,r,ae,ao];exact x rfl _ _ _ hp (by simp only[go_sem])
 |true=>
  simp only[go_sem,L,m,r,u,ae,ao];refine T rfl _ _ _ hp ?_ ?_ ?_
  .simp only[go_sem,L]
  .simp only[go_sem,m]
  simp only[go_sem]
end
def aqc{al:bP}(n:al.ok 3328320128)(O:∀id,(lG id=85\/lG id=122\/lG id=123)->al.ok id)(f1:al.fs.contains 122)(f2:al.fs.contains 123)
  {blk:aB}{g F:Nat}{h:aI} (hl:I h<=1000000) (hF:F<=1000000)
  (B:blk 3328320128=(g,some (.var (rC F h (.p .nils) (.p .nils) (.p .nils) (.p .oE) (.p .nils))))):∃v j,ia S 85 [.one (.bg 3328320128 g 0)] al blk v j/\UO F h g blk v j:=by
 have x:=O 5440192640 (.inl rfl);refine mU am4 (gU rfl) ?_;by_cases N:h=[]
 .subst N;have hz:(((0:Nat):Int)==0):=U;simp only[go_sem,Tb,B,hz,n,x,ae,ao];exact⟨rfl,c8.refl _ _,λH=>absurd rfl H,λ_=>rfl⟩
 have iE:=nA.2 N;have zH:(((I h:Nat):Int)==0)=false:=by simp;omega
 obtain⟨l0,h0⟩:=bq iE;have oY:decide (h=[])=false:=by simp[N]
 have pl:=alC F h (.sl []) (.sl []) (.sl []) .oE (.sl []) hl ⟨rfl,rfl,rfl,rfl,rfl⟩;have pb:=aeQ F h l0 (.sl []) (.sl []) (.sl []) .oE (.sl []) hl h0;have YD:=M6 (F:=F) (h:=h);have fail:∀A j,c8 Fe blk j->kn F h=false->A 2=kN false->kZ 0 (qm S al Uc (nk al [(2,none)] (UO F h g blk))) .ret A j:=λA j hk hv m=>by simp only[go_sem,m,ae,ao];exact⟨by rw[Km,oY,hv];rfl,hk,λ_ H=>(by rw[hv]at H;cases H),λH=>absurd H N⟩
 have ag:rM F h=false->kn F h=false:=λH=>by simp[kn,H]
 have TI:¬(h.any (ek F)=false/\tX h/\lA h)->kn F h=false:=λH=>ag (by
  cases hq:rM F h with
  |false=>rfl
  |true=>exact absurd (YD.1 hq) H)
 simp only[go_sem,Tb,B,zH,n,x,ae,ao];have E:c8 Fe blk (cQ blk 5440192640 ((blk 5440192640).1+1,some (.gT 27 1 (wZ g)))):=c8.cQ (c8.refl _ _) (.inr (.inl rfl)) _;generalize z:cQ blk 5440192640 ((blk 5440192640).1+1,some (.gT 27 1 (wZ g)))=u;rw[z]at E;have q:u 5440192640=((blk 5440192640).1+1,some (.gT 27 1 (wZ g))):=by rw[<-z];simp only[go_sem]
 have B:u 3328320128=(g,some (.var (rC F h (.p .nils) (.p .nils) (.p .nils) (.p .oE) (.p .nils)))):=by rw[<-z];simp only[go_sem,B]
 clear z;have Z:lI u (.one (.bg 3328320128 g 0))=some (.one (.p (G4 F h (.sl []) (.sl []) (.sl []) .oE (.sl []))),[3328320128]):=by simp only[go_sem,B,ae,ao]
 have Q:al.fG [3328320128]:=by simp only[go_sem,n]
 refine TH 0 J rfl MU x (by simp only[go_sem]) (by simp only[go_sem];rfl) (by simp only[go_sem];rfl) q Z Q pl (λf A m=>fail A u E (TI λH=>by simp[H.1]at f) m) (λf A r M L=>?_);have z:h.any (ek F)=false:=by simpa using f
 have mE:∀l∈h,ek F l=false:=λl hl=>by simpa using xM.1 z l hl
 have hg:qN F h:=λl hl hp=>((Ao hp).1 (mE l hl)).1.1.1;refine TH 1 J rfl afS x r M L q Z Q pb (λf A m=>fail A u E (by simp only[kn,h0,f];rfl) m) (λad A r M L=>?_);clear f;have T:kr u (.one (.bg 3328320128 g 0))=[3328320128]:=by rw[SZ B];simp[Tz]
 refine ZR (b:=tX h) 2 J rfl ah x r M L q ?_ (aqp (wY (by simp[T])) (λid H=>EY (by rw[aco,H];rfl)) hl hF hg B) (λv j H=>H.1) ?_ ?_
 .refine GL ?_ ?_
  .show al.fG ([V.one (.bg 3328320128 g 0)].map (kr u)).flatten=true;simp only[ew,jn,T,kT,Js,jE];exact Q
  show(S.sites 122).all al.fs.contains=true;rw[aco];simp only[oQ,qF,f1];rfl
 .intro f v A j hp m;exact fail A j (E.trans (hp.2.1.NL λid H=>H.elim .inl λH=>.inr (.inr (.inl H)))) (TI λH=>by rw[H.2.1]at f;cases f) m
 intro nT v A D hp r M L;obtain⟨_,py,ui⟩:=hp;obtain⟨g1,g2,g3,g5,B,Y,bW,ll,bA⟩:=ui nT;have iD:xL F h:=by obtain⟨a,b⟩:=(D4 hg).1 nT;exact⟨a,b⟩
 rw[ahI iD]at bA;rw[GW hg]at B;have q:D 5440192640=((blk 5440192640).1+1,some (.gT 27 1 (wZ g))):=by rw[<-q];exact py _ U
 have YA:c8 Fe blk D:=E.trans (py.NL λid H=>H.elim .inl λH=>.inr (.inr (.inl H)));have oC:=O 7808064448 (.inr (.inl rfl));have oW:=O 7808128448 (.inr (.inl rfl));have oP:=O 7808192448 (.inr (.inl rfl));have oA:=O 7809344128 (.inr (.inl rfl));have oM:=O 7872256064 (.inr (.inr rfl));have I3:kr D (.one (.bg 3328320128 g 0))=[3328320128,7808128448,7809344128,7808192448,7808064448]:=by rw[SZ B];simp only[ew,jn,Tz,DI bW,DI bA,DI ll,DI Y,kT,Js,tz,jE,Ei]
 refine ZR (b:=lA h) 3 J rfl ah x r M L q ?_ (alo (wY (by simp[I3])) (λid H=>EY (by rw[WG,H];rfl)) hl B) (λv j H=>H.1) ?_ ?_
 .refine GL ?_ ?_
  .show al.fG ([V.one (.bg 3328320128 g 0)].map (kr D)).flatten=true;simp only[ew,jn,I3,kT,Js,jE,Rt,So,n,oC,oW,oP,oA,Ba]
  show(S.sites 123).all al.fs.contains=true;rw[WG];simp only[oQ,qF,f2];rfl
 .intro f v A j hp m;exact fail A j (YA.trans (hp.2.1.NL λid H=>H.elim .inl λH=>.inr (.inr (.inr H)))) (TI λH=>by rw[H.2.2]at f;cases f) m
 intro fY v A X hp r M L;obtain⟨_,y,am⟩:=hp;obtain⟨g4,B,bM⟩:=am fY;have kp:∀id,lG id=122->X id=D id:=λid H=>y id (by
  rintro(e|e)
  .rw[e]at H;revert H;decide
  rw[e]at H;revert H;decide)
 rw[<-kp _ rfl]at Y bW ll bA;have q:X 5440192640=((blk 5440192640).1+1,some (.gT 27 1 (wZ g))):=by rw[<-q];exact y _ U
 have YB:c8 Fe blk X:=YA.trans (y.NL λid H=>H.elim .inl λH=>.inr (.inr (.inr H)));have ok:gC F h:=⟨hl,iD,fY,λl hl=>KC (mE l hl)⟩;have pf:=agn ok;have ab:rM F h:=YD.2 ⟨z,nT,fY⟩;have R:kn F h=(sJ h==aF af.aN h+aF af.aJ h/2+2):=by
  have Yr:(l0.kind==1)/\(aF af.aN h%2==0):=by simpa using ad
  simp only[kn,h0,Yr.1,Yr.2,ab,tI]
 have t1:List.take (I h) (gE (mN h))=gE (mN h):=eW (by simp[mN]);have t2:List.take (I (aH h)) (aS (aH h))=aS (aH h):=eW aG;have t3:List.take (I h) (aS (iQ h (I h)))=aS (iQ h (I h)):=eW (by simp[iQ]);have t4:List.take (F+1) (aS (eF h F))=aS (eF h F):=eW (by simp[eF]);have n1:I h<=I (mN h):=by simp[mN]
 have n3:I h<=I (iQ h (I h)):=by simp[iQ]
 have n4:F+1<=I (eF h F):=by simp[eF]
 have Z:lI X (.one (.bg 3328320128 g 0))=some (.one (.p (pV F h)),[3328320128,7808128448,7809344128,7808192448,7872256064,7808064448]):=by simp only[go_sem,V4,B,bW,bA,ll,Y,bM,Sf,t1,t2,t3,t4,n1,n3,n4,ae,ao]
 have Q:al.fG [3328320128,7808128448,7809344128,7808192448,7872256064,7808064448]:=by simp only[Rt,So,n,oC,oW,oP,oA,oM,Ba]
 refine TH 4 J rfl ao8 x r M L q Z Q pf (λf A m=>fail A X YB (by rw[R];exact f) m) (λjI A r M L=>?_);have hv:kn F h:=by rw[R];exact jI
 refine mu ?_;have n5:¬((((4+1:Nat)):Int)<5):=U;simp only[go_sem,xC,Uc,M,L,n5,ae,ao];exact⟨by rw[Km,oY,hv];rfl,YB,λ_ _=>⟨g1,g2,g3,g4,g5,B,Y,bW,ll,bA,bM⟩,λH=>absurd H N⟩
abbrev J_(f:Int):PV:=G4 f [] (.sl []) (.sl []) (.sl []) .oE (.sl [])
abbrev uR(a b:PV):RV:=.tup [.one (.p a),.one (.p b)]
def HQ(f:Int)(h:aI):RV:=if kM f h=0 then uR (if h=[]then J_ f else pV f.toNat h) (.int .i64 0)else uR .uu (.int .i64 (kM f h))
def bQ{blk:aB}{s:Nat}{a b:PV}{l:Bool}:d_ blk [] s ((uR a b).eU l)=some (.tup [.one (.p a),.one (.p b)],[]):=by cases l<;>rfl
def FB{f:Int}{e:Int}(g:kM f h=e)(H:e≠0):HQ f h=uR .uu (.int .i64 e):=by unfold HQ;rw[g,aD H]
def MK{f:Int}(H:kM f h=0):HQ f h=uR (if h=[]then J_ f else pV f.toNat h) (.int .i64 0):=by unfold HQ;rw[aM H]
def Zj(f:Int)(h:aI)(hl:I h<=1000000):aC S 52 [dQ f h] (HQ f h):=by
 have pc:=Tv f h hl;refine bG ahS ?_;by_cases Q:400<I h
 .have j:(400:Int)<(I h:Int):=J;rw[FB (e:=7) (by unfold kM;rw[aM (Or.inl Q)]) U];simp only[go_sem,D6,j,yU,dj pc,ae,ao];rfl
 have j:¬(400:Int)<(I h:Int):=J;by_cases D:200<aF af.aJ h
 .have g:(200:Int)<(aF af.aJ h:Int):=J;rw[FB (e:=7) (by unfold kM;rw[aM (Or.inr D)]) U];simp only[go_sem,D6,j,g,yU,dj pc,ae,ao];rfl
 have g:¬(200:Int)<(aF af.aJ h:Int):=J;have n:¬(400<I h\/200<aF af.aJ h):=J;by_cases q:f<0
 .rw[FB (e:=2) (by unfold kM;rw[aD n,aM (Or.inl q)]) U];simp only[go_sem,D6,j,g,q,yU,dj pc,ae,ao];rfl
 by_cases u:40<f
 .rw[FB (e:=2) (by unfold kM;rw[aD n,aM (Or.inr u)]) U];simp only[go_sem,D6,j,g,q,u,yU,dj pc,ae,ao];rfl
 have m:¬(f<0\/40<f):=J;obtain⟨F,rfl⟩:=lM (show 0<=f by omega);have Y:S.shared 85:=ah;simp only[go_sem,D6,j,g,q,u,yU,dj pc,Y,ae,ao];refine sf (P:=UO F h 1 _) xt (aqc (F:=F) (h:=h) ?_ ?_ ?_ ?_ hl J ?_) ?_
 .refine wY ?_;rw[ew,jn,SZ (g0:=1) (T:=rC F h (.p .nils) (.p .nils) (.p .nils) (.p .oE) (.p .nils)) (by simp only[go_sem])];simp
 .intro id z;refine EY ?_;rw[UL];rcases z with z|z|z<;>rw[z]<;>rfl
 .show(S.sites 85).contains _=true;rw[UL];rfl
 .show(S.sites 85).contains _=true;rw[UL];rfl
 .simp only[go_sem]
 rintro v ak ⟨rfl,hk,hr,X⟩
 unfold Km;by_cases H:h=[]
 .have y:kM F h=0:=by unfold kM;rw[aD n,aD m,aM H]
  have B:=X H;rw[MK y,aM H];have O:(decide (h=[])||kn F h)=true:=by simp[H]
  rw[O];subst H;simp only[go_sem]at B;simp only[go_sem,ae,ao];simp only[go_sem,hJ,pn,rl,lJ,kQ,iZ,B,ae,ao];rfl
 have O:decide (h=[])=false:=by simp[H]
 cases x:kn F h with
 |false=>rw[FB (e:=3) (by unfold kM;rw[aD n,aD m,aD H,x];rfl) U];rw[O,wL];simp only[go_sem,ae,ao];rfl
 |true=>
  have y:kM F h=0:=by unfold kM;rw[aD n,aD m,aD H,x];rfl
  rw[MK y,aD H];obtain⟨g1,g2,g3,g4,g5,B,L,bW,ll,bA,R⟩:=hr H x;have r:(F:Int).toNat=F:=rfl;rw[r];have Z:List.take (I h) (gE (mN h))=gE (mN h):=eW (by simp[mN]);have T:List.take (I (aH h)) (aS (aH h))=aS (aH h):=eW aG;have A:List.take (I h) (aS (iQ h (I h)))=aS (iQ h (I h)):=eW (by simp[iQ]);have E:List.take (F+1) (aS (eF h F))=aS (eF h F):=eW (by simp[eF]);have n:I h<=I (mN h):=by simp[mN]
  have N:I h<=I (iQ h (I h)):=by simp[iQ]
  have M:F+1<=I (eF h F):=by simp[eF]
  rw[O,wL];simp only[go_sem,ae,ao];simp only[go_sem,hJ,pn,rl,lJ,kQ,iZ,V4,B,bW,bA,ll,L,R,Sf,Z,T,A,E,n,N,M,ae,ao];rfl
abbrev dp(k a b c:Int)(l o:Bool)(s:Int):V:=.agg [.p (.int .i64 k),.p (.int .i64 a),.p (.int .i64 b),.p (.int .i64 c),.p (.bool l),.p (.bool o),.p (.int .i64 s)]
abbrev rm(e:Int):RV:=.tup [.agg [.p (.int .i64 0),.p .nils],.one (.p (.int .i64 e))]
section
variable {f:Int} {h:aI} {e:Int}
abbrev kinds(k:Nat):aA:=(List.range k).map (· +1)
def asp(k:Nat):aS (kinds (k+1))=aS (kinds k)++[[.int .i64 ((k+1:Nat):Int)]]:=by simp[kinds,j0]
def aom(k:Nat)(v:V)(blk:aB):Prop:=(k=0/\v=.one (.p .nils))\/(k≠0/\ ∃g,v=.one (.hsl 384320192 g 1 0 k)/\blk 384320192=(g,some (.arr 35 1 (aS (kinds k)))))
end
def kU(n v:Nat)(f:Bool):Nat:=if f then 2*((v+n-1)%n)else 2*v+1
def Tp(n e:Nat):Nat:=if e%2=0 then e/2 else(e/2+1)%n
def A4(H:v<n):((v+n-1)%n+1)%n=v:=by
 by_cases h:v=0
 .subst h;rw[ka,o_ (show n-1<n by omega),show n-1+1=n by omega,GC]
 rw[show v+n-1=(v-1)+n by omega,Jg,o_ (show v-1<n by omega),show v-1+1=v by omega,o_ H]
def Tq(H:v<n):((v+1)%n+n-1)%n=v:=by
 by_cases h:v+1=n
 .rw[h,GC,ka,o_ (show n-1<n by omega)];omega
 rw[o_ (show v+1<n by omega),show v+1+n-1=v+n by omega,Jg,o_ H]
def acr(H:v<n)(g:Bool):Tp n (jX n v g)=v/\(jX n v g%2==0)=g:=by
 unfold Tp jX;cases g with
 |true=>have h:(2*v)%2=0:=J;simp only[if_true,h];exact⟨J,rfl⟩
 |false=>have h:(2*((v+n-1)%n)+1)%2=1:=J;have f:(2*((v+n-1)%n)+1)/2=(v+n-1)%n:=J;simp only[ib,if_false,h,f,Nat.one_ne_zero,A4 H];exact⟨trivial,rfl⟩
def C5(h:aI)(ax:aA)(e:Nat):Nat:=
 if 2*I h<=e then
  if e%2=0 then kU (I h) (ax.getD ((e-2*I h)/2) 0) (dP h (ax.getD ((e-2*I h)/2) 0))
  else kU (I h) (ax.getD (((e-2*I h)/2+1)%I ax) 0) (!dP h (ax.getD (((e-2*I h)/2+1)%I ax) 0))
 else
  let v:=Tp (I h) e
  let g:=e%2==0
  match h[v]? with
  |none=>0
  |some l=>if l.kind==2 then
    match h[jY h v]? with
    |some u=>kU (I h) (jY h v) (g==(u.over==(u.sign==1)))
    |none=>0
   else if g==dP h v then 2*I h+2*ax.idxOf v+1 else 2*I h+2*((ax.idxOf v+I ax-1)%I ax)
def MS(f:lA h){i:Nat}{l:af}(hl:h[i]?=some l)(n:l.aJ):jY h (jY h i)=i/\ ∃m,h[jY h i]?=some m/\m.aJ/\m.id=l.id/\m.over= !l.over/\m.sign=l.sign:=by
 obtain⟨z,E⟩:=Ja f hl n;obtain⟨_,q⟩:=BM z;obtain⟨m,H,j,g,M⟩:=xx q;have hp:He h:=by have:=f;unfold lA at this;simp only[cq,c6,gL,f_]at this;exact(FW.1 this.1.2).2
 have A:i≠jY h i:=by intro e;rw[<-e,hl]at H;cases H;revert M;cases l.over<;>simp
 obtain⟨y,F⟩:=Ja f H j;obtain⟨_,v⟩:=BM y;obtain⟨x,u,D,X,B⟩:=xx v;refine⟨?_,m,H,j,g,M,((hp i _ l m hl H n j g.symm A).2).symm⟩;refine Decidable.byContradiction λr=>?_;have:=(hp _ i x l u hl D n (by rw[X,g]) r).1;rw[B,M]at this;revert this;cases l.over<;>simp
def ach{ax:aA}{d:Nat}{f:Bool}{l:af}(j:¬2*I h<=d)(g:(d%2==0)=f)(H:v=if f then(d/2+1)%I h else d/2)(hl:h[v]?=some l):
  fz h ax d=if l.kind==2 then jX (I h) (jY h v) (f==(l.over==(l.sign==1)))
   else if dP h v==f then 2*I h+2*ax.idxOf v else 2*I h+2*((ax.idxOf v+I ax-1)%I ax)+1:=by
 subst g;subst H;unfold fz;rw[aD j];simp only[hl]
def Y6(ok:gC F h){d:Nat}(hd:d<2*I h+2*I (aH h)):C5 h (aH h) (fz h (aH h) d)=d:=by
 have iD:∀x∈aH h,x<I h/\ ∃l,h[x]?=some l/\l.aN:=λx hx=>by obtain⟨l,h1,u⟩:=tm.1 hx;exact⟨(ct.1 h1).1,l,h1,u⟩
 have Q:∀ {p v:Nat},(aH h)[p]?=some v->(aH h).idxOf v=p:=λ{p v} hp=>by obtain⟨l,hl,R,he⟩:=Bz ok.ax hp;rw[E0 ok.ax hl R,he]
 have A:∀ {v:Nat} (g:Bool),v<I h-> ¬2*I h<=jX (I h) v g:=λ{v} g H=>by have:=wK (n:=I h) (f:=g) H;omega
 have N:∀ {l:af},l.aN->(l.kind==2)=false:=λ{l} ab=>AQ ab;have f:∀ {p v:Nat} (g:Bool),(aH h)[p]?=some v->C5 h (aH h) (jX (I h) v g)=if g==dP h v then 2*I h+2*p+1 else 2*I h+2*((p+I (aH h)-1)%I (aH h)):=by intro p v g hp;obtain⟨H,l,hl,R⟩:=iD v (bY hp);obtain⟨r,E⟩:=acr H g;unfold C5;rw[aD (A g H)];simp only[r,E,hl,N R,Q hp];rfl
 by_cases ab:2*I h<=d
 .unfold fz;rw[aM ab];have O:=fO ((d-2*I h)/2+1) (show 0<I (aH h) by omega);by_cases u:d%2=0
  .rw[aM u];obtain⟨v,H⟩:=bq O;have T:(aH h).getD (((d-2*I h)/2+1)%I (aH h)) 0=v:=by rw[dT,H];rfl
   rw[T,f _ H];have y:((!dP h v)==dP h v)=false:=by cases dP h v<;>rfl
   rw[y,Tq (show(d-2*I h)/2<I (aH h) by omega)];simp only[ib,if_false];omega
  rw[aD u];obtain⟨v,H⟩:=bq (h:=aH h) (k:=(d-2*I h)/2) J;have T:(aH h).getD ((d-2*I h)/2) 0=v:=by rw[dT,H];rfl
  rw[T,f _ H];simp only[acA,if_true];omega
 have hn:0<I h:=J;have kh:=fO (d/2+1) hn;have D:∀(v:Nat) (j:Bool),v<I h->(d%2==0)=j->v=(if j then(d/2+1)%I h else d/2)->kU (I h) v j=d:=by
  intro v j H q z;unfold kU;cases j with
  |true=>
   have q:d%2=0:=by simpa using q
   simp only[if_true]at z |-;rw[z,Tq (show d/2<I h by omega)];omega
  |false=>
   have q:d%2≠0:=by simpa using q
   simp only[ib,if_false]at z |-;omega
 generalize H:(if(d%2==0)=true then(d/2+1)%I h else d/2)=v;generalize q:(d%2==0)=j at H;have X:v<I h:=by rw[<-H];split<;>omega
 have M:=D v j X q H.symm;obtain⟨l,hl⟩:=bq X;rw[ach ab q H.symm hl];cases Y:(l.kind==2)with
 |true=>
  have hc:l.aJ:=Y;obtain⟨y,m,O,mc,mi,mo,ms⟩:=MS ok.cr hl hc;have IV:=(Ja ok.cr hl hc).2;rw[aM rfl];obtain⟨r,E⟩:=acr IV (j==(l.over==(l.sign==1)));unfold C5;rw[aD (A _ IV)];have mk:(m.kind==2):=mc;simp only[r,E,O,mk,if_true,y,hl];have rW:((j==(l.over==(l.sign==1)))==(l.over==(l.sign==1)))=j:=by cases j<;>cases(l.over==(l.sign==1))<;>rfl
  rw[rW];exact M
 |false=>
  have hp:=ok.Mb hl Y;have IE:=E0 ok.ax hl hp;have L:=TM ok.ax hl hp;have B:=(ct.1 L).1;rw[aD aG,IE];cases Z:(dP h v==j)with
  |true=>
   simp only[if_true];unfold C5;rw[aM J,aM J];have r:(2*I h+2*ei h l-2*I h)/2=ei h l:=J;have E:(aH h).getD (ei h l) 0=v:=by rw[dT,L];rfl
   rw[r,E,show dP h v=j by simpa using Z];exact M
  |false=>
   have kE:=fO (ei h l+I (aH h)-1) (show 0<I (aH h) by omega);simp only[ib,if_false];unfold C5;rw[aM J,aD J];have r:(2*I h+2*((ei h l+I (aH h)-1)%I (aH h))+1-2*I h)/2=(ei h l+I (aH h)-1)%I (aH h):=J;have E:(aH h).getD (ei h l) 0=v:=by rw[dT,L];rfl
   rw[r,A4 B,E,show(!dP h v)=j by revert Z;cases dP h v<;>cases j<;>simp];exact M
def ajd(ok:gC F h){d e:Nat}(f:d<2*I h+2*I (aH h))(j:e<2*I h+2*I (aH h))(m:bZ h d=bZ h e):d=e:=by have H:=Y6 ok f;have g:=Y6 ok j;rw[<-H,<-g];exact congrArg _ m
def Eg(next:Nat->Nat)(m:Nat):Nat->Nat->eo->aA×eo
 |0,_,f=>([],f)
 |k+1,x,f=>if x<m then
   if f.getD x true then([],f)else(x::(Eg next m k (next x) (f.set x true)).1,(Eg next m k (next x) (f.set x true)).2)
  else(x::(Eg next m k (next x) f).1,(Eg next m k (next x) f).2)
abbrev cG(S:eo)(x:Nat):Bool:=S.getD x true
def Fw{S:eo}{y:Nat}(H:x<I S):cG (S.set x true) y=if y=x then true else cG S y:=by
 unfold cG;rw[dT,dT,lC];by_cases h:x=y
 .subst h;simp[H]
 rw[aD h,aD (λe=>h e.symm)]
structure vu (next:Nat->Nat) (n2 N:Nat):Prop where
 le:n2<=N
 lt:∀x,x<N->next x<N
 inj:∀x y,x<N->y<N->next x=next y->x=y
 ax:∀x,x<N->n2<=x->next x<n2
def Hx(next:Nat->Nat)(N:Nat)(S:eo):Prop:=∀y,y<N->cG S y=cG S (next y)
structure Inv (next:Nat->Nat) (N d:Nat) (S:eo) (x:Nat):Prop where
 i1:∀y,y<N->cG S (next y)->cG S y\/next y=d
 i2:∀y,y<N->cG S y->cG S (next y)\/next y=x
 i4:cG S x->x=d
 pr:(x=d/\cG S x=false)\/ ∃p,p<N/\next p=x/\cG S p
def Inv.start{next:Nat->Nat}{d:Nat}{S:eo}(h:Hx next N S)(f:cG S d=false):Inv next N d S d:=
 ⟨λy H aa=>.inl (by rw[h y H];exact aa),λy H aa=>.inl (by rw[<-h y H];exact aa),λ_=>rfl,.inl ⟨rfl,f⟩⟩
def Inv.stop{next:Nat->Nat}{d:Nat}{S:eo}(M:vu next m N)(h:Inv next N d S x)(q:cG S x):Hx next N S:=by
 have g:=h.i4 q;subst g;intro y j;cases f:cG S y with
 |true=>
  rcases h.i2 y j f with H|H
  .rw[H]
  rw[H,q]
 |false=>
  cases H:cG S (next y)with
  |false=>rfl
  |true=>
   rcases h.i1 y j H with n|n
   .rw[n]at f;cases f
   rcases h.pr with⟨_,r⟩|⟨p,hp,u,D⟩
   .rw[q]at r;cases r
   have:=M.inj y p j hp (by rw[n,u]);rw[this,D]at f;cases f
def Inv.step{next:Nat->Nat}{d:Nat}{S:eo}(M:vu next m N)(hl:I S=N)(Y:x<N)(h:Inv next N d S x)(n:cG S x=false):Inv next N d (S.set x true) (next x):=by
 have q:x<I S:=J;refine⟨λy f aa=>?_,λy f aa=>?_,λaa=>?_,.inr ⟨x,Y,rfl,by rw[Fw q,aM rfl]⟩⟩
 .rw[Fw q]at aa |-;by_cases e:next y=x
  .rcases h.pr with⟨j,_⟩|⟨p,hp,g,D⟩
   .exact .inr (by rw[e,j])
   have:=M.inj y p f hp (by rw[e,g]);left;rw[this];split
   .rfl
   exact D
  rw[aD e]at aa;rcases h.i1 y f aa with H|H
  .left;split
   .rfl
   exact H
  exact .inr H
 .rw[Fw q]at aa |-;by_cases e:y=x
  .subst e;exact .inr rfl
  rw[aD e]at aa;rcases h.i2 y f aa with H|H
  .left;split
   .rfl
   exact H
  left;rw[aM H]
 rw[Fw q]at aa;by_cases e:next x=x
 .rcases h.pr with⟨j,_⟩|⟨p,hp,g,D⟩
  .rw[e,j]
  have:=M.inj p x hp Y (by rw[g,e]);rw[this,n]at D;cases D
 rw[aD e]at aa;rcases h.i1 x Y aa with H|H
 .rw[n]at H;cases H
 exact H
def Un{S:eo}(h:x<m)(hl:m<=I S):(S.take m).getD x true=cG S x:=by unfold cG;rw[dT,dT,lT,aM h]
def aa6{S:eo}:(S.take m).set x true=(S.set x true).take m:=by rw[<-List.take_set]
def Wu{S:eo}(h:m<=x):(S.set x true).take m=S.take m:=by rw[List.take_set];exact List.set_eq_of_length_le (by rw[iU];omega)
def anF{next:Nat->Nat}{d:Nat}(M:vu next m N)(y:d<m):∀(f x:Nat) (S:eo),I S=N->x<N->Inv next N d S x->tR S<f->
  Hx next N (eZ next f x S).2/\Eg next m f x (S.take m)=((eZ next f x S).1,(eZ next f x S).2.take m):=by
 intro f
 induction f with
 |zero=>intro x S _ _ _ h;omega
 |succ f u=>
  intro x S hl n H z;have v:=M.le;unfold eZ Eg;cases aa:S.getD x true with
  |true=>have q:=H.i4 aa;have A:x<m:=J;rw[aM A,Un A J,show cG S x=true from aa];exact⟨H.stop M aa,rfl⟩
  |false=>
   have F:S[x]?=some false:=by
    rw[dT]at aa;cases j:S[x]? with
    |none=>rw[j]at aa;cases aa
    |some b=>rw[j]at aa;exact congrArg some aa
   have B:=HW F;obtain⟨r,g⟩:=u (next x) (S.set x true) (by rw[jc,hl]) (M.lt x n) (H.step M hl n aa) J;simp only[ib,if_false];refine⟨r,?_⟩;by_cases A:x<m
   .rw[aM A,Un A J,show cG S x=false from aa];simp only[ib,if_false];rw[aa6,g]
   rw[aD A];rw[Wu J]at g;rw[g]
def gC.iD(_:gC F h):∀x∈aH h,x<I h:=λ_ H=>JR H
def gC.hp(ok:gC F h):∀v l,h[v]?=some l->(l.kind==2)=false->v∈aH h:=λ_ l H f=>tm.2 ⟨l,H,ok.Mb H f⟩
abbrev bH(ls:aI):Nat:=2*I ls+2*I (aH ls)
def xy(ok:gC F h):vu (bZ h) (2*I h) (bH h):=by
 refine⟨by unfold bH;omega,λx H=>JW ok.iD ok.hp H,λx y H m q=>ajd ok H m q,λx H n=>?_⟩;have H:x<2*I h+2*I (aH h):=H;have z:∀k,k<I (aH h)->(aH h).getD k 0<I h:=λk j=>by obtain⟨v,f⟩:=bq j;rw[dT,f];exact ok.iD v (bY f)
 have g:=fO ((x-2*I h)/2+1) (show 0<I (aH h) by omega);show fz h (aH h) x<_;unfold fz;rw[aM n];split
 .exact wK (z _ g)
 exact wK (z _ J)
def abL(next:Nat->Nat):∀(k x:Nat) (S:eo) (y:Nat),cG S y->cG (eZ next k x S).2 y:=by
 intro k
 induction k with
 |zero=>intro x S y h;exact h
 |succ k f=>
  intro x S y h;unfold eZ;split
  .exact h
  refine f _ _ _ ?_;unfold cG;rw[dT,lC];split
  .split<;>rfl
  rw[<-dT];exact h
def aca(next:Nat->Nat)(k x:Nat)(S:eo)(H:tR S<k):cG (eZ next k x S).2 x:=by
 cases k with
 |zero=>omega
 |succ k=>
  unfold eZ;cases aa:S.getD x true with
  |true=>simpa using aa
  |false=>
   simp only[ib,if_false];refine abL _ _ _ _ _ ?_;unfold cG;rw[dT,lC];split
   .split<;>rfl
   rename_i h;exact absurd rfl h
section
variable {next:Nat->Nat} {m N:Nat}
def N0(h:x<N):cG (List.replicate N false) x=false:=by unfold cG;rw[dT,List.getElem?_replicate,aM h];rfl
def Ma(M:vu next m N):∀k,k<=m->Hx next N (dN next N k).2/\ ∀x,x<k->cG (dN next N k).2 x:=by
 intro k
 induction k with
 |zero=>intro _;refine⟨λy g=>?_,λx h=>absurd h (l_ x)⟩;show cG (List.replicate N false) y=cG (List.replicate N false) (next y);rw[N0 g,N0 (M.lt y g)]
 |succ k n=>
  intro u;obtain⟨c,s⟩:=n J;have H:=Ce next N k;have q:=M.le;rw[s_];unfold qX;cases aa:(dN next N k).2.getD k true with
  |true=>
   simp only[if_true];refine⟨c,λx f=>?_⟩;rcases jG.1 f with h|rfl
   .exact s x h
   exact aa
  |false=>
   simp only[ib,if_false];have j:=EK (dN next N k).2;obtain⟨r,_⟩:=anF M (show k<m by omega) ((dN next N k).2.length+1) k (dN next N k).2 H J (Inv.start c aa) J;refine⟨r,λx f=>?_⟩;rcases jG.1 f with h|rfl
   .exact abL _ _ _ _ _ (s x h)
   exact aca _ _ _ _ J
def Sm(M:vu next m N):∀k,m<=k->k<=N->dN next N k=dN next N m:=by
 intro k
 induction k with
 |zero=>intro h _;rw[show m=0 by omega]
 |succ k f=>
  intro n j;by_cases e:m=k+1
  .rw[e]
  rw[s_,f J J];obtain⟨c,s⟩:=Ma M m (cH _);unfold qX;have:(dN next N m).2.getD k true:=by have H:=c k J;have g:=s (next k) (M.ax k J J);show cG (dN next N m).2 k=true;rw[H,g]
  rw[this];rfl
end
def ahQ(f:Int)(h:aI)(e:Nat)(hl:I h<=1000000)(H:e<I h):aC S 89 [dQ f h,aq e] (bK (!dP h (e+1))):=by have j:=Jo f h (e+1) hl J;have g:=bJ (n:=e) J;refine bG ajg ?_;simp only[go_sem,adg,g,BZ,ai j,ae,ao]
def arS(w:aA)(N:I w<=1000000):aC S 92 [.one (.p (pj w))] (.one (bn 3 1 (aS w.reverse))):=by
 have F:=oe (a:=I w) J;refine bG aid ?_;simp only[go_sem,adl,F,ae,ao];refine cD (λk q blk=>q 0=.one (.p (pj w))/\q 4=aq ((I w:Int)-1-(k:Int))/\aW 5888320384 3 1 (aS (w.reverse.take k)) (q 3) blk) 0 (I w) (bC _) ?_ ?_
 .simp only[go_sem];refine⟨aG,.inl ⟨aG,rfl⟩⟩
 rintro k q blk R ⟨x,H,r⟩
 by_cases A:k<I w
 .have L:((I w:Int)-1-(k:Int))=((I w-1-k:Nat):Int):=J;rw[L]at H;have f:(0:Int)<=((I w-1-k:Nat):Int):=J;obtain⟨v,z⟩:=bq (show I w-1-k<I w by omega);have O:=fC z;have u:IntKind.i64.wrap (((I w-1-k:Nat):Int)-1)=((I w:Int)-1-((k+1:Nat):Int)):=by
   rw[oe J];omega
  have M:w.reverse[k]?=some v:=by rw[NM A];exact z
  have E:aS (w.reverse.take (k+1))=aS (w.reverse.take k)++[[.int .i64 (v:Int)]]:=by rw[jN,M];simp
  have j:I (aS (w.reverse.take k))=k:=by simp;omega
  rcases r with⟨e,h⟩|⟨y,g,h,m⟩
  .rw[e]at E j;have T:k=0:=by simpa using j.symm
   simp only[go_sem,GJ,x,h,H,f,O,u,A,ae,ao];refine .inr ⟨by rw[E];simp,(blk 5888320384).1+1,?_,?_⟩
   .rw[E];rfl
   simp only[bj,if_true];rw[E];rfl
  rw[j]at h;have n:List.take k (aS (w.reverse.take k))=aS (w.reverse.take k):=eW J;have B:(k+1)*8<=140737488355328:=J;have D:k<=I (aS (w.reverse.take k)):=J;generalize aS (w.reverse.take k)=Q at E j m n D;simp only[go_sem,GJ,x,h,H,f,O,u,A,m,n,B,D,ae,ao];refine .inr ⟨by rw[E];simp,g+1,?_,?_⟩
  .rw[E];simp[j]
  simp only[bj,if_true];rw[E]
 have:k=I w:=J;subst this;have f:¬(0:Int)<=((I w:Int)-1-(I w:Int)):=J;have n:w.reverse.take (I w)=w.reverse:=eW aG;rw[n]at r;rcases r with⟨e,h⟩|⟨y,g,h,m⟩
 .simp only[go_sem,GJ,UA,h,H,f,ae,ao];rw[bn,aM e]
 simp only[go_sem,GJ,UA,h,H,f,ae,ao];rw[bn,aD y];exact DN m aG
abbrev dc(o:gN):dC:=o.map λp=>[PV.int .i64 (p.1:Int),PV.int .i64 (p.2:Int)]
def RK{o:gN}{k:Nat}{p:Nat×Nat}(h:o[k]?=some p):(dc o)[k]?=some [.int .i64 (p.1:Int),.int .i64 (p.2:Int)]:=by simp[h]
def ahR(w:gN)(N:I w<=1000000):aC S 91 [.one (.p (.sl (dc w)))] (.one (bn 127 2 (dc w.reverse))):=by
 have F:=oe (a:=I w) J;refine bG alV ?_;simp only[go_sem,Zr,F,ae,ao];refine cD (λk q blk=>q 0=.one (.p (.sl (dc w)))/\q 4=aq ((I w:Int)-1-(k:Int))/\aW 5824320384 127 2 (dc (w.reverse.take k)) (q 3) blk) 0 (I w) (bC _) ?_ ?_
 .simp only[go_sem];refine⟨aG,.inl ⟨aG,rfl⟩⟩
 rintro k q blk R ⟨x,H,r⟩
 by_cases A:k<I w
 .have L:((I w:Int)-1-(k:Int))=((I w-1-k:Nat):Int):=J;rw[L]at H;have f:(0:Int)<=((I w-1-k:Nat):Int):=J;obtain⟨v,z⟩:=bq (show I w-1-k<I w by omega);have O:=RK z;have u:IntKind.i64.wrap (((I w-1-k:Nat):Int)-1)=((I w:Int)-1-((k+1:Nat):Int)):=by
   rw[oe J];omega
  have M:w.reverse[k]?=some v:=by rw[NM A];exact z
  have E:dc (w.reverse.take (k+1))=dc (w.reverse.take k)++[[.int .i64 (v.1:Int),.int .i64 (v.2:Int)]]:=by rw[jN,M];simp
  have j:I (dc (w.reverse.take k))=k:=by simp;omega
  rcases r with⟨e,h⟩|⟨y,g,h,m⟩
  .rw[e]at E j;have T:k=0:=by simpa using j.symm
   simp only[go_sem,EW,x,h,H,f,O,u,A,ae,ao];refine .inr ⟨by rw[E];simp,(blk 5824320384).1+1,?_,?_⟩
   .rw[E];rfl
   simp only[bj,if_true];rw[E];rfl
  rw[j]at h;have n:List.take k (dc (w.reverse.take k))=dc (w.reverse.take k):=eW J;have B:(k+1)*16<=140737488355328:=J;have D:k<=I (dc (w.reverse.take k)):=J;generalize dc (w.reverse.take k)=Q at E j m n D;simp only[go_sem,EW,x,h,H,f,O,u,A,m,n,B,D,ae,ao];refine .inr ⟨by rw[E];simp,g+1,?_,?_⟩
  .rw[E];simp[j]
  simp only[bj,if_true];rw[E]
 have:k=I w:=J;subst this;have f:¬(0:Int)<=((I w:Int)-1-(I w:Int)):=J;have n:w.reverse.take (I w)=w.reverse:=eW aG;rw[n]at r;rcases r with⟨e,h⟩|⟨y,g,h,m⟩
 .simp only[go_sem,EW,UH,h,H,f,ae,ao];rw[bn,aM e]
 simp only[go_sem,EW,UH,h,H,f,ae,ao];rw[bn,aD y];exact DN m aG
def kz(g r to:Nat):gN:=(g,r)::(List.range (to-g)).map λi=>(g+1+i,0)
def nG(g to:Nat):aA:=(List.range (to-g)).map λi=>g+1+i
def jZ(g r k:Nat):gN:=(g,r)::(List.range k).map λi=>(g+1+i,0)
def nr(g k:Nat):aA:=(List.range k).map λi=>g+1+i
def ag6(g r k:Nat):dc (jZ g r (k+1))=dc (jZ g r k)++[[.int .i64 ((g+1+k:Nat):Int),.int .i64 0]]:=by simp[jZ,j0]
def ajH(g k:Nat):aS (nr g (k+1))=aS (nr g k)++[[.int .i64 ((g+1+k:Nat):Int)]]:=by simp[nr,j0]
def aqB(g r k:Nat)(v:V)(blk:aB):Prop:=(k=0/\ ∃e,v=.one (.hsl 8384064192 e 2 0 1)/\blk 8384064192=(e,some (.arr 127 2 (dc (jZ g r 0)))))\/
 (k≠0/\ ∃e,v=.one (.hsl 8384384256 e 2 0 (k+1))/\blk 8384384256=(e,some (.arr 127 2 (dc (jZ g r k)))))
def af4(g r to:Nat)(hg:g<=1000)(hr:r<=1000000)(ht:to<=1000):aC S 131 [aq g,aq r,aq to] (.tup [.one (.own 127 2 (dc (kz g r to))),.one (bn 3 1 (aS (nG g to)))]):=by
 have X:=bJ (n:=g) J;refine bG ahc ?_;simp only[go_sem,adi,X,ae,ao];refine cD (λk q blk=>q 2=aq to/\q 10=aq ((g+1+k:Nat):Int)/\aqB g r k (q 8) blk/\aW 8384448192 3 1 (aS (nr g k)) (q 9) blk) 0 (to-g) (bC _) ?_ ?_
 .simp only[go_sem];exact⟨.inl ⟨rfl,1,rfl,rfl⟩,.inl ⟨rfl,rfl⟩⟩
 rintro k q blk hk ⟨B,x,aa,y⟩
 by_cases O:k<to-g
 .have h:((g+1+k:Nat):Int)<=(to:Int):=J;have L:=bJ (n:=g+1+k) J;have hp:=ag6 g r k;have D:=ajH g k;rcases aa with⟨rfl,e,j,H⟩|⟨we,e,j,H⟩
  .rcases y with⟨_,f⟩|⟨A,_⟩
   .have M:I (dc (jZ g r 0))=1:=by simp[jZ]
    have T:List.take 1 (dc (jZ g r 0))=dc (jZ g r 0):=eW J;have N:1<=I (dc (jZ g r 0)):=J;generalize dc (jZ g r 0)=ps at hp H T N;simp only[go_sem,Gb,B,j,f,x,H,h,L,O,T,N,ae,ao];refine⟨.inr ⟨J,(blk 8384384256).1+1,rfl,?_⟩,.inr ⟨by simp[nr],(blk 8384448192).1+1,?_,?_⟩⟩
    .simp only[bj,if_true,reduceIte,Nat.reduceEqDiff];rw[hp]
    .rfl
    simp only[bj,if_true];rfl
   exact absurd rfl A
  rcases y with⟨E,_⟩|⟨A,F,f,z⟩
  .exact absurd E (by simp[nr];omega)
  have v:I (aS (nr g k))=k:=by simp[nr]
  have M:I (dc (jZ g r k))=k+1:=by simp[jZ]
  rw[v]at f;have T:List.take (k+1) (dc (jZ g r k))=dc (jZ g r k):=eW J;have u:List.take k (aS (nr g k))=aS (nr g k):=eW J;have r1:(k+1+1)*16<=140737488355328:=J;have Y:(k+1)*8<=140737488355328:=J;have N:k+1<=I (dc (jZ g r k)):=J;have m:k<=I (aS (nr g k)):=J;generalize dc (jZ g r k)=ps at hp H T N;generalize aS (nr g k)=fs at D z u m v A;simp only[go_sem,Gb,B,j,f,x,H,z,h,L,O,T,u,r1,Y,N,m,ae,ao];refine⟨rfl,.inr ⟨J,e+1,rfl,?_⟩,.inr ⟨by rw[D];simp,F+1,?_,?_⟩⟩
  .simp only[bj,if_true,reduceIte,Nat.reduceEqDiff];rw[hp]
  .rw[D];simp[v]
  simp only[bj,if_true];rw[D]
 have:k=to-g:=J;subst this;have h:¬((g+1+(to-g):Nat):Int)<=(to:Int):=J;have Z:kz g r to=jZ g r (to-g):=rfl;have F:nG g to=nr g (to-g):=rfl;rw[Z,F];generalize Q:to-g=bN at aa y;have M:I (dc (jZ g r bN))=bN+1:=by simp[jZ]
 have v:I (aS (nr g bN))=bN:=by simp[nr]
 rw[Q]at h x;rcases aa with⟨rfl,e,j,H⟩|⟨we,e,j,H⟩
 .rcases y with⟨R,f⟩|⟨A,_⟩
  .have T:List.take 1 (dc (jZ g r 0))=dc (jZ g r 0):=eW J;have N:1<=I (dc (jZ g r 0)):=J;rw[bn,aM R];generalize dc (jZ g r 0)=ps at H T N;simp only[go_sem,Gb,UQ,B,j,f,x,h,ae,ao];simp only[go_sem,hJ,pn,rl,lJ,kQ,iZ,H,T,N,ae,ao];rfl
  exact absurd rfl A
 rcases y with⟨E,_⟩|⟨A,e3,f,z⟩
 .exact absurd E (by simp[nr];omega)
 rw[v]at f;have T:List.take (bN+1) (dc (jZ g r bN))=dc (jZ g r bN):=eW J;have u:List.take bN (aS (nr g bN))=aS (nr g bN):=eW J;have N:bN+1<=I (dc (jZ g r bN)):=J;have m:bN<=I (aS (nr g bN)):=J;rw[bn,aD A];generalize dc (jZ g r bN)=ps at H T N;generalize aS (nr g bN)=fs at z u m;simp only[go_sem,Gb,UQ,B,j,f,x,h,ae,ao];simp only[go_sem,hJ,pn,rl,lJ,kQ,iZ,H,z,T,u,N,m,ae,ao];rfl
abbrev rI:Nat:=127
def sq (h:aI)(i:Nat):Nat:=match h[i]? with|some l=>l.gate.toNat|none=>0
def Fl (h:aI)(i:Nat):Nat:=match h[i]? with|some l=>l.aK.toNat|none=>0
def AS{i:Nat}{l:af}(H:h[i]?=some l):sq h i=l.gate.toNat:=by simp[sq,H]
def OI{i:Nat}{l:af}(H:h[i]?=some l):Fl h i=l.aK.toNat:=by simp[Fl,H]
def pN(F:Nat)(h:aI)(j:Nat):gN:=
 let u:=(aH h).getD j 0
 let v:=(aH h).getD ((j+1)%I (aH h)) 0
 if j+1<I (aH h) then kz (sq h u) (Fl h u) (sq h v)else kz (sq h u) (Fl h u) F++kz 0 0 (sq h v)
def s6(F:Nat)(h:aI)(j:Nat):aA:=
 let u:=(aH h).getD j 0
 let v:=(aH h).getD ((j+1)%I (aH h)) 0
 if j+1<I (aH h) then nG (sq h u) (sq h v)else nG (sq h u) F++nG 0 (sq h v)
def uH(a b:gN):dc (a++b)=dc a++dc b:=aG
def tC(a b:aA):aS (a++b)=aS a++aS b:=aG
def yM(g r to:Nat):I (kz g r to)=to-g+1:=by simp[kz]
def FI(g to:Nat):I (nG g to)=to-g:=by simp[nG]
def U8(g r to:Nat)(H:g<=1000)(j:r<=1000000)(f:to<=1000):aC S 131 [aq g,aq r,aq to] (.tup [.one (bn rI 2 (dc (kz g r to))),.one (bn 3 1 (aS (nG g to)))]):=by have h:=af4 g r to H j f;have e:bn rI 2 (dc (kz g r to))=.own rI 2 (dc (kz g r to)):=aD (by simp[kz]);rw[e];exact h
def EX(ok:gC F h)(m:j<I (aH h)):∃u l,(aH h)[j]?=some u/\(aH h).getD j 0=u/\h[u]?=some l/\l.aN/\pH F h l:=by obtain⟨u,H⟩:=bq m;obtain⟨l,f,g⟩:=tm.1 (bY H);exact⟨u,l,H,by rw[dT,H];rfl,f,g,ok.ax.good l (bY f) g⟩
def ajt(ok:gC F h)(hF:F<=1000)(hj:j<I (aH h)):
  aC S 90 [dQ F h,.one (.p (pj (aH h))),aq j] (.tup [.one (bn rI 2 (dc (pN F h j))),.one (bn 3 1 (aS (s6 F h j)))]):=by
 have hl:=ok.hl;have fQ:I (aH h)<=1000000:=jO (mv h (I h)) hl;have hm:=fO (j+1) (show 0<I (aH h) by omega);obtain⟨u,p,hu,du,hp,pp,gp⟩:=EX ok hj;obtain⟨v,q,hv,dv,Y,pq,E⟩:=EX ok hm;unfold pN s6;simp only[du,dv,AS hp,AS Y,OI hp];have dy:=iF hp;have B:=iF Y;have L:=fC hu;have oq:=fC hv;have N:=n_ (j+1) (I (aH h));have T:=bJ (n:=j) J;have w2:=wO (a:=I (aH h)) J J;have kh:¬((I (aH h):Int)=0):=J
 have r:=gp.g0;have zy:=gp.g1;have we:=E.g0;have cA:=E.g1;have Fx:=gp.r0;have D:=gp.r1;have Z:dY h p.gate.toNat<=I h:=ld _ _;obtain⟨pg,m⟩:=lM (show 0<=p.gate by omega);obtain⟨pr,g⟩:=lM (show 0<=p.aK by omega);obtain⟨Q,H⟩:=lM (show 0<=q.gate by omega);rw[m]at zy D Z r;rw[g]at D Fx;rw[H]at we cA;rw[m,g,H];simp only[nY]at D Z |-;refine bG amg ?_;have nW:S.lone 5760192384=false:=ah;have pG:S.lone 5760256384=false:=ah;have yp:S.lone 5760320128=false:=ah;by_cases R:j+1<I (aH h)
 .have A:(j:Int)<((I (aH h)-1:Nat):Int):=J;have ps:=U8 pg pr Q J J J;simp only[aM R];simp only[go_sem,O0,L,oq,dy,B,cW,af.ps,T,N,w2,A,kh,m,g,H,adS];refine⟨aw,?_⟩;refine HF ps nW λc e ak y x hb=>?_;simp only[go_sem];exact C2 U y x
 have A:¬(j:Int)<((I (aH h)-1:Nat):Int):=J;have ps:=U8 pg pr F J J J;have f:=U8 0 0 Q J J J;have e0:((0:Nat):Int)=0:=rfl;rw[e0]at f;simp only[aD R];simp only[go_sem,O0,L,oq,dy,B,cW,af.ps,T,N,w2,A,kh,m,g,H,adS];refine⟨aw,?_⟩;refine HF ps pG λc e bp y x ba=>?_;simp only[go_sem,ba,H];refine HF f yp λc2 e2 aV lv X M=>?_;simp only[go_sem];obtain⟨r1,mh,_⟩:=lv.elems;refine iR (y.of_eq (M _ U U)) mh lv.ao (by simp only[cT,yM];omega) λcP gh ub O=>?_;simp only[go_sem];obtain⟨r2,wE,_⟩:=(X.of_eq (O _ U U)).elems;refine iR (x.of_eq ((O _ U U).trans (M _ U U))) wE X.ao (by simp only[cT,FI];omega) λfv qb z ef=>?_
 simp only[go_sem];rw[uH,tC];exact C2 U (ub.of_eq (ef _ U U)) z
structure cM where
 dA:Bool
 aT:aA
 places:gN
 mY:aA
 outer:Bool
abbrev wi:=List cM
def cM.ps(f:cM):c_:=[.bool f.dA,.sl (aS f.aT),.sl (dc f.places),.sl (aS f.mY),.bool f.outer]
def cM.add(F:Nat)(h:aI)(f:cM)(x:Nat):cM:=
 if x<2*I h then{f with aT:=f.aT++[x]}
 else{f with places:=f.places++(if x%2=0 then pN F h ((x-2*I h)/2)else(pN F h ((x-2*I h)/2)).reverse),mY:=f.mY++(if x%2=0 then s6 F h ((x-2*I h)/2)else(s6 F h ((x-2*I h)/2)).reverse),outer:=f.outer||decide ((x-2*I h)/2+1=I (aH h))}
def cM.new(h:aI)(d:Nat):cM:=⟨dP h (d/2+1),[],[],[],false⟩
def sB(F:Nat)(h:aI)(w:aA)(k:Nat):cM:=(w.take k).foldl (cM.add F h) (cM.new h (w.headD 0))
def iP(F:Nat)(h:aI)(w:aA):cM:=w.foldl (cM.add F h) (cM.new h (w.headD 0))
def cZ(F:Nat)(h:aI):wi:=(fW (bZ h) (bH h)).map (iP F h)
def MZ(F:Nat)(h:aI)(w:aA):sB F h w (I w)=iP F h w:=by unfold sB iP;rw[iV]
def SH{w:aA}{k:Nat}(H:w[k]?=some x):sB F h w (k+1)=(sB F h w k).add F h x:=by unfold sB;rw[jN,H,yq];rfl
def EP(ok:gC F h)(f:j<I (aH h)):sq h ((aH h).getD j 0)<=F:=by obtain⟨u,l,_,D,hl,_,H⟩:=EX ok f;rw[D,AS hl];have:=H.g1;have:=H.g0;omega
def JC(ok:gC F h)(H:j<I (aH h)):I (pN F h j)<=2*F+2:=by have f:=EP ok H;have g:=EP ok (fO (j+1) (show 0<I (aH h) by omega));unfold pN;simp only;split<;>simp only[ep,yM]<;>omega
def J1(ok:gC F h)(H:j<I (aH h)):I (s6 F h j)<=2*F+2:=by have f:=EP ok H;have g:=EP ok (fO (j+1) (show 0<I (aH h) by omega));unfold s6;simp only;split<;>simp only[ep,FI]<;>omega
def Jy(ok:gC F h){w:aA}(g:∀x∈w,x<bH h):∀k,k<=I w->(sB F h w k).aT.length<=k/\(sB F h w k).places.length<=k*(2*F+2)/\(sB F h w k).mY.length<=k*(2*F+2):=by
 intro k
 induction k with
 |zero=>intro _;exact⟨cH _,bC _,bC _⟩
 |succ k j=>
  intro n;obtain⟨x,H⟩:=bq (show k<I w by omega);obtain⟨i1,i2,i3⟩:=j J;have T:=g x (bY H);rw[SH H,Nat.succ_mul];unfold cM.add;by_cases m:x<2*I h
  .rw[aM m];simp only[ep,dE,eR];exact⟨J,J,J⟩
  rw[aD m];have f:(x-2*I h)/2<I (aH h):=by unfold bH at T;omega
  have L:=JC ok f;have q:=J1 ok f;refine⟨by simp only;omega,?_,?_⟩
  .simp only[ep];split<;>(try rw[j5])<;>omega
  simp only[ep];split<;>(try rw[j5])<;>omega
def ajk(next:Nat->Nat):∀(k x:Nat) (S:eo),∀y∈(eZ next k x S).1,y<I S:=by
 intro k
 induction k with
 |zero=>intro x S y h;simp[eZ]at h
 |succ k g=>
  intro x S y h;unfold eZ at h;cases aa:S.getD x true with
  |true=>rw[aa]at h;simp at h
  |false=>
   rw[aa]at h;have f:x<I S:=by
    rcases DE x (I S) with H|H
    .exact H
    rw[dT,o6 H]at aa;cases aa
   simp only[ib,if_false,dL]at h;rcases h with rfl|h
   .exact f
   have:=g _ _ y h
   simpa using this
def apo(next:Nat->Nat):∀(k x:Nat) (S:eo),(eZ next k x S).1.length<=tR S:=by
 intro k
 induction k with
 |zero=>intro x S;simp[eZ]
 |succ k f=>
  intro x S;unfold eZ;cases aa:S.getD x true with
  |true=>simp
  |false=>
   have F:S[x]?=some false:=by
    rw[dT]at aa;cases h:S[x]? with
    |none=>rw[h]at aa;cases aa
    |some b=>rw[h]at aa;exact congrArg some aa
   have B:=HW F;have:=f (next x) (S.set x true);simp only[ib,if_false,dE];omega
def abb(next:Nat->Nat){k:Nat}{S:eo}(h:S.getD x true=false):∃t,(eZ next (k+1) x S).1=x::t:=by unfold eZ;rw[h];exact⟨_,rfl⟩
def aln(next:Nat->Nat)(N:Nat):∀k,∀w∈(dN next N k).1,(∃d t,w=d::t/\d<k)/\I w<=N/\ ∀y∈w,y<N:=by
 intro k
 induction k with
 |zero=>intro w h;simp[dN]at h
 |succ k q=>
  intro w h;rw[s_]at h;unfold qX at h;have f:=Ce next N k;have O:w∈(dN next N k).1->(∃d t,w=d::t/\d<k+1)/\I w<=N/\ ∀y∈w,y<N:=λh=>by obtain⟨⟨d,t,H,g⟩,n⟩:=q w h;exact⟨⟨d,t,H,J⟩,n⟩
  cases aa:(dN next N k).2.getD k true with
  |true=>simp only[aa,if_true]at h;exact O h
  |false=>
   simp only[aa,ib,if_false,fB,pA]at h;rcases h with h|rfl
   .exact O h
   obtain⟨t,m⟩:=abb next (k:=(dN next N k).2.length) aa;refine⟨⟨k,t,m,J⟩,?_,λy j=>?_⟩
   .have H:=apo next ((dN next N k).2.length+1) k (dN next N k).2;have g:=EK (dN next N k).2;omega
   have:=ajk next _ _ _ y j;omega
def yS(ok:gC F h):∀w∈fW (bZ h) (bH h),(∃d t,w=d::t/\d<2*I h)/\I w<=bH h/\ ∀y∈w,y<bH h:=by intro w H;unfold fW at H;rw[Sm (xy ok) (bH h) (by unfold bH;omega) (cH _)]at H;exact aln (bZ h) (bH h) _ w H
end
end Go.Abs
