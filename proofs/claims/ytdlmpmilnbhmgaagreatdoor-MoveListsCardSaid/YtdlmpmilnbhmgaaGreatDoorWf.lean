/- A part. -/
import Derived.Test.YtdlmpmilnbhmgaaGreatDoorWe
set_option linter.all false
open List renaming length->I
set_option maxRecDepth 100000
set_option maxHeartbeats 16000000
namespace Go.Abs
variable{f m:Nat}{x y z:PV}
section
variable{g:aI}{F j:Nat}
abbrev dz(o:cS):dC:=o.map λn=>[PV.int .i64 n]
def sQ{o:cS}{k:Nat}{v:Int}(h:o[k]?=some v):(dz o)[k]?=some [.int .i64 v]:=by simp[h]
def mA(o:cS)(x:Int)(i:Nat):Bool:=match o[i]? with|some y=>y==x|none=>false
def ahl(o:cS)(x:Int)(hl:I o<=1000000):aC S 197 [.one (.p (.sl (dz o))),aq x] (fy (match (List.range (I o)).find? (mA o x)with|some k=>(k:Int)|none=> -1)):=by
 refine bG akT ?_;simp only[go_sem,adG,ae,ao];refine cD (λk A blk=>A 0=.one (.p (.sl (dz o)))/\A 1=aq x/\A 7=aq (I o)/\A 8=aq k/\ ∀j,j<k->mA o x j=false) 0 (I o) (bC _) ?_ ?_
 .simp only[go_sem];exact⟨rfl,λj v=>absurd v (l_ j)⟩
 rintro k A blk O ⟨r,F,z,q,u⟩
 by_cases f:k<I o
 .have D:((k:Int)<(I o:Int)):=J;obtain⟨y,B⟩:=bq f;have E:=sQ B;have N:=bJ (n:=k) J;have m:mA o x k=(y==x):=by simp[mA,B]
  cases H:(y==x)with
  |true=>
   have L:(x==y):=by have:=c6.1 H;simp[this]
   rw[H]at m;have g:=wR (p:=mA o x) f u m;simp only[go_sem,M9,r,F,z,q,f,D,E,H,L,g,ae,ao];first|done|exact aw|rfl
  |false=>
   have L:(x==y)=false:=by
    have:¬y=x:=by simpa using H
    simp;exactλh=>this h.symm
   rw[H]at m;have M:∀j,j<k+1->mA o x j=false:=λj v=>by
    rcases jG.1 v with h|rfl
    .exact u j h
    exact m
   simp only[go_sem,M9,r,F,z,q,f,D,E,H,L,N,ae,ao];first|exact M|exact⟨aw,M⟩
 have:k=I o:=J;subst this;have g:=Ek (p:=mA o x) u;simp only[go_sem,M9,adr,r,z,q,dF,g,ae,ao]
def aou(o:cS)(x:Int)(hl:I o<=1000000):aC S 163 [.one (.p (.sl (dz o))),aq x] (bK (o.contains x)):=by
 have f:=ahl o x hl;refine bG aiy ?_;cases q:o.contains x with
 |true=>
  have m:x∈o:=by simpa using q
  obtain⟨k,r⟩:=iA m;have D:=(ct.1 r).1;cases h:(List.range (I o)).find? (mA o x)with
  |none=>have:=zf.1 h k (f_.2 D);simp[mA,r]at this
  |some j=>rw[h]at f;have n:(0:Int)<=(j:Int):=J;simp only[go_sem,R3,aaC,dj f,n,ae,ao]
 |false=>
  have m:x∉o:=by simpa using q
  cases h:(List.range (I o)).find? (mA o x)with
  |some j=>
   have H:=EG h;unfold mA at H;cases g:o[j]? with
   |none=>rw[g]at H;cases H
   |some y=>
    rw[g]at H;have:y=x:=by simpa using H
    subst this;exact absurd (bY g) m
  |none=>rw[h]at f;have n:¬(0:Int)<= -1:=U;simp only[go_sem,R3,aaC,dj f,n,ae,ao]
def qJ(ids:cS)(_:Nat)(p:aZ):Bool:=(p.l.kind==2)&&ids.contains p.l.id
def aqO(ids:cS)(hl:I ids<=1000000)(k:Nat)(p:aZ):aC S 162 [aq k,.agg (p.ps.map .p),.one (.p (.box [.sl (dz ids)]))] (bK (qJ ids k p)):=by
 have pc:=aou ids p.l.id hl;refine bG amv ?_;unfold qJ;cases h:(p.l.kind==2)with
 |true=>simp only[go_sem,Sk,aZ.ps,h,asi,ai pc,ae,ao]
 |false=>simp only[go_sem,Sk,aZ.ps,h,ae,ao]
def iY(ids:cS)(k:Nat)(p:aZ):aZ:={p with l:={p.l with id:=p.l.id-((ids.take k).countP (λi=>decide (i<p.l.id)):Nat)}}
def p_(ids:cS)(p:aZ):aZ:=if p.l.kind==2 then iY ids (I ids) p else p
abbrev zm(l:cO)(ids:cS):cO:=(nZ l (qJ ids)).map (p_ ids)
abbrev qd(ids:cS)(l:cO)(k:Nat):cO:=(l.take k).map (p_ ids)++l.drop k
def aaW{ids:cS}{l:cO}{k:Nat}{p:aZ}(h:l[k]?=some p):(qd ids l k)[k]?=some p:=by have H:=(ct.1 h).1;rw[qd,wM (by rw[cT,iU];omega),cT,iU,y_ J,M1,BD];exact h
def ap9(ids:cS)(l:cO)(k:Nat):I (qd ids l k)=I l:=by rw[qd,ep,cT,iU,BO];omega
def aeq{ids:cS}{l:cO}{k:Nat}{p:aZ}(h:l[k]?=some p):(qd ids l k).set k (p_ ids p)=qd ids l (k+1):=by
 have g:=(ct.1 h).1;have H:l.drop k=p::l.drop (k+1):=by obtain⟨f,rfl⟩:=ct.1 h;exact Ly f
 have E:I ((l.take k).map (p_ ids))=k:=by rw[cT,iU];omega
 rw[qd,List.set_append_right _ _ J,E,M1,H,Tr,qd,jN,h];simp
def vb(o:cO)(k:Nat)(p:aZ):(bX o).set k p.ps=bX (o.set k p):=by simp[tK]
def aan(l:cO)(ids:cS)(hl:I l<=1000000)(hi:I ids<=1000)(hb:∀p∈l,-1000000<=p.l.id/\p.l.id<=1000000):
  aC S 114 [.one (.p (.sl (bX l))),.one (.p (.sl (dz ids)))] (.one (bn h_ 7 (bX (zm l ids)))):=by
 have pw:=aeb l hl (f:=162) (x:=.box [.sl (dz ids)]) rfl ajc (qJ ids) (λk p _=>aqO ids J k p);have lo:S.lone 7296064128=false:=ah;have ya:∀p∈nZ l (qJ ids),-1000000<=p.l.id/\p.l.id<=1000000:=λp hp=>hb p (OM hp);have dq:I (nZ l (qJ ids))<=1000000:=jO (EA _ _ _) hl;refine bG alv ?_;simp only[go_sem,aax,U4];refine ke pw lo (.inr (ff (gb _))) λcc ky gc fR=>?_;have z3:=fR 7296000000 U;simp only[go_sem]at z3;unfold zm;generalize nZ l (qJ ids)=m at gc ya dq;rcases gc with⟨e,e2⟩|⟨aY,u,e2,hC⟩
 .cases e2;have:m=[]:=by simpa using e
  subst this;have hz:¬(((0:Nat):Int)<((0:Nat):Int)):=J;simp only[go_sem];refine cD (λk A blk=>k=0/\A 5=.one (.p .nils)/\A 14=aq ((0:Nat):Int)/\A 15=aq ((0:Nat):Int)) 0 0 (cH _) ?_ ?_
  .simp only[go_sem];exact rfl
  rintro k A blk _ ⟨rfl,D,Q,z⟩
  simp only[go_sem,Gq,Sv,D,Q,z,hz];rfl
 cases e2;simp only[go_sem];refine cD (λk A blk=>A 3=.one (.bg 7296000000 1 0)/\blk 7296000000=(1,some (.var [.p (.sl (dz ids))]))/\A 5=.one (.hsl 7296064128 u 7 0 (I m))/\A 13=.one (.hsl 7296064128 u 7 0 (I m))/\A 14=aq (I m)/\A 15=aq k/\blk 7296064128=(u,some (.arr h_ 7 (bX (qd ids m k))))) 0 (I m) (bC _) ?_ ?_
 .simp only[go_sem,z3,hC];refine⟨rfl,?_⟩;simp[qd]
 rintro k A blk hk ⟨R,bI,D,j8,Q,z,B⟩
 by_cases M:k<I m
 .have aL:((k:Int)<(I m:Int)):=J;obtain⟨p,hp⟩:=bq M;have O:=gO (aaW (ids:=ids) hp);have w1:=bJ (n:=k) J;have IM:=ap9 ids m k;have T:=aeq (ids:=ids) hp;have Bf:k<I (qd ids m k):=J;cases Z:(p.l.kind==2)with
  |false=>
   have n1:(p.l.kind !=2):=by simp[bne,Z]
   have Bn:qd ids m (k+1)=qd ids m k:=by
    rw[<-T];have e:p_ ids p=p:=by unfold p_;rw[Z];rfl
    rw[e];obtain⟨hh,he⟩:=ct.1 (aaW (ids:=ids) hp);rw[<-he,TX]
   simp only[go_sem,Gq,PR,R,bI,D,j8,Q,z,B,M,aL,Bf,O,aZ.ps,n1,w1,Bn]
  |true=>
   have n1:(p.l.kind !=2)=false:=by simp[bne,Z]
   have ad:=ya p (bY hp);have qR:p_ ids p=iY ids (I ids) p:=by unfold p_;rw[Z];rfl
   rw[qR]at T;generalize qd ids m k=q at O IM T Bf B;have q0:q.set k (iY ids 0 p)=q:=by
    have:iY ids 0 p=p:=by unfold iY;simp
    rw[this];have h1:q[k]?=some p:=by
     have H:(bX q)[k]?=some p.ps:=O;rw[gZ]at H;cases hq:q[k]? with
     |none=>rw[hq]at H;cases H
     |some x=>rw[hq]at H;simp[aZ.ps]at H;obtain⟨⟨a,b,c,d,e,f⟩,g⟩:=x;obtain⟨⟨a',b',c',d',e',f'⟩,g'⟩:=p;simp at H;obtain⟨rfl,rfl,rfl,rfl,rfl,rfl,rfl⟩:=H;rfl
    obtain⟨hh,he⟩:=ct.1 h1;rw[<-he,TX]
   simp only[go_sem,Gq,R,bI,D,j8,Q,z,B,M,aL,Bf,O,aZ.ps,n1];refine cD (λj h N=>h 3=.one (.bg 7296000000 1 0)/\N 7296000000=(1,some (.var [.p (.sl (dz ids))]))/\h 5=.one (.hsl 7296064128 u 7 0 (I m))/\h 13=.one (.hsl 7296064128 u 7 0 (I m))/\h 14=aq (I m)/\h 15=aq k/\h 6=aq k/\h 24=.one (.p (.sl (dz ids)))/\h 25=aq (I ids)/\h 26=aq j/\
    (∃F,h 7=.one (.bg 7296256192 F 0)/\N 7296256192=(F,some (.var (p.ps.map .p))))/\N 7296064128=(u,some (.arr h_ 7 (bX (q.set k (iY ids j p)))))) 0 (I ids) (bC _) ?_ ?_
   .simp only[go_sem,R,bI,D,j8,Q,z,B,q0];first|exact⟨rfl,_,⟨rfl,rfl⟩,rfl⟩|exact⟨rfl,⟨_,rfl,rfl⟩⟩|exact⟨_,rfl,rfl⟩|exact⟨⟨_,rfl,rfl⟩,rfl⟩|exact⟨rfl,⟨_,rfl,rfl⟩,rfl⟩|trace_state
   rintro j h N hj ⟨p3,cI,p5,v,jD,wW,p6,E,y,r,⟨F,p7,uX⟩,Y⟩
   by_cases nQ:j<I ids
   .have CW:((j:Int)<(I ids:Int)):=J;obtain⟨d,hd⟩:=bq nQ;have rX:=sQ hd;have w2:=bJ (n:=j) J;have CM:(ids.take (j+1)).countP (λi=>decide (i<p.l.id))=(ids.take j).countP (λi=>decide (i<p.l.id))+if d<p.l.id then 1 else 0:=by
     rw[jN,hd,Hq];simp[sO,List.countP_nil]
    have dt:(ids.take j).countP (λi=>decide (i<p.l.id))<=j:=jO Fu (by rw[iU];omega);have ab:(bX (q.set k (iY ids j p)))[k]?=some (iY ids j p).ps:=gO (by rw[lC,aM rfl,aM J]);have yd:k<I (q.set k (iY ids j p)):=by rw[jc];omega
    by_cases X:d<p.l.id
    .have L:(iY ids j p).l.id-1=(iY ids (j+1) p).l.id:=by
      unfold iY;simp only;rw[CM,aM X];omega
     have w3:IntKind.i64.wrap ((iY ids j p).l.id-1)=(iY ids (j+1) p).l.id:=by rw[<-L];exact j_ (by unfold iY;simp only;omega) (by unfold iY;simp only;omega)
     have dd:((iY ids (j+1) p).ps)=[.int .i64 (iY ids j p).l.kind,.int .i64 (iY ids j p).l.gate,.int .i64 (iY ids j p).l.aK,.int .i64 (iY ids (j+1) p).l.id,.int .i64 (iY ids j p).l.sign,.bool (iY ids j p).l.over,.bool (iY ids j p).d]:=rfl;have YO:(bX (q.set k (iY ids j p))).set k (iY ids (j+1) p).ps=bX (q.set k (iY ids (j+1) p)):=by rw[vb,List.set_set]
     rw[dd]at YO;generalize iY ids j p=x at*;simp only[go_sem,Je,p3,cI,p5,v,jD,wW,p6,E,y,r,p7,uX,Y,M,nQ,CW,rX,X,ab,yd,aZ.ps,w2,w3,YO];exact⟨F,rfl,rfl⟩
    have L:iY ids (j+1) p=iY ids j p:=by unfold iY;rw[CM,aD X];simp
    simp only[go_sem,Je,p3,cI,p5,v,jD,wW,p6,E,y,r,p7,uX,Y,nQ,CW,rX,X,aZ.ps,w2,L];exact⟨F,rfl,rfl⟩
   have:j=I ids:=J;subst this;rw[T]at Y;simp only[go_sem,Je,PR,p3,cI,p5,v,jD,wW,r,y,Y,dF,w1,M]
 have:k=I m:=J;subst this;have L:qd ids m (I m)=m.map (p_ ids):=by rw[qd,iV,List.drop_length,jE]
 rw[L]at B;simp only[go_sem,Gq,Sv,R,D,j8,Q,z,dF];have kW:m.map (p_ ids)≠[]:=by simpa using aY
 exact nV (.inr ⟨by simpa using kW,u,aG,B⟩)
def ch.ids(f:ch F g):Vs g/\He g:=by have h:=f.ok.cr;unfold lA at h;simp only[cq]at h;exact FW.1 λk H=>gL.1 h.1.2 k (f_.2 H)
def Sg{p:aZ}(h:p∈a_ g):∃(i:Nat) (l:af),g[i]?=some l/\p=⟨l,rB g i⟩:=by
 obtain⟨i,H⟩:=iA h;have D:i<I g:=by rw[<-bR];exact(ct.1 H).1
 obtain⟨l,hl⟩:=bq D;rw[vl hl]at H;cases H;exact⟨i,l,hl,rfl⟩
def adb(j:ch F g):∀p∈a_ g,-1000000<=p.l.id/\p.l.id<=1000000:=by
 intro p hp;obtain⟨i,l,hl,rfl⟩:=Sg hp;have H:=bY hl;rcases j.ok.kinds l H with h|h
 .have:=(Ao (f:=(F:Int)) h).1 (j.bad l H);simp only[this.1.1.2];omega
 have m:=j.ids.1 l H h;have:=j.cr;simp only;omega
def BG(g:aI)(j:Nat):Option cO:=
 let p:=(a_ g).getD j ⟨nv,false⟩
 let q:=(a_ g).getD ((j+1)%I g) ⟨nv,false⟩
 if(p.l.kind==2)&&((q.l.kind==2)&&(p.l.id==q.l.id))then some (zm (a_ g) [p.l.id])else none
def aoV(E:ch F g)(h:j<I g){k b c:Int}{l o:Bool}{aP:Int}:
  aC S 77 [.one (.p (df F g)),dp k j b c l o aP] (pZ (BG g j)):=by
 have v:=E.len;have B:=bR g;have m:=xG E h;have H:=fO (j+1) (show 0<I g by omega);obtain⟨p,hp⟩:=bq (h:=a_ g) (k:=j) J;obtain⟨q,x⟩:=bq (h:=a_ g) (k:=(j+1)%I g) J;have f:=gO hp;have L:=gO x;have M:S.lone 4928256896=false:=ah;unfold BG;simp only[dT,hp,x,jV];refine bG aqQ ?_;cases y:(p.l.kind==2)with
 |false=>
  have n:(p.l.kind !=2):=by simp[bne,y]
  simp only[go_sem,FO,dB,bl m bQ,f,L,aZ.ps,B,h,H,n];exact⟨aw,rfl⟩
 |true=>
 have n:(p.l.kind !=2)=false:=by simp[bne,y]
 cases u:(q.l.kind==2)with
 |false=>
  have N:(q.l.kind !=2):=by simp[bne,u]
  simp only[go_sem,FO,dB,bl m bQ,f,L,aZ.ps,B,h,H,n,N];exact⟨aw,rfl⟩
 |true=>
 have N:(q.l.kind !=2)=false:=by simp[bne,u]
 cases cP:(p.l.id==q.l.id)with
 |false=>
  have r:(p.l.id !=q.l.id):=by simp[bne,cP]
  simp only[go_sem,FO,dB,bl m bQ,f,L,aZ.ps,B,h,H,n,N,r];exact⟨aw,rfl⟩
 |true=>
 have r:(p.l.id !=q.l.id)=false:=by simp[bne,cP]
 have D:=aan (a_ g) [p.l.id] J aG (adb E);simp only[go_sem,FO,dB,bl m bQ,f,L,aZ.ps,B,h,H,n,N,r,fm];refine⟨aw,?_⟩;refine iN D M (.inr (ff (gb _))) λO R w A Q z=>?_;simp only[go_sem];refine⟨?_,iW A⟩;rcases z with rfl|rfl<;>kernel_rfl
abbrev aQ(ls:aI)(i:Nat):aZ:=(a_ ls).getD i ⟨nv,false⟩
def nI{i:Nat}{p:aZ}(h:(a_ g)[i]?=some p):aQ g i=p:=by simp[aQ,dT,h]
abbrev bt(ls:aI)(e:Nat):Nat:=(e+1)%I ls
def iz(g:aI)(e:Nat)(O:Bool):Bool:=((aQ g e).l.kind==2)&&(((aQ g (bt g e)).l.kind==2)&&(((aQ g e).l.over==O)&&((aQ g (bt g e)).l.over==O)))
def DL(v:ch F g){e:Nat}(h:e<I g)(O:Bool):aC S 116 [.one (.p (df F g)),aq e,kN O] (bK (iz g e O)):=by
 have u:=v.len;have B:=bR g;have j:=xG v h;have H:=fO (e+1) (show 0<I g by omega);obtain⟨p,hp⟩:=bq (h:=a_ g) (k:=e) J;obtain⟨q,r⟩:=bq (h:=a_ g) (k:=(e+1)%I g) J;have f:=gO hp;have L:=gO r;unfold iz;rw[nI hp,nI r];refine bG arn ?_;cases m:(p.l.kind==2)with
 |false=>simp only[go_sem,En,dB,bl j bQ,f,L,aZ.ps,B,h,H,m]
 |true=>
 cases n:(q.l.kind==2)with
 |false=>simp only[go_sem,En,dB,bl j bQ,f,L,aZ.ps,B,h,H,m,n]
 |true=>
 cases cP:(p.l.over==O)with
 |false=>simp only[go_sem,En,dB,bl j bQ,f,L,aZ.ps,B,h,H,m,n,cP]
 |true=>
 cases fv:(q.l.over==O)with
 |false=>simp only[go_sem,En,dB,bl j bQ,f,L,aZ.ps,B,h,H,m,n,cP,fv]
 |true=>simp only[go_sem,En,dB,bl j bQ,f,L,aZ.ps,B,h,H,m,n,cP,fv]
def eE(g:aI)(e:Nat):Nat×Nat×Bool:=if(aQ g e).l.kind==2 then(bt g e,e,(aQ g (bt g e)).l.kind==1)else(e,bt g e,((aQ g e).l.kind==1)&&((aQ g (bt g e)).l.kind==2))
abbrev X7(a b c:PV):RV:=.tup [.one (.p a),.one (.p b),.one (.p c)]
def tT{blk:aB}{s:Nat}{a b c:PV}{l:Bool}:d_ blk [] s ((X7 a b c).eU l)=some (.tup [.one (.p a),.one (.p b),.one (.p c)],[]):=by cases l<;>rfl
def aad(v:ch F g){e:Nat}(h:e<I g):aC S 112 [.one (.p (df F g)),aq e] (X7 (.int .i64 ((eE g e).1:Nat)) (.int .i64 ((eE g e).2.1:Nat)) (.bool (eE g e).2.2)):=by
 have u:=v.len;have B:=bR g;have n:=xG v h;have H:=fO (e+1) (show 0<I g by omega);obtain⟨p,hp⟩:=bq (h:=a_ g) (k:=e) J;obtain⟨q,r⟩:=bq (h:=a_ g) (k:=(e+1)%I g) J;have m:=gO hp;have L:=gO r;unfold eE;rw[nI hp,nI r];refine bG aew ?_;cases j:(p.l.kind==2)with
 |true=>
  have E:p.l.kind=2:=by simpa using j
  rw[aM rfl];cases f:(q.l.kind==1)with
  |true=>simp only[go_sem,EC,dB,bl n bQ,m,L,aZ.ps,B,h,H,j,f];exact⟨aw,rfl⟩
  |false=>simp only[go_sem,EC,dB,bl n bQ,m,L,aZ.ps,B,h,H,j,f];exact⟨aw,rfl⟩
 |false=>
  rw[aD U];cases f:(p.l.kind==1)with
  |true=>
   cases cP:(q.l.kind==2)with
   |true=>simp only[go_sem,EC,dB,bl n bQ,m,L,aZ.ps,B,h,H,j,f,cP];exact⟨aw,rfl⟩
   |false=>simp only[go_sem,EC,dB,bl n bQ,m,L,aZ.ps,B,h,H,j,f,cP];exact⟨aw,rfl⟩
  |false=>simp only[go_sem,EC,dB,bl n bQ,m,L,aZ.ps,B,h,H,j,f];exact⟨aw,rfl⟩
def vz(o:aA)(pr:Nat->Bool)(i:Nat):Bool:=match o[i]? with|some v=>pr v|none=>false
def aoz(o:aA)(hl:I o<=1000000)(hn:x.norm=x/\y.norm=y/\z.norm=z)(T:S.shared f=false)(pr:Nat->Bool)(Y:∀v∈o,aC S f [aq (v:Nat),.one (.p x),.one (.p y),.one (.p z)] (bK (pr v))):
  aC S 196 [.one (.p (.sl (aS o))),.one (.p (.fn f [] [x,y,z]))] (fy (match (List.range (I o)).find? (vz o pr)with|some k=>(k:Int)|none=> -1)):=by
 obtain⟨D,F,r⟩:=hn;refine bG amn ?_;simp only[go_sem,adR,D,F,r,ae,ao];refine cD (λk A blk=>A 0=.one (.p (.sl (aS o)))/\A 1=.one (.p (.fn f [] [x,y,z]))/\A 7=aq (I o)/\A 8=aq k/\ ∀j,j<k->vz o pr j=false) 0 (I o) (bC _) ?_ ?_
 .simp only[go_sem];exact⟨rfl,λj M=>absurd M (l_ j)⟩
 rintro k A blk hk ⟨H,u,B,L,O⟩
 by_cases q:k<I o
 .have R:((k:Int)<(I o:Int)):=J;obtain⟨v,N⟩:=bq q;have X:=fC N;have Z:=bJ (n:=k) J;have g:=Y v (bY N);have m:vz o pr k=pr v:=by simp[vz,N]
  cases Q:pr v with
  |true=>rw[Q]at g m;have E:=wR (p:=vz o pr) q O m;simp only[go_sem,JE,H,u,B,L,q,R,X,T,D,F,r,ai g,E,ae,ao]
  |false=>
   rw[Q]at g m;simp only[go_sem,JE,H,u,B,L,q,R,X,T,D,F,r,ai g,Z,ae,ao];intro j M;rcases jG.1 M with h|rfl
   .exact O j h
   exact m
 have:k=I o:=J;subst this;have E:=Ek (p:=vz o pr) O;simp only[go_sem,JE,Yf,H,u,B,L,dF,E,ae,ao]
def aiF(o:aA)(hl:I o<=1000000)(r:x.norm=x/\y.norm=y/\z.norm=z)(E:S.shared f=false)(pr:Nat->Bool)(B:∀v∈o,aC S f [aq (v:Nat),.one (.p x),.one (.p y),.one (.p z)] (bK (pr v))):
  aC S 160 [.one (.p (.sl (aS o))),.one (.p (.fn f [] [x,y,z]))] (bK (o.any pr)):=by
 have g:=aoz o hl r E pr B;obtain⟨D,F,q⟩:=r;refine bG ahh ?_;cases A:o.any pr with
 |true=>
  obtain⟨v,L,hp⟩:=Ad.1 A;obtain⟨k,u⟩:=iA L;have M:=(ct.1 u).1;cases h:(List.range (I o)).find? (vz o pr)with
  |none=>have:=zf.1 h k (f_.2 M);simp[vz,u,hp]at this
  |some j=>rw[h]at g;have n:(0:Int)<=(j:Int):=J;simp only[go_sem,RM,abj,D,F,q,dj g,n,ae,ao]
 |false=>
  cases h:(List.range (I o)).find? (vz o pr)with
  |some j=>
   have H:=EG h;unfold vz at H;cases m:o[j]? with
   |none=>rw[m]at H;cases H
   |some v=>rw[m]at H;have:=xM.1 A v (bY m);exact absurd H this
  |none=>rw[h]at g;have n:¬(0:Int)<= -1:=U;simp only[go_sem,RM,abj,D,F,q,dj g,n,ae,ao]
def rR(f:cM)(e:Nat):Nat:=f.aT.countP λd=>d/2==e
def tG(f:cM)(g:Nat)(E:aA):Bool:=(I f.aT==I E)&&((I f.places==g)&&E.all λe=>rR f e==1)
def aa7(ak:ch F g){j:Nat}{f:cM}(T:(cZ F g)[j]?=some f)(E:aA)(he:I E<=1000)(y:Nat):
  aC S 161 [aq j,.one (.p (.box [df F g])),.one (.p (.box [.sl (aS E)])),.one (.p (.box [.int .i64 y]))] (bK (tG f y E)):=by
 have ag:=ak.len;have fQ:I (aH g)<=I g:=mv g (I g);have og:=DT ak.ok (bY T);have fD:bH g<=1600:=by unfold bH;omega
 have Z:=BP T;have jm:=(ct.1 T).1;refine bG afw ?_;unfold tG;cases c1:(I f.aT==I E)with
 |false=>
  have X:(((I f.aT:Nat):Int)!=((I E:Nat):Int)):=by
   have:¬I f.aT=I E:=by simpa using c1
   simp[bne];omega
  simp only[go_sem,LQ,Z,cM.ps,jm,X,ae,ao]
 |true=>
 have X:(((I f.aT:Nat):Int)!=((I E:Nat):Int))=false:=by
  have:I f.aT=I E:=by simpa using c1
  simp[bne,this]
 cases c2:(I f.places==y)with
 |false=>
  have n2:(((I f.places:Nat):Int)!=((y:Nat):Int)):=by
   have:¬I f.places=y:=by simpa using c2
   simp[bne];omega
  simp only[go_sem,LQ,Z,cM.ps,jm,X,n2,ae,ao]
 |true=>
 have n2:(((I f.places:Nat):Int)!=((y:Nat):Int))=false:=by
  have:I f.places=y:=by simpa using c2
  simp[bne,this]
 simp only[go_sem,LQ,Z,cM.ps,jm,X,n2,ae,ao];refine cD (λk A blk=>A 6=.one (.bg 10304064448 1 0)/\blk 10304064448=(1,some (.var (f.ps.map .p)))/\A 32=.one (.p (.sl (aS E)))/\A 33=aq (I E)/\A 34=aq k/\ ∀i e,i<k->E[i]?=some e->(rR f e==1)) 0 (I E) (bC _) ?_ ?_
 .simp only[go_sem,cM.ps];first|exact⟨rfl,λi e H=>absurd H (l_ i)⟩|exact⟨rfl,rfl,λi e H=>absurd H (l_ i)⟩|exactλi e H=>absurd H (l_ i)
 rintro k A blk hk ⟨h6,b6,H9,tV,Ia,ay⟩
 simp only[cM.ps,ew,jn]at b6;by_cases au:k<I E
 .have aL:((k:Int)<(I E:Int)):=J;obtain⟨e,x⟩:=bq au;have Iu:=fC x;have w1:=bJ (n:=k) J;simp only[go_sem,OX,h6,b6,H9,tV,Ia,au,aL,Iu,ae,ao];refine cD (λi m aV=>m 6=.one (.bg 10304064448 1 0)/\aV 10304064448=(1,some (.var (f.ps.map .p)))/\m 32=.one (.p (.sl (aS E)))/\m 33=aq (I E)/\m 34=aq k/\m 8=aq e/\m 9=aq ((f.aT.take i).countP λd=>d/2==e:Nat)/\m 39=.one (.p (.sl (aS f.aT)))/\m 40=aq (I f.aT)/\m 41=aq i) 0 (I f.aT) (bC _) ?_ ?_
  .simp only[go_sem,h6,b6,H9,tV,Ia,cM.ps];first|exact⟨rfl,rfl⟩|exact rfl|exact⟨rfl,rfl,rfl⟩
  rintro i m aV H ⟨M,D,u,v,N,R,z,r,L,q⟩
  by_cases r4:i<I f.aT
  .have YG:((i:Int)<(I f.aT:Int)):=J;obtain⟨d,hd⟩:=bq r4;have rX:=fC hd;have w2:=bJ (n:=i) J;have wq:=wrap_small (n:=d/2) (by have:=Ue (bY T) d (bY hd);omega);have dt:(f.aT.take i).countP (λd=>d/2==e)<=i:=jO Fu (by rw[iU];omega);have w3:=bJ (n:=(f.aT.take i).countP λd=>d/2==e) J;have B:(f.aT.take (i+1)).countP (λd=>d/2==e)=(f.aT.take i).countP (λd=>d/2==e)+if(d/2==e)=true then 1 else 0:=by
    rw[jN,hd,Hq];simp[sO,List.countP_nil]
   cases O:(d/2==e)with
   |true=>
    have n3:(((d/2:Nat):Int)==(e:Int)):=by
     have:d/2=e:=by simpa using O
     simp;omega
    rw[O,aM rfl]at B;simp only[go_sem,F4,M,u,v,N,R,z,r,L,q,r4,YG,rX,de,dZ,wq,n3,w2,w3,B,ae,ao];first|exact D|exact⟨D,rfl⟩
   |false=>
    have n3:(((d/2:Nat):Int)==(e:Int))=false:=by
     have:¬d/2=e:=by simpa using O
     simp;omega
    rw[O,aD U,w4]at B;simp only[go_sem,F4,M,u,v,N,R,z,r,L,q,r4,YG,rX,de,dZ,wq,n3,w2,B,ae,ao];first|exact D|exact⟨D,rfl⟩
  have:i=I f.aT:=J;subst this;rw[iV]at z;have ad:(f.aT.countP λd=>d/2==e)=rR f e:=rfl;rw[ad]at z;cases Q:(rR f e==1)with
  |true=>
   have n4:(((rR f e:Nat):Int)!=1)=false:=by
    have:rR f e=1:=by simpa using Q
    simp[bne,this]
   simp only[go_sem,F4,Uk,Zk,M,u,v,N,R,z,r,L,q,dF,n4,w1,au,ae,ao];refine⟨D,λi2 e2 ab u7=>?_⟩;rcases jG.1 ab with h|rfl
   .exact ay i2 e2 h u7
   rw[x]at u7;cases u7;exact Q
  |false=>
   have n4:(((rR f e:Nat):Int)!=1):=by
    have:¬rR f e=1:=by simpa using Q
    simp[bne];omega
   have Y:(E.all λe=>rR f e==1)=false:=I9.2 ⟨e,bY x,by rw[Q];decide⟩;simp only[go_sem,F4,Uk,M,u,v,N,R,z,r,L,q,dF,n4,Y,ae,ao]
 have:k=I E:=J;subst this;have Y:(E.all λe=>rR f e==1):=gL.2 λe he=>by obtain⟨i,H⟩:=iA he;exact ay i e (ct.1 H).1 H
 simp only[go_sem,OX,VQ,H9,tV,Ia,dF,Y,ae,ao]
def nD(F:Nat)(g:aI)(h:Nat)(E:aA)(f:Nat):Bool:=tG (cK F g (2*f)) h E||tG (cK F g (2*f+1)) h E
def Vn(D:ch F g)(E:aA)(dr:I E<=1000){h:Nat}(H:E[0]?=some h)(X:h<I g)(m:Nat):
  aC S 113 [.one (.p (df F g)),aq m,.one (.p (.sl (aS E)))] (bK (nD F g m E h)):=by
 have N:=D.len;obtain⟨u,a1,M,a3⟩:=FU D (d:=2*h) J;obtain⟨q,Q,B,b3⟩:=FU D (d:=2*h+1) J;have g0:(cZ F g).getD u Gd=cK F g (2*h):=by rw[dT,M];rfl
 have g1:(cZ F g).getD q Gd=cK F g (2*h+1):=by rw[dT,B];rfl
 have pc:=aiF [u,q] aG (f:=161) (x:=.box [df F g]) (y:=.box [.sl (aS E)]) (z:=.box [.int .i64 m]) ⟨rfl,rfl,rfl⟩ alT (λj=>tG ((cZ F g).getD j Gd) m E) (λv L=>by
  simp only[dL,mV,or_false]at L;rcases L with rfl|rfl
  .rw[g0];exact aa7 D M E dr m
  rw[g1];exact aa7 D B E dr m)
 have A:([u,q].any λj=>tG ((cZ F g).getD j Gd) m E)=nD F g m E h:=by simp only[Nq,LJ,JK,g0,g1];rfl
 rw[A]at pc;simp only[ew,jn]at pc;have Y:=fC a1;have jb:=fC Q;have Z:=fC H;have R:=lR (a:=h) J;have T:=bJ (n:=2*h) J;have pz:=AH F g;have l1:2*h<I (gK F g):=J;have l2:2*h+1<I (gK F g):=J;have O:0<I E:=(ct.1 H).1;have r:(0:Int)<(I E:Int):=J;refine bG ak0 ?_;simp only[go_sem,aas,Z,O,r,R,T,Y,jb,l1,l2,apT,cN pc,ae,ao];exact aw
def tL(g:aI)(l:cO)(e:Nat):cO:=(l.set e (l.getD (bt g e) ⟨nv,false⟩)).set (bt g e) (l.getD e ⟨nv,false⟩)
def aso(g:aI)(l:cO)(e:Nat):I (tL g l e)=I l:=by simp[tL]
def mJ(g:aI)(l:cO)(E:aA):cO:=E.foldl (tL g) l
def Em(g:aI):∀(E:aA) (l:cO),I (mJ g l E)=I l:=by
 intro E
 induction E with
 |nil=>intro l;rfl
 |cons e E f=>intro l;show(mJ g (tL g l e) E).length=_;rw[f,aso]
def aeE(X:ch F g)(E:aA)(gI:∀e∈E,e<I g)(dr:I E<=1000):
  aC S 119 [.one (.p (df F g)),.one (.p (.sl (aS E)))] (.one (bn h_ 7 (bX (mJ g (a_ g) E)))):=by
 have O:=X.len;have h:=bR g;have R:a_ g≠[]:=nA.1 (by have:=nA.2 X.ne;omega);have j:=Gh R J;have lo:S.lone 7616064256=false:=ah;refine bG ahz ?_;simp only[go_sem,WA,Aa];refine ke j lo (.inl rfl) λcc ky gc fR=>?_;rcases gc with⟨e,_⟩|⟨_,r,e,Z⟩
 .exact absurd (by simpa using e) R
 cases e;rw[cT,h];simp only[go_sem];refine cD (λk A blk=>A 0=.one (.p (df F g))/\A 5=.one (.hsl 7616064256 r 7 0 (I g))/\A 15=.one (.p (.sl (aS E)))/\A 16=aq (I E)/\A 17=aq k/\blk 7616064256=(r,some (.arr h_ 7 (bX (mJ g (a_ g) (E.take k)))))) 0 (I E) (bC _) ?_ ?_
 .simp only[go_sem,Z];first|exact⟨rfl,rfl⟩|rfl|exact⟨rfl,rfl,rfl⟩
 rintro k A blk hk ⟨x,N,v,u,z,B⟩
 by_cases T:k<I E
 .have aL:((k:Int)<(I E:Int)):=J;obtain⟨e,H⟩:=bq T;have Iu:=fC H;have y:=gI e (bY H);have pe:=xG X y;have Y:=bJ (n:=k) J;have M:mJ g (a_ g) (E.take (k+1))=tL g (mJ g (a_ g) (E.take k)) e:=by
   unfold mJ;rw[jN,H,yq];rfl
  have kE:I (mJ g (a_ g) (E.take k))=I g:=by rw[Em,h]
  have hm:=fO (e+1) (show 0<I g by omega);generalize mJ g (a_ g) (E.take k)=m at B M kE;obtain⟨p,hp⟩:=bq (h:=m) (k:=e) J;obtain⟨q,D⟩:=bq (h:=m) (k:=(e+1)%I g) J;have dy:=gO hp;have vf:=gO D;have l1:e<I m:=J;have l2:(e+1)%I g<I m:=J;have Q:=vb m e q;have qR:(m.set e q).set ((e+1)%I g) p=tL g m e:=by unfold tL bt;rw[dT,D,dT,hp];rfl
  have f:=vb (m.set e q) ((e+1)%I g) p;rw[qR,<-M]at f;simp only[aZ.ps]at Q f;obtain⟨p',iJ⟩:=bq (h:=m.set e q) (k:=e) (by rw[jc];omega);obtain⟨q',Dd⟩:=bq (h:=m.set e q) (k:=(e+1)%I g) (by rw[jc];omega);have S9:=gO Dd;simp only[go_sem,OJ,x,N,v,u,z,B,T,aL,Iu,dB,bl pe bQ,y,hm,dy,vf,S9,l1,l2,Q,f,jc,aZ.ps,Y];exact aw
 have:k=I E:=J;subst this;rw[iV]at B;simp only[go_sem,OJ,ade,x,N,v,u,z,dF];have L:I (mJ g (a_ g) E)=I g:=by rw[Em,h]
 refine nV (.inr ⟨?_,r,by rw[cT,L],B⟩);intro h2;have:=congrArg List.length h2;rw[cT,L,eR]at this;have h3:=nA.2 X.ne;omega
def lX(l:cO)(i:Nat)(r:Int):cO:=l.set i {(l.getD i ⟨nv,false⟩)with l:={(l.getD i ⟨nv,false⟩).l with aK:=r}}
def Q5(l:cO)(i:Nat)(r:Int):I (lX l i r)=I l:=by simp[lX]
def xQ(F:Nat)(g:aI)(j m:Nat):Option cO:=
 if(eE g j).2.2&&((eE g m).2.2&&(!((eE g j).2.1==(eE g m).2.1)&&(((aQ g (eE g j).2.1).l.id==(aQ g (eE g m).2.1).l.id)&&nD F g 1 [j,m] j)))
 then some (mJ g (lX (lX (a_ g) (eE g j).1 (aQ g (eE g m).1).l.aK) (eE g m).1 (aQ g (eE g j).1).l.aK) [j,m])else none
def JM{e:Nat}(H:e<I g):(eE g e).1<I g/\(eE g e).2.1<I g:=by
 have h:=fO (e+1) (show 0<I g by omega);unfold eE bt;split
 .exact⟨h,H⟩
 exact⟨H,h⟩
def an0(an:ch F g)(ha:j<I g)(hb:m<I g){k c:Int}{l o:Bool}{aP:Int}:
  aC S 76 [.one (.p (df F g)),dp k j m c l o aP] (pZ (xQ F g j m)):=by
 have am:=an.len;have R:=bR g;have u:=aad an ha;have r:=aad an hb;have pc:=Vn an [j,m] aG (h:=j) rfl ha 1;obtain⟨p1,jq⟩:=JM ha;obtain⟨q1,L⟩:=JM hb;unfold xQ;generalize eE g j=x at*;generalize eE g m=y at*;obtain⟨f,O,one⟩:=x;obtain⟨A,B,two⟩:=y;simp only at u r p1 jq q1 L |-;simp only[ew,jn]at pc;have c1:((1:Nat):Int)=1:=rfl;rw[c1]at pc;obtain⟨P,hP⟩:=bq (h:=a_ g) (k:=f) J;obtain⟨Q,hQ⟩:=bq (h:=a_ g) (k:=A) J;obtain⟨V,hV⟩:=bq (h:=a_ g) (k:=O) J
 obtain⟨W,hW⟩:=bq (h:=a_ g) (k:=B) J;rw[nI hP,nI hQ,nI hV,nI hW];have Y:=gO hP;have ad:=gO hQ;have v:=gO hV;have h:=gO hW;have aY:a_ g≠[]:=nA.1 J;have ak:=Gh aY J;have lo:S.lone 4864384256=false:=ah;refine bG aos ?_;cases one with
 |false=>simp only[go_sem,Ar,ET,bl u tT,bl r tT];exact⟨aw,rfl⟩
 |true=>
 cases two with
 |false=>simp only[go_sem,Ar,ET,bl u tT,bl r tT];exact⟨aw,rfl⟩
 |true=>
 cases c2:(O==B)with
 |true=>
  have Z:((O:Int)==(B:Int)):=by simp[show O=B by simpa using c2]
  simp only[go_sem,Ar,ET,bl u tT,bl r tT,Z];exact⟨aw,rfl⟩
 |false=>
 have Z:((O:Int)==(B:Int))=false:=by
  have:¬O=B:=by simpa using c2
  simp;omega
 cases cP:(V.l.id==W.l.id)with
 |false=>
  have n3:(V.l.id !=W.l.id):=by simp[bne,cP]
  simp only[go_sem,Ar,ET,bl u tT,bl r tT,Z,v,h,jq,L,R,aZ.ps,n3];exact⟨aw,rfl⟩
 |true=>
 have n3:(V.l.id !=W.l.id)=false:=by simp[bne,cP]
 cases fv:nD F g 1 [j,m] j with
 |false=>rw[fv]at pc;simp only[go_sem,Ar,ET,bl u tT,bl r tT,Z,v,h,jq,L,R,aZ.ps,n3,e_,cN pc];exact⟨aw,rfl⟩
 |true=>
 rw[fv]at pc;simp only[go_sem,Ar,ET,bl u tT,bl r tT,Z,v,h,Y,ad,jq,L,p1,q1,R,aZ.ps,n3,e_,cN pc,Aa];refine⟨aw,aw,?_⟩;refine ke ak lo (.inl rfl) λcc ky gc fR=>?_;have b3:=fR 4864000000 U;simp only[go_sem]at b3;rcases gc with⟨e,_⟩|⟨_,gg,e,hC⟩
 .exact absurd (by simpa using e) aY
 cases e;rw[cT,R];have D:=vb (a_ g) f {P with l:={P.l with aK:=Q.l.aK}};have ni:(a_ g).set f {P with l:={P.l with aK:=Q.l.aK}}=lX (a_ g) f Q.l.aK:=by unfold lX;rw[dT,hP];rfl
 rw[ni]at D;have dO:I (lX (a_ g) f Q.l.aK)=I g:=by rw[Q5,R]
 obtain⟨Q',X⟩:=bq (h:=lX (a_ g) f Q.l.aK) (k:=A) J;have ag:=gO X;have z:=vb (lX (a_ g) f Q.l.aK) A {Q' with l:={Q'.l with aK:=P.l.aK}};have gy:(lX (a_ g) f Q.l.aK).set A {Q' with l:={Q'.l with aK:=P.l.aK}}=lX (lX (a_ g) f Q.l.aK) A P.l.aK:=by rw[lX.eq_def (lX (a_ g) f Q.l.aK),dT,X];rfl
 rw[gy]at z;simp only[aZ.ps]at D z;have l9:I (lX (lX (a_ g) f Q.l.aK) A P.l.aK)=I g:=by rw[Q5,dO]
 simp only[go_sem,b3,hC,R,Y,ag,aZ.ps,D,z,dO,p1,q1,jc];generalize lX (lX (a_ g) f Q.l.aK) A P.l.aK=M at l9 |-;obtain⟨E,LS⟩:∃E,E=[j,m]:=⟨_,rfl⟩;have uc:I E=2:=by rw[LS];rfl
 have gI:∀e∈E,e<I g:=λe H=>by rw[LS]at H;simp only[dL,mV,or_false]at H;rcases H with rfl|rfl<;>assumption
 refine cD (λk N blk=>N 0=.one (.p (df F g))/\N 14=.one (.hsl 4864384256 gg 7 0 (I g))/\(∃T,N 116=.one (.hsl 4864512256 T 1 0 2)/\blk 4864512256=(T,some (.arr 3 1 (aS E))))/\N 117=aq ((2:Nat):Int)/\N 118=aq k/\blk 4864384256=(gg,some (.arr h_ 7 (bX (mJ g M (E.take k)))))) 0 2 (bC _) ?_ ?_
 .simp only[go_sem];exact⟨⟨_,rfl,by rw[LS];rfl⟩,rfl,rfl⟩
 rintro k N blk hk ⟨h0,qO,⟨T,AU,bE⟩,Yj,Yk,bO⟩
 by_cases au:k<2
 .have aL:((k:Int)<((2:Nat):Int)):=J;have xZ:k<I E:=J;obtain⟨e,H⟩:=bq xZ;have Iu:=fC H;have Ir:=gI e (bY H);have pe:=xG an Ir;have L:=bJ (n:=k) J;have eK:mJ g M (E.take (k+1))=tL g (mJ g M (E.take k)) e:=by
   unfold mJ;rw[jN,H,yq];rfl
  have kE:I (mJ g M (E.take k))=I g:=by rw[Em,l9]
  have hm:=fO (e+1) (show 0<I g by omega);generalize mJ g M (E.take k)=ab at bO eK kE;obtain⟨p,hp⟩:=bq (h:=ab) (k:=e) J;obtain⟨q,hq⟩:=bq (h:=ab) (k:=(e+1)%I g) J;have dy:=gO hp;have vf:=gO hq;have l1:e<I ab:=J;have l2:(e+1)%I g<I ab:=J;have D:=vb ab e q;have qR:(ab.set e q).set ((e+1)%I g) p=tL g ab e:=by unfold tL bt;rw[dT,hq,dT,hp];rfl
  have z:=vb (ab.set e q) ((e+1)%I g) p;rw[qR,<-eK]at z;simp only[aZ.ps]at D z;obtain⟨q',Dd⟩:=bq (h:=ab.set e q) (k:=(e+1)%I g) (by rw[jc];omega);have S9:=gO Dd;simp only[go_sem,TG,h0,qO,AU,Yj,Yk,bE,bO,au,aL,Iu,dB,bl pe bQ,Ir,hm,dy,vf,S9,l1,l2,D,z,jc,aZ.ps,L];first|exact⟨aw,T,rfl,rfl⟩|exact⟨aw,⟨T,rfl,rfl⟩⟩|exact⟨aw,⟨T,rfl,rfl⟩,rfl⟩|trace_state
 have:k=2:=J;subst this;have e1:E.take 2=[j,m]:=by rw[LS];rfl
 rw[e1]at bO;have im:¬(((2:Nat):Int)<((2:Nat):Int)):=J;simp only[go_sem,TG,acb,h0,qO,Yj,Yk,im];have h1:I (mJ g M [j,m])=I g:=by rw[Em,l9]
 refine iW (.inr ⟨?_,gg,by rw[jV,cT,h1],bO⟩);intro h2;have:=congrArg List.length h2;rw[jV,cT,h1,eR]at this;omega
def vT(l:cO)(i:Nat)(g r:Int):cO:=l.set i {(l.getD i ⟨nv,false⟩)with l:={(l.getD i ⟨nv,false⟩).l with gate:=g,aK:=r}}
def BK(F:Nat)(g:aI)(j:Nat):Option cO:=
 if((aQ g j).l.kind==1)&&(decide ((aQ g j).l.gate<(F:Int))&&((aQ g j).l.aK==(dY g (aQ g j).l.gate.toNat:Int)))
 then some (vT (eu (a_ g) ((aQ g j).l.gate+1) 0 1) j ((aQ g j).l.gate+1) 1)else none
def akU(ab:ch F g)(H:j<I g){b c:Int}{l o:Bool}{aP:Int}:
  aC S 82 [.one (.p (df F g)),dp 9 j b c l o aP] (pZ (BK F g j)):=by
 unfold BK;have T:=ab.len;have y:=bR g;obtain⟨p,hp⟩:=bq (h:=a_ g) (k:=j) J;have A:=gO hp;have aY:a_ g≠[]:=nA.1 J;have r:=Gh aY J;have O:S.lone 5248256256=false:=ah;have dJ:S.shared 108:=ah;have mf:=Ej ab;rw[nI hp];refine bG YT ?_;cases v:(p.l.kind==1)with
 |false=>
  have N:(p.l.kind !=1):=by simp[bne,v]
  simp only[go_sem,xr,A,y,H,aZ.ps,N];exact⟨aw,rfl⟩
 |true=>
 have N:(p.l.kind !=1)=false:=by simp[bne,v]
 obtain⟨i,l0,mF,me⟩:=Sg (bY hp);have Z:pH F g p.l:=by rw[me];exact ab.ok.ax.good l0 (bY mF) (by rw[me]at v;exact v)
 obtain⟨G,h⟩:=lM Z.g0;have zk:G<=F:=by have:=Z.g1;omega
 have xV:=ab.fing;have wG:=bJ (n:=G) J;have R:=fC (Bt (h:=g) zk);have u4:G<I (eF g F):=by simp[eF];omega
 have eG:p.l.gate.toNat=G:=by rw[h];rfl
 rw[eG];by_cases c2:G<F
 .have u:((G:Int)<(F:Int)):=J;have D:decide (p.l.gate<(F:Int))=true:=sN (by rw[h];exact u);cases cP:(p.l.aK==(dY g G:Int))with
  |false=>simp only[go_sem,xr,A,y,H,aZ.ps,N,h,Aa];refine⟨aw,?_⟩;refine ke r O (.inl rfl) λcc ky L q=>?_;have B:=q 5248000000 U;have f:=q 5248064512 U;simp only[go_sem]at B f;simp only[go_sem,B,f,h,u,R,u4,cP,D];exact⟨aw,rfl⟩
  |true=>
   have E:p.l.gate+1=((G+1:Nat):Int):=by rw[h];omega
   rw[D,E];simp only[go_sem,xr,A,y,H,aZ.ps,N,Aa];refine⟨aw,?_⟩;refine ke r O (.inl rfl) λcc ky L q=>?_;have B:=q 5248000000 U;have f:=q 5248064512 U;simp only[go_sem]at B f;simp only[go_sem,B,f,h,u,R,u4,cP,wG,dJ];refine⟨aw,?_⟩;refine DM (l:=a_ g) J U mf L λbp CE ba=>?_;have Co:=(ba 5248000000 U).trans B;have Hk:=(ba 5248064512 U).trans f;rcases CE with⟨e,_⟩|⟨_,gg,e,hC⟩
   .exact absurd (by simpa [eu]using e) aY
   cases e;have z:I (eu (a_ g) ((G+1:Nat):Int) 0 1)=I g:=by rw[cT,y]
   obtain⟨x,M⟩:=bq (h:=eu (a_ g) ((G+1:Nat):Int) 0 1) (k:=j) J;have e0:vT (eu (a_ g) ((G+1:Nat):Int) 0 1) j ((G+1:Nat):Int) 1=(eu (a_ g) ((G+1:Nat):Int) 0 1).set j {x with l:={x.l with gate:=((G+1:Nat):Int),aK:=1}}:=by unfold vT;rw[dT,M];rfl
   rw[e0];generalize eu (a_ g) ((G+1:Nat):Int) 0 1=m at hC z M |-;have wH:=gO M;have Y:=vb m j {x with l:={x.l with gate:=((G+1:Nat):Int)}};have mh:(m.set j {x with l:={x.l with gate:=((G+1:Nat):Int)}})[j]?=some {x with l:={x.l with gate:=((G+1:Nat):Int)}}:=by rw[lC,aM rfl,aM J]
   have X:=gO mh;have Q:=vb (m.set j {x with l:={x.l with gate:=((G+1:Nat):Int)}}) j {x with l:={x.l with gate:=((G+1:Nat):Int),aK:=1}};rw[List.set_set]at Q;simp only[aZ.ps]at Y Q X;have l1:j<I m:=J;simp only[go_sem,Co,Hk,hC,z,H,wH,X,aZ.ps,v,N,h,Y,Q,l1,jc,wG];refine⟨aw,?_⟩;refine iW (.inr ⟨?_,gg,by rw[jV,cT,jc,z],rfl⟩);intro h2;have:=congrArg List.length h2;rw[jV,cT,jc,z,eR]at this;omega
 have u:¬((G:Int)<(F:Int)):=J;have D:decide (p.l.gate<(F:Int))=false:=r3 (by rw[h];exact u);simp only[go_sem,xr,A,y,H,aZ.ps,N,Aa];refine⟨aw,?_⟩;refine ke r O (.inl rfl) λcc ky L q=>?_;have B:=q 5248000000 U;have f:=q 5248064512 U;simp only[go_sem]at B f;simp only[go_sem,B,f,h,u,D];exact⟨aw,rfl⟩
def AD(g:aI)(j:Nat):Option cO:=
 if((aQ g j).l.kind==1)&&(decide (0<(aQ g j).l.gate)&&((aQ g j).l.aK==1))
 then some (vT (eu (a_ g) (aQ g j).l.gate 1 (-1)) j ((aQ g j).l.gate-1) ((dY g ((aQ g j).l.gate-1).toNat+1:Nat):Int))else none
def agI(ab:ch F g)(v:j<I g){b c:Int}{l o:Bool}{aP:Int}:
  aC S 82 [.one (.p (df F g)),dp 10 j b c l o aP] (pZ (AD g j)):=by
 unfold AD;have T:=ab.len;have z:=bR g;obtain⟨p,hp⟩:=bq (h:=a_ g) (k:=j) J;have E:=gO hp;have aY:a_ g≠[]:=nA.1 J;have r:=Gh aY J;have Q:S.lone 5248256256=false:=ah;have dJ:S.shared 108:=ah;have mf:=Ej ab;rw[nI hp];refine bG YT ?_;cases y:(p.l.kind==1)with
 |false=>
  have N:(p.l.kind !=1):=by simp[bne,y]
  simp only[go_sem,xr,E,z,v,aZ.ps,N];exact⟨aw,rfl⟩
 |true=>
 have N:(p.l.kind !=1)=false:=by simp[bne,y]
 obtain⟨i,l0,mF,me⟩:=Sg (bY hp);have Z:pH F g p.l:=by rw[me];exact ab.ok.ax.good l0 (bY mF) (by rw[me]at y;exact y)
 obtain⟨G,h⟩:=lM Z.g0;have zk:G<=F:=by have:=Z.g1;omega
 have xV:=ab.fing;by_cases c2:0<G
 .have u:((0:Int)<(G:Int)):=J;obtain⟨H,rfl⟩:∃H,G=H+1:=⟨G-1,J⟩;have D:decide (0<p.l.gate)=true:=sN (by rw[h];exact u);have wG:=wO (a:=H+1) J J;rw[Nat.add_sub_cancel]at wG;have kC:=fC (Bt (h:=g) (show H<=F by omega));have u4:H<I (eF g F):=by simp[eF];omega
  have dt:dY g H<=I g:=ld _ _;have wC:=bJ (n:=dY g H) J;have L:p.l.gate-1=(H:Int):=by rw[h];omega
  cases cP:(p.l.aK==1)with
  |false=>simp only[go_sem,xr,E,z,v,aZ.ps,N,h,Aa];refine⟨aw,?_⟩;refine ke r Q (.inl rfl) λcc ky M q=>?_;have B:=q 5248000000 U;have f:=q 5248064512 U;simp only[go_sem]at B f;simp only[go_sem,B,f,h,u,cP,D];first|exact⟨aw,rfl⟩|rfl
  |true=>
   rw[D,L,h,nY];simp only[go_sem,xr,E,z,v,aZ.ps,N,Aa];refine⟨aw,?_⟩;refine ke r Q (.inl rfl) λcc ky M q=>?_;have B:=q 5248000000 U;have f:=q 5248064512 U;simp only[go_sem]at B f;simp only[go_sem,B,f,h,u,cP,dJ];refine⟨aw,?_⟩;refine DM (l:=a_ g) J U mf M λbp CE ba=>?_;have Co:=(ba 5248000000 U).trans B;have Hk:=(ba 5248064512 U).trans f;rcases CE with⟨e,_⟩|⟨_,gg,e,hC⟩
   .exact absurd (by simpa [eu]using e) aY
   cases e;have A:I (eu (a_ g) ((H+1:Nat):Int) 1 (-1))=I g:=by rw[cT,z]
   obtain⟨x,O⟩:=bq (h:=eu (a_ g) ((H+1:Nat):Int) 1 (-1)) (k:=j) J;have e0:vT (eu (a_ g) ((H+1:Nat):Int) 1 (-1)) j (H:Int) ((dY g H+1:Nat):Int)=(eu (a_ g) ((H+1:Nat):Int) 1 (-1)).set j {x with l:={x.l with gate:=(H:Int),aK:=((dY g H+1:Nat):Int)}}:=by unfold vT;rw[dT,O];rfl
   rw[e0];generalize eu (a_ g) ((H+1:Nat):Int) 1 (-1)=m at hC A O |-;have wH:=gO O;have Y:=vb m j {x with l:={x.l with gate:=(H:Int)}};have mh:(m.set j {x with l:={x.l with gate:=(H:Int)}})[j]?=some {x with l:={x.l with gate:=(H:Int)}}:=by rw[lC,aM rfl,aM J]
   have X:=gO mh;have R:=vb (m.set j {x with l:={x.l with gate:=(H:Int)}}) j {x with l:={x.l with gate:=(H:Int),aK:=((dY g H+1:Nat):Int)}};rw[List.set_set]at R;simp only[aZ.ps]at Y R X;have l1:j<I m:=J;simp only[go_sem,Co,Hk,hC,A,v,wH,X,aZ.ps,y,N,h,Y,R,l1,jc,wG,kC,u4,wC];refine⟨aw,?_⟩;refine iW (.inr ⟨?_,gg,by rw[jV,cT,jc,A],rfl⟩);intro h2;have:=congrArg List.length h2;rw[jV,cT,jc,A,eR]at this;omega
 have u:¬((0:Int)<(G:Int)):=J;have D:decide (0<p.l.gate)=false:=r3 (by rw[h];exact u);simp only[go_sem,xr,E,z,v,aZ.ps,N,Aa];refine⟨aw,?_⟩;refine ke r Q (.inl rfl) λcc ky M q=>?_;have B:=q 5248000000 U;have f:=q 5248064512 U;simp only[go_sem]at B f;simp only[go_sem,B,f,h,u,D];first|exact⟨aw,rfl⟩|rfl
section
attribute [local go_sem ↓] GY Fg
def Bx(a b:Nat):(a==b)=((a:Int)==(b:Int)):=by
 by_cases h:a=b
 .simp[h]
 have:(a==b)=false:=by simpa using h
 rw[this];symm;simp;omega
def xk(F:Nat)(g:aI)(j m:Nat):Option cO:=
 if((iz g j true&&iz g m false)||(iz g j false&&iz g m true))&&(!((aQ g j).l.id==(aQ g (bt g j)).l.id)&&
  (((((aQ g m).l.id==(aQ g j).l.id)&&((aQ g (bt g m)).l.id==(aQ g (bt g j)).l.id))||(((aQ g m).l.id==(aQ g (bt g j)).l.id)&&((aQ g (bt g m)).l.id==(aQ g j).l.id)))&&
  (!((j+2)%I g==m)&&(!((m+2)%I g==j)&&nD F g 0 [j,m] j))))
 then some (zm (a_ g) [(aQ g j).l.id,(aQ g (bt g j)).l.id])else none
def aeG(ag:ch F g)(ha:j<I g)(hb:m<I g){k c:Int}{l o:Bool}{aP:Int}:
  aC S 79 [.one (.p (df F g)),dp k j m c l o aP] (pZ (xk F g j m)):=by
 have ay:=ag.len;have bd:=bR g;have E:=xG ag ha;have f:=xG ag hb;have lz:=fO (j+1) (show 0<I g by omega);have l9:=fO (m+1) (show 0<I g by omega);have pc:=Vn ag [j,m] aG (h:=j) rfl ha 0;simp only[ew,jn]at pc;have c0:((0:Nat):Int)=0:=rfl;rw[c0]at pc;have h:=DL ag ha true;have q:=DL ag hb false;have B:=DL ag ha false;have r:=DL ag hb true;obtain⟨P,hP⟩:=bq (h:=a_ g) (k:=j) J;obtain⟨A,ad⟩:=bq (h:=a_ g) (k:=(j+1)%I g) J;obtain⟨Q,hQ⟩:=bq (h:=a_ g) (k:=m) J;obtain⟨Q2,R⟩:=bq (h:=a_ g) (k:=(m+1)%I g) J;have u5:=gO hP;have an:=gO ad;have nd:=gO hQ;have ar:=gO R;have hz:¬((I g:Int)=0):=J
 have am:IntKind.i64.wrap ((j:Int)+2)=((j+2:Nat):Int):=(j_ (x:=(j:Int)+2) J J).trans J;have ak:=n_ (j+2) (I g);have ap:IntKind.i64.wrap ((m:Int)+2)=((m+2:Nat):Int):=(j_ (x:=(m:Int)+2) J J).trans J;have aj:=n_ (m+2) (I g);have lo:S.lone 5056704448=false:=ah;have pd:=aan (a_ g) [P.l.id,A.l.id] J aG (adb ag);simp only[ew,jn]at pd;have x3:iz g j true->iz g j false=false:=λX=>by
  unfold iz at X |-;rw[nI hP]at X |-;simp only[cq]at X;have:P.l.over:=by simpa using X.2.2.1
  simp[this]
 unfold xk;rw[nI hP,nI hQ,nI ad,nI R,Bx,Bx];have n:=And.intro u5 (And.intro nd (And.intro an (And.intro ar (And.intro ha (And.intro hb (And.intro lz (And.intro l9 (And.intro bd (And.intro am (And.intro ak (And.intro hz (And.intro ap aj))))))))))));refine bG apI ?_;simp only[go_sem,Xe,fl,ai h,ai q,ai B,ai r,dB,bl E bQ,bl f bQ,n,aZ.ps,e_,cN pc,fm];refine gY [0,3,4,5,6,7,22] λe1 N=>?_;try simp only[go_sem]at N
 obtain⟨K8,La,Lb,Lc,Ld,Le,K9⟩:=N;cases X:iz g j true with
 |true=>
  simp only[go_sem,fl,ai h,ai q,ai B,ai r,dB,bl E bQ,bl f bQ,n,aZ.ps,e_,cN pc,fm,K8,La,Lb,Lc,Ld,Le,K9,X];refine gY [0,3,4,5,6,7,28] λe2 h2=>?_;try simp only[go_sem,K8,La,Lb,Lc,Ld,Le,K9,X]at h2
  obtain⟨QG,QI,QJ,QK,QL,QM,QH⟩:=h2;cases x2:iz g m false with
  |false=>have au:=x3 X;simp only[go_sem,fl,ai h,ai q,ai B,ai r,dB,bl E bQ,bl f bQ,n,aZ.ps,e_,cN pc,fm,QG,QI,QJ,QK,QL,QM,QH,x2,au];first|rfl|exact aw|exact⟨aw,rfl⟩|exact⟨aw,aw,rfl⟩
  |true=>
  simp only[go_sem,fl,ai h,ai q,ai B,ai r,dB,bl E bQ,bl f bQ,n,aZ.ps,e_,cN pc,fm,QG,QI,QJ,QK,QL,QM,QH,x2];refine⟨aw,?_⟩;refine gY [0,3,4,5,6,9,10,11,12,76] λe3 h3=>?_;try simp only[go_sem,QG,QI,QJ,QK,QL,QM,QH,x2]at h3
  obtain⟨QN,QR,QS,QT,QU,QW,QO,QP,QQ,QV⟩:=h3;cases z:(P.l.id==A.l.id)with
  |true=>simp only[go_sem,fl,ai h,ai q,ai B,ai r,dB,bl E bQ,bl f bQ,n,aZ.ps,e_,cN pc,fm,QN,QR,QS,QT,QU,QW,QO,QP,QQ,QV,z];first|rfl|exact aw|exact⟨aw,rfl⟩|exact⟨aw,aw,rfl⟩
  |false=>
  simp only[go_sem,fl,ai h,ai q,ai B,ai r,dB,bl E bQ,bl f bQ,n,aZ.ps,e_,cN pc,fm,QN,QR,QS,QT,QU,QW,QO,QP,QQ,QV,z];refine gY [0,3,4,5,6,9,10,11,12,76,88] λe4 h4=>?_;try simp only[go_sem,QN,QR,QS,QT,QU,QW,QO,QP,QQ,QV,z]at h4
  obtain⟨Lf,Lj,Lk,Ll,Lm,Lp,Lg,Lh,Li,Ln,Lo⟩:=h4;cases v:(Q.l.id==P.l.id)with
  |true=>
   have fv:(Q.l.id==A.l.id)=false:=by
    have N:Q.l.id=P.l.id:=by simpa using v
    rw[N];exact z
   simp only[go_sem,fl,ai h,ai q,ai B,ai r,dB,bl E bQ,bl f bQ,n,aZ.ps,e_,cN pc,fm,Lf,Lj,Lk,Ll,Lm,Lp,Lg,Lh,Li,Ln,Lo,v];refine gY [0,3,4,5,6,9,10,11,12,76,101] λe5 h5=>?_;try simp only[go_sem,Lf,Lj,Lk,Ll,Lm,Lp,Lg,Lh,Li,Ln,Lo,v]at h5
   obtain⟨QX,Q8,Q9,Ra,Rc,Rf,QY,Q0,Q7,Re,QZ⟩:=h5;cases cP:(Q2.l.id==A.l.id)with
   |false=>simp only[go_sem,fl,ai h,ai q,ai B,ai r,dB,bl E bQ,bl f bQ,n,aZ.ps,e_,cN pc,fm,QX,Q8,Q9,Ra,Rc,Rf,QY,Q0,Q7,Re,QZ,cP,fv];first|rfl|exact aw|exact⟨aw,rfl⟩|exact⟨aw,aw,rfl⟩
   |true=>
   simp only[go_sem,fl,ai h,ai q,ai B,ai r,dB,bl E bQ,bl f bQ,n,aZ.ps,e_,cN pc,fm,QX,Q8,Q9,Ra,Rc,Rf,QY,Q0,Q7,Re,QZ,cP];refine oH [0,3,4,5,6,11,12,137] λe6 h6=>?_;try simp only[go_sem,QX,Q8,Q9,Ra,Rc,Rf,QY,Q0,Q7,Re,QZ,cP]at h6
   obtain⟨Rg,Rk,Rm,Rn,Ro,Rh,Ri,Rj⟩:=h6;cases u:((((j+2)%I g:Nat):Int)==(m:Int))with
   |true=>simp only[go_sem,fl,ai h,ai q,ai B,ai r,dB,bl E bQ,bl f bQ,n,aZ.ps,e_,cN pc,fm,Rg,Rk,Rm,Rn,Ro,Rh,Ri,Rj,u];first|rfl|exact aw|exact⟨aw,rfl⟩|exact⟨aw,aw,rfl⟩
   |false=>
   simp only[go_sem,fl,ai h,ai q,ai B,ai r,dB,bl E bQ,bl f bQ,n,aZ.ps,e_,cN pc,fm,Rg,Rk,Rm,Rn,Ro,Rh,Ri,Rj,u];refine oH [0,3,4,5,11,12,147] λe7 h7=>?_;try simp only[go_sem,Rg,Rk,Rm,Rn,Ro,Rh,Ri,Rj,u]at h7
   obtain⟨Rp,Ru,Rv,Rw,Rq,Rr,Rs⟩:=h7;cases D:((((m+2)%I g:Nat):Int)==(j:Int))with
   |true=>simp only[go_sem,fl,ai h,ai q,ai B,ai r,dB,bl E bQ,bl f bQ,n,aZ.ps,e_,cN pc,fm,Rp,Ru,Rv,Rw,Rq,Rr,Rs,D];first|rfl|exact aw|exact⟨aw,rfl⟩|exact⟨aw,aw,rfl⟩
   |false=>
   cases y:nD F g 0 [j,m] j with
   |false=>rw[y]at pc;simp only[go_sem,fl,ai h,ai q,ai B,ai r,dB,bl E bQ,bl f bQ,n,aZ.ps,e_,cN pc,fm,Rp,Ru,Rv,Rw,Rq,Rr,Rs,D];first|rfl|exact aw|exact⟨aw,rfl⟩|exact⟨aw,aw,rfl⟩
   |true=>rw[y]at pc;simp only[go_sem,fl,ai h,ai q,ai B,ai r,dB,bl E bQ,bl f bQ,n,aZ.ps,e_,cN pc,fm,Rp,Ru,Rv,Rw,Rq,Rr,Rs,D];refine⟨aw,?_⟩;refine ke pd lo (.inr (ff (gb _))) λcc bp H M=>?_;simp only[go_sem];exact iW H
  |false=>
   simp only[go_sem,fl,ai h,ai q,ai B,ai r,dB,bl E bQ,bl f bQ,n,aZ.ps,e_,cN pc,fm,Lf,Lj,Lk,Ll,Lm,Lp,Lg,Lh,Li,Ln,Lo,v];refine gY [0,3,4,5,6,10,11,12,76,101,113] λe8 h8=>?_;try simp only[go_sem,Lf,Lj,Lk,Ll,Lm,Lp,Lg,Lh,Li,Ln,Lo,v]at h8
   obtain⟨Rx,RR,RW,RX,RY,Ry,RO,RQ,RZ,Rz,RP⟩:=h8;cases fv:(Q.l.id==A.l.id)with
   |false=>simp only[go_sem,fl,ai h,ai q,ai B,ai r,dB,bl E bQ,bl f bQ,n,aZ.ps,e_,cN pc,fm,Rx,RR,RW,RX,RY,Ry,RO,RQ,RZ,Rz,RP,fv];first|rfl|exact aw|exact⟨aw,rfl⟩|exact⟨aw,aw,rfl⟩
   |true=>
   simp only[go_sem,fl,ai h,ai q,ai B,ai r,dB,bl E bQ,bl f bQ,n,aZ.ps,e_,cN pc,fm,Rx,RR,RW,RX,RY,Ry,RO,RQ,RZ,Rz,RP,fv];refine Wt [0,3,4,5,6,11,12] λe9 h9=>?_;try simp only[go_sem,Rx,RR,RW,RX,RY,Ry,RO,RQ,RZ,Rz,RP,fv]at h9
   obtain⟨R0,R7,R8,R9,Sa,R5,R6⟩:=h9;cases L:(Q2.l.id==P.l.id)with
   |false=>simp only[go_sem,fl,ai h,ai q,ai B,ai r,dB,bl E bQ,bl f bQ,n,aZ.ps,e_,cN pc,fm,R0,R7,R8,R9,Sa,R5,R6,L];first|rfl|exact aw|exact⟨aw,rfl⟩|exact⟨aw,aw,rfl⟩
   |true=>
   simp only[go_sem,fl,ai h,ai q,ai B,ai r,dB,bl E bQ,bl f bQ,n,aZ.ps,e_,cN pc,fm,R0,R7,R8,R9,Sa,R5,R6,L];refine oH [0,3,4,5,6,11,12,137] λCu cb=>?_;try simp only[go_sem,R0,R7,R8,R9,Sa,R5,R6,L]at cb
   obtain⟨O2,O6,O7,O8,O9,O3,O4,O5⟩:=cb;cases u:((((j+2)%I g:Nat):Int)==(m:Int))with
   |true=>simp only[go_sem,fl,ai h,ai q,ai B,ai r,dB,bl E bQ,bl f bQ,n,aZ.ps,e_,cN pc,fm,O2,O6,O7,O8,O9,O3,O4,O5,u];first|rfl|exact aw|exact⟨aw,rfl⟩|exact⟨aw,aw,rfl⟩
   |false=>
   simp only[go_sem,fl,ai h,ai q,ai B,ai r,dB,bl E bQ,bl f bQ,n,aZ.ps,e_,cN pc,fm,O2,O6,O7,O8,O9,O3,O4,O5,u];refine oH [0,3,4,5,11,12,147] λER fK=>?_;try simp only[go_sem,O2,O6,O7,O8,O9,O3,O4,O5,u]at fK
   obtain⟨Pa,Pf,Pg,Ph,Pb,Pd,Pe⟩:=fK;cases D:((((m+2)%I g:Nat):Int)==(j:Int))with
   |true=>simp only[go_sem,fl,ai h,ai q,ai B,ai r,dB,bl E bQ,bl f bQ,n,aZ.ps,e_,cN pc,fm,Pa,Pf,Pg,Ph,Pb,Pd,Pe,D];first|rfl|exact aw|exact⟨aw,rfl⟩|exact⟨aw,aw,rfl⟩
   |false=>
   cases y:nD F g 0 [j,m] j with
   |false=>rw[y]at pc;simp only[go_sem,fl,ai h,ai q,ai B,ai r,dB,bl E bQ,bl f bQ,n,aZ.ps,e_,cN pc,fm,Pa,Pf,Pg,Ph,Pb,Pd,Pe,D];first|rfl|exact aw|exact⟨aw,rfl⟩|exact⟨aw,aw,rfl⟩
   |true=>rw[y]at pc;simp only[go_sem,fl,ai h,ai q,ai B,ai r,dB,bl E bQ,bl f bQ,n,aZ.ps,e_,cN pc,fm,Pa,Pf,Pg,Ph,Pb,Pd,Pe,D];refine⟨aw,?_⟩;refine ke pd lo (.inr (ff (gb _))) λcc bp H M=>?_;simp only[go_sem];exact iW H
 |false=>
  simp only[go_sem,fl,ai h,ai q,ai B,ai r,dB,bl E bQ,bl f bQ,n,aZ.ps,e_,cN pc,fm,K8,La,Lb,Lc,Ld,Le,K9,X];refine gY [0,3,4,5,6,7,28,33] λa3 jk=>?_;try simp only[go_sem,K8,La,Lb,Lc,Ld,Le,K9,X]at jk
  obtain⟨HG,HJ,HL,O,HN,Y,HH,Z⟩:=jk;cases T:iz g j false with
  |false=>simp only[go_sem,fl,ai h,ai q,ai B,ai r,dB,bl E bQ,bl f bQ,n,aZ.ps,e_,cN pc,fm,HG,HJ,HL,O,HN,Y,HH,Z,T];first|rfl|exact aw|exact⟨aw,rfl⟩|exact⟨aw,aw,rfl⟩
  |true=>
  simp only[go_sem,fl,ai h,ai q,ai B,ai r,dB,bl E bQ,bl f bQ,n,aZ.ps,e_,cN pc,fm,HG,HJ,HL,O,HN,Y,HH,Z,T];cases x5:iz g m true with
  |false=>simp only[go_sem,fl,ai h,ai q,ai B,ai r,dB,bl E bQ,bl f bQ,n,aZ.ps,e_,cN pc,fm,HG,HJ,HL,O,HN,Y,HH,Z,T,x5];first|rfl|exact aw|exact⟨aw,rfl⟩|exact⟨aw,aw,rfl⟩
  |true=>
  simp only[go_sem,fl,ai h,ai q,ai B,ai r,dB,bl E bQ,bl f bQ,n,aZ.ps,e_,cN pc,fm,HG,HJ,HL,O,HN,Y,HH,Z,T,x5];refine⟨aw,?_⟩;refine gY [0,3,4,5,6,9,10,11,12,76] λaL j8=>?_;try simp only[go_sem,HG,HJ,HL,O,HN,Y,HH,Z,T,x5]at j8
  obtain⟨Pj,Pn,Po,Pp,Pq,Ps,Pk,Pl,Pm,Pr⟩:=j8;cases z:(P.l.id==A.l.id)with
  |true=>simp only[go_sem,fl,ai h,ai q,ai B,ai r,dB,bl E bQ,bl f bQ,n,aZ.ps,e_,cN pc,fm,Pj,Pn,Po,Pp,Pq,Ps,Pk,Pl,Pm,Pr,z];first|rfl|exact aw|exact⟨aw,rfl⟩|exact⟨aw,aw,rfl⟩
  |false=>
  simp only[go_sem,fl,ai h,ai q,ai B,ai r,dB,bl E bQ,bl f bQ,n,aZ.ps,e_,cN pc,fm,Pj,Pn,Po,Pp,Pq,Ps,Pk,Pl,Pm,Pr,z];refine gY [0,3,4,5,6,9,10,11,12,76,88] λa1 qO=>?_;try simp only[go_sem,Pj,Pn,Po,Pp,Pq,Ps,Pk,Pl,Pm,Pr,z]at qO
  obtain⟨KU,KY,KZ,K0,K4,K7,KV,KW,KX,K5,K6⟩:=qO;cases v:(Q.l.id==P.l.id)with
  |true=>
   have fv:(Q.l.id==A.l.id)=false:=by
    have N:Q.l.id=P.l.id:=by simpa using v
    rw[N];exact z
   simp only[go_sem,fl,ai h,ai q,ai B,ai r,dB,bl E bQ,bl f bQ,n,aZ.ps,e_,cN pc,fm,KU,KY,KZ,K0,K4,K7,KV,KW,KX,K5,K6,v];refine gY [0,3,4,5,6,9,10,11,12,76,101] λaE uW=>?_;try simp only[go_sem,KU,KY,KZ,K0,K4,K7,KV,KW,KX,K5,K6,v]at uW
   obtain⟨Pt,Pz,PA,PC,PD,PG,Pu,Px,Py,PE,Pv⟩:=uW;cases cP:(Q2.l.id==A.l.id)with
   |false=>simp only[go_sem,fl,ai h,ai q,ai B,ai r,dB,bl E bQ,bl f bQ,n,aZ.ps,e_,cN pc,fm,Pt,Pz,PA,PC,PD,PG,Pu,Px,Py,PE,Pv,cP,fv];first|rfl|exact aw|exact⟨aw,rfl⟩|exact⟨aw,aw,rfl⟩
   |true=>
   simp only[go_sem,fl,ai h,ai q,ai B,ai r,dB,bl E bQ,bl f bQ,n,aZ.ps,e_,cN pc,fm,Pt,Pz,PA,PC,PD,PG,Pu,Px,Py,PE,Pv,cP];refine oH [0,3,4,5,6,11,12,137] λaY H6=>?_;try simp only[go_sem,Pt,Pz,PA,PC,PD,PG,Pu,Px,Py,PE,Pv,cP]at H6
   obtain⟨PH,PL,PM,PN,PO,PI,PJ,PK⟩:=H6;cases u:((((j+2)%I g:Nat):Int)==(m:Int))with
   |true=>simp only[go_sem,fl,ai h,ai q,ai B,ai r,dB,bl E bQ,bl f bQ,n,aZ.ps,e_,cN pc,fm,PH,PL,PM,PN,PO,PI,PJ,PK,u];first|rfl|exact aw|exact⟨aw,rfl⟩|exact⟨aw,aw,rfl⟩
   |false=>
   simp only[go_sem,fl,ai h,ai q,ai B,ai r,dB,bl E bQ,bl f bQ,n,aZ.ps,e_,cN pc,fm,PH,PL,PM,PN,PO,PI,PJ,PK,u];refine oH [0,3,4,5,11,12,147] λa4 zj=>?_;try simp only[go_sem,PH,PL,PM,PN,PO,PI,PJ,PK,u]at zj
   obtain⟨PQ,PY,PZ,P0,PU,PW,PX⟩:=zj;cases D:((((m+2)%I g:Nat):Int)==(j:Int))with
   |true=>simp only[go_sem,fl,ai h,ai q,ai B,ai r,dB,bl E bQ,bl f bQ,n,aZ.ps,e_,cN pc,fm,PQ,PY,PZ,P0,PU,PW,PX,D];first|rfl|exact aw|exact⟨aw,rfl⟩|exact⟨aw,aw,rfl⟩
   |false=>
   cases y:nD F g 0 [j,m] j with
   |false=>rw[y]at pc;simp only[go_sem,fl,ai h,ai q,ai B,ai r,dB,bl E bQ,bl f bQ,n,aZ.ps,e_,cN pc,fm,PQ,PY,PZ,P0,PU,PW,PX,D];first|rfl|exact aw|exact⟨aw,rfl⟩|exact⟨aw,aw,rfl⟩
   |true=>rw[y]at pc;simp only[go_sem,fl,ai h,ai q,ai B,ai r,dB,bl E bQ,bl f bQ,n,aZ.ps,e_,cN pc,fm,PQ,PY,PZ,P0,PU,PW,PX,D];refine⟨aw,?_⟩;refine ke pd lo (.inr (ff (gb _))) λcc bp H M=>?_;simp only[go_sem];exact iW H
  |false=>
   simp only[go_sem,fl,ai h,ai q,ai B,ai r,dB,bl E bQ,bl f bQ,n,aZ.ps,e_,cN pc,fm,KU,KY,KZ,K0,K4,K7,KV,KW,KX,K5,K6,v];refine gY [0,3,4,5,6,10,11,12,76,101,113] λaz xN=>?_;try simp only[go_sem,KU,KY,KZ,K0,K4,K7,KV,KW,KX,K5,K6,v]at xN
   obtain⟨P9,Qf,Qg,Qh,Qi,Qa,Qc,Qe,Qj,Qb,Qd⟩:=xN;cases fv:(Q.l.id==A.l.id)with
   |false=>simp only[go_sem,fl,ai h,ai q,ai B,ai r,dB,bl E bQ,bl f bQ,n,aZ.ps,e_,cN pc,fm,P9,Qf,Qg,Qh,Qi,Qa,Qc,Qe,Qj,Qb,Qd,fv];first|rfl|exact aw|exact⟨aw,rfl⟩|exact⟨aw,aw,rfl⟩
   |true=>
   simp only[go_sem,fl,ai h,ai q,ai B,ai r,dB,bl E bQ,bl f bQ,n,aZ.ps,e_,cN pc,fm,P9,Qf,Qg,Qh,Qi,Qa,Qc,Qe,Qj,Qb,Qd,fv];refine Wt [0,3,4,5,6,11,12] λa2 Fj=>?_;try simp only[go_sem,P9,Qf,Qg,Qh,Qi,Qa,Qc,Qe,Qj,Qb,Qd,fv]at Fj
   obtain⟨Qk,Qn,Qo,Qp,Qq,Ql,Qm⟩:=Fj;cases L:(Q2.l.id==P.l.id)with
   |false=>simp only[go_sem,fl,ai h,ai q,ai B,ai r,dB,bl E bQ,bl f bQ,n,aZ.ps,e_,cN pc,fm,Qk,Qn,Qo,Qp,Qq,Ql,Qm,L];first|rfl|exact aw|exact⟨aw,rfl⟩|exact⟨aw,aw,rfl⟩
   |true=>
   simp only[go_sem,fl,ai h,ai q,ai B,ai r,dB,bl E bQ,bl f bQ,n,aZ.ps,e_,cN pc,fm,Qk,Qn,Qo,Qp,Qq,Ql,Qm,L];refine oH [0,3,4,5,6,11,12,137] λaV xO=>?_;try simp only[go_sem,Qk,Qn,Qo,Qp,Qq,Ql,Qm,L]at xO
   obtain⟨Qr,Qv,Qw,Qx,Qy,Qs,Qt,Qu⟩:=xO;cases u:((((j+2)%I g:Nat):Int)==(m:Int))with
   |true=>simp only[go_sem,fl,ai h,ai q,ai B,ai r,dB,bl E bQ,bl f bQ,n,aZ.ps,e_,cN pc,fm,Qr,Qv,Qw,Qx,Qy,Qs,Qt,Qu,u];first|rfl|exact aw|exact⟨aw,rfl⟩|exact⟨aw,aw,rfl⟩
   |false=>
   simp only[go_sem,fl,ai h,ai q,ai B,ai r,dB,bl E bQ,bl f bQ,n,aZ.ps,e_,cN pc,fm,Qr,Qv,Qw,Qx,Qy,Qs,Qt,Qu,u];refine oH [0,3,4,5,11,12,147] λa0 ab=>?_;try simp only[go_sem,Qr,Qv,Qw,Qx,Qy,Qs,Qt,Qu,u]at ab
   obtain⟨Qz,QD,QE,QF,QA,QB,QC⟩:=ab;cases D:((((m+2)%I g:Nat):Int)==(j:Int))with
   |true=>simp only[go_sem,fl,ai h,ai q,ai B,ai r,dB,bl E bQ,bl f bQ,n,aZ.ps,e_,cN pc,fm,Qz,QD,QE,QF,QA,QB,QC,D];first|rfl|exact aw|exact⟨aw,rfl⟩|exact⟨aw,aw,rfl⟩
   |false=>
   cases y:nD F g 0 [j,m] j with
   |false=>rw[y]at pc;simp only[go_sem,fl,ai h,ai q,ai B,ai r,dB,bl E bQ,bl f bQ,n,aZ.ps,e_,cN pc,fm,Qz,QD,QE,QF,QA,QB,QC,D];first|rfl|exact aw|exact⟨aw,rfl⟩|exact⟨aw,aw,rfl⟩
   |true=>rw[y]at pc;simp only[go_sem,fl,ai h,ai q,ai B,ai r,dB,bl E bQ,bl f bQ,n,aZ.ps,e_,cN pc,fm,Qz,QD,QE,QF,QA,QB,QC,D];refine⟨aw,?_⟩;refine ke pd lo (.inr (ff (gb _))) λcc bp H M=>?_;simp only[go_sem];exact iW H
end
def jt(h:Nat):aI:=(List.range (2*h)).map λi=>⟨1,0,((i+1:Nat):Int),0,0,false⟩
section
variable {h:Nat}
def xg:I (jt h)=2*h:=by simp[jt]
def B6{i:Nat}(H:i<2*h):(jt h)[i]?=some ⟨1,0,((i+1:Nat):Int),0,0,false⟩:=by unfold jt;rw[gZ,nH H];rfl
def EO{l:af}(hl:l∈jt h):∃i,i<2*h/\l=⟨1,0,((i+1:Nat):Int),0,0,false⟩:=by obtain⟨i,H,rfl⟩:=eJ.1 hl;exact⟨i,f_.1 H,rfl⟩
def N_(p:af->Bool)(hp:∀l∈jt h,p l)(k:Nat)(H:k<=2*h):aF p ((jt h).take k)=k:=by unfold aF;rw[List.countP_eq_length.2 λl hl=>hp l (qM hl),iU,xg];omega
def ZZ:∀l∈jt h,l.aN:=λl hl=>by obtain⟨i,_,rfl⟩:=EO hl;rfl
def aqJ:aF af.aN (jt h)=2*h:=by have:=N_ (h:=h) af.aN ZZ (2*h) (cH _);rwa[eW (by rw[xg];exact cH _)]at this
def agl:aF af.aJ (jt h)=0:=by unfold aF;rw[B4];intro l hl;obtain⟨i,_,rfl⟩:=EO hl;simp[af.aJ]
def amX:dY (jt h) 0=2*h:=by have:=N_ (h:=h) (rn 0) (λl hl=>by obtain⟨i,_,rfl⟩:=EO hl;rfl) (2*h) (cH _);rwa[eW (by rw[xg];exact cH _)]at this
def Xc{i:Nat}(H:i<=2*h):dP (jt h) i=(i%2==0):=by unfold dP;rw[N_ (h:=h) af.aN ZZ i H]
def N3(i:Nat):ei (jt h) ⟨1,0,((i+1:Nat):Int),0,0,false⟩=i:=by unfold ei;have:ig (jt h) 0=0:=rfl;simp only[Int.toNat_zero,this,nY];omega
def am8:rM 1 (jt h):=by
 refine(M6 (F:=1)).2 ⟨?_,?_,?_⟩
 .rw[xM];intro l hl;obtain⟨i,_,rfl⟩:=EO hl;simp[ek]
 .refine(D4 (F:=1) λl hl hp=>?_).2 ⟨λl hl hp=>?_,λi j l m g f _ _ n=>?_⟩
  .obtain⟨i,_,rfl⟩:=EO hl;exact⟨aG,aG⟩
  .obtain⟨i,u,rfl⟩:=EO hl;refine⟨aG,aG,by simp;omega,?_⟩;show((i+1:Nat):Int)<=(dY (jt h) (0:Int).toNat:Int);rw[Int.toNat_zero,amX];omega
  have i1:=(ct.1 g).1;have i2:=(ct.1 f).1;rw[xg]at i1 i2;rw[B6 i1]at g;rw[B6 i2]at f;cases g;cases f;rw[N3,N3]at n;exact n
 unfold lA;have q:fg (jt h) (I (jt h))=[]:=by
  have:∀k,k<=2*h->fg (jt h) k=[]:=by
   intro k
   induction k with
   |zero=>intro _;rfl
   |succ k r=>intro H;unfold fg;rw[B6 (show k<2*h by omega),r J];rfl
  exact this _ (by rw[xg];exact cH _)
 rw[q,agl];simp only[cq];refine⟨⟨rfl,gL.2 λk H=>?_⟩,rfl⟩;have H:=f_.1 H;rw[xg]at H;unfold kx;rw[B6 H];rfl
def arC(j:h<=500000):gC 1 (jt h):=by
 obtain⟨B,n,f⟩:=(M6 (F:=1)).1 (am8 (h:=h));have m:∀l∈jt h,ek 1 l=false:=λl hl=>by simpa using xM.1 B l hl
 have H:qN 1 (jt h):=λl hl hp=>((Ao hp).1 (m l hl)).1.1.1;obtain⟨g1,g⟩:=(D4 H).1 n;exact⟨by rw[xg];omega,⟨g1,g⟩,f,λl hl=>KC (m l hl)⟩
def abd:I (aH (jt h))=2*h:=by rw[F_,aqJ]
def aaI(f:h<=500000){i:Nat}(H:i<2*h):(aH (jt h)).idxOf i=i:=by rw[E0 (arC f).ax (B6 H) rfl,N3]
def ab4(f:h<=500000){e:Nat}(g:e<2*h):bZ (jt h) (2*e)=if((e+1)%(2*h))%2=0 then 4*h+2*((e+1)%(2*h))else 4*h+2*(((e+1)%(2*h)+2*h-1)%(2*h))+1:=by
 have H:=fO (e+1) (show 0<2*h by omega);show fz _ _ _=_;unfold fz;rw[xg,abd,aD J];have E:(2*e%2==0):=aG;simp only[E,if_true,show 2*e/2=e by omega,B6 H,aaI f H,Xc (Nat.le_of_lt H)];generalize(e+1)%(2*h)=m;by_cases c:m%2=0
 .simp[c];omega
 simp[c];omega
def VY(f:h<=500000){e:Nat}(H:e<2*h):bZ (jt h) (2*e+1)=if e%2=0 then 4*h+2*((e+2*h-1)%(2*h))+1 else 4*h+2*e:=by
 show fz _ _ _=_;unfold fz;rw[xg,abd,aD J];have E:((2*e+1)%2==0)=false:=aG;simp only[E,ib,if_false,show(2*e+1)/2=e by omega,B6 H,aaI f H,Xc (Nat.le_of_lt H)];by_cases c:e%2=0
 .simp[c];omega
 have:(e%2==0)=false:=by simpa using c
 simp[c];omega
end
end
end Go.Abs
