/-
  The normal form of a code, as the document makes it.
-/
import Derived.Test.YtkdkhndppjfpmaaGreatDoorRa
import Derived.Test.YtkdkhndppjfpmaaGreatDoorDc
set_option linter.all false
open List renaming length->I
set_option maxRecDepth 100000
set_option maxHeartbeats 16000000
namespace Go.Abs
variable{z f:ai}{g:q_}
def tY(x:q_):PV:=if x=[]then .nils else .sl x
def ym(x:q_):(tY x).norm=.sl x:=by
 unfold tY;by_cases h:x=[]
 .rw[aD h,h];rfl
 rw[aC h];rfl
def ajR{aj:aN}{s T z:Nat}(lo:S.lone s):fg aj [] s ((RV.one (cF T z g)).fR (S.lone s))=some (.one (.p (tY g)),[]):=by
 rw[lo];unfold cF tY;by_cases h:g=[]
 .rw[aD h,aD h];rfl
 rw[aC h,aC h];rfl
abbrev ae6:Nat:=3
def anR(x:aa):aK S 88 [uT x] (.one (cF ae6 1 (fy (tO x)))):=by
 have e:∀b:Bool,fy (tO x)=[[.int .i64 x.kind],[.int .i64 x.gate],[.int .i64 x.ay],[.int .i64 x.id],[.int .i64 (if x.over then 1 else 0)],[.int .i64 x.sign]]:=λ_=>rfl;rw[ri (by rw[e true];simp),e true];refine bj atg ?_;cases h:x.over with
 |true=>simp only[go_sem,aaj,h];first|done|rfl
 |false=>simp only[go_sem,aaj,h];first|done|rfl
def ajN{α:Type}{a b:List α}{k:Nat}{x:α}(h:a.take k=b.take k)(f:a[k]?=some x)(H:b[k]?=some x):a.take (k+1)=b.take (k+1):=by rw[jT,jT,h,f,H]
def aAh:∀ {k:Nat}{a b:dd}{x y:Int},a.take k=b.take k->a[k]?=some x->b[k]?=some y->x≠y->r7 a b=decide (x<y):=by
 intro k
 induction k with
 |zero=>
  intro a b x y _ f H A;cases a with
  |nil=>cases f
  |cons p a=>
   cases b with
   |nil=>cases H
   |cons q b=>cases f;cases H;unfold r7;rw[aC A]
 |succ k g=>
  intro a b x y h f H A;cases a with
  |nil=>cases f
  |cons p a=>
   cases b with
   |nil=>cases H
   |cons q b=>simp only[Fo,Lz]at h;obtain⟨rfl,h⟩:=h;unfold r7;rw[aD rfl];exact g h f H A
def aws:∀ {k:Nat}{a b:ai}{x y:aa},a.take k=b.take k->a[k]?=some x->b[k]?=some y->my x y=false->ki a b=qN x y:=by
 intro k
 induction k with
 |zero=>
  intro a b x y _ f H A;cases a with
  |nil=>cases f
  |cons p a=>
   cases b with
   |nil=>cases H
   |cons q b=>cases f;cases H;unfold ki;rw[A];rfl
 |succ k g=>
  intro a b x y h f H A;cases a with
  |nil=>cases f
  |cons p a=>
   cases b with
   |nil=>cases H
   |cons q b=>simp only[Fo,Lz]at h;obtain⟨rfl,h⟩:=h;unfold ki;rw[zx,aD rfl];exact g h f H A
def arW(a b:dd)(hl:I a<=1000000)(M:I a=I b):aK S 87 [.one (.p (.sl (fy a))),.one (.p (.sl (fy b)))] (cO (r7 a b)):=by
 refine bj apq ?_;simp only[go_sem,agj,af,ao];refine dy (λk g aj=>g 0=.one (.p (.sl (fy a)))/\g 1=.one (.p (.sl (fy b)))/\g 5=aH k/\a.take k=b.take k) 0 (I a) (cG _) ?_ ?_
 .simp only[go_sem];first|done|rfl
 rintro k g aj N ⟨m,z,B,H⟩
 by_cases f:k<I a
 .have E:((k:Int)<(I a:Int)):=J;have A:k<I b:=J;have D:=cN (n:=k) J;obtain⟨x,u⟩:=aT f;obtain⟨y,j⟩:=aT A;have F:=xC u;have h:=xC j;by_cases v:x=y
  .subst v;have ae:=ajN H u j;simp only[go_sem,Vi,m,z,B,f,E,A,F,h,D,af,ao];first|done|exact⟨aA,ae⟩|exact⟨aA,f,ae⟩|trace_state
  have L:(x !=y):=by simpa using v
  rw[aAh H u j v];simp only[go_sem,Vi,m,z,B,f,E,A,F,h,D,L,af,ao];first|done|exact aA|exact⟨aA,aA⟩|exact⟨aA,aA,rfl⟩|trace_state
 have:k=I a:=J;subst this;have e:a=b:=by rw[fx (c3 _),fx J]at H;exact H
 subst e;rw[ato];simp only[go_sem,Vi,aiT,m,z,B,eR,af,ao];first|done|rfl
def aqD(f ab:Int)(A B:ai)(hl:I A<=1000000)(fV:I A=I B):aK S 49 [c_ f A,c_ ab B] (cO (ki A B)):=by
 have Z:S.lone 3136320320:=ah;have jE:S.lone 3136320704:=ah;refine bj aAF ?_;simp only[go_sem,aeF];refine dy (λk m aj=>m 2=.one (.bm 3136000000 1 0)/\m 3=.one (.bm 3136000064 1 0)/\m 5=aH k/\aj 3136000000=(1,some (.var (qg f A)))/\aj 3136000064=(1,some (.var (qg ab B)))/\A.take k=B.take k) 0 (I A) (cG _) ?_ ?_
 .simp only[go_sem];first|done|rfl
 rintro k m aj hk ⟨z,L,D,b0,v,H⟩
 by_cases j:k<I A
 .have O:((k:Int)<(I A:Int)):=J;have F:k<I B:=J;have N:=cN (n:=k) J;obtain⟨x,M⟩:=aT j;obtain⟨y,E⟩:=aT F;have Q:=gb M;have h:=gb E;have g:=C0 x y;cases u:my x y with
  |true=>rw[u]at g;have T:=(I2 x y).1 u;subst T;have ae:=ajN H M E;simp only[go_sem,Sh,z,L,D,b0,v,j,O,F,Q,h,aa.ps,N,g,bne];first|done|exact⟨aA,ae⟩|exact⟨aA,j,ae⟩|trace_state
  |false=>rw[u]at g;have Y:=anR x;have R:=anR y;have aJ:(tY (fy (tO x))).norm=.sl (fy (tO x)):=ym _;have X:(tY (fy (tO y))).norm=.sl (fy (tO y)):=ym _;have pl:=arW (tO x) (tO y) (by unfold tO;simp) rfl;rw[aws H M E u,N6];generalize r7 (tO x) (tO y)=r at pl |-;generalize tO x=kx at*;generalize tO y=ky at*;simp only[go_sem,Sh,z,L,D,b0,v,j,O,F,Q,h,aa.ps,N,g,bne,aqW,fp Y (ajR Z),fp R (ajR jE),aJ,X,ayd,dq pl];first|done|exact aA|exact⟨aA,aA⟩|exact⟨aA,aA,rfl⟩|trace_state
 have:k=I A:=J;subst this;have e:A=B:=by rw[fx (c3 _),fx J]at H;exact H
 subst e;rw[T7];simp only[go_sem,Sh,amW,z,L,D,b0,v,eR];first|done|rfl
def aiV:∀ {k:Nat}{l:dd}{x:Int},l[k]?=some x->x∉l.take k->l.idxOf x=k:=by
 intro k
 induction k with
 |zero=>
  intro l x h _;cases l with
  |nil=>cases h
  |cons a l=>cases h;rw[List.idxOf_cons_self]
 |succ k f=>
  intro l x h H;cases l with
  |nil=>cases h
  |cons a l=>
   simp only[Fo,dr,za]at H;have e:(a==x)=false:=by rw[sK];exactλe=>H.1 e.symm
   rw[UK,e,cond_false,f h H.2]
def Ea(l:dd)(x:Int):Int:=if l.contains x then(l.idxOf x:Int)else -1
def agh(l:dd)(x:Int)(hl:I l<=1000000):aK S 85 [.one (.p (.sl (fy l))),aH x] (ja (Ea l x)):=by
 generalize H:Ea l x=r;unfold Ea at H;refine bj aks ?_;simp only[go_sem,abw,af,ao];refine dy (λk f aj=>f 0=.one (.p (.sl (fy l)))/\f 1=aH x/\f 5=aH k/\x∉l.take k) 0 (I l) (cG _) ?_ ?_
 .simp only[go_sem];first|done|simp|exact⟨rfl,aP⟩
 rintro k f aj M ⟨u,y,z,g⟩
 by_cases A:k<I l
 .have F:((k:Int)<(I l:Int)):=J;have D:=cN (n:=k) J;obtain⟨m,j⟩:=aT A;have E:=xC j;by_cases v:m=x
  .subst v;have B:l.contains m:=GN.2 (bR j);rw[B,aD rfl,aiV j g]at H;subst H;simp only[go_sem,Lr,u,y,z,A,F,E,D,af,ao];first|done|rfl
  have L:(m==x)=false:=by simpa using v
  have N:x∉l.take (k+1):=by
   rw[jT,j];intro h;rcases iW.1 h with h|h
   .exact g h
   simp at h;exact v h.symm
  simp only[go_sem,Lr,u,y,z,A,F,E,D,L,af,ao];first|done|exact N|exact⟨A,N⟩|trace_state
 have:k=I l:=J;subst this;rw[lA]at g;have B:l.contains x=false:=by
  cases h:l.contains x with
  |false=>rfl
  |true=>exact absurd (GN.1 h) g
 rw[B]at H;have H: -1=r:=H;subst H;simp only[go_sem,Lr,alz,u,y,z,eR,af,ao];first|done|rfl
def D9(s:dd)(x:aa):dd:=if x.kind==2 then(if s.contains x.id then s else s++[x.id])else s
def DE(s:dd)(x:aa):aa:=if x.kind==2 then(if s.contains x.id then{x with id:=((s.idxOf x.id+1:Nat):Int)}else{x with id:=((I s+1:Nat):Int)})else x
def Wt(s:dd)(x:aa)(r:ai):lT s (x::r)=DE s x::lT (D9 s x) r:=by
 unfold DE D9;rw[lT];by_cases h:(x.kind==2)
 .rw[aD h,aD h,aD h];by_cases H:s.contains x.id
  .rw[aD H,aD H,aD H]
  rw[aC H,aC H,aC H]
 rw[aC h,aC h,aC h]
def arf:∀(a b:ai) (s:dd),lT s (a++b)=lT s a++lT (a.foldl D9 s) b:=by
 intro a
 induction a with
 |nil=>intro b s;rfl
 |cons x r f=>intro b s;rw[Bv,Wt,Wt,f];rfl
def xo(f:ai)(k:Nat):ai:=lT [] (f.take k)++f.drop k
def Au(f:ai)(k:Nat):dd:=(f.take k).foldl D9 []
section
variable {f:ai} {k:Nat} {x:aa}
def ay5(f:ai)(k:Nat):I (xo f k)=I f:=by unfold xo;rw[gT,HP,<-gT,nu]
def VZ(h:f[k]?=some x):I (lT [] (f.take k))=k:=by have:=(cn.1 h).1;rw[HP,gX];omega
def aj2(h:f[k]?=some x):f.drop k=x::f.drop (k+1):=by obtain⟨j,g⟩:=cn.1 h;rw[<-tj j,g]
def alE(h:f[k]?=some x):(xo f k)[k]?=some x:=by unfold xo;rw[wY (by rw[VZ h];exact c3 _),VZ h,zB,aj2 h];rfl
def amv(h:f[k]?=some x):Au f (k+1)=D9 (Au f k) x:=by unfold Au;rw[jT,h,BN];rfl
def aDg(h:f[k]?=some x):(xo f k).set k (DE (Au f k) x)=xo f (k+1):=by
 have e:lT [] (f.take (k+1))=lT [] (f.take k)++[DE (Au f k) x]:=by rw[jT,h];show lT [] (f.take k++[x])=_;rw[arf,Wt];rfl
 unfold xo;rw[e,IZ _ _ (by rw[VZ h];exact c3 _),VZ h,zB,aj2 h,sn];rfl
def aAq(f:ai):∀k,I (Au f k)<=k:=by
 intro k
 induction k with
 |zero=>exact c3 _
 |succ k g=>
  by_cases h:k<I f
  .obtain⟨x,H⟩:=aT h;rw[amv H];unfold D9;split
   .split
    .omega
    rw[gT];simp;omega
   omega
  unfold Au at g |-;rw[fx J]at g |-;omega
end
def aAi{aj:aN}{s:Nat}{x y:PV}{l:Bool}:fg aj [] s ((RV.agg [.p x,.p y]).fR l)=some (.agg [.p x,.p y],[]):=by cases l<;>rfl
def adY(ac:Int)(f:ai)(hl:I f<=1000000):aK S 45 [c_ ac f] (.agg [.p (.int .i64 ac),cF eo 6 (bP (kU f))]):=by
 have pc:=Z_ ac f hl;by_cases aO:f=[]
 .subst aO;have pc:aK S 44 [.agg [.p (.int .i64 ac),.p (.sl [])]] (.agg [.p (.int .i64 ac),.p .nils]):=pc;refine bj ajT ?_;simp only[go_sem,abU,VQ,aU pc aAi];refine sZ ?_;have z0:¬((0:Int)<((0:Nat):Int)):=U;simp only[go_sem,KH,W5,z0];first|done|rfl
 have lo:S.lone 2880064064=false:=ah;refine bj ajT ?_;simp only[go_sem,abU,VQ];refine LQ pc lo rfl (AK _) λcc lh gc fX=>?_;have q0:=fX 2880000000 U;have q1:=fX 2880000064 U;simp only[go_sem]at q0 q1;rcases gc with⟨h,_⟩|⟨_,gg,e2,hC⟩
 .exact absurd (List.map_eq_nil_iff.1 h) aO
 cases e2;have hC:lh 2880064065=(gg,some (.arr eo 6 (bP f))):=hC;rw[mV];simp only[go_sem,q0,q1,hC];obtain⟨g1,CL⟩:∃g1,(lh 2880064128).1+1=g1:=⟨_,rfl⟩;rw[CL];refine dy (λk z aj=>z 1=.one (.bm 2880000000 1 0)/\z 2=.one (.bm 2880000064 1 0)/\z 3=.one (.bm 2880064128 g1 0)/\z 5=aH k/\aj 2880000000=(1,some (.var (qg ac f)))/\aj 2880000064=(1,some (.var [.p (.int .i64 0),.p .nils]))/\aj 2880064128=(g1,some (.var [.p (.int .i64 ac),.hsl 2880064065 gg 6 0 (I f)]))/\aj 2880064065=(gg,some (.arr eo 6 (bP (xo f k))))/\ ∃c,z 4=.one c/\cg 2880512512 ae6 1 (fy (Au f k)) (.one c) aj) 0 (I f) (cG _) ?_ ?_
 .simp only[go_sem,q0,q1,hC];have e0:xo f 0=f:=rfl;rw[e0];repeat' apply And.intro
  all_goals first|rfl|exact⟨_,rfl,cg.nil⟩
 rintro k z aj hk ⟨Q,D,F,R,b0,N,X,B,c,Z,y⟩
 by_cases A:k<I f
 .have Y:((k:Int)<(I f:Int)):=J;have w1:=cN (n:=k) J;obtain⟨x,L⟩:=aT A;have fY:=gb (alE L);have Dc:=gb L;have Af:k<I (xo f k):=by rw[ay5];exact A
  have v:=amv L;have E:=aDg L;have im:=aAq f k;have ad:=alE L;generalize xo f k=ch at*;generalize Au f k=s at*;cases u:(x.kind==2)with
  |false=>
   have TA:(x.kind !=2):=by rw[bne,u];rfl
   have g:Au f (k+1)=s:=by rw[v];unfold D9;rw[u];rfl
   have eW:xo f (k+1)=ch:=by
    rw[<-E];have e:DE s x=x:=by unfold DE;rw[u];rfl
    rw[e];apply yV;intro j;rw[mT];by_cases e:k=j
    .subst e;rw[aD rfl,aD Af,ad]
    rw[aC e]
   simp only[go_sem,KH,Q,D,F,Z,R,b0,N,X,B,A,Y,fY,aa.ps,TA,w1];rw[g,eW];first|exact⟨rfl,_,rfl,y⟩|exact⟨A,rfl,_,rfl,y⟩|trace_state
  |true=>
   have TA:(x.kind !=2)=false:=by rw[bne,u];rfl
   obtain⟨rd,dL,uB⟩:=y.GJ;have M:=agh s x.id J;cases H:s.contains x.id with
   |true=>
    have ea:Ea s x.id=(s.idxOf x.id:Int):=by unfold Ea;rw[H,aD rfl]
    rw[ea]at M;have lZ:s.idxOf x.id<=I s:=List.idxOf_le_length;have ap:¬((s.idxOf x.id:Int)<0):=J;have w2:=cN (n:=s.idxOf x.id) J;have g:Au f (k+1)=s:=by rw[v];unfold D9;rw[u,H];rfl
    have ey:DE s x={x with id:=((s.idxOf x.id+1:Nat):Int)}:=by unfold DE;rw[u,H];rfl
    rw[ey]at E;generalize s.idxOf x.id=ix at*;simp only[go_sem,KH,Q,D,F,Z,R,b0,N,X,B,A,Y,fY,Dc,Af,aa.ps,TA,w1,w2,dL,IN,dJ M,dp M,ap,mV,jo];rw[g,<-E];refine⟨?_,?_⟩
    .rcases uB with rfl|rfl<;>kernel_rfl
    rw[J2 _ _ {x with id:=((ix+1:Nat):Int)} (by simp[aa.ps])];first|exact⟨rfl,_,rfl,y.of_eq (by simp only[cD,Nat.reduceEqDiff,if_false])⟩|exact⟨A,rfl,_,rfl,y.of_eq (by simp only[cD,Nat.reduceEqDiff,if_false])⟩|trace_state
   |false=>
    have ea:Ea s x.id= -1:=by unfold Ea;rw[H];rfl
    rw[ea]at M;have ab:(-1:Int)<0:=U;have JN:x.id∉s:=λh=>by have:=GN.2 h;rw[H]at this;cases this
    have g:Au f (k+1)=s++[x.id]:=by rw[v];unfold D9;rw[u,H];rfl
    have ey:DE s x={x with id:=((I s+1:Nat):Int)}:=by unfold DE;rw[u,H];rfl
    have O:=agh (s++[x.id]) x.id (by simp;omega);have ag:Ea (s++[x.id]) x.id=(I s:Int):=by unfold Ea;have lz:(s++[x.id]).contains x.id:=GN.2 aP;rw[lz,aD rfl,aiV (k:=I s) aP (by rw[Kq];exact JN)]
    rw[ag]at O;have w2:=cN (n:=I s) J;rw[ey]at E;simp only[go_sem,KH,Q,D,F,Z,R,b0,N,X,B,A,Y,fY,Dc,Af,aa.ps,TA,dL,IN,dJ M,ab];refine th (id:=2880512512) (y:=2880512512) (j:=fy s) (B:=[[.int .i64 x.id]]) (y.of_eq (by simp only[cD,Nat.reduceEqDiff,if_false])) (by simp only[js,cD,if_true];rfl) (.inl rfl) (by simp only[sT,dW,fU];omega) λc2 bh m aW=>?_
    rw[show fy s++[[.int .i64 x.id]]=fy (s++[x.id]) by simp[fy]]at m;have d0:=aW 2880000000 U U;have d1:=aW 2880000064 U U;have d2:=aW 2880064128 U U;have d3:=aW 2880064065 U U;simp only[go_sem,b0,N,X,B]at d0 d1 d2 d3;obtain⟨ar,am,aq⟩:=m.GJ;simp only[go_sem,Q,D,F,R,d0,d1,d2,d3,A,Y,fY,Dc,Af,aa.ps,w1,w2,am,IN,dp O,mV,jo];rw[g,<-E];refine⟨?_,?_⟩
    .rcases aq with rfl|rfl<;>kernel_rfl
    rw[J2 _ _ {x with id:=((I s+1:Nat):Int)} (by simp[aa.ps])];first|exact⟨rfl,_,rfl,m.of_eq (by simp only[cD,Nat.reduceEqDiff,if_false])⟩|exact⟨A,rfl,_,rfl,m.of_eq (by simp only[cD,Nat.reduceEqDiff,if_false])⟩|trace_state
 have PM:k=I f:=J;subst PM;have eW:xo f (I f)=kU f:=by unfold xo kU;rw[lA,K7,rT]
 rw[eW]at B;have T:I (kU f)=I f:=zn f;simp only[go_sem,KH,W5,Q,D,F,Z,R,b0,N,X,B,eR];refine Fb (.inr ⟨λe=>aO (vj.1 (by rw[<-T,<-mV,e];rfl)),gg,by rw[mV,T],?_⟩);simp only[cD,Nat.reduceEqDiff,if_false];exact B
def as7(F:Int)(f:ai)(i:Nat)(H:i<I f)(hl:I f<=1000000):aK S 48 [c_ F f,aH i] (.agg [.p (.int .i64 F),cF eo 6 (bP (fZ f i))]):=by
 have L:i<=I f:=J;have h:=vL f;have n:(List.drop i (bP f)).take (I f-i)=bP (f.drop i):=by rw[fx (by rw[kV,mV];exact c3 _)];exact u_.symm
 have T:List.take i (bP f)=bP (f.take i):=uJ.symm;refine bj atU ?_;simp only[go_sem,aiO,mV,L,h,n];refine qe (id:=3072064384) (y:=3072064384) (bytes:=48) cg.nil (B:=bP (f.drop i)) (rd:=[]) rfl (.inr (vL _)) (by simp;omega) λM z r1 y g1 B v=>?_;have j:=B 3072000000 U U;have Q:=B 3072000064 U U;simp only[go_sem]at j Q;rw[iZ]at g1;simp only[go_sem,j,Q,mV,L,h,T];refine qe (id:=3072064384) (y:=3072064704) (bytes:=48) g1 (B:=bP (f.take i)) (rd:=[]) rfl (.inr (vL _)) (by simp;omega) λx D R E m A u=>?_
 have g:=A 3072000064 U U;simp only[go_sem,Q]at g;rw[show bP (f.drop i)++bP (f.take i)=bP (fZ f i) by unfold fZ;rw[Uq]]at m;simp only[go_sem,g];refine⟨?_,Fb (m.of_eq (by simp only[cD,Nat.reduceEqDiff,if_false]))⟩;rcases v with⟨rfl,rfl⟩|⟨rfl,rfl⟩|⟨rfl,rfl⟩<;>rcases u with⟨rfl,rfl⟩|⟨rfl,rfl⟩|⟨rfl,rfl⟩<;>kernel_rfl
def yD(f:ai):dS:=(List.range (I f)).map λj=> !bN f (I f-1-j)
def amM(f:ai):I (yD f)=I f:=by simp[yD]
def alZ{k:Nat}(h:k<I f):(yD f)[k]?=some (!bN f (I f-1-k)):=by unfold yD;rw[ig,qI h];rfl
def ajV{k:Nat}(h:k<I f):f.reverse[k]?=f[I f-1-k]? :=J5 h
def ayN(f:ai):lp f.reverse (yD f)=rQ f:=by
 have e:Ja f.reverse (yD f)=(List.range (I f)).find? (Jb f):=by
  unfold Ja;rw[jl];refine adT λk h=>?_;have h:=gN.1 h;have n:k<I f.reverse:=by rw[jl];exact h
  have H:=jx n;have m:I f-1-k<I f:=J;unfold G0 Jb;rw[H,alZ h];simp only;have g:(ld f).getD (I f-1-k) false=km f (I f-1-k):=by unfold ld;rw[dC,ig,qI m];rfl
  rw[g];unfold km;rw[ajV h]at H;rw[H];simp only;cases j:((aY f.reverse k).kind==1)with
  |false=>rfl
  |true=>have:(aY f.reverse k).aI:=j;rw[this];rfl
 unfold lp rQ;rw[e];cases(List.range (I f)).find? (Jb f)<;>rfl
def avD(Y:Int)(f:ai)(hl:I f<=1000000):aK S 46 [c_ Y f] (.agg [.p (.int .i64 Y),cF eo 6 (bP (rQ f))]):=by
 have lo:S.lone 2944512128=false:=ah;have ps:=aeu Y f.reverse (yD f) (by rw[jl];exact hl) (by rw[amM,jl]);rw[ayN]at ps;have w0:IntKind.i64.wrap ((I f:Int)-1)=(I f:Int)-1-((0:Nat):Int):=by rw[kA J J];omega
 refine bj aB8 ?_;simp only[go_sem,i46,w0];refine dy (λk A aj=>A 1=.one (.bm 2944000000 1 0)/\A 2=.one (.bm 2944000064 1 0)/\A 3=.one (.bm 2944064192 1 0)/\A 5=.one (.p (.int .i64 ((I f:Int)-1-(k:Int))))/\aj 2944000000=(1,some (.var (qg Y f)))/\aj 2944000064=(1,some (.var [.p (.int .i64 0),.p .nils]))/\ ∃c d,aj 2944064192=(1,some (.var [.p (.int .i64 Y),c]))/\A 4=.one d/\cg 2944384512 eo 6 (bP (f.reverse.take k)) (.one c) aj/\cg 2944448384 4 1 (dB ((yD f).take k)) (.one d) aj) 0 (I f) (cG _) ?_ ?_
 .simp only[go_sem];repeat' apply And.intro
  all_goals first|rfl|exact⟨_,_,rfl,rfl,cg.nil,cg.nil⟩
 rintro k A aj hk ⟨m,h,n,H,b0,B,c,d,Q,u,O,gd⟩
 by_cases L:k<I f
 .have e5:(I f:Int)-1-(k:Int)=((I f-1-k:Nat):Int):=J;rw[e5]at H;have X:(0:Int)<=((I f-1-k:Nat):Int):=J;have w1:IntKind.i64.wrap (((I f-1-k:Nat):Int)-1)=(I f:Int)-1-((k+1:Nat):Int):=by rw[kA J J];omega
  have hj:I f-1-k<I f:=J;obtain⟨x,hx⟩:=aT hj;have fY:=gb hx;have pd:=I_ Y f (I f-1-k) hl J;have jZ:f.reverse.take (k+1)=f.reverse.take k++[x]:=by rw[jT,ajV L,hx];rfl
  have T:(yD f).take (k+1)=(yD f).take k++[!bN f (I f-1-k)]:=by rw[jT,alZ L];rfl
  generalize bN f (I f-1-k)=dv at*;generalize (I f)-1-k=j at*;simp only[go_sem,abZ,m,h,n,u,H,b0,B,Q,X,hj,fY,aa.ps];refine qe (id:=2944384512) (y:=2944384512) (bytes:=48) (j:=bP (f.reverse.take k)) (O.of_eq (by simp only[cD,Nat.reduceEqDiff,if_false])) (B:=[x.ps]) (rd:=[2944384448]) (by simp only[js,cD,if_true];rfl) (.inl rfl) (by simp;omega) λc1 bG r1 Cj g1 y iV=>?_
  rw[show bP (f.reverse.take k)++[x.ps]=bP (f.reverse.take (k+1)) by rw[jZ];simp]at g1;have z:=y 2944000000 U U;have v:=y 2944000064 U U;have D:=y 2944064192 U U;have Z:=y 2944448384 U U;simp only[go_sem,b0,B,Q]at z v D Z;have F:=gd.of_eq Z;simp only[go_sem,m,h,n,u,H,z,v,D];refine⟨?_,?_⟩
  .rcases iV with⟨rfl,rfl⟩|⟨rfl,rfl⟩|⟨rfl,rfl⟩<;>kernel_rfl
  simp only[go_sem,m,h,n,u,H,z,v,D,zP,au pd];refine th (id:=2944448384) (y:=2944448384) (j:=dB ((yD f).take k)) (B:=[[.bool (!dv)]]) (F.of_eq (by simp only[cD,Nat.reduceEqDiff,if_false])) (by simp only[js,cD,if_true];rfl) (.inl rfl) (by simp;omega) λM bh g2 E=>?_;rw[show dB ((yD f).take k)++[[.bool (!dv)]]=dB ((yD f).take (k+1)) by rw[T];simp]at g2;have f0:=E 2944000000 U U;have f1:=E 2944000064 U U;have f2:=E 2944064192 U U;have f3:=E 2944384512 U U;simp only[go_sem,z,v,D]at f0 f1 f2 f3;simp only[go_sem,m,h,n,H,f0,f1,f2,w1];exact⟨L,c1,M,rfl,rfl,g1.of_eq f3,g2⟩
 have PM:k=I f:=J;subst PM;have X:¬(0:Int)<=(I f:Int)-1-(I f:Int):=J;rw[fx (by rw[jl];exact c3 _)]at O;rw[fx (by rw[amM];exact c3 _)]at gd;obtain⟨rc,N,_⟩:=O.GJ;obtain⟨rd,R,_⟩:=gd.GJ;simp only[go_sem,abZ,anT,m,h,n,u,H,b0,B,Q,X,N,R,ae8];refine LQ ps lo rfl (AK _) λcc mW g3 iL=>?_;have m1:=iL 2944000064 U;simp only[go_sem,B]at m1;simp only[go_sem,h,m1];exact Fb (g3.of_eq (by simp only[cD,Nat.reduceEqDiff,if_false]))
def PY(l:ai)(z:ai)(i:Nat):ai:=if ze l i&&ki (kU (fZ l i)) z then kU (fZ l i)else z
def nj(z l:ai)(n:Nat):ai:=(List.range n).foldl (PY l) z
def Xt(z l:ai)(n:Nat):nj z l (n+1)=PY l (nj z l n) n:=by unfold nj;rw[rN,BN];rfl
def alF{l:ai}(h:I z=I l):∀n,I (nj z l n)=I l:=by
 intro n
 induction n with
 |zero=>exact h
 |succ n f=>
  rw[Xt];unfold PY;split
  .rw[zn,Bs]
  exact f
def AF(f:ai):ai:=nj (nj (kU f) f (I f)) (rQ f) (I f)
def L_{aj:aN}{s T z:Nat}{x:PV}(lo:S.lone s):fg aj [] s ((RV.agg [.p x,cF T z g]).fR (S.lone s))=some (.agg [.p x,.p (tY g)],[]):=by
 rw[lo];unfold cF tY;by_cases h:g=[]
 .rw[aD h,aD h];rfl
 rw[aC h,aC h];rfl
def aB4(l:ai)(i:Nat):ze l i=(((aY l i).kind==1)&&bN l i):=by unfold ze bN;congr 1
section
variable {F:Nat} {f:ai}
def af7{X:ai}(hX:I X<=400)(hz:I z=I X){g:Nat}{f:ct}{aj:aN}{Q:hs}(L:f 3=.one (.bm 1280064128 1 0))(f6:f 6=.one (.bm 1280384256 g 0))(f7:f 7=aH 0)(b3:aj 1280064128=(1,some (.var [.p (.int .i64 F),.p (tY (bP z))])))(b6:aj 1280384256=(g,some (.var [.p (.int .i64 F),.p (eg X)])))
  (hQ:∀A h,A 2=f 2->A 3=f 3->A 4=f 4->A 5=f 5->h 1280064128=(1,some (.var [.p (.int .i64 F),.p (tY (bP (nj z X (I X))))]))->h 1280000064=aj 1280000064->h 1280128192=aj 1280128192->Q .normal A h):ch S .all (.loop Ht) (oR 2 Q) f aj:=by
 have jk:S.lone 1280704128:=ah;have jE:S.lone 1280704192:=ah;refine dy (λi A h=>A 2=f 2/\A 3=f 3/\A 4=f 4/\A 5=f 5/\A 6=.one (.bm 1280384256 g 0)/\A 7=aH i/\h 1280064128=(1,some (.var [.p (.int .i64 F),.p (tY (bP (nj z X i)))]))/\h 1280384256=(g,some (.var [.p (.int .i64 F),.p (eg X)]))/\h 1280000064=aj 1280000064/\h 1280128192=aj 1280128192) 0 (I X) (cG _) ⟨rfl,rfl,rfl,rfl,f6,f7,b3,b6,rfl,rfl⟩ ?_;rintro i A h hi ⟨g2,g3,g4,g5,v,B,c9,fB,T,R⟩
 have m:=g3.trans L;by_cases u:i<I X
 .have N:((i:Int)<(I X:Int)):=J;have M:=cN (n:=i) J;have hx:=jx u;have O:=gb hx;have ae:=Xt z X i;have im:=alF hz i;have ez:=aB4 X i;unfold PY at ae;rw[ez]at ae;cases H:((aY X i).kind==1)with
  |false=>
   rw[H]at ae;have ae:nj z X (i+1)=nj z X i:=ae;simp only[go_sem,Ht,m,v,B,c9,fB,u,N,O,aa.ps,H,M];rw[ae];repeat' apply And.intro
   all_goals first|assumption|rfl|exact L.symm
  |true=>
   have E:=I_ (F:Int) X i J J;rw[H]at ae;cases Y:bN X i with
   |false=>
    rw[Y]at E ae;have ae:nj z X (i+1)=nj z X i:=ae;simp only[go_sem,Ht,m,v,B,c9,fB,u,N,O,aa.ps,H,zP,au E,M];rw[ae];repeat' apply And.intro
    all_goals first|assumption|rfl|exact L.symm
   |true=>
    rw[Y]at E ae;have D:=as7 (F:Int) X i u J;have x:=adY (F:Int) (fZ X i) (by rw[Bs];omega);have j:=aqD (F:Int) (F:Int) (kU (fZ X i)) (nj z X i) (by rw[zn,Bs];omega) (by rw[zn,Bs,im]);have n1:=ym (bP (fZ X i));have n2:=ym (bP (kU (fZ X i)));have n3:=ym (bP (nj z X i));generalize nj z X i=z0 at*;generalize kU (fZ X i)=y at*;generalize fZ X i=r at*;cases Z:ki y z0 with
    |false=>
     rw[Z]at j ae;have ae:nj z X (i+1)=z0:=ae;simp only[go_sem,Ht,m,v,B,c9,fB,u,N,O,aa.ps,H,zP,au E,akN,aU D (L_ jk),n1,Wq,aU x (L_ jE),n2,n3,amh,au j,M];rw[ae];repeat' apply And.intro
     all_goals first|assumption|rfl|exact L.symm
    |true=>
     rw[Z]at j ae;have ae:nj z X (i+1)=y:=ae;simp only[go_sem,Ht,m,v,B,c9,fB,u,N,O,aa.ps,H,zP,au E,akN,aU D (L_ jk),n1,Wq,aU x (L_ jE),n2,n3,amh,au j,M];rw[ae];repeat' apply And.intro
     all_goals first|assumption|rfl|exact L.symm
 have nK:i=I X:=J;subst nK;simp only[go_sem,Ht,v,B,fB,eR];refine hQ _ _ ?_ ?_ ?_ ?_ c9 T R;all_goals(simp only[go_sem];assumption)
def aoS(hl:I f<=400):aK S 20 [c_ F f] (.agg [.p (.int .i64 F),.p (tY (bP (AF f)))]):=by
 have jk:S.lone 1280064064:=ah;have jE:S.lone 1280128128:=ah;have y:=adY (F:Int) f J;have u:=avD (F:Int) f J;have O:=KO f;have Y:=ym (bP (rQ f));refine bj aAg ?_;simp only[go_sem,i20,Wq,aU y (L_ jk),aDc,fp u (L_ jE),Y];refine⟨aA,?_⟩;have iV:IntKind.i64.wrap 1=1:=U;have T:IntKind.i64.wrap 2=2:=U;have L:(1:Int)<2:=U;have x:¬(2:Int)<2:=U;refine sZ ?_;simp only[go_sem,Sm];refine af7 (F:=F) (X:=f) (z:=kU f) (g:=1) hl (zn f) ?_ ?_ ?_ ?_ ?_ λgV R B E A v c9 j h=>?_
 any_goals first|rfl|(simp only[go_sem];done)
 simp only[go_sem]at B E A v j h;simp only[go_sem,Z2,v,iV];refine sZ ?_;simp only[go_sem,Sm,B,E,A,v,h,L];refine af7 (F:=F) (X:=rQ f) (z:=nj (kU f) f (I f)) (g:=(R 1280384256).1+1) J (by rw[alF (zn f),O]) ?_ ?_ ?_ ?_ ?_ λdK Z H M N D n m Q=>?_
 any_goals first|rfl|(simp only[go_sem,E,c9];done)
 simp only[go_sem,B,E,A,j]at H M N D m;rw[O]at n;have n:Z 1280064128=(1,some (.var [.p (.int .i64 F),.p (tY (bP (AF f)))])):=n;simp only[go_sem,Z2,D,T];refine sZ ?_;simp only[go_sem,Sm,ag7,H,M,N,D,n,m,x];first|done|rfl|trace_state
def amL{l:ai}{n m:Nat}(E:I z=m)(hl:I l=m):∀n,I (nj z l n)=m/\(nj z l n=z\/ ∃i,i<n/\ze l i/\nj z l n=kU (fZ l i))/\ki z (nj z l n)=false/\ ∀i,i<n->ze l i->ki (kU (fZ l i)) (nj z l n)=false:=by
 intro n
 induction n with
 |zero=>exact⟨E,.inl rfl,T7 _,λi h=>absurd h (pG _)⟩
 |succ n D=>
  obtain⟨A,j,v,x⟩:=D;rw[Xt];unfold PY;by_cases H:(ze l n&&ki (kU (fZ l n)) (nj z l n))
  .rw[aD H];rw[c6]at H;have tr:∀y,ki y (nj z l n)=false->ki y (kU (fZ l n))=false:=λy u=>by
    cases g:ki y (kU (fZ l n))with
    |false=>rfl
    |true=>rw[Q5 g H.2]at u;cases u
   refine⟨by rw[zn,Bs,hl],.inr ⟨n,J,H.1,rfl⟩,tr _ v,λi B f=>?_⟩;by_cases e:i=n
   .subst e;exact T7 _
   exact tr _ (x i J f)
  rw[aC H];refine⟨A,?_,v,λi B f=>?_⟩
  .rcases j with j|⟨i,a,b,c⟩
   .exact .inl j
   exact .inr ⟨i,J,b,c⟩
  by_cases e:i=n
  .subst e;cases g:ki (kU (fZ l i)) (nj z l i)with
   |false=>rfl
   |true=>exact absurd (by rw[f,g];rfl) H
  exact x i J f
def aAO(g:cE F f):AF f=gj f:=by
 obtain⟨hn,x,T⟩:=g.nor;obtain⟨D,X,a2,Z⟩:=amL (z:=kU f) (l:=f) (n:=0) (zn f) rfl (I f);obtain⟨b0,B,O,Q⟩:=amL (z:=nj (kU f) f (I f)) (l:=rQ f) (n:=0) D (KO f) (I f);have m:∀y,DT f y->ki y (AF f)=false:=by
  intro y u;have u:=(MQ g.even).2 u;unfold Bt at u;rcases iW.1 u with h|h
  .obtain⟨i,H,e⟩:=BC.1 h;split at e
   case isFalse=>cases e
   rename_i j;cases e;cases A:ki (kU (fZ f i)) (AF f)with
   |false=>rfl
   |true=>
    exfalso;have v:=Z i (gN.1 H) j;cases E:ki (AF f) (nj (kU f) f (I f))with
    |true=>rw[Q5 A E]at v;cases v
    |false=>have e:nj (kU f) f (I f)=AF f:=abH (D.trans b0.symm) O E;rw[e,A]at v;cases v
  obtain⟨i,H,e⟩:=BC.1 h;split at e
  case isFalse=>cases e
  rename_i j;cases e;exact Q i (gN.1 H) j
 have N:kU f∈Bt f:=by have hp:0<I f:=jH.2 g.ne;refine Qu _ (BC.2 ⟨0,gN.2 hp,?_⟩);rw[(W7 hp).2 g.ahZ,aD rfl];rw[show fZ f 0=f by unfold fZ;simp]
 have M:nj (kU f) f (I f)∈Bt f:=by
  rcases X with h|⟨i,H,j,h⟩
  .rw[h];exact N
  rw[h];refine Qu _ (BC.2 ⟨i,gN.2 H,?_⟩);rw[j,aD rfl]
 have R:AF f∈Bt f:=by
  have B:AF f=nj (kU f) f (I f)\/ ∃i,i<I f/\ze (rQ f) i/\AF f=kU (fZ (rQ f) i):=B;rcases B with h|⟨i,H,j,h⟩
  .rw[h];exact M
  rw[h];refine Aw _ (BC.2 ⟨i,gN.2 H,?_⟩);rw[j,aD rfl]
 have Y:I (AF f)=I f:=b0;have L:I (gj f)=I f:=Xd ((MQ g.even).2 x);exact abH (Y.trans L.symm) (T _ ((MQ g.even).1 R)) (m _ x)
end
end Go.Abs
