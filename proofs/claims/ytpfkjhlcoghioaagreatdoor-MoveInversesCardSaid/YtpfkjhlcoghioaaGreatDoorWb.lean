/- A part. -/
import Derived.Test.YtpfkjhlcoghioaaGreatDoorWa
set_option linter.all false
open List renaming length->I
set_option maxRecDepth 100000
set_option maxHeartbeats 16000000
namespace Go.Abs
variable{H z T f M L O R D X u:Nat}{B A y:cG}{m:bP}{Q:ib}{n:dy}
section
variable{h:ae}{F j E:Nat}{x:PV}
def fY.kG(_:fY F h):∀x∈aA h,x<I h:=λ_ H=>Xk H
def fY.hp(ok:fY F h):∀v l,h[v]?=some l->(l.kind==2)=false->v∈aA h:=λ_ l H f=>sX.2 ⟨l,H,ok.U4 H f⟩
abbrev aX(ls:ae):Nat:=2*I ls+2*I (aA ls)
theorem nc(ok:fY F h):B_ (aT h) (2*I h) (aX h):=by
 refine⟨by unfold aX;omega,λx H=>Wd ok.kG ok.hp H,λx y H n z=>arD ok H n z,λx H u=>?_⟩;have H:x<2*I h+2*I (aA h):=H;have f:∀k,k<I (aA h)->(aA h).getD k 0<I h:=λk m=>by obtain⟨v,j⟩:=aP m;rw[dM,j];exact ok.kG v (a8 j)
 show jd h _ x<_;unfold jd;rw[aI u];split
 .exact C4 (f _ (dB _ J))
 exact C4 (f _ J)
theorem ag4(next:Nat->Nat):∀(k x:Nat) (S:dK) (y:Nat),dO S y->dO (hU next k x S).2 y:=by
 intro k
 induction k with
 |zero=>intro x S y h;exact h
 |succ k f=>
  intro x S y h;unfold hU
  grind
theorem alZ(next:Nat->Nat)(k x:Nat)(S:dK)(h:BX S<k):dO (hU next k x S).2 x:=by
 cases k with
 |zero=>omega
 |succ k=>
  unfold hU;cases af:S.getD x true with
  |true=>simpa using af
  |false=>grind [ag4]
section
variable {next:Nat->Nat} {v N:Nat}
def anm{x:Nat}(h:x<N):dO (List.replicate N false) x=false:=by grind
def U7(m:B_ next v N):∀k,k<=v->QD next N (fJ next N k).2/\ ∀x,x<k->dO (fJ next N k).2 x:=by
 intro k
 induction k with
 |zero=>intro _;refine⟨λy H=>?_,λx h=>absurd h (oJ x)⟩;show dO (List.replicate N false) y=dO (List.replicate N false) _;rw[anm H,anm (m.lt y H)]
 |succ k f=>
  intro n;obtain⟨c,s⟩:=f J;have j:=m.le;rw[Bn];unfold wQ;cases af:(fJ next N k).2.getD k true with
  |true=>grind
  |false=>
   have Q:=Mx (fJ next N k).2;obtain _:=aFB m J ((fJ next N k).2.length+1) k (fJ next N k).2 (JU next N k) J (Inv.start c af) J
   grind [ag4,alZ]
def adv(m:B_ next v N):∀k,v<=k->k<=N->fJ next N k=fJ next N v:=by
 intro k
 induction k with
 |zero=>intro h _;rw[show v=0 by omega]
 |succ k f=>
  intro j H;by_cases e:v=k+1
  .rw[e]
  rw[Bn,f J J];obtain⟨c,s⟩:=U7 m v (cP _);unfold wQ;have:(fJ next N v).2.getD k true:=by show dO (fJ next N v).2 k=true;rw[c k J,s _ (m.ax k J J)]
  rw[this];rfl
end
def akj(f:Int)(h:ae)(e:Nat)(hl:I h<=1000000)(H:e<I h):aC S 67 [c7 f h,ai e] (cK (!dn h (e+1))):=by refine ba axg ?_;simp only[go_sem,aop,cg (n:=e) J,GS,cS (J_ f h (e+1) hl J)]
def ayt(w:aD)(R:I w<=1000000):aC S 92 [.one (.p (uX w))] (.one (bU 3 1 (aY w.reverse))):=by
 refine ba awb ?_;simp only[go_sem,apc,sq (a:=I w) J];refine cZ (λk m blk=>m 0=.one (.p (uX w))/\m 4=ai ((I w:Int)-1-(k:Int))/\a_ 5888320384 3 1 (aY (w.reverse.take k)) (m 3) blk) 0 (I w) (bj _) ?_ ?_
 .simp only[go_sem];refine⟨aG,.inl ⟨aG,rfl⟩⟩
 rintro k m blk T ⟨E,H,y⟩
 by_cases A:k<I w
 .have Q:((I w:Int)-1-(k:Int))=((I w-1-k:Nat):Int):=J;rw[Q]at H;have j:(0:Int)<=((I w-1-k:Nat):Int):=J;obtain⟨v,F⟩:=aP (show I w-1-k<I w by omega);have B:=i_ F;have z:IntKind.i64.wrap (((I w-1-k:Nat):Int)-1)=((I w:Int)-1-((k+1:Nat):Int)):=by
   rw[sq J];omega
  have O:w.reverse[k]?=some v:=by rw[Rj A];exact F
  have f:aY (w.reverse.take (k+1))=aY (w.reverse.take k)++[[.int .i64 (v:Int)]]:=by rw[jM,O];simp
  have u:I (aY (w.reverse.take k))=k:=fd
  rcases y with⟨e,h⟩|⟨L,g,h,x⟩
  .rw[e]at f u;have Y:k=0:=by simpa using u.symm
   simp only[go_sem,Rl,E,h,H,j,B,z,A,jl,gk];refine .inr ⟨by rw[f];simp,(blk 5888320384).1+1,?_,?_⟩
   .rw[f];rfl
   simp only[bG,if_true];rw[f];rfl
  rw[u]at h;have D:List.take k (aY (w.reverse.take k))=aY (w.reverse.take k):=eT J;have M:(k+1)*8<=140737488355328:=J;have N:k<=I (aY (w.reverse.take k)):=J;generalize aY (w.reverse.take k)=n at f u x D N;simp only[go_sem,Rl,E,h,H,j,B,z,A,x,D,M,N,jl,gk];refine .inr ⟨by rw[f];simp,g+1,?_,?_⟩
  .rw[f];simp[u]
  simp only[bG,if_true];rw[f]
 have:k=I w:=J;subst this;have j:¬(0:Int)<=((I w:Int)-1-(I w:Int)):=J;rw[eT aG]at y;rcases y with⟨e,h⟩|⟨L,g,h,x⟩
 .simp only[go_sem,Rl,aej,h,H,j];rw[bU,aI e]
 simp only[go_sem,Rl,aej,h,H,j];rw[bU,aE L];exact Ig x aG
abbrev d_(o:pI):dy:=o.map λp=>[PV.int .i64 (p.1:Int),PV.int .i64 (p.2:Int)]
def aan{o:pI}{k:Nat}{p:Nat×Nat}(h:o[k]?=some p):(d_ o)[k]?=some [.int .i64 (p.1:Int),.int .i64 (p.2:Int)]:=by simp[h]
def aFJ(w:pI)(R:I w<=1000000):aC S 91 [.one (.p (.sl (d_ w)))] (.one (bU 112 2 (d_ w.reverse))):=by
 refine ba aAP ?_;simp only[go_sem,ajG,sq (a:=I w) J];refine cZ (λk m blk=>m 0=.one (.p (.sl (d_ w)))/\m 4=ai ((I w:Int)-1-(k:Int))/\a_ 5824320384 112 2 (d_ (w.reverse.take k)) (m 3) blk) 0 (I w) (bj _) ?_ ?_
 .simp only[go_sem];refine⟨aG,.inl ⟨aG,rfl⟩⟩
 rintro k m blk T ⟨E,H,y⟩
 by_cases A:k<I w
 .have Q:((I w:Int)-1-(k:Int))=((I w-1-k:Nat):Int):=J;rw[Q]at H;have j:(0:Int)<=((I w-1-k:Nat):Int):=J;obtain⟨v,F⟩:=aP (show I w-1-k<I w by omega);have B:=aan F;have z:IntKind.i64.wrap (((I w-1-k:Nat):Int)-1)=((I w:Int)-1-((k+1:Nat):Int)):=by
   rw[sq J];omega
  have O:w.reverse[k]?=some v:=by rw[Rj A];exact F
  have f:d_ (w.reverse.take (k+1))=d_ (w.reverse.take k)++[[.int .i64 (v.1:Int),.int .i64 (v.2:Int)]]:=by rw[jM,O];simp
  have u:I (d_ (w.reverse.take k))=k:=fd
  rcases y with⟨e,h⟩|⟨L,g,h,x⟩
  .rw[e]at f u;have Y:k=0:=by simpa using u.symm
   simp only[go_sem,N_,E,h,H,j,B,z,A,jl,gk];refine .inr ⟨by rw[f];simp,(blk 5824320384).1+1,?_,?_⟩
   .rw[f];rfl
   simp only[bG,if_true];rw[f];rfl
  rw[u]at h;have D:List.take k (d_ (w.reverse.take k))=d_ (w.reverse.take k):=eT J;have M:(k+1)*16<=140737488355328:=J;have N:k<=I (d_ (w.reverse.take k)):=J;generalize d_ (w.reverse.take k)=n at f u x D N;simp only[go_sem,N_,E,h,H,j,B,z,A,x,D,M,N,jl,gk];refine .inr ⟨by rw[f];simp,g+1,?_,?_⟩
  .rw[f];simp[u]
  simp only[bG,if_true];rw[f]
 have:k=I w:=J;subst this;have j:¬(0:Int)<=((I w:Int)-1-(I w:Int)):=J;rw[eT aG]at y;rcases y with⟨e,h⟩|⟨L,g,h,x⟩
 .simp only[go_sem,N_,aet,h,H,j];rw[bU,aI e]
 simp only[go_sem,N_,aet,h,H,j];rw[bU,aE L];exact Ig x aG
def nZ(g r to:Nat):pI:=(g,r)::(List.range (to-g)).map λi=>(g+1+i,0)
def te(g to:Nat):aD:=(List.range (to-g)).map λi=>g+1+i
def nD(g r k:Nat):pI:=(g,r)::(List.range k).map λi=>(g+1+i,0)
def rY(g k:Nat):aD:=(List.range k).map λi=>g+1+i
def aFN(g r k:Nat):d_ (nD g r (k+1))=d_ (nD g r k)++[[.int .i64 ((g+1+k:Nat):Int),.int .i64 0]]:=by simp[nD,mJ]
def atH(g k:Nat):aY (rY g (k+1))=aY (rY g k)++[[.int .i64 ((g+1+k:Nat):Int)]]:=by simp[rY,mJ]
def aAF(g r k:Nat)(v:V)(blk:aH):Prop:=(k=0/\ ∃e,v=.one (.hsl 8896064192 e 2 0 1)/\blk 8896064192=(e,some (.arr 112 2 (d_ (nD g r 0)))))\/
 (k≠0/\ ∃e,v=.one (.hsl 8896384256 e 2 0 (k+1))/\blk 8896384256=(e,some (.arr 112 2 (d_ (nD g r k)))))
def azX(g r to:Nat)(hg:g<=1000)(hr:r<=1000000)(ht:to<=1000):aC S 139 [ai g,ai r,ai to] (.tup [.one (.own 112 2 (d_ (nZ g r to))),.one (bU 3 1 (aY (te g to)))]):=by
 refine ba aFn ?_;simp only[go_sem,ap4,cg (n:=g) J];refine cZ (λk m blk=>m 2=ai to/\m 10=ai ((g+1+k:Nat):Int)/\aAF g r k (m 8) blk/\a_ 8896448192 3 1 (aY (rY g k)) (m 9) blk) 0 (to-g) (bj _) ?_ ?_
 .simp only[go_sem];exact⟨.inl ⟨rfl,1,rfl,rfl⟩,.inl ⟨rfl,rfl⟩⟩
 rintro k m blk hk ⟨B,u,af,y⟩
 by_cases M:k<to-g
 .have h:((g+1+k:Nat):Int)<=(to:Int):=J;have L:=cg (n:=g+1+k) J;have hp:=aFN g r k;have hf:=atH g k;rcases af with⟨rfl,e,j,H⟩|⟨Y,e,j,H⟩
  .rcases y with⟨_,f⟩|⟨A,_⟩
   .have O:I (d_ (nD g r 0))=1:=by simp[nD]
    have D:List.take 1 (d_ (nD g r 0))=d_ (nD g r 0):=eT J;have N:1<=I (d_ (nD g r 0)):=J;generalize d_ (nD g r 0)=ps at hp H D N;simp only[go_sem,Pl,B,j,f,u,H,h,L,M,D,N,jl,gk];refine⟨.inr ⟨J,(blk 8896384256).1+1,rfl,?_⟩,.inr ⟨by simp[rY],(blk 8896448192).1+1,?_,?_⟩⟩
    .simp only[bG,if_true,reduceIte,Nat.reduceEqDiff];rw[hp]
    .rfl
    simp only[bG,if_true];rfl
   exact absurd rfl A
  rcases y with⟨E,_⟩|⟨A,F,f,z⟩
  .exact absurd E (by simp[rY];omega)
  have x:I (aY (rY g k))=k:=by simp[rY]
  have O:I (d_ (nD g r k))=k+1:=by simp[nD]
  rw[x]at f;have D:List.take (k+1) (d_ (nD g r k))=d_ (nD g r k):=eT J;have T:List.take k (aY (rY g k))=aY (rY g k):=eT J;have r1:(k+1+1)*16<=140737488355328:=J;have X:(k+1)*8<=140737488355328:=J;have N:k+1<=I (d_ (nD g r k)):=J;have v:k<=I (aY (rY g k)):=J;generalize d_ (nD g r k)=ps at hp H D N;generalize aY (rY g k)=fs at hf z T v x A;simp only[go_sem,Pl,B,j,f,u,H,z,h,L,M,D,T,r1,X,N,v,jl,gk];refine⟨rfl,.inr ⟨J,e+1,rfl,?_⟩,.inr ⟨by rw[hf];simp,F+1,?_,?_⟩⟩
  .simp only[bG,if_true,reduceIte,Nat.reduceEqDiff];rw[hp]
  .rw[hf];simp[x]
  simp only[bG,if_true];rw[hf]
 have:k=to-g:=J;subst this;have h:¬((g+1+(to-g):Nat):Int)<=(to:Int):=J;have Z:nZ g r to=nD g r (to-g):=rfl;have F:te g to=rY g (to-g):=rfl;rw[Z,F];generalize Q:to-g=bJ at af y;have O:I (d_ (nD g r bJ))=bJ+1:=by simp[nD]
 have x:I (aY (rY g bJ))=bJ:=by simp[rY]
 rw[Q]at h u;rcases af with⟨rfl,e,j,H⟩|⟨Y,e,j,H⟩
 .rcases y with⟨R,f⟩|⟨A,_⟩
  .have D:List.take 1 (d_ (nD g r 0))=d_ (nD g r 0):=eT J;have N:1<=I (d_ (nD g r 0)):=J;rw[bU,aI R];generalize d_ (nD g r 0)=ps at H D N;simp only[go_sem,Pl,ab2,B,j,f,u,h];simp only[go_sem,iD,mM,yO,kZ,kD,iN,H,D,N];rfl
  exact absurd rfl A
 rcases y with⟨E,_⟩|⟨A,e3,f,z⟩
 .exact absurd E (by simp[rY];omega)
 rw[x]at f;have D:List.take (bJ+1) (d_ (nD g r bJ))=d_ (nD g r bJ):=eT J;have T:List.take bJ (aY (rY g bJ))=aY (rY g bJ):=eT J;have N:bJ+1<=I (d_ (nD g r bJ)):=J;have v:bJ<=I (aY (rY g bJ)):=J;rw[bU,aE A];generalize d_ (nD g r bJ)=ps at H D N;generalize aY (rY g bJ)=fs at z T v;simp only[go_sem,Pl,ab2,B,j,f,u,h];simp only[go_sem,iD,mM,yO,kZ,kD,iN,H,z,D,T,N,v];rfl
abbrev zz:Nat:=112
def uP (h:ae)(i:Nat):Nat:=match h[i]? with|some l=>l.gate.toNat|none=>0
def OJ (h:ae)(i:Nat):Nat:=match h[i]? with|some l=>l.ao.toNat|none=>0
def uU{i:Nat}{l:U}(H:h[i]?=some l):uP h i=l.gate.toNat:=by simp[uP,H]
def Sy{i:Nat}{l:U}(H:h[i]?=some l):OJ h i=l.ao.toNat:=by simp[OJ,H]
def l_(F:Nat)(h:ae)(j:Nat):pI:=
 let u:=(aA h).getD j 0
 let v:=(aA h).getD ((j+1)%I (aA h)) 0
 if j+1<I (aA h) then nZ (uP h u) (OJ h u) (uP h v)else nZ (uP h u) (OJ h u) F++nZ 0 0 (uP h v)
def AY(F:Nat)(h:ae)(j:Nat):aD:=
 let u:=(aA h).getD j 0
 let v:=(aA h).getD ((j+1)%I (aA h)) 0
 if j+1<I (aA h) then te (uP h u) (uP h v)else te (uP h u) F++te 0 (uP h v)
def Lj(a b:pI):d_ (a++b)=d_ a++d_ b:=aG
def IZ(a b:aD):aY (a++b)=aY a++aY b:=aG
theorem zl(g r to:Nat):I (nZ g r to)=to-g+1:=by simp[nZ]
theorem Pj(g to:Nat):I (te g to)=to-g:=by simp[te]
def acZ(g r to:Nat)(H:g<=1000)(j:r<=1000000)(f:to<=1000):aC S 139 [ai g,ai r,ai to] (.tup [.one (bU zz 2 (d_ (nZ g r to))),.one (bU 3 1 (aY (te g to)))]):=by have h:=azX g r to H j f;have e:bU zz 2 _=.own zz 2 (d_ (nZ g r to)):=aE (by simp[nZ]);rw[e];exact h
def Rn(ok:fY F h)(n:j<I (aA h)):∃u l,(aA h)[j]?=some u/\(aA h).getD j 0=u/\h[u]?=some l/\l.ay/\ub F h l:=by obtain⟨u,H⟩:=aP n;obtain⟨l,f,m⟩:=sX.1 (a8 H);exact⟨u,l,H,by rw[dM,H];rfl,f,m,ok.ax.fg l (a8 f) m⟩
def aCh(ok:fY F h)(hF:F<=1000)(hj:j<I (aA h)):
  aC S 90 [c7 F h,.one (.p (uX (aA h))),ai j] (.tup [.one (bU zz 2 (d_ (l_ F h j))),.one (bU 3 1 (aY (AY F h j)))]):=by
 have hl:=ok.hl;have jD:I (aA h)<=1000000:=ob (qp h (I h)) hl;obtain⟨u,p,hu,du,hp,pp,gp⟩:=Rn ok hj;obtain⟨v,q,hv,dv,O,pq,R⟩:=Rn ok (dB (j+1) J);unfold l_ AY;simp only[du,dv,uU hp,uU O,Sy hp];have X:=fW hp;have D:=fW O;have GC:=i_ hu;have vk:=i_ hv;have e1:=tu (j+1) (I (aA h));have E:=cg (n:=j) J;have w2:=EU (a:=I (aA h)) J J;have qV:¬((I (aA h):Int)=0):=J
 have Gx:=gp.g0;have Dp:=gp.g1;have yD:=R.g0;have di:=R.g1;have Iz:=gp.r0;have L:=gp.r1;have M:aZ h p.gate.toNat<=I h:=ny _ _;obtain⟨pg,f⟩:=lV (show 0<=p.gate by omega);obtain⟨pr,H⟩:=lV (show 0<=p.ao by omega);obtain⟨Q,m⟩:=lV (show 0<=q.gate by omega);rw[f]at Dp L M Gx;rw[H]at L Iz;rw[m]at yD di;rw[f,H,m];simp only[lJ]at L M |-;refine ba aA9 ?_;have x:S.lone 5760320128=false:=ah;by_cases N:j+1<I (aA h)
 .have A:(j:Int)<((I (aA h)-1:Nat):Int):=J;have ps:=acZ pg pr Q J J J;simp only[aI N];simp only[go_sem,aaf,GC,vk,X,D,U.ps,E,e1,w2,A,qV,f,H,m,amq];refine⟨aK,?_⟩;refine WX ps ah λc e ak B z hb=>?_;simp only[go_sem];exact Tt aa B z
 have A:¬(j:Int)<((I (aA h)-1:Nat):Int):=J;have ps:=acZ pg pr F J J J;have T:=acZ 0 0 Q J J J;have e0:((0:Nat):Int)=0:=rfl;rw[e0]at T;simp only[aE N];simp only[go_sem,aaf,GC,vk,X,D,U.ps,E,e1,w2,A,qV,f,H,m,amq];refine⟨aK,?_⟩;refine WX ps ah λc e cE B z cU=>?_;simp only[go_sem,cU];refine WX T x λc2 e2 bt Z Y bh=>?_;simp only[go_sem];obtain⟨r1,qE,_⟩:=Z.elems;refine mO (B.of_eq (bh _ aa aa)) qE Z.gk aHU λc4 nE MV jE=>?_;simp only[go_sem];obtain⟨r2,yJ,_⟩:=(Y.of_eq (jE _ aa aa)).elems;refine mO (z.of_eq ((jE _ aa aa).trans (bh _ aa aa))) yJ Y.gk aHV λfv zo y oU=>?_
 simp only[go_sem];rw[Lj,IZ];exact Tt aa (MV.of_eq (oU _ aa aa)) y
structure cX where
 eO:Bool
 bc:aD
 places:pI
 sH:aD
 outer:Bool
abbrev Fq:=List cX
def cX.ps(f:cX):dR:=[.bool f.eO,.sl (aY f.bc),.sl (d_ f.places),.sl (aY f.sH),.bool f.outer]
def cX.add(F:Nat)(h:ae)(f:cX)(x:Nat):cX:=
 if x<2*I h then{f with bc:=f.bc++[x]}
 else{f with places:=f.places++(if x%2=0 then l_ F h ((x-2*I h)/2)else(l_ F h ((x-2*I h)/2)).reverse),sH:=f.sH++(if x%2=0 then AY F h ((x-2*I h)/2)else(AY F h ((x-2*I h)/2)).reverse),outer:=f.outer||decide ((x-2*I h)/2+1=I (aA h))}
def cX.new(h:ae)(d:Nat):cX:=⟨dn h (d/2+1),[],[],[],false⟩
def ze(F:Nat)(h:ae)(w:aD)(k:Nat):cX:=(w.take k).foldl (cX.add F h) (cX.new h (w.headD 0))
def jc(F:Nat)(h:ae)(w:aD):cX:=w.foldl (cX.add F h) (cX.new h (w.headD 0))
def dA(F:Nat)(h:ae):Fq:=(eX (aT h) (aX h)).map (jc F h)
def Xo(F:Nat)(h:ae)(w:aD):ze F h w (I w)=jc F h w:=by unfold ze jc;rw[lN]
def Z9{w:aD}{k x:Nat}(H:w[k]?=some x):ze F h w (k+1)=(ze F h w k).add F h x:=by unfold ze;rw[jM,H,Bq];rfl
def MC(ok:fY F h)(f:j<I (aA h)):uP h ((aA h).getD j 0)<=F:=by obtain⟨u,l,_,D,hl,_,H⟩:=Rn ok f;rw[D,uU hl];have:=H.g1;have:=H.g0;omega
theorem UX(ok:fY F h)(H:j<I (aA h)):I (l_ F h j)<=2*F+2:=by
 have f:=MC ok H;have m:=MC ok (dB (j+1) J);unfold l_
 grind [zl]
theorem We(ok:fY F h)(H:j<I (aA h)):I (AY F h j)<=2*F+2:=by
 have f:=MC ok H;have m:=MC ok (dB (j+1) J)
 grind [AY,Pj]
def V2(ok:fY F h){w:aD}(f:∀x∈w,x<aX h):∀k,k<=I w->(ze F h w k).bc.length<=k/\(ze F h w k).places.length<=k*(2*F+2)/\(ze F h w k).sH.length<=k*(2*F+2):=by
 intro k
 induction k with
 |zero=>intro _;exact⟨cP _,bj _,bj _⟩
 |succ k j=>
  intro m;obtain⟨x,H⟩:=aP (show k<I w by omega);obtain _:=j J;have B:=f x (a8 H);rw[Z9 H,Nat.succ_mul];unfold cX.add;by_cases u:x<2*I h
  .grind
  rw[aE u];have n:(x-2*I h)/2<I (aA h):=by unfold aX at B;omega
  grind [UX,We]
def avr(next:Nat->Nat):∀(k x:Nat) (S:dK),∀y∈(hU next k x S).1,y<I S:=by
 intro k
 induction k with
 |zero=>intro x S y h;simp[hU]at h
 |succ k f=>
  intro x S y h;unfold hU at h
  grind
theorem ax2(next:Nat->Nat):∀(k x:Nat) (S:dK),(hU next k x S).1.length<=BX S:=by
 intro k
 induction k with
 |zero=>intro x S;simp[hU]
 |succ k f=>
  intro x S;unfold hU;cases af:S.getD x true with
  |true=>simp
  |false=>grind [Sm]
def ao1(next:Nat->Nat){k x:Nat}{S:dK}(h:S.getD x true=false):∃t,(hU next (k+1) x S).1=x::t:=by unfold hU;rw[h];exact⟨_,rfl⟩
def aip(next:Nat->Nat)(N:Nat):∀k,∀w∈(fJ next N k).1,(∃d t,w=d::t/\d<k)/\I w<=N/\ ∀y∈w,y<N:=by
 intro k
 induction k with
 |zero=>intro w h;simp[fJ]at h
 |succ k m=>
  intro w h;rw[Bn]at h;unfold wQ at h;have H:=JU next N k;have O:w∈(fJ next N k).1->(∃d t,w=d::t/\d<k+1)/\I w<=N/\ ∀y∈w,y<N:=λh=>by grind
  cases af:(fJ next N k).2.getD k true with
  |true=>grind
  |false=>
   simp only[af,iJ,if_false,iI,nI]at h;rcases h with h|rfl
   .exact O h
   obtain⟨t,j⟩:=ao1 next af;refine⟨⟨k,t,j,J⟩,?_,λy f=>?_⟩
   .grind [ax2,Mx]
   have:=avr next _ _ _ y f;omega
def xR(ok:fY F h):∀w∈eX (aT h) (aX h),(∃d t,w=d::t/\d<2*I h)/\I w<=aX h/\ ∀y∈w,y<aX h:=by intro w H;unfold eX at H;rw[adv (nc ok) _ aG (cP _)]at H;exact aip _ _ _ w H
abbrev tV:Nat:=109
abbrev MK(o:List aD):dy:=o.map λw=>[uX w]
def aBz{o:List aD}{k:Nat}{w:aD}(h:o[k]?=some w):(MK o)[k]?=some [uX w]:=by simp[h]
def sW:aD:=[3520000000,3520128064,3520192064,3520576512,3520896448,3521216192,3521280192,3521408192]
structure aaE (F:Nat) (ls:ae) (outs:dy) (gA rA gF:Nat) (f:cX) (cd cp cf vo:cG) (blk:aH):Prop where
 b0:blk 3520000000=(1,some (.var (pF F ls)))
 bA:blk 3520128064=(gA,some (.arr 3 1 (aY (aA ls))))
 bW:blk 3520192064=(rA,some (.arr 68 1 (MK (eX (aT ls) (aX ls)))))
 bF:blk 3520576512=(gF,some (.var [.p (.bool f.eO),cd,cp,cf,.p (.bool f.outer)]))
 gd:a_ 3520896448 3 1 (aY f.bc) (.one cd) blk
 gp:a_ 3521216192 zz 2 (d_ f.places) (.one cp) blk
 gf:a_ 3521280192 3 1 (aY f.sH) (.one cf) blk
 go:a_ 3521408192 tV 5 outs (.one vo) blk
def ays{F:Nat}{h:ae}(ok:fY F h)(hF:F<=1000){w:aD}(hw:∀x∈w,x<aX h)(wB:I w<=aX h){O:dy}{gA rA i:Nat}{vo:cG}{blk:aH}
  (e1:m 1=.one (.aW 3520000000 1 0)) (e3:m 3=.one vo) (e4:m 4=.one (.hsl 3520128064 gA 1 0 (I (aA h)))) (e5:m 5=.one (.hsl 3520192064 rA 1 0 (I (eX (aT h) (aX h))))) (e6:m 6=ai (I h)) (e7:m 7=ai i) (e8:m 8=.one (.p (uX w))) (e9:m 9=.one (.aW 3520576512 H 0)) (ap:m 10=ai 0)
  (j:aaE F h O gA rA H (ze F h w 0) B A y vo blk)
  (hq:∀z ak Eo tv Ep,z 1=m 1->z 3=m 3->z 4=m 4->z 5=m 5->z 6=m 6->z 7=m 7->z 9=m 9->aaE F h O gA rA H (jc F h w) Eo tv Ep vo ak->Q .normal z ak):
  W S .all (.loop RZ) (oh 2 Q) m blk:=by
 have hl:=ok.hl;have jD:I (aA h)<=1000000:=ob (qp h (I h)) hl;have eV:aX h<=4000000:=i8
 have m2:=qj (a:=I h) J;refine cZ (λk z ak=>z 1=.one (.aW 3520000000 1 0)/\z 3=.one vo/\z 4=.one (.hsl 3520128064 gA 1 0 (I (aA h)))/\z 5=.one (.hsl 3520192064 rA 1 0 (I (eX (aT h) (aX h))))/\z 6=ai (I h)/\z 7=ai i/\z 8=.one (.p (uX w))/\z 9=.one (.aW 3520576512 H 0)/\z 10=ai k/\
   ∃B A y,aaE F h O gA rA H (ze F h w k) B A y vo ak) 0 (I w) (bj _) ⟨e1,e3,e4,e5,e6,e7,e8,e9,ap,B,A,y,j⟩ ?_
 rintro k z blk hk ⟨h1,h3,h4,h5,Y,h7,L,X,M,B,A,y,j⟩
 by_cases aw:k<I w
 .have aL:((k:Int)<(I w:Int)):=J;obtain⟨x,hx⟩:=aP aw;have Be:=hw x (a8 hx);have yF:=i_ hx;have w1:=cg (n:=k) J;obtain⟨l1,l2,l3⟩:=V2 ok hw k J;have af:=Z9 (F:=F) (h:=h) hx;have a2:k*(2*F+2)<=4000000*2002:=JG J J;generalize ze F h w k=f at j af l1 l2 l3;unfold cX.add at af;by_cases hd:x<2*I h
  .rw[aI hd]at af;have vW:((x:Int)<((2*I h:Nat):Int)):=J;simp only[go_sem,RZ,Y,L,X,M,j.bF,aL,yF,m2,vW];generalize hG:(blk 3520896384).1+1=g2;refine oT (B:=[[.int .i64 (x:Int)]]) (rd:=[3520896384]) (j.gd.of_eq aIw) aIe (.inl rfl) LE λc cE r u hc hb hr=>?_;have T:∀i∈sW,i≠3520896448->cE i=blk i:=λi E hn=>by
    rw[hb i hn hn,bG,aE (Re E aa).symm.symm]
   have a0:=(T 3520576512 wn aa).trans j.bF;simp only[go_sem,a0,h1,h3,h4,h5,Y,h7,L,X,M,w1,aw];refine⟨?_,c,A,y,?_⟩
   .rcases hr with⟨rfl,rfl⟩|⟨rfl,rfl⟩|⟨rfl,rfl⟩<;>kernel_rfl
   rw[af];refine⟨?_,?_,?_,?_,?_,?_,?_,?_⟩
   .simp only[bG,Nat.reduceEqDiff,if_false];exact(T _ wn aa).trans j.b0
   .simp only[bG,Nat.reduceEqDiff,if_false];exact(T _ wn aa).trans j.bA
   .simp only[bG,Nat.reduceEqDiff,if_false];exact(T _ wn aa).trans j.bW
   .simp only[bG,if_true]
   .rw[IZ];exact hc.of_eq aIw
   .exact(j.gp.of_eq (T _ wn aa)).of_eq aIw
   .exact(j.gf.of_eq (T _ wn aa)).of_eq aIw
   exact(j.go.of_eq (T _ wn aa)).of_eq aIw
  rw[aE hd]at af;have hj:(x-2*I h)/2<I (aA h):=by unfold aX at Be;omega
  have pp:=aCh ok hF hj;have lP:=UX ok hj;have lF:=We ok hj;have vW:¬((x:Int)<((2*I h:Nat):Int)):=J;have ws:=S6 (a:=x) (b:=2*I h) J J;have wq:=wrap_small (n:=(x-2*I h)/2) J;have w2:=EU (a:=I (aA h)) J J;have D:List.take (I (aA h)) (aY (aA h))=aY (aA h):=eT aG;have Qp:((((x-2*I h)/2:Nat):Int)==((I (aA h)-1:Nat):Int))=decide ((x-2*I h)/2+1=I (aA h)):=by
   by_cases a4:(x-2*I h)/2+1=I (aA h)
   .rw[uG a4];simp;omega
   rw[uE a4];simp;omega
  have nX:S.lone 3521024192=false:=ah;have rV:S.lone 3521152064=false:=ah;have an:S.lone 3521152192=false:=ah;have ag:∀l:pI,((d_ l).all λe=>e.all PV.scalar):=λl=>by simp[PV.scalar]
  have am:∀l:aD,((aY l).all λe=>e.all PV.scalar):=λl=>by simp[PV.scalar]
  generalize l_ F h ((x-2*I h)/2)=PP at*;generalize AY F h ((x-2*I h)/2)=FF at*;simp only[go_sem,RZ,h1,h4,Y,L,M,j.b0,j.bA,aL,yF,m2,vW,ws,wq,kE,n_,D,awT];refine arh pp nX (ag _) (am _) λc e cE hc he hb=>?_;have ad:∀i∈sW,cE i=blk i:=λi E=>hb i (Re E aa) (Re E aa);by_cases eM:x%2=0
  case' _=>
   have Ku:((x:Int).tmod 2 !=0)=false:=by rw[tf,eM];rfl
   simp only[aI eM]at af;have hP:=hc;have hE:=he;have Qk:=ad;have lE:=lF
  rotate_left
  case' _=>
   have Ku:((x:Int).tmod 2 !=0):=by rw[tf,show x%2=1 by omega];rfl
   simp only[aE eM]at af;obtain⟨r1,aB,_⟩:=hc.jK;simp only[go_sem,kE,Ku,yF,aB,L,M,aGU];refine pB (aFJ PP J) rV (.inr (qF (ag _))) λc1 bt jm R=>?_;have Ib:=he.of_eq (R _ aa);obtain⟨r2,aN,_⟩:=Ib.jK;simp only[go_sem,aN,arF];refine pB (ayt FF J) an (.inr (qF (am _))) λe1 nE ar Z=>?_;have Qk:∀i∈sW,nE i=blk i:=λi E=>(Z i (Re E aa)).trans ((R i (Re E aa)).trans (ad i E));have hP:=jm.of_eq (Z _ aa);have hE:=ar;have lE:I FF.reverse<=2*F+2:=by rw[r_];exact lF
   have lP:I PP.reverse<=2*F+2:=by rw[r_];exact lP
  all_goals
   have ab:=(Qk _ wn).trans j.bF;simp only[go_sem,kE,Ku,yF,ab,L,X,M];obtain⟨rP,az,_⟩:=hP.elems;refine mO (m:=3521216192) (id:=3521216192) (bytes:=16) (j.gp.of_eq (Qk _ wn)) az hP.gk acl λc2 bt j9 R=>?_;have L7:=(R 3520576512 aa aa).trans ab;simp only[go_sem,L7,X];obtain⟨rE,a1,_⟩:=(hE.of_eq (ak:=dz bt 3520576512 (H,some (.var [.p (.bool f.eO),B,c2,y,.p (.bool f.outer)]))) ((cJ aa).trans (R _ aa aa))).elems;refine mO (m:=3521280192) (id:=3521280192) (bytes:=8) (j.gf.of_eq ((cJ aa).trans ((R _ aa aa).trans (Qk _ wn)))) a1 hE.gk acl λc4 nE MV Z=>?_
   have JA:=(Z 3520576512 aa aa).trans (Ao (b:=bt) (a:=3520576512) (x:=(H,some (.var [.p (.bool f.eO),B,c2,y,.p (.bool f.outer)]))));have im:∀i∈sW,i≠3520576512->i≠3521216192->i≠3521280192->nE i=blk i:=λi E n1 v n3=>(Z i n3 n3).trans ((cJ n1).trans ((R i v v).trans (Qk i E)));have N:∀a3 y2:Nat×Option gr,∀i,i≠3520576512->dz (dz nE 3520576512 a3) 3520576512 y2 i=nE i:=λa3 y2 i E=>(cJ E).trans (cJ E);cases ho:f.outer
   case' true=>rw[ho]at JA;simp only[go_sem,JA,h1,h3,h4,h5,Y,h7,L,X,M,w1,aw]
   case' false=>rw[ho]at JA;simp only[go_sem,JA,h1,h3,h4,h5,Y,h7,L,X,M,w1,w2,aw,Qp]
   all_goals
    refine⟨B,c2,c4,?_⟩;rw[af];exact⟨(N _ _ _ aa).trans ((im _ wn aa aa aa).trans j.b0),(N _ _ _ aa).trans ((im _ wn aa aa aa).trans j.bA),(N _ _ _ aa).trans ((im _ wn aa aa aa).trans j.bW),(by rw[Ao];simp[ho]),
     j.gd.of_eq ((N _ _ _ aa).trans (im _ wn aa aa aa)),(Lj _ _▸j9).of_eq ((N _ _ _ aa).trans ((Z _ aa aa).trans (cJ aa))),(IZ _ _▸MV).of_eq (N _ _ _ aa),j.go.of_eq ((N _ _ _ aa).trans (im _ wn aa aa aa))⟩
 have:k=I w:=J;subst this;rw[Xo]at j;simp only[go_sem,RZ,L,M,ek];exact hq _ _ B A y (by simp only[go_sem,h1,e1]) (by simp only[go_sem,h3,e3]) (by simp only[go_sem,h4,e4]) (by simp only[go_sem,h5,e5]) (by simp only[go_sem,Y,e6]) (by simp only[go_sem,h7,e7]) (by simp only[go_sem,X,e9]) j
def aHA{a b:PV}{id g o l:Nat}:Gd [[.p a,.hsl id g z o l,A,y,.p b]]=none:=rfl
def akZ{blk:aH}{s g h T Z f m u j n z:Nat}{a o:Bool}{D P G:dy}(H:blk s=(g,some (.nH E 5 [[.p (.bool a),B,A,y,.p (.bool o)]])))(gd:a_ h T Z D (.one B) blk)(gp:a_ f m u P (.one A) blk)(gf:a_ j n z G (.one y) blk):
  ∃fr,gP blk (.one (.hsl s g 5 0 1))=some ([[.bool a,.sl D,.sl P,.sl G,.bool o]],[s],fr)/\Cq blk fr/\ ∀i∈fr,i=h\/i=f\/i=j:=by
 obtain⟨r1,L,F,Y⟩:=gd.abW;obtain⟨x,v,M,q2⟩:=gp.abW;obtain⟨R,N,O,Q⟩:=gf.abW;refine⟨r1++(x++R),?_,F.app (M.app O),λi X=>?_⟩
 .simp[gP,H];simp[iP,L,v,N,ain,PV.norm]
 grind
abbrev ki(l:Fq):dy:=l.map cX.ps
theorem aEE(F:Nat)(h:ae):∀(w:aD) (f:cX),f.bc≠[]->(w.foldl (cX.add F h) f).bc≠[]:=by
 intro w
 induction w with
 |nil=>intro f H;exact H
 |cons x w j=>
  intro f H;refine j _ ?_;unfold cX.add;split
  .simp
  exact H
def ahs{d:Nat}{t:aD}(H:d<2*I h):(jc F h (d::t)).bc≠[]:=by grind [jc,aEE,cX.add]
def ax6(ok:fY F h)(hF:F<=1000)(aN:aA h≠[]):aC S 55 [c7 F h] (.one (bU tV 5 (ki (dA F h)))):=by
 have hl:=ok.hl;have jD:I (aA h)<=1000000:=ob (qp h (I h)) hl;have eV:aX h<=4000000:=i8
 have M:=ahm F h hl;unfold RH at M;rw[aE aN]at M;have wB:I (eX (aT h) (aX h))<=aX h:=NC (aT h) (aX h) _;have R:∀blk:aH,fQ blk [] 3520128064 ((RV.one (.own 3 1 (aY (aA h)))).gV (S.lone 3520128064))=some (.one (.hsl 3520128064 ((blk 3520128064).1+1) 1 0 (I (aA h))),[(3520128064,((blk 3520128064).1+1,some (.arr 3 1 (aY (aA h)))))]):=by intro blk;rw[show S.lone 3520128064=false by kernel_rfl,show(aA h).length=I (aY (aA h)) by simp];rfl
 have Z:∀blk:aH,fQ blk [] 3520192064 ((RV.one (.own 68 1 (MK (eX (aT h) (aX h))))).gV (S.lone 3520192064))=some (.one (.hsl 3520192064 ((blk 3520192064).1+1) 1 0 (I (eX (aT h) (aX h)))),[(3520192064,((blk 3520192064).1+1,some (.arr 68 1 (MK (eX (aT h) (aX h))))))]):=by intro blk;rw[show S.lone 3520192064=false by kernel_rfl,show(eX (aT h) (aX h)).length=I (MK (eX (aT h) (aX h))) by simp];rfl
 refine ba asu ?_;simp only[go_sem,aib,amM,ajZ,dt M (R _),dt (am6 F h hl aN ok.hp) (Z _)];refine cZ (λk m blk=>m 1=.one (.aW 3520000000 1 0)/\m 4=.one (.hsl 3520128064 1 1 0 (I (aA h)))/\m 5=.one (.hsl 3520192064 1 1 0 (I (eX (aT h) (aX h))))/\m 6=ai (I h)/\m 7=ai k/\
   blk 3520000000=(1,some (.var (pF F h)))/\blk 3520128064=(1,some (.arr 3 1 (aY (aA h))))/\blk 3520192064=(1,some (.arr 68 1 (MK (eX (aT h) (aX h)))))/\
   ∃v,m 3=.one v/\a_ 3521408192 tV 5 (ki (((eX (aT h) (aX h)).take k).map (jc F h))) (.one v) blk) 0 (I (eX (aT h) (aX h))) (bj _) ?_ ?_
 .simp only[go_sem];first|exact⟨rfl,_,rfl,.inl ⟨rfl,rfl⟩⟩|exact⟨rfl,rfl,_,rfl,.inl ⟨rfl,rfl⟩⟩|exact⟨rfl,rfl,rfl,_,rfl,.inl ⟨rfl,rfl⟩⟩|exact⟨rfl,rfl,rfl,rfl,_,rfl,.inl ⟨rfl,rfl⟩⟩
 rintro k m blk hk ⟨X,h4,x,h6,u,b0,bA,bW,v,B,go⟩
 by_cases T:k<I (eX (aT h) (aX h))
 .have aL:((k:Int)<(I (eX (aT h) (aX h)):Int)):=J;obtain⟨w,A⟩:=aP T;obtain⟨⟨d,t,j,hd⟩,L,QV⟩:=(xR ok) w (a8 A);have qd:=aBz A;have w1:=cg (n:=k) J;have jq:(aY w)[0]?=some [.int .i64 (d:Int)]:=by rw[j];rfl
  have ad:0<I w:=by rw[j];simp
  have ab:(0:Int)<(I w:Int):=J;have wq:=wrap_small (n:=d/2) J;have pb:=akj F h (d/2) hl J;have Qw:w.headD 0=d:=by rw[j];rfl
  have z:ki (((eX (aT h) (aX h)).take (k+1)).map (jc F h))=ki (((eX (aT h) (aX h)).take k).map (jc F h))++[(jc F h w).ps]:=by rw[jM,A];simp
  have sL:I (ki (((eX (aT h) (aX h)).take k).map (jc F h)))<=k:=fd
  generalize ki (((eX (aT h) (aX h)).take k).map (jc F h))=O at go z sL;simp only[go_sem,ae5,X,x,u,b0,bW,T,aL,qd,jq,kE,n_,wq,ahi,mA pb];refine⟨aK,?_⟩;refine ays ok hF QV L (gA:=1) (rA:=1) (H:=(blk 3520576512).1+1) (i:=k) (vo:=v) (O:=O) ?_ ?_ ?_ ?_ ?_ ?_ ?_ ?_ ?_ ⟨?_,?_,?_,?_,a_.nil,a_.nil,a_.nil,?_⟩ ?_
  .simp only[go_sem,X]
  .simp only[go_sem,B]
  .simp only[go_sem,h4]
  .simp only[go_sem,x]
  .simp only[go_sem,h6]
  .simp only[go_sem,u]
  .simp only[go_sem]
  .simp only[go_sem]
  .simp only[go_sem]
  .simp only[go_sem,b0]
  .simp only[go_sem,bA]
  .simp only[go_sem,bW]
  .simp only[go_sem,ze,cX.new,Qw];simp
  .exact go.of_eq d9
  intro aF ak Eo tv Ep q1 Q q4 q5 q6 q7 q9 hB;simp only[go_sem,X,B,h4,x,h6,u]at q1 Q q4 q5 q6 q7 q9;have y:=ahs (F:=F) (t:=t) hd;rw[<-j]at y;generalize jc F h w=f at hB z y;obtain⟨B0,BA,BW,ft,gd,gp,gf,D⟩:=hB;rcases gd with⟨e,_⟩|⟨_,gg,e,EJ⟩
  .simp at e;exact absurd e y
  cases e;simp only[go_sem,aoj,ajj,Q,q9,ft];have gd:a_ 3520896448 3 1 (aY f.bc) (.one (.hsl 3520896448 gg 1 0 (I (aY f.bc)))) ak:=.inr ⟨by simpa using y,gg,rfl,EJ⟩;rw[ct]at gd;obtain⟨fr,hx,EN,M3⟩:=akZ (s:=3521408128) Ao (gd.of_eq (cJ aa)) (gp.of_eq (cJ aa)) (gf.of_eq (cJ aa));have N:∀i,i≠3520896448->i≠3521216192->i≠3521280192->i∉fr:=λi a b c Y=>by
   rcases M3 i Y with Y|Y|Y
   .exact a Y
   .exact b Y
   exact c Y
  refine aqE (D.of_eq (cJ aa)) hx EN (N _ aa aa aa) (N _ aa aa aa) (.inl rfl) H1 λc bt hc E=>?_;simp only[go_sem,q1,Q,q4,q5,q6,q7,(E 3520000000 aa aa (N _ aa aa aa)).trans ((cJ aa).trans B0),(E 3520128064 aa aa (N _ aa aa aa)).trans ((cJ aa).trans BA),(E 3520192064 aa aa (N _ aa aa aa)).trans ((cJ aa).trans BW),w1,T];refine⟨c,rfl,?_⟩;rw[z];exact hc
 have:k=I (eX (aT h) (aX h)):=J;subst this;rw[lN]at go;simp only[go_sem,ae5,aku,B,x,u,ek];exact qN go
def xG(h:ae)(k:Nat):dK:=(List.range (I h)).map λi=>decide (i<k)&& !dn h (i+1)
def ao8(h:ae)(k:Nat):I (xG h k)=I h:=by simp[xG]
def azQ(h:ae):xG h 0=List.replicate (I h) false:=by
 refine qO λi=>?_;simp[xG,fX,List.getElem?_replicate]
 grind
def aC9(h:ae)(k:Nat):xG h (k+1)=(xG h k).set k (!dn h (k+1)):=by
 refine qO λi=>?_;rw[qt,ao8];simp[xG,fX];by_cases H:i<I h
 .rw[wZ H];by_cases e:k=i
  .subst e;simp[H]
  simp[vB,e];congr 2
  grind
 grind
abbrev E8(ls:ae):dK:=xG ls (I ls)
def aw8{i:Nat}(H:i<I h):(E8 h)[i]?=some (!dn h (i+1)):=by simp[xG,H]
def asF(ok:fY F h):aC S 110 [.one (.p (pX F h))] (.one (.own 4 1 (dx (E8 h)))):=by
 have hl:=ok.hl;have T:I h<=140737488355328:=J;have Q:List.replicate (I h) [PV.bool false]=dx (xG h 0):=by rw[azQ];simp
 refine ba akg ?_;simp only[go_sem,aaa,T,Q];refine cZ (λk m blk=>m 0=.one (.p (pX F h))/\m 3=.one (.hsl 7040064384 1 1 0 (I h))/\blk 7040064384=(1,some (.arr 4 1 (dx (xG h k))))/\
   m 4=iB (!dn h k)/\m 18=.one (.p (fz h))/\m 19=ai (I h)/\m 20=ai k) 0 (I h) (bj _) ?_ ?_
 .simp only[go_sem];first|exact⟨rfl,rfl⟩|exact⟨rfl,rfl,rfl⟩|exact _|exact rfl
 rintro k m blk X ⟨B,u,x,N,O,v,y⟩
 by_cases A:k<I h
 .obtain⟨l,D⟩:=aP A;have E:=fW D;have L:((k:Int)<(I h:Int)):=J;have z:=cg (n:=k) J;have j:k<I (xG h k):=by rw[ao8];exact A
  obtain⟨b0,R⟩:=aP j;have M:=rB R;have f:=LS (xG h k) k (!dn h (k+1));rw[<-aC9]at f;cases hp:(l.kind==1)with
  |true=>have H:=Gs D hp;rw[H]at f;rw[FU]at f;simp only[go_sem,Q1,B,u,x,N,O,v,y,E,U.ps,A,L,z,hp,rB (US D hp),M,f,H]
  |false=>have H:=Nw D hp;rw[H]at f;simp only[go_sem,Q1,B,u,x,N,O,v,y,E,U.ps,A,L,z,hp,M,f,H]
 have:k=I h:=J;subst this;simp only[go_sem,Q1,ad3,u,v,y,ek];exact Ig x (by simp[xG])
abbrev He(id:Nat):Prop:=lf id=191
def ak5{g r k:Nat}(h:k<=T-g):(nZ g r T)[k]?=some (g+k,if k=0 then r else 0):=by grind [nZ]
def asY{g k:Nat}(h:k<T-g):(te g T)[k]?=some (g+1+k):=by
 unfold te
 grind
def Mo(g r T:Nat)(ps fs:dy)(i1 i2:Nat)(blk:aH)(v:V)(A:aH):Prop:=
 ∃h f j,v=.tup [.one h,.one f]/\a_ 12224320192 zz 2 (ps++d_ (nZ g r T)) (.one h) A/\a_ j 3 1 (fs++aY (te g T)) (.one f) A/\(j=i2\/j=12224256256)/\
  dk (λid=>He id\/id=i1\/id=i2) blk A
def Ug:aD:=[12224000000,12224000064,12224128128,12224256192,12224256256,12224320128]
def Xf:aD:=[12224000000,12224000064,12224128128,12224128192,12224256192,12224320128,12224320192]
def P_{al:cD}{blk:aH}{g r t i1 i2:Nat}{ps fs:dy}{c1 c2:cG}(O:∀id,He id->al.ok id)(o1:al.ok i1)(o2:al.ok i2)(hT:g<=T)(ht:t=if T=g then r else 0)(hb:T<=1000)(eD:I ps<=1000000)(tJ:I fs<=1000000)
  (NP:i1≠i2) (RR:i1∉Ug) (RW:i2∉Xf) (D:a_ i1 zz 2 ps (.one c1) blk) (h2:a_ i2 3 1 fs (.one c2) blk):
  ∃aN A,ja S 191 [.agg [.p (.int .i64 g),.p (.int .i64 r)],.agg [.p (.int .i64 T),.p (.int .i64 t)],.one c1,.one c2] al blk aN A/\Mo g r T ps fs i1 i2 blk aN A:=by
 have X:al.ok 12224000000:=O _ rfl;have n:al.ok 12224000064:=O _ rfl;have Rf:al.ok 12224128128:=O _ rfl;have ap:al.ok 12224128192:=O _ rfl;have GU:al.ok 12224256192:=O _ rfl;have IL:al.ok 12224256256:=O _ rfl;have u:al.ok 12224320128:=O _ rfl;have az:al.ok 12224320192:=O _ rfl;refine mL aAZ (jg rfl) ?_;simp only[go_sem,agZ,X,n];have aF:=zl g r T;have aB:=Pj g T;refine cZ (λk m A=>m 4=.one (.aW 12224000000 ((blk 12224000000).1+1) 0)/\m 5=.one (.aW 12224000064 ((blk 12224000064).1+1) 0)/\
   A 12224000000=((blk 12224000000).1+1,some (.var [.p (.int .i64 ((g+k:Nat):Int)),.p (.int .i64 ((if k=0 then r else 0:Nat):Int))]))/\A 12224000064=((blk 12224000064).1+1,some (.var [.p (.int .i64 T),.p (.int .i64 t)]))/\
   ∃d1 M j f,m 2=.one d1/\m 3=.one M/\(j=i1\/j=12224128192)/\(f=i2\/f=12224256256)/\a_ j zz 2 (ps++d_ ((nZ g r T).take k)) (.one d1) A/\a_ f 3 1 (fs++aY ((te g T).take k)) (.one M) A/\dk (λid=>He id\/id=i1\/id=i2) blk A) 0 (T-g) (bj _) ?_ ?_
 .simp only[go_sem];refine⟨rfl,c1,c2,i1,i2,rfl,rfl,.inl rfl,.inl rfl,?_,?_,?_⟩
  .exact(D.of_eq (cJ (S4 RR (by simp[Ug])))).of_eq (cJ (S4 RR (by simp[Ug])))
  .exact(h2.of_eq (cJ (S4 RW (by simp[Xf])))).of_eq (cJ (S4 RW (by simp[Xf])))
  exact((dk.refl _ _).dz (.inl rfl) _).dz (.inl rfl) _
 rintro k m A hk ⟨R,h5,hA,hB,d1,M,j,f,E,e3,Y,Q,g1,g2,dm⟩
 have F:al.ok j:=by rcases Y with rfl|rfl<;>assumption
 have ar:al.ok f:=by rcases Q with rfl|rfl<;>assumption
 have N:∀a,a∈Ug->j≠a:=λa y e=>by
  rcases Y with rfl|rfl
  .exact RR (e▸y)
  exact absurd (e▸y) aa
 have v:∀a,a∈Xf->f≠a:=λa y e=>by
  rcases Q with rfl|rfl
  .exact RW (e▸y)
  exact absurd (e▸y) aa
 have n3:j≠f:=λe=>by
  rcases Y with rfl|rfl
  .rcases Q with rfl|rfl
   .exact NP e
   exact N _ aa e
  exact v _ aa e.symm
 have z:He j\/j=i1\/j=i2:=by
  rcases Y with rfl|rfl
  .exact .inr (.inl rfl)
  exact .inl rfl
 have ad:He f\/f=i1\/f=i2:=by
  rcases Q with rfl|rfl
  .exact .inr (.inr rfl)
  exact .inl rfl
 have L:I ((nZ g r T).take k)=k:=ww
 have ab:I ((te g T).take k)=k:=ww
 by_cases aw:k<T-g
 .have aL:(((g+k:Nat):Int)<(T:Int)):=J;have w1:IntKind.i64.wrap (((g+k:Nat):Int)+1)=((g+(k+1):Nat):Int):=cg J;have hp:d_ ((nZ g r T).take (k+1))=d_ ((nZ g r T).take k)++[[.int .i64 ((g+k:Nat):Int),.int .i64 ((if k=0 then r else 0:Nat):Int)]]:=by
   rw[jM,ak5 J,Lj];rfl
  have hf:aY ((te g T).take (k+1))=aY ((te g T).take k)++[[.int .i64 ((g+(k+1):Nat):Int)]]:=by rw[jM,asY aw,IZ,show g+1+k=g+(k+1) by omega];rfl
  simp only[go_sem,adO,R,h5,hA,hB,E,aL,X,n,Rf];refine UL (B:=[[.int .i64 ((g+k:Nat):Int),.int .i64 ((if k=0 then r else 0:Nat):Int)]]) (rd:=[12224128128]) (by simp[ap,F,Rf]) (g1.of_eq (cJ (N _ aa))) aIe (.inl rfl) (by simp only[iM,ct,L,fF,fB];omega) λc bt hc B=>?_;have am:=(B 12224000000 aa (N _ aa).symm).trans ((cJ aa).trans hA);have yr:=(B 12224000064 aa (N _ aa).symm).trans ((cJ aa).trans hB);simp only[go_sem,R,am,e3,w1,X,GU]
  refine UL (B:=[[.int .i64 ((g+(k+1):Nat):Int)]]) (rd:=[12224256192]) (by simp[IL,ar,GU]) (g2.of_eq ((cJ (v _ aa)).trans ((cJ (v _ aa)).trans ((B _ (v _ aa) n3.symm).trans (cJ (v _ aa)))))) aIe (.inl rfl) (by simp only[iM,ct,ab,fF,fB];omega) λc' nE oX Z=>?_;have ag:=(Z 12224000000 aa (v _ aa).symm).trans ((cJ aa).trans Ao);have an:=(Z 12224000064 aa (v _ aa).symm).trans ((cJ aa).trans ((cJ aa).trans yr));simp only[go_sem,R,h5,ag,an,E,e3,aw];refine⟨rfl,c,c',12224128192,12224256256,rfl,rfl,.inr rfl,.inr rfl,?_,?_,λid H=>?_⟩
  .rw[hp,<-k9];exact hc.of_eq ((Z _ aa (v _ aa).symm).trans ((cJ aa).trans (cJ aa)))
  .rw[hf,<-k9];exact oX
  have a:∀x,He x->id≠x:=λx hx e=>H (.inl (e▸hx));have b1:id≠j:=λe=>H (e▸z);have b2:id≠f:=λe=>H (e▸ad);exact(Z id (a _ rfl) b2).trans ((cJ (a _ rfl)).trans ((cJ (a _ rfl)).trans ((B id (a _ rfl) b1).trans ((cJ (a _ rfl)).trans (dm id H)))))
 have:k=T-g:=J;subst this;have aL:¬(((g+(T-g):Nat):Int)<(T:Int)):=J;simp only[go_sem,adO,ag2,R,h5,hA,hB,E,aL,X,n,u];have Zt:d_ (nZ g r T)=d_ ((nZ g r T).take (T-g))++[[.int .i64 (T:Int),.int .i64 (t:Int)]]:=by
  have D:=jM (l:=nZ g r T) (i:=T-g);rw[ak5 (cP _),eT (show(nZ g r T).length<=T-g+1 by omega)]at D;have e1:g+(T-g)=T:=J;have E:(if T-g=0 then r else 0)=t:=by
   rw[ht];by_cases h:T=g
   .rw[aI h,aI J]
   rw[aE h,aE J]
  rw[e1,E]at D;exact(congrArg (λl:pI=>d_ l) D).trans (Lj _ _)
 have im:(te g T).take (T-g)=te g T:=eT J;refine UL (B:=[[.int .i64 (T:Int),.int .i64 (t:Int)]]) (rd:=[12224320128]) (by simp[az,F,u]) (g1.of_eq (cJ (N _ aa))) aIe (.inl rfl) (by simp only[iM,ct,L,fF,fB];omega) λc bt hc B=>?_;simp only[go_sem,e3];refine⟨c,M,f,rfl,?_,?_,Q,λid H=>?_⟩
 .rw[Zt,<-k9];exact hc
 .rw[im]at g2;exact g2.of_eq ((B _ (v _ aa) n3.symm).trans (cJ (v _ aa)))
 have a:∀x,He x->id≠x:=λx hx e=>H (.inl (e▸hx));have b1:id≠j:=λe=>H (e▸z);exact(B id (a _ rfl) b1).trans ((cJ (a _ rfl)).trans (dm id H))
def amO(ok:fY F h)(H:j<I (aA h)):∃u l,(aA h)[j]?=some u/\(aA h).getD j 0=u/\h[u]?=some l/\l.ay/\ub F h l/\dN h l=j:=by
 obtain⟨u,l,f,m,x,n,v⟩:=Rn ok H;obtain _:=v_ ok.ax f
 grind
def aET{f pr Q y:Nat}{p q:U}(gp:ub F h p)(B:ub F h q)(hp:dN h p=j)(H:dN h q=j+1)(z:p.gate=(f:Int))(u:p.ao=(pr:Int))(x:q.gate=(Q:Int))(m:q.ao=(y:Int)):
  f<=Q/\y-1=if Q=f then pr else 0:=by
 obtain⟨_,_,L,v⟩:=gp;obtain⟨_,_,D,A⟩:=B;unfold dN at hp H;rw[z,u]at hp;rw[x,m]at H;rw[z,u]at v;rw[m]at D;rw[x,m]at A;simp only[lJ]at hp H v A;have M:=qR h f;have N:=qR h Q;have n:f<=Q:=by
  rcases RL Q f with E|E
  .have:=Ai (h:=h) (show Q+1<=f by omega);omega
  exact E
 refine⟨n,?_⟩;by_cases e:Q=f
 .grind
 rw[aE e];have:=Ai (h:=h) (show f+1<=Q by omega);omega
def atc{f Q:Nat}{q:U}(m:ub F h q)(j:dN h q=0)(H:q.gate=(f:Int))(n:q.ao=(Q:Int)):Q-1=0:=by grind [dN]
def axf:S.sites 191=[191]:=ah
def xF{v:dG}{blk:aH}:∀id,He id->(iA (S.ctx .all) 191 v blk).ok id:=λid h=>zy (by rw[axf,h];simp)
def ayV(ok:fY F h)(hF:F<=1000)(hj:j<I (aA h)):
  aC S 145 [.one (.p (pX F h)),ai j] (.tup [.one (bU zz 2 (d_ (l_ F h j))),.one (bU 3 1 (aY (AY F h j)))]):=by
 have hl:=ok.hl;have jD:I (aA h)<=1000000:=ob (qp h (I h)) hl;have hm:=dB (j+1) (show 0<I (aA h) by omega);obtain⟨u,p,hu,du,hp,pp,gp,xp⟩:=amO ok hj;obtain⟨ag,q,hv,dv,hq,pq,L,xq⟩:=amO ok hm;unfold l_ AY;simp only[du,dv,uU hp,uU hq,Sy hp];have dp:=fW hp;have Ba:=fW hq;have GC:=i_ hu;have vk:=i_ hv;have e1:=tu (j+1) (I (aA h));have w1:=cg (n:=j) J;have w2:=EU (a:=I (aA h)) J J;have qV:¬((I (aA h):Int)=0):=J
 have Gx:=gp.g0;have Dp:=gp.g1;have yD:=L.g0;have di:=L.g1;have Iz:=gp.r0;have lO:=gp.r1;have mF:=L.r0;have jr:=L.r1;have Di:aZ h p.gate.toNat<=I h:=ny _ _;have O:aZ h q.gate.toNat<=I h:=ny _ _;obtain⟨f,N⟩:=lV (show 0<=p.gate by omega);obtain⟨pr,D⟩:=lV (show 0<=p.ao by omega);obtain⟨Q,A⟩:=lV (show 0<=q.gate by omega);obtain⟨qr,z⟩:=lV (show 0<=q.ao by omega);have wr:=EU (a:=qr) (by rw[z]at mF;omega) J;have R:S.shared 191:=ah;have Is:=λH=>aET gp L xp (H:dN h q=j+1) N D A z;have Zo:=λH=>atc L (H:dN h q=0) A z
 rw[N]at Dp lO Di Gx;rw[D]at lO Iz;rw[A]at yD di jr O;rw[z]at mF jr;rw[N,D,A];simp only[lJ]at lO Di jr O |-;refine ba aDb ?_;by_cases aw:j+1<I (aA h)
 .have Z:(j:Int)<((I (aA h)-1:Nat):Int):=J;rw[fC aw]at xq;obtain⟨n1,v⟩:=Is xq;simp only[aI aw];simp only[go_sem,VN,GC,vk,dp,Ba,U.ps,w1,e1,w2,wr,Z,qV,N,D,A,z,R];refine⟨aK,?_⟩;refine rG (P:=Mo f pr Q [] [] 12224128192 12224256256 _) uS (P_ (g:=f) (r:=pr) (T:=Q) (t:=qr-1) (c1:=.p .nils) (c2:=.p .nils) xF (xF _ rfl) (xF _ rfl) n1 v J (bj _) (bj _) aa aa aa a_.nil a_.nil) ?_;rintro ag ak ⟨y,x,Y,rfl,g1,B,M,dm⟩
  have M:Y=12224256256:=ask
  subst M;simp only[go_sem];exact Tt aa g1 B
 have Z:¬(j:Int)<((I (aA h)-1:Nat):Int):=J;have Km:(j+1)%I (aA h)=0:=by rw[show j+1=I (aA h) by omega,yN]
 rw[Km]at xq;have v:=Zo xq;simp only[aE aw];have Zt:∃t:Nat,t=(if F=f then pr else 0):=⟨_,rfl⟩;obtain⟨t,E⟩:=Zt;have fin:∀(m:bP) (blk:aH) (y x:cG),True:=λ_ _ _ _=>trivial;have ab:(((f:Int)==(F:Int))/\t=pr/\F=f)\/(((f:Int)==(F:Int))=false/\t=0):=by
  by_cases H:F=f
  .subst H;rw[aI rfl]at E;exact .inl ⟨aG,E,rfl⟩
  rw[aE H]at E;exact .inr ⟨by simp;omega,E⟩
 rcases ab with⟨hb,wx,ad⟩|⟨hb,wx⟩
 case' _=>
  subst ad;simp only[go_sem,VN,GC,vk,dp,Ba,U.ps,w1,e1,w2,wr,Z,qV,N,D,A,z,R,hb];refine⟨aK,?_⟩;refine⟨aK,?_⟩;refine rG (P:=Mo F pr F [] [] 12224128192 12224256256 _) uS (P_ (g:=F) (r:=pr) (T:=F) (t:=pr) (c1:=.p .nils) (c2:=.p .nils) xF (xF _ rfl) (xF _ rfl) J (by rw[aI rfl]) J (bj _) (bj _) aa aa aa a_.nil a_.nil) ?_;rintro ag cE ⟨y,x,Y,rfl,g1,B,M,dm⟩
  have M:Y=12224256256:=ask
  subst M;rw[gM]at g1 B;have X:=dm 9280256384 aa;simp only[go_sem]at X;simp only[go_sem,X,R];refine rG (P:=Mo 0 0 Q (d_ (nZ F pr F)) (aY (te F F)) 12224320192 12224256256 _) uS (P_ (g:=0) (r:=0) (T:=Q) (t:=qr-1) (c1:=y) (c2:=x) xF (xF _ rfl) (xF _ rfl) (bj _) (by rw[v];split<;>rfl) J aHU aHV aa aa aa g1 B) ?_
 rotate_left
 case' _=>
  simp only[go_sem,VN,GC,vk,dp,Ba,U.ps,w1,e1,w2,wr,Z,qV,N,D,A,z,R,hb];refine⟨aK,?_⟩;refine⟨aK,?_⟩;refine rG (P:=Mo f pr F [] [] 12224128192 12224256256 _) uS (P_ (g:=f) (r:=pr) (T:=F) (t:=0) (c1:=.p .nils) (c2:=.p .nils) xF (xF _ rfl) (xF _ rfl) J (by rw[wx]at E;exact E) J (bj _) (bj _) aa aa aa a_.nil a_.nil) ?_;rintro ag cE ⟨y,x,Y,rfl,g1,B,M,dm⟩
  have M:Y=12224256256:=ask
  subst M;rw[gM]at g1 B;have X:=dm 9280256384 aa;simp only[go_sem]at X;simp only[go_sem,X,R];refine rG (P:=Mo 0 0 Q (d_ (nZ f pr F)) (aY (te f F)) 12224320192 12224256256 _) uS (P_ (g:=0) (r:=0) (T:=Q) (t:=qr-1) (c1:=y) (c2:=x) xF (xF _ rfl) (xF _ rfl) (bj _) (by rw[v];split<;>rfl) J aHU aHV aa aa aa g1 B) ?_
 all_goals
  rintro ag bt ⟨d1,d2,j3,rfl,k1,k2,Il,_⟩
  have Il:j3=12224256256:=by rcases Il with H|H<;>exact H
  subst Il;simp only[go_sem];rw[Lj,IZ];exact Tt aa k1 k2
def PK{e:dR}(h:I e=1):∃x,e=[x]:=by
 match e,h with
 |[a],_=>exact⟨a,rfl⟩
def aqm{e:dR}(h:I e=2):∃x X,e=[x,X]:=by
 match e,h with
 |[a,b],_=>exact⟨a,b,rfl⟩
def alY{e:dR}(h:I e=7):∃x j n m x4 u X,e=[x,j,n,m,x4,u,X]:=by
 match e,h with
 |[a,b,c,d,f,g,i],_=>exact⟨a,b,c,d,f,g,i,rfl⟩
structure wN (es fs:dy) (k:Nat):Prop where
 len:I fs=I es
 at':∀i,i<I es->fs[i]?=if i<k\/I es-1-i<k then es[I es-1-i]? else es[i]?
def wN.start(n:dy):wN n n 0:=⟨rfl,λi _=>by rw[aE J]⟩
def wN.step{fs:dy}{k:Nat}{a b:dR}(h:wN n fs k)(v:k<I n-1-k)(f:n[k]?=some a)(m:n[I n-1-k]?=some b):
  fs[k]?=some a/\fs[I n-1-k]?=some b/\wN n ((fs.set k b).set (I n-1-k) a) (k+1):=by
 have H:=h.len;refine⟨?_,?_,⟨by rw[oF,oF];exact H,λi u=>?_⟩⟩
 .rw[h.at' k J,aE J,f]
 .rw[h.at' _ J,aE J,m]
 rw[qt,oF];by_cases E:I n-1-k=i
 .grind
 rw[aE E,qt];by_cases j:k=i
 .grind
 rw[aE j,h.at' i u]
 grind
def wN.done{fs:dy}{k:Nat}(h:wN n fs k)(f:¬k<I n-1-k):fs=n.reverse:=by
 refine qO λi=>?_;rcases RL i (I n) with H|H
 .rw[h.at' i H,Rj H]
  grind
 rw[pS (by rw[h.len];exact H),pS ii]
def Ki(id E z:Nat)(n:dy)(c:cG)(blk:aH)(v:V)(A:aH):Prop:=v=.tup []/\a_ id E z n.reverse (.one c) A/\dk (· =id) blk A
def asa{al:cD}{blk:aH}{id:Nat}{c:cG}(o:n=[]\/al.ok id)(hl:I n<=1000000)(F:∀e∈n,I e=1/\ ∀v∈e,v.norm=v)(h:a_ id E 1 n (.one c) blk):
  ∃v A,ja S 147 [.one c] al blk v A/\Ki id E 1 n c blk v A:=by
 refine mL aCa (jg rfl) ?_;rcases h with⟨rfl,H⟩|⟨B,g,H,N⟩
 .cases H;have w0:IntKind.i64.wrap (((0:Nat):Int)-1)= -1:=aa;have Z:¬((0:Int)< -1):=aa;simp only[go_sem,aeG,w0];refine cZ (λk m A=>k=0/\m 2=ai 0/\m 3=ai (-1)/\A=blk) 0 0 (cP _) ?_ ?_
  .simp only[go_sem]
  rintro k m A _ ⟨rfl,H,f,rfl⟩
  simp only[go_sem,U8,H,f,Z];exact⟨rfl,.inl ⟨rfl,rfl⟩,λ_ _=>rfl⟩
 cases H;have o:=o.resolve_left B;simp only[go_sem,aeG,sq (a:=I n) J];refine cZ (λk m A=>m 0=.one (.hsl id g 1 0 (I n))/\m 2=ai k/\m 3=ai ((I n:Int)-1-(k:Int))/\ ∃fs,A id=(g,some (.arr E 1 fs))/\wN n fs k/\dk (· =id) blk A) 0 (I n) (bj _) ?_ ?_
 .simp only[go_sem];refine⟨rfl,aG,n,N,wN.start n,dk.refl _ _⟩
 rintro k m A hk ⟨Q,H,f,fs,u,x,L⟩
 by_cases z:k<I n-1-k
 .have e1:((I n:Int)-1-(k:Int))=((I n-1-k:Nat):Int):=J;rw[e1]at f;have j:((k:Int)<((I n-1-k:Nat):Int)):=J;have M:=cg (n:=k) J;have w2:IntKind.i64.wrap (((I n-1-k:Nat):Int)-1)=((I n:Int)-1-((k+1:Nat):Int)):=by
   rw[sq J];omega
  obtain⟨a,D⟩:=aP (show k<I n by omega);obtain⟨b,y⟩:=aP (show I n-1-k<I n by omega);obtain⟨T,fb,Y⟩:=x.step z D y;obtain⟨la,na⟩:=F a (a8 D);obtain⟨lb,R⟩:=F b (a8 y);obtain⟨X,rfl⟩:=PK la;obtain⟨y0,rfl⟩:=PK lb;have Kr:=na X aG;have Ks:=R y0 aG;have qT:=x.len;have O:¬(k=I n-1-k):=J;have l1:k<I fs:=J;have l2:I n-1-k<I fs:=J;have l3:k<I n:=J;have l4:I n-1-k<I n:=J;simp only[go_sem,U8,Q,H,f,u,j,T,fb,M,w2,o,l1,l3,O,by omega,Kr,Ks,qt];refine⟨aK,_,rfl,Y,?_⟩;exact(L.dz rfl _).dz rfl _
 have j:¬((k:Int)<(I n:Int)-1-(k:Int)):=J;simp only[go_sem,U8,H,f,j];refine⟨rfl,?_,L⟩;rw[x.done z]at u;exact .inr ⟨by simpa using B,g,by rw[r_],u⟩
def avt{al:cD}{blk:aH}{id:Nat}{c:cG}(o:n=[]\/al.ok id)(hl:I n<=1000000)(F:∀e∈n,I e=2/\ ∀v∈e,v.norm=v)(h:a_ id E 2 n (.one c) blk):
  ∃v A,ja S 146 [.one c] al blk v A/\Ki id E 2 n c blk v A:=by
 refine mL aGC (jg rfl) ?_;rcases h with⟨rfl,H⟩|⟨D,g,H,Q⟩
 .cases H;have w0:IntKind.i64.wrap (((0:Nat):Int)-1)= -1:=aa;have hz:¬((0:Int)< -1):=aa;simp only[go_sem,aaI,w0];refine cZ (λk m A=>k=0/\m 2=ai 0/\m 3=ai (-1)/\A=blk) 0 0 (cP _) ?_ ?_
  .simp only[go_sem]
  rintro k m A _ ⟨rfl,H,f,rfl⟩
  simp only[go_sem,Tc,H,f,hz];exact⟨rfl,.inl ⟨rfl,rfl⟩,λ_ _=>rfl⟩
 cases H;have o:=o.resolve_left D;simp only[go_sem,aaI,sq (a:=I n) J];refine cZ (λk m A=>m 0=.one (.hsl id g 2 0 (I n))/\m 2=ai k/\m 3=ai ((I n:Int)-1-(k:Int))/\ ∃fs,A id=(g,some (.arr E 2 fs))/\wN n fs k/\dk (· =id) blk A) 0 (I n) (bj _) ?_ ?_
 .simp only[go_sem];refine⟨rfl,aG,n,Q,wN.start n,dk.refl _ _⟩
 rintro k m A hk ⟨T,H,f,fs,u,x,M⟩
 by_cases z:k<I n-1-k
 .have e1:((I n:Int)-1-(k:Int))=((I n-1-k:Nat):Int):=J;rw[e1]at f;have j:((k:Int)<((I n-1-k:Nat):Int)):=J;have O:=cg (n:=k) J;have w2:IntKind.i64.wrap (((I n-1-k:Nat):Int)-1)=((I n:Int)-1-((k+1:Nat):Int)):=by
   rw[sq J];omega
  obtain⟨a,L⟩:=aP (show k<I n by omega);obtain⟨b,y⟩:=aP (show I n-1-k<I n by omega);obtain⟨Z,fb,yt⟩:=x.step z L y;obtain⟨la,B⟩:=F a (a8 L);obtain⟨lb,N⟩:=F b (a8 y);obtain⟨X,x1,rfl⟩:=aqm la;obtain⟨y0,Y,rfl⟩:=aqm lb;have Kr:=B X aG;have QG:=B x1 aG;have Ks:=N y0 aG;have QH:=N Y aG;have qT:=x.len;have R:¬(k=I n-1-k):=J;have l1:k<I fs:=J;have l2:I n-1-k<I fs:=J;have l3:k<I n:=J;have l4:I n-1-k<I n:=J;simp only[go_sem,Tc,T,H,f,u,j,Z,fb,O,w2,o,l1,l3,R,by omega,Kr,QG,Ks,QH,qt];refine⟨aK,_,rfl,yt,?_⟩;exact(M.dz rfl _).dz rfl _
 have j:¬((k:Int)<(I n:Int)-1-(k:Int)):=J;simp only[go_sem,Tc,H,f,j];refine⟨rfl,?_,M⟩;rw[x.done z]at u;exact .inr ⟨by simpa using D,g,by rw[r_],u⟩
def U2{f:Nat}{c:cG}{blk:aH}(h:a_ f E z n (.one c) blk):(n=[]/\mI blk (.one c)=[])\/mI blk (.one c)=[f]:=by
 rcases h with⟨j,H⟩|⟨j,g,H,m⟩
 .cases H;exact .inl ⟨j,aef⟩
 cases H;exact .inr (show oj blk 6 (.hsl f g z 0 (I n))=[f]from MM m)
section
variable {al:cD} {Q:ib} {m:bP} {blk:aH} {os:fx} {d:eF}
def amW{id E:Nat}{c:cG}(Z:∀ {al:cD}{blk:aH},n=[]\/al.ok id->a_ id E z n (.one c) blk->∃v A,ja S f [.one c] al blk v A/\Ki id E z n c blk v A)(af:S.sites f=[f])(H:a_ id E z n (.one c) blk)(O:al.ok id)(hf:al.fs.contains f)
  (x:∀A,a_ id E z n.reverse (.one c) A->(∀i,i≠id->A i=blk i)->jC S al os Q (dL m d (.tup [])) A):jW S al (.sc f [.one c]) d os Q m blk:=by
 refine rG (Mk ?_ ?_) (Z ?_ H) ?_
 .show al.iG ([V.one c].map _).flatten=true;rcases U2 H with⟨_,h⟩|h
  .simp[h,cD.iG]
  simp[h,cD.iG,O]
 .show(S.sites f).all al.fs.contains=true
  grind
 .rcases U2 H with⟨h,_⟩|h
  .exact .inl h
  exact .inr (uI ut)
 rintro v A ⟨rfl,u,j⟩
 exact x A u j
end
def aEg:S.sites 146=[146]:=ah
def aEN:S.sites 147=[147]:=ah
def afO(ok:fY F h){x:Nat}(H:x<aX h):aT h x<aX h:=Wd ok.kG ok.hp H
abbrev xi(id:Nat):Prop:=lf id=111
structure alJ (ls:ae) (jI gS idB gB g8 gF:Nat) (sp:dK) (f:cX) (cd cp cf:cG) (blk:aH):Prop where
 bS:blk jI=(gS,some (.arr 4 1 (dx sp)))
 bB:blk idB=(gB,some (.arr 4 1 (dx (E8 ls))))
 b8:blk 7104000000=(g8,some (.var [.p (.bool false),.p .nils,.p .nils,.p .nils,.p (.bool false)]))
 bF:blk 7104128448=(gF,some (.var [.p (.bool f.eO),cd,cp,cf,.p (.bool f.outer)]))
 gd:a_ 7104512256 3 1 (aY f.bc) (.one cd) blk
 gp:a_ 7104896192 zz 2 (d_ f.places) (.one cp) blk
 gf:a_ 7104896448 3 1 (aY f.sH) (.one cf) blk
def aBQ(ok:fY F h){f:cX}{x k:Nat}(H:x<aX h)(j:I f.bc<=k/\I f.places<=k*(2*F+2)/\I f.sH<=k*(2*F+2)):(f.add F h x).bc.length<=k+1/\(f.add F h x).places.length<=(k+1)*(2*F+2)/\(f.add F h x).sH.length<=(k+1)*(2*F+2):=by grind [cX.add,UX,We]
def aCr{al:cD}(ok:fY F h)(hF:F<=1000)(E:∀id,xi id->al.ok id){jI g8 d:Nat}(oS:al.ok jI)(nS:¬xi jI)(nB:¬xi L)(bb:jI≠L)(f1:al.fs.contains 146)(f2:al.fs.contains 147)(hd:d<2*I h):
  ∀(j k x:Nat) (u:dK) (f:cX) (m:bP) (blk:aH) (B A y:cG),m 0=.one (.p (pX F h))->m 2=.one (.hsl jI M 1 0 (2*I h))->m 8=.one (.aW 7104000000 g8 0)->m 9=ai (I h)->m 10=ai (I (aA h))->m 11=.one (.aW 7104128448 H 0)->m 12=ai x->
   alJ h jI M L O g8 H (u.take (2*I h)) f B A y blk->I u=aX h->x<aX h->Inv (aT h) (aX h) d u x->BX u<j->(k+j<=5000000)->(I f.bc<=k/\I f.places<=k*(2*F+2)/\I f.sH<=k*(2*F+2))->
   (∀aF ak Eo tv Ep,aF 8=m 8->aF 11=m 11->alJ h jI M L O g8 H ((hU (aT h) j x u).2.take (2*I h)) ((hU (aT h) j x u).1.foldl (cX.add F h) f) Eo tv Ep ak->(∀id,¬(xi id\/id=jI)->ak id=blk id)->Q .normal aF ak)->
   W S al (.loop Rd) (oh 0 Q) m blk:=by
 have hl:=ok.hl;have jD:I (aA h)<=1000000:=ob (qp h (I h)) hl;have eV:aX h<=4000000:=i8
 have m2:=qj (a:=I h) J;have k0:al.ok 7104000000:=E _ rfl;have kF:al.ok 7104128448:=E _ rfl;have aN:al.ok 7104512192:=E _ rfl;have kd:al.ok 7104512256:=E _ rfl;have kp:al.ok 7104896192:=E _ rfl;have kf:al.ok 7104896448:=E _ rfl;have ab:al.ok 7104640128:=E _ rfl;have ad:al.ok 7104640129:=E _ rfl;have hm:=nc ok;intro j
 induction j with
 |zero=>intro k x u f m blk B A y _ _ _ _ _ _ _ _ _ _ _ az;omega
 |succ j ih=>
  intro k x u f m blk B A y h0 h2 h8 h9 dZ Y mS D Qf Z hi hu hk am R;have bm:=hm.le;obtain⟨l1,l2,l3⟩:=am;have bn:k*(2*F+2)<=5000000*2002:=JG J J;have QC:=aBQ ok Z ⟨l1,l2,l3⟩;unfold hU at R;have N:∀ {a:Nat},xi a->a≠jI:=λaz e=>nS (e▸az);have z:∀ {a:Nat},xi a->a≠L:=λaz e=>nB (e▸az);have nF:¬(7104128448=jI):=N rfl;refine oG ?_;cases af:u.getD x true with
  |true=>
   have bk:=hi.i4 af;have aw:x<2*I h:=J;have aL:((x:Int)<((2*I h:Nat):Int)):=J;rw[af]at R;simp only[if_true]at R;have T:(u.take (2*I h))[x]?=some true:=by
    have h1:=acA aw (show 2*I h<=I u by omega);rw[show dO u x=true from af,dM]at h1;have yJ:x<I (u.take (2*I h)):=ww
    obtain⟨b,T⟩:=aP yJ;rw[T]at h1 |-;exact congrArg some h1
   have mD:=rB T;simp only[go_sem,Rd,h0,h2,h9,mS,m2,aL,aw,D.bS,mD,oS];exact R _ _ B A y d9 d9 D (λ_ _=>rfl)
  |false=>
   have QR:u[x]?=some false:=by
    rw[dM]at af;cases h1:u[x]? with
    |none=>rw[h1]at af;cases af
    |some b=>rw[h1]at af;exact congrArg some af
   have KA:=Sm QR;have pt:=aod ok x (by unfold aX at Z;exact Z);have cN:=hi.step hm Qf Z af;rw[af]at R;simp only[iJ,if_false,Ac]at R;by_cases X:x<2*I h
   .have aL:((x:Int)<((2*I h:Nat):Int)):=J;have T:(u.take (2*I h))[x]?=some false:=by rw[sB,aI X];exact QR
    have mD:=rB T;have iZ:=LS (u.take (2*I h)) x true;rw[agu]at iZ;have bg:f.add F h x={f with bc:=f.bc++[x]}:=by unfold cX.add;rw[aI X]
    simp only[go_sem,Rd,h2,h9,Y,mS,m2,aL,X,D.bS,D.bF,mD,iZ,oS,kF,aN,nF];refine UL (B:=[[.int .i64 (x:Int)]]) (rd:=[7104512192]) (by simp[kd,aN]) (D.gd.of_eq ((cJ aa).trans (cJ (N rfl)))) aIe (.inl rfl) LE λc bt hc bh=>?_;have M4:∀i,i≠7104512192->i≠7104512256->i≠jI->bt i=blk i:=λi a b c=>(bh i b b).trans ((cJ a).trans (cJ c))
    have a6:=(bh jI (N rfl).symm (N rfl).symm).trans ((cJ (N rfl).symm).trans Ao);have L7:=(M4 7104128448 aa aa (N rfl)).trans D.bF;simp only[go_sem,L7,h0,Y,mS,kF,YP,TN pt];refine ih (k+1) (aT h x) (u.set x true) (f.add F h x) _ _ c A y ?_ ?_ ?_ ?_ ?_ ?_ ?_ ?_ (by rw[oF];exact Qf) (afO ok Z) cN J J QC ?_
    .simp only[go_sem,h0]
    .simp only[go_sem,h2]
    .simp only[go_sem,h8]
    .simp only[go_sem,h9]
    .simp only[go_sem,dZ]
    .simp only[go_sem,Y]
    .simp only[go_sem]
    .rw[bg];refine⟨?_,?_,?_,Ao,?_,?_,?_⟩
     .exact(cJ (N rfl).symm).trans a6
     .exact(cJ (z rfl).symm).trans ((M4 _ (z rfl).symm (z rfl).symm bb.symm).trans D.bB)
     .exact(cJ aa).trans ((M4 _ aa aa (N rfl)).trans D.b8)
     .exact(IZ _ _▸hc.of_eq (cJ aa))
     .exact(D.gp.of_eq (M4 _ aa aa (N rfl))).of_eq (cJ aa)
     exact(D.gf.of_eq (M4 _ aa aa (N rfl))).of_eq (cJ aa)
    intro aF ak Eo tv Ep q8 Hj EG dm;refine R aF ak Eo tv Ep (by rw[q8];simp only[go_sem]) (by rw[Hj];simp only[go_sem]) EG λid hn=>?_;have a:∀bf,xi bf->id≠bf:=λbf hy e=>hn (.inl (e▸hy));exact(dm id hn).trans ((cJ (a _ rfl)).trans (M4 id (a _ rfl) (a _ rfl) λe=>hn (.inr e)))
   have hj:(x-2*I h)/2<I (aA h):=by unfold aX at Z;omega
   have yH:=ayV ok hF hj;have lP:=UX ok hj;have lF:=We ok hj;have vW:¬((x:Int)<((2*I h:Nat):Int)):=J;have ws:=S6 (a:=x) (b:=2*I h) J J;have wq:=wrap_small (n:=(x-2*I h)/2) J;have w2:=EU (a:=I (aA h)) J J;have Qp:((((x-2*I h)/2:Nat):Int)==((I (aA h)-1:Nat):Int))=decide ((x-2*I h)/2+1=I (aA h)):=by
    by_cases az:(x-2*I h)/2+1=I (aA h)
    .rw[uG az];simp;omega
    rw[uE az];simp;omega
   have qX:(f.add F h x).outer=(f.outer||decide ((x-2*I h)/2+1=I (aA h))):=Id
   have an:(f.add F h x).eO=f.eO:=Id
   have ar:(f.add F h x).bc=f.bc:=Id
   have Nh:(f.add F h x).places=f.places++(if x%2=0 then l_ F h ((x-2*I h)/2)else(l_ F h ((x-2*I h)/2)).reverse):=Id
   have EO:(f.add F h x).sH=f.sH++(if x%2=0 then AY F h ((x-2*I h)/2)else(AY F h ((x-2*I h)/2)).reverse):=Id
   generalize f.add F h x=f' at qX an ar Nh EO R QC;have nX:S.lone 7104640128=false:=ah;have a4:∀l:pI,((d_ l).all λe=>e.all PV.scalar):=λl=>by simp[PV.scalar]
   have a5:∀l:aD,((aY l).all λe=>e.all PV.scalar):=λl=>by simp[PV.scalar]
   have bi:∀l:pI,∀e∈d_ l,I e=2/\ ∀v∈e,v.norm=v:=λl e he=>by obtain⟨a,_,rfl⟩:=c_.1 he;exact⟨rfl,λv hv=>by simp at hv;rcases hv with rfl|rfl<;>rfl⟩
   have a0:∀l:aD,∀e∈aY l,I e=1/\ ∀v∈e,v.norm=v:=λl e he=>by obtain⟨a,_,rfl⟩:=c_.1 he;exact⟨rfl,λv hv=>by simp at hv;rcases hv with rfl;rfl⟩
   have dD:S.shared 146:=ah;have be:S.shared 147:=ah;have iw:(u.set x true).take (2*I h)=u.take (2*I h):=aow J;generalize l_ F h ((x-2*I h)/2)=PP at*;generalize AY F h ((x-2*I h)/2)=FF at*;simp only[go_sem,Rd,h0,h9,mS,m2,vW,ws,wq,kE,n_,aud];refine aAp (by simp[ab,ad]) yH nX (a4 _) (a5 _) λc e cE hc he T=>?_;by_cases eM:x%2=0
   case' _=>
    have Ku:((x:Int).tmod 2==1)=false:=by rw[tf,eM];rfl
    rw[aI eM]at Nh EO;have hP:=hc;have hE:=he;have MT:∀i,i≠7104640128->i≠7104640129->cE i=blk i:=T
   rotate_left
   case' _=>
    have Ku:((x:Int).tmod 2==1):=by rw[tf,show x%2=1 by omega];rfl
    rw[aE eM]at Nh EO;simp only[go_sem,kE,Ku,mS,dD];refine amW (λo az=>avt o GE (bi _) az) aEg hc ab f1 λbt jm bh=>?_;simp only[go_sem,be];refine amW (λo az=>asa o GE (a0 _) az) aEN (he.of_eq (bh _ aa)) ad f2 λnE a1 jE=>?_;have hP:a_ 7104640128 zz 2 (d_ PP.reverse) (.one c) nE:=by rw[d_,List.map_reverse];exact jm.of_eq (jE _ aa)
    have hE:a_ 7104640129 3 1 (aY FF.reverse) (.one e) nE:=by rw[aY,List.map_reverse];exact a1
    have MT:∀i,i≠7104640128->i≠7104640129->nE i=blk i:=λi a b=>(jE i b).trans ((bh i a).trans (T i a b))
   all_goals
    have ag:=(MT 7104128448 aa aa).trans D.bF;simp only[go_sem,kE,Ku,ag,Y,mS,kF];obtain⟨rP,a2,aB⟩:=hP.elems;refine ajp (by rcases aB with rfl|rfl<;>simp[kp,ab]) (D.gp.of_eq (MT _ aa aa)) a2 hP.gk acl λc2 zo r1 u1 j9 oU lO=>?_
    have L7:=(oU 7104128448 aa aa).trans ag;simp only[go_sem,L7,Y,kF];obtain⟨rE,bd,ap⟩:=(hE.of_eq (oU _ aa aa)).elems;refine ajp (by rcases ap with rfl|rfl<;>simp[kf,ad]) (D.gf.of_eq ((oU _ aa aa).trans (MT _ aa aa))) bd hE.gk acl λc4 Mb r2 u2 MV Dg Bb=>?_
    have JA:=(Dg 7104128448 aa aa).trans L7;have im:∀i,i≠7104640128->i≠7104640129->i≠7104896192->i≠7104896448->Mb i=blk i:=λi a b c d=>(Dg i d d).trans ((oU i c c).trans (MT i a b));have a3:a_ 7104896192 zz 2 (d_ f'.places) (.one c2) Mb:=by rw[Nh,Lj];exact j9.of_eq (Dg _ aa aa)
    have a9:a_ 7104896448 3 1 (aY f'.sH) (.one c4) Mb:=by rw[EO,IZ];exact MV
    clear j9 MV;cases ho:f.outer;all_goals
     rw[ho]at JA;simp only[go_sem,JA,h0,dZ,Y,mS,kF,w2,Qp,YP,TN pt];refine⟨?_,?_⟩
     .rcases aB with rfl|rfl<;>rcases ap with rfl|rfl<;>rcases lO with⟨rfl,rfl⟩|⟨rfl,rfl⟩|⟨rfl,rfl⟩<;>rcases Bb with⟨rfl,rfl⟩|⟨rfl,rfl⟩|⟨rfl,rfl⟩<;>kernel_rfl
     refine ih (k+1) (aT h x) (u.set x true) f' _ _ B c2 c4 ?_ ?_ ?_ ?_ ?_ ?_ ?_ ?_ (by rw[oF];exact Qf) (afO ok Z) cN J J QC ?_
     .simp only[go_sem,h0]
     .simp only[go_sem,h2]
     .simp only[go_sem,h8]
     .simp only[go_sem,h9]
     .simp only[go_sem,dZ]
     .simp only[go_sem,Y]
     .simp only[go_sem]
     .rw[iw];refine⟨?_,?_,?_,?_,?_,?_,?_⟩
      .exact(cJ (N rfl).symm).trans ((cJ (N rfl).symm).trans ((cJ (N rfl).symm).trans ((im _ (N rfl).symm (N rfl).symm (N rfl).symm (N rfl).symm).trans D.bS)))
      .exact(cJ (z rfl).symm).trans ((cJ (z rfl).symm).trans ((cJ (z rfl).symm).trans ((im _ (z rfl).symm (z rfl).symm (z rfl).symm (z rfl).symm).trans D.bB)))
      .exact(cJ aa).trans ((cJ aa).trans ((cJ aa).trans ((im _ aa aa aa aa).trans D.b8)))
      .rw[Ao,an,qX,ho];rfl
      .rw[ar];exact D.gd.of_eq ((cJ aa).trans ((cJ aa).trans ((cJ aa).trans (im _ aa aa aa aa))))
      .exact a3.of_eq ((cJ aa).trans ((cJ aa).trans (cJ aa)))
      exact a9.of_eq ((cJ aa).trans ((cJ aa).trans (cJ aa)))
     intro aF ak Eo tv Ep q8 Hj EG dm;refine R aF ak Eo tv Ep (by rw[q8];simp only[go_sem]) (by rw[Hj];simp only[go_sem]) EG λid hn=>?_;have a:∀bf,xi bf->id≠bf:=λbf hy e=>hn (.inl (e▸hy));exact(dm id hn).trans ((cJ (a _ rfl)).trans ((cJ (a _ rfl)).trans ((cJ (a _ rfl)).trans (im id (a _ rfl) (a _ rfl) (a _ rfl) (a _ rfl)))))
structure aU (F:Nat) (ls:ae):Prop where
 ok:fY F ls
 len:I ls<=400
 cr:aq U.au ls<=200
 fing:F<=40
 ne:ls≠[]
 first:∃l,ls[0]?=some l/\l.ay
 even:aq U.ay ls%2=0
 bad:∀l∈ls,eK F l=false
 chk:fP F ls=0
 nw:fV ls=aq U.ay ls+aq U.au ls/2+2
theorem E4{f:Int}(j:fP f h=0)(A:h≠[]):∃F:Nat,f=(F:Int)/\aU F h:=by
 have u:=j;unfold fP at j;by_cases D:400<I h\/200<aq U.au h
 .grind
 rw[aE D]at j;by_cases m:f<0\/40<f
 .grind
 rw[aE m,aE A]at j;cases H:oI f h with
 |false=>rw[H]at j;simp at j
 |true=>
  obtain⟨F,rfl⟩:=lV (show 0<=f by omega);refine⟨F,rfl,?_⟩;unfold oI at H;simp at H;obtain⟨⟨⟨mr,v2⟩,v3⟩,v4⟩:=H;obtain⟨y,B,n⟩:=QQ.1 v3;have T:=λl hl=>by simpa using HI.1 y l hl
  have v:=λl hl hp=>((nu hp).1 (T l hl)).1.1.1;obtain⟨g1,z⟩:=(Ji v).1 B;obtain⟨L,x⟩:=aP (iW.2 A);rw[x]at mr;exact⟨⟨J,⟨g1,z⟩,n,λl hl=>Dy (T l hl)⟩,J,J,J,A,⟨L,x,mr⟩,by simpa using v2,T,u,by simpa using v4⟩
def aU.axne(g:aU F h):aA h≠[]:=by obtain⟨l,f,H⟩:=g.first;exact List.ne_nil_of_mem (sX.2 ⟨l,f,H⟩)
def aEs(F:Nat)(h:ae)(jI M:Nat)(x:Nat)(m:dK)(blk:aH)(v:V)(j:aH):Prop:=
 ∃f B A y,f=((hU (aT h) (aX h+1) x m).1).foldl (cX.add F h) (cX.new h x)/\v=.agg [.p (.bool f.eO),B,A,y,.p (.bool f.outer)]/\j jI=(M,some (.arr 4 1 (dx ((hU (aT h) (aX h+1) x m).2.take (2*I h)))))/\
  a_ 7104512256 3 1 (aY f.bc) (.one B) j/\a_ 7104896192 zz 2 (d_ f.places) (.one A) j/\a_ 7104896448 3 1 (aY f.sH) (.one y) j/\dk (λid=>xi id\/id=jI) blk j
def aEX{al:cD}{F:Nat}{h:ae}(ok:fY F h)(hF:F<=1000)(f:∀id,xi id->al.ok id){jI x:Nat}(oS:al.ok jI)(oB:al.ok L)(T:¬xi jI)(Z:¬xi L)(u:jI≠L)(f1:al.fs.contains 146)(f2:al.fs.contains 147){j:dK}{blk:aH}
  (hx:x<2*I h) (Qf:I j=aX h) (eh:QD (aT h) (aX h) j) (af:j.getD x true=false) (bS:blk jI=(M,some (.arr 4 1 (dx (j.take (2*I h)))))) (bB:blk L=(O,some (.arr 4 1 (dx (E8 h))))):
  ∃v A,ja S 111 [.one (.p (pX F h)),ai x,.one (.hsl jI M 1 0 (2*I h)),.one (.hsl L O 1 0 (I h))] al blk v A/\aEs F h jI M x j blk v A:=by
 have hl:=ok.hl;have jD:I (aA h)<=I h:=qp h (I h);have eV:aX h<=4000000:=i8
 have D:al.ok 7104000000:=f _ rfl;have Q:al.ok 7104128448:=f _ rfl;have B:x/2<I h:=J;have m:∀ {a:Nat},xi a->a≠jI:=λab e=>T (e▸ab);have N:∀ {a:Nat},xi a->a≠L:=λab e=>Z (e▸ab);have z:¬(L=7104000000):=λe=>N rfl e.symm;have QS:=Mx j;refine mL asC (jg rfl) ?_;simp only[go_sem,aj8,bB,z,D,Q,oB,kE,n_,wrap_small (n:=x/2) J,B,rB (aw8 B)];refine⟨aK,?_⟩;refine aCr ok hF f (M:=M) (O:=O) (g8:=(blk 7104000000).1+1) (H:=(blk 7104128448).1+1) oS T Z u f1 f2 hx (aX h+1) 0 x j (cX.new h x) _ _ (.p .nils) (.p .nils) (.p .nils) ?_ ?_ ?_ ?_ ?_ ?_ ?_ ?_ Qf i8 (Inv.start eh af) J J ⟨cP _,bj _,bj _⟩ ?_
 .simp only[go_sem]
 .simp only[go_sem]
 .simp only[go_sem]
 .simp only[go_sem]
 .simp only[go_sem]
 .simp only[go_sem]
 .simp only[go_sem]
 .refine⟨?_,?_,?_,?_,a_.nil,a_.nil,a_.nil⟩
  .simp only[cJ (m (a:=7104000000) rfl).symm,cJ (m (a:=7104128448) rfl).symm,bS]
  .simp only[cJ (N (a:=7104000000) rfl).symm,cJ (N (a:=7104128448) rfl).symm,bB]
  .simp only[go_sem]
  simp only[go_sem,cX.new]
 intro aF A Eo tv Ep Y R E dm;simp only[go_sem]at Y R;simp only[go_sem,afj,Y,R,E.b8,E.bF,D,Q];refine⟨_,Eo,tv,Ep,rfl,rfl,?_,?_,?_,?_,λid X=>?_⟩
 .exact(cJ (m rfl).symm).trans E.bS
 .exact E.gd.of_eq (cJ aa)
 .exact E.gp.of_eq (cJ aa)
 .exact E.gf.of_eq (cJ aa)
 have a:∀y,xi y->id≠y:=λy hy e=>X (.inl (e▸hy));refine(cJ (a _ rfl)).trans ((dm id X).trans ?_);simp only[cJ (a 7104000000 rfl),cJ (a 7104128448 rfl)]
def Ak{c:cG}{blk:aH}(h:a_ R D X n (.one c) blk):iD blk (.tup [.one c,.one (.p x)])=some (.tup [.one (bU D X n),.one (.p x)]):=by obtain⟨m,o,j,H,f⟩:=h.iN;cases j;rcases f with rfl|rfl<;>simp[iD,mM,yO,kZ,kD,H,(show Go.Abs.iN blk (.p x)=some _ from rfl),lg,oE,nq,HQ]
def JR{blk:aH}{id g g0 o l f:Nat}(h:blk id=(g0,some (.arr E f n))):mI blk (.one (.hsl id g z o l))=[id]:=(MM h:oj blk 6 (.hsl id g z o l)=[id])
def atL:(S.sites 111).contains 111:=ah
def aGr:(S.sites 111).contains 146:=ah
def aBZ:(S.sites 111).contains 147:=ah
def aie{S:dK}{n k:Nat}{b:Bool}(f:k<n)(H:n<=I S)(h:S.getD k true=b):(S.take n)[k]?=some b:=by grind
def aAT(g:aU F h):aC S 72 [c7 F h] (.tup [.one (bU tV 5 (ki (dA F h))),.one (.p (.int .i64 0))]):=by
 have ok:=g.ok;have hF:F<=1000:=by have:=g.fing;omega
 have jD:I (aA h)<=I h:=qp h (I h);have am:=g.len;have eV:aX h<=4000000:=i8
 have D:2*I h<=aX h:=i8
 have pr:=XX F h (ok.hl);rw[Sx g.chk,aE g.ne,lJ]at pr;have pb:=asF ok;have hm:=nc ok;have m2:=qj (a:=I h) J;have nU:2*I h<=140737488355328:=J;have Kw:List.replicate (2*I h) [PV.bool false]=dx ((fJ (aT h) (aX h) 0).2.take (2*I h)):=by show _=dx ((List.replicate (aX h) false).take (2*I h));rw[List.take_replicate,zx D];simp
 have ab:∀blk:aH,fQ blk [] 4608384064 ((RV.one (.own 4 1 (dx (E8 h)))).gV (S.lone 4608384064))=some (.one (.hsl 4608384064 ((blk 4608384064).1+1) 1 0 (I h)),[(4608384064,((blk 4608384064).1+1,some (.arr 4 1 (dx (E8 h)))))]):=by intro blk;rw[show S.lone 4608384064=false by kernel_rfl];show some (V.one (.hsl 4608384064 ((blk 4608384064).1+1) 1 0 (I (dx (E8 h)))),_)=_;rw[show(dx (E8 h)).length=I h by simp[xG]];rfl
 have gO:S.shared 111:=ah;refine ba ag1 ?_;simp only[go_sem,adz,abH,dt pr kR,aol,dt pb (ab _),m2,nU,Kw];refine cZ (λk m blk=>m 4=.one (.p (pX F h))/\m 7=.one (.hsl 4608320448 1 1 0 (2*I h))/\m 8=.one (.hsl 4608384064 1 1 0 (I h))/\m 29=ai ((2*I h:Nat):Int)/\m 30=ai k/\
   blk 4608320448=(1,some (.arr 4 1 (dx ((fJ (aT h) (aX h) k).2.take (2*I h)))))/\blk 4608384064=(1,some (.arr 4 1 (dx (E8 h))))/\
   ∃M,m 6=.one M/\a_ 4608704448 tV 5 (ki ((fJ (aT h) (aX h) k).1.map (jc F h))) (.one M) blk) 0 (2*I h) (bj _) ?_ ?_
 .simp only[go_sem];first|exact⟨rfl,rfl,rfl,_,rfl,.inl ⟨rfl,rfl⟩⟩|exact⟨rfl,rfl,_,rfl,.inl ⟨rfl,rfl⟩⟩|exact⟨rfl,_,rfl,.inl ⟨rfl,rfl⟩⟩|exact⟨rfl,rfl,rfl,rfl,_,rfl,.inl ⟨rfl,rfl⟩⟩
 rintro k m blk hk ⟨T,h7,Y,j,H,bS,bB,M,Q,go⟩
 by_cases u:k<2*I h
 .have aL:((k:Int)<((2*I h:Nat):Int)):=J;have w1:=cg (n:=k) J;obtain⟨eh,_⟩:=U7 hm k J;have Zw:=JU (aT h) (aX h) k;have Iw:=NC (aT h) (aX h) k;have x:=Bn (aT h) (aX h) k;generalize hw:fJ (aT h) (aX h) k=st at*;obtain⟨o,N⟩:=st;simp only at eh Zw Iw bS go;unfold wQ at x;cases af:N.getD k true with
  |true=>simp only[af,if_true]at x;simp only[go_sem,OT,T,Q,h7,Y,j,H,bS,bB,u,aL,rB (aie u J af),w1,x];exact⟨M,rfl,go⟩
  |false=>
   simp only[af,iJ,if_false,Zw]at x;obtain⟨t,ht⟩:=ao1 (aT h) af;have Ch:((hU (aT h) (aX h+1) k N).1).foldl (cX.add F h) (cX.new h k)=jc F h (hU (aT h) (aX h+1) k N).1:=by unfold jc;rw[ht];rfl
   have iE:=ahs (F:=F) (t:=t) u;rw[<-ht]at iE;simp only[go_sem,OT,T,Q,h7,Y,j,H,bS,bB,u,aL,rB (aie u J af),gO];have z:mI blk (.one (.hsl 4608320448 1 1 0 (2*I h)))=[4608320448]:=JR bS;have QO:mI blk (.one (.hsl 4608384064 1 1 0 (I h)))=[4608384064]:=JR bB;refine rG uS (aEX ok hF (λid R=>zy (by rw[R];exact atL)) (uI ?_) (uI ?_) aa aa aa ?_ ?_ u Zw eh af bS bB) ?_
   .simp only[fq,tR,z,QO];simp
   .simp only[fq,tR,z,QO];simp
   .exact aGr
   .exact aBZ
   rintro v cE ⟨f,B,A,y,hf,rfl,ad,gd,gp,gf,dm⟩
   rw[Ch]at hf;rw[<-hf]at iE;have Pb:=(dm 4608384064 aa).trans bB;have E:=go.of_eq (dm 4608704448 aa);have qX:ki (o.map (jc F h))++[f.ps]=ki ((fJ (aT h) (aX h) (k+1)).1.map (jc F h)):=by rw[x,hf];simp
   have X:(fJ (aT h) (aX h) (k+1)).2=(hU (aT h) (aX h+1) k N).2:=by rw[x]
   have ag:I (ki (o.map (jc F h)))<=k:=by simpa using Iw
   generalize ki (o.map (jc F h))=ak at E qX ag;have L:=gd;rcases gd with⟨e,_⟩|⟨_,gg,e,EJ⟩
   .simp at e;exact absurd e iE
   cases e;simp only[go_sem];rw[ct]at L;obtain⟨fr,hx,EN,M3⟩:=akZ (s:=4608704384) Ao (L.of_eq (cJ aa)) (gp.of_eq (cJ aa)) (gf.of_eq (cJ aa));have O:∀i,i≠7104512256->i≠7104896192->i≠7104896448->i∉fr:=λi a b c R=>by
    rcases M3 i R with R|R|R
    .exact a R
    .exact b R
    exact c R
   refine aqE (E.of_eq (cJ aa)) hx EN (O _ aa aa aa) (O _ aa aa aa) (.inl rfl) H1 λc bt hc bh=>?_;have Z:=(bh 4608384064 aa aa (O _ aa aa aa)).trans ((cJ aa).trans Pb);simp only[go_sem,T,Q,h7,Y,j,H,(bh 4608320448 aa aa (O _ aa aa aa)).trans ((cJ aa).trans ad),Z,w1,u,X];refine⟨c,rfl,?_⟩;rw[<-qX];exact hc
 have:k=2*I h:=J;subst this;simp only[go_sem,OT,XZ,Q,j,H,ek];have:=adv hm (aX h) D (cP _);unfold dA eX;rw[this];exact Ak go
structure aQ where
 l:U
 d:Bool
abbrev bK:=List aQ
def aQ.ps(p:aQ):dR:=[.int .i64 p.l.kind,.int .i64 p.l.gate,.int .i64 p.l.ao,.int .i64 p.l.id,.int .i64 p.l.sign,.bool p.l.over,.bool p.d]
abbrev dP(o:bK):dy:=o.map aQ.ps
abbrev mY:Nat:=122
def jJ:U:=⟨0,0,0,0,0,false⟩
def aJ(h:ae):bK:=(List.range (I h)).map λi=>⟨h.getD i jJ,ep h i⟩
theorem dI(h:ae):I (aJ h)=I h:=by simp[aJ]
def gX{i:Nat}{l:U}(H:h[i]?=some l):(aJ h)[i]?=some ⟨l,ep h i⟩:=by have:=(bN.1 H).1;simp[aJ,fX,wZ this,vB,dM,H,mw]
def kA{o:bK}{k:Nat}{p:aQ}(h:o[k]?=some p):(dP o)[k]?=some p.ps:=by simp[h]
def s_(L:aD)(D:aD)(v:Nat):aD:=D.foldl (λL d=>L.set d v) L
def tO:Fq->Nat->aD->aD
 |[],_,L=>L
 |f::r,j,L=>tO r (j+1) (s_ L f.bc j)
def lM(F:Nat)(h:ae):aD:=tO (dA F h) 0 (List.replicate (2*I h) 0)
def TL(L D:aD)(v:Nat):I (s_ L D v)=I L:=by
 induction D generalizing L with
 |nil=>rfl
 |cons d D f=>show(s_ _ D v).length=_;rw[f];simp
def aAc(L a b:aD)(v:Nat):s_ L (a++b) v=s_ (s_ L a v) b v:=by simp[s_]
def Wb(fs:Fq):∀(j:Nat) (L:aD),I (tO fs j L)=I L:=by
 induction fs with
 |nil=>intro j L;rfl
 |cons f r h=>intro j L;show(tO r _ _).length=_;rw[h,TL]
def asV(a:Fq)(f:cX):∀(j:Nat) (L:aD),tO (a++[f]) j L=s_ (tO a j L) f.bc (j+I a):=by
 induction a with
 |nil=>intro j L;rfl
 |cons g r h=>intro j L;show tO (r++[f]) _ _=_;rw[h];simp[tO];congr 1;omega
def auZ(F:Nat)(h:ae):∀(w:aD) (f:cX),(w.foldl (cX.add F h) f).bc=f.bc++w.filter (λx=>decide (x<2*I h)):=by
 intro w
 induction w with
 |nil=>intro f;simp
 |cons x w j=>
  intro f;rw[Ac,j]
  grind [cX.add]
theorem zd(F:Nat)(h:ae)(w:aD):(jc F h w).bc=w.filter (λx=>decide (x<2*I h)):=by unfold jc;rw[auZ];rfl
def aaP{f:cX}(j:f∈dA F h):∀d∈f.bc,d<2*I h:=by
 obtain⟨w,_,rfl⟩:=c_.1 j;intro d H;rw[zd]at H
 grind
def IU(ok:fY F h){f:cX}(j:f∈dA F h):I f.bc<=aX h:=by obtain⟨w,H,rfl⟩:=c_.1 j;rw[zd];exact ob (List.length_filter_le _ _) (xR ok w H).2.1
def WH(F:Nat)(h:ae):I (dA F h)=fV h:=by simp[dA,fV]
def It{o:Fq}{k:Nat}{p:cX}(h:o[k]?=some p):(ki o)[k]?=some p.ps:=by simp[h]
abbrev fk(F:Nat)(ls:ae):PV:=.box [.int .i64 F,.sl (dP (aJ ls)),.sl (ki (dA F ls)),.sl (aY (lM F ls)),.int .i64 (aq U.ay ls:Nat),.int .i64 ((aq U.au ls/2:Nat):Int),.sl (aY (gY ls F))]
abbrev RT(F:Nat)(ls:ae)(pc cf:cG):eC:=[.p (.int .i64 F),pc,cf,.hsl 2624256448 1 1 0 (2*I ls),.p (.int .i64 (aq U.ay ls:Nat)),.p (.int .i64 ((aq U.au ls/2:Nat):Int)),.hsl 2624256960 1 1 0 (F+1)]
def aBd{F:Nat}{h:ae}(g:aU F h){pc:cG}{blk:aH}(h4:m 4=.one y)(h6:m 6=.one (.aW 2624257088 1 0))
  (bB:blk 2624257088=(1,some (.var (RT F h pc y)))) (B:blk 2624256448=(1,some (.arr 3 1 (aY (List.replicate (2*I h) 0))))) (Z:blk 2624256960=(1,some (.arr 3 1 (aY (gY h F))))) (gp:a_ 2624896448 mY 7 (dP (aJ h)) (.one pc) blk) (gf:a_ 2624064064 tV 5 (ki (dA F h)) (.one y) blk)
  (hq:∀x u,x 6=m 6->u 2624257088=(1,some (.var (RT F h pc y)))->u 2624256448=(1,some (.arr 3 1 (aY (lM F h))))->u 2624256960=(1,some (.arr 3 1 (aY (gY h F))))->a_ 2624896448 mY 7 (dP (aJ h)) (.one pc) u->a_ 2624064064 tV 5 (ki (dA F h)) (.one y) u->W S .all Ve Q x u):
  W S .all Wu Q m blk:=by
 have ok:=g.ok;have hl:=ok.hl;have am:=g.len;have jD:I (aA h)<=I h:=qp h (I h);have eV:aX h<=4000000:=i8
 have qT:I (dA F h)<=aX h:=by rw[dA,ct];exact NC (aT h) (aX h) _
 obtain⟨g0,Zi⟩:∃v,y=.hsl 2624064064 v 5 0 (I (dA F h)):=by
  rcases gf with⟨e,_⟩|⟨_,v,e,hb⟩
  .have h1:I (dA F h)=0:=by simpa using congrArg List.length e
   rw[WH,g.nw]at h1;omega
  cases e;exact⟨v,by rw[ct]⟩
 have Cd:=h4;rw[Zi]at Cd;simp only[go_sem,Wu,Cd];refine cZ (λk x u=>x 6=m 6/\x 78=.one y/\x 79=ai (I (dA F h))/\x 80=ai k/\u 2624257088=(1,some (.var (RT F h pc y)))/\u 2624256448=(1,some (.arr 3 1 (aY (tO ((dA F h).take k) 0 (List.replicate (2*I h) 0)))))/\u 2624256960=(1,some (.arr 3 1 (aY (gY h F))))/\
   a_ 2624896448 mY 7 (dP (aJ h)) (.one pc) u/\a_ 2624064064 tV 5 (ki (dA F h)) (.one y) u) 0 (I (dA F h)) (bj _) ?_ ?_
 .simp only[go_sem,bB,B,Z,tO,Zi];exact⟨rfl,gp,by first|exact gf|(rw[<-Zi];exact gf)⟩
 rintro k x u hk ⟨q6,ag,z,H,bB,B,Z,gp,gf⟩
 rw[h6]at q6;by_cases aw:k<I (dA F h)
 .have aL:((k:Int)<(I (dA F h):Int)):=J;obtain⟨f,hf⟩:=aP aw;have nQ:=a8 hf;have yx:=IU ok nQ;have H0:=aaP nQ;have w1:=cg (n:=k) J;have iw:tO ((dA F h).take (k+1)) 0 (List.replicate (2*I h) 0)=s_ (tO ((dA F h).take k) 0 (List.replicate (2*I h) 0)) f.bc k:=by
   rw[jM,hf];show tO (_++[f]) 0 _=_;rw[asV,ko,zx J,lh]
  have M:I (tO ((dA F h).take k) 0 (List.replicate (2*I h) 0))=2*I h:=by rw[Wb,RK]
  generalize tO ((dA F h).take k) 0 (List.replicate (2*I h) 0)=L at B iw M;obtain⟨v,zH,bf⟩:∃v,y=.hsl 2624064064 v 5 0 (I (ki (dA F h)))/\u 2624064064=(v,some (.arr tV 5 (ki (dA F h)))):=by
   rcases gf with⟨e,_⟩|⟨_,v,e,hb⟩
   .grind
   cases e;exact⟨v,rfl,hb⟩
  rw[ct]at zH;have Zb:=ag;rw[zH]at Zb;simp only[go_sem,Um,Zb,z,H,bf,It hf,cX.ps,aw,aL];refine cZ (λj D E=>D 6=.one (.aW 2624257088 1 0)/\D 11=ai k/\D 78=.one y/\D 79=ai (I (dA F h))/\D 80=ai k/\D 86=.one (.p (.sl (aY f.bc)))/\D 87=ai (I f.bc)/\D 88=ai j/\
   E 2624257088=(1,some (.var (RT F h pc y)))/\E 2624256448=(1,some (.arr 3 1 (aY (s_ L (f.bc.take j) k))))/\E 2624256960=(1,some (.arr 3 1 (aY (gY h F))))/\a_ 2624896448 mY 7 (dP (aJ h)) (.one pc) E/\a_ 2624064064 tV 5 (ki (dA F h)) (.one y) E) 0 (I f.bc) (bj _) ?_ ?_
  .simp only[go_sem,q6,zH,Zb,z,H,bB,B,Z,s_,ND];refine⟨rfl,gp.of_eq (cJ aa),?_⟩;first|exact gf.of_eq (cJ aa)|(rw[<-zH];exact gf.of_eq (cJ aa))
  rintro j D E hj ⟨p6,ad,N,R,X,ab,O,T,cB,sn,cC,A,aZ⟩
  by_cases yE:j<I f.bc
  .have UD:((j:Int)<(I f.bc:Int)):=J;obtain⟨d,hd⟩:=aP yE;have Y:=H0 d (a8 hd);have w2:=cg (n:=j) J;have iZ:(s_ L (f.bc.take j) k).set d k=s_ L (f.bc.take (j+1)) k:=by rw[jM,hd,aAc];rfl
   have ir:=NX (s_ L (f.bc.take j) k) d k;rw[iZ]at ir;obtain⟨v0,Np⟩:=aP (h:=s_ L (f.bc.take j) k) (by rw[TL,M];exact Y);simp only[go_sem,YC,p6,ad,N,R,X,ab,O,T,cB,sn,cC,yE,UD,i_ hd,Y,i_ Np,ir,w2];exact⟨A.of_eq (cJ aa),aZ.of_eq (cJ aa)⟩
  have:j=I f.bc:=J;subst this;rw[lN,<-iw]at sn;simp only[go_sem,YC,akQ,p6,N,R,X,O,T,cB,sn,cC,ek,w1,aw,h6];exact⟨A,aZ⟩
 have:k=I (dA F h):=J;subst this;rw[lN]at B;simp only[go_sem,Um,z,H,ek];exact hq _ _ (by simp only[go_sem,q6,h6]) bB B Z gp gf
def an7(g:aU F h):aC S 41 [c7 F h] (Cu (fk F h) (.int .i64 0)):=by
 have ok:=g.ok;have hl:=ok.hl;have am:=g.len;have yB:=g.fing;have pf:=aAT g;have ag:=ad9 F h hl;have Ad:=am2 F h hl;have lo:S.lone 2624064064=false:=ah;have m2:=qj (a:=I h) J;have wF:=cg (n:=F) J;have r1:2*I h*8<=140737488355328:=J;have r2:(F+1)*8<=140737488355328:=J;have e1:List.replicate (2*I h) [PV.int .i64 0]=aY (List.replicate (2*I h) 0):=aG;have e2:List.replicate (F+1) [PV.int .i64 0]=aY (uv h F 0):=by rw[Yf];simp
 refine ba agf ?_;simp only[go_sem,abi,agm];refine aqA pf lo λy mN zH ia=>?_;have O7:=ia 2624000000 aa;simp only[go_sem]at O7;simp only[go_sem,O7,m2,wF,r1,r2,adp,ahz,jZ ag,jZ Ad,e1,e2];refine⟨aK,?_⟩;have hz:=λj a b=>(ia j a).trans (cJ b);have X:=hz 2624256448 aa aa;have z2:=hz 2624256960 aa aa;have z3:=hz 2624257088 aa aa;refine cZ (λk m blk=>m 4=.one y/\m 6=.one (.aW 2624257088 1 0)/\m 7=iB (dn h k)/\m 42=.one (.p (fz h))/\m 43=ai (I h)/\m 44=ai k/\
   blk 2624256448=(1,some (.arr 3 1 (aY (List.replicate (2*I h) 0))))/\blk 2624256960=(1,some (.arr 3 1 (aY (uv h F k))))/\
   ∃pc,blk 2624257088=(1,some (.var (RT F h pc y)))/\a_ 2624896448 mY 7 (dP ((aJ h).take k)) (.one pc) blk/\a_ 2624064064 tV 5 (ki (dA F h)) (.one y) blk) 0 (I h) (bj _) ?_ ?_
 .simp only[go_sem,X,z2,z3];refine⟨rfl,rfl,.p .nils,rfl,.inl ⟨rfl,rfl⟩,zH.of_eq ?_⟩;simp only[go_sem]
 rintro k m blk hk ⟨T,H,h7,O,L,Q,N,z,pc,bB,gp,gf⟩
 by_cases aw:k<I h
 .obtain⟨l,f⟩:=aP aw;have hi:=fW f;have aL:((k:Int)<(I h:Int)):=J;have w1:=cg (n:=k) J;have M:=gX f;cases hp:(l.kind==1)
  case' false=>
   have x:l.ay=false:=hp;have Z:ep h k=false:=by simp[ep,f,x]
   rw[Z]at M;have hd:=Nw f x;have Cf:=apL (F:=F) f x;have iw:dP ((aJ h).take (k+1))=dP ((aJ h).take k)++[(aQ.mk l false).ps]:=by rw[jM,M];simp
   simp only[go_sem,PS,H,O,L,Q,hi,U.ps,aL,hp,bB];refine oT (B:=[(aQ.mk l false).ps]) (rd:=[2624896384]) (gp.of_eq ac) aIj (.inl rfl) (by simp only[ct,fF,fB,ko,dI];omega) λc cE r u hc A hr=>?_;have Y:∀i,i≠2624896448->i≠2624896384->i≠2624576128->i≠2624512128->i≠2624256960->cE i=blk i:=λi a b c d e=>(A i a a).trans (by simp only[bG,aE b,aE c,aE d]);have E:=(A 2624256960 aa aa);simp only[bG,Nat.reduceEqDiff,if_false,z]at E;have Pb:=(Y 2624257088 aa aa aa aa aa).trans bB;have B:=(Y 2624256448 aa aa aa aa aa).trans N;simp only[go_sem,T,H,h7,O,L,Q,Pb,B,E,w1,hd,Cf,aw]
  case' true=>
   have x:l.ay:=hp;have Z:ep h k=dn h k:=by simp[ep,f,x]
   rw[Z]at M;have hd:=Gs f x;have iw:dP ((aJ h).take (k+1))=dP ((aJ h).take k)++[(aQ.mk l (dn h k)).ps]:=by rw[jM,M];simp
   have Dq:=ok.ax.fg l (a8 f) x;obtain⟨G,hG⟩:=lV Dq.g0;have zE:G<=F:=by have:=Dq.g1;omega
   have Gn:G<F+1:=J;have tH:=i_ (alA (h:=h) (k:=k) zE);have eh:aZ (h.take k) G<=k:=B8 _ _ _;have w2:=cg (n:=aZ (h.take k) G) J;have R:=NX (uv h F k) G (aZ (h.take k) G+1);rw[<-aih f x hG]at R;simp only[go_sem,PS,H,h7,O,L,Q,hi,U.ps,aL,hp,hG,bB,z,tH,Gn,w2,R];refine⟨aK,?_⟩;refine oT (B:=[(aQ.mk l (dn h k)).ps]) (rd:=[2624896384]) (gp.of_eq ac) (by simp[gP,bG,aQ.ps,hG]) (.inl rfl) (by simp only[ct,fF,fB,ko,dI];omega) λc cE r u hc A hr=>?_;have Y:∀i,i≠2624896448->i≠2624896384->i≠2624576128->i≠2624512128->i≠2624256960->cE i=blk i:=λi a b c d e=>(A i a a).trans (by simp only[bG,aE b,aE c,aE d,aE e])
   have E:=(A 2624256960 aa aa);simp only[bG,Nat.reduceEqDiff,if_false,if_true,z]at E;have Pb:=(Y 2624257088 aa aa aa aa aa).trans bB;have B:=(Y 2624256448 aa aa aa aa aa).trans N;simp only[go_sem,T,H,h7,O,L,Q,Pb,B,E,w1,hd,aw]
  all_goals
   refine⟨?_,?_⟩
   .rcases hr with⟨rfl,rfl⟩|⟨rfl,rfl⟩|⟨rfl,rfl⟩<;>kernel_rfl
   refine⟨c,rfl,?_,?_⟩
   .rw[iw];exact hc.of_eq (cJ aa)
   exact gf.of_eq ((cJ aa).trans (Y _ aa aa aa aa aa))
 have:k=I h:=J;subst this;rw[eT (by rw[dI];exact cP _)]at gp;rw[Zg]at z;simp only[go_sem,PS,L,Q,ek];refine aBd g ?_ ?_ bB N z gp gf ?_
 .simp only[go_sem,T]
 .simp only[go_sem,H]
 intro aF ak q6 cB sn cC ad ab;simp only[go_sem,H]at q6;obtain⟨rp,np,_⟩:=ad.abX (n:=4);obtain⟨C8,nf,_⟩:=ab.abX (n:=4);have D:List.take (2*I h) (aY (lM F h))=aY (lM F h):=eT (by simp[lM,Wb]);have t2:List.take (F+1) (aY (gY h F))=aY (gY h F):=eT at8;have n1:2*I h<=I (lM F h):=by simp[lM,Wb]
 have v:F+1<=I (gY h F):=at8
 simp only[go_sem,Ve,q6];simp only[go_sem,iD,mM,yO,kZ,kD,iN,cB,sn,cC,np,nf,D,t2,n1,v];rfl
def iS{x:Int}(n: -9223372036854775808<=x)(m:x<=9223372036854775807):IntKind.i64.wrap x=x:=by
 have e:(2 ^ IntKind.i64.bits:Int)=18446744073709551616:=aa;have E:(2 ^ (IntKind.i64.bits-1):Int)=9223372036854775808:=aa;unfold IntKind.wrap;simp[e,E];by_cases h:0<=x
 .grind
 have j:x%18446744073709551616=x+18446744073709551616:=J;rw[j];have H:x+18446744073709551616≥9223372036854775808:=J;have f:IntKind.i64.signed:=rfl;simp[H,f]
def Px(l:bK):gk 7 (dP l):=by simp[gk,aQ.ps]
def zP(l:bK):((dP l).all λe=>e.all PV.scalar):=by simp[aQ.ps,PV.scalar]
def aE6(l:bK):∀e∈dP l,I e=7/\ ∀v∈e,v.norm=v:=λe H=>by obtain⟨a,_,rfl⟩:=c_.1 H;exact⟨rfl,λv h=>by simp[aQ.ps]at h;rcases h with rfl|rfl|rfl|rfl|rfl|rfl|rfl<;>rfl⟩
abbrev fe(l x:bK)(k:Nat):bK:=l.take (k+1)++x++l.drop (k+1)
def WV(a b:bK):dP (a++b)=dP a++dP b:=aG
def IP(l x:bK)(k:Nat)(A:k<I l)(hl:I l<=1000000)(z:I x<=1000000):
  aC S 154 [.one (.p (.sl (dP l))),ai k,.one (.p (.sl (dP x)))] (.one (bU mY 7 (dP (fe l x k)))):=by
 have f:=cg (n:=k) J;have D:k+1<=I l:=J;have af:=Px l;have j:List.take (k+1) (dP l)=dP (l.take (k+1)):=aIx
 have H:List.take (I l-(k+1)) (List.drop (k+1) (dP l))=dP (l.drop (k+1)):=WF
 refine ba azw ?_;simp only[go_sem,apy,f,D,af,j];refine mO (id:=9856064256) a_.nil rfl (.inr (Px _)) fd λL v g1 y=>?_;simp only[go_sem];refine mO g1 rfl (.inr (Px _)) fd λu F m B=>?_;simp only[go_sem,f,D,af,H];refine mO m rfl (.inr (Px _)) fd λc4 N h E=>?_;simp only[go_sem];rw[gM,<-WV,<-WV]at h;exact qN h
def avf(p:aQ)(t:bK)(hl:I (p::t)<=1000000):aC S 153 [.one (.p (.sl (dP (p::t))))] (.one (bU mY 7 (dP (p::t)))):=by
 have af:=Px (p::t);have h:(0+I (dP (p::t)))*56<=pE:=by unfold pE;rw[ct];omega
 refine ba aCU ?_;obtain⟨E,n,hq⟩:∃E n,dP (p::t)=E::n:=⟨_,_,rfl⟩;rw[hq]at af h |-;have f:bU mY 7 (E::n)=.own mY 7 (E::n):=aE aG;unfold pE at h;simp at h;simp only[gk,vO]at af;simp only[go_sem,apF,jl,gk];simp[af,h,not_true_eq_false];simp only[go_sem];exact Ig Ao rfl
def dD(g A b:Int)(p:aQ):aQ:=if(p.l.kind==1)&&((p.l.gate==g)&&decide (A<p.l.ao))then{p with l:={p.l with ao:=p.l.ao+b}}else p
abbrev dT(l:bK)(g ab b:Int):bK:=l.map (dD g ab b)
def aEQ(id:Nat)(n:dy)(c:cG)(blk:aH)(v:V)(A:aH):Prop:=v=.tup []/\a_ id mY 7 n (.one c) A/\dk (· =id) blk A
def aAC{al:cD}{blk:aH}{id:Nat}{l:bK}{c:cG}{g A b:Int}(o:l=[]\/al.ok id)(hl:I l<=1000000)(hb: -100<=b/\b<=100)(hr:∀p∈l,-1000000<=p.l.ao/\p.l.ao<=1000000)(h:a_ id mY 7 (dP l) (.one c) blk):
  ∃v f,ja S 151 [.one c,ai g,ai A,ai b] al blk v f/\aEQ id (dP (dT l g A b)) c blk v f:=by
 refine mL awo (jg rfl) ?_;rcases h with⟨B,H⟩|⟨aN,Y,H,hC⟩
 .cases H;have sL:l=[]:=by simpa using B
  subst sL;have hz:¬(((0:Nat):Int)<((0:Nat):Int)):=J;simp only[go_sem,aei];refine cZ (λk m f=>k=0/\m 10=ai ((0:Nat):Int)/\m 11=ai ((0:Nat):Int)/\f=blk) 0 0 (cP _) ?_ ?_
  .simp only[go_sem];exact rfl
  rintro k m f _ ⟨rfl,D,L,rfl⟩
  simp only[go_sem,I3,D,L,hz];exact⟨rfl,.inl ⟨rfl,rfl⟩,λ_ _=>rfl⟩
 cases H;have o:=o.resolve_left (by simpa using aN);simp only[go_sem,aei];refine cZ (λk m f=>m 0=.one (.hsl id Y 7 0 (I l))/\m 1=ai g/\m 2=ai A/\m 3=ai b/\m 10=ai (I l)/\m 11=ai k/\f id=(Y,some (.arr mY 7 (dP ((dT (l.take k) g A b)++l.drop k))))/\dk (· =id) blk f) 0 (I l) (bj _) ?_ ?_
 .simp only[go_sem,hC];refine⟨?_,?_⟩
  .simp[]
  exact dk.refl _ _
 rintro k m f hk ⟨Q,B,H,T,D,L,u,N⟩
 by_cases F:k<I l
 .have R:((k:Int)<(I l:Int)):=J;obtain⟨p,hp⟩:=aP F;have O:=cg (n:=k) J;obtain⟨r1,r2⟩:=hr p (a8 hp);have wr:=iS (x:=p.l.ao+b) J J;have zJ:l.drop k=p::l.drop (k+1):=by
   obtain⟨hh,rfl⟩:=bN.1 hp;exact U9 hh
  have M:I ((dT (l.take k) g A b)++l.drop k)=I l:=aId
  have Z:((dT (l.take k) g A b)++l.drop k)[k]?=some p:=by
   rw[uJ aId];have:k-I (dT (l.take k) g A b)=0:=aId
   rw[this,zJ];rfl
  have iZ:((dT (l.take k) g A b)++l.drop k).set k (dD g A b p)=(dT (l.take (k+1)) g A b)++l.drop (k+1):=by
   have e1:I (dT (l.take k) g A b)=k:=aId
   rw[Nl _ _ J,e1,BU,zJ,adw,jM,hp];simp[dT]
  have z:=kA Z;have y:dP (((dT (l.take k) g A b)++l.drop k).set k (dD g A b p))=(dP ((dT (l.take k) g A b)++l.drop k)).set k (dD g A b p).ps:=by simp[dP,vt]
  rw[iZ]at y;have X:dD g A b p=p->dP ((dT (l.take k) g A b)++l.drop k)=dP ((dT (l.take (k+1)) g A b)++l.drop (k+1)):=λe=>by rw[y,e];obtain⟨hh,he⟩:=bN.1 z;rw[<-he,S8]
  generalize(dT (l.take k) g A b)++l.drop k=m at u Z z y X M;have iX:k<I (dP m):=In
  cases j:(p.l.kind==1)with
  |false=>simp only[go_sem,I3,Q,B,H,T,D,L,u,z,aQ.ps,F,R,j,O,o];exact⟨by rw[X (by unfold dD;rw[j];rfl)],N⟩
  |true=>
   cases E:(p.l.gate==g)with
   |false=>simp only[go_sem,I3,Q,B,H,T,D,L,u,z,aQ.ps,F,R,j,E,O,o];exact⟨by rw[X (by unfold dD;rw[j,E];rfl)],N⟩
   |true=>
    by_cases c4:A<p.l.ao
    .have e:(dD g A b p).ps=[.int .i64 p.l.kind,.int .i64 p.l.gate,.int .i64 (p.l.ao+b),.int .i64 p.l.id,.int .i64 p.l.sign,.bool p.l.over,.bool p.d]:=by unfold dD;rw[j,E,uG c4];rfl
     rw[e]at y;simp only[go_sem,I3,Q,B,H,T,D,L,u,z,aQ.ps,F,R,j,E,c4,O,wr,o];refine⟨?_,?_⟩
     .first|rw[y]|(rw[y];rfl)
     exact N.dz rfl _
    simp only[go_sem,I3,Q,B,H,T,D,L,u,z,aQ.ps,F,R,j,E,c4,O,o];exact⟨by rw[X (by unfold dD;rw[j,E,uE c4];rfl)],N⟩
 have:k=I l:=J;subst this;simp only[go_sem,I3,D,L,ek];refine⟨rfl,?_,N⟩;rw[lN,OI,j_]at u;exact .inr ⟨by simpa using aN,Y,by simp[dT],u⟩
def Av(p:aQ):Bool:=(p.l.kind==1)&&p.d
def RF(l:bK)(i:Nat):Bool:=match l[i]? with|some p=>Av p|none=>false
def H_{l:bK}{i:Nat}{p:aQ}(h:l[i]?=some p):RF l i=Av p:=by simp[RF,h]
def sU(l:bK):eF:=(List.range (I l)).find? (RF l)
def aFL(p:aQ):aC S 124 [.agg (p.ps.map .p)] (cK (Av p)):=by
 refine ba aBu ?_;unfold Av;cases h:(p.l.kind==1)with
 |true=>simp only[go_sem,ae3,aQ.ps,h]
 |false=>simp only[go_sem,ae3,aQ.ps,h]
def aun(l:bK)(hl:I l<=1000000):aC S 123 [.one (.p (.sl (dP l))),.one (.p (.fn 124 [] []))] (fH (match sU l with|some k=>(k:Int)|none=> -1)):=by
 refine ba az6 ?_;simp only[go_sem,ahE];refine cZ (λk m blk=>m 0=.one (.p (.sl (dP l)))/\m 1=.one (.p (.fn 124 [] []))/\m 7=ai (I l)/\m 8=ai k/\ ∀j,j<k->RF l j=false) 0 (I l) (bj _) ?_ ?_
 .simp only[go_sem];exact⟨rfl,λj F=>absurd F (oJ j)⟩
 rintro k m blk L ⟨u,B,H,h,x⟩
 by_cases A:k<I l
 .have y:((k:Int)<(I l:Int)):=J;obtain⟨p,hp⟩:=aP A;have D:=kA hp;have E:=cg (n:=k) J;have f:=aFL p;have z:=H_ hp;cases v:Av p with
  |true=>rw[v]at f z;have hf:sU l=some k:=CC A x z;simp only[aQ.ps,fq,ml]at f;simp only[go_sem,Vg,u,B,H,h,y,D,aQ.ps,anL,cS f,hf]
  |false=>
   rw[v]at f z;simp only[aQ.ps,fq,ml]at f;simp only[go_sem,Vg,u,B,H,h,A,y,D,aQ.ps,anL,cS f,E]
   grind
 have:k=I l:=J;subst this;have hf:sU l=none:=I7 x;simp only[go_sem,Vg,af0,H,h,ek,hf]
abbrev fO:Nat:=63
def tg(l:bK)(A k:Nat):ae:=(List.range k).map λi=>(l.getD ((A+i)%I l) ⟨jJ,false⟩).l
def aGz{l:bK}{k:Nat}{p:aQ}(h:l[(f+k)%I l]?=some p):tg l f (k+1)=tg l f k++[p.l]:=by simp[tg,mJ,dM,h]
def ch(l:bK):ae:=tg l ((sU l).getD 0) (I l)
abbrev bY(o:ae):dy:=o.map U.ps
def Gc{c:cG}{blk:aH}(h:a_ R D X n (.one c) blk):iD blk (.agg [.p x,c])=some (.agg [.p x,bU D X n]):=by obtain⟨m,o,j,H,f⟩:=h.iN;cases j;rcases f with rfl|rfl<;>simp[iD,mM,kZ,kD,H,(show Go.Abs.iN blk (.p x)=some _ from rfl),lg,oE,nq]
def akd(F:Nat)(l:bK)(hl:I l<=1000000)(x1 x2 x3 x4 x5 x6:PV):aC S 78 [.one (.p (.box [.int .i64 F,x1,x2,x3,x4,x5,x6])),.one (.p (.sl (dP l)))] (.agg [.p (.int .i64 F),bU fO 6 (bY (ch l))]):=by
 have j:=aun l hl;have A:∃f,(sU l).getD 0=f/\(l≠[]->f<I l):=by
  refine⟨_,rfl,λaN=>?_⟩;cases h:sU l with
  |none=>exact iW.2 aN
  |some k=>exact fU.1 (AP h)
 obtain⟨f,hf,Q⟩:=A;have v7:((sU l=none/\f=0)\/sU l=some f):=ii
 unfold ch;rw[hf];have M:∀(m:bP) (blk:aH),m 1=.one (.p (.sl (dP l)))->m 4=.one (.aW 4992000000 1 0)->m 5=.one (.aW 4992064320 1 0)->m 6=ai f->m 17=ai (I l)->m 18=ai ((0:Nat):Int)->blk 4992000000=(1,some (.var [.p (.int .i64 0),.p .nils]))->blk 4992064320=(1,some (.var [.p (.int .i64 F),.p .nils]))->
   W S .all (.loop Uq) (oh 0 (vn S .all aac (rU .all [(4,some (some 2))] λv blk=>iD blk v=some (.agg [.p (.int .i64 F),bU fO 6 (bY (tg l f (I l)))])))) m blk:=by
  intro m blk e1 e4 Z e6 z E b0 B;refine cZ (λk m blk=>m 1=.one (.p (.sl (dP l)))/\m 4=.one (.aW 4992000000 1 0)/\m 5=.one (.aW 4992064320 1 0)/\m 6=ai f/\m 17=ai (I l)/\m 18=ai k/\blk 4992000000=(1,some (.var [.p (.int .i64 0),.p .nils]))/\ ∃c,blk 4992064320=(1,some (.var [.p (.int .i64 F),c]))/\a_ 4992384832 fO 6 (bY (tg l f k)) (.one c) blk) 0 (I l) (bj _) ⟨e1,e4,Z,e6,z,E,b0,.p .nils,B,.inl ⟨rfl,rfl⟩⟩ ?_;rintro k m blk hk ⟨R,L,H,X,O,N,b0,c,B,T⟩
  by_cases aw:k<I l
  .have aL:((k:Int)<(I l:Int)):=J;have Q:=Q (iW.1 J);have Y:=cg (n:=k) J;have w2:=uh (a:=f) (b:=k) J;have e2:=tu (f+k) (I l);have hm:=dB (f+k) (show 0<I l by omega);obtain⟨p,hp⟩:=aP hm;have dp:=kA hp;have hz:¬((I l:Int)=0):=J;have hr:=aGz hp;have y:I (tg l f k)=k:=by simp[tg]
   simp only[go_sem,Uq,R,H,X,O,N,B,aL,w2,e2,hz,dp,aQ.ps];refine oT (B:=[p.l.ps]) (rd:=[4992384768]) (T.of_eq (cJ aa)) (by simp[gP,bG,U.ps]) (.inl rfl) (by simp only[ct,y,fF,fB];omega) λc' cE r u hc D x=>?_;simp only[go_sem,R,L,H,X,O,N,(D 4992064320 aa aa).trans ((cJ aa).trans B),(D 4992000000 aa aa).trans ((cJ aa).trans b0),aw,Y];refine⟨?_,c',rfl,?_⟩
   .rcases x with⟨rfl,rfl⟩|⟨rfl,rfl⟩|⟨rfl,rfl⟩<;>kernel_rfl
   rw[hr,bY,iT];exact hc.of_eq (cJ aa)
  have:k=I l:=J;subst this;simp only[go_sem,Uq,aac,L,H,O,N,B,b0,ek];exact Gc (T.of_eq (cJ aa))
 refine ba awN ?_;rcases v7 with⟨hn,rfl⟩|af
 .rw[hn]at j;have QE:¬((0:Int)< -1):=aa;simp only[go_sem,aek,aoK,ie j];exact M _ _ d9 d9 d9 lc d9 lc d9 d9
 rw[af]at j;simp only[go_sem,aek,aoK,ie j];exact M _ _ d9 d9 d9 (by simp only[go_sem];split<;>(first|rfl|(congr 1;simp;omega))) d9 lc d9 d9
def ahd:aC S 76 [] (.agg [.p .Aa,.p (.fn 114 [] []),.p (.fn 115 [] []),.p (.fn 116 [] []),.p (.fn 117 [] []),.p (.fn 118 [] []),.p (.fn 119 [] []),.p (.fn 120 [] []),.p (.fn 121 [] []),.p (.fn 122 [] []),.p (.fn 122 [] [])]):=by refine ba aDs ?_;simp only[go_sem,afg];rfl
def gU(k:Int):Int×Int:=if k=2 then(2,0)else if k=5 then(2,1)else if k=7 then(4,2)else(0,0)
def akS(k:Int):aC S 77 [ai k] (.tup [.one (.p (.int .i64 (gU k).1)),.one (.p (.int .i64 (gU k).2))]):=by
 refine ba aFZ ?_;unfold gU;by_cases f:k=2
 .subst f;simp only[go_sem,O_];rfl
 by_cases H:k=5
 .subst H;simp only[go_sem,O_];rfl
 by_cases h:k=7
 .subst h;simp only[go_sem,O_];rfl
 rw[aE f,aE H,aE h];have E:(k==2)=false:=by simpa using f
 have m:(k==5)=false:=rg
 have j:(k==7)=false:=Do
 simp only[go_sem,O_,E,m,j];rfl
def UW(F:Nat)(x:Nat)(sg:Int)(ov:Bool)(f j h x4 X:PV)(k:Nat)(m:x<=1000000)(H:k<=10):aC S 158 [.one (.p (.box [.int .i64 F,f,j,h,x4,.int .i64 x,X])),ai k,ai sg,iB ov] (.agg [.p (.int .i64 2),.p (.int .i64 0),.p (.int .i64 0),.p (.int .i64 ((x+k:Nat):Int)),.p (.int .i64 sg),.p (.bool ov),.p (.bool false)]):=by refine ba axL ?_;simp only[go_sem,apD,uh (a:=x) (b:=k) J];rfl
def Fl(o:pI)(p:Nat×Nat)(i:Nat):Bool:=o[i]?==some p
def aD6(o:pI)(p:Nat×Nat)(hl:I o<=1000000):aC S 192 [.one (.p (.sl (d_ o))),.agg [.p (.int .i64 p.1),.p (.int .i64 p.2)]] (fH (match (List.range (I o)).find? (Fl o p)with|some k=>(k:Int)|none=> -1)):=by
 refine ba avL ?_;simp only[go_sem,agI];refine cZ (λk m blk=>m 0=.one (.p (.sl (d_ o)))/\m 3=.one (.aW 12288000000 1 0)/\blk 12288000000=(1,some (.var [.p (.int .i64 p.1),.p (.int .i64 p.2)]))/\m 7=ai (I o)/\m 8=ai k/\ ∀j,j<k->Fl o p j=false) 0 (I o) (bj _) ?_ ?_
 .simp only[go_sem];exact⟨rfl,λj F=>absurd F (oJ j)⟩
 rintro k m blk O ⟨u,v,b0,f,H,B⟩
 by_cases A:k<I o
 .have x:((k:Int)<(I o:Int)):=J;obtain⟨q,hp⟩:=aP A;have D:=aan hp;have y:=cg (n:=k) J;have Z:Fl o p k=decide (q=p):=by
   simp only[Fl,hp];by_cases h:q=p<;>simp[h]
  by_cases L:q=p
  .subst L;simp only[go_sem,Rc,u,v,b0,f,H,x,D,CC A B (by rw[Z];simp),nJ,n9];exact aK
  have M:((p.1:Int)==(q.1:Int))=false\/(((p.1:Int)==(q.1:Int))/\((p.2:Int)==(q.2:Int))=false):=ii
  have z:∀j,j<k+1->Fl o p j=false:=λj F=>by grind
  rcases M with E|⟨E,N⟩
  .simp only[go_sem,Rc,u,v,b0,f,H,A,x,D,y,nJ,n9,E];exact⟨aK,z⟩
  simp only[go_sem,Rc,u,v,b0,f,H,A,x,D,y,nJ,n9,E,N];exact⟨aK,z⟩
 have:k=I o:=J;subst this;simp only[go_sem,Rc,agX,f,H,ek,I7 B]
def aF9(o:pI)(p:Nat×Nat)(hl:I o<=1000000):aC S 152 [.one (.p (.sl (d_ o))),.agg [.p (.int .i64 p.1),.p (.int .i64 p.2)]] (cK (decide (p∈o))):=by
 have f:=aD6 o p hl;refine ba aGb ?_;by_cases h:p∈o
 .obtain⟨k,H⟩:=gJ h;cases hf:(List.range (I o)).find? (Fl o p)with
  |none=>have:=Fw.1 hf k (fU.2 ((bN.1 H).1));simp[Fl,H]at this
  |some j=>rw[hf]at f;have m:(0:Int)<=(j:Int):=J;simp only[go_sem,aav,agH,ie f,m,h]
 cases hf:(List.range (I o)).find? (Fl o p)with
 |some j=>
  have n:=BK hf
  grind [Fl]
 |none=>rw[hf]at f;have m:¬(0:Int)<= -1:=aa;simp only[go_sem,aav,agH,ie f,m,h]
def Qu{l:bK}(A:l≠[])(hl:I l<=1000000):aC S 153 [.one (.p (.sl (dP l)))] (.one (bU mY 7 (dP l))):=by
 cases l with
 |nil=>exact absurd rfl A
 |cons p t=>exact avf p t hl
section
variable {Q:ib} {m:bP} {blk:aH} {os:fx} {d:eF}
def Nf{id:Nat}{l:bK}{c:cG}{g f b:Int}(hl:I l<=1000000)(x: -100<=b/\b<=100)(u:∀p∈l,-1000000<=p.l.ao/\p.l.ao<=1000000)(H:a_ id mY 7 (dP l) (.one c) blk)
  (z:∀A,a_ id mY 7 (dP (dT l g f b)) (.one c) A->(∀i,i≠id->A i=blk i)->jC S .all os Q (dL m d (.tup [])) A):jW S .all (.sc 151 [.one c,ai g,ai f,ai b]) d os Q m blk:=by
 have j:l=[]\/(iA (S.ctx .all) 151 [.one c,ai g,ai f,ai b] blk).ok id:=by
  rcases U2 H with _|h
  .simp_all
  exact .inr (uI ut)
 refine rG uS (aAC j hl x u H) ?_;rintro v A ⟨rfl,y,n⟩
 exact z A y n
end
def ayd(fs:Fq):∀(j:Nat) (L:aD),∀v∈tO fs j L,v∈L\/v<j+I fs:=by
 have n:∀(D:aD) (L:aD) (x:Nat),∀v∈s_ L D x,v∈L\/v=x:=by
  intro D
  induction D with
  |nil=>intro L x v h;exact .inl h
  |cons d D m=>
   intro L x v h;rcases m _ x v h with h|h
   .grind
   exact .inr h
 induction fs with
 |nil=>intro j L v h;exact .inl h
 |cons f r m=>
  intro j L v h;rcases m _ _ v h with h|h
  .grind
  grind
def OG:cX:=⟨false,[],[],[],false⟩
def c8(F:Nat)(h:ae)(d:Nat):cX:=(dA F h).getD ((lM F h).getD d 0) OG
def Js(F:Nat)(h:ae):I (lM F h)=2*I h:=by simp[lM,Wb]
def Sr(g:aU F h){d:Nat}(H:d<2*I h):∃j,(lM F h)[d]?=some j/\(dA F h)[j]?=some (c8 F h d)/\j<I (dA F h):=by
 obtain⟨j,f⟩:=aP (h:=lM F h) (by rw[Js];exact H);have n:0<I (dA F h):=by rw[WH,g.nw];omega
 have R:j<I (dA F h):=by
  rcases ayd _ 0 _ j (a8 f)with m|m
  .grind
  omega
 grind [c8]
def jU(b:Nat)(r:Int)(d:Bool):aQ:=⟨⟨1,b,r,0,0,false⟩,d⟩
def vD(h:ae)(u b c:Nat)(f:cX)(j:Bool):bK:=fe (dT (aJ h) b c 2) [jU b (if f.eO !=j then((c+2:Nat):Int)else((c+1:Nat):Int)) f.eO,jU b (if f.eO !=j then((c+1:Nat):Int)else((c+2:Nat):Int)) (!f.eO)] u
def o_(F:Nat)(h:ae)(u b c:Nat):Option bK:=
 if(b,c)∈(c8 F h (2*u)).places then some (vD h u b c (c8 F h (2*u)) false)
 else if(b,c)∈(c8 F h (2*u+1)).places then some (vD h u b c (c8 F h (2*u+1)) true)else none
def vu (o:Option bK):RV:=.tup [.one (bU mY 7 (dP (o.getD []))),.one (.p (.bool o.isSome))]
def Jt(g:aU F h):∀p∈aJ h,-1000000<=p.l.ao/\p.l.ao<=1000000:=by
 intro p hp;obtain⟨i,H⟩:=gJ hp;obtain⟨l,hl⟩:=aP (by rw[<-dI];exact(bN.1 H).1);rw[gX hl]at H;cases H;rcases g.ok.kinds l (a8 hl)with j|j
 .have f:=g.ok.ax.fg l (a8 hl) j;have:=f.r0;have:=f.r1;have m:aZ h l.gate.toNat<=I h:=ny _ _;have:=g.len;simp only;omega
 have:=(Lb j).1 (g.bad l (a8 hl))
 grind
def amv{F:Nat}{h:ae}(g:aU F h){b c k:Nat}(ha:u<I h)(HZ:b<=F)(hc:c<=1000){l o:Bool}{sg:Int}(hk:k<2){blk:aH}
  (h0:m 0=.one (.p (fk F h))) (H:m 3=.one (.aW 7360000000 1 0)) (h6:m 6=.one (.aW 7360064320 1 0)) (R:m 7=.one (.aW 7360128448 1 0)) (M:m 8=.one (.aW 7360192448 1 0)) (fM:m 40=ai k)
  (z:blk 7360000000=(1,some (.var [.p (.int .i64 2),.p (.int .i64 u),.p (.int .i64 b),.p (.int .i64 c),.p (.bool l),.p (.bool o),.p (.int .i64 sg)]))) (b6:blk 7360064320=(1,some (.var [.p (.int .i64 b),.p (.int .i64 c)])))
  (b7:blk 7360128448=(1,some (.var ((jU b ((c+1:Nat):Int) true).ps.map .p)))) (b8:blk 7360192448=(1,some (.var ((jU b ((c+2:Nat):Int) false).ps.map .p))))
  (ef:(b,c)∉(c8 F h (2*u+k)).places->∀A N,A 0=m 0->A 3=m 3->A 6=m 6->A 7=m 7->A 8=m 8->A 40=ai ((k+1:Nat):Int)->(∀i,i≠7360577088->N i=blk i)->W S .all (.loop Ik) (oh 0 Q) A N)
  (L:(b,c)∈(c8 F h (2*u+k)).places->∀A N s cc,A 4=.one cc->A 5=iB true->a_ s mY 7 (dP (vD h u b c (c8 F h (2*u+k)) (k==1))) (.one cc) N->Q .ret A N):
  W S .all (.loop Ik) (oh 0 Q) m blk:=by
 have ab:=g.len;have EO:=g.fing;obtain⟨j,M8,mE,Il⟩:=Sr g (d:=2*u+k) J;have A5:=i_ M8;have Dn:=It mE;have aw:((k:Int)<2):=J;have bQ:(c8 F h (2*u+k)).places.length<=1000000:=by obtain⟨w,hw,he⟩:=c_.1 (a8 mE);obtain⟨_,wB,QV⟩:=xR g.ok w hw;have h1:=(V2 g.ok QV (I w) (cP _)).2.1;rw[Xo,he]at h1;have jD:I (aA h)<=I h:=qp h (I h);have h2:I w*(2*F+2)<=1600*82:=JG (by unfold aX at wB;omega) J;omega
 generalize Qq:c8 F h (2*u+k)=f at*;have pc:=aF9 f.places (b,c) bQ;have m2:=qj (a:=u) J;have m3:=uh (a:=2*u) (b:=k) J;have w1:=cg (n:=k) J;have yx:2*u+k<I (lM F h):=by rw[Js];omega
 have aN:aJ h≠[]:=iW.1 Nm;have ad:=dI h;have T:=Qu aN J;have nX:S.lone 7360896256=false:=ah;have rV:S.lone 7361024384=false:=ah;have gO:S.shared 151:=ah;refine oG ?_;by_cases Y:(b,c)∈f.places
 .rw[uG Y]at pc;have Z:(!f.eO==(((k:Nat):Int)==1))=(f.eO !=(k==1)):=by
   rcases(show k=0\/k=1 by omega)with rfl|rfl<;>cases f.eO<;>rfl
  have sL:I (dP (dT (aJ h) b c 2))=I (aJ h):=by simp[dT]
  have D:=eT (by rw[sL];exact cP _);cases af:(f.eO !=(k==1))with
  |true=>
    rw[af]at Z;simp only[go_sem,Ik,h0,H,h6,R,M,fM,z,b6,b7,b8,aw,m2,m3,A5,Dn,cX.ps,Z,jU,aQ.ps,Y5,cS pc];refine⟨aK,aK,?_⟩;refine pB T nX (.inl rfl) λcc cE gc x=>?_;have y:=x 7360000000 aa;have O:=x 7360128448 aa;have X:=x 7360192448 aa;simp only[go_sem,z]at y O X;simp only[go_sem,H,y,gO];refine Nf J aa (Jt g) gc λbt yn B=>?_;have E:=(B 7360192448 aa).trans X;rcases yn with⟨e,_⟩|⟨_,gg,e,EJ⟩
    .exact absurd aHR aN
    cases e;simp only[go_sem,H,R,M,(B 7360000000 aa).trans y,(B 7360128448 aa).trans O,E,EJ,sL,D,Ie];refine pB (IP (dT (aJ h) b c 2) [jU b ((c+2:Nat):Int) f.eO,jU b ((c+1:Nat):Int) (!f.eO)] u In In aG) rV (.inr (qF (zP _))) λc2 nE v jE=>?_;simp only[go_sem];exact L Y _ _ _ c2 d9 d9 (by unfold vD;rw[af];exact v)
  |false=>
    rw[af]at Z;simp only[go_sem,Ik,h0,H,h6,R,M,fM,z,b6,b7,b8,aw,m2,m3,A5,Dn,cX.ps,Z,jU,aQ.ps,Y5,cS pc];refine⟨aK,aK,?_⟩;refine pB T nX (.inl rfl) λcc cE gc x=>?_;have y:=x 7360000000 aa;have O:=x 7360128448 aa;have X:=x 7360192448 aa;simp only[go_sem,z]at y O X;simp only[go_sem,H,y,gO];refine Nf J aa (Jt g) gc λbt yn B=>?_;have E:=(B 7360192448 aa).trans X;rcases yn with⟨e,_⟩|⟨_,gg,e,EJ⟩
    .exact absurd aHR aN
    cases e;simp only[go_sem,H,R,M,(B 7360000000 aa).trans y,(B 7360128448 aa).trans O,E,EJ,sL,D,Ie];refine pB (IP (dT (aJ h) b c 2) [jU b ((c+1:Nat):Int) f.eO,jU b ((c+2:Nat):Int) (!f.eO)] u In In aG) rV (.inr (qF (zP _))) λc2 nE v jE=>?_;simp only[go_sem];exact L Y _ _ _ c2 d9 d9 (by unfold vD;rw[af];exact v)
 rw[uE Y]at pc;simp only[go_sem,Ik,h0,H,h6,fM,z,b6,aw,m2,m3,A5,Dn,cX.ps,Y5,cS pc,w1];refine⟨aK,ef Y _ _ ?_ ?_ ?_ ?_ ?_ ?_ λi hi=>?_⟩
 .simp only[go_sem,h0]
 .simp only[go_sem,H]
 .simp only[go_sem,h6]
 .simp only[go_sem,R]
 .simp only[go_sem,M]
 .simp only[go_sem]
 simp only[bG,aE hi]
def are(g:aU F h){b c:Nat}(Z:u<I h)(HZ:b<=F)(hc:c<=1000){l o:Bool}{sg:Int}:
  aC S 115 [.one (.p (fk F h)),c6 2 u b c l o sg] (vu (o_ F h u b c)):=by
 have w1:=cg (n:=c) J;have w2:IntKind.i64.wrap ((c:Int)+2)=((c+2:Nat):Int):=(iS J J).trans J;have X:=g.len;have Iu:((I (aJ h):Int)==0)=false:=nj.2 Nm;have Y:∀A y s f (L:bK),o_ F h u b c=some L->A 4=.one f->A 5=iB true->a_ s mY 7 (dP L) (.one f) y->
   oh 0 (vn S .all aaV (rU .all [(4,none),(5,none)] λv blk=>iD blk v=some (vu (o_ F h u b c)))) .ret A y:=λA y s f L hL j m H=>by
  simp only[go_sem,j,m];rw[hL];exact Ak H
 refine ba amb ?_;simp only[go_sem,adS,w1,w2,Iu];have k0:2*u+0=2*u:=rfl;refine amv g Z HZ hc (k:=0) J (l:=l) (o:=o) (sg:=sg) ?_ ?_ ?_ ?_ ?_ ?_ ?_ ?_ ?_ ?_ ?_ ?_
 .simp only[go_sem]
 .simp only[go_sem]
 .simp only[go_sem]
 .simp only[go_sem]
 .simp only[go_sem]
 .simp only[go_sem];rfl
 .simp only[go_sem]
 .simp only[go_sem]
 .simp only[go_sem];rfl
 .simp only[go_sem];rfl
 .intro E A y M T O N q8 z x;have Q:(b,c)∉(c8 F h (2*u)).places:=E;simp only[go_sem]at M T O N q8;refine amv g Z HZ hc J (l:=l) (o:=o) (sg:=sg) M T O N q8 z ?_ ?_ ?_ ?_ ?_ ?_
  .rw[x _ aa];simp only[go_sem]
  .rw[x _ aa];simp only[go_sem]
  .rw[x _ aa];simp only[go_sem];rfl
  .rw[x _ aa];simp only[go_sem];rfl
  .intro R D B p0 p3 p6 p7 p8 N7 bh;have hr:o_ F h u b c=none:=by unfold o_;rw[aE Q,aE R]
   have kI:¬(((1+1:Nat):Int)<2):=aa;refine oG ?_;simp only[go_sem,Ik,aaV,N7,kI,hr];rfl
  intro R D B s f j m H;exact Y D B s f _ (by unfold o_;rw[aE Q,aI R];rfl) j m H
 intro E D B s f j m H;have Q:(b,c)∈(c8 F h (2*u)).places:=E;exact Y D B s f _ (by unfold o_;rw[aI Q];rfl) j m H
def u_(h:ae)(u:Nat)(sg:Int)(o:Bool):bK:=fe (aJ h) [⟨⟨2,0,0,((aq U.au h/2+1:Nat):Int),sg,o⟩,false⟩,⟨⟨2,0,0,((aq U.au h/2+1:Nat):Int),sg,!o⟩,false⟩] u
def auP(g:aU F h)(R:u<I h){b c:Int}{l o:Bool}{sg:Int}:
  aC S 118 [.one (.p (fk F h)),c6 5 u b c l o sg] (vu (some (u_ h u sg o))):=by
 have M:=g.cr;have O:=UW F (aq U.au h/2) sg o (.sl (dP (aJ h))) (.sl (ki (dA F h))) (.sl (aY (lM F h))) (.int .i64 (aq U.ay h:Nat)) (.sl (aY (gY h F))) 1 J J;have y:=UW F (aq U.au h/2) sg (!o) (.sl (dP (aJ h))) (.sl (ki (dA F h))) (.sl (aY (lM F h))) (.int .i64 (aq U.ay h:Nat)) (.sl (aY (gY h F))) 1 J J;have H:=g.len;have B:=dI h
 have f:=IP (aJ h) [⟨⟨2,0,0,((aq U.au h/2+1:Nat):Int),sg,o⟩,false⟩,⟨⟨2,0,0,((aq U.au h/2+1:Nat):Int),sg,!o⟩,false⟩] u J J aG;refine ba aBe ?_;have D:((1:Nat):Int)=1:=rfl;rw[D]at O y;have N:∀blk:aH,∀s,∀v j x x4 m n X:PV,fQ blk [] s ((RV.agg [.p v,.p j,.p x,.p x4,.p m,.p n,.p X]).gV (S.lone s))=some (.agg [.p v,.p j,.p x,.p x4,.p m,.p n,.p X],[]):=λblk s v j x x4 m n X=>by cases S.lone s<;>rfl
 simp only[go_sem,alT,aa8,od O (N _ _ _ _ _ _ _ _ _),od y (N _ _ _ _ _ _ _ _ _),Ie];refine J5 f ah (.inr (qF (zP _))) λL E w A Q z=>?_;simp only[go_sem];refine⟨?_,Ak A⟩;rcases z with rfl|rfl<;>kernel_rfl
def ng(n:Nat)(i:Int):Bool:=decide (0<=i)&&decide (i<(n:Int))
def Sk(i:Int)(n:Nat):aC S 113 [ai i,.one (.p (.box [.int .i64 n]))] (cK (ng n i)):=by
 refine ba azz ?_;unfold ng;by_cases h:0<=i
 .by_cases H:i<(n:Int)
  all_goals
   simp only[go_sem,ab0,h,H]
 simp only[go_sem,ab0,h]
def Ee(l:ae):((bY l).all λe=>e.all PV.scalar):=by simp[U.ps,PV.scalar]
abbrev rF(F:Nat)(L:ae):RV:=.tup [.agg [.p (.int .i64 F),bU fO 6 (bY L)],.one (.p (.int .i64 0))]
def vQ(F:Nat)(h:ae)(k:Int):Option bK->RV
 |none=>uF 4
 |some L=>if(400:Int)<(I h:Int)+(gU k).1\/(100:Int)<((aq U.au h/2:Nat):Int)+(gU k).2 then uF 7 else rF F (ch L)
abbrev aV(ls:ae)(i:Nat):U:=ls.getD i jJ
def apq{i:Nat}{l:U}(H:h[i]?=some l):aV h i=l:=by rw[aV,dM,H];rfl
def iQ{i:Nat}(H:i<I h):h[i]?=some (aV h i):=by obtain⟨l,hl⟩:=aP H;rw[apq hl,hl]
def w7(l:ae):gk 6 (bY l):=by simp[gk,U.ps]
def WJ(a b:ae):bY (a++b)=bY a++bY b:=iT
def Ah{L:ae}(h:L≠[]):bY L≠[]:=by simpa [bY]using h
def qk(a b:U):Bool:=(a.kind==b.kind)&&((a.gate==b.gate)&&((a.ao==b.ao)&&((a.id==b.id)&&((a.sign==b.sign)&&(a.over==b.over)))))
def F_(x y:U):nJ [true,true,true,true,true,false] [.p (.int .i64 x.kind),.p (.int .i64 x.gate),.p (.int .i64 x.ao),.p (.int .i64 x.id),.p (.int .i64 x.sign),.p (.bool x.over)] [.p (.int .i64 y.kind),.p (.int .i64 y.gate),.p (.int .i64 y.ao),.p (.int .i64 y.id),.p (.int .i64 y.sign),.p (.bool y.over)]=some (qk x y):=by
 have e:∀a b:Int,n9 true (.int .i64 a) (.int .i64 b)=some (a==b):=λa b=>by simp[n9]
 have E:∀a b:Bool,n9 false (.bool a) (.bool b)=some (a==b):=λa b=>by simp[n9]
 simp only[nJ,qk,e,E];cases(x.kind==y.kind)<;>cases(x.gate==y.gate)<;>cases(x.ao==y.ao)<;>cases(x.id==y.id)<;>cases(x.sign==y.sign)<;>cases(x.over==y.over)<;>rfl
theorem Er(x:U):qk x x:=by simp[qk]
def NB(l:bK)(drop:Nat->aQ->Bool)(i:Nat):Option aQ:=match l[i]? with|some p=>if drop i p then none else some p|none=>none
def wE(l:bK)(drop:Nat->aQ->Bool)(k:Nat):bK:=(List.range k).filterMap (NB l drop)
def mK(l:bK)(drop:Nat->aQ->Bool):bK:=wE l drop (I l)
theorem GR{l:bK}{drop:Nat->aQ->Bool}{k:Nat}{p:aQ}(h:l[k]?=some p)(H:drop k p):wE l drop (k+1)=wE l drop k:=by simp[wE,mJ,SA,NB,h,H]
theorem Pp{l:bK}{drop:Nat->aQ->Bool}{k:Nat}{p:aQ}(h:l[k]?=some p)(H:drop k p=false):wE l drop (k+1)=wE l drop k++[p]:=by simp[wE,mJ,SA,NB,h,H]
def KX(l:bK)(drop:Nat->aQ->Bool)(k:Nat):I (wE l drop k)<=k:=by have:=List.length_filterMap_le (NB l drop) (List.range k);rwa[xm]at this
def FB(g:aU F h){e:Nat}(m:e<I h):aC S 148 [.one (.p (fk F h)),ai e] (Cu (.int .i64 e) (.int .i64 ((e+1)%I h:Nat))):=by have H:=g.len;have f:=cg (n:=e) J;have E:=tu (e+1) (I h);have j:¬((I h:Int)=0):=J;refine ba arY ?_;simp only[go_sem,anJ,f,E,dI h,j];exact⟨aK,rfl⟩
def afz(l:bK)(hl:I l<=1000000){y:PV}(X:x.norm=x/\y.norm=y)(O:S.shared f=false)(drop:Nat->aQ->Bool)(Q:∀(k:Nat) (p:aQ),l[k]?=some p->aC S f [ai k,.agg (p.ps.map .p),.one (.p x),.one (.p y)] (cK (drop k p))):
  aC S 149 [.one (.p (.sl (dP l))),.one (.p (.fn f [] [x,y]))] (.one (bU mY 7 (dP (mK l drop)))):=by
 obtain⟨N,M⟩:=X;refine ba alU ?_;simp only[go_sem,abj];refine cZ (λk m blk=>m 1=.one (.p (.fn f [] [x,y]))/\m 8=.one (.p (.sl (dP l)))/\m 9=ai (I l)/\m 10=ai k/\ ∃c,m 5=.one c/\a_ 9536384192 mY 7 (dP (wE l drop k)) (.one c) blk) 0 (I l) (bj _) ?_ ?_
 .simp only[go_sem];first|exact⟨rfl,_,rfl,.inl ⟨rfl,rfl⟩⟩|exact⟨_,rfl,.inl ⟨rfl,rfl⟩⟩|exact⟨rfl,rfl,_,rfl,.inl ⟨rfl,rfl⟩⟩
 rintro k m blk Z ⟨u,z,j,D,c,v,B⟩
 by_cases A:k<I l
 .have F:((k:Int)<(I l:Int)):=J;obtain⟨p,hp⟩:=aP A;have L:=kA hp;have E:=cg (n:=k) J;have h:=Q k p hp;have fR:=KX l drop k;simp only[aQ.ps,fq,ml]at h;cases H:drop k p with
  |true=>rw[H]at h;simp only[go_sem,Jd,u,v,z,j,D,A,F,L,aQ.ps,N,M,O,cS h,E];refine⟨c,rfl,?_⟩;rw[GR hp H];exact B.of_eq ac
  |false=>rw[H]at h;simp only[go_sem,Jd,u,v,z,j,D,F,L,aQ.ps,N,M,O,cS h];refine mO (B:=[p.ps]) (rd:=[9536384128]) (B.of_eq ac) aIj (.inl rfl) LE λR cE Y T=>?_;simp only[go_sem,u,z,j,D,A,E];refine⟨R,rfl,?_⟩;rw[Pp hp H,WV];exact Y
 have:k=I l:=J;subst this;simp only[go_sem,Jd,aeM,v,j,D,ek];exact qN B
def aw4(l:bK)(hl:I l<=1000000)(R:x.norm=x)(M:S.shared f=false)(drop:Nat->aQ->Bool)(N:∀(k:Nat) (p:aQ),l[k]?=some p->aC S f [ai k,.agg (p.ps.map .p),.one (.p x)] (cK (drop k p))):
  aC S 149 [.one (.p (.sl (dP l))),.one (.p (.fn f [] [x]))] (.one (bU mY 7 (dP (mK l drop)))):=by
 have E:=R;refine ba alU ?_;simp only[go_sem,abj];refine cZ (λk m blk=>m 1=.one (.p (.fn f [] [x]))/\m 8=.one (.p (.sl (dP l)))/\m 9=ai (I l)/\m 10=ai k/\ ∃c,m 5=.one c/\a_ 9536384192 mY 7 (dP (wE l drop k)) (.one c) blk) 0 (I l) (bj _) ?_ ?_
 .simp only[go_sem];first|exact⟨rfl,_,rfl,.inl ⟨rfl,rfl⟩⟩|exact⟨_,rfl,.inl ⟨rfl,rfl⟩⟩|exact⟨rfl,rfl,_,rfl,.inl ⟨rfl,rfl⟩⟩
 rintro k m blk Y ⟨y,u,j,D,c,z,v⟩
 by_cases A:k<I l
 .have F:((k:Int)<(I l:Int)):=J;obtain⟨p,hp⟩:=aP A;have L:=kA hp;have B:=cg (n:=k) J;have h:=N k p hp;have Z:=KX l drop k;simp only[aQ.ps,fq,ml]at h;cases H:drop k p with
  |true=>rw[H]at h;simp only[go_sem,Jd,y,z,u,j,D,A,F,L,aQ.ps,E,M,cS h,B];refine⟨c,rfl,?_⟩;rw[GR hp H];exact v.of_eq ac
  |false=>rw[H]at h;simp only[go_sem,Jd,y,z,u,j,D,F,L,aQ.ps,E,M,cS h];refine mO (B:=[p.ps]) (rd:=[9536384128]) (v.of_eq ac) aIj (.inl rfl) LE λO X T Q=>?_;simp only[go_sem,y,u,j,D,A,B];refine⟨O,rfl,?_⟩;rw[Pp hp H,WV];exact T
 have:k=I l:=J;subst this;simp only[go_sem,Jd,aeM,z,j,D,ek];exact qN v
def aiX(k i j:Nat)(p:aQ):aC S 150 [ai k,.agg (p.ps.map .p),.one (.p (.box [.int .i64 i])),.one (.p (.box [.int .i64 j]))] (cK (decide (k=i)||decide (k=j))):=by
 refine ba auI ?_;by_cases H:k=i
 .have E:((k:Int)==(i:Int)):=by simp[H]
  rw[show(decide _||decide _)=true by simp[H]];simp only[go_sem,abz,aQ.ps,E]
 have E:((k:Int)==(i:Int))=false:=fd
 by_cases h:k=j
 case' _=>
  have f:((k:Int)==(j:Int)):=ut
  rw[show(decide (k=i)||decide (k=j))=true by simp[h]]
 rotate_left
 case' _=>
  have f:((k:Int)==(j:Int))=false:=fd
  rw[show(decide (k=i)||decide (k=j))=false by simp[H,h]]
 all_goals
  simp only[go_sem,abz,aQ.ps,E,f]
def pR(a b:Int):Int:=if a<b then b else a
def uV(a b:Int):Int:=if b<a then b else a
def td(h:ae)(u:Nat):Option bK:=
 let p:=(aJ h).getD u ⟨jJ,false⟩
 let q:=(aJ h).getD ((u+1)%I h) ⟨jJ,false⟩
 if(p.l.kind==1)&&((q.l.kind==1)&&((p.l.gate==q.l.gate)&&((pR p.l.ao q.l.ao-uV p.l.ao q.l.ao==1)&& !(decide (aq U.ay h<=2)&&decide (0<aq U.au h/2)))))
 then some (dT (mK (aJ h) λk _=>decide (k=u)||decide (k=(u+1)%I h)) p.l.gate (pR p.l.ao q.l.ao) (-2))else none
def aeh{l:bK}{drop:Nat->aQ->Bool}{p:aQ}(h:p∈mK l drop):p∈l:=by
 obtain _:=Cb.1 h
 grind [NB]
def aEk(g:aU F h)(ha:u<I h){k b c:Int}{l o:Bool}{sg:Int}:
  aC S 114 [.one (.p (fk F h)),c6 k u b c l o sg] (vu (td h u)):=by
 have ab:=g.len;have bQ:=dI h;have j:=FB g ha;have hm:=dB (u+1) (show 0<I h by omega);have Q:=Jt g;obtain⟨p,hp⟩:=aP (h:=aJ h) (k:=u) J;obtain⟨q,E⟩:=aP (h:=aJ h) (k:=(u+1)%I h) J;obtain⟨p1,p2⟩:=Q p (a8 hp);obtain⟨q1,q2⟩:=Q q (a8 E);have f:=kA hp;have m:=kA E;have gO:S.shared 151:=ah;have lo:S.lone 7296320320=false:=ah;have fA:=g.cr;unfold td;simp only[dM,hp,E,mw];refine ba az7 ?_;cases c1:(p.l.kind==1)with
 |false=>
  have n:(p.l.kind !=1):=by simp[bne,c1]
  simp only[go_sem,Hp,oK,dt j kR,f,m,aQ.ps,n];exact⟨aK,rfl⟩
 |true=>
 have n:(p.l.kind !=1)=false:=by simp[bne,c1]
 cases c2:(q.l.kind==1)with
 |false=>
  have v:(q.l.kind !=1):=by simp[bne,c2]
  simp only[go_sem,Hp,oK,dt j kR,f,m,aQ.ps,n,v];exact⟨aK,rfl⟩
 |true=>
 have v:(q.l.kind !=1)=false:=by simp[bne,c2]
 cases c4:(p.l.gate==q.l.gate)with
 |false=>
  have N:(p.l.gate !=q.l.gate):=aHL
  simp only[go_sem,Hp,oK,dt j kR,f,m,aQ.ps,n,v,N];exact⟨aK,rfl⟩
 |true=>
 have N:(p.l.gate !=q.l.gate)=false:=aHL
 have y:(if q.l.ao>p.l.ao then q.l.ao else p.l.ao)=pR p.l.ao q.l.ao:=rfl;have R:(if q.l.ao<p.l.ao then q.l.ao else p.l.ao)=uV p.l.ao q.l.ao:=rfl;have ag: -1000000<=pR p.l.ao q.l.ao/\pR p.l.ao q.l.ao<=1000000:=by unfold pR;split<;>omega
 have ad: -1000000<=uV p.l.ao q.l.ao/\uV p.l.ao q.l.ao<=1000000:=by unfold uV;split<;>omega
 have D:=iS (x:=pR p.l.ao q.l.ao-uV p.l.ao q.l.ao) J J;generalize pR p.l.ao q.l.ao=M at*;generalize uV p.l.ao q.l.ao=mn at*;cases fv:(M-mn==1)with
 |false=>
  have z:(M-mn !=1):=by simp[bne,fv]
  simp only[go_sem,Hp,oK,dt j kR,f,m,aQ.ps,n,v,N,y,R,D,z];exact⟨aK,rfl⟩
 |true=>
 have z:(M-mn !=1)=false:=by simp[bne,fv]
 have fg:∀(X:Prop),X->X:=λ_ ak=>ak;by_cases O:aq U.ay h<=2
 .have A:((aq U.ay h:Int)<=2):=J;by_cases fZ:0<aq U.au h/2
  .have L:((0:Int)<((aq U.au h/2:Nat):Int)):=J;rw[uG O,uG fZ];simp only[go_sem,Hp,oK,dt j kR,f,m,aQ.ps,n,v,N,y,R,D,z,A,L];exact⟨aK,rfl⟩
  have L:¬((0:Int)<((aq U.au h/2:Nat):Int)):=J;rw[uG O,uE fZ];simp only[go_sem,Hp,oK,dt j kR,f,m,aQ.ps,n,v,N,y,R,D,z,A,L,abL];refine⟨aK,?_⟩;refine pB (afz (aJ h) J ⟨rfl,rfl⟩ afA (λk _=>decide (k=u)||decide (k=(u+1)%I h)) (λk p _=>aiX k u ((u+1)%I h) p)) lo (.inr (qF (zP _))) λcc cE T H=>?_;have b8:=H 7296128896 aa;have B:=H 7296128960 aa;simp only[go_sem]at b8 B;simp only[go_sem,b8,B,y,gO];refine Nf (ob (KX _ _ _) J) aa (λx Z=>Q x (aeh Z)) T λbt Y bh=>?_;simp only[go_sem];exact Ak Y
 have A:¬((aq U.ay h:Int)<=2):=J;rw[uE O];simp only[go_sem,Hp,oK,dt j kR,f,m,aQ.ps,n,v,N,y,R,D,z,A,abL];refine⟨aK,?_⟩;refine pB (afz (aJ h) J ⟨rfl,rfl⟩ afA (λk _=>decide (k=u)||decide (k=(u+1)%I h)) (λk p _=>aiX k u ((u+1)%I h) p)) lo (.inr (qF (zP _))) λcc cE T H=>?_;have b8:=H 7296128896 aa;have B:=H 7296128960 aa;simp only[go_sem]at b8 B;simp only[go_sem,b8,B,y,gO];refine Nf (ob (KX _ _ _) J) aa (λx Z=>Q x (aeh Z)) T λbt Y bh=>?_;simp only[go_sem];exact Ak Y
abbrev fm(o:cT):dy:=o.map λn=>[PV.int .i64 n]
def yL{o:cT}{k:Nat}{v:Int}(h:o[k]?=some v):(fm o)[k]?=some [.int .i64 v]:=by simp[h]
def Fz(o:cT)(x:Int)(i:Nat):Bool:=match o[i]? with|some y=>y==x|none=>false
def avE(o:cT)(x:Int)(hl:I o<=1000000):aC S 226 [.one (.p (.sl (fm o))),ai x] (fH (match (List.range (I o)).find? (Fz o x)with|some k=>(k:Int)|none=> -1)):=by
 refine ba awg ?_;simp only[go_sem,ag3];refine cZ (λk m blk=>m 0=.one (.p (.sl (fm o)))/\m 1=ai x/\m 7=ai (I o)/\m 8=ai k/\ ∀j,j<k->Fz o x j=false) 0 (I o) (bj _) ?_ ?_
 .simp only[go_sem];exact⟨rfl,λj L=>absurd L (oJ j)⟩
 rintro k m blk Q ⟨B,N,u,h,E⟩
 by_cases A:k<I o
 .have F:((k:Int)<(I o:Int)):=J;obtain⟨y,v⟩:=aP A;have M:=yL v;have O:=cg (n:=k) J;have z:Fz o x k=(y==x):=by simp[Fz,v]
  cases H:(y==x)with
  |true=>
   have f:(x==y):=by have:=cW.1 H;simp[this]
   rw[H]at z;simp only[go_sem,VZ,B,N,u,h,F,M,f,CC A E z];first|done|exact aK|rfl
  |false=>
   have f:(x==y)=false:=ii
   rw[H]at z;have D:∀j,j<k+1->Fz o x j=false:=λj L=>by grind
   simp only[go_sem,VZ,B,N,u,h,A,F,M,f,O];first|exact D|exact⟨aK,D⟩
 have:k=I o:=J;subst this;simp only[go_sem,VZ,ajK,u,h,ek,I7 E]
def aHv(o:cT)(x:Int)(hl:I o<=1000000):aC S 196 [.one (.p (.sl (fm o))),ai x] (cK (o.contains x)):=by
 have f:=avE o x hl;refine ba aBh ?_;cases m:o.contains x with
 |true=>
  obtain⟨k,H⟩:=gJ (by simpa using m);cases hf:(List.range (I o)).find? (Fz o x)with
  |none=>have:=Fw.1 hf k (fU.2 ((bN.1 H).1));simp[Fz,H]at this
  |some j=>rw[hf]at f;have h:(0:Int)<=(j:Int):=J;simp only[go_sem,aeW,ah1,ie f,h]
 |false=>
  cases hf:(List.range (I o)).find? (Fz o x)with
  |some j=>
   have n:=BK hf
   grind [Fz]
  |none=>rw[hf]at f;have h:¬(0:Int)<= -1:=aa;simp only[go_sem,aeW,ah1,ie f,h]
def qH(ids:cT)(_:Nat)(p:aQ):Bool:=(p.l.kind==2)&&ids.contains p.l.id
def azo(ids:cT)(hl:I ids<=1000000)(k:Nat)(p:aQ):aC S 195 [ai k,.agg (p.ps.map .p),.one (.p (.box [.sl (fm ids)]))] (cK (qH ids k p)):=by
 refine ba azY ?_;unfold qH;cases h:(p.l.kind==2)with
 |true=>simp only[go_sem,Xy,aQ.ps,h,aCq,cS (aHv ids p.l.id hl)]
 |false=>simp only[go_sem,Xy,aQ.ps,h]
def kW(ids:cT)(k:Nat)(p:aQ):aQ:={p with l:={p.l with id:=p.l.id-((ids.take k).countP (λi=>decide (i<p.l.id)):Nat)}}
def kY(ids:cT)(p:aQ):aQ:=if p.l.kind==2 then kW ids (I ids) p else p
abbrev pV(l:bK)(ids:cT):bK:=(mK l (qH ids)).map (kY ids)
abbrev yM(ids:cT)(l:bK)(k:Nat):bK:=(l.take k).map (kY ids)++l.drop k
def aoS{ids:cT}{l:bK}{k:Nat}{p:aQ}(h:l[k]?=some p):(yM ids l k)[k]?=some p:=by grind
def aAN(ids:cT)(l:bK)(k:Nat):I (yM ids l k)=I l:=by grind
def au7{ids:cT}{l:bK}{k:Nat}{p:aQ}(h:l[k]?=some p):(yM ids l k).set k (kY ids p)=yM ids l (k+1):=by
 have H:=(bN.1 h).1;have z:l.drop k=p::l.drop (k+1):=by
  obtain⟨f,rfl⟩:=bN.1 h
  simp_all
 have E:I ((l.take k).map (kY ids))=k:=by rw[ct,ko];omega
 rw[yM,Nl _ _ J,E,BU,z,adw,yM,jM,h];simp
def B7(o:bK)(k:Nat)(p:aQ):(dP o).set k p.ps=dP (o.set k p):=by simp[vt]
def af2(l:bK)(ids:cT)(hl:I l<=1000000)(hi:I ids<=1000)(hb:∀p∈l,-1000000<=p.l.id/\p.l.id<=1000000):
  aC S 157 [.one (.p (.sl (dP l))),.one (.p (.sl (fm ids)))] (.one (bU mY 7 (dP (pV l ids)))):=by
 have nQ:∀p∈mK l (qH ids),-1000000<=p.l.id/\p.l.id<=1000000:=λp hp=>hb p (aeh hp);have fR:I (mK l (qH ids))<=1000000:=ob (KX _ _ _) hl;refine ba aAJ ?_;simp only[go_sem,apG,abL];refine pB (aw4 l hl rfl aCE (qH ids) (λk p _=>azo ids J k p)) ah (.inr (qF (zP _))) λcc mN gc ia=>?_;have z3:=ia 10048000000 aa;simp only[go_sem]at z3;unfold pV;generalize mK l (qH ids)=M at gc nQ fR;rcases gc with⟨e,e2⟩|⟨aN,u,e2,hC⟩
 .cases e2;have:M=[]:=by simpa using e
  subst this;have hz:¬(((0:Nat):Int)<((0:Nat):Int)):=J;simp only[go_sem];refine cZ (λk m blk=>k=0/\m 5=.one (.p .nils)/\m 14=ai ((0:Nat):Int)/\m 15=ai ((0:Nat):Int)) 0 0 (cP _) ?_ ?_
  .simp only[go_sem];exact rfl
  rintro k m blk _ ⟨rfl,N,A,Y⟩
  simp only[go_sem,OK,acX,N,A,Y,hz];rfl
 cases e2;simp only[go_sem];refine cZ (λk m blk=>m 3=.one (.aW 10048000000 1 0)/\blk 10048000000=(1,some (.var [.p (.sl (fm ids))]))/\m 5=.one (.hsl 10048064128 u 7 0 (I M))/\m 13=.one (.hsl 10048064128 u 7 0 (I M))/\m 14=ai (I M)/\m 15=ai k/\blk 10048064128=(u,some (.arr mY 7 (dP (yM ids M k))))) 0 (I M) (bj _) ?_ ?_
 .simp only[go_sem,z3,hC];refine⟨rfl,?_⟩;simp[yM]
 rintro k m blk hk ⟨h3,bI,N,rJ,A,Y,B⟩
 by_cases L:k<I M
 .have aL:((k:Int)<(I M:Int)):=J;obtain⟨p,hp⟩:=aP L;have Q:=kA (aoS (ids:=ids) hp);have w1:=cg (n:=k) J;have Ko:=aAN ids M k;have O:=au7 (ids:=ids) hp;have Nb:k<I (yM ids M k):=J;cases T:(p.l.kind==2)with
  |false=>
   have n1:(p.l.kind !=2):=by simp[bne,T]
   have mh:yM ids M (k+1)=yM ids M k:=by
    rw[<-O];have e:kY ids p=p:=by unfold kY;rw[T];rfl
    rw[e];obtain⟨hh,he⟩:=bN.1 (aoS hp);rw[<-he,S8]
   simp only[go_sem,OK,ab3,h3,bI,N,rJ,A,Y,B,L,aL,Q,aQ.ps,n1,w1,mh]
  |true=>
   have n1:(p.l.kind !=2)=false:=by simp[bne,T]
   have ad:=nQ p (a8 hp);have yB:kY ids p=kW ids (I ids) p:=by unfold kY;rw[T];rfl
   rw[yB]at O;generalize yM ids M k=q at Q Ko O Nb B;have q0:q.set k (kW ids 0 p)=q:=by
    have:kW ids 0 p=p:=by unfold kW;simp
    rw[this];have h1:q[k]?=some p:=by
     have h:=Q;rw[fX]at h;cases hq:q[k]? with
     |none=>rw[hq]at h;cases h
     |some x=>rw[hq]at h;simp[aQ.ps]at h;obtain⟨⟨a,b,c,d,e,f⟩,g⟩:=x;obtain⟨⟨a',b',c',d',e',f'⟩,g'⟩:=p;simp at h;obtain⟨rfl,rfl,rfl,rfl,rfl,rfl,rfl⟩:=h;rfl
    obtain⟨hh,he⟩:=bN.1 h1;rw[<-he,S8]
   simp only[go_sem,OK,h3,bI,rJ,A,Y,B,L,aL,Q,aQ.ps,n1];refine cZ (λj D X=>D 3=.one (.aW 10048000000 1 0)/\X 10048000000=(1,some (.var [.p (.sl (fm ids))]))/\D 5=.one (.hsl 10048064128 u 7 0 (I M))/\D 13=.one (.hsl 10048064128 u 7 0 (I M))/\D 14=ai (I M)/\D 15=ai k/\D 6=ai k/\D 24=.one (.p (.sl (fm ids)))/\D 25=ai (I ids)/\D 26=ai j/\
    (∃E,D 7=.one (.aW 10048256192 E 0)/\X 10048256192=(E,some (.var (p.ps.map .p))))/\X 10048064128=(u,some (.arr mY 7 (dP (q.set k (kW ids j p)))))) 0 (I ids) (bj _) ?_ ?_
   .simp only[go_sem,h3,bI,N,rJ,A,Y,B,q0];first|exact⟨rfl,_,⟨rfl,rfl⟩,rfl⟩|exact⟨rfl,⟨_,rfl,rfl⟩⟩|exact⟨_,rfl,rfl⟩|exact⟨⟨_,rfl,rfl⟩,rfl⟩|exact⟨rfl,⟨_,rfl,rfl⟩,rfl⟩|trace_state
   rintro j D X hj ⟨Z,cI,p5,v,ux,IV,p6,z,y,N6,⟨E,p7,Bo⟩,rq⟩
   by_cases yE:j<I ids
   .have UD:((j:Int)<(I ids:Int)):=J;obtain⟨d,hd⟩:=aP yE;have oY:=yL hd;have w2:=cg (n:=j) J;have u9:(ids.take (j+1)).countP (λi=>decide (i<p.l.id))=(ids.take j).countP (λi=>decide (i<p.l.id))+if d<p.l.id then 1 else 0:=by
     rw[jM,hd,uW];simp[G4,Wz]
    have eh:(ids.take j).countP (λi=>decide (i<p.l.id))<=j:=ob OH ww;have ab:(dP (q.set k (kW ids j p)))[k]?=some (kW ids j p).ps:=kA aIf;have Iy:k<I (q.set k (kW ids j p)):=aIp
    by_cases R:d<p.l.id
    .have H:(kW ids j p).l.id-1=(kW ids (j+1) p).l.id:=by
      unfold kW;simp only;rw[u9,aI R];omega
     have w3:IntKind.i64.wrap ((kW ids j p).l.id-1)=(kW ids (j+1) p).l.id:=by rw[<-H];exact iS (by unfold kW;simp only;omega) (by unfold kW;simp only;omega)
     have eD:((kW ids (j+1) p).ps)=[.int .i64 (kW ids j p).l.kind,.int .i64 (kW ids j p).l.gate,.int .i64 (kW ids j p).l.ao,.int .i64 (kW ids (j+1) p).l.id,.int .i64 (kW ids j p).l.sign,.bool (kW ids j p).l.over,.bool (kW ids j p).d]:=rfl;have F:(dP (q.set k (kW ids j p))).set k (kW ids (j+1) p).ps=dP (q.set k (kW ids (j+1) p)):=by rw[B7,QL]
     rw[eD]at F;generalize kW ids j p=x at*;simp only[go_sem,TC,Z,cI,p5,v,ux,IV,p6,z,y,N6,p7,Bo,rq,L,yE,UD,oY,R,ab,aQ.ps,w2,w3,F];exact⟨E,rfl,rfl⟩
    have H:kW ids (j+1) p=kW ids j p:=by unfold kW;rw[u9,aE R];simp
    simp only[go_sem,TC,Z,cI,p5,v,ux,IV,p6,z,y,N6,p7,Bo,rq,yE,UD,oY,R,aQ.ps,w2,H];exact⟨E,rfl,rfl⟩
   have:j=I ids:=J;subst this;rw[O]at rq;simp only[go_sem,TC,ab3,Z,cI,p5,v,ux,IV,N6,y,rq,ek,w1,L]
 have:k=I M:=J;subst this;have H:yM ids M (I M)=M.map (kY ids):=by rw[yM,lN,OI,j_]
 rw[H]at B;simp only[go_sem,OK,acX,N,A,Y,ek];exact qN (.inr ⟨by simpa using(by simpa using aN),u,aG,B⟩)
def aU.ids(g:aU F h):abg h/\Jj h:=by have H:=g.ok.cr;unfold oH at H;simp only[cF]at H;exact IH.1 λk f=>mz.1 H.1.2 k (fU.2 f)
def RQ{p:aQ}(f:p∈aJ h):∃(i:Nat) (l:U),h[i]?=some l/\p=⟨l,ep h i⟩:=by
 obtain⟨i,H⟩:=gJ f;obtain⟨l,hl⟩:=aP (by rw[<-dI];exact(bN.1 H).1);rw[gX hl]at H
 grind
def Y7(g:aU F h):∀p∈aJ h,-1000000<=p.l.id/\p.l.id<=1000000:=by
 intro p hp;obtain⟨i,l,hl,rfl⟩:=RQ hp;have H:=a8 hl;rcases g.ok.kinds l H with f|f
 .have:=(nu f).1 (g.bad l H)
  grind
 have j:=g.ids.1 l H f;have:=g.cr;simp only;omega
def wS(h:ae)(u:Nat):Option bK:=
 let p:=(aJ h).getD u ⟨jJ,false⟩
 let q:=(aJ h).getD ((u+1)%I h) ⟨jJ,false⟩
 if(p.l.kind==2)&&((q.l.kind==2)&&(p.l.id==q.l.id))then some (pV (aJ h) [p.l.id])else none
def aCQ(g:aU F h)(E:u<I h){k b c:Int}{l o:Bool}{sg:Int}:
  aC S 117 [.one (.p (fk F h)),c6 k u b c l o sg] (vu (wS h u)):=by
 have y:=g.len;have R:=dI h;have f:=FB g E;have Q:=dB (u+1) (show 0<I h by omega);obtain⟨p,hp⟩:=aP (h:=aJ h) (k:=u) J;obtain⟨q,H⟩:=aP (h:=aJ h) (k:=(u+1)%I h) J;have j:=kA hp;have m:=kA H;unfold wS;simp only[dM,hp,H,mw];refine ba asc ?_;cases z:(p.l.kind==2)with
 |false=>
  have n:(p.l.kind !=2):=by simp[bne,z]
  simp only[go_sem,PR,oK,dt f kR,j,aQ.ps,n];exact⟨aK,rfl⟩
 |true=>
 have n:(p.l.kind !=2)=false:=by simp[bne,z]
 cases x:(q.l.kind==2)with
 |false=>
  have v:(q.l.kind !=2):=by simp[bne,x]
  simp only[go_sem,PR,oK,dt f kR,j,m,aQ.ps,n,v];exact⟨aK,rfl⟩
 |true=>
 have v:(q.l.kind !=2)=false:=by simp[bne,x]
 cases c4:(p.l.id==q.l.id)with
 |false=>
  have N:(p.l.id !=q.l.id):=aHL
  simp only[go_sem,PR,oK,dt f kR,j,m,aQ.ps,n,v,N];exact⟨aK,rfl⟩
 |true=>
 have N:(p.l.id !=q.l.id)=false:=aHL
 have D:=af2 (aJ h) [p.l.id] J aG (Y7 g);simp only[go_sem,PR,oK,dt f kR,j,m,aQ.ps,n,v,N,aoO];refine⟨aK,?_⟩;refine J5 D ah (.inr (qF (zP _))) λM L w B O A=>?_;simp only[go_sem];refine⟨?_,Ak B⟩;rcases A with rfl|rfl<;>kernel_rfl
abbrev bR(ls:ae)(i:Nat):aQ:=(aJ ls).getD i ⟨jJ,false⟩
def jL{i:Nat}{p:aQ}(H:(aJ h)[i]?=some p):bR h i=p:=by simp[bR,dM,H]
abbrev nx(ls:ae)(e:Nat):Nat:=(e+1)%I ls
def jf(h:ae)(e:Nat)(ov:Bool):Bool:=((bR h e).l.kind==2)&&(((bR h (nx h e)).l.kind==2)&&(((bR h e).l.over==ov)&&((bR h (nx h e)).l.over==ov)))
def Lh(g:aU F h){e:Nat}(x:e<I h)(ov:Bool):aC S 159 [.one (.p (fk F h)),ai e,iB ov] (cK (jf h e ov)):=by
 have v:=g.len;have B:=dI h;have f:=FB g x;have y:=dB (e+1) (show 0<I h by omega);obtain⟨p,hp⟩:=aP (h:=aJ h) (k:=e) J;obtain⟨q,H⟩:=aP (h:=aJ h) (k:=(e+1)%I h) J;have j:=kA hp;have u:=kA H;unfold jf;rw[jL hp,jL H];refine ba aEp ?_;cases m:(p.l.kind==2)with
 |false=>simp only[go_sem,Kv,oK,dt f kR,j,aQ.ps,m]
 |true=>
 cases n:(q.l.kind==2)with
 |false=>simp only[go_sem,Kv,oK,dt f kR,j,u,aQ.ps,m,n]
 |true=>
 cases c4:(p.l.over==ov)with
 |false=>simp only[go_sem,Kv,oK,dt f kR,j,u,aQ.ps,m,n,c4]
 |true=>
 cases fv:(q.l.over==ov)with
 |false=>simp only[go_sem,Kv,oK,dt f kR,j,u,aQ.ps,m,n,c4,fv]
 |true=>simp only[go_sem,Kv,oK,dt f kR,j,u,aQ.ps,m,n,c4,fv]
def ff(h:ae)(e:Nat):Nat×Nat×Bool:=if(bR h e).l.kind==2 then(nx h e,e,(bR h (nx h e)).l.kind==1)else(e,nx h e,((bR h e).l.kind==1)&&((bR h (nx h e)).l.kind==2))
abbrev ajb(a b c:PV):RV:=.tup [.one (.p a),.one (.p b),.one (.p c)]
def Aw{blk:aH}{s:Nat}{a b c:PV}{l:Bool}:fQ blk [] s ((ajb a b c).gV l)=some (.tup [.one (.p a),.one (.p b),.one (.p c)],[]):=by cases l<;>rfl
def anC(g:aU F h){e:Nat}(x:e<I h):aC S 155 [.one (.p (fk F h)),ai e] (ajb (.int .i64 ((ff h e).1:Nat)) (.int .i64 ((ff h e).2.1:Nat)) (.bool (ff h e).2.2)):=by
 have v:=g.len;have B:=dI h;have m:=FB g x;have y:=dB (e+1) (show 0<I h by omega);obtain⟨p,hp⟩:=aP (h:=aJ h) (k:=e) J;obtain⟨q,H⟩:=aP (h:=aJ h) (k:=(e+1)%I h) J;have n:=kA hp;have u:=kA H;unfold ff;rw[jL hp,jL H];refine ba au8 ?_;cases j:(p.l.kind==2)with
 |true=>
  have E:p.l.kind=2:=by simpa using j
  rw[aI rfl];cases f:(q.l.kind==1);all_goals
   simp only[go_sem,VC,oK,dt m kR,n,u,aQ.ps,j,f];exact⟨aK,rfl⟩
 |false=>
  rw[aE aa];cases f:(p.l.kind==1)with
  |true=>
   cases c4:(q.l.kind==2);all_goals
    simp only[go_sem,VC,oK,dt m kR,n,u,aQ.ps,j,f,c4];exact⟨aK,rfl⟩
  |false=>simp only[go_sem,VC,oK,dt m kR,n,aQ.ps,j,f];exact⟨aK,rfl⟩
def HA(o:aD)(pr:Nat->Bool)(i:Nat):Bool:=match o[i]? with|some v=>pr v|none=>false
def aqM(o:aD)(hl:I o<=1000000){y z:PV}(Y:x.norm=x/\y.norm=y/\z.norm=z)(R:S.shared f=false)(pr:Nat->Bool)(X:∀v∈o,aC S f [ai (v:Nat),.one (.p x),.one (.p y),.one (.p z)] (cK (pr v))):
  aC S 225 [.one (.p (.sl (aY o))),.one (.p (.fn f [] [x,y,z]))] (fH (match (List.range (I o)).find? (HA o pr)with|some k=>(k:Int)|none=> -1)):=by
 obtain⟨M,T,L⟩:=Y;refine ba aw3 ?_;simp only[go_sem,ala];refine cZ (λk m blk=>m 0=.one (.p (.sl (aY o)))/\m 1=.one (.p (.fn f [] [x,y,z]))/\m 7=ai (I o)/\m 8=ai k/\ ∀j,j<k->HA o pr j=false) 0 (I o) (bj _) ?_ ?_
 .simp only[go_sem];exact⟨rfl,λj hj=>absurd hj (oJ j)⟩
 rintro k m blk hk ⟨E,Q,B,H,D⟩
 by_cases A:k<I o
 .have N:((k:Int)<(I o:Int)):=J;obtain⟨v,u⟩:=aP A;have O:=i_ u;have h:=X v (a8 u);have Z:HA o pr k=pr v:=by simp[HA,u]
  cases F:pr v with
  |true=>rw[F]at h Z;simp only[go_sem,Tn,E,Q,B,H,N,O,R,M,T,L,cS h,CC A D Z]
  |false=>
   rw[F]at h Z;simp only[go_sem,Tn,E,Q,B,H,A,N,O,R,M,T,L,cS h,cg (n:=k) J]
   grind
 have:k=I o:=J;subst this;simp only[go_sem,Tn,alw,B,H,ek,I7 D]
def aB8(o:aD)(hl:I o<=1000000){y z:PV}(H:x.norm=x/\y.norm=y/\z.norm=z)(D:S.shared f=false)(pr:Nat->Bool)(u:∀v∈o,aC S f [ai (v:Nat),.one (.p x),.one (.p y),.one (.p z)] (cK (pr v))):
  aC S 193 [.one (.p (.sl (aY o))),.one (.p (.fn f [] [x,y,z]))] (cK (o.any pr)):=by
 have h:=aqM o hl H D pr u;obtain⟨F,M,E⟩:=H;refine ba auY ?_;cases B:o.any pr with
 |true=>
  obtain⟨v,A,hp⟩:=Bk.1 B;obtain⟨k,n⟩:=gJ A;cases hf:(List.range (I o)).find? (HA o pr)with
  |none=>have:=Fw.1 hf k (fU.2 ((bN.1 n).1));simp[HA,n,hp]at this
  |some j=>rw[hf]at h;have m:(0:Int)<=(j:Int):=J;simp only[go_sem,acV,ajq,ie h,m]
 |false=>
  cases hf:(List.range (I o)).find? (HA o pr)with
  |some j=>
   have L:=BK hf
   grind [HA]
  |none=>rw[hf]at h;have m:¬(0:Int)<= -1:=aa;simp only[go_sem,acV,ajq,ie h,m]
def xW(f:cX)(e:Nat):Nat:=f.bc.countP λd=>d/2==e
def yU(f:cX)(pl:Nat)(E:aD):Bool:=(I f.bc==I E)&&((I f.places==pl)&&E.all λe=>xW f e==1)
def aje(g:aU F h){f:cX}(hf:(dA F h)[j]?=some f)(E:aD)(he:I E<=1000)(pl:Nat):
  aC S 194 [ai j,.one (.p (.box [fk F h])),.one (.p (.box [.sl (aY E)])),.one (.p (.box [.int .i64 pl]))] (cK (yU f pl E)):=by
 have ad:=g.len;have jD:I (aA h)<=I h:=qp h (I h);have yx:=IU g.ok (a8 hf);have eV:aX h<=1600:=i8
 have Dn:=It hf;have rQ:=(bN.1 hf).1;refine ba aum ?_;unfold yU;cases c1:(I f.bc==I E)with
 |false=>
  have T:(((I f.bc:Nat):Int)!=((I E:Nat):Int)):=by
   have:¬I f.bc=I E:=by simpa using c1
   simp[bne];omega
  simp only[go_sem,SJ,Dn,cX.ps,T]
 |true=>
 have T:(((I f.bc:Nat):Int)!=((I E:Nat):Int))=false:=by
  have:I f.bc=I E:=by simpa using c1
  simp[bne,this]
 cases c2:(I f.places==pl)with
 |false=>
  have v:(((I f.places:Nat):Int)!=((pl:Nat):Int)):=by
   have:¬I f.places=pl:=by simpa using c2
   simp[bne];omega
  simp only[go_sem,SJ,Dn,cX.ps,T,v]
 |true=>
 have v:(((I f.places:Nat):Int)!=((pl:Nat):Int))=false:=by
  have:I f.places=pl:=by simpa using c2
  simp[bne,this]
 simp only[go_sem,SJ,Dn,cX.ps,T,v];refine cZ (λk m blk=>m 6=.one (.aW 12416064448 1 0)/\blk 12416064448=(1,some (.var (f.ps.map .p)))/\m 32=.one (.p (.sl (aY E)))/\m 33=ai (I E)/\m 34=ai k/\ ∀i e,i<k->E[i]?=some e->(xW f e==1)) 0 (I E) (bj _) ?_ ?_
 .simp only[go_sem,cX.ps];first|exact⟨rfl,λi e H=>absurd H (oJ i)⟩|exact⟨rfl,rfl,λi e H=>absurd H (oJ i)⟩|exactλi e H=>absurd H (oJ i)
 rintro k m blk hk ⟨h6,Y,M,Cc,z,aB⟩
 simp only[cX.ps,fq,ml]at Y;by_cases aw:k<I E
 .have aL:((k:Int)<(I E:Int)):=J;obtain⟨e,L⟩:=aP aw;have w1:=cg (n:=k) J;simp only[go_sem,YO,h6,Y,M,Cc,z,aL,i_ L];refine cZ (λi D bt=>D 6=.one (.aW 12416064448 1 0)/\bt 12416064448=(1,some (.var (f.ps.map .p)))/\D 32=.one (.p (.sl (aY E)))/\D 33=ai (I E)/\D 34=ai k/\D 8=ai e/\D 9=ai ((f.bc.take i).countP λd=>d/2==e:Nat)/\D 39=.one (.p (.sl (aY f.bc)))/\D 40=ai (I f.bc)/\D 41=ai i) 0 (I f.bc) (bj _) ?_ ?_
  .simp only[go_sem,h6,Y,M,Cc,z,cX.ps];first|exact⟨rfl,rfl⟩|exact rfl|exact⟨rfl,rfl,rfl⟩
  rintro i D bt H ⟨p6,Q,x,y,IW,p8,A,N,O,u⟩
  by_cases vg:i<I f.bc
  .have B:((i:Int)<(I f.bc:Int)):=J;obtain⟨d,X⟩:=aP vg;have oY:=i_ X;have w2:=cg (n:=i) J;have wq:=wrap_small (n:=d/2) (by have:=aaP (a8 hf) d (a8 X);omega);have eh:(f.bc.take i).countP (λd=>d/2==e)<=i:=ob OH ww;have R:(f.bc.take (i+1)).countP (λd=>d/2==e)=(f.bc.take i).countP (λd=>d/2==e)+if(d/2==e)=true then 1 else 0:=by
    rw[jM,X,uW];simp[G4,Wz]
   cases Z:(d/2==e)with
   |true=>
    have n3:(((d/2:Nat):Int)==(e:Int)):=by
     have:d/2=e:=by simpa using Z
     simp;omega
    rw[Z,aI rfl]at R;simp only[go_sem,PE,p6,x,y,IW,p8,A,N,O,u,vg,B,oY,kE,n_,wq,n3,w2,cg (n:=(f.bc.take i).countP λd=>d/2==e) J,R];first|exact Q|exact⟨Q,rfl⟩
   |false=>
    have n3:(((d/2:Nat):Int)==(e:Int))=false:=by
     have:¬d/2=e:=by simpa using Z
     simp;omega
    rw[Z,aE aa,Ab]at R;simp only[go_sem,PE,p6,x,y,IW,p8,A,N,O,u,vg,B,oY,kE,n_,wq,n3,w2,R];first|exact Q|exact⟨Q,rfl⟩
  have:i=I f.bc:=J;subst this;rw[lN]at A;have ab:(f.bc.countP λd=>d/2==e)=xW f e:=rfl;rw[ab]at A;cases hq:(xW f e==1)with
  |true=>
   have n4:(((xW f e:Nat):Int)!=1)=false:=by
    have:xW f e=1:=by simpa using hq
    simp[bne,this]
   simp only[go_sem,PE,aea,afu,p6,x,y,IW,A,O,u,ek,n4,w1,aw]
   grind
  |false=>
   have n4:(((xW f e:Nat):Int)!=1):=by
    have:¬xW f e=1:=by simpa using hq
    simp[bne];omega
   have im:(E.all λe=>xW f e==1)=false:=XV.2 ⟨e,a8 L,by rw[hq];decide⟩;simp only[go_sem,PE,aea,A,O,u,ek,n4,im]
 have:k=I E:=J;subst this;have im:=mz.2 λe he=>by obtain⟨i,H⟩:=gJ he;exact aB i e (bN.1 H).1 H
 simp only[go_sem,YO,anR,Cc,z,ek,im]
def pN(F:Nat)(h:ae)(pl:Nat)(E:aD)(f:Nat):Bool:=yU (c8 F h (2*f)) pl E||yU (c8 F h (2*f+1)) pl E
def aaX(g:aU F h)(E:aD)(eo:I E<=1000){f:Nat}(N:E[0]?=some f)(L:f<I h)(pl:Nat):
  aC S 156 [.one (.p (fk F h)),ai pl,.one (.p (.sl (aY E)))] (cK (pN F h pl E f)):=by
 have y:=g.len;obtain⟨u,Q,x,Y⟩:=Sr g (d:=2*f) J;obtain⟨m,z,B,X⟩:=Sr g (d:=2*f+1) J;have g0:(dA F h).getD u OG=c8 F h (2*f):=by rw[dM,x];rfl
 have g1:(dA F h).getD m OG=c8 F h (2*f+1):=by rw[dM,B];rfl
 have pc:=aB8 [u,m] aG ⟨rfl,rfl,rfl⟩ axh (λj=>yU ((dA F h).getD j OG) pl E) (λv H=>by
  simp at H;rcases H with rfl|rfl
  .rw[g0];exact aje g x E eo pl
  rw[g1];exact aje g B E eo pl)
 have A:([u,m].any λj=>yU ((dA F h).getD j OG) pl E)=pN F h pl E f:=by simp only[Vr,Tq,Rt,g0,g1];rfl
 rw[A]at pc;simp at pc;have R:=i_ z;have O:=i_ N;have M:=qj (a:=f) J;have D:=cg (n:=2*f) J;have T:=Js F h;refine ba aFG ?_;simp only[go_sem,akA,O,M,D,i_ Q,R,aFu,mA pc];exact aK
def ig(h:ae)(l:bK)(e:Nat):bK:=(l.set e (l.getD (nx h e) ⟨jJ,false⟩)).set (nx h e) (l.getD e ⟨jJ,false⟩)
theorem wU(h:ae)(l:bK)(e:Nat):I (ig h l e)=I l:=by simp[ig]
def dY(h:ae)(l:bK)(n:aD):bK:=n.foldl (ig h) l
def yX(h:ae):∀(n:aD) (l:bK),I (dY h l n)=I l:=by
 intro n
 induction n with
 |nil=>intro l;rfl
 |cons e n f=>intro l;show(dY h _ n).length=_;rw[f,wU]
def aEi(g:aU F h)(n:aD)(Z:∀e∈n,e<I h)(eo:I n<=1000):
  aC S 162 [.one (.p (fk F h)),.one (.p (.sl (aY n)))] (.one (bU mY 7 (dP (dY h (aJ h) n)))):=by
 have E:=g.len;have v:=dI h;have N:aJ h≠[]:=iW.1 (by have:=iW.2 g.ne;omega);refine ba aBy ?_;simp only[go_sem,akD,Gj];refine pB (Qu N J) ah (.inl rfl) λcc mN gc ia=>?_;rcases gc with⟨e,_⟩|⟨_,j,e,X⟩
 .exact absurd aH0 N
 cases e;rw[ct,v];simp only[go_sem];refine cZ (λk m blk=>m 0=.one (.p (fk F h))/\m 5=.one (.hsl 10368064256 j 7 0 (I h))/\m 15=.one (.p (.sl (aY n)))/\m 16=ai (I n)/\m 17=ai k/\blk 10368064256=(j,some (.arr mY 7 (dP (dY h (aJ h) (n.take k)))))) 0 (I n) (bj _) ?_ ?_
 .simp only[go_sem,X];first|exact⟨rfl,rfl⟩|rfl|exact⟨rfl,rfl,rfl⟩
 rintro k m blk hk ⟨h0,D,yq,L,O,B⟩
 by_cases A:k<I n
 .have aL:((k:Int)<(I n:Int)):=J;obtain⟨e,u⟩:=aP A;have H:=i_ u;have Q:=Z e (a8 u);have pe:=FB g Q;have T:=cg (n:=k) J;have x:dY h (aJ h) (n.take (k+1))=ig h (dY h (aJ h) (n.take k)) e:=by
   unfold dY;rw[jM,u,Bq];rfl
  have iX:I (dY h (aJ h) (n.take k))=I h:=by rw[yX,v]
  have hm:=dB (e+1) (show 0<I h by omega);generalize dY h (aJ h) (n.take k)=M at B x iX;obtain⟨p,hp⟩:=aP (h:=M) (k:=e) J;obtain⟨q,y⟩:=aP (h:=M) (k:=(e+1)%I h) J;have dp:=kA hp;have Ba:=kA y;have l2:(e+1)%I h<I M:=J;have R:=B7 M e q;have yB:(M.set e q).set ((e+1)%I h) p=ig h M e:=by unfold ig nx;rw[dM,y,dM,hp];rfl
  have f:=B7 (M.set e q) ((e+1)%I h) p;rw[yB,<-x]at f;simp only[aQ.ps]at R f;obtain⟨p',kN⟩:=aP (h:=M.set e q) aIp;obtain⟨q',Fa⟩:=aP (h:=M.set e q) aIp;have ab:=kA Fa;simp only[go_sem,acf,h0,D,yq,L,O,B,A,aL,H,oK,dt pe kR,Q,hm,dp,Ba,by omega,R,f,aQ.ps,T];exact aK
 have:k=I n:=J;subst this;rw[lN]at B;simp only[go_sem,acf,ajg,D,L,O,ek];have z:I (dY h (aJ h) n)=I h:=by rw[yX,v]
 refine qN (.inr ⟨?_,j,by rw[ct,z],B⟩);intro Y;have:=congrArg List.length Y;rw[ct,z,fB]at this;have h3:=iW.2 g.ne;omega
end
end Go.Abs
