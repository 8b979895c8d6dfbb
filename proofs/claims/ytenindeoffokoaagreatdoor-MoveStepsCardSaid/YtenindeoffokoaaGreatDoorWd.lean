/- A part. -/
import Derived.Test.YtenindeoffokoaaGreatDoorWc
set_option linter.all false
open List renaming length->I
set_option maxRecDepth 100000
set_option maxHeartbeats 16000000
namespace Go.Abs
variable{n:dI}{A j z x v B y E L D H u:Nat}{f:dL}{Q:iw}{m:bJ}
section
variable{h:af}{F:Nat}
def ajB{e:dW}(h:I e=1):∃x,e=[x]:=by
 match e,h with
 |[a],_=>exact⟨a,rfl⟩
def afU{e:dW}(h:I e=2):∃x X,e=[x,X]:=by
 match e,h with
 |[a,b],_=>exact⟨a,b,rfl⟩
def adp{e:dW}(h:I e=7):∃x j n m x4 u X,e=[x,j,n,m,x4,u,X]:=by
 match e,h with
 |[a,b,c,d,f,g,i],_=>exact⟨a,b,c,d,f,g,i,rfl⟩
structure vW (es fs:dI) (k:Nat):Prop where
 len:I fs=I es
 at':∀i,i<I es->fs[i]?=if i<k\/I es-1-i<k then es[I es-1-i]? else es[i]?
def vW.start(n:dI):vW n n 0:=⟨rfl,λi _=>by rw[aC J]⟩
def vW.step{fs:dI}{k:Nat}{a b:dW}(h:vW n fs k)(x:k<I n-1-k)(j:n[k]?=some a)(u:n[I n-1-k]?=some b):
  fs[k]?=some a/\fs[I n-1-k]?=some b/\vW n ((fs.set k b).set (I n-1-k) a) (k+1):=by
 have H:=h.len;refine⟨?_,?_,⟨by rw[j7,j7];exact H,λi v=>?_⟩⟩
 .rw[h.at' k J,aC J,j]
 .rw[h.at' _ J,aC J,u]
 rw[pJ,j7];by_cases E:I n-1-k=i
 .rw[aD E,aD J,aD J,show I n-1-i=k by omega,j]
 rw[aC E,pJ];by_cases m:k=i
 .subst m;rw[aD rfl,aD J,aD J,u]
 rw[aC m,h.at' i v];by_cases f:i<k\/I n-1-i<k
 .rw[aD f,aD J]
 rw[aC f,aC J]
def vW.done{fs:dI}{k:Nat}(h:vW n fs k)(f:¬k<I n-1-k):fs=n.reverse:=by
 refine pk λi=>?_;rcases LB i (I n) with H|H
 .rw[h.at' i H,EE H];by_cases e:i<k\/I n-1-i<k
  .rw[aD e]
  rw[aC e,show I n-1-i=i by omega]
 rw[lS (by rw[h.len];exact H),lS (by rw[nr];exact H)]
def Ix(id A z:Nat)(n:dI)(c:bd)(blk:aJ)(v:V)(f:aJ):Prop:=v=.tup []/\bh id A z n.reverse (.one c) f/\d_ (· =id) blk f
def apn{al:cF}{blk:aJ}{id:Nat}{c:bd}(o:n=[]\/al.ok id)(hl:I n<=1000000)(N:∀e∈n,I e=1/\ ∀v∈e,v.norm=v)(h:bh id A 1 n (.one c) blk):
  ∃v f,jQ S 105 [.one c] al blk v f/\Ix id A 1 n c blk v f:=by
 refine oZ axH (ju rfl) ?_;rcases h with⟨rfl,H⟩|⟨L,g,H,Q⟩
 .cases H;have z:IntKind.i64.wrap (((0:Nat):Int)-1)= -1:=aa;have hz:¬((0:Int)< -1):=aa;simp only[go_sem,abI,z,ai,aB];refine dt (λk m f=>k=0/\m 2=aI 0/\m 3=aI (-1)/\f=blk) 0 0 (cJ _) ?_ ?_
  .simp only[go_sem]
  rintro k m f _ ⟨rfl,H,j,rfl⟩
  simp only[go_sem,T_,H,j,hz,ai,aB];exact⟨rfl,.inl ⟨rfl,rfl⟩,λ_ _=>rfl⟩
 cases H;have o:=o.resolve_left L;have z:=uA (a:=I n) J;simp only[go_sem,abI,z,ai,aB];refine dt (λk m f=>m 0=.one (.hsl id g 1 0 (I n))/\m 2=aI k/\m 3=aI ((I n:Int)-1-(k:Int))/\ ∃fs,f id=(g,some (.arr A 1 fs))/\vW n fs k/\d_ (· =id) blk f) 0 (I n) (bZ _) ?_ ?_
 .simp only[go_sem];refine⟨rfl,aE,n,Q,vW.start n,d_.refl _ _⟩
 rintro k m f hk ⟨B,H,j,fs,x,y,D⟩
 by_cases F:k<I n-1-k
 .have e1:((I n:Int)-1-(k:Int))=((I n-1-k:Nat):Int):=J;rw[e1]at j;have u:((k:Int)<((I n-1-k:Nat):Int)):=J;have O:=cS (n:=k) J;have w2:IntKind.i64.wrap (((I n-1-k:Nat):Int)-1)=((I n:Int)-1-((k+1:Nat):Int)):=by
   rw[uA J];omega
  obtain⟨a,M⟩:=aP (show k<I n by omega);obtain⟨b,E⟩:=aP (show I n-1-k<I n by omega);obtain⟨fa,fb,xZ⟩:=y.step F M E;obtain⟨la,na⟩:=N a (a7 M);obtain⟨lb,Z⟩:=N b (a7 E);obtain⟨X,rfl⟩:=ajB la;obtain⟨y0,rfl⟩:=ajB lb;have Y:=na X aE;have JX:=Z y0 aE;have rU:=y.len;have R:¬(k=I n-1-k):=J;have T:¬(I n-1-k=k):=J;have l1:k<I fs:=J;have l2:I n-1-k<I fs:=J;have l3:k<I n:=J;have l4:I n-1-k<I n:=J;simp only[go_sem,T_,B,H,j,x,u,fa,fb,O,w2,o,l1,l2,l3,l4,R,T,Y,JX,pJ,j7,ai,aB];refine⟨aS,_,rfl,xZ,?_⟩;exact(D.dV rfl _).dV rfl _
 have u:¬((k:Int)<(I n:Int)-1-(k:Int)):=J;simp only[go_sem,T_,B,H,j,u,ai,aB];refine⟨rfl,?_,D⟩;rw[y.done F]at x;exact .inr ⟨by simpa using L,g,by rw[nr],x⟩
def atZ{al:cF}{blk:aJ}{id:Nat}{c:bd}(o:n=[]\/al.ok id)(hl:I n<=1000000)(Q:∀e∈n,I e=2/\ ∀v∈e,v.norm=v)(h:bh id A 2 n (.one c) blk):
  ∃v f,jQ S 104 [.one c] al blk v f/\Ix id A 2 n c blk v f:=by
 refine oZ auP (ju rfl) ?_;rcases h with⟨rfl,H⟩|⟨M,g,H,T⟩
 .cases H;have z:IntKind.i64.wrap (((0:Nat):Int)-1)= -1:=aa;have hz:¬((0:Int)< -1):=aa;simp only[go_sem,Zg,z,ai,aB];refine dt (λk m f=>k=0/\m 2=aI 0/\m 3=aI (-1)/\f=blk) 0 0 (cJ _) ?_ ?_
  .simp only[go_sem]
  rintro k m f _ ⟨rfl,H,j,rfl⟩
  simp only[go_sem,RK,H,j,hz,ai,aB];exact⟨rfl,.inl ⟨rfl,rfl⟩,λ_ _=>rfl⟩
 cases H;have o:=o.resolve_left M;have z:=uA (a:=I n) J;simp only[go_sem,Zg,z,ai,aB];refine dt (λk m f=>m 0=.one (.hsl id g 2 0 (I n))/\m 2=aI k/\m 3=aI ((I n:Int)-1-(k:Int))/\ ∃fs,f id=(g,some (.arr A 2 fs))/\vW n fs k/\d_ (· =id) blk f) 0 (I n) (bZ _) ?_ ?_
 .simp only[go_sem];refine⟨rfl,aE,n,T,vW.start n,d_.refl _ _⟩
 rintro k m f hk ⟨B,H,j,fs,x,y,D⟩
 by_cases F:k<I n-1-k
 .have e1:((I n:Int)-1-(k:Int))=((I n-1-k:Nat):Int):=J;rw[e1]at j;have u:((k:Int)<((I n-1-k:Nat):Int)):=J;have R:=cS (n:=k) J;have w2:IntKind.i64.wrap (((I n-1-k:Nat):Int)-1)=((I n:Int)-1-((k+1:Nat):Int)):=by
   rw[uA J];omega
  obtain⟨a,O⟩:=aP (show k<I n by omega);obtain⟨b,E⟩:=aP (show I n-1-k<I n by omega);obtain⟨fa,fb,xZ⟩:=y.step F O E;obtain⟨la,L⟩:=Q a (a7 O);obtain⟨lb,N⟩:=Q b (a7 E);obtain⟨X,x1,rfl⟩:=afU la;obtain⟨y0,y1,rfl⟩:=afU lb;have JW:=L X aE;have Qv:=L x1 aE;have JX:=N y0 aE;have Qw:=N y1 aE;have rU:=y.len;have Y:¬(k=I n-1-k):=J;have Z:¬(I n-1-k=k):=J;have l1:k<I fs:=J;have l2:I n-1-k<I fs:=J;have l3:k<I n:=J;have l4:I n-1-k<I n:=J;simp only[go_sem,RK,B,H,j,x,u,fa,fb,R,w2,o,l1,l2,l3,l4,Y,Z,JW,Qv,JX,Qw,pJ,j7,ai,aB];refine⟨aS,_,rfl,xZ,?_⟩;exact(D.dV rfl _).dV rfl _
 have u:¬((k:Int)<(I n:Int)-1-(k:Int)):=J;simp only[go_sem,RK,B,H,j,u,ai,aB];refine⟨rfl,?_,D⟩;rw[y.done F]at x;exact .inr ⟨by simpa using M,g,by rw[nr],x⟩
structure U7 {α:Type} (lt:α->α->Bool):Prop where
 asym:∀a b,lt a b->lt b a=false
 ntrans:∀a b c,lt b a=false->lt c b=false->lt c a=false
def xx{α:Type}(lt:α->α->Bool)(f:List α)(a b:Nat):Prop:=∀p q x y,a<=p->p<q->q<b->f[p]?=some x->f[q]?=some y->lt y x=false
structure A6 {α:Type} (lt:α->α->Bool) (zs ws:List α) (x:α) (a i j:Nat):Prop where
 perm:ws.Perm zs
 le:a<=j/\j<=i/\i<I ws
 at':ws[j]?=some x
 up:∀p y,j<p->p<=i->ws[p]?=some y->lt x y
 so:∀p q y z,a<=p->p<q->q<=i->p≠j->q≠j->ws[p]?=some y->ws[q]?=some z->lt z y=false
 out:∀p,p<a\/i<p->ws[p]?=zs[p]?
def A6.start{α:Type}{lt:α->α->Bool}{zs:List α}{x:α}{a i:Nat}(m:a<=i)(h:zs[i]?=some x)(ae:xx lt zs a i):A6 lt zs zs x a i i:=
 ⟨.refl _,⟨m,cJ _,(bt.1 h).1⟩,h,λp y H f=>J,λp q y z j H f n u=>ae p q y z j H J,λ_ _=>rfl⟩
def asy{α:Type}{f:List α}{i:Nat}{x y:α}(u:f[i]?=some x)(h:f[j]?=some y):((f.set i y).set j x).Perm f:=by obtain⟨m,E⟩:=bt.1 u;obtain⟨H,n⟩:=bt.1 h;have:=List.set_set_perm m H;rwa[E,n]at this
def A6.step{α:Type}{lt:α->α->Bool}{zs f:List α}{x y:α}{a i:Nat}(o:U7 lt)(h:A6 lt zs f x a i (j+1))(N:a<=j)(B:f[j]?=some y)(Q:lt x y):
  A6 lt zs ((f.set (j+1) y).set j x) x a i j:=by
 obtain⟨hp,⟨_,Y,hl⟩,jU,Z,F,X⟩:=h;have O:j<I f:=(bt.1 B).1;have get:∀p,((f.set (j+1) y).set j x)[p]?=if p=j then some x else if p=j+1 then some y else f[p]? :=λp=>by
  rw[pJ,pJ,j7];by_cases D:j=p
  .subst D;simp[O]
  by_cases E:j+1=p
  .subst E;have:¬(j+1=j):=J;rw[aC D,aD rfl,aD J,aC this,aD rfl]
  rw[aC D,aC E,aC (λh=>D h.symm),aC (λh=>E h.symm)]
 refine⟨(asy jU B).trans hp,⟨N,J,by simp;omega⟩,by rw[get];simp,?_,?_,?_⟩
 .intro p z M A n;rw[get,aC J]at n;by_cases e:p=j+1
  .rw[aD e]at n;cases n;exact Q
  rw[aC e]at n;exact Z p z J A n
 .intro p q u v L M A T R m H;rw[get,aC T]at m;rw[get,aC R]at H;by_cases e:p=j+1
  .rw[aD e]at m;cases m;rw[aC J]at H;exact F j q _ _ N J A J J B H
  rw[aC e]at m;by_cases E:q=j+1
  .rw[aD E]at H;cases H;exact F p j _ _ L J J e J m B
  rw[aC E]at H;exact F p q _ _ L M A e E m H
 intro p dx;rw[get,aC J,aC J,X p dx]
def A6.stop{α:Type}{lt:α->α->Bool}{zs m:List α}{x:α}{a i:Nat}(o:U7 lt)(h:A6 lt zs m x a i j)(A:j=a\/ ∃y,a<j/\m[j-1]?=some y/\lt x y=false):xx lt m a (i+1):=by
 obtain⟨hp,⟨M,O,hl⟩,L,Z,F,R⟩:=h;intro p q u v z B Q H f;by_cases e:q=j
 .subst e;rw[L]at f;cases f;rcases A with A|⟨y,T,n,D⟩
  .omega
  by_cases N:p=q-1
  .subst N;rw[n]at H;cases H;exact D
  exact o.ntrans _ _ _ (F p (q-1) _ _ z J J J J H n) D
 by_cases E:p=j
 .subst E;rw[L]at H;cases H;exact o.asym _ _ (Z q v B J f)
 exact F p q u v z B J E e H f
def xx.mono{α:Type}{lt:α->α->Bool}{f:List α}{a b c:Nat}(h:xx lt f a c)(H:b<=c\/I f<=c):xx lt f a b:=λp q x y n m v u j=>h p q x y n m (by
 rcases H with H|H
 .omega
 have:=(bt.1 j).1;omega) u j
abbrev vl(a b:Int):Bool:=decide (a<b)
def abS:U7 vl:=⟨λa b h=>by simp at*;omega,λa b c h k=>by simp at*;omega⟩
def Q4{f:Nat}{c:bd}{blk:aJ}(h:bh f A z n (.one c) blk):(n=[]/\qd blk (.one c)=[])\/qd blk (.one c)=[f]:=by
 rcases h with⟨j,H⟩|⟨j,g,H,m⟩
 .cases H;exact .inl ⟨j,acf⟩
 cases H;exact .inr (show oH blk 6 (.hsl f g z 0 (I n))=[f]from JJ m)
section
variable {al:cF} {Q:iw} {m:bJ} {blk:aJ} {os:fV} {d:eT}
def amV{f id:Nat}{c:bd}(Z:∀ {al:cF}{blk:aJ},n=[]\/al.ok id->bh id A z n (.one c) blk->∃v j,jQ S f [.one c] al blk v j/\Ix id A z n c blk v j)(ae:S.sites f=[f])(H:bh id A z n (.one c) blk)(O:al.ok id)(hf:al.fs.contains f)
  (y:∀j,bh id A z n.reverse (.one c) j->(∀i,i≠id->j i=blk i)->kG S al os Q (eQ m d (.tup [])) j):kE S al (.sc f [.one c]) d os Q m blk:=by
 refine xB (Ow ?_ ?_) (Z ?_ H) ?_
 .show al.jk ([V.one c].map _).flatten=true;rcases Q4 H with⟨_,h⟩|h
  .simp[h,cF.jk]
  simp[h,cF.jk,O]
 .show(S.sites f).all al.fs.contains=true
  grind
 .rcases Q4 H with⟨h,_⟩|h
  .exact .inl h
  exact .inr (Ep (by simp[h]))
 rintro v j ⟨rfl,x,u⟩
 exact y j x u
end
def aq2:S.sites 104=[104]:=ah
def azu:S.sites 105=[105]:=ah
def ajC(ok:gN F h)(H:x<aT h):aU h x<aT h:=Si ok.lY ok.hp H
abbrev xf(id:Nat):Prop:=rh id=67
structure aiH (ls:af) (idS gS idB gB g8 gF:Nat) (sp:gD) (f:dL) (cd cp cf:bd) (blk:aJ):Prop where
 bS:blk idS=(gS,some (.arr 4 1 (iQ sp)))
 bB:blk idB=(gB,some (.arr 4 1 (iQ (C3 ls))))
 b8:blk 4288000000=(g8,some (.var [.p (.bool false),.p .nils,.p .nils,.p .nils,.p (.bool false)]))
 bF:blk 4288128448=(gF,some (.var [.p (.bool f.gT),cd,cp,cf,.p (.bool f.outer)]))
 gd:bh 4288512256 3 1 (bQ f.di) (.one cd) blk
 gp:bh 4288896192 Gp 2 (lN f.places) (.one cp) blk
 gf:bh 4288896448 3 1 (bQ f.Bt) (.one cf) blk
def ayb(ok:gN F h){k:Nat}(H:x<aT h)(j:I f.di<=k/\I f.places<=k*(2*F+2)/\I f.Bt<=k*(2*F+2)):(f.add F h x).di.length<=k+1/\(f.add F h x).places.length<=(k+1)*(2*F+2)/\(f.add F h x).Bt.length<=(k+1)*(2*F+2):=by grind [dL.add,W1,ZP]
def apL{al:cF}(ok:gN F h)(hF:F<=1000)(O:∀id,xf id->al.ok id){g8 gF d:Nat}(oS:al.ok v)(nS:¬xf v)(nB:¬xf y)(a9:v≠y)(f1:al.fs.contains 104)(f2:al.fs.contains 105)(hd:d<2*I h):
  ∀(j k x:Nat) (z:gD) (f:dL) (m:bJ) (blk:aJ) (cd cp cf:bd),m 0=.one (.p (pA F h))->m 2=.one (.hsl v B 1 0 (2*I h))->m 8=.one (.bR 4288000000 g8 0)->m 9=aI (I h)->m 10=aI (I (aA h))->m 11=.one (.bR 4288128448 gF 0)->m 12=aI x->
   aiH h v B y E g8 gF (z.take (2*I h)) f cd cp cf blk->I z=aT h->x<aT h->Inv (aU h) (aT h) d z x->AG z<j->(k+j<=5000000)->(I f.di<=k/\I f.places<=k*(2*F+2)/\I f.Bt<=k*(2*F+2))->
   (∀aH ao I9 oj Jb,aH 8=m 8->aH 11=m 11->aiH h v B y E g8 gF ((hJ (aU h) j x z).2.take (2*I h)) ((hJ (aU h) j x z).1.foldl (dL.add F h) f) I9 oj Jb ao->(∀id,¬(xf id\/id=v)->ao id=blk id)->Q .normal aH ao)->
   W S al (.loop LQ) (rM 0 Q) m blk:=by
 have hl:=ok.hl;have jt:I (aA h)<=1000000:=oO (xo h (I h)) hl;have fN:aT h<=4000000:=by unfold aT;omega
 have m2:=rQ (a:=I h) J;have k0:al.ok 4288000000:=O _ rfl;have kF:al.ok 4288128448:=O _ rfl;have aX:al.ok 4288512192:=O _ rfl;have kd:al.ok 4288512256:=O _ rfl;have kp:al.ok 4288896192:=O _ rfl;have kf:al.ok 4288896448:=O _ rfl;have ab:al.ok 4288640128:=O _ rfl;have ac:al.ok 4288640129:=O _ rfl;have hm:=mE ok;intro j
 induction j with
 |zero=>intro k x z f m blk cd cp cf _ _ _ _ _ _ _ _ _ _ _ az;omega
 |succ j ih=>
  intro k x z f m blk cd cp cf M D L T R A pN H PQ yr hi hu hk ag Y;have bn:=hm.le;obtain⟨l1,l2,l3⟩:=ag;have bp:k*(2*F+2)<=5000000*2002:=O0 J J;have Mx:=ayb ok yr ⟨l1,l2,l3⟩;unfold hJ at Y;have N:∀ {a:Nat},xf a->a≠v:=λaz e=>nS (e▸az);have u:∀ {a:Nat},xf a->a≠y:=λaz e=>nB (e▸az);have nF:¬(4288128448=v):=N rfl;refine og ?_;cases ae:z.getD x true with
  |true=>
   have bm:=hi.i4 ae;have aw:x<2*I h:=J;have aM:((x:Int)<((2*I h:Nat):Int)):=J;rw[ae]at Y;simp only[if_true]at Y;have Z:(z.take (2*I h))[x]?=some true:=by
    have h1:=WN aw (show 2*I h<=I z by omega);rw[show dU z x=true from ae,dD]at h1;have Ay:x<I (z.take (2*I h)):=by rw[jO];omega
    obtain⟨b,Z⟩:=aP Ay;rw[Z]at h1 |-;exact congrArg some h1
   have mw:=tR Z;simp only[go_sem,LQ,M,D,L,T,R,A,pN,m2,aM,aw,H.bS,mw,oS];exact Y _ _ cd cp cf (by simp only[go_sem]) (by simp only[go_sem]) H (λ_ _=>rfl)
  |false=>
   have Kb:z[x]?=some false:=by
    rw[dD]at ae;cases h1:z[x]? with
    |none=>rw[h1]at ae;cases ae
    |some b=>rw[h1]at ae;exact congrArg some ae
   have HK:=Mw Kb;have pt:=aiq ok x (by unfold aT at yr;exact yr);have dG:=hi.step hm PQ yr ae;rw[ae]at Y;simp only[fE,if_false,CM]at Y;by_cases BD:x<2*I h
   .have aM:((x:Int)<((2*I h:Nat):Int)):=J;have Z:(z.take (2*I h))[x]?=some false:=by rw[p_,aD BD];exact Kb
    have mw:=tR Z;have iE:=Lh (z.take (2*I h)) x true;rw[agV]at iE;have bi:f.add F h x={f with di:=f.di++[x]}:=by unfold dL.add;rw[aD BD]
    simp only[go_sem,LQ,M,D,L,T,R,A,pN,m2,aM,BD,H.bS,H.bF,mw,iE,oS,kF,aX,nF];refine T3 (B:=[[.int .i64 (x:Int)]]) (rd:=[4288512192]) (by simp[kd,aX]) (H.gd.of_eq ((ct aa).trans (ct (N rfl)))) (by simp[hU,bG]) (.inl rfl) (by simp only[cg,fP,ga];omega) λc bK hc cV=>?_;have Mq:∀i,i≠4288512192->i≠4288512256->i≠v->bK i=blk i:=λi a b c=>(cV i b b).trans ((ct a).trans (ct c))
    have bl:=(cV v (N rfl).symm (N rfl).symm).trans ((ct (N rfl).symm).trans zI);have X:=(Mq 4288128448 aa aa (N rfl)).trans H.bF;simp only[go_sem,X,M,D,L,T,R,A,pN,kF,Xy,Sf pt];refine ih (k+1) (aU h x) (z.set x true) (f.add F h x) _ _ c cp cf ?_ ?_ ?_ ?_ ?_ ?_ ?_ ?_ (by rw[j7];exact PQ) (ajC ok yr) dG J J Mx ?_
    .simp only[go_sem,M]
    .simp only[go_sem,D]
    .simp only[go_sem,L]
    .simp only[go_sem,T]
    .simp only[go_sem,R]
    .simp only[go_sem,A]
    .simp only[go_sem]
    .rw[bi];refine⟨?_,?_,?_,zI,?_,?_,?_⟩
     .exact(ct (N rfl).symm).trans bl
     .exact(ct (u rfl).symm).trans ((Mq _ (u rfl).symm (u rfl).symm a9.symm).trans H.bB)
     .exact(ct aa).trans ((Mq _ aa aa (N rfl)).trans H.b8)
     .exact(M8 _ _▸hc.of_eq (ct aa))
     .exact(H.gp.of_eq (Mq _ aa aa (N rfl))).of_eq (ct aa)
     exact(H.gf.of_eq (Mq _ aa aa (N rfl))).of_eq (ct aa)
    intro aH ao I9 oj Jb q8 NF DJ dN;refine Y aH ao I9 oj Jb (by rw[q8];simp only[go_sem]) (by rw[NF];simp only[go_sem]) DJ λid hn=>?_;have a:∀be,xf be->id≠be:=λbe hy e=>hn (.inl (e▸hy));exact(dN id hn).trans ((ct (a _ rfl)).trans (Mq id (a _ rfl) (a _ rfl) λe=>hn (.inr e)))
   have hj:(x-2*I h)/2<I (aA h):=by unfold aT at yr;omega
   have Av:=aoK ok hF hj;have lP:=W1 ok hj;have lF:=ZP ok hj;have ye:¬((x:Int)<((2*I h:Nat):Int)):=J;have ws:=abe (a:=x) (b:=2*I h) J J;have wq:=wrap_small (n:=(x-2*I h)/2) J;have w2:=Ig (a:=I (aA h)) J J;have YX:((((x-2*I h)/2:Nat):Int)==((I (aA h)-1:Nat):Int))=decide ((x-2*I h)/2+1=I (aA h)):=by
    by_cases az:(x-2*I h)/2+1=I (aA h)
    .rw[tV az];simp;omega
    rw[vg az];simp;omega
   have qy:(f.add F h x).outer=(f.outer||decide ((x-2*I h)/2+1=I (aA h))):=by unfold dL.add;rw[aC BD]
   have a0:(f.add F h x).gT=f.gT:=by unfold dL.add;rw[aC BD]
   have ap:(f.add F h x).di=f.di:=by unfold dL.add;rw[aC BD]
   have MF:(f.add F h x).places=f.places++(if x%2=0 then mL F h ((x-2*I h)/2)else(mL F h ((x-2*I h)/2)).reverse):=by unfold dL.add;rw[aC BD]
   have JL:(f.add F h x).Bt=f.Bt++(if x%2=0 then D6 F h ((x-2*I h)/2)else(D6 F h ((x-2*I h)/2)).reverse):=by unfold dL.add;rw[aC BD]
   generalize f.add F h x=f' at qy a0 ap MF JL Y Mx;have kQ:S.lone 4288640128=false:=ah;have a5:∀l:qO,((lN l).all λe=>e.all PV.scalar):=λl=>by simp[PV.scalar]
   have a6:∀l:aG,((bQ l).all λe=>e.all PV.scalar):=λl=>by simp[PV.scalar]
   have bk:∀l:qO,∀e∈lN l,I e=2/\ ∀bg∈e,bg.norm=bg:=λl e he=>by obtain⟨a,_,rfl⟩:=ch.1 he;exact⟨rfl,λbg hv=>by simp at hv;rcases hv with rfl|rfl<;>rfl⟩
   have a2:∀l:aG,∀e∈bQ l,I e=1/\ ∀bg∈e,bg.norm=bg:=λl e he=>by obtain⟨a,_,rfl⟩:=ch.1 he;exact⟨rfl,λbg hv=>by simp at hv;rcases hv with rfl;rfl⟩
   have cW:S.shared 104:=ah;have bc:S.shared 105:=ah;have l8:(z.set x true).take (2*I h)=z.take (2*I h):=alg J;generalize mL F h ((x-2*I h)/2)=PP at*;generalize D6 F h ((x-2*I h)/2)=FF at*;simp only[go_sem,LQ,M,D,L,T,R,A,pN,m2,ye,ws,wq,jG,mx,auq];refine auu (by simp[ab,ac]) Av kQ (a5 _) (a6 _) λc e de hc he Z=>?_;by_cases ff:x%2=0
   case' _=>
    have DZ:((x:Int).tmod 2==1)=false:=by rw[pV,ff];rfl
    rw[aD ff]at MF JL;have hP:=hc;have hE:=he;have Mj:∀i,i≠4288640128->i≠4288640129->de i=blk i:=Z
   rotate_left
   case' _=>
    have DZ:((x:Int).tmod 2==1):=by rw[pV,show x%2=1 by omega];rfl
    rw[aC ff]at MF JL;simp only[go_sem,jG,DZ,M,D,L,T,R,A,pN,cW];refine amV (λo az=>atZ o (by simp only[cg];omega) (bk _) az) aq2 hc ab f1 λbK ib cV=>?_;simp only[go_sem,bc];refine amV (λo az=>apn o (by simp only[cg];omega) (a2 _) az) azu (he.of_eq (cV _ aa)) ac f2 λmO a3 mS=>?_;have hP:bh 4288640128 Gp 2 (lN PP.reverse) (.one c) mO:=by rw[lN,OS];exact ib.of_eq (mS _ aa)
    have hE:bh 4288640129 3 1 (bQ FF.reverse) (.one e) mO:=by rw[bQ,OS];exact a3
    have Mj:∀i,i≠4288640128->i≠4288640129->mO i=blk i:=λi a b=>(mS i b).trans ((cV i a).trans (Z i a b))
   all_goals
    have ad:=(Mj 4288128448 aa aa).trans H.bF;simp only[go_sem,jG,DZ,ad,M,D,L,T,R,A,pN,kF];obtain⟨rP,a4,aO⟩:=hP.elems;refine ajz (by rcases aO with rfl|rfl<;>simp[kp,ab]) (H.gp.of_eq (Mj _ aa aa)) a4 hP.aB (by simp only[cg,nr];omega) λc2 wg r1 u1 jB rT kN=>?_
    have X:=(rT 4288128448 aa aa).trans ad;simp only[go_sem,X,M,D,L,T,R,A,pN,kF];obtain⟨rE,bb,ar⟩:=(hE.of_eq (rT _ aa aa)).elems;refine ajz (by rcases ar with rfl|rfl<;>simp[kf,ac]) (H.gf.of_eq ((rT _ aa aa).trans (Mj _ aa aa))) bb hE.aB (by simp only[cg,nr];omega) λc3 OG r2 u2 aF FP uN=>?_
    have am:=(FP 4288128448 aa aa).trans X;have jI:∀i,i≠4288640128->i≠4288640129->i≠4288896192->i≠4288896448->OG i=blk i:=λi a b c d=>(FP i d d).trans ((rT i c c).trans (Mj i a b));have bf:bh 4288896192 Gp 2 (lN f'.places) (.one c2) OG:=by rw[MF,Qh];exact jB.of_eq (FP _ aa aa)
    have a1:bh 4288896448 3 1 (bQ f'.Bt) (.one c3) OG:=by rw[JL,M8];exact aF
    clear jB aF;cases ho:f.outer;all_goals
     rw[ho]at am;simp only[go_sem,am,M,D,L,T,R,A,pN,kF,w2,YX,Xy,Sf pt];refine⟨?_,?_⟩
     .rcases aO with rfl|rfl<;>rcases ar with rfl|rfl<;>rcases kN with⟨rfl,rfl⟩|⟨rfl,rfl⟩|⟨rfl,rfl⟩<;>rcases uN with⟨rfl,rfl⟩|⟨rfl,rfl⟩|⟨rfl,rfl⟩<;>kernel_rfl
     refine ih (k+1) (aU h x) (z.set x true) f' _ _ cd c2 c3 ?_ ?_ ?_ ?_ ?_ ?_ ?_ ?_ (by rw[j7];exact PQ) (ajC ok yr) dG J J Mx ?_
     .simp only[go_sem,M]
     .simp only[go_sem,D]
     .simp only[go_sem,L]
     .simp only[go_sem,T]
     .simp only[go_sem,R]
     .simp only[go_sem,A]
     .simp only[go_sem]
     .rw[l8];refine⟨?_,?_,?_,?_,?_,?_,?_⟩
      .exact(ct (N rfl).symm).trans ((ct (N rfl).symm).trans ((ct (N rfl).symm).trans ((jI _ (N rfl).symm (N rfl).symm (N rfl).symm (N rfl).symm).trans H.bS)))
      .exact(ct (u rfl).symm).trans ((ct (u rfl).symm).trans ((ct (u rfl).symm).trans ((jI _ (u rfl).symm (u rfl).symm (u rfl).symm (u rfl).symm).trans H.bB)))
      .exact(ct aa).trans ((ct aa).trans ((ct aa).trans ((jI _ aa aa aa aa).trans H.b8)))
      .rw[zI,a0,qy,ho];rfl
      .rw[ap];exact H.gd.of_eq ((ct aa).trans ((ct aa).trans ((ct aa).trans (jI _ aa aa aa aa))))
      .exact bf.of_eq ((ct aa).trans ((ct aa).trans (ct aa)))
      exact a1.of_eq ((ct aa).trans ((ct aa).trans (ct aa)))
     intro aH ao I9 oj Jb q8 NF DJ dN;refine Y aH ao I9 oj Jb (by rw[q8];simp only[go_sem]) (by rw[NF];simp only[go_sem]) DJ λid hn=>?_;have a:∀be,xf be->id≠be:=λbe hy e=>hn (.inl (e▸hy));exact(dN id hn).trans ((ct (a _ rfl)).trans ((ct (a _ rfl)).trans ((ct (a _ rfl)).trans (jI id (a _ rfl) (a _ rfl) (a _ rfl) (a _ rfl)))))
structure bj (F:Nat) (ls:af):Prop where
 ok:gN F ls
 len:I ls<=400
 cr:aq U.ak ls<=200
 fing:F<=40
 ne:ls≠[]
 first:∃l,ls[0]?=some l/\l.ay
 even:aq U.ay ls%2=0
 bad:∀l∈ls,eo F l=false
 chk:dk F ls=0
 nw:fW ls=aq U.ay ls+aq U.ak ls/2+2
theorem Ci{f:Int}(H:dk f h=0)(A:h≠[]):∃F:Nat,f=(F:Int)/\bj F h:=by
 have x:=H;unfold dk at H;by_cases v:400<I h\/200<aq U.ak h
 .rw[aD v]at H;cases H
 rw[aC v]at H;by_cases n:f<0\/40<f
 .rw[aD n]at H;cases H
 rw[aC n,aC A]at H;cases j:oa f h with
 |false=>rw[j]at H;simp at H
 |true=>
  obtain⟨F,rfl⟩:=ns (show 0<=f by omega);refine⟨F,rfl,?_⟩;unfold oa at j;simp only[cP]at j;obtain⟨⟨⟨kU,v2⟩,v3⟩,v4⟩:=j;obtain⟨D,z,E⟩:=Nn.1 v3;have m:∀l∈h,eo F l=false:=λl hl=>by simpa using FM.1 D l hl
  have y:uC F h:=λl hl hp=>((lQ hp).1 (m l hl)).1.1.1;obtain⟨g1,B⟩:=(GB y).1 z;obtain⟨L,u⟩:=aP (gy.2 A);rw[u]at kU;exact⟨⟨J,⟨g1,B⟩,E,λl hl=>zB (m l hl)⟩,J,J,J,A,⟨L,u,kU⟩,by simpa using v2,m,x,by simpa using v4⟩
def aiD(F:Nat)(h:af)(v B:Nat)(x:Nat)(j:gD)(blk:aJ)(y:V)(A:aJ):Prop:=
 ∃f m u n,f=((hJ (aU h) (aT h+1) x j).1).foldl (dL.add F h) (dL.new h x)/\y=.agg [.p (.bool f.gT),m,u,n,.p (.bool f.outer)]/\A v=(B,some (.arr 4 1 (iQ ((hJ (aU h) (aT h+1) x j).2.take (2*I h)))))/\
  bh 4288512256 3 1 (bQ f.di) (.one m) A/\bh 4288896192 Gp 2 (lN f.places) (.one u) A/\bh 4288896448 3 1 (bQ f.Bt) (.one n) A/\d_ (λid=>xf id\/id=v) blk A
def aBQ{al:cF}{F:Nat}{h:af}(ok:gN F h)(hF:F<=1000)(O:∀id,xf id->al.ok id)(oS:al.ok v)(oB:al.ok y)(Q:¬xf v)(Y:¬xf y)(m:v≠y)(f1:al.fs.contains 104)(f2:al.fs.contains 105){j:gD}{blk:aJ}
  (hx:x<2*I h) (PQ:I j=aT h) (dF:PE (aU h) (aT h) j) (ae:j.getD x true=false) (bS:blk v=(B,some (.arr 4 1 (iQ (j.take (2*I h)))))) (bB:blk y=(E,some (.arr 4 1 (iQ (C3 h))))):
  ∃ad A,jQ S 67 [.one (.p (pA F h)),aI x,.one (.hsl v B 1 0 (2*I h)),.one (.hsl y E 1 0 (I h))] al blk ad A/\aiD F h v B x j blk ad A:=by
 have hl:=ok.hl;have jt:I (aA h)<=I h:=xo h (I h);have fN:aT h<=4000000:=by unfold aT;omega
 have L:al.ok 4288000000:=O _ rfl;have M:al.ok 4288128448:=O _ rfl;have wq:=wrap_small (n:=x/2) J;have X:x/2<I h:=J;have z:=tR (aqA X);have f:∀ {a:Nat},xf a->a≠v:=λac e=>Q (e▸ac);have N:∀ {a:Nat},xf a->a≠y:=λac e=>Y (e▸ac);have u:¬(y=4288000000):=λe=>N rfl e.symm
 have BJ:=J0 j;refine oZ as7 (ju rfl) ?_;simp only[go_sem,ak0,bB,u,L,M,oB,jG,mx,wq,X,z];refine⟨aS,?_⟩;refine apL ok hF O (v:=v) (B:=B) (y:=y) (E:=E) (g8:=(blk 4288000000).1+1) (gF:=(blk 4288128448).1+1) (d:=x) oS Q Y m f1 f2 hx (aT h+1) 0 x j (dL.new h x) _ _ (.p .nils) (.p .nils) (.p .nils) ?_ ?_ ?_ ?_ ?_ ?_ ?_ ?_ PQ (by unfold aT;omega) (Inv.start dF ae) J J ⟨cJ _,bZ _,bZ _⟩ ?_
 .simp only[go_sem]
 .simp only[go_sem]
 .simp only[go_sem]
 .simp only[go_sem]
 .simp only[go_sem]
 .simp only[go_sem]
 .simp only[go_sem]
 .refine⟨?_,?_,?_,?_,bh.nil,bh.nil,bh.nil⟩
  .simp only[ct (f (a:=4288000000) rfl).symm,ct (f (a:=4288128448) rfl).symm,bS]
  .simp only[ct (N (a:=4288000000) rfl).symm,ct (N (a:=4288128448) rfl).symm,bB]
  .simp only[go_sem]
  simp only[go_sem,dL.new]
 intro aH A I9 oj Jb T H D Z;simp only[go_sem]at T H;have h8:=D.b8;have hf:=D.bF;simp only[go_sem,aeC,T,H,h8,hf,L,M];refine⟨_,I9,oj,Jb,rfl,rfl,?_,?_,?_,?_,λid R=>?_⟩
 .exact(ct (f rfl).symm).trans D.bS
 .exact D.gd.of_eq (ct aa)
 .exact D.gp.of_eq (ct aa)
 .exact D.gf.of_eq (ct aa)
 have a:∀ab,xf ab->id≠ab:=λab hy e=>R (.inl (e▸hy));refine(ct (a _ rfl)).trans ((Z id R).trans ?_);simp only[ct (a 4288000000 rfl),ct (a 4288128448 rfl)]
def uc{c:bd}{x:PV}{blk:aJ}(h:bh L D H n (.one c) blk):lM blk (.tup [.one c,.one (.p x)])=some (.tup [.one (cU D H n),.one (.p x)]):=by obtain⟨u,o,m,f,j⟩:=h.mH;cases m;rcases j with rfl|rfl<;>simp[lM,v_,yX,qG,oV,f,(show Go.Abs.mH blk (.p x)=some (.p x,[],[])from rfl),qf,zl,vf,D7]
def Wm{blk:aJ}{id g g0 o l f:Nat}(h:blk id=(g0,some (.arr A f n))):qd blk (.one (.hsl id g z o l))=[id]:=(JJ h:oH blk 6 (.hsl id g z o l)=[id])
def azh:(S.sites 67).contains 67:=ah
def ayz:(S.sites 67).contains 104:=ah
def ap0:(S.sites 67).contains 105:=ah
def acT{S:gD}{n k:Nat}{b:Bool}(H:k<n)(j:n<=I S)(h:S.getD k true=b):(S.take n)[k]?=some b:=by rw[p_,aD H];rw[dD]at h;obtain⟨c,f⟩:=aP (show k<I S by omega);rw[f]at h |-;exact congrArg some h
def avs(g:bj F h):aL S 39 [eU F h] (.tup [.one (cU CE 5 (sq (fZ F h))),.one (.p (.int .i64 0))]):=by
 have ok:=g.ok;have hl:=ok.hl;have hF:F<=1000:=by have:=g.fing;omega
 have jt:I (aA h)<=I h:=xo h (I h);have ap:=g.len;have fN:aT h<=4000000:=by unfold aT;omega
 have u:2*I h<=aT h:=by unfold aT;omega
 have pr:=SM F h hl;rw[NI g.chk,aC g.ne,js]at pr;have pb:=aCa ok;have hm:=mE ok;have m2:=rQ (a:=I h) J;have nE:2*I h<=140737488355328:=J;have zu:List.replicate (2*I h) [PV.bool false]=iQ ((ft (aU h) (aT h) 0).2.take (2*I h)):=by show _=iQ ((List.replicate (aT h) false).take (2*I h));rw[List.take_replicate,yO u];simp
 have ab:∀blk:aJ,fR blk [] 2496384064 ((RV.one (.own 4 1 (iQ (C3 h)))).iA (S.lone 2496384064))=some (.one (.hsl 2496384064 ((blk 2496384064).1+1) 1 0 (I h)),[(2496384064,((blk 2496384064).1+1,some (.arr 4 1 (iQ (C3 h)))))]):=by intro blk;rw[show S.lone 2496384064=false by kernel_rfl];show some (V.one (.hsl 2496384064 ((blk 2496384064).1+1) 1 0 (I (iQ (C3 h)))),_)=_;rw[show(iQ (C3 h)).length=I h by simp[vM]];rfl
 have ie:S.shared 67:=ah;refine cG adB ?_;simp only[go_sem,acs,Pv,cE pr dX,aiy,cE pb (ab _),m2,nE,zu];refine dt (λk m blk=>m 4=.one (.p (pA F h))/\m 7=.one (.hsl 2496320448 1 1 0 (2*I h))/\m 8=.one (.hsl 2496384064 1 1 0 (I h))/\m 29=aI ((2*I h:Nat):Int)/\m 30=aI k/\
   blk 2496320448=(1,some (.arr 4 1 (iQ ((ft (aU h) (aT h) k).2.take (2*I h)))))/\blk 2496384064=(1,some (.arr 4 1 (iQ (C3 h))))/\
   ∃O,m 6=.one O/\bh 2496704448 CE 5 (sq ((ft (aU h) (aT h) k).1.map (kY F h))) (.one O) blk) 0 (2*I h) (bZ _) ?_ ?_
 .simp only[go_sem];first|exact⟨rfl,rfl,rfl,_,rfl,.inl ⟨rfl,rfl⟩⟩|exact⟨rfl,rfl,_,rfl,.inl ⟨rfl,rfl⟩⟩|exact⟨rfl,_,rfl,.inl ⟨rfl,rfl⟩⟩|exact⟨rfl,rfl,rfl,rfl,_,rfl,.inl ⟨rfl,rfl⟩⟩
 rintro k m blk hk ⟨H,B,j,M,E,bS,bB,O,N,Q⟩
 by_cases A:k<2*I h
 .have aM:((k:Int)<((2*I h:Nat):Int)):=J;have w1:=cS (n:=k) J;obtain⟨dF,_⟩:=RJ hm k J;have Z:=Ie (aU h) (aT h) k;have HB:=N0 (aU h) (aT h) k;have D:=Ad (aU h) (aT h) k;generalize hw:ft (aU h) (aT h) k=st at*;obtain⟨o,L⟩:=st;simp only at dF Z HB bS Q;unfold xl at D;cases ae:L.getD k true with
  |true=>simp only[ae,if_true]at D;have X:=tR (acT A J ae);simp only[go_sem,PU,H,N,B,j,M,E,bS,bB,A,aM,X,w1,D];exact⟨O,rfl,Q⟩
  |false=>
   simp only[ae,fE,if_false,Z]at D;have X:=tR (acT A J ae);obtain⟨t,ht⟩:=akD (aU h) (k:=aT h) ae;have BG:((hJ (aU h) (aT h+1) k L).1).foldl (dL.add F h) (dL.new h k)=kY F h (hJ (aU h) (aT h+1) k L).1:=by unfold kY;rw[ht];rfl
   have gH:=asA (F:=F) (t:=t) A;rw[<-ht]at gH;simp only[go_sem,PU,H,N,B,j,M,E,bS,bB,A,aM,X,w1,ie];have z:qd blk (.one (.hsl 2496320448 1 1 0 (2*I h)))=[2496320448]:=Wm bS;have QE:qd blk (.one (.hsl 2496384064 1 1 0 (I h)))=[2496384064]:=Wm bB;refine xB (P:=aiD F h 2496320448 1 k L blk) Cd (aBQ ok hF (λid T=>O8 (by rw[T];exact azh)) (Ep ?_) (Ep ?_) aa aa aa ?_ ?_ A Z dF ae bS bB) ?_
   .simp only[eZ,xX,z,QE];simp
   .simp only[eZ,xX,z,QE];simp
   .exact ayz
   .exact ap0
   rintro v de ⟨f,cd,cp,cf,hf,rfl,ag,gd,gp,gf,dN⟩
   rw[BG]at hf;rw[<-hf]at gH;have OD:=(dN 2496384064 aa).trans bB;have x:=Q.of_eq (dN 2496704448 aa);have qy:sq (o.map (kY F h))++[f.ps]=sq ((ft (aU h) (aT h) (k+1)).1.map (kY F h)):=by rw[D,hf];simp
   have Y:(ft (aU h) (aT h) (k+1)).2=(hJ (aU h) (aT h+1) k L).2:=by rw[D]
   have am:I (sq (o.map (kY F h)))<=k:=by simpa using HB
   generalize sq (o.map (kY F h))=ao at x qy am;have y:=gd;rcases gd with⟨e,_⟩|⟨_,gg,e,BC⟩
   .simp at e;exact absurd e gH
   cases e;simp only[go_sem,H,N,B,j,M,E,auj];rw[cg]at y;obtain⟨fr,hx,BE,DN⟩:=aCs (blk:=dV de 2496704384 ((de 2496704384).1+1,some (.lh CE 5 [[.p (.bool f.gT),.hsl 4288512256 gg 1 0 (I f.di),cp,cf,.p (.bool f.outer)]]))) (s:=2496704384) zI (y.of_eq (ct aa)) (gp.of_eq (ct aa)) (gf.of_eq (ct aa));have R:∀i,i≠4288512256->i≠4288896192->i≠4288896448->i∉fr:=λi a b c T=>by
    rcases DN i T with T|T|T
    .exact a T
    .exact b T
    exact c T
   refine apV (m:=2496704448) (id:=2496704448) (bytes:=88) (x.of_eq (ct aa)) hx BE (R _ aa aa aa) (R _ aa aa aa) (.inl rfl) (by simp only[fP,ga];omega) λc bK hc cV=>?_;have ac:=(cV 2496320448 aa aa (R _ aa aa aa)).trans ((ct aa).trans ag);have ad:=(cV 2496384064 aa aa (R _ aa aa aa)).trans ((ct aa).trans OD);simp only[go_sem,H,N,B,j,M,E,ac,ad,w1,A,Y];refine⟨c,rfl,?_⟩;rw[<-qy];exact hc
 have:k=2*I h:=J;subst this;simp only[go_sem,PU,XC,H,N,B,j,M,E,fF];have:=aaa hm (aT h) u (cJ _);unfold fZ gW;rw[this];exact uc Q
structure aN where
 l:U
 d:Bool
abbrev aW:=List aN
def aN.ps(p:aN):dW:=[.int .i64 p.l.kind,.int .i64 p.l.gate,.int .i64 p.l.au,.int .i64 p.l.id,.int .i64 p.l.sign,.bool p.l.over,.bool p.d]
abbrev dP(o:aW):dI:=o.map aN.ps
abbrev mI:Nat:=87
def ij:U:=⟨0,0,0,0,0,false⟩
def an(h:af):aW:=(List.range (I h)).map λi=>⟨h.getD i ij,c9 h i⟩
theorem bY(h:af):I (an h)=I h:=by simp[an]
def fX{i:Nat}{l:U}(H:h[i]?=some l):(an h)[i]?=some ⟨l,c9 h i⟩:=by have:=(bt.1 H).1;simp[an,fz,tX this,wy,dD,H,nM]
def jR{o:aW}{k:Nat}{p:aN}(h:o[k]?=some p):(dP o)[k]?=some p.ps:=by simp[h]
def sA(L:aG)(D:aG)(v:Nat):aG:=D.foldl (λL d=>L.set d v) L
def rI:D1->Nat->aG->aG
 |[],_,L=>L
 |f::r,j,L=>rI r (j+1) (sA L f.di j)
def kX(F:Nat)(h:af):aG:=rI (fZ F h) 0 (List.replicate (2*I h) 0)
def SX(L D:aG)(v:Nat):I (sA L D v)=I L:=by
 induction D generalizing L with
 |nil=>rfl
 |cons d D f=>show(sA _ D v).length=_;rw[f];simp
def aye(L a b:aG)(v:Nat):sA L (a++b) v=sA (sA L a v) b v:=by simp[sA]
def Rt(fs:D1):∀(j:Nat) (L:aG),I (rI fs j L)=I L:=by
 induction fs with
 |nil=>intro j L;rfl
 |cons f r h=>intro j L;show(rI r _ _).length=_;rw[h,SX]
def avU(a:D1)(f:dL):∀(j:Nat) (L:aG),rI (a++[f]) j L=sA (rI a j L) f.di (j+I a):=by
 induction a with
 |nil=>intro j L;rfl
 |cons g r h=>intro j L;show rI (r++[f]) _ _=_;rw[h];simp[rI];congr 1;omega
def avc(F:Nat)(h:af):∀(w:aG) (f:dL),(w.foldl (dL.add F h) f).di=f.di++w.filter (λx=>decide (x<2*I h)):=by
 intro w
 induction w with
 |nil=>intro f;simp
 |cons x w j=>
  intro f;rw[CM,j]
  grind [dL.add]
theorem zM(F:Nat)(h:af)(w:aG):(kY F h w).di=w.filter (λx=>decide (x<2*I h)):=by unfold kY;rw[avc];rfl
def aag(j:f∈fZ F h):∀d∈f.di,d<2*I h:=by
 obtain⟨w,_,rfl⟩:=ch.1 j;intro d H;rw[zM]at H
 grind
def YK(ok:gN F h)(j:f∈fZ F h):I f.di<=aT h:=by obtain⟨w,H,rfl⟩:=ch.1 j;rw[zM];exact oO (Xc _ _) (AY ok w H).2.1
def ahP(F:Nat)(h:af):I (fZ F h)=fW h:=by simp[fZ,fW]
def NS{o:D1}{k:Nat}{p:dL}(h:o[k]?=some p):(sq o)[k]?=some p.ps:=by simp[h]
abbrev eK(F:Nat)(ls:af):PV:=.box [.int .i64 F,.sl (dP (an ls)),.sl (sq (fZ F ls)),.sl (bQ (kX F ls)),.int .i64 (aq U.ay ls:Nat),.int .i64 ((aq U.ak ls/2:Nat):Int),.sl (bQ (gK ls F))]
abbrev ON(F:Nat)(ls:af)(pc cf:bd):eO:=[.p (.int .i64 F),pc,cf,.hsl 1280256448 1 1 0 (2*I ls),.p (.int .i64 (aq U.ay ls:Nat)),.p (.int .i64 ((aq U.ak ls/2:Nat):Int)),.hsl 1280256960 1 1 0 (F+1)]
def arR{F:Nat}{h:af}(g:bj F h){pc u:bd}{blk:aJ}(h4:m 4=.one u)(h6:m 6=.one (.bR 1280257088 1 0))
  (bB:blk 1280257088=(1,some (.var (ON F h pc u)))) (B:blk 1280256448=(1,some (.arr 3 1 (bQ (List.replicate (2*I h) 0))))) (E:blk 1280256960=(1,some (.arr 3 1 (bQ (gK h F))))) (gp:bh 1280896448 mI 7 (dP (an h)) (.one pc) blk) (gf:bh 1280064064 CE 5 (sq (fZ F h)) (.one u) blk)
  (hq:∀x A,x 6=m 6->A 1280257088=(1,some (.var (ON F h pc u)))->A 1280256448=(1,some (.arr 3 1 (bQ (kX F h))))->A 1280256960=(1,some (.arr 3 1 (bQ (gK h F))))->bh 1280896448 mI 7 (dP (an h)) (.one pc) A->bh 1280064064 CE 5 (sq (fZ F h)) (.one u) A->W S .all St Q x A):
  W S .all Vi Q m blk:=by
 have ok:=g.ok;have hl:=ok.hl;have am:=g.len;have jt:I (aA h)<=I h:=xo h (I h);have fN:aT h<=4000000:=by unfold aT;omega
 have rU:I (fZ F h)<=aT h:=by rw[fZ,cg];exact N0 (aU h) (aT h) _
 obtain⟨g0,YT⟩:∃v,u=.hsl 1280064064 v 5 0 (I (fZ F h)):=by
  rcases gf with⟨e,_⟩|⟨_,v,e,hb⟩
  .have h1:I (fZ F h)=0:=by simpa using congrArg List.length e
   rw[ahP,g.nw]at h1;omega
  cases e;exact⟨v,by rw[cg]⟩
 have Af:=h4;rw[YT]at Af;simp only[go_sem,Vi,Af];refine dt (λk x A=>x 6=m 6/\x 78=.one u/\x 79=aI (I (fZ F h))/\x 80=aI k/\A 1280257088=(1,some (.var (ON F h pc u)))/\A 1280256448=(1,some (.arr 3 1 (bQ (rI ((fZ F h).take k) 0 (List.replicate (2*I h) 0)))))/\A 1280256960=(1,some (.arr 3 1 (bQ (gK h F))))/\
   bh 1280896448 mI 7 (dP (an h)) (.one pc) A/\bh 1280064064 CE 5 (sq (fZ F h)) (.one u) A) 0 (I (fZ F h)) (bZ _) ?_ ?_
 .simp only[go_sem,bB,B,E,rI,YT];exact⟨rfl,gp,by first|exact gf|(rw[<-YT];exact gf)⟩
 rintro k x A hk ⟨Z,ab,y,H,bB,B,E,gp,gf⟩
 rw[h6]at Z;by_cases aw:k<I (fZ F h)
 .have aM:((k:Int)<(I (fZ F h):Int)):=J;obtain⟨f,hf⟩:=aP aw;have mX:=a7 hf;have zi:=YK ok mX;have DM:=aag mX;have w1:=cS (n:=k) J;have l8:rI ((fZ F h).take (k+1)) 0 (List.replicate (2*I h) 0)=sA (rI ((fZ F h).take k) 0 (List.replicate (2*I h) 0)) f.di k:=by
   rw[k_,hf];show rI (_++[f]) 0 _=_;rw[avU,jO,yO J,jN]
  have T:I (rI ((fZ F h).take k) 0 (List.replicate (2*I h) 0))=2*I h:=by rw[Rt,Ph]
  generalize rI ((fZ F h).take k) 0 (List.replicate (2*I h) 0)=L at B l8 T;obtain⟨v,zh,bf⟩:∃v,u=.hsl 1280064064 v 5 0 (I (sq (fZ F h)))/\A 1280064064=(v,some (.arr CE 5 (sq (fZ F h)))):=by
   rcases gf with⟨e,_⟩|⟨_,v,e,hb⟩
   .grind
   cases e;exact⟨v,rfl,hb⟩
  rw[cg]at zh;have YO:=ab;rw[zh]at YO;simp only[go_sem,Sp,Z,YO,y,H,bB,B,E,bf,NS hf,dL.ps,aw,aM];refine dt (λj D z=>D 6=.one (.bR 1280257088 1 0)/\D 11=aI k/\D 78=.one u/\D 79=aI (I (fZ F h))/\D 80=aI k/\D 86=.one (.p (.sl (bQ f.di)))/\D 87=aI (I f.di)/\D 88=aI j/\
   z 1280257088=(1,some (.var (ON F h pc u)))/\z 1280256448=(1,some (.arr 3 1 (bQ (sA L (f.di.take j) k))))/\z 1280256960=(1,some (.arr 3 1 (bQ (gK h F))))/\bh 1280896448 mI 7 (dP (an h)) (.one pc) z/\bh 1280064064 CE 5 (sq (fZ F h)) (.one u) z) 0 (I f.di) (bZ _) ?_ ?_
  .simp only[go_sem,Z,zh,YO,y,H,bB,B,E,sA,Nb];refine⟨rfl,gp.of_eq (ct aa),?_⟩;first|exact gf.of_eq (ct aa)|(rw[<-zh];exact gf.of_eq (ct aa))
  rintro j D z hj ⟨p6,Y,M,O,ad,X,N,ac,cB,tj,cC,cp,aV⟩
  by_cases rW:j<I f.di
  .have F0:((j:Int)<(I f.di:Int)):=J;obtain⟨d,hd⟩:=aP rW;have R:=DM d (a7 hd);have w2:=cS (n:=j) J;have iE:(sA L (f.di.take j) k).set d k=sA L (f.di.take (j+1)) k:=by rw[k_,hd,aye];rfl
   have iK:=KR (sA L (f.di.take j) k) d k;rw[iE]at iK;obtain⟨v0,ag⟩:=aP (h:=sA L (f.di.take j) k) (by rw[SX,T];exact R);simp only[go_sem,XP,p6,Y,M,O,ad,X,N,ac,cB,tj,cC,rW,F0,jy hd,R,jy ag,iK,w2];exact⟨cp.of_eq (ct aa),aV.of_eq (ct aa)⟩
  have:j=I f.di:=J;subst this;rw[jZ,<-l8]at tj;simp only[go_sem,XP,afK,p6,Y,M,O,ad,X,N,ac,cB,tj,cC,fF,w1,aw,h6];exact⟨cp,aV⟩
 have:k=I (fZ F h):=J;subst this;rw[jZ]at B;simp only[go_sem,Sp,Z,ab,y,H,fF];exact hq _ _ (by simp only[go_sem,Z,h6]) bB B E gp gf
def abm(g:bj F h):aL S 20 [eU F h] (x_ (eK F h) (.int .i64 0)):=by
 have ok:=g.ok;have hl:=ok.hl;have ag:=g.len;have uK:=g.fing;have pf:=avs g;have ad:=abY F h hl;have tS:=als F h hl;have lo:S.lone 1280064064=false:=ah;have m2:=rQ (a:=I h) J;have wF:=cS (n:=F) J;have r1:2*I h*8<=140737488355328:=J;have r2:(F+1)*8<=140737488355328:=J;have e1:List.replicate (2*I h) [PV.int .i64 0]=bQ (List.replicate (2*I h) 0):=aE;have e2:List.replicate (F+1) [PV.int .i64 0]=bQ (s7 h F 0):=by rw[W9];simp
 refine cG aj5 ?_;simp only[go_sem,i20,ahu];refine aim pf lo λcf mq zh iD=>?_;have OB:=iD 1280000000 aa;simp only[go_sem]at OB;simp only[go_sem,OB,m2,wF,r1,r2,Y0,akq,pG ad,pG tS,e1,e2];refine⟨aS,?_⟩;have Z:=λj a b=>(iD j a).trans (ct b);have H:=Z 1280256448 aa aa;have z2:=Z 1280256960 aa aa;have z3:=Z 1280257088 aa aa;refine dt (λk m blk=>m 4=.one cf/\m 6=.one (.bR 1280257088 1 0)/\m 7=i_ (dn h k)/\m 42=.one (.p (gC h))/\m 43=aI (I h)/\m 44=aI k/\
   blk 1280256448=(1,some (.arr 3 1 (bQ (List.replicate (2*I h) 0))))/\blk 1280256960=(1,some (.arr 3 1 (bQ (s7 h F k))))/\
   ∃pc,blk 1280257088=(1,some (.var (ON F h pc cf)))/\bh 1280896448 mI 7 (dP ((an h).take k)) (.one pc) blk/\bh 1280064064 CE 5 (sq (fZ F h)) (.one cf) blk) 0 (I h) (bZ _) ?_ ?_
 .simp only[go_sem,H,z2,z3];refine⟨rfl,rfl,.p .nils,rfl,.inl ⟨rfl,rfl⟩,zh.of_eq ?_⟩;simp only[go_sem]
 rintro k m blk hk ⟨z,x,Q,N,X,R,E,y,pc,bB,gp,gf⟩
 by_cases O:k<I h
 .obtain⟨l,f⟩:=aP O;have hi:=jh f;have aM:((k:Int)<(I h:Int)):=J;have w1:=cS (n:=k) J;have Y:=fX f;cases hp:(l.kind==1)
  case' false=>
   have v:l.ay=false:=hp;have nU:c9 h k=false:=by simp[c9,f,v]
   rw[nU]at Y;have hd:=Jc f v;have wP:=aiF (F:=F) f v;have l8:dP ((an h).take (k+1))=dP ((an h).take k)++[(aN.mk l false).ps]:=by rw[k_,Y];simp
   simp only[go_sem,Mr,z,x,Q,N,X,R,hi,eR,U.ps,aM,O,hp,bB,E,y];refine s_ (B:=[(aN.mk l false).ps]) (rd:=[1280896384]) (gp.of_eq (by simp only[ct,bG,Nat.reduceEqDiff,if_false])) (by simp[hU,bG,aN.ps]) (.inl rfl) (by simp only[cg,fP,ga,jO,bY];omega) λc de r u hc M hr=>?_;have A:∀i,i≠1280896448->i≠1280896384->i≠1280576128->i≠1280512128->i≠1280256960->de i=blk i:=λi a b c d e=>(M i a a).trans (by simp only[bG,aC b,aC c,aC d,aC e]);have T:=(M 1280256960 aa aa);simp only[bG,Nat.reduceEqDiff,if_false,if_true,y]at T;have OD:=(A 1280257088 aa aa aa aa aa).trans bB;have B:=(A 1280256448 aa aa aa aa aa).trans E;simp only[go_sem,z,x,Q,N,X,R,OD,B,T,w1,hd,wP,O]
  case' true=>
   have v:l.ay:=hp;have nU:c9 h k=dn h k:=by simp[c9,f,v]
   rw[nU]at Y;have hd:=Ez f v;have l8:dP ((an h).take (k+1))=dP ((an h).take k)++[(aN.mk l (dn h k)).ps]:=by rw[k_,Y];simp
   have Cx:=ok.ax.fA l (a7 f) v;obtain⟨G,hG⟩:=ns Cx.g0;have wM:G<=F:=by have:=Cx.g1;omega
   have BA:G<F+1:=J;have ow:=jy (alN (h:=h) (k:=k) wM);have dF:aV (h.take k) G<=k:=Bb _ _ _;have w2:=cS (n:=aV (h.take k) G) J;have L:=KR (s7 h F k) G (aV (h.take k) G+1);rw[<-ahn f v hG]at L;simp only[go_sem,Mr,z,x,Q,N,X,R,hi,eR,U.ps,aM,O,hp,hG,bB,E,y,ow,BA,w2,L];refine⟨aS,?_⟩;refine s_ (B:=[(aN.mk l (dn h k)).ps]) (rd:=[1280896384]) (gp.of_eq (by simp only[ct,bG,Nat.reduceEqDiff,if_false])) (by simp[hU,bG,aN.ps,hG]) (.inl rfl) (by simp only[cg,fP,ga,jO,bY];omega) λc de r u hc M hr=>?_;have A:∀i,i≠1280896448->i≠1280896384->i≠1280576128->i≠1280512128->i≠1280256960->de i=blk i:=λi a b c d e=>(M i a a).trans (by simp only[bG,aC b,aC c,aC d,aC e])
   have T:=(M 1280256960 aa aa);simp only[bG,Nat.reduceEqDiff,if_false,if_true,y]at T;have OD:=(A 1280257088 aa aa aa aa aa).trans bB;have B:=(A 1280256448 aa aa aa aa aa).trans E;simp only[go_sem,z,x,Q,N,X,R,OD,B,T,w1,hd,O]
  all_goals
   refine⟨?_,?_⟩
   .rcases hr with⟨rfl,rfl⟩|⟨rfl,rfl⟩|⟨rfl,rfl⟩<;>kernel_rfl
   refine⟨c,rfl,?_,?_⟩
   .rw[l8];exact hc.of_eq (ct aa)
   exact gf.of_eq ((ct aa).trans (A _ aa aa aa aa aa))
 have:k=I h:=J;subst this;rw[f_ (by rw[bY];exact cJ _)]at gp;rw[XL]at y;simp only[go_sem,Mr,z,x,Q,N,X,R,fF];refine arR g ?_ ?_ bB E y gp gf ?_
 .simp only[go_sem,z]
 .simp only[go_sem,x]
 intro aH ao q6 cB tj cC ac ab;simp only[go_sem,x]at q6;obtain⟨rp,np,_⟩:=ac.abk (n:=4);obtain⟨rf,nf,_⟩:=ab.abk (n:=4);have D:List.take (2*I h) (bQ (kX F h))=bQ (kX F h):=f_ (by simp[kX,Rt]);have t2:List.take (F+1) (bQ (gK h F))=bQ (gK h F):=f_ (by simp[gK]);have n1:2*I h<=I (kX F h):=by simp[kX,Rt]
 have n2:F+1<=I (gK h F):=by simp[gK]
 simp only[go_sem,St,q6];simp only[go_sem,lM,v_,yX,qG,oV,mH,cB,tj,cC,np,nf,D,t2,n1,n2];rfl
def nj{x:Int}(n: -9223372036854775808<=x)(m:x<=9223372036854775807):IntKind.i64.wrap x=x:=by
 have e:(2 ^ IntKind.i64.bits:Int)=18446744073709551616:=aa;have E:(2 ^ (IntKind.i64.bits-1):Int)=9223372036854775808:=aa;unfold IntKind.wrap;simp only[e,E];by_cases h:0<=x
 .have f:x%18446744073709551616=x:=J;rw[f];have H:¬x≥9223372036854775808:=J;simp[H]
 have f:x%18446744073709551616=x+18446744073709551616:=J;rw[f];have H:x+18446744073709551616≥9223372036854775808:=J;have j:IntKind.i64.signed:=rfl;simp[H,j]
def OQ(l:aW):aB 7 (dP l):=by simp[aB,aN.ps]
def yK(l:aW):((dP l).all λe=>e.all PV.scalar):=by simp[aN.ps,PV.scalar]
def avb(l:aW):∀e∈dP l,I e=7/\ ∀v∈e,v.norm=v:=λe H=>by obtain⟨a,_,rfl⟩:=ch.1 H;exact⟨rfl,λv h=>by simp[aN.ps]at h;rcases h with rfl|rfl|rfl|rfl|rfl|rfl|rfl<;>rfl⟩
abbrev dK(l x:aW)(k:Nat):aW:=l.take (k+1)++x++l.drop (k+1)
def Rv(a b:aW):dP (a++b)=dP a++dP b:=aE
def GI(l x:aW)(k:Nat)(y:k<I l)(hl:I l<=1000000)(v:I x<=1000000):
  aL S 112 [.one (.p (.sl (dP l))),aI k,.one (.p (.sl (dP x)))] (.one (cU mI 7 (dP (dK l x k)))):=by
 have f:=cS (n:=k) J;have D:k+1<=I l:=J;have ae:=OQ l;have j:List.take (k+1) (dP l)=dP (l.take (k+1)):=by simp[sC]
 have H:List.take (I l-(k+1)) (List.drop (k+1) (dP l))=dP (l.drop (k+1)):=by rw[f_ aE];simp[vv]
 refine cG anr ?_;simp only[go_sem,alf,f,D,ae,j];refine re (id:=7168064256) (m:=7168064256) (bytes:=56) bh.nil (B:=dP (l.take (k+1))) (rd:=[]) rfl (.inr (OQ _)) (by simp;omega) λc1 A g1 E=>?_;simp only[go_sem,f,D,ae];refine re (id:=7168064256) (m:=7168128128) (bytes:=56) g1 (B:=dP x) (rd:=[]) rfl (.inr (OQ _)) (by simp;omega) λu B m z=>?_;simp only[go_sem,f,D,ae,H];refine re (id:=7168128128) (m:=7168192320) (bytes:=56) m (B:=dP (l.drop (k+1))) (rd:=[]) rfl (.inr (OQ _)) (by simp;omega) λc3 F h M=>?_;simp only[go_sem];rw[fB,<-Rv,<-Rv]at h;exact ve h
def azj(p:aN)(t:aW)(hl:I (p::t)<=1000000):aL S 111 [.one (.p (.sl (dP (p::t))))] (.one (cU mI 7 (dP (p::t)))):=by
 have ae:=OQ (p::t);have h:(0+I (dP (p::t)))*56<=mN:=by unfold mN;rw[cg];omega
 refine cG ao3 ?_;obtain⟨E,n,hq⟩:∃E n,dP (p::t)=E::n:=⟨_,_,rfl⟩;rw[hq]at ae h |-;have f:E::n≠[]:=aE;have A:cU mI 7 (E::n)=.own mI 7 (E::n):=aC f;rw[A];unfold mN at h;simp only[jN,fP]at h;simp only[aB,wE]at ae;simp only[go_sem,aha,ai,aB];simp only[ae,h,not_true_eq_false,if_true,if_false];simp only[go_sem,ai,aB];exact Nh zI rfl
def cW(g A b:Int)(p:aN):aN:=if(p.l.kind==1)&&((p.l.gate==g)&&decide (A<p.l.au))then{p with l:={p.l with au:=p.l.au+b}}else p
abbrev dO(l:aW)(g ab b:Int):aW:=l.map (cW g ab b)
def atC(id:Nat)(n:dI)(c:bd)(blk:aJ)(v:V)(A:aJ):Prop:=v=.tup []/\bh id mI 7 n (.one c) A/\d_ (· =id) blk A
def ar1{al:cF}{blk:aJ}{id:Nat}{l:aW}{c:bd}{g A b:Int}(o:l=[]\/al.ok id)(hl:I l<=1000000)(hb: -100<=b/\b<=100)(hr:∀p∈l,-1000000<=p.l.au/\p.l.au<=1000000)(h:bh id mI 7 (dP l) (.one c) blk):
  ∃v f,jQ S 109 [.one c,aI g,aI A,aI b] al blk v f/\atC id (dP (dO l g A b)) c blk v f:=by
 refine oZ as1 (ju rfl) ?_;rcases h with⟨j,H⟩|⟨Y,X,H,hC⟩
 .cases H;have Hx:l=[]:=by simpa using j
  subst Hx;have hz:¬(((0:Nat):Int)<((0:Nat):Int)):=J;simp only[go_sem,ZZ,ai,aB];refine dt (λk m f=>k=0/\m 10=aI ((0:Nat):Int)/\m 11=aI ((0:Nat):Int)/\f=blk) 0 0 (cJ _) ?_ ?_
  .simp only[go_sem];exact rfl
  rintro k m f _ ⟨rfl,F,Q,rfl⟩
  simp only[go_sem,Ib,F,Q,hz,ai,aB];exact⟨rfl,.inl ⟨rfl,rfl⟩,λ_ _=>rfl⟩
 cases H;have o:=o.resolve_left (by simpa using Y);simp only[go_sem,ZZ,ai,aB];refine dt (λk m f=>m 0=.one (.hsl id X 7 0 (I l))/\m 1=aI g/\m 2=aI A/\m 3=aI b/\m 10=aI (I l)/\m 11=aI k/\f id=(X,some (.arr mI 7 (dP ((dO (l.take k) g A b)++l.drop k))))/\d_ (· =id) blk f) 0 (I l) (bZ _) ?_ ?_
 .simp only[go_sem,hC];refine⟨?_,?_⟩
  .simp[dO]
  exact d_.refl _ _
 rintro k m f hk ⟨E,j,H,N,F,Q,u,B⟩
 by_cases L:k<I l
 .have R:((k:Int)<(I l:Int)):=J;obtain⟨p,hp⟩:=aP L;have O:=cS (n:=k) J;obtain⟨r1,r2⟩:=hr p (a7 hp);have wr:=nj (x:=p.l.au+b) J J;have wQ:l.drop k=p::l.drop (k+1):=by
   obtain⟨Z,rfl⟩:=bt.1 hp;exact YN Z
  have M:I ((dO (l.take k) g A b)++l.drop k)=I l:=by simp[dO];omega
  have jU:((dO (l.take k) g A b)++l.drop k)[k]?=some p:=by
   rw[qQ (by simp[dO];omega)];have:k-I (dO (l.take k) g A b)=0:=by simp[dO];omega
   rw[this,wQ];rfl
  have iE:((dO (l.take k) g A b)++l.drop k).set k (cW g A b p)=(dO (l.take (k+1)) g A b)++l.drop (k+1):=by
   have e1:I (dO (l.take k) g A b)=k:=by simp[dO];omega
   rw[Oe _ _ J,e1,xt,wQ,XH,k_,hp];simp[dO]
  have D:=jR jU;have y:dP (((dO (l.take k) g A b)++l.drop k).set k (cW g A b p))=(dP ((dO (l.take k) g A b)++l.drop k)).set k (cW g A b p).ps:=by simp[dP,Ew]
  rw[iE]at y;have T:cW g A b p=p->dP ((dO (l.take k) g A b)++l.drop k)=dP ((dO (l.take (k+1)) g A b)++l.drop (k+1)):=λe=>by rw[y,e];obtain⟨Z,he⟩:=bt.1 D;rw[<-he,Z_]
  generalize(dO (l.take k) g A b)++l.drop k=m at u jU D y T M;have fj:k<I (dP m):=by rw[cg];omega
  cases c1:(p.l.kind==1)with
  |false=>have e:=T (by unfold cW;rw[c1];rfl);simp only[go_sem,Ib,E,j,H,N,F,Q,u,D,aN.ps,L,R,c1,O,o,ai,aB];exact⟨by rw[e],B⟩
  |true=>
   cases z:(p.l.gate==g)with
   |false=>have e:=T (by unfold cW;rw[c1,z];rfl);simp only[go_sem,Ib,E,j,H,N,F,Q,u,D,aN.ps,L,R,c1,z,O,o,ai,aB];exact⟨by rw[e],B⟩
   |true=>
    by_cases c3:A<p.l.au
    .have e:(cW g A b p).ps=[.int .i64 p.l.kind,.int .i64 p.l.gate,.int .i64 (p.l.au+b),.int .i64 p.l.id,.int .i64 p.l.sign,.bool p.l.over,.bool p.d]:=by unfold cW;rw[c1,z,tV c3];rfl
     rw[e]at y;simp only[go_sem,Ib,E,j,H,N,F,Q,u,D,aN.ps,L,R,c1,z,c3,O,wr,o,fj,ai,aB];refine⟨?_,?_⟩
     .first|rw[y]|(rw[y];rfl)
     exact B.dV rfl _
    have e:=T (by unfold cW;rw[c1,z,vg c3];rfl);simp only[go_sem,Ib,E,j,H,N,F,Q,u,D,aN.ps,L,R,c1,z,c3,O,o,ai,aB];exact⟨by rw[e],B⟩
 have:k=I l:=J;subst this;simp only[go_sem,Ib,E,j,H,N,F,Q,fF,ai,aB];refine⟨rfl,?_,B⟩;rw[jZ,Lx,ic]at u;exact .inr ⟨by simpa using Y,X,by simp[dO],u⟩
def Bi(p:aN):Bool:=(p.l.kind==1)&&p.d
def Uk(l:aW)(i:Nat):Bool:=match l[i]? with|some p=>Bi p|none=>false
def H4{l:aW}{i:Nat}{p:aN}(h:l[i]?=some p):Uk l i=Bi p:=by simp[Uk,h]
def ue(l:aW):eT:=(List.range (I l)).find? (Uk l)
def aAz(p:aN):aL S 79 [.agg (p.ps.map .p)] (fv (Bi p)):=by
 refine cG azT ?_;unfold Bi;cases h:(p.l.kind==1)with
 |true=>simp only[go_sem,Xa,aN.ps,h,ai,aB]
 |false=>simp only[go_sem,Xa,aN.ps,h,ai,aB]
def ax7(l:aW)(hl:I l<=1000000):aL S 78 [.one (.p (.sl (dP l))),.one (.p (.fn 79 [] []))] (jr (match ue l with|some k=>(k:Int)|none=> -1)):=by
 refine cG asE ?_;simp only[go_sem,alp,ai,aB];refine dt (λk m blk=>m 0=.one (.p (.sl (dP l)))/\m 1=.one (.p (.fn 79 [] []))/\m 7=aI (I l)/\m 8=aI k/\ ∀j,j<k->Uk l j=false) 0 (I l) (bZ _) ?_ ?_
 .simp only[go_sem];exact⟨rfl,λj E=>absurd E (o6 j)⟩
 rintro k m blk F ⟨H,u,v,h,y⟩
 by_cases A:k<I l
 .have z:((k:Int)<(I l:Int)):=J;obtain⟨p,hp⟩:=aP A;have D:=jR hp;have B:=cS (n:=k) J;have f:=aAz p;have O:=H4 hp;cases x:Bi p with
  |true=>rw[x]at f O;have hf:ue l=some k:=AB A y O;simp only[aN.ps,eZ,m_]at f;simp only[go_sem,R7,H,u,v,h,A,z,D,aN.ps,ahG,b_ f,hf,ai,aB]
  |false=>
   rw[x]at f O;simp only[aN.ps,eZ,m_]at f;simp only[go_sem,R7,H,u,v,h,A,z,D,aN.ps,ahG,b_ f,B,ai,aB]
   grind
 have:k=I l:=J;subst this;have hf:ue l=none:=Fa y;simp only[go_sem,R7,afn,H,u,v,h,fF,hf,ai,aB]
abbrev ml:Nat:=61
def xU(l:aW)(A k:Nat):af:=(List.range k).map λi=>(l.getD ((A+i)%I l) ⟨ij,false⟩).l
def ayu{l:aW}{f k:Nat}{p:aN}(h:l[(f+k)%I l]?=some p):xU l f (k+1)=xU l f k++[p.l]:=by simp[xU,nJ,dD,h]
def aY(l:aW):af:=xU l ((ue l).getD 0) (I l)
abbrev cX(o:af):dI:=o.map U.ps
def H2{c:bd}{x:PV}{blk:aJ}(h:bh L D H n (.one c) blk):lM blk (.agg [.p x,c])=some (.agg [.p x,cU D H n]):=by obtain⟨u,o,m,f,j⟩:=h.mH;cases m;rcases j with rfl|rfl<;>simp[lM,v_,qG,oV,f,(show Go.Abs.mH blk (.p x)=some _ from rfl),qf,zl,vf]
def agD(F:Nat)(l:aW)(hl:I l<=1000000)(x1 x2 x3 x4 x5 x6:PV):aL S 45 [.one (.p (.box [.int .i64 F,x1,x2,x3,x4,x5,x6])),.one (.p (.sl (dP l)))] (.agg [.p (.int .i64 F),cU ml 6 (cX (aY l))]):=by
 have x:=ax7 l hl;have O:∃f,(ue l).getD 0=f/\(l≠[]->f<I l):=by
  refine⟨_,rfl,λaO=>?_⟩;cases h:ue l with
  |none=>exact gy.2 aO
  |some k=>exact gA.1 (CU h)
 obtain⟨f,hf,Y⟩:=O;have qT:((ue l=none/\f=0)\/ue l=some f):=by grind
 unfold aY;rw[hf];have M:∀(m:bJ) (blk:aJ),m 1=.one (.p (.sl (dP l)))->m 4=.one (.bR 2880000000 1 0)->m 5=.one (.bR 2880064320 1 0)->m 6=aI f->m 17=aI (I l)->m 18=aI ((0:Nat):Int)->blk 2880000000=(1,some (.var [.p (.int .i64 0),.p .nils]))->blk 2880064320=(1,some (.var [.p (.int .i64 F),.p .nils]))->
   W S .all (.loop Sv) (rM 0 (Bv S .all WV (sW .all [(4,some (some 2))] λv blk=>lM blk v=some (.agg [.p (.int .i64 F),cU ml 6 (cX (xU l f (I l)))])))) m blk:=by
  intro m blk e1 e4 e5 e6 Pa Pb B j;refine dt (λk m blk=>m 1=.one (.p (.sl (dP l)))/\m 4=.one (.bR 2880000000 1 0)/\m 5=.one (.bR 2880064320 1 0)/\m 6=aI f/\m 17=aI (I l)/\m 18=aI k/\blk 2880000000=(1,some (.var [.p (.int .i64 0),.p .nils]))/\ ∃c,blk 2880064320=(1,some (.var [.p (.int .i64 F),c]))/\bh 2880384832 ml 6 (cX (xU l f k)) (.one c) blk) 0 (I l) (bZ _) ⟨e1,e4,e5,e6,Pa,Pb,B,.p .nils,j,.inl ⟨rfl,rfl⟩⟩ ?_;rintro k m blk hk ⟨y,H,z,E,D,A,B,c,j,T⟩
  by_cases R:k<I l
  .have aM:((k:Int)<(I l:Int)):=J;have Y:=Y (gy.1 J);have Z:=cS (n:=k) J;have w2:=tm (a:=f) (b:=k) J;have e2:=xw (f+k) (I l);have X:=cT (f+k) (show 0<I l by omega);obtain⟨p,hp⟩:=aP X;have dx:=jR hp;have hz:¬((I l:Int)=0):=J;have hr:=ayu hp;have N:I (xU l f k)=k:=by simp[xU]
   simp only[go_sem,Sv,y,H,z,E,D,A,j,B,R,aM,w2,e2,X,hz,dx,aN.ps];refine s_ (B:=[p.l.ps]) (rd:=[2880384768]) (T.of_eq (ct aa)) (by simp[hU,bG,U.ps]) (.inl rfl) (by simp only[cg,N,fP,ga];omega) λc' de r u hc Q L=>?_;simp only[go_sem,y,H,z,E,D,A,(Q 2880064320 aa aa).trans ((ct aa).trans j),(Q 2880000000 aa aa).trans ((ct aa).trans B),R,Z];refine⟨?_,c',rfl,?_⟩
   .rcases L with⟨rfl,rfl⟩|⟨rfl,rfl⟩|⟨rfl,rfl⟩<;>kernel_rfl
   rw[hr,cX,fL];exact hc.of_eq (ct aa)
  have:k=I l:=J;subst this;simp only[go_sem,Sv,WV,y,H,z,E,D,A,j,B,fF];exact H2 (T.of_eq (ct aa))
 refine cG awo ?_;rcases qT with⟨hn,rfl⟩|ae
 .rw[hn]at x;have Qp:¬((0:Int)< -1):=aa;simp only[go_sem,aaE,aeM,gr x];exact M _ _ (by simp only[go_sem]) (by simp only[go_sem]) (by simp only[go_sem]) (by simp only[go_sem];rfl) (by simp only[go_sem]) (by simp only[go_sem];rfl) (by simp only[go_sem]) (by simp only[go_sem])
 rw[ae]at x;simp only[go_sem,aaE,aeM,gr x];exact M _ _ (by simp only[go_sem]) (by simp only[go_sem]) (by simp only[go_sem]) (by simp only[go_sem];split<;>(first|rfl|(congr 1;simp;omega))) (by simp only[go_sem]) (by simp only[go_sem];rfl) (by simp only[go_sem]) (by simp only[go_sem])
def afR:aL S 43 [] (.agg [.p .zD,.p (.fn 69 [] []),.p (.fn 70 [] []),.p (.fn 71 [] []),.p (.fn 72 [] []),.p (.fn 73 [] []),.p (.fn 74 [] []),.p (.fn 75 [] []),.p (.fn 76 [] []),.p (.fn 77 [] []),.p (.fn 77 [] [])]):=by refine cG avu ?_;simp only[go_sem,alx,ai,aB];rfl
def gL(k:Int):Int×Int:=if k=2 then(2,0)else if k=5 then(2,1)else if k=7 then(4,2)else(0,0)
def acZ(k:Int):aL S 44 [aI k] (.tup [.one (.p (.int .i64 (gL k).1)),.one (.p (.int .i64 (gL k).2))]):=by
 refine cG ayl ?_;unfold gL;by_cases f:k=2
 .subst f;simp only[go_sem,P6,ai,aB];rfl
 by_cases H:k=5
 .subst H;simp only[go_sem,P6,ai,aB];rfl
 by_cases h:k=7
 .subst h;simp only[go_sem,P6,ai,aB];rfl
 rw[aC f,aC H,aC h];have E:(k==2)=false:=by simpa using f
 have m:(k==5)=false:=by simpa using H
 have j:(k==7)=false:=by simpa using h
 simp only[go_sem,P6,E,m,j,ai,aB];rfl
def Tk(F:Nat)(x:Nat)(sg:Int)(ov:Bool)(f j h x4 X:PV)(k:Nat)(m:x<=1000000)(H:k<=10):aL S 116 [.one (.p (.box [.int .i64 F,f,j,h,x4,.int .i64 x,X])),aI k,aI sg,i_ ov] (.agg [.p (.int .i64 2),.p (.int .i64 0),.p (.int .i64 0),.p (.int .i64 ((x+k:Nat):Int)),.p (.int .i64 sg),.p (.bool ov),.p (.bool false)]):=by refine cG aBx ?_;simp only[go_sem,aj8,tm (a:=x) (b:=k) J,ai,aB];rfl
def C8(o:qO)(p:Nat×Nat)(i:Nat):Bool:=o[i]?==some p
def aAy(o:qO)(p:Nat×Nat)(hl:I o<=1000000):aL S 143 [.one (.p (.sl (lN o))),.agg [.p (.int .i64 p.1),.p (.int .i64 p.2)]] (jr (match (List.range (I o)).find? (C8 o p)with|some k=>(k:Int)|none=> -1)):=by
 refine cG azY ?_;simp only[go_sem,ae2,ai,aB];refine dt (λk m blk=>m 0=.one (.p (.sl (lN o)))/\m 3=.one (.bR 9152000000 1 0)/\blk 9152000000=(1,some (.var [.p (.int .i64 p.1),.p (.int .i64 p.2)]))/\m 7=aI (I o)/\m 8=aI k/\ ∀j,j<k->C8 o p j=false) 0 (I o) (bZ _) ?_ ?_
 .simp only[go_sem];exact⟨rfl,λj F=>absurd F (o6 j)⟩
 rintro k m blk Q ⟨f,v,B,u,H,z⟩
 by_cases A:k<I o
 .have x:((k:Int)<(I o:Int)):=J;obtain⟨q,hp⟩:=aP A;have D:=av8 hp;have y:=cS (n:=k) J;have O:C8 o p k=decide (q=p):=by
   simp only[C8,hp];by_cases h:q=p<;>simp[h]
  by_cases L:q=p
  .subst L;simp only[go_sem,P8,f,v,B,u,H,A,x,D,AB A z (by rw[O];simp),oU,pg,ai,aB];exact aS
  have N:((p.1:Int)==(q.1:Int))=false\/(((p.1:Int)==(q.1:Int))/\((p.2:Int)==(q.2:Int))=false):=by grind
  have Y:∀j,j<k+1->C8 o p j=false:=λj F=>by grind
  rcases N with E|⟨E,M⟩
  .simp only[go_sem,P8,f,v,B,u,H,A,x,D,y,oU,pg,E,ai,aB];exact⟨aS,Y⟩
  simp only[go_sem,P8,f,v,B,u,H,A,x,D,y,oU,pg,E,M,ai,aB];exact⟨aS,Y⟩
 have:k=I o:=J;subst this;simp only[go_sem,P8,adf,f,u,H,fF,Fa z,ai,aB]
def aq8(o:qO)(p:Nat×Nat)(hl:I o<=1000000):aL S 110 [.one (.p (.sl (lN o))),.agg [.p (.int .i64 p.1),.p (.int .i64 p.2)]] (fv (decide (p∈o))):=by
 have f:=aAy o p hl;refine cG auV ?_;by_cases h:p∈o
 .obtain⟨k,H⟩:=fK h;cases hf:(List.range (I o)).find? (C8 o p)with
  |none=>have:=B6.1 hf k (gA.2 ((bt.1 H).1));simp[C8,H]at this
  |some j=>rw[hf]at f;have m:(0:Int)<=(j:Int):=J;simp only[go_sem,Xw,af3,gr f,m,h,ai,aB]
 cases hf:(List.range (I o)).find? (C8 o p)with
 |some j=>
  have n:=AW hf
  grind [C8]
 |none=>rw[hf]at f;have m:¬(0:Int)<= -1:=aa;simp only[go_sem,Xw,af3,gr f,m,h,ai,aB]
def Pr{l:aW}(A:l≠[])(hl:I l<=1000000):aL S 111 [.one (.p (.sl (dP l)))] (.one (cU mI 7 (dP l))):=by
 cases l with
 |nil=>exact absurd rfl A
 |cons p t=>exact azj p t hl
section
variable {Q:iw} {m:bJ} {blk:aJ} {os:fV} {d:eT}
def Jp{id:Nat}{l:aW}{c:bd}{g f b:Int}(hl:I l<=1000000)(x: -100<=b/\b<=100)(u:∀p∈l,-1000000<=p.l.au/\p.l.au<=1000000)(H:bh id mI 7 (dP l) (.one c) blk)
  (z:∀A,bh id mI 7 (dP (dO l g f b)) (.one c) A->(∀i,i≠id->A i=blk i)->kG S .all os Q (eQ m d (.tup [])) A):kE S .all (.sc 109 [.one c,aI g,aI f,aI b]) d os Q m blk:=by
 have j:l=[]\/(jm (S.ctx .all) 109 [.one c,aI g,aI f,aI b] blk).ok id:=by
  rcases Q4 H with _|h
  .simp_all
  exact .inr (Ep (by simp[h]))
 refine xB Cd (ar1 j hl x u H) ?_;rintro v A ⟨rfl,y,n⟩
 exact z A y n
end
def aAW(fs:D1):∀(j:Nat) (L:aG),∀v∈rI fs j L,v∈L\/v<j+I fs:=by
 have n:∀(D:aG) (L:aG) (x:Nat),∀v∈sA L D x,v∈L\/v=x:=by
  intro D
  induction D with
  |nil=>intro L x v h;exact .inl h
  |cons d D m=>
   intro L x v h;rcases m _ x v h with h|h
   .grind
   exact .inr h
 induction fs with
 |nil=>intro j L v h;exact .inl h
 |cons f r m=>
  intro j L v h;rcases m _ _ v h with h|h
  .grind
  grind
def OW:dL:=⟨false,[],[],[],false⟩
def gJ(F:Nat)(h:af)(d:Nat):dL:=(fZ F h).getD ((kX F h).getD d 0) OW
def GA(F:Nat)(h:af):I (kX F h)=2*I h:=by simp[kX,Rt]
def OA(g:bj F h){d:Nat}(H:d<2*I h):∃j,(kX F h)[d]?=some j/\(fZ F h)[j]?=some (gJ F h d)/\j<I (fZ F h):=by
 obtain⟨j,f⟩:=aP (h:=kX F h) (by rw[GA];exact H);have u:0<I (fZ F h):=by rw[ahP,g.nw];omega
 have n:j<I (fZ F h):=by
  rcases aAW _ 0 _ j (a7 f)with m|m
  .grind
  omega
 grind [gJ]
def iS(b:Nat)(r:Int)(d:Bool):aN:=⟨⟨1,b,r,0,0,false⟩,d⟩
def uT(h:af)(u b c:Nat)(f:dL)(j:Bool):aW:=dK (dO (an h) b c 2) [iS b (if f.gT !=j then((c+2:Nat):Int)else((c+1:Nat):Int)) f.gT,iS b (if f.gT !=j then((c+1:Nat):Int)else((c+2:Nat):Int)) (!f.gT)] u
def ob(F:Nat)(h:af)(u b c:Nat):Option aW:=
 if(b,c)∈(gJ F h (2*u)).places then some (uT h u b c (gJ F h (2*u)) false)
 else if(b,c)∈(gJ F h (2*u+1)).places then some (uT h u b c (gJ F h (2*u+1)) true)else none
def uU (o:Option aW):RV:=.tup [.one (cU mI 7 (dP (o.getD []))),.one (.p (.bool o.isSome))]
def NX(g:bj F h):∀p∈an h,-1000000<=p.l.au/\p.l.au<=1000000:=by
 intro p hp;obtain⟨i,H⟩:=fK hp;obtain⟨l,hl⟩:=aP (by rw[<-bY];exact(bt.1 H).1);rw[fX hl]at H;cases H;rcases g.ok.kinds l (a7 hl)with j|j
 .have f:=g.ok.ax.fA l (a7 hl) j;have:=f.r0;have:=f.r1;have m:aV h l.gate.toNat<=I h:=vo _ _;have:=g.len;simp only;omega
 have:=(J2 j).1 (g.bad l (a7 hl))
 grind
def ajE{F:Nat}{h:af}(g:bj F h){b c k:Nat}(ha:u<I h)(Mk:b<=F)(hc:c<=1000){l o:Bool}{sg:Int}(hk:k<2){blk:aJ}
  (x:m 0=.one (.p (eK F h))) (v:m 3=.one (.bR 4480000000 1 0)) (h6:m 6=.one (.bR 4480064320 1 0)) (y:m 7=.one (.bR 4480128448 1 0)) (H:m 8=.one (.bR 4480192448 1 0)) (B:m 40=aI k)
  (R:blk 4480000000=(1,some (.var [.p (.int .i64 2),.p (.int .i64 u),.p (.int .i64 b),.p (.int .i64 c),.p (.bool l),.p (.bool o),.p (.int .i64 sg)]))) (b6:blk 4480064320=(1,some (.var [.p (.int .i64 b),.p (.int .i64 c)])))
  (b7:blk 4480128448=(1,some (.var ((iS b ((c+1:Nat):Int) true).ps.map .p)))) (b8:blk 4480192448=(1,some (.var ((iS b ((c+2:Nat):Int) false).ps.map .p))))
  (eI:(b,c)∉(gJ F h (2*u+k)).places->∀A T,A 0=m 0->A 3=m 3->A 6=m 6->A 7=m 7->A 8=m 8->A 40=aI ((k+1:Nat):Int)->(∀i,i≠4480577088->T i=blk i)->W S .all (.loop HO) (rM 0 Q) A T)
  (UJ:(b,c)∈(gJ F h (2*u+k)).places->∀A T s Z,A 4=.one Z->A 5=i_ true->bh s mI 7 (dP (uT h u b c (gJ F h (2*u+k)) (k==1))) (.one Z) T->Q .ret A T):
  W S .all (.loop HO) (rM 0 Q) m blk:=by
 have ac:=g.len;have JL:=g.fing;obtain⟨j,Hs,mV,vB⟩:=OA g (d:=2*u+k) J;have Ar:=jy Hs;have Cw:=NS mV;have aw:((k:Int)<2):=J;have aX:(gJ F h (2*u+k)).places.length<=1000000:=by obtain⟨w,hw,he⟩:=ch.1 (a7 mV);obtain⟨_,tM,ab⟩:=AY g.ok w hw;have h1:=(ac2 g.ok ab (I w) (cJ _)).2.1;rw[ajZ,he]at h1;have jt:I (aA h)<=I h:=xo h (I h);have h2:I w*(2*F+2)<=1600*82:=O0 (by unfold aT at tM;omega) J;omega
 generalize Qe:gJ F h (2*u+k)=f at*;have pc:=aq8 f.places (b,c) aX;have m2:=rQ (a:=u) J;have m3:=tm (a:=2*u) (b:=k) J;have w1:=cS (n:=k) J;have zi:2*u+k<I (kX F h):=by rw[GA];omega
 have aO:an h≠[]:=gy.1 (by rw[bY];omega);have ad:=bY h;have X:=Pr aO J;have kQ:S.lone 4480896256=false:=ah;have n9:S.lone 4481024384=false:=ah;have ie:S.shared 109:=ah;refine og ?_;by_cases Y:(b,c)∈f.places
 .rw[tV Y]at pc;have wZ:(!f.gT==(((k:Nat):Int)==1))=(f.gT !=(k==1)):=by
   rcases(show k=0\/k=1 by omega)with rfl|rfl<;>cases f.gT<;>rfl
  have Hx:I (dP (dO (an h) b c 2))=I (an h):=by simp[dO]
  have D:=f_ (by rw[Hx];exact cJ _);cases ae:(f.gT !=(k==1))with
  |true=>
    rw[ae]at wZ;simp only[go_sem,HO,x,v,h6,y,H,B,R,b6,b7,b8,aw,m2,m3,zi,Ar,vB,Cw,dL.ps,wZ,iS,aN.ps,abN,b_ pc];refine⟨aS,aS,?_⟩;refine nI X kQ (.inl rfl) λZ de gc O=>?_;have N:=O 4480000000 aa;have z:=O 4480128448 aa;have M:=O 4480192448 aa;simp only[go_sem,R]at N z M;simp only[go_sem,x,v,y,H,N,z,M,ie];refine Jp J aa (NX g) gc λbK uD L=>?_;have E:=(L 4480192448 aa).trans M;rcases uD with⟨e,_⟩|⟨_,gg,e,BC⟩
    .exact absurd (by simpa [dO]using e) aO
    cases e;simp only[go_sem,x,v,y,H,(L 4480000000 aa).trans N,(L 4480128448 aa).trans z,E,BC,Hx,D,Gt];refine nI (GI (dO (an h) b c 2) [iS b ((c+2:Nat):Int) f.gT,iS b ((c+1:Nat):Int) (!f.gT)] u (by rw[cg];omega) (by rw[cg];omega) aE) n9 (.inr (r9 (yK _))) λc2 mO FL mS=>?_;simp only[go_sem];exact UJ Y _ _ _ c2 (by simp only[go_sem]) (by simp only[go_sem]) (by unfold uT;rw[ae];exact FL)
  |false=>
    rw[ae]at wZ;simp only[go_sem,HO,x,v,h6,y,H,B,R,b6,b7,b8,aw,m2,m3,zi,Ar,vB,Cw,dL.ps,wZ,iS,aN.ps,abN,b_ pc];refine⟨aS,aS,?_⟩;refine nI X kQ (.inl rfl) λZ de gc O=>?_;have N:=O 4480000000 aa;have z:=O 4480128448 aa;have M:=O 4480192448 aa;simp only[go_sem,R]at N z M;simp only[go_sem,x,v,y,H,N,z,M,ie];refine Jp J aa (NX g) gc λbK uD L=>?_;have E:=(L 4480192448 aa).trans M;rcases uD with⟨e,_⟩|⟨_,gg,e,BC⟩
    .exact absurd (by simpa [dO]using e) aO
    cases e;simp only[go_sem,x,v,y,H,(L 4480000000 aa).trans N,(L 4480128448 aa).trans z,E,BC,Hx,D,Gt];refine nI (GI (dO (an h) b c 2) [iS b ((c+1:Nat):Int) f.gT,iS b ((c+2:Nat):Int) (!f.gT)] u (by rw[cg];omega) (by rw[cg];omega) aE) n9 (.inr (r9 (yK _))) λc2 mO FL mS=>?_;simp only[go_sem];exact UJ Y _ _ _ c2 (by simp only[go_sem]) (by simp only[go_sem]) (by unfold uT;rw[ae];exact FL)
 rw[vg Y]at pc;simp only[go_sem,HO,x,v,h6,y,H,B,R,b6,b7,b8,aw,m2,m3,zi,Ar,vB,Cw,dL.ps,abN,b_ pc,w1];refine⟨aS,eI Y _ _ ?_ ?_ ?_ ?_ ?_ ?_ λi hi=>?_⟩
 .simp only[go_sem,x]
 .simp only[go_sem,v]
 .simp only[go_sem,h6]
 .simp only[go_sem,y]
 .simp only[go_sem,H]
 .simp only[go_sem]
 simp only[bG,aC hi]
def anJ(g:bj F h){b c:Nat}(Z:u<I h)(O:b<=F)(hc:c<=1000){l o:Bool}{sg:Int}:
  aL S 70 [.one (.p (eK F h)),jL 2 u b c l o sg] (uU (ob F h u b c)):=by
 have w1:=cS (n:=c) J;have w2:IntKind.i64.wrap ((c:Int)+2)=((c+2:Nat):Int):=(nj J J).trans J;have Y:=g.len;have F3:((I (an h):Int)==0)=false:=mM.2 (by rw[bY];omega);have uK:∀A y s f (L:aW),ob F h u b c=some L->A 4=.one f->A 5=i_ true->bh s mI 7 (dP L) (.one f) y->
   rM 0 (Bv S .all aap (sW .all [(4,none),(5,none)] λv blk=>lM blk v=some (uU (ob F h u b c)))) .ret A y:=λA y s f L hL j m H=>by
  simp only[go_sem,j,m];rw[hL];exact uc H
 refine cG afB ?_;simp only[go_sem,Xu,w1,w2,F3];have k0:2*u+0=2*u:=rfl;refine ajE g Z O hc (k:=0) J (l:=l) (o:=o) (sg:=sg) ?_ ?_ ?_ ?_ ?_ ?_ ?_ ?_ ?_ ?_ ?_ ?_
 .simp only[go_sem]
 .simp only[go_sem]
 .simp only[go_sem]
 .simp only[go_sem]
 .simp only[go_sem]
 .simp only[go_sem];rfl
 .simp only[go_sem]
 .simp only[go_sem]
 .simp only[go_sem];rfl
 .simp only[go_sem];rfl
 .intro M A y N X T R q8 E x;have Q:(b,c)∉(gJ F h (2*u)).places:=M;simp only[go_sem]at N X T R q8;refine ajE g Z O hc J (l:=l) (o:=o) (sg:=sg) N X T R q8 E ?_ ?_ ?_ ?_ ?_ ?_
  .rw[x _ aa];simp only[go_sem]
  .rw[x _ aa];simp only[go_sem]
  .rw[x _ aa];simp only[go_sem];rfl
  .rw[x _ aa];simp only[go_sem];rfl
  .intro z D B p0 p3 p6 p7 p8 Nr cV;have hr:ob F h u b c=none:=by unfold ob;rw[aC Q,aC z]
   have mU:¬(((1+1:Nat):Int)<2):=aa;refine og ?_;simp only[go_sem,HO,aap,Nr,mU,hr];rfl
  intro z D B s f j m H;exact uK D B s f _ (by unfold ob;rw[aC Q,aD z];rfl) j m H
 intro M D B s f j m H;have Q:(b,c)∈(gJ F h (2*u)).places:=M;exact uK D B s f _ (by unfold ob;rw[aD Q];rfl) j m H
def oo(h:af)(u:Nat)(sg:Int)(o:Bool):aW:=dK (an h) [⟨⟨2,0,0,((aq U.ak h/2+1:Nat):Int),sg,o⟩,false⟩,⟨⟨2,0,0,((aq U.ak h/2+1:Nat):Int),sg,!o⟩,false⟩] u
def atn(g:bj F h)(Q:u<I h){b c:Int}{l o:Bool}{sg:Int}:
  aL S 73 [.one (.p (eK F h)),jL 5 u b c l o sg] (uU (some (oo h u sg o))):=by
 have M:=g.cr;have N:=Tk F (aq U.ak h/2) sg o (.sl (dP (an h))) (.sl (sq (fZ F h))) (.sl (bQ (kX F h))) (.int .i64 (aq U.ay h:Nat)) (.sl (bQ (gK h F))) 1 J J;have y:=Tk F (aq U.ak h/2) sg (!o) (.sl (dP (an h))) (.sl (sq (fZ F h))) (.sl (bQ (kX F h))) (.int .i64 (aq U.ay h:Nat)) (.sl (bQ (gK h F))) 1 J J;have H:=g.len;have B:=bY h
 have f:=GI (an h) [⟨⟨2,0,0,((aq U.ak h/2+1:Nat):Int),sg,o⟩,false⟩,⟨⟨2,0,0,((aq U.ak h/2+1:Nat):Int),sg,!o⟩,false⟩] u J J aE;refine cG aBF ?_;have c1:((1:Nat):Int)=1:=rfl;rw[c1]at N y;have z:∀blk:aJ,∀s,∀v j x x4 m n X:PV,fR blk [] s ((RV.agg [.p v,.p j,.p x,.p x4,.p m,.p n,.p X]).iA (S.lone s))=some (.agg [.p v,.p j,.p x,.p x4,.p m,.p n,.p X],[]):=λblk s v j x x4 m n X=>by cases S.lone s<;>rfl
 simp only[go_sem,ajW,VV,oT N (z _ _ _ _ _ _ _ _ _),oT y (z _ _ _ _ _ _ _ _ _),Gt];refine Kx f ah (.inr (r9 (yK _))) λE O w D L A=>?_;simp only[go_sem];refine⟨?_,uc D⟩;rcases A with rfl|rfl<;>kernel_rfl
end
end Go.Abs
