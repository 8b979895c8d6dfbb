/-
  Rules for a walk.
-/
import Derived.Test.YtnbfnkckmfibpaaGreatDoorMd
import Derived.Attr
set_option linter.unusedSimpArgs false
set_option linter.unusedVariables false
set_option linter.unusedSectionVars false
namespace Go.Abs
theorem Hf(k:Nat):xE (.one (.p (.int .i64 (k:Int))))=some k:=by simp[xE]
theorem Hg(n:Nat):xE (.one (.p (.int .i64 (no_index (@OfNat.ofNat Int n instOfNat)))))=some (@OfNat.ofNat Nat n (instOfNatNat n)):=by
 show xE (.one (.p (.int .i64 (Int.ofNat n))))=some n;simp[xE]
theorem Ed{Tc:aB}{v:PV}:cH Tc bN (.p v)=some (v.norm,[]):=rfl
def L6{β:Type}(x:Option (β × List Nat))(y:Option (List β × List Nat)):Option (List β × List Nat):=match x,y with
 |some (b,x),some (bs,y)=>some (b::bs,x++y)
 |_,_=>none
theorem wN{β:Type}{b:β}{x:List Nat}{bs:List β}{y:List Nat}:L6 (some (b,x)) (some (bs,y))=some (b::bs,x++y):=rfl
theorem tQ{α β:Type}{f:α->Option (β × List Nat)}:collect f []=some ([],[]):=rfl
theorem rH{α β:Type}{f:α->Option (β × List Nat)}{a:α}{r:List α}:collect f (a::r)=L6 (f a) (collect f r):=by
 simp only[collect,L6];cases f a<;>cases collect f r<;>rfl
theorem xQ{Tc:aB}{c:C}:fM Tc (.one c)=(cH Tc bN c).map fun(v,r)=>(.one (.p v),r):=rfl
theorem xR{Tc:aB}{cs:List C}:fM Tc (.agg cs)=(collect (cH Tc bN) cs).map fun(vs,r)=>(.agg (vs.map .p),r):=rfl
theorem F9{Tc:aB}{n:Nat}{v:PV}:cH Tc (n+1) (.p v)=some (v.norm,[]):=rfl
def uc(o:Nat × Option Ob)(col:List (List C)->Option (List (List PV) × List Nat))(id g off len:Nat):Option (PV × List Nat):=match o with
 |(g',some (.arr _ _ es))=>if g'=g/\off+len<=es.length then some (.sl ((es.drop off).take len),[id]) else none
 |(g',some (.Ul _ _ es))=>if g'=g/\off+len<=es.length then some (.sl ((es.drop off).take len),[id]) else none
 |(g',some (.TV _ _ es))=>if g'=g/\off+len<=es.length then
   match col ((es.drop off).take len) with
   |some (ps,r)=>some (.sl ps,id::r)
   |none=>none
  else none
 |_=>none
theorem Bv{Tc:aB}{id g z off len:Nat}:cH Tc bN (.hsl id g z off len)=uc (Tc id) (collect (collect (cH Tc 5))) id g off len:=by
 unfold bN uc;rw[cH];rfl
def qA(o:Nat × Option Ob)(col:List C->Option (List PV × List Nat))(id g off:Nat):Option (PV × List Nat):=match o with
 |(g',some (.var cs))=>if g'=g then
   match col cs with
   |some (ps,r)=>some (.box (ps.drop off),id::r)
   |none=>none
  else none
 |(g',some (.fvar ps))=>if g'=g then some (.box (ps.drop off),[id]) else none
 |_=>none
theorem xO{Tc:aB}{id g off:Nat}:cH Tc bN (.Tn id g off)=qA (Tc id) (collect (cH Tc 5)) id g off:=by
 unfold bN qA;rw[cH];rfl
section
variable {S:Sys} {al:Al} {env:Env} {Tc:aB} {d:Option Nat}
theorem hU{rd:List Nat}{s:Nat}{x:PV}{b:Bool}(hs:x.scalar=true):land Tc rd s ((RV.one (.p x)).bK b)=some (.one (.p x),[]):=by
 have h1:(RV.one (.p x)).bK b= .one (.p x):=by cases b<;>rfl
 rw[h1];have:(RV.one (.p x)).alone=true:=by simp[RV.alone,eJ,dA,RC.alone,hs]
 simp only[land,this,or_true,if_true];rfl
theorem Lm{f:Nat}{vs:List V}{rd:List Nat}{s:Nat}{x:PV}{K:Env->aB->Prop}(h:aH S f vs (.one (.p x)))(hs:x.scalar=true):Iu S .all (.pc f vs rd s) d env Tc K↔K (put env d (.one (.p x))) Tc:=by
 constructor
 ·rintro ⟨y,hy,h2⟩
  have:=hy.MJ h;subst this;rw[hU hs] at h2;exact h2.2
 ·intro hK;refine⟨_,h,?_⟩;rw[hU hs];exact⟨Al.kT _,hK⟩
theorem Oi{f:Nat}{vs:List V}{rd:List Nat}{s:Nat}{x:PV}{tr:List dE}{K:Env->aB->List dE->Prop}(h:aH S f vs (.one (.p x)))(hs:x.scalar=true):QZ S .all (.pc f vs rd s) d env Tc tr K↔K (put env d (.one (.p x))) Tc (tr++[⟨rd,[],[]⟩]):=by
 constructor
 ·rintro ⟨y,hy,h2⟩
  have:=hy.MJ h;subst this;rw[hU hs] at h2
  simpa [app] using h2.2
 ·intro hK;refine⟨_,h,?_⟩;rw[hU hs];exact⟨Al.kT _,by simpa [app] using hK⟩
theorem RZ{ops:List az}{Q:cZ}:W S al (.region true ops) Q env Tc↔WO S al ops (fun env Tc es=>dX ops [] es=true/\Q .normal env Tc) env Tc []:=by
 rw[rR];constructor
 ·rintro ⟨n,e,b,es,h1,h2,h3⟩;exact⟨n,e,b,es,h1,h2 rfl,h3⟩
 ·rintro ⟨n,e,b,es,h1,h2,h3⟩;exact⟨n,e,b,es,h1,fun _=>h2,h3⟩
end
theorem wrap_small{n:Nat}(h:n<=9223372036854775807):IntKind.i64.wrap (n:Int)=n:=mV h
theorem am{n:Nat}(h:n<9223372036854775807):IntKind.i64.wrap ((n:Int)+1)=((n+1:Nat):Int):=mV (n:=n+1) (by omega)
section
variable {S:Sys} {al:Al} {Q:cZ} {env:Env} {Tc:aB} {a b:an} {ops os all:List az} {tr:List dE} {d:Option Nat} {op:w9} {n:Nat}
def lu(S:Sys)(al:Al)(b:an)(Q:cZ):cZ
 | .normal,env,Tc=>W S al b Q env Tc
 | .exit i,env,Tc=>Q (.exit i) env Tc
 | .ret,env,Tc=>Q .ret env Tc
theorem JH:Bi (W S al b Q) Q=lu S al b Q:=by funext e env Tc;cases e<;>rfl
theorem P9:W S al (.seq a b) Q env Tc↔W S al a (lu S al b Q) env Tc:=by rw[I7,JH]
theorem qw:lu S al b Q .normal env Tc=W S al b Q env Tc:=rfl
theorem uQ{i:Nat}:lu S al b Q (.exit i) env Tc=Q (.exit i) env Tc:=rfl
theorem xK:lu S al b Q .ret env Tc=Q .ret env Tc:=rfl
def cW (S:Sys)(al:Al)(v:V)(a b:an)(Q:cZ)(env:Env)(Tc:aB):Prop:=yZ v (W S al a Q env Tc) (W S al b Q env Tc)
theorem Mz{x:aC}:W S al (.cond x a b) Q env Tc↔cW S al (ev env x) a b Q env Tc:=FV
theorem Hc:cW S al (.one (.p (.bool true))) a b Q env Tc=W S al a Q env Tc:=by simp[cW,yZ]
theorem Dm:cW S al (.one (.p (.bool false))) a b Q env Tc=W S al b Q env Tc:=by simp[cW,yZ]
def RN (S:Sys)(al:Al)(ops:List az)(Q:cZ)(env:Env)(Tc:aB):Prop:=WN S al ops (fun env Tc=>Q .normal env Tc) env Tc
def gP (S:Sys)(al:Al)(p:d5)(d:Option Nat)(os:List az)(Q:cZ)(env:Env)(Tc:aB):Prop:=Iu S al p d env Tc (WN S al os fun env Tc=>Q .normal env Tc)
def gW (S:Sys)(al:Al)(w:Option Bool)(d:Option Nat)(op:w9)(os:List az)(Q:cZ)(env:Env)(Tc:aB):Prop:=Oh S al w ⟨d,op,none,0⟩ env Tc (WN S al os fun env Tc=>Q .normal env Tc)
theorem Mx:W S al (.region false ops) Q env Tc↔RN S al ops Q env Tc:=FU
theorem MA:RN S al [] Q env Tc↔Q .normal env Tc:=FW
theorem Qa:RN S al (⟨d,op,none,n⟩::os) Q env Tc↔gP S al (aP S.Tf env Tc op) d os Q env Tc:=tW
theorem DE{t:Nat}{w:Bool}:RN S al (⟨d,op,some (t,w),n⟩::os) Q env Tc↔gW S al (s5 (env t) w) d op os Q env Tc:=by
 unfold RN gW;rw[tW];have:wanted env (some (t,w))=s5 (env t) w:=rfl;simp only[this];cases s5 (env t) w with
 |none=>rfl
 |some x=>cases x<;>rfl
theorem GI:gW S al (some true) d op os Q env Tc↔gP S al (aP S.Tf env Tc op) d os Q env Tc:=Iff.rfl
theorem CF:gW S al (some false) d op os Q env Tc↔RN S al os Q (put env d .undef) Tc:=Iff.rfl
theorem rq{v:V}{u:List jv}{r:List Nat}:gP S .all (.done v u r) d os Q env Tc↔RN S .all os Q (put env d v) (app u Tc):=by
 show(Al.all.kB (r++u.map (·.1))=true/\_)↔_;rw[Al.kT];exact⟨fun h=>h.2,fun h=>⟨rfl,h⟩⟩
theorem vR{v:V}{u:List jv}{r:List Nat}:gP S al (.done v u r) d os Q env Tc↔al.kB (r++u.map (·.1))=true/\RN S al os Q (put env d v) (app u Tc):=Iff.rfl
theorem Ar{f:Nat}{vs:List V}{rd:List Nat}{s:Nat}{x:PV}(h:aH S f vs (.one (.p x)))(hs:x.scalar=true):gP S .all (.pc f vs rd s) d os Q env Tc↔RN S .all os Q (put env d (.one (.p x))) Tc:=Lm h hs
theorem aS{f:Nat}{vs:List V}{rd:List Nat}{s:Nat}{k:IntKind}{x:Int}(h:aH S f vs (.one (.p (.int k x)))):gP S .all (.pc f vs rd s) d os Q env Tc↔RN S .all os Q (put env d (.one (.p (.int k x)))) Tc:=Ar h rfl
theorem aa{f:Nat}{vs:List V}{rd:List Nat}{s:Nat}{x:Bool}(h:aH S f vs (.one (.p (.bool x)))):gP S .all (.pc f vs rd s) d os Q env Tc↔RN S .all os Q (put env d (.one (.p (.bool x)))) Tc:=Ar h rfl
theorem eM{f:Nat}{vs:List V}{rd:List Nat}{s:Nat}{x:ByteArray}(h:aH S f vs (.one (.p (.str x)))):gP S .all (.pc f vs rd s) d os Q env Tc↔RN S .all os Q (put env d (.one (.p (.str x)))) Tc:=Ar h rfl
theorem ai{rd:List Nat}{s:Nat}{r:RV}{v:V}{u:List jv}{f:Nat}{vs:List V}(hp:aH S f vs r)(h:land Tc rd s (r.bK (S.lone s))=some (v,u)):gP S .all (.pc f vs rd s) d os Q env Tc↔RN S .all os Q (put env d v) (app u Tc):=by
 constructor
 ·rintro ⟨y,hy,h2⟩
  have:=hy.MJ hp;subst this;rw[h] at h2;exact h2.2
 ·intro hK;refine⟨_,hp,?_⟩;rw[h];exact⟨Al.kT _,hK⟩
def RD (S:Sys)(al:Al)(all ops:List az)(Q:cZ)(env:Env)(Tc:aB)(tr:List dE):Prop:=WO S al ops (fun env Tc es=>dX all [] es=true/\Q .normal env Tc) env Tc tr
def dP (S:Sys)(al:Al)(p:d5)(d:Option Nat)(all os:List az)(Q:cZ)(env:Env)(Tc:aB)(tr:List dE):Prop:=QZ S al p d env Tc tr (WO S al os fun env Tc es=>dX all [] es=true/\Q .normal env Tc)
def dW (S:Sys)(al:Al)(w:Option Bool)(d:Option Nat)(op:w9)(all os:List az)(Q:cZ)(env:Env)(Tc:aB)(tr:List dE):Prop:=PM S al w ⟨d,op,none,0⟩ env Tc tr (WO S al os fun env Tc es=>dX all [] es=true/\Q .normal env Tc)
theorem My:W S al (.region true ops) Q env Tc↔RD S al ops ops Q env Tc []:=RZ
theorem MB:RD S al all [] Q env Tc tr↔dX all [] tr=true/\Q .normal env Tc:=qn
theorem Qb:RD S al all (⟨d,op,none,n⟩::os) Q env Tc tr↔dP S al (aP S.Tf env Tc op) d all os Q env Tc tr:=kU
theorem DF{t:Nat}{w:Bool}:RD S al all (⟨d,op,some (t,w),n⟩::os) Q env Tc tr↔dW S al (s5 (env t) w) d op all os Q env Tc tr:=by
 unfold RD dW;rw[kU];have:wanted env (some (t,w))=s5 (env t) w:=rfl;simp only[this];cases s5 (env t) w with
 |none=>rfl
 |some x=>cases x<;>rfl
theorem GX:dW S al (some true) d op all os Q env Tc tr↔dP S al (aP S.Tf env Tc op) d all os Q env Tc tr:=Iff.rfl
theorem Dc:dW S al (some false) d op all os Q env Tc tr↔RD S al all os Q (put env d .undef) Tc (tr++[⟨[],[],[]⟩]):=Iff.rfl
theorem GY{v:V}{u:List jv}{r:List Nat}:dP S .all (.done v u r) d all os Q env Tc tr↔RD S .all all os Q (put env d v) (app u Tc) (tr++[⟨r,u.map (·.1),[]⟩]):=by
 show(Al.all.kB (r++u.map (·.1))=true/\_)↔_;rw[Al.kT];exact⟨fun h=>h.2,fun h=>⟨rfl,h⟩⟩
theorem wH{v:V}{u:List jv}{r:List Nat}:dP S al (.done v u r) d all os Q env Tc tr↔al.kB (r++u.map (·.1))=true/\RD S al all os Q (put env d v) (app u Tc) (tr++[⟨r,u.map (·.1),[]⟩]):=Iff.rfl
theorem GZ{f:Nat}{vs:List V}{rd:List Nat}{s:Nat}{x:PV}(h:aH S f vs (.one (.p x)))(hs:x.scalar=true):dP S .all (.pc f vs rd s) d all os Q env Tc tr↔RD S .all all os Q (put env d (.one (.p x))) Tc (tr++[⟨rd,[],[]⟩]):=Oi h hs
theorem bg{f:Nat}{vs:List V}{rd:List Nat}{s:Nat}{k:IntKind}{x:Int}(h:aH S f vs (.one (.p (.int k x)))):dP S .all (.pc f vs rd s) d all os Q env Tc tr↔RD S .all all os Q (put env d (.one (.p (.int k x)))) Tc (tr++[⟨rd,[],[]⟩]):=GZ h rfl
theorem aw{f:Nat}{vs:List V}{rd:List Nat}{s:Nat}{x:Bool}(h:aH S f vs (.one (.p (.bool x)))):dP S .all (.pc f vs rd s) d all os Q env Tc tr↔RD S .all all os Q (put env d (.one (.p (.bool x)))) Tc (tr++[⟨rd,[],[]⟩]):=GZ h rfl
theorem aY{rd:List Nat}{s:Nat}{r:RV}{v:V}{u:List jv}{f:Nat}{vs:List V}(hp:aH S f vs r)(h:land Tc rd s (r.bK (S.lone s))=some (v,u)):dP S .all (.pc f vs rd s) d all os Q env Tc tr↔RD S .all all os Q (put env d v) (app u Tc) (tr++[⟨rd++u.map (·.1),u.map (·.1),[]⟩]):=by
 constructor
 ·rintro ⟨y,hy,h2⟩
  have:=hy.MJ hp;subst this;rw[h] at h2;exact h2.2
 ·intro hK;refine⟨_,hp,?_⟩;rw[h];exact⟨Al.kT _,hK⟩
def Ce(N:Nat)(I:Nat->Env->aB->Prop)(k:Nat)(Q:cZ):cZ:=Bi (fun env Tc=>k<N/\I (k+1) env Tc) Q
theorem qT{N k:Nat}{I:Nat->Env->aB->Prop}:Ce N I k Q .normal env Tc=(k<N/\I (k+1) env Tc):=rfl
theorem vA{N k i:Nat}{I:Nat->Env->aB->Prop}:Ce N I k Q (.exit i) env Tc=Q (.exit i) env Tc:=rfl
theorem yp{N k:Nat}{I:Nat->Env->aB->Prop}:Ce N I k Q .ret env Tc=Q .ret env Tc:=rfl
theorem be{c:an}(I:Nat->Env->aB->Prop)(k0 N:Nat)(hk:k0<=N)(h0:I k0 env Tc)
  (round: ∀ k env Tc,k<=N->I k env Tc->W S al c (Ce N I k Q) env Tc):W S al (.loop c) Q env Tc:=S6 I k0 N hk h0 round
def LM(R:V->aB->Prop)(Tc:aB):Option (List V)->Prop
 |some vs=>R (uP vs) Tc
 |none=>False
theorem Qc{res:List (Nat × Option (Option Nat))}{R:V->aB->Prop}:pj al res R .ret env Tc=LM R Tc (cF al env Tc res):=by
 simp only[pj,LM];cases cF al env Tc res<;>rfl
theorem DH{res:List (Nat × Option (Option Nat))}{R:V->aB->Prop}:pj al res R .normal env Tc=LM R Tc (cF al env Tc res):=by
 simp only[pj,LM];cases cF al env Tc res<;>rfl
theorem yV{R:V->aB->Prop}{vs:List V}:LM R Tc (some vs)=R (uP vs) Tc:=rfl
end
section
variable {S:Sys} {al:Al} {Q:cZ} {env:Env} {Tc:aB}
def Gx(S:Sys)(al:Al)(c:an)(Q:cZ):cZ
 | .normal,env,Tc=>W S al (.loop c) Q env Tc
 | .exit i,env,Tc=>Q (.exit i) env Tc
 | .ret,env,Tc=>Q .ret env Tc
theorem qU{c:an}:Gx S al c Q .normal env Tc=W S al (.loop c) Q env Tc:=rfl
theorem vG{c:an}{i:Nat}:Gx S al c Q (.exit i) env Tc=Q (.exit i) env Tc:=rfl
theorem yt{c:an}:Gx S al c Q .ret env Tc=Q .ret env Tc:=rfl
theorem dV{c:an}(h:W S al c (Gx S al c Q) env Tc):W S al (.loop c) Q env Tc:=by
 obtain⟨n,e,TI,Tq,h1,h2⟩:=h;cases e with
 |normal=>
  obtain⟨m,e,Tz,Tp,h3,h4⟩:=h2;refine⟨max n m+1,e,Tz,Tp,?_,h4⟩;simp only[exec] at h3 ⊢;simp only[iter];rw[mA S (by omega) h1];exact Ap S (by omega) (by omega) h3
 |exit i=>exact⟨n+1,_,_,_,by simp[exec,iter,mA S (Nat.le_succ n) h1],h2⟩
 |ret=>exact⟨n+1,_,_,_,by simp[exec,iter,mA S (Nat.le_succ n) h1],h2⟩
end
theorem pz.MJ{S:Sys}{f:Nat}{args:List V}{al:Al}{Tc:aB}{v v':V}{b b':aB}(h:pz S f args al Tc v b)(h':pz S f args al Tc v' b'):v=v'/\b=b':=by
 obtain⟨n,hn⟩:=h;obtain⟨m,hm⟩:=h';have a:=nV S (adh n m) _ _ _ _ _ hn;have c:=nV S (Nat.le_max_right n m) _ _ _ _ _ hm;rw[a] at c;have:=ab2 c;exact⟨congrArg Prod.fst this,congrArg Prod.snd this⟩
section
variable {S:Sys} {al:Al} {Q:cZ} {env:Env} {Tc:aB} {os all:List az} {tr:List dE} {d:Option Nat}
theorem Ad:al.kB []=true:=rfl
theorem vu{a:Nat}{l:List Nat}:al.kB (a::l)=(al.ok a&&al.kB l):=rfl
def Kept(K:Nat->Prop)(b b':aB):Prop:= ∀ id,¬ K id->b' id=b id
theorem Kept.refl(K:Nat->Prop)(b:aB):Kept K b b:=fun _ _=>rfl
theorem Kept.trans{K:Nat->Prop}{a b c:aB}(h:Kept K a b)(h2:Kept K b c):Kept K a c:=fun id hk=>(h2 id hk).trans (h id hk)
theorem Kept.fD{K:Nat->Prop}{b b':aB}(h:Kept K b b'){k:Nat}(hk:K k)(x:Nat × Option Ob):Kept K b (fD b' k x):=fun id hn=>by
 rw[af,if_neg (by rintro rfl;exact hn hk)];exact h id hn
theorem SD{f:Nat}{vs:List V}{v:V}{Td:aB}(hh:al.holds (allow (S.ctx al) f vs Tc)=true)(h:pz S f vs (allow (S.ctx al) f vs Tc) Tc v Td):gP S al (.sc f vs) d os Q env Tc↔RN S al os Q (put env d v) Td:=by
 constructor
 ·rintro ⟨_,v2,b2,h2,h3⟩
  obtain⟨rfl,rfl⟩:=h.MJ h2;exact h3
 ·intro h3;exact⟨hh,v,Td,h,h3⟩
theorem vS{f:Nat}{vs:List V}{rd:List Nat}{s:Nat}{x:PV}(h:aH S f vs (.one (.p x)))(hs:x.scalar=true):gP S al (.pc f vs rd s) d os Q env Tc↔al.kB (rd++[])=true/\RN S al os Q (put env d (.one (.p x))) Tc:=by
 constructor
 ·rintro ⟨y,hy,h2⟩
  have:=hy.MJ h;subst this;rw[hU hs] at h2;exact h2
 ·rintro ⟨ho,hK⟩
  refine⟨_,h,?_⟩;rw[hU hs];exact⟨ho,hK⟩
theorem iW{f:Nat}{vs:List V}{rd:List Nat}{s:Nat}{k:IntKind}{x:Int}(h:aH S f vs (.one (.p (.int k x)))):gP S al (.pc f vs rd s) d os Q env Tc↔al.kB (rd++[])=true/\RN S al os Q (put env d (.one (.p (.int k x)))) Tc:=vS h rfl
theorem vT{f:Nat}{vs:List V}{rd:List Nat}{s:Nat}{x:Bool}(h:aH S f vs (.one (.p (.bool x)))):gP S al (.pc f vs rd s) d os Q env Tc↔al.kB (rd++[])=true/\RN S al os Q (put env d (.one (.p (.bool x)))) Tc:=vS h rfl
theorem Fn{f:Int->List PV}(q:Int): ∀ (ids:List Int) (i:Nat),lR (.int .i64 q) (ids.map fun id=>(PV.int .i64 id,f id)) i=some (if q∈ids then some (i+ids.idxOf q,f q) else none):=by
 intro ids
 induction ids with
 |nil=>intro i;rfl
 |cons a ids ih=>
  intro i;simp only[aas,lR,sameKey,if_true];by_cases e:q=a
  ·subst e;simp
  ·have e':(q==a)=false:=by simpa using e
   have e2: ¬ (a=q):=fun h=>e h.symm
   simp only[e'];rw[ih];simp only[aat,e,false_or,List.idxOf_cons,beq_iff_eq,e2,cond_false];by_cases h:q∈ids
   ·have e3:(a==q)=false:=by simpa using e2
    simp[h,e3];omega
   ·simp[h]
theorem fg{f:Nat}{vs:List V}{P:V->aB->Prop}(hh:al.holds (allow (S.ctx al) f vs Tc)=true)(h: ∃ v Td,pz S f vs (allow (S.ctx al) f vs Tc) Tc v Td/\P v Td)
  (hK: ∀ v Td,P v Td->RN S al os Q (put env d v) Td):gP S al (.sc f vs) d os Q env Tc:=by
 obtain⟨v,Td,h1,h2⟩:=h;exact(SD hh h1).2 (hK v Td h2)
theorem da{al2:Al}:Al.all.holds al2=true:=rfl
theorem holds_of{al2:Al}(h1:al.kB al2.ids=true)(h2:al2.fs.all al.fs.contains=true):al.holds al2=true:=by
 unfold Al.holds;rw[h1,h2];simp
theorem eW{f:Nat}{vs:List V}{id:Nat}(h:(S.sites f).contains (bY id)=true):(allow (S.ctx al) f vs Tc).ok id=true:=by
 show(false||_||(S.sites f).contains (bY id))=true;rw[h];simp
theorem cK{f:Nat}{vs:List V}{id:Nat}(h:id∈(vs.map (co Tc)).flatten):(allow (S.ctx al) f vs Tc).ok id=true:=by
 show(false||(vs.map (co Tc)).flatten.contains id||_)=true;have:(vs.map (co Tc)).flatten.contains id=true:=by simpa using h
 rw[this];rfl
theorem r9{id g g0 o:Nat}{cs:List C}(h:Tc id=(g0,some (.var cs))):co Tc (.one (.Tn id g o))=id::(cs.map (dG Tc 5)).flatten:=by
 show dG Tc 6 (.Tn id g o)=_;rw[dG,h]
theorem zY{n:Nat}{v:PV}:dG Tc n (.p v)=[]:=by cases n<;>rfl
theorem jO{id g g0 z o l ty sz n:Nat}{es:List (List PV)}(h:Tc id=(g0,some (.arr ty sz es))):dG Tc (n+1) (.hsl id g z o l)=[id]:=by
 rw[dG,h]
def uZ(x:Nat × Option Ob)(id g:Nat):Option (PV × List Nat):=match x with
 |(g',some (.map ag es))=>if g'=g then some (.mp ag es,[id]) else none
 |(g',some (.fmap ag es))=>if g'=g then some (.mp ag es,[id]) else none
 |_=>none
theorem xP{n id g:Nat}:cH Tc (n+1) (.T6 id g)=uZ (Tc id) id g:=by
 rw[cH];rfl
end
theorem Rd:type_of%(And.intro @P9<|And.intro @Mx<|And.intro @My<|And.intro @tV<|And.intro @Mz<|And.intro @Qa<|And.intro @DE<|And.intro @MA<|And.intro @Qb<|And.intro @DF<|And.intro @MB<|And.intro @zh<|And.intro @w7<|And.intro @w8<|And.intro @qw<|And.intro @uQ<|And.intro @xK<|And.intro @pN<|And.intro @wT<|And.intro @tT<|And.intro @qT<|And.intro @vA<|And.intro @yp<|And.intro @qU<|And.intro @vG @yt):=And.intro @P9<|And.intro @Mx<|And.intro @My<|And.intro @tV<|And.intro @Mz<|And.intro @Qa<|And.intro @DE<|And.intro @MA<|And.intro @Qb<|And.intro @DF<|And.intro @MB<|And.intro @zh<|And.intro @w7<|And.intro @w8<|And.intro @qw<|And.intro @uQ<|And.intro @xK<|And.intro @pN<|And.intro @wT<|And.intro @tT<|And.intro @qT<|And.intro @vA<|And.intro @yp<|And.intro @qU<|And.intro @vG @yt
theorem Rt:type_of%(And.intro @Hc<|And.intro @Dm<|And.intro @GI<|And.intro @CF<|And.intro @GX<|And.intro @Dc<|And.intro @uH<|And.intro @s0<|And.intro @SG<|And.intro @SJ<|And.intro @SK<|And.intro @SI<|And.intro @BN<|And.intro @BO<|And.intro @af<|And.intro @yE<|And.intro @yF<|And.intro @Qc<|And.intro @DH<|And.intro @yV<|And.intro @KC<|And.intro @norm_int<|And.intro @yn<|And.intro @Cc<|And.intro @yi<|And.intro @Gn<|And.intro @Cd<|And.intro @Gq<|And.intro @yj<|And.intro @ym<|And.intro @yk<|And.intro @Gp<|And.intro @uY<|And.intro @ti<|And.intro @pG<|And.intro @Ga<|And.intro @bft<|And.intro @btf<|And.intro @bff<|And.intro @btt<|And.intro @Hf<|And.intro @Ed<|And.intro @wN<|And.intro @tQ<|And.intro @rH<|And.intro @xR<|And.intro @Hg<|And.intro @xQ<|And.intro @Bv<|And.intro @xO @F9):=And.intro @Hc<|And.intro @Dm<|And.intro @GI<|And.intro @CF<|And.intro @GX<|And.intro @Dc<|And.intro @uH<|And.intro @s0<|And.intro @SG<|And.intro @SJ<|And.intro @SK<|And.intro @SI<|And.intro @BN<|And.intro @BO<|And.intro @af<|And.intro @yE<|And.intro @yF<|And.intro @Qc<|And.intro @DH<|And.intro @yV<|And.intro @KC<|And.intro @norm_int<|And.intro @yn<|And.intro @Cc<|And.intro @yi<|And.intro @Gn<|And.intro @Cd<|And.intro @Gq<|And.intro @yj<|And.intro @ym<|And.intro @yk<|And.intro @Gp<|And.intro @uY<|And.intro @ti<|And.intro @pG<|And.intro @Ga<|And.intro @bft<|And.intro @btf<|And.intro @bff<|And.intro @btt<|And.intro @Hf<|And.intro @Ed<|And.intro @wN<|And.intro @tQ<|And.intro @rH<|And.intro @xR<|And.intro @Hg<|And.intro @xQ<|And.intro @Bv<|And.intro @xO @F9
theorem Rl:type_of%(And.intro @List.map_nil.{0,0}<|And.intro @List.append_nil.{0}<|And.intro @List.map_cons.{0,0}<|And.intro @List.cons_append.{0}<|And.intro @List.nil_append.{0}<|And.intro @List.drop_zero.{0}<|And.intro @List.take_zero.{0}<|And.intro @List.length_cons.{0}<|And.intro @List.length_nil.{0}<|And.intro @List.take_succ_cons.{0}<|And.intro @List.drop_nil.{0}<|And.intro @List.drop_succ_cons.{0}<|And.intro @List.length_map.{0,0}<|And.intro @List.take_nil.{0}<|And.intro @List.flatten_cons.{0}<|And.intro @List.getElem?_cons_zero.{0}<|And.intro @List.getElem?_cons_succ.{0}<|And.intro @List.all_nil.{0}<|And.intro @List.all_cons.{0}<|And.intro @List.not_mem_nil.{0} @Option.map_some.{0,0}):=And.intro @List.map_nil.{0,0}<|And.intro @List.append_nil.{0}<|And.intro @List.map_cons.{0,0}<|And.intro @List.cons_append.{0}<|And.intro @List.nil_append.{0}<|And.intro @List.drop_zero.{0}<|And.intro @List.take_zero.{0}<|And.intro @List.length_cons.{0}<|And.intro @List.length_nil.{0}<|And.intro @List.take_succ_cons.{0}<|And.intro @List.drop_nil.{0}<|And.intro @List.drop_succ_cons.{0}<|And.intro @List.length_map.{0,0}<|And.intro @List.take_nil.{0}<|And.intro @List.flatten_cons.{0}<|And.intro @List.getElem?_cons_zero.{0}<|And.intro @List.getElem?_cons_succ.{0}<|And.intro @List.all_nil.{0}<|And.intro @List.all_cons.{0}<|And.intro @List.not_mem_nil.{0} @Option.map_some.{0,0}
theorem Rb:type_of%(And.intro @Bool.false_eq_true<|And.intro @Bool.not_true<|And.intro @Bool.not_false<|And.intro @Bool.and_true<|And.intro @Bool.and_false<|And.intro @Bool.true_and<|And.intro @Bool.false_and<|And.intro @true_and<|And.intro @and_true<|And.intro @true_or<|And.intro @or_true<|And.intro @false_or<|And.intro @or_false<|And.intro @decide_true<|And.intro @decide_false<|And.intro @not_true_eq_false<|And.intro @not_false_eq_true<|And.intro @and_self<|And.intro @Nat.le_refl<|And.intro @Nat.zero_add<|And.intro @Nat.mul_one<|And.intro @Nat.zero_mul<|And.intro @Nat.zero_le<|And.intro @Nat.sub_zero @Int.zero_add):=And.intro @Bool.false_eq_true<|And.intro @Bool.not_true<|And.intro @Bool.not_false<|And.intro @Bool.and_true<|And.intro @Bool.and_false<|And.intro @Bool.true_and<|And.intro @Bool.false_and<|And.intro @true_and<|And.intro @and_true<|And.intro @true_or<|And.intro @or_true<|And.intro @false_or<|And.intro @or_false<|And.intro @decide_true<|And.intro @decide_false<|And.intro @not_true_eq_false<|And.intro @not_false_eq_true<|And.intro @and_self<|And.intro @Nat.le_refl<|And.intro @Nat.zero_add<|And.intro @Nat.mul_one<|And.intro @Nat.zero_mul<|And.intro @Nat.zero_le<|And.intro @Nat.sub_zero @Int.zero_add
def grown(site ty z:Nat)(es:List (List PV))(v:V)(Tc:aB):Prop:=(es=[]/\v= .one (.p .nils))\/(es≠[]/\ ∃ g,v= .one (.hsl site g z 0 es.length)/\Tc site=(g,some (.arr ty z es)))
def aq(ty z:Nat)(es:List (List PV)):RC:=if es=[] then .p .nils else .own ty z es
theorem grown.of_eq{site ty z:Nat}{es:List (List PV)}{v:V}{Tc Td:aB}(h:grown site ty z es v Tc)(hb:Td site=Tc site):grown site ty z es v Td:=by
 rcases h with h|⟨h1,g,h2,h3⟩
 ·exact .inl h
 ·exact .inr ⟨h1,g,h2,by rw[hb,h3]⟩
theorem grown.nil{site ty z:Nat}{Tc:aB}:grown site ty z [] (.one (.p .nils)) Tc:= .inl ⟨rfl,rfl⟩
theorem grown.eo{site ty z:Nat}{es:List (List PV)}{v:V}{Tc:aB}(h:grown site ty z es v Tc): ∃ c o,v= .one c/\eo Tc c=some (aq ty z es,o,[])/\(o=[]\/o=[site]):=by
 rcases h with ⟨h1,h2⟩|⟨h1,g,h2,h3⟩
 ·exact⟨.p .nils,[],h2,by simp[Go.Abs.eo,aq,h1], .inl rfl⟩
 ·refine⟨_,[site],h2,?_, .inr rfl⟩;simp only[Go.Abs.eo,h3,and_self,aal,if_true,aa7,aq,if_neg h1]
theorem iV{site ty z:Nat}{es:List (List PV)}{v:V}{Tc:aB}(h:grown site ty z es v Tc):en Tc v=some (.one (aq ty z es)):=by
 obtain⟨c,o,rfl,h2,h3⟩:=h.eo;rcases h3 with rfl|rfl
 ·simp[en,et,cb,dg,h2,apart,eZ,cX]
 ·simp[en,et,cb,dg,h2,apart,eZ,cX]
theorem km{s1 t1 z1 s2 t2 z2:Nat}{es fs:List (List PV)}{v w:V}{Tc:aB}(hs:s1≠s2)(h:grown s1 t1 z1 es v Tc)(h':grown s2 t2 z2 fs w Tc):en Tc (.tup [v,w])=some (.tup [.one (aq t1 z1 es), .one (aq t2 z2 fs)]):=by
 obtain⟨c,o,rfl,h2,h3⟩:=h.eo;obtain⟨d,q,rfl,k2,k3⟩:=h'.eo;rcases h3 with rfl|rfl<;>rcases k3 with rfl|rfl<;>simp[en,et,iF,cb,dg,h2,k2,apart,eZ,cX,nh,hs]
theorem grown.elems{site ty z:Nat}{es:List (List PV)}{v:V}{Tc:aB}(h:grown site ty z es v Tc): ∃ r,bh Tc v=some (es,r,[])/\(r=[]\/r=[site]):=by
 rcases h with ⟨h1,h2⟩|⟨h1,g,h2,h3⟩
 ·exact⟨[],by rw[h2,h1];rfl, .inl rfl⟩
 ·refine⟨[site],?_, .inr rfl⟩;rw[h2];simp[bh,h3]
theorem grown.kA{site ty z:Nat}{es:List (List PV)}{v:V}{Tc:aB}(h:grown site ty z es v Tc):es=[]\/kA v=some z:=by
 rcases h with ⟨h1,h2⟩|⟨h1,g,h2,h3⟩
 ·exact .inl h1
 ·exact .inr (by rw[h2];rfl)
theorem grown.gI{site ty z:Nat}{es:List (List PV)}{v:V}{Tc:aB}(h:grown site ty z es v Tc):Go.Abs.kA v=some z\/gI z es=true:=by
 rcases h.kA with h|h
 ·exact .inr (by rw[h];rfl)
 ·exact .inl h
theorem grown.len{site ty z:Nat}{es:List (List PV)}{v:V}{Tc:aB}(h:grown site ty z es v Tc):tZ v=some es.length:=by
 rcases h with ⟨h1,h2⟩|⟨h1,g,h2,h3⟩
 ·rw[h1,h2];rfl
 ·rw[h2];rfl
theorem grown.cH{site ty z:Nat}{es:List (List PV)}{v:V}{Tc:aB}(h:grown site ty z es v Tc): ∃ r,fM Tc v=some (.one (.p (.sl es)),r)/\(r=[]\/r=[site]):=by
 rcases h with ⟨h1,h2⟩|⟨h1,g,h2,h3⟩
 ·exact⟨[],by rw[h2,h1];rfl, .inl rfl⟩
 ·refine⟨[site],?_, .inr rfl⟩;rw[h2];simp[fM,bN,Go.Abs.cH,h3]
theorem grown.JV{site ty z:Nat}{es:List (List PV)}{c:C}{Tc:aB}(h:grown site ty z es (.one c) Tc){n:Nat}: ∃ r,Go.Abs.cH Tc (n+1) c=some (.sl es,r)/\(r=[]\/r=[site]):=by
 rcases h with ⟨h1,h2⟩|⟨h1,g,h2,h3⟩
 ·cases h2;exact⟨[],by rw[h1];rfl, .inl rfl⟩
 ·refine⟨[site],?_, .inr rfl⟩;cases h2
  simp[Go.Abs.cH,h3]
section
variable {S:Sys} {al:Al} {Q:cZ} {env:Env} {Tc:aB} {os all:List az} {tr:List dE} {d:Option Nat}
theorem fW{id site ty z bytes:Nat}{es xs:List (List PV)}{v x:V}{rd:List Nat}(hg:grown id ty z es v Tc)(hx:bh Tc x=some (xs,rd,[]))(hz:kA x=some z\/gI z xs=true)(hr:(es.length+xs.length)*bytes<=140737488355328):
  ∃ v' u r,ac Tc site ty z bytes v x= .done v' u r/\grown site ty z (es++xs) v' (app u Tc)/\(∀ i,i≠site->i≠id->app u Tc i=Tc i)/\(r=rd/\u.map (·.1)=[]\/r=site::rd/\u.map (·.1)=[site]\/r=site::id::rd/\u.map (·.1)=[id,site]):=by
 have Yq: ¬¬(kA x=some z\/gI z xs=true):=fun h=>h hz
 rcases hg with ⟨rfl,rfl⟩|⟨TA,g,rfl,hC⟩
 ·by_cases h0:xs=[]
  ·subst h0;refine⟨.one (.p .nils),[],rd,?_, .inl ⟨rfl,rfl⟩,fun i _ _=>rfl, .inl ⟨rfl,rfl⟩⟩;simp[ac,hx,Yq,DN,o9]
  ·have hl: ¬ xs.length=0:=by simpa using h0
   have Yr:xs.length*bytes<=room:=by simpa [room] using hr
   refine⟨.one (.hsl site ((Tc site).1+1) z 0 xs.length),[(site,((Tc site).1+1,some (.arr ty z xs)))],site::rd,?_, .inr ⟨by simpa using h0,(Tc site).1+1,by simp,?_⟩,fun i h1 _=> ?_, .inr (.inl ⟨rfl,rfl⟩)⟩
   ·simp only[ac,hx,if_neg Yq,DN,o9,if_neg hl,if_pos Yr];simp
   ·simp[app,af]
   ·simp[app,af,h1]
 ·have Yr:(es.length+xs.length)*bytes<=room:=by simpa [room] using hr
  refine⟨.one (.hsl site ((Tc site).1+1) z 0 (es.length+xs.length)),[(id,(g,none)),(site,((Tc site).1+1,some (.arr ty z (es++xs))))],site::id::rd,?_, .inr ⟨by simp[TA],(Tc site).1+1,by simp,?_⟩,fun i h1 h2=> ?_, .inr (.inr ⟨rfl,rfl⟩)⟩
  ·simp only[ac,hx,if_neg Yq,DN,o9,hC];simp[Yr]
  ·simp[app,af]
  ·simp[app,af,h1,h2]
theorem gk{id site ty z bytes:Nat}{es xs:List (List PV)}{v x:V}{rd:List Nat}(hg:grown id ty z es v Tc)(hx:bh Tc x=some (xs,rd,[]))(hz:kA x=some z\/gI z xs=true)(hr:(es.length+xs.length)*bytes<=140737488355328)
  (hK: ∀ (c:C) Td,grown site ty z (es++xs) (.one c) Td->(∀ i,i≠site->i≠id->Td i=Tc i)->RN S .all os Q (put env d (.one c)) Td):gP S .all (ac Tc site ty z bytes v x) d os Q env Tc:=by
 obtain⟨v',u,r,h1,h2,h3,_⟩:=fW hg hx hz hr;obtain⟨c,o,rfl,_⟩:=h2.eo;rw[h1,rq];exact hK _ _ h2 h3
theorem fi{id site ty z bytes:Nat}{es xs:List (List PV)}{v x:V}{rd:List Nat}(hg:grown id ty z es v Tc)(hx:bh Tc x=some (xs,rd,[]))(hz:kA x=some z\/gI z xs=true)(hr:(es.length+xs.length)*bytes<=140737488355328)
  (hK: ∀ (c:C) Td r w,grown site ty z (es++xs) (.one c) Td->(∀ i,i≠site->i≠id->Td i=Tc i)->(r=rd/\w=[]\/r=site::rd/\w=[site]\/r=site::id::rd/\w=[id,site])->RD S .all all os Q (put env d (.one c)) Td (tr++[⟨r,w,[]⟩])):dP S .all (ac Tc site ty z bytes v x) d all os Q env Tc tr:=by
 obtain⟨v',u,r,h1,h2,h3,h4⟩:=fW hg hx hz hr;obtain⟨c,o,rfl,_⟩:=h2.eo;rw[h1,GY];exact hK _ _ _ _ h2 h3 h4
theorem fp{s ty z:Nat}{es:List (List PV)}:grown s ty z es (.one (ik Tc s (aq ty z es)).1) (app (ik Tc s (aq ty z es)).2 Tc)/\(∀ i,i≠s->app (ik Tc s (aq ty z es)).2 Tc i=Tc i)/\((ik Tc s (aq ty z es)).2.map (·.1)=[]\/(ik Tc s (aq ty z es)).2.map (·.1)=[s]):=by
 unfold aq;by_cases h:es=[]
 ·rw[if_pos h];exact⟨.inl ⟨h,rfl⟩,fun i _=>rfl, .inl rfl⟩
 ·rw[if_neg h];exact⟨.inr ⟨h,(Tc s).1+1,rfl,by simp[ik,app,af]⟩,fun i hi=>by simp[ik,app,af,hi], .inr rfl⟩
theorem cQ(r:RV):r.bK false=r:=rfl
theorem fQ{f:Nat}{vs:List V}{s ty z:Nat}{rd:List Nat}{es:List (List PV)}(hp:aH S f vs (.one (aq ty z es)))(Uy:S.lone s=false)(YR:rd=[]\/(RV.one (aq ty z es)).alone=true)
  (hK: ∀ (c:C) Td,grown s ty z es (.one c) Td->(∀ i,i≠s->Td i=Tc i)->RN S .all os Q (put env d (.one c)) Td):gP S .all (.pc f vs rd s) d os Q env Tc:=by
 obtain⟨h1,h2,_⟩:=fp (Tc:=Tc) (s:=s) (ty:=ty) (z:=z) (es:=es);refine(ai (v:= .one (ik Tc s (aq ty z es)).1) (u:=(ik Tc s (aq ty z es)).2) hp ?_).2 (hK _ _ h1 h2);rw[Uy,cQ];unfold land;rw[if_pos YR];simp[lm,eJ,dA,iC,lz,ff]
theorem GM{f:Nat}{vs:List V}{s t1 z1 t2 z2:Nat}{es fs:List (List PV)}(hp:aH S f vs (.tup [.one (aq t1 z1 es), .one (aq t2 z2 fs)]))(Uy:S.lone s=false)
  (hK: ∀ (c e:C) Td,grown s t1 z1 es (.one c) Td->grown (s+1) t2 z2 fs (.one e) Td->(∀ i,i≠s->i≠s+1->Td i=Tc i)->RN S .all os Q (put env d (.tup [.one c, .one e])) Td):gP S .all (.pc f vs [] s) d os Q env Tc:=by
 obtain⟨h1,h2,_⟩:=fp (Tc:=Tc) (s:=s) (ty:=t1) (z:=z1) (es:=es);have e0: ∀ (b b':aB) (k:Nat) (r:RC),b' k=b k->ik b k r=ik b' k r:=by
  intro b b' k r h;cases r with
  |p v=>rfl
  |own ty sz es=>simp only[ik,h]
 have e2:ik Tc (s+1) (aq t2 z2 fs)=ik (app (ik Tc s (aq t1 z1 es)).2 Tc) (s+1) (aq t2 z2 fs):=e0 _ _ _ _ (h2 (s+1) (by omega));obtain⟨k1,k2,_⟩:=fp (Tc:=app (ik Tc s (aq t1 z1 es)).2 Tc) (s:=s+1) (ty:=t2) (z:=z2) (es:=fs);rw[<- e2] at k1 k2;have aet: ∀ (a b:List jv) (c:aB),app (a++b) c=app b (app a c):=by
  intro a
  induction a with
  |nil=>intro b c;rfl
  |cons x a ih=>intro b c;exact ih b _
 refine(ai (v:= .tup [.one (ik Tc s (aq t1 z1 es)).1, .one (ik Tc (s+1) (aq t2 z2 fs)).1]) (u:=(ik Tc s (aq t1 z1 es)).2++(ik Tc (s+1) (aq t2 z2 fs)).2) hp ?_).2 (hK _ _ _ ?_ ?_ ?_)
 ·rw[Uy,cQ];unfold land;rw[if_pos (.inl rfl)];simp[lm,eJ,gR,dA,iC,lz,iQ,ff]
 ·rw[aet];exact h1.of_eq (k2 s (by omega))
 ·rw[aet];exact k1
 ·intro i a b;rw[aet,k2 i b,h2 i a]
end
theorem ap{ty z:Nat}{es:List (List PV)}(h:(es.all fun e=>e.all PV.scalar)=true):(RV.one (aq ty z es)).alone=true:=by
 unfold aq;split
 ·rfl
 ·simp[RV.alone,eJ,dA,RC.alone,h]
theorem grown.bN{site ty z:Nat}{es:List (List PV)}{c:C}{Tc:aB}(h:grown site ty z es (.one c) Tc): ∃ r,Go.Abs.cH Tc Go.Abs.bN c=some (.sl es,r)/\(r=[]\/r=[site]):=h.JV
def kz(Tc:aB)(r:List Nat):Prop:= ∀ i∈r,∃ g ty z es,Tc i=(g,some (.arr ty z es))
theorem kz.nil{Tc:aB}:kz Tc []:=fun _ h=>by simp at h
theorem kz.app{Tc:aB}{a b:List Nat}(h:kz Tc a)(k:kz Tc b):kz Tc (a++b):=fun i hi=>by
 rcases aaM.1 hi with hi|hi
 ·exact h i hi
 ·exact k i hi
theorem grown.JW{site ty z:Nat}{es:List (List PV)}{c:C}{Tc:aB}(h:grown site ty z es (.one c) Tc): ∃ r,Go.Abs.cH Tc Go.Abs.bN c=some (.sl es,r)/\kz Tc r/\(r=[]\/r=[site]):=by
 rcases h with ⟨h1,h2⟩|⟨h1,g,h2,h3⟩
 ·cases h2;exact⟨[],by rw[h1];rfl,kz.nil, .inl rfl⟩
 ·refine⟨[site],?_,fun i hi=> ?_, .inr rfl⟩
  ·cases h2
   simp[Go.Abs.cH,Go.Abs.bN,h3]
  ·rw[adq] at hi;subst hi;exact⟨_,_,_,_,h3⟩
theorem Q8{Tc:aB}(all:List Nat): ∀ r:List Nat,kz Tc r-> ∃ fu,o9 Tc all r=some fu/\fu.map (·.1)=r:=by
 intro r
 induction r with
 |nil=>intro _;exact⟨[],rfl,rfl⟩
 |cons i r ih=>
  intro h;obtain⟨g,ty,z,es,hi⟩:=h i (by simp);obtain⟨fu,h1,h2⟩:=ih fun j hj=>h j (by simp[hj])
  refine⟨(i,(g,some (.Ul ty z es)))::fu,?_,by simp[h2]⟩;simp[o9,sD,hi,h1]
theorem sW: ∀ (u:List jv) (b:aB) (i:Nat),i∉u.map (·.1)->app u b i=b i:=by
 intro u
 induction u with
 |nil=>intro b i _;rfl
 |cons x u ih=>
  intro b i h;simp only[aas,aat,not_or] at h;show app u (fD b x.1 x.2) i=b i;rw[ih _ _ h.2,af,if_neg h.1]
theorem mN: ∀ (a b:List jv) (c:aB),app (a++b) c=app b (app a c):=by
 intro a
 induction a with
 |nil=>intro b c;rfl
 |cons x a ih=>intro b c;exact ih b _
section
variable {S:Sys} {al:Al} {Q:cZ} {env:Env} {Tc:aB} {os all:List az} {tr:List dE} {d:Option Nat}
theorem GN{id site ty z bytes:Nat}{es xs:List (List PV)}{v x:V}{rd fr:List Nat}(hg:grown id ty z es v Tc)(hx:bh Tc x=some (xs,rd,fr))(Y2:kz Tc fr)(hni:id∉fr)(hns:site∉fr)(hz:kA x=some z\/gI z xs=true)(hr:(es.length+xs.length)*bytes<=140737488355328)
  (hK: ∀ (c:C) Td,grown site ty z (es++xs) (.one c) Td->(∀ i,i≠site->i≠id->i∉fr->Td i=Tc i)->RN S .all os Q (put env d (.one c)) Td):gP S .all (ac Tc site ty z bytes v x) d os Q env Tc:=by
 have Yq: ¬¬(kA x=some z\/gI z xs=true):=fun h=>h hz
 obtain⟨fu,hf1,hf2⟩:=Q8 fr fr Y2;have aeq:DN Tc fr=some fu:=hf1;rcases hg with ⟨rfl,rfl⟩|⟨TA,g,rfl,hC⟩
 ·by_cases h0:xs=[]
  ·subst h0;have:ac Tc site ty z bytes (.one (.p .nils)) x= .done (.one (.p .nils)) fu (rd++fr):=by simp[ac,hx,Yq,aeq]
   rw[this,rq];exact hK _ _ (.inl ⟨rfl,rfl⟩) fun i _ _ h3=>sW _ _ _ (by rw[hf2];exact h3)
  ·have hl: ¬ xs.length=0:=by simpa using h0
   have Yr:xs.length*bytes<=room:=by simpa [room] using hr
   have:ac Tc site ty z bytes (.one (.p .nils)) x= .done (.one (.hsl site ((Tc site).1+1) z 0 xs.length)) (fu++[(site,((Tc site).1+1,some (.arr ty z xs)))]) (site::rd++fr):=by
    simp only[ac,hx,if_neg Yq,aeq,if_neg hl,if_pos Yr]
   rw[this,rq];refine hK _ _ (.inr ⟨by simpa using h0,(Tc site).1+1,by simp,?_⟩) fun i h1 _ h3=> ?_
   ·rw[mN];simp[app,af]
   ·rw[mN];have:=sW fu Tc i (by rw[hf2];exact h3);simp[app,af,h1,this]
 ·have Yr:(es.length+xs.length)*bytes<=room:=by simpa [room] using hr
  have hnc:fr.contains id=false:=by simpa using hni
  have:ac Tc site ty z bytes (.one (.hsl id g z 0 es.length)) x= .done (.one (.hsl site ((Tc site).1+1) z 0 (es.length+xs.length))) (fu++[(id,(g,none)),(site,((Tc site).1+1,some (.arr ty z (es++xs))))]) (site::id::rd++fr):=by
   simp only[ac,hx,if_neg Yq,aeq,hC,hnc];simp[Yr]
  rw[this,rq];refine hK _ _ (.inr ⟨by simp[TA],(Tc site).1+1,by simp,?_⟩) fun i h1 h2 h3=> ?_
  ·rw[mN];simp[app,af]
  ·rw[mN];have:=sW fu Tc i (by rw[hf2];exact h3);simp[app,af,h1,h2,this]
theorem Q0{f:Nat}{vs:List V}{s t1 z1 t2 z2:Nat}{rd:List Nat}{es fs:List (List PV)}(hp:aH S f vs (.tup [.one (aq t1 z1 es), .one (aq t2 z2 fs)]))(Uy:S.lone s=false)
  (h1:(es.all fun e=>e.all PV.scalar)=true) (h2:(fs.all fun e=>e.all PV.scalar)=true)
  (hK: ∀ (c e:C) Td,grown s t1 z1 es (.one c) Td->grown (s+1) t2 z2 fs (.one e) Td->(∀ i,i≠s->i≠s+1->Td i=Tc i)->RN S .all os Q (put env d (.tup [.one c, .one e])) Td):gP S .all (.pc f vs rd s) d os Q env Tc:=by
 have UG:(RV.tup [.one (aq t1 z1 es), .one (aq t2 z2 fs)]).alone=true:=by
  have a:=ap (ty:=t1) (z:=z1) h1;have b:=ap (ty:=t2) (z:=z2) h2;simp only[RV.alone,eJ,dA,abR,abZ,ach] at a b;simp[RV.alone,eJ,gR,dA,a,b]
 have h:gP S .all (.pc f vs [] s) d os Q env Tc:=GM hp Uy hK;obtain⟨y,hy,h3⟩:=h;refine⟨y,hy,?_⟩;have:=hy.MJ hp;subst this;rw[Uy,cQ] at h3 ⊢;unfold land at h3 ⊢;rw[if_pos (.inl rfl)] at h3;rw[if_pos (.inr UG)];obtain⟨_,h4⟩:=h3;exact⟨Al.kT _,h4⟩
end
theorem Cf{a i:Nat}{l:List Nat}(hi:i∈l)(h:a∉l):i≠a:=fun e=>h (e▸hi)
section
variable {S:Sys} {al:Al} {Q:cZ} {env:Env} {Tc:aB} {os all:List az} {tr:List dE} {d:Option Nat}
theorem EJ{l:List Nat}(h: ∀ i∈l,al.ok i=true):al.kB l=true:=aaJ.2 h
theorem uv{id site ty z bytes:Nat}{es xs:List (List PV)}{v x:V}{rd:List Nat}(Tj: ∀ i∈site::id::rd,al.ok i=true)(hg:grown id ty z es v Tc)(hx:bh Tc x=some (xs,rd,[]))(hz:kA x=some z\/gI z xs=true)(hr:(es.length+xs.length)*bytes<=140737488355328)
  (hK: ∀ (c:C) Td,grown site ty z (es++xs) (.one c) Td->(∀ i,i≠site->i≠id->Td i=Tc i)->RN S al os Q (put env d (.one c)) Td):gP S al (ac Tc site ty z bytes v x) d os Q env Tc:=by
 obtain⟨v',u,r,h1,h2,h3,h4⟩:=fW hg hx hz hr;obtain⟨c,o,rfl,_⟩:=h2.eo;rw[h1,vR];refine⟨?_,hK _ _ h2 h3⟩;rcases h4 with ⟨rfl,h5⟩|⟨rfl,h5⟩|⟨rfl,h5⟩<;>rw[h5]<;>refine EJ fun i hi=>Tj i ?_ <;>simp at hi ⊢
 ·exact .inr (.inr hi)
 ·rcases hi with h|h|h<;>simp[h]
 ·rcases hi with h|h|h|h|h<;>simp[h]
theorem uz{id site ty z bytes:Nat}{es xs:List (List PV)}{v x:V}{rd:List Nat}(Tj: ∀ i∈site::id::rd,al.ok i=true)(hg:grown id ty z es v Tc)(hx:bh Tc x=some (xs,rd,[]))(hz:kA x=some z\/gI z xs=true)(hr:(es.length+xs.length)*bytes<=140737488355328)
  (hK: ∀ (c:C) Td r w,grown site ty z (es++xs) (.one c) Td->(∀ i,i≠site->i≠id->Td i=Tc i)->(r=rd/\w=[]\/r=site::rd/\w=[site]\/r=site::id::rd/\w=[id,site])->RD S al all os Q (put env d (.one c)) Td (tr++[⟨r,w,[]⟩])):dP S al (ac Tc site ty z bytes v x) d all os Q env Tc tr:=by
 obtain⟨v',u,r,h1,h2,h3,h4⟩:=fW hg hx hz hr;obtain⟨c,o,rfl,_⟩:=h2.eo;rw[h1,wH];refine⟨?_,hK _ _ _ _ h2 h3 h4⟩;rcases h4 with ⟨rfl,h5⟩|⟨rfl,h5⟩|⟨rfl,h5⟩<;>rw[h5]<;>refine EJ fun i hi=>Tj i ?_ <;>simp at hi ⊢
 ·exact .inr (.inr hi)
 ·rcases hi with h|h|h<;>simp[h]
 ·rcases hi with h|h|h|h|h<;>simp[h]
theorem Q7{f:Nat}{vs:List V}{s t1 z1 t2 z2:Nat}{rd:List Nat}{es fs:List (List PV)}(Tj: ∀ i∈s::(s+1)::rd,al.ok i=true)(hp:aH S f vs (.tup [.one (aq t1 z1 es), .one (aq t2 z2 fs)]))(Uy:S.lone s=false)
  (Vz:(es.all fun e=>e.all PV.scalar)=true) (Ur:(fs.all fun e=>e.all PV.scalar)=true)
  (hK: ∀ (c e:C) Td,grown s t1 z1 es (.one c) Td->grown (s+1) t2 z2 fs (.one e) Td->(∀ i,i≠s->i≠s+1->Td i=Tc i)->RN S al os Q (put env d (.tup [.one c, .one e])) Td):gP S al (.pc f vs rd s) d os Q env Tc:=by
 have UG:(RV.tup [.one (aq t1 z1 es), .one (aq t2 z2 fs)]).alone=true:=by
  have a:=ap (ty:=t1) (z:=z1) Vz;have b:=ap (ty:=t2) (z:=z2) Ur;simp only[RV.alone,eJ,dA,abR,abZ,ach] at a b;simp[RV.alone,eJ,gR,dA,a,b]
 obtain⟨h1,h2,h2u⟩:=fp (Tc:=Tc) (s:=s) (ty:=t1) (z:=z1) (es:=es);have e0: ∀ (b b':aB) (k:Nat) (r:RC),b' k=b k->ik b k r=ik b' k r:=by
  intro b b' k r h;cases r with
  |p v=>rfl
  |own ty sz es=>simp only[ik,h]
 have e2:ik Tc (s+1) (aq t2 z2 fs)=ik (app (ik Tc s (aq t1 z1 es)).2 Tc) (s+1) (aq t2 z2 fs):=e0 _ _ _ _ (h2 (s+1) (by omega));obtain⟨k1,k2,k2u⟩:=fp (Tc:=app (ik Tc s (aq t1 z1 es)).2 Tc) (s:=s+1) (ty:=t2) (z:=z2) (es:=fs);rw[<- e2] at k1 k2 k2u;refine⟨_,hp,?_⟩;rw[Uy,cQ];have hl:land Tc rd s (RV.tup [.one (aq t1 z1 es), .one (aq t2 z2 fs)])=some (.tup [.one (ik Tc s (aq t1 z1 es)).1, .one (ik Tc (s+1) (aq t2 z2 fs)).1],(ik Tc s (aq t1 z1 es)).2++(ik Tc (s+1) (aq t2 z2 fs)).2):=by
  unfold land;rw[if_pos (.inr UG)];simp[lm,eJ,gR,dA,iC,lz,iQ,ff]
 rw[hl];refine⟨EJ fun i hi=>Tj i ?_,hK _ _ _ ?_ ?_ ?_⟩
 ·simp only[abQ,aaM] at hi;rcases hi with hi|hi|hi
  ·simp[hi]
  ·rcases h2u with h|h<;>rw[h] at hi<;>simp at hi<;>simp[hi]
  ·rcases k2u with h|h<;>rw[h] at hi<;>simp at hi<;>simp[hi]
 ·rw[mN];exact h1.of_eq (k2 s (by omega))
 ·rw[mN];exact k1
 ·intro i a b;rw[mN,k2 i b,h2 i a]
end
theorem aj{b:aB}{a i:Nat}{x:Nat × Option Ob}(h:i≠a):fD b a x i=b i:=by rw[af,if_neg h]
theorem fL{b:aB}{a:Nat}{x:Nat × Option Ob}:fD b a x a=x:=by rw[af,if_pos rfl]
theorem Ae{a i:Nat}{l:List Nat}(h:i∉l)(ha:a∈l):i≠a:=fun e=>h (e▸ha)
section
variable {S:Sys} {al:Al} {Q:cZ} {env:Env} {Tc:aB} {os all:List az} {tr:List dE} {d:Option Nat}
theorem Lw{f:Nat}{vs:List V}{s ty z:Nat}{es:List (List PV)}{x:PV}(hp:aH S f vs (.tup [.one (aq ty z es), .one (.p x)]))(Uy:S.lone s=false)
  (hK: ∀ (c:C) Td,grown s ty z es (.one c) Td->(∀ i,i≠s->Td i=Tc i)->RN S .all os Q (put env d (.tup [.one c, .one (.p x)])) Td):gP S .all (.pc f vs [] s) d os Q env Tc:=by
 obtain⟨h1,h2,_⟩:=fp (Tc:=Tc) (s:=s) (ty:=ty) (z:=z) (es:=es);refine(ai (v:= .tup [.one (ik Tc s (aq ty z es)).1, .one (.p x)]) (u:=(ik Tc s (aq ty z es)).2) hp ?_).2 (hK _ _ h1 h2);rw[Uy,cQ];unfold land;rw[if_pos (.inl rfl)];simp[lm,eJ,gR,dA,iC,lz,iQ,ff,ik]
theorem dJ{f:Nat}{vs:List V}{s ty z:Nat}{rd:List Nat}{es:List (List PV)}(hp:aH S f vs (.one (aq ty z es)))(Uy:S.lone s=false)(YR:rd=[]\/(RV.one (aq ty z es)).alone=true)
  (hK: ∀ (c:C) Td w,grown s ty z es (.one c) Td->(∀ i,i≠s->Td i=Tc i)->(w=[]\/w=[s])->RD S .all all os Q (put env d (.one c)) Td (tr++[⟨rd++w,w,[]⟩])):dP S .all (.pc f vs rd s) d all os Q env Tc tr:=by
 obtain⟨h1,h2,h3⟩:=fp (Tc:=Tc) (s:=s) (ty:=ty) (z:=z) (es:=es);refine(aY (v:= .one (ik Tc s (aq ty z es)).1) (u:=(ik Tc s (aq ty z es)).2) hp ?_).2 (hK _ _ _ h1 h2 h3);rw[Uy,cQ];unfold land;rw[if_pos YR];simp[lm,eJ,dA,iC,lz,ff]
theorem LX{f:Nat}{vs:List V}{s ty z:Nat}{es:List (List PV)}{x:PV}(hp:aH S f vs (.tup [.one (aq ty z es), .one (.p x)]))(Uy:S.lone s=false)
  (hK: ∀ (c:C) Td w,grown s ty z es (.one c) Td->(∀ i,i≠s->Td i=Tc i)->(w=[]\/w=[s])->RD S .all all os Q (put env d (.tup [.one c, .one (.p x)])) Td (tr++[⟨[]++w,w,[]⟩])):dP S .all (.pc f vs [] s) d all os Q env Tc tr:=by
 obtain⟨h1,h2,h3⟩:=fp (Tc:=Tc) (s:=s) (ty:=ty) (z:=z) (es:=es);refine(aY (v:= .tup [.one (ik Tc s (aq ty z es)).1, .one (.p x)]) (u:=(ik Tc s (aq ty z es)).2) hp ?_).2 (hK _ _ _ h1 h2 h3);rw[Uy,cQ];unfold land;rw[if_pos (.inl rfl)];simp[lm,eJ,gR,dA,iC,lz,iQ,ff,ik]
theorem GL{f:Nat}{vs:List V}{s ty z:Nat}{rd:List Nat}{es:List (List PV)}{x:PV}(hp:aH S f vs (.agg [.p x,aq ty z es]))(Uy:S.lone s=false)(hx:x.scalar=true)(hs:(es.all fun e=>e.all PV.scalar)=true)
  (hK: ∀ (c:C) Td,grown (s+1) ty z es (.one c) Td->(∀ i,i≠s+1->Td i=Tc i)->RN S .all os Q (put env d (.agg [.p x,c])) Td):gP S .all (.pc f vs rd s) d os Q env Tc:=by
 obtain⟨h1,h2,_⟩:=fp (Tc:=Tc) (s:=s+1) (ty:=ty) (z:=z) (es:=es);have UG:(RV.agg [.p x,aq ty z es]).alone=true:=by
  have a:=ap (ty:=ty) (z:=z) hs;simp only[RV.alone,eJ,dA,abR,abZ,ach] at a;simp only[RV.alone,eJ,dA,abR,abZ,ach,a];exact hx
 refine(ai (v:= .agg [.p x,(ik Tc (s+1) (aq ty z es)).1]) (u:=(ik Tc (s+1) (aq ty z es)).2) hp ?_).2 (hK _ _ h1 h2);rw[Uy,cQ];unfold land;rw[if_pos (.inr UG)];simp[lm,eJ,dA,iC,lz,ff,ik]
theorem PO{f:Nat}{vs:List V}{s ty z:Nat}{es:List (List PV)}{x y:PV}(hp:aH S f vs (.tup [.agg [.p x,aq ty z es], .one (.p y)]))(Uy:S.lone s=false)
  (hK: ∀ (c:C) Td,grown (s+1) ty z es (.one c) Td->(∀ i,i≠s+1->Td i=Tc i)->RN S .all os Q (put env d (.tup [.agg [.p x,c], .one (.p y)])) Td):gP S .all (.pc f vs [] s) d os Q env Tc:=by
 obtain⟨h1,h2,_⟩:=fp (Tc:=Tc) (s:=s+1) (ty:=ty) (z:=z) (es:=es);refine(ai (v:= .tup [.agg [.p x,(ik Tc (s+1) (aq ty z es)).1], .one (.p y)]) (u:=(ik Tc (s+1) (aq ty z es)).2) hp ?_).2 (hK _ _ h1 h2);rw[Uy,cQ];unfold land;rw[if_pos (.inl rfl)];simp[lm,eJ,gR,dA,iC,lz,iQ,ff,ik]
end
theorem mt{s1 t1 z1:Nat}{es:List (List PV)}{c:C}{x y:PV}{Tc:aB}(h:grown s1 t1 z1 es (.one c) Tc):en Tc (.tup [.agg [.p x,c], .one (.p y)])=some (.tup [.agg [.p x,aq t1 z1 es], .one (.p y)]):=by
 obtain⟨c',o,hc,h2,h3⟩:=h.eo;cases hc
 have e1:eo Tc (.p x)=some (.p x,[],[]):=rfl;have e2:eo Tc (.p y)=some (.p y,[],[]):=rfl;rcases h3 with rfl|rfl<;>simp[en,et,iF,cb,dg,h2,e1,e2,apart,eZ,cX,nh]
section
variable {S:Sys} {al:Al} {Q:cZ} {env:Env} {Tc:aB} {os all:List az} {tr:List dE} {d:Option Nat} {op:w9} {w:Option Bool} {a b:an} {v:V}
theorem aX(L:List Nat)(h: ∀ e:Env,(∀ k∈L,e k=env k)->gW S al w d op os Q e Tc):gW S al w d op os Q env Tc:=h env fun _ _=>rfl
theorem fA(L:List Nat)(h: ∀ e:Env,(∀ k∈L,e k=env k)->dW S al w d op all os Q e Tc tr):dW S al w d op all os Q env Tc tr:=h env fun _ _=>rfl
theorem Ma(L:List Nat)(h: ∀ e:Env,(∀ k∈L,e k=env k)->cW S al v a b Q e Tc):cW S al v a b Q env Tc:=h env fun _ _=>rfl
end
section
variable {S:Sys} {al:Al} {Q:cZ} {env:Env} {Tc:aB} {os all:List az} {tr:List dE} {d:Option Nat}
end
section
variable {S:Sys} {al:Al} {Q:cZ} {env:Env} {Tc:aB} {os all:List az} {tr:List dE} {d:Option Nat} {op:w9} {a b:an} {e w:Bool}
theorem gQ(h1:e=true->gW S al (some (true==w)) d op os Q env Tc)(h2:e=false->gW S al (some (false==w)) d op os Q env Tc):gW S al (some (e==w)) d op os Q env Tc:=by
 cases e
 ·exact h2 rfl
 ·exact h1 rfl
theorem gO(h1:e=true->gW S al (some (false==w)) d op os Q env Tc)(h2:e=false->gW S al (some (true==w)) d op os Q env Tc):gW S al (some ((!e)==w)) d op os Q env Tc:=by
 cases e
 ·exact h2 rfl
 ·exact h1 rfl
theorem gU(h1:e=true->dW S al (some (true==w)) d op all os Q env Tc tr)(h2:e=false->dW S al (some (false==w)) d op all os Q env Tc tr):dW S al (some (e==w)) d op all os Q env Tc tr:=by
 cases e
 ·exact h2 rfl
 ·exact h1 rfl
theorem gT(h1:e=true->dW S al (some (false==w)) d op all os Q env Tc tr)(h2:e=false->dW S al (some (true==w)) d op all os Q env Tc tr):dW S al (some ((!e)==w)) d op all os Q env Tc tr:=by
 cases e
 ·exact h2 rfl
 ·exact h1 rfl
theorem gX(h1:e=true->cW S al (.one (.p (.bool true))) a b Q env Tc)(h2:e=false->cW S al (.one (.p (.bool false))) a b Q env Tc):cW S al (.one (.p (.bool e))) a b Q env Tc:=by
 cases e
 ·exact h2 rfl
 ·exact h1 rfl
theorem gV(h1:e=true->cW S al (.one (.p (.bool false))) a b Q env Tc)(h2:e=false->cW S al (.one (.p (.bool true))) a b Q env Tc):cW S al (.one (.p (.bool (!e)))) a b Q env Tc:=by
 cases e
 ·exact h2 rfl
 ·exact h1 rfl
theorem CH{rd:List Nat}{s:Nat}{r:RV}{v:V}{u:List jv}{f:Nat}{vs:List V}(hp:aH S f vs r)(h:land Tc rd s (r.bK (S.lone s))=some (v,u)):gP S al (.pc f vs rd s) d os Q env Tc↔al.kB (rd++u.map (·.1))=true/\RN S al os Q (put env d v) (app u Tc):=by
 constructor
 ·rintro ⟨y,hy,h2⟩
  have:=hy.MJ hp;subst this;rw[h] at h2;exact h2
 ·intro hK;refine⟨_,hp,?_⟩;rw[h];exact hK
theorem wE{rd:List Nat}{s:Nat}{r:RV}{v:V}{u:List jv}{f:Nat}{vs:List V}(hp:aH S f vs r)(h:land Tc rd s (r.bK (S.lone s))=some (v,u)):dP S al (.pc f vs rd s) d all os Q env Tc tr↔al.kB (rd++u.map (·.1))=true/\RD S al all os Q (put env d v) (app u Tc) (tr++[⟨rd++u.map (·.1),u.map (·.1),[]⟩]):=by
 constructor
 ·rintro ⟨y,hy,h2⟩
  have:=hy.MJ hp;subst this;rw[h] at h2;exact h2
 ·intro hK;refine⟨_,hp,?_⟩;rw[h];exact hK
theorem K0{s:Nat}{x:PV}(b:Bool):land Tc [] s ((RV.one (.p x)).bK b)=some (.one (.p x),[]):=by cases b<;>rfl
theorem PN{f:Nat}{vs:List V}{s:Nat}{x:PV}(h:aH S f vs (.one (.p x))):gP S al (.pc f vs [] s) d os Q env Tc↔RN S al os Q (put env d (.one (.p x))) Tc:=by
 rw[CH h (K0 _)];exact⟨fun h=>h.2,fun h=>⟨rfl,h⟩⟩
theorem LW{f:Nat}{vs:List V}{s:Nat}{x:PV}(h:aH S f vs (.one (.p x))):dP S al (.pc f vs [] s) d all os Q env Tc tr↔RD S al all os Q (put env d (.one (.p x))) Tc (tr++[⟨[],[],[]⟩]):=by
 rw[wE h (K0 _)];exact⟨fun h=>h.2,fun h=>⟨rfl,h⟩⟩
end
section
variable {S:Sys} {al:Al} {Q:cZ} {env:Env} {Tc:aB} {os all:List az} {tr:List dE} {d:Option Nat} {op:w9} {w:Option Bool} {a b:an} {v:V} {p:d5}
end
theorem grown.By{site ty z:Nat}{es:List (List PV)}{c:C}{Tc:aB}(h:grown site ty z es (.one c) Tc): ∃ r,(∀ B:aB,B site=Tc site->Go.Abs.cH B Go.Abs.bN c=some (.sl es,r))/\(r=[]\/r=[site]):=by
 rcases h with ⟨h1,h2⟩|⟨h1,g,h2,h3⟩
 ·cases h2
  exact⟨[],fun B _=>by rw[h1];rfl, .inl rfl⟩
 ·cases h2
  refine⟨[site],fun B hB=> ?_, .inr rfl⟩;rw[<- hB] at h3;simp[Go.Abs.bN,Go.Abs.cH,h3]
end Go.Abs
namespace Go.Abs
open Go
theorem vI{Tc:aB}{rd:List Nat}{s:Nat}{r:RV}(h:rd=[]\/r.alone=true):land Tc rd s r=some (lm Tc s r):=by
 unfold land;rw[if_pos h]
section
variable {S:Sys} {al:Al} {Q:cZ} {os all:List az} {d:Option Nat} {env:Env} {Tc:aB} {tr:List dE}
theorem bx{rd:List Nat}{s:Nat}{r:RV}{f:Nat}{vs:List V}(hp:aH S f vs r)(lo:S.lone s=false)(h:rd=[]\/r.alone=true):gP S al (.pc f vs rd s) d os Q env Tc↔al.kB (rd++(lm Tc s r).2.map (·.1))=true/\RN S al os Q (put env d (lm Tc s r).1) (app (lm Tc s r).2 Tc):=
 CH hp (by rw[lo,cQ];exact vI h)
theorem iJ{rd:List Nat}{s:Nat}{r:RV}{f:Nat}{vs:List V}(hp:aH S f vs r)(lo:S.lone s=false)(h:rd=[]\/r.alone=true):dP S al (.pc f vs rd s) d all os Q env Tc tr↔al.kB (rd++(lm Tc s r).2.map (·.1))=true/\RD S al all os Q (put env d (lm Tc s r).1) (app (lm Tc s r).2 Tc) (tr++[⟨rd++(lm Tc s r).2.map (·.1),(lm Tc s r).2.map (·.1),[]⟩]):=
 wE hp (by rw[lo,cQ];exact vI h)
end
theorem bm{ty z:Nat}{es:List (List PV)}(h:es≠[]):aq ty z es= .own ty z es:=if_neg h
theorem mu{ty z:Nat}:aq ty z []= .p .nils:=if_pos rfl
end Go.Abs
namespace Go.Abs
theorem fm1{p:Nat->Prop}:(∀ k∈([]:List Nat),p k)↔True:=by simp
theorem fm2{a:Nat}{l:List Nat}{p:Nat->Prop}:(∀ k∈a::l,p k)↔p a/\ ∀ k∈l,p k:=List.forall_mem_cons
attribute [go_sem] fm1 fm2 qS bne_self_eq_false Bool.or_true Bool.or_false Bool.true_or Bool.false_or Bool.not_not lm eJ dA gR ik iC lz ff iQ Option.getD_some Option.getD_none Option.isSome_some Option.isSome_none
attribute [go_sem ↓] Rd
attribute [go_sem high] rq GY
attribute [go_sem] Rt Rl Rb vR wH Ad vu Bool.and_self Al.kT
attribute [go_sem] aP mI gt Ox pW app if_true if_false reduceIte Nat.reduceEqDiff beq_self_eq_true reduceCtorEq ge_iff_le cF Gr uP CN Nat.reduceAdd xu gu uE bc fB tZ ne_eq Nat.reduceLeDiff jA kr qu xn toP fill Nat.reduceMul Nat.reduceLT uc qA
attribute [go_sem] bh kA gI DN o9 room fV ek Nat.reduceSub Int.reduceLT Int.reduceAdd Int.reduceBEq Int.reduceBNe Int.reduceLE List.contains_eq_mem kJ
end Go.Abs
