/-
  Rules for a walk.
-/
import Derived.Test.YtkfngecllhhooaaGreatDoorMc
import Derived.Attr
set_option linter.all false
namespace Go.Abs
section
variable{x:PV}{f site ty z:Nat}{vs:List V}{es:List (List PV)}
theorem K9(k:Nat):A4 (.one (.p (.int .i64 (k:Int))))=some k:=by simp[A4]
theorem La(n:Nat):A4 (.one (.p (.int .i64 (no_index (@OfNat.ofNat Int n instOfNat)))))=some (@OfNat.ofNat Nat n (instOfNatNat n)):=by show A4 (.one (.p (.int .i64 (Int.ofNat n))))=some n;simp[A4]
theorem Dd{blk:aw}{v:PV}:snap blk cG (.p v)=some (v.norm,[]):=rfl
def QY{β:Type}(x:Option (β×List Nat))(y:Option (List β×List Nat)):Option (List β×List Nat):=match x,y with
 |some (b,x),some (bs,y)=>some (b::bs,x++y)
 |_,_=>none
theorem zU{β:Type}{b:β}{x:List Nat}{bs:List β}{y:List Nat}:QY (some (b,x)) (some (bs,y))=some (b::bs,x++y):=rfl
theorem wP{α β:Type}{f:α->Option (β×List Nat)}:collect f []=some ([],[]):=rfl
theorem uI{α β:Type}{f:α->Option (β×List Nat)}{a:α}{r:List α}:collect f (a::r)=QY (f a) (collect f r):=by simp only[collect,QY];cases f a<;>cases collect f r<;>rfl
theorem Bf{blk:aw}{c:C}:gD blk (.one c)=(snap blk cG c).map fun(v,r)=>(.one (.p v),r):=rfl
theorem Bg{blk:aw}{cs:List C}:gD blk (.agg cs)=(collect (snap blk cG) cs).map fun(vs,r)=>(.agg (vs.map .p),r):=rfl
theorem JE{blk:aw}{n:Nat}{v:PV}:snap blk (n+1) (.p v)=some (v.norm,[]):=rfl
def w6(o:Nat×Option Ob)(col:List (List C)->Option (List (List PV)×List Nat))(id g off len:Nat):Option (PV×List Nat):=match o with
 |(g',some (.arr _ _ es))=>if g'=g/\off+len<=es.length then some (.sl ((es.drop off).take len),[id]) else none
 |(g',some (.abl _ _ es))=>if g'=g/\off+len<=es.length then some (.sl ((es.drop off).take len),[id]) else none
 |(g',some (.aaJ _ _ es))=>if g'=g/\off+len<=es.length then
   match col ((es.drop off).take len) with
   |some (ps,r)=>some (.sl ps,id::r)
   |none=>none
  else none
 |_=>none
theorem EX{blk:aw}{id g z off len:Nat}:snap blk cG (.hsl id g z off len)=w6 (blk id) (collect (collect (snap blk 5))) id g off len:=by unfold cG w6;rw[snap];rfl
def tO(o:Nat×Option Ob)(col:List C->Option (List PV×List Nat))(id g off:Nat):Option (PV×List Nat):=match o with
 |(g',some (.var cs))=>if g'=g then
   match col cs with
   |some (ps,r)=>some (.box (ps.drop off),id::r)
   |none=>none
  else none
 |(g',some (.fvar ps))=>if g'=g then some (.box (ps.drop off),[id]) else none
 |_=>none
theorem Bd{blk:aw}{id g off:Nat}:snap blk cG (.aam id g off)=tO (blk id) (collect (snap blk 5)) id g off:=by unfold cG tO;rw[snap];rfl
section
variable {S:Sys} {al:Al} {env:Env} {blk:aw} {d:Option Nat}
theorem iT{rd:List Nat}{s:Nat}{b:Bool}(hs:x.scalar=true):land blk rd s ((RV.one (.p x)).bn b)=some (.one (.p x),[]):=by
 have h1:(RV.one (.p x)).bn b=.one (.p x):=by cases b<;>rfl
 rw[h1];have:(RV.one (.p x)).alone=true:=by simp[RV.alone,dp,bQ,RC.alone,hs]
 simp only[land,this,or_true,if_true];rfl
theorem Qp{rd:List Nat}{s:Nat}{K:Env->aw->Prop}(h:aP S f vs (.one (.p x)))(hs:x.scalar=true):MN S .all (.pc f vs rd s) d env blk K↔K (put env d (.one (.p x))) blk:=by
 constructor
 .rintro ⟨y,hy,h2⟩
  have:=hy.Sp h;subst this;rw[iT hs] at h2;exact h2.2
 intro hK;refine⟨_,h,?_⟩;rw[iT hs];exact⟨Al.pO _,hK⟩
theorem Ue{rd:List Nat}{s:Nat}{tr:List dR}{K:Env->aw->List dR->Prop}(h:aP S f vs (.one (.p x)))(hs:x.scalar=true):Xj S .all (.pc f vs rd s) d env blk tr K↔K (put env d (.one (.p x))) blk (tr++[⟨rd,[],[]⟩]):=by
 constructor
 .rintro ⟨y,hy,h2⟩
  have:=hy.Sp h;subst this;rw[iT hs] at h2
  simpa [app] using h2.2
 intro hK;refine⟨_,h,?_⟩;rw[iT hs];exact⟨Al.pO _,by simpa [app] using hK⟩
theorem XY{ops:List aj}{Q:cU}:W S al (.region true ops) Q env blk↔WO S al ops (fun env blk es=>ig ops [] es=true/\Q .normal env blk) env blk []:=by
 rw[uP];constructor
 .rintro ⟨n,e,b,es,h1,h2,h3⟩;exact⟨n,e,b,es,h1,h2 rfl,h3⟩
 rintro ⟨n,e,b,es,h1,h2,h3⟩;exact⟨n,e,b,es,h1,fun _=>h2,h3⟩
end
theorem wrap_small{n:Nat}(h:n<=9223372036854775807):IntKind.i64.wrap (n:Int)=n:=qk h
theorem ak{n:Nat}(h:n<9223372036854775807):IntKind.i64.wrap ((n:Int)+1)=((n+1:Nat):Int):=qk (n:=n+1) (by omega)
section
variable {S:Sys} {al:Al} {Q:cU} {env:Env} {blk:aw} {a b:am} {ops os all:List aj} {tr:List dR} {d:Option Nat} {op:vQ} {n:Nat}
def qp(S:Sys)(al:Al)(b:am)(Q:cU):cU
 | .normal,env,blk=>W S al b Q env blk
 | .exit i,env,blk=>Q (.exit i) env blk
 | .ret,env,blk=>Q .ret env blk
theorem NY:A9 (W S al b Q) Q=qp S al b Q:=by funext e env blk;cases e<;>rfl
theorem Wh:W S al (.seq a b) Q env blk↔W S al a (qp S al b Q) env blk:=by rw[Nt,NY]
theorem tM:qp S al b Q .normal env blk=W S al b Q env blk:=rfl
theorem xO{i:Nat}:qp S al b Q (.exit i) env blk=Q (.exit i) env blk:=rfl
theorem A8:qp S al b Q .ret env blk=Q .ret env blk:=rfl
def cW (S:Sys)(al:Al)(v:V)(a b:am)(Q:cU)(env:Env)(blk:aw):Prop:=Cv v (W S al a Q env blk) (W S al b Q env blk)
theorem R6{x:aC}:W S al (.cond x a b) Q env blk↔cW S al (ev env x) a b Q env blk:=Jl
theorem K7:cW S al (.one (.p (.bool true))) a b Q env blk=W S al a Q env blk:=by simp[cW,Cv]
theorem GT:cW S al (.one (.p (.bool false))) a b Q env blk=W S al b Q env blk:=by simp[cW,Cv]
def RN (S:Sys)(al:Al)(ops:List aj)(Q:cU)(env:Env)(blk:aw):Prop:=WN S al ops (fun env blk=>Q .normal env blk) env blk
def gP (S:Sys)(al:Al)(p:d9)(d:Option Nat)(os:List aj)(Q:cU)(env:Env)(blk:aw):Prop:=MN S al p d env blk (WN S al os fun env blk=>Q .normal env blk)
def gW (S:Sys)(al:Al)(w:Option Bool)(d:Option Nat)(op:vQ)(os:List aj)(Q:cU)(env:Env)(blk:aw):Prop:=Ud S al w ⟨d,op,none,0⟩ env blk (WN S al os fun env blk=>Q .normal env blk)
theorem R0:W S al (.region false ops) Q env blk↔RN S al ops Q env blk:=Jk
theorem R7:RN S al [] Q env blk↔Q .normal env blk:=Jm
theorem Wi:RN S al (⟨d,op,none,n⟩::os) Q env blk↔gP S al (aM S.shared env blk op) d os Q env blk:=wV
theorem Hf{t:Nat}{w:Bool}:RN S al (⟨d,op,some (t,w),n⟩::os) Q env blk↔gW S al (vW (env t) w) d op os Q env blk:=by
 unfold RN gW;rw[wV];have:wanted env (some (t,w))=vW (env t) w:=rfl;simp only[this];cases vW (env t) w with
 |none=>rfl
 |some x=>cases x<;>rfl
theorem Kx:gW S al (some true) d op os Q env blk↔gP S al (aM S.shared env blk op) d os Q env blk:=Iff.rfl
theorem F8:gW S al (some false) d op os Q env blk↔RN S al os Q (put env d .undef) blk:=Iff.rfl
theorem uw{v:V}{u:List jS}{r:List Nat}:gP S .all (.done v u r) d os Q env blk↔RN S .all os Q (put env d v) (app u blk):=by show(Al.all.kY (r++u.map (·.1))=true/\_)↔_;rw[Al.pO];exact⟨fun h=>h.2,fun h=>⟨rfl,h⟩⟩
theorem za{v:V}{u:List jS}{r:List Nat}:gP S al (.done v u r) d os Q env blk↔al.kY (r++u.map (·.1))=true/\RN S al os Q (put env d v) (app u blk):=Iff.rfl
theorem DS{rd:List Nat}{s:Nat}(h:aP S f vs (.one (.p x)))(hs:x.scalar=true):gP S .all (.pc f vs rd s) d os Q env blk↔RN S .all os Q (put env d (.one (.p x))) blk:=Qp h hs
theorem a7{rd:List Nat}{s:Nat}{k:IntKind}{x:Int}(h:aP S f vs (.one (.p (.int k x)))):gP S .all (.pc f vs rd s) d os Q env blk↔RN S .all os Q (put env d (.one (.p (.int k x)))) blk:=DS h rfl
theorem au{rd:List Nat}{s:Nat}{x:Bool}(h:aP S f vs (.one (.p (.bool x)))):gP S .all (.pc f vs rd s) d os Q env blk↔RN S .all os Q (put env d (.one (.p (.bool x)))) blk:=DS h rfl
theorem qP{rd:List Nat}{s:Nat}{x:ByteArray}(h:aP S f vs (.one (.p (.str x)))):gP S .all (.pc f vs rd s) d os Q env blk↔RN S .all os Q (put env d (.one (.p (.str x)))) blk:=DS h rfl
theorem aq{rd:List Nat}{s:Nat}{r:RV}{v:V}{u:List jS}(hp:aP S f vs r)(h:land blk rd s (r.bn (S.lone s))=some (v,u)):gP S .all (.pc f vs rd s) d os Q env blk↔RN S .all os Q (put env d v) (app u blk):=by
 constructor
 .rintro ⟨y,hy,h2⟩
  have:=hy.Sp hp;subst this;rw[h] at h2;exact h2.2
 intro hK;refine⟨_,hp,?_⟩;rw[h];exact⟨Al.pO _,hK⟩
def RD (S:Sys)(al:Al)(all ops:List aj)(Q:cU)(env:Env)(blk:aw)(tr:List dR):Prop:=WO S al ops (fun env blk es=>ig all [] es=true/\Q .normal env blk) env blk tr
def dP (S:Sys)(al:Al)(p:d9)(d:Option Nat)(all os:List aj)(Q:cU)(env:Env)(blk:aw)(tr:List dR):Prop:=Xj S al p d env blk tr (WO S al os fun env blk es=>ig all [] es=true/\Q .normal env blk)
def dW (S:Sys)(al:Al)(w:Option Bool)(d:Option Nat)(op:vQ)(all os:List aj)(Q:cU)(env:Env)(blk:aw)(tr:List dR):Prop:=V4 S al w ⟨d,op,none,0⟩ env blk tr (WO S al os fun env blk es=>ig all [] es=true/\Q .normal env blk)
theorem R5:W S al (.region true ops) Q env blk↔RD S al ops ops Q env blk []:=XY
theorem R8:RD S al all [] Q env blk tr↔ig all [] tr=true/\Q .normal env blk:=tG
theorem Wj:RD S al all (⟨d,op,none,n⟩::os) Q env blk tr↔dP S al (aM S.shared env blk op) d all os Q env blk tr:=mI
theorem Hg{t:Nat}{w:Bool}:RD S al all (⟨d,op,some (t,w),n⟩::os) Q env blk tr↔dW S al (vW (env t) w) d op all os Q env blk tr:=by
 unfold RD dW;rw[mI];have:wanted env (some (t,w))=vW (env t) w:=rfl;simp only[this];cases vW (env t) w with
 |none=>rfl
 |some x=>cases x<;>rfl
theorem KR:dW S al (some true) d op all os Q env blk tr↔dP S al (aM S.shared env blk op) d all os Q env blk tr:=Iff.rfl
theorem GF:dW S al (some false) d op all os Q env blk tr↔RD S al all os Q (put env d .undef) blk (tr++[⟨[],[],[]⟩]):=Iff.rfl
theorem uE{v:V}{u:List jS}{r:List Nat}:dP S .all (.done v u r) d all os Q env blk tr↔RD S .all all os Q (put env d v) (app u blk) (tr++[⟨r,u.map (·.1),[]⟩]):=by show(Al.all.kY (r++u.map (·.1))=true/\_)↔_;rw[Al.pO];exact⟨fun h=>h.2,fun h=>⟨rfl,h⟩⟩
theorem zO{v:V}{u:List jS}{r:List Nat}:dP S al (.done v u r) d all os Q env blk tr↔al.kY (r++u.map (·.1))=true/\RD S al all os Q (put env d v) (app u blk) (tr++[⟨r,u.map (·.1),[]⟩]):=Iff.rfl
theorem Ed{rd:List Nat}{s:Nat}(h:aP S f vs (.one (.p x)))(hs:x.scalar=true):dP S .all (.pc f vs rd s) d all os Q env blk tr↔RD S .all all os Q (put env d (.one (.p x))) blk (tr++[⟨rd,[],[]⟩]):=Ue h hs
theorem gh{rd:List Nat}{s:Nat}{k:IntKind}{x:Int}(h:aP S f vs (.one (.p (.int k x)))):dP S .all (.pc f vs rd s) d all os Q env blk tr↔RD S .all all os Q (put env d (.one (.p (.int k x)))) blk (tr++[⟨rd,[],[]⟩]):=Ed h rfl
theorem fe{rd:List Nat}{s:Nat}{x:Bool}(h:aP S f vs (.one (.p (.bool x)))):dP S .all (.pc f vs rd s) d all os Q env blk tr↔RD S .all all os Q (put env d (.one (.p (.bool x)))) blk (tr++[⟨rd,[],[]⟩]):=Ed h rfl
theorem QT{rd:List Nat}{s:Nat}{x:ByteArray}(h:aP S f vs (.one (.p (.str x)))):dP S .all (.pc f vs rd s) d all os Q env blk tr↔RD S .all all os Q (put env d (.one (.p (.str x)))) blk (tr++[⟨rd,[],[]⟩]):=Ed h rfl
theorem r9{rd:List Nat}{s:Nat}{r:RV}{v:V}{u:List jS}(hp:aP S f vs r)(h:land blk rd s (r.bn (S.lone s))=some (v,u)):dP S .all (.pc f vs rd s) d all os Q env blk tr↔RD S .all all os Q (put env d v) (app u blk) (tr++[⟨rd++u.map (·.1),u.map (·.1),[]⟩]):=by
 constructor
 .rintro ⟨y,hy,h2⟩
  have:=hy.Sp hp;subst this;rw[h] at h2;exact h2.2
 intro hK;refine⟨_,hp,?_⟩;rw[h];exact⟨Al.pO _,hK⟩
def BK(N:Nat)(I:Nat->Env->aw->Prop)(k:Nat)(Q:cU):cU:=A9 (fun env blk=>k<N/\I (k+1) env blk) Q
theorem ug{N k:Nat}{I:Nat->Env->aw->Prop}:BK N I k Q .normal env blk=(k<N/\I (k+1) env blk):=rfl
theorem yE{N k i:Nat}{I:Nat->Env->aw->Prop}:BK N I k Q (.exit i) env blk=Q (.exit i) env blk:=rfl
theorem BJ{N k:Nat}{I:Nat->Env->aw->Prop}:BK N I k Q .ret env blk=Q .ret env blk:=rfl
theorem aV{c:am}(I:Nat->Env->aw->Prop)(k0 N:Nat)(hk:k0<=N)(h0:I k0 env blk)
  (round:∀k env blk,k<=N->I k env blk->W S al c (BK N I k Q) env blk):W S al (.loop c) Q env blk:=Z4 I k0 N hk h0 round
def QJ(R:V->aw->Prop)(blk:aw):Option (List V)->Prop
 |some vs=>R (xN vs) blk
 |none=>False
theorem Wk{res:List (Nat×Option (Option Nat))}{R:V->aw->Prop}:lh al res R .ret env blk=QJ R blk (cT al env blk res):=by simp only[lh,QJ];cases cT al env blk res<;>rfl
theorem Hj{res:List (Nat×Option (Option Nat))}{R:V->aw->Prop}:lh al res R .normal env blk=QJ R blk (cT al env blk res):=by simp only[lh,QJ];cases cT al env blk res<;>rfl
theorem Cr{R:V->aw->Prop}{vs:List V}:QJ R blk (some vs)=R (xN vs) blk:=rfl
end
section
variable {S:Sys} {al:Al} {Q:cU} {env:Env} {blk:aw}
def Kl(S:Sys)(al:Al)(c:am)(Q:cU):cU
 | .normal,env,blk=>W S al (.loop c) Q env blk
 | .exit i,env,blk=>Q (.exit i) env blk
 | .ret,env,blk=>Q .ret env blk
theorem ui{c:am}:Kl S al c Q .normal env blk=W S al (.loop c) Q env blk:=rfl
theorem yK{c:am}{i:Nat}:Kl S al c Q (.exit i) env blk=Q (.exit i) env blk:=rfl
theorem BU{c:am}:Kl S al c Q .ret env blk=Q .ret env blk:=rfl
theorem dQ{c:am}(h:W S al c (Kl S al c Q) env blk):W S al (.loop c) Q env blk:=by
 obtain⟨n,e,aaG,aao,h1,h2⟩:=h;cases e with
 |normal=>obtain⟨m,e,aar,aal,h3,h4⟩:=h2;refine⟨max n m+1,e,aar,aal,?_,h4⟩;simp only[exec] at h3 ⊢;simp only[iter];rw[ji S (by omega) h1];exact xl S (by omega) (by omega) h3
 |exit i=>exact⟨n+1,_,_,_,by simp[exec,iter,ji S (Nat.le_succ n) h1],h2⟩
 |ret=>exact⟨n+1,_,_,_,by simp[exec,iter,ji S (Nat.le_succ n) h1],h2⟩
end
theorem nQ.Sp{S:Sys}{args:List V}{al:Al}{blk:aw}{v v':V}{b b':aw}(h:nQ S f args al blk v b)(h':nQ S f args al blk v' b'):v=v'/\b=b':=by obtain⟨n,hn⟩:=h;obtain⟨m,hm⟩:=h';have a:=rc S (ac5 n m) _ _ _ _ _ hn;have c:=rc S (adb n m) _ _ _ _ _ hm;rw[a] at c;have:=abP c;exact⟨congrArg Prod.fst this,congrArg Prod.snd this⟩
section
variable {S:Sys} {al:Al} {Q:cU} {env:Env} {blk:aw} {os all:List aj} {tr:List dR} {d:Option Nat}
theorem oG:al.kY []=true:=rfl
theorem nu{a:Nat}{l:List Nat}:al.kY (a::l)=(al.ok a&&al.kY l):=rfl
def Kept(K:Nat->Prop)(b b':aw):Prop:=∀id,¬K id->b' id=b id
theorem Kept.refl(K:Nat->Prop)(b:aw):Kept K b b:=fun _ _=>rfl
theorem Kept.trans{K:Nat->Prop}{a b c:aw}(h:Kept K a b)(h2:Kept K b c):Kept K a c:=fun id hk=>(h2 id hk).trans (h id hk)
theorem Kept.fY{K:Nat->Prop}{b b':aw}(h:Kept K b b'){k:Nat}(hk:K k)(x:Nat×Option Ob):Kept K b (fY b' k x):=fun id hn=>by rw[aa,if_neg (by rintro rfl;exact hn hk)];exact h id hn
theorem Zx{v:V}{aaf:aw}(hh:al.holds (allow (S.ctx al) f vs blk)=true)(h:nQ S f vs (allow (S.ctx al) f vs blk) blk v aaf):gP S al (.sc f vs) d os Q env blk↔RN S al os Q (put env d v) aaf:=by
 constructor
 .rintro ⟨_,v2,b2,h2,h3⟩
  obtain⟨rfl,rfl⟩:=h.Sp h2;exact h3
 intro h3;exact⟨hh,v,aaf,h,h3⟩
theorem zb{rd:List Nat}{s:Nat}(h:aP S f vs (.one (.p x)))(hs:x.scalar=true):gP S al (.pc f vs rd s) d os Q env blk↔al.kY (rd++[])=true/\RN S al os Q (put env d (.one (.p x))) blk:=by
 constructor
 .rintro ⟨y,hy,h2⟩
  have:=hy.Sp h;subst this;rw[iT hs] at h2;exact h2
 rintro ⟨ho,hK⟩
 refine⟨_,h,?_⟩;rw[iT hs];exact⟨ho,hK⟩
theorem jI{rd:List Nat}{s:Nat}{k:IntKind}{x:Int}(h:aP S f vs (.one (.p (.int k x)))):gP S al (.pc f vs rd s) d os Q env blk↔al.kY (rd++[])=true/\RN S al os Q (put env d (.one (.p (.int k x)))) blk:=zb h rfl
theorem zc{rd:List Nat}{s:Nat}{x:Bool}(h:aP S f vs (.one (.p (.bool x)))):gP S al (.pc f vs rd s) d os Q env blk↔al.kY (rd++[])=true/\RN S al os Q (put env d (.one (.p (.bool x)))) blk:=zb h rfl
theorem IP{f:Int->List PV}(q:Int):∀(ids:List Int) (i:Nat),iG (.int .i64 q) (ids.map fun id=>(PV.int .i64 id,f id)) i=some (if q∈ids then some (i+ids.idxOf q,f q) else none):=by
 intro ids
 induction ids with
 |nil=>intro i;rfl
 |cons a ids ih=>
  intro i;simp only[aaK,iG,sameKey,if_true];by_cases e:q=a
  .subst e;simp
  have e':(q==a)=false:=by simpa using e
  have e2:¬(a=q):=fun h=>e h.symm;simp only[e'];rw[ih];simp only[aat,e,false_or,List.idxOf_cons,beq_iff_eq,e2,cond_false];by_cases h:q∈ids
  .have e3:(a==q)=false:=by simpa using e2
   simp[h,e3];omega
  simp[h]
theorem gb{f:Nat}{vs:List V}{P:V->aw->Prop}(hh:al.holds (allow (S.ctx al) f vs blk)=true)(h:∃v aaf,nQ S f vs (allow (S.ctx al) f vs blk) blk v aaf/\P v aaf)
  (hK:∀v aaf,P v aaf->RN S al os Q (put env d v) aaf):gP S al (.sc f vs) d os Q env blk:=by
 obtain⟨v,aaf,h1,h2⟩:=h;exact(Zx hh h1).2 (hK v aaf h2)
theorem fy{al2:Al}:Al.all.holds al2=true:=rfl
theorem holds_of{al2:Al}(h1:al.kY al2.ids=true)(h2:al2.fs.all al.fs.contains=true):al.holds al2=true:=by unfold Al.holds;rw[h1,h2];simp
theorem ff{id:Nat}(h:(S.sites f).contains (cH id)=true):(allow (S.ctx al) f vs blk).ok id=true:=by show(false||_||(S.sites f).contains (cH id))=true;rw[h];simp
theorem dA{id:Nat}(h:id∈(vs.map (cJ blk)).flatten):(allow (S.ctx al) f vs blk).ok id=true:=by
 show(false||(vs.map (cJ blk)).flatten.contains id||_)=true;have:(vs.map (cJ blk)).flatten.contains id=true:=by simpa using h
 rw[this];rfl
theorem lD{id g g0 o:Nat}{cs:List C}(h:blk id=(g0,some (.var cs))):cJ blk (.one (.aam id g o))=id::(cs.map (c9 blk 5)).flatten:=by show c9 blk 6 (.aam id g o)=_;rw[c9,h]
theorem rI{n:Nat}{v:PV}:c9 blk n (.p v)=[]:=by cases n<;>rfl
theorem gR{id g g0 o l sz n:Nat}(h:blk id=(g0,some (.arr ty sz es))):c9 blk (n+1) (.hsl id g z o l)=[id]:=by rw[c9,h]
def xU(x:Nat×Option Ob)(id g:Nat):Option (PV×List Nat):=match x with
 |(g',some (.map ag es))=>if g'=g then some (.mp ag es,[id]) else none
 |(g',some (.fmap ag es))=>if g'=g then some (.mp ag es,[id]) else none
 |_=>none
theorem Be{n id g:Nat}:snap blk (n+1) (.aaT id g)=xU (blk id) id g:=by rw[snap];rfl
end
theorem Rd:type_of%(And.intro @Wh<|And.intro @R0<|And.intro @R5<|And.intro @wU<|And.intro @R6<|And.intro @Wi<|And.intro @Hf<|And.intro @R7<|And.intro @Wj<|And.intro @Hg<|And.intro @R8<|And.intro @CL<|And.intro @Ap<|And.intro @Aq<|And.intro @tM<|And.intro @xO<|And.intro @A8<|And.intro @sT<|And.intro @Af<|And.intro @wT<|And.intro @ug<|And.intro @yE<|And.intro @BJ<|And.intro @ui<|And.intro @yK @BU):=And.intro @Wh<|And.intro @R0<|And.intro @R5<|And.intro @wU<|And.intro @R6<|And.intro @Wi<|And.intro @Hf<|And.intro @R7<|And.intro @Wj<|And.intro @Hg<|And.intro @R8<|And.intro @CL<|And.intro @Ap<|And.intro @Aq<|And.intro @tM<|And.intro @xO<|And.intro @A8<|And.intro @sT<|And.intro @Af<|And.intro @wT<|And.intro @ug<|And.intro @yE<|And.intro @BJ<|And.intro @ui<|And.intro @yK @BU
theorem Rt:type_of%(And.intro @K7<|And.intro @GT<|And.intro @Kx<|And.intro @F8<|And.intro @KR<|And.intro @GF<|And.intro @xG<|And.intro @vV<|And.intro @ZB<|And.intro @ZD<|And.intro @ZE<|And.intro @ZC<|And.intro @Fo<|And.intro @Fp<|And.intro @aa<|And.intro @Cf<|And.intro @Cg<|And.intro @Wk<|And.intro @Hj<|And.intro @Cr<|And.intro @Pa<|And.intro @norm_int<|And.intro @BG<|And.intro @FG<|And.intro @BB<|And.intro @JY<|And.intro @yD<|And.intro @Ka<|And.intro @BC<|And.intro @BE<|And.intro @BD<|And.intro @JZ<|And.intro @xT<|And.intro @v8<|And.intro @sI<|And.intro @JF<|And.intro @bft<|And.intro @btf<|And.intro @bff<|And.intro @btt<|And.intro @K9<|And.intro @Dd<|And.intro @zU<|And.intro @wP<|And.intro @uI<|And.intro @Bg<|And.intro @La<|And.intro @Bf<|And.intro @EX<|And.intro @Bd @JE):=And.intro @K7<|And.intro @GT<|And.intro @Kx<|And.intro @F8<|And.intro @KR<|And.intro @GF<|And.intro @xG<|And.intro @vV<|And.intro @ZB<|And.intro @ZD<|And.intro @ZE<|And.intro @ZC<|And.intro @Fo<|And.intro @Fp<|And.intro @aa<|And.intro @Cf<|And.intro @Cg<|And.intro @Wk<|And.intro @Hj<|And.intro @Cr<|And.intro @Pa<|And.intro @norm_int<|And.intro @BG<|And.intro @FG<|And.intro @BB<|And.intro @JY<|And.intro @yD<|And.intro @Ka<|And.intro @BC<|And.intro @BE<|And.intro @BD<|And.intro @JZ<|And.intro @xT<|And.intro @v8<|And.intro @sI<|And.intro @JF<|And.intro @bft<|And.intro @btf<|And.intro @bff<|And.intro @btt<|And.intro @K9<|And.intro @Dd<|And.intro @zU<|And.intro @wP<|And.intro @uI<|And.intro @Bg<|And.intro @La<|And.intro @Bf<|And.intro @EX<|And.intro @Bd @JE
theorem Rl:type_of%(And.intro @List.map_nil.{0,0}<|And.intro @List.append_nil.{0}<|And.intro @List.map_cons.{0,0}<|And.intro @List.cons_append.{0}<|And.intro @List.nil_append.{0}<|And.intro @List.drop_zero.{0}<|And.intro @List.take_zero.{0}<|And.intro @List.length_cons.{0}<|And.intro @List.length_nil.{0}<|And.intro @List.take_succ_cons.{0}<|And.intro @List.drop_nil.{0}<|And.intro @List.drop_succ_cons.{0}<|And.intro @List.length_map.{0,0}<|And.intro @List.take_nil.{0}<|And.intro @List.flatten_cons.{0}<|And.intro @List.getElem?_cons_zero.{0}<|And.intro @List.getElem?_cons_succ.{0}<|And.intro @List.all_nil.{0}<|And.intro @List.all_cons.{0}<|And.intro @List.not_mem_nil.{0} @Option.map_some.{0,0}):=And.intro @List.map_nil.{0,0}<|And.intro @List.append_nil.{0}<|And.intro @List.map_cons.{0,0}<|And.intro @List.cons_append.{0}<|And.intro @List.nil_append.{0}<|And.intro @List.drop_zero.{0}<|And.intro @List.take_zero.{0}<|And.intro @List.length_cons.{0}<|And.intro @List.length_nil.{0}<|And.intro @List.take_succ_cons.{0}<|And.intro @List.drop_nil.{0}<|And.intro @List.drop_succ_cons.{0}<|And.intro @List.length_map.{0,0}<|And.intro @List.take_nil.{0}<|And.intro @List.flatten_cons.{0}<|And.intro @List.getElem?_cons_zero.{0}<|And.intro @List.getElem?_cons_succ.{0}<|And.intro @List.all_nil.{0}<|And.intro @List.all_cons.{0}<|And.intro @List.not_mem_nil.{0} @Option.map_some.{0,0}
theorem Rb:type_of%(And.intro @Bool.false_eq_true<|And.intro @Bool.not_true<|And.intro @Bool.not_false<|And.intro @Bool.and_true<|And.intro @Bool.and_false<|And.intro @Bool.true_and<|And.intro @Bool.false_and<|And.intro @true_and<|And.intro @and_true<|And.intro @true_or<|And.intro @or_true<|And.intro @false_or<|And.intro @or_false<|And.intro @decide_true<|And.intro @decide_false<|And.intro @not_true_eq_false<|And.intro @not_false_eq_true<|And.intro @and_self<|And.intro @Nat.le_refl<|And.intro @Nat.zero_add<|And.intro @Nat.mul_one<|And.intro @Nat.zero_mul<|And.intro @Nat.zero_le<|And.intro @Nat.sub_zero @Int.zero_add):=And.intro @Bool.false_eq_true<|And.intro @Bool.not_true<|And.intro @Bool.not_false<|And.intro @Bool.and_true<|And.intro @Bool.and_false<|And.intro @Bool.true_and<|And.intro @Bool.false_and<|And.intro @true_and<|And.intro @and_true<|And.intro @true_or<|And.intro @or_true<|And.intro @false_or<|And.intro @or_false<|And.intro @decide_true<|And.intro @decide_false<|And.intro @not_true_eq_false<|And.intro @not_false_eq_true<|And.intro @and_self<|And.intro @Nat.le_refl<|And.intro @Nat.zero_add<|And.intro @Nat.mul_one<|And.intro @Nat.zero_mul<|And.intro @Nat.zero_le<|And.intro @Nat.sub_zero @Int.zero_add
def grown(site ty z:Nat)(es:List (List PV))(v:V)(blk:aw):Prop:=(es=[]/\v=.one (.p .nils))\/(es≠[]/\ ∃g,v=.one (.hsl site g z 0 es.length)/\blk site=(g,some (.arr ty z es)))
def ah(ty z:Nat)(es:List (List PV)):RC:=if es=[] then .p .nils else .own ty z es
theorem grown.of_eq{v:V}{blk aaf:aw}(h:grown site ty z es v blk)(hb:aaf site=blk site):grown site ty z es v aaf:=by
 rcases h with h|⟨h1,g,h2,h3⟩
 .exact .inl h
 exact .inr ⟨h1,g,h2,by rw[hb,h3]⟩
theorem grown.nil{blk:aw}:grown site ty z [] (.one (.p .nils)) blk:=.inl ⟨rfl,rfl⟩
theorem grown.fR{v:V}{blk:aw}(h:grown site ty z es v blk):∃c o,v=.one c/\fR blk c=some (ah ty z es,o,[])/\(o=[]\/o=[site]):=by
 rcases h with ⟨h1,h2⟩|⟨h1,g,h2,h3⟩
 .exact⟨.p .nils,[],h2,by simp[Go.Abs.fR,ah,h1],.inl rfl⟩
 refine⟨_,[site],h2,?_,.inr rfl⟩;simp only[Go.Abs.fR,h3,and_self,aaj,if_true,abw,ah,if_neg h1]
theorem fA{v:V}{blk:aw}(h:grown site ty z es v blk):fH blk v=some (.one (ah ty z es)):=by
 obtain⟨c,o,rfl,h2,h3⟩:=h.fR;rcases h3 with rfl|rfl
 .simp[fH,jv,ef,fJ,h2,apart,kN,fL]
 simp[fH,jv,ef,fJ,h2,apart,kN,fL]
theorem oR{s1 t1 z1 s2 t2 z2:Nat}{fs:List (List PV)}{v w:V}{blk:aw}(hs:s1≠s2)(h:grown s1 t1 z1 es v blk)(h':grown s2 t2 z2 fs w blk):fH blk (.tup [v,w])=some (.tup [.one (ah t1 z1 es),.one (ah t2 z2 fs)]):=by obtain⟨c,o,rfl,h2,h3⟩:=h.fR;obtain⟨d,q,rfl,k2,k3⟩:=h'.fR;rcases h3 with rfl|rfl<;>rcases k3 with rfl|rfl<;>simp[fH,jv,ii,ef,fJ,h2,k2,apart,kN,fL,kx,hs]
theorem grown.elems{v:V}{blk:aw}(h:grown site ty z es v blk):∃r,aO blk v=some (es,r,[])/\(r=[]\/r=[site]):=by
 rcases h with ⟨h1,h2⟩|⟨h1,g,h2,h3⟩
 .exact⟨[],by rw[h2,h1];rfl,.inl rfl⟩
 refine⟨[site],?_,.inr rfl⟩;rw[h2];simp[aO,h3]
theorem grown.kr{v:V}{blk:aw}(h:grown site ty z es v blk):es=[]\/kr v=some z:=by
 rcases h with ⟨h1,h2⟩|⟨h1,g,h2,h3⟩
 .exact .inl h1
 exact .inr (by rw[h2];rfl)
theorem grown.gQ{v:V}{blk:aw}(h:grown site ty z es v blk):Go.Abs.kr v=some z\/gQ z es=true:=by
 rcases h.kr with h|h
 .exact .inr (by rw[h];rfl)
 exact .inl h
theorem grown.len{v:V}{blk:aw}(h:grown site ty z es v blk):wY v=some es.length:=by
 rcases h with ⟨h1,h2⟩|⟨h1,g,h2,h3⟩
 .rw[h1,h2];rfl
 rw[h2];rfl
theorem grown.snap{v:V}{blk:aw}(h:grown site ty z es v blk):∃r,gD blk v=some (.one (.p (.sl es)),r)/\(r=[]\/r=[site]):=by
 rcases h with ⟨h1,h2⟩|⟨h1,g,h2,h3⟩
 .exact⟨[],by rw[h2,h1];rfl,.inl rfl⟩
 refine⟨[site],?_,.inr rfl⟩;rw[h2];simp[gD,cG,Go.Abs.snap,h3]
theorem grown.Of{c:C}{blk:aw}(h:grown site ty z es (.one c) blk){n:Nat}:∃r,Go.Abs.snap blk (n+1) c=some (.sl es,r)/\(r=[]\/r=[site]):=by
 rcases h with ⟨h1,h2⟩|⟨h1,g,h2,h3⟩
 .cases h2;exact⟨[],by rw[h1];rfl,.inl rfl⟩
 refine⟨[site],?_,.inr rfl⟩;cases h2;simp[Go.Abs.snap,h3]
section
variable {S:Sys} {al:Al} {Q:cU} {env:Env} {blk:aw} {os all:List aj} {tr:List dR} {d:Option Nat}
theorem gU{id bytes:Nat}{xs:List (List PV)}{v x:V}{rd:List Nat}(hg:grown id ty z es v blk)(hx:aO blk x=some (xs,rd,[]))(hz:kr x=some z\/gQ z xs=true)(hr:(es.length+xs.length)*bytes<=140737488355328):
  ∃v' u r,aF blk site ty z bytes v x=.done v' u r/\grown site ty z (es++xs) v' (app u blk)/\(∀i,i≠site->i≠id->app u blk i=blk i)/\(r=rd/\u.map (·.1)=[]\/r=site::rd/\u.map (·.1)=[site]\/r=site::id::rd/\u.map (·.1)=[id,site]):=by
 have hz':¬¬(kr x=some z\/gQ z xs=true):=fun h=>h hz;rcases hg with ⟨rfl,rfl⟩|⟨hne,g,rfl,hC⟩
 .by_cases h0:xs=[]
  .subst h0;refine⟨.one (.p .nils),[],rd,?_,.inl ⟨rfl,rfl⟩,fun i _ _=>rfl,.inl ⟨rfl,rfl⟩⟩;simp[aF,hx,hz',Gb,tn]
  have hl:¬xs.length=0:=by simpa using h0
  have hr':xs.length*bytes<=room:=by simpa [room] using hr
  refine⟨.one (.hsl site ((blk site).1+1) z 0 xs.length),[(site,((blk site).1+1,some (.arr ty z xs)))],site::rd,?_,.inr ⟨by simpa using h0,(blk site).1+1,by simp,?_⟩,fun i h1 _=>?_,.inr (.inl ⟨rfl,rfl⟩)⟩
  .simp only[aF,hx,if_neg hz',Gb,tn,if_neg hl,if_pos hr'];simp
  .simp[app,aa]
  simp[app,aa,h1]
 have hr':(es.length+xs.length)*bytes<=room:=by simpa [room] using hr
 refine⟨.one (.hsl site ((blk site).1+1) z 0 (es.length+xs.length)),[(id,(g,none)),(site,((blk site).1+1,some (.arr ty z (es++xs))))],site::id::rd,?_,.inr ⟨by simp[hne],(blk site).1+1,by simp,?_⟩,fun i h1 h2=>?_,.inr (.inr ⟨rfl,rfl⟩)⟩
 .simp only[aF,hx,if_neg hz',Gb,tn,hC];simp[hr']
 .simp[app,aa]
 simp[app,aa,h1,h2]
theorem iN{id site ty z bytes:Nat}{es xs:List (List PV)}{v x:V}{rd:List Nat}(hg:grown id ty z es v blk)(hx:aO blk x=some (xs,rd,[]))(hz:kr x=some z\/gQ z xs=true)(hr:(es.length+xs.length)*bytes<=140737488355328)
  (hK:∀(c:C) aaf,grown site ty z (es++xs) (.one c) aaf->(∀i,i≠site->i≠id->aaf i=blk i)->RN S .all os Q (put env d (.one c)) aaf):gP S .all (aF blk site ty z bytes v x) d os Q env blk:=by
 obtain⟨v',u,r,h1,h2,h3,_⟩:=gU hg hx hz hr;obtain⟨c,o,rfl,_⟩:=h2.fR;rw[h1,uw];exact hK _ _ h2 h3
theorem mX{id site ty z bytes:Nat}{es xs:List (List PV)}{v x:V}{rd:List Nat}(hg:grown id ty z es v blk)(hx:aO blk x=some (xs,rd,[]))(hz:kr x=some z\/gQ z xs=true)(hr:(es.length+xs.length)*bytes<=140737488355328)
  (hK:∀(c:C) aaf r w,grown site ty z (es++xs) (.one c) aaf->(∀i,i≠site->i≠id->aaf i=blk i)->(r=rd/\w=[]\/r=site::rd/\w=[site]\/r=site::id::rd/\w=[id,site])->RD S .all all os Q (put env d (.one c)) aaf (tr++[⟨r,w,[]⟩])):dP S .all (aF blk site ty z bytes v x) d all os Q env blk tr:=by
 obtain⟨v',u,r,h1,h2,h3,h4⟩:=gU hg hx hz hr;obtain⟨c,o,rfl,_⟩:=h2.fR;rw[h1,uE];exact hK _ _ _ _ h2 h3 h4
theorem cD{s:Nat}:grown s ty z es (.one (dY blk s (ah ty z es)).1) (app (dY blk s (ah ty z es)).2 blk)/\(∀i,i≠s->app (dY blk s (ah ty z es)).2 blk i=blk i)/\((dY blk s (ah ty z es)).2.map (·.1)=[]\/(dY blk s (ah ty z es)).2.map (·.1)=[s]):=by
 unfold ah;by_cases h:es=[]
 .rw[if_pos h];exact⟨.inl ⟨h,rfl⟩,fun i _=>rfl,.inl rfl⟩
 rw[if_neg h];exact⟨.inr ⟨h,(blk s).1+1,rfl,by simp[dY,app,aa]⟩,fun i hi=>by simp[dY,app,aa,hi],.inr rfl⟩
theorem bl(r:RV):r.bn false=r:=rfl
theorem jg{f:Nat}{vs:List V}{s ty z:Nat}{rd:List Nat}{es:List (List PV)}(hp:aP S f vs (.one (ah ty z es)))(hlo:S.lone s=false)(hrd:rd=[]\/(RV.one (ah ty z es)).alone=true)
  (hK:∀(c:C) aaf,grown s ty z es (.one c) aaf->(∀i,i≠s->aaf i=blk i)->RN S .all os Q (put env d (.one c)) aaf):gP S .all (.pc f vs rd s) d os Q env blk:=by
 obtain⟨h1,h2,_⟩:=cD (blk:=blk) (s:=s) (ty:=ty) (z:=z) (es:=es);refine(aq (v:=.one (dY blk s (ah ty z es)).1) (u:=(dY blk s (ah ty z es)).2) hp ?_).2 (hK _ _ h1 h2);rw[hlo,bl];unfold land;rw[if_pos hrd];simp[rV,dp,bQ,gA,iR,dM]
theorem Zy{f:Nat}{vs:List V}{s t1 z1 t2 z2:Nat}{es fs:List (List PV)}(hp:aP S f vs (.tup [.one (ah t1 z1 es),.one (ah t2 z2 fs)]))(hlo:S.lone s=false)
  (hK:∀(c e:C) aaf,grown s t1 z1 es (.one c) aaf->grown (s+1) t2 z2 fs (.one e) aaf->(∀i,i≠s->i≠s+1->aaf i=blk i)->RN S .all os Q (put env d (.tup [.one c,.one e])) aaf):gP S .all (.pc f vs [] s) d os Q env blk:=by
 obtain⟨h1,h2,_⟩:=cD (blk:=blk) (s:=s) (ty:=t1) (z:=z1) (es:=es);have e0:∀(b b':aw) (k:Nat) (r:RC),b' k=b k->dY b k r=dY b' k r:=by
  intro b b' k r h;cases r with
  |p v=>rfl
  |own ty sz es=>simp only[dY,h]
 have e2:dY blk (s+1) (ah t2 z2 fs)=dY (app (dY blk s (ah t1 z1 es)).2 blk) (s+1) (ah t2 z2 fs):=e0 _ _ _ _ (h2 (s+1) (by omega));obtain⟨k1,k2,_⟩:=cD (blk:=app (dY blk s (ah t1 z1 es)).2 blk) (s:=s+1) (ty:=t2) (z:=z2) (es:=fs);rw[<- e2] at k1 k2;have acX:∀(a b:List jS) (c:aw),app (a++b) c=app b (app a c):=by
  intro a
  induction a with
  |nil=>intro b c;rfl
  |cons x a ih=>intro b c;exact ih b _
 refine(aq (v:=.tup [.one (dY blk s (ah t1 z1 es)).1,.one (dY blk (s+1) (ah t2 z2 fs)).1]) (u:=(dY blk s (ah t1 z1 es)).2++(dY blk (s+1) (ah t2 z2 fs)).2) hp ?_).2 (hK _ _ _ ?_ ?_ ?_)
 .rw[hlo,bl];unfold land;rw[if_pos (.inl rfl)];simp[rV,dp,dJ,bQ,gA,iR,fg,dM]
 .rw[acX];exact h1.of_eq (k2 s (by omega))
 .rw[acX];exact k1
 intro i a b;rw[acX,k2 i b,h2 i a]
end
theorem bG(h:(es.all fun e=>e.all PV.scalar)=true):(RV.one (ah ty z es)).alone=true:=by
 unfold ah;split
 .rfl
 simp[RV.alone,dp,bQ,RC.alone,h]
theorem grown.cG{c:C}{blk:aw}(h:grown site ty z es (.one c) blk):∃r,Go.Abs.snap blk Go.Abs.cG c=some (.sl es,r)/\(r=[]\/r=[site]):=h.Of
def fD(blk:aw)(r:List Nat):Prop:=∀i∈r,∃g ty z es,blk i=(g,some (.arr ty z es))
theorem fD.nil{blk:aw}:fD blk []:=fun _ h=>by simp at h
theorem fD.app{blk:aw}{a b:List Nat}(h:fD blk a)(k:fD blk b):fD blk (a++b):=fun i hi=>by
 rcases aaR.1 hi with hi|hi
 .exact h i hi
 exact k i hi
theorem grown.JG{c:C}{blk:aw}(h:grown site ty z es (.one c) blk):∃r,Go.Abs.snap blk Go.Abs.cG c=some (.sl es,r)/\fD blk r/\(r=[]\/r=[site]):=by
 rcases h with ⟨h1,h2⟩|⟨h1,g,h2,h3⟩
 .cases h2;exact⟨[],by rw[h1];rfl,fD.nil,.inl rfl⟩
 refine⟨[site],?_,fun i hi=>?_,.inr rfl⟩
 .cases h2;simp[Go.Abs.snap,Go.Abs.cG,h3]
 rw[abJ] at hi;subst hi;exact⟨_,_,_,_,h3⟩
theorem IG{blk:aw}(all:List Nat):∀r:List Nat,fD blk r->∃fu,tn blk all r=some fu/\fu.map (·.1)=r:=by
 intro r
 induction r with
 |nil=>intro _;exact⟨[],rfl,rfl⟩
 |cons i r ih=>intro h;obtain⟨g,ty,z,es,hi⟩:=h i (by simp);obtain⟨fu,h1,h2⟩:=ih fun j hj=>h j (by simp[hj]);refine⟨(i,(g,some (.abl ty z es)))::fu,?_,by simp[h2]⟩;simp[tn,A0,hi,h1]
theorem jJ:∀(u:List jS) (b:aw) (i:Nat),i∉u.map (·.1)->app u b i=b i:=by
 intro u
 induction u with
 |nil=>intro b i _;rfl
 |cons x u ih=>intro b i h;simp only[aaK,aat,not_or] at h;show app u (fY b x.1 x.2) i=b i;rw[ih _ _ h.2,aa,if_neg h.1]
theorem jq:∀(a b:List jS) (c:aw),app (a++b) c=app b (app a c):=by
 intro a
 induction a with
 |nil=>intro b c;rfl
 |cons x a ih=>intro b c;exact ih b _
section
variable {S:Sys} {al:Al} {Q:cU} {env:Env} {blk:aw} {os all:List aj} {tr:List dR} {d:Option Nat}
theorem Uj{id site ty z bytes:Nat}{es xs:List (List PV)}{v x:V}{rd fr:List Nat}(hg:grown id ty z es v blk)(hx:aO blk x=some (xs,rd,fr))(hfr:fD blk fr)(hni:id∉fr)(hns:site∉fr)(hz:kr x=some z\/gQ z xs=true)(hr:(es.length+xs.length)*bytes<=140737488355328)
  (hK:∀(c:C) aaf,grown site ty z (es++xs) (.one c) aaf->(∀i,i≠site->i≠id->i∉fr->aaf i=blk i)->RN S .all os Q (put env d (.one c)) aaf):gP S .all (aF blk site ty z bytes v x) d os Q env blk:=by
 have hz':¬¬(kr x=some z\/gQ z xs=true):=fun h=>h hz;obtain⟨fu,hf1,hf2⟩:=IG fr fr hfr;have aeO:Gb blk fr=some fu:=hf1;rcases hg with ⟨rfl,rfl⟩|⟨hne,g,rfl,hC⟩
 .by_cases h0:xs=[]
  .subst h0;have:aF blk site ty z bytes (.one (.p .nils)) x=.done (.one (.p .nils)) fu (rd++fr):=by simp[aF,hx,hz',aeO]
   rw[this,uw];exact hK _ _ (.inl ⟨rfl,rfl⟩) fun i _ _ h3=>jJ _ _ _ (by rw[hf2];exact h3)
  have hl:¬xs.length=0:=by simpa using h0
  have hr':xs.length*bytes<=room:=by simpa [room] using hr
  have:aF blk site ty z bytes (.one (.p .nils)) x=.done (.one (.hsl site ((blk site).1+1) z 0 xs.length)) (fu++[(site,((blk site).1+1,some (.arr ty z xs)))]) (site::rd++fr):=by simp only[aF,hx,if_neg hz',aeO,if_neg hl,if_pos hr']
  rw[this,uw];refine hK _ _ (.inr ⟨by simpa using h0,(blk site).1+1,by simp,?_⟩) fun i h1 _ h3=>?_
  .rw[jq];simp[app,aa]
  rw[jq];have:=jJ fu blk i (by rw[hf2];exact h3);simp[app,aa,h1,this]
 have hr':(es.length+xs.length)*bytes<=room:=by simpa [room] using hr
 have hnc:fr.contains id=false:=by simpa using hni
 have:aF blk site ty z bytes (.one (.hsl id g z 0 es.length)) x=.done (.one (.hsl site ((blk site).1+1) z 0 (es.length+xs.length))) (fu++[(id,(g,none)),(site,((blk site).1+1,some (.arr ty z (es++xs))))]) (site::id::rd++fr):=by simp only[aF,hx,if_neg hz',aeO,hC,hnc];simp[hr']
 rw[this,uw];refine hK _ _ (.inr ⟨by simp[hne],(blk site).1+1,by simp,?_⟩) fun i h1 h2 h3=>?_
 .rw[jq];simp[app,aa]
 rw[jq];have:=jJ fu blk i (by rw[hf2];exact h3);simp[app,aa,h1,h2,this]
end
section
variable {S:Sys} {al:Al} {Q:cU} {env:Env} {blk:aw} {os all:List aj} {tr:List dR} {d:Option Nat}
theorem oF{l:List Nat}(h:∀i∈l,al.ok i=true):al.kY l=true:=aba.2 h
theorem xr{id site ty z bytes:Nat}{es xs:List (List PV)}{v x:V}{rd:List Nat}(hok:∀i∈site::id::rd,al.ok i=true)(hg:grown id ty z es v blk)(hx:aO blk x=some (xs,rd,[]))(hz:kr x=some z\/gQ z xs=true)(hr:(es.length+xs.length)*bytes<=140737488355328)
  (hK:∀(c:C) aaf,grown site ty z (es++xs) (.one c) aaf->(∀i,i≠site->i≠id->aaf i=blk i)->RN S al os Q (put env d (.one c)) aaf):gP S al (aF blk site ty z bytes v x) d os Q env blk:=by
 obtain⟨v',u,r,h1,h2,h3,h4⟩:=gU hg hx hz hr;obtain⟨c,o,rfl,_⟩:=h2.fR;rw[h1,za];refine⟨?_,hK _ _ h2 h3⟩;rcases h4 with ⟨rfl,h5⟩|⟨rfl,h5⟩|⟨rfl,h5⟩<;>rw[h5]<;>refine oF fun i hi=>hok i ?_ <;>simp at hi ⊢
 .exact .inr (.inr hi)
 .rcases hi with h|h|h<;>simp[h]
 rcases hi with h|h|h|h|h<;>simp[h]
theorem mD{id site ty z bytes:Nat}{es xs:List (List PV)}{v x:V}{rd:List Nat}(hok:∀i∈site::id::rd,al.ok i=true)(hg:grown id ty z es v blk)(hx:aO blk x=some (xs,rd,[]))(hz:kr x=some z\/gQ z xs=true)(hr:(es.length+xs.length)*bytes<=140737488355328)
  (hK:∀(c:C) aaf r w,grown site ty z (es++xs) (.one c) aaf->(∀i,i≠site->i≠id->aaf i=blk i)->(r=rd/\w=[]\/r=site::rd/\w=[site]\/r=site::id::rd/\w=[id,site])->RD S al all os Q (put env d (.one c)) aaf (tr++[⟨r,w,[]⟩])):dP S al (aF blk site ty z bytes v x) d all os Q env blk tr:=by
 obtain⟨v',u,r,h1,h2,h3,h4⟩:=gU hg hx hz hr;obtain⟨c,o,rfl,_⟩:=h2.fR;rw[h1,zO];refine⟨?_,hK _ _ _ _ h2 h3 h4⟩;rcases h4 with ⟨rfl,h5⟩|⟨rfl,h5⟩|⟨rfl,h5⟩<;>rw[h5]<;>refine oF fun i hi=>hok i ?_ <;>simp at hi ⊢
 .exact .inr (.inr hi)
 .rcases hi with h|h|h<;>simp[h]
 rcases hi with h|h|h|h|h<;>simp[h]
theorem UB{site ty z bytes:Nat}{xs:List (List PV)}{x:V}{rd:List Nat}(hok:∀i∈site::rd,al.ok i=true)(hx:aO blk x=some (xs,rd,[]))(hne:xs≠[])(hz:kr x=some z\/gQ z xs=true)(hr:xs.length*bytes<=140737488355328)
  (hK:∀(c:C) aaf r w,grown site ty z xs (.one c) aaf->(∀i,i≠site->i≠site->aaf i=blk i)->(r=rd/\w=[]\/r=site::rd/\w=[site]\/r=site::site::rd/\w=[site,site])->RD S al all os Q (put env d (.one c)) aaf (tr++[⟨r,w,[]⟩])):dP S al (aF blk site ty z bytes (.one (.p .zs)) x) d all os Q env blk tr:=by
 have hn:xs.length≠0:=fun h=>hne (adg.1 h);have e:aF blk site ty z bytes (.one (.p .zs)) x=aF blk site ty z bytes (.one (.p .nils)) x:=by simp only[aF,hx,hn,if_false]
 rw[e];exact mD (id:=site) (es:=[]) (fun i hi=>hok i (by simpa using hi)) grown.nil hx hz (by simpa using hr) hK
theorem Xn{f:Nat}{vs:List V}{s t1 z1 t2 z2:Nat}{rd:List Nat}{es fs:List (List PV)}(hok:∀i∈s::(s+1)::rd,al.ok i=true)(hp:aP S f vs (.tup [.one (ah t1 z1 es),.one (ah t2 z2 fs)]))(hlo:S.lone s=false)
  (hs1:(es.all fun e=>e.all PV.scalar)=true) (hs2:(fs.all fun e=>e.all PV.scalar)=true)
  (hK:∀(c e:C) aaf,grown s t1 z1 es (.one c) aaf->grown (s+1) t2 z2 fs (.one e) aaf->(∀i,i≠s->i≠s+1->aaf i=blk i)->RN S al os Q (put env d (.tup [.one c,.one e])) aaf):gP S al (.pc f vs rd s) d os Q env blk:=by
 have hal:(RV.tup [.one (ah t1 z1 es),.one (ah t2 z2 fs)]).alone=true:=by have a:=bG (ty:=t1) (z:=z1) hs1;have b:=bG (ty:=t2) (z:=z2) hs2;simp only[RV.alone,dp,bQ,abu,abL,aci] at a b;simp[RV.alone,dp,dJ,bQ,a,b]
 obtain⟨h1,h2,h2u⟩:=cD (blk:=blk) (s:=s) (ty:=t1) (z:=z1) (es:=es);have e0:∀(b b':aw) (k:Nat) (r:RC),b' k=b k->dY b k r=dY b' k r:=by
  intro b b' k r h;cases r with
  |p v=>rfl
  |own ty sz es=>simp only[dY,h]
 have e2:dY blk (s+1) (ah t2 z2 fs)=dY (app (dY blk s (ah t1 z1 es)).2 blk) (s+1) (ah t2 z2 fs):=e0 _ _ _ _ (h2 (s+1) (by omega));obtain⟨k1,k2,k2u⟩:=cD (blk:=app (dY blk s (ah t1 z1 es)).2 blk) (s:=s+1) (ty:=t2) (z:=z2) (es:=fs);rw[<- e2] at k1 k2 k2u;refine⟨_,hp,?_⟩;rw[hlo,bl];have hl:land blk rd s (RV.tup [.one (ah t1 z1 es),.one (ah t2 z2 fs)])=some (.tup [.one (dY blk s (ah t1 z1 es)).1,.one (dY blk (s+1) (ah t2 z2 fs)).1],(dY blk s (ah t1 z1 es)).2++(dY blk (s+1) (ah t2 z2 fs)).2):=by unfold land;rw[if_pos (.inr hal)];simp[rV,dp,dJ,bQ,gA,iR,fg,dM]
 rw[hl];refine⟨oF fun i hi=>hok i ?_,hK _ _ _ ?_ ?_ ?_⟩
 .simp only[abq,aaR] at hi;rcases hi with hi|hi|hi
  .simp[hi]
  .rcases h2u with h|h<;>rw[h] at hi<;>simp at hi<;>simp[hi]
  rcases k2u with h|h<;>rw[h] at hi<;>simp at hi<;>simp[hi]
 .rw[jq];exact h1.of_eq (k2 s (by omega))
 .rw[jq];exact k1
 intro i a b;rw[jq,k2 i b,h2 i a]
end
theorem af{b:aw}{a i:Nat}{x:Nat×Option Ob}(h:i≠a):fY b a x i=b i:=by rw[aa,if_neg h]
theorem jy{b:aw}{a:Nat}{x:Nat×Option Ob}:fY b a x a=x:=by rw[aa,if_pos rfl]
theorem DD{a i:Nat}{l:List Nat}(h:i∉l)(ha:a∈l):i≠a:=fun e=>h (e▸ha)
section
variable {S:Sys} {al:Al} {Q:cU} {env:Env} {blk:aw} {os all:List aj} {tr:List dR} {d:Option Nat}
theorem Qw{f:Nat}{vs:List V}{s ty z:Nat}{es:List (List PV)}{x:PV}(hp:aP S f vs (.tup [.one (ah ty z es),.one (.p x)]))(hlo:S.lone s=false)
  (hK:∀(c:C) aaf,grown s ty z es (.one c) aaf->(∀i,i≠s->aaf i=blk i)->RN S .all os Q (put env d (.tup [.one c,.one (.p x)])) aaf):gP S .all (.pc f vs [] s) d os Q env blk:=by
 obtain⟨h1,h2,_⟩:=cD (blk:=blk) (s:=s) (ty:=ty) (z:=z) (es:=es);refine(aq (v:=.tup [.one (dY blk s (ah ty z es)).1,.one (.p x)]) (u:=(dY blk s (ah ty z es)).2) hp ?_).2 (hK _ _ h1 h2);rw[hlo,bl];unfold land;rw[if_pos (.inl rfl)];simp[rV,dp,dJ,bQ,gA,iR,fg,dM,dY]
theorem ZK{f:Nat}{vs:List V}{s ty z:Nat}{rd:List Nat}{es:List (List PV)}(hp:aP S f vs (.one (ah ty z es)))(hlo:S.lone s=false)(hrd:rd=[]\/(RV.one (ah ty z es)).alone=true)
  (hK:∀(c:C) aaf w,grown s ty z es (.one c) aaf->(∀i,i≠s->aaf i=blk i)->(w=[]\/w=[s])->RD S .all all os Q (put env d (.one c)) aaf (tr++[⟨rd++w,w,[]⟩])):dP S .all (.pc f vs rd s) d all os Q env blk tr:=by
 obtain⟨h1,h2,h3⟩:=cD (blk:=blk) (s:=s) (ty:=ty) (z:=z) (es:=es);refine(r9 (v:=.one (dY blk s (ah ty z es)).1) (u:=(dY blk s (ah ty z es)).2) hp ?_).2 (hK _ _ _ h1 h2 h3);rw[hlo,bl];unfold land;rw[if_pos hrd];simp[rV,dp,bQ,gA,iR,dM]
theorem QU{f:Nat}{vs:List V}{s ty z:Nat}{es:List (List PV)}{x:PV}(hp:aP S f vs (.tup [.one (ah ty z es),.one (.p x)]))(hlo:S.lone s=false)
  (hK:∀(c:C) aaf w,grown s ty z es (.one c) aaf->(∀i,i≠s->aaf i=blk i)->(w=[]\/w=[s])->RD S .all all os Q (put env d (.tup [.one c,.one (.p x)])) aaf (tr++[⟨[]++w,w,[]⟩])):dP S .all (.pc f vs [] s) d all os Q env blk tr:=by
 obtain⟨h1,h2,h3⟩:=cD (blk:=blk) (s:=s) (ty:=ty) (z:=z) (es:=es);refine(r9 (v:=.tup [.one (dY blk s (ah ty z es)).1,.one (.p x)]) (u:=(dY blk s (ah ty z es)).2) hp ?_).2 (hK _ _ _ h1 h2 h3);rw[hlo,bl];unfold land;rw[if_pos (.inl rfl)];simp[rV,dp,dJ,bQ,gA,iR,fg,dM,dY]
theorem V5{f:Nat}{vs:List V}{s ty z:Nat}{rd:List Nat}{es:List (List PV)}{x:PV}(hp:aP S f vs (.agg [.p x,ah ty z es]))(hlo:S.lone s=false)(hx:x.scalar=true)(hs:(es.all fun e=>e.all PV.scalar)=true)
  (hK:∀(c:C) aaf,grown (s+1) ty z es (.one c) aaf->(∀i,i≠s+1->aaf i=blk i)->RN S .all os Q (put env d (.agg [.p x,c])) aaf):gP S .all (.pc f vs rd s) d os Q env blk:=by
 obtain⟨h1,h2,_⟩:=cD (blk:=blk) (s:=s+1) (ty:=ty) (z:=z) (es:=es);have hal:(RV.agg [.p x,ah ty z es]).alone=true:=by have a:=bG (ty:=ty) (z:=z) hs;simp only[RV.alone,dp,bQ,abu,abL,aci] at a;simp only[RV.alone,dp,bQ,abu,abL,aci,a];exact hx
 refine(aq (v:=.agg [.p x,(dY blk (s+1) (ah ty z es)).1]) (u:=(dY blk (s+1) (ah ty z es)).2) hp ?_).2 (hK _ _ h1 h2);rw[hlo,bl];unfold land;rw[if_pos (.inr hal)];simp[rV,dp,bQ,gA,iR,dM,dY]
theorem KA{f:Nat}{vs:List V}{s ty z:Nat}{es:List (List PV)}{x y:PV}(hp:aP S f vs (.tup [.agg [.p x,ah ty z es],.one (.p y)]))(hlo:S.lone s=false)
  (hK:∀(c:C) aaf,grown (s+1) ty z es (.one c) aaf->(∀i,i≠s+1->aaf i=blk i)->RN S .all os Q (put env d (.tup [.agg [.p x,c],.one (.p y)])) aaf):gP S .all (.pc f vs [] s) d os Q env blk:=by
 obtain⟨h1,h2,_⟩:=cD (blk:=blk) (s:=s+1) (ty:=ty) (z:=z) (es:=es);refine(aq (v:=.tup [.agg [.p x,(dY blk (s+1) (ah ty z es)).1],.one (.p y)]) (u:=(dY blk (s+1) (ah ty z es)).2) hp ?_).2 (hK _ _ h1 h2);rw[hlo,bl];unfold land;rw[if_pos (.inl rfl)];simp[rV,dp,dJ,bQ,gA,iR,fg,dM,dY]
theorem IF{f:Nat}{vs:List V}{s ty z:Nat}{rd:List Nat}{es:List (List PV)}{x y:PV}(hp:aP S f vs (.tup [.agg [.p x,ah ty z es],.one (.p y)]))(hlo:S.lone s=false)(hx:x.scalar=true)(hy:y.scalar=true)(hs:(es.all fun e=>e.all PV.scalar)=true)
  (hK:∀(c:C) aaf,grown (s+1) ty z es (.one c) aaf->(∀i,i≠s+1->aaf i=blk i)->RN S .all os Q (put env d (.tup [.agg [.p x,c],.one (.p y)])) aaf):gP S .all (.pc f vs rd s) d os Q env blk:=by
 obtain⟨h1,h2,_⟩:=cD (blk:=blk) (s:=s+1) (ty:=ty) (z:=z) (es:=es);have hal:(RV.tup [.agg [.p x,ah ty z es],.one (.p y)]).alone=true:=by have a:=bG (ty:=ty) (z:=z) hs;simp only[RV.alone,dp,bQ,abu,abL,aci] at a;simp only[RV.alone,dp,dJ,bQ,acp,aaZ,abo,abu,abL,aci,a,acH];show(x.scalar&&y.scalar)=true;rw[hx,hy];rfl
 refine(aq (v:=.tup [.agg [.p x,(dY blk (s+1) (ah ty z es)).1],.one (.p y)]) (u:=(dY blk (s+1) (ah ty z es)).2) hp ?_).2 (hK _ _ h1 h2);rw[hlo,bl];unfold land;rw[if_pos (.inr hal)];simp[rV,dp,dJ,bQ,gA,iR,fg,dM,dY]
end
theorem lT{s1 t1 z1:Nat}{c:C}{y:PV}{blk:aw}(h:grown s1 t1 z1 es (.one c) blk):fH blk (.tup [.agg [.p x,c],.one (.p y)])=some (.tup [.agg [.p x,ah t1 z1 es],.one (.p y)]):=by obtain⟨c',o,hc,h2,h3⟩:=h.fR;cases hc;have e1:fR blk (.p x)=some (.p x,[],[]):=rfl;have e2:fR blk (.p y)=some (.p y,[],[]):=rfl;rcases h3 with rfl|rfl<;>simp[fH,jv,ii,ef,fJ,h2,e1,e2,apart,kN,fL,kx]
section
variable {S:Sys} {al:Al} {Q:cU} {env:Env} {blk:aw} {os all:List aj} {tr:List dR} {d:Option Nat} {op:vQ} {w:Option Bool} {a b:am} {v:V}
theorem aU(L:List Nat)(h:∀e:Env,(∀k∈L,e k=env k)->gW S al w d op os Q e blk):gW S al w d op os Q env blk:=h env fun _ _=>rfl
theorem jk(L:List Nat)(h:∀e:Env,(∀k∈L,e k=env k)->dW S al w d op all os Q e blk tr):dW S al w d op all os Q env blk tr:=h env fun _ _=>rfl
theorem Rc(L:List Nat)(h:∀e:Env,(∀k∈L,e k=env k)->cW S al v a b Q e blk):cW S al v a b Q env blk:=h env fun _ _=>rfl
end
section
variable {S:Sys} {al:Al} {Q:cU} {env:Env} {blk:aw} {os all:List aj} {tr:List dR} {d:Option Nat}
theorem UC{id site ty z bytes:Nat}{es xs:List (List PV)}{v x:V}{rd fr:List Nat}(hg:grown id ty z es v blk)(hx:aO blk x=some (xs,rd,fr))(hfr:fD blk fr)(hni:id∉fr)(hns:site∉fr)(hz:kr x=some z\/gQ z xs=true)(hr:(es.length+xs.length)*bytes<=140737488355328)
  (hK:∀(c:C) aaf r w,grown site ty z (es++xs) (.one c) aaf->(∀i,i≠site->i≠id->i∉fr->aaf i=blk i)->(r=rd++fr/\w=fr\/r=site::rd++fr/\w=fr++[site]\/r=site::id::rd++fr/\w=fr++[id,site])->RD S .all all os Q (put env d (.one c)) aaf (tr++[⟨r,w,[]⟩])):dP S .all (aF blk site ty z bytes v x) d all os Q env blk tr:=by
 have hz':¬¬(kr x=some z\/gQ z xs=true):=fun h=>h hz;obtain⟨fu,hf1,hf2⟩:=IG fr fr hfr;have aeO:Gb blk fr=some fu:=hf1;rcases hg with ⟨rfl,rfl⟩|⟨hne,g,rfl,hC⟩
 .by_cases h0:xs=[]
  .subst h0;have:aF blk site ty z bytes (.one (.p .nils)) x=.done (.one (.p .nils)) fu (rd++fr):=by simp[aF,hx,hz',aeO]
   rw[this,uE];exact hK _ _ _ _ (.inl ⟨rfl,rfl⟩) (fun i _ _ h3=>jJ _ _ _ (by rw[hf2];exact h3)) (.inl ⟨rfl,hf2⟩)
  have hl:¬xs.length=0:=by simpa using h0
  have hr':xs.length*bytes<=room:=by simpa [room] using hr
  have:aF blk site ty z bytes (.one (.p .nils)) x=.done (.one (.hsl site ((blk site).1+1) z 0 xs.length)) (fu++[(site,((blk site).1+1,some (.arr ty z xs)))]) (site::rd++fr):=by simp only[aF,hx,if_neg hz',aeO,if_neg hl,if_pos hr']
  rw[this,uE];refine hK _ _ _ _ (.inr ⟨by simpa using h0,(blk site).1+1,by simp,?_⟩) (fun i h1 _ h3=>?_) (.inr (.inl ⟨rfl,by simp[hf2]⟩))
  .rw[jq];simp[app,aa]
  rw[jq];have:=jJ fu blk i (by rw[hf2];exact h3);simp[app,aa,h1,this]
 have hr':(es.length+xs.length)*bytes<=room:=by simpa [room] using hr
 have hnc:fr.contains id=false:=by simpa using hni
 have:aF blk site ty z bytes (.one (.hsl id g z 0 es.length)) x=.done (.one (.hsl site ((blk site).1+1) z 0 (es.length+xs.length))) (fu++[(id,(g,none)),(site,((blk site).1+1,some (.arr ty z (es++xs))))]) (site::id::rd++fr):=by simp only[aF,hx,if_neg hz',aeO,hC,hnc];simp[hr']
 rw[this,uE];refine hK _ _ _ _ (.inr ⟨by simp[hne],(blk site).1+1,by simp,?_⟩) (fun i h1 h2 h3=>?_) (.inr (.inr ⟨rfl,by simp[hf2]⟩))
 .rw[jq];simp[app,aa]
 rw[jq];have:=jJ fu blk i (by rw[hf2];exact h3);simp[app,aa,h1,h2,this]
theorem KB{f:Nat}{vs:List V}{s ty z:Nat}{rd:List Nat}{es:List (List PV)}{x:PV}(hp:aP S f vs (.tup [.one (ah ty z es),.one (.p x)]))(hlo:S.lone s=false)(hs:(es.all fun e=>e.all PV.scalar)=true)(hx:x.scalar=true)
  (hK:∀(c:C) aaf,grown s ty z es (.one c) aaf->(∀i,i≠s->aaf i=blk i)->RN S .all os Q (put env d (.tup [.one c,.one (.p x)])) aaf):gP S .all (.pc f vs rd s) d os Q env blk:=by
 obtain⟨h1,h2,_⟩:=cD (blk:=blk) (s:=s) (ty:=ty) (z:=z) (es:=es);have hal:(RV.tup [.one (ah ty z es),.one (.p x)]).alone=true:=by have a:=bG (ty:=ty) (z:=z) hs;simp only[RV.alone,dp,bQ,abu,abL,aci] at a;simp only[RV.alone,dp,dJ,bQ,acp,aaZ,abo,abu,abL,aci,a,acH];exact hx
 refine(aq (v:=.tup [.one (dY blk s (ah ty z es)).1,.one (.p x)]) (u:=(dY blk s (ah ty z es)).2) hp ?_).2 (hK _ _ h1 h2);rw[hlo,bl];unfold land;rw[if_pos (.inr hal)];simp[rV,dp,dJ,bQ,gA,iR,fg,dM,dY]
end
section
variable {S:Sys} {al:Al} {Q:cU} {env:Env} {blk:aw} {os all:List aj} {tr:List dR} {d:Option Nat} {op:vQ} {a b:am} {e w:Bool}
theorem qQ{rd:List Nat}{s:Nat}{r:RV}{v:V}{u:List jS}(hp:aP S f vs r)(h:land blk rd s (r.bn (S.lone s))=some (v,u)):gP S al (.pc f vs rd s) d os Q env blk↔al.kY (rd++u.map (·.1))=true/\RN S al os Q (put env d v) (app u blk):=by
 constructor
 .rintro ⟨y,hy,h2⟩
  have:=hy.Sp hp;subst this;rw[h] at h2;exact h2
 intro hK;refine⟨_,hp,?_⟩;rw[h];exact hK
theorem qU{rd:List Nat}{s:Nat}{r:RV}{v:V}{u:List jS}(hp:aP S f vs r)(h:land blk rd s (r.bn (S.lone s))=some (v,u)):dP S al (.pc f vs rd s) d all os Q env blk tr↔al.kY (rd++u.map (·.1))=true/\RD S al all os Q (put env d v) (app u blk) (tr++[⟨rd++u.map (·.1),u.map (·.1),[]⟩]):=by
 constructor
 .rintro ⟨y,hy,h2⟩
  have:=hy.Sp hp;subst this;rw[h] at h2;exact h2
 intro hK;refine⟨_,hp,?_⟩;rw[h];exact hK
theorem PW{s:Nat}(b:Bool):land blk [] s ((RV.one (.p x)).bn b)=some (.one (.p x),[]):=by cases b<;>rfl
theorem y9{s:Nat}(h:aP S f vs (.one (.p x))):gP S al (.pc f vs [] s) d os Q env blk↔RN S al os Q (put env d (.one (.p x))) blk:=by rw[qQ h (PW _)];exact⟨fun h=>h.2,fun h=>⟨rfl,h⟩⟩
theorem KS{s:Nat}(h:aP S f vs (.one (.p x))):dP S al (.pc f vs [] s) d all os Q env blk tr↔RD S al all os Q (put env d (.one (.p x))) blk (tr++[⟨[],[],[]⟩]):=by rw[qU h (PW _)];exact⟨fun h=>h.2,fun h=>⟨rfl,h⟩⟩
end
section
variable {S:Sys} {al:Al} {Q:cU} {env:Env} {blk:aw} {os all:List aj} {tr:List dR} {d:Option Nat} {op:vQ} {w:Option Bool} {a b:am} {v:V} {p:d9}
end
theorem grown.xW{c:C}{blk:aw}(h:grown site ty z es (.one c) blk):∃r,(∀B:aw,B site=blk site->Go.Abs.snap B Go.Abs.cG c=some (.sl es,r))/\(r=[]\/r=[site]):=by
 rcases h with ⟨h1,h2⟩|⟨h1,g,h2,h3⟩
 .cases h2;exact⟨[],fun B _=>by rw[h1];rfl,.inl rfl⟩
 cases h2;refine⟨[site],fun B hB=>?_,.inr rfl⟩;rw[<- hB] at h3;simp[Go.Abs.cG,Go.Abs.snap,h3]
end
end Go.Abs
namespace Go.Abs
open Go
section
variable {S:Sys} {al:Al} {Q:cU} {os all:List aj} {d:Option Nat} {env:Env} {blk:aw} {tr:List dR}
end
theorem ID{ty z:Nat}{es:List (List PV)}(h:es≠[]):ah ty z es=.own ty z es:=if_neg h
end Go.Abs
namespace Go.Abs
theorem fm1{p:Nat->Prop}:(∀k∈([]:List Nat),p k)↔True:=by simp
theorem fm2{a:Nat}{l:List Nat}{p:Nat->Prop}:(∀k∈a::l,p k)↔p a/\ ∀k∈l,p k:=List.forall_mem_cons
attribute [go_sem] fm1 fm2 qG bne_self_eq_false Bool.or_true Bool.or_false Bool.true_or Bool.false_or Bool.not_not rV dp bQ dJ dY gA iR dM fg Option.getD_some Option.getD_none Option.isSome_some Option.isSome_none
attribute [go_sem ↓] Rd
attribute [go_sem high] uw uE
attribute [go_sem] Rt Rl Rb za zO oG nu Bool.and_self Al.pO
attribute [go_sem] aM pJ ir Ut ti app if_true if_false reduceIte Nat.reduceEqDiff beq_self_eq_true reduceCtorEq ge_iff_le cT Kc xN Gh Nat.reduceAdd AW iz xD aY gj wY ne_eq Nat.reduceLeDiff kB lX sH AS toP fill Nat.reduceMul Nat.reduceLT w6 tO
attribute [go_sem] aO kr Gb tn room gT eL Nat.reduceSub Int.reduceLT Int.reduceAdd Int.reduceBEq Int.reduceBNe Int.reduceLE List.contains_eq_mem ml
end Go.Abs
