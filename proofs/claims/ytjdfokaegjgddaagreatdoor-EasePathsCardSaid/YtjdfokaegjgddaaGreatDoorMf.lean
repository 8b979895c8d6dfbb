/-
  Rules for a walk.
-/
import Derived.Test.YtjdfokaegjgddaaGreatDoorMc
import Derived.Attr
set_option linter.all false
namespace Go.Abs
section
variable{x:PV}{f site ty z:Nat}{vs:List V}{v:V}{es:List (List PV)}
theorem KJ(k:Nat):A3 (.one (.p (.int .i64 (k:Int))))=some k:=by simp[A3]
theorem KK(n:Nat):A3 (.one (.p (.int .i64 (no_index (@OfNat.ofNat Int n instOfNat)))))=some (@OfNat.ofNat Nat n (instOfNatNat n)):=by show A3 (.one (.p (.int .i64 (Int.ofNat n))))=some n;simp[A3]
theorem Ho{X9:aE}{v:PV}:snap X9 cn (.p v)=some (v.norm,[]):=rfl
def Qg{β:Type}(x:Option (β×List Nat))(y:Option (List β×List Nat)):Option (List β×List Nat):=match x,y with
 |some (b,x),some (bs,y)=>some (b::bs,x++y)
 |_,_=>none
theorem zX{β:Type}{b:β}{x:List Nat}{bs:List β}{y:List Nat}:Qg (some (b,x)) (some (bs,y))=some (b::bs,x++y):=rfl
theorem wN{α β:Type}{f:α->Option (β×List Nat)}:collect f []=some ([],[]):=rfl
theorem uJ{α β:Type}{f:α->Option (β×List Nat)}{a:α}{r:List α}:collect f (a::r)=Qg (f a) (collect f r):=by simp only[collect,Qg];cases f a<;>cases collect f r<;>rfl
theorem Be{X9:aE}{c:C}:gI X9 (.one c)=(snap X9 cn c).map fun(v,r)=>(.one (.p v),r):=rfl
theorem Bf{X9:aE}{cs:List C}:gI X9 (.agg cs)=(collect (snap X9 cn) cs).map fun(vs,r)=>(.agg (vs.map .p),r):=rfl
theorem Jt{X9:aE}{n:Nat}{v:PV}:snap X9 (n+1) (.p v)=some (v.norm,[]):=rfl
def xe(o:Nat×Option Ob)(col:List (List C)->Option (List (List PV)×List Nat))(id g off len:Nat):Option (PV×List Nat):=match o with
 |(g',some (.arr _ _ es))=>if g'=g/\off+len<=es.length then some (.sl ((es.drop off).take len),[id]) else none
 |(g',some (.Zr _ _ es))=>if g'=g/\off+len<=es.length then some (.sl ((es.drop off).take len),[id]) else none
 |(g',some (.YP _ _ es))=>if g'=g/\off+len<=es.length then
   match col ((es.drop off).take len) with
   |some (ps,r)=>some (.sl ps,id::r)
   |none=>none
  else none
 |_=>none
theorem EF{X9:aE}{id g z off len:Nat}:snap X9 cn (.hsl id g z off len)=xe (X9 id) (collect (collect (snap X9 5))) id g off len:=by unfold cn xe;rw[snap];rfl
def tU(o:Nat×Option Ob)(col:List C->Option (List PV×List Nat))(id g off:Nat):Option (PV×List Nat):=match o with
 |(g',some (.var cs))=>if g'=g then
   match col cs with
   |some (ps,r)=>some (.box (ps.drop off),id::r)
   |none=>none
  else none
 |(g',some (.fvar ps))=>if g'=g then some (.box (ps.drop off),[id]) else none
 |_=>none
theorem Bc{X9:aE}{id g off:Nat}:snap X9 cn (.Yh id g off)=tU (X9 id) (collect (snap X9 5)) id g off:=by unfold cn tU;rw[snap];rfl
section
variable {S:Sys} {al:Al} {env:Env} {X9:aE} {d:Option Nat}
theorem iX{rd:List Nat}{s:Nat}{b:Bool}(hs:x.scalar=true):land X9 rd s ((RV.one (.p x)).bZ b)=some (.one (.p x),[]):=by
 have h1:(RV.one (.p x)).bZ b=.one (.p x):=by cases b<;>rfl
 rw[h1];have:(RV.one (.p x)).alone=true:=by simp[RV.alone,eZ,dJ,RC.alone,hs]
 simp only[land,this,or_true,if_true];rfl
theorem Pq{rd:List Nat}{s:Nat}{K:Env->aE->Prop}(h:bz S f vs (.one (.p x)))(hs:x.scalar=true):Mk S .all (.pc f vs rd s) d env X9 K↔K (put env d (.one (.p x))) X9:=by
 constructor
 .rintro ⟨y,hy,h2⟩
  have:=hy.Th h;subst this;rw[iX hs] at h2;exact h2.2
 intro hK;refine⟨_,h,?_⟩;rw[iX hs];exact⟨Al.pG _,hK⟩
theorem SU{rd:List Nat}{s:Nat}{tr:List eF}{K:Env->aE->List eF->Prop}(h:bz S f vs (.one (.p x)))(hs:x.scalar=true):VK S .all (.pc f vs rd s) d env X9 tr K↔K (put env d (.one (.p x))) X9 (tr++[⟨rd,[],[]⟩]):=by
 constructor
 .rintro ⟨y,hy,h2⟩
  have:=hy.Th h;subst this;rw[iX hs] at h2
  simpa [app] using h2.2
 intro hK;refine⟨_,h,?_⟩;rw[iX hs];exact⟨Al.pG _,by simpa [app] using hK⟩
theorem Wl{ops:List aj}{Q:dO}:W S al (.region true ops) Q env X9↔WO S al ops (fun env X9 es=>gM ops [] es=true/\Q .normal env X9) env X9 []:=by
 rw[uO];constructor
 .rintro ⟨n,e,b,es,h1,h2,h3⟩;exact⟨n,e,b,es,h1,h2 rfl,h3⟩
 rintro ⟨n,e,b,es,h1,h2,h3⟩;exact⟨n,e,b,es,h1,fun _=>h2,h3⟩
end
theorem wrap_small{n:Nat}(h:n<=9223372036854775807):IntKind.i64.wrap (n:Int)=n:=qd h
theorem ah{n:Nat}(h:n<9223372036854775807):IntKind.i64.wrap ((n:Int)+1)=((n+1:Nat):Int):=qd (n:=n+1) (by omega)
section
variable {S:Sys} {al:Al} {Q:dO} {env:Env} {X9:aE} {a b:aq} {ops os all:List aj} {tr:List eF} {d:Option Nat} {op:vP} {n:Nat}
def qk(S:Sys)(al:Al)(b:aq)(Q:dO):dO
 | .normal,env,X9=>W S al b Q env X9
 | .exit i,env,X9=>Q (.exit i) env X9
 | .ret,env,X9=>Q .ret env X9
theorem Nx:Eu (W S al b Q) Q=qk S al b Q:=by funext e env X9;cases e<;>rfl
theorem UP:W S al (.seq a b) Q env X9↔W S al a (qk S al b Q) env X9:=by rw[M2,Nx]
theorem tQ:qk S al b Q .normal env X9=W S al b Q env X9:=rfl
theorem xY{i:Nat}:qk S al b Q (.exit i) env X9=Q (.exit i) env X9:=rfl
theorem A9:qk S al b Q .ret env X9=Q .ret env X9:=rfl
def cW (S:Sys)(al:Al)(v:V)(a b:aq)(Q:dO)(env:Env)(X9:aE):Prop:=Ci v (W S al a Q env X9) (W S al b Q env X9)
theorem QQ{x:aC}:W S al (.cond x a b) Q env X9↔cW S al (ev env x) a b Q env X9:=I8
theorem KH:cW S al (.one (.p (.bool true))) a b Q env X9=W S al a Q env X9:=by simp[cW,Ci]
theorem GF:cW S al (.one (.p (.bool false))) a b Q env X9=W S al b Q env X9:=by simp[cW,Ci]
def RN (S:Sys)(al:Al)(ops:List aj)(Q:dO)(env:Env)(X9:aE):Prop:=WN S al ops (fun env X9=>Q .normal env X9) env X9
def gP (S:Sys)(al:Al)(p:eS)(d:Option Nat)(os:List aj)(Q:dO)(env:Env)(X9:aE):Prop:=Mk S al p d env X9 (WN S al os fun env X9=>Q .normal env X9)
def gW (S:Sys)(al:Al)(w:Option Bool)(d:Option Nat)(op:vP)(os:List aj)(Q:dO)(env:Env)(X9:aE):Prop:=ST S al w ⟨d,op,none,0⟩ env X9 (WN S al os fun env X9=>Q .normal env X9)
theorem QO:W S al (.region false ops) Q env X9↔RN S al ops Q env X9:=I7
theorem QR:RN S al [] Q env X9↔Q .normal env X9:=I9
theorem UQ:RN S al (⟨d,op,none,n⟩::os) Q env X9↔gP S al (aR S.shared env X9 op) d os Q env X9:=wT
theorem GV{t:Nat}{w:Bool}:RN S al (⟨d,op,some (t,w),n⟩::os) Q env X9↔gW S al (vT (env t) w) d op os Q env X9:=by
 unfold RN gW;rw[wT];have:wanted env (some (t,w))=vT (env t) w:=rfl;simp only[this];cases vT (env t) w with
 |none=>rfl
 |some x=>cases x<;>rfl
theorem Kh:gW S al (some true) d op os Q env X9↔gP S al (aR S.shared env X9 op) d os Q env X9:=Iff.rfl
theorem FY:gW S al (some false) d op os Q env X9↔RN S al os Q (put env d .undef) X9:=Iff.rfl
theorem ux{u:List kB}{r:List Nat}:gP S .all (.done v u r) d os Q env X9↔RN S .all os Q (put env d v) (app u X9):=by show(Al.all.mX (r++u.map (·.1))=true/\_)↔_;rw[Al.pG];exact⟨fun h=>h.2,fun h=>⟨rfl,h⟩⟩
theorem zk{u:List kB}{r:List Nat}:gP S al (.done v u r) d os Q env X9↔al.mX (r++u.map (·.1))=true/\RN S al os Q (put env d v) (app u X9):=Iff.rfl
theorem Ki{rd:List Nat}{s:Nat}(h:bz S f vs (.one (.p x)))(hs:x.scalar=true):gP S .all (.pc f vs rd s) d os Q env X9↔RN S .all os Q (put env d (.one (.p x))) X9:=Pq h hs
theorem bj{rd:List Nat}{s:Nat}{k:IntKind}{x:Int}(h:bz S f vs (.one (.p (.int k x)))):gP S .all (.pc f vs rd s) d os Q env X9↔RN S .all os Q (put env d (.one (.p (.int k x)))) X9:=Ki h rfl
theorem az{rd:List Nat}{s:Nat}{x:Bool}(h:bz S f vs (.one (.p (.bool x)))):gP S .all (.pc f vs rd s) d os Q env X9↔RN S .all os Q (put env d (.one (.p (.bool x)))) X9:=Ki h rfl
theorem au{rd:List Nat}{s:Nat}{r:RV}{u:List kB}(hp:bz S f vs r)(h:land X9 rd s (r.bZ (S.lone s))=some (v,u)):gP S .all (.pc f vs rd s) d os Q env X9↔RN S .all os Q (put env d v) (app u X9):=by
 constructor
 .rintro ⟨y,hy,h2⟩
  have:=hy.Th hp;subst this;rw[h] at h2;exact h2.2
 intro hK;refine⟨_,hp,?_⟩;rw[h];exact⟨Al.pG _,hK⟩
def RD (S:Sys)(al:Al)(all ops:List aj)(Q:dO)(env:Env)(X9:aE)(tr:List eF):Prop:=WO S al ops (fun env X9 es=>gM all [] es=true/\Q .normal env X9) env X9 tr
def dP (S:Sys)(al:Al)(p:eS)(d:Option Nat)(all os:List aj)(Q:dO)(env:Env)(X9:aE)(tr:List eF):Prop:=VK S al p d env X9 tr (WO S al os fun env X9 es=>gM all [] es=true/\Q .normal env X9)
def dW (S:Sys)(al:Al)(w:Option Bool)(d:Option Nat)(op:vP)(all os:List aj)(Q:dO)(env:Env)(X9:aE)(tr:List eF):Prop:=UA S al w ⟨d,op,none,0⟩ env X9 tr (WO S al os fun env X9 es=>gM all [] es=true/\Q .normal env X9)
theorem QP:W S al (.region true ops) Q env X9↔RD S al ops ops Q env X9 []:=Wl
theorem QS:RD S al all [] Q env X9 tr↔gM all [] tr=true/\Q .normal env X9:=tE
theorem UR:RD S al all (⟨d,op,none,n⟩::os) Q env X9 tr↔dP S al (aR S.shared env X9 op) d all os Q env X9 tr:=mF
theorem GW{t:Nat}{w:Bool}:RD S al all (⟨d,op,some (t,w),n⟩::os) Q env X9 tr↔dW S al (vT (env t) w) d op all os Q env X9 tr:=by
 unfold RD dW;rw[mF];have:wanted env (some (t,w))=vT (env t) w:=rfl;simp only[this];cases vT (env t) w with
 |none=>rfl
 |some x=>cases x<;>rfl
theorem Ky:dW S al (some true) d op all os Q env X9 tr↔dP S al (aR S.shared env X9 op) d all os Q env X9 tr:=Iff.rfl
theorem Gq:dW S al (some false) d op all os Q env X9 tr↔RD S al all os Q (put env d .undef) X9 (tr++[⟨[],[],[]⟩]):=Iff.rfl
theorem Kz{u:List kB}{r:List Nat}:dP S .all (.done v u r) d all os Q env X9 tr↔RD S .all all os Q (put env d v) (app u X9) (tr++[⟨r,u.map (·.1),[]⟩]):=by show(Al.all.mX (r++u.map (·.1))=true/\_)↔_;rw[Al.pG];exact⟨fun h=>h.2,fun h=>⟨rfl,h⟩⟩
theorem zS{u:List kB}{r:List Nat}:dP S al (.done v u r) d all os Q env X9 tr↔al.mX (r++u.map (·.1))=true/\RD S al all os Q (put env d v) (app u X9) (tr++[⟨r,u.map (·.1),[]⟩]):=Iff.rfl
theorem KA{rd:List Nat}{s:Nat}(h:bz S f vs (.one (.p x)))(hs:x.scalar=true):dP S .all (.pc f vs rd s) d all os Q env X9 tr↔RD S .all all os Q (put env d (.one (.p x))) X9 (tr++[⟨rd,[],[]⟩]):=SU h hs
theorem dU{rd:List Nat}{s:Nat}{k:IntKind}{x:Int}(h:bz S f vs (.one (.p (.int k x)))):dP S .all (.pc f vs rd s) d all os Q env X9 tr↔RD S .all all os Q (put env d (.one (.p (.int k x)))) X9 (tr++[⟨rd,[],[]⟩]):=KA h rfl
theorem dF{rd:List Nat}{s:Nat}{x:Bool}(h:bz S f vs (.one (.p (.bool x)))):dP S .all (.pc f vs rd s) d all os Q env X9 tr↔RD S .all all os Q (put env d (.one (.p (.bool x)))) X9 (tr++[⟨rd,[],[]⟩]):=KA h rfl
theorem bl{rd:List Nat}{s:Nat}{r:RV}{u:List kB}(hp:bz S f vs r)(h:land X9 rd s (r.bZ (S.lone s))=some (v,u)):dP S .all (.pc f vs rd s) d all os Q env X9 tr↔RD S .all all os Q (put env d v) (app u X9) (tr++[⟨rd++u.map (·.1),u.map (·.1),[]⟩]):=by
 constructor
 .rintro ⟨y,hy,h2⟩
  have:=hy.Th hp;subst this;rw[h] at h2;exact h2.2
 intro hK;refine⟨_,hp,?_⟩;rw[h];exact⟨Al.pG _,hK⟩
def JO(N:Nat)(I:Nat->Env->aE->Prop)(k:Nat)(Q:dO):dO:=Eu (fun env X9=>k<N/\I (k+1) env X9) Q
theorem ug{N k:Nat}{I:Nat->Env->aE->Prop}:JO N I k Q .normal env X9=(k<N/\I (k+1) env X9):=rfl
theorem yS{N k i:Nat}{I:Nat->Env->aE->Prop}:JO N I k Q (.exit i) env X9=Q (.exit i) env X9:=rfl
theorem BG{N k:Nat}{I:Nat->Env->aE->Prop}:JO N I k Q .ret env X9=Q .ret env X9:=rfl
theorem bm{c:aq}(I:Nat->Env->aE->Prop)(k0 N:Nat)(hk:k0<=N)(h0:I k0 env X9)
  (round:∀k env X9,k<=N->I k env X9->W S al c (JO N I k Q) env X9):W S al (.loop c) Q env X9:=X1 I k0 N hk h0 round
def PT(R:V->aE->Prop)(X9:aE):Option (List V)->Prop
 |some vs=>R (xX vs) X9
 |none=>False
theorem UX{res:List (Nat×Option (Option Nat))}{R:V->aE->Prop}:pY al res R .ret env X9=PT R X9 (dd al env X9 res):=by simp only[pY,PT];cases dd al env X9 res<;>rfl
theorem GY{res:List (Nat×Option (Option Nat))}{R:V->aE->Prop}:pY al res R .normal env X9=PT R X9 (dd al env X9 res):=by simp only[pY,PT];cases dd al env X9 res<;>rfl
theorem Ce{R:V->aE->Prop}{vs:List V}:PT R X9 (some vs)=R (xX vs) X9:=rfl
end
section
variable {S:Sys} {al:Al} {Q:dO} {env:Env} {X9:aE}
def JW(S:Sys)(al:Al)(c:aq)(Q:dO):dO
 | .normal,env,X9=>W S al (.loop c) Q env X9
 | .exit i,env,X9=>Q (.exit i) env X9
 | .ret,env,X9=>Q .ret env X9
theorem uj{c:aq}:JW S al c Q .normal env X9=W S al (.loop c) Q env X9:=rfl
theorem yZ{c:aq}{i:Nat}:JW S al c Q (.exit i) env X9=Q (.exit i) env X9:=rfl
theorem BM{c:aq}:JW S al c Q .ret env X9=Q .ret env X9:=rfl
theorem fT{c:aq}(h:W S al c (JW S al c Q) env X9):W S al (.loop c) Q env X9:=by
 obtain⟨n,e,YC,Yi,h1,h2⟩:=h;cases e with
 |normal=>obtain⟨m,e,Yn,Yg,h3,h4⟩:=h2;refine⟨max n m+1,e,Yn,Yg,?_,h4⟩;simp only[exec] at h3 ⊢;simp only[iter];rw[oX S (by omega) h1];exact Du S (by omega) (by omega) h3
 |exit i=>exact⟨n+1,_,_,_,by simp[exec,iter,oX S (Nat.le_succ n) h1],h2⟩
 |ret=>exact⟨n+1,_,_,_,by simp[exec,iter,oX S (Nat.le_succ n) h1],h2⟩
end
theorem vN.Th{S:Sys}{args:List V}{al:Al}{X9:aE}{v':V}{b b':aE}(h:vN S f args al X9 v b)(h':vN S f args al X9 v' b'):v=v'/\b=b':=by obtain⟨n,hn⟩:=h;obtain⟨m,hm⟩:=h';have a:=qS S (adi n m) _ _ _ _ _ hn;have c:=qS S (adB n m) _ _ _ _ _ hm;rw[a] at c;have:=abu c;exact⟨congrArg Prod.fst this,congrArg Prod.snd this⟩
section
variable {S:Sys} {al:Al} {Q:dO} {env:Env} {X9:aE} {os all:List aj} {tr:List eF} {d:Option Nat}
theorem Di:al.mX []=true:=rfl
theorem yQ{a:Nat}{l:List Nat}:al.mX (a::l)=(al.ok a&&al.mX l):=rfl
def Kept(K:Nat->Prop)(b b':aE):Prop:=∀id,¬K id->b' id=b id
theorem Kept.refl(K:Nat->Prop)(b:aE):Kept K b b:=fun _ _=>rfl
theorem Kept.trans{K:Nat->Prop}{a b c:aE}(h:Kept K a b)(h2:Kept K b c):Kept K a c:=fun id hk=>(h2 id hk).trans (h id hk)
theorem Kept.ij{K:Nat->Prop}{b b':aE}(h:Kept K b b'){k:Nat}(hk:K k)(x:Nat×Option Ob):Kept K b (ij b' k x):=fun id hn=>by rw[ae,if_neg (by rintro rfl;exact hn hk)];exact h id hn
theorem XB{Ya:aE}(hh:al.holds (allow (S.ctx al) f vs X9)=true)(h:vN S f vs (allow (S.ctx al) f vs X9) X9 v Ya):gP S al (.sc f vs) d os Q env X9↔RN S al os Q (put env d v) Ya:=by
 constructor
 .rintro ⟨_,v2,b2,h2,h3⟩
  obtain⟨rfl,rfl⟩:=h.Th h2;exact h3
 intro h3;exact⟨hh,v,Ya,h,h3⟩
theorem zn{rd:List Nat}{s:Nat}(h:bz S f vs (.one (.p x)))(hs:x.scalar=true):gP S al (.pc f vs rd s) d os Q env X9↔al.mX (rd++[])=true/\RN S al os Q (put env d (.one (.p x))) X9:=by
 constructor
 .rintro ⟨y,hy,h2⟩
  have:=hy.Th h;subst this;rw[iX hs] at h2;exact h2
 rintro ⟨ho,hK⟩
 refine⟨_,h,?_⟩;rw[iX hs];exact⟨ho,hK⟩
theorem jG{rd:List Nat}{s:Nat}{k:IntKind}{x:Int}(h:bz S f vs (.one (.p (.int k x)))):gP S al (.pc f vs rd s) d os Q env X9↔al.mX (rd++[])=true/\RN S al os Q (put env d (.one (.p (.int k x)))) X9:=zn h rfl
theorem zo{rd:List Nat}{s:Nat}{x:Bool}(h:bz S f vs (.one (.p (.bool x)))):gP S al (.pc f vs rd s) d os Q env X9↔al.mX (rd++[])=true/\RN S al os Q (put env d (.one (.p (.bool x)))) X9:=zn h rfl
theorem Iy{f:Int->List PV}(q:Int):∀(ids:List Int) (i:Nat),kN (.int .i64 q) (ids.map fun id=>(PV.int .i64 id,f id)) i=some (if q∈ids then some (i+ids.idxOf q,f q) else none):=by
 intro ids
 induction ids with
 |nil=>intro i;rfl
 |cons a ids ih=>
  intro i;simp only[aar,kN,sameKey,if_true];by_cases e:q=a
  .subst e;simp
  have e':(q==a)=false:=by simpa using e
  have e2:¬(a=q):=fun h=>e h.symm;simp only[e'];rw[ih];simp only[aag,e,false_or,List.idxOf_cons,beq_iff_eq,e2,cond_false];by_cases h:q∈ids
  .have e3:(a==q)=false:=by simpa using e2
   simp[h,e3];omega
  simp[h]
theorem jF{f:Nat}{vs:List V}{P:V->aE->Prop}(hh:al.holds (allow (S.ctx al) f vs X9)=true)(h:∃v Ya,vN S f vs (allow (S.ctx al) f vs X9) X9 v Ya/\P v Ya)
  (hK:∀v Ya,P v Ya->RN S al os Q (put env d v) Ya):gP S al (.sc f vs) d os Q env X9:=by
 obtain⟨v,Ya,h1,h2⟩:=h;exact(XB hh h1).2 (hK v Ya h2)
theorem gb{al2:Al}:Al.all.holds al2=true:=rfl
theorem holds_of{al2:Al}(h1:al.mX al2.ids=true)(h2:al2.fs.all al.fs.contains=true):al.holds al2=true:=by unfold Al.holds;rw[h1,h2];simp
theorem qW{id:Nat}(h:(S.sites f).contains (eW id)=true):(allow (S.ctx al) f vs X9).ok id=true:=by show(false||_||(S.sites f).contains (eW id))=true;rw[h];simp
theorem ie{id:Nat}(h:id∈(vs.map (eQ X9)).flatten):(allow (S.ctx al) f vs X9).ok id=true:=by
 show(false||(vs.map (eQ X9)).flatten.contains id||_)=true;have:(vs.map (eQ X9)).flatten.contains id=true:=by simpa using h
 rw[this];rfl
theorem uY{id g g0 o:Nat}{cs:List C}(h:X9 id=(g0,some (.var cs))):eQ X9 (.one (.Yh id g o))=id::(cs.map (eJ X9 5)).flatten:=by show eJ X9 6 (.Yh id g o)=_;rw[eJ,h]
theorem CX{n:Nat}{v:PV}:eJ X9 n (.p v)=[]:=by cases n<;>rfl
theorem lc{id g g0 o l sz n:Nat}(h:X9 id=(g0,some (.arr ty sz es))):eJ X9 (n+1) (.hsl id g z o l)=[id]:=by rw[eJ,h]
def ym(x:Nat×Option Ob)(id g:Nat):Option (PV×List Nat):=match x with
 |(g',some (.map ag es))=>if g'=g then some (.mp ag es,[id]) else none
 |(g',some (.fmap ag es))=>if g'=g then some (.mp ag es,[id]) else none
 |_=>none
theorem Bd{n id g:Nat}:snap X9 (n+1) (.YW id g)=ym (X9 id) id g:=by rw[snap];rfl
end
theorem Rd:type_of%(And.intro @UP<|And.intro @QO<|And.intro @QP<|And.intro @wS<|And.intro @QQ<|And.intro @UQ<|And.intro @GV<|And.intro @QR<|And.intro @UR<|And.intro @GW<|And.intro @QS<|And.intro @Ct<|And.intro @Ar<|And.intro @As<|And.intro @tQ<|And.intro @xY<|And.intro @A9<|And.intro @sI<|And.intro @Ah<|And.intro @wR<|And.intro @ug<|And.intro @yS<|And.intro @BG<|And.intro @uj<|And.intro @yZ @BM):=And.intro @UP<|And.intro @QO<|And.intro @QP<|And.intro @wS<|And.intro @QQ<|And.intro @UQ<|And.intro @GV<|And.intro @QR<|And.intro @UR<|And.intro @GW<|And.intro @QS<|And.intro @Ct<|And.intro @Ar<|And.intro @As<|And.intro @tQ<|And.intro @xY<|And.intro @A9<|And.intro @sI<|And.intro @Ah<|And.intro @wR<|And.intro @ug<|And.intro @yS<|And.intro @BG<|And.intro @uj<|And.intro @yZ @BM
theorem Rt:type_of%(And.intro @KH<|And.intro @GF<|And.intro @Kh<|And.intro @FY<|And.intro @Ky<|And.intro @Gq<|And.intro @xR<|And.intro @vS<|And.intro @XF<|And.intro @XH<|And.intro @XI<|And.intro @XG<|And.intro @E6<|And.intro @Fa<|And.intro @ae<|And.intro @BX<|And.intro @BY<|And.intro @UX<|And.intro @GY<|And.intro @Ce<|And.intro @OD<|And.intro @norm_int<|And.intro @BD<|And.intro @Fu<|And.intro @Bz<|And.intro @JI<|And.intro @yR<|And.intro @JK<|And.intro @BA<|And.intro @BC<|And.intro @BB<|And.intro @JJ<|And.intro @yl<|And.intro @v6<|And.intro @sx<|And.intro @Ju<|And.intro @bft<|And.intro @btf<|And.intro @bff<|And.intro @btt<|And.intro @KJ<|And.intro @Ho<|And.intro @zX<|And.intro @wN<|And.intro @uJ<|And.intro @Bf<|And.intro @KK<|And.intro @Be<|And.intro @EF<|And.intro @Bc @Jt):=And.intro @KH<|And.intro @GF<|And.intro @Kh<|And.intro @FY<|And.intro @Ky<|And.intro @Gq<|And.intro @xR<|And.intro @vS<|And.intro @XF<|And.intro @XH<|And.intro @XI<|And.intro @XG<|And.intro @E6<|And.intro @Fa<|And.intro @ae<|And.intro @BX<|And.intro @BY<|And.intro @UX<|And.intro @GY<|And.intro @Ce<|And.intro @OD<|And.intro @norm_int<|And.intro @BD<|And.intro @Fu<|And.intro @Bz<|And.intro @JI<|And.intro @yR<|And.intro @JK<|And.intro @BA<|And.intro @BC<|And.intro @BB<|And.intro @JJ<|And.intro @yl<|And.intro @v6<|And.intro @sx<|And.intro @Ju<|And.intro @bft<|And.intro @btf<|And.intro @bff<|And.intro @btt<|And.intro @KJ<|And.intro @Ho<|And.intro @zX<|And.intro @wN<|And.intro @uJ<|And.intro @Bf<|And.intro @KK<|And.intro @Be<|And.intro @EF<|And.intro @Bc @Jt
theorem Rl:type_of%(And.intro @List.map_nil.{0,0}<|And.intro @List.append_nil.{0}<|And.intro @List.map_cons.{0,0}<|And.intro @List.cons_append.{0}<|And.intro @List.nil_append.{0}<|And.intro @List.drop_zero.{0}<|And.intro @List.take_zero.{0}<|And.intro @List.length_cons.{0}<|And.intro @List.length_nil.{0}<|And.intro @List.take_succ_cons.{0}<|And.intro @List.drop_nil.{0}<|And.intro @List.drop_succ_cons.{0}<|And.intro @List.length_map.{0,0}<|And.intro @List.take_nil.{0}<|And.intro @List.flatten_cons.{0}<|And.intro @List.getElem?_cons_zero.{0}<|And.intro @List.getElem?_cons_succ.{0}<|And.intro @List.all_nil.{0}<|And.intro @List.all_cons.{0}<|And.intro @List.not_mem_nil.{0} @Option.map_some.{0,0}):=And.intro @List.map_nil.{0,0}<|And.intro @List.append_nil.{0}<|And.intro @List.map_cons.{0,0}<|And.intro @List.cons_append.{0}<|And.intro @List.nil_append.{0}<|And.intro @List.drop_zero.{0}<|And.intro @List.take_zero.{0}<|And.intro @List.length_cons.{0}<|And.intro @List.length_nil.{0}<|And.intro @List.take_succ_cons.{0}<|And.intro @List.drop_nil.{0}<|And.intro @List.drop_succ_cons.{0}<|And.intro @List.length_map.{0,0}<|And.intro @List.take_nil.{0}<|And.intro @List.flatten_cons.{0}<|And.intro @List.getElem?_cons_zero.{0}<|And.intro @List.getElem?_cons_succ.{0}<|And.intro @List.all_nil.{0}<|And.intro @List.all_cons.{0}<|And.intro @List.not_mem_nil.{0} @Option.map_some.{0,0}
theorem Rb:type_of%(And.intro @Bool.false_eq_true<|And.intro @Bool.not_true<|And.intro @Bool.not_false<|And.intro @Bool.and_true<|And.intro @Bool.and_false<|And.intro @Bool.true_and<|And.intro @Bool.false_and<|And.intro @true_and<|And.intro @and_true<|And.intro @true_or<|And.intro @or_true<|And.intro @false_or<|And.intro @or_false<|And.intro @decide_true<|And.intro @decide_false<|And.intro @not_true_eq_false<|And.intro @not_false_eq_true<|And.intro @and_self<|And.intro @Nat.le_refl<|And.intro @Nat.zero_add<|And.intro @Nat.mul_one<|And.intro @Nat.zero_mul<|And.intro @Nat.zero_le<|And.intro @Nat.sub_zero @Int.zero_add):=And.intro @Bool.false_eq_true<|And.intro @Bool.not_true<|And.intro @Bool.not_false<|And.intro @Bool.and_true<|And.intro @Bool.and_false<|And.intro @Bool.true_and<|And.intro @Bool.false_and<|And.intro @true_and<|And.intro @and_true<|And.intro @true_or<|And.intro @or_true<|And.intro @false_or<|And.intro @or_false<|And.intro @decide_true<|And.intro @decide_false<|And.intro @not_true_eq_false<|And.intro @not_false_eq_true<|And.intro @and_self<|And.intro @Nat.le_refl<|And.intro @Nat.zero_add<|And.intro @Nat.mul_one<|And.intro @Nat.zero_mul<|And.intro @Nat.zero_le<|And.intro @Nat.sub_zero @Int.zero_add
def grown(site ty z:Nat)(es:List (List PV))(v:V)(X9:aE):Prop:=(es=[]/\v=.one (.p .nils))\/(es≠[]/\ ∃g,v=.one (.hsl site g z 0 es.length)/\X9 site=(g,some (.arr ty z es)))
def aD(ty z:Nat)(es:List (List PV)):RC:=if es=[] then .p .nils else .own ty z es
theorem grown.of_eq{X9 Ya:aE}(h:grown site ty z es v X9)(hb:Ya site=X9 site):grown site ty z es v Ya:=by
 rcases h with h|⟨h1,g,h2,h3⟩
 .exact .inl h
 exact .inr ⟨h1,g,h2,by rw[hb,h3]⟩
theorem grown.nil{X9:aE}:grown site ty z [] (.one (.p .nils)) X9:=.inl ⟨rfl,rfl⟩
theorem grown.jg{X9:aE}(h:grown site ty z es v X9):∃c o,v=.one c/\jg X9 c=some (aD ty z es,o,[])/\(o=[]\/o=[site]):=by
 rcases h with ⟨h1,h2⟩|⟨h1,g,h2,h3⟩
 .exact⟨.p .nils,[],h2,by simp[Go.Abs.jg,aD,h1],.inl rfl⟩
 refine⟨_,[site],h2,?_,.inr rfl⟩;simp only[Go.Abs.jg,h3,and_self,aad,if_true,aaV,aD,if_neg h1]
theorem hJ{X9:aE}(h:grown site ty z es v X9):iE X9 v=some (.one (aD ty z es)):=by
 obtain⟨c,o,rfl,h2,h3⟩:=h.jg;rcases h3 with rfl|rfl
 .simp[iE,lW,fE,gK,h2,apart,ni,ik]
 simp[iE,lW,fE,gK,h2,apart,ni,ik]
theorem s0{s1 t1 z1 s2 t2 z2:Nat}{fs:List (List PV)}{w:V}{X9:aE}(hs:s1≠s2)(h:grown s1 t1 z1 es v X9)(h':grown s2 t2 z2 fs w X9):iE X9 (.tup [v,w])=some (.tup [.one (aD t1 z1 es),.one (aD t2 z2 fs)]):=by obtain⟨c,o,rfl,h2,h3⟩:=h.jg;obtain⟨d,q,rfl,k2,k3⟩:=h'.jg;rcases h3 with rfl|rfl<;>rcases k3 with rfl|rfl<;>simp[iE,lW,jH,fE,gK,h2,k2,apart,ni,ik,oq,hs]
theorem grown.elems{X9:aE}(h:grown site ty z es v X9):∃r,cM X9 v=some (es,r,[])/\(r=[]\/r=[site]):=by
 rcases h with ⟨h1,h2⟩|⟨h1,g,h2,h3⟩
 .exact⟨[],by rw[h2,h1];rfl,.inl rfl⟩
 refine⟨[site],?_,.inr rfl⟩;rw[h2];simp[cM,h3]
theorem grown.mg{X9:aE}(h:grown site ty z es v X9):es=[]\/mg v=some z:=by
 rcases h with ⟨h1,h2⟩|⟨h1,g,h2,h3⟩
 .exact .inl h1
 exact .inr (by rw[h2];rfl)
theorem grown.iD{X9:aE}(h:grown site ty z es v X9):Go.Abs.mg v=some z\/iD z es=true:=by
 rcases h.mg with h|h
 .exact .inr (by rw[h];rfl)
 exact .inl h
theorem grown.len{X9:aE}(h:grown site ty z es v X9):wW v=some es.length:=by
 rcases h with ⟨h1,h2⟩|⟨h1,g,h2,h3⟩
 .rw[h1,h2];rfl
 rw[h2];rfl
theorem grown.snap{X9:aE}(h:grown site ty z es v X9):∃r,gI X9 v=some (.one (.p (.sl es)),r)/\(r=[]\/r=[site]):=by
 rcases h with ⟨h1,h2⟩|⟨h1,g,h2,h3⟩
 .exact⟨[],by rw[h2,h1];rfl,.inl rfl⟩
 refine⟨[site],?_,.inr rfl⟩;rw[h2];simp[gI,cn,Go.Abs.snap,h3]
theorem grown.NI{c:C}{X9:aE}(h:grown site ty z es (.one c) X9){n:Nat}:∃r,Go.Abs.snap X9 (n+1) c=some (.sl es,r)/\(r=[]\/r=[site]):=by
 rcases h with ⟨h1,h2⟩|⟨h1,g,h2,h3⟩
 .cases h2;exact⟨[],by rw[h1];rfl,.inl rfl⟩
 refine⟨[site],?_,.inr rfl⟩;cases h2;simp[Go.Abs.snap,h3]
section
variable {S:Sys} {al:Al} {Q:dO} {env:Env} {X9:aE} {os all:List aj} {tr:List eF} {d:Option Nat}
theorem gZ{id bytes:Nat}{xs:List (List PV)}{v x:V}{rd:List Nat}(hg:grown id ty z es v X9)(hx:cM X9 x=some (xs,rd,[]))(hz:mg x=some z\/iD z xs=true)(hr:(es.length+xs.length)*bytes<=140737488355328):
  ∃v' u r,aN X9 site ty z bytes v x=.done v' u r/\grown site ty z (es++xs) v' (app u X9)/\(∀i,i≠site->i≠id->app u X9 i=X9 i)/\(r=rd/\u.map (·.1)=[]\/r=site::rd/\u.map (·.1)=[site]\/r=site::id::rd/\u.map (·.1)=[id,site]):=by
 have hz':¬¬(mg x=some z\/iD z xs=true):=fun h=>h hz;rcases hg with ⟨rfl,rfl⟩|⟨Yk,g,rfl,hC⟩
 .by_cases h0:xs=[]
  .subst h0;refine⟨.one (.p .nils),[],rd,?_,.inl ⟨rfl,rfl⟩,fun i _ _=>rfl,.inl ⟨rfl,rfl⟩⟩;simp[aN,hx,hz',Iv,te]
  have hl:¬xs.length=0:=by simpa using h0
  have hr':xs.length*bytes<=room:=by simpa [room] using hr
  refine⟨.one (.hsl site ((X9 site).1+1) z 0 xs.length),[(site,((X9 site).1+1,some (.arr ty z xs)))],site::rd,?_,.inr ⟨by simpa using h0,(X9 site).1+1,by simp,?_⟩,fun i h1 _=>?_,.inr (.inl ⟨rfl,rfl⟩)⟩
  .simp only[aN,hx,if_neg hz',Iv,te,if_neg hl,if_pos hr'];simp
  .simp[app,ae]
  simp[app,ae,h1]
 have hr':(es.length+xs.length)*bytes<=room:=by simpa [room] using hr
 refine⟨.one (.hsl site ((X9 site).1+1) z 0 (es.length+xs.length)),[(id,(g,none)),(site,((X9 site).1+1,some (.arr ty z (es++xs))))],site::id::rd,?_,.inr ⟨by simp[Yk],(X9 site).1+1,by simp,?_⟩,fun i h1 h2=>?_,.inr (.inr ⟨rfl,rfl⟩)⟩
 .simp only[aN,hx,if_neg hz',Iv,te,hC];simp[hr']
 .simp[app,ae]
 simp[app,ae,h1,h2]
theorem vl{id site ty z bytes:Nat}{es xs:List (List PV)}{v x:V}{rd:List Nat}(hg:grown id ty z es v X9)(hx:cM X9 x=some (xs,rd,[]))(hz:mg x=some z\/iD z xs=true)(hr:(es.length+xs.length)*bytes<=140737488355328)
  (hK:∀(c:C) Ya,grown site ty z (es++xs) (.one c) Ya->(∀i,i≠site->i≠id->Ya i=X9 i)->RN S .all os Q (put env d (.one c)) Ya):gP S .all (aN X9 site ty z bytes v x) d os Q env X9:=by
 obtain⟨v',u,r,h1,h2,h3,_⟩:=gZ hg hx hz hr;obtain⟨c,o,rfl,_⟩:=h2.jg;rw[h1,ux];exact hK _ _ h2 h3
theorem vu{id site ty z bytes:Nat}{es xs:List (List PV)}{v x:V}{rd:List Nat}(hg:grown id ty z es v X9)(hx:cM X9 x=some (xs,rd,[]))(hz:mg x=some z\/iD z xs=true)(hr:(es.length+xs.length)*bytes<=140737488355328)
  (hK:∀(c:C) Ya r w,grown site ty z (es++xs) (.one c) Ya->(∀i,i≠site->i≠id->Ya i=X9 i)->(r=rd/\w=[]\/r=site::rd/\w=[site]\/r=site::id::rd/\w=[id,site])->RD S .all all os Q (put env d (.one c)) Ya (tr++[⟨r,w,[]⟩])):dP S .all (aN X9 site ty z bytes v x) d all os Q env X9 tr:=by
 obtain⟨v',u,r,h1,h2,h3,h4⟩:=gZ hg hx hz hr;obtain⟨c,o,rfl,_⟩:=h2.jg;rw[h1,Kz];exact hK _ _ _ _ h2 h3 h4
theorem fO{s:Nat}:grown s ty z es (.one (ju X9 s (aD ty z es)).1) (app (ju X9 s (aD ty z es)).2 X9)/\(∀i,i≠s->app (ju X9 s (aD ty z es)).2 X9 i=X9 i)/\((ju X9 s (aD ty z es)).2.map (·.1)=[]\/(ju X9 s (aD ty z es)).2.map (·.1)=[s]):=by
 unfold aD;by_cases h:es=[]
 .rw[if_pos h];exact⟨.inl ⟨h,rfl⟩,fun i _=>rfl,.inl rfl⟩
 rw[if_neg h];exact⟨.inr ⟨h,(X9 s).1+1,rfl,by simp[ju,app,ae]⟩,fun i hi=>by simp[ju,app,ae,hi],.inr rfl⟩
theorem dZ(r:RV):r.bZ false=r:=rfl
theorem gA{f:Nat}{vs:List V}{s ty z:Nat}{rd:List Nat}{es:List (List PV)}(hp:bz S f vs (.one (aD ty z es)))(Zm:S.lone s=false)(hrd:rd=[]\/(RV.one (aD ty z es)).alone=true)
  (hK:∀(c:C) Ya,grown s ty z es (.one c) Ya->(∀i,i≠s->Ya i=X9 i)->RN S .all os Q (put env d (.one c)) Ya):gP S .all (.pc f vs rd s) d os Q env X9:=by
 obtain⟨h1,h2,_⟩:=fO (X9:=X9) (s:=s) (ty:=ty) (z:=z) (es:=es);refine(au (v:=.one (ju X9 s (aD ty z es)).1) (u:=(ju X9 s (aD ty z es)).2) hp ?_).2 (hK _ _ h1 h2);rw[Zm,dZ];unfold land;rw[if_pos hrd];simp[uu,eZ,dJ,iO,lJ,fD]
end
theorem ay(h:(es.all fun e=>e.all PV.scalar)=true):(RV.one (aD ty z es)).alone=true:=by
 unfold aD;split
 .rfl
 simp[RV.alone,eZ,dJ,RC.alone,h]
theorem grown.cn{c:C}{X9:aE}(h:grown site ty z es (.one c) X9):∃r,Go.Abs.snap X9 Go.Abs.cn c=some (.sl es,r)/\(r=[]\/r=[site]):=h.NI
def l9(X9:aE)(r:List Nat):Prop:=∀i∈r,∃g ty z es,X9 i=(g,some (.arr ty z es))
theorem l9.nil{X9:aE}:l9 X9 []:=fun _ h=>by simp at h
theorem l9.app{X9:aE}{a b:List Nat}(h:l9 X9 a)(k:l9 X9 b):l9 X9 (a++b):=fun i hi=>by
 rcases aaw.1 hi with hi|hi
 .exact h i hi
 exact k i hi
theorem grown.NJ{c:C}{X9:aE}(h:grown site ty z es (.one c) X9):∃r,Go.Abs.snap X9 Go.Abs.cn c=some (.sl es,r)/\l9 X9 r/\(r=[]\/r=[site]):=by
 rcases h with ⟨h1,h2⟩|⟨h1,g,h2,h3⟩
 .cases h2;exact⟨[],by rw[h1];rfl,l9.nil,.inl rfl⟩
 refine⟨[site],?_,fun i hi=>?_,.inr rfl⟩
 .cases h2;simp[Go.Abs.snap,Go.Abs.cn,h3]
 rw[abm] at hi;subst hi;exact⟨_,_,_,_,h3⟩
theorem VO{X9:aE}(all:List Nat):∀r:List Nat,l9 X9 r->∃fu,te X9 all r=some fu/\fu.map (·.1)=r:=by
 intro r
 induction r with
 |nil=>intro _;exact⟨[],rfl,rfl⟩
 |cons i r ih=>intro h;obtain⟨g,ty,z,es,hi⟩:=h i (by simp);obtain⟨fu,h1,h2⟩:=ih fun j hj=>h j (by simp[hj]);refine⟨(i,(g,some (.Zr ty z es)))::fu,?_,by simp[h2]⟩;simp[te,wY,hi,h1]
theorem vK:∀(u:List kB) (b:aE) (i:Nat),i∉u.map (·.1)->app u b i=b i:=by
 intro u
 induction u with
 |nil=>intro b i _;rfl
 |cons x u ih=>intro b i h;simp only[aar,aag,not_or] at h;show app u (ij b x.1 x.2) i=b i;rw[ih _ _ h.2,ae,if_neg h.1]
theorem pF:∀(a b:List kB) (c:aE),app (a++b) c=app b (app a c):=by
 intro a
 induction a with
 |nil=>intro b c;rfl
 |cons x a ih=>intro b c;exact ih b _
section
variable {S:Sys} {al:Al} {Q:dO} {env:Env} {X9:aE} {os all:List aj} {tr:List eF} {d:Option Nat}
theorem SY{id site ty z bytes:Nat}{es xs:List (List PV)}{v x:V}{rd fr:List Nat}(hg:grown id ty z es v X9)(hx:cM X9 x=some (xs,rd,fr))(hfr:l9 X9 fr)(hni:id∉fr)(hns:site∉fr)(hz:mg x=some z\/iD z xs=true)(hr:(es.length+xs.length)*bytes<=140737488355328)
  (hK:∀(c:C) Ya,grown site ty z (es++xs) (.one c) Ya->(∀i,i≠site->i≠id->i∉fr->Ya i=X9 i)->RN S .all os Q (put env d (.one c)) Ya):gP S .all (aN X9 site ty z bytes v x) d os Q env X9:=by
 have hz':¬¬(mg x=some z\/iD z xs=true):=fun h=>h hz;obtain⟨fu,hf1,hf2⟩:=VO fr fr hfr;have ajb:Iv X9 fr=some fu:=hf1;rcases hg with ⟨rfl,rfl⟩|⟨Yk,g,rfl,hC⟩
 .by_cases h0:xs=[]
  .subst h0;have:aN X9 site ty z bytes (.one (.p .nils)) x=.done (.one (.p .nils)) fu (rd++fr):=by simp[aN,hx,hz',ajb]
   rw[this,ux];exact hK _ _ (.inl ⟨rfl,rfl⟩) fun i _ _ h3=>vK _ _ _ (by rw[hf2];exact h3)
  have hl:¬xs.length=0:=by simpa using h0
  have hr':xs.length*bytes<=room:=by simpa [room] using hr
  have:aN X9 site ty z bytes (.one (.p .nils)) x=.done (.one (.hsl site ((X9 site).1+1) z 0 xs.length)) (fu++[(site,((X9 site).1+1,some (.arr ty z xs)))]) (site::rd++fr):=by simp only[aN,hx,if_neg hz',ajb,if_neg hl,if_pos hr']
  rw[this,ux];refine hK _ _ (.inr ⟨by simpa using h0,(X9 site).1+1,by simp,?_⟩) fun i h1 _ h3=>?_
  .rw[pF];simp[app,ae]
  rw[pF];have:=vK fu X9 i (by rw[hf2];exact h3);simp[app,ae,h1,this]
 have hr':(es.length+xs.length)*bytes<=room:=by simpa [room] using hr
 have hnc:fr.contains id=false:=by simpa using hni
 have:aN X9 site ty z bytes (.one (.hsl id g z 0 es.length)) x=.done (.one (.hsl site ((X9 site).1+1) z 0 (es.length+xs.length))) (fu++[(id,(g,none)),(site,((X9 site).1+1,some (.arr ty z (es++xs))))]) (site::id::rd++fr):=by simp only[aN,hx,if_neg hz',ajb,hC,hnc];simp[hr']
 rw[this,ux];refine hK _ _ (.inr ⟨by simp[Yk],(X9 site).1+1,by simp,?_⟩) fun i h1 h2 h3=>?_
 .rw[pF];simp[app,ae]
 rw[pF];have:=vK fu X9 i (by rw[hf2];exact h3);simp[app,ae,h1,h2,this]
end
section
variable {S:Sys} {al:Al} {Q:dO} {env:Env} {X9:aE} {os all:List aj} {tr:List eF} {d:Option Nat}
theorem HO{l:List Nat}(h:∀i∈l,al.ok i=true):al.mX l=true:=aaP.2 h
theorem xA{id site ty z bytes:Nat}{es xs:List (List PV)}{v x:V}{rd:List Nat}(Yd:∀i∈site::id::rd,al.ok i=true)(hg:grown id ty z es v X9)(hx:cM X9 x=some (xs,rd,[]))(hz:mg x=some z\/iD z xs=true)(hr:(es.length+xs.length)*bytes<=140737488355328)
  (hK:∀(c:C) Ya,grown site ty z (es++xs) (.one c) Ya->(∀i,i≠site->i≠id->Ya i=X9 i)->RN S al os Q (put env d (.one c)) Ya):gP S al (aN X9 site ty z bytes v x) d os Q env X9:=by
 obtain⟨v',u,r,h1,h2,h3,h4⟩:=gZ hg hx hz hr;obtain⟨c,o,rfl,_⟩:=h2.jg;rw[h1,zk];refine⟨?_,hK _ _ h2 h3⟩;rcases h4 with ⟨rfl,h5⟩|⟨rfl,h5⟩|⟨rfl,h5⟩<;>rw[h5]<;>refine HO fun i hi=>Yd i ?_ <;>simp at hi ⊢
 .exact .inr (.inr hi)
 .rcases hi with h|h|h<;>simp[h]
 rcases hi with h|h|h|h|h<;>simp[h]
theorem xF{id site ty z bytes:Nat}{es xs:List (List PV)}{v x:V}{rd:List Nat}(Yd:∀i∈site::id::rd,al.ok i=true)(hg:grown id ty z es v X9)(hx:cM X9 x=some (xs,rd,[]))(hz:mg x=some z\/iD z xs=true)(hr:(es.length+xs.length)*bytes<=140737488355328)
  (hK:∀(c:C) Ya r w,grown site ty z (es++xs) (.one c) Ya->(∀i,i≠site->i≠id->Ya i=X9 i)->(r=rd/\w=[]\/r=site::rd/\w=[site]\/r=site::id::rd/\w=[id,site])->RD S al all os Q (put env d (.one c)) Ya (tr++[⟨r,w,[]⟩])):dP S al (aN X9 site ty z bytes v x) d all os Q env X9 tr:=by
 obtain⟨v',u,r,h1,h2,h3,h4⟩:=gZ hg hx hz hr;obtain⟨c,o,rfl,_⟩:=h2.jg;rw[h1,zS];refine⟨?_,hK _ _ _ _ h2 h3 h4⟩;rcases h4 with ⟨rfl,h5⟩|⟨rfl,h5⟩|⟨rfl,h5⟩<;>rw[h5]<;>refine HO fun i hi=>Yd i ?_ <;>simp at hi ⊢
 .exact .inr (.inr hi)
 .rcases hi with h|h|h<;>simp[h]
 rcases hi with h|h|h|h|h<;>simp[h]
theorem VN{f:Nat}{vs:List V}{s t1 z1 t2 z2:Nat}{rd:List Nat}{es fs:List (List PV)}(Yd:∀i∈s::(s+1)::rd,al.ok i=true)(hp:bz S f vs (.tup [.one (aD t1 z1 es),.one (aD t2 z2 fs)]))(Zm:S.lone s=false)
  (ZF:(es.all fun e=>e.all PV.scalar)=true) (Zd:(fs.all fun e=>e.all PV.scalar)=true)
  (hK:∀(c e:C) Ya,grown s t1 z1 es (.one c) Ya->grown (s+1) t2 z2 fs (.one e) Ya->(∀i,i≠s->i≠s+1->Ya i=X9 i)->RN S al os Q (put env d (.tup [.one c,.one e])) Ya):gP S al (.pc f vs rd s) d os Q env X9:=by
 have ZP:(RV.tup [.one (aD t1 z1 es),.one (aD t2 z2 fs)]).alone=true:=by have a:=ay (ty:=t1) (z:=z1) ZF;have b:=ay (ty:=t2) (z:=z2) Zd;simp only[RV.alone,eZ,dJ,ab9,acH,ado] at a b;simp[RV.alone,eZ,gh,dJ,a,b]
 obtain⟨h1,h2,h2u⟩:=fO (X9:=X9) (s:=s) (ty:=t1) (z:=z1) (es:=es);have e0:∀(b b':aE) (k:Nat) (r:RC),b' k=b k->ju b k r=ju b' k r:=by
  intro b b' k r h;cases r with
  |p v=>rfl
  |own ty sz es=>simp only[ju,h]
 have e2:ju X9 (s+1) (aD t2 z2 fs)=ju (app (ju X9 s (aD t1 z1 es)).2 X9) (s+1) (aD t2 z2 fs):=e0 _ _ _ _ (h2 (s+1) (by omega));obtain⟨k1,k2,k2u⟩:=fO (X9:=app (ju X9 s (aD t1 z1 es)).2 X9) (s:=s+1) (ty:=t2) (z:=z2) (es:=fs);rw[<- e2] at k1 k2 k2u;refine⟨_,hp,?_⟩;rw[Zm,dZ];have hl:land X9 rd s (RV.tup [.one (aD t1 z1 es),.one (aD t2 z2 fs)])=some (.tup [.one (ju X9 s (aD t1 z1 es)).1,.one (ju X9 (s+1) (aD t2 z2 fs)).1],(ju X9 s (aD t1 z1 es)).2++(ju X9 (s+1) (aD t2 z2 fs)).2):=by unfold land;rw[if_pos (.inr ZP)];simp[uu,eZ,gh,dJ,iO,lJ,iN,fD]
 rw[hl];refine⟨HO fun i hi=>Yd i ?_,hK _ _ _ ?_ ?_ ?_⟩
 .simp only[aaN,aaw] at hi;rcases hi with hi|hi|hi
  .simp[hi]
  .rcases h2u with h|h<;>rw[h] at hi<;>simp at hi<;>simp[hi]
  rcases k2u with h|h<;>rw[h] at hi<;>simp at hi<;>simp[hi]
 .rw[pF];exact h1.of_eq (k2 s (by omega))
 .rw[pF];exact k1
 intro i a b;rw[pF,k2 i b,h2 i a]
end
theorem af{b:aE}{a i:Nat}{x:Nat×Option Ob}(h:i≠a):ij b a x i=b i:=by rw[ae,if_neg h]
theorem lz{b:aE}{a:Nat}{x:Nat×Option Ob}:ij b a x a=x:=by rw[ae,if_pos rfl]
theorem Dk{a i:Nat}{l:List Nat}(h:i∉l)(ha:a∈l):i≠a:=fun e=>h (e▸ha)
section
variable {S:Sys} {al:Al} {Q:dO} {env:Env} {X9:aE} {os all:List aj} {tr:List eF} {d:Option Nat}
theorem PA{f:Nat}{vs:List V}{s ty z:Nat}{es:List (List PV)}{x:PV}(hp:bz S f vs (.tup [.one (aD ty z es),.one (.p x)]))(Zm:S.lone s=false)
  (hK:∀(c:C) Ya,grown s ty z es (.one c) Ya->(∀i,i≠s->Ya i=X9 i)->RN S .all os Q (put env d (.tup [.one c,.one (.p x)])) Ya):gP S .all (.pc f vs [] s) d os Q env X9:=by
 obtain⟨h1,h2,_⟩:=fO (X9:=X9) (s:=s) (ty:=ty) (z:=z) (es:=es);refine(au (v:=.tup [.one (ju X9 s (aD ty z es)).1,.one (.p x)]) (u:=(ju X9 s (aD ty z es)).2) hp ?_).2 (hK _ _ h1 h2);rw[Zm,dZ];unfold land;rw[if_pos (.inl rfl)];simp[uu,eZ,gh,dJ,iO,lJ,iN,fD,ju]
theorem eI{f:Nat}{vs:List V}{s ty z:Nat}{rd:List Nat}{es:List (List PV)}(hp:bz S f vs (.one (aD ty z es)))(Zm:S.lone s=false)(hrd:rd=[]\/(RV.one (aD ty z es)).alone=true)
  (hK:∀(c:C) Ya w,grown s ty z es (.one c) Ya->(∀i,i≠s->Ya i=X9 i)->(w=[]\/w=[s])->RD S .all all os Q (put env d (.one c)) Ya (tr++[⟨rd++w,w,[]⟩])):dP S .all (.pc f vs rd s) d all os Q env X9 tr:=by
 obtain⟨h1,h2,h3⟩:=fO (X9:=X9) (s:=s) (ty:=ty) (z:=z) (es:=es);refine(bl (v:=.one (ju X9 s (aD ty z es)).1) (u:=(ju X9 s (aD ty z es)).2) hp ?_).2 (hK _ _ _ h1 h2 h3);rw[Zm,dZ];unfold land;rw[if_pos hrd];simp[uu,eZ,dJ,iO,lJ,fD]
theorem Qd{f:Nat}{vs:List V}{s ty z:Nat}{es:List (List PV)}{x:PV}(hp:bz S f vs (.tup [.one (aD ty z es),.one (.p x)]))(Zm:S.lone s=false)
  (hK:∀(c:C) Ya w,grown s ty z es (.one c) Ya->(∀i,i≠s->Ya i=X9 i)->(w=[]\/w=[s])->RD S .all all os Q (put env d (.tup [.one c,.one (.p x)])) Ya (tr++[⟨[]++w,w,[]⟩])):dP S .all (.pc f vs [] s) d all os Q env X9 tr:=by
 obtain⟨h1,h2,h3⟩:=fO (X9:=X9) (s:=s) (ty:=ty) (z:=z) (es:=es);refine(bl (v:=.tup [.one (ju X9 s (aD ty z es)).1,.one (.p x)]) (u:=(ju X9 s (aD ty z es)).2) hp ?_).2 (hK _ _ _ h1 h2 h3);rw[Zm,dZ];unfold land;rw[if_pos (.inl rfl)];simp[uu,eZ,gh,dJ,iO,lJ,iN,fD,ju]
theorem UC{f:Nat}{vs:List V}{s ty z:Nat}{rd:List Nat}{es:List (List PV)}{x:PV}(hp:bz S f vs (.agg [.p x,aD ty z es]))(Zm:S.lone s=false)(hx:x.scalar=true)(hs:(es.all fun e=>e.all PV.scalar)=true)
  (hK:∀(c:C) Ya,grown (s+1) ty z es (.one c) Ya->(∀i,i≠s+1->Ya i=X9 i)->RN S .all os Q (put env d (.agg [.p x,c])) Ya):gP S .all (.pc f vs rd s) d os Q env X9:=by
 obtain⟨h1,h2,_⟩:=fO (X9:=X9) (s:=s+1) (ty:=ty) (z:=z) (es:=es);have ZP:(RV.agg [.p x,aD ty z es]).alone=true:=by have a:=ay (ty:=ty) (z:=z) hs;simp only[RV.alone,eZ,dJ,ab9,acH,ado] at a;simp only[RV.alone,eZ,dJ,ab9,acH,ado,a];exact hx
 refine(au (v:=.agg [.p x,(ju X9 (s+1) (aD ty z es)).1]) (u:=(ju X9 (s+1) (aD ty z es)).2) hp ?_).2 (hK _ _ h1 h2);rw[Zm,dZ];unfold land;rw[if_pos (.inr ZP)];simp[uu,eZ,dJ,iO,lJ,fD,ju]
theorem Pz{f:Nat}{vs:List V}{s ty z:Nat}{es:List (List PV)}{x y:PV}(hp:bz S f vs (.tup [.agg [.p x,aD ty z es],.one (.p y)]))(Zm:S.lone s=false)
  (hK:∀(c:C) Ya,grown (s+1) ty z es (.one c) Ya->(∀i,i≠s+1->Ya i=X9 i)->RN S .all os Q (put env d (.tup [.agg [.p x,c],.one (.p y)])) Ya):gP S .all (.pc f vs [] s) d os Q env X9:=by
 obtain⟨h1,h2,_⟩:=fO (X9:=X9) (s:=s+1) (ty:=ty) (z:=z) (es:=es);refine(au (v:=.tup [.agg [.p x,(ju X9 (s+1) (aD ty z es)).1],.one (.p y)]) (u:=(ju X9 (s+1) (aD ty z es)).2) hp ?_).2 (hK _ _ h1 h2);rw[Zm,dZ];unfold land;rw[if_pos (.inl rfl)];simp[uu,eZ,gh,dJ,iO,lJ,iN,fD,ju]
theorem VL{f:Nat}{vs:List V}{s ty z:Nat}{rd:List Nat}{es:List (List PV)}{x y:PV}(hp:bz S f vs (.tup [.agg [.p x,aD ty z es],.one (.p y)]))(Zm:S.lone s=false)(hx:x.scalar=true)(hy:y.scalar=true)(hs:(es.all fun e=>e.all PV.scalar)=true)
  (hK:∀(c:C) Ya,grown (s+1) ty z es (.one c) Ya->(∀i,i≠s+1->Ya i=X9 i)->RN S .all os Q (put env d (.tup [.agg [.p x,c],.one (.p y)])) Ya):gP S .all (.pc f vs rd s) d os Q env X9:=by
 obtain⟨h1,h2,_⟩:=fO (X9:=X9) (s:=s+1) (ty:=ty) (z:=z) (es:=es);have ZP:(RV.tup [.agg [.p x,aD ty z es],.one (.p y)]).alone=true:=by have a:=ay (ty:=ty) (z:=z) hs;simp only[RV.alone,eZ,dJ,ab9,acH,ado] at a;simp only[RV.alone,eZ,gh,dJ,ac3,aaE,abo,ab9,acH,ado,a,adb];show(x.scalar&&y.scalar)=true;rw[hx,hy];rfl
 refine(au (v:=.tup [.agg [.p x,(ju X9 (s+1) (aD ty z es)).1],.one (.p y)]) (u:=(ju X9 (s+1) (aD ty z es)).2) hp ?_).2 (hK _ _ h1 h2);rw[Zm,dZ];unfold land;rw[if_pos (.inr ZP)];simp[uu,eZ,gh,dJ,iO,lJ,iN,fD,ju]
end
theorem lT{s1 t1 z1:Nat}{c:C}{y:PV}{X9:aE}(h:grown s1 t1 z1 es (.one c) X9):iE X9 (.tup [.agg [.p x,c],.one (.p y)])=some (.tup [.agg [.p x,aD t1 z1 es],.one (.p y)]):=by obtain⟨c',o,hc,h2,h3⟩:=h.jg;cases hc;have e1:jg X9 (.p x)=some (.p x,[],[]):=rfl;have e2:jg X9 (.p y)=some (.p y,[],[]):=rfl;rcases h3 with rfl|rfl<;>simp[iE,lW,jH,fE,gK,h2,e1,e2,apart,ni,ik,oq]
section
variable {S:Sys} {al:Al} {Q:dO} {env:Env} {X9:aE} {os all:List aj} {tr:List eF} {d:Option Nat} {op:vP} {w:Option Bool} {a b:aq} {v:V}
theorem bd(L:List Nat)(h:∀e:Env,(∀k∈L,e k=env k)->gW S al w d op os Q e X9):gW S al w d op os Q env X9:=h env fun _ _=>rfl
theorem gi(L:List Nat)(h:∀e:Env,(∀k∈L,e k=env k)->dW S al w d op all os Q e X9 tr):dW S al w d op all os Q env X9 tr:=h env fun _ _=>rfl
theorem Qo(L:List Nat)(h:∀e:Env,(∀k∈L,e k=env k)->cW S al v a b Q e X9):cW S al v a b Q env X9:=h env fun _ _=>rfl
end
section
variable {S:Sys} {al:Al} {Q:dO} {env:Env} {X9:aE} {os all:List aj} {tr:List eF} {d:Option Nat}
end
section
variable {S:Sys} {al:Al} {Q:dO} {env:Env} {X9:aE} {os all:List aj} {tr:List eF} {d:Option Nat} {op:vP} {a b:aq} {e w:Bool}
theorem Py{rd:List Nat}{s:Nat}{r:RV}{u:List kB}(hp:bz S f vs r)(h:land X9 rd s (r.bZ (S.lone s))=some (v,u)):gP S al (.pc f vs rd s) d os Q env X9↔al.mX (rd++u.map (·.1))=true/\RN S al os Q (put env d v) (app u X9):=by
 constructor
 .rintro ⟨y,hy,h2⟩
  have:=hy.Th hp;subst this;rw[h] at h2;exact h2
 intro hK;refine⟨_,hp,?_⟩;rw[h];exact hK
theorem Qc{rd:List Nat}{s:Nat}{r:RV}{u:List kB}(hp:bz S f vs r)(h:land X9 rd s (r.bZ (S.lone s))=some (v,u)):dP S al (.pc f vs rd s) d all os Q env X9 tr↔al.mX (rd++u.map (·.1))=true/\RD S al all os Q (put env d v) (app u X9) (tr++[⟨rd++u.map (·.1),u.map (·.1),[]⟩]):=by
 constructor
 .rintro ⟨y,hy,h2⟩
  have:=hy.Th hp;subst this;rw[h] at h2;exact h2
 intro hK;refine⟨_,hp,?_⟩;rw[h];exact hK
theorem O5{s:Nat}(b:Bool):land X9 [] s ((RV.one (.p x)).bZ b)=some (.one (.p x),[]):=by cases b<;>rfl
theorem XC{s:Nat}(h:bz S f vs (.one (.p x))):gP S al (.pc f vs [] s) d os Q env X9↔RN S al os Q (put env d (.one (.p x))) X9:=by rw[Py h (O5 _)];exact⟨fun h=>h.2,fun h=>⟨rfl,h⟩⟩
theorem UI{s:Nat}(h:bz S f vs (.one (.p x))):dP S al (.pc f vs [] s) d all os Q env X9 tr↔RD S al all os Q (put env d (.one (.p x))) X9 (tr++[⟨[],[],[]⟩]):=by rw[Qc h (O5 _)];exact⟨fun h=>h.2,fun h=>⟨rfl,h⟩⟩
end
section
variable {S:Sys} {al:Al} {Q:dO} {env:Env} {X9:aE} {os all:List aj} {tr:List eF} {d:Option Nat} {op:vP} {w:Option Bool} {a b:aq} {v:V} {p:eS}
end
theorem grown.WI{c:C}{X9:aE}(h:grown site ty z es (.one c) X9):∃r,(∀B:aE,B site=X9 site->Go.Abs.snap B Go.Abs.cn c=some (.sl es,r))/\(r=[]\/r=[site]):=by
 rcases h with ⟨h1,h2⟩|⟨h1,g,h2,h3⟩
 .cases h2;exact⟨[],fun B _=>by rw[h1];rfl,.inl rfl⟩
 cases h2;refine⟨[site],fun B hB=>?_,.inr rfl⟩;rw[<- hB] at h3;simp[Go.Abs.cn,Go.Abs.snap,h3]
end
end Go.Abs
namespace Go.Abs
open Go
section
variable {S:Sys} {al:Al} {Q:dO} {os all:List aj} {d:Option Nat} {env:Env} {X9:aE} {tr:List eF}
end
theorem Ip{ty z:Nat}{es:List (List PV)}(h:es≠[]):aD ty z es=.own ty z es:=if_neg h
end Go.Abs
namespace Go.Abs
theorem fm1{p:Nat->Prop}:(∀k∈([]:List Nat),p k)↔True:=by simp
theorem fm2{a:Nat}{l:List Nat}{p:Nat->Prop}:(∀k∈a::l,p k)↔p a/\ ∀k∈l,p k:=List.forall_mem_cons
attribute [go_sem] fm1 fm2 qD bne_self_eq_false Bool.or_true Bool.or_false Bool.true_or Bool.false_or Bool.not_not uu eZ dJ gh ju iO lJ fD iN Option.getD_some Option.getD_none Option.isSome_some Option.isSome_none
attribute [go_sem ↓] Rd
attribute [go_sem high] ux Kz
attribute [go_sem] Rt Rl Rb zk zS Di yQ Bool.and_self Al.pG
attribute [go_sem] aR pE iw Tb sY app if_true if_false reduceIte Nat.reduceEqDiff beq_self_eq_true reduceCtorEq ge_iff_le dd JM xX F6 Nat.reduceAdd AS iC xN bi gj wW ne_eq Nat.reduceLeDiff ky lX tO AP toP fill Nat.reduceMul Nat.reduceLT xe tU
attribute [go_sem] cM mg Iv te room gY fi Nat.reduceSub Int.reduceLT Int.reduceAdd Int.reduceBEq Int.reduceBNe Int.reduceLE List.contains_eq_mem mv
end Go.Abs
