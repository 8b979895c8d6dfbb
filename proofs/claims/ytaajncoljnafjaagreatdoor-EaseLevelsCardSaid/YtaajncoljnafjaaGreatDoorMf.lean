/-
  Rules for a walk.
-/
import Derived.Test.YtaajncoljnafjaaGreatDoorMc
import Derived.Attr
set_option linter.all false
namespace Go.Abs
section
variable{x:PV}{vs:e_}{f site ty z:Nat}{es:s_}
theorem abj(k:Nat):qA (.one (.p (.int .i64 (k:Int))))=some k:=by simp[qA]
theorem abi(n:Nat):qA (.one (.p (.int .i64 (no_index (@OfNat.ofNat Int n instOfNat)))))=some (@OfNat.ofNat Nat n (instOfNatNat n)):=by show qA (.one (.p (.int .i64 (Int.ofNat n))))=some n;simp[qA]
theorem Tq{aj:aC}{v:PV}:snap aj gG (.p v)=some (v.norm,[]):=rfl
def UO{β:Type}(x:Option (β×a_))(y:Option (List β×a_)):Option (List β×a_):=match x,y with
 |some (b,x),some (bs,y)=>some (b::bs,x++y)
 |_,_=>none
theorem ab2{β:Type}{b:β}{x:a_}{bs:List β}{y:a_}:UO (some (b,x)) (some (bs,y))=some (b::bs,x++y):=rfl
theorem abW{α β:Type}{f:α->Option (β×a_)}:collect f []=some ([],[]):=rfl
theorem abU{α β:Type}{f:α->Option (β×a_)}{a:α}{r:List α}:collect f (a::r)=UO (f a) (collect f r):=by simp only[collect,UO];cases f a<;>cases collect f r<;>rfl
theorem ajl{aj:aC}{c:C}:oY aj (.one c)=(snap aj gG c).map fun(v,r)=>(.one (.p v),r):=rfl
theorem ajk{aj:aC}{cs:f_}:oY aj (.agg cs)=(collect (snap aj gG) cs).map fun(vs,r)=>(.agg (vs.map .p),r):=rfl
theorem ajt{aj:aC}{n:Nat}{v:PV}:snap aj (n+1) (.p v)=some (v.norm,[]):=rfl
def Tp(o:Nat×Option Ob)(col:List f_->Option (s_×a_))(id g off len:Nat):Option (PV×a_):=match o with
 |(g',some (.arr _ _ es))=>if g'=g/\off+len<=es.length then some (.sl ((es.drop off).take len),[id])else none
 |(g',some (.pL _ _ es))=>if g'=g/\off+len<=es.length then some (.sl ((es.drop off).take len),[id])else none
 |(g',some (.jo _ _ es))=>if g'=g/\off+len<=es.length then
   match col ((es.drop off).take len)with
   |some (ps,r)=>some (.sl ps,id::r)
   |none=>none
  else none
 |_=>none
theorem ajs{aj:aC}{id g z off len:Nat}:snap aj gG (.hsl id g z off len)=Tp (aj id) (collect (collect (snap aj 5))) id g off len:=by unfold gG Tp;rw[snap];rfl
def To(o:Nat×Option Ob)(col:f_->Option (b_×a_))(id g off:Nat):Option (PV×a_):=match o with
 |(g',some (.var cs))=>if g'=g then
   match col cs with
   |some (ps,r)=>some (.box (ps.drop off),id::r)
   |none=>none
  else none
 |(g',some (.fvar ps))=>if g'=g then some (.box (ps.drop off),[id])else none
 |_=>none
theorem ajr{aj:aC}{id g off:Nat}:snap aj gG (.aZ id g off)=To (aj id) (collect (snap aj 5)) id g off:=by unfold gG To;rw[snap];rfl
section
variable {S:Sys} {al:Al} {ak:Env} {aj:aC} {d:w_}
theorem K0{rd:a_}{s:Nat}{b:Bool}(hs:x.scalar=true):land aj rd s ((RV.one (.p x)).gj b)=some (.one (.p x),[]):=by
 have h1:(RV.one (.p x)).gj b=.one (.p x):=by cases b<;>rfl
 rw[h1];have:(RV.one (.p x)).alone=true:=by simp[RV.alone,iu,iJ,RC.alone,hs]
 simp only[land,this,or_true,if_true];rfl
theorem aps{rd:a_}{s:Nat}{K:Env->aC->Prop}(h:aK S f vs (.one (.p x)))(hs:x.scalar=true):Ki S .all (.pc f vs rd s) d ak aj K↔K (put ak d (.one (.p x))) aj:=by
 constructor
 .rintro ⟨y,hy,h2⟩
  have:=hy.AX h;subst this;rw[K0 hs]at h2;exact h2.2
 intro hK;refine⟨_,h,?_⟩;rw[K0 hs];exact⟨Al.GQ _,hK⟩
theorem apt{rd:a_}{s:Nat}{tr:i_}{K:Env->aC->i_->Prop}(h:aK S f vs (.one (.p x)))(hs:x.scalar=true):Hs S .all (.pc f vs rd s) d ak aj tr K↔K (put ak d (.one (.p x))) aj (tr++[⟨rd,[],[]⟩]):=by
 constructor
 .rintro ⟨y,hy,h2⟩
  have:=hy.AX h;subst this;rw[K0 hs]at h2
  simpa [app]using h2.2
 intro hK;refine⟨_,h,?_⟩;rw[K0 hs];exact⟨Al.GQ _,by simpa [app]using hK⟩
theorem ak1{ops:h_}{Q:dX}:W S al (.region true ops) Q ak aj↔WO S al ops (fun ak aj es=>um ops [] es=true/\Q .normal ak aj) ak aj []:=by
 rw[aa2];constructor
 .rintro ⟨n,e,b,es,h1,h2,h3⟩;exact⟨n,e,b,es,h1,h2 rfl,h3⟩
 rintro⟨n,e,b,es,h1,h2,h3⟩;exact⟨n,e,b,es,h1,fun _=>h2,h3⟩
end
theorem wrap_small{n:Nat}(h:n<=9223372036854775807):IntKind.i64.wrap (n:Int)=n:=PH h
theorem cU{n:Nat}(h:n<9223372036854775807):IntKind.i64.wrap ((n:Int)+1)=((n+1:Nat):Int):=PH (n:=n+1) aa
section
variable {S:Sys} {al:Al} {Q:dX} {ak:Env} {aj:aC} {a b:aN} {ops os all:h_} {tr:i_} {d:w_} {op:oF} {n:Nat}
def Ai(S:Sys)(al:Al)(b:aN)(Q:dX):dX
 | .normal,ak,aj=>W S al b Q ak aj
 | .exit i,ak,aj=>Q (.exit i) ak aj
 | .ret,ak,aj=>Q .ret ak aj
theorem aw1:LU (W S al b Q) Q=Ai S al b Q:=by funext e ak aj;cases e<;>rfl
theorem aaV:W S al (.seq a b) Q ak aj↔W S al a (Ai S al b Q) ak aj:=by rw[ak7,aw1]
theorem ajO:Ai S al b Q .normal ak aj=W S al b Q ak aj:=rfl
theorem ajN{i:Nat}:Ai S al b Q (.exit i) ak aj=Q (.exit i) ak aj:=rfl
theorem ajP:Ai S al b Q .ret ak aj=Q .ret ak aj:=rfl
def cW (S:Sys)(al:Al)(v:V)(a b:aN)(Q:dX)(ak:Env)(aj:aC):Prop:=JK v (W S al a Q ak aj) (W S al b Q ak aj)
theorem aaT{x:aU}:W S al (.cond x a b) Q ak aj↔cW S al (ev ak x) a b Q ak aj:=ak0
theorem abE:cW S al (.one (.p (.bool true))) a b Q ak aj=W S al a Q ak aj:=by simp[cW,JK]
theorem abD:cW S al (.one (.p (.bool false))) a b Q ak aj=W S al b Q ak aj:=by simp[cW,JK]
def RN (S:Sys)(al:Al)(ops:h_)(Q:dX)(ak:Env)(aj:aC):Prop:=WN S al ops (fun ak aj=>Q .normal ak aj) ak aj
def gP (S:Sys)(al:Al)(p:fL)(d:w_)(os:h_)(Q:dX)(ak:Env)(aj:aC):Prop:=Ki S al p d ak aj (WN S al os fun ak aj=>Q .normal ak aj)
def gW (S:Sys)(al:Al)(w:Option Bool)(d:w_)(op:oF)(os:h_)(Q:dX)(ak:Env)(aj:aC):Prop:=Ro S al w ⟨d,op,none,0⟩ ak aj (WN S al os fun ak aj=>Q .normal ak aj)
theorem aaW:W S al (.region false ops) Q ak aj↔RN S al ops Q ak aj:=ak8
theorem aaR:RN S al [] Q ak aj↔Q .normal ak aj:=akU
theorem aaS:RN S al (⟨d,op,none,n⟩::os) Q ak aj↔gP S al (bN S.shared ak aj op) d os Q ak aj:=aaY
theorem aaQ{t:Nat}{w:Bool}:RN S al (⟨d,op,some (t,w),n⟩::os) Q ak aj↔gW S al (GA (ak t) w) d op os Q ak aj:=by
 unfold RN gW;rw[aaY];have:wanted ak (some (t,w))=GA (ak t) w:=rfl;simp only[this];cases GA (ak t) w with
 |none=>rfl
 |some x=>cases x<;>rfl
theorem aeN:gW S al (some true) d op os Q ak aj↔gP S al (bN S.shared ak aj op) d os Q ak aj:=uv
theorem aeM:gW S al (some false) d op os Q ak aj↔RN S al os Q (put ak d .undef) aj:=uv
theorem Np{v:V}{u:l_}{r:a_}:gP S .all (.done v u r) d os Q ak aj↔RN S .all os Q (put ak d v) (app u aj):=by show(Al.all.fQ (r++u.map (·.1))=true/\_)↔_;rw[Al.GQ];exact⟨fun h=>h.2,fun h=>⟨rfl,h⟩⟩
theorem aeE{v:V}{u:l_}{r:a_}:gP S al (.done v u r) d os Q ak aj↔al.fQ (r++u.map (·.1))=true/\RN S al os Q (put ak d v) (app u aj):=uv
theorem Xp{rd:a_}{s:Nat}(h:aK S f vs (.one (.p x)))(hs:x.scalar=true):gP S .all (.pc f vs rd s) d os Q ak aj↔RN S .all os Q (put ak d (.one (.p x))) aj:=aps h hs
theorem eW{rd:a_}{s:Nat}{k:IntKind}{x:Int}(h:aK S f vs (.one (.p (.int k x)))):gP S .all (.pc f vs rd s) d os Q ak aj↔RN S .all os Q (put ak d (.one (.p (.int k x)))) aj:=Xp h rfl
theorem eD{rd:a_}{s:Nat}{x:Bool}(h:aK S f vs (.one (.p (.bool x)))):gP S .all (.pc f vs rd s) d os Q ak aj↔RN S .all os Q (put ak d (.one (.p (.bool x)))) aj:=Xp h rfl
theorem FC{rd:a_}{s:Nat}{x:ByteArray}(h:aK S f vs (.one (.p (.str x)))):gP S .all (.pc f vs rd s) d os Q ak aj↔RN S .all os Q (put ak d (.one (.p (.str x)))) aj:=Xp h rfl
theorem dr{rd:a_}{s:Nat}{r:RV}{v:V}{u:l_}(hp:aK S f vs r)(h:land aj rd s (r.gj (S.lone s))=some (v,u)):gP S .all (.pc f vs rd s) d os Q ak aj↔RN S .all os Q (put ak d v) (app u aj):=by
 constructor
 .rintro ⟨y,hy,h2⟩
  have:=hy.AX hp;subst this;rw[h]at h2;exact h2.2
 intro hK;refine⟨_,hp,?_⟩;rw[h];exact⟨Al.GQ _,hK⟩
def RD (S:Sys)(al:Al)(all ops:h_)(Q:dX)(ak:Env)(aj:aC)(tr:i_):Prop:=WO S al ops (fun ak aj es=>um all [] es=true/\Q .normal ak aj) ak aj tr
def dP (S:Sys)(al:Al)(p:fL)(d:w_)(all os:h_)(Q:dX)(ak:Env)(aj:aC)(tr:i_):Prop:=Hs S al p d ak aj tr (WO S al os fun ak aj es=>um all [] es=true/\Q .normal ak aj)
def dW (S:Sys)(al:Al)(w:Option Bool)(d:w_)(op:oF)(all os:h_)(Q:dX)(ak:Env)(aj:aC)(tr:i_):Prop:=FG S al w ⟨d,op,none,0⟩ ak aj tr (WO S al os fun ak aj es=>um all [] es=true/\Q .normal ak aj)
theorem aaU:W S al (.region true ops) Q ak aj↔RD S al ops ops Q ak aj []:=ak1
theorem aaO:RD S al all [] Q ak aj tr↔um all [] tr=true/\Q .normal ak aj:=Ub
theorem aaP:RD S al all (⟨d,op,none,n⟩::os) Q ak aj tr↔dP S al (bN S.shared ak aj op) d all os Q ak aj tr:=Qg
theorem aaN{t:Nat}{w:Bool}:RD S al all (⟨d,op,some (t,w),n⟩::os) Q ak aj tr↔dW S al (GA (ak t) w) d op all os Q ak aj tr:=by
 unfold RD dW;rw[Qg];have:wanted ak (some (t,w))=GA (ak t) w:=rfl;simp only[this];cases GA (ak t) w with
 |none=>rfl
 |some x=>cases x<;>rfl
theorem acr:dW S al (some true) d op all os Q ak aj tr↔dP S al (bN S.shared ak aj op) d all os Q ak aj tr:=uv
theorem acq:dW S al (some false) d op all os Q ak aj tr↔RD S al all os Q (put ak d .undef) aj (tr++[⟨[],[],[]⟩]):=uv
theorem MU{v:V}{u:l_}{r:a_}:dP S .all (.done v u r) d all os Q ak aj tr↔RD S .all all os Q (put ak d v) (app u aj) (tr++[⟨r,u.map (·.1),[]⟩]):=by show(Al.all.fQ (r++u.map (·.1))=true/\_)↔_;rw[Al.GQ];exact⟨fun h=>h.2,fun h=>⟨rfl,h⟩⟩
theorem aco{v:V}{u:l_}{r:a_}:dP S al (.done v u r) d all os Q ak aj tr↔al.fQ (r++u.map (·.1))=true/\RD S al all os Q (put ak d v) (app u aj) (tr++[⟨r,u.map (·.1),[]⟩]):=uv
theorem U2{rd:a_}{s:Nat}(h:aK S f vs (.one (.p x)))(hs:x.scalar=true):dP S .all (.pc f vs rd s) d all os Q ak aj tr↔RD S .all all os Q (put ak d (.one (.p x))) aj (tr++[⟨rd,[],[]⟩]):=apt h hs
theorem ir{rd:a_}{s:Nat}{k:IntKind}{x:Int}(h:aK S f vs (.one (.p (.int k x)))):dP S .all (.pc f vs rd s) d all os Q ak aj tr↔RD S .all all os Q (put ak d (.one (.p (.int k x)))) aj (tr++[⟨rd,[],[]⟩]):=U2 h rfl
theorem mZ{rd:a_}{s:Nat}{x:Bool}(h:aK S f vs (.one (.p (.bool x)))):dP S .all (.pc f vs rd s) d all os Q ak aj tr↔RD S .all all os Q (put ak d (.one (.p (.bool x)))) aj (tr++[⟨rd,[],[]⟩]):=U2 h rfl
theorem acp{rd:a_}{s:Nat}{x:ByteArray}(h:aK S f vs (.one (.p (.str x)))):dP S .all (.pc f vs rd s) d all os Q ak aj tr↔RD S .all all os Q (put ak d (.one (.p (.str x)))) aj (tr++[⟨rd,[],[]⟩]):=U2 h rfl
theorem He{rd:a_}{s:Nat}{r:RV}{v:V}{u:l_}(hp:aK S f vs r)(h:land aj rd s (r.gj (S.lone s))=some (v,u)):dP S .all (.pc f vs rd s) d all os Q ak aj tr↔RD S .all all os Q (put ak d v) (app u aj) (tr++[⟨rd++u.map (·.1),u.map (·.1),[]⟩]):=by
 constructor
 .rintro ⟨y,hy,h2⟩
  have:=hy.AX hp;subst this;rw[h]at h2;exact h2.2
 intro hK;refine⟨_,hp,?_⟩;rw[h];exact⟨Al.GQ _,hK⟩
def Lg(N:Nat)(I:Nat->Env->aC->Prop)(k:Nat)(Q:dX):dX:=LU (fun ak aj=>k<N/\I (k+1) ak aj) Q
theorem ahw{N k:Nat}{I:Nat->Env->aC->Prop}:Lg N I k Q .normal ak aj=(k<N/\I (k+1) ak aj):=rfl
theorem ahv{N k i:Nat}{I:Nat->Env->aC->Prop}:Lg N I k Q (.exit i) ak aj=Q (.exit i) ak aj:=rfl
theorem ahx{N k:Nat}{I:Nat->Env->aC->Prop}:Lg N I k Q .ret ak aj=Q .ret ak aj:=rfl
theorem dD{c:aN}(I:Nat->Env->aC->Prop)(k0 N:Nat)(hk:k0<=N)(h0:I k0 ak aj)
  (round:∀k ak aj,k<=N->I k ak aj->W S al c (Lg N I k Q) ak aj):W S al (.loop c) Q ak aj:=ak3 I k0 N hk h0 round
def M9(R:V->aC->Prop)(aj:aC):Option e_->Prop
 |some vs=>R (BA vs) aj
 |none=>False
theorem aaH{res:List (Nat×Option w_)}{R:V->aC->Prop}:oJ al res R .ret ak aj=M9 R aj (qm al ak aj res):=by simp only[oJ,M9];cases qm al ak aj res<;>rfl
theorem aaG{res:List (Nat×Option w_)}{R:V->aC->Prop}:oJ al res R .normal ak aj=M9 R aj (qm al ak aj res):=by simp only[oJ,M9];cases qm al ak aj res<;>rfl
theorem acP{R:V->aC->Prop}{vs:e_}:M9 R aj (some vs)=R (BA vs) aj:=rfl
end
section
variable {S:Sys} {al:Al} {Q:dX} {ak:Env} {aj:aC}
def Sw(S:Sys)(al:Al)(c:aN)(Q:dX):dX
 | .normal,ak,aj=>W S al (.loop c) Q ak aj
 | .exit i,ak,aj=>Q (.exit i) ak aj
 | .ret,ak,aj=>Q .ret ak aj
theorem ag6{c:aN}:Sw S al c Q .normal ak aj=W S al (.loop c) Q ak aj:=rfl
theorem ag5{c:aN}{i:Nat}:Sw S al c Q (.exit i) ak aj=Q (.exit i) ak aj:=rfl
theorem ag7{c:aN}:Sw S al c Q .ret ak aj=Q .ret ak aj:=rfl
theorem sK{c:aN}(h:W S al c (Sw S al c Q) ak aj):W S al (.loop c) Q ak aj:=by
 obtain⟨n,e,iT,cF,h1,h2⟩:=h;cases e with
 |normal=>obtain⟨m,e,dy,bn,h3,h4⟩:=h2;refine⟨max n m+1,e,dy,bn,?_,h4⟩;simp only[exec]at h3 |-;simp only[iter];rw[A1 S aa h1];exact Sq S aa aa h3
 |exit i=>exact⟨n+1,_,_,_,by simp[exec,iter,A1 S (Mm n) h1],h2⟩
 |ret=>exact⟨n+1,_,_,_,by simp[exec,iter,A1 S (Mm n) h1],h2⟩
end
theorem jg.AX{S:Sys}{args:e_}{al:Al}{aj:aC}{v v':V}{b b':aC}(h:jg S f args al aj v b)(h':jg S f args al aj v' b'):v=v'/\b=b':=by obtain⟨n,hn⟩:=h;obtain⟨m,hm⟩:=h';have a:=MH S (GJ n m) _ _ _ _ _ hn;have c:=MH S (Jg n m) _ _ _ _ _ hm;rw[a]at c;have:=pz c;exact⟨congrArg Prod.fst this,congrArg Prod.snd this⟩
section
variable {S:Sys} {al:Al} {Q:dX} {ak:Env} {aj:aC} {os all:h_} {tr:i_} {d:w_}
theorem IA:al.fQ []=true:=rfl
theorem Ll{a:Nat}{l:a_}:al.fQ (a::l)=(al.ok a&&al.fQ l):=rfl
def Kept(K:Nat->Prop)(b b':aC):Prop:=∀id,¬K id->b' id=b id
theorem Kept.refl(K:Nat->Prop)(b:aC):Kept K b b:=fun _ _=>rfl
theorem Kept.trans{K:Nat->Prop}{a b c:aC}(h:Kept K a b)(h2:Kept K b c):Kept K a c:=fun id hk=>(h2 id hk).trans (h id hk)
theorem Kept.eh{K:Nat->Prop}{b b':aC}(h:Kept K b b'){k:Nat}(hk:K k)(x:Nat×Option Ob):Kept K b (eh b' k x):=fun id hn=>by rw[aP,au (by rintro rfl;exact hn hk)];exact h id hn
theorem api{v:V}{ao:aC}(hh:al.holds (allow (S.ctx al) f vs aj)=true)(h:jg S f vs (allow (S.ctx al) f vs aj) aj v ao):gP S al (.sc f vs) d os Q ak aj↔RN S al os Q (put ak d v) ao:=by
 constructor
 .rintro ⟨_,v2,b2,h2,h3⟩
  obtain⟨rfl,rfl⟩:=h.AX h2;exact h3
 intro h3;exact⟨hh,v,ao,h,h3⟩
theorem aeD{rd:a_}{s:Nat}(h:aK S f vs (.one (.p x)))(hs:x.scalar=true):gP S al (.pc f vs rd s) d os Q ak aj↔al.fQ (rd++[])=true/\RN S al os Q (put ak d (.one (.p x))) aj:=by
 constructor
 .rintro ⟨y,hy,h2⟩
  have:=hy.AX h;subst this;rw[K0 hs]at h2;exact h2
 rintro⟨ho,hK⟩
 refine⟨_,h,?_⟩;rw[K0 hs];exact⟨ho,hK⟩
theorem Nq{rd:a_}{s:Nat}{k:IntKind}{x:Int}(h:aK S f vs (.one (.p (.int k x)))):gP S al (.pc f vs rd s) d os Q ak aj↔al.fQ (rd++[])=true/\RN S al os Q (put ak d (.one (.p (.int k x)))) aj:=aeD h rfl
theorem aeC{rd:a_}{s:Nat}{x:Bool}(h:aK S f vs (.one (.p (.bool x)))):gP S al (.pc f vs rd s) d os Q ak aj↔al.fQ (rd++[])=true/\RN S al os Q (put ak d (.one (.p (.bool x)))) aj:=aeD h rfl
theorem aoI{f:Int->b_}(q:Int):∀(ids:d_) (i:Nat),qF (.int .i64 q) (ids.map fun id=>(PV.int .i64 id,f id)) i=some (if q∈ids then some (i+ids.idxOf q,f q)else none):=by
 intro ids
 induction ids with
 |nil=>intro i;rfl
 |cons a ids ih=>
  intro i;simp only[ek,qF,sameKey,if_true];by_cases e:q=a
  .subst e;simp
  have e':(q==a)=false:=by simpa using e
  have e2:¬(a=q):=fun h=>e h.symm;simp only[e'];rw[ih];simp only[bJ,e,false_or,TY,cZ,e2,cond_false];by_cases h:q∈ids
  .have e3:(a==q)=false:=by simpa using e2
   simp[h,e3];omega
  simp[h]
theorem r5{f:Nat}{vs:e_}{P:V->aC->Prop}(hh:al.holds (allow (S.ctx al) f vs aj)=true)(h:∃v ao,jg S f vs (allow (S.ctx al) f vs aj) aj v ao/\P v ao)
  (hK:∀v ao,P v ao->RN S al os Q (put ak d v) ao):gP S al (.sc f vs) d os Q ak aj:=by
 obtain⟨v,ao,h1,h2⟩:=h;exact(api hh h1).2 (hK v ao h2)
theorem zR{Mt:Al}:Al.all.holds Mt=true:=rfl
theorem holds_of{Mt:Al}(h1:al.fQ Mt.ids=true)(h2:Mt.fs.all al.fs.contains=true):al.holds Mt=true:=by unfold Al.holds;rw[h1,h2];simp
theorem uE{id:Nat}(h:(S.sites f).contains (jw id)=true):(allow (S.ctx al) f vs aj).ok id=true:=by show(false||_||(S.sites f).contains (jw id))=true;rw[h];simp
theorem tM{id:Nat}(h:id∈(vs.map (jF aj)).flatten):(allow (S.ctx al) f vs aj).ok id=true:=by
 show(false||(vs.map (jF aj)).flatten.contains id||_)=true;have:(vs.map (jF aj)).flatten.contains id=true:=by simpa using h
 rw[this];rfl
theorem Ly{id g g0 o:Nat}{cs:f_}(h:aj id=(g0,some (.var cs))):jF aj (.one (.aZ id g o))=id::(cs.map (kr aj 5)).flatten:=by show kr aj 6 (.aZ id g o)=_;rw[kr,h]
theorem Lx{n:Nat}{v:PV}:kr aj n (.p v)=[]:=by cases n<;>rfl
theorem EG{id g g0 o l sz n:Nat}(h:aj id=(g0,some (.arr ty sz es))):kr aj (n+1) (.hsl id g z o l)=[id]:=by rw[kr,h]
def ZQ(x:Nat×Option Ob)(id g:Nat):Option (PV×a_):=match x with
 |(g',some (.map ag es))=>if g'=g then some (.mp ag es,[id])else none
 |(g',some (.fmap ag es))=>if g'=g then some (.mp ag es,[id])else none
 |_=>none
theorem ajq{n id g:Nat}:snap aj (n+1) (.kL id g)=ZQ (aj id) id g:=by rw[snap];rfl
end
def grown(site ty z:Nat)(es:s_)(v:V)(aj:aC):Prop:=(es=[]/\v=.one (.p .nils))\/(es≠[]/\ ∃g,v=.one (.hsl site g z 0 es.length)/\aj site=(g,some (.arr ty z es)))
def aW(ty z:Nat)(es:s_):RC:=if es=[]then .p .nils else .own ty z es
theorem grown.of_eq{v:V}{aj ao:aC}(h:grown site ty z es v aj)(hb:ao site=aj site):grown site ty z es v ao:=by
 rcases h with h|⟨h1,g,h2,h3⟩
 .exact .inl h
 exact .inr ⟨h1,g,h2,by rw[hb,h3]⟩
theorem grown.nil{aj:aC}:grown site ty z [] (.one (.p .nils)) aj:=.inl ⟨rfl,rfl⟩
theorem grown.jW{v:V}{aj:aC}(h:grown site ty z es v aj):∃c o,v=.one c/\jW aj c=some (aW ty z es,o,[])/\(o=[]\/o=[site]):=by
 rcases h with⟨h1,h2⟩|⟨h1,g,h2,h3⟩
 .exact⟨.p .nils,[],h2,by simp[Go.Abs.jW,aW,h1],.inl rfl⟩
 refine⟨_,[site],h2,?_,.inr rfl⟩;simp only[Go.Abs.jW,h3,and_self,bY,if_true,lJ,aW,au h1]
theorem A6{v:V}{aj:aC}(h:grown site ty z es v aj):jk aj v=some (.one (aW ty z es)):=by
 obtain⟨c,o,rfl,h2,h3⟩:=h.jW;rcases h3 with rfl|rfl
 .simp[jk,tW,oL,nC,h2,apart,wx,tE]
 simp[jk,tW,oL,nC,h2,apart,wx,tE]
theorem Rp{s1 t1 z1 s2 t2 z2:Nat}{fs:s_}{v w:V}{aj:aC}(hs:s1≠s2)(h:grown s1 t1 z1 es v aj)(h':grown s2 t2 z2 fs w aj):jk aj (.tup [v,w])=some (.tup [.one (aW t1 z1 es),.one (aW t2 z2 fs)]):=by obtain⟨c,o,rfl,h2,h3⟩:=h.jW;obtain⟨d,q,rfl,k2,k3⟩:=h'.jW;rcases h3 with rfl|rfl<;>rcases k3 with rfl|rfl<;>simp[jk,tW,vE,oL,nC,h2,k2,apart,wx,tE,Bw,hs]
theorem grown.elems{v:V}{aj:aC}(h:grown site ty z es v aj):∃r,fN aj v=some (es,r,[])/\(r=[]\/r=[site]):=by
 rcases h with⟨h1,h2⟩|⟨h1,g,h2,h3⟩
 .exact⟨[],by rw[h2,h1];rfl,.inl rfl⟩
 refine⟨[site],?_,.inr rfl⟩;rw[h2];simp[fN,h3]
theorem grown.nG{v:V}{aj:aC}(h:grown site ty z es v aj):es=[]\/nG v=some z:=by
 rcases h with⟨h1,h2⟩|⟨h1,g,h2,h3⟩
 .exact .inl h1
 exact .inr (by rw[h2];rfl)
theorem grown.iG{v:V}{aj:aC}(h:grown site ty z es v aj):Go.Abs.nG v=some z\/iG z es=true:=by
 rcases h.nG with h|h
 .exact .inr (by rw[h];rfl)
 exact .inl h
theorem grown.len{v:V}{aj:aC}(h:grown site ty z es v aj):zX v=some es.length:=by
 rcases h with⟨h1,h2⟩|⟨h1,g,h2,h3⟩
 .rw[h1,h2];rfl
 rw[h2];rfl
theorem grown.snap{v:V}{aj:aC}(h:grown site ty z es v aj):∃r,oY aj v=some (.one (.p (.sl es)),r)/\(r=[]\/r=[site]):=by
 rcases h with⟨h1,h2⟩|⟨h1,g,h2,h3⟩
 .exact⟨[],by rw[h2,h1];rfl,.inl rfl⟩
 refine⟨[site],?_,.inr rfl⟩;rw[h2];simp[oY,gG,Go.Abs.snap,h3]
theorem grown.ZN{c:C}{aj:aC}(h:grown site ty z es (.one c) aj){n:Nat}:∃r,Go.Abs.snap aj (n+1) c=some (.sl es,r)/\(r=[]\/r=[site]):=by
 rcases h with⟨h1,h2⟩|⟨h1,g,h2,h3⟩
 .cases h2;exact⟨[],by rw[h1];rfl,.inl rfl⟩
 refine⟨[site],?_,.inr rfl⟩;cases h2;simp[Go.Abs.snap,h3]
section
variable {S:Sys} {al:Al} {Q:dX} {ak:Env} {aj:aC} {os all:h_} {tr:i_} {d:w_}
theorem SX{id bytes:Nat}{xs:s_}{v x:V}{rd:a_}(hg:grown id ty z es v aj)(hx:fN aj x=some (xs,rd,[]))(hz:nG x=some z\/iG z xs=true)(hr:(es.length+xs.length)*bytes<=140737488355328):
  ∃v' u r,gE aj site ty z bytes v x=.done v' u r/\grown site ty z (es++xs) v' (app u aj)/\(∀i,i≠site->i≠id->app u aj i=aj i)/\(r=rd/\u.map (·.1)=[]\/r=site::rd/\u.map (·.1)=[site]\/r=site::id::rd/\u.map (·.1)=[id,site]):=by
 have rK:¬¬(nG x=some z\/iG z xs=true):=fun h=>h hz;rcases hg with⟨rfl,rfl⟩|⟨aH,g,rfl,hC⟩
 .by_cases h0:xs=[]
  .subst h0;refine⟨.one (.p .nils),[],rd,?_,.inl ⟨rfl,rfl⟩,fun i _ _=>rfl,.inl ⟨rfl,rfl⟩⟩;simp[gE,hx,rK,sW,uN]
  have hl:¬xs.length=0:=by simpa using h0
  have mM:xs.length*bytes<=room:=by simpa [room]using hr
  refine⟨.one (.hsl site ((aj site).1+1) z 0 xs.length),[(site,((aj site).1+1,some (.arr ty z xs)))],site::rd,?_,.inr ⟨by simpa using h0,(aj site).1+1,af,?_⟩,fun i h1 _=>?_,.inr (.inl ⟨rfl,rfl⟩)⟩
  .simp only[gE,hx,au rK,sW,uN,au hl,aD mM];simp
  .simp[app,aP]
  simp[app,aP,h1]
 have mM:(es.length+xs.length)*bytes<=room:=by simpa [room]using hr
 refine⟨.one (.hsl site ((aj site).1+1) z 0 (es.length+xs.length)),[(id,(g,none)),(site,((aj site).1+1,some (.arr ty z (es++xs))))],site::id::rd,?_,.inr ⟨by simp[aH],(aj site).1+1,af,?_⟩,fun i h1 h2=>?_,.inr (.inr ⟨rfl,rfl⟩)⟩
 .simp only[gE,hx,au rK,sW,uN,hC];simp[mM]
 .simp[app,aP]
 simp[app,aP,h1,h2]
theorem uO{id site ty z bytes:Nat}{es xs:s_}{v x:V}{rd:a_}(hg:grown id ty z es v aj)(hx:fN aj x=some (xs,rd,[]))(hz:nG x=some z\/iG z xs=true)(hr:(es.length+xs.length)*bytes<=140737488355328)
  (hK:∀(c:C) ao,grown site ty z (es++xs) (.one c) ao->(∀i,i≠site->i≠id->ao i=aj i)->RN S .all os Q (put ak d (.one c)) ao):gP S .all (gE aj site ty z bytes v x) d os Q ak aj:=by
 obtain⟨v',u,r,h1,h2,h3,_⟩:=SX hg hx hz hr;obtain⟨c,o,rfl,_⟩:=h2.jW;rw[h1,Np];exact hK _ _ h2 h3
theorem BO{id site ty z bytes:Nat}{es xs:s_}{v x:V}{rd:a_}(hg:grown id ty z es v aj)(hx:fN aj x=some (xs,rd,[]))(hz:nG x=some z\/iG z xs=true)(hr:(es.length+xs.length)*bytes<=140737488355328)
  (hK:∀(c:C) ao r w,grown site ty z (es++xs) (.one c) ao->(∀i,i≠site->i≠id->ao i=aj i)->(r=rd/\w=[]\/r=site::rd/\w=[site]\/r=site::id::rd/\w=[id,site])->RD S .all all os Q (put ak d (.one c)) ao (tr++[⟨r,w,[]⟩])):dP S .all (gE aj site ty z bytes v x) d all os Q ak aj tr:=by
 obtain⟨v',u,r,h1,h2,h3,h4⟩:=SX hg hx hz hr;obtain⟨c,o,rfl,_⟩:=h2.jW;rw[h1,MU];exact hK _ _ _ _ h2 h3 h4
theorem uh{s:Nat}:grown s ty z es (.one (dw aj s (aW ty z es)).1) (app (dw aj s (aW ty z es)).2 aj)/\(∀i,i≠s->app (dw aj s (aW ty z es)).2 aj i=aj i)/\((dw aj s (aW ty z es)).2.map (·.1)=[]\/(dw aj s (aW ty z es)).2.map (·.1)=[s]):=by
 unfold aW;by_cases h:es=[]
 .rw[aD h];exact⟨.inl ⟨h,rfl⟩,fun i _=>rfl,.inl rfl⟩
 rw[au h];exact⟨.inr ⟨h,(aj s).1+1,rfl,by simp[dw,app,aP]⟩,fun i hi=>by simp[dw,app,aP,hi],.inr rfl⟩
theorem xB(r:RV):r.gj false=r:=rfl
theorem sX{f:Nat}{vs:e_}{s ty z:Nat}{rd:a_}{es:s_}(hp:aK S f vs (.one (aW ty z es)))(eL:S.lone s=false)(pV:rd=[]\/(RV.one (aW ty z es)).alone=true)
  (hK:∀(c:C) ao,grown s ty z es (.one c) ao->(∀i,i≠s->ao i=aj i)->RN S .all os Q (put ak d (.one c)) ao):gP S .all (.pc f vs rd s) d os Q ak aj:=by
 obtain⟨h1,h2,_⟩:=uh (aj:=aj) (s:=s) (ty:=ty) (z:=z) (es:=es);refine(dr (v:=.one (dw aj s (aW ty z es)).1) (u:=(dw aj s (aW ty z es)).2) hp ?_).2 (hK _ _ h1 h2);rw[eL,xB];unfold land;rw[aD pV];simp[jO,iu,iJ,jt,rQ,mS]
theorem aeH{f:Nat}{vs:e_}{s t1 z1 t2 z2:Nat}{es fs:s_}(hp:aK S f vs (.tup [.one (aW t1 z1 es),.one (aW t2 z2 fs)]))(eL:S.lone s=false)
  (hK:∀(c e:C) ao,grown s t1 z1 es (.one c) ao->grown (s+1) t2 z2 fs (.one e) ao->(∀i,i≠s->i≠s+1->ao i=aj i)->RN S .all os Q (put ak d (.tup [.one c,.one e])) ao):gP S .all (.pc f vs [] s) d os Q ak aj:=by
 obtain⟨h1,h2,_⟩:=uh (aj:=aj) (s:=s) (ty:=t1) (z:=z1) (es:=es);have e0:∀(b b':aC) (k:Nat) (r:RC),b' k=b k->dw b k r=dw b' k r:=by
  intro b b' k r h;cases r with
  |p v=>rfl
  |own ty sz es=>simp only[dw,h]
 have e2:dw aj (s+1) (aW t2 z2 fs)=dw (app (dw aj s (aW t1 z1 es)).2 aj) (s+1) (aW t2 z2 fs):=e0 _ _ _ _ (h2 (s+1) aa);obtain⟨k1,k2,_⟩:=uh (aj:=app (dw aj s (aW t1 z1 es)).2 aj) (s:=s+1) (ty:=t2) (z:=z2) (es:=fs);rw[<-e2]at k1 k2;have Hz:∀(a b:l_) (c:aC),app (a++b) c=app b (app a c):=by
  intro a
  induction a with
  |nil=>intro b c;rfl
  |cons x a ih=>intro b c;exact ih b _
 refine(dr (v:=.tup [.one (dw aj s (aW t1 z1 es)).1,.one (dw aj (s+1) (aW t2 z2 fs)).1]) (u:=(dw aj s (aW t1 z1 es)).2++(dw aj (s+1) (aW t2 z2 fs)).2) hp ?_).2 (hK _ _ _ ?_ ?_ ?_)
 .rw[eL,xB];unfold land;rw[aD (.inl rfl)];simp[jO,iu,ng,iJ,jt,rQ,sH,mS]
 .rw[Hz];exact h1.of_eq (k2 s aa)
 .rw[Hz];exact k1
 intro i a b;rw[Hz,k2 i b,h2 i a]
end
theorem rV(h:(es.all fun e=>e.all PV.scalar)=true):(RV.one (aW ty z es)).alone=true:=by
 unfold aW;split
 .rfl
 simp[RV.alone,iu,iJ,RC.alone,h]
theorem grown.gG{c:C}{aj:aC}(h:grown site ty z es (.one c) aj):∃r,Go.Abs.snap aj Go.Abs.gG c=some (.sl es,r)/\(r=[]\/r=[site]):=h.ZN
def pG(aj:aC)(r:a_):Prop:=∀i∈r,∃g ty z es,aj i=(g,some (.arr ty z es))
theorem pG.nil{aj:aC}:pG aj []:=fun _ h=>by simp at h
theorem pG.app{aj:aC}{a b:a_}(h:pG aj a)(k:pG aj b):pG aj (a++b):=fun i hi=>by
 rcases eO.1 hi with hi|hi
 .exact h i hi
 exact k i hi
theorem grown.Tn{c:C}{aj:aC}(h:grown site ty z es (.one c) aj):∃r,Go.Abs.snap aj Go.Abs.gG c=some (.sl es,r)/\pG aj r/\(r=[]\/r=[site]):=by
 rcases h with⟨h1,h2⟩|⟨h1,g,h2,h3⟩
 .cases h2;exact⟨[],by rw[h1];rfl,pG.nil,.inl rfl⟩
 refine⟨[site],?_,fun i hi=>?_,.inr rfl⟩
 .cases h2;simp[Go.Abs.snap,Go.Abs.gG,h3]
 rw[lI]at hi;subst hi;exact⟨_,_,_,_,h3⟩
theorem Xl{aj:aC}(all:a_):∀r:a_,pG aj r->∃fu,uN aj all r=some fu/\fu.map (·.1)=r:=by
 intro r
 induction r with
 |nil=>intro _;exact⟨[],rfl,rfl⟩
 |cons i r ih=>intro h;obtain⟨g,ty,z,es,hi⟩:=h i af;obtain⟨fu,h1,h2⟩:=ih fun j hj=>h j (by simp[hj]);refine⟨(i,(g,some (.pL ty z es)))::fu,?_,by simp[h2]⟩;simp[uN,xY,hi,h1]
theorem GU:∀(u:l_) (b:aC) (i:Nat),i∉u.map (·.1)->app u b i=b i:=by
 intro u
 induction u with
 |nil=>intro b i _;rfl
 |cons x u ih=>intro b i h;simp only[ek,bJ,Aw]at h;show app u (eh b x.1 x.2) i=b i;rw[ih _ _ h.2,aP,au h.1]
theorem AO:∀(a b:l_) (c:aC),app (a++b) c=app b (app a c):=by
 intro a
 induction a with
 |nil=>intro b c;rfl
 |cons x a ih=>intro b c;exact ih b _
section
variable {S:Sys} {al:Al} {Q:dX} {ak:Env} {aj:aC} {os all:h_} {tr:i_} {d:w_}
theorem apa{id site ty z bytes:Nat}{es xs:s_}{v x:V}{rd fr:a_}(hg:grown id ty z es v aj)(hx:fN aj x=some (xs,rd,fr))(lW:pG aj fr)(hni:id∉fr)(xf:site∉fr)(hz:nG x=some z\/iG z xs=true)(hr:(es.length+xs.length)*bytes<=140737488355328)
  (hK:∀(c:C) ao,grown site ty z (es++xs) (.one c) ao->(∀i,i≠site->i≠id->i∉fr->ao i=aj i)->RN S .all os Q (put ak d (.one c)) ao):gP S .all (gE aj site ty z bytes v x) d os Q ak aj:=by
 have rK:¬¬(nG x=some z\/iG z xs=true):=fun h=>h hz;obtain⟨fu,vK,zJ⟩:=Xl fr fr lW;have HH:sW aj fr=some fu:=vK;rcases hg with⟨rfl,rfl⟩|⟨aH,g,rfl,hC⟩
 .by_cases h0:xs=[]
  .subst h0;have:gE aj site ty z bytes (.one (.p .nils)) x=.done (.one (.p .nils)) fu (rd++fr):=by simp[gE,hx,rK,HH]
   rw[this,Np];exact hK _ _ (.inl ⟨rfl,rfl⟩) fun i _ _ h3=>GU _ _ _ (by rw[zJ];exact h3)
  have hl:¬xs.length=0:=by simpa using h0
  have mM:xs.length*bytes<=room:=by simpa [room]using hr
  have:gE aj site ty z bytes (.one (.p .nils)) x=.done (.one (.hsl site ((aj site).1+1) z 0 xs.length)) (fu++[(site,((aj site).1+1,some (.arr ty z xs)))]) (site::rd++fr):=by simp only[gE,hx,au rK,HH,au hl,aD mM]
  rw[this,Np];refine hK _ _ (.inr ⟨by simpa using h0,(aj site).1+1,af,?_⟩) fun i h1 _ h3=>?_
  .rw[AO];simp[app,aP]
  rw[AO];have:=GU fu aj i (by rw[zJ];exact h3);simp[app,aP,h1,this]
 have mM:(es.length+xs.length)*bytes<=room:=by simpa [room]using hr
 have Om:fr.contains id=false:=by simpa using hni
 have:gE aj site ty z bytes (.one (.hsl id g z 0 es.length)) x=.done (.one (.hsl site ((aj site).1+1) z 0 (es.length+xs.length))) (fu++[(id,(g,none)),(site,((aj site).1+1,some (.arr ty z (es++xs))))]) (site::id::rd++fr):=by simp only[gE,hx,au rK,HH,hC,Om];simp[mM]
 rw[this,Np];refine hK _ _ (.inr ⟨by simp[aH],(aj site).1+1,af,?_⟩) fun i h1 h2 h3=>?_
 .rw[AO];simp[app,aP]
 rw[AO];have:=GU fu aj i (by rw[zJ];exact h3);simp[app,aP,h1,h2,this]
end
section
variable {S:Sys} {al:Al} {Q:dX} {ak:Env} {aj:aC} {os all:h_} {tr:i_} {d:w_}
theorem Ey{l:a_}(h:∀i∈l,al.ok i=true):al.fQ l=true:=gk.2 h
theorem Rm{id site ty z bytes:Nat}{es xs:s_}{v x:V}{rd:a_}(ay:∀i∈site::id::rd,al.ok i=true)(hg:grown id ty z es v aj)(hx:fN aj x=some (xs,rd,[]))(hz:nG x=some z\/iG z xs=true)(hr:(es.length+xs.length)*bytes<=140737488355328)
  (hK:∀(c:C) ao,grown site ty z (es++xs) (.one c) ao->(∀i,i≠site->i≠id->ao i=aj i)->RN S al os Q (put ak d (.one c)) ao):gP S al (gE aj site ty z bytes v x) d os Q ak aj:=by
 obtain⟨v',u,r,h1,h2,h3,h4⟩:=SX hg hx hz hr;obtain⟨c,o,rfl,_⟩:=h2.jW;rw[h1,aeE];refine⟨?_,hK _ _ h2 h3⟩;rcases h4 with⟨rfl,h5⟩|⟨rfl,h5⟩|⟨rfl,h5⟩<;>rw[h5]<;>refine Ey fun i hi=>ay i ?_ <;>simp at hi |-
 .exact .inr (.inr hi)
 .rcases hi with h|h|h<;>simp[h]
 rcases hi with h|h|h|h|h<;>simp[h]
theorem Hd{id site ty z bytes:Nat}{es xs:s_}{v x:V}{rd:a_}(ay:∀i∈site::id::rd,al.ok i=true)(hg:grown id ty z es v aj)(hx:fN aj x=some (xs,rd,[]))(hz:nG x=some z\/iG z xs=true)(hr:(es.length+xs.length)*bytes<=140737488355328)
  (hK:∀(c:C) ao r w,grown site ty z (es++xs) (.one c) ao->(∀i,i≠site->i≠id->ao i=aj i)->(r=rd/\w=[]\/r=site::rd/\w=[site]\/r=site::id::rd/\w=[id,site])->RD S al all os Q (put ak d (.one c)) ao (tr++[⟨r,w,[]⟩])):dP S al (gE aj site ty z bytes v x) d all os Q ak aj tr:=by
 obtain⟨v',u,r,h1,h2,h3,h4⟩:=SX hg hx hz hr;obtain⟨c,o,rfl,_⟩:=h2.jW;rw[h1,aco];refine⟨?_,hK _ _ _ _ h2 h3 h4⟩;rcases h4 with⟨rfl,h5⟩|⟨rfl,h5⟩|⟨rfl,h5⟩<;>rw[h5]<;>refine Ey fun i hi=>ay i ?_ <;>simp at hi |-
 .exact .inr (.inr hi)
 .rcases hi with h|h|h<;>simp[h]
 rcases hi with h|h|h|h|h<;>simp[h]
theorem anC{site ty z bytes:Nat}{xs:s_}{x:V}{rd:a_}(ay:∀i∈site::rd,al.ok i=true)(hx:fN aj x=some (xs,rd,[]))(aH:xs≠[])(hz:nG x=some z\/iG z xs=true)(hr:xs.length*bytes<=140737488355328)
  (hK:∀(c:C) ao r w,grown site ty z xs (.one c) ao->(∀i,i≠site->i≠site->ao i=aj i)->(r=rd/\w=[]\/r=site::rd/\w=[site]\/r=site::site::rd/\w=[site,site])->RD S al all os Q (put ak d (.one c)) ao (tr++[⟨r,w,[]⟩])):dP S al (gE aj site ty z bytes (.one (.p .zs)) x) d all os Q ak aj tr:=by
 have hn:xs.length≠0:=fun h=>aH (GD.1 h);have e:gE aj site ty z bytes (.one (.p .zs)) x=gE aj site ty z bytes (.one (.p .nils)) x:=by simp only[gE,hx,hn,if_false]
 rw[e];exact Hd (id:=site) (es:=[]) (fun i hi=>ay i (by simpa using hi)) grown.nil hx hz (by simpa using hr) hK
theorem apc{f:Nat}{vs:e_}{s t1 z1 t2 z2:Nat}{rd:a_}{es fs:s_}(ay:∀i∈s::(s+1)::rd,al.ok i=true)(hp:aK S f vs (.tup [.one (aW t1 z1 es),.one (aW t2 z2 fs)]))(eL:S.lone s=false)
  (kM:(es.all fun e=>e.all PV.scalar)=true) (fO:(fs.all fun e=>e.all PV.scalar)=true)
  (hK:∀(c e:C) ao,grown s t1 z1 es (.one c) ao->grown (s+1) t2 z2 fs (.one e) ao->(∀i,i≠s->i≠s+1->ao i=aj i)->RN S al os Q (put ak d (.tup [.one c,.one e])) ao):gP S al (.pc f vs rd s) d os Q ak aj:=by
 have gT:(RV.tup [.one (aW t1 z1 es),.one (aW t2 z2 fs)]).alone=true:=by have a:=rV (ty:=t1) (z:=z1) kM;have b:=rV (ty:=t2) (z:=z2) fO;simp only[RV.alone,iu,iJ,nI,qY,yQ]at a b;simp[RV.alone,iu,ng,iJ,a,b]
 obtain⟨h1,h2,h2u⟩:=uh (aj:=aj) (s:=s) (ty:=t1) (z:=z1) (es:=es);have e0:∀(b b':aC) (k:Nat) (r:RC),b' k=b k->dw b k r=dw b' k r:=by
  intro b b' k r h;cases r with
  |p v=>rfl
  |own ty sz es=>simp only[dw,h]
 have e2:dw aj (s+1) (aW t2 z2 fs)=dw (app (dw aj s (aW t1 z1 es)).2 aj) (s+1) (aW t2 z2 fs):=e0 _ _ _ _ (h2 (s+1) aa);obtain⟨k1,k2,k2u⟩:=uh (aj:=app (dw aj s (aW t1 z1 es)).2 aj) (s:=s+1) (ty:=t2) (z:=z2) (es:=fs);rw[<-e2]at k1 k2 k2u;refine⟨_,hp,?_⟩;rw[eL,xB];have hl:land aj rd s (RV.tup [.one (aW t1 z1 es),.one (aW t2 z2 fs)])=some (.tup [.one (dw aj s (aW t1 z1 es)).1,.one (dw aj (s+1) (aW t2 z2 fs)).1],(dw aj s (aW t1 z1 es)).2++(dw aj (s+1) (aW t2 z2 fs)).2):=by unfold land;rw[aD (.inr gT)];simp[jO,iu,ng,iJ,jt,rQ,sH,mS]
 rw[hl];refine⟨Ey fun i hi=>ay i ?_,hK _ _ _ ?_ ?_ ?_⟩
 .simp only[kS,eO]at hi;rcases hi with hi|hi|hi
  .simp[hi]
  .rcases h2u with h|h<;>rw[h]at hi<;>simp at hi<;>simp[hi]
  rcases k2u with h|h<;>rw[h]at hi<;>simp at hi<;>simp[hi]
 .rw[AO];exact h1.of_eq (k2 s aa)
 .rw[AO];exact k1
 intro i a b;rw[AO,k2 i b,h2 i a]
end
theorem bj{b:aC}{a i:Nat}{x:Nat×Option Ob}(h:i≠a):eh b a x i=b i:=by rw[aP,au h]
theorem Ak{b:aC}{a:Nat}{x:Nat×Option Ob}:eh b a x a=x:=by rw[aP,aD rfl]
theorem SC{a i:Nat}{l:a_}(h:i∉l)(ha:a∈l):i≠a:=fun e=>h (e▸ha)
section
variable {S:Sys} {al:Al} {Q:dX} {ak:Env} {aj:aC} {os all:h_} {tr:i_} {d:w_}
theorem aeF{f:Nat}{vs:e_}{s ty z:Nat}{es:s_}{x:PV}(hp:aK S f vs (.tup [.one (aW ty z es),.one (.p x)]))(eL:S.lone s=false)
  (hK:∀(c:C) ao,grown s ty z es (.one c) ao->(∀i,i≠s->ao i=aj i)->RN S .all os Q (put ak d (.tup [.one c,.one (.p x)])) ao):gP S .all (.pc f vs [] s) d os Q ak aj:=by
 obtain⟨h1,h2,_⟩:=uh (aj:=aj) (s:=s) (ty:=ty) (z:=z) (es:=es);refine(dr (v:=.tup [.one (dw aj s (aW ty z es)).1,.one (.p x)]) (u:=(dw aj s (aW ty z es)).2) hp ?_).2 (hK _ _ h1 h2);rw[eL,xB];unfold land;rw[aD (.inl rfl)];simp[jO,iu,ng,iJ,jt,rQ,sH,mS,dw]
theorem anD{f:Nat}{vs:e_}{s ty z:Nat}{rd:a_}{es:s_}(hp:aK S f vs (.one (aW ty z es)))(eL:S.lone s=false)(pV:rd=[]\/(RV.one (aW ty z es)).alone=true)
  (hK:∀(c:C) ao w,grown s ty z es (.one c) ao->(∀i,i≠s->ao i=aj i)->(w=[]\/w=[s])->RD S .all all os Q (put ak d (.one c)) ao (tr++[⟨rd++w,w,[]⟩])):dP S .all (.pc f vs rd s) d all os Q ak aj tr:=by
 obtain⟨h1,h2,h3⟩:=uh (aj:=aj) (s:=s) (ty:=ty) (z:=z) (es:=es);refine(He (v:=.one (dw aj s (aW ty z es)).1) (u:=(dw aj s (aW ty z es)).2) hp ?_).2 (hK _ _ _ h1 h2 h3);rw[eL,xB];unfold land;rw[aD pV];simp[jO,iu,iJ,jt,rQ,mS]
theorem anF{f:Nat}{vs:e_}{s ty z:Nat}{es:s_}{x:PV}(hp:aK S f vs (.tup [.one (aW ty z es),.one (.p x)]))(eL:S.lone s=false)
  (hK:∀(c:C) ao w,grown s ty z es (.one c) ao->(∀i,i≠s->ao i=aj i)->(w=[]\/w=[s])->RD S .all all os Q (put ak d (.tup [.one c,.one (.p x)])) ao (tr++[⟨[]++w,w,[]⟩])):dP S .all (.pc f vs [] s) d all os Q ak aj tr:=by
 obtain⟨h1,h2,h3⟩:=uh (aj:=aj) (s:=s) (ty:=ty) (z:=z) (es:=es);refine(He (v:=.tup [.one (dw aj s (aW ty z es)).1,.one (.p x)]) (u:=(dw aj s (aW ty z es)).2) hp ?_).2 (hK _ _ _ h1 h2 h3);rw[eL,xB];unfold land;rw[aD (.inl rfl)];simp[jO,iu,ng,iJ,jt,rQ,sH,mS,dw]
theorem apd{f:Nat}{vs:e_}{s ty z:Nat}{rd:a_}{es:s_}{x:PV}(hp:aK S f vs (.agg [.p x,aW ty z es]))(eL:S.lone s=false)(hx:x.scalar=true)(hs:(es.all fun e=>e.all PV.scalar)=true)
  (hK:∀(c:C) ao,grown (s+1) ty z es (.one c) ao->(∀i,i≠s+1->ao i=aj i)->RN S .all os Q (put ak d (.agg [.p x,c])) ao):gP S .all (.pc f vs rd s) d os Q ak aj:=by
 obtain⟨h1,h2,_⟩:=uh (aj:=aj) (s:=s+1) (ty:=ty) (z:=z) (es:=es);have gT:(RV.agg [.p x,aW ty z es]).alone=true:=by have a:=rV (ty:=ty) (z:=z) hs;simp only[RV.alone,iu,iJ,nI,qY,yQ]at a;simp only[RV.alone,iu,iJ,nI,qY,yQ,a];exact hx
 refine(dr (v:=.agg [.p x,(dw aj (s+1) (aW ty z es)).1]) (u:=(dw aj (s+1) (aW ty z es)).2) hp ?_).2 (hK _ _ h1 h2);rw[eL,xB];unfold land;rw[aD (.inr gT)];simp[jO,iu,iJ,jt,rQ,mS,dw]
theorem aeI{f:Nat}{vs:e_}{s ty z:Nat}{es:s_}{x y:PV}(hp:aK S f vs (.tup [.agg [.p x,aW ty z es],.one (.p y)]))(eL:S.lone s=false)
  (hK:∀(c:C) ao,grown (s+1) ty z es (.one c) ao->(∀i,i≠s+1->ao i=aj i)->RN S .all os Q (put ak d (.tup [.agg [.p x,c],.one (.p y)])) ao):gP S .all (.pc f vs [] s) d os Q ak aj:=by
 obtain⟨h1,h2,_⟩:=uh (aj:=aj) (s:=s+1) (ty:=ty) (z:=z) (es:=es);refine(dr (v:=.tup [.agg [.p x,(dw aj (s+1) (aW ty z es)).1],.one (.p y)]) (u:=(dw aj (s+1) (aW ty z es)).2) hp ?_).2 (hK _ _ h1 h2);rw[eL,xB];unfold land;rw[aD (.inl rfl)];simp[jO,iu,ng,iJ,jt,rQ,sH,mS,dw]
theorem aeJ{f:Nat}{vs:e_}{s ty z:Nat}{rd:a_}{es:s_}{x y:PV}(hp:aK S f vs (.tup [.agg [.p x,aW ty z es],.one (.p y)]))(eL:S.lone s=false)(hx:x.scalar=true)(hy:y.scalar=true)(hs:(es.all fun e=>e.all PV.scalar)=true)
  (hK:∀(c:C) ao,grown (s+1) ty z es (.one c) ao->(∀i,i≠s+1->ao i=aj i)->RN S .all os Q (put ak d (.tup [.agg [.p x,c],.one (.p y)])) ao):gP S .all (.pc f vs rd s) d os Q ak aj:=by
 obtain⟨h1,h2,_⟩:=uh (aj:=aj) (s:=s+1) (ty:=ty) (z:=z) (es:=es);have gT:(RV.tup [.agg [.p x,aW ty z es],.one (.p y)]).alone=true:=by have a:=rV (ty:=ty) (z:=z) hs;simp only[RV.alone,iu,iJ,nI,qY,yQ]at a;simp only[RV.alone,iu,ng,iJ,nJ,gn,jG,nI,qY,yQ,a,Df];show(x.scalar&&y.scalar)=true;rw[hx,hy];rfl
 refine(dr (v:=.tup [.agg [.p x,(dw aj (s+1) (aW ty z es)).1],.one (.p y)]) (u:=(dw aj (s+1) (aW ty z es)).2) hp ?_).2 (hK _ _ h1 h2);rw[eL,xB];unfold land;rw[aD (.inr gT)];simp[jO,iu,ng,iJ,jt,rQ,sH,mS,dw]
end
theorem aeU{s1 t1 z1:Nat}{c:C}{y:PV}{aj:aC}(h:grown s1 t1 z1 es (.one c) aj):jk aj (.tup [.agg [.p x,c],.one (.p y)])=some (.tup [.agg [.p x,aW t1 z1 es],.one (.p y)]):=by obtain⟨c',o,hc,h2,h3⟩:=h.jW;cases hc;have e1:jW aj (.p x)=some (.p x,[],[]):=rfl;have e2:jW aj (.p y)=some (.p y,[],[]):=rfl;rcases h3 with rfl|rfl<;>simp[jk,tW,vE,oL,nC,h2,e1,e2,apart,wx,tE,Bw]
section
variable {S:Sys} {al:Al} {Q:dX} {ak:Env} {aj:aC} {os all:h_} {tr:i_} {d:w_} {op:oF} {w:Option Bool} {a b:aN} {v:V}
theorem jq(L:a_)(h:∀e:Env,(∀k∈L,e k=ak k)->gW S al w d op os Q e aj):gW S al w d op os Q ak aj:=h ak fun _ _=>rfl
theorem wR(L:a_)(h:∀e:Env,(∀k∈L,e k=ak k)->dW S al w d op all os Q e aj tr):dW S al w d op all os Q ak aj tr:=h ak fun _ _=>rfl
theorem abC(L:a_)(h:∀e:Env,(∀k∈L,e k=ak k)->cW S al v a b Q e aj):cW S al v a b Q ak aj:=h ak fun _ _=>rfl
end
section
variable {S:Sys} {al:Al} {Q:dX} {ak:Env} {aj:aC} {os all:h_} {tr:i_} {d:w_}
theorem anB{id site ty z bytes:Nat}{es xs:s_}{v x:V}{rd fr:a_}(hg:grown id ty z es v aj)(hx:fN aj x=some (xs,rd,fr))(lW:pG aj fr)(hni:id∉fr)(xf:site∉fr)(hz:nG x=some z\/iG z xs=true)(hr:(es.length+xs.length)*bytes<=140737488355328)
  (hK:∀(c:C) ao r w,grown site ty z (es++xs) (.one c) ao->(∀i,i≠site->i≠id->i∉fr->ao i=aj i)->(r=rd++fr/\w=fr\/r=site::rd++fr/\w=fr++[site]\/r=site::id::rd++fr/\w=fr++[id,site])->RD S .all all os Q (put ak d (.one c)) ao (tr++[⟨r,w,[]⟩])):dP S .all (gE aj site ty z bytes v x) d all os Q ak aj tr:=by
 have rK:¬¬(nG x=some z\/iG z xs=true):=fun h=>h hz;obtain⟨fu,vK,zJ⟩:=Xl fr fr lW;have HH:sW aj fr=some fu:=vK;rcases hg with⟨rfl,rfl⟩|⟨aH,g,rfl,hC⟩
 .by_cases h0:xs=[]
  .subst h0;have:gE aj site ty z bytes (.one (.p .nils)) x=.done (.one (.p .nils)) fu (rd++fr):=by simp[gE,hx,rK,HH]
   rw[this,MU];exact hK _ _ _ _ (.inl ⟨rfl,rfl⟩) (fun i _ _ h3=>GU _ _ _ (by rw[zJ];exact h3)) (.inl ⟨rfl,zJ⟩)
  have hl:¬xs.length=0:=by simpa using h0
  have mM:xs.length*bytes<=room:=by simpa [room]using hr
  have:gE aj site ty z bytes (.one (.p .nils)) x=.done (.one (.hsl site ((aj site).1+1) z 0 xs.length)) (fu++[(site,((aj site).1+1,some (.arr ty z xs)))]) (site::rd++fr):=by simp only[gE,hx,au rK,HH,au hl,aD mM]
  rw[this,MU];refine hK _ _ _ _ (.inr ⟨by simpa using h0,(aj site).1+1,af,?_⟩) (fun i h1 _ h3=>?_) (.inr (.inl ⟨rfl,by simp[zJ]⟩))
  .rw[AO];simp[app,aP]
  rw[AO];have:=GU fu aj i (by rw[zJ];exact h3);simp[app,aP,h1,this]
 have mM:(es.length+xs.length)*bytes<=room:=by simpa [room]using hr
 have Om:fr.contains id=false:=by simpa using hni
 have:gE aj site ty z bytes (.one (.hsl id g z 0 es.length)) x=.done (.one (.hsl site ((aj site).1+1) z 0 (es.length+xs.length))) (fu++[(id,(g,none)),(site,((aj site).1+1,some (.arr ty z (es++xs))))]) (site::id::rd++fr):=by simp only[gE,hx,au rK,HH,hC,Om];simp[mM]
 rw[this,MU];refine hK _ _ _ _ (.inr ⟨by simp[aH],(aj site).1+1,af,?_⟩) (fun i h1 h2 h3=>?_) (.inr (.inr ⟨rfl,by simp[zJ]⟩))
 .rw[AO];simp[app,aP]
 rw[AO];have:=GU fu aj i (by rw[zJ];exact h3);simp[app,aP,h1,h2,this]
theorem aeG{f:Nat}{vs:e_}{s ty z:Nat}{rd:a_}{es:s_}{x:PV}(hp:aK S f vs (.tup [.one (aW ty z es),.one (.p x)]))(eL:S.lone s=false)(hs:(es.all fun e=>e.all PV.scalar)=true)(hx:x.scalar=true)
  (hK:∀(c:C) ao,grown s ty z es (.one c) ao->(∀i,i≠s->ao i=aj i)->RN S .all os Q (put ak d (.tup [.one c,.one (.p x)])) ao):gP S .all (.pc f vs rd s) d os Q ak aj:=by
 obtain⟨h1,h2,_⟩:=uh (aj:=aj) (s:=s) (ty:=ty) (z:=z) (es:=es);have gT:(RV.tup [.one (aW ty z es),.one (.p x)]).alone=true:=by have a:=rV (ty:=ty) (z:=z) hs;simp only[RV.alone,iu,iJ,nI,qY,yQ]at a;simp only[RV.alone,iu,ng,iJ,nJ,gn,jG,nI,qY,yQ,a,Df];exact hx
 refine(dr (v:=.tup [.one (dw aj s (aW ty z es)).1,.one (.p x)]) (u:=(dw aj s (aW ty z es)).2) hp ?_).2 (hK _ _ h1 h2);rw[eL,xB];unfold land;rw[aD (.inr gT)];simp[jO,iu,ng,iJ,jt,rQ,sH,mS,dw]
end
section
variable {S:Sys} {al:Al} {Q:dX} {ak:Env} {aj:aC} {os all:h_} {tr:i_} {d:w_} {op:oF} {a b:aN} {e w:Bool}
theorem Nr{rd:a_}{s:Nat}{r:RV}{v:V}{u:l_}(hp:aK S f vs r)(h:land aj rd s (r.gj (S.lone s))=some (v,u)):gP S al (.pc f vs rd s) d os Q ak aj↔al.fQ (rd++u.map (·.1))=true/\RN S al os Q (put ak d v) (app u aj):=by
 constructor
 .rintro ⟨y,hy,h2⟩
  have:=hy.AX hp;subst this;rw[h]at h2;exact h2
 intro hK;refine⟨_,hp,?_⟩;rw[h];exact hK
theorem MV{rd:a_}{s:Nat}{r:RV}{v:V}{u:l_}(hp:aK S f vs r)(h:land aj rd s (r.gj (S.lone s))=some (v,u)):dP S al (.pc f vs rd s) d all os Q ak aj tr↔al.fQ (rd++u.map (·.1))=true/\RD S al all os Q (put ak d v) (app u aj) (tr++[⟨rd++u.map (·.1),u.map (·.1),[]⟩]):=by
 constructor
 .rintro ⟨y,hy,h2⟩
  have:=hy.AX hp;subst this;rw[h]at h2;exact h2
 intro hK;refine⟨_,hp,?_⟩;rw[h];exact hK
theorem agO{s:Nat}(b:Bool):land aj [] s ((RV.one (.p x)).gj b)=some (.one (.p x),[]):=by cases b<;>rfl
theorem FB{s:Nat}(h:aK S f vs (.one (.p x))):gP S al (.pc f vs [] s) d os Q ak aj↔RN S al os Q (put ak d (.one (.p x))) aj:=by rw[Nr h (agO _)];exact⟨fun h=>h.2,fun h=>⟨rfl,h⟩⟩
theorem QG{s:Nat}(h:aK S f vs (.one (.p x))):dP S al (.pc f vs [] s) d all os Q ak aj tr↔RD S al all os Q (put ak d (.one (.p x))) aj (tr++[⟨[],[],[]⟩]):=by rw[MV h (agO _)];exact⟨fun h=>h.2,fun h=>⟨rfl,h⟩⟩
end
section
variable {S:Sys} {al:Al} {Q:dX} {ak:Env} {aj:aC} {os all:h_} {tr:i_} {d:w_} {op:oF} {w:Option Bool} {a b:aN} {v:V} {p:fL}
end
theorem grown.LN{c:C}{aj:aC}(h:grown site ty z es (.one c) aj):∃r,(∀B:aC,B site=aj site->Go.Abs.snap B Go.Abs.gG c=some (.sl es,r))/\(r=[]\/r=[site]):=by
 rcases h with⟨h1,h2⟩|⟨h1,g,h2,h3⟩
 .cases h2;exact⟨[],fun B _=>by rw[h1];rfl,.inl rfl⟩
 cases h2;refine⟨[site],fun B hB=>?_,.inr rfl⟩;rw[<-hB]at h3;simp[Go.Abs.gG,Go.Abs.snap,h3]
end
end Go.Abs
namespace Go.Abs
open Go
section
variable {S:Sys} {al:Al} {Q:dX} {os all:h_} {d:w_} {ak:Env} {aj:aC} {tr:i_}
end
theorem Xs{ty z:Nat}{es:s_}(h:es≠[]):aW ty z es=.own ty z es:=au h
end Go.Abs
namespace Go.Abs
theorem fm1{p:Nat->Prop}:(∀k∈([]:a_),p k)↔True:=by simp
theorem fm2{a:Nat}{l:a_}{p:Nat->Prop}:(∀k∈a::l,p k)↔p a/\ ∀k∈l,p k:=List.forall_mem_cons
attribute [go_sem] fm1 fm2 xx bne_self_eq_false Bool.or_true Bool.or_false Bool.true_or Bool.false_or Bool.not_not jO iu iJ ng dw jt rQ mS sH Option.getD_some Option.getD_none Option.isSome_some Option.isSome_none
attribute [go_sem ↓] aaV aaW aaU aaZ aaT aaS aaQ aaR aaP aaN aaO aa3 aa4 aa0 ajO ajN ajP abz abA aby ahw ahv ahx ag6 ag5 ag7
attribute [go_sem high] Np MU
attribute [go_sem] abE abD aeN aeM acr acq aj9 aka acZ acX acW acY aiu ais aP afN afM aaH aaG acP ahZ norm_int ahz ahH ahF ahG Zb ahA ahE ahC ahD ahB ajo ajn ajj ajm bft btf bff btt abj Tq ab2 abW abU ajk abi ajl ajs ajr ajt List.map_nil List.append_nil List.map_cons List.cons_append List.nil_append List.drop_zero List.take_zero List.length_cons List.length_nil List.take_succ_cons List.drop_nil List.drop_succ_cons List.length_map List.take_nil List.flatten_cons List.getElem?_cons_zero List.getElem?_cons_succ List.all_nil List.all_cons List.not_mem_nil Option.map_some Bool.false_eq_true Bool.not_true Bool.not_false Bool.and_true Bool.and_false Bool.true_and Bool.false_and true_and and_true true_or or_true false_or or_false decide_true decide_false not_true_eq_false not_false_eq_true and_self Nat.le_refl Nat.zero_add Nat.mul_one Nat.zero_mul Nat.zero_le Nat.sub_zero Int.zero_add aeE aco IA Ll Bool.and_self Al.GQ
attribute [go_sem] bN rW uG DO Ii app if_true if_false reduceIte Nat.reduceEqDiff beq_self_eq_true reduceCtorEq ge_iff_le qm SG BA Fz Nat.reduceAdd CV qW BB fj sP zX ne_eq Nat.reduceLeDiff Ab A0 Da C0 toP fill Nat.reduceMul Nat.reduceLT Tp To
attribute [go_sem] fN nG sW uN room EE sM Nat.reduceSub Int.reduceLT Int.reduceAdd Int.reduceBEq Int.reduceBNe Int.reduceLE List.contains_eq_mem xz
end Go.Abs
