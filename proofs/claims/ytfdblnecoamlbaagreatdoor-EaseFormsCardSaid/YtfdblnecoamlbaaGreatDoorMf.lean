/-
  Rules for a walk.
-/
import Derived.Test.YtfdblnecoamlbaaGreatDoorMc
import Derived.Attr
set_option linter.all false
namespace Go.Abs
section
variable{x:PV}{vs:e_}{f site ty z:Nat}{es:s_}
theorem Z2(k:Nat):qx (.one (.p (.int .i64 (k:Int))))=some k:=by simp[qx]
theorem Z0(n:Nat):qx (.one (.p (.int .i64 (no_index (@OfNat.ofNat Int n instOfNat)))))=some (@OfNat.ofNat Nat n (instOfNatNat n)):=by show qx (.one (.p (.int .i64 (Int.ofNat n))))=some n;simp[qx]
theorem Sr{aj:aB}{v:PV}:snap aj fE (.p v)=some (v.norm,[]):=rfl
def TO{β:Type}(x:Option (β×a_))(y:Option (List β×a_)):Option (List β×a_):=match x,y with
 |some (b,x),some (bs,y)=>some (b::bs,x++y)
 |_,_=>none
theorem aaO{β:Type}{b:β}{x:a_}{bs:List β}{y:a_}:TO (some (b,x)) (some (bs,y))=some (b::bs,x++y):=rfl
theorem aaI{α β:Type}{f:α->Option (β×a_)}:collect f []=some ([],[]):=rfl
theorem aaG{α β:Type}{f:α->Option (β×a_)}{a:α}{r:List α}:collect f (a::r)=TO (f a) (collect f r):=by simp only[collect,TO];cases f a<;>cases collect f r<;>rfl
theorem ahW{aj:aB}{c:C}:pN aj (.one c)=(snap aj fE c).map fun(v,r)=>(.one (.p v),r):=rfl
theorem ahV{aj:aB}{cs:f_}:pN aj (.agg cs)=(collect (snap aj fE) cs).map fun(vs,r)=>(.agg (vs.map .p),r):=rfl
theorem ah4{aj:aB}{n:Nat}{v:PV}:snap aj (n+1) (.p v)=some (v.norm,[]):=rfl
def Sq(o:Nat×Option Ob)(col:List f_->Option (s_×a_))(id g off len:Nat):Option (PV×a_):=match o with
 |(g',some (.arr _ _ es))=>if g'=g/\off+len<=es.length then some (.sl ((es.drop off).take len),[id]) else none
 |(g',some (.qB _ _ es))=>if g'=g/\off+len<=es.length then some (.sl ((es.drop off).take len),[id]) else none
 |(g',some (.ju _ _ es))=>if g'=g/\off+len<=es.length then
   match col ((es.drop off).take len) with
   |some (ps,r)=>some (.sl ps,id::r)
   |none=>none
  else none
 |_=>none
theorem ah3{aj:aB}{id g z off len:Nat}:snap aj fE (.hsl id g z off len)=Sq (aj id) (collect (collect (snap aj 5))) id g off len:=by unfold fE Sq;rw[snap];rfl
def Sp(o:Nat×Option Ob)(col:f_->Option (b_×a_))(id g off:Nat):Option (PV×a_):=match o with
 |(g',some (.var cs))=>if g'=g then
   match col cs with
   |some (ps,r)=>some (.box (ps.drop off),id::r)
   |none=>none
  else none
 |(g',some (.fvar ps))=>if g'=g then some (.box (ps.drop off),[id]) else none
 |_=>none
theorem ah2{aj:aB}{id g off:Nat}:snap aj fE (.aZ id g off)=Sp (aj id) (collect (snap aj 5)) id g off:=by unfold fE Sp;rw[snap];rfl
section
variable {S:Sys} {al:Al} {ak:Env} {aj:aB} {d:w_}
theorem Ky{rd:a_}{s:Nat}{b:Bool}(hs:x.scalar=true):land aj rd s ((RV.one (.p x)).gJ b)=some (.one (.p x),[]):=by
 have h1:(RV.one (.p x)).gJ b=.one (.p x):=by cases b<;>rfl
 rw[h1];have:(RV.one (.p x)).alone=true:=by simp[RV.alone,gQ,ir,RC.alone,hs]
 simp only[land,this,or_true,if_true];rfl
theorem anF{rd:a_}{s:Nat}{K:Env->aB->Prop}(h:aK S f vs (.one (.p x)))(hs:x.scalar=true):JM S .all (.pc f vs rd s) d ak aj K↔K (put ak d (.one (.p x))) aj:=by
 constructor
 .rintro ⟨y,hy,h2⟩
  have:=hy.zZ h;subst this;rw[Ky hs] at h2;exact h2.2
 intro hK;refine⟨_,h,?_⟩;rw[Ky hs];exact⟨Al.Gs _,hK⟩
theorem anG{rd:a_}{s:Nat}{tr:i_}{K:Env->aB->i_->Prop}(h:aK S f vs (.one (.p x)))(hs:x.scalar=true):G0 S .all (.pc f vs rd s) d ak aj tr K↔K (put ak d (.one (.p x))) aj (tr++[⟨rd,[],[]⟩]):=by
 constructor
 .rintro ⟨y,hy,h2⟩
  have:=hy.zZ h;subst this;rw[Ky hs] at h2
  simpa [app] using h2.2
 intro hK;refine⟨_,h,?_⟩;rw[Ky hs];exact⟨Al.Gs _,by simpa [app] using hK⟩
theorem ai9{ops:h_}{Q:dO}:W S al (.region true ops) Q ak aj↔WO S al ops (fun ak aj es=>tZ ops [] es=true/\Q .normal ak aj) ak aj []:=by
 rw[ZG];constructor
 .rintro ⟨n,e,b,es,h1,h2,h3⟩;exact⟨n,e,b,es,h1,h2 rfl,h3⟩
 rintro ⟨n,e,b,es,h1,h2,h3⟩;exact⟨n,e,b,es,h1,fun _=>h2,h3⟩
end
theorem wrap_small{n:Nat}(h:n<=9223372036854775807):IntKind.i64.wrap (n:Int)=n:=OW h
theorem cS{n:Nat}(h:n<9223372036854775807):IntKind.i64.wrap ((n:Int)+1)=((n+1:Nat):Int):=OW (n:=n+1) aa
section
variable {S:Sys} {al:Al} {Q:dO} {ak:Env} {aj:aB} {a b:aN} {ops os all:h_} {tr:i_} {d:w_} {op:oQ} {n:Nat}
def zy(S:Sys)(al:Al)(b:aN)(Q:dO):dO
 | .normal,ak,aj=>W S al b Q ak aj
 | .exit i,ak,aj=>Q (.exit i) ak aj
 | .ret,ak,aj=>Q .ret ak aj
theorem avh:Lj (W S al b Q) Q=zy S al b Q:=by funext e ak aj;cases e<;>rfl
theorem Zz:W S al (.seq a b) Q ak aj↔W S al a (zy S al b Q) ak aj:=by rw[ajf,avh]
theorem aio:zy S al b Q .normal ak aj=W S al b Q ak aj:=rfl
theorem ain{i:Nat}:zy S al b Q (.exit i) ak aj=Q (.exit i) ak aj:=rfl
theorem aip:zy S al b Q .ret ak aj=Q .ret ak aj:=rfl
def cW (S:Sys)(al:Al)(v:V)(a b:aN)(Q:dO)(ak:Env)(aj:aB):Prop:=Jm v (W S al a Q ak aj) (W S al b Q ak aj)
theorem Zx{x:aS}:W S al (.cond x a b) Q ak aj↔cW S al (ev ak x) a b Q ak aj:=ai8
theorem aam:cW S al (.one (.p (.bool true))) a b Q ak aj=W S al a Q ak aj:=by simp[cW,Jm]
theorem aal:cW S al (.one (.p (.bool false))) a b Q ak aj=W S al b Q ak aj:=by simp[cW,Jm]
def RN (S:Sys)(al:Al)(ops:h_)(Q:dO)(ak:Env)(aj:aB):Prop:=WN S al ops (fun ak aj=>Q .normal ak aj) ak aj
def gP (S:Sys)(al:Al)(p:fH)(d:w_)(os:h_)(Q:dO)(ak:Env)(aj:aB):Prop:=JM S al p d ak aj (WN S al os fun ak aj=>Q .normal ak aj)
def gW (S:Sys)(al:Al)(w:Option Bool)(d:w_)(op:oQ)(os:h_)(Q:dO)(ak:Env)(aj:aB):Prop:=Qg S al w ⟨d,op,none,0⟩ ak aj (WN S al os fun ak aj=>Q .normal ak aj)
theorem ZA:W S al (.region false ops) Q ak aj↔RN S al ops Q ak aj:=ajg
theorem Zv:RN S al [] Q ak aj↔Q .normal ak aj:=ai2
theorem Zw:RN S al (⟨d,op,none,n⟩::os) Q ak aj↔gP S al (bK S.shared ak aj op) d os Q ak aj:=ZC
theorem Zu{t:Nat}{w:Bool}:RN S al (⟨d,op,some (t,w),n⟩::os) Q ak aj↔gW S al (Ga (ak t) w) d op os Q ak aj:=by
 unfold RN gW;rw[ZC];have:wanted ak (some (t,w))=Ga (ak t) w:=rfl;simp only[this];cases Ga (ak t) w with
 |none=>rfl
 |some x=>cases x<;>rfl
theorem adz:gW S al (some true) d op os Q ak aj↔gP S al (bK S.shared ak aj op) d os Q ak aj:=Iff.rfl
theorem ady:gW S al (some false) d op os Q ak aj↔RN S al os Q (put ak d .undef) aj:=Iff.rfl
theorem MF{v:V}{u:k_}{r:a_}:gP S .all (.done v u r) d os Q ak aj↔RN S .all os Q (put ak d v) (app u aj):=by show(Al.all.fP (r++u.map (·.1))=true/\_)↔_;rw[Al.Gs];exact⟨fun h=>h.2,fun h=>⟨rfl,h⟩⟩
theorem adr{v:V}{u:k_}{r:a_}:gP S al (.done v u r) d os Q ak aj↔al.fP (r++u.map (·.1))=true/\RN S al os Q (put ak d v) (app u aj):=Iff.rfl
theorem Wj{rd:a_}{s:Nat}(h:aK S f vs (.one (.p x)))(hs:x.scalar=true):gP S .all (.pc f vs rd s) d os Q ak aj↔RN S .all os Q (put ak d (.one (.p x))) aj:=anF h hs
theorem eT{rd:a_}{s:Nat}{k:IntKind}{x:Int}(h:aK S f vs (.one (.p (.int k x)))):gP S .all (.pc f vs rd s) d os Q ak aj↔RN S .all os Q (put ak d (.one (.p (.int k x)))) aj:=Wj h rfl
theorem dZ{rd:a_}{s:Nat}{x:Bool}(h:aK S f vs (.one (.p (.bool x)))):gP S .all (.pc f vs rd s) d os Q ak aj↔RN S .all os Q (put ak d (.one (.p (.bool x)))) aj:=Wj h rfl
theorem EW{rd:a_}{s:Nat}{x:ByteArray}(h:aK S f vs (.one (.p (.str x)))):gP S .all (.pc f vs rd s) d os Q ak aj↔RN S .all os Q (put ak d (.one (.p (.str x)))) aj:=Wj h rfl
theorem de{rd:a_}{s:Nat}{r:RV}{v:V}{u:k_}(hp:aK S f vs r)(h:land aj rd s (r.gJ (S.lone s))=some (v,u)):gP S .all (.pc f vs rd s) d os Q ak aj↔RN S .all os Q (put ak d v) (app u aj):=by
 constructor
 .rintro ⟨y,hy,h2⟩
  have:=hy.zZ hp;subst this;rw[h] at h2;exact h2.2
 intro hK;refine⟨_,hp,?_⟩;rw[h];exact⟨Al.Gs _,hK⟩
def RD (S:Sys)(al:Al)(all ops:h_)(Q:dO)(ak:Env)(aj:aB)(tr:i_):Prop:=WO S al ops (fun ak aj es=>tZ all [] es=true/\Q .normal ak aj) ak aj tr
def dP (S:Sys)(al:Al)(p:fH)(d:w_)(all os:h_)(Q:dO)(ak:Env)(aj:aB)(tr:i_):Prop:=G0 S al p d ak aj tr (WO S al os fun ak aj es=>tZ all [] es=true/\Q .normal ak aj)
def dW (S:Sys)(al:Al)(w:Option Bool)(d:w_)(op:oQ)(all os:h_)(Q:dO)(ak:Env)(aj:aB)(tr:i_):Prop:=EY S al w ⟨d,op,none,0⟩ ak aj tr (WO S al os fun ak aj es=>tZ all [] es=true/\Q .normal ak aj)
theorem Zy:W S al (.region true ops) Q ak aj↔RD S al ops ops Q ak aj []:=ai9
theorem Zs:RD S al all [] Q ak aj tr↔tZ all [] tr=true/\Q .normal ak aj:=SV
theorem Zt:RD S al all (⟨d,op,none,n⟩::os) Q ak aj tr↔dP S al (bK S.shared ak aj op) d all os Q ak aj tr:=O9
theorem Zr{t:Nat}{w:Bool}:RD S al all (⟨d,op,some (t,w),n⟩::os) Q ak aj tr↔dW S al (Ga (ak t) w) d op all os Q ak aj tr:=by
 unfold RD dW;rw[O9];have:wanted ak (some (t,w))=Ga (ak t) w:=rfl;simp only[this];cases Ga (ak t) w with
 |none=>rfl
 |some x=>cases x<;>rfl
theorem abc:dW S al (some true) d op all os Q ak aj tr↔dP S al (bK S.shared ak aj op) d all os Q ak aj tr:=Iff.rfl
theorem abb:dW S al (some false) d op all os Q ak aj tr↔RD S al all os Q (put ak d .undef) aj (tr++[⟨[],[],[]⟩]):=Iff.rfl
theorem Me{v:V}{u:k_}{r:a_}:dP S .all (.done v u r) d all os Q ak aj tr↔RD S .all all os Q (put ak d v) (app u aj) (tr++[⟨r,u.map (·.1),[]⟩]):=by show(Al.all.fP (r++u.map (·.1))=true/\_)↔_;rw[Al.Gs];exact⟨fun h=>h.2,fun h=>⟨rfl,h⟩⟩
theorem aa8{v:V}{u:k_}{r:a_}:dP S al (.done v u r) d all os Q ak aj tr↔al.fP (r++u.map (·.1))=true/\RD S al all os Q (put ak d v) (app u aj) (tr++[⟨r,u.map (·.1),[]⟩]):=Iff.rfl
theorem T2{rd:a_}{s:Nat}(h:aK S f vs (.one (.p x)))(hs:x.scalar=true):dP S .all (.pc f vs rd s) d all os Q ak aj tr↔RD S .all all os Q (put ak d (.one (.p x))) aj (tr++[⟨rd,[],[]⟩]):=anG h hs
theorem iD{rd:a_}{s:Nat}{k:IntKind}{x:Int}(h:aK S f vs (.one (.p (.int k x)))):dP S .all (.pc f vs rd s) d all os Q ak aj tr↔RD S .all all os Q (put ak d (.one (.p (.int k x)))) aj (tr++[⟨rd,[],[]⟩]):=T2 h rfl
theorem nX{rd:a_}{s:Nat}{x:Bool}(h:aK S f vs (.one (.p (.bool x)))):dP S .all (.pc f vs rd s) d all os Q ak aj tr↔RD S .all all os Q (put ak d (.one (.p (.bool x)))) aj (tr++[⟨rd,[],[]⟩]):=T2 h rfl
theorem aba{rd:a_}{s:Nat}{x:ByteArray}(h:aK S f vs (.one (.p (.str x)))):dP S .all (.pc f vs rd s) d all os Q ak aj tr↔RD S .all all os Q (put ak d (.one (.p (.str x)))) aj (tr++[⟨rd,[],[]⟩]):=T2 h rfl
theorem EK{rd:a_}{s:Nat}{r:RV}{v:V}{u:k_}(hp:aK S f vs r)(h:land aj rd s (r.gJ (S.lone s))=some (v,u)):dP S .all (.pc f vs rd s) d all os Q ak aj tr↔RD S .all all os Q (put ak d v) (app u aj) (tr++[⟨rd++u.map (·.1),u.map (·.1),[]⟩]):=by
 constructor
 .rintro ⟨y,hy,h2⟩
  have:=hy.zZ hp;subst this;rw[h] at h2;exact h2.2
 intro hK;refine⟨_,hp,?_⟩;rw[h];exact⟨Al.Gs _,hK⟩
def KK(N:Nat)(I:Nat->Env->aB->Prop)(k:Nat)(Q:dO):dO:=Lj (fun ak aj=>k<N/\I (k+1) ak aj) Q
theorem age{N k:Nat}{I:Nat->Env->aB->Prop}:KK N I k Q .normal ak aj=(k<N/\I (k+1) ak aj):=rfl
theorem agd{N k i:Nat}{I:Nat->Env->aB->Prop}:KK N I k Q (.exit i) ak aj=Q (.exit i) ak aj:=rfl
theorem agf{N k:Nat}{I:Nat->Env->aB->Prop}:KK N I k Q .ret ak aj=Q .ret ak aj:=rfl
theorem dy{c:aN}(I:Nat->Env->aB->Prop)(k0 N:Nat)(hk:k0<=N)(h0:I k0 ak aj)
  (round:∀k ak aj,k<=N->I k ak aj->W S al c (KK N I k Q) ak aj):W S al (.loop c) Q ak aj:=ajb I k0 N hk h0 round
def Mq(R:V->aB->Prop)(aj:aB):Option e_->Prop
 |some vs=>R (A6 vs) aj
 |none=>False
theorem Zl{res:List (Nat×Option w_)}{R:V->aB->Prop}:nj al res R .ret ak aj=Mq R aj (qm al ak aj res):=by simp only[nj,Mq];cases qm al ak aj res<;>rfl
theorem Zk{res:List (Nat×Option w_)}{R:V->aB->Prop}:nj al res R .normal ak aj=Mq R aj (qm al ak aj res):=by simp only[nj,Mq];cases qm al ak aj res<;>rfl
theorem abA{R:V->aB->Prop}{vs:e_}:Mq R aj (some vs)=R (A6 vs) aj:=rfl
end
section
variable {S:Sys} {al:Al} {Q:dO} {ak:Env} {aj:aB}
def Q4(S:Sys)(al:Al)(c:aN)(Q:dO):dO
 | .normal,ak,aj=>W S al (.loop c) Q ak aj
 | .exit i,ak,aj=>Q (.exit i) ak aj
 | .ret,ak,aj=>Q .ret ak aj
theorem afQ{c:aN}:Q4 S al c Q .normal ak aj=W S al (.loop c) Q ak aj:=rfl
theorem afP{c:aN}{i:Nat}:Q4 S al c Q (.exit i) ak aj=Q (.exit i) ak aj:=rfl
theorem afR{c:aN}:Q4 S al c Q .ret ak aj=Q .ret ak aj:=rfl
theorem sF{c:aN}(h:W S al c (Q4 S al c Q) ak aj):W S al (.loop c) Q ak aj:=by
 obtain⟨n,e,iU,bU,h1,h2⟩:=h;cases e with
 |normal=>obtain⟨m,e,dz,bh,h3,h4⟩:=h2;refine⟨max n m+1,e,dz,bh,?_,h4⟩;simp only[exec] at h3 |-;simp only[iter];rw[Ac S aa h1];exact QX S aa aa h3
 |exit i=>exact⟨n+1,_,_,_,by simp[exec,iter,Ac S (Nat.le_succ n) h1],h2⟩
 |ret=>exact⟨n+1,_,_,_,by simp[exec,iter,Ac S (Nat.le_succ n) h1],h2⟩
end
theorem jm.zZ{S:Sys}{args:e_}{al:Al}{aj:aB}{v v':V}{b b':aB}(h:jm S f args al aj v b)(h':jm S f args al aj v' b'):v=v'/\b=b':=by obtain⟨n,hn⟩:=h;obtain⟨m,hm⟩:=h';have a:=L7 S (Gj n m) _ _ _ _ _ hn;have c:=L7 S (II n m) _ _ _ _ _ hm;rw[a] at c;have:=qt c;exact⟨congrArg Prod.fst this,congrArg Prod.snd this⟩
section
variable {S:Sys} {al:Al} {Q:dO} {ak:Env} {aj:aB} {os all:h_} {tr:i_} {d:w_}
theorem Ia:al.fP []=true:=rfl
theorem KQ{a:Nat}{l:a_}:al.fP (a::l)=(al.ok a&&al.fP l):=rfl
def Kept(K:Nat->Prop)(b b':aB):Prop:=∀id,¬K id->b' id=b id
theorem Kept.refl(K:Nat->Prop)(b:aB):Kept K b b:=fun _ _=>rfl
theorem Kept.trans{K:Nat->Prop}{a b c:aB}(h:Kept K a b)(h2:Kept K b c):Kept K a c:=fun id hk=>(h2 id hk).trans (h id hk)
theorem Kept.dU{K:Nat->Prop}{b b':aB}(h:Kept K b b'){k:Nat}(hk:K k)(x:Nat×Option Ob):Kept K b (dU b' k x):=fun id hn=>by rw[aO,ay (by rintro rfl;exact hn hk)];exact h id hn
theorem anv{v:V}{ao:aB}(hh:al.holds (allow (S.ctx al) f vs aj)=true)(h:jm S f vs (allow (S.ctx al) f vs aj) aj v ao):gP S al (.sc f vs) d os Q ak aj↔RN S al os Q (put ak d v) ao:=by
 constructor
 .rintro ⟨_,v2,b2,h2,h3⟩
  obtain⟨rfl,rfl⟩:=h.zZ h2;exact h3
 intro h3;exact⟨hh,v,ao,h,h3⟩
theorem adq{rd:a_}{s:Nat}(h:aK S f vs (.one (.p x)))(hs:x.scalar=true):gP S al (.pc f vs rd s) d os Q ak aj↔al.fP (rd++[])=true/\RN S al os Q (put ak d (.one (.p x))) aj:=by
 constructor
 .rintro ⟨y,hy,h2⟩
  have:=hy.zZ h;subst this;rw[Ky hs] at h2;exact h2
 rintro ⟨ho,hK⟩
 refine⟨_,h,?_⟩;rw[Ky hs];exact⟨ho,hK⟩
theorem MG{rd:a_}{s:Nat}{k:IntKind}{x:Int}(h:aK S f vs (.one (.p (.int k x)))):gP S al (.pc f vs rd s) d os Q ak aj↔al.fP (rd++[])=true/\RN S al os Q (put ak d (.one (.p (.int k x)))) aj:=adq h rfl
theorem adp{rd:a_}{s:Nat}{x:Bool}(h:aK S f vs (.one (.p (.bool x)))):gP S al (.pc f vs rd s) d os Q ak aj↔al.fP (rd++[])=true/\RN S al os Q (put ak d (.one (.p (.bool x)))) aj:=adq h rfl
theorem amQ{f:Int->b_}(q:Int):∀(ids:d_) (i:Nat),qC (.int .i64 q) (ids.map fun id=>(PV.int .i64 id,f id)) i=some (if q∈ids then some (i+ids.idxOf q,f q) else none):=by
 intro ids
 induction ids with
 |nil=>intro i;rfl
 |cons a ids ih=>
  intro i;simp only[eh,qC,sameKey,if_true];by_cases e:q=a
  .subst e;simp
  have e':(q==a)=false:=by simpa using e
  have e2:¬(a=q):=fun h=>e h.symm;simp only[e'];rw[ih];simp only[cD,e,false_or,List.idxOf_cons,dk,e2,cond_false];by_cases h:q∈ids
  .have e3:(a==q)=false:=by simpa using e2
   simp[h,e3];omega
  simp[h]
theorem sR{f:Nat}{vs:e_}{P:V->aB->Prop}(hh:al.holds (allow (S.ctx al) f vs aj)=true)(h:∃v ao,jm S f vs (allow (S.ctx al) f vs aj) aj v ao/\P v ao)
  (hK:∀v ao,P v ao->RN S al os Q (put ak d v) ao):gP S al (.sc f vs) d os Q ak aj:=by
 obtain⟨v,ao,h1,h2⟩:=h;exact(anv hh h1).2 (hK v ao h2)
theorem Az{LP:Al}:Al.all.holds LP=true:=rfl
theorem holds_of{LP:Al}(h1:al.fP LP.ids=true)(h2:LP.fs.all al.fs.contains=true):al.holds LP=true:=by unfold Al.holds;rw[h1,h2];simp
theorem vZ{id:Nat}(h:(S.sites f).contains (jO id)=true):(allow (S.ctx al) f vs aj).ok id=true:=by show(false||_||(S.sites f).contains (jO id))=true;rw[h];simp
theorem tD{id:Nat}(h:id∈(vs.map (jN aj)).flatten):(allow (S.ctx al) f vs aj).ok id=true:=by
 show(false||(vs.map (jN aj)).flatten.contains id||_)=true;have:(vs.map (jN aj)).flatten.contains id=true:=by simpa using h
 rw[this];rfl
theorem K5{id g g0 o:Nat}{cs:f_}(h:aj id=(g0,some (.var cs))):jN aj (.one (.aZ id g o))=id::(cs.map (kJ aj 5)).flatten:=by show kJ aj 6 (.aZ id g o)=_;rw[kJ,h]
theorem K4{n:Nat}{v:PV}:kJ aj n (.p v)=[]:=by cases n<;>rfl
theorem DW{id g g0 o l sz n:Nat}(h:aj id=(g0,some (.arr ty sz es))):kJ aj (n+1) (.hsl id g z o l)=[id]:=by rw[kJ,h]
def YL(x:Nat×Option Ob)(id g:Nat):Option (PV×a_):=match x with
 |(g',some (.map ag es))=>if g'=g then some (.mp ag es,[id]) else none
 |(g',some (.fmap ag es))=>if g'=g then some (.mp ag es,[id]) else none
 |_=>none
theorem ah1{n id g:Nat}:snap aj (n+1) (.kU id g)=YL (aj id) id g:=by rw[snap];rfl
end
theorem Rd:type_of%(And.intro @Zz<|And.intro @ZA<|And.intro @Zy<|And.intro @ZD<|And.intro @Zx<|And.intro @Zw<|And.intro @Zu<|And.intro @Zv<|And.intro @Zt<|And.intro @Zr<|And.intro @Zs<|And.intro @ZH<|And.intro @ZI<|And.intro @ZE<|And.intro @aio<|And.intro @ain<|And.intro @aip<|And.intro @aah<|And.intro @aai<|And.intro @aag<|And.intro @age<|And.intro @agd<|And.intro @agf<|And.intro @afQ<|And.intro @afP @afR):=And.intro @Zz<|And.intro @ZA<|And.intro @Zy<|And.intro @ZD<|And.intro @Zx<|And.intro @Zw<|And.intro @Zu<|And.intro @Zv<|And.intro @Zt<|And.intro @Zr<|And.intro @Zs<|And.intro @ZH<|And.intro @ZI<|And.intro @ZE<|And.intro @aio<|And.intro @ain<|And.intro @aip<|And.intro @aah<|And.intro @aai<|And.intro @aag<|And.intro @age<|And.intro @agd<|And.intro @agf<|And.intro @afQ<|And.intro @afP @afR
theorem Rt:type_of%(And.intro @aam<|And.intro @aal<|And.intro @adz<|And.intro @ady<|And.intro @abc<|And.intro @abb<|And.intro @aiH<|And.intro @aiI<|And.intro @abJ<|And.intro @abH<|And.intro @abG<|And.intro @abI<|And.intro @ag9<|And.intro @ag7<|And.intro @aO<|And.intro @aey<|And.intro @aex<|And.intro @Zl<|And.intro @Zk<|And.intro @abA<|And.intro @agG<|And.intro @norm_int<|And.intro @agi<|And.intro @agq<|And.intro @ago<|And.intro @agp<|And.intro @X5<|And.intro @agj<|And.intro @agn<|And.intro @agl<|And.intro @agm<|And.intro @agk<|And.intro @ahZ<|And.intro @ahY<|And.intro @ahU<|And.intro @ahX<|And.intro @bft<|And.intro @btf<|And.intro @bff<|And.intro @btt<|And.intro @Z2<|And.intro @Sr<|And.intro @aaO<|And.intro @aaI<|And.intro @aaG<|And.intro @ahV<|And.intro @Z0<|And.intro @ahW<|And.intro @ah3<|And.intro @ah2 @ah4):=And.intro @aam<|And.intro @aal<|And.intro @adz<|And.intro @ady<|And.intro @abc<|And.intro @abb<|And.intro @aiH<|And.intro @aiI<|And.intro @abJ<|And.intro @abH<|And.intro @abG<|And.intro @abI<|And.intro @ag9<|And.intro @ag7<|And.intro @aO<|And.intro @aey<|And.intro @aex<|And.intro @Zl<|And.intro @Zk<|And.intro @abA<|And.intro @agG<|And.intro @norm_int<|And.intro @agi<|And.intro @agq<|And.intro @ago<|And.intro @agp<|And.intro @X5<|And.intro @agj<|And.intro @agn<|And.intro @agl<|And.intro @agm<|And.intro @agk<|And.intro @ahZ<|And.intro @ahY<|And.intro @ahU<|And.intro @ahX<|And.intro @bft<|And.intro @btf<|And.intro @bff<|And.intro @btt<|And.intro @Z2<|And.intro @Sr<|And.intro @aaO<|And.intro @aaI<|And.intro @aaG<|And.intro @ahV<|And.intro @Z0<|And.intro @ahW<|And.intro @ah3<|And.intro @ah2 @ah4
theorem Rl:type_of%(And.intro @List.map_nil.{0,0}<|And.intro @List.append_nil.{0}<|And.intro @List.map_cons.{0,0}<|And.intro @List.cons_append.{0}<|And.intro @List.nil_append.{0}<|And.intro @List.drop_zero.{0}<|And.intro @List.take_zero.{0}<|And.intro @List.length_cons.{0}<|And.intro @List.length_nil.{0}<|And.intro @List.take_succ_cons.{0}<|And.intro @List.drop_nil.{0}<|And.intro @List.drop_succ_cons.{0}<|And.intro @List.length_map.{0,0}<|And.intro @List.take_nil.{0}<|And.intro @List.flatten_cons.{0}<|And.intro @List.getElem?_cons_zero.{0}<|And.intro @List.getElem?_cons_succ.{0}<|And.intro @List.all_nil.{0}<|And.intro @List.all_cons.{0}<|And.intro @List.not_mem_nil.{0} @Option.map_some.{0,0}):=And.intro @List.map_nil.{0,0}<|And.intro @List.append_nil.{0}<|And.intro @List.map_cons.{0,0}<|And.intro @List.cons_append.{0}<|And.intro @List.nil_append.{0}<|And.intro @List.drop_zero.{0}<|And.intro @List.take_zero.{0}<|And.intro @List.length_cons.{0}<|And.intro @List.length_nil.{0}<|And.intro @List.take_succ_cons.{0}<|And.intro @List.drop_nil.{0}<|And.intro @List.drop_succ_cons.{0}<|And.intro @List.length_map.{0,0}<|And.intro @List.take_nil.{0}<|And.intro @List.flatten_cons.{0}<|And.intro @List.getElem?_cons_zero.{0}<|And.intro @List.getElem?_cons_succ.{0}<|And.intro @List.all_nil.{0}<|And.intro @List.all_cons.{0}<|And.intro @List.not_mem_nil.{0} @Option.map_some.{0,0}
theorem Rb:type_of%(And.intro @Bool.false_eq_true<|And.intro @Bool.not_true<|And.intro @Bool.not_false<|And.intro @Bool.and_true<|And.intro @Bool.and_false<|And.intro @Bool.true_and<|And.intro @Bool.false_and<|And.intro @true_and<|And.intro @and_true<|And.intro @true_or<|And.intro @or_true<|And.intro @false_or<|And.intro @or_false<|And.intro @decide_true<|And.intro @decide_false<|And.intro @not_true_eq_false<|And.intro @not_false_eq_true<|And.intro @and_self<|And.intro @Nat.le_refl<|And.intro @Nat.zero_add<|And.intro @Nat.mul_one<|And.intro @Nat.zero_mul<|And.intro @Nat.zero_le<|And.intro @Nat.sub_zero @Int.zero_add):=And.intro @Bool.false_eq_true<|And.intro @Bool.not_true<|And.intro @Bool.not_false<|And.intro @Bool.and_true<|And.intro @Bool.and_false<|And.intro @Bool.true_and<|And.intro @Bool.false_and<|And.intro @true_and<|And.intro @and_true<|And.intro @true_or<|And.intro @or_true<|And.intro @false_or<|And.intro @or_false<|And.intro @decide_true<|And.intro @decide_false<|And.intro @not_true_eq_false<|And.intro @not_false_eq_true<|And.intro @and_self<|And.intro @Nat.le_refl<|And.intro @Nat.zero_add<|And.intro @Nat.mul_one<|And.intro @Nat.zero_mul<|And.intro @Nat.zero_le<|And.intro @Nat.sub_zero @Int.zero_add
def grown(site ty z:Nat)(es:s_)(v:V)(aj:aB):Prop:=(es=[]/\v=.one (.p .nils))\/(es≠[]/\ ∃g,v=.one (.hsl site g z 0 es.length)/\aj site=(g,some (.arr ty z es)))
def aU(ty z:Nat)(es:s_):RC:=if es=[] then .p .nils else .own ty z es
theorem grown.of_eq{v:V}{aj ao:aB}(h:grown site ty z es v aj)(hb:ao site=aj site):grown site ty z es v ao:=by
 rcases h with h|⟨h1,g,h2,h3⟩
 .exact .inl h
 exact .inr ⟨h1,g,h2,by rw[hb,h3]⟩
theorem grown.nil{aj:aB}:grown site ty z [] (.one (.p .nils)) aj:=.inl ⟨rfl,rfl⟩
theorem grown.jM{v:V}{aj:aB}(h:grown site ty z es v aj):∃c o,v=.one c/\jM aj c=some (aU ty z es,o,[])/\(o=[]\/o=[site]):=by
 rcases h with ⟨h1,h2⟩|⟨h1,g,h2,h3⟩
 .exact⟨.p .nils,[],h2,by simp[Go.Abs.jM,aU,h1],.inl rfl⟩
 refine⟨_,[site],h2,?_,.inr rfl⟩;simp only[Go.Abs.jM,h3,and_self,bR,if_true,lf,aU,ay h1]
theorem Ag{v:V}{aj:aB}(h:grown site ty z es v aj):jd aj v=some (.one (aU ty z es)):=by
 obtain⟨c,o,rfl,h2,h3⟩:=h.jM;rcases h3 with rfl|rfl
 .simp[jd,tH,oX,nG,h2,apart,vN,tq]
 simp[jd,tH,oX,nG,h2,apart,vN,tq]
theorem Qh{s1 t1 z1 s2 t2 z2:Nat}{fs:s_}{v w:V}{aj:aB}(hs:s1≠s2)(h:grown s1 t1 z1 es v aj)(h':grown s2 t2 z2 fs w aj):jd aj (.tup [v,w])=some (.tup [.one (aU t1 z1 es),.one (aU t2 z2 fs)]):=by obtain⟨c,o,rfl,h2,h3⟩:=h.jM;obtain⟨d,q,rfl,k2,k3⟩:=h'.jM;rcases h3 with rfl|rfl<;>rcases k3 with rfl|rfl<;>simp[jd,tH,vn,oX,nG,h2,k2,apart,vN,tq,AZ,hs]
theorem grown.elems{v:V}{aj:aB}(h:grown site ty z es v aj):∃r,fU aj v=some (es,r,[])/\(r=[]\/r=[site]):=by
 rcases h with ⟨h1,h2⟩|⟨h1,g,h2,h3⟩
 .exact⟨[],by rw[h2,h1];rfl,.inl rfl⟩
 refine⟨[site],?_,.inr rfl⟩;rw[h2];simp[fU,h3]
theorem grown.nL{v:V}{aj:aB}(h:grown site ty z es v aj):es=[]\/nL v=some z:=by
 rcases h with ⟨h1,h2⟩|⟨h1,g,h2,h3⟩
 .exact .inl h1
 exact .inr (by rw[h2];rfl)
theorem grown.iI{v:V}{aj:aB}(h:grown site ty z es v aj):Go.Abs.nL v=some z\/iI z es=true:=by
 rcases h.nL with h|h
 .exact .inr (by rw[h];rfl)
 exact .inl h
theorem grown.len{v:V}{aj:aB}(h:grown site ty z es v aj):zi v=some es.length:=by
 rcases h with ⟨h1,h2⟩|⟨h1,g,h2,h3⟩
 .rw[h1,h2];rfl
 rw[h2];rfl
theorem grown.snap{v:V}{aj:aB}(h:grown site ty z es v aj):∃r,pN aj v=some (.one (.p (.sl es)),r)/\(r=[]\/r=[site]):=by
 rcases h with ⟨h1,h2⟩|⟨h1,g,h2,h3⟩
 .exact⟨[],by rw[h2,h1];rfl,.inl rfl⟩
 refine⟨[site],?_,.inr rfl⟩;rw[h2];simp[pN,fE,Go.Abs.snap,h3]
theorem grown.YI{c:C}{aj:aB}(h:grown site ty z es (.one c) aj){n:Nat}:∃r,Go.Abs.snap aj (n+1) c=some (.sl es,r)/\(r=[]\/r=[site]):=by
 rcases h with ⟨h1,h2⟩|⟨h1,g,h2,h3⟩
 .cases h2;exact⟨[],by rw[h1];rfl,.inl rfl⟩
 refine⟨[site],?_,.inr rfl⟩;cases h2;simp[Go.Abs.snap,h3]
section
variable {S:Sys} {al:Al} {Q:dO} {ak:Env} {aj:aB} {os all:h_} {tr:i_} {d:w_}
theorem RO{id bytes:Nat}{xs:s_}{v x:V}{rd:a_}(hg:grown id ty z es v aj)(hx:fU aj x=some (xs,rd,[]))(hz:nL x=some z\/iI z xs=true)(hr:(es.length+xs.length)*bytes<=140737488355328):
  ∃v' u r,gI aj site ty z bytes v x=.done v' u r/\grown site ty z (es++xs) v' (app u aj)/\(∀i,i≠site->i≠id->app u aj i=aj i)/\(r=rd/\u.map (·.1)=[]\/r=site::rd/\u.map (·.1)=[site]\/r=site::id::rd/\u.map (·.1)=[id,site]):=by
 have rD:¬¬(nL x=some z\/iI z xs=true):=fun h=>h hz;rcases hg with ⟨rfl,rfl⟩|⟨aI,g,rfl,hC⟩
 .by_cases h0:xs=[]
  .subst h0;refine⟨.one (.p .nils),[],rd,?_,.inl ⟨rfl,rfl⟩,fun i _ _=>rfl,.inl ⟨rfl,rfl⟩⟩;simp[gI,hx,rD,tJ,vp]
  have hl:¬xs.length=0:=by simpa using h0
  have mR:xs.length*bytes<=room:=by simpa [room] using hr
  refine⟨.one (.hsl site ((aj site).1+1) z 0 xs.length),[(site,((aj site).1+1,some (.arr ty z xs)))],site::rd,?_,.inr ⟨by simpa using h0,(aj site).1+1,af,?_⟩,fun i h1 _=>?_,.inr (.inl ⟨rfl,rfl⟩)⟩
  .simp only[gI,hx,ay rD,tJ,vp,ay hl,aD mR];simp
  .simp[app,aO]
  simp[app,aO,h1]
 have mR:(es.length+xs.length)*bytes<=room:=by simpa [room] using hr
 refine⟨.one (.hsl site ((aj site).1+1) z 0 (es.length+xs.length)),[(id,(g,none)),(site,((aj site).1+1,some (.arr ty z (es++xs))))],site::id::rd,?_,.inr ⟨by simp[aI],(aj site).1+1,af,?_⟩,fun i h1 h2=>?_,.inr (.inr ⟨rfl,rfl⟩)⟩
 .simp only[gI,hx,ay rD,tJ,vp,hC];simp[mR]
 .simp[app,aO]
 simp[app,aO,h1,h2]
theorem vq{id site ty z bytes:Nat}{es xs:s_}{v x:V}{rd:a_}(hg:grown id ty z es v aj)(hx:fU aj x=some (xs,rd,[]))(hz:nL x=some z\/iI z xs=true)(hr:(es.length+xs.length)*bytes<=140737488355328)
  (hK:∀(c:C) ao,grown site ty z (es++xs) (.one c) ao->(∀i,i≠site->i≠id->ao i=aj i)->RN S .all os Q (put ak d (.one c)) ao):gP S .all (gI aj site ty z bytes v x) d os Q ak aj:=by
 obtain⟨v',u,r,h1,h2,h3,_⟩:=RO hg hx hz hr;obtain⟨c,o,rfl,_⟩:=h2.jM;rw[h1,MF];exact hK _ _ h2 h3
theorem Bn{id site ty z bytes:Nat}{es xs:s_}{v x:V}{rd:a_}(hg:grown id ty z es v aj)(hx:fU aj x=some (xs,rd,[]))(hz:nL x=some z\/iI z xs=true)(hr:(es.length+xs.length)*bytes<=140737488355328)
  (hK:∀(c:C) ao r w,grown site ty z (es++xs) (.one c) ao->(∀i,i≠site->i≠id->ao i=aj i)->(r=rd/\w=[]\/r=site::rd/\w=[site]\/r=site::id::rd/\w=[id,site])->RD S .all all os Q (put ak d (.one c)) ao (tr++[⟨r,w,[]⟩])):dP S .all (gI aj site ty z bytes v x) d all os Q ak aj tr:=by
 obtain⟨v',u,r,h1,h2,h3,h4⟩:=RO hg hx hz hr;obtain⟨c,o,rfl,_⟩:=h2.jM;rw[h1,Me];exact hK _ _ _ _ h2 h3 h4
theorem sk{s:Nat}:grown s ty z es (.one (dq aj s (aU ty z es)).1) (app (dq aj s (aU ty z es)).2 aj)/\(∀i,i≠s->app (dq aj s (aU ty z es)).2 aj i=aj i)/\((dq aj s (aU ty z es)).2.map (·.1)=[]\/(dq aj s (aU ty z es)).2.map (·.1)=[s]):=by
 unfold aU;by_cases h:es=[]
 .rw[aD h];exact⟨.inl ⟨h,rfl⟩,fun i _=>rfl,.inl rfl⟩
 rw[ay h];exact⟨.inr ⟨h,(aj s).1+1,rfl,by simp[dq,app,aO]⟩,fun i hi=>by simp[dq,app,aO,hi],.inr rfl⟩
theorem uT(r:RV):r.gJ false=r:=rfl
theorem rX{f:Nat}{vs:e_}{s ty z:Nat}{rd:a_}{es:s_}(hp:aK S f vs (.one (aU ty z es)))(eF:S.lone s=false)(oE:rd=[]\/(RV.one (aU ty z es)).alone=true)
  (hK:∀(c:C) ao,grown s ty z es (.one c) ao->(∀i,i≠s->ao i=aj i)->RN S .all os Q (put ak d (.one c)) ao):gP S .all (.pc f vs rd s) d os Q ak aj:=by
 obtain⟨h1,h2,_⟩:=sk (aj:=aj) (s:=s) (ty:=ty) (z:=z) (es:=es);refine(de (v:=.one (dq aj s (aU ty z es)).1) (u:=(dq aj s (aU ty z es)).2) hp ?_).2 (hK _ _ h1 h2);rw[eF,uT];unfold land;rw[aD oE];simp[jJ,gQ,ir,jr,qQ,mA]
theorem adu{f:Nat}{vs:e_}{s t1 z1 t2 z2:Nat}{es fs:s_}(hp:aK S f vs (.tup [.one (aU t1 z1 es),.one (aU t2 z2 fs)]))(eF:S.lone s=false)
  (hK:∀(c e:C) ao,grown s t1 z1 es (.one c) ao->grown (s+1) t2 z2 fs (.one e) ao->(∀i,i≠s->i≠s+1->ao i=aj i)->RN S .all os Q (put ak d (.tup [.one c,.one e])) ao):gP S .all (.pc f vs [] s) d os Q ak aj:=by
 obtain⟨h1,h2,_⟩:=sk (aj:=aj) (s:=s) (ty:=t1) (z:=z1) (es:=es);have e0:∀(b b':aB) (k:Nat) (r:RC),b' k=b k->dq b k r=dq b' k r:=by
  intro b b' k r h;cases r with
  |p v=>rfl
  |own ty sz es=>simp only[dq,h]
 have e2:dq aj (s+1) (aU t2 z2 fs)=dq (app (dq aj s (aU t1 z1 es)).2 aj) (s+1) (aU t2 z2 fs):=e0 _ _ _ _ (h2 (s+1) aa);obtain⟨k1,k2,_⟩:=sk (aj:=app (dq aj s (aU t1 z1 es)).2 aj) (s:=s+1) (ty:=t2) (z:=z2) (es:=fs);rw[<- e2] at k1 k2;have Hh:∀(a b:k_) (c:aB),app (a++b) c=app b (app a c):=by
  intro a
  induction a with
  |nil=>intro b c;rfl
  |cons x a ih=>intro b c;exact ih b _
 refine(de (v:=.tup [.one (dq aj s (aU t1 z1 es)).1,.one (dq aj (s+1) (aU t2 z2 fs)).1]) (u:=(dq aj s (aU t1 z1 es)).2++(dq aj (s+1) (aU t2 z2 fs)).2) hp ?_).2 (hK _ _ _ ?_ ?_ ?_)
 .rw[eF,uT];unfold land;rw[aD (.inl rfl)];simp[jJ,gQ,ml,ir,jr,qQ,rI,mA]
 .rw[Hh];exact h1.of_eq (k2 s aa)
 .rw[Hh];exact k1
 intro i a b;rw[Hh,k2 i b,h2 i a]
end
theorem qY(h:(es.all fun e=>e.all PV.scalar)=true):(RV.one (aU ty z es)).alone=true:=by
 unfold aU;split
 .rfl
 simp[RV.alone,gQ,ir,RC.alone,h]
theorem grown.fE{c:C}{aj:aB}(h:grown site ty z es (.one c) aj):∃r,Go.Abs.snap aj Go.Abs.fE c=some (.sl es,r)/\(r=[]\/r=[site]):=h.YI
def qX(aj:aB)(r:a_):Prop:=∀i∈r,∃g ty z es,aj i=(g,some (.arr ty z es))
theorem qX.nil{aj:aB}:qX aj []:=fun _ h=>by simp at h
theorem qX.app{aj:aB}{a b:a_}(h:qX aj a)(k:qX aj b):qX aj (a++b):=fun i hi=>by
 rcases eK.1 hi with hi|hi
 .exact h i hi
 exact k i hi
theorem grown.Sn{c:C}{aj:aB}(h:grown site ty z es (.one c) aj):∃r,Go.Abs.snap aj Go.Abs.fE c=some (.sl es,r)/\qX aj r/\(r=[]\/r=[site]):=by
 rcases h with ⟨h1,h2⟩|⟨h1,g,h2,h3⟩
 .cases h2;exact⟨[],by rw[h1];rfl,qX.nil,.inl rfl⟩
 refine⟨[site],?_,fun i hi=>?_,.inr rfl⟩
 .cases h2;simp[Go.Abs.snap,Go.Abs.fE,h3]
 rw[k9] at hi;subst hi;exact⟨_,_,_,_,h3⟩
theorem Wg{aj:aB}(all:a_):∀r:a_,qX aj r->∃fu,vp aj all r=some fu/\fu.map (·.1)=r:=by
 intro r
 induction r with
 |nil=>intro _;exact⟨[],rfl,rfl⟩
 |cons i r ih=>intro h;obtain⟨g,ty,z,es,hi⟩:=h i af;obtain⟨fu,h1,h2⟩:=ih fun j hj=>h j (by simp[hj]);refine⟨(i,(g,some (.qB ty z es)))::fu,?_,by simp[h2]⟩;simp[vp,yC,hi,h1]
theorem Gv:∀(u:k_) (b:aB) (i:Nat),i∉u.map (·.1)->app u b i=b i:=by
 intro u
 induction u with
 |nil=>intro b i _;rfl
 |cons x u ih=>intro b i h;simp only[eh,cD,not_or] at h;show app u (dU b x.1 x.2) i=b i;rw[ih _ _ h.2,aO,ay h.1]
theorem zQ:∀(a b:k_) (c:aB),app (a++b) c=app b (app a c):=by
 intro a
 induction a with
 |nil=>intro b c;rfl
 |cons x a ih=>intro b c;exact ih b _
section
variable {S:Sys} {al:Al} {Q:dO} {ak:Env} {aj:aB} {os all:h_} {tr:i_} {d:w_}
theorem anm{id site ty z bytes:Nat}{es xs:s_}{v x:V}{rd fr:a_}(hg:grown id ty z es v aj)(hx:fU aj x=some (xs,rd,fr))(l7:qX aj fr)(hni:id∉fr)(wI:site∉fr)(hz:nL x=some z\/iI z xs=true)(hr:(es.length+xs.length)*bytes<=140737488355328)
  (hK:∀(c:C) ao,grown site ty z (es++xs) (.one c) ao->(∀i,i≠site->i≠id->i∉fr->ao i=aj i)->RN S .all os Q (put ak d (.one c)) ao):gP S .all (gI aj site ty z bytes v x) d os Q ak aj:=by
 have rD:¬¬(nL x=some z\/iI z xs=true):=fun h=>h hz;obtain⟨fu,yS,yU⟩:=Wg fr fr l7;have Ho:tJ aj fr=some fu:=yS;rcases hg with ⟨rfl,rfl⟩|⟨aI,g,rfl,hC⟩
 .by_cases h0:xs=[]
  .subst h0;have:gI aj site ty z bytes (.one (.p .nils)) x=.done (.one (.p .nils)) fu (rd++fr):=by simp[gI,hx,rD,Ho]
   rw[this,MF];exact hK _ _ (.inl ⟨rfl,rfl⟩) fun i _ _ h3=>Gv _ _ _ (by rw[yU];exact h3)
  have hl:¬xs.length=0:=by simpa using h0
  have mR:xs.length*bytes<=room:=by simpa [room] using hr
  have:gI aj site ty z bytes (.one (.p .nils)) x=.done (.one (.hsl site ((aj site).1+1) z 0 xs.length)) (fu++[(site,((aj site).1+1,some (.arr ty z xs)))]) (site::rd++fr):=by simp only[gI,hx,ay rD,Ho,ay hl,aD mR]
  rw[this,MF];refine hK _ _ (.inr ⟨by simpa using h0,(aj site).1+1,af,?_⟩) fun i h1 _ h3=>?_
  .rw[zQ];simp[app,aO]
  rw[zQ];have:=Gv fu aj i (by rw[yU];exact h3);simp[app,aO,h1,this]
 have mR:(es.length+xs.length)*bytes<=room:=by simpa [room] using hr
 have NA:fr.contains id=false:=by simpa using hni
 have:gI aj site ty z bytes (.one (.hsl id g z 0 es.length)) x=.done (.one (.hsl site ((aj site).1+1) z 0 (es.length+xs.length))) (fu++[(id,(g,none)),(site,((aj site).1+1,some (.arr ty z (es++xs))))]) (site::id::rd++fr):=by simp only[gI,hx,ay rD,Ho,hC,NA];simp[mR]
 rw[this,MF];refine hK _ _ (.inr ⟨by simp[aI],(aj site).1+1,af,?_⟩) fun i h1 h2 h3=>?_
 .rw[zQ];simp[app,aO]
 rw[zQ];have:=Gv fu aj i (by rw[yU];exact h3);simp[app,aO,h1,h2,this]
end
section
variable {S:Sys} {al:Al} {Q:dO} {ak:Env} {aj:aB} {os all:h_} {tr:i_} {d:w_}
theorem DO{l:a_}(h:∀i∈l,al.ok i=true):al.fP l=true:=gO.2 h
theorem Qe{id site ty z bytes:Nat}{es xs:s_}{v x:V}{rd:a_}(au:∀i∈site::id::rd,al.ok i=true)(hg:grown id ty z es v aj)(hx:fU aj x=some (xs,rd,[]))(hz:nL x=some z\/iI z xs=true)(hr:(es.length+xs.length)*bytes<=140737488355328)
  (hK:∀(c:C) ao,grown site ty z (es++xs) (.one c) ao->(∀i,i≠site->i≠id->ao i=aj i)->RN S al os Q (put ak d (.one c)) ao):gP S al (gI aj site ty z bytes v x) d os Q ak aj:=by
 obtain⟨v',u,r,h1,h2,h3,h4⟩:=RO hg hx hz hr;obtain⟨c,o,rfl,_⟩:=h2.jM;rw[h1,adr];refine⟨?_,hK _ _ h2 h3⟩;rcases h4 with ⟨rfl,h5⟩|⟨rfl,h5⟩|⟨rfl,h5⟩<;>rw[h5]<;>refine DO fun i hi=>au i ?_ <;>simp at hi |-
 .exact .inr (.inr hi)
 .rcases hi with h|h|h<;>simp[h]
 rcases hi with h|h|h|h|h<;>simp[h]
theorem GK{id site ty z bytes:Nat}{es xs:s_}{v x:V}{rd:a_}(au:∀i∈site::id::rd,al.ok i=true)(hg:grown id ty z es v aj)(hx:fU aj x=some (xs,rd,[]))(hz:nL x=some z\/iI z xs=true)(hr:(es.length+xs.length)*bytes<=140737488355328)
  (hK:∀(c:C) ao r w,grown site ty z (es++xs) (.one c) ao->(∀i,i≠site->i≠id->ao i=aj i)->(r=rd/\w=[]\/r=site::rd/\w=[site]\/r=site::id::rd/\w=[id,site])->RD S al all os Q (put ak d (.one c)) ao (tr++[⟨r,w,[]⟩])):dP S al (gI aj site ty z bytes v x) d all os Q ak aj tr:=by
 obtain⟨v',u,r,h1,h2,h3,h4⟩:=RO hg hx hz hr;obtain⟨c,o,rfl,_⟩:=h2.jM;rw[h1,aa8];refine⟨?_,hK _ _ _ _ h2 h3 h4⟩;rcases h4 with ⟨rfl,h5⟩|⟨rfl,h5⟩|⟨rfl,h5⟩<;>rw[h5]<;>refine DO fun i hi=>au i ?_ <;>simp at hi |-
 .exact .inr (.inr hi)
 .rcases hi with h|h|h<;>simp[h]
 rcases hi with h|h|h|h|h<;>simp[h]
theorem alH{site ty z bytes:Nat}{xs:s_}{x:V}{rd:a_}(au:∀i∈site::rd,al.ok i=true)(hx:fU aj x=some (xs,rd,[]))(aI:xs≠[])(hz:nL x=some z\/iI z xs=true)(hr:xs.length*bytes<=140737488355328)
  (hK:∀(c:C) ao r w,grown site ty z xs (.one c) ao->(∀i,i≠site->i≠site->ao i=aj i)->(r=rd/\w=[]\/r=site::rd/\w=[site]\/r=site::site::rd/\w=[site,site])->RD S al all os Q (put ak d (.one c)) ao (tr++[⟨r,w,[]⟩])):dP S al (gI aj site ty z bytes (.one (.p .zs)) x) d all os Q ak aj tr:=by
 have hn:xs.length≠0:=fun h=>aI (Ej.1 h);have e:gI aj site ty z bytes (.one (.p .zs)) x=gI aj site ty z bytes (.one (.p .nils)) x:=by simp only[gI,hx,hn,if_false]
 rw[e];exact GK (id:=site) (es:=[]) (fun i hi=>au i (by simpa using hi)) grown.nil hx hz (by simpa using hr) hK
theorem ano{f:Nat}{vs:e_}{s t1 z1 t2 z2:Nat}{rd:a_}{es fs:s_}(au:∀i∈s::(s+1)::rd,al.ok i=true)(hp:aK S f vs (.tup [.one (aU t1 z1 es),.one (aU t2 z2 fs)]))(eF:S.lone s=false)
  (kW:(es.all fun e=>e.all PV.scalar)=true) (fM:(fs.all fun e=>e.all PV.scalar)=true)
  (hK:∀(c e:C) ao,grown s t1 z1 es (.one c) ao->grown (s+1) t2 z2 fs (.one e) ao->(∀i,i≠s->i≠s+1->ao i=aj i)->RN S al os Q (put ak d (.tup [.one c,.one e])) ao):gP S al (.pc f vs rd s) d os Q ak aj:=by
 have gR:(RV.tup [.one (aU t1 z1 es),.one (aU t2 z2 fs)]).alone=true:=by have a:=qY (ty:=t1) (z:=z1) kW;have b:=qY (ty:=t2) (z:=z2) fM;simp only[RV.alone,gQ,ir,mH,pQ,vS] at a b;simp[RV.alone,gQ,ml,ir,a,b]
 obtain⟨h1,h2,h2u⟩:=sk (aj:=aj) (s:=s) (ty:=t1) (z:=z1) (es:=es);have e0:∀(b b':aB) (k:Nat) (r:RC),b' k=b k->dq b k r=dq b' k r:=by
  intro b b' k r h;cases r with
  |p v=>rfl
  |own ty sz es=>simp only[dq,h]
 have e2:dq aj (s+1) (aU t2 z2 fs)=dq (app (dq aj s (aU t1 z1 es)).2 aj) (s+1) (aU t2 z2 fs):=e0 _ _ _ _ (h2 (s+1) aa);obtain⟨k1,k2,k2u⟩:=sk (aj:=app (dq aj s (aU t1 z1 es)).2 aj) (s:=s+1) (ty:=t2) (z:=z2) (es:=fs);rw[<- e2] at k1 k2 k2u;refine⟨_,hp,?_⟩;rw[eF,uT];have hl:land aj rd s (RV.tup [.one (aU t1 z1 es),.one (aU t2 z2 fs)])=some (.tup [.one (dq aj s (aU t1 z1 es)).1,.one (dq aj (s+1) (aU t2 z2 fs)).1],(dq aj s (aU t1 z1 es)).2++(dq aj (s+1) (aU t2 z2 fs)).2):=by unfold land;rw[aD (.inr gR)];simp[jJ,gQ,ml,ir,jr,qQ,rI,mA]
 rw[hl];refine⟨DO fun i hi=>au i ?_,hK _ _ _ ?_ ?_ ?_⟩
 .simp only[kZ,eK] at hi;rcases hi with hi|hi|hi
  .simp[hi]
  .rcases h2u with h|h<;>rw[h] at hi<;>simp at hi<;>simp[hi]
  rcases k2u with h|h<;>rw[h] at hi<;>simp at hi<;>simp[hi]
 .rw[zQ];exact h1.of_eq (k2 s aa)
 .rw[zQ];exact k1
 intro i a b;rw[zQ,k2 i b,h2 i a]
end
theorem aX{b:aB}{a i:Nat}{x:Nat×Option Ob}(h:i≠a):dU b a x i=b i:=by rw[aO,ay h]
theorem A7{b:aB}{a:Nat}{x:Nat×Option Ob}:dU b a x a=x:=by rw[aO,aD rfl]
theorem Ra{a i:Nat}{l:a_}(h:i∉l)(ha:a∈l):i≠a:=fun e=>h (e▸ha)
section
variable {S:Sys} {al:Al} {Q:dO} {ak:Env} {aj:aB} {os all:h_} {tr:i_} {d:w_}
theorem ads{f:Nat}{vs:e_}{s ty z:Nat}{es:s_}{x:PV}(hp:aK S f vs (.tup [.one (aU ty z es),.one (.p x)]))(eF:S.lone s=false)
  (hK:∀(c:C) ao,grown s ty z es (.one c) ao->(∀i,i≠s->ao i=aj i)->RN S .all os Q (put ak d (.tup [.one c,.one (.p x)])) ao):gP S .all (.pc f vs [] s) d os Q ak aj:=by
 obtain⟨h1,h2,_⟩:=sk (aj:=aj) (s:=s) (ty:=ty) (z:=z) (es:=es);refine(de (v:=.tup [.one (dq aj s (aU ty z es)).1,.one (.p x)]) (u:=(dq aj s (aU ty z es)).2) hp ?_).2 (hK _ _ h1 h2);rw[eF,uT];unfold land;rw[aD (.inl rfl)];simp[jJ,gQ,ml,ir,jr,qQ,rI,mA,dq]
theorem alI{f:Nat}{vs:e_}{s ty z:Nat}{rd:a_}{es:s_}(hp:aK S f vs (.one (aU ty z es)))(eF:S.lone s=false)(oE:rd=[]\/(RV.one (aU ty z es)).alone=true)
  (hK:∀(c:C) ao w,grown s ty z es (.one c) ao->(∀i,i≠s->ao i=aj i)->(w=[]\/w=[s])->RD S .all all os Q (put ak d (.one c)) ao (tr++[⟨rd++w,w,[]⟩])):dP S .all (.pc f vs rd s) d all os Q ak aj tr:=by
 obtain⟨h1,h2,h3⟩:=sk (aj:=aj) (s:=s) (ty:=ty) (z:=z) (es:=es);refine(EK (v:=.one (dq aj s (aU ty z es)).1) (u:=(dq aj s (aU ty z es)).2) hp ?_).2 (hK _ _ _ h1 h2 h3);rw[eF,uT];unfold land;rw[aD oE];simp[jJ,gQ,ir,jr,qQ,mA]
theorem aa9{f:Nat}{vs:e_}{s ty z:Nat}{es:s_}{x:PV}(hp:aK S f vs (.tup [.one (aU ty z es),.one (.p x)]))(eF:S.lone s=false)
  (hK:∀(c:C) ao w,grown s ty z es (.one c) ao->(∀i,i≠s->ao i=aj i)->(w=[]\/w=[s])->RD S .all all os Q (put ak d (.tup [.one c,.one (.p x)])) ao (tr++[⟨[]++w,w,[]⟩])):dP S .all (.pc f vs [] s) d all os Q ak aj tr:=by
 obtain⟨h1,h2,h3⟩:=sk (aj:=aj) (s:=s) (ty:=ty) (z:=z) (es:=es);refine(EK (v:=.tup [.one (dq aj s (aU ty z es)).1,.one (.p x)]) (u:=(dq aj s (aU ty z es)).2) hp ?_).2 (hK _ _ _ h1 h2 h3);rw[eF,uT];unfold land;rw[aD (.inl rfl)];simp[jJ,gQ,ml,ir,jr,qQ,rI,mA,dq]
theorem adv{f:Nat}{vs:e_}{s ty z:Nat}{rd:a_}{es:s_}{x:PV}(hp:aK S f vs (.agg [.p x,aU ty z es]))(eF:S.lone s=false)(hx:x.scalar=true)(hs:(es.all fun e=>e.all PV.scalar)=true)
  (hK:∀(c:C) ao,grown (s+1) ty z es (.one c) ao->(∀i,i≠s+1->ao i=aj i)->RN S .all os Q (put ak d (.agg [.p x,c])) ao):gP S .all (.pc f vs rd s) d os Q ak aj:=by
 obtain⟨h1,h2,_⟩:=sk (aj:=aj) (s:=s+1) (ty:=ty) (z:=z) (es:=es);have gR:(RV.agg [.p x,aU ty z es]).alone=true:=by have a:=qY (ty:=ty) (z:=z) hs;simp only[RV.alone,gQ,ir,mH,pQ,vS] at a;simp only[RV.alone,gQ,ir,mH,pQ,vS,a];exact hx
 refine(de (v:=.agg [.p x,(dq aj (s+1) (aU ty z es)).1]) (u:=(dq aj (s+1) (aU ty z es)).2) hp ?_).2 (hK _ _ h1 h2);rw[eF,uT];unfold land;rw[aD (.inr gR)];simp[jJ,gQ,ir,jr,qQ,mA,dq]
theorem Wk{f:Nat}{vs:e_}{s ty z:Nat}{es:s_}{x y:PV}(hp:aK S f vs (.tup [.agg [.p x,aU ty z es],.one (.p y)]))(eF:S.lone s=false)
  (hK:∀(c:C) ao,grown (s+1) ty z es (.one c) ao->(∀i,i≠s+1->ao i=aj i)->RN S .all os Q (put ak d (.tup [.agg [.p x,c],.one (.p y)])) ao):gP S .all (.pc f vs [] s) d os Q ak aj:=by
 obtain⟨h1,h2,_⟩:=sk (aj:=aj) (s:=s+1) (ty:=ty) (z:=z) (es:=es);refine(de (v:=.tup [.agg [.p x,(dq aj (s+1) (aU ty z es)).1],.one (.p y)]) (u:=(dq aj (s+1) (aU ty z es)).2) hp ?_).2 (hK _ _ h1 h2);rw[eF,uT];unfold land;rw[aD (.inl rfl)];simp[jJ,gQ,ml,ir,jr,qQ,rI,mA,dq]
theorem Wl{f:Nat}{vs:e_}{s ty z:Nat}{rd:a_}{es:s_}{x y:PV}(hp:aK S f vs (.tup [.agg [.p x,aU ty z es],.one (.p y)]))(eF:S.lone s=false)(hx:x.scalar=true)(hy:y.scalar=true)(hs:(es.all fun e=>e.all PV.scalar)=true)
  (hK:∀(c:C) ao,grown (s+1) ty z es (.one c) ao->(∀i,i≠s+1->ao i=aj i)->RN S .all os Q (put ak d (.tup [.agg [.p x,c],.one (.p y)])) ao):gP S .all (.pc f vs rd s) d os Q ak aj:=by
 obtain⟨h1,h2,_⟩:=sk (aj:=aj) (s:=s+1) (ty:=ty) (z:=z) (es:=es);have gR:(RV.tup [.agg [.p x,aU ty z es],.one (.p y)]).alone=true:=by have a:=qY (ty:=ty) (z:=z) hs;simp only[RV.alone,gQ,ir,mH,pQ,vS] at a;simp only[RV.alone,gQ,ml,ir,mW,fZ,jA,mH,pQ,vS,a,Eg];show(x.scalar&&y.scalar)=true;rw[hx,hy];rfl
 refine(de (v:=.tup [.agg [.p x,(dq aj (s+1) (aU ty z es)).1],.one (.p y)]) (u:=(dq aj (s+1) (aU ty z es)).2) hp ?_).2 (hK _ _ h1 h2);rw[eF,uT];unfold land;rw[aD (.inr gR)];simp[jJ,gQ,ml,ir,jr,qQ,rI,mA,dq]
end
theorem Qi{s1 t1 z1:Nat}{c:C}{y:PV}{aj:aB}(h:grown s1 t1 z1 es (.one c) aj):jd aj (.tup [.agg [.p x,c],.one (.p y)])=some (.tup [.agg [.p x,aU t1 z1 es],.one (.p y)]):=by obtain⟨c',o,hc,h2,h3⟩:=h.jM;cases hc;have e1:jM aj (.p x)=some (.p x,[],[]):=rfl;have e2:jM aj (.p y)=some (.p y,[],[]):=rfl;rcases h3 with rfl|rfl<;>simp[jd,tH,vn,oX,nG,h2,e1,e2,apart,vN,tq,AZ]
section
variable {S:Sys} {al:Al} {Q:dO} {ak:Env} {aj:aB} {os all:h_} {tr:i_} {d:w_} {op:oQ} {w:Option Bool} {a b:aN} {v:V}
theorem jv(L:a_)(h:∀e:Env,(∀k∈L,e k=ak k)->gW S al w d op os Q e aj):gW S al w d op os Q ak aj:=h ak fun _ _=>rfl
theorem wg(L:a_)(h:∀e:Env,(∀k∈L,e k=ak k)->dW S al w d op all os Q e aj tr):dW S al w d op all os Q ak aj tr:=h ak fun _ _=>rfl
theorem aak(L:a_)(h:∀e:Env,(∀k∈L,e k=ak k)->cW S al v a b Q e aj):cW S al v a b Q ak aj:=h ak fun _ _=>rfl
end
section
variable {S:Sys} {al:Al} {Q:dO} {ak:Env} {aj:aB} {os all:h_} {tr:i_} {d:w_}
theorem alG{id site ty z bytes:Nat}{es xs:s_}{v x:V}{rd fr:a_}(hg:grown id ty z es v aj)(hx:fU aj x=some (xs,rd,fr))(l7:qX aj fr)(hni:id∉fr)(wI:site∉fr)(hz:nL x=some z\/iI z xs=true)(hr:(es.length+xs.length)*bytes<=140737488355328)
  (hK:∀(c:C) ao r w,grown site ty z (es++xs) (.one c) ao->(∀i,i≠site->i≠id->i∉fr->ao i=aj i)->(r=rd++fr/\w=fr\/r=site::rd++fr/\w=fr++[site]\/r=site::id::rd++fr/\w=fr++[id,site])->RD S .all all os Q (put ak d (.one c)) ao (tr++[⟨r,w,[]⟩])):dP S .all (gI aj site ty z bytes v x) d all os Q ak aj tr:=by
 have rD:¬¬(nL x=some z\/iI z xs=true):=fun h=>h hz;obtain⟨fu,yS,yU⟩:=Wg fr fr l7;have Ho:tJ aj fr=some fu:=yS;rcases hg with ⟨rfl,rfl⟩|⟨aI,g,rfl,hC⟩
 .by_cases h0:xs=[]
  .subst h0;have:gI aj site ty z bytes (.one (.p .nils)) x=.done (.one (.p .nils)) fu (rd++fr):=by simp[gI,hx,rD,Ho]
   rw[this,Me];exact hK _ _ _ _ (.inl ⟨rfl,rfl⟩) (fun i _ _ h3=>Gv _ _ _ (by rw[yU];exact h3)) (.inl ⟨rfl,yU⟩)
  have hl:¬xs.length=0:=by simpa using h0
  have mR:xs.length*bytes<=room:=by simpa [room] using hr
  have:gI aj site ty z bytes (.one (.p .nils)) x=.done (.one (.hsl site ((aj site).1+1) z 0 xs.length)) (fu++[(site,((aj site).1+1,some (.arr ty z xs)))]) (site::rd++fr):=by simp only[gI,hx,ay rD,Ho,ay hl,aD mR]
  rw[this,Me];refine hK _ _ _ _ (.inr ⟨by simpa using h0,(aj site).1+1,af,?_⟩) (fun i h1 _ h3=>?_) (.inr (.inl ⟨rfl,by simp[yU]⟩))
  .rw[zQ];simp[app,aO]
  rw[zQ];have:=Gv fu aj i (by rw[yU];exact h3);simp[app,aO,h1,this]
 have mR:(es.length+xs.length)*bytes<=room:=by simpa [room] using hr
 have NA:fr.contains id=false:=by simpa using hni
 have:gI aj site ty z bytes (.one (.hsl id g z 0 es.length)) x=.done (.one (.hsl site ((aj site).1+1) z 0 (es.length+xs.length))) (fu++[(id,(g,none)),(site,((aj site).1+1,some (.arr ty z (es++xs))))]) (site::id::rd++fr):=by simp only[gI,hx,ay rD,Ho,hC,NA];simp[mR]
 rw[this,Me];refine hK _ _ _ _ (.inr ⟨by simp[aI],(aj site).1+1,af,?_⟩) (fun i h1 h2 h3=>?_) (.inr (.inr ⟨rfl,by simp[yU]⟩))
 .rw[zQ];simp[app,aO]
 rw[zQ];have:=Gv fu aj i (by rw[yU];exact h3);simp[app,aO,h1,h2,this]
theorem adt{f:Nat}{vs:e_}{s ty z:Nat}{rd:a_}{es:s_}{x:PV}(hp:aK S f vs (.tup [.one (aU ty z es),.one (.p x)]))(eF:S.lone s=false)(hs:(es.all fun e=>e.all PV.scalar)=true)(hx:x.scalar=true)
  (hK:∀(c:C) ao,grown s ty z es (.one c) ao->(∀i,i≠s->ao i=aj i)->RN S .all os Q (put ak d (.tup [.one c,.one (.p x)])) ao):gP S .all (.pc f vs rd s) d os Q ak aj:=by
 obtain⟨h1,h2,_⟩:=sk (aj:=aj) (s:=s) (ty:=ty) (z:=z) (es:=es);have gR:(RV.tup [.one (aU ty z es),.one (.p x)]).alone=true:=by have a:=qY (ty:=ty) (z:=z) hs;simp only[RV.alone,gQ,ir,mH,pQ,vS] at a;simp only[RV.alone,gQ,ml,ir,mW,fZ,jA,mH,pQ,vS,a,Eg];exact hx
 refine(de (v:=.tup [.one (dq aj s (aU ty z es)).1,.one (.p x)]) (u:=(dq aj s (aU ty z es)).2) hp ?_).2 (hK _ _ h1 h2);rw[eF,uT];unfold land;rw[aD (.inr gR)];simp[jJ,gQ,ml,ir,jr,qQ,rI,mA,dq]
end
section
variable {S:Sys} {al:Al} {Q:dO} {ak:Env} {aj:aB} {os all:h_} {tr:i_} {d:w_} {op:oQ} {a b:aN} {e w:Bool}
theorem MH{rd:a_}{s:Nat}{r:RV}{v:V}{u:k_}(hp:aK S f vs r)(h:land aj rd s (r.gJ (S.lone s))=some (v,u)):gP S al (.pc f vs rd s) d os Q ak aj↔al.fP (rd++u.map (·.1))=true/\RN S al os Q (put ak d v) (app u aj):=by
 constructor
 .rintro ⟨y,hy,h2⟩
  have:=hy.zZ hp;subst this;rw[h] at h2;exact h2
 intro hK;refine⟨_,hp,?_⟩;rw[h];exact hK
theorem Mf{rd:a_}{s:Nat}{r:RV}{v:V}{u:k_}(hp:aK S f vs r)(h:land aj rd s (r.gJ (S.lone s))=some (v,u)):dP S al (.pc f vs rd s) d all os Q ak aj tr↔al.fP (rd++u.map (·.1))=true/\RD S al all os Q (put ak d v) (app u aj) (tr++[⟨rd++u.map (·.1),u.map (·.1),[]⟩]):=by
 constructor
 .rintro ⟨y,hy,h2⟩
  have:=hy.zZ hp;subst this;rw[h] at h2;exact h2
 intro hK;refine⟨_,hp,?_⟩;rw[h];exact hK
theorem afA{s:Nat}(b:Bool):land aj [] s ((RV.one (.p x)).gJ b)=some (.one (.p x),[]):=by cases b<;>rfl
theorem GY{s:Nat}(h:aK S f vs (.one (.p x))):gP S al (.pc f vs [] s) d os Q ak aj↔RN S al os Q (put ak d (.one (.p x))) aj:=by rw[MH h (afA _)];exact⟨fun h=>h.2,fun h=>⟨rfl,h⟩⟩
theorem Ps{s:Nat}(h:aK S f vs (.one (.p x))):dP S al (.pc f vs [] s) d all os Q ak aj tr↔RD S al all os Q (put ak d (.one (.p x))) aj (tr++[⟨[],[],[]⟩]):=by rw[Mf h (afA _)];exact⟨fun h=>h.2,fun h=>⟨rfl,h⟩⟩
end
section
variable {S:Sys} {al:Al} {Q:dO} {ak:Env} {aj:aB} {os all:h_} {tr:i_} {d:w_} {op:oQ} {w:Option Bool} {a b:aN} {v:V} {p:fH}
end
theorem grown.F3{c:C}{aj:aB}(h:grown site ty z es (.one c) aj):∃r,(∀B:aB,B site=aj site->Go.Abs.snap B Go.Abs.fE c=some (.sl es,r))/\(r=[]\/r=[site]):=by
 rcases h with ⟨h1,h2⟩|⟨h1,g,h2,h3⟩
 .cases h2;exact⟨[],fun B _=>by rw[h1];rfl,.inl rfl⟩
 cases h2;refine⟨[site],fun B hB=>?_,.inr rfl⟩;rw[<- hB] at h3;simp[Go.Abs.fE,Go.Abs.snap,h3]
end
end Go.Abs
namespace Go.Abs
open Go
section
variable {S:Sys} {al:Al} {Q:dO} {os all:h_} {d:w_} {ak:Env} {aj:aB} {tr:i_}
end
theorem anK{ty z:Nat}{es:s_}(h:es≠[]):aU ty z es=.own ty z es:=ay h
end Go.Abs
namespace Go.Abs
theorem fm1{p:Nat->Prop}:(∀k∈([]:a_),p k)↔True:=by simp
theorem fm2{a:Nat}{l:a_}{p:Nat->Prop}:(∀k∈a::l,p k)↔p a/\ ∀k∈l,p k:=List.forall_mem_cons
attribute [go_sem] fm1 fm2 AT bne_self_eq_false Bool.or_true Bool.or_false Bool.true_or Bool.false_or Bool.not_not jJ gQ ir ml dq jr qQ mA rI Option.getD_some Option.getD_none Option.isSome_some Option.isSome_none
attribute [go_sem ↓] Rd
attribute [go_sem high] MF Me
attribute [go_sem] Rt Rl Rb adr aa8 Ia KQ Bool.and_self Al.Gs
attribute [go_sem] bK rT uj Db HO app if_true if_false reduceIte Nat.reduceEqDiff beq_self_eq_true reduceCtorEq ge_iff_le qm Rf A6 ET Nat.reduceAdd Cj qS A8 eZ sI zi ne_eq Nat.reduceLeDiff zo Ab Cr Cp toP fill Nat.reduceMul Nat.reduceLT Sq Sp
attribute [go_sem] fU nL tJ vp room DU sH Nat.reduceSub Int.reduceLT Int.reduceAdd Int.reduceBEq Int.reduceBNe Int.reduceLE List.contains_eq_mem wV
end Go.Abs
