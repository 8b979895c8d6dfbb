/-
  Rules for a walk.
-/
import Derived.Test.YtffbakabajjgcaaGreatDoorMc
import Derived.Attr
set_option linter.all false
namespace Go.Abs
section
variable{x:PV}{vs:List V}{site ty z:Nat}{es:List (List PV)}
theorem XD(k:Nat):oQ (.one (.p (.int .i64 (k:Int))))=some k:=by simp[oQ]
theorem XC(n:Nat):oQ (.one (.p (.int .i64 (no_index (@OfNat.ofNat Int n instOfNat)))))=some (@OfNat.ofNat Nat n (instOfNatNat n)):=by show oQ (.one (.p (.int .i64 (Int.ofNat n))))=some n;simp[oQ]
theorem NO{aj:aw}{v:PV}:snap aj ik (.p v)=some (v.norm,[]):=rfl
def SU{β:Type}(x:Option (β×List Nat))(y:Option (List β×List Nat)):Option (List β×List Nat):=match x,y with
 |some (b,x),some (bs,y)=>some (b::bs,x++y)
 |_,_=>none
theorem Yt{β:Type}{b:β}{x:List Nat}{bs:List β}{y:List Nat}:SU (some (b,x)) (some (bs,y))=some (b::bs,x++y):=rfl
theorem Yn{α β:Type}{f:α->Option (β×List Nat)}:collect f []=some ([],[]):=rfl
theorem Yl{α β:Type}{f:α->Option (β×List Nat)}{a:α}{r:List α}:collect f (a::r)=SU (f a) (collect f r):=by simp only[collect,SU];cases f a<;>cases collect f r<;>rfl
theorem aeX{aj:aw}{c:C}:nG aj (.one c)=(snap aj ik c).map fun(v,r)=>(.one (.p v),r):=rfl
theorem aeW{aj:aw}{cs:List C}:nG aj (.agg cs)=(collect (snap aj ik) cs).map fun(vs,r)=>(.agg (vs.map .p),r):=rfl
theorem ae5{aj:aw}{n:Nat}{v:PV}:snap aj (n+1) (.p v)=some (v.norm,[]):=rfl
def Ra(o:Nat×Option Ob)(col:List (List C)->Option (List (List PV)×List Nat))(id g off len:Nat):Option (PV×List Nat):=match o with
 |(g',some (.arr _ _ es))=>if g'=g/\off+len<=es.length then some (.sl ((es.drop off).take len),[id]) else none
 |(g',some (.oY _ _ es))=>if g'=g/\off+len<=es.length then some (.sl ((es.drop off).take len),[id]) else none
 |(g',some (.gU _ _ es))=>if g'=g/\off+len<=es.length then
   match col ((es.drop off).take len) with
   |some (ps,r)=>some (.sl ps,id::r)
   |none=>none
  else none
 |_=>none
theorem ae4{aj:aw}{id g z off len:Nat}:snap aj ik (.hsl id g z off len)=Ra (aj id) (collect (collect (snap aj 5))) id g off len:=by unfold ik Ra;rw[snap];rfl
def Q9(o:Nat×Option Ob)(col:List C->Option (List PV×List Nat))(id g off:Nat):Option (PV×List Nat):=match o with
 |(g',some (.var cs))=>if g'=g then
   match col cs with
   |some (ps,r)=>some (.box (ps.drop off),id::r)
   |none=>none
  else none
 |(g',some (.fvar ps))=>if g'=g then some (.box (ps.drop off),[id]) else none
 |_=>none
theorem ae3{aj:aw}{id g off:Nat}:snap aj ik (.aX id g off)=Q9 (aj id) (collect (snap aj 5)) id g off:=by unfold ik Q9;rw[snap];rfl
section
variable {S:Sys} {al:Al} {ak:Env} {aj:aw} {d:Option Nat}
theorem JG{rd:List Nat}{s:Nat}{b:Bool}(hs:x.scalar=true):land aj rd s ((RV.one (.p x)).eD b)=some (.one (.p x),[]):=by
 have h1:(RV.one (.p x)).eD b=.one (.p x):=by cases b<;>rfl
 rw[h1];have:(RV.one (.p x)).alone=true:=by simp[RV.alone,iR,jq,RC.alone,hs]
 simp only[land,this,or_true,if_true];rfl
theorem akP{f:Nat}{rd:List Nat}{s:Nat}{K:Env->aw->Prop}(h:aF S f vs (.one (.p x)))(hs:x.scalar=true):IY S .all (.pc f vs rd s) d ak aj K↔K (put ak d (.one (.p x))) aj:=by
 constructor
 .rintro ⟨y,hy,h2⟩
  have:=hy.xK h;subst this;rw[JG hs] at h2;exact h2.2
 intro hK;refine⟨_,h,?_⟩;rw[JG hs];exact⟨Al.DQ _,hK⟩
theorem akQ{f:Nat}{rd:List Nat}{s:Nat}{tr:List cy}{K:Env->aw->List cy->Prop}(h:aF S f vs (.one (.p x)))(hs:x.scalar=true):Gl S .all (.pc f vs rd s) d ak aj tr K↔K (put ak d (.one (.p x))) aj (tr++[⟨rd,[],[]⟩]):=by
 constructor
 .rintro ⟨y,hy,h2⟩
  have:=hy.xK h;subst this;rw[JG hs] at h2
  simpa [app] using h2.2
 intro hK;refine⟨_,h,?_⟩;rw[JG hs];exact⟨Al.DQ _,by simpa [app] using hK⟩
theorem agC{ops:List bI}{Q:dy}:W S al (.region true ops) Q ak aj↔WO S al ops (fun ak aj es=>rF ops [] es=true/\Q .normal ak aj) ak aj []:=by
 rw[Xm];constructor
 .rintro ⟨n,e,b,es,h1,h2,h3⟩;exact⟨n,e,b,es,h1,h2 rfl,h3⟩
 rintro ⟨n,e,b,es,h1,h2,h3⟩;exact⟨n,e,b,es,h1,fun _=>h2,h3⟩
end
theorem wrap_small{n:Nat}(h:n<=9223372036854775807):IntKind.i64.wrap (n:Int)=n:=N5 h
theorem bN{n:Nat}(h:n<9223372036854775807):IntKind.i64.wrap ((n:Int)+1)=((n+1:Nat):Int):=N5 (n:=n+1) aa
section
variable {S:Sys} {al:Al} {Q:dy} {ak:Env} {aj:aw} {a b:aH} {ops os all:List bI} {tr:List cy} {d:Option Nat} {op:mU} {n:Nat}
def xu(S:Sys)(al:Al)(b:aH)(Q:dy):dy
 | .normal,ak,aj=>W S al b Q ak aj
 | .exit i,ak,aj=>Q (.exit i) ak aj
 | .ret,ak,aj=>Q .ret ak aj
theorem asP:NT (W S al b Q) Q=xu S al b Q:=by funext e ak aj;cases e<;>rfl
theorem Xg:W S al (.seq a b) Q ak aj↔W S al a (xu S al b Q) ak aj:=by rw[agI,asP]
theorem afq:xu S al b Q .normal ak aj=W S al b Q ak aj:=rfl
theorem afp{i:Nat}:xu S al b Q (.exit i) ak aj=Q (.exit i) ak aj:=rfl
theorem afr:xu S al b Q .ret ak aj=Q .ret ak aj:=rfl
def cW (S:Sys)(al:Al)(v:V)(a b:aH)(Q:dy)(ak:Env)(aj:aw):Prop:=Iv v (W S al a Q ak aj) (W S al b Q ak aj)
theorem Xe{x:aQ}:W S al (.cond x a b) Q ak aj↔cW S al (ev ak x) a b Q ak aj:=agB
theorem XY:cW S al (.one (.p (.bool true))) a b Q ak aj=W S al a Q ak aj:=by simp[cW,Iv]
theorem XX:cW S al (.one (.p (.bool false))) a b Q ak aj=W S al b Q ak aj:=by simp[cW,Iv]
def RN (S:Sys)(al:Al)(ops:List bI)(Q:dy)(ak:Env)(aj:aw):Prop:=WN S al ops (fun ak aj=>Q .normal ak aj) ak aj
def gP (S:Sys)(al:Al)(p:fq)(d:Option Nat)(os:List bI)(Q:dy)(ak:Env)(aj:aw):Prop:=IY S al p d ak aj (WN S al os fun ak aj=>Q .normal ak aj)
def gW (S:Sys)(al:Al)(w:Option Bool)(d:Option Nat)(op:mU)(os:List bI)(Q:dy)(ak:Env)(aj:aw):Prop:=Pn S al w ⟨d,op,none,0⟩ ak aj (WN S al os fun ak aj=>Q .normal ak aj)
theorem Xh:W S al (.region false ops) Q ak aj↔RN S al ops Q ak aj:=agJ
theorem Xb:RN S al [] Q ak aj↔Q .normal ak aj:=agv
theorem Xd:RN S al (⟨d,op,none,n⟩::os) Q ak aj↔gP S al (bG S.shared ak aj op) d os Q ak aj:=Xj
theorem Xa{t:Nat}{w:Bool}:RN S al (⟨d,op,some (t,w),n⟩::os) Q ak aj↔gW S al (FK (ak t) w) d op os Q ak aj:=by
 unfold RN gW;rw[Xj];have:wanted ak (some (t,w))=FK (ak t) w:=rfl;simp only[this];cases FK (ak t) w with
 |none=>rfl
 |some x=>cases x<;>rfl
theorem aai:gW S al (some true) d op os Q ak aj↔gP S al (bG S.shared ak aj op) d os Q ak aj:=Iff.rfl
theorem aah:gW S al (some false) d op os Q ak aj↔RN S al os Q (put ak d .undef) aj:=Iff.rfl
theorem LQ{v:V}{u:List eX}{r:List Nat}:gP S .all (.done v u r) d os Q ak aj↔RN S .all os Q (put ak d v) (app u aj):=by show(Al.all.fG (r++u.map (·.1))=true/\_)↔_;rw[Al.DQ];exact⟨fun h=>h.2,fun h=>⟨rfl,h⟩⟩
theorem aad{v:V}{u:List eX}{r:List Nat}:gP S al (.done v u r) d os Q ak aj↔al.fG (r++u.map (·.1))=true/\RN S al os Q (put ak d v) (app u aj):=Iff.rfl
theorem TB{f:Nat}{rd:List Nat}{s:Nat}(h:aF S f vs (.one (.p x)))(hs:x.scalar=true):gP S .all (.pc f vs rd s) d os Q ak aj↔RN S .all os Q (put ak d (.one (.p x))) aj:=akP h hs
theorem dJ{f:Nat}{rd:List Nat}{s:Nat}{k:IntKind}{x:Int}(h:aF S f vs (.one (.p (.int k x)))):gP S .all (.pc f vs rd s) d os Q ak aj↔RN S .all os Q (put ak d (.one (.p (.int k x)))) aj:=TB h rfl
theorem bh{f:Nat}{rd:List Nat}{s:Nat}{x:Bool}(h:aF S f vs (.one (.p (.bool x)))):gP S .all (.pc f vs rd s) d os Q ak aj↔RN S .all os Q (put ak d (.one (.p (.bool x)))) aj:=TB h rfl
theorem vk{f:Nat}{rd:List Nat}{s:Nat}{x:ByteArray}(h:aF S f vs (.one (.p (.str x)))):gP S .all (.pc f vs rd s) d os Q ak aj↔RN S .all os Q (put ak d (.one (.p (.str x)))) aj:=TB h rfl
theorem cU{rd:List Nat}{s:Nat}{r:RV}{v:V}{u:List eX}{f:Nat}(hp:aF S f vs r)(h:land aj rd s (r.eD (S.lone s))=some (v,u)):gP S .all (.pc f vs rd s) d os Q ak aj↔RN S .all os Q (put ak d v) (app u aj):=by
 constructor
 .rintro ⟨y,hy,h2⟩
  have:=hy.xK hp;subst this;rw[h] at h2;exact h2.2
 intro hK;refine⟨_,hp,?_⟩;rw[h];exact⟨Al.DQ _,hK⟩
def RD (S:Sys)(al:Al)(all ops:List bI)(Q:dy)(ak:Env)(aj:aw)(tr:List cy):Prop:=WO S al ops (fun ak aj es=>rF all [] es=true/\Q .normal ak aj) ak aj tr
def dP (S:Sys)(al:Al)(p:fq)(d:Option Nat)(all os:List bI)(Q:dy)(ak:Env)(aj:aw)(tr:List cy):Prop:=Gl S al p d ak aj tr (WO S al os fun ak aj es=>rF all [] es=true/\Q .normal ak aj)
def dW (S:Sys)(al:Al)(w:Option Bool)(d:Option Nat)(op:mU)(all os:List bI)(Q:dy)(ak:Env)(aj:aw)(tr:List cy):Prop:=El S al w ⟨d,op,none,0⟩ ak aj tr (WO S al os fun ak aj es=>rF all [] es=true/\Q .normal ak aj)
theorem Xf:W S al (.region true ops) Q ak aj↔RD S al ops ops Q ak aj []:=agC
theorem W8:RD S al all [] Q ak aj tr↔rF all [] tr=true/\Q .normal ak aj:=Sg
theorem W9:RD S al all (⟨d,op,none,n⟩::os) Q ak aj tr↔dP S al (bG S.shared ak aj op) d all os Q ak aj tr:=OA
theorem W7{t:Nat}{w:Bool}:RD S al all (⟨d,op,some (t,w),n⟩::os) Q ak aj tr↔dW S al (FK (ak t) w) d op all os Q ak aj tr:=by
 unfold RD dW;rw[OA];have:wanted ak (some (t,w))=FK (ak t) w:=rfl;simp only[this];cases FK (ak t) w with
 |none=>rfl
 |some x=>cases x<;>rfl
theorem YR:dW S al (some true) d op all os Q ak aj tr↔dP S al (bG S.shared ak aj op) d all os Q ak aj tr:=Iff.rfl
theorem YQ:dW S al (some false) d op all os Q ak aj tr↔RD S al all os Q (put ak d .undef) aj (tr++[⟨[],[],[]⟩]):=Iff.rfl
theorem Lo{v:V}{u:List eX}{r:List Nat}:dP S .all (.done v u r) d all os Q ak aj tr↔RD S .all all os Q (put ak d v) (app u aj) (tr++[⟨r,u.map (·.1),[]⟩]):=by show(Al.all.fG (r++u.map (·.1))=true/\_)↔_;rw[Al.DQ];exact⟨fun h=>h.2,fun h=>⟨rfl,h⟩⟩
theorem YO{v:V}{u:List eX}{r:List Nat}:dP S al (.done v u r) d all os Q ak aj tr↔al.fG (r++u.map (·.1))=true/\RD S al all os Q (put ak d v) (app u aj) (tr++[⟨r,u.map (·.1),[]⟩]):=Iff.rfl
theorem S7{f:Nat}{rd:List Nat}{s:Nat}(h:aF S f vs (.one (.p x)))(hs:x.scalar=true):dP S .all (.pc f vs rd s) d all os Q ak aj tr↔RD S .all all os Q (put ak d (.one (.p x))) aj (tr++[⟨rd,[],[]⟩]):=akQ h hs
theorem gV{f:Nat}{rd:List Nat}{s:Nat}{k:IntKind}{x:Int}(h:aF S f vs (.one (.p (.int k x)))):dP S .all (.pc f vs rd s) d all os Q ak aj tr↔RD S .all all os Q (put ak d (.one (.p (.int k x)))) aj (tr++[⟨rd,[],[]⟩]):=S7 h rfl
theorem kW{f:Nat}{rd:List Nat}{s:Nat}{x:Bool}(h:aF S f vs (.one (.p (.bool x)))):dP S .all (.pc f vs rd s) d all os Q ak aj tr↔RD S .all all os Q (put ak d (.one (.p (.bool x)))) aj (tr++[⟨rd,[],[]⟩]):=S7 h rfl
theorem YP{f:Nat}{rd:List Nat}{s:Nat}{x:ByteArray}(h:aF S f vs (.one (.p (.str x)))):dP S .all (.pc f vs rd s) d all os Q ak aj tr↔RD S .all all os Q (put ak d (.one (.p (.str x)))) aj (tr++[⟨rd,[],[]⟩]):=S7 h rfl
theorem mH{rd:List Nat}{s:Nat}{r:RV}{v:V}{u:List eX}{f:Nat}(hp:aF S f vs r)(h:land aj rd s (r.eD (S.lone s))=some (v,u)):dP S .all (.pc f vs rd s) d all os Q ak aj tr↔RD S .all all os Q (put ak d v) (app u aj) (tr++[⟨rd++u.map (·.1),u.map (·.1),[]⟩]):=by
 constructor
 .rintro ⟨y,hy,h2⟩
  have:=hy.xK hp;subst this;rw[h] at h2;exact h2.2
 intro hK;refine⟨_,hp,?_⟩;rw[h];exact⟨Al.DQ _,hK⟩
def Hk(N:Nat)(I:Nat->Env->aw->Prop)(k:Nat)(Q:dy):dy:=NT (fun ak aj=>k<N/\I (k+1) ak aj) Q
theorem ac2{N k:Nat}{I:Nat->Env->aw->Prop}:Hk N I k Q .normal ak aj=(k<N/\I (k+1) ak aj):=rfl
theorem ac1{N k i:Nat}{I:Nat->Env->aw->Prop}:Hk N I k Q (.exit i) ak aj=Q (.exit i) ak aj:=rfl
theorem ac3{N k:Nat}{I:Nat->Env->aw->Prop}:Hk N I k Q .ret ak aj=Q .ret ak aj:=rfl
theorem cJ{c:aH}(I:Nat->Env->aw->Prop)(k0 N:Nat)(hk:k0<=N)(h0:I k0 ak aj)
  (round:∀k ak aj,k<=N->I k ak aj->W S al c (Hk N I k Q) ak aj):W S al (.loop c) Q ak aj:=agE I k0 N hk h0 round
def LD(R:V->aw->Prop)(aj:aw):Option (List V)->Prop
 |some vs=>R (An vs) aj
 |none=>False
theorem W1{res:List (Nat×Option (Option Nat))}{R:V->aw->Prop}:qS al res R .ret ak aj=LD R aj (oE al ak aj res):=by simp only[qS,LD];cases oE al ak aj res<;>rfl
theorem WZ{res:List (Nat×Option (Option Nat))}{R:V->aw->Prop}:qS al res R .normal ak aj=LD R aj (oE al ak aj res):=by simp only[qS,LD];cases oE al ak aj res<;>rfl
theorem Zn{R:V->aw->Prop}{vs:List V}:LD R aj (some vs)=R (An vs) aj:=rfl
end
section
variable {S:Sys} {al:Al} {Q:dy} {ak:Env} {aj:aw}
def Qm(S:Sys)(al:Al)(c:aH)(Q:dy):dy
 | .normal,ak,aj=>W S al (.loop c) Q ak aj
 | .exit i,ak,aj=>Q (.exit i) ak aj
 | .ret,ak,aj=>Q .ret ak aj
theorem acB{c:aH}:Qm S al c Q .normal ak aj=W S al (.loop c) Q ak aj:=rfl
theorem acA{c:aH}{i:Nat}:Qm S al c Q (.exit i) ak aj=Q (.exit i) ak aj:=rfl
theorem acC{c:aH}:Qm S al c Q .ret ak aj=Q .ret ak aj:=rfl
theorem kG{c:aH}(h:W S al c (Qm S al c Q) ak aj):W S al (.loop c) Q ak aj:=by
 obtain⟨n,e,ft,cn,h1,h2⟩:=h;cases e with
 |normal=>obtain⟨m,e,dp,ba,h3,h4⟩:=h2;refine⟨max n m+1,e,dp,ba,?_,h4⟩;simp only[exec] at h3 ⊢;simp only[iter];rw[Gf S aa h1];exact UJ S aa aa h3
 |exit i=>exact⟨n+1,_,_,_,by simp[exec,iter,Gf S (Nat.le_succ n) h1],h2⟩
 |ret=>exact⟨n+1,_,_,_,by simp[exec,iter,Gf S (Nat.le_succ n) h1],h2⟩
end
theorem iw.xK{S:Sys}{f:Nat}{args:List V}{al:Al}{aj:aw}{v v':V}{b b':aw}(h:iw S f args al aj v b)(h':iw S f args al aj v' b'):v=v'/\b=b':=by obtain⟨n,hn⟩:=h;obtain⟨m,hm⟩:=h';have a:=Lk S (HV n m) _ _ _ _ _ hn;have c:=Lk S (KW n m) _ _ _ _ _ hm;rw[a] at c;have:=sR c;exact⟨congrArg Prod.fst this,congrArg Prod.snd this⟩
section
variable {S:Sys} {al:Al} {Q:dy} {ak:Env} {aj:aw} {os all:List bI} {tr:List cy} {d:Option Nat}
theorem No:al.fG []=true:=rfl
theorem Nn{a:Nat}{l:List Nat}:al.fG (a::l)=(al.ok a&&al.fG l):=rfl
def Kept(K:Nat->Prop)(b b':aw):Prop:=∀id,¬K id->b' id=b id
theorem Kept.refl(K:Nat->Prop)(b:aw):Kept K b b:=fun _ _=>rfl
theorem Kept.trans{K:Nat->Prop}{a b c:aw}(h:Kept K a b)(h2:Kept K b c):Kept K a c:=fun id hk=>(h2 id hk).trans (h id hk)
theorem Kept.dj{K:Nat->Prop}{b b':aw}(h:Kept K b b'){k:Nat}(hk:K k)(x:Nat×Option Ob):Kept K b (dj b' k x):=fun id hn=>by rw[aN,ay (by rintro rfl;exact hn hk)];exact h id hn
theorem akF{f:Nat}{v:V}{ao:aw}(hh:al.holds (allow (S.ctx al) f vs aj)=true)(h:iw S f vs (allow (S.ctx al) f vs aj) aj v ao):gP S al (.sc f vs) d os Q ak aj↔RN S al os Q (put ak d v) ao:=by
 constructor
 .rintro ⟨_,v2,b2,h2,h3⟩
  obtain⟨rfl,rfl⟩:=h.xK h2;exact h3
 intro h3;exact⟨hh,v,ao,h,h3⟩
theorem aac{f:Nat}{rd:List Nat}{s:Nat}(h:aF S f vs (.one (.p x)))(hs:x.scalar=true):gP S al (.pc f vs rd s) d os Q ak aj↔al.fG (rd++[])=true/\RN S al os Q (put ak d (.one (.p x))) aj:=by
 constructor
 .rintro ⟨y,hy,h2⟩
  have:=hy.xK h;subst this;rw[JG hs] at h2;exact h2
 rintro ⟨ho,hK⟩
 refine⟨_,h,?_⟩;rw[JG hs];exact⟨ho,hK⟩
theorem LS{f:Nat}{rd:List Nat}{s:Nat}{k:IntKind}{x:Int}(h:aF S f vs (.one (.p (.int k x)))):gP S al (.pc f vs rd s) d os Q ak aj↔al.fG (rd++[])=true/\RN S al os Q (put ak d (.one (.p (.int k x)))) aj:=aac h rfl
theorem aab{f:Nat}{rd:List Nat}{s:Nat}{x:Bool}(h:aF S f vs (.one (.p (.bool x)))):gP S al (.pc f vs rd s) d os Q ak aj↔al.fG (rd++[])=true/\RN S al os Q (put ak d (.one (.p (.bool x)))) aj:=aac h rfl
theorem aj6{f:Int->List PV}(q:Int):∀(ids:List Int) (i:Nat),oZ (.int .i64 q) (ids.map fun id=>(PV.int .i64 id,f id)) i=some (if q∈ids then some (i+ids.idxOf q,f q) else none):=by
 intro ids
 induction ids with
 |nil=>intro i;rfl
 |cons a ids ih=>
  intro i;simp only[fy,oZ,sameKey,if_true];by_cases e:q=a
  .subst e;simp
  have e':(q==a)=false:=by simpa using e
  have e2:¬(a=q):=fun h=>e h.symm;simp only[e'];rw[ih];simp only[cI,e,false_or,WS,dL,e2,cond_false];by_cases h:q∈ids
  .have e3:(a==q)=false:=by simpa using e2
   simp[h,e3];omega
  simp[h]
theorem tV{f:Nat}{vs:List V}{P:V->aw->Prop}(hh:al.holds (allow (S.ctx al) f vs aj)=true)(h:∃v ao,iw S f vs (allow (S.ctx al) f vs aj) aj v ao/\P v ao)
  (hK:∀v ao,P v ao->RN S al os Q (put ak d v) ao):gP S al (.sc f vs) d os Q ak aj:=by
 obtain⟨v,ao,h1,h2⟩:=h;exact(akF hh h1).2 (hK v ao h2)
theorem zK{K6:Al}:Al.all.holds K6=true:=rfl
theorem holds_of{K6:Al}(h1:al.fG K6.ids=true)(h2:K6.fs.all al.fs.contains=true):al.holds K6=true:=by unfold Al.holds;rw[h1,h2];simp
theorem vY{f:Nat}{id:Nat}(h:(S.sites f).contains (jy id)=true):(allow (S.ctx al) f vs aj).ok id=true:=by show(false||_||(S.sites f).contains (jy id))=true;rw[h];simp
theorem u9{f:Nat}{id:Nat}(h:id∈(vs.map (iZ aj)).flatten):(allow (S.ctx al) f vs aj).ok id=true:=by
 show(false||(vs.map (iZ aj)).flatten.contains id||_)=true;have:(vs.map (iZ aj)).flatten.contains id=true:=by simpa using h
 rw[this];rfl
theorem ND{id g g0 o:Nat}{cs:List C}(h:aj id=(g0,some (.var cs))):iZ aj (.one (.aX id g o))=id::(cs.map (my aj 5)).flatten:=by show my aj 6 (.aX id g o)=_;rw[my,h]
theorem NC{n:Nat}{v:PV}:my aj n (.p v)=[]:=by cases n<;>rfl
theorem Fw{id g g0 o l sz n:Nat}(h:aj id=(g0,some (.arr ty sz es))):my aj (n+1) (.hsl id g z o l)=[id]:=by rw[my,h]
def Wc(x:Nat×Option Ob)(id g:Nat):Option (PV×List Nat):=match x with
 |(g',some (.map ag es))=>if g'=g then some (.mp ag es,[id]) else none
 |(g',some (.fmap ag es))=>if g'=g then some (.mp ag es,[id]) else none
 |_=>none
theorem ae2{n id g:Nat}:snap aj (n+1) (.jW id g)=Wc (aj id) id g:=by rw[snap];rfl
end
theorem Rd:type_of%(And.intro @Xg<|And.intro @Xh<|And.intro @Xf<|And.intro @Xk<|And.intro @Xe<|And.intro @Xd<|And.intro @Xa<|And.intro @Xb<|And.intro @W9<|And.intro @W7<|And.intro @W8<|And.intro @Xn<|And.intro @Xo<|And.intro @Xl<|And.intro @afq<|And.intro @afp<|And.intro @afr<|And.intro @XS<|And.intro @XT<|And.intro @XR<|And.intro @ac2<|And.intro @ac1<|And.intro @ac3<|And.intro @acB<|And.intro @acA @acC):=And.intro @Xg<|And.intro @Xh<|And.intro @Xf<|And.intro @Xk<|And.intro @Xe<|And.intro @Xd<|And.intro @Xa<|And.intro @Xb<|And.intro @W9<|And.intro @W7<|And.intro @W8<|And.intro @Xn<|And.intro @Xo<|And.intro @Xl<|And.intro @afq<|And.intro @afp<|And.intro @afr<|And.intro @XS<|And.intro @XT<|And.intro @XR<|And.intro @ac2<|And.intro @ac1<|And.intro @ac3<|And.intro @acB<|And.intro @acA @acC
theorem Rt:type_of%(And.intro @XY<|And.intro @XX<|And.intro @aai<|And.intro @aah<|And.intro @YR<|And.intro @YQ<|And.intro @afL<|And.intro @afM<|And.intro @Zw<|And.intro @Zu<|And.intro @Zt<|And.intro @Zv<|And.intro @aea<|And.intro @ad8<|And.intro @aN<|And.intro @abf<|And.intro @abe<|And.intro @W1<|And.intro @WZ<|And.intro @Zn<|And.intro @adB<|And.intro @norm_int<|And.intro @ac9<|And.intro @adj<|And.intro @adh<|And.intro @adi<|And.intro @Vg<|And.intro @ada<|And.intro @adg<|And.intro @ade<|And.intro @adf<|And.intro @adb<|And.intro @ae0<|And.intro @aeZ<|And.intro @aeV<|And.intro @aeY<|And.intro @bft<|And.intro @btf<|And.intro @bff<|And.intro @btt<|And.intro @XD<|And.intro @NO<|And.intro @Yt<|And.intro @Yn<|And.intro @Yl<|And.intro @aeW<|And.intro @XC<|And.intro @aeX<|And.intro @ae4<|And.intro @ae3 @ae5):=And.intro @XY<|And.intro @XX<|And.intro @aai<|And.intro @aah<|And.intro @YR<|And.intro @YQ<|And.intro @afL<|And.intro @afM<|And.intro @Zw<|And.intro @Zu<|And.intro @Zt<|And.intro @Zv<|And.intro @aea<|And.intro @ad8<|And.intro @aN<|And.intro @abf<|And.intro @abe<|And.intro @W1<|And.intro @WZ<|And.intro @Zn<|And.intro @adB<|And.intro @norm_int<|And.intro @ac9<|And.intro @adj<|And.intro @adh<|And.intro @adi<|And.intro @Vg<|And.intro @ada<|And.intro @adg<|And.intro @ade<|And.intro @adf<|And.intro @adb<|And.intro @ae0<|And.intro @aeZ<|And.intro @aeV<|And.intro @aeY<|And.intro @bft<|And.intro @btf<|And.intro @bff<|And.intro @btt<|And.intro @XD<|And.intro @NO<|And.intro @Yt<|And.intro @Yn<|And.intro @Yl<|And.intro @aeW<|And.intro @XC<|And.intro @aeX<|And.intro @ae4<|And.intro @ae3 @ae5
theorem Rl:type_of%(And.intro @List.map_nil.{0,0}<|And.intro @List.append_nil.{0}<|And.intro @List.map_cons.{0,0}<|And.intro @List.cons_append.{0}<|And.intro @List.nil_append.{0}<|And.intro @List.drop_zero.{0}<|And.intro @List.take_zero.{0}<|And.intro @List.length_cons.{0}<|And.intro @List.length_nil.{0}<|And.intro @List.take_succ_cons.{0}<|And.intro @List.drop_nil.{0}<|And.intro @List.drop_succ_cons.{0}<|And.intro @List.length_map.{0,0}<|And.intro @List.take_nil.{0}<|And.intro @List.flatten_cons.{0}<|And.intro @List.getElem?_cons_zero.{0}<|And.intro @List.getElem?_cons_succ.{0}<|And.intro @List.all_nil.{0}<|And.intro @List.all_cons.{0}<|And.intro @List.not_mem_nil.{0} @Option.map_some.{0,0}):=And.intro @List.map_nil.{0,0}<|And.intro @List.append_nil.{0}<|And.intro @List.map_cons.{0,0}<|And.intro @List.cons_append.{0}<|And.intro @List.nil_append.{0}<|And.intro @List.drop_zero.{0}<|And.intro @List.take_zero.{0}<|And.intro @List.length_cons.{0}<|And.intro @List.length_nil.{0}<|And.intro @List.take_succ_cons.{0}<|And.intro @List.drop_nil.{0}<|And.intro @List.drop_succ_cons.{0}<|And.intro @List.length_map.{0,0}<|And.intro @List.take_nil.{0}<|And.intro @List.flatten_cons.{0}<|And.intro @List.getElem?_cons_zero.{0}<|And.intro @List.getElem?_cons_succ.{0}<|And.intro @List.all_nil.{0}<|And.intro @List.all_cons.{0}<|And.intro @List.not_mem_nil.{0} @Option.map_some.{0,0}
theorem Rb:type_of%(And.intro @Bool.false_eq_true<|And.intro @Bool.not_true<|And.intro @Bool.not_false<|And.intro @Bool.and_true<|And.intro @Bool.and_false<|And.intro @Bool.true_and<|And.intro @Bool.false_and<|And.intro @true_and<|And.intro @and_true<|And.intro @true_or<|And.intro @or_true<|And.intro @false_or<|And.intro @or_false<|And.intro @decide_true<|And.intro @decide_false<|And.intro @not_true_eq_false<|And.intro @not_false_eq_true<|And.intro @and_self<|And.intro @Nat.le_refl<|And.intro @Nat.zero_add<|And.intro @Nat.mul_one<|And.intro @Nat.zero_mul<|And.intro @Nat.zero_le<|And.intro @Nat.sub_zero @Int.zero_add):=And.intro @Bool.false_eq_true<|And.intro @Bool.not_true<|And.intro @Bool.not_false<|And.intro @Bool.and_true<|And.intro @Bool.and_false<|And.intro @Bool.true_and<|And.intro @Bool.false_and<|And.intro @true_and<|And.intro @and_true<|And.intro @true_or<|And.intro @or_true<|And.intro @false_or<|And.intro @or_false<|And.intro @decide_true<|And.intro @decide_false<|And.intro @not_true_eq_false<|And.intro @not_false_eq_true<|And.intro @and_self<|And.intro @Nat.le_refl<|And.intro @Nat.zero_add<|And.intro @Nat.mul_one<|And.intro @Nat.zero_mul<|And.intro @Nat.zero_le<|And.intro @Nat.sub_zero @Int.zero_add
def grown(site ty z:Nat)(es:List (List PV))(v:V)(aj:aw):Prop:=(es=[]/\v=.one (.p .nils))\/(es≠[]/\ ∃g,v=.one (.hsl site g z 0 es.length)/\aj site=(g,some (.arr ty z es)))
def aO(ty z:Nat)(es:List (List PV)):RC:=if es=[] then .p .nils else .own ty z es
theorem grown.of_eq{v:V}{aj ao:aw}(h:grown site ty z es v aj)(hb:ao site=aj site):grown site ty z es v ao:=by
 rcases h with h|⟨h1,g,h2,h3⟩
 .exact .inl h
 exact .inr ⟨h1,g,h2,by rw[hb,h3]⟩
theorem grown.nil{aj:aw}:grown site ty z [] (.one (.p .nils)) aj:=.inl ⟨rfl,rfl⟩
theorem grown.gQ{v:V}{aj:aw}(h:grown site ty z es v aj):∃c o,v=.one c/\gQ aj c=some (aO ty z es,o,[])/\(o=[]\/o=[site]):=by
 rcases h with ⟨h1,h2⟩|⟨h1,g,h2,h3⟩
 .exact⟨.p .nils,[],h2,by simp[Go.Abs.gQ,aO,h1],.inl rfl⟩
 refine⟨_,[site],h2,?_,.inr rfl⟩;simp only[Go.Abs.gQ,h3,and_self,bJ,if_true,kE,aO,ay h1]
theorem xR{v:V}{aj:aw}(h:grown site ty z es v aj):gh aj v=some (.one (aO ty z es)):=by
 obtain⟨c,o,rfl,h2,h3⟩:=h.gQ;rcases h3 with rfl|rfl
 .simp[gh,nL,kI,kh,h2,apart,sI,pQ]
 simp[gh,nL,kI,kh,h2,apart,sI,pQ]
theorem IZ{s1 t1 z1 s2 t2 z2:Nat}{fs:List (List PV)}{v w:V}{aj:aw}(hs:s1≠s2)(h:grown s1 t1 z1 es v aj)(h':grown s2 t2 z2 fs w aj):gh aj (.tup [v,w])=some (.tup [.one (aO t1 z1 es),.one (aO t2 z2 fs)]):=by obtain⟨c,o,rfl,h2,h3⟩:=h.gQ;obtain⟨d,q,rfl,k2,k3⟩:=h'.gQ;rcases h3 with rfl|rfl<;>rcases k3 with rfl|rfl<;>simp[gh,nL,tU,kI,kh,h2,k2,apart,sI,pQ,Bp,hs]
theorem grown.elems{v:V}{aj:aw}(h:grown site ty z es v aj):∃r,ed aj v=some (es,r,[])/\(r=[]\/r=[site]):=by
 rcases h with ⟨h1,h2⟩|⟨h1,g,h2,h3⟩
 .exact⟨[],by rw[h2,h1];rfl,.inl rfl⟩
 refine⟨[site],?_,.inr rfl⟩;rw[h2];simp[ed,h3]
theorem grown.mA{v:V}{aj:aw}(h:grown site ty z es v aj):es=[]\/mA v=some z:=by
 rcases h with ⟨h1,h2⟩|⟨h1,g,h2,h3⟩
 .exact .inl h1
 exact .inr (by rw[h2];rfl)
theorem grown.eo{v:V}{aj:aw}(h:grown site ty z es v aj):Go.Abs.mA v=some z\/eo z es=true:=by
 rcases h.mA with h|h
 .exact .inr (by rw[h];rfl)
 exact .inl h
theorem grown.len{v:V}{aj:aw}(h:grown site ty z es v aj):yt v=some es.length:=by
 rcases h with ⟨h1,h2⟩|⟨h1,g,h2,h3⟩
 .rw[h1,h2];rfl
 rw[h2];rfl
theorem grown.snap{v:V}{aj:aw}(h:grown site ty z es v aj):∃r,nG aj v=some (.one (.p (.sl es)),r)/\(r=[]\/r=[site]):=by
 rcases h with ⟨h1,h2⟩|⟨h1,g,h2,h3⟩
 .exact⟨[],by rw[h2,h1];rfl,.inl rfl⟩
 refine⟨[site],?_,.inr rfl⟩;rw[h2];simp[nG,ik,Go.Abs.snap,h3]
theorem grown.V0{c:C}{aj:aw}(h:grown site ty z es (.one c) aj){n:Nat}:∃r,Go.Abs.snap aj (n+1) c=some (.sl es,r)/\(r=[]\/r=[site]):=by
 rcases h with ⟨h1,h2⟩|⟨h1,g,h2,h3⟩
 .cases h2;exact⟨[],by rw[h1];rfl,.inl rfl⟩
 refine⟨[site],?_,.inr rfl⟩;cases h2;simp[Go.Abs.snap,h3]
section
variable {S:Sys} {al:Al} {Q:dy} {ak:Env} {aj:aw} {os all:List bI} {tr:List cy} {d:Option Nat}
theorem QJ{id bytes:Nat}{xs:List (List PV)}{v x:V}{rd:List Nat}(hg:grown id ty z es v aj)(hx:ed aj x=some (xs,rd,[]))(hz:mA x=some z\/eo z xs=true)(hr:(es.length+xs.length)*bytes<=140737488355328):
  ∃v' u r,eF aj site ty z bytes v x=.done v' u r/\grown site ty z (es++xs) v' (app u aj)/\(∀i,i≠site->i≠id->app u aj i=aj i)/\(r=rd/\u.map (·.1)=[]\/r=site::rd/\u.map (·.1)=[site]\/r=site::id::rd/\u.map (·.1)=[id,site]):=by
 have qy:¬¬(mA x=some z\/eo z xs=true):=fun h=>h hz;rcases hg with ⟨rfl,rfl⟩|⟨aI,g,rfl,hC⟩
 .by_cases h0:xs=[]
  .subst h0;refine⟨.one (.p .nils),[],rd,?_,.inl ⟨rfl,rfl⟩,fun i _ _=>rfl,.inl ⟨rfl,rfl⟩⟩;simp[eF,hx,qy,s0,uD]
  have hl:¬xs.length=0:=by simpa using h0
  have qp:xs.length*bytes<=room:=by simpa [room] using hr
  refine⟨.one (.hsl site ((aj site).1+1) z 0 xs.length),[(site,((aj site).1+1,some (.arr ty z xs)))],site::rd,?_,.inr ⟨by simpa using h0,(aj site).1+1,af,?_⟩,fun i h1 _=>?_,.inr (.inl ⟨rfl,rfl⟩)⟩
  .simp only[eF,hx,ay qy,s0,uD,ay hl,aD qp];simp
  .simp[app,aN]
  simp[app,aN,h1]
 have qp:(es.length+xs.length)*bytes<=room:=by simpa [room] using hr
 refine⟨.one (.hsl site ((aj site).1+1) z 0 (es.length+xs.length)),[(id,(g,none)),(site,((aj site).1+1,some (.arr ty z (es++xs))))],site::id::rd,?_,.inr ⟨by simp[aI],(aj site).1+1,af,?_⟩,fun i h1 h2=>?_,.inr (.inr ⟨rfl,rfl⟩)⟩
 .simp only[eF,hx,ay qy,s0,uD,hC];simp[qp]
 .simp[app,aN]
 simp[app,aN,h1,h2]
theorem ni{id site ty z bytes:Nat}{es xs:List (List PV)}{v x:V}{rd:List Nat}(hg:grown id ty z es v aj)(hx:ed aj x=some (xs,rd,[]))(hz:mA x=some z\/eo z xs=true)(hr:(es.length+xs.length)*bytes<=140737488355328)
  (hK:∀(c:C) ao,grown site ty z (es++xs) (.one c) ao->(∀i,i≠site->i≠id->ao i=aj i)->RN S .all os Q (put ak d (.one c)) ao):gP S .all (eF aj site ty z bytes v x) d os Q ak aj:=by
 obtain⟨v',u,r,h1,h2,h3,_⟩:=QJ hg hx hz hr;obtain⟨c,o,rfl,_⟩:=h2.gQ;rw[h1,LQ];exact hK _ _ h2 h3
theorem mZ{id site ty z bytes:Nat}{es xs:List (List PV)}{v x:V}{rd:List Nat}(hg:grown id ty z es v aj)(hx:ed aj x=some (xs,rd,[]))(hz:mA x=some z\/eo z xs=true)(hr:(es.length+xs.length)*bytes<=140737488355328)
  (hK:∀(c:C) ao r w,grown site ty z (es++xs) (.one c) ao->(∀i,i≠site->i≠id->ao i=aj i)->(r=rd/\w=[]\/r=site::rd/\w=[site]\/r=site::id::rd/\w=[id,site])->RD S .all all os Q (put ak d (.one c)) ao (tr++[⟨r,w,[]⟩])):dP S .all (eF aj site ty z bytes v x) d all os Q ak aj tr:=by
 obtain⟨v',u,r,h1,h2,h3,h4⟩:=QJ hg hx hz hr;obtain⟨c,o,rfl,_⟩:=h2.gQ;rw[h1,Lo];exact hK _ _ _ _ h2 h3 h4
theorem wX{s:Nat}:grown s ty z es (.one (dF aj s (aO ty z es)).1) (app (dF aj s (aO ty z es)).2 aj)/\(∀i,i≠s->app (dF aj s (aO ty z es)).2 aj i=aj i)/\((dF aj s (aO ty z es)).2.map (·.1)=[]\/(dF aj s (aO ty z es)).2.map (·.1)=[s]):=by
 unfold aO;by_cases h:es=[]
 .rw[aD h];exact⟨.inl ⟨h,rfl⟩,fun i _=>rfl,.inl rfl⟩
 rw[ay h];exact⟨.inr ⟨h,(aj s).1+1,rfl,by simp[dF,app,aN]⟩,fun i hi=>by simp[dF,app,aN,hi],.inr rfl⟩
theorem xm(r:RV):r.eD false=r:=rfl
theorem vj{f:Nat}{vs:List V}{s ty z:Nat}{rd:List Nat}{es:List (List PV)}(hp:aF S f vs (.one (aO ty z es)))(eJ:S.lone s=false)(nY:rd=[]\/(RV.one (aO ty z es)).alone=true)
  (hK:∀(c:C) ao,grown s ty z es (.one c) ao->(∀i,i≠s->ao i=aj i)->RN S .all os Q (put ak d (.one c)) ao):gP S .all (.pc f vs rd s) d os Q ak aj:=by
 obtain⟨h1,h2,_⟩:=wX (aj:=aj) (s:=s) (ty:=ty) (z:=z) (es:=es);refine(cU (v:=.one (dF aj s (aO ty z es)).1) (u:=(dF aj s (aO ty z es)).2) hp ?_).2 (hK _ _ h1 h2);rw[eJ,xm];unfold land;rw[aD nY];simp[ji,iR,jq,jH,ui,oD]
theorem IW{f:Nat}{vs:List V}{s t1 z1 t2 z2:Nat}{es fs:List (List PV)}(hp:aF S f vs (.tup [.one (aO t1 z1 es),.one (aO t2 z2 fs)]))(eJ:S.lone s=false)
  (hK:∀(c e:C) ao,grown s t1 z1 es (.one c) ao->grown (s+1) t2 z2 fs (.one e) ao->(∀i,i≠s->i≠s+1->ao i=aj i)->RN S .all os Q (put ak d (.tup [.one c,.one e])) ao):gP S .all (.pc f vs [] s) d os Q ak aj:=by
 obtain⟨h1,h2,_⟩:=wX (aj:=aj) (s:=s) (ty:=t1) (z:=z1) (es:=es);have e0:∀(b b':aw) (k:Nat) (r:RC),b' k=b k->dF b k r=dF b' k r:=by
  intro b b' k r h;cases r with
  |p v=>rfl
  |own ty sz es=>simp only[dF,h]
 have e2:dF aj (s+1) (aO t2 z2 fs)=dF (app (dF aj s (aO t1 z1 es)).2 aj) (s+1) (aO t2 z2 fs):=e0 _ _ _ _ (h2 (s+1) aa);obtain⟨k1,k2,_⟩:=wX (aj:=app (dF aj s (aO t1 z1 es)).2 aj) (s:=s+1) (ty:=t2) (z:=z2) (es:=fs);rw[<- e2] at k1 k2;have TO:∀(a b:List eX) (c:aw),app (a++b) c=app b (app a c):=by
  intro a
  induction a with
  |nil=>intro b c;rfl
  |cons x a ih=>intro b c;exact ih b _
 refine(cU (v:=.tup [.one (dF aj s (aO t1 z1 es)).1,.one (dF aj (s+1) (aO t2 z2 fs)).1]) (u:=(dF aj s (aO t1 z1 es)).2++(dF aj (s+1) (aO t2 z2 fs)).2) hp ?_).2 (hK _ _ _ ?_ ?_ ?_)
 .rw[eJ,xm];unfold land;rw[aD (.inl rfl)];simp[ji,iR,qV,jq,jH,ui,uV,oD]
 .rw[TO];exact h1.of_eq (k2 s aa)
 .rw[TO];exact k1
 intro i a b;rw[TO,k2 i b,h2 i a]
end
theorem xD(h:(es.all fun e=>e.all PV.scalar)=true):(RV.one (aO ty z es)).alone=true:=by
 unfold aO;split
 .rfl
 simp[RV.alone,iR,jq,RC.alone,h]
theorem grown.ik{c:C}{aj:aw}(h:grown site ty z es (.one c) aj):∃r,Go.Abs.snap aj Go.Abs.ik c=some (.sl es,r)/\(r=[]\/r=[site]):=h.V0
def qK(aj:aw)(r:List Nat):Prop:=∀i∈r,∃g ty z es,aj i=(g,some (.arr ty z es))
theorem qK.nil{aj:aw}:qK aj []:=fun _ h=>by simp at h
theorem qK.app{aj:aw}{a b:List Nat}(h:qK aj a)(k:qK aj b):qK aj (a++b):=fun i hi=>by
 rcases dZ.1 hi with hi|hi
 .exact h i hi
 exact k i hi
theorem grown.NM{c:C}{aj:aw}(h:grown site ty z es (.one c) aj):∃r,Go.Abs.snap aj Go.Abs.ik c=some (.sl es,r)/\qK aj r/\(r=[]\/r=[site]):=by
 rcases h with ⟨h1,h2⟩|⟨h1,g,h2,h3⟩
 .cases h2;exact⟨[],by rw[h1];rfl,qK.nil,.inl rfl⟩
 refine⟨[site],?_,fun i hi=>?_,.inr rfl⟩
 .cases h2;simp[Go.Abs.snap,Go.Abs.ik,h3]
 rw[lK] at hi;subst hi;exact⟨_,_,_,_,h3⟩
theorem Ty{aj:aw}(all:List Nat):∀r:List Nat,qK aj r->∃fu,uD aj all r=some fu/\fu.map (·.1)=r:=by
 intro r
 induction r with
 |nil=>intro _;exact⟨[],rfl,rfl⟩
 |cons i r ih=>intro h;obtain⟨g,ty,z,es,hi⟩:=h i af;obtain⟨fu,h1,h2⟩:=ih fun j hj=>h j (by simp[hj]);refine⟨(i,(g,some (.oY ty z es)))::fu,?_,by simp[h2]⟩;simp[uD,xN,hi,h1]
theorem F1:∀(u:List eX) (b:aw) (i:Nat),i∉u.map (·.1)->app u b i=b i:=by
 intro u
 induction u with
 |nil=>intro b i _;rfl
 |cons x u ih=>intro b i h;simp only[fy,cI,Az] at h;show app u (dj b x.1 x.2) i=b i;rw[ih _ _ h.2,aN,ay h.1]
theorem yV:∀(a b:List eX) (c:aw),app (a++b) c=app b (app a c):=by
 intro a
 induction a with
 |nil=>intro b c;rfl
 |cons x a ih=>intro b c;exact ih b _
section
variable {S:Sys} {al:Al} {Q:dy} {ak:Env} {aj:aw} {os all:List bI} {tr:List cy} {d:Option Nat}
theorem Z9{id site ty z bytes:Nat}{es xs:List (List PV)}{v x:V}{rd fr:List Nat}(hg:grown id ty z es v aj)(hx:ed aj x=some (xs,rd,fr))(nT:qK aj fr)(hni:id∉fr)(mr:site∉fr)(hz:mA x=some z\/eo z xs=true)(hr:(es.length+xs.length)*bytes<=140737488355328)
  (hK:∀(c:C) ao,grown site ty z (es++xs) (.one c) ao->(∀i,i≠site->i≠id->i∉fr->ao i=aj i)->RN S .all os Q (put ak d (.one c)) ao):gP S .all (eF aj site ty z bytes v x) d os Q ak aj:=by
 have qy:¬¬(mA x=some z\/eo z xs=true):=fun h=>h hz;obtain⟨fu,Jb,yg⟩:=Ty fr fr nT;have Gy:s0 aj fr=some fu:=Jb;rcases hg with ⟨rfl,rfl⟩|⟨aI,g,rfl,hC⟩
 .by_cases h0:xs=[]
  .subst h0;have:eF aj site ty z bytes (.one (.p .nils)) x=.done (.one (.p .nils)) fu (rd++fr):=by simp[eF,hx,qy,Gy]
   rw[this,LQ];exact hK _ _ (.inl ⟨rfl,rfl⟩) fun i _ _ h3=>F1 _ _ _ (by rw[yg];exact h3)
  have hl:¬xs.length=0:=by simpa using h0
  have qp:xs.length*bytes<=room:=by simpa [room] using hr
  have:eF aj site ty z bytes (.one (.p .nils)) x=.done (.one (.hsl site ((aj site).1+1) z 0 xs.length)) (fu++[(site,((aj site).1+1,some (.arr ty z xs)))]) (site::rd++fr):=by simp only[eF,hx,ay qy,Gy,ay hl,aD qp]
  rw[this,LQ];refine hK _ _ (.inr ⟨by simpa using h0,(aj site).1+1,af,?_⟩) fun i h1 _ h3=>?_
  .rw[yV];simp[app,aN]
  rw[yV];have:=F1 fu aj i (by rw[yg];exact h3);simp[app,aN,h1,this]
 have qp:(es.length+xs.length)*bytes<=room:=by simpa [room] using hr
 have Jn:fr.contains id=false:=by simpa using hni
 have:eF aj site ty z bytes (.one (.hsl id g z 0 es.length)) x=.done (.one (.hsl site ((aj site).1+1) z 0 (es.length+xs.length))) (fu++[(id,(g,none)),(site,((aj site).1+1,some (.arr ty z (es++xs))))]) (site::id::rd++fr):=by simp only[eF,hx,ay qy,Gy,hC,Jn];simp[qp]
 rw[this,LQ];refine hK _ _ (.inr ⟨by simp[aI],(aj site).1+1,af,?_⟩) fun i h1 h2 h3=>?_
 .rw[yV];simp[app,aN]
 rw[yV];have:=F1 fu aj i (by rw[yg];exact h3);simp[app,aN,h1,h2,this]
theorem akC{f:Nat}{vs:List V}{s t1 z1 t2 z2:Nat}{rd:List Nat}{es fs:List (List PV)}(hp:aF S f vs (.tup [.one (aO t1 z1 es),.one (aO t2 z2 fs)]))(eJ:S.lone s=false)
  (h1:(es.all fun e=>e.all PV.scalar)=true) (h2:(fs.all fun e=>e.all PV.scalar)=true)
  (hK:∀(c e:C) ao,grown s t1 z1 es (.one c) ao->grown (s+1) t2 z2 fs (.one e) ao->(∀i,i≠s->i≠s+1->ao i=aj i)->RN S .all os Q (put ak d (.tup [.one c,.one e])) ao):gP S .all (.pc f vs rd s) d os Q ak aj:=by
 have gY:(RV.tup [.one (aO t1 z1 es),.one (aO t2 z2 fs)]).alone=true:=by have a:=xD (ty:=t1) (z:=z1) h1;have b:=xD (ty:=t2) (z:=z2) h2;simp only[RV.alone,iR,jq,oG,sP,xv] at a b;simp[RV.alone,iR,qV,jq,a,b]
 have h:gP S .all (.pc f vs [] s) d os Q ak aj:=IW hp eJ hK;obtain⟨y,hy,h3⟩:=h;refine⟨y,hy,?_⟩;have:=hy.xK hp;subst this;rw[eJ,xm] at h3 ⊢;unfold land at h3 ⊢;rw[aD (.inl rfl)] at h3;rw[aD (.inr gY)];obtain⟨_,h4⟩:=h3;exact⟨Al.DQ _,h4⟩
end
theorem Ng{a i:Nat}{l:List Nat}(hi:i∈l)(h:a∉l):i≠a:=fun e=>h (e▸hi)
section
variable {S:Sys} {al:Al} {Q:dy} {ak:Env} {aj:aw} {os all:List bI} {tr:List cy} {d:Option Nat}
theorem Df{l:List Nat}(h:∀i∈l,al.ok i=true):al.fG l=true:=ir.2 h
theorem Pl{id site ty z bytes:Nat}{es xs:List (List PV)}{v x:V}{rd:List Nat}(au:∀i∈site::id::rd,al.ok i=true)(hg:grown id ty z es v aj)(hx:ed aj x=some (xs,rd,[]))(hz:mA x=some z\/eo z xs=true)(hr:(es.length+xs.length)*bytes<=140737488355328)
  (hK:∀(c:C) ao,grown site ty z (es++xs) (.one c) ao->(∀i,i≠site->i≠id->ao i=aj i)->RN S al os Q (put ak d (.one c)) ao):gP S al (eF aj site ty z bytes v x) d os Q ak aj:=by
 obtain⟨v',u,r,h1,h2,h3,h4⟩:=QJ hg hx hz hr;obtain⟨c,o,rfl,_⟩:=h2.gQ;rw[h1,aad];refine⟨?_,hK _ _ h2 h3⟩;rcases h4 with ⟨rfl,h5⟩|⟨rfl,h5⟩|⟨rfl,h5⟩<;>rw[h5]<;>refine Df fun i hi=>au i ?_ <;>simp at hi ⊢
 .exact .inr (.inr hi)
 .rcases hi with h|h|h<;>simp[h]
 rcases hi with h|h|h|h|h<;>simp[h]
theorem F8{id site ty z bytes:Nat}{es xs:List (List PV)}{v x:V}{rd:List Nat}(au:∀i∈site::id::rd,al.ok i=true)(hg:grown id ty z es v aj)(hx:ed aj x=some (xs,rd,[]))(hz:mA x=some z\/eo z xs=true)(hr:(es.length+xs.length)*bytes<=140737488355328)
  (hK:∀(c:C) ao r w,grown site ty z (es++xs) (.one c) ao->(∀i,i≠site->i≠id->ao i=aj i)->(r=rd/\w=[]\/r=site::rd/\w=[site]\/r=site::id::rd/\w=[id,site])->RD S al all os Q (put ak d (.one c)) ao (tr++[⟨r,w,[]⟩])):dP S al (eF aj site ty z bytes v x) d all os Q ak aj tr:=by
 obtain⟨v',u,r,h1,h2,h3,h4⟩:=QJ hg hx hz hr;obtain⟨c,o,rfl,_⟩:=h2.gQ;rw[h1,YO];refine⟨?_,hK _ _ _ _ h2 h3 h4⟩;rcases h4 with ⟨rfl,h5⟩|⟨rfl,h5⟩|⟨rfl,h5⟩<;>rw[h5]<;>refine Df fun i hi=>au i ?_ <;>simp at hi ⊢
 .exact .inr (.inr hi)
 .rcases hi with h|h|h<;>simp[h]
 rcases hi with h|h|h|h|h<;>simp[h]
theorem aiS{site ty z bytes:Nat}{xs:List (List PV)}{x:V}{rd:List Nat}(au:∀i∈site::rd,al.ok i=true)(hx:ed aj x=some (xs,rd,[]))(aI:xs≠[])(hz:mA x=some z\/eo z xs=true)(hr:xs.length*bytes<=140737488355328)
  (hK:∀(c:C) ao r w,grown site ty z xs (.one c) ao->(∀i,i≠site->i≠site->ao i=aj i)->(r=rd/\w=[]\/r=site::rd/\w=[site]\/r=site::site::rd/\w=[site,site])->RD S al all os Q (put ak d (.one c)) ao (tr++[⟨r,w,[]⟩])):dP S al (eF aj site ty z bytes (.one (.p .zs)) x) d all os Q ak aj tr:=by
 have hn:xs.length≠0:=fun h=>aI (DG.1 h);have e:eF aj site ty z bytes (.one (.p .zs)) x=eF aj site ty z bytes (.one (.p .nils)) x:=by simp only[eF,hx,hn,if_false]
 rw[e];exact F8 (id:=site) (es:=[]) (fun i hi=>au i (by simpa using hi)) grown.nil hx hz (by simpa using hr) hK
theorem akB{f:Nat}{vs:List V}{s t1 z1 t2 z2:Nat}{rd:List Nat}{es fs:List (List PV)}(au:∀i∈s::(s+1)::rd,al.ok i=true)(hp:aF S f vs (.tup [.one (aO t1 z1 es),.one (aO t2 z2 fs)]))(eJ:S.lone s=false)
  (pI:(es.all fun e=>e.all PV.scalar)=true) (iV:(fs.all fun e=>e.all PV.scalar)=true)
  (hK:∀(c e:C) ao,grown s t1 z1 es (.one c) ao->grown (s+1) t2 z2 fs (.one e) ao->(∀i,i≠s->i≠s+1->ao i=aj i)->RN S al os Q (put ak d (.tup [.one c,.one e])) ao):gP S al (.pc f vs rd s) d os Q ak aj:=by
 have gY:(RV.tup [.one (aO t1 z1 es),.one (aO t2 z2 fs)]).alone=true:=by have a:=xD (ty:=t1) (z:=z1) pI;have b:=xD (ty:=t2) (z:=z2) iV;simp only[RV.alone,iR,jq,oG,sP,xv] at a b;simp[RV.alone,iR,qV,jq,a,b]
 obtain⟨h1,h2,h2u⟩:=wX (aj:=aj) (s:=s) (ty:=t1) (z:=z1) (es:=es);have e0:∀(b b':aw) (k:Nat) (r:RC),b' k=b k->dF b k r=dF b' k r:=by
  intro b b' k r h;cases r with
  |p v=>rfl
  |own ty sz es=>simp only[dF,h]
 have e2:dF aj (s+1) (aO t2 z2 fs)=dF (app (dF aj s (aO t1 z1 es)).2 aj) (s+1) (aO t2 z2 fs):=e0 _ _ _ _ (h2 (s+1) aa);obtain⟨k1,k2,k2u⟩:=wX (aj:=app (dF aj s (aO t1 z1 es)).2 aj) (s:=s+1) (ty:=t2) (z:=z2) (es:=fs);rw[<- e2] at k1 k2 k2u;refine⟨_,hp,?_⟩;rw[eJ,xm];have hl:land aj rd s (RV.tup [.one (aO t1 z1 es),.one (aO t2 z2 fs)])=some (.tup [.one (dF aj s (aO t1 z1 es)).1,.one (dF aj (s+1) (aO t2 z2 fs)).1],(dF aj s (aO t1 z1 es)).2++(dF aj (s+1) (aO t2 z2 fs)).2):=by unfold land;rw[aD (.inr gY)];simp[ji,iR,qV,jq,jH,ui,uV,oD]
 rw[hl];refine⟨Df fun i hi=>au i ?_,hK _ _ _ ?_ ?_ ?_⟩
 .simp only[rQ,dZ] at hi;rcases hi with hi|hi|hi
  .simp[hi]
  .rcases h2u with h|h<;>rw[h] at hi<;>simp at hi<;>simp[hi]
  rcases k2u with h|h<;>rw[h] at hi<;>simp at hi<;>simp[hi]
 .rw[yV];exact h1.of_eq (k2 s aa)
 .rw[yV];exact k1
 intro i a b;rw[yV,k2 i b,h2 i a]
end
theorem aR{b:aw}{a i:Nat}{x:Nat×Option Ob}(h:i≠a):dj b a x i=b i:=by rw[aN,ay h]
theorem rL{b:aw}{a:Nat}{x:Nat×Option Ob}:dj b a x a=x:=by rw[aN,aD rfl]
theorem Qq{a i:Nat}{l:List Nat}(h:i∉l)(ha:a∈l):i≠a:=fun e=>h (e▸ha)
section
variable {S:Sys} {al:Al} {Q:dy} {ak:Env} {aj:aw} {os all:List bI} {tr:List cy} {d:Option Nat}
theorem aae{f:Nat}{vs:List V}{s ty z:Nat}{es:List (List PV)}{x:PV}(hp:aF S f vs (.tup [.one (aO ty z es),.one (.p x)]))(eJ:S.lone s=false)
  (hK:∀(c:C) ao,grown s ty z es (.one c) ao->(∀i,i≠s->ao i=aj i)->RN S .all os Q (put ak d (.tup [.one c,.one (.p x)])) ao):gP S .all (.pc f vs [] s) d os Q ak aj:=by
 obtain⟨h1,h2,_⟩:=wX (aj:=aj) (s:=s) (ty:=ty) (z:=z) (es:=es);refine(cU (v:=.tup [.one (dF aj s (aO ty z es)).1,.one (.p x)]) (u:=(dF aj s (aO ty z es)).2) hp ?_).2 (hK _ _ h1 h2);rw[eJ,xm];unfold land;rw[aD (.inl rfl)];simp[ji,iR,qV,jq,jH,ui,uV,oD,dF]
theorem aiT{f:Nat}{vs:List V}{s ty z:Nat}{rd:List Nat}{es:List (List PV)}(hp:aF S f vs (.one (aO ty z es)))(eJ:S.lone s=false)(nY:rd=[]\/(RV.one (aO ty z es)).alone=true)
  (hK:∀(c:C) ao w,grown s ty z es (.one c) ao->(∀i,i≠s->ao i=aj i)->(w=[]\/w=[s])->RD S .all all os Q (put ak d (.one c)) ao (tr++[⟨rd++w,w,[]⟩])):dP S .all (.pc f vs rd s) d all os Q ak aj tr:=by
 obtain⟨h1,h2,h3⟩:=wX (aj:=aj) (s:=s) (ty:=ty) (z:=z) (es:=es);refine(mH (v:=.one (dF aj s (aO ty z es)).1) (u:=(dF aj s (aO ty z es)).2) hp ?_).2 (hK _ _ _ h1 h2 h3);rw[eJ,xm];unfold land;rw[aD nY];simp[ji,iR,jq,jH,ui,oD]
theorem aiV{f:Nat}{vs:List V}{s ty z:Nat}{es:List (List PV)}{x:PV}(hp:aF S f vs (.tup [.one (aO ty z es),.one (.p x)]))(eJ:S.lone s=false)
  (hK:∀(c:C) ao w,grown s ty z es (.one c) ao->(∀i,i≠s->ao i=aj i)->(w=[]\/w=[s])->RD S .all all os Q (put ak d (.tup [.one c,.one (.p x)])) ao (tr++[⟨[]++w,w,[]⟩])):dP S .all (.pc f vs [] s) d all os Q ak aj tr:=by
 obtain⟨h1,h2,h3⟩:=wX (aj:=aj) (s:=s) (ty:=ty) (z:=z) (es:=es);refine(mH (v:=.tup [.one (dF aj s (aO ty z es)).1,.one (.p x)]) (u:=(dF aj s (aO ty z es)).2) hp ?_).2 (hK _ _ _ h1 h2 h3);rw[eJ,xm];unfold land;rw[aD (.inl rfl)];simp[ji,iR,qV,jq,jH,ui,uV,oD,dF]
theorem LR{f:Nat}{vs:List V}{s ty z:Nat}{rd:List Nat}{es:List (List PV)}{x:PV}(hp:aF S f vs (.agg [.p x,aO ty z es]))(eJ:S.lone s=false)(hx:x.scalar=true)(hs:(es.all fun e=>e.all PV.scalar)=true)
  (hK:∀(c:C) ao,grown (s+1) ty z es (.one c) ao->(∀i,i≠s+1->ao i=aj i)->RN S .all os Q (put ak d (.agg [.p x,c])) ao):gP S .all (.pc f vs rd s) d os Q ak aj:=by
 obtain⟨h1,h2,_⟩:=wX (aj:=aj) (s:=s+1) (ty:=ty) (z:=z) (es:=es);have gY:(RV.agg [.p x,aO ty z es]).alone=true:=by have a:=xD (ty:=ty) (z:=z) hs;simp only[RV.alone,iR,jq,oG,sP,xv] at a;simp only[RV.alone,iR,jq,oG,sP,xv,a];exact hx
 refine(cU (v:=.agg [.p x,(dF aj (s+1) (aO ty z es)).1]) (u:=(dF aj (s+1) (aO ty z es)).2) hp ?_).2 (hK _ _ h1 h2);rw[eJ,xm];unfold land;rw[aD (.inr gY)];simp[ji,iR,jq,jH,ui,oD,dF]
theorem aaf{f:Nat}{vs:List V}{s ty z:Nat}{es:List (List PV)}{x y:PV}(hp:aF S f vs (.tup [.agg [.p x,aO ty z es],.one (.p y)]))(eJ:S.lone s=false)
  (hK:∀(c:C) ao,grown (s+1) ty z es (.one c) ao->(∀i,i≠s+1->ao i=aj i)->RN S .all os Q (put ak d (.tup [.agg [.p x,c],.one (.p y)])) ao):gP S .all (.pc f vs [] s) d os Q ak aj:=by
 obtain⟨h1,h2,_⟩:=wX (aj:=aj) (s:=s+1) (ty:=ty) (z:=z) (es:=es);refine(cU (v:=.tup [.agg [.p x,(dF aj (s+1) (aO ty z es)).1],.one (.p y)]) (u:=(dF aj (s+1) (aO ty z es)).2) hp ?_).2 (hK _ _ h1 h2);rw[eJ,xm];unfold land;rw[aD (.inl rfl)];simp[ji,iR,qV,jq,jH,ui,uV,oD,dF]
end
theorem aaq{s1 t1 z1:Nat}{c:C}{y:PV}{aj:aw}(h:grown s1 t1 z1 es (.one c) aj):gh aj (.tup [.agg [.p x,c],.one (.p y)])=some (.tup [.agg [.p x,aO t1 z1 es],.one (.p y)]):=by obtain⟨c',o,hc,h2,h3⟩:=h.gQ;cases hc;have e1:gQ aj (.p x)=some (.p x,[],[]):=rfl;have e2:gQ aj (.p y)=some (.p y,[],[]):=rfl;rcases h3 with rfl|rfl<;>simp[gh,nL,tU,kI,kh,h2,e1,e2,apart,sI,pQ,Bp]
section
variable {S:Sys} {al:Al} {Q:dy} {ak:Env} {aj:aw} {os all:List bI} {tr:List cy} {d:Option Nat} {op:mU} {w:Option Bool} {a b:aH} {v:V}
theorem mj(L:List Nat)(h:∀e:Env,(∀k∈L,e k=ak k)->gW S al w d op os Q e aj):gW S al w d op os Q ak aj:=h ak fun _ _=>rfl
theorem ID(L:List Nat)(h:∀e:Env,(∀k∈L,e k=ak k)->dW S al w d op all os Q e aj tr):dW S al w d op all os Q ak aj tr:=h ak fun _ _=>rfl
end
section
variable {S:Sys} {al:Al} {Q:dy} {ak:Env} {aj:aw} {os all:List bI} {tr:List cy} {d:Option Nat}
theorem YN{id site ty z bytes:Nat}{es xs:List (List PV)}{v x:V}{rd fr:List Nat}(hg:grown id ty z es v aj)(hx:ed aj x=some (xs,rd,fr))(nT:qK aj fr)(hni:id∉fr)(mr:site∉fr)(hz:mA x=some z\/eo z xs=true)(hr:(es.length+xs.length)*bytes<=140737488355328)
  (hK:∀(c:C) ao r w,grown site ty z (es++xs) (.one c) ao->(∀i,i≠site->i≠id->i∉fr->ao i=aj i)->(r=rd++fr/\w=fr\/r=site::rd++fr/\w=fr++[site]\/r=site::id::rd++fr/\w=fr++[id,site])->RD S .all all os Q (put ak d (.one c)) ao (tr++[⟨r,w,[]⟩])):dP S .all (eF aj site ty z bytes v x) d all os Q ak aj tr:=by
 have qy:¬¬(mA x=some z\/eo z xs=true):=fun h=>h hz;obtain⟨fu,Jb,yg⟩:=Ty fr fr nT;have Gy:s0 aj fr=some fu:=Jb;rcases hg with ⟨rfl,rfl⟩|⟨aI,g,rfl,hC⟩
 .by_cases h0:xs=[]
  .subst h0;have:eF aj site ty z bytes (.one (.p .nils)) x=.done (.one (.p .nils)) fu (rd++fr):=by simp[eF,hx,qy,Gy]
   rw[this,Lo];exact hK _ _ _ _ (.inl ⟨rfl,rfl⟩) (fun i _ _ h3=>F1 _ _ _ (by rw[yg];exact h3)) (.inl ⟨rfl,yg⟩)
  have hl:¬xs.length=0:=by simpa using h0
  have qp:xs.length*bytes<=room:=by simpa [room] using hr
  have:eF aj site ty z bytes (.one (.p .nils)) x=.done (.one (.hsl site ((aj site).1+1) z 0 xs.length)) (fu++[(site,((aj site).1+1,some (.arr ty z xs)))]) (site::rd++fr):=by simp only[eF,hx,ay qy,Gy,ay hl,aD qp]
  rw[this,Lo];refine hK _ _ _ _ (.inr ⟨by simpa using h0,(aj site).1+1,af,?_⟩) (fun i h1 _ h3=>?_) (.inr (.inl ⟨rfl,by simp[yg]⟩))
  .rw[yV];simp[app,aN]
  rw[yV];have:=F1 fu aj i (by rw[yg];exact h3);simp[app,aN,h1,this]
 have qp:(es.length+xs.length)*bytes<=room:=by simpa [room] using hr
 have Jn:fr.contains id=false:=by simpa using hni
 have:eF aj site ty z bytes (.one (.hsl id g z 0 es.length)) x=.done (.one (.hsl site ((aj site).1+1) z 0 (es.length+xs.length))) (fu++[(id,(g,none)),(site,((aj site).1+1,some (.arr ty z (es++xs))))]) (site::id::rd++fr):=by simp only[eF,hx,ay qy,Gy,hC,Jn];simp[qp]
 rw[this,Lo];refine hK _ _ _ _ (.inr ⟨by simp[aI],(aj site).1+1,af,?_⟩) (fun i h1 h2 h3=>?_) (.inr (.inr ⟨rfl,by simp[yg]⟩))
 .rw[yV];simp[app,aN]
 rw[yV];have:=F1 fu aj i (by rw[yg];exact h3);simp[app,aN,h1,h2,this]
end
section
variable {S:Sys} {al:Al} {Q:dy} {ak:Env} {aj:aw} {os all:List bI} {tr:List cy} {d:Option Nat} {op:mU} {a b:aH} {e w:Bool}
theorem qW(h1:e=true->gW S al (some (true==w)) d op os Q ak aj)(h2:e=false->gW S al (some (false==w)) d op os Q ak aj):gW S al (some (e==w)) d op os Q ak aj:=by
 cases e
 .exact h2 rfl
 exact h1 rfl
theorem qX(h1:e=true->gW S al (some (false==w)) d op os Q ak aj)(h2:e=false->gW S al (some (true==w)) d op os Q ak aj):gW S al (some ((!e)==w)) d op os Q ak aj:=by
 cases e
 .exact h2 rfl
 exact h1 rfl
theorem qP(h1:e=true->dW S al (some (true==w)) d op all os Q ak aj tr)(h2:e=false->dW S al (some (false==w)) d op all os Q ak aj tr):dW S al (some (e==w)) d op all os Q ak aj tr:=by
 cases e
 .exact h2 rfl
 exact h1 rfl
theorem qQ(h1:e=true->dW S al (some (false==w)) d op all os Q ak aj tr)(h2:e=false->dW S al (some (true==w)) d op all os Q ak aj tr):dW S al (some ((!e)==w)) d op all os Q ak aj tr:=by
 cases e
 .exact h2 rfl
 exact h1 rfl
theorem qM(h1:e=true->cW S al (.one (.p (.bool true))) a b Q ak aj)(h2:e=false->cW S al (.one (.p (.bool false))) a b Q ak aj):cW S al (.one (.p (.bool e))) a b Q ak aj:=by
 cases e
 .exact h2 rfl
 exact h1 rfl
theorem qN(h1:e=true->cW S al (.one (.p (.bool false))) a b Q ak aj)(h2:e=false->cW S al (.one (.p (.bool true))) a b Q ak aj):cW S al (.one (.p (.bool (!e)))) a b Q ak aj:=by
 cases e
 .exact h2 rfl
 exact h1 rfl
theorem LU{rd:List Nat}{s:Nat}{r:RV}{v:V}{u:List eX}{f:Nat}(hp:aF S f vs r)(h:land aj rd s (r.eD (S.lone s))=some (v,u)):gP S al (.pc f vs rd s) d os Q ak aj↔al.fG (rd++u.map (·.1))=true/\RN S al os Q (put ak d v) (app u aj):=by
 constructor
 .rintro ⟨y,hy,h2⟩
  have:=hy.xK hp;subst this;rw[h] at h2;exact h2
 intro hK;refine⟨_,hp,?_⟩;rw[h];exact hK
theorem Lp{rd:List Nat}{s:Nat}{r:RV}{v:V}{u:List eX}{f:Nat}(hp:aF S f vs r)(h:land aj rd s (r.eD (S.lone s))=some (v,u)):dP S al (.pc f vs rd s) d all os Q ak aj tr↔al.fG (rd++u.map (·.1))=true/\RD S al all os Q (put ak d v) (app u aj) (tr++[⟨rd++u.map (·.1),u.map (·.1),[]⟩]):=by
 constructor
 .rintro ⟨y,hy,h2⟩
  have:=hy.xK hp;subst this;rw[h] at h2;exact h2
 intro hK;refine⟨_,hp,?_⟩;rw[h];exact hK
theorem acj{s:Nat}(b:Bool):land aj [] s ((RV.one (.p x)).eD b)=some (.one (.p x),[]):=by cases b<;>rfl
theorem Ei{f:Nat}{s:Nat}(h:aF S f vs (.one (.p x))):gP S al (.pc f vs [] s) d os Q ak aj↔RN S al os Q (put ak d (.one (.p x))) aj:=by rw[LU h (acj _)];exact⟨fun h=>h.2,fun h=>⟨rfl,h⟩⟩
theorem OX{f:Nat}{s:Nat}(h:aF S f vs (.one (.p x))):dP S al (.pc f vs [] s) d all os Q ak aj tr↔RD S al all os Q (put ak d (.one (.p x))) aj (tr++[⟨[],[],[]⟩]):=by rw[Lp h (acj _)];exact⟨fun h=>h.2,fun h=>⟨rfl,h⟩⟩
end
section
variable {S:Sys} {al:Al} {Q:dy} {ak:Env} {aj:aw} {os all:List bI} {tr:List cy} {d:Option Nat} {op:mU} {w:Option Bool} {a b:aH} {v:V} {p:fq}
end
theorem grown.Aj{c:C}{aj:aw}(h:grown site ty z es (.one c) aj):∃r,(∀B:aw,B site=aj site->Go.Abs.snap B Go.Abs.ik c=some (.sl es,r))/\(r=[]\/r=[site]):=by
 rcases h with ⟨h1,h2⟩|⟨h1,g,h2,h3⟩
 .cases h2;exact⟨[],fun B _=>by rw[h1];rfl,.inl rfl⟩
 cases h2;refine⟨[site],fun B hB=>?_,.inr rfl⟩;rw[<- hB] at h3;simp[Go.Abs.ik,Go.Abs.snap,h3]
end
end Go.Abs
namespace Go.Abs
open Go
theorem am3{aj:aw}{rd:List Nat}{s:Nat}{r:RV}(h:rd=[]\/r.alone=true):land aj rd s r=some (ji aj s r):=by unfold land;rw[aD h]
section
variable {S:Sys} {al:Al} {Q:dy} {os all:List bI} {d:Option Nat} {ak:Env} {aj:aw} {tr:List cy}
theorem AW{rd:List Nat}{s:Nat}{r:RV}{f:Nat}{vs:List V}(hp:aF S f vs r)(lo:S.lone s=false)(h:rd=[]\/r.alone=true):gP S al (.pc f vs rd s) d os Q ak aj↔al.fG (rd++(ji aj s r).2.map (·.1))=true/\RN S al os Q (put ak d (ji aj s r).1) (app (ji aj s r).2 aj):=LU hp (by rw[lo,xm];exact am3 h)
end
theorem xQ{ty z:Nat}{es:List (List PV)}(h:es≠[]):aO ty z es=.own ty z es:=ay h
end Go.Abs
namespace Go.Abs
theorem fm1{p:Nat->Prop}:(∀k∈([]:List Nat),p k)↔True:=by simp
theorem fm2{a:Nat}{l:List Nat}{p:Nat->Prop}:(∀k∈a::l,p k)↔p a/\ ∀k∈l,p k:=List.forall_mem_cons
attribute [go_sem] fm1 fm2 vG bne_self_eq_false Bool.or_true Bool.or_false Bool.true_or Bool.false_or Bool.not_not ji iR jq qV dF jH ui oD uV Option.getD_some Option.getD_none Option.isSome_some Option.isSome_none
attribute [go_sem ↓] Rd
attribute [go_sem high] LQ Lo
attribute [go_sem] Rt Rl Rb aad YO No Nn Bool.and_self Al.DQ
attribute [go_sem] bG qL tK Cb G9 app if_true if_false reduceIte Nat.reduceEqDiff beq_self_eq_true reduceCtorEq ge_iff_le oE Qs An Eg Nat.reduceAdd Bn pS Ap eV rU yt ne_eq Nat.reduceLeDiff yA zh Am Bx toP fill Nat.reduceMul Nat.reduceLT Ra Q9
attribute [go_sem] ed mA s0 uD room Dj rT Nat.reduceSub Int.reduceLT Int.reduceAdd Int.reduceBEq Int.reduceBNe Int.reduceLE List.contains_eq_mem vI
end Go.Abs
