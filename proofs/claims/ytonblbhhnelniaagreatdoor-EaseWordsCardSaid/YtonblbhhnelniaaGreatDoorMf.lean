/-
  Rules for a walk.
-/
import Derived.Test.YtonblbhhnelniaaGreatDoorMc
import Derived.Attr
set_option linter.all false
namespace Go.Abs
section
variable{x:PV}{f site ty z:Nat}{vs:List V}{es:List (List PV)}
theorem Yi(k:Nat):oN (.one (.p (.int .i64 (k:Int))))=some k:=by simp[oN]
theorem Yh(n:Nat):oN (.one (.p (.int .i64 (no_index (@OfNat.ofNat Int n instOfNat)))))=some (@OfNat.ofNat Nat n (instOfNatNat n)):=by show oN (.one (.p (.int .i64 (Int.ofNat n))))=some n;simp[oN]
theorem Q0{aj:aq}{v:PV}:snap aj eL (.p v)=some (v.norm,[]):=rfl
def SD{β:Type}(x:Option (β×List Nat))(y:Option (List β×List Nat)):Option (List β×List Nat):=match x,y with
 |some (b,x),some (bs,y)=>some (b::bs,x++y)
 |_,_=>none
theorem Zk{β:Type}{b:β}{x:List Nat}{bs:List β}{y:List Nat}:SD (some (b,x)) (some (bs,y))=some (b::bs,x++y):=rfl
theorem Zd{α β:Type}{f:α->Option (β×List Nat)}:collect f []=some ([],[]):=rfl
theorem Zb{α β:Type}{f:α->Option (β×List Nat)}{a:α}{r:List α}:collect f (a::r)=SD (f a) (collect f r):=by simp only[collect,SD];cases f a<;>cases collect f r<;>rfl
theorem agt{aj:aq}{c:C}:nA aj (.one c)=(snap aj eL c).map fun(v,r)=>(.one (.p v),r):=rfl
theorem ags{aj:aq}{cs:List C}:nA aj (.agg cs)=(collect (snap aj eL) cs).map fun(vs,r)=>(.agg (vs.map .p),r):=rfl
theorem agB{aj:aq}{n:Nat}{v:PV}:snap aj (n+1) (.p v)=some (v.norm,[]):=rfl
def QZ(o:Nat×Option Ob)(col:List (List C)->Option (List (List PV)×List Nat))(id g off len:Nat):Option (PV×List Nat):=match o with
 |(g',some (.arr _ _ es))=>if g'=g/\off+len<=es.length then some (.sl ((es.drop off).take len),[id]) else none
 |(g',some (.oR _ _ es))=>if g'=g/\off+len<=es.length then some (.sl ((es.drop off).take len),[id]) else none
 |(g',some (.iQ _ _ es))=>if g'=g/\off+len<=es.length then
   match col ((es.drop off).take len) with
   |some (ps,r)=>some (.sl ps,id::r)
   |none=>none
  else none
 |_=>none
theorem agA{aj:aq}{id g z off len:Nat}:snap aj eL (.hsl id g z off len)=QZ (aj id) (collect (collect (snap aj 5))) id g off len:=by unfold eL QZ;rw[snap];rfl
def QY(o:Nat×Option Ob)(col:List C->Option (List PV×List Nat))(id g off:Nat):Option (PV×List Nat):=match o with
 |(g',some (.var cs))=>if g'=g then
   match col cs with
   |some (ps,r)=>some (.box (ps.drop off),id::r)
   |none=>none
  else none
 |(g',some (.fvar ps))=>if g'=g then some (.box (ps.drop off),[id]) else none
 |_=>none
theorem agz{aj:aq}{id g off:Nat}:snap aj eL (.bk id g off)=QY (aj id) (collect (snap aj 5)) id g off:=by unfold eL QY;rw[snap];rfl
section
variable {S:Sys} {al:Al} {ak:Env} {aj:aq} {d:Option Nat}
theorem Jd{rd:List Nat}{s:Nat}{b:Bool}(hs:x.scalar=true):land aj rd s ((RV.one (.p x)).ig b)=some (.one (.p x),[]):=by
 have h1:(RV.one (.p x)).ig b=.one (.p x):=by cases b<;>rfl
 rw[h1];have:(RV.one (.p x)).alone=true:=by simp[RV.alone,gk,gI,RC.alone,hs]
 simp only[land,this,or_true,if_true];rfl
theorem amb{rd:List Nat}{s:Nat}{K:Env->aq->Prop}(h:aI S f vs (.one (.p x)))(hs:x.scalar=true):Is S .all (.pc f vs rd s) d ak aj K↔K (put ak d (.one (.p x))) aj:=by
 constructor
 .rintro ⟨y,hy,h2⟩
  have:=hy.Ag h;subst this;rw[Jd hs] at h2;exact h2.2
 intro hK;refine⟨_,h,?_⟩;rw[Jd hs];exact⟨Al.Fv _,hK⟩
theorem amc{rd:List Nat}{s:Nat}{tr:List bR}{K:Env->aq->List bR->Prop}(h:aI S f vs (.one (.p x)))(hs:x.scalar=true):FZ S .all (.pc f vs rd s) d ak aj tr K↔K (put ak d (.one (.p x))) aj (tr++[⟨rd,[],[]⟩]):=by
 constructor
 .rintro ⟨y,hy,h2⟩
  have:=hy.Ag h;subst this;rw[Jd hs] at h2
  simpa [app] using h2.2
 intro hK;refine⟨_,h,?_⟩;rw[Jd hs];exact⟨Al.Fv _,by simpa [app] using hK⟩
theorem ahR{ops:List bl}{Q:dy}:W S al (.region true ops) Q ak aj↔WO S al ops (fun ak aj es=>tX ops [] es=true/\Q .normal ak aj) ak aj []:=by
 rw[X1];constructor
 .rintro ⟨n,e,b,es,h1,h2,h3⟩;exact⟨n,e,b,es,h1,h2 rfl,h3⟩
 rintro ⟨n,e,b,es,h1,h2,h3⟩;exact⟨n,e,b,es,h1,fun _=>h2,h3⟩
end
theorem wrap_small{n:Nat}(h:n<=9223372036854775807):IntKind.i64.wrap (n:Int)=n:=NP h
theorem cK{n:Nat}(h:n<9223372036854775807):IntKind.i64.wrap ((n:Int)+1)=((n+1:Nat):Int):=NP (n:=n+1) aa
section
variable {S:Sys} {al:Al} {Q:dy} {ak:Env} {aj:aq} {a b:aJ} {ops os all:List bl} {tr:List bR} {d:Option Nat} {op:mT} {n:Nat}
def zU(S:Sys)(al:Al)(b:aJ)(Q:dy):dy
 | .normal,ak,aj=>W S al b Q ak aj
 | .exit i,ak,aj=>Q (.exit i) ak aj
 | .ret,ak,aj=>Q .ret ak aj
theorem atX:JY (W S al b Q) Q=zU S al b Q:=by funext e ak aj;cases e<;>rfl
theorem XT:W S al (.seq a b) Q ak aj↔W S al a (zU S al b Q) ak aj:=by rw[ahX,atX]
theorem agY:zU S al b Q .normal ak aj=W S al b Q ak aj:=rfl
theorem agX{i:Nat}:zU S al b Q (.exit i) ak aj=Q (.exit i) ak aj:=rfl
theorem agZ:zU S al b Q .ret ak aj=Q .ret ak aj:=rfl
def cW (S:Sys)(al:Al)(v:V)(a b:aJ)(Q:dy)(ak:Env)(aj:aq):Prop:=HQ v (W S al a Q ak aj) (W S al b Q ak aj)
theorem XR{x:aQ}:W S al (.cond x a b) Q ak aj↔cW S al (ev ak x) a b Q ak aj:=ahQ
theorem YB:cW S al (.one (.p (.bool true))) a b Q ak aj=W S al a Q ak aj:=by simp[cW,HQ]
theorem YA:cW S al (.one (.p (.bool false))) a b Q ak aj=W S al b Q ak aj:=by simp[cW,HQ]
def RN (S:Sys)(al:Al)(ops:List bl)(Q:dy)(ak:Env)(aj:aq):Prop:=WN S al ops (fun ak aj=>Q .normal ak aj) ak aj
def gP (S:Sys)(al:Al)(p:eX)(d:Option Nat)(os:List bl)(Q:dy)(ak:Env)(aj:aq):Prop:=Is S al p d ak aj (WN S al os fun ak aj=>Q .normal ak aj)
def gW (S:Sys)(al:Al)(w:Option Bool)(d:Option Nat)(op:mT)(os:List bl)(Q:dy)(ak:Env)(aj:aq):Prop:=O4 S al w ⟨d,op,none,0⟩ ak aj (WN S al os fun ak aj=>Q .normal ak aj)
theorem XU:W S al (.region false ops) Q ak aj↔RN S al ops Q ak aj:=ahY
theorem XP:RN S al [] Q ak aj↔Q .normal ak aj:=ahK
theorem XQ:RN S al (⟨d,op,none,n⟩::os) Q ak aj↔gP S al (bn S.shared ak aj op) d os Q ak aj:=XX
theorem XO{t:Nat}{w:Bool}:RN S al (⟨d,op,some (t,w),n⟩::os) Q ak aj↔gW S al (Ff (ak t) w) d op os Q ak aj:=by
 unfold RN gW;rw[XX];have:wanted ak (some (t,w))=Ff (ak t) w:=rfl;simp only[this];cases Ff (ak t) w with
 |none=>rfl
 |some x=>cases x<;>rfl
theorem abN:gW S al (some true) d op os Q ak aj↔gP S al (bn S.shared ak aj op) d os Q ak aj:=Iff.rfl
theorem abM:gW S al (some false) d op os Q ak aj↔RN S al os Q (put ak d .undef) aj:=Iff.rfl
theorem FV{v:V}{u:List eG}{r:List Nat}:gP S .all (.done v u r) d os Q ak aj↔RN S .all os Q (put ak d v) (app u aj):=by show(Al.all.ff (r++u.map (·.1))=true/\_)↔_;rw[Al.Fv];exact⟨fun h=>h.2,fun h=>⟨rfl,h⟩⟩
theorem abE{v:V}{u:List eG}{r:List Nat}:gP S al (.done v u r) d os Q ak aj↔al.ff (r++u.map (·.1))=true/\RN S al os Q (put ak d v) (app u aj):=Iff.rfl
theorem U2{rd:List Nat}{s:Nat}(h:aI S f vs (.one (.p x)))(hs:x.scalar=true):gP S .all (.pc f vs rd s) d os Q ak aj↔RN S .all os Q (put ak d (.one (.p x))) aj:=amb h hs
theorem eH{rd:List Nat}{s:Nat}{k:IntKind}{x:Int}(h:aI S f vs (.one (.p (.int k x)))):gP S .all (.pc f vs rd s) d os Q ak aj↔RN S .all os Q (put ak d (.one (.p (.int k x)))) aj:=U2 h rfl
theorem cS{rd:List Nat}{s:Nat}{x:Bool}(h:aI S f vs (.one (.p (.bool x)))):gP S .all (.pc f vs rd s) d os Q ak aj↔RN S .all os Q (put ak d (.one (.p (.bool x)))) aj:=U2 h rfl
theorem DW{rd:List Nat}{s:Nat}{x:ByteArray}(h:aI S f vs (.one (.p (.str x)))):gP S .all (.pc f vs rd s) d os Q ak aj↔RN S .all os Q (put ak d (.one (.p (.str x)))) aj:=U2 h rfl
theorem cX{rd:List Nat}{s:Nat}{r:RV}{v:V}{u:List eG}(hp:aI S f vs r)(h:land aj rd s (r.ig (S.lone s))=some (v,u)):gP S .all (.pc f vs rd s) d os Q ak aj↔RN S .all os Q (put ak d v) (app u aj):=by
 constructor
 .rintro ⟨y,hy,h2⟩
  have:=hy.Ag hp;subst this;rw[h] at h2;exact h2.2
 intro hK;refine⟨_,hp,?_⟩;rw[h];exact⟨Al.Fv _,hK⟩
def RD (S:Sys)(al:Al)(all ops:List bl)(Q:dy)(ak:Env)(aj:aq)(tr:List bR):Prop:=WO S al ops (fun ak aj es=>tX all [] es=true/\Q .normal ak aj) ak aj tr
def dP (S:Sys)(al:Al)(p:eX)(d:Option Nat)(all os:List bl)(Q:dy)(ak:Env)(aj:aq)(tr:List bR):Prop:=FZ S al p d ak aj tr (WO S al os fun ak aj es=>tX all [] es=true/\Q .normal ak aj)
def dW (S:Sys)(al:Al)(w:Option Bool)(d:Option Nat)(op:mT)(all os:List bl)(Q:dy)(ak:Env)(aj:aq)(tr:List bR):Prop:=DZ S al w ⟨d,op,none,0⟩ ak aj tr (WO S al os fun ak aj es=>tX all [] es=true/\Q .normal ak aj)
theorem XS:W S al (.region true ops) Q ak aj↔RD S al ops ops Q ak aj []:=ahR
theorem XM:RD S al all [] Q ak aj tr↔tX all [] tr=true/\Q .normal ak aj:=Rz
theorem XN:RD S al all (⟨d,op,none,n⟩::os) Q ak aj tr↔dP S al (bn S.shared ak aj op) d all os Q ak aj tr:=N7
theorem XL{t:Nat}{w:Bool}:RD S al all (⟨d,op,some (t,w),n⟩::os) Q ak aj tr↔dW S al (Ff (ak t) w) d op all os Q ak aj tr:=by
 unfold RD dW;rw[N7];have:wanted ak (some (t,w))=Ff (ak t) w:=rfl;simp only[this];cases Ff (ak t) w with
 |none=>rfl
 |some x=>cases x<;>rfl
theorem ZC:dW S al (some true) d op all os Q ak aj tr↔dP S al (bn S.shared ak aj op) d all os Q ak aj tr:=Iff.rfl
theorem ZB:dW S al (some false) d op all os Q ak aj tr↔RD S al all os Q (put ak d .undef) aj (tr++[⟨[],[],[]⟩]):=Iff.rfl
theorem HX{v:V}{u:List eG}{r:List Nat}:dP S .all (.done v u r) d all os Q ak aj tr↔RD S .all all os Q (put ak d v) (app u aj) (tr++[⟨r,u.map (·.1),[]⟩]):=by show(Al.all.ff (r++u.map (·.1))=true/\_)↔_;rw[Al.Fv];exact⟨fun h=>h.2,fun h=>⟨rfl,h⟩⟩
theorem Zz{v:V}{u:List eG}{r:List Nat}:dP S al (.done v u r) d all os Q ak aj tr↔al.ff (r++u.map (·.1))=true/\RD S al all os Q (put ak d v) (app u aj) (tr++[⟨r,u.map (·.1),[]⟩]):=Iff.rfl
theorem SS{rd:List Nat}{s:Nat}(h:aI S f vs (.one (.p x)))(hs:x.scalar=true):dP S .all (.pc f vs rd s) d all os Q ak aj tr↔RD S .all all os Q (put ak d (.one (.p x))) aj (tr++[⟨rd,[],[]⟩]):=amc h hs
theorem rI{rd:List Nat}{s:Nat}{k:IntKind}{x:Int}(h:aI S f vs (.one (.p (.int k x)))):dP S .all (.pc f vs rd s) d all os Q ak aj tr↔RD S .all all os Q (put ak d (.one (.p (.int k x)))) aj (tr++[⟨rd,[],[]⟩]):=SS h rfl
theorem tu{rd:List Nat}{s:Nat}{x:Bool}(h:aI S f vs (.one (.p (.bool x)))):dP S .all (.pc f vs rd s) d all os Q ak aj tr↔RD S .all all os Q (put ak d (.one (.p (.bool x)))) aj (tr++[⟨rd,[],[]⟩]):=SS h rfl
theorem ZA{rd:List Nat}{s:Nat}{x:ByteArray}(h:aI S f vs (.one (.p (.str x)))):dP S .all (.pc f vs rd s) d all os Q ak aj tr↔RD S .all all os Q (put ak d (.one (.p (.str x)))) aj (tr++[⟨rd,[],[]⟩]):=SS h rfl
theorem KT{rd:List Nat}{s:Nat}{r:RV}{v:V}{u:List eG}(hp:aI S f vs r)(h:land aj rd s (r.ig (S.lone s))=some (v,u)):dP S .all (.pc f vs rd s) d all os Q ak aj tr↔RD S .all all os Q (put ak d v) (app u aj) (tr++[⟨rd++u.map (·.1),u.map (·.1),[]⟩]):=by
 constructor
 .rintro ⟨y,hy,h2⟩
  have:=hy.Ag hp;subst this;rw[h] at h2;exact h2.2
 intro hK;refine⟨_,hp,?_⟩;rw[h];exact⟨Al.Fv _,hK⟩
def Jn(N:Nat)(I:Nat->Env->aq->Prop)(k:Nat)(Q:dy):dy:=JY (fun ak aj=>k<N/\I (k+1) ak aj) Q
theorem aeJ{N k:Nat}{I:Nat->Env->aq->Prop}:Jn N I k Q .normal ak aj=(k<N/\I (k+1) ak aj):=rfl
theorem aeI{N k i:Nat}{I:Nat->Env->aq->Prop}:Jn N I k Q (.exit i) ak aj=Q (.exit i) ak aj:=rfl
theorem aeK{N k:Nat}{I:Nat->Env->aq->Prop}:Jn N I k Q .ret ak aj=Q .ret ak aj:=rfl
theorem cV{c:aJ}(I:Nat->Env->aq->Prop)(k0 N:Nat)(hk:k0<=N)(h0:I k0 ak aj)
  (round:∀k ak aj,k<=N->I k ak aj->W S al c (Jn N I k Q) ak aj):W S al (.loop c) Q ak aj:=ahT I k0 N hk h0 round
def K5(R:V->aq->Prop)(aj:aq):Option (List V)->Prop
 |some vs=>R (zV vs) aj
 |none=>False
theorem XF{res:List (Nat×Option (Option Nat))}{R:V->aq->Prop}:lE al res R .ret ak aj=K5 R aj (oz al ak aj res):=by simp only[lE,K5];cases oz al ak aj res<;>rfl
theorem XE{res:List (Nat×Option (Option Nat))}{R:V->aq->Prop}:lE al res R .normal ak aj=K5 R aj (oz al ak aj res):=by simp only[lE,K5];cases oz al ak aj res<;>rfl
theorem ZV{R:V->aq->Prop}{vs:List V}:K5 R aj (some vs)=R (zV vs) aj:=rfl
end
section
variable {S:Sys} {al:Al} {Q:dy} {ak:Env} {aj:aq}
def PZ(S:Sys)(al:Al)(c:aJ)(Q:dy):dy
 | .normal,ak,aj=>W S al (.loop c) Q ak aj
 | .exit i,ak,aj=>Q (.exit i) ak aj
 | .ret,ak,aj=>Q .ret ak aj
theorem aef{c:aJ}:PZ S al c Q .normal ak aj=W S al (.loop c) Q ak aj:=rfl
theorem aee{c:aJ}{i:Nat}:PZ S al c Q (.exit i) ak aj=Q (.exit i) ak aj:=rfl
theorem aeg{c:aJ}:PZ S al c Q .ret ak aj=Q .ret ak aj:=rfl
theorem sA{c:aJ}(h:W S al c (PZ S al c Q) ak aj):W S al (.loop c) Q ak aj:=by
 obtain⟨n,e,ir,bG,h1,h2⟩:=h;cases e with
 |normal=>obtain⟨m,e,cZ,aZ,h3,h4⟩:=h2;refine⟨max n m+1,e,cZ,aZ,?_,h4⟩;simp only[exec] at h3 ⊢;simp only[iter];rw[zb S aa h1];exact PM S aa aa h3
 |exit i=>exact⟨n+1,_,_,_,by simp[exec,iter,zb S (Nat.le_succ n) h1],h2⟩
 |ret=>exact⟨n+1,_,_,_,by simp[exec,iter,zb S (Nat.le_succ n) h1],h2⟩
end
theorem iJ.Ag{S:Sys}{args:List V}{al:Al}{aj:aq}{v v':V}{b b':aq}(h:iJ S f args al aj v b)(h':iJ S f args al aj v' b'):v=v'/\b=b':=by obtain⟨n,hn⟩:=h;obtain⟨m,hm⟩:=h';have a:=KK S (Fl n m) _ _ _ _ _ hn;have c:=KK S (Hp n m) _ _ _ _ _ hm;rw[a] at c;have:=qF c;exact⟨congrArg Prod.fst this,congrArg Prod.snd this⟩
section
variable {S:Sys} {al:Al} {Q:dy} {ak:Env} {aj:aq} {os all:List bl} {tr:List bR} {d:Option Nat}
theorem GJ:al.ff []=true:=rfl
theorem Jv{a:Nat}{l:List Nat}:al.ff (a::l)=(al.ok a&&al.ff l):=rfl
def Kept(K:Nat->Prop)(b b':aq):Prop:=∀id,¬K id->b' id=b id
theorem Kept.refl(K:Nat->Prop)(b:aq):Kept K b b:=fun _ _=>rfl
theorem Kept.trans{K:Nat->Prop}{a b c:aq}(h:Kept K a b)(h2:Kept K b c):Kept K a c:=fun id hk=>(h2 id hk).trans (h id hk)
theorem Kept.dB{K:Nat->Prop}{b b':aq}(h:Kept K b b'){k:Nat}(hk:K k)(x:Nat×Option Ob):Kept K b (dB b' k x):=fun id hn=>by rw[aM,if_neg (by rintro rfl;exact hn hk)];exact h id hn
theorem al1{v:V}{ao:aq}(hh:al.holds (allow (S.ctx al) f vs aj)=true)(h:iJ S f vs (allow (S.ctx al) f vs aj) aj v ao):gP S al (.sc f vs) d os Q ak aj↔RN S al os Q (put ak d v) ao:=by
 constructor
 .rintro ⟨_,v2,b2,h2,h3⟩
  obtain⟨rfl,rfl⟩:=h.Ag h2;exact h3
 intro h3;exact⟨hh,v,ao,h,h3⟩
theorem abD{rd:List Nat}{s:Nat}(h:aI S f vs (.one (.p x)))(hs:x.scalar=true):gP S al (.pc f vs rd s) d os Q ak aj↔al.ff (rd++[])=true/\RN S al os Q (put ak d (.one (.p x))) aj:=by
 constructor
 .rintro ⟨y,hy,h2⟩
  have:=hy.Ag h;subst this;rw[Jd hs] at h2;exact h2
 rintro ⟨ho,hK⟩
 refine⟨_,h,?_⟩;rw[Jd hs];exact⟨ho,hK⟩
theorem FW{rd:List Nat}{s:Nat}{k:IntKind}{x:Int}(h:aI S f vs (.one (.p (.int k x)))):gP S al (.pc f vs rd s) d os Q ak aj↔al.ff (rd++[])=true/\RN S al os Q (put ak d (.one (.p (.int k x)))) aj:=abD h rfl
theorem abC{rd:List Nat}{s:Nat}{x:Bool}(h:aI S f vs (.one (.p (.bool x)))):gP S al (.pc f vs rd s) d os Q ak aj↔al.ff (rd++[])=true/\RN S al os Q (put ak d (.one (.p (.bool x)))) aj:=abD h rfl
theorem alm{f:Int->List PV}(q:Int):∀(ids:List Int) (i:Nat),oU (.int .i64 q) (ids.map fun id=>(PV.int .i64 id,f id)) i=some (if q∈ids then some (i+ids.idxOf q,f q) else none):=by
 intro ids
 induction ids with
 |nil=>intro i;rfl
 |cons a ids ih=>
  intro i;simp only[dG,oU,sameKey,if_true];by_cases e:q=a
  .subst e;simp
  have e':(q==a)=false:=by simpa using e
  have e2:¬(a=q):=fun h=>e h.symm;simp only[e'];rw[ih];simp only[cM,e,false_or,List.idxOf_cons,beq_iff_eq,e2,cond_false];by_cases h:q∈ids
  .have e3:(a==q)=false:=by simpa using e2
   simp[h,e3];omega
  simp[h]
theorem rM{f:Nat}{vs:List V}{P:V->aq->Prop}(hh:al.holds (allow (S.ctx al) f vs aj)=true)(h:∃v ao,iJ S f vs (allow (S.ctx al) f vs aj) aj v ao/\P v ao)
  (hK:∀v ao,P v ao->RN S al os Q (put ak d v) ao):gP S al (.sc f vs) d os Q ak aj:=by
 obtain⟨v,ao,h1,h2⟩:=h;exact(al1 hh h1).2 (hK v ao h2)
theorem zH{Kw:Al}:Al.all.holds Kw=true:=rfl
theorem holds_of{Kw:Al}(h1:al.ff Kw.ids=true)(h2:Kw.fs.all al.fs.contains=true):al.holds Kw=true:=by unfold Al.holds;rw[h1,h2];simp
theorem uQ{id:Nat}(h:(S.sites f).contains (je id)=true):(allow (S.ctx al) f vs aj).ok id=true:=by show(false||_||(S.sites f).contains (je id))=true;rw[h];simp
theorem sB{id:Nat}(h:id∈(vs.map (jd aj)).flatten):(allow (S.ctx al) f vs aj).ok id=true:=by
 show(false||(vs.map (jd aj)).flatten.contains id||_)=true;have:(vs.map (jd aj)).flatten.contains id=true:=by simpa using h
 rw[this];rfl
theorem JG{id g g0 o:Nat}{cs:List C}(h:aj id=(g0,some (.var cs))):jd aj (.one (.bk id g o))=id::(cs.map (jO aj 5)).flatten:=by show jO aj 6 (.bk id g o)=_;rw[jO,h]
theorem JF{n:Nat}{v:PV}:jO aj n (.p v)=[]:=by cases n<;>rfl
theorem De{id g g0 o l sz n:Nat}(h:aj id=(g0,some (.arr ty sz es))):jO aj (n+1) (.hsl id g z o l)=[id]:=by rw[jO,h]
def W7(x:Nat×Option Ob)(id g:Nat):Option (PV×List Nat):=match x with
 |(g',some (.map ag es))=>if g'=g then some (.mp ag es,[id]) else none
 |(g',some (.fmap ag es))=>if g'=g then some (.mp ag es,[id]) else none
 |_=>none
theorem agy{n id g:Nat}:snap aj (n+1) (.jV id g)=W7 (aj id) id g:=by rw[snap];rfl
end
theorem Rd:type_of%(And.intro @XT<|And.intro @XU<|And.intro @XS<|And.intro @XY<|And.intro @XR<|And.intro @XQ<|And.intro @XO<|And.intro @XP<|And.intro @XN<|And.intro @XL<|And.intro @XM<|And.intro @X2<|And.intro @X3<|And.intro @XZ<|And.intro @agY<|And.intro @agX<|And.intro @agZ<|And.intro @Yw<|And.intro @Yx<|And.intro @Yv<|And.intro @aeJ<|And.intro @aeI<|And.intro @aeK<|And.intro @aef<|And.intro @aee @aeg):=And.intro @XT<|And.intro @XU<|And.intro @XS<|And.intro @XY<|And.intro @XR<|And.intro @XQ<|And.intro @XO<|And.intro @XP<|And.intro @XN<|And.intro @XL<|And.intro @XM<|And.intro @X2<|And.intro @X3<|And.intro @XZ<|And.intro @agY<|And.intro @agX<|And.intro @agZ<|And.intro @Yw<|And.intro @Yx<|And.intro @Yv<|And.intro @aeJ<|And.intro @aeI<|And.intro @aeK<|And.intro @aef<|And.intro @aee @aeg
theorem Rt:type_of%(And.intro @YB<|And.intro @YA<|And.intro @abN<|And.intro @abM<|And.intro @ZC<|And.intro @ZB<|And.intro @ahg<|And.intro @ahh<|And.intro @Z6<|And.intro @Z4<|And.intro @Z3<|And.intro @Z5<|And.intro @afC<|And.intro @afA<|And.intro @aM<|And.intro @acO<|And.intro @acN<|And.intro @XF<|And.intro @XE<|And.intro @ZV<|And.intro @afa<|And.intro @norm_int<|And.intro @aeN<|And.intro @aeV<|And.intro @aeT<|And.intro @aeU<|And.intro @Wq<|And.intro @aeO<|And.intro @aeS<|And.intro @aeQ<|And.intro @aeR<|And.intro @aeP<|And.intro @agw<|And.intro @agv<|And.intro @agr<|And.intro @agu<|And.intro @bft<|And.intro @btf<|And.intro @bff<|And.intro @btt<|And.intro @Yi<|And.intro @Q0<|And.intro @Zk<|And.intro @Zd<|And.intro @Zb<|And.intro @ags<|And.intro @Yh<|And.intro @agt<|And.intro @agA<|And.intro @agz @agB):=And.intro @YB<|And.intro @YA<|And.intro @abN<|And.intro @abM<|And.intro @ZC<|And.intro @ZB<|And.intro @ahg<|And.intro @ahh<|And.intro @Z6<|And.intro @Z4<|And.intro @Z3<|And.intro @Z5<|And.intro @afC<|And.intro @afA<|And.intro @aM<|And.intro @acO<|And.intro @acN<|And.intro @XF<|And.intro @XE<|And.intro @ZV<|And.intro @afa<|And.intro @norm_int<|And.intro @aeN<|And.intro @aeV<|And.intro @aeT<|And.intro @aeU<|And.intro @Wq<|And.intro @aeO<|And.intro @aeS<|And.intro @aeQ<|And.intro @aeR<|And.intro @aeP<|And.intro @agw<|And.intro @agv<|And.intro @agr<|And.intro @agu<|And.intro @bft<|And.intro @btf<|And.intro @bff<|And.intro @btt<|And.intro @Yi<|And.intro @Q0<|And.intro @Zk<|And.intro @Zd<|And.intro @Zb<|And.intro @ags<|And.intro @Yh<|And.intro @agt<|And.intro @agA<|And.intro @agz @agB
theorem Rl:type_of%(And.intro @List.map_nil.{0,0}<|And.intro @List.append_nil.{0}<|And.intro @List.map_cons.{0,0}<|And.intro @List.cons_append.{0}<|And.intro @List.nil_append.{0}<|And.intro @List.drop_zero.{0}<|And.intro @List.take_zero.{0}<|And.intro @List.length_cons.{0}<|And.intro @List.length_nil.{0}<|And.intro @List.take_succ_cons.{0}<|And.intro @List.drop_nil.{0}<|And.intro @List.drop_succ_cons.{0}<|And.intro @List.length_map.{0,0}<|And.intro @List.take_nil.{0}<|And.intro @List.flatten_cons.{0}<|And.intro @List.getElem?_cons_zero.{0}<|And.intro @List.getElem?_cons_succ.{0}<|And.intro @List.all_nil.{0}<|And.intro @List.all_cons.{0}<|And.intro @List.not_mem_nil.{0} @Option.map_some.{0,0}):=And.intro @List.map_nil.{0,0}<|And.intro @List.append_nil.{0}<|And.intro @List.map_cons.{0,0}<|And.intro @List.cons_append.{0}<|And.intro @List.nil_append.{0}<|And.intro @List.drop_zero.{0}<|And.intro @List.take_zero.{0}<|And.intro @List.length_cons.{0}<|And.intro @List.length_nil.{0}<|And.intro @List.take_succ_cons.{0}<|And.intro @List.drop_nil.{0}<|And.intro @List.drop_succ_cons.{0}<|And.intro @List.length_map.{0,0}<|And.intro @List.take_nil.{0}<|And.intro @List.flatten_cons.{0}<|And.intro @List.getElem?_cons_zero.{0}<|And.intro @List.getElem?_cons_succ.{0}<|And.intro @List.all_nil.{0}<|And.intro @List.all_cons.{0}<|And.intro @List.not_mem_nil.{0} @Option.map_some.{0,0}
theorem Rb:type_of%(And.intro @Bool.false_eq_true<|And.intro @Bool.not_true<|And.intro @Bool.not_false<|And.intro @Bool.and_true<|And.intro @Bool.and_false<|And.intro @Bool.true_and<|And.intro @Bool.false_and<|And.intro @true_and<|And.intro @and_true<|And.intro @true_or<|And.intro @or_true<|And.intro @false_or<|And.intro @or_false<|And.intro @decide_true<|And.intro @decide_false<|And.intro @not_true_eq_false<|And.intro @not_false_eq_true<|And.intro @and_self<|And.intro @Nat.le_refl<|And.intro @Nat.zero_add<|And.intro @Nat.mul_one<|And.intro @Nat.zero_mul<|And.intro @Nat.zero_le<|And.intro @Nat.sub_zero @Int.zero_add):=And.intro @Bool.false_eq_true<|And.intro @Bool.not_true<|And.intro @Bool.not_false<|And.intro @Bool.and_true<|And.intro @Bool.and_false<|And.intro @Bool.true_and<|And.intro @Bool.false_and<|And.intro @true_and<|And.intro @and_true<|And.intro @true_or<|And.intro @or_true<|And.intro @false_or<|And.intro @or_false<|And.intro @decide_true<|And.intro @decide_false<|And.intro @not_true_eq_false<|And.intro @not_false_eq_true<|And.intro @and_self<|And.intro @Nat.le_refl<|And.intro @Nat.zero_add<|And.intro @Nat.mul_one<|And.intro @Nat.zero_mul<|And.intro @Nat.zero_le<|And.intro @Nat.sub_zero @Int.zero_add
def grown(site ty z:Nat)(es:List (List PV))(v:V)(aj:aq):Prop:=(es=[]/\v=.one (.p .nils))\/(es≠[]/\ ∃g,v=.one (.hsl site g z 0 es.length)/\aj site=(g,some (.arr ty z es)))
def aR(ty z:Nat)(es:List (List PV)):RC:=if es=[] then .p .nils else .own ty z es
theorem grown.of_eq{v:V}{aj ao:aq}(h:grown site ty z es v aj)(hb:ao site=aj site):grown site ty z es v ao:=by
 rcases h with h|⟨h1,g,h2,h3⟩
 .exact .inl h
 exact .inr ⟨h1,g,h2,by rw[hb,h3]⟩
theorem grown.nil{aj:aq}:grown site ty z [] (.one (.p .nils)) aj:=.inl ⟨rfl,rfl⟩
theorem grown.jc{v:V}{aj:aq}(h:grown site ty z es v aj):∃c o,v=.one c/\jc aj c=some (aR ty z es,o,[])/\(o=[]\/o=[site]):=by
 rcases h with ⟨h1,h2⟩|⟨h1,g,h2,h3⟩
 .exact⟨.p .nils,[],h2,by simp[Go.Abs.jc,aR,h1],.inl rfl⟩
 refine⟨_,[site],h2,?_,.inr rfl⟩;simp only[Go.Abs.jc,h3,and_self,aX,if_true,jh,aR,if_neg h1]
theorem tE{v:V}{aj:aq}(h:grown site ty z es v aj):iA aj v=some (.one (aR ty z es)):=by
 obtain⟨c,o,rfl,h2,h3⟩:=h.jc;rcases h3 with rfl|rfl
 .simp[iA,rK,my,lM,h2,apart,ud,rq]
 simp[iA,rK,my,lM,h2,apart,ud,rq]
theorem O5{s1 t1 z1 s2 t2 z2:Nat}{fs:List (List PV)}{v w:V}{aj:aq}(hs:s1≠s2)(h:grown s1 t1 z1 es v aj)(h':grown s2 t2 z2 fs w aj):iA aj (.tup [v,w])=some (.tup [.one (aR t1 z1 es),.one (aR t2 z2 fs)]):=by obtain⟨c,o,rfl,h2,h3⟩:=h.jc;obtain⟨d,q,rfl,k2,k3⟩:=h'.jc;rcases h3 with rfl|rfl<;>rcases k3 with rfl|rfl<;>simp[iA,rK,tD,my,lM,h2,k2,apart,ud,rq,yx,hs]
theorem grown.elems{v:V}{aj:aq}(h:grown site ty z es v aj):∃r,ez aj v=some (es,r,[])/\(r=[]\/r=[site]):=by
 rcases h with ⟨h1,h2⟩|⟨h1,g,h2,h3⟩
 .exact⟨[],by rw[h2,h1];rfl,.inl rfl⟩
 refine⟨[site],?_,.inr rfl⟩;rw[h2];simp[ez,h3]
theorem grown.kD{v:V}{aj:aq}(h:grown site ty z es v aj):es=[]\/kD v=some z:=by
 rcases h with ⟨h1,h2⟩|⟨h1,g,h2,h3⟩
 .exact .inl h1
 exact .inr (by rw[h2];rfl)
theorem grown.gC{v:V}{aj:aq}(h:grown site ty z es v aj):Go.Abs.kD v=some z\/gC z es=true:=by
 rcases h.kD with h|h
 .exact .inr (by rw[h];rfl)
 exact .inl h
theorem grown.len{v:V}{aj:aq}(h:grown site ty z es v aj):yh v=some es.length:=by
 rcases h with ⟨h1,h2⟩|⟨h1,g,h2,h3⟩
 .rw[h1,h2];rfl
 rw[h2];rfl
theorem grown.snap{v:V}{aj:aq}(h:grown site ty z es v aj):∃r,nA aj v=some (.one (.p (.sl es)),r)/\(r=[]\/r=[site]):=by
 rcases h with ⟨h1,h2⟩|⟨h1,g,h2,h3⟩
 .exact⟨[],by rw[h2,h1];rfl,.inl rfl⟩
 refine⟨[site],?_,.inr rfl⟩;rw[h2];simp[nA,eL,Go.Abs.snap,h3]
theorem grown.W4{c:C}{aj:aq}(h:grown site ty z es (.one c) aj){n:Nat}:∃r,Go.Abs.snap aj (n+1) c=some (.sl es,r)/\(r=[]\/r=[site]):=by
 rcases h with ⟨h1,h2⟩|⟨h1,g,h2,h3⟩
 .cases h2;exact⟨[],by rw[h1];rfl,.inl rfl⟩
 refine⟨[site],?_,.inr rfl⟩;cases h2;simp[Go.Abs.snap,h3]
section
variable {S:Sys} {al:Al} {Q:dy} {ak:Env} {aj:aq} {os all:List bl} {tr:List bR} {d:Option Nat}
theorem Qu{id bytes:Nat}{xs:List (List PV)}{v x:V}{rd:List Nat}(hg:grown id ty z es v aj)(hx:ez aj x=some (xs,rd,[]))(hz:kD x=some z\/gC z xs=true)(hr:(es.length+xs.length)*bytes<=140737488355328):
  ∃v' u r,fj aj site ty z bytes v x=.done v' u r/\grown site ty z (es++xs) v' (app u aj)/\(∀i,i≠site->i≠id->app u aj i=aj i)/\(r=rd/\u.map (·.1)=[]\/r=site::rd/\u.map (·.1)=[site]\/r=site::id::rd/\u.map (·.1)=[id,site]):=by
 have l7:¬¬(kD x=some z\/gC z xs=true):=fun h=>h hz;rcases hg with ⟨rfl,rfl⟩|⟨aF,g,rfl,hC⟩
 .by_cases h0:xs=[]
  .subst h0;refine⟨.one (.p .nils),[],rd,?_,.inl ⟨rfl,rfl⟩,fun i _ _=>rfl,.inl ⟨rfl,rfl⟩⟩;simp[fj,hx,l7,qd,rL]
  have hl:¬xs.length=0:=by simpa using h0
  have qm:xs.length*bytes<=room:=by simpa [room] using hr
  refine⟨.one (.hsl site ((aj site).1+1) z 0 xs.length),[(site,((aj site).1+1,some (.arr ty z xs)))],site::rd,?_,.inr ⟨by simpa using h0,(aj site).1+1,af,?_⟩,fun i h1 _=>?_,.inr (.inl ⟨rfl,rfl⟩)⟩
  .simp only[fj,hx,if_neg l7,qd,rL,if_neg hl,if_pos qm];simp
  .simp[app,aM]
  simp[app,aM,h1]
 have qm:(es.length+xs.length)*bytes<=room:=by simpa [room] using hr
 refine⟨.one (.hsl site ((aj site).1+1) z 0 (es.length+xs.length)),[(id,(g,none)),(site,((aj site).1+1,some (.arr ty z (es++xs))))],site::id::rd,?_,.inr ⟨by simp[aF],(aj site).1+1,af,?_⟩,fun i h1 h2=>?_,.inr (.inr ⟨rfl,rfl⟩)⟩
 .simp only[fj,hx,if_neg l7,qd,rL,hC];simp[qm]
 .simp[app,aM]
 simp[app,aM,h1,h2]
theorem qN{id site ty z bytes:Nat}{es xs:List (List PV)}{v x:V}{rd:List Nat}(hg:grown id ty z es v aj)(hx:ez aj x=some (xs,rd,[]))(hz:kD x=some z\/gC z xs=true)(hr:(es.length+xs.length)*bytes<=140737488355328)
  (hK:∀(c:C) ao,grown site ty z (es++xs) (.one c) ao->(∀i,i≠site->i≠id->ao i=aj i)->RN S .all os Q (put ak d (.one c)) ao):gP S .all (fj aj site ty z bytes v x) d os Q ak aj:=by
 obtain⟨v',u,r,h1,h2,h3,_⟩:=Qu hg hx hz hr;obtain⟨c,o,rfl,_⟩:=h2.jc;rw[h1,FV];exact hK _ _ h2 h3
theorem xz{id site ty z bytes:Nat}{es xs:List (List PV)}{v x:V}{rd:List Nat}(hg:grown id ty z es v aj)(hx:ez aj x=some (xs,rd,[]))(hz:kD x=some z\/gC z xs=true)(hr:(es.length+xs.length)*bytes<=140737488355328)
  (hK:∀(c:C) ao r w,grown site ty z (es++xs) (.one c) ao->(∀i,i≠site->i≠id->ao i=aj i)->(r=rd/\w=[]\/r=site::rd/\w=[site]\/r=site::id::rd/\w=[id,site])->RD S .all all os Q (put ak d (.one c)) ao (tr++[⟨r,w,[]⟩])):dP S .all (fj aj site ty z bytes v x) d all os Q ak aj tr:=by
 obtain⟨v',u,r,h1,h2,h3,h4⟩:=Qu hg hx hz hr;obtain⟨c,o,rfl,_⟩:=h2.jc;rw[h1,HX];exact hK _ _ _ _ h2 h3 h4
theorem qw{s:Nat}:grown s ty z es (.one (cD aj s (aR ty z es)).1) (app (cD aj s (aR ty z es)).2 aj)/\(∀i,i≠s->app (cD aj s (aR ty z es)).2 aj i=aj i)/\((cD aj s (aR ty z es)).2.map (·.1)=[]\/(cD aj s (aR ty z es)).2.map (·.1)=[s]):=by
 unfold aR;by_cases h:es=[]
 .rw[if_pos h];exact⟨.inl ⟨h,rfl⟩,fun i _=>rfl,.inl rfl⟩
 rw[if_neg h];exact⟨.inr ⟨h,(aj s).1+1,rfl,by simp[cD,app,aM]⟩,fun i hi=>by simp[cD,app,aM,hi],.inr rfl⟩
theorem sV(r:RV):r.ig false=r:=rfl
theorem lW{f:Nat}{vs:List V}{s ty z:Nat}{rd:List Nat}{es:List (List PV)}(hp:aI S f vs (.one (aR ty z es)))(dZ:S.lone s=false)(qq:rd=[]\/(RV.one (aR ty z es)).alone=true)
  (hK:∀(c:C) ao,grown s ty z es (.one c) ao->(∀i,i≠s->ao i=aj i)->RN S .all os Q (put ak d (.one c)) ao):gP S .all (.pc f vs rd s) d os Q ak aj:=by
 obtain⟨h1,h2,_⟩:=qw (aj:=aj) (s:=s) (ty:=ty) (z:=z) (es:=es);refine(cX (v:=.one (cD aj s (aR ty z es)).1) (u:=(cD aj s (aR ty z es)).2) hp ?_).2 (hK _ _ h1 h2);rw[dZ,sV];unfold land;rw[if_pos qq];simp[jm,gk,gI,iU,qB,lN]
theorem alU{f:Nat}{vs:List V}{s t1 z1 t2 z2:Nat}{es fs:List (List PV)}(hp:aI S f vs (.tup [.one (aR t1 z1 es),.one (aR t2 z2 fs)]))(dZ:S.lone s=false)
  (hK:∀(c e:C) ao,grown s t1 z1 es (.one c) ao->grown (s+1) t2 z2 fs (.one e) ao->(∀i,i≠s->i≠s+1->ao i=aj i)->RN S .all os Q (put ak d (.tup [.one c,.one e])) ao):gP S .all (.pc f vs [] s) d os Q ak aj:=by
 obtain⟨h1,h2,_⟩:=qw (aj:=aj) (s:=s) (ty:=t1) (z:=z1) (es:=es);have e0:∀(b b':aq) (k:Nat) (r:RC),b' k=b k->cD b k r=cD b' k r:=by
  intro b b' k r h;cases r with
  |p v=>rfl
  |own ty sz es=>simp only[cD,h]
 have e2:cD aj (s+1) (aR t2 z2 fs)=cD (app (cD aj s (aR t1 z1 es)).2 aj) (s+1) (aR t2 z2 fs):=e0 _ _ _ _ (h2 (s+1) aa);obtain⟨k1,k2,_⟩:=qw (aj:=app (cD aj s (aR t1 z1 es)).2 aj) (s:=s+1) (ty:=t2) (z:=z2) (es:=fs);rw[<- e2] at k1 k2;have zi:∀(a b:List eG) (c:aq),app (a++b) c=app b (app a c):=by
  intro a
  induction a with
  |nil=>intro b c;rfl
  |cons x a ih=>intro b c;exact ih b _
 refine(cX (v:=.tup [.one (cD aj s (aR t1 z1 es)).1,.one (cD aj (s+1) (aR t2 z2 fs)).1]) (u:=(cD aj s (aR t1 z1 es)).2++(cD aj (s+1) (aR t2 z2 fs)).2) hp ?_).2 (hK _ _ _ ?_ ?_ ?_)
 .rw[dZ,sV];unfold land;rw[if_pos (.inl rfl)];simp[jm,gk,kL,gI,iU,qB,pM,lN]
 .rw[zi];exact h1.of_eq (k2 s aa)
 .rw[zi];exact k1
 intro i a b;rw[zi,k2 i b,h2 i a]
end
theorem nI(h:(es.all fun e=>e.all PV.scalar)=true):(RV.one (aR ty z es)).alone=true:=by
 unfold aR;split
 .rfl
 simp[RV.alone,gk,gI,RC.alone,h]
theorem grown.eL{c:C}{aj:aq}(h:grown site ty z es (.one c) aj):∃r,Go.Abs.snap aj Go.Abs.eL c=some (.sl es,r)/\(r=[]\/r=[site]):=h.W4
def pY(aj:aq)(r:List Nat):Prop:=∀i∈r,∃g ty z es,aj i=(g,some (.arr ty z es))
theorem pY.nil{aj:aq}:pY aj []:=fun _ h=>by simp at h
theorem pY.app{aj:aq}{a b:List Nat}(h:pY aj a)(k:pY aj b):pY aj (a++b):=fun i hi=>by
 rcases eF.1 hi with hi|hi
 .exact h i hi
 exact k i hi
theorem grown.QX{c:C}{aj:aq}(h:grown site ty z es (.one c) aj):∃r,Go.Abs.snap aj Go.Abs.eL c=some (.sl es,r)/\pY aj r/\(r=[]\/r=[site]):=by
 rcases h with ⟨h1,h2⟩|⟨h1,g,h2,h3⟩
 .cases h2;exact⟨[],by rw[h1];rfl,pY.nil,.inl rfl⟩
 refine⟨[site],?_,fun i hi=>?_,.inr rfl⟩
 .cases h2;simp[Go.Abs.snap,Go.Abs.eL,h3]
 rw[mR] at hi;subst hi;exact⟨_,_,_,_,h3⟩
theorem UZ{aj:aq}(all:List Nat):∀r:List Nat,pY aj r->∃fu,rL aj all r=some fu/\fu.map (·.1)=r:=by
 intro r
 induction r with
 |nil=>intro _;exact⟨[],rfl,rfl⟩
 |cons i r ih=>intro h;obtain⟨g,ty,z,es,hi⟩:=h i af;obtain⟨fu,h1,h2⟩:=ih fun j hj=>h j (by simp[hj]);refine⟨(i,(g,some (.oR ty z es)))::fu,?_,by simp[h2]⟩;simp[rL,An,hi,h1]
theorem Fx:∀(u:List eG) (b:aq) (i:Nat),i∉u.map (·.1)->app u b i=b i:=by
 intro u
 induction u with
 |nil=>intro b i _;rfl
 |cons x u ih=>intro b i h;simp only[dG,cM,not_or] at h;show app u (dB b x.1 x.2) i=b i;rw[ih _ _ h.2,aM,if_neg h.1]
theorem yN:∀(a b:List eG) (c:aq),app (a++b) c=app b (app a c):=by
 intro a
 induction a with
 |nil=>intro b c;rfl
 |cons x a ih=>intro b c;exact ih b _
section
variable {S:Sys} {al:Al} {Q:dy} {ak:Env} {aj:aq} {os all:List bl} {tr:List bR} {d:Option Nat}
theorem alS{id site ty z bytes:Nat}{es xs:List (List PV)}{v x:V}{rd fr:List Nat}(hg:grown id ty z es v aj)(hx:ez aj x=some (xs,rd,fr))(kN:pY aj fr)(hni:id∉fr)(vd:site∉fr)(hz:kD x=some z\/gC z xs=true)(hr:(es.length+xs.length)*bytes<=140737488355328)
  (hK:∀(c:C) ao,grown site ty z (es++xs) (.one c) ao->(∀i,i≠site->i≠id->i∉fr->ao i=aj i)->RN S .all os Q (put ak d (.one c)) ao):gP S .all (fj aj site ty z bytes v x) d os Q ak aj:=by
 have l7:¬¬(kD x=some z\/gC z xs=true):=fun h=>h hz;obtain⟨fu,ID,xQ⟩:=UZ fr fr kN;have F9:qd aj fr=some fu:=ID;rcases hg with ⟨rfl,rfl⟩|⟨aF,g,rfl,hC⟩
 .by_cases h0:xs=[]
  .subst h0;have:fj aj site ty z bytes (.one (.p .nils)) x=.done (.one (.p .nils)) fu (rd++fr):=by simp[fj,hx,l7,F9]
   rw[this,FV];exact hK _ _ (.inl ⟨rfl,rfl⟩) fun i _ _ h3=>Fx _ _ _ (by rw[xQ];exact h3)
  have hl:¬xs.length=0:=by simpa using h0
  have qm:xs.length*bytes<=room:=by simpa [room] using hr
  have:fj aj site ty z bytes (.one (.p .nils)) x=.done (.one (.hsl site ((aj site).1+1) z 0 xs.length)) (fu++[(site,((aj site).1+1,some (.arr ty z xs)))]) (site::rd++fr):=by simp only[fj,hx,if_neg l7,F9,if_neg hl,if_pos qm]
  rw[this,FV];refine hK _ _ (.inr ⟨by simpa using h0,(aj site).1+1,af,?_⟩) fun i h1 _ h3=>?_
  .rw[yN];simp[app,aM]
  rw[yN];have:=Fx fu aj i (by rw[xQ];exact h3);simp[app,aM,h1,this]
 have qm:(es.length+xs.length)*bytes<=room:=by simpa [room] using hr
 have hnc:fr.contains id=false:=by simpa using hni
 have:fj aj site ty z bytes (.one (.hsl id g z 0 es.length)) x=.done (.one (.hsl site ((aj site).1+1) z 0 (es.length+xs.length))) (fu++[(id,(g,none)),(site,((aj site).1+1,some (.arr ty z (es++xs))))]) (site::id::rd++fr):=by simp only[fj,hx,if_neg l7,F9,hC,hnc];simp[qm]
 rw[this,FV];refine hK _ _ (.inr ⟨by simp[aF],(aj site).1+1,af,?_⟩) fun i h1 h2 h3=>?_
 .rw[yN];simp[app,aM]
 rw[yN];have:=Fx fu aj i (by rw[xQ];exact h3);simp[app,aM,h1,h2,this]
end
section
variable {S:Sys} {al:Al} {Q:dy} {ak:Env} {aj:aq} {os all:List bl} {tr:List bR} {d:Option Nat}
theorem CX{l:List Nat}(h:∀i∈l,al.ok i=true):al.ff l=true:=jf.2 h
theorem O0{id site ty z bytes:Nat}{es xs:List (List PV)}{v x:V}{rd:List Nat}(au:∀i∈site::id::rd,al.ok i=true)(hg:grown id ty z es v aj)(hx:ez aj x=some (xs,rd,[]))(hz:kD x=some z\/gC z xs=true)(hr:(es.length+xs.length)*bytes<=140737488355328)
  (hK:∀(c:C) ao,grown site ty z (es++xs) (.one c) ao->(∀i,i≠site->i≠id->ao i=aj i)->RN S al os Q (put ak d (.one c)) ao):gP S al (fj aj site ty z bytes v x) d os Q ak aj:=by
 obtain⟨v',u,r,h1,h2,h3,h4⟩:=Qu hg hx hz hr;obtain⟨c,o,rfl,_⟩:=h2.jc;rw[h1,abE];refine⟨?_,hK _ _ h2 h3⟩;rcases h4 with ⟨rfl,h5⟩|⟨rfl,h5⟩|⟨rfl,h5⟩<;>rw[h5]<;>refine CX fun i hi=>au i ?_ <;>simp at hi ⊢
 .exact .inr (.inr hi)
 .rcases hi with h|h|h<;>simp[h]
 rcases hi with h|h|h|h|h<;>simp[h]
theorem FI{id site ty z bytes:Nat}{es xs:List (List PV)}{v x:V}{rd:List Nat}(au:∀i∈site::id::rd,al.ok i=true)(hg:grown id ty z es v aj)(hx:ez aj x=some (xs,rd,[]))(hz:kD x=some z\/gC z xs=true)(hr:(es.length+xs.length)*bytes<=140737488355328)
  (hK:∀(c:C) ao r w,grown site ty z (es++xs) (.one c) ao->(∀i,i≠site->i≠id->ao i=aj i)->(r=rd/\w=[]\/r=site::rd/\w=[site]\/r=site::id::rd/\w=[id,site])->RD S al all os Q (put ak d (.one c)) ao (tr++[⟨r,w,[]⟩])):dP S al (fj aj site ty z bytes v x) d all os Q ak aj tr:=by
 obtain⟨v',u,r,h1,h2,h3,h4⟩:=Qu hg hx hz hr;obtain⟨c,o,rfl,_⟩:=h2.jc;rw[h1,Zz];refine⟨?_,hK _ _ _ _ h2 h3 h4⟩;rcases h4 with ⟨rfl,h5⟩|⟨rfl,h5⟩|⟨rfl,h5⟩<;>rw[h5]<;>refine CX fun i hi=>au i ?_ <;>simp at hi ⊢
 .exact .inr (.inr hi)
 .rcases hi with h|h|h<;>simp[h]
 rcases hi with h|h|h|h|h<;>simp[h]
theorem akb{site ty z bytes:Nat}{xs:List (List PV)}{x:V}{rd:List Nat}(au:∀i∈site::rd,al.ok i=true)(hx:ez aj x=some (xs,rd,[]))(aF:xs≠[])(hz:kD x=some z\/gC z xs=true)(hr:xs.length*bytes<=140737488355328)
  (hK:∀(c:C) ao r w,grown site ty z xs (.one c) ao->(∀i,i≠site->i≠site->ao i=aj i)->(r=rd/\w=[]\/r=site::rd/\w=[site]\/r=site::site::rd/\w=[site,site])->RD S al all os Q (put ak d (.one c)) ao (tr++[⟨r,w,[]⟩])):dP S al (fj aj site ty z bytes (.one (.p .zs)) x) d all os Q ak aj tr:=by
 have hn:xs.length≠0:=fun h=>aF (uL.1 h);have e:fj aj site ty z bytes (.one (.p .zs)) x=fj aj site ty z bytes (.one (.p .nils)) x:=by simp only[fj,hx,hn,if_false]
 rw[e];exact FI (id:=site) (es:=[]) (fun i hi=>au i (by simpa using hi)) grown.nil hx hz (by simpa using hr) hK
theorem alV{f:Nat}{vs:List V}{s t1 z1 t2 z2:Nat}{rd:List Nat}{es fs:List (List PV)}(au:∀i∈s::(s+1)::rd,al.ok i=true)(hp:aI S f vs (.tup [.one (aR t1 z1 es),.one (aR t2 z2 fs)]))(dZ:S.lone s=false)
  (gQ:(es.all fun e=>e.all PV.scalar)=true) (eh:(fs.all fun e=>e.all PV.scalar)=true)
  (hK:∀(c e:C) ao,grown s t1 z1 es (.one c) ao->grown (s+1) t2 z2 fs (.one e) ao->(∀i,i≠s->i≠s+1->ao i=aj i)->RN S al os Q (put ak d (.tup [.one c,.one e])) ao):gP S al (.pc f vs rd s) d os Q ak aj:=by
 have iK:(RV.tup [.one (aR t1 z1 es),.one (aR t2 z2 fs)]).alone=true:=by have a:=nI (ty:=t1) (z:=z1) gQ;have b:=nI (ty:=t2) (z:=z2) eh;simp only[RV.alone,gk,gI,lk,oG,vD] at a b;simp[RV.alone,gk,kL,gI,a,b]
 obtain⟨h1,h2,h2u⟩:=qw (aj:=aj) (s:=s) (ty:=t1) (z:=z1) (es:=es);have e0:∀(b b':aq) (k:Nat) (r:RC),b' k=b k->cD b k r=cD b' k r:=by
  intro b b' k r h;cases r with
  |p v=>rfl
  |own ty sz es=>simp only[cD,h]
 have e2:cD aj (s+1) (aR t2 z2 fs)=cD (app (cD aj s (aR t1 z1 es)).2 aj) (s+1) (aR t2 z2 fs):=e0 _ _ _ _ (h2 (s+1) aa);obtain⟨k1,k2,k2u⟩:=qw (aj:=app (cD aj s (aR t1 z1 es)).2 aj) (s:=s+1) (ty:=t2) (z:=z2) (es:=fs);rw[<- e2] at k1 k2 k2u;refine⟨_,hp,?_⟩;rw[dZ,sV];have hl:land aj rd s (RV.tup [.one (aR t1 z1 es),.one (aR t2 z2 fs)])=some (.tup [.one (cD aj s (aR t1 z1 es)).1,.one (cD aj (s+1) (aR t2 z2 fs)).1],(cD aj s (aR t1 z1 es)).2++(cD aj (s+1) (aR t2 z2 fs)).2):=by unfold land;rw[if_pos (.inr iK)];simp[jm,gk,kL,gI,iU,qB,pM,lN]
 rw[hl];refine⟨CX fun i hi=>au i ?_,hK _ _ _ ?_ ?_ ?_⟩
 .simp only[km,eF] at hi;rcases hi with hi|hi|hi
  .simp[hi]
  .rcases h2u with h|h<;>rw[h] at hi<;>simp at hi<;>simp[hi]
  rcases k2u with h|h<;>rw[h] at hi<;>simp at hi<;>simp[hi]
 .rw[yN];exact h1.of_eq (k2 s aa)
 .rw[yN];exact k1
 intro i a b;rw[yN,k2 i b,h2 i a]
end
theorem aP{b:aq}{a i:Nat}{x:Nat×Option Ob}(h:i≠a):dB b a x i=b i:=by rw[aM,if_neg h]
theorem sZ{b:aq}{a:Nat}{x:Nat×Option Ob}:dB b a x a=x:=by rw[aM,if_pos rfl]
theorem Qd{a i:Nat}{l:List Nat}(h:i∉l)(ha:a∈l):i≠a:=fun e=>h (e▸ha)
section
variable {S:Sys} {al:Al} {Q:dy} {ak:Env} {aj:aq} {os all:List bl} {tr:List bR} {d:Option Nat}
theorem abF{f:Nat}{vs:List V}{s ty z:Nat}{es:List (List PV)}{x:PV}(hp:aI S f vs (.tup [.one (aR ty z es),.one (.p x)]))(dZ:S.lone s=false)
  (hK:∀(c:C) ao,grown s ty z es (.one c) ao->(∀i,i≠s->ao i=aj i)->RN S .all os Q (put ak d (.tup [.one c,.one (.p x)])) ao):gP S .all (.pc f vs [] s) d os Q ak aj:=by
 obtain⟨h1,h2,_⟩:=qw (aj:=aj) (s:=s) (ty:=ty) (z:=z) (es:=es);refine(cX (v:=.tup [.one (cD aj s (aR ty z es)).1,.one (.p x)]) (u:=(cD aj s (aR ty z es)).2) hp ?_).2 (hK _ _ h1 h2);rw[dZ,sV];unfold land;rw[if_pos (.inl rfl)];simp[jm,gk,kL,gI,iU,qB,pM,lN,cD]
theorem akc{f:Nat}{vs:List V}{s ty z:Nat}{rd:List Nat}{es:List (List PV)}(hp:aI S f vs (.one (aR ty z es)))(dZ:S.lone s=false)(qq:rd=[]\/(RV.one (aR ty z es)).alone=true)
  (hK:∀(c:C) ao w,grown s ty z es (.one c) ao->(∀i,i≠s->ao i=aj i)->(w=[]\/w=[s])->RD S .all all os Q (put ak d (.one c)) ao (tr++[⟨rd++w,w,[]⟩])):dP S .all (.pc f vs rd s) d all os Q ak aj tr:=by
 obtain⟨h1,h2,h3⟩:=qw (aj:=aj) (s:=s) (ty:=ty) (z:=z) (es:=es);refine(KT (v:=.one (cD aj s (aR ty z es)).1) (u:=(cD aj s (aR ty z es)).2) hp ?_).2 (hK _ _ _ h1 h2 h3);rw[dZ,sV];unfold land;rw[if_pos qq];simp[jm,gk,gI,iU,qB,lN]
theorem ake{f:Nat}{vs:List V}{s ty z:Nat}{es:List (List PV)}{x:PV}(hp:aI S f vs (.tup [.one (aR ty z es),.one (.p x)]))(dZ:S.lone s=false)
  (hK:∀(c:C) ao w,grown s ty z es (.one c) ao->(∀i,i≠s->ao i=aj i)->(w=[]\/w=[s])->RD S .all all os Q (put ak d (.tup [.one c,.one (.p x)])) ao (tr++[⟨[]++w,w,[]⟩])):dP S .all (.pc f vs [] s) d all os Q ak aj tr:=by
 obtain⟨h1,h2,h3⟩:=qw (aj:=aj) (s:=s) (ty:=ty) (z:=z) (es:=es);refine(KT (v:=.tup [.one (cD aj s (aR ty z es)).1,.one (.p x)]) (u:=(cD aj s (aR ty z es)).2) hp ?_).2 (hK _ _ _ h1 h2 h3);rw[dZ,sV];unfold land;rw[if_pos (.inl rfl)];simp[jm,gk,kL,gI,iU,qB,pM,lN,cD]
theorem alW{f:Nat}{vs:List V}{s ty z:Nat}{rd:List Nat}{es:List (List PV)}{x:PV}(hp:aI S f vs (.agg [.p x,aR ty z es]))(dZ:S.lone s=false)(hx:x.scalar=true)(hs:(es.all fun e=>e.all PV.scalar)=true)
  (hK:∀(c:C) ao,grown (s+1) ty z es (.one c) ao->(∀i,i≠s+1->ao i=aj i)->RN S .all os Q (put ak d (.agg [.p x,c])) ao):gP S .all (.pc f vs rd s) d os Q ak aj:=by
 obtain⟨h1,h2,_⟩:=qw (aj:=aj) (s:=s+1) (ty:=ty) (z:=z) (es:=es);have iK:(RV.agg [.p x,aR ty z es]).alone=true:=by have a:=nI (ty:=ty) (z:=z) hs;simp only[RV.alone,gk,gI,lk,oG,vD] at a;simp only[RV.alone,gk,gI,lk,oG,vD,a];exact hx
 refine(cX (v:=.agg [.p x,(cD aj (s+1) (aR ty z es)).1]) (u:=(cD aj (s+1) (aR ty z es)).2) hp ?_).2 (hK _ _ h1 h2);rw[dZ,sV];unfold land;rw[if_pos (.inr iK)];simp[jm,gk,gI,iU,qB,lN,cD]
theorem abG{f:Nat}{vs:List V}{s ty z:Nat}{es:List (List PV)}{x y:PV}(hp:aI S f vs (.tup [.agg [.p x,aR ty z es],.one (.p y)]))(dZ:S.lone s=false)
  (hK:∀(c:C) ao,grown (s+1) ty z es (.one c) ao->(∀i,i≠s+1->ao i=aj i)->RN S .all os Q (put ak d (.tup [.agg [.p x,c],.one (.p y)])) ao):gP S .all (.pc f vs [] s) d os Q ak aj:=by
 obtain⟨h1,h2,_⟩:=qw (aj:=aj) (s:=s+1) (ty:=ty) (z:=z) (es:=es);refine(cX (v:=.tup [.agg [.p x,(cD aj (s+1) (aR ty z es)).1],.one (.p y)]) (u:=(cD aj (s+1) (aR ty z es)).2) hp ?_).2 (hK _ _ h1 h2);rw[dZ,sV];unfold land;rw[if_pos (.inl rfl)];simp[jm,gk,kL,gI,iU,qB,pM,lN,cD]
theorem abH{f:Nat}{vs:List V}{s ty z:Nat}{rd:List Nat}{es:List (List PV)}{x y:PV}(hp:aI S f vs (.tup [.agg [.p x,aR ty z es],.one (.p y)]))(dZ:S.lone s=false)(hx:x.scalar=true)(hy:y.scalar=true)(hs:(es.all fun e=>e.all PV.scalar)=true)
  (hK:∀(c:C) ao,grown (s+1) ty z es (.one c) ao->(∀i,i≠s+1->ao i=aj i)->RN S .all os Q (put ak d (.tup [.agg [.p x,c],.one (.p y)])) ao):gP S .all (.pc f vs rd s) d os Q ak aj:=by
 obtain⟨h1,h2,_⟩:=qw (aj:=aj) (s:=s+1) (ty:=ty) (z:=z) (es:=es);have iK:(RV.tup [.agg [.p x,aR ty z es],.one (.p y)]).alone=true:=by have a:=nI (ty:=ty) (z:=z) hs;simp only[RV.alone,gk,gI,lk,oG,vD] at a;simp only[RV.alone,gk,kL,gI,jg,fp,jR,lk,oG,vD,a,Ds];show(x.scalar&&y.scalar)=true;rw[hx,hy];rfl
 refine(cX (v:=.tup [.agg [.p x,(cD aj (s+1) (aR ty z es)).1],.one (.p y)]) (u:=(cD aj (s+1) (aR ty z es)).2) hp ?_).2 (hK _ _ h1 h2);rw[dZ,sV];unfold land;rw[if_pos (.inr iK)];simp[jm,gk,kL,gI,iU,qB,pM,lN,cD]
end
theorem abV{s1 t1 z1:Nat}{c:C}{y:PV}{aj:aq}(h:grown s1 t1 z1 es (.one c) aj):iA aj (.tup [.agg [.p x,c],.one (.p y)])=some (.tup [.agg [.p x,aR t1 z1 es],.one (.p y)]):=by obtain⟨c',o,hc,h2,h3⟩:=h.jc;cases hc;have e1:jc aj (.p x)=some (.p x,[],[]):=rfl;have e2:jc aj (.p y)=some (.p y,[],[]):=rfl;rcases h3 with rfl|rfl<;>simp[iA,rK,tD,my,lM,h2,e1,e2,apart,ud,rq,yx]
section
variable {S:Sys} {al:Al} {Q:dy} {ak:Env} {aj:aq} {os all:List bl} {tr:List bR} {d:Option Nat} {op:mT} {w:Option Bool} {a b:aJ} {v:V}
theorem eD(L:List Nat)(h:∀e:Env,(∀k∈L,e k=ak k)->gW S al w d op os Q e aj):gW S al w d op os Q ak aj:=h ak fun _ _=>rfl
theorem uU(L:List Nat)(h:∀e:Env,(∀k∈L,e k=ak k)->dW S al w d op all os Q e aj tr):dW S al w d op all os Q ak aj tr:=h ak fun _ _=>rfl
theorem Yz(L:List Nat)(h:∀e:Env,(∀k∈L,e k=ak k)->cW S al v a b Q e aj):cW S al v a b Q ak aj:=h ak fun _ _=>rfl
end
section
variable {S:Sys} {al:Al} {Q:dy} {ak:Env} {aj:aq} {os all:List bl} {tr:List bR} {d:Option Nat}
theorem aj9{id site ty z bytes:Nat}{es xs:List (List PV)}{v x:V}{rd fr:List Nat}(hg:grown id ty z es v aj)(hx:ez aj x=some (xs,rd,fr))(kN:pY aj fr)(hni:id∉fr)(vd:site∉fr)(hz:kD x=some z\/gC z xs=true)(hr:(es.length+xs.length)*bytes<=140737488355328)
  (hK:∀(c:C) ao r w,grown site ty z (es++xs) (.one c) ao->(∀i,i≠site->i≠id->i∉fr->ao i=aj i)->(r=rd++fr/\w=fr\/r=site::rd++fr/\w=fr++[site]\/r=site::id::rd++fr/\w=fr++[id,site])->RD S .all all os Q (put ak d (.one c)) ao (tr++[⟨r,w,[]⟩])):dP S .all (fj aj site ty z bytes v x) d all os Q ak aj tr:=by
 have l7:¬¬(kD x=some z\/gC z xs=true):=fun h=>h hz;obtain⟨fu,ID,xQ⟩:=UZ fr fr kN;have F9:qd aj fr=some fu:=ID;rcases hg with ⟨rfl,rfl⟩|⟨aF,g,rfl,hC⟩
 .by_cases h0:xs=[]
  .subst h0;have:fj aj site ty z bytes (.one (.p .nils)) x=.done (.one (.p .nils)) fu (rd++fr):=by simp[fj,hx,l7,F9]
   rw[this,HX];exact hK _ _ _ _ (.inl ⟨rfl,rfl⟩) (fun i _ _ h3=>Fx _ _ _ (by rw[xQ];exact h3)) (.inl ⟨rfl,xQ⟩)
  have hl:¬xs.length=0:=by simpa using h0
  have qm:xs.length*bytes<=room:=by simpa [room] using hr
  have:fj aj site ty z bytes (.one (.p .nils)) x=.done (.one (.hsl site ((aj site).1+1) z 0 xs.length)) (fu++[(site,((aj site).1+1,some (.arr ty z xs)))]) (site::rd++fr):=by simp only[fj,hx,if_neg l7,F9,if_neg hl,if_pos qm]
  rw[this,HX];refine hK _ _ _ _ (.inr ⟨by simpa using h0,(aj site).1+1,af,?_⟩) (fun i h1 _ h3=>?_) (.inr (.inl ⟨rfl,by simp[xQ]⟩))
  .rw[yN];simp[app,aM]
  rw[yN];have:=Fx fu aj i (by rw[xQ];exact h3);simp[app,aM,h1,this]
 have qm:(es.length+xs.length)*bytes<=room:=by simpa [room] using hr
 have hnc:fr.contains id=false:=by simpa using hni
 have:fj aj site ty z bytes (.one (.hsl id g z 0 es.length)) x=.done (.one (.hsl site ((aj site).1+1) z 0 (es.length+xs.length))) (fu++[(id,(g,none)),(site,((aj site).1+1,some (.arr ty z (es++xs))))]) (site::id::rd++fr):=by simp only[fj,hx,if_neg l7,F9,hC,hnc];simp[qm]
 rw[this,HX];refine hK _ _ _ _ (.inr ⟨by simp[aF],(aj site).1+1,af,?_⟩) (fun i h1 h2 h3=>?_) (.inr (.inr ⟨rfl,by simp[xQ]⟩))
 .rw[yN];simp[app,aM]
 rw[yN];have:=Fx fu aj i (by rw[xQ];exact h3);simp[app,aM,h1,h2,this]
theorem O1{f:Nat}{vs:List V}{s ty z:Nat}{rd:List Nat}{es:List (List PV)}{x:PV}(hp:aI S f vs (.tup [.one (aR ty z es),.one (.p x)]))(dZ:S.lone s=false)(hs:(es.all fun e=>e.all PV.scalar)=true)(hx:x.scalar=true)
  (hK:∀(c:C) ao,grown s ty z es (.one c) ao->(∀i,i≠s->ao i=aj i)->RN S .all os Q (put ak d (.tup [.one c,.one (.p x)])) ao):gP S .all (.pc f vs rd s) d os Q ak aj:=by
 obtain⟨h1,h2,_⟩:=qw (aj:=aj) (s:=s) (ty:=ty) (z:=z) (es:=es);have iK:(RV.tup [.one (aR ty z es),.one (.p x)]).alone=true:=by have a:=nI (ty:=ty) (z:=z) hs;simp only[RV.alone,gk,gI,lk,oG,vD] at a;simp only[RV.alone,gk,kL,gI,jg,fp,jR,lk,oG,vD,a,Ds];exact hx
 refine(cX (v:=.tup [.one (cD aj s (aR ty z es)).1,.one (.p x)]) (u:=(cD aj s (aR ty z es)).2) hp ?_).2 (hK _ _ h1 h2);rw[dZ,sV];unfold land;rw[if_pos (.inr iK)];simp[jm,gk,kL,gI,iU,qB,pM,lN,cD]
end
section
variable {S:Sys} {al:Al} {Q:dy} {ak:Env} {aj:aq} {os all:List bl} {tr:List bR} {d:Option Nat} {op:mT} {a b:aJ} {e w:Bool}
theorem Lk{rd:List Nat}{s:Nat}{r:RV}{v:V}{u:List eG}(hp:aI S f vs r)(h:land aj rd s (r.ig (S.lone s))=some (v,u)):gP S al (.pc f vs rd s) d os Q ak aj↔al.ff (rd++u.map (·.1))=true/\RN S al os Q (put ak d v) (app u aj):=by
 constructor
 .rintro ⟨y,hy,h2⟩
  have:=hy.Ag hp;subst this;rw[h] at h2;exact h2
 intro hK;refine⟨_,hp,?_⟩;rw[h];exact hK
theorem KU{rd:List Nat}{s:Nat}{r:RV}{v:V}{u:List eG}(hp:aI S f vs r)(h:land aj rd s (r.ig (S.lone s))=some (v,u)):dP S al (.pc f vs rd s) d all os Q ak aj tr↔al.ff (rd++u.map (·.1))=true/\RD S al all os Q (put ak d v) (app u aj) (tr++[⟨rd++u.map (·.1),u.map (·.1),[]⟩]):=by
 constructor
 .rintro ⟨y,hy,h2⟩
  have:=hy.Ag hp;subst this;rw[h] at h2;exact h2
 intro hK;refine⟨_,hp,?_⟩;rw[h];exact hK
theorem adU{s:Nat}(b:Bool):land aj [] s ((RV.one (.p x)).ig b)=some (.one (.p x),[]):=by cases b<;>rfl
theorem FX{s:Nat}(h:aI S f vs (.one (.p x))):gP S al (.pc f vs [] s) d os Q ak aj↔RN S al os Q (put ak d (.one (.p x))) aj:=by rw[Lk h (adU _)];exact⟨fun h=>h.2,fun h=>⟨rfl,h⟩⟩
theorem Ot{s:Nat}(h:aI S f vs (.one (.p x))):dP S al (.pc f vs [] s) d all os Q ak aj tr↔RD S al all os Q (put ak d (.one (.p x))) aj (tr++[⟨[],[],[]⟩]):=by rw[KU h (adU _)];exact⟨fun h=>h.2,fun h=>⟨rfl,h⟩⟩
end
section
variable {S:Sys} {al:Al} {Q:dy} {ak:Env} {aj:aq} {os all:List bl} {tr:List bR} {d:Option Nat} {op:mT} {w:Option Bool} {a b:aJ} {v:V} {p:eX}
end
theorem grown.Dj{c:C}{aj:aq}(h:grown site ty z es (.one c) aj):∃r,(∀B:aq,B site=aj site->Go.Abs.snap B Go.Abs.eL c=some (.sl es,r))/\(r=[]\/r=[site]):=by
 rcases h with ⟨h1,h2⟩|⟨h1,g,h2,h3⟩
 .cases h2;exact⟨[],fun B _=>by rw[h1];rfl,.inl rfl⟩
 cases h2;refine⟨[site],fun B hB=>?_,.inr rfl⟩;rw[<- hB] at h3;simp[Go.Abs.eL,Go.Abs.snap,h3]
end
end Go.Abs
namespace Go.Abs
open Go
section
variable {S:Sys} {al:Al} {Q:dy} {os all:List bl} {d:Option Nat} {ak:Env} {aj:aq} {tr:List bR}
end
theorem amf{ty z:Nat}{es:List (List PV)}(h:es≠[]):aR ty z es=.own ty z es:=if_neg h
end Go.Abs
namespace Go.Abs
theorem fm1{p:Nat->Prop}:(∀k∈([]:List Nat),p k)↔True:=by simp
theorem fm2{a:Nat}{l:List Nat}{p:Nat->Prop}:(∀k∈a::l,p k)↔p a/\ ∀k∈l,p k:=List.forall_mem_cons
attribute [go_sem] fm1 fm2 zO bne_self_eq_false Bool.or_true Bool.or_false Bool.true_or Bool.false_or Bool.not_not jm gk gI kL cD iU qB lN pM Option.getD_some Option.getD_none Option.isSome_some Option.isSome_none
attribute [go_sem ↓] Rd
attribute [go_sem high] FV HX
attribute [go_sem] Rt Rl Rb abE Zz GJ Jv Bool.and_self Al.Fv
attribute [go_sem] bn qI tn Cg Gx app if_true if_false reduceIte Nat.reduceEqDiff beq_self_eq_true reduceCtorEq ge_iff_le oz Qf zV DU Nat.reduceAdd Bf pP zW eN rG yh ne_eq Nat.reduceLeDiff yr za Bq Bp toP fill Nat.reduceMul Nat.reduceLT QZ QY
attribute [go_sem] ez kD qd rL room Dc rF Nat.reduceSub Int.reduceLT Int.reduceAdd Int.reduceBEq Int.reduceBNe Int.reduceLE List.contains_eq_mem vq
end Go.Abs
