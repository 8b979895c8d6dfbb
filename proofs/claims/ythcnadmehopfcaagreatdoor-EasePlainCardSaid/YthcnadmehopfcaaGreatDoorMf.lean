/-
  Rules for a walk.
-/
import Derived.Test.YthcnadmehopfcaaGreatDoorMc
import Derived.Attr
set_option linter.all false
namespace Go.Abs
section
variable{x:PV}{f site ty z:Nat}{vs:List V}{es:List (List PV)}
theorem Zw(k:Nat):oN (.one (.p (.int .i64 (k:Int))))=some k:=by simp[oN]
theorem Zv(n:Nat):oN (.one (.p (.int .i64 (no_index (@OfNat.ofNat Int n instOfNat)))))=some (@OfNat.ofNat Nat n (instOfNatNat n)):=by show oN (.one (.p (.int .i64 (Int.ofNat n))))=some n;simp[oN]
theorem Rw{aj:aA}{v:PV}:snap aj fM (.p v)=some (v.norm,[]):=rfl
def Tb{β:Type}(x:Option (β×List Nat))(y:Option (List β×List Nat)):Option (List β×List Nat):=match x,y with
 |some (b,x),some (bs,y)=>some (b::bs,x++y)
 |_,_=>none
theorem aag{β:Type}{b:β}{x:List Nat}{bs:List β}{y:List Nat}:Tb (some (b,x)) (some (bs,y))=some (b::bs,x++y):=rfl
theorem aaa{α β:Type}{f:α->Option (β×List Nat)}:collect f []=some ([],[]):=rfl
theorem Z8{α β:Type}{f:α->Option (β×List Nat)}{a:α}{r:List α}:collect f (a::r)=Tb (f a) (collect f r):=by simp only[collect,Tb];cases f a<;>cases collect f r<;>rfl
theorem ahg{aj:aA}{c:C}:nA aj (.one c)=(snap aj fM c).map fun(v,r)=>(.one (.p v),r):=rfl
theorem ahf{aj:aA}{cs:List C}:nA aj (.agg cs)=(collect (snap aj fM) cs).map fun(vs,r)=>(.agg (vs.map .p),r):=rfl
theorem aho{aj:aA}{n:Nat}{v:PV}:snap aj (n+1) (.p v)=some (v.norm,[]):=rfl
def Rv(o:Nat×Option Ob)(col:List (List C)->Option (List (List PV)×List Nat))(id g off len:Nat):Option (PV×List Nat):=match o with
 |(g',some (.arr _ _ es))=>if g'=g/\off+len<=es.length then some (.sl ((es.drop off).take len),[id]) else none
 |(g',some (.oR _ _ es))=>if g'=g/\off+len<=es.length then some (.sl ((es.drop off).take len),[id]) else none
 |(g',some (.iI _ _ es))=>if g'=g/\off+len<=es.length then
   match col ((es.drop off).take len) with
   |some (ps,r)=>some (.sl ps,id::r)
   |none=>none
  else none
 |_=>none
theorem ahn{aj:aA}{id g z off len:Nat}:snap aj fM (.hsl id g z off len)=Rv (aj id) (collect (collect (snap aj 5))) id g off len:=by unfold fM Rv;rw[snap];rfl
def Ru(o:Nat×Option Ob)(col:List C->Option (List PV×List Nat))(id g off:Nat):Option (PV×List Nat):=match o with
 |(g',some (.var cs))=>if g'=g then
   match col cs with
   |some (ps,r)=>some (.box (ps.drop off),id::r)
   |none=>none
  else none
 |(g',some (.fvar ps))=>if g'=g then some (.box (ps.drop off),[id]) else none
 |_=>none
theorem ahm{aj:aA}{id g off:Nat}:snap aj fM (.aY id g off)=Ru (aj id) (collect (snap aj 5)) id g off:=by unfold fM Ru;rw[snap];rfl
section
variable {S:Sys} {al:Al} {ak:Env} {aj:aA} {d:Option Nat}
theorem JP{rd:List Nat}{s:Nat}{b:Bool}(hs:x.scalar=true):land aj rd s ((RV.one (.p x)).fP b)=some (.one (.p x),[]):=by
 have h1:(RV.one (.p x)).fP b=.one (.p x):=by cases b<;>rfl
 rw[h1];have:(RV.one (.p x)).alone=true:=by simp[RV.alone,gK,im,RC.alone,hs]
 simp only[land,this,or_true,if_true];rfl
theorem am8{rd:List Nat}{s:Nat}{K:Env->aA->Prop}(h:aK S f vs (.one (.p x)))(hs:x.scalar=true):I4 S .all (.pc f vs rd s) d ak aj K↔K (put ak d (.one (.p x))) aj:=by
 constructor
 .rintro ⟨y,hy,h2⟩
  have:=hy.zg h;subst this;rw[JP hs] at h2;exact h2.2
 intro hK;refine⟨_,h,?_⟩;rw[JP hs];exact⟨Al.Fy _,hK⟩
theorem am9{rd:List Nat}{s:Nat}{tr:List bY}{K:Env->aA->List bY->Prop}(h:aK S f vs (.one (.p x)))(hs:x.scalar=true):F4 S .all (.pc f vs rd s) d ak aj tr K↔K (put ak d (.one (.p x))) aj (tr++[⟨rd,[],[]⟩]):=by
 constructor
 .rintro ⟨y,hy,h2⟩
  have:=hy.zg h;subst this;rw[JP hs] at h2
  simpa [app] using h2.2
 intro hK;refine⟨_,h,?_⟩;rw[JP hs];exact⟨Al.Fy _,by simpa [app] using hK⟩
theorem aiR{ops:List bG}{Q:dD}:W S al (.region true ops) Q ak aj↔WO S al ops (fun ak aj es=>sZ ops [] es=true/\Q .normal ak aj) ak aj []:=by
 rw[Zd];constructor
 .rintro ⟨n,e,b,es,h1,h2,h3⟩;exact⟨n,e,b,es,h1,h2 rfl,h3⟩
 rintro ⟨n,e,b,es,h1,h2,h3⟩;exact⟨n,e,b,es,h1,fun _=>h2,h3⟩
end
theorem wrap_small{n:Nat}(h:n<=9223372036854775807):IntKind.i64.wrap (n:Int)=n:=Ou h
theorem cA{n:Nat}(h:n<9223372036854775807):IntKind.i64.wrap ((n:Int)+1)=((n+1:Nat):Int):=Ou (n:=n+1) aa
section
variable {S:Sys} {al:Al} {Q:dD} {ak:Env} {aj:aA} {a b:aJ} {ops os all:List bG} {tr:List bY} {d:Option Nat} {op:mW} {n:Nat}
def yF(S:Sys)(al:Al)(b:aJ)(Q:dD):dD
 | .normal,ak,aj=>W S al b Q ak aj
 | .exit i,ak,aj=>Q (.exit i) ak aj
 | .ret,ak,aj=>Q .ret ak aj
theorem auL:KJ (W S al b Q) Q=yF S al b Q:=by funext e ak aj;cases e<;>rfl
theorem YX:W S al (.seq a b) Q ak aj↔W S al a (yF S al b Q) ak aj:=by rw[aiX,auL]
theorem ahF:yF S al b Q .normal ak aj=W S al b Q ak aj:=rfl
theorem ahE{i:Nat}:yF S al b Q (.exit i) ak aj=Q (.exit i) ak aj:=rfl
theorem ahG:yF S al b Q .ret ak aj=Q .ret ak aj:=rfl
def cW (S:Sys)(al:Al)(v:V)(a b:aJ)(Q:dD)(ak:Env)(aj:aA):Prop:=Iv v (W S al a Q ak aj) (W S al b Q ak aj)
theorem YV{x:aR}:W S al (.cond x a b) Q ak aj↔cW S al (ev ak x) a b Q ak aj:=aiQ
theorem ZQ:cW S al (.one (.p (.bool true))) a b Q ak aj=W S al a Q ak aj:=by simp[cW,Iv]
theorem ZP:cW S al (.one (.p (.bool false))) a b Q ak aj=W S al b Q ak aj:=by simp[cW,Iv]
def RN (S:Sys)(al:Al)(ops:List bG)(Q:dD)(ak:Env)(aj:aA):Prop:=WN S al ops (fun ak aj=>Q .normal ak aj) ak aj
def gP (S:Sys)(al:Al)(p:fg)(d:Option Nat)(os:List bG)(Q:dD)(ak:Env)(aj:aA):Prop:=I4 S al p d ak aj (WN S al os fun ak aj=>Q .normal ak aj)
def gW (S:Sys)(al:Al)(w:Option Bool)(d:Option Nat)(op:mW)(os:List bG)(Q:dD)(ak:Env)(aj:aA):Prop:=PG S al w ⟨d,op,none,0⟩ ak aj (WN S al os fun ak aj=>Q .normal ak aj)
theorem YY:W S al (.region false ops) Q ak aj↔RN S al ops Q ak aj:=aiY
theorem YT:RN S al [] Q ak aj↔Q .normal ak aj:=aiK
theorem YU:RN S al (⟨d,op,none,n⟩::os) Q ak aj↔gP S al (bt S.shared ak aj op) d os Q ak aj:=Y0
theorem YS{t:Nat}{w:Bool}:RN S al (⟨d,op,some (t,w),n⟩::os) Q ak aj↔gW S al (Fh (ak t) w) d op os Q ak aj:=by
 unfold RN gW;rw[Y0];have:wanted ak (some (t,w))=Fh (ak t) w:=rfl;simp only[this];cases Fh (ak t) w with
 |none=>rfl
 |some x=>cases x<;>rfl
theorem acE:gW S al (some true) d op os Q ak aj↔gP S al (bt S.shared ak aj op) d os Q ak aj:=Iff.rfl
theorem acD:gW S al (some false) d op os Q ak aj↔RN S al os Q (put ak d .undef) aj:=Iff.rfl
theorem Mj{v:V}{u:List eK}{r:List Nat}:gP S .all (.done v u r) d os Q ak aj↔RN S .all os Q (put ak d v) (app u aj):=by show(Al.all.ft (r++u.map (·.1))=true/\_)↔_;rw[Al.Fy];exact⟨fun h=>h.2,fun h=>⟨rfl,h⟩⟩
theorem acw{v:V}{u:List eK}{r:List Nat}:gP S al (.done v u r) d os Q ak aj↔al.ft (r++u.map (·.1))=true/\RN S al os Q (put ak d v) (app u aj):=Iff.rfl
theorem VH{rd:List Nat}{s:Nat}(h:aK S f vs (.one (.p x)))(hs:x.scalar=true):gP S .all (.pc f vs rd s) d os Q ak aj↔RN S .all os Q (put ak d (.one (.p x))) aj:=am8 h hs
theorem dY{rd:List Nat}{s:Nat}{k:IntKind}{x:Int}(h:aK S f vs (.one (.p (.int k x)))):gP S .all (.pc f vs rd s) d os Q ak aj↔RN S .all os Q (put ak d (.one (.p (.int k x)))) aj:=VH h rfl
theorem dA{rd:List Nat}{s:Nat}{x:Bool}(h:aK S f vs (.one (.p (.bool x)))):gP S .all (.pc f vs rd s) d os Q ak aj↔RN S .all os Q (put ak d (.one (.p (.bool x)))) aj:=VH h rfl
theorem DY{rd:List Nat}{s:Nat}{x:ByteArray}(h:aK S f vs (.one (.p (.str x)))):gP S .all (.pc f vs rd s) d os Q ak aj↔RN S .all os Q (put ak d (.one (.p (.str x)))) aj:=VH h rfl
theorem cV{rd:List Nat}{s:Nat}{r:RV}{v:V}{u:List eK}(hp:aK S f vs r)(h:land aj rd s (r.fP (S.lone s))=some (v,u)):gP S .all (.pc f vs rd s) d os Q ak aj↔RN S .all os Q (put ak d v) (app u aj):=by
 constructor
 .rintro ⟨y,hy,h2⟩
  have:=hy.zg hp;subst this;rw[h] at h2;exact h2.2
 intro hK;refine⟨_,hp,?_⟩;rw[h];exact⟨Al.Fy _,hK⟩
def RD (S:Sys)(al:Al)(all ops:List bG)(Q:dD)(ak:Env)(aj:aA)(tr:List bY):Prop:=WO S al ops (fun ak aj es=>sZ all [] es=true/\Q .normal ak aj) ak aj tr
def dP (S:Sys)(al:Al)(p:fg)(d:Option Nat)(all os:List bG)(Q:dD)(ak:Env)(aj:aA)(tr:List bY):Prop:=F4 S al p d ak aj tr (WO S al os fun ak aj es=>sZ all [] es=true/\Q .normal ak aj)
def dW (S:Sys)(al:Al)(w:Option Bool)(d:Option Nat)(op:mW)(all os:List bG)(Q:dD)(ak:Env)(aj:aA)(tr:List bY):Prop:=Ea S al w ⟨d,op,none,0⟩ ak aj tr (WO S al os fun ak aj es=>sZ all [] es=true/\Q .normal ak aj)
theorem YW:W S al (.region true ops) Q ak aj↔RD S al ops ops Q ak aj []:=aiR
theorem YQ:RD S al all [] Q ak aj tr↔sZ all [] tr=true/\Q .normal ak aj:=St
theorem YR:RD S al all (⟨d,op,none,n⟩::os) Q ak aj tr↔dP S al (bt S.shared ak aj op) d all os Q ak aj tr:=OQ
theorem YP{t:Nat}{w:Bool}:RD S al all (⟨d,op,some (t,w),n⟩::os) Q ak aj tr↔dW S al (Fh (ak t) w) d op all os Q ak aj tr:=by
 unfold RD dW;rw[OQ];have:wanted ak (some (t,w))=Fh (ak t) w:=rfl;simp only[this];cases Fh (ak t) w with
 |none=>rfl
 |some x=>cases x<;>rfl
theorem aay:dW S al (some true) d op all os Q ak aj tr↔dP S al (bt S.shared ak aj op) d all os Q ak aj tr:=Iff.rfl
theorem aax:dW S al (some false) d op all os Q ak aj tr↔RD S al all os Q (put ak d .undef) aj (tr++[⟨[],[],[]⟩]):=Iff.rfl
theorem LQ{v:V}{u:List eK}{r:List Nat}:dP S .all (.done v u r) d all os Q ak aj tr↔RD S .all all os Q (put ak d v) (app u aj) (tr++[⟨r,u.map (·.1),[]⟩]):=by show(Al.all.ft (r++u.map (·.1))=true/\_)↔_;rw[Al.Fy];exact⟨fun h=>h.2,fun h=>⟨rfl,h⟩⟩
theorem aav{v:V}{u:List eK}{r:List Nat}:dP S al (.done v u r) d all os Q ak aj tr↔al.ft (r++u.map (·.1))=true/\RD S al all os Q (put ak d v) (app u aj) (tr++[⟨r,u.map (·.1),[]⟩]):=Iff.rfl
theorem Tp{rd:List Nat}{s:Nat}(h:aK S f vs (.one (.p x)))(hs:x.scalar=true):dP S .all (.pc f vs rd s) d all os Q ak aj tr↔RD S .all all os Q (put ak d (.one (.p x))) aj (tr++[⟨rd,[],[]⟩]):=am9 h hs
theorem gJ{rd:List Nat}{s:Nat}{k:IntKind}{x:Int}(h:aK S f vs (.one (.p (.int k x)))):dP S .all (.pc f vs rd s) d all os Q ak aj tr↔RD S .all all os Q (put ak d (.one (.p (.int k x)))) aj (tr++[⟨rd,[],[]⟩]):=Tp h rfl
theorem mE{rd:List Nat}{s:Nat}{x:Bool}(h:aK S f vs (.one (.p (.bool x)))):dP S .all (.pc f vs rd s) d all os Q ak aj tr↔RD S .all all os Q (put ak d (.one (.p (.bool x)))) aj (tr++[⟨rd,[],[]⟩]):=Tp h rfl
theorem aaw{rd:List Nat}{s:Nat}{x:ByteArray}(h:aK S f vs (.one (.p (.str x)))):dP S .all (.pc f vs rd s) d all os Q ak aj tr↔RD S .all all os Q (put ak d (.one (.p (.str x)))) aj (tr++[⟨rd,[],[]⟩]):=Tp h rfl
theorem FQ{rd:List Nat}{s:Nat}{r:RV}{v:V}{u:List eK}(hp:aK S f vs r)(h:land aj rd s (r.fP (S.lone s))=some (v,u)):dP S .all (.pc f vs rd s) d all os Q ak aj tr↔RD S .all all os Q (put ak d v) (app u aj) (tr++[⟨rd++u.map (·.1),u.map (·.1),[]⟩]):=by
 constructor
 .rintro ⟨y,hy,h2⟩
  have:=hy.zg hp;subst this;rw[h] at h2;exact h2.2
 intro hK;refine⟨_,hp,?_⟩;rw[h];exact⟨Al.Fy _,hK⟩
def Kc(N:Nat)(I:Nat->Env->aA->Prop)(k:Nat)(Q:dD):dD:=KJ (fun ak aj=>k<N/\I (k+1) ak aj) Q
theorem aft{N k:Nat}{I:Nat->Env->aA->Prop}:Kc N I k Q .normal ak aj=(k<N/\I (k+1) ak aj):=rfl
theorem afs{N k i:Nat}{I:Nat->Env->aA->Prop}:Kc N I k Q (.exit i) ak aj=Q (.exit i) ak aj:=rfl
theorem afu{N k:Nat}{I:Nat->Env->aA->Prop}:Kc N I k Q .ret ak aj=Q .ret ak aj:=rfl
theorem cU{c:aJ}(I:Nat->Env->aA->Prop)(k0 N:Nat)(hk:k0<=N)(h0:I k0 ak aj)
  (round:∀k ak aj,k<=N->I k ak aj->W S al c (Kc N I k Q) ak aj):W S al (.loop c) Q ak aj:=aiT I k0 N hk h0 round
def L4(R:V->aA->Prop)(aj:aA):Option (List V)->Prop
 |some vs=>R (Ah vs) aj
 |none=>False
theorem YJ{res:List (Nat×Option (Option Nat))}{R:V->aA->Prop}:mH al res R .ret ak aj=L4 R aj (oF al ak aj res):=by simp only[mH,L4];cases oF al ak aj res<;>rfl
theorem YI{res:List (Nat×Option (Option Nat))}{R:V->aA->Prop}:mH al res R .normal ak aj=L4 R aj (oF al ak aj res):=by simp only[mH,L4];cases oF al ak aj res<;>rfl
theorem aaM{R:V->aA->Prop}{vs:List V}:L4 R aj (some vs)=R (Ah vs) aj:=rfl
end
section
variable {S:Sys} {al:Al} {Q:dD} {ak:Env} {aj:aA}
def QE(S:Sys)(al:Al)(c:aJ)(Q:dD):dD
 | .normal,ak,aj=>W S al (.loop c) Q ak aj
 | .exit i,ak,aj=>Q (.exit i) ak aj
 | .ret,ak,aj=>Q .ret ak aj
theorem ae0{c:aJ}:QE S al c Q .normal ak aj=W S al (.loop c) Q ak aj:=rfl
theorem aeZ{c:aJ}{i:Nat}:QE S al c Q (.exit i) ak aj=Q (.exit i) ak aj:=rfl
theorem ae1{c:aJ}:QE S al c Q .ret ak aj=Q .ret ak aj:=rfl
theorem rm{c:aJ}(h:W S al c (QE S al c Q) ak aj):W S al (.loop c) Q ak aj:=by
 obtain⟨n,e,ik,bQ,h1,h2⟩:=h;cases e with
 |normal=>obtain⟨m,e,cZ,bj,h3,h4⟩:=h2;refine⟨max n m+1,e,cZ,bj,?_,h4⟩;simp only[exec] at h3 ⊢;simp only[iter];rw[zk S aa h1];exact Qw S aa aa h3
 |exit i=>exact⟨n+1,_,_,_,by simp[exec,iter,zk S (Le n) h1],h2⟩
 |ret=>exact⟨n+1,_,_,_,by simp[exec,iter,zk S (Le n) h1],h2⟩
end
theorem iF.zg{S:Sys}{args:List V}{al:Al}{aj:aA}{v v':V}{b b':aA}(h:iF S f args al aj v b)(h':iF S f args al aj v' b'):v=v'/\b=b':=by obtain⟨n,hn⟩:=h;obtain⟨m,hm⟩:=h';have a:=LF S (Fo n m) _ _ _ _ _ hn;have c:=LF S (HN n m) _ _ _ _ _ hm;rw[a] at c;have:=rj c;exact⟨congrArg Prod.fst this,congrArg Prod.snd this⟩
section
variable {S:Sys} {al:Al} {Q:dD} {ak:Env} {aj:aA} {os all:List bG} {tr:List bY} {d:Option Nat}
theorem GY:al.ft []=true:=rfl
theorem Kk{a:Nat}{l:List Nat}:al.ft (a::l)=(al.ok a&&al.ft l):=rfl
def Kept(K:Nat->Prop)(b b':aA):Prop:=∀id,¬K id->b' id=b id
theorem Kept.refl(K:Nat->Prop)(b:aA):Kept K b b:=fun _ _=>rfl
theorem Kept.trans{K:Nat->Prop}{a b c:aA}(h:Kept K a b)(h2:Kept K b c):Kept K a c:=fun id hk=>(h2 id hk).trans (h id hk)
theorem Kept.dJ{K:Nat->Prop}{b b':aA}(h:Kept K b b'){k:Nat}(hk:K k)(x:Nat×Option Ob):Kept K b (dJ b' k x):=fun id hn=>by rw[aN,ay (by rintro rfl;exact hn hk)];exact h id hn
theorem amZ{v:V}{ao:aA}(hh:al.holds (allow (S.ctx al) f vs aj)=true)(h:iF S f vs (allow (S.ctx al) f vs aj) aj v ao):gP S al (.sc f vs) d os Q ak aj↔RN S al os Q (put ak d v) ao:=by
 constructor
 .rintro ⟨_,v2,b2,h2,h3⟩
  obtain⟨rfl,rfl⟩:=h.zg h2;exact h3
 intro h3;exact⟨hh,v,ao,h,h3⟩
theorem acv{rd:List Nat}{s:Nat}(h:aK S f vs (.one (.p x)))(hs:x.scalar=true):gP S al (.pc f vs rd s) d os Q ak aj↔al.ft (rd++[])=true/\RN S al os Q (put ak d (.one (.p x))) aj:=by
 constructor
 .rintro ⟨y,hy,h2⟩
  have:=hy.zg h;subst this;rw[JP hs] at h2;exact h2
 rintro ⟨ho,hK⟩
 refine⟨_,h,?_⟩;rw[JP hs];exact⟨ho,hK⟩
theorem Mk{rd:List Nat}{s:Nat}{k:IntKind}{x:Int}(h:aK S f vs (.one (.p (.int k x)))):gP S al (.pc f vs rd s) d os Q ak aj↔al.ft (rd++[])=true/\RN S al os Q (put ak d (.one (.p (.int k x)))) aj:=acv h rfl
theorem acu{rd:List Nat}{s:Nat}{x:Bool}(h:aK S f vs (.one (.p (.bool x)))):gP S al (.pc f vs rd s) d os Q ak aj↔al.ft (rd++[])=true/\RN S al os Q (put ak d (.one (.p (.bool x)))) aj:=acv h rfl
theorem amn{f:Int->List PV}(q:Int):∀(ids:List Int) (i:Nat),oU (.int .i64 q) (ids.map fun id=>(PV.int .i64 id,f id)) i=some (if q∈ids then some (i+ids.idxOf q,f q) else none):=by
 intro ids
 induction ids with
 |nil=>intro i;rfl
 |cons a ids ih=>
  intro i;simp only[dK,oU,sameKey,if_true];by_cases e:q=a
  .subst e;simp
  have e':(q==a)=false:=by simpa using e
  have e2:¬(a=q):=fun h=>e h.symm;simp only[e'];rw[ih];simp only[cM,e,false_or,Sh,dI,e2,cond_false];by_cases h:q∈ids
  .have e3:(a==q)=false:=by simpa using e2
   simp[h,e3];omega
  simp[h]
theorem qK{f:Nat}{vs:List V}{P:V->aA->Prop}(hh:al.holds (allow (S.ctx al) f vs aj)=true)(h:∃v ao,iF S f vs (allow (S.ctx al) f vs aj) aj v ao/\P v ao)
  (hK:∀v ao,P v ao->RN S al os Q (put ak d v) ao):gP S al (.sc f vs) d os Q ak aj:=by
 obtain⟨v,ao,h1,h2⟩:=h;exact(amZ hh h1).2 (hK v ao h2)
theorem yj{Ll:Al}:Al.all.holds Ll=true:=rfl
theorem holds_of{Ll:Al}(h1:al.ft Ll.ids=true)(h2:Ll.fs.all al.fs.contains=true):al.holds Ll=true:=by unfold Al.holds;rw[h1,h2];simp
theorem um{id:Nat}(h:(S.sites f).contains (iN id)=true):(allow (S.ctx al) f vs aj).ok id=true:=by show(false||_||(S.sites f).contains (iN id))=true;rw[h];simp
theorem r7{id:Nat}(h:id∈(vs.map (jc aj)).flatten):(allow (S.ctx al) f vs aj).ok id=true:=by
 show(false||(vs.map (jc aj)).flatten.contains id||_)=true;have:(vs.map (jc aj)).flatten.contains id=true:=by simpa using h
 rw[this];rfl
theorem Kv{id g g0 o:Nat}{cs:List C}(h:aj id=(g0,some (.var cs))):jc aj (.one (.aY id g o))=id::(cs.map (jK aj 5)).flatten:=by show jK aj 6 (.aY id g o)=_;rw[jK,h]
theorem Ku{n:Nat}{v:PV}:jK aj n (.p v)=[]:=by cases n<;>rfl
theorem Dj{id g g0 o l sz n:Nat}(h:aj id=(g0,some (.arr ty sz es))):jK aj (n+1) (.hsl id g z o l)=[id]:=by rw[jK,h]
def XW(x:Nat×Option Ob)(id g:Nat):Option (PV×List Nat):=match x with
 |(g',some (.map ag es))=>if g'=g then some (.mp ag es,[id]) else none
 |(g',some (.fmap ag es))=>if g'=g then some (.mp ag es,[id]) else none
 |_=>none
theorem ahl{n id g:Nat}:snap aj (n+1) (.jW id g)=XW (aj id) id g:=by rw[snap];rfl
end
theorem Rd:type_of%(And.intro @YX<|And.intro @YY<|And.intro @YW<|And.intro @Za<|And.intro @YV<|And.intro @YU<|And.intro @YS<|And.intro @YT<|And.intro @YR<|And.intro @YP<|And.intro @YQ<|And.intro @Ze<|And.intro @Zf<|And.intro @Zb<|And.intro @ahF<|And.intro @ahE<|And.intro @ahG<|And.intro @ZK<|And.intro @ZL<|And.intro @ZJ<|And.intro @aft<|And.intro @afs<|And.intro @afu<|And.intro @ae0<|And.intro @aeZ @ae1):=And.intro @YX<|And.intro @YY<|And.intro @YW<|And.intro @Za<|And.intro @YV<|And.intro @YU<|And.intro @YS<|And.intro @YT<|And.intro @YR<|And.intro @YP<|And.intro @YQ<|And.intro @Ze<|And.intro @Zf<|And.intro @Zb<|And.intro @ahF<|And.intro @ahE<|And.intro @ahG<|And.intro @ZK<|And.intro @ZL<|And.intro @ZJ<|And.intro @aft<|And.intro @afs<|And.intro @afu<|And.intro @ae0<|And.intro @aeZ @ae1
theorem Rt:type_of%(And.intro @ZQ<|And.intro @ZP<|And.intro @acE<|And.intro @acD<|And.intro @aay<|And.intro @aax<|And.intro @ah1<|And.intro @ah2<|And.intro @aaW<|And.intro @aaU<|And.intro @aaT<|And.intro @aaV<|And.intro @agm<|And.intro @agk<|And.intro @aN<|And.intro @adH<|And.intro @adG<|And.intro @YJ<|And.intro @YI<|And.intro @aaM<|And.intro @afT<|And.intro @norm_int<|And.intro @afy<|And.intro @afG<|And.intro @afE<|And.intro @afF<|And.intro @Xi<|And.intro @afz<|And.intro @afD<|And.intro @afB<|And.intro @afC<|And.intro @afA<|And.intro @ahj<|And.intro @ahi<|And.intro @ahe<|And.intro @ahh<|And.intro @bft<|And.intro @btf<|And.intro @bff<|And.intro @btt<|And.intro @Zw<|And.intro @Rw<|And.intro @aag<|And.intro @aaa<|And.intro @Z8<|And.intro @ahf<|And.intro @Zv<|And.intro @ahg<|And.intro @ahn<|And.intro @ahm @aho):=And.intro @ZQ<|And.intro @ZP<|And.intro @acE<|And.intro @acD<|And.intro @aay<|And.intro @aax<|And.intro @ah1<|And.intro @ah2<|And.intro @aaW<|And.intro @aaU<|And.intro @aaT<|And.intro @aaV<|And.intro @agm<|And.intro @agk<|And.intro @aN<|And.intro @adH<|And.intro @adG<|And.intro @YJ<|And.intro @YI<|And.intro @aaM<|And.intro @afT<|And.intro @norm_int<|And.intro @afy<|And.intro @afG<|And.intro @afE<|And.intro @afF<|And.intro @Xi<|And.intro @afz<|And.intro @afD<|And.intro @afB<|And.intro @afC<|And.intro @afA<|And.intro @ahj<|And.intro @ahi<|And.intro @ahe<|And.intro @ahh<|And.intro @bft<|And.intro @btf<|And.intro @bff<|And.intro @btt<|And.intro @Zw<|And.intro @Rw<|And.intro @aag<|And.intro @aaa<|And.intro @Z8<|And.intro @ahf<|And.intro @Zv<|And.intro @ahg<|And.intro @ahn<|And.intro @ahm @aho
theorem Rl:type_of%(And.intro @List.map_nil.{0,0}<|And.intro @List.append_nil.{0}<|And.intro @List.map_cons.{0,0}<|And.intro @List.cons_append.{0}<|And.intro @List.nil_append.{0}<|And.intro @List.drop_zero.{0}<|And.intro @List.take_zero.{0}<|And.intro @List.length_cons.{0}<|And.intro @List.length_nil.{0}<|And.intro @List.take_succ_cons.{0}<|And.intro @List.drop_nil.{0}<|And.intro @List.drop_succ_cons.{0}<|And.intro @List.length_map.{0,0}<|And.intro @List.take_nil.{0}<|And.intro @List.flatten_cons.{0}<|And.intro @List.getElem?_cons_zero.{0}<|And.intro @List.getElem?_cons_succ.{0}<|And.intro @List.all_nil.{0}<|And.intro @List.all_cons.{0}<|And.intro @List.not_mem_nil.{0} @Option.map_some.{0,0}):=And.intro @List.map_nil.{0,0}<|And.intro @List.append_nil.{0}<|And.intro @List.map_cons.{0,0}<|And.intro @List.cons_append.{0}<|And.intro @List.nil_append.{0}<|And.intro @List.drop_zero.{0}<|And.intro @List.take_zero.{0}<|And.intro @List.length_cons.{0}<|And.intro @List.length_nil.{0}<|And.intro @List.take_succ_cons.{0}<|And.intro @List.drop_nil.{0}<|And.intro @List.drop_succ_cons.{0}<|And.intro @List.length_map.{0,0}<|And.intro @List.take_nil.{0}<|And.intro @List.flatten_cons.{0}<|And.intro @List.getElem?_cons_zero.{0}<|And.intro @List.getElem?_cons_succ.{0}<|And.intro @List.all_nil.{0}<|And.intro @List.all_cons.{0}<|And.intro @List.not_mem_nil.{0} @Option.map_some.{0,0}
theorem Rb:type_of%(And.intro @Bool.false_eq_true<|And.intro @Bool.not_true<|And.intro @Bool.not_false<|And.intro @Bool.and_true<|And.intro @Bool.and_false<|And.intro @Bool.true_and<|And.intro @Bool.false_and<|And.intro @true_and<|And.intro @and_true<|And.intro @true_or<|And.intro @or_true<|And.intro @false_or<|And.intro @or_false<|And.intro @decide_true<|And.intro @decide_false<|And.intro @not_true_eq_false<|And.intro @not_false_eq_true<|And.intro @and_self<|And.intro @Nat.le_refl<|And.intro @Nat.zero_add<|And.intro @Nat.mul_one<|And.intro @Nat.zero_mul<|And.intro @Nat.zero_le<|And.intro @Nat.sub_zero @Int.zero_add):=And.intro @Bool.false_eq_true<|And.intro @Bool.not_true<|And.intro @Bool.not_false<|And.intro @Bool.and_true<|And.intro @Bool.and_false<|And.intro @Bool.true_and<|And.intro @Bool.false_and<|And.intro @true_and<|And.intro @and_true<|And.intro @true_or<|And.intro @or_true<|And.intro @false_or<|And.intro @or_false<|And.intro @decide_true<|And.intro @decide_false<|And.intro @not_true_eq_false<|And.intro @not_false_eq_true<|And.intro @and_self<|And.intro @Nat.le_refl<|And.intro @Nat.zero_add<|And.intro @Nat.mul_one<|And.intro @Nat.zero_mul<|And.intro @Nat.zero_le<|And.intro @Nat.sub_zero @Int.zero_add
def grown(site ty z:Nat)(es:List (List PV))(v:V)(aj:aA):Prop:=(es=[]/\v=.one (.p .nils))\/(es≠[]/\ ∃g,v=.one (.hsl site g z 0 es.length)/\aj site=(g,some (.arr ty z es)))
def aT(ty z:Nat)(es:List (List PV)):RC:=if es=[] then .p .nils else .own ty z es
theorem grown.of_eq{v:V}{aj ao:aA}(h:grown site ty z es v aj)(hb:ao site=aj site):grown site ty z es v ao:=by
 rcases h with h|⟨h1,g,h2,h3⟩
 .exact .inl h
 exact .inr ⟨h1,g,h2,by rw[hb,h3]⟩
theorem grown.nil{aj:aA}:grown site ty z [] (.one (.p .nils)) aj:=.inl ⟨rfl,rfl⟩
theorem grown.jv{v:V}{aj:aA}(h:grown site ty z es v aj):∃c o,v=.one c/\jv aj c=some (aT ty z es,o,[])/\(o=[]\/o=[site]):=by
 rcases h with ⟨h1,h2⟩|⟨h1,g,h2,h3⟩
 .exact⟨.p .nils,[],h2,by simp[Go.Abs.jv,aT,h1],.inl rfl⟩
 refine⟨_,[site],h2,?_,.inr rfl⟩;simp only[Go.Abs.jv,h3,and_self,bJ,if_true,jQ,aT,ay h1]
theorem zt{v:V}{aj:aA}(h:grown site ty z es v aj):iE aj v=some (.one (aT ty z es)):=by
 obtain⟨c,o,rfl,h2,h3⟩:=h.jv;rcases h3 with rfl|rfl
 .simp[iE,sv,ng,mj,h2,apart,uS,rU]
 simp[iE,sv,ng,mj,h2,apart,uS,rU]
theorem PH{s1 t1 z1 s2 t2 z2:Nat}{fs:List (List PV)}{v w:V}{aj:aA}(hs:s1≠s2)(h:grown s1 t1 z1 es v aj)(h':grown s2 t2 z2 fs w aj):iE aj (.tup [v,w])=some (.tup [.one (aT t1 z1 es),.one (aT t2 z2 fs)]):=by obtain⟨c,o,rfl,h2,h3⟩:=h.jv;obtain⟨d,q,rfl,k2,k3⟩:=h'.jv;rcases h3 with rfl|rfl<;>rcases k3 with rfl|rfl<;>simp[iE,sv,ux,ng,mj,h2,k2,apart,uS,rU,Ag,hs]
theorem grown.elems{v:V}{aj:aA}(h:grown site ty z es v aj):∃r,fh aj v=some (es,r,[])/\(r=[]\/r=[site]):=by
 rcases h with ⟨h1,h2⟩|⟨h1,g,h2,h3⟩
 .exact⟨[],by rw[h2,h1];rfl,.inl rfl⟩
 refine⟨[site],?_,.inr rfl⟩;rw[h2];simp[fh,h3]
theorem grown.mr{v:V}{aj:aA}(h:grown site ty z es v aj):es=[]\/mr v=some z:=by
 rcases h with ⟨h1,h2⟩|⟨h1,g,h2,h3⟩
 .exact .inl h1
 exact .inr (by rw[h2];rfl)
theorem grown.gV{v:V}{aj:aA}(h:grown site ty z es v aj):Go.Abs.mr v=some z\/gV z es=true:=by
 rcases h.mr with h|h
 .exact .inr (by rw[h];rfl)
 exact .inl h
theorem grown.len{v:V}{aj:aA}(h:grown site ty z es v aj):yw v=some es.length:=by
 rcases h with ⟨h1,h2⟩|⟨h1,g,h2,h3⟩
 .rw[h1,h2];rfl
 rw[h2];rfl
theorem grown.snap{v:V}{aj:aA}(h:grown site ty z es v aj):∃r,nA aj v=some (.one (.p (.sl es)),r)/\(r=[]\/r=[site]):=by
 rcases h with ⟨h1,h2⟩|⟨h1,g,h2,h3⟩
 .exact⟨[],by rw[h2,h1];rfl,.inl rfl⟩
 refine⟨[site],?_,.inr rfl⟩;rw[h2];simp[nA,fM,Go.Abs.snap,h3]
theorem grown.XT{c:C}{aj:aA}(h:grown site ty z es (.one c) aj){n:Nat}:∃r,Go.Abs.snap aj (n+1) c=some (.sl es,r)/\(r=[]\/r=[site]):=by
 rcases h with ⟨h1,h2⟩|⟨h1,g,h2,h3⟩
 .cases h2;exact⟨[],by rw[h1];rfl,.inl rfl⟩
 refine⟨[site],?_,.inr rfl⟩;cases h2;simp[Go.Abs.snap,h3]
section
variable {S:Sys} {al:Al} {Q:dD} {ak:Env} {aj:aA} {os all:List bG} {tr:List bY} {d:Option Nat}
theorem Q5{id bytes:Nat}{xs:List (List PV)}{v x:V}{rd:List Nat}(hg:grown id ty z es v aj)(hx:fh aj x=some (xs,rd,[]))(hz:mr x=some z\/gV z xs=true)(hr:(es.length+xs.length)*bytes<=140737488355328):
  ∃v' u r,fL aj site ty z bytes v x=.done v' u r/\grown site ty z (es++xs) v' (app u aj)/\(∀i,i≠site->i≠id->app u aj i=aj i)/\(r=rd/\u.map (·.1)=[]\/r=site::rd/\u.map (·.1)=[site]\/r=site::id::rd/\u.map (·.1)=[id,site]):=by
 have qq:¬¬(mr x=some z\/gV z xs=true):=fun h=>h hz;rcases hg with ⟨rfl,rfl⟩|⟨aI,g,rfl,hC⟩
 .by_cases h0:xs=[]
  .subst h0;refine⟨.one (.p .nils),[],rd,?_,.inl ⟨rfl,rfl⟩,fun i _ _=>rfl,.inl ⟨rfl,rfl⟩⟩;simp[fL,hx,qq,sA,uy]
  have hl:¬xs.length=0:=by simpa using h0
  have qj:xs.length*bytes<=room:=by simpa [room] using hr
  refine⟨.one (.hsl site ((aj site).1+1) z 0 xs.length),[(site,((aj site).1+1,some (.arr ty z xs)))],site::rd,?_,.inr ⟨by simpa using h0,(aj site).1+1,af,?_⟩,fun i h1 _=>?_,.inr (.inl ⟨rfl,rfl⟩)⟩
  .simp only[fL,hx,ay qq,sA,uy,ay hl,aF qj];simp
  .simp[app,aN]
  simp[app,aN,h1]
 have qj:(es.length+xs.length)*bytes<=room:=by simpa [room] using hr
 refine⟨.one (.hsl site ((aj site).1+1) z 0 (es.length+xs.length)),[(id,(g,none)),(site,((aj site).1+1,some (.arr ty z (es++xs))))],site::id::rd,?_,.inr ⟨by simp[aI],(aj site).1+1,af,?_⟩,fun i h1 h2=>?_,.inr (.inr ⟨rfl,rfl⟩)⟩
 .simp only[fL,hx,ay qq,sA,uy,hC];simp[qj]
 .simp[app,aN]
 simp[app,aN,h1,h2]
theorem sB{id site ty z bytes:Nat}{es xs:List (List PV)}{v x:V}{rd:List Nat}(hg:grown id ty z es v aj)(hx:fh aj x=some (xs,rd,[]))(hz:mr x=some z\/gV z xs=true)(hr:(es.length+xs.length)*bytes<=140737488355328)
  (hK:∀(c:C) ao,grown site ty z (es++xs) (.one c) ao->(∀i,i≠site->i≠id->ao i=aj i)->RN S .all os Q (put ak d (.one c)) ao):gP S .all (fL aj site ty z bytes v x) d os Q ak aj:=by
 obtain⟨v',u,r,h1,h2,h3,_⟩:=Q5 hg hx hz hr;obtain⟨c,o,rfl,_⟩:=h2.jv;rw[h1,Mj];exact hK _ _ h2 h3
theorem AO{id site ty z bytes:Nat}{es xs:List (List PV)}{v x:V}{rd:List Nat}(hg:grown id ty z es v aj)(hx:fh aj x=some (xs,rd,[]))(hz:mr x=some z\/gV z xs=true)(hr:(es.length+xs.length)*bytes<=140737488355328)
  (hK:∀(c:C) ao r w,grown site ty z (es++xs) (.one c) ao->(∀i,i≠site->i≠id->ao i=aj i)->(r=rd/\w=[]\/r=site::rd/\w=[site]\/r=site::id::rd/\w=[id,site])->RD S .all all os Q (put ak d (.one c)) ao (tr++[⟨r,w,[]⟩])):dP S .all (fL aj site ty z bytes v x) d all os Q ak aj tr:=by
 obtain⟨v',u,r,h1,h2,h3,h4⟩:=Q5 hg hx hz hr;obtain⟨c,o,rfl,_⟩:=h2.jv;rw[h1,LQ];exact hK _ _ _ _ h2 h3 h4
theorem sV{s:Nat}:grown s ty z es (.one (df aj s (aT ty z es)).1) (app (df aj s (aT ty z es)).2 aj)/\(∀i,i≠s->app (df aj s (aT ty z es)).2 aj i=aj i)/\((df aj s (aT ty z es)).2.map (·.1)=[]\/(df aj s (aT ty z es)).2.map (·.1)=[s]):=by
 unfold aT;by_cases h:es=[]
 .rw[aF h];exact⟨.inl ⟨h,rfl⟩,fun i _=>rfl,.inl rfl⟩
 rw[ay h];exact⟨.inr ⟨h,(aj s).1+1,rfl,by simp[df,app,aN]⟩,fun i hi=>by simp[df,app,aN,hi],.inr rfl⟩
theorem vP(r:RV):r.fP false=r:=rfl
theorem rC{f:Nat}{vs:List V}{s ty z:Nat}{rd:List Nat}{es:List (List PV)}(hp:aK S f vs (.one (aT ty z es)))(eG:S.lone s=false)(qk:rd=[]\/(RV.one (aT ty z es)).alone=true)
  (hK:∀(c:C) ao,grown s ty z es (.one c) ao->(∀i,i≠s->ao i=aj i)->RN S .all os Q (put ak d (.one c)) ao):gP S .all (.pc f vs rd s) d os Q ak aj:=by
 obtain⟨h1,h2,_⟩:=sV (aj:=aj) (s:=s) (ty:=ty) (z:=z) (es:=es);refine(cV (v:=.one (df aj s (aT ty z es)).1) (u:=(df aj s (aT ty z es)).2) hp ?_).2 (hK _ _ h1 h2);rw[eG,vP];unfold land;rw[aF qk];simp[ju,gK,im,iY,qY,mq]
theorem acy{f:Nat}{vs:List V}{s t1 z1 t2 z2:Nat}{es fs:List (List PV)}(hp:aK S f vs (.tup [.one (aT t1 z1 es),.one (aT t2 z2 fs)]))(eG:S.lone s=false)
  (hK:∀(c e:C) ao,grown s t1 z1 es (.one c) ao->grown (s+1) t2 z2 fs (.one e) ao->(∀i,i≠s->i≠s+1->ao i=aj i)->RN S .all os Q (put ak d (.tup [.one c,.one e])) ao):gP S .all (.pc f vs [] s) d os Q ak aj:=by
 obtain⟨h1,h2,_⟩:=sV (aj:=aj) (s:=s) (ty:=t1) (z:=z1) (es:=es);have e0:∀(b b':aA) (k:Nat) (r:RC),b' k=b k->df b k r=df b' k r:=by
  intro b b' k r h;cases r with
  |p v=>rfl
  |own ty sz es=>simp only[df,h]
 have e2:df aj (s+1) (aT t2 z2 fs)=df (app (df aj s (aT t1 z1 es)).2 aj) (s+1) (aT t2 z2 fs):=e0 _ _ _ _ (h2 (s+1) aa);obtain⟨k1,k2,_⟩:=sV (aj:=app (df aj s (aT t1 z1 es)).2 aj) (s:=s+1) (ty:=t2) (z:=z2) (es:=fs);rw[<- e2] at k1 k2;have Ga:∀(a b:List eK) (c:aA),app (a++b) c=app b (app a c):=by
  intro a
  induction a with
  |nil=>intro b c;rfl
  |cons x a ih=>intro b c;exact ih b _
 refine(cV (v:=.tup [.one (df aj s (aT t1 z1 es)).1,.one (df aj (s+1) (aT t2 z2 fs)).1]) (u:=(df aj s (aT t1 z1 es)).2++(df aj (s+1) (aT t2 z2 fs)).2) hp ?_).2 (hK _ _ _ ?_ ?_ ?_)
 .rw[eG,vP];unfold land;rw[aF (.inl rfl)];simp[ju,gK,mI,im,iY,qY,rV,mq]
 .rw[Ga];exact h1.of_eq (k2 s aa)
 .rw[Ga];exact k1
 intro i a b;rw[Ga,k2 i b,h2 i a]
end
theorem qD(h:(es.all fun e=>e.all PV.scalar)=true):(RV.one (aT ty z es)).alone=true:=by
 unfold aT;split
 .rfl
 simp[RV.alone,gK,im,RC.alone,h]
theorem grown.fM{c:C}{aj:aA}(h:grown site ty z es (.one c) aj):∃r,Go.Abs.snap aj Go.Abs.fM c=some (.sl es,r)/\(r=[]\/r=[site]):=h.XT
def oJ(aj:aA)(r:List Nat):Prop:=∀i∈r,∃g ty z es,aj i=(g,some (.arr ty z es))
theorem oJ.nil{aj:aA}:oJ aj []:=fun _ h=>by simp at h
theorem oJ.app{aj:aA}{a b:List Nat}(h:oJ aj a)(k:oJ aj b):oJ aj (a++b):=fun i hi=>by
 rcases eD.1 hi with hi|hi
 .exact h i hi
 exact k i hi
theorem grown.Rs{c:C}{aj:aA}(h:grown site ty z es (.one c) aj):∃r,Go.Abs.snap aj Go.Abs.fM c=some (.sl es,r)/\oJ aj r/\(r=[]\/r=[site]):=by
 rcases h with ⟨h1,h2⟩|⟨h1,g,h2,h3⟩
 .cases h2;exact⟨[],by rw[h1];rfl,oJ.nil,.inl rfl⟩
 refine⟨[site],?_,fun i hi=>?_,.inr rfl⟩
 .cases h2;simp[Go.Abs.snap,Go.Abs.fM,h3]
 rw[lD] at hi;subst hi;exact⟨_,_,_,_,h3⟩
theorem VD{aj:aA}(all:List Nat):∀r:List Nat,oJ aj r->∃fu,uy aj all r=some fu/\fu.map (·.1)=r:=by
 intro r
 induction r with
 |nil=>intro _;exact⟨[],rfl,rfl⟩
 |cons i r ih=>intro h;obtain⟨g,ty,z,es,hi⟩:=h i af;obtain⟨fu,h1,h2⟩:=ih fun j hj=>h j (by simp[hj]);refine⟨(i,(g,some (.oR ty z es)))::fu,?_,by simp[h2]⟩;simp[uy,xK,hi,h1]
theorem FB:∀(u:List eK) (b:aA) (i:Nat),i∉u.map (·.1)->app u b i=b i:=by
 intro u
 induction u with
 |nil=>intro b i _;rfl
 |cons x u ih=>intro b i h;simp only[dK,cM,Au] at h;show app u (dJ b x.1 x.2) i=b i;rw[ih _ _ h.2,aN,ay h.1]
theorem yV:∀(a b:List eK) (c:aA),app (a++b) c=app b (app a c):=by
 intro a
 induction a with
 |nil=>intro b c;rfl
 |cons x a ih=>intro b c;exact ih b _
section
variable {S:Sys} {al:Al} {Q:dD} {ak:Env} {aj:aA} {os all:List bG} {tr:List bY} {d:Option Nat}
theorem amP{id site ty z bytes:Nat}{es xs:List (List PV)}{v x:V}{rd fr:List Nat}(hg:grown id ty z es v aj)(hx:fh aj x=some (xs,rd,fr))(kO:oJ aj fr)(hni:id∉fr)(vz:site∉fr)(hz:mr x=some z\/gV z xs=true)(hr:(es.length+xs.length)*bytes<=140737488355328)
  (hK:∀(c:C) ao,grown site ty z (es++xs) (.one c) ao->(∀i,i≠site->i≠id->i∉fr->ao i=aj i)->RN S .all os Q (put ak d (.one c)) ao):gP S .all (fL aj site ty z bytes v x) d os Q ak aj:=by
 have qq:¬¬(mr x=some z\/gV z xs=true):=fun h=>h hz;obtain⟨fu,Jh,xX⟩:=VD fr fr kO;have Gi:sA aj fr=some fu:=Jh;rcases hg with ⟨rfl,rfl⟩|⟨aI,g,rfl,hC⟩
 .by_cases h0:xs=[]
  .subst h0;have:fL aj site ty z bytes (.one (.p .nils)) x=.done (.one (.p .nils)) fu (rd++fr):=by simp[fL,hx,qq,Gi]
   rw[this,Mj];exact hK _ _ (.inl ⟨rfl,rfl⟩) fun i _ _ h3=>FB _ _ _ (by rw[xX];exact h3)
  have hl:¬xs.length=0:=by simpa using h0
  have qj:xs.length*bytes<=room:=by simpa [room] using hr
  have:fL aj site ty z bytes (.one (.p .nils)) x=.done (.one (.hsl site ((aj site).1+1) z 0 xs.length)) (fu++[(site,((aj site).1+1,some (.arr ty z xs)))]) (site::rd++fr):=by simp only[fL,hx,ay qq,Gi,ay hl,aF qj]
  rw[this,Mj];refine hK _ _ (.inr ⟨by simpa using h0,(aj site).1+1,af,?_⟩) fun i h1 _ h3=>?_
  .rw[yV];simp[app,aN]
  rw[yV];have:=FB fu aj i (by rw[xX];exact h3);simp[app,aN,h1,this]
 have qj:(es.length+xs.length)*bytes<=room:=by simpa [room] using hr
 have M7:fr.contains id=false:=by simpa using hni
 have:fL aj site ty z bytes (.one (.hsl id g z 0 es.length)) x=.done (.one (.hsl site ((aj site).1+1) z 0 (es.length+xs.length))) (fu++[(id,(g,none)),(site,((aj site).1+1,some (.arr ty z (es++xs))))]) (site::id::rd++fr):=by simp only[fL,hx,ay qq,Gi,hC,M7];simp[qj]
 rw[this,Mj];refine hK _ _ (.inr ⟨by simp[aI],(aj site).1+1,af,?_⟩) fun i h1 h2 h3=>?_
 .rw[yV];simp[app,aN]
 rw[yV];have:=FB fu aj i (by rw[xX];exact h3);simp[app,aN,h1,h2,this]
end
section
variable {S:Sys} {al:Al} {Q:dD} {ak:Env} {aj:aA} {os all:List bG} {tr:List bY} {d:Option Nat}
theorem Dc{l:List Nat}(h:∀i∈l,al.ok i=true):al.ft l=true:=jd.2 h
theorem PD{id site ty z bytes:Nat}{es xs:List (List PV)}{v x:V}{rd:List Nat}(aq:∀i∈site::id::rd,al.ok i=true)(hg:grown id ty z es v aj)(hx:fh aj x=some (xs,rd,[]))(hz:mr x=some z\/gV z xs=true)(hr:(es.length+xs.length)*bytes<=140737488355328)
  (hK:∀(c:C) ao,grown site ty z (es++xs) (.one c) ao->(∀i,i≠site->i≠id->ao i=aj i)->RN S al os Q (put ak d (.one c)) ao):gP S al (fL aj site ty z bytes v x) d os Q ak aj:=by
 obtain⟨v',u,r,h1,h2,h3,h4⟩:=Q5 hg hx hz hr;obtain⟨c,o,rfl,_⟩:=h2.jv;rw[h1,acw];refine⟨?_,hK _ _ h2 h3⟩;rcases h4 with ⟨rfl,h5⟩|⟨rfl,h5⟩|⟨rfl,h5⟩<;>rw[h5]<;>refine Dc fun i hi=>aq i ?_ <;>simp at hi ⊢
 .exact .inr (.inr hi)
 .rcases hi with h|h|h<;>simp[h]
 rcases hi with h|h|h|h|h<;>simp[h]
theorem FP{id site ty z bytes:Nat}{es xs:List (List PV)}{v x:V}{rd:List Nat}(aq:∀i∈site::id::rd,al.ok i=true)(hg:grown id ty z es v aj)(hx:fh aj x=some (xs,rd,[]))(hz:mr x=some z\/gV z xs=true)(hr:(es.length+xs.length)*bytes<=140737488355328)
  (hK:∀(c:C) ao r w,grown site ty z (es++xs) (.one c) ao->(∀i,i≠site->i≠id->ao i=aj i)->(r=rd/\w=[]\/r=site::rd/\w=[site]\/r=site::id::rd/\w=[id,site])->RD S al all os Q (put ak d (.one c)) ao (tr++[⟨r,w,[]⟩])):dP S al (fL aj site ty z bytes v x) d all os Q ak aj tr:=by
 obtain⟨v',u,r,h1,h2,h3,h4⟩:=Q5 hg hx hz hr;obtain⟨c,o,rfl,_⟩:=h2.jv;rw[h1,aav];refine⟨?_,hK _ _ _ _ h2 h3 h4⟩;rcases h4 with ⟨rfl,h5⟩|⟨rfl,h5⟩|⟨rfl,h5⟩<;>rw[h5]<;>refine Dc fun i hi=>aq i ?_ <;>simp at hi ⊢
 .exact .inr (.inr hi)
 .rcases hi with h|h|h<;>simp[h]
 rcases hi with h|h|h|h|h<;>simp[h]
theorem ak8{site ty z bytes:Nat}{xs:List (List PV)}{x:V}{rd:List Nat}(aq:∀i∈site::rd,al.ok i=true)(hx:fh aj x=some (xs,rd,[]))(aI:xs≠[])(hz:mr x=some z\/gV z xs=true)(hr:xs.length*bytes<=140737488355328)
  (hK:∀(c:C) ao r w,grown site ty z xs (.one c) ao->(∀i,i≠site->i≠site->ao i=aj i)->(r=rd/\w=[]\/r=site::rd/\w=[site]\/r=site::site::rd/\w=[site,site])->RD S al all os Q (put ak d (.one c)) ao (tr++[⟨r,w,[]⟩])):dP S al (fL aj site ty z bytes (.one (.p .zs)) x) d all os Q ak aj tr:=by
 have hn:xs.length≠0:=fun h=>aI (HG.1 h);have e:fL aj site ty z bytes (.one (.p .zs)) x=fL aj site ty z bytes (.one (.p .nils)) x:=by simp only[fL,hx,hn,if_false]
 rw[e];exact FP (id:=site) (es:=[]) (fun i hi=>aq i (by simpa using hi)) grown.nil hx hz (by simpa using hr) hK
theorem amT{f:Nat}{vs:List V}{s t1 z1 t2 z2:Nat}{rd:List Nat}{es fs:List (List PV)}(aq:∀i∈s::(s+1)::rd,al.ok i=true)(hp:aK S f vs (.tup [.one (aT t1 z1 es),.one (aT t2 z2 fs)]))(eG:S.lone s=false)
  (jX:(es.all fun e=>e.all PV.scalar)=true) (fp:(fs.all fun e=>e.all PV.scalar)=true)
  (hK:∀(c e:C) ao,grown s t1 z1 es (.one c) ao->grown (s+1) t2 z2 fs (.one e) ao->(∀i,i≠s->i≠s+1->ao i=aj i)->RN S al os Q (put ak d (.tup [.one c,.one e])) ao):gP S al (.pc f vs rd s) d os Q ak aj:=by
 have fi:(RV.tup [.one (aT t1 z1 es),.one (aT t2 z2 fs)]).alone=true:=by have a:=qD (ty:=t1) (z:=z1) jX;have b:=qD (ty:=t2) (z:=z2) fp;simp only[RV.alone,gK,im,mw,pP,xn] at a b;simp[RV.alone,gK,mI,im,a,b]
 obtain⟨h1,h2,h2u⟩:=sV (aj:=aj) (s:=s) (ty:=t1) (z:=z1) (es:=es);have e0:∀(b b':aA) (k:Nat) (r:RC),b' k=b k->df b k r=df b' k r:=by
  intro b b' k r h;cases r with
  |p v=>rfl
  |own ty sz es=>simp only[df,h]
 have e2:df aj (s+1) (aT t2 z2 fs)=df (app (df aj s (aT t1 z1 es)).2 aj) (s+1) (aT t2 z2 fs):=e0 _ _ _ _ (h2 (s+1) aa);obtain⟨k1,k2,k2u⟩:=sV (aj:=app (df aj s (aT t1 z1 es)).2 aj) (s:=s+1) (ty:=t2) (z:=z2) (es:=fs);rw[<- e2] at k1 k2 k2u;refine⟨_,hp,?_⟩;rw[eG,vP];have hl:land aj rd s (RV.tup [.one (aT t1 z1 es),.one (aT t2 z2 fs)])=some (.tup [.one (df aj s (aT t1 z1 es)).1,.one (df aj (s+1) (aT t2 z2 fs)).1],(df aj s (aT t1 z1 es)).2++(df aj (s+1) (aT t2 z2 fs)).2):=by unfold land;rw[aF (.inr fi)];simp[ju,gK,mI,im,iY,qY,rV,mq]
 rw[hl];refine⟨Dc fun i hi=>aq i ?_,hK _ _ _ ?_ ?_ ?_⟩
 .simp only[j6,eD] at hi;rcases hi with hi|hi|hi
  .simp[hi]
  .rcases h2u with h|h<;>rw[h] at hi<;>simp at hi<;>simp[hi]
  rcases k2u with h|h<;>rw[h] at hi<;>simp at hi<;>simp[hi]
 .rw[yV];exact h1.of_eq (k2 s aa)
 .rw[yV];exact k1
 intro i a b;rw[yV,k2 i b,h2 i a]
end
theorem bd{b:aA}{a i:Nat}{x:Nat×Option Ob}(h:i≠a):dJ b a x i=b i:=by rw[aN,ay h]
theorem Ai{b:aA}{a:Nat}{x:Nat×Option Ob}:dJ b a x a=x:=by rw[aN,aF rfl]
theorem QJ{a i:Nat}{l:List Nat}(h:i∉l)(ha:a∈l):i≠a:=fun e=>h (e▸ha)
section
variable {S:Sys} {al:Al} {Q:dD} {ak:Env} {aj:aA} {os all:List bG} {tr:List bY} {d:Option Nat}
theorem acx{f:Nat}{vs:List V}{s ty z:Nat}{es:List (List PV)}{x:PV}(hp:aK S f vs (.tup [.one (aT ty z es),.one (.p x)]))(eG:S.lone s=false)
  (hK:∀(c:C) ao,grown s ty z es (.one c) ao->(∀i,i≠s->ao i=aj i)->RN S .all os Q (put ak d (.tup [.one c,.one (.p x)])) ao):gP S .all (.pc f vs [] s) d os Q ak aj:=by
 obtain⟨h1,h2,_⟩:=sV (aj:=aj) (s:=s) (ty:=ty) (z:=z) (es:=es);refine(cV (v:=.tup [.one (df aj s (aT ty z es)).1,.one (.p x)]) (u:=(df aj s (aT ty z es)).2) hp ?_).2 (hK _ _ h1 h2);rw[eG,vP];unfold land;rw[aF (.inl rfl)];simp[ju,gK,mI,im,iY,qY,rV,mq,df]
theorem ak9{f:Nat}{vs:List V}{s ty z:Nat}{rd:List Nat}{es:List (List PV)}(hp:aK S f vs (.one (aT ty z es)))(eG:S.lone s=false)(qk:rd=[]\/(RV.one (aT ty z es)).alone=true)
  (hK:∀(c:C) ao w,grown s ty z es (.one c) ao->(∀i,i≠s->ao i=aj i)->(w=[]\/w=[s])->RD S .all all os Q (put ak d (.one c)) ao (tr++[⟨rd++w,w,[]⟩])):dP S .all (.pc f vs rd s) d all os Q ak aj tr:=by
 obtain⟨h1,h2,h3⟩:=sV (aj:=aj) (s:=s) (ty:=ty) (z:=z) (es:=es);refine(FQ (v:=.one (df aj s (aT ty z es)).1) (u:=(df aj s (aT ty z es)).2) hp ?_).2 (hK _ _ _ h1 h2 h3);rw[eG,vP];unfold land;rw[aF qk];simp[ju,gK,im,iY,qY,mq]
theorem alb{f:Nat}{vs:List V}{s ty z:Nat}{es:List (List PV)}{x:PV}(hp:aK S f vs (.tup [.one (aT ty z es),.one (.p x)]))(eG:S.lone s=false)
  (hK:∀(c:C) ao w,grown s ty z es (.one c) ao->(∀i,i≠s->ao i=aj i)->(w=[]\/w=[s])->RD S .all all os Q (put ak d (.tup [.one c,.one (.p x)])) ao (tr++[⟨[]++w,w,[]⟩])):dP S .all (.pc f vs [] s) d all os Q ak aj tr:=by
 obtain⟨h1,h2,h3⟩:=sV (aj:=aj) (s:=s) (ty:=ty) (z:=z) (es:=es);refine(FQ (v:=.tup [.one (df aj s (aT ty z es)).1,.one (.p x)]) (u:=(df aj s (aT ty z es)).2) hp ?_).2 (hK _ _ _ h1 h2 h3);rw[eG,vP];unfold land;rw[aF (.inl rfl)];simp[ju,gK,mI,im,iY,qY,rV,mq,df]
theorem amU{f:Nat}{vs:List V}{s ty z:Nat}{rd:List Nat}{es:List (List PV)}{x:PV}(hp:aK S f vs (.agg [.p x,aT ty z es]))(eG:S.lone s=false)(hx:x.scalar=true)(hs:(es.all fun e=>e.all PV.scalar)=true)
  (hK:∀(c:C) ao,grown (s+1) ty z es (.one c) ao->(∀i,i≠s+1->ao i=aj i)->RN S .all os Q (put ak d (.agg [.p x,c])) ao):gP S .all (.pc f vs rd s) d os Q ak aj:=by
 obtain⟨h1,h2,_⟩:=sV (aj:=aj) (s:=s+1) (ty:=ty) (z:=z) (es:=es);have fi:(RV.agg [.p x,aT ty z es]).alone=true:=by have a:=qD (ty:=ty) (z:=z) hs;simp only[RV.alone,gK,im,mw,pP,xn] at a;simp only[RV.alone,gK,im,mw,pP,xn,a];exact hx
 refine(cV (v:=.agg [.p x,(df aj (s+1) (aT ty z es)).1]) (u:=(df aj (s+1) (aT ty z es)).2) hp ?_).2 (hK _ _ h1 h2);rw[eG,vP];unfold land;rw[aF (.inr fi)];simp[ju,gK,im,iY,qY,mq,df]
theorem acz{f:Nat}{vs:List V}{s ty z:Nat}{es:List (List PV)}{x y:PV}(hp:aK S f vs (.tup [.agg [.p x,aT ty z es],.one (.p y)]))(eG:S.lone s=false)
  (hK:∀(c:C) ao,grown (s+1) ty z es (.one c) ao->(∀i,i≠s+1->ao i=aj i)->RN S .all os Q (put ak d (.tup [.agg [.p x,c],.one (.p y)])) ao):gP S .all (.pc f vs [] s) d os Q ak aj:=by
 obtain⟨h1,h2,_⟩:=sV (aj:=aj) (s:=s+1) (ty:=ty) (z:=z) (es:=es);refine(cV (v:=.tup [.agg [.p x,(df aj (s+1) (aT ty z es)).1],.one (.p y)]) (u:=(df aj (s+1) (aT ty z es)).2) hp ?_).2 (hK _ _ h1 h2);rw[eG,vP];unfold land;rw[aF (.inl rfl)];simp[ju,gK,mI,im,iY,qY,rV,mq,df]
theorem acA{f:Nat}{vs:List V}{s ty z:Nat}{rd:List Nat}{es:List (List PV)}{x y:PV}(hp:aK S f vs (.tup [.agg [.p x,aT ty z es],.one (.p y)]))(eG:S.lone s=false)(hx:x.scalar=true)(hy:y.scalar=true)(hs:(es.all fun e=>e.all PV.scalar)=true)
  (hK:∀(c:C) ao,grown (s+1) ty z es (.one c) ao->(∀i,i≠s+1->ao i=aj i)->RN S .all os Q (put ak d (.tup [.agg [.p x,c],.one (.p y)])) ao):gP S .all (.pc f vs rd s) d os Q ak aj:=by
 obtain⟨h1,h2,_⟩:=sV (aj:=aj) (s:=s+1) (ty:=ty) (z:=z) (es:=es);have fi:(RV.tup [.agg [.p x,aT ty z es],.one (.p y)]).alone=true:=by have a:=qD (ty:=ty) (z:=z) hs;simp only[RV.alone,gK,im,mw,pP,xn] at a;simp only[RV.alone,gK,mI,im,yM,fY,jP,mw,pP,xn,a,An];show(x.scalar&&y.scalar)=true;rw[hx,hy];rfl
 refine(cV (v:=.tup [.agg [.p x,(df aj (s+1) (aT ty z es)).1],.one (.p y)]) (u:=(df aj (s+1) (aT ty z es)).2) hp ?_).2 (hK _ _ h1 h2);rw[eG,vP];unfold land;rw[aF (.inr fi)];simp[ju,gK,mI,im,iY,qY,rV,mq,df]
end
theorem acO{s1 t1 z1:Nat}{c:C}{y:PV}{aj:aA}(h:grown s1 t1 z1 es (.one c) aj):iE aj (.tup [.agg [.p x,c],.one (.p y)])=some (.tup [.agg [.p x,aT t1 z1 es],.one (.p y)]):=by obtain⟨c',o,hc,h2,h3⟩:=h.jv;cases hc;have e1:jv aj (.p x)=some (.p x,[],[]):=rfl;have e2:jv aj (.p y)=some (.p y,[],[]):=rfl;rcases h3 with rfl|rfl<;>simp[iE,sv,ux,ng,mj,h2,e1,e2,apart,uS,rU,Ag]
section
variable {S:Sys} {al:Al} {Q:dD} {ak:Env} {aj:aA} {os all:List bG} {tr:List bY} {d:Option Nat} {op:mW} {w:Option Bool} {a b:aJ} {v:V}
theorem iK(L:List Nat)(h:∀e:Env,(∀k∈L,e k=ak k)->gW S al w d op os Q e aj):gW S al w d op os Q ak aj:=h ak fun _ _=>rfl
theorem ve(L:List Nat)(h:∀e:Env,(∀k∈L,e k=ak k)->dW S al w d op all os Q e aj tr):dW S al w d op all os Q ak aj tr:=h ak fun _ _=>rfl
theorem ZO(L:List Nat)(h:∀e:Env,(∀k∈L,e k=ak k)->cW S al v a b Q e aj):cW S al v a b Q ak aj:=h ak fun _ _=>rfl
end
section
variable {S:Sys} {al:Al} {Q:dD} {ak:Env} {aj:aA} {os all:List bG} {tr:List bY} {d:Option Nat}
theorem ak7{id site ty z bytes:Nat}{es xs:List (List PV)}{v x:V}{rd fr:List Nat}(hg:grown id ty z es v aj)(hx:fh aj x=some (xs,rd,fr))(kO:oJ aj fr)(hni:id∉fr)(vz:site∉fr)(hz:mr x=some z\/gV z xs=true)(hr:(es.length+xs.length)*bytes<=140737488355328)
  (hK:∀(c:C) ao r w,grown site ty z (es++xs) (.one c) ao->(∀i,i≠site->i≠id->i∉fr->ao i=aj i)->(r=rd++fr/\w=fr\/r=site::rd++fr/\w=fr++[site]\/r=site::id::rd++fr/\w=fr++[id,site])->RD S .all all os Q (put ak d (.one c)) ao (tr++[⟨r,w,[]⟩])):dP S .all (fL aj site ty z bytes v x) d all os Q ak aj tr:=by
 have qq:¬¬(mr x=some z\/gV z xs=true):=fun h=>h hz;obtain⟨fu,Jh,xX⟩:=VD fr fr kO;have Gi:sA aj fr=some fu:=Jh;rcases hg with ⟨rfl,rfl⟩|⟨aI,g,rfl,hC⟩
 .by_cases h0:xs=[]
  .subst h0;have:fL aj site ty z bytes (.one (.p .nils)) x=.done (.one (.p .nils)) fu (rd++fr):=by simp[fL,hx,qq,Gi]
   rw[this,LQ];exact hK _ _ _ _ (.inl ⟨rfl,rfl⟩) (fun i _ _ h3=>FB _ _ _ (by rw[xX];exact h3)) (.inl ⟨rfl,xX⟩)
  have hl:¬xs.length=0:=by simpa using h0
  have qj:xs.length*bytes<=room:=by simpa [room] using hr
  have:fL aj site ty z bytes (.one (.p .nils)) x=.done (.one (.hsl site ((aj site).1+1) z 0 xs.length)) (fu++[(site,((aj site).1+1,some (.arr ty z xs)))]) (site::rd++fr):=by simp only[fL,hx,ay qq,Gi,ay hl,aF qj]
  rw[this,LQ];refine hK _ _ _ _ (.inr ⟨by simpa using h0,(aj site).1+1,af,?_⟩) (fun i h1 _ h3=>?_) (.inr (.inl ⟨rfl,by simp[xX]⟩))
  .rw[yV];simp[app,aN]
  rw[yV];have:=FB fu aj i (by rw[xX];exact h3);simp[app,aN,h1,this]
 have qj:(es.length+xs.length)*bytes<=room:=by simpa [room] using hr
 have M7:fr.contains id=false:=by simpa using hni
 have:fL aj site ty z bytes (.one (.hsl id g z 0 es.length)) x=.done (.one (.hsl site ((aj site).1+1) z 0 (es.length+xs.length))) (fu++[(id,(g,none)),(site,((aj site).1+1,some (.arr ty z (es++xs))))]) (site::id::rd++fr):=by simp only[fL,hx,ay qq,Gi,hC,M7];simp[qj]
 rw[this,LQ];refine hK _ _ _ _ (.inr ⟨by simp[aI],(aj site).1+1,af,?_⟩) (fun i h1 h2 h3=>?_) (.inr (.inr ⟨rfl,by simp[xX]⟩))
 .rw[yV];simp[app,aN]
 rw[yV];have:=FB fu aj i (by rw[xX];exact h3);simp[app,aN,h1,h2,this]
theorem amQ{f:Nat}{vs:List V}{s ty z:Nat}{rd:List Nat}{es:List (List PV)}{x:PV}(hp:aK S f vs (.tup [.one (aT ty z es),.one (.p x)]))(eG:S.lone s=false)(hs:(es.all fun e=>e.all PV.scalar)=true)(hx:x.scalar=true)
  (hK:∀(c:C) ao,grown s ty z es (.one c) ao->(∀i,i≠s->ao i=aj i)->RN S .all os Q (put ak d (.tup [.one c,.one (.p x)])) ao):gP S .all (.pc f vs rd s) d os Q ak aj:=by
 obtain⟨h1,h2,_⟩:=sV (aj:=aj) (s:=s) (ty:=ty) (z:=z) (es:=es);have fi:(RV.tup [.one (aT ty z es),.one (.p x)]).alone=true:=by have a:=qD (ty:=ty) (z:=z) hs;simp only[RV.alone,gK,im,mw,pP,xn] at a;simp only[RV.alone,gK,mI,im,yM,fY,jP,mw,pP,xn,a,An];exact hx
 refine(cV (v:=.tup [.one (df aj s (aT ty z es)).1,.one (.p x)]) (u:=(df aj s (aT ty z es)).2) hp ?_).2 (hK _ _ h1 h2);rw[eG,vP];unfold land;rw[aF (.inr fi)];simp[ju,gK,mI,im,iY,qY,rV,mq,df]
end
section
variable {S:Sys} {al:Al} {Q:dD} {ak:Env} {aj:aA} {os all:List bG} {tr:List bY} {d:Option Nat} {op:mW} {a b:aJ} {e w:Bool}
theorem Ml{rd:List Nat}{s:Nat}{r:RV}{v:V}{u:List eK}(hp:aK S f vs r)(h:land aj rd s (r.fP (S.lone s))=some (v,u)):gP S al (.pc f vs rd s) d os Q ak aj↔al.ft (rd++u.map (·.1))=true/\RN S al os Q (put ak d v) (app u aj):=by
 constructor
 .rintro ⟨y,hy,h2⟩
  have:=hy.zg hp;subst this;rw[h] at h2;exact h2
 intro hK;refine⟨_,hp,?_⟩;rw[h];exact hK
theorem LR{rd:List Nat}{s:Nat}{r:RV}{v:V}{u:List eK}(hp:aK S f vs r)(h:land aj rd s (r.fP (S.lone s))=some (v,u)):dP S al (.pc f vs rd s) d all os Q ak aj tr↔al.ft (rd++u.map (·.1))=true/\RD S al all os Q (put ak d v) (app u aj) (tr++[⟨rd++u.map (·.1),u.map (·.1),[]⟩]):=by
 constructor
 .rintro ⟨y,hy,h2⟩
  have:=hy.zg hp;subst this;rw[h] at h2;exact h2
 intro hK;refine⟨_,hp,?_⟩;rw[h];exact hK
theorem aeJ{s:Nat}(b:Bool):land aj [] s ((RV.one (.p x)).fP b)=some (.one (.p x),[]):=by cases b<;>rfl
theorem DX{s:Nat}(h:aK S f vs (.one (.p x))):gP S al (.pc f vs [] s) d os Q ak aj↔RN S al os Q (put ak d (.one (.p x))) aj:=by rw[Ml h (aeJ _)];exact⟨fun h=>h.2,fun h=>⟨rfl,h⟩⟩
theorem O5{s:Nat}(h:aK S f vs (.one (.p x))):dP S al (.pc f vs [] s) d all os Q ak aj tr↔RD S al all os Q (put ak d (.one (.p x))) aj (tr++[⟨[],[],[]⟩]):=by rw[LR h (aeJ _)];exact⟨fun h=>h.2,fun h=>⟨rfl,h⟩⟩
end
section
variable {S:Sys} {al:Al} {Q:dD} {ak:Env} {aj:aA} {os all:List bG} {tr:List bY} {d:Option Nat} {op:mW} {w:Option Bool} {a b:aJ} {v:V} {p:fg}
end
theorem grown.KD{c:C}{aj:aA}(h:grown site ty z es (.one c) aj):∃r,(∀B:aA,B site=aj site->Go.Abs.snap B Go.Abs.fM c=some (.sl es,r))/\(r=[]\/r=[site]):=by
 rcases h with ⟨h1,h2⟩|⟨h1,g,h2,h3⟩
 .cases h2;exact⟨[],fun B _=>by rw[h1];rfl,.inl rfl⟩
 cases h2;refine⟨[site],fun B hB=>?_,.inr rfl⟩;rw[<- hB] at h3;simp[Go.Abs.fM,Go.Abs.snap,h3]
end
end Go.Abs
namespace Go.Abs
open Go
section
variable {S:Sys} {al:Al} {Q:dD} {os all:List bG} {d:Option Nat} {ak:Env} {aj:aA} {tr:List bY}
end
theorem acN{ty z:Nat}{es:List (List PV)}(h:es≠[]):aT ty z es=.own ty z es:=ay h
end Go.Abs
namespace Go.Abs
theorem fm1{p:Nat->Prop}:(∀k∈([]:List Nat),p k)↔True:=by simp
theorem fm2{a:Nat}{l:List Nat}{p:Nat->Prop}:(∀k∈a::l,p k)↔p a/\ ∀k∈l,p k:=List.forall_mem_cons
attribute [go_sem] fm1 fm2 Aa bne_self_eq_false Bool.or_true Bool.or_false Bool.true_or Bool.false_or Bool.not_not ju gK im mI df iY qY mq rV Option.getD_some Option.getD_none Option.isSome_some Option.isSome_none
attribute [go_sem ↓] Rd
attribute [go_sem high] Mj LQ
attribute [go_sem] Rt Rl Rb acw aav GY Kk Bool.and_self Al.Fy
attribute [go_sem] bt qF tv Cn GH app if_true if_false reduceIte Nat.reduceEqDiff beq_self_eq_true reduceCtorEq ge_iff_le oF QL Ah DU Nat.reduceAdd Bz pO Ak eO rz yw ne_eq Nat.reduceLeDiff yA zj BJ BI toP fill Nat.reduceMul Nat.reduceLT Rv Ru
attribute [go_sem] fh mr sA uy room Dh ru Nat.reduceSub Int.reduceLT Int.reduceAdd Int.reduceBEq Int.reduceBNe Int.reduceLE List.contains_eq_mem vM
end Go.Abs
