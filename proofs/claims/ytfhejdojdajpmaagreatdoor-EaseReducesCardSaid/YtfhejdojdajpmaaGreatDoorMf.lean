/-
  Rules for a walk.
-/
import Derived.Test.YtfhejdojdajpmaaGreatDoorMc
import Derived.Attr
set_option linter.all false
namespace Go.Abs
section
variable{x:PV}{f site ty z:Nat}{vs:List V}{v:V}{es:List (List PV)}
theorem Xe(k:Nat):mZ (.one (.p (.int .i64 (k:Int))))=some k:=by simp[mZ]
theorem Xd(n:Nat):mZ (.one (.p (.int .i64 (no_index (@OfNat.ofNat Int n instOfNat)))))=some (@OfNat.ofNat Nat n (instOfNatNat n)):=by show mZ (.one (.p (.int .i64 (Int.ofNat n))))=some n;simp[mZ]
theorem OY{aj:aA}{v:PV}:snap aj fM (.p v)=some (v.norm,[]):=rfl
def Qu{β:Type}(x:Option (β×List Nat))(y:Option (List β×List Nat)):Option (List β×List Nat):=match x,y with
 |some (b,x),some (bs,y)=>some (b::bs,x++y)
 |_,_=>none
theorem XO{β:Type}{b:β}{x:List Nat}{bs:List β}{y:List Nat}:Qu (some (b,x)) (some (bs,y))=some (b::bs,x++y):=rfl
theorem XI{α β:Type}{f:α->Option (β×List Nat)}:collect f []=some ([],[]):=rfl
theorem XG{α β:Type}{f:α->Option (β×List Nat)}{a:α}{r:List α}:collect f (a::r)=Qu (f a) (collect f r):=by simp only[collect,Qu];cases f a<;>cases collect f r<;>rfl
theorem aeG{aj:aA}{c:C}:mu aj (.one c)=(snap aj fM c).map fun(v,r)=>(.one (.p v),r):=rfl
theorem aeF{aj:aA}{cs:List C}:mu aj (.agg cs)=(collect (snap aj fM) cs).map fun(vs,r)=>(.agg (vs.map .p),r):=rfl
theorem aeO{aj:aA}{n:Nat}{v:PV}:snap aj (n+1) (.p v)=some (v.norm,[]):=rfl
def OX(o:Nat×Option Ob)(col:List (List C)->Option (List (List PV)×List Nat))(id g off len:Nat):Option (PV×List Nat):=match o with
 |(g',some (.arr _ _ es))=>if g'=g/\off+len<=es.length then some (.sl ((es.drop off).take len),[id]) else none
 |(g',some (.l7 _ _ es))=>if g'=g/\off+len<=es.length then some (.sl ((es.drop off).take len),[id]) else none
 |(g',some (.gQ _ _ es))=>if g'=g/\off+len<=es.length then
   match col ((es.drop off).take len) with
   |some (ps,r)=>some (.sl ps,id::r)
   |none=>none
  else none
 |_=>none
theorem aeN{aj:aA}{id g z off len:Nat}:snap aj fM (.hsl id g z off len)=OX (aj id) (collect (collect (snap aj 5))) id g off len:=by unfold fM OX;rw[snap];rfl
def OW(o:Nat×Option Ob)(col:List C->Option (List PV×List Nat))(id g off:Nat):Option (PV×List Nat):=match o with
 |(g',some (.var cs))=>if g'=g then
   match col cs with
   |some (ps,r)=>some (.box (ps.drop off),id::r)
   |none=>none
  else none
 |(g',some (.fvar ps))=>if g'=g then some (.box (ps.drop off),[id]) else none
 |_=>none
theorem aeM{aj:aA}{id g off:Nat}:snap aj fM (.ba id g off)=OW (aj id) (collect (snap aj 5)) id g off:=by unfold fM OW;rw[snap];rfl
section
variable {S:Sys} {al:Al} {ak:Env} {aj:aA} {d:Option Nat}
theorem HC{rd:List Nat}{s:Nat}{b:Bool}(hs:x.scalar=true):land aj rd s ((RV.one (.p x)).eG b)=some (.one (.p x),[]):=by
 have h1:(RV.one (.p x)).eG b=.one (.p x):=by cases b<;>rfl
 rw[h1];have:(RV.one (.p x)).alone=true:=by simp[RV.alone,gJ,gZ,RC.alone,hs]
 simp only[land,this,or_true,if_true];rfl
theorem aj9{rd:List Nat}{s:Nat}{K:Env->aA->Prop}(h:aJ S f vs (.one (.p x)))(hs:x.scalar=true):GD S .all (.pc f vs rd s) d ak aj K↔K (put ak d (.one (.p x))) aj:=by
 constructor
 .rintro ⟨y,hy,h2⟩
  have:=hy.uO h;subst this;rw[HC hs] at h2;exact h2.2
 intro hK;refine⟨_,h,?_⟩;rw[HC hs];exact⟨Al.BX _,hK⟩
theorem aka{rd:List Nat}{s:Nat}{tr:List cn}{K:Env->aA->List cn->Prop}(h:aJ S f vs (.one (.p x)))(hs:x.scalar=true):Ee S .all (.pc f vs rd s) d ak aj tr K↔K (put ak d (.one (.p x))) aj (tr++[⟨rd,[],[]⟩]):=by
 constructor
 .rintro ⟨y,hy,h2⟩
  have:=hy.uO h;subst this;rw[HC hs] at h2
  simpa [app] using h2.2
 intro hK;refine⟨_,h,?_⟩;rw[HC hs];exact⟨Al.BX _,by simpa [app] using hK⟩
theorem agj{ops:List bR}{Q:dS}:W S al (.region true ops) Q ak aj↔WO S al ops (fun ak aj es=>nM ops [] es=true/\Q .normal ak aj) ak aj []:=by
 rw[WY];constructor
 .rintro ⟨n,e,b,es,h1,h2,h3⟩;exact⟨n,e,b,es,h1,h2 rfl,h3⟩
 rintro ⟨n,e,b,es,h1,h2,h3⟩;exact⟨n,e,b,es,h1,fun _=>h2,h3⟩
end
theorem wrap_small{n:Nat}(h:n<=9223372036854775807):IntKind.i64.wrap (n:Int)=n:=L0 h
theorem bQ{n:Nat}(h:n<9223372036854775807):IntKind.i64.wrap ((n:Int)+1)=((n+1:Nat):Int):=L0 (n:=n+1) aa
section
variable {S:Sys} {al:Al} {Q:dS} {ak:Env} {aj:aA} {a b:aK} {ops os all:List bR} {tr:List cn} {d:Option Nat} {op:my} {n:Nat}
def wU(S:Sys)(al:Al)(b:aK)(Q:dS):dS
 | .normal,ak,aj=>W S al b Q ak aj
 | .exit i,ak,aj=>Q (.exit i) ak aj
 | .ret,ak,aj=>Q .ret ak aj
theorem aq9:LS (W S al b Q) Q=wU S al b Q:=by funext e ak aj;cases e<;>rfl
theorem WR:W S al (.seq a b) Q ak aj↔W S al a (wU S al b Q) ak aj:=by rw[agp,aq9]
theorem ae5:wU S al b Q .normal ak aj=W S al b Q ak aj:=rfl
theorem ae4{i:Nat}:wU S al b Q (.exit i) ak aj=Q (.exit i) ak aj:=rfl
theorem ae6:wU S al b Q .ret ak aj=Q .ret ak aj:=rfl
def cW (S:Sys)(al:Al)(v:V)(a b:aK)(Q:dS)(ak:Env)(aj:aA):Prop:=Gd v (W S al a Q ak aj) (W S al b Q ak aj)
theorem WM{x:aQ}:W S al (.cond x a b) Q ak aj↔cW S al (ev ak x) a b Q ak aj:=agi
theorem Xv:cW S al (.one (.p (.bool true))) a b Q ak aj=W S al a Q ak aj:=by simp[cW,Gd]
theorem Xu:cW S al (.one (.p (.bool false))) a b Q ak aj=W S al b Q ak aj:=by simp[cW,Gd]
def RN (S:Sys)(al:Al)(ops:List bR)(Q:dS)(ak:Env)(aj:aA):Prop:=WN S al ops (fun ak aj=>Q .normal ak aj) ak aj
def gP (S:Sys)(al:Al)(p:eQ)(d:Option Nat)(os:List bR)(Q:dS)(ak:Env)(aj:aA):Prop:=GD S al p d ak aj (WN S al os fun ak aj=>Q .normal ak aj)
def gW (S:Sys)(al:Al)(w:Option Bool)(d:Option Nat)(op:my)(os:List bR)(Q:dS)(ak:Env)(aj:aA):Prop:=No S al w ⟨d,op,none,0⟩ ak aj (WN S al os fun ak aj=>Q .normal ak aj)
theorem WS:W S al (.region false ops) Q ak aj↔RN S al ops Q ak aj:=agq
theorem WK:RN S al [] Q ak aj↔Q .normal ak aj:=agb
theorem WL:RN S al (⟨d,op,none,n⟩::os) Q ak aj↔gP S al (bl S.shared ak aj op) d os Q ak aj:=WV
theorem WJ{t:Nat}{w:Bool}:RN S al (⟨d,op,some (t,w),n⟩::os) Q ak aj↔gW S al (Dz (ak t) w) d op os Q ak aj:=by
 unfold RN gW;rw[WV];have:wanted ak (some (t,w))=Dz (ak t) w:=rfl;simp only[this];cases Dz (ak t) w with
 |none=>rfl
 |some x=>cases x<;>rfl
theorem aan:gW S al (some true) d op os Q ak aj↔gP S al (bl S.shared ak aj op) d os Q ak aj:=Iff.rfl
theorem aam:gW S al (some false) d op os Q ak aj↔RN S al os Q (put ak d .undef) aj:=Iff.rfl
theorem JP{u:List dY}{r:List Nat}:gP S .all (.done v u r) d os Q ak aj↔RN S .all os Q (put ak d v) (app u aj):=by show(Al.all.fE (r++u.map (·.1))=true/\_)↔_;rw[Al.BX];exact⟨fun h=>h.2,fun h=>⟨rfl,h⟩⟩
theorem aac{u:List dY}{r:List Nat}:gP S al (.done v u r) d os Q ak aj↔al.fE (r++u.map (·.1))=true/\RN S al os Q (put ak d v) (app u aj):=Iff.rfl
theorem Ti{rd:List Nat}{s:Nat}(h:aJ S f vs (.one (.p x)))(hs:x.scalar=true):gP S .all (.pc f vs rd s) d os Q ak aj↔RN S .all os Q (put ak d (.one (.p x))) aj:=aj9 h hs
theorem dJ{rd:List Nat}{s:Nat}{k:IntKind}{x:Int}(h:aJ S f vs (.one (.p (.int k x)))):gP S .all (.pc f vs rd s) d os Q ak aj↔RN S .all os Q (put ak d (.one (.p (.int k x)))) aj:=Ti h rfl
theorem cq{rd:List Nat}{s:Nat}{x:Bool}(h:aJ S f vs (.one (.p (.bool x)))):gP S .all (.pc f vs rd s) d os Q ak aj↔RN S .all os Q (put ak d (.one (.p (.bool x)))) aj:=Ti h rfl
theorem Nl{rd:List Nat}{s:Nat}{x:ByteArray}(h:aJ S f vs (.one (.p (.str x)))):gP S .all (.pc f vs rd s) d os Q ak aj↔RN S .all os Q (put ak d (.one (.p (.str x)))) aj:=Ti h rfl
theorem cK{rd:List Nat}{s:Nat}{r:RV}{u:List dY}(hp:aJ S f vs r)(h:land aj rd s (r.eG (S.lone s))=some (v,u)):gP S .all (.pc f vs rd s) d os Q ak aj↔RN S .all os Q (put ak d v) (app u aj):=by
 constructor
 .rintro ⟨y,hy,h2⟩
  have:=hy.uO hp;subst this;rw[h] at h2;exact h2.2
 intro hK;refine⟨_,hp,?_⟩;rw[h];exact⟨Al.BX _,hK⟩
def RD (S:Sys)(al:Al)(all ops:List bR)(Q:dS)(ak:Env)(aj:aA)(tr:List cn):Prop:=WO S al ops (fun ak aj es=>nM all [] es=true/\Q .normal ak aj) ak aj tr
def dP (S:Sys)(al:Al)(p:eQ)(d:Option Nat)(all os:List bR)(Q:dS)(ak:Env)(aj:aA)(tr:List cn):Prop:=Ee S al p d ak aj tr (WO S al os fun ak aj es=>nM all [] es=true/\Q .normal ak aj)
def dW (S:Sys)(al:Al)(w:Option Bool)(d:Option Nat)(op:my)(all os:List bR)(Q:dS)(ak:Env)(aj:aA)(tr:List cn):Prop:=Cj S al w ⟨d,op,none,0⟩ ak aj tr (WO S al os fun ak aj es=>nM all [] es=true/\Q .normal ak aj)
theorem WQ:W S al (.region true ops) Q ak aj↔RD S al ops ops Q ak aj []:=agj
theorem WH:RD S al all [] Q ak aj tr↔nM all [] tr=true/\Q .normal ak aj:=PK
theorem WI:RD S al all (⟨d,op,none,n⟩::os) Q ak aj tr↔dP S al (bl S.shared ak aj op) d all os Q ak aj tr:=Mo
theorem WG{t:Nat}{w:Bool}:RD S al all (⟨d,op,some (t,w),n⟩::os) Q ak aj tr↔dW S al (Dz (ak t) w) d op all os Q ak aj tr:=by
 unfold RD dW;rw[Mo];have:wanted ak (some (t,w))=Dz (ak t) w:=rfl;simp only[this];cases Dz (ak t) w with
 |none=>rfl
 |some x=>cases x<;>rfl
theorem Yb:dW S al (some true) d op all os Q ak aj tr↔dP S al (bl S.shared ak aj op) d all os Q ak aj tr:=Iff.rfl
theorem Ya:dW S al (some false) d op all os Q ak aj tr↔RD S al all os Q (put ak d .undef) aj (tr++[⟨[],[],[]⟩]):=Iff.rfl
theorem Jq{u:List dY}{r:List Nat}:dP S .all (.done v u r) d all os Q ak aj tr↔RD S .all all os Q (put ak d v) (app u aj) (tr++[⟨r,u.map (·.1),[]⟩]):=by show(Al.all.fE (r++u.map (·.1))=true/\_)↔_;rw[Al.BX];exact⟨fun h=>h.2,fun h=>⟨rfl,h⟩⟩
theorem X7{u:List dY}{r:List Nat}:dP S al (.done v u r) d all os Q ak aj tr↔al.fE (r++u.map (·.1))=true/\RD S al all os Q (put ak d v) (app u aj) (tr++[⟨r,u.map (·.1),[]⟩]):=Iff.rfl
theorem X6{rd:List Nat}{s:Nat}(h:aJ S f vs (.one (.p x)))(hs:x.scalar=true):dP S .all (.pc f vs rd s) d all os Q ak aj tr↔RD S .all all os Q (put ak d (.one (.p x))) aj (tr++[⟨rd,[],[]⟩]):=aka h hs
theorem gR{rd:List Nat}{s:Nat}{k:IntKind}{x:Int}(h:aJ S f vs (.one (.p (.int k x)))):dP S .all (.pc f vs rd s) d all os Q ak aj tr↔RD S .all all os Q (put ak d (.one (.p (.int k x)))) aj (tr++[⟨rd,[],[]⟩]):=X6 h rfl
theorem kJ{rd:List Nat}{s:Nat}{x:Bool}(h:aJ S f vs (.one (.p (.bool x)))):dP S .all (.pc f vs rd s) d all os Q ak aj tr↔RD S .all all os Q (put ak d (.one (.p (.bool x)))) aj (tr++[⟨rd,[],[]⟩]):=X6 h rfl
theorem xz{rd:List Nat}{s:Nat}{r:RV}{u:List dY}(hp:aJ S f vs r)(h:land aj rd s (r.eG (S.lone s))=some (v,u)):dP S .all (.pc f vs rd s) d all os Q ak aj tr↔RD S .all all os Q (put ak d v) (app u aj) (tr++[⟨rd++u.map (·.1),u.map (·.1),[]⟩]):=by
 constructor
 .rintro ⟨y,hy,h2⟩
  have:=hy.uO hp;subst this;rw[h] at h2;exact h2.2
 intro hK;refine⟨_,hp,?_⟩;rw[h];exact⟨Al.BX _,hK⟩
def Lh(N:Nat)(I:Nat->Env->aA->Prop)(k:Nat)(Q:dS):dS:=LS (fun ak aj=>k<N/\I (k+1) ak aj) Q
theorem ac4{N k:Nat}{I:Nat->Env->aA->Prop}:Lh N I k Q .normal ak aj=(k<N/\I (k+1) ak aj):=rfl
theorem ac3{N k i:Nat}{I:Nat->Env->aA->Prop}:Lh N I k Q (.exit i) ak aj=Q (.exit i) ak aj:=rfl
theorem ac5{N k:Nat}{I:Nat->Env->aA->Prop}:Lh N I k Q .ret ak aj=Q .ret ak aj:=rfl
theorem cS{c:aK}(I:Nat->Env->aA->Prop)(k0 N:Nat)(hk:k0<=N)(h0:I k0 ak aj)
  (round:∀k ak aj,k<=N->I k ak aj->W S al c (Lh N I k Q) ak aj):W S al (.loop c) Q ak aj:=agl I k0 N hk h0 round
def Jy(R:V->aA->Prop)(aj:aA):Option (List V)->Prop
 |some vs=>R (yA vs) aj
 |none=>False
theorem Wz{res:List (Nat×Option (Option Nat))}{R:V->aA->Prop}:qT al res R .ret ak aj=Jy R aj (mV al ak aj res):=by simp only[qT,Jy];cases mV al ak aj res<;>rfl
theorem Wy{res:List (Nat×Option (Option Nat))}{R:V->aA->Prop}:qT al res R .normal ak aj=Jy R aj (mV al ak aj res):=by simp only[qT,Jy];cases mV al ak aj res<;>rfl
theorem Yq{R:V->aA->Prop}{vs:List V}:Jy R aj (some vs)=R (yA vs) aj:=rfl
end
section
variable {S:Sys} {al:Al} {Q:dS} {ak:Env} {aj:aA}
def NZ(S:Sys)(al:Al)(c:aK)(Q:dS):dS
 | .normal,ak,aj=>W S al (.loop c) Q ak aj
 | .exit i,ak,aj=>Q (.exit i) ak aj
 | .ret,ak,aj=>Q .ret ak aj
theorem acD{c:aK}:NZ S al c Q .normal ak aj=W S al (.loop c) Q ak aj:=rfl
theorem acC{c:aK}{i:Nat}:NZ S al c Q (.exit i) ak aj=Q (.exit i) ak aj:=rfl
theorem acE{c:aK}:NZ S al c Q .ret ak aj=Q .ret ak aj:=rfl
theorem lU{c:aK}(h:W S al c (NZ S al c Q) ak aj):W S al (.loop c) Q ak aj:=by
 obtain⟨n,e,eS,bt,h1,h2⟩:=h;cases e with
 |normal=>obtain⟨m,e,cP,bd,h3,h4⟩:=h2;refine⟨max n m+1,e,cP,bd,?_,h4⟩;simp only[exec] at h3 ⊢;simp only[iter];rw[DZ S aa h1];exact Ud S aa aa h3
 |exit i=>exact⟨n+1,_,_,_,by simp[exec,iter,DZ S (Nat.le_succ n) h1],h2⟩
 |ret=>exact⟨n+1,_,_,_,by simp[exec,iter,DZ S (Nat.le_succ n) h1],h2⟩
end
theorem iA.uO{S:Sys}{args:List V}{al:Al}{aj:aA}{v':V}{b b':aA}(h:iA S f args al aj v b)(h':iA S f args al aj v' b'):v=v'/\b=b':=by obtain⟨n,hn⟩:=h;obtain⟨m,hm⟩:=h';have a:=Jj S (FH n m) _ _ _ _ _ hn;have c:=Jj S (IV n m) _ _ _ _ _ hm;rw[a] at c;have:=oZ c;exact⟨congrArg Prod.fst this,congrArg Prod.snd this⟩
section
variable {S:Sys} {al:Al} {Q:dS} {ak:Env} {aj:aA} {os all:List bR} {tr:List cn} {d:Option Nat}
theorem US:al.fE []=true:=rfl
theorem UR{a:Nat}{l:List Nat}:al.fE (a::l)=(al.ok a&&al.fE l):=rfl
def Kept(K:Nat->Prop)(b b':aA):Prop:=∀id,¬K id->b' id=b id
theorem Kept.refl(K:Nat->Prop)(b:aA):Kept K b b:=fun _ _=>rfl
theorem Kept.trans{K:Nat->Prop}{a b c:aA}(h:Kept K a b)(h2:Kept K b c):Kept K a c:=fun id hk=>(h2 id hk).trans (h id hk)
theorem Kept.df{K:Nat->Prop}{b b':aA}(h:Kept K b b'){k:Nat}(hk:K k)(x:Nat×Option Ob):Kept K b (df b' k x):=fun id hn=>by rw[aS,aD (by rintro rfl;exact hn hk)];exact h id hn
theorem ajY{ao:aA}(hh:al.holds (allow (S.ctx al) f vs aj)=true)(h:iA S f vs (allow (S.ctx al) f vs aj) aj v ao):gP S al (.sc f vs) d os Q ak aj↔RN S al os Q (put ak d v) ao:=by
 constructor
 .rintro ⟨_,v2,b2,h2,h3⟩
  obtain⟨rfl,rfl⟩:=h.uO h2;exact h3
 intro h3;exact⟨hh,v,ao,h,h3⟩
theorem aab{rd:List Nat}{s:Nat}(h:aJ S f vs (.one (.p x)))(hs:x.scalar=true):gP S al (.pc f vs rd s) d os Q ak aj↔al.fE (rd++[])=true/\RN S al os Q (put ak d (.one (.p x))) aj:=by
 constructor
 .rintro ⟨y,hy,h2⟩
  have:=hy.uO h;subst this;rw[HC hs] at h2;exact h2
 rintro ⟨ho,hK⟩
 refine⟨_,h,?_⟩;rw[HC hs];exact⟨ho,hK⟩
theorem JQ{rd:List Nat}{s:Nat}{k:IntKind}{x:Int}(h:aJ S f vs (.one (.p (.int k x)))):gP S al (.pc f vs rd s) d os Q ak aj↔al.fE (rd++[])=true/\RN S al os Q (put ak d (.one (.p (.int k x)))) aj:=aab h rfl
theorem aaa{rd:List Nat}{s:Nat}{x:Bool}(h:aJ S f vs (.one (.p (.bool x)))):gP S al (.pc f vs rd s) d os Q ak aj↔al.fE (rd++[])=true/\RN S al os Q (put ak d (.one (.p (.bool x)))) aj:=aab h rfl
theorem ajw{f:Int->List PV}(q:Int):∀(ids:List Int) (i:Nat),uP (.int .i64 q) (ids.map fun id=>(PV.int .i64 id,f id)) i=some (if q∈ids then some (i+ids.idxOf q,f q) else none):=by
 intro ids
 induction ids with
 |nil=>intro i;rfl
 |cons a ids ih=>
  intro i;simp only[eE,uP,sameKey,if_true];by_cases e:q=a
  .subst e;simp
  have e':(q==a)=false:=by simpa using e
  have e2:¬(a=q):=fun h=>e h.symm;simp only[e'];rw[ih];simp only[dh,e,false_or,List.idxOf_cons,dk,e2,cond_false];by_cases h:q∈ids
  .have e3:(a==q)=false:=by simpa using e2
   simp[h,e3];omega
  simp[h]
theorem rV{f:Nat}{vs:List V}{P:V->aA->Prop}(hh:al.holds (allow (S.ctx al) f vs aj)=true)(h:∃v ao,iA S f vs (allow (S.ctx al) f vs aj) aj v ao/\P v ao)
  (hK:∀v ao,P v ao->RN S al os Q (put ak d v) ao):gP S al (.sc f vs) d os Q ak aj:=by
 obtain⟨v,ao,h1,h2⟩:=h;exact(ajY hh h1).2 (hK v ao h2)
theorem wB{I3:Al}:Al.all.holds I3=true:=rfl
theorem holds_of{I3:Al}(h1:al.fE I3.ids=true)(h2:I3.fs.all al.fs.contains=true):al.holds I3=true:=by unfold Al.holds;rw[h1,h2];simp
theorem Ae{id:Nat}(h:(S.sites f).contains (mr id)=true):(allow (S.ctx al) f vs aj).ok id=true:=by show(false||_||(S.sites f).contains (mr id))=true;rw[h];simp
theorem xl{id:Nat}(h:id∈(vs.map (jr aj)).flatten):(allow (S.ctx al) f vs aj).ok id=true:=by
 show(false||(vs.map (jr aj)).flatten.contains id||_)=true;have:(vs.map (jr aj)).flatten.contains id=true:=by simpa using h
 rw[this];rfl
theorem Vl{id g g0 o:Nat}{cs:List C}(h:aj id=(g0,some (.var cs))):jr aj (.one (.ba id g o))=id::(cs.map (kU aj 5)).flatten:=by show kU aj 6 (.ba id g o)=_;rw[kU,h]
theorem Vk{n:Nat}{v:PV}:kU aj n (.p v)=[]:=by cases n<;>rfl
theorem HY{id g g0 o l sz n:Nat}(h:aj id=(g0,some (.arr ty sz es))):kU aj (n+1) (.hsl id g z o l)=[id]:=by rw[kU,h]
def VD(x:Nat×Option Ob)(id g:Nat):Option (PV×List Nat):=match x with
 |(g',some (.map ag es))=>if g'=g then some (.mp ag es,[id]) else none
 |(g',some (.fmap ag es))=>if g'=g then some (.mp ag es,[id]) else none
 |_=>none
theorem aeL{n id g:Nat}:snap aj (n+1) (.jP id g)=VD (aj id) id g:=by rw[snap];rfl
end
theorem Rd:type_of%(And.intro @WR<|And.intro @WS<|And.intro @WQ<|And.intro @WW<|And.intro @WM<|And.intro @WL<|And.intro @WJ<|And.intro @WK<|And.intro @WI<|And.intro @WG<|And.intro @WH<|And.intro @WZ<|And.intro @W0<|And.intro @WX<|And.intro @ae5<|And.intro @ae4<|And.intro @ae6<|And.intro @Xp<|And.intro @Xq<|And.intro @Xo<|And.intro @ac4<|And.intro @ac3<|And.intro @ac5<|And.intro @acD<|And.intro @acC @acE):=And.intro @WR<|And.intro @WS<|And.intro @WQ<|And.intro @WW<|And.intro @WM<|And.intro @WL<|And.intro @WJ<|And.intro @WK<|And.intro @WI<|And.intro @WG<|And.intro @WH<|And.intro @WZ<|And.intro @W0<|And.intro @WX<|And.intro @ae5<|And.intro @ae4<|And.intro @ae6<|And.intro @Xp<|And.intro @Xq<|And.intro @Xo<|And.intro @ac4<|And.intro @ac3<|And.intro @ac5<|And.intro @acD<|And.intro @acC @acE
theorem Rt:type_of%(And.intro @Xv<|And.intro @Xu<|And.intro @aan<|And.intro @aam<|And.intro @Yb<|And.intro @Ya<|And.intro @afp<|And.intro @afq<|And.intro @Yz<|And.intro @Yx<|And.intro @Yw<|And.intro @Yy<|And.intro @adX<|And.intro @adV<|And.intro @aS<|And.intro @abg<|And.intro @abf<|And.intro @Wz<|And.intro @Wy<|And.intro @Yq<|And.intro @adu<|And.intro @norm_int<|And.intro @ac8<|And.intro @adj<|And.intro @adh<|And.intro @adi<|And.intro @ac9<|And.intro @ada<|And.intro @adg<|And.intro @ade<|And.intro @adf<|And.intro @adb<|And.intro @aeJ<|And.intro @aeI<|And.intro @aeE<|And.intro @aeH<|And.intro @bft<|And.intro @btf<|And.intro @bff<|And.intro @btt<|And.intro @Xe<|And.intro @OY<|And.intro @XO<|And.intro @XI<|And.intro @XG<|And.intro @aeF<|And.intro @Xd<|And.intro @aeG<|And.intro @aeN<|And.intro @aeM @aeO):=And.intro @Xv<|And.intro @Xu<|And.intro @aan<|And.intro @aam<|And.intro @Yb<|And.intro @Ya<|And.intro @afp<|And.intro @afq<|And.intro @Yz<|And.intro @Yx<|And.intro @Yw<|And.intro @Yy<|And.intro @adX<|And.intro @adV<|And.intro @aS<|And.intro @abg<|And.intro @abf<|And.intro @Wz<|And.intro @Wy<|And.intro @Yq<|And.intro @adu<|And.intro @norm_int<|And.intro @ac8<|And.intro @adj<|And.intro @adh<|And.intro @adi<|And.intro @ac9<|And.intro @ada<|And.intro @adg<|And.intro @ade<|And.intro @adf<|And.intro @adb<|And.intro @aeJ<|And.intro @aeI<|And.intro @aeE<|And.intro @aeH<|And.intro @bft<|And.intro @btf<|And.intro @bff<|And.intro @btt<|And.intro @Xe<|And.intro @OY<|And.intro @XO<|And.intro @XI<|And.intro @XG<|And.intro @aeF<|And.intro @Xd<|And.intro @aeG<|And.intro @aeN<|And.intro @aeM @aeO
theorem Rl:type_of%(And.intro @List.map_nil.{0,0}<|And.intro @List.append_nil.{0}<|And.intro @List.map_cons.{0,0}<|And.intro @List.cons_append.{0}<|And.intro @List.nil_append.{0}<|And.intro @List.drop_zero.{0}<|And.intro @List.take_zero.{0}<|And.intro @List.length_cons.{0}<|And.intro @List.length_nil.{0}<|And.intro @List.take_succ_cons.{0}<|And.intro @List.drop_nil.{0}<|And.intro @List.drop_succ_cons.{0}<|And.intro @List.length_map.{0,0}<|And.intro @List.take_nil.{0}<|And.intro @List.flatten_cons.{0}<|And.intro @List.getElem?_cons_zero.{0}<|And.intro @List.getElem?_cons_succ.{0}<|And.intro @List.all_nil.{0}<|And.intro @List.all_cons.{0}<|And.intro @List.not_mem_nil.{0} @Option.map_some.{0,0}):=And.intro @List.map_nil.{0,0}<|And.intro @List.append_nil.{0}<|And.intro @List.map_cons.{0,0}<|And.intro @List.cons_append.{0}<|And.intro @List.nil_append.{0}<|And.intro @List.drop_zero.{0}<|And.intro @List.take_zero.{0}<|And.intro @List.length_cons.{0}<|And.intro @List.length_nil.{0}<|And.intro @List.take_succ_cons.{0}<|And.intro @List.drop_nil.{0}<|And.intro @List.drop_succ_cons.{0}<|And.intro @List.length_map.{0,0}<|And.intro @List.take_nil.{0}<|And.intro @List.flatten_cons.{0}<|And.intro @List.getElem?_cons_zero.{0}<|And.intro @List.getElem?_cons_succ.{0}<|And.intro @List.all_nil.{0}<|And.intro @List.all_cons.{0}<|And.intro @List.not_mem_nil.{0} @Option.map_some.{0,0}
theorem Rb:type_of%(And.intro @Bool.false_eq_true<|And.intro @Bool.not_true<|And.intro @Bool.not_false<|And.intro @Bool.and_true<|And.intro @Bool.and_false<|And.intro @Bool.true_and<|And.intro @Bool.false_and<|And.intro @true_and<|And.intro @and_true<|And.intro @true_or<|And.intro @or_true<|And.intro @false_or<|And.intro @or_false<|And.intro @decide_true<|And.intro @decide_false<|And.intro @not_true_eq_false<|And.intro @not_false_eq_true<|And.intro @and_self<|And.intro @Nat.le_refl<|And.intro @Nat.zero_add<|And.intro @Nat.mul_one<|And.intro @Nat.zero_mul<|And.intro @Nat.zero_le<|And.intro @Nat.sub_zero @Int.zero_add):=And.intro @Bool.false_eq_true<|And.intro @Bool.not_true<|And.intro @Bool.not_false<|And.intro @Bool.and_true<|And.intro @Bool.and_false<|And.intro @Bool.true_and<|And.intro @Bool.false_and<|And.intro @true_and<|And.intro @and_true<|And.intro @true_or<|And.intro @or_true<|And.intro @false_or<|And.intro @or_false<|And.intro @decide_true<|And.intro @decide_false<|And.intro @not_true_eq_false<|And.intro @not_false_eq_true<|And.intro @and_self<|And.intro @Nat.le_refl<|And.intro @Nat.zero_add<|And.intro @Nat.mul_one<|And.intro @Nat.zero_mul<|And.intro @Nat.zero_le<|And.intro @Nat.sub_zero @Int.zero_add
def grown(site ty z:Nat)(es:List (List PV))(v:V)(aj:aA):Prop:=(es=[]/\v=.one (.p .nils))\/(es≠[]/\ ∃g,v=.one (.hsl site g z 0 es.length)/\aj site=(g,some (.arr ty z es)))
def aO(ty z:Nat)(es:List (List PV)):RC:=if es=[] then .p .nils else .own ty z es
theorem grown.of_eq{aj ao:aA}(h:grown site ty z es v aj)(hb:ao site=aj site):grown site ty z es v ao:=by
 rcases h with h|⟨h1,g,h2,h3⟩
 .exact .inl h
 exact .inr ⟨h1,g,h2,by rw[hb,h3]⟩
theorem grown.nil{aj:aA}:grown site ty z [] (.one (.p .nils)) aj:=.inl ⟨rfl,rfl⟩
theorem grown.fm{aj:aA}(h:grown site ty z es v aj):∃c o,v=.one c/\fm aj c=some (aO ty z es,o,[])/\(o=[]\/o=[site]):=by
 rcases h with ⟨h1,h2⟩|⟨h1,g,h2,h3⟩
 .exact⟨.p .nils,[],h2,by simp[Go.Abs.fm,aO,h1],.inl rfl⟩
 refine⟨_,[site],h2,?_,.inr rfl⟩;simp only[Go.Abs.fm,h3,and_self,cA,if_true,jf,aO,aD h1]
theorem xH{aj:aA}(h:grown site ty z es v aj):fv aj v=some (.one (aO ty z es)):=by
 obtain⟨c,o,rfl,h2,h3⟩:=h.fm;rcases h3 with rfl|rfl
 .simp[fv,ll,jx,iY,h2,apart,oQ,mq]
 simp[fv,ll,jx,iY,h2,apart,oQ,mq]
theorem GF{s1 t1 z1 s2 t2 z2:Nat}{fs:List (List PV)}{w:V}{aj:aA}(hs:s1≠s2)(h:grown s1 t1 z1 es v aj)(h':grown s2 t2 z2 fs w aj):fv aj (.tup [v,w])=some (.tup [.one (aO t1 z1 es),.one (aO t2 z2 fs)]):=by obtain⟨c,o,rfl,h2,h3⟩:=h.fm;obtain⟨d,q,rfl,k2,k3⟩:=h'.fm;rcases h3 with rfl|rfl<;>rcases k3 with rfl|rfl<;>simp[fv,ll,qU,jx,iY,h2,k2,apart,oQ,mq,yw,hs]
theorem grown.elems{aj:aA}(h:grown site ty z es v aj):∃r,eN aj v=some (es,r,[])/\(r=[]\/r=[site]):=by
 rcases h with ⟨h1,h2⟩|⟨h1,g,h2,h3⟩
 .exact⟨[],by rw[h2,h1];rfl,.inl rfl⟩
 refine⟨[site],?_,.inr rfl⟩;rw[h2];simp[eN,h3]
theorem grown.lQ{aj:aA}(h:grown site ty z es v aj):es=[]\/lQ v=some z:=by
 rcases h with ⟨h1,h2⟩|⟨h1,g,h2,h3⟩
 .exact .inl h1
 exact .inr (by rw[h2];rfl)
theorem grown.eC{aj:aA}(h:grown site ty z es v aj):Go.Abs.lQ v=some z\/eC z es=true:=by
 rcases h.lQ with h|h
 .exact .inr (by rw[h];rfl)
 exact .inl h
theorem grown.len{aj:aA}(h:grown site ty z es v aj):wJ v=some es.length:=by
 rcases h with ⟨h1,h2⟩|⟨h1,g,h2,h3⟩
 .rw[h1,h2];rfl
 rw[h2];rfl
theorem grown.snap{aj:aA}(h:grown site ty z es v aj):∃r,mu aj v=some (.one (.p (.sl es)),r)/\(r=[]\/r=[site]):=by
 rcases h with ⟨h1,h2⟩|⟨h1,g,h2,h3⟩
 .exact⟨[],by rw[h2,h1];rfl,.inl rfl⟩
 refine⟨[site],?_,.inr rfl⟩;rw[h2];simp[mu,fM,Go.Abs.snap,h3]
theorem grown.VA{c:C}{aj:aA}(h:grown site ty z es (.one c) aj){n:Nat}:∃r,Go.Abs.snap aj (n+1) c=some (.sl es,r)/\(r=[]\/r=[site]):=by
 rcases h with ⟨h1,h2⟩|⟨h1,g,h2,h3⟩
 .cases h2;exact⟨[],by rw[h1];rfl,.inl rfl⟩
 refine⟨[site],?_,.inr rfl⟩;cases h2;simp[Go.Abs.snap,h3]
section
variable {S:Sys} {al:Al} {Q:dS} {ak:Env} {aj:aA} {os all:List bR} {tr:List cn} {d:Option Nat}
theorem OB{id bytes:Nat}{xs:List (List PV)}{v x:V}{rd:List Nat}(hg:grown id ty z es v aj)(hx:eN aj x=some (xs,rd,[]))(hz:lQ x=some z\/eC z xs=true)(hr:(es.length+xs.length)*bytes<=140737488355328):
  ∃v' u r,eO aj site ty z bytes v x=.done v' u r/\grown site ty z (es++xs) v' (app u aj)/\(∀i,i≠site->i≠id->app u aj i=aj i)/\(r=rd/\u.map (·.1)=[]\/r=site::rd/\u.map (·.1)=[site]\/r=site::id::rd/\u.map (·.1)=[id,site]):=by
 have oJ:¬¬(lQ x=some z\/eC z xs=true):=fun h=>h hz;rcases hg with ⟨rfl,rfl⟩|⟨aM,g,rfl,hC⟩
 .by_cases h0:xs=[]
  .subst h0;refine⟨.one (.p .nils),[],rd,?_,.inl ⟨rfl,rfl⟩,fun i _ _=>rfl,.inl ⟨rfl,rfl⟩⟩;simp[eO,hx,oJ,qx,rU]
  have hl:¬xs.length=0:=by simpa using h0
  have oE:xs.length*bytes<=room:=by simpa [room] using hr
  refine⟨.one (.hsl site ((aj site).1+1) z 0 xs.length),[(site,((aj site).1+1,some (.arr ty z xs)))],site::rd,?_,.inr ⟨by simpa using h0,(aj site).1+1,af,?_⟩,fun i h1 _=>?_,.inr (.inl ⟨rfl,rfl⟩)⟩
  .simp only[eO,hx,aD oJ,qx,rU,aD hl,aE oE];simp
  .simp[app,aS]
  simp[app,aS,h1]
 have oE:(es.length+xs.length)*bytes<=room:=by simpa [room] using hr
 refine⟨.one (.hsl site ((aj site).1+1) z 0 (es.length+xs.length)),[(id,(g,none)),(site,((aj site).1+1,some (.arr ty z (es++xs))))],site::id::rd,?_,.inr ⟨by simp[aM],(aj site).1+1,af,?_⟩,fun i h1 h2=>?_,.inr (.inr ⟨rfl,rfl⟩)⟩
 .simp only[eO,hx,aD oJ,qx,rU,hC];simp[oE]
 .simp[app,aS]
 simp[app,aS,h1,h2]
theorem mE{id site ty z bytes:Nat}{es xs:List (List PV)}{v x:V}{rd:List Nat}(hg:grown id ty z es v aj)(hx:eN aj x=some (xs,rd,[]))(hz:lQ x=some z\/eC z xs=true)(hr:(es.length+xs.length)*bytes<=140737488355328)
  (hK:∀(c:C) ao,grown site ty z (es++xs) (.one c) ao->(∀i,i≠site->i≠id->ao i=aj i)->RN S .all os Q (put ak d (.one c)) ao):gP S .all (eO aj site ty z bytes v x) d os Q ak aj:=by
 obtain⟨v',u,r,h1,h2,h3,_⟩:=OB hg hx hz hr;obtain⟨c,o,rfl,_⟩:=h2.fm;rw[h1,JP];exact hK _ _ h2 h3
theorem tJ{id site ty z bytes:Nat}{es xs:List (List PV)}{v x:V}{rd:List Nat}(hg:grown id ty z es v aj)(hx:eN aj x=some (xs,rd,[]))(hz:lQ x=some z\/eC z xs=true)(hr:(es.length+xs.length)*bytes<=140737488355328)
  (hK:∀(c:C) ao r w,grown site ty z (es++xs) (.one c) ao->(∀i,i≠site->i≠id->ao i=aj i)->(r=rd/\w=[]\/r=site::rd/\w=[site]\/r=site::id::rd/\w=[id,site])->RD S .all all os Q (put ak d (.one c)) ao (tr++[⟨r,w,[]⟩])):dP S .all (eO aj site ty z bytes v x) d all os Q ak aj tr:=by
 obtain⟨v',u,r,h1,h2,h3,h4⟩:=OB hg hx hz hr;obtain⟨c,o,rfl,_⟩:=h2.fm;rw[h1,Jq];exact hK _ _ _ _ h2 h3 h4
theorem uf{s:Nat}:grown s ty z es (.one (dd aj s (aO ty z es)).1) (app (dd aj s (aO ty z es)).2 aj)/\(∀i,i≠s->app (dd aj s (aO ty z es)).2 aj i=aj i)/\((dd aj s (aO ty z es)).2.map (·.1)=[]\/(dd aj s (aO ty z es)).2.map (·.1)=[s]):=by
 unfold aO;by_cases h:es=[]
 .rw[aE h];exact⟨.inl ⟨h,rfl⟩,fun i _=>rfl,.inl rfl⟩
 rw[aD h];exact⟨.inr ⟨h,(aj s).1+1,rfl,by simp[dd,app,aS]⟩,fun i hi=>by simp[dd,app,aS,hi],.inr rfl⟩
theorem uq(r:RV):r.eG false=r:=rfl
theorem pI{f:Nat}{vs:List V}{s ty z:Nat}{rd:List Nat}{es:List (List PV)}(hp:aJ S f vs (.one (aO ty z es)))(eU:S.lone s=false)(oF:rd=[]\/(RV.one (aO ty z es)).alone=true)
  (hK:∀(c:C) ao,grown s ty z es (.one c) ao->(∀i,i≠s->ao i=aj i)->RN S .all os Q (put ak d (.one c)) ao):gP S .all (.pc f vs rd s) d os Q ak aj:=by
 obtain⟨h1,h2,_⟩:=uf (aj:=aj) (s:=s) (ty:=ty) (z:=z) (es:=es);refine(cK (v:=.one (dd aj s (aO ty z es)).1) (u:=(dd aj s (aO ty z es)).2) hp ?_).2 (hK _ _ h1 h2);rw[eU,uq];unfold land;rw[aE oF];simp[gk,gJ,gZ,iX,sD,mU]
theorem GB{f:Nat}{vs:List V}{s t1 z1 t2 z2:Nat}{es fs:List (List PV)}(hp:aJ S f vs (.tup [.one (aO t1 z1 es),.one (aO t2 z2 fs)]))(eU:S.lone s=false)
  (hK:∀(c e:C) ao,grown s t1 z1 es (.one c) ao->grown (s+1) t2 z2 fs (.one e) ao->(∀i,i≠s->i≠s+1->ao i=aj i)->RN S .all os Q (put ak d (.tup [.one c,.one e])) ao):gP S .all (.pc f vs [] s) d os Q ak aj:=by
 obtain⟨h1,h2,_⟩:=uf (aj:=aj) (s:=s) (ty:=t1) (z:=z1) (es:=es);have e0:∀(b b':aA) (k:Nat) (r:RC),b' k=b k->dd b k r=dd b' k r:=by
  intro b b' k r h;cases r with
  |p v=>rfl
  |own ty sz es=>simp only[dd,h]
 have e2:dd aj (s+1) (aO t2 z2 fs)=dd (app (dd aj s (aO t1 z1 es)).2 aj) (s+1) (aO t2 z2 fs):=e0 _ _ _ _ (h2 (s+1) aa);obtain⟨k1,k2,_⟩:=uf (aj:=app (dd aj s (aO t1 z1 es)).2 aj) (s:=s+1) (ty:=t2) (z:=z2) (es:=fs);rw[<- e2] at k1 k2;have Ei:∀(a b:List dY) (c:aA),app (a++b) c=app b (app a c):=by
  intro a
  induction a with
  |nil=>intro b c;rfl
  |cons x a ih=>intro b c;exact ih b _
 refine(cK (v:=.tup [.one (dd aj s (aO t1 z1 es)).1,.one (dd aj (s+1) (aO t2 z2 fs)).1]) (u:=(dd aj s (aO t1 z1 es)).2++(dd aj (s+1) (aO t2 z2 fs)).2) hp ?_).2 (hK _ _ _ ?_ ?_ ?_)
 .rw[eU,uq];unfold land;rw[aE (.inl rfl)];simp[gk,gJ,nu,gZ,iX,sD,sE,mU]
 .rw[Ei];exact h1.of_eq (k2 s aa)
 .rw[Ei];exact k1
 intro i a b;rw[Ei,k2 i b,h2 i a]
end
theorem mY(h:(es.all fun e=>e.all PV.scalar)=true):(RV.one (aO ty z es)).alone=true:=by
 unfold aO;split
 .rfl
 simp[RV.alone,gJ,gZ,RC.alone,h]
theorem grown.fM{c:C}{aj:aA}(h:grown site ty z es (.one c) aj):∃r,Go.Abs.snap aj Go.Abs.fM c=some (.sl es,r)/\(r=[]\/r=[site]):=h.VA
def uG(aj:aA)(r:List Nat):Prop:=∀i∈r,∃g ty z es,aj i=(g,some (.arr ty z es))
theorem uG.nil{aj:aA}:uG aj []:=fun _ h=>by simp at h
theorem uG.app{aj:aA}{a b:List Nat}(h:uG aj a)(k:uG aj b):uG aj (a++b):=fun i hi=>by
 rcases fi.1 hi with hi|hi
 .exact h i hi
 exact k i hi
theorem grown.OV{c:C}{aj:aA}(h:grown site ty z es (.one c) aj):∃r,Go.Abs.snap aj Go.Abs.fM c=some (.sl es,r)/\uG aj r/\(r=[]\/r=[site]):=by
 rcases h with ⟨h1,h2⟩|⟨h1,g,h2,h3⟩
 .cases h2;exact⟨[],by rw[h1];rfl,uG.nil,.inl rfl⟩
 refine⟨[site],?_,fun i hi=>?_,.inr rfl⟩
 .cases h2;simp[Go.Abs.snap,Go.Abs.fM,h3]
 rw[rF] at hi;subst hi;exact⟨_,_,_,_,h3⟩
theorem Z5{aj:aA}(all:List Nat):∀r:List Nat,uG aj r->∃fu,rU aj all r=some fu/\fu.map (·.1)=r:=by
 intro r
 induction r with
 |nil=>intro _;exact⟨[],rfl,rfl⟩
 |cons i r ih=>intro h;obtain⟨g,ty,z,es,hi⟩:=h i af;obtain⟨fu,h1,h2⟩:=ih fun j hj=>h j (by simp[hj]);refine⟨(i,(g,some (.l7 ty z es)))::fu,?_,by simp[h2]⟩;simp[rU,uR,hi,h1]
theorem FZ:∀(u:List dY) (b:aA) (i:Nat),i∉u.map (·.1)->app u b i=b i:=by
 intro u
 induction u with
 |nil=>intro b i _;rfl
 |cons x u ih=>intro b i h;simp only[eE,dh,Ab] at h;show app u (df b x.1 x.2) i=b i;rw[ih _ _ h.2,aS,aD h.1]
theorem xm:∀(a b:List dY) (c:aA),app (a++b) c=app b (app a c):=by
 intro a
 induction a with
 |nil=>intro b c;rfl
 |cons x a ih=>intro b c;exact ih b _
section
variable {S:Sys} {al:Al} {Q:dS} {ak:Env} {aj:aA} {os all:List bR} {tr:List cn} {d:Option Nat}
theorem Z9{id site ty z bytes:Nat}{es xs:List (List PV)}{v x:V}{rd fr:List Nat}(hg:grown id ty z es v aj)(hx:eN aj x=some (xs,rd,fr))(r5:uG aj fr)(hni:id∉fr)(hns:site∉fr)(hz:lQ x=some z\/eC z xs=true)(hr:(es.length+xs.length)*bytes<=140737488355328)
  (hK:∀(c:C) ao,grown site ty z (es++xs) (.one c) ao->(∀i,i≠site->i≠id->i∉fr->ao i=aj i)->RN S .all os Q (put ak d (.one c)) ao):gP S .all (eO aj site ty z bytes v x) d os Q ak aj:=by
 have oJ:¬¬(lQ x=some z\/eC z xs=true):=fun h=>h hz;obtain⟨fu,GR,we⟩:=Z5 fr fr r5;have Ep:qx aj fr=some fu:=GR;rcases hg with ⟨rfl,rfl⟩|⟨aM,g,rfl,hC⟩
 .by_cases h0:xs=[]
  .subst h0;have:eO aj site ty z bytes (.one (.p .nils)) x=.done (.one (.p .nils)) fu (rd++fr):=by simp[eO,hx,oJ,Ep]
   rw[this,JP];exact hK _ _ (.inl ⟨rfl,rfl⟩) fun i _ _ h3=>FZ _ _ _ (by rw[we];exact h3)
  have hl:¬xs.length=0:=by simpa using h0
  have oE:xs.length*bytes<=room:=by simpa [room] using hr
  have:eO aj site ty z bytes (.one (.p .nils)) x=.done (.one (.hsl site ((aj site).1+1) z 0 xs.length)) (fu++[(site,((aj site).1+1,some (.arr ty z xs)))]) (site::rd++fr):=by simp only[eO,hx,aD oJ,Ep,aD hl,aE oE]
  rw[this,JP];refine hK _ _ (.inr ⟨by simpa using h0,(aj site).1+1,af,?_⟩) fun i h1 _ h3=>?_
  .rw[xm];simp[app,aS]
  rw[xm];have:=FZ fu aj i (by rw[we];exact h3);simp[app,aS,h1,this]
 have oE:(es.length+xs.length)*bytes<=room:=by simpa [room] using hr
 have Hb:fr.contains id=false:=by simpa using hni
 have:eO aj site ty z bytes (.one (.hsl id g z 0 es.length)) x=.done (.one (.hsl site ((aj site).1+1) z 0 (es.length+xs.length))) (fu++[(id,(g,none)),(site,((aj site).1+1,some (.arr ty z (es++xs))))]) (site::id::rd++fr):=by simp only[eO,hx,aD oJ,Ep,hC,Hb];simp[oE]
 rw[this,JP];refine hK _ _ (.inr ⟨by simp[aM],(aj site).1+1,af,?_⟩) fun i h1 h2 h3=>?_
 .rw[xm];simp[app,aS]
 rw[xm];have:=FZ fu aj i (by rw[we];exact h3);simp[app,aS,h1,h2,this]
theorem ajX{f:Nat}{vs:List V}{s t1 z1 t2 z2:Nat}{rd:List Nat}{es fs:List (List PV)}(hp:aJ S f vs (.tup [.one (aO t1 z1 es),.one (aO t2 z2 fs)]))(eU:S.lone s=false)
  (h1:(es.all fun e=>e.all PV.scalar)=true) (h2:(fs.all fun e=>e.all PV.scalar)=true)
  (hK:∀(c e:C) ao,grown s t1 z1 es (.one c) ao->grown (s+1) t2 z2 fs (.one e) ao->(∀i,i≠s->i≠s+1->ao i=aj i)->RN S .all os Q (put ak d (.tup [.one c,.one e])) ao):gP S .all (.pc f vs rd s) d os Q ak aj:=by
 have fO:(RV.tup [.one (aO t1 z1 es),.one (aO t2 z2 fs)]).alone=true:=by have a:=mY (ty:=t1) (z:=z1) h1;have b:=mY (ty:=t2) (z:=z2) h2;simp only[RV.alone,gJ,gZ,qM,tv,zU] at a b;simp[RV.alone,gJ,nu,gZ,a,b]
 have h:gP S .all (.pc f vs [] s) d os Q ak aj:=GB hp eU hK;obtain⟨y,hy,h3⟩:=h;refine⟨y,hy,?_⟩;have:=hy.uO hp;subst this;rw[eU,uq] at h3 ⊢;unfold land at h3 ⊢;rw[aE (.inl rfl)] at h3;rw[aE (.inr fO)];obtain⟨_,h4⟩:=h3;exact⟨Al.BX _,h4⟩
end
theorem Lg{a i:Nat}{l:List Nat}(hi:i∈l)(h:a∉l):i≠a:=fun e=>h (e▸hi)
section
variable {S:Sys} {al:Al} {Q:dS} {ak:Env} {aj:aA} {os all:List bR} {tr:List cn} {d:Option Nat}
theorem UT{l:List Nat}(h:∀i∈l,al.ok i=true):al.fE l=true:=ij.2 h
theorem Nj{id site ty z bytes:Nat}{es xs:List (List PV)}{v x:V}{rd:List Nat}(aq:∀i∈site::id::rd,al.ok i=true)(hg:grown id ty z es v aj)(hx:eN aj x=some (xs,rd,[]))(hz:lQ x=some z\/eC z xs=true)(hr:(es.length+xs.length)*bytes<=140737488355328)
  (hK:∀(c:C) ao,grown site ty z (es++xs) (.one c) ao->(∀i,i≠site->i≠id->ao i=aj i)->RN S al os Q (put ak d (.one c)) ao):gP S al (eO aj site ty z bytes v x) d os Q ak aj:=by
 obtain⟨v',u,r,h1,h2,h3,h4⟩:=OB hg hx hz hr;obtain⟨c,o,rfl,_⟩:=h2.fm;rw[h1,aac];refine⟨?_,hK _ _ h2 h3⟩;rcases h4 with ⟨rfl,h5⟩|⟨rfl,h5⟩|⟨rfl,h5⟩<;>rw[h5]<;>refine UT fun i hi=>aq i ?_ <;>simp at hi ⊢
 .exact .inr (.inr hi)
 .rcases hi with h|h|h<;>simp[h]
 rcases hi with h|h|h|h|h<;>simp[h]
theorem ME{id site ty z bytes:Nat}{es xs:List (List PV)}{v x:V}{rd:List Nat}(aq:∀i∈site::id::rd,al.ok i=true)(hg:grown id ty z es v aj)(hx:eN aj x=some (xs,rd,[]))(hz:lQ x=some z\/eC z xs=true)(hr:(es.length+xs.length)*bytes<=140737488355328)
  (hK:∀(c:C) ao r w,grown site ty z (es++xs) (.one c) ao->(∀i,i≠site->i≠id->ao i=aj i)->(r=rd/\w=[]\/r=site::rd/\w=[site]\/r=site::id::rd/\w=[id,site])->RD S al all os Q (put ak d (.one c)) ao (tr++[⟨r,w,[]⟩])):dP S al (eO aj site ty z bytes v x) d all os Q ak aj tr:=by
 obtain⟨v',u,r,h1,h2,h3,h4⟩:=OB hg hx hz hr;obtain⟨c,o,rfl,_⟩:=h2.fm;rw[h1,X7];refine⟨?_,hK _ _ _ _ h2 h3 h4⟩;rcases h4 with ⟨rfl,h5⟩|⟨rfl,h5⟩|⟨rfl,h5⟩<;>rw[h5]<;>refine UT fun i hi=>aq i ?_ <;>simp at hi ⊢
 .exact .inr (.inr hi)
 .rcases hi with h|h|h<;>simp[h]
 rcases hi with h|h|h|h|h<;>simp[h]
theorem ajW{f:Nat}{vs:List V}{s t1 z1 t2 z2:Nat}{rd:List Nat}{es fs:List (List PV)}(aq:∀i∈s::(s+1)::rd,al.ok i=true)(hp:aJ S f vs (.tup [.one (aO t1 z1 es),.one (aO t2 z2 fs)]))(eU:S.lone s=false)
  (jk:(es.all fun e=>e.all PV.scalar)=true) (eW:(fs.all fun e=>e.all PV.scalar)=true)
  (hK:∀(c e:C) ao,grown s t1 z1 es (.one c) ao->grown (s+1) t2 z2 fs (.one e) ao->(∀i,i≠s->i≠s+1->ao i=aj i)->RN S al os Q (put ak d (.tup [.one c,.one e])) ao):gP S al (.pc f vs rd s) d os Q ak aj:=by
 have fO:(RV.tup [.one (aO t1 z1 es),.one (aO t2 z2 fs)]).alone=true:=by have a:=mY (ty:=t1) (z:=z1) jk;have b:=mY (ty:=t2) (z:=z2) eW;simp only[RV.alone,gJ,gZ,qM,tv,zU] at a b;simp[RV.alone,gJ,nu,gZ,a,b]
 obtain⟨h1,h2,h2u⟩:=uf (aj:=aj) (s:=s) (ty:=t1) (z:=z1) (es:=es);have e0:∀(b b':aA) (k:Nat) (r:RC),b' k=b k->dd b k r=dd b' k r:=by
  intro b b' k r h;cases r with
  |p v=>rfl
  |own ty sz es=>simp only[dd,h]
 have e2:dd aj (s+1) (aO t2 z2 fs)=dd (app (dd aj s (aO t1 z1 es)).2 aj) (s+1) (aO t2 z2 fs):=e0 _ _ _ _ (h2 (s+1) aa);obtain⟨k1,k2,k2u⟩:=uf (aj:=app (dd aj s (aO t1 z1 es)).2 aj) (s:=s+1) (ty:=t2) (z:=z2) (es:=fs);rw[<- e2] at k1 k2 k2u;refine⟨_,hp,?_⟩;rw[eU,uq];have hl:land aj rd s (RV.tup [.one (aO t1 z1 es),.one (aO t2 z2 fs)])=some (.tup [.one (dd aj s (aO t1 z1 es)).1,.one (dd aj (s+1) (aO t2 z2 fs)).1],(dd aj s (aO t1 z1 es)).2++(dd aj (s+1) (aO t2 z2 fs)).2):=by unfold land;rw[aE (.inr fO)];simp[gk,gJ,nu,gZ,iX,sD,sE,mU]
 rw[hl];refine⟨UT fun i hi=>aq i ?_,hK _ _ _ ?_ ?_ ?_⟩
 .simp only[km,fi] at hi;rcases hi with hi|hi|hi
  .simp[hi]
  .rcases h2u with h|h<;>rw[h] at hi<;>simp at hi<;>simp[hi]
  rcases k2u with h|h<;>rw[h] at hi<;>simp at hi<;>simp[hi]
 .rw[xm];exact h1.of_eq (k2 s aa)
 .rw[xm];exact k1
 intro i a b;rw[xm,k2 i b,h2 i a]
end
theorem aT{b:aA}{a i:Nat}{x:Nat×Option Ob}(h:i≠a):df b a x i=b i:=by rw[aS,aD h]
theorem rC{b:aA}{a:Nat}{x:Nat×Option Ob}:df b a x a=x:=by rw[aS,aE rfl]
theorem N9{a i:Nat}{l:List Nat}(h:i∉l)(ha:a∈l):i≠a:=fun e=>h (e▸ha)
section
variable {S:Sys} {al:Al} {Q:dS} {ak:Env} {aj:aA} {os all:List bR} {tr:List cn} {d:Option Nat}
theorem aad{f:Nat}{vs:List V}{s ty z:Nat}{es:List (List PV)}{x:PV}(hp:aJ S f vs (.tup [.one (aO ty z es),.one (.p x)]))(eU:S.lone s=false)
  (hK:∀(c:C) ao,grown s ty z es (.one c) ao->(∀i,i≠s->ao i=aj i)->RN S .all os Q (put ak d (.tup [.one c,.one (.p x)])) ao):gP S .all (.pc f vs [] s) d os Q ak aj:=by
 obtain⟨h1,h2,_⟩:=uf (aj:=aj) (s:=s) (ty:=ty) (z:=z) (es:=es);refine(cK (v:=.tup [.one (dd aj s (aO ty z es)).1,.one (.p x)]) (u:=(dd aj s (aO ty z es)).2) hp ?_).2 (hK _ _ h1 h2);rw[eU,uq];unfold land;rw[aE (.inl rfl)];simp[gk,gJ,nu,gZ,iX,sD,sE,mU,dd]
theorem X8{f:Nat}{vs:List V}{s ty z:Nat}{rd:List Nat}{es:List (List PV)}(hp:aJ S f vs (.one (aO ty z es)))(eU:S.lone s=false)(oF:rd=[]\/(RV.one (aO ty z es)).alone=true)
  (hK:∀(c:C) ao w,grown s ty z es (.one c) ao->(∀i,i≠s->ao i=aj i)->(w=[]\/w=[s])->RD S .all all os Q (put ak d (.one c)) ao (tr++[⟨rd++w,w,[]⟩])):dP S .all (.pc f vs rd s) d all os Q ak aj tr:=by
 obtain⟨h1,h2,h3⟩:=uf (aj:=aj) (s:=s) (ty:=ty) (z:=z) (es:=es);refine(xz (v:=.one (dd aj s (aO ty z es)).1) (u:=(dd aj s (aO ty z es)).2) hp ?_).2 (hK _ _ _ h1 h2 h3);rw[eU,uq];unfold land;rw[aE oF];simp[gk,gJ,gZ,iX,sD,mU]
theorem aio{f:Nat}{vs:List V}{s ty z:Nat}{es:List (List PV)}{x:PV}(hp:aJ S f vs (.tup [.one (aO ty z es),.one (.p x)]))(eU:S.lone s=false)
  (hK:∀(c:C) ao w,grown s ty z es (.one c) ao->(∀i,i≠s->ao i=aj i)->(w=[]\/w=[s])->RD S .all all os Q (put ak d (.tup [.one c,.one (.p x)])) ao (tr++[⟨[]++w,w,[]⟩])):dP S .all (.pc f vs [] s) d all os Q ak aj tr:=by
 obtain⟨h1,h2,h3⟩:=uf (aj:=aj) (s:=s) (ty:=ty) (z:=z) (es:=es);refine(xz (v:=.tup [.one (dd aj s (aO ty z es)).1,.one (.p x)]) (u:=(dd aj s (aO ty z es)).2) hp ?_).2 (hK _ _ _ h1 h2 h3);rw[eU,uq];unfold land;rw[aE (.inl rfl)];simp[gk,gJ,nu,gZ,iX,sD,sE,mU,dd]
theorem Nk{f:Nat}{vs:List V}{s ty z:Nat}{rd:List Nat}{es:List (List PV)}{x:PV}(hp:aJ S f vs (.agg [.p x,aO ty z es]))(eU:S.lone s=false)(hx:x.scalar=true)(hs:(es.all fun e=>e.all PV.scalar)=true)
  (hK:∀(c:C) ao,grown (s+1) ty z es (.one c) ao->(∀i,i≠s+1->ao i=aj i)->RN S .all os Q (put ak d (.agg [.p x,c])) ao):gP S .all (.pc f vs rd s) d os Q ak aj:=by
 obtain⟨h1,h2,_⟩:=uf (aj:=aj) (s:=s+1) (ty:=ty) (z:=z) (es:=es);have fO:(RV.agg [.p x,aO ty z es]).alone=true:=by have a:=mY (ty:=ty) (z:=z) hs;simp only[RV.alone,gJ,gZ,qM,tv,zU] at a;simp only[RV.alone,gJ,gZ,qM,tv,zU,a];exact hx
 refine(cK (v:=.agg [.p x,(dd aj (s+1) (aO ty z es)).1]) (u:=(dd aj (s+1) (aO ty z es)).2) hp ?_).2 (hK _ _ h1 h2);rw[eU,uq];unfold land;rw[aE (.inr fO)];simp[gk,gJ,gZ,iX,sD,mU,dd]
theorem aae{f:Nat}{vs:List V}{s ty z:Nat}{es:List (List PV)}{x y:PV}(hp:aJ S f vs (.tup [.agg [.p x,aO ty z es],.one (.p y)]))(eU:S.lone s=false)
  (hK:∀(c:C) ao,grown (s+1) ty z es (.one c) ao->(∀i,i≠s+1->ao i=aj i)->RN S .all os Q (put ak d (.tup [.agg [.p x,c],.one (.p y)])) ao):gP S .all (.pc f vs [] s) d os Q ak aj:=by
 obtain⟨h1,h2,_⟩:=uf (aj:=aj) (s:=s+1) (ty:=ty) (z:=z) (es:=es);refine(cK (v:=.tup [.agg [.p x,(dd aj (s+1) (aO ty z es)).1],.one (.p y)]) (u:=(dd aj (s+1) (aO ty z es)).2) hp ?_).2 (hK _ _ h1 h2);rw[eU,uq];unfold land;rw[aE (.inl rfl)];simp[gk,gJ,nu,gZ,iX,sD,sE,mU,dd]
theorem aag{f:Nat}{vs:List V}{s ty z:Nat}{rd:List Nat}{es:List (List PV)}{x y:PV}(hp:aJ S f vs (.tup [.agg [.p x,aO ty z es],.one (.p y)]))(eU:S.lone s=false)(hx:x.scalar=true)(hy:y.scalar=true)(hs:(es.all fun e=>e.all PV.scalar)=true)
  (hK:∀(c:C) ao,grown (s+1) ty z es (.one c) ao->(∀i,i≠s+1->ao i=aj i)->RN S .all os Q (put ak d (.tup [.agg [.p x,c],.one (.p y)])) ao):gP S .all (.pc f vs rd s) d os Q ak aj:=by
 obtain⟨h1,h2,_⟩:=uf (aj:=aj) (s:=s+1) (ty:=ty) (z:=z) (es:=es);have fO:(RV.tup [.agg [.p x,aO ty z es],.one (.p y)]).alone=true:=by have a:=mY (ty:=ty) (z:=z) hs;simp only[RV.alone,gJ,gZ,qM,tv,zU] at a;simp only[RV.alone,gJ,nu,gZ,DD,gi,qh,qM,tv,zU,a,IJ];show(x.scalar&&y.scalar)=true;rw[hx,hy];rfl
 refine(cK (v:=.tup [.agg [.p x,(dd aj (s+1) (aO ty z es)).1],.one (.p y)]) (u:=(dd aj (s+1) (aO ty z es)).2) hp ?_).2 (hK _ _ h1 h2);rw[eU,uq];unfold land;rw[aE (.inr fO)];simp[gk,gJ,nu,gZ,iX,sD,sE,mU,dd]
end
theorem aaw{s1 t1 z1:Nat}{c:C}{y:PV}{aj:aA}(h:grown s1 t1 z1 es (.one c) aj):fv aj (.tup [.agg [.p x,c],.one (.p y)])=some (.tup [.agg [.p x,aO t1 z1 es],.one (.p y)]):=by obtain⟨c',o,hc,h2,h3⟩:=h.fm;cases hc;have e1:fm aj (.p x)=some (.p x,[],[]):=rfl;have e2:fm aj (.p y)=some (.p y,[],[]):=rfl;rcases h3 with rfl|rfl<;>simp[fv,ll,qU,jx,iY,h2,e1,e2,apart,oQ,mq,yw]
section
variable {S:Sys} {al:Al} {Q:dS} {ak:Env} {aj:aA} {os all:List bR} {tr:List cn} {d:Option Nat} {op:my} {w:Option Bool} {a b:aK} {v:V}
theorem hJ(L:List Nat)(h:∀e:Env,(∀k∈L,e k=ak k)->gW S al w d op os Q e aj):gW S al w d op os Q ak aj:=h ak fun _ _=>rfl
theorem tK(L:List Nat)(h:∀e:Env,(∀k∈L,e k=ak k)->dW S al w d op all os Q e aj tr):dW S al w d op all os Q ak aj tr:=h ak fun _ _=>rfl
theorem Xt(L:List Nat)(h:∀e:Env,(∀k∈L,e k=ak k)->cW S al v a b Q e aj):cW S al v a b Q ak aj:=h ak fun _ _=>rfl
end
section
variable {S:Sys} {al:Al} {Q:dS} {ak:Env} {aj:aA} {os all:List bR} {tr:List cn} {d:Option Nat}
theorem ain{id site ty z bytes:Nat}{es xs:List (List PV)}{v x:V}{rd fr:List Nat}(hg:grown id ty z es v aj)(hx:eN aj x=some (xs,rd,fr))(r5:uG aj fr)(hni:id∉fr)(hns:site∉fr)(hz:lQ x=some z\/eC z xs=true)(hr:(es.length+xs.length)*bytes<=140737488355328)
  (hK:∀(c:C) ao r w,grown site ty z (es++xs) (.one c) ao->(∀i,i≠site->i≠id->i∉fr->ao i=aj i)->(r=rd++fr/\w=fr\/r=site::rd++fr/\w=fr++[site]\/r=site::id::rd++fr/\w=fr++[id,site])->RD S .all all os Q (put ak d (.one c)) ao (tr++[⟨r,w,[]⟩])):dP S .all (eO aj site ty z bytes v x) d all os Q ak aj tr:=by
 have oJ:¬¬(lQ x=some z\/eC z xs=true):=fun h=>h hz;obtain⟨fu,GR,we⟩:=Z5 fr fr r5;have Ep:qx aj fr=some fu:=GR;rcases hg with ⟨rfl,rfl⟩|⟨aM,g,rfl,hC⟩
 .by_cases h0:xs=[]
  .subst h0;have:eO aj site ty z bytes (.one (.p .nils)) x=.done (.one (.p .nils)) fu (rd++fr):=by simp[eO,hx,oJ,Ep]
   rw[this,Jq];exact hK _ _ _ _ (.inl ⟨rfl,rfl⟩) (fun i _ _ h3=>FZ _ _ _ (by rw[we];exact h3)) (.inl ⟨rfl,we⟩)
  have hl:¬xs.length=0:=by simpa using h0
  have oE:xs.length*bytes<=room:=by simpa [room] using hr
  have:eO aj site ty z bytes (.one (.p .nils)) x=.done (.one (.hsl site ((aj site).1+1) z 0 xs.length)) (fu++[(site,((aj site).1+1,some (.arr ty z xs)))]) (site::rd++fr):=by simp only[eO,hx,aD oJ,Ep,aD hl,aE oE]
  rw[this,Jq];refine hK _ _ _ _ (.inr ⟨by simpa using h0,(aj site).1+1,af,?_⟩) (fun i h1 _ h3=>?_) (.inr (.inl ⟨rfl,by simp[we]⟩))
  .rw[xm];simp[app,aS]
  rw[xm];have:=FZ fu aj i (by rw[we];exact h3);simp[app,aS,h1,this]
 have oE:(es.length+xs.length)*bytes<=room:=by simpa [room] using hr
 have Hb:fr.contains id=false:=by simpa using hni
 have:eO aj site ty z bytes (.one (.hsl id g z 0 es.length)) x=.done (.one (.hsl site ((aj site).1+1) z 0 (es.length+xs.length))) (fu++[(id,(g,none)),(site,((aj site).1+1,some (.arr ty z (es++xs))))]) (site::id::rd++fr):=by simp only[eO,hx,aD oJ,Ep,hC,Hb];simp[oE]
 rw[this,Jq];refine hK _ _ _ _ (.inr ⟨by simp[aM],(aj site).1+1,af,?_⟩) (fun i h1 h2 h3=>?_) (.inr (.inr ⟨rfl,by simp[we]⟩))
 .rw[xm];simp[app,aS]
 rw[xm];have:=FZ fu aj i (by rw[we];exact h3);simp[app,aS,h1,h2,this]
theorem ajV{f:Nat}{vs:List V}{s ty z:Nat}{rd:List Nat}{es:List (List PV)}{x:PV}(hp:aJ S f vs (.tup [.one (aO ty z es),.one (.p x)]))(eU:S.lone s=false)(hs:(es.all fun e=>e.all PV.scalar)=true)(hx:x.scalar=true)
  (hK:∀(c:C) ao,grown s ty z es (.one c) ao->(∀i,i≠s->ao i=aj i)->RN S .all os Q (put ak d (.tup [.one c,.one (.p x)])) ao):gP S .all (.pc f vs rd s) d os Q ak aj:=by
 obtain⟨h1,h2,_⟩:=uf (aj:=aj) (s:=s) (ty:=ty) (z:=z) (es:=es);have fO:(RV.tup [.one (aO ty z es),.one (.p x)]).alone=true:=by have a:=mY (ty:=ty) (z:=z) hs;simp only[RV.alone,gJ,gZ,qM,tv,zU] at a;simp only[RV.alone,gJ,nu,gZ,DD,gi,qh,qM,tv,zU,a,IJ];exact hx
 refine(cK (v:=.tup [.one (dd aj s (aO ty z es)).1,.one (.p x)]) (u:=(dd aj s (aO ty z es)).2) hp ?_).2 (hK _ _ h1 h2);rw[eU,uq];unfold land;rw[aE (.inr fO)];simp[gk,gJ,nu,gZ,iX,sD,sE,mU,dd]
end
section
variable {S:Sys} {al:Al} {Q:dS} {ak:Env} {aj:aA} {os all:List bR} {tr:List cn} {d:Option Nat} {op:my} {a b:aK} {e w:Bool}
theorem uT(h1:e=true->gW S al (some (true==w)) d op os Q ak aj)(h2:e=false->gW S al (some (false==w)) d op os Q ak aj):gW S al (some (e==w)) d op os Q ak aj:=by
 cases e
 .exact h2 rfl
 exact h1 rfl
theorem uU(h1:e=true->gW S al (some (false==w)) d op os Q ak aj)(h2:e=false->gW S al (some (true==w)) d op os Q ak aj):gW S al (some ((!e)==w)) d op os Q ak aj:=by
 cases e
 .exact h2 rfl
 exact h1 rfl
theorem uL(h1:e=true->dW S al (some (true==w)) d op all os Q ak aj tr)(h2:e=false->dW S al (some (false==w)) d op all os Q ak aj tr):dW S al (some (e==w)) d op all os Q ak aj tr:=by
 cases e
 .exact h2 rfl
 exact h1 rfl
theorem uM(h1:e=true->dW S al (some (false==w)) d op all os Q ak aj tr)(h2:e=false->dW S al (some (true==w)) d op all os Q ak aj tr):dW S al (some ((!e)==w)) d op all os Q ak aj tr:=by
 cases e
 .exact h2 rfl
 exact h1 rfl
theorem uH(h1:e=true->cW S al (.one (.p (.bool true))) a b Q ak aj)(h2:e=false->cW S al (.one (.p (.bool false))) a b Q ak aj):cW S al (.one (.p (.bool e))) a b Q ak aj:=by
 cases e
 .exact h2 rfl
 exact h1 rfl
theorem uI(h1:e=true->cW S al (.one (.p (.bool false))) a b Q ak aj)(h2:e=false->cW S al (.one (.p (.bool true))) a b Q ak aj):cW S al (.one (.p (.bool (!e)))) a b Q ak aj:=by
 cases e
 .exact h2 rfl
 exact h1 rfl
theorem aah{rd:List Nat}{s:Nat}{r:RV}{u:List dY}(hp:aJ S f vs r)(h:land aj rd s (r.eG (S.lone s))=some (v,u)):gP S al (.pc f vs rd s) d os Q ak aj↔al.fE (rd++u.map (·.1))=true/\RN S al os Q (put ak d v) (app u aj):=by
 constructor
 .rintro ⟨y,hy,h2⟩
  have:=hy.uO hp;subst this;rw[h] at h2;exact h2
 intro hK;refine⟨_,hp,?_⟩;rw[h];exact hK
theorem X9{rd:List Nat}{s:Nat}{r:RV}{u:List dY}(hp:aJ S f vs r)(h:land aj rd s (r.eG (S.lone s))=some (v,u)):dP S al (.pc f vs rd s) d all os Q ak aj tr↔al.fE (rd++u.map (·.1))=true/\RD S al all os Q (put ak d v) (app u aj) (tr++[⟨rd++u.map (·.1),u.map (·.1),[]⟩]):=by
 constructor
 .rintro ⟨y,hy,h2⟩
  have:=hy.uO hp;subst this;rw[h] at h2;exact h2
 intro hK;refine⟨_,hp,?_⟩;rw[h];exact hK
theorem acm{s:Nat}(b:Bool):land aj [] s ((RV.one (.p x)).eG b)=some (.one (.p x),[]):=by cases b<;>rfl
theorem Tj{s:Nat}(h:aJ S f vs (.one (.p x))):gP S al (.pc f vs [] s) d os Q ak aj↔RN S al os Q (put ak d (.one (.p x))) aj:=by rw[aah h (acm _)];exact⟨fun h=>h.2,fun h=>⟨rfl,h⟩⟩
theorem MF{s:Nat}(h:aJ S f vs (.one (.p x))):dP S al (.pc f vs [] s) d all os Q ak aj tr↔RD S al all os Q (put ak d (.one (.p x))) aj (tr++[⟨[],[],[]⟩]):=by rw[X9 h (acm _)];exact⟨fun h=>h.2,fun h=>⟨rfl,h⟩⟩
end
section
variable {S:Sys} {al:Al} {Q:dS} {ak:Env} {aj:aA} {os all:List bR} {tr:List cn} {d:Option Nat} {op:my} {w:Option Bool} {a b:aK} {v:V} {p:eQ}
end
theorem grown.Ih{c:C}{aj:aA}(h:grown site ty z es (.one c) aj):∃r,(∀B:aA,B site=aj site->Go.Abs.snap B Go.Abs.fM c=some (.sl es,r))/\(r=[]\/r=[site]):=by
 rcases h with ⟨h1,h2⟩|⟨h1,g,h2,h3⟩
 .cases h2;exact⟨[],fun B _=>by rw[h1];rfl,.inl rfl⟩
 cases h2;refine⟨[site],fun B hB=>?_,.inr rfl⟩;rw[<- hB] at h3;simp[Go.Abs.fM,Go.Abs.snap,h3]
end
end Go.Abs
namespace Go.Abs
open Go
theorem ach{aj:aA}{rd:List Nat}{s:Nat}{r:RV}(h:rd=[]\/r.alone=true):land aj rd s r=some (gk aj s r):=by unfold land;rw[aE h]
section
variable {S:Sys} {al:Al} {Q:dS} {os all:List bR} {d:Option Nat} {ak:Env} {aj:aA} {tr:List cn}
theorem lz{rd:List Nat}{s:Nat}{r:RV}{f:Nat}{vs:List V}(hp:aJ S f vs r)(lo:S.lone s=false)(h:rd=[]\/r.alone=true):gP S al (.pc f vs rd s) d os Q ak aj↔al.fE (rd++(gk aj s r).2.map (·.1))=true/\RN S al os Q (put ak d (gk aj s r).1) (app (gk aj s r).2 aj):=aah hp (by rw[lo,uq];exact ach h)
theorem Gl{rd:List Nat}{s:Nat}{r:RV}{f:Nat}{vs:List V}(hp:aJ S f vs r)(lo:S.lone s=false)(h:rd=[]\/r.alone=true):dP S al (.pc f vs rd s) d all os Q ak aj tr↔al.fE (rd++(gk aj s r).2.map (·.1))=true/\RD S al all os Q (put ak d (gk aj s r).1) (app (gk aj s r).2 aj) (tr++[⟨rd++(gk aj s r).2.map (·.1),(gk aj s r).2.map (·.1),[]⟩]):=X9 hp (by rw[lo,uq];exact ach h)
end
theorem AR{ty z:Nat}{es:List (List PV)}(h:es≠[]):aO ty z es=.own ty z es:=aD h
theorem Tl{ty z:Nat}:aO ty z []=.p .nils:=aE rfl
end Go.Abs
namespace Go.Abs
theorem fm1{p:Nat->Prop}:(∀k∈([]:List Nat),p k)↔True:=by simp
theorem fm2{a:Nat}{l:List Nat}{p:Nat->Prop}:(∀k∈a::l,p k)↔p a/\ ∀k∈l,p k:=List.forall_mem_cons
attribute [go_sem] fm1 fm2 zA bne_self_eq_false Bool.or_true Bool.or_false Bool.true_or Bool.false_or Bool.not_not gk gJ gZ nu dd iX sD mU sE Option.getD_some Option.getD_none Option.isSome_some Option.isSome_none
attribute [go_sem ↓] Rd
attribute [go_sem high] JP Jq
attribute [go_sem] Rt Rl Rb aac X7 US UR Bool.and_self Al.BX
attribute [go_sem] bl pE rL AL EN app if_true if_false reduceIte Nat.reduceEqDiff beq_self_eq_true reduceCtorEq ge_iff_le mV Oc yA Cf Nat.reduceAdd zI nQ yB eh qq wJ ne_eq Nat.reduceLeDiff wO xD zQ zP toP fill Nat.reduceMul Nat.reduceLT OX OW
attribute [go_sem] eN lQ qx rU room Bq qp Nat.reduceSub Int.reduceLT Int.reduceAdd Int.reduceBEq Int.reduceBNe Int.reduceLE List.contains_eq_mem uj
end Go.Abs
