/-
  Rules for a walk.
-/
import Derived.Test.YtfohniicngjeoaaGreatDoorMc
import Derived.Attr
set_option linter.all false
namespace Go.Abs
section
variable{x:PV}{f site ty z:Nat}{vs:List V}{es:List (List PV)}
theorem Xk(k:Nat):oI (.one (.p (.int .i64 (k:Int))))=some k:=by simp[oI]
theorem Xj(n:Nat):oI (.one (.p (.int .i64 (no_index (@OfNat.ofNat Int n instOfNat)))))=some (@OfNat.ofNat Nat n (instOfNatNat n)):=by show oI (.one (.p (.int .i64 (Int.ofNat n))))=some n;simp[oI]
theorem Qs{aj:aA}{v:PV}:snap aj fH (.p v)=some (v.norm,[]):=rfl
def RP{β:Type}(x:Option (β×List Nat))(y:Option (List β×List Nat)):Option (List β×List Nat):=match x,y with
 |some (b,x),some (bs,y)=>some (b::bs,x++y)
 |_,_=>none
theorem X9{β:Type}{b:β}{x:List Nat}{bs:List β}{y:List Nat}:RP (some (b,x)) (some (bs,y))=some (b::bs,x++y):=rfl
theorem X2{α β:Type}{f:α->Option (β×List Nat)}:collect f []=some ([],[]):=rfl
theorem X0{α β:Type}{f:α->Option (β×List Nat)}{a:α}{r:List α}:collect f (a::r)=RP (f a) (collect f r):=by simp only[collect,RP];cases f a<;>cases collect f r<;>rfl
theorem ae4{aj:aA}{c:C}:nI aj (.one c)=(snap aj fH c).map fun(v,r)=>(.one (.p v),r):=rfl
theorem ae3{aj:aA}{cs:List C}:nI aj (.agg cs)=(collect (snap aj fH) cs).map fun(vs,r)=>(.agg (vs.map .p),r):=rfl
theorem afc{aj:aA}{n:Nat}{v:PV}:snap aj (n+1) (.p v)=some (v.norm,[]):=rfl
def Qr(o:Nat×Option Ob)(col:List (List C)->Option (List (List PV)×List Nat))(id g off len:Nat):Option (PV×List Nat):=match o with
 |(g',some (.arr _ _ es))=>if g'=g/\off+len<=es.length then some (.sl ((es.drop off).take len),[id]) else none
 |(g',some (.oN _ _ es))=>if g'=g/\off+len<=es.length then some (.sl ((es.drop off).take len),[id]) else none
 |(g',some (.iN _ _ es))=>if g'=g/\off+len<=es.length then
   match col ((es.drop off).take len) with
   |some (ps,r)=>some (.sl ps,id::r)
   |none=>none
  else none
 |_=>none
theorem afb{aj:aA}{id g z off len:Nat}:snap aj fH (.hsl id g z off len)=Qr (aj id) (collect (collect (snap aj 5))) id g off len:=by unfold fH Qr;rw[snap];rfl
def Qq(o:Nat×Option Ob)(col:List C->Option (List PV×List Nat))(id g off:Nat):Option (PV×List Nat):=match o with
 |(g',some (.var cs))=>if g'=g then
   match col cs with
   |some (ps,r)=>some (.box (ps.drop off),id::r)
   |none=>none
  else none
 |(g',some (.fvar ps))=>if g'=g then some (.box (ps.drop off),[id]) else none
 |_=>none
theorem afa{aj:aA}{id g off:Nat}:snap aj fH (.aY id g off)=Qq (aj id) (collect (snap aj 5)) id g off:=by unfold fH Qq;rw[snap];rfl
section
variable {S:Sys} {al:Al} {ak:Env} {aj:aA} {d:Option Nat}
theorem I3{rd:List Nat}{s:Nat}{b:Bool}(hs:x.scalar=true):land aj rd s ((RV.one (.p x)).gK b)=some (.one (.p x),[]):=by
 have h1:(RV.one (.p x)).gK b=.one (.p x):=by cases b<;>rfl
 rw[h1];have:(RV.one (.p x)).alone=true:=by simp[RV.alone,gG,ik,RC.alone,hs]
 simp only[land,this,or_true,if_true];rfl
theorem aka{rd:List Nat}{s:Nat}{K:Env->aA->Prop}(h:aI S f vs (.one (.p x)))(hs:x.scalar=true):Im S .all (.pc f vs rd s) d ak aj K↔K (put ak d (.one (.p x))) aj:=by
 constructor
 .rintro ⟨y,hy,h2⟩
  have:=hy.zS h;subst this;rw[I3 hs] at h2;exact h2.2
 intro hK;refine⟨_,h,?_⟩;rw[I3 hs];exact⟨Al.Fo _,hK⟩
theorem akb{rd:List Nat}{s:Nat}{tr:List bR}{K:Env->aA->List bR->Prop}(h:aI S f vs (.one (.p x)))(hs:x.scalar=true):FN S .all (.pc f vs rd s) d ak aj tr K↔K (put ak d (.one (.p x))) aj (tr++[⟨rd,[],[]⟩]):=by
 constructor
 .rintro ⟨y,hy,h2⟩
  have:=hy.zS h;subst this;rw[I3 hs] at h2
  simpa [app] using h2.2
 intro hK;refine⟨_,h,?_⟩;rw[I3 hs];exact⟨Al.Fo _,by simpa [app] using hK⟩
theorem af8{ops:List aO}{Q:dA}:W S al (.region true ops) Q ak aj↔WO S al ops (fun ak aj es=>sT ops [] es=true/\Q .normal ak aj) ak aj []:=by
 rw[W4];constructor
 .rintro ⟨n,e,b,es,h1,h2,h3⟩;exact⟨n,e,b,es,h1,h2 rfl,h3⟩
 rintro ⟨n,e,b,es,h1,h2,h3⟩;exact⟨n,e,b,es,h1,fun _=>h2,h3⟩
end
theorem wrap_small{n:Nat}(h:n<=9223372036854775807):IntKind.i64.wrap (n:Int)=n:=Nq h
theorem cn{n:Nat}(h:n<9223372036854775807):IntKind.i64.wrap ((n:Int)+1)=((n+1:Nat):Int):=Nq (n:=n+1) aa
section
variable {S:Sys} {al:Al} {Q:dA} {ak:Env} {aj:aA} {a b:aK} {ops os all:List aO} {tr:List bR} {d:Option Nat} {op:lB} {n:Nat}
def zB(S:Sys)(al:Al)(b:aK)(Q:dA):dA
 | .normal,ak,aj=>W S al b Q ak aj
 | .exit i,ak,aj=>Q (.exit i) ak aj
 | .ret,ak,aj=>Q .ret ak aj
theorem arA:JJ (W S al b Q) Q=zB S al b Q:=by funext e ak aj;cases e<;>rfl
theorem WW:W S al (.seq a b) Q ak aj↔W S al a (zB S al b Q) ak aj:=by rw[age,arA]
theorem afs:zB S al b Q .normal ak aj=W S al b Q ak aj:=rfl
theorem afr{i:Nat}:zB S al b Q (.exit i) ak aj=Q (.exit i) ak aj:=rfl
theorem aft:zB S al b Q .ret ak aj=Q .ret ak aj:=rfl
def cW (S:Sys)(al:Al)(v:V)(a b:aK)(Q:dA)(ak:Env)(aj:aA):Prop:=HF v (W S al a Q ak aj) (W S al b Q ak aj)
theorem WU{x:aR}:W S al (.cond x a b) Q ak aj↔cW S al (ev ak x) a b Q ak aj:=af7
theorem XI:cW S al (.one (.p (.bool true))) a b Q ak aj=W S al a Q ak aj:=by simp[cW,HF]
theorem XH:cW S al (.one (.p (.bool false))) a b Q ak aj=W S al b Q ak aj:=by simp[cW,HF]
def RN (S:Sys)(al:Al)(ops:List aO)(Q:dA)(ak:Env)(aj:aA):Prop:=WN S al ops (fun ak aj=>Q .normal ak aj) ak aj
def gP (S:Sys)(al:Al)(p:ft)(d:Option Nat)(os:List aO)(Q:dA)(ak:Env)(aj:aA):Prop:=Im S al p d ak aj (WN S al os fun ak aj=>Q .normal ak aj)
def gW (S:Sys)(al:Al)(w:Option Bool)(d:Option Nat)(op:lB)(os:List aO)(Q:dA)(ak:Env)(aj:aA):Prop:=OB S al w ⟨d,op,none,0⟩ ak aj (WN S al os fun ak aj=>Q .normal ak aj)
theorem WX:W S al (.region false ops) Q ak aj↔RN S al ops Q ak aj:=agf
theorem WS:RN S al [] Q ak aj↔Q .normal ak aj:=af1
theorem WT:RN S al (⟨d,op,none,n⟩::os) Q ak aj↔gP S al (bt S.shared ak aj op) d os Q ak aj:=WZ
theorem WR{t:Nat}{w:Bool}:RN S al (⟨d,op,some (t,w),n⟩::os) Q ak aj↔gW S al (EY (ak t) w) d op os Q ak aj:=by
 unfold RN gW;rw[WZ];have:wanted ak (some (t,w))=EY (ak t) w:=rfl;simp only[this];cases EY (ak t) w with
 |none=>rfl
 |some x=>cases x<;>rfl
theorem aaC:gW S al (some true) d op os Q ak aj↔gP S al (bt S.shared ak aj op) d os Q ak aj:=Iff.rfl
theorem aaB:gW S al (some false) d op os Q ak aj↔RN S al os Q (put ak d .undef) aj:=Iff.rfl
theorem Lf{v:V}{u:List eN}{r:List Nat}:gP S .all (.done v u r) d os Q ak aj↔RN S .all os Q (put ak d v) (app u aj):=by show(Al.all.fD (r++u.map (·.1))=true/\_)↔_;rw[Al.Fo];exact⟨fun h=>h.2,fun h=>⟨rfl,h⟩⟩
theorem aav{v:V}{u:List eN}{r:List Nat}:gP S al (.done v u r) d os Q ak aj↔al.fD (r++u.map (·.1))=true/\RN S al os Q (put ak d v) (app u aj):=Iff.rfl
theorem Up{rd:List Nat}{s:Nat}(h:aI S f vs (.one (.p x)))(hs:x.scalar=true):gP S .all (.pc f vs rd s) d os Q ak aj↔RN S .all os Q (put ak d (.one (.p x))) aj:=aka h hs
theorem eJ{rd:List Nat}{s:Nat}{k:IntKind}{x:Int}(h:aI S f vs (.one (.p (.int k x)))):gP S .all (.pc f vs rd s) d os Q ak aj↔RN S .all os Q (put ak d (.one (.p (.int k x)))) aj:=Up h rfl
theorem cY{rd:List Nat}{s:Nat}{x:Bool}(h:aI S f vs (.one (.p (.bool x)))):gP S .all (.pc f vs rd s) d os Q ak aj↔RN S .all os Q (put ak d (.one (.p (.bool x)))) aj:=Up h rfl
theorem DH{rd:List Nat}{s:Nat}{x:ByteArray}(h:aI S f vs (.one (.p (.str x)))):gP S .all (.pc f vs rd s) d os Q ak aj↔RN S .all os Q (put ak d (.one (.p (.str x)))) aj:=Up h rfl
theorem cJ{rd:List Nat}{s:Nat}{r:RV}{v:V}{u:List eN}(hp:aI S f vs r)(h:land aj rd s (r.gK (S.lone s))=some (v,u)):gP S .all (.pc f vs rd s) d os Q ak aj↔RN S .all os Q (put ak d v) (app u aj):=by
 constructor
 .rintro ⟨y,hy,h2⟩
  have:=hy.zS hp;subst this;rw[h] at h2;exact h2.2
 intro hK;refine⟨_,hp,?_⟩;rw[h];exact⟨Al.Fo _,hK⟩
def RD (S:Sys)(al:Al)(all ops:List aO)(Q:dA)(ak:Env)(aj:aA)(tr:List bR):Prop:=WO S al ops (fun ak aj es=>sT all [] es=true/\Q .normal ak aj) ak aj tr
def dP (S:Sys)(al:Al)(p:ft)(d:Option Nat)(all os:List aO)(Q:dA)(ak:Env)(aj:aA)(tr:List bR):Prop:=FN S al p d ak aj tr (WO S al os fun ak aj es=>sT all [] es=true/\Q .normal ak aj)
def dW (S:Sys)(al:Al)(w:Option Bool)(d:Option Nat)(op:lB)(all os:List aO)(Q:dA)(ak:Env)(aj:aA)(tr:List bR):Prop:=DL S al w ⟨d,op,none,0⟩ ak aj tr (WO S al os fun ak aj es=>sT all [] es=true/\Q .normal ak aj)
theorem WV:W S al (.region true ops) Q ak aj↔RD S al ops ops Q ak aj []:=af8
theorem WM:RD S al all [] Q ak aj tr↔sT all [] tr=true/\Q .normal ak aj:=QU
theorem WQ:RD S al all (⟨d,op,none,n⟩::os) Q ak aj tr↔dP S al (bt S.shared ak aj op) d all os Q ak aj tr:=ND
theorem WL{t:Nat}{w:Bool}:RD S al all (⟨d,op,some (t,w),n⟩::os) Q ak aj tr↔dW S al (EY (ak t) w) d op all os Q ak aj tr:=by
 unfold RD dW;rw[ND];have:wanted ak (some (t,w))=EY (ak t) w:=rfl;simp only[this];cases EY (ak t) w with
 |none=>rfl
 |some x=>cases x<;>rfl
theorem Yr:dW S al (some true) d op all os Q ak aj tr↔dP S al (bt S.shared ak aj op) d all os Q ak aj tr:=Iff.rfl
theorem Yq:dW S al (some false) d op all os Q ak aj tr↔RD S al all os Q (put ak d .undef) aj (tr++[⟨[],[],[]⟩]):=Iff.rfl
theorem KK{v:V}{u:List eN}{r:List Nat}:dP S .all (.done v u r) d all os Q ak aj tr↔RD S .all all os Q (put ak d v) (app u aj) (tr++[⟨r,u.map (·.1),[]⟩]):=by show(Al.all.fD (r++u.map (·.1))=true/\_)↔_;rw[Al.Fo];exact⟨fun h=>h.2,fun h=>⟨rfl,h⟩⟩
theorem Yo{v:V}{u:List eN}{r:List Nat}:dP S al (.done v u r) d all os Q ak aj tr↔al.fD (r++u.map (·.1))=true/\RD S al all os Q (put ak d v) (app u aj) (tr++[⟨r,u.map (·.1),[]⟩]):=Iff.rfl
theorem Sa{rd:List Nat}{s:Nat}(h:aI S f vs (.one (.p x)))(hs:x.scalar=true):dP S .all (.pc f vs rd s) d all os Q ak aj tr↔RD S .all all os Q (put ak d (.one (.p x))) aj (tr++[⟨rd,[],[]⟩]):=akb h hs
theorem gU{rd:List Nat}{s:Nat}{k:IntKind}{x:Int}(h:aI S f vs (.one (.p (.int k x)))):dP S .all (.pc f vs rd s) d all os Q ak aj tr↔RD S .all all os Q (put ak d (.one (.p (.int k x)))) aj (tr++[⟨rd,[],[]⟩]):=Sa h rfl
theorem nk{rd:List Nat}{s:Nat}{x:Bool}(h:aI S f vs (.one (.p (.bool x)))):dP S .all (.pc f vs rd s) d all os Q ak aj tr↔RD S .all all os Q (put ak d (.one (.p (.bool x)))) aj (tr++[⟨rd,[],[]⟩]):=Sa h rfl
theorem Yp{rd:List Nat}{s:Nat}{x:ByteArray}(h:aI S f vs (.one (.p (.str x)))):dP S .all (.pc f vs rd s) d all os Q ak aj tr↔RD S .all all os Q (put ak d (.one (.p (.str x)))) aj (tr++[⟨rd,[],[]⟩]):=Sa h rfl
theorem DC{rd:List Nat}{s:Nat}{r:RV}{v:V}{u:List eN}(hp:aI S f vs r)(h:land aj rd s (r.gK (S.lone s))=some (v,u)):dP S .all (.pc f vs rd s) d all os Q ak aj tr↔RD S .all all os Q (put ak d v) (app u aj) (tr++[⟨rd++u.map (·.1),u.map (·.1),[]⟩]):=by
 constructor
 .rintro ⟨y,hy,h2⟩
  have:=hy.zS hp;subst this;rw[h] at h2;exact h2.2
 intro hK;refine⟨_,hp,?_⟩;rw[h];exact⟨Al.Fo _,hK⟩
def Jc(N:Nat)(I:Nat->Env->aA->Prop)(k:Nat)(Q:dA):dA:=JJ (fun ak aj=>k<N/\I (k+1) ak aj) Q
theorem adq{N k:Nat}{I:Nat->Env->aA->Prop}:Jc N I k Q .normal ak aj=(k<N/\I (k+1) ak aj):=rfl
theorem adp{N k i:Nat}{I:Nat->Env->aA->Prop}:Jc N I k Q (.exit i) ak aj=Q (.exit i) ak aj:=rfl
theorem adr{N k:Nat}{I:Nat->Env->aA->Prop}:Jc N I k Q .ret ak aj=Q .ret ak aj:=rfl
theorem cV{c:aK}(I:Nat->Env->aA->Prop)(k0 N:Nat)(hk:k0<=N)(h0:I k0 ak aj)
  (round:∀k ak aj,k<=N->I k ak aj->W S al c (Jc N I k Q) ak aj):W S al (.loop c) Q ak aj:=aga I k0 N hk h0 round
def KW(R:V->aA->Prop)(aj:aA):Option (List V)->Prop
 |some vs=>R (zC vs) aj
 |none=>False
theorem WE{res:List (Nat×Option (Option Nat))}{R:V->aA->Prop}:mJ al res R .ret ak aj=KW R aj (oE al ak aj res):=by simp only[mJ,KW];cases oE al ak aj res<;>rfl
theorem WD{res:List (Nat×Option (Option Nat))}{R:V->aA->Prop}:mJ al res R .normal ak aj=KW R aj (oE al ak aj res):=by simp only[mJ,KW];cases oE al ak aj res<;>rfl
theorem YE{R:V->aA->Prop}{vs:List V}:KW R aj (some vs)=R (zC vs) aj:=rfl
end
section
variable {S:Sys} {al:Al} {Q:dA} {ak:Env} {aj:aA}
def Ps(S:Sys)(al:Al)(c:aK)(Q:dA):dA
 | .normal,ak,aj=>W S al (.loop c) Q ak aj
 | .exit i,ak,aj=>Q (.exit i) ak aj
 | .ret,ak,aj=>Q .ret ak aj
theorem acW{c:aK}:Ps S al c Q .normal ak aj=W S al (.loop c) Q ak aj:=rfl
theorem acV{c:aK}{i:Nat}:Ps S al c Q (.exit i) ak aj=Q (.exit i) ak aj:=rfl
theorem acX{c:aK}:Ps S al c Q .ret ak aj=Q .ret ak aj:=rfl
theorem rj{c:aK}(h:W S al c (Ps S al c Q) ak aj):W S al (.loop c) Q ak aj:=by
 obtain⟨n,e,iA,bK,h1,h2⟩:=h;cases e with
 |normal=>obtain⟨m,e,cT,bh,h3,h4⟩:=h2;refine⟨max n m+1,e,cT,bh,?_,h4⟩;simp only[exec] at h3 ⊢;simp only[iter];rw[yK S aa h1];exact Pk S aa aa h3
 |exit i=>exact⟨n+1,_,_,_,by simp[exec,iter,yK S (Nat.le_succ n) h1],h2⟩
 |ret=>exact⟨n+1,_,_,_,by simp[exec,iter,yK S (Nat.le_succ n) h1],h2⟩
end
theorem iK.zS{S:Sys}{args:List V}{al:Al}{aj:aA}{v v':V}{b b':aA}(h:iK S f args al aj v b)(h':iK S f args al aj v' b'):v=v'/\b=b':=by obtain⟨n,hn⟩:=h;obtain⟨m,hm⟩:=h';have a:=KA S (Fa n m) _ _ _ _ _ hn;have c:=KA S (Hi n m) _ _ _ _ _ hm;rw[a] at c;have:=qZ c;exact⟨congrArg Prod.fst this,congrArg Prod.snd this⟩
section
variable {S:Sys} {al:Al} {Q:dA} {ak:Env} {aj:aA} {os all:List aO} {tr:List bR} {d:Option Nat}
theorem GB:al.fD []=true:=rfl
theorem Jj{a:Nat}{l:List Nat}:al.fD (a::l)=(al.ok a&&al.fD l):=rfl
def Kept(K:Nat->Prop)(b b':aA):Prop:=∀id,¬K id->b' id=b id
theorem Kept.refl(K:Nat->Prop)(b:aA):Kept K b b:=fun _ _=>rfl
theorem Kept.trans{K:Nat->Prop}{a b c:aA}(h:Kept K a b)(h2:Kept K b c):Kept K a c:=fun id hk=>(h2 id hk).trans (h id hk)
theorem Kept.dK{K:Nat->Prop}{b b':aA}(h:Kept K b b'){k:Nat}(hk:K k)(x:Nat×Option Ob):Kept K b (dK b' k x):=fun id hn=>by rw[aN,if_neg (by rintro rfl;exact hn hk)];exact h id hn
theorem aj1{v:V}{ao:aA}(hh:al.holds (allow (S.ctx al) f vs aj)=true)(h:iK S f vs (allow (S.ctx al) f vs aj) aj v ao):gP S al (.sc f vs) d os Q ak aj↔RN S al os Q (put ak d v) ao:=by
 constructor
 .rintro ⟨_,v2,b2,h2,h3⟩
  obtain⟨rfl,rfl⟩:=h.zS h2;exact h3
 intro h3;exact⟨hh,v,ao,h,h3⟩
theorem aau{rd:List Nat}{s:Nat}(h:aI S f vs (.one (.p x)))(hs:x.scalar=true):gP S al (.pc f vs rd s) d os Q ak aj↔al.fD (rd++[])=true/\RN S al os Q (put ak d (.one (.p x))) aj:=by
 constructor
 .rintro ⟨y,hy,h2⟩
  have:=hy.zS h;subst this;rw[I3 hs] at h2;exact h2
 rintro ⟨ho,hK⟩
 refine⟨_,h,?_⟩;rw[I3 hs];exact⟨ho,hK⟩
theorem FJ{rd:List Nat}{s:Nat}{k:IntKind}{x:Int}(h:aI S f vs (.one (.p (.int k x)))):gP S al (.pc f vs rd s) d os Q ak aj↔al.fD (rd++[])=true/\RN S al os Q (put ak d (.one (.p (.int k x)))) aj:=aau h rfl
theorem aat{rd:List Nat}{s:Nat}{x:Bool}(h:aI S f vs (.one (.p (.bool x)))):gP S al (.pc f vs rd s) d os Q ak aj↔al.fD (rd++[])=true/\RN S al os Q (put ak d (.one (.p (.bool x)))) aj:=aau h rfl
theorem ajr{f:Int->List PV}(q:Int):∀(ids:List Int) (i:Nat),oO (.int .i64 q) (ids.map fun id=>(PV.int .i64 id,f id)) i=some (if q∈ids then some (i+ids.idxOf q,f q) else none):=by
 intro ids
 induction ids with
 |nil=>intro i;rfl
 |cons a ids ih=>
  intro i;simp only[dS,oO,sameKey,if_true];by_cases e:q=a
  .subst e;simp
  have e':(q==a)=false:=by simpa using e
  have e2:¬(a=q):=fun h=>e h.symm;simp only[e'];rw[ih];simp only[cP,e,false_or,List.idxOf_cons,beq_iff_eq,e2,cond_false];by_cases h:q∈ids
  .have e3:(a==q)=false:=by simpa using e2
   simp[h,e3];omega
  simp[h]
theorem rC{f:Nat}{vs:List V}{P:V->aA->Prop}(hh:al.holds (allow (S.ctx al) f vs aj)=true)(h:∃v ao,iK S f vs (allow (S.ctx al) f vs aj) aj v ao/\P v ao)
  (hK:∀v ao,P v ao->RN S al os Q (put ak d v) ao):gP S al (.sc f vs) d os Q ak aj:=by
 obtain⟨v,ao,h1,h2⟩:=h;exact(aj1 hh h1).2 (hK v ao h2)
theorem za{Km:Al}:Al.all.holds Km=true:=rfl
theorem holds_of{Km:Al}(h1:al.fD Km.ids=true)(h2:Km.fs.all al.fs.contains=true):al.holds Km=true:=by unfold Al.holds;rw[h1,h2];simp
theorem uR{id:Nat}(h:(S.sites f).contains (jo id)=true):(allow (S.ctx al) f vs aj).ok id=true:=by show(false||_||(S.sites f).contains (jo id))=true;rw[h];simp
theorem se{id:Nat}(h:id∈(vs.map (jm aj)).flatten):(allow (S.ctx al) f vs aj).ok id=true:=by
 show(false||(vs.map (jm aj)).flatten.contains id||_)=true;have:(vs.map (jm aj)).flatten.contains id=true:=by simpa using h
 rw[this];rfl
theorem Jv{id g g0 o:Nat}{cs:List C}(h:aj id=(g0,some (.var cs))):jm aj (.one (.aY id g o))=id::(cs.map (jX aj 5)).flatten:=by show jX aj 6 (.aY id g o)=_;rw[jX,h]
theorem Ju{n:Nat}{v:PV}:jX aj n (.p v)=[]:=by cases n<;>rfl
theorem CQ{id g g0 o l sz n:Nat}(h:aj id=(g0,some (.arr ty sz es))):jX aj (n+1) (.hsl id g z o l)=[id]:=by rw[jX,h]
def Wh(x:Nat×Option Ob)(id g:Nat):Option (PV×List Nat):=match x with
 |(g',some (.map ag es))=>if g'=g then some (.mp ag es,[id]) else none
 |(g',some (.fmap ag es))=>if g'=g then some (.mp ag es,[id]) else none
 |_=>none
theorem ae9{n id g:Nat}:snap aj (n+1) (.j8 id g)=Wh (aj id) id g:=by rw[snap];rfl
end
theorem Rd:type_of%(And.intro @WW<|And.intro @WX<|And.intro @WV<|And.intro @W1<|And.intro @WU<|And.intro @WT<|And.intro @WR<|And.intro @WS<|And.intro @WQ<|And.intro @WL<|And.intro @WM<|And.intro @W5<|And.intro @W6<|And.intro @W2<|And.intro @afs<|And.intro @afr<|And.intro @aft<|And.intro @XD<|And.intro @XE<|And.intro @XC<|And.intro @adq<|And.intro @adp<|And.intro @adr<|And.intro @acW<|And.intro @acV @acX):=And.intro @WW<|And.intro @WX<|And.intro @WV<|And.intro @W1<|And.intro @WU<|And.intro @WT<|And.intro @WR<|And.intro @WS<|And.intro @WQ<|And.intro @WL<|And.intro @WM<|And.intro @W5<|And.intro @W6<|And.intro @W2<|And.intro @afs<|And.intro @afr<|And.intro @aft<|And.intro @XD<|And.intro @XE<|And.intro @XC<|And.intro @adq<|And.intro @adp<|And.intro @adr<|And.intro @acW<|And.intro @acV @acX
theorem Rt:type_of%(And.intro @XI<|And.intro @XH<|And.intro @aaC<|And.intro @aaB<|And.intro @Yr<|And.intro @Yq<|And.intro @afJ<|And.intro @afK<|And.intro @YN<|And.intro @YL<|And.intro @YK<|And.intro @YM<|And.intro @aej<|And.intro @aeh<|And.intro @aN<|And.intro @abz<|And.intro @aby<|And.intro @WE<|And.intro @WD<|And.intro @YE<|And.intro @adT<|And.intro @norm_int<|And.intro @adv<|And.intro @adD<|And.intro @adB<|And.intro @adC<|And.intro @MS<|And.intro @adw<|And.intro @adA<|And.intro @ady<|And.intro @adz<|And.intro @adx<|And.intro @ae7<|And.intro @ae6<|And.intro @ae1<|And.intro @ae5<|And.intro @bft<|And.intro @btf<|And.intro @bff<|And.intro @btt<|And.intro @Xk<|And.intro @Qs<|And.intro @X9<|And.intro @X2<|And.intro @X0<|And.intro @ae3<|And.intro @Xj<|And.intro @ae4<|And.intro @afb<|And.intro @afa @afc):=And.intro @XI<|And.intro @XH<|And.intro @aaC<|And.intro @aaB<|And.intro @Yr<|And.intro @Yq<|And.intro @afJ<|And.intro @afK<|And.intro @YN<|And.intro @YL<|And.intro @YK<|And.intro @YM<|And.intro @aej<|And.intro @aeh<|And.intro @aN<|And.intro @abz<|And.intro @aby<|And.intro @WE<|And.intro @WD<|And.intro @YE<|And.intro @adT<|And.intro @norm_int<|And.intro @adv<|And.intro @adD<|And.intro @adB<|And.intro @adC<|And.intro @MS<|And.intro @adw<|And.intro @adA<|And.intro @ady<|And.intro @adz<|And.intro @adx<|And.intro @ae7<|And.intro @ae6<|And.intro @ae1<|And.intro @ae5<|And.intro @bft<|And.intro @btf<|And.intro @bff<|And.intro @btt<|And.intro @Xk<|And.intro @Qs<|And.intro @X9<|And.intro @X2<|And.intro @X0<|And.intro @ae3<|And.intro @Xj<|And.intro @ae4<|And.intro @afb<|And.intro @afa @afc
theorem Rl:type_of%(And.intro @List.map_nil.{0,0}<|And.intro @List.append_nil.{0}<|And.intro @List.map_cons.{0,0}<|And.intro @List.cons_append.{0}<|And.intro @List.nil_append.{0}<|And.intro @List.drop_zero.{0}<|And.intro @List.take_zero.{0}<|And.intro @List.length_cons.{0}<|And.intro @List.length_nil.{0}<|And.intro @List.take_succ_cons.{0}<|And.intro @List.drop_nil.{0}<|And.intro @List.drop_succ_cons.{0}<|And.intro @List.length_map.{0,0}<|And.intro @List.take_nil.{0}<|And.intro @List.flatten_cons.{0}<|And.intro @List.getElem?_cons_zero.{0}<|And.intro @List.getElem?_cons_succ.{0}<|And.intro @List.all_nil.{0}<|And.intro @List.all_cons.{0}<|And.intro @List.not_mem_nil.{0} @Option.map_some.{0,0}):=And.intro @List.map_nil.{0,0}<|And.intro @List.append_nil.{0}<|And.intro @List.map_cons.{0,0}<|And.intro @List.cons_append.{0}<|And.intro @List.nil_append.{0}<|And.intro @List.drop_zero.{0}<|And.intro @List.take_zero.{0}<|And.intro @List.length_cons.{0}<|And.intro @List.length_nil.{0}<|And.intro @List.take_succ_cons.{0}<|And.intro @List.drop_nil.{0}<|And.intro @List.drop_succ_cons.{0}<|And.intro @List.length_map.{0,0}<|And.intro @List.take_nil.{0}<|And.intro @List.flatten_cons.{0}<|And.intro @List.getElem?_cons_zero.{0}<|And.intro @List.getElem?_cons_succ.{0}<|And.intro @List.all_nil.{0}<|And.intro @List.all_cons.{0}<|And.intro @List.not_mem_nil.{0} @Option.map_some.{0,0}
theorem Rb:type_of%(And.intro @Bool.false_eq_true<|And.intro @Bool.not_true<|And.intro @Bool.not_false<|And.intro @Bool.and_true<|And.intro @Bool.and_false<|And.intro @Bool.true_and<|And.intro @Bool.false_and<|And.intro @true_and<|And.intro @and_true<|And.intro @true_or<|And.intro @or_true<|And.intro @false_or<|And.intro @or_false<|And.intro @decide_true<|And.intro @decide_false<|And.intro @not_true_eq_false<|And.intro @not_false_eq_true<|And.intro @and_self<|And.intro @Nat.le_refl<|And.intro @Nat.zero_add<|And.intro @Nat.mul_one<|And.intro @Nat.zero_mul<|And.intro @Nat.zero_le<|And.intro @Nat.sub_zero @Int.zero_add):=And.intro @Bool.false_eq_true<|And.intro @Bool.not_true<|And.intro @Bool.not_false<|And.intro @Bool.and_true<|And.intro @Bool.and_false<|And.intro @Bool.true_and<|And.intro @Bool.false_and<|And.intro @true_and<|And.intro @and_true<|And.intro @true_or<|And.intro @or_true<|And.intro @false_or<|And.intro @or_false<|And.intro @decide_true<|And.intro @decide_false<|And.intro @not_true_eq_false<|And.intro @not_false_eq_true<|And.intro @and_self<|And.intro @Nat.le_refl<|And.intro @Nat.zero_add<|And.intro @Nat.mul_one<|And.intro @Nat.zero_mul<|And.intro @Nat.zero_le<|And.intro @Nat.sub_zero @Int.zero_add
def grown(site ty z:Nat)(es:List (List PV))(v:V)(aj:aA):Prop:=(es=[]/\v=.one (.p .nils))\/(es≠[]/\ ∃g,v=.one (.hsl site g z 0 es.length)/\aj site=(g,some (.arr ty z es)))
def aT(ty z:Nat)(es:List (List PV)):RC:=if es=[] then .p .nils else .own ty z es
theorem grown.of_eq{v:V}{aj ao:aA}(h:grown site ty z es v aj)(hb:ao site=aj site):grown site ty z es v ao:=by
 rcases h with h|⟨h1,g,h2,h3⟩
 .exact .inl h
 exact .inr ⟨h1,g,h2,by rw[hb,h3]⟩
theorem grown.nil{aj:aA}:grown site ty z [] (.one (.p .nils)) aj:=.inl ⟨rfl,rfl⟩
theorem grown.ke{v:V}{aj:aA}(h:grown site ty z es v aj):∃c o,v=.one c/\ke aj c=some (aT ty z es,o,[])/\(o=[]\/o=[site]):=by
 rcases h with ⟨h1,h2⟩|⟨h1,g,h2,h3⟩
 .exact⟨.p .nils,[],h2,by simp[Go.Abs.ke,aT,h1],.inl rfl⟩
 refine⟨_,[site],h2,?_,.inr rfl⟩;simp only[Go.Abs.ke,h3,and_self,bN,if_true,kS,aT,if_neg h1]
theorem yN{v:V}{aj:aA}(h:grown site ty z es v aj):iU aj v=some (.one (aT ty z es)):=by
 obtain⟨c,o,rfl,h2,h3⟩:=h.ke;rcases h3 with rfl|rfl
 .simp[iU,tA,nT,mT,h2,apart,vv,sX]
 simp[iU,tA,nT,mT,h2,apart,vv,sX]
theorem OC{s1 t1 z1 s2 t2 z2:Nat}{fs:List (List PV)}{v w:V}{aj:aA}(hs:s1≠s2)(h:grown s1 t1 z1 es v aj)(h':grown s2 t2 z2 fs w aj):iU aj (.tup [v,w])=some (.tup [.one (aT t1 z1 es),.one (aT t2 z2 fs)]):=by obtain⟨c,o,rfl,h2,h3⟩:=h.ke;obtain⟨d,q,rfl,k2,k3⟩:=h'.ke;rcases h3 with rfl|rfl<;>rcases k3 with rfl|rfl<;>simp[iU,tA,uX,nT,mT,h2,k2,apart,vv,sX,A9,hs]
theorem grown.elems{v:V}{aj:aA}(h:grown site ty z es v aj):∃r,fF aj v=some (es,r,[])/\(r=[]\/r=[site]):=by
 rcases h with ⟨h1,h2⟩|⟨h1,g,h2,h3⟩
 .exact⟨[],by rw[h2,h1];rfl,.inl rfl⟩
 refine⟨[site],?_,.inr rfl⟩;rw[h2];simp[fF,h3]
theorem grown.mz{v:V}{aj:aA}(h:grown site ty z es v aj):es=[]\/mz v=some z:=by
 rcases h with ⟨h1,h2⟩|⟨h1,g,h2,h3⟩
 .exact .inl h1
 exact .inr (by rw[h2];rfl)
theorem grown.ie{v:V}{aj:aA}(h:grown site ty z es v aj):Go.Abs.mz v=some z\/ie z es=true:=by
 rcases h.mz with h|h
 .exact .inr (by rw[h];rfl)
 exact .inl h
theorem grown.len{v:V}{aj:aA}(h:grown site ty z es v aj):xR v=some es.length:=by
 rcases h with ⟨h1,h2⟩|⟨h1,g,h2,h3⟩
 .rw[h1,h2];rfl
 rw[h2];rfl
theorem grown.snap{v:V}{aj:aA}(h:grown site ty z es v aj):∃r,nI aj v=some (.one (.p (.sl es)),r)/\(r=[]\/r=[site]):=by
 rcases h with ⟨h1,h2⟩|⟨h1,g,h2,h3⟩
 .exact⟨[],by rw[h2,h1];rfl,.inl rfl⟩
 refine⟨[site],?_,.inr rfl⟩;rw[h2];simp[nI,fH,Go.Abs.snap,h3]
theorem grown.We{c:C}{aj:aA}(h:grown site ty z es (.one c) aj){n:Nat}:∃r,Go.Abs.snap aj (n+1) c=some (.sl es,r)/\(r=[]\/r=[site]):=by
 rcases h with ⟨h1,h2⟩|⟨h1,g,h2,h3⟩
 .cases h2;exact⟨[],by rw[h1];rfl,.inl rfl⟩
 refine⟨[site],?_,.inr rfl⟩;cases h2;simp[Go.Abs.snap,h3]
section
variable {S:Sys} {al:Al} {Q:dA} {ak:Env} {aj:aA} {os all:List aO} {tr:List bR} {d:Option Nat}
theorem PU{id bytes:Nat}{xs:List (List PV)}{v x:V}{rd:List Nat}(hg:grown id ty z es v aj)(hx:fF aj x=some (xs,rd,[]))(hz:mz x=some z\/ie z xs=true)(hr:(es.length+xs.length)*bytes<=140737488355328):
  ∃v' u r,fQ aj site ty z bytes v x=.done v' u r/\grown site ty z (es++xs) v' (app u aj)/\(∀i,i≠site->i≠id->app u aj i=aj i)/\(r=rd/\u.map (·.1)=[]\/r=site::rd/\u.map (·.1)=[site]\/r=site::id::rd/\u.map (·.1)=[id,site]):=by
 have qk:¬¬(mz x=some z\/ie z xs=true):=fun h=>h hz;rcases hg with ⟨rfl,rfl⟩|⟨aH,g,rfl,hC⟩
 .by_cases h0:xs=[]
  .subst h0;refine⟨.one (.p .nils),[],rd,?_,.inl ⟨rfl,rfl⟩,fun i _ _=>rfl,.inl ⟨rfl,rfl⟩⟩;simp[fQ,hx,qk,rA,uk]
  have hl:¬xs.length=0:=by simpa using h0
  have qe:xs.length*bytes<=room:=by simpa [room] using hr
  refine⟨.one (.hsl site ((aj site).1+1) z 0 xs.length),[(site,((aj site).1+1,some (.arr ty z xs)))],site::rd,?_,.inr ⟨by simpa using h0,(aj site).1+1,af,?_⟩,fun i h1 _=>?_,.inr (.inl ⟨rfl,rfl⟩)⟩
  .simp only[fQ,hx,if_neg qk,rA,uk,if_neg hl,if_pos qe];simp
  .simp[app,aN]
  simp[app,aN,h1]
 have qe:(es.length+xs.length)*bytes<=room:=by simpa [room] using hr
 refine⟨.one (.hsl site ((aj site).1+1) z 0 (es.length+xs.length)),[(id,(g,none)),(site,((aj site).1+1,some (.arr ty z (es++xs))))],site::id::rd,?_,.inr ⟨by simp[aH],(aj site).1+1,af,?_⟩,fun i h1 h2=>?_,.inr (.inr ⟨rfl,rfl⟩)⟩
 .simp only[fQ,hx,if_neg qk,rA,uk,hC];simp[qe]
 .simp[app,aN]
 simp[app,aN,h1,h2]
theorem um{id site ty z bytes:Nat}{es xs:List (List PV)}{v x:V}{rd:List Nat}(hg:grown id ty z es v aj)(hx:fF aj x=some (xs,rd,[]))(hz:mz x=some z\/ie z xs=true)(hr:(es.length+xs.length)*bytes<=140737488355328)
  (hK:∀(c:C) ao,grown site ty z (es++xs) (.one c) ao->(∀i,i≠site->i≠id->ao i=aj i)->RN S .all os Q (put ak d (.one c)) ao):gP S .all (fQ aj site ty z bytes v x) d os Q ak aj:=by
 obtain⟨v',u,r,h1,h2,h3,_⟩:=PU hg hx hz hr;obtain⟨c,o,rfl,_⟩:=h2.ke;rw[h1,Lf];exact hK _ _ h2 h3
theorem zR{id site ty z bytes:Nat}{es xs:List (List PV)}{v x:V}{rd:List Nat}(hg:grown id ty z es v aj)(hx:fF aj x=some (xs,rd,[]))(hz:mz x=some z\/ie z xs=true)(hr:(es.length+xs.length)*bytes<=140737488355328)
  (hK:∀(c:C) ao r w,grown site ty z (es++xs) (.one c) ao->(∀i,i≠site->i≠id->ao i=aj i)->(r=rd/\w=[]\/r=site::rd/\w=[site]\/r=site::id::rd/\w=[id,site])->RD S .all all os Q (put ak d (.one c)) ao (tr++[⟨r,w,[]⟩])):dP S .all (fQ aj site ty z bytes v x) d all os Q ak aj tr:=by
 obtain⟨v',u,r,h1,h2,h3,h4⟩:=PU hg hx hz hr;obtain⟨c,o,rfl,_⟩:=h2.ke;rw[h1,KK];exact hK _ _ _ _ h2 h3 h4
theorem rM{s:Nat}:grown s ty z es (.one (cH aj s (aT ty z es)).1) (app (cH aj s (aT ty z es)).2 aj)/\(∀i,i≠s->app (cH aj s (aT ty z es)).2 aj i=aj i)/\((cH aj s (aT ty z es)).2.map (·.1)=[]\/(cH aj s (aT ty z es)).2.map (·.1)=[s]):=by
 unfold aT;by_cases h:es=[]
 .rw[if_pos h];exact⟨.inl ⟨h,rfl⟩,fun i _=>rfl,.inl rfl⟩
 rw[if_neg h];exact⟨.inr ⟨h,(aj s).1+1,rfl,by simp[cH,app,aN]⟩,fun i hi=>by simp[cH,app,aN,hi],.inr rfl⟩
theorem uH(r:RV):r.gK false=r:=rfl
theorem rB{f:Nat}{vs:List V}{s ty z:Nat}{rd:List Nat}{es:List (List PV)}(hp:aI S f vs (.one (aT ty z es)))(eS:S.lone s=false)(qf:rd=[]\/(RV.one (aT ty z es)).alone=true)
  (hK:∀(c:C) ao,grown s ty z es (.one c) ao->(∀i,i≠s->ao i=aj i)->RN S .all os Q (put ak d (.one c)) ao):gP S .all (.pc f vs rd s) d os Q ak aj:=by
 obtain⟨h1,h2,_⟩:=rM (aj:=aj) (s:=s) (ty:=ty) (z:=z) (es:=es);refine(cJ (v:=.one (cH aj s (aT ty z es)).1) (u:=(cH aj s (aT ty z es)).2) hp ?_).2 (hK _ _ h1 h2);rw[eS,uH];unfold land;rw[if_pos qf];simp[jl,gG,ik,iT,qt,l7]
theorem ajU{f:Nat}{vs:List V}{s t1 z1 t2 z2:Nat}{es fs:List (List PV)}(hp:aI S f vs (.tup [.one (aT t1 z1 es),.one (aT t2 z2 fs)]))(eS:S.lone s=false)
  (hK:∀(c e:C) ao,grown s t1 z1 es (.one c) ao->grown (s+1) t2 z2 fs (.one e) ao->(∀i,i≠s->i≠s+1->ao i=aj i)->RN S .all os Q (put ak d (.tup [.one c,.one e])) ao):gP S .all (.pc f vs [] s) d os Q ak aj:=by
 obtain⟨h1,h2,_⟩:=rM (aj:=aj) (s:=s) (ty:=t1) (z:=z1) (es:=es);have e0:∀(b b':aA) (k:Nat) (r:RC),b' k=b k->cH b k r=cH b' k r:=by
  intro b b' k r h;cases r with
  |p v=>rfl
  |own ty sz es=>simp only[cH,h]
 have e2:cH aj (s+1) (aT t2 z2 fs)=cH (app (cH aj s (aT t1 z1 es)).2 aj) (s+1) (aT t2 z2 fs):=e0 _ _ _ _ (h2 (s+1) aa);obtain⟨k1,k2,_⟩:=rM (aj:=app (cH aj s (aT t1 z1 es)).2 aj) (s:=s+1) (ty:=t2) (z:=z2) (es:=fs);rw[<- e2] at k1 k2;have Ac:∀(a b:List eN) (c:aA),app (a++b) c=app b (app a c):=by
  intro a
  induction a with
  |nil=>intro b c;rfl
  |cons x a ih=>intro b c;exact ih b _
 refine(cJ (v:=.tup [.one (cH aj s (aT t1 z1 es)).1,.one (cH aj (s+1) (aT t2 z2 fs)).1]) (u:=(cH aj s (aT t1 z1 es)).2++(cH aj (s+1) (aT t2 z2 fs)).2) hp ?_).2 (hK _ _ _ ?_ ?_ ?_)
 .rw[eS,uH];unfold land;rw[if_pos (.inl rfl)];simp[jl,gG,mf,ik,iT,qt,qT,l7]
 .rw[Ac];exact h1.of_eq (k2 s aa)
 .rw[Ac];exact k1
 intro i a b;rw[Ac,k2 i b,h2 i a]
end
theorem qA(h:(es.all fun e=>e.all PV.scalar)=true):(RV.one (aT ty z es)).alone=true:=by
 unfold aT;split
 .rfl
 simp[RV.alone,gG,ik,RC.alone,h]
theorem grown.fH{c:C}{aj:aA}(h:grown site ty z es (.one c) aj):∃r,Go.Abs.snap aj Go.Abs.fH c=some (.sl es,r)/\(r=[]\/r=[site]):=h.We
def nK(aj:aA)(r:List Nat):Prop:=∀i∈r,∃g ty z es,aj i=(g,some (.arr ty z es))
theorem nK.nil{aj:aA}:nK aj []:=fun _ h=>by simp at h
theorem nK.app{aj:aA}{a b:List Nat}(h:nK aj a)(k:nK aj b):nK aj (a++b):=fun i hi=>by
 rcases fg.1 hi with hi|hi
 .exact h i hi
 exact k i hi
theorem grown.Qp{c:C}{aj:aA}(h:grown site ty z es (.one c) aj):∃r,Go.Abs.snap aj Go.Abs.fH c=some (.sl es,r)/\nK aj r/\(r=[]\/r=[site]):=by
 rcases h with ⟨h1,h2⟩|⟨h1,g,h2,h3⟩
 .cases h2;exact⟨[],by rw[h1];rfl,nK.nil,.inl rfl⟩
 refine⟨[site],?_,fun i hi=>?_,.inr rfl⟩
 .cases h2;simp[Go.Abs.snap,Go.Abs.fH,h3]
 rw[pO] at hi;subst hi;exact⟨_,_,_,_,h3⟩
theorem Ow{aj:aA}(all:List Nat):∀r:List Nat,nK aj r->∃fu,uk aj all r=some fu/\fu.map (·.1)=r:=by
 intro r
 induction r with
 |nil=>intro _;exact⟨[],rfl,rfl⟩
 |cons i r ih=>intro h;obtain⟨g,ty,z,es,hi⟩:=h i af;obtain⟨fu,h1,h2⟩:=ih fun j hj=>h j (by simp[hj]);refine⟨(i,(g,some (.oN ty z es)))::fu,?_,by simp[h2]⟩;simp[uk,xj,hi,h1]
theorem Ds:∀(u:List eN) (b:aA) (i:Nat),i∉u.map (·.1)->app u b i=b i:=by
 intro u
 induction u with
 |nil=>intro b i _;rfl
 |cons x u ih=>intro b i h;simp only[dS,cP,not_or] at h;show app u (dK b x.1 x.2) i=b i;rw[ih _ _ h.2,aN,if_neg h.1]
theorem yx:∀(a b:List eN) (c:aA),app (a++b) c=app b (app a c):=by
 intro a
 induction a with
 |nil=>intro b c;rfl
 |cons x a ih=>intro b c;exact ih b _
section
variable {S:Sys} {al:Al} {Q:dA} {ak:Env} {aj:aA} {os all:List aO} {tr:List bR} {d:Option Nat}
theorem ajS{id site ty z bytes:Nat}{es xs:List (List PV)}{v x:V}{rd fr:List Nat}(hg:grown id ty z es v aj)(hx:fF aj x=some (xs,rd,fr))(kZ:nK aj fr)(hni:id∉fr)(sJ:site∉fr)(hz:mz x=some z\/ie z xs=true)(hr:(es.length+xs.length)*bytes<=140737488355328)
  (hK:∀(c:C) ao,grown site ty z (es++xs) (.one c) ao->(∀i,i≠site->i≠id->i∉fr->ao i=aj i)->RN S .all os Q (put ak d (.one c)) ao):gP S .all (fQ aj site ty z bytes v x) d os Q ak aj:=by
 have qk:¬¬(mz x=some z\/ie z xs=true):=fun h=>h hz;obtain⟨fu,Iy,xD⟩:=Ow fr fr kZ;have FY:rA aj fr=some fu:=Iy;rcases hg with ⟨rfl,rfl⟩|⟨aH,g,rfl,hC⟩
 .by_cases h0:xs=[]
  .subst h0;have:fQ aj site ty z bytes (.one (.p .nils)) x=.done (.one (.p .nils)) fu (rd++fr):=by simp[fQ,hx,qk,FY]
   rw[this,Lf];exact hK _ _ (.inl ⟨rfl,rfl⟩) fun i _ _ h3=>Ds _ _ _ (by rw[xD];exact h3)
  have hl:¬xs.length=0:=by simpa using h0
  have qe:xs.length*bytes<=room:=by simpa [room] using hr
  have:fQ aj site ty z bytes (.one (.p .nils)) x=.done (.one (.hsl site ((aj site).1+1) z 0 xs.length)) (fu++[(site,((aj site).1+1,some (.arr ty z xs)))]) (site::rd++fr):=by simp only[fQ,hx,if_neg qk,FY,if_neg hl,if_pos qe]
  rw[this,Lf];refine hK _ _ (.inr ⟨by simpa using h0,(aj site).1+1,af,?_⟩) fun i h1 _ h3=>?_
  .rw[yx];simp[app,aN]
  rw[yx];have:=Ds fu aj i (by rw[xD];exact h3);simp[app,aN,h1,this]
 have qe:(es.length+xs.length)*bytes<=room:=by simpa [room] using hr
 have hnc:fr.contains id=false:=by simpa using hni
 have:fQ aj site ty z bytes (.one (.hsl id g z 0 es.length)) x=.done (.one (.hsl site ((aj site).1+1) z 0 (es.length+xs.length))) (fu++[(id,(g,none)),(site,((aj site).1+1,some (.arr ty z (es++xs))))]) (site::id::rd++fr):=by simp only[fQ,hx,if_neg qk,FY,hC,hnc];simp[qe]
 rw[this,Lf];refine hK _ _ (.inr ⟨by simp[aH],(aj site).1+1,af,?_⟩) fun i h1 h2 h3=>?_
 .rw[yx];simp[app,aN]
 rw[yx];have:=Ds fu aj i (by rw[xD];exact h3);simp[app,aN,h1,h2,this]
end
section
variable {S:Sys} {al:Al} {Q:dA} {ak:Env} {aj:aA} {os all:List aO} {tr:List bR} {d:Option Nat}
theorem CK{l:List Nat}(h:∀i∈l,al.ok i=true):al.fD l=true:=ko.2 h
theorem Oz{id site ty z bytes:Nat}{es xs:List (List PV)}{v x:V}{rd:List Nat}(au:∀i∈site::id::rd,al.ok i=true)(hg:grown id ty z es v aj)(hx:fF aj x=some (xs,rd,[]))(hz:mz x=some z\/ie z xs=true)(hr:(es.length+xs.length)*bytes<=140737488355328)
  (hK:∀(c:C) ao,grown site ty z (es++xs) (.one c) ao->(∀i,i≠site->i≠id->ao i=aj i)->RN S al os Q (put ak d (.one c)) ao):gP S al (fQ aj site ty z bytes v x) d os Q ak aj:=by
 obtain⟨v',u,r,h1,h2,h3,h4⟩:=PU hg hx hz hr;obtain⟨c,o,rfl,_⟩:=h2.ke;rw[h1,aav];refine⟨?_,hK _ _ h2 h3⟩;rcases h4 with ⟨rfl,h5⟩|⟨rfl,h5⟩|⟨rfl,h5⟩<;>rw[h5]<;>refine CK fun i hi=>au i ?_ <;>simp at hi ⊢
 .exact .inr (.inr hi)
 .rcases hi with h|h|h<;>simp[h]
 rcases hi with h|h|h|h|h<;>simp[h]
theorem Fz{id site ty z bytes:Nat}{es xs:List (List PV)}{v x:V}{rd:List Nat}(au:∀i∈site::id::rd,al.ok i=true)(hg:grown id ty z es v aj)(hx:fF aj x=some (xs,rd,[]))(hz:mz x=some z\/ie z xs=true)(hr:(es.length+xs.length)*bytes<=140737488355328)
  (hK:∀(c:C) ao r w,grown site ty z (es++xs) (.one c) ao->(∀i,i≠site->i≠id->ao i=aj i)->(r=rd/\w=[]\/r=site::rd/\w=[site]\/r=site::id::rd/\w=[id,site])->RD S al all os Q (put ak d (.one c)) ao (tr++[⟨r,w,[]⟩])):dP S al (fQ aj site ty z bytes v x) d all os Q ak aj tr:=by
 obtain⟨v',u,r,h1,h2,h3,h4⟩:=PU hg hx hz hr;obtain⟨c,o,rfl,_⟩:=h2.ke;rw[h1,Yo];refine⟨?_,hK _ _ _ _ h2 h3 h4⟩;rcases h4 with ⟨rfl,h5⟩|⟨rfl,h5⟩|⟨rfl,h5⟩<;>rw[h5]<;>refine CK fun i hi=>au i ?_ <;>simp at hi ⊢
 .exact .inr (.inr hi)
 .rcases hi with h|h|h<;>simp[h]
 rcases hi with h|h|h|h|h<;>simp[h]
theorem ail{site ty z bytes:Nat}{xs:List (List PV)}{x:V}{rd:List Nat}(au:∀i∈site::rd,al.ok i=true)(hx:fF aj x=some (xs,rd,[]))(aH:xs≠[])(hz:mz x=some z\/ie z xs=true)(hr:xs.length*bytes<=140737488355328)
  (hK:∀(c:C) ao r w,grown site ty z xs (.one c) ao->(∀i,i≠site->i≠site->ao i=aj i)->(r=rd/\w=[]\/r=site::rd/\w=[site]\/r=site::site::rd/\w=[site,site])->RD S al all os Q (put ak d (.one c)) ao (tr++[⟨r,w,[]⟩])):dP S al (fQ aj site ty z bytes (.one (.p .zs)) x) d all os Q ak aj tr:=by
 have hn:xs.length≠0:=fun h=>aH (E0.1 h);have e:fQ aj site ty z bytes (.one (.p .zs)) x=fQ aj site ty z bytes (.one (.p .nils)) x:=by simp only[fQ,hx,hn,if_false]
 rw[e];exact Fz (id:=site) (es:=[]) (fun i hi=>au i (by simpa using hi)) grown.nil hx hz (by simpa using hr) hK
theorem ajV{f:Nat}{vs:List V}{s t1 z1 t2 z2:Nat}{rd:List Nat}{es fs:List (List PV)}(au:∀i∈s::(s+1)::rd,al.ok i=true)(hp:aI S f vs (.tup [.one (aT t1 z1 es),.one (aT t2 z2 fs)]))(eS:S.lone s=false)
  (ji:(es.all fun e=>e.all PV.scalar)=true) (eG:(fs.all fun e=>e.all PV.scalar)=true)
  (hK:∀(c e:C) ao,grown s t1 z1 es (.one c) ao->grown (s+1) t2 z2 fs (.one e) ao->(∀i,i≠s->i≠s+1->ao i=aj i)->RN S al os Q (put ak d (.tup [.one c,.one e])) ao):gP S al (.pc f vs rd s) d os Q ak aj:=by
 have gZ:(RV.tup [.one (aT t1 z1 es),.one (aT t2 z2 fs)]).alone=true:=by have a:=qA (ty:=t1) (z:=z1) ji;have b:=qA (ty:=t2) (z:=z2) eG;simp only[RV.alone,gG,ik,mB,pM,wO] at a b;simp[RV.alone,gG,mf,ik,a,b]
 obtain⟨h1,h2,h2u⟩:=rM (aj:=aj) (s:=s) (ty:=t1) (z:=z1) (es:=es);have e0:∀(b b':aA) (k:Nat) (r:RC),b' k=b k->cH b k r=cH b' k r:=by
  intro b b' k r h;cases r with
  |p v=>rfl
  |own ty sz es=>simp only[cH,h]
 have e2:cH aj (s+1) (aT t2 z2 fs)=cH (app (cH aj s (aT t1 z1 es)).2 aj) (s+1) (aT t2 z2 fs):=e0 _ _ _ _ (h2 (s+1) aa);obtain⟨k1,k2,k2u⟩:=rM (aj:=app (cH aj s (aT t1 z1 es)).2 aj) (s:=s+1) (ty:=t2) (z:=z2) (es:=fs);rw[<- e2] at k1 k2 k2u;refine⟨_,hp,?_⟩;rw[eS,uH];have hl:land aj rd s (RV.tup [.one (aT t1 z1 es),.one (aT t2 z2 fs)])=some (.tup [.one (cH aj s (aT t1 z1 es)).1,.one (cH aj (s+1) (aT t2 z2 fs)).1],(cH aj s (aT t1 z1 es)).2++(cH aj (s+1) (aT t2 z2 fs)).2):=by unfold land;rw[if_pos (.inr gZ)];simp[jl,gG,mf,ik,iT,qt,qT,l7]
 rw[hl];refine⟨CK fun i hi=>au i ?_,hK _ _ _ ?_ ?_ ?_⟩
 .simp only[ll,fg] at hi;rcases hi with hi|hi|hi
  .simp[hi]
  .rcases h2u with h|h<;>rw[h] at hi<;>simp at hi<;>simp[hi]
  rcases k2u with h|h<;>rw[h] at hi<;>simp at hi<;>simp[hi]
 .rw[yx];exact h1.of_eq (k2 s aa)
 .rw[yx];exact k1
 intro i a b;rw[yx,k2 i b,h2 i a]
end
theorem aS{b:aA}{a i:Nat}{x:Nat×Option Ob}(h:i≠a):dK b a x i=b i:=by rw[aN,if_neg h]
theorem wM{b:aA}{a:Nat}{x:Nat×Option Ob}:dK b a x a=x:=by rw[aN,if_pos rfl]
theorem Py{a i:Nat}{l:List Nat}(h:i∉l)(ha:a∈l):i≠a:=fun e=>h (e▸ha)
section
variable {S:Sys} {al:Al} {Q:dA} {ak:Env} {aj:aA} {os all:List aO} {tr:List bR} {d:Option Nat}
theorem aaw{f:Nat}{vs:List V}{s ty z:Nat}{es:List (List PV)}{x:PV}(hp:aI S f vs (.tup [.one (aT ty z es),.one (.p x)]))(eS:S.lone s=false)
  (hK:∀(c:C) ao,grown s ty z es (.one c) ao->(∀i,i≠s->ao i=aj i)->RN S .all os Q (put ak d (.tup [.one c,.one (.p x)])) ao):gP S .all (.pc f vs [] s) d os Q ak aj:=by
 obtain⟨h1,h2,_⟩:=rM (aj:=aj) (s:=s) (ty:=ty) (z:=z) (es:=es);refine(cJ (v:=.tup [.one (cH aj s (aT ty z es)).1,.one (.p x)]) (u:=(cH aj s (aT ty z es)).2) hp ?_).2 (hK _ _ h1 h2);rw[eS,uH];unfold land;rw[if_pos (.inl rfl)];simp[jl,gG,mf,ik,iT,qt,qT,l7,cH]
theorem Sb{f:Nat}{vs:List V}{s ty z:Nat}{rd:List Nat}{es:List (List PV)}(hp:aI S f vs (.one (aT ty z es)))(eS:S.lone s=false)(qf:rd=[]\/(RV.one (aT ty z es)).alone=true)
  (hK:∀(c:C) ao w,grown s ty z es (.one c) ao->(∀i,i≠s->ao i=aj i)->(w=[]\/w=[s])->RD S .all all os Q (put ak d (.one c)) ao (tr++[⟨rd++w,w,[]⟩])):dP S .all (.pc f vs rd s) d all os Q ak aj tr:=by
 obtain⟨h1,h2,h3⟩:=rM (aj:=aj) (s:=s) (ty:=ty) (z:=z) (es:=es);refine(DC (v:=.one (cH aj s (aT ty z es)).1) (u:=(cH aj s (aT ty z es)).2) hp ?_).2 (hK _ _ _ h1 h2 h3);rw[eS,uH];unfold land;rw[if_pos qf];simp[jl,gG,ik,iT,qt,l7]
theorem ain{f:Nat}{vs:List V}{s ty z:Nat}{es:List (List PV)}{x:PV}(hp:aI S f vs (.tup [.one (aT ty z es),.one (.p x)]))(eS:S.lone s=false)
  (hK:∀(c:C) ao w,grown s ty z es (.one c) ao->(∀i,i≠s->ao i=aj i)->(w=[]\/w=[s])->RD S .all all os Q (put ak d (.tup [.one c,.one (.p x)])) ao (tr++[⟨[]++w,w,[]⟩])):dP S .all (.pc f vs [] s) d all os Q ak aj tr:=by
 obtain⟨h1,h2,h3⟩:=rM (aj:=aj) (s:=s) (ty:=ty) (z:=z) (es:=es);refine(DC (v:=.tup [.one (cH aj s (aT ty z es)).1,.one (.p x)]) (u:=(cH aj s (aT ty z es)).2) hp ?_).2 (hK _ _ _ h1 h2 h3);rw[eS,uH];unfold land;rw[if_pos (.inl rfl)];simp[jl,gG,mf,ik,iT,qt,qT,l7,cH]
theorem ajW{f:Nat}{vs:List V}{s ty z:Nat}{rd:List Nat}{es:List (List PV)}{x:PV}(hp:aI S f vs (.agg [.p x,aT ty z es]))(eS:S.lone s=false)(hx:x.scalar=true)(hs:(es.all fun e=>e.all PV.scalar)=true)
  (hK:∀(c:C) ao,grown (s+1) ty z es (.one c) ao->(∀i,i≠s+1->ao i=aj i)->RN S .all os Q (put ak d (.agg [.p x,c])) ao):gP S .all (.pc f vs rd s) d os Q ak aj:=by
 obtain⟨h1,h2,_⟩:=rM (aj:=aj) (s:=s+1) (ty:=ty) (z:=z) (es:=es);have gZ:(RV.agg [.p x,aT ty z es]).alone=true:=by have a:=qA (ty:=ty) (z:=z) hs;simp only[RV.alone,gG,ik,mB,pM,wO] at a;simp only[RV.alone,gG,ik,mB,pM,wO,a];exact hx
 refine(cJ (v:=.agg [.p x,(cH aj (s+1) (aT ty z es)).1]) (u:=(cH aj (s+1) (aT ty z es)).2) hp ?_).2 (hK _ _ h1 h2);rw[eS,uH];unfold land;rw[if_pos (.inr gZ)];simp[jl,gG,ik,iT,qt,l7,cH]
theorem Ii{f:Nat}{vs:List V}{s ty z:Nat}{es:List (List PV)}{x y:PV}(hp:aI S f vs (.tup [.agg [.p x,aT ty z es],.one (.p y)]))(eS:S.lone s=false)
  (hK:∀(c:C) ao,grown (s+1) ty z es (.one c) ao->(∀i,i≠s+1->ao i=aj i)->RN S .all os Q (put ak d (.tup [.agg [.p x,c],.one (.p y)])) ao):gP S .all (.pc f vs [] s) d os Q ak aj:=by
 obtain⟨h1,h2,_⟩:=rM (aj:=aj) (s:=s+1) (ty:=ty) (z:=z) (es:=es);refine(cJ (v:=.tup [.agg [.p x,(cH aj (s+1) (aT ty z es)).1],.one (.p y)]) (u:=(cH aj (s+1) (aT ty z es)).2) hp ?_).2 (hK _ _ h1 h2);rw[eS,uH];unfold land;rw[if_pos (.inl rfl)];simp[jl,gG,mf,ik,iT,qt,qT,l7,cH]
theorem Uq{f:Nat}{vs:List V}{s ty z:Nat}{rd:List Nat}{es:List (List PV)}{x y:PV}(hp:aI S f vs (.tup [.agg [.p x,aT ty z es],.one (.p y)]))(eS:S.lone s=false)(hx:x.scalar=true)(hy:y.scalar=true)(hs:(es.all fun e=>e.all PV.scalar)=true)
  (hK:∀(c:C) ao,grown (s+1) ty z es (.one c) ao->(∀i,i≠s+1->ao i=aj i)->RN S .all os Q (put ak d (.tup [.agg [.p x,c],.one (.p y)])) ao):gP S .all (.pc f vs rd s) d os Q ak aj:=by
 obtain⟨h1,h2,_⟩:=rM (aj:=aj) (s:=s+1) (ty:=ty) (z:=z) (es:=es);have gZ:(RV.tup [.agg [.p x,aT ty z es],.one (.p y)]).alone=true:=by have a:=qA (ty:=ty) (z:=z) hs;simp only[RV.alone,gG,ik,mB,pM,wO] at a;simp only[RV.alone,gG,mf,ik,yf,gD,kN,mB,pM,wO,a,Db];show(x.scalar&&y.scalar)=true;rw[hx,hy];rfl
 refine(cJ (v:=.tup [.agg [.p x,(cH aj (s+1) (aT ty z es)).1],.one (.p y)]) (u:=(cH aj (s+1) (aT ty z es)).2) hp ?_).2 (hK _ _ h1 h2);rw[eS,uH];unfold land;rw[if_pos (.inr gZ)];simp[jl,gG,mf,ik,iT,qt,qT,l7,cH]
end
theorem Ll{s1 t1 z1:Nat}{c:C}{y:PV}{aj:aA}(h:grown s1 t1 z1 es (.one c) aj):iU aj (.tup [.agg [.p x,c],.one (.p y)])=some (.tup [.agg [.p x,aT t1 z1 es],.one (.p y)]):=by obtain⟨c',o,hc,h2,h3⟩:=h.ke;cases hc;have e1:ke aj (.p x)=some (.p x,[],[]):=rfl;have e2:ke aj (.p y)=some (.p y,[],[]):=rfl;rcases h3 with rfl|rfl<;>simp[iU,tA,uX,nT,mT,h2,e1,e2,apart,vv,sX,A9]
section
variable {S:Sys} {al:Al} {Q:dA} {ak:Env} {aj:aA} {os all:List aO} {tr:List bR} {d:Option Nat} {op:lB} {w:Option Bool} {a b:aK} {v:V}
theorem eK(L:List Nat)(h:∀e:Env,(∀k∈L,e k=ak k)->gW S al w d op os Q e aj):gW S al w d op os Q ak aj:=h ak fun _ _=>rfl
theorem uT(L:List Nat)(h:∀e:Env,(∀k∈L,e k=ak k)->dW S al w d op all os Q e aj tr):dW S al w d op all os Q ak aj tr:=h ak fun _ _=>rfl
theorem XG(L:List Nat)(h:∀e:Env,(∀k∈L,e k=ak k)->cW S al v a b Q e aj):cW S al v a b Q ak aj:=h ak fun _ _=>rfl
end
section
variable {S:Sys} {al:Al} {Q:dA} {ak:Env} {aj:aA} {os all:List aO} {tr:List bR} {d:Option Nat}
theorem aik{id site ty z bytes:Nat}{es xs:List (List PV)}{v x:V}{rd fr:List Nat}(hg:grown id ty z es v aj)(hx:fF aj x=some (xs,rd,fr))(kZ:nK aj fr)(hni:id∉fr)(sJ:site∉fr)(hz:mz x=some z\/ie z xs=true)(hr:(es.length+xs.length)*bytes<=140737488355328)
  (hK:∀(c:C) ao r w,grown site ty z (es++xs) (.one c) ao->(∀i,i≠site->i≠id->i∉fr->ao i=aj i)->(r=rd++fr/\w=fr\/r=site::rd++fr/\w=fr++[site]\/r=site::id::rd++fr/\w=fr++[id,site])->RD S .all all os Q (put ak d (.one c)) ao (tr++[⟨r,w,[]⟩])):dP S .all (fQ aj site ty z bytes v x) d all os Q ak aj tr:=by
 have qk:¬¬(mz x=some z\/ie z xs=true):=fun h=>h hz;obtain⟨fu,Iy,xD⟩:=Ow fr fr kZ;have FY:rA aj fr=some fu:=Iy;rcases hg with ⟨rfl,rfl⟩|⟨aH,g,rfl,hC⟩
 .by_cases h0:xs=[]
  .subst h0;have:fQ aj site ty z bytes (.one (.p .nils)) x=.done (.one (.p .nils)) fu (rd++fr):=by simp[fQ,hx,qk,FY]
   rw[this,KK];exact hK _ _ _ _ (.inl ⟨rfl,rfl⟩) (fun i _ _ h3=>Ds _ _ _ (by rw[xD];exact h3)) (.inl ⟨rfl,xD⟩)
  have hl:¬xs.length=0:=by simpa using h0
  have qe:xs.length*bytes<=room:=by simpa [room] using hr
  have:fQ aj site ty z bytes (.one (.p .nils)) x=.done (.one (.hsl site ((aj site).1+1) z 0 xs.length)) (fu++[(site,((aj site).1+1,some (.arr ty z xs)))]) (site::rd++fr):=by simp only[fQ,hx,if_neg qk,FY,if_neg hl,if_pos qe]
  rw[this,KK];refine hK _ _ _ _ (.inr ⟨by simpa using h0,(aj site).1+1,af,?_⟩) (fun i h1 _ h3=>?_) (.inr (.inl ⟨rfl,by simp[xD]⟩))
  .rw[yx];simp[app,aN]
  rw[yx];have:=Ds fu aj i (by rw[xD];exact h3);simp[app,aN,h1,this]
 have qe:(es.length+xs.length)*bytes<=room:=by simpa [room] using hr
 have hnc:fr.contains id=false:=by simpa using hni
 have:fQ aj site ty z bytes (.one (.hsl id g z 0 es.length)) x=.done (.one (.hsl site ((aj site).1+1) z 0 (es.length+xs.length))) (fu++[(id,(g,none)),(site,((aj site).1+1,some (.arr ty z (es++xs))))]) (site::id::rd++fr):=by simp only[fQ,hx,if_neg qk,FY,hC,hnc];simp[qe]
 rw[this,KK];refine hK _ _ _ _ (.inr ⟨by simp[aH],(aj site).1+1,af,?_⟩) (fun i h1 h2 h3=>?_) (.inr (.inr ⟨rfl,by simp[xD]⟩))
 .rw[yx];simp[app,aN]
 rw[yx];have:=Ds fu aj i (by rw[xD];exact h3);simp[app,aN,h1,h2,this]
theorem aax{f:Nat}{vs:List V}{s ty z:Nat}{rd:List Nat}{es:List (List PV)}{x:PV}(hp:aI S f vs (.tup [.one (aT ty z es),.one (.p x)]))(eS:S.lone s=false)(hs:(es.all fun e=>e.all PV.scalar)=true)(hx:x.scalar=true)
  (hK:∀(c:C) ao,grown s ty z es (.one c) ao->(∀i,i≠s->ao i=aj i)->RN S .all os Q (put ak d (.tup [.one c,.one (.p x)])) ao):gP S .all (.pc f vs rd s) d os Q ak aj:=by
 obtain⟨h1,h2,_⟩:=rM (aj:=aj) (s:=s) (ty:=ty) (z:=z) (es:=es);have gZ:(RV.tup [.one (aT ty z es),.one (.p x)]).alone=true:=by have a:=qA (ty:=ty) (z:=z) hs;simp only[RV.alone,gG,ik,mB,pM,wO] at a;simp only[RV.alone,gG,mf,ik,yf,gD,kN,mB,pM,wO,a,Db];exact hx
 refine(cJ (v:=.tup [.one (cH aj s (aT ty z es)).1,.one (.p x)]) (u:=(cH aj s (aT ty z es)).2) hp ?_).2 (hK _ _ h1 h2);rw[eS,uH];unfold land;rw[if_pos (.inr gZ)];simp[jl,gG,mf,ik,iT,qt,qT,l7,cH]
end
section
variable {S:Sys} {al:Al} {Q:dA} {ak:Env} {aj:aA} {os all:List aO} {tr:List bR} {d:Option Nat} {op:lB} {a b:aK} {e w:Bool}
theorem Lg{rd:List Nat}{s:Nat}{r:RV}{v:V}{u:List eN}(hp:aI S f vs r)(h:land aj rd s (r.gK (S.lone s))=some (v,u)):gP S al (.pc f vs rd s) d os Q ak aj↔al.fD (rd++u.map (·.1))=true/\RN S al os Q (put ak d v) (app u aj):=by
 constructor
 .rintro ⟨y,hy,h2⟩
  have:=hy.zS hp;subst this;rw[h] at h2;exact h2
 intro hK;refine⟨_,hp,?_⟩;rw[h];exact hK
theorem KL{rd:List Nat}{s:Nat}{r:RV}{v:V}{u:List eN}(hp:aI S f vs r)(h:land aj rd s (r.gK (S.lone s))=some (v,u)):dP S al (.pc f vs rd s) d all os Q ak aj tr↔al.fD (rd++u.map (·.1))=true/\RD S al all os Q (put ak d v) (app u aj) (tr++[⟨rd++u.map (·.1),u.map (·.1),[]⟩]):=by
 constructor
 .rintro ⟨y,hy,h2⟩
  have:=hy.zS hp;subst this;rw[h] at h2;exact h2
 intro hK;refine⟨_,hp,?_⟩;rw[h];exact hK
theorem acB{s:Nat}(b:Bool):land aj [] s ((RV.one (.p x)).gK b)=some (.one (.p x),[]):=by cases b<;>rfl
theorem FK{s:Nat}(h:aI S f vs (.one (.p x))):gP S al (.pc f vs [] s) d os Q ak aj↔RN S al os Q (put ak d (.one (.p x))) aj:=by rw[Lg h (acB _)];exact⟨fun h=>h.2,fun h=>⟨rfl,h⟩⟩
theorem NT{s:Nat}(h:aI S f vs (.one (.p x))):dP S al (.pc f vs [] s) d all os Q ak aj tr↔RD S al all os Q (put ak d (.one (.p x))) aj (tr++[⟨[],[],[]⟩]):=by rw[KL h (acB _)];exact⟨fun h=>h.2,fun h=>⟨rfl,h⟩⟩
end
section
variable {S:Sys} {al:Al} {Q:dA} {ak:Env} {aj:aA} {os all:List aO} {tr:List bR} {d:Option Nat} {op:lB} {w:Option Bool} {a b:aK} {v:V} {p:ft}
end
theorem grown.ET{c:C}{aj:aA}(h:grown site ty z es (.one c) aj):∃r,(∀B:aA,B site=aj site->Go.Abs.snap B Go.Abs.fH c=some (.sl es,r))/\(r=[]\/r=[site]):=by
 rcases h with ⟨h1,h2⟩|⟨h1,g,h2,h3⟩
 .cases h2;exact⟨[],fun B _=>by rw[h1];rfl,.inl rfl⟩
 cases h2;refine⟨[site],fun B hB=>?_,.inr rfl⟩;rw[<- hB] at h3;simp[Go.Abs.fH,Go.Abs.snap,h3]
end
end Go.Abs
namespace Go.Abs
open Go
section
variable {S:Sys} {al:Al} {Q:dA} {os all:List aO} {d:Option Nat} {ak:Env} {aj:aA} {tr:List bR}
end
theorem ake{ty z:Nat}{es:List (List PV)}(h:es≠[]):aT ty z es=.own ty z es:=if_neg h
end Go.Abs
namespace Go.Abs
theorem fm1{p:Nat->Prop}:(∀k∈([]:List Nat),p k)↔True:=by simp
theorem fm2{a:Nat}{l:List Nat}{p:Nat->Prop}:(∀k∈a::l,p k)↔p a/\ ∀k∈l,p k:=List.forall_mem_cons
attribute [go_sem] fm1 fm2 zo bne_self_eq_false Bool.or_true Bool.or_false Bool.true_or Bool.false_or Bool.not_not jl gG ik mf cH iT qt l7 qT Option.getD_some Option.getD_none Option.isSome_some Option.isSome_none
attribute [go_sem ↓] Rd
attribute [go_sem high] Lf KK
attribute [go_sem] Rt Rl Rb aav Yo GB Jj Bool.and_self Al.Fo
attribute [go_sem] bt qB ti BY Gn app if_true if_false reduceIte Nat.reduceEqDiff beq_self_eq_true reduceCtorEq ge_iff_le oE PA zC DF Nat.reduceAdd A7 pK zD eX rq xR ne_eq Nat.reduceLeDiff xU yJ Bj Bi toP fill Nat.reduceMul Nat.reduceLT Qr Qq
attribute [go_sem] fF mz rA uk room CO rm Nat.reduceSub Int.reduceLT Int.reduceAdd Int.reduceBEq Int.reduceBNe Int.reduceLE List.contains_eq_mem vr
end Go.Abs
