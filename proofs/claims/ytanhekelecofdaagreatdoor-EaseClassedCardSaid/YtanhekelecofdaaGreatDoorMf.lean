/-
  Rules for a walk.
-/
import Derived.Test.YtanhekelecofdaaGreatDoorMc
import Derived.Attr
set_option linter.all false
namespace Go.Abs
section
variable{x:PV}{f site ty z:Nat}{vs:e_}{es:s_}
theorem aaT(k:Nat):qC (.one (.p (.int .i64 (k:Int))))=some k:=by simp[qC]
theorem aaS(n:Nat):qC (.one (.p (.int .i64 (no_index (@OfNat.ofNat Int n instOfNat)))))=some (@OfNat.ofNat Nat n (instOfNatNat n)):=by show qC (.one (.p (.int .i64 (Int.ofNat n))))=some n;simp[qC]
theorem Vk{aj:aE}{v:PV}:snap aj gZ (.p v)=some (v.norm,[]):=rfl
def WC{β:Type}(x:Option (β×a_))(y:Option (List β×a_)):Option (List β×a_):=match x,y with
 |some (b,x),some (bs,y)=>some (b::bs,x++y)
 |_,_=>none
theorem abD{β:Type}{b:β}{x:a_}{bs:List β}{y:a_}:WC (some (b,x)) (some (bs,y))=some (b::bs,x++y):=rfl
theorem abx{α β:Type}{f:α->Option (β×a_)}:collect f []=some ([],[]):=rfl
theorem abv{α β:Type}{f:α->Option (β×a_)}{a:α}{r:List α}:collect f (a::r)=WC (f a) (collect f r):=by simp only[collect,WC];cases f a<;>cases collect f r<;>rfl
theorem ahT{aj:aE}{c:C}:oX aj (.one c)=(snap aj gZ c).map fun(v,r)=>(.one (.p v),r):=rfl
theorem ahS{aj:aE}{cs:f_}:oX aj (.agg cs)=(collect (snap aj gZ) cs).map fun(vs,r)=>(.agg (vs.map .p),r):=rfl
theorem ah1{aj:aE}{n:Nat}{v:PV}:snap aj (n+1) (.p v)=some (v.norm,[]):=rfl
def Vj(o:Nat×Option Ob)(col:List f_->Option (s_×a_))(id g off len:Nat):Option (PV×a_):=match o with
 |(g',some (.arr _ _ es))=>if g'=g/\off+len<=es.length then some (.sl ((es.drop off).take len),[id]) else none
 |(g',some (.qF _ _ es))=>if g'=g/\off+len<=es.length then some (.sl ((es.drop off).take len),[id]) else none
 |(g',some (.jg _ _ es))=>if g'=g/\off+len<=es.length then
   match col ((es.drop off).take len) with
   |some (ps,r)=>some (.sl ps,id::r)
   |none=>none
  else none
 |_=>none
theorem ah0{aj:aE}{id g z off len:Nat}:snap aj gZ (.hsl id g z off len)=Vj (aj id) (collect (collect (snap aj 5))) id g off len:=by unfold gZ Vj;rw[snap];rfl
def Vi(o:Nat×Option Ob)(col:f_->Option (b_×a_))(id g off:Nat):Option (PV×a_):=match o with
 |(g',some (.var cs))=>if g'=g then
   match col cs with
   |some (ps,r)=>some (.box (ps.drop off),id::r)
   |none=>none
  else none
 |(g',some (.fvar ps))=>if g'=g then some (.box (ps.drop off),[id]) else none
 |_=>none
theorem ahZ{aj:aE}{id g off:Nat}:snap aj gZ (.bt id g off)=Vi (aj id) (collect (snap aj 5)) id g off:=by unfold gZ Vi;rw[snap];rfl
section
variable {S:Sys} {al:Al} {ak:Env} {aj:aE} {d:w_}
theorem KR{rd:a_}{s:Nat}{b:Bool}(hs:x.scalar=true):land aj rd s ((RV.one (.p x)).iu b)=some (.one (.p x),[]):=by
 have h1:(RV.one (.p x)).iu b=.one (.p x):=by cases b<;>rfl
 rw[h1];have:(RV.one (.p x)).alone=true:=by simp[RV.alone,iY,jh,RC.alone,hs]
 simp only[land,this,or_true,if_true];rfl
theorem anq{rd:a_}{s:Nat}{K:Env->aE->Prop}(h:aO S f vs (.one (.p x)))(hs:x.scalar=true):JX S .all (.pc f vs rd s) d ak aj K↔K (put ak d (.one (.p x))) aj:=by
 constructor
 .rintro ⟨y,hy,h2⟩
  have:=hy.AL h;subst this;rw[KR hs] at h2;exact h2.2
 intro hK;refine⟨_,h,?_⟩;rw[KR hs];exact⟨Al.Gz _,hK⟩
theorem anr{rd:a_}{s:Nat}{tr:i_}{K:Env->aE->i_->Prop}(h:aO S f vs (.one (.p x)))(hs:x.scalar=true):Hf S .all (.pc f vs rd s) d ak aj tr K↔K (put ak d (.one (.p x))) aj (tr++[⟨rd,[],[]⟩]):=by
 constructor
 .rintro ⟨y,hy,h2⟩
  have:=hy.AL h;subst this;rw[KR hs] at h2
  simpa [app] using h2.2
 intro hK;refine⟨_,h,?_⟩;rw[KR hs];exact⟨Al.Gz _,by simpa [app] using hK⟩
theorem ajc{ops:g_}{Q:eK}:W S al (.region true ops) Q ak aj↔WO S al ops (fun ak aj es=>ui ops [] es=true/\Q .normal ak aj) ak aj []:=by
 rw[aaz];constructor
 .rintro ⟨n,e,b,es,h1,h2,h3⟩;exact⟨n,e,b,es,h1,h2 rfl,h3⟩
 rintro ⟨n,e,b,es,h1,h2,h3⟩;exact⟨n,e,b,es,h1,fun _=>h2,h3⟩
end
theorem wrap_small{n:Nat}(h:n<=9223372036854775807):IntKind.i64.wrap (n:Int)=n:=PC h
theorem df{n:Nat}(h:n<9223372036854775807):IntKind.i64.wrap ((n:Int)+1)=((n+1:Nat):Int):=PC (n:=n+1) aa
section
variable {S:Sys} {al:Al} {Q:eK} {ak:Env} {aj:aE} {a b:aR} {ops os all:g_} {tr:i_} {d:w_} {op:oz} {n:Nat}
def Ew(S:Sys)(al:Al)(b:aR)(Q:eK):eK
 | .normal,ak,aj=>W S al b Q ak aj
 | .exit i,ak,aj=>Q (.exit i) ak aj
 | .ret,ak,aj=>Q .ret ak aj
theorem auS:Pr (W S al b Q) Q=Ew S al b Q:=by funext e ak aj;cases e<;>rfl
theorem aat:W S al (.seq a b) Q ak aj↔W S al a (Ew S al b Q) ak aj:=by rw[aji,auS]
theorem aio:Ew S al b Q .normal ak aj=W S al b Q ak aj:=rfl
theorem ain{i:Nat}:Ew S al b Q (.exit i) ak aj=Q (.exit i) ak aj:=rfl
theorem aip:Ew S al b Q .ret ak aj=Q .ret ak aj:=rfl
def cW (S:Sys)(al:Al)(v:V)(a b:aR)(Q:eK)(ak:Env)(aj:aE):Prop:=Jr v (W S al a Q ak aj) (W S al b Q ak aj)
theorem aar{x:aX}:W S al (.cond x a b) Q ak aj↔cW S al (ev ak x) a b Q ak aj:=ajb
theorem abd:cW S al (.one (.p (.bool true))) a b Q ak aj=W S al a Q ak aj:=by simp[cW,Jr]
theorem abc:cW S al (.one (.p (.bool false))) a b Q ak aj=W S al b Q ak aj:=by simp[cW,Jr]
def RN (S:Sys)(al:Al)(ops:g_)(Q:eK)(ak:Env)(aj:aE):Prop:=WN S al ops (fun ak aj=>Q .normal ak aj) ak aj
def gP (S:Sys)(al:Al)(p:fP)(d:w_)(os:g_)(Q:eK)(ak:Env)(aj:aE):Prop:=JX S al p d ak aj (WN S al os fun ak aj=>Q .normal ak aj)
def gW (S:Sys)(al:Al)(w:Option Bool)(d:w_)(op:oz)(os:g_)(Q:eK)(ak:Env)(aj:aE):Prop:=TI S al w ⟨d,op,none,0⟩ ak aj (WN S al os fun ak aj=>Q .normal ak aj)
theorem aau:W S al (.region false ops) Q ak aj↔RN S al ops Q ak aj:=ajj
theorem aap:RN S al [] Q ak aj↔Q .normal ak aj:=ai5
theorem aaq:RN S al (⟨d,op,none,n⟩::os) Q ak aj↔gP S al (bU S.shared ak aj op) d os Q ak aj:=aaw
theorem aao{t:Nat}{w:Bool}:RN S al (⟨d,op,some (t,w),n⟩::os) Q ak aj↔gW S al (Gg (ak t) w) d op os Q ak aj:=by
 unfold RN gW;rw[aaw];have:wanted ak (some (t,w))=Gg (ak t) w:=rfl;simp only[this];cases Gg (ak t) w with
 |none=>rfl
 |some x=>cases x<;>rfl
theorem adr:gW S al (some true) d op os Q ak aj↔gP S al (bU S.shared ak aj op) d os Q ak aj:=Iff.rfl
theorem adq:gW S al (some false) d op os Q ak aj↔RN S al os Q (put ak d .undef) aj:=Iff.rfl
theorem Ns{v:V}{u:k_}{r:a_}:gP S .all (.done v u r) d os Q ak aj↔RN S .all os Q (put ak d v) (app u aj):=by show(Al.all.fT (r++u.map (·.1))=true/\_)↔_;rw[Al.Gz];exact⟨fun h=>h.2,fun h=>⟨rfl,h⟩⟩
theorem adi{v:V}{u:k_}{r:a_}:gP S al (.done v u r) d os Q ak aj↔al.fT (r++u.map (·.1))=true/\RN S al os Q (put ak d v) (app u aj):=Iff.rfl
theorem Xq{rd:a_}{s:Nat}(h:aO S f vs (.one (.p x)))(hs:x.scalar=true):gP S .all (.pc f vs rd s) d os Q ak aj↔RN S .all os Q (put ak d (.one (.p x))) aj:=anq h hs
theorem eF{rd:a_}{s:Nat}{k:IntKind}{x:Int}(h:aO S f vs (.one (.p (.int k x)))):gP S .all (.pc f vs rd s) d os Q ak aj↔RN S .all os Q (put ak d (.one (.p (.int k x)))) aj:=Xq h rfl
theorem aJ{rd:a_}{s:Nat}{x:Bool}(h:aO S f vs (.one (.p (.bool x)))):gP S .all (.pc f vs rd s) d os Q ak aj↔RN S .all os Q (put ak d (.one (.p (.bool x)))) aj:=Xq h rfl
theorem Fp{rd:a_}{s:Nat}{x:ByteArray}(h:aO S f vs (.one (.p (.str x)))):gP S .all (.pc f vs rd s) d os Q ak aj↔RN S .all os Q (put ak d (.one (.p (.str x)))) aj:=Xq h rfl
theorem aY{rd:a_}{s:Nat}{r:RV}{v:V}{u:k_}(hp:aO S f vs r)(h:land aj rd s (r.iu (S.lone s))=some (v,u)):gP S .all (.pc f vs rd s) d os Q ak aj↔RN S .all os Q (put ak d v) (app u aj):=by
 constructor
 .rintro ⟨y,hy,h2⟩
  have:=hy.AL hp;subst this;rw[h] at h2;exact h2.2
 intro hK;refine⟨_,hp,?_⟩;rw[h];exact⟨Al.Gz _,hK⟩
def RD (S:Sys)(al:Al)(all ops:g_)(Q:eK)(ak:Env)(aj:aE)(tr:i_):Prop:=WO S al ops (fun ak aj es=>ui all [] es=true/\Q .normal ak aj) ak aj tr
def dP (S:Sys)(al:Al)(p:fP)(d:w_)(all os:g_)(Q:eK)(ak:Env)(aj:aE)(tr:i_):Prop:=Hf S al p d ak aj tr (WO S al os fun ak aj es=>ui all [] es=true/\Q .normal ak aj)
def dW (S:Sys)(al:Al)(w:Option Bool)(d:w_)(op:oz)(all os:g_)(Q:eK)(ak:Env)(aj:aE)(tr:i_):Prop:=Fs S al w ⟨d,op,none,0⟩ ak aj tr (WO S al os fun ak aj es=>ui all [] es=true/\Q .normal ak aj)
theorem aas:W S al (.region true ops) Q ak aj↔RD S al ops ops Q ak aj []:=ajc
theorem aam:RD S al all [] Q ak aj tr↔ui all [] tr=true/\Q .normal ak aj:=VR
theorem aan:RD S al all (⟨d,op,none,n⟩::os) Q ak aj tr↔dP S al (bU S.shared ak aj op) d all os Q ak aj tr:=PS
theorem aal{t:Nat}{w:Bool}:RD S al all (⟨d,op,some (t,w),n⟩::os) Q ak aj tr↔dW S al (Gg (ak t) w) d op all os Q ak aj tr:=by
 unfold RD dW;rw[PS];have:wanted ak (some (t,w))=Gg (ak t) w:=rfl;simp only[this];cases Gg (ak t) w with
 |none=>rfl
 |some x=>cases x<;>rfl
theorem abY:dW S al (some true) d op all os Q ak aj tr↔dP S al (bU S.shared ak aj op) d all os Q ak aj tr:=Iff.rfl
theorem abX:dW S al (some false) d op all os Q ak aj tr↔RD S al all os Q (put ak d .undef) aj (tr++[⟨[],[],[]⟩]):=Iff.rfl
theorem MC{v:V}{u:k_}{r:a_}:dP S .all (.done v u r) d all os Q ak aj tr↔RD S .all all os Q (put ak d v) (app u aj) (tr++[⟨r,u.map (·.1),[]⟩]):=by show(Al.all.fT (r++u.map (·.1))=true/\_)↔_;rw[Al.Gz];exact⟨fun h=>h.2,fun h=>⟨rfl,h⟩⟩
theorem abV{v:V}{u:k_}{r:a_}:dP S al (.done v u r) d all os Q ak aj tr↔al.fT (r++u.map (·.1))=true/\RD S al all os Q (put ak d v) (app u aj) (tr++[⟨r,u.map (·.1),[]⟩]):=Iff.rfl
theorem WT{rd:a_}{s:Nat}(h:aO S f vs (.one (.p x)))(hs:x.scalar=true):dP S .all (.pc f vs rd s) d all os Q ak aj tr↔RD S .all all os Q (put ak d (.one (.p x))) aj (tr++[⟨rd,[],[]⟩]):=anr h hs
theorem dI{rd:a_}{s:Nat}{k:IntKind}{x:Int}(h:aO S f vs (.one (.p (.int k x)))):dP S .all (.pc f vs rd s) d all os Q ak aj tr↔RD S .all all os Q (put ak d (.one (.p (.int k x)))) aj (tr++[⟨rd,[],[]⟩]):=WT h rfl
theorem dA{rd:a_}{s:Nat}{x:Bool}(h:aO S f vs (.one (.p (.bool x)))):dP S .all (.pc f vs rd s) d all os Q ak aj tr↔RD S .all all os Q (put ak d (.one (.p (.bool x)))) aj (tr++[⟨rd,[],[]⟩]):=WT h rfl
theorem abW{rd:a_}{s:Nat}{x:ByteArray}(h:aO S f vs (.one (.p (.str x)))):dP S .all (.pc f vs rd s) d all os Q ak aj tr↔RD S .all all os Q (put ak d (.one (.p (.str x)))) aj (tr++[⟨rd,[],[]⟩]):=WT h rfl
theorem GR{rd:a_}{s:Nat}{r:RV}{v:V}{u:k_}(hp:aO S f vs r)(h:land aj rd s (r.iu (S.lone s))=some (v,u)):dP S .all (.pc f vs rd s) d all os Q ak aj tr↔RD S .all all os Q (put ak d v) (app u aj) (tr++[⟨rd++u.map (·.1),u.map (·.1),[]⟩]):=by
 constructor
 .rintro ⟨y,hy,h2⟩
  have:=hy.AL hp;subst this;rw[h] at h2;exact h2.2
 intro hK;refine⟨_,hp,?_⟩;rw[h];exact⟨Al.Gz _,hK⟩
def K6(N:Nat)(I:Nat->Env->aE->Prop)(k:Nat)(Q:eK):eK:=Pr (fun ak aj=>k<N/\I (k+1) ak aj) Q
theorem af7{N k:Nat}{I:Nat->Env->aE->Prop}:K6 N I k Q .normal ak aj=(k<N/\I (k+1) ak aj):=rfl
theorem af6{N k i:Nat}{I:Nat->Env->aE->Prop}:K6 N I k Q (.exit i) ak aj=Q (.exit i) ak aj:=rfl
theorem af8{N k:Nat}{I:Nat->Env->aE->Prop}:K6 N I k Q .ret ak aj=Q .ret ak aj:=rfl
theorem dG{c:aR}(I:Nat->Env->aE->Prop)(k0 N:Nat)(hk:k0<=N)(h0:I k0 ak aj)
  (round:∀k ak aj,k<=N->I k ak aj->W S al c (K6 N I k Q) ak aj):W S al (.loop c) Q ak aj:=aje I k0 N hk h0 round
def MO(R:V->aE->Prop)(aj:aE):Option e_->Prop
 |some vs=>R (Bo vs) aj
 |none=>False
theorem aaf{res:List (Nat×Option w_)}{R:V->aE->Prop}:tW al res R .ret ak aj=MO R aj (qt al ak aj res):=by simp only[tW,MO];cases qt al ak aj res<;>rfl
theorem aae{res:List (Nat×Option w_)}{R:V->aE->Prop}:tW al res R .normal ak aj=MO R aj (qt al ak aj res):=by simp only[tW,MO];cases qt al ak aj res<;>rfl
theorem acm{R:V->aE->Prop}{vs:e_}:MO R aj (some vs)=R (Bo vs) aj:=rfl
end
section
variable {S:Sys} {al:Al} {Q:eK} {ak:Env} {aj:aE}
def Up(S:Sys)(al:Al)(c:aR)(Q:eK):eK
 | .normal,ak,aj=>W S al (.loop c) Q ak aj
 | .exit i,ak,aj=>Q (.exit i) ak aj
 | .ret,ak,aj=>Q .ret ak aj
theorem afJ{c:aR}:Up S al c Q .normal ak aj=W S al (.loop c) Q ak aj:=rfl
theorem afI{c:aR}{i:Nat}:Up S al c Q (.exit i) ak aj=Q (.exit i) ak aj:=rfl
theorem afK{c:aR}:Up S al c Q .ret ak aj=Q .ret ak aj:=rfl
theorem sJ{c:aR}(h:W S al c (Up S al c Q) ak aj):W S al (.loop c) Q ak aj:=by
 obtain⟨n,e,iR,cZ,h1,h2⟩:=h;cases e with
 |normal=>obtain⟨m,e,dE,bN,h3,h4⟩:=h2;refine⟨max n m+1,e,dE,bN,?_,h4⟩;simp only[exec] at h3 |-;simp only[iter];rw[G0 S aa h1];exact Yt S aa aa h3
 |exit i=>exact⟨n+1,_,_,_,by simp[exec,iter,G0 S (Nat.le_succ n) h1],h2⟩
 |ret=>exact⟨n+1,_,_,_,by simp[exec,iter,G0 S (Nat.le_succ n) h1],h2⟩
end
theorem jd.AL{S:Sys}{args:e_}{al:Al}{aj:aE}{v v':V}{b b':aE}(h:jd S f args al aj v b)(h':jd S f args al aj v' b'):v=v'/\b=b':=by obtain⟨n,hn⟩:=h;obtain⟨m,hm⟩:=h';have a:=Mt S (IM n m) _ _ _ _ _ hn;have c:=Mt S (L9 n m) _ _ _ _ _ hm;rw[a] at c;have:=pz c;exact⟨congrArg Prod.fst this,congrArg Prod.snd this⟩
section
variable {S:Sys} {al:Al} {Q:eK} {ak:Env} {aj:aE} {os all:g_} {tr:i_} {d:w_}
theorem Ij:al.fT []=true:=rfl
theorem Ii{a:Nat}{l:a_}:al.fT (a::l)=(al.ok a&&al.fT l):=rfl
def Kept(K:Nat->Prop)(b b':aE):Prop:=∀id,¬K id->b' id=b id
theorem Kept.refl(K:Nat->Prop)(b:aE):Kept K b b:=fun _ _=>rfl
theorem Kept.trans{K:Nat->Prop}{a b c:aE}(h:Kept K a b)(h2:Kept K b c):Kept K a c:=fun id hk=>(h2 id hk).trans (h id hk)
theorem Kept.eH{K:Nat->Prop}{b b':aE}(h:Kept K b b'){k:Nat}(hk:K k)(x:Nat×Option Ob):Kept K b (eH b' k x):=fun id hn=>by rw[aU,aC (by rintro rfl;exact hn hk)];exact h id hn
theorem anh{v:V}{ao:aE}(hh:al.holds (allow (S.ctx al) f vs aj)=true)(h:jd S f vs (allow (S.ctx al) f vs aj) aj v ao):gP S al (.sc f vs) d os Q ak aj↔RN S al os Q (put ak d v) ao:=by
 constructor
 .rintro ⟨_,v2,b2,h2,h3⟩
  obtain⟨rfl,rfl⟩:=h.AL h2;exact h3
 intro h3;exact⟨hh,v,ao,h,h3⟩
theorem adh{rd:a_}{s:Nat}(h:aO S f vs (.one (.p x)))(hs:x.scalar=true):gP S al (.pc f vs rd s) d os Q ak aj↔al.fT (rd++[])=true/\RN S al os Q (put ak d (.one (.p x))) aj:=by
 constructor
 .rintro ⟨y,hy,h2⟩
  have:=hy.AL h;subst this;rw[KR hs] at h2;exact h2
 rintro ⟨ho,hK⟩
 refine⟨_,h,?_⟩;rw[KR hs];exact⟨ho,hK⟩
theorem Nt{rd:a_}{s:Nat}{k:IntKind}{x:Int}(h:aO S f vs (.one (.p (.int k x)))):gP S al (.pc f vs rd s) d os Q ak aj↔al.fT (rd++[])=true/\RN S al os Q (put ak d (.one (.p (.int k x)))) aj:=adh h rfl
theorem adg{rd:a_}{s:Nat}{x:Bool}(h:aO S f vs (.one (.p (.bool x)))):gP S al (.pc f vs rd s) d os Q ak aj↔al.fT (rd++[])=true/\RN S al os Q (put ak d (.one (.p (.bool x)))) aj:=adh h rfl
theorem amG{f:Int->b_}(q:Int):∀(ids:d_) (i:Nat),qG (.int .i64 q) (ids.map fun id=>(PV.int .i64 id,f id)) i=some (if q∈ids then some (i+ids.idxOf q,f q) else none):=by
 intro ids
 induction ids with
 |nil=>intro i;rfl
 |cons a ids ih=>
  intro i;simp only[eD,qG,sameKey,if_true];by_cases e:q=a
  .subst e;simp
  have e':(q==a)=false:=by simpa using e
  have e2:¬(a=q):=fun h=>e h.symm;simp only[e'];rw[ih];simp only[ch,e,false_or,List.idxOf_cons,dh,e2,cond_false];by_cases h:q∈ids
  .have e3:(a==q)=false:=by simpa using e2
   simp[h,e3];omega
  simp[h]
theorem sY{f:Nat}{vs:e_}{P:V->aE->Prop}(hh:al.holds (allow (S.ctx al) f vs aj)=true)(h:∃v ao,jd S f vs (allow (S.ctx al) f vs aj) aj v ao/\P v ao)
  (hK:∀v ao,P v ao->RN S al os Q (put ak d v) ao):gP S al (.sc f vs) d os Q ak aj:=by
 obtain⟨v,ao,h1,h2⟩:=h;exact(anh hh h1).2 (hK v ao h2)
theorem Ba{Me:Al}:Al.all.holds Me=true:=rfl
theorem holds_of{Me:Al}(h1:al.fT Me.ids=true)(h2:Me.fs.all al.fs.contains=true):al.holds Me=true:=by unfold Al.holds;rw[h1,h2];simp
theorem vf{id:Nat}(h:(S.sites f).contains (jH id)=true):(allow (S.ctx al) f vs aj).ok id=true:=by show(false||_||(S.sites f).contains (jH id))=true;rw[h];simp
theorem vg{id:Nat}(h:id∈(vs.map (jy aj)).flatten):(allow (S.ctx al) f vs aj).ok id=true:=by
 show(false||(vs.map (jy aj)).flatten.contains id||_)=true;have:(vs.map (jy aj)).flatten.contains id=true:=by simpa using h
 rw[this];rfl
theorem Lo{id g g0 o:Nat}{cs:f_}(h:aj id=(g0,some (.var cs))):jy aj (.one (.bt id g o))=id::(cs.map (j8 aj 5)).flatten:=by show j8 aj 6 (.bt id g o)=_;rw[j8,h]
theorem Ln{n:Nat}{v:PV}:j8 aj n (.p v)=[]:=by cases n<;>rfl
theorem Eo{id g g0 o l sz n:Nat}(h:aj id=(g0,some (.arr ty sz es))):j8 aj (n+1) (.hsl id g z o l)=[id]:=by rw[j8,h]
def ZK(x:Nat×Option Ob)(id g:Nat):Option (PV×a_):=match x with
 |(g',some (.map ag es))=>if g'=g then some (.mp ag es,[id]) else none
 |(g',some (.fmap ag es))=>if g'=g then some (.mp ag es,[id]) else none
 |_=>none
theorem ahY{n id g:Nat}:snap aj (n+1) (.kE id g)=ZK (aj id) id g:=by rw[snap];rfl
end
theorem Rd:type_of%(And.intro @aat<|And.intro @aau<|And.intro @aas<|And.intro @aax<|And.intro @aar<|And.intro @aaq<|And.intro @aao<|And.intro @aap<|And.intro @aan<|And.intro @aal<|And.intro @aam<|And.intro @aaA<|And.intro @aaB<|And.intro @aay<|And.intro @aio<|And.intro @ain<|And.intro @aip<|And.intro @aa8<|And.intro @aa9<|And.intro @aa7<|And.intro @af7<|And.intro @af6<|And.intro @af8<|And.intro @afJ<|And.intro @afI @afK):=And.intro @aat<|And.intro @aau<|And.intro @aas<|And.intro @aax<|And.intro @aar<|And.intro @aaq<|And.intro @aao<|And.intro @aap<|And.intro @aan<|And.intro @aal<|And.intro @aam<|And.intro @aaA<|And.intro @aaB<|And.intro @aay<|And.intro @aio<|And.intro @ain<|And.intro @aip<|And.intro @aa8<|And.intro @aa9<|And.intro @aa7<|And.intro @af7<|And.intro @af6<|And.intro @af8<|And.intro @afJ<|And.intro @afI @afK
theorem Rt:type_of%(And.intro @abd<|And.intro @abc<|And.intro @adr<|And.intro @adq<|And.intro @abY<|And.intro @abX<|And.intro @aiJ<|And.intro @aiK<|And.intro @acw<|And.intro @acu<|And.intro @acs<|And.intro @acv<|And.intro @ag4<|And.intro @ag2<|And.intro @aU<|And.intro @aes<|And.intro @aer<|And.intro @aaf<|And.intro @aae<|And.intro @acm<|And.intro @agB<|And.intro @norm_int<|And.intro @agb<|And.intro @agk<|And.intro @agi<|And.intro @agj<|And.intro @Za<|And.intro @agc<|And.intro @agh<|And.intro @age<|And.intro @agf<|And.intro @agd<|And.intro @ahW<|And.intro @ahV<|And.intro @ahR<|And.intro @ahU<|And.intro @bft<|And.intro @btf<|And.intro @bff<|And.intro @btt<|And.intro @aaT<|And.intro @Vk<|And.intro @abD<|And.intro @abx<|And.intro @abv<|And.intro @ahS<|And.intro @aaS<|And.intro @ahT<|And.intro @ah0<|And.intro @ahZ @ah1):=And.intro @abd<|And.intro @abc<|And.intro @adr<|And.intro @adq<|And.intro @abY<|And.intro @abX<|And.intro @aiJ<|And.intro @aiK<|And.intro @acw<|And.intro @acu<|And.intro @acs<|And.intro @acv<|And.intro @ag4<|And.intro @ag2<|And.intro @aU<|And.intro @aes<|And.intro @aer<|And.intro @aaf<|And.intro @aae<|And.intro @acm<|And.intro @agB<|And.intro @norm_int<|And.intro @agb<|And.intro @agk<|And.intro @agi<|And.intro @agj<|And.intro @Za<|And.intro @agc<|And.intro @agh<|And.intro @age<|And.intro @agf<|And.intro @agd<|And.intro @ahW<|And.intro @ahV<|And.intro @ahR<|And.intro @ahU<|And.intro @bft<|And.intro @btf<|And.intro @bff<|And.intro @btt<|And.intro @aaT<|And.intro @Vk<|And.intro @abD<|And.intro @abx<|And.intro @abv<|And.intro @ahS<|And.intro @aaS<|And.intro @ahT<|And.intro @ah0<|And.intro @ahZ @ah1
theorem Rl:type_of%(And.intro @List.map_nil.{0,0}<|And.intro @List.append_nil.{0}<|And.intro @List.map_cons.{0,0}<|And.intro @List.cons_append.{0}<|And.intro @List.nil_append.{0}<|And.intro @List.drop_zero.{0}<|And.intro @List.take_zero.{0}<|And.intro @List.length_cons.{0}<|And.intro @List.length_nil.{0}<|And.intro @List.take_succ_cons.{0}<|And.intro @List.drop_nil.{0}<|And.intro @List.drop_succ_cons.{0}<|And.intro @List.length_map.{0,0}<|And.intro @List.take_nil.{0}<|And.intro @List.flatten_cons.{0}<|And.intro @List.getElem?_cons_zero.{0}<|And.intro @List.getElem?_cons_succ.{0}<|And.intro @List.all_nil.{0}<|And.intro @List.all_cons.{0}<|And.intro @List.not_mem_nil.{0} @Option.map_some.{0,0}):=And.intro @List.map_nil.{0,0}<|And.intro @List.append_nil.{0}<|And.intro @List.map_cons.{0,0}<|And.intro @List.cons_append.{0}<|And.intro @List.nil_append.{0}<|And.intro @List.drop_zero.{0}<|And.intro @List.take_zero.{0}<|And.intro @List.length_cons.{0}<|And.intro @List.length_nil.{0}<|And.intro @List.take_succ_cons.{0}<|And.intro @List.drop_nil.{0}<|And.intro @List.drop_succ_cons.{0}<|And.intro @List.length_map.{0,0}<|And.intro @List.take_nil.{0}<|And.intro @List.flatten_cons.{0}<|And.intro @List.getElem?_cons_zero.{0}<|And.intro @List.getElem?_cons_succ.{0}<|And.intro @List.all_nil.{0}<|And.intro @List.all_cons.{0}<|And.intro @List.not_mem_nil.{0} @Option.map_some.{0,0}
theorem Rb:type_of%(And.intro @Bool.false_eq_true<|And.intro @Bool.not_true<|And.intro @Bool.not_false<|And.intro @Bool.and_true<|And.intro @Bool.and_false<|And.intro @Bool.true_and<|And.intro @Bool.false_and<|And.intro @true_and<|And.intro @and_true<|And.intro @true_or<|And.intro @or_true<|And.intro @false_or<|And.intro @or_false<|And.intro @decide_true<|And.intro @decide_false<|And.intro @not_true_eq_false<|And.intro @not_false_eq_true<|And.intro @and_self<|And.intro @Nat.le_refl<|And.intro @Nat.zero_add<|And.intro @Nat.mul_one<|And.intro @Nat.zero_mul<|And.intro @Nat.zero_le<|And.intro @Nat.sub_zero @Int.zero_add):=And.intro @Bool.false_eq_true<|And.intro @Bool.not_true<|And.intro @Bool.not_false<|And.intro @Bool.and_true<|And.intro @Bool.and_false<|And.intro @Bool.true_and<|And.intro @Bool.false_and<|And.intro @true_and<|And.intro @and_true<|And.intro @true_or<|And.intro @or_true<|And.intro @false_or<|And.intro @or_false<|And.intro @decide_true<|And.intro @decide_false<|And.intro @not_true_eq_false<|And.intro @not_false_eq_true<|And.intro @and_self<|And.intro @Nat.le_refl<|And.intro @Nat.zero_add<|And.intro @Nat.mul_one<|And.intro @Nat.zero_mul<|And.intro @Nat.zero_le<|And.intro @Nat.sub_zero @Int.zero_add
def grown(site ty z:Nat)(es:s_)(v:V)(aj:aE):Prop:=(es=[]/\v=.one (.p .nils))\/(es≠[]/\ ∃g,v=.one (.hsl site g z 0 es.length)/\aj site=(g,some (.arr ty z es)))
def bh(ty z:Nat)(es:s_):RC:=if es=[] then .p .nils else .own ty z es
theorem grown.of_eq{v:V}{aj ao:aE}(h:grown site ty z es v aj)(hb:ao site=aj site):grown site ty z es v ao:=by
 rcases h with h|⟨h1,g,h2,h3⟩
 .exact .inl h
 exact .inr ⟨h1,g,h2,by rw[hb,h3]⟩
theorem grown.nil{aj:aE}:grown site ty z [] (.one (.p .nils)) aj:=.inl ⟨rfl,rfl⟩
theorem grown.kJ{v:V}{aj:aE}(h:grown site ty z es v aj):∃c o,v=.one c/\kJ aj c=some (bh ty z es,o,[])/\(o=[]\/o=[site]):=by
 rcases h with ⟨h1,h2⟩|⟨h1,g,h2,h3⟩
 .exact⟨.p .nils,[],h2,by simp[Go.Abs.kJ,bh,h1],.inl rfl⟩
 refine⟨_,[site],h2,?_,.inr rfl⟩;simp only[Go.Abs.kJ,h3,and_self,cD,if_true,lR,bh,aC h1]
theorem AT{v:V}{aj:aE}(h:grown site ty z es v aj):j6 aj v=some (.one (bh ty z es)):=by
 obtain⟨c,o,rfl,h2,h3⟩:=h.kJ;rcases h3 with rfl|rfl
 .simp[j6,uH,pO,nU,h2,apart,xn,uk]
 simp[j6,uH,pO,nU,h2,apart,xn,uk]
theorem TJ{s1 t1 z1 s2 t2 z2:Nat}{fs:s_}{v w:V}{aj:aE}(hs:s1≠s2)(h:grown s1 t1 z1 es v aj)(h':grown s2 t2 z2 fs w aj):j6 aj (.tup [v,w])=some (.tup [.one (bh t1 z1 es),.one (bh t2 z2 fs)]):=by obtain⟨c,o,rfl,h2,h3⟩:=h.kJ;obtain⟨d,q,rfl,k2,k3⟩:=h'.kJ;rcases h3 with rfl|rfl<;>rcases k3 with rfl|rfl<;>simp[j6,uH,wD,pO,nU,h2,k2,apart,xn,uk,CF,hs]
theorem grown.elems{v:V}{aj:aE}(h:grown site ty z es v aj):∃r,gb aj v=some (es,r,[])/\(r=[]\/r=[site]):=by
 rcases h with ⟨h1,h2⟩|⟨h1,g,h2,h3⟩
 .exact⟨[],by rw[h2,h1];rfl,.inl rfl⟩
 refine⟨[site],?_,.inr rfl⟩;rw[h2];simp[gb,h3]
theorem grown.ny{v:V}{aj:aE}(h:grown site ty z es v aj):es=[]\/ny v=some z:=by
 rcases h with ⟨h1,h2⟩|⟨h1,g,h2,h3⟩
 .exact .inl h1
 exact .inr (by rw[h2];rfl)
theorem grown.aw{v:V}{aj:aE}(h:grown site ty z es v aj):Go.Abs.ny v=some z\/aw z es=true:=by
 rcases h.ny with h|h
 .exact .inr (by rw[h];rfl)
 exact .inl h
theorem grown.len{v:V}{aj:aE}(h:grown site ty z es v aj):zN v=some es.length:=by
 rcases h with ⟨h1,h2⟩|⟨h1,g,h2,h3⟩
 .rw[h1,h2];rfl
 rw[h2];rfl
theorem grown.snap{v:V}{aj:aE}(h:grown site ty z es v aj):∃r,oX aj v=some (.one (.p (.sl es)),r)/\(r=[]\/r=[site]):=by
 rcases h with ⟨h1,h2⟩|⟨h1,g,h2,h3⟩
 .exact⟨[],by rw[h2,h1];rfl,.inl rfl⟩
 refine⟨[site],?_,.inr rfl⟩;rw[h2];simp[oX,gZ,Go.Abs.snap,h3]
theorem grown.ZH{c:C}{aj:aE}(h:grown site ty z es (.one c) aj){n:Nat}:∃r,Go.Abs.snap aj (n+1) c=some (.sl es,r)/\(r=[]\/r=[site]):=by
 rcases h with ⟨h1,h2⟩|⟨h1,g,h2,h3⟩
 .cases h2;exact⟨[],by rw[h1];rfl,.inl rfl⟩
 refine⟨[site],?_,.inr rfl⟩;cases h2;simp[Go.Abs.snap,h3]
section
variable {S:Sys} {al:Al} {Q:eK} {ak:Env} {aj:aE} {os all:g_} {tr:i_} {d:w_}
theorem UL{id bytes:Nat}{xs:s_}{v x:V}{rd:a_}(hg:grown id ty z es v aj)(hx:gb aj x=some (xs,rd,[]))(hz:ny x=some z\/aw z xs=true)(hr:(es.length+xs.length)*bytes<=140737488355328):
  ∃v' u r,au aj site ty z bytes v x=.done v' u r/\grown site ty z (es++xs) v' (app u aj)/\(∀i,i≠site->i≠id->app u aj i=aj i)/\(r=rd/\u.map (·.1)=[]\/r=site::rd/\u.map (·.1)=[site]\/r=site::id::rd/\u.map (·.1)=[id,site]):=by
 have rK:¬¬(ny x=some z\/aw z xs=true):=fun h=>h hz;rcases hg with ⟨rfl,rfl⟩|⟨aK,g,rfl,hC⟩
 .by_cases h0:xs=[]
  .subst h0;refine⟨.one (.p .nils),[],rd,?_,.inl ⟨rfl,rfl⟩,fun i _ _=>rfl,.inl ⟨rfl,rfl⟩⟩;simp[au,hx,rK,tY,vp]
  have hl:¬xs.length=0:=by simpa using h0
  have mL:xs.length*bytes<=room:=by simpa [room] using hr
  refine⟨.one (.hsl site ((aj site).1+1) z 0 xs.length),[(site,((aj site).1+1,some (.arr ty z xs)))],site::rd,?_,.inr ⟨by simpa using h0,(aj site).1+1,af,?_⟩,fun i h1 _=>?_,.inr (.inl ⟨rfl,rfl⟩)⟩
  .simp only[au,hx,aC rK,tY,vp,aC hl,aG mL];simp
  .simp[app,aU]
  simp[app,aU,h1]
 have mL:(es.length+xs.length)*bytes<=room:=by simpa [room] using hr
 refine⟨.one (.hsl site ((aj site).1+1) z 0 (es.length+xs.length)),[(id,(g,none)),(site,((aj site).1+1,some (.arr ty z (es++xs))))],site::id::rd,?_,.inr ⟨by simp[aK],(aj site).1+1,af,?_⟩,fun i h1 h2=>?_,.inr (.inr ⟨rfl,rfl⟩)⟩
 .simp only[au,hx,aC rK,tY,vp,hC];simp[mL]
 .simp[app,aU]
 simp[app,aU,h1,h2]
theorem xU{id site ty z bytes:Nat}{es xs:s_}{v x:V}{rd:a_}(hg:grown id ty z es v aj)(hx:gb aj x=some (xs,rd,[]))(hz:ny x=some z\/aw z xs=true)(hr:(es.length+xs.length)*bytes<=140737488355328)
  (hK:∀(c:C) ao,grown site ty z (es++xs) (.one c) ao->(∀i,i≠site->i≠id->ao i=aj i)->RN S .all os Q (put ak d (.one c)) ao):gP S .all (au aj site ty z bytes v x) d os Q ak aj:=by
 obtain⟨v',u,r,h1,h2,h3,_⟩:=UL hg hx hz hr;obtain⟨c,o,rfl,_⟩:=h2.kJ;rw[h1,Ns];exact hK _ _ h2 h3
theorem Dn{id site ty z bytes:Nat}{es xs:s_}{v x:V}{rd:a_}(hg:grown id ty z es v aj)(hx:gb aj x=some (xs,rd,[]))(hz:ny x=some z\/aw z xs=true)(hr:(es.length+xs.length)*bytes<=140737488355328)
  (hK:∀(c:C) ao r w,grown site ty z (es++xs) (.one c) ao->(∀i,i≠site->i≠id->ao i=aj i)->(r=rd/\w=[]\/r=site::rd/\w=[site]\/r=site::id::rd/\w=[id,site])->RD S .all all os Q (put ak d (.one c)) ao (tr++[⟨r,w,[]⟩])):dP S .all (au aj site ty z bytes v x) d all os Q ak aj tr:=by
 obtain⟨v',u,r,h1,h2,h3,h4⟩:=UL hg hx hz hr;obtain⟨c,o,rfl,_⟩:=h2.kJ;rw[h1,MC];exact hK _ _ _ _ h2 h3 h4
theorem vG{s:Nat}:grown s ty z es (.one (dY aj s (bh ty z es)).1) (app (dY aj s (bh ty z es)).2 aj)/\(∀i,i≠s->app (dY aj s (bh ty z es)).2 aj i=aj i)/\((dY aj s (bh ty z es)).2.map (·.1)=[]\/(dY aj s (bh ty z es)).2.map (·.1)=[s]):=by
 unfold bh;by_cases h:es=[]
 .rw[aG h];exact⟨.inl ⟨h,rfl⟩,fun i _=>rfl,.inl rfl⟩
 rw[aC h];exact⟨.inr ⟨h,(aj s).1+1,rfl,by simp[dY,app,aU]⟩,fun i hi=>by simp[dY,app,aU,hi],.inr rfl⟩
theorem yF(r:RV):r.iu false=r:=rfl
theorem sX{f:Nat}{vs:e_}{s ty z:Nat}{rd:a_}{es:s_}(hp:aO S f vs (.one (bh ty z es)))(fM:S.lone s=false)(pZ:rd=[]\/(RV.one (bh ty z es)).alone=true)
  (hK:∀(c:C) ao,grown s ty z es (.one c) ao->(∀i,i≠s->ao i=aj i)->RN S .all os Q (put ak d (.one c)) ao):gP S .all (.pc f vs rd s) d os Q ak aj:=by
 obtain⟨h1,h2,_⟩:=vG (aj:=aj) (s:=s) (ty:=ty) (z:=z) (es:=es);refine(aY (v:=.one (dY aj s (bh ty z es)).1) (u:=(dY aj s (bh ty z es)).2) hp ?_).2 (hK _ _ h1 h2);rw[fM,yF];unfold land;rw[aG pZ];simp[jY,iY,jh,jF,tF,nW]
theorem adl{f:Nat}{vs:e_}{s t1 z1 t2 z2:Nat}{es fs:s_}(hp:aO S f vs (.tup [.one (bh t1 z1 es),.one (bh t2 z2 fs)]))(fM:S.lone s=false)
  (hK:∀(c e:C) ao,grown s t1 z1 es (.one c) ao->grown (s+1) t2 z2 fs (.one e) ao->(∀i,i≠s->i≠s+1->ao i=aj i)->RN S .all os Q (put ak d (.tup [.one c,.one e])) ao):gP S .all (.pc f vs [] s) d os Q ak aj:=by
 obtain⟨h1,h2,_⟩:=vG (aj:=aj) (s:=s) (ty:=t1) (z:=z1) (es:=es);have e0:∀(b b':aE) (k:Nat) (r:RC),b' k=b k->dY b k r=dY b' k r:=by
  intro b b' k r h;cases r with
  |p v=>rfl
  |own ty sz es=>simp only[dY,h]
 have e2:dY aj (s+1) (bh t2 z2 fs)=dY (app (dY aj s (bh t1 z1 es)).2 aj) (s+1) (bh t2 z2 fs):=e0 _ _ _ _ (h2 (s+1) aa);obtain⟨k1,k2,_⟩:=vG (aj:=app (dY aj s (bh t1 z1 es)).2 aj) (s:=s+1) (ty:=t2) (z:=z2) (es:=fs);rw[<- e2] at k1 k2;have Xy:∀(a b:k_) (c:aE),app (a++b) c=app b (app a c):=by
  intro a
  induction a with
  |nil=>intro b c;rfl
  |cons x a ih=>intro b c;exact ih b _
 refine(aY (v:=.tup [.one (dY aj s (bh t1 z1 es)).1,.one (dY aj (s+1) (bh t2 z2 fs)).1]) (u:=(dY aj s (bh t1 z1 es)).2++(dY aj (s+1) (bh t2 z2 fs)).2) hp ?_).2 (hK _ _ _ ?_ ?_ ?_)
 .rw[fM,yF];unfold land;rw[aG (.inl rfl)];simp[jY,iY,pN,jh,jF,tF,um,nW]
 .rw[Xy];exact h1.of_eq (k2 s aa)
 .rw[Xy];exact k1
 intro i a b;rw[Xy,k2 i b,h2 i a]
end
theorem tP(h:(es.all fun e=>e.all PV.scalar)=true):(RV.one (bh ty z es)).alone=true:=by
 unfold bh;split
 .rfl
 simp[RV.alone,iY,jh,RC.alone,h]
theorem grown.gZ{c:C}{aj:aE}(h:grown site ty z es (.one c) aj):∃r,Go.Abs.snap aj Go.Abs.gZ c=some (.sl es,r)/\(r=[]\/r=[site]):=h.ZH
def pG(aj:aE)(r:a_):Prop:=∀i∈r,∃g ty z es,aj i=(g,some (.arr ty z es))
theorem pG.nil{aj:aE}:pG aj []:=fun _ h=>by simp at h
theorem pG.app{aj:aE}{a b:a_}(h:pG aj a)(k:pG aj b):pG aj (a++b):=fun i hi=>by
 rcases eX.1 hi with hi|hi
 .exact h i hi
 exact k i hi
theorem grown.Vh{c:C}{aj:aE}(h:grown site ty z es (.one c) aj):∃r,Go.Abs.snap aj Go.Abs.gZ c=some (.sl es,r)/\pG aj r/\(r=[]\/r=[site]):=by
 rcases h with ⟨h1,h2⟩|⟨h1,g,h2,h3⟩
 .cases h2;exact⟨[],by rw[h1];rfl,pG.nil,.inl rfl⟩
 refine⟨[site],?_,fun i hi=>?_,.inr rfl⟩
 .cases h2;simp[Go.Abs.snap,Go.Abs.gZ,h3]
 rw[lQ] at hi;subst hi;exact⟨_,_,_,_,h3⟩
theorem Xn{aj:aE}(all:a_):∀r:a_,pG aj r->∃fu,vp aj all r=some fu/\fu.map (·.1)=r:=by
 intro r
 induction r with
 |nil=>intro _;exact⟨[],rfl,rfl⟩
 |cons i r ih=>intro h;obtain⟨g,ty,z,es,hi⟩:=h i af;obtain⟨fu,h1,h2⟩:=ih fun j hj=>h j (by simp[hj]);refine⟨(i,(g,some (.qF ty z es)))::fu,?_,by simp[h2]⟩;simp[vp,y8,hi,h1]
theorem GC:∀(u:k_) (b:aE) (i:Nat),i∉u.map (·.1)->app u b i=b i:=by
 intro u
 induction u with
 |nil=>intro b i _;rfl
 |cons x u ih=>intro b i h;simp only[eD,ch,not_or] at h;show app u (eH b x.1 x.2) i=b i;rw[ih _ _ h.2,aU,aC h.1]
theorem As:∀(a b:k_) (c:aE),app (a++b) c=app b (app a c):=by
 intro a
 induction a with
 |nil=>intro b c;rfl
 |cons x a ih=>intro b c;exact ih b _
section
variable {S:Sys} {al:Al} {Q:eK} {ak:Env} {aj:aE} {os all:g_} {tr:i_} {d:w_}
theorem am9{id site ty z bytes:Nat}{es xs:s_}{v x:V}{rd fr:a_}(hg:grown id ty z es v aj)(hx:gb aj x=some (xs,rd,fr))(pS:pG aj fr)(hni:id∉fr)(DS:site∉fr)(hz:ny x=some z\/aw z xs=true)(hr:(es.length+xs.length)*bytes<=140737488355328)
  (hK:∀(c:C) ao,grown site ty z (es++xs) (.one c) ao->(∀i,i≠site->i≠id->i∉fr->ao i=aj i)->RN S .all os Q (put ak d (.one c)) ao):gP S .all (au aj site ty z bytes v x) d os Q ak aj:=by
 have rK:¬¬(ny x=some z\/aw z xs=true):=fun h=>h hz;obtain⟨fu,vv,zu⟩:=Xn fr fr pS;have Hs:tY aj fr=some fu:=vv;rcases hg with ⟨rfl,rfl⟩|⟨aK,g,rfl,hC⟩
 .by_cases h0:xs=[]
  .subst h0;have:au aj site ty z bytes (.one (.p .nils)) x=.done (.one (.p .nils)) fu (rd++fr):=by simp[au,hx,rK,Hs]
   rw[this,Ns];exact hK _ _ (.inl ⟨rfl,rfl⟩) fun i _ _ h3=>GC _ _ _ (by rw[zu];exact h3)
  have hl:¬xs.length=0:=by simpa using h0
  have mL:xs.length*bytes<=room:=by simpa [room] using hr
  have:au aj site ty z bytes (.one (.p .nils)) x=.done (.one (.hsl site ((aj site).1+1) z 0 xs.length)) (fu++[(site,((aj site).1+1,some (.arr ty z xs)))]) (site::rd++fr):=by simp only[au,hx,aC rK,Hs,aC hl,aG mL]
  rw[this,Ns];refine hK _ _ (.inr ⟨by simpa using h0,(aj site).1+1,af,?_⟩) fun i h1 _ h3=>?_
  .rw[As];simp[app,aU]
  rw[As];have:=GC fu aj i (by rw[zu];exact h3);simp[app,aU,h1,this]
 have mL:(es.length+xs.length)*bytes<=room:=by simpa [room] using hr
 have Oq:fr.contains id=false:=by simpa using hni
 have:au aj site ty z bytes (.one (.hsl id g z 0 es.length)) x=.done (.one (.hsl site ((aj site).1+1) z 0 (es.length+xs.length))) (fu++[(id,(g,none)),(site,((aj site).1+1,some (.arr ty z (es++xs))))]) (site::id::rd++fr):=by simp only[au,hx,aC rK,Hs,hC,Oq];simp[mL]
 rw[this,Ns];refine hK _ _ (.inr ⟨by simp[aK],(aj site).1+1,af,?_⟩) fun i h1 h2 h3=>?_
 .rw[As];simp[app,aU]
 rw[As];have:=GC fu aj i (by rw[zu];exact h3);simp[app,aU,h1,h2,this]
end
section
variable {S:Sys} {al:Al} {Q:eK} {ak:Env} {aj:aE} {os all:g_} {tr:i_} {d:w_}
theorem Eg{l:a_}(h:∀i∈l,al.ok i=true):al.fT l=true:=gj.2 h
theorem TG{id site ty z bytes:Nat}{es xs:s_}{v x:V}{rd:a_}(ay:∀i∈site::id::rd,al.ok i=true)(hg:grown id ty z es v aj)(hx:gb aj x=some (xs,rd,[]))(hz:ny x=some z\/aw z xs=true)(hr:(es.length+xs.length)*bytes<=140737488355328)
  (hK:∀(c:C) ao,grown site ty z (es++xs) (.one c) ao->(∀i,i≠site->i≠id->ao i=aj i)->RN S al os Q (put ak d (.one c)) ao):gP S al (au aj site ty z bytes v x) d os Q ak aj:=by
 obtain⟨v',u,r,h1,h2,h3,h4⟩:=UL hg hx hz hr;obtain⟨c,o,rfl,_⟩:=h2.kJ;rw[h1,adi];refine⟨?_,hK _ _ h2 h3⟩;rcases h4 with ⟨rfl,h5⟩|⟨rfl,h5⟩|⟨rfl,h5⟩<;>rw[h5]<;>refine Eg fun i hi=>ay i ?_ <;>simp at hi |-
 .exact .inr (.inr hi)
 .rcases hi with h|h|h<;>simp[h]
 rcases hi with h|h|h|h|h<;>simp[h]
theorem GQ{id site ty z bytes:Nat}{es xs:s_}{v x:V}{rd:a_}(ay:∀i∈site::id::rd,al.ok i=true)(hg:grown id ty z es v aj)(hx:gb aj x=some (xs,rd,[]))(hz:ny x=some z\/aw z xs=true)(hr:(es.length+xs.length)*bytes<=140737488355328)
  (hK:∀(c:C) ao r w,grown site ty z (es++xs) (.one c) ao->(∀i,i≠site->i≠id->ao i=aj i)->(r=rd/\w=[]\/r=site::rd/\w=[site]\/r=site::id::rd/\w=[id,site])->RD S al all os Q (put ak d (.one c)) ao (tr++[⟨r,w,[]⟩])):dP S al (au aj site ty z bytes v x) d all os Q ak aj tr:=by
 obtain⟨v',u,r,h1,h2,h3,h4⟩:=UL hg hx hz hr;obtain⟨c,o,rfl,_⟩:=h2.kJ;rw[h1,abV];refine⟨?_,hK _ _ _ _ h2 h3 h4⟩;rcases h4 with ⟨rfl,h5⟩|⟨rfl,h5⟩|⟨rfl,h5⟩<;>rw[h5]<;>refine Eg fun i hi=>ay i ?_ <;>simp at hi |-
 .exact .inr (.inr hi)
 .rcases hi with h|h|h<;>simp[h]
 rcases hi with h|h|h|h|h<;>simp[h]
theorem alz{site ty z bytes:Nat}{xs:s_}{x:V}{rd:a_}(ay:∀i∈site::rd,al.ok i=true)(hx:gb aj x=some (xs,rd,[]))(aK:xs≠[])(hz:ny x=some z\/aw z xs=true)(hr:xs.length*bytes<=140737488355328)
  (hK:∀(c:C) ao r w,grown site ty z xs (.one c) ao->(∀i,i≠site->i≠site->ao i=aj i)->(r=rd/\w=[]\/r=site::rd/\w=[site]\/r=site::site::rd/\w=[site,site])->RD S al all os Q (put ak d (.one c)) ao (tr++[⟨r,w,[]⟩])):dP S al (au aj site ty z bytes (.one (.p .zs)) x) d all os Q ak aj tr:=by
 have hn:xs.length≠0:=fun h=>aK (Gj.1 h);have e:au aj site ty z bytes (.one (.p .zs)) x=au aj site ty z bytes (.one (.p .nils)) x:=by simp only[au,hx,hn,if_false]
 rw[e];exact GQ (id:=site) (es:=[]) (fun i hi=>ay i (by simpa using hi)) grown.nil hx hz (by simpa using hr) hK
theorem anb{f:Nat}{vs:e_}{s t1 z1 t2 z2:Nat}{rd:a_}{es fs:s_}(ay:∀i∈s::(s+1)::rd,al.ok i=true)(hp:aO S f vs (.tup [.one (bh t1 z1 es),.one (bh t2 z2 fs)]))(fM:S.lone s=false)
  (kG:(es.all fun e=>e.all PV.scalar)=true) (fR:(fs.all fun e=>e.all PV.scalar)=true)
  (hK:∀(c e:C) ao,grown s t1 z1 es (.one c) ao->grown (s+1) t2 z2 fs (.one e) ao->(∀i,i≠s->i≠s+1->ao i=aj i)->RN S al os Q (put ak d (.tup [.one c,.one e])) ao):gP S al (.pc f vs rd s) d os Q ak aj:=by
 have iC:(RV.tup [.one (bh t1 z1 es),.one (bh t2 z2 fs)]).alone=true:=by have a:=tP (ty:=t1) (z:=z1) kG;have b:=tP (ty:=t2) (z:=z2) fR;simp only[RV.alone,iY,jh,oY,sH,Bs] at a b;simp[RV.alone,iY,pN,jh,a,b]
 obtain⟨h1,h2,h2u⟩:=vG (aj:=aj) (s:=s) (ty:=t1) (z:=z1) (es:=es);have e0:∀(b b':aE) (k:Nat) (r:RC),b' k=b k->dY b k r=dY b' k r:=by
  intro b b' k r h;cases r with
  |p v=>rfl
  |own ty sz es=>simp only[dY,h]
 have e2:dY aj (s+1) (bh t2 z2 fs)=dY (app (dY aj s (bh t1 z1 es)).2 aj) (s+1) (bh t2 z2 fs):=e0 _ _ _ _ (h2 (s+1) aa);obtain⟨k1,k2,k2u⟩:=vG (aj:=app (dY aj s (bh t1 z1 es)).2 aj) (s:=s+1) (ty:=t2) (z:=z2) (es:=fs);rw[<- e2] at k1 k2 k2u;refine⟨_,hp,?_⟩;rw[fM,yF];have hl:land aj rd s (RV.tup [.one (bh t1 z1 es),.one (bh t2 z2 fs)])=some (.tup [.one (dY aj s (bh t1 z1 es)).1,.one (dY aj (s+1) (bh t2 z2 fs)).1],(dY aj s (bh t1 z1 es)).2++(dY aj (s+1) (bh t2 z2 fs)).2):=by unfold land;rw[aG (.inr iC)];simp[jY,iY,pN,jh,jF,tF,um,nW]
 rw[hl];refine⟨Eg fun i hi=>ay i ?_,hK _ _ _ ?_ ?_ ?_⟩
 .simp only[ki,eX] at hi;rcases hi with hi|hi|hi
  .simp[hi]
  .rcases h2u with h|h<;>rw[h] at hi<;>simp at hi<;>simp[hi]
  rcases k2u with h|h<;>rw[h] at hi<;>simp at hi<;>simp[hi]
 .rw[As];exact h1.of_eq (k2 s aa)
 .rw[As];exact k1
 intro i a b;rw[As,k2 i b,h2 i a]
end
theorem bn{b:aE}{a i:Nat}{x:Nat×Option Ob}(h:i≠a):eH b a x i=b i:=by rw[aU,aC h]
theorem Bp{b:aE}{a:Nat}{x:Nat×Option Ob}:eH b a x a=x:=by rw[aU,aG rfl]
theorem Uv{a i:Nat}{l:a_}(h:i∉l)(ha:a∈l):i≠a:=fun e=>h (e▸ha)
section
variable {S:Sys} {al:Al} {Q:eK} {ak:Env} {aj:aE} {os all:g_} {tr:i_} {d:w_}
theorem adj{f:Nat}{vs:e_}{s ty z:Nat}{es:s_}{x:PV}(hp:aO S f vs (.tup [.one (bh ty z es),.one (.p x)]))(fM:S.lone s=false)
  (hK:∀(c:C) ao,grown s ty z es (.one c) ao->(∀i,i≠s->ao i=aj i)->RN S .all os Q (put ak d (.tup [.one c,.one (.p x)])) ao):gP S .all (.pc f vs [] s) d os Q ak aj:=by
 obtain⟨h1,h2,_⟩:=vG (aj:=aj) (s:=s) (ty:=ty) (z:=z) (es:=es);refine(aY (v:=.tup [.one (dY aj s (bh ty z es)).1,.one (.p x)]) (u:=(dY aj s (bh ty z es)).2) hp ?_).2 (hK _ _ h1 h2);rw[fM,yF];unfold land;rw[aG (.inl rfl)];simp[jY,iY,pN,jh,jF,tF,um,nW,dY]
theorem alA{f:Nat}{vs:e_}{s ty z:Nat}{rd:a_}{es:s_}(hp:aO S f vs (.one (bh ty z es)))(fM:S.lone s=false)(pZ:rd=[]\/(RV.one (bh ty z es)).alone=true)
  (hK:∀(c:C) ao w,grown s ty z es (.one c) ao->(∀i,i≠s->ao i=aj i)->(w=[]\/w=[s])->RD S .all all os Q (put ak d (.one c)) ao (tr++[⟨rd++w,w,[]⟩])):dP S .all (.pc f vs rd s) d all os Q ak aj tr:=by
 obtain⟨h1,h2,h3⟩:=vG (aj:=aj) (s:=s) (ty:=ty) (z:=z) (es:=es);refine(GR (v:=.one (dY aj s (bh ty z es)).1) (u:=(dY aj s (bh ty z es)).2) hp ?_).2 (hK _ _ _ h1 h2 h3);rw[fM,yF];unfold land;rw[aG pZ];simp[jY,iY,jh,jF,tF,nW]
theorem alE{f:Nat}{vs:e_}{s ty z:Nat}{es:s_}{x:PV}(hp:aO S f vs (.tup [.one (bh ty z es),.one (.p x)]))(fM:S.lone s=false)
  (hK:∀(c:C) ao w,grown s ty z es (.one c) ao->(∀i,i≠s->ao i=aj i)->(w=[]\/w=[s])->RD S .all all os Q (put ak d (.tup [.one c,.one (.p x)])) ao (tr++[⟨[]++w,w,[]⟩])):dP S .all (.pc f vs [] s) d all os Q ak aj tr:=by
 obtain⟨h1,h2,h3⟩:=vG (aj:=aj) (s:=s) (ty:=ty) (z:=z) (es:=es);refine(GR (v:=.tup [.one (dY aj s (bh ty z es)).1,.one (.p x)]) (u:=(dY aj s (bh ty z es)).2) hp ?_).2 (hK _ _ _ h1 h2 h3);rw[fM,yF];unfold land;rw[aG (.inl rfl)];simp[jY,iY,pN,jh,jF,tF,um,nW,dY]
theorem ane{f:Nat}{vs:e_}{s ty z:Nat}{rd:a_}{es:s_}{x:PV}(hp:aO S f vs (.agg [.p x,bh ty z es]))(fM:S.lone s=false)(hx:x.scalar=true)(hs:(es.all fun e=>e.all PV.scalar)=true)
  (hK:∀(c:C) ao,grown (s+1) ty z es (.one c) ao->(∀i,i≠s+1->ao i=aj i)->RN S .all os Q (put ak d (.agg [.p x,c])) ao):gP S .all (.pc f vs rd s) d os Q ak aj:=by
 obtain⟨h1,h2,_⟩:=vG (aj:=aj) (s:=s+1) (ty:=ty) (z:=z) (es:=es);have iC:(RV.agg [.p x,bh ty z es]).alone=true:=by have a:=tP (ty:=ty) (z:=z) hs;simp only[RV.alone,iY,jh,oY,sH,Bs] at a;simp only[RV.alone,iY,jh,oY,sH,Bs,a];exact hx
 refine(aY (v:=.agg [.p x,(dY aj (s+1) (bh ty z es)).1]) (u:=(dY aj (s+1) (bh ty z es)).2) hp ?_).2 (hK _ _ h1 h2);rw[fM,yF];unfold land;rw[aG (.inr iC)];simp[jY,iY,jh,jF,tF,nW,dY]
theorem adm{f:Nat}{vs:e_}{s ty z:Nat}{es:s_}{x y:PV}(hp:aO S f vs (.tup [.agg [.p x,bh ty z es],.one (.p y)]))(fM:S.lone s=false)
  (hK:∀(c:C) ao,grown (s+1) ty z es (.one c) ao->(∀i,i≠s+1->ao i=aj i)->RN S .all os Q (put ak d (.tup [.agg [.p x,c],.one (.p y)])) ao):gP S .all (.pc f vs [] s) d os Q ak aj:=by
 obtain⟨h1,h2,_⟩:=vG (aj:=aj) (s:=s+1) (ty:=ty) (z:=z) (es:=es);refine(aY (v:=.tup [.agg [.p x,(dY aj (s+1) (bh ty z es)).1],.one (.p y)]) (u:=(dY aj (s+1) (bh ty z es)).2) hp ?_).2 (hK _ _ h1 h2);rw[fM,yF];unfold land;rw[aG (.inl rfl)];simp[jY,iY,pN,jh,jF,tF,um,nW,dY]
theorem adn{f:Nat}{vs:e_}{s ty z:Nat}{rd:a_}{es:s_}{x y:PV}(hp:aO S f vs (.tup [.agg [.p x,bh ty z es],.one (.p y)]))(fM:S.lone s=false)(hx:x.scalar=true)(hy:y.scalar=true)(hs:(es.all fun e=>e.all PV.scalar)=true)
  (hK:∀(c:C) ao,grown (s+1) ty z es (.one c) ao->(∀i,i≠s+1->ao i=aj i)->RN S .all os Q (put ak d (.tup [.agg [.p x,c],.one (.p y)])) ao):gP S .all (.pc f vs rd s) d os Q ak aj:=by
 obtain⟨h1,h2,_⟩:=vG (aj:=aj) (s:=s+1) (ty:=ty) (z:=z) (es:=es);have iC:(RV.tup [.agg [.p x,bh ty z es],.one (.p y)]).alone=true:=by have a:=tP (ty:=ty) (z:=z) hs;simp only[RV.alone,iY,jh,oY,sH,Bs] at a;simp only[RV.alone,iY,pN,jh,nY,gR,jJ,oY,sH,Bs,a,CQ];show(x.scalar&&y.scalar)=true;rw[hx,hy];rfl
 refine(aY (v:=.tup [.agg [.p x,(dY aj (s+1) (bh ty z es)).1],.one (.p y)]) (u:=(dY aj (s+1) (bh ty z es)).2) hp ?_).2 (hK _ _ h1 h2);rw[fM,yF];unfold land;rw[aG (.inr iC)];simp[jY,iY,pN,jh,jF,tF,um,nW,dY]
end
theorem adz{s1 t1 z1:Nat}{c:C}{y:PV}{aj:aE}(h:grown s1 t1 z1 es (.one c) aj):j6 aj (.tup [.agg [.p x,c],.one (.p y)])=some (.tup [.agg [.p x,bh t1 z1 es],.one (.p y)]):=by obtain⟨c',o,hc,h2,h3⟩:=h.kJ;cases hc;have e1:kJ aj (.p x)=some (.p x,[],[]):=rfl;have e2:kJ aj (.p y)=some (.p y,[],[]):=rfl;rcases h3 with rfl|rfl<;>simp[j6,uH,wD,pO,nU,h2,e1,e2,apart,xn,uk,CF]
section
variable {S:Sys} {al:Al} {Q:eK} {ak:Env} {aj:aE} {os all:g_} {tr:i_} {d:w_} {op:oz} {w:Option Bool} {a b:aR} {v:V}
theorem ji(L:a_)(h:∀e:Env,(∀k∈L,e k=ak k)->gW S al w d op os Q e aj):gW S al w d op os Q ak aj:=h ak fun _ _=>rfl
theorem wy(L:a_)(h:∀e:Env,(∀k∈L,e k=ak k)->dW S al w d op all os Q e aj tr):dW S al w d op all os Q ak aj tr:=h ak fun _ _=>rfl
theorem abb(L:a_)(h:∀e:Env,(∀k∈L,e k=ak k)->cW S al v a b Q e aj):cW S al v a b Q ak aj:=h ak fun _ _=>rfl
end
section
variable {S:Sys} {al:Al} {Q:eK} {ak:Env} {aj:aE} {os all:g_} {tr:i_} {d:w_}
theorem aly{id site ty z bytes:Nat}{es xs:s_}{v x:V}{rd fr:a_}(hg:grown id ty z es v aj)(hx:gb aj x=some (xs,rd,fr))(pS:pG aj fr)(hni:id∉fr)(DS:site∉fr)(hz:ny x=some z\/aw z xs=true)(hr:(es.length+xs.length)*bytes<=140737488355328)
  (hK:∀(c:C) ao r w,grown site ty z (es++xs) (.one c) ao->(∀i,i≠site->i≠id->i∉fr->ao i=aj i)->(r=rd++fr/\w=fr\/r=site::rd++fr/\w=fr++[site]\/r=site::id::rd++fr/\w=fr++[id,site])->RD S .all all os Q (put ak d (.one c)) ao (tr++[⟨r,w,[]⟩])):dP S .all (au aj site ty z bytes v x) d all os Q ak aj tr:=by
 have rK:¬¬(ny x=some z\/aw z xs=true):=fun h=>h hz;obtain⟨fu,vv,zu⟩:=Xn fr fr pS;have Hs:tY aj fr=some fu:=vv;rcases hg with ⟨rfl,rfl⟩|⟨aK,g,rfl,hC⟩
 .by_cases h0:xs=[]
  .subst h0;have:au aj site ty z bytes (.one (.p .nils)) x=.done (.one (.p .nils)) fu (rd++fr):=by simp[au,hx,rK,Hs]
   rw[this,MC];exact hK _ _ _ _ (.inl ⟨rfl,rfl⟩) (fun i _ _ h3=>GC _ _ _ (by rw[zu];exact h3)) (.inl ⟨rfl,zu⟩)
  have hl:¬xs.length=0:=by simpa using h0
  have mL:xs.length*bytes<=room:=by simpa [room] using hr
  have:au aj site ty z bytes (.one (.p .nils)) x=.done (.one (.hsl site ((aj site).1+1) z 0 xs.length)) (fu++[(site,((aj site).1+1,some (.arr ty z xs)))]) (site::rd++fr):=by simp only[au,hx,aC rK,Hs,aC hl,aG mL]
  rw[this,MC];refine hK _ _ _ _ (.inr ⟨by simpa using h0,(aj site).1+1,af,?_⟩) (fun i h1 _ h3=>?_) (.inr (.inl ⟨rfl,by simp[zu]⟩))
  .rw[As];simp[app,aU]
  rw[As];have:=GC fu aj i (by rw[zu];exact h3);simp[app,aU,h1,this]
 have mL:(es.length+xs.length)*bytes<=room:=by simpa [room] using hr
 have Oq:fr.contains id=false:=by simpa using hni
 have:au aj site ty z bytes (.one (.hsl id g z 0 es.length)) x=.done (.one (.hsl site ((aj site).1+1) z 0 (es.length+xs.length))) (fu++[(id,(g,none)),(site,((aj site).1+1,some (.arr ty z (es++xs))))]) (site::id::rd++fr):=by simp only[au,hx,aC rK,Hs,hC,Oq];simp[mL]
 rw[this,MC];refine hK _ _ _ _ (.inr ⟨by simp[aK],(aj site).1+1,af,?_⟩) (fun i h1 h2 h3=>?_) (.inr (.inr ⟨rfl,by simp[zu]⟩))
 .rw[As];simp[app,aU]
 rw[As];have:=GC fu aj i (by rw[zu];exact h3);simp[app,aU,h1,h2,this]
theorem adk{f:Nat}{vs:e_}{s ty z:Nat}{rd:a_}{es:s_}{x:PV}(hp:aO S f vs (.tup [.one (bh ty z es),.one (.p x)]))(fM:S.lone s=false)(hs:(es.all fun e=>e.all PV.scalar)=true)(hx:x.scalar=true)
  (hK:∀(c:C) ao,grown s ty z es (.one c) ao->(∀i,i≠s->ao i=aj i)->RN S .all os Q (put ak d (.tup [.one c,.one (.p x)])) ao):gP S .all (.pc f vs rd s) d os Q ak aj:=by
 obtain⟨h1,h2,_⟩:=vG (aj:=aj) (s:=s) (ty:=ty) (z:=z) (es:=es);have iC:(RV.tup [.one (bh ty z es),.one (.p x)]).alone=true:=by have a:=tP (ty:=ty) (z:=z) hs;simp only[RV.alone,iY,jh,oY,sH,Bs] at a;simp only[RV.alone,iY,pN,jh,nY,gR,jJ,oY,sH,Bs,a,CQ];exact hx
 refine(aY (v:=.tup [.one (dY aj s (bh ty z es)).1,.one (.p x)]) (u:=(dY aj s (bh ty z es)).2) hp ?_).2 (hK _ _ h1 h2);rw[fM,yF];unfold land;rw[aG (.inr iC)];simp[jY,iY,pN,jh,jF,tF,um,nW,dY]
end
section
variable {S:Sys} {al:Al} {Q:eK} {ak:Env} {aj:aE} {os all:g_} {tr:i_} {d:w_} {op:oz} {a b:aR} {e w:Bool}
theorem Nu{rd:a_}{s:Nat}{r:RV}{v:V}{u:k_}(hp:aO S f vs r)(h:land aj rd s (r.iu (S.lone s))=some (v,u)):gP S al (.pc f vs rd s) d os Q ak aj↔al.fT (rd++u.map (·.1))=true/\RN S al os Q (put ak d v) (app u aj):=by
 constructor
 .rintro ⟨y,hy,h2⟩
  have:=hy.AL hp;subst this;rw[h] at h2;exact h2
 intro hK;refine⟨_,hp,?_⟩;rw[h];exact hK
theorem MD{rd:a_}{s:Nat}{r:RV}{v:V}{u:k_}(hp:aO S f vs r)(h:land aj rd s (r.iu (S.lone s))=some (v,u)):dP S al (.pc f vs rd s) d all os Q ak aj tr↔al.fT (rd++u.map (·.1))=true/\RD S al all os Q (put ak d v) (app u aj) (tr++[⟨rd++u.map (·.1),u.map (·.1),[]⟩]):=by
 constructor
 .rintro ⟨y,hy,h2⟩
  have:=hy.AL hp;subst this;rw[h] at h2;exact h2
 intro hK;refine⟨_,hp,?_⟩;rw[h];exact hK
theorem aft{s:Nat}(b:Bool):land aj [] s ((RV.one (.p x)).iu b)=some (.one (.p x),[]):=by cases b<;>rfl
theorem Fo{s:Nat}(h:aO S f vs (.one (.p x))):gP S al (.pc f vs [] s) d os Q ak aj↔RN S al os Q (put ak d (.one (.p x))) aj:=by rw[Nu h (aft _)];exact⟨fun h=>h.2,fun h=>⟨rfl,h⟩⟩
theorem Qp{s:Nat}(h:aO S f vs (.one (.p x))):dP S al (.pc f vs [] s) d all os Q ak aj tr↔RD S al all os Q (put ak d (.one (.p x))) aj (tr++[⟨[],[],[]⟩]):=by rw[MD h (aft _)];exact⟨fun h=>h.2,fun h=>⟨rfl,h⟩⟩
end
section
variable {S:Sys} {al:Al} {Q:eK} {ak:Env} {aj:aE} {os all:g_} {tr:i_} {d:w_} {op:oz} {w:Option Bool} {a b:aR} {v:V} {p:fP}
end
theorem grown.Lx{c:C}{aj:aE}(h:grown site ty z es (.one c) aj):∃r,(∀B:aE,B site=aj site->Go.Abs.snap B Go.Abs.gZ c=some (.sl es,r))/\(r=[]\/r=[site]):=by
 rcases h with ⟨h1,h2⟩|⟨h1,g,h2,h3⟩
 .cases h2;exact⟨[],fun B _=>by rw[h1];rfl,.inl rfl⟩
 cases h2;refine⟨[site],fun B hB=>?_,.inr rfl⟩;rw[<- hB] at h3;simp[Go.Abs.gZ,Go.Abs.snap,h3]
end
end Go.Abs
namespace Go.Abs
open Go
section
variable {S:Sys} {al:Al} {Q:eK} {os all:g_} {d:w_} {ak:Env} {aj:aE} {tr:i_}
end
theorem ady{ty z:Nat}{es:s_}(h:es≠[]):bh ty z es=.own ty z es:=aC h
end Go.Abs
namespace Go.Abs
theorem fm1{p:Nat->Prop}:(∀k∈([]:a_),p k)↔True:=by simp
theorem fm2{a:Nat}{l:a_}{p:Nat->Prop}:(∀k∈a::l,p k)↔p a/\ ∀k∈l,p k:=List.forall_mem_cons
attribute [go_sem] fm1 fm2 xe bne_self_eq_false Bool.or_true Bool.or_false Bool.true_or Bool.false_or Bool.not_not jY iY jh pN dY jF tF nW um Option.getD_some Option.getD_none Option.isSome_some Option.isSome_none
attribute [go_sem ↓] Rd
attribute [go_sem high] Ns MC
attribute [go_sem] Rt Rl Rb adi abV Ij Ii Bool.and_self Al.Gz
attribute [go_sem] bU rU uA Du HR app if_true if_false reduceIte Nat.reduceEqDiff beq_self_eq_true reduceCtorEq ge_iff_le qt Uy Bo Fl Nat.reduceAdd CB qZ Bq ft sN zN ne_eq Nat.reduceLeDiff zS AO CK CJ toP fill Nat.reduceMul Nat.reduceLT Vj Vi
attribute [go_sem] gb ny tY vp room Em sL Nat.reduceSub Int.reduceLT Int.reduceAdd Int.reduceBEq Int.reduceBNe Int.reduceLE List.contains_eq_mem xg
end Go.Abs
