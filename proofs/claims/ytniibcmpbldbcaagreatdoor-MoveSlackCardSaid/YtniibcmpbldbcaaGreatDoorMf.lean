/-
  Rules for a walk.
-/
import Derived.Test.YtniibcmpbldbcaaGreatDoorMc
import Derived.Attr
set_option linter.all false
namespace Go.Abs
section
variable{x:PV}{f site ty z:Nat}{vs:List V}{v:V}{es:List (List PV)}
theorem Xo(k:Nat):oZ (.one (.p (.int .i64 (k:Int))))=some k:=by simp[oZ]
theorem Xn(n:Nat):oZ (.one (.p (.int .i64 (no_index (@OfNat.ofNat Int n instOfNat)))))=some (@OfNat.ofNat Nat n (instOfNatNat n)):=by show oZ (.one (.p (.int .i64 (Int.ofNat n))))=some n;simp[oZ]
theorem Ql{blk:aB}{v:PV}:snap blk dO (.p v)=some (v.norm,[]):=rfl
def Rh{β:Type}(x:Option (β×List Nat))(y:Option (List β×List Nat)):Option (List β×List Nat):=match x,y with
 |some (b,x),some (bs,y)=>some (b::bs,x++y)
 |_,_=>none
theorem Yb{β:Type}{b:β}{x:List Nat}{bs:List β}{y:List Nat}:Rh (some (b,x)) (some (bs,y))=some (b::bs,x++y):=rfl
theorem X5{α β:Type}{f:α->Option (β×List Nat)}:collect f []=some ([],[]):=rfl
theorem X2{α β:Type}{f:α->Option (β×List Nat)}{a:α}{r:List α}:collect f (a::r)=Rh (f a) (collect f r):=by simp only[collect,Rh];cases f a<;>cases collect f r<;>rfl
theorem aek{blk:aB}{c:C}:nT blk (.one c)=(snap blk dO c).map fun(v,r)=>(.one (.p v),r):=rfl
theorem aej{blk:aB}{cs:List C}:nT blk (.agg cs)=(collect (snap blk dO) cs).map fun(vs,r)=>(.agg (vs.map .p),r):=rfl
theorem aes{blk:aB}{n:Nat}{v:PV}:snap blk (n+1) (.p v)=some (v.norm,[]):=rfl
def Qk(o:Nat×Option Ob)(col:List (List C)->Option (List (List PV)×List Nat))(id g off len:Nat):Option (PV×List Nat):=match o with
 |(g',some (.arr _ _ es))=>if g'=g/\off+len<=es.length then some (.sl ((es.drop off).take len),[id]) else none
 |(g',some (.pG _ _ es))=>if g'=g/\off+len<=es.length then some (.sl ((es.drop off).take len),[id]) else none
 |(g',some (.iT _ _ es))=>if g'=g/\off+len<=es.length then
   match col ((es.drop off).take len) with
   |some (ps,r)=>some (.sl ps,id::r)
   |none=>none
  else none
 |_=>none
theorem aer{blk:aB}{id g z off len:Nat}:snap blk dO (.hsl id g z off len)=Qk (blk id) (collect (collect (snap blk 5))) id g off len:=by unfold dO Qk;rw[snap];rfl
def Qj(o:Nat×Option Ob)(col:List C->Option (List PV×List Nat))(id g off:Nat):Option (PV×List Nat):=match o with
 |(g',some (.var cs))=>if g'=g then
   match col cs with
   |some (ps,r)=>some (.box (ps.drop off),id::r)
   |none=>none
  else none
 |(g',some (.fvar ps))=>if g'=g then some (.box (ps.drop off),[id]) else none
 |_=>none
theorem aeq{blk:aB}{id g off:Nat}:snap blk dO (.bt id g off)=Qj (blk id) (collect (snap blk 5)) id g off:=by unfold dO Qj;rw[snap];rfl
section
variable {S:Sys} {al:Al} {aj:Env} {blk:aB} {d:Option Nat}
theorem Jk{rd:List Nat}{s:Nat}{b:Bool}(hs:x.scalar=true):land blk rd s ((RV.one (.p x)).gV b)=some (.one (.p x),[]):=by
 have h1:(RV.one (.p x)).gV b=.one (.p x):=by cases b<;>rfl
 rw[h1];have:(RV.one (.p x)).alone=true:=by simp[RV.alone,jS,kD,RC.alone,hs]
 simp only[land,this,or_true,if_true];rfl
theorem ajQ{rd:List Nat}{s:Nat}{K:Env->aB->Prop}(h:aH S f vs (.one (.p x)))(hs:x.scalar=true):Ix S .all (.pc f vs rd s) d aj blk K↔K (put aj d (.one (.p x))) blk:=by
 constructor
 .rintro ⟨y,hy,h2⟩
  have:=hy.BT h;subst this;rw[Jk hs] at h2;exact h2.2
 intro hK;refine⟨_,h,?_⟩;rw[Jk hs];exact⟨Al.Fu _,hK⟩
theorem ajR{rd:List Nat}{s:Nat}{tr:List bX}{K:Env->aB->List bX->Prop}(h:aH S f vs (.one (.p x)))(hs:x.scalar=true):FW S .all (.pc f vs rd s) d aj blk tr K↔K (put aj d (.one (.p x))) blk (tr++[⟨rd,[],[]⟩]):=by
 constructor
 .rintro ⟨y,hy,h2⟩
  have:=hy.BT h;subst this;rw[Jk hs] at h2
  simpa [app] using h2.2
 intro hK;refine⟨_,h,?_⟩;rw[Jk hs];exact⟨Al.Fu _,by simpa [app] using hK⟩
theorem afS{ops:List ch}{Q:ef}:W S al (.region true ops) Q aj blk↔WO S al ops (fun aj blk es=>te ops [] es=true/\Q .normal aj blk) aj blk []:=by
 rw[W3];constructor
 .rintro ⟨n,e,b,es,h1,h2,h3⟩;exact⟨n,e,b,es,h1,h2 rfl,h3⟩
 rintro ⟨n,e,b,es,h1,h2,h3⟩;exact⟨n,e,b,es,h1,fun _=>h2,h3⟩
end
theorem wrap_small{n:Nat}(h:n<=9223372036854775807):IntKind.i64.wrap (n:Int)=n:=Ny h
theorem bG{n:Nat}(h:n<9223372036854775807):IntKind.i64.wrap ((n:Int)+1)=((n+1:Nat):Int):=Ny (n:=n+1) aa
section
variable {S:Sys} {al:Al} {Q:ef} {aj:Env} {blk:aB} {a b:aL} {ops os all:List ch} {tr:List bX} {d:Option Nat} {op:oR} {n:Nat}
def Bj(S:Sys)(al:Al)(b:aL)(Q:ef):ef
 | .normal,aj,blk=>W S al b Q aj blk
 | .exit i,aj,blk=>Q (.exit i) aj blk
 | .ret,aj,blk=>Q .ret aj blk
theorem aqU:Nr (W S al b Q) Q=Bj S al b Q:=by funext e aj blk;cases e<;>rfl
theorem WW:W S al (.seq a b) Q aj blk↔W S al a (Bj S al b Q) aj blk:=by rw[afY,aqU]
theorem aeW:Bj S al b Q .normal aj blk=W S al b Q aj blk:=rfl
theorem aeV{i:Nat}:Bj S al b Q (.exit i) aj blk=Q (.exit i) aj blk:=rfl
theorem aeX:Bj S al b Q .ret aj blk=Q .ret aj blk:=rfl
def cW (S:Sys)(al:Al)(v:V)(a b:aL)(Q:ef)(aj:Env)(blk:aB):Prop:=HS v (W S al a Q aj blk) (W S al b Q aj blk)
theorem WU{x:aP}:W S al (.cond x a b) Q aj blk↔cW S al (ev aj x) a b Q aj blk:=afR
theorem XG:cW S al (.one (.p (.bool true))) a b Q aj blk=W S al a Q aj blk:=by simp[cW,HS]
theorem XF:cW S al (.one (.p (.bool false))) a b Q aj blk=W S al b Q aj blk:=by simp[cW,HS]
def RN (S:Sys)(al:Al)(ops:List ch)(Q:ef)(aj:Env)(blk:aB):Prop:=WN S al ops (fun aj blk=>Q .normal aj blk) aj blk
def gP (S:Sys)(al:Al)(p:ft)(d:Option Nat)(os:List ch)(Q:ef)(aj:Env)(blk:aB):Prop:=Ix S al p d aj blk (WN S al os fun aj blk=>Q .normal aj blk)
def gW (S:Sys)(al:Al)(w:Option Bool)(d:Option Nat)(op:oR)(os:List ch)(Q:ef)(aj:Env)(blk:aB):Prop:=OI S al w ⟨d,op,none,0⟩ aj blk (WN S al os fun aj blk=>Q .normal aj blk)
theorem WX:W S al (.region false ops) Q aj blk↔RN S al ops Q aj blk:=afZ
theorem WS:RN S al [] Q aj blk↔Q .normal aj blk:=afL
theorem WT:RN S al (⟨d,op,none,n⟩::os) Q aj blk↔gP S al (bj S.shared aj blk op) d os Q aj blk:=W0
theorem WR{t:Nat}{w:Bool}:RN S al (⟨d,op,some (t,w),n⟩::os) Q aj blk↔gW S al (Fi (aj t) w) d op os Q aj blk:=by
 unfold RN gW;rw[W0];have:wanted aj (some (t,w))=Fi (aj t) w:=rfl;simp only[this];cases Fi (aj t) w with
 |none=>rfl
 |some x=>cases x<;>rfl
theorem aaB:gW S al (some true) d op os Q aj blk↔gP S al (bj S.shared aj blk op) d os Q aj blk:=Iff.rfl
theorem aaA:gW S al (some false) d op os Q aj blk↔RN S al os Q (put aj d .undef) blk:=Iff.rfl
theorem FT{u:List eO}{r:List Nat}:gP S .all (.done v u r) d os Q aj blk↔RN S .all os Q (put aj d v) (app u blk):=by show(Al.all.gG (r++u.map (·.1))=true/\_)↔_;rw[Al.Fu];exact⟨fun h=>h.2,fun h=>⟨rfl,h⟩⟩
theorem aav{u:List eO}{r:List Nat}:gP S al (.done v u r) d os Q aj blk↔al.gG (r++u.map (·.1))=true/\RN S al os Q (put aj d v) (app u blk):=Iff.rfl
theorem aat{rd:List Nat}{s:Nat}(h:aH S f vs (.one (.p x)))(hs:x.scalar=true):gP S .all (.pc f vs rd s) d os Q aj blk↔RN S .all os Q (put aj d (.one (.p x))) blk:=ajQ h hs
theorem dV{rd:List Nat}{s:Nat}{k:IntKind}{x:Int}(h:aH S f vs (.one (.p (.int k x)))):gP S .all (.pc f vs rd s) d os Q aj blk↔RN S .all os Q (put aj d (.one (.p (.int k x)))) blk:=aat h rfl
theorem cH{rd:List Nat}{s:Nat}{x:Bool}(h:aH S f vs (.one (.p (.bool x)))):gP S .all (.pc f vs rd s) d os Q aj blk↔RN S .all os Q (put aj d (.one (.p (.bool x)))) blk:=aat h rfl
theorem dB{rd:List Nat}{s:Nat}{r:RV}{u:List eO}(hp:aH S f vs r)(h:land blk rd s (r.gV (S.lone s))=some (v,u)):gP S .all (.pc f vs rd s) d os Q aj blk↔RN S .all os Q (put aj d v) (app u blk):=by
 constructor
 .rintro ⟨y,hy,h2⟩
  have:=hy.BT hp;subst this;rw[h] at h2;exact h2.2
 intro hK;refine⟨_,hp,?_⟩;rw[h];exact⟨Al.Fu _,hK⟩
def RD (S:Sys)(al:Al)(all ops:List ch)(Q:ef)(aj:Env)(blk:aB)(tr:List bX):Prop:=WO S al ops (fun aj blk es=>te all [] es=true/\Q .normal aj blk) aj blk tr
def dP (S:Sys)(al:Al)(p:ft)(d:Option Nat)(all os:List ch)(Q:ef)(aj:Env)(blk:aB)(tr:List bX):Prop:=FW S al p d aj blk tr (WO S al os fun aj blk es=>te all [] es=true/\Q .normal aj blk)
def dW (S:Sys)(al:Al)(w:Option Bool)(d:Option Nat)(op:oR)(all os:List ch)(Q:ef)(aj:Env)(blk:aB)(tr:List bX):Prop:=DO S al w ⟨d,op,none,0⟩ aj blk tr (WO S al os fun aj blk es=>te all [] es=true/\Q .normal aj blk)
theorem WV:W S al (.region true ops) Q aj blk↔RD S al ops ops Q aj blk []:=afS
theorem WM:RD S al all [] Q aj blk tr↔te all [] tr=true/\Q .normal aj blk:=QJ
theorem WQ:RD S al all (⟨d,op,none,n⟩::os) Q aj blk tr↔dP S al (bj S.shared aj blk op) d all os Q aj blk tr:=NQ
theorem WL{t:Nat}{w:Bool}:RD S al all (⟨d,op,some (t,w),n⟩::os) Q aj blk tr↔dW S al (Fi (aj t) w) d op all os Q aj blk tr:=by
 unfold RD dW;rw[NQ];have:wanted aj (some (t,w))=Fi (aj t) w:=rfl;simp only[this];cases Fi (aj t) w with
 |none=>rfl
 |some x=>cases x<;>rfl
theorem Yt:dW S al (some true) d op all os Q aj blk tr↔dP S al (bj S.shared aj blk op) d all os Q aj blk tr:=Iff.rfl
theorem Ys:dW S al (some false) d op all os Q aj blk tr↔RD S al all os Q (put aj d .undef) blk (tr++[⟨[],[],[]⟩]):=Iff.rfl
theorem HZ{u:List eO}{r:List Nat}:dP S .all (.done v u r) d all os Q aj blk tr↔RD S .all all os Q (put aj d v) (app u blk) (tr++[⟨r,u.map (·.1),[]⟩]):=by show(Al.all.gG (r++u.map (·.1))=true/\_)↔_;rw[Al.Fu];exact⟨fun h=>h.2,fun h=>⟨rfl,h⟩⟩
theorem Yp{u:List eO}{r:List Nat}:dP S al (.done v u r) d all os Q aj blk tr↔al.gG (r++u.map (·.1))=true/\RD S al all os Q (put aj d v) (app u blk) (tr++[⟨r,u.map (·.1),[]⟩]):=Iff.rfl
theorem Yo{rd:List Nat}{s:Nat}(h:aH S f vs (.one (.p x)))(hs:x.scalar=true):dP S .all (.pc f vs rd s) d all os Q aj blk tr↔RD S .all all os Q (put aj d (.one (.p x))) blk (tr++[⟨rd,[],[]⟩]):=ajR h hs
theorem lO{rd:List Nat}{s:Nat}{k:IntKind}{x:Int}(h:aH S f vs (.one (.p (.int k x)))):dP S .all (.pc f vs rd s) d all os Q aj blk tr↔RD S .all all os Q (put aj d (.one (.p (.int k x)))) blk (tr++[⟨rd,[],[]⟩]):=Yo h rfl
theorem mZ{rd:List Nat}{s:Nat}{x:Bool}(h:aH S f vs (.one (.p (.bool x)))):dP S .all (.pc f vs rd s) d all os Q aj blk tr↔RD S .all all os Q (put aj d (.one (.p (.bool x)))) blk (tr++[⟨rd,[],[]⟩]):=Yo h rfl
theorem gR{rd:List Nat}{s:Nat}{r:RV}{u:List eO}(hp:aH S f vs r)(h:land blk rd s (r.gV (S.lone s))=some (v,u)):dP S .all (.pc f vs rd s) d all os Q aj blk tr↔RD S .all all os Q (put aj d v) (app u blk) (tr++[⟨rd++u.map (·.1),u.map (·.1),[]⟩]):=by
 constructor
 .rintro ⟨y,hy,h2⟩
  have:=hy.BT hp;subst this;rw[h] at h2;exact h2.2
 intro hK;refine⟨_,hp,?_⟩;rw[h];exact⟨Al.Fu _,hK⟩
def Ps(N:Nat)(I:Nat->Env->aB->Prop)(k:Nat)(Q:ef):ef:=Nr (fun aj blk=>k<N/\I (k+1) aj blk) Q
theorem acE{N k:Nat}{I:Nat->Env->aB->Prop}:Ps N I k Q .normal aj blk=(k<N/\I (k+1) aj blk):=rfl
theorem acD{N k i:Nat}{I:Nat->Env->aB->Prop}:Ps N I k Q (.exit i) aj blk=Q (.exit i) aj blk:=rfl
theorem acF{N k:Nat}{I:Nat->Env->aB->Prop}:Ps N I k Q .ret aj blk=Q .ret aj blk:=rfl
theorem cQ{c:aL}(I:Nat->Env->aB->Prop)(k0 N:Nat)(hk:k0<=N)(h0:I k0 aj blk)
  (round:∀k aj blk,k<=N->I k aj blk->W S al c (Ps N I k Q) aj blk):W S al (.loop c) Q aj blk:=afU I k0 N hk h0 round
def KU(R:V->aB->Prop)(blk:aB):Option (List V)->Prop
 |some vs=>R (zY vs) blk
 |none=>False
theorem WB{res:List (Nat×Option (Option Nat))}{R:V->aB->Prop}:qL al res R .ret aj blk=KU R blk (oF al aj blk res):=by simp only[qL,KU];cases oF al aj blk res<;>rfl
theorem WA{res:List (Nat×Option (Option Nat))}{R:V->aB->Prop}:qL al res R .normal aj blk=KU R blk (oF al aj blk res):=by simp only[qL,KU];cases oF al aj blk res<;>rfl
theorem YP{R:V->aB->Prop}{vs:List V}:KU R blk (some vs)=R (zY vs) blk:=rfl
end
section
variable {S:Sys} {al:Al} {Q:ef} {aj:Env} {blk:aB}
def Pn(S:Sys)(al:Al)(c:aL)(Q:ef):ef
 | .normal,aj,blk=>W S al (.loop c) Q aj blk
 | .exit i,aj,blk=>Q (.exit i) aj blk
 | .ret,aj,blk=>Q .ret aj blk
theorem aca{c:aL}:Pn S al c Q .normal aj blk=W S al (.loop c) Q aj blk:=rfl
theorem ab9{c:aL}{i:Nat}:Pn S al c Q (.exit i) aj blk=Q (.exit i) aj blk:=rfl
theorem acb{c:aL}:Pn S al c Q .ret aj blk=Q .ret aj blk:=rfl
theorem oU{c:aL}(h:W S al c (Pn S al c Q) aj blk):W S al (.loop c) Q aj blk:=by
 obtain⟨n,e,iF,bc,h1,h2⟩:=h;cases e with
 |normal=>obtain⟨m,e,cS,aT,h3,h4⟩:=h2;refine⟨max n m+1,e,cS,aT,?_,h4⟩;simp only[exec] at h3 ⊢;simp only[iter];rw[FO S aa h1];exact UO S aa aa h3
 |exit i=>exact⟨n+1,_,_,_,by simp[exec,iter,FO S (Nat.le_succ n) h1],h2⟩
 |ret=>exact⟨n+1,_,_,_,by simp[exec,iter,FO S (Nat.le_succ n) h1],h2⟩
end
theorem jd.BT{S:Sys}{args:List V}{al:Al}{blk:aB}{v':V}{b b':aB}(h:jd S f args al blk v b)(h':jd S f args al blk v' b'):v=v'/\b=b':=by obtain⟨n,hn⟩:=h;obtain⟨m,hm⟩:=h';have a:=KJ S (Hm n m) _ _ _ _ _ hn;have c:=KJ S (Nat.le_max_right n m) _ _ _ _ _ hm;rw[a] at c;have:=rB c;exact⟨congrArg Prod.fst this,congrArg Prod.snd this⟩
section
variable {S:Sys} {al:Al} {Q:ef} {aj:Env} {blk:aB} {os all:List ch} {tr:List bX} {d:Option Nat}
theorem Vd:al.gG []=true:=rfl
theorem Vc{a:Nat}{l:List Nat}:al.gG (a::l)=(al.ok a&&al.gG l):=rfl
def Kept(K:Nat->Prop)(b b':aB):Prop:=∀id,¬K id->b' id=b id
theorem Kept.refl(K:Nat->Prop)(b:aB):Kept K b b:=fun _ _=>rfl
theorem Kept.trans{K:Nat->Prop}{a b c:aB}(h:Kept K a b)(h2:Kept K b c):Kept K a c:=fun id hk=>(h2 id hk).trans (h id hk)
theorem Kept.cZ{K:Nat->Prop}{b b':aB}(h:Kept K b b'){k:Nat}(hk:K k)(x:Nat×Option Ob):Kept K b (cZ b' k x):=fun id hn=>by rw[aS,if_neg (by rintro rfl;exact hn hk)];exact h id hn
theorem ajH{ak:aB}(hh:al.holds (allow (S.ctx al) f vs blk)=true)(h:jd S f vs (allow (S.ctx al) f vs blk) blk v ak):gP S al (.sc f vs) d os Q aj blk↔RN S al os Q (put aj d v) ak:=by
 constructor
 .rintro ⟨_,v2,b2,h2,h3⟩
  obtain⟨rfl,rfl⟩:=h.BT h2;exact h3
 intro h3;exact⟨hh,v,ak,h,h3⟩
theorem aau{rd:List Nat}{s:Nat}(h:aH S f vs (.one (.p x)))(hs:x.scalar=true):gP S al (.pc f vs rd s) d os Q aj blk↔al.gG (rd++[])=true/\RN S al os Q (put aj d (.one (.p x))) blk:=by
 constructor
 .rintro ⟨y,hy,h2⟩
  have:=hy.BT h;subst this;rw[Jk hs] at h2;exact h2
 rintro ⟨ho,hK⟩
 refine⟨_,h,?_⟩;rw[Jk hs];exact⟨ho,hK⟩
theorem FV{rd:List Nat}{s:Nat}{k:IntKind}{x:Int}(h:aH S f vs (.one (.p (.int k x)))):gP S al (.pc f vs rd s) d os Q aj blk↔al.gG (rd++[])=true/\RN S al os Q (put aj d (.one (.p (.int k x)))) blk:=aau h rfl
theorem aas{rd:List Nat}{s:Nat}{x:Bool}(h:aH S f vs (.one (.p (.bool x)))):gP S al (.pc f vs rd s) d os Q aj blk↔al.gG (rd++[])=true/\RN S al os Q (put aj d (.one (.p (.bool x)))) blk:=aau h rfl
theorem ajf{f:Int->List PV}(q:Int):∀(ids:List Int) (i:Nat),wh (.int .i64 q) (ids.map fun id=>(PV.int .i64 id,f id)) i=some (if q∈ids then some (i+ids.idxOf q,f q) else none):=by
 intro ids
 induction ids with
 |nil=>intro i;rfl
 |cons a ids ih=>
  intro i;simp only[dG,wh,sameKey,if_true];by_cases e:q=a
  .subst e;simp
  have e':(q==a)=false:=by simpa using e
  have e2:¬(a=q):=fun h=>e h.symm;simp only[e'];rw[ih];simp only[cT,e,false_or,List.idxOf_cons,beq_iff_eq,e2,cond_false];by_cases h:q∈ids
  .have e3:(a==q)=false:=by simpa using e2
   simp[h,e3];omega
  simp[h]
theorem wD{f:Nat}{vs:List V}{P:V->aB->Prop}(hh:al.holds (allow (S.ctx al) f vs blk)=true)(h:∃v ak,jd S f vs (allow (S.ctx al) f vs blk) blk v ak/\P v ak)
  (hK:∀v ak,P v ak->RN S al os Q (put aj d v) ak):gP S al (.sc f vs) d os Q aj blk:=by
 obtain⟨v,ak,h1,h2⟩:=h;exact(ajH hh h1).2 (hK v ak h2)
theorem Cv{Kv:Al}:Al.all.holds Kv=true:=rfl
theorem holds_of{Kv:Al}(h1:al.gG Kv.ids=true)(h2:Kv.fs.all al.fs.contains=true):al.holds Kv=true:=by unfold Al.holds;rw[h1,h2];simp
theorem Kw{id:Nat}(h:(S.sites f).contains (nQ id)=true):(allow (S.ctx al) f vs blk).ok id=true:=by show(false||_||(S.sites f).contains (nQ id))=true;rw[h];simp
theorem BA{id:Nat}(h:id∈(vs.map (mh blk)).flatten):(allow (S.ctx al) f vs blk).ok id=true:=by
 show(false||(vs.map (mh blk)).flatten.contains id||_)=true;have:(vs.map (mh blk)).flatten.contains id=true:=by simpa using h
 rw[this];rfl
theorem VH{id g g0 o:Nat}{cs:List C}(h:blk id=(g0,some (.var cs))):mh blk (.one (.bt id g o))=id::(cs.map (mB blk 5)).flatten:=by show mB blk 6 (.bt id g o)=_;rw[mB,h]
theorem VG{n:Nat}{v:PV}:mB blk n (.p v)=[]:=by cases n<;>rfl
theorem JM{id g g0 o l sz n:Nat}(h:blk id=(g0,some (.arr ty sz es))):mB blk (n+1) (.hsl id g z o l)=[id]:=by rw[mB,h]
def V4(x:Nat×Option Ob)(id g:Nat):Option (PV×List Nat):=match x with
 |(g',some (.map ag es))=>if g'=g then some (.mp ag es,[id]) else none
 |(g',some (.fmap ag es))=>if g'=g then some (.mp ag es,[id]) else none
 |_=>none
theorem aep{n id g:Nat}:snap blk (n+1) (.k9 id g)=V4 (blk id) id g:=by rw[snap];rfl
end
theorem Rd:type_of%(And.intro @WW<|And.intro @WX<|And.intro @WV<|And.intro @W1<|And.intro @WU<|And.intro @WT<|And.intro @WR<|And.intro @WS<|And.intro @WQ<|And.intro @WL<|And.intro @WM<|And.intro @W4<|And.intro @W5<|And.intro @W2<|And.intro @aeW<|And.intro @aeV<|And.intro @aeX<|And.intro @XB<|And.intro @XC<|And.intro @XA<|And.intro @acE<|And.intro @acD<|And.intro @acF<|And.intro @aca<|And.intro @ab9 @acb):=And.intro @WW<|And.intro @WX<|And.intro @WV<|And.intro @W1<|And.intro @WU<|And.intro @WT<|And.intro @WR<|And.intro @WS<|And.intro @WQ<|And.intro @WL<|And.intro @WM<|And.intro @W4<|And.intro @W5<|And.intro @W2<|And.intro @aeW<|And.intro @aeV<|And.intro @aeX<|And.intro @XB<|And.intro @XC<|And.intro @XA<|And.intro @acE<|And.intro @acD<|And.intro @acF<|And.intro @aca<|And.intro @ab9 @acb
theorem Rt:type_of%(And.intro @XG<|And.intro @XF<|And.intro @aaB<|And.intro @aaA<|And.intro @Yt<|And.intro @Ys<|And.intro @afi<|And.intro @afj<|And.intro @YX<|And.intro @YV<|And.intro @YU<|And.intro @YW<|And.intro @adz<|And.intro @adx<|And.intro @aS<|And.intro @aby<|And.intro @abx<|And.intro @WB<|And.intro @WA<|And.intro @YP<|And.intro @ac6<|And.intro @norm_int<|And.intro @acH<|And.intro @acS<|And.intro @acP<|And.intro @acQ<|And.intro @acI<|And.intro @acJ<|And.intro @acO<|And.intro @acM<|And.intro @acN<|And.intro @acK<|And.intro @aen<|And.intro @aem<|And.intro @aei<|And.intro @ael<|And.intro @bft<|And.intro @btf<|And.intro @bff<|And.intro @btt<|And.intro @Xo<|And.intro @Ql<|And.intro @Yb<|And.intro @X5<|And.intro @X2<|And.intro @aej<|And.intro @Xn<|And.intro @aek<|And.intro @aer<|And.intro @aeq @aes):=And.intro @XG<|And.intro @XF<|And.intro @aaB<|And.intro @aaA<|And.intro @Yt<|And.intro @Ys<|And.intro @afi<|And.intro @afj<|And.intro @YX<|And.intro @YV<|And.intro @YU<|And.intro @YW<|And.intro @adz<|And.intro @adx<|And.intro @aS<|And.intro @aby<|And.intro @abx<|And.intro @WB<|And.intro @WA<|And.intro @YP<|And.intro @ac6<|And.intro @norm_int<|And.intro @acH<|And.intro @acS<|And.intro @acP<|And.intro @acQ<|And.intro @acI<|And.intro @acJ<|And.intro @acO<|And.intro @acM<|And.intro @acN<|And.intro @acK<|And.intro @aen<|And.intro @aem<|And.intro @aei<|And.intro @ael<|And.intro @bft<|And.intro @btf<|And.intro @bff<|And.intro @btt<|And.intro @Xo<|And.intro @Ql<|And.intro @Yb<|And.intro @X5<|And.intro @X2<|And.intro @aej<|And.intro @Xn<|And.intro @aek<|And.intro @aer<|And.intro @aeq @aes
theorem Rl:type_of%(And.intro @List.map_nil.{0,0}<|And.intro @List.append_nil.{0}<|And.intro @List.map_cons.{0,0}<|And.intro @List.cons_append.{0}<|And.intro @List.nil_append.{0}<|And.intro @List.drop_zero.{0}<|And.intro @List.take_zero.{0}<|And.intro @List.length_cons.{0}<|And.intro @List.length_nil.{0}<|And.intro @List.take_succ_cons.{0}<|And.intro @List.drop_nil.{0}<|And.intro @List.drop_succ_cons.{0}<|And.intro @List.length_map.{0,0}<|And.intro @List.take_nil.{0}<|And.intro @List.flatten_cons.{0}<|And.intro @List.getElem?_cons_zero.{0}<|And.intro @List.getElem?_cons_succ.{0}<|And.intro @List.all_nil.{0}<|And.intro @List.all_cons.{0}<|And.intro @List.not_mem_nil.{0} @Option.map_some.{0,0}):=And.intro @List.map_nil.{0,0}<|And.intro @List.append_nil.{0}<|And.intro @List.map_cons.{0,0}<|And.intro @List.cons_append.{0}<|And.intro @List.nil_append.{0}<|And.intro @List.drop_zero.{0}<|And.intro @List.take_zero.{0}<|And.intro @List.length_cons.{0}<|And.intro @List.length_nil.{0}<|And.intro @List.take_succ_cons.{0}<|And.intro @List.drop_nil.{0}<|And.intro @List.drop_succ_cons.{0}<|And.intro @List.length_map.{0,0}<|And.intro @List.take_nil.{0}<|And.intro @List.flatten_cons.{0}<|And.intro @List.getElem?_cons_zero.{0}<|And.intro @List.getElem?_cons_succ.{0}<|And.intro @List.all_nil.{0}<|And.intro @List.all_cons.{0}<|And.intro @List.not_mem_nil.{0} @Option.map_some.{0,0}
theorem Rb:type_of%(And.intro @Bool.false_eq_true<|And.intro @Bool.not_true<|And.intro @Bool.not_false<|And.intro @Bool.and_true<|And.intro @Bool.and_false<|And.intro @Bool.true_and<|And.intro @Bool.false_and<|And.intro @true_and<|And.intro @and_true<|And.intro @true_or<|And.intro @or_true<|And.intro @false_or<|And.intro @or_false<|And.intro @decide_true<|And.intro @decide_false<|And.intro @not_true_eq_false<|And.intro @not_false_eq_true<|And.intro @and_self<|And.intro @Nat.le_refl<|And.intro @Nat.zero_add<|And.intro @Nat.mul_one<|And.intro @Nat.zero_mul<|And.intro @Nat.zero_le<|And.intro @Nat.sub_zero @Int.zero_add):=And.intro @Bool.false_eq_true<|And.intro @Bool.not_true<|And.intro @Bool.not_false<|And.intro @Bool.and_true<|And.intro @Bool.and_false<|And.intro @Bool.true_and<|And.intro @Bool.false_and<|And.intro @true_and<|And.intro @and_true<|And.intro @true_or<|And.intro @or_true<|And.intro @false_or<|And.intro @or_false<|And.intro @decide_true<|And.intro @decide_false<|And.intro @not_true_eq_false<|And.intro @not_false_eq_true<|And.intro @and_self<|And.intro @Nat.le_refl<|And.intro @Nat.zero_add<|And.intro @Nat.mul_one<|And.intro @Nat.zero_mul<|And.intro @Nat.zero_le<|And.intro @Nat.sub_zero @Int.zero_add
def grown(site ty z:Nat)(es:List (List PV))(v:V)(blk:aB):Prop:=(es=[]/\v=.one (.p .nils))\/(es≠[]/\ ∃g,v=.one (.hsl site g z 0 es.length)/\blk site=(g,some (.arr ty z es)))
def bK(ty z:Nat)(es:List (List PV)):RC:=if es=[] then .p .nils else .own ty z es
theorem grown.of_eq{blk ak:aB}(h:grown site ty z es v blk)(hb:ak site=blk site):grown site ty z es v ak:=by
 rcases h with h|⟨h1,g,h2,h3⟩
 .exact .inl h
 exact .inr ⟨h1,g,h2,by rw[hb,h3]⟩
theorem grown.nil{blk:aB}:grown site ty z [] (.one (.p .nils)) blk:=.inl ⟨rfl,rfl⟩
theorem grown.lG{blk:aB}(h:grown site ty z es v blk):∃c o,v=.one c/\lG blk c=some (bK ty z es,o,[])/\(o=[]\/o=[site]):=by
 rcases h with ⟨h1,h2⟩|⟨h1,g,h2,h3⟩
 .exact⟨.p .nils,[],h2,by simp[Go.Abs.lG,bK,h1],.inl rfl⟩
 refine⟨_,[site],h2,?_,.inr rfl⟩;simp only[Go.Abs.lG,h3,and_self,aZ,if_true,jo,bK,if_neg h1]
theorem sQ{blk:aB}(h:grown site ty z es v blk):kx blk v=some (.one (bK ty z es)):=by
 obtain⟨c,o,rfl,h2,h3⟩:=h.lG;rcases h3 with rfl|rfl
 .simp[kx,tL,oa,mN,h2,apart,vE,ti]
 simp[kx,tL,oa,mN,h2,apart,vE,ti]
theorem Ll{s1 t1 z1 s2 t2 z2:Nat}{fs:List (List PV)}{w:V}{blk:aB}(hs:s1≠s2)(h:grown s1 t1 z1 es v blk)(h':grown s2 t2 z2 fs w blk):kx blk (.tup [v,w])=some (.tup [.one (bK t1 z1 es),.one (bK t2 z2 fs)]):=by obtain⟨c,o,rfl,h2,h3⟩:=h.lG;obtain⟨d,q,rfl,k2,k3⟩:=h'.lG;rcases h3 with rfl|rfl<;>rcases k3 with rfl|rfl<;>simp[kx,tL,wA,oa,mN,h2,k2,apart,vE,ti,CU,hs]
theorem grown.elems{blk:aB}(h:grown site ty z es v blk):∃r,eT blk v=some (es,r,[])/\(r=[]\/r=[site]):=by
 rcases h with ⟨h1,h2⟩|⟨h1,g,h2,h3⟩
 .exact⟨[],by rw[h2,h1];rfl,.inl rfl⟩
 refine⟨[site],?_,.inr rfl⟩;rw[h2];simp[eT,h3]
theorem grown.lI{blk:aB}(h:grown site ty z es v blk):es=[]\/lI v=some z:=by
 rcases h with ⟨h1,h2⟩|⟨h1,g,h2,h3⟩
 .exact .inl h1
 exact .inr (by rw[h2];rfl)
theorem grown.fM{blk:aB}(h:grown site ty z es v blk):Go.Abs.lI v=some z\/fM z es=true:=by
 rcases h.lI with h|h
 .exact .inr (by rw[h];rfl)
 exact .inl h
theorem grown.len{blk:aB}(h:grown site ty z es v blk):yu v=some es.length:=by
 rcases h with ⟨h1,h2⟩|⟨h1,g,h2,h3⟩
 .rw[h1,h2];rfl
 rw[h2];rfl
theorem grown.snap{blk:aB}(h:grown site ty z es v blk):∃r,nT blk v=some (.one (.p (.sl es)),r)/\(r=[]\/r=[site]):=by
 rcases h with ⟨h1,h2⟩|⟨h1,g,h2,h3⟩
 .exact⟨[],by rw[h2,h1];rfl,.inl rfl⟩
 refine⟨[site],?_,.inr rfl⟩;rw[h2];simp[nT,dO,Go.Abs.snap,h3]
theorem grown.V0{c:C}{blk:aB}(h:grown site ty z es (.one c) blk){n:Nat}:∃r,Go.Abs.snap blk (n+1) c=some (.sl es,r)/\(r=[]\/r=[site]):=by
 rcases h with ⟨h1,h2⟩|⟨h1,g,h2,h3⟩
 .cases h2;exact⟨[],by rw[h1];rfl,.inl rfl⟩
 refine⟨[site],?_,.inr rfl⟩;cases h2;simp[Go.Abs.snap,h3]
section
variable {S:Sys} {al:Al} {Q:ef} {aj:Env} {blk:aB} {os all:List ch} {tr:List bX} {d:Option Nat}
theorem PJ{id bytes:Nat}{xs:List (List PV)}{v x:V}{rd:List Nat}(hg:grown id ty z es v blk)(hx:eT blk x=some (xs,rd,[]))(hz:lI x=some z\/fM z xs=true)(hr:(es.length+xs.length)*bytes<=140737488355328):
  ∃v' u r,fj blk site ty z bytes v x=.done v' u r/\grown site ty z (es++xs) v' (app u blk)/\(∀i,i≠site->i≠id->app u blk i=blk i)/\(r=rd/\u.map (·.1)=[]\/r=site::rd/\u.map (·.1)=[site]\/r=site::id::rd/\u.map (·.1)=[id,site]):=by
 have my:¬¬(lI x=some z\/fM z xs=true):=fun h=>h hz;rcases hg with ⟨rfl,rfl⟩|⟨aK,g,rfl,hC⟩
 .by_cases h0:xs=[]
  .subst h0;refine⟨.one (.p .nils),[],rd,?_,.inl ⟨rfl,rfl⟩,fun i _ _=>rfl,.inl ⟨rfl,rfl⟩⟩;simp[fj,hx,my,qN,rV]
  have hl:¬xs.length=0:=by simpa using h0
  have qB:xs.length*bytes<=room:=by simpa [room] using hr
  refine⟨.one (.hsl site ((blk site).1+1) z 0 xs.length),[(site,((blk site).1+1,some (.arr ty z xs)))],site::rd,?_,.inr ⟨by simpa using h0,(blk site).1+1,af,?_⟩,fun i h1 _=>?_,.inr (.inl ⟨rfl,rfl⟩)⟩
  .simp only[fj,hx,if_neg my,qN,rV,if_neg hl,if_pos qB];simp
  .simp[app,aS]
  simp[app,aS,h1]
 have qB:(es.length+xs.length)*bytes<=room:=by simpa [room] using hr
 refine⟨.one (.hsl site ((blk site).1+1) z 0 (es.length+xs.length)),[(id,(g,none)),(site,((blk site).1+1,some (.arr ty z (es++xs))))],site::id::rd,?_,.inr ⟨by simp[aK],(blk site).1+1,af,?_⟩,fun i h1 h2=>?_,.inr (.inr ⟨rfl,rfl⟩)⟩
 .simp only[fj,hx,if_neg my,qN,rV,hC];simp[qB]
 .simp[app,aS]
 simp[app,aS,h1,h2]
theorem qk{id site ty z bytes:Nat}{es xs:List (List PV)}{v x:V}{rd:List Nat}(hg:grown id ty z es v blk)(hx:eT blk x=some (xs,rd,[]))(hz:lI x=some z\/fM z xs=true)(hr:(es.length+xs.length)*bytes<=140737488355328)
  (hK:∀(c:C) ak,grown site ty z (es++xs) (.one c) ak->(∀i,i≠site->i≠id->ak i=blk i)->RN S .all os Q (put aj d (.one c)) ak):gP S .all (fj blk site ty z bytes v x) d os Q aj blk:=by
 obtain⟨v',u,r,h1,h2,h3,_⟩:=PJ hg hx hz hr;obtain⟨c,o,rfl,_⟩:=h2.lG;rw[h1,FT];exact hK _ _ h2 h3
theorem y9{id site ty z bytes:Nat}{es xs:List (List PV)}{v x:V}{rd:List Nat}(hg:grown id ty z es v blk)(hx:eT blk x=some (xs,rd,[]))(hz:lI x=some z\/fM z xs=true)(hr:(es.length+xs.length)*bytes<=140737488355328)
  (hK:∀(c:C) ak r w,grown site ty z (es++xs) (.one c) ak->(∀i,i≠site->i≠id->ak i=blk i)->(r=rd/\w=[]\/r=site::rd/\w=[site]\/r=site::id::rd/\w=[id,site])->RD S .all all os Q (put aj d (.one c)) ak (tr++[⟨r,w,[]⟩])):dP S .all (fj blk site ty z bytes v x) d all os Q aj blk tr:=by
 obtain⟨v',u,r,h1,h2,h3,h4⟩:=PJ hg hx hz hr;obtain⟨c,o,rfl,_⟩:=h2.lG;rw[h1,HZ];exact hK _ _ _ _ h2 h3 h4
theorem zM{s:Nat}:grown s ty z es (.one (dN blk s (bK ty z es)).1) (app (dN blk s (bK ty z es)).2 blk)/\(∀i,i≠s->app (dN blk s (bK ty z es)).2 blk i=blk i)/\((dN blk s (bK ty z es)).2.map (·.1)=[]\/(dN blk s (bK ty z es)).2.map (·.1)=[s]):=by
 unfold bK;by_cases h:es=[]
 .rw[if_pos h];exact⟨.inl ⟨h,rfl⟩,fun i _=>rfl,.inl rfl⟩
 rw[if_neg h];exact⟨.inr ⟨h,(blk s).1+1,rfl,by simp[dN,app,aS]⟩,fun i hi=>by simp[dN,app,aS,hi],.inr rfl⟩
theorem zR(r:RV):r.gV false=r:=rfl
theorem jH{f:Nat}{vs:List V}{s ty z:Nat}{rd:List Nat}{es:List (List PV)}(hp:aH S f vs (.one (bK ty z es)))(fA:S.lone s=false)(pN:rd=[]\/(RV.one (bK ty z es)).alone=true)
  (hK:∀(c:C) ak,grown s ty z es (.one c) ak->(∀i,i≠s->ak i=blk i)->RN S .all os Q (put aj d (.one c)) ak):gP S .all (.pc f vs rd s) d os Q aj blk:=by
 obtain⟨h1,h2,_⟩:=zM (blk:=blk) (s:=s) (ty:=ty) (z:=z) (es:=es);refine(dB (v:=.one (dN blk s (bK ty z es)).1) (u:=(dN blk s (bK ty z es)).2) hp ?_).2 (hK _ _ h1 h2);rw[fA,zR];unfold land;rw[if_pos pN];simp[kN,jS,kD,jW,ue,oE]
theorem aax{f:Nat}{vs:List V}{s t1 z1 t2 z2:Nat}{es fs:List (List PV)}(hp:aH S f vs (.tup [.one (bK t1 z1 es),.one (bK t2 z2 fs)]))(fA:S.lone s=false)
  (hK:∀(c e:C) ak,grown s t1 z1 es (.one c) ak->grown (s+1) t2 z2 fs (.one e) ak->(∀i,i≠s->i≠s+1->ak i=blk i)->RN S .all os Q (put aj d (.tup [.one c,.one e])) ak):gP S .all (.pc f vs [] s) d os Q aj blk:=by
 obtain⟨h1,h2,_⟩:=zM (blk:=blk) (s:=s) (ty:=t1) (z:=z1) (es:=es);have e0:∀(b b':aB) (k:Nat) (r:RC),b' k=b k->dN b k r=dN b' k r:=by
  intro b b' k r h;cases r with
  |p v=>rfl
  |own ty sz es=>simp only[dN,h]
 have e2:dN blk (s+1) (bK t2 z2 fs)=dN (app (dN blk s (bK t1 z1 es)).2 blk) (s+1) (bK t2 z2 fs):=e0 _ _ _ _ (h2 (s+1) aa);obtain⟨k1,k2,_⟩:=zM (blk:=app (dN blk s (bK t1 z1 es)).2 blk) (s:=s+1) (ty:=t2) (z:=z2) (es:=fs);rw[<- e2] at k1 k2;have T6:∀(a b:List eO) (c:aB),app (a++b) c=app b (app a c):=by
  intro a
  induction a with
  |nil=>intro b c;rfl
  |cons x a ih=>intro b c;exact ih b _
 refine(dB (v:=.tup [.one (dN blk s (bK t1 z1 es)).1,.one (dN blk (s+1) (bK t2 z2 fs)).1]) (u:=(dN blk s (bK t1 z1 es)).2++(dN blk (s+1) (bK t2 z2 fs)).2) hp ?_).2 (hK _ _ _ ?_ ?_ ?_)
 .rw[fA,zR];unfold land;rw[if_pos (.inl rfl)];simp[kN,jS,rU,kD,jW,ue,uO,oE]
 .rw[T6];exact h1.of_eq (k2 s aa)
 .rw[T6];exact k1
 intro i a b;rw[T6,k2 i b,h2 i a]
end
theorem fh(h:(es.all fun e=>e.all PV.scalar)=true):(RV.one (bK ty z es)).alone=true:=by
 unfold bK;split
 .rfl
 simp[RV.alone,jS,kD,RC.alone,h]
theorem grown.dO{c:C}{blk:aB}(h:grown site ty z es (.one c) blk):∃r,Go.Abs.snap blk Go.Abs.dO c=some (.sl es,r)/\(r=[]\/r=[site]):=h.V0
def vS(blk:aB)(r:List Nat):Prop:=∀i∈r,∃g ty z es,blk i=(g,some (.arr ty z es))
theorem vS.nil{blk:aB}:vS blk []:=fun _ h=>by simp at h
theorem vS.app{blk:aB}{a b:List Nat}(h:vS blk a)(k:vS blk b):vS blk (a++b):=fun i hi=>by
 rcases fq.1 hi with hi|hi
 .exact h i hi
 exact k i hi
theorem grown.Qi{c:C}{blk:aB}(h:grown site ty z es (.one c) blk):∃r,Go.Abs.snap blk Go.Abs.dO c=some (.sl es,r)/\vS blk r/\(r=[]\/r=[site]):=by
 rcases h with ⟨h1,h2⟩|⟨h1,g,h2,h3⟩
 .cases h2;exact⟨[],by rw[h1];rfl,vS.nil,.inl rfl⟩
 refine⟨[site],?_,fun i hi=>?_,.inr rfl⟩
 .cases h2;simp[Go.Abs.snap,Go.Abs.dO,h3]
 rw[j6] at hi;subst hi;exact⟨_,_,_,_,h3⟩
theorem aan{blk:aB}(all:List Nat):∀r:List Nat,vS blk r->∃fu,rV blk all r=some fu/\fu.map (·.1)=r:=by
 intro r
 induction r with
 |nil=>intro _;exact⟨[],rfl,rfl⟩
 |cons i r ih=>intro h;obtain⟨g,ty,z,es,hi⟩:=h i af;obtain⟨fu,h1,h2⟩:=ih fun j hj=>h j (by simp[hj]);refine⟨(i,(g,some (.pG ty z es)))::fu,?_,by simp[h2]⟩;simp[rV,xL,hi,h1]
theorem HA:∀(u:List eO) (b:aB) (i:Nat),i∉u.map (·.1)->app u b i=b i:=by
 intro u
 induction u with
 |nil=>intro b i _;rfl
 |cons x u ih=>intro b i h;simp only[dG,cT,not_or] at h;show app u (cZ b x.1 x.2) i=b i;rw[ih _ _ h.2,aS,if_neg h.1]
theorem yQ:∀(a b:List eO) (c:aB),app (a++b) c=app b (app a c):=by
 intro a
 induction a with
 |nil=>intro b c;rfl
 |cons x a ih=>intro b c;exact ih b _
section
variable {S:Sys} {al:Al} {Q:ef} {aj:Env} {blk:aB} {os all:List ch} {tr:List bX} {d:Option Nat}
theorem ajD{id site ty z bytes:Nat}{es xs:List (List PV)}{v x:V}{rd fr:List Nat}(hg:grown id ty z es v blk)(hx:eT blk x=some (xs,rd,fr))(tR:vS blk fr)(hni:id∉fr)(hns:site∉fr)(hz:lI x=some z\/fM z xs=true)(hr:(es.length+xs.length)*bytes<=140737488355328)
  (hK:∀(c:C) ak,grown site ty z (es++xs) (.one c) ak->(∀i,i≠site->i≠id->i∉fr->ak i=blk i)->RN S .all os Q (put aj d (.one c)) ak):gP S .all (fj blk site ty z bytes v x) d os Q aj blk:=by
 have my:¬¬(lI x=some z\/fM z xs=true):=fun h=>h hz;obtain⟨fu,IH,yc⟩:=aan fr fr tR;have F4:qN blk fr=some fu:=IH;rcases hg with ⟨rfl,rfl⟩|⟨aK,g,rfl,hC⟩
 .by_cases h0:xs=[]
  .subst h0;have:fj blk site ty z bytes (.one (.p .nils)) x=.done (.one (.p .nils)) fu (rd++fr):=by simp[fj,hx,my,F4]
   rw[this,FT];exact hK _ _ (.inl ⟨rfl,rfl⟩) fun i _ _ h3=>HA _ _ _ (by rw[yc];exact h3)
  have hl:¬xs.length=0:=by simpa using h0
  have qB:xs.length*bytes<=room:=by simpa [room] using hr
  have:fj blk site ty z bytes (.one (.p .nils)) x=.done (.one (.hsl site ((blk site).1+1) z 0 xs.length)) (fu++[(site,((blk site).1+1,some (.arr ty z xs)))]) (site::rd++fr):=by simp only[fj,hx,if_neg my,F4,if_neg hl,if_pos qB]
  rw[this,FT];refine hK _ _ (.inr ⟨by simpa using h0,(blk site).1+1,af,?_⟩) fun i h1 _ h3=>?_
  .rw[yQ];simp[app,aS]
  rw[yQ];have:=HA fu blk i (by rw[yc];exact h3);simp[app,aS,h1,this]
 have qB:(es.length+xs.length)*bytes<=room:=by simpa [room] using hr
 have hnc:fr.contains id=false:=by simpa using hni
 have:fj blk site ty z bytes (.one (.hsl id g z 0 es.length)) x=.done (.one (.hsl site ((blk site).1+1) z 0 (es.length+xs.length))) (fu++[(id,(g,none)),(site,((blk site).1+1,some (.arr ty z (es++xs))))]) (site::id::rd++fr):=by simp only[fj,hx,if_neg my,F4,hC,hnc];simp[qB]
 rw[this,FT];refine hK _ _ (.inr ⟨by simp[aK],(blk site).1+1,af,?_⟩) fun i h1 h2 h3=>?_
 .rw[yQ];simp[app,aS]
 rw[yQ];have:=HA fu blk i (by rw[yc];exact h3);simp[app,aS,h1,h2,this]
end
section
variable {S:Sys} {al:Al} {Q:ef} {aj:Env} {blk:aB} {os all:List ch} {tr:List bX} {d:Option Nat}
theorem Ve{l:List Nat}(h:∀i∈l,al.ok i=true):al.gG l=true:=iC.2 h
theorem OG{id site ty z bytes:Nat}{es xs:List (List PV)}{v x:V}{rd:List Nat}(ao:∀i∈site::id::rd,al.ok i=true)(hg:grown id ty z es v blk)(hx:eT blk x=some (xs,rd,[]))(hz:lI x=some z\/fM z xs=true)(hr:(es.length+xs.length)*bytes<=140737488355328)
  (hK:∀(c:C) ak,grown site ty z (es++xs) (.one c) ak->(∀i,i≠site->i≠id->ak i=blk i)->RN S al os Q (put aj d (.one c)) ak):gP S al (fj blk site ty z bytes v x) d os Q aj blk:=by
 obtain⟨v',u,r,h1,h2,h3,h4⟩:=PJ hg hx hz hr;obtain⟨c,o,rfl,_⟩:=h2.lG;rw[h1,aav];refine⟨?_,hK _ _ h2 h3⟩;rcases h4 with ⟨rfl,h5⟩|⟨rfl,h5⟩|⟨rfl,h5⟩<;>rw[h5]<;>refine Ve fun i hi=>ao i ?_ <;>simp at hi ⊢
 .exact .inr (.inr hi)
 .rcases hi with h|h|h<;>simp[h]
 rcases hi with h|h|h|h|h<;>simp[h]
theorem N5{id site ty z bytes:Nat}{es xs:List (List PV)}{v x:V}{rd:List Nat}(ao:∀i∈site::id::rd,al.ok i=true)(hg:grown id ty z es v blk)(hx:eT blk x=some (xs,rd,[]))(hz:lI x=some z\/fM z xs=true)(hr:(es.length+xs.length)*bytes<=140737488355328)
  (hK:∀(c:C) ak r w,grown site ty z (es++xs) (.one c) ak->(∀i,i≠site->i≠id->ak i=blk i)->(r=rd/\w=[]\/r=site::rd/\w=[site]\/r=site::id::rd/\w=[id,site])->RD S al all os Q (put aj d (.one c)) ak (tr++[⟨r,w,[]⟩])):dP S al (fj blk site ty z bytes v x) d all os Q aj blk tr:=by
 obtain⟨v',u,r,h1,h2,h3,h4⟩:=PJ hg hx hz hr;obtain⟨c,o,rfl,_⟩:=h2.lG;rw[h1,Yp];refine⟨?_,hK _ _ _ _ h2 h3 h4⟩;rcases h4 with ⟨rfl,h5⟩|⟨rfl,h5⟩|⟨rfl,h5⟩<;>rw[h5]<;>refine Ve fun i hi=>ao i ?_ <;>simp at hi ⊢
 .exact .inr (.inr hi)
 .rcases hi with h|h|h<;>simp[h]
 rcases hi with h|h|h|h|h<;>simp[h]
theorem ajE{f:Nat}{vs:List V}{s t1 z1 t2 z2:Nat}{rd:List Nat}{es fs:List (List PV)}(ao:∀i∈s::(s+1)::rd,al.ok i=true)(hp:aH S f vs (.tup [.one (bK t1 z1 es),.one (bK t2 z2 fs)]))(fA:S.lone s=false)
  (fL:(es.all fun e=>e.all PV.scalar)=true) (eH:(fs.all fun e=>e.all PV.scalar)=true)
  (hK:∀(c e:C) ak,grown s t1 z1 es (.one c) ak->grown (s+1) t2 z2 fs (.one e) ak->(∀i,i≠s->i≠s+1->ak i=blk i)->RN S al os Q (put aj d (.tup [.one c,.one e])) ak):gP S al (.pc f vs rd s) d os Q aj blk:=by
 have iK:(RV.tup [.one (bK t1 z1 es),.one (bK t2 z2 fs)]).alone=true:=by have a:=fh (ty:=t1) (z:=z1) fL;have b:=fh (ty:=t2) (z:=z2) eH;simp only[RV.alone,jS,kD,uT,yH,Hc] at a b;simp[RV.alone,jS,rU,kD,a,b]
 obtain⟨h1,h2,h2u⟩:=zM (blk:=blk) (s:=s) (ty:=t1) (z:=z1) (es:=es);have e0:∀(b b':aB) (k:Nat) (r:RC),b' k=b k->dN b k r=dN b' k r:=by
  intro b b' k r h;cases r with
  |p v=>rfl
  |own ty sz es=>simp only[dN,h]
 have e2:dN blk (s+1) (bK t2 z2 fs)=dN (app (dN blk s (bK t1 z1 es)).2 blk) (s+1) (bK t2 z2 fs):=e0 _ _ _ _ (h2 (s+1) aa);obtain⟨k1,k2,k2u⟩:=zM (blk:=app (dN blk s (bK t1 z1 es)).2 blk) (s:=s+1) (ty:=t2) (z:=z2) (es:=fs);rw[<- e2] at k1 k2 k2u;refine⟨_,hp,?_⟩;rw[fA,zR];have hl:land blk rd s (RV.tup [.one (bK t1 z1 es),.one (bK t2 z2 fs)])=some (.tup [.one (dN blk s (bK t1 z1 es)).1,.one (dN blk (s+1) (bK t2 z2 fs)).1],(dN blk s (bK t1 z1 es)).2++(dN blk (s+1) (bK t2 z2 fs)).2):=by unfold land;rw[if_pos (.inr iK)];simp[kN,jS,rU,kD,jW,ue,uO,oE]
 rw[hl];refine⟨Ve fun i hi=>ao i ?_,hK _ _ _ ?_ ?_ ?_⟩
 .simp only[iS,fq] at hi;rcases hi with hi|hi|hi
  .simp[hi]
  .rcases h2u with h|h<;>rw[h] at hi<;>simp at hi<;>simp[hi]
  rcases k2u with h|h<;>rw[h] at hi<;>simp at hi<;>simp[hi]
 .rw[yQ];exact h1.of_eq (k2 s aa)
 .rw[yQ];exact k1
 intro i a b;rw[yQ,k2 i b,h2 i a]
end
theorem aN{b:aB}{a i:Nat}{x:Nat×Option Ob}(h:i≠a):cZ b a x i=b i:=by rw[aS,if_neg h]
theorem rz{b:aB}{a:Nat}{x:Nat×Option Ob}:cZ b a x a=x:=by rw[aS,if_pos rfl]
theorem Pr{a i:Nat}{l:List Nat}(h:i∉l)(ha:a∈l):i≠a:=fun e=>h (e▸ha)
section
variable {S:Sys} {al:Al} {Q:ef} {aj:Env} {blk:aB} {os all:List ch} {tr:List bX} {d:Option Nat}
theorem aaw{f:Nat}{vs:List V}{s ty z:Nat}{es:List (List PV)}{x:PV}(hp:aH S f vs (.tup [.one (bK ty z es),.one (.p x)]))(fA:S.lone s=false)
  (hK:∀(c:C) ak,grown s ty z es (.one c) ak->(∀i,i≠s->ak i=blk i)->RN S .all os Q (put aj d (.tup [.one c,.one (.p x)])) ak):gP S .all (.pc f vs [] s) d os Q aj blk:=by
 obtain⟨h1,h2,_⟩:=zM (blk:=blk) (s:=s) (ty:=ty) (z:=z) (es:=es);refine(dB (v:=.tup [.one (dN blk s (bK ty z es)).1,.one (.p x)]) (u:=(dN blk s (bK ty z es)).2) hp ?_).2 (hK _ _ h1 h2);rw[fA,zR];unfold land;rw[if_pos (.inl rfl)];simp[kN,jS,rU,kD,jW,ue,uO,oE,dN]
theorem jA{f:Nat}{vs:List V}{s ty z:Nat}{rd:List Nat}{es:List (List PV)}(hp:aH S f vs (.one (bK ty z es)))(fA:S.lone s=false)(pN:rd=[]\/(RV.one (bK ty z es)).alone=true)
  (hK:∀(c:C) ak w,grown s ty z es (.one c) ak->(∀i,i≠s->ak i=blk i)->(w=[]\/w=[s])->RD S .all all os Q (put aj d (.one c)) ak (tr++[⟨rd++w,w,[]⟩])):dP S .all (.pc f vs rd s) d all os Q aj blk tr:=by
 obtain⟨h1,h2,h3⟩:=zM (blk:=blk) (s:=s) (ty:=ty) (z:=z) (es:=es);refine(gR (v:=.one (dN blk s (bK ty z es)).1) (u:=(dN blk s (bK ty z es)).2) hp ?_).2 (hK _ _ _ h1 h2 h3);rw[fA,zR];unfold land;rw[if_pos pN];simp[kN,jS,kD,jW,ue,oE]
theorem Yq{f:Nat}{vs:List V}{s ty z:Nat}{es:List (List PV)}{x:PV}(hp:aH S f vs (.tup [.one (bK ty z es),.one (.p x)]))(fA:S.lone s=false)
  (hK:∀(c:C) ak w,grown s ty z es (.one c) ak->(∀i,i≠s->ak i=blk i)->(w=[]\/w=[s])->RD S .all all os Q (put aj d (.tup [.one c,.one (.p x)])) ak (tr++[⟨[]++w,w,[]⟩])):dP S .all (.pc f vs [] s) d all os Q aj blk tr:=by
 obtain⟨h1,h2,h3⟩:=zM (blk:=blk) (s:=s) (ty:=ty) (z:=z) (es:=es);refine(gR (v:=.tup [.one (dN blk s (bK ty z es)).1,.one (.p x)]) (u:=(dN blk s (bK ty z es)).2) hp ?_).2 (hK _ _ _ h1 h2 h3);rw[fA,zR];unfold land;rw[if_pos (.inl rfl)];simp[kN,jS,rU,kD,jW,ue,uO,oE,dN]
theorem aay{f:Nat}{vs:List V}{s ty z:Nat}{rd:List Nat}{es:List (List PV)}{x:PV}(hp:aH S f vs (.agg [.p x,bK ty z es]))(fA:S.lone s=false)(hx:x.scalar=true)(hs:(es.all fun e=>e.all PV.scalar)=true)
  (hK:∀(c:C) ak,grown (s+1) ty z es (.one c) ak->(∀i,i≠s+1->ak i=blk i)->RN S .all os Q (put aj d (.agg [.p x,c])) ak):gP S .all (.pc f vs rd s) d os Q aj blk:=by
 obtain⟨h1,h2,_⟩:=zM (blk:=blk) (s:=s+1) (ty:=ty) (z:=z) (es:=es);have iK:(RV.agg [.p x,bK ty z es]).alone=true:=by have a:=fh (ty:=ty) (z:=z) hs;simp only[RV.alone,jS,kD,uT,yH,Hc] at a;simp only[RV.alone,jS,kD,uT,yH,Hc,a];exact hx
 refine(dB (v:=.agg [.p x,(dN blk (s+1) (bK ty z es)).1]) (u:=(dN blk (s+1) (bK ty z es)).2) hp ?_).2 (hK _ _ h1 h2);rw[fA,zR];unfold land;rw[if_pos (.inr iK)];simp[kN,jS,kD,jW,ue,oE,dN]
theorem Ld{f:Nat}{vs:List V}{s ty z:Nat}{es:List (List PV)}{x y:PV}(hp:aH S f vs (.tup [.agg [.p x,bK ty z es],.one (.p y)]))(fA:S.lone s=false)
  (hK:∀(c:C) ak,grown (s+1) ty z es (.one c) ak->(∀i,i≠s+1->ak i=blk i)->RN S .all os Q (put aj d (.tup [.agg [.p x,c],.one (.p y)])) ak):gP S .all (.pc f vs [] s) d os Q aj blk:=by
 obtain⟨h1,h2,_⟩:=zM (blk:=blk) (s:=s+1) (ty:=ty) (z:=z) (es:=es);refine(dB (v:=.tup [.agg [.p x,(dN blk (s+1) (bK ty z es)).1],.one (.p y)]) (u:=(dN blk (s+1) (bK ty z es)).2) hp ?_).2 (hK _ _ h1 h2);rw[fA,zR];unfold land;rw[if_pos (.inl rfl)];simp[kN,jS,rU,kD,jW,ue,uO,oE,dN]
end
theorem OJ{s1 t1 z1:Nat}{c:C}{y:PV}{blk:aB}(h:grown s1 t1 z1 es (.one c) blk):kx blk (.tup [.agg [.p x,c],.one (.p y)])=some (.tup [.agg [.p x,bK t1 z1 es],.one (.p y)]):=by obtain⟨c',o,hc,h2,h3⟩:=h.lG;cases hc;have e1:lG blk (.p x)=some (.p x,[],[]):=rfl;have e2:lG blk (.p y)=some (.p y,[],[]):=rfl;rcases h3 with rfl|rfl<;>simp[kx,tL,wA,oa,mN,h2,e1,e2,apart,vE,ti,CU]
section
variable {S:Sys} {al:Al} {Q:ef} {aj:Env} {blk:aB} {os all:List ch} {tr:List bX} {d:Option Nat} {op:oR} {w:Option Bool} {a b:aL} {v:V}
theorem eJ(L:List Nat)(h:∀e:Env,(∀k∈L,e k=aj k)->gW S al w d op os Q e blk):gW S al w d op os Q aj blk:=h aj fun _ _=>rfl
theorem rO(L:List Nat)(h:∀e:Env,(∀k∈L,e k=aj k)->dW S al w d op all os Q e blk tr):dW S al w d op all os Q aj blk tr:=h aj fun _ _=>rfl
theorem XE(L:List Nat)(h:∀e:Env,(∀k∈L,e k=aj k)->cW S al v a b Q e blk):cW S al v a b Q aj blk:=h aj fun _ _=>rfl
end
section
variable {S:Sys} {al:Al} {Q:ef} {aj:Env} {blk:aB} {os all:List ch} {tr:List bX} {d:Option Nat}
theorem Yn{id site ty z bytes:Nat}{es xs:List (List PV)}{v x:V}{rd fr:List Nat}(hg:grown id ty z es v blk)(hx:eT blk x=some (xs,rd,fr))(tR:vS blk fr)(hni:id∉fr)(hns:site∉fr)(hz:lI x=some z\/fM z xs=true)(hr:(es.length+xs.length)*bytes<=140737488355328)
  (hK:∀(c:C) ak r w,grown site ty z (es++xs) (.one c) ak->(∀i,i≠site->i≠id->i∉fr->ak i=blk i)->(r=rd++fr/\w=fr\/r=site::rd++fr/\w=fr++[site]\/r=site::id::rd++fr/\w=fr++[id,site])->RD S .all all os Q (put aj d (.one c)) ak (tr++[⟨r,w,[]⟩])):dP S .all (fj blk site ty z bytes v x) d all os Q aj blk tr:=by
 have my:¬¬(lI x=some z\/fM z xs=true):=fun h=>h hz;obtain⟨fu,IH,yc⟩:=aan fr fr tR;have F4:qN blk fr=some fu:=IH;rcases hg with ⟨rfl,rfl⟩|⟨aK,g,rfl,hC⟩
 .by_cases h0:xs=[]
  .subst h0;have:fj blk site ty z bytes (.one (.p .nils)) x=.done (.one (.p .nils)) fu (rd++fr):=by simp[fj,hx,my,F4]
   rw[this,HZ];exact hK _ _ _ _ (.inl ⟨rfl,rfl⟩) (fun i _ _ h3=>HA _ _ _ (by rw[yc];exact h3)) (.inl ⟨rfl,yc⟩)
  have hl:¬xs.length=0:=by simpa using h0
  have qB:xs.length*bytes<=room:=by simpa [room] using hr
  have:fj blk site ty z bytes (.one (.p .nils)) x=.done (.one (.hsl site ((blk site).1+1) z 0 xs.length)) (fu++[(site,((blk site).1+1,some (.arr ty z xs)))]) (site::rd++fr):=by simp only[fj,hx,if_neg my,F4,if_neg hl,if_pos qB]
  rw[this,HZ];refine hK _ _ _ _ (.inr ⟨by simpa using h0,(blk site).1+1,af,?_⟩) (fun i h1 _ h3=>?_) (.inr (.inl ⟨rfl,by simp[yc]⟩))
  .rw[yQ];simp[app,aS]
  rw[yQ];have:=HA fu blk i (by rw[yc];exact h3);simp[app,aS,h1,this]
 have qB:(es.length+xs.length)*bytes<=room:=by simpa [room] using hr
 have hnc:fr.contains id=false:=by simpa using hni
 have:fj blk site ty z bytes (.one (.hsl id g z 0 es.length)) x=.done (.one (.hsl site ((blk site).1+1) z 0 (es.length+xs.length))) (fu++[(id,(g,none)),(site,((blk site).1+1,some (.arr ty z (es++xs))))]) (site::id::rd++fr):=by simp only[fj,hx,if_neg my,F4,hC,hnc];simp[qB]
 rw[this,HZ];refine hK _ _ _ _ (.inr ⟨by simp[aK],(blk site).1+1,af,?_⟩) (fun i h1 h2 h3=>?_) (.inr (.inr ⟨rfl,by simp[yc]⟩))
 .rw[yQ];simp[app,aS]
 rw[yQ];have:=HA fu blk i (by rw[yc];exact h3);simp[app,aS,h1,h2,this]
theorem FU{f:Nat}{vs:List V}{s ty z:Nat}{rd:List Nat}{es:List (List PV)}{x:PV}(hp:aH S f vs (.tup [.one (bK ty z es),.one (.p x)]))(fA:S.lone s=false)(hs:(es.all fun e=>e.all PV.scalar)=true)(hx:x.scalar=true)
  (hK:∀(c:C) ak,grown s ty z es (.one c) ak->(∀i,i≠s->ak i=blk i)->RN S .all os Q (put aj d (.tup [.one c,.one (.p x)])) ak):gP S .all (.pc f vs rd s) d os Q aj blk:=by
 obtain⟨h1,h2,_⟩:=zM (blk:=blk) (s:=s) (ty:=ty) (z:=z) (es:=es);have iK:(RV.tup [.one (bK ty z es),.one (.p x)]).alone=true:=by have a:=fh (ty:=ty) (z:=z) hs;simp only[RV.alone,jS,kD,uT,yH,Hc] at a;simp only[RV.alone,jS,rU,kD,mq,gZ,oN,uT,yH,Hc,a,Bool.true_and];exact hx
 refine(dB (v:=.tup [.one (dN blk s (bK ty z es)).1,.one (.p x)]) (u:=(dN blk s (bK ty z es)).2) hp ?_).2 (hK _ _ h1 h2);rw[fA,zR];unfold land;rw[if_pos (.inr iK)];simp[kN,jS,rU,kD,jW,ue,uO,oE,dN]
end
section
variable {S:Sys} {al:Al} {Q:ef} {aj:Env} {blk:aB} {os all:List ch} {tr:List bX} {d:Option Nat} {op:oR} {a b:aL} {e w:Bool}
theorem ajF{rd:List Nat}{s:Nat}{r:RV}{u:List eO}(hp:aH S f vs r)(h:land blk rd s (r.gV (S.lone s))=some (v,u)):gP S al (.pc f vs rd s) d os Q aj blk↔al.gG (rd++u.map (·.1))=true/\RN S al os Q (put aj d v) (app u blk):=by
 constructor
 .rintro ⟨y,hy,h2⟩
  have:=hy.BT hp;subst this;rw[h] at h2;exact h2
 intro hK;refine⟨_,hp,?_⟩;rw[h];exact hK
theorem aic{rd:List Nat}{s:Nat}{r:RV}{u:List eO}(hp:aH S f vs r)(h:land blk rd s (r.gV (S.lone s))=some (v,u)):dP S al (.pc f vs rd s) d all os Q aj blk tr↔al.gG (rd++u.map (·.1))=true/\RD S al all os Q (put aj d v) (app u blk) (tr++[⟨rd++u.map (·.1),u.map (·.1),[]⟩]):=by
 constructor
 .rintro ⟨y,hy,h2⟩
  have:=hy.BT hp;subst this;rw[h] at h2;exact h2
 intro hK;refine⟨_,hp,?_⟩;rw[h];exact hK
theorem abR{s:Nat}(b:Bool):land blk [] s ((RV.one (.p x)).gV b)=some (.one (.p x),[]):=by cases b<;>rfl
theorem T1{s:Nat}(h:aH S f vs (.one (.p x))):gP S al (.pc f vs [] s) d os Q aj blk↔RN S al os Q (put aj d (.one (.p x))) blk:=by rw[ajF h (abR _)];exact⟨fun h=>h.2,fun h=>⟨rfl,h⟩⟩
theorem N6{s:Nat}(h:aH S f vs (.one (.p x))):dP S al (.pc f vs [] s) d all os Q aj blk tr↔RD S al all os Q (put aj d (.one (.p x))) blk (tr++[⟨[],[],[]⟩]):=by rw[aic h (abR _)];exact⟨fun h=>h.2,fun h=>⟨rfl,h⟩⟩
end
section
variable {S:Sys} {al:Al} {Q:ef} {aj:Env} {blk:aB} {os all:List ch} {tr:List bX} {d:Option Nat} {op:oR} {w:Option Bool} {a b:aL} {v:V} {p:ft}
end
theorem grown.VZ{c:C}{blk:aB}(h:grown site ty z es (.one c) blk):∃r,(∀B:aB,B site=blk site->Go.Abs.snap B Go.Abs.dO c=some (.sl es,r))/\(r=[]\/r=[site]):=by
 rcases h with ⟨h1,h2⟩|⟨h1,g,h2,h3⟩
 .cases h2;exact⟨[],fun B _=>by rw[h1];rfl,.inl rfl⟩
 cases h2;refine⟨[site],fun B hB=>?_,.inr rfl⟩;rw[<- hB] at h3;simp[Go.Abs.dO,Go.Abs.snap,h3]
end
end Go.Abs
namespace Go.Abs
open Go
section
variable {S:Sys} {al:Al} {Q:ef} {os all:List ch} {d:Option Nat} {aj:Env} {blk:aB} {tr:List bX}
end
end Go.Abs
namespace Go.Abs
theorem fm1{p:Nat->Prop}:(∀k∈([]:List Nat),p k)↔True:=by simp
theorem fm2{a:Nat}{l:List Nat}{p:Nat->Prop}:(∀k∈a::l,p k)↔p a/\ ∀k∈l,p k:=List.forall_mem_cons
attribute [go_sem] fm1 fm2 A5 bne_self_eq_false Bool.or_true Bool.or_false Bool.true_or Bool.false_or Bool.not_not kN jS kD rU dN jW ue oE uO Option.getD_some Option.getD_none Option.isSome_some Option.isSome_none
attribute [go_sem ↓] Rd
attribute [go_sem high] FT HZ
attribute [go_sem] Rt Rl Rb aav Yp Vd Vc Bool.and_self Al.Fu
attribute [go_sem] bj qK tE BY Gv app if_true if_false reduceIte Nat.reduceEqDiff beq_self_eq_true reduceCtorEq ge_iff_le oF Pu zY DJ Nat.reduceAdd Bc pZ Ab eX rI yu ne_eq Nat.reduceLeDiff yv ze Bl Bk toP fill Nat.reduceMul Nat.reduceLT Qk Qj
attribute [go_sem] eT lI qN rV room CQ rH Nat.reduceSub Int.reduceLT Int.reduceAdd Int.reduceBEq Int.reduceBNe Int.reduceLE List.contains_eq_mem vB
end Go.Abs
