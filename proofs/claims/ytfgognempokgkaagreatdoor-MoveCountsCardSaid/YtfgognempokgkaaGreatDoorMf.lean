/-
  Rules for a walk.
-/
import Derived.Test.YtfgognempokgkaaGreatDoorMc
import Derived.Attr
set_option linter.all false
namespace Go.Abs
section
variable{x:PV}{vs:List V}{f site ty z:Nat}{v:V}{es:List (List PV)}
theorem O8(k:Nat):lh (.one (.p (.int .i64 (k:Int))))=some k:=by simp[lh]
theorem O7(n:Nat):lh (.one (.p (.int .i64 (no_index (@OfNat.ofNat Int n instOfNat)))))=some (@OfNat.ofNat Nat n (instOfNatNat n)):=by show lh (.one (.p (.int .i64 (Int.ofNat n))))=some n;simp[lh]
theorem I4{blk:aw}{v:PV}:snap blk dD (.p v)=some (v.norm,[]):=rfl
def JU{β:Type}(x:Option (β×List Nat))(y:Option (List β×List Nat)):Option (List β×List Nat):=match x,y with
 |some (b,x),some (bs,y)=>some (b::bs,x++y)
 |_,_=>none
theorem PJ{β:Type}{b:β}{x:List Nat}{bs:List β}{y:List Nat}:JU (some (b,x)) (some (bs,y))=some (b::bs,x++y):=rfl
theorem PC{α β:Type}{f:α->Option (β×List Nat)}:collect f []=some ([],[]):=rfl
theorem PA{α β:Type}{f:α->Option (β×List Nat)}{a:α}{r:List α}:collect f (a::r)=JU (f a) (collect f r):=by simp only[collect,JU];cases f a<;>cases collect f r<;>rfl
theorem VB{blk:aw}{c:C}:kJ blk (.one c)=(snap blk dD c).map fun(v,r)=>(.one (.p v),r):=rfl
theorem VA{blk:aw}{cs:List C}:kJ blk (.agg cs)=(collect (snap blk dD) cs).map fun(vs,r)=>(.agg (vs.map .p),r):=rfl
theorem VJ{blk:aw}{n:Nat}{v:PV}:snap blk (n+1) (.p v)=some (v.norm,[]):=rfl
def I3(o:Nat×Option Ob)(col:List (List C)->Option (List (List PV)×List Nat))(id g off len:Nat):Option (PV×List Nat):=match o with
 |(g',some (.arr _ _ es))=>if g'=g/\off+len<=es.length then some (.sl ((es.drop off).take len),[id]) else none
 |(g',some (.lr _ _ es))=>if g'=g/\off+len<=es.length then some (.sl ((es.drop off).take len),[id]) else none
 |(g',some (.fO _ _ es))=>if g'=g/\off+len<=es.length then
   match col ((es.drop off).take len) with
   |some (ps,r)=>some (.sl ps,id::r)
   |none=>none
  else none
 |_=>none
theorem VI{blk:aw}{id g z off len:Nat}:snap blk dD (.hsl id g z off len)=I3 (blk id) (collect (collect (snap blk 5))) id g off len:=by unfold dD I3;rw[snap];rfl
def I2(o:Nat×Option Ob)(col:List C->Option (List PV×List Nat))(id g off:Nat):Option (PV×List Nat):=match o with
 |(g',some (.var cs))=>if g'=g then
   match col cs with
   |some (ps,r)=>some (.box (ps.drop off),id::r)
   |none=>none
  else none
 |(g',some (.fvar ps))=>if g'=g then some (.box (ps.drop off),[id]) else none
 |_=>none
theorem VH{blk:aw}{id g off:Nat}:snap blk dD (.aZ id g off)=I2 (blk id) (collect (snap blk 5)) id g off:=by unfold dD I2;rw[snap];rfl
section
variable {S:Sys} {al:Al} {aj:Env} {blk:aw} {d:Option Nat}
theorem CL{rd:List Nat}{s:Nat}{b:Bool}(hs:x.scalar=true):land blk rd s ((RV.one (.p x)).fx b)=some (.one (.p x),[]):=by
 have h1:(RV.one (.p x)).fx b=.one (.p x):=by cases b<;>rfl
 rw[h1];have:(RV.one (.p x)).alone=true:=by simp[RV.alone,iZ,jy,RC.alone,hs]
 simp only[land,this,or_true,if_true];rfl
theorem aas{rd:List Nat}{s:Nat}{K:Env->aw->Prop}(h:aE S f vs (.one (.p x)))(hs:x.scalar=true):Cg S .all (.pc f vs rd s) d aj blk K↔K (put aj d (.one (.p x))) blk:=by
 constructor
 .rintro ⟨y,hy,h2⟩
  have:=hy.wA h;subst this;rw[CL hs] at h2;exact h2.2
 intro hK;refine⟨_,h,?_⟩;rw[CL hs];exact⟨Al.zQ _,hK⟩
theorem aat{rd:List Nat}{s:Nat}{tr:List bl}{K:Env->aw->List bl->Prop}(h:aE S f vs (.one (.p x)))(hs:x.scalar=true):Ac S .all (.pc f vs rd s) d aj blk tr K↔K (put aj d (.one (.p x))) blk (tr++[⟨rd,[],[]⟩]):=by
 constructor
 .rintro ⟨y,hy,h2⟩
  have:=hy.wA h;subst this;rw[CL hs] at h2
  simpa [app] using h2.2
 intro hK;refine⟨_,h,?_⟩;rw[CL hs];exact⟨Al.zQ _,by simpa [app] using hK⟩
theorem WW{ops:List aI}{Q:dF}:W S al (.region true ops) Q aj blk↔WO S al ops (fun aj blk es=>ow ops [] es=true/\Q .normal aj blk) aj blk []:=by
 rw[OX];constructor
 .rintro ⟨n,e,b,es,h1,h2,h3⟩;exact⟨n,e,b,es,h1,h2 rfl,h3⟩
 rintro ⟨n,e,b,es,h1,h2,h3⟩;exact⟨n,e,b,es,h1,fun _=>h2,h3⟩
end
theorem wrap_small{n:Nat}(h:n<=9223372036854775807):IntKind.i64.wrap (n:Int)=n:=GS h
theorem bj{n:Nat}(h:n<9223372036854775807):IntKind.i64.wrap ((n:Int)+1)=((n+1:Nat):Int):=GS (n:=n+1) aa
section
variable {S:Sys} {al:Al} {Q:dF} {aj:Env} {blk:aw} {a b:aH} {ops os all:List aI} {tr:List bl} {d:Option Nat} {op:jk} {n:Nat}
def xJ(S:Sys)(al:Al)(b:aH)(Q:dF):dF
 | .normal,aj,blk=>W S al b Q aj blk
 | .exit i,aj,blk=>Q (.exit i) aj blk
 | .ret,aj,blk=>Q .ret aj blk
theorem agy:GJ (W S al b Q) Q=xJ S al b Q:=by funext e aj blk;cases e<;>rfl
theorem OR:W S al (.seq a b) Q aj blk↔W S al a (xJ S al b Q) aj blk:=by rw[W2,agy]
theorem Wb:xJ S al b Q .normal aj blk=W S al b Q aj blk:=rfl
theorem Wa{i:Nat}:xJ S al b Q (.exit i) aj blk=Q (.exit i) aj blk:=rfl
theorem Wc:xJ S al b Q .ret aj blk=Q .ret aj blk:=rfl
def cW (S:Sys)(al:Al)(v:V)(a b:aH)(Q:dF)(aj:Env)(blk:aw):Prop:=BY v (W S al a Q aj blk) (W S al b Q aj blk)
theorem OP{x:aK}:W S al (.cond x a b) Q aj blk↔cW S al (ev aj x) a b Q aj blk:=WV
theorem Pp:cW S al (.one (.p (.bool true))) a b Q aj blk=W S al a Q aj blk:=by simp[cW,BY]
theorem Po:cW S al (.one (.p (.bool false))) a b Q aj blk=W S al b Q aj blk:=by simp[cW,BY]
def RN (S:Sys)(al:Al)(ops:List aI)(Q:dF)(aj:Env)(blk:aw):Prop:=WN S al ops (fun aj blk=>Q .normal aj blk) aj blk
def gP (S:Sys)(al:Al)(p:ej)(d:Option Nat)(os:List aI)(Q:dF)(aj:Env)(blk:aw):Prop:=Cg S al p d aj blk (WN S al os fun aj blk=>Q .normal aj blk)
def gW (S:Sys)(al:Al)(w:Option Bool)(d:Option Nat)(op:jk)(os:List aI)(Q:dF)(aj:Env)(blk:aw):Prop:=HK S al w ⟨d,op,none,0⟩ aj blk (WN S al os fun aj blk=>Q .normal aj blk)
theorem OS:W S al (.region false ops) Q aj blk↔RN S al ops Q aj blk:=W3
theorem ON:RN S al [] Q aj blk↔Q .normal aj blk:=WM
theorem OO:RN S al (⟨d,op,none,n⟩::os) Q aj blk↔gP S al (aT S.shared aj blk op) d os Q aj blk:=OU
theorem OM{t:Nat}{w:Bool}:RN S al (⟨d,op,some (t,w),n⟩::os) Q aj blk↔gW S al (zA (aj t) w) d op os Q aj blk:=by
 unfold RN gW;rw[OU];have:wanted aj (some (t,w))=zA (aj t) w:=rfl;simp only[this];cases zA (aj t) w with
 |none=>rfl
 |some x=>cases x<;>rfl
theorem SB:gW S al (some true) d op os Q aj blk↔gP S al (aT S.shared aj blk op) d os Q aj blk:=Iff.rfl
theorem SA:gW S al (some false) d op os Q aj blk↔RN S al os Q (put aj d .undef) blk:=Iff.rfl
theorem EM{u:List dH}{r:List Nat}:gP S .all (.done v u r) d os Q aj blk↔RN S .all os Q (put aj d v) (app u blk):=by show(Al.all.fi (r++u.map (·.1))=true/\_)↔_;rw[Al.zQ];exact⟨fun h=>h.2,fun h=>⟨rfl,h⟩⟩
theorem Sv{u:List dH}{r:List Nat}:gP S al (.done v u r) d os Q aj blk↔al.fi (r++u.map (·.1))=true/\RN S al os Q (put aj d v) (app u blk):=Iff.rfl
theorem St{rd:List Nat}{s:Nat}(h:aE S f vs (.one (.p x)))(hs:x.scalar=true):gP S .all (.pc f vs rd s) d os Q aj blk↔RN S .all os Q (put aj d (.one (.p x))) blk:=aas h hs
theorem dR{rd:List Nat}{s:Nat}{k:IntKind}{x:Int}(h:aE S f vs (.one (.p (.int k x)))):gP S .all (.pc f vs rd s) d os Q aj blk↔RN S .all os Q (put aj d (.one (.p (.int k x)))) blk:=St h rfl
theorem bY{rd:List Nat}{s:Nat}{x:Bool}(h:aE S f vs (.one (.p (.bool x)))):gP S .all (.pc f vs rd s) d os Q aj blk↔RN S .all os Q (put aj d (.one (.p (.bool x)))) blk:=St h rfl
theorem cN{rd:List Nat}{s:Nat}{r:RV}{u:List dH}(hp:aE S f vs r)(h:land blk rd s (r.fx (S.lone s))=some (v,u)):gP S .all (.pc f vs rd s) d os Q aj blk↔RN S .all os Q (put aj d v) (app u blk):=by
 constructor
 .rintro ⟨y,hy,h2⟩
  have:=hy.wA hp;subst this;rw[h] at h2;exact h2.2
 intro hK;refine⟨_,hp,?_⟩;rw[h];exact⟨Al.zQ _,hK⟩
def RD (S:Sys)(al:Al)(all ops:List aI)(Q:dF)(aj:Env)(blk:aw)(tr:List bl):Prop:=WO S al ops (fun aj blk es=>ow all [] es=true/\Q .normal aj blk) aj blk tr
def dP (S:Sys)(al:Al)(p:ej)(d:Option Nat)(all os:List aI)(Q:dF)(aj:Env)(blk:aw)(tr:List bl):Prop:=Ac S al p d aj blk tr (WO S al os fun aj blk es=>ow all [] es=true/\Q .normal aj blk)
def dW (S:Sys)(al:Al)(w:Option Bool)(d:Option Nat)(op:jk)(all os:List aI)(Q:dF)(aj:Env)(blk:aw)(tr:List bl):Prop:=yr S al w ⟨d,op,none,0⟩ aj blk tr (WO S al os fun aj blk es=>ow all [] es=true/\Q .normal aj blk)
theorem OQ:W S al (.region true ops) Q aj blk↔RD S al ops ops Q aj blk []:=WW
theorem OK:RD S al all [] Q aj blk tr↔ow all [] tr=true/\Q .normal aj blk:=Js
theorem OL:RD S al all (⟨d,op,none,n⟩::os) Q aj blk tr↔dP S al (aT S.shared aj blk op) d all os Q aj blk tr:=Ha
theorem OJ{t:Nat}{w:Bool}:RD S al all (⟨d,op,some (t,w),n⟩::os) Q aj blk tr↔dW S al (zA (aj t) w) d op all os Q aj blk tr:=by
 unfold RD dW;rw[Ha];have:wanted aj (some (t,w))=zA (aj t) w:=rfl;simp only[this];cases zA (aj t) w with
 |none=>rfl
 |some x=>cases x<;>rfl
theorem Qf:dW S al (some true) d op all os Q aj blk tr↔dP S al (aT S.shared aj blk op) d all os Q aj blk tr:=Iff.rfl
theorem Qe:dW S al (some false) d op all os Q aj blk tr↔RD S al all os Q (put aj d .undef) blk (tr++[⟨[],[],[]⟩]):=Iff.rfl
theorem El{u:List dH}{r:List Nat}:dP S .all (.done v u r) d all os Q aj blk tr↔RD S .all all os Q (put aj d v) (app u blk) (tr++[⟨r,u.map (·.1),[]⟩]):=by show(Al.all.fi (r++u.map (·.1))=true/\_)↔_;rw[Al.zQ];exact⟨fun h=>h.2,fun h=>⟨rfl,h⟩⟩
theorem Qc{u:List dH}{r:List Nat}:dP S al (.done v u r) d all os Q aj blk tr↔al.fi (r++u.map (·.1))=true/\RD S al all os Q (put aj d v) (app u blk) (tr++[⟨r,u.map (·.1),[]⟩]):=Iff.rfl
theorem Qb{rd:List Nat}{s:Nat}(h:aE S f vs (.one (.p x)))(hs:x.scalar=true):dP S .all (.pc f vs rd s) d all os Q aj blk tr↔RD S .all all os Q (put aj d (.one (.p x))) blk (tr++[⟨rd,[],[]⟩]):=aat h hs
theorem gT{rd:List Nat}{s:Nat}{k:IntKind}{x:Int}(h:aE S f vs (.one (.p (.int k x)))):dP S .all (.pc f vs rd s) d all os Q aj blk tr↔RD S .all all os Q (put aj d (.one (.p (.int k x)))) blk (tr++[⟨rd,[],[]⟩]):=Qb h rfl
theorem kn{rd:List Nat}{s:Nat}{x:Bool}(h:aE S f vs (.one (.p (.bool x)))):dP S .all (.pc f vs rd s) d all os Q aj blk tr↔RD S .all all os Q (put aj d (.one (.p (.bool x)))) blk (tr++[⟨rd,[],[]⟩]):=Qb h rfl
theorem fp{rd:List Nat}{s:Nat}{r:RV}{u:List dH}(hp:aE S f vs r)(h:land blk rd s (r.fx (S.lone s))=some (v,u)):dP S .all (.pc f vs rd s) d all os Q aj blk tr↔RD S .all all os Q (put aj d v) (app u blk) (tr++[⟨rd++u.map (·.1),u.map (·.1),[]⟩]):=by
 constructor
 .rintro ⟨y,hy,h2⟩
  have:=hy.wA hp;subst this;rw[h] at h2;exact h2.2
 intro hK;refine⟨_,hp,?_⟩;rw[h];exact⟨Al.zQ _,hK⟩
def Ir(N:Nat)(I:Nat->Env->aw->Prop)(k:Nat)(Q:dF):dF:=GJ (fun aj blk=>k<N/\I (k+1) aj blk) Q
theorem Uf{N k:Nat}{I:Nat->Env->aw->Prop}:Ir N I k Q .normal aj blk=(k<N/\I (k+1) aj blk):=rfl
theorem Ue{N k i:Nat}{I:Nat->Env->aw->Prop}:Ir N I k Q (.exit i) aj blk=Q (.exit i) aj blk:=rfl
theorem Ug{N k:Nat}{I:Nat->Env->aw->Prop}:Ir N I k Q .ret aj blk=Q .ret aj blk:=rfl
theorem ck{c:aH}(I:Nat->Env->aw->Prop)(k0 N:Nat)(hk:k0<=N)(h0:I k0 aj blk)
  (round:∀k aj blk,k<=N->I k aj blk->W S al c (Ir N I k Q) aj blk):W S al (.loop c) Q aj blk:=WY I k0 N hk h0 round
def Es(R:V->aw->Prop)(blk:aw):Option (List V)->Prop
 |some vs=>R (uQ vs) blk
 |none=>False
theorem OD{res:List (Nat×Option (Option Nat))}{R:V->aw->Prop}:oL al res R .ret aj blk=Es R blk (kW al aj blk res):=by simp only[oL,Es];cases kW al aj blk res<;>rfl
theorem OC{res:List (Nat×Option (Option Nat))}{R:V->aw->Prop}:oL al res R .normal aj blk=Es R blk (kW al aj blk res):=by simp only[oL,Es];cases kW al aj blk res<;>rfl
theorem Qw{R:V->aw->Prop}{vs:List V}:Es R blk (some vs)=R (uQ vs) blk:=rfl
end
section
variable {S:Sys} {al:Al} {Q:dF} {aj:Env} {blk:aw}
def Il(S:Sys)(al:Al)(c:aH)(Q:dF):dF
 | .normal,aj,blk=>W S al (.loop c) Q aj blk
 | .exit i,aj,blk=>Q (.exit i) aj blk
 | .ret,aj,blk=>Q .ret aj blk
theorem TW{c:aH}:Il S al c Q .normal aj blk=W S al (.loop c) Q aj blk:=rfl
theorem TV{c:aH}{i:Nat}:Il S al c Q (.exit i) aj blk=Q (.exit i) aj blk:=rfl
theorem TX{c:aH}:Il S al c Q .ret aj blk=Q .ret aj blk:=rfl
theorem k8{c:aH}(h:W S al c (Il S al c Q) aj blk):W S al (.loop c) Q aj blk:=by
 obtain⟨n,e,fA,aW,h1,h2⟩:=h;cases e with
 |normal=>obtain⟨m,e,bH,aN,h3,h4⟩:=h2;refine⟨max n m+1,e,bH,aN,?_,h4⟩;simp only[exec] at h3 ⊢;simp only[iter];rw[z6 S aa h1];exact MW S aa aa h3
 |exit i=>exact⟨n+1,_,_,_,by simp[exec,iter,z6 S (Nat.le_succ n) h1],h2⟩
 |ret=>exact⟨n+1,_,_,_,by simp[exec,iter,z6 S (Nat.le_succ n) h1],h2⟩
end
theorem fT.wA{S:Sys}{args:List V}{al:Al}{blk:aw}{v':V}{b b':aw}(h:fT S f args al blk v b)(h':fT S f args al blk v' b'):v=v'/\b=b':=by obtain⟨n,hn⟩:=h;obtain⟨m,hm⟩:=h';have a:=Ee S (Bv n m) _ _ _ _ _ hn;have c:=Ee S (Nat.le_max_right n m) _ _ _ _ _ hm;rw[a] at c;have:=DN c;exact⟨congrArg Prod.fst this,congrArg Prod.snd this⟩
section
variable {S:Sys} {al:Al} {Q:dF} {aj:Env} {blk:aw} {os all:List aI} {tr:List bl} {d:Option Nat}
theorem Nn:al.fi []=true:=rfl
theorem Nl{a:Nat}{l:List Nat}:al.fi (a::l)=(al.ok a&&al.fi l):=rfl
def Kept(K:Nat->Prop)(b b':aw):Prop:=∀id,¬K id->b' id=b id
theorem Kept.refl(K:Nat->Prop)(b:aw):Kept K b b:=fun _ _=>rfl
theorem Kept.trans{K:Nat->Prop}{a b c:aw}(h:Kept K a b)(h2:Kept K b c):Kept K a c:=fun id hk=>(h2 id hk).trans (h id hk)
theorem Kept.ca{K:Nat->Prop}{b b':aw}(h:Kept K b b'){k:Nat}(hk:K k)(x:Nat×Option Ob):Kept K b (ca b' k x):=fun id hn=>by rw[aP,if_neg (by rintro rfl;exact hn hk)];exact h id hn
theorem aam{ak:aw}(hh:al.holds (allow (S.ctx al) f vs blk)=true)(h:fT S f vs (allow (S.ctx al) f vs blk) blk v ak):gP S al (.sc f vs) d os Q aj blk↔RN S al os Q (put aj d v) ak:=by
 constructor
 .rintro ⟨_,v2,b2,h2,h3⟩
  obtain⟨rfl,rfl⟩:=h.wA h2;exact h3
 intro h3;exact⟨hh,v,ak,h,h3⟩
theorem Su{rd:List Nat}{s:Nat}(h:aE S f vs (.one (.p x)))(hs:x.scalar=true):gP S al (.pc f vs rd s) d os Q aj blk↔al.fi (rd++[])=true/\RN S al os Q (put aj d (.one (.p x))) blk:=by
 constructor
 .rintro ⟨y,hy,h2⟩
  have:=hy.wA h;subst this;rw[CL hs] at h2;exact h2
 rintro ⟨ho,hK⟩
 refine⟨_,h,?_⟩;rw[CL hs];exact⟨ho,hK⟩
theorem Aa{rd:List Nat}{s:Nat}{k:IntKind}{x:Int}(h:aE S f vs (.one (.p (.int k x)))):gP S al (.pc f vs rd s) d os Q aj blk↔al.fi (rd++[])=true/\RN S al os Q (put aj d (.one (.p (.int k x)))) blk:=Su h rfl
theorem Ss{rd:List Nat}{s:Nat}{x:Bool}(h:aE S f vs (.one (.p (.bool x)))):gP S al (.pc f vs rd s) d os Q aj blk↔al.fi (rd++[])=true/\RN S al os Q (put aj d (.one (.p (.bool x)))) blk:=Su h rfl
theorem ZW{f:Int->List PV}(q:Int):∀(ids:List Int) (i:Nat),rL (.int .i64 q) (ids.map fun id=>(PV.int .i64 id,f id)) i=some (if q∈ids then some (i+ids.idxOf q,f q) else none):=by
 intro ids
 induction ids with
 |nil=>intro i;rfl
 |cons a ids ih=>
  intro i;simp only[dE,rL,sameKey,if_true];by_cases e:q=a
  .subst e;simp
  have e':(q==a)=false:=by simpa using e
  have e2:¬(a=q):=fun h=>e h.symm;simp only[e'];rw[ih];simp only[dU,e,false_or,List.idxOf_cons,beq_iff_eq,e2,cond_false];by_cases h:q∈ids
  .have e3:(a==q)=false:=by simpa using e2
   simp[h,e3];omega
  simp[h]
theorem rQ{f:Nat}{vs:List V}{P:V->aw->Prop}(hh:al.holds (allow (S.ctx al) f vs blk)=true)(h:∃v ak,fT S f vs (allow (S.ctx al) f vs blk) blk v ak/\P v ak)
  (hK:∀v ak,P v ak->RN S al os Q (put aj d v) ak):gP S al (.sc f vs) d os Q aj blk:=by
 obtain⟨v,ak,h1,h2⟩:=h;exact(aam hh h1).2 (hK v ak h2)
theorem xg{DT:Al}:Al.all.holds DT=true:=rfl
theorem holds_of{DT:Al}(h1:al.fi DT.ids=true)(h2:DT.fs.all al.fs.contains=true):al.holds DT=true:=by unfold Al.holds;rw[h1,h2];simp
theorem DU{id:Nat}(h:(S.sites f).contains (kI id)=true):(allow (S.ctx al) f vs blk).ok id=true:=by show(false||_||(S.sites f).contains (kI id))=true;rw[h];simp
theorem vT{id:Nat}(h:id∈(vs.map (jG blk)).flatten):(allow (S.ctx al) f vs blk).ok id=true:=by
 show(false||(vs.map (jG blk)).flatten.contains id||_)=true;have:(vs.map (jG blk)).flatten.contains id=true:=by simpa using h
 rw[this];rfl
theorem NS{id g g0 o:Nat}{cs:List C}(h:blk id=(g0,some (.var cs))):jG blk (.one (.aZ id g o))=id::(cs.map (jT blk 5)).flatten:=by show jT blk 6 (.aZ id g o)=_;rw[jT,h]
theorem NR{n:Nat}{v:PV}:jT blk n (.p v)=[]:=by cases n<;>rfl
theorem Di{id g g0 o l sz n:Nat}(h:blk id=(g0,some (.arr ty sz es))):jT blk (n+1) (.hsl id g z o l)=[id]:=by rw[jT,h]
def Oa(x:Nat×Option Ob)(id g:Nat):Option (PV×List Nat):=match x with
 |(g',some (.map ag es))=>if g'=g then some (.mp ag es,[id]) else none
 |(g',some (.fmap ag es))=>if g'=g then some (.mp ag es,[id]) else none
 |_=>none
theorem VG{n id g:Nat}:snap blk (n+1) (.iS id g)=Oa (blk id) id g:=by rw[snap];rfl
end
theorem Rd:type_of%(And.intro @OR<|And.intro @OS<|And.intro @OQ<|And.intro @OV<|And.intro @OP<|And.intro @OO<|And.intro @OM<|And.intro @ON<|And.intro @OL<|And.intro @OJ<|And.intro @OK<|And.intro @OY<|And.intro @OZ<|And.intro @OW<|And.intro @Wb<|And.intro @Wa<|And.intro @Wc<|And.intro @Pk<|And.intro @Pl<|And.intro @Pj<|And.intro @Uf<|And.intro @Ue<|And.intro @Ug<|And.intro @TW<|And.intro @TV @TX):=And.intro @OR<|And.intro @OS<|And.intro @OQ<|And.intro @OV<|And.intro @OP<|And.intro @OO<|And.intro @OM<|And.intro @ON<|And.intro @OL<|And.intro @OJ<|And.intro @OK<|And.intro @OY<|And.intro @OZ<|And.intro @OW<|And.intro @Wb<|And.intro @Wa<|And.intro @Wc<|And.intro @Pk<|And.intro @Pl<|And.intro @Pj<|And.intro @Uf<|And.intro @Ue<|And.intro @Ug<|And.intro @TW<|And.intro @TV @TX
theorem Rt:type_of%(And.intro @Pp<|And.intro @Po<|And.intro @SB<|And.intro @SA<|And.intro @Qf<|And.intro @Qe<|And.intro @Ws<|And.intro @Wt<|And.intro @QD<|And.intro @QB<|And.intro @QA<|And.intro @QC<|And.intro @U3<|And.intro @U1<|And.intro @aP<|And.intro @Ts<|And.intro @Tq<|And.intro @OD<|And.intro @OC<|And.intro @Qw<|And.intro @UF<|And.intro @norm_int<|And.intro @Ui<|And.intro @Ur<|And.intro @Up<|And.intro @Uq<|And.intro @Uj<|And.intro @Uk<|And.intro @Uo<|And.intro @Um<|And.intro @Un<|And.intro @Ul<|And.intro @VE<|And.intro @VD<|And.intro @Vz<|And.intro @VC<|And.intro @bft<|And.intro @btf<|And.intro @bff<|And.intro @btt<|And.intro @O8<|And.intro @I4<|And.intro @PJ<|And.intro @PC<|And.intro @PA<|And.intro @VA<|And.intro @O7<|And.intro @VB<|And.intro @VI<|And.intro @VH @VJ):=And.intro @Pp<|And.intro @Po<|And.intro @SB<|And.intro @SA<|And.intro @Qf<|And.intro @Qe<|And.intro @Ws<|And.intro @Wt<|And.intro @QD<|And.intro @QB<|And.intro @QA<|And.intro @QC<|And.intro @U3<|And.intro @U1<|And.intro @aP<|And.intro @Ts<|And.intro @Tq<|And.intro @OD<|And.intro @OC<|And.intro @Qw<|And.intro @UF<|And.intro @norm_int<|And.intro @Ui<|And.intro @Ur<|And.intro @Up<|And.intro @Uq<|And.intro @Uj<|And.intro @Uk<|And.intro @Uo<|And.intro @Um<|And.intro @Un<|And.intro @Ul<|And.intro @VE<|And.intro @VD<|And.intro @Vz<|And.intro @VC<|And.intro @bft<|And.intro @btf<|And.intro @bff<|And.intro @btt<|And.intro @O8<|And.intro @I4<|And.intro @PJ<|And.intro @PC<|And.intro @PA<|And.intro @VA<|And.intro @O7<|And.intro @VB<|And.intro @VI<|And.intro @VH @VJ
theorem Rl:type_of%(And.intro @List.map_nil.{0,0}<|And.intro @List.append_nil.{0}<|And.intro @List.map_cons.{0,0}<|And.intro @List.cons_append.{0}<|And.intro @List.nil_append.{0}<|And.intro @List.drop_zero.{0}<|And.intro @List.take_zero.{0}<|And.intro @List.length_cons.{0}<|And.intro @List.length_nil.{0}<|And.intro @List.take_succ_cons.{0}<|And.intro @List.drop_nil.{0}<|And.intro @List.drop_succ_cons.{0}<|And.intro @List.length_map.{0,0}<|And.intro @List.take_nil.{0}<|And.intro @List.flatten_cons.{0}<|And.intro @List.getElem?_cons_zero.{0}<|And.intro @List.getElem?_cons_succ.{0}<|And.intro @List.all_nil.{0}<|And.intro @List.all_cons.{0}<|And.intro @List.not_mem_nil.{0} @Option.map_some.{0,0}):=And.intro @List.map_nil.{0,0}<|And.intro @List.append_nil.{0}<|And.intro @List.map_cons.{0,0}<|And.intro @List.cons_append.{0}<|And.intro @List.nil_append.{0}<|And.intro @List.drop_zero.{0}<|And.intro @List.take_zero.{0}<|And.intro @List.length_cons.{0}<|And.intro @List.length_nil.{0}<|And.intro @List.take_succ_cons.{0}<|And.intro @List.drop_nil.{0}<|And.intro @List.drop_succ_cons.{0}<|And.intro @List.length_map.{0,0}<|And.intro @List.take_nil.{0}<|And.intro @List.flatten_cons.{0}<|And.intro @List.getElem?_cons_zero.{0}<|And.intro @List.getElem?_cons_succ.{0}<|And.intro @List.all_nil.{0}<|And.intro @List.all_cons.{0}<|And.intro @List.not_mem_nil.{0} @Option.map_some.{0,0}
theorem Rb:type_of%(And.intro @Bool.false_eq_true<|And.intro @Bool.not_true<|And.intro @Bool.not_false<|And.intro @Bool.and_true<|And.intro @Bool.and_false<|And.intro @Bool.true_and<|And.intro @Bool.false_and<|And.intro @true_and<|And.intro @and_true<|And.intro @true_or<|And.intro @or_true<|And.intro @false_or<|And.intro @or_false<|And.intro @decide_true<|And.intro @decide_false<|And.intro @not_true_eq_false<|And.intro @not_false_eq_true<|And.intro @and_self<|And.intro @Nat.le_refl<|And.intro @Nat.zero_add<|And.intro @Nat.mul_one<|And.intro @Nat.zero_mul<|And.intro @Nat.zero_le<|And.intro @Nat.sub_zero @Int.zero_add):=And.intro @Bool.false_eq_true<|And.intro @Bool.not_true<|And.intro @Bool.not_false<|And.intro @Bool.and_true<|And.intro @Bool.and_false<|And.intro @Bool.true_and<|And.intro @Bool.false_and<|And.intro @true_and<|And.intro @and_true<|And.intro @true_or<|And.intro @or_true<|And.intro @false_or<|And.intro @or_false<|And.intro @decide_true<|And.intro @decide_false<|And.intro @not_true_eq_false<|And.intro @not_false_eq_true<|And.intro @and_self<|And.intro @Nat.le_refl<|And.intro @Nat.zero_add<|And.intro @Nat.mul_one<|And.intro @Nat.zero_mul<|And.intro @Nat.zero_le<|And.intro @Nat.sub_zero @Int.zero_add
def grown(site ty z:Nat)(es:List (List PV))(v:V)(blk:aw):Prop:=(es=[]/\v=.one (.p .nils))\/(es≠[]/\ ∃g,v=.one (.hsl site g z 0 es.length)/\blk site=(g,some (.arr ty z es)))
def bg(ty z:Nat)(es:List (List PV)):RC:=if es=[] then .p .nils else .own ty z es
theorem grown.of_eq{blk ak:aw}(h:grown site ty z es v blk)(hb:ak site=blk site):grown site ty z es v ak:=by
 rcases h with h|⟨h1,g,h2,h3⟩
 .exact .inl h
 exact .inr ⟨h1,g,h2,by rw[hb,h3]⟩
theorem grown.nil{blk:aw}:grown site ty z [] (.one (.p .nils)) blk:=.inl ⟨rfl,rfl⟩
theorem grown.jF{blk:aw}(h:grown site ty z es v blk):∃c o,v=.one c/\jF blk c=some (bg ty z es,o,[])/\(o=[]\/o=[site]):=by
 rcases h with ⟨h1,h2⟩|⟨h1,g,h2,h3⟩
 .exact⟨.p .nils,[],h2,by simp[Go.Abs.jF,bg,h1],.inl rfl⟩
 refine⟨_,[site],h2,?_,.inr rfl⟩;simp only[Go.Abs.jF,h3,and_self,bo,if_true,ke,bg,if_neg h1]
theorem tc{blk:aw}(h:grown site ty z es v blk):ji blk v=some (.one (bg ty z es)):=by
 obtain⟨c,o,rfl,h2,h3⟩:=h.jF;rcases h3 with rfl|rfl
 .simp[ji,qB,lX,kV,h2,apart,tM,qq]
 simp[ji,qB,lX,kV,h2,apart,tM,qq]
theorem EX{s1 t1 z1 s2 t2 z2:Nat}{fs:List (List PV)}{w:V}{blk:aw}(hs:s1≠s2)(h:grown s1 t1 z1 es v blk)(h':grown s2 t2 z2 fs w blk):ji blk (.tup [v,w])=some (.tup [.one (bg t1 z1 es),.one (bg t2 z2 fs)]):=by obtain⟨c,o,rfl,h2,h3⟩:=h.jF;obtain⟨d,q,rfl,k2,k3⟩:=h'.jF;rcases h3 with rfl|rfl<;>rcases k3 with rfl|rfl<;>simp[ji,qB,sX,lX,kV,h2,k2,apart,tM,qq,zo,hs]
theorem grown.elems{blk:aw}(h:grown site ty z es v blk):∃r,eK blk v=some (es,r,[])/\(r=[]\/r=[site]):=by
 rcases h with ⟨h1,h2⟩|⟨h1,g,h2,h3⟩
 .exact⟨[],by rw[h2,h1];rfl,.inl rfl⟩
 refine⟨[site],?_,.inr rfl⟩;rw[h2];simp[eK,h3]
theorem grown.j9{blk:aw}(h:grown site ty z es v blk):es=[]\/j9 v=some z:=by
 rcases h with ⟨h1,h2⟩|⟨h1,g,h2,h3⟩
 .exact .inl h1
 exact .inr (by rw[h2];rfl)
theorem grown.fR{blk:aw}(h:grown site ty z es v blk):Go.Abs.j9 v=some z\/fR z es=true:=by
 rcases h.j9 with h|h
 .exact .inr (by rw[h];rfl)
 exact .inl h
theorem grown.len{blk:aw}(h:grown site ty z es v blk):tE v=some es.length:=by
 rcases h with ⟨h1,h2⟩|⟨h1,g,h2,h3⟩
 .rw[h1,h2];rfl
 rw[h2];rfl
theorem grown.snap{blk:aw}(h:grown site ty z es v blk):∃r,kJ blk v=some (.one (.p (.sl es)),r)/\(r=[]\/r=[site]):=by
 rcases h with ⟨h1,h2⟩|⟨h1,g,h2,h3⟩
 .exact⟨[],by rw[h2,h1];rfl,.inl rfl⟩
 refine⟨[site],?_,.inr rfl⟩;rw[h2];simp[kJ,dD,Go.Abs.snap,h3]
theorem grown.N7{c:C}{blk:aw}(h:grown site ty z es (.one c) blk){n:Nat}:∃r,Go.Abs.snap blk (n+1) c=some (.sl es,r)/\(r=[]\/r=[site]):=by
 rcases h with ⟨h1,h2⟩|⟨h1,g,h2,h3⟩
 .cases h2;exact⟨[],by rw[h1];rfl,.inl rfl⟩
 refine⟨[site],?_,.inr rfl⟩;cases h2;simp[Go.Abs.snap,h3]
section
variable {S:Sys} {al:Al} {Q:dF} {aj:Env} {blk:aw} {os all:List aI} {tr:List bl} {d:Option Nat}
theorem II{id bytes:Nat}{xs:List (List PV)}{v x:V}{rd:List Nat}(hg:grown id ty z es v blk)(hx:eK blk x=some (xs,rd,[]))(hz:j9 x=some z\/fR z xs=true)(hr:(es.length+xs.length)*bytes<=140737488355328):
  ∃v' u r,fe blk site ty z bytes v x=.done v' u r/\grown site ty z (es++xs) v' (app u blk)/\(∀i,i≠site->i≠id->app u blk i=blk i)/\(r=rd/\u.map (·.1)=[]\/r=site::rd/\u.map (·.1)=[site]\/r=site::id::rd/\u.map (·.1)=[id,site]):=by
 have ma:¬¬(j9 x=some z\/fR z xs=true):=fun h=>h hz;rcases hg with ⟨rfl,rfl⟩|⟨aR,g,rfl,hC⟩
 .by_cases h0:xs=[]
  .subst h0;refine⟨.one (.p .nils),[],rd,?_,.inl ⟨rfl,rfl⟩,fun i _ _=>rfl,.inl ⟨rfl,rfl⟩⟩;simp[fe,hx,ma,oQ,pZ]
  have hl:¬xs.length=0:=by simpa using h0
  have l8:xs.length*bytes<=room:=by simpa [room] using hr
  refine⟨.one (.hsl site ((blk site).1+1) z 0 xs.length),[(site,((blk site).1+1,some (.arr ty z xs)))],site::rd,?_,.inr ⟨by simpa using h0,(blk site).1+1,af,?_⟩,fun i h1 _=>?_,.inr (.inl ⟨rfl,rfl⟩)⟩
  .simp only[fe,hx,if_neg ma,oQ,pZ,if_neg hl,if_pos l8];simp
  .simp[app,aP]
  simp[app,aP,h1]
 have l8:(es.length+xs.length)*bytes<=room:=by simpa [room] using hr
 refine⟨.one (.hsl site ((blk site).1+1) z 0 (es.length+xs.length)),[(id,(g,none)),(site,((blk site).1+1,some (.arr ty z (es++xs))))],site::id::rd,?_,.inr ⟨by simp[aR],(blk site).1+1,af,?_⟩,fun i h1 h2=>?_,.inr (.inr ⟨rfl,rfl⟩)⟩
 .simp only[fe,hx,if_neg ma,oQ,pZ,hC];simp[l8]
 .simp[app,aP]
 simp[app,aP,h1,h2]
theorem nU{id site ty z bytes:Nat}{es xs:List (List PV)}{v x:V}{rd:List Nat}(hg:grown id ty z es v blk)(hx:eK blk x=some (xs,rd,[]))(hz:j9 x=some z\/fR z xs=true)(hr:(es.length+xs.length)*bytes<=140737488355328)
  (hK:∀(c:C) ak,grown site ty z (es++xs) (.one c) ak->(∀i,i≠site->i≠id->ak i=blk i)->RN S .all os Q (put aj d (.one c)) ak):gP S .all (fe blk site ty z bytes v x) d os Q aj blk:=by
 obtain⟨v',u,r,h1,h2,h3,_⟩:=II hg hx hz hr;obtain⟨c,o,rfl,_⟩:=h2.jF;rw[h1,EM];exact hK _ _ h2 h3
theorem wy{id site ty z bytes:Nat}{es xs:List (List PV)}{v x:V}{rd:List Nat}(hg:grown id ty z es v blk)(hx:eK blk x=some (xs,rd,[]))(hz:j9 x=some z\/fR z xs=true)(hr:(es.length+xs.length)*bytes<=140737488355328)
  (hK:∀(c:C) ak r w,grown site ty z (es++xs) (.one c) ak->(∀i,i≠site->i≠id->ak i=blk i)->(r=rd/\w=[]\/r=site::rd/\w=[site]\/r=site::id::rd/\w=[id,site])->RD S .all all os Q (put aj d (.one c)) ak (tr++[⟨r,w,[]⟩])):dP S .all (fe blk site ty z bytes v x) d all os Q aj blk tr:=by
 obtain⟨v',u,r,h1,h2,h3,h4⟩:=II hg hx hz hr;obtain⟨c,o,rfl,_⟩:=h2.jF;rw[h1,El];exact hK _ _ _ _ h2 h3 h4
theorem uH{s:Nat}:grown s ty z es (.one (cY blk s (bg ty z es)).1) (app (cY blk s (bg ty z es)).2 blk)/\(∀i,i≠s->app (cY blk s (bg ty z es)).2 blk i=blk i)/\((cY blk s (bg ty z es)).2.map (·.1)=[]\/(cY blk s (bg ty z es)).2.map (·.1)=[s]):=by
 unfold bg;by_cases h:es=[]
 .rw[if_pos h];exact⟨.inl ⟨h,rfl⟩,fun i _=>rfl,.inl rfl⟩
 rw[if_neg h];exact⟨.inr ⟨h,(blk s).1+1,rfl,by simp[cY,app,aP]⟩,fun i hi=>by simp[cY,app,aP,hi],.inr rfl⟩
theorem xB(r:RV):r.fx false=r:=rfl
theorem jz{f:Nat}{vs:List V}{s ty z:Nat}{rd:List Nat}{es:List (List PV)}(hp:aE S f vs (.one (bg ty z es)))(eY:S.lone s=false)(nn:rd=[]\/(RV.one (bg ty z es)).alone=true)
  (hK:∀(c:C) ak,grown s ty z es (.one c) ak->(∀i,i≠s->ak i=blk i)->RN S .all os Q (put aj d (.one c)) ak):gP S .all (.pc f vs rd s) d os Q aj blk:=by
 obtain⟨h1,h2,_⟩:=uH (blk:=blk) (s:=s) (ty:=ty) (z:=z) (es:=es);refine(cN (v:=.one (cY blk s (bg ty z es)).1) (u:=(cY blk s (bg ty z es)).2) hp ?_).2 (hK _ _ h1 h2);rw[eY,xB];unfold land;rw[if_pos nn];simp[jg,iZ,jy,iJ,re,mg]
theorem Sx{f:Nat}{vs:List V}{s t1 z1 t2 z2:Nat}{es fs:List (List PV)}(hp:aE S f vs (.tup [.one (bg t1 z1 es),.one (bg t2 z2 fs)]))(eY:S.lone s=false)
  (hK:∀(c e:C) ak,grown s t1 z1 es (.one c) ak->grown (s+1) t2 z2 fs (.one e) ak->(∀i,i≠s->i≠s+1->ak i=blk i)->RN S .all os Q (put aj d (.tup [.one c,.one e])) ak):gP S .all (.pc f vs [] s) d os Q aj blk:=by
 obtain⟨h1,h2,_⟩:=uH (blk:=blk) (s:=s) (ty:=t1) (z:=z1) (es:=es);have e0:∀(b b':aw) (k:Nat) (r:RC),b' k=b k->cY b k r=cY b' k r:=by
  intro b b' k r h;cases r with
  |p v=>rfl
  |own ty sz es=>simp only[cY,h]
 have e2:cY blk (s+1) (bg t2 z2 fs)=cY (app (cY blk s (bg t1 z1 es)).2 blk) (s+1) (bg t2 z2 fs):=e0 _ _ _ _ (h2 (s+1) aa);obtain⟨k1,k2,_⟩:=uH (blk:=app (cY blk s (bg t1 z1 es)).2 blk) (s:=s+1) (ty:=t2) (z:=z2) (es:=fs);rw[<- e2] at k1 k2;have Mn:∀(a b:List dH) (c:aw),app (a++b) c=app b (app a c):=by
  intro a
  induction a with
  |nil=>intro b c;rfl
  |cons x a ih=>intro b c;exact ih b _
 refine(cN (v:=.tup [.one (cY blk s (bg t1 z1 es)).1,.one (cY blk (s+1) (bg t2 z2 fs)).1]) (u:=(cY blk s (bg t1 z1 es)).2++(cY blk (s+1) (bg t2 z2 fs)).2) hp ?_).2 (hK _ _ _ ?_ ?_ ?_)
 .rw[eY,xB];unfold land;rw[if_pos (.inl rfl)];simp[jg,iZ,oO,jy,iJ,re,rh,mg]
 .rw[Mn];exact h1.of_eq (k2 s aa)
 .rw[Mn];exact k1
 intro i a b;rw[Mn,k2 i b,h2 i a]
end
theorem eu(h:(es.all fun e=>e.all PV.scalar)=true):(RV.one (bg ty z es)).alone=true:=by
 unfold bg;split
 .rfl
 simp[RV.alone,iZ,jy,RC.alone,h]
theorem grown.dD{c:C}{blk:aw}(h:grown site ty z es (.one c) blk):∃r,Go.Abs.snap blk Go.Abs.dD c=some (.sl es,r)/\(r=[]\/r=[site]):=h.N7
def rD(blk:aw)(r:List Nat):Prop:=∀i∈r,∃g ty z es,blk i=(g,some (.arr ty z es))
theorem rD.nil{blk:aw}:rD blk []:=fun _ h=>by simp at h
theorem rD.app{blk:aw}{a b:List Nat}(h:rD blk a)(k:rD blk b):rD blk (a++b):=fun i hi=>by
 rcases fk.1 hi with hi|hi
 .exact h i hi
 exact k i hi
theorem grown.I1{c:C}{blk:aw}(h:grown site ty z es (.one c) blk):∃r,Go.Abs.snap blk Go.Abs.dD c=some (.sl es,r)/\rD blk r/\(r=[]\/r=[site]):=by
 rcases h with ⟨h1,h2⟩|⟨h1,g,h2,h3⟩
 .cases h2;exact⟨[],by rw[h1];rfl,rD.nil,.inl rfl⟩
 refine⟨[site],?_,fun i hi=>?_,.inr rfl⟩
 .cases h2;simp[Go.Abs.snap,Go.Abs.dD,h3]
 rw[sK] at hi;subst hi;exact⟨_,_,_,_,h3⟩
theorem Sq{blk:aw}(all:List Nat):∀r:List Nat,rD blk r->∃fu,pZ blk all r=some fu/\fu.map (·.1)=r:=by
 intro r
 induction r with
 |nil=>intro _;exact⟨[],rfl,rfl⟩
 |cons i r ih=>intro h;obtain⟨g,ty,z,es,hi⟩:=h i af;obtain⟨fu,h1,h2⟩:=ih fun j hj=>h j (by simp[hj]);refine⟨(i,(g,some (.lr ty z es)))::fu,?_,by simp[h2]⟩;simp[pZ,sY,hi,h1]
theorem BJ:∀(u:List dH) (b:aw) (i:Nat),i∉u.map (·.1)->app u b i=b i:=by
 intro u
 induction u with
 |nil=>intro b i _;rfl
 |cons x u ih=>intro b i h;simp only[dE,dU,not_or] at h;show app u (ca b x.1 x.2) i=b i;rw[ih _ _ h.2,aP,if_neg h.1]
theorem tZ:∀(a b:List dH) (c:aw),app (a++b) c=app b (app a c):=by
 intro a
 induction a with
 |nil=>intro b c;rfl
 |cons x a ih=>intro b c;exact ih b _
section
variable {S:Sys} {al:Al} {Q:dF} {aj:Env} {blk:aw} {os all:List aI} {tr:List bl} {d:Option Nat}
theorem aaj{id site ty z bytes:Nat}{es xs:List (List PV)}{v x:V}{rd fr:List Nat}(hg:grown id ty z es v blk)(hx:eK blk x=some (xs,rd,fr))(o9:rD blk fr)(hni:id∉fr)(hns:site∉fr)(hz:j9 x=some z\/fR z xs=true)(hr:(es.length+xs.length)*bytes<=140737488355328)
  (hK:∀(c:C) ak,grown site ty z (es++xs) (.one c) ak->(∀i,i≠site->i≠id->i∉fr->ak i=blk i)->RN S .all os Q (put aj d (.one c)) ak):gP S .all (fe blk site ty z bytes v x) d os Q aj blk:=by
 have ma:¬¬(j9 x=some z\/fR z xs=true):=fun h=>h hz;obtain⟨fu,Cm,tu⟩:=Sq fr fr o9;have Aj:oQ blk fr=some fu:=Cm;rcases hg with ⟨rfl,rfl⟩|⟨aR,g,rfl,hC⟩
 .by_cases h0:xs=[]
  .subst h0;have:fe blk site ty z bytes (.one (.p .nils)) x=.done (.one (.p .nils)) fu (rd++fr):=by simp[fe,hx,ma,Aj]
   rw[this,EM];exact hK _ _ (.inl ⟨rfl,rfl⟩) fun i _ _ h3=>BJ _ _ _ (by rw[tu];exact h3)
  have hl:¬xs.length=0:=by simpa using h0
  have l8:xs.length*bytes<=room:=by simpa [room] using hr
  have:fe blk site ty z bytes (.one (.p .nils)) x=.done (.one (.hsl site ((blk site).1+1) z 0 xs.length)) (fu++[(site,((blk site).1+1,some (.arr ty z xs)))]) (site::rd++fr):=by simp only[fe,hx,if_neg ma,Aj,if_neg hl,if_pos l8]
  rw[this,EM];refine hK _ _ (.inr ⟨by simpa using h0,(blk site).1+1,af,?_⟩) fun i h1 _ h3=>?_
  .rw[tZ];simp[app,aP]
  rw[tZ];have:=BJ fu blk i (by rw[tu];exact h3);simp[app,aP,h1,this]
 have l8:(es.length+xs.length)*bytes<=room:=by simpa [room] using hr
 have hnc:fr.contains id=false:=by simpa using hni
 have:fe blk site ty z bytes (.one (.hsl id g z 0 es.length)) x=.done (.one (.hsl site ((blk site).1+1) z 0 (es.length+xs.length))) (fu++[(id,(g,none)),(site,((blk site).1+1,some (.arr ty z (es++xs))))]) (site::id::rd++fr):=by simp only[fe,hx,if_neg ma,Aj,hC,hnc];simp[l8]
 rw[this,EM];refine hK _ _ (.inr ⟨by simp[aR],(blk site).1+1,af,?_⟩) fun i h1 h2 h3=>?_
 .rw[tZ];simp[app,aP]
 rw[tZ];have:=BJ fu blk i (by rw[tu];exact h3);simp[app,aP,h1,h2,this]
end
section
variable {S:Sys} {al:Al} {Q:dF} {aj:Env} {blk:aw} {os all:List aI} {tr:List bl} {d:Option Nat}
theorem No{l:List Nat}(h:∀i∈l,al.ok i=true):al.fi l=true:=im.2 h
theorem HG{id site ty z bytes:Nat}{es xs:List (List PV)}{v x:V}{rd:List Nat}(aq:∀i∈site::id::rd,al.ok i=true)(hg:grown id ty z es v blk)(hx:eK blk x=some (xs,rd,[]))(hz:j9 x=some z\/fR z xs=true)(hr:(es.length+xs.length)*bytes<=140737488355328)
  (hK:∀(c:C) ak,grown site ty z (es++xs) (.one c) ak->(∀i,i≠site->i≠id->ak i=blk i)->RN S al os Q (put aj d (.one c)) ak):gP S al (fe blk site ty z bytes v x) d os Q aj blk:=by
 obtain⟨v',u,r,h1,h2,h3,h4⟩:=II hg hx hz hr;obtain⟨c,o,rfl,_⟩:=h2.jF;rw[h1,Sv];refine⟨?_,hK _ _ h2 h3⟩;rcases h4 with ⟨rfl,h5⟩|⟨rfl,h5⟩|⟨rfl,h5⟩<;>rw[h5]<;>refine No fun i hi=>aq i ?_ <;>simp at hi ⊢
 .exact .inr (.inr hi)
 .rcases hi with h|h|h<;>simp[h]
 rcases hi with h|h|h|h|h<;>simp[h]
theorem Hj{id site ty z bytes:Nat}{es xs:List (List PV)}{v x:V}{rd:List Nat}(aq:∀i∈site::id::rd,al.ok i=true)(hg:grown id ty z es v blk)(hx:eK blk x=some (xs,rd,[]))(hz:j9 x=some z\/fR z xs=true)(hr:(es.length+xs.length)*bytes<=140737488355328)
  (hK:∀(c:C) ak r w,grown site ty z (es++xs) (.one c) ak->(∀i,i≠site->i≠id->ak i=blk i)->(r=rd/\w=[]\/r=site::rd/\w=[site]\/r=site::id::rd/\w=[id,site])->RD S al all os Q (put aj d (.one c)) ak (tr++[⟨r,w,[]⟩])):dP S al (fe blk site ty z bytes v x) d all os Q aj blk tr:=by
 obtain⟨v',u,r,h1,h2,h3,h4⟩:=II hg hx hz hr;obtain⟨c,o,rfl,_⟩:=h2.jF;rw[h1,Qc];refine⟨?_,hK _ _ _ _ h2 h3 h4⟩;rcases h4 with ⟨rfl,h5⟩|⟨rfl,h5⟩|⟨rfl,h5⟩<;>rw[h5]<;>refine No fun i hi=>aq i ?_ <;>simp at hi ⊢
 .exact .inr (.inr hi)
 .rcases hi with h|h|h<;>simp[h]
 rcases hi with h|h|h|h|h<;>simp[h]
theorem aak{f:Nat}{vs:List V}{s t1 z1 t2 z2:Nat}{rd:List Nat}{es fs:List (List PV)}(aq:∀i∈s::(s+1)::rd,al.ok i=true)(hp:aE S f vs (.tup [.one (bg t1 z1 es),.one (bg t2 z2 fs)]))(eY:S.lone s=false)
  (jS:(es.all fun e=>e.all PV.scalar)=true) (eP:(fs.all fun e=>e.all PV.scalar)=true)
  (hK:∀(c e:C) ak,grown s t1 z1 es (.one c) ak->grown (s+1) t2 z2 fs (.one e) ak->(∀i,i≠s->i≠s+1->ak i=blk i)->RN S al os Q (put aj d (.tup [.one c,.one e])) ak):gP S al (.pc f vs rd s) d os Q aj blk:=by
 have gI:(RV.tup [.one (bg t1 z1 es),.one (bg t2 z2 fs)]).alone=true:=by have a:=eu (ty:=t1) (z:=z1) jS;have b:=eu (ty:=t2) (z:=z2) eP;simp only[RV.alone,iZ,jy,tQ,vN,Bool.and_true] at a b;simp[RV.alone,iZ,oO,jy,a,b]
 obtain⟨h1,h2,h2u⟩:=uH (blk:=blk) (s:=s) (ty:=t1) (z:=z1) (es:=es);have e0:∀(b b':aw) (k:Nat) (r:RC),b' k=b k->cY b k r=cY b' k r:=by
  intro b b' k r h;cases r with
  |p v=>rfl
  |own ty sz es=>simp only[cY,h]
 have e2:cY blk (s+1) (bg t2 z2 fs)=cY (app (cY blk s (bg t1 z1 es)).2 blk) (s+1) (bg t2 z2 fs):=e0 _ _ _ _ (h2 (s+1) aa);obtain⟨k1,k2,k2u⟩:=uH (blk:=app (cY blk s (bg t1 z1 es)).2 blk) (s:=s+1) (ty:=t2) (z:=z2) (es:=fs);rw[<- e2] at k1 k2 k2u;refine⟨_,hp,?_⟩;rw[eY,xB];have hl:land blk rd s (RV.tup [.one (bg t1 z1 es),.one (bg t2 z2 fs)])=some (.tup [.one (cY blk s (bg t1 z1 es)).1,.one (cY blk (s+1) (bg t2 z2 fs)).1],(cY blk s (bg t1 z1 es)).2++(cY blk (s+1) (bg t2 z2 fs)).2):=by unfold land;rw[if_pos (.inr gI)];simp[jg,iZ,oO,jy,iJ,re,rh,mg]
 rw[hl];refine⟨No fun i hi=>aq i ?_,hK _ _ _ ?_ ?_ ?_⟩
 .simp only[uU,fk] at hi;rcases hi with hi|hi|hi
  .simp[hi]
  .rcases h2u with h|h<;>rw[h] at hi<;>simp at hi<;>simp[hi]
  rcases k2u with h|h<;>rw[h] at hi<;>simp at hi<;>simp[hi]
 .rw[tZ];exact h1.of_eq (k2 s aa)
 .rw[tZ];exact k1
 intro i a b;rw[tZ,k2 i b,h2 i a]
end
theorem aJ{b:aw}{a i:Nat}{x:Nat×Option Ob}(h:i≠a):ca b a x i=b i:=by rw[aP,if_neg h]
theorem rn{b:aw}{a:Nat}{x:Nat×Option Ob}:ca b a x a=x:=by rw[aP,if_pos rfl]
theorem Iq{a i:Nat}{l:List Nat}(h:i∉l)(ha:a∈l):i≠a:=fun e=>h (e▸ha)
section
variable {S:Sys} {al:Al} {Q:dF} {aj:Env} {blk:aw} {os all:List aI} {tr:List bl} {d:Option Nat}
theorem Sw{f:Nat}{vs:List V}{s ty z:Nat}{es:List (List PV)}{x:PV}(hp:aE S f vs (.tup [.one (bg ty z es),.one (.p x)]))(eY:S.lone s=false)
  (hK:∀(c:C) ak,grown s ty z es (.one c) ak->(∀i,i≠s->ak i=blk i)->RN S .all os Q (put aj d (.tup [.one c,.one (.p x)])) ak):gP S .all (.pc f vs [] s) d os Q aj blk:=by
 obtain⟨h1,h2,_⟩:=uH (blk:=blk) (s:=s) (ty:=ty) (z:=z) (es:=es);refine(cN (v:=.tup [.one (cY blk s (bg ty z es)).1,.one (.p x)]) (u:=(cY blk s (bg ty z es)).2) hp ?_).2 (hK _ _ h1 h2);rw[eY,xB];unfold land;rw[if_pos (.inl rfl)];simp[jg,iZ,oO,jy,iJ,re,rh,mg,cY]
theorem gH{f:Nat}{vs:List V}{s ty z:Nat}{rd:List Nat}{es:List (List PV)}(hp:aE S f vs (.one (bg ty z es)))(eY:S.lone s=false)(nn:rd=[]\/(RV.one (bg ty z es)).alone=true)
  (hK:∀(c:C) ak w,grown s ty z es (.one c) ak->(∀i,i≠s->ak i=blk i)->(w=[]\/w=[s])->RD S .all all os Q (put aj d (.one c)) ak (tr++[⟨rd++w,w,[]⟩])):dP S .all (.pc f vs rd s) d all os Q aj blk tr:=by
 obtain⟨h1,h2,h3⟩:=uH (blk:=blk) (s:=s) (ty:=ty) (z:=z) (es:=es);refine(fp (v:=.one (cY blk s (bg ty z es)).1) (u:=(cY blk s (bg ty z es)).2) hp ?_).2 (hK _ _ _ h1 h2 h3);rw[eY,xB];unfold land;rw[if_pos nn];simp[jg,iZ,jy,iJ,re,mg]
theorem Qd{f:Nat}{vs:List V}{s ty z:Nat}{es:List (List PV)}{x:PV}(hp:aE S f vs (.tup [.one (bg ty z es),.one (.p x)]))(eY:S.lone s=false)
  (hK:∀(c:C) ak w,grown s ty z es (.one c) ak->(∀i,i≠s->ak i=blk i)->(w=[]\/w=[s])->RD S .all all os Q (put aj d (.tup [.one c,.one (.p x)])) ak (tr++[⟨[]++w,w,[]⟩])):dP S .all (.pc f vs [] s) d all os Q aj blk tr:=by
 obtain⟨h1,h2,h3⟩:=uH (blk:=blk) (s:=s) (ty:=ty) (z:=z) (es:=es);refine(fp (v:=.tup [.one (cY blk s (bg ty z es)).1,.one (.p x)]) (u:=(cY blk s (bg ty z es)).2) hp ?_).2 (hK _ _ _ h1 h2 h3);rw[eY,xB];unfold land;rw[if_pos (.inl rfl)];simp[jg,iZ,oO,jy,iJ,re,rh,mg,cY]
theorem Sy{f:Nat}{vs:List V}{s ty z:Nat}{rd:List Nat}{es:List (List PV)}{x:PV}(hp:aE S f vs (.agg [.p x,bg ty z es]))(eY:S.lone s=false)(hx:x.scalar=true)(hs:(es.all fun e=>e.all PV.scalar)=true)
  (hK:∀(c:C) ak,grown (s+1) ty z es (.one c) ak->(∀i,i≠s+1->ak i=blk i)->RN S .all os Q (put aj d (.agg [.p x,c])) ak):gP S .all (.pc f vs rd s) d os Q aj blk:=by
 obtain⟨h1,h2,_⟩:=uH (blk:=blk) (s:=s+1) (ty:=ty) (z:=z) (es:=es);have gI:(RV.agg [.p x,bg ty z es]).alone=true:=by have a:=eu (ty:=ty) (z:=z) hs;simp only[RV.alone,iZ,jy,tQ,vN,Bool.and_true] at a;simp only[RV.alone,iZ,jy,tQ,vN,Bool.and_true,a];exact hx
 refine(cN (v:=.agg [.p x,(cY blk (s+1) (bg ty z es)).1]) (u:=(cY blk (s+1) (bg ty z es)).2) hp ?_).2 (hK _ _ h1 h2);rw[eY,xB];unfold land;rw[if_pos (.inr gI)];simp[jg,iZ,jy,iJ,re,mg,cY]
theorem EN{f:Nat}{vs:List V}{s ty z:Nat}{es:List (List PV)}{x y:PV}(hp:aE S f vs (.tup [.agg [.p x,bg ty z es],.one (.p y)]))(eY:S.lone s=false)
  (hK:∀(c:C) ak,grown (s+1) ty z es (.one c) ak->(∀i,i≠s+1->ak i=blk i)->RN S .all os Q (put aj d (.tup [.agg [.p x,c],.one (.p y)])) ak):gP S .all (.pc f vs [] s) d os Q aj blk:=by
 obtain⟨h1,h2,_⟩:=uH (blk:=blk) (s:=s+1) (ty:=ty) (z:=z) (es:=es);refine(cN (v:=.tup [.agg [.p x,(cY blk (s+1) (bg ty z es)).1],.one (.p y)]) (u:=(cY blk (s+1) (bg ty z es)).2) hp ?_).2 (hK _ _ h1 h2);rw[eY,xB];unfold land;rw[if_pos (.inl rfl)];simp[jg,iZ,oO,jy,iJ,re,rh,mg,cY]
end
theorem HL{s1 t1 z1:Nat}{c:C}{y:PV}{blk:aw}(h:grown s1 t1 z1 es (.one c) blk):ji blk (.tup [.agg [.p x,c],.one (.p y)])=some (.tup [.agg [.p x,bg t1 z1 es],.one (.p y)]):=by obtain⟨c',o,hc,h2,h3⟩:=h.jF;cases hc;have e1:jF blk (.p x)=some (.p x,[],[]):=rfl;have e2:jF blk (.p y)=some (.p y,[],[]):=rfl;rcases h3 with rfl|rfl<;>simp[ji,qB,sX,lX,kV,h2,e1,e2,apart,tM,qq,zo]
section
variable {S:Sys} {al:Al} {Q:dF} {aj:Env} {blk:aw} {os all:List aI} {tr:List bl} {d:Option Nat} {op:jk} {w:Option Bool} {a b:aH} {v:V}
theorem dG(L:List Nat)(h:∀e:Env,(∀k∈L,e k=aj k)->gW S al w d op os Q e blk):gW S al w d op os Q aj blk:=h aj fun _ _=>rfl
theorem mY(L:List Nat)(h:∀e:Env,(∀k∈L,e k=aj k)->dW S al w d op all os Q e blk tr):dW S al w d op all os Q aj blk tr:=h aj fun _ _=>rfl
theorem Pn(L:List Nat)(h:∀e:Env,(∀k∈L,e k=aj k)->cW S al v a b Q e blk):cW S al v a b Q aj blk:=h aj fun _ _=>rfl
end
section
variable {S:Sys} {al:Al} {Q:dF} {aj:Env} {blk:aw} {os all:List aI} {tr:List bl} {d:Option Nat}
theorem Qa{id site ty z bytes:Nat}{es xs:List (List PV)}{v x:V}{rd fr:List Nat}(hg:grown id ty z es v blk)(hx:eK blk x=some (xs,rd,fr))(o9:rD blk fr)(hni:id∉fr)(hns:site∉fr)(hz:j9 x=some z\/fR z xs=true)(hr:(es.length+xs.length)*bytes<=140737488355328)
  (hK:∀(c:C) ak r w,grown site ty z (es++xs) (.one c) ak->(∀i,i≠site->i≠id->i∉fr->ak i=blk i)->(r=rd++fr/\w=fr\/r=site::rd++fr/\w=fr++[site]\/r=site::id::rd++fr/\w=fr++[id,site])->RD S .all all os Q (put aj d (.one c)) ak (tr++[⟨r,w,[]⟩])):dP S .all (fe blk site ty z bytes v x) d all os Q aj blk tr:=by
 have ma:¬¬(j9 x=some z\/fR z xs=true):=fun h=>h hz;obtain⟨fu,Cm,tu⟩:=Sq fr fr o9;have Aj:oQ blk fr=some fu:=Cm;rcases hg with ⟨rfl,rfl⟩|⟨aR,g,rfl,hC⟩
 .by_cases h0:xs=[]
  .subst h0;have:fe blk site ty z bytes (.one (.p .nils)) x=.done (.one (.p .nils)) fu (rd++fr):=by simp[fe,hx,ma,Aj]
   rw[this,El];exact hK _ _ _ _ (.inl ⟨rfl,rfl⟩) (fun i _ _ h3=>BJ _ _ _ (by rw[tu];exact h3)) (.inl ⟨rfl,tu⟩)
  have hl:¬xs.length=0:=by simpa using h0
  have l8:xs.length*bytes<=room:=by simpa [room] using hr
  have:fe blk site ty z bytes (.one (.p .nils)) x=.done (.one (.hsl site ((blk site).1+1) z 0 xs.length)) (fu++[(site,((blk site).1+1,some (.arr ty z xs)))]) (site::rd++fr):=by simp only[fe,hx,if_neg ma,Aj,if_neg hl,if_pos l8]
  rw[this,El];refine hK _ _ _ _ (.inr ⟨by simpa using h0,(blk site).1+1,af,?_⟩) (fun i h1 _ h3=>?_) (.inr (.inl ⟨rfl,by simp[tu]⟩))
  .rw[tZ];simp[app,aP]
  rw[tZ];have:=BJ fu blk i (by rw[tu];exact h3);simp[app,aP,h1,this]
 have l8:(es.length+xs.length)*bytes<=room:=by simpa [room] using hr
 have hnc:fr.contains id=false:=by simpa using hni
 have:fe blk site ty z bytes (.one (.hsl id g z 0 es.length)) x=.done (.one (.hsl site ((blk site).1+1) z 0 (es.length+xs.length))) (fu++[(id,(g,none)),(site,((blk site).1+1,some (.arr ty z (es++xs))))]) (site::id::rd++fr):=by simp only[fe,hx,if_neg ma,Aj,hC,hnc];simp[l8]
 rw[this,El];refine hK _ _ _ _ (.inr ⟨by simp[aR],(blk site).1+1,af,?_⟩) (fun i h1 h2 h3=>?_) (.inr (.inr ⟨rfl,by simp[tu]⟩))
 .rw[tZ];simp[app,aP]
 rw[tZ];have:=BJ fu blk i (by rw[tu];exact h3);simp[app,aP,h1,h2,this]
theorem HH{f:Nat}{vs:List V}{s ty z:Nat}{rd:List Nat}{es:List (List PV)}{x:PV}(hp:aE S f vs (.tup [.one (bg ty z es),.one (.p x)]))(eY:S.lone s=false)(hs:(es.all fun e=>e.all PV.scalar)=true)(hx:x.scalar=true)
  (hK:∀(c:C) ak,grown s ty z es (.one c) ak->(∀i,i≠s->ak i=blk i)->RN S .all os Q (put aj d (.tup [.one c,.one (.p x)])) ak):gP S .all (.pc f vs rd s) d os Q aj blk:=by
 obtain⟨h1,h2,_⟩:=uH (blk:=blk) (s:=s) (ty:=ty) (z:=z) (es:=es);have gI:(RV.tup [.one (bg ty z es),.one (.p x)]).alone=true:=by have a:=eu (ty:=ty) (z:=z) hs;simp only[RV.alone,iZ,jy,tQ,vN,Bool.and_true] at a;simp only[RV.alone,iZ,oO,jy,List.cons_append,xQ,qu,tQ,vN,Bool.and_true,a,Bool.true_and];exact hx
 refine(cN (v:=.tup [.one (cY blk s (bg ty z es)).1,.one (.p x)]) (u:=(cY blk s (bg ty z es)).2) hp ?_).2 (hK _ _ h1 h2);rw[eY,xB];unfold land;rw[if_pos (.inr gI)];simp[jg,iZ,oO,jy,iJ,re,rh,mg,cY]
end
section
variable {S:Sys} {al:Al} {Q:dF} {aj:Env} {blk:aw} {os all:List aI} {tr:List bl} {d:Option Nat} {op:jk} {a b:aH} {e w:Bool}
theorem aal{rd:List Nat}{s:Nat}{r:RV}{u:List dH}(hp:aE S f vs r)(h:land blk rd s (r.fx (S.lone s))=some (v,u)):gP S al (.pc f vs rd s) d os Q aj blk↔al.fi (rd++u.map (·.1))=true/\RN S al os Q (put aj d v) (app u blk):=by
 constructor
 .rintro ⟨y,hy,h2⟩
  have:=hy.wA hp;subst this;rw[h] at h2;exact h2
 intro hK;refine⟨_,hp,?_⟩;rw[h];exact hK
theorem YW{rd:List Nat}{s:Nat}{r:RV}{u:List dH}(hp:aE S f vs r)(h:land blk rd s (r.fx (S.lone s))=some (v,u)):dP S al (.pc f vs rd s) d all os Q aj blk tr↔al.fi (rd++u.map (·.1))=true/\RD S al all os Q (put aj d v) (app u blk) (tr++[⟨rd++u.map (·.1),u.map (·.1),[]⟩]):=by
 constructor
 .rintro ⟨y,hy,h2⟩
  have:=hy.wA hp;subst this;rw[h] at h2;exact h2
 intro hK;refine⟨_,hp,?_⟩;rw[h];exact hK
theorem TH{s:Nat}(b:Bool):land blk [] s ((RV.one (.p x)).fx b)=some (.one (.p x),[]):=by cases b<;>rfl
theorem Mj{s:Nat}(h:aE S f vs (.one (.p x))):gP S al (.pc f vs [] s) d os Q aj blk↔RN S al os Q (put aj d (.one (.p x))) blk:=by rw[aal h (TH _)];exact⟨fun h=>h.2,fun h=>⟨rfl,h⟩⟩
theorem Hk{s:Nat}(h:aE S f vs (.one (.p x))):dP S al (.pc f vs [] s) d all os Q aj blk tr↔RD S al all os Q (put aj d (.one (.p x))) blk (tr++[⟨[],[],[]⟩]):=by rw[YW h (TH _)];exact⟨fun h=>h.2,fun h=>⟨rfl,h⟩⟩
end
section
variable {S:Sys} {al:Al} {Q:dF} {aj:Env} {blk:aw} {os all:List aI} {tr:List bl} {d:Option Nat} {op:jk} {w:Option Bool} {a b:aH} {v:V} {p:ej}
end
theorem grown.N6{c:C}{blk:aw}(h:grown site ty z es (.one c) blk):∃r,(∀B:aw,B site=blk site->Go.Abs.snap B Go.Abs.dD c=some (.sl es,r))/\(r=[]\/r=[site]):=by
 rcases h with ⟨h1,h2⟩|⟨h1,g,h2,h3⟩
 .cases h2;exact⟨[],fun B _=>by rw[h1];rfl,.inl rfl⟩
 cases h2;refine⟨[site],fun B hB=>?_,.inr rfl⟩;rw[<- hB] at h3;simp[Go.Abs.dD,Go.Abs.snap,h3]
end
end Go.Abs
namespace Go.Abs
open Go
section
variable {S:Sys} {al:Al} {Q:dF} {os all:List aI} {d:Option Nat} {aj:Env} {blk:aw} {tr:List bl}
end
end Go.Abs
namespace Go.Abs
theorem fm1{p:Nat->Prop}:(∀k∈([]:List Nat),p k)↔True:=by simp
theorem fm2{a:Nat}{l:List Nat}{p:Nat->Prop}:(∀k∈a::l,p k)↔p a/\ ∀k∈l,p k:=List.forall_mem_cons
attribute [go_sem] fm1 fm2 vx bne_self_eq_false Bool.or_true Bool.or_false Bool.true_or Bool.false_or Bool.not_not jg iZ jy oO cY iJ re mg rh Option.getD_some Option.getD_none Option.isSome_some Option.isSome_none
attribute [go_sem ↓] Rd
attribute [go_sem high] EM El
attribute [go_sem] Rt Rl Rb Sv Qc Nn Nl Bool.and_self Al.zQ
attribute [go_sem] aT mu oG wE AZ app if_true if_false reduceIte Nat.reduceEqDiff beq_self_eq_true reduceCtorEq ge_iff_le kW Iu uQ yn Nat.reduceAdd vF lM uS dM mW tE ne_eq Nat.reduceLeDiff tG uh vJ vI toP fill Nat.reduceMul Nat.reduceLT I3 I2
attribute [go_sem] eK j9 oQ pZ room xA mV Nat.reduceSub Int.reduceLT Int.reduceAdd Int.reduceBEq Int.reduceBNe Int.reduceLE List.contains_eq_mem qW
end Go.Abs
