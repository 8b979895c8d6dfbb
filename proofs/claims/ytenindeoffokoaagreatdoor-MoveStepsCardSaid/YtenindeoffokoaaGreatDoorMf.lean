/-
  Rules for a walk.
-/
import Derived.Test.YtenindeoffokoaaGreatDoorMc
import Derived.Attr
set_option linter.all false
open List renaming length->I
namespace Go.Abs
variable{X:eO}{n M N s1 E D F H:Nat}{u:kR}{T:Nat->bJ->aJ->Prop}{Z:List (Nat×Option eT)}{R:V->aJ->Prop}{L ao:aJ}{Y:cF}{B:dI}
section
variable{x:PV}{f m y z:Nat}{A:dZ}{v:V}{j:dI}
theorem arP(k:Nat):tE (.one (.p (.int .i64 (k:Int))))=some k:=by simp[tE]
theorem anB(n:Nat):tE (.one (.p (.int .i64 (no_index (@OfNat.ofNat Int n instOfNat)))))=some (@OfNat.ofNat Nat n (instOfNatNat n)):=by show tE (.one (.p (.int .i64 (Int.ofNat n))))=some n;simp[tE]
theorem Xh{blk:aJ}{v:PV}:snap blk jl (.p v)=some (v.norm,[]):=rfl
def abl{β:Type}(x:Option (β×aG))(y:Option (List β×aG)):Option (List β×aG):=match x,y with
 |some (b,x),some (B,y)=>some (b::B,x++y)
 |_,_=>none
theorem anY{β:Type}{b:β}{x:aG}{B:List β}{y:aG}:abl (some (b,x)) (some (B,y))=some (b::B,x++y):=rfl
theorem avE{α β:Type}{f:α->Option (β×aG)}:iB f []=some ([],[]):=rfl
theorem anO{α β:Type}{f:α->Option (β×aG)}{a:α}{r:List α}:iB f (a::r)=abl (f a) (iB f r):=by
 simp[iB,abl]
 grind
theorem apN{blk:aJ}{c:bd}:qD blk (.one c)=(snap blk jl c).map λ(v,r)=>(.one (.p v),r):=rfl
theorem aBl{blk:aJ}:qD blk (.agg X)=(iB (snap blk jl) X).map λ(A,r)=>(.agg (A.map .p),r):=rfl
theorem aAm{blk:aJ}{v:PV}:snap blk (n+1) (.p v)=some (v.norm,[]):=rfl
def Vs(o:Nat×Option gP)(f:List eO->Option (dI×aG))(id g M len:Nat):Option (PV×aG):=match o with
 |(g',some (.arr _ _ j))=>if g'=g/\M+len<=I j then some (.sl ((j.drop M).take len),[id])else none
 |(g',some (.sL _ _ j))=>if g'=g/\M+len<=I j then some (.sl ((j.drop M).take len),[id])else none
 |(g',some (.lh _ _ j))=>if g'=g/\M+len<=I j then
   match f ((j.drop M).take len)with
   |some (ps,r)=>some (.sl ps,id::r)
   |none=>none
  else none
 |_=>none
theorem axL{blk:aJ}{id g z len:Nat}:snap blk jl (.hsl id g z M len)=Vs (blk id) (iB (iB (snap blk 5))) id g M len:=by unfold jl Vs;rw[snap];rfl
def QU(o:Nat×Option gP)(f:eO->Option (dW×aG))(id g M:Nat):Option (PV×aG):=match o with
 |(g',some (.var X))=>if g'=g then
   match f X with
   |some (ps,r)=>some (.box (ps.drop M),id::r)
   |none=>none
  else none
 |(g',some (.fvar ps))=>if g'=g then some (.box (ps.drop M),[id])else none
 |_=>none
theorem aCf{blk:aJ}{id g:Nat}:snap blk jl (.bR id g M)=QU (blk id) (iB (snap blk 5)) id g M:=by unfold jl QU;rw[snap];rfl
section
variable {S:Sys} {al:cF} {h:bJ} {blk:aJ} {d:eT}
theorem Ja{rd:aG}{s:Nat}{b:Bool}(ae:x.scalar):fR blk rd s ((RV.one (.p x)).iA b)=some (.one (.p x),[]):=by
 have h:(RV.one (.p x)).iA b=.one (.p x):=by cases b<;>rfl
 rw[h];have:(RV.one (.p x)).alone:=by simp[RV.alone,lU,mD,nm.alone,ae]
 simp[fR,this,or_true,if_true];rfl
theorem aAF{rd:aG}{s:Nat}{ba:bJ->aJ->Prop}(n:aL S f A (.one (.p x)))(ae:x.scalar):KC S .all (.pc f A rd s) d h blk ba↔ba (eQ h d (.one (.p x))) blk:=by
 constructor
 .rintro ⟨y,j,H⟩
  have:=j.det n;subst this;rw[Ja ae]at H;exact H.2
 intro m;refine⟨_,n,?_⟩;rw[Ja ae];exact⟨cF.IS _,m⟩
theorem aqs{rd:aG}{s:Nat}{tr:gG}{ba:bJ->aJ->gG->Prop}(n:aL S f A (.one (.p x)))(ae:x.scalar):Ir S .all (.pc f A rd s) d h blk tr ba↔ba (eQ h d (.one (.p x))) blk (tr++[⟨rd,[],[]⟩]):=by
 constructor
 .rintro ⟨y,j,H⟩
  have:=j.det n;subst this;rw[Ja ae]at H
  simpa [app]using H.2
 intro m;refine⟨_,n,?_⟩;rw[Ja ae];exact⟨cF.IS _,by simpa [app]using m⟩
theorem av4{O:fV}{Q:iw}:W S al (.region true O) Q h blk↔rl S al O (λh blk j=>vi O [] j=true/\Q .normal h blk) h blk []:=by
 rw[alr]
 grind
end
theorem wrap_small(h:n<=9223372036854775807):IntKind.i64.wrap (n:Int)=n:=aiN h
theorem cS(h:n<9223372036854775807):IntKind.i64.wrap ((n:Int)+1)=((n+1:Nat):Int):=aiN (n:=n+1) J
section
variable {S:Sys} {al:cF} {Q:iw} {h:bJ} {blk:aJ} {a b:aR} {O os all:fV} {tr:gG} {d:eT} {op:sJ} {n:Nat}
def Bv(S:Sys)(al:cF)(b:aR)(Q:iw):iw
 | .normal,h,blk=>W S al b Q h blk
 | .exit i,h,blk=>Q (.exit i) h blk
 | .ret,h,blk=>Q .ret h blk
theorem aqX:Pd (W S al b Q) Q=Bv S al b Q:=by funext e h blk;cases e<;>rfl
theorem aow:W S al (.seq a b) Q h blk↔W S al a (Bv S al b Q) h blk:=by rw[azK,aqX]
theorem awr:Bv S al b Q .normal h blk=W S al b Q h blk:=rfl
theorem aAp{i:Nat}:Bv S al b Q (.exit i) h blk=Q (.exit i) h blk:=rfl
theorem anA:Bv S al b Q .ret h blk=Q .ret h blk:=rfl
def yJ (S:Sys)(al:cF)(v:V)(a b:aR)(Q:iw)(h:bJ)(blk:aJ):Prop:=Pu v (W S al a Q h blk) (W S al b Q h blk)
theorem aoD{x:fk}:W S al (.cond x a b) Q h blk↔yJ S al (ev h x) a b Q h blk:=aoS
theorem arK:yJ S al (.one (.p (.bool true))) a b Q h blk=W S al a Q h blk:=by simp[yJ,Pu]
theorem ax6:yJ S al (.one (.p (.bool false))) a b Q h blk=W S al b Q h blk:=by simp[yJ,Pu]
def kG (S:Sys)(al:cF)(O:fV)(Q:iw)(h:bJ)(blk:aJ):Prop:=En S al O (λh blk=>Q .normal h blk) h blk
def kE (S:Sys)(al:cF)(p:AT)(d:eT)(os:fV)(Q:iw)(h:bJ)(blk:aJ):Prop:=KC S al p d h blk (En S al os λh blk=>Q .normal h blk)
def zX (S:Sys)(al:cF)(w:Option Bool)(d:eT)(op:sJ)(os:fV)(Q:iw)(h:bJ)(blk:aJ):Prop:=RI S al w ⟨d,op,none,0⟩ h blk (En S al os λh blk=>Q .normal h blk)
theorem av2:W S al (.region false O) Q h blk↔kG S al O Q h blk:=avS
theorem awd:kG S al [] Q h blk↔Q .normal h blk:=auK
theorem apK:kG S al (⟨d,op,none,n⟩::os) Q h blk↔kE S al (cZ S.shared h blk op) d os Q h blk:=adi
theorem ass{t:Nat}{w:Bool}:kG S al (⟨d,op,some (t,w),n⟩::os) Q h blk↔zX S al (EP (h t) w) d op os Q h blk:=by
 unfold kG zX;rw[adi];have:sF h (some (t,w))=EP _ w:=rfl;simp[this];cases EP _ w with
 |none=>rfl
 |some x=>cases x<;>rfl
theorem aBg:zX S al (some true) d op os Q h blk↔kE S al (cZ S.shared h blk op) d os Q h blk:=Iff.rfl
theorem azS:zX S al (some false) d op os Q h blk↔kG S al os Q (eQ h d .undef) blk:=Iff.rfl
theorem N4{r:aG}:kE S .all (.done v u r) d os Q h blk↔kG S .all os Q (eQ h d v) (app u blk):=by show(cF.all.jk _/\_)↔_;rw[cF.IS];exact⟨λH=>H.2,λH=>⟨rfl,H⟩⟩
theorem afh{r:aG}:kE S al (.done v u r) d os Q h blk↔al.jk (r++u.map (·.1))=true/\kG S al os Q (eQ h d v) (app u blk):=Iff.rfl
theorem aii{rd:aG}{s:Nat}(H:aL S f A (.one (.p x)))(ae:x.scalar):kE S .all (.pc f A rd s) d os Q h blk↔kG S .all os Q (eQ h d (.one (.p x))) blk:=aAF H ae
theorem gr{rd:aG}{s:Nat}{k:IntKind}{x:Int}(H:aL S f A (.one (.p (.int k x)))):kE S .all (.pc f A rd s) d os Q h blk↔kG S .all os Q (eQ h d (.one (.p (.int k x)))) blk:=aii H rfl
theorem b_{rd:aG}{s:Nat}{x:Bool}(H:aL S f A (.one (.p (.bool x)))):kE S .all (.pc f A rd s) d os Q h blk↔kG S .all os Q (eQ h d (.one (.p (.bool x)))) blk:=aii H rfl
theorem cE{rd:aG}{s:Nat}{r:RV}(hp:aL S f A r)(n:fR blk rd s (r.iA (S.lone s))=some (v,u)):kE S .all (.pc f A rd s) d os Q h blk↔kG S .all os Q (eQ h d v) (app u blk):=by
 constructor
 .rintro ⟨y,j,H⟩
  have:=j.det hp;subst this;rw[n]at H;exact H.2
 intro m;refine⟨_,hp,?_⟩;rw[n];exact⟨cF.IS _,m⟩
def sa (S:Sys)(al:cF)(all O:fV)(Q:iw)(h:bJ)(blk:aJ)(tr:gG):Prop:=rl S al O (λh blk j=>vi all [] j=true/\Q .normal h blk) h blk tr
def wo (S:Sys)(al:cF)(p:AT)(d:eT)(all os:fV)(Q:iw)(h:bJ)(blk:aJ)(tr:gG):Prop:=Ir S al p d h blk tr (rl S al os λh blk j=>vi all [] j=true/\Q .normal h blk)
def zz (S:Sys)(al:cF)(w:Option Bool)(d:eT)(op:sJ)(all os:fV)(Q:iw)(h:bJ)(blk:aJ)(tr:gG):Prop:=FJ S al w ⟨d,op,none,0⟩ h blk tr (rl S al os λh blk j=>vi all [] j=true/\Q .normal h blk)
theorem apM:W S al (.region true O) Q h blk↔sa S al O O Q h blk []:=av4
theorem awZ:sa S al all [] Q h blk tr↔vi all [] tr=true/\Q .normal h blk:=aab
theorem awO:sa S al all (⟨d,op,none,n⟩::os) Q h blk tr↔wo S al (cZ S.shared h blk op) d all os Q h blk tr:=SP
theorem ar6{t:Nat}{w:Bool}:sa S al all (⟨d,op,some (t,w),n⟩::os) Q h blk tr↔zz S al (EP (h t) w) d op all os Q h blk tr:=by
 unfold sa zz;rw[SP];have:sF h (some (t,w))=EP _ w:=rfl;simp[this];cases EP _ w with
 |none=>rfl
 |some x=>cases x<;>rfl
theorem awm:zz S al (some true) d op all os Q h blk tr↔wo S al (cZ S.shared h blk op) d all os Q h blk tr:=Iff.rfl
theorem avR:zz S al (some false) d op all os Q h blk tr↔sa S al all os Q (eQ h d .undef) blk (tr++[⟨[],[],[]⟩]):=Iff.rfl
theorem LR{r:aG}:wo S .all (.done v u r) d all os Q h blk tr↔sa S .all all os Q (eQ h d v) (app u blk) (tr++[⟨r,u.map (·.1),[]⟩]):=by show(cF.all.jk _/\_)↔_;rw[cF.IS];exact⟨λH=>H.2,λH=>⟨rfl,H⟩⟩
theorem akO{r:aG}:wo S al (.done v u r) d all os Q h blk tr↔al.jk (r++u.map (·.1))=true/\sa S al all os Q (eQ h d v) (app u blk) (tr++[⟨r,u.map (·.1),[]⟩]):=Iff.rfl
theorem afM{rd:aG}{s:Nat}(H:aL S f A (.one (.p x)))(ae:x.scalar):wo S .all (.pc f A rd s) d all os Q h blk tr↔sa S .all all os Q (eQ h d (.one (.p x))) blk (tr++[⟨rd,[],[]⟩]):=aqs H ae
theorem pG{rd:aG}{s:Nat}{k:IntKind}{x:Int}(H:aL S f A (.one (.p (.int k x)))):wo S .all (.pc f A rd s) d all os Q h blk tr↔sa S .all all os Q (eQ h d (.one (.p (.int k x)))) blk (tr++[⟨rd,[],[]⟩]):=afM H rfl
theorem fx{rd:aG}{s:Nat}{x:Bool}(H:aL S f A (.one (.p (.bool x)))):wo S .all (.pc f A rd s) d all os Q h blk tr↔sa S .all all os Q (eQ h d (.one (.p (.bool x)))) blk (tr++[⟨rd,[],[]⟩]):=afM H rfl
theorem oT{rd:aG}{s:Nat}{r:RV}(hp:aL S f A r)(n:fR blk rd s (r.iA (S.lone s))=some (v,u)):wo S .all (.pc f A rd s) d all os Q h blk tr↔sa S .all all os Q (eQ h d v) (app u blk) (tr++[⟨rd++u.map (·.1),u.map (·.1),[]⟩]):=by
 constructor
 .rintro ⟨y,j,H⟩
  have:=j.det hp;subst this;rw[n]at H;exact H.2
 intro m;refine⟨_,hp,?_⟩;rw[n];exact⟨cF.IS _,m⟩
def Uf(N:Nat)(T:Nat->bJ->aJ->Prop)(k:Nat)(Q:iw):iw:=Pd (λh blk=>k<N/\T (k+1) h blk) Q
theorem aqK{k:Nat}:Uf N T k Q .normal h blk=(k<N/\T (k+1) h blk):=rfl
theorem aqM{k i:Nat}:Uf N T k Q (.exit i) h blk=Q (.exit i) h blk:=rfl
theorem ax9{k:Nat}:Uf N T k Q .ret h blk=Q .ret h blk:=rfl
theorem dt{c:aR}(T:Nat->bJ->aJ->Prop)(f N:Nat)(H:f<=N)(j:T f h blk)
  (R:∀k h blk,k<=N->T k h blk->W S al c (Uf N T k Q) h blk):W S al (.loop c) Q h blk:=an1 T f N H j R
def LW(R:V->aJ->Prop)(blk:aJ):Option dZ->Prop
 |some A=>R (Bn A) blk
 |none=>False
theorem az3:sW al Z R .ret h blk=LW R blk (r7 al h blk Z):=by
 simp[sW,LW]
 grind
theorem ayq:sW al Z R .normal h blk=LW R blk (r7 al h blk Z):=by
 simp[sW,LW]
 grind
theorem ata{A:dZ}:LW R blk (some A)=R (Bn A) blk:=rfl
end
section
variable {S:Sys} {al:cF} {Q:iw} {h:bJ} {blk:aJ}
def QR(S:Sys)(al:cF)(c:aR)(Q:iw):iw
 | .normal,h,blk=>W S al (.loop c) Q h blk
 | .exit i,h,blk=>Q (.exit i) h blk
 | .ret,h,blk=>Q .ret h blk
theorem arj{c:aR}:QR S al c Q .normal h blk=W S al (.loop c) Q h blk:=rfl
theorem azM{c:aR}{i:Nat}:QR S al c Q (.exit i) h blk=Q (.exit i) h blk:=rfl
theorem aCm{c:aR}:QR S al c Q .ret h blk=Q .ret h blk:=rfl
theorem og{c:aR}(v:W S al c (QR S al c Q) h blk):W S al (.loop c) Q h blk:=by
 obtain⟨n,e,y,x,f,H⟩:=v;cases e with
 |normal=>obtain⟨m,e,D,B,j,u⟩:=H;refine⟨max n m+1,e,D,B,?_,u⟩;simp[dT]at j |-;simp[mK];rw[H9 S J f];exact abH S J J j
 |exit i=>exact⟨n+1,_,_,_,by simp[dT,mK,H9 S _ f],H⟩
 |ret=>exact⟨n+1,_,_,_,by simp[dT,mK,H9 S (Nat.le_succ n) f],H⟩
end
theorem jQ.det{S:Sys}{A:dZ}{al:cF}{blk:aJ}{j:V}{b:aJ}(h:jQ S f A al blk v b)(u:jQ S f A al blk j L):v=j/\b=L:=by
 obtain⟨n,x⟩:=h;obtain⟨m,H⟩:=u;have c:=Oo S (Lt n m) _ _ _ _ _ H;rw[Oo S (GD n m) _ _ _ _ _ x]at c
 grind
section
variable {S:Sys} {al:cF} {Q:iw} {h:bJ} {blk:aJ} {os all:fV} {tr:gG} {d:eT}
theorem Z9:al.jk []:=rfl
theorem VW{a:Nat}{l:aG}:al.jk (a::l)=(al.ok a&&al.jk l):=rfl
def d_(ba:Nat->Prop)(b L:aJ):Prop:=∀id,¬ba id->L id=b id
theorem d_.refl(ba:Nat->Prop)(b:aJ):d_ ba b b:=λ_ _=>rfl
theorem d_.trans{ba:Nat->Prop}{a b c:aJ}(h:d_ ba a b)(f:d_ ba b c):d_ ba a c:=λid H=>(f id H).trans (h id H)
theorem d_.dV{ba:Nat->Prop}{b:aJ}(h:d_ ba b L){k:Nat}(f:ba k)(x:Nat×Option gP):d_ ba b (dV L k x):=λid H=>by rw[bG,aC (by grind)];exact h id H
theorem atd(m:al.holds (jm (S.ctx al) f A blk))(n:jQ S f A (jm (S.ctx al) f A blk) blk v ao):kE S al (.sc f A) d os Q h blk↔kG S al os Q (eQ h d v) ao:=by
 constructor
 .rintro ⟨_,v2,B,j,H⟩
  obtain⟨rfl,rfl⟩:=n.det j;exact H
 intro H;exact⟨m,v,ao,n,H⟩
theorem af6{rd:aG}{s:Nat}(u:aL S f A (.one (.p x)))(ae:x.scalar):kE S al (.pc f A rd s) d os Q h blk↔al.jk (rd++[])=true/\kG S al os Q (eQ h d (.one (.p x))) blk:=by
 constructor
 .rintro ⟨y,m,j⟩
  have:=m.det u;subst this;rwa[Ja ae]at j
 rintro⟨H,n⟩
 refine⟨_,u,?_⟩;rw[Ja ae];exact⟨H,n⟩
theorem Sf{rd:aG}{s:Nat}{k:IntKind}{x:Int}(H:aL S f A (.one (.p (.int k x)))):kE S al (.pc f A rd s) d os Q h blk↔al.jk (rd++[])=true/\kG S al os Q (eQ h d (.one (.p (.int k x)))) blk:=af6 H rfl
theorem am8{rd:aG}{s:Nat}{x:Bool}(H:aL S f A (.one (.p (.bool x)))):kE S al (.pc f A rd s) d os Q h blk↔al.jk (rd++[])=true/\kG S al os Q (eQ h d (.one (.p (.bool x)))) blk:=af6 H rfl
theorem aAD{f:Int->dW}(q:Int):∀(ids:cL) (i:Nat),xz (.int .i64 q) (ids.map λid=>(PV.int .i64 id,f id)) i=some (if q∈ids then some (i+ids.idxOf q,f q)else none):=by
 intro ids
 induction ids with
 |nil=>intro i;rfl
 |cons a ids h=>
  intro i;simp[eZ,xz,DB,if_true]
  grind
theorem xB{f:Nat}{A:dZ}{P:V->aJ->Prop}(j:al.holds (jm (S.ctx al) f A blk))(u:∃v ao,jQ S f A (jm (S.ctx al) f A blk) blk v ao/\P v ao)
  (m:∀v ao,P v ao->kG S al os Q (eQ h d v) ao):kE S al (.sc f A) d os Q h blk:=by
 obtain⟨v,ao,n,H⟩:=u;exact(atd j n).2 (m v ao H)
theorem Cd:cF.all.holds Y:=rfl
theorem Ow(h:al.jk Y.ids)(H:Y.fs.all al.fs.contains):al.holds Y:=by unfold cF.holds;rw[h,H];simp
theorem O8{id:Nat}(h:(S.sites f).contains (rh id)):(jm (S.ctx al) f A blk).ok id:=by show(false||_||(S.sites f).contains _)=true;rw[h];simp
theorem Ep{id:Nat}(h:id∈(A.map (qd blk)).flatten):(jm (S.ctx al) f A blk).ok id:=by
 show(false||(A.map _).flatten.contains id||_)=true
 grind
theorem abD{id g g0 o:Nat}(h:blk id=(g0,some (.var X))):qd blk (.one (.bR id g o))=id::(X.map (oH blk 5)).flatten:=by show oH blk 6 (.bR id g o)=_;rw[oH,h]
theorem acf{v:PV}:oH blk n (.p v)=[]:=by cases n<;>rfl
theorem JJ{id g g0 o l f:Nat}(h:blk id=(g0,some (.arr y f j))):oH blk (n+1) (.hsl id g z o l)=[id]:=by rw[oH,h]
def abn(x:Nat×Option gP)(id g:Nat):Option (PV×aG):=match x with
 |(g',some (.map A j))=>if g'=g then some (.mp A j,[id])else none
 |(g',some (.fmap A j))=>if g'=g then some (.mp A j,[id])else none
 |_=>none
theorem agR{id g:Nat}:snap blk (n+1) (.nV id g)=abn (blk id) id g:=by rw[snap];rfl
end
theorem aot:type_of%(And.intro @List.map_nil.{0,0}<|And.intro @List.append_nil.{0}<|And.intro @List.map_cons.{0,0}<|And.intro @List.cons_append.{0}<|And.intro @List.nil_append.{0}<|And.intro @List.drop_zero.{0}<|And.intro @List.take_zero.{0}<|And.intro @List.length_cons.{0}<|And.intro @List.length_nil.{0}<|And.intro @List.take_succ_cons.{0}<|And.intro @List.drop_nil.{0}<|And.intro @List.drop_succ_cons.{0}<|And.intro @List.length_map.{0,0}<|And.intro @List.take_nil.{0}<|And.intro @List.flatten_cons.{0}<|And.intro @List.getElem?_cons_zero.{0}<|And.intro @List.getElem?_cons_succ.{0}<|And.intro @List.all_nil.{0}<|And.intro @List.all_cons.{0}<|And.intro @List.not_mem_nil.{0} @Option.map_some.{0,0}):=by simp_all
theorem aoB:type_of%(And.intro @Bool.false_eq_true<|And.intro @Bool.not_true<|And.intro @Bool.not_false<|And.intro @Bool.and_true<|And.intro @Bool.and_false<|And.intro @Bool.true_and<|And.intro @Bool.false_and<|And.intro @true_and<|And.intro @and_true<|And.intro @true_or<|And.intro @or_true<|And.intro @false_or<|And.intro @or_false<|And.intro @decide_true<|And.intro @decide_false<|And.intro @not_true_eq_false<|And.intro @not_false_eq_true<|And.intro @and_self<|And.intro @Nat.le_refl<|And.intro @Nat.zero_add<|And.intro @Nat.mul_one<|And.intro @Nat.zero_mul<|And.intro @Nat.zero_le<|And.intro @Nat.sub_zero @Int.zero_add):=by simp_all
def bh(m y z:Nat)(j:dI)(v:V)(blk:aJ):Prop:=(j=[]/\v=.one (.p .nils))\/(j≠[]/\ ∃g,v=.one (.hsl m g z 0 (I j))/\blk m=(g,some (.arr y z j)))
def cU(y z:Nat)(j:dI):nm:=if j=[]then .p .nils else .own y z j
theorem bh.of_eq{blk:aJ}(h:bh m y z j v blk)(u:ao m=blk m):bh m y z j v ao:=by
 rcases h with h|⟨f,g,H,n⟩
 .exact .inl h
 exact .inr ⟨f,g,H,by rw[u,n]⟩
theorem bh.nil{blk:aJ}:bh m y z [] (.one (.p .nils)) blk:=.inl ⟨rfl,rfl⟩
theorem bh.mH{blk:aJ}(h:bh m y z j v blk):∃c o,v=.one c/\mH blk c=some (cU y z j,o,[])/\(o=[]\/o=[m]):=by
 rcases h with⟨f,H⟩|⟨f,g,H,n⟩
 .exact⟨.p .nils,[],H,by simp[Go.Abs.mH,cU,f],.inl rfl⟩
 refine⟨_,[m],H,?_,.inr rfl⟩;simp[Go.Abs.mH,n,and_self,cJ,if_true,jZ,cU,aC f]
theorem ve{blk:aJ}(h:bh m y z j v blk):lM blk v=some (.one (cU y z j)):=by
 obtain⟨c,o,rfl,H,f⟩:=h.mH;rcases f with rfl|rfl
 .simp[lM,v_,qG,oV,H,qf,zl,vf]
 simp[lM,v_,qG,oV,H,qf,zl,vf]
theorem Mp{f:Nat}{fs:dI}{w:V}{blk:aJ}(ae:s1≠f)(h:bh s1 E D j v blk)(m:bh f F H fs w blk):lM blk (.tup [v,w])=some (.tup [.one (cU E D j),.one (cU F H fs)]):=by obtain⟨c,o,rfl,n,u⟩:=h.mH;obtain⟨d,q,rfl,k2,k3⟩:=m.mH;rcases u with rfl|rfl<;>rcases k3 with rfl|rfl<;>simp[lM,v_,yX,qG,oV,n,k2,qf,zl,vf,D7,ae]
theorem bh.elems{blk:aJ}(h:bh m y z j v blk):∃r,hU blk v=some (j,r,[])/\(r=[]\/r=[m]):=by
 rcases h with⟨f,H⟩|⟨f,g,H,n⟩
 .exact⟨[],by rw[H,f];rfl,.inl rfl⟩
 refine⟨[m],?_,.inr rfl⟩;rw[H];simp[hU,n]
theorem bh.pW{blk:aJ}(h:bh m y z j v blk):j=[]\/pW v=some z:=by
 rcases h with⟨H,f⟩|⟨H,g,f,n⟩
 .exact .inl H
 exact .inr (by rw[f];rfl)
theorem bh.aB{blk:aJ}(h:bh m y z j v blk):Go.Abs.pW v=some z\/aB z j:=by
 rcases h.pW with h|h
 .exact .inr (by rw[h];rfl)
 exact .inl h
theorem bh.len{blk:aJ}(h:bh m y z j v blk):Bs v=some (I j):=by
 rcases h with⟨f,H⟩|⟨f,g,H,n⟩
 .rw[f,H];rfl
 rw[H];rfl
theorem bh.snap{blk:aJ}(h:bh m y z j v blk):∃r,qD blk v=some (.one (.p (.sl j)),r)/\(r=[]\/r=[m]):=by
 rcases h with⟨f,H⟩|⟨f,g,H,n⟩
 .exact⟨[],by rw[H,f];rfl,.inl rfl⟩
 refine⟨[m],?_,.inr rfl⟩;rw[H];simp[qD,jl,Go.Abs.snap,n]
theorem bh.abk{c:bd}{blk:aJ}(h:bh m y z j (.one c) blk):∃r,Go.Abs.snap blk (n+1) c=some (.sl j,r)/\(r=[]\/r=[m]):=by
 rcases h with⟨f,H⟩|⟨f,g,H,u⟩
 .cases H;exact⟨[],by rw[f];rfl,.inl rfl⟩
 refine⟨[m],?_,.inr rfl⟩;cases H;simp[Go.Abs.snap,u]
section
variable {S:Sys} {al:cF} {Q:iw} {h:bJ} {blk:aJ} {os all:fV} {tr:gG} {d:eT}
theorem RO{id bytes:Nat}{v x:V}{rd:aG}(O:bh id y z j v blk)(n:hU blk x=some (B,rd,[]))(Q:pW x=some z\/aB z B)(E:(I j+I B)*bytes<=140737488355328):
  ∃D u r,ai blk m y z bytes v x=.done D u r/\bh m y z (j++B) D (app u blk)/\(∀i,i≠m->i≠id->app u blk i=blk i)/\(r=rd/\u.map (·.1)=[]\/r=m::rd/\u.map (·.1)=[m]\/r=m::id::rd/\u.map (·.1)=[id,m]):=by
 have f:¬¬(pW x=some z\/aB z B):=λh=>h Q;rcases O with⟨rfl,rfl⟩|⟨M,g,rfl,F⟩
 .by_cases H:B=[]
  .subst H;refine⟨.one _,[],rd,?_,.inl ⟨rfl,rfl⟩,λi _ _=>rfl,.inl ⟨rfl,rfl⟩⟩;simp[ai,n,f,tJ,tY]
  have hl:¬I B=0:=by simpa using H
  have N:I B*bytes<=mN:=by simpa [mN]using E
  refine⟨.one (.hsl m ((blk m).1+1) z 0 (I B)),[(m,((blk m).1+1,some (.arr y z B)))],m::rd,?_,.inr ⟨by simpa using H,(blk m).1+1,aE,?_⟩,λi A _=>?_,.inr (.inl ⟨rfl,rfl⟩)⟩
  .simp only[ai,n,aC f,tJ,tY,aC hl,aD N];simp
  .simp[app,bG]
  simp[app,bG,A]
 have N:(I j+I B)*bytes<=mN:=by simpa [mN]using E
 refine⟨.one (.hsl m ((blk m).1+1) z 0 (I j+I B)),[(id,(g,none)),(m,((blk m).1+1,some (.arr y z (j++B))))],m::id::rd,?_,.inr ⟨by simp[M],(blk m).1+1,aE,?_⟩,λi A L=>?_,.inr (.inr ⟨rfl,rfl⟩)⟩
 .simp only[ai,n,aC f,tJ,tY,F];simp[N]
 .simp[app,bG]
 simp[app,bG,A,L]
theorem re{id m y z bytes:Nat}{j:dI}{v x:V}{rd:aG}(A:bh id y z j v blk)(D:hU blk x=some (B,rd,[]))(L:pW x=some z\/aB z B)(f:(I j+I B)*bytes<=140737488355328)
  (E:∀(c:bd) ao,bh m y z (j++B) (.one c) ao->(∀i,i≠m->i≠id->ao i=blk i)->kG S .all os Q (eQ h d (.one c)) ao):kE S .all (ai blk m y z bytes v x) d os Q h blk:=by
 obtain⟨M,u,r,F,H,n,_⟩:=RO A D L f;obtain⟨c,o,rfl,_⟩:=H.mH;rw[F,N4];exact E _ _ H n
theorem s_{id m y z bytes:Nat}{j:dI}{v x:V}{rd:aG}(n:bh id y z j v blk)(A:hU blk x=some (B,rd,[]))(E:pW x=some z\/aB z B)(f:(I j+I B)*bytes<=140737488355328)
  (N:∀(c:bd) ao r w,bh m y z (j++B) (.one c) ao->(∀i,i≠m->i≠id->ao i=blk i)->(r=rd/\w=[]\/r=m::rd/\w=[m]\/r=m::id::rd/\w=[id,m])->sa S .all all os Q (eQ h d (.one c)) ao (tr++[⟨r,w,[]⟩])):wo S .all (ai blk m y z bytes v x) d all os Q h blk tr:=by
 obtain⟨F,u,r,D,H,L,M⟩:=RO n A E f;obtain⟨c,o,rfl,_⟩:=H.mH;rw[D,LR]
 grind
theorem zF{s:Nat}:bh s y z j (.one (iC blk s (cU y z j)).1) (app (iC blk s (cU y z j)).2 blk)/\(∀i,i≠s->app (iC blk s (cU y z j)).2 blk i=blk i)/\((iC blk s (cU y z j)).2.map (·.1)=[]\/(iC blk s (cU y z j)).2.map (·.1)=[s]):=by
 unfold cU;by_cases h:j=[]
 .rw[aD h];exact⟨.inl ⟨h,rfl⟩,λi _=>rfl,.inl rfl⟩
 rw[aC h];exact⟨.inr ⟨h,(blk s).1+1,rfl,by simp[iC,app,bG]⟩,λi H=>by simp[iC,app,bG,H],.inr rfl⟩
theorem B3(r:RV):r.iA false=r:=rfl
theorem nI{f:Nat}{A:dZ}{s y z:Nat}{rd:aG}{j:dI}(hp:aL S f A (.one (cU y z j)))(n:S.lone s=false)(m:rd=[]\/(RV.one (cU y z j)).alone)
  (u:∀(c:bd) ao,bh s y z j (.one c) ao->(∀i,i≠s->ao i=blk i)->kG S .all os Q (eQ h d (.one c)) ao):kE S .all (.pc f A rd s) d os Q h blk:=by
 obtain⟨v,H,_⟩:=zF;refine(cE hp ?_).2 (u _ _ v H);rw[n,B3];unfold fR;rw[aD m];simp[lk,lU,mD,lR,xg,ru]
theorem ahg{f:Nat}{A:dZ}{s:Nat}{j fs:dI}(hp:aL S f A (.tup [.one (cU E D j),.one (cU F H fs)]))(N:S.lone s=false)
  (B:∀(c e:bd) ao,bh s E D j (.one c) ao->bh (s+1) F H fs (.one e) ao->(∀i,i≠s->i≠s+1->ao i=blk i)->kG S .all os Q (eQ h d (.tup [.one c,.one e])) ao):kE S .all (.pc f A [] s) d os Q h blk:=by
 obtain⟨M,z,_⟩:=zF (s:=s);have n:∀(b L:aJ) (k:Nat) (r:nm),L k=b k->iC b k r=iC L k r:=by
  intro b L k r T;cases r with
  |p v=>rfl
  |own y R j=>simp[iC,T]
 obtain⟨k1,k2,_⟩:=zF;rw[<- (n _ _ _ _ (z (s+1) J))]at k1 k2;have m:∀(a b:kR) (c:aJ),app (a++b) c=app b (app a c):=by
  intro a
  induction a with
  |nil=>intro b c;rfl
  |cons x a O=>intro b c;exact O b _
 refine(cE (v:=.tup [.one (iC blk s (cU E D j)).1,.one (iC blk (s+1) (cU F H fs)).1]) (u:=(iC blk s (cU E D j)).2++(iC blk (s+1) (cU F H fs)).2) hp ?_).2 (B _ _ _ ?_ ?_ ?_)
 .rw[N,B3];unfold fR;simp[lk,lU,tu,mD,lR,xg,vN,ru]
 .rw[m];exact M.of_eq (k2 s J)
 .rw[m];exact k1
 simp_all
end
theorem r9(h:(j.all λe=>e.all PV.scalar)):(RV.one (cU y z j)).alone:=by
 unfold cU;split
 .rfl
 simp[RV.alone,lU,mD,nm.alone,h]
theorem bh.jl{c:bd}{blk:aJ}(h:bh m y z j (.one c) blk):∃r,Go.Abs.snap blk Go.Abs.jl c=some (.sl j,r)/\(r=[]\/r=[m]):=h.abk
def yU(blk:aJ)(r:aG):Prop:=∀i∈r,∃g y z j,blk i=(g,some (.arr y z j))
theorem yU.nil{blk:aJ}:yU blk []:=λ_ h=>by simp at h
theorem yU.app{blk:aJ}{a b:aG}(h:yU blk a)(k:yU blk b):yU blk (a++b):=λi H=>by
 rcases gn.1 H with H|H
 .exact h i H
 exact k i H
theorem bh.V5{c:bd}{blk:aJ}(h:bh m y z j (.one c) blk):∃r,Go.Abs.snap blk Go.Abs.jl c=some (.sl j,r)/\yU blk r/\(r=[]\/r=[m]):=by
 rcases h with⟨f,H⟩|⟨f,g,H,n⟩
 .cases H;exact⟨[],by rw[f];rfl,yU.nil,.inl rfl⟩
 refine⟨[m],?_,λi u=>?_,.inr rfl⟩
 .cases H;simp[Go.Abs.snap,Go.Abs.jl,n]
 grind
theorem ag5{blk:aJ}(all:aG):∀r:aG,yU blk r->∃f,tY blk all r=some f/\f.map (·.1)=r:=by
 intro r
 induction r with
 |nil=>intro _;exact⟨[],rfl,rfl⟩
 |cons i r u=>intro h;obtain⟨g,y,z,j,m⟩:=h i aE;obtain⟨f,v,H⟩:=u λx n=>h x (by simp[n]);refine⟨(i,(g,some (.sL y z j)))::f,?_,by simp[H]⟩;simp[tY,xI,m,v]
theorem Ls:∀(u:kR) (b:aJ) (i:Nat),i∉u.map (·.1)->app u b i=b i:=by
 intro u
 induction u with
 |nil=>intro b i _;rfl
 |cons x u f=>intro b i h;simp only[eZ,c7,A4]at h;show app u _ i=b i;rw[f _ _ h.2,bG,aC h.1]
theorem AD:∀(a b:kR) (c:aJ),app (a++b) c=app b (app a c):=by
 intro a
 induction a with
 |nil=>intro b c;rfl
 |cons x a f=>intro b c;exact f b _
section
variable {S:Sys} {al:cF} {Q:iw} {h:bJ} {blk:aJ} {os all:fV} {tr:gG} {d:eT}
theorem apV{id m y z bytes:Nat}{j:dI}{v x:V}{rd fr:aG}(X:bh id y z j v blk)(F:hU blk x=some (B,rd,fr))(Y:yU blk fr)(MC:id∉fr)(ab:m∉fr)(Z:pW x=some z\/aB z B)(L:(I j+I B)*bytes<=140737488355328)
  (D:∀(c:bd) ao,bh m y z (j++B) (.one c) ao->(∀i,i≠m->i≠id->i∉fr->ao i=blk i)->kG S .all os Q (eQ h d (.one c)) ao):kE S .all (ai blk m y z bytes v x) d os Q h blk:=by
 have E:¬¬(pW x=some z\/aB z B):=λac=>ac Z;obtain⟨f,T,M⟩:=ag5 fr fr Y;have n:tJ blk fr=some f:=T;rcases X with⟨rfl,rfl⟩|⟨aO,g,rfl,O⟩
 .by_cases u:B=[]
  .subst u;have:ai blk m y z bytes (.one (.p .nils)) x=.done (.one (.p .nils)) f (rd++fr):=by simp[ai,F,E,n]
   rw[this,N4];exact D _ _ (.inl ⟨rfl,rfl⟩) λi _ _ H=>Ls _ _ _ (by grind)
  have hl:¬I B=0:=by simpa using u
  have N:I B*bytes<=mN:=by simpa [mN]using L
  have:ai blk m y z bytes (.one (.p .nils)) x=.done (.one (.hsl m ((blk m).1+1) z 0 (I B))) (f++[(m,((blk m).1+1,some (.arr y z B)))]) (m::rd++fr):=by simp only[ai,F,aC E,n,aC hl,aD N]
  rw[this,N4];refine D _ _ (.inr ⟨by simpa using u,(blk m).1+1,aE,?_⟩) λi A _ H=>?_
  .rw[AD];simp[app,bG]
  rw[AD];have:=Ls f blk i (by rw[M];exact H);simp[app,bG,A,this]
 have N:(I j+I B)*bytes<=mN:=by simpa [mN]using L
 have Qr:fr.contains id=false:=by simpa using MC
 have:ai blk m y z bytes (.one (.hsl id g z 0 (I j))) x=.done (.one (.hsl m ((blk m).1+1) z 0 (I j+I B))) (f++[(id,(g,none)),(m,((blk m).1+1,some (.arr y z (j++B))))]) (m::id::rd++fr):=by simp only[ai,F,aC E,n,O,Qr];simp[N]
 rw[this,N4];refine D _ _ (.inr ⟨by simp[aO],(blk m).1+1,aE,?_⟩) λi A R H=>?_
 .rw[AD];simp[app,bG]
 rw[AD];have:=Ls f blk i (by rw[M];exact H);simp[app,bG,A,R,this]
end
section
variable {S:Sys} {al:cF} {Q:iw} {h:bJ} {blk:aJ} {os all:fV} {tr:gG} {d:eT}
theorem Wd{l:aG}(h:∀i∈l,al.ok i):al.jk l:=j4.2 h
theorem T3{id m y z bytes:Nat}{j:dI}{v x:V}{rd:aG}(M:∀i∈m::id::rd,al.ok i)(A:bh id y z j v blk)(R:hU blk x=some (B,rd,[]))(L:pW x=some z\/aB z B)(N:(I j+I B)*bytes<=140737488355328)
  (E:∀(c:bd) ao,bh m y z (j++B) (.one c) ao->(∀i,i≠m->i≠id->ao i=blk i)->kG S al os Q (eQ h d (.one c)) ao):kE S al (ai blk m y z bytes v x) d os Q h blk:=by
 obtain⟨T,u,r,F,f,O,D⟩:=RO A R L N;obtain⟨c,o,rfl,_⟩:=f.mH;rw[F,afh];refine⟨?_,E _ _ f O⟩;rcases D with⟨rfl,H⟩|⟨rfl,H⟩|⟨rfl,H⟩<;>rw[H]<;>refine Wd λi n=>M i ?_ <;>simp at n |-
 .exact .inr (.inr n)
 .grind
 grind
theorem ajz{id m y z bytes:Nat}{j:dI}{v x:V}{rd:aG}(M:∀i∈m::id::rd,al.ok i)(D:bh id y z j v blk)(R:hU blk x=some (B,rd,[]))(L:pW x=some z\/aB z B)(N:(I j+I B)*bytes<=140737488355328)
  (E:∀(c:bd) ao r w,bh m y z (j++B) (.one c) ao->(∀i,i≠m->i≠id->ao i=blk i)->(r=rd/\w=[]\/r=m::rd/\w=[m]\/r=m::id::rd/\w=[id,m])->sa S al all os Q (eQ h d (.one c)) ao (tr++[⟨r,w,[]⟩])):wo S al (ai blk m y z bytes v x) d all os Q h blk tr:=by
 obtain⟨T,u,r,F,f,O,n⟩:=RO D R L N;obtain⟨c,o,rfl,_⟩:=f.mH;rw[F,akO];refine⟨?_,E _ _ _ _ f O n⟩;rcases n with⟨rfl,H⟩|⟨rfl,H⟩|⟨rfl,H⟩<;>rw[H]<;>refine Wd λi A=>M i ?_ <;>simp at A |-
 .exact .inr (.inr A)
 .grind
 grind
theorem auu{f:Nat}{A:dZ}{s:Nat}{rd:aG}{j fs:dI}(T:∀i∈s::(s+1)::rd,al.ok i)(hp:aL S f A (.tup [.one (cU E D j),.one (cU F H fs)]))(X:S.lone s=false)
  (M:(j.all λe=>e.all PV.scalar)) (B:(fs.all λe=>e.all PV.scalar))
  (N:∀(c e:bd) ao,bh s E D j (.one c) ao->bh (s+1) F H fs (.one e) ao->(∀i,i≠s->i≠s+1->ao i=blk i)->kG S al os Q (eQ h d (.tup [.one c,.one e])) ao):kE S al (.pc f A rd s) d os Q h blk:=by
 have x:(RV.tup [.one (cU E D j),.one (cU F H fs)]).alone:=by have a:=r9 (y:=E) (z:=D) M;have b:=r9 (y:=F) (z:=H) B;simp only[RV.alone,lU,mD,wE,zO,Ey]at a b;simp[RV.alone,lU,tu,mD,a,b]
 obtain⟨O,n,Y⟩:=zF;have u:∀(b L:aJ) (k:Nat) (r:nm),L k=b k->iC b k r=iC L k r:=by
  intro b L k r ab;cases r with
  |p v=>rfl
  |own y Z j=>simp only[iC,ab]
 have R:iC blk (s+1) (cU F H fs)=iC (app (iC blk s (cU E D j)).2 blk) (s+1) (cU F H fs):=u _ _ _ _ (n (s+1) J);obtain⟨k1,k2,m⟩:=zF;rw[<-R]at k1 k2 m;refine⟨_,hp,?_⟩;rw[X,B3];have hl:fR blk rd s (RV.tup [.one (cU E D j),.one (cU F H fs)])=some (.tup [.one (iC blk s (cU E D j)).1,.one (iC blk (s+1) (cU F H fs)).1],(iC blk s (cU E D j)).2++(iC blk (s+1) (cU F H fs)).2):=by unfold fR;rw[aD (.inr x)];simp[lk,lU,tu,mD,lR,xg,vN,ru]
 rw[hl];refine⟨Wd λi hi=>T i ?_,N _ _ _ ?_ ?_ ?_⟩
 .grind
 .rw[AD];exact O.of_eq (k2 s J)
 .rw[AD];exact k1
 intro i a b;rw[AD,k2 i b,n i a]
end
theorem ct{b:aJ}{a i:Nat}{x:Nat×Option gP}(h:i≠a):dV b a x i=b i:=by rw[bG,aC h]
theorem zI{b:aJ}{a:Nat}{x:Nat×Option gP}:dV b a x a=x:=by rw[bG,aD rfl]
theorem UN{a i:Nat}{l:aG}(h:i∉l)(H:a∈l):i≠a:=λe=>h (e▸H)
section
variable {S:Sys} {al:cF} {Q:iw} {h:bJ} {blk:aJ} {os all:fV} {tr:gG} {d:eT}
theorem aim{f:Nat}{A:dZ}{s y z:Nat}{j:dI}{x:PV}(hp:aL S f A (.tup [.one (cU y z j),.one (.p x)]))(m:S.lone s=false)
  (n:∀(c:bd) ao,bh s y z j (.one c) ao->(∀i,i≠s->ao i=blk i)->kG S .all os Q (eQ h d (.tup [.one c,.one (.p x)])) ao):kE S .all (.pc f A [] s) d os Q h blk:=by
 obtain⟨u,H,_⟩:=zF;refine(cE hp ?_).2 (n _ _ u H);rw[m,B3];unfold fR;simp[lk,lU,tu,mD,lR,xg,vN,ru,iC]
theorem Kx{f:Nat}{A:dZ}{s y z:Nat}{rd:aG}{j:dI}(hp:aL S f A (.one (cU y z j)))(u:S.lone s=false)(m:rd=[]\/(RV.one (cU y z j)).alone)
  (v:∀(c:bd) ao w,bh s y z j (.one c) ao->(∀i,i≠s->ao i=blk i)->(w=[]\/w=[s])->sa S .all all os Q (eQ h d (.one c)) ao (tr++[⟨rd++w,w,[]⟩])):wo S .all (.pc f A rd s) d all os Q h blk tr:=by
 obtain⟨x,H,n⟩:=zF;refine(oT hp ?_).2 (v _ _ _ x H n);rw[u,B3];unfold fR;rw[aD m];simp[lk,lU,mD,lR,xg,ru]
theorem ac0{f:Nat}{A:dZ}{s y z:Nat}{j:dI}{x:PV}(hp:aL S f A (.tup [.one (cU y z j),.one (.p x)]))(m:S.lone s=false)
  (n:∀(c:bd) ao w,bh s y z j (.one c) ao->(∀i,i≠s->ao i=blk i)->(w=[]\/w=[s])->sa S .all all os Q (eQ h d (.tup [.one c,.one (.p x)])) ao (tr++[⟨[]++w,w,[]⟩])):wo S .all (.pc f A [] s) d all os Q h blk tr:=by
 obtain⟨u,H,v⟩:=zF;refine(oT hp ?_).2 (n _ _ _ u H v);rw[m,B3];unfold fR;simp[lk,lU,tu,mD,lR,xg,vN,ru,iC]
theorem O6{f:Nat}{A:dZ}{s y z:Nat}{rd:aG}{j:dI}{x:PV}(hp:aL S f A (.agg [.p x,cU y z j]))(n:S.lone s=false)(u:x.scalar)(ae:(j.all λe=>e.all PV.scalar))
  (v:∀(c:bd) ao,bh (s+1) y z j (.one c) ao->(∀i,i≠s+1->ao i=blk i)->kG S .all os Q (eQ h d (.agg [.p x,c])) ao):kE S .all (.pc f A rd s) d os Q h blk:=by
 obtain⟨B,H,_⟩:=zF;have m:(RV.agg [.p x,cU y z j]).alone:=by have a:=r9 (y:=y) (z:=z) ae;simp[RV.alone,lU,mD,wE,zO,Ey]at a;simp[RV.alone,lU,mD,wE,zO,Ey,a];exact u
 refine(cE hp ?_).2 (v _ _ B H);rw[n,B3];unfold fR;rw[aD (.inr m)];simp[lk,lU,mD,lR,xg,ru,iC]
theorem RU{f:Nat}{A:dZ}{s y z:Nat}{j:dI}{x Y:PV}(hp:aL S f A (.tup [.agg [.p x,cU y z j],.one (.p Y)]))(m:S.lone s=false)
  (n:∀(c:bd) ao,bh (s+1) y z j (.one c) ao->(∀i,i≠s+1->ao i=blk i)->kG S .all os Q (eQ h d (.tup [.agg [.p x,c],.one (.p Y)])) ao):kE S .all (.pc f A [] s) d os Q h blk:=by
 obtain⟨u,H,_⟩:=zF;refine(cE hp ?_).2 (n _ _ u H);rw[m,B3];unfold fR;simp[lk,lU,tu,mD,lR,xg,vN,ru,iC]
theorem avQ{f:Nat}{A:dZ}{s y z:Nat}{rd:aG}{j:dI}{x Y:PV}(hp:aL S f A (.tup [.agg [.p x,cU y z j],.one (.p Y)]))(B:S.lone s=false)(D:x.scalar)(H:Y.scalar)(ae:(j.all λe=>e.all PV.scalar))
  (E:∀(c:bd) ao,bh (s+1) y z j (.one c) ao->(∀i,i≠s+1->ao i=blk i)->kG S .all os Q (eQ h d (.tup [.agg [.p x,c],.one (.p Y)])) ao):kE S .all (.pc f A rd s) d os Q h blk:=by
 obtain⟨F,m,_⟩:=zF (blk:=blk) (s:=s+1) (y:=y) (z:=z) (j:=j);have n:(RV.tup [.agg [.p x,cU y z j],.one (.p Y)]).alone:=by have a:=r9 (y:=y) (z:=z) ae;simp only[RV.alone,lU,mD,wE,zO,Ey]at a;simp only[RV.alone,lU,tu,mD,qz,fB,ic,wE,zO,Ey,a,EG];show(x.scalar&&Y.scalar)=true;rw[D,H];rfl
 refine(cE (v:=.tup [.agg [.p x,(iC blk (s+1) (cU y z j)).1],.one (.p Y)]) (u:=(iC blk (s+1) (cU y z j)).2) hp ?_).2 (E _ _ F m);rw[B,B3];unfold fR;rw[aD (.inr n)];simp[lk,lU,tu,mD,lR,xg,vN,ru,iC]
end
theorem Sa{c:bd}{y:PV}{blk:aJ}(h:bh s1 E D j (.one c) blk):lM blk (.tup [.agg [.p x,c],.one (.p y)])=some (.tup [.agg [.p x,cU E D j],.one (.p y)]):=by obtain⟨v,o,n,H,m⟩:=h.mH;cases n;have f:mH blk (.p x)=some _:=rfl;have u:mH blk (.p y)=some _:=rfl;rcases m with rfl|rfl<;>simp[lM,v_,yX,qG,oV,H,f,u,qf,zl,vf,D7]
section
variable {S:Sys} {al:cF} {Q:iw} {h:bJ} {blk:aJ} {os all:fV} {tr:gG} {d:eT} {op:sJ} {w:Option Bool} {a b:aR} {v:V}
theorem zP(L:aG)(H:∀e:bJ,(∀k∈L,e k=h k)->zX S al w d op os Q e blk):zX S al w d op os Q h blk:=H h λ_ _=>rfl
theorem CO(L:aG)(H:∀e:bJ,(∀k∈L,e k=h k)->zz S al w d op all os Q e blk tr):zz S al w d op all os Q h blk tr:=H h λ_ _=>rfl
theorem arQ(L:aG)(H:∀e:bJ,(∀k∈L,e k=h k)->yJ S al v a b Q e blk):yJ S al v a b Q h blk:=H h λ_ _=>rfl
end
section
variable {S:Sys} {al:cF} {Q:iw} {h:bJ} {blk:aJ} {os all:fV} {tr:gG} {d:eT}
theorem aef{id m y z bytes:Nat}{j:dI}{v x:V}{rd fr:aG}(X:bh id y z j v blk)(L:hU blk x=some (B,rd,fr))(Y:yU blk fr)(MC:id∉fr)(ab:m∉fr)(Z:pW x=some z\/aB z B)(M:(I j+I B)*bytes<=140737488355328)
  (E:∀(c:bd) ao r w,bh m y z (j++B) (.one c) ao->(∀i,i≠m->i≠id->i∉fr->ao i=blk i)->(r=rd++fr/\w=fr\/r=m::rd++fr/\w=fr++[m]\/r=m::id::rd++fr/\w=fr++[id,m])->sa S .all all os Q (eQ h d (.one c)) ao (tr++[⟨r,w,[]⟩])):wo S .all (ai blk m y z bytes v x) d all os Q h blk tr:=by
 have F:¬¬(pW x=some z\/aB z B):=λac=>ac Z;obtain⟨f,T,A⟩:=ag5 fr fr Y;have n:tJ blk fr=some f:=T;rcases X with⟨rfl,rfl⟩|⟨aO,g,rfl,O⟩
 .by_cases u:B=[]
  .subst u;have:ai blk m y z bytes (.one (.p .nils)) x=.done (.one (.p .nils)) f (rd++fr):=by simp[ai,L,F,n]
   rw[this,LR];exact E _ _ _ _ (.inl ⟨rfl,rfl⟩) (λi _ _ H=>Ls _ _ _ (by rw[A];exact H)) (.inl ⟨rfl,A⟩)
  have hl:¬I B=0:=by simpa using u
  have N:I B*bytes<=mN:=by simpa [mN]using M
  have:ai blk m y z bytes (.one (.p .nils)) x=.done (.one (.hsl m ((blk m).1+1) z 0 (I B))) (f++[(m,((blk m).1+1,some (.arr y z B)))]) (m::rd++fr):=by simp only[ai,L,aC F,n,aC hl,aD N]
  rw[this,LR];refine E _ _ _ _ (.inr ⟨by simpa using u,(blk m).1+1,aE,?_⟩) (λi D _ H=>?_) (.inr (.inl ⟨rfl,by simp[A]⟩))
  .rw[AD];simp[app,bG]
  rw[AD];have:=Ls f blk i (by rw[A];exact H);simp[app,bG,D,this]
 have N:(I j+I B)*bytes<=mN:=by simpa [mN]using M
 have Qr:fr.contains id=false:=by simpa using MC
 have:ai blk m y z bytes (.one (.hsl id g z 0 (I j))) x=.done (.one (.hsl m ((blk m).1+1) z 0 (I j+I B))) (f++[(id,(g,none)),(m,((blk m).1+1,some (.arr y z (j++B))))]) (m::id::rd++fr):=by simp only[ai,L,aC F,n,O,Qr];simp[N]
 rw[this,LR];refine E _ _ _ _ (.inr ⟨by simp[aO],(blk m).1+1,aE,?_⟩) (λi D R H=>?_) (.inr (.inr ⟨rfl,by simp[A]⟩))
 .rw[AD];simp[app,bG]
 rw[AD];have:=Ls f blk i (by rw[A];exact H);simp[app,bG,D,R,this]
theorem M0{f:Nat}{A:dZ}{s y z:Nat}{rd:aG}{j:dI}{x:PV}(hp:aL S f A (.tup [.one (cU y z j),.one (.p x)]))(n:S.lone s=false)(ae:(j.all λe=>e.all PV.scalar))(B:x.scalar)
  (D:∀(c:bd) ao,bh s y z j (.one c) ao->(∀i,i≠s->ao i=blk i)->kG S .all os Q (eQ h d (.tup [.one c,.one (.p x)])) ao):kE S .all (.pc f A rd s) d os Q h blk:=by
 obtain⟨E,H,_⟩:=zF (blk:=blk) (s:=s) (y:=y) (z:=z) (j:=j);have m:(RV.tup [.one (cU y z j),.one (.p x)]).alone:=by have a:=r9 (y:=y) (z:=z) ae;simp only[RV.alone,lU,mD,wE,zO,Ey]at a;simp only[RV.alone,lU,tu,mD,qz,fB,ic,wE,zO,Ey,a,EG];exact B
 refine(cE (v:=.tup [.one (iC blk s (cU y z j)).1,.one (.p x)]) (u:=(iC blk s (cU y z j)).2) hp ?_).2 (D _ _ E H);rw[n,B3];unfold fR;rw[aD (.inr m)];simp[lk,lU,tu,mD,lR,xg,vN,ru,iC]
end
section
variable {S:Sys} {al:cF} {Q:iw} {h:bJ} {blk:aJ} {os all:fV} {tr:gG} {d:eT} {op:sJ} {a b:aR} {e w:Bool}
theorem akt(H:e->zX S al (some (true==w)) d op os Q h blk)(f:e=false->zX S al (some (false==w)) d op os Q h blk):zX S al (some (e==w)) d op os Q h blk:=by
 cases e
 .exact f rfl
 exact H rfl
theorem adt(H:e->zX S al (some (false==w)) d op os Q h blk)(f:e=false->zX S al (some (true==w)) d op os Q h blk):zX S al (some ((!e)==w)) d op os Q h blk:=by
 cases e
 .exact f rfl
 exact H rfl
theorem alk(H:e->zz S al (some (true==w)) d op all os Q h blk tr)(f:e=false->zz S al (some (false==w)) d op all os Q h blk tr):zz S al (some (e==w)) d op all os Q h blk tr:=by
 cases e
 .exact f rfl
 exact H rfl
theorem amt(H:e->zz S al (some (false==w)) d op all os Q h blk tr)(f:e=false->zz S al (some (true==w)) d op all os Q h blk tr):zz S al (some ((!e)==w)) d op all os Q h blk tr:=by
 cases e
 .exact f rfl
 exact H rfl
theorem amB(H:e->yJ S al (.one (.p (.bool true))) a b Q h blk)(f:e=false->yJ S al (.one (.p (.bool false))) a b Q h blk):yJ S al (.one (.p (.bool e))) a b Q h blk:=by
 cases e
 .exact f rfl
 exact H rfl
theorem Xo(H:e->yJ S al (.one (.p (.bool false))) a b Q h blk)(f:e=false->yJ S al (.one (.p (.bool true))) a b Q h blk):yJ S al (.one (.p (.bool (!e)))) a b Q h blk:=by
 cases e
 .exact f rfl
 exact H rfl
theorem aB6{rd:aG}{s:Nat}{r:RV}(hp:aL S f A r)(n:fR blk rd s (r.iA (S.lone s))=some (v,u)):kE S al (.pc f A rd s) d os Q h blk↔al.jk (rd++u.map (·.1))=true/\kG S al os Q (eQ h d v) (app u blk):=by
 constructor
 .rintro ⟨y,j,H⟩
  have:=j.det hp;subst this;rwa[n]at H
 intro m;refine⟨_,hp,?_⟩;rw[n];exact m
theorem avg{rd:aG}{s:Nat}{r:RV}(hp:aL S f A r)(n:fR blk rd s (r.iA (S.lone s))=some (v,u)):wo S al (.pc f A rd s) d all os Q h blk tr↔al.jk (rd++u.map (·.1))=true/\sa S al all os Q (eQ h d v) (app u blk) (tr++[⟨rd++u.map (·.1),u.map (·.1),[]⟩]):=by
 constructor
 .rintro ⟨y,j,H⟩
  have:=j.det hp;subst this;rwa[n]at H
 intro m;refine⟨_,hp,?_⟩;rw[n];exact m
theorem alA{s:Nat}(b:Bool):fR blk [] s ((RV.one (.p x)).iA b)=some (.one (.p x),[]):=by cases b<;>rfl
theorem Y_{s:Nat}(H:aL S f A (.one (.p x))):kE S al (.pc f A [] s) d os Q h blk↔kG S al os Q (eQ h d (.one (.p x))) blk:=by rw[aB6 H (alA _)];exact⟨λH=>H.2,λH=>⟨rfl,H⟩⟩
theorem U1{s:Nat}(H:aL S f A (.one (.p x))):wo S al (.pc f A [] s) d all os Q h blk tr↔sa S al all os Q (eQ h d (.one (.p x))) blk (tr++[⟨[],[],[]⟩]):=by rw[avg H (alA _)];exact⟨λH=>H.2,λH=>⟨rfl,H⟩⟩
end
theorem bh.NO{c:bd}{blk:aJ}(h:bh m y z j (.one c) blk):∃r,(∀B:aJ,B m=blk m->Go.Abs.snap B Go.Abs.jl c=some (.sl j,r))/\(r=[]\/r=[m]):=by
 rcases h with⟨f,H⟩|⟨f,g,H,n⟩
 .cases H;exact⟨[],λB _=>by rw[f];rfl,.inl rfl⟩
 cases H;refine⟨[m],λB u=>?_,.inr rfl⟩;rw[<-u]at n;simp[Go.Abs.jl,Go.Abs.snap,n]
end
open Go
theorem amx{y z:Nat}{j:dI}(h:j≠[]):cU y z j=.own y z j:=aC h
theorem F9{p:Nat->Prop}:(∀k∈([]:aG),p k)↔True:=by simp
theorem EX{a:Nat}{l:aG}{p:Nat->Prop}:(∀k∈a::l,p k)↔p a/\ ∀k∈l,p k:=List.forall_mem_cons
attribute [go_sem] F9 EX Bc bne_self_eq_false Bool.or_true Bool.or_false Bool.true_or Bool.false_or Bool.not_not lk lU mD tu iC lR xg ru vN Option.getD_some Option.getD_none Option.isSome_some Option.isSome_none
attribute [go_sem ↓] aow av2 apM azU aoD apK ass awd awO ar6 awZ av5 aBR atf awr aAp anA ay2 ar2 aBP aqK aqM ax9 arj azM aCm
attribute [go_sem high] N4 LR
attribute [go_sem] arK ax6 aBg azS awm avR avC aB0 awN ani atT aqc ap4 aBv bG asQ axf az3 ayq ata axP aqp ayL axG axg at1 af4 aAZ axd asv aBA apX axh ayc ars asD aAN anv azx aul arP Xh anY avE anO aBl anB apN axL aCf aAm aot aoB afh akO Z9 VW Bool.and_self cF.IS
attribute [go_sem] cZ Uc IG E2 GK app if_true if_false reduceIte Nat.reduceEqDiff beq_self_eq_true reduceCtorEq ge_iff_le r7 Uy Bn IB Nat.reduceAdd Er tc CD gM vb Bs ne_eq Nat.reduceLeDiff A2 Bu Dk D2 Tb EY Nat.reduceMul Nat.reduceLT Vs QU
attribute [go_sem] hU pW tJ tY mN FA uJ Nat.reduceSub Int.reduceLT Int.reduceAdd Int.reduceBEq Int.reduceBNe Int.reduceLE List.contains_eq_mem z_
end Go.Abs
