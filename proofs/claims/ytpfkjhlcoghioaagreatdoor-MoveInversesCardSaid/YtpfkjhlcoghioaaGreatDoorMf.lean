/-
  Rules for a walk.
-/
import Derived.Test.YtpfkjhlcoghioaaGreatDoorMc
import Derived.Attr
set_option linter.all false
open List renaming length->I
namespace Go.Abs
variable{X:eC}{n z M N f s1 E D F H y:Nat}{u:lq}{T:Nat->bP->aH->Prop}{Z:List (Nat×Option eF)}{R:V->aH->Prop}{A:dG}{L ak:aH}{Y:cD}{B:dy}
section
variable{x:PV}{f m y z:Nat}{A:dG}{v:V}{j:dy}
theorem ayJ(k:Nat):ug (.one (.p (.int .i64 (k:Int))))=some k:=by simp[ug]
theorem aHh(n:Nat):ug (.one (.p (.int .i64 (no_index (@OfNat.ofNat Int n instOfNat)))))=some (@OfNat.ofNat Nat n (instOfNatNat n)):=by show ug (.one (.p (.int .i64 (Int.ofNat n))))=some n;simp[ug]
theorem ain{blk:aH}{v:PV}:gC blk jK (.p v)=some (v.norm,[]):=rfl
def acz{β:Type}(x:Option (β×aD))(y:Option (List β×aD)):Option (List β×aD):=match x,y with
 |some (b,x),some (B,y)=>some (b::B,x++y)
 |_,_=>none
theorem aGG{β:Type}{b:β}{x:aD}{B:List β}{y:aD}:acz (some (b,x)) (some (B,y))=some (b::B,x++y):=rfl
theorem asB{α β:Type}{f:α->Option (β×aD)}:iP f []=some ([],[]):=rfl
theorem aF8{α β:Type}{f:α->Option (β×aD)}{a:α}{r:List α}:iP f (a::r)=acz (f a) (iP f r):=by
 simp[iP,acz]
 grind
theorem aEc{blk:aH}{c:cG}:s9 blk (.one c)=(gC blk jK c).map λ(v,r)=>(.one (.p v),r):=rfl
theorem ar0{blk:aH}:s9 blk (.agg X)=(iP (gC blk jK) X).map λ(A,r)=>(.agg (A.map .p),r):=rfl
theorem arA{blk:aH}{v:PV}:gC blk (n+1) (.p v)=some (v.norm,[]):=rfl
def TE(o:Nat×Option gr)(f:List eC->Option (dy×aD))(id g M len:Nat):Option (PV×aD):=match o with
 |(g',some (.arr _ _ j))=>if g'=g/\M+len<=I j then some (.sl ((j.drop M).take len),[id])else none
 |(g',some (.uZ _ _ j))=>if g'=g/\M+len<=I j then some (.sl ((j.drop M).take len),[id])else none
 |(g',some (.nH _ _ j))=>if g'=g/\M+len<=I j then
   match f ((j.drop M).take len)with
   |some (ps,r)=>some (.sl ps,id::r)
   |none=>none
  else none
 |_=>none
theorem aDG{blk:aH}{id g z len:Nat}:gC blk jK (.hsl id g z M len)=TE (blk id) (iP (iP (gC blk 5))) id g M len:=by unfold jK TE;rw[gC];rfl
def UQ(o:Nat×Option gr)(f:eC->Option (dR×aD))(id g M:Nat):Option (PV×aD):=match o with
 |(g',some (.var X))=>if g'=g then
   match f X with
   |some (ps,r)=>some (.box (ps.drop M),id::r)
   |none=>none
  else none
 |(g',some (.fvar ps))=>if g'=g then some (.box (ps.drop M),[id])else none
 |_=>none
theorem az3{blk:aH}{id g:Nat}:gC blk jK (.aW id g M)=UQ (blk id) (iP (gC blk 5)) id g M:=by unfold jK UQ;rw[gC];rfl
section
variable {S:Sys} {al:cD} {h:bP} {blk:aH} {d:eF}
theorem Ml{rd:aD}{s:Nat}{b:Bool}(af:x.scalar):fQ blk rd s ((RV.one (.p x)).gV b)=some (.one (.p x),[]):=by
 have h:(RV.one (.p x)).gV b=.one (.p x):=by cases b<;>rfl
 rw[h];have:(RV.one (.p x)).alone:=by simp[RV.alone,mX,og,nM.alone,af]
 simp[fQ,this,or_true,if_true];rfl
theorem avk{rd:aD}{s:Nat}{bJ:bP->aH->Prop}(n:aC S f A (.one (.p x)))(af:x.scalar):L5 S .all (.pc f A rd s) d h blk bJ↔bJ (dL h d (.one (.p x))) blk:=by
 constructor
 .rintro ⟨y,j,H⟩
  have:=j.det n;subst this;rw[Ml af]at H;exact H.2
 intro m;refine⟨_,n,?_⟩;rw[Ml af];exact⟨cD.Ju _,m⟩
theorem atM{rd:aD}{s:Nat}{tr:gl}{bJ:bP->aH->gl->Prop}(n:aC S f A (.one (.p x)))(af:x.scalar):JI S .all (.pc f A rd s) d h blk tr bJ↔bJ (dL h d (.one (.p x))) blk (tr++[⟨rd,[],[]⟩]):=by
 constructor
 .rintro ⟨y,j,H⟩
  have:=j.det n;subst this;rw[Ml af]at H
  simpa [app]using H.2
 intro m;refine⟨_,n,?_⟩;rw[Ml af];exact⟨cD.Ju _,by simpa [app]using m⟩
theorem aCD{O:fx}{Q:ib}:W S al (.region true O) Q h blk↔rO S al O (λh blk j=>qI O [] j=true/\Q .normal h blk) h blk []:=by
 rw[afS]
 grind
end
theorem wrap_small(h:n<=9223372036854775807):IntKind.i64.wrap (n:Int)=n:=aji h
theorem cg(h:n<9223372036854775807):IntKind.i64.wrap ((n:Int)+1)=((n+1:Nat):Int):=aji (n:=n+1) J
section
variable {S:Sys} {al:cD} {Q:ib} {h:bP} {blk:aH} {a b:aM} {O os all:fx} {tr:gl} {d:eF} {op:s4} {n:Nat}
def vn(S:Sys)(al:cD)(b:aM)(Q:ib):ib
 | .normal,h,blk=>W S al b Q h blk
 | .exit i,h,blk=>Q (.exit i) h blk
 | .ret,h,blk=>Q .ret h blk
theorem azm:QX (W S al b Q) Q=vn S al b Q:=by funext e h blk;cases e<;>rfl
theorem aFS:W S al (.seq a b) Q h blk↔W S al a (vn S al b Q) h blk:=by rw[awi,azm]
theorem aAh:vn S al b Q .normal h blk=W S al b Q h blk:=rfl
theorem azR{i:Nat}:vn S al b Q (.exit i) h blk=Q (.exit i) h blk:=rfl
theorem avP:vn S al b Q .ret h blk=Q .ret h blk:=rfl
def zq (S:Sys)(al:cD)(v:V)(a b:aM)(Q:ib)(h:bP)(blk:aH):Prop:=Sl v (W S al a Q h blk) (W S al b Q h blk)
theorem aGL{x:fc}:W S al (.cond x a b) Q h blk↔zq S al (ev h x) a b Q h blk:=asU
theorem aFT:zq S al (.one (.p (.bool true))) a b Q h blk=W S al a Q h blk:=by simp[zq,Sl]
theorem aEw:zq S al (.one (.p (.bool false))) a b Q h blk=W S al b Q h blk:=by simp[zq,Sl]
def jC (S:Sys)(al:cD)(O:fx)(Q:ib)(h:bP)(blk:aH):Prop:=FI S al O (λh blk=>Q .normal h blk) h blk
def jW (S:Sys)(al:cD)(p:D7)(d:eF)(os:fx)(Q:ib)(h:bP)(blk:aH):Prop:=L5 S al p d h blk (FI S al os λh blk=>Q .normal h blk)
def rA (S:Sys)(al:cD)(w:Option Bool)(d:eF)(op:s4)(os:fx)(Q:ib)(h:bP)(blk:aH):Prop:=Xp S al w ⟨d,op,none,0⟩ h blk (FI S al os λh blk=>Q .normal h blk)
theorem ayT:W S al (.region false O) Q h blk↔jC S al O Q h blk:=axN
theorem aAY:jC S al [] Q h blk↔Q .normal h blk:=ave
theorem ata:jC S al (⟨d,op,none,n⟩::os) Q h blk↔jW S al (cV S.shared h blk op) d os Q h blk:=amC
theorem aDO{t:Nat}{w:Bool}:jC S al (⟨d,op,some (t,w),n⟩::os) Q h blk↔rA S al (GQ (h t) w) d op os Q h blk:=by
 unfold jC rA;rw[amC];have:th h (some (t,w))=GQ _ w:=rfl;simp[this];cases GQ _ w with
 |none=>rfl
 |some x=>cases x<;>rfl
theorem avF:rA S al (some true) d op os Q h blk↔jW S al (cV S.shared h blk op) d os Q h blk:=Iff.rfl
theorem at3:rA S al (some false) d op os Q h blk↔jC S al os Q (dL h d .undef) blk:=Iff.rfl
theorem Rq{r:aD}:jW S .all (.done v u r) d os Q h blk↔jC S .all os Q (dL h d v) (app u blk):=t7
theorem amu{r:aD}:jW S al (.done v u r) d os Q h blk↔al.iG (r++u.map (·.1))=true/\jC S al os Q (dL h d v) (app u blk):=Iff.rfl
theorem aaS{rd:aD}{s:Nat}(H:aC S f A (.one (.p x)))(af:x.scalar):jW S .all (.pc f A rd s) d os Q h blk↔jC S .all os Q (dL h d (.one (.p x))) blk:=avk H af
theorem ie{rd:aD}{s:Nat}{k:IntKind}{x:Int}(H:aC S f A (.one (.p (.int k x)))):jW S .all (.pc f A rd s) d os Q h blk↔jC S .all os Q (dL h d (.one (.p (.int k x)))) blk:=aaS H rfl
theorem cS{rd:aD}{s:Nat}{x:Bool}(H:aC S f A (.one (.p (.bool x)))):jW S .all (.pc f A rd s) d os Q h blk↔jC S .all os Q (dL h d (.one (.p (.bool x)))) blk:=aaS H rfl
theorem Am{rd:aD}{s:Nat}{x:ByteArray}(H:aC S f A (.one (.p (.str x)))):jW S .all (.pc f A rd s) d os Q h blk↔jC S .all os Q (dL h d (.one (.p (.str x)))) blk:=aaS H rfl
theorem dt{rd:aD}{s:Nat}{r:RV}(hp:aC S f A r)(n:fQ blk rd s (r.gV (S.lone s))=some (v,u)):jW S .all (.pc f A rd s) d os Q h blk↔jC S .all os Q (dL h d v) (app u blk):=by
 constructor
 .rintro ⟨y,j,H⟩
  have:=j.det hp;subst this;rw[n]at H;exact H.2
 intro m;refine⟨_,hp,?_⟩;rw[n];exact⟨cD.Ju _,m⟩
def p_ (S:Sys)(al:cD)(all O:fx)(Q:ib)(h:bP)(blk:aH)(tr:gl):Prop:=rO S al O (λh blk j=>qI all [] j=true/\Q .normal h blk) h blk tr
def sY (S:Sys)(al:cD)(p:D7)(d:eF)(all os:fx)(Q:ib)(h:bP)(blk:aH)(tr:gl):Prop:=JI S al p d h blk tr (rO S al os λh blk j=>qI all [] j=true/\Q .normal h blk)
def As (S:Sys)(al:cD)(w:Option Bool)(d:eF)(op:s4)(all os:fx)(Q:ib)(h:bP)(blk:aH)(tr:gl):Prop:=HF S al w ⟨d,op,none,0⟩ h blk tr (rO S al os λh blk j=>qI all [] j=true/\Q .normal h blk)
theorem awA:W S al (.region true O) Q h blk↔p_ S al O O Q h blk []:=aCD
theorem aDF:p_ S al all [] Q h blk tr↔qI all [] tr=true/\Q .normal h blk:=aaz
theorem avV:p_ S al all (⟨d,op,none,n⟩::os) Q h blk tr↔sY S al (cV S.shared h blk op) d all os Q h blk tr:=VI
theorem aGT{t:Nat}{w:Bool}:p_ S al all (⟨d,op,some (t,w),n⟩::os) Q h blk tr↔As S al (GQ (h t) w) d op all os Q h blk tr:=by
 unfold p_ As;rw[VI];have:th h (some (t,w))=GQ _ w:=rfl;simp[this];cases GQ _ w with
 |none=>rfl
 |some x=>cases x<;>rfl
theorem aq8:As S al (some true) d op all os Q h blk tr↔sY S al (cV S.shared h blk op) d all os Q h blk tr:=Iff.rfl
theorem aDP:As S al (some false) d op all os Q h blk tr↔p_ S al all os Q (dL h d .undef) blk (tr++[⟨[],[],[]⟩]):=Iff.rfl
theorem ahl{r:aD}:sY S .all (.done v u r) d all os Q h blk tr↔p_ S .all all os Q (dL h d v) (app u blk) (tr++[⟨r,u.map (·.1),[]⟩]):=t7
theorem ahG{r:aD}:sY S al (.done v u r) d all os Q h blk tr↔al.iG (r++u.map (·.1))=true/\p_ S al all os Q (dL h d v) (app u blk) (tr++[⟨r,u.map (·.1),[]⟩]):=Iff.rfl
theorem ak4{rd:aD}{s:Nat}(H:aC S f A (.one (.p x)))(af:x.scalar):sY S .all (.pc f A rd s) d all os Q h blk tr↔p_ S .all all os Q (dL h d (.one (.p x))) blk (tr++[⟨rd,[],[]⟩]):=atM H af
theorem jZ{rd:aD}{s:Nat}{k:IntKind}{x:Int}(H:aC S f A (.one (.p (.int k x)))):sY S .all (.pc f A rd s) d all os Q h blk tr↔p_ S .all all os Q (dL h d (.one (.p (.int k x)))) blk (tr++[⟨rd,[],[]⟩]):=ak4 H rfl
theorem mA{rd:aD}{s:Nat}{x:Bool}(H:aC S f A (.one (.p (.bool x)))):sY S .all (.pc f A rd s) d all os Q h blk tr↔p_ S .all all os Q (dL h d (.one (.p (.bool x)))) blk (tr++[⟨rd,[],[]⟩]):=ak4 H rfl
theorem od{rd:aD}{s:Nat}{r:RV}(hp:aC S f A r)(n:fQ blk rd s (r.gV (S.lone s))=some (v,u)):sY S .all (.pc f A rd s) d all os Q h blk tr↔p_ S .all all os Q (dL h d v) (app u blk) (tr++[⟨rd++u.map (·.1),u.map (·.1),[]⟩]):=by
 constructor
 .rintro ⟨y,j,H⟩
  have:=j.det hp;subst this;rw[n]at H;exact H.2
 intro m;refine⟨_,hp,?_⟩;rw[n];exact⟨cD.Ju _,m⟩
def OB(N:Nat)(T:Nat->bP->aH->Prop)(k:Nat)(Q:ib):ib:=QX (λh blk=>k<N/\T (k+1) h blk) Q
theorem aBa{k:Nat}:OB N T k Q .normal h blk=(k<N/\T (k+1) h blk):=rfl
theorem atY{k i:Nat}:OB N T k Q (.exit i) h blk=Q (.exit i) h blk:=rfl
theorem aGq{k:Nat}:OB N T k Q .ret h blk=Q .ret h blk:=rfl
theorem cZ{c:aM}(T:Nat->bP->aH->Prop)(f N:Nat)(H:f<=N)(j:T f h blk)
  (R:∀k h blk,k<=N->T k h blk->W S al c (OB N T k Q) h blk):W S al (.loop c) Q h blk:=aGf T f N H j R
def Pu(R:V->aH->Prop)(blk:aH):Option dG->Prop
 |some A=>R (D4 A) blk
 |none=>False
theorem auO:rU al Z R .ret h blk=Pu R blk (sk al h blk Z):=by
 simp[rU,Pu]
 grind
theorem aCP:rU al Z R .normal h blk=Pu R blk (sk al h blk Z):=by
 simp[rU,Pu]
 grind
theorem asl{A:dG}:Pu R blk (some A)=R (D4 A) blk:=rfl
end
section
variable {S:Sys} {al:cD} {Q:ib} {h:bP} {blk:aH}
def Wp(S:Sys)(al:cD)(c:aM)(Q:ib):ib
 | .normal,h,blk=>W S al (.loop c) Q h blk
 | .exit i,h,blk=>Q (.exit i) h blk
 | .ret,h,blk=>Q .ret h blk
theorem aFg{c:aM}:Wp S al c Q .normal h blk=W S al (.loop c) Q h blk:=rfl
theorem azT{c:aM}{i:Nat}:Wp S al c Q (.exit i) h blk=Q (.exit i) h blk:=rfl
theorem aqR{c:aM}:Wp S al c Q .ret h blk=Q .ret h blk:=rfl
theorem oG{c:aM}(x:W S al c (Wp S al c Q) h blk):W S al (.loop c) Q h blk:=by
 obtain⟨n,e,y,v,f,H⟩:=x;cases e with
 |normal=>obtain⟨m,e,D,B,j,u⟩:=H;refine⟨max n m+1,e,D,B,?_,u⟩;simp[dJ]at j |-;simp[nm];rw[IM S J f];exact abG S J J j
 |exit i=>exact⟨n+1,_,_,_,by simp[dJ,nm,IM S _ f],H⟩
 |ret=>exact⟨n+1,_,_,_,by simp[dJ,nm,IM S (Nat.le_succ n) f],H⟩
end
theorem ja.det{S:Sys}{A:dG}{al:cD}{blk:aH}{j:V}{b:aH}(h:ja S f A al blk v b)(u:ja S f A al blk j L):v=j/\b=L:=by
 obtain⟨n,x⟩:=h;obtain⟨m,H⟩:=u;have c:=O6 S (LW n m) _ _ _ _ _ H;rw[O6 S (I5 n m) _ _ _ _ _ x]at c
 grind
section
variable {S:Sys} {al:cD} {Q:ib} {h:bP} {blk:aH} {os all:fx} {tr:gl} {d:eF}
theorem aeJ:al.iG []:=rfl
theorem aap{a:Nat}{l:aD}:al.iG (a::l)=(al.ok a&&al.iG l):=rfl
def dk(bJ:Nat->Prop)(b L:aH):Prop:=∀id,¬bJ id->L id=b id
theorem dk.refl(bJ:Nat->Prop)(b:aH):dk bJ b b:=λ_ _=>rfl
theorem dk.trans{bJ:Nat->Prop}{a b c:aH}(h:dk bJ a b)(f:dk bJ b c):dk bJ a c:=λid H=>(f id H).trans (h id H)
theorem dk.dz{bJ:Nat->Prop}{b:aH}(h:dk bJ b L){k:Nat}(f:bJ k)(x:Nat×Option gr):dk bJ b (dz L k x):=λid H=>by rw[bG,aE ii];exact h id H
theorem aBi(m:al.holds (iA (S.ctx al) f A blk))(n:ja S f A (iA (S.ctx al) f A blk) blk v ak):jW S al (.sc f A) d os Q h blk↔jC S al os Q (dL h d v) ak:=by
 constructor
 .rintro ⟨_,v2,B,j,H⟩
  obtain⟨rfl,rfl⟩:=n.det j;exact H
 intro H;exact⟨m,v,ak,n,H⟩
theorem aos{rd:aD}{s:Nat}(u:aC S f A (.one (.p x)))(af:x.scalar):jW S al (.pc f A rd s) d os Q h blk↔al.iG (rd++[])=true/\jC S al os Q (dL h d (.one (.p x))) blk:=by
 constructor
 .rintro ⟨y,m,j⟩
  have:=m.det u;subst this;rwa[Ml af]at j
 rintro⟨H,n⟩
 refine⟨_,u,?_⟩;rw[Ml af];exact⟨H,n⟩
theorem TN{rd:aD}{s:Nat}{k:IntKind}{x:Int}(H:aC S f A (.one (.p (.int k x)))):jW S al (.pc f A rd s) d os Q h blk↔al.iG (rd++[])=true/\jC S al os Q (dL h d (.one (.p (.int k x)))) blk:=aos H rfl
theorem am1{rd:aD}{s:Nat}{x:Bool}(H:aC S f A (.one (.p (.bool x)))):jW S al (.pc f A rd s) d os Q h blk↔al.iG (rd++[])=true/\jC S al os Q (dL h d (.one (.p (.bool x)))) blk:=aos H rfl
theorem ark{f:Int->dR}(q:Int):∀(ids:cT) (i:Nat),zW (.int .i64 q) (ids.map λid=>(PV.int .i64 id,f id)) i=some (if q∈ids then some (i+ids.idxOf q,f q)else none):=by
 intro ids
 induction ids with
 |nil=>intro i;rfl
 |cons a ids h=>
  intro i;simp[fq,zW,Fc,if_true]
  grind
theorem rG{f:Nat}{A:dG}{P:V->aH->Prop}(j:al.holds (iA (S.ctx al) f A blk))(u:∃v ak,ja S f A (iA (S.ctx al) f A blk) blk v ak/\P v ak)
  (m:∀v ak,P v ak->jC S al os Q (dL h d v) ak):jW S al (.sc f A) d os Q h blk:=by
 obtain⟨v,ak,n,H⟩:=u;exact(aBi j n).2 (m v ak H)
theorem uS:cD.all.holds Y:=rfl
theorem Mk(h:al.iG Y.ids)(H:Y.fs.all al.fs.contains):al.holds Y:=by unfold cD.holds;rw[h,H];simp
theorem zy{id:Nat}(h:(S.sites f).contains (lf id)):(iA (S.ctx al) f A blk).ok id:=by show(false||_||(S.sites f).contains _)=true;rw[h];simp
theorem uI{id:Nat}(h:id∈(A.map (mI blk)).flatten):(iA (S.ctx al) f A blk).ok id:=by
 show(false||(A.map _).flatten.contains id||_)=true
 grind
theorem Y3{id g g0 o:Nat}(h:blk id=(g0,some (.var X))):mI blk (.one (.aW id g o))=id::(X.map (oj blk 5)).flatten:=by show oj blk 6 (.aW id g o)=_;rw[oj,h]
theorem aef{v:PV}:oj blk n (.p v)=[]:=by cases n<;>rfl
theorem MM{id g g0 o l f:Nat}(h:blk id=(g0,some (.arr y f j))):oj blk (n+1) (.hsl id g z o l)=[id]:=by rw[oj,h]
def adC(x:Nat×Option gr)(id g:Nat):Option (PV×aD):=match x with
 |(g',some (.map A j))=>if g'=g then some (.mp A j,[id])else none
 |(g',some (.fmap A j))=>if g'=g then some (.mp A j,[id])else none
 |_=>none
theorem am4{id g:Nat}:gC blk (n+1) (.ow id g)=adC (blk id) id g:=by rw[gC];rfl
end
theorem arW:type_of%(And.intro @List.map_nil.{0,0}<|And.intro @List.append_nil.{0}<|And.intro @List.map_cons.{0,0}<|And.intro @List.cons_append.{0}<|And.intro @List.nil_append.{0}<|And.intro @List.drop_zero.{0}<|And.intro @List.take_zero.{0}<|And.intro @List.length_cons.{0}<|And.intro @List.length_nil.{0}<|And.intro @List.take_succ_cons.{0}<|And.intro @List.drop_nil.{0}<|And.intro @List.drop_succ_cons.{0}<|And.intro @List.length_map.{0,0}<|And.intro @List.take_nil.{0}<|And.intro @List.flatten_cons.{0}<|And.intro @List.getElem?_cons_zero.{0}<|And.intro @List.getElem?_cons_succ.{0}<|And.intro @List.all_nil.{0}<|And.intro @List.all_cons.{0}<|And.intro @List.not_mem_nil.{0} @Option.map_some.{0,0}):=aH2
theorem ar5:type_of%(And.intro @Bool.false_eq_true<|And.intro @Bool.not_true<|And.intro @Bool.not_false<|And.intro @Bool.and_true<|And.intro @Bool.and_false<|And.intro @Bool.true_and<|And.intro @Bool.false_and<|And.intro @true_and<|And.intro @and_true<|And.intro @true_or<|And.intro @or_true<|And.intro @false_or<|And.intro @or_false<|And.intro @decide_true<|And.intro @decide_false<|And.intro @not_true_eq_false<|And.intro @not_false_eq_true<|And.intro @and_self<|And.intro @Nat.le_refl<|And.intro @Nat.zero_add<|And.intro @Nat.mul_one<|And.intro @Nat.zero_mul<|And.intro @Nat.zero_le<|And.intro @Nat.sub_zero @Int.zero_add):=aH2
def a_(m y z:Nat)(j:dy)(v:V)(blk:aH):Prop:=(j=[]/\v=.one (.p .nils))\/(j≠[]/\ ∃g,v=.one (.hsl m g z 0 (I j))/\blk m=(g,some (.arr y z j)))
def bU(y z:Nat)(j:dy):nM:=if j=[]then .p .nils else .own y z j
theorem a_.of_eq{blk:aH}(h:a_ m y z j v blk)(u:ak m=blk m):a_ m y z j v ak:=by
 rcases h with h|⟨f,g,H,n⟩
 .exact .inl h
 exact .inr ⟨f,g,H,by rw[u,n]⟩
theorem a_.nil{blk:aH}:a_ m y z [] (.one (.p .nils)) blk:=.inl ⟨rfl,rfl⟩
theorem a_.iN{blk:aH}(h:a_ m y z j v blk):∃c o,v=.one c/\iN blk c=some (bU y z j,o,[])/\(o=[]\/o=[m]):=by
 rcases h with⟨f,H⟩|⟨f,g,H,n⟩
 .exact⟨.p .nils,[],H,by simp[Go.Abs.iN,bU,f],.inl rfl⟩
 refine⟨_,[m],H,?_,.inr rfl⟩;simp[Go.Abs.iN,n,and_self,cP,if_true,lN,bU,aE f]
theorem qN{blk:aH}(h:a_ m y z j v blk):iD blk v=some (.one (bU y z j)):=by
 obtain⟨c,o,rfl,H,f⟩:=h.iN;rcases f with rfl|rfl
 .simp[iD,mM,kZ,kD,H,lg,oE,nq]
 simp[iD,mM,kZ,kD,H,lg,oE,nq]
theorem Tt{f:Nat}{fs:dy}{w:V}{blk:aH}(af:s1≠f)(h:a_ s1 E D j v blk)(n:a_ f F H fs w blk):iD blk (.tup [v,w])=some (.tup [.one (bU E D j),.one (bU F H fs)]):=by obtain⟨c,o,rfl,x,y⟩:=h.iN;obtain⟨d,q,rfl,m,u⟩:=n.iN;rcases y with rfl|rfl<;>rcases u with rfl|rfl<;>simp[iD,mM,yO,kZ,kD,x,m,lg,oE,nq,HQ,af]
theorem a_.elems{blk:aH}(h:a_ m y z j v blk):∃r,gP blk v=some (j,r,[])/\(r=[]\/r=[m]):=by
 rcases h with⟨f,H⟩|⟨f,g,H,n⟩
 .exact⟨[],by rw[H,f];rfl,.inl rfl⟩
 refine⟨[m],?_,.inr rfl⟩;rw[H];simp[gP,n]
theorem a_.r9{blk:aH}(h:a_ m y z j v blk):j=[]\/r9 v=some z:=by
 rcases h with⟨H,f⟩|⟨H,g,f,n⟩
 .exact .inl H
 exact .inr (by rw[f];rfl)
theorem a_.gk{blk:aH}(h:a_ m y z j v blk):Go.Abs.r9 v=some z\/gk z j:=by
 rcases h.r9 with h|h
 .exact .inr EQ
 exact .inl h
theorem a_.abX{c:cG}{blk:aH}(h:a_ m y z j (.one c) blk):∃r,Go.Abs.gC blk (n+1) c=some (.sl j,r)/\(r=[]\/r=[m]):=by
 rcases h with⟨f,H⟩|⟨f,g,H,u⟩
 .cases H;exact⟨[],by rw[f];rfl,.inl rfl⟩
 refine⟨[m],?_,.inr rfl⟩;cases H;simp[Go.Abs.gC,u]
section
variable {S:Sys} {al:cD} {Q:ib} {h:bP} {blk:aH} {os all:fx} {tr:gl} {d:eF}
theorem SM{id bytes:Nat}{v x:V}{rd:aD}(M:a_ id y z j v blk)(n:gP blk x=some (B,rd,[]))(O:r9 x=some z\/gk z B)(E:(I j+I B)*bytes<=140737488355328):
  ∃D u r,jl blk m y z bytes v x=.done D u r/\a_ m y z (j++B) D (app u blk)/\(∀i,i≠m->i≠id->app u blk i=blk i)/\(r=rd/\u.map (·.1)=[]\/r=m::rd/\u.map (·.1)=[m]\/r=m::id::rd/\u.map (·.1)=[id,m]):=by
 have X:¬¬(r9 x=some z\/gk z B):=λh=>h O;rcases M with⟨rfl,rfl⟩|⟨N,g,rfl,F⟩
 .by_cases H:B=[]
  .subst H;refine⟨.one _,[],rd,?_,.inl ⟨rfl,rfl⟩,λi _ _=>rfl,.inl ⟨rfl,rfl⟩⟩;simp[jl,n,X,vF,xh]
  have hl:¬I B=0:=rg
  have f:I B*bytes<=pE:=by simpa [pE]using E
  refine⟨.one (.hsl m ((blk m).1+1) z 0 (I B)),[(m,((blk m).1+1,some (.arr y z B)))],m::rd,?_,.inr ⟨by simpa using H,(blk m).1+1,aG,?_⟩,λi A _=>?_,.inr (.inl ⟨rfl,rfl⟩)⟩
  .simp only[jl,n,aE X,vF,xh,aE hl,aI f];simp
  .simp[app,bG]
  simp[app,bG,A]
 have f:(I j+I B)*bytes<=pE:=by simpa [pE]using E
 refine⟨.one (.hsl m ((blk m).1+1) z 0 (I j+I B)),[(id,(g,none)),(m,((blk m).1+1,some (.arr y z (j++B))))],m::id::rd,?_,.inr ⟨by simp[N],(blk m).1+1,aG,?_⟩,λi A L=>?_,.inr (.inr ⟨rfl,rfl⟩)⟩
 .simp only[jl,n,aE X,vF,xh,F];simp[f]
 .simp[app,bG]
 simp[app,bG,A,L]
theorem mO{id m y z bytes:Nat}{j:dy}{v x:V}{rd:aD}(A:a_ id y z j v blk)(D:gP blk x=some (B,rd,[]))(L:r9 x=some z\/gk z B)(f:(I j+I B)*bytes<=140737488355328)
  (E:∀(c:cG) ak,a_ m y z (j++B) (.one c) ak->(∀i,i≠m->i≠id->ak i=blk i)->jC S .all os Q (dL h d (.one c)) ak):jW S .all (jl blk m y z bytes v x) d os Q h blk:=by
 obtain⟨M,u,r,F,H,n,_⟩:=SM A D L f;obtain⟨c,o,rfl,_⟩:=H.iN;rw[F,Rq];exact E _ _ H n
theorem oT{id m y z bytes:Nat}{j:dy}{v x:V}{rd:aD}(n:a_ id y z j v blk)(A:gP blk x=some (B,rd,[]))(E:r9 x=some z\/gk z B)(f:(I j+I B)*bytes<=140737488355328)
  (N:∀(c:cG) ak r w,a_ m y z (j++B) (.one c) ak->(∀i,i≠m->i≠id->ak i=blk i)->(r=rd/\w=[]\/r=m::rd/\w=[m]\/r=m::id::rd/\w=[id,m])->p_ S .all all os Q (dL h d (.one c)) ak (tr++[⟨r,w,[]⟩])):sY S .all (jl blk m y z bytes v x) d all os Q h blk tr:=by
 obtain⟨F,u,r,D,H,L,M⟩:=SM n A E f;obtain⟨c,o,rfl,_⟩:=H.iN;rw[D,ahl]
 grind
theorem DK{s:Nat}:a_ s y z j (.one (jy blk s (bU y z j)).1) (app (jy blk s (bU y z j)).2 blk)/\(∀i,i≠s->app (jy blk s (bU y z j)).2 blk i=blk i)/\((jy blk s (bU y z j)).2.map (·.1)=[]\/(jy blk s (bU y z j)).2.map (·.1)=[s]):=by
 unfold bU;by_cases h:j=[]
 .rw[aI h];exact⟨.inl ⟨h,rfl⟩,λi _=>rfl,.inl rfl⟩
 rw[aE h];exact⟨.inr ⟨h,(blk s).1+1,rfl,by simp[jy,app,bG]⟩,λi H=>by simp[jy,app,bG,H],.inr rfl⟩
theorem Bf(r:RV):r.gV false=r:=rfl
theorem pB{f:Nat}{A:dG}{s y z:Nat}{rd:aD}{j:dy}(hp:aC S f A (.one (bU y z j)))(m:S.lone s=false)(x:rd=[]\/(RV.one (bU y z j)).alone)
  (n:∀(c:cG) ak,a_ s y z j (.one c) ak->(∀i,i≠s->ak i=blk i)->jC S .all os Q (dL h d (.one c)) ak):jW S .all (.pc f A rd s) d os Q h blk:=by
 obtain⟨u,H,_⟩:=DK;refine(dt hp ?_).2 (n _ _ u H);rw[m,Bf];unfold fQ;rw[aI x];simp[jH,mX,og,ns,zC,uH]
theorem WX{f:Nat}{A:dG}{s:Nat}{j fs:dy}(hp:aC S f A (.tup [.one (bU E D j),.one (bU F H fs)]))(M:S.lone s=false)
  (O:∀(c e:cG) ak,a_ s E D j (.one c) ak->a_ (s+1) F H fs (.one e) ak->(∀i,i≠s->i≠s+1->ak i=blk i)->jC S .all os Q (dL h d (.tup [.one c,.one e])) ak):jW S .all (.pc f A [] s) d os Q h blk:=by
 obtain⟨R,N,_⟩:=DK (s:=s);have B:∀(b L:aH) (k:Nat) (r:nM),L k=b k->jy b k r=jy L k r:=by
  intro b L k r Y;cases r with
  |p v=>rfl
  |own y X j=>simp[jy,Y]
 obtain⟨n,z,_⟩:=DK;rw[<- (B _ _ _ _ (N (s+1) J))]at n z;have m:∀(a b:lq) (c:aH),app (a++b) c=app b (app a c):=by
  intro a
  induction a with
  |nil=>intro b c;rfl
  |cons x a T=>intro b c;exact T b _
 refine(dt (v:=.tup [.one (jy blk s (bU E D j)).1,.one (jy blk (s+1) (bU F H fs)).1]) (u:=(jy blk s (bU E D j)).2++(jy blk (s+1) (bU F H fs)).2) hp ?_).2 (O _ _ _ ?_ ?_ ?_)
 .rw[M,Bf];unfold fQ;simp[jH,mX,xI,og,ns,zC,zp,uH]
 .rw[m];exact R.of_eq (z s J)
 .rw[m];exact n
 simp_all
end
theorem qF(h:(j.all λe=>e.all PV.scalar)):(RV.one (bU y z j)).alone:=by
 unfold bU;split
 .rfl
 simp[RV.alone,mX,og,nM.alone,h]
theorem a_.jK{c:cG}{blk:aH}(h:a_ m y z j (.one c) blk):∃r,Go.Abs.gC blk Go.Abs.jK c=some (.sl j,r)/\(r=[]\/r=[m]):=h.abX
def Cq(blk:aH)(r:aD):Prop:=∀i∈r,∃g y z j,blk i=(g,some (.arr y z j))
theorem Cq.nil{blk:aH}:Cq blk []:=λ_ h=>by simp at h
theorem Cq.app{blk:aH}{a b:aD}(h:Cq blk a)(k:Cq blk b):Cq blk (a++b):=λi H=>by
 rcases iI.1 H with H|H
 .exact h i H
 exact k i H
theorem a_.abW{c:cG}{blk:aH}(h:a_ m y z j (.one c) blk):∃r,Go.Abs.gC blk Go.Abs.jK c=some (.sl j,r)/\Cq blk r/\(r=[]\/r=[m]):=by
 rcases h with⟨f,H⟩|⟨f,g,H,n⟩
 .cases H;exact⟨[],by rw[f];rfl,Cq.nil,.inl rfl⟩
 refine⟨[m],?_,λi u=>?_,.inr rfl⟩
 .cases H;simp[Go.Abs.gC,Go.Abs.jK,n]
 grind
theorem azD{blk:aH}(all:aD):∀r:aD,Cq blk r->∃f,xh blk all r=some f/\f.map (·.1)=r:=by
 intro r
 induction r with
 |nil=>intro _;exact⟨[],rfl,rfl⟩
 |cons i r u=>intro h;obtain⟨g,y,z,j,m⟩:=h i aG;obtain⟨f,v,H⟩:=u λx n=>h x aIz;refine⟨(i,(g,some (.uZ y z j)))::f,?_,by simp[H]⟩;simp[xh,zV,m,v]
theorem YR:∀(u:lq) (b:aH) (i:Nat),i∉u.map (·.1)->app u b i=b i:=by
 intro u
 induction u with
 |nil=>intro b i _;rfl
 |cons x u f=>intro b i h;simp only[fq,dh,Ag]at h;show app u _ i=b i;rw[f _ _ h.2,bG,aE h.1]
theorem II:∀(a b:lq) (c:aH),app (a++b) c=app b (app a c):=by
 intro a
 induction a with
 |nil=>intro b c;rfl
 |cons x a f=>intro b c;exact f b _
section
variable {S:Sys} {al:cD} {Q:ib} {h:bP} {blk:aH} {os all:fx} {tr:gl} {d:eF}
theorem aqE{id m y z bytes:Nat}{j:dy}{v x:V}{rd fr:aD}(R:a_ id y z j v blk)(E:gP blk x=some (B,rd,fr))(Y:Cq blk fr)(F:id∉fr)(ab:m∉fr)(T:r9 x=some z\/gk z B)(L:(I j+I B)*bytes<=140737488355328)
  (D:∀(c:cG) ak,a_ m y z (j++B) (.one c) ak->(∀i,i≠m->i≠id->i∉fr->ak i=blk i)->jC S .all os Q (dL h d (.one c)) ak):jW S .all (jl blk m y z bytes v x) d os Q h blk:=by
 have X:¬¬(r9 x=some z\/gk z B):=λad=>ad T;obtain⟨f,Cg,M⟩:=azD fr fr Y;have Z:vF blk fr=some f:=Cg;rcases R with⟨rfl,rfl⟩|⟨aN,g,rfl,N⟩
 .by_cases n:B=[]
  .subst n;have:jl blk m y z bytes (.one (.p .nils)) x=.done (.one (.p .nils)) f (rd++fr):=by simp[jl,E,X,Z]
   rw[this,Rq];exact D _ _ (.inl ⟨rfl,rfl⟩) λi _ _ H=>YR _ _ _ ii
  have hl:¬I B=0:=at9
  have u:I B*bytes<=pE:=by simpa [pE]using L
  have:jl blk m y z bytes (.one (.p .nils)) x=.done (.one (.hsl m ((blk m).1+1) z 0 (I B))) (f++[(m,((blk m).1+1,some (.arr y z B)))]) (m::rd++fr):=by simp only[jl,E,aE X,Z,aE hl,aI u]
  rw[this,Rq];refine D _ _ (.inr ⟨by simpa using n,(blk m).1+1,aG,?_⟩) λi A _ H=>?_
  .rw[II];simp[app,bG]
  rw[II];have:=YR f blk i (by rw[M];exact H);simp[app,bG,A,this]
 have u:(I j+I B)*bytes<=pE:=by simpa [pE]using L
 have Nc:fr.contains id=false:=by simpa using F
 have:jl blk m y z bytes (.one (.hsl id g z 0 (I j))) x=.done (.one (.hsl m ((blk m).1+1) z 0 (I j+I B))) (f++[(id,(g,none)),(m,((blk m).1+1,some (.arr y z (j++B))))]) (m::id::rd++fr):=by simp only[jl,E,aE X,Z,N,Nc];simp[u]
 rw[this,Rq];refine D _ _ (.inr ⟨by simp[aN],(blk m).1+1,aG,?_⟩) λi A O H=>?_
 .rw[II];simp[app,bG]
 rw[II];have:=YR f blk i (by rw[M];exact H);simp[app,bG,A,O,this]
theorem arh{f:Nat}{A:dG}{s:Nat}{rd:aD}{j fs:dy}(hp:aC S f A (.tup [.one (bU E D j),.one (bU F H fs)]))(m:S.lone s=false)
  (x:(j.all λe=>e.all PV.scalar)) (v:(fs.all λe=>e.all PV.scalar))
  (B:∀(c e:cG) ak,a_ s E D j (.one c) ak->a_ (s+1) F H fs (.one e) ak->(∀i,i≠s->i≠s+1->ak i=blk i)->jC S .all os Q (dL h d (.tup [.one c,.one e])) ak):jW S .all (.pc f A rd s) d os Q h blk:=by
 have L:(RV.tup [.one (bU E D j),.one (bU F H fs)]).alone:=by have a:=qF (y:=E) (z:=D) x;have b:=qF (y:=F) (z:=H) v;simp[RV.alone,mX,og,vO,Br,Fg]at a b;simp[RV.alone,mX,xI,og,a,b]
 obtain⟨Y,n,u⟩:=WX hp m B;refine⟨Y,n,?_⟩;have:=n.det hp;rw[m,Bf]at u |-;unfold fQ at u |-
 simp_all
end
theorem Re{a i:Nat}{l:aD}(H:i∈l)(h:a∉l):i≠a:=λe=>h (e▸H)
section
variable {S:Sys} {al:cD} {Q:ib} {h:bP} {blk:aH} {os all:fx} {tr:gl} {d:eF}
theorem acv{l:aD}(h:∀i∈l,al.ok i):al.iG l:=mz.2 h
theorem UL{id m y z bytes:Nat}{j:dy}{v x:V}{rd:aD}(L:∀i∈m::id::rd,al.ok i)(A:a_ id y z j v blk)(R:gP blk x=some (B,rd,[]))(M:r9 x=some z\/gk z B)(N:(I j+I B)*bytes<=140737488355328)
  (E:∀(c:cG) ak,a_ m y z (j++B) (.one c) ak->(∀i,i≠m->i≠id->ak i=blk i)->jC S al os Q (dL h d (.one c)) ak):jW S al (jl blk m y z bytes v x) d os Q h blk:=by
 obtain⟨T,u,r,F,f,O,D⟩:=SM A R M N;obtain⟨c,o,rfl,_⟩:=f.iN;rw[F,amu];refine⟨?_,E _ _ f O⟩;rcases D with⟨rfl,H⟩|⟨rfl,H⟩|⟨rfl,H⟩<;>rw[H]<;>refine acv λi n=>L i ?_ <;>simp at n |-
 .exact .inr (.inr n)
 .grind
 grind
theorem ajp{id m y z bytes:Nat}{j:dy}{v x:V}{rd:aD}(L:∀i∈m::id::rd,al.ok i)(D:a_ id y z j v blk)(R:gP blk x=some (B,rd,[]))(M:r9 x=some z\/gk z B)(N:(I j+I B)*bytes<=140737488355328)
  (E:∀(c:cG) ak r w,a_ m y z (j++B) (.one c) ak->(∀i,i≠m->i≠id->ak i=blk i)->(r=rd/\w=[]\/r=m::rd/\w=[m]\/r=m::id::rd/\w=[id,m])->p_ S al all os Q (dL h d (.one c)) ak (tr++[⟨r,w,[]⟩])):sY S al (jl blk m y z bytes v x) d all os Q h blk tr:=by
 obtain⟨T,u,r,F,f,O,n⟩:=SM D R M N;obtain⟨c,o,rfl,_⟩:=f.iN;rw[F,ahG];refine⟨?_,E _ _ _ _ f O n⟩;rcases n with⟨rfl,H⟩|⟨rfl,H⟩|⟨rfl,H⟩<;>rw[H]<;>refine acv λi A=>L i ?_ <;>simp at A |-
 .exact .inr (.inr A)
 .grind
 grind
theorem aAp{f:Nat}{A:dG}{s:Nat}{rd:aD}{j fs:dy}(T:∀i∈s::(s+1)::rd,al.ok i)(hp:aC S f A (.tup [.one (bU E D j),.one (bU F H fs)]))(M:S.lone s=false)
  (Y:(j.all λe=>e.all PV.scalar)) (N:(fs.all λe=>e.all PV.scalar))
  (O:∀(c e:cG) ak,a_ s E D j (.one c) ak->a_ (s+1) F H fs (.one e) ak->(∀i,i≠s->i≠s+1->ak i=blk i)->jC S al os Q (dL h d (.tup [.one c,.one e])) ak):jW S al (.pc f A rd s) d os Q h blk:=by
 have jD:(RV.tup [.one (bU E D j),.one (bU F H fs)]).alone:=by have a:=qF (y:=E) (z:=D) Y;have b:=qF (y:=F) (z:=H) N;simp only[RV.alone,mX,og,vO,Br,Fg]at a b;simp[RV.alone,mX,xI,og,a,b]
 obtain⟨R,x,Z⟩:=DK;have B:∀(b L:aH) (k:Nat) (r:nM),L k=b k->jy b k r=jy L k r:=by
  intro b L k r ab;cases r with
  |p v=>rfl
  |own y sz j=>simp only[jy,ab]
 have X:jy blk (s+1) (bU F H fs)=jy (app (jy blk s (bU E D j)).2 blk) (s+1) (bU F H fs):=B _ _ _ _ (x (s+1) J);obtain⟨u,m,n⟩:=DK;rw[<-X]at u m n;refine⟨_,hp,?_⟩;rw[M,Bf];have hl:fQ blk rd s (RV.tup [.one (bU E D j),.one (bU F H fs)])=some (.tup [.one (jy blk s (bU E D j)).1,.one (jy blk (s+1) (bU F H fs)).1],(jy blk s (bU E D j)).2++(jy blk (s+1) (bU F H fs)).2):=by unfold fQ;rw[aI (.inr jD)];simp[jH,mX,xI,og,ns,zC,zp,uH]
 rw[hl];refine⟨acv λi hi=>T i ?_,O _ _ _ ?_ ?_ ?_⟩
 .grind
 .rw[II];exact R.of_eq (m s J)
 .rw[II];exact u
 intro i a b;rw[II,m i b,x i a]
end
theorem cJ{b:aH}{a i:Nat}{x:Nat×Option gr}(h:i≠a):dz b a x i=b i:=by rw[bG,aE h]
theorem Ao{b:aH}{a:Nat}{x:Nat×Option gr}:dz b a x a=x:=by rw[bG,aI rfl]
theorem S4{a i:Nat}{l:aD}(h:i∉l)(H:a∈l):i≠a:=λe=>h (e▸H)
section
variable {S:Sys} {al:cD} {Q:ib} {h:bP} {blk:aH} {os all:fx} {tr:gl} {d:eF}
theorem aqA{f:Nat}{A:dG}{s y z:Nat}{j:dy}{x:PV}(hp:aC S f A (.tup [.one (bU y z j),.one (.p x)]))(m:S.lone s=false)
  (n:∀(c:cG) ak,a_ s y z j (.one c) ak->(∀i,i≠s->ak i=blk i)->jC S .all os Q (dL h d (.tup [.one c,.one (.p x)])) ak):jW S .all (.pc f A [] s) d os Q h blk:=by
 obtain⟨u,H,_⟩:=DK;refine(dt hp ?_).2 (n _ _ u H);exact aIJ
theorem J5{f:Nat}{A:dG}{s y z:Nat}{rd:aD}{j:dy}(hp:aC S f A (.one (bU y z j)))(m:S.lone s=false)(x:rd=[]\/(RV.one (bU y z j)).alone)
  (u:∀(c:cG) ak w,a_ s y z j (.one c) ak->(∀i,i≠s->ak i=blk i)->(w=[]\/w=[s])->p_ S .all all os Q (dL h d (.one c)) ak (tr++[⟨rd++w,w,[]⟩])):sY S .all (.pc f A rd s) d all os Q h blk tr:=by
 obtain⟨v,H,n⟩:=DK;refine(od hp ?_).2 (u _ _ _ v H n);rw[m,Bf];unfold fQ;rw[aI x];simp[jH,mX,og,ns,zC,uH]
theorem aiz{f:Nat}{A:dG}{s y z:Nat}{j:dy}{x:PV}(hp:aC S f A (.tup [.one (bU y z j),.one (.p x)]))(m:S.lone s=false)
  (n:∀(c:cG) ak w,a_ s y z j (.one c) ak->(∀i,i≠s->ak i=blk i)->(w=[]\/w=[s])->p_ S .all all os Q (dL h d (.tup [.one c,.one (.p x)])) ak (tr++[⟨[]++w,w,[]⟩])):sY S .all (.pc f A [] s) d all os Q h blk tr:=by
 obtain⟨u,H,v⟩:=DK;refine(od hp ?_).2 (n _ _ _ u H v);exact aIJ
theorem Mn{f:Nat}{A:dG}{s y z:Nat}{rd:aD}{j:dy}{x:PV}(hp:aC S f A (.agg [.p x,bU y z j]))(m:S.lone s=false)(n:x.scalar)(af:(j.all λe=>e.all PV.scalar))
  (v:∀(c:cG) ak,a_ (s+1) y z j (.one c) ak->(∀i,i≠s+1->ak i=blk i)->jC S .all os Q (dL h d (.agg [.p x,c])) ak):jW S .all (.pc f A rd s) d os Q h blk:=by
 obtain⟨B,H,_⟩:=DK;have u:(RV.agg [.p x,bU y z j]).alone:=by have a:=qF (y:=y) (z:=z) af;simp[RV.alone,mX,og,vO,Br,Fg]at a;simp[RV.alone,mX,og,vO,Br,Fg,a];exact n
 refine(dt hp ?_).2 (v _ _ B H);rw[m,Bf];unfold fQ;rw[aI (.inr u)];simp[jH,mX,og,ns,zC,uH,jy]
theorem aiJ{f:Nat}{A:dG}{s y z:Nat}{j:dy}{x Y:PV}(hp:aC S f A (.tup [.agg [.p x,bU y z j],.one (.p Y)]))(m:S.lone s=false)
  (n:∀(c:cG) ak,a_ (s+1) y z j (.one c) ak->(∀i,i≠s+1->ak i=blk i)->jC S .all os Q (dL h d (.tup [.agg [.p x,c],.one (.p Y)])) ak):jW S .all (.pc f A [] s) d os Q h blk:=by
 obtain⟨u,H,_⟩:=DK;refine(dt hp ?_).2 (n _ _ u H);exact aIJ
end
theorem V9{c:cG}{y:PV}{blk:aH}(h:a_ s1 E D j (.one c) blk):iD blk (.tup [.agg [.p x,c],.one (.p y)])=some (.tup [.agg [.p x,bU E D j],.one (.p y)]):=by obtain⟨v,o,n,H,m⟩:=h.iN;cases n;have f:iN blk (.p x)=some _:=rfl;have u:iN blk (.p y)=some _:=rfl;rcases m with rfl|rfl<;>simp[iD,mM,yO,kZ,kD,H,f,u,lg,oE,nq,HQ]
section
variable {S:Sys} {al:cD} {Q:ib} {h:bP} {blk:aH} {os all:fx} {tr:gl} {d:eF} {op:s4} {w:Option Bool} {a b:aM} {v:V}
theorem AW(L:aD)(H:∀e:bP,(∀k∈L,e k=h k)->rA S al w d op os Q e blk):rA S al w d op os Q h blk:=H h λ_ _=>rfl
theorem Dd(L:aD)(H:∀e:bP,(∀k∈L,e k=h k)->As S al w d op all os Q e blk tr):As S al w d op all os Q h blk tr:=H h λ_ _=>rfl
theorem azp(L:aD)(H:∀e:bP,(∀k∈L,e k=h k)->zq S al v a b Q e blk):zq S al v a b Q h blk:=H h λ_ _=>rfl
end
section
variable {S:Sys} {al:cD} {Q:ib} {h:bP} {blk:aH} {os all:fx} {tr:gl} {d:eF} {op:s4} {a b:aM} {e w:Bool}
theorem ql(H:e->rA S al (some (true==w)) d op os Q h blk)(f:e=false->rA S al (some (false==w)) d op os Q h blk):rA S al (some (e==w)) d op os Q h blk:=by
 cases e
 .exact f rfl
 exact H rfl
theorem qh(H:e->rA S al (some (false==w)) d op os Q h blk)(f:e=false->rA S al (some (true==w)) d op os Q h blk):rA S al (some ((!e)==w)) d op os Q h blk:=by
 cases e
 .exact f rfl
 exact H rfl
theorem qq(H:e->As S al (some (true==w)) d op all os Q h blk tr)(f:e=false->As S al (some (false==w)) d op all os Q h blk tr):As S al (some (e==w)) d op all os Q h blk tr:=by
 cases e
 .exact f rfl
 exact H rfl
theorem qg(H:e->As S al (some (false==w)) d op all os Q h blk tr)(f:e=false->As S al (some (true==w)) d op all os Q h blk tr):As S al (some ((!e)==w)) d op all os Q h blk tr:=by
 cases e
 .exact f rfl
 exact H rfl
theorem qf(H:e->zq S al (.one (.p (.bool true))) a b Q h blk)(f:e=false->zq S al (.one (.p (.bool false))) a b Q h blk):zq S al (.one (.p (.bool e))) a b Q h blk:=by
 cases e
 .exact f rfl
 exact H rfl
theorem pL(H:e->zq S al (.one (.p (.bool false))) a b Q h blk)(f:e=false->zq S al (.one (.p (.bool true))) a b Q h blk):zq S al (.one (.p (.bool (!e)))) a b Q h blk:=by
 cases e
 .exact f rfl
 exact H rfl
theorem ag8{rd:aD}{s:Nat}{r:RV}(hp:aC S f A r)(n:fQ blk rd s (r.gV (S.lone s))=some (v,u)):jW S al (.pc f A rd s) d os Q h blk↔al.iG (rd++u.map (·.1))=true/\jC S al os Q (dL h d v) (app u blk):=by
 constructor
 .rintro ⟨y,j,H⟩
  have:=j.det hp;subst this;rwa[n]at H
 intro m;refine⟨_,hp,?_⟩;rw[n];exact m
theorem adk{rd:aD}{s:Nat}{r:RV}(hp:aC S f A r)(n:fQ blk rd s (r.gV (S.lone s))=some (v,u)):sY S al (.pc f A rd s) d all os Q h blk tr↔al.iG (rd++u.map (·.1))=true/\p_ S al all os Q (dL h d v) (app u blk) (tr++[⟨rd++u.map (·.1),u.map (·.1),[]⟩]):=by
 constructor
 .rintro ⟨y,j,H⟩
  have:=j.det hp;subst this;rwa[n]at H
 intro m;refine⟨_,hp,?_⟩;rw[n];exact m
theorem aix{s:Nat}(b:Bool):fQ blk [] s ((RV.one (.p x)).gV b)=some (.one (.p x),[]):=by cases b<;>rfl
theorem Uw{s:Nat}(H:aC S f A (.one (.p x))):jW S al (.pc f A [] s) d os Q h blk↔jC S al os Q (dL h d (.one (.p x))) blk:=by rw[ag8 H (aix _)];exact⟨λH=>H.2,λH=>⟨rfl,H⟩⟩
theorem RM{s:Nat}(H:aC S f A (.one (.p x))):sY S al (.pc f A [] s) d all os Q h blk tr↔p_ S al all os Q (dL h d (.one (.p x))) blk (tr++[⟨[],[],[]⟩]):=by rw[adk H (aix _)];exact⟨λH=>H.2,λH=>⟨rfl,H⟩⟩
end
theorem a_.DR{c:cG}{blk:aH}(h:a_ m y z j (.one c) blk):∃r,(∀B:aH,B m=blk m->Go.Abs.gC B Go.Abs.jK c=some (.sl j,r))/\(r=[]\/r=[m]):=by
 rcases h with⟨f,H⟩|⟨f,g,H,n⟩
 .cases H;exact⟨[],λB _=>by rw[f];rfl,.inl rfl⟩
 cases H;refine⟨[m],λB u=>?_,.inr rfl⟩;rw[<-u]at n;simp[Go.Abs.jK,Go.Abs.gC,n]
end
open Go
theorem apC{blk:aH}{rd:aD}{s:Nat}{r:RV}(h:rd=[]\/r.alone):fQ blk rd s r=some (jH blk s r):=by unfold fQ;rw[aI h]
section
variable {S:Sys} {al:cD} {Q:ib} {os all:fx} {d:eF} {h:bP} {blk:aH} {tr:gl}
theorem gN{rd:aD}{s:Nat}{r:RV}(hp:aC S f A r)(lo:S.lone s=false)(H:rd=[]\/r.alone):jW S al (.pc f A rd s) d os Q h blk↔al.iG (rd++(jH blk s r).2.map (·.1))=true/\jC S al os Q (dL h d (jH blk s r).1) (app (jH blk s r).2 blk):=ag8 hp (by rw[lo,Bf];exact apC H)
theorem xV{rd:aD}{s:Nat}{r:RV}(hp:aC S f A r)(lo:S.lone s=false)(H:rd=[]\/r.alone):sY S al (.pc f A rd s) d all os Q h blk tr↔al.iG (rd++(jH blk s r).2.map (·.1))=true/\p_ S al all os Q (dL h d (jH blk s r).1) (app (jH blk s r).2 blk) (tr++[⟨rd++(jH blk s r).2.map (·.1),(jH blk s r).2.map (·.1),[]⟩]):=adk hp (by rw[lo,Bf];exact apC H)
end
theorem oa{j:dy}(h:j≠[]):bU y z j=.own y z j:=aE h
theorem ab1:bU y z []=.p .nils:=aI rfl
theorem R_{p:Nat->Prop}:(∀k∈([]:aD),p k)↔True:=by simp
theorem Pf{a:Nat}{l:aD}{p:Nat->Prop}:(∀k∈a::l,p k)↔p a/\ ∀k∈l,p k:=List.forall_mem_cons
attribute [go_sem] R_ Pf CL bne_self_eq_false Bool.or_true Bool.or_false Bool.true_or Bool.false_or Bool.not_not jH mX og xI jy ns zC uH zp Option.getD_some Option.getD_none Option.isSome_some Option.isSome_none
attribute [go_sem ↓] aFS ayT awA avx aGL ata aDO aAY avV aGT aDF aGe aAx au9 aAh azR avP azl avo arG aBa atY aGq aFg azT aqR
attribute [go_sem high] Rq ahl
attribute [go_sem] aFT aEw avF at3 aq8 aDP aA4 azs ay4 as4 ay3 ayZ aFy azW bG aCp aq9 auO aCP asl axj aua ati aFe aHk aCi ajh awM ayR aBW ari aCO aqJ aqU avY avg aep XE adP aa1 ayJ ain aGG asB aF8 ar0 aHh aEc aDG az3 arA arW ar5 amu ahG aeJ aap Bool.and_self cD.Ju
attribute [go_sem] cV SF K4 GA J2 app if_true if_false reduceIte Nat.reduceEqDiff beq_self_eq_true reduceCtorEq ge_iff_le sk Ur D4 JS Nat.reduceAdd Ek uo Dc gE vP Eg ne_eq Nat.reduceLeDiff B5 D5 Gd Ev VJ Gm Nat.reduceMul Nat.reduceLT TE UQ
attribute [go_sem] gP r9 vF xh pE Hu vI Nat.reduceSub Int.reduceLT Int.reduceAdd Int.reduceBEq Int.reduceBNe Int.reduceLE List.contains_eq_mem AH
end Go.Abs
