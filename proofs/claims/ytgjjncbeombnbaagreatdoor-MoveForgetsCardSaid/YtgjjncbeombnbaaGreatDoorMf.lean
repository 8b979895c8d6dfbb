/-
  Rules for a walk.
-/
import Derived.Test.YtgjjncbeombnbaaGreatDoorMc
import Derived.Attr
set_option linter.all false
open List renaming length->I
namespace Go.Abs
variable{X:dY}{n M N s1 E D F H:Nat}{u:jU}{T:Nat->bj->aG->Prop}{Y:List (Nat×Option dZ)}{R:V->aG->Prop}{L ak:aG}{Z:bU}{B:dh}
section
variable{x:PV}{f m y z:Nat}{A:dC}{v:V}{j:dh}
theorem asf(k:Nat):rF (.one (.p (.int .i64 (k:Int))))=some k:=by simp[rF]
theorem azZ(n:Nat):rF (.one (.p (.int .i64 (no_index (@OfNat.ofNat Int n instOfNat)))))=some (@OfNat.ofNat Nat n (instOfNatNat n)):=by show rF (.one (.p (.int .i64 (Int.ofNat n))))=some n;simp[rF]
theorem Yj{blk:aG}{v:PV}:snap blk iC (.p v)=some (v.norm,[]):=rfl
def TY{β:Type}(x:Option (β×aC))(y:Option (List β×aC)):Option (List β×aC):=match x,y with
 |some (b,x),some (B,y)=>some (b::B,x++y)
 |_,_=>none
theorem aq4{β:Type}{b:β}{x:aC}{B:List β}{y:aC}:TY (some (b,x)) (some (B,y))=some (b::B,x++y):=rfl
theorem apl{α β:Type}{f:α->Option (β×aC)}:gO f []=some ([],[]):=rfl
theorem axA{α β:Type}{f:α->Option (β×aC)}{a:α}{r:List α}:gO f (a::r)=TY (f a) (gO f r):=by
 simp[gO,TY]
 grind
theorem amq{blk:aG}{c:a7}:pO blk (.one c)=(snap blk iC c).map λ(v,r)=>(.one (.p v),r):=rfl
theorem alx{blk:aG}:pO blk (.agg X)=(gO (snap blk iC) X).map λ(A,r)=>(.agg (A.map .p),r):=rfl
theorem asg{blk:aG}{v:PV}:snap blk (n+1) (.p v)=some (v.norm,[]):=rfl
def Sn(o:Nat×Option fZ)(f:List dY->Option (dh×aC))(id g M len:Nat):Option (PV×aC):=match o with
 |(g',some (.arr _ _ j))=>if g'=g/\M+len<=I j then some (.sl ((j.drop M).take len),[id])else none
 |(g',some (.sE _ _ j))=>if g'=g/\M+len<=I j then some (.sl ((j.drop M).take len),[id])else none
 |(g',some (.kG _ _ j))=>if g'=g/\M+len<=I j then
   match f ((j.drop M).take len)with
   |some (ps,r)=>some (.sl ps,id::r)
   |none=>none
  else none
 |_=>none
theorem azR{blk:aG}{id g z len:Nat}:snap blk iC (.hsl id g z M len)=Sn (blk id) (gO (gO (snap blk 5))) id g M len:=by unfold iC Sn;rw[snap];rfl
def PR(o:Nat×Option fZ)(f:dY->Option (dF×aC))(id g M:Nat):Option (PV×aC):=match o with
 |(g',some (.var X))=>if g'=g then
   match f X with
   |some (ps,r)=>some (.box (ps.drop M),id::r)
   |none=>none
  else none
 |(g',some (.fvar ps))=>if g'=g then some (.box (ps.drop M),[id])else none
 |_=>none
theorem axU{blk:aG}{id g:Nat}:snap blk iC (.bh id g M)=PR (blk id) (gO (snap blk 5)) id g M:=by unfold iC PR;rw[snap];rfl
section
variable {S:Sys} {al:bU} {h:bj} {blk:aG} {d:dZ}
theorem G9{rd:aC}{s:Nat}{b:Bool}(ae:x.scalar):fR blk rd s ((RV.one (.p x)).ib b)=some (.one (.p x),[]):=by
 have h:(RV.one (.p x)).ib b=.one (.p x):=by cases b<;>rfl
 rw[h];have:(RV.one (.p x)).alone:=by simp[RV.alone,ll,mf,l6.alone,ae]
 simp[fR,this,or_true,if_true];rfl
theorem atr{rd:aC}{s:Nat}{aY:bj->aG->Prop}(n:aI S f A (.one (.p x)))(ae:x.scalar):GP S .all (.pc f A rd s) d h blk aY↔aY (ef h d (.one (.p x))) blk:=by
 constructor
 .rintro ⟨y,j,H⟩
  have:=j.det n;subst this;rw[G9 ae]at H;exact H.2
 intro m;refine⟨_,n,?_⟩;rw[G9 ae];exact⟨bU.GM _,m⟩
theorem avw{rd:aC}{s:Nat}{tr:fW}{aY:bj->aG->fW->Prop}(n:aI S f A (.one (.p x)))(ae:x.scalar):Gv S .all (.pc f A rd s) d h blk tr aY↔aY (ef h d (.one (.p x))) blk (tr++[⟨rd,[],[]⟩]):=by
 constructor
 .rintro ⟨y,j,H⟩
  have:=j.det n;subst this;rw[G9 ae]at H
  simpa [app]using H.2
 intro m;refine⟨_,n,?_⟩;rw[G9 ae];exact⟨bU.GM _,by simpa [app]using m⟩
theorem aoe{O:fm}{Q:gX}:W S al (.region true O) Q h blk↔pP S al O (λh blk j=>td O [] j=true/\Q .normal h blk) h blk []:=by
 rw[abB]
 grind
end
theorem wrap_small(h:n<=9223372036854775807):IntKind.i64.wrap (n:Int)=n:=ajG h
theorem cE(h:n<9223372036854775807):IntKind.i64.wrap ((n:Int)+1)=((n+1:Nat):Int):=ajG (n:=n+1) J
section
variable {S:Sys} {al:bU} {Q:gX} {h:bj} {blk:aG} {a b:aQ} {O os all:fm} {tr:fW} {d:dZ} {op:r_} {n:Nat}
def CM(S:Sys)(al:bU)(b:aQ)(Q:gX):gX
 | .normal,h,blk=>W S al b Q h blk
 | .exit i,h,blk=>Q (.exit i) h blk
 | .ret,h,blk=>Q .ret h blk
theorem axj:Kk (W S al b Q) Q=CM S al b Q:=by funext e h blk;cases e<;>rfl
theorem amd:W S al (.seq a b) Q h blk↔W S al a (CM S al b Q) h blk:=by rw[akI,axj]
theorem anT:CM S al b Q .normal h blk=W S al b Q h blk:=rfl
theorem arL{i:Nat}:CM S al b Q (.exit i) h blk=Q (.exit i) h blk:=rfl
theorem ayJ:CM S al b Q .ret h blk=Q .ret h blk:=rfl
def wL (S:Sys)(al:bU)(v:V)(a b:aQ)(Q:gX)(h:bj)(blk:aG):Prop:=LH v (W S al a Q h blk) (W S al b Q h blk)
theorem awc{x:eX}:W S al (.cond x a b) Q h blk↔wL S al (ev h x) a b Q h blk:=ap6
theorem atw:wL S al (.one (.p (.bool true))) a b Q h blk=W S al a Q h blk:=by simp[wL,LH]
theorem aqm:wL S al (.one (.p (.bool false))) a b Q h blk=W S al b Q h blk:=by simp[wL,LH]
def jP (S:Sys)(al:bU)(O:fm)(Q:gX)(h:bj)(blk:aG):Prop:=CQ S al O (λh blk=>Q .normal h blk) h blk
def jD (S:Sys)(al:bU)(p:zr)(d:dZ)(os:fm)(Q:gX)(h:bj)(blk:aG):Prop:=GP S al p d h blk (CQ S al os λh blk=>Q .normal h blk)
def yC (S:Sys)(al:bU)(w:Option Bool)(d:dZ)(op:r_)(os:fm)(Q:gX)(h:bj)(blk:aG):Prop:=Pm S al w ⟨d,op,none,0⟩ h blk (CQ S al os λh blk=>Q .normal h blk)
theorem amm:W S al (.region false O) Q h blk↔jP S al O Q h blk:=ara
theorem ak1:jP S al [] Q h blk↔Q .normal h blk:=axb
theorem axs:jP S al (⟨d,op,none,n⟩::os) Q h blk↔jD S al (cH S.shared h blk op) d os Q h blk:=ajV
theorem arf{t:Nat}{w:Bool}:jP S al (⟨d,op,some (t,w),n⟩::os) Q h blk↔yC S al (Dl (h t) w) d op os Q h blk:=by
 unfold jP yC;rw[ajV];have:rj h (some (t,w))=Dl _ w:=rfl;simp[this];cases Dl _ w with
 |none=>rfl
 |some x=>cases x<;>rfl
theorem aof:yC S al (some true) d op os Q h blk↔jD S al (cH S.shared h blk op) d os Q h blk:=Iff.rfl
theorem avp:yC S al (some false) d op os Q h blk↔jP S al os Q (ef h d .undef) blk:=Iff.rfl
theorem Nb{r:aC}:jD S .all (.done v u r) d os Q h blk↔jP S .all os Q (ef h d v) (app u blk):=by show(bU.all.iJ _/\_)↔_;rw[bU.GM];exact⟨λH=>H.2,λH=>⟨rfl,H⟩⟩
theorem Z4{r:aC}:jD S al (.done v u r) d os Q h blk↔al.iJ (r++u.map (·.1))=true/\jP S al os Q (ef h d v) (app u blk):=Iff.rfl
theorem adH{rd:aC}{s:Nat}(H:aI S f A (.one (.p x)))(ae:x.scalar):jD S .all (.pc f A rd s) d os Q h blk↔jP S .all os Q (ef h d (.one (.p x))) blk:=atr H ae
theorem hI{rd:aC}{s:Nat}{k:IntKind}{x:Int}(H:aI S f A (.one (.p (.int k x)))):jD S .all (.pc f A rd s) d os Q h blk↔jP S .all os Q (ef h d (.one (.p (.int k x)))) blk:=adH H rfl
theorem eU{rd:aC}{s:Nat}{x:Bool}(H:aI S f A (.one (.p (.bool x)))):jD S .all (.pc f A rd s) d os Q h blk↔jP S .all os Q (ef h d (.one (.p (.bool x)))) blk:=adH H rfl
theorem dJ{rd:aC}{s:Nat}{r:RV}(hp:aI S f A r)(n:fR blk rd s (r.ib (S.lone s))=some (v,u)):jD S .all (.pc f A rd s) d os Q h blk↔jP S .all os Q (ef h d v) (app u blk):=by
 constructor
 .rintro ⟨y,j,H⟩
  have:=j.det hp;subst this;rw[n]at H;exact H.2
 intro m;refine⟨_,hp,?_⟩;rw[n];exact⟨bU.GM _,m⟩
def qA (S:Sys)(al:bU)(all O:fm)(Q:gX)(h:bj)(blk:aG)(tr:fW):Prop:=pP S al O (λh blk j=>td all [] j=true/\Q .normal h blk) h blk tr
def uF (S:Sys)(al:bU)(p:zr)(d:dZ)(all os:fm)(Q:gX)(h:bj)(blk:aG)(tr:fW):Prop:=Gv S al p d h blk tr (pP S al os λh blk j=>td all [] j=true/\Q .normal h blk)
def xG (S:Sys)(al:bU)(w:Option Bool)(d:dZ)(op:r_)(all os:fm)(Q:gX)(h:bj)(blk:aG)(tr:fW):Prop:=Eu S al w ⟨d,op,none,0⟩ h blk tr (pP S al os λh blk j=>td all [] j=true/\Q .normal h blk)
theorem alq:W S al (.region true O) Q h blk↔qA S al O O Q h blk []:=aoe
theorem awY:qA S al all [] Q h blk tr↔td all [] tr=true/\Q .normal h blk:=Ue
theorem akS:qA S al all (⟨d,op,none,n⟩::os) Q h blk tr↔uF S al (cH S.shared h blk op) d all os Q h blk tr:=SB
theorem avq{t:Nat}{w:Bool}:qA S al all (⟨d,op,some (t,w),n⟩::os) Q h blk tr↔xG S al (Dl (h t) w) d op all os Q h blk tr:=by
 unfold qA xG;rw[SB];have:rj h (some (t,w))=Dl _ w:=rfl;simp[this];cases Dl _ w with
 |none=>rfl
 |some x=>cases x<;>rfl
theorem av3:xG S al (some true) d op all os Q h blk tr↔uF S al (cH S.shared h blk op) d all os Q h blk tr:=Iff.rfl
theorem asv:xG S al (some false) d op all os Q h blk tr↔qA S al all os Q (ef h d .undef) blk (tr++[⟨[],[],[]⟩]):=Iff.rfl
theorem L7{r:aC}:uF S .all (.done v u r) d all os Q h blk tr↔qA S .all all os Q (ef h d v) (app u blk) (tr++[⟨r,u.map (·.1),[]⟩]):=by show(bU.all.iJ _/\_)↔_;rw[bU.GM];exact⟨λH=>H.2,λH=>⟨rfl,H⟩⟩
theorem ZS{r:aC}:uF S al (.done v u r) d all os Q h blk tr↔al.iJ (r++u.map (·.1))=true/\qA S al all os Q (ef h d v) (app u blk) (tr++[⟨r,u.map (·.1),[]⟩]):=Iff.rfl
theorem aev{rd:aC}{s:Nat}(H:aI S f A (.one (.p x)))(ae:x.scalar):uF S .all (.pc f A rd s) d all os Q h blk tr↔qA S .all all os Q (ef h d (.one (.p x))) blk (tr++[⟨rd,[],[]⟩]):=avw H ae
theorem vn{rd:aC}{s:Nat}{k:IntKind}{x:Int}(H:aI S f A (.one (.p (.int k x)))):uF S .all (.pc f A rd s) d all os Q h blk tr↔qA S .all all os Q (ef h d (.one (.p (.int k x)))) blk (tr++[⟨rd,[],[]⟩]):=aev H rfl
theorem ss{rd:aC}{s:Nat}{x:Bool}(H:aI S f A (.one (.p (.bool x)))):uF S .all (.pc f A rd s) d all os Q h blk tr↔qA S .all all os Q (ef h d (.one (.p (.bool x)))) blk (tr++[⟨rd,[],[]⟩]):=aev H rfl
theorem pX{rd:aC}{s:Nat}{r:RV}(hp:aI S f A r)(n:fR blk rd s (r.ib (S.lone s))=some (v,u)):uF S .all (.pc f A rd s) d all os Q h blk tr↔qA S .all all os Q (ef h d v) (app u blk) (tr++[⟨rd++u.map (·.1),u.map (·.1),[]⟩]):=by
 constructor
 .rintro ⟨y,j,H⟩
  have:=j.det hp;subst this;rw[n]at H;exact H.2
 intro m;refine⟨_,hp,?_⟩;rw[n];exact⟨bU.GM _,m⟩
def QF(N:Nat)(T:Nat->bj->aG->Prop)(k:Nat)(Q:gX):gX:=Kk (λh blk=>k<N/\T (k+1) h blk) Q
theorem anm{k:Nat}:QF N T k Q .normal h blk=(k<N/\T (k+1) h blk):=rfl
theorem auq{k i:Nat}:QF N T k Q (.exit i) h blk=Q (.exit i) h blk:=rfl
theorem arW{k:Nat}:QF N T k Q .ret h blk=Q .ret h blk:=rfl
theorem df{c:aQ}(T:Nat->bj->aG->Prop)(f N:Nat)(H:f<=N)(j:T f h blk)
  (R:∀k h blk,k<=N->T k h blk->W S al c (QF N T k Q) h blk):W S al (.loop c) Q h blk:=amI T f N H j R
def MR(R:V->aG->Prop)(blk:aG):Option dC->Prop
 |some A=>R (Ac A) blk
 |none=>False
theorem aw8:tU al Y R .ret h blk=MR R blk (qd al h blk Y):=by
 simp[tU,MR]
 grind
theorem azN:tU al Y R .normal h blk=MR R blk (qd al h blk Y):=by
 simp[tU,MR]
 grind
theorem alu{A:dC}:MR R blk (some A)=R (Ac A) blk:=rfl
end
section
variable {S:Sys} {al:bU} {Q:gX} {h:bj} {blk:aG}
def SI(S:Sys)(al:bU)(c:aQ)(Q:gX):gX
 | .normal,h,blk=>W S al (.loop c) Q h blk
 | .exit i,h,blk=>Q (.exit i) h blk
 | .ret,h,blk=>Q .ret h blk
theorem aro{c:aQ}:SI S al c Q .normal h blk=W S al (.loop c) Q h blk:=rfl
theorem arl{c:aQ}{i:Nat}:SI S al c Q (.exit i) h blk=Q (.exit i) h blk:=rfl
theorem ale{c:aQ}:SI S al c Q .ret h blk=Q .ret h blk:=rfl
theorem mP{c:aQ}(v:W S al c (SI S al c Q) h blk):W S al (.loop c) Q h blk:=by
 obtain⟨n,e,x,y,f,H⟩:=v;cases e with
 |normal=>obtain⟨m,e,D,A,j,u⟩:=H;refine⟨max n m+1,e,D,A,?_,u⟩;simp[dq]at j |-;simp[lG];rw[Fa S J f];exact Yl S J J j
 |exit i=>exact⟨n+1,_,_,_,by simp[dq,lG,Fa S _ f],H⟩
 |ret=>exact⟨n+1,_,_,_,by simp[dq,lG,Fa S (Nat.le_succ n) f],H⟩
end
theorem jG.det{S:Sys}{A:dC}{al:bU}{blk:aG}{j:V}{b:aG}(h:jG S f A al blk v b)(u:jG S f A al blk j L):v=j/\b=L:=by
 obtain⟨n,x⟩:=h;obtain⟨m,H⟩:=u;have c:=Lh S (Hm n m) _ _ _ _ _ H;rw[Lh S (E7 n m) _ _ _ _ _ x]at c
 grind
section
variable {S:Sys} {al:bU} {Q:gX} {h:bj} {blk:aG} {os all:fm} {tr:fW} {d:dZ}
theorem XP:al.iJ []:=rfl
theorem Tx{a:Nat}{l:aC}:al.iJ (a::l)=(al.ok a&&al.iJ l):=rfl
def dL(aY:Nat->Prop)(b L:aG):Prop:=∀id,¬aY id->L id=b id
theorem dL.refl(aY:Nat->Prop)(b:aG):dL aY b b:=λ_ _=>rfl
theorem dL.trans{aY:Nat->Prop}{a b c:aG}(h:dL aY a b)(f:dL aY b c):dL aY a c:=λid H=>(f id H).trans (h id H)
theorem dL.dN{aY:Nat->Prop}{b:aG}(h:dL aY b L){k:Nat}(f:aY k)(x:Nat×Option fZ):dL aY b (dN L k x):=λid H=>by rw[ba,ai (by grind)];exact h id H
theorem aoL(m:al.holds (iH (S.ctx al) f A blk))(n:jG S f A (iH (S.ctx al) f A blk) blk v ak):jD S al (.sc f A) d os Q h blk↔jP S al os Q (ef h d v) ak:=by
 constructor
 .rintro ⟨_,v2,B,j,H⟩
  obtain⟨rfl,rfl⟩:=n.det j;exact H
 intro H;exact⟨m,v,ak,n,H⟩
theorem af7{rd:aC}{s:Nat}(u:aI S f A (.one (.p x)))(ae:x.scalar):jD S al (.pc f A rd s) d os Q h blk↔al.iJ (rd++[])=true/\jP S al os Q (ef h d (.one (.p x))) blk:=by
 constructor
 .rintro ⟨y,m,j⟩
  have:=m.det u;subst this;rwa[G9 ae]at j
 rintro⟨H,n⟩
 refine⟨_,u,?_⟩;rw[G9 ae];exact⟨H,n⟩
theorem RC{rd:aC}{s:Nat}{k:IntKind}{x:Int}(H:aI S f A (.one (.p (.int k x)))):jD S al (.pc f A rd s) d os Q h blk↔al.iJ (rd++[])=true/\jP S al os Q (ef h d (.one (.p (.int k x)))) blk:=af7 H rfl
theorem ajE{rd:aC}{s:Nat}{x:Bool}(H:aI S f A (.one (.p (.bool x)))):jD S al (.pc f A rd s) d os Q h blk↔al.iJ (rd++[])=true/\jP S al os Q (ef h d (.one (.p (.bool x)))) blk:=af7 H rfl
theorem axN{f:Int->dF}(q:Int):∀(ids:bQ) (i:Nat),zl (.int .i64 q) (ids.map λid=>(PV.int .i64 id,f id)) i=some (if q∈ids then some (i+ids.idxOf q,f q)else none):=by
 intro ids
 induction ids with
 |nil=>intro i;rfl
 |cons a ids h=>
  intro i;simp[eQ,zl,FN,if_true]
  grind
theorem wN{f:Nat}{A:dC}{P:V->aG->Prop}(j:al.holds (iH (S.ctx al) f A blk))(u:∃v ak,jG S f A (iH (S.ctx al) f A blk) blk v ak/\P v ak)
  (m:∀v ak,P v ak->jP S al os Q (ef h d v) ak):jD S al (.sc f A) d os Q h blk:=by
 obtain⟨v,ak,n,H⟩:=u;exact(aoL j n).2 (m v ak H)
theorem Cp:bU.all.holds Z:=rfl
theorem L3(h:al.iJ Z.ids)(H:Z.fs.all al.fs.contains):al.holds Z:=by unfold bU.holds;rw[h,H];simp
theorem Ng{id:Nat}(h:(S.sites f).contains (oY id)):(iH (S.ctx al) f A blk).ok id:=by show(false||_||(S.sites f).contains _)=true;rw[h];simp
theorem BD{id:Nat}(h:id∈(A.map (pk blk)).flatten):(iH (S.ctx al) f A blk).ok id:=by
 show(false||(A.map _).flatten.contains id||_)=true
 grind
theorem T1{id g g0 o:Nat}(h:blk id=(g0,some (.var X))):pk blk (.one (.bh id g o))=id::(X.map (nc blk 5)).flatten:=by show nc blk 6 (.bh id g o)=_;rw[nc,h]
theorem Vq{v:PV}:nc blk n (.p v)=[]:=by cases n<;>rfl
theorem Hq{id g g0 o l f:Nat}(h:blk id=(g0,some (.arr y f j))):nc blk (n+1) (.hsl id g z o l)=[id]:=by rw[nc,h]
def Xc(x:Nat×Option fZ)(id g:Nat):Option (PV×aC):=match x with
 |(g',some (.map A j))=>if g'=g then some (.mp A j,[id])else none
 |(g',some (.fmap A j))=>if g'=g then some (.mp A j,[id])else none
 |_=>none
theorem abR{id g:Nat}:snap blk (n+1) (.mN id g)=Xc (blk id) id g:=by rw[snap];rfl
end
theorem alk:type_of%(And.intro @List.map_nil.{0,0}<|And.intro @List.append_nil.{0}<|And.intro @List.map_cons.{0,0}<|And.intro @List.cons_append.{0}<|And.intro @List.nil_append.{0}<|And.intro @List.drop_zero.{0}<|And.intro @List.take_zero.{0}<|And.intro @List.length_cons.{0}<|And.intro @List.length_nil.{0}<|And.intro @List.take_succ_cons.{0}<|And.intro @List.drop_nil.{0}<|And.intro @List.drop_succ_cons.{0}<|And.intro @List.length_map.{0,0}<|And.intro @List.take_nil.{0}<|And.intro @List.flatten_cons.{0}<|And.intro @List.getElem?_cons_zero.{0}<|And.intro @List.getElem?_cons_succ.{0}<|And.intro @List.all_nil.{0}<|And.intro @List.all_cons.{0}<|And.intro @List.not_mem_nil.{0} @Option.map_some.{0,0}):=by simp_all
theorem alv:type_of%(And.intro @Bool.false_eq_true<|And.intro @Bool.not_true<|And.intro @Bool.not_false<|And.intro @Bool.and_true<|And.intro @Bool.and_false<|And.intro @Bool.true_and<|And.intro @Bool.false_and<|And.intro @true_and<|And.intro @and_true<|And.intro @true_or<|And.intro @or_true<|And.intro @false_or<|And.intro @or_false<|And.intro @decide_true<|And.intro @decide_false<|And.intro @not_true_eq_false<|And.intro @not_false_eq_true<|And.intro @and_self<|And.intro @Nat.le_refl<|And.intro @Nat.zero_add<|And.intro @Nat.mul_one<|And.intro @Nat.zero_mul<|And.intro @Nat.zero_le<|And.intro @Nat.sub_zero @Int.zero_add):=by simp_all
def a8(m y z:Nat)(j:dh)(v:V)(blk:aG):Prop:=(j=[]/\v=.one (.p .nils))\/(j≠[]/\ ∃g,v=.one (.hsl m g z 0 (I j))/\blk m=(g,some (.arr y z j)))
def cP(y z:Nat)(j:dh):l6:=if j=[]then .p .nils else .own y z j
theorem a8.of_eq{blk:aG}(h:a8 m y z j v blk)(u:ak m=blk m):a8 m y z j v ak:=by
 rcases h with h|⟨f,g,H,n⟩
 .exact .inl h
 exact .inr ⟨f,g,H,by rw[u,n]⟩
theorem a8.nil{blk:aG}:a8 m y z [] (.one (.p .nils)) blk:=.inl ⟨rfl,rfl⟩
theorem a8.l7{blk:aG}(h:a8 m y z j v blk):∃c o,v=.one c/\l7 blk c=some (cP y z j,o,[])/\(o=[]\/o=[m]):=by
 rcases h with⟨f,H⟩|⟨f,g,H,n⟩
 .exact⟨.p .nils,[],H,by simp[Go.Abs.l7,cP,f],.inl rfl⟩
 refine⟨_,[m],H,?_,.inr rfl⟩;simp[Go.Abs.l7,n,and_self,ct,if_true,jz,cP,ai f]
theorem xT{blk:aG}(h:a8 m y z j v blk):lr blk v=some (.one (cP y z j)):=by
 obtain⟨c,o,rfl,H,f⟩:=h.l7;rcases f with rfl|rfl
 .simp[lr,tq,oN,nE,H,n9,vt,sX]
 simp[lr,tq,oN,nE,H,n9,vt,sX]
theorem PU{f:Nat}{fs:dh}{w:V}{blk:aG}(ae:s1≠f)(h:a8 s1 E D j v blk)(m:a8 f F H fs w blk):lr blk (.tup [v,w])=some (.tup [.one (cP E D j),.one (cP F H fs)]):=by obtain⟨c,o,rfl,n,u⟩:=h.l7;obtain⟨d,q,rfl,k2,k3⟩:=m.l7;rcases u with rfl|rfl<;>rcases k3 with rfl|rfl<;>simp[lr,tq,wI,oN,nE,n,k2,n9,vt,sX,CF,ae]
theorem a8.elems{blk:aG}(h:a8 m y z j v blk):∃r,gP blk v=some (j,r,[])/\(r=[]\/r=[m]):=by
 rcases h with⟨f,H⟩|⟨f,g,H,n⟩
 .exact⟨[],by rw[H,f];rfl,.inl rfl⟩
 refine⟨[m],?_,.inr rfl⟩;rw[H];simp[gP,n]
theorem a8.oa{blk:aG}(h:a8 m y z j v blk):j=[]\/oa v=some z:=by
 rcases h with⟨H,f⟩|⟨H,g,f,n⟩
 .exact .inl H
 exact .inr (by rw[f];rfl)
theorem a8.jq{blk:aG}(h:a8 m y z j v blk):Go.Abs.oa v=some z\/jq z j:=by
 rcases h.oa with h|h
 .exact .inr (by rw[h];rfl)
 exact .inl h
theorem a8.len{blk:aG}(h:a8 m y z j v blk):Av v=some (I j):=by
 rcases h with⟨f,H⟩|⟨f,g,H,n⟩
 .rw[f,H];rfl
 rw[H];rfl
theorem a8.snap{blk:aG}(h:a8 m y z j v blk):∃r,pO blk v=some (.one (.p (.sl j)),r)/\(r=[]\/r=[m]):=by
 rcases h with⟨f,H⟩|⟨f,g,H,n⟩
 .exact⟨[],by rw[H,f];rfl,.inl rfl⟩
 refine⟨[m],?_,.inr rfl⟩;rw[H];simp[pO,iC,Go.Abs.snap,n]
theorem a8.Yv{c:a7}{blk:aG}(h:a8 m y z j (.one c) blk):∃r,Go.Abs.snap blk (n+1) c=some (.sl j,r)/\(r=[]\/r=[m]):=by
 rcases h with⟨f,H⟩|⟨f,g,H,u⟩
 .cases H;exact⟨[],by rw[f];rfl,.inl rfl⟩
 refine⟨[m],?_,.inr rfl⟩;cases H;simp[Go.Abs.snap,u]
section
variable {S:Sys} {al:bU} {Q:gX} {h:bj} {blk:aG} {os all:fm} {tr:fW} {d:dZ}
theorem QI{id bytes:Nat}{v x:V}{rd:aC}(M:a8 id y z j v blk)(f:gP blk x=some (B,rd,[]))(O:oa x=some z\/jq z B)(D:(I j+I B)*bytes<=140737488355328):
  ∃A u r,iQ blk m y z bytes v x=.done A u r/\a8 m y z (j++B) A (app u blk)/\(∀i,i≠m->i≠id->app u blk i=blk i)/\(r=rd/\u.map (·.1)=[]\/r=m::rd/\u.map (·.1)=[m]\/r=m::id::rd/\u.map (·.1)=[id,m]):=by
 have Q:¬¬(oa x=some z\/jq z B):=λh=>h O;rcases M with⟨rfl,rfl⟩|⟨N,g,rfl,E⟩
 .by_cases H:B=[]
  .subst H;refine⟨.one _,[],rd,?_,.inl ⟨rfl,rfl⟩,λi _ _=>rfl,.inl ⟨rfl,rfl⟩⟩;simp[iQ,f,Q,sT,tL]
  have hl:¬I B=0:=by simpa using H
  have L:I B*bytes<=lS:=by simpa [lS]using D
  refine⟨.one (.hsl m ((blk m).1+1) z 0 (I B)),[(m,((blk m).1+1,some (.arr y z B)))],m::rd,?_,.inr ⟨by simpa using H,(blk m).1+1,aH,?_⟩,λi n _=>?_,.inr (.inl ⟨rfl,rfl⟩)⟩
  .simp only[iQ,f,ai Q,sT,tL,ai hl,an L];simp
  .simp[app,ba]
  simp[app,ba,n]
 have L:(I j+I B)*bytes<=lS:=by simpa [lS]using D
 refine⟨.one (.hsl m ((blk m).1+1) z 0 (I j+I B)),[(id,(g,none)),(m,((blk m).1+1,some (.arr y z (j++B))))],m::id::rd,?_,.inr ⟨by simp[N],(blk m).1+1,aH,?_⟩,λi n F=>?_,.inr (.inr ⟨rfl,rfl⟩)⟩
 .simp only[iQ,f,ai Q,sT,tL,E];simp[L]
 .simp[app,ba]
 simp[app,ba,n,F]
theorem ri{id m y z bytes:Nat}{j:dh}{v x:V}{rd:aC}(A:a8 id y z j v blk)(D:gP blk x=some (B,rd,[]))(L:oa x=some z\/jq z B)(f:(I j+I B)*bytes<=140737488355328)
  (E:∀(c:a7) ak,a8 m y z (j++B) (.one c) ak->(∀i,i≠m->i≠id->ak i=blk i)->jP S .all os Q (ef h d (.one c)) ak):jD S .all (iQ blk m y z bytes v x) d os Q h blk:=by
 obtain⟨M,u,r,F,H,n,_⟩:=QI A D L f;obtain⟨c,o,rfl,_⟩:=H.l7;rw[F,Nb];exact E _ _ H n
theorem uC{id m y z bytes:Nat}{j:dh}{v x:V}{rd:aC}(n:a8 id y z j v blk)(A:gP blk x=some (B,rd,[]))(E:oa x=some z\/jq z B)(f:(I j+I B)*bytes<=140737488355328)
  (N:∀(c:a7) ak r w,a8 m y z (j++B) (.one c) ak->(∀i,i≠m->i≠id->ak i=blk i)->(r=rd/\w=[]\/r=m::rd/\w=[m]\/r=m::id::rd/\w=[id,m])->qA S .all all os Q (ef h d (.one c)) ak (tr++[⟨r,w,[]⟩])):uF S .all (iQ blk m y z bytes v x) d all os Q h blk tr:=by
 obtain⟨F,u,r,D,H,L,M⟩:=QI n A E f;obtain⟨c,o,rfl,_⟩:=H.l7;rw[D,L7]
 grind
theorem zz{s:Nat}:a8 s y z j (.one (hs blk s (cP y z j)).1) (app (hs blk s (cP y z j)).2 blk)/\(∀i,i≠s->app (hs blk s (cP y z j)).2 blk i=blk i)/\((hs blk s (cP y z j)).2.map (·.1)=[]\/(hs blk s (cP y z j)).2.map (·.1)=[s]):=by
 unfold cP;by_cases h:j=[]
 .rw[an h];exact⟨.inl ⟨h,rfl⟩,λi _=>rfl,.inl rfl⟩
 rw[ai h];exact⟨.inr ⟨h,(blk s).1+1,rfl,by simp[hs,app,ba]⟩,λi H=>by simp[hs,app,ba,H],.inr rfl⟩
theorem AR(r:RV):r.ib false=r:=rfl
theorem nQ{f:Nat}{A:dC}{s y z:Nat}{rd:aC}{j:dh}(hp:aI S f A (.one (cP y z j)))(m:S.lone s=false)(T:rd=[]\/(RV.one (cP y z j)).alone)
  (n:∀(c:a7) ak,a8 s y z j (.one c) ak->(∀i,i≠s->ak i=blk i)->jP S .all os Q (ef h d (.one c)) ak):jD S .all (.pc f A rd s) d os Q h blk:=by
 obtain⟨u,H,_⟩:=zz;refine(dJ hp ?_).2 (n _ _ u H);rw[m,AR];unfold fR;rw[an T];simp[kV,ll,mf,kY,uD,pW]
theorem aco{f:Nat}{A:dC}{s:Nat}{j fs:dh}(hp:aI S f A (.tup [.one (cP E D j),.one (cP F H fs)]))(N:S.lone s=false)
  (B:∀(c e:a7) ak,a8 s E D j (.one c) ak->a8 (s+1) F H fs (.one e) ak->(∀i,i≠s->i≠s+1->ak i=blk i)->jP S .all os Q (ef h d (.tup [.one c,.one e])) ak):jD S .all (.pc f A [] s) d os Q h blk:=by
 obtain⟨M,z,_⟩:=zz (s:=s);have n:∀(b L:aG) (k:Nat) (r:l6),L k=b k->hs b k r=hs L k r:=by
  intro b L k r T;cases r with
  |p v=>rfl
  |own y R j=>simp[hs,T]
 obtain⟨k1,k2,_⟩:=zz;rw[<- (n _ _ _ _ (z (s+1) J))]at k1 k2;have m:∀(a b:jU) (c:aG),app (a++b) c=app b (app a c):=by
  intro a
  induction a with
  |nil=>intro b c;rfl
  |cons x a O=>intro b c;exact O b _
 refine(dJ (v:=.tup [.one (hs blk s (cP E D j)).1,.one (hs blk (s+1) (cP F H fs)).1]) (u:=(hs blk s (cP E D j)).2++(hs blk (s+1) (cP F H fs)).2) hp ?_).2 (B _ _ _ ?_ ?_ ?_)
 .rw[N,AR];unfold fR;simp[kV,ll,rm,mf,kY,uD,uj,pW]
 .rw[m];exact M.of_eq (k2 s J)
 .rw[m];exact k1
 simp_all
end
theorem sn(h:(j.all λe=>e.all PV.scalar)):(RV.one (cP y z j)).alone:=by
 unfold cP;split
 .rfl
 simp[RV.alone,ll,mf,l6.alone,h]
theorem a8.iC{c:a7}{blk:aG}(h:a8 m y z j (.one c) blk):∃r,Go.Abs.snap blk Go.Abs.iC c=some (.sl j,r)/\(r=[]\/r=[m]):=h.Yv
def wx(blk:aG)(r:aC):Prop:=∀i∈r,∃g y z j,blk i=(g,some (.arr y z j))
theorem wx.nil{blk:aG}:wx blk []:=λ_ h=>by simp at h
theorem wx.app{blk:aG}{a b:aC}(h:wx blk a)(k:wx blk b):wx blk (a++b):=λi H=>by
 rcases iR.1 H with H|H
 .exact h i H
 exact k i H
theorem a8.Tt{c:a7}{blk:aG}(h:a8 m y z j (.one c) blk):∃r,Go.Abs.snap blk Go.Abs.iC c=some (.sl j,r)/\wx blk r/\(r=[]\/r=[m]):=by
 rcases h with⟨f,H⟩|⟨f,g,H,n⟩
 .cases H;exact⟨[],by rw[f];rfl,wx.nil,.inl rfl⟩
 refine⟨[m],?_,λi u=>?_,.inr rfl⟩
 .cases H;simp[Go.Abs.snap,Go.Abs.iC,n]
 grind
theorem acu{blk:aG}(all:aC):∀r:aC,wx blk r->∃f,tL blk all r=some f/\f.map (·.1)=r:=by
 intro r
 induction r with
 |nil=>intro _;exact⟨[],rfl,rfl⟩
 |cons i r u=>intro h;obtain⟨g,y,z,j,m⟩:=h i aH;obtain⟨f,v,H⟩:=u λx n=>h x (by simp[n]);refine⟨(i,(g,some (.sE y z j)))::f,?_,by simp[H]⟩;simp[tL,xy,m,v]
theorem Hz:∀(u:jU) (b:aG) (i:Nat),i∉u.map (·.1)->app u b i=b i:=by
 intro u
 induction u with
 |nil=>intro b i _;rfl
 |cons x u f=>intro b i h;simp only[eQ,dt,AX]at h;show app u _ i=b i;rw[f _ _ h.2,ba,ai h.1]
theorem zA:∀(a b:jU) (c:aG),app (a++b) c=app b (app a c):=by
 intro a
 induction a with
 |nil=>intro b c;rfl
 |cons x a f=>intro b c;exact f b _
section
variable {S:Sys} {al:bU} {Q:gX} {h:bj} {blk:aG} {os all:fm} {tr:fW} {d:dZ}
theorem ak6{id m y z bytes:Nat}{j:dh}{v x:V}{rd fr:aC}(Y:a8 id y z j v blk)(E:gP blk x=some (B,rd,fr))(Z:wx blk fr)(F:id∉fr)(ab:m∉fr)(hz:oa x=some z\/jq z B)(O:(I j+I B)*bytes<=140737488355328)
  (D:∀(c:a7) ak,a8 m y z (j++B) (.one c) ak->(∀i,i≠m->i≠id->i∉fr->ak i=blk i)->jP S .all os Q (ef h d (.one c)) ak):jD S .all (iQ blk m y z bytes v x) d os Q h blk:=by
 have L:¬¬(oa x=some z\/jq z B):=λac=>ac hz;obtain⟨f,R,N⟩:=acu fr fr Z;have u:sT blk fr=some f:=R;rcases Y with⟨rfl,rfl⟩|⟨aN,g,rfl,T⟩
 .by_cases n:B=[]
  .subst n;have:iQ blk m y z bytes (.one (.p .nils)) x=.done (.one (.p .nils)) f (rd++fr):=by simp[iQ,E,L,u]
   rw[this,Nb];exact D _ _ (.inl ⟨rfl,rfl⟩) λi _ _ H=>Hz _ _ _ (by grind)
  have hl:¬I B=0:=by simpa using n
  have M:I B*bytes<=lS:=by simpa [lS]using O
  have:iQ blk m y z bytes (.one (.p .nils)) x=.done (.one (.hsl m ((blk m).1+1) z 0 (I B))) (f++[(m,((blk m).1+1,some (.arr y z B)))]) (m::rd++fr):=by simp only[iQ,E,ai L,u,ai hl,an M]
  rw[this,Nb];refine D _ _ (.inr ⟨by simpa using n,(blk m).1+1,aH,?_⟩) λi A _ H=>?_
  .rw[zA];simp[app,ba]
  rw[zA];have:=Hz f blk i (by rw[N];exact H);simp[app,ba,A,this]
 have M:(I j+I B)*bytes<=lS:=by simpa [lS]using O
 have N8:fr.contains id=false:=by simpa using F
 have:iQ blk m y z bytes (.one (.hsl id g z 0 (I j))) x=.done (.one (.hsl m ((blk m).1+1) z 0 (I j+I B))) (f++[(id,(g,none)),(m,((blk m).1+1,some (.arr y z (j++B))))]) (m::id::rd++fr):=by simp only[iQ,E,ai L,u,T,N8];simp[M]
 rw[this,Nb];refine D _ _ (.inr ⟨by simp[aN],(blk m).1+1,aH,?_⟩) λi A X H=>?_
 .rw[zA];simp[app,ba]
 rw[zA];have:=Hz f blk i (by rw[N];exact H);simp[app,ba,A,X,this]
end
section
variable {S:Sys} {al:bU} {Q:gX} {h:bj} {blk:aG} {os all:fm} {tr:fW} {d:dZ}
theorem Yt{l:aC}(h:∀i∈l,al.ok i):al.iJ l:=mB.2 h
theorem Po{id m y z bytes:Nat}{j:dh}{v x:V}{rd:aC}(A:∀i∈m::id::rd,al.ok i)(D:a8 id y z j v blk)(R:gP blk x=some (B,rd,[]))(M:oa x=some z\/jq z B)(N:(I j+I B)*bytes<=140737488355328)
  (F:∀(c:a7) ak,a8 m y z (j++B) (.one c) ak->(∀i,i≠m->i≠id->ak i=blk i)->jP S al os Q (ef h d (.one c)) ak):jD S al (iQ blk m y z bytes v x) d os Q h blk:=by
 obtain⟨T,u,r,L,f,O,E⟩:=QI D R M N;obtain⟨c,o,rfl,_⟩:=f.l7;rw[L,Z4];refine⟨?_,F _ _ f O⟩;rcases E with⟨rfl,H⟩|⟨rfl,H⟩|⟨rfl,H⟩<;>rw[H]<;>refine Yt λi n=>A i ?_ <;>simp at n |-
 .exact .inr (.inr n)
 .grind
 grind
theorem abq{id m y z bytes:Nat}{j:dh}{v x:V}{rd:aC}(D:∀i∈m::id::rd,al.ok i)(E:a8 id y z j v blk)(R:gP blk x=some (B,rd,[]))(M:oa x=some z\/jq z B)(N:(I j+I B)*bytes<=140737488355328)
  (F:∀(c:a7) ak r w,a8 m y z (j++B) (.one c) ak->(∀i,i≠m->i≠id->ak i=blk i)->(r=rd/\w=[]\/r=m::rd/\w=[m]\/r=m::id::rd/\w=[id,m])->qA S al all os Q (ef h d (.one c)) ak (tr++[⟨r,w,[]⟩])):uF S al (iQ blk m y z bytes v x) d all os Q h blk tr:=by
 obtain⟨T,u,r,L,f,O,n⟩:=QI E R M N;obtain⟨c,o,rfl,_⟩:=f.l7;rw[L,ZS];refine⟨?_,F _ _ _ _ f O n⟩;rcases n with⟨rfl,H⟩|⟨rfl,H⟩|⟨rfl,H⟩<;>rw[H]<;>refine Yt λi A=>D i ?_ <;>simp at A |-
 .exact .inr (.inr A)
 .grind
 grind
theorem asq{f:Nat}{A:dC}{s:Nat}{rd:aC}{j fs:dh}(x:∀i∈s::(s+1)::rd,al.ok i)(hp:aI S f A (.tup [.one (cP E D j),.one (cP F H fs)]))(T:S.lone s=false)
  (B:(j.all λe=>e.all PV.scalar)) (M:(fs.all λe=>e.all PV.scalar))
  (N:∀(c e:a7) ak,a8 s E D j (.one c) ak->a8 (s+1) F H fs (.one e) ak->(∀i,i≠s->i≠s+1->ak i=blk i)->jP S al os Q (ef h d (.tup [.one c,.one e])) ak):jD S al (.pc f A rd s) d os Q h blk:=by
 have Y:(RV.tup [.one (cP E D j),.one (cP F H fs)]).alone:=by have a:=sn (y:=E) (z:=D) B;have b:=sn (y:=F) (z:=H) M;simp only[RV.alone,ll,mf,v_,zo,GH]at a b;simp[RV.alone,ll,rm,mf,a,b]
 obtain⟨O,n,X⟩:=zz;have u:∀(b L:aG) (k:Nat) (r:l6),L k=b k->hs b k r=hs L k r:=by
  intro b L k r ab;cases r with
  |p v=>rfl
  |own y Z j=>simp only[hs,ab]
 have R:hs blk (s+1) (cP F H fs)=hs (app (hs blk s (cP E D j)).2 blk) (s+1) (cP F H fs):=u _ _ _ _ (n (s+1) J);obtain⟨k1,k2,m⟩:=zz;rw[<-R]at k1 k2 m;refine⟨_,hp,?_⟩;rw[T,AR];have hl:fR blk rd s (RV.tup [.one (cP E D j),.one (cP F H fs)])=some (.tup [.one (hs blk s (cP E D j)).1,.one (hs blk (s+1) (cP F H fs)).1],(hs blk s (cP E D j)).2++(hs blk (s+1) (cP F H fs)).2):=by unfold fR;rw[an (.inr Y)];simp[kV,ll,rm,mf,kY,uD,uj,pW]
 rw[hl];refine⟨Yt λi hi=>x i ?_,N _ _ _ ?_ ?_ ?_⟩
 .grind
 .rw[zA];exact O.of_eq (k2 s J)
 .rw[zA];exact k1
 intro i a b;rw[zA,k2 i b,n i a]
end
theorem cF{b:aG}{a i:Nat}{x:Nat×Option fZ}(h:i≠a):dN b a x i=b i:=by rw[ba,ai h]
theorem w_{b:aG}{a:Nat}{x:Nat×Option fZ}:dN b a x a=x:=by rw[ba,an rfl]
theorem Qq{a i:Nat}{l:aC}(h:i∉l)(H:a∈l):i≠a:=λe=>h (e▸H)
section
variable {S:Sys} {al:bU} {Q:gX} {h:bj} {blk:aG} {os all:fm} {tr:fW} {d:dZ}
theorem ajn{f:Nat}{A:dC}{s y z:Nat}{j:dh}{x:PV}(hp:aI S f A (.tup [.one (cP y z j),.one (.p x)]))(m:S.lone s=false)
  (n:∀(c:a7) ak,a8 s y z j (.one c) ak->(∀i,i≠s->ak i=blk i)->jP S .all os Q (ef h d (.tup [.one c,.one (.p x)])) ak):jD S .all (.pc f A [] s) d os Q h blk:=by
 obtain⟨u,H,_⟩:=zz;refine(dJ hp ?_).2 (n _ _ u H);rw[m,AR];unfold fR;simp[kV,ll,rm,mf,kY,uD,uj,pW,hs]
theorem GN{f:Nat}{A:dC}{s y z:Nat}{rd:aC}{j:dh}(hp:aI S f A (.one (cP y z j)))(m:S.lone s=false)(T:rd=[]\/(RV.one (cP y z j)).alone)
  (u:∀(c:a7) ak w,a8 s y z j (.one c) ak->(∀i,i≠s->ak i=blk i)->(w=[]\/w=[s])->qA S .all all os Q (ef h d (.one c)) ak (tr++[⟨rd++w,w,[]⟩])):uF S .all (.pc f A rd s) d all os Q h blk tr:=by
 obtain⟨v,H,n⟩:=zz;refine(pX hp ?_).2 (u _ _ _ v H n);rw[m,AR];unfold fR;rw[an T];simp[kV,ll,mf,kY,uD,pW]
theorem ai7{f:Nat}{A:dC}{s y z:Nat}{j:dh}{x:PV}(hp:aI S f A (.tup [.one (cP y z j),.one (.p x)]))(m:S.lone s=false)
  (n:∀(c:a7) ak w,a8 s y z j (.one c) ak->(∀i,i≠s->ak i=blk i)->(w=[]\/w=[s])->qA S .all all os Q (ef h d (.tup [.one c,.one (.p x)])) ak (tr++[⟨[]++w,w,[]⟩])):uF S .all (.pc f A [] s) d all os Q h blk tr:=by
 obtain⟨u,H,v⟩:=zz;refine(pX hp ?_).2 (n _ _ _ u H v);rw[m,AR];unfold fR;simp[kV,ll,rm,mf,kY,uD,uj,pW,hs]
theorem No{f:Nat}{A:dC}{s y z:Nat}{rd:aC}{j:dh}{x:PV}(hp:aI S f A (.agg [.p x,cP y z j]))(m:S.lone s=false)(n:x.scalar)(ae:(j.all λe=>e.all PV.scalar))
  (u:∀(c:a7) ak,a8 (s+1) y z j (.one c) ak->(∀i,i≠s+1->ak i=blk i)->jP S .all os Q (ef h d (.agg [.p x,c])) ak):jD S .all (.pc f A rd s) d os Q h blk:=by
 obtain⟨v,H,_⟩:=zz;have B:(RV.agg [.p x,cP y z j]).alone:=by have a:=sn (y:=y) (z:=z) ae;simp[RV.alone,ll,mf,v_,zo,GH]at a;simp[RV.alone,ll,mf,v_,zo,GH,a];exact n
 refine(dJ hp ?_).2 (u _ _ v H);rw[m,AR];unfold fR;rw[an (.inr B)];simp[kV,ll,mf,kY,uD,pW,hs]
theorem P5{f:Nat}{A:dC}{s y z:Nat}{j:dh}{x Y:PV}(hp:aI S f A (.tup [.agg [.p x,cP y z j],.one (.p Y)]))(m:S.lone s=false)
  (n:∀(c:a7) ak,a8 (s+1) y z j (.one c) ak->(∀i,i≠s+1->ak i=blk i)->jP S .all os Q (ef h d (.tup [.agg [.p x,c],.one (.p Y)])) ak):jD S .all (.pc f A [] s) d os Q h blk:=by
 obtain⟨u,H,_⟩:=zz;refine(dJ hp ?_).2 (n _ _ u H);rw[m,AR];unfold fR;simp[kV,ll,rm,mf,kY,uD,uj,pW,hs]
end
theorem Mz{c:a7}{y:PV}{blk:aG}(h:a8 s1 E D j (.one c) blk):lr blk (.tup [.agg [.p x,c],.one (.p y)])=some (.tup [.agg [.p x,cP E D j],.one (.p y)]):=by obtain⟨v,o,n,H,m⟩:=h.l7;cases n;have f:l7 blk (.p x)=some _:=rfl;have u:l7 blk (.p y)=some _:=rfl;rcases m with rfl|rfl<;>simp[lr,tq,wI,oN,nE,H,f,u,n9,vt,sX,CF]
section
variable {S:Sys} {al:bU} {Q:gX} {h:bj} {blk:aG} {os all:fm} {tr:fW} {d:dZ} {op:r_} {w:Option Bool} {a b:aQ} {v:V}
theorem yG(L:aC)(H:∀e:bj,(∀k∈L,e k=h k)->yC S al w d op os Q e blk):yC S al w d op os Q h blk:=H h λ_ _=>rfl
theorem Ak(L:aC)(H:∀e:bj,(∀k∈L,e k=h k)->xG S al w d op all os Q e blk tr):xG S al w d op all os Q h blk tr:=H h λ_ _=>rfl
theorem aqn(L:aC)(H:∀e:bj,(∀k∈L,e k=h k)->wL S al v a b Q e blk):wL S al v a b Q h blk:=H h λ_ _=>rfl
end
section
variable {S:Sys} {al:bU} {Q:gX} {h:bj} {blk:aG} {os all:fm} {tr:fW} {d:dZ}
theorem aad{id m y z bytes:Nat}{j:dh}{v x:V}{rd fr:aC}(Y:a8 id y z j v blk)(F:gP blk x=some (B,rd,fr))(Z:wx blk fr)(L:id∉fr)(ab:m∉fr)(hz:oa x=some z\/jq z B)(O:(I j+I B)*bytes<=140737488355328)
  (E:∀(c:a7) ak r w,a8 m y z (j++B) (.one c) ak->(∀i,i≠m->i≠id->i∉fr->ak i=blk i)->(r=rd++fr/\w=fr\/r=m::rd++fr/\w=fr++[m]\/r=m::id::rd++fr/\w=fr++[id,m])->qA S .all all os Q (ef h d (.one c)) ak (tr++[⟨r,w,[]⟩])):uF S .all (iQ blk m y z bytes v x) d all os Q h blk tr:=by
 have M:¬¬(oa x=some z\/jq z B):=λac=>ac hz;obtain⟨f,R,A⟩:=acu fr fr Z;have u:sT blk fr=some f:=R;rcases Y with⟨rfl,rfl⟩|⟨aN,g,rfl,T⟩
 .by_cases n:B=[]
  .subst n;have:iQ blk m y z bytes (.one (.p .nils)) x=.done (.one (.p .nils)) f (rd++fr):=by simp[iQ,F,M,u]
   rw[this,L7];exact E _ _ _ _ (.inl ⟨rfl,rfl⟩) (λi _ _ H=>Hz _ _ _ (by rw[A];exact H)) (.inl ⟨rfl,A⟩)
  have hl:¬I B=0:=by simpa using n
  have N:I B*bytes<=lS:=by simpa [lS]using O
  have:iQ blk m y z bytes (.one (.p .nils)) x=.done (.one (.hsl m ((blk m).1+1) z 0 (I B))) (f++[(m,((blk m).1+1,some (.arr y z B)))]) (m::rd++fr):=by simp only[iQ,F,ai M,u,ai hl,an N]
  rw[this,L7];refine E _ _ _ _ (.inr ⟨by simpa using n,(blk m).1+1,aH,?_⟩) (λi D _ H=>?_) (.inr (.inl ⟨rfl,by simp[A]⟩))
  .rw[zA];simp[app,ba]
  rw[zA];have:=Hz f blk i (by rw[A];exact H);simp[app,ba,D,this]
 have N:(I j+I B)*bytes<=lS:=by simpa [lS]using O
 have N8:fr.contains id=false:=by simpa using L
 have:iQ blk m y z bytes (.one (.hsl id g z 0 (I j))) x=.done (.one (.hsl m ((blk m).1+1) z 0 (I j+I B))) (f++[(id,(g,none)),(m,((blk m).1+1,some (.arr y z (j++B))))]) (m::id::rd++fr):=by simp only[iQ,F,ai M,u,T,N8];simp[N]
 rw[this,L7];refine E _ _ _ _ (.inr ⟨by simp[aN],(blk m).1+1,aH,?_⟩) (λi D X H=>?_) (.inr (.inr ⟨rfl,by simp[A]⟩))
 .rw[zA];simp[app,ba]
 rw[zA];have:=Hz f blk i (by rw[A];exact H);simp[app,ba,D,X,this]
theorem JN{f:Nat}{A:dC}{s y z:Nat}{rd:aC}{j:dh}{x:PV}(hp:aI S f A (.tup [.one (cP y z j),.one (.p x)]))(m:S.lone s=false)(ae:(j.all λe=>e.all PV.scalar))(n:x.scalar)
  (B:∀(c:a7) ak,a8 s y z j (.one c) ak->(∀i,i≠s->ak i=blk i)->jP S .all os Q (ef h d (.tup [.one c,.one (.p x)])) ak):jD S .all (.pc f A rd s) d os Q h blk:=by
 obtain⟨D,H,_⟩:=zz (blk:=blk) (s:=s) (y:=y) (z:=z) (j:=j);have E:(RV.tup [.one (cP y z j),.one (.p x)]).alone:=by have a:=sn (y:=y) (z:=z) ae;simp only[RV.alone,ll,mf,v_,zo,GH]at a;simp only[RV.alone,ll,rm,mf,ko,fz,i_,v_,zo,GH,a,zB];exact n
 refine(dJ (v:=.tup [.one (hs blk s (cP y z j)).1,.one (.p x)]) (u:=(hs blk s (cP y z j)).2) hp ?_).2 (B _ _ D H);rw[m,AR];unfold fR;rw[an (.inr E)];simp[kV,ll,rm,mf,kY,uD,uj,pW,hs]
end
section
variable {S:Sys} {al:bU} {Q:gX} {h:bj} {blk:aG} {os all:fm} {tr:fW} {d:dZ} {op:r_} {a b:aQ} {e w:Bool}
theorem aje(H:e->yC S al (some (true==w)) d op os Q h blk)(f:e=false->yC S al (some (false==w)) d op os Q h blk):yC S al (some (e==w)) d op os Q h blk:=by
 cases e
 .exact f rfl
 exact H rfl
theorem abn(H:e->yC S al (some (false==w)) d op os Q h blk)(f:e=false->yC S al (some (true==w)) d op os Q h blk):yC S al (some ((!e)==w)) d op os Q h blk:=by
 cases e
 .exact f rfl
 exact H rfl
theorem aaI(H:e->xG S al (some (true==w)) d op all os Q h blk tr)(f:e=false->xG S al (some (false==w)) d op all os Q h blk tr):xG S al (some (e==w)) d op all os Q h blk tr:=by
 cases e
 .exact f rfl
 exact H rfl
theorem aeM(H:e->xG S al (some (false==w)) d op all os Q h blk tr)(f:e=false->xG S al (some (true==w)) d op all os Q h blk tr):xG S al (some ((!e)==w)) d op all os Q h blk tr:=by
 cases e
 .exact f rfl
 exact H rfl
theorem ai3(H:e->wL S al (.one (.p (.bool true))) a b Q h blk)(f:e=false->wL S al (.one (.p (.bool false))) a b Q h blk):wL S al (.one (.p (.bool e))) a b Q h blk:=by
 cases e
 .exact f rfl
 exact H rfl
theorem Un(H:e->wL S al (.one (.p (.bool false))) a b Q h blk)(f:e=false->wL S al (.one (.p (.bool true))) a b Q h blk):wL S al (.one (.p (.bool (!e)))) a b Q h blk:=by
 cases e
 .exact f rfl
 exact H rfl
theorem at1{rd:aC}{s:Nat}{r:RV}(hp:aI S f A r)(n:fR blk rd s (r.ib (S.lone s))=some (v,u)):jD S al (.pc f A rd s) d os Q h blk↔al.iJ (rd++u.map (·.1))=true/\jP S al os Q (ef h d v) (app u blk):=by
 constructor
 .rintro ⟨y,j,H⟩
  have:=j.det hp;subst this;rwa[n]at H
 intro m;refine⟨_,hp,?_⟩;rw[n];exact m
theorem ayv{rd:aC}{s:Nat}{r:RV}(hp:aI S f A r)(n:fR blk rd s (r.ib (S.lone s))=some (v,u)):uF S al (.pc f A rd s) d all os Q h blk tr↔al.iJ (rd++u.map (·.1))=true/\qA S al all os Q (ef h d v) (app u blk) (tr++[⟨rd++u.map (·.1),u.map (·.1),[]⟩]):=by
 constructor
 .rintro ⟨y,j,H⟩
  have:=j.det hp;subst this;rwa[n]at H
 intro m;refine⟨_,hp,?_⟩;rw[n];exact m
theorem Z6{s:Nat}(b:Bool):fR blk [] s ((RV.one (.p x)).ib b)=some (.one (.p x),[]):=by cases b<;>rfl
theorem Uu{s:Nat}(H:aI S f A (.one (.p x))):jD S al (.pc f A [] s) d os Q h blk↔jP S al os Q (ef h d (.one (.p x))) blk:=by rw[at1 H (Z6 _)];exact⟨λH=>H.2,λH=>⟨rfl,H⟩⟩
theorem Ox{s:Nat}(H:aI S f A (.one (.p x))):uF S al (.pc f A [] s) d all os Q h blk tr↔qA S al all os Q (ef h d (.one (.p x))) blk (tr++[⟨[],[],[]⟩]):=by rw[ayv H (Z6 _)];exact⟨λH=>H.2,λH=>⟨rfl,H⟩⟩
end
theorem a8.LR{c:a7}{blk:aG}(h:a8 m y z j (.one c) blk):∃r,(∀B:aG,B m=blk m->Go.Abs.snap B Go.Abs.iC c=some (.sl j,r))/\(r=[]\/r=[m]):=by
 rcases h with⟨f,H⟩|⟨f,g,H,n⟩
 .cases H;exact⟨[],λB _=>by rw[f];rfl,.inl rfl⟩
 cases H;refine⟨[m],λB u=>?_,.inr rfl⟩;rw[<-u]at n;simp[Go.Abs.iC,Go.Abs.snap,n]
end
open Go
theorem akx{y z:Nat}{j:dh}(h:j≠[]):cP y z j=.own y z j:=ai h
theorem Gr{p:Nat->Prop}:(∀k∈([]:aC),p k)↔True:=by simp
theorem E8{a:Nat}{l:aC}{p:Nat->Prop}:(∀k∈a::l,p k)↔p a/\ ∀k∈l,p k:=List.forall_mem_cons
attribute [go_sem] Gr E8 zV bne_self_eq_false Bool.or_true Bool.or_false Bool.true_or Bool.false_or Bool.not_not kV ll mf rm hs kY uD pW uj Option.getD_some Option.getD_none Option.isSome_some Option.isSome_none
attribute [go_sem ↓] amd amm alq ayn awc axs arf ak1 akS avq awY arv az3 apw anT arL ayJ auc ayd awG anm auq arW aro arl ale
attribute [go_sem high] Nb L7
attribute [go_sem] atw aqm aof avp av3 asv amL ay1 anD axy avx auy auF aq2 ba asR aqG aw8 azN alu akm ank avA axT azo auJ ajZ avF avh auB aqr azm ayy aqg aAd axq ayr akq awU aqP asf Yj aq4 apl axA alx azZ amq azR axU asg alk alv Z4 ZS XP Tx Bool.and_self bU.GM
attribute [go_sem] cH O0 JO Di Gl app if_true if_false reduceIte Nat.reduceEqDiff beq_self_eq_true reduceCtorEq ge_iff_le qd QE Ac E_ Nat.reduceAdd Cn sf Ar fM uf Av ne_eq Nat.reduceLeDiff zq Au BA CG Q_ Df Nat.reduceMul Nat.reduceLT Sn PR
attribute [go_sem] gP oa sT tL lS EC s_ Nat.reduceSub Int.reduceLT Int.reduceAdd Int.reduceBEq Int.reduceBNe Int.reduceLE List.contains_eq_mem xO
end Go.Abs
