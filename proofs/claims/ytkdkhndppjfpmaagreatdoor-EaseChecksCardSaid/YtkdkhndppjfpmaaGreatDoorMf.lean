/-
  Rules for a walk.
-/
import Derived.Test.YtkdkhndppjfpmaaGreatDoorMc
import Derived.Attr
set_option linter.all false
open List renaming length->I
namespace Go.Abs
variable{X:eE}{n g z M N f s1 E D F H m:Nat}{u:mF}{T:Nat->ct->aN->Prop}{Y:List (Nat×Option eC)}{R:V->aN->Prop}{A:dT}{L aq:aN}{Z:cT}{B:q_}
section
variable{x:PV}{f y m z:Nat}{A:dT}{v:V}{j:q_}
theorem av6(k:Nat):tg (.one (.p (.int .i64 (k:Int))))=some k:=by simp[tg]
theorem ao4(n:Nat):tg (.one (.p (.int .i64 (no_index (@OfNat.ofNat Int n instOfNat)))))=some (@OfNat.ofNat Nat n (instOfNatNat n)):=by show tg (.one (.p (.int .i64 (Int.ofNat n))))=some n;simp[tg]
theorem amF{aj:aN}{v:PV}:snap aj fA (.p v)=some (v.norm,[]):=rfl
def V3{β:Type}(x:Option (β×aF))(y:Option (List β×aF)):Option (List β×aF):=match x,y with
 |some (b,x),some (B,y)=>some (b::B,x++y)
 |_,_=>none
theorem ard{β:Type}{b:β}{x:aF}{B:List β}{y:aF}:V3 (some (b,x)) (some (B,y))=some (b::B,x++y):=rfl
theorem aCA{α β:Type}{f:α->Option (β×aF)}:iD f []=some ([],[]):=rfl
theorem aue{α β:Type}{f:α->Option (β×aF)}{a:α}{r:List α}:iD f (a::r)=V3 (f a) (iD f r):=by simp only[iD,V3];cases f a<;>cases iD f r<;>rfl
theorem aCq{aj:aN}{c:dI}:qz aj (.one c)=(snap aj fA c).map λ(v,r)=>(.one (.p v),r):=rfl
theorem aCF{aj:aN}:qz aj (.agg X)=(iD (snap aj fA) X).map λ(A,r)=>(.agg (A.map .p),r):=rfl
theorem avK{aj:aN}{v:PV}:snap aj (n+1) (.p v)=some (v.norm,[]):=rfl
def RO(o:Nat×Option f_)(h:List eE->Option (q_×aF))(id g M len:Nat):Option (PV×aF):=match o with
 |(f,some (.arr _ _ j))=>if f=g/\M+len<=I j then some (.sl ((j.drop M).take len),[id])else none
 |(f,some (.qW _ _ j))=>if f=g/\M+len<=I j then some (.sl ((j.drop M).take len),[id])else none
 |(f,some (.lN _ _ j))=>if f=g/\M+len<=I j then
   match h ((j.drop M).take len)with
   |some (ps,r)=>some (.sl ps,id::r)
   |none=>none
  else none
 |_=>none
theorem ays{aj:aN}{id z len:Nat}:snap aj fA (.hsl id g z M len)=RO (aj id) (iD (iD (snap aj 5))) id g M len:=by unfold fA RO;rw[snap];rfl
def Rt(o:Nat×Option f_)(f:eE->Option (b_×aF))(id g M:Nat):Option (PV×aF):=match o with
 |(h,some (.var X))=>if h=g then
   match f X with
   |some (ps,r)=>some (.box (ps.drop M),id::r)
   |none=>none
  else none
 |(h,some (.fvar ps))=>if h=g then some (.box (ps.drop M),[id])else none
 |_=>none
theorem ayJ{aj:aN}{id:Nat}:snap aj fA (.bm id g M)=Rt (aj id) (iD (snap aj 5)) id g M:=by unfold fA Rt;rw[snap];rfl
section
variable {S:Sys} {al:cT} {h:ct} {aj:aN} {d:eC}
theorem JL{rd:aF}{s:Nat}{b:Bool}(ae:x.scalar):fg aj rd s ((RV.one (.p x)).fR b)=some (.one (.p x),[]):=by
 have h:(RV.one (.p x)).fR b=.one (.p x):=by cases b<;>rfl
 rw[h];have:(RV.one (.p x)).alone:=by simp[RV.alone,mz,m_,nO.alone,ae]
 simp only[fg,this,or_true,if_true];rfl
theorem arK{rd:aF}{s:Nat}{bY:ct->aN->Prop}(m:aK S f A (.one (.p x)))(ae:x.scalar):KR S .all (.pc f A rd s) d h aj bY↔bY (dP h d (.one (.p x))) aj:=by
 constructor
 .rintro ⟨y,g,H⟩
  have:=g.Cn m;subst this;rw[JL ae]at H;exact H.2
 intro j;refine⟨_,m,?_⟩;rw[JL ae];exact⟨cT.Hi _,j⟩
theorem aC8{rd:aF}{s:Nat}{tr:gr}{bY:ct->aN->gr->Prop}(m:aK S f A (.one (.p x)))(ae:x.scalar):I1 S .all (.pc f A rd s) d h aj tr bY↔bY (dP h d (.one (.p x))) aj (tr++[⟨rd,[],[]⟩]):=by
 constructor
 .rintro ⟨y,g,H⟩
  have:=g.Cn m;subst this;rw[JL ae]at H
  simpa [app]using H.2
 intro j;refine⟨_,m,?_⟩;rw[JL ae];exact⟨cT.Hi _,by simpa [app]using j⟩
theorem art{O:fI}{Q:hs}:ch S al (.region true O) Q h aj↔r5 S al O (λh aj j=>ql O [] j=true/\Q .normal h aj) h aj []:=by
 rw[aei];constructor
 .rintro ⟨n,e,b,j,f,H,g⟩;exact⟨n,e,b,j,f,H rfl,g⟩
 rintro⟨n,e,b,j,f,H,g⟩;exact⟨n,e,b,j,f,λ_=>H,g⟩
end
theorem wrap_small(h:n<=9223372036854775807):IntKind.i64.wrap (n:Int)=n:=af2 h
theorem cN(h:n<9223372036854775807):IntKind.i64.wrap ((n:Int)+1)=((n+1:Nat):Int):=af2 (n:=n+1) J
section
variable {S:Sys} {al:cT} {Q:hs} {h:ct} {aj:aN} {a b:aS} {O os all:fI} {tr:gr} {d:eC} {op:sR} {n:Nat}
def v_(S:Sys)(al:cT)(b:aS)(Q:hs):hs
 | .normal,h,aj=>ch S al b Q h aj
 | .exit i,h,aj=>Q (.exit i) h aj
 | .ret,h,aj=>Q .ret h aj
theorem avd:Ol (ch S al b Q) Q=v_ S al b Q:=by funext e h aj;cases e<;>rfl
theorem ayT:ch S al (.seq a b) Q h aj↔ch S al a (v_ S al b Q) h aj:=by rw[aDn,avd]
theorem aoV:v_ S al b Q .normal h aj=ch S al b Q h aj:=rfl
theorem aBw{i:Nat}:v_ S al b Q (.exit i) h aj=Q (.exit i) h aj:=rfl
theorem aAA:v_ S al b Q .ret h aj=Q .ret h aj:=rfl
def yr (S:Sys)(al:cT)(v:V)(a b:aS)(Q:hs)(h:ct)(aj:aN):Prop:=KK v (ch S al a Q h aj) (ch S al b Q h aj)
theorem aAD{x:fu}:ch S al (.cond x a b) Q h aj↔yr S al (ev h x) a b Q h aj:=aCJ
theorem aCk:yr S al (.one (.p (.bool true))) a b Q h aj=ch S al a Q h aj:=by simp[yr,KK]
theorem ayQ:yr S al (.one (.p (.bool false))) a b Q h aj=ch S al b Q h aj:=by simp[yr,KK]
def jI (S:Sys)(al:cT)(O:fI)(Q:hs)(h:ct)(aj:aN):Prop:=EW S al O (λh aj=>Q .normal h aj) h aj
def kn (S:Sys)(al:cT)(p:Dl)(d:eC)(os:fI)(Q:hs)(h:ct)(aj:aN):Prop:=KR S al p d h aj (EW S al os λh aj=>Q .normal h aj)
def rR (S:Sys)(al:cT)(w:Option Bool)(d:eC)(op:sR)(os:fI)(Q:hs)(h:ct)(aj:aN):Prop:=Uj S al w ⟨d,op,none,0⟩ h aj (EW S al os λh aj=>Q .normal h aj)
theorem azO:ch S al (.region false O) Q h aj↔jI S al O Q h aj:=aqw
theorem aBp:jI S al [] Q h aj↔Q .normal h aj:=aB1
theorem aph:jI S al (⟨d,op,none,n⟩::os) Q h aj↔kn S al (c5 S.shared h aj op) d os Q h aj:=aej
theorem auz{t:Nat}{w:Bool}:jI S al (⟨d,op,some (t,w),n⟩::os) Q h aj↔rR S al (Gv (h t) w) d op os Q h aj:=by
 unfold jI rR;rw[aej];have:s9 h (some (t,w))=Gv (h t) w:=rfl;simp only[this];cases Gv (h t) w with
 |none=>rfl
 |some x=>cases x<;>rfl
theorem aAb:rR S al (some true) d op os Q h aj↔kn S al (c5 S.shared h aj op) d os Q h aj:=Iff.rfl
theorem aBl:rR S al (some false) d op os Q h aj↔jI S al os Q (dP h d .undef) aj:=Iff.rfl
theorem OL{r:aF}:kn S .all (.done v u r) d os Q h aj↔jI S .all os Q (dP h d v) (app u aj):=by show(cT.all.iA (r++u.map (·.1))/\_)↔_;rw[cT.Hi];exact⟨λH=>H.2,λH=>⟨rfl,H⟩⟩
theorem ak2{r:aF}:kn S al (.done v u r) d os Q h aj↔al.iA (r++u.map (·.1))=true/\jI S al os Q (dP h d v) (app u aj):=Iff.rfl
theorem acw{rd:aF}{s:Nat}(H:aK S f A (.one (.p x)))(ae:x.scalar):kn S .all (.pc f A rd s) d os Q h aj↔jI S .all os Q (dP h d (.one (.p x))) aj:=arK H ae
theorem dJ{rd:aF}{s:Nat}{k:IntKind}{x:Int}(H:aK S f A (.one (.p (.int k x)))):kn S .all (.pc f A rd s) d os Q h aj↔jI S .all os Q (dP h d (.one (.p (.int k x)))) aj:=acw H rfl
theorem au{rd:aF}{s:Nat}{x:Bool}(H:aK S f A (.one (.p (.bool x)))):kn S .all (.pc f A rd s) d os Q h aj↔jI S .all os Q (dP h d (.one (.p (.bool x)))) aj:=acw H rfl
theorem uP{rd:aF}{s:Nat}{x:ByteArray}(H:aK S f A (.one (.p (.str x)))):kn S .all (.pc f A rd s) d os Q h aj↔jI S .all os Q (dP h d (.one (.p (.str x)))) aj:=acw H rfl
theorem aU{rd:aF}{s:Nat}{r:RV}(hp:aK S f A r)(m:fg aj rd s (r.fR (S.lone s))=some (v,u)):kn S .all (.pc f A rd s) d os Q h aj↔jI S .all os Q (dP h d v) (app u aj):=by
 constructor
 .rintro ⟨y,g,H⟩
  have:=g.Cn hp;subst this;rw[m]at H;exact H.2
 intro j;refine⟨_,hp,?_⟩;rw[m];exact⟨cT.Hi _,j⟩
def qp (S:Sys)(al:cT)(all O:fI)(Q:hs)(h:ct)(aj:aN)(tr:gr):Prop:=r5 S al O (λh aj j=>ql all [] j=true/\Q .normal h aj) h aj tr
def sW (S:Sys)(al:cT)(p:Dl)(d:eC)(all os:fI)(Q:hs)(h:ct)(aj:aN)(tr:gr):Prop:=I1 S al p d h aj tr (r5 S al os λh aj j=>ql all [] j=true/\Q .normal h aj)
def zr (S:Sys)(al:cT)(w:Option Bool)(d:eC)(op:sR)(all os:fI)(Q:hs)(h:ct)(aj:aN)(tr:gr):Prop:=GQ S al w ⟨d,op,none,0⟩ h aj tr (r5 S al os λh aj j=>ql all [] j=true/\Q .normal h aj)
theorem avX:ch S al (.region true O) Q h aj↔qp S al O O Q h aj []:=art
theorem avB:qp S al all [] Q h aj tr↔ql all [] tr=true/\Q .normal h aj:=WJ
theorem az9:qp S al all (⟨d,op,none,n⟩::os) Q h aj tr↔sW S al (c5 S.shared h aj op) d all os Q h aj tr:=UP
theorem aDs{t:Nat}{w:Bool}:qp S al all (⟨d,op,some (t,w),n⟩::os) Q h aj tr↔zr S al (Gv (h t) w) d op all os Q h aj tr:=by
 unfold qp zr;rw[UP];have:s9 h (some (t,w))=Gv (h t) w:=rfl;simp only[this];cases Gv (h t) w with
 |none=>rfl
 |some x=>cases x<;>rfl
theorem awJ:zr S al (some true) d op all os Q h aj tr↔sW S al (c5 S.shared h aj op) d all os Q h aj tr:=Iff.rfl
theorem ayG:zr S al (some false) d op all os Q h aj tr↔qp S al all os Q (dP h d .undef) aj (tr++[⟨[],[],[]⟩]):=Iff.rfl
theorem agE{r:aF}:sW S .all (.done v u r) d all os Q h aj tr↔qp S .all all os Q (dP h d v) (app u aj) (tr++[⟨r,u.map (·.1),[]⟩]):=by show(cT.all.iA (r++u.map (·.1))/\_)↔_;rw[cT.Hi];exact⟨λH=>H.2,λH=>⟨rfl,H⟩⟩
theorem alx{r:aF}:sW S al (.done v u r) d all os Q h aj tr↔al.iA (r++u.map (·.1))=true/\qp S al all os Q (dP h d v) (app u aj) (tr++[⟨r,u.map (·.1),[]⟩]):=Iff.rfl
theorem afI{rd:aF}{s:Nat}(H:aK S f A (.one (.p x)))(ae:x.scalar):sW S .all (.pc f A rd s) d all os Q h aj tr↔qp S .all all os Q (dP h d (.one (.p x))) aj (tr++[⟨rd,[],[]⟩]):=aC8 H ae
theorem dp{rd:aF}{s:Nat}{k:IntKind}{x:Int}(H:aK S f A (.one (.p (.int k x)))):sW S .all (.pc f A rd s) d all os Q h aj tr↔qp S .all all os Q (dP h d (.one (.p (.int k x)))) aj (tr++[⟨rd,[],[]⟩]):=afI H rfl
theorem dq{rd:aF}{s:Nat}{x:Bool}(H:aK S f A (.one (.p (.bool x)))):sW S .all (.pc f A rd s) d all os Q h aj tr↔qp S .all all os Q (dP h d (.one (.p (.bool x)))) aj (tr++[⟨rd,[],[]⟩]):=afI H rfl
theorem fp{rd:aF}{s:Nat}{r:RV}(hp:aK S f A r)(m:fg aj rd s (r.fR (S.lone s))=some (v,u)):sW S .all (.pc f A rd s) d all os Q h aj tr↔qp S .all all os Q (dP h d v) (app u aj) (tr++[⟨rd++u.map (·.1),u.map (·.1),[]⟩]):=by
 constructor
 .rintro ⟨y,g,H⟩
  have:=g.Cn hp;subst this;rw[m]at H;exact H.2
 intro j;refine⟨_,hp,?_⟩;rw[m];exact⟨cT.Hi _,j⟩
def N_(N:Nat)(T:Nat->ct->aN->Prop)(k:Nat)(Q:hs):hs:=Ol (λh aj=>k<N/\T (k+1) h aj) Q
theorem ayy{k:Nat}:N_ N T k Q .normal h aj=(k<N/\T (k+1) h aj):=rfl
theorem ap3{k i:Nat}:N_ N T k Q (.exit i) h aj=Q (.exit i) h aj:=rfl
theorem aCN{k:Nat}:N_ N T k Q .ret h aj=Q .ret h aj:=rfl
theorem dy{c:aS}(T:Nat->ct->aN->Prop)(f N:Nat)(H:f<=N)(g:T f h aj)
  (R:∀k h aj,k<=N->T k h aj->ch S al c (N_ N T k Q) h aj):ch S al (.loop c) Q h aj:=aBP T f N H g R
def QG(R:V->aN->Prop)(aj:aN):Option dT->Prop
 |some A=>R (By A) aj
 |none=>False
theorem asc:sO al Y R .ret h aj=QG R aj (qJ al h aj Y):=by simp only[sO,QG];cases qJ al h aj Y<;>rfl
theorem asC:sO al Y R .normal h aj=QG R aj (qJ al h aj Y):=by simp only[sO,QG];cases qJ al h aj Y<;>rfl
theorem apx{A:dT}:QG R aj (some A)=R (By A) aj:=rfl
end
section
variable {S:Sys} {al:cT} {Q:hs} {h:ct} {aj:aN}
def Uk(S:Sys)(al:cT)(c:aS)(Q:hs):hs
 | .normal,h,aj=>ch S al (.loop c) Q h aj
 | .exit i,h,aj=>Q (.exit i) h aj
 | .ret,h,aj=>Q .ret h aj
theorem aCt{c:aS}:Uk S al c Q .normal h aj=ch S al (.loop c) Q h aj:=rfl
theorem aCj{c:aS}{i:Nat}:Uk S al c Q (.exit i) h aj=Q (.exit i) h aj:=rfl
theorem aDp{c:aS}:Uk S al c Q .ret h aj=Q .ret h aj:=rfl
theorem sZ{c:aS}(v:ch S al c (Uk S al c Q) h aj):ch S al (.loop c) Q h aj:=by
 obtain⟨n,e,u,x,f,H⟩:=v;cases e with
 |normal=>obtain⟨m,e,D,B,g,j⟩:=H;refine⟨max n m+1,e,D,B,?_,j⟩;simp only[dR]at g |-;simp only[n9];rw[IK S J f];exact acC S J J g
 |exit i=>exact⟨n+1,_,_,_,by simp[dR,n9,IK S (Nat.le_succ n) f],H⟩
 |ret=>exact⟨n+1,_,_,_,by simp[dR,n9,IK S (Nat.le_succ n) f],H⟩
end
theorem lK.Cn{S:Sys}{A:dT}{al:cT}{aj:aN}{g:V}{b:aN}(h:lK S f A al aj v b)(j:lK S f A al aj g L):v=g/\b=L:=by obtain⟨n,u⟩:=h;obtain⟨m,H⟩:=j;have a:=M_ S (Gp n m) _ _ _ _ _ u;have c:=M_ S (IP n m) _ _ _ _ _ H;rw[a]at c;have:=rz c;exact⟨congrArg Prod.fst this,congrArg Prod.snd this⟩
section
variable {S:Sys} {al:cT} {Q:hs} {h:ct} {aj:aN} {os all:fI} {tr:gr} {d:eC}
theorem WK:al.iA []:=rfl
theorem adE{a:Nat}{l:aF}:al.iA (a::l)=(al.ok a&&al.iA l):=rfl
def dE(bY:Nat->Prop)(b L:aN):Prop:=∀id,¬bY id->L id=b id
theorem dE.refl(bY:Nat->Prop)(b:aN):dE bY b b:=λ_ _=>rfl
theorem dE.trans{bY:Nat->Prop}{a b c:aN}(h:dE bY a b)(f:dE bY b c):dE bY a c:=λid H=>(f id H).trans (h id H)
theorem dE.dx{bY:Nat->Prop}{b:aN}(h:dE bY b L){k:Nat}(f:bY k)(x:Nat×Option f_):dE bY b (dx L k x):=λid H=>by rw[cD,aC (by rintro rfl;exact H f)];exact h id H
theorem aty(j:al.holds (iB (S.ctx al) f A aj))(m:lK S f A (iB (S.ctx al) f A aj) aj v aq):kn S al (.sc f A) d os Q h aj↔jI S al os Q (dP h d v) aq:=by
 constructor
 .rintro ⟨_,n,B,g,H⟩
  obtain⟨rfl,rfl⟩:=m.Cn g;exact H
 intro H;exact⟨j,v,aq,m,H⟩
theorem aeR{rd:aF}{s:Nat}(n:aK S f A (.one (.p x)))(ae:x.scalar):kn S al (.pc f A rd s) d os Q h aj↔al.iA (rd++[])=true/\jI S al os Q (dP h d (.one (.p x))) aj:=by
 constructor
 .rintro ⟨y,j,H⟩
  have:=j.Cn n;subst this;rw[JL ae]at H;exact H
 rintro⟨g,m⟩
 refine⟨_,n,?_⟩;rw[JL ae];exact⟨g,m⟩
theorem QB{rd:aF}{s:Nat}{k:IntKind}{x:Int}(H:aK S f A (.one (.p (.int k x)))):kn S al (.pc f A rd s) d os Q h aj↔al.iA (rd++[])=true/\jI S al os Q (dP h d (.one (.p (.int k x)))) aj:=aeR H rfl
theorem akK{rd:aF}{s:Nat}{x:Bool}(H:aK S f A (.one (.p (.bool x)))):kn S al (.pc f A rd s) d os Q h aj↔al.iA (rd++[])=true/\jI S al os Q (dP h d (.one (.p (.bool x)))) aj:=aeR H rfl
theorem as5{f:Int->b_}(q:Int):∀(ids:dd) (i:Nat),xY (.int .i64 q) (ids.map λid=>(PV.int .i64 id,f id)) i=some (if q∈ids then some (i+ids.idxOf q,f q)else none):=by
 intro ids
 induction ids with
 |nil=>intro i;rfl
 |cons a ids j=>
  intro i;simp only[eJ,xY,Ed,if_true];by_cases e:q=a
  .subst e;simp
  have m:(q==a)=false:=by simpa using e
  have E:¬(a=q):=λh=>e h.symm;simp only[m];rw[j];simp only[dr,e,false_or,UK,dk,E,cond_false];by_cases h:q∈ids
  .have g:(a==q)=false:=by simpa using E
   simp[h,g];omega
  simp[h]
theorem sG{f:Nat}{A:dT}{P:V->aN->Prop}(g:al.holds (iB (S.ctx al) f A aj))(n:∃v aq,lK S f A (iB (S.ctx al) f A aj) aj v aq/\P v aq)
  (j:∀v aq,P v aq->jI S al os Q (dP h d v) aq):kn S al (.sc f A) d os Q h aj:=by
 obtain⟨v,aq,m,H⟩:=n;exact(aty g m).2 (j v aq H)
theorem t_:cT.all.holds Z:=rfl
theorem OW(h:al.iA Z.ids)(H:Z.fs.all al.fs.contains):al.holds Z:=by unfold cT.holds;rw[h,H];simp
theorem yu{id:Nat}(h:(S.sites f).contains (kW id)):(iB (S.ctx al) f A aj).ok id:=by show(false||_||(S.sites f).contains (kW id))=true;rw[h];simp
theorem tu{id:Nat}(h:id∈(A.map (lH aj)).flatten):(iB (S.ctx al) f A aj).ok id:=by
 show(false||(A.map (lH aj)).flatten.contains id||_)=true;have:(A.map (lH aj)).flatten.contains id:=by simpa using h
 rw[this];rfl
theorem abJ{id g0 o:Nat}(h:aj id=(g0,some (.var X))):lH aj (.one (.bm id g o))=id::(X.map (o6 aj 5)).flatten:=by show o6 aj 6 (.bm id g o)=_;rw[o6,h]
theorem acU{v:PV}:o6 aj n (.p v)=[]:=by cases n<;>rfl
theorem KG{id g0 o l f:Nat}(h:aj id=(g0,some (.arr m f j))):o6 aj (n+1) (.hsl id g z o l)=[id]:=by rw[o6,h]
def aae(x:Nat×Option f_)(id g:Nat):Option (PV×aF):=match x with
 |(f,some (.map A j))=>if f=g then some (.mp A j,[id])else none
 |(f,some (.fmap A j))=>if f=g then some (.mp A j,[id])else none
 |_=>none
theorem amR{id:Nat}:snap aj (n+1) (.nL id g)=aae (aj id) id g:=by rw[snap];rfl
end
def cg(y m z:Nat)(j:q_)(v:V)(aj:aN):Prop:=(j=[]/\v=.one (.p .nils))\/(j≠[]/\ ∃g,v=.one (.hsl y g z 0 (I j))/\aj y=(g,some (.arr m z j)))
def cF(m z:Nat)(j:q_):nO:=if j=[]then .p .nils else .own m z j
theorem cg.of_eq{aj:aN}(h:cg y m z j v aj)(u:aq y=aj y):cg y m z j v aq:=by
 rcases h with h|⟨f,g,H,n⟩
 .exact .inl h
 exact .inr ⟨f,g,H,by rw[u,n]⟩
theorem cg.nil{aj:aN}:cg y m z [] (.one (.p .nils)) aj:=.inl ⟨rfl,rfl⟩
theorem cg.ij{aj:aN}(h:cg y m z j v aj):∃c o,v=.one c/\ij aj c=some (cF m z j,o,[])/\(o=[]\/o=[y]):=by
 rcases h with⟨f,H⟩|⟨f,g,H,n⟩
 .exact⟨.p .nils,[],H,by simp[Go.Abs.ij,cF,f],.inl rfl⟩
 refine⟨_,[y],H,?_,.inr rfl⟩;simp only[Go.Abs.ij,n,and_self,c3,if_true,lA,cF,aC f]
theorem wX{aj:aN}(h:cg y m z j v aj):iR aj v=some (.one (cF m z j)):=by
 obtain⟨c,o,rfl,H,f⟩:=h.ij;rcases f with rfl|rfl
 .simp[iR,n_,lX,kS,H,mg,pK,oh]
 simp[iR,n_,lX,kS,H,mg,pK,oh]
theorem Nn{f:Nat}{fs:q_}{w:V}{aj:aN}(ae:s1≠f)(h:cg s1 E D j v aj)(m:cg f F H fs w aj):iR aj (.tup [v,w])=some (.tup [.one (cF E D j),.one (cF F H fs)]):=by obtain⟨c,o,rfl,u,x⟩:=h.ij;obtain⟨d,q,rfl,g,n⟩:=m.ij;rcases x with rfl|rfl<;>rcases n with rfl|rfl<;>simp[iR,n_,vE,lX,kS,u,g,mg,pK,oh,EL,ae]
theorem cg.elems{aj:aN}(h:cg y m z j v aj):∃r,js aj v=some (j,r,[])/\(r=[]\/r=[y]):=by
 rcases h with⟨f,H⟩|⟨f,g,H,n⟩
 .exact⟨[],by rw[H,f];rfl,.inl rfl⟩
 refine⟨[y],?_,.inr rfl⟩;rw[H];simp[js,n]
theorem cg.rZ{aj:aN}(h:cg y m z j v aj):j=[]\/rZ v=some z:=by
 rcases h with⟨H,f⟩|⟨H,g,f,n⟩
 .exact .inl H
 exact .inr (by rw[f];rfl)
theorem cg.ao{aj:aN}(h:cg y m z j v aj):Go.Abs.rZ v=some z\/ao z j:=by
 rcases h.rZ with h|h
 .exact .inr (by rw[h];rfl)
 exact .inl h
theorem cg.len{aj:aN}(h:cg y m z j v aj):B7 v=some (I j):=by
 rcases h with⟨f,H⟩|⟨f,g,H,n⟩
 .rw[f,H];rfl
 rw[H];rfl
theorem cg.snap{aj:aN}(h:cg y m z j v aj):∃r,qz aj v=some (.one (.p (.sl j)),r)/\(r=[]\/r=[y]):=by
 rcases h with⟨f,H⟩|⟨f,g,H,n⟩
 .exact⟨[],by rw[H,f];rfl,.inl rfl⟩
 refine⟨[y],?_,.inr rfl⟩;rw[H];simp[qz,fA,Go.Abs.snap,n]
theorem cg.acE{c:dI}{aj:aN}(h:cg y m z j (.one c) aj):∃r,Go.Abs.snap aj (n+1) c=some (.sl j,r)/\(r=[]\/r=[y]):=by
 rcases h with⟨f,H⟩|⟨f,g,H,u⟩
 .cases H;exact⟨[],by rw[f];rfl,.inl rfl⟩
 refine⟨[y],?_,.inr rfl⟩;cases H;simp[Go.Abs.snap,u]
section
variable {S:Sys} {al:cT} {Q:hs} {h:ct} {aj:aN} {os all:fI} {tr:gr} {d:eC}
theorem R5{id bytes:Nat}{v x:V}{rd:aF}(O:cg id m z j v aj)(f:js aj x=some (B,rd,[]))(Q:rZ x=some z\/ao z B)(F:(I j+I B)*bytes<=140737488355328):
  ∃E u r,af aj y m z bytes v x=.done E u r/\cg y m z (j++B) E (app u aj)/\(∀i,i≠y->i≠id->app u aj i=aj i)/\(r=rd/\u.map (·.1)=[]\/r=y::rd/\u.map (·.1)=[y]\/r=y::id::rd/\u.map (·.1)=[id,y]):=by
 have D:¬¬(rZ x=some z\/ao z B):=λh=>h Q;rcases O with⟨rfl,rfl⟩|⟨N,g,rfl,L⟩
 .by_cases H:B=[]
  .subst H;refine⟨.one (.p .nils),[],rd,?_,.inl ⟨rfl,rfl⟩,λi _ _=>rfl,.inl ⟨rfl,rfl⟩⟩;simp[af,f,D,vq,uO]
  have hl:¬I B=0:=by simpa using H
  have n:I B*bytes<=pV:=by simpa [pV]using F
  refine⟨.one (.hsl y ((aj y).1+1) z 0 (I B)),[(y,((aj y).1+1,some (.arr m z B)))],y::rd,?_,.inr ⟨by simpa using H,(aj y).1+1,aP,?_⟩,λi A _=>?_,.inr (.inl ⟨rfl,rfl⟩)⟩
  .simp only[af,f,aC D,vq,uO,aC hl,aD n];simp
  .simp[app,cD]
  simp[app,cD,A]
 have n:(I j+I B)*bytes<=pV:=by simpa [pV]using F
 refine⟨.one (.hsl y ((aj y).1+1) z 0 (I j+I B)),[(id,(g,none)),(y,((aj y).1+1,some (.arr m z (j++B))))],y::id::rd,?_,.inr ⟨by simp[N],(aj y).1+1,aP,?_⟩,λi A M=>?_,.inr (.inr ⟨rfl,rfl⟩)⟩
 .simp only[af,f,aC D,vq,uO,L];simp[n]
 .simp[app,cD]
 simp[app,cD,A,M]
theorem th{id y m z bytes:Nat}{j:q_}{v x:V}{rd:aF}(n:cg id m z j v aj)(A:js aj x=some (B,rd,[]))(F:rZ x=some z\/ao z B)(f:(I j+I B)*bytes<=140737488355328)
  (D:∀(c:dI) aq,cg y m z (j++B) (.one c) aq->(∀i,i≠y->i≠id->aq i=aj i)->jI S .all os Q (dP h d (.one c)) aq):kn S .all (af aj y m z bytes v x) d os Q h aj:=by
 obtain⟨L,u,r,E,H,g,_⟩:=R5 n A F f;obtain⟨c,o,rfl,_⟩:=H.ij;rw[E,OL];exact D _ _ H g
theorem qe{id y m z bytes:Nat}{j:q_}{v x:V}{rd:aF}(n:cg id m z j v aj)(A:js aj x=some (B,rd,[]))(L:rZ x=some z\/ao z B)(f:(I j+I B)*bytes<=140737488355328)
  (E:∀(c:dI) aq r w,cg y m z (j++B) (.one c) aq->(∀i,i≠y->i≠id->aq i=aj i)->(r=rd/\w=[]\/r=y::rd/\w=[y]\/r=y::id::rd/\w=[id,y])->qp S .all all os Q (dP h d (.one c)) aq (tr++[⟨r,w,[]⟩])):sW S .all (af aj y m z bytes v x) d all os Q h aj tr:=by
 obtain⟨M,u,r,F,H,g,D⟩:=R5 n A L f;obtain⟨c,o,rfl,_⟩:=H.ij;rw[F,agE];exact E _ _ _ _ H g D
theorem zQ{s:Nat}:cg s m z j (.one (fC aj s (cF m z j)).1) (app (fC aj s (cF m z j)).2 aj)/\(∀i,i≠s->app (fC aj s (cF m z j)).2 aj i=aj i)/\((fC aj s (cF m z j)).2.map (·.1)=[]\/(fC aj s (cF m z j)).2.map (·.1)=[s]):=by
 unfold cF;by_cases h:j=[]
 .rw[aD h];exact⟨.inl ⟨h,rfl⟩,λi _=>rfl,.inl rfl⟩
 rw[aC h];exact⟨.inr ⟨h,(aj s).1+1,rfl,by simp[fC,app,cD]⟩,λi H=>by simp[fC,app,cD,H],.inr rfl⟩
theorem xF(r:RV):r.fR false=r:=rfl
theorem mX{f:Nat}{A:dT}{s m z:Nat}{rd:aF}{j:q_}(hp:aK S f A (.one (cF m z j)))(n:S.lone s=false)(g:rd=[]\/(RV.one (cF m z j)).alone)
  (x:∀(c:dI) aq,cg s m z j (.one c) aq->(∀i,i≠s->aq i=aj i)->jI S .all os Q (dP h d (.one c)) aq):kn S .all (.pc f A rd s) d os Q h aj:=by
 obtain⟨y,H,_⟩:=zQ (aj:=aj) (s:=s) (m:=m) (z:=z) (j:=j);refine(aU (v:=.one (fC aj s (cF m z j)).1) (u:=(fC aj s (cF m z j)).2) hp ?_).2 (x _ _ y H);rw[n,xF];unfold fg;rw[aD g];simp[jq,mz,m_,nk,vO,rF]
theorem UH{f:Nat}{A:dT}{s:Nat}{j fs:q_}(hp:aK S f A (.tup [.one (cF E D j),.one (cF F H fs)]))(R:S.lone s=false)
  (N:∀(c e:dI) aq,cg s E D j (.one c) aq->cg (s+1) F H fs (.one e) aq->(∀i,i≠s->i≠s+1->aq i=aj i)->jI S .all os Q (dP h d (.tup [.one c,.one e])) aq):kn S .all (.pc f A [] s) d os Q h aj:=by
 obtain⟨O,B,_⟩:=zQ (aj:=aj) (s:=s) (m:=E) (z:=D) (j:=j);have M:∀(b L:aN) (k:Nat) (r:nO),L k=b k->fC b k r=fC L k r:=by
  intro b L k r Z;cases r with
  |p v=>rfl
  |own m Y j=>simp only[fC,Z]
 have T:fC aj (s+1) (cF F H fs)=fC (app (fC aj s (cF E D j)).2 aj) (s+1) (cF F H fs):=M _ _ _ _ (B (s+1) J);obtain⟨y,n,_⟩:=zQ (aj:=app (fC aj s (cF E D j)).2 aj) (s:=s+1) (m:=F) (z:=H) (j:=fs);rw[<-T]at y n;have g:∀(a b:mF) (c:aN),app (a++b) c=app b (app a c):=by
  intro a
  induction a with
  |nil=>intro b c;rfl
  |cons x a X=>intro b c;exact X b _
 refine(aU (v:=.tup [.one (fC aj s (cF E D j)).1,.one (fC aj (s+1) (cF F H fs)).1]) (u:=(fC aj s (cF E D j)).2++(fC aj (s+1) (cF F H fs)).2) hp ?_).2 (N _ _ _ ?_ ?_ ?_)
 .rw[R,xF];unfold fg;rw[aD (.inl rfl)];simp[jq,mz,tz,m_,nk,vO,vG,rF]
 .rw[g];exact O.of_eq (n s J)
 .rw[g];exact y
 intro i a b;rw[g,n i b,B i a]
end
theorem fN(h:(j.all λe=>e.all PV.scalar)):(RV.one (cF m z j)).alone:=by
 unfold cF;split
 .rfl
 simp[RV.alone,mz,m_,nO.alone,h]
theorem cg.fA{c:dI}{aj:aN}(h:cg y m z j (.one c) aj):∃r,Go.Abs.snap aj Go.Abs.fA c=some (.sl j,r)/\(r=[]\/r=[y]):=h.acE
def BD(aj:aN)(r:aF):Prop:=∀i∈r,∃g m z j,aj i=(g,some (.arr m z j))
theorem BD.nil{aj:aN}:BD aj []:=λ_ h=>by simp at h
theorem BD.app{aj:aN}{a b:aF}(h:BD aj a)(k:BD aj b):BD aj (a++b):=λi H=>by
 rcases iW.1 H with H|H
 .exact h i H
 exact k i H
theorem cg.acD{c:dI}{aj:aN}(h:cg y m z j (.one c) aj):∃r,Go.Abs.snap aj Go.Abs.fA c=some (.sl j,r)/\BD aj r/\(r=[]\/r=[y]):=by
 rcases h with⟨f,H⟩|⟨f,g,H,n⟩
 .cases H;exact⟨[],by rw[f];rfl,BD.nil,.inl rfl⟩
 refine⟨[y],?_,λi u=>?_,.inr rfl⟩
 .cases H;simp[Go.Abs.snap,Go.Abs.fA,n]
 rw[rb]at u;subst u;exact⟨_,_,_,_,n⟩
theorem ayw{aj:aN}(all:aF):∀r:aF,BD aj r->∃f,uO aj all r=some f/\f.map (·.1)=r:=by
 intro r
 induction r with
 |nil=>intro _;exact⟨[],rfl,rfl⟩
 |cons i r v=>intro h;obtain⟨g,m,z,j,n⟩:=h i aP;obtain⟨f,x,H⟩:=v λy u=>h y (by simp[u]);refine⟨(i,(g,some (.qW m z j)))::f,?_,by simp[H]⟩;simp[uO,y8,n,x]
theorem abN:∀(u:mF) (b:aN) (i:Nat),i∉u.map (·.1)->app u b i=b i:=by
 intro u
 induction u with
 |nil=>intro b i _;rfl
 |cons x u f=>intro b i h;simp only[eJ,dr,za]at h;show app u (dx b x.1 x.2) i=b i;rw[f _ _ h.2,cD,aC h.1]
theorem Hx:∀(a b:mF) (c:aN),app (a++b) c=app b (app a c):=by
 intro a
 induction a with
 |nil=>intro b c;rfl
 |cons x a f=>intro b c;exact f b _
section
variable {S:Sys} {al:cT} {Q:hs} {h:ct} {aj:aN} {os all:fI} {tr:gr} {d:eC}
theorem afg{id y m z bytes:Nat}{j:q_}{v x:V}{rd fr:aF}(hg:cg id m z j v aj)(L:js aj x=some (B,rd,fr))(Z:BD aj fr)(M:id∉fr)(ab:y∉fr)(hz:rZ x=some z\/ao z B)(T:(I j+I B)*bytes<=140737488355328)
  (D:∀(c:dI) aq,cg y m z (j++B) (.one c) aq->(∀i,i≠y->i≠id->i∉fr->aq i=aj i)->jI S .all os Q (dP h d (.one c)) aq):kn S .all (af aj y m z bytes v x) d os Q h aj:=by
 have E:¬¬(rZ x=some z\/ao z B):=λac=>ac hz;obtain⟨f,O,R⟩:=ayw fr fr Z;have A:vq aj fr=some f:=O;rcases hg with⟨rfl,rfl⟩|⟨aO,g,rfl,X⟩
 .by_cases n:B=[]
  .subst n;have:af aj y m z bytes (.one (.p .nils)) x=.done (.one (.p .nils)) f (rd++fr):=by simp[af,L,E,A]
   rw[this,OL];exact D _ _ (.inl ⟨rfl,rfl⟩) λi _ _ H=>abN _ _ _ (by rw[R];exact H)
  have hl:¬I B=0:=by simpa using n
  have N:I B*bytes<=pV:=by simpa [pV]using T
  have:af aj y m z bytes (.one (.p .nils)) x=.done (.one (.hsl y ((aj y).1+1) z 0 (I B))) (f++[(y,((aj y).1+1,some (.arr m z B)))]) (y::rd++fr):=by simp only[af,L,aC E,A,aC hl,aD N]
  rw[this,OL];refine D _ _ (.inr ⟨by simpa using n,(aj y).1+1,aP,?_⟩) λi u _ H=>?_
  .rw[Hx];simp[app,cD]
  rw[Hx];have:=abN f aj i (by rw[R];exact H);simp[app,cD,u,this]
 have N:(I j+I B)*bytes<=pV:=by simpa [pV]using T
 have F:fr.contains id=false:=by simpa using M
 have:af aj y m z bytes (.one (.hsl id g z 0 (I j))) x=.done (.one (.hsl y ((aj y).1+1) z 0 (I j+I B))) (f++[(id,(g,none)),(y,((aj y).1+1,some (.arr m z (j++B))))]) (y::id::rd++fr):=by simp only[af,L,aC E,A,X,F];simp[N]
 rw[this,OL];refine D _ _ (.inr ⟨by simp[aO],(aj y).1+1,aP,?_⟩) λi u Y H=>?_
 .rw[Hx];simp[app,cD]
 rw[Hx];have:=abN f aj i (by rw[R];exact H);simp[app,cD,u,Y,this]
theorem aAK{f:Nat}{A:dT}{s:Nat}{rd:aF}{j fs:q_}(hp:aK S f A (.tup [.one (cF E D j),.one (cF F H fs)]))(u:S.lone s=false)
  (L:(j.all λe=>e.all PV.scalar)) (v:(fs.all λe=>e.all PV.scalar))
  (M:∀(c e:dI) aq,cg s E D j (.one c) aq->cg (s+1) F H fs (.one e) aq->(∀i,i≠s->i≠s+1->aq i=aj i)->jI S .all os Q (dP h d (.tup [.one c,.one e])) aq):kn S .all (.pc f A rd s) d os Q h aj:=by
 have x:(RV.tup [.one (cF E D j),.one (cF F H fs)]).alone:=by have a:=fN (m:=E) (z:=D) L;have b:=fN (m:=F) (z:=H) v;simp only[RV.alone,mz,m_,vg,yF,AH]at a b;simp[RV.alone,mz,tz,m_,a,b]
 have N:kn S .all (.pc f A [] s) d os Q h aj:=UH hp u M;obtain⟨y,n,g⟩:=N;refine⟨y,n,?_⟩;have:=n.Cn hp;subst this;rw[u,xF]at g |-;unfold fg at g |-;rw[aD (.inl rfl)]at g;rw[aD (.inr x)];obtain⟨_,B⟩:=g;exact⟨cT.Hi _,B⟩
end
theorem OD{a i:Nat}{l:aF}(H:i∈l)(h:a∉l):i≠a:=λe=>h (e▸H)
section
variable {S:Sys} {al:cT} {Q:hs} {h:ct} {aj:aN} {os all:fI} {tr:gr} {d:eC}
theorem abG{l:aF}(h:∀i∈l,al.ok i):al.iA l:=kr.2 h
theorem Vc{id y m z bytes:Nat}{j:q_}{v x:V}{rd:aF}(M:∀i∈y::id::rd,al.ok i)(A:cg id m z j v aj)(R:js aj x=some (B,rd,[]))(L:rZ x=some z\/ao z B)(N:(I j+I B)*bytes<=140737488355328)
  (E:∀(c:dI) aq,cg y m z (j++B) (.one c) aq->(∀i,i≠y->i≠id->aq i=aj i)->jI S al os Q (dP h d (.one c)) aq):kn S al (af aj y m z bytes v x) d os Q h aj:=by
 obtain⟨T,u,r,F,n,O,D⟩:=R5 A R L N;obtain⟨c,o,rfl,_⟩:=n.ij;rw[F,ak2];refine⟨?_,E _ _ n O⟩;rcases D with⟨rfl,g⟩|⟨rfl,g⟩|⟨rfl,g⟩<;>rw[g]<;>refine abG λi H=>M i ?_ <;>simp at H |-
 .exact .inr (.inr H)
 .rcases H with f|f|f<;>simp[f]
 rcases H with f|f|f|f|f<;>simp[f]
theorem VN{id y m z bytes:Nat}{j:q_}{v x:V}{rd:aF}(M:∀i∈y::id::rd,al.ok i)(D:cg id m z j v aj)(R:js aj x=some (B,rd,[]))(L:rZ x=some z\/ao z B)(N:(I j+I B)*bytes<=140737488355328)
  (E:∀(c:dI) aq r w,cg y m z (j++B) (.one c) aq->(∀i,i≠y->i≠id->aq i=aj i)->(r=rd/\w=[]\/r=y::rd/\w=[y]\/r=y::id::rd/\w=[id,y])->qp S al all os Q (dP h d (.one c)) aq (tr++[⟨r,w,[]⟩])):sW S al (af aj y m z bytes v x) d all os Q h aj tr:=by
 obtain⟨T,u,r,F,n,O,A⟩:=R5 D R L N;obtain⟨c,o,rfl,_⟩:=n.ij;rw[F,alx];refine⟨?_,E _ _ _ _ n O A⟩;rcases A with⟨rfl,g⟩|⟨rfl,g⟩|⟨rfl,g⟩<;>rw[g]<;>refine abG λi H=>M i ?_ <;>simp at H |-
 .exact .inr (.inr H)
 .rcases H with f|f|f<;>simp[f]
 rcases H with f|f|f|f|f<;>simp[f]
theorem aoZ{f:Nat}{A:dT}{s:Nat}{rd:aF}{j fs:q_}(aG:∀i∈s::(s+1)::rd,al.ok i)(hp:aK S f A (.tup [.one (cF E D j),.one (cF F H fs)]))(Y:S.lone s=false)
  (R:(j.all λe=>e.all PV.scalar)) (iO:(fs.all λe=>e.all PV.scalar))
  (T:∀(c e:dI) aq,cg s E D j (.one c) aq->cg (s+1) F H fs (.one e) aq->(∀i,i≠s->i≠s+1->aq i=aj i)->jI S al os Q (dP h d (.tup [.one c,.one e])) aq):kn S al (.pc f A rd s) d os Q h aj:=by
 have O:(RV.tup [.one (cF E D j),.one (cF F H fs)]).alone:=by have a:=fN (m:=E) (z:=D) R;have b:=fN (m:=F) (z:=H) iO;simp only[RV.alone,mz,m_,vg,yF,AH]at a b;simp[RV.alone,mz,tz,m_,a,b]
 obtain⟨X,M,u⟩:=zQ (aj:=aj) (s:=s) (m:=E) (z:=D) (j:=j);have N:∀(b L:aN) (k:Nat) (r:nO),L k=b k->fC b k r=fC L k r:=by
  intro b L k r y;cases r with
  |p v=>rfl
  |own m sz j=>simp only[fC,y]
 have Z:fC aj (s+1) (cF F H fs)=fC (app (fC aj s (cF E D j)).2 aj) (s+1) (cF F H fs):=N _ _ _ _ (M (s+1) J);obtain⟨B,x,n⟩:=zQ (aj:=app (fC aj s (cF E D j)).2 aj) (s:=s+1) (m:=F) (z:=H) (j:=fs);rw[<-Z]at B x n;refine⟨_,hp,?_⟩;rw[Y,xF];have hl:fg aj rd s (RV.tup [.one (cF E D j),.one (cF F H fs)])=some (.tup [.one (fC aj s (cF E D j)).1,.one (fC aj (s+1) (cF F H fs)).1],(fC aj s (cF E D j)).2++(fC aj (s+1) (cF F H fs)).2):=by unfold fg;rw[aD (.inr O)];simp[jq,mz,tz,m_,nk,vO,vG,rF]
 rw[hl];refine⟨abG λi g=>aG i ?_,T _ _ _ ?_ ?_ ?_⟩
 .simp only[kP,iW]at g;rcases g with g|g|g
  .simp[g]
  .rcases u with y|y<;>rw[y]at g<;>simp at g<;>simp[g]
  rcases n with y|y<;>rw[y]at g<;>simp at g<;>simp[g]
 .rw[Hx];exact X.of_eq (x s J)
 .rw[Hx];exact B
 intro i a b;rw[Hx,x i b,M i a]
end
theorem bK{b:aN}{a i:Nat}{x:Nat×Option f_}(h:i≠a):dx b a x i=b i:=by rw[cD,aC h]
theorem vx{b:aN}{a:Nat}{x:Nat×Option f_}:dx b a x a=x:=by rw[cD,aD rfl]
theorem Ub{a i:Nat}{l:aF}(h:i∉l)(H:a∈l):i≠a:=λe=>h (e▸H)
section
variable {S:Sys} {al:cT} {Q:hs} {h:ct} {aj:aN} {os all:fI} {tr:gr} {d:eC}
theorem adL{f:Nat}{A:dT}{s m z:Nat}{j:q_}{x:PV}(hp:aK S f A (.tup [.one (cF m z j),.one (.p x)]))(y:S.lone s=false)
  (g:∀(c:dI) aq,cg s m z j (.one c) aq->(∀i,i≠s->aq i=aj i)->jI S .all os Q (dP h d (.tup [.one c,.one (.p x)])) aq):kn S .all (.pc f A [] s) d os Q h aj:=by
 obtain⟨n,H,_⟩:=zQ (aj:=aj) (s:=s) (m:=m) (z:=z) (j:=j);refine(aU (v:=.tup [.one (fC aj s (cF m z j)).1,.one (.p x)]) (u:=(fC aj s (cF m z j)).2) hp ?_).2 (g _ _ n H);rw[y,xF];unfold fg;rw[aD (.inl rfl)];simp[jq,mz,tz,m_,nk,vO,vG,rF,fC]
theorem lU{f:Nat}{A:dT}{s m z:Nat}{rd:aF}{j:q_}(hp:aK S f A (.one (cF m z j)))(B:S.lone s=false)(n:rd=[]\/(RV.one (cF m z j)).alone)
  (x:∀(c:dI) aq w,cg s m z j (.one c) aq->(∀i,i≠s->aq i=aj i)->(w=[]\/w=[s])->qp S .all all os Q (dP h d (.one c)) aq (tr++[⟨rd++w,w,[]⟩])):sW S .all (.pc f A rd s) d all os Q h aj tr:=by
 obtain⟨y,H,g⟩:=zQ (aj:=aj) (s:=s) (m:=m) (z:=z) (j:=j);refine(fp (v:=.one (fC aj s (cF m z j)).1) (u:=(fC aj s (cF m z j)).2) hp ?_).2 (x _ _ _ y H g);rw[B,xF];unfold fg;rw[aD n];simp[jq,mz,m_,nk,vO,rF]
theorem aed{f:Nat}{A:dT}{s m z:Nat}{j:q_}{x:PV}(hp:aK S f A (.tup [.one (cF m z j),.one (.p x)]))(B:S.lone s=false)
  (g:∀(c:dI) aq w,cg s m z j (.one c) aq->(∀i,i≠s->aq i=aj i)->(w=[]\/w=[s])->qp S .all all os Q (dP h d (.tup [.one c,.one (.p x)])) aq (tr++[⟨[]++w,w,[]⟩])):sW S .all (.pc f A [] s) d all os Q h aj tr:=by
 obtain⟨n,H,y⟩:=zQ (aj:=aj) (s:=s) (m:=m) (z:=z) (j:=j);refine(fp (v:=.tup [.one (fC aj s (cF m z j)).1,.one (.p x)]) (u:=(fC aj s (cF m z j)).2) hp ?_).2 (g _ _ _ n H y);rw[B,xF];unfold fg;rw[aD (.inl rfl)];simp[jq,mz,tz,m_,nk,vO,vG,rF,fC]
theorem LQ{f:Nat}{A:dT}{s m z:Nat}{rd:aF}{j:q_}{x:PV}(hp:aK S f A (.agg [.p x,cF m z j]))(D:S.lone s=false)(g:x.scalar)(ae:(j.all λe=>e.all PV.scalar))
  (y:∀(c:dI) aq,cg (s+1) m z j (.one c) aq->(∀i,i≠s+1->aq i=aj i)->jI S .all os Q (dP h d (.agg [.p x,c])) aq):kn S .all (.pc f A rd s) d os Q h aj:=by
 obtain⟨B,H,_⟩:=zQ (aj:=aj) (s:=s+1) (m:=m) (z:=z) (j:=j);have n:(RV.agg [.p x,cF m z j]).alone:=by have a:=fN (m:=m) (z:=z) ae;simp only[RV.alone,mz,m_,vg,yF,AH]at a;simp only[RV.alone,mz,m_,vg,yF,AH,a];exact g
 refine(aU (v:=.agg [.p x,(fC aj (s+1) (cF m z j)).1]) (u:=(fC aj (s+1) (cF m z j)).2) hp ?_).2 (y _ _ B H);rw[D,xF];unfold fg;rw[aD (.inr n)];simp[jq,mz,m_,nk,vO,rF,fC]
theorem aa2{f:Nat}{A:dT}{s m z:Nat}{j:q_}{x y:PV}(hp:aK S f A (.tup [.agg [.p x,cF m z j],.one (.p y)]))(B:S.lone s=false)
  (g:∀(c:dI) aq,cg (s+1) m z j (.one c) aq->(∀i,i≠s+1->aq i=aj i)->jI S .all os Q (dP h d (.tup [.agg [.p x,c],.one (.p y)])) aq):kn S .all (.pc f A [] s) d os Q h aj:=by
 obtain⟨n,H,_⟩:=zQ (aj:=aj) (s:=s+1) (m:=m) (z:=z) (j:=j);refine(aU (v:=.tup [.agg [.p x,(fC aj (s+1) (cF m z j)).1],.one (.p y)]) (u:=(fC aj (s+1) (cF m z j)).2) hp ?_).2 (g _ _ n H);rw[B,xF];unfold fg;rw[aD (.inl rfl)];simp[jq,mz,tz,m_,nk,vO,vG,rF,fC]
theorem anq{f:Nat}{A:dT}{s m z:Nat}{rd:aF}{j:q_}{x y:PV}(hp:aK S f A (.tup [.agg [.p x,cF m z j],.one (.p y)]))(F:S.lone s=false)(n:x.scalar)(H:y.scalar)(ae:(j.all λe=>e.all PV.scalar))
  (D:∀(c:dI) aq,cg (s+1) m z j (.one c) aq->(∀i,i≠s+1->aq i=aj i)->jI S .all os Q (dP h d (.tup [.agg [.p x,c],.one (.p y)])) aq):kn S .all (.pc f A rd s) d os Q h aj:=by
 obtain⟨E,g,_⟩:=zQ (aj:=aj) (s:=s+1) (m:=m) (z:=z) (j:=j);have B:(RV.tup [.agg [.p x,cF m z j],.one (.p y)]).alone:=by have a:=fN (m:=m) (z:=z) ae;simp only[RV.alone,mz,m_,vg,yF,AH]at a;simp only[RV.alone,mz,tz,m_,Bv,iZ,rT,vg,yF,AH,a,sf];show(x.scalar&&y.scalar)=true;rw[n,H];rfl
 refine(aU (v:=.tup [.agg [.p x,(fC aj (s+1) (cF m z j)).1],.one (.p y)]) (u:=(fC aj (s+1) (cF m z j)).2) hp ?_).2 (D _ _ E g);rw[F,xF];unfold fg;rw[aD (.inr B)];simp[jq,mz,tz,m_,nk,vO,vG,rF,fC]
end
theorem LP{c:dI}{y:PV}{aj:aN}(h:cg s1 E D j (.one c) aj):iR aj (.tup [.agg [.p x,c],.one (.p y)])=some (.tup [.agg [.p x,cF E D j],.one (.p y)]):=by obtain⟨u,o,m,H,g⟩:=h.ij;cases m;have f:ij aj (.p x)=some (.p x,[],[]):=rfl;have n:ij aj (.p y)=some (.p y,[],[]):=rfl;rcases g with rfl|rfl<;>simp[iR,n_,vE,lX,kS,H,f,n,mg,pK,oh,EL]
section
variable {S:Sys} {al:cT} {Q:hs} {h:ct} {aj:aN} {os all:fI} {tr:gr} {d:eC} {op:sR} {w:Option Bool} {a b:aS} {v:V}
theorem ll(L:aF)(H:∀e:ct,(∀k∈L,e k=h k)->rR S al w d op os Q e aj):rR S al w d op os Q h aj:=H h λ_ _=>rfl
theorem tR(L:aF)(H:∀e:ct,(∀k∈L,e k=h k)->zr S al w d op all os Q e aj tr):zr S al w d op all os Q h aj tr:=H h λ_ _=>rfl
theorem aj1(L:aF)(H:∀e:ct,(∀k∈L,e k=h k)->yr S al v a b Q e aj):yr S al v a b Q h aj:=H h λ_ _=>rfl
end
section
variable {S:Sys} {al:cT} {Q:hs} {h:ct} {aj:aN} {os all:fI} {tr:gr} {d:eC} {op:sR} {a b:aS} {e w:Bool}
theorem oE(H:e->rR S al (some (true==w)) d op os Q h aj)(f:e=false->rR S al (some (false==w)) d op os Q h aj):rR S al (some (e==w)) d op os Q h aj:=by
 cases e
 .exact f rfl
 exact H rfl
theorem oO(H:e->rR S al (some (false==w)) d op os Q h aj)(f:e=false->rR S al (some (true==w)) d op os Q h aj):rR S al (some ((!e)==w)) d op os Q h aj:=by
 cases e
 .exact f rfl
 exact H rfl
theorem oj(H:e->zr S al (some (true==w)) d op all os Q h aj tr)(f:e=false->zr S al (some (false==w)) d op all os Q h aj tr):zr S al (some (e==w)) d op all os Q h aj tr:=by
 cases e
 .exact f rfl
 exact H rfl
theorem oK(H:e->zr S al (some (false==w)) d op all os Q h aj tr)(f:e=false->zr S al (some (true==w)) d op all os Q h aj tr):zr S al (some ((!e)==w)) d op all os Q h aj tr:=by
 cases e
 .exact f rfl
 exact H rfl
theorem oH(H:e->yr S al (.one (.p (.bool true))) a b Q h aj)(f:e=false->yr S al (.one (.p (.bool false))) a b Q h aj):yr S al (.one (.p (.bool e))) a b Q h aj:=by
 cases e
 .exact f rfl
 exact H rfl
theorem om(H:e->yr S al (.one (.p (.bool false))) a b Q h aj)(f:e=false->yr S al (.one (.p (.bool true))) a b Q h aj):yr S al (.one (.p (.bool (!e)))) a b Q h aj:=by
 cases e
 .exact f rfl
 exact H rfl
theorem akr{rd:aF}{s:Nat}{r:RV}(hp:aK S f A r)(m:fg aj rd s (r.fR (S.lone s))=some (v,u)):kn S al (.pc f A rd s) d os Q h aj↔al.iA (rd++u.map (·.1))=true/\jI S al os Q (dP h d v) (app u aj):=by
 constructor
 .rintro ⟨y,g,H⟩
  have:=g.Cn hp;subst this;rw[m]at H;exact H
 intro j;refine⟨_,hp,?_⟩;rw[m];exact j
theorem aah{rd:aF}{s:Nat}{r:RV}(hp:aK S f A r)(m:fg aj rd s (r.fR (S.lone s))=some (v,u)):sW S al (.pc f A rd s) d all os Q h aj tr↔al.iA (rd++u.map (·.1))=true/\qp S al all os Q (dP h d v) (app u aj) (tr++[⟨rd++u.map (·.1),u.map (·.1),[]⟩]):=by
 constructor
 .rintro ⟨y,g,H⟩
  have:=g.Cn hp;subst this;rw[m]at H;exact H
 intro j;refine⟨_,hp,?_⟩;rw[m];exact j
theorem aoc{s:Nat}(b:Bool):fg aj [] s ((RV.one (.p x)).fR b)=some (.one (.p x),[]):=by cases b<;>rfl
theorem ahj{s:Nat}(H:aK S f A (.one (.p x))):kn S al (.pc f A [] s) d os Q h aj↔jI S al os Q (dP h d (.one (.p x))) aj:=by rw[akr H (aoc _)];exact⟨λH=>H.2,λH=>⟨rfl,H⟩⟩
theorem abS{s:Nat}(H:aK S f A (.one (.p x))):sW S al (.pc f A [] s) d all os Q h aj tr↔qp S al all os Q (dP h d (.one (.p x))) aj (tr++[⟨[],[],[]⟩]):=by rw[aah H (aoc _)];exact⟨λH=>H.2,λH=>⟨rfl,H⟩⟩
end
theorem cg.GJ{c:dI}{aj:aN}(h:cg y m z j (.one c) aj):∃r,(∀B:aN,B y=aj y->Go.Abs.snap B Go.Abs.fA c=some (.sl j,r))/\(r=[]\/r=[y]):=by
 rcases h with⟨f,H⟩|⟨f,g,H,n⟩
 .cases H;exact⟨[],λB _=>by rw[f];rfl,.inl rfl⟩
 cases H;refine⟨[y],λB u=>?_,.inr rfl⟩;rw[<-u]at n;simp[Go.Abs.fA,Go.Abs.snap,n]
end
open Go
theorem ai0{aj:aN}{rd:aF}{s:Nat}{r:RV}(h:rd=[]\/r.alone):fg aj rd s r=some (jq aj s r):=by unfold fg;rw[aD h]
section
variable {S:Sys} {al:cT} {Q:hs} {os all:fI} {d:eC} {h:ct} {aj:aN} {tr:gr}
theorem ia{rd:aF}{s:Nat}{r:RV}(hp:aK S f A r)(lo:S.lone s=false)(H:rd=[]\/r.alone):kn S al (.pc f A rd s) d os Q h aj↔al.iA (rd++(jq aj s r).2.map (·.1))=true/\jI S al os Q (dP h d (jq aj s r).1) (app (jq aj s r).2 aj):=akr hp (by rw[lo,xF];exact ai0 H)
theorem vr{rd:aF}{s:Nat}{r:RV}(hp:aK S f A r)(lo:S.lone s=false)(H:rd=[]\/r.alone):sW S al (.pc f A rd s) d all os Q h aj tr↔al.iA (rd++(jq aj s r).2.map (·.1))=true/\qp S al all os Q (dP h d (jq aj s r).1) (app (jq aj s r).2 aj) (tr++[⟨rd++(jq aj s r).2.map (·.1),(jq aj s r).2.map (·.1),[]⟩]):=aah hp (by rw[lo,xF];exact ai0 H)
end
theorem ri{j:q_}(h:j≠[]):cF m z j=.own m z j:=aC h
theorem Wd:cF m z []=.p .nils:=aD rfl
theorem Qo{p:Nat->Prop}:(∀k∈([]:aF),p k)↔True:=by simp
theorem Nq{a:Nat}{l:aF}{p:Nat->Prop}:(∀k∈a::l,p k)↔p a/\ ∀k∈l,p k:=List.forall_mem_cons
attribute [go_sem] Qo Nq BT bne_self_eq_false Bool.or_true Bool.or_false Bool.true_or Bool.false_or Bool.not_not jq mz m_ tz fC nk vO rF vG Option.getD_some Option.getD_none Option.isSome_some Option.isSome_none
attribute [go_sem ↓] ayT azO avX aoq aAD aph auz aBp az9 aDs avB asY awM aBN aoV aBw aAA aCR aoj axg ayy ap3 aCN aCt aCj aDp
attribute [go_sem high] OL agE
attribute [go_sem] aCk ayQ aAb aBl awJ ayG ay4 aqz aBb avN aqM as4 avq aq9 cD awU apr asc asC apx atz ars at2 avh aAN awm acP auN aCY aom ayL aw7 aou ay7 auR apJ ada V8 acG aau av6 amF ard aCA aue aCF ao4 aCq ays ayJ avK List.map_nil List.append_nil List.map_cons List.cons_append List.nil_append List.drop_zero List.take_zero List.length_cons List.length_nil List.take_succ_cons List.drop_nil List.drop_succ_cons List.length_map List.take_nil List.flatten_cons List.getElem?_cons_zero List.getElem?_cons_succ List.all_nil List.all_cons List.not_mem_nil Option.map_some Bool.false_eq_true Bool.not_true Bool.not_false Bool.and_true Bool.and_false Bool.true_and Bool.false_and true_and and_true true_or or_true false_or or_false decide_true decide_false not_true_eq_false not_false_eq_true and_self Nat.le_refl Nat.zero_add Nat.mul_one Nat.zero_mul Nat.zero_le Nat.sub_zero Int.zero_add ak2 alx WK adE Bool.and_self cT.Hi
attribute [go_sem] c5 Rl Je FA Hr app if_true if_false reduceIte Nat.reduceEqDiff beq_self_eq_true reduceCtorEq ge_iff_le qJ RT By IY Nat.reduceAdd D_ tF Dw gn uM B7 ne_eq Nat.reduceLeDiff BE DC F4 D3 T4 Fx Nat.reduceMul Nat.reduceLT RO Rt
attribute [go_sem] js rZ vq uO pV Gs vh Nat.reduceSub Int.reduceLT Int.reduceAdd Int.reduceBEq Int.reduceBNe Int.reduceLE List.contains_eq_mem AM
end Go.Abs
