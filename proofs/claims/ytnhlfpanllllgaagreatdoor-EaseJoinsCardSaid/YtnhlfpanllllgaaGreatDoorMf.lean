/-
  Rules for a walk.
-/
import Derived.Test.YtnhlfpanllllgaaGreatDoorMc
import Derived.Attr
set_option linter.all false
open List renaming length->I
namespace Go.Abs
variable{X:eG}{g z M N f s1 E D F H m:Nat}{u:lA}{T:Nat->bn->aB->Prop}{Y:List (Nat×Option eh)}{R:V->aB->Prop}{A:dN}{L ao:aB}{Z:cG}{B:s_}
section
variable{x:PV}{f y m z:Nat}{A:dN}{j:s_}
theorem aEk(k:Nat):tM (.one (.p (.int .i64 (k:Int))))=some k:=by simp[tM]
theorem aFh(n:Nat):tM (.one (.p (.int .i64 (no_index (@OfNat.ofNat Int n instOfNat)))))=some (@OfNat.ofNat Nat n (instOfNatNat n)):=by show tM (.one (.p (.int .i64 (Int.ofNat n))))=some n;simp[tM]
theorem St{aj:aB}{v:PV}:snap aj ia (.p v)=some (v.norm,[]):=rfl
def We{β:Type}(x:Option (β×aG))(y:Option (List β×aG)):Option (List β×aG):=match x,y with
 |some (b,x),some (bs,y)=>some (b::bs,x++y)
 |_,_=>none
theorem aDt{β:Type}{b:β}{x:aG}{bs:List β}{y:aG}:We (some (b,x)) (some (bs,y))=some (b::bs,x++y):=rfl
theorem ayN{α β:Type}{f:α->Option (β×aG)}:ic f []=some ([],[]):=rfl
theorem aCW{α β:Type}{f:α->Option (β×aG)}{a:α}{r:List α}:ic f (a::r)=We (f a) (ic f r):=by simp only[ic,We];cases f a<;>cases ic f r<;>rfl
theorem ayQ{aj:aB}{c:c6}:pX aj (.one c)=(snap aj ia c).map λ(v,r)=>(.one (.p v),r):=rfl
theorem aqk{aj:aB}:pX aj (.agg X)=(ic (snap aj ia) X).map λ(A,r)=>(.agg (A.map .p),r):=rfl
theorem ari{aj:aB}{n:Nat}{v:PV}:snap aj (n+1) (.p v)=some (v.norm,[]):=rfl
def Sy(o:Nat×Option fZ)(h:List eG->Option (s_×aG))(id g M len:Nat):Option (PV×aG):=match o with
 |(f,some (.arr _ _ j))=>if f=g/\M+len<=I j then some (.sl ((j.drop M).take len),[id])else none
 |(f,some (.sk _ _ j))=>if f=g/\M+len<=I j then some (.sl ((j.drop M).take len),[id])else none
 |(f,some (.jw _ _ j))=>if f=g/\M+len<=I j then
   match h ((j.drop M).take len)with
   |some (ps,r)=>some (.sl ps,id::r)
   |none=>none
  else none
 |_=>none
theorem aAn{aj:aB}{id z len:Nat}:snap aj ia (.hsl id g z M len)=Sy (aj id) (ic (ic (snap aj 5))) id g M len:=by unfold ia Sy;rw[snap];rfl
def Sv(o:Nat×Option fZ)(f:eG->Option (b_×aG))(id g M:Nat):Option (PV×aG):=match o with
 |(h,some (.var X))=>if h=g then
   match f X with
   |some (ps,r)=>some (.box (ps.drop M),id::r)
   |none=>none
  else none
 |(h,some (.fvar ps))=>if h=g then some (.box (ps.drop M),[id])else none
 |_=>none
theorem asb{aj:aB}{id:Nat}:snap aj ia (.bh id g M)=Sv (aj id) (ic (snap aj 5)) id g M:=by unfold ia Sv;rw[snap];rfl
section
variable {S:Sys} {al:cG} {h:bn} {aj:aB} {d:eh}
theorem KB{rd:aG}{s:Nat}{b:Bool}(hs:x.scalar):eF aj rd s ((RV.one (.p x)).fi b)=some (.one (.p x),[]):=by
 have h:(RV.one (.p x)).fi b=.one (.p x):=by cases b<;>rfl
 rw[h];have:(RV.one (.p x)).alone:=by simp[RV.alone,iV,ja,kJ.alone,hs]
 simp only[eF,this,or_true,if_true];rfl
theorem aq3{rd:aG}{s:Nat}{bK:bn->aB->Prop}(m:aJ S f A (.one (.p x)))(hs:x.scalar):Kg S .all (.pc f A rd s) d h aj bK↔bK (dF h d (.one (.p x))) aj:=by
 constructor
 .rintro ⟨y,g,H⟩
  have:=g.yv m;subst this;rw[KB hs]at H;exact H.2
 intro j;refine⟨_,m,?_⟩;rw[KB hs];exact⟨cG.GJ _,j⟩
theorem aD2{rd:aG}{s:Nat}{tr:fU}{bK:bn->aB->fU->Prop}(m:aJ S f A (.one (.p x)))(hs:x.scalar):H8 S .all (.pc f A rd s) d h aj tr bK↔bK (dF h d (.one (.p x))) aj (tr++[⟨rd,[],[]⟩]):=by
 constructor
 .rintro ⟨y,g,H⟩
  have:=g.yv m;subst this;rw[KB hs]at H
  simpa [app]using H.2
 intro j;refine⟨_,m,?_⟩;rw[KB hs];exact⟨cG.GJ _,by simpa [app]using j⟩
theorem aDc{O:eZ}{Q:fM}:bP S al (.region true O) Q h aj↔rz S al O (λh aj j=>pK O [] j=true/\Q .normal h aj) h aj []:=by
 rw[ama];constructor
 .rintro ⟨n,e,b,j,f,H,g⟩;exact⟨n,e,b,j,f,H rfl,g⟩
 rintro⟨n,e,b,j,f,H,g⟩;exact⟨n,e,b,j,f,λ_=>H,g⟩
end
theorem wrap_small{n:Nat}(h:n<=9223372036854775807):IntKind.i64.wrap (n:Int)=n:=apj h
theorem cP{n:Nat}(h:n<9223372036854775807):IntKind.i64.wrap ((n:Int)+1)=((n+1:Nat):Int):=apj (n:=n+1) J
section
variable {S:Sys} {al:cG} {Q:fM} {h:bn} {aj:aB} {a b:aP} {O os all:eZ} {tr:fU} {d:eh} {op:rK} {n:Nat}
def vb(S:Sys)(al:cG)(b:aP)(Q:fM):fM
 | .normal,h,aj=>bP S al b Q h aj
 | .exit i,h,aj=>Q (.exit i) h aj
 | .ret,h,aj=>Q .ret h aj
theorem aFv:Mu (bP S al b Q) Q=vb S al b Q:=by funext e h aj;cases e<;>rfl
theorem aCD:bP S al (.seq a b) Q h aj↔bP S al a (vb S al b Q) h aj:=by rw[axg,aFv]
theorem asr:vb S al b Q .normal h aj=bP S al b Q h aj:=rfl
theorem aFA{i:Nat}:vb S al b Q (.exit i) h aj=Q (.exit i) h aj:=rfl
theorem aum:vb S al b Q .ret h aj=Q .ret h aj:=rfl
def xz (S:Sys)(al:cG)(v:V)(a b:aP)(Q:fM)(h:bn)(aj:aB):Prop:=Le v (bP S al a Q h aj) (bP S al b Q h aj)
theorem ayY{x:fu}:bP S al (.cond x a b) Q h aj↔xz S al (ev h x) a b Q h aj:=ax7
theorem aCp:xz S al (.one (.p (.bool true))) a b Q h aj=bP S al a Q h aj:=by simp[xz,Le]
theorem aFX:xz S al (.one (.p (.bool false))) a b Q h aj=bP S al b Q h aj:=by simp[xz,Le]
def iH (S:Sys)(al:cG)(O:eZ)(Q:fM)(h:bn)(aj:aB):Prop:=D4 S al O (λh aj=>Q .normal h aj) h aj
def iU (S:Sys)(al:cG)(p:A_)(d:eh)(os:eZ)(Q:fM)(h:bn)(aj:aB):Prop:=Kg S al p d h aj (D4 S al os λh aj=>Q .normal h aj)
def qZ (S:Sys)(al:cG)(w:Option Bool)(d:eh)(op:rK)(os:eZ)(Q:fM)(h:bn)(aj:aB):Prop:=Rt S al w ⟨d,op,none,0⟩ h aj (D4 S al os λh aj=>Q .normal h aj)
theorem atr:bP S al (.region false O) Q h aj↔iH S al O Q h aj:=aHs
theorem aGF:iH S al [] Q h aj↔Q .normal h aj:=avt
theorem avB:iH S al (⟨d,op,none,n⟩::os) Q h aj↔iU S al (cZ S.shared h aj op) d os Q h aj:=ami
theorem aq8{t:Nat}{w:Bool}:iH S al (⟨d,op,some (t,w),n⟩::os) Q h aj↔qZ S al (El (h t) w) d op os Q h aj:=by
 unfold iH qZ;rw[ami];have:s3 h (some (t,w))=El (h t) w:=rfl;simp only[this];cases El (h t) w with
 |none=>rfl
 |some x=>cases x<;>rfl
theorem ayG:qZ S al (some true) d op os Q h aj↔iU S al (cZ S.shared h aj op) d os Q h aj:=Iff.rfl
theorem aDX:qZ S al (some false) d op os Q h aj↔iH S al os Q (dF h d .undef) aj:=Iff.rfl
theorem NY{v:V}{r:aG}:iU S .all (.done v u r) d os Q h aj↔iH S .all os Q (dF h d v) (app u aj):=by show(cG.all.gH (r++u.map (·.1))/\_)↔_;rw[cG.GJ];exact⟨λH=>H.2,λH=>⟨rfl,H⟩⟩
theorem ahE{v:V}{r:aG}:iU S al (.done v u r) d os Q h aj↔al.gH (r++u.map (·.1))=true/\iH S al os Q (dF h d v) (app u aj):=Iff.rfl
theorem Wr{rd:aG}{s:Nat}(H:aJ S f A (.one (.p x)))(hs:x.scalar):iU S .all (.pc f A rd s) d os Q h aj↔iH S .all os Q (dF h d (.one (.p x))) aj:=aq3 H hs
theorem dP{rd:aG}{s:Nat}{k:IntKind}{x:Int}(H:aJ S f A (.one (.p (.int k x)))):iU S .all (.pc f A rd s) d os Q h aj↔iH S .all os Q (dF h d (.one (.p (.int k x)))) aj:=Wr H rfl
theorem aD{rd:aG}{s:Nat}{x:Bool}(H:aJ S f A (.one (.p (.bool x)))):iU S .all (.pc f A rd s) d os Q h aj↔iH S .all os Q (dF h d (.one (.p (.bool x)))) aj:=Wr H rfl
theorem sh{rd:aG}{s:Nat}{x:ByteArray}(H:aJ S f A (.one (.p (.str x)))):iU S .all (.pc f A rd s) d os Q h aj↔iH S .all os Q (dF h d (.one (.p (.str x)))) aj:=Wr H rfl
theorem a_{rd:aG}{s:Nat}{r:RV}{v:V}(hp:aJ S f A r)(m:eF aj rd s (r.fi (S.lone s))=some (v,u)):iU S .all (.pc f A rd s) d os Q h aj↔iH S .all os Q (dF h d v) (app u aj):=by
 constructor
 .rintro ⟨y,g,H⟩
  have:=g.yv hp;subst this;rw[m]at H;exact H.2
 intro j;refine⟨_,hp,?_⟩;rw[m];exact⟨cG.GJ _,j⟩
def n9 (S:Sys)(al:cG)(all O:eZ)(Q:fM)(h:bn)(aj:aB)(tr:fU):Prop:=rz S al O (λh aj j=>pK all [] j=true/\Q .normal h aj) h aj tr
def pM (S:Sys)(al:cG)(p:A_)(d:eh)(all os:eZ)(Q:fM)(h:bn)(aj:aB)(tr:fU):Prop:=H8 S al p d h aj tr (rz S al os λh aj j=>pK all [] j=true/\Q .normal h aj)
def yP (S:Sys)(al:cG)(w:Option Bool)(d:eh)(op:rK)(all os:eZ)(Q:fM)(h:bn)(aj:aB)(tr:fU):Prop:=Fq S al w ⟨d,op,none,0⟩ h aj tr (rz S al os λh aj j=>pK all [] j=true/\Q .normal h aj)
theorem aGw:bP S al (.region true O) Q h aj↔n9 S al O O Q h aj []:=aDc
theorem ayt:n9 S al all [] Q h aj tr↔pK all [] tr=true/\Q .normal h aj:=acf
theorem aB4:n9 S al all (⟨d,op,none,n⟩::os) Q h aj tr↔pM S al (cZ S.shared h aj op) d all os Q h aj tr:=RG
theorem aG9{t:Nat}{w:Bool}:n9 S al all (⟨d,op,some (t,w),n⟩::os) Q h aj tr↔yP S al (El (h t) w) d op all os Q h aj tr:=by
 unfold n9 yP;rw[RG];have:s3 h (some (t,w))=El (h t) w:=rfl;simp only[this];cases El (h t) w with
 |none=>rfl
 |some x=>cases x<;>rfl
theorem aFE:yP S al (some true) d op all os Q h aj tr↔pM S al (cZ S.shared h aj op) d all os Q h aj tr:=Iff.rfl
theorem ara:yP S al (some false) d op all os Q h aj tr↔n9 S al all os Q (dF h d .undef) aj (tr++[⟨[],[],[]⟩]):=Iff.rfl
theorem M_{v:V}{r:aG}:pM S .all (.done v u r) d all os Q h aj tr↔n9 S .all all os Q (dF h d v) (app u aj) (tr++[⟨r,u.map (·.1),[]⟩]):=by show(cG.all.gH (r++u.map (·.1))/\_)↔_;rw[cG.GJ];exact⟨λH=>H.2,λH=>⟨rfl,H⟩⟩
theorem agm{v:V}{r:aG}:pM S al (.done v u r) d all os Q h aj tr↔al.gH (r++u.map (·.1))=true/\n9 S al all os Q (dF h d v) (app u aj) (tr++[⟨r,u.map (·.1),[]⟩]):=Iff.rfl
theorem acE{rd:aG}{s:Nat}(H:aJ S f A (.one (.p x)))(hs:x.scalar):pM S .all (.pc f A rd s) d all os Q h aj tr↔n9 S .all all os Q (dF h d (.one (.p x))) aj (tr++[⟨rd,[],[]⟩]):=aD2 H hs
theorem ek{rd:aG}{s:Nat}{k:IntKind}{x:Int}(H:aJ S f A (.one (.p (.int k x)))):pM S .all (.pc f A rd s) d all os Q h aj tr↔n9 S .all all os Q (dF h d (.one (.p (.int k x)))) aj (tr++[⟨rd,[],[]⟩]):=acE H rfl
theorem dC{rd:aG}{s:Nat}{x:Bool}(H:aJ S f A (.one (.p (.bool x)))):pM S .all (.pc f A rd s) d all os Q h aj tr↔n9 S .all all os Q (dF h d (.one (.p (.bool x)))) aj (tr++[⟨rd,[],[]⟩]):=acE H rfl
theorem afB{rd:aG}{s:Nat}{x:ByteArray}(H:aJ S f A (.one (.p (.str x)))):pM S .all (.pc f A rd s) d all os Q h aj tr↔n9 S .all all os Q (dF h d (.one (.p (.str x)))) aj (tr++[⟨rd,[],[]⟩]):=acE H rfl
theorem ow{rd:aG}{s:Nat}{r:RV}{v:V}(hp:aJ S f A r)(m:eF aj rd s (r.fi (S.lone s))=some (v,u)):pM S .all (.pc f A rd s) d all os Q h aj tr↔n9 S .all all os Q (dF h d v) (app u aj) (tr++[⟨rd++u.map (·.1),u.map (·.1),[]⟩]):=by
 constructor
 .rintro ⟨y,g,H⟩
  have:=g.yv hp;subst this;rw[m]at H;exact H.2
 intro j;refine⟨_,hp,?_⟩;rw[m];exact⟨cG.GJ _,j⟩
def Iq(N:Nat)(T:Nat->bn->aB->Prop)(k:Nat)(Q:fM):fM:=Mu (λh aj=>k<N/\T (k+1) h aj) Q
theorem aHe{k:Nat}:Iq N T k Q .normal h aj=(k<N/\T (k+1) h aj):=rfl
theorem ayE{k i:Nat}:Iq N T k Q (.exit i) h aj=Q (.exit i) h aj:=rfl
theorem aBX{k:Nat}:Iq N T k Q .ret h aj=Q .ret h aj:=rfl
theorem c_{c:aP}(T:Nat->bn->aB->Prop)(f N:Nat)(H:f<=N)(g:T f h aj)
  (round:∀k h aj,k<=N->T k h aj->bP S al c (Iq N T k Q) h aj):bP S al (.loop c) Q h aj:=aE1 T f N H g round
def QF(R:V->aB->Prop)(aj:aB):Option dN->Prop
 |some A=>R (zY A) aj
 |none=>False
theorem aFu:ns al Y R .ret h aj=QF R aj (qD al h aj Y):=by simp only[ns,QF];cases qD al h aj Y<;>rfl
theorem aqu:ns al Y R .normal h aj=QF R aj (qD al h aj Y):=by simp only[ns,QF];cases qD al h aj Y<;>rfl
theorem aAJ{A:dN}:QF R aj (some A)=R (zY A) aj:=rfl
end
section
variable {S:Sys} {al:cG} {Q:fM} {h:bn} {aj:aB}
def VG(S:Sys)(al:cG)(c:aP)(Q:fM):fM
 | .normal,h,aj=>bP S al (.loop c) Q h aj
 | .exit i,h,aj=>Q (.exit i) h aj
 | .ret,h,aj=>Q .ret h aj
theorem ayd{c:aP}:VG S al c Q .normal h aj=bP S al (.loop c) Q h aj:=rfl
theorem aAE{c:aP}{i:Nat}:VG S al c Q (.exit i) h aj=Q (.exit i) h aj:=rfl
theorem awM{c:aP}:VG S al c Q .ret h aj=Q .ret h aj:=rfl
theorem mx{c:aP}(u:bP S al c (VG S al c Q) h aj):bP S al (.loop c) Q h aj:=by
 obtain⟨n,e,y,x,f,H⟩:=u;cases e with
 |normal=>obtain⟨m,e,D,B,g,j⟩:=H;refine⟨max n m+1,e,D,B,?_,j⟩;simp only[dJ]at g |-;simp only[lY];rw[AK S J f];exact Vj S J J g
 |exit i=>exact⟨n+1,_,_,_,by simp[dJ,lY,AK S (H4 n) f],H⟩
 |ret=>exact⟨n+1,_,_,_,by simp[dJ,lY,AK S (H4 n) f],H⟩
end
theorem je.yv{S:Sys}{A:dN}{al:cG}{aj:aB}{v g:V}{b:aB}(h:je S f A al aj v b)(j:je S f A al aj g L):v=g/\b=L:=by obtain⟨n,u⟩:=h;obtain⟨m,H⟩:=j;have a:=ML S (DB n m) _ _ _ _ _ u;have c:=ML S (ES n m) _ _ _ _ _ H;rw[a]at c;have:=lq c;exact⟨congrArg Prod.fst this,congrArg Prod.snd this⟩
section
variable {S:Sys} {al:cG} {Q:fM} {h:bn} {aj:aB} {os all:eZ} {tr:fU} {d:eh}
theorem F_:al.gH []:=rfl
theorem Gt{a:Nat}{l:aG}:al.gH (a::l)=(al.ok a&&al.gH l):=rfl
def dG(bK:Nat->Prop)(b L:aB):Prop:=∀id,¬bK id->L id=b id
theorem dG.refl(bK:Nat->Prop)(b:aB):dG bK b b:=λ_ _=>rfl
theorem dG.trans{bK:Nat->Prop}{a b c:aB}(h:dG bK a b)(f:dG bK b c):dG bK a c:=λid H=>(f id H).trans (h id H)
theorem dG.dE{bK:Nat->Prop}{b:aB}(h:dG bK b L){k:Nat}(f:bK k)(x:Nat×Option fZ):dG bK b (dE L k x):=λid H=>by rw[aT,aw (by rintro rfl;exact H f)];exact h id H
theorem aB5{v:V}(j:al.holds (f_ (S.ctx al) f A aj))(m:je S f A (f_ (S.ctx al) f A aj) aj v ao):iU S al (.sc f A) d os Q h aj↔iH S al os Q (dF h d v) ao:=by
 constructor
 .rintro ⟨_,u,B,g,H⟩
  obtain⟨rfl,rfl⟩:=m.yv g;exact H
 intro H;exact⟨j,v,ao,m,H⟩
theorem amm{rd:aG}{s:Nat}(u:aJ S f A (.one (.p x)))(hs:x.scalar):iU S al (.pc f A rd s) d os Q h aj↔al.gH (rd++[])=true/\iH S al os Q (dF h d (.one (.p x))) aj:=by
 constructor
 .rintro ⟨y,j,H⟩
  have:=j.yv u;subst this;rw[KB hs]at H;exact H
 rintro⟨g,m⟩
 refine⟨_,u,?_⟩;rw[KB hs];exact⟨g,m⟩
theorem PT{rd:aG}{s:Nat}{k:IntKind}{x:Int}(H:aJ S f A (.one (.p (.int k x)))):iU S al (.pc f A rd s) d os Q h aj↔al.gH (rd++[])=true/\iH S al os Q (dF h d (.one (.p (.int k x)))) aj:=amm H rfl
theorem aeV{rd:aG}{s:Nat}{x:Bool}(H:aJ S f A (.one (.p (.bool x)))):iU S al (.pc f A rd s) d os Q h aj↔al.gH (rd++[])=true/\iH S al os Q (dF h d (.one (.p (.bool x)))) aj:=amm H rfl
theorem aEe{f:Int->b_}(q:Int):∀(ids:cV) (i:Nat),sZ (.int .i64 q) (ids.map λid=>(PV.int .i64 id,f id)) i=some (if q∈ids then some (i+ids.idxOf q,f q)else none):=by
 intro ids
 induction ids with
 |nil=>intro i;rfl
 |cons a ids g=>
  intro i;simp only[eR,sZ,Dq,if_true];by_cases e:q=a
  .subst e;simp
  have j:(q==a)=false:=by simpa using e
  have e2:¬(a=q):=λh=>e h.symm;simp only[j];rw[g];simp only[dk,e,false_or,Wc,dI,e2,cond_false];by_cases h:q∈ids
  .have E:(a==q)=false:=by simpa using e2
   simp[h,E];omega
  simp[h]
theorem qq{f:Nat}{A:dN}{P:V->aB->Prop}(g:al.holds (f_ (S.ctx al) f A aj))(u:∃v ao,je S f A (f_ (S.ctx al) f A aj) aj v ao/\P v ao)
  (j:∀v ao,P v ao->iH S al os Q (dF h d v) ao):iU S al (.sc f A) d os Q h aj:=by
 obtain⟨v,ao,m,H⟩:=u;exact(aB5 g m).2 (j v ao H)
theorem uR:cG.all.holds Z:=rfl
theorem E9(h:al.gH Z.ids)(H:Z.fs.all al.fs.contains):al.holds Z:=by unfold cG.holds;rw[h,H];simp
theorem sP{id:Nat}(h:(S.sites f).contains (kO id)):(f_ (S.ctx al) f A aj).ok id:=by show(false||_||(S.sites f).contains (kO id))=true;rw[h];simp
theorem qf{id:Nat}(h:id∈(A.map (jA aj)).flatten):(f_ (S.ctx al) f A aj).ok id:=by
 show(false||(A.map (jA aj)).flatten.contains id||_)=true;have:(A.map (jA aj)).flatten.contains id:=by simpa using h
 rw[this];rfl
theorem LR{id g0 o:Nat}(h:aj id=(g0,some (.var X))):jA aj (.one (.bh id g o))=id::(X.map (l7 aj 5)).flatten:=by show l7 aj 6 (.bh id g o)=_;rw[l7,h]
theorem Jk{n:Nat}{v:PV}:l7 aj n (.p v)=[]:=by cases n<;>rfl
theorem DD{id g0 o l f n:Nat}(h:aj id=(g0,some (.arr m f j))):l7 aj (n+1) (.hsl id g z o l)=[id]:=by rw[l7,h]
def ads(x:Nat×Option fZ)(id g:Nat):Option (PV×aG):=match x with
 |(f,some (.map A j))=>if f=g then some (.mp A j,[id])else none
 |(f,some (.fmap A j))=>if f=g then some (.mp A j,[id])else none
 |_=>none
theorem ae0{n id:Nat}:snap aj (n+1) (.mS id g)=ads (aj id) id g:=by rw[snap];rfl
end
def aY(y m z:Nat)(j:s_)(v:V)(aj:aB):Prop:=(j=[]/\v=.one (.p .nils))\/(j≠[]/\ ∃g,v=.one (.hsl y g z 0 (I j))/\aj y=(g,some (.arr m z j)))
def aX(m z:Nat)(j:s_):kJ:=if j=[]then .p .nils else .own m z j
theorem aY.of_eq{v:V}{aj:aB}(h:aY y m z j v aj)(u:ao y=aj y):aY y m z j v ao:=by
 rcases h with h|⟨f,g,H,x⟩
 .exact .inl h
 exact .inr ⟨f,g,H,by rw[u,x]⟩
theorem aY.nil{aj:aB}:aY y m z [] (.one (.p .nils)) aj:=.inl ⟨rfl,rfl⟩
theorem aY.gR{v:V}{aj:aB}(h:aY y m z j v aj):∃c o,v=.one c/\gR aj c=some (aX m z j,o,[])/\(o=[]\/o=[y]):=by
 rcases h with⟨f,H⟩|⟨f,g,H,u⟩
 .exact⟨.p .nils,[],H,by simp[Go.Abs.gR,aX,f],.inl rfl⟩
 refine⟨_,[y],H,?_,.inr rfl⟩;simp only[Go.Abs.gR,u,and_self,cT,if_true,jN,aX,aw f]
theorem uX{v:V}{aj:aB}(h:aY y m z j v aj):gr aj v=some (.one (aX m z j)):=by
 obtain⟨c,o,rfl,H,f⟩:=h.gR;rcases f with rfl|rfl
 .simp[gr,nx,k5,kj,H,lG,pB,nD]
 simp[gr,nx,k5,kj,H,lG,pB,nD]
theorem Kl{f:Nat}{fs:s_}{v w:V}{aj:aB}(hs:s1≠f)(h:aY s1 E D j v aj)(m:aY f F H fs w aj):gr aj (.tup [v,w])=some (.tup [.one (aX E D j),.one (aX F H fs)]):=by obtain⟨c,o,rfl,x,y⟩:=h.gR;obtain⟨d,q,rfl,g,u⟩:=m.gR;rcases y with rfl|rfl<;>rcases u with rfl|rfl<;>simp[gr,nx,tH,k5,kj,x,g,lG,pB,nD,zu,hs]
theorem aY.elems{v:V}{aj:aB}(h:aY y m z j v aj):∃r,fz aj v=some (j,r,[])/\(r=[]\/r=[y]):=by
 rcases h with⟨f,H⟩|⟨f,g,H,u⟩
 .exact⟨[],by rw[H,f];rfl,.inl rfl⟩
 refine⟨[y],?_,.inr rfl⟩;rw[H];simp[fz,u]
theorem aY.qc{v:V}{aj:aB}(h:aY y m z j v aj):j=[]\/qc v=some z:=by
 rcases h with⟨H,f⟩|⟨H,g,f,u⟩
 .exact .inl H
 exact .inr (by rw[f];rfl)
theorem aY.au{v:V}{aj:aB}(h:aY y m z j v aj):Go.Abs.qc v=some z\/au z j:=by
 rcases h.qc with h|h
 .exact .inr (by rw[h];rfl)
 exact .inl h
theorem aY.len{v:V}{aj:aB}(h:aY y m z j v aj):BP v=some (I j):=by
 rcases h with⟨f,H⟩|⟨f,g,H,u⟩
 .rw[f,H];rfl
 rw[H];rfl
theorem aY.snap{v:V}{aj:aB}(h:aY y m z j v aj):∃r,pX aj v=some (.one (.p (.sl j)),r)/\(r=[]\/r=[y]):=by
 rcases h with⟨f,H⟩|⟨f,g,H,u⟩
 .exact⟨[],by rw[H,f];rfl,.inl rfl⟩
 refine⟨[y],?_,.inr rfl⟩;rw[H];simp[pX,ia,Go.Abs.snap,u]
theorem aY.acT{c:c6}{aj:aB}(h:aY y m z j (.one c) aj){n:Nat}:∃r,Go.Abs.snap aj (n+1) c=some (.sl j,r)/\(r=[]\/r=[y]):=by
 rcases h with⟨f,H⟩|⟨f,g,H,u⟩
 .cases H;exact⟨[],by rw[f];rfl,.inl rfl⟩
 refine⟨[y],?_,.inr rfl⟩;cases H;simp[Go.Abs.snap,u]
section
variable {S:Sys} {al:cG} {Q:fM} {h:bn} {aj:aB} {os all:eZ} {tr:fU} {d:eh}
theorem Ui{id bytes:Nat}{v x:V}{rd:aG}(N:aY id m z j v aj)(f:fz aj x=some (B,rd,[]))(Q:qc x=some z\/au z B)(F:(I j+I B)*bytes<=140737488355328):
  ∃E u r,af aj y m z bytes v x=.done E u r/\aY y m z (j++B) E (app u aj)/\(∀i,i≠y->i≠id->app u aj i=aj i)/\(r=rd/\u.map (·.1)=[]\/r=y::rd/\u.map (·.1)=[y]\/r=y::id::rd/\u.map (·.1)=[id,y]):=by
 have A:¬¬(qc x=some z\/au z B):=λh=>h Q;rcases N with⟨rfl,rfl⟩|⟨O,g,rfl,L⟩
 .by_cases H:B=[]
  .subst H;refine⟨.one (.p .nils),[],rd,?_,.inl ⟨rfl,rfl⟩,λi _ _=>rfl,.inl ⟨rfl,rfl⟩⟩;simp[af,f,A,t_,vV]
  have hl:¬I B=0:=by simpa using H
  have T:I B*bytes<=mi:=by simpa [mi]using F
  refine⟨.one (.hsl y ((aj y).1+1) z 0 (I B)),[(y,((aj y).1+1,some (.arr m z B)))],y::rd,?_,.inr ⟨by simpa using H,(aj y).1+1,aQ,?_⟩,λi D _=>?_,.inr (.inl ⟨rfl,rfl⟩)⟩
  .simp only[af,f,aw A,t_,vV,aw hl,aH T];simp
  .simp[app,aT]
  simp[app,aT,D]
 have T:(I j+I B)*bytes<=mi:=by simpa [mi]using F
 refine⟨.one (.hsl y ((aj y).1+1) z 0 (I j+I B)),[(id,(g,none)),(y,((aj y).1+1,some (.arr m z (j++B))))],y::id::rd,?_,.inr ⟨by simp[O],(aj y).1+1,aQ,?_⟩,λi D M=>?_,.inr (.inr ⟨rfl,rfl⟩)⟩
 .simp only[af,f,aw A,t_,vV,L];simp[T]
 .simp[app,aT]
 simp[app,aT,D,M]
theorem l_{id y m z bytes:Nat}{j:s_}{v x:V}{rd:aG}(A:aY id m z j v aj)(D:fz aj x=some (B,rd,[]))(L:qc x=some z\/au z B)(f:(I j+I B)*bytes<=140737488355328)
  (E:∀(c:c6) ao,aY y m z (j++B) (.one c) ao->(∀i,i≠y->i≠id->ao i=aj i)->iH S .all os Q (dF h d (.one c)) ao):iU S .all (af aj y m z bytes v x) d os Q h aj:=by
 obtain⟨M,u,r,F,H,g,_⟩:=Ui A D L f;obtain⟨c,o,rfl,_⟩:=H.gR;rw[F,NY];exact E _ _ H g
theorem nP{id y m z bytes:Nat}{j:s_}{v x:V}{rd:aG}(A:aY id m z j v aj)(D:fz aj x=some (B,rd,[]))(M:qc x=some z\/au z B)(f:(I j+I B)*bytes<=140737488355328)
  (F:∀(c:c6) ao r w,aY y m z (j++B) (.one c) ao->(∀i,i≠y->i≠id->ao i=aj i)->(r=rd/\w=[]\/r=y::rd/\w=[y]\/r=y::id::rd/\w=[id,y])->n9 S .all all os Q (dF h d (.one c)) ao (tr++[⟨r,w,[]⟩])):pM S .all (af aj y m z bytes v x) d all os Q h aj tr:=by
 obtain⟨N,u,r,L,H,g,E⟩:=Ui A D M f;obtain⟨c,o,rfl,_⟩:=H.gR;rw[L,M_];exact F _ _ _ _ H g E
theorem tZ{s:Nat}:aY s m z j (.one (d_ aj s (aX m z j)).1) (app (d_ aj s (aX m z j)).2 aj)/\(∀i,i≠s->app (d_ aj s (aX m z j)).2 aj i=aj i)/\((d_ aj s (aX m z j)).2.map (·.1)=[]\/(d_ aj s (aX m z j)).2.map (·.1)=[s]):=by
 unfold aX;by_cases h:j=[]
 .rw[aH h];exact⟨.inl ⟨h,rfl⟩,λi _=>rfl,.inl rfl⟩
 rw[aw h];exact⟨.inr ⟨h,(aj s).1+1,rfl,by simp[d_,app,aT]⟩,λi H=>by simp[d_,app,aT,H],.inr rfl⟩
theorem uD(r:RV):r.fi false=r:=rfl
theorem qW{f:Nat}{A:dN}{s m z:Nat}{rd:aG}{j:s_}(hp:aJ S f A (.one (aX m z j)))(F:S.lone s=false)(T:rd=[]\/(RV.one (aX m z j)).alone)
  (g:∀(c:c6) ao,aY s m z j (.one c) ao->(∀i,i≠s->ao i=aj i)->iH S .all os Q (dF h d (.one c)) ao):iU S .all (.pc f A rd s) d os Q h aj:=by
 obtain⟨x,H,_⟩:=tZ (aj:=aj) (s:=s) (m:=m) (z:=z) (j:=j);refine(a_ (v:=.one (d_ aj s (aX m z j)).1) (u:=(d_ aj s (aX m z j)).2) hp ?_).2 (g _ _ x H);rw[F,uD];unfold eF;rw[aH T];simp[jf,iV,ja,kC,sJ,ox]
theorem Mf{f:Nat}{A:dN}{s:Nat}{j fs:s_}(hp:aJ S f A (.tup [.one (aX E D j),.one (aX F H fs)]))(T:S.lone s=false)
  (O:∀(c e:c6) ao,aY s E D j (.one c) ao->aY (s+1) F H fs (.one e) ao->(∀i,i≠s->i≠s+1->ao i=aj i)->iH S .all os Q (dF h d (.tup [.one c,.one e])) ao):iU S .all (.pc f A [] s) d os Q h aj:=by
 obtain⟨R,M,_⟩:=tZ (aj:=aj) (s:=s) (m:=E) (z:=D) (j:=j);have N:∀(b L:aB) (k:Nat) (r:kJ),L k=b k->d_ b k r=d_ L k r:=by
  intro b L k r Z;cases r with
  |p v=>rfl
  |own m Y j=>simp only[d_,Z]
 have e2:d_ aj (s+1) (aX F H fs)=d_ (app (d_ aj s (aX E D j)).2 aj) (s+1) (aX F H fs):=N _ _ _ _ (M (s+1) J);obtain⟨B,y,_⟩:=tZ (aj:=app (d_ aj s (aX E D j)).2 aj) (s:=s+1) (m:=F) (z:=H) (j:=fs);rw[<-e2]at B y;have g:∀(a b:lA) (c:aB),app (a++b) c=app b (app a c):=by
  intro a
  induction a with
  |nil=>intro b c;rfl
  |cons x a X=>intro b c;exact X b _
 refine(a_ (v:=.tup [.one (d_ aj s (aX E D j)).1,.one (d_ aj (s+1) (aX F H fs)).1]) (u:=(d_ aj s (aX E D j)).2++(d_ aj (s+1) (aX F H fs)).2) hp ?_).2 (O _ _ _ ?_ ?_ ?_)
 .rw[T,uD];unfold eF;rw[aH (.inl rfl)];simp[jf,iV,oL,ja,kC,sJ,ti,ox]
 .rw[g];exact R.of_eq (y s J)
 .rw[g];exact B
 intro i a b;rw[g,y i b,M i a]
end
theorem pA(h:(j.all λe=>e.all PV.scalar)):(RV.one (aX m z j)).alone:=by
 unfold aX;split
 .rfl
 simp[RV.alone,iV,ja,kJ.alone,h]
theorem aY.ia{c:c6}{aj:aB}(h:aY y m z j (.one c) aj):∃r,Go.Abs.snap aj Go.Abs.ia c=some (.sl j,r)/\(r=[]\/r=[y]):=h.acT
def rh(aj:aB)(r:aG):Prop:=∀i∈r,∃g m z j,aj i=(g,some (.arr m z j))
theorem rh.nil{aj:aB}:rh aj []:=λ_ h=>by simp at h
theorem rh.app{aj:aB}{a b:aG}(h:rh aj a)(k:rh aj b):rh aj (a++b):=λi H=>by
 rcases fc.1 H with H|H
 .exact h i H
 exact k i H
theorem aY.Rj{c:c6}{aj:aB}(h:aY y m z j (.one c) aj):∃r,Go.Abs.snap aj Go.Abs.ia c=some (.sl j,r)/\rh aj r/\(r=[]\/r=[y]):=by
 rcases h with⟨f,H⟩|⟨f,g,H,u⟩
 .cases H;exact⟨[],by rw[f];rfl,rh.nil,.inl rfl⟩
 refine⟨[y],?_,λi x=>?_,.inr rfl⟩
 .cases H;simp[Go.Abs.snap,Go.Abs.ia,u]
 rw[kV]at x;subst x;exact⟨_,_,_,_,u⟩
theorem abE{aj:aB}(all:aG):∀r:aG,rh aj r->∃f,vV aj all r=some f/\f.map (·.1)=r:=by
 intro r
 induction r with
 |nil=>intro _;exact⟨[],rfl,rfl⟩
 |cons i r y=>intro h;obtain⟨g,m,z,j,u⟩:=h i aQ;obtain⟨f,A,H⟩:=y λB x=>h B (by simp[x]);refine⟨(i,(g,some (.sk m z j)))::f,?_,by simp[H]⟩;simp[vV,zC,u,A]
theorem H6:∀(u:lA) (b:aB) (i:Nat),i∉u.map (·.1)->app u b i=b i:=by
 intro u
 induction u with
 |nil=>intro b i _;rfl
 |cons x u f=>intro b i h;simp only[eR,dk,vW]at h;show app u (dE b x.1 x.2) i=b i;rw[f _ _ h.2,aT,aw h.1]
theorem Bd:∀(a b:lA) (c:aB),app (a++b) c=app b (app a c):=by
 intro a
 induction a with
 |nil=>intro b c;rfl
 |cons x a f=>intro b c;exact f b _
section
variable {S:Sys} {al:cG} {Q:fM} {h:bn} {aj:aB} {os all:eZ} {tr:fU} {d:eh}
theorem akP{id y m z bytes:Nat}{j:s_}{v x:V}{rd fr:aG}(Z:aY id m z j v aj)(F:fz aj x=some (B,rd,fr))(mz:rh aj fr)(L:id∉fr)(gQ:y∉fr)(hz:qc x=some z\/au z B)(O:(I j+I B)*bytes<=140737488355328)
  (E:∀(c:c6) ao,aY y m z (j++B) (.one c) ao->(∀i,i≠y->i≠id->i∉fr->ao i=aj i)->iH S .all os Q (dF h d (.one c)) ao):iU S .all (af aj y m z bytes v x) d os Q h aj:=by
 have T:¬¬(qc x=some z\/au z B):=λab=>ab hz;obtain⟨f,Y,N⟩:=abE fr fr mz;have A:t_ aj fr=some f:=Y;rcases Z with⟨rfl,rfl⟩|⟨aN,g,rfl,R⟩
 .by_cases u:B=[]
  .subst u;have:af aj y m z bytes (.one (.p .nils)) x=.done (.one (.p .nils)) f (rd++fr):=by simp[af,F,T,A]
   rw[this,NY];exact E _ _ (.inl ⟨rfl,rfl⟩) λi _ _ H=>H6 _ _ _ (by rw[N];exact H)
  have hl:¬I B=0:=by simpa using u
  have M:I B*bytes<=mi:=by simpa [mi]using O
  have:af aj y m z bytes (.one (.p .nils)) x=.done (.one (.hsl y ((aj y).1+1) z 0 (I B))) (f++[(y,((aj y).1+1,some (.arr m z B)))]) (y::rd++fr):=by simp only[af,F,aw T,A,aw hl,aH M]
  rw[this,NY];refine E _ _ (.inr ⟨by simpa using u,(aj y).1+1,aQ,?_⟩) λi D _ H=>?_
  .rw[Bd];simp[app,aT]
  rw[Bd];have:=H6 f aj i (by rw[N];exact H);simp[app,aT,D,this]
 have M:(I j+I B)*bytes<=mi:=by simpa [mi]using O
 have L2:fr.contains id=false:=by simpa using L
 have:af aj y m z bytes (.one (.hsl id g z 0 (I j))) x=.done (.one (.hsl y ((aj y).1+1) z 0 (I j+I B))) (f++[(id,(g,none)),(y,((aj y).1+1,some (.arr m z (j++B))))]) (y::id::rd++fr):=by simp only[af,F,aw T,A,R,L2];simp[M]
 rw[this,NY];refine E _ _ (.inr ⟨by simp[aN],(aj y).1+1,aQ,?_⟩) λi D X H=>?_
 .rw[Bd];simp[app,aT]
 rw[Bd];have:=H6 f aj i (by rw[N];exact H);simp[app,aT,D,X,this]
theorem ave{f:Nat}{A:dN}{s:Nat}{rd:aG}{j fs:s_}(hp:aJ S f A (.tup [.one (aX E D j),.one (aX F H fs)]))(x:S.lone s=false)
  (N:(j.all λe=>e.all PV.scalar)) (B:(fs.all λe=>e.all PV.scalar))
  (O:∀(c e:c6) ao,aY s E D j (.one c) ao->aY (s+1) F H fs (.one e) ao->(∀i,i≠s->i≠s+1->ao i=aj i)->iH S .all os Q (dF h d (.tup [.one c,.one e])) ao):iU S .all (.pc f A rd s) d os Q h aj:=by
 have L:(RV.tup [.one (aX E D j),.one (aX F H fs)]).alone:=by have a:=pA (m:=E) (z:=D) N;have b:=pA (m:=F) (z:=H) B;simp only[RV.alone,iV,ja,mN,oc,r5]at a b;simp[RV.alone,iV,oL,ja,a,b]
 have R:iU S .all (.pc f A [] s) d os Q h aj:=Mf hp x O;obtain⟨y,u,g⟩:=R;refine⟨y,u,?_⟩;have:=u.yv hp;subst this;rw[x,uD]at g |-;unfold eF at g |-;rw[aH (.inl rfl)]at g;rw[aH (.inr L)];obtain⟨_,M⟩:=g;exact⟨cG.GJ _,M⟩
end
theorem PO{a i:Nat}{l:aG}(H:i∈l)(h:a∉l):i≠a:=λe=>h (e▸H)
section
variable {S:Sys} {al:cG} {Q:fM} {h:bn} {aj:aB} {os all:eZ} {tr:fU} {d:eh}
theorem DX{l:aG}(h:∀i∈l,al.ok i):al.gH l:=jP.2 h
theorem UT{id y m z bytes:Nat}{j:s_}{v x:V}{rd:aG}(T:∀i∈y::id::rd,al.ok i)(D:aY id m z j v aj)(R:fz aj x=some (B,rd,[]))(M:qc x=some z\/au z B)(N:(I j+I B)*bytes<=140737488355328)
  (F:∀(c:c6) ao,aY y m z (j++B) (.one c) ao->(∀i,i≠y->i≠id->ao i=aj i)->iH S al os Q (dF h d (.one c)) ao):iU S al (af aj y m z bytes v x) d os Q h aj:=by
 obtain⟨X,u,r,L,A,O,E⟩:=Ui D R M N;obtain⟨c,o,rfl,_⟩:=A.gR;rw[L,ahE];refine⟨?_,F _ _ A O⟩;rcases E with⟨rfl,g⟩|⟨rfl,g⟩|⟨rfl,g⟩<;>rw[g]<;>refine DX λi H=>T i ?_ <;>simp at H |-
 .exact .inr (.inr H)
 .rcases H with f|f|f<;>simp[f]
 rcases H with f|f|f|f|f<;>simp[f]
theorem HY{id y m z bytes:Nat}{j:s_}{v x:V}{rd:aG}(T:∀i∈y::id::rd,al.ok i)(E:aY id m z j v aj)(R:fz aj x=some (B,rd,[]))(M:qc x=some z\/au z B)(N:(I j+I B)*bytes<=140737488355328)
  (F:∀(c:c6) ao r w,aY y m z (j++B) (.one c) ao->(∀i,i≠y->i≠id->ao i=aj i)->(r=rd/\w=[]\/r=y::rd/\w=[y]\/r=y::id::rd/\w=[id,y])->n9 S al all os Q (dF h d (.one c)) ao (tr++[⟨r,w,[]⟩])):pM S al (af aj y m z bytes v x) d all os Q h aj tr:=by
 obtain⟨X,u,r,L,A,O,D⟩:=Ui E R M N;obtain⟨c,o,rfl,_⟩:=A.gR;rw[L,agm];refine⟨?_,F _ _ _ _ A O D⟩;rcases D with⟨rfl,g⟩|⟨rfl,g⟩|⟨rfl,g⟩<;>rw[g]<;>refine DX λi H=>T i ?_ <;>simp at H |-
 .exact .inr (.inr H)
 .rcases H with f|f|f<;>simp[f]
 rcases H with f|f|f|f|f<;>simp[f]
theorem azw{y m z bytes:Nat}{x:V}{rd:aG}(E:∀i∈y::rd,al.ok i)(H:fz aj x=some (B,rd,[]))(A:B≠[])(F:qc x=some z\/au z B)(f:I B*bytes<=140737488355328)
  (D:∀(c:c6) ao r w,aY y m z B (.one c) ao->(∀i,i≠y->i≠y->ao i=aj i)->(r=rd/\w=[]\/r=y::rd/\w=[y]\/r=y::y::rd/\w=[y,y])->n9 S al all os Q (dF h d (.one c)) ao (tr++[⟨r,w,[]⟩])):pM S al (af aj y m z bytes (.one (.p .zs)) x) d all os Q h aj tr:=by
 have u:I B≠0:=λL=>A (uE.1 L);have e:af aj y m z bytes (.one (.p .zs)) x=af aj y m z bytes (.one (.p .nils)) x:=by simp only[af,H,u,if_false]
 rw[e];exact HY (id:=y) (j:=[]) (λi g=>E i (by simpa using g)) aY.nil H F (by simpa using f) D
theorem ar1{f:Nat}{A:dN}{s:Nat}{rd:aG}{j fs:s_}(aA:∀i∈s::(s+1)::rd,al.ok i)(hp:aJ S f A (.tup [.one (aX E D j),.one (aX F H fs)]))(Z:S.lone s=false)
  (jU:(j.all λe=>e.all PV.scalar)) (R:(fs.all λe=>e.all PV.scalar))
  (T:∀(c e:c6) ao,aY s E D j (.one c) ao->aY (s+1) F H fs (.one e) ao->(∀i,i≠s->i≠s+1->ao i=aj i)->iH S al os Q (dF h d (.tup [.one c,.one e])) ao):iU S al (.pc f A rd s) d os Q h aj:=by
 have Y:(RV.tup [.one (aX E D j),.one (aX F H fs)]).alone:=by have a:=pA (m:=E) (z:=D) jU;have b:=pA (m:=F) (z:=H) R;simp only[RV.alone,iV,ja,mN,oc,r5]at a b;simp[RV.alone,iV,oL,ja,a,b]
 obtain⟨X,N,x⟩:=tZ (aj:=aj) (s:=s) (m:=E) (z:=D) (j:=j);have O:∀(b L:aB) (k:Nat) (r:kJ),L k=b k->d_ b k r=d_ L k r:=by
  intro b L k r B;cases r with
  |p v=>rfl
  |own m sz j=>simp only[d_,B]
 have e2:d_ aj (s+1) (aX F H fs)=d_ (app (d_ aj s (aX E D j)).2 aj) (s+1) (aX F H fs):=O _ _ _ _ (N (s+1) J);obtain⟨M,y,u⟩:=tZ (aj:=app (d_ aj s (aX E D j)).2 aj) (s:=s+1) (m:=F) (z:=H) (j:=fs);rw[<-e2]at M y u;refine⟨_,hp,?_⟩;rw[Z,uD];have hl:eF aj rd s (RV.tup [.one (aX E D j),.one (aX F H fs)])=some (.tup [.one (d_ aj s (aX E D j)).1,.one (d_ aj (s+1) (aX F H fs)).1],(d_ aj s (aX E D j)).2++(d_ aj (s+1) (aX F H fs)).2):=by unfold eF;rw[aH (.inr Y)];simp[jf,iV,oL,ja,kC,sJ,ti,ox]
 rw[hl];refine⟨DX λi g=>aA i ?_,T _ _ _ ?_ ?_ ?_⟩
 .simp only[lU,fc]at g;rcases g with g|g|g
  .simp[g]
  .rcases x with B|B<;>rw[B]at g<;>simp at g<;>simp[g]
  rcases u with B|B<;>rw[B]at g<;>simp at g<;>simp[g]
 .rw[Bd];exact X.of_eq (y s J)
 .rw[Bd];exact M
 intro i a b;rw[Bd,y i b,N i a]
end
theorem bU{b:aB}{a i:Nat}{x:Nat×Option fZ}(h:i≠a):dE b a x i=b i:=by rw[aT,aw h]
theorem sW{b:aB}{a:Nat}{x:Nat×Option fZ}:dE b a x a=x:=by rw[aT,aH rfl]
theorem Tn{a i:Nat}{l:aG}(h:i∉l)(H:a∈l):i≠a:=λe=>h (e▸H)
section
variable {S:Sys} {al:cG} {Q:fM} {h:bn} {aj:aB} {os all:eZ} {tr:fU} {d:eh}
theorem akJ{f:Nat}{A:dN}{s m z:Nat}{j:s_}{x:PV}(hp:aJ S f A (.tup [.one (aX m z j),.one (.p x)]))(F:S.lone s=false)
  (g:∀(c:c6) ao,aY s m z j (.one c) ao->(∀i,i≠s->ao i=aj i)->iH S .all os Q (dF h d (.tup [.one c,.one (.p x)])) ao):iU S .all (.pc f A [] s) d os Q h aj:=by
 obtain⟨y,H,_⟩:=tZ (aj:=aj) (s:=s) (m:=m) (z:=z) (j:=j);refine(a_ (v:=.tup [.one (d_ aj s (aX m z j)).1,.one (.p x)]) (u:=(d_ aj s (aX m z j)).2) hp ?_).2 (g _ _ y H);rw[F,uD];unfold eF;rw[aH (.inl rfl)];simp[jf,iV,oL,ja,kC,sJ,ti,ox,d_]
theorem apD{f:Nat}{A:dN}{s m z:Nat}{rd:aG}{j:s_}(hp:aJ S f A (.one (aX m z j)))(F:S.lone s=false)(T:rd=[]\/(RV.one (aX m z j)).alone)
  (x:∀(c:c6) ao w,aY s m z j (.one c) ao->(∀i,i≠s->ao i=aj i)->(w=[]\/w=[s])->n9 S .all all os Q (dF h d (.one c)) ao (tr++[⟨rd++w,w,[]⟩])):pM S .all (.pc f A rd s) d all os Q h aj tr:=by
 obtain⟨y,H,g⟩:=tZ (aj:=aj) (s:=s) (m:=m) (z:=z) (j:=j);refine(ow (v:=.one (d_ aj s (aX m z j)).1) (u:=(d_ aj s (aX m z j)).2) hp ?_).2 (x _ _ _ y H g);rw[F,uD];unfold eF;rw[aH T];simp[jf,iV,ja,kC,sJ,ox]
theorem aCb{f:Nat}{A:dN}{s m z:Nat}{j:s_}{x:PV}(hp:aJ S f A (.tup [.one (aX m z j),.one (.p x)]))(F:S.lone s=false)
  (g:∀(c:c6) ao w,aY s m z j (.one c) ao->(∀i,i≠s->ao i=aj i)->(w=[]\/w=[s])->n9 S .all all os Q (dF h d (.tup [.one c,.one (.p x)])) ao (tr++[⟨[]++w,w,[]⟩])):pM S .all (.pc f A [] s) d all os Q h aj tr:=by
 obtain⟨y,H,B⟩:=tZ (aj:=aj) (s:=s) (m:=m) (z:=z) (j:=j);refine(ow (v:=.tup [.one (d_ aj s (aX m z j)).1,.one (.p x)]) (u:=(d_ aj s (aX m z j)).2) hp ?_).2 (g _ _ _ y H B);rw[F,uD];unfold eF;rw[aH (.inl rfl)];simp[jf,iV,oL,ja,kC,sJ,ti,ox,d_]
theorem Qc{f:Nat}{A:dN}{s m z:Nat}{rd:aG}{j:s_}{x:PV}(hp:aJ S f A (.agg [.p x,aX m z j]))(F:S.lone s=false)(y:x.scalar)(hs:(j.all λe=>e.all PV.scalar))
  (B:∀(c:c6) ao,aY (s+1) m z j (.one c) ao->(∀i,i≠s+1->ao i=aj i)->iH S .all os Q (dF h d (.agg [.p x,c])) ao):iU S .all (.pc f A rd s) d os Q h aj:=by
 obtain⟨D,H,_⟩:=tZ (aj:=aj) (s:=s+1) (m:=m) (z:=z) (j:=j);have g:(RV.agg [.p x,aX m z j]).alone:=by have a:=pA (m:=m) (z:=z) hs;simp only[RV.alone,iV,ja,mN,oc,r5]at a;simp only[RV.alone,iV,ja,mN,oc,r5,a];exact y
 refine(a_ (v:=.agg [.p x,(d_ aj (s+1) (aX m z j)).1]) (u:=(d_ aj (s+1) (aX m z j)).2) hp ?_).2 (B _ _ D H);rw[F,uD];unfold eF;rw[aH (.inr g)];simp[jf,iV,ja,kC,sJ,ox,d_]
theorem alN{f:Nat}{A:dN}{s m z:Nat}{j:s_}{x y:PV}(hp:aJ S f A (.tup [.agg [.p x,aX m z j],.one (.p y)]))(F:S.lone s=false)
  (g:∀(c:c6) ao,aY (s+1) m z j (.one c) ao->(∀i,i≠s+1->ao i=aj i)->iH S .all os Q (dF h d (.tup [.agg [.p x,c],.one (.p y)])) ao):iU S .all (.pc f A [] s) d os Q h aj:=by
 obtain⟨B,H,_⟩:=tZ (aj:=aj) (s:=s+1) (m:=m) (z:=z) (j:=j);refine(a_ (v:=.tup [.agg [.p x,(d_ aj (s+1) (aX m z j)).1],.one (.p y)]) (u:=(d_ aj (s+1) (aX m z j)).2) hp ?_).2 (g _ _ B H);rw[F,uD];unfold eF;rw[aH (.inl rfl)];simp[jf,iV,oL,ja,kC,sJ,ti,ox,d_]
theorem amN{f:Nat}{A:dN}{s m z:Nat}{rd:aG}{j:s_}{x y:PV}(hp:aJ S f A (.tup [.agg [.p x,aX m z j],.one (.p y)]))(F:S.lone s=false)(D:x.scalar)(H:y.scalar)(hs:(j.all λe=>e.all PV.scalar))
  (E:∀(c:c6) ao,aY (s+1) m z j (.one c) ao->(∀i,i≠s+1->ao i=aj i)->iH S .all os Q (dF h d (.tup [.agg [.p x,c],.one (.p y)])) ao):iU S .all (.pc f A rd s) d os Q h aj:=by
 obtain⟨L,g,_⟩:=tZ (aj:=aj) (s:=s+1) (m:=m) (z:=z) (j:=j);have B:(RV.tup [.agg [.p x,aX m z j],.one (.p y)]).alone:=by have a:=pA (m:=m) (z:=z) hs;simp only[RV.alone,iV,ja,mN,oc,r5]at a;simp only[RV.alone,iV,oL,ja,nA,fN,lg,mN,oc,r5,a,tg];show(x.scalar&&y.scalar)=true;rw[D,H];rfl
 refine(a_ (v:=.tup [.agg [.p x,(d_ aj (s+1) (aX m z j)).1],.one (.p y)]) (u:=(d_ aj (s+1) (aX m z j)).2) hp ?_).2 (E _ _ L g);rw[F,uD];unfold eF;rw[aH (.inr B)];simp[jf,iV,oL,ja,kC,sJ,ti,ox,d_]
end
theorem akQ{c:c6}{y:PV}{aj:aB}(h:aY s1 E D j (.one c) aj):gr aj (.tup [.agg [.p x,c],.one (.p y)])=some (.tup [.agg [.p x,aX E D j],.one (.p y)]):=by obtain⟨m,o,g,H,f⟩:=h.gR;cases g;have e1:gR aj (.p x)=some (.p x,[],[]):=rfl;have e2:gR aj (.p y)=some (.p y,[],[]):=rfl;rcases f with rfl|rfl<;>simp[gr,nx,tH,k5,kj,H,e1,e2,lG,pB,nD,zu]
section
variable {S:Sys} {al:cG} {Q:fM} {h:bn} {aj:aB} {os all:eZ} {tr:fU} {d:eh} {op:rK} {w:Option Bool} {a b:aP} {v:V}
theorem kr(L:aG)(H:∀e:bn,(∀k∈L,e k=h k)->qZ S al w d op os Q e aj):qZ S al w d op os Q h aj:=H h λ_ _=>rfl
theorem v7(L:aG)(H:∀e:bn,(∀k∈L,e k=h k)->yP S al w d op all os Q e aj tr):yP S al w d op all os Q h aj tr:=H h λ_ _=>rfl
theorem aok(L:aG)(H:∀e:bn,(∀k∈L,e k=h k)->xz S al v a b Q e aj):xz S al v a b Q h aj:=H h λ_ _=>rfl
end
section
variable {S:Sys} {al:cG} {Q:fM} {h:bn} {aj:aB} {os all:eZ} {tr:fU} {d:eh}
theorem ajF{id y m z bytes:Nat}{j:s_}{v x:V}{rd fr:aG}(Z:aY id m z j v aj)(L:fz aj x=some (B,rd,fr))(mz:rh aj fr)(M:id∉fr)(gQ:y∉fr)(hz:qc x=some z\/au z B)(O:(I j+I B)*bytes<=140737488355328)
  (F:∀(c:c6) ao r w,aY y m z (j++B) (.one c) ao->(∀i,i≠y->i≠id->i∉fr->ao i=aj i)->(r=rd++fr/\w=fr\/r=y::rd++fr/\w=fr++[y]\/r=y::id::rd++fr/\w=fr++[id,y])->n9 S .all all os Q (dF h d (.one c)) ao (tr++[⟨r,w,[]⟩])):pM S .all (af aj y m z bytes v x) d all os Q h aj tr:=by
 have T:¬¬(qc x=some z\/au z B):=λab=>ab hz;obtain⟨f,Y,A⟩:=abE fr fr mz;have D:t_ aj fr=some f:=Y;rcases Z with⟨rfl,rfl⟩|⟨aN,g,rfl,R⟩
 .by_cases u:B=[]
  .subst u;have:af aj y m z bytes (.one (.p .nils)) x=.done (.one (.p .nils)) f (rd++fr):=by simp[af,L,T,D]
   rw[this,M_];exact F _ _ _ _ (.inl ⟨rfl,rfl⟩) (λi _ _ H=>H6 _ _ _ (by rw[A];exact H)) (.inl ⟨rfl,A⟩)
  have hl:¬I B=0:=by simpa using u
  have N:I B*bytes<=mi:=by simpa [mi]using O
  have:af aj y m z bytes (.one (.p .nils)) x=.done (.one (.hsl y ((aj y).1+1) z 0 (I B))) (f++[(y,((aj y).1+1,some (.arr m z B)))]) (y::rd++fr):=by simp only[af,L,aw T,D,aw hl,aH N]
  rw[this,M_];refine F _ _ _ _ (.inr ⟨by simpa using u,(aj y).1+1,aQ,?_⟩) (λi E _ H=>?_) (.inr (.inl ⟨rfl,by simp[A]⟩))
  .rw[Bd];simp[app,aT]
  rw[Bd];have:=H6 f aj i (by rw[A];exact H);simp[app,aT,E,this]
 have N:(I j+I B)*bytes<=mi:=by simpa [mi]using O
 have L2:fr.contains id=false:=by simpa using M
 have:af aj y m z bytes (.one (.hsl id g z 0 (I j))) x=.done (.one (.hsl y ((aj y).1+1) z 0 (I j+I B))) (f++[(id,(g,none)),(y,((aj y).1+1,some (.arr m z (j++B))))]) (y::id::rd++fr):=by simp only[af,L,aw T,D,R,L2];simp[N]
 rw[this,M_];refine F _ _ _ _ (.inr ⟨by simp[aN],(aj y).1+1,aQ,?_⟩) (λi E X H=>?_) (.inr (.inr ⟨rfl,by simp[A]⟩))
 .rw[Bd];simp[app,aT]
 rw[Bd];have:=H6 f aj i (by rw[A];exact H);simp[app,aT,E,X,this]
theorem aBC{f:Nat}{A:dN}{s m z:Nat}{rd:aG}{j:s_}{x:PV}(hp:aJ S f A (.tup [.one (aX m z j),.one (.p x)]))(F:S.lone s=false)(hs:(j.all λe=>e.all PV.scalar))(y:x.scalar)
  (B:∀(c:c6) ao,aY s m z j (.one c) ao->(∀i,i≠s->ao i=aj i)->iH S .all os Q (dF h d (.tup [.one c,.one (.p x)])) ao):iU S .all (.pc f A rd s) d os Q h aj:=by
 obtain⟨D,H,_⟩:=tZ (aj:=aj) (s:=s) (m:=m) (z:=z) (j:=j);have g:(RV.tup [.one (aX m z j),.one (.p x)]).alone:=by have a:=pA (m:=m) (z:=z) hs;simp only[RV.alone,iV,ja,mN,oc,r5]at a;simp only[RV.alone,iV,oL,ja,nA,fN,lg,mN,oc,r5,a,tg];exact y
 refine(a_ (v:=.tup [.one (d_ aj s (aX m z j)).1,.one (.p x)]) (u:=(d_ aj s (aX m z j)).2) hp ?_).2 (B _ _ D H);rw[F,uD];unfold eF;rw[aH (.inr g)];simp[jf,iV,oL,ja,kC,sJ,ti,ox,d_]
end
section
variable {S:Sys} {al:cG} {Q:fM} {h:bn} {aj:aB} {os all:eZ} {tr:fU} {d:eh} {op:rK} {a b:aP} {e w:Bool}
theorem rC(H:e->qZ S al (some (true==w)) d op os Q h aj)(f:e=false->qZ S al (some (false==w)) d op os Q h aj):qZ S al (some (e==w)) d op os Q h aj:=by
 cases e
 .exact f rfl
 exact H rfl
theorem sd(H:e->qZ S al (some (false==w)) d op os Q h aj)(f:e=false->qZ S al (some (true==w)) d op os Q h aj):qZ S al (some ((!e)==w)) d op os Q h aj:=by
 cases e
 .exact f rfl
 exact H rfl
theorem rL(H:e->yP S al (some (true==w)) d op all os Q h aj tr)(f:e=false->yP S al (some (false==w)) d op all os Q h aj tr):yP S al (some (e==w)) d op all os Q h aj tr:=by
 cases e
 .exact f rfl
 exact H rfl
theorem r_(H:e->yP S al (some (false==w)) d op all os Q h aj tr)(f:e=false->yP S al (some (true==w)) d op all os Q h aj tr):yP S al (some ((!e)==w)) d op all os Q h aj tr:=by
 cases e
 .exact f rfl
 exact H rfl
theorem rY(H:e->xz S al (.one (.p (.bool true))) a b Q h aj)(f:e=false->xz S al (.one (.p (.bool false))) a b Q h aj):xz S al (.one (.p (.bool e))) a b Q h aj:=by
 cases e
 .exact f rfl
 exact H rfl
theorem r7(H:e->xz S al (.one (.p (.bool false))) a b Q h aj)(f:e=false->xz S al (.one (.p (.bool true))) a b Q h aj):xz S al (.one (.p (.bool (!e)))) a b Q h aj:=by
 cases e
 .exact f rfl
 exact H rfl
theorem MA{rd:aG}{s:Nat}{r:RV}{v:V}(hp:aJ S f A r)(m:eF aj rd s (r.fi (S.lone s))=some (v,u)):iU S al (.pc f A rd s) d os Q h aj↔al.gH (rd++u.map (·.1))=true/\iH S al os Q (dF h d v) (app u aj):=by
 constructor
 .rintro ⟨y,g,H⟩
  have:=g.yv hp;subst this;rw[m]at H;exact H
 intro j;refine⟨_,hp,?_⟩;rw[m];exact j
theorem JU{rd:aG}{s:Nat}{r:RV}{v:V}(hp:aJ S f A r)(m:eF aj rd s (r.fi (S.lone s))=some (v,u)):pM S al (.pc f A rd s) d all os Q h aj tr↔al.gH (rd++u.map (·.1))=true/\n9 S al all os Q (dF h d v) (app u aj) (tr++[⟨rd++u.map (·.1),u.map (·.1),[]⟩]):=by
 constructor
 .rintro ⟨y,g,H⟩
  have:=g.yv hp;subst this;rw[m]at H;exact H
 intro j;refine⟨_,hp,?_⟩;rw[m];exact j
theorem akq{s:Nat}(b:Bool):eF aj [] s ((RV.one (.p x)).fi b)=some (.one (.p x),[]):=by cases b<;>rfl
theorem G4{s:Nat}(H:aJ S f A (.one (.p x))):iU S al (.pc f A [] s) d os Q h aj↔iH S al os Q (dF h d (.one (.p x))) aj:=by rw[MA H (akq _)];exact⟨λH=>H.2,λH=>⟨rfl,H⟩⟩
theorem T2{s:Nat}(H:aJ S f A (.one (.p x))):pM S al (.pc f A [] s) d all os Q h aj tr↔n9 S al all os Q (dF h d (.one (.p x))) aj (tr++[⟨[],[],[]⟩]):=by rw[JU H (akq _)];exact⟨λH=>H.2,λH=>⟨rfl,H⟩⟩
end
theorem aY.xW{c:c6}{aj:aB}(h:aY y m z j (.one c) aj):∃r,(∀B:aB,B y=aj y->Go.Abs.snap B Go.Abs.ia c=some (.sl j,r))/\(r=[]\/r=[y]):=by
 rcases h with⟨f,H⟩|⟨f,g,H,u⟩
 .cases H;exact⟨[],λB _=>by rw[f];rfl,.inl rfl⟩
 cases H;refine⟨[y],λB x=>?_,.inr rfl⟩;rw[<-x]at u;simp[Go.Abs.ia,Go.Abs.snap,u]
end
open Go
theorem ajs{aj:aB}{rd:aG}{s:Nat}{r:RV}(h:rd=[]\/r.alone):eF aj rd s r=some (jf aj s r):=by unfold eF;rw[aH h]
section
variable {S:Sys} {al:cG} {Q:fM} {os all:eZ} {d:eh} {h:bn} {aj:aB} {tr:fU}
theorem ll{rd:aG}{s:Nat}{r:RV}(hp:aJ S f A r)(lo:S.lone s=false)(H:rd=[]\/r.alone):iU S al (.pc f A rd s) d os Q h aj↔al.gH (rd++(jf aj s r).2.map (·.1))=true/\iH S al os Q (dF h d (jf aj s r).1) (app (jf aj s r).2 aj):=MA hp (by rw[lo,uD];exact ajs H)
theorem Iz{rd:aG}{s:Nat}{r:RV}(hp:aJ S f A r)(lo:S.lone s=false)(H:rd=[]\/r.alone):pM S al (.pc f A rd s) d all os Q h aj tr↔al.gH (rd++(jf aj s r).2.map (·.1))=true/\n9 S al all os Q (dF h d (jf aj s r).1) (app (jf aj s r).2 aj) (tr++[⟨rd++(jf aj s r).2.map (·.1),(jf aj s r).2.map (·.1),[]⟩]):=JU hp (by rw[lo,uD];exact ajs H)
end
theorem vq{j:s_}(h:j≠[]):aX m z j=.own m z j:=aw h
theorem aeI:aX m z []=.p .nils:=aH rfl
theorem Vo{p:Nat->Prop}:(∀k∈([]:aG),p k)↔True:=by simp
theorem R3{a:Nat}{l:aG}{p:Nat->Prop}:(∀k∈a::l,p k)↔p a/\ ∀k∈l,p k:=List.forall_mem_cons
attribute [go_sem] Vo R3 AE bne_self_eq_false Bool.or_true Bool.or_false Bool.true_or Bool.false_or Bool.not_not jf iV ja oL d_ kC sJ ox ti Option.getD_some Option.getD_none Option.isSome_some Option.isSome_none
attribute [go_sem ↓] aCD atr aGw aFN ayY avB aq8 aGF aB4 aG9 ayt aB6 aHi aFJ asr aFA aum aHb ayn aqG aHe ayE aBX ayd aAE awM
attribute [go_sem high] NY M_
attribute [go_sem] aCp aFX ayG aDX aFE ara aq7 aCO axN aFC aF5 ar8 asg aya aT aug aC9 aFu aqu aAJ aDN atU aFM axl axC aDU ahu atQ aFd aAw aw3 aCv aDk azT aqB aC1 aFx aqD aD1 ayi aEk St aDt ayN aCW aqk aFh ayQ aAn asb ari List.map_nil List.append_nil List.map_cons List.cons_append List.nil_append List.drop_zero List.take_zero List.length_cons List.length_nil List.take_succ_cons List.drop_nil List.drop_succ_cons List.length_map List.take_nil List.flatten_cons List.getElem?_cons_zero List.getElem?_cons_succ List.all_nil List.all_cons List.not_mem_nil Option.map_some Bool.false_eq_true Bool.not_true Bool.not_false Bool.and_true Bool.and_false Bool.true_and Bool.false_and true_and and_true true_or or_true false_or or_false decide_true decide_false not_true_eq_false not_false_eq_true and_self Nat.le_refl Nat.zero_add Nat.mul_one Nat.zero_mul Nat.zero_le Nat.sub_zero Int.zero_add ahE agm F_ Gt Bool.and_self cG.GJ
attribute [go_sem] cZ T_ Mq EI Ip app if_true if_false reduceIte Nat.reduceEqDiff beq_self_eq_true reduceCtorEq ge_iff_le qD V_ zY GO Nat.reduceAdd Dk te Cc fX vl BP ne_eq Nat.reduceLeDiff A7 Bx Ce Dv Um EF Nat.reduceMul Nat.reduceLT Sy Sv
attribute [go_sem] fz qc t_ vV mi F3 u_ Nat.reduceSub Int.reduceLT Int.reduceAdd Int.reduceBEq Int.reduceBNe Int.reduceLE List.contains_eq_mem zj
end Go.Abs
