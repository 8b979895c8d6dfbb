/-
  Rules for a walk.
-/
import Derived.Test.YtdlmpmilnbhmgaaGreatDoorMc
import Derived.Attr
set_option linter.all false
open List renaming length->I
namespace Go.Abs
variable{T:dk}{n g L N f Z D B E F:Nat}{u:iB}{r:RV}{O:Nat->bD->aB->Prop}{X:List (Nat×Option my)}{R:V->aB->Prop}{y:c7}{H ak:aB}{Y:bP}{A:dC}
section
variable{x:PV}{f q m z:Nat}{y:c7}{v:V}{j:dC}
theorem ahp(k:Nat):oF (.one (.p (.int .i64 (k:Int))))=some k:=by simp[oF]
theorem apl(n:Nat):oF (.one (.p (.int .i64 (no_index (@OfNat.ofNat Int n instOfNat)))))=some (@OfNat.ofNat Nat n (instOfNatNat n)):=by show oF (.one (.p (.int .i64 (Int.ofNat n))))=some n;simp[oF]
theorem RG{blk:aB}{v:PV}:snap blk dS (.p v)=some (v.norm,[]):=rfl
def Va{β:Type}(x:Option (β×aA))(y:Option (List β×aA)):Option (List β×aA):=match x,y with
 |some (b,x),some (B,y)=>some (b::B,x++y)
 |_,_=>none
theorem aia{β:Type}{b:β}{x:aA}{B:List β}{y:aA}:Va (some (b,x)) (some (B,y))=some (b::B,x++y):=rfl
theorem apw{α β:Type}{f:α->Option (β×aA)}:fk f []=some ([],[]):=rfl
theorem ajW{α β:Type}{f:α->Option (β×aA)}{a:α}{r:List α}:fk f (a::r)=Va (f a) (fk f r):=by simp only[fk,Va];cases f a<;>cases fk f r<;>rfl
theorem anz{blk:aB}{c:b_}:lI blk (.one c)=(snap blk dS c).map λ(v,r)=>(.one (.p v),r):=rfl
theorem apK{blk:aB}:lI blk (.agg T)=(fk (snap blk dS) T).map λ(y,r)=>(.agg (y.map .p),r):=rfl
theorem akW{blk:aB}{v:PV}:snap blk (n+1) (.p v)=some (v.norm,[]):=rfl
def MV(o:Nat×Option eN)(h:List dk->Option (dC×aA))(id g L len:Nat):Option (PV×aA):=match o with
 |(f,some (.arr _ _ j))=>if f=g/\L+len<=I j then some (.sl ((j.drop L).take len),[id])else none
 |(f,some (.lW _ _ j))=>if f=g/\L+len<=I j then some (.sl ((j.drop L).take len),[id])else none
 |(f,some (.gT _ _ j))=>if f=g/\L+len<=I j then
   match h ((j.drop L).take len)with
   |some (ps,r)=>some (.sl ps,id::r)
   |none=>none
  else none
 |_=>none
theorem an1{blk:aB}{id z len:Nat}:snap blk dS (.hsl id g z L len)=MV (blk id) (fk (fk (snap blk 5))) id g L len:=by unfold dS MV;rw[snap];rfl
def JJ(o:Nat×Option eN)(f:dk->Option (c_×aA))(id g L:Nat):Option (PV×aA):=match o with
 |(h,some (.var T))=>if h=g then
   match f T with
   |some (ps,r)=>some (.box (ps.drop L),id::r)
   |none=>none
  else none
 |(h,some (.fvar ps))=>if h=g then some (.box (ps.drop L),[id])else none
 |_=>none
theorem aoH{blk:aB}{id:Nat}:snap blk dS (.bg id g L)=JJ (blk id) (fk (snap blk 5)) id g L:=by unfold dS JJ;rw[snap];rfl
section
variable {S:Sys} {al:bP} {h:bD} {blk:aB} {d:my}
theorem Ed{rd:aA}{s:Nat}{b:Bool}(aa:x.scalar):d_ blk rd s ((RV.one (.p x)).eU b)=some (.one (.p x),[]):=by
 have h:(RV.one (.p x)).eU b=.one (.p x):=by cases b<;>rfl
 rw[h];have:(RV.one (.p x)).alone:=by simp[RV.alone,js,jW,kj.alone,aa]
 simp only[d_,this,or_true,if_true];rfl
theorem ar4{rd:aA}{s:Nat}{bN:bD->aB->Prop}(m:aC S f y (.one (.p x)))(aa:x.scalar):Ex S .all (.pc f y rd s) d h blk bN↔bN (dx h d (.one (.p x))) blk:=by
 constructor
 .rintro ⟨Y,g,H⟩
  have:=g.xF m;subst this;rw[Ed aa]at H;exact H.2
 intro j;refine⟨_,m,?_⟩;rw[Ed aa];exact⟨bP.Au _,j⟩
theorem ajT{rd:aA}{s:Nat}{tr:eI}{bN:bD->aB->eI->Prop}(m:aC S f y (.one (.p x)))(aa:x.scalar):Bw S .all (.pc f y rd s) d h blk tr bN↔bN (dx h d (.one (.p x))) blk (tr++[⟨rd,[],[]⟩]):=by
 constructor
 .rintro ⟨Y,g,H⟩
  have:=g.xF m;subst this;rw[Ed aa]at H
  simpa [app]using H.2
 intro j;refine⟨_,m,?_⟩;rw[Ed aa];exact⟨bP.Au _,by simpa [app]using j⟩
theorem asy{M:en}{Q:fp}:W S al (.region true M) Q h blk↔mW S al M (λh blk j=>o7 M [] j=true/\Q .normal h blk) h blk []:=by
 rw[ZX];constructor
 .rintro ⟨n,e,b,j,f,H,g⟩;exact⟨n,e,b,j,f,H rfl,g⟩
 rintro⟨n,e,b,j,f,H,g⟩;exact⟨n,e,b,j,f,λ_=>H,g⟩
end
theorem wrap_small(h:n<=9223372036854775807):IntKind.i64.wrap (n:Int)=n:=ZU h
theorem bJ(h:n<9223372036854775807):IntKind.i64.wrap ((n:Int)+1)=((n+1:Nat):Int):=ZU (n:=n+1) J
section
variable {S:Sys} {al:bP} {Q:fp} {h:bD} {blk:aB} {a b:aO} {M os all:en} {tr:eI} {d:my} {op:nK} {n:Nat}
def qm(S:Sys)(al:bP)(b:aO)(Q:fp):fp
 | .normal,h,blk=>W S al b Q h blk
 | .exit i,h,blk=>Q (.exit i) h blk
 | .ret,h,blk=>Q .ret h blk
theorem ar8:E2 (W S al b Q) Q=qm S al b Q:=by funext e h blk;cases e<;>rfl
theorem ahC:W S al (.seq a b) Q h blk↔W S al a (qm S al b Q) h blk:=by rw[arH,ar8]
theorem ag9:qm S al b Q .normal h blk=W S al b Q h blk:=rfl
theorem aed{i:Nat}:qm S al b Q (.exit i) h blk=Q (.exit i) h blk:=rfl
theorem anQ:qm S al b Q .ret h blk=Q .ret h blk:=rfl
def sd (S:Sys)(al:bP)(v:V)(a b:aO)(Q:fp)(h:bD)(blk:aB):Prop:=Ew v (W S al a Q h blk) (W S al b Q h blk)
theorem ahB{x:dR}:W S al (.cond x a b) Q h blk↔sd S al (ev h x) a b Q h blk:=amH
theorem aj1:sd S al (.one (.p (.bool true))) a b Q h blk=W S al a Q h blk:=by simp[sd,Ew]
theorem air:sd S al (.one (.p (.bool false))) a b Q h blk=W S al b Q h blk:=by simp[sd,Ew]
def gV (S:Sys)(al:bP)(M:en)(Q:fp)(h:bD)(blk:aB):Prop:=yb S al M (λh blk=>Q .normal h blk) h blk
def iM (S:Sys)(al:bP)(p:vv)(d:my)(os:en)(Q:fp)(h:bD)(blk:aB):Prop:=Ex S al p d h blk (yb S al os λh blk=>Q .normal h blk)
def mO (S:Sys)(al:bP)(w:Option Bool)(d:my)(op:nK)(os:en)(Q:fp)(h:bD)(blk:aB):Prop:=MP S al w ⟨d,op,none,0⟩ h blk (yb S al os λh blk=>Q .normal h blk)
theorem agR:W S al (.region false M) Q h blk↔gV S al M Q h blk:=aoD
theorem aqM:gV S al [] Q h blk↔Q .normal h blk:=anp
theorem agL:gV S al (⟨d,op,none,n⟩::os) Q h blk↔iM S al (bU S.shared h blk op) d os Q h blk:=adp
theorem agX{t:Nat}{w:Bool}:gV S al (⟨d,op,some (t,w),n⟩::os) Q h blk↔mO S al (z6 (h t) w) d op os Q h blk:=by
 unfold gV mO;rw[adp];have:n0 h (some (t,w))=z6 (h t) w:=rfl;simp only[this];cases z6 (h t) w with
 |none=>rfl
 |some x=>cases x<;>rfl
theorem amE:mO S al (some true) d op os Q h blk↔iM S al (bU S.shared h blk op) d os Q h blk:=Iff.rfl
theorem arV:mO S al (some false) d op os Q h blk↔gV S al os Q (dx h d .undef) blk:=Iff.rfl
theorem G2{r:aA}:iM S .all (.done v u r) d os Q h blk↔gV S .all os Q (dx h d v) (app u blk):=by show(bP.all.fG (r++u.map (·.1))/\_)↔_;rw[bP.Au];exact⟨λH=>H.2,λH=>⟨rfl,H⟩⟩
theorem abT{r:aA}:iM S al (.done v u r) d os Q h blk↔al.fG (r++u.map (·.1))=true/\gV S al os Q (dx h d v) (app u blk):=Iff.rfl
theorem U7{rd:aA}{s:Nat}(H:aC S f y (.one (.p x)))(aa:x.scalar):iM S .all (.pc f y rd s) d os Q h blk↔gV S .all os Q (dx h d (.one (.p x))) blk:=ar4 H aa
theorem dj{rd:aA}{s:Nat}{k:IntKind}{x:Int}(H:aC S f y (.one (.p (.int k x)))):iM S .all (.pc f y rd s) d os Q h blk↔gV S .all os Q (dx h d (.one (.p (.int k x)))) blk:=U7 H rfl
theorem ai{rd:aA}{s:Nat}{x:Bool}(H:aC S f y (.one (.p (.bool x)))):iM S .all (.pc f y rd s) d os Q h blk↔gV S .all os Q (dx h d (.one (.p (.bool x)))) blk:=U7 H rfl
theorem lO{rd:aA}{s:Nat}{x:ByteArray}(H:aC S f y (.one (.p (.str x)))):iM S .all (.pc f y rd s) d os Q h blk↔gV S .all os Q (dx h d (.one (.p (.str x)))) blk:=U7 H rfl
theorem bl{rd:aA}{s:Nat}(hp:aC S f y r)(m:d_ blk rd s (r.eU (S.lone s))=some (v,u)):iM S .all (.pc f y rd s) d os Q h blk↔gV S .all os Q (dx h d v) (app u blk):=by
 constructor
 .rintro ⟨Y,j,H⟩
  have:=j.xF hp;subst this;rw[m]at H;exact H.2
 intro g;refine⟨_,hp,?_⟩;rw[m];exact⟨bP.Au _,g⟩
def nc (S:Sys)(al:bP)(all M:en)(Q:fp)(h:bD)(blk:aB)(tr:eI):Prop:=mW S al M (λh blk j=>o7 all [] j=true/\Q .normal h blk) h blk tr
def qg (S:Sys)(al:bP)(p:vv)(d:my)(all os:en)(Q:fp)(h:bD)(blk:aB)(tr:eI):Prop:=Bw S al p d h blk tr (mW S al os λh blk j=>o7 all [] j=true/\Q .normal h blk)
def s8 (S:Sys)(al:bP)(w:Option Bool)(d:my)(op:nK)(all os:en)(Q:fp)(h:bD)(blk:aB)(tr:eI):Prop:=Ap S al w ⟨d,op,none,0⟩ h blk tr (mW S al os λh blk j=>o7 all [] j=true/\Q .normal h blk)
theorem aow:W S al (.region true M) Q h blk↔nc S al M M Q h blk []:=asy
theorem aiD:nc S al all [] Q h blk tr↔o7 all [] tr=true/\Q .normal h blk:=OO
theorem aiI:nc S al all (⟨d,op,none,n⟩::os) Q h blk tr↔qg S al (bU S.shared h blk op) d all os Q h blk tr:=H_
theorem afk{t:Nat}{w:Bool}:nc S al all (⟨d,op,some (t,w),n⟩::os) Q h blk tr↔s8 S al (z6 (h t) w) d op all os Q h blk tr:=by
 unfold nc s8;rw[H_];have:n0 h (some (t,w))=z6 (h t) w:=rfl;simp only[this];cases z6 (h t) w with
 |none=>rfl
 |some x=>cases x<;>rfl
theorem aeJ:s8 S al (some true) d op all os Q h blk tr↔qg S al (bU S.shared h blk op) d all os Q h blk tr:=Iff.rfl
theorem akz:s8 S al (some false) d op all os Q h blk tr↔nc S al all os Q (dx h d .undef) blk (tr++[⟨[],[],[]⟩]):=Iff.rfl
theorem GG{r:aA}:qg S .all (.done v u r) d all os Q h blk tr↔nc S .all all os Q (dx h d v) (app u blk) (tr++[⟨r,u.map (·.1),[]⟩]):=by show(bP.all.fG (r++u.map (·.1))/\_)↔_;rw[bP.Au];exact⟨λH=>H.2,λH=>⟨rfl,H⟩⟩
theorem ab8{r:aA}:qg S al (.done v u r) d all os Q h blk tr↔al.fG (r++u.map (·.1))=true/\nc S al all os Q (dx h d v) (app u blk) (tr++[⟨r,u.map (·.1),[]⟩]):=Iff.rfl
theorem VM{rd:aA}{s:Nat}(H:aC S f y (.one (.p x)))(aa:x.scalar):qg S .all (.pc f y rd s) d all os Q h blk tr↔nc S .all all os Q (dx h d (.one (.p x))) blk (tr++[⟨rd,[],[]⟩]):=ajT H aa
theorem c4{rd:aA}{s:Nat}{k:IntKind}{x:Int}(H:aC S f y (.one (.p (.int k x)))):qg S .all (.pc f y rd s) d all os Q h blk tr↔nc S .all all os Q (dx h d (.one (.p (.int k x)))) blk (tr++[⟨rd,[],[]⟩]):=VM H rfl
theorem cN{rd:aA}{s:Nat}{x:Bool}(H:aC S f y (.one (.p (.bool x)))):qg S .all (.pc f y rd s) d all os Q h blk tr↔nc S .all all os Q (dx h d (.one (.p (.bool x)))) blk (tr++[⟨rd,[],[]⟩]):=VM H rfl
theorem fT{rd:aA}{s:Nat}(hp:aC S f y r)(m:d_ blk rd s (r.eU (S.lone s))=some (v,u)):qg S .all (.pc f y rd s) d all os Q h blk tr↔nc S .all all os Q (dx h d v) (app u blk) (tr++[⟨rd++u.map (·.1),u.map (·.1),[]⟩]):=by
 constructor
 .rintro ⟨Y,j,H⟩
  have:=j.xF hp;subst this;rw[m]at H;exact H.2
 intro g;refine⟨_,hp,?_⟩;rw[m];exact⟨bP.Au _,g⟩
def Gv(N:Nat)(O:Nat->bD->aB->Prop)(k:Nat)(Q:fp):fp:=E2 (λh blk=>k<N/\O (k+1) h blk) Q
theorem alf{k:Nat}:Gv N O k Q .normal h blk=(k<N/\O (k+1) h blk):=rfl
theorem an6{k i:Nat}:Gv N O k Q (.exit i) h blk=Q (.exit i) h blk:=rfl
theorem ali{k:Nat}:Gv N O k Q .ret h blk=Q .ret h blk:=rfl
theorem cD{c:aO}(O:Nat->bD->aB->Prop)(f N:Nat)(H:f<=N)(g:O f h blk)
  (r:∀k h blk,k<=N->O k h blk->W S al c (Gv N O k Q) h blk):W S al (.loop c) Q h blk:=ao7 O f N H g r
def E_(R:V->aB->Prop)(blk:aB):Option c7->Prop
 |some y=>R (uE y) blk
 |none=>False
theorem arj:nk al X R .ret h blk=E_ R blk (mq al h blk X):=by simp only[nk,E_];cases mq al h blk X<;>rfl
theorem aog:nk al X R .normal h blk=E_ R blk (mq al h blk X):=by simp only[nk,E_];cases mq al h blk X<;>rfl
theorem aoX{y:c7}:E_ R blk (some y)=R (uE y) blk:=rfl
end
section
variable {S:Sys} {al:bP} {Q:fp} {h:bD} {blk:aB}
def I7(S:Sys)(al:bP)(c:aO)(Q:fp):fp
 | .normal,h,blk=>W S al (.loop c) Q h blk
 | .exit i,h,blk=>Q (.exit i) h blk
 | .ret,h,blk=>Q .ret h blk
theorem aii{c:aO}:I7 S al c Q .normal h blk=W S al (.loop c) Q h blk:=rfl
theorem arJ{c:aO}{i:Nat}:I7 S al c Q (.exit i) h blk=Q (.exit i) h blk:=rfl
theorem ahu{c:aO}:I7 S al c Q .ret h blk=Q .ret h blk:=rfl
theorem mu{c:aO}(r:W S al c (I7 S al c Q) h blk):W S al (.loop c) Q h blk:=by
 obtain⟨n,e,E,B,f,H⟩:=r;cases e with
 |normal=>obtain⟨m,e,q,A,g,j⟩:=H;refine⟨max n m+1,e,q,A,?_,j⟩;simp only[c3]at g |-;simp only[jM];rw[AB S J f];exact O1 S J J g
 |exit i=>exact⟨n+1,_,_,_,by simp[c3,jM,AB S (Nat.le_succ n) f],H⟩
 |ret=>exact⟨n+1,_,_,_,by simp[c3,jM,AB S (Nat.le_succ n) f],H⟩
end
theorem ia.xF{S:Sys}{A:c7}{al:bP}{blk:aB}{g:V}{b:aB}(h:ia S f A al blk v b)(q:ia S f A al blk g H):v=g/\b=H:=by obtain⟨n,r⟩:=h;obtain⟨m,j⟩:=q;have a:=Ha S (yD n m) _ _ _ _ _ r;have c:=Ha S (CI n m) _ _ _ _ _ j;rw[a]at c;have:=xH c;exact⟨congrArg Prod.fst this,congrArg Prod.snd this⟩
section
variable {S:Sys} {al:bP} {Q:fp} {h:bD} {blk:aB} {os all:en} {tr:eI} {d:my}
theorem So:al.fG []:=rfl
theorem Rt{a:Nat}{l:aA}:al.fG (a::l)=(al.ok a&&al.fG l):=rfl
def c8(bN:Nat->Prop)(b H:aB):Prop:=∀id,¬bN id->H id=b id
theorem c8.refl(bN:Nat->Prop)(b:aB):c8 bN b b:=λ_ _=>rfl
theorem c8.trans{bN:Nat->Prop}{a b c:aB}(h:c8 bN a b)(f:c8 bN b c):c8 bN a c:=λid H=>(f id H).trans (h id H)
theorem c8.cQ{bN:Nat->Prop}{b:aB}(h:c8 bN b H){k:Nat}(g:bN k)(x:Nat×Option eN):c8 bN b (cQ H k x):=λid f=>by rw[bj,aD (by rintro rfl;exact f g)];exact h id f
theorem akO(j:al.holds (gr (S.ctx al) f y blk))(m:ia S f y (gr (S.ctx al) f y blk) blk v ak):iM S al (.sc f y) d os Q h blk↔gV S al os Q (dx h d v) ak:=by
 constructor
 .rintro ⟨_,v2,B,g,H⟩
  obtain⟨rfl,rfl⟩:=m.xF g;exact H
 intro H;exact⟨j,v,ak,m,H⟩
theorem adt{rd:aA}{s:Nat}(n:aC S f y (.one (.p x)))(aa:x.scalar):iM S al (.pc f y rd s) d os Q h blk↔al.fG (rd++[])=true/\gV S al os Q (dx h d (.one (.p x))) blk:=by
 constructor
 .rintro ⟨Y,j,H⟩
  have:=j.xF n;subst this;rw[Ed aa]at H;exact H
 rintro⟨g,m⟩
 refine⟨_,n,?_⟩;rw[Ed aa];exact⟨g,m⟩
theorem FX{rd:aA}{s:Nat}{k:IntKind}{x:Int}(H:aC S f y (.one (.p (.int k x)))):iM S al (.pc f y rd s) d os Q h blk↔al.fG (rd++[])=true/\gV S al os Q (dx h d (.one (.p (.int k x)))) blk:=adt H rfl
theorem abN{rd:aA}{s:Nat}{x:Bool}(H:aC S f y (.one (.p (.bool x)))):iM S al (.pc f y rd s) d os Q h blk↔al.fG (rd++[])=true/\gV S al os Q (dx h d (.one (.p (.bool x)))) blk:=adt H rfl
theorem aeL{f:Int->c_}(q:Int):∀(ids:cS) (i:Nat),uN (.int .i64 q) (ids.map λid=>(PV.int .i64 id,f id)) i=some (if q∈ids then some (i+ids.idxOf q,f q)else none):=by
 intro ids
 induction ids with
 |nil=>intro i;rfl
 |cons a ids j=>
  intro i;simp only[ew,uN,BB,if_true];by_cases e:q=a
  .subst e;simp
  have m:(q==a)=false:=by simpa using e
  have E:¬(a=q):=λh=>e h.symm;simp only[m];rw[j];simp only[dL,e,false_or,List.idxOf_cons,c6,E,cond_false];by_cases h:q∈ids
  .have g:(a==q)=false:=by simpa using E
   simp[h,g];omega
  simp[h]
theorem sf{f:Nat}{y:c7}{P:V->aB->Prop}(g:al.holds (gr (S.ctx al) f y blk))(n:∃v ak,ia S f y (gr (S.ctx al) f y blk) blk v ak/\P v ak)
  (j:∀v ak,P v ak->gV S al os Q (dx h d v) ak):iM S al (.sc f y) d os Q h blk:=by
 obtain⟨v,ak,m,H⟩:=n;exact(akO g m).2 (j v ak H)
theorem xt:bP.all.holds Y:=rfl
theorem GL(h:al.fG Y.ids)(H:Y.fs.all al.fs.contains):al.holds Y:=by unfold bP.holds;rw[h,H];simp
theorem EY{id:Nat}(h:(S.sites f).contains (lG id)):(gr (S.ctx al) f y blk).ok id:=by show(false||_||(S.sites f).contains (lG id))=true;rw[h];simp
theorem wY{id:Nat}(h:id∈(y.map (kr blk)).flatten):(gr (S.ctx al) f y blk).ok id:=by
 show(false||(y.map (kr blk)).flatten.contains id||_)=true;have:(y.map (kr blk)).flatten.contains id:=by simpa using h
 rw[this];rfl
theorem SZ{id g0 o:Nat}(h:blk id=(g0,some (.var T))):kr blk (.one (.bg id g o))=id::(T.map (kP blk 5)).flatten:=by show kP blk 6 (.bg id g o)=_;rw[kP,h]
theorem Tz{v:PV}:kP blk n (.p v)=[]:=by cases n<;>rfl
theorem DI{id g0 o l f:Nat}(h:blk id=(g0,some (.arr m f j))):kP blk (n+1) (.hsl id g z o l)=[id]:=by rw[kP,h]
def Sf(x:Nat×Option eN)(id g:Nat):Option (PV×aA):=match x with
 |(f,some (.map A j))=>if f=g then some (.mp A j,[id])else none
 |(f,some (.fmap A j))=>if f=g then some (.mp A j,[id])else none
 |_=>none
theorem V4{id:Nat}:snap blk (n+1) (.km id g)=Sf (blk id) id g:=by rw[snap];rfl
end
def aW(q m z:Nat)(j:dC)(v:V)(blk:aB):Prop:=(j=[]/\v=.one (.p .nils))\/(j≠[]/\ ∃g,v=.one (.hsl q g z 0 (I j))/\blk q=(g,some (.arr m z j)))
def bn(m z:Nat)(j:dC):kj:=if j=[]then .p .nils else .own m z j
theorem aW.of_eq{blk:aB}(h:aW q m z j v blk)(r:ak q=blk q):aW q m z j v ak:=by
 rcases h with h|⟨f,g,H,n⟩
 .exact .inl h
 exact .inr ⟨f,g,H,by rw[r,n]⟩
theorem aW.nil{blk:aB}:aW q m z [] (.one (.p .nils)) blk:=.inl ⟨rfl,rfl⟩
theorem aW.iZ{blk:aB}(h:aW q m z j v blk):∃c o,v=.one c/\iZ blk c=some (bn m z j,o,[])/\(o=[]\/o=[q]):=by
 rcases h with⟨f,H⟩|⟨f,g,H,n⟩
 .exact⟨.p .nils,[],H,by simp[Go.Abs.iZ,bn,f],.inl rfl⟩
 refine⟨_,[q],H,?_,.inr rfl⟩;simp only[Go.Abs.iZ,n,and_self,cH,if_true,iV,bn,aD f]
theorem nV{blk:aB}(h:aW q m z j v blk):hJ blk v=some (.one (bn m z j)):=by
 obtain⟨c,o,rfl,H,f⟩:=h.iZ;rcases f with rfl|rfl
 .simp[hJ,pn,lJ,kQ,H,pE,sr,qf]
 simp[hJ,pn,lJ,kQ,H,pE,sr,qf]
theorem C2{f:Nat}{fs:dC}{w:V}{blk:aB}(aa:Z≠f)(h:aW Z D B j v blk)(H:aW f E F fs w blk):hJ blk (.tup [v,w])=some (.tup [.one (bn D B j),.one (bn E F fs)]):=by obtain⟨c,o,rfl,n,r⟩:=h.iZ;obtain⟨d,q,rfl,g,m⟩:=H.iZ;rcases r with rfl|rfl<;>rcases m with rfl|rfl<;>simp[hJ,pn,rl,lJ,kQ,n,g,pE,sr,qf,BY,aa]
theorem aW.elems{blk:aB}(h:aW q m z j v blk):∃r,eO blk v=some (j,r,[])/\(r=[]\/r=[q]):=by
 rcases h with⟨f,H⟩|⟨f,g,H,n⟩
 .exact⟨[],by rw[H,f];rfl,.inl rfl⟩
 refine⟨[q],?_,.inr rfl⟩;rw[H];simp[eO,n]
theorem aW.lK{blk:aB}(h:aW q m z j v blk):j=[]\/lK v=some z:=by
 rcases h with⟨H,f⟩|⟨H,g,f,n⟩
 .exact .inl H
 exact .inr (by rw[f];rfl)
theorem aW.ao{blk:aB}(h:aW q m z j v blk):Go.Abs.lK v=some z\/ao z j:=by
 rcases h.lK with h|h
 .exact .inr (by rw[h];rfl)
 exact .inl h
theorem aW.len{blk:aB}(h:aW q m z j v blk):vO v=some (I j):=by
 rcases h with⟨f,H⟩|⟨f,g,H,n⟩
 .rw[f,H];rfl
 rw[H];rfl
theorem aW.snap{blk:aB}(h:aW q m z j v blk):∃r,lI blk v=some (.one (.p (.sl j)),r)/\(r=[]\/r=[q]):=by
 rcases h with⟨f,H⟩|⟨f,g,H,n⟩
 .exact⟨[],by rw[H,f];rfl,.inl rfl⟩
 refine⟨[q],?_,.inr rfl⟩;rw[H];simp[lI,dS,Go.Abs.snap,n]
theorem aW.Uo{c:b_}{blk:aB}(h:aW q m z j (.one c) blk):∃r,Go.Abs.snap blk (n+1) c=some (.sl j,r)/\(r=[]\/r=[q]):=by
 rcases h with⟨f,H⟩|⟨f,g,H,u⟩
 .cases H;exact⟨[],by rw[f];rfl,.inl rfl⟩
 refine⟨[q],?_,.inr rfl⟩;cases H;simp[Go.Abs.snap,u]
section
variable {S:Sys} {al:bP} {Q:fp} {h:bD} {blk:aB} {os all:en} {tr:eI} {d:my}
theorem Jv{id bytes:Nat}{v x:V}{rd:aA}(L:aW id m z j v blk)(f:eO blk x=some (A,rd,[]))(O:lK x=some z\/ao z A)(D:(I j+I A)*bytes<=140737488355328):
  ∃B u r,ae blk q m z bytes v x=.done B u r/\aW q m z (j++A) B (app u blk)/\(∀i,i≠q->i≠id->app u blk i=blk i)/\(r=rd/\u.map (·.1)=[]\/r=q::rd/\u.map (·.1)=[q]\/r=q::id::rd/\u.map (·.1)=[id,q]):=by
 have N:¬¬(lK x=some z\/ao z A):=λh=>h O;rcases L with⟨rfl,rfl⟩|⟨M,g,rfl,E⟩
 .by_cases H:A=[]
  .subst H;refine⟨.one (.p .nils),[],rd,?_,.inl ⟨rfl,rfl⟩,λi _ _=>rfl,.inl ⟨rfl,rfl⟩⟩;simp[ae,f,N,oa,pT]
  have hl:¬I A=0:=by simpa using H
  have n:I A*bytes<=kK:=by simpa [kK]using D
  refine⟨.one (.hsl q ((blk q).1+1) z 0 (I A)),[(q,((blk q).1+1,some (.arr m z A)))],q::rd,?_,.inr ⟨by simpa using H,(blk q).1+1,aG,?_⟩,λi y _=>?_,.inr (.inl ⟨rfl,rfl⟩)⟩
  .simp only[ae,f,aD N,oa,pT,aD hl,aM n];simp
  .simp[app,bj]
  simp[app,bj,y]
 have n:(I j+I A)*bytes<=kK:=by simpa [kK]using D
 refine⟨.one (.hsl q ((blk q).1+1) z 0 (I j+I A)),[(id,(g,none)),(q,((blk q).1+1,some (.arr m z (j++A))))],q::id::rd,?_,.inr ⟨by simp[M],(blk q).1+1,aG,?_⟩,λi y F=>?_,.inr (.inr ⟨rfl,rfl⟩)⟩
 .simp only[ae,f,aD N,oa,pT,E];simp[n]
 .simp[app,bj]
 simp[app,bj,y,F]
theorem iR{id q m z bytes:Nat}{j:dC}{v x:V}{rd:aA}(n:aW id m z j v blk)(y:eO blk x=some (A,rd,[]))(E:lK x=some z\/ao z A)(f:(I j+I A)*bytes<=140737488355328)
  (B:∀(c:b_) ak,aW q m z (j++A) (.one c) ak->(∀i,i≠q->i≠id->ak i=blk i)->gV S .all os Q (dx h d (.one c)) ak):iM S .all (ae blk q m z bytes v x) d os Q h blk:=by
 obtain⟨F,u,r,D,H,g,_⟩:=Jv n y E f;obtain⟨c,o,rfl,_⟩:=H.iZ;rw[D,G2];exact B _ _ H g
theorem tB{id q m z bytes:Nat}{j:dC}{v x:V}{rd:aA}(n:aW id m z j v blk)(y:eO blk x=some (A,rd,[]))(F:lK x=some z\/ao z A)(f:(I j+I A)*bytes<=140737488355328)
  (D:∀(c:b_) ak r w,aW q m z (j++A) (.one c) ak->(∀i,i≠q->i≠id->ak i=blk i)->(r=rd/\w=[]\/r=q::rd/\w=[q]\/r=q::id::rd/\w=[id,q])->nc S .all all os Q (dx h d (.one c)) ak (tr++[⟨r,w,[]⟩])):qg S .all (ae blk q m z bytes v x) d all os Q h blk tr:=by
 obtain⟨L,u,r,E,H,g,B⟩:=Jv n y F f;obtain⟨c,o,rfl,_⟩:=H.iZ;rw[E,GG];exact D _ _ _ _ H g B
theorem uK{s:Nat}:aW s m z j (.one (ej blk s (bn m z j)).1) (app (ej blk s (bn m z j)).2 blk)/\(∀i,i≠s->app (ej blk s (bn m z j)).2 blk i=blk i)/\((ej blk s (bn m z j)).2.map (·.1)=[]\/(ej blk s (bn m z j)).2.map (·.1)=[s]):=by
 unfold bn;by_cases h:j=[]
 .rw[aM h];exact⟨.inl ⟨h,rfl⟩,λi _=>rfl,.inl rfl⟩
 rw[aD h];exact⟨.inr ⟨h,(blk s).1+1,rfl,by simp[ej,app,bj]⟩,λi H=>by simp[ej,app,bj,H],.inr rfl⟩
theorem ti(r:RV):r.eU false=r:=rfl
theorem ke{f:Nat}{y:c7}{s m z:Nat}{rd:aA}{j:dC}(hp:aC S f y (.one (bn m z j)))(F:S.lone s=false)(q:rd=[]\/(RV.one (bn m z j)).alone)
  (g:∀(c:b_) ak,aW s m z j (.one c) ak->(∀i,i≠s->ak i=blk i)->gV S .all os Q (dx h d (.one c)) ak):iM S .all (.pc f y rd s) d os Q h blk:=by
 obtain⟨n,H,_⟩:=uK (blk:=blk) (s:=s) (m:=m) (z:=z) (j:=j);refine(bl (v:=.one (ej blk s (bn m z j)).1) (u:=(ej blk s (bn m z j)).2) hp ?_).2 (g _ _ n H);rw[F,ti];unfold d_;rw[aM q];simp[gX,js,jW,jo,rF,m_]
theorem HF{f:Nat}{y:c7}{s:Nat}{j fs:dC}(hp:aC S f y (.tup [.one (bn D B j),.one (bn E F fs)]))(T:S.lone s=false)
  (M:∀(c e:b_) ak,aW s D B j (.one c) ak->aW (s+1) E F fs (.one e) ak->(∀i,i≠s->i≠s+1->ak i=blk i)->gV S .all os Q (dx h d (.tup [.one c,.one e])) ak):iM S .all (.pc f y [] s) d os Q h blk:=by
 obtain⟨N,A,_⟩:=uK (blk:=blk) (s:=s) (m:=D) (z:=B) (j:=j);have L:∀(b H:aB) (k:Nat) (r:kj),H k=b k->ej b k r=ej H k r:=by
  intro b H k r Y;cases r with
  |p v=>rfl
  |own m X j=>simp only[ej,Y]
 have O:ej blk (s+1) (bn E F fs)=ej (app (ej blk s (bn D B j)).2 blk) (s+1) (bn E F fs):=L _ _ _ _ (A (s+1) J);obtain⟨q,n,_⟩:=uK (blk:=app (ej blk s (bn D B j)).2 blk) (s:=s+1) (m:=E) (z:=F) (j:=fs);rw[<-O]at q n;have g:∀(a b:iB) (c:aB),app (a++b) c=app b (app a c):=by
  intro a
  induction a with
  |nil=>intro b c;rfl
  |cons x a R=>intro b c;exact R b _
 refine(bl (v:=.tup [.one (ej blk s (bn D B j)).1,.one (ej blk (s+1) (bn E F fs)).1]) (u:=(ej blk s (bn D B j)).2++(ej blk (s+1) (bn E F fs)).2) hp ?_).2 (M _ _ _ ?_ ?_ ?_)
 .rw[T,ti];unfold d_;rw[aM (.inl rfl)];simp[gX,js,pO,jW,jo,rF,rr,m_]
 .rw[g];exact N.of_eq (n s J)
 .rw[g];exact q
 intro i a b;rw[g,n i b,A i a]
end
theorem ff(h:(j.all λe=>e.all PV.scalar)):(RV.one (bn m z j)).alone:=by
 unfold bn;split
 .rfl
 simp[RV.alone,js,jW,kj.alone,h]
theorem aW.dS{c:b_}{blk:aB}(h:aW q m z j (.one c) blk):∃r,Go.Abs.snap blk Go.Abs.dS c=some (.sl j,r)/\(r=[]\/r=[q]):=h.Uo
def sD(blk:aB)(r:aA):Prop:=∀i∈r,∃g m z j,blk i=(g,some (.arr m z j))
theorem sD.nil{blk:aB}:sD blk []:=λ_ h=>by simp at h
theorem sD.app{blk:aB}{a b:aA}(h:sD blk a)(k:sD blk b):sD blk (a++b):=λi H=>by
 rcases fB.1 H with H|H
 .exact h i H
 exact k i H
theorem aW.Ng{c:b_}{blk:aB}(h:aW q m z j (.one c) blk):∃r,Go.Abs.snap blk Go.Abs.dS c=some (.sl j,r)/\sD blk r/\(r=[]\/r=[q]):=by
 rcases h with⟨f,H⟩|⟨f,g,H,n⟩
 .cases H;exact⟨[],by rw[f];rfl,sD.nil,.inl rfl⟩
 refine⟨[q],?_,λi u=>?_,.inr rfl⟩
 .cases H;simp[Go.Abs.snap,Go.Abs.dS,n]
 rw[pA]at u;subst u;exact⟨_,_,_,_,n⟩
theorem X9{blk:aB}(all:aA):∀r:aA,sD blk r->∃f,pT blk all r=some f/\f.map (·.1)=r:=by
 intro r
 induction r with
 |nil=>intro _;exact⟨[],rfl,rfl⟩
 |cons i r u=>intro h;obtain⟨g,m,z,j,n⟩:=h i aG;obtain⟨f,v,H⟩:=u λx q=>h x (by simp[q]);refine⟨(i,(g,some (.lW m z j)))::f,?_,by simp[H]⟩;simp[pT,sR,n,v]
theorem C1:∀(u:iB) (b:aB) (i:Nat),i∉u.map (·.1)->app u b i=b i:=by
 intro u
 induction u with
 |nil=>intro b i _;rfl
 |cons x u f=>intro b i h;simp only[ew,dL,not_or]at h;show app u (cQ b x.1 x.2) i=b i;rw[f _ _ h.2,bj,aD h.1]
theorem u0:∀(a b:iB) (c:aB),app (a++b) c=app b (app a c):=by
 intro a
 induction a with
 |nil=>intro b c;rfl
 |cons x a f=>intro b c;exact f b _
section
variable {S:Sys} {al:bP} {Q:fp} {h:bD} {blk:aB} {os all:en} {tr:eI} {d:my}
theorem ac0{id q m z bytes:Nat}{j:dC}{v x:V}{rd fr:aA}(T:aW id m z j v blk)(D:eO blk x=some (A,rd,fr))(X:sD blk fr)(E:id∉fr)(ab:q∉fr)(Y:lK x=some z\/ao z A)(L:(I j+I A)*bytes<=140737488355328)
  (y:∀(c:b_) ak,aW q m z (j++A) (.one c) ak->(∀i,i≠q->i≠id->i∉fr->ak i=blk i)->gV S .all os Q (dx h d (.one c)) ak):iM S .all (ae blk q m z bytes v x) d os Q h blk:=by
 have N:¬¬(lK x=some z\/ao z A):=λad=>ad Y;obtain⟨f,M,B⟩:=X9 fr fr X;have F:oa blk fr=some f:=M;rcases T with⟨rfl,rfl⟩|⟨aY,g,rfl,O⟩
 .by_cases r:A=[]
  .subst r;have:ae blk q m z bytes (.one (.p .nils)) x=.done (.one (.p .nils)) f (rd++fr):=by simp[ae,D,N,F]
   rw[this,G2];exact y _ _ (.inl ⟨rfl,rfl⟩) λi _ _ H=>C1 _ _ _ (by rw[B];exact H)
  have hl:¬I A=0:=by simpa using r
  have n:I A*bytes<=kK:=by simpa [kK]using L
  have:ae blk q m z bytes (.one (.p .nils)) x=.done (.one (.hsl q ((blk q).1+1) z 0 (I A))) (f++[(q,((blk q).1+1,some (.arr m z A)))]) (q::rd++fr):=by simp only[ae,D,aD N,F,aD hl,aM n]
  rw[this,G2];refine y _ _ (.inr ⟨by simpa using r,(blk q).1+1,aG,?_⟩) λi u _ H=>?_
  .rw[u0];simp[app,bj]
  rw[u0];have:=C1 f blk i (by rw[B];exact H);simp[app,bj,u,this]
 have n:(I j+I A)*bytes<=kK:=by simpa [kK]using L
 have Z:fr.contains id=false:=by simpa using E
 have:ae blk q m z bytes (.one (.hsl id g z 0 (I j))) x=.done (.one (.hsl q ((blk q).1+1) z 0 (I j+I A))) (f++[(id,(g,none)),(q,((blk q).1+1,some (.arr m z (j++A))))]) (q::id::rd++fr):=by simp only[ae,D,aD N,F,O,Z];simp[n]
 rw[this,G2];refine y _ _ (.inr ⟨by simp[aY],(blk q).1+1,aG,?_⟩) λi u R H=>?_
 .rw[u0];simp[app,bj]
 rw[u0];have:=C1 f blk i (by rw[B];exact H);simp[app,bj,u,R,this]
theorem akZ{f:Nat}{y:c7}{s:Nat}{rd:aA}{j fs:dC}(hp:aC S f y (.tup [.one (bn D B j),.one (bn E F fs)]))(n:S.lone s=false)
  (u:(j.all λe=>e.all PV.scalar)) (q:(fs.all λe=>e.all PV.scalar))
  (v:∀(c e:b_) ak,aW s D B j (.one c) ak->aW (s+1) E F fs (.one e) ak->(∀i,i≠s->i≠s+1->ak i=blk i)->gV S .all os Q (dx h d (.tup [.one c,.one e])) ak):iM S .all (.pc f y rd s) d os Q h blk:=by
 have x:(RV.tup [.one (bn D B j),.one (bn E F fs)]).alone:=by have a:=ff (m:=D) (z:=B) u;have b:=ff (m:=E) (z:=F) q;simp only[RV.alone,js,jW,oQ,qF,tk]at a b;simp[RV.alone,js,pO,jW,a,b]
 have A:iM S .all (.pc f y [] s) d os Q h blk:=HF hp n v;obtain⟨Y,g,H⟩:=A;refine⟨Y,g,?_⟩;have:=g.xF hp;subst this;rw[n,ti]at H |-;unfold d_ at H |-;rw[aM (.inl rfl)]at H;rw[aM (.inr x)];obtain⟨_,r⟩:=H;exact⟨bP.Au _,r⟩
end
theorem Ht{a i:Nat}{l:aA}(H:i∈l)(h:a∉l):i≠a:=λe=>h (e▸H)
section
variable {S:Sys} {al:bP} {Q:fp} {h:bD} {blk:aB} {os all:en} {tr:eI} {d:my}
theorem RD{l:aA}(h:∀i∈l,al.ok i):al.fG l:=gL.2 h
theorem Kh{id q m z bytes:Nat}{j:dC}{v x:V}{rd:aA}(M:∀i∈q::id::rd,al.ok i)(y:aW id m z j v blk)(O:eO blk x=some (A,rd,[]))(F:lK x=some z\/ao z A)(L:(I j+I A)*bytes<=140737488355328)
  (D:∀(c:b_) ak,aW q m z (j++A) (.one c) ak->(∀i,i≠q->i≠id->ak i=blk i)->gV S al os Q (dx h d (.one c)) ak):iM S al (ae blk q m z bytes v x) d os Q h blk:=by
 obtain⟨R,u,r,E,n,N,B⟩:=Jv y O F L;obtain⟨c,o,rfl,_⟩:=n.iZ;rw[E,abT];refine⟨?_,D _ _ n N⟩;rcases B with⟨rfl,g⟩|⟨rfl,g⟩|⟨rfl,g⟩<;>rw[g]<;>refine RD λi H=>M i ?_ <;>simp at H |-
 .exact .inr (.inr H)
 .rcases H with f|f|f<;>simp[f]
 rcases H with f|f|f|f|f<;>simp[f]
theorem Nb{id q m z bytes:Nat}{j:dC}{v x:V}{rd:aA}(M:∀i∈q::id::rd,al.ok i)(B:aW id m z j v blk)(O:eO blk x=some (A,rd,[]))(F:lK x=some z\/ao z A)(L:(I j+I A)*bytes<=140737488355328)
  (D:∀(c:b_) ak r w,aW q m z (j++A) (.one c) ak->(∀i,i≠q->i≠id->ak i=blk i)->(r=rd/\w=[]\/r=q::rd/\w=[q]\/r=q::id::rd/\w=[id,q])->nc S al all os Q (dx h d (.one c)) ak (tr++[⟨r,w,[]⟩])):qg S al (ae blk q m z bytes v x) d all os Q h blk tr:=by
 obtain⟨R,u,r,E,n,N,y⟩:=Jv B O F L;obtain⟨c,o,rfl,_⟩:=n.iZ;rw[E,ab8];refine⟨?_,D _ _ _ _ n N y⟩;rcases y with⟨rfl,g⟩|⟨rfl,g⟩|⟨rfl,g⟩<;>rw[g]<;>refine RD λi H=>M i ?_ <;>simp at H |-
 .exact .inr (.inr H)
 .rcases H with f|f|f<;>simp[f]
 rcases H with f|f|f|f|f<;>simp[f]
theorem apm{f:Nat}{y:c7}{s:Nat}{rd:aA}{j fs:dC}(Y:∀i∈s::(s+1)::rd,al.ok i)(hp:aC S f y (.tup [.one (bn D B j),.one (bn E F fs)]))(fi:S.lone s=false)
  (R:(j.all λe=>e.all PV.scalar)) (T:(fs.all λe=>e.all PV.scalar))
  (N:∀(c e:b_) ak,aW s D B j (.one c) ak->aW (s+1) E F fs (.one e) ak->(∀i,i≠s->i≠s+1->ak i=blk i)->gV S al os Q (dx h d (.tup [.one c,.one e])) ak):iM S al (.pc f y rd s) d os Q h blk:=by
 have Z:(RV.tup [.one (bn D B j),.one (bn E F fs)]).alone:=by have a:=ff (m:=D) (z:=B) R;have b:=ff (m:=E) (z:=F) T;simp only[RV.alone,js,jW,oQ,qF,tk]at a b;simp[RV.alone,js,pO,jW,a,b]
 obtain⟨O,L,q⟩:=uK (blk:=blk) (s:=s) (m:=D) (z:=B) (j:=j);have M:∀(b H:aB) (k:Nat) (r:kj),H k=b k->ej b k r=ej H k r:=by
  intro b H k r x;cases r with
  |p v=>rfl
  |own m sz j=>simp only[ej,x]
 have X:ej blk (s+1) (bn E F fs)=ej (app (ej blk s (bn D B j)).2 blk) (s+1) (bn E F fs):=M _ _ _ _ (L (s+1) J);obtain⟨A,u,n⟩:=uK (blk:=app (ej blk s (bn D B j)).2 blk) (s:=s+1) (m:=E) (z:=F) (j:=fs);rw[<-X]at A u n;refine⟨_,hp,?_⟩;rw[fi,ti];have hl:d_ blk rd s (RV.tup [.one (bn D B j),.one (bn E F fs)])=some (.tup [.one (ej blk s (bn D B j)).1,.one (ej blk (s+1) (bn E F fs)).1],(ej blk s (bn D B j)).2++(ej blk (s+1) (bn E F fs)).2):=by unfold d_;rw[aM (.inr Z)];simp[gX,js,pO,jW,jo,rF,rr,m_]
 rw[hl];refine⟨RD λi g=>Y i ?_,N _ _ _ ?_ ?_ ?_⟩
 .simp only[q_,fB]at g;rcases g with g|g|g
  .simp[g]
  .rcases q with x|x<;>rw[x]at g<;>simp at g<;>simp[g]
  rcases n with x|x<;>rw[x]at g<;>simp at g<;>simp[g]
 .rw[u0];exact O.of_eq (u s J)
 .rw[u0];exact A
 intro i a b;rw[u0,u i b,L i a]
end
theorem bo{b:aB}{a i:Nat}{x:Nat×Option eN}(h:i≠a):cQ b a x i=b i:=by rw[bj,aD h]
theorem oJ{b:aB}{a:Nat}{x:Nat×Option eN}:cQ b a x a=x:=by rw[bj,aM rfl]
theorem LL{a i:Nat}{l:aA}(h:i∉l)(H:a∈l):i≠a:=λe=>h (e▸H)
section
variable {S:Sys} {al:bP} {Q:fp} {h:bD} {blk:aB} {os all:en} {tr:eI} {d:my}
theorem Zd{f:Nat}{y:c7}{s m z:Nat}{j:dC}{x:PV}(hp:aC S f y (.tup [.one (bn m z j),.one (.p x)]))(F:S.lone s=false)
  (g:∀(c:b_) ak,aW s m z j (.one c) ak->(∀i,i≠s->ak i=blk i)->gV S .all os Q (dx h d (.tup [.one c,.one (.p x)])) ak):iM S .all (.pc f y [] s) d os Q h blk:=by
 obtain⟨n,H,_⟩:=uK (blk:=blk) (s:=s) (m:=m) (z:=z) (j:=j);refine(bl (v:=.tup [.one (ej blk s (bn m z j)).1,.one (.p x)]) (u:=(ej blk s (bn m z j)).2) hp ?_).2 (g _ _ n H);rw[F,ti];unfold d_;rw[aM (.inl rfl)];simp[gX,js,pO,jW,jo,rF,rr,m_,ej]
theorem iN{f:Nat}{y:c7}{s m z:Nat}{rd:aA}{j:dC}(hp:aC S f y (.one (bn m z j)))(F:S.lone s=false)(q:rd=[]\/(RV.one (bn m z j)).alone)
  (n:∀(c:b_) ak w,aW s m z j (.one c) ak->(∀i,i≠s->ak i=blk i)->(w=[]\/w=[s])->nc S .all all os Q (dx h d (.one c)) ak (tr++[⟨rd++w,w,[]⟩])):qg S .all (.pc f y rd s) d all os Q h blk tr:=by
 obtain⟨r,H,g⟩:=uK (blk:=blk) (s:=s) (m:=m) (z:=z) (j:=j);refine(fT (v:=.one (ej blk s (bn m z j)).1) (u:=(ej blk s (bn m z j)).2) hp ?_).2 (n _ _ _ r H g);rw[F,ti];unfold d_;rw[aM q];simp[gX,js,jW,jo,rF,m_]
theorem Zg{f:Nat}{y:c7}{s m z:Nat}{j:dC}{x:PV}(hp:aC S f y (.tup [.one (bn m z j),.one (.p x)]))(F:S.lone s=false)
  (g:∀(c:b_) ak w,aW s m z j (.one c) ak->(∀i,i≠s->ak i=blk i)->(w=[]\/w=[s])->nc S .all all os Q (dx h d (.tup [.one c,.one (.p x)])) ak (tr++[⟨[]++w,w,[]⟩])):qg S .all (.pc f y [] s) d all os Q h blk tr:=by
 obtain⟨n,H,q⟩:=uK (blk:=blk) (s:=s) (m:=m) (z:=z) (j:=j);refine(fT (v:=.tup [.one (ej blk s (bn m z j)).1,.one (.p x)]) (u:=(ej blk s (bn m z j)).2) hp ?_).2 (g _ _ _ n H q);rw[F,ti];unfold d_;rw[aM (.inl rfl)];simp[gX,js,pO,jW,jo,rF,rr,m_,ej]
theorem WE{f:Nat}{y:c7}{s m z:Nat}{rd:aA}{j:dC}{x:PV}(hp:aC S f y (.agg [.p x,bn m z j]))(r:S.lone s=false)(g:x.scalar)(aa:(j.all λe=>e.all PV.scalar))
  (n:∀(c:b_) ak,aW (s+1) m z j (.one c) ak->(∀i,i≠s+1->ak i=blk i)->gV S .all os Q (dx h d (.agg [.p x,c])) ak):iM S .all (.pc f y rd s) d os Q h blk:=by
 obtain⟨q,H,_⟩:=uK (blk:=blk) (s:=s+1) (m:=m) (z:=z) (j:=j);have F:(RV.agg [.p x,bn m z j]).alone:=by have a:=ff (m:=m) (z:=z) aa;simp only[RV.alone,js,jW,oQ,qF,tk]at a;simp only[RV.alone,js,jW,oQ,qF,tk,a];exact g
 refine(bl (v:=.agg [.p x,(ej blk (s+1) (bn m z j)).1]) (u:=(ej blk (s+1) (bn m z j)).2) hp ?_).2 (n _ _ q H);rw[r,ti];unfold d_;rw[aM (.inr F)];simp[gX,js,jW,jo,rF,m_,ej]
theorem apU{f:Nat}{y:c7}{s m z:Nat}{j:dC}{x Y:PV}(hp:aC S f y (.tup [.agg [.p x,bn m z j],.one (.p Y)]))(F:S.lone s=false)
  (g:∀(c:b_) ak,aW (s+1) m z j (.one c) ak->(∀i,i≠s+1->ak i=blk i)->gV S .all os Q (dx h d (.tup [.agg [.p x,c],.one (.p Y)])) ak):iM S .all (.pc f y [] s) d os Q h blk:=by
 obtain⟨n,H,_⟩:=uK (blk:=blk) (s:=s+1) (m:=m) (z:=z) (j:=j);refine(bl (v:=.tup [.agg [.p x,(ej blk (s+1) (bn m z j)).1],.one (.p Y)]) (u:=(ej blk (s+1) (bn m z j)).2) hp ?_).2 (g _ _ n H);rw[F,ti];unfold d_;rw[aM (.inl rfl)];simp[gX,js,pO,jW,jo,rF,rr,m_,ej]
end
theorem Zn{c:b_}{y:PV}{blk:aB}(h:aW Z D B j (.one c) blk):hJ blk (.tup [.agg [.p x,c],.one (.p y)])=some (.tup [.agg [.p x,bn D B j],.one (.p y)]):=by obtain⟨n,o,g,H,f⟩:=h.iZ;cases g;have E:iZ blk (.p x)=some (.p x,[],[]):=rfl;have m:iZ blk (.p y)=some (.p y,[],[]):=rfl;rcases f with rfl|rfl<;>simp[hJ,pn,rl,lJ,kQ,H,E,m,pE,sr,qf,BY]
section
variable {S:Sys} {al:bP} {Q:fp} {h:bD} {blk:aB} {os all:en} {tr:eI} {d:my} {op:nK} {w:Option Bool} {a b:aO} {v:V}
theorem gY(L:aA)(H:∀e:bD,(∀k∈L,e k=h k)->mO S al w d op os Q e blk):mO S al w d op os Q h blk:=H h λ_ _=>rfl
theorem oH(L:aA)(H:∀e:bD,(∀k∈L,e k=h k)->s8 S al w d op all os Q e blk tr):s8 S al w d op all os Q h blk tr:=H h λ_ _=>rfl
theorem Wt(L:aA)(H:∀e:bD,(∀k∈L,e k=h k)->sd S al v a b Q e blk):sd S al v a b Q h blk:=H h λ_ _=>rfl
end
section
variable {S:Sys} {al:bP} {Q:fp} {h:bD} {blk:aB} {os all:en} {tr:eI} {d:my}
theorem aip{id q m z bytes:Nat}{j:dC}{v x:V}{rd fr:aA}(X:aW id m z j v blk)(E:eO blk x=some (A,rd,fr))(Y:sD blk fr)(F:id∉fr)(ab:q∉fr)(hz:lK x=some z\/ao z A)(M:(I j+I A)*bytes<=140737488355328)
  (D:∀(c:b_) ak r w,aW q m z (j++A) (.one c) ak->(∀i,i≠q->i≠id->i∉fr->ak i=blk i)->(r=rd++fr/\w=fr\/r=q::rd++fr/\w=fr++[q]\/r=q::id::rd++fr/\w=fr++[id,q])->nc S .all all os Q (dx h d (.one c)) ak (tr++[⟨r,w,[]⟩])):qg S .all (ae blk q m z bytes v x) d all os Q h blk tr:=by
 have N:¬¬(lK x=some z\/ao z A):=λad=>ad hz;obtain⟨f,O,u⟩:=X9 fr fr Y;have L:oa blk fr=some f:=O;rcases X with⟨rfl,rfl⟩|⟨aY,g,rfl,R⟩
 .by_cases y:A=[]
  .subst y;have:ae blk q m z bytes (.one (.p .nils)) x=.done (.one (.p .nils)) f (rd++fr):=by simp[ae,E,N,L]
   rw[this,GG];exact D _ _ _ _ (.inl ⟨rfl,rfl⟩) (λi _ _ H=>C1 _ _ _ (by rw[u];exact H)) (.inl ⟨rfl,u⟩)
  have hl:¬I A=0:=by simpa using y
  have n:I A*bytes<=kK:=by simpa [kK]using M
  have:ae blk q m z bytes (.one (.p .nils)) x=.done (.one (.hsl q ((blk q).1+1) z 0 (I A))) (f++[(q,((blk q).1+1,some (.arr m z A)))]) (q::rd++fr):=by simp only[ae,E,aD N,L,aD hl,aM n]
  rw[this,GG];refine D _ _ _ _ (.inr ⟨by simpa using y,(blk q).1+1,aG,?_⟩) (λi B _ H=>?_) (.inr (.inl ⟨rfl,by simp[u]⟩))
  .rw[u0];simp[app,bj]
  rw[u0];have:=C1 f blk i (by rw[u];exact H);simp[app,bj,B,this]
 have n:(I j+I A)*bytes<=kK:=by simpa [kK]using M
 have Z:fr.contains id=false:=by simpa using F
 have:ae blk q m z bytes (.one (.hsl id g z 0 (I j))) x=.done (.one (.hsl q ((blk q).1+1) z 0 (I j+I A))) (f++[(id,(g,none)),(q,((blk q).1+1,some (.arr m z (j++A))))]) (q::id::rd++fr):=by simp only[ae,E,aD N,L,R,Z];simp[n]
 rw[this,GG];refine D _ _ _ _ (.inr ⟨by simp[aY],(blk q).1+1,aG,?_⟩) (λi B T H=>?_) (.inr (.inr ⟨rfl,by simp[u]⟩))
 .rw[u0];simp[app,bj]
 rw[u0];have:=C1 f blk i (by rw[u];exact H);simp[app,bj,B,T,this]
theorem ap0{f:Nat}{y:c7}{s m z:Nat}{rd:aA}{j:dC}{x:PV}(hp:aC S f y (.tup [.one (bn m z j),.one (.p x)]))(r:S.lone s=false)(aa:(j.all λe=>e.all PV.scalar))(g:x.scalar)
  (n:∀(c:b_) ak,aW s m z j (.one c) ak->(∀i,i≠s->ak i=blk i)->gV S .all os Q (dx h d (.tup [.one c,.one (.p x)])) ak):iM S .all (.pc f y rd s) d os Q h blk:=by
 obtain⟨q,H,_⟩:=uK (blk:=blk) (s:=s) (m:=m) (z:=z) (j:=j);have F:(RV.tup [.one (bn m z j),.one (.p x)]).alone:=by have a:=ff (m:=m) (z:=z) aa;simp only[RV.alone,js,jW,oQ,qF,tk]at a;simp only[RV.alone,js,pO,jW,Ei,tz,jE,oQ,qF,tk,a,tI];exact g
 refine(bl (v:=.tup [.one (ej blk s (bn m z j)).1,.one (.p x)]) (u:=(ej blk s (bn m z j)).2) hp ?_).2 (n _ _ q H);rw[r,ti];unfold d_;rw[aM (.inr F)];simp[gX,js,pO,jW,jo,rF,rr,m_,ej]
end
section
variable {S:Sys} {al:bP} {Q:fp} {h:bD} {blk:aB} {os all:en} {tr:eI} {d:my} {op:nK} {a b:aO} {e w:Bool}
theorem jw(H:e->mO S al (some (true==w)) d op os Q h blk)(f:e=false->mO S al (some (false==w)) d op os Q h blk):mO S al (some (e==w)) d op os Q h blk:=by
 cases e
 .exact f rfl
 exact H rfl
theorem jv(H:e->mO S al (some (false==w)) d op os Q h blk)(f:e=false->mO S al (some (true==w)) d op os Q h blk):mO S al (some ((!e)==w)) d op os Q h blk:=by
 cases e
 .exact f rfl
 exact H rfl
theorem ju(H:e->s8 S al (some (true==w)) d op all os Q h blk tr)(f:e=false->s8 S al (some (false==w)) d op all os Q h blk tr):s8 S al (some (e==w)) d op all os Q h blk tr:=by
 cases e
 .exact f rfl
 exact H rfl
theorem jA(H:e->s8 S al (some (false==w)) d op all os Q h blk tr)(f:e=false->s8 S al (some (true==w)) d op all os Q h blk tr):s8 S al (some ((!e)==w)) d op all os Q h blk tr:=by
 cases e
 .exact f rfl
 exact H rfl
theorem jx(H:e->sd S al (.one (.p (.bool true))) a b Q h blk)(f:e=false->sd S al (.one (.p (.bool false))) a b Q h blk):sd S al (.one (.p (.bool e))) a b Q h blk:=by
 cases e
 .exact f rfl
 exact H rfl
theorem jB(H:e->sd S al (.one (.p (.bool false))) a b Q h blk)(f:e=false->sd S al (.one (.p (.bool true))) a b Q h blk):sd S al (.one (.p (.bool (!e)))) a b Q h blk:=by
 cases e
 .exact f rfl
 exact H rfl
theorem aaK{rd:aA}{s:Nat}(hp:aC S f y r)(m:d_ blk rd s (r.eU (S.lone s))=some (v,u)):iM S al (.pc f y rd s) d os Q h blk↔al.fG (rd++u.map (·.1))=true/\gV S al os Q (dx h d v) (app u blk):=by
 constructor
 .rintro ⟨Y,j,H⟩
  have:=j.xF hp;subst this;rw[m]at H;exact H
 intro g;refine⟨_,hp,?_⟩;rw[m];exact g
theorem Vt{rd:aA}{s:Nat}(hp:aC S f y r)(m:d_ blk rd s (r.eU (S.lone s))=some (v,u)):qg S al (.pc f y rd s) d all os Q h blk tr↔al.fG (rd++u.map (·.1))=true/\nc S al all os Q (dx h d v) (app u blk) (tr++[⟨rd++u.map (·.1),u.map (·.1),[]⟩]):=by
 constructor
 .rintro ⟨Y,j,H⟩
  have:=j.xF hp;subst this;rw[m]at H;exact H
 intro g;refine⟨_,hp,?_⟩;rw[m];exact g
theorem acM{s:Nat}(b:Bool):d_ blk [] s ((RV.one (.p x)).eU b)=some (.one (.p x),[]):=by cases b<;>rfl
theorem Uv{s:Nat}(H:aC S f y (.one (.p x))):iM S al (.pc f y [] s) d os Q h blk↔gV S al os Q (dx h d (.one (.p x))) blk:=by rw[aaK H (acM _)];exact⟨λH=>H.2,λH=>⟨rfl,H⟩⟩
theorem JU{s:Nat}(H:aC S f y (.one (.p x))):qg S al (.pc f y [] s) d all os Q h blk tr↔nc S al all os Q (dx h d (.one (.p x))) blk (tr++[⟨[],[],[]⟩]):=by rw[Vt H (acM _)];exact⟨λH=>H.2,λH=>⟨rfl,H⟩⟩
end
theorem aW.DP{c:b_}{blk:aB}(h:aW q m z j (.one c) blk):∃r,(∀B:aB,B q=blk q->Go.Abs.snap B Go.Abs.dS c=some (.sl j,r))/\(r=[]\/r=[q]):=by
 rcases h with⟨f,H⟩|⟨f,g,H,n⟩
 .cases H;exact⟨[],λB _=>by rw[f];rfl,.inl rfl⟩
 cases H;refine⟨[q],λB u=>?_,.inr rfl⟩;rw[<-u]at n;simp[Go.Abs.dS,Go.Abs.snap,n]
end
open Go
theorem acZ{blk:aB}{rd:aA}{s:Nat}(h:rd=[]\/r.alone):d_ blk rd s r=some (gX blk s r):=by unfold d_;rw[aM h]
section
variable {S:Sys} {al:bP} {Q:fp} {os all:en} {d:my} {h:bD} {blk:aB} {tr:eI}
theorem Dk{rd:aA}{s:Nat}(hp:aC S f y r)(L:S.lone s=false)(H:rd=[]\/r.alone):iM S al (.pc f y rd s) d os Q h blk↔al.fG (rd++(gX blk s r).2.map (·.1))=true/\gV S al os Q (dx h d (gX blk s r).1) (app (gX blk s r).2 blk):=aaK hp (by rw[L,ti];exact acZ H)
theorem Ms{rd:aA}{s:Nat}(hp:aC S f y r)(L:S.lone s=false)(H:rd=[]\/r.alone):qg S al (.pc f y rd s) d all os Q h blk tr↔al.fG (rd++(gX blk s r).2.map (·.1))=true/\nc S al all os Q (dx h d (gX blk s r).1) (app (gX blk s r).2 blk) (tr++[⟨rd++(gX blk s r).2.map (·.1),(gX blk s r).2.map (·.1),[]⟩]):=Vt hp (by rw[L,ti];exact acZ H)
end
theorem ao9{m z:Nat}{j:dC}(h:j≠[]):bn m z j=.own m z j:=aD h
theorem GY{p:Nat->Prop}:(∀k∈([]:aA),p k)↔True:=by simp
theorem Fg{a:Nat}{l:aA}{p:Nat->Prop}:(∀k∈a::l,p k)↔p a/\ ∀k∈l,p k:=List.forall_mem_cons
attribute [go_sem] GY Fg vQ bne_self_eq_false Bool.or_true Bool.or_false Bool.true_or Bool.false_or Bool.not_not gX js jW pO ej jo rF m_ rr Option.getD_some Option.getD_none Option.isSome_some Option.isSome_none
attribute [go_sem ↓] ahC agR aow aqy ahB agL agX aqM aiI afk aiD aqK af9 alk ag9 aed anQ akx ar0 afA alf an6 ali aii arJ ahu
attribute [go_sem high] G2 GG
attribute [go_sem] aj1 air amE arV aeJ akz amW ahj ags aih afv agH afP asB bj alW anP arj aog aoX aqo ag1 aoR asc aoM agj alg aql agt aiL ae3 afC anq ajI ao1 apb aqC aeD apg ajV ahp RG aia apw ajW apK apl anz an1 aoH akW List.map_nil List.append_nil List.map_cons List.cons_append List.nil_append List.drop_zero List.take_zero List.length_cons List.length_nil List.take_succ_cons List.drop_nil List.drop_succ_cons List.length_map List.take_nil List.flatten_cons List.getElem?_cons_zero List.getElem?_cons_succ List.all_nil List.all_cons List.not_mem_nil Option.map_some Bool.false_eq_true Bool.not_true Bool.not_false Bool.and_true Bool.and_false Bool.true_and Bool.false_and true_and and_true true_or or_true false_or or_false decide_true decide_false not_true_eq_false not_false_eq_true and_self Nat.le_refl Nat.zero_add Nat.mul_one Nat.zero_mul Nat.zero_le Nat.sub_zero Int.zero_add abT ab8 So Rt Bool.and_self bP.Au
attribute [go_sem] bU Ls EN Ae BJ app if_true if_false reduceIte Nat.reduceEqDiff beq_self_eq_true reduceCtorEq ge_iff_le mq LD uE AG Nat.reduceAdd x_ ob vH ez qp vO ne_eq Nat.reduceLeDiff vi wI w5 xc LG yK Nat.reduceMul Nat.reduceLT MV JJ
attribute [go_sem] eO lK oa pT kK yP qB Nat.reduceSub Int.reduceLT Int.reduceAdd Int.reduceBEq Int.reduceBNe Int.reduceLE List.contains_eq_mem tp
end Go.Abs
