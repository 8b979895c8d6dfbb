/-
  Apply for the last kinds; what is possible and allowed.
-/
import Derived.Test.YtnbfnkckmfibpaaGreatDoorVl
import Derived.Test.YtnbfnkckmfibpaaGreatDoorVh
set_option linter.unusedSimpArgs false
set_option linter.unusedVariables false
set_option linter.unusedSectionVars false
set_option maxRecDepth 100000
set_option maxHeartbeats 16000000
namespace Go.Abs
section
variable{F:Nat}{ls:List ae}
theorem zQ:S.sites 24=[23,24]:=by kernel_rfl
def Ba(b c:Nat)(i:Int):ae:=⟨1,b,(c:Int)+i,0,0,false⟩
def daF(F:Nat)(ls:List ae)(a b c:Nat):Bool:=decide ((b,c)∈(aA F ls (2*a)).places)
def OL(F:Nat)(ls:List ae)(a b c:Nat):List ae:=
 dQ (ls.map (jV b c (-2))) (if daF F ls a b c != !dn ls (a+1) then [Ba b c 2,Ba b c 1] else [Ba b c 1,Ba b c 2]) a
def ON(ls:List ae)(a:Nat):List Bool:=dQ (fj ls) [dn ls (a+1),!dn ls (a+1)] a
section
variable {al:Al} {Q:cZ} {os all:List az} {d:Option Nat} {env:Env} {Tc:aB} {tr:List dE}
theorem Rm{id s g ty z:Nat}{es:List (List PV)}{r:RV}{f:Nat}{vs:List V}(hp:aH S f vs r)(lo:S.lone s=false)(ha:r.alone=false)(hb:Tc id=(g,some (.arr ty z es))):dP S al (.pc f vs [id] s) d all os Q env Tc tr↔al.kB ([id]++(id::(lm Tc s r).2.map (·.1)))=true/\RD S al all os Q (put env d (lm Tc s r).1) (app (lm Tc s r).2 (fD Tc id (g,some (.Ul ty z es)))) (tr++[⟨[id]++(id::(lm Tc s r).2.map (·.1)),id::(lm Tc s r).2.map (·.1),[]⟩]):=by
 refine wE (u:=(id,(g,some (.Ul ty z es)))::(lm Tc s r).2) hp ?_;rw[lo,cQ];unfold land;rw[if_neg (by simp[ha])];simp[DN,o9,sD,hb]
theorem Lt{idL gL idD gD n m:Nat}{L:List ae}{D:List Bool}{g ab Uu:Int}(o1:al.ok idL=true)(o2:al.ok idD=true)(ofs:(S.sites 23).all al.fs.contains=true)(n2:idL≠1472000000)(hl:L.length<=1000000)(hw: ∀ x∈L,IntKind.i64.wrap (x.Th - Uu)=x.Th - Uu)(hL:Tc idL=(gL,some (.arr eH 6 (bn L))))(hD:Tc idD=(gD,some (.arr 4 1 (bP D))))(hn:n=L.length)(hm:m=D.length)
  (hK: ∀ Td,Td idL=(gL,some (.arr eH 6 (bn (L.map (jV g ab Uu)))))->(∀ i,i≠idL->i≠1472000000->Td i=Tc i)->RN S al os Q (put env d (.tup [])) Td):
  gP S al (.sc 23 [Is idL gL idD gD n m,vi g,vi ab,vi Uu]) d os Q env Tc:=by
 subst hn hm;have hr:=ni (n:=L.length) (m:=D.length) hL hD;refine fg (P:=u4 idL gL 1472000000 (L.map (jV g ab Uu)) Tc) (holds_of ?_ ofs) (J0 (cK ?_) (eW (by rw[ud];decide)) n2 hl hL hw) ?_
 ·show al.kB (([Is idL gL idD gD L.length D.length,vi g,vi ab,vi Uu]:List V).map (co Tc)).flatten=true;simp only[aas,aaI,hr];have e: ∀ x:Int,co Tc (vi x)=[]:=fun _=>rfl
  simp[Al.kB,o1,o2,e]
 ·simp only[aas,aaI,hr];simp
 ·rintro v Td ⟨rfl,h1,h2⟩
  exact hK Td h1 fun i a b=>h2 i (by simp[a,b])
end
def LV(idL idF:Nat)(L:List ae)(D:List Bool)(Tc:aB)(v:V)(Td:aB):Prop:= ∃ g1 g2,v= .agg [.hsl 1536640448 g1 6 0 L.length, .hsl 1536640449 g2 1 0 D.length]/\Td 1536640448=(g1,some (.arr eH 6 (bn L)))/\Td 1536640449=(g2,some (.arr 4 1 (bP D)))/\Kept (fun i=>i=idL\/i=idF\/bY i=23\/bY i=24) Tc Td
theorem FN(g:bj F ls){al:Al}{Tc:aB}{idL gL idD gD idF gF:Nat}(a b c:Nat)(l o:Bool)(sg:Int)(o1:al.ok idL=true)(o2:al.ok idD=true)(o4:al.ok idF=true)(o3: ∀ i,bY i=23\/bY i=24->al.ok i=true)(ofs:(S.sites 23).all al.fs.contains=true)(n1:bY idL≠23)(n2:bY idL≠24)(n3:bY idD≠23)(n4:bY idD≠24)(n5:bY idF≠23)(n6:bY idF≠24)(nLD:idL≠idD)(nLF:idL≠idF)(nDF:idD≠idF)(ha:a<ls.length)(hc:c<=1000)(hl:ls.length<=400)(U2: ∀ x∈ls,IntKind.i64.wrap (x.Th - -2)=x.Th - -2)
  (hL:Tc idL=(gL,some (.arr eH 6 (bn ls)))) (hD:Tc idD=(gD,some (.arr 4 1 (bP (fj ls))))) (hF:Tc idF=(gF,some (.arr lS 5 (lZ (ay F ls))))) (TD:(aA F ls (2*a)).places.length<=1000000):
  ∃ v Td,pz S 24 [.agg [.p (.int .i64 F), .p (tY ls), .p (.int .i64 ls.length), .hsl idF gF 5 0 (ay F ls).length],Is idL gL idD gD ls.length ls.length,dL 2 a b c l o sg] al Tc v Td/\LV idL idF (OL F ls a b c) (ON ls a) Tc v Td:=by
 have pf:=wm g ha true;have po:aH S 58 [.agg [.p (.bool (aA F ls (2*a)).Tu), .p (.sl (nP (aA F ls (2*a)).Tl)), .p (.sl (fv (aA F ls (2*a)).places)), .p (.sl (nP (aA F ls (2*a)).TF)), .p (.bool (aA F ls (2*a)).outer)], .agg [.p (.int .i64 b), .p (.int .i64 c)]] (rb (decide ((b,c)∈(aA F ls (2*a)).places))):=QN (aA F ls (2*a)) (b,c) TD;have pb:=Hd (F:Int) ls a (by omega) ha;have hn:((ls.length:Int)==0)=false:=beq_false_of_ne (by omega);have l1:S.lone 1536320192=false:=by kernel_rfl
 have l3:S.lone 1536640448=false:=by kernel_rfl
 have w1:IntKind.i64.wrap ((c:Int)+1)=(c:Int)+1:=dd (by omega) (by omega);have w2:IntKind.i64.wrap ((c:Int)+2)=(c:Int)+2:=dd (by omega) (by omega);have XB:idL≠1536000000:=fun h=>n2 (by rw[h];rfl)
 have XA:idL≠1536000064:=fun h=>n2 (by rw[h];rfl)
 have Xz:idL≠1536000128:=fun h=>n2 (by rw[h];rfl)
 have Xy:idL≠1536000192:=fun h=>n2 (by rw[h];rfl)
 have Xx:idL≠1536064384:=fun h=>n2 (by rw[h];rfl)
 have Xw:idL≠1536128384:=fun h=>n2 (by rw[h];rfl)
 have X9:idL≠1536640448:=fun h=>n2 (by rw[h];rfl)
 have X8:idL≠1536640449:=fun h=>n2 (by rw[h];rfl)
 have Yp:idD≠1536000000:=fun h=>n4 (by rw[h];rfl)
 have Yo:idD≠1536000064:=fun h=>n4 (by rw[h];rfl)
 have Yn:idD≠1536000128:=fun h=>n4 (by rw[h];rfl)
 have Ym:idD≠1536000192:=fun h=>n4 (by rw[h];rfl)
 have Yl:idD≠1536064384:=fun h=>n4 (by rw[h];rfl)
 have Yk:idD≠1536128384:=fun h=>n4 (by rw[h];rfl)
 have Yj:idD≠1536640448:=fun h=>n4 (by rw[h];rfl)
 have Yi:idD≠1536640449:=fun h=>n4 (by rw[h];rfl)
 have Yh:idF≠1536000000:=fun h=>n6 (by rw[h];rfl)
 have Yg:idF≠1536000064:=fun h=>n6 (by rw[h];rfl)
 have Yf:idF≠1536000128:=fun h=>n6 (by rw[h];rfl)
 have Ye:idF≠1536000192:=fun h=>n6 (by rw[h];rfl)
 have Yd:idF≠1536064384:=fun h=>n6 (by rw[h];rfl)
 have Yc:idF≠1536128384:=fun h=>n6 (by rw[h];rfl)
 have Yb:idF≠1536640448:=fun h=>n6 (by rw[h];rfl)
 have Ya:idF≠1536640449:=fun h=>n6 (by rw[h];rfl)
 have mLB:idL≠1472000000:=fun h=>n1 (by rw[h];rfl)
 have mDB:idD≠1472000000:=fun h=>n3 (by rw[h];rfl)
 have mFB:idF≠1472000000:=fun h=>n5 (by rw[h];rfl)
 have k0:al.ok 1536000000=true:=o3 _ (.inr rfl);have k1:al.ok 1536000064=true:=o3 _ (.inr rfl);have k2:al.ok 1536000128=true:=o3 _ (.inr rfl);have k3:al.ok 1536000192=true:=o3 _ (.inr rfl);have k4:al.ok 1536064384=true:=o3 _ (.inr rfl);have k5:al.ok 1536128384=true:=o3 _ (.inr rfl);have k6:al.ok 1536640448=true:=o3 _ (.inr rfl);have k7:al.ok 1536640449=true:=o3 _ (.inr rfl);simp only[if_true] at pf;unfold OL ON daF;generalize hf:aA F ls (2*a)=f at*;generalize hon:decide ((b,c)∈f.places)=on at*;generalize UE:dn ls (a+1)=dw at*;refine eY c24 (aaN rfl) ?_
 simp only[go_sem,i24,k0,k1,k2,k3,k4,k5,Yh,Yg,Yf,Ye,Yd,Yc,hF,hn,w1,w2,fE,s59]
 rw[Rm (g:=gF) (ty:=lS) (z:=5) (es:=lZ (ay F ls)) pf l1 rfl (by simp only[go_sem,Yh,Yg,Yf,Ye,Yd,Yc,hF])]
 simp only[go_sem,k0,k1,k2,XB,XA,Xz,Xy,Xx,Xw,Yp,Yo,Yn,Ym,Yl,Yk,Yh.symm,Yg.symm,Yf.symm,nLF,nDF,o4,hL,hD,s58,LW po,s60,PN pb,s23]
 refine⟨au (by simp[dX,vw,kS,meets,rk,Yf,Yh.symm,Yf.symm]<;>decide),?_⟩
 refine Lt (L:=ls) (D:=fj ls) o1 o2 ofs mLB (by omega) U2 (by simp only[go_sem,XB,XA,Xz,Xy,Xx,Xw,nLF,hL]) (by simp only[go_sem,Yp,Yo,Yn,Ym,Yl,Yk,nDF,hD]) rfl (bJ ls).symm fun b1 hL1 hb=> ?_
 have z0:=hb 1536000000 XB.symm (by decide);have z1:=hb 1536000064 XA.symm (by decide);have z2:=hb 1536000128 Xz.symm (by decide);have z3:=hb 1536000192 Xy.symm (by decide);have z4:=hb 1536064384 Xx.symm (by decide);have z5:=hb 1536128384 Xw.symm (by decide);have zD:=hb idD nLD.symm mDB
 simp only[go_sem,Yp,Yo,Yn,Ym,Yl,Yk,Yh.symm,Yg.symm,Yf.symm,Ye.symm,Yd.symm,Yc.symm,nDF,hD] at z0 z1 z2 z3 z4 z5 zD;have hkb:Kept (fun i=>i=idL\/i=idF\/bY i=23\/bY i=24) Tc b1:=by
  intro i hi;have i1:i≠idL:=fun h=>hi (.inl h)
  have i2:i≠idF:=fun h=>hi (.inr (.inl h))
  have i3:i≠1472000000:=fun h=>hi (.inr (.inr (.inl (by rw[h];rfl))))
  rw[hb i i1 i3];have j0:i≠1536000000:=fun h=>hi (.inr (.inr (.inr (by rw[h];rfl))))
  have j1:i≠1536000064:=fun h=>hi (.inr (.inr (.inr (by rw[h];rfl))))
  have j2:i≠1536000128:=fun h=>hi (.inr (.inr (.inr (by rw[h];rfl))))
  have j3:i≠1536000192:=fun h=>hi (.inr (.inr (.inr (by rw[h];rfl))))
  have j4:i≠1536064384:=fun h=>hi (.inr (.inr (.inr (by rw[h];rfl))))
  have j5:i≠1536128384:=fun h=>hi (.inr (.inr (.inr (by rw[h];rfl))))
  have j6:i≠1536640448:=fun h=>hi (.inr (.inr (.inr (by rw[h];rfl))))
  have j7:i≠1536640449:=fun h=>hi (.inr (.inr (.inr (by rw[h];rfl))))
  simp only[go_sem,i2,j0,j1,j2,j3,j4,j5]
 clear hb;have nL1:(ls.map (jV (b:Int) (c:Int) (-2))).length=ls.length:=aak _;generalize ls.map (jV (b:Int) (c:Int) (-2))=L1 at*;have q1: ∀ (g r g' r':Int) (e:Bool),aH S 29 [PT L1 (fj ls),vi a, .agg [.p (.int .i64 1), .p (.int .i64 g), .p (.int .i64 r), .p (.int .i64 0), .p (.int .i64 0), .p (.bool false)], .agg [.p (.int .i64 1), .p (.int .i64 g'), .p (.int .i64 r'), .p (.int .i64 0), .p (.int .i64 0), .p (.bool false)],vb e] (OH (dQ L1 [⟨1,g,r,0,0,false⟩,⟨1,g',r',0,0,false⟩] a) (dQ (fj ls) [e,!e] a)):=fun g r g' r' e=>by
  have h:=lI L1 (fj ls) a ⟨1,g,r,0,0,false⟩ ⟨1,g',r',0,0,false⟩ e (by omega) ((bJ ls).trans nL1.symm) (by omega);rw[dY (iT (n:=ls.length+1) (by rw[bl,nL1];rfl)) (by rw[bl,bl,bJ,nL1];rfl)] at h;exact h
 have tk:List.take ls.length (bn L1)=bn L1:=by rw[<- nL1];exact cU L1
 have tb:List.take ls.length (bP (fj ls))=bP (fj ls):=aau (by rw[mK,bJ];omega);have bft:(false==true)=false:=rfl;have btf:(true==false)=false:=rfl;have aeD:(false !=true)=true:=rfl;have aeC:(true !=false)=true:=rfl;have btt:(true !=true)=false:=rfl;have bff:(false !=false)=false:=rfl
 cases on<;>cases dw<;>simp only[go_sem,k1,k2,k3,k4,k5,k6,k7,Xx,Xw,Yl,Yk,o1,o2,hL1,z1,z2,z3,z4,z5,zD,aeD,aeC,bG,mK,bJ,nL1,tk,tb,s29,bx (q1 _ _ _ _ _) l3 (.inr (fq _ _))]
 all_goals
  refine⟨_,_,rfl,?_,?_,?_⟩
  ·simp only[go_sem];rfl
  ·simp only[go_sem]
  ·repeat' (first|exact hkb|refine Kept.fD ?_ (.inr (.inr (.inr rfl))) _)
theorem OC(F:Nat)(ls:List ae)(a b:Nat)(l o:Bool):(OD F ls a b l o).length=ls.length+4:=by
 unfold OD;rw[GB];split<;>rfl
theorem OE(ls:List ae)(a b:Nat):(OF ls a b).length=ls.length+4:=by
 unfold OF;rw[GB,bJ];rfl
theorem OK(F:Nat)(ls:List ae)(a b c:Nat):(OL F ls a b c).length=ls.length+2:=by
 unfold OL;rw[bl,aak];split<;>rfl
theorem OM(ls:List ae)(a:Nat):(ON ls a).length=ls.length+2:=by
 unfold ON;rw[bl,bJ];rfl
theorem ve{Tc:aB}{idL gL idD gD idF gF n m q:Nat}{L:List ae}{D:List Bool}{es:List (List PV)}{x y z p1 p2 p3 p4 p5 p6 p7:PV}(hF:Tc idF=(gF,some (.arr lS 5 es)))(hL:Tc idL=(gL,some (.arr eH 6 (bn L))))(hD:Tc idD=(gD,some (.arr 4 1 (bP D)))):
  (([.agg [.p x, .p y, .p z, .hsl idF gF 5 0 q],Is idL gL idD gD n m, .agg [.p p1, .p p2, .p p3, .p p4, .p p5, .p p6, .p p7]]:List V).map (co Tc)).flatten=[idF,idL,idD]:=by
 have a:co Tc (.one (.hsl idF gF 5 0 q))=[idF]:=iR hF;have b:=ni (n:=n) (m:=m) hL hD;have e: ∀ v:PV,dG Tc bN (.p v)=[]:=fun _=>rfl
 simp only[aas,aaI,b];simp only[co] at a ⊢;simp[a,e]
theorem SV(g:bj F ls)(i j:Nat)(c:Int)(l o:Bool)(sg:Int)(hi:i<ls.length)(hj:j<ls.length)(hl:ls.length<=400):
  aH S 9 [aQ F ls,dL 7 i j c l o sg] (uA F (OD F ls i j l o) (OF ls i j)):=by
 have pof:=vx g;have po:=jY (F:Int) ls (by omega);have l1:S.lone 576064064=false:=by kernel_rfl
 have l2:S.lone 576128064=false:=by kernel_rfl
 have l4:S.lone 579136128=false:=by kernel_rfl
 rw[bm (nL g)] at pof;have U8:=dY g.ne (bJ ls);simp only[Db] at U8;rw[U8] at po;have pm:=EF g i j c l o sg hi hj hl;have l3:S.lone 578304192=false:=by kernel_rfl
 have n1:=OC F ls i j l o;have n2:=OE ls i j;generalize OD F ls i j l o=L2 at*;generalize OF ls i j=D2 at*;have pcl:=fI (F:Int) ls L2 D2 (by omega) (n2.trans n1.symm);have TE:(mP L2 D2).length=L2.length:=ir _ _;have UV:mP L2 D2≠[]:=fun e=>by rw[e] at TE;simp only[aav] at TE;omega
 simp only[uA];rw[bm (fX UV)] at pcl ⊢;refine aG c9 ?_;simp only[go_sem,i9,s17,bx pof l1 (.inl rfl)];simp only[go_sem,s19,bx po l2 (.inl rfl),cU,eR,fE,s30,bx pm l3 (.inr (fq _ _)),i9_r3,s32,bx pcl l4 (.inr (eV _ _))];simp[en,et,cb,dg,eo,af,apart,eZ,cX,cU]
theorem S1(g:bj F ls)(i b c:Nat)(l o:Bool)(sg:Int)(hi:i<ls.length)(hc:c<=1000)(hl:ls.length<=400)(U2: ∀ x∈ls,IntKind.i64.wrap (x.Th - -2)=x.Th - -2)(TD:(aA F ls (2*i)).places.length<=1000000):
  aH S 9 [aQ F ls,dL 2 i b c l o sg] (uA F (OL F ls i b c) (ON ls i)):=by
 have pof:=vx g;have po:=jY (F:Int) ls (by omega);have l1:S.lone 576064064=false:=by kernel_rfl
 have l2:S.lone 576128064=false:=by kernel_rfl
 have l4:S.lone 579136128=false:=by kernel_rfl
 rw[bm (nL g)] at pof;have U8:=dY g.ne (bJ ls);simp only[Db] at U8;rw[U8] at po;have n1:=OK F ls i b c;have n2:=OM ls i;refine aG c9 ?_;simp only[go_sem,i9,s17,bx pof l1 (.inl rfl)];simp only[go_sem,s19,bx po l2 (.inl rfl),cU,fE,bJ,s24]
 refine fg (P:=LV 576128064 576064067 (OL F ls i b c) (ON ls i) _) da (FN g i b c l o sg (cK ?_) (cK ?_) (cK ?_) (fun q hq=>eW (by rcases hq with h|h<;>rw[h,zQ]<;>decide)) ?_ (by decide) (by decide) (by decide) (by decide) (by decide) (by decide) (by decide) (by decide) (by decide) hi hc hl U2 (by simp only[go_sem]) (by simp only[go_sem]) (by simp only[go_sem]) TD) ?_
 ·rw[ve (L:=ls) (D:=fj ls) (es:=lZ (ay F ls))]
  ·simp
  all_goals simp only[go_sem]
 ·rw[ve (L:=ls) (D:=fj ls) (es:=lZ (ay F ls))]
  ·simp
  all_goals simp only[go_sem]
 ·rw[ve (L:=ls) (D:=fj ls) (es:=lZ (ay F ls))]
  ·simp
  all_goals simp only[go_sem]
 ·show(S.sites 23).all (S.sites 24).contains=true;rw[ud,zQ];decide
 rintro v b1 ⟨g1,g2,rfl,h1,h2,hk⟩
 have q0:=hk 576000000 (by decide);have q1:=hk 576000128 (by decide);have q2:=hk 576128128 (by decide);simp only[go_sem] at q0 q1 q2;clear hk;generalize OL F ls i b c=L2 at*;generalize ON ls i=D2 at*;have pcl:=fI (F:Int) ls L2 D2 (by omega) (n2.trans n1.symm);have TE:(mP L2 D2).length=L2.length:=ir _ _;have UV:mP L2 D2≠[]:=fun e=>by rw[e] at TE;simp only[aav] at TE;omega
 simp only[uA];rw[bm (fX UV)] at pcl ⊢;simp only[go_sem,h1,h2,q0,q1,q2,cU,eR,i9_r3,s32,bx pcl l4 (.inr (eV _ _))];simp[en,et,cb,dg,eo,af,apart,eZ,cX,cU]
def Sg(n cc k:Int):Int × Int:=if k==2 then (n+2,cc) else if k==5 then (n+2,cc+1) else if k==7 then (n+4,cc+2) else (n,cc)
def alR(w p:Bool)(n cc k:Int):Int:=if w then 2 else if p then (if decide (400<(Sg n cc k).1)||decide (100<(Sg n cc k).2) then 7 else 0) else 4
theorem sX{k a b c:Int}{l o:Bool}{sg:Int}{w p:Bool}(hl:ls.length<=400)(pw:aH S 54 [kZ F ls,dL k a b c l o sg] (rb w))(pp:w=false->aH S 55 [kZ F ls,dL k a b c l o sg] (rb p)):
  aH S 18 [kZ F ls,dL k a b c l o sg] (ri (alR w p ls.length (aD ae.aJ ls/2:Nat) k)):=by
 have pcr:=js (F:Int) ls (by omega);have Wt:aD ae.aJ ls<=ls.length:=dS _ _;have VH:aD ae.aJ ls/2<=400:=by omega
 generalize aD ae.aJ ls/2=cc at*;have w1:IntKind.i64.wrap ((cc:Int)+1)=(cc:Int)+1:=dd (by omega) (by omega);have w2:IntKind.i64.wrap ((cc:Int)+2)=(cc:Int)+2:=dd (by omega) (by omega);have w3:IntKind.i64.wrap ((ls.length:Int)+2)=(ls.length:Int)+2:=dd (by omega) (by omega);have w4:IntKind.i64.wrap ((ls.length:Int)+4)=(ls.length:Int)+4:=dd (by omega) (by omega);unfold alR Sg;cases w with
 |true=>
  refine aG c18 ?_;simp only[go_sem,i18,s54,aa pw];repeat' ((first|apply gO|apply gQ|apply gT|apply gU|apply gV|apply gX)<;>intro he<;>simp only[go_sem, *,s54,aa pw,bne,ac])
  all_goals(first|done|exact au|exact⟨au,rfl⟩|rfl)
 |false=>
  have pp:=pp rfl;cases p with
  |false=>
   refine aG c18 ?_;simp only[go_sem,i18,s54,aa pw,s55,aa pp];repeat' ((first|apply gO|apply gQ|apply gT|apply gU|apply gV|apply gX)<;>intro he<;>simp only[go_sem, *,s54,aa pw,s55,aa pp,bne,ac])
   all_goals(first|done|exact au|exact⟨au,rfl⟩|rfl)
  |true=>
   refine aG c18 ?_;simp only[go_sem,i18,s54,aa pw,s55,aa pp,s28,bg pcr];refine⟨au,?_⟩;repeat' ((first|apply gO|apply gQ|apply gT|apply gU|apply gV|apply gX)<;>intro he<;>simp only[go_sem, *])
   all_goals(first|done|exact au|exact⟨au,rfl⟩|rfl)
theorem ze(g:bj F ls){k a b c:Int}{l o:Bool}{sg v:Int}(h:aH S 18 [kZ F ls,dL k a b c l o sg] (ri v)):aH S 7 [aQ F ls,dL k a b c l o sg] (ri v):=by
 have pof:=vx g;have l1:S.lone 448064064=false:=by kernel_rfl
 rw[bm (nL g)] at pof;refine aG c7 ?_;simp only[go_sem,i7,s17,iJ pof l1 (.inl rfl),fE,s18,bg h];exact au
theorem NA(g:bj F ls){i j:Nat}{c:Int}{l o:Bool}{sg:Int}(hi:i<ls.length)(hj:j<ls.length):aH S 55 [kZ F ls,dL 3 i j c l o sg] (rb (Qw F ls i j)):=by
 have ps:=JX g hi hj;refine aG c55 ?_;simp only[go_sem,i55,s94,aa ps];repeat' ((first|apply gO|apply gQ|apply gT|apply gU|apply gV|apply gX)<;>intro he<;>simp only[go_sem, *,s94,aa ps,bne,ac])
 all_goals(first|done|exact au|exact⟨au,rfl⟩|rfl)
theorem Nx(g:bj F ls){i j:Nat}{c:Int}{l o:Bool}{sg:Int}(hi:i<ls.length)(hj:j<ls.length):aH S 55 [kZ F ls,dL 6 i j c l o sg] (rb (Rh F ls i j)):=by
 have ps:=NN g hi hj;refine aG c55 ?_;simp only[go_sem,i55,s96,aa ps];repeat' ((first|apply gO|apply gQ|apply gT|apply gU|apply gV|apply gX)<;>intro he<;>simp only[go_sem, *,s96,aa ps,bne,ac])
 all_goals(first|done|exact au|exact⟨au,rfl⟩|rfl)
theorem Nv(g:bj F ls){i j k:Nat}{l o:Bool}{sg:Int}(hi:i<ls.length)(hj:j<ls.length)(hk:k<ls.length):aH S 55 [kZ F ls,dL 8 i j k l o sg] (rb (MY F ls [i,j,k])):=by
 have ps:=JG g hi hj hk;refine aG c55 ?_;simp only[go_sem,i55,s97,aa ps];repeat' ((first|apply gO|apply gQ|apply gT|apply gU|apply gV|apply gX)<;>intro he<;>simp only[go_sem, *,s97,aa ps,bne,ac])
 all_goals(first|done|exact au|exact⟨au,rfl⟩|rfl)
theorem Ny{a b c:Int}{l o:Bool}{sg:Int}:aH S 55 [kZ F ls,dL 5 a b c l o sg] (rb (true)):=by
 refine aG c55 ?_;simp only[go_sem,i55];repeat' ((first|apply gO|apply gQ|apply gT|apply gU|apply gV|apply gX)<;>intro he<;>simp only[go_sem, *,ae.ps,bne,ac])
 all_goals(first|done|exact au|exact⟨au,rfl⟩|rfl)
theorem Nz(g:bj F ls){i:Nat}{b c:Int}{l o:Bool}{sg:Int}(hi:i<ls.length):aH S 55 [kZ F ls,dL 4 i b c l o sg] (rb (xB ls i&&((lA ls i).id==(lA ls (nx ls i)).id))):=by
 have ps:=oR (F:=F) hi (by have:=g.len;omega);have l1:S.lone 3520704192=false:=by kernel_rfl
 have pc:=ps;generalize lA ls i=X at*;generalize lA ls (nx ls i)=Y at*;generalize xB ls i=e at*;refine aG c55 ?_;simp only[go_sem,i55,s95,bx pc l1 (.inl rfl)];repeat' ((first|apply gO|apply gQ|apply gT|apply gU|apply gV|apply gX)<;>intro he<;>simp only[go_sem, *])
 all_goals(first|done|exact au|exact⟨au,rfl⟩|rfl)
theorem Nw(g:bj F ls){i j:Nat}{c:Int}{l o:Bool}{sg:Int}(hi:i<ls.length)(hj:j<ls.length):aH S 55 [kZ F ls,dL 7 i j c l o sg] (rb (decide (2*j∈(aA F ls (if l then 2*i else 2*i+1)).Tl)||decide (2*j+1∈(aA F ls (if l then 2*i else 2*i+1)).Tl))):=by
 have pf:=wm g hi l;have hlen:=g.len;have hd:(aA F ls (if l then 2*i else 2*i+1)).Tl.length<=1000000:=by
  have h:=ia (F:=F) g.ok (adt (yR (F:=F) (ls:=ls) (d:=if l then 2*i else 2*i+1) (by split<;>omega)));have nJ:(ah ls).length<=ls.length:=cn ls ls.length;simp only[nD] at h;omega
 have ph1:=rn (aA F ls (if l then 2*i else 2*i+1)).Tl (2*j) hd;have Xq:=rn (aA F ls (if l then 2*i else 2*i+1)).Tl (2*j+1) hd;have w1:IntKind.i64.wrap (2*(j:Int))=((2*j:Nat):Int):=dd (by omega) (by omega);have w2:IntKind.i64.wrap (((2*j:Nat):Int)+1)=((2*j+1:Nat):Int):=am (by omega);have l1:S.lone 3521024320=false:=by kernel_rfl
 generalize aA F ls (if l then 2*i else 2*i+1)=f at*;generalize decide (2*j∈f.Tl)=h1 at*;generalize decide (2*j+1∈f.Tl)=h2 at*;refine aG c55 ?_;simp only[go_sem,i55,s59,bx pf l1 (.inl rfl),s57,aa ph1,w1];repeat' ((first|apply gO|apply gQ|apply gT|apply gU|apply gV|apply gX)<;>intro he<;>simp only[go_sem, *,s57,aa Xq])
 all_goals(first|done|exact au|exact⟨au,rfl⟩|rfl)
theorem NE(g:bj F ls){i:Nat}{b c:Int}{l o:Bool}{sg:Int}(hi:i<ls.length)(ha:Sa (lA ls i))(hb:Sa (lA ls (nx ls i))):aH S 55 [kZ F ls,dL 1 i b c l o sg] (rb (lG (lA ls i) (lA ls (nx ls i))&&(decide ((2:Int)<(aD ae.bq ls:Nat))||(((aD ae.aJ ls/2:Nat):Int)==0)))):=by
 have hlen:=g.len;have pb:=sR (F:=F) hi (by omega);have pn:=KH _ _ ha hb;have pp:=B2 (F:Int) ls (by omega);have pc:=js (F:Int) ls (by omega);have l1:S.lone 3520192192=false:=by kernel_rfl
 generalize lG (lA ls i) (lA ls (nx ls i))=nb at*;generalize lA ls i=X at*;generalize lA ls (nx ls i)=Y at*;generalize aD ae.bq ls=np at*;generalize aD ae.aJ ls/2=nc at*;refine aG c55 ?_;simp only[go_sem,i55,s20,bx pb l1 (.inl rfl),s93,aa pn];repeat' ((first|apply gO|apply gQ|apply gT|apply gU|apply gV|apply gX)<;>intro he<;>simp only[go_sem, *,s34,aS pp,s28,aS pc])
 all_goals(first|done|exact au|exact⟨au,rfl⟩|rfl)
theorem Ko(g:bj F ls){i:Nat}{b c:Int}{l o:Bool}{sg:Int}{x:ae}(hx:ls[i]? =some x):aH S 55 [kZ F ls,dL 10 i b c l o sg] (rb ((x.kind==1)&&(decide (0<x.gate)&&(x.Th==1)))):=by
 have hi:=(aag.1 hx).1;have px:=cD hx;refine aG c55 ?_;simp only[go_sem,i55,px,ae.ps];repeat' ((first|apply gO|apply gQ|apply gT|apply gU|apply gV|apply gX)<;>intro he<;>simp only[go_sem, *])
 all_goals(first|done|exact au|exact⟨au,rfl⟩|rfl)
theorem Nu(g:bj F ls){i:Nat}{b c:Int}{l o:Bool}{sg:Int}{x:ae}(hx:ls[i]? =some x):aH S 55 [kZ F ls,dL 9 i b c l o sg] (rb ((x.kind==1)&&(decide (x.gate<(F:Int))&&(x.Th==((aD (o0 x.gate) ls:Nat):Int))))):=by
 have hi:=(aag.1 hx).1;have hlen:=g.len;have px:=cD hx;have pin:=Od (F:Int) ls (by omega) x.gate;refine aG c55 ?_;simp only[go_sem,i55,px,ae.ps];repeat' ((first|apply gO|apply gQ|apply gT|apply gU|apply gV|apply gX)<;>intro he<;>simp only[go_sem, *,s31,bg pin])
 all_goals(first|done|exact au|exact⟨au,rfl⟩|rfl)
theorem NB(g:bj F ls){i b c:Nat}{l o:Bool}{sg:Int}(hi:i<ls.length)(TD:(aA F ls (2*i)).places.length<=1000000)(hpr:(aA F ls (2*i+1)).places.length<=1000000):aH S 55 [kZ F ls,dL 2 i b c l o sg] (rb (decide ((b,c)∈(aA F ls (2*i)).places)||decide ((b,c)∈(aA F ls (2*i+1)).places))):=by
 have hlen:=g.len;have hn:((ls.length:Int)==0)=false:=beq_false_of_ne (by omega);have pf:=wm g hi true;have pr:=wm g hi false;simp only[if_true,aaL,if_false] at pf pr;have l1:S.lone 3520448448=false:=by kernel_rfl
 have l2:S.lone 3520448960=false:=by kernel_rfl
 have ol:aH S 58 [.agg [.p (.bool (aA F ls (2*i)).Tu), .p (.sl (nP (aA F ls (2*i)).Tl)), .p (.sl (fv (aA F ls (2*i)).places)), .p (.sl (nP (aA F ls (2*i)).TF)), .p (.bool (aA F ls (2*i)).outer)], .agg [.p (.int .i64 b), .p (.int .i64 c)]] (rb (decide ((b,c)∈(aA F ls (2*i)).places))):=QN (aA F ls (2*i)) (b,c) TD
 have or_:aH S 58 [.agg [.p (.bool (aA F ls (2*i+1)).Tu), .p (.sl (nP (aA F ls (2*i+1)).Tl)), .p (.sl (fv (aA F ls (2*i+1)).places)), .p (.sl (nP (aA F ls (2*i+1)).TF)), .p (.bool (aA F ls (2*i+1)).outer)], .agg [.p (.int .i64 b), .p (.int .i64 c)]] (rb (decide ((b,c)∈(aA F ls (2*i+1)).places))):=QN (aA F ls (2*i+1)) (b,c) hpr;generalize aA F ls (2*i)=f1 at*;generalize aA F ls (2*i+1)=f2 at*;generalize decide ((b,c)∈f1.places)=e1 at*;generalize decide ((b,c)∈f2.places)=e2 at*;refine aG c55 ?_
 simp only[go_sem,i55,hn,s59,iJ pf l1 (.inl rfl),s58,aw ol];repeat' ((first|apply gO|apply gQ|apply gT|apply gU|apply gV|apply gX)<;>intro he<;>simp only[go_sem, *,s59,iJ pr l2 (.inl rfl),s58,aw or_])
 all_goals(first|done|exact au|exact⟨au,rfl⟩|rfl)
end
end Go.Abs
