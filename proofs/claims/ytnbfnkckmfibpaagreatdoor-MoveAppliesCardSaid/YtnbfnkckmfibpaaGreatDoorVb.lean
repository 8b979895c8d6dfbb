/-
  Sorted lists, the triangle, and Apply.
-/
import Derived.Test.YtnbfnkckmfibpaaGreatDoorVa
import Derived.Test.YtnbfnkckmfibpaaGreatDoorWx
import Derived.Test.YtnbfnkckmfibpaaGreatDoorWy
set_option linter.unusedSimpArgs false
set_option linter.unusedVariables false
set_option linter.unusedSectionVars false
set_option maxRecDepth 100000
set_option maxHeartbeats 16000000
namespace Go.Abs
section
variable{F:Nat}{ls:List ae}
structure Swo {α:Type} (lt:α->α->Bool):Prop where
 asym: ∀ a b,lt a b=true->lt b a=false
 ntrans: ∀ a b c,lt b a=false->lt c b=false->lt c a=false
def Pd{α:Type}(lt:α->α->Bool)(ws:List α)(a b:Nat):Prop:= ∀ p q x y,a<=p->p<q->q<b->ws[p]? =some x->ws[q]? =some y->lt y x=false
structure A5 {α:Type} (lt:α->α->Bool) (zs ws:List α) (x:α) (a i j:Nat):Prop where
 perm:ws.Perm zs
 le:a<=j/\j<=i/\i<ws.length
 at':ws[j]? =some x
 up: ∀ p y,j<p->p<=i->ws[p]? =some y->lt x y=true
 so: ∀ p q y z,a<=p->p<q->q<=i->p≠j->q≠j->ws[p]? =some y->ws[q]? =some z->lt z y=false
 out: ∀ p,p<a\/i<p->ws[p]? =zs[p]?
theorem A5.start{α:Type}{lt:α->α->Bool}{zs:List α}{x:α}{a i:Nat}(ha:a<=i)(hi:zs[i]? =some x)(hs:Pd lt zs a i):A5 lt zs zs x a i i:=
 ⟨.refl _,⟨ha,aal _,(aag.1 hi).1⟩,hi,fun p y h1 h2=>by omega,fun p q y z h0 h1 h2 h3 h4=>hs p q y z h0 h1 (by omega),fun _ _=>rfl⟩
theorem swap_perm{α:Type}{ws:List α}{i j:Nat}{x y:α}(hi:ws[i]? =some x)(hj:ws[j]? =some y):((ws.set i y).set j x).Perm ws:=by
 obtain⟨h1,e1⟩:=aag.1 hi;obtain⟨h2,e2⟩:=aag.1 hj;have:=List.set_set_perm h1 h2;rwa[e1,e2] at this
theorem A5.step{α:Type}{lt:α->α->Bool}{zs ws:List α}{x y:α}{a i j:Nat}(o:Swo lt)(h:A5 lt zs ws x a i (j+1))(hj:a<=j)(hy:ws[j]? =some y)(Ti:lt x y=true):
  A5 lt zs ((ws.set (j+1) y).set j x) x a i j:=by
 obtain⟨hp,⟨_,hle,hl⟩,VB,hup,hso,Uj⟩:=h;have hj1:j<ws.length:=(aag.1 hy).1;have get: ∀ p,((ws.set (j+1) y).set j x)[p]? =if p=j then some x else if p=j+1 then some y else ws[p]? :=fun p=>by
  rw[aa3,aa3,aaD];by_cases e1:j=p
  ·subst e1;simp[hj1]
  ·by_cases e2:j+1=p
   ·subst e2;have: ¬ (j+1=j):=by omega
    rw[if_neg e1,if_pos rfl,if_pos (by omega),if_neg this,if_pos rfl]
   ·rw[if_neg e1,if_neg e2,if_neg (fun h=>e1 h.symm),if_neg (fun h=>e2 h.symm)]
 refine⟨(swap_perm VB hy).trans hp,⟨hj,by omega,by simp;omega⟩,by rw[get];simp,?_,?_,?_⟩
 ·intro p z h1 h2 hz;rw[get,if_neg (by omega)] at hz;by_cases e:p=j+1
  ·rw[if_pos e] at hz;cases hz;exact Ti
  ·rw[if_neg e] at hz;exact hup p z (by omega) h2 hz
 ·intro p q u v h0 h1 h2 h3 h4 hu hv;rw[get,if_neg h3] at hu;rw[get,if_neg h4] at hv;by_cases e:p=j+1
  ·rw[if_pos e] at hu;cases hu;rw[if_neg (by omega)] at hv;exact hso j q _ _ hj (by omega) h2 (by omega) (by omega) hy hv
  ·rw[if_neg e] at hu;by_cases e2:q=j+1
   ·rw[if_pos e2] at hv;cases hv;exact hso p j _ _ h0 (by omega) (by omega) e (by omega) hu hy
   ·rw[if_neg e2] at hv;exact hso p q _ _ h0 h1 h2 e e2 hu hv
 ·intro p T1;rw[get,if_neg (by omega),if_neg (by omega),Uj p T1]
theorem A5.stop{α:Type}{lt:α->α->Bool}{zs ws:List α}{x:α}{a i j:Nat}(o:Swo lt)(h:A5 lt zs ws x a i j)(hj:j=a\/ ∃ y,a<j/\ws[j - 1]? =some y/\lt x y=false):Pd lt ws a (i+1):=by
 obtain⟨hp,⟨hja,hle,hl⟩,VB,hup,hso,Uj⟩:=h;intro p q u v h0 h1 h2 hu hv;by_cases e:q=j
 ·subst e;rw[VB] at hv;cases hv;rcases hj with hj|⟨y,hya,hy,hxy⟩
  ·omega
  ·by_cases e3:p=q - 1
   ·subst e3;rw[hy] at hu;cases hu;exact hxy
   ·exact o.ntrans _ _ _ (hso p (q - 1) _ _ h0 (by omega) (by omega) (by omega) (by omega) hu hy) hxy
 ·by_cases e2:p=j
  ·subst e2;rw[VB] at hu;cases hu;exact o.asym _ _ (hup q v h1 (by omega) hv)
  ·exact hso p q u v h0 h1 (by omega) e2 e hu hv
theorem Pd.mono{α:Type}{lt:α->α->Bool}{ws:List α}{a b c:Nat}(h:Pd lt ws a c)(hb:b<=c\/ws.length<=c):Pd lt ws a b:=fun p q x y h0 h1 h2 hx hy=>h p q x y h0 h1 (by
 rcases hb with hb|hb
 ·omega
 ·have:=(aag.1 hy).1;omega) hx hy
abbrev EQ(a b:Int):Bool:=decide (a<b)
theorem Qo:Swo EQ:=⟨fun a b h=>by simp at*;omega,fun a b c h k=>by simp at*;omega⟩
theorem St(a:Int):aH S 179 [vi a] (rb false):=by
 refine aG c179 ?_;have h:(a !=a)=false:=by simp
 simp only[go_sem,i179,h]
theorem QQ(a b:Int):aH S 167 [vi a,vi b] (rb (EQ a b)):=by
 have pn:=St a;refine aG c167 ?_;simp only[go_sem,i167,s179,aa pn,EQ]
theorem Ru(n:Nat)(h:n<=1000000): ∃ k:Int,aH S 151 [.one (.p (.int .u64 n))] (ri k):=by
 refine⟨((Lib.bitLen n:Nat):Int),⟨1,?_⟩⟩;have hp:S.prim 151 [.one (.p (.int .u64 (n:Int)))]=some (some (ri ((Lib.bitLen n:Nat):Int))):=by
  show some (nj [.one (.p (.int .u64 (n:Int)))])=_;simp only[nj];rw[if_pos ⟨by omega,by omega⟩];rfl
 rw[dN,hp]
theorem Fd(o:List Int)(k:Nat)(v:Int):(iP o).set k [.int .i64 v]=iP (o.set k v):=by simp[abU]
theorem fO(o:List Int):(iP o).length=o.length:=aak _
def pR(lt:Int->Int->Bool)(id g ty:Nat)(es:List Int)(Tc:aB)(v:V)(Td:aB):Prop:=v= .tup []/\(∃ ws:List Int,Td id=(g,some (.arr ty 1 (iP ws)))/\ws.Perm es/\Pd lt ws 0 ws.length)/\Kept (· =id) Tc Td
theorem QW{al:Al}{Tc:aB}{id g ty:Nat}{es:List Int}(o:al.ok id=true)(hl:es.length<=1000000)(hC:Tc id=(g,some (.arr ty 1 (iP es)))):
  ∃ v Td,pz S 161 [.one (.hsl id g 1 0 es.length),vi 0,vi es.length] al Tc v Td/\pR EQ id g ty es Tc v Td:=by
 refine eY c161 (aaN rfl) ?_;have w0:IntKind.i64.wrap (0+1)=((0+1:Nat):Int):=by decide
 simp only[go_sem,i161];refine be (fun k env Td=>env 0= .one (.hsl id g 1 0 es.length)/\env 1=vi 0/\env 2=vi es.length/\env 6=vi ((k+1:Nat):Int)/\ ∃ zs:List Int,Td id=(g,some (.arr ty 1 (iP zs)))/\zs.Perm es/\Pd EQ zs 0 (k+1)/\Kept (· =id) Tc Td) 0 es.length (aah _) ?_ ?_
 ·simp only[go_sem];exact⟨rfl,es,hC, .refl _,fun p q x y _ h1 h2=>by omega,Kept.refl _ _⟩
 ·rintro k env Tq hk ⟨h0,h1,h2,h6,zs,hZ,hp,hs,TL⟩
  have hzl:=hp.length_eq;by_cases Ti:k+1<es.length
  ·have Tk:((k+1:Nat):Int)<(es.length:Int):=by omega
   obtain⟨x,hx⟩:=ao (ls:=zs) (k:=k+1) (by omega);simp only[go_sem,i161_l3,h2,h6,Tk];refine be (fun q env Td=>env 0= .one (.hsl id g 1 0 es.length)/\env 1=vi 0/\env 2=vi es.length/\env 6=vi ((k+1:Nat):Int)/\env 7=vi ((k+1 - q:Nat):Int)/\ ∃ ws:List Int,Td id=(g,some (.arr ty 1 (iP ws)))/\A5 EQ zs ws x 0 (k+1) (k+1 - q)/\Kept (· =id) Tc Td) 0 (k+1) (aah _) ?_ ?_
   ·simp only[go_sem,h0,h1,h2,h6];exact⟨zs,hZ,A5.start (aah _) hx hs,TL⟩
   ·rintro q Tz Tp hq ⟨k0,k1,k2,k6,k7,ws,hW,hI,aej⟩
    have hwl:ws.length=es.length:=hI.perm.length_eq.trans hzl;have wk:IntKind.i64.wrap (((k+1:Nat):Int)+1)=((k+1+1:Nat):Int):=am (n:=k+1) (by omega);by_cases hj0:k+1 - q=0
    ·have e7: ¬ ((0:Int)<((k+1 - q:Nat):Int)):=by omega
     simp only[go_sem,i161_l1,i161_r2,k0,k1,k2,k6,k7,e7,wk];refine⟨au,by omega,ws,hW,hI.perm.trans hp,hI.stop Qo (.inl hj0),aej⟩
    ·obtain⟨j,hj⟩: ∃ j,k+1 - q=j+1:=⟨k - q,by omega⟩;have e7:((0:Int)<((j+1:Nat):Int)):=by omega
     obtain⟨y,hy⟩:=ao (ls:=ws) (k:=j) (by omega);rw[hj] at hI k7;have wj:IntKind.i64.wrap (((j+1:Nat):Int) - 1)=(j:Int):=by rw[fd (by omega)];omega
     have hxa:=nH hI.at';have hya:=nH hy;have j1:j+1<es.length:=by have:=hI.le;omega
     have j2:j<es.length:=by omega
     have pl:=QQ x y;cases hxy:EQ x y with
     |false=>
      rw[hxy] at pl;simp only[go_sem,i161_l1,i161_r2,k0,k1,k2,k6,k7,e7,wk,wj,hW,hxa,hya,j1,j2,o,s167,LW pl];refine⟨au,by omega,ws,rfl,hI.perm.trans hp,hI.stop Qo (.inr ⟨y,by omega,hy,hxy⟩),aej⟩
     |true=>
      rw[hxy] at pl;have hI2:=hI.step Qo (aah _) hy hxy;have hjj: ¬ (j+1=j):=by omega
      have l1:j+1<ws.length:=by omega
      have l2:j<ws.length:=by omega
      simp only[go_sem,i161_l1,i161_r2,k0,k1,k2,k6,k7,e7,wj,hW,hxa,hya,j1,j2,l1,hjj,o,s167,LW pl,aa3,fO];have hq2:k+1 - (q+1)=j:=by omega
      refine⟨au,au,by omega,by rw[hq2],(ws.set (j+1) y).set j x,by rw[Fd,Fd],by rw[hq2];exact hI2,(aej.fD rfl _).fD rfl _⟩
  ·have Tk: ¬ (((k+1:Nat):Int)<(es.length:Int)):=by omega
   simp only[go_sem,i161_l3,h2,h6,Tk];exact⟨rfl,⟨zs,hZ,hp,hs.mono (.inl (by omega))⟩,TL⟩
theorem sC{Q:cZ}{al:Al}{env:Env}{Tc:aB}{os:List az}{d:Option Nat}{f id g ty z o n:Nat}{vs:List V}{es:List (List PV)}{P:V->aB->Prop}(hC:Tc id=(g,some (.arr ty z es)))(XD:(vs.map (co Tc)).flatten=[])(hh:al= .all\/al.ok id=true/\(S.sites f).all al.fs.contains=true)
  (h: ∀ al',al'.ok id=true->al'.fs=S.sites f-> ∃ v Td,pz S f (.one (.hsl id g z o n)::vs) al' Tc v Td/\P v Td)
  (hK: ∀ v Td,P v Td->RN S al os Q (put env d v) Td):gP S al (.sc f (.one (.hsl id g z o n)::vs)) d os Q env Tc:=by
 have hr:((V.one (.hsl id g z o n)::vs).map (co Tc)).flatten=[id]:=by
  rw[aas,aaI,XD,iR hC];rfl
 refine fg (P:=P) ?_ (h _ (cK (by rw[hr];simp)) rfl) hK;rcases hh with rfl|⟨h1,h2⟩
 ·rfl
 ·refine holds_of ?_ h2;show al.kB ((V.one (.hsl id g z o n)::vs).map (co Tc)).flatten=true;rw[hr];simp[Al.kB,h1]
theorem QH{al:Al}{Tc:aB}{id g ty:Nat}{es:List Int}(o:al.ok id=true)(f1:al.fs.contains 161=true)(hl:es.length<=12)(hC:Tc id=(g,some (.arr ty 1 (iP es))))(lim:Int):
  ∃ v Td,pz S 150 [.one (.hsl id g 1 0 es.length),vi 0,vi es.length,vi lim] al Tc v Td/\pR EQ id g ty es Tc v Td:=by
 refine eY c150 (aaN rfl) ?_;have w0:IntKind.i64.wrap ((es.length:Int) - 0)=(es.length:Int):=by rw[Int.sub_zero];exact dd (by omega) (by omega)
 have U4:(es.length:Int)<=12:=by omega
 simp only[go_sem,i150];refine dV ?_;simp only[go_sem,i150_l1,w0,U4,s161];refine sC hC (by rfl) (.inr ⟨o,by rw[show S.sites 161=[161] by kernel_rfl];simp only[abR,abZ,f1,Bool.and_self]⟩) (P:=pR EQ id g ty es Tc) (fun al' h1 _=>QW h1 (by omega) hC) fun v Td hP=> ?_
 obtain⟨rfl,h2⟩:=hP;simp only[go_sem];exact⟨rfl,h2⟩
theorem F8{al:Al}{Tc:aB}{id g ty:Nat}{es:List Int}(o:al.ok id=true)(f1:(S.sites 150).all al.fs.contains=true)(hl:es.length<=12)(hC:Tc id=(g,some (.arr ty 1 (iP es)))):
  ∃ v Td,pz S 125 [.one (.hsl id g 1 0 es.length)] al Tc v Td/\pR EQ id g ty es Tc v Td:=by
 obtain⟨k,pb⟩:=Ru es.length (by omega);have wu:IntKind.u64.wrap (es.length:Int)=(es.length:Int):=by
  have e:IntKind.u64.wrap (es.length:Int)=(es.length:Int)%18446744073709551616:=by
   unfold IntKind.wrap;rfl
  rw[e];omega
 refine eY c125 (aaN rfl) ?_;have sbl:S.Tf 151=false:=by kernel_rfl
 simp only[go_sem,i125,wu,sbl,PN pb,s150];refine sC hC (by rfl) (.inr ⟨o,f1⟩) (P:=pR EQ id g ty es Tc) (fun al' h1 h2=>QH h1 (by rw[h2];kernel_rfl) hl hC k) fun v Td hP=> ?_
 obtain⟨rfl,h2⟩:=hP;simp only[go_sem];exact⟨rfl,h2⟩
def tL(ws:List Int):Nat->List Int
 |0=>[]
 |k+1=>match ws[k]? with
  |some x=>if 0<k/\ws[k - 1]? =some x then tL ws k else tL ws k++[x]
  |none=>tL ws k
theorem Ha(ws:List Int): ∀ k,(tL ws k).length<=k:=by
 intro k
 induction k with
 |zero=>exact aal _
 |succ k ih=>
  unfold tL;split
  ·split
   ·omega
   ·simp;omega
  ·omega
theorem wJ{ws:List Int}{k:Nat}{x:Int}(h:ws[k+1]? =some x)(hp:ws[k]? =some x):tL ws (k+2)=tL ws (k+1):=by
 conv=>lhs;unfold tL
 rw[h];simp[hp]
theorem AN{ws:List Int}{k:Nat}{x y:Int}(h:ws[k+1]? =some x)(hp:ws[k]? =some y)(hn: ¬ x=y):tL ws (k+2)=tL ws (k+1)++[x]:=by
 conv=>lhs;unfold tL
 rw[h];have: ¬ y=x:=fun e=>hn e.symm
 simp[hp,this]
theorem OP{ws:List Int}{x:Int}(h:ws[0]? =some x):tL ws 1=[x]:=by simp[tL,h]
def Gs(ws:List Int)(k:Nat):Prop:= ∀ i x y,i+1<k->ws[i]? =some x->ws[i+1]? =some y-> ¬ y=x
theorem sO{ws:List Int}: ∀ k,k<=ws.length->Gs ws k->tL ws k=ws.take k:=by
 intro k
 induction k with
 |zero=>intro _ _;rfl
 |succ k ih=>
  intro hk h;obtain⟨x,hx⟩:=ao (ls:=ws) (k:=k) (by omega);have e:=ih (by omega) fun i x y h1=>h i x y (by omega)
  have ht:ws.take (k+1)=ws.take k++[x]:=by rw[aaX,hx];rfl
  rcases k with _|k
  ·rw[OP hx,ht];rfl
  ·obtain⟨y,hy⟩:=ao (ls:=ws) (k:=k) (by omega);rw[AN hx hy (h k y x (by omega) hy hx),e,ht]
structure L4 (ws cs:List Int) (k q:Nat):Prop where
 len:cs.length=ws.length
 kl:k=(tL ws q).length
 pre:cs.take k=tL ws q
 out: ∀ p,q - 1<=p->cs[p]? =ws[p]?
 kq:k<q
theorem L4.step{ws cs:List Int}{k q:Nat}{x y:Int}(h:L4 ws cs k (q+1))(hx:ws[q+1]? =some x)(hy:ws[q]? =some y)(hn: ¬ x=y):L4 ws (cs.set k x) (k+1) (q+2):=by
 obtain⟨h1,h2,h3,h4,h5⟩:=h;have hl:=Ha ws (q+1);have hq:q+1<ws.length:=(aag.1 hx).1;refine⟨by simpa using h1,by rw[AN hx hy hn,aay,<- h2];rfl,?_,fun p hp=> ?_,by omega⟩
 ·rw[AN hx hy hn,aaX,aa3];have:k<cs.length:=by omega
  rw[if_pos rfl,if_pos this,List.take_set_of_le (aal _),h3];rfl
 ·rw[aa3,if_neg (by omega)];exact h4 p (by omega)
theorem L4.skip{ws cs:List Int}{k q:Nat}{x:Int}(h:L4 ws cs k (q+1))(hx:ws[q+1]? =some x)(hy:ws[q]? =some x):L4 ws cs k (q+2):=by
 obtain⟨h1,h2,h3,h4,h5⟩:=h;exact⟨h1,by rw[wJ hx hy];exact h2,by rw[wJ hx hy];exact h3,fun p hp=>h4 p (by omega),by omega⟩
theorem L4.start{ws:List Int}{k:Nat}{x:Int}(hk:k+1<ws.length)(h:Gs ws (k+1))(hx:ws[k+1]? =some x)(hy:ws[k]? =some x):L4 ws ws (k+1) (k+2):=by
 have e:=sO (k+1) (by omega) h;have e2:tL ws (k+2)=ws.take (k+1):=(wJ hx hy).trans e;exact⟨rfl,by rw[e2];simp;omega,by rw[e2],fun _ _=>rfl,by omega⟩
def FH(id g ty:Nat)(ws:List Int)(Tc:aB)(v:V)(Td:aB):Prop:=v= .one (.hsl id g 1 0 (tL ws ws.length).length)/\(∃ cs:List Int,Td id=(g,some (.arr ty 1 (iP cs)))/\cs.length=ws.length/\cs.take (tL ws ws.length).length=tL ws ws.length)/\Kept (· =id) Tc Td
theorem Ir{cs:List Int}{k:Nat}(hk:k<=cs.length):List.take k (iP cs)++List.replicate (cs.length - k) [PV.int .i64 0]++List.drop (k+(cs.length - k)) (iP cs)=iP (cs.take k++List.replicate (cs.length - k) 0):=by
 rw[List.drop_of_length_le (by simp;omega),abO];simp only[iP,abQ,List.map_replicate,List.map_take]
theorem y7{al:Al}{Tc:aB}{id g ty:Nat}{ws:List Int}(o:al.ok id=true)(hl:ws.length<=1000000)(hC:Tc id=(g,some (.arr ty 1 (iP ws)))):
  ∃ v Td,pz S 126 [.one (.hsl id g 1 0 ws.length)] al Tc v Td/\FH id g ty ws Tc v Td:=by
 refine eY c126 (aaN rfl) ?_;by_cases h2:ws.length<2
 ·have US:((ws.length:Int)<2):=by omega
  have U3:Gs ws ws.length:=fun i x y h=>by omega
  have e:=sO ws.length (aal _) U3;rw[aa7] at e;simp only[go_sem,i126,US];exact⟨by rw[e],⟨ws,hC,rfl,by rw[e,aa7]⟩,Kept.refl _ _⟩
 have US: ¬ ((ws.length:Int)<2):=by omega
 simp only[go_sem,i126,US];refine be (fun q env Td=>env 0= .one (.hsl id g 1 0 ws.length)/\env 3=vi ((q+1:Nat):Int)/\Gs ws (q+1)/\Td=Tc) 0 ws.length (aah _) ?_ ?_
 ·simp only[go_sem];exact⟨rfl,fun i x y h=>by omega⟩
 ·rintro q env Tq hq ⟨h0,h3,U3,rfl⟩
  by_cases Ti:q+1<ws.length
  ·have Tk:(((q+1:Nat):Int)<(ws.length:Int)):=by omega
   obtain⟨x,hx⟩:=ao (ls:=ws) (k:=q+1) Ti;obtain⟨y,hy⟩:=ao (ls:=ws) (k:=q) (by omega);have hxa:=nH hx;have hya:=nH hy;have wj:IntKind.i64.wrap (((q+1:Nat):Int) - 1)=(q:Int):=by rw[fd (by omega)];omega
   have wk:=am (n:=q+1) (by omega);have q1:q<ws.length:=by omega
   have q2:q+1<=ws.length:=by omega
   by_cases e:x=y
   ·subst e;simp only[go_sem,i126_l4,h0,h3,Ti,Tk,hxa,hya,wj,q1,q2,hC,o];refine⟨au,?_⟩;refine be (fun r env Td=>env 0= .one (.hsl id g 1 0 ws.length)/\env 4= .one (.hsl id g 1 (q+1) (ws.length - (q+1)))/\env 5=vi ((r+1:Nat):Int)/\ ∃ (cs:List Int) (k:Nat),env 3=vi (k:Nat)/\Td id=(g,some (.arr ty 1 (iP cs)))/\L4 ws cs k (q+2+r)/\q+2+r<=ws.length/\Kept (· =id) Tq Td) 0 ws.length (aah _) ?_ ?_
    ·simp only[go_sem,h0];exact⟨rfl,ws,q+1,h3,hC,L4.start Ti U3 hx hy,by omega,Kept.refl _ _⟩
    ·rintro r Tz Tp hr ⟨k0,k4,k5,cs,k,k3,hB,hI,hqr,TL⟩
     have Uk:=hI.len;have T7:=hI.kl;have hkle:=Ha ws (q+2+r);have hkq:=hI.kq;have hI':L4 ws cs k (q+1+r+1):=by rw[show q+1+r+1=q+2+r by omega];exact hI
     by_cases acb:r+1<ws.length - (q+1)
     ·have YY:(((r+1:Nat):Int)<((ws.length - (q+1):Nat):Int)):=by omega
      obtain⟨u,hu⟩:=ao (ls:=ws) (k:=q+1+(r+1)) (by omega);obtain⟨v,hv⟩:=ao (ls:=ws) (k:=q+1+r) (by omega);have cu:=nH ((hI.out (q+1+(r+1)) (by omega)).trans hu);have cv:=nH ((hI.out (q+1+r) (by omega)).trans hv);have wr:IntKind.i64.wrap (((r+1:Nat):Int) - 1)=(r:Int):=by rw[fd (by omega)];omega
      have wr2:=am (n:=r+1) (by omega);have wk2:=am (n:=k) (by omega);have r1:r<ws.length - (q+1):=by omega
      have kk:k<ws.length:=by omega
      have kk2:k<cs.length:=by omega
      obtain⟨z,hz⟩:=ao kk2;have cz:=nH hz;by_cases e2:u=v
      ·subst e2;have hun:(u !=u)=false:=by simp
       have hI2:=hI'.skip (by rw[show q+1+r+1=q+1+(r+1) by omega];exact hu) hv;simp only[go_sem,i126_l1,k0,k4,k5,k3,acb,YY,r1,hB,cu,cv,wr,wr2,hun,o];refine⟨au,by omega,cs,k,rfl,rfl,by rw[show q+2+(r+1)=q+1+r+2 by omega];exact hI2,by omega,TL⟩
      ·have hun:=(show(u !=v)=true by simp[e2]);simp only[go_sem,i126_l1,k0,k4,k5,k3,acb,YY,r1,hB,cu,cv,wr,wr2,wk2,kk,cz,hun,o];have hI2:=hI'.step (by rw[show q+1+r+1=q+1+(r+1) by omega];exact hu) hv e2;refine⟨au,by omega,cs.set k u,k+1,rfl,by rw[Fd],by rw[show q+2+(r+1)=q+1+r+2 by omega];exact hI2,by omega,TL.fD rfl _⟩
     ·have YY: ¬ (((r+1:Nat):Int)<((ws.length - (q+1):Nat):Int)):=by omega
      have kk3:k<=ws.length:=by omega
      have kk4:k+(ws.length - k)<=cs.length:=by omega
      have TA: ¬ (ws.length - k=0):=by omega
      have YH:q+2+r=ws.length:=by omega
      rw[YH] at hI;have Wq:=Ir (cs:=cs) (k:=k) (by omega);rw[Uk] at Wq;simp only[go_sem,i126_l1,i126_r2,k0,k4,k5,k3,YY,hB,o,kk3,kk4,TA,List.length_replicate,fO,Wq];obtain⟨i1,i2,i3,i4,i5⟩:=hI;refine⟨by rw[<- i2],⟨_,fL,by simp;omega,?_⟩,TL.fD rfl _⟩;rw[<- i2,List.take_left' (by simp;omega),i3]
   ·have e1:=(show(x==y)=false by simp[e]);simp only[go_sem,i126_l4,i126_r3,h0,h3,Ti,Tk,hxa,hya,wj,wk,q1,hC,o,e1];refine⟨au,fun i u v h h4 h5=> ?_⟩;by_cases e2:i=q
    ·subst e2;rw[hy] at h4;rw[hx] at h5;cases h4;cases h5;exact e
    ·exact U3 i u v (by omega) h4 h5
  ·have Tk: ¬ (((q+1:Nat):Int)<(ws.length:Int)):=by omega
   have e:=sO ws.length (aal _) (fun i x y h=>U3 i x y (by omega));rw[aa7] at e;simp only[go_sem,i126_l4,i126_r5,h0,h3,Tk];exact⟨by rw[e],⟨ws,hC,rfl,by rw[e,aa7]⟩,Kept.refl _ _⟩
def sM:List Int->List Int
 |[]=>[]
 |x::r=>if x∈r then sM r else x::sM r
theorem rA{x:Int}: ∀ {l:List Int},x∈sM l↔x∈l:=by
 intro l
 induction l with
 |nil=>simp[sM]
 |cons y r ih=>
  unfold sM;split
  ·rename_i h;rw[ih,aat];constructor
   ·exact .inr
   ·rintro (rfl|h2)
    ·exact h
    ·exact h2
  ·rw[aat,aat,ih]
theorem IM: ∀ l:List Int,(sM l).Nodup:=by
 intro l
 induction l with
 |nil=>exact ace
 |cons y r ih=>
  unfold sM;split
  ·exact ih
  ·rename_i h;exact abD.2 ⟨fun h2=>h (rA.1 h2),ih⟩
theorem G9{ws:List Int}{x:Int}: ∀ k,k<=ws.length->(x∈tL ws k↔x∈ws.take k):=by
 intro k
 induction k with
 |zero=>intro _;simp[tL]
 |succ k ih=>
  intro hk;obtain⟨y,hy⟩:=ao (ls:=ws) (k:=k) (by omega);have ht:ws.take (k+1)=ws.take k++[y]:=by rw[aaX,hy];rfl
  have ih:=ih (by omega);unfold tL;rw[hy,ht];simp only;split
  ·rename_i h;obtain⟨h1,h2⟩:=h;have hm:y∈ws.take k:=by
    rw[List.mem_take_iff_getElem];obtain⟨h3,h4⟩:=aag.1 h2;exact⟨k - 1,by omega,h4⟩
   rw[ih,aaM];constructor
   ·exact .inl
   ·rintro (h|h)
    ·exact h
    ·simp at h;subst h;exact hm
  ·rw[aaM,aaM,ih]
theorem IR{ws:List Int}(hs:Pd EQ ws 0 ws.length): ∀ k,k<=ws.length->(tL ws k).Nodup:=by
 intro k
 induction k with
 |zero=>intro _;exact ace
 |succ k ih=>
  intro hk;obtain⟨y,hy⟩:=ao (ls:=ws) (k:=k) (by omega);have ih:=ih (by omega);unfold tL;rw[hy];simp only;split
  ·exact ih
  ·rename_i h;rw[adb];refine⟨ih,by simp,fun z hz w hw=> ?_⟩;simp at hw;subst hw;rintro rfl
   rw[G9 k (by omega),List.mem_take_iff_getElem] at hz;obtain⟨p,hp,hpz⟩:=hz;have hpk:p<k:=by omega
   have Ws:ws[p]? =some z:=by rw[abJ (by omega),hpz]
   obtain⟨u,hu⟩:=ao (ls:=ws) (k:=k - 1) (by omega);have s1:=hs (k - 1) k u z (aah _) (by omega) (by omega) hu hy;have huz:u=z:=by
    by_cases e:p=k - 1
    ·rw[e,hu] at Ws;cases Ws;rfl
    ·have s2:=hs p (k - 1) z u (aah _) (by omega) (by omega) Ws hu;simp at s1 s2;omega
   rw[huz] at hu;exact h ⟨by omega,hu⟩
theorem pM{es ws:List Int}(hp:ws.Perm es)(hs:Pd EQ ws 0 ws.length):(tL ws ws.length).length=(sM es).length:=by
 refine List.Perm.length_eq ((List.perm_ext_iff_of_nodup (IR hs _ (aal _)) (IM es)).2 fun x=> ?_);rw[G9 _ (aal _),aa7,rA,hp.mem_iff]
def Jc(ls:List ae)(e:Nat):Bool:=((pA ls e).l.kind==2)&&((pA ls (nx ls e)).l.kind==2)
def A7(ls:List ae)(es:List Nat):List Int:=es.flatMap fun e:Nat=>[(e:Int),(nx ls e:Int)]
def DL(ls:List ae)(es:List Nat):List Int:=es.flatMap fun e:Nat=>[(pA ls e).l.id,(pA ls (nx ls e)).l.id]
def R9(F:Nat)(ls:List ae)(a b c:Nat):Bool:=[a,b,c].all (Jc ls)&&(((sM (A7 ls [a,b,c])).length==6)&&(((sM (DL ls [a,b,c])).length==3)&&([a,b,c].any (nY ls · true)&&([a,b,c].any (nY ls · false)&&jJ F ls 0 [a,b,c] a))))
def MZ(F:Nat)(ls:List ae)(a b c:Nat):Option (List Pc):=if R9 F ls a b c then some (xr ls (pieces ls) [a,b,c]) else none
theorem zG(f:Nat->List Int)(hf: ∀ e,(f e).length=2): ∀ l:List Nat,(l.flatMap f).length=2*l.length:=by
 intro l
 induction l with
 |nil=>rfl
 |cons a r ih=>rw[List.flatMap_cons,aay,ih,hf,aar];omega
theorem yN(f:Nat->List Int)(l:List Nat)(k e:Nat)(h:l[k]? =some e):(l.take (k+1)).flatMap f=(l.take k).flatMap f++f e:=by
 rw[aaX,h];simp
theorem Dx(f:Nat->Bool)(l:List Nat)(k e:Nat)(h:l[k]? =some e):(l.take (k+1)).any f=((l.take k).any f||f e):=by
 rw[aaX,h];simp
theorem Mq(f:Nat->Bool)(l:List Nat)(k e:Nat)(h:l[k]? =some e):(l.take (k+1)).all f=((l.take k).all f&&f e):=by
 rw[aaX,h];simp
theorem Jx(f:Nat->List Int)(es:List Nat)(x y:Int):iP (es.flatMap f)++[[PV.int .i64 x],[PV.int .i64 y]]=iP (es.flatMap f++[x,y]):=by simp
theorem DZ(g:bj F ls){av bv cv:Nat}(ha:av<ls.length)(hb:bv<ls.length)(hc:cv<ls.length){k:Int}{l o:Bool}{sg:Int}:
  aH S 82 [.one (.p (ew F ls)),dL k av bv cv l o sg] (kR (MZ F ls av bv cv)):=by
 have hlen:=g.len;have TD:=aF ls;have UL: ∀ e∈[av,bv,cv],e<ls.length:=fun e h=>by
  simp at h;rcases h with rfl|rfl|rfl<;>assumption
 generalize hE:[av,bv,cv]=es at*;have TS:es.length=3:=by rw[<- hE];rfl
 have hn3:nP [av,bv,cv]=[[.int .i64 av],[.int .i64 bv],[.int .i64 cv]]:=rfl;rw[hE] at hn3;have w3:((3:Nat):Int)=3:=rfl;refine aG c82 ?_;simp only[go_sem,i82];refine be (fun j env Tc=>env 0= .one (.p (ew F ls))/\env 6= .one (.hsl 5248064384 1 1 0 3)/\env 22= .one (.hsl 5248064384 1 1 0 3)/\env 23=vi 3/\env 24=vi j/\Tc 5248064384=(1,some (.arr 3 1 (nP es)))/\(es.take j).all (Jc ls)=true/\
  env 9=vb ((es.take j).any (nY ls · true))/\env 10=vb ((es.take j).any (nY ls · false))/\ ∃ c7 c8,env 7= .one c7/\env 8= .one c8/\grown 5248640256 3 1 (iP (A7 ls (es.take j))) (.one c7) Tc/\grown 5248705280 3 1 (iP (DL ls (es.take j))) (.one c8) Tc) 0 3 (aah _) ?_ ?_
 ·simp only[go_sem];exact⟨rfl,rfl,by rw[hn3],rfl,rfl,_,_,rfl,rfl,grown.nil,grown.nil⟩
 ·rintro j env Tc hj ⟨h0,h6,Y7,h23,Yw,b6,Ty,h9,TJ,c7,c8,h7,h8,g7,g8⟩
  by_cases Ti:j<3
  ·have Tk:((j:Int)<3):=by omega
   obtain⟨e,he⟩:=ao (ls:=es) (k:=j) (by omega);have Vo:=UL e (aaf he);have hnp:=cN he;have pe:=mE g Vo;have hm:=aax (e+1) (show 0<ls.length by omega);obtain⟨P,hP⟩:=ao (ls:=pieces ls) (k:=e) (by omega);obtain⟨Q,hQ⟩:=ao (ls:=pieces ls) (k:=(e+1)%ls.length) (by omega);have hap:=bR hP;have haq:=bR hQ;have w1:=am (n:=j) (by omega);have po:=sS g Vo true;have pu:=sS g Vo false;have UD:Jc ls e=((P.l.kind==2)&&(Q.l.kind==2)):=by unfold Jc;rw[iA hP,iA hQ]
   have hl7:(iP (A7 ls (es.take j))).length<=100:=by
    unfold A7;rw[fO,zG _ (fun _=>rfl),aaB];omega
   have hl8:(iP (DL ls (es.take j))).length<=100:=by
    unfold DL;rw[fO,zG _ (fun _=>rfl),aaB];omega
   have TW:Jc ls e=false->MZ F ls av bv cv=none:=fun h=>by
    have:es.all (Jc ls)=false:=by
     cases hh:es.all (Jc ls) with
     |false=>rfl
     |true=>rw[aaJ.1 hh e (aaf he)] at h;cases h
    unfold MZ R9;rw[hE,this];rfl
   cases k1:(P.l.kind==2) with
   |false=>
    rw[k1] at UD;have k1':(P.l.kind !=2)=true:=by simp only[bne,k1];rfl
    rw[TW UD];simp only[go_sem,i82_l1,h0,Y7,h23,Yw,b6,Ti,Tk,hnp,s112,ai pe ak,hap,Pc.ps,k1'];rfl
   |true=>
    have k1':(P.l.kind !=2)=false:=by simp only[bne,k1];rfl
    cases k2:(Q.l.kind==2) with
    |false=>
     rw[k1,k2] at UD;have k2':(Q.l.kind !=2)=true:=by simp only[bne,k2];rfl
     rw[TW UD];simp only[go_sem,i82_l1,h0,Y7,h23,Yw,b6,Ti,Tk,hnp,s112,ai pe ak,hap,haq,Pc.ps,k1',k2'];rfl
    |true=>
     rw[k1,k2] at UD;have k2':(Q.l.kind !=2)=false:=by simp only[bne,k2];rfl
     simp only[go_sem,i82_l1,h0,h7,Y7,h23,Yw,b6,Ti,Tk,hnp,s112,ai pe ak,hap,haq,Pc.ps,k1',k2'];refine gk (xs:=[[.int .i64 (e:Nat)],[.int .i64 ((e+1)%ls.length:Nat)]]) (g7.of_eq (aj (by decide))) (by simp only[bh,af,if_true];rfl) (.inl rfl) (by simp only[aar,aav];omega) fun d7 Tq gd7 Tw=> ?_
     have q6:=Tw 5248064384 (by decide) (by decide);simp only[go_sem,b6] at q6;have g8':=g8.of_eq ((Tw 5248705280 (by decide) (by decide)).trans (aj (by decide)));simp only[go_sem,h0,h8,hap,haq,Pc.ps];refine fi (xs:=[[.int .i64 P.l.id],[.int .i64 Q.l.id]]) (g8'.of_eq (aj (by decide))) (by simp only[bh,af,if_true];rfl) (.inl rfl) (by simp only[aar,aav];omega) fun d8 Tp r w gd8 Tv hw=> ?_
     have p6:=(Tv 5248064384 (by decide) (by decide)).trans ((aj (by decide)).trans q6);have ai1:=gd7.of_eq ((Tv 5248640256 (by decide) (by decide)).trans (aj (by decide)));simp only[go_sem];refine⟨?_,?_⟩
     ·rcases hw with ⟨rfl,rfl⟩|⟨rfl,rfl⟩|⟨rfl,rfl⟩<;>kernel_rfl
     generalize hx9:(es.take j).any (nY ls · true)=x9 at h9;generalize ahB:(es.take j).any (nY ls · false)=x10 at TJ;have e9:=Dx (nY ls · true) es j e he;have e10:=Dx (nY ls · false) es j e he;have eA:=Mq (Jc ls) es j e he;rw[hx9] at e9;rw[ahB] at e10;rw[Ty,UD] at eA;have G7:grown 5248640256 3 1 (iP (A7 ls (es.take (j+1)))) (.one d7) Tp:=by
      have:=Jx (fun e:Nat=>[(e:Int),(nx ls e:Int)]) (es.take j) e (nx ls e);have h2:=yN (fun e:Nat=>[(e:Int),(nx ls e:Int)]) es j e he;rw[show A7 ls (es.take (j+1))=(es.take j).flatMap (fun e:Nat=>[(e:Int),(nx ls e:Int)])++[(e:Int),(nx ls e:Int)] from h2,<- this];exact ai1
     have G8:grown 5248705280 3 1 (iP (DL ls (es.take (j+1)))) (.one d8) Tp:=by
      have:=Jx (fun e:Nat=>[(pA ls e).l.id,(pA ls (nx ls e)).l.id]) (es.take j) (pA ls e).l.id (pA ls (nx ls e)).l.id;have h2:=yN (fun e:Nat=>[(pA ls e).l.id,(pA ls (nx ls e)).l.id]) es j e he;rw[show DL ls (es.take (j+1))=(es.take j).flatMap (fun e:Nat=>[(pA ls e).l.id,(pA ls (nx ls e)).l.id])++[(pA ls e).l.id,(pA ls (nx ls e)).l.id] from h2,<- this,iA hP,show pA ls (nx ls e)=Q from iA hQ];exact gd8
     cases x9<;>cases x10<;>simp only[go_sem,h0,h9,TJ,Y7,h23,Yw,s123,aa po,aa pu,w1,Ti]<;>exact⟨h6,p6,by rw[eA];rfl,by rw[e9];rfl,by rw[e10];rfl,d7,d8,rfl,rfl,G7,G8⟩
  ·have:j=3:=by omega
   subst this;have ht:es.take 3=es:=by rw[<- hE];rfl
   rw[ht] at Ty h9 TJ g7 g8;have n7:(A7 ls es).length=6:=by unfold A7;rw[zG _ (fun _=>rfl),TS]
   have n8:(DL ls es).length=6:=by unfold DL;rw[zG _ (fun _=>rfl),TS]
   rcases g7 with ⟨e,_⟩|⟨_,gg7,e,b7⟩
   ·have:=congrArg List.length e;rw[fO,n7] at this;cases this
   cases e
   rcases g8 with ⟨e,_⟩|⟨_,gg8,e,b8⟩
   ·have:=congrArg List.length e;rw[fO,n8] at this;cases this
   cases e
   have s506:S.Tf 125=true:=by kernel_rfl
   have s507:S.Tf 126=true:=by kernel_rfl
   have h33: ¬ (((3:Nat):Int)<3):=by decide
   simp only[go_sem,i82_l1,i82_r2,h7,h23,Yw,h33,s506,fO];refine sC b7 (by rfl) (.inl rfl) (P:=pR EQ 5248640256 gg7 3 (A7 ls es) Tc) (fun al' h1 h2=>F8 h1 (by rw[h2];kernel_rfl) (by omega) b7) fun v Tq hP=> ?_
   obtain⟨rfl,⟨ws,bw,pw,sw⟩,kw⟩:=hP;have b8':=(kw 5248705280 (by decide)).trans b8;have b6':=(kw 5248064384 (by decide)).trans b6;simp only[go_sem,h8,s506,fO];refine sC b8' (by rfl) (.inl rfl) (P:=pR EQ 5248705280 gg8 3 (DL ls es) Tq) (fun al' h1 h2=>F8 h1 (by rw[h2];kernel_rfl) (by omega) b8') fun v Tp hP=> ?_
   obtain⟨rfl,⟨us,bu,pu,su⟩,ku⟩:=hP;have bw':=(ku 5248640256 (by decide)).trans bw;have aji:=(ku 5248064384 (by decide)).trans b6';have wl:=pw.length_eq;have ul:=pu.length_eq;have cw:=pM pw sw;have cu:=pM pu su;have pcn:=wL g es (by omega) (e0:=av) (by rw[<- hE];rfl) ha 0;have c00:((0:Nat):Int)=0:=rfl;rw[c00] at pcn;have psw:=Hv g es UL (by omega);have ht3:List.take 3 (nP es)=nP es:=aau (by rw[vB];omega)
   have hB:R9 F ls av bv cv=((((sM (A7 ls es)).length:Int)==6)&&((((sM (DL ls es)).length:Int)==3)&&(es.any (nY ls · true)&&(es.any (nY ls · false)&&jJ F ls 0 es av)))):=by
    unfold R9;rw[hE,Ty,mj,mj];rfl
   unfold MZ;rw[hB];clear hB;simp only[go_sem,h7,s507,fO,<- wl];refine sC bw' (by rfl) (.inl rfl) (P:=FH 5248640256 gg7 3 ws Tp) (fun al' h1 h2=>y7 h1 (by omega) bw') fun v Ub hP=> ?_
   obtain⟨rfl,_,kc⟩:=hP;have bu':=(kc 5248705280 (by decide)).trans bu;have b63:=(kc 5248064384 (by decide)).trans aji;rw[cw];have lo:S.lone 5249152128=false:=by kernel_rfl
   cases q1:(((sM (A7 ls es)).length:Int)==6) with
   |false=>
    have q1':(((sM (A7 ls es)).length:Int)!=6)=true:=by simp only[bne,q1];rfl
    simp only[go_sem,q1'];rfl
   |true=>
    have q1':(((sM (A7 ls es)).length:Int)!=6)=false:=by simp only[bne,q1];rfl
    simp only[go_sem,h8,q1',s507,fO,<- ul];refine sC bu' (by rfl) (.inl rfl) (P:=FH 5248705280 gg8 3 us Ub) (fun al' h1 h2=>y7 h1 (by omega) bu') fun v ada hP=> ?_
    obtain⟨rfl,_,kd⟩:=hP;have b64:=(kd 5248064384 (by decide)).trans b63;rw[cu];cases q2:(((sM (DL ls es)).length:Int)==3) with
    |false=>
     have q2':(((sM (DL ls es)).length:Int)!=3)=true:=by simp only[bne,q2];rfl
     simp only[go_sem,q2'];rfl
    |true=>
     have q2':(((sM (DL ls es)).length:Int)!=3)=false:=by simp only[bne,q2];rfl
     cases q3:es.any (nY ls · true) with
     |false=>
      rw[q3] at h9;simp only[go_sem,h9,q2'];rfl
     |true=>
      rw[q3] at h9;cases q4:es.any (nY ls · false) with
      |false=>
       rw[q4] at TJ;simp only[go_sem,h9,TJ,q2'];rfl
      |true=>
       rw[q4] at TJ;cases q5:jJ F ls 0 es av with
       |false=>
        rw[q5] at pcn;simp only[go_sem,h0,h6,h9,TJ,q2',b64,s120,aa pcn,TS,vB,ht3];rfl
       |true=>
        rw[q5] at pcn;simp only[go_sem,h0,h6,h9,TJ,q2',b64,s120,aa pcn,s127,TS,vB,ht3];refine fQ psw lo (.inr (ap (cJ _))) fun cc Xo gc hb5=> ?_
        simp only[go_sem];rw[<- hE] at gc;exact aR gc
abbrev QV:List C:=[.p .TR, .p (.fn 75 [] []), .p (.fn 76 [] []), .p (.fn 77 [] []), .p (.fn 78 [] []), .p (.fn 79 [] []), .p (.fn 80 [] []), .p (.fn 81 [] []), .p (.fn 82 [] []), .p (.fn 83 [] []), .p (.fn 83 [] [])]
theorem CB(k:Int):0<=(cE k).1/\(cE k).1<=4/\0<=(cE k).2/\(cE k).2<=2:=by
 unfold cE;split
 ·simp
 ·split
  ·simp
  ·split<;>simp
theorem xA(hlen:ls.length<=400)(UD:aD ae.aJ ls<=200){k f:Nat}{rest:List C}(hk:QV.drop k= .p (.fn f [] [])::rest)(Wm:k<11)(hsf:S.Tf f=false){a b c:Int}{l o:Bool}{sg:Int}{res:Option (List Pc)}(ha:aH S 49 [.one (.p (ew F ls)),dL k a b c l o sg] (rb true))(hm:aH S f [.one (.p (ew F ls)),dL k a b c l o sg] (kR res))(hL: ∀ L,res=some L->L.length<=1000000):
  aH S 16 [.one (.p (ew F ls)),dL k a b c l o sg] (IJ F ls k res):=by
 have U1:=wg F;have pg:=GF k;have lo1:S.lone 1024192384=false:=by kernel_rfl
 have lo2:S.lone 1024576128=false:=by kernel_rfl
 have hlk: ∀ (Tc:aB),land Tc [] 1024192000 ((RV.agg [.p .TR, .p (.fn 75 [] []), .p (.fn 76 [] []), .p (.fn 77 [] []), .p (.fn 78 [] []), .p (.fn 79 [] []), .p (.fn 80 [] []), .p (.fn 81 [] []), .p (.fn 82 [] []), .p (.fn 83 [] []), .p (.fn 83 [] [])]).bK (S.lone 1024192000))=some (.agg QV,[]):=fun Tc=>by cases S.lone 1024192000<;>rfl
 have TD:=aF ls;obtain⟨g1,g2,g3,g4⟩:=CB k;have lg: ∀ Tc:aB,land Tc [] 1024384128 ((RV.tup [.one (.p (.int .i64 (cE k).1)), .one (.p (.int .i64 (cE k).2))]).bK (S.lone 1024384128))=some (.tup [.one (.p (.int .i64 (cE k).1)), .one (.p (.int .i64 (cE k).2))],[]):=fun Tc=>ak
 obtain⟨gr1,gr2,hgr⟩: ∃ x y,cE k=(x,y):=⟨_,_,rfl⟩;have d4:IJ F ls k none=kH 4:=rfl;have d7: ∀ L,((400:Int)<(ls.length:Int)+gr1\/(100:Int)<((aD ae.aJ ls/2:Nat):Int)+gr2)->IJ F ls k (some L)=kH 7:=fun L h=>by
  unfold IJ;rw[hgr];exact if_pos h
 have d0: ∀ L,¬ ((400:Int)<(ls.length:Int)+gr1\/(100:Int)<((aD ae.aJ ls/2:Nat):Int)+gr2)->IJ F ls k (some L)=qE F (qc L):=fun L h=>by
  unfold IJ;rw[hgr];exact if_neg h
 rw[hgr] at g1 g2 g3 g4 pg;simp only[hgr] at lg;simp only at g1 g2 g3 g4 lg pg;have w1:IntKind.i64.wrap (((pieces ls).length:Int)+gr1)=(ls.length:Int)+gr1:=by rw[TD];exact dd (by omega) (by omega)
 have w2:IntKind.i64.wrap (((aD ae.aJ ls/2:Nat):Int)+gr2)=((aD ae.aJ ls/2:Nat):Int)+gr2:=dd (by omega) (by omega);unfold kR at hm;generalize QV=kg at hk hlk;refine aG c16 ?_;simp only[go_sem,i16,s49,aa ha,s50,aY Gz (hlk _),hk,Wm,hsf];refine LX hm lo1 fun cc Tq w gc hb hw=> ?_
 have b0:=hb 1024000000 (by decide);have b1:=hb 1024000064 (by decide);simp only[go_sem] at b0 b1;cases res with
 |none=>
  rw[d4];simp only[go_sem,b1];refine⟨?_,rfl⟩;rcases hw with rfl|rfl<;>kernel_rfl
 |some L=>
  simp only[aaS] at gc;have pfin:=U1 L (hL L rfl) (.sl (dz (pieces ls))) (.sl (lZ (ay F ls))) (.sl (nP (dr F ls))) (.int .i64 (aD ae.bq ls:Nat)) (.int .i64 ((aD ae.aJ ls/2:Nat):Int)) (.sl (nP (counts ls F)));obtain⟨rs,UV,_⟩:=gc.bN;by_cases h1:(400:Int)<(ls.length:Int)+gr1
  ·rw[d7 L (.inl h1)];simp only[go_sem,b0,b1,s51,ai pg (lg _),w1,h1];refine⟨?_,rfl⟩;rcases hw with rfl|rfl<;>kernel_rfl
  ·by_cases h2:(100:Int)<((aD ae.aJ ls/2:Nat):Int)+gr2
   ·rw[d7 L (.inr h2)];simp only[go_sem,b0,b1,s51,ai pg (lg _),w1,w2,h1,h2];refine⟨?_,rfl⟩;rcases hw with rfl|rfl<;>kernel_rfl
   ·rw[d0 L (by rintro (h|h);exact h1 h;exact h2 h)];simp only[go_sem,b0,s51,ai pg (lg _),w1,w2,h1,h2,UV,s52];refine⟨?_,?_⟩
    ·rcases hw with rfl|rfl<;>kernel_rfl
    refine GL pfin lo2 rfl (r4 _) fun c2 Tp YM Tv=> ?_
    have b02:=(Tv 1024000064 (by decide)).trans b1;simp only[go_sem,b02];exact mt (YM.of_eq (aj (by decide)))
theorem LQ{k a b c:Int}{l o:Bool}{sg:Int}(ha:aH S 49 [.one (.p (ew F ls)),dL k a b c l o sg] (rb false)):aH S 16 [.one (.p (ew F ls)),dL k a b c l o sg] (kH 2):=by
 refine aG c16 ?_;simp only[go_sem,i16,s49,aa ha];try rfl
def tx(F:Nat)(ls:List ae)(k:Int)(a b c:Nat)(l o:Bool)(sg:Int):Option (List Pc):=
 if k=1 then RW ls a else if k=2 then Jd F ls a b c else if k=3 then Ry F ls a b else if k=4 then QS ls a else if k=5 then some (Sw ls a sg o) else if k=6 then QJ F ls a b else if k=7 then QE F ls a b l o else if k=8 then MZ F ls a b c else if k=9 then Qj F ls a else Ql ls a
def Dv(F:Nat)(ls:List ae)(k a b c:Int)(l o:Bool)(sg:Int):RV:=if aK F ls k a b c l o sg then IJ F ls k (tx F ls k a.toNat b.toNat c.toNat l o sg) else kH 2
theorem I4{k a b c:Int}{l o:Bool}{sg:Int}:(∃ e,Dv F ls k a b c l o sg=kH e)\/ ∃ L,Dv F ls k a b c l o sg=qE F L:=by
 unfold Dv;split
 ·cases tx F ls k a.toNat b.toNat c.toNat l o sg with
  |none=>exact .inl ⟨4,rfl⟩
  |some L=>
   by_cases h:(400:Int)<(ls.length:Int)+(cE k).1\/(100:Int)<((aD ae.aJ ls/2:Nat):Int)+(cE k).2
   ·exact .inl ⟨7,if_pos h⟩
   ·exact .inr ⟨qc L,if_neg h⟩
 ·exact .inl ⟨2,rfl⟩
theorem zc{k a b c:Int}{l o:Bool}{sg:Int}{res:RV}(po:aH S 15 [aQ F ls] (vc (ew F ls) (.int .i64 0)))(hd:aH S 16 [.one (.p (ew F ls)),dL k a b c l o sg] res)(fin:(∃ e,res=kH e)\/ ∃ L,res=qE F L):
  aH S 6 [aQ F ls,dL k a b c l o sg] res:=by
 have lo:S.lone 384256128=false:=by kernel_rfl
 refine aG c6 ?_;rcases fin with ⟨e,rfl⟩|⟨L,rfl⟩
 ·simp only[go_sem,i6,s15,ai po ak,s16,ai hd yy];rfl
 ·simp only[go_sem,i6,s15,ai po ak,s16];refine PO hd lo fun cc Tq gc hb=> ?_
  have b4:=hb 384000128 (by decide);simp only[go_sem] at b4;simp only[go_sem,b4];exact mt (gc.of_eq (aj (by decide)))
theorem bU{n:Nat}{i:Int}(h:mU n i=true): ∃ k:Nat,i=(k:Int)/\k<n:=by
 unfold mU at h;simp at h;exact⟨i.toNat,by omega,by omega⟩
theorem sx(l:List Pc)(drop:Nat->Pc->Bool):(iB l drop).length<=l.length:=jR l drop l.length
theorem xS(l:List Pc)(i:Nat)(g r:Int):(pH l i g r).length=l.length:=by simp[pH]
theorem yr{k:Int}{a b c:Nat}{l o:Bool}{sg:Int}{L:List Pc}(h:tx F ls k a b c l o sg=some L):L.length<=ls.length+4:=by
 have hp:=aF ls;unfold tx at h;repeat' split at h
 ·unfold RW at h;simp only at h;split at h
  ·cases h
   have:=sx (pieces ls) (fun k _=>decide (k=a)||decide (k=(a+1)%ls.length));simp only[aU,aak];omega
  ·cases h
 ·unfold Jd at h;split at h
  ·cases h;simp only[rQ,aO,aU,aak,aar,aav];omega
  ·split at h
   ·cases h;simp only[rQ,aO,aU,aak,aar,aav];omega
   ·cases h
 ·unfold Ry at h;split at h
  ·cases h;simp only[oz,rZ];omega
  ·cases h
 ·unfold QS at h;simp only at h;split at h
  ·cases h
   have:=sx (pieces ls) (kx [((pieces ls).getD a ⟨hH,false⟩).l.id]);simp only[tI,aak];omega
  ·cases h
 ·cases h;simp only[Sw,aO,aar,aav];omega
 ·unfold QJ at h;split at h
  ·cases h
   have:=sx (pieces ls) (kx [(pA ls a).l.id,(pA ls (nx ls a)).l.id]);simp only[tI,aak];omega
  ·cases h
 ·have key: ∀ s t,lY ls a b l o s t=some L->L.length<=ls.length+4:=fun s t h=>by
   unfold lY at h;split at h
   ·cases h
   ·simp only[aaw] at h;subst h;have h2: ∀ x sg o s,(xx x sg o s).length=2:=fun x sg o s=>by unfold xx;split<;>rfl
    split<;>simp only[aO,h2,aar,aav]<;>omega
  unfold QE at h;split at h
  ·exact key _ _ h
  ·exact key _ _ h
 ·unfold MZ at h;split at h
  ·cases h;simp only[oz];omega
  ·cases h
 ·unfold Qj at h;split at h
  ·cases h;simp only[xS,aU,aak];omega
  ·cases h
 ·unfold Ql at h;split at h
  ·cases h;simp only[xS,aU,aak];omega
  ·cases h
theorem do_p(g:bj F ls)(k a b c:Int)(l o:Bool)(sg:Int):aH S 16 [.one (.p (ew F ls)),dL k a b c l o sg] (Dv F ls k a b c l o sg):=by
 have pa:=PW (F:=F) (ls:=ls) (a:=a) (b:=b) (c:=c) (l:=l) (o:=o) (sg:=sg) k;have hlen:=g.len;have UD:=g.cr;unfold Dv;cases hA:aK F ls k a b c l o sg with
 |false=>
  rw[hA] at pa;exact LQ pa
 |true=>
  rw[hA] at pa;rw[if_pos rfl];have hL: ∀ L,tx F ls k a.toNat b.toNat c.toNat l o sg=some L->L.length<=1000000:=fun L h=>by have:=yr h;omega
  have ne:=g.ne;have Xt: ¬ ls.length=0:=by
   have:=abn.2 ne;omega
  unfold aK at hA;by_cases h1:k=1
  ·subst h1;simp only[Int.reduceEq,if_true,if_false,or_false,or_self] at hA;simp only[aan,aaH,beq_iff_eq] at hA;obtain⟨rfl,rfl,rfl,hx,rfl,rfl⟩:=hA;obtain⟨av,rfl,ha⟩:=bU hx;simp only[abm] at hL ⊢;exact xA hlen UD (k:=1) rfl (by decide) (by kernel_rfl) pa (IZ g ha) hL
  by_cases h2:k=2
  ·subst h2;simp only[Int.reduceEq,if_true,if_false,or_self] at hA;simp only[aan,abk,aaH,beq_iff_eq,decide_eq_true_eq] at hA;obtain⟨rfl,rfl,rfl,hx,UF,hbF,hc0,Wt⟩:=hA;rcases hx with hx|⟨hx,_⟩
   rotate_left
   ·exact absurd hx Xt
   obtain⟨av,rfl,ha⟩:=bU hx;obtain⟨bv,rfl⟩:=aa8 UF;obtain⟨cv,rfl⟩:=aa8 hc0;simp only[abm] at hL Wt ⊢;have:=dS (I3 bv) ls;exact xA hlen UD (k:=2) rfl (by decide) (by kernel_rfl) pa (FO g ha (by omega) (by simp only[cg] at Wt;omega)) hL
  by_cases h3:k=3
  ·subst h3;simp only[Int.reduceEq,if_true,if_false,or_false,or_self] at hA;simp only[aan,aaH,beq_iff_eq,decide_eq_true_eq] at hA;obtain⟨rfl,rfl,rfl,hx,rfl,hy,Ti⟩:=hA;obtain⟨av,rfl,ha⟩:=bU hx;obtain⟨bv,rfl,hb⟩:=bU hy;simp only[abm] at hL ⊢;exact xA hlen UD (k:=3) rfl (by decide) (by kernel_rfl) pa (Dr g ha hb) hL
  by_cases h4:k=4
  ·subst h4;simp only[Int.reduceEq,if_true,if_false,or_false,or_true,or_self] at hA;simp only[aan,aaH,beq_iff_eq] at hA;obtain⟨rfl,rfl,rfl,hx,rfl,rfl⟩:=hA;obtain⟨av,rfl,ha⟩:=bU hx;simp only[abm] at hL ⊢;exact xA hlen UD (k:=4) rfl (by decide) (by kernel_rfl) pa (Ii g ha) hL
  by_cases h5:k=5
  ·subst h5;simp only[Int.reduceEq,if_true,if_false,or_self] at hA;simp only[aan,abk,aaH,beq_iff_eq] at hA;obtain⟨rfl,hs,hx,rfl,rfl⟩:=hA;obtain⟨av,rfl,ha⟩:=bU hx;simp only[abm] at hL ⊢;exact xA hlen UD (k:=5) rfl (by decide) (by kernel_rfl) pa (ER g ha) hL
  by_cases h6:k=6
  ·subst h6;simp only[Int.reduceEq,if_true,if_false,or_true,or_self] at hA;simp only[aan,aaH,beq_iff_eq,decide_eq_true_eq] at hA;obtain⟨rfl,rfl,rfl,hx,rfl,hy,Ti⟩:=hA;obtain⟨av,rfl,ha⟩:=bU hx;obtain⟨bv,rfl,hb⟩:=bU hy;simp only[abm] at hL ⊢;exact xA hlen UD (k:=6) rfl (by decide) (by kernel_rfl) pa (Ia g ha hb) hL
  by_cases h7:k=7
  ·subst h7;simp only[Int.reduceEq,if_true,if_false,or_self] at hA;simp only[aan,aaH,beq_iff_eq,beq_eq_false_iff_ne] at hA;obtain⟨rfl,hx,rfl,hy,TA⟩:=hA;obtain⟨av,rfl,ha⟩:=bU hx;obtain⟨bv,rfl,hb⟩:=bU hy;simp only[abm] at hL ⊢;exact xA hlen UD (k:=7) rfl (by decide) (by kernel_rfl) pa (EG g ha hb (by omega)) hL
  by_cases h8:k=8
  ·subst h8;simp only[Int.reduceEq,if_true,if_false,or_self] at hA;simp only[aan,aaH,beq_iff_eq,decide_eq_true_eq] at hA;obtain⟨rfl,rfl,rfl,hx,hy,hz,_,_⟩:=hA;obtain⟨av,rfl,ha⟩:=bU hx;obtain⟨bv,rfl,hb⟩:=bU hy;obtain⟨cv,rfl,hc⟩:=bU hz;simp only[abm] at hL ⊢;exact xA hlen UD (k:=8) rfl (by decide) (by kernel_rfl) pa (DZ g ha hb hc) hL
  by_cases h9:k=9
  ·subst h9;simp only[Int.reduceEq,if_true,if_false,or_false,or_true,or_self] at hA;simp only[aan,aaH,beq_iff_eq] at hA;obtain⟨rfl,rfl,rfl,hx,rfl,rfl⟩:=hA;obtain⟨av,rfl,ha⟩:=bU hx;simp only[abm] at hL ⊢;exact xA hlen UD (k:=9) rfl (by decide) (by kernel_rfl) pa (Qm g ha) hL
  by_cases TJ:k=10
  ·subst TJ;simp only[Int.reduceEq,if_true,if_false,or_true,or_self] at hA;simp only[aan,aaH,beq_iff_eq] at hA;obtain⟨rfl,rfl,rfl,hx,rfl,rfl⟩:=hA;obtain⟨av,rfl,ha⟩:=bU hx;simp only[abm] at hL ⊢;exact xA hlen UD (k:=10) rfl (by decide) (by kernel_rfl) pa (Qn g ha) hL
  ·simp[h1,h2,h3,h4,h5,h6,h7,h8,h9,TJ] at hA
theorem Hi(g:bj F ls)(k a b c:Int)(l o:Bool)(sg:Int):aH S 6 [aQ F ls,dL k a b c l o sg] (Dv F ls k a b c l o sg):=zc (QK g) (do_p g k a b c l o sg) I4
def RQ(F:Nat)(k a b c:Int)(l o:Bool)(sg:Int):RV:=if aK F [] k a b c l o sg then qE F (IS b.toNat) else kH 2
theorem PX{F:Nat}{k a b c:Int}{l o:Bool}{sg:Int}(h:aK F [] k a b c l o sg=true): ∃ bv:Nat,k=2/\a=0/\b=(bv:Int)/\bv<=F/\c=0/\l=false/\o=false/\sg=0:=by
 have hi: ∀ i:Int,mU 0 i=false:=fun i=>by unfold mU;simp
 unfold aK at h;by_cases h2:k=2
 ·subst h2;simp only[if_true,aav,hi,aca,aan,aaH,beq_iff_eq,decide_eq_true_eq] at h;obtain⟨rfl,rfl,rfl,⟨_,rfl⟩,UF,hbF,hc0,Wt⟩:=h;obtain⟨bv,rfl⟩:=aa8 UF;have:cg [] ((bv:Int).toNat)=0:=rfl;rw[this] at Wt;exact⟨bv,rfl,rfl,rfl,by omega,by omega,rfl,rfl,rfl⟩
 ·simp[h2,hi] at h
theorem O7{F:Nat}(hF:F<=40)(k a b c:Int)(l o:Bool)(sg:Int):aH S 6 [aQ F [],dL k a b c l o sg] (RQ F k a b c l o sg):=by
 unfold RQ;cases hA:aK F [] k a b c l o sg with
 |false=>
  have pa:=PW (F:=F) (ls:=[]) (a:=a) (b:=b) (c:=c) (l:=l) (o:=o) (sg:=sg) k;rw[hA] at pa;exact zc (Pz hF) (LQ pa) (.inl ⟨2,rfl⟩)
 |true=>
  obtain⟨bv,rfl,rfl,rfl,hb,rfl,rfl,rfl,rfl⟩:=PX hA;exact Mm hF hb
end
end Go.Abs
