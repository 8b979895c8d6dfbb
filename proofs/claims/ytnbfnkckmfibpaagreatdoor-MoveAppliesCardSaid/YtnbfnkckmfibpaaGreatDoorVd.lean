/-
  The state of a code in the document.
-/
import Derived.Test.YtnbfnkckmfibpaaGreatDoorWx
import Derived.Test.YtnbfnkckmfibpaaGreatDoorVa
set_option linter.unusedSimpArgs false
set_option linter.unusedVariables false
set_option linter.unusedSectionVars false
set_option maxRecDepth 100000
set_option maxHeartbeats 16000000
namespace Go.Abs
section
variable{F:Nat}{ls:List ae}
abbrev Ps(F:Nat)(ls:List ae):List C:=[.p (.int .i64 F), .p (tY ls), .p (.int .i64 ls.length), .p (.sl (lZ (ay F ls)))]
abbrev kZ(F:Nat)(ls:List ae):V:= .agg (Ps F ls)
abbrev lA(ls:List ae)(i:Nat):ae:=ls.getD i hH
theorem Sz{i:Nat}{l:ae}(h:ls[i]? =some l):lA ls i=l:=by rw[lA,aap,h];rfl
theorem dD{i:Nat}(h:i<ls.length):ls[i]? =some (lA ls i):=by
 obtain⟨l,hl⟩:=ao h;rw[Sz hl,hl]
abbrev xy(l:ae):RV:= .agg [.p (.int .i64 l.kind), .p (.int .i64 l.gate), .p (.int .i64 l.Th), .p (.int .i64 l.id), .p (.int .i64 l.sign), .p (.bool l.over)]
theorem Fh{s1 t1 z1:Nat}{es:List (List PV)}{c:C}{x y w:PV}{Tc:aB}(h:grown s1 t1 z1 es (.one c) Tc):en Tc (.agg [.p x, .p y, .p w,c])=some (.agg [.p x, .p y, .p w,aq t1 z1 es]):=by
 obtain⟨c',o,hc,h2,h3⟩:=h.eo;cases hc
 have e1:eo Tc (.p x)=some (.p x,[],[]):=rfl;have e2:eo Tc (.p y)=some (.p y,[],[]):=rfl;have e3:eo Tc (.p w)=some (.p w,[],[]):=rfl;rcases h3 with rfl|rfl<;>simp[en,et,cb,dg,h2,e1,e2,e3,apart,eZ,cX]
theorem vx(g:bj F ls):aH S 17 [aQ F ls] (.agg [.p (.int .i64 F), .p (tY ls), .p (.int .i64 ls.length),aq lS 5 (lZ (ay F ls))]):=by
 have hF:=g.fing;have pf:=Oq g.ok (by omega) g.axne;have lo:S.lone 1088192064=false:=by kernel_rfl
 have hn:(0:Int)<(ls.length:Int):=by
  have:=abn.2 g.ne;omega
 refine aG c17 ?_;simp only[go_sem,i17,hn,s53];refine fQ pf lo (.inl rfl) fun cc Tq gc hb=> ?_
 have b1:=hb 1088064320 (by decide);have b2:=hb 1088000064 (by decide);simp only[go_sem] at b1 b2;simp only[go_sem,b1,b2];exact Fh (gc.of_eq ((aj (by decide)).trans (aj (by decide))))
theorem nO{e:Nat}(he:e<ls.length)(hl:ls.length<=1000000):aH S 22 [kZ F ls,vi e] (ri ((e+1)%ls.length:Nat)):=by
 have w1:=am (n:=e) (by omega);have hz: ¬ ((ls.length:Int)=0):=by omega
 have tm:=dq (e+1) ls.length;refine aG c22 ?_;simp only[go_sem,i22,w1,hz,tm]
theorem sR{e:Nat}(he:e<ls.length)(hl:ls.length<=1000000):aH S 20 [kZ F ls,vi e] (.tup [xy (lA ls e),xy (lA ls (nx ls e))]):=by
 have pe:=nO (F:=F) he hl;have hm:=aax (e+1) (show 0<ls.length by omega);have h1:=cD (dD he);have h2:=cD (dD hm);refine aG c20 ?_;simp only[go_sem,i20,s22,bg pe,h1,h2,ae.ps];exact⟨au,rfl⟩
theorem yH(o:List Int)(x:Int)(hl:o.length<=1000000):aH S 57 [.one (.p (.sl (iP o))),vi x] (rb (decide (x∈o))):=by
 refine aG c57 ?_;simp only[go_sem,i57];refine be (fun k env Tc=>env 0= .one (.p (.sl (iP o)))/\env 1=vi x/\env 5=vi k/\ ∀ j,j<k->o[j]? ≠some x) 0 o.length (aah _) ?_ ?_
 ·simp only[go_sem];exact⟨rfl,fun j hj=>absurd hj (abl j)⟩
 ·rintro k env Tc hk ⟨h0,h1,h5,hn⟩
  by_cases Ti:k<o.length
  ·have Tk:((k:Int)<(o.length:Int)):=by omega
   obtain⟨y,hy⟩:=ao Ti;have T1:=nH hy;have w1:=am (n:=k) (by omega);by_cases hb:y=x
   ·subst hb;have hc:decide (y∈o)=true:=by simpa using aaf hy
    simp only[go_sem,i57_l1,h0,h1,h5,Tk,T1,hc]
   ·have YJ:=(GR hb).1;have hn': ∀ j,j<k+1->o[j]? ≠some x:=fun j hj=>by
     rcases aaW.1 hj with h|rfl
     ·exact hn j h
     ·rw[hy];intro h;cases h;exact hb rfl
    simp only[go_sem,i57_l1,h0,h1,h5,Ti,Tk,T1,YJ,w1];exact hn'
  ·have:k=o.length:=by omega
   subst this;have hc:decide (x∈o)=false:=by
    simp only[decide_eq_false_iff_not];intro hm;obtain⟨j,hj⟩:=aaC hm;exact absurd hj (hn j (aag.1 hj).1)
   simp only[go_sem,i57_l1,i57_r2,h0,h5,aN,hc]
theorem SB(o:List Nat):nP o=iP (o.map fun n:Nat=>(n:Int)):=by simp[acq]
theorem rn(o:List Nat)(x:Nat)(hl:o.length<=1000000):aH S 57 [.one (.p (.sl (nP o))),vi x] (rb (decide (x∈o))):=by
 have:=yH (o.map fun n:Nat=>(n:Int)) x (by rw[aak];exact hl);rw[SB];rw[show decide ((x:Int)∈o.map fun n:Nat=>(n:Int))=decide (x∈o) by
  rw[decide_eq_decide,aaF];constructor
  ·rintro ⟨a,h,e⟩
   have:a=x:=by omega
   exact this▸h
  ·exact fun h=>⟨x,h,rfl⟩] at this
 exact this
theorem cV(i:Int):aH S 91 [kZ F ls,vi i] (rb (mU ls.length i)):=by
 refine aG c91 ?_;unfold mU;by_cases h1:0<=i
 ·by_cases h2:i<(ls.length:Int)
  ·simp only[go_sem,i91,h1,h2]
  ·simp only[go_sem,i91,h1,h2]
 ·simp only[go_sem,i91,h1]
theorem Gb{S:List Bool}{x:Nat}(h:sn S x=false):x<S.length:=by
 rcases Nat.lt_or_ge x S.length with h1|h1
 ·exact h1
 ·rw[sn,aap,abI h1] at h;cases h
theorem uI(next:Nat->Nat): ∀ (k x:Nat) (S:List Bool),(∀ y∈(bQ next k x S).1,sn S y=false)/\(bQ next k x S).1.Nodup/\ ∀ y,sn (bQ next k x S).2 y=(sn S y||decide (y∈(bQ next k x S).1)):=by
 intro k
 induction k with
 |zero=>intro x S;simp[bQ]
 |succ k ih=>
  intro x S;unfold bQ;cases hx:S.getD x true with
  |true=>simp
  |false=>
   have hl:=Gb (S:=S) (x:=x) hx;obtain⟨h1,h2,h3⟩:=ih (next x) (S.set x true);simp only[aaL,if_false];have T5: ∀ y,sn (S.set x true) y=if y=x then true else sn S y:=fun y=>u3 hl
   refine⟨fun y hy=> ?_,?_,fun y=> ?_⟩
   ·rcases aat.1 hy with rfl|hy
    ·exact hx
    ·have:=h1 y hy;rw[T5] at this;split at this
     ·cases this
     ·exact this
   ·refine abD.2 ⟨fun hm=> ?_,h2⟩;have:=h1 x hm;rw[T5,if_pos rfl] at this;cases this
   ·rw[h3,T5];by_cases e:y=x
    ·subst e;simp
    ·rw[if_neg e];have:decide (y∈x::(bQ next k (next x) (S.set x true)).1)=decide (y∈(bQ next k (next x) (S.set x true)).1):=by simp[e]
     rw[this]
theorem Bc(next:Nat->Nat)(N:Nat): ∀ k,(aL next N k).1.flatten.Nodup/\(∀ y,y<N->sn (aL next N k).2 y=decide (y∈(aL next N k).1.flatten))/\(∀ y∈(aL next N k).1.flatten,y<N)/\ ∀ x,x<k->x<N->sn (aL next N k).2 x=true:=by
 intro k
 induction k with
 |zero=>
  refine⟨by simp[aL],fun y hy=> ?_,by simp[aL],fun x hx=>absurd hx (abl x)⟩;have:(aL next N 0).2=List.replicate N false:=rfl;rw[this,Ef hy];simp[aL]
 |succ k ih=>
  obtain⟨h1,h2,h4,h3⟩:=ih;rw[de];unfold d9;have hlen:=gH next N k;cases hk:(aL next N k).2.getD k true with
  |true=>
   rw[if_pos rfl];refine⟨h1,h2,h4,fun x hx hxN=> ?_⟩;rcases aaW.1 hx with h|rfl
   ·exact h3 x h hxN
   ·exact hk
  |false=>
   rw[if_neg (by decide)];have hkN:k<N:=by have:=Gb (S:=(aL next N k).2) hk;omega
   obtain⟨g1,g2,g3⟩:=uI next ((aL next N k).2.length+1) k (aL next N k).2;have YF:=ta next ((aL next N k).2.length+1) k (aL next N k).2 (by have:=jN (aL next N k).2;omega);refine⟨?_,fun y hy=> ?_,?_,fun x hx hxN=> ?_⟩
   ·rw[aco,adb];refine⟨h1,by simpa using g2,fun y hy z hz=> ?_⟩;rintro rfl
    have e1:=g1 y (by simpa using hz);have hyN:=h4 y hy;rw[h2 y hyN] at e1;simp[hy] at e1
   ·rw[g3,h2 y hy,aco,abj];simp
   ·intro y hy;rw[aco,aaM] at hy;rcases hy with hy|hy
    ·exact h4 y hy
    ·have:=Gb (g1 y (by simpa using hy));omega
   ·rcases aaW.1 hx with h|rfl
    ·rw[g3,h3 x h hxN];rfl
    ·exact YF
theorem kC(next:Nat->Nat)(N:Nat):(bt next N).flatten.Nodup/\ ∀ y,y<N->y∈(bt next N).flatten:=by
 obtain⟨h1,h2,_,h3⟩:=Bc next N N;refine⟨h1,fun y hy=> ?_⟩;have:=h3 y hy hy;rw[h2 y hy] at this;exact of_decide_eq_true this
theorem yo{L:List (List Nat)}(h:L.flatten.Nodup){i j:Nat}{a b:List Nat}{x:Nat}(hi:L[i]? =some a)(hj:L[j]? =some b)(ha:x∈a)(hb:x∈b):i=j:=by
 induction L generalizing i j with
 |nil=>simp at hi
 |cons l L ih=>
  rw[aaI,adb] at h;obtain⟨_,h2,h3⟩:=h;cases i with
  |zero=>
   simp at hi;subst hi;cases j with
   |zero=>rfl
   |succ j=>simp at hj;exact absurd rfl (h3 x ha x (List.mem_flatten.2 ⟨b,aaf hj,hb⟩))
  |succ i=>
   simp at hi;cases j with
   |zero=>simp at hj;subst hj;exact absurd rfl (h3 x hb x (List.mem_flatten.2 ⟨a,aaf hi,ha⟩))
   |succ j=>simp at hj;rw[ih h2 hi hj]
section
variable {F:Nat} {ls:List ae}
theorem yQ{j:Nat}{f:Fc}(h:(ay F ls)[j]? =some f): ∃ w,(bt (cM ls) (nD ls))[j]? =some w/\f=dM F ls w:=by
 unfold ay at h;rw[aaA] at h;cases hw:(bt (cM ls) (nD ls))[j]? with
 |none=>rw[hw] at h;cases h
 |some w=>rw[hw] at h;cases h;exact⟨w,rfl,rfl⟩
theorem rB{i j:Nat}{a b:Fc}{d:Nat}(hi:(ay F ls)[i]? =some a)(hj:(ay F ls)[j]? =some b)(ha:d∈a.Tl)(hb:d∈b.Tl):i=j:=by
 obtain⟨v,hv,rfl⟩:=yQ hi;obtain⟨w,hw,rfl⟩:=yQ hj;rw[jr] at ha hb;exact yo (kC _ _).1 hv hw (acf.1 ha).1 (acf.1 hb).1
theorem tJ{f:Fc}(h:f∈ay F ls):f.Tl.Nodup:=by
 obtain⟨w,hw,rfl⟩:=aaF.1 h;rw[jr];have:=(kC (cM ls) (nD ls)).1;exact List.Pairwise.sublist List.filter_sublist (List.Pairwise.sublist (List.sublist_flatten_of_mem hw) this)
theorem OJ{d:Nat}(hd:d<2*ls.length): ∃ (j:Nat) (f:Fc),(ay F ls)[j]? =some f/\d∈f.Tl:=by
 have:=(kC (cM ls) (nD ls)).2 d (by unfold nD;omega);obtain⟨w,hw,hdw⟩:=List.mem_flatten.1 this;obtain⟨j,hj⟩:=aaC hw;have Wh:(ay F ls)[j]? =some (dM F ls w):=by unfold ay;rw[aaA,hj];rfl
 refine⟨j,dM F ls w,Wh,?_⟩;rw[jr];exact acf.2 ⟨hdw,by simpa using hd⟩
theorem u6{ds:List Nat}{v:Nat}{d:Nat}: ∀ {L:List Nat},d<L.length->(eu L ds v)[d]? =if d∈ds then some v else L[d]? :=by
 induction ds with
 |nil=>intro L _;simp[eu]
 |cons e ds ih=>
  intro L hd;show(eu (L.set e v) ds v)[d]? =_;rw[ih (by simpa using hd),aa3];by_cases h1:d∈ds
  ·simp[h1]
  ·by_cases h2:e=d
   ·subst h2;simp[hd]
   ·have:d≠e:=fun h=>h2 h.symm
    simp[h1,h2,this]
theorem KX{d:Nat}: ∀ {fs:List Fc} {j:Nat} {L:List Nat},d<L.length->(∀ f∈fs,d∉f.Tl)->(hJ fs j L)[d]? =L[d]? :=by
 intro fs
 induction fs with
 |nil=>intro j L _ _;rfl
 |cons f fs ih=>
  intro j L hd h;show(hJ fs (j+1) (eu L f.Tl j))[d]? =_;rw[ih (by rw[jW];exact hd) fun g hg=>h g (by simp[hg]),u6 hd,if_neg (h f (by simp))]
theorem KY{d:Nat}: ∀ {fs:List Fc} {j i:Nat} {L:List Nat} {f:Fc},d<L.length->fs[i]? =some f->d∈f.Tl->(∀ i' f',fs[i']? =some f'->d∈f'.Tl->i'=i)->(hJ fs j L)[d]? =some (j+i):=by
 intro fs
 induction fs with
 |nil=>intro j i L f _ h;simp at h
 |cons g fs ih=>
  intro j i L f hd hi hf hu;show(hJ fs (j+1) (eu L g.Tl j))[d]? =_;cases i with
  |zero=>
   simp at hi;subst hi;rw[KX (by rw[jW];exact hd),u6 hd,if_pos hf]
   ·rfl
   ·intro f' hf' hd';obtain⟨i',hi'⟩:=aaC hf';have:=hu (i'+1) f' (by simpa using hi') hd';omega
  |succ i=>
   simp at hi;rw[ih (by rw[jW];exact hd) hi hf fun i' f' h1 h2=>by have:=hu (i'+1) f' (by simpa using h1) h2;omega];congr 1;omega
theorem left_at{d j:Nat}{f:Fc}(hd:d<2*ls.length)(hf:(ay F ls)[j]? =some f)(hm:d∈f.Tl):(dr F ls)[d]? =some j:=by
 unfold dr;rw[KY (by simpa using hd) hf hm fun i' f' h1 h2=>rB h1 hf h2 hm];congr 1;omega
theorem fR{d:Nat}(hd:d<2*ls.length): ∃ j,(ay F ls)[j]? =some (aA F ls d)/\d∈(aA F ls d).Tl/\(dr F ls)[d]? =some j:=by
 obtain⟨j,f,hf,hm⟩:=OJ (F:=F) hd;have hl:=left_at hd hf hm;have e:aA F ls d=f:=by
  unfold aA;rw[aap (l:=dr F ls),hl,aaS,aap,hf,aaS]
 exact⟨j,e▸hf,e▸hm,hl⟩
theorem sJ{d:Nat}{f:Fc}(hd:d<2*ls.length)(hf:f∈ay F ls)(hm:d∈f.Tl):aA F ls d=f:=by
 obtain⟨j,h1,h2,_⟩:=fR (F:=F) hd;obtain⟨i,hi⟩:=aaC hf;have:=rB hi h1 hm h2;subst this;rw[h1] at hi;cases hi;rfl
theorem iY{d:Nat}(hd:d<2*ls.length):aA F ls d∈ay F ls:=by
 obtain⟨j,h1,_⟩:=fR (F:=F) hd;exact aaf h1
theorem yR{d:Nat}(hd:d<2*ls.length):(ay F ls).find? (fun f=>f.Tl.contains d)=some (aA F ls d):=by
 cases h:(ay F ls).find? (fun f=>f.Tl.contains d) with
 |none=>
  have:=adr.1 h _ (iY hd);obtain⟨_,_,h2,_⟩:=fR (F:=F) hd;simp[h2] at this
 |some f=>
  have h1:=adt h;have h2:=List.find?_some h;rw[sJ hd h1 (by simpa using h2)]
def pI(pl:Nat)(edges:List Nat)(f:Fc):Bool:=(f.Tl.length==edges.length)&&((f.places.length==pl)&&edges.all fun e=> !(decide (2*e∈f.Tl)==decide (2*e+1∈f.Tl)))
def jZ(F:Nat)(ls:List ae)(pl:Nat)(edges:List Nat):Bool:=(ay F ls).any (pI pl edges)
theorem OI{f:Fc}(h:f.Tl.Nodup)(e:Nat):t6 f e=(if 2*e∈f.Tl then 1 else 0)+(if 2*e+1∈f.Tl then 1 else 0):=by
 unfold t6;generalize f.Tl=D at h
 induction D with
 |nil=>simp
 |cons d D ih=>
  obtain⟨h1,h2⟩:=abD.1 h;rw[abV,ih h2];by_cases e1:d=2*e
  ·subst e1;have:(2*e/2==e)=true:=by simp
   have e3: ¬ (2*e+1=2*e):=by omega
   simp[h1];omega
  ·by_cases e2:d=2*e+1
   ·subst e2;have:((2*e+1)/2==e)=true:=by simp;omega
    have e3: ¬ (2*e=2*e+1):=by omega
    simp[this,h1]
   ·have:(d/2==e)=false:=by simp;omega
    have e3: ¬ (2*e=d):=fun h=>e1 h.symm
    have e4: ¬ (2*e+1=d):=fun h=>e2 h.symm
    simp[this,e3,e4]
theorem yY{f:Fc}(h:f.Tl.Nodup)(pl:Nat)(edges:List Nat):tN f pl edges=pI pl edges f:=by
 unfold tN pI;congr 2;refine List.all_congr rfl fun e=> ?_
 rw[OI h];by_cases h1:2*e∈f.Tl<;>by_cases h2:2*e+1∈f.Tl<;>simp[h1,h2]
theorem qd{pl:Nat}{edges:List Nat}{e0:Nat}(h0:edges[0]? =some e0)(he0:e0<ls.length):jJ F ls pl edges e0=jZ F ls pl edges:=by
 unfold jJ jZ;have m1:=iY (F:=F) (ls:=ls) (d:=2*e0) (by omega);have m2:=iY (F:=F) (ls:=ls) (d:=2*e0+1) (by omega);rw[yY (tJ m1),yY (tJ m2),abj,abk,acu];constructor
 ·rintro (h|h)
  ·exact⟨_,m1,h⟩
  ·exact⟨_,m2,h⟩
 ·rintro ⟨f,hf,h⟩
  have hm:=h;unfold pI at hm;simp only[aan,aaJ] at hm;have:=hm.2.2 e0 (aaf h0);by_cases h1:2*e0∈f.Tl
  ·left;rw[sJ (by omega) hf h1];exact h
  ·by_cases h2:2*e0+1∈f.Tl
   ·right;rw[sJ (by omega) hf h2];exact h
   ·simp[h1,h2] at this
end
def lG(a b:ae):Bool:=(a.kind==1)&&((b.kind==1)&&((a.gate==b.gate)&&((a.Th==b.Th+1)||(b.Th==a.Th+1))))
abbrev Sa(a:ae):Prop:= -1000000<=a.Th/\a.Th<=1000000
theorem KH(a b:ae)(ha:Sa a)(hb:Sa b):aH S 93 [vH a,vH b] (rb (lG a b)):=by
 have wa:IntKind.i64.wrap (a.Th+1)=a.Th+1:=dd (by have:=ha.1;omega) (by have:=ha.2;omega);have wb:IntKind.i64.wrap (b.Th+1)=b.Th+1:=dd (by have:=hb.1;omega) (by have:=hb.2;omega);unfold lG;refine aG c93 ?_;simp only[go_sem,i93];repeat' ((first|apply gO|apply gQ|apply gT|apply gU|apply gV|apply gX)<;>intro he<;>simp only[go_sem, *])
 all_goals(first|done|exact au|exact⟨au,rfl⟩|rfl)
theorem qZ{Tc:aB}{s:Nat}{l:Bool}(a b:ae):land Tc [] s ((RV.tup [xy a,xy b]).bK l)=some (.tup [vH a,vH b],[]):=by cases l<;>rfl
theorem fk{Tc:aB}{s:Nat}{l:Bool}(a b:ae)(x:Bool):land Tc [] s ((RV.tup [xy a,xy b, .one (.p (.bool x))]).bK l)=some (.tup [vH a,vH b,vb x],[]):=by cases l<;>rfl
def fy(ls:List ae)(e:Nat):ae × ae × Bool:=
 if (lA ls e).kind==1 then (lA ls (nx ls e),lA ls e,((lA ls (nx ls e)).kind==2)&&((lA ls e).kind==1)) else (lA ls e,lA ls (nx ls e),((lA ls e).kind==2)&&((lA ls (nx ls e)).kind==1))
def xB(ls:List ae)(e:Nat):Bool:=((lA ls e).kind==2)&&((lA ls (nx ls e)).kind==2)
def PJ(ls:List ae)(e:Nat):Int:=(if (lA ls e).over then 1 else 0)+(if (lA ls (nx ls e)).over then 1 else 0)
section
variable {F:Nat} {ls:List ae}
theorem ur{e:Nat}(he:e<ls.length)(hl:ls.length<=1000000):aH S 25 [kZ F ls,vi e] (.tup [xy (fy ls e).1,xy (fy ls e).2.1, .one (.p (.bool (fy ls e).2.2))]):=by
 have pb:=sR (F:=F) he hl;unfold fy;generalize lA ls e=A at pb ⊢;generalize lA ls (nx ls e)=B at pb ⊢;refine aG c25 ?_;cases hk:(A.kind==1) with
 |true=>
  rw[if_pos rfl];simp only[go_sem,i25,s20,ai pb (qZ _ _),hk];repeat' ((first|apply gO|apply gQ|apply gT|apply gU|apply gV|apply gX)<;>intro he<;>simp only[go_sem, *])
  all_goals(first|done|exact au|exact⟨au,rfl⟩|rfl)
 |false=>
  rw[if_neg (by decide)];simp only[go_sem,i25,s20,ai pb (qZ _ _),hk];repeat' ((first|apply gO|apply gQ|apply gT|apply gU|apply gV|apply gX)<;>intro he<;>simp only[go_sem, *])
  all_goals(first|done|exact au|exact⟨au,rfl⟩|rfl)
theorem oR{e:Nat}(he:e<ls.length)(hl:ls.length<=1000000):aH S 95 [kZ F ls,vi e] (.tup [xy (lA ls e),xy (lA ls (nx ls e)), .one (.p (.bool (xB ls e)))]):=by
 have pb:=sR (F:=F) he hl;unfold xB;generalize lA ls e=A at pb ⊢;generalize lA ls (nx ls e)=B at pb ⊢;refine aG c95 ?_;simp only[go_sem,i95,s20,ai pb (qZ _ _)];repeat' ((first|apply gO|apply gQ|apply gT|apply gU|apply gV|apply gX)<;>intro he<;>simp only[go_sem, *])
 all_goals(first|done|exact au|exact⟨au,rfl⟩|rfl)
theorem N3{e:Nat}(he:e<ls.length)(hl:ls.length<=1000000):aH S 130 [kZ F ls,vi e] (ri (PJ ls e)):=by
 have pb:=sR (F:=F) he hl;unfold PJ;generalize lA ls e=A at pb ⊢;generalize lA ls (nx ls e)=B at pb ⊢;have w0:IntKind.i64.wrap (0+1)=1:=by decide
 have w1:IntKind.i64.wrap (1+1)=2:=by decide
 refine aG c130 ?_;cases ha:A.over<;>cases hb:B.over<;>simp only[go_sem,i130,s20,ai pb (qZ _ _),ha,hb]
 all_goals rfl
theorem NI(b c:Int)(hl:ls.length<=1000000):aH S 92 [aQ F ls, .agg [.p (.int .i64 b), .p (.int .i64 c)]] (rb (decide (0<=b)&&(decide (b<=(F:Int))&&(decide (0<=c)&&decide (c<=((aD (o0 b) ls:Nat):Int)))))):=by
 have pi:=Od F ls hl b;refine aG c92 ?_;simp only[go_sem,i92];repeat' ((first|apply gO|apply gQ|apply gT|apply gU|apply gV|apply gX)<;>intro he<;>simp only[go_sem, *,s31,bg pi])
 all_goals(first|done|exact au|exact⟨au,rfl⟩|rfl)
theorem QN(f:Fc)(p:Nat × Nat)(hl:f.places.length<=1000000):aH S 58 [.agg (f.ps.map .p), .agg [.p (.int .i64 p.1), .p (.int .i64 p.2)]] (rb (decide (p∈f.places))):=by
 refine aG c58 ?_;simp only[go_sem,i58,Fc.ps];refine be (fun k env Tc=>env 2= .one (.Tn 3712000000 1 0)/\env 3= .one (.Tn 3712000064 1 0)/\env 5=vi k/\Tc 3712000000=(1,some (.var [.p (.bool f.Tu), .p (.sl (nP f.Tl)), .p (.sl (fv f.places)), .p (.sl (nP f.TF)), .p (.bool f.outer)]))/\Tc 3712000064=(1,some (.var [.p (.int .i64 p.1), .p (.int .i64 p.2)]))/\ ∀ j,j<k->f.places[j]? ≠some p) 0 f.places.length (aah _) ?_ ?_
 ·simp only[go_sem];exact⟨rfl,fun j hj=>absurd hj (abl j)⟩
 ·rintro k env Tc hk ⟨h2,h3,h5,b0,b1,hn⟩
  by_cases Ti:k<f.places.length
  ·have Tk:((k:Int)<(f.places.length:Int)):=by omega
   obtain⟨y,hy⟩:=ao Ti;have T1:=ED hy;have w1:=am (n:=k) (by omega);by_cases hb:y=p
   ·subst hb;have hc:decide (y∈f.places)=true:=by simpa using aaf hy
    simp only[go_sem,i58_l1,h2,h3,h5,b0,b1,Tk,T1,hc,mC,CX];first|done|exact au
   ·have hn': ∀ j,j<k+1->f.places[j]? ≠some p:=fun j hj=>by
     rcases aaW.1 hj with h|rfl
     ·exact hn j h
     ·rw[hy];intro h;cases h;exact hb rfl
    cases h1:((y.1:Int)==(p.1:Int)) with
    |false=>
     simp only[go_sem,i58_l1,h2,h3,h5,b0,b1,Ti,Tk,T1,h1,w1,mC,CX];first|exact hn'|exact⟨au,hn'⟩
    |true=>
     have US:((y.2:Int)==(p.2:Int))=false:=by
      have e1:y.1=p.1:=by have:=beq_iff_eq.1 h1;omega
      simp only[beq_eq_false_iff_ne];intro h;exact hb (Prod.ext e1 (by omega))
     simp only[go_sem,i58_l1,h2,h3,h5,b0,b1,Ti,Tk,T1,h1,US,w1,mC,CX];first|exact hn'|exact⟨au,hn'⟩
  ·have:k=f.places.length:=by omega
   subst this;have hc:decide (p∈f.places)=false:=by
    simp only[decide_eq_false_iff_not];intro hm;obtain⟨j,hj⟩:=aaC hm;exact absurd hj (hn j (aag.1 hj).1)
   simp only[go_sem,i58_l1,i58_r2,h2,h5,b0,aN,hc]
abbrev faR(f:Fc):RV:= .agg [.p (.bool f.Tu), .p (.sl (nP f.Tl)), .p (.sl (fv f.places)), .p (.sl (nP f.TF)), .p (.bool f.outer)]
theorem wm(g:bj F ls){e:Nat}(he:e<ls.length)(l:Bool):aH S 59 [kZ F ls,vi e,vb l] (faR (aA F ls (if l then 2*e else 2*e+1))):=by
 have hlen:=g.len;have m2:=bX (a:=e) (by omega);have m3:=am (n:=2*e) (by omega);have hd: ∀ x:Bool,(if x then 2*e else 2*e+1)<2*ls.length:=fun x=>by cases x<;>simp<;>omega
 have WM:(ay F ls).length<=1000000:=by
  have h1:=g.nw;have h2:=dS ae.bq ls;have h3:=dS ae.aJ ls;rw[mz];omega
 have key: ∀ d,d<2*ls.length-> ∀ Q:cZ,(∀ env Tc,env 6= .one (.Tn 3776000064 1 0)->Tc 3776000064=(1,some (.var [.p (.bool (aA F ls d).Tu), .p (.sl (nP (aA F ls d).Tl)), .p (.sl (fv (aA F ls d).places)), .p (.sl (nP (aA F ls d).TF)), .p (.bool (aA F ls d).outer)]))->Q .ret env Tc)-> ∀ env Tc,env 3= .one (.Tn 3776000000 1 0)->env 6= .one (.Tn 3776000064 1 0)->env 7=vi d->env 8=vi 0->Tc 3776000000=(1,some (.var (Ps F ls)))->Tc 3776000064=(1,some (.var [.p (.bool false), .p .nils, .p .nils, .p .nils, .p (.bool false)]))->W S .all (.loop i59_l1) (ey 0 (lu S .all i59_r2 Q)) env Tc:=by
  intro d hd Q hQ env Tc h3 h6 h7 h8 b0 b1;obtain⟨j,hj,hm,_⟩:=fR (F:=F) hd;have hjl:=(aag.1 hj).1;refine be (fun k env Tc=>k<=j/\env 3= .one (.Tn 3776000000 1 0)/\env 6= .one (.Tn 3776000064 1 0)/\env 7=vi d/\env 8=vi k/\Tc 3776000000=(1,some (.var (Ps F ls)))/\Tc 3776000064=(1,some (.var [.p (.bool false), .p .nils, .p .nils, .p .nils, .p (.bool false)]))) 0 (ay F ls).length (aah _) ⟨aah _,h3,h6,h7,h8,b0,b1⟩ ?_;rintro k env Tc hk ⟨hkj,h3,h6,h7,h8,b0,b1⟩
  have Ti:k<(ay F ls).length:=by omega
  have Tk:((k:Int)<((ay F ls).length:Int)):=by omega
  obtain⟨f,hf⟩:=ao Ti;have T1:=wh hf;have w1:=am (n:=k) (by omega);have hdl:f.Tl.length<=1000000:=by
   have h9:f.Tl.length<=2*ls.length+2*(ah ls).length:=ia g.ok (aaf hf);have nJ:(ah ls).length<=ls.length:=cn ls ls.length;omega
  have ph:=rn f.Tl d hdl;by_cases e:k=j
  ·subst e;obtain rfl:f=aA F ls d:=ab2 (hf.symm.trans hj);have hc:decide (d∈(aA F ls d).Tl)=true:=by simpa using hm
   rw[hc] at ph;simp only[go_sem,i59_l1,h3,h6,h7,h8,b0,b1,Tk,T1,Fc.ps,s57,aa ph];exact hQ _ _ (by simp only[go_sem,h6]) (by simp only[go_sem])
  ·have hc:decide (d∈f.Tl)=false:=by
    simp only[decide_eq_false_iff_not];exact fun hh=>absurd (rB hf hj hh hm) e
   rw[hc] at ph;simp only[go_sem,i59_l1,h3,h6,h7,h8,b0,b1,Ti,Tk,T1,Fc.ps,s57,aa ph,w1];omega
 refine aG c59 ?_;cases l with
 |true=>
  simp only[go_sem,i59,m2];refine key (2*e) (by omega) _ (fun env Tc h6 b1=> ?_) _ _ ?_ ?_ ?_ ?_ ?_ ?_;all_goals simp only[go_sem]
  ·simp only[go_sem,h6,b1];rfl
 |false=>
  simp only[go_sem,i59,m2,m3];refine key (2*e+1) (by omega) _ (fun env Tc h6 b1=> ?_) _ _ ?_ ?_ ?_ ?_ ?_ ?_;all_goals simp only[go_sem]
  ·simp only[go_sem,h6,b1];rfl
end
end
end Go.Abs
