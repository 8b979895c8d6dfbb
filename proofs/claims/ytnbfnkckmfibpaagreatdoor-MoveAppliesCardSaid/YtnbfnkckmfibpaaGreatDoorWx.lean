/-
  Two crossings that are made.
-/
import Derived.Test.YtnbfnkckmfibpaaGreatDoorWw
set_option linter.unusedSimpArgs false
set_option linter.unusedVariables false
set_option linter.unusedSectionVars false
set_option maxRecDepth 100000
set_option maxHeartbeats 16000000
namespace Go.Abs
attribute [local go_sem ↓] fm1 fm2
theorem fN{al:Al}{Tc:aB}{id ty:Nat}{es:List (List PV)}{c:C}(o:es=[]\/al.ok id=true)(hl:es.length<=1000000)(UL: ∀ e∈es,e.length=7/\ ∀ v∈e,v.norm=v)(h:grown id ty 7 es (.one c) Tc):
  ∃ v Td,pz S 124 [.one c] al Tc v Td/\pT id ty 7 es c Tc v Td:=by
 refine eY c124 (aaN rfl) ?_;rcases h with ⟨rfl,h2⟩|⟨TA,g,h2,hC⟩
 ·cases h2
  have w0:IntKind.i64.wrap (((0:Nat):Int) - 1)= -1:=by decide
  have hz: ¬ ((0:Int)< -1):=by decide
  simp only[go_sem,i124,w0];refine be (fun k env Td=>k=0/\env 2=vi 0/\env 3=vi (-1)/\Td=Tc) 0 0 (aal _) ?_ ?_
  ·simp only[go_sem]
  ·rintro k env Td _ ⟨rfl,h2,h3,rfl⟩
   simp only[go_sem,i124_l1,h2,h3,hz];exact⟨rfl, .inl ⟨rfl,rfl⟩,fun _ _=>rfl⟩
 ·cases h2
  have o:=o.resolve_left TA;have w0:=fd (a:=es.length) (by omega);simp only[go_sem,i124,w0];refine be (fun k env Td=>env 0= .one (.hsl id g 7 0 es.length)/\env 2=vi k/\env 3=vi ((es.length:Int) - 1 - (k:Int))/\ ∃ fs,Td id=(g,some (.arr ty 7 fs))/\HN es fs k/\Kept (· =id) Tc Td) 0 es.length (aah _) ?_ ?_
  ·simp only[go_sem];refine⟨rfl,by simp,es,hC,HN.start es,Kept.refl _ _⟩
  ·rintro k env Td hk ⟨h0,h2,h3,fs,hF,hI,TL⟩
   by_cases Ti:k<es.length - 1 - k
   ·have e1:((es.length:Int) - 1 - (k:Int))=((es.length - 1 - k:Nat):Int):=by omega
    rw[e1] at h3;have Tk:((k:Int)<((es.length - 1 - k:Nat):Int)):=by omega
    have w1:=am (n:=k) (by omega);have w2:IntKind.i64.wrap (((es.length - 1 - k:Nat):Int) - 1)=((es.length:Int) - 1 - ((k+1:Nat):Int)):=by
     rw[fd (by omega)];omega
    obtain⟨a,ha⟩:=ao (show k<es.length by omega);obtain⟨b,hb⟩:=ao (show es.length - 1 - k<es.length by omega);obtain⟨fa,fb,hI2⟩:=hI.step Ti ha hb;obtain⟨la,na⟩:=UL a (aaf ha);obtain⟨lb,nb⟩:=UL b (aaf hb);obtain⟨x0,x1,x2,x3,x4,x5,x6,rfl⟩:=Sx la;obtain⟨y0,y1,y2,y3,y4,y5,y6,rfl⟩:=Sx lb;have aaV:=na x0 (by simp);have aeb:=na x1 (by simp);have ah8:=na x2 (by simp);have ah7:=na x3 (by simp);have ah6:=na x4 (by simp);have ah5:=na x5 (by simp);have ah4:=na x6 (by simp)
    have aaU:=nb y0 (by simp);have aea:=nb y1 (by simp);have ah3:=nb y2 (by simp);have ah2:=nb y3 (by simp);have ah1:=nb y4 (by simp);have ah0:=nb y5 (by simp);have ahZ:=nb y6 (by simp);have WM:=hI.len;have hkj: ¬ (k=es.length - 1 - k):=by omega
    have aek: ¬ (es.length - 1 - k=k):=by omega
    have l1:k<fs.length:=by omega
    have l2:es.length - 1 - k<fs.length:=by omega
    have l3:k<es.length:=by omega
    have l4:es.length - 1 - k<es.length:=by omega
    simp only[go_sem,i124_l1,h0,h2,h3,hF,Tk,fa,fb,w1,w2,o,l1,l3,l4,hkj,aaV,aeb,ah8,ah7,ah6,ah5,ah4,aaU,aea,ah3,ah2,ah1,ah0,ahZ,aa3];refine⟨au,_,rfl,hI2,?_⟩;exact(TL.fD rfl _).fD rfl _
   ·have Tk: ¬ ((k:Int)<(es.length:Int) - 1 - (k:Int)):=by omega
    simp only[go_sem,i124_l1,h2,h3,Tk];refine⟨rfl,?_,TL⟩;rw[hI.done Ti] at hF;exact .inr ⟨by simpa using TA,g,by rw[abh],hF⟩
theorem hY{Q:cZ}{env:Env}{Tc:aB}{os:List az}{d:Option Nat}{f id ty z:Nat}{es:List (List PV)}{c:C}(adY: ∀ {al:Al} {Tc:aB},es=[]\/al.ok id=true->grown id ty z es (.one c) Tc-> ∃ v Td,pz S f [.one c] al Tc v Td/\pT id ty z es c Tc v Td)(hg:grown id ty z es (.one c) Tc)
  (hK: ∀ Td,grown id ty z es.reverse (.one c) Td->(∀ i,i≠id->Td i=Tc i)->RN S .all os Q (put env d (.tup [])) Td):gP S .all (.sc f [.one c]) d os Q env Tc:=by
 refine fg (P:=pT id ty z es c Tc) da (adY ?_ hg) ?_
 ·rcases kG hg with ⟨h,_⟩|h
  ·exact .inl h
  ·exact .inr (cK (by simp[h]))
 ·rintro v Td ⟨rfl,h1,h2⟩
  exact hK Td h1 h2
abbrev DJ(x k:Nat)(sg:Int)(ov:Bool):Pc:=⟨⟨2,0,0,((x+k:Nat):Int),sg,ov⟩,false⟩
abbrev vv(ls:List ae)(s t:Int)(o:Bool):List Pc:=[DJ (aD ae.aJ ls/2) 1 s o,DJ (aD ae.aJ ls/2) 2 t o]
abbrev ww(ls:List ae)(s t:Int)(o:Bool):List Pc:=[DJ (aD ae.aJ ls/2) 2 t o,DJ (aD ae.aJ ls/2) 1 s o]
abbrev tC(F:Nat)(ls:List ae)(d:Nat):Nat:=(dr F ls).getD d 0
abbrev A8(x:Nat)(sg:Int)(o:Bool):List Pc:=[DJ x 1 sg o,DJ x 2 (-sg) o]
abbrev xx(x:Nat)(sg:Int)(o same:Bool):List Pc:=if same then [DJ x 2 (-sg) (!o),DJ x 1 sg (!o)] else [DJ x 1 sg (!o),DJ x 2 (-sg) (!o)]
def lY(ls:List ae)(av bv:Nat)(l o same other:Bool):Option (List Pc):=
 if !same&& !other then none
 else
  let sg:Int:=if o==(same==l) then 1 else -1
  let first:=A8 (aD ae.aJ ls/2) sg o
  let second:=xx (aD ae.aJ ls/2) sg o same
  some (if av<bv then bz (bz (pieces ls) second bv) first av else bz (bz (pieces ls) first av) second bv)
def QE(F:Nat)(ls:List ae)(av bv:Nat)(l o:Bool):Option (List Pc):=
 if l then lY ls av bv l o ((tC F ls (2*bv):Int)==(tC F ls (2*av):Int)) ((tC F ls (2*bv+1):Int)==(tC F ls (2*av):Int))
 else lY ls av bv l o ((tC F ls (2*bv+1):Int)==(tC F ls (2*av+1):Int)) ((tC F ls (2*bv):Int)==(tC F ls (2*av+1):Int))
theorem Am{F:Nat}{ls:List ae}{d:Nat}(hd:d<2*ls.length):(dr F ls)[d]? =some (tC F ls d):=by
 obtain⟨j,hj⟩:=ao (ls:=dr F ls) (k:=d) (by rw[lH];exact hd);rw[tC,aap,hj];rfl
theorem EG{F:Nat}{ls:List ae}(g:bj F ls){av bv:Nat}(ha:av<ls.length)(hb:bv<ls.length)(WP:av≠bv){k c:Int}{l o:Bool}{sg:Int}:
  aH S 81 [.one (.p (ew F ls)),dL k av bv c l o sg] (kR (QE F ls av bv l o)):=by
 have hlen:=g.len;have UD:=g.cr;have TD:=aF ls;have hll:=lH F ls;have m2a:=bX (a:=av) (by omega);have m2b:=bX (a:=bv) (by omega);have wa0:IntKind.i64.wrap (((2*av:Nat):Int)+0)=((2*av:Nat):Int):=(dd (x:=((2*av:Nat):Int)+0) (by omega) (by omega)).trans (by omega);have wa1:=am (n:=2*av) (by omega);have wb0:IntKind.i64.wrap (((2*bv:Nat):Int)+0)=((2*bv:Nat):Int):=(dd (x:=((2*bv:Nat):Int)+0) (by omega) (by omega)).trans (by omega);have wb1:=am (n:=2*bv) (by omega)
 have wc0:IntKind.i64.wrap (((2*bv+1:Nat):Int) - 0)=((2*bv+1:Nat):Int):=(dd (x:=((2*bv+1:Nat):Int) - 0) (by omega) (by omega)).trans (by omega);have wc1:IntKind.i64.wrap (((2*bv+1:Nat):Int) - 1)=((2*bv:Nat):Int):=(dd (x:=((2*bv+1:Nat):Int) - 1) (by omega) (by omega)).trans (by omega);have la0:2*av<(dr F ls).length:=by omega
 have la1:2*av+1<(dr F ls).length:=by omega
 have lb0:2*bv<(dr F ls).length:=by omega
 have lb1:2*bv+1<(dr F ls).length:=by omega
 have ja0:=cN (Am (F:=F) (ls:=ls) (d:=2*av) (by omega));have ja1:=cN (Am (F:=F) (ls:=ls) (d:=2*av+1) (by omega));have jb0:=cN (Am (F:=F) (ls:=ls) (d:=2*bv) (by omega));have jb1:=cN (Am (F:=F) (ls:=ls) (d:=2*bv+1) (by omega));have T4:S.Tf 124=true:=by kernel_rfl
 have k1:((1:Nat):Int)=1:=rfl;have k2:((2:Nat):Int)=2:=rfl;have pv1:=fun ov=>ou F (aD ae.aJ ls/2) 1 ov (.sl (dz (pieces ls))) (.sl (lZ (ay F ls))) (.sl (nP (dr F ls))) (.int .i64 (aD ae.bq ls:Nat)) (.sl (nP (counts ls F))) 1 (by omega) (by omega)
 have pv2:=fun ov=>ou F (aD ae.aJ ls/2) (-1) ov (.sl (dz (pieces ls))) (.sl (lZ (ay F ls))) (.sl (nP (dr F ls))) (.int .i64 (aD ae.bq ls:Nat)) (.sl (nP (counts ls F))) 2 (by omega) (by omega)
 have pv3:=fun ov=>ou F (aD ae.aJ ls/2) (-1) ov (.sl (dz (pieces ls))) (.sl (lZ (ay F ls))) (.sl (nP (dr F ls))) (.int .i64 (aD ae.bq ls:Nat)) (.sl (nP (counts ls F))) 1 (by omega) (by omega)
 have pv4:=fun ov=>ou F (aD ae.aJ ls/2) 1 ov (.sl (dz (pieces ls))) (.sl (lZ (ay F ls))) (.sl (nP (dr F ls))) (.int .i64 (aD ae.bq ls:Nat)) (.sl (nP (counts ls F))) 2 (by omega) (by omega)
 simp only[k1,k2] at pv1 pv2 pv3 pv4;have X7:IntKind.i64.wrap (0 - 1)= -1:=by decide
 have X6:IntKind.i64.wrap (0 - -1)=1:=by decide
 have T9: ∀ Tc:aB,∀ s,∀ x1 x2 x3 x4 x5 x6 x7:PV,land Tc [] s ((RV.agg [.p x1, .p x2, .p x3, .p x4, .p x5, .p x6, .p x7]).bK (S.lone s))=some (.agg [.p x1, .p x2, .p x3, .p x4, .p x5, .p x6, .p x7],[]):=fun Tc s x1 x2 x3 x4 x5 x6 x7=>by cases S.lone s<;>rfl
 have wz:=And.intro wa0 (And.intro wa1 (And.intro wb0 (And.intro wb1 (And.intro wc0 (And.intro wc1 (And.intro m2a (And.intro m2b (And.intro la0 (And.intro la1 (And.intro lb0 (And.intro lb1 (And.intro ja0 (And.intro ja1 (And.intro jb0 jb1))))))))))))));unfold QE;generalize tC F ls (2*av)=a0 at*;generalize tC F ls (2*av+1)=a1 at*;generalize tC F ls (2*bv)=b0 at*;generalize tC F ls (2*bv+1)=b1 at*;refine aG c81 ?_;cases l with
 |true=>
  rw[if_pos rfl];cases o with
  |true=>
   simp only[go_sem,i81,wz];refine⟨au,au,?_⟩;refine fA [0,3,4,5,6,7,8,9,40] fun e1 TU=> ?_
   simp only[go_sem] at TU;cases hs:((b0:Int)==(a0:Int)) with
   |true=>
    simp only[go_sem,TU,hs];refine⟨au,?_⟩;by_cases V0:av<bv
    ·have Ti:((av:Int)<(bv:Int)):=by omega
     have TM:lY ls av bv true true true ((b1:Int)==(a0:Int))=some (bz (bz (pieces ls) (ww ls 1 (-1) false) bv) (vv ls 1 (-1) true) av):=by simp[lY,A8,xx,V0,vv,ww]
     rw[TM];simp only[go_sem,TU,hs,s122,aY (pv1 _) (T9 _ _ _ _ _ _ _ _ _),aY (pv2 _) (T9 _ _ _ _ _ _ _ _ _),X7,T4];refine⟨au,au,?_⟩;refine hY (f:=124) (es:=dz (vv ls 1 (-1) false)) (id:=5184704832) (ty:=fK) (z:=7) (fun o h=>fN o (by simp) (kI _) h) (.inr ⟨by simp,_,rfl,by simp only[af,Nat.reduceEqDiff,if_true,if_false];rfl⟩) fun blkr gr VY=> ?_
     have U7:=VY 5184000000 (by decide);have U6:=VY 5184640704 (by decide);simp only[go_sem] at U7 U6;rcases gr with ⟨e,_⟩|⟨_,gg,e,Um⟩
     ·simp at e
     cases e
     rw[show(dz (vv ls 1 (-1) false)).reverse=dz (ww ls 1 (-1) false) from rfl] at Um;simp only[Pc.ps,aas,aaG] at Um;simp only[go_sem,TU,U7,Um,Ti,s118];refine dJ (aM (pieces ls) (ww ls 1 (-1) false) bv (by omega) (by omega) (by simp)) (by kernel_rfl:S.lone 5184960448=false) (.inr (ap (cJ _))) fun c1 Tq v1 g1 Tw UI=> ?_
     obtain⟨r1,T0,T8⟩:=g1.bN;have q0:=Tw 5184000000 (by decide);have q1:=Tw 5184640704 (by decide);have q2:=Tw 5184704832 (by decide);simp only[go_sem,U7,U6,Um] at q0 q1 q2;simp only[go_sem,TU,q0,q1,T0,s118];refine dJ (aM (bz (pieces ls) (ww ls 1 (-1) false) bv) (vv ls 1 (-1) true) av (by rw[aO];omega) (by rw[aO];simp;omega) (by simp)) (by kernel_rfl:S.lone 5184960704=false) (.inr (ap (cJ _))) fun c2 Tp v2 g2 Tv Uw=> ?_
     simp only[go_sem];refine⟨?_,aR g2⟩;rcases T8 with rfl|rfl<;>rcases UI with rfl|rfl<;>rcases Uw with rfl|rfl<;>kernel_rfl
    ·have Ti: ¬ ((av:Int)<(bv:Int)):=by omega
     have TM:lY ls av bv true true true ((b1:Int)==(a0:Int))=some (bz (bz (pieces ls) (vv ls 1 (-1) true) av) (ww ls 1 (-1) false) bv):=by simp[lY,A8,xx,V0,vv,ww]
     rw[TM];simp only[go_sem,TU,hs,s122,aY (pv1 _) (T9 _ _ _ _ _ _ _ _ _),aY (pv2 _) (T9 _ _ _ _ _ _ _ _ _),X7,T4];refine⟨au,au,?_⟩;refine hY (f:=124) (es:=dz (vv ls 1 (-1) false)) (id:=5184704832) (ty:=fK) (z:=7) (fun o h=>fN o (by simp) (kI _) h) (.inr ⟨by simp,_,rfl,by simp only[af,Nat.reduceEqDiff,if_true,if_false];rfl⟩) fun blkr gr VY=> ?_
     have U7:=VY 5184000000 (by decide);have U6:=VY 5184640704 (by decide);simp only[go_sem] at U7 U6;rcases gr with ⟨e,_⟩|⟨_,gg,e,Um⟩
     ·simp at e
     cases e
     rw[show(dz (vv ls 1 (-1) false)).reverse=dz (ww ls 1 (-1) false) from rfl] at Um;simp only[Pc.ps,aas,aaG] at Um;simp only[go_sem,TU,U7,U6,Ti,s118];refine dJ (aM (pieces ls) (vv ls 1 (-1) true) av (by omega) (by omega) (by simp)) (by kernel_rfl:S.lone 5185024448=false) (.inr (ap (cJ _))) fun c1 Tq v1 g1 Tw UI=> ?_
     obtain⟨r1,T0,T8⟩:=g1.bN;have q0:=Tw 5184000000 (by decide);have q1:=Tw 5184640704 (by decide);have q2:=Tw 5184704832 (by decide);simp only[go_sem,U7,U6,Um] at q0 q1 q2;simp only[go_sem,TU,q0,q2,T0,s118];refine dJ (aM (bz (pieces ls) (vv ls 1 (-1) true) av) (ww ls 1 (-1) false) bv (by rw[aO];omega) (by rw[aO];simp;omega) (by simp)) (by kernel_rfl:S.lone 5185024704=false) (.inr (ap (cJ _))) fun c2 Tp v2 g2 Tv Uw=> ?_
     simp only[go_sem];refine⟨?_,aR g2⟩;rcases T8 with rfl|rfl<;>rcases UI with rfl|rfl<;>rcases Uw with rfl|rfl<;>kernel_rfl
   |false=>
    cases ho:((b1:Int)==(a0:Int)) with
    |false=>
     have hn:((b1:Int)!=(a0:Int))=true:=by simp only[bne,ho];rfl
     simp only[go_sem,wz,TU,hs,hn];first|rfl|exact au|exact⟨au,rfl⟩|exact⟨au,au,rfl⟩
    |true=>
     have hn:((b1:Int)!=(a0:Int))=false:=by simp only[bne,ho];rfl
     simp only[go_sem,wz,TU,hs,hn];refine⟨au,?_⟩;by_cases V0:av<bv
     ·have Ti:((av:Int)<(bv:Int)):=by omega
      have TM:lY ls av bv true true false true=some (bz (bz (pieces ls) (vv ls (-1) 1 false) bv) (vv ls (-1) 1 true) av):=by simp[lY,A8,xx,V0,vv]
      rw[TM];simp only[go_sem,TU,hs,s122,aY (pv3 _) (T9 _ _ _ _ _ _ _ _ _),aY (pv4 _) (T9 _ _ _ _ _ _ _ _ _),X6,Ti,s118];refine⟨au,au,?_⟩;refine dJ (aM (pieces ls) (vv ls (-1) 1 false) bv (by omega) (by omega) (by simp)) (by kernel_rfl:S.lone 5184960448=false) (.inr (ap (cJ _))) fun c1 Tq v1 g1 Tw UI=> ?_
      obtain⟨r1,T0,T8⟩:=g1.bN;have q0:=Tw 5184000000 (by decide);have q1:=Tw 5184640704 (by decide);have q2:=Tw 5184704832 (by decide);simp only[go_sem] at q0 q1 q2;simp only[go_sem,TU,q0,q1,T0,s118];refine dJ (aM (bz (pieces ls) (vv ls (-1) 1 false) bv) (vv ls (-1) 1 true) av (by rw[aO];omega) (by rw[aO];simp;omega) (by simp)) (by kernel_rfl:S.lone 5184960704=false) (.inr (ap (cJ _))) fun c2 Tp v2 g2 Tv Uw=> ?_
      simp only[go_sem];refine⟨?_,aR g2⟩;rcases T8 with rfl|rfl<;>rcases UI with rfl|rfl<;>rcases Uw with rfl|rfl<;>kernel_rfl
     ·have Ti: ¬ ((av:Int)<(bv:Int)):=by omega
      have TM:lY ls av bv true true false true=some (bz (bz (pieces ls) (vv ls (-1) 1 true) av) (vv ls (-1) 1 false) bv):=by simp[lY,A8,xx,V0,vv]
      rw[TM];simp only[go_sem,TU,hs,s122,aY (pv3 _) (T9 _ _ _ _ _ _ _ _ _),aY (pv4 _) (T9 _ _ _ _ _ _ _ _ _),X6,Ti,s118];refine⟨au,au,?_⟩;refine dJ (aM (pieces ls) (vv ls (-1) 1 true) av (by omega) (by omega) (by simp)) (by kernel_rfl:S.lone 5185024448=false) (.inr (ap (cJ _))) fun c1 Tq v1 g1 Tw UI=> ?_
      obtain⟨r1,T0,T8⟩:=g1.bN;have q0:=Tw 5184000000 (by decide);have q1:=Tw 5184640704 (by decide);have q2:=Tw 5184704832 (by decide);simp only[go_sem] at q0 q1 q2;simp only[go_sem,TU,q0,q2,T0,s118];refine dJ (aM (bz (pieces ls) (vv ls (-1) 1 true) av) (vv ls (-1) 1 false) bv (by rw[aO];omega) (by rw[aO];simp;omega) (by simp)) (by kernel_rfl:S.lone 5185024704=false) (.inr (ap (cJ _))) fun c2 Tp v2 g2 Tv Uw=> ?_
      simp only[go_sem];refine⟨?_,aR g2⟩;rcases T8 with rfl|rfl<;>rcases UI with rfl|rfl<;>rcases Uw with rfl|rfl<;>kernel_rfl
  |false=>
   simp only[go_sem,i81,wz];refine⟨au,au,?_⟩;refine fA [0,3,4,5,6,7,8,9,40] fun e2 TO=> ?_
   simp only[go_sem] at TO;cases hs:((b0:Int)==(a0:Int)) with
   |true=>
    simp only[go_sem,TO,hs];refine⟨au,?_⟩;by_cases V0:av<bv
    ·have Ti:((av:Int)<(bv:Int)):=by omega
     have TM:lY ls av bv true false true ((b1:Int)==(a0:Int))=some (bz (bz (pieces ls) (ww ls (-1) 1 true) bv) (vv ls (-1) 1 false) av):=by simp[lY,A8,xx,V0,vv,ww]
     rw[TM];simp only[go_sem,TO,hs,s122,aY (pv3 _) (T9 _ _ _ _ _ _ _ _ _),aY (pv4 _) (T9 _ _ _ _ _ _ _ _ _),X6,T4];refine⟨au,au,?_⟩;refine hY (f:=124) (es:=dz (vv ls (-1) 1 true)) (id:=5184704832) (ty:=fK) (z:=7) (fun o h=>fN o (by simp) (kI _) h) (.inr ⟨by simp,_,rfl,by simp only[af,Nat.reduceEqDiff,if_true,if_false];rfl⟩) fun blkr gr VY=> ?_
     have U7:=VY 5184000000 (by decide);have U6:=VY 5184640704 (by decide);simp only[go_sem] at U7 U6;rcases gr with ⟨e,_⟩|⟨_,gg,e,Um⟩
     ·simp at e
     cases e
     rw[show(dz (vv ls (-1) 1 true)).reverse=dz (ww ls (-1) 1 true) from rfl] at Um;simp only[Pc.ps,aas,aaG] at Um;simp only[go_sem,TO,U7,Um,Ti,s118];refine dJ (aM (pieces ls) (ww ls (-1) 1 true) bv (by omega) (by omega) (by simp)) (by kernel_rfl:S.lone 5184960448=false) (.inr (ap (cJ _))) fun c1 Tq v1 g1 Tw UI=> ?_
     obtain⟨r1,T0,T8⟩:=g1.bN;have q0:=Tw 5184000000 (by decide);have q1:=Tw 5184640704 (by decide);have q2:=Tw 5184704832 (by decide);simp only[go_sem,U7,U6,Um] at q0 q1 q2;simp only[go_sem,TO,q0,q1,T0,s118];refine dJ (aM (bz (pieces ls) (ww ls (-1) 1 true) bv) (vv ls (-1) 1 false) av (by rw[aO];omega) (by rw[aO];simp;omega) (by simp)) (by kernel_rfl:S.lone 5184960704=false) (.inr (ap (cJ _))) fun c2 Tp v2 g2 Tv Uw=> ?_
     simp only[go_sem];refine⟨?_,aR g2⟩;rcases T8 with rfl|rfl<;>rcases UI with rfl|rfl<;>rcases Uw with rfl|rfl<;>kernel_rfl
    ·have Ti: ¬ ((av:Int)<(bv:Int)):=by omega
     have TM:lY ls av bv true false true ((b1:Int)==(a0:Int))=some (bz (bz (pieces ls) (vv ls (-1) 1 false) av) (ww ls (-1) 1 true) bv):=by simp[lY,A8,xx,V0,vv,ww]
     rw[TM];simp only[go_sem,TO,hs,s122,aY (pv3 _) (T9 _ _ _ _ _ _ _ _ _),aY (pv4 _) (T9 _ _ _ _ _ _ _ _ _),X6,T4];refine⟨au,au,?_⟩;refine hY (f:=124) (es:=dz (vv ls (-1) 1 true)) (id:=5184704832) (ty:=fK) (z:=7) (fun o h=>fN o (by simp) (kI _) h) (.inr ⟨by simp,_,rfl,by simp only[af,Nat.reduceEqDiff,if_true,if_false];rfl⟩) fun blkr gr VY=> ?_
     have U7:=VY 5184000000 (by decide);have U6:=VY 5184640704 (by decide);simp only[go_sem] at U7 U6;rcases gr with ⟨e,_⟩|⟨_,gg,e,Um⟩
     ·simp at e
     cases e
     rw[show(dz (vv ls (-1) 1 true)).reverse=dz (ww ls (-1) 1 true) from rfl] at Um;simp only[Pc.ps,aas,aaG] at Um;simp only[go_sem,TO,U7,U6,Ti,s118];refine dJ (aM (pieces ls) (vv ls (-1) 1 false) av (by omega) (by omega) (by simp)) (by kernel_rfl:S.lone 5185024448=false) (.inr (ap (cJ _))) fun c1 Tq v1 g1 Tw UI=> ?_
     obtain⟨r1,T0,T8⟩:=g1.bN;have q0:=Tw 5184000000 (by decide);have q1:=Tw 5184640704 (by decide);have q2:=Tw 5184704832 (by decide);simp only[go_sem,U7,U6,Um] at q0 q1 q2;simp only[go_sem,TO,q0,q2,T0,s118];refine dJ (aM (bz (pieces ls) (vv ls (-1) 1 false) av) (ww ls (-1) 1 true) bv (by rw[aO];omega) (by rw[aO];simp;omega) (by simp)) (by kernel_rfl:S.lone 5185024704=false) (.inr (ap (cJ _))) fun c2 Tp v2 g2 Tv Uw=> ?_
     simp only[go_sem];refine⟨?_,aR g2⟩;rcases T8 with rfl|rfl<;>rcases UI with rfl|rfl<;>rcases Uw with rfl|rfl<;>kernel_rfl
   |false=>
    cases ho:((b1:Int)==(a0:Int)) with
    |false=>
     have hn:((b1:Int)!=(a0:Int))=true:=by simp only[bne,ho];rfl
     simp only[go_sem,wz,TO,hs,hn];first|rfl|exact au|exact⟨au,rfl⟩|exact⟨au,au,rfl⟩
    |true=>
     have hn:((b1:Int)!=(a0:Int))=false:=by simp only[bne,ho];rfl
     simp only[go_sem,wz,TO,hs,hn];refine⟨au,?_⟩;by_cases V0:av<bv
     ·have Ti:((av:Int)<(bv:Int)):=by omega
      have TM:lY ls av bv true false false true=some (bz (bz (pieces ls) (vv ls 1 (-1) true) bv) (vv ls 1 (-1) false) av):=by simp[lY,A8,xx,V0,vv]
      rw[TM];simp only[go_sem,TO,hs,s122,aY (pv1 _) (T9 _ _ _ _ _ _ _ _ _),aY (pv2 _) (T9 _ _ _ _ _ _ _ _ _),X7,Ti,s118];refine⟨au,au,?_⟩;refine dJ (aM (pieces ls) (vv ls 1 (-1) true) bv (by omega) (by omega) (by simp)) (by kernel_rfl:S.lone 5184960448=false) (.inr (ap (cJ _))) fun c1 Tq v1 g1 Tw UI=> ?_
      obtain⟨r1,T0,T8⟩:=g1.bN;have q0:=Tw 5184000000 (by decide);have q1:=Tw 5184640704 (by decide);have q2:=Tw 5184704832 (by decide);simp only[go_sem] at q0 q1 q2;simp only[go_sem,TO,q0,q1,T0,s118];refine dJ (aM (bz (pieces ls) (vv ls 1 (-1) true) bv) (vv ls 1 (-1) false) av (by rw[aO];omega) (by rw[aO];simp;omega) (by simp)) (by kernel_rfl:S.lone 5184960704=false) (.inr (ap (cJ _))) fun c2 Tp v2 g2 Tv Uw=> ?_
      simp only[go_sem];refine⟨?_,aR g2⟩;rcases T8 with rfl|rfl<;>rcases UI with rfl|rfl<;>rcases Uw with rfl|rfl<;>kernel_rfl
     ·have Ti: ¬ ((av:Int)<(bv:Int)):=by omega
      have TM:lY ls av bv true false false true=some (bz (bz (pieces ls) (vv ls 1 (-1) false) av) (vv ls 1 (-1) true) bv):=by simp[lY,A8,xx,V0,vv]
      rw[TM];simp only[go_sem,TO,hs,s122,aY (pv1 _) (T9 _ _ _ _ _ _ _ _ _),aY (pv2 _) (T9 _ _ _ _ _ _ _ _ _),X7,Ti,s118];refine⟨au,au,?_⟩;refine dJ (aM (pieces ls) (vv ls 1 (-1) false) av (by omega) (by omega) (by simp)) (by kernel_rfl:S.lone 5185024448=false) (.inr (ap (cJ _))) fun c1 Tq v1 g1 Tw UI=> ?_
      obtain⟨r1,T0,T8⟩:=g1.bN;have q0:=Tw 5184000000 (by decide);have q1:=Tw 5184640704 (by decide);have q2:=Tw 5184704832 (by decide);simp only[go_sem] at q0 q1 q2;simp only[go_sem,TO,q0,q2,T0,s118];refine dJ (aM (bz (pieces ls) (vv ls 1 (-1) false) av) (vv ls 1 (-1) true) bv (by rw[aO];omega) (by rw[aO];simp;omega) (by simp)) (by kernel_rfl:S.lone 5185024704=false) (.inr (ap (cJ _))) fun c2 Tp v2 g2 Tv Uw=> ?_
      simp only[go_sem];refine⟨?_,aR g2⟩;rcases T8 with rfl|rfl<;>rcases UI with rfl|rfl<;>rcases Uw with rfl|rfl<;>kernel_rfl
 |false=>
  rw[if_neg (by decide)];cases o with
  |true=>
   simp only[go_sem,i81,wz];refine⟨au,au,?_⟩;refine fA [0,3,4,5,6,7,8,9,40] fun e3 TN=> ?_
   simp only[go_sem] at TN;cases hs:((b1:Int)==(a1:Int)) with
   |true=>
    simp only[go_sem,TN,hs];refine⟨au,?_⟩;by_cases V0:av<bv
    ·have Ti:((av:Int)<(bv:Int)):=by omega
     have TM:lY ls av bv false true true ((b0:Int)==(a1:Int))=some (bz (bz (pieces ls) (ww ls (-1) 1 false) bv) (vv ls (-1) 1 true) av):=by simp[lY,A8,xx,V0,vv,ww]
     rw[TM];simp only[go_sem,TN,hs,s122,aY (pv3 _) (T9 _ _ _ _ _ _ _ _ _),aY (pv4 _) (T9 _ _ _ _ _ _ _ _ _),X6,T4];refine⟨au,au,?_⟩;refine hY (f:=124) (es:=dz (vv ls (-1) 1 false)) (id:=5184704832) (ty:=fK) (z:=7) (fun o h=>fN o (by simp) (kI _) h) (.inr ⟨by simp,_,rfl,by simp only[af,Nat.reduceEqDiff,if_true,if_false];rfl⟩) fun blkr gr VY=> ?_
     have U7:=VY 5184000000 (by decide);have U6:=VY 5184640704 (by decide);simp only[go_sem] at U7 U6;rcases gr with ⟨e,_⟩|⟨_,gg,e,Um⟩
     ·simp at e
     cases e
     rw[show(dz (vv ls (-1) 1 false)).reverse=dz (ww ls (-1) 1 false) from rfl] at Um;simp only[Pc.ps,aas,aaG] at Um;simp only[go_sem,TN,U7,Um,Ti,s118];refine dJ (aM (pieces ls) (ww ls (-1) 1 false) bv (by omega) (by omega) (by simp)) (by kernel_rfl:S.lone 5184960448=false) (.inr (ap (cJ _))) fun c1 Tq v1 g1 Tw UI=> ?_
     obtain⟨r1,T0,T8⟩:=g1.bN;have q0:=Tw 5184000000 (by decide);have q1:=Tw 5184640704 (by decide);have q2:=Tw 5184704832 (by decide);simp only[go_sem,U7,U6,Um] at q0 q1 q2;simp only[go_sem,TN,q0,q1,T0,s118];refine dJ (aM (bz (pieces ls) (ww ls (-1) 1 false) bv) (vv ls (-1) 1 true) av (by rw[aO];omega) (by rw[aO];simp;omega) (by simp)) (by kernel_rfl:S.lone 5184960704=false) (.inr (ap (cJ _))) fun c2 Tp v2 g2 Tv Uw=> ?_
     simp only[go_sem];refine⟨?_,aR g2⟩;rcases T8 with rfl|rfl<;>rcases UI with rfl|rfl<;>rcases Uw with rfl|rfl<;>kernel_rfl
    ·have Ti: ¬ ((av:Int)<(bv:Int)):=by omega
     have TM:lY ls av bv false true true ((b0:Int)==(a1:Int))=some (bz (bz (pieces ls) (vv ls (-1) 1 true) av) (ww ls (-1) 1 false) bv):=by simp[lY,A8,xx,V0,vv,ww]
     rw[TM];simp only[go_sem,TN,hs,s122,aY (pv3 _) (T9 _ _ _ _ _ _ _ _ _),aY (pv4 _) (T9 _ _ _ _ _ _ _ _ _),X6,T4];refine⟨au,au,?_⟩;refine hY (f:=124) (es:=dz (vv ls (-1) 1 false)) (id:=5184704832) (ty:=fK) (z:=7) (fun o h=>fN o (by simp) (kI _) h) (.inr ⟨by simp,_,rfl,by simp only[af,Nat.reduceEqDiff,if_true,if_false];rfl⟩) fun blkr gr VY=> ?_
     have U7:=VY 5184000000 (by decide);have U6:=VY 5184640704 (by decide);simp only[go_sem] at U7 U6;rcases gr with ⟨e,_⟩|⟨_,gg,e,Um⟩
     ·simp at e
     cases e
     rw[show(dz (vv ls (-1) 1 false)).reverse=dz (ww ls (-1) 1 false) from rfl] at Um;simp only[Pc.ps,aas,aaG] at Um;simp only[go_sem,TN,U7,U6,Ti,s118];refine dJ (aM (pieces ls) (vv ls (-1) 1 true) av (by omega) (by omega) (by simp)) (by kernel_rfl:S.lone 5185024448=false) (.inr (ap (cJ _))) fun c1 Tq v1 g1 Tw UI=> ?_
     obtain⟨r1,T0,T8⟩:=g1.bN;have q0:=Tw 5184000000 (by decide);have q1:=Tw 5184640704 (by decide);have q2:=Tw 5184704832 (by decide);simp only[go_sem,U7,U6,Um] at q0 q1 q2;simp only[go_sem,TN,q0,q2,T0,s118];refine dJ (aM (bz (pieces ls) (vv ls (-1) 1 true) av) (ww ls (-1) 1 false) bv (by rw[aO];omega) (by rw[aO];simp;omega) (by simp)) (by kernel_rfl:S.lone 5185024704=false) (.inr (ap (cJ _))) fun c2 Tp v2 g2 Tv Uw=> ?_
     simp only[go_sem];refine⟨?_,aR g2⟩;rcases T8 with rfl|rfl<;>rcases UI with rfl|rfl<;>rcases Uw with rfl|rfl<;>kernel_rfl
   |false=>
    cases ho:((b0:Int)==(a1:Int)) with
    |false=>
     have hn:((b0:Int)!=(a1:Int))=true:=by simp only[bne,ho];rfl
     simp only[go_sem,wz,TN,hs,hn];first|rfl|exact au|exact⟨au,rfl⟩|exact⟨au,au,rfl⟩
    |true=>
     have hn:((b0:Int)!=(a1:Int))=false:=by simp only[bne,ho];rfl
     simp only[go_sem,wz,TN,hs,hn];refine⟨au,?_⟩;by_cases V0:av<bv
     ·have Ti:((av:Int)<(bv:Int)):=by omega
      have TM:lY ls av bv false true false true=some (bz (bz (pieces ls) (vv ls 1 (-1) false) bv) (vv ls 1 (-1) true) av):=by simp[lY,A8,xx,V0,vv]
      rw[TM];simp only[go_sem,TN,hs,s122,aY (pv1 _) (T9 _ _ _ _ _ _ _ _ _),aY (pv2 _) (T9 _ _ _ _ _ _ _ _ _),X7,Ti,s118];refine⟨au,au,?_⟩;refine dJ (aM (pieces ls) (vv ls 1 (-1) false) bv (by omega) (by omega) (by simp)) (by kernel_rfl:S.lone 5184960448=false) (.inr (ap (cJ _))) fun c1 Tq v1 g1 Tw UI=> ?_
      obtain⟨r1,T0,T8⟩:=g1.bN;have q0:=Tw 5184000000 (by decide);have q1:=Tw 5184640704 (by decide);have q2:=Tw 5184704832 (by decide);simp only[go_sem] at q0 q1 q2;simp only[go_sem,TN,q0,q1,T0,s118];refine dJ (aM (bz (pieces ls) (vv ls 1 (-1) false) bv) (vv ls 1 (-1) true) av (by rw[aO];omega) (by rw[aO];simp;omega) (by simp)) (by kernel_rfl:S.lone 5184960704=false) (.inr (ap (cJ _))) fun c2 Tp v2 g2 Tv Uw=> ?_
      simp only[go_sem];refine⟨?_,aR g2⟩;rcases T8 with rfl|rfl<;>rcases UI with rfl|rfl<;>rcases Uw with rfl|rfl<;>kernel_rfl
     ·have Ti: ¬ ((av:Int)<(bv:Int)):=by omega
      have TM:lY ls av bv false true false true=some (bz (bz (pieces ls) (vv ls 1 (-1) true) av) (vv ls 1 (-1) false) bv):=by simp[lY,A8,xx,V0,vv]
      rw[TM];simp only[go_sem,TN,hs,s122,aY (pv1 _) (T9 _ _ _ _ _ _ _ _ _),aY (pv2 _) (T9 _ _ _ _ _ _ _ _ _),X7,Ti,s118];refine⟨au,au,?_⟩;refine dJ (aM (pieces ls) (vv ls 1 (-1) true) av (by omega) (by omega) (by simp)) (by kernel_rfl:S.lone 5185024448=false) (.inr (ap (cJ _))) fun c1 Tq v1 g1 Tw UI=> ?_
      obtain⟨r1,T0,T8⟩:=g1.bN;have q0:=Tw 5184000000 (by decide);have q1:=Tw 5184640704 (by decide);have q2:=Tw 5184704832 (by decide);simp only[go_sem] at q0 q1 q2;simp only[go_sem,TN,q0,q2,T0,s118];refine dJ (aM (bz (pieces ls) (vv ls 1 (-1) true) av) (vv ls 1 (-1) false) bv (by rw[aO];omega) (by rw[aO];simp;omega) (by simp)) (by kernel_rfl:S.lone 5185024704=false) (.inr (ap (cJ _))) fun c2 Tp v2 g2 Tv Uw=> ?_
      simp only[go_sem];refine⟨?_,aR g2⟩;rcases T8 with rfl|rfl<;>rcases UI with rfl|rfl<;>rcases Uw with rfl|rfl<;>kernel_rfl
  |false=>
   simp only[go_sem,i81,wz];refine⟨au,au,?_⟩;refine fA [0,3,4,5,6,7,8,9,40] fun e4 TZ=> ?_
   simp only[go_sem] at TZ;cases hs:((b1:Int)==(a1:Int)) with
   |true=>
    simp only[go_sem,TZ,hs];refine⟨au,?_⟩;by_cases V0:av<bv
    ·have Ti:((av:Int)<(bv:Int)):=by omega
     have TM:lY ls av bv false false true ((b0:Int)==(a1:Int))=some (bz (bz (pieces ls) (ww ls 1 (-1) true) bv) (vv ls 1 (-1) false) av):=by simp[lY,A8,xx,V0,vv,ww]
     rw[TM];simp only[go_sem,TZ,hs,s122,aY (pv1 _) (T9 _ _ _ _ _ _ _ _ _),aY (pv2 _) (T9 _ _ _ _ _ _ _ _ _),X7,T4];refine⟨au,au,?_⟩;refine hY (f:=124) (es:=dz (vv ls 1 (-1) true)) (id:=5184704832) (ty:=fK) (z:=7) (fun o h=>fN o (by simp) (kI _) h) (.inr ⟨by simp,_,rfl,by simp only[af,Nat.reduceEqDiff,if_true,if_false];rfl⟩) fun blkr gr VY=> ?_
     have U7:=VY 5184000000 (by decide);have U6:=VY 5184640704 (by decide);simp only[go_sem] at U7 U6;rcases gr with ⟨e,_⟩|⟨_,gg,e,Um⟩
     ·simp at e
     cases e
     rw[show(dz (vv ls 1 (-1) true)).reverse=dz (ww ls 1 (-1) true) from rfl] at Um;simp only[Pc.ps,aas,aaG] at Um;simp only[go_sem,TZ,U7,Um,Ti,s118];refine dJ (aM (pieces ls) (ww ls 1 (-1) true) bv (by omega) (by omega) (by simp)) (by kernel_rfl:S.lone 5184960448=false) (.inr (ap (cJ _))) fun c1 Tq v1 g1 Tw UI=> ?_
     obtain⟨r1,T0,T8⟩:=g1.bN;have q0:=Tw 5184000000 (by decide);have q1:=Tw 5184640704 (by decide);have q2:=Tw 5184704832 (by decide);simp only[go_sem,U7,U6,Um] at q0 q1 q2;simp only[go_sem,TZ,q0,q1,T0,s118];refine dJ (aM (bz (pieces ls) (ww ls 1 (-1) true) bv) (vv ls 1 (-1) false) av (by rw[aO];omega) (by rw[aO];simp;omega) (by simp)) (by kernel_rfl:S.lone 5184960704=false) (.inr (ap (cJ _))) fun c2 Tp v2 g2 Tv Uw=> ?_
     simp only[go_sem];refine⟨?_,aR g2⟩;rcases T8 with rfl|rfl<;>rcases UI with rfl|rfl<;>rcases Uw with rfl|rfl<;>kernel_rfl
    ·have Ti: ¬ ((av:Int)<(bv:Int)):=by omega
     have TM:lY ls av bv false false true ((b0:Int)==(a1:Int))=some (bz (bz (pieces ls) (vv ls 1 (-1) false) av) (ww ls 1 (-1) true) bv):=by simp[lY,A8,xx,V0,vv,ww]
     rw[TM];simp only[go_sem,TZ,hs,s122,aY (pv1 _) (T9 _ _ _ _ _ _ _ _ _),aY (pv2 _) (T9 _ _ _ _ _ _ _ _ _),X7,T4];refine⟨au,au,?_⟩;refine hY (f:=124) (es:=dz (vv ls 1 (-1) true)) (id:=5184704832) (ty:=fK) (z:=7) (fun o h=>fN o (by simp) (kI _) h) (.inr ⟨by simp,_,rfl,by simp only[af,Nat.reduceEqDiff,if_true,if_false];rfl⟩) fun blkr gr VY=> ?_
     have U7:=VY 5184000000 (by decide);have U6:=VY 5184640704 (by decide);simp only[go_sem] at U7 U6;rcases gr with ⟨e,_⟩|⟨_,gg,e,Um⟩
     ·simp at e
     cases e
     rw[show(dz (vv ls 1 (-1) true)).reverse=dz (ww ls 1 (-1) true) from rfl] at Um;simp only[Pc.ps,aas,aaG] at Um;simp only[go_sem,TZ,U7,U6,Ti,s118];refine dJ (aM (pieces ls) (vv ls 1 (-1) false) av (by omega) (by omega) (by simp)) (by kernel_rfl:S.lone 5185024448=false) (.inr (ap (cJ _))) fun c1 Tq v1 g1 Tw UI=> ?_
     obtain⟨r1,T0,T8⟩:=g1.bN;have q0:=Tw 5184000000 (by decide);have q1:=Tw 5184640704 (by decide);have q2:=Tw 5184704832 (by decide);simp only[go_sem,U7,U6,Um] at q0 q1 q2;simp only[go_sem,TZ,q0,q2,T0,s118];refine dJ (aM (bz (pieces ls) (vv ls 1 (-1) false) av) (ww ls 1 (-1) true) bv (by rw[aO];omega) (by rw[aO];simp;omega) (by simp)) (by kernel_rfl:S.lone 5185024704=false) (.inr (ap (cJ _))) fun c2 Tp v2 g2 Tv Uw=> ?_
     simp only[go_sem];refine⟨?_,aR g2⟩;rcases T8 with rfl|rfl<;>rcases UI with rfl|rfl<;>rcases Uw with rfl|rfl<;>kernel_rfl
   |false=>
    cases ho:((b0:Int)==(a1:Int)) with
    |false=>
     have hn:((b0:Int)!=(a1:Int))=true:=by simp only[bne,ho];rfl
     simp only[go_sem,wz,TZ,hs,hn];first|rfl|exact au|exact⟨au,rfl⟩|exact⟨au,au,rfl⟩
    |true=>
     have hn:((b0:Int)!=(a1:Int))=false:=by simp only[bne,ho];rfl
     simp only[go_sem,wz,TZ,hs,hn];refine⟨au,?_⟩;by_cases V0:av<bv
     ·have Ti:((av:Int)<(bv:Int)):=by omega
      have TM:lY ls av bv false false false true=some (bz (bz (pieces ls) (vv ls (-1) 1 true) bv) (vv ls (-1) 1 false) av):=by simp[lY,A8,xx,V0,vv]
      rw[TM];simp only[go_sem,TZ,hs,s122,aY (pv3 _) (T9 _ _ _ _ _ _ _ _ _),aY (pv4 _) (T9 _ _ _ _ _ _ _ _ _),X6,Ti,s118];refine⟨au,au,?_⟩;refine dJ (aM (pieces ls) (vv ls (-1) 1 true) bv (by omega) (by omega) (by simp)) (by kernel_rfl:S.lone 5184960448=false) (.inr (ap (cJ _))) fun c1 Tq v1 g1 Tw UI=> ?_
      obtain⟨r1,T0,T8⟩:=g1.bN;have q0:=Tw 5184000000 (by decide);have q1:=Tw 5184640704 (by decide);have q2:=Tw 5184704832 (by decide);simp only[go_sem] at q0 q1 q2;simp only[go_sem,TZ,q0,q1,T0,s118];refine dJ (aM (bz (pieces ls) (vv ls (-1) 1 true) bv) (vv ls (-1) 1 false) av (by rw[aO];omega) (by rw[aO];simp;omega) (by simp)) (by kernel_rfl:S.lone 5184960704=false) (.inr (ap (cJ _))) fun c2 Tp v2 g2 Tv Uw=> ?_
      simp only[go_sem];refine⟨?_,aR g2⟩;rcases T8 with rfl|rfl<;>rcases UI with rfl|rfl<;>rcases Uw with rfl|rfl<;>kernel_rfl
     ·have Ti: ¬ ((av:Int)<(bv:Int)):=by omega
      have TM:lY ls av bv false false false true=some (bz (bz (pieces ls) (vv ls (-1) 1 false) av) (vv ls (-1) 1 true) bv):=by simp[lY,A8,xx,V0,vv]
      rw[TM];simp only[go_sem,TZ,hs,s122,aY (pv3 _) (T9 _ _ _ _ _ _ _ _ _),aY (pv4 _) (T9 _ _ _ _ _ _ _ _ _),X6,Ti,s118];refine⟨au,au,?_⟩;refine dJ (aM (pieces ls) (vv ls (-1) 1 false) av (by omega) (by omega) (by simp)) (by kernel_rfl:S.lone 5185024448=false) (.inr (ap (cJ _))) fun c1 Tq v1 g1 Tw UI=> ?_
      obtain⟨r1,T0,T8⟩:=g1.bN;have q0:=Tw 5184000000 (by decide);have q1:=Tw 5184640704 (by decide);have q2:=Tw 5184704832 (by decide);simp only[go_sem] at q0 q1 q2;simp only[go_sem,TZ,q0,q2,T0,s118];refine dJ (aM (bz (pieces ls) (vv ls (-1) 1 false) av) (vv ls (-1) 1 true) bv (by rw[aO];omega) (by rw[aO];simp;omega) (by simp)) (by kernel_rfl:S.lone 5185024704=false) (.inr (ap (cJ _))) fun c2 Tp v2 g2 Tv Uw=> ?_
      simp only[go_sem];refine⟨?_,aR g2⟩;rcases T8 with rfl|rfl<;>rcases UI with rfl|rfl<;>rcases Uw with rfl|rfl<;>kernel_rfl
end Go.Abs
