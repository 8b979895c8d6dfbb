/-
  Which letters and codes are right for the document.
-/
import Derived.Test.YtnbfnkckmfibpaaGreatDoorWc
set_option linter.unusedSimpArgs false
set_option linter.unusedVariables false
set_option linter.unusedSectionVars false
set_option maxRecDepth 100000
set_option maxHeartbeats 16000000
namespace Go.Abs
section
variable{F:Nat}{ls:List ae}
theorem Ik{f:Int}{l:ae}{g i:Nat}{env:Env}{Tc:aB}{Q:cZ}(hl:ls.length<=1000000)(h1:env 1= .one (.Tn 2240000000 1 0))(hB:Tc 2240000000=(1,some (.var (ie f ls))))(h3:env 3=vi i)(h4:env 4= .one (.Tn 2240256320 g 0))(hL:Tc 2240256320=(g,some (.var (KT l))))
  (h5:env 5=vi (aD (dC l) ls)) (h6:env 6=vi (aD (cY l) ls))
  (hq:iS f ls l=true-> ∀ Tg,Tg 1=env 1->Tg 3=env 3->Q .normal Tg Tc) (hr:iS f ls l=false-> ∀ Tg,Tg 2= .one (.p (.bool false))->Q .ret Tg Tc):
  W S .all i35_r2 Q env Tc:=by
 have pin:=Od f ls hl l.gate;have pvi:=uK f ls hl;have pti:=MX f ls hl l.id;have hcv:=dS ae.aJ ls;have wv:=wrap_small (n:=aD ae.aJ ls/2) (by omega);cases k1:(l.kind==1) with
 |true=>
  cases a1:(l.id !=0) with
  |true=>
   have Tj:iS f ls l=false:=by simp only[iS,k1,Gl,a1];rfl
   simp only[go_sem,i35_r2,h4,hL,k1,a1];refine⟨by kernel_rfl,hr Tj _ ?_⟩;simp only[go_sem]
  |false=>
   cases a2:(l.sign !=0) with
   |true=>
    have Tj:iS f ls l=false:=by simp only[iS,k1,Gl,a1,a2];rfl
    simp only[go_sem,i35_r2,h4,hL,k1,a1,a2];refine⟨by kernel_rfl,hr Tj _ ?_⟩;simp only[go_sem]
   |false=>
    cases a3:(l.over) with
    |true=>
     have Tj:iS f ls l=false:=by simp only[iS,k1,Gl,a1,a2,a3];rfl
     simp only[go_sem,i35_r2,h4,hL,k1,a1,a2,a3];refine⟨by kernel_rfl,hr Tj _ ?_⟩;simp only[go_sem]
    |false=>
     cases a4:(decide (l.gate<0)) with
     |true=>
      have a4':(l.gate<0):=of_decide_eq_true a4;have Tj:iS f ls l=false:=by simp only[iS,k1,Gl,a1,a2,a3,a4];rfl
      simp only[go_sem,i35_r2,h4,hL,k1,a1,a2,a3,a4'];refine⟨by kernel_rfl,hr Tj _ ?_⟩;simp only[go_sem]
     |false=>
      cases a5:(decide (f<l.gate)) with
      |true=>
       have a4': ¬ (l.gate<0):=of_decide_eq_false a4;have Vf:(f<l.gate):=of_decide_eq_true a5;have Tj:iS f ls l=false:=by simp only[iS,k1,Gl,a1,a2,a3,a4,a5];rfl
       simp only[go_sem,i35_r2,h1,hB,h4,hL,k1,a1,a2,a3,a4',Vf];refine⟨by kernel_rfl,hr Tj _ ?_⟩;simp only[go_sem]
      |false=>
       cases a6:(decide (l.Th<1)) with
       |true=>
        have a4': ¬ (l.gate<0):=of_decide_eq_false a4;have Vf: ¬ (f<l.gate):=of_decide_eq_false a5;have Wf:(l.Th<1):=of_decide_eq_true a6;have Tj:iS f ls l=false:=by simp only[iS,k1,Gl,a1,a2,a3,a4,a5,a6];rfl
        simp only[go_sem,i35_r2,h1,hB,h4,hL,k1,a1,a2,a3,a4',Vf,Wf];refine⟨by kernel_rfl,hr Tj _ ?_⟩;simp only[go_sem]
       |false=>
        cases a7:(decide ((aD (o0 l.gate) ls:Int)<l.Th)) with
        |true=>
         have a4': ¬ (l.gate<0):=of_decide_eq_false a4;have Vf: ¬ (f<l.gate):=of_decide_eq_false a5;have Wf: ¬ (l.Th<1):=of_decide_eq_false a6;have a7':((aD (o0 l.gate) ls:Int)<l.Th):=of_decide_eq_true a7;have Tj:iS f ls l=false:=by simp only[iS,k1,Gl,a1,a2,a3,a4,a5,a6,a7];rfl
         simp only[go_sem,i35_r2,h1,hB,h4,hL,s31,bg pin,k1,a1,a2,a3,a4',Vf,Wf,a7'];refine⟨by kernel_rfl,hr Tj _ ?_⟩;simp only[go_sem]
        |false=>
         cases a8:(((aD (dC l) ls:Nat):Int)!=1) with
         |true=>
          have a4': ¬ (l.gate<0):=of_decide_eq_false a4;have Vf: ¬ (f<l.gate):=of_decide_eq_false a5;have Wf: ¬ (l.Th<1):=of_decide_eq_false a6;have a7': ¬ ((aD (o0 l.gate) ls:Int)<l.Th):=of_decide_eq_false a7;have Tj:iS f ls l=false:=by simp only[iS,k1,Gl,a1,a2,a3,a4,a5,a6,a7,a8];rfl
          simp only[go_sem,i35_r2,h1,hB,h4,hL,h5,s31,bg pin,k1,a1,a2,a3,a4',Vf,Wf,a7',a8];refine⟨by kernel_rfl,hr Tj _ ?_⟩;simp only[go_sem]
         |false=>
          have a4': ¬ (l.gate<0):=of_decide_eq_false a4;have Vf: ¬ (f<l.gate):=of_decide_eq_false a5;have Wf: ¬ (l.Th<1):=of_decide_eq_false a6;have a7': ¬ ((aD (o0 l.gate) ls:Int)<l.Th):=of_decide_eq_false a7;have Tj:iS f ls l=true:=by simp only[iS,k1,Gl,a1,a2,a3,a4,a5,a6,a7,a8];rfl
          simp only[go_sem,i35_r2,h1,hB,h4,hL,h5,s31,bg pin,k1,a1,a2,a3,a4',Vf,Wf,a7',a8];refine⟨by kernel_rfl,hq Tj _ ?_ ?_⟩;all_goals simp only[go_sem]
 |false=>
  cases k2:(l.kind==2) with
  |true=>
   cases a1:(l.gate !=0) with
   |true=>
    have Tj:iS f ls l=false:=by simp only[iS,k1,k2,A9,a1];rfl
    simp only[go_sem,i35_r2,h4,hL,k1,k2,a1];refine⟨by kernel_rfl,hr Tj _ ?_⟩;simp only[go_sem]
   |false=>
    cases a2:(l.Th !=0) with
    |true=>
     have Tj:iS f ls l=false:=by simp only[iS,k1,k2,A9,a1,a2];rfl
     simp only[go_sem,i35_r2,h4,hL,k1,k2,a1,a2];refine⟨by kernel_rfl,hr Tj _ ?_⟩;simp only[go_sem]
    |false=>
     cases a3:(l.sign !=1) with
     |true=>
      cases a4:(l.sign != -1) with
      |true=>
       have Tj:iS f ls l=false:=by simp only[iS,k1,k2,A9,a1,a2,a3,a4];rfl
       simp only[go_sem,i35_r2,h4,hL,k1,k2,a1,a2,a3,a4];refine⟨by kernel_rfl,hr Tj _ ?_⟩;simp only[go_sem]
      |false=>
       cases a5:(decide (l.id<1)) with
       |true=>
        have Vf:(l.id<1):=of_decide_eq_true a5;have Tj:iS f ls l=false:=by simp only[iS,k1,k2,A9,a1,a2,a3,a4,a5];rfl
        simp only[go_sem,i35_r2,h4,hL,k1,k2,a1,a2,a3,a4,Vf];refine⟨by kernel_rfl,hr Tj _ ?_⟩;simp only[go_sem]
       |false=>
        cases a6:(decide (((aD ae.aJ ls/2:Nat):Int)<l.id)) with
        |true=>
         have Vf: ¬ (l.id<1):=of_decide_eq_false a5;have Wf:(((aD ae.aJ ls/2:Nat):Int)<l.id):=of_decide_eq_true a6;have Tj:iS f ls l=false:=by simp only[iS,k1,k2,A9,a1,a2,a3,a4,a5,a6];rfl
         simp only[go_sem,i35_r2,h1,hB,h4,hL,s33,bg pvi,ch,aT,wv,k1,k2,a1,a2,a3,a4,Vf,Wf];refine⟨by kernel_rfl,hr Tj _ ?_⟩;simp only[go_sem]
        |false=>
         cases a7:(((aD (cY l) ls:Nat):Int)!=1) with
         |true=>
          have Vf: ¬ (l.id<1):=of_decide_eq_false a5;have Wf: ¬ (((aD ae.aJ ls/2:Nat):Int)<l.id):=of_decide_eq_false a6;have Tj:iS f ls l=false:=by simp only[iS,k1,k2,A9,a1,a2,a3,a4,a5,a6,a7];rfl
          simp only[go_sem,i35_r2,h1,hB,h4,hL,h6,s33,bg pvi,ch,aT,wv,k1,k2,a1,a2,a3,a4,Vf,Wf,a7];refine⟨by kernel_rfl,hr Tj _ ?_⟩;simp only[go_sem]
         |false=>
          cases a8:(((aD (jD l.id) ls:Nat):Int)!=2) with
          |true=>
           have Vf: ¬ (l.id<1):=of_decide_eq_false a5;have Wf: ¬ (((aD ae.aJ ls/2:Nat):Int)<l.id):=of_decide_eq_false a6;have Tj:iS f ls l=false:=by simp only[iS,k1,k2,A9,a1,a2,a3,a4,a5,a6,a7,a8];rfl
           simp only[go_sem,i35_r2,h1,hB,h4,hL,h6,s33,s62,bg pvi,bg pti,ch,aT,wv,k1,k2,a1,a2,a3,a4,Vf,Wf,a7,a8];refine⟨by kernel_rfl,hr Tj _ ?_⟩;simp only[go_sem]
          |false=>
           have Vf: ¬ (l.id<1):=of_decide_eq_false a5;have Wf: ¬ (((aD ae.aJ ls/2:Nat):Int)<l.id):=of_decide_eq_false a6;have Tj:iS f ls l=true:=by simp only[iS,k1,k2,A9,a1,a2,a3,a4,a5,a6,a7,a8];rfl
           simp only[go_sem,i35_r2,h1,hB,h4,hL,h6,s33,s62,bg pvi,bg pti,ch,aT,wv,k1,k2,a1,a2,a3,a4,Vf,Wf,a7,a8];refine⟨by kernel_rfl,hq Tj _ ?_ ?_⟩;all_goals simp only[go_sem]
     |false=>
      cases a5:(decide (l.id<1)) with
      |true=>
       have Vf:(l.id<1):=of_decide_eq_true a5;have Tj:iS f ls l=false:=by simp only[iS,k1,k2,A9,a1,a2,a3,a5];rfl
       simp only[go_sem,i35_r2,h4,hL,k1,k2,a1,a2,a3,Vf];refine⟨by kernel_rfl,hr Tj _ ?_⟩;simp only[go_sem]
      |false=>
       cases a6:(decide (((aD ae.aJ ls/2:Nat):Int)<l.id)) with
       |true=>
        have Vf: ¬ (l.id<1):=of_decide_eq_false a5;have Wf:(((aD ae.aJ ls/2:Nat):Int)<l.id):=of_decide_eq_true a6;have Tj:iS f ls l=false:=by simp only[iS,k1,k2,A9,a1,a2,a3,a5,a6];rfl
        simp only[go_sem,i35_r2,h1,hB,h4,hL,s33,bg pvi,ch,aT,wv,k1,k2,a1,a2,a3,Vf,Wf];refine⟨by kernel_rfl,hr Tj _ ?_⟩;simp only[go_sem]
       |false=>
        cases a7:(((aD (cY l) ls:Nat):Int)!=1) with
        |true=>
         have Vf: ¬ (l.id<1):=of_decide_eq_false a5;have Wf: ¬ (((aD ae.aJ ls/2:Nat):Int)<l.id):=of_decide_eq_false a6;have Tj:iS f ls l=false:=by simp only[iS,k1,k2,A9,a1,a2,a3,a5,a6,a7];rfl
         simp only[go_sem,i35_r2,h1,hB,h4,hL,h6,s33,bg pvi,ch,aT,wv,k1,k2,a1,a2,a3,Vf,Wf,a7];refine⟨by kernel_rfl,hr Tj _ ?_⟩;simp only[go_sem]
        |false=>
         cases a8:(((aD (jD l.id) ls:Nat):Int)!=2) with
         |true=>
          have Vf: ¬ (l.id<1):=of_decide_eq_false a5;have Wf: ¬ (((aD ae.aJ ls/2:Nat):Int)<l.id):=of_decide_eq_false a6;have Tj:iS f ls l=false:=by simp only[iS,k1,k2,A9,a1,a2,a3,a5,a6,a7,a8];rfl
          simp only[go_sem,i35_r2,h1,hB,h4,hL,h6,s33,s62,bg pvi,bg pti,ch,aT,wv,k1,k2,a1,a2,a3,Vf,Wf,a7,a8];refine⟨by kernel_rfl,hr Tj _ ?_⟩;simp only[go_sem]
         |false=>
          have Vf: ¬ (l.id<1):=of_decide_eq_false a5;have Wf: ¬ (((aD ae.aJ ls/2:Nat):Int)<l.id):=of_decide_eq_false a6;have Tj:iS f ls l=true:=by simp only[iS,k1,k2,A9,a1,a2,a3,a5,a6,a7,a8];rfl
          simp only[go_sem,i35_r2,h1,hB,h4,hL,h6,s33,s62,bg pvi,bg pti,ch,aT,wv,k1,k2,a1,a2,a3,Vf,Wf,a7,a8];refine⟨by kernel_rfl,hq Tj _ ?_ ?_⟩;all_goals simp only[go_sem]
  |false=>
   have Tj:iS f ls l=false:=by simp only[iS,k1,k2];rfl
   simp only[go_sem,i35_r2,h4,hL,k1,k2];refine hr Tj _ ?_;simp only[go_sem]
def eI(f:Int)(ls:List ae):Bool:=ls.all (iS f ls)
theorem Ij(f:Int)(ls:List ae)(hl:ls.length<=1000000):aH S 35 [aQ f ls] (rb (eI f ls)):=by
 refine aG c35 ?_;simp only[go_sem,i35];refine be (fun k env Tc=>env 1= .one (.Tn 2240000000 1 0)/\Tc 2240000000=(1,some (.var (ie f ls)))/\env 3=vi k/\ ∀ j l,j<k->ls[j]? =some l->iS f ls l=true) 0 ls.length (aah _) ?_ ?_
 ·simp only[go_sem];exact⟨rfl,fun j l h=>absurd h (abl j)⟩
 ·rintro k env Tc hk ⟨h1,hB,h3,Tj⟩
  by_cases Ti:k<ls.length
  ·obtain⟨l,ho⟩:=ao Ti;have hi:=cD ho;have Tk:((k:Int)<(ls.length:Int)):=by omega
   have w1:=am (n:=k) (by omega);simp only[go_sem,i35_l4,h1,hB,h3,hi,ae.ps,Tk];refine Il (f:=f) (l:=l) (g:=(Tc 2240256320).1+1) (i:=k) hl ?_ ?_ ?_ ?_ ?_ ?_ ?_ ?_ ?_
   ·simp only[go_sem,h1]
   ·simp only[go_sem,hB]
   ·simp only[go_sem,h3]
   ·simp only[go_sem]
   ·simp only[go_sem]
   ·simp only[go_sem]
   ·simp only[go_sem]
   ·simp only[go_sem]
   ·intro Tg Td q1 q3 q4 b1 b2 q5 q6;simp only[go_sem,h1,h3] at q1 q3 q4;simp only[go_sem,hB] at b1 b2;simp only[go_sem];refine Ik (f:=f) (l:=l) (i:=k) hl q1 b1 q3 q4 b2 q5 q6 ?_ ?_
    ·intro XL Tz e1 e3;rw[q1] at e1;rw[q3] at e3;simp only[go_sem,i35_r3,e1,b1,e3,w1];refine⟨Ti,fun j l' hj hl'=> ?_⟩;rcases aaW.1 hj with hj|rfl
     ·exact Tj j l' hj hl'
     ·rw[ho] at hl';cases hl';exact XL
    ·intro aiI Tz e2;have hf:eI f ls=false:=by
      unfold eI;rw[List.all_eq_false];exact⟨l,aaf ho,by simp[aiI]⟩
     simp only[go_sem,e2,hf]
  ·have:k=ls.length:=by omega
   subst this;have hf:eI f ls=true:=by
    unfold eI;rw[aaJ];intro x hx;obtain⟨j,hj,rfl⟩:=List.getElem_of_mem hx;exact Tj j _ hj (by simp)
   simp only[go_sem,i35_l4,i35_r5,h1,hB,h3,aN,hf]
theorem Lb{o:List Nat}{i x:Nat}:x∈vL ls o i↔x∈o\/x=i:=by
 unfold vL;generalize (o.takeWhile (lh ls i)).length=K;constructor
 ·intro h;rcases aaM.1 h with h|h
  ·exact .inl (abM h)
  ·rcases aat.1 h with h|h
   ·exact .inr h
   ·exact .inl (abL h)
 ·rintro (h|rfl)
  ·rw[<- ado K o] at h;rcases aaM.1 h with h|h
   ·exact aaM.2 (.inl h)
   ·exact aaM.2 (.inr (aat.2 (.inr h)))
  ·simp
theorem zb: ∀ {k x:Nat},k<=ls.length->(x∈gh ls k↔x<k/\ ∃ l,ls[x]? =some l/\l.bq=true):=by
 intro k
 induction k with
 |zero=>intro x _;simp[gh]
 |succ k ih=>
  intro x hk;rw[jc];obtain⟨l,hl⟩:=ao (ls:=ls) (k:=k) (by omega);have ih:=ih (x:=x) (by omega);unfold lk;rw[hl];simp only;by_cases hp:l.bq=true
  ·rw[if_pos hp,Lb,ih];constructor
   ·rintro (⟨h1,h2⟩|rfl)
    ·exact⟨by omega,h2⟩
    ·exact⟨by omega,l,hl,hp⟩
   ·rintro ⟨h1,h2⟩
    rcases aaW.1 h1 with h|rfl
    ·exact .inl ⟨h,h2⟩
    ·exact .inr rfl
  ·rw[if_neg hp,ih];constructor
   ·rintro ⟨h1,h2⟩;exact⟨by omega,h2⟩
   ·rintro ⟨h1,m,hm,Wk⟩
    rcases aaW.1 h1 with h|rfl
    ·exact⟨h,m,hm,Wk⟩
    ·rw[hl] at hm;cases hm;exact(hp Wk).elim
theorem eE{x:Nat}:x∈ah ls↔ ∃ l,ls[x]? =some l/\l.bq=true:=by
 have:=zb (ls:=ls) (k:=ls.length) (x:=x) (aal _);have e:ah ls=gh ls ls.length:=rfl;rw[e,this];constructor
 ·rintro ⟨_,h⟩;exact h
 ·rintro ⟨l,h,h2⟩;exact⟨(aag.1 h).1,l,h,h2⟩
theorem qV{f:Int}(h:eI f ls=true){v:Nat}{l:ae}(hv:ls[v]? =some l):l.bq=true\/l.aJ=true:=by
 have:=(aaJ.1 h) l (aaf hv);unfold iS at this;unfold ae.bq ae.aJ;cases h1:(l.kind==1) with
 |true=>exact .inl rfl
 |false=>
  cases h2:(l.kind==2) with
  |true=>exact .inr rfl
  |false=>rw[h1,h2] at this;simp at this
def iU(ls:List ae):Nat:=(bt (ce ls (ah ls)) (2*ls.length+2*(ah ls).length)).length
def dF(f:Int)(ls:List ae):Bool:=(match ls[0]? with|some l=>l.kind==1|none=>true)&&(aD ae.bq ls%2==0)&&eI f ls&&(iU ls==aD ae.bq ls+aD ae.aJ ls/2+2)
def dZ(f:Int)(ls:List ae):Int:=if 400<ls.length\/200<aD ae.aJ ls then 7 else if f<0\/40<f then 2 else if ls=[] then 0 else if dF f ls then 0 else 3
theorem OS(f:Int)(ls:List ae)(hl:ls.length<=1000000):aH S 10 [aQ f ls] (ri (dZ f ls)):=by
 have pvi:=uK f ls hl;have ppa:=B2 f ls hl;have ple:=Ij f ls hl;have pcr:=js f ls hl;have hci:=dS ae.aJ ls;have Ut:=dS ae.bq ls;refine aG c10 ?_;unfold dZ;by_cases h1:400<ls.length
 ·have Vd:(400:Int)<(ls.length:Int):=by omega
  simp only[go_sem,i10,h1,Vd]
 have Vd: ¬ (400:Int)<(ls.length:Int):=by omega
 by_cases h2:200<aD ae.aJ ls
 ·have US:(200:Int)<(aD ae.aJ ls:Int):=by omega
  simp only[go_sem,i10,h1,Vd,h2,US,s33,aS pvi]
 have US: ¬ (200:Int)<(aD ae.aJ ls:Int):=by omega
 by_cases h3:f<0
 ·simp only[go_sem,i10,h1,Vd,h2,US,h3,s33,aS pvi]
 by_cases h4:40<f
 ·simp only[go_sem,i10,h1,Vd,h2,US,h3,h4,s33,aS pvi]
 have ahV: ¬ (400<ls.length\/200<aD ae.aJ ls):=by omega
 have ahU: ¬ (f<0\/40<f):=by omega
 rw[if_neg ahV,if_neg ahU];by_cases he:ls=[]
 ·subst he;have hz:(((0:Nat):Int)==0)=true:=by decide
  have hz3: ¬ ((400:Int)<((0:Nat):Int)):=by decide
  have ahh:aH S 33 [.agg [.p (.int .i64 f), .p (.sl [])]] (ri (aD ae.aJ [])):=pvi;simp only[go_sem,i10,hz3,US,h3,h4,s33,aS ahh,hz]
 ·have hlen:0<ls.length:=abn.2 he;obtain⟨l0,h0⟩:=ao hlen;have hi0:=cD h0;have hnz:(((ls.length:Nat):Int)==0)=false:=by simp;omega
  rw[if_neg he];generalize hr:(if dF f ls=true then (0:Int) else 3)=r;cases c1:(l0.kind==1) with
  |false=>
   have c1':(l0.kind !=1)=true:=by simp[bne,c1]
   have hv:dF f ls=false:=by simp only[dF,h0,c1];rfl
   rw[hv] at hr;have hr:(3:Int)=r:=hr;subst hr;simp only[go_sem,i10,Vd,US,h3,h4,s33,aS pvi,hnz,s34,aS ppa,hi0,ae.ps,c1'];exact au
  |true=>
   have c1':(l0.kind !=1)=false:=by simp[bne,c1]
   cases c2:(aD ae.bq ls%2==0) with
   |false=>
    have c2':(((aD ae.bq ls%2:Nat):Int)!=0)=true:=by simp at c2 ⊢;omega
    have hv:dF f ls=false:=by simp only[dF,h0,c1,c2];rfl
    rw[hv] at hr;have hr:(3:Int)=r:=hr;subst hr;simp only[go_sem,i10,Vd,US,h3,h4,s33,aS pvi,hnz,s34,aS ppa,hi0,ae.ps,c1',dB,aT,c2'];exact au
   |true=>
    have c2':(((aD ae.bq ls%2:Nat):Int)!=0)=false:=by simp at c2 ⊢;omega
    cases c3:eI f ls with
    |false=>
     rw[c3] at ple;have hv:dF f ls=false:=by simp only[dF,h0,c1,c2,c3];rfl
     rw[hv] at hr;have hr:(3:Int)=r:=hr;subst hr;simp only[go_sem,i10,Vd,US,h3,h4,s33,aS pvi,hnz,s34,aS ppa,hi0,ae.ps,c1',dB,aT,c2',s35,aw ple];exact au
    |true=>
     rw[c3] at ple;have TA:ah ls≠[]:=fun e=>by
      have:(0:Nat)∈ah ls:=eE.2 ⟨l0,h0,c1⟩;rw[e] at this;cases this
     have hp: ∀ v l,ls[v]? =some l->(l.kind==2)=false->v∈ah ls:=fun v l hv h2=>by
      rcases qV c3 hv with h|h
      ·exact eE.2 ⟨l,hv,h⟩
      ·unfold ae.aJ at h;rw[h2] at h;cases h
     have pw:=F1 f ls hl TA hp;have hnw:iU ls=(bt (ce ls (ah ls)) (2*ls.length+2*(ah ls).length)).length:=rfl;have hwl:=gY (ce ls (ah ls)) (2*ls.length+2*(ah ls).length) (2*ls.length+2*(ah ls).length);generalize hW:bt (ce ls (ah ls)) (2*ls.length+2*(ah ls).length)=ws at pw hwl hnw;have a1:=wrap_add (a:=aD ae.bq ls) (b:=aD ae.aJ ls/2) (by omega);have a2:IntKind.i64.wrap (((aD ae.bq ls+aD ae.aJ ls/2:Nat):Int)+2)=((aD ae.bq ls+aD ae.aJ ls/2+2:Nat):Int):=wrap_add (a:=aD ae.bq ls+aD ae.aJ ls/2) (b:=2) (by omega)
     have Uy:S.lone 640513152=false:=by kernel_rfl
     have T9: ∀ (Tc:aB),land Tc [] 640513152 ((RV.one (.own 64 1 (ws.map fun w=>[jl w]))).bK (S.lone 640513152))=some (.one (.hsl 640513152 ((Tc 640513152).1+1) 1 0 ws.length),[(640513152,((Tc 640513152).1+1,some (.arr 64 1 (ws.map fun w=>[jl w]))))]):=by
      intro Tc;rw[Uy];simp only[RV.bK,land,true_or,if_true,lm,eJ,dA,iC,ik,lz,ff,aak,abO]
     cases c4:(ws.length==aD ae.bq ls+aD ae.aJ ls/2+2) with
     |false=>
      have c4':(((ws.length:Nat):Int)!=((aD ae.bq ls+aD ae.aJ ls/2+2:Nat):Int))=true:=by simp at c4 ⊢;omega
      have hv:dF f ls=false:=by simp only[dF,h0,c1,c2,c3,hnw,c4];rfl
      rw[hv] at hr;have hr:(3:Int)=r:=hr;subst hr;simp only[go_sem,i10,Vd,US,h3,h4,s33,aS pvi,hnz,s34,aS ppa,hi0,ae.ps,c1',dB,aT,c2',s35,aw ple,s36,aY pw (T9 _),s28,bg pcr,a1,a2,c4'];exact au
     |true=>
      have c4':(((ws.length:Nat):Int)!=((aD ae.bq ls+aD ae.aJ ls/2+2:Nat):Int))=false:=by simp at c4 ⊢;omega
      have hv:dF f ls=true:=by simp only[dF,h0,c1,c2,c3,hnw,c4];rfl
      rw[hv] at hr;have hr:(0:Int)=r:=hr;subst hr;simp only[go_sem,i10,Vd,US,h3,h4,s33,aS pvi,hnz,s34,aS ppa,hi0,ae.ps,c1',dB,aT,c2',s35,aw ple,s36,aY pw (T9 _),s28,bg pcr,a1,a2,c4'];exact au
def cS(f:Int)(l:ae):Bool:=if l.kind==1 then (((decide (l.gate<0)||decide (f<l.gate))||l.id !=0)||l.sign !=0)||l.over else if l.kind==2 then (l.gate !=0||l.Th !=0)||(l.sign !=1&&l.sign != -1) else true
theorem Rw(f:Int)(l:ae)(x1 x2 x3 x4 x5 x6:PV):aH S 153 [vH l, .one (.p (.box [.box [.int .i64 f,x1,x2,x3,x4,x5,x6]]))] (rb (cS f l)):=by
 refine aG c153 ?_;cases k1:(l.kind==1) with
 |true=>
  cases a1:(decide (l.gate<0)) with
  |true=>
   have a1':(l.gate<0):=of_decide_eq_true a1;have hb:cS f l=true:=by simp only[cS,k1,a1];rfl
   simp only[go_sem,i153,k1,a1',hb];exact au
  |false=>
   cases a2:(decide (f<l.gate)) with
   |true=>
    have a1': ¬ (l.gate<0):=of_decide_eq_false a1;have a2':(f<l.gate):=of_decide_eq_true a2;have hb:cS f l=true:=by simp only[cS,k1,a1,a2];rfl
    simp only[go_sem,i153,k1,a1',a2',hb];exact au
   |false=>
    cases a3:(l.id !=0) with
    |true=>
     have a1': ¬ (l.gate<0):=of_decide_eq_false a1;have a2': ¬ (f<l.gate):=of_decide_eq_false a2;have hb:cS f l=true:=by simp only[cS,k1,a1,a2,a3];rfl
     simp only[go_sem,i153,k1,a1',a2',a3,hb];exact au
    |false=>
     cases a4:(l.sign !=0) with
     |true=>
      have a1': ¬ (l.gate<0):=of_decide_eq_false a1;have a2': ¬ (f<l.gate):=of_decide_eq_false a2;have hb:cS f l=true:=by simp only[cS,k1,a1,a2,a3,a4];rfl
      simp only[go_sem,i153,k1,a1',a2',a3,a4,hb];exact au
     |false=>
      cases a5:(l.over) with
      |true=>
       have a1': ¬ (l.gate<0):=of_decide_eq_false a1;have a2': ¬ (f<l.gate):=of_decide_eq_false a2;have hb:cS f l=true:=by simp only[cS,k1,a1,a2,a3,a4,a5];rfl
       simp only[go_sem,i153,k1,a1',a2',a3,a4,a5,hb];exact au
      |false=>
       have a1': ¬ (l.gate<0):=of_decide_eq_false a1;have a2': ¬ (f<l.gate):=of_decide_eq_false a2;have hb:cS f l=false:=by simp only[cS,k1,a1,a2,a3,a4,a5];rfl
       simp only[go_sem,i153,k1,a1',a2',a3,a4,a5,hb];exact au
 |false=>
  cases k2:(l.kind==2) with
  |true=>
   cases a1:(l.gate !=0) with
   |true=>
    have hb:cS f l=true:=by simp only[cS,k1,k2,a1];rfl
    simp only[go_sem,i153,k1,k2,a1,hb]
   |false=>
    cases a2:(l.Th !=0) with
    |true=>
     have hb:cS f l=true:=by simp only[cS,k1,k2,a1,a2];rfl
     simp only[go_sem,i153,k1,k2,a1,a2,hb]
    |false=>
     cases a3:(l.sign !=1) with
     |true=>
      cases a4:(l.sign != -1) with
      |true=>
       have hb:cS f l=true:=by simp only[cS,k1,k2,a1,a2,a3,a4];rfl
       simp only[go_sem,i153,k1,k2,a1,a2,a3,a4,hb]
      |false=>
       have hb:cS f l=false:=by simp only[cS,k1,k2,a1,a2,a3,a4];rfl
       simp only[go_sem,i153,k1,k2,a1,a2,a3,a4,hb]
     |false=>
      have hb:cS f l=false:=by simp only[cS,k1,k2,a1,a2,a3];rfl
      simp only[go_sem,i153,k1,k2,a1,a2,a3,hb]
  |false=>
   have hb:cS f l=true:=by simp only[cS,k1,k2];rfl
   simp only[go_sem,i153,k1,k2,hb]
abbrev dfn(f:Int)(x1 x2 x3 x4 x5 x6:PV):PV:= .fn 153 [] [.box [.box [.int .i64 f,x1,x2,x3,x4,x5,x6]]]
theorem IU(f:Int)(ls:List ae)(x1 x2 x3 x4 x5 x6:PV)(hl:ls.length<=1000000)(hn:x1.norm=x1/\x2.norm=x2/\x3.norm=x3/\x4.norm=x4/\x5.norm=x5/\x6.norm=x6):
  ∃ k:Int,(0<=k↔ls.any (cS f)=true)/\aH S 171 [.one (.p (tY ls)), .one (.p (dfn f x1 x2 x3 x4 x5 x6))] (ri k):=by
 have main: ∀ r:Int,(∀ (k:Nat) l,ls[k]? =some l->cS f l=true->(∀ (j:Nat) m,j<k->ls[j]? =some m->cS f m=false)->r=k)->((∀ (j:Nat) m,ls[j]? =some m->cS f m=false)->r= -1)->
   aH S 171 [.one (.p (tY ls)), .one (.p (dfn f x1 x2 x3 x4 x5 x6))] (ri r):=by
  intro r T8 YT;refine aG c171 ?_;simp only[go_sem,i171];refine be (fun k env Tc=>env 0= .one (.p (tY ls))/\env 1= .one (.p (dfn f x1 x2 x3 x4 x5 x6))/\env 7=vi ls.length/\env 8=vi k/\ ∀ j m,j<k->ls[j]? =some m->cS f m=false) 0 ls.length (aah _) ?_ ?_
  ·simp only[go_sem];exact⟨rfl,fun j m h=>absurd h (abl j)⟩
  ·rintro k env Tc hk ⟨h0,h1,h7,h8,hn⟩
   by_cases Ti:k<ls.length
   ·obtain⟨l,T7⟩:=ao Ti;have hi:=cD T7;have Tk:((k:Int)<(ls.length:Int)):=by omega
    have w1:=am (n:=k) (by omega);have pb:=Rw f l x1 x2 x3 x4 x5 x6;cases hb:cS f l with
    |true=>
     rw[hb] at pb;have hr:=T8 k l T7 hb hn;subst hr;simp only[go_sem,i171_l1,h0,h1,h7,h8,hi,ae.ps,Tk,s153,aa pb]
    |false=>
     rw[hb] at pb;simp only[go_sem,i171_l1,h0,h1,h7,h8,hi,ae.ps,Tk,w1,s153,aa pb];refine⟨Ti,fun j m hj hm=> ?_⟩;rcases aaW.1 hj with hj|rfl
     ·exact hn j m hj hm
     ·rw[T7] at hm;cases hm;exact hb
   ·have:k=ls.length:=by omega
    subst this;have hr:=YT fun j m hm=>hn j m (aag.1 hm).1 hm
    subst hr;simp only[go_sem,i171_l1,i171_r2,h7,h8,aN]
 cases ha:ls.any (cS f) with
 |true=>
  have hx:ls.findIdx (cS f)<ls.length:=List.findIdx_lt_length_of_exists (by simpa using ha);refine⟨(ls.findIdx (cS f):Nat),⟨fun _=>rfl,fun _=>by omega⟩,main _ ?_ ?_⟩
  ·intro k l T7 hb hn;have hk:=(aag.1 T7).1;have h1:cS f ls[ls.findIdx (cS f)]=true:=List.findIdx_getElem;rcases Nat.lt_trichotomy (ls.findIdx (cS f)) k with h|h|h
   ·have:=hn _ _ h (abJ hx);rw[h1] at this;cases this
   ·rw[h]
   ·have:=List.not_of_lt_findIdx h;have e:ls[k]=l:=by rw[abJ hk] at T7;exact ab2 T7
    rw[e,hb] at this;simp at this
  ·intro hn;have h1:cS f ls[ls.findIdx (cS f)]=true:=List.findIdx_getElem;have:=hn _ _ (abJ hx);rw[h1] at this;cases this
 |false=>
  refine⟨-1,⟨fun h=>by omega,fun h=>by cases h⟩,main _ ?_ (fun _=>rfl)⟩;intro k l T7 hb _;have:=acp.1 ha l (aaf T7);exact(this hb).elim
theorem FC(f:Int)(ls:List ae)(x1 x2 x3 x4 x5 x6:PV)(hl:ls.length<=1000000)(hn:x1.norm=x1/\x2.norm=x2/\x3.norm=x3/\x4.norm=x4/\x5.norm=x5/\x6.norm=x6):
  aH S 152 [.one (.p (tY ls)), .one (.p (dfn f x1 x2 x3 x4 x5 x6))] (rb (ls.any (cS f))):=by
 obtain⟨k,hk,pk⟩:=IU f ls x1 x2 x3 x4 x5 x6 hl hn;refine aG c152 ?_;cases ha:ls.any (cS f) with
 |true=>
  have h0:=hk.2 ha;simp only[go_sem,i152,s171,aS pk,h0]
 |false=>
  have h0: ¬ 0<=k:=fun h=>by rw[hk.1 h] at ha;cases ha
  simp only[go_sem,i152,s171,aS pk,h0]
abbrev SO(f:Int)(ls:List ae)(x2 x3 x4 x5 x6:PV):PV:= .box [.int .i64 f,tY ls,x2,x3,x4,x5,x6]
theorem Fy(f:Int)(ls:List ae)(x2 x3 x4 x5 x6:PV)(hl:ls.length<=1000000)(hn:x2.norm=x2/\x3.norm=x3/\x4.norm=x4/\x5.norm=x5/\x6.norm=x6):
  aH S 131 [.one (.p (SO f ls x2 x3 x4 x5 x6))] (rb (!ls.any (cS f))):=by
 have pc:=FC f ls (tY ls) x2 x3 x4 x5 x6 hl ⟨rfl,hn.1,hn.2.1,hn.2.2.1,hn.2.2.2.1,hn.2.2.2.2⟩;refine aG c131 ?_;simp only[go_sem,i131,s152,aa pc]
theorem IP(f:Int)(ls:List ae)(l0:ae)(x2 x3 x4 x5 x6:PV)(hl:ls.length<=1000000)(h0:ls[0]? =some l0):
  aH S 132 [.one (.p (SO f ls x2 x3 x4 x5 x6))] (rb (l0.kind==1&&aD ae.bq ls%2==0)):=by
 have pp:=vr f ls hl;have hi0:=cD h0;refine aG c132 ?_;have e2:((((aD ae.bq ls)%2:Nat):Int)==0)=(aD ae.bq ls%2==0):=by
  cases h:(aD ae.bq ls%2==0) with
  |true=>simp at h ⊢;omega
  |false=>simp at h ⊢;omega
 cases hk:(l0.kind==1) with
 |true=>simp only[go_sem,i132,hi0,ae.ps,hk,s47,aS pp,dB,aT,e2]
 |false=>simp only[go_sem,i132,hi0,ae.ps,hk]
end
end Go.Abs
