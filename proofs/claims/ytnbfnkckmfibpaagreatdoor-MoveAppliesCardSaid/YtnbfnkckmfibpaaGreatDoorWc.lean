/-
  Which crossings are right for the document.
-/
import Derived.Test.YtnbfnkckmfibpaaGreatDoorWa
set_option linter.unusedSimpArgs false
set_option linter.unusedVariables false
set_option linter.unusedSectionVars false
set_option maxRecDepth 100000
set_option maxHeartbeats 16000000
namespace Go.Abs
abbrev KT(l:ae):List C:=[.p (.int .i64 l.kind), .p (.int .i64 l.gate), .p (.int .i64 l.Th), .p (.int .i64 l.id), .p (.int .i64 l.sign), .p (.bool l.over)]
def dC(l o:ae):Bool:=(o.kind==l.kind&&o.gate==l.gate)&&o.Th==l.Th
def cY(l o:ae):Bool:=((o.kind==l.kind&&o.id==l.id)&&o.sign==l.sign)&& !(o.over==l.over)
def Gl(f:Int)(ls:List ae)(l:ae):Bool:= !(((((((l.id !=0||l.sign !=0)||l.over)||decide (l.gate<0))||decide (f<l.gate))||decide (l.Th<1))||decide ((aD (o0 l.gate) ls:Int)<l.Th))||(((aD (dC l) ls:Nat):Int)!=1))
def A9(ls:List ae)(l:ae):Bool:= !((((((l.gate !=0||l.Th !=0)||(l.sign !=1&&l.sign != -1))||decide (l.id<1))||decide (((aD ae.aJ ls/2:Nat):Int)<l.id))||(((aD (cY l) ls:Nat):Int)!=1))||(((aD (jD l.id) ls:Nat):Int)!=2))
def iS(f:Int)(ls:List ae)(l:ae):Bool:=if l.kind==1 then Gl f ls l else if l.kind==2 then A9 ls l else false
theorem Il{f:Int}{ls:List ae}{l:ae}{g i:Nat}{env:Env}{Tc:aB}{Q:cZ}(hl:ls.length<=1000000)(h1:env 1= .one (.Tn 2240000000 1 0))(hB:Tc 2240000000=(1,some (.var (ie f ls))))(h3:env 3=vi i)(h4:env 4= .one (.Tn 2240256320 g 0))(hL:Tc 2240256320=(g,some (.var (KT l))))
  (h5:env 5=vi 0) (h6:env 6=vi 0) (h7:env 7=vi 0)
  (hq: ∀ Tg Td,Tg 1=env 1->Tg 3=env 3->Tg 4=env 4->Td 2240000000=Tc 2240000000->Td 2240256320=Tc 2240256320->Tg 5=vi (aD (dC l) ls)->Tg 6=vi (aD (cY l) ls)->Q .normal Tg Td):
  W S .all (.loop i35_l1) (ey 2 Q) env Tc:=by
 refine be (fun k Tg Td=>Tg 1= .one (.Tn 2240000000 1 0)/\Td 2240000000=(1,some (.var (ie f ls)))/\Tg 3=vi i/\Tg 4= .one (.Tn 2240256320 g 0)/\Td 2240256320=(g,some (.var (KT l)))/\
   Tg 5=vi (aD (dC l) (ls.take k))/\Tg 6=vi (aD (cY l) (ls.take k))/\Tg 7=vi k) 0 ls.length (aah _) ?_ ?_
 ·exact⟨h1,hB,h3,h4,hL,h5,h6,h7⟩
 ·rintro k Tg Td hk ⟨g1,gB,g3,g4,gL,g5,g6,g7⟩
  by_cases Ti:k<ls.length
  ·obtain⟨o,ho⟩:=ao Ti;have hi:=cD ho;have Tk:((k:Int)<(ls.length:Int)):=by omega
   have b5:=dK (dC l) ls k;have b6:=dK (cY l) ls k;have w1:=am (n:=k) (by omega);have w5:=am (n:=aD (dC l) (ls.take k)) (by omega);have w6:=am (n:=aD (cY l) (ls.take k)) (by omega);cases e0:(o.kind==l.kind) with
   |true=>
    cases e1:(o.gate==l.gate) with
    |true=>
     cases e2:(o.Th==l.Th) with
     |true=>
      cases e3:(o.id==l.id) with
      |true=>
       cases e4:(o.sign==l.sign) with
       |true=>
        cases e5:(o.over==l.over) with
        |true=>
         have c5:=eK (p:=dC l) ho (by simp only[dC,e0,e1,e2];rfl);have c6:=bo (p:=cY l) ho (by simp only[cY,e0,e3,e4,e5];rfl);simp only[go_sem,i35_l1,g1,gB,g3,g4,gL,g5,g6,g7,hi,ae.ps,Tk,w1,w5,e0,e1,e2,e3,e4,e5,c5,c6];first|exact Ti|exact⟨Ti,rfl⟩|exact⟨Ti,rfl,rfl⟩
        |false=>
         have c5:=eK (p:=dC l) ho (by simp only[dC,e0,e1,e2];rfl);have c6:=eK (p:=cY l) ho (by simp only[cY,e0,e3,e4,e5];rfl);simp only[go_sem,i35_l1,g1,gB,g3,g4,gL,g5,g6,g7,hi,ae.ps,Tk,w1,w5,w6,e0,e1,e2,e3,e4,e5,c5,c6];first|exact Ti|exact⟨Ti,rfl⟩|exact⟨Ti,rfl,rfl⟩
       |false=>
        have c5:=eK (p:=dC l) ho (by simp only[dC,e0,e1,e2];rfl);have c6:=bo (p:=cY l) ho (by simp only[cY,e0,e3,e4];rfl);simp only[go_sem,i35_l1,g1,gB,g3,g4,gL,g5,g6,g7,hi,ae.ps,Tk,w1,w5,e0,e1,e2,e3,e4,c5,c6];first|exact Ti|exact⟨Ti,rfl⟩|exact⟨Ti,rfl,rfl⟩
      |false=>
       have c5:=eK (p:=dC l) ho (by simp only[dC,e0,e1,e2];rfl);have c6:=bo (p:=cY l) ho (by simp only[cY,e0,e3];rfl);simp only[go_sem,i35_l1,g1,gB,g3,g4,gL,g5,g6,g7,hi,ae.ps,Tk,w1,w5,e0,e1,e2,e3,c5,c6];first|exact Ti|exact⟨Ti,rfl⟩|exact⟨Ti,rfl,rfl⟩
     |false=>
      cases e3:(o.id==l.id) with
      |true=>
       cases e4:(o.sign==l.sign) with
       |true=>
        cases e5:(o.over==l.over) with
        |true=>
         have c5:=bo (p:=dC l) ho (by simp only[dC,e0,e1,e2];rfl);have c6:=bo (p:=cY l) ho (by simp only[cY,e0,e3,e4,e5];rfl);simp only[go_sem,i35_l1,g1,gB,g3,g4,gL,g5,g6,g7,hi,ae.ps,Tk,w1,e0,e1,e2,e3,e4,e5,c5,c6];first|exact Ti|exact⟨Ti,rfl⟩|exact⟨Ti,rfl,rfl⟩
        |false=>
         have c5:=bo (p:=dC l) ho (by simp only[dC,e0,e1,e2];rfl);have c6:=eK (p:=cY l) ho (by simp only[cY,e0,e3,e4,e5];rfl);simp only[go_sem,i35_l1,g1,gB,g3,g4,gL,g5,g6,g7,hi,ae.ps,Tk,w1,w6,e0,e1,e2,e3,e4,e5,c5,c6];first|exact Ti|exact⟨Ti,rfl⟩|exact⟨Ti,rfl,rfl⟩
       |false=>
        have c5:=bo (p:=dC l) ho (by simp only[dC,e0,e1,e2];rfl);have c6:=bo (p:=cY l) ho (by simp only[cY,e0,e3,e4];rfl);simp only[go_sem,i35_l1,g1,gB,g3,g4,gL,g5,g6,g7,hi,ae.ps,Tk,w1,e0,e1,e2,e3,e4,c5,c6];first|exact Ti|exact⟨Ti,rfl⟩|exact⟨Ti,rfl,rfl⟩
      |false=>
       have c5:=bo (p:=dC l) ho (by simp only[dC,e0,e1,e2];rfl);have c6:=bo (p:=cY l) ho (by simp only[cY,e0,e3];rfl);simp only[go_sem,i35_l1,g1,gB,g3,g4,gL,g5,g6,g7,hi,ae.ps,Tk,w1,e0,e1,e2,e3,c5,c6];first|exact Ti|exact⟨Ti,rfl⟩|exact⟨Ti,rfl,rfl⟩
    |false=>
     cases e3:(o.id==l.id) with
     |true=>
      cases e4:(o.sign==l.sign) with
      |true=>
       cases e5:(o.over==l.over) with
       |true=>
        have c5:=bo (p:=dC l) ho (by simp only[dC,e0,e1];rfl);have c6:=bo (p:=cY l) ho (by simp only[cY,e0,e3,e4,e5];rfl);simp only[go_sem,i35_l1,g1,gB,g3,g4,gL,g5,g6,g7,hi,ae.ps,Tk,w1,e0,e1,e3,e4,e5,c5,c6];first|exact Ti|exact⟨Ti,rfl⟩|exact⟨Ti,rfl,rfl⟩
       |false=>
        have c5:=bo (p:=dC l) ho (by simp only[dC,e0,e1];rfl);have c6:=eK (p:=cY l) ho (by simp only[cY,e0,e3,e4,e5];rfl);simp only[go_sem,i35_l1,g1,gB,g3,g4,gL,g5,g6,g7,hi,ae.ps,Tk,w1,w6,e0,e1,e3,e4,e5,c5,c6];first|exact Ti|exact⟨Ti,rfl⟩|exact⟨Ti,rfl,rfl⟩
      |false=>
       have c5:=bo (p:=dC l) ho (by simp only[dC,e0,e1];rfl);have c6:=bo (p:=cY l) ho (by simp only[cY,e0,e3,e4];rfl);simp only[go_sem,i35_l1,g1,gB,g3,g4,gL,g5,g6,g7,hi,ae.ps,Tk,w1,e0,e1,e3,e4,c5,c6];first|exact Ti|exact⟨Ti,rfl⟩|exact⟨Ti,rfl,rfl⟩
     |false=>
      have c5:=bo (p:=dC l) ho (by simp only[dC,e0,e1];rfl);have c6:=bo (p:=cY l) ho (by simp only[cY,e0,e3];rfl);simp only[go_sem,i35_l1,g1,gB,g3,g4,gL,g5,g6,g7,hi,ae.ps,Tk,w1,e0,e1,e3,c5,c6];first|exact Ti|exact⟨Ti,rfl⟩|exact⟨Ti,rfl,rfl⟩
   |false=>
    have c5:=bo (p:=dC l) ho (by simp only[dC,e0];rfl);have c6:=bo (p:=cY l) ho (by simp only[cY,e0];rfl);simp only[go_sem,i35_l1,g1,gB,g3,g4,gL,g5,g6,g7,hi,ae.ps,Tk,w1,e0,c5,c6];first|exact Ti|exact⟨Ti,rfl⟩|exact⟨Ti,rfl,rfl⟩
  ·have:k=ls.length:=by omega
   subst this;rw[aa7] at g5 g6;simp only[go_sem,i35_l1,g1,gB,g7,aN];refine hq _ _ ?_ ?_ ?_ ?_ ?_ ?_ ?_;all_goals simp only[go_sem,g1,gB,g3,g4,gL,g5,g6,h1,hB,h3,h4,hL]
end Go.Abs
