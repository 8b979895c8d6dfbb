/-
  A part of a proof.
-/
import Derived.Test.YtjjdebhkbfeniaaGreatDoorWa
set_option linter.unusedSimpArgs false
set_option linter.unusedVariables false
set_option linter.unusedSectionVars false
set_option maxRecDepth 100000
set_option maxHeartbeats 16000000
namespace Go.Abs
abbrev letC(l:Let):List C:=[.p (.int .i64 l.kind), .p (.int .i64 l.gate), .p (.int .i64 l.rank), .p (.int .i64 l.id), .p (.int .i64 l.sign), .p (.bool l.over)]
def sameB(l o:Let):Bool:=(o.kind==l.kind&&o.gate==l.gate)&&o.rank==l.rank
def pairB(l o:Let):Bool:=((o.kind==l.kind&&o.id==l.id)&&o.sign==l.sign)&& !(o.over==l.over)
def okP(f:Int)(ls:List Let)(l:Let):Bool:= !(((((((l.id !=0||l.sign !=0)||l.over)||decide (l.gate<0))||decide (f<l.gate))||decide (l.rank<1))||decide ((cnt (inG l.gate) ls:Int)<l.rank))||(((cnt (sameB l) ls:Nat):Int)!=1))
def okC(ls:List Let)(l:Let):Bool:= !((((((l.gate !=0||l.rank !=0)||(l.sign !=1&&l.sign != -1))||decide (l.id<1))||decide (((cnt Let.isC ls/2:Nat):Int)<l.id))||(((cnt (pairB l) ls:Nat):Int)!=1))||(((cnt (isId l.id) ls:Nat):Int)!=2))
def okL(f:Int)(ls:List Let)(l:Let):Bool:=if l.kind==1 then okP f ls l else if l.kind==2 then okC ls l else false
theorem lettersIn{f:Int}{ls:List Let}{l:Let}{g i:Nat}{env:Env}{blk:Blk}{Q:Post}(hl:ls.length≤1000000)(h1:env 1= .one (.href 2752000000 1 0))(hB:blk 2752000000=(1,some (.var (codeC f ls))))(h3:env 3=vi i)(h4:env 4= .one (.href 2752256320 g 0))(hL:blk 2752256320=(g,some (.var (letC l))))
  (h5:env 5=vi 0) (h6:env 6=vi 0) (h7:env 7=vi 0)
  (hq: ∀ env' blk',env' 1=env 1→env' 3=env 3→env' 4=env 4→blk' 2752000000=blk 2752000000→blk' 2752256320=blk 2752256320→env' 5=vi (cnt (sameB l) ls)→env' 6=vi (cnt (pairB l) ls)→Q .normal env' blk'):
  W S .all (.loop i43_l1) (blockQ 2 Q) env blk:=by
 refine R_for (fun k env' blk'=>env' 1= .one (.href 2752000000 1 0)∧blk' 2752000000=(1,some (.var (codeC f ls)))∧env' 3=vi i∧env' 4= .one (.href 2752256320 g 0)∧blk' 2752256320=(g,some (.var (letC l)))∧
   env' 5=vi (cnt (sameB l) (ls.take k))∧env' 6=vi (cnt (pairB l) (ls.take k))∧env' 7=vi k) 0 ls.length (Nat.zero_le _) ?_ ?_
 ·exact⟨h1,hB,h3,h4,hL,h5,h6,h7⟩
 ·rintro k env' blk' hk ⟨g1,gB,g3,g4,gL,g5,g6,g7⟩
  by_cases hlt:k<ls.length
  ·obtain⟨o,ho⟩:=at_lt hlt;have hi:=ps_of ho;have hlt':((k:Int)<(ls.length:Int)):=by omega
   have b5:=cnt_take_le (sameB l) ls k;have b6:=cnt_take_le (pairB l) ls k;have w1:=wrap_succ (n:=k) (by omega);have w5:=wrap_succ (n:=cnt (sameB l) (ls.take k)) (by omega);have w6:=wrap_succ (n:=cnt (pairB l) (ls.take k)) (by omega);cases e0:(o.kind==l.kind) with
   |true=>
    cases e1:(o.gate==l.gate) with
    |true=>
     cases e2:(o.rank==l.rank) with
     |true=>
      cases e3:(o.id==l.id) with
      |true=>
       cases e4:(o.sign==l.sign) with
       |true=>
        cases e5:(o.over==l.over) with
        |true=>
         have c5:=cnt_hit (p:=sameB l) ho (by simp only[sameB,e0,e1,e2];rfl);have c6:=cnt_miss (p:=pairB l) ho (by simp only[pairB,e0,e3,e4,e5];rfl);simp only[go_sem,i43_l1,g1,gB,g3,g4,gL,g5,g6,g7,hi,Let.ps,hlt',w1,w5,e0,e1,e2,e3,e4,e5,c5,c6];first|exact hlt|exact⟨hlt,rfl⟩|exact⟨hlt,rfl,rfl⟩
        |false=>
         have c5:=cnt_hit (p:=sameB l) ho (by simp only[sameB,e0,e1,e2];rfl);have c6:=cnt_hit (p:=pairB l) ho (by simp only[pairB,e0,e3,e4,e5];rfl);simp only[go_sem,i43_l1,g1,gB,g3,g4,gL,g5,g6,g7,hi,Let.ps,hlt',w1,w5,w6,e0,e1,e2,e3,e4,e5,c5,c6];first|exact hlt|exact⟨hlt,rfl⟩|exact⟨hlt,rfl,rfl⟩
       |false=>
        have c5:=cnt_hit (p:=sameB l) ho (by simp only[sameB,e0,e1,e2];rfl);have c6:=cnt_miss (p:=pairB l) ho (by simp only[pairB,e0,e3,e4];rfl);simp only[go_sem,i43_l1,g1,gB,g3,g4,gL,g5,g6,g7,hi,Let.ps,hlt',w1,w5,e0,e1,e2,e3,e4,c5,c6];first|exact hlt|exact⟨hlt,rfl⟩|exact⟨hlt,rfl,rfl⟩
      |false=>
       have c5:=cnt_hit (p:=sameB l) ho (by simp only[sameB,e0,e1,e2];rfl);have c6:=cnt_miss (p:=pairB l) ho (by simp only[pairB,e0,e3];rfl);simp only[go_sem,i43_l1,g1,gB,g3,g4,gL,g5,g6,g7,hi,Let.ps,hlt',w1,w5,e0,e1,e2,e3,c5,c6];first|exact hlt|exact⟨hlt,rfl⟩|exact⟨hlt,rfl,rfl⟩
     |false=>
      cases e3:(o.id==l.id) with
      |true=>
       cases e4:(o.sign==l.sign) with
       |true=>
        cases e5:(o.over==l.over) with
        |true=>
         have c5:=cnt_miss (p:=sameB l) ho (by simp only[sameB,e0,e1,e2];rfl);have c6:=cnt_miss (p:=pairB l) ho (by simp only[pairB,e0,e3,e4,e5];rfl);simp only[go_sem,i43_l1,g1,gB,g3,g4,gL,g5,g6,g7,hi,Let.ps,hlt',w1,e0,e1,e2,e3,e4,e5,c5,c6];first|exact hlt|exact⟨hlt,rfl⟩|exact⟨hlt,rfl,rfl⟩
        |false=>
         have c5:=cnt_miss (p:=sameB l) ho (by simp only[sameB,e0,e1,e2];rfl);have c6:=cnt_hit (p:=pairB l) ho (by simp only[pairB,e0,e3,e4,e5];rfl);simp only[go_sem,i43_l1,g1,gB,g3,g4,gL,g5,g6,g7,hi,Let.ps,hlt',w1,w6,e0,e1,e2,e3,e4,e5,c5,c6];first|exact hlt|exact⟨hlt,rfl⟩|exact⟨hlt,rfl,rfl⟩
       |false=>
        have c5:=cnt_miss (p:=sameB l) ho (by simp only[sameB,e0,e1,e2];rfl);have c6:=cnt_miss (p:=pairB l) ho (by simp only[pairB,e0,e3,e4];rfl);simp only[go_sem,i43_l1,g1,gB,g3,g4,gL,g5,g6,g7,hi,Let.ps,hlt',w1,e0,e1,e2,e3,e4,c5,c6];first|exact hlt|exact⟨hlt,rfl⟩|exact⟨hlt,rfl,rfl⟩
      |false=>
       have c5:=cnt_miss (p:=sameB l) ho (by simp only[sameB,e0,e1,e2];rfl);have c6:=cnt_miss (p:=pairB l) ho (by simp only[pairB,e0,e3];rfl);simp only[go_sem,i43_l1,g1,gB,g3,g4,gL,g5,g6,g7,hi,Let.ps,hlt',w1,e0,e1,e2,e3,c5,c6];first|exact hlt|exact⟨hlt,rfl⟩|exact⟨hlt,rfl,rfl⟩
    |false=>
     cases e3:(o.id==l.id) with
     |true=>
      cases e4:(o.sign==l.sign) with
      |true=>
       cases e5:(o.over==l.over) with
       |true=>
        have c5:=cnt_miss (p:=sameB l) ho (by simp only[sameB,e0,e1];rfl);have c6:=cnt_miss (p:=pairB l) ho (by simp only[pairB,e0,e3,e4,e5];rfl);simp only[go_sem,i43_l1,g1,gB,g3,g4,gL,g5,g6,g7,hi,Let.ps,hlt',w1,e0,e1,e3,e4,e5,c5,c6];first|exact hlt|exact⟨hlt,rfl⟩|exact⟨hlt,rfl,rfl⟩
       |false=>
        have c5:=cnt_miss (p:=sameB l) ho (by simp only[sameB,e0,e1];rfl);have c6:=cnt_hit (p:=pairB l) ho (by simp only[pairB,e0,e3,e4,e5];rfl);simp only[go_sem,i43_l1,g1,gB,g3,g4,gL,g5,g6,g7,hi,Let.ps,hlt',w1,w6,e0,e1,e3,e4,e5,c5,c6];first|exact hlt|exact⟨hlt,rfl⟩|exact⟨hlt,rfl,rfl⟩
      |false=>
       have c5:=cnt_miss (p:=sameB l) ho (by simp only[sameB,e0,e1];rfl);have c6:=cnt_miss (p:=pairB l) ho (by simp only[pairB,e0,e3,e4];rfl);simp only[go_sem,i43_l1,g1,gB,g3,g4,gL,g5,g6,g7,hi,Let.ps,hlt',w1,e0,e1,e3,e4,c5,c6];first|exact hlt|exact⟨hlt,rfl⟩|exact⟨hlt,rfl,rfl⟩
     |false=>
      have c5:=cnt_miss (p:=sameB l) ho (by simp only[sameB,e0,e1];rfl);have c6:=cnt_miss (p:=pairB l) ho (by simp only[pairB,e0,e3];rfl);simp only[go_sem,i43_l1,g1,gB,g3,g4,gL,g5,g6,g7,hi,Let.ps,hlt',w1,e0,e1,e3,c5,c6];first|exact hlt|exact⟨hlt,rfl⟩|exact⟨hlt,rfl,rfl⟩
   |false=>
    have c5:=cnt_miss (p:=sameB l) ho (by simp only[sameB,e0];rfl);have c6:=cnt_miss (p:=pairB l) ho (by simp only[pairB,e0];rfl);simp only[go_sem,i43_l1,g1,gB,g3,g4,gL,g5,g6,g7,hi,Let.ps,hlt',w1,e0,c5,c6];first|exact hlt|exact⟨hlt,rfl⟩|exact⟨hlt,rfl,rfl⟩
  ·have:k=ls.length:=by omega
   subst this;rw[List.take_length] at g5 g6;simp only[go_sem,i43_l1,g1,gB,g7,no_more];refine hq _ _ ?_ ?_ ?_ ?_ ?_ ?_ ?_;all_goals simp only[go_sem,g1,gB,g3,g4,gL,g5,g6,h1,hB,h3,h4,hL]
end Go.Abs
