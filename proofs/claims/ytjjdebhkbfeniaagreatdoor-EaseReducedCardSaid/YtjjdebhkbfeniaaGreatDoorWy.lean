/-
  A part of a proof.
-/
import Derived.Test.YtjjdebhkbfeniaaGreatDoorWq
set_option linter.unusedSimpArgs false
set_option linter.unusedVariables false
set_option linter.unusedSectionVars false
set_option maxRecDepth 100000
set_option maxHeartbeats 16000000
namespace Go.Abs
abbrev code0(F:Nat):V:= .agg [.p (.int .i64 F), .p (.sl [])]
theorem zz: ¬ (((0:Int))<((0:Nat):Int)):=by decide
theorem zm:IntKind.i64.wrap (2*((0:Nat):Int))=((0:Nat):Int):=by decide
theorem zr:(0:Nat)≤140737488355328:=by decide
theorem zr8:(0:Nat)*8≤140737488355328:=by decide
section
variable {F:Nat}
theorem check0(hF:F≤40):checkR (F:Int) []=0:=by
 unfold checkR;rw[if_neg (by simp[cnt]),if_neg (by omega),if_pos rfl]
theorem read0(hF:F≤40):PEv S 38 [code0 F] (rtup (dgE F) (.int .i64 0)):=by
 have pr:=read_p F [] (Nat.zero_le _);rw[readR_good (check0 hF),if_pos rfl] at pr;exact pr
theorem below0:PEv S 79 [.one (.p (dgE F))] (.one (.own 4 1 [])):=by
 refine pev1 c79 ?_;simp only[go_sem,i79];refine R_unroll ?_;simp only[go_sem,i79_l1,i79_r2,zz];rfl
theorem faces0(hF:F≤40):PEv S 51 [code0 F] (.tup [.one (grownR faTy 5 []), .one (.p (.int .i64 0))]):=by
 have pr:=read0 hF;have hLB: ∀ blk:Blk,land blk [] 3264384064 ((RV.one (.own 4 1 [])).pureIf (S.lone 3264384064))=some (.one (.hsl 3264384064 ((blk 3264384064).1+1) 1 0 0),[(3264384064,((blk 3264384064).1+1,some (.arr 4 1 [])))]):=by
  intro blk;rw[show S.lone 3264384064=false by kernel_rfl];rfl
 refine pev1 c51 ?_;simp only[go_sem,i51,s38,gP_land pr land_tup,s79,gP_land below0 (hLB _),zm,zr];refine R_unroll ?_;simp only[go_sem,i51_l1,i51_r2,zz];rfl
theorem open0(hF:F≤40):PEv S 31 [code0 F] (rtup (brdV F []) (.int .i64 0)):=by
 have pf:=faces0 hF;have pps:PEv S 12 [code0 F] (ri ((0:Nat):Int)):=passes_p F [] (Nat.zero_le _);have pcs:PEv S 13 [code0 F] (ri ((0:Nat):Int)):=crossings_p F [] (Nat.zero_le _);have lo:S.lone 1984064064=false:=by kernel_rfl
 have wF:=wrap_succ (n:=F) (by omega);have r2:(F+1)*8≤140737488355328:=by omega
 have e2:List.replicate (F+1) [PV.int .i64 0]=nP (counts [] F):=by rw[← countsK_all,List.length_nil,countsK_zero];simp
 refine pev1 c31 ?_;simp only[go_sem,i31,s51];refine gP_g1p pf lo fun cf blk0 hcf hb0=> ?_
 have b00:=hb0 1984000000 (by decide);simp only[go_sem] at b00;obtain⟨_,hv⟩|⟨h,_⟩:=hcf
 ·cases hv
  simp only[go_sem,b00,wF,r2,zm,zr,s12,s13,dP_int pps,dP_int pcs,e2];refine⟨okd,?_⟩;refine R_unroll ?_;simp only[go_sem,i31_l1,i31_r6,zz];refine R_unroll ?_;simp only[go_sem,i31_l4,i31_r5,zz];have t2:List.take (F+1) (nP (counts [] F))=nP (counts [] F):=List.take_of_length_le (by simp[counts]);have n2:F+1≤(counts [] F).length:=by simp[counts]
  simp only[go_sem,outV,flatV,flatVs,flatV1,outCs,outC,t2,n2];rfl
 ·exact absurd rfl h
end
section
variable {F:Nat}
end
end Go.Abs
