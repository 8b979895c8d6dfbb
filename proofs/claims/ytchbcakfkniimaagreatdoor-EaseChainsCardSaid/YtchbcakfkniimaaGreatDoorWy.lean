/-
  A part of a proof.
-/
import Derived.Test.YtchbcakfkniimaaGreatDoorWq
set_option linter.unusedSimpArgs false
set_option linter.unusedVariables false
set_option linter.unusedSectionVars false
set_option maxRecDepth 100000
set_option maxHeartbeats 16000000
namespace Go.Abs
abbrev code0(F:Nat):V:= .agg [.p (.int .i64 F), .p (.sl [])]
theorem zz: ¬ (((0:Int))<((0:Nat):Int)):=by decide
theorem zm:IntKind.i64.wrap (2*((0:Nat):Int))=((0:Nat):Int):=by decide
theorem zr:(0:Nat)≤140737488355328:=by decide
theorem zr8:(0:Nat)*8≤140737488355328:=by decide
section
variable {F:Nat}
theorem check0(hF:F≤40):checkR (F:Int) []=0:=by
 unfold checkR;rw[if_neg (by simp[cnt]),if_neg (by omega),if_pos rfl]
theorem read0(hF:F≤40):PEv S 31 [code0 F] (rtup (dgE F) (.int .i64 0)):=by
 have pr:=read_p F [] (Nat.zero_le _);rw[readR_good (check0 hF),if_pos rfl] at pr;exact pr
theorem below0:PEv S 78 [.one (.p (dgE F))] (.one (.own 4 1 [])):=by
 refine pev1 c78 ?_;simp only[go_sem,i78];refine R_unroll ?_;simp only[go_sem,i78_l1,i78_r2,zz];rfl
theorem faces0(hF:F≤40):PEv S 63 [code0 F] (.tup [.one (grownR faTy 5 []), .one (.p (.int .i64 0))]):=by
 have pr:=read0 hF;have hLB: ∀ blk:Blk,land blk [] 4032384064 ((RV.one (.own 4 1 [])).pureIf (S.lone 4032384064))=some (.one (.hsl 4032384064 ((blk 4032384064).1+1) 1 0 0),[(4032384064,((blk 4032384064).1+1,some (.arr 4 1 [])))]):=by
  intro blk;rw[show S.lone 4032384064=false by kernel_rfl];rfl
 refine pev1 c63 ?_;simp only[go_sem,i63,s31,gP_land pr land_tup,s78,gP_land below0 (hLB _),zm,zr];refine R_unroll ?_;simp only[go_sem,i63_l1,i63_r2,zz];rfl
theorem open0(hF:F≤40):PEv S 49 [code0 F] (rtup (brdV F []) (.int .i64 0)):=by
 have pf:=faces0 hF;have pps:PEv S 64 [code0 F] (ri ((0:Nat):Int)):=passes_p F [] (Nat.zero_le _);have pcs:PEv S 65 [code0 F] (ri ((0:Nat):Int)):=crossings_p F [] (Nat.zero_le _);have lo:S.lone 3136064064=false:=by kernel_rfl
 have wF:=wrap_succ (n:=F) (by omega);have r2:(F+1)*8≤140737488355328:=by omega
 have e2:List.replicate (F+1) [PV.int .i64 0]=nP (counts [] F):=by rw[← countsK_all,List.length_nil,countsK_zero];simp
 refine pev1 c49 ?_;simp only[go_sem,i49,s63];refine gP_g1p pf lo fun cf blk0 hcf hb0=> ?_
 have b00:=hb0 3136000000 (by decide);simp only[go_sem] at b00;obtain⟨_,hv⟩|⟨h,_⟩:=hcf
 ·cases hv
  simp only[go_sem,b00,wF,r2,zm,zr,s64,s65,dP_int pps,dP_int pcs,e2];refine⟨okd,?_⟩;refine R_unroll ?_;simp only[go_sem,i49_l1,i49_r6,zz];refine R_unroll ?_;simp only[go_sem,i49_l4,i49_r5,zz];have t2:List.take (F+1) (nP (counts [] F))=nP (counts [] F):=List.take_of_length_le (by simp[counts]);have n2:F+1≤(counts [] F).length:=by simp[counts]
  simp only[go_sem,outV,flatV,flatVs,flatV1,outCs,outC,t2,n2];rfl
 ·exact absurd rfl h
end
section
variable {F:Nat}
theorem wz1:IntKind.i64.wrap (1:Int)=1:=by decide
theorem wz2:IntKind.i64.wrap (2:Int)=2:=by decide
abbrev brd0(F:Nat):V:= .one (.p (.box [.int .i64 F, .sl [], .sl [], .sl [], .int .i64 ((0:Nat):Int), .int .i64 ((0:Nat):Int), .sl (nP (counts [] F))]))
theorem arg0_p{b:Nat}(hb:b≤F):PEv S 66 [brd0 F,mvV 2 0 b 0 false false 0] (rb true):=by
 have hil:PEv S 80 [vi 0, .one (.p (.box [.int .i64 ((0:Nat):Int)]))] (rb false):=is_p 0 0;have hca:=nP_at (counts_at (ls:=[]) hb);have h1:(0:Int)≤(b:Int):=by omega
 have h2:(b:Int)≤(F:Int):=by omega
 have h4:(0:Int)≤(cg [] b:Int):=by omega
 have h5:b<F+1:=by omega
 have h6:(counts [] F).length=F+1:=by simp[counts]
 have h7:(((0:Nat):Int)==0)=true:=by decide
 refine pev1 c66 ?_;simp only[go_sem,i66,s80,dP_bool hil,hca,h1,h2,h4,h7];exact okd
abbrev circP(b:Nat):List Pc:=[⟨⟨1,b,1,0,0,false⟩,true⟩,⟨⟨1,b,2,0,0,false⟩,false⟩]
theorem axisMake0{b:Nat}{l o:Bool}{sg:Int}:PEv S 82 [brd0 F,mvV 2 0 b 0 l o sg] (kR (some (circP b))):=by
 have h7:(((0:Nat):Int)==0)=true:=by decide
 refine pev1 c82 ?_;simp only[go_sem,i82,h7,wz1,wz2];rfl
end
theorem do2_z{F:Nat}{ls:List Let}(hlen:ls.length≤400)(hcr:cnt Let.isC ls≤200){a b c:Int}{l o:Bool}{sg:Int}{res:Option (List Pc)}(ha:PEv S 66 [.one (.p (brdV F ls)),mvV 2 a b c l o sg] (rb true))(hm:PEv S 82 [.one (.p (brdV F ls)),mvV 2 a b c l o sg] (kR res))(hL: ∀ L,res=some L→L.length≤1000000):
  PEv S 50 [.one (.p (brdV F ls)),mvV 2 a b c l o sg] (doR F ls 2 res):=by
 have hfin:=finished_p F;have pg:=grows_p 2;have lo1:S.lone 3200192384=false:=by kernel_rfl
 have lo2:S.lone 3200576128=false:=by kernel_rfl
 have hlk: ∀ (blk:Blk),land blk [] 3200192000 ((RV.agg [.p .nilf, .p (.fn 81 [] []), .p (.fn 82 [] []), .p (.fn 83 [] []), .p (.fn 84 [] []), .p (.fn 85 [] []), .p (.fn 86 [] []), .p (.fn 87 [] []), .p (.fn 88 [] []), .p (.fn 89 [] []), .p (.fn 89 [] [])]).pureIf (S.lone 3200192000))=some (.agg [.p .nilf, .p (.fn 81 [] []), .p (.fn 82 [] []), .p (.fn 83 [] []), .p (.fn 84 [] []), .p (.fn 85 [] []), .p (.fn 86 [] []), .p (.fn 87 [] []), .p (.fn 88 [] []), .p (.fn 89 [] []), .p (.fn 89 [] [])],[]):=fun blk=>by cases S.lone 3200192000<;>rfl
 have hpl:=pieces_len ls;have w1:IntKind.i64.wrap (((pieces ls).length:Int)+(growsR 2).1)=(ls.length:Int)+(growsR 2).1:=by rw[hpl];exact wrapI (by simp only[growsR];simp;omega) (by simp only[growsR];simp;omega)
 have w2:IntKind.i64.wrap (((cnt Let.isC ls/2:Nat):Int)+(growsR 2).2)=((cnt Let.isC ls/2:Nat):Int)+(growsR 2).2:=wrapI (by simp only[growsR];simp;omega) (by simp only[growsR];simp;omega);have lg: ∀ blk:Blk,land blk [] 3200384128 ((RV.tup [.one (.p (.int .i64 (growsR 2).1)), .one (.p (.int .i64 (growsR 2).2))]).pureIf (S.lone 3200384128))=some (.tup [.one (.p (.int .i64 (growsR 2).1)), .one (.p (.int .i64 (growsR 2).2))],[]):=fun blk=>land_tup
 unfold kR at hm;refine pev1 c50 ?_;simp only[go_sem,i50,s66,gP_bool ha,s67,dP_land kinds_p (hlk _),s82];refine dP_g1p hm lo1 fun cc blk1 w gc hb hw=> ?_
 have b0:=hb 3200000000 (by decide);have b1:=hb 3200000064 (by decide);simp only[go_sem] at b0 b1;cases res with
 |none=>
  simp only[go_sem,b1];refine⟨?_,rfl⟩;rcases hw with rfl|rfl<;>kernel_rfl
 |some L=>
  simp only[Option.getD_some] at gc;have pfin:=hfin L (hL L rfl) (.sl (pcP (pieces ls))) (.sl (fcP (facesL F ls))) (.sl (nP (leftL F ls))) (.int .i64 (cnt Let.isP ls:Nat)) (.int .i64 ((cnt Let.isC ls/2:Nat):Int)) (.sl (nP (counts ls F)));obtain⟨rs,hsn,_⟩:=gc.snapN;by_cases h1:(400:Int)<(ls.length:Int)+(growsR 2).1
  ·rw[show doR F ls 2 (some L)=rcode 7 from if_pos (.inl h1)];simp only[go_sem,b0,b1,s68,gP_land pg (lg _),w1,h1];refine⟨?_,rfl⟩;rcases hw with rfl|rfl<;>kernel_rfl
  ·by_cases h2:(100:Int)<((cnt Let.isC ls/2:Nat):Int)+(growsR 2).2
   ·rw[show doR F ls 2 (some L)=rcode 7 from if_pos (.inr h2)];simp only[go_sem,b0,b1,s68,gP_land pg (lg _),w1,w2,h1,h2];refine⟨?_,rfl⟩;rcases hw with rfl|rfl<;>kernel_rfl
   ·rw[show doR F ls 2 (some L)=rokc F (finL L) from if_neg (by rintro (h|h);exact h1 h;exact h2 h)];simp only[go_sem,b0,s68,gP_land pg (lg _),w1,w2,h1,h2,hsn,s69];refine⟨?_,?_⟩
    ·rcases hw with rfl|rfl<;>kernel_rfl
    refine gP_gA pfin lo2 rfl (sc_let _) fun c2 blk2 gc2 hb2=> ?_
    have b02:=(hb2 3200000064 (by decide)).trans b1;simp only[go_sem,b02];exact grown_outT (gc2.of_eq (upd_ne (by decide)))
abbrev circ(b:Nat):List Let:=[⟨1,b,1,0,0,false⟩,⟨1,b,2,0,0,false⟩]
theorem circ_fin(b:Nat):finL (circP b)=circ b:=by
 unfold finL;rw[show firstD (circP b)=some 0 from rfl];rfl
theorem doR0(F b:Nat):doR F [] 2 (some (circP b))=rokc F (circ b):=by
 rw[← circ_fin];rfl
theorem do0_p{F b:Nat}(hb:b≤F):PEv S 50 [brd0 F,mvV 2 0 b 0 false false 0] (rokc F (circ b)):=by
 have:=do2_z (F:=F) (ls:=[]) (by decide) (by decide) (a:=0) (b:=b) (c:=0) (l:=false) (o:=false) (sg:=0) (res:=some (circP b)) (arg0_p hb) axisMake0 (fun L h=>by cases h;exact(by simp:(circP b).length≤1000000));rw[doR0] at this;exact this
theorem apply0_p{F b:Nat}(hF:F≤40)(hb:b≤F):PEv S 32 [code0 F,mvV 2 0 b 0 false false 0] (rokc F (circ b)):=by
 have po:PEv S 49 [code0 F] (rtup (.box [.int .i64 F, .sl [], .sl [], .sl [], .int .i64 ((0:Nat):Int), .int .i64 ((0:Nat):Int), .sl (nP (counts [] F))]) (.int .i64 0)):=open0 hF;have hd:=do0_p hb;have lo:S.lone 2048256128=false:=by kernel_rfl
 refine pev1 c32 ?_;simp only[go_sem,i32,s49,gP_land po land_tup,s50];refine gP_gT hd lo fun cc blk1 gc hb=> ?_
 have b4:=hb 2048000128 (by decide);simp only[go_sem] at b4;simp only[go_sem,b4];exact grown_outT (gc.of_eq (upd_ne (by decide)))
end Go.Abs
