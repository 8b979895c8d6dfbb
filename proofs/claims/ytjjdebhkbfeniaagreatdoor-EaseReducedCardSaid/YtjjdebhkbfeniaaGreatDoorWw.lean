/-
  A part of a proof.
-/
import Derived.Test.YtjjdebhkbfeniaaGreatDoorWv
set_option linter.unusedSimpArgs false
set_option linter.unusedVariables false
set_option linter.unusedSectionVars false
set_option maxRecDepth 100000
set_option maxHeartbeats 16000000
namespace Go.Abs
theorem int_beq(a b:Nat):(a==b)=((a:Int)==(b:Int)):=by
 by_cases h:a=b
 ·simp[h]
 ·have:(a==b)=false:=by simpa using h
  rw[this];symm;simp;omega
def pcR(F:Nat)(ls:List Let)(av bv:Nat):Option (List Pc):=
 if ((boR ls av true&&boR ls bv false)||(boR ls av false&&boR ls bv true))&&(!((pA ls av).l.id==(pA ls (nx ls av)).l.id)&&
  (((((pA ls bv).l.id==(pA ls av).l.id)&&((pA ls (nx ls bv)).l.id==(pA ls (nx ls av)).l.id))||(((pA ls bv).l.id==(pA ls (nx ls av)).l.id)&&((pA ls (nx ls bv)).l.id==(pA ls av).l.id)))&&
  (!((av+2)%ls.length==bv)&&(!((bv+2)%ls.length==av)&&cornR F ls 0 [av,bv] av))))
 then some (dropL (pieces ls) [(pA ls av).l.id,(pA ls (nx ls av)).l.id]) else none
theorem pairCut_p{F:Nat}{ls:List Let}(g:Fine F ls){av bv:Nat}(ha:av<ls.length)(hb:bv<ls.length){k c:Int}{l o:Bool}{sg:Int}:
  PEv S 107 [.one (.p (brdV F ls)),mvV k av bv c l o sg] (kR (pcR F ls av bv)):=by
 have hlen:=g.len;have hpl:=pieces_len ls;have pe1:=ends_p g ha;have pe2:=ends_p g hb;have hm1:=Nat.mod_lt (av+1) (show 0<ls.length by omega);have hm2:=Nat.mod_lt (bv+1) (show 0<ls.length by omega);have pc:=corner_p g [av,bv] (by simp) (e0:=av) rfl ha 0;simp only[List.map_cons,List.map_nil] at pc;have c0:((0:Nat):Int)=0:=rfl;rw[c0] at pc;have b1:=both_p g ha true;have b2:=both_p g hb false;have b3:=both_p g ha false;have b4:=both_p g hb true;obtain⟨P,hP⟩:=at_lt (ls:=pieces ls) (k:=av) (by omega);obtain⟨P2,hP2⟩:=at_lt (ls:=pieces ls) (k:=(av+1)%ls.length) (by omega)
 obtain⟨Q,hQ⟩:=at_lt (ls:=pieces ls) (k:=bv) (by omega);obtain⟨Q2,hQ2⟩:=at_lt (ls:=pieces ls) (k:=(bv+1)%ls.length) (by omega);have hap:=pcP_at hP;have hap2:=pcP_at hP2;have hbp:=pcP_at hQ;have hbp2:=pcP_at hQ2;have hz: ¬ ((ls.length:Int)=0):=by omega
 have e2w:IntKind.i64.wrap ((av:Int)+2)=((av+2:Nat):Int):=(wrapI (x:=(av:Int)+2) (by omega) (by omega)).trans (by omega);have e2m:=tmod_nat (av+2) ls.length;have e3w:IntKind.i64.wrap ((bv:Int)+2)=((bv+2:Nat):Int):=(wrapI (x:=(bv:Int)+2) (by omega) (by omega)).trans (by omega);have e3m:=tmod_nat (bv+2) ls.length;have lo:S.lone 6848704448=false:=by kernel_rfl
 have pd:=dropped_p (pieces ls) [P.l.id,P2.l.id] (by omega) (by simp) (id_bound g);simp only[List.map_cons,List.map_nil] at pd;have x3:boR ls av true=true→boR ls av false=false:=fun x1=>by
  unfold boR at x1 ⊢;rw[pA_of hP] at x1 ⊢;simp only[Bool.and_eq_true] at x1;have:P.l.over=true:=by simpa using x1.2.2.1
  simp[this]
 unfold pcR;rw[pA_of hP,pA_of hQ,pA_of hP2,pA_of hQ2,int_beq,int_beq];have wz:=And.intro hap (And.intro hbp (And.intro hap2 (And.intro hbp2 (And.intro ha (And.intro hb (And.intro hm1 (And.intro hm2 (And.intro hpl (And.intro e2w (And.intro e2m (And.intro hz (And.intro e3w e3m))))))))))));refine pev1 c107 ?_;simp only[go_sem,i107,s137,gP_bool b1,wz];refine gW_env [0,3,4,5,6,7,22] fun e1 h1=> ?_
 have f1_0:=h1 0 (by decide);have f1_3:=h1 3 (by decide);have f1_4:=h1 4 (by decide);have f1_5:=h1 5 (by decide);have f1_6:=h1 6 (by decide);have f1_7:=h1 7 (by decide);have f1_22:=h1 22 (by decide);simp only[go_sem] at f1_0 f1_3 f1_4 f1_5 f1_6 f1_7 f1_22;cases x1:boR ls av true with
 |true=>
  simp only[go_sem,s137,gP_bool b2,f1_0,f1_3,f1_22,x1];refine gW_env [0,3,4,5,6,7,28] fun e2 h2=> ?_
  have f2_0:=h2 0 (by decide);have f2_3:=h2 3 (by decide);have f2_4:=h2 4 (by decide);have f2_5:=h2 5 (by decide);have f2_6:=h2 6 (by decide);have f2_7:=h2 7 (by decide);have f2_28:=h2 28 (by decide);simp only[go_sem,f1_0,f1_3,f1_4,f1_5,f1_6,f1_7] at f2_0 f2_3 f2_4 f2_5 f2_6 f2_7 f2_28;cases x2:boR ls bv false with
  |false=>
   have x3':=x3 x1;simp only[go_sem,s137,gP_bool b3,f2_0,f2_3,f2_4,f2_5,f2_28,x2,x3'];first|rfl|exact okd|exact⟨okd,rfl⟩|exact⟨okd,okd,rfl⟩
  |true=>
  simp only[go_sem,s126,gP_land pe1 land_tup,gP_land pe2 land_tup,wz,Pc.ps,f2_0,f2_3,f2_7,f2_28,x2];refine⟨okd,?_⟩;refine gW_env [0,3,4,5,6,9,10,11,12,76] fun e3 h3=> ?_
  have f3_0:=h3 0 (by decide);have f3_3:=h3 3 (by decide);have f3_4:=h3 4 (by decide);have f3_5:=h3 5 (by decide);have f3_6:=h3 6 (by decide);have f3_9:=h3 9 (by decide);have f3_10:=h3 10 (by decide);have f3_11:=h3 11 (by decide);have f3_12:=h3 12 (by decide);have f3_76:=h3 76 (by decide);simp only[go_sem,f2_0,f2_3,f2_4,f2_5,f2_6] at f3_0 f3_3 f3_4 f3_5 f3_6 f3_9 f3_10 f3_11 f3_12 f3_76;cases c1:(P.l.id==P2.l.id) with
  |true=>
   simp only[go_sem,f3_4,f3_5,f3_76,c1];first|rfl|exact okd|exact⟨okd,rfl⟩|exact⟨okd,okd,rfl⟩
  |false=>
  simp only[go_sem,wz,Pc.ps,f3_0,f3_9,f3_11,f3_76,c1];refine gW_env [0,3,4,5,6,9,10,11,12,76,88] fun e4 h4=> ?_
  have f4_0:=h4 0 (by decide);have f4_3:=h4 3 (by decide);have f4_4:=h4 4 (by decide);have f4_5:=h4 5 (by decide);have f4_6:=h4 6 (by decide);have f4_9:=h4 9 (by decide);have f4_10:=h4 10 (by decide);have f4_11:=h4 11 (by decide);have f4_12:=h4 12 (by decide);have f4_76:=h4 76 (by decide);have f4_88:=h4 88 (by decide);simp only[go_sem,f3_0,f3_3,f3_4,f3_5,f3_6,f3_9,f3_10,f3_11,f3_12,f3_76,c1] at f4_0 f4_3 f4_4 f4_5 f4_6 f4_9 f4_10 f4_11 f4_12 f4_76 f4_88;cases c2:(Q.l.id==P.l.id) with
  |true=>
   have c4:(Q.l.id==P2.l.id)=false:=by
    have h1:Q.l.id=P.l.id:=by simpa using c2
    rw[h1];exact c1
   simp only[go_sem,wz,Pc.ps,f4_0,f4_10,f4_12,f4_76,f4_88,c2];refine gW_env [0,3,4,5,6,9,10,11,12,76,101] fun e5 h5=> ?_
   have f5_0:=h5 0 (by decide);have f5_3:=h5 3 (by decide);have f5_4:=h5 4 (by decide);have f5_5:=h5 5 (by decide);have f5_6:=h5 6 (by decide);have f5_9:=h5 9 (by decide);have f5_10:=h5 10 (by decide);have f5_11:=h5 11 (by decide);have f5_12:=h5 12 (by decide);have f5_76:=h5 76 (by decide);have f5_101:=h5 101 (by decide);simp only[go_sem,f4_0,f4_3,f4_4,f4_5,f4_6,f4_9,f4_10,f4_11,f4_12,f4_76] at f5_0 f5_3 f5_4 f5_5 f5_6 f5_9 f5_10 f5_11 f5_12 f5_76 f5_101;cases c3:(Q2.l.id==P2.l.id) with
   |false=>
    simp only[go_sem,wz,Pc.ps,f5_0,f5_4,f5_5,f5_9,f5_12,f5_76,f5_101,c3,c4];first|rfl|exact okd|exact⟨okd,rfl⟩|exact⟨okd,okd,rfl⟩
   |true=>
   simp only[go_sem,wz,f5_3,f5_6,f5_76,f5_101,c3];refine dW_env [0,3,4,5,6,11,12,137] fun e6 h6=> ?_
   have f6_0:=h6 0 (by decide);have f6_3:=h6 3 (by decide);have f6_4:=h6 4 (by decide);have f6_5:=h6 5 (by decide);have f6_6:=h6 6 (by decide);have f6_11:=h6 11 (by decide);have f6_12:=h6 12 (by decide);have f6_137:=h6 137 (by decide);simp only[go_sem,f5_0,f5_3,f5_4,f5_5,f5_6,f5_11,f5_12] at f6_0 f6_3 f6_4 f6_5 f6_6 f6_11 f6_12 f6_137;cases d1:((((av+2)%ls.length:Nat):Int)==(bv:Int)) with
   |true=>
    simp only[go_sem,f6_4,f6_5,f6_137,d1];first|rfl|exact okd|exact⟨okd,rfl⟩|exact⟨okd,okd,rfl⟩
   |false=>
   simp only[go_sem,wz,f6_3,f6_6,f6_137,d1];refine dW_env [0,3,4,5,11,12,147] fun e7 h7=> ?_
   have f7_0:=h7 0 (by decide);have f7_3:=h7 3 (by decide);have f7_4:=h7 4 (by decide);have f7_5:=h7 5 (by decide);have f7_11:=h7 11 (by decide);have f7_12:=h7 12 (by decide);have f7_147:=h7 147 (by decide);simp only[go_sem,f6_0,f6_3,f6_4,f6_5,f6_11,f6_12] at f7_0 f7_3 f7_4 f7_5 f7_11 f7_12 f7_147;cases d2:((((bv+2)%ls.length:Nat):Int)==(av:Int)) with
   |true=>
    simp only[go_sem,f7_4,f7_5,f7_147,d2];first|rfl|exact okd|exact⟨okd,rfl⟩|exact⟨okd,okd,rfl⟩
   |false=>
   cases d3:cornR F ls 0 [av,bv] av with
   |false=>
    rw[d3] at pc;simp only[go_sem,s134,dP_bool pc,f7_0,f7_3,f7_4,f7_5,f7_147,d2];first|rfl|exact okd|exact⟨okd,rfl⟩|exact⟨okd,okd,rfl⟩
   |true=>
    rw[d3] at pc;simp only[go_sem,s134,dP_bool pc,s135,f7_0,f7_3,f7_11,f7_12,f7_147,d2];refine⟨okd,?_⟩;refine gP_g1 pd lo (.inr (alone_grown (sc_pc _))) fun cc blk1 gc hbk=> ?_
    simp only[go_sem];exact grown_out1 gc
  |false=>
   simp only[go_sem,wz,Pc.ps,f4_0,f4_9,f4_12,f4_76,f4_88,c2];refine gW_env [0,3,4,5,6,10,11,12,76,101,113] fun e8 h8=> ?_
   have f8_0:=h8 0 (by decide);have f8_3:=h8 3 (by decide);have f8_4:=h8 4 (by decide);have f8_5:=h8 5 (by decide);have f8_6:=h8 6 (by decide);have f8_10:=h8 10 (by decide);have f8_11:=h8 11 (by decide);have f8_12:=h8 12 (by decide);have f8_76:=h8 76 (by decide);have f8_101:=h8 101 (by decide);have f8_113:=h8 113 (by decide);simp only[go_sem,f4_0,f4_3,f4_4,f4_5,f4_6,f4_10,f4_11,f4_12,f4_76] at f8_0 f8_3 f8_4 f8_5 f8_6 f8_10 f8_11 f8_12 f8_76 f8_101 f8_113;cases c4:(Q.l.id==P2.l.id) with
   |false=>
    simp only[go_sem,f8_4,f8_5,f8_76,f8_101,f8_113,c4];first|rfl|exact okd|exact⟨okd,rfl⟩|exact⟨okd,okd,rfl⟩
   |true=>
   simp only[go_sem,wz,Pc.ps,f8_0,f8_10,f8_11,f8_76,f8_101,f8_113,c4];refine cW_env [0,3,4,5,6,11,12] fun e9 h9=> ?_
   have f9_0:=h9 0 (by decide);have f9_3:=h9 3 (by decide);have f9_4:=h9 4 (by decide);have f9_5:=h9 5 (by decide);have f9_6:=h9 6 (by decide);have f9_11:=h9 11 (by decide);have f9_12:=h9 12 (by decide);simp only[go_sem,f8_0,f8_3,f8_4,f8_5,f8_6,f8_11,f8_12] at f9_0 f9_3 f9_4 f9_5 f9_6 f9_11 f9_12;cases c5:(Q2.l.id==P.l.id) with
   |false=>
    simp only[go_sem,f9_4,f9_5];first|rfl|exact okd|exact⟨okd,rfl⟩|exact⟨okd,okd,rfl⟩
   |true=>
   simp only[go_sem,wz,f9_3,f9_6];refine dW_env [0,3,4,5,6,11,12,137] fun e10 h10=> ?_
   have f10_0:=h10 0 (by decide);have f10_3:=h10 3 (by decide);have f10_4:=h10 4 (by decide);have f10_5:=h10 5 (by decide);have f10_6:=h10 6 (by decide);have f10_11:=h10 11 (by decide);have f10_12:=h10 12 (by decide);have f10_137:=h10 137 (by decide);simp only[go_sem,f9_0,f9_3,f9_4,f9_5,f9_6,f9_11,f9_12] at f10_0 f10_3 f10_4 f10_5 f10_6 f10_11 f10_12 f10_137;cases d1:((((av+2)%ls.length:Nat):Int)==(bv:Int)) with
   |true=>
    simp only[go_sem,f10_4,f10_5,f10_137,d1];first|rfl|exact okd|exact⟨okd,rfl⟩|exact⟨okd,okd,rfl⟩
   |false=>
   simp only[go_sem,wz,f10_3,f10_6,f10_137,d1];refine dW_env [0,3,4,5,11,12,147] fun e11 h11=> ?_
   have f11_0:=h11 0 (by decide);have f11_3:=h11 3 (by decide);have f11_4:=h11 4 (by decide);have f11_5:=h11 5 (by decide);have f11_11:=h11 11 (by decide);have f11_12:=h11 12 (by decide);have f11_147:=h11 147 (by decide);simp only[go_sem,f10_0,f10_3,f10_4,f10_5,f10_11,f10_12] at f11_0 f11_3 f11_4 f11_5 f11_11 f11_12 f11_147;cases d2:((((bv+2)%ls.length:Nat):Int)==(av:Int)) with
   |true=>
    simp only[go_sem,f11_4,f11_5,f11_147,d2];first|rfl|exact okd|exact⟨okd,rfl⟩|exact⟨okd,okd,rfl⟩
   |false=>
   cases d3:cornR F ls 0 [av,bv] av with
   |false=>
    rw[d3] at pc;simp only[go_sem,s134,dP_bool pc,f11_0,f11_3,f11_4,f11_5,f11_147,d2];first|rfl|exact okd|exact⟨okd,rfl⟩|exact⟨okd,okd,rfl⟩
   |true=>
    rw[d3] at pc;simp only[go_sem,s134,dP_bool pc,s135,f11_0,f11_3,f11_11,f11_12,f11_147,d2];refine⟨okd,?_⟩;refine gP_g1 pd lo (.inr (alone_grown (sc_pc _))) fun cc blk1 gc hbk=> ?_
    simp only[go_sem];exact grown_out1 gc
 |false=>
  simp only[go_sem,s137,gP_bool b3,f1_0,f1_3,f1_22,x1];refine gW_env [0,3,4,5,6,7,28,33] fun e12 h12=> ?_
  have f12_0:=h12 0 (by decide);have f12_3:=h12 3 (by decide);have f12_4:=h12 4 (by decide);have f12_5:=h12 5 (by decide);have f12_6:=h12 6 (by decide);have f12_7:=h12 7 (by decide);have f12_28:=h12 28 (by decide);have f12_33:=h12 33 (by decide);simp only[go_sem,f1_0,f1_3,f1_4,f1_5,f1_6,f1_7] at f12_0 f12_3 f12_4 f12_5 f12_6 f12_7 f12_28 f12_33;cases x4:boR ls av false with
  |false=>
   simp only[go_sem,f12_4,f12_5,f12_28,f12_33,x4];first|rfl|exact okd|exact⟨okd,rfl⟩|exact⟨okd,okd,rfl⟩
  |true=>
  simp only[go_sem,s137,gP_bool b4,f12_0,f12_3,f12_28,f12_33,x4];cases x5:boR ls bv true with
  |false=>
   simp only[go_sem,f12_4,f12_5];first|rfl|exact okd|exact⟨okd,rfl⟩|exact⟨okd,okd,rfl⟩
  |true=>
  simp only[go_sem,s126,gP_land pe1 land_tup,gP_land pe2 land_tup,wz,Pc.ps,f12_0,f12_3,f12_7];refine⟨okd,?_⟩;refine gW_env [0,3,4,5,6,9,10,11,12,76] fun e13 h13=> ?_
  have f13_0:=h13 0 (by decide);have f13_3:=h13 3 (by decide);have f13_4:=h13 4 (by decide);have f13_5:=h13 5 (by decide);have f13_6:=h13 6 (by decide);have f13_9:=h13 9 (by decide);have f13_10:=h13 10 (by decide);have f13_11:=h13 11 (by decide);have f13_12:=h13 12 (by decide);have f13_76:=h13 76 (by decide);simp only[go_sem,f12_0,f12_3,f12_4,f12_5,f12_6] at f13_0 f13_3 f13_4 f13_5 f13_6 f13_9 f13_10 f13_11 f13_12 f13_76;cases c1:(P.l.id==P2.l.id) with
  |true=>
   simp only[go_sem,f13_4,f13_5,f13_76,c1];first|rfl|exact okd|exact⟨okd,rfl⟩|exact⟨okd,okd,rfl⟩
  |false=>
  simp only[go_sem,wz,Pc.ps,f13_0,f13_9,f13_11,f13_76,c1];refine gW_env [0,3,4,5,6,9,10,11,12,76,88] fun e14 h14=> ?_
  have f14_0:=h14 0 (by decide);have f14_3:=h14 3 (by decide);have f14_4:=h14 4 (by decide);have f14_5:=h14 5 (by decide);have f14_6:=h14 6 (by decide);have f14_9:=h14 9 (by decide);have f14_10:=h14 10 (by decide);have f14_11:=h14 11 (by decide);have f14_12:=h14 12 (by decide);have f14_76:=h14 76 (by decide);have f14_88:=h14 88 (by decide);simp only[go_sem,f13_0,f13_3,f13_4,f13_5,f13_6,f13_9,f13_10,f13_11,f13_12,f13_76,c1] at f14_0 f14_3 f14_4 f14_5 f14_6 f14_9 f14_10 f14_11 f14_12 f14_76 f14_88;cases c2:(Q.l.id==P.l.id) with
  |true=>
   have c4:(Q.l.id==P2.l.id)=false:=by
    have h1:Q.l.id=P.l.id:=by simpa using c2
    rw[h1];exact c1
   simp only[go_sem,wz,Pc.ps,f14_0,f14_10,f14_12,f14_76,f14_88,c2];refine gW_env [0,3,4,5,6,9,10,11,12,76,101] fun e15 h15=> ?_
   have f15_0:=h15 0 (by decide);have f15_3:=h15 3 (by decide);have f15_4:=h15 4 (by decide);have f15_5:=h15 5 (by decide);have f15_6:=h15 6 (by decide);have f15_9:=h15 9 (by decide);have f15_10:=h15 10 (by decide);have f15_11:=h15 11 (by decide);have f15_12:=h15 12 (by decide);have f15_76:=h15 76 (by decide);have f15_101:=h15 101 (by decide);simp only[go_sem,f14_0,f14_3,f14_4,f14_5,f14_6,f14_9,f14_10,f14_11,f14_12,f14_76] at f15_0 f15_3 f15_4 f15_5 f15_6 f15_9 f15_10 f15_11 f15_12 f15_76 f15_101;cases c3:(Q2.l.id==P2.l.id) with
   |false=>
    simp only[go_sem,wz,Pc.ps,f15_0,f15_4,f15_5,f15_9,f15_12,f15_76,f15_101,c3,c4];first|rfl|exact okd|exact⟨okd,rfl⟩|exact⟨okd,okd,rfl⟩
   |true=>
   simp only[go_sem,wz,f15_3,f15_6,f15_76,f15_101,c3];refine dW_env [0,3,4,5,6,11,12,137] fun e16 h16=> ?_
   have f16_0:=h16 0 (by decide);have f16_3:=h16 3 (by decide);have f16_4:=h16 4 (by decide);have f16_5:=h16 5 (by decide);have f16_6:=h16 6 (by decide);have f16_11:=h16 11 (by decide);have f16_12:=h16 12 (by decide);have f16_137:=h16 137 (by decide);simp only[go_sem,f15_0,f15_3,f15_4,f15_5,f15_6,f15_11,f15_12] at f16_0 f16_3 f16_4 f16_5 f16_6 f16_11 f16_12 f16_137;cases d1:((((av+2)%ls.length:Nat):Int)==(bv:Int)) with
   |true=>
    simp only[go_sem,f16_4,f16_5,f16_137,d1];first|rfl|exact okd|exact⟨okd,rfl⟩|exact⟨okd,okd,rfl⟩
   |false=>
   simp only[go_sem,wz,f16_3,f16_6,f16_137,d1];refine dW_env [0,3,4,5,11,12,147] fun e17 h17=> ?_
   have f17_0:=h17 0 (by decide);have f17_3:=h17 3 (by decide);have f17_4:=h17 4 (by decide);have f17_5:=h17 5 (by decide);have f17_11:=h17 11 (by decide);have f17_12:=h17 12 (by decide);have f17_147:=h17 147 (by decide);simp only[go_sem,f16_0,f16_3,f16_4,f16_5,f16_11,f16_12] at f17_0 f17_3 f17_4 f17_5 f17_11 f17_12 f17_147;cases d2:((((bv+2)%ls.length:Nat):Int)==(av:Int)) with
   |true=>
    simp only[go_sem,f17_4,f17_5,f17_147,d2];first|rfl|exact okd|exact⟨okd,rfl⟩|exact⟨okd,okd,rfl⟩
   |false=>
   cases d3:cornR F ls 0 [av,bv] av with
   |false=>
    rw[d3] at pc;simp only[go_sem,s134,dP_bool pc,f17_0,f17_3,f17_4,f17_5,f17_147,d2];first|rfl|exact okd|exact⟨okd,rfl⟩|exact⟨okd,okd,rfl⟩
   |true=>
    rw[d3] at pc;simp only[go_sem,s134,dP_bool pc,s135,f17_0,f17_3,f17_11,f17_12,f17_147,d2];refine⟨okd,?_⟩;refine gP_g1 pd lo (.inr (alone_grown (sc_pc _))) fun cc blk1 gc hbk=> ?_
    simp only[go_sem];exact grown_out1 gc
  |false=>
   simp only[go_sem,wz,Pc.ps,f14_0,f14_9,f14_12,f14_76,f14_88,c2];refine gW_env [0,3,4,5,6,10,11,12,76,101,113] fun e18 h18=> ?_
   have f18_0:=h18 0 (by decide);have f18_3:=h18 3 (by decide);have f18_4:=h18 4 (by decide);have f18_5:=h18 5 (by decide);have f18_6:=h18 6 (by decide);have f18_10:=h18 10 (by decide);have f18_11:=h18 11 (by decide);have f18_12:=h18 12 (by decide);have f18_76:=h18 76 (by decide);have f18_101:=h18 101 (by decide);have f18_113:=h18 113 (by decide);simp only[go_sem,f14_0,f14_3,f14_4,f14_5,f14_6,f14_10,f14_11,f14_12,f14_76] at f18_0 f18_3 f18_4 f18_5 f18_6 f18_10 f18_11 f18_12 f18_76 f18_101 f18_113;cases c4:(Q.l.id==P2.l.id) with
   |false=>
    simp only[go_sem,f18_4,f18_5,f18_76,f18_101,f18_113,c4];first|rfl|exact okd|exact⟨okd,rfl⟩|exact⟨okd,okd,rfl⟩
   |true=>
   simp only[go_sem,wz,Pc.ps,f18_0,f18_10,f18_11,f18_76,f18_101,f18_113,c4];refine cW_env [0,3,4,5,6,11,12] fun e19 h19=> ?_
   have f19_0:=h19 0 (by decide);have f19_3:=h19 3 (by decide);have f19_4:=h19 4 (by decide);have f19_5:=h19 5 (by decide);have f19_6:=h19 6 (by decide);have f19_11:=h19 11 (by decide);have f19_12:=h19 12 (by decide);simp only[go_sem,f18_0,f18_3,f18_4,f18_5,f18_6,f18_11,f18_12] at f19_0 f19_3 f19_4 f19_5 f19_6 f19_11 f19_12;cases c5:(Q2.l.id==P.l.id) with
   |false=>
    simp only[go_sem,f19_4,f19_5];first|rfl|exact okd|exact⟨okd,rfl⟩|exact⟨okd,okd,rfl⟩
   |true=>
   simp only[go_sem,wz,f19_3,f19_6];refine dW_env [0,3,4,5,6,11,12,137] fun e20 h20=> ?_
   have f20_0:=h20 0 (by decide);have f20_3:=h20 3 (by decide);have f20_4:=h20 4 (by decide);have f20_5:=h20 5 (by decide);have f20_6:=h20 6 (by decide);have f20_11:=h20 11 (by decide);have f20_12:=h20 12 (by decide);have f20_137:=h20 137 (by decide);simp only[go_sem,f19_0,f19_3,f19_4,f19_5,f19_6,f19_11,f19_12] at f20_0 f20_3 f20_4 f20_5 f20_6 f20_11 f20_12 f20_137;cases d1:((((av+2)%ls.length:Nat):Int)==(bv:Int)) with
   |true=>
    simp only[go_sem,f20_4,f20_5,f20_137,d1];first|rfl|exact okd|exact⟨okd,rfl⟩|exact⟨okd,okd,rfl⟩
   |false=>
   simp only[go_sem,wz,f20_3,f20_6,f20_137,d1];refine dW_env [0,3,4,5,11,12,147] fun e21 h21=> ?_
   have f21_0:=h21 0 (by decide);have f21_3:=h21 3 (by decide);have f21_4:=h21 4 (by decide);have f21_5:=h21 5 (by decide);have f21_11:=h21 11 (by decide);have f21_12:=h21 12 (by decide);have f21_147:=h21 147 (by decide);simp only[go_sem,f20_0,f20_3,f20_4,f20_5,f20_11,f20_12] at f21_0 f21_3 f21_4 f21_5 f21_11 f21_12 f21_147;cases d2:((((bv+2)%ls.length:Nat):Int)==(av:Int)) with
   |true=>
    simp only[go_sem,f21_4,f21_5,f21_147,d2];first|rfl|exact okd|exact⟨okd,rfl⟩|exact⟨okd,okd,rfl⟩
   |false=>
   cases d3:cornR F ls 0 [av,bv] av with
   |false=>
    rw[d3] at pc;simp only[go_sem,s134,dP_bool pc,f21_0,f21_3,f21_4,f21_5,f21_147,d2];first|rfl|exact okd|exact⟨okd,rfl⟩|exact⟨okd,okd,rfl⟩
   |true=>
    rw[d3] at pc;simp only[go_sem,s134,dP_bool pc,s135,f21_0,f21_3,f21_11,f21_12,f21_147,d2];refine⟨okd,?_⟩;refine gP_g1 pd lo (.inr (alone_grown (sc_pc _))) fun cc blk1 gc hbk=> ?_
    simp only[go_sem];exact grown_out1 gc
end Go.Abs
