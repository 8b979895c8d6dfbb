/-
  The steps of the statement; the empty code.
-/
import Derived.Test.YtnbfnkckmfibpaaGreatDoorVm
import Derived.Test.YtnbfnkckmfibpaaGreatDoorVe
set_option linter.unusedSimpArgs false
set_option linter.unusedVariables false
set_option linter.unusedSectionVars false
set_option maxRecDepth 100000
set_option maxHeartbeats 16000000
namespace Go.Abs
theorem Sj{k:Int}(f1:(k==1)=false)(f2:(k==2)=false)(f3:(k==3)=false)(f4:(k==4)=false)(f5:(k==5)=false)(f6:(k==6)=false)(f7:(k==7)=false)(f8:(k==8)=false)(f9:(k==9)=false)(f10:(k==10)=false):aH S 89 [vi k] (uT ⟨#[]⟩):=by
 refine aG c89 ?_;simp only[go_sem,i89,f1,f2,f3,f4,f5,f6,f7,f8,f9,f10];try rfl
theorem ne0:mJ .eql ⟨#[]⟩ ⟨#[]⟩=some (.bool true):=by kernel_rfl
theorem Jn{F:Nat}{ls:List ae}{k a b c:Int}{l o:Bool}{sg:Int}(f1:(k==1)=false)(f2:(k==2)=false)(f3:(k==3)=false)(f4:(k==4)=false)(f5:(k==5)=false)(f6:(k==6)=false)(f7:(k==7)=false)(f8:(k==8)=false)(f9:(k==9)=false)(f10:(k==10)=false):aH S 54 [kZ F ls,dL k a b c l o sg] (rb true):=by
 have pu:=Sj f1 f2 f3 f4 f5 f6 f7 f8 f9 f10;refine aG c54 ?_;simp only[go_sem,i54,s89,eM pu,ne0];all_goals(first|done|exact au|exact⟨au,rfl⟩|rfl)
theorem qW(x:ae):leq x x=true:=by simp[leq]
theorem eq_self(x:ae):mC [true,true,true,true,true,false] [.p (.int .i64 x.kind), .p (.int .i64 x.gate), .p (.int .i64 x.Th), .p (.int .i64 x.id), .p (.int .i64 x.sign), .p (.bool x.over)] [.p (.int .i64 x.kind), .p (.int .i64 x.gate), .p (.int .i64 x.Th), .p (.int .i64 x.id), .p (.int .i64 x.sign), .p (.bool x.over)]=some true:=by rw[Fu,qW]
theorem Ft(f:Int)(ls:List ae)(hl:ls.length<=1000000):aH S 8 [aQ f ls,aQ f ls] (rb true):=by
 refine aG c8 ?_;simp only[go_sem,i8,bne];refine be (fun k env Tc=>env 2= .one (.Tn 512000000 1 0)/\env 3= .one (.Tn 512000064 1 0)/\env 5=vi k/\Tc 512000000=(1,some (.var (ie f ls)))/\Tc 512000064=(1,some (.var (ie f ls)))) 0 ls.length (aah _) ?_ ?_
 ·simp only[go_sem];first|done|rfl
 ·rintro k env Tc hk ⟨h2,h3,h5,b0,b1⟩
  by_cases Ti:k<ls.length
  ·have Tk:((k:Int)<(ls.length:Int)):=by omega
   have w1:=am (n:=k) (by omega);obtain⟨x,hx⟩:=ao Ti;have Vl:=cD hx;have es:=eq_self x;simp only[go_sem,i8_l1,h2,h3,h5,b0,b1,Ti,Tk,Vl,ae.ps,w1,es];first|done|exact au|exact⟨au,rfl⟩
  ·have:k=ls.length:=by omega
   subst this;simp only[go_sem,i8_l1,i8_r2,h2,h5,b0,aN];first|done|rfl
section
variable {f:Int} {ls:List ae} {k a b c:Int} {l o:Bool} {sg:Int}
theorem Su(hk:aH S 5 [] (rb true))(ps:aH S 4 [aQ f ls,vi 40] (rb false)):aH S 3 [aQ f ls,dL k a b c l o sg] (rb true):=by
 have hsk:S.Tf 5=false:=by kernel_rfl
 refine aG c3 ?_;simp only[go_sem,i3,s4,aa ps,hsk,aa hk];all_goals(first|done|exact au|exact⟨au,rfl⟩|rfl)
theorem KN(hk:aH S 5 [] (rb true))(ps:aH S 4 [aQ f ls,vi 40] (rb true)){e:Int}(he:(e==0)=false)(pa:aH S 6 [aQ f ls,dL k a b c l o sg] (kH e))(pd:aH S 7 [aQ f ls,dL k a b c l o sg] (ri e)):aH S 3 [aQ f ls,dL k a b c l o sg] (rb true):=by
 have hsk:S.Tf 5=false:=by kernel_rfl
 have ez:=Fs;refine aG c3 ?_;simp only[go_sem,i3,s4,aa ps,s6,ai pa yy,s7,aS pd,he,hsk,aa hk,s8,aa ez,bne];all_goals(first|done|exact au|exact⟨au,rfl⟩|rfl)
theorem PI{F:Nat}{L:List ae}(hL:L.length<=1000000)(hk:aH S 5 [] (rb true))(ps:aH S 4 [aQ F ls,vi 40] (rb true))(pa:aH S 6 [aQ F ls,dL k a b c l o sg] (qE F L))(pd:aH S 7 [aQ F ls,dL k a b c l o sg] (ri 0))(pr:aH S 9 [aQ F ls,dL k a b c l o sg] (.agg [.p (.int .i64 F),aq eH 6 (bn L)])):aH S 3 [aQ F ls,dL k a b c l o sg] (rb true):=by
 have hsk:S.Tf 5=false:=by kernel_rfl
 have pe:=Ft (F:Int) L hL;have l1:S.lone 192192128=false:=by kernel_rfl
 have l2:S.lone 192448192=false:=by kernel_rfl
 have z0:((0:Int)!=0)=false:=rfl;by_cases hn:L=[]
 ·subst hn;have pe:aH S 8 [.agg [.p (.int .i64 F), .p (.sl [])], .agg [.p (.int .i64 F), .p (.sl [])]] (rb true):=pe;have e0:bn ([]:List ae)=[]:=rfl;simp only[qE,e0,mu] at pa pr;refine aG c3 ?_;simp only[go_sem,i3,s4,aa ps,s6,bx pa l1 (.inl rfl),s7,aS pd,hsk,aw hk,s9,iJ pr l2 (.inl rfl),s8,aw pe,bne];all_goals(first|done|exact au|exact⟨au,rfl⟩|rfl)
 ·simp only[qE,bm (fX hn)] at pa pr;refine aG c3 ?_;simp only[go_sem,i3,s4,aa ps,s6,bx pa l1 (.inl rfl),s7,aS pd,hsk,aw hk,s9,iJ pr l2 (.inl rfl),cU,s8,aw pe,bne];all_goals(first|done|exact au|exact⟨au,rfl⟩|rfl)
end
theorem Na{f:Int}{ls:List ae}{n:Int}(hn:n<=1000000):aH S 4 [aQ f ls,vi n] (rb (decide ((ls.length:Int)<=n)&&(dZ f ls==0))):=by
 by_cases h:(ls.length:Int)<=n
 ·have pc:=OS f ls (by omega);have hd:decide ((ls.length:Int)<=n)=true:=decide_eq_true h;rw[hd];generalize dZ f ls=e at*;refine aG c4 ?_;simp only[go_sem,i4,h,s10,aS pc];all_goals(first|done|exact au|exact⟨au,rfl⟩|rfl)
 ·have hd:decide ((ls.length:Int)<=n)=false:=decide_eq_false h;rw[hd];refine aG c4 ?_;simp only[go_sem,i4,h];all_goals(first|done|exact au|exact⟨au,rfl⟩|rfl)
theorem Ss(F:Int):aH S 17 [aQ F []] (.agg [.p (.int .i64 F), .p (.sl []), .p (.int .i64 0), .p .nils]):=by
 refine aG c17 ?_;have hn: ¬ ((0:Int)<0):=by omega
 simp only[go_sem,i17,Int.ofNat_zero,hn];all_goals(first|done|exact au|exact⟨au,rfl⟩|rfl)
theorem QL(F:Int):aH S 19 [aQ F []] (.agg [.p .nils, .p .nils]):=jY F [] (by simp)
theorem NC{F:Nat}{a b c:Int}{l o:Bool}{sg:Int}:aH S 55 [kZ F [],dL 2 a b c l o sg] (rb true):=by
 refine aG c55 ?_;have hn:(((0:Nat):Int)==0)=true:=rfl;simp only[go_sem,i55,hn];all_goals(first|done|exact au|exact⟨au,rfl⟩|rfl)
theorem wY{F:Nat}{k a b c:Int}{l o:Bool}{sg v:Int}(h:aH S 18 [kZ F [],dL k a b c l o sg] (ri v)):aH S 7 [aQ F [],dL k a b c l o sg] (ri v):=by
 have pof:=Ss F;have l1:S.lone 448064064=false:=by kernel_rfl
 have h:aH S 18 [.agg [.p (.int .i64 F), .p (.sl []), .p (.int .i64 0), .p (.sl [])],dL k a b c l o sg] (ri v):=h;have pof:aH S 17 [.agg [.p (.int .i64 F), .p (.sl [])]] (.agg [.p (.int .i64 F), .p (.sl []), .p (.int .i64 0), .p .nils]):=pof;refine aG c7 ?_;simp only[go_sem,i7,s17,iJ pof l1 (.inl rfl),s18,bg h];all_goals(first|done|exact au|exact⟨au,rfl⟩|rfl)
def GW(L:List ae)(D:List Bool)(Tc:aB)(v:V)(Td:aB):Prop:= ∃ g1 g2,v= .agg [.hsl 1536256128 g1 6 0 L.length, .hsl 1536256192 g2 1 0 D.length]/\Td 1536256128=(g1,some (.arr eH 6 (bn L)))/\Td 1536256192=(g2,some (.arr 4 1 (bP D)))/\Kept (fun i=>bY i=24) Tc Td
theorem FP{F:Nat}{al:Al}{Tc:aB}(a:Int)(b c:Nat)(l o:Bool)(sg:Int)(o3: ∀ i,bY i=24->al.ok i=true)(hc:c<=1000):
  ∃ v Td,pz S 24 [.agg [.p (.int .i64 F), .p (.sl []), .p (.int .i64 0), .p .nils], .agg [.p .nils, .p .nils],dL 2 a b c l o sg] al Tc v Td/\GW [Ba b c 1,Ba b c 2] [true,false] Tc v Td:=by
 have hn:(((0:Int))==0)=true:=rfl;have w1:IntKind.i64.wrap ((c:Int)+1)=(c:Int)+1:=dd (by omega) (by omega);have w2:IntKind.i64.wrap ((c:Int)+2)=(c:Int)+2:=dd (by omega) (by omega);have k0:al.ok 1536000000=true:=o3 _ rfl;have k1:al.ok 1536000064=true:=o3 _ rfl;have k2:al.ok 1536000128=true:=o3 _ rfl;have k3:al.ok 1536000192=true:=o3 _ rfl;have k4:al.ok 1536064384=true:=o3 _ rfl;have k5:al.ok 1536128384=true:=o3 _ rfl;have k6:al.ok 1536256128=true:=o3 _ rfl;have k7:al.ok 1536256192=true:=o3 _ rfl;refine eY c24 (aaN rfl) ?_
 simp only[go_sem,i24,k0,k1,k2,k3,k4,k5,k6,k7,hn,w1,w2];refine⟨_,_,rfl,?_,?_,?_⟩
 ·simp only[go_sem];first|done|rfl
 ·simp only[go_sem];first|done|rfl
 ·intro i hi;have j0:i≠1536000000:=fun h=>hi (by rw[h];rfl)
  have j1:i≠1536000064:=fun h=>hi (by rw[h];rfl)
  have j2:i≠1536000128:=fun h=>hi (by rw[h];rfl)
  have j3:i≠1536000192:=fun h=>hi (by rw[h];rfl)
  have j4:i≠1536064384:=fun h=>hi (by rw[h];rfl)
  have j5:i≠1536128384:=fun h=>hi (by rw[h];rfl)
  have j6:i≠1536256128:=fun h=>hi (by rw[h];rfl)
  have j7:i≠1536256192:=fun h=>hi (by rw[h];rfl)
  simp only[go_sem,j0,j1,j2,j3,j4,j5,j6,j7]
theorem S2{F:Nat}(i:Int)(b c:Nat)(l o:Bool)(sg:Int)(hc:c<=1000):
  aH S 9 [aQ F [],dL 2 i b c l o sg] (uA F [Ba b c 1,Ba b c 2] [true,false]):=by
 have pof:aH S 17 [.agg [.p (.int .i64 F), .p (.sl [])]] (.agg [.p (.int .i64 F), .p (.sl []), .p (.int .i64 0), .p .nils]):=Ss F;have po:aH S 19 [.agg [.p (.int .i64 F), .p (.sl [])]] (.agg [.p .nils, .p .nils]):=QL F;have l1:S.lone 576064064=false:=by kernel_rfl
 have l2:S.lone 576128064=false:=by kernel_rfl
 have l4:S.lone 579136128=false:=by kernel_rfl
 refine aG c9 ?_;simp only[go_sem,i9,s17,bx pof l1 (.inl rfl),s19,bx po l2 (.inl rfl),s24];refine fg (P:=GW [Ba b c 1,Ba b c 2] [true,false] _) da (FP i b c l o sg (fun q hq=>eW (by rw[hq,zQ];decide)) hc) ?_;rintro v b1 ⟨g1,g2,rfl,h1,h2,hk⟩
 have q0:=hk 576000000 (by decide);have q1:=hk 576000128 (by decide);have q2:=hk 576128128 (by decide);simp only[go_sem] at q0 q1 q2;clear hk;have n1:([Ba b c 1,Ba b c 2]:List ae).length=2:=rfl;have n2:([true,false]:List Bool).length=2:=rfl;generalize ([Ba b c 1,Ba b c 2]:List ae)=L2 at*;generalize ([true,false]:List Bool)=D2 at*;have pcl:aH S 32 [.agg [.p (tY L2), .p (.sl (bP D2))], .agg [.p (.int .i64 F), .p (.sl [])]] (.agg [.p (.int .i64 F),aq eH 6 (bn (mP L2 D2))]):=fI (F:Int) [] L2 D2 (by omega) (n2.trans n1.symm);have TE:(mP L2 D2).length=L2.length:=ir _ _
 have UV:mP L2 D2≠[]:=fun e=>by rw[e] at TE;simp only[aav] at TE;omega
 simp only[uA];rw[bm (fX UV)] at pcl ⊢;simp only[go_sem,h1,h2,q0,q1,q2,cU,eR,i9_r3,s32,bx pcl l4 (.inr (eV _ _))];simp[en,et,cb,dg,eo,af,apart,eZ,cX,cU]
end Go.Abs
