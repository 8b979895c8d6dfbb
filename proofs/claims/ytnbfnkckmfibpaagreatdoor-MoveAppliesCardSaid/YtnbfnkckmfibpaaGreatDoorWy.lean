/-
  The code without letters.
-/
import Derived.Test.YtnbfnkckmfibpaaGreatDoorWq
set_option linter.unusedSimpArgs false
set_option linter.unusedVariables false
set_option linter.unusedSectionVars false
set_option maxRecDepth 100000
set_option maxHeartbeats 16000000
namespace Go.Abs
abbrev wP(F:Nat):V:= .agg [.p (.int .i64 F), .p (.sl [])]
theorem zz: ¬ (((0:Int))<((0:Nat):Int)):=by decide
theorem zm:IntKind.i64.wrap (2*((0:Nat):Int))=((0:Nat):Int):=by decide
theorem zr:(0:Nat)<=140737488355328:=by decide
theorem zr8:(0:Nat)*8<=140737488355328:=by decide
section
variable {F:Nat}
theorem Ro(hF:F<=40):dZ (F:Int) []=0:=by
 unfold dZ;rw[if_neg (by simp[aD]),if_neg (by omega),if_pos rfl]
theorem Sp(hF:F<=40):aH S 65 [wP F] (vc (dgE F) (.int .i64 0)):=by
 have pr:=Kk F [] (aah _);rw[md (Ro hF),if_pos rfl] at pr;exact pr
theorem Rv:aH S 71 [.one (.p (dgE F))] (.one (.own 4 1 [])):=by
 refine aG c71 ?_;simp only[go_sem,i71];refine dV ?_;simp only[go_sem,i71_l1,i71_r2,zz];rfl
theorem Rc(hF:F<=40):aH S 46 [wP F] (.tup [.one (aq lS 5 []), .one (.p (.int .i64 0))]):=by
 have pr:=Sp hF;have hLB: ∀ Tc:aB,land Tc [] 2944384064 ((RV.one (.own 4 1 [])).bK (S.lone 2944384064))=some (.one (.hsl 2944384064 ((Tc 2944384064).1+1) 1 0 0),[(2944384064,((Tc 2944384064).1+1,some (.arr 4 1 [])))]):=by
  intro Tc;rw[show S.lone 2944384064=false by kernel_rfl];rfl
 refine aG c46 ?_;simp only[go_sem,i46,s65,ai pr ak,s71,ai Rv (hLB _),zm,zr];refine dV ?_;simp only[go_sem,i46_l1,i46_r2,zz];rfl
theorem Pz(hF:F<=40):aH S 15 [wP F] (vc (ew F []) (.int .i64 0)):=by
 have pf:=Rc hF;have pps:aH S 47 [wP F] (ri ((0:Nat):Int)):=vr F [] (aah _);have pcs:aH S 48 [wP F] (ri ((0:Nat):Int)):=tK F [] (aah _);have lo:S.lone 960064064=false:=by kernel_rfl
 have wF:=am (n:=F) (by omega);have r2:(F+1)*8<=140737488355328:=by omega
 have e2:List.replicate (F+1) [PV.int .i64 0]=nP (counts [] F):=by rw[<- nR,aav,mF];simp
 refine aG c15 ?_;simp only[go_sem,i15,s46];refine Lw pf lo fun cf Ue Y6 UF=> ?_
 have b00:=UF 960000000 (by decide);simp only[go_sem] at b00;obtain⟨_,hv⟩|⟨h,_⟩:=Y6
 ·cases hv
  simp only[go_sem,b00,wF,r2,zm,zr,s47,s48,bg pps,bg pcs,e2];refine⟨au,?_⟩;refine dV ?_;simp only[go_sem,i15_l1,i15_r6,zz];refine dV ?_;simp only[go_sem,i15_l4,i15_r5,zz];have t2:List.take (F+1) (nP (counts [] F))=nP (counts [] F):=aau (by simp[counts]);have n2:F+1<=(counts [] F).length:=by simp[counts]
  simp only[go_sem,en,et,iF,cb,dg,eo,t2,n2];rfl
 ·exact absurd rfl h
end
section
variable {F:Nat}
theorem wz1:IntKind.i64.wrap (1:Int)=1:=by decide
theorem wz2:IntKind.i64.wrap (2:Int)=2:=by decide
abbrev Rs(F:Nat):V:= .one (.p (.box [.int .i64 F, .sl [], .sl [], .sl [], .int .i64 ((0:Nat):Int), .int .i64 ((0:Nat):Int), .sl (nP (counts [] F))]))
theorem RO{b:Nat}(hb:b<=F):aH S 49 [Rs F,dL 2 0 b 0 false false 0] (rb true):=by
 have Vj:aH S 74 [vi 0, .one (.p (.box [.int .i64 ((0:Nat):Int)]))] (rb false):=SA 0 0;have Wu:=cN (iZ (ls:=[]) hb);have h1:(0:Int)<=(b:Int):=by omega
 have h2:(b:Int)<=(F:Int):=by omega
 have h4:(0:Int)<=(cg [] b:Int):=by omega
 have h5:b<F+1:=by omega
 have h6:(counts [] F).length=F+1:=by simp[counts]
 have h7:(((0:Nat):Int)==0)=true:=by decide
 refine aG c49 ?_;simp only[go_sem,i49,s74,aw Vj,Wu,h1,h2,h4,h7];exact au
abbrev y8(b:Nat):List Pc:=[⟨⟨1,b,1,0,0,false⟩,true⟩,⟨⟨1,b,2,0,0,false⟩,false⟩]
theorem IX{b:Nat}{l o:Bool}{sg:Int}:aH S 76 [Rs F,dL 2 0 b 0 l o sg] (kR (some (y8 b))):=by
 have h7:(((0:Nat):Int)==0)=true:=by decide
 refine aG c76 ?_;simp only[go_sem,i76,h7,wz1,wz2];rfl
end
theorem SM{F:Nat}{ls:List ae}(hlen:ls.length<=400)(UD:aD ae.aJ ls<=200){a b c:Int}{l o:Bool}{sg:Int}{res:Option (List Pc)}(ha:aH S 49 [.one (.p (ew F ls)),dL 2 a b c l o sg] (rb true))(hm:aH S 76 [.one (.p (ew F ls)),dL 2 a b c l o sg] (kR res))(hL: ∀ L,res=some L->L.length<=1000000):
  aH S 16 [.one (.p (ew F ls)),dL 2 a b c l o sg] (IJ F ls 2 res):=by
 have U1:=wg F;have pg:=GF 2;have lo1:S.lone 1024192384=false:=by kernel_rfl
 have lo2:S.lone 1024576128=false:=by kernel_rfl
 have hlk: ∀ (Tc:aB),land Tc [] 1024192000 ((RV.agg [.p .TR, .p (.fn 75 [] []), .p (.fn 76 [] []), .p (.fn 77 [] []), .p (.fn 78 [] []), .p (.fn 79 [] []), .p (.fn 80 [] []), .p (.fn 81 [] []), .p (.fn 82 [] []), .p (.fn 83 [] []), .p (.fn 83 [] [])]).bK (S.lone 1024192000))=some (.agg [.p .TR, .p (.fn 75 [] []), .p (.fn 76 [] []), .p (.fn 77 [] []), .p (.fn 78 [] []), .p (.fn 79 [] []), .p (.fn 80 [] []), .p (.fn 81 [] []), .p (.fn 82 [] []), .p (.fn 83 [] []), .p (.fn 83 [] [])],[]):=fun Tc=>by cases S.lone 1024192000<;>rfl
 have TD:=aF ls;have w1:IntKind.i64.wrap (((pieces ls).length:Int)+(cE 2).1)=(ls.length:Int)+(cE 2).1:=by rw[TD];exact dd (by simp only[cE];simp;omega) (by simp only[cE];simp;omega)
 have w2:IntKind.i64.wrap (((aD ae.aJ ls/2:Nat):Int)+(cE 2).2)=((aD ae.aJ ls/2:Nat):Int)+(cE 2).2:=dd (by simp only[cE];simp;omega) (by simp only[cE];simp;omega);have lg: ∀ Tc:aB,land Tc [] 1024384128 ((RV.tup [.one (.p (.int .i64 (cE 2).1)), .one (.p (.int .i64 (cE 2).2))]).bK (S.lone 1024384128))=some (.tup [.one (.p (.int .i64 (cE 2).1)), .one (.p (.int .i64 (cE 2).2))],[]):=fun Tc=>ak
 unfold kR at hm;refine aG c16 ?_;simp only[go_sem,i16,s49,aa ha,s50,aY Gz (hlk _),s76];refine LX hm lo1 fun cc Tq w gc hb hw=> ?_
 have b0:=hb 1024000000 (by decide);have b1:=hb 1024000064 (by decide);simp only[go_sem] at b0 b1;cases res with
 |none=>
  simp only[go_sem,b1];refine⟨?_,rfl⟩;rcases hw with rfl|rfl<;>kernel_rfl
 |some L=>
  simp only[aaS] at gc;have pfin:=U1 L (hL L rfl) (.sl (dz (pieces ls))) (.sl (lZ (ay F ls))) (.sl (nP (dr F ls))) (.int .i64 (aD ae.bq ls:Nat)) (.int .i64 ((aD ae.aJ ls/2:Nat):Int)) (.sl (nP (counts ls F)));obtain⟨rs,UV,_⟩:=gc.bN;by_cases h1:(400:Int)<(ls.length:Int)+(cE 2).1
  ·rw[show IJ F ls 2 (some L)=kH 7 from if_pos (.inl h1)];simp only[go_sem,b0,b1,s51,ai pg (lg _),w1,h1];refine⟨?_,rfl⟩;rcases hw with rfl|rfl<;>kernel_rfl
  ·by_cases h2:(100:Int)<((aD ae.aJ ls/2:Nat):Int)+(cE 2).2
   ·rw[show IJ F ls 2 (some L)=kH 7 from if_pos (.inr h2)];simp only[go_sem,b0,b1,s51,ai pg (lg _),w1,w2,h1,h2];refine⟨?_,rfl⟩;rcases hw with rfl|rfl<;>kernel_rfl
   ·rw[show IJ F ls 2 (some L)=qE F (qc L) from if_neg (by rintro (h|h);exact h1 h;exact h2 h)];simp only[go_sem,b0,s51,ai pg (lg _),w1,w2,h1,h2,UV,s52];refine⟨?_,?_⟩
    ·rcases hw with rfl|rfl<;>kernel_rfl
    refine GL pfin lo2 rfl (r4 _) fun c2 Tp YM Tv=> ?_
    have b02:=(Tv 1024000064 (by decide)).trans b1;simp only[go_sem,b02];exact mt (YM.of_eq (aj (by decide)))
abbrev IS(b:Nat):List ae:=[⟨1,b,1,0,0,false⟩,⟨1,b,2,0,0,false⟩]
theorem L7(b:Nat):qc (y8 b)=IS b:=by
 unfold qc;rw[show iX (y8 b)=some 0 from rfl];rfl
theorem doR0(F b:Nat):IJ F [] 2 (some (y8 b))=qE F (IS b):=by
 rw[<- L7];rfl
theorem SN{F b:Nat}(hb:b<=F):aH S 16 [Rs F,dL 2 0 b 0 false false 0] (qE F (IS b)):=by
 have:=SM (F:=F) (ls:=[]) (by decide) (by decide) (a:=0) (b:=b) (c:=0) (l:=false) (o:=false) (sg:=0) (res:=some (y8 b)) (RO hb) IX (fun L h=>by cases h;exact(by simp:(y8 b).length<=1000000));rw[doR0] at this;exact this
theorem Mm{F b:Nat}(hF:F<=40)(hb:b<=F):aH S 6 [wP F,dL 2 0 b 0 false false 0] (qE F (IS b)):=by
 have po:aH S 15 [wP F] (vc (.box [.int .i64 F, .sl [], .sl [], .sl [], .int .i64 ((0:Nat):Int), .int .i64 ((0:Nat):Int), .sl (nP (counts [] F))]) (.int .i64 0)):=Pz hF;have hd:=SN hb;have lo:S.lone 384256128=false:=by kernel_rfl
 refine aG c6 ?_;simp only[go_sem,i6,s15,ai po ak,s16];refine PO hd lo fun cc Tq gc hb=> ?_
 have b4:=hb 384000128 (by decide);simp only[go_sem] at b4;simp only[go_sem,b4];exact mt (gc.of_eq (aj (by decide)))
end Go.Abs
