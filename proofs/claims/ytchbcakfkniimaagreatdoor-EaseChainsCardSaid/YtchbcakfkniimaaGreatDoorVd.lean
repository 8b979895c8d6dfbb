/-
  Certificates are checked by functions.
-/
import Derived.Test.YtchbcakfkniimaaGreatDoorVc
import Derived.Test.YtchbcakfkniimaaGreatDoorVb
set_option linter.unusedSimpArgs false
set_option linter.unusedVariables false
set_option linter.unusedSectionVars false
set_option maxRecDepth 100000
set_option maxHeartbeats 16000000
namespace Go.Abs
theorem nilL_list{n:Nat}{c:PV}(h:nilL n c): ∃ Y:List Let,Y.length≤n∧c.norm=lsP Y:=by
 rcases h with rfl|⟨Y,hY,rfl⟩
 ·exact⟨[],Nat.zero_le _,rfl⟩
 ·exact⟨Y,by omega,rfl⟩
abbrev norO(f:Int)(c:PV):RV:= .tup [.agg [.p (.int .i64 f), .p c], .one (.p (.int .i64 0))]
theorem norm_ok(hcl:cloneE)(f:Int)(ls:List Let)(hl:ls.length≤1000000)(h:checkR f ls=0): ∃ (q:PV × List Let),nilL ls.length q.1∧q.2.length≤ls.length∧q.1.norm=lsP q.2∧PEv S 21 [codeV f ls] (norO f q.1):=by
 obtain⟨r,hr,pn⟩:=norm_p hcl f ls hl;rcases hr with ⟨h1,_⟩|⟨_,c,hc,rfl⟩
 ·exact absurd h h1
 ·obtain⟨Y,hY,hn⟩:=nilL_list hc;exact⟨(c,Y),hc,hY,hn,pn⟩
theorem norm_bad(hcl:cloneE)(f:Int)(ls:List Let)(hl:ls.length≤1000000)(h:checkR f ls≠0):PEv S 21 [codeV f ls] (rcode (checkR f ls)):=by
 obtain⟨r,hr,pn⟩:=norm_p hcl f ls hl;rcases hr with ⟨_,rfl⟩|⟨h1,_⟩
 ·exact pn
 ·exact absurd h1 h
open Classical in
noncomputable def norQ (f:Int) (ls:List Let):PV × List Let:=
 if h: ∃ (q:PV × List Let),nilL ls.length q.1∧q.2.length≤ls.length∧q.1.norm=lsP q.2∧PEv S 21 [codeV f ls] (norO f q.1) then Classical.choose h else (.nils,[])
theorem norQ_p(hcl:cloneE){f:Int}{ls:List Let}(hl:ls.length≤1000000)(h:checkR f ls=0):nilL ls.length (norQ f ls).1∧(norQ f ls).2.length≤ls.length∧(norQ f ls).1.norm=lsP (norQ f ls).2∧PEv S 21 [codeV f ls] (norO f (norQ f ls).1):=by
 have he:=norm_ok hcl f ls hl h;unfold norQ;rw[dif_pos he];exact Classical.choose_spec he
theorem land_no{blk:Blk}{s:Nat}{x c e:PV}{l:Bool}:land blk [] s ((RV.tup [.agg [.p x, .p c], .one (.p e)]).pureIf l)=some (.tup [.agg [.p x, .p c], .one (.p e)],[]):=by cases l<;>rfl
open Classical in
noncomputable def sameR (f:Int) (A:List Let) (g:Int) (B:List Let):Bool:=decide (checkR f A=0∧checkR g B=0∧f=g∧(norQ f A).2=(norQ g B).2)
theorem same_p(hcl:cloneE)(f g:Int)(A B:List Let)(hA:A.length≤1000000)(hB:B.length≤1000000): ∃ e:Int,(sameR f A g B=true→e=0)∧PEv S 15 [codeV f A,codeV g B] (rtup (.bool (sameR f A g B)) (.int .i64 e)):=by
 by_cases h1:checkR f A=0
 ·obtain⟨a1,a2,a3,pa⟩:=norQ_p hcl hA h1;by_cases h2:checkR g B=0
  ·obtain⟨b1,b2,b3,pb⟩:=norQ_p hcl hB h2;have pe:=eqL_p (norQ f A).2 (norQ g B).2 (by omega) (by omega);have hs:sameR f A g B=(decide (f=g)&&decide ((norQ f A).2=(norQ g B).2)):=by
    unfold sameR;rw[Bool.eq_iff_iff];simp[h1,h2]
   rw[hs];generalize norQ f A=x at*;generalize norQ g B=y at*;refine⟨0,fun _=>rfl,?_⟩;cases hf:decide (f=g) with
   |false=>
    have hfi:(f==g)=false:=by simpa using hf
    refine pev1 c15 ?_;simp only[go_sem,i15,s21,gP_land pa land_no,gP_land pb land_no,hfi];rfl
   |true=>
    have hfi:(f==g)=true:=by simpa using hf
    refine pev1 c15 ?_;simp only[go_sem,i15,s21,gP_land pa land_no,gP_land pb land_no,hfi,a3,b3,s30,gP_bool pe];rfl
  ·have pb:=norm_bad hcl g B hB h2;have hs:sameR f A g B=false:=by unfold sameR;simp[h2]
   rw[hs];have h2':(checkR g B==0)=false:=by simpa using h2
   refine⟨checkR g B,(fun h=>by cases h),?_⟩;generalize norQ f A=x at*;generalize checkR g B=e at*;refine pev1 c15 ?_;simp only[go_sem,i15,s21,gP_land pa land_no,gP_land pb land_no,bne,h2'];rfl
 ·have pa:=norm_bad hcl f A hA h1;have hs:sameR f A g B=false:=by unfold sameR;simp[h1]
  rw[hs];have h1':(checkR f A==0)=false:=by simpa using h1
  refine⟨checkR f A,(fun h=>by cases h),?_⟩;generalize checkR f A=e at*;refine pev1 c15 ?_;simp only[go_sem,i15,s21,gP_land pa land_no,bne,h1'];rfl
theorem sameR_trans{f g h:Int}{A B D:List Let}(h1:sameR f A g B=true)(h2:sameR g B h D=true):sameR f A h D=true:=by
 unfold sameR at h1 h2 ⊢;simp only[decide_eq_true_eq] at h1 h2 ⊢;obtain⟨a1,a2,a3,a4⟩:=h1;obtain⟨b1,b2,b3,b4⟩:=h2;exact⟨a1,b2,a3.trans b3,a4.trans b4⟩
end Go.Abs
namespace Go.Abs
theorem apply_any{f:Int}{ls:List Let}(hl:ls.length≤1000000)(k a b c:Int)(l o:Bool)(sg:Int):
  (∃ e,e≠0∧PEv S 32 [codeV f ls,mvV k a b c l o sg] (rcode e))∨ ∃ (F:Nat) (L:List Let),f=(F:Int)∧L.length≤ls.length+4∧PEv S 32 [codeV f ls,mvV k a b c l o sg] (rokc F L):=by
 by_cases h0:checkR f ls=0
 ·by_cases hne:ls=[]
  ·subst hne;have hc:=h0;unfold checkR at hc;rw[if_neg (by decide)] at hc;by_cases hf:f<0∨40<f
   ·rw[if_pos hf] at hc;cases hc
   ·obtain⟨F,rfl⟩:=Int.eq_ofNat_of_zero_le (show 0≤f by omega);have pa:=apply_e (F:=F) (by omega) k a b c l o sg;unfold app0 at pa;by_cases hA:argB F [] k a b c l o sg=true
    ·rw[if_pos hA] at pa;exact .inr ⟨F,circ b.toNat,rfl,by simp,pa⟩
    ·rw[if_neg hA] at pa;exact .inl ⟨2,by decide,pa⟩
  ·obtain⟨F,rfl,g⟩:=fine_of h0 hne;have pa:=apply_p g k a b c l o sg;unfold appR at pa;by_cases hA:argB F ls k a b c l o sg=true
   ·rw[if_pos hA] at pa;cases hM:moveR F ls k a.toNat b.toNat c.toNat l o sg with
    |none=>rw[hM] at pa;exact .inl ⟨4,by decide,pa⟩
    |some M=>
     rw[hM] at pa;by_cases hc:(400:Int)<(ls.length:Int)+(growsR k).1∨(100:Int)<((cnt Let.isC ls/2:Nat):Int)+(growsR k).2
     ·have e:doR F ls k (some M)=rcode 7:=if_pos hc;rw[e] at pa;exact .inl ⟨7,by decide,pa⟩
     ·have e:doR F ls k (some M)=rokc F (finL M):=if_neg hc;rw[e] at pa;have:=moveR_len hM;exact .inr ⟨F,finL M,rfl,by rw[finL_len];omega,pa⟩
   ·rw[if_neg hA] at pa;exact .inl ⟨2,by decide,pa⟩
 ·exact .inl ⟨checkR f ls,h0,apply_bad hl rfl h0 k a b c l o sg⟩
structure Mov where
 k:Int
 a:Int
 b:Int
 c:Int
 l:Bool
 o:Bool
 s:Int
def Mov.ps(m:Mov):List PV:=[.int .i64 m.k, .int .i64 m.a, .int .i64 m.b, .int .i64 m.c, .bool m.l, .bool m.o, .int .i64 m.s]
abbrev movP(ms:List Mov):PV:= .sl (ms.map Mov.ps)
theorem mov_at{ms:List Mov}{k:Nat}{m:Mov}(h:ms[k]? =some m):(ms.map Mov.ps)[k]? =some m.ps:=by rw[List.getElem?_map,h];rfl
def cellL(L:List Let)(c:C)(blk:Blk):Prop:=grown 1856256128 lsTy 6 (letP L) (.one c) blk∨grown 1856512129 lsTy 6 (letP L) (.one c) blk∨(L=[]∧c= .p (.sl []))
theorem cellL.snap{L:List Let}{c:C}{blk:Blk}(h:cellL L c blk): ∃ r,Go.Abs.snap blk snapN c=some (lsP L,r):=by
 rcases h with h|h|⟨rfl,rfl⟩
 ·obtain⟨r,h1,_⟩:=h.snapN;exact⟨r,h1⟩
 ·obtain⟨r,h1,_⟩:=h.snapN;exact⟨r,h1⟩
 ·exact⟨[],rfl⟩
theorem grown_out3{s1 t1 z1:Nat}{es:List (List PV)}{c:C}{x y z:PV}{blk:Blk}(h:grown s1 t1 z1 es (.one c) blk):outV blk (.tup [.agg [.p x,c], .one (.p y), .one (.p z)])=some (.tup [.agg [.p x,grownR t1 z1 es], .one (.p y), .one (.p z)]):=by
 obtain⟨c',o,hc,h2,h3⟩:=h.outC;cases hc
 have e1:outC blk (.p x)=some (.p x,[],[]):=rfl;have e2:outC blk (.p y)=some (.p y,[],[]):=rfl;have e3:outC blk (.p z)=some (.p z,[],[]):=rfl;rcases h3 with rfl|rfl<;>simp[outV,flatV,flatVs,flatV1,outCs,h2,e1,e2,e3,apart,reshR,reshR1,reshRs]
theorem cellL.of_eq{L:List Let}{c:C}{blk blk':Blk}(h:cellL L c blk)(h1:blk' 1856256128=blk 1856256128)(h2:blk' 1856512129=blk 1856512129):cellL L c blk':=by
 rcases h with h|h|h
 ·exact .inl (h.of_eq h1)
 ·exact .inr (.inl (h.of_eq h2))
 ·exact .inr (.inr h)
theorem land_codeR{blk:Blk}{rd:List Nat}{s:Nat}{e:Int}{l:Bool}:land blk rd s ((rcode e).pureIf l)=some (.tup [.agg [.p (.int .i64 0), .p .nils], .one (.p (.int .i64 e))],[]):=by
 cases l<;>(unfold land;rw[if_pos (.inr rfl)];rfl)
def repO(f:Int)(L:List Let)(n:Int)(r:RV):Prop:=r= .tup [.agg [.p (.int .i64 f),grownR lsTy 6 (letP L)], .one (.p (.int .i64 n)), .one (.p (.int .i64 0))]∨(L=[]∧r= .tup [.agg [.p (.int .i64 f), .p (.sl [])], .one (.p (.int .i64 n)), .one (.p (.int .i64 0))])
def repE(r:RV):Prop:= ∃ i e:Int,e≠0∧r= .tup [.agg [.p (.int .i64 0), .p .nils], .one (.p (.int .i64 i)), .one (.p (.int .i64 e))]
theorem replay_p(hcl:cloneE)(f:Int)(ls:List Let)(ms:List Mov)(hl:ls.length≤1000)(hm:ms.length≤1000): ∃ r,(repE r∨ ∃ L,L.length≤ls.length+4*ms.length∧repO f L ms.length r)∧PEv S 29 [codeV f ls, .one (.p (movP ms))] r:=by
 have pc:=check_p f ls (by omega);obtain⟨NN,hNN⟩: ∃ NN,ls.length+4*ms.length=NN:=⟨_,rfl⟩;rw[hNN];by_cases h0:checkR f ls=0
 ·rw[h0] at pc;have lo1:S.lone 1856256128=false:=by kernel_rfl
  have lo2:S.lone 1856512128=false:=by kernel_rfl
  have loop: ∀ (env:Env) (blk:Blk),env 1= .one (.p (movP ms))→env 2= .one (.href 1856000000 1 0)→env 4= .one (.href 1856000064 1 0)→blk 1856000064=(1,some (.var [.p (.int .i64 0), .p .nils]))→
    (∃ c,blk 1856000000=(1,some (.var [.p (.int .i64 f),c]))∧cellL ls c blk)→env 22= .one (.p (movP ms))→env 23=vi ms.length→env 24=vi 0→
    W S .all (.loop i29_l1) (blockQ 0 (thenW S .all i29_r2 (endQ .all i29.results fun v blk=> ∃ r,(repE r∨ ∃ L,L.length≤NN∧repO f L ms.length r)∧outV blk v=some r))) env blk:=by
   intro env blk h1 h2 h4 bB h0' h22 h23 h24;refine R_for (fun k env blk=>env 1= .one (.p (movP ms))∧env 2= .one (.href 1856000000 1 0)∧env 4= .one (.href 1856000064 1 0)∧env 22= .one (.p (movP ms))∧env 23=vi ms.length∧env 24=vi k∧blk 1856000064=(1,some (.var [.p (.int .i64 0), .p .nils]))∧
    ∃ L c,L.length≤ls.length+4*k∧blk 1856000000=(1,some (.var [.p (.int .i64 f),c]))∧cellL L c blk) 0 ms.length (Nat.zero_le _) ?_ ?_
   ·obtain⟨c,e1,e2⟩:=h0';exact⟨h1,h2,h4,h22,h23,h24,bB,ls,c,Nat.le_refl _,e1,e2⟩
   ·rintro k env blk hk ⟨h1,h2,h4,h22,h23,h24,bB,L,c,hL,bA,hc⟩
    by_cases hlt:k<ms.length
    ·have hlt':((k:Int)<(ms.length:Int)):=by omega
     obtain⟨m,hm1⟩:=at_lt hlt;have hmi:=mov_at hm1;have w1:=wrap_succ (n:=k) (by omega);have hc2:cellL L c (upd (upd blk 1856448192 ((blk 1856448192).1+1,some (.var [.p (.int .i64 0), .p (.int .i64 0), .p (.int .i64 0), .p (.int .i64 0), .p (.bool false), .p (.bool false), .p (.int .i64 0)]))) 1856448192 ((blk 1856448192).1+1,some (.var [.p (.int .i64 m.k), .p (.int .i64 m.a), .p (.int .i64 m.b), .p (.int .i64 m.c), .p (.bool m.l), .p (.bool m.o), .p (.int .i64 m.s)]))):=
      hc.of_eq ((upd_ne (by decide)).trans (upd_ne (by decide))) ((upd_ne (by decide)).trans (upd_ne (by decide)))
     obtain⟨rd,hsn⟩:=hc2.snap;rcases apply_any (f:=f) (ls:=L) (by omega) m.k m.a m.b m.c m.l m.o m.s with ⟨e,he,pa⟩|⟨F,L2,hF,hL2,pa⟩
     ·have he':(e==0)=false:=by simpa using he
      simp only[go_sem,i29_l1,h2,h22,h23,h24,bA,hlt',hmi,Mov.ps,hsn,s32];refine(gP_land pa land_codeR).2 ?_;simp only[go_sem,h4,bB,bne,he',i29];exact⟨_, .inl ⟨k,e,he,rfl⟩,rfl⟩
     ·simp only[go_sem,i29_l1,h2,h22,h23,h24,bA,hlt',hmi,Mov.ps,hsn,s32];subst hF;refine gP_gTr pa lo2 rfl rfl (sc_let _) fun cc blk1 gc hb=> ?_
      have q0:=hb 1856000000 (by decide);have q1:=hb 1856000064 (by decide);simp only[go_sem,bA,bB] at q0 q1;simp only[go_sem,h1,h2,h4,h22,h23,h24,q0,q1,w1];have gc:grown 1856512129 lsTy 6 (letP L2) (.one cc) blk1:=gc;exact⟨hlt,L2,cc,by omega,rfl, .inr (.inl (gc.of_eq ((upd_ne (by decide)).trans ((upd_ne (by decide)).trans (upd_ne (by decide))))))⟩
    ·have:k=ms.length:=by omega
     subst this;simp only[go_sem,i29_l1,i29_r2,h1,h2,h4,h23,h24,bB,bA,no_more,i29];rcases hc with hc|hc|⟨rfl,rfl⟩
     ·exact⟨_, .inr ⟨L,by omega, .inl rfl⟩,grown_out3 (hc.of_eq (upd_ne (by decide)))⟩
     ·exact⟨_, .inr ⟨L,by omega, .inl rfl⟩,grown_out3 (hc.of_eq (upd_ne (by decide)))⟩
     ·exact⟨_, .inr ⟨[],by omega, .inr ⟨rfl,rfl⟩⟩,rfl⟩
  by_cases hne:ls=[]
  ·subst hne;have pc':PEv S 16 [.agg [.p (.int .i64 f), .p (.sl [])]] (ri 0):=pc;refine PEv_ex rfl c29 (Nat.le_of_ble_eq_true rfl) ?_;simp only[go_sem,i29,s16,gP_int pc',s33,gP_land hcl land_p];refine loop _ _ ?_ ?_ ?_ ?_ ⟨_,?_, .inr (.inr ⟨rfl,rfl⟩)⟩ ?_ ?_ ?_;all_goals first|rfl|(simp only[go_sem];done)|(simp only[go_sem];rfl)
  ·have pcl:=cloneL hne (by omega);refine PEv_ex rfl c29 (Nat.le_of_ble_eq_true rfl) ?_;simp only[go_sem,i29,s16,gP_int pc,s33];refine gP_g1 pcl lo1 (.inl rfl) fun cc blk0 gc hb0=> ?_
   have b0:=hb0 1856000000 (by decide);have b1:=hb0 1856000064 (by decide);simp only[go_sem] at b0 b1;simp only[go_sem,b0];refine loop _ _ ?_ ?_ ?_ ?_ ⟨_,?_, .inl (gc.of_eq (upd_ne (by decide)))⟩ ?_ ?_ ?_;all_goals first|rfl|(simp only[go_sem,b1];done)|(simp only[go_sem,b1];rfl)
 ·have h0':(checkR f ls==0)=false:=by simpa using h0
  generalize checkR f ls=e at*;refine PEv_ex rfl c29 (Nat.le_of_ble_eq_true rfl) ?_;simp only[go_sem,i29,s16,gP_int pc,bne,h0'];exact⟨_, .inl ⟨0,e,h0,rfl⟩,rfl⟩
def isB(r:RV):Prop:= ∃ b:Bool,r=rb b
def isN(r:RV):Prop:= ∃ i:Int,r=ri i
theorem slack_e(k:Int): ∃ b,PEv S 28 [vi k] (rb b):=by
 have hk: ∃ b,PEv S 46 [vi k] (rb b):=by
  have: ∃ r,isB r∧PEv S 46 [vi k] r:=by
   refine PEv_ex rfl c46 (Nat.le_of_ble_eq_true rfl) ?_;by_cases h1:(1:Int)≤k
   ·by_cases h2:k≤10
    ·simp only[go_sem,i46,h1,h2];exact⟨_,⟨_,rfl⟩,rfl⟩
    ·simp only[go_sem,i46,h1,h2];exact⟨_,⟨_,rfl⟩,rfl⟩
   ·simp only[go_sem,i46,h1];exact⟨_,⟨_,rfl⟩,rfl⟩
  obtain⟨_,⟨b,rfl⟩,h⟩:=this;exact⟨b,h⟩
 obtain⟨b,hk⟩:=hk;have: ∃ r,isB r∧PEv S 28 [vi k] r:=by
  refine PEv_ex rfl c28 (Nat.le_of_ble_eq_true rfl) ?_;cases b with
  |false=>
   simp only[go_sem,i28,s46,gP_bool hk];exact⟨_,⟨_,rfl⟩,rfl⟩
  |true=>
   simp only[go_sem,i28,s46,gP_bool hk];exact⟨_,⟨_,rfl⟩,rfl⟩
 obtain⟨_,⟨b,rfl⟩,h⟩:=this;exact⟨b,h⟩
abbrev movV1(m:Mov):V:=mvV m.k m.a m.b m.c m.l m.o m.s
theorem led1_e(m:Mov): ∃ b,PEv S 27 [movV1 m] (rb b):=by
 obtain⟨b,hs⟩:=slack_e m.k;refine⟨!b,?_⟩;refine pev1 c27 ?_;simp only[go_sem,i27,s28,gP_bool hs]
theorem indexM_e(ms:List Mov)(hm:ms.length≤1000000): ∃ i:Int,PEv S 45 [.one (.p (movP ms)), .one (.p (.fn 27 [] []))] (ri i):=by
 have: ∃ r,isN r∧PEv S 45 [.one (.p (movP ms)), .one (.p (.fn 27 [] []))] r:=by
  refine PEv_ex rfl c45 (Nat.le_of_ble_eq_true rfl) ?_;simp only[go_sem,i45];refine R_for (fun k env blk=>env 0= .one (.p (movP ms))∧env 1= .one (.p (.fn 27 [] []))∧env 7=vi ms.length∧env 8=vi k) 0 ms.length (Nat.zero_le _) ?_ ?_
  ·simp only[go_sem];first|done|rfl|exact⟨rfl,rfl⟩
  ·rintro k env blk hk ⟨h0,h1,h7,h8⟩
   by_cases hlt:k<ms.length
   ·have hlt':((k:Int)<(ms.length:Int)):=by omega
    obtain⟨m,hm1⟩:=at_lt hlt;have hmi:=mov_at hm1;have w1:=wrap_succ (n:=k) (by omega);obtain⟨b,pl⟩:=led1_e m;cases b with
    |true=>
     simp only[go_sem,i45_l1,h0,h1,h7,h8,hlt',hmi,Mov.ps,s27,gP_bool pl];exact⟨_,⟨_,rfl⟩,rfl⟩
    |false=>
     simp only[go_sem,i45_l1,h0,h1,h7,h8,hlt,hlt',hmi,Mov.ps,w1,s27,gP_bool pl]
   ·have:k=ms.length:=by omega
    subst this;simp only[go_sem,i45_l1,i45_r2,h7,h8,no_more];exact⟨_,⟨_,rfl⟩,rfl⟩
 obtain⟨_,⟨i,rfl⟩,h⟩:=this;exact⟨i,h⟩
theorem containsM_e(ms:List Mov)(hm:ms.length≤1000000): ∃ b,PEv S 26 [.one (.p (movP ms)), .one (.p (.fn 27 [] []))] (rb b):=by
 obtain⟨i,pi⟩:=indexM_e ms hm;refine⟨decide (0≤i),?_⟩;refine pev1 c26 ?_;simp only[go_sem,i26,s45,gP_int pi]
section
variable {Q:Post} {env:Env} {blk:Blk} {os:List IOper} {d:Option Nat}
theorem gP_gT3{f:Nat}{vs:List V}{s ty z:Nat}{es:List (List PV)}{x y w:PV}(hp:PEv S f vs (.tup [.agg [.p x,grownR ty z es], .one (.p y), .one (.p w)]))(hlo:S.lone s=false)
  (hK: ∀ (c:C) blk',grown (s+1) ty z es (.one c) blk'→(∀ i,i≠s+1→blk' i=blk i)→RN S .all os Q (put env d (.tup [.agg [.p x,c], .one (.p y), .one (.p w)])) blk'):gP S .all (.pc f vs [] s) d os Q env blk:=by
 obtain⟨h1,h2,_⟩:=inC_grown (blk:=blk) (s:=s+1) (ty:=ty) (z:=z) (es:=es);refine(gP_land (v:= .tup [.agg [.p x,(inC blk (s+1) (grownR ty z es)).1], .one (.p y), .one (.p w)]) (u:=(inC blk (s+1) (grownR ty z es)).2) hp ?_).2 (hK _ _ h1 h2);rw[hlo,pureIf_false];unfold land;rw[if_pos (.inl rfl)];simp[inV,flatR,flatRs,flatR1,inCs,reshV,reshVs,reshV1,inC]
end
theorem land_rep3{blk:Blk}{s:Nat}{x c y w:PV}{l:Bool}:land blk [] s ((RV.tup [.agg [.p x, .p c], .one (.p y), .one (.p w)]).pureIf l)=some (.tup [.agg [.p x, .p c], .one (.p y), .one (.p w)],[]):=by cases l<;>rfl
abbrev ledF:RV:= .tup [.agg [.p (.int .i64 0), .p .nils], .one (.p (.bool false))]
def ledP(f:Int)(n:Nat)(r:RV):Prop:=r=ledF∨ ∃ L:List Let,L.length≤n∧(r= .tup [.agg [.p (.int .i64 f),grownR lsTy 6 (letP L)], .one (.p (.bool true))]∨(L=[]∧r= .tup [.agg [.p (.int .i64 f), .p (.sl [])], .one (.p (.bool true))]))
theorem led_p(hcl:cloneE)(f:Int)(ls:List Let)(ms:List Mov)(hl:ls.length≤1000)(hm:ms.length≤1000): ∃ r,ledP f (ls.length+4*ms.length) r∧PEv S 14 [codeV f ls, .one (.p (movP ms))] r:=by
 by_cases h0:checkR f ls=0
 ·obtain⟨_,a2,a3,pn⟩:=norQ_p hcl (f:=f) (by omega) h0;obtain⟨b,pc⟩:=containsM_e ms (by omega);generalize norQ f ls=q at*;cases b with
  |true=>
   refine PEv_ex rfl c14 (Nat.le_of_ble_eq_true rfl) ?_;simp only[go_sem,i14,s21,gP_land pn land_no,s26,gP_bool pc];exact⟨_, .inl rfl,rfl⟩
  |false=>
   obtain⟨r,hr,pr⟩:=replay_p hcl f q.2 ms (by omega) hm;have lo:S.lone 896256128=false:=by kernel_rfl
   refine PEv_ex rfl c14 (Nat.le_of_ble_eq_true rfl) ?_;rcases hr with ⟨i,e,he,rfl⟩|⟨L,hL,rfl|⟨rfl,rfl⟩⟩
   ·have he':(e==0)=false:=by simpa using he
    simp only[go_sem,i14,s21,gP_land pn land_no,s26,gP_bool pc,a3,s29,gP_land pr land_rep3,he'];exact⟨_, .inl rfl,rfl⟩
   ·simp only[go_sem,i14,s21,gP_land pn land_no,s26,gP_bool pc,a3,s29];refine gP_gT3 pr lo fun cc blk1 gc hb=> ?_
    have q4:=hb 896000064 (by decide);simp only[go_sem] at q4;simp only[go_sem,q4];have gc:grown 896256129 lsTy 6 (letP L) (.one cc) blk1:=gc;exact⟨_, .inr ⟨L,by omega, .inl rfl⟩,grown_outT (gc.of_eq ((upd_ne (by decide)).trans ((upd_ne (by decide)).trans (upd_ne (by decide)))))⟩
   ·simp only[go_sem,i14,s21,gP_land pn land_no,s26,gP_bool pc,a3,s29,gP_land pr land_rep3];exact⟨_, .inr ⟨[],by omega, .inr ⟨rfl,rfl⟩⟩,rfl⟩
 ·have pn:=norm_bad hcl f ls (by omega) h0;have h0':(checkR f ls==0)=false:=by simpa using h0
  generalize checkR f ls=e at*;refine PEv_ex rfl c14 (Nat.le_of_ble_eq_true rfl) ?_;simp only[go_sem,i14,s21,gP_land pn land_no,bne,h0'];exact⟨_, .inl rfl,rfl⟩
end Go.Abs
namespace Go.Abs
def ledV(f:Int):Option (Bool × List Let)→RV
 |none=>ledF
 |some (false,L)=> .tup [.agg [.p (.int .i64 f),grownR lsTy 6 (letP L)], .one (.p (.bool true))]
 |some (true,_)=> .tup [.agg [.p (.int .i64 f), .p (.sl [])], .one (.p (.bool true))]
def ledG(n:Nat)(o:Option (Bool × List Let)):Prop:= ∀ b L,o=some (b,L)→L.length≤n∧(b=true→L=[])
theorem led_o(hcl:cloneE)(f:Int)(ls:List Let)(ms:List Mov)(hl:ls.length≤1000)(hm:ms.length≤1000): ∃ o,ledG (ls.length+4*ms.length) o∧PEv S 14 [codeV f ls, .one (.p (movP ms))] (ledV f o):=by
 obtain⟨r,hr,pl⟩:=led_p hcl f ls ms hl hm;rcases hr with rfl|⟨L,hL,rfl|⟨rfl,rfl⟩⟩
 ·exact⟨none,(fun b L h=>by cases h),pl⟩
 ·exact⟨some (false,L),(fun b L' h=>by cases h;exact⟨hL,fun h=>by cases h⟩),pl⟩
 ·exact⟨some (true,[]),(fun b L' h=>by cases h;exact⟨Nat.zero_le _,fun _=>rfl⟩),pl⟩
open Classical in
noncomputable def ledO (f:Int) (ls:List Let) (ms:List Mov):Option (Bool × List Let):=
 if h: ∃ o,ledG (ls.length+4*ms.length) o∧PEv S 14 [codeV f ls, .one (.p (movP ms))] (ledV f o) then Classical.choose h else none
theorem ledO_p(hcl:cloneE){f:Int}{ls:List Let}{ms:List Mov}(hl:ls.length≤1000)(hm:ms.length≤1000):ledG (ls.length+4*ms.length) (ledO f ls ms)∧PEv S 14 [codeV f ls, .one (.p (movP ms))] (ledV f (ledO f ls ms)):=by
 have he:=led_o hcl f ls ms hl hm;unfold ledO;rw[dif_pos he];exact Classical.choose_spec he
noncomputable def chkR (f:Int) (A:List Let) (p:List Mov) (g:Int) (B:List Let) (q:List Mov):Bool:=match ledO f A p,ledO g B q with
 |some (_,X),some (_,Y)=>sameR f X g Y
 |_,_=>false
theorem chkR_trans{f g h:Int}{A B D:List Let}{p q r:List Mov}(h1:chkR f A p g B q=true)(h2:chkR g B q h D r=true):chkR f A p h D r=true:=by
 unfold chkR at h1 h2 ⊢;cases e1:ledO f A p with
 |none=>rw[e1] at h1;cases h1
 |some x=>
  cases e2:ledO g B q with
  |none=>rw[e1,e2] at h1;cases h1
  |some y=>
   cases e3:ledO h D r with
   |none=>rw[e2,e3] at h2;cases h2
   |some z=>
    rw[e1,e2] at h1;rw[e2,e3] at h2;exact sameR_trans h1 h2
theorem land_tupR{blk:Blk}{rd:List Nat}{s:Nat}{b:Bool}{e:Int}{l:Bool}:land blk rd s ((rtup (.bool b) (.int .i64 e)).pureIf l)=some (.tup [.one (.p (.bool b)), .one (.p (.int .i64 e))],[]):=by
 cases l<;>(unfold land;rw[if_pos (.inr rfl)];rfl)
theorem land_led{blk:Blk}{s:Nat}{x c y:PV}{l:Bool}:land blk [] s ((RV.tup [.agg [.p x, .p c], .one (.p y)]).pureIf l)=some (.tup [.agg [.p x, .p c], .one (.p y)],[]):=by cases l<;>rfl
def cellK(s:Nat)(L:List Let)(c:C)(blk:Blk):Prop:=grown s lsTy 6 (letP L) (.one c) blk∨(L=[]∧c= .p (.sl []))
theorem cellK.snap{s:Nat}{L:List Let}{c:C}{blk:Blk}(h:cellK s L c blk): ∃ r,Go.Abs.snap blk snapN c=some (lsP L,r):=by
 rcases h with h|⟨rfl,rfl⟩
 ·obtain⟨r,h1,_⟩:=h.snapN;exact⟨r,h1⟩
 ·exact⟨[],rfl⟩
theorem cellK.of_eq{s:Nat}{L:List Let}{c:C}{blk blk':Blk}(h:cellK s L c blk)(h1:blk' s=blk s):cellK s L c blk':=by
 rcases h with h|h
 ·exact .inl (h.of_eq h1)
 ·exact .inr h
section
variable {Q:Post} {env:Env} {blk:Blk} {os:List IOper} {d:Option Nat}
theorem gP_led{vs:List V}{s:Nat}{f:Int}{b:Bool}{L:List Let}(hp:PEv S 14 vs (ledV f (some (b,L))))(hb:b=true→L=[])(hlo:S.lone s=false)
  (hK: ∀ (c:C) blk',cellK (s+1) L c blk'→(∀ i,i≠s+1→blk' i=blk i)→RN S .all os Q (put env d (.tup [.agg [.p (.int .i64 f),c], .one (.p (.bool true))])) blk'):gP S .all (.pc 14 vs [] s) d os Q env blk:=by
 cases b with
 |false=>exact gP_gT hp hlo fun c blk' gc h=>hK c blk' (.inl gc) h
 |true=>
  obtain rfl:=hb rfl;exact(gP_land hp land_led).2 (hK _ _ (.inr ⟨rfl,rfl⟩) fun _ _=>rfl)
end
abbrev jnV(p q:List Mov):V:= .agg [.p (movP p), .p (movP q)]
theorem check_e(hcl:cloneE)(f g:Int)(A B:List Let)(p q:List Mov)(hA:A.length≤1000)(hB:B.length≤1000)(hp:p.length≤1000)(hq:q.length≤1000):PEv S 5 [codeV f A,codeV g B,jnV p q] (rb (chkR f A p g B q)):=by
 obtain⟨g1,pl1⟩:=ledO_p hcl (f:=f) hA hp;obtain⟨g2,pl2⟩:=ledO_p hcl (f:=g) hB hq;have lo1:S.lone 320064192=false:=by kernel_rfl
 have lo2:S.lone 320128192=false:=by kernel_rfl
 generalize hr:chkR f A p g B q=res;unfold chkR at hr;refine pev1 c5 ?_;cases e1:ledO f A p with
 |none=>
  rw[e1] at pl1 hr;have hr:false=res:=hr;subst hr;cases e2:ledO g B q with
  |none=>
   rw[e2] at pl2;simp only[go_sem,i5,s14,gP_land pl1 land_led,gP_land pl2 land_led]
  |some y=>
   obtain⟨b2,Y⟩:=y;rw[e2] at pl2 g2;simp only[go_sem,i5,s14,gP_land pl1 land_led];refine gP_led pl2 (g2 _ _ rfl).2 lo2 fun c2 blk2 k2 hb2=> ?_
   simp only[go_sem]
 |some x=>
  obtain⟨b1,X⟩:=x;rw[e1] at pl1 g1;cases e2:ledO g B q with
  |none=>
   rw[e1,e2] at hr;have hr:false=res:=hr;subst hr;rw[e2] at pl2;simp only[go_sem,i5,s14];refine gP_led pl1 (g1 _ _ rfl).2 lo1 fun c1 blk1 k1 hb1=> ?_
   have q3:=hb1 320000000 (by decide);have q4:=hb1 320000064 (by decide);have q5:=hb1 320000128 (by decide);simp only[go_sem] at q3 q4 q5;simp only[go_sem,q4,q5,s14,gP_land pl2 land_led]
  |some y=>
   obtain⟨b2,Y⟩:=y;rw[e1,e2] at hr;have hr:sameR f X g Y=res:=hr;rw[e2] at pl2 g2;simp only[go_sem,i5,s14];refine gP_led pl1 (g1 _ _ rfl).2 lo1 fun c1 blk1 k1 hb1=> ?_
   have q3:=hb1 320000000 (by decide);have q4:=hb1 320000064 (by decide);have q5:=hb1 320000128 (by decide);simp only[go_sem] at q3 q4 q5;simp only[go_sem,q4,q5,s14];refine gP_led pl2 (g2 _ _ rfl).2 lo2 fun c2 blk2 k2 hb2=> ?_
   have k1':cellK (320064193) X c1 blk1:=k1;have k2':cellK (320128193) Y c2 blk2:=k2;have z1:=hb2 320000000 (by decide);have z2:=hb2 320000064 (by decide);have z3:=hb2 320064448 (by decide);have z4:=hb2 320064193 (by decide);simp only[go_sem,q3,q4] at z1 z2 z3 z4;have k1'':cellK (320064193) X c1 blk2:=k1'.of_eq z4;cases hfg:(f==g) with
   |false=>
    have hs:sameR f X g Y=false:=by
     unfold sameR;have: ¬ f=g:=by simpa using hfg
     simp[this]
    rw[hs] at hr;subst hr;simp only[go_sem,z1,z2,hfg,bne]
   |true=>
    obtain⟨l1,_⟩:=g1 _ _ rfl;obtain⟨l2,_⟩:=g2 _ _ rfl;obtain⟨e,he,ps⟩:=same_p hcl f g X Y (by omega) (by omega);rw[hr] at ps he;have w1:cellK (320064193) X c1 (upd (upd blk2 320128448 ((blk2 320128448).1+1,some (.var [.p (.int .i64 0), .p .nils]))) 320128448 ((blk2 320128448).1+1,some (.var [.p (.int .i64 g),c2]))):=
     k1''.of_eq ((upd_ne (by decide)).trans (upd_ne (by decide)))
    have w2:cellK (320128193) Y c2 (upd (upd blk2 320128448 ((blk2 320128448).1+1,some (.var [.p (.int .i64 0), .p .nils]))) 320128448 ((blk2 320128448).1+1,some (.var [.p (.int .i64 g),c2]))):=
     k2'.of_eq ((upd_ne (by decide)).trans (upd_ne (by decide)))
    obtain⟨r1,s1⟩:=w1.snap;obtain⟨r2,s2⟩:=w2.snap;cases res with
    |false=>
     simp only[go_sem,z1,z2,z3,hfg,bne,s1,s2,s15];refine(gP_land ps land_tupR).2 ?_;simp only[go_sem]
    |true=>
     have he:=he rfl;subst he;simp only[go_sem,z1,z2,z3,hfg,bne,s1,s2,s15];refine(gP_land ps land_tupR).2 ?_;simp only[go_sem]
end Go.Abs
