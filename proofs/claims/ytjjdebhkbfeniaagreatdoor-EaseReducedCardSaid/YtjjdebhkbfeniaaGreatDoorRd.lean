/-
  Reduce and Replay.
-/
import Derived.Test.YtjjdebhkbfeniaaGreatDoorRc
set_option linter.unusedSimpArgs false
set_option linter.unusedVariables false
set_option linter.unusedSectionVars false
set_option maxRecDepth 100000
set_option maxHeartbeats 16000000
namespace Go.Abs
theorem gP_gTg{Q:Post}{env:Env}{blk:Blk}{os:List IOper}{d:Option Nat}{f:Nat}{vs:List V}{s t1 z1 t2 z2:Nat}{rd:List Nat}{es fs:List (List PV)}{x:PV}(hp:PEv S f vs (.tup [.agg [.p x,grownR t1 z1 es], .one (grownR t2 z2 fs)]))(hlo:S.lone s=false)(hx:x.scalar=true)
  (a1:(es.all fun e=>e.all PV.scalar)=true) (a2:(fs.all fun e=>e.all PV.scalar)=true)
  (hK: ∀ (c e:C) blk',grown (s+1) t1 z1 es (.one c) blk'→grown (s+2) t2 z2 fs (.one e) blk'→(∀ i,i≠s+1→i≠s+2→blk' i=blk i)→RN S .all os Q (put env d (.tup [.agg [.p x,c], .one e])) blk'):gP S .all (.pc f vs rd s) d os Q env blk:=by
 obtain⟨h1,h2,_⟩:=inC_grown (blk:=blk) (s:=s+1) (ty:=t1) (z:=z1) (es:=es);have e0: ∀ (b b':Blk) (k:Nat) (r:RC),b' k=b k→inC b k r=inC b' k r:=by
  intro b b' k r h;cases r with
  |p v=>rfl
  |own ty sz es=>simp only[inC,h]
 have e2:inC blk (s+2) (grownR t2 z2 fs)=inC (app (inC blk (s+1) (grownR t1 z1 es)).2 blk) (s+2) (grownR t2 z2 fs):=e0 _ _ _ _ (h2 (s+2) (by omega));obtain⟨k1,k2,_⟩:=inC_grown (blk:=app (inC blk (s+1) (grownR t1 z1 es)).2 blk) (s:=s+2) (ty:=t2) (z:=z2) (es:=fs);rw[← e2] at k1 k2;have happ: ∀ (a b:List Upd) (c:Blk),app (a++b) c=app b (app a c):=by
  intro a
  induction a with
  |nil=>intro b c;rfl
  |cons x a ih=>intro b c;exact ih b _
 have hal:(RV.tup [.agg [.p x,grownR t1 z1 es], .one (grownR t2 z2 fs)]).alone=true:=by
  have a:=alone_grown (ty:=t1) (z:=z1) a1;have b:=alone_grown (ty:=t2) (z:=z2) a2;have hx':(RV.one (.p x)).alone=true:=by show(x.scalar&&true)=true;rw[hx];rfl
  skip
  simp only[RV.alone,flatR,flatR1,List.all_cons,List.all_nil,Bool.and_true] at a b hx';simp only[RV.alone,flatR,flatRs,flatR1,List.cons_append,List.nil_append,List.append_nil,List.all_cons,List.all_nil,Bool.and_true,a,b,hx']
 refine(gP_land (v:= .tup [.agg [.p x,(inC blk (s+1) (grownR t1 z1 es)).1], .one (inC blk (s+2) (grownR t2 z2 fs)).1]) (u:=(inC blk (s+1) (grownR t1 z1 es)).2++(inC blk (s+2) (grownR t2 z2 fs)).2) hp ?_).2 (hK _ _ _ ?_ ?_ ?_)
 ·rw[hlo,pureIf_false];unfold land;rw[if_pos (.inr hal)];simp[inV,flatR,flatRs,flatR1,inCs,reshV,reshVs,reshV1,inC]
 ·rw[happ];exact h1.of_eq (k2 (s+1) (by omega))
 ·rw[happ];exact k1
 ·intro i a b;rw[happ,k2 i b,h2 i a]
theorem out_gTg{s1 t1 z1 s2 t2 z2:Nat}{es fs:List (List PV)}{c d:C}{x:PV}{blk:Blk}(hs:s1≠s2)(h:grown s1 t1 z1 es (.one c) blk)(h':grown s2 t2 z2 fs (.one d) blk):outV blk (.tup [.agg [.p x,c], .one d])=some (.tup [.agg [.p x,grownR t1 z1 es], .one (grownR t2 z2 fs)]):=by
 obtain⟨c',o,hc,h2,h3⟩:=h.outC;cases hc
 obtain⟨d',q,hd,k2,k3⟩:=h'.outC;cases hd
 have e1:outC blk (.p x)=some (.p x,[],[]):=rfl;rcases h3 with rfl|rfl<;>rcases k3 with rfl|rfl<;>simp[outV,flatV,flatVs,flatV1,outCs,h2,k2,e1,apart,reshR,reshR1,reshRs,hs]
theorem gP_gTg3{Q:Post}{env:Env}{blk:Blk}{os:List IOper}{d:Option Nat}{f:Nat}{vs:List V}{s t1 z1 t2 z2:Nat}{rd:List Nat}{es fs:List (List PV)}{x y:PV}(hp:PEv S f vs (.tup [.agg [.p x,grownR t1 z1 es], .one (grownR t2 z2 fs), .one (.p y)]))(hlo:S.lone s=false)(hx:x.scalar=true)(hy:y.scalar=true)
  (a1:(es.all fun e=>e.all PV.scalar)=true) (a2:(fs.all fun e=>e.all PV.scalar)=true)
  (hK: ∀ (c e:C) blk',grown (s+1) t1 z1 es (.one c) blk'→grown (s+2) t2 z2 fs (.one e) blk'→(∀ i,i≠s+1→i≠s+2→blk' i=blk i)→RN S .all os Q (put env d (.tup [.agg [.p x,c], .one e, .one (.p y)])) blk'):gP S .all (.pc f vs rd s) d os Q env blk:=by
 obtain⟨h1,h2,_⟩:=inC_grown (blk:=blk) (s:=s+1) (ty:=t1) (z:=z1) (es:=es);have e0: ∀ (b b':Blk) (k:Nat) (r:RC),b' k=b k→inC b k r=inC b' k r:=by
  intro b b' k r h;cases r with
  |p v=>rfl
  |own ty sz es=>simp only[inC,h]
 have e2:inC blk (s+2) (grownR t2 z2 fs)=inC (app (inC blk (s+1) (grownR t1 z1 es)).2 blk) (s+2) (grownR t2 z2 fs):=e0 _ _ _ _ (h2 (s+2) (by omega));obtain⟨k1,k2,_⟩:=inC_grown (blk:=app (inC blk (s+1) (grownR t1 z1 es)).2 blk) (s:=s+2) (ty:=t2) (z:=z2) (es:=fs);rw[← e2] at k1 k2;have happ: ∀ (a b:List Upd) (c:Blk),app (a++b) c=app b (app a c):=by
  intro a
  induction a with
  |nil=>intro b c;rfl
  |cons x a ih=>intro b c;exact ih b _
 have hal:(RV.tup [.agg [.p x,grownR t1 z1 es], .one (grownR t2 z2 fs), .one (.p y)]).alone=true:=by
  have a:=alone_grown (ty:=t1) (z:=z1) a1;have b:=alone_grown (ty:=t2) (z:=z2) a2;have hx':(RV.one (.p x)).alone=true:=by show(x.scalar&&true)=true;rw[hx];rfl
  have hy':(RV.one (.p y)).alone=true:=by show(y.scalar&&true)=true;rw[hy];rfl
  simp only[RV.alone,flatR,flatR1,List.all_cons,List.all_nil,Bool.and_true] at a b hx' hy';simp only[RV.alone,flatR,flatRs,flatR1,List.cons_append,List.nil_append,List.append_nil,List.all_cons,List.all_nil,Bool.and_true,a,b,hx',hy']
 refine(gP_land (v:= .tup [.agg [.p x,(inC blk (s+1) (grownR t1 z1 es)).1], .one (inC blk (s+2) (grownR t2 z2 fs)).1, .one (.p y)]) (u:=(inC blk (s+1) (grownR t1 z1 es)).2++(inC blk (s+2) (grownR t2 z2 fs)).2) hp ?_).2 (hK _ _ _ ?_ ?_ ?_)
 ·rw[hlo,pureIf_false];unfold land;rw[if_pos (.inr hal)];simp[inV,flatR,flatRs,flatR1,inCs,reshV,reshVs,reshV1,inC]
 ·rw[happ];exact h1.of_eq (k2 (s+1) (by omega))
 ·rw[happ];exact k1
 ·intro i a b;rw[happ,k2 i b,h2 i a]
theorem out_gTg3{s1 t1 z1 s2 t2 z2:Nat}{es fs:List (List PV)}{c d:C}{x y:PV}{blk:Blk}(hs:s1≠s2)(h:grown s1 t1 z1 es (.one c) blk)(h':grown s2 t2 z2 fs (.one d) blk):outV blk (.tup [.agg [.p x,c], .one d, .one (.p y)])=some (.tup [.agg [.p x,grownR t1 z1 es], .one (grownR t2 z2 fs), .one (.p y)]):=by
 obtain⟨c',o,hc,h2,h3⟩:=h.outC;cases hc
 obtain⟨d',q,hd,k2,k3⟩:=h'.outC;cases hd
 have e1:outC blk (.p x)=some (.p x,[],[]):=rfl;have e2:outC blk (.p y)=some (.p y,[],[]):=rfl;rcases h3 with rfl|rfl<;>rcases k3 with rfl|rfl<;>simp[outV,flatV,flatVs,flatV1,outCs,h2,k2,e1,e2,apart,reshR,reshR1,reshRs,hs]
theorem land_red{blk:Blk}{rd:List Nat}{s:Nat}{m:Mov}{b:Bool}{l:Bool}:land blk rd s ((redV m b).pureIf l)=some (.tup [.agg [.p (.int .i64 m.k), .p (.int .i64 m.a), .p (.int .i64 m.b), .p (.int .i64 m.c), .p (.bool m.l), .p (.bool m.o), .p (.int .i64 m.s)], .one (.p (.bool b))],[]):=by
 cases l<;>(unfold land;rw[if_pos (.inr rfl)];rfl)
def Path(F:Nat)(ls:List Let)(ms:List Mov)(M:List Let):Prop:= ∃ Ls:Nat→List Let,Ls 0=ls∧Ls ms.length=M∧ ∀ k m,ms[k]? =some m→(Ls k).length≤400∧(Ls (k+1)).length≤400∧PEv S 30 [codeV F (Ls k),movV1 m] (rokc F (Ls (k+1)))
theorem Path.nil{F:Nat}{ls:List Let}:Path F ls [] ls:=⟨fun _=>ls,rfl,rfl,fun k m h=>by simp at h⟩
theorem Path.snoc{F:Nat}{ls M N:List Let}{ms:List Mov}{m:Mov}(h:Path F ls ms M)(hM:M.length≤400)(hN:N.length≤400)(ha:PEv S 30 [codeV F M,movV1 m] (rokc F N)):Path F ls (ms++[m]) N:=by
 obtain⟨Ls,h0,h1,h2⟩:=h;refine⟨fun k=>if k≤ms.length then Ls k else N,by simp[h0],by simp;omega,?_⟩;intro k x hx;by_cases hk:k<ms.length
 ·rw[List.getElem?_append_left hk] at hx;simp only[if_pos (show k≤ms.length by omega),if_pos (show k+1≤ms.length by omega)];exact h2 k x hx
 ·have hlt:=(List.getElem?_eq_some_iff.1 hx).1;rw[List.length_append] at hlt;simp only[List.length_cons,List.length_nil] at hlt;have:k=ms.length:=by omega
  subst this;rw[List.getElem?_append_right (Nat.le_refl _),Nat.sub_self] at hx;simp only[List.getElem?_cons_zero,Option.some.injEq] at hx;subst hx;simp only[Nat.le_refl,if_true,if_neg (show ¬ ms.length+1≤ms.length by omega),h1];exact⟨hM,hN,ha⟩
def noRed(F:Nat)(L:List Let):Prop:=PEv S 10 [codeV F L, .one (.p (.sl (iP redK)))] (.tup [.one (grownR mvT 7 []), .one (.p (.int .i64 0))])
structure RedL (F:Nat) (ls:List Let) (ms:List Mov) (L:List Let):Prop where
 len:L.length+ms.length≤ls.length
 chk:checkR (F:Int) L=0
 path:Path F ls ms L
 kind: ∀ m∈ms,m.k∈redK
 pc:cnt Let.isP L≤cnt Let.isP ls
 cc:cnt Let.isC L≤cnt Let.isC ls
def cellR(F:Nat)(ls:List Let)(ms:List Mov)(L:List Let)(c:C)(blk:Blk):Prop:=(c= .p (lsP L)∧ms=[]∧L=ls)∨grown 1728320129 lsTy 6 (letP L) (.one c) blk
theorem cellR.snap{F:Nat}{ls L:List Let}{ms:List Mov}{c:C}{blk:Blk}(h:cellR F ls ms L c blk): ∃ r,∀ B:Blk,B 1728320129=blk 1728320129→Go.Abs.snap B snapN c=some (lsP L,r):=by
 rcases h with ⟨rfl,_,_⟩|h
 ·exact⟨[],fun B _=>rfl⟩
 ·obtain⟨r,h1,_⟩:=h.snapB;exact⟨r,h1⟩
theorem RedL.step{F:Nat}{ls L:List Let}{ms:List Mov}{m:Mov}(h:RedL F ls ms L)(h4:ls.length≤400)(hm:okS F L redK m): ∃ M,PEv S 30 [codeV F L,movV1 m] (rokc F M)∧RedL F ls (ms++[m]) M:=by
 have hne:L≠[]:=by
  obtain⟨_,⟨a,ha,_⟩,_⟩:=hm;intro e;rw[e] at ha;exact absurd ha (Nat.not_lt_zero a)
 obtain⟨G,e,g⟩:=fine_of h.chk hne;have:F=G:=by omega
 subst this;have hk:m.k=1∨m.k=4∨m.k=6:=by
  have:=hm.1
  simpa using this
 obtain⟨M,ha,hc,hlt,hp,hx⟩:=cut_law g hm hk;have pa:=apply3 g hk m.a m.b m.c m.l m.o m.s;rw[ha] at pa;have hl:=h.len;refine⟨M,pa,⟨by rw[List.length_append];simp only[List.length_cons,List.length_nil];omega,hc,h.path.snoc (by omega) (by omega) pa,fun x hx=> ?_,by have:=h.pc;omega,by have:=h.cc;omega⟩⟩;rcases List.mem_append.1 hx with h1|h1
 ·exact h.kind x h1
 ·rw[List.mem_singleton.1 h1];exact hm.1
theorem RedL.start{F:Nat}{ls:List Let}(h:checkR (F:Int) ls=0):RedL F ls [] ls:=⟨Nat.le_refl _,h,Path.nil,fun m h=>(by cases h),Nat.le_refl _,Nat.le_refl _⟩
def redR(F:Nat)(ls:List Let)(ms:List Mov)(M:List Let)(r:RV):Prop:=(ms=[]∧M=ls∧r= .tup [.agg [.p (.int .i64 F), .p (lsP ls)], .one (.p .nils)])∨r= .tup [.agg [.p (.int .i64 F),grownR lsTy 6 (letP M)], .one (grownR mvT 7 (mP ms))]
theorem reduce_e{F:Nat}{ls:List Let}(hck:checkR (F:Int) ls=0)(hlen:ls.length≤400): ∃ r,(∃ ms M,RedL F ls ms M∧noRed F M∧redR F ls ms M r)∧PEv S 27 [codeV F ls] r:=by
 have lo1:S.lone 1728320128=false:=by kernel_rfl
 have red: ∀ L,checkR (F:Int) L=0→ ∃ m b,PEv S 48 [codeV F L] (redV m b)∧(b=true→okS F L redK m)∧(b=false→noRed F L):=by
  intro L h;rcases reducing_e h with ⟨m,h1,h2⟩|⟨h1,h2⟩
  ·exact⟨m,true,h2,fun _=>h1,fun h=>(by cases h)⟩
  ·exact⟨zMov,false,h2,fun h=>(by cases h),fun _=>h1⟩
 refine PEv_ex rfl c27 (Nat.le_of_ble_eq_true rfl) ?_;obtain⟨m0,b0,pr0,k1,k2⟩:=red ls hck;simp only[go_sem,i27,s48,gP_land pr0 land_red]
 refine R_for (fun k env blk=> ∃ L ms c d m b gm idm,(idm=1728128320∨idm=1728512000)∧env 1= .one (.href 1728000000 1 0)∧env 2= .one (.href 1728000064 1 0)∧blk 1728000064=(1,some (.var [.p (.int .i64 0), .p .nils]))∧env 6= .one (.p (.bool b))∧env 4= .one d∧env 5= .one (.href idm gm 0)∧blk idm=(gm,some (.var (m.ps.map .p)))∧blk 1728000000=(1,some (.var [.p (.int .i64 F),c]))∧cellR F ls ms L c blk∧grown 1728384192 mvT 7 (mP ms) (.one d) blk∧ms.length=k∧RedL F ls ms L∧(b=true→okS F L redK m)∧(b=false→noRed F L)) 0 ls.length (Nat.zero_le _) ?_ ?_
 ·simp only[go_sem];refine⟨ls,[], .p (lsP ls), .p .nils,m0,b0,1,1728128320, .inl rfl,?_⟩;exact⟨rfl,rfl,rfl,rfl,rfl, .inl ⟨rfl,rfl,rfl⟩,grown.nil,rfl,RedL.start hck,k1,k2⟩
 ·rintro k env blk hk ⟨L,ms,c,d,m,b,gm,idm,hid,h1,h2,bZ,h6,h4,h5,bm,b0,hc,gp,hmk,hR,hok,hno⟩
  rcases hid with rfl|rfl
  ·have hcB:=hc;obtain⟨rd,hsn⟩:=hcB.snap;simp only[Mov.ps,List.map_cons,List.map_nil] at bm;cases b with
   |false=>
    simp only[go_sem,i27_l1,i27_r2,h1,h2,h4,h6,b0,bZ];rcases hc with ⟨rfl,rfl,rfl⟩|gc
    ·rcases gp with ⟨_,e2⟩|⟨hne,_⟩
     ·cases e2
      exact⟨_,⟨[],_,hR,hno rfl, .inl ⟨rfl,rfl,rfl⟩⟩,rfl⟩
     ·exact absurd rfl hne
    ·exact⟨_,⟨ms,L,hR,hno rfl, .inr rfl⟩,out_gTg (by decide) (gc.of_eq (upd_ne (by decide))) (gp.of_eq (upd_ne (by decide)))⟩
   |true=>
    obtain⟨M,pa,hR2⟩:=hR.step hlen (hok rfl);obtain⟨m2,b2,pr2,k1,k2⟩:=red M hR2.chk;have hmsl:=hR.len;simp only[go_sem,i27_l1,h1,h5,h6,bm,b0,hsn,s30];refine gP_gTr pa lo1 rfl rfl (sc_let _) fun cc blk1 gc hb=> ?_
    have q0:=hb 1728000000 (by decide);have q1:=hb 1728128320 (by decide);have q2:=hb 1728000064 (by decide);simp only[go_sem,b0,bm,bZ] at q0 q1 q2;have gp1:=gp.of_eq (hb 1728384192 (by decide));simp only[go_sem,h1,h4,h5,q0,q1];refine gP_app (xs:=[Mov.ps m]) (gp1.of_eq (by simp only[upd_apply,Nat.reduceEqDiff,if_false])) (by simp only[elemsOf,upd_apply,if_true];rfl) (.inl rfl) (by simp only[mP_len,List.length_cons,List.length_nil];omega) fun d2 blk2 gp2 hb2=> ?_
    have r0:=hb2 1728000000 (by decide) (by decide);have r1:=hb2 1728128320 (by decide) (by decide);have r2:=hb2 1728000064 (by decide) (by decide);simp only[go_sem,q0,q1,q2] at r0 r1 r2;have gc2:grown 1728320129 lsTy 6 (letP M) (.one cc) blk2:=(show grown 1728320129 lsTy 6 (letP M) (.one cc) blk1 from gc).of_eq ((hb2 1728320129 (by decide) (by decide)).trans (by simp only[upd_apply,Nat.reduceEqDiff,if_false]));obtain⟨rd2,hs2,_⟩:=gc2.snapB;simp only[go_sem,h1,h2,h4,h5,h6,r0,r1,r2,hs2,s48,gP_land pr2 land_red];have hl2:=hR2.len;rw[List.length_append] at hl2
    simp only[List.length_cons,List.length_nil] at hl2;refine⟨by omega,M,ms++[m],cc,d2,m2,b2,_,1728512000, .inr rfl,rfl,rfl,rfl,if_pos rfl,rfl, .inr (gc2.of_eq (by simp only[upd_apply,Nat.reduceEqDiff,if_false])),?_,by simp[hmk],hR2,k1,k2⟩;rw[show mP (ms++[m])=mP ms++[Mov.ps m] by simp[mP]];exact gp2.of_eq (by simp only[upd_apply,Nat.reduceEqDiff,if_false])
  ·have hcB:=hc;obtain⟨rd,hsn⟩:=hcB.snap;simp only[Mov.ps,List.map_cons,List.map_nil] at bm;cases b with
   |false=>
    simp only[go_sem,i27_l1,i27_r2,h1,h2,h4,h6,b0,bZ];rcases hc with ⟨rfl,rfl,rfl⟩|gc
    ·rcases gp with ⟨_,e2⟩|⟨hne,_⟩
     ·cases e2
      exact⟨_,⟨[],_,hR,hno rfl, .inl ⟨rfl,rfl,rfl⟩⟩,rfl⟩
     ·exact absurd rfl hne
    ·exact⟨_,⟨ms,L,hR,hno rfl, .inr rfl⟩,out_gTg (by decide) (gc.of_eq (upd_ne (by decide))) (gp.of_eq (upd_ne (by decide)))⟩
   |true=>
    obtain⟨M,pa,hR2⟩:=hR.step hlen (hok rfl);obtain⟨m2,b2,pr2,k1,k2⟩:=red M hR2.chk;have hmsl:=hR.len;simp only[go_sem,i27_l1,h1,h5,h6,bm,b0,hsn,s30];refine gP_gTr pa lo1 rfl rfl (sc_let _) fun cc blk1 gc hb=> ?_
    have q0:=hb 1728000000 (by decide);have q1:=hb 1728512000 (by decide);have q2:=hb 1728000064 (by decide);simp only[go_sem,b0,bm,bZ] at q0 q1 q2;have gp1:=gp.of_eq (hb 1728384192 (by decide));simp only[go_sem,h1,h4,h5,q0,q1];refine gP_app (xs:=[Mov.ps m]) (gp1.of_eq (by simp only[upd_apply,Nat.reduceEqDiff,if_false])) (by simp only[elemsOf,upd_apply,if_true];rfl) (.inl rfl) (by simp only[mP_len,List.length_cons,List.length_nil];omega) fun d2 blk2 gp2 hb2=> ?_
    have r0:=hb2 1728000000 (by decide) (by decide);have r1:=hb2 1728512000 (by decide) (by decide);have r2:=hb2 1728000064 (by decide) (by decide);simp only[go_sem,q0,q1,q2] at r0 r1 r2;have gc2:grown 1728320129 lsTy 6 (letP M) (.one cc) blk2:=(show grown 1728320129 lsTy 6 (letP M) (.one cc) blk1 from gc).of_eq ((hb2 1728320129 (by decide) (by decide)).trans (by simp only[upd_apply,Nat.reduceEqDiff,if_false]));obtain⟨rd2,hs2,_⟩:=gc2.snapB;simp only[go_sem,h1,h2,h4,h5,h6,r0,r1,r2,hs2,s48,gP_land pr2 land_red];have hl2:=hR2.len;rw[List.length_append] at hl2
    simp only[List.length_cons,List.length_nil] at hl2;refine⟨by omega,M,ms++[m],cc,d2,m2,b2,_,1728512000, .inr rfl,rfl,rfl,rfl,if_pos rfl,rfl, .inr (gc2.of_eq (by simp only[upd_apply,Nat.reduceEqDiff,if_false])),?_,by simp[hmk],hR2,k1,k2⟩;rw[show mP (ms++[m])=mP ms++[Mov.ps m] by simp[mP]];exact gp2.of_eq (by simp only[upd_apply,Nat.reduceEqDiff,if_false])
theorem land_ag{blk:Blk}{s:Nat}{x y:PV}{l:Bool}:land blk [] s ((RV.agg [.p x, .p y]).pureIf l)=some (.agg [.p x, .p y],[]):=by cases l<;>rfl
theorem copied_e(hcl:cloneE){F:Nat}:PEv S 28 [codeV F []] (.agg [.p (.int .i64 F), .p (.sl [])]):=by
 refine pev1 c28 ?_;simp only[go_sem,i28,s29,gP_land hcl land_p];rfl
theorem copied_p{F:Nat}{ls:List Let}(hne:ls≠[])(hl:ls.length≤1000000):PEv S 28 [codeV F ls] (.agg [.p (.int .i64 F),grownR lsTy 6 (letP ls)]):=by
 have pcl:=cloneL hne hl;have lo:S.lone 1792064128=false:=by kernel_rfl
 refine pev1 c28 ?_;simp only[go_sem,i28,s29];refine gP_g1 pcl lo (.inl rfl) fun cc blk0 gc hb0=> ?_
 have b0:=hb0 1792000000 (by decide);have b1:=hb0 1792000064 (by decide);simp only[go_sem] at b0 b1;simp only[go_sem,b0,b1];exact grown_outA (gc.of_eq (by simp only[upd_apply,Nat.reduceEqDiff,if_false]))
theorem land_fz{blk:Blk}{rd:List Nat}{id s g ty z:Nat}{es y:List (List PV)}{x w:PV}{l:Bool}(hr:rd=[]∨rd=[id])(hb:blk id=(g,some (.arr ty z es))): ∃ u,land blk rd s ((RV.tup [.agg [.p x, .p (.sl y)], .one (.p w)]).pureIf l)=some (.tup [.agg [.p x, .p (.sl y)], .one (.p w)],u)∧ ∀ i,i≠id→app u blk i=blk i:=by
 have hp:(RV.tup [.agg [.p x, .p (.sl y)], .one (.p w)]).pureIf l= .tup [.agg [.p x, .p (.sl y)], .one (.p w)]:=by cases l<;>rfl
 rw[hp];unfold land;rcases hr with rfl|rfl
 ·exact⟨[],by rw[if_pos (.inl rfl)];rfl,fun _ _=>rfl⟩
 ·by_cases ha:(RV.tup [.agg [.p x, .p (.sl y)], .one (.p w)]).alone=true
  ·exact⟨[],by rw[if_pos (.inr ha)];rfl,fun _ _=>rfl⟩
  ·refine⟨[(id,(g,some (.farr ty z es)))],?_,fun i hi=> ?_⟩
   ·rw[if_neg (by rintro (h|h);cases h;exact ha h)];have:frz blk [id]=some [(id,(g,some (.farr ty z es)))]:=by simp[frz,frzL,frz1,hb]
    rw[this];rfl
   ·simp[app,upd_apply,hi]
def rdR(F:Nat)(ls:List Let)(ms:List Mov)(M:List Let)(r:RV):Prop:=(ms=[]∧M=ls∧r= .tup [.agg [.p (.int .i64 F), .p (lsP ls)], .one (.p .nils), .one (.p (.int .i64 0))])∨r= .tup [.agg [.p (.int .i64 F),grownR lsTy 6 (letP M)], .one (grownR mvT 7 (mP ms)), .one (.p (.int .i64 0))]
theorem land_fz0{blk:Blk}{s:Nat}{x y w:PV}{l:Bool}:land blk [] s ((RV.tup [.agg [.p x, .p y], .one (.p w)]).pureIf l)=some (.tup [.agg [.p x, .p y], .one (.p w)],[]):=by cases l<;>rfl
theorem Reduce_e(hcl:cloneE){F:Nat}{ls:List Let}(hck:checkR (F:Int) ls=0)(hlen:ls.length≤400): ∃ r,(∃ ms M,RedL F ls ms M∧noRed F M∧rdR F ls ms M r)∧PEv S 8 [codeV F ls] r:=by
 have pc:=check_p F ls (by omega);rw[hck] at pc;obtain⟨r0,⟨ms,M,hR,hN,hr⟩,pr⟩:=reduce_e hck hlen;have lo1:S.lone 512256064=false:=by kernel_rfl
 have lo2:S.lone 512256128=false:=by kernel_rfl
 by_cases hne:ls=[]
 ·subst hne;have pcp:PEv S 28 [.agg [.p (.int .i64 F), .p (.sl [])]] (.agg [.p (.int .i64 F), .p (.sl [])]):=copied_e hcl (F:=F);have pc':PEv S 17 [.agg [.p (.int .i64 F), .p (.sl [])]] (ri 0):=pc;have pr':PEv S 27 [.agg [.p (.int .i64 F), .p (.sl [])]] r0:=pr;refine PEv_ex rfl c8 (Nat.le_of_ble_eq_true rfl) ?_;rcases hr with ⟨rfl,rfl,rfl⟩|rfl
  ·simp only[go_sem,i8,s17,gP_int pc',s28,gP_land pcp land_ag,s27,gP_land pr' land_fz0];exact⟨_,⟨[],[],hR,hN, .inl ⟨rfl,rfl,rfl⟩⟩,rfl⟩
  ·simp only[go_sem,i8,s17,gP_int pc',s28,gP_land pcp land_ag,s27];refine gP_gTg pr' lo2 rfl (sc_let _) (sc_mP _) fun c e blk1 gc ge hb=> ?_
   have q1:=hb 512000064 (by decide) (by decide);simp only[go_sem] at q1;simp only[go_sem,q1];exact⟨_,⟨ms,M,hR,hN, .inr rfl⟩,out_gTg3 (by decide) (gc.of_eq (by simp only[upd_apply,Nat.reduceEqDiff,if_false])) (ge.of_eq (by simp only[upd_apply,Nat.reduceEqDiff,if_false]))⟩
 ·have pcp:=copied_p (F:=F) hne (by omega);refine PEv_ex rfl c8 (Nat.le_of_ble_eq_true rfl) ?_;simp only[go_sem,i8,s17,gP_int pc,s28];refine gP_gA pcp lo1 rfl (sc_let _) fun cc blk1 gc hb=> ?_
  have q1:=hb 512000064 (by decide);simp only[go_sem] at q1;obtain⟨rd,hsn,hrd⟩:=gc.snapB;rcases gc with ⟨h,_⟩|⟨_,gg,e2,hC⟩
  ·exact absurd (List.map_eq_nil_iff.1 h) hne
  rcases hr with ⟨rfl,rfl,rfl⟩|rfl
  ·obtain⟨u,hu,ha⟩:=land_fz (s:=512256128) (x:= .int .i64 F) (w:= .nils) (y:=letP M) (l:=S.lone 512256128) hrd hC;have b1:=ha 512000064 (by decide);rw[q1] at b1;simp only[go_sem,hsn,s27];refine(gP_land pr hu).2 ?_;simp only[go_sem,b1];exact⟨_,⟨[],_,hR,hN, .inl ⟨rfl,rfl,rfl⟩⟩,rfl⟩
  ·simp only[go_sem,hsn,s27];refine gP_gTg pr lo2 rfl (sc_let _) (sc_mP _) fun c e blk2 gc2 ge2 hb2=> ?_
   have b1:=hb2 512000064 (by decide) (by decide);rw[q1] at b1;simp only[go_sem,b1];exact⟨_,⟨ms,M,hR,hN, .inr rfl⟩,out_gTg3 (by decide) (gc2.of_eq (by simp only[upd_apply,Nat.reduceEqDiff,if_false])) (ge2.of_eq (by simp only[upd_apply,Nat.reduceEqDiff,if_false]))⟩
def repP(F:Nat)(L:List Let)(ms:List Mov)(r:RV):Prop:=r= .tup [.agg [.p (.int .i64 F),grownR lsTy 6 (letP L)], .one (.p (.int .i64 ms.length)), .one (.p (.int .i64 0))]∨(L=[]∧ms=[]∧r= .tup [.agg [.p (.int .i64 F), .p (.sl [])], .one (.p (.int .i64 0)), .one (.p (.int .i64 0))])
theorem replay_path(hcl:cloneE){F:Nat}{ls M:List Let}{ms:List Mov}(h0:checkR (F:Int) ls=0)(hl:ls.length≤400)(hm:ms.length≤1000)(hP:Path F ls ms M): ∃ r,repP F M ms r∧PEv S 9 [codeV F ls, .one (.p (movP ms))] r:=by
 obtain⟨Ls,hL0,hLM,hLs⟩:=hP;have pc:=check_p F ls (by omega);rw[h0] at pc;have lo1:S.lone 576256128=false:=by kernel_rfl
 have lo2:S.lone 576512128=false:=by kernel_rfl
 have loop: ∀ (env:Env) (blk:Blk),env 1= .one (.p (movP ms))→env 2= .one (.href 576000000 1 0)→env 4= .one (.href 576000064 1 0)→blk 576000064=(1,some (.var [.p (.int .i64 0), .p .nils]))→
   (∃ c,blk 576000000=(1,some (.var [.p (.int .i64 F),c]))∧cellL ls c blk)→env 22= .one (.p (movP ms))→env 23=vi ms.length→env 24=vi 0→
   W S .all (.loop i9_l1) (blockQ 0 (thenW S .all i9_r2 (endQ .all i9.results fun v blk=> ∃ r,repP F M ms r∧outV blk v=some r))) env blk:=by
  intro env blk h1 h2 h4 bB h0' h22 h23 h24;refine R_for (fun k env blk=>env 1= .one (.p (movP ms))∧env 2= .one (.href 576000000 1 0)∧env 4= .one (.href 576000064 1 0)∧env 22= .one (.p (movP ms))∧env 23=vi ms.length∧env 24=vi k∧blk 576000064=(1,some (.var [.p (.int .i64 0), .p .nils]))∧
   ∃ c,blk 576000000=(1,some (.var [.p (.int .i64 F),c]))∧cellL (Ls k) c blk∧(0<k→grown 576512129 lsTy 6 (letP (Ls k)) (.one c) blk)) 0 ms.length (Nat.zero_le _) ?_ ?_
  ·obtain⟨c,e1,e2⟩:=h0';exact⟨h1,h2,h4,h22,h23,h24,bB,c,e1,by rw[hL0];exact e2,fun h=>absurd h (Nat.lt_irrefl 0)⟩
  ·rintro k env blk hk ⟨h1,h2,h4,h22,h23,h24,bB,c,bA,hc,hgc⟩
   by_cases hlt:k<ms.length
   ·have hlt':((k:Int)<(ms.length:Int)):=by omega
    obtain⟨m,hm1⟩:=at_lt hlt;have hmi:=mov_at hm1;have w1:=wrap_succ (n:=k) (by omega);have hc2:cellL (Ls k) c (upd (upd blk 576448192 ((blk 576448192).1+1,some (.var [.p (.int .i64 0), .p (.int .i64 0), .p (.int .i64 0), .p (.int .i64 0), .p (.bool false), .p (.bool false), .p (.int .i64 0)]))) 576448192 ((blk 576448192).1+1,some (.var [.p (.int .i64 m.k), .p (.int .i64 m.a), .p (.int .i64 m.b), .p (.int .i64 m.c), .p (.bool m.l), .p (.bool m.o), .p (.int .i64 m.s)]))):=
     hc.of_eq ((upd_ne (by decide)).trans (upd_ne (by decide))) ((upd_ne (by decide)).trans (upd_ne (by decide)))
    obtain⟨rd,hsn⟩:=hc2.snap;obtain⟨hk1,hk2,pa⟩:=hLs k m hm1;simp only[go_sem,i9_l1,h2,h22,h23,h24,bA,hlt',hmi,Mov.ps,hsn,s30];refine gP_gTr pa lo2 rfl rfl (sc_let _) fun cc blk1 gc hb=> ?_
    have q0:=hb 576000000 (by decide);have q1:=hb 576000064 (by decide);simp only[go_sem,bA,bB] at q0 q1;simp only[go_sem,h1,h2,h4,h22,h23,h24,q0,q1,w1];have gc:grown 576512129 lsTy 6 (letP (Ls (k+1))) (.one cc) blk1:=gc;exact⟨hlt,cc,rfl, .inr (.inl (gc.of_eq (by simp only[upd_apply,Nat.reduceEqDiff,if_false]))),fun _=>gc.of_eq (by simp only[upd_apply,Nat.reduceEqDiff,if_false])⟩
   ·have:k=ms.length:=by omega
    subst this;simp only[go_sem,i9_l1,i9_r2,h1,h2,h4,h23,h24,bB,bA,no_more,i9];rw[hLM] at hc hgc;rcases hc with hc|hc|⟨hM,rfl⟩
    ·exact⟨_, .inl rfl,grown_out3 (hc.of_eq (upd_ne (by decide)))⟩
    ·exact⟨_, .inl rfl,grown_out3 (hc.of_eq (upd_ne (by decide)))⟩
    ·by_cases hz:ms=[]
     ·subst hz;exact⟨_, .inr ⟨hM,rfl,rfl⟩,rfl⟩
     ·exact⟨_, .inl rfl,grown_out3 ((hgc (List.length_pos_iff.2 hz)).of_eq (upd_ne (by decide)))⟩
 by_cases hne:ls=[]
 ·subst hne;have pc':PEv S 17 [.agg [.p (.int .i64 F), .p (.sl [])]] (ri 0):=pc;refine PEv_ex rfl c9 (Nat.le_of_ble_eq_true rfl) ?_;simp only[go_sem,i9,s17,gP_int pc',s29,gP_land hcl land_p];refine loop _ _ ?_ ?_ ?_ ?_ ⟨_,?_, .inr (.inr ⟨rfl,rfl⟩)⟩ ?_ ?_ ?_;all_goals first|rfl|(simp only[go_sem];done)|(simp only[go_sem];rfl)
 ·have pcl:=cloneL hne (by omega);refine PEv_ex rfl c9 (Nat.le_of_ble_eq_true rfl) ?_;simp only[go_sem,i9,s17,gP_int pc,s29];refine gP_g1 pcl lo1 (.inl rfl) fun cc blk0 gc hb0=> ?_
  have b0:=hb0 576000000 (by decide);have b1:=hb0 576000064 (by decide);simp only[go_sem] at b0 b1;simp only[go_sem,b0];refine loop _ _ ?_ ?_ ?_ ?_ ⟨_,?_, .inl (gc.of_eq (upd_ne (by decide)))⟩ ?_ ?_ ?_;all_goals first|rfl|(simp only[go_sem,b1];done)|(simp only[go_sem,b1];rfl)
end Go.Abs
