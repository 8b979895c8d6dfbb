/-
  A part of a proof.
-/
import Derived.Test.YtchbcakfkniimaaGreatDoorWp
set_option linter.unusedSimpArgs false
set_option linter.unusedVariables false
set_option linter.unusedSectionVars false
set_option maxRecDepth 100000
set_option maxHeartbeats 16000000
namespace Go.Abs
section
variable{F:Nat}{ls:List Let}
theorem clone_g{l:List Pc}(hne:l≠[])(hl:l.length≤1000000):PEv S 109 [.one (.p (.sl (pcP l)))] (.one (grownR pcTy 7 (pcP l))):=by
 cases l with
 |nil=>exact absurd rfl hne
 |cons p t=>exact clone_p p t hl
section
variable {Q:Post} {env:Env} {blk:Blk} {os:List IOper} {d:Option Nat}
theorem gP_shift{id:Nat}{l:List Pc}{c:C}{g ab b:Int}(hl:l.length≤1000000)(hb: -100≤b∧b≤100)(hr: ∀ p∈l,-1000000≤p.l.rank∧p.l.rank≤1000000)(hg:grown id pcTy 7 (pcP l) (.one c) blk)
  (hK: ∀ blk',grown id pcTy 7 (pcP (shiftL l g ab b)) (.one c) blk'→(∀ i,i≠id→blk' i=blk i)→RN S .all os Q (put env d (.tup [])) blk'):gP S .all (.sc 107 [.one c,vi g,vi ab,vi b]) d os Q env blk:=by
 have ho:l=[]∨(allow (S.ctx .all) 107 [.one c,vi g,vi ab,vi b] blk).ok id=true:=by
  rcases reach_grown hg with ⟨h,_⟩|h
  ·exact .inl (by simpa using h)
  ·exact .inr (allow_okI (by simp[h]))
 refine gP_sc2 (P:=shPost id (pcP (shiftL l g ab b)) c blk) holds_all (shift_s ho hl hb hr hg) ?_;rintro v blk' ⟨rfl,h1,h2⟩
 exact hK blk' h1 h2
end
theorem leftR_vals(fs:List Fc): ∀ (j:Nat) (L:List Nat),∀ v∈leftR fs j L,v∈L∨v<j+fs.length:=by
 have hset: ∀ (ds:List Nat) (L:List Nat) (x:Nat),∀ v∈setAll L ds x,v∈L∨v=x:=by
  intro ds
  induction ds with
  |nil=>intro L x v h;exact .inl h
  |cons d ds ih=>
   intro L x v h;rcases ih (L.set d x) x v h with h|h
   ·rcases List.mem_or_eq_of_mem_set h with h|h
    ·exact .inl h
    ·exact .inr h
   ·exact .inr h
 induction fs with
 |nil=>intro j L v h;exact .inl h
 |cons f r ih=>
  intro j L v h;rcases ih (j+1) (setAll L f.darts j) v h with h|h
  ·rcases hset _ _ _ v h with h|h
   ·exact .inl h
   ·subst h;exact .inr (by simp)
  ·exact .inr (by simp only[List.length_cons];omega)
def noFc:Fc:=⟨false,[],[],[],false⟩
def faceAt(F:Nat)(ls:List Let)(d:Nat):Fc:=(facesL F ls).getD ((leftL F ls).getD d 0) noFc
theorem leftL_len(F:Nat)(ls:List Let):(leftL F ls).length=2*ls.length:=by simp[leftL,leftR_len]
theorem faceAt_at(g:Fine F ls){d:Nat}(hd:d<2*ls.length): ∃ j,(leftL F ls)[d]? =some j∧(facesL F ls)[j]? =some (faceAt F ls d)∧j<(facesL F ls).length:=by
 obtain⟨j,hj⟩:=at_lt (ls:=leftL F ls) (k:=d) (by rw[leftL_len];exact hd);have hn:0<(facesL F ls).length:=by rw[facesL_len,g.nw];omega
 have hjl:j<(facesL F ls).length:=by
  rcases leftR_vals (facesL F ls) 0 _ j (List.mem_of_getElem? hj) with h|h
  ·have:=List.eq_of_mem_replicate h;omega
  ·omega
 refine⟨j,hj,?_,hjl⟩;obtain⟨f,hf⟩:=at_lt hjl;unfold faceAt;rw[List.getD_eq_getElem?_getD (l:=leftL F ls),hj,Option.getD_some,List.getD_eq_getElem?_getD,hf];rfl
def newP(b:Nat)(r:Int)(d:Bool):Pc:=⟨⟨1,b,r,0,0,false⟩,d⟩
def amIns(ls:List Let)(av b c:Nat)(f:Fc)(side:Bool):List Pc:=
 insAt (shiftL (pieces ls) b c 2) [newP b (if f.above !=side then ((c+2:Nat):Int) else ((c+1:Nat):Int)) f.above,newP b (if f.above !=side then ((c+1:Nat):Int) else ((c+2:Nat):Int)) (!f.above)] av
def amR(F:Nat)(ls:List Let)(av b c:Nat):Option (List Pc):=
 if (b,c)∈(faceAt F ls (2*av)).places then some (amIns ls av b c (faceAt F ls (2*av)) false)
 else if (b,c)∈(faceAt F ls (2*av+1)).places then some (amIns ls av b c (faceAt F ls (2*av+1)) true) else none
def kR (o:Option (List Pc)):RV:= .tup [.one (grownR pcTy 7 (pcP (o.getD []))), .one (.p (.bool o.isSome))]
theorem rank_bound(g:Fine F ls): ∀ p∈pieces ls,-1000000≤p.l.rank∧p.l.rank≤1000000:=by
 intro p hp;obtain⟨i,hi⟩:=List.getElem?_of_mem hp;have hil:i<ls.length:=by rw[← pieces_len];exact(List.getElem?_eq_some_iff.1 hi).1
 obtain⟨l,hl⟩:=at_lt hil;rw[pieces_at hl] at hi;cases hi
 rcases g.ok.kinds l (List.mem_of_getElem? hl) with h|h
 ·have hg:=g.ok.ax.good l (List.mem_of_getElem? hl) h;have:=hg.r0;have:=hg.r1;have hc:cg ls l.gate.toNat≤ls.length:=cnt_le _ _;have:=g.len;simp only;omega
 ·have:=(not_badC (f:=F) h).1 (g.bad l (List.mem_of_getElem? hl));simp only[this.1.2];omega
theorem amSide(g:Fine F ls){av b c k:Nat}(ha:av<ls.length)(hbF:b≤F)(hc:c≤1000){l o:Bool}{sg:Int}(hk:k<2){env:Env}{blk:Blk}{Q:Post}
  (h0:env 0= .one (.p (brdV F ls))) (h3:env 3= .one (.href 5248000000 1 0)) (h6:env 6= .one (.href 5248064320 1 0)) (h7:env 7= .one (.href 5248128448 1 0)) (h8:env 8= .one (.href 5248192448 1 0)) (h40:env 40=vi k)
  (b3:blk 5248000000=(1,some (.var [.p (.int .i64 2), .p (.int .i64 av), .p (.int .i64 b), .p (.int .i64 c), .p (.bool l), .p (.bool o), .p (.int .i64 sg)]))) (b6:blk 5248064320=(1,some (.var [.p (.int .i64 b), .p (.int .i64 c)])))
  (b7:blk 5248128448=(1,some (.var ((newP b ((c+1:Nat):Int) true).ps.map .p)))) (b8:blk 5248192448=(1,some (.var ((newP b ((c+2:Nat):Int) false).ps.map .p))))
  (hno:(b,c)∉(faceAt F ls (2*av+k)).places→ ∀ env' blk',env' 0=env 0→env' 3=env 3→env' 6=env 6→env' 7=env 7→env' 8=env 8→env' 40=vi ((k+1:Nat):Int)→(∀ i,i≠5248577088→blk' i=blk i)→W S .all (.loop i82_l1) (blockQ 0 Q) env' blk')
  (hyes:(b,c)∈(faceAt F ls (2*av+k)).places→ ∀ env' blk' s cc,env' 4= .one cc→env' 5=vb true→grown s pcTy 7 (pcP (amIns ls av b c (faceAt F ls (2*av+k)) (k==1))) (.one cc) blk'→Q .ret env' blk'):
  W S .all (.loop i82_l1) (blockQ 0 Q) env blk:=by
 have hlen:=g.len;have hfing:=g.fing;obtain⟨j,hj1,hj2,hj3⟩:=faceAt_at g (d:=2*av+k) (by omega);have hmemF:=List.mem_of_getElem? hj2;have hjp:=nP_at hj1;have hfp:=fcP_at hj2;have hlt:((k:Int)<2):=by omega
 have hpl:(faceAt F ls (2*av+k)).places.length≤1000000:=by
  obtain⟨w,hw,he⟩:=List.mem_map.1 hmemF;obtain⟨_,hwl,hwm⟩:=walksL_facts g.ok w hw;have h1:=(faceK_len g.ok hwm w.length (Nat.le_refl _)).2.1;rw[faceK_all,he] at h1;have hal:(axisR ls).length≤ls.length:=axisK_len ls ls.length;have h2:w.length*(2*F+2)≤1600*82:=Nat.mul_le_mul (by unfold nD at hwl;omega) (by omega);omega
 generalize hfe:faceAt F ls (2*av+k)=f at*;have pc:=contains_pl f.places (b,c) hpl;have m2:=wrap_mul2 (a:=av) (by omega);have m3:=wrap_add (a:=2*av) (b:=k) (by omega);have w1:=wrap_succ (n:=k) (by omega);have hdl:2*av+k<(leftL F ls).length:=by rw[leftL_len];omega
 have hne:pieces ls≠[]:=List.length_pos_iff.1 (by rw[pieces_len];omega);have hplen:=pieces_len ls;have pcl:=clone_g hne (by omega);have lo1:S.lone 5248896256=false:=by kernel_rfl
 have lo2:S.lone 5249024384=false:=by kernel_rfl
 have hsh:S.shared 107=true:=by kernel_rfl
 refine R_unroll ?_;by_cases hm:(b,c)∈f.places
 ·have hcd:decide ((b,c)∈f.places)=true:=decide_eq_true hm;rw[hcd] at pc;have hsw:(!f.above==(((k:Nat):Int)==1))=(f.above !=(k==1)):=by
   rcases(show k=0∨k=1 by omega) with rfl|rfl<;>cases f.above<;>rfl
  have hln:(pcP (shiftL (pieces ls) b c 2)).length=(pieces ls).length:=by simp[shiftL]
  have t1:List.take (pieces ls).length (pcP (shiftL (pieces ls) b c 2))=pcP (shiftL (pieces ls) b c 2):=List.take_of_length_le (by rw[hln];exact Nat.le_refl _);cases hs:(f.above !=(k==1)) with
  |true=>
    rw[hs] at hsw;simp only[go_sem,i82_l1,h0,h3,h6,h7,h8,h40,b3,b6,b7,b8,hlt,m2,m3,hjp,hfp,Fc.ps,hsw,newP,Pc.ps,s108,gP_bool pc];refine⟨okd,okd,?_⟩;refine gP_g1 pcl lo1 (.inl rfl) fun cc blk1 gc hb1=> ?_
    have e3:=hb1 5248000000 (by decide);have e7:=hb1 5248128448 (by decide);have e8:=hb1 5248192448 (by decide);simp only[go_sem,b3] at e3 e7 e8;simp only[go_sem,h3,e3,hsh];refine gP_shift (l:=pieces ls) (by omega) (by decide) (rank_bound g) gc fun blk2 gc2 hb2=> ?_
    have e3':=(hb2 5248000000 (by decide)).trans e3;have e7':=(hb2 5248128448 (by decide)).trans e7;have e8':=(hb2 5248192448 (by decide)).trans e8;rcases gc2 with ⟨e,_⟩|⟨_,gg,e,hbd⟩
    ·exact absurd (by simpa [shiftL] using e) hne
    ·cases e
     simp only[go_sem,h3,h7,h8,e3',e7',e8',hbd,hln,t1,s110];refine gP_g1 (inserted_p (shiftL (pieces ls) b c 2) [newP b ((c+2:Nat):Int) f.above,newP b ((c+1:Nat):Int) (!f.above)] av (by rw[List.length_map];omega) (by rw[List.length_map];omega) (by simp)) lo2 (.inr (alone_grown (sc_pc _))) fun c2 blk3 gc3 hb3=> ?_
     simp only[go_sem];exact hyes hm _ _ _ c2 (by simp only[go_sem]) (by simp only[go_sem]) (by unfold amIns;rw[hs];exact gc3)
  |false=>
    rw[hs] at hsw;simp only[go_sem,i82_l1,h0,h3,h6,h7,h8,h40,b3,b6,b7,b8,hlt,m2,m3,hjp,hfp,Fc.ps,hsw,newP,Pc.ps,s108,gP_bool pc];refine⟨okd,okd,?_⟩;refine gP_g1 pcl lo1 (.inl rfl) fun cc blk1 gc hb1=> ?_
    have e3:=hb1 5248000000 (by decide);have e7:=hb1 5248128448 (by decide);have e8:=hb1 5248192448 (by decide);simp only[go_sem,b3] at e3 e7 e8;simp only[go_sem,h3,e3,hsh];refine gP_shift (l:=pieces ls) (by omega) (by decide) (rank_bound g) gc fun blk2 gc2 hb2=> ?_
    have e3':=(hb2 5248000000 (by decide)).trans e3;have e7':=(hb2 5248128448 (by decide)).trans e7;have e8':=(hb2 5248192448 (by decide)).trans e8;rcases gc2 with ⟨e,_⟩|⟨_,gg,e,hbd⟩
    ·exact absurd (by simpa [shiftL] using e) hne
    ·cases e
     simp only[go_sem,h3,h7,h8,e3',e7',e8',hbd,hln,t1,s110];refine gP_g1 (inserted_p (shiftL (pieces ls) b c 2) [newP b ((c+1:Nat):Int) f.above,newP b ((c+2:Nat):Int) (!f.above)] av (by rw[List.length_map];omega) (by rw[List.length_map];omega) (by simp)) lo2 (.inr (alone_grown (sc_pc _))) fun c2 blk3 gc3 hb3=> ?_
     simp only[go_sem];exact hyes hm _ _ _ c2 (by simp only[go_sem]) (by simp only[go_sem]) (by unfold amIns;rw[hs];exact gc3)
 ·have hcd:decide ((b,c)∈f.places)=false:=decide_eq_false hm;rw[hcd] at pc;simp only[go_sem,i82_l1,h0,h3,h6,h40,b3,b6,hlt,m2,m3,hjp,hfp,Fc.ps,s108,gP_bool pc,w1];refine⟨okd,hno hm _ _ ?_ ?_ ?_ ?_ ?_ ?_ fun i hi=> ?_⟩
  ·simp only[go_sem,h0]
  ·simp only[go_sem,h3]
  ·simp only[go_sem,h6]
  ·simp only[go_sem,h7]
  ·simp only[go_sem,h8]
  ·simp only[go_sem]
  ·simp only[upd_apply,if_neg hi]
theorem axisMake_p(g:Fine F ls){av b c:Nat}(ha:av<ls.length)(hbF:b≤F)(hc:c≤1000){l o:Bool}{sg:Int}:
  PEv S 82 [.one (.p (brdV F ls)),mvV 2 av b c l o sg] (kR (amR F ls av b c)):=by
 have w1:=wrap_succ (n:=c) (by omega);have w2:IntKind.i64.wrap ((c:Int)+2)=((c+2:Nat):Int):=(wrapI (x:=(c:Int)+2) (by omega) (by omega)).trans (by omega);have hlen:=g.len;have hnz:(((pieces ls).length:Int)==0)=false:=beq_eq_false_iff_ne.2 (by rw[pieces_len];omega);have hfin: ∀ env' blk' s cc (L:List Pc),amR F ls av b c=some L→env' 4= .one cc→env' 5=vb true→grown s pcTy 7 (pcP L) (.one cc) blk'→
   blockQ 0 (thenW S .all i82_r2 (endQ .all [(4,none),(5,none)] fun v blk=>outV blk v=some (kR (amR F ls av b c)))) .ret env' blk':=fun env' blk' s cc L hL h4 h5 hg=>by
  simp only[go_sem,h4,h5];rw[hL];exact grown_out1 hg
 refine pev1 c82 ?_;simp only[go_sem,i82,w1,w2,hnz];have k0:2*av+0=2*av:=rfl;refine amSide g ha hbF hc (k:=0) (by omega) (l:=l) (o:=o) (sg:=sg) ?_ ?_ ?_ ?_ ?_ ?_ ?_ ?_ ?_ ?_ ?_ ?_
 ·simp only[go_sem]
 ·simp only[go_sem]
 ·simp only[go_sem]
 ·simp only[go_sem]
 ·simp only[go_sem]
 ·simp only[go_sem];rfl
 ·simp only[go_sem]
 ·simp only[go_sem]
 ·simp only[go_sem];rfl
 ·simp only[go_sem];rfl
 ·intro hm env' blk' q0 q3 q6 q7 q8 q40 hb;have hm0:(b,c)∉(faceAt F ls (2*av)).places:=hm;simp only[go_sem] at q0 q3 q6 q7 q8;refine amSide g ha hbF hc (k:=1) (by omega) (l:=l) (o:=o) (sg:=sg) q0 q3 q6 q7 q8 q40 ?_ ?_ ?_ ?_ ?_ ?_
  ·rw[hb _ (by decide)];simp only[go_sem]
  ·rw[hb _ (by decide)];simp only[go_sem]
  ·rw[hb _ (by decide)];simp only[go_sem];rfl
  ·rw[hb _ (by decide)];simp only[go_sem];rfl
  ·intro hm2 env2 blk2 p0 p3 p6 p7 p8 p40 hb2;have hr:amR F ls av b c=none:=by unfold amR;rw[if_neg hm0,if_neg hm2]
   have hge: ¬ (((1+1:Nat):Int)<2):=by decide
   refine R_unroll ?_;simp only[go_sem,i82_l1,i82_r2,p40,hge,hr];rfl
  ·intro hm2 env2 blk2 s cc h4 h5 hg;exact hfin env2 blk2 s cc _ (by unfold amR;rw[if_neg hm0,if_pos hm2];rfl) h4 h5 hg
 ·intro hm env2 blk2 s cc h4 h5 hg;have hm0:(b,c)∈(faceAt F ls (2*av)).places:=hm;exact hfin env2 blk2 s cc _ (by unfold amR;rw[if_pos hm0];rfl) h4 h5 hg
def lmR(ls:List Let)(av:Nat)(sg:Int)(o:Bool):List Pc:=
 insAt (pieces ls) [⟨⟨2,0,0,((cnt Let.isC ls/2+1:Nat):Int),sg,o⟩,false⟩,⟨⟨2,0,0,((cnt Let.isC ls/2+1:Nat):Int),sg,!o⟩,false⟩] av
theorem loopMake_p(g:Fine F ls){av:Nat}(ha:av<ls.length){b c:Int}{l o:Bool}{sg:Int}:
  PEv S 85 [.one (.p (brdV F ls)),mvV 5 av b c l o sg] (kR (some (lmR ls av sg o))):=by
 have hcr:=g.cr;have pv1:=visit_p F (cnt Let.isC ls/2) sg o (.sl (pcP (pieces ls))) (.sl (fcP (facesL F ls))) (.sl (nP (leftL F ls))) (.int .i64 (cnt Let.isP ls:Nat)) (.sl (nP (counts ls F))) 1 (by omega) (by omega);have pv2:=visit_p F (cnt Let.isC ls/2) sg (!o) (.sl (pcP (pieces ls))) (.sl (fcP (facesL F ls))) (.sl (nP (leftL F ls))) (.int .i64 (cnt Let.isP ls:Nat)) (.sl (nP (counts ls F))) 1 (by omega) (by omega);have hlen:=g.len;have hplen:=pieces_len ls
 have pin:=inserted_p (pieces ls) [⟨⟨2,0,0,((cnt Let.isC ls/2+1:Nat):Int),sg,o⟩,false⟩,⟨⟨2,0,0,((cnt Let.isC ls/2+1:Nat):Int),sg,!o⟩,false⟩] av (by omega) (by omega) (by simp);have lo:S.lone 5440065280=false:=by kernel_rfl
 refine pev1 c85 ?_;have c1:((1:Nat):Int)=1:=rfl;rw[c1] at pv1 pv2;have hl1: ∀ blk:Blk,∀ s,∀ x1 x2 x3 x4 x5 x6 x7:PV,land blk [] s ((RV.agg [.p x1, .p x2, .p x3, .p x4, .p x5, .p x6, .p x7]).pureIf (S.lone s))=some (.agg [.p x1, .p x2, .p x3, .p x4, .p x5, .p x6, .p x7],[]):=fun blk s x1 x2 x3 x4 x5 x6 x7=>by cases S.lone s<;>rfl
 simp only[go_sem,i85,s114,dP_land pv1 (hl1 _ _ _ _ _ _ _ _ _),dP_land pv2 (hl1 _ _ _ _ _ _ _ _ _),s110];refine dP_g1 pin lo (.inr (alone_grown (sc_pc _))) fun cc blk1 w gc hb hw=> ?_
 simp only[go_sem];refine⟨?_,grown_out1 gc⟩;rcases hw with rfl|rfl<;>kernel_rfl
def isI(n:Nat)(i:Int):Bool:=decide (0≤i)&&decide (i<(n:Int))
theorem is_p(i:Int)(n:Nat):PEv S 80 [vi i, .one (.p (.box [.int .i64 n]))] (rb (isI n i)):=by
 refine pev1 c80 ?_;unfold isI;by_cases h1:0≤i
 ·by_cases h2:i<(n:Int)
  ·simp only[go_sem,i80,h1,h2]
  ·simp only[go_sem,i80,h1,h2]
 ·simp only[go_sem,i80,h1]
theorem sc_let(l:List Let):((letP l).all fun e=>e.all PV.scalar)=true:=by simp[Let.ps,PV.scalar]
abbrev rokc(F:Nat)(L:List Let):RV:= .tup [.agg [.p (.int .i64 F),grownR lsTy 6 (letP L)], .one (.p (.int .i64 0))]
def doR(F:Nat)(ls:List Let)(k:Int):Option (List Pc)→RV
 |none=>rcode 4
 |some L=>if (400:Int)<(ls.length:Int)+(growsR k).1∨(100:Int)<((cnt Let.isC ls/2:Nat):Int)+(growsR k).2 then rcode 7 else rokc F (finL L)
def stk(h:Nat):List Let:=(List.range (2*h)).map fun i=>⟨1,0,((i+1:Nat):Int),0,0,false⟩
section
variable {h:Nat}
theorem stk_len:(stk h).length=2*h:=by simp[stk]
theorem stk_at{i:Nat}(hi:i<2*h):(stk h)[i]? =some ⟨1,0,((i+1:Nat):Int),0,0,false⟩:=by
 unfold stk;rw[List.getElem?_map,List.getElem?_range hi];rfl
theorem stk_mem{l:Let}(hl:l∈stk h): ∃ i,i<2*h∧l=⟨1,0,((i+1:Nat):Int),0,0,false⟩:=by
 obtain⟨i,hi,rfl⟩:=List.mem_map.1 hl;exact⟨i,List.mem_range.1 hi,rfl⟩
theorem stk_cnt(p:Let→Bool)(hp: ∀ l∈stk h,p l=true)(k:Nat)(hk:k≤2*h):cnt p ((stk h).take k)=k:=by
 unfold cnt;rw[List.countP_eq_length.2 fun l hl=>hp l (List.mem_of_mem_take hl),List.length_take,stk_len];omega
theorem stk_P: ∀ l∈stk h,l.isP=true:=fun l hl=>by obtain⟨i,_,rfl⟩:=stk_mem hl;rfl
theorem stk_all:cnt Let.isP (stk h)=2*h:=by
 have:=stk_cnt (h:=h) Let.isP stk_P (2*h) (Nat.le_refl _);rwa[List.take_of_length_le (by rw[stk_len];exact Nat.le_refl _)] at this
theorem stk_noC:cnt Let.isC (stk h)=0:=by
 unfold cnt;rw[List.countP_eq_zero];intro l hl;obtain⟨i,_,rfl⟩:=stk_mem hl;simp[Let.isC]
theorem stk_cg:cg (stk h) 0=2*h:=by
 have:=stk_cnt (h:=h) (atG 0) (fun l hl=>by obtain⟨i,_,rfl⟩:=stk_mem hl;rfl) (2*h) (Nat.le_refl _);rwa[List.take_of_length_le (by rw[stk_len];exact Nat.le_refl _)] at this
theorem stk_dn{i:Nat}(hi:i≤2*h):dn (stk h) i=(i%2==0):=by
 unfold dn;rw[stk_cnt (h:=h) Let.isP stk_P i hi]
theorem stk_pl(i:Nat):plOf (stk h) ⟨1,0,((i+1:Nat):Int),0,0,false⟩=i:=by
 unfold plOf;have:firstG (stk h) 0=0:=rfl;simp only[Int.toNat_zero,this,Int.toNat_natCast];omega
theorem stk_letters:lettersR 1 (stk h)=true:=by
 refine(letters_law (F:=1)).2 ⟨?_,?_,?_⟩
 ·rw[List.any_eq_false];intro l hl;obtain⟨i,_,rfl⟩:=stk_mem hl;simp[badL]
 ·refine(ranks_iff (F:=1) fun l hl hp=> ?_).2 ⟨fun l hl hp=> ?_,fun i j l m h1 h2 _ _ he=> ?_⟩
  ·obtain⟨i,_,rfl⟩:=stk_mem hl;exact⟨by simp,by simp⟩
  ·obtain⟨i,hi,rfl⟩:=stk_mem hl;refine⟨by simp,by simp,by simp;omega,?_⟩;show((i+1:Nat):Int)≤(cg (stk h) (0:Int).toNat:Int);rw[Int.toNat_zero,stk_cg];omega
  ·have i1:=(List.getElem?_eq_some_iff.1 h1).1;have i2:=(List.getElem?_eq_some_iff.1 h2).1;rw[stk_len] at i1 i2;rw[stk_at i1] at h1;rw[stk_at i2] at h2;cases h1;cases h2
   rw[stk_pl,stk_pl] at he;exact he
 ·unfold crossR;have h0:idsK (stk h) (stk h).length=[]:=by
   have: ∀ k,k≤2*h→idsK (stk h) k=[]:=by
    intro k
    induction k with
    |zero=>intro _;rfl
    |succ k ih=>
     intro hk;unfold idsK;rw[stk_at (show k<2*h by omega),ih (by omega)];rfl
   exact this _ (by rw[stk_len];exact Nat.le_refl _)
  rw[h0,stk_noC];simp only[Bool.and_eq_true];refine⟨⟨rfl,List.all_eq_true.2 fun k hk=> ?_⟩,rfl⟩;have hk:=List.mem_range.1 hk;rw[stk_len] at hk;unfold xOk;rw[stk_at hk];rfl
theorem stk_ok(hh:h≤500000):dgOK 1 (stk h):=by
 obtain⟨hb1,hrk,hcr⟩:=(letters_law (F:=1)).1 (stk_letters (h:=h));have hbl: ∀ l∈stk h,badL 1 l=false:=fun l hl=>by simpa using List.any_eq_false.1 hb1 l hl
 have hg:gates 1 (stk h):=fun l hl hp=>((not_badP hp).1 (hbl l hl)).1.1.1
 obtain⟨g1,g2⟩:=(ranks_iff hg).1 hrk;exact⟨by rw[stk_len];omega,⟨g1,g2⟩,hcr,fun l hl=>bad_kind (hbl l hl)⟩
theorem stk_axl:(axisR (stk h)).length=2*h:=by rw[axisR_len,stk_all]
theorem stk_axi(hh:h≤500000){i:Nat}(hi:i<2*h):(axisR (stk h)).idxOf i=i:=by
 rw[axis_idx (stk_ok hh).ax (stk_at hi) rfl,stk_pl]
theorem stk_nf(hh:h≤500000){e:Nat}(he:e<2*h):nxt (stk h) (2*e)=if ((e+1)%(2*h))%2=0 then 4*h+2*((e+1)%(2*h)) else 4*h+2*(((e+1)%(2*h)+2*h - 1)%(2*h))+1:=by
 have hm:=Nat.mod_lt (e+1) (show 0<2*h by omega);show turnD _ _ _=_;unfold turnD;rw[stk_len,stk_axl,if_neg (by omega)];have e1:(2*e%2==0)=true:=by simp
 simp only[e1,if_true,show 2*e/2=e by omega,stk_at hm,stk_axi hh hm,stk_dn (Nat.le_of_lt hm)];generalize (e+1)%(2*h)=m;by_cases c:m%2=0
 ·simp[c];omega
 ·simp[c];omega
theorem stk_nb(hh:h≤500000){e:Nat}(he:e<2*h):nxt (stk h) (2*e+1)=if e%2=0 then 4*h+2*((e+2*h - 1)%(2*h))+1 else 4*h+2*e:=by
 show turnD _ _ _=_;unfold turnD;rw[stk_len,stk_axl,if_neg (by omega)];have e1:((2*e+1)%2==0)=false:=by simp
 simp only[e1,Bool.false_eq_true,if_false,show(2*e+1)/2=e by omega,stk_at he,stk_axi hh he,stk_dn (Nat.le_of_lt he)];by_cases c:e%2=0
 ·simp[c];omega
 ·have:(e%2==0)=false:=by simpa using c
  simp[c];omega
end
section
variable {h:Nat}
theorem mod1{n e:Nat}(he:e<n):(e+1)%n=if e+1=n then 0 else e+1:=by
 by_cases c:e+1=n
 ·rw[if_pos c,c,Nat.mod_self]
 ·rw[if_neg c,Nat.mod_eq_of_lt (by omega)]
theorem mod2{n m:Nat}(hm:m<n):(m+n - 1)%n=if m=0 then n - 1 else m - 1:=by
 by_cases c:m=0
 ·rw[if_pos c];subst c;rw[Nat.zero_add,Nat.mod_eq_of_lt (by omega)]
 ·rw[if_neg c,show m+n - 1=(m - 1)+n by omega,Nat.add_mod_right,Nat.mod_eq_of_lt (by omega)]
theorem v1(hh:h≤500000){e:Nat}(he:e<2*h)(c:e%2=0):nxt (stk h) (2*e)=4*h+2*e+1:=by
 rw[stk_nf hh he,mod1 he,if_neg (by omega: ¬ e+1=2*h),if_neg (by omega),mod2 (by omega),if_neg (by omega)];omega
theorem v2(hh:h≤500000){e:Nat}(he:e<2*h)(c:e%2=1): ∃ q,q<2*h∧q%2=0∧(e+1<2*h→q=e+1)∧nxt (stk h) (2*e)=4*h+2*q:=by
 rw[stk_nf hh he,mod1 he];by_cases d:e+1=2*h
 ·rw[if_pos d];exact⟨0,by omega,rfl,by omega,rfl⟩
 ·rw[if_neg d,if_pos (by omega)];exact⟨e+1,by omega,by omega,fun _=>rfl,rfl⟩
theorem v3(hh:h≤500000){e:Nat}(he:e<2*h)(c:e%2=0): ∃ q,q<2*h∧q%2=1∧(1≤e→q=e - 1)∧nxt (stk h) (2*e+1)=4*h+2*q+1:=by
 rw[stk_nb hh he,if_pos c,mod2 he];by_cases d:e=0
 ·rw[if_pos d];exact⟨2*h - 1,by omega,by omega,by omega,rfl⟩
 ·rw[if_neg d];exact⟨e - 1,by omega,by omega,fun _=>rfl,rfl⟩
theorem v4(hh:h≤500000){e:Nat}(he:e<2*h)(c:e%2=1):nxt (stk h) (2*e+1)=4*h+2*e:=by
 rw[stk_nb hh he,if_neg (by omega)]
end
theorem finL_len(L:List Pc):(finL L).length=L.length:=by simp[finL,rotK]
theorem insAt_len(l x:List Pc)(k:Nat):(insAt l x k).length=l.length+x.length:=by
 simp only[insAt,List.length_append,List.length_take,List.length_drop];omega
end
end Go.Abs
