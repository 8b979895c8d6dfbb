/-
  A part of a proof.
-/
import Derived.Test.YtjjdebhkbfeniaaGreatDoorWj
set_option linter.unusedSimpArgs false
set_option linter.unusedVariables false
set_option linter.unusedSectionVars false
set_option maxRecDepth 100000
set_option maxHeartbeats 16000000
namespace Go.Abs
section
variable{F:Nat}{ls:List Let}
structure Fc where
 above:Bool
 darts:List Nat
 places:List (Nat × Nat)
 fingers:List Nat
 outer:Bool
def Fc.ps(f:Fc):List PV:=[.bool f.above, .sl (nP f.darts), .sl (plP f.places), .sl (nP f.fingers), .bool f.outer]
def Fc.add(F:Nat)(ls:List Let)(f:Fc)(x:Nat):Fc:=
 if x<2*ls.length then {f with darts:=f.darts++[x]}
 else {f with places:=f.places++(if x%2=0 then pieceP F ls ((x - 2*ls.length)/2) else (pieceP F ls ((x - 2*ls.length)/2)).reverse),fingers:=f.fingers++(if x%2=0 then pieceF F ls ((x - 2*ls.length)/2) else (pieceF F ls ((x - 2*ls.length)/2)).reverse),outer:=f.outer||decide ((x - 2*ls.length)/2+1=(axisR ls).length)}
def Fc.new(ls:List Let)(d:Nat):Fc:=⟨dn ls (d/2+1),[],[],[],false⟩
def faceW(F:Nat)(ls:List Let)(w:List Nat):Fc:=w.foldl (Fc.add F ls) (Fc.new ls (w.headD 0))
def facesL(F:Nat)(ls:List Let):List Fc:=(walksL (nxt ls) (nD ls)).map (faceW F ls)
theorem gN_le(ok:dgOK F ls){j:Nat}(hj:j<(axisR ls).length):gN ls ((axisR ls).getD j 0)≤F:=by
 obtain⟨u,l,_,du,hl,_,hg⟩:=axis_get ok hj;rw[du,gN_of hl];have:=hg.g1;have:=hg.g0;omega
theorem pieceP_len(ok:dgOK F ls){j:Nat}(hj:j<(axisR ls).length):(pieceP F ls j).length≤2*F+2:=by
 have h1:=gN_le ok hj;have h2:=gN_le ok (Nat.mod_lt (j+1) (show 0<(axisR ls).length by omega));unfold pieceP;simp only;split<;>simp only[List.length_append,spanP_len]<;>omega
theorem pieceF_len(ok:dgOK F ls){j:Nat}(hj:j<(axisR ls).length):(pieceF F ls j).length≤2*F+2:=by
 have h1:=gN_le ok hj;have h2:=gN_le ok (Nat.mod_lt (j+1) (show 0<(axisR ls).length by omega));unfold pieceF;simp only;split<;>simp only[List.length_append,spanF_len]<;>omega
theorem walkF_mem(next:Nat→Nat): ∀ (k x:Nat) (S:List Bool),∀ y∈(walkF next k x S).1,y<S.length:=by
 intro k
 induction k with
 |zero=>intro x S y h;simp[walkF] at h
 |succ k ih=>
  intro x S y h;unfold walkF at h;cases hs:S.getD x true with
  |true=>rw[hs] at h;simp at h
  |false=>
   rw[hs] at h;have hx:x<S.length:=by
    rcases Nat.lt_or_ge x S.length with h1|h1
    ·exact h1
    ·rw[List.getD_eq_getElem?_getD,List.getElem?_eq_none h1] at hs;cases hs
   simp only[Bool.false_eq_true,if_false,List.mem_cons] at h;rcases h with rfl|h
   ·exact hx
   ·have:=ih _ _ y h
    simpa using this
theorem walkF_wlen(next:Nat→Nat): ∀ (k x:Nat) (S:List Bool),(walkF next k x S).1.length≤unseen S:=by
 intro k
 induction k with
 |zero=>intro x S;simp[walkF]
 |succ k ih=>
  intro x S;unfold walkF;cases hs:S.getD x true with
  |true=>simp
  |false=>
   have hsx:S[x]? =some false:=by
    rw[List.getD_eq_getElem?_getD] at hs;cases h1:S[x]? with
    |none=>rw[h1] at hs;cases hs
    |some b=>rw[h1] at hs;exact congrArg some hs
   have hun:=unseen_set hsx;have:=ih (next x) (S.set x true);simp only[Bool.false_eq_true,if_false,List.length_cons];omega
theorem walkF_cons(next:Nat→Nat){k x:Nat}{S:List Bool}(h:S.getD x true=false): ∃ t,(walkF next (k+1) x S).1=x::t:=by
 unfold walkF;rw[h];exact⟨_,rfl⟩
theorem walksK_facts(next:Nat→Nat)(N:Nat): ∀ k,∀ w∈(walksK next N k).1,(∃ d t,w=d::t∧d<k)∧w.length≤N∧ ∀ y∈w,y<N:=by
 intro k
 induction k with
 |zero=>intro w h;simp[walksK] at h
 |succ k ih=>
  intro w h;rw[walksK_succ] at h;unfold walkStep at h;have hlen:=walksK_len next N k;have old:w∈(walksK next N k).1→(∃ d t,w=d::t∧d<k+1)∧w.length≤N∧ ∀ y∈w,y<N:=fun h=>by
   obtain⟨⟨d,t,h1,h2⟩,h3⟩:=ih w h;exact⟨⟨d,t,h1,by omega⟩,h3⟩
  cases hs:(walksK next N k).2.getD k true with
  |true=>
   simp only[hs,if_true] at h;exact old h
  |false=>
   simp only[hs,Bool.false_eq_true,if_false,List.mem_append,List.mem_singleton] at h;rcases h with h|rfl
   ·exact old h
   ·obtain⟨t,ht⟩:=walkF_cons next (k:=(walksK next N k).2.length) hs;refine⟨⟨k,t,ht,by omega⟩,?_,fun y hy=> ?_⟩
    ·have h1:=walkF_wlen next ((walksK next N k).2.length+1) k (walksK next N k).2;have h2:=unseen_le (walksK next N k).2;omega
    ·have:=walkF_mem next _ _ _ y hy;omega
theorem walksL_facts(ok:dgOK F ls): ∀ w∈walksL (nxt ls) (nD ls),(∃ d t,w=d::t∧d<2*ls.length)∧w.length≤nD ls∧ ∀ y∈w,y<nD ls:=by
 intro w h;unfold walksL at h;rw[walksK_end (maps ok) (nD ls) (by unfold nD;omega) (Nat.le_refl _)] at h;exact walksK_facts (nxt ls) (nD ls) _ w h
abbrev faTy:Nat:=110
theorem toPss_face{a b:PV}{id g z o l:Nat}{cp cf:C}:toPss [[.p a, .hsl id g z o l,cp,cf, .p b]]=none:=rfl
theorem elems_face{blk:Blk}{s g ty sd td zd sp tp zp sf tf zf:Nat}{a o:Bool}{cd cp cf:C}{D P G:List (List PV)}(hb:blk s=(g,some (.carr ty 5 [[.p (.bool a),cd,cp,cf, .p (.bool o)]])))(gd:grown sd td zd D (.one cd) blk)(gp:grown sp tp zp P (.one cp) blk)(gf:grown sf tf zf G (.one cf) blk):
  ∃ fr,elemsOf blk (.one (.hsl s g 5 0 1))=some ([[.bool a, .sl D, .sl P, .sl G, .bool o]],[s],fr)∧allArr blk fr∧ ∀ i∈fr,i=sd∨i=sp∨i=sf:=by
 obtain⟨r1,n1,a1,q1⟩:=gd.snapA;obtain⟨r2,n2,a2,q2⟩:=gp.snapA;obtain⟨r3,n3,a3,q3⟩:=gf.snapA;refine⟨r1++(r2++r3),?_,a1.app (a2.app a3),fun i hi=> ?_⟩
 ·simp only[elemsOf,hb];simp[collect,n1,n2,n3,snap_p,PV.norm]
 ·simp only[List.mem_append] at hi;rcases hi with hi|hi|hi
  ·rcases q1 with rfl|rfl<;>simp at hi;exact .inl hi
  ·rcases q2 with rfl|rfl<;>simp at hi;exact .inr (.inl hi)
  ·rcases q3 with rfl|rfl<;>simp at hi;exact .inr (.inr hi)
abbrev fcP(l:List Fc):List (List PV):=l.map Fc.ps
theorem addDarts(F:Nat)(ls:List Let): ∀ (w:List Nat) (f:Fc),f.darts≠[]→(w.foldl (Fc.add F ls) f).darts≠[]:=by
 intro w
 induction w with
 |nil=>intro f h;exact h
 |cons x w ih=>
  intro f h;refine ih _ ?_;unfold Fc.add;split
  ·simp
  ·exact h
theorem faceW_darts{d:Nat}{t:List Nat}(h:d<2*ls.length):(faceW F ls (d::t)).darts≠[]:=by
 unfold faceW;refine addDarts F ls t _ ?_;unfold Fc.add;rw[show(d::t).headD 0=d from rfl,if_pos h];simp
def belK(ls:List Let)(k:Nat):List Bool:=(List.range ls.length).map fun i=>decide (i<k)&& !dn ls (i+1)
theorem belK_len(ls:List Let)(k:Nat):(belK ls k).length=ls.length:=by simp[belK]
theorem belK_zero(ls:List Let):belK ls 0=List.replicate ls.length false:=by
 refine List.ext_getElem? fun i=> ?_
 simp only[belK,List.getElem?_map,List.getElem?_replicate];by_cases h:i<ls.length
 ·simp[h]
 ·rw[List.getElem?_eq_none (by simpa using h),if_neg h];rfl
theorem belK_set(ls:List Let)(k:Nat):belK ls (k+1)=(belK ls k).set k (!dn ls (k+1)):=by
 refine List.ext_getElem? fun i=> ?_
 rw[List.getElem?_set,belK_len];simp only[belK,List.getElem?_map];by_cases h:i<ls.length
 ·rw[List.getElem?_range h];by_cases e:k=i
  ·subst e;simp[h]
  ·simp only[Option.map_some,e,if_false];congr 2;exact decide_eq_decide.2 (by omega)
 ·rw[List.getElem?_eq_none (by simpa using h)];by_cases e:k=i
  ·subst e;rw[if_pos rfl,if_neg h];rfl
  ·rw[if_neg e];rfl
abbrev belL(ls:List Let):List Bool:=belK ls ls.length
theorem belL_at{i:Nat}(h:i<ls.length):(belL ls)[i]? =some (!dn ls (i+1)):=by simp[belK,h]
theorem below_p(ok:dgOK F ls):PEv S 79 [.one (.p (dgV F ls))] (.one (.own 4 1 (bP (belL ls)))):=by
 have hl:=ok.hl;have hroom:ls.length≤140737488355328:=by omega
 have hrep:List.replicate ls.length [PV.bool false]=bP (belK ls 0):=by rw[belK_zero];simp
 refine pev1 c79 ?_;simp only[go_sem,i79,hroom,hrep];refine R_for (fun k env blk=>env 0= .one (.p (dgV F ls))∧env 3= .one (.hsl 5056064384 1 1 0 ls.length)∧blk 5056064384=(1,some (.arr 4 1 (bP (belK ls k))))∧
   env 4=vb (!dn ls k)∧env 18= .one (.p (lsP ls))∧env 19=vi ls.length∧env 20=vi k) 0 ls.length (Nat.zero_le _) ?_ ?_
 ·simp only[go_sem];first|exact⟨rfl,rfl⟩|exact⟨rfl,rfl,rfl⟩|exact⟨rfl,rfl,rfl,rfl⟩|exact rfl
 ·rintro k env blk hk ⟨h0,h3,hA,h4,h18,h19,h20⟩
  by_cases hlt:k<ls.length
  ·obtain⟨l,hk1⟩:=at_lt hlt;have hi:=ps_of hk1;have hlt':((k:Int)<(ls.length:Int)):=by omega
   have w1:=wrap_succ (n:=k) (by omega);have hlen:k<(belK ls k).length:=by rw[belK_len];exact hlt
   obtain⟨b0,hb0⟩:=at_lt hlen;have hbp:=bP_at hb0;have hset:=bP_set (belK ls k) k (!dn ls (k+1));rw[← belK_set] at hset;cases hp:(l.kind==1) with
   |true=>
    have hd:=dn_hit hk1 hp;have hdat:=bP_at (downs_at hk1 hp);rw[hd] at hset;rw[Bool.not_not] at hset;simp only[go_sem,i79_l1,h0,h3,hA,h4,h18,h19,h20,hi,Let.ps,hlt,hlt',w1,hp,hdat,hbp,hset,hd]
   |false=>
    have hd:=dn_miss hk1 hp;rw[hd] at hset;simp only[go_sem,i79_l1,h0,h3,hA,h4,h18,h19,h20,hi,Let.ps,hlt,hlt',w1,hp,hbp,hset,hd]
  ·have:k=ls.length:=by omega
   subst this;simp only[go_sem,i79_l1,i79_r2,h3,h19,h20,no_more];exact outV_own hA (by simp[belK])
abbrev isBt(id:Nat):Prop:=siteFn id=143
theorem spanP_at{g r T k:Nat}(h:k≤T - g):(spanP g r T)[k]? =some (g+k,if k=0 then r else 0):=by
 cases k with
 |zero=>rfl
 |succ k=>
  unfold spanP;rw[List.getElem?_cons_succ,List.getElem?_map,List.getElem?_range (by omega)];simp;omega
theorem spanF_at{g T k:Nat}(h:k<T - g):(spanF g T)[k]? =some (g+1+k):=by
 unfold spanF;rw[List.getElem?_map,List.getElem?_range h];rfl
def btPost(g r T:Nat)(ps fs:List (List PV))(i1 i2:Nat)(blk:Blk)(v:V)(blk':Blk):Prop:=
 ∃ c1 c2 j2,v= .tup [.one c1, .one c2]∧grown 9152320192 plTy 2 (ps++plP (spanP g r T)) (.one c1) blk'∧grown j2 3 1 (fs++nP (spanF g T)) (.one c2) blk'∧(j2=i2∨j2=9152256256)∧
  Kept (fun id=>isBt id∨id=i1∨id=i2) blk blk'
def bt1:List Nat:=[9152000000,9152000064,9152128128,9152256192,9152256256,9152320128]
def bt2:List Nat:=[9152000000,9152000064,9152128128,9152128192,9152256192,9152320128,9152320192]
theorem between_s{al:Al}{blk:Blk}{g r T t i1 i2:Nat}{ps fs:List (List PV)}{c1 c2:C}(okf: ∀ id,isBt id→al.ok id=true)(o1:al.ok i1=true)(o2:al.ok i2=true)(hT:g≤T)(ht:t=if T=g then r else 0)(hb:T≤1000)(hps:ps.length≤1000000)(hfs:fs.length≤1000000)
  (n12:i1≠i2) (nb1:i1∉bt1) (nb2:i2∉bt2) (h1:grown i1 plTy 2 ps (.one c1) blk) (h2:grown i2 3 1 fs (.one c2) blk):
  ∃ v blk',SEv S 143 [.agg [.p (.int .i64 g), .p (.int .i64 r)], .agg [.p (.int .i64 T), .p (.int .i64 t)], .one c1, .one c2] al blk v blk'∧btPost g r T ps fs i1 i2 blk v blk':=by
 have k0:al.ok 9152000000=true:=okf _ rfl;have k64:al.ok 9152000064=true:=okf _ rfl;have kb1:al.ok 9152128128=true:=okf _ rfl;have ka1:al.ok 9152128192=true:=okf _ rfl;have kb2:al.ok 9152256192=true:=okf _ rfl;have ka2:al.ok 9152256256=true:=okf _ rfl;have kb3:al.ok 9152320128=true:=okf _ rfl;have ka3:al.ok 9152320192=true:=okf _ rfl;refine SEv_fn c143 (Nat.le_of_ble_eq_true rfl) ?_;simp only[go_sem,i143,k0,k64];have lenP:=spanP_len g r T;have lenF:=spanF_len g T
 refine R_for (fun k env blk'=>env 4= .one (.href 9152000000 ((blk 9152000000).1+1) 0)∧env 5= .one (.href 9152000064 ((blk 9152000064).1+1) 0)∧
   blk' 9152000000=((blk 9152000000).1+1,some (.var [.p (.int .i64 ((g+k:Nat):Int)), .p (.int .i64 ((if k=0 then r else 0:Nat):Int))]))∧blk' 9152000064=((blk 9152000064).1+1,some (.var [.p (.int .i64 T), .p (.int .i64 t)]))∧
   ∃ d1 d2 j1 j2,env 2= .one d1∧env 3= .one d2∧(j1=i1∨j1=9152128192)∧(j2=i2∨j2=9152256256)∧grown j1 plTy 2 (ps++plP ((spanP g r T).take k)) (.one d1) blk'∧grown j2 3 1 (fs++nP ((spanF g T).take k)) (.one d2) blk'∧Kept (fun id=>isBt id∨id=i1∨id=i2) blk blk') 0 (T - g) (Nat.zero_le _) ?_ ?_
 ·simp only[go_sem];refine⟨rfl,c1,c2,i1,i2,rfl,rfl, .inl rfl, .inl rfl,?_,?_,?_⟩
  ·exact(h1.of_eq (upd_ne (ne_of' nb1 (by simp[bt1])))).of_eq (upd_ne (ne_of' nb1 (by simp[bt1])))
  ·exact(h2.of_eq (upd_ne (ne_of' nb2 (by simp[bt2])))).of_eq (upd_ne (ne_of' nb2 (by simp[bt2])))
  ·exact((Kept.refl _ _).upd (.inl rfl) _).upd (.inl rfl) _
 ·rintro k env blk' hk ⟨h4,h5,hA,hB,d1,d2,j1,j2,e2,e3,q1,q2,g1,g2,hkp⟩
  have oj1:al.ok j1=true:=by rcases q1 with rfl|rfl<;>assumption
  have oj2:al.ok j2=true:=by rcases q2 with rfl|rfl<;>assumption
  have n1: ∀ a,a∈bt1→j1≠a:=fun a ha e=>by
   rcases q1 with rfl|rfl
   ·exact nb1 (e▸ha)
   ·exact absurd (e▸ha) (by decide)
  have n2: ∀ a,a∈bt2→j2≠a:=fun a ha e=>by
   rcases q2 with rfl|rfl
   ·exact nb2 (e▸ha)
   ·exact absurd (e▸ha) (by decide)
  have n3:j1≠j2:=fun e=>by
   rcases q1 with rfl|rfl
   ·rcases q2 with rfl|rfl
    ·exact n12 e
    ·exact n1 _ (by decide) e
   ·exact n2 _ (by decide) e.symm
  have kj1:isBt j1∨j1=i1∨j1=i2:=by
   rcases q1 with rfl|rfl
   ·exact .inr (.inl rfl)
   ·exact .inl rfl
  have kj2:isBt j2∨j2=i1∨j2=i2:=by
   rcases q2 with rfl|rfl
   ·exact .inr (.inr rfl)
   ·exact .inl rfl
  have ltk:((spanP g r T).take k).length=k:=by rw[List.length_take];omega
  have ltf:((spanF g T).take k).length=k:=by rw[List.length_take];omega
  by_cases hlt:k<T - g
  ·have hlt':(((g+k:Nat):Int)<(T:Int)):=by omega
   have w1:IntKind.i64.wrap (((g+k:Nat):Int)+1)=((g+(k+1):Nat):Int):=wrap_succ (n:=g+k) (by omega);have hp:plP ((spanP g r T).take (k+1))=plP ((spanP g r T).take k)++[[.int .i64 ((g+k:Nat):Int), .int .i64 ((if k=0 then r else 0:Nat):Int)]]:=by
    rw[List.take_add_one,spanP_at (by omega),plP_app];rfl
   have hf:nP ((spanF g T).take (k+1))=nP ((spanF g T).take k)++[[.int .i64 ((g+(k+1):Nat):Int)]]:=by
    rw[List.take_add_one,spanF_at hlt,nP_app,show g+1+k=g+(k+1) by omega];rfl
   simp only[go_sem,i143_l1,h4,h5,hA,hB,e2,hlt',k0,k64,kb1];refine gP_appA (id:=j1) (site:=9152128192) (bytes:=16) (xs:=[[.int .i64 ((g+k:Nat):Int), .int .i64 ((if k=0 then r else 0:Nat):Int)]]) (rd:=[9152128128]) (by simp[ka1,oj1,kb1]) (g1.of_eq (upd_ne (n1 _ (by decide)))) (by simp[elemsOf,upd_apply]) (.inl rfl) (by simp only[List.length_append,List.length_map,ltk,List.length_cons,List.length_nil];omega) fun c blk2 hc hb2=> ?_
   have hA2:=(hb2 9152000000 (by decide) (n1 _ (by decide)).symm).trans ((upd_ne (by decide)).trans hA);have hB2:=(hb2 9152000064 (by decide) (n1 _ (by decide)).symm).trans ((upd_ne (by decide)).trans hB);simp only[go_sem,h4,hA2,e3,w1,k0,kb2]
   refine gP_appA (id:=j2) (site:=9152256256) (bytes:=8) (xs:=[[.int .i64 ((g+(k+1):Nat):Int)]]) (rd:=[9152256192]) (by simp[ka2,oj2,kb2]) (g2.of_eq ((upd_ne (n2 _ (by decide))).trans ((upd_ne (n2 _ (by decide))).trans ((hb2 _ (n2 _ (by decide)) n3.symm).trans (upd_ne (n2 _ (by decide))))))) (by simp[elemsOf,upd_apply]) (.inl rfl) (by simp only[List.length_append,List.length_map,ltf,List.length_cons,List.length_nil];omega) fun c' blk3 hc' hb3=> ?_
   have hA3:=(hb3 9152000000 (by decide) (n2 _ (by decide)).symm).trans ((upd_ne (by decide)).trans upd_eq);have hB3:=(hb3 9152000064 (by decide) (n2 _ (by decide)).symm).trans ((upd_ne (by decide)).trans ((upd_ne (by decide)).trans hB2));simp only[go_sem,h4,h5,hA3,hB3,e2,e3,hlt];refine⟨rfl,c,c',9152128192,9152256256,rfl,rfl, .inr rfl, .inr rfl,?_,?_,fun id hn=> ?_⟩
   ·rw[hp,← List.append_assoc];exact hc.of_eq ((hb3 _ (by decide) (n2 _ (by decide)).symm).trans ((upd_ne (by decide)).trans (upd_ne (by decide))))
   ·rw[hf,← List.append_assoc];exact hc'
   ·have a: ∀ x,isBt x→id≠x:=fun x hx e=>hn (.inl (e▸hx))
    have b1:id≠j1:=fun e=>hn (e▸kj1)
    have b2:id≠j2:=fun e=>hn (e▸kj2)
    exact(hb3 id (a _ rfl) b2).trans ((upd_ne (a _ rfl)).trans ((upd_ne (a _ rfl)).trans ((hb2 id (a _ rfl) b1).trans ((upd_ne (a _ rfl)).trans (hkp id hn)))))
  ·have:k=T - g:=by omega
   subst this;have hlt': ¬ (((g+(T - g):Nat):Int)<(T:Int)):=by omega
   simp only[go_sem,i143_l1,i143_r2,h4,h5,hA,hB,e2,hlt',k0,k64,kb3];have hlast:plP (spanP g r T)=plP ((spanP g r T).take (T - g))++[[.int .i64 (T:Int), .int .i64 (t:Int)]]:=by
    have h1:=List.take_add_one (l:=spanP g r T) (i:=T - g);rw[spanP_at (Nat.le_refl _),List.take_of_length_le (show(spanP g r T).length≤T - g+1 by omega)] at h1;have e1:g+(T - g)=T:=by omega
    have e2:(if T - g=0 then r else 0)=t:=by
     rw[ht];by_cases h:T=g
     ·rw[if_pos h,if_pos (by omega)]
     ·rw[if_neg h,if_neg (by omega)]
    rw[e1,e2] at h1;exact(congrArg (fun l:List (Nat × Nat)=>plP l) h1).trans (plP_app _ _)
   have hall:(spanF g T).take (T - g)=spanF g T:=List.take_of_length_le (by omega);refine gP_appA (id:=j1) (site:=9152320192) (bytes:=16) (xs:=[[.int .i64 (T:Int), .int .i64 (t:Int)]]) (rd:=[9152320128]) (by simp[ka3,oj1,kb3]) (g1.of_eq (upd_ne (n1 _ (by decide)))) (by simp[elemsOf,upd_apply]) (.inl rfl) (by simp only[List.length_append,List.length_map,ltk,List.length_cons,List.length_nil];omega) fun c blk2 hc hb2=> ?_
   simp only[go_sem,e3];refine⟨c,d2,j2,rfl,?_,?_,q2,fun id hn=> ?_⟩
   ·rw[hlast,← List.append_assoc];exact hc
   ·rw[hall] at g2;exact g2.of_eq ((hb2 _ (n2 _ (by decide)) n3.symm).trans (upd_ne (n2 _ (by decide))))
   ·have a: ∀ x,isBt x→id≠x:=fun x hx e=>hn (.inl (e▸hx))
    have b1:id≠j1:=fun e=>hn (e▸kj1)
    exact(hb2 id (a _ rfl) b1).trans ((upd_ne (a _ rfl)).trans (hkp id hn))
theorem axis_pl(ok:dgOK F ls){j:Nat}(hj:j<(axisR ls).length): ∃ u l,(axisR ls)[j]? =some u∧(axisR ls).getD j 0=u∧ls[u]? =some l∧l.isP=true∧goodP F ls l∧plOf ls l=j:=by
 obtain⟨u,l,h1,h2,h3,h4,h5⟩:=axis_get ok hj;obtain⟨l',k1,k2,k3⟩:=axis_at ok.ax h1;rw[h3] at k1;cases k1
 exact⟨u,l,h1,h2,h3,h4,h5,k3⟩
theorem axis_next{j pg pr qg qr:Nat}{p q:Let}(gp:goodP F ls p)(gq:goodP F ls q)(hp:plOf ls p=j)(hq:plOf ls q=j+1)(h1:p.gate=(pg:Int))(h2:p.rank=(pr:Int))(h3:q.gate=(qg:Int))(h4:q.rank=(qr:Int)):
  pg≤qg∧qr - 1=if qg=pg then pr else 0:=by
 obtain⟨_,_,p1,p2⟩:=gp;obtain⟨_,_,q1,q2⟩:=gq;unfold plOf at hp hq;rw[h1,h2] at hp;rw[h3,h4] at hq;rw[h2] at p1;rw[h1,h2] at p2;rw[h4] at q1;rw[h3,h4] at q2;simp only[Int.toNat_natCast] at hp hq p2 q2;have sp:=firstG_succ ls pg;have sq:=firstG_succ ls qg;have hle:pg≤qg:=by
  rcases Nat.lt_or_ge qg pg with h|h
  ·have:=firstG_mono (ls:=ls) (show qg+1≤pg by omega);omega
  ·exact h
 refine⟨hle,?_⟩;by_cases e:qg=pg
 ·subst e;rw[if_pos rfl];omega
 ·rw[if_neg e];have:=firstG_mono (ls:=ls) (show pg+1≤qg by omega);omega
theorem axis_first{qg qr:Nat}{q:Let}(gq:goodP F ls q)(hq:plOf ls q=0)(h3:q.gate=(qg:Int))(h4:q.rank=(qr:Int)):qr - 1=0:=by
 obtain⟨_,_,q1,q2⟩:=gq;unfold plOf at hq;rw[h3,h4] at hq;rw[h4] at q1;simp only[Int.toNat_natCast] at hq;omega
theorem sitesB:S.sites 143=[143]:=by kernel_rfl
theorem alB{vs:List V}{blk:Blk}: ∀ id,isBt id→(allow (S.ctx .all) 143 vs blk).ok id=true:=fun id h=>allow_ok (by rw[sitesB,h];simp)
theorem rim_p(ok:dgOK F ls)(hF:F≤1000){j:Nat}(hj:j<(axisR ls).length):
  PEv S 114 [.one (.p (dgV F ls)),vi j] (.tup [.one (grownR plTy 2 (plP (pieceP F ls j))), .one (grownR 3 1 (nP (pieceF F ls j)))]):=by
 have hl:=ok.hl;have hal:(axisR ls).length≤1000000:=Nat.le_trans (axisK_len ls ls.length) hl;have hm:=Nat.mod_lt (j+1) (show 0<(axisR ls).length by omega);obtain⟨u,p,hu,du,hp,pp,gp,xp⟩:=axis_pl ok hj;obtain⟨v,q,hv,dv,hq,pq,gq,xq⟩:=axis_pl ok hm;unfold pieceP pieceF;simp only[du,dv,gN_of hp,gN_of hq,rN_of hp];have hpp:=ps_of hp;have hqp:=ps_of hq;have hnu:=nP_at hu;have hnv:=nP_at hv;have e1:=tmod_nat (j+1) (axisR ls).length;have w1:=wrap_succ (n:=j) (by omega);have w2:=wrap_pred (a:=(axisR ls).length) (by omega) (by omega);have hm0: ¬ (((axisR ls).length:Int)=0):=by omega
 have hg0:=gp.g0;have hg1:=gp.g1;have hk0:=gq.g0;have hk1:=gq.g1;have hr0:=gp.r0;have hr1:=gp.r1;have hs0:=gq.r0;have hs1:=gq.r1;have hcg:cg ls p.gate.toNat≤ls.length:=cnt_le _ _;have hcq:cg ls q.gate.toNat≤ls.length:=cnt_le _ _;obtain⟨pg,h1⟩:=Int.eq_ofNat_of_zero_le (show 0≤p.gate by omega);obtain⟨pr,h2⟩:=Int.eq_ofNat_of_zero_le (show 0≤p.rank by omega);obtain⟨qg,h3⟩:=Int.eq_ofNat_of_zero_le (show 0≤q.gate by omega);obtain⟨qr,h4⟩:=Int.eq_ofNat_of_zero_le (show 0≤q.rank by omega);have wr:=wrap_pred (a:=qr) (by rw[h4] at hs0;omega) (by omega);have hsh:S.shared 143=true:=by kernel_rfl
 have hnext:=fun h=>axis_next gp gq xp (h:plOf ls q=j+1) h1 h2 h3 h4
 have hfirst:=fun h=>axis_first gq (h:plOf ls q=0) h3 h4
 rw[h1] at hg1 hr1 hcg hg0;rw[h2] at hr1 hr0;rw[h3] at hk0 hk1 hs1 hcq;rw[h4] at hs0 hs1;rw[h1,h2,h3];simp only[Int.toNat_natCast] at hr1 hcg hs1 hcq ⊢;refine pev1 c114 ?_;by_cases hlt:j+1<(axisR ls).length
 ·have hlt':(j:Int)<(((axisR ls).length - 1:Nat):Int):=by omega
  rw[Nat.mod_eq_of_lt hlt] at xq;obtain⟨n1,n2⟩:=hnext xq;simp only[if_pos hlt];simp only[go_sem,i114,hnu,hnv,hpp,hqp,Let.ps,w1,e1,w2,wr,hlt',hm0,h1,h2,h3,h4,hsh];refine⟨okd,?_⟩;refine gP_sc2 (P:=btPost pg pr qg [] [] 9152128192 9152256256 _) holds_all (between_s (g:=pg) (r:=pr) (T:=qg) (t:=qr - 1) (c1:= .p .nils) (c2:= .p .nils) alB (alB _ rfl) (alB _ rfl) n1 n2 (by omega) (Nat.zero_le _) (Nat.zero_le _) (by decide) (by decide) (by decide) grown.nil grown.nil) ?_;rintro v blk' ⟨c1,c2,j2,rfl,g1,g2,hj2,hkp⟩
  have hj2:j2=9152256256:=by rcases hj2 with h|h<;>exact h
  subst hj2;simp only[go_sem];exact grown_out2 (by decide) g1 g2
 ·have hlt': ¬ (j:Int)<(((axisR ls).length - 1:Nat):Int):=by omega
  have hjm:(j+1)%(axisR ls).length=0:=by rw[show j+1=(axisR ls).length by omega,Nat.mod_self]
  rw[hjm] at xq;have n2:=hfirst xq;simp only[if_neg hlt];have hlast: ∃ t:Nat,t=(if F=pg then pr else 0):=⟨_,rfl⟩;obtain⟨t,ht⟩:=hlast;have fin: ∀ (env:Env) (blk:Blk) (c1 c2:C),True:=fun _ _ _ _=>trivial
  have ini:(((pg:Int)==(F:Int))=true∧t=pr∧F=pg)∨(((pg:Int)==(F:Int))=false∧t=0):=by
   by_cases h:F=pg
   ·subst h;rw[if_pos rfl] at ht;exact .inl ⟨by simp,ht,rfl⟩
   ·rw[if_neg h] at ht;exact .inr ⟨by simp;omega,ht⟩
  rcases ini with ⟨hb,ht2,hFp⟩|⟨hb,ht2⟩
  ·subst hFp;simp only[go_sem,i114,hnu,hnv,hpp,hqp,Let.ps,w1,e1,w2,wr,hlt',hm0,h1,h2,h3,h4,hsh,hb];refine⟨okd,?_⟩;refine⟨okd,?_⟩;refine gP_sc2 (P:=btPost F pr F [] [] 9152128192 9152256256 _) holds_all (between_s (g:=F) (r:=pr) (T:=F) (t:=pr) (c1:= .p .nils) (c2:= .p .nils) alB (alB _ rfl) (alB _ rfl) (by omega) (by rw[if_pos rfl]) (by omega) (Nat.zero_le _) (Nat.zero_le _) (by decide) (by decide) (by decide) grown.nil grown.nil) ?_;rintro v blk1 ⟨c1,c2,j2,rfl,g1,g2,hj2,hkp⟩
   have hj2:j2=9152256256:=by rcases hj2 with h|h<;>exact h
   subst hj2;rw[List.nil_append] at g1 g2;have hA:=hkp 7296256384 (by decide);simp only[go_sem] at hA;simp only[go_sem,hA,hsh];refine gP_sc2 (P:=btPost 0 0 qg (plP (spanP F pr F)) (nP (spanF F F)) 9152320192 9152256256 _) holds_all (between_s (g:=0) (r:=0) (T:=qg) (t:=qr - 1) (c1:=c1) (c2:=c2) alB (alB _ rfl) (alB _ rfl) (Nat.zero_le _) (by rw[n2];split<;>rfl) (by omega) (by simp only[List.length_map,spanP_len];omega) (by simp only[List.length_map,spanF_len];omega) (by decide) (by decide) (by decide) g1 g2) ?_;rintro v blk2 ⟨d1,d2,j3,rfl,k1,k2,hj3,_⟩
   have hj3:j3=9152256256:=by rcases hj3 with h|h<;>exact h
   subst hj3;simp only[go_sem];rw[plP_app,nP_app];exact grown_out2 (by decide) k1 k2
  ·simp only[go_sem,i114,hnu,hnv,hpp,hqp,Let.ps,w1,e1,w2,wr,hlt',hm0,h1,h2,h3,h4,hsh,hb];refine⟨okd,?_⟩;refine⟨okd,?_⟩;refine gP_sc2 (P:=btPost pg pr F [] [] 9152128192 9152256256 _) holds_all (between_s (g:=pg) (r:=pr) (T:=F) (t:=0) (c1:= .p .nils) (c2:= .p .nils) alB (alB _ rfl) (alB _ rfl) (by omega) (by rw[ht2] at ht;exact ht) (by omega) (Nat.zero_le _) (Nat.zero_le _) (by decide) (by decide) (by decide) grown.nil grown.nil) ?_;rintro v blk1 ⟨c1,c2,j2,rfl,g1,g2,hj2,hkp⟩
   have hj2:j2=9152256256:=by rcases hj2 with h|h<;>exact h
   subst hj2;rw[List.nil_append] at g1 g2;have hA:=hkp 7296256384 (by decide);simp only[go_sem] at hA;simp only[go_sem,hA,hsh];refine gP_sc2 (P:=btPost 0 0 qg (plP (spanP pg pr F)) (nP (spanF pg F)) 9152320192 9152256256 _) holds_all (between_s (g:=0) (r:=0) (T:=qg) (t:=qr - 1) (c1:=c1) (c2:=c2) alB (alB _ rfl) (alB _ rfl) (Nat.zero_le _) (by rw[n2];split<;>rfl) (by omega) (by simp only[List.length_map,spanP_len];omega) (by simp only[List.length_map,spanF_len];omega) (by decide) (by decide) (by decide) g1 g2) ?_;rintro v blk2 ⟨d1,d2,j3,rfl,k1,k2,hj3,_⟩
   have hj3:j3=9152256256:=by rcases hj3 with h|h<;>exact h
   subst hj3;simp only[go_sem];rw[plP_app,nP_app];exact grown_out2 (by decide) k1 k2
end
end Go.Abs
