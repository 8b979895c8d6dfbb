/-
  A part of a proof.
-/
import Derived.Test.YtjjdebhkbfeniaaGreatDoorWp
set_option linter.unusedSimpArgs false
set_option linter.unusedVariables false
set_option linter.unusedSectionVars false
set_option maxRecDepth 100000
set_option maxHeartbeats 16000000
namespace Go.Abs
section
variable {Q:Post} {env:Env} {blk:Blk} {os:List IOper} {d:Option Nat}
theorem gP_shift{id:Nat}{l:List Pc}{c:C}{g ab b:Int}(hl:l.length≤1000000)(hb: -100≤b∧b≤100)(hr: ∀ p∈l,-1000000≤p.l.rank∧p.l.rank≤1000000)(hg:grown id pcTy 7 (pcP l) (.one c) blk)
  (hK: ∀ blk',grown id pcTy 7 (pcP (shiftL l g ab b)) (.one c) blk'→(∀ i,i≠id→blk' i=blk i)→RN S .all os Q (put env d (.tup [])) blk'):gP S .all (.sc 129 [.one c,vi g,vi ab,vi b]) d os Q env blk:=by
 have ho:l=[]∨(allow (S.ctx .all) 129 [.one c,vi g,vi ab,vi b] blk).ok id=true:=by
  rcases reach_grown hg with ⟨h,_⟩|h
  ·exact .inl (by simpa using h)
  ·exact .inr (allow_okI (by simp[h]))
 refine gP_sc2 (P:=shPost id (pcP (shiftL l g ab b)) c blk) holds_all (shift_s ho hl hb hr hg) ?_;rintro v blk' ⟨rfl,h1,h2⟩
 exact hK blk' h1 h2
end
theorem leftR_vals(fs:List Fc): ∀ (j:Nat) (L:List Nat),∀ v∈leftR fs j L,v∈L∨v<j+fs.length:=by
 have hset: ∀ (ds:List Nat) (L:List Nat) (x:Nat),∀ v∈setAll L ds x,v∈L∨v=x:=by
  intro ds
  induction ds with
  |nil=>intro L x v h;exact .inl h
  |cons d ds ih=>
   intro L x v h;rcases ih (L.set d x) x v h with h|h
   ·rcases List.mem_or_eq_of_mem_set h with h|h
    ·exact .inl h
    ·exact .inr h
   ·exact .inr h
 induction fs with
 |nil=>intro j L v h;exact .inl h
 |cons f r ih=>
  intro j L v h;rcases ih (j+1) (setAll L f.darts j) v h with h|h
  ·rcases hset _ _ _ v h with h|h
   ·exact .inl h
   ·subst h;exact .inr (by simp)
  ·exact .inr (by simp only[List.length_cons];omega)
def noFc:Fc:=⟨false,[],[],[],false⟩
def faceAt(F:Nat)(ls:List Let)(d:Nat):Fc:=(facesL F ls).getD ((leftL F ls).getD d 0) noFc
theorem leftL_len(F:Nat)(ls:List Let):(leftL F ls).length=2*ls.length:=by simp[leftL,leftR_len]
theorem faceAt_at{F:Nat}{ls:List Let}(g:Fine F ls){d:Nat}(hd:d<2*ls.length): ∃ j,(leftL F ls)[d]? =some j∧(facesL F ls)[j]? =some (faceAt F ls d)∧j<(facesL F ls).length:=by
 obtain⟨j,hj⟩:=at_lt (ls:=leftL F ls) (k:=d) (by rw[leftL_len];exact hd);have hn:0<(facesL F ls).length:=by rw[facesL_len,g.nw];omega
 have hjl:j<(facesL F ls).length:=by
  rcases leftR_vals (facesL F ls) 0 _ j (List.mem_of_getElem? hj) with h|h
  ·have:=List.eq_of_mem_replicate h;omega
  ·omega
 refine⟨j,hj,?_,hjl⟩;obtain⟨f,hf⟩:=at_lt hjl;unfold faceAt;rw[List.getD_eq_getElem?_getD (l:=leftL F ls),hj,Option.getD_some,List.getD_eq_getElem?_getD,hf];rfl
def newP(b:Nat)(r:Int)(d:Bool):Pc:=⟨⟨1,b,r,0,0,false⟩,d⟩
def amIns(ls:List Let)(av b c:Nat)(f:Fc)(side:Bool):List Pc:=
 insAt (shiftL (pieces ls) b c 2) [newP b (if f.above !=side then ((c+2:Nat):Int) else ((c+1:Nat):Int)) f.above,newP b (if f.above !=side then ((c+1:Nat):Int) else ((c+2:Nat):Int)) (!f.above)] av
def amR(F:Nat)(ls:List Let)(av b c:Nat):Option (List Pc):=
 if (b,c)∈(faceAt F ls (2*av)).places then some (amIns ls av b c (faceAt F ls (2*av)) false)
 else if (b,c)∈(faceAt F ls (2*av+1)).places then some (amIns ls av b c (faceAt F ls (2*av+1)) true) else none
def kR (o:Option (List Pc)):RV:= .tup [.one (grownR pcTy 7 (pcP (o.getD []))), .one (.p (.bool o.isSome))]
theorem rank_bound{F:Nat}{ls:List Let}(g:Fine F ls): ∀ p∈pieces ls,-1000000≤p.l.rank∧p.l.rank≤1000000:=by
 intro p hp;obtain⟨i,hi⟩:=List.getElem?_of_mem hp;have hil:i<ls.length:=by rw[← pieces_len];exact(List.getElem?_eq_some_iff.1 hi).1
 obtain⟨l,hl⟩:=at_lt hil;rw[pieces_at hl] at hi;cases hi
 rcases g.ok.kinds l (List.mem_of_getElem? hl) with h|h
 ·have hg:=g.ok.ax.good l (List.mem_of_getElem? hl) h;have:=hg.r0;have:=hg.r1;have hc:cg ls l.gate.toNat≤ls.length:=cnt_le _ _;have:=g.len;simp only;omega
 ·have:=(not_badC (f:=F) h).1 (g.bad l (List.mem_of_getElem? hl));simp only[this.1.2];omega
def lmR(ls:List Let)(av:Nat)(sg:Int)(o:Bool):List Pc:=
 insAt (pieces ls) [⟨⟨2,0,0,((cnt Let.isC ls/2+1:Nat):Int),sg,o⟩,false⟩,⟨⟨2,0,0,((cnt Let.isC ls/2+1:Nat):Int),sg,!o⟩,false⟩] av
def isI(n:Nat)(i:Int):Bool:=decide (0≤i)&&decide (i<(n:Int))
theorem is_p(i:Int)(n:Nat):PEv S 101 [vi i, .one (.p (.box [.int .i64 n]))] (rb (isI n i)):=by
 refine pev1 c101 ?_;unfold isI;by_cases h1:0≤i
 ·by_cases h2:i<(n:Int)
  ·simp only[go_sem,i101,h1,h2]
  ·simp only[go_sem,i101,h1,h2]
 ·simp only[go_sem,i101,h1]
theorem sc_let(l:List Let):((letP l).all fun e=>e.all PV.scalar)=true:=by simp[Let.ps,PV.scalar]
abbrev rokc(F:Nat)(L:List Let):RV:= .tup [.agg [.p (.int .i64 F),grownR lsTy 6 (letP L)], .one (.p (.int .i64 0))]
def doR(F:Nat)(ls:List Let)(k:Int):Option (List Pc)→RV
 |none=>rcode 4
 |some L=>if (400:Int)<(ls.length:Int)+(growsR k).1∨(100:Int)<((cnt Let.isC ls/2:Nat):Int)+(growsR k).2 then rcode 7 else rokc F (finL L)
def stk(h:Nat):List Let:=(List.range (2*h)).map fun i=>⟨1,0,((i+1:Nat):Int),0,0,false⟩
section
variable {h:Nat}
theorem stk_len:(stk h).length=2*h:=by simp[stk]
theorem stk_at{i:Nat}(hi:i<2*h):(stk h)[i]? =some ⟨1,0,((i+1:Nat):Int),0,0,false⟩:=by
 unfold stk;rw[List.getElem?_map,List.getElem?_range hi];rfl
theorem stk_mem{l:Let}(hl:l∈stk h): ∃ i,i<2*h∧l=⟨1,0,((i+1:Nat):Int),0,0,false⟩:=by
 obtain⟨i,hi,rfl⟩:=List.mem_map.1 hl;exact⟨i,List.mem_range.1 hi,rfl⟩
theorem stk_cnt(p:Let→Bool)(hp: ∀ l∈stk h,p l=true)(k:Nat)(hk:k≤2*h):cnt p ((stk h).take k)=k:=by
 unfold cnt;rw[List.countP_eq_length.2 fun l hl=>hp l (List.mem_of_mem_take hl),List.length_take,stk_len];omega
theorem stk_P: ∀ l∈stk h,l.isP=true:=fun l hl=>by obtain⟨i,_,rfl⟩:=stk_mem hl;rfl
theorem stk_all:cnt Let.isP (stk h)=2*h:=by
 have:=stk_cnt (h:=h) Let.isP stk_P (2*h) (Nat.le_refl _);rwa[List.take_of_length_le (by rw[stk_len];exact Nat.le_refl _)] at this
theorem stk_noC:cnt Let.isC (stk h)=0:=by
 unfold cnt;rw[List.countP_eq_zero];intro l hl;obtain⟨i,_,rfl⟩:=stk_mem hl;simp[Let.isC]
theorem stk_cg:cg (stk h) 0=2*h:=by
 have:=stk_cnt (h:=h) (atG 0) (fun l hl=>by obtain⟨i,_,rfl⟩:=stk_mem hl;rfl) (2*h) (Nat.le_refl _);rwa[List.take_of_length_le (by rw[stk_len];exact Nat.le_refl _)] at this
theorem stk_dn{i:Nat}(hi:i≤2*h):dn (stk h) i=(i%2==0):=by
 unfold dn;rw[stk_cnt (h:=h) Let.isP stk_P i hi]
theorem stk_pl(i:Nat):plOf (stk h) ⟨1,0,((i+1:Nat):Int),0,0,false⟩=i:=by
 unfold plOf;have:firstG (stk h) 0=0:=rfl;simp only[Int.toNat_zero,this,Int.toNat_natCast];omega
theorem stk_letters:lettersR 1 (stk h)=true:=by
 refine(letters_law (F:=1)).2 ⟨?_,?_,?_⟩
 ·rw[List.any_eq_false];intro l hl;obtain⟨i,_,rfl⟩:=stk_mem hl;simp[badL]
 ·refine(ranks_iff (F:=1) fun l hl hp=> ?_).2 ⟨fun l hl hp=> ?_,fun i j l m h1 h2 _ _ he=> ?_⟩
  ·obtain⟨i,_,rfl⟩:=stk_mem hl;exact⟨by simp,by simp⟩
  ·obtain⟨i,hi,rfl⟩:=stk_mem hl;refine⟨by simp,by simp,by simp;omega,?_⟩;show((i+1:Nat):Int)≤(cg (stk h) (0:Int).toNat:Int);rw[Int.toNat_zero,stk_cg];omega
  ·have i1:=(List.getElem?_eq_some_iff.1 h1).1;have i2:=(List.getElem?_eq_some_iff.1 h2).1;rw[stk_len] at i1 i2;rw[stk_at i1] at h1;rw[stk_at i2] at h2;cases h1;cases h2
   rw[stk_pl,stk_pl] at he;exact he
 ·unfold crossR;have h0:idsK (stk h) (stk h).length=[]:=by
   have: ∀ k,k≤2*h→idsK (stk h) k=[]:=by
    intro k
    induction k with
    |zero=>intro _;rfl
    |succ k ih=>
     intro hk;unfold idsK;rw[stk_at (show k<2*h by omega),ih (by omega)];rfl
   exact this _ (by rw[stk_len];exact Nat.le_refl _)
  rw[h0,stk_noC];simp only[Bool.and_eq_true];refine⟨⟨rfl,List.all_eq_true.2 fun k hk=> ?_⟩,rfl⟩;have hk:=List.mem_range.1 hk;rw[stk_len] at hk;unfold xOk;rw[stk_at hk];rfl
theorem stk_ok(hh:h≤500000):dgOK 1 (stk h):=by
 obtain⟨hb1,hrk,hcr⟩:=(letters_law (F:=1)).1 (stk_letters (h:=h));have hbl: ∀ l∈stk h,badL 1 l=false:=fun l hl=>by simpa using List.any_eq_false.1 hb1 l hl
 have hg:gates 1 (stk h):=fun l hl hp=>((not_badP hp).1 (hbl l hl)).1.1.1
 obtain⟨g1,g2⟩:=(ranks_iff hg).1 hrk;exact⟨by rw[stk_len];omega,⟨g1,g2⟩,hcr,fun l hl=>bad_kind (hbl l hl)⟩
theorem stk_axl:(axisR (stk h)).length=2*h:=by rw[axisR_len,stk_all]
theorem stk_axi(hh:h≤500000){i:Nat}(hi:i<2*h):(axisR (stk h)).idxOf i=i:=by
 rw[axis_idx (stk_ok hh).ax (stk_at hi) rfl,stk_pl]
theorem stk_nf(hh:h≤500000){e:Nat}(he:e<2*h):nxt (stk h) (2*e)=if ((e+1)%(2*h))%2=0 then 4*h+2*((e+1)%(2*h)) else 4*h+2*(((e+1)%(2*h)+2*h - 1)%(2*h))+1:=by
 have hm:=Nat.mod_lt (e+1) (show 0<2*h by omega);show turnD _ _ _=_;unfold turnD;rw[stk_len,stk_axl,if_neg (by omega)];have e1:(2*e%2==0)=true:=by simp
 simp only[e1,if_true,show 2*e/2=e by omega,stk_at hm,stk_axi hh hm,stk_dn (Nat.le_of_lt hm)];generalize (e+1)%(2*h)=m;by_cases c:m%2=0
 ·simp[c];omega
 ·simp[c];omega
theorem stk_nb(hh:h≤500000){e:Nat}(he:e<2*h):nxt (stk h) (2*e+1)=if e%2=0 then 4*h+2*((e+2*h - 1)%(2*h))+1 else 4*h+2*e:=by
 show turnD _ _ _=_;unfold turnD;rw[stk_len,stk_axl,if_neg (by omega)];have e1:((2*e+1)%2==0)=false:=by simp
 simp only[e1,Bool.false_eq_true,if_false,show(2*e+1)/2=e by omega,stk_at he,stk_axi hh he,stk_dn (Nat.le_of_lt he)];by_cases c:e%2=0
 ·simp[c];omega
 ·have:(e%2==0)=false:=by simpa using c
  simp[c];omega
end
section
variable {h:Nat}
theorem mod1{n e:Nat}(he:e<n):(e+1)%n=if e+1=n then 0 else e+1:=by
 by_cases c:e+1=n
 ·rw[if_pos c,c,Nat.mod_self]
 ·rw[if_neg c,Nat.mod_eq_of_lt (by omega)]
theorem mod2{n m:Nat}(hm:m<n):(m+n - 1)%n=if m=0 then n - 1 else m - 1:=by
 by_cases c:m=0
 ·rw[if_pos c];subst c;rw[Nat.zero_add,Nat.mod_eq_of_lt (by omega)]
 ·rw[if_neg c,show m+n - 1=(m - 1)+n by omega,Nat.add_mod_right,Nat.mod_eq_of_lt (by omega)]
theorem v1(hh:h≤500000){e:Nat}(he:e<2*h)(c:e%2=0):nxt (stk h) (2*e)=4*h+2*e+1:=by
 rw[stk_nf hh he,mod1 he,if_neg (by omega: ¬ e+1=2*h),if_neg (by omega),mod2 (by omega),if_neg (by omega)];omega
theorem v2(hh:h≤500000){e:Nat}(he:e<2*h)(c:e%2=1): ∃ q,q<2*h∧q%2=0∧(e+1<2*h→q=e+1)∧nxt (stk h) (2*e)=4*h+2*q:=by
 rw[stk_nf hh he,mod1 he];by_cases d:e+1=2*h
 ·rw[if_pos d];exact⟨0,by omega,rfl,by omega,rfl⟩
 ·rw[if_neg d,if_pos (by omega)];exact⟨e+1,by omega,by omega,fun _=>rfl,rfl⟩
theorem v3(hh:h≤500000){e:Nat}(he:e<2*h)(c:e%2=0): ∃ q,q<2*h∧q%2=1∧(1≤e→q=e - 1)∧nxt (stk h) (2*e+1)=4*h+2*q+1:=by
 rw[stk_nb hh he,if_pos c,mod2 he];by_cases d:e=0
 ·rw[if_pos d];exact⟨2*h - 1,by omega,by omega,by omega,rfl⟩
 ·rw[if_neg d];exact⟨e - 1,by omega,by omega,fun _=>rfl,rfl⟩
theorem v4(hh:h≤500000){e:Nat}(he:e<2*h)(c:e%2=1):nxt (stk h) (2*e+1)=4*h+2*e:=by
 rw[stk_nb hh he,if_neg (by omega)]
end
theorem finL_len(L:List Pc):(finL L).length=L.length:=by simp[finL,rotK]
theorem insAt_len(l x:List Pc)(k:Nat):(insAt l x k).length=l.length+x.length:=by
 simp only[insAt,List.length_append,List.length_take,List.length_drop];omega
end Go.Abs
