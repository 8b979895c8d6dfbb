/-
  A part of a proof.
-/
import Derived.Test.YtjjdebhkbfeniaaGreatDoorWd
set_option linter.unusedSimpArgs false
set_option linter.unusedVariables false
set_option linter.unusedSectionVars false
set_option maxRecDepth 100000
set_option maxHeartbeats 16000000
namespace Go.Abs
section
variable{F:Nat}{ls:List Let}
def atG(g:Nat)(l:Let):Bool:=l.isP&&l.gate==(g:Int)
abbrev cg(ls:List Let)(g:Nat):Nat:=cnt (atG g) ls
def countsK(ls:List Let)(F k:Nat):List Nat:=(List.range (F+1)).map fun g=>cg (ls.take k) g
def counts(ls:List Let)(F:Nat):List Nat:=(List.range (F+1)).map (cg ls)
theorem countsK_at{F k G:Nat}(h:G≤F):(countsK ls F k)[G]? =some (cg (ls.take k) G):=by
 simp[countsK,List.getElem?_range (show G<F+1 by omega)]
theorem countsK_all(ls:List Let)(F:Nat):countsK ls F ls.length=counts ls F:=by simp[countsK,counts]
theorem countsK_zero(ls:List Let)(F:Nat):countsK ls F 0=List.replicate (F+1) 0:=by
 apply List.ext_getElem<;>simp[countsK,cnt]
theorem countsK_miss{F k:Nat}{l:Let}(h:ls[k]? =some l)(hp:l.isP=false):countsK ls F (k+1)=countsK ls F k:=by
 unfold countsK;congr 1;funext g;exact cnt_miss h (by simp[atG,hp])
theorem countsK_hit{F k G:Nat}{l:Let}(h:ls[k]? =some l)(hp:l.isP=true)(hg:l.gate=(G:Int)):
  countsK ls F (k+1)=(countsK ls F k).set G (cg (ls.take k) G+1):=by
 apply List.ext_getElem
 ·simp[countsK]
 ·intro i h1 h2;rw[List.getElem_set];simp only[countsK,List.getElem_map,List.getElem_range];split
  ·rename_i e;subst e;exact cnt_hit h (by simp[atG,hp,hg])
  ·exact cnt_miss h (by simp[atG,hg];intro _ e;omega)
theorem nP_set(o:List Nat)(k n:Nat):(nP o).set k [.int .i64 (n:Int)]=nP (o.set k n):=by simp[List.map_set]
theorem nP_rep(n m:Nat):nP (List.replicate n m)=List.replicate n [.int .i64 (m:Int)]:=by simp
theorem bP_rep(n:Nat)(b:Bool):bP (List.replicate n b)=List.replicate n [.bool b]:=by simp
theorem dn_hit{k:Nat}{l:Let}(h:ls[k]? =some l)(hp:l.isP=true):dn ls (k+1)= !dn ls k:=by
 unfold dn;rw[cnt_hit h hp];cases hc:(cnt Let.isP (ls.take k)%2==0) with
 |true=>simp at hc ⊢;omega
 |false=>simp at hc ⊢;omega
theorem dn_miss{k:Nat}{l:Let}(h:ls[k]? =some l)(hp:l.isP=false):dn ls (k+1)=dn ls k:=by
 unfold dn;rw[cnt_miss h hp]
def dnP(ls:List Let)(i:Nat):Bool:=match ls[i]? with|some l=>l.isP&&dn ls i|none=>false
def downsK(ls:List Let)(k:Nat):List Bool:=(List.range ls.length).map fun i=>decide (i<k)&&dnP ls i
def downs(ls:List Let):List Bool:=(List.range ls.length).map (dnP ls)
theorem downsK_zero(ls:List Let):downsK ls 0=List.replicate ls.length false:=by
 apply List.ext_getElem<;>simp[downsK]
theorem downsK_all(ls:List Let):downsK ls ls.length=downs ls:=by
 unfold downsK downs;apply List.map_congr_left;intro i hi;simp[List.mem_range.1 hi]
theorem downsK_len(ls:List Let)(k:Nat):(downsK ls k).length=ls.length:=by simp[downsK]
theorem downsK_miss{k:Nat}{l:Let}(h:ls[k]? =some l)(hp:l.isP=false):downsK ls (k+1)=downsK ls k:=by
 unfold downsK;apply List.map_congr_left;intro i hi;by_cases e:i=k
 ·subst e;simp[dnP,h,hp]
 ·have:(i<k+1)↔(i<k):=by omega
  simp[this]
theorem downsK_hit{k:Nat}{l:Let}(h:ls[k]? =some l)(hp:l.isP=true):downsK ls (k+1)=(downsK ls k).set k (dn ls k):=by
 apply List.ext_getElem
 ·simp[downsK]
 ·intro i h1 h2;rw[List.getElem_set];simp only[downsK,List.getElem_map,List.getElem_range];split
  ·rename_i e;subst e;simp[dnP,h,hp]
  ·have:(i<k+1)↔(i<k):=by omega
   simp[this]
def firstG(ls:List Let)(g:Nat):Nat:=((List.range g).map (cg ls)).sum
theorem firstG_succ(ls:List Let)(g:Nat):firstG ls (g+1)=firstG ls g+cg ls g:=by simp[firstG,List.range_succ]
def firstsK(ls:List Let)(F k:Nat):List Nat:=(List.range (F+1)).map fun g=>if g<k then firstG ls g else 0
def firsts(ls:List Let)(F:Nat):List Nat:=(List.range (F+1)).map (firstG ls)
theorem firstsK_zero(ls:List Let)(F:Nat):firstsK ls F 0=List.replicate (F+1) 0:=by
 apply List.ext_getElem<;>simp[firstsK]
theorem firstsK_all(ls:List Let)(F:Nat):firstsK ls F (F+1)=firsts ls F:=by
 unfold firstsK firsts;apply List.map_congr_left;intro i hi;simp[List.mem_range.1 hi]
theorem firstsK_len(ls:List Let)(F k:Nat):(firstsK ls F k).length=F+1:=by simp[firstsK]
theorem firstsK_set(ls:List Let)(F k:Nat):firstsK ls F (k+1)=(firstsK ls F k).set k (firstG ls k):=by
 apply List.ext_getElem
 ·simp[firstsK]
 ·intro i h1 h2;rw[List.getElem_set];simp only[firstsK,List.getElem_map,List.getElem_range];by_cases e:k=i
  ·subst e;simp
  ·have:(i<k+1)↔(i<k):=by omega
   simp only[this,if_neg e]
theorem counts_at{F G:Nat}(h:G≤F):(counts ls F)[G]? =some (cg ls G):=by
 simp[counts,List.getElem?_range (show G<F+1 by omega)]
theorem firsts_at{F G:Nat}(h:G≤F):(firsts ls F)[G]? =some (firstG ls G):=by
 simp[firsts,List.getElem?_range (show G<F+1 by omega)]
theorem firstG_mono{a b:Nat}(h:a≤b):firstG ls a≤firstG ls b:=by
 induction h with
 |refl=>exact Nat.le_refl _
 |step _ ih=>rw[firstG_succ];omega
theorem atG_split(g:Nat)(a:Let):((a.isP&&(decide (0≤a.gate)&&decide (a.gate<((g+1:Nat):Int))))=true)↔((a.isP&&(decide (0≤a.gate)&&decide (a.gate<(g:Int))))=true∨atG g a=true):=by
 simp only[atG,Bool.and_eq_true,decide_eq_true_eq,beq_iff_eq];constructor
 ·rintro ⟨h1,h2,h3⟩
  by_cases h:a.gate=(g:Int)
  ·exact Or.inr ⟨h1,h⟩
  ·exact Or.inl ⟨h1,h2,by omega⟩
 ·rintro (⟨h1,h2,h3⟩|⟨h1,h2⟩)
  ·exact⟨h1,h2,by omega⟩
  ·exact⟨h1,by omega,by omega⟩
theorem atG_not(g:Nat)(a:Let):(a.isP&&(decide (0≤a.gate)&&decide (a.gate<(g:Int))))=true→atG g a=true→False:=by
 simp only[atG,Bool.and_eq_true,decide_eq_true_eq,beq_iff_eq];omega
theorem countP_or{p q r:Let→Bool}(h: ∀ a,r a=true↔(p a=true∨q a=true))(hn: ∀ a,p a=true→q a=true→False): ∀ ls:List Let,ls.countP r=ls.countP p+ls.countP q:=by
 intro ls
 induction ls with
 |nil=>rfl
 |cons a ls ih=>
  rw[List.countP_cons,List.countP_cons,List.countP_cons,ih];have h1:=h a;have h2:=hn a;cases ep:p a<;>cases eq:q a<;>cases er:r a<;>simp_all<;>omega
theorem firstG_cnt(ls:List Let): ∀ g,firstG ls g=cnt (fun l=>l.isP&&(decide (0≤l.gate)&&decide (l.gate<((g:Nat):Int)))) ls:=by
 intro g
 induction g with
 |zero=>
  symm;show ls.countP _=0;rw[List.countP_eq_zero];intro a _;simp only[Bool.and_eq_true,decide_eq_true_eq];omega
 |succ g ih=>
  rw[firstG_succ,ih];exact(countP_or (atG_split g) (atG_not g) ls).symm
theorem firstG_le(ls:List Let)(g:Nat):firstG ls g≤ls.length:=by rw[firstG_cnt];exact cnt_le _ _
def plOf(ls:List Let)(l:Let):Nat:=firstG ls l.gate.toNat+l.rank.toNat - 1
def hereP(ls:List Let)(p i:Nat):Bool:=match ls[i]? with|some l=>l.isP&&plOf ls l==p|none=>false
def takenK(ls:List Let)(T k:Nat):List Bool:=(List.range T).map fun p=>(List.range k).any (hereP ls p)
def axP(ls:List Let)(k p:Nat):Nat:=((List.range k).find? (hereP ls p)).getD 0
def axPK(ls:List Let)(T k:Nat):List Nat:=(List.range T).map (axP ls k)
def plI(ls:List Let)(i:Nat):Nat:=match ls[i]? with|some l=>if l.isP then plOf ls l else 0|none=>0
def plK(ls:List Let)(k:Nat):List Nat:=(List.range ls.length).map fun i=>if i<k then plI ls i else 0
def rkOk(ls:List Let)(i:Nat):Bool:=match ls[i]? with
 |some l=> !l.isP||(decide (1≤l.rank)&&decide (l.rank≤(cg ls l.gate.toNat:Int)))&& !(List.range i).any (hereP ls (plOf ls l))
 |none=>true
def ranksR(ls:List Let):Bool:=(List.range ls.length).all (rkOk ls)
theorem takenK_zero(ls:List Let)(T:Nat):takenK ls T 0=List.replicate T false:=by
 apply List.ext_getElem<;>simp[takenK]
theorem axPK_zero(ls:List Let)(T:Nat):axPK ls T 0=List.replicate T 0:=by
 apply List.ext_getElem<;>simp[axPK,axP]
theorem plK_zero(ls:List Let):plK ls 0=List.replicate ls.length 0:=by
 apply List.ext_getElem<;>simp[plK]
theorem axPK_len(ls:List Let)(T k:Nat):(axPK ls T k).length=T:=by simp[axPK]
theorem plK_len(ls:List Let)(k:Nat):(plK ls k).length=ls.length:=by simp[plK]
theorem takenK_at{T k p:Nat}(h:p<T):(takenK ls T k)[p]? =some ((List.range k).any (hereP ls p)):=by simp[takenK,h]
theorem hereP_miss{k p:Nat}{l:Let}(h:ls[k]? =some l)(hp:l.isP=false):hereP ls p k=false:=by simp[hereP,h,hp]
theorem takenK_miss{T k:Nat}{l:Let}(h:ls[k]? =some l)(hp:l.isP=false):takenK ls T (k+1)=takenK ls T k:=by
 unfold takenK;congr 1;funext p;simp[List.range_succ,List.any_append,hereP_miss h hp]
theorem axPK_miss{T k:Nat}{l:Let}(h:ls[k]? =some l)(hp:l.isP=false):axPK ls T (k+1)=axPK ls T k:=by
 unfold axPK;congr 1;funext p;simp[axP,List.range_succ,List.find?_append,hereP_miss h hp]
theorem plK_miss{k:Nat}{l:Let}(h:ls[k]? =some l)(hp:l.isP=false):plK ls (k+1)=plK ls k:=by
 unfold plK;apply List.map_congr_left;intro i hi;by_cases e:i=k
 ·subst e;simp[plI,h,hp]
 ·have:(i<k+1)↔(i<k):=by omega
  simp[this]
theorem hereP_eq{k p:Nat}{l:Let}(h:ls[k]? =some l)(hp:l.isP=true):hereP ls p k=(plOf ls l==p):=by simp[hereP,h,hp]
theorem takenK_hit{T k:Nat}{l:Let}(h:ls[k]? =some l)(hp:l.isP=true):takenK ls T (k+1)=(takenK ls T k).set (plOf ls l) true:=by
 apply List.ext_getElem
 ·simp[takenK]
 ·intro i h1 h2;rw[List.getElem_set];simp only[takenK,List.getElem_map,List.getElem_range,List.range_succ,List.any_append,List.any_cons,List.any_nil,Bool.or_false,hereP_eq h hp];split
  ·rename_i e;simp[e]
  ·rename_i e;simp[e]
theorem axPK_hit{T k:Nat}{l:Let}(h:ls[k]? =some l)(hp:l.isP=true)(hn:(List.range k).any (hereP ls (plOf ls l))=false):axPK ls T (k+1)=(axPK ls T k).set (plOf ls l) k:=by
 apply List.ext_getElem
 ·simp[axPK]
 ·intro i h1 h2;rw[List.getElem_set];simp only[axPK,List.getElem_map,List.getElem_range,axP,List.range_succ,List.find?_append];by_cases e:plOf ls l=i
  ·have h3:(List.range k).find? (hereP ls i)=none:=by
    rw[← e,List.find?_eq_none];intro x hx hq;rw[List.any_eq_false] at hn;exact hn x hx hq
   have h4:hereP ls i k=true:=by rw[hereP_eq h hp];simp[e]
   rw[h3,if_pos e,List.find?_cons,h4];rfl
  ·have h4:hereP ls i k=false:=by rw[hereP_eq h hp];simp[e]
   rw[if_neg e,List.find?_cons,h4];simp
theorem plK_hit{k:Nat}{l:Let}(h:ls[k]? =some l)(hp:l.isP=true):plK ls (k+1)=(plK ls k).set k (plOf ls l):=by
 apply List.ext_getElem
 ·simp[plK]
 ·intro i h1 h2;rw[List.getElem_set];simp only[plK,List.getElem_map,List.getElem_range];by_cases e:k=i
  ·subst e;simp[plI,h,hp]
  ·have:(i<k+1)↔(i<k):=by omega
   simp only[this,if_neg e]
theorem ranks_no{k:Nat}(hk:k<ls.length)(h:rkOk ls k=false):ranksR ls=false:=by
 unfold ranksR;rw[List.all_eq_false];exact⟨k,List.mem_range.2 hk,by simp[h]⟩
theorem ranks_yes(h: ∀ i,i<ls.length→rkOk ls i=true):ranksR ls=true:=by
 unfold ranksR;rw[List.all_eq_true];exact fun i hi=>h i (List.mem_range.1 hi)
abbrev K437(id:Nat):Prop:=id=2432320128∨siteFn id=89
abbrev dgC(F:Nat)(ls:List Let)(c2 c3 c4 c5 c6:C):List C:=[.p (.int .i64 (F:Int)), .p (lsP ls),c2,c3,c4,c5,c6]
abbrev hs(id g n:Nat):C:= .hsl id g 1 0 n
abbrev gates(F:Nat)(ls:List Let):Prop:= ∀ l∈ls,l.isP=true→0≤l.gate∧l.gate≤(F:Int)
def rkPost(F:Nat)(ls:List Let)(g:Nat)(c5:C)(blk0:Blk)(v:V)(blk':Blk):Prop:=
 v=vb (ranksR ls)∧Kept K437 blk0 blk'∧(ranksR ls=true→ ∃ g1 g2 g3 g5,blk' 2432320128=(g,some (.var (dgC F ls (hs 5696128448 g2 ls.length) (hs 5697344128 g5 (firstG ls (F+1))) (hs 5696192448 g3 ls.length) c5 (hs 5696064448 g1 (F+1)))))∧
  blk' 5696064448=(g1,some (.arr 3 1 (nP (counts ls F))))∧blk' 5696128448=(g2,some (.arr 4 1 (bP (downs ls))))∧blk' 5696192448=(g3,some (.arr 3 1 (nP (plK ls ls.length))))∧
  blk' 5697344128=(g5,some (.arr 3 1 (nP (axPK ls (firstG ls (F+1)) ls.length)))))
theorem rk3{al:Al}(okD:al.ok 2432320128=true)(ok: ∀ id,siteFn id=89→al.ok id=true){blk0 blk:Blk}{env:Env}{g g1 g2 g3 g4 F:Nat}{c3 c5:C}(hl:ls.length≤1000000)(hF:F≤1000000)(hg:gates F ls)
  (h0:env 0= .one (.href 2432320128 g 0)) (h6:env 6= .one (hs 5696832384 g4 (F+1))) (h7:env 7=vi (firstG ls (F+1)))
  (bD:blk 2432320128=(g,some (.var (dgC F ls (hs 5696128448 g2 ls.length) c3 (hs 5696192448 g3 ls.length) c5 (hs 5696064448 g1 (F+1))))))
  (bC:blk 5696064448=(g1,some (.arr 3 1 (nP (counts ls F))))) (bW:blk 5696128448=(g2,some (.arr 4 1 (bP (downs ls))))) (bP':blk 5696192448=(g3,some (.arr 3 1 (nP (plK ls 0)))))
  (bF:blk 5696832384=(g4,some (.arr 3 1 (nP (firsts ls F))))) (hk:Kept K437 blk0 blk):W S al i89_r5 (endQ al [(2,none)] (rkPost F ls g c5 blk0)) env blk:=by
 have o1:=ok 5696064448 rfl;have o2:=ok 5696128448 rfl;have o3:=ok 5696192448 rfl;have o4:=ok 5696448192 rfl;have o5:=ok 5696832384 rfl;have o6:=ok 5697344128 rfl;have o7:=ok 5697408064 rfl;have o8:=ok 5697600192 rfl;have hT:=firstG_le ls (F+1);have hr8:firstG ls (F+1)*8≤140737488355328:=by omega
 have hr1:firstG ls (F+1)≤140737488355328:=by omega
 simp only[go_sem,i89_r5,h0,h7,bD,hr8,hr1,okD,o6,o7];refine R_for (fun k env blk'=>env 0= .one (.href 2432320128 g 0)∧env 6= .one (hs 5696832384 g4 (F+1))∧env 10= .one (hs 5697408064 ((blk 5697408064).1+1) (firstG ls (F+1)))∧env 114= .one (.p (lsP ls))∧env 115=vi ls.length∧env 116=vi k∧
  blk' 2432320128=(g,some (.var (dgC F ls (hs 5696128448 g2 ls.length) (hs 5697344128 ((blk 5697344128).1+1) (firstG ls (F+1))) (hs 5696192448 g3 ls.length) c5 (hs 5696064448 g1 (F+1)))))∧
  blk' 5696064448=(g1,some (.arr 3 1 (nP (counts ls F))))∧blk' 5696128448=(g2,some (.arr 4 1 (bP (downs ls))))∧blk' 5696192448=(g3,some (.arr 3 1 (nP (plK ls k))))∧
  blk' 5696832384=(g4,some (.arr 3 1 (nP (firsts ls F))))∧blk' 5697344128=((blk 5697344128).1+1,some (.arr 3 1 (nP (axPK ls (firstG ls (F+1)) k))))∧blk' 5697408064=((blk 5697408064).1+1,some (.arr 4 1 (bP (takenK ls (firstG ls (F+1)) k))))∧
  (∀ i,i<k→rkOk ls i=true)∧Kept K437 blk0 blk') 0 ls.length (Nat.zero_le _) ?_ ?_
 ·simp only[go_sem,h0,h6,bC,bW,bP',bF,axPK_zero,takenK_zero,nP_rep,bP_rep];refine⟨rfl,rfl,fun i h=>absurd h (Nat.not_lt_zero i),?_⟩;repeat(first|exact hk|refine Kept.upd ?_ (by first|exact Or.inl rfl|exact Or.inr rfl) _)
 ·rintro k env blk' hk ⟨h0,h6,h10,h114,h115,h116,bD,bC,bW,bP',bF,bA,bT,hok,hkp⟩
  by_cases hlt:k<ls.length
  ·obtain⟨l,hkl⟩:=at_lt hlt;have hi:=ps_of hkl;have hlt':((k:Int)<(ls.length:Int)):=by omega
   have w1:=wrap_succ (n:=k) (by omega);cases hp:(l.kind==1) with
   |false=>
    have hp':l.isP=false:=hp;have hp2:(l.kind !=1)=true:=by simp[bne,hp]
    have hrk:rkOk ls k=true:=by simp[rkOk,hkl,hp']
    simp only[go_sem,i89_l3,h0,h6,h10,h114,h115,h116,bD,bC,bW,bF,bP',bA,bT,hi,Let.ps,hlt',hp2,w1,o8];refine⟨hlt,?_,?_,?_,?_,?_⟩
    ·rw[plK_miss hkl hp']
    ·rw[axPK_miss hkl hp']
    ·rw[takenK_miss hkl hp']
    ·intro i hi;rcases Nat.lt_succ_iff_lt_or_eq.1 hi with h|rfl
     ·exact hok i h
     ·exact hrk
    ·repeat(first|exact hkp|refine Kept.upd ?_ (by first|exact Or.inl rfl|exact Or.inr rfl) _)
   |true=>
    have hp':l.isP=true:=hp;have hp2:(l.kind !=1)=false:=by simp[bne,hp]
    obtain⟨hg1,hg2⟩:=hg l (List.mem_of_getElem? hkl) hp';obtain⟨G,hG⟩:=Int.eq_ofNat_of_zero_le hg1;have hGF:G≤F:=by omega
    have hGF':G<F+1:=by omega
    have hca:=nP_at (counts_at (ls:=ls) hGF);have hfa:=nP_at (firsts_at (ls:=ls) hGF);have hgt:l.gate.toNat=G:=by omega
    cases r1:decide (l.rank<1) with
    |true=>
     have r1':l.rank<1:=of_decide_eq_true r1;have r1n: ¬ 1≤l.rank:=by omega
     have hno:=ranks_no hlt (show rkOk ls k=false by simp[rkOk,hkl,hp',r1n]);simp only[go_sem,i89_l3,h114,h115,h116,hi,Let.ps,hlt',hp2,r1',o8];refine⟨okd,?_⟩;unfold rkPost;refine⟨by rw[hno],?_,fun h=>by rw[hno] at h;cases h⟩;repeat(first|exact hkp|refine Kept.upd ?_ (by first|exact Or.inl rfl|exact Or.inr rfl) _)
    |false=>
     have r1': ¬ l.rank<1:=of_decide_eq_false r1;obtain⟨R,hR⟩:=Int.eq_ofNat_of_zero_le (show 0≤l.rank by omega);have r1R: ¬ ((R:Int)<1):=by omega
     cases r2:decide ((cg ls G:Int)<(R:Int)) with
     |true=>
      have r2':(cg ls G:Int)<(R:Int):=of_decide_eq_true r2;have r2n: ¬ l.rank≤(cg ls l.gate.toNat:Int):=by rw[hgt];omega
      have hno:=ranks_no hlt (show rkOk ls k=false by simp[rkOk,hkl,hp',r2n]);simp only[go_sem,i89_l3,h0,h114,h115,h116,bD,bC,hi,Let.ps,hlt',hp2,hR,hG,r1R,r2',hca,hGF',okD,o1,o8];refine⟨okd,?_⟩;unfold rkPost;refine⟨by rw[hno],?_,fun h=>by rw[hno] at h;cases h⟩;repeat(first|exact hkp|refine Kept.upd ?_ (by first|exact Or.inl rfl|exact Or.inr rfl) _)
     |false=>
      have r2': ¬ (cg ls G:Int)<(R:Int):=of_decide_eq_false r2;have hfle:=firstG_le ls G;have hmono:=firstG_mono (ls:=ls) (show G+1≤F+1 by omega);have hgs:=firstG_succ ls G;have hPT:plOf ls l<firstG ls (F+1):=by unfold plOf;rw[hgt];omega
      have hpl:firstG ls G+R - 1=plOf ls l:=by unfold plOf;rw[hgt];omega
      have hcl:cg ls G≤ls.length:=cnt_le _ _;have w2:=wrap_add (a:=firstG ls G) (b:=R) (by omega);have w3:=wrap_pred (a:=firstG ls G+R) (by omega) (by omega);rw[hpl] at w3;have hta:=bP_at (takenK_at (ls:=ls) (k:=k) hPT);cases hu:(List.range k).any (hereP ls (plOf ls l)) with
      |true=>
       rw[hu] at hta;have hno:=ranks_no hlt (show rkOk ls k=false by simp[rkOk,hkl,hp',hu]);simp only[go_sem,i89_l3,h0,h6,h10,h114,h115,h116,bD,bC,bF,bT,hi,Let.ps,hlt',hp2,hR,hG,r1R,r2',hca,hfa,hGF',w2,w3,hta,hPT,okD,o1,o5,o7,o8];refine⟨okd,okd,?_⟩;unfold rkPost;refine⟨by rw[hno],?_,fun h=>by rw[hno] at h;cases h⟩;repeat(first|exact hkp|refine Kept.upd ?_ (by first|exact Or.inl rfl|exact Or.inr rfl) _)
      |false=>
       rw[hu] at hta;have hrk:rkOk ls k=true:=by
        have e1:1≤l.rank:=by omega
        have e2:l.rank≤(cg ls l.gate.toNat:Int):=by rw[hgt];omega
        simp[rkOk,hkl,e1,e2,hu]
       obtain⟨a0,haa⟩:=at_lt (show plOf ls l<(axPK ls (firstG ls (F+1)) k).length by rw[axPK_len];exact hPT);obtain⟨p0,hpa⟩:=at_lt (show k<(plK ls k).length by rw[plK_len];exact hlt);have haa:=nP_at haa;have hpa:=nP_at hpa;have s1:=bP_set (takenK ls (firstG ls (F+1)) k) (plOf ls l) true;rw[← takenK_hit hkl hp'] at s1;have s2:=nP_set (axPK ls (firstG ls (F+1)) k) (plOf ls l) k;rw[← axPK_hit hkl hp' hu] at s2;have s3:=nP_set (plK ls k) k (plOf ls l);rw[← plK_hit hkl hp'] at s3
       simp only[go_sem,i89_l3,h0,h6,h10,h114,h115,h116,bD,bC,bW,bF,bP',bA,bT,hi,Let.ps,hlt',hlt,hp2,w1,hR,hG,r1R,r2',hca,hfa,hGF',w2,w3,hta,hPT,haa,hpa,s1,s2,s3,okD,o1,o3,o5,o6,o7,o8];refine⟨okd,okd,okd,?_,?_⟩
       ·intro i hi;rcases Nat.lt_succ_iff_lt_or_eq.1 hi with h|rfl
        ·exact hok i h
        ·exact hrk
       ·repeat(first|exact hkp|refine Kept.upd ?_ (by first|exact Or.inl rfl|exact Or.inr rfl) _)
  ·have:k=ls.length:=by omega
   subst this;have hr:=ranks_yes hok;simp only[go_sem,i89_l3,i89_r4,h115,h116,no_more];exact⟨by rw[hr],hkp,fun _=>⟨g1,g2,g3,(blk 5697344128).1+1,bD,bC,bW,bP',bA⟩⟩
theorem rk2{al:Al}(okD:al.ok 2432320128=true)(ok: ∀ id,siteFn id=89→al.ok id=true){blk0 blk:Blk}{env:Env}{g g1 g2 g3 F:Nat}{c3 c5:C}(hl:ls.length≤1000000)(hF:F≤1000000)(hg:gates F ls)
  (h0:env 0= .one (.href 2432320128 g 0))
  (bD:blk 2432320128=(g,some (.var (dgC F ls (hs 5696128448 g2 ls.length) c3 (hs 5696192448 g3 ls.length) c5 (hs 5696064448 g1 (F+1))))))
  (bC:blk 5696064448=(g1,some (.arr 3 1 (nP (counts ls F))))) (bW:blk 5696128448=(g2,some (.arr 4 1 (bP (downs ls))))) (bP':blk 5696192448=(g3,some (.arr 3 1 (nP (plK ls 0)))))
  (hk:Kept K437 blk0 blk):W S al i89_r6 (endQ al [(2,none)] (rkPost F ls g c5 blk0)) env blk:=by
 have o1:=ok 5696064448 rfl;have o2:=ok 5696128448 rfl;have o3:=ok 5696192448 rfl;have o4:=ok 5696448192 rfl;have o5:=ok 5696832384 rfl;have o6:=ok 5697344128 rfl;have o7:=ok 5697408064 rfl;have o8:=ok 5697600192 rfl;have hr8:(F+1)*8≤140737488355328:=by omega
 have wF:=wrap_succ (n:=F) (by omega);simp only[go_sem,i89_r6,h0,bD,wF,hr8,okD,o5];refine R_for (fun k env blk'=>env 0= .one (.href 2432320128 g 0)∧env 6= .one (hs 5696832384 ((blk 5696832384).1+1) (F+1))∧env 7=vi (firstG ls k)∧env 88= .one (hs 5696064448 g1 (F+1))∧env 89=vi ((F+1:Nat):Int)∧env 90=vi k∧
  blk' 2432320128=(g,some (.var (dgC F ls (hs 5696128448 g2 ls.length) c3 (hs 5696192448 g3 ls.length) c5 (hs 5696064448 g1 (F+1)))))∧
  blk' 5696064448=(g1,some (.arr 3 1 (nP (counts ls F))))∧blk' 5696128448=(g2,some (.arr 4 1 (bP (downs ls))))∧blk' 5696192448=(g3,some (.arr 3 1 (nP (plK ls 0))))∧
  blk' 5696832384=((blk 5696832384).1+1,some (.arr 3 1 (nP (firstsK ls F k))))∧Kept K437 blk0 blk') 0 (F+1) (Nat.zero_le _) ?_ ?_
 ·simp only[go_sem,h0,bD,bC,bW,bP',firstsK_zero,nP_rep];refine⟨rfl,rfl,rfl,?_⟩;repeat(first|exact hk|refine Kept.upd ?_ (by first|exact Or.inl rfl|exact Or.inr rfl) _)
 ·rintro k env blk' hk ⟨h0,h6,h7,h88,h89,h90,bD,bC,bW,bP',bF,hkp⟩
  by_cases hlt:k<F+1
  ·have hlt':((k:Int)<((F+1:Nat):Int)):=by omega
   have w1:=wrap_succ (n:=k) (by omega);have hc:=nP_at (counts_at (ls:=ls) (show k≤F by omega));obtain⟨a0,ha⟩:=at_lt (show k<(firstsK ls F k).length by rw[firstsK_len];exact hlt);have ha:=nP_at ha;have s1:=nP_set (firstsK ls F k) k (firstG ls k);rw[← firstsK_set] at s1;have hs:=firstG_succ ls k;have hle:=firstG_le ls (k+1);have w2:=wrap_add (a:=firstG ls k) (b:=cg ls k) (by omega);rw[← hs] at w2;simp only[go_sem,i89_l2,h0,h6,h7,h88,h89,h90,bD,bC,bW,bP',bF,hlt,hlt',hc,ha,s1,w1,w2,o1,o5]
   repeat(first|exact hkp|refine Kept.upd ?_ (by first|exact Or.inl rfl|exact Or.inr rfl) _)
  ·have:k=F+1:=by omega
   subst this;simp only[go_sem,i89_l2,h89,h90,no_more];exact rk3 okD ok hl hF hg h0 h6 h7 bD bC bW bP' (by rw[bF,firstsK_all]) hkp
theorem ranks_p{al:Al}(okD:al.ok 2432320128=true)(ok: ∀ id,siteFn id=89→al.ok id=true){blk:Blk}{g F:Nat}{c2 c3 c4 c5 c6:C}(hl:ls.length≤1000000)(hF:F≤1000000)(hg:gates F ls)
  (bD:blk 2432320128=(g,some (.var (dgC F ls c2 c3 c4 c5 c6)))): ∃ v blk',SEv S 89 [.one (.href 2432320128 g 0)] al blk v blk'∧rkPost F ls g c5 blk v blk':=by
 have o1:=ok 5696064448 rfl;have o2:=ok 5696128448 rfl;have o3:=ok 5696192448 rfl;have o4:=ok 5696448192 rfl;have o5:=ok 5696832384 rfl;have o6:=ok 5697344128 rfl;have o7:=ok 5697408064 rfl;have o8:=ok 5697600192 rfl;refine SEv_fn c89 (Nat.le_of_ble_eq_true rfl) ?_;have hr8:(F+1)*8≤140737488355328:=by omega
 have hn8:ls.length*8≤140737488355328:=by omega
 have hn1:ls.length≤140737488355328:=by omega
 have wF:=wrap_succ (n:=F) (by omega);simp only[go_sem,i89,bD,wF,hr8,hn8,hn1,okD,o1,o2,o3];refine R_for (fun k env blk'=>env 0= .one (.href 2432320128 g 0)∧env 3=vb (dn ls k)∧env 48= .one (.p (lsP ls))∧env 49=vi ls.length∧env 50=vi k∧
  blk' 2432320128=(g,some (.var (dgC F ls (hs 5696128448 ((blk 5696128448).1+1) ls.length) c3 (hs 5696192448 ((blk 5696192448).1+1) ls.length) c5 (hs 5696064448 ((blk 5696064448).1+1) (F+1)))))∧
  blk' 5696064448=((blk 5696064448).1+1,some (.arr 3 1 (nP (countsK ls F k))))∧blk' 5696128448=((blk 5696128448).1+1,some (.arr 4 1 (bP (downsK ls k))))∧blk' 5696192448=((blk 5696192448).1+1,some (.arr 3 1 (nP (plK ls 0))))∧
  Kept K437 blk blk') 0 ls.length (Nat.zero_le _) ?_ ?_
 ·simp only[go_sem,bD,countsK_zero,downsK_zero,plK_zero,nP_rep,bP_rep];refine⟨rfl,rfl,rfl,rfl,?_⟩;repeat(first|exact(Kept.refl _ _)|refine Kept.upd ?_ (by first|exact Or.inl rfl|exact Or.inr rfl) _)
 ·rintro k env blk' hk ⟨h0,h3,h48,h49,h50,bD,bC,bW,bP',hkp⟩
  by_cases hlt:k<ls.length
  ·obtain⟨l,hkl⟩:=at_lt hlt;have hi:=ps_of hkl;have hlt':((k:Int)<(ls.length:Int)):=by omega
   have w1:=wrap_succ (n:=k) (by omega);cases hp:(l.kind==1) with
   |false=>
    have hp':l.isP=false:=hp;simp only[go_sem,i89_l1,h0,h3,h48,h49,h50,bD,bC,bW,bP',hi,Let.ps,hlt',hp,w1,o4];refine⟨hlt,?_,?_,?_,?_⟩
    ·rw[dn_miss hkl hp']
    ·rw[countsK_miss hkl hp']
    ·rw[downsK_miss hkl hp']
    ·repeat(first|exact hkp|refine Kept.upd ?_ (by first|exact Or.inl rfl|exact Or.inr rfl) _)
   |true=>
    have hp':l.isP=true:=hp;obtain⟨hg1,hg2⟩:=hg l (List.mem_of_getElem? hkl) hp';obtain⟨G,hG⟩:=Int.eq_ofNat_of_zero_le hg1;have hGF:G≤F:=by omega
    have hGF':G<F+1:=by omega
    have hca:=nP_at (countsK_at (ls:=ls) (k:=k) hGF);have hcl:cg (ls.take k) G≤k:=cnt_take_le _ _ _;have w2:=wrap_succ (n:=cg (ls.take k) G) (by omega);have s1:=nP_set (countsK ls F k) G (cg (ls.take k) G+1);rw[← countsK_hit hkl hp' hG] at s1;obtain⟨b0,hb⟩:=at_lt (show k<(downsK ls k).length by rw[downsK_len];exact hlt);have hb:=bP_at hb;have s2:=bP_set (downsK ls k) k (dn ls k);rw[← downsK_hit hkl hp'] at s2;have hd:=dn_hit hkl hp';simp only[go_sem,i89_l1,h0,h3,h48,h49,h50,bD,bC,bW,bP',hi,Let.ps,hlt',hlt,hp,w1,hG,hca,hGF',w2,s1,hb,s2,hd,okD,o1,o2,o4]
    refine⟨okd,?_⟩;repeat(first|exact hkp|refine Kept.upd ?_ (by first|exact Or.inl rfl|exact Or.inr rfl) _)
  ·have:k=ls.length:=by omega
   subst this;simp only[go_sem,i89_l1,h49,h50,no_more];exact rk2 okD ok hl hF hg h0 bD (by rw[bC,countsK_all]) (by rw[bW,downsK_all]) bP' hkp
def hit(ls:List Let)(id:Int)(o:Bool)(j:Nat):Bool:=match ls[j]? with|some m=>m.isC&&(m.id==id&&m.over==o)|none=>false
def visJ(ls:List Let)(k:Nat)(id:Int)(o:Bool):Option Nat:=(List.range k).find? (hit ls id o)
def visV:Option Nat→Int
 |some j=>j
 |none=> -1
def idsK(ls:List Let):Nat→List Int
 |0=>[]
 |k+1=>match ls[k]? with
  |some l=>if l.isC&& !(idsK ls k).contains l.id then idsK ls k++[l.id] else idsK ls k
  |none=>idsK ls k
def entV(ls:List Let)(k:Nat)(id:Int):List PV:=[.int .i64 (visV (visJ ls k id false)), .int .i64 (visV (visJ ls k id true))]
def mapK(ls:List Let)(k:Nat):List (PV × List PV):=(idsK ls k).map fun id=>(PV.int .i64 id,entV ls k id)
def signAt(ls:List Let)(j:Nat):Int:=((ls[j]?).map Let.sign).getD 0
def xOk(ls:List Let)(n2:Nat)(k:Nat):Bool:=match ls[k]? with
 |some l=> !l.isC||((decide (1≤l.id)&&decide (l.id≤(n2:Int)))&&((visJ ls k l.id l.over).isNone&&(match visJ ls k l.id (!l.over) with|some j=>signAt ls j==l.sign|none=>true)))
 |none=>true
def crossR(ls:List Let):Bool:=(cnt Let.isC ls%2==0)&&(List.range ls.length).all (xOk ls (cnt Let.isC ls/2))&&((idsK ls ls.length).length==cnt Let.isC ls/2)
theorem hit_of{k:Nat}{l:Let}(h:ls[k]? =some l)(hc:l.isC=true)(id:Int)(o:Bool):hit ls id o k=(l.id==id&&l.over==o):=by simp[hit,h,hc]
theorem hit_miss{k:Nat}{l:Let}(h:ls[k]? =some l)(hc:l.isC=false)(id:Int)(o:Bool):hit ls id o k=false:=by simp[hit,h,hc]
theorem visJ_succ(ls:List Let)(k:Nat)(id:Int)(o:Bool):visJ ls (k+1) id o=(visJ ls k id o).or (if hit ls id o k then some k else none):=by
 simp only[visJ,List.range_succ,List.find?_append,List.find?_cons,List.find?_nil];cases hit ls id o k<;>rfl
theorem visJ_some{k:Nat}{id:Int}{o:Bool}{j:Nat}(h:visJ ls k id o=some j):j<k∧hit ls id o j=true:=
 ⟨List.mem_range.1 (List.mem_of_find?_eq_some h),List.find?_some h⟩
theorem hit_some{id:Int}{o:Bool}{j:Nat}(h:hit ls id o j=true): ∃ m,ls[j]? =some m∧m.isC=true∧m.id=id∧m.over=o:=by
 unfold hit at h;split at h
 ·rename_i m hm;simp only[Bool.and_eq_true,beq_iff_eq] at h;exact⟨m,hm,h.1,h.2.1,h.2.2⟩
 ·cases h
theorem visJ_none{k:Nat}{id:Int}{o:Bool}(h:visJ ls k id o=none){j:Nat}(hj:j<k):hit ls id o j=false:=by
 have:=List.find?_eq_none.1 h j (List.mem_range.2 hj)
 simpa using this
theorem ids_miss{k:Nat}{l:Let}(h:ls[k]? =some l)(hc:l.isC=false):idsK ls (k+1)=idsK ls k:=by simp[idsK,h,hc]
theorem ids_new{k:Nat}{l:Let}(h:ls[k]? =some l)(hc:l.isC=true)(hn:l.id∉idsK ls k):idsK ls (k+1)=idsK ls k++[l.id]:=by simp[idsK,h,hc,hn]
theorem ids_old{k:Nat}{l:Let}(h:ls[k]? =some l)(hn:l.id∈idsK ls k):idsK ls (k+1)=idsK ls k:=by simp[idsK,h,hn]
theorem map_miss{k:Nat}{l:Let}(h:ls[k]? =some l)(hc:l.isC=false):mapK ls (k+1)=mapK ls k:=by
 unfold mapK entV;rw[ids_miss h hc];simp[visJ_succ,hit_miss h hc]
theorem ids_mem0{id:Int}: ∀ (k:Nat),k≤ls.length→(id∈idsK ls k↔ ∃ j o,j<k∧hit ls id o j=true):=by
 intro k
 induction k with
 |zero=>intro _;simp[idsK]
 |succ k ih=>
  intro hk;obtain⟨l,hl⟩:=at_lt (show k<ls.length by omega);have ih:=ih (by omega);have old:(∃ j o,j<k∧hit ls id o j=true)→ ∃ j o,j<k+1∧hit ls id o j=true:=fun⟨j,o,h1,h2⟩=>⟨j,o,by omega,h2⟩
  cases hc:l.isC with
  |false=>
   rw[ids_miss hl hc,ih];refine⟨old,?_⟩;rintro ⟨j,o,h1,h2⟩
   rcases Nat.lt_succ_iff_lt_or_eq.1 h1 with h|rfl
   ·exact⟨j,o,h,h2⟩
   ·rw[hit_miss hl hc] at h2;cases h2
  |true=>
   have key:id∈idsK ls (k+1)↔(id∈idsK ls k∨id=l.id):=by
    by_cases hm:l.id∈idsK ls k
    ·rw[ids_old hl hm];exact⟨Or.inl,fun h=>h.elim id' (fun e=>e▸hm)⟩
    ·rw[ids_new hl hc hm];simp
   rw[key,ih];constructor
   ·rintro (h|rfl)
    ·exact old h
    ·exact⟨k,l.over,by omega,by rw[hit_of hl hc];simp⟩
   ·rintro ⟨j,o,h1,h2⟩
    rcases Nat.lt_succ_iff_lt_or_eq.1 h1 with h|rfl
    ·exact Or.inl ⟨j,o,h,h2⟩
    ·rw[hit_of hl hc] at h2;simp only[Bool.and_eq_true,beq_iff_eq] at h2;exact Or.inr h2.1.symm
where id' {p:Prop} (h:p):p:=h
theorem ids_mem{id:Int}{k:Nat}(h:k≤ls.length):id∈idsK ls k↔ ∃ j o,j<k∧hit ls id o j=true:=ids_mem0 k h
theorem ids_nodup(ls:List Let): ∀ k,(idsK ls k).Nodup:=by
 intro k
 induction k with
 |zero=>simp[idsK]
 |succ k ih=>
  unfold idsK;split
  ·split
   ·rename_i h;simp only[Bool.and_eq_true,Bool.not_eq_true',List.contains_eq_mem,decide_eq_false_iff_not] at h;rw[List.nodup_append];refine⟨ih,by simp,?_⟩;intro a ha b hb;simp only[List.mem_singleton] at hb;subst hb;rintro rfl
    exact h.2 ha
   ·exact ih
  ·exact ih
theorem vis_not{k:Nat}(hk:k≤ls.length){id:Int}(h:id∉idsK ls k)(o:Bool):visJ ls k id o=none:=by
 cases hv:visJ ls k id o with
 |none=>rfl
 |some j=>
  obtain⟨h1,h2⟩:=visJ_some hv;exact absurd ((ids_mem hk).2 ⟨j,o,h1,h2⟩) h
theorem vis_met{k:Nat}(hk:k≤ls.length){id:Int}(h:id∈idsK ls k)(o:Bool)(hn:visJ ls k id o=none): ∃ j m,visJ ls k id (!o)=some j∧ls[j]? =some m∧j<k:=by
 obtain⟨j,o',h1,h2⟩:=(ids_mem hk).1 h;by_cases e:o'=o
 ·subst e;rw[visJ_none hn h1] at h2;cases h2
 ·have e:o'= !o:=by cases o<;>cases o'<;>simp_all
  subst e;cases hv:visJ ls k id (!o) with
  |none=>rw[visJ_none hv h1] at h2;cases h2
  |some i=>
   obtain⟨h3,h4⟩:=visJ_some hv;obtain⟨m,hm,_⟩:=hit_some h4;exact⟨i,m,rfl,hm,h3⟩
theorem vis_other{k:Nat}{l:Let}(h:ls[k]? =some l)(hc:l.isC=true){id:Int}(hn: ¬ l.id=id)(o:Bool):visJ ls (k+1) id o=visJ ls k id o:=by
 rw[visJ_succ,hit_of h hc];simp[hn]
theorem vis_same{k:Nat}{l:Let}(h:ls[k]? =some l)(hc:l.isC=true)(hn:visJ ls k l.id l.over=none):visJ ls (k+1) l.id l.over=some k:=by
 rw[visJ_succ,hit_of h hc,hn];simp
theorem vis_else{k:Nat}{l:Let}(h:ls[k]? =some l)(hc:l.isC=true):visJ ls (k+1) l.id (!l.over)=visJ ls k l.id (!l.over):=by
 rw[visJ_succ,hit_of h hc];cases l.over<;>simp
theorem ent_other{k:Nat}{l:Let}(h:ls[k]? =some l)(hc:l.isC=true){id:Int}(hn: ¬ l.id=id):entV ls (k+1) id=entV ls k id:=by
 unfold entV;rw[vis_other h hc hn,vis_other h hc hn]
theorem map_new{k:Nat}{l:Let}(h:ls[k]? =some l)(hc:l.isC=true)(hn:l.id∉idsK ls k):mapK ls (k+1)=mapK ls k++[(.int .i64 l.id,entV ls (k+1) l.id)]:=by
 unfold mapK;rw[ids_new h hc hn,List.map_append];congr 1;apply List.map_congr_left;intro id hid;rw[ent_other h hc (by rintro rfl;exact hn hid)]
theorem map_old{k:Nat}{l:Let}(h:ls[k]? =some l)(hc:l.isC=true)(hn:l.id∈idsK ls k):mapK ls (k+1)=(mapK ls k).set ((idsK ls k).idxOf l.id) (.int .i64 l.id,entV ls (k+1) l.id):=by
 unfold mapK;rw[ids_old h hn];apply List.ext_getElem
 ·simp
 ·intro i h1 h2;rw[List.getElem_set];simp only[List.length_map] at h1;by_cases e:(idsK ls k).idxOf l.id=i
  ·subst e;simp only[List.getElem_map,if_pos,List.getElem_idxOf]
  ·rw[if_neg e];simp only[List.getElem_map];rw[ent_other h hc];intro e2;apply e;rw[e2];exact(ids_nodup ls k).idxOf_getElem i h1
theorem find_map(ls:List Let)(k:Nat)(q:Int):findK (.int .i64 q) (mapK ls k) 0=some (if q∈idsK ls k then some ((idsK ls k).idxOf q,entV ls k q) else none):=by
 unfold mapK;rw[findK_ints];simp
theorem cross_no{k:Nat}(hk:k<ls.length)(h:xOk ls (cnt Let.isC ls/2) k=false):crossR ls=false:=by
 have:(List.range ls.length).all (xOk ls (cnt Let.isC ls/2))=false:=List.all_eq_false.2 ⟨k,List.mem_range.2 hk,by simp[h]⟩;simp[crossR,this]
theorem cross_yes(he:cnt Let.isC ls%2=0)(h: ∀ i,i<ls.length→xOk ls (cnt Let.isC ls/2) i=true):crossR ls=((idsK ls ls.length).length==cnt Let.isC ls/2):=by
 have:(List.range ls.length).all (xOk ls (cnt Let.isC ls/2))=true:=List.all_eq_true.2 fun i hi=>h i (List.mem_range.1 hi)
 simp[crossR,this,he]
abbrev K438(id:Nat):Prop:=id=2432320128∨siteFn id=90
def xrPost(F:Nat)(ls:List Let)(g:Nat)(c2 c3 c4 c6:C)(blk0:Blk)(v:V)(blk':Blk):Prop:=
 v=vb (crossR ls)∧Kept K438 blk0 blk'∧(crossR ls=true→ ∃ g1,blk' 2432320128=(g,some (.var (dgC F ls c2 c3 c4 (.hmap 5760256064 g1) c6)))∧blk' 5760256064=(g1,some (.map true (mapK ls ls.length))))
theorem ge0(j:Nat):decide ((0:Int)≤(j:Int))=true:=decide_eq_true (by omega)
theorem wr0:IntKind.i64.wrap 0=0:=by decide
theorem wr1:IntKind.i64.wrap 1=1:=by decide
theorem neg1:((-1:Int)≥0)=False:=by simp
theorem neg1':((0:Int)≤ -1)=False:=by simp
theorem dcross_p{al:Al}(okD:al.ok 2432320128=true)(ok: ∀ id,siteFn id=90→al.ok id=true){blk:Blk}{g F:Nat}{c2 c3 c4 c5 c6:C}(hl:ls.length≤1000000)
  (bD:blk 2432320128=(g,some (.var (dgC F ls c2 c3 c4 c5 c6)))): ∃ v blk',SEv S 90 [.one (.href 2432320128 g 0)] al blk v blk'∧xrPost F ls g c2 c3 c4 c6 blk v blk':=by
 have o1:=ok 5760256064 rfl;have o2:=ok 5760448192 rfl;have o3:=ok 5760704640 rfl;refine SEv_fn c90 (Nat.le_of_ble_eq_true rfl) ?_;have pc:=crosses_p F ls hl;have hcl:cnt Let.isC ls≤ls.length:=cnt_le _ _;cases he:(((cnt Let.isC ls%2:Nat):Int)!=0) with
 |true=>
  have hno:crossR ls=false:=by
   have:(cnt Let.isC ls%2==0)=false:=by simp at he ⊢;omega
   simp[crossR,this]
  simp only[go_sem,i90,bD,s33,gP_int_al pc,tmod2,two_ne,he,okD];exact⟨by rw[hno],Kept.refl _ _,fun h=>by rw[hno] at h;cases h⟩
 |false=>
  have he0:cnt Let.isC ls%2=0:=by simp at he;omega
  simp only[go_sem,i90,bD,s33,gP_int_al pc,tmod2,two_ne,he,okD,o1];refine R_for (fun k env blk'=>env 0= .one (.href 2432320128 g 0)∧env 3=vi (cnt Let.isC ls)∧env 25= .one (.p (lsP ls))∧env 26=vi ls.length∧env 27=vi k∧
   blk' 2432320128=(g,some (.var (dgC F ls c2 c3 c4 (.hmap 5760256064 ((blk 5760256064).1+1)) c6)))∧blk' 5760256064=((blk 5760256064).1+1,some (.map true (mapK ls k)))∧
   (∀ i,i<k→xOk ls (cnt Let.isC ls/2) i=true)∧Kept K438 blk blk') 0 ls.length (Nat.zero_le _) ?_ ?_
  ·simp only[go_sem,bD];refine⟨rfl,rfl,fun i h=>absurd h (Nat.not_lt_zero i),?_⟩;repeat(first|exact(Kept.refl _ _)|refine Kept.upd ?_ (by first|exact Or.inl rfl|exact Or.inr rfl) _)
  ·rintro k env blk' hk ⟨h0,h3,h25,h26,h27,bD,bM,hok,hkp⟩
   have wq:IntKind.i64.wrap ((cnt Let.isC ls/2:Nat):Int)=((cnt Let.isC ls/2:Nat):Int):=wrap_small (by omega);by_cases hlt:k<ls.length
   ·obtain⟨l,hkl⟩:=at_lt hlt;have hi:=ps_of hkl;have hlt':((k:Int)<(ls.length:Int)):=by omega
    have w1:=wrap_succ (n:=k) (by omega);cases hc:(l.kind==2) with
    |false=>
     have hc':l.isC=false:=hc;have hp:(l.kind !=2)=true:=by simp[bne,hc]
     have hrk:xOk ls (cnt Let.isC ls/2) k=true:=by simp[xOk,hkl,hc']
     simp only[go_sem,i90_l1,h0,h3,h25,h26,h27,bD,bM,hi,Let.ps,hlt',hp,w1,o2];refine⟨hlt,?_,?_,?_⟩
     ·rw[map_miss hkl hc']
     ·intro i hi;rcases Nat.lt_succ_iff_lt_or_eq.1 hi with h|rfl
      ·exact hok i h
      ·exact hrk
     ·repeat(first|exact hkp|refine Kept.upd ?_ (by first|exact Or.inl rfl|exact Or.inr rfl) _)
    |true=>
     have hc':l.isC=true:=hc;have hp:(l.kind !=2)=false:=by simp[bne,hc]
     cases r1:decide (l.id<1) with
     |true=>
      have r1':l.id<1:=of_decide_eq_true r1;have r1n: ¬ 1≤l.id:=by omega
      have hno:=cross_no hlt (show xOk ls (cnt Let.isC ls/2) k=false by simp[xOk,hkl,hc',r1n]);simp only[go_sem,i90_l1,h25,h26,h27,hi,Let.ps,hlt',hp,r1',o2];unfold xrPost;refine⟨by rw[hno],?_,fun h=>by rw[hno] at h;cases h⟩;repeat(first|exact hkp|refine Kept.upd ?_ (by first|exact Or.inl rfl|exact Or.inr rfl) _)
     |false=>
      have r1': ¬ l.id<1:=of_decide_eq_false r1;have r1y:1≤l.id:=by omega
      cases r2:decide (((cnt Let.isC ls/2:Nat):Int)<l.id) with
      |true=>
       have r2':((cnt Let.isC ls/2:Nat):Int)<l.id:=of_decide_eq_true r2;have r2n: ¬ l.id≤((cnt Let.isC ls/2:Nat):Int):=by omega
       have hno:=cross_no hlt (show xOk ls (cnt Let.isC ls/2) k=false by simp only[xOk,hkl,hc',r2n];simp);simp only[go_sem,i90_l1,h3,h25,h26,h27,hi,Let.ps,hlt',hp,r1',r2',tdiv2,two_ne,wq,o2];unfold xrPost;refine⟨by rw[hno],?_,fun h=>by rw[hno] at h;cases h⟩;repeat(first|exact hkp|refine Kept.upd ?_ (by first|exact Or.inl rfl|exact Or.inr rfl) _)
      |false=>
       have r2': ¬ ((cnt Let.isC ls/2:Nat):Int)<l.id:=of_decide_eq_false r2;have r2y:l.id≤((cnt Let.isC ls/2:Nat):Int):=by omega
       have hf:=find_map ls k l.id;have hx0:xOk ls (cnt Let.isC ls/2) k=((visJ ls k l.id l.over).isNone&&(match visJ ls k l.id (!l.over) with|some j=>signAt ls j==l.sign|none=>true)):=by
        simp only[xOk,hkl,hc',r1y,r2y,decide_true];rfl
       by_cases hm:l.id∈idsK ls k
       ·rw[if_pos hm] at hf;obtain⟨e0,hse⟩:=at_lt (show(idsK ls k).idxOf l.id<(mapK ls k).length by simp[mapK];exact List.idxOf_lt_length_of_mem hm);have hmo:=map_old hkl hc' hm;have hent:entV ls k l.id=[.int .i64 (visV (visJ ls k l.id false)), .int .i64 (visV (visJ ls k l.id true))]:=rfl;rw[hent] at hf;cases ho:l.over with
        |true=>
         cases hv:visJ ls k l.id true with
         |some j=>
          have hno:=cross_no hlt (show xOk ls (cnt Let.isC ls/2) k=false by rw[hx0,ho,hv];rfl);rw[hv] at hf;simp only[visV] at hf;simp only[go_sem,i90_l1,h0,h3,h25,h26,h27,bD,bM,hi,Let.ps,hlt',hp,r1',r2',tdiv2,two_ne,wq,hf,ho,ge0,mapOf,mapVal,keyKd,Int.reduceNeg,okD,o1,o2,o3];refine⟨okd,okd,?_⟩;unfold xrPost;refine⟨by rw[hno],?_,fun h=>by rw[hno] at h;cases h⟩;repeat(first|exact hkp|refine Kept.upd ?_ (by first|exact Or.inl rfl|exact Or.inr rfl) _)
         |none=>
          obtain⟨j,m,hj,hjm,hjk⟩:=vis_met hk hm true hv;have hj:visJ ls k l.id false=some j:=hj;have hjp:=ps_of hjm;have hsj:signAt ls j=m.sign:=by simp[signAt,hjm]
          rw[hv,hj] at hf;simp only[visV] at hf;cases hs:(m.sign==l.sign) with
          |false=>
           have hs2:(m.sign !=l.sign)=true:=by simp[bne,hs]
           have hno:=cross_no hlt (show xOk ls (cnt Let.isC ls/2) k=false by rw[hx0,ho,hv];simp only[Bool.not_true,hj,hsj,hs];rfl);simp only[go_sem,i90_l1,h0,h3,h25,h26,h27,bD,bM,hi,Let.ps,hlt',hp,r1',r2',tdiv2,two_ne,wq,hf,ho,neg1,hjp,hs2,wr0,mapOf,mapVal,keyKd,Int.reduceNeg,Int.reduceSub,okD,o1,o2,o3];refine⟨okd,okd,?_⟩;unfold xrPost;refine⟨by rw[hno],?_,fun h=>by rw[hno] at h;cases h⟩;repeat(first|exact hkp|refine Kept.upd ?_ (by first|exact Or.inl rfl|exact Or.inr rfl) _)
          |true=>
           have hs2:(m.sign !=l.sign)=false:=by simp[bne,hs]
           have hrk:xOk ls (cnt Let.isC ls/2) k=true:=by rw[hx0,ho,hv];simp only[Bool.not_true,hj,hsj,hs];rfl
           have hvs:=vis_same hkl hc' (show visJ ls k l.id l.over=none by rw[ho];exact hv);have hve:=vis_else hkl hc';rw[ho] at hvs hve;rw[show visJ ls k l.id (!true)=some j from hj] at hve;have hent2:entV ls (k+1) l.id=[.int .i64 (j:Int), .int .i64 (k:Int)]:=by
            simp only[entV];rw[hvs,show visJ ls (k+1) l.id false=some j from hve];rfl
           rw[hent2] at hmo;simp only[go_sem,i90_l1,h0,h3,h25,h26,h27,bD,bM,hi,Let.ps,hlt',hp,w1,r1',r2',tdiv2,two_ne,wq,hf,ho,neg1,hjp,hs2,wr0,mapOf,mapVal,keyKd,cellsAg,Int.reduceNeg,Int.reduceSub,okD,o1,o2,o3];refine⟨okd,okd,okd,?_⟩;refine⟨hlt,?_,?_,?_⟩
           ·rw[hmo]
           ·intro i hi;rcases Nat.lt_succ_iff_lt_or_eq.1 hi with h|rfl
            ·exact hok i h
            ·exact hrk
           ·repeat(first|exact hkp|refine Kept.upd ?_ (by first|exact Or.inl rfl|exact Or.inr rfl) _)
        |false=>
         cases hv:visJ ls k l.id false with
         |some j=>
          have hno:=cross_no hlt (show xOk ls (cnt Let.isC ls/2) k=false by rw[hx0,ho,hv];rfl);rw[hv] at hf;simp only[visV] at hf;simp only[go_sem,i90_l1,h0,h3,h25,h26,h27,bD,bM,hi,Let.ps,hlt',hp,r1',r2',tdiv2,two_ne,wq,hf,ho,ge0,mapOf,mapVal,keyKd,Int.reduceNeg,okD,o1,o2,o3];refine⟨okd,okd,?_⟩;unfold xrPost;refine⟨by rw[hno],?_,fun h=>by rw[hno] at h;cases h⟩;repeat(first|exact hkp|refine Kept.upd ?_ (by first|exact Or.inl rfl|exact Or.inr rfl) _)
         |none=>
          obtain⟨j,m,hj,hjm,hjk⟩:=vis_met hk hm false hv;have hj:visJ ls k l.id true=some j:=hj;have hjp:=ps_of hjm;have hsj:signAt ls j=m.sign:=by simp[signAt,hjm]
          rw[hv,hj] at hf;simp only[visV] at hf;cases hs:(m.sign==l.sign) with
          |false=>
           have hs2:(m.sign !=l.sign)=true:=by simp[bne,hs]
           have hno:=cross_no hlt (show xOk ls (cnt Let.isC ls/2) k=false by rw[hx0,ho,hv];simp only[Bool.not_false,hj,hsj,hs];rfl);simp only[go_sem,i90_l1,h0,h3,h25,h26,h27,bD,bM,hi,Let.ps,hlt',hp,r1',r2',tdiv2,two_ne,wq,hf,ho,neg1,hjp,hs2,wr1,mapOf,mapVal,keyKd,Int.reduceNeg,Int.reduceSub,okD,o1,o2,o3];refine⟨okd,okd,?_⟩;unfold xrPost;refine⟨by rw[hno],?_,fun h=>by rw[hno] at h;cases h⟩;repeat(first|exact hkp|refine Kept.upd ?_ (by first|exact Or.inl rfl|exact Or.inr rfl) _)
          |true=>
           have hs2:(m.sign !=l.sign)=false:=by simp[bne,hs]
           have hrk:xOk ls (cnt Let.isC ls/2) k=true:=by rw[hx0,ho,hv];simp only[Bool.not_false,hj,hsj,hs];rfl
           have hvs:=vis_same hkl hc' (show visJ ls k l.id l.over=none by rw[ho];exact hv);have hve:=vis_else hkl hc';rw[ho] at hvs hve;rw[show visJ ls k l.id (!false)=some j from hj] at hve;have hent2:entV ls (k+1) l.id=[.int .i64 (k:Int), .int .i64 (j:Int)]:=by
            simp only[entV];rw[hvs,show visJ ls (k+1) l.id true=some j from hve];rfl
           rw[hent2] at hmo;simp only[go_sem,i90_l1,h0,h3,h25,h26,h27,bD,bM,hi,Let.ps,hlt',hp,w1,r1',r2',tdiv2,two_ne,wq,hf,ho,neg1,hjp,hs2,wr1,mapOf,mapVal,keyKd,cellsAg,Int.reduceNeg,Int.reduceSub,okD,o1,o2,o3];refine⟨okd,okd,okd,?_⟩;refine⟨hlt,?_,?_,?_⟩
           ·rw[hmo]
           ·intro i hi;rcases Nat.lt_succ_iff_lt_or_eq.1 hi with h|rfl
            ·exact hok i h
            ·exact hrk
           ·repeat(first|exact hkp|refine Kept.upd ?_ (by first|exact Or.inl rfl|exact Or.inr rfl) _)
       ·rw[if_neg hm] at hf;have hv:=vis_not hk hm;have hmn:=map_new hkl hc' hm;have hrk:xOk ls (cnt Let.isC ls/2) k=true:=by rw[hx0,hv,hv];rfl
        have hvs:=vis_same hkl hc' (hv _);have hve:=vis_else hkl hc';rw[hv] at hve;cases ho:l.over with
        |true=>
         rw[ho] at hvs hve;have hent:entV ls (k+1) l.id=[.int .i64 (-1), .int .i64 (k:Int)]:=by
          simp only[entV];rw[hvs,show visJ ls (k+1) l.id false=none from hve];rfl
         rw[hent] at hmn;simp only[go_sem,i90_l1,h0,h3,h25,h26,h27,bD,bM,hi,Let.ps,hlt',hp,w1,r1',r2',tdiv2,two_ne,wq,hf,ho,neg1,mapOf,mapVal,keyKd,cellsAg,Option.map_none,Int.reduceNeg,okD,o1,o2,o3];refine⟨okd,okd,okd,?_⟩;refine⟨hlt,?_,?_,?_⟩
         ·rw[hmn]
         ·intro i hi;rcases Nat.lt_succ_iff_lt_or_eq.1 hi with h|rfl
          ·exact hok i h
          ·exact hrk
         ·repeat(first|exact hkp|refine Kept.upd ?_ (by first|exact Or.inl rfl|exact Or.inr rfl) _)
        |false=>
         rw[ho] at hvs hve;have hent:entV ls (k+1) l.id=[.int .i64 (k:Int), .int .i64 (-1)]:=by
          simp only[entV];rw[hvs,show visJ ls (k+1) l.id true=none from hve];rfl
         rw[hent] at hmn;simp only[go_sem,i90_l1,h0,h3,h25,h26,h27,bD,bM,hi,Let.ps,hlt',hp,w1,r1',r2',tdiv2,two_ne,wq,hf,ho,neg1,mapOf,mapVal,keyKd,cellsAg,Option.map_none,Int.reduceNeg,okD,o1,o2,o3];refine⟨okd,okd,okd,?_⟩;refine⟨hlt,?_,?_,?_⟩
         ·rw[hmn]
         ·intro i hi;rcases Nat.lt_succ_iff_lt_or_eq.1 hi with h|rfl
          ·exact hok i h
          ·exact hrk
         ·repeat(first|exact hkp|refine Kept.upd ?_ (by first|exact Or.inl rfl|exact Or.inr rfl) _)
   ·have:k=ls.length:=by omega
    subst this;have hr:=cross_yes he0 hok;have hml:(mapK ls ls.length).length=(idsK ls ls.length).length:=by simp[mapK]
    have hb:((((idsK ls ls.length).length:Nat):Int)==((cnt Let.isC ls/2:Nat):Int))=((idsK ls ls.length).length==cnt Let.isC ls/2):=by
     cases h:((idsK ls ls.length).length==cnt Let.isC ls/2) with
     |true=>simp at h ⊢;omega
     |false=>simp at h ⊢;omega
    simp only[go_sem,i90_l1,i90_r2,h0,h3,h26,h27,bD,bM,no_more,lenM,Int.reduceNeg,hml,tdiv2,two_ne,wq,hb,okD,o1];exact⟨by rw[hr],hkp,fun _=>⟨_,bD,bM⟩⟩
theorem cnt_one{p:Let→Bool}{i:Nat}{l:Let}(h:ls[i]? =some l)(hp:p l=true):cnt p ls=1↔ ∀ j m,ls[j]? =some m→p m=true→j=i:=by
 obtain⟨hi,e⟩:=List.getElem?_eq_some_iff.1 h;have hs:ls=ls.take i++l::ls.drop (i+1):=by rw[← e,List.getElem_cons_drop];simp
 have hc:cnt p ls=cnt p (ls.take i)+(cnt p (ls.drop (i+1))+1):=by
  conv=>lhs;rw[hs]
  simp[cnt,List.countP_append,hp]
 constructor
 ·intro h1 j m hj hm;have z1:cnt p (ls.take i)=0:=by omega
  have z2:cnt p (ls.drop (i+1))=0:=by omega
  have z1:=List.countP_eq_zero.1 z1;have z2:=List.countP_eq_zero.1 z2;rcases Nat.lt_trichotomy j i with hji|hji|hji
  ·have:m∈ls.take i:=List.mem_of_getElem? (i:=j) (by rw[List.getElem?_take,if_pos hji,hj]);exact absurd hm (z1 m this)
  ·exact hji
  ·have:m∈ls.drop (i+1):=List.mem_of_getElem? (i:=j - (i+1)) (by rw[List.getElem?_drop,show i+1+(j - (i+1))=j by omega,hj]);exact absurd hm (z2 m this)
 ·intro hu;have z1:cnt p (ls.take i)=0:=by
   refine List.countP_eq_zero.2 fun m hm hpm=> ?_
   obtain⟨j,hj⟩:=List.getElem?_of_mem hm;have hji:j<i:=by
    have:=(List.getElem?_eq_some_iff.1 hj).1;rw[List.length_take] at this;omega
   rw[List.getElem?_take,if_pos hji] at hj;have:=hu j m hj hpm;omega
  have z2:cnt p (ls.drop (i+1))=0:=by
   refine List.countP_eq_zero.2 fun m hm hpm=> ?_
   obtain⟨j,hj⟩:=List.getElem?_of_mem hm;rw[List.getElem?_drop] at hj;have:=hu _ m hj hpm;omega
  omega
theorem cnt_le_one{p:Let→Bool}(h: ∀ (i j:Nat) (l m:Let),ls[i]? =some l→ls[j]? =some m→p l=true→p m=true→i=j):cnt p ls≤1:=by
 by_cases hz:cnt p ls=0
 ·omega
 ·have:0<ls.countP p:=Nat.pos_of_ne_zero hz;obtain⟨l,hl,hp⟩:=List.countP_pos_iff.1 this;obtain⟨i,hi⟩:=List.getElem?_of_mem hl;have:=(cnt_one hi hp).2 fun j m hj hm=>h j i m l hj hi hm hp
  omega
structure goodP (F:Nat) (ls:List Let) (l:Let):Prop where
 g0:0≤l.gate
 g1:l.gate≤(F:Int)
 r0:1≤l.rank
 r1:l.rank≤(cg ls l.gate.toNat:Int)
theorem pl_eq{l m:Let}(hl:goodP F ls l)(hm:goodP F ls m):plOf ls l=plOf ls m↔l.gate=m.gate∧l.rank=m.rank:=by
 obtain⟨l1,l2,l3,l4⟩:=hl;obtain⟨m1,m2,m3,m4⟩:=hm;unfold plOf;constructor
 ·intro h;have sl:=firstG_succ ls l.gate.toNat;have sm:=firstG_succ ls m.gate.toNat;rcases Nat.lt_trichotomy l.gate.toNat m.gate.toNat with c|c|c
  ·have:=firstG_mono (ls:=ls) (show l.gate.toNat+1≤m.gate.toNat by omega);omega
  ·rw[c] at h;omega
  ·have:=firstG_mono (ls:=ls) (show m.gate.toNat+1≤l.gate.toNat by omega);omega
 ·rintro ⟨h1,h2⟩;rw[h1,h2]
theorem pl_lt{l m:Let}(hl:goodP F ls l)(hm:goodP F ls m):leftB l m=true↔plOf ls l<plOf ls m:=by
 obtain⟨l1,l2,l3,l4⟩:=hl;obtain⟨m1,m2,m3,m4⟩:=hm;unfold plOf leftB;simp only[Bool.or_eq_true,Bool.and_eq_true,decide_eq_true_eq,beq_iff_eq];have sl:=firstG_succ ls l.gate.toNat;have sm:=firstG_succ ls m.gate.toNat;rcases Nat.lt_trichotomy l.gate.toNat m.gate.toNat with c|c|c
 ·have:=firstG_mono (ls:=ls) (show l.gate.toNat+1≤m.gate.toNat by omega);omega
 ·rw[c];omega
 ·have:=firstG_mono (ls:=ls) (show m.gate.toNat+1≤l.gate.toNat by omega);omega
theorem pl_T{l:Let}(hl:goodP F ls l):plOf ls l<firstG ls (F+1):=by
 obtain⟨l1,l2,l3,l4⟩:=hl;unfold plOf;have sl:=firstG_succ ls l.gate.toNat;have:=firstG_mono (ls:=ls) (show l.gate.toNat+1≤F+1 by omega);omega
theorem rk_iff{i:Nat}{l:Let}(h:ls[i]? =some l)(hp:l.isP=true):rkOk ls i=true↔1≤l.rank∧l.rank≤(cg ls l.gate.toNat:Int)∧ ∀ j m,j<i→ls[j]? =some m→m.isP=true→plOf ls m≠plOf ls l:=by
 simp only[rkOk,h,hp,Bool.not_true,Bool.false_or,Bool.and_eq_true,decide_eq_true_eq,Bool.not_eq_true',List.any_eq_false,List.mem_range];constructor
 ·rintro ⟨⟨h1,h2⟩,h3⟩
  refine⟨h1,h2,fun j m hj hm hpm e=> ?_⟩;have:=h3 j hj;rw[hereP_eq hm hpm] at this;simp[e] at this
 ·rintro ⟨h1,h2,h3⟩
  refine⟨⟨h1,h2⟩,fun j hj=> ?_⟩;unfold hereP;split
  ·rename_i m hm;cases hpm:m.isP with
   |false=>simp
   |true=>simpa using h3 j m hj hm hpm
  ·simp
theorem ranks_iff(hg:gates F ls):ranksR ls=true↔(∀ l∈ls,l.isP=true→goodP F ls l)∧ ∀ (i j:Nat) (l m:Let),ls[i]? =some l→ls[j]? =some m→l.isP=true→m.isP=true→plOf ls l=plOf ls m→i=j:=by
 unfold ranksR;rw[List.all_eq_true];constructor
 ·intro h;refine⟨fun l hl hp=> ?_,fun i j l m hi hj hpl hpm e=> ?_⟩
  ·obtain⟨i,hi⟩:=List.getElem?_of_mem hl;have:=(rk_iff hi hp).1 (h i (List.mem_range.2 (List.getElem?_eq_some_iff.1 hi).1));exact⟨(hg l hl hp).1,(hg l hl hp).2,this.1,this.2.1⟩
  ·have ci:=(rk_iff hi hpl).1 (h i (List.mem_range.2 (List.getElem?_eq_some_iff.1 hi).1));have cj:=(rk_iff hj hpm).1 (h j (List.mem_range.2 (List.getElem?_eq_some_iff.1 hj).1));rcases Nat.lt_trichotomy i j with c|c|c
   ·exact absurd e (cj.2.2 i l c hi hpl)
   ·exact c
   ·exact absurd e.symm (ci.2.2 j m c hj hpm)
 ·rintro ⟨h1,h2⟩ i hi
  obtain⟨l,hl⟩:=at_lt (List.mem_range.1 hi);cases hp:l.isP with
  |false=>simp[rkOk,hl,hp]
  |true=>
   have hg:=h1 l (List.mem_of_getElem? hl) hp;refine(rk_iff hl hp).2 ⟨hg.r0,hg.r1,fun j m hj hm hpm e=> ?_⟩;have:=h2 j i m l hm hl hpm hp e;omega
theorem inG_atG(g:Int)(h:0≤g)(l:Let):inG g l=atG g.toNat l:=by
 unfold inG atG;rw[Int.toNat_of_nonneg h]
theorem not_badP{f:Int}{l:Let}(hp:l.isP=true):badL f l=false↔(((0≤l.gate∧l.gate≤f)∧l.id=0)∧l.sign=0)∧l.over=false:=by
 unfold Let.isP at hp;simp only[badL,hp,if_true,Bool.or_eq_false_iff,decide_eq_false_iff_not,bne_eq_false_iff_eq,Int.not_lt]
theorem okP_iff{f:Int}{l:Let}(hp:l.isP=true):okP f ls l=true↔badL f l=false∧1≤l.rank∧l.rank≤(cnt (inG l.gate) ls:Int)∧cnt (sameB l) ls=1:=by
 rw[not_badP hp];unfold okP;simp only[Bool.not_eq_true',Bool.or_eq_false_iff,decide_eq_false_iff_not,bne_eq_false_iff_eq];constructor
 ·rintro ⟨⟨⟨⟨⟨⟨⟨a,b⟩,c⟩,d⟩,e⟩,g⟩,h⟩,i⟩
  exact⟨⟨⟨⟨⟨by omega,by omega⟩,a⟩,b⟩,c⟩,by omega,by omega,by omega⟩
 ·rintro ⟨⟨⟨⟨⟨d,e⟩,a⟩,b⟩,c⟩,g,h,i⟩
  exact⟨⟨⟨⟨⟨⟨⟨a,b⟩,c⟩,by omega⟩,by omega⟩,by omega⟩,by omega⟩,by omega⟩
theorem same_iff{l m:Let}(hp:l.isP=true):sameB l m=true↔m.isP=true∧m.gate=l.gate∧m.rank=l.rank:=by
 unfold Let.isP at hp ⊢;simp only[beq_iff_eq] at hp;unfold sameB;simp only[Bool.and_eq_true,beq_iff_eq,hp,and_assoc]
theorem passes_law:(∀ l∈ls,l.isP=true→okP F ls l=true)↔(∀ l∈ls,l.isP=true→badL F l=false)∧ranksR ls=true:=by
 constructor
 ·intro h;have hb: ∀ l∈ls,l.isP=true→badL F l=false:=fun l hl hp=>((okP_iff hp).1 (h l hl hp)).1
  have hg:gates F ls:=fun l hl hp=>((not_badP hp).1 (hb l hl hp)).1.1.1
  refine⟨hb,(ranks_iff hg).2 ⟨fun l hl hp=> ?_,fun i j l m hi hj hpl hpm e=> ?_⟩⟩
  ·obtain⟨_,h2,h3,_⟩:=(okP_iff hp).1 (h l hl hp);have:=hg l hl hp;refine⟨this.1,this.2,h2,?_⟩;have e:cnt (inG l.gate) ls=cg ls l.gate.toNat:=by unfold cg cnt;congr 1;funext m;exact inG_atG _ this.1 m
   omega
  ·have gl:goodP F ls l:=by
    obtain⟨_,h2,h3,_⟩:=(okP_iff hpl).1 (h l (List.mem_of_getElem? hi) hpl);have:=hg l (List.mem_of_getElem? hi) hpl;have e:cnt (inG l.gate) ls=cg ls l.gate.toNat:=by unfold cg cnt;congr 1;funext m;exact inG_atG _ this.1 m
    exact⟨this.1,this.2,h2,by omega⟩
   have gm:goodP F ls m:=by
    obtain⟨_,h2,h3,_⟩:=(okP_iff hpm).1 (h m (List.mem_of_getElem? hj) hpm);have:=hg m (List.mem_of_getElem? hj) hpm;have e:cnt (inG m.gate) ls=cg ls m.gate.toNat:=by unfold cg cnt;congr 1;funext m;exact inG_atG _ this.1 m
    exact⟨this.1,this.2,h2,by omega⟩
   have e2:=(pl_eq gl gm).1 e;have hs:=((okP_iff hpm).1 (h m (List.mem_of_getElem? hj) hpm)).2.2.2;exact(cnt_one hj ((same_iff hpm).2 ⟨hpm,rfl,rfl⟩)).1 hs i l hi ((same_iff hpm).2 ⟨hpl,e2.1,e2.2⟩)
 ·rintro ⟨hb,hr⟩ l hl hp
  have hg:gates F ls:=fun l hl hp=>((not_badP hp).1 (hb l hl hp)).1.1.1
  obtain⟨h1,h2⟩:=(ranks_iff hg).1 hr;have gl:=h1 l hl hp;have e:cnt (inG l.gate) ls=cg ls l.gate.toNat:=by unfold cg cnt;congr 1;funext m;exact inG_atG _ gl.g0 m
  obtain⟨i,hi⟩:=List.getElem?_of_mem hl;refine(okP_iff hp).2 ⟨hb l hl hp,gl.r0,by rw[e];exact gl.r1,(cnt_one hi ((same_iff hp).2 ⟨hp,rfl,rfl⟩)).2 fun j m hj hs=> ?_⟩;obtain⟨hpm,eg,er⟩:=(same_iff hp).1 hs;exact h2 j i m l hj hi hpm hp ((pl_eq (h1 m (List.mem_of_getElem? hj) hpm) gl).2 ⟨eg,er⟩)
def hitO(id:Int)(o:Bool)(l:Let):Bool:=l.isC&&(l.id==id&&l.over==o)
theorem hit_hitO{j:Nat}{m:Let}(h:ls[j]? =some m)(id:Int)(o:Bool):hit ls id o j=hitO id o m:=by simp[hit,hitO,h]
theorem hitO_iff{id:Int}{o:Bool}{l:Let}:hitO id o l=true↔l.isC=true∧l.id=id∧l.over=o:=by
 unfold hitO;simp only[Bool.and_eq_true,beq_iff_eq]
def pairsOK(ls:List Let):Prop:= ∀ (i j:Nat) (l m:Let),ls[i]? =some l→ls[j]? =some m→l.isC=true→m.isC=true→l.id=m.id→i≠j→l.over≠m.over∧l.sign=m.sign
def idsOK(ls:List Let):Prop:= ∀ l∈ls,l.isC=true→1≤l.id∧l.id≤((cnt Let.isC ls/2:Nat):Int)
theorem xOk_iff{n2 k:Nat}{l:Let}(h:ls[k]? =some l)(hc:l.isC=true):xOk ls n2 k=true↔(1≤l.id∧l.id≤(n2:Int))∧visJ ls k l.id l.over=none∧ ∀ j,visJ ls k l.id (!l.over)=some j→signAt ls j=l.sign:=by
 simp only[xOk,h,hc,Bool.not_true,Bool.false_or,Bool.and_eq_true,decide_eq_true_eq,Option.isNone_iff_eq_none];constructor
 ·rintro ⟨h1,h2,h3⟩
  refine⟨h1,h2,fun j hj=> ?_⟩;rw[hj] at h3
  simpa using h3
 ·rintro ⟨h1,h2,h3⟩
  refine⟨h1,h2,?_⟩;split
  ·rename_i j hj
   simpa using h3 j hj
  ·rfl
theorem x_all:(∀ k,k<ls.length→xOk ls (cnt Let.isC ls/2) k=true)↔idsOK ls∧pairsOK ls:=by
 constructor
 ·intro h;have hx: ∀ {k:Nat} {l:Let},ls[k]? =some l→l.isC=true→_:=fun {k l} hk hc=>(xOk_iff (n2:=cnt Let.isC ls/2) hk hc).1 (h k (List.getElem?_eq_some_iff.1 hk).1)
  refine⟨fun l hl hc=> ?_,?_⟩
  ·obtain⟨i,hi⟩:=List.getElem?_of_mem hl;exact(hx hi hc).1
  ·have key: ∀ (i j:Nat) (l m:Let),ls[i]? =some l→ls[j]? =some m→l.isC=true→m.isC=true→l.id=m.id→i<j→l.over≠m.over∧l.sign=m.sign:=by
    intro i j l m hi hj hcl hcm he hij;obtain⟨_,hn,hs⟩:=hx hj hcm;have ho:l.over≠m.over:=by
     intro e;have:=visJ_none hn hij;rw[hit_hitO hi,hitO_iff.2 ⟨hcl,he,e⟩] at this;cases this
    refine⟨ho,?_⟩;have ho':l.over= !m.over:=by revert ho;cases l.over<;>cases m.over<;>simp
    cases hv:visJ ls j m.id (!m.over) with
    |none=>
     have:=visJ_none hv hij;rw[hit_hitO hi,hitO_iff.2 ⟨hcl,he,ho'⟩] at this;cases this
    |some p=>
     have h3:=hs p hv;obtain⟨hp1,hp2⟩:=visJ_some hv;obtain⟨x,hpx,hxc,hxi,hxo⟩:=hit_some hp2;have:p=i:=by
      rcases Nat.lt_trichotomy p i with c|c|c
      ·have hn2:=(hx hi hcl).2.1;have:=visJ_none hn2 c;rw[hit_hitO hpx,hitO_iff.2 ⟨hxc,by rw[hxi,he],by rw[hxo,ho']⟩] at this;cases this
      ·exact c
      ·have h4:(List.range j).find? (hit ls m.id (!m.over))=some p:=hv;rw[List.find?_range_eq_some] at h4;have:=h4.2.2 i c;rw[hit_hitO hi,hitO_iff.2 ⟨hcl,he,ho'⟩] at this;cases this
     subst this;rw[hi] at hpx;cases hpx
     simpa [signAt,hi] using h3
   intro i j l m hi hj hcl hcm he hij;rcases Nat.lt_or_gt_of_ne hij with c|c
   ·exact key i j l m hi hj hcl hcm he c
   ·have:=key j i m l hj hi hcm hcl he.symm c;exact⟨fun e=>this.1 e.symm,this.2.symm⟩
 ·rintro ⟨h1,h2⟩ k hk
  obtain⟨l,hl⟩:=at_lt hk;cases hc:l.isC with
  |false=>simp[xOk,hl,hc]
  |true=>
   refine(xOk_iff hl hc).2 ⟨h1 l (List.mem_of_getElem? hl) hc,?_,fun j hj=> ?_⟩
   ·cases hv:visJ ls k l.id l.over with
    |none=>rfl
    |some p=>
     obtain⟨hp1,hp2⟩:=visJ_some hv;obtain⟨x,hpx,hxc,hxi,hxo⟩:=hit_some hp2;exact absurd hxo (h2 p k x l hpx hl hxc hc hxi (by omega)).1
   ·obtain⟨hp1,hp2⟩:=visJ_some hj;obtain⟨x,hpx,hxc,hxi,hxo⟩:=hit_some hp2;have:=(h2 j k x l hpx hl hxc hc hxi (by omega)).2;simp[signAt,hpx,this]
theorem sum_ids(ls:List Let): ∀ ids:List Int,ids.Nodup→(ids.map fun id=>cnt (isId id) ls).sum=cnt (fun l=>l.isC&&ids.contains l.id) ls:=by
 intro ids
 induction ids with
 |nil=>intro _;simp[cnt]
 |cons a ids ih=>
  intro hn;rw[List.nodup_cons] at hn;rw[List.map_cons,List.sum_cons,ih hn.2];refine(countP_or (p:=isId a) (q:=fun l=>l.isC&&ids.contains l.id) (r:=fun l=>l.isC&&(a::ids).contains l.id) ?_ ?_ ls).symm
  ·intro l;simp only[isId,Bool.and_eq_true,beq_iff_eq,List.contains_eq_mem,decide_eq_true_eq,List.mem_cons];constructor
   ·rintro ⟨h1,h2|h2⟩
    ·exact .inl ⟨h1,h2⟩
    ·exact .inr ⟨h1,h2⟩
   ·rintro (⟨h1,h2⟩|⟨h1,h2⟩)
    ·exact⟨h1, .inl h2⟩
    ·exact⟨h1, .inr h2⟩
  ·intro l;simp only[isId,Bool.and_eq_true,beq_iff_eq,List.contains_eq_mem,decide_eq_true_eq];rintro ⟨_,h1⟩ ⟨_,h2⟩
   exact hn.1 (h1▸h2)
theorem ids_cover{l:Let}(hl:l∈ls)(hc:l.isC=true):l.id∈idsK ls ls.length:=by
 obtain⟨i,hi⟩:=List.getElem?_of_mem hl;refine(ids_mem (Nat.le_refl _)).2 ⟨i,l.over,(List.getElem?_eq_some_iff.1 hi).1,?_⟩;rw[hit_hitO hi];exact hitO_iff.2 ⟨hc,rfl,rfl⟩
theorem sum_all(ls:List Let):((idsK ls ls.length).map fun id=>cnt (isId id) ls).sum=cnt Let.isC ls:=by
 rw[sum_ids _ _ (ids_nodup ls _)];apply List.countP_congr;intro l hl;cases hc:l.isC with
 |false=>simp
 |true=>simp[ids_cover hl hc]
theorem isId_split(id:Int)(ls:List Let):cnt (isId id) ls=cnt (hitO id true) ls+cnt (hitO id false) ls:=by
 refine countP_or ?_ ?_ ls
 ·intro l;rw[hitO_iff,hitO_iff];simp only[isId,Bool.and_eq_true,beq_iff_eq];cases l.over<;>simp
 ·intro l;rw[hitO_iff,hitO_iff];rintro ⟨_,_,h1⟩ ⟨_,_,h2⟩
  rw[h1] at h2;cases h2
theorem isId_split'(id:Int)(o:Bool)(ls:List Let):cnt (isId id) ls=cnt (hitO id o) ls+cnt (hitO id (!o)) ls:=by
 rw[isId_split];cases o with
 |true=>rfl
 |false=>simp only[Bool.not_false];omega
theorem hitO_le(h:pairsOK ls)(id:Int)(o:Bool):cnt (hitO id o) ls≤1:=by
 refine cnt_le_one fun i j l m hi hj hl hm=> ?_
 obtain⟨l1,l2,l3⟩:=hitO_iff.1 hl;obtain⟨m1,m2,m3⟩:=hitO_iff.1 hm;refine Decidable.byContradiction fun hne=> ?_
 exact(h i j l m hi hj l1 m1 (by rw[l2,m2]) hne).1 (by rw[l3,m3])
theorem sum_le{f:Int→Nat}: ∀ ids:List Int,(∀ x∈ids,f x≤2)→(ids.map f).sum≤2*ids.length:=by
 intro ids
 induction ids with
 |nil=>intro _;simp
 |cons a ids ih=>
  intro h;have:=ih fun x hx=>h x (List.mem_cons_of_mem _ hx)
  have:=h a List.mem_cons_self;simp only[List.map_cons,List.sum_cons,List.length_cons];omega
theorem all_two{f:Int→Nat}: ∀ ids:List Int,(∀ x∈ids,f x≤2)→(ids.map f).sum=2*ids.length→ ∀ x∈ids,f x=2:=by
 intro ids
 induction ids with
 |nil=>intro _ _ x hx;cases hx
 |cons a ids ih=>
  intro h hs;have h1:=sum_le ids fun x hx=>h x (List.mem_cons_of_mem _ hx)
  have h2:=h a List.mem_cons_self;simp only[List.map_cons,List.sum_cons,List.length_cons] at hs;intro x hx;rcases List.mem_cons.1 hx with rfl|hx
  ·omega
  ·exact ih (fun x hx=>h x (List.mem_cons_of_mem _ hx)) (by omega) x hx
theorem sum_two{f:Int→Nat}: ∀ ids:List Int,(∀ x∈ids,f x=2)→(ids.map f).sum=2*ids.length:=by
 intro ids
 induction ids with
 |nil=>intro _;simp
 |cons a ids ih=>
  intro h;have:=ih fun x hx=>h x (List.mem_cons_of_mem _ hx)
  have:=h a List.mem_cons_self;simp only[List.map_cons,List.sum_cons,List.length_cons];omega
theorem pair_iff{l m:Let}(hc:l.isC=true):pairB l m=true↔m.isC=true∧m.id=l.id∧m.sign=l.sign∧m.over= !l.over:=by
 unfold Let.isC at hc ⊢;simp only[beq_iff_eq] at hc;unfold pairB;simp only[Bool.and_eq_true,beq_iff_eq,hc,and_assoc,Bool.not_eq_true',beq_eq_false_iff_ne,ne_eq];cases l.over<;>cases m.over<;>simp
theorem not_badC{f:Int}{l:Let}(hc:l.isC=true):badL f l=false↔(l.gate=0∧l.rank=0)∧(l.sign !=1&&l.sign != -1)=false:=by
 unfold Let.isC at hc;have h1:(l.kind==1)=false:=by
  simp only[beq_iff_eq] at hc;rw[hc];rfl
 simp only[badL,hc,h1,if_true];simp
theorem okC_iff{f:Int}{l:Let}(hc:l.isC=true):okC ls l=true↔badL f l=false∧(1≤l.id∧l.id≤((cnt Let.isC ls/2:Nat):Int))∧cnt (pairB l) ls=1∧cnt (isId l.id) ls=2:=by
 rw[not_badC hc];unfold okC;simp only[Bool.not_eq_true',Bool.or_eq_false_iff,decide_eq_false_iff_not,bne_eq_false_iff_eq];constructor
 ·rintro ⟨⟨⟨⟨⟨⟨a,b⟩,c⟩,d⟩,e⟩,g⟩,h⟩
  exact⟨⟨⟨a,b⟩,c⟩,⟨by omega,by omega⟩,by omega,by omega⟩
 ·rintro ⟨⟨⟨a,b⟩,c⟩,⟨d,e⟩,g,h⟩
  exact⟨⟨⟨⟨⟨⟨a,b⟩,c⟩,by omega⟩,by omega⟩,by omega⟩,by omega⟩
theorem cross_law{f:Int}:(∀ l∈ls,l.isC=true→okC ls l=true)↔(∀ l∈ls,l.isC=true→badL f l=false)∧crossR ls=true:=by
 have hsum:=sum_all ls;constructor
 ·intro h;have hall:=fun l hl hc=>(okC_iff (f:=f) hc).1 (h l hl hc)
  have hp:pairsOK ls:=by
   intro i j l m hi hj hcl hcm he hij;obtain⟨_,_,h3,h4⟩:=hall l (List.mem_of_getElem? hi) hcl;have e1:=isId_split' l.id l.over ls;have g1:0<cnt (hitO l.id l.over) ls:=List.countP_pos_iff.2 ⟨l,List.mem_of_getElem? hi,hitO_iff.2 ⟨hcl,rfl,rfl⟩⟩;obtain⟨x,hx,hxp⟩:=List.countP_pos_iff.1 (show 0<ls.countP (pairB l) by show 0<cnt (pairB l) ls;omega);obtain⟨x1,x2,x3,x4⟩:=(pair_iff hcl).1 hxp;have g2:0<cnt (hitO l.id (!l.over)) ls:=List.countP_pos_iff.2 ⟨x,hx,hitO_iff.2 ⟨x1,x2,x4⟩⟩;have u1:cnt (hitO l.id l.over) ls=1:=by omega
   have u2:cnt (hitO l.id (!l.over)) ls=1:=by omega
   have ho:l.over≠m.over:=by
    intro e;have:=(cnt_one hi (hitO_iff.2 ⟨hcl,rfl,rfl⟩)).1 u1 j m hj (hitO_iff.2 ⟨hcm,he.symm,e.symm⟩);exact hij this.symm
   refine⟨ho,?_⟩;have ho':m.over= !l.over:=by revert ho;cases l.over<;>cases m.over<;>simp
   obtain⟨p,hpx⟩:=List.getElem?_of_mem hx;have:=(cnt_one hj (hitO_iff.2 ⟨hcm,he.symm,ho'⟩)).1 u2 p x hpx (hitO_iff.2 ⟨x1,x2,x4⟩);subst this;rw[hpx] at hj;cases hj
   exact x3.symm
  have htwo: ∀ id∈idsK ls ls.length,cnt (isId id) ls=2:=by
   intro id hid;obtain⟨j,o,h1,h2⟩:=(ids_mem (Nat.le_refl _)).1 hid;obtain⟨m,hm,hc,hi,_⟩:=hit_some h2;rw[← hi];exact(hall m (List.mem_of_getElem? hm) hc).2.2.2
  rw[sum_two _ htwo] at hsum;refine⟨fun l hl hc=>(hall l hl hc).1,?_⟩;have hx:=(x_all (ls:=ls)).2 ⟨fun l hl hc=>(hall l hl hc).2.1,hp⟩;rw[cross_yes (by omega) hx];simp only[beq_iff_eq];omega
 ·rintro ⟨hb,hr⟩ l hl hc
  unfold crossR at hr;simp only[Bool.and_eq_true,beq_iff_eq,List.all_eq_true,List.mem_range] at hr;obtain⟨⟨he,hx⟩,hlen⟩:=hr;obtain⟨hid,hp⟩:=x_all.1 hx;have hle: ∀ id∈idsK ls ls.length,cnt (isId id) ls≤2:=fun id _=>by
   rw[isId_split id];have:=hitO_le hp id true;have:=hitO_le hp id false;omega
  have h2:=all_two _ hle (by rw[hsum,hlen];omega) l.id (ids_cover hl hc);have e1:=isId_split' l.id l.over ls;have b1:=hitO_le hp l.id l.over;have b2:=hitO_le hp l.id (!l.over);refine(okC_iff hc).2 ⟨hb l hl hc,hid l hl hc,?_,h2⟩;have u2:cnt (hitO l.id (!l.over)) ls=1:=by omega
  obtain⟨i,hi⟩:=List.getElem?_of_mem hl;obtain⟨x,hx,hxp⟩:=List.countP_pos_iff.1 (show 0<ls.countP (hitO l.id (!l.over)) by show 0<cnt (hitO l.id (!l.over)) ls;omega);obtain⟨p,hpx⟩:=List.getElem?_of_mem hx;obtain⟨x1,x2,x3⟩:=hitO_iff.1 hxp;have hpi:p≠i:=by
   rintro rfl
   rw[hi] at hpx;cases hpx
   revert x3;cases l.over<;>simp
  have hsg:=(hp p i x l hpx hi x1 hc x2 hpi).2;refine(cnt_one hpx ((pair_iff hc).2 ⟨x1,x2,hsg,x3⟩)).2 fun j m hj hm=> ?_
  obtain⟨m1,m2,m3,m4⟩:=(pair_iff hc).1 hm;exact(cnt_one hpx hxp).1 u2 j m hj (hitO_iff.2 ⟨m1,m2,m4⟩)
theorem bad_kind{f:Int}{l:Let}(h:badL f l=false):l.isP=true∨l.isC=true:=by
 unfold Let.isP Let.isC;cases h1:(l.kind==1) with
 |true=>exact .inl rfl
 |false=>
  cases h2:(l.kind==2) with
  |true=>exact .inr rfl
  |false=>simp only[badL,h1,h2] at h;cases h
theorem notBoth{l:Let}(hp:l.isP=true):l.isC=false:=by
 unfold Let.isP at hp;unfold Let.isC;simp only[beq_iff_eq] at hp;rw[hp];rfl
theorem okL_P{f:Int}{l:Let}(hp:l.isP=true):okL f ls l=okP f ls l:=by
 unfold Let.isP at hp;simp only[okL,hp,if_true]
theorem okL_C{f:Int}{l:Let}(hp:l.isC=true):okL f ls l=okC ls l:=by
 unfold Let.isC at hp;have h1:(l.kind==1)=false:=by
  simp only[beq_iff_eq] at hp;rw[hp];rfl
 simp only[okL,hp,h1,if_true];simp
theorem letters_law:lettersR F ls=true↔ls.any (badL F)=false∧ranksR ls=true∧crossR ls=true:=by
 unfold lettersR;rw[List.all_eq_true,List.any_eq_false];have e1:=passes_law (F:=F) (ls:=ls);have e2:=cross_law (f:=(F:Int)) (ls:=ls);constructor
 ·intro h;have hk:=fun {l:Let} (hl:l∈ls)=>letters_kind (f:=F) (ls:=ls) (List.all_eq_true.2 h) (List.getElem?_of_mem hl).choose_spec
  obtain⟨p1,p2⟩:=e1.1 fun l hl hp=>by rw[← okL_P hp];exact h l hl
  obtain⟨c1,c2⟩:=e2.1 fun l hl hc=>by rw[← okL_C (f:=F) hc];exact h l hl
  refine⟨fun l hl=> ?_,p2,c2⟩;rcases hk hl with hp|hc
  ·rw[p1 l hl hp];simp
  ·rw[c1 l hl hc];simp
 ·rintro ⟨hb,hr,hc⟩ l hl
  have hb: ∀ l∈ls,badL F l=false:=fun l hl=>by simpa using hb l hl
  rcases bad_kind (hb l hl) with hp|hc'
  ·rw[okL_P hp];exact e1.2 ⟨fun l hl _=>hb l hl,hr⟩ l hl hp
  ·rw[okL_C hc'];exact e2.2 ⟨fun l hl _=>hb l hl,hc⟩ l hl hc'
theorem sorted_range{o:List Nat}(hs:o.Pairwise (· < ·))(hlt: ∀ x∈o,x<o.length): ∀ (k:Nat) (h:k<o.length),o[k]=k:=by
 rw[List.pairwise_iff_getElem] at hs;have lo: ∀ (k:Nat) (h:k<o.length),k≤o[k]:=by
  intro k
  induction k with
  |zero=>intro _;omega
  |succ k ih=>
   intro h;have:=ih (by omega);have:=hs k (k+1) (by omega) h (by omega);omega
 have hi: ∀ (d k:Nat) (h:k<o.length),k+d+1=o.length→o[k]≤k:=by
  intro d
  induction d with
  |zero=>
   intro k h e;have:=hlt _ (List.getElem_mem h);omega
  |succ d ih=>
   intro k h e;have:=ih (k+1) (by omega) (by omega);have:=hs k (k+1) h (by omega) (by omega);omega
 intro k h;have:=lo k h;have:=hi (o.length - k - 1) k h (by omega);omega
theorem ins_sorted{key:Nat→Nat}{p:Nat→Bool}{i:Nat}: ∀ {o:List Nat},o.Pairwise (fun a b=>key a<key b)→(∀ x∈o,p x=decide (key x<key i))→(∀ x∈o,key x≠key i)→
  (o.take (o.takeWhile p).length++i::o.drop (o.takeWhile p).length).Pairwise (fun a b=>key a<key b):=by
 intro o
 induction o with
 |nil=>intro _ _ _;simp
 |cons a o ih=>
  intro hs hp hn;rw[List.pairwise_cons] at hs;have pa:=hp a List.mem_cons_self;have na:=hn a List.mem_cons_self;by_cases hlt:key a<key i
  ·have pa':p a=true:=by rw[pa];simpa using hlt
   rw[List.takeWhile_cons,if_pos pa'];simp only[List.length_cons,List.take_succ_cons,List.drop_succ_cons,List.cons_append];rw[List.pairwise_cons];refine⟨fun b hb=> ?_,ih hs.2 (fun x hx=>hp x (List.mem_cons_of_mem _ hx)) (fun x hx=>hn x (List.mem_cons_of_mem _ hx))⟩;rcases List.mem_append.1 hb with hb|hb
   ·exact hs.1 b (List.mem_of_mem_take hb)
   ·rcases List.mem_cons.1 hb with rfl|hb
    ·exact hlt
    ·exact hs.1 b (List.mem_of_mem_drop hb)
  ·have pa': ¬ p a=true:=by rw[pa];simpa using hlt
   rw[List.takeWhile_cons,if_neg pa'];simp only[List.length_nil,List.take_zero,List.drop_zero,List.nil_append];rw[List.pairwise_cons,List.pairwise_cons];refine⟨fun b hb=> ?_,hs⟩;rcases List.mem_cons.1 hb with rfl|hb
   ·omega
   ·have:=hs.1 b hb;omega
theorem plI_of{i:Nat}{l:Let}(h:ls[i]? =some l)(hp:l.isP=true):plI ls i=plOf ls l:=by simp[plI,h,hp]
structure axOK (F:Nat) (ls:List Let):Prop where
 good: ∀ l∈ls,l.isP=true→goodP F ls l
 inj: ∀ (i j:Nat) (l m:Let),ls[i]? =some l→ls[j]? =some m→l.isP=true→m.isP=true→plOf ls l=plOf ls m→i=j
theorem axisK_sorted(h:axOK F ls): ∀ k,k≤ls.length→(axisK ls k).Pairwise (fun a b=>plI ls a<plI ls b):=by
 intro k
 induction k with
 |zero=>intro _;simp[axisK]
 |succ k ih=>
  intro hk;have ih:=ih (by omega);rw[axisK_succ];obtain⟨l,hl⟩:=at_lt (show k<ls.length by omega);unfold axStep;rw[hl];simp only;cases hp:l.isP with
  |false=>simpa using ih
  |true=>
   simp only[if_true];unfold insA;have hm:=fun {x:Nat} (hx:x∈axisK ls k)=>(axisK_mem (ls:=ls) (k:=k) (by omega)).1 hx
   refine ins_sorted ih (fun x hx=> ?_) (fun x hx e=> ?_)
   ·obtain⟨h1,m,hm,hmp⟩:=hm hx;rw[plI_of hm hmp,plI_of hl hp];unfold leftAt;rw[hm,hl];simp only;have:=pl_lt (h.good m (List.mem_of_getElem? hm) hmp) (h.good l (List.mem_of_getElem? hl) hp);cases hb:leftB m l with
    |true=>simpa using this.1 hb
    |false=>
     symm;rw[decide_eq_false_iff_not];intro hc;rw[this.2 hc] at hb;cases hb
   ·obtain⟨h1,m,hm,hmp⟩:=hm hx;rw[plI_of hm hmp,plI_of hl hp] at e;have:=h.inj x k m l hm hl hmp hp e;omega
theorem axisK_cnt: ∀ k,k≤ls.length→(axisK ls k).length=cnt Let.isP (ls.take k):=by
 intro k
 induction k with
 |zero=>intro _;simp[axisK,cnt]
 |succ k ih=>
  intro hk;have ih:=ih (by omega);rw[axisK_succ];obtain⟨l,hl⟩:=at_lt (show k<ls.length by omega);unfold axStep;rw[hl];simp only;cases hp:l.isP with
  |false=>rw[cnt_miss hl hp];simpa using ih
  |true=>
   simp only[if_true];rw[insA_len,cnt_hit hl hp,ih]
theorem axisR_len:(axisR ls).length=cnt Let.isP ls:=by
 have:=axisK_cnt (ls:=ls) ls.length (Nat.le_refl _);rwa[List.take_length] at this
theorem T_len(h:gates F ls):firstG ls (F+1)=(axisR ls).length:=by
 rw[axisR_len,firstG_cnt];apply List.countP_congr;intro l hl;cases hp:l.isP with
 |false=>simp
 |true=>
  have:=h l hl hp;simp only[Bool.true_and,Bool.and_eq_true,decide_eq_true_eq,iff_true];omega
theorem axOK.gates(h:axOK F ls):gates F ls:=fun l hl hp=>⟨(h.good l hl hp).g0,(h.good l hl hp).g1⟩
theorem axis_at(h:axOK F ls){k i:Nat}(hk:(axisR ls)[k]? =some i): ∃ l,ls[i]? =some l∧l.isP=true∧plOf ls l=k:=by
 have hs:((axisR ls).map (plI ls)).Pairwise (· < ·):=by
  rw[List.pairwise_map];exact axisK_sorted h ls.length (Nat.le_refl _)
 have hT:=T_len h.gates;have hlt: ∀ x∈(axisR ls).map (plI ls),x<((axisR ls).map (plI ls)).length:=by
  intro x hx;obtain⟨j,hj,rfl⟩:=List.mem_map.1 hx;obtain⟨l,hl,hp⟩:=axisR_mem.1 hj;rw[plI_of hl hp,List.length_map,← hT];exact pl_T (h.good l (List.mem_of_getElem? hl) hp)
 obtain⟨hk1,hk2⟩:=List.getElem?_eq_some_iff.1 hk;have:=sorted_range hs hlt k (by rw[List.length_map];exact hk1);rw[List.getElem_map,hk2] at this;obtain⟨l,hl,hp⟩:=axisR_mem.1 (List.mem_of_getElem? hk);exact⟨l,hl,hp,by rw[← plI_of hl hp];exact this⟩
theorem axis_place(h:axOK F ls){i:Nat}{l:Let}(hl:ls[i]? =some l)(hp:l.isP=true):(axisR ls)[plOf ls l]? =some i:=by
 have hlt:=pl_T (h.good l (List.mem_of_getElem? hl) hp);rw[T_len h.gates] at hlt;obtain⟨j,hj⟩:=at_lt hlt;obtain⟨m,hm,hmp,he⟩:=axis_at h hj;rw[hj,h.inj j i m l hm hl hmp hp he]
theorem axis_idx(h:axOK F ls){i:Nat}{l:Let}(hl:ls[i]? =some l)(hp:l.isP=true):(axisR ls).idxOf i=plOf ls l:=by
 have h1:=axis_place h hl hp;have h2:=idxOf_get (List.mem_of_getElem? h1);obtain⟨m,hm,hmp,he⟩:=axis_at h h2;rw[hl] at hm;cases hm
 exact he.symm
theorem axis_law(h:axOK F ls):axPK ls (firstG ls (F+1)) ls.length=axisR ls:=by
 apply List.ext_getElem
 ·rw[axPK_len,T_len h.gates]
 ·intro k h1 h2;simp only[axPK,List.getElem_map,List.getElem_range];obtain⟨l,hl,hp,he⟩:=axis_at h (List.getElem?_eq_getElem h2);generalize (axisR ls)[k]=i at hl;unfold axP;have hin:=(List.getElem?_eq_some_iff.1 hl).1;have hf:(List.range ls.length).find? (hereP ls k)=some i:=by
   refine find_range hin (fun j hj=> ?_) ?_
   ·cases hh:hereP ls k j with
    |false=>rfl
    |true=>
     unfold hereP at hh;split at hh
     ·rename_i m hm;simp only[Bool.and_eq_true,beq_iff_eq] at hh;have:=h.inj j i m l hm hl hh.1 hp (by rw[hh.2,he]);omega
     ·cases hh
   ·rw[hereP_eq hl hp];simp[he]
  rw[hf];rfl
theorem other_law(hr:crossR ls=true){i:Nat}{l:Let}(hl:ls[i]? =some l)(hc:l.isC=true):visJ ls ls.length l.id (!l.over)=some (otherR ls i)∧otherR ls i<ls.length:=by
 have hsum:=sum_all ls;unfold crossR at hr;simp only[Bool.and_eq_true,beq_iff_eq,List.all_eq_true,List.mem_range] at hr;obtain⟨⟨he,hx⟩,hlen⟩:=hr;obtain⟨hid,hp⟩:=x_all.1 hx;have hle: ∀ id∈idsK ls ls.length,cnt (isId id) ls≤2:=fun id _=>by
  rw[isId_split id];have:=hitO_le hp id true;have:=hitO_le hp id false;omega
 have h2:=all_two _ hle (by rw[hsum,hlen];omega) l.id (ids_cover (List.mem_of_getElem? hl) hc);have e1:=isId_split' l.id l.over ls;have b1:=hitO_le hp l.id l.over;have b2:=hitO_le hp l.id (!l.over);obtain⟨x,hx,hxp⟩:=List.countP_pos_iff.1 (show 0<ls.countP (hitO l.id (!l.over)) by show 0<cnt (hitO l.id (!l.over)) ls;omega);obtain⟨p,hpx⟩:=List.getElem?_of_mem hx;obtain⟨x1,x2,x3⟩:=hitO_iff.1 hxp;have hpn:=(List.getElem?_eq_some_iff.1 hpx).1;have hpi:p≠i:=by
  rintro rfl
  rw[hl] at hpx;cases hpx
  revert x3;cases l.over<;>simp
 have uniq: ∀ (j:Nat) (m:Let),ls[j]? =some m→m.isC=true→m.id=l.id→j≠i→j=p:=by
  intro j m hj mc mi hji;refine Decidable.byContradiction fun hne=> ?_
  have o1:=(hp j i m l hj hl mc hc mi hji).1;have o2:=(hp j p m x hj hpx mc x1 (by rw[mi,x2]) hne).1;rw[x3] at o2;revert o1 o2;cases m.over<;>cases l.over<;>simp
 have hfo:(List.range ls.length).find? (otherP ls i)=some p:=by
  refine find_range hpn (fun j hj=> ?_) ?_
  ·cases hh:otherP ls i j with
   |false=>rfl
   |true=>
    unfold otherP at hh;simp only[Bool.and_eq_true,bne_iff_ne,ne_eq] at hh;obtain⟨h1,h2⟩:=hh;split at h2
    ·rename_i m hm;simp only[Bool.and_eq_true,beq_iff_eq,hl,Option.map_some,Option.getD_some] at h2;have:=uniq j m hm h2.1 h2.2 h1;omega
    ·cases h2
  ·unfold otherP;rw[hpx];simp[hpi,x1,hl,x2]
 have ho:otherR ls i=p:=by
  unfold otherR;rw[hfo];rfl
 rw[ho];refine⟨?_,hpn⟩;unfold visJ;refine find_range hpn (fun j hj=> ?_) ?_
 ·cases hh:hit ls l.id (!l.over) j with
  |false=>rfl
  |true=>
   obtain⟨m,hm,mc,mi,mo⟩:=hit_some hh;have hji:j≠i:=by
    rintro rfl
    rw[hl] at hm;cases hm
    revert mo;cases l.over<;>simp
   have:=uniq j m hm mc mi hji;omega
 ·rw[hit_hitO hpx];exact hxp
end
end Go.Abs
