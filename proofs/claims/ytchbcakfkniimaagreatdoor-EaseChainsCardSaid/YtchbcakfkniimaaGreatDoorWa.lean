/-
  A part of a proof.
-/
import Derived.Test.YtchbcakfkniimaaGreatDoorSa
set_option linter.unusedSimpArgs false
set_option linter.unusedVariables false
set_option linter.unusedSectionVars false
set_option maxRecDepth 100000
set_option maxHeartbeats 16000000
namespace Go.Abs
structure Let where
 kind:Int
 gate:Int
 rank:Int
 id:Int
 sign:Int
 over:Bool
 deriving DecidableEq
def Let.ps(l:Let):List PV:=[.int .i64 l.kind, .int .i64 l.gate, .int .i64 l.rank, .int .i64 l.id, .int .i64 l.sign, .bool l.over]
def Let.isP(l:Let):Bool:=l.kind==1
def Let.isC(l:Let):Bool:=l.kind==2
abbrev lsP(ls:List Let):PV:= .sl (ls.map Let.ps)
abbrev codeV(f:Int)(ls:List Let):V:= .agg [.p (.int .i64 f), .p (lsP ls)]
abbrev vi(k:Int):V:= .one (.p (.int .i64 k))
abbrev vb(b:Bool):V:= .one (.p (.bool b))
abbrev ri(k:Int):RV:= .one (.p (.int .i64 k))
abbrev rb(k:Bool):RV:= .one (.p (.bool k))
abbrev cnt(p:Let→Bool)(ls:List Let):Nat:=ls.countP p
theorem at_lt{α:Type}{ls:List α}{k:Nat}(h:k<ls.length): ∃ l,ls[k]? =some l:=⟨ls[k],by simp[h]⟩
theorem cnt_hit{p:Let→Bool}{ls:List Let}{k:Nat}{l:Let}(h:ls[k]? =some l)(hp:p l=true):cnt p (ls.take (k+1))=cnt p (ls.take k)+1:=by
 unfold cnt;obtain⟨hk,rfl⟩:=List.getElem?_eq_some_iff.1 h;rw[List.take_succ_eq_append_getElem hk,List.countP_append,List.countP_singleton,if_pos hp]
theorem cnt_miss{p:Let→Bool}{ls:List Let}{k:Nat}{l:Let}(h:ls[k]? =some l)(hp:p l=false):cnt p (ls.take (k+1))=cnt p (ls.take k):=by
 unfold cnt;obtain⟨hk,rfl⟩:=List.getElem?_eq_some_iff.1 h;rw[List.take_succ_eq_append_getElem hk,List.countP_append,List.countP_singleton,hp];rfl
theorem cnt_take_le(p:Let→Bool)(ls:List Let)(k:Nat):cnt p (ls.take k)≤k:=Nat.le_trans List.countP_le_length (by rw[List.length_take];exact Nat.min_le_left _ _)
theorem cnt_le(p:Let→Bool)(ls:List Let):cnt p ls≤ls.length:=List.countP_le_length
theorem ps_of{ls:List Let}{k:Nat}{l:Let}(h:ls[k]? =some l):(ls.map Let.ps)[k]? =some l.ps:=by simp[h]
theorem wrap_add{a b:Nat}(h:a+b≤9223372036854775807):IntKind.i64.wrap ((a:Int)+(b:Int))=((a+b:Nat):Int):=wrap_small (n:=a+b) h
theorem wrap_mul2{a:Nat}(h:2*a≤9223372036854775807):IntKind.i64.wrap (2*(a:Int))=((2*a:Nat):Int):=wrap_small (n:=2*a) h
theorem wrap_sub{a b:Nat}(h:b≤a)(h2:a≤9223372036854775807):IntKind.i64.wrap ((a:Int) - (b:Int))=((a - b:Nat):Int):=by
 have:((a:Int) - (b:Int))=((a - b:Nat):Int):=by omega
 rw[this];exact wrap_small (by omega)
theorem wrap_pred{a:Nat}(h:1≤a)(h2:a≤9223372036854775807):IntKind.i64.wrap ((a:Int) - 1)=((a - 1:Nat):Int):=wrap_sub (b:=1) h h2
def snapHfn(x y:Option (List PV × List Nat))(f:Nat):Option (PV × List Nat):=match x,y with
 |some (x,r),some (y,s)=>some (.fn f x y,r++s)
 |_,_=>none
theorem snapHfn_some{x y:List PV}{r s:List Nat}{f:Nat}:snapHfn (some (x,r)) (some (y,s)) f=some (.fn f x y,r++s):=rfl
theorem snap_hfn{blk:Blk}{f:Nat}{a b:List C}:snap blk snapN (.hfn f a b)=snapHfn (collect (snap blk 5) a) (collect (snap blk 5) b) f:=by
 unfold snapN;rw[snap];unfold snapHfn;rfl
theorem snap_href_s{blk:Blk}{n id g off:Nat}:snap blk (n+1) (.href id g off)=snapHref (blk id) (collect (snap blk n)) id g off:=by
 rw[snap];rfl
theorem snap_hsl_s{blk:Blk}{n id g z off len:Nat}:snap blk (n+1) (.hsl id g z off len)=snapHsl (blk id) (collect (collect (snap blk n))) id g off len:=by
 rw[snap];rfl
theorem okd{b:Bool}(h:b=true:=by kernel_rfl):b=true:=h
theorem pev1{f:Nat}{fn:IFn}{args:List V}{r:RV}(hf:S.fns f=some fn)(h:W S .all fn.body (endQ .all fn.results fun v blk=>outV blk v=some r) (ienv args) noBlk)(hp:S.prim f args=none:=by rfl)(hl:args.length≤fn.ntmps:=by exact Nat.le_of_ble_eq_true rfl):PEv S f args r:=PEv_fn hp hf hl h
theorem two_ne: ¬ ((2:Int)=0):=by decide
theorem tmod_nat(a b:Nat):(a:Int).tmod b=((a%b:Nat):Int):=by rw[Int.tmod_eq_emod_of_nonneg (by omega)];rfl
theorem tmod2(a:Nat):(a:Int).tmod 2=((a%2:Nat):Int):=tmod_nat a 2
theorem tdiv2(a:Nat):(a:Int).tdiv 2=((a/2:Nat):Int):=by rw[Int.tdiv_eq_ediv_of_nonneg (by omega)];rfl
theorem no_more{n:Nat}: ¬ ((n:Int)<(n:Int)):=by omega
theorem ps_len(l:Let):l.ps.length=6:=rfl
theorem frzL_nil{blk:Blk}{all:List Nat}:frzL blk all []=some []:=rfl
attribute [go_sem] snap_hfn snapHfn_some snap_href_s snap_hsl_s frzL_nil
def inG(g:Int)(l:Let):Bool:=l.isP&&l.gate==g
def isId(g:Int)(l:Let):Bool:=l.isC&&l.id==g
theorem passes_p(f:Int)(ls:List Let)(hl:ls.length≤1000000):PEv S 64 [codeV f ls] (ri (cnt Let.isP ls)):=by
 refine pev1 c64 ?_;simp only[go_sem,i64];refine R_for (fun k env _=>env 7= .one (.p (lsP ls))∧env 8=vi ls.length∧env 9=vi k∧env 3=vi (cnt Let.isP (ls.take k))) 0 ls.length (Nat.zero_le _) ?_ ?_
 ·simp only[go_sem];exact⟨rfl,rfl⟩
 ·rintro k env blk hk ⟨h7,h8,h9,h3⟩
  by_cases hlt:k<ls.length
  ·obtain⟨l,hk1⟩:=at_lt hlt;have hi:=ps_of hk1;have hlt':((k:Int)<(ls.length:Int)):=by omega
   have hb:=cnt_take_le (Let.isP) ls k;have w1:=wrap_succ (n:=k) (by omega);have w2:=wrap_succ (n:=cnt (Let.isP) (ls.take k)) (by omega);cases hp:(l.kind==1) with
   |true=>
    have hc:=cnt_hit (p:=Let.isP) hk1 hp;simp only[go_sem,i64_l1,h3,h7,h8,h9,hi,Let.ps,hlt',w1,w2,hp,hc];first|exact hlt|exact⟨hlt,rfl⟩
   |false=>
    have hc:=cnt_miss (p:=Let.isP) hk1 hp;simp only[go_sem,i64_l1,h3,h7,h8,h9,hi,Let.ps,hlt',w1,hp,hc];first|exact hlt|exact⟨hlt,rfl⟩
  ·have:k=ls.length:=by omega
   subst this;rw[List.take_length] at h3;simp only[go_sem,i64_l1,i64_r2,h3,h8,h9,no_more]
theorem crosses_p(f:Int)(ls:List Let)(hl:ls.length≤1000000):PEv S 47 [codeV f ls] (ri (cnt Let.isC ls)):=by
 refine pev1 c47 ?_;simp only[go_sem,i47];refine R_for (fun k env _=>env 7= .one (.p (lsP ls))∧env 8=vi ls.length∧env 9=vi k∧env 3=vi (cnt Let.isC (ls.take k))) 0 ls.length (Nat.zero_le _) ?_ ?_
 ·simp only[go_sem];exact⟨rfl,rfl⟩
 ·rintro k env blk hk ⟨h7,h8,h9,h3⟩
  by_cases hlt:k<ls.length
  ·obtain⟨l,hk1⟩:=at_lt hlt;have hi:=ps_of hk1;have hlt':((k:Int)<(ls.length:Int)):=by omega
   have hb:=cnt_take_le (Let.isC) ls k;have w1:=wrap_succ (n:=k) (by omega);have w2:=wrap_succ (n:=cnt (Let.isC) (ls.take k)) (by omega);cases hp:(l.kind==2) with
   |true=>
    have hc:=cnt_hit (p:=Let.isC) hk1 hp;simp only[go_sem,i47_l1,h3,h7,h8,h9,hi,Let.ps,hlt',w1,w2,hp,hc];first|exact hlt|exact⟨hlt,rfl⟩
   |false=>
    have hc:=cnt_miss (p:=Let.isC) hk1 hp;simp only[go_sem,i47_l1,h3,h7,h8,h9,hi,Let.ps,hlt',w1,hp,hc];first|exact hlt|exact⟨hlt,rfl⟩
  ·have:k=ls.length:=by omega
   subst this;rw[List.take_length] at h3;simp only[go_sem,i47_l1,i47_r2,h3,h8,h9,no_more]
theorem crossings_p(f:Int)(ls:List Let)(hl:ls.length≤1000000):PEv S 65 [codeV f ls] (ri ((cnt Let.isC ls/2:Nat))):=by
 have hb:=cnt_le Let.isC ls;have e1:IntKind.i64.wrap ((cnt Let.isC ls:Int).tdiv 2)=((cnt Let.isC ls/2:Nat):Int):=by
  have:(cnt Let.isC ls:Int).tdiv 2=((cnt Let.isC ls/2:Nat):Int):=by rw[Int.tdiv_eq_ediv_of_nonneg (by omega)];omega
  rw[this];exact wrap_small (by omega)
 refine pev1 c65 ?_;simp only[go_sem,i65,s47,gP_int (crosses_p f ls hl),e1,(by decide: ¬ (2:Int)=0)]
def dn (ls:List Let)(i:Nat):Bool:=cnt Let.isP (ls.take i)%2==0
def alongD(n i:Nat)(fw:Bool):Nat:=if fw then 2*i else 2*((i+n - 1)%n)+1
def otherP(ls:List Let)(i j:Nat):Bool:=j !=i&&(match ls[j]? with|some l=>l.isC&&l.id==((ls[i]?).map Let.id).getD 0|none=>false)
def otherR(ls:List Let)(i:Nat):Nat:=((List.range ls.length).find? (otherP ls i)).getD i
theorem find_range{p:Nat→Bool}: ∀ {n k:Nat},k<n→(∀ j,j<k→p j=false)→p k=true→(List.range n).find? p=some k:=by
 intro n k hk hn hp;exact List.find?_range_eq_some.2 ⟨hp,by simpa using hk,fun j hj=>by simp[hn j hj]⟩
theorem find_range_none{p:Nat→Bool}{n:Nat}(hn: ∀ j,j<n→p j=false):(List.range n).find? p=none:=by
 rw[List.find?_eq_none];intro x hx;simp[hn x (by simpa using hx)]
abbrev letV(l:Let):V:= .agg [.p (.int .i64 l.kind), .p (.int .i64 l.gate), .p (.int .i64 l.rank), .p (.int .i64 l.id), .p (.int .i64 l.sign), .p (.bool l.over)]
def leftB(a b:Let):Bool:=decide (a.gate<b.gate)||(a.gate==b.gate&&decide (a.rank<b.rank))
abbrev nP(o:List Nat):List (List PV):=o.map fun n:Nat=>[PV.int .i64 (n:Int)]
theorem nP_at{o:List Nat}{k n:Nat}(h:o[k]? =some n):(nP o)[k]? =some [.int .i64 (n:Int)]:=by simp[h]
def leftAt(ls:List Let)(i j:Nat):Bool:=match ls[j]?,ls[i]? with
 |some a,some b=>leftB a b
 |_,_=>false
def insA(ls:List Let)(o:List Nat)(i:Nat):List Nat:=o.take (o.takeWhile (leftAt ls i)).length++i::o.drop (o.takeWhile (leftAt ls i)).length
def axStep(ls:List Let)(o:List Nat)(i:Nat):List Nat:=match ls[i]? with
 |some l=>if l.isP then insA ls o i else o
 |none=>o
def axisR(ls:List Let):List Nat:=(List.range ls.length).foldl (axStep ls) []
def axisK(ls:List Let)(k:Nat):List Nat:=(List.range k).foldl (axStep ls) []
theorem axisK_succ(ls:List Let)(k:Nat):axisK ls (k+1)=axStep ls (axisK ls k) k:=by
 unfold axisK;rw[List.range_succ,List.foldl_append];rfl
theorem axStep_mem{ls:List Let}{o:List Nat}{i:Nat}{x:Nat}(h:x∈axStep ls o i):x∈o∨x=i:=by
 unfold axStep at h;split at h
 ·split at h
  ·unfold insA at h;rcases List.mem_append.1 h with h|h
   ·exact .inl (List.mem_of_mem_take h)
   ·rcases List.mem_cons.1 h with h|h
    ·exact .inr h
    ·exact .inl (List.mem_of_mem_drop h)
  ·exact .inl h
 ·exact .inl h
theorem axisK_lt{ls:List Let}: ∀ {k x:Nat},x∈axisK ls k→x<k:=by
 intro k
 induction k with
 |zero=>intro x h;simp[axisK] at h
 |succ k ih=>
  intro x h;rw[axisK_succ] at h;rcases axStep_mem h with h|h
  ·have:=ih h;omega
  ·omega
theorem axisK_len(ls:List Let): ∀ k,(axisK ls k).length≤k:=by
 intro k
 induction k with
 |zero=>simp[axisK]
 |succ k ih=>
  rw[axisK_succ];unfold axStep;split
  ·split
   ·unfold insA;simp only[List.length_append,List.length_cons,List.length_take,List.length_drop];omega
   ·omega
  ·omega
theorem insA_len(ls:List Let)(o:List Nat)(i:Nat):(insA ls o i).length=o.length+1:=by
 unfold insA;simp only[List.length_append,List.length_cons,List.length_take,List.length_drop];have:=(List.takeWhile_sublist (leftAt ls i) (l:=o)).length_le;omega
theorem outV_own{blk:Blk}{id g z len ty:Nat}{es:List (List PV)}(h:blk id=(g,some (.arr ty z es)))(hl:len=es.length):outV blk (.one (.hsl id g z 0 len))=some (.one (.own ty z es)):=by
 subst hl;simp only[outV,flatV,flatV1,outCs,outC,h,Nat.le_refl,and_self,if_true,List.take_length];rfl
def turnD(ls:List Let)(ax:List Nat)(d:Nat):Nat:=
 if 2*ls.length≤d then
  if d%2=0 then alongD ls.length (ax.getD (((d - 2*ls.length)/2+1)%ax.length) 0) (!dn ls (ax.getD (((d - 2*ls.length)/2+1)%ax.length) 0))
  else alongD ls.length (ax.getD ((d - 2*ls.length)/2) 0) (dn ls (ax.getD ((d - 2*ls.length)/2) 0))
 else
  let fw:=d%2==0
  let v:=if fw then (d/2+1)%ls.length else d/2
  match ls[v]? with
  |none=>0
  |some l=>if l.kind==2 then alongD ls.length (otherR ls v) (fw==(l.over==(l.sign==1)))
   else if dn ls v==fw then 2*ls.length+2*ax.idxOf v else 2*ls.length+2*((ax.idxOf v+ax.length - 1)%ax.length)+1
theorem otherR_lt{ls:List Let}{i:Nat}(hi:i<ls.length):otherR ls i<ls.length:=by
 unfold otherR;cases h:(List.range ls.length).find? (otherP ls i) with
 |none=>exact hi
 |some k=>
  have:=List.mem_of_find?_eq_some h
  simpa using this
theorem alongD_lt{n i:Nat}{fw:Bool}(hi:i<n):alongD n i fw<2*n:=by
 unfold alongD;have:=Nat.mod_lt (i+n - 1) (show 0<n by omega);split<;>omega
theorem turnD_lt{ls:List Let}{ax:List Nat}{d:Nat}(hax: ∀ x∈ax,x<ls.length)(hp: ∀ v l,ls[v]? =some l→(l.kind==2)=false→v∈ax)(hd:d<2*ls.length+2*ax.length):turnD ls ax d<2*ls.length+2*ax.length:=by
 have hget: ∀ k,k<ax.length→ax.getD k 0<ls.length:=fun k hk=>by
  obtain⟨x,hx⟩:=at_lt hk;rw[List.getD_eq_getElem?_getD,hx];exact hax x (List.mem_of_getElem? hx)
 unfold turnD;by_cases h:2*ls.length≤d
 ·rw[if_pos h];have hm:=Nat.mod_lt ((d - 2*ls.length)/2+1) (show 0<ax.length by omega);by_cases h2:d%2=0
  ·rw[if_pos h2];exact Nat.lt_of_lt_of_le (alongD_lt (hget _ hm)) (by omega)
  ·rw[if_neg h2];exact Nat.lt_of_lt_of_le (alongD_lt (hget _ (by omega))) (by omega)
 ·rw[if_neg h];have hn:0<ls.length:=by omega
  have hv:(if (d%2==0)=true then (d/2+1)%ls.length else d/2)<ls.length:=by
   split
   ·exact Nat.mod_lt _ hn
   ·omega
  simp only;generalize (if (d%2==0)=true then (d/2+1)%ls.length else d/2)=v at hv;obtain⟨l,hl⟩:=at_lt hv;rw[hl];simp only;by_cases hk:(l.kind==2)=true
  ·rw[if_pos hk];exact Nat.lt_of_lt_of_le (alongD_lt (otherR_lt hv)) (by omega)
  ·rw[if_neg hk];have hin:=hp v l hl (by simpa using hk);have hix:ax.idxOf v<ax.length:=List.idxOf_lt_length_iff.2 hin;have hm:=Nat.mod_lt (ax.idxOf v+ax.length - 1) (show 0<ax.length by omega);split<;>omega
theorem idxOf_get{ax:List Nat}{v:Nat}(h:v∈ax):ax[ax.idxOf v]? =some v:=by
 have hl:ax.idxOf v<ax.length:=List.idxOf_lt_length_iff.2 h;rw[List.getElem?_eq_getElem hl,List.getElem_idxOf hl]
abbrev bP(o:List Bool):List (List PV):=o.map fun b:Bool=>[PV.bool b]
theorem bP_at{o:List Bool}{k:Nat}{b:Bool}(h:o[k]? =some b):(bP o)[k]? =some [.bool b]:=by simp[h]
theorem bP_set(o:List Bool)(k:Nat)(b:Bool):(bP o).set k [.bool b]=bP (o.set k b):=by simp[List.map_set]
def walkF(next:Nat→Nat):Nat→Nat→List Bool→List Nat × List Bool
 |0,_,seen=>([],seen)
 |k+1,x,seen=>if seen.getD x true then ([],seen) else (x::(walkF next k (next x) (seen.set x true)).1,(walkF next k (next x) (seen.set x true)).2)
def unseen(s:List Bool):Nat:=s.countP (fun b=> !b)
theorem unseen_set{s:List Bool}{x:Nat}(h:s[x]? =some false):unseen (s.set x true)+1=unseen s:=by
 induction s generalizing x with
 |nil=>simp at h
 |cons b s ih=>
  cases x with
  |zero=>
   simp at h;subst h;simp[unseen]
  |succ x=>
   have:=ih (x:=x) (by simpa using h);unfold unseen at this ⊢;simp only[List.set_cons_succ,List.countP_cons];omega
theorem walkF_len(next:Nat→Nat): ∀ (k x:Nat) (s:List Bool),(walkF next k x s).2.length=s.length:=by
 intro k
 induction k with
 |zero=>intro x s;rfl
 |succ k ih=>
  intro x s;unfold walkF;split
  ·rfl
  ·simp[ih]
def walkStep(next:Nat→Nat)(st:List (List Nat) × List Bool)(d:Nat):List (List Nat) × List Bool:=
 if st.2.getD d true then st else (st.1++[(walkF next (st.2.length+1) d st.2).1],(walkF next (st.2.length+1) d st.2).2)
def walksK(next:Nat→Nat)(N k:Nat):List (List Nat) × List Bool:=(List.range k).foldl (walkStep next) ([],List.replicate N false)
def walksL(next:Nat→Nat)(N:Nat):List (List Nat):=(walksK next N N).1
theorem walksK_succ(next:Nat→Nat)(N k:Nat):walksK next N (k+1)=walkStep next (walksK next N k) k:=by
 unfold walksK;rw[List.range_succ,List.foldl_append];rfl
theorem walksK_len(next:Nat→Nat)(N:Nat): ∀ k,(walksK next N k).2.length=N:=by
 intro k
 induction k with
 |zero=>simp[walksK]
 |succ k ih=>
  rw[walksK_succ];unfold walkStep;split
  ·exact ih
  ·simp[walkF_len,ih]
theorem walksK_olen(next:Nat→Nat)(N:Nat): ∀ k,(walksK next N k).1.length≤k:=by
 intro k
 induction k with
 |zero=>simp[walksK]
 |succ k ih=>
  rw[walksK_succ];unfold walkStep;split
  ·omega
  ·simp;exact ih
theorem unseen_le(s:List Bool):unseen s≤s.length:=List.countP_le_length
end Go.Abs
