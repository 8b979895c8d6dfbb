/-
  A part of a proof.
-/
import Derived.Test.YtjjdebhkbfeniaaGreatDoorSa
set_option linter.unusedSimpArgs false
set_option linter.unusedVariables false
set_option linter.unusedSectionVars false
set_option maxRecDepth 100000
set_option maxHeartbeats 16000000
namespace Go.Abs
structure Let where
 kind:Int
 gate:Int
 rank:Int
 id:Int
 sign:Int
 over:Bool
 deriving DecidableEq
def Let.ps(l:Let):List PV:=[.int .i64 l.kind, .int .i64 l.gate, .int .i64 l.rank, .int .i64 l.id, .int .i64 l.sign, .bool l.over]
def Let.isP(l:Let):Bool:=l.kind==1
def Let.isC(l:Let):Bool:=l.kind==2
abbrev lsP(ls:List Let):PV:= .sl (ls.map Let.ps)
abbrev codeV(f:Int)(ls:List Let):V:= .agg [.p (.int .i64 f), .p (lsP ls)]
abbrev codeC(f:Int)(ls:List Let):List C:=[.p (.int .i64 f), .p (lsP ls)]
abbrev vi(k:Int):V:= .one (.p (.int .i64 k))
abbrev vb(b:Bool):V:= .one (.p (.bool b))
abbrev ri(k:Int):RV:= .one (.p (.int .i64 k))
abbrev rb(k:Bool):RV:= .one (.p (.bool k))
abbrev cnt(p:Let→Bool)(ls:List Let):Nat:=ls.countP p
theorem at_lt{α:Type}{ls:List α}{k:Nat}(h:k<ls.length): ∃ l,ls[k]? =some l:=⟨ls[k],by simp[h]⟩
theorem cnt_hit{p:Let→Bool}{ls:List Let}{k:Nat}{l:Let}(h:ls[k]? =some l)(hp:p l=true):cnt p (ls.take (k+1))=cnt p (ls.take k)+1:=by
 unfold cnt;obtain⟨hk,rfl⟩:=List.getElem?_eq_some_iff.1 h;rw[List.take_succ_eq_append_getElem hk,List.countP_append,List.countP_singleton,if_pos hp]
theorem cnt_miss{p:Let→Bool}{ls:List Let}{k:Nat}{l:Let}(h:ls[k]? =some l)(hp:p l=false):cnt p (ls.take (k+1))=cnt p (ls.take k):=by
 unfold cnt;obtain⟨hk,rfl⟩:=List.getElem?_eq_some_iff.1 h;rw[List.take_succ_eq_append_getElem hk,List.countP_append,List.countP_singleton,hp];rfl
theorem cnt_take_le(p:Let→Bool)(ls:List Let)(k:Nat):cnt p (ls.take k)≤k:=Nat.le_trans List.countP_le_length (by rw[List.length_take];exact Nat.min_le_left _ _)
theorem cnt_le(p:Let→Bool)(ls:List Let):cnt p ls≤ls.length:=List.countP_le_length
theorem ps_of{ls:List Let}{k:Nat}{l:Let}(h:ls[k]? =some l):(ls.map Let.ps)[k]? =some l.ps:=by simp[h]
theorem wrap_add{a b:Nat}(h:a+b≤9223372036854775807):IntKind.i64.wrap ((a:Int)+(b:Int))=((a+b:Nat):Int):=wrap_small (n:=a+b) h
theorem wrap_mul2{a:Nat}(h:2*a≤9223372036854775807):IntKind.i64.wrap (2*(a:Int))=((2*a:Nat):Int):=wrap_small (n:=2*a) h
theorem wrap_sub{a b:Nat}(h:b≤a)(h2:a≤9223372036854775807):IntKind.i64.wrap ((a:Int) - (b:Int))=((a - b:Nat):Int):=by
 have:((a:Int) - (b:Int))=((a - b:Nat):Int):=by omega
 rw[this];exact wrap_small (by omega)
theorem wrap_pred{a:Nat}(h:1≤a)(h2:a≤9223372036854775807):IntKind.i64.wrap ((a:Int) - 1)=((a - 1:Nat):Int):=wrap_sub (b:=1) h h2
def snapHfn(x y:Option (List PV × List Nat))(f:Nat):Option (PV × List Nat):=match x,y with
 |some (x,r),some (y,s)=>some (.fn f x y,r++s)
 |_,_=>none
theorem snapHfn_some{x y:List PV}{r s:List Nat}{f:Nat}:snapHfn (some (x,r)) (some (y,s)) f=some (.fn f x y,r++s):=rfl
theorem snap_hfn{blk:Blk}{f:Nat}{a b:List C}:snap blk snapN (.hfn f a b)=snapHfn (collect (snap blk 5) a) (collect (snap blk 5) b) f:=by
 unfold snapN;rw[snap];unfold snapHfn;rfl
theorem snap_href_s{blk:Blk}{n id g off:Nat}:snap blk (n+1) (.href id g off)=snapHref (blk id) (collect (snap blk n)) id g off:=by
 rw[snap];rfl
theorem snap_hsl_s{blk:Blk}{n id g z off len:Nat}:snap blk (n+1) (.hsl id g z off len)=snapHsl (blk id) (collect (collect (snap blk n))) id g off len:=by
 rw[snap];rfl
theorem okd{b:Bool}(h:b=true:=by kernel_rfl):b=true:=h
theorem pev1{f:Nat}{fn:IFn}{args:List V}{r:RV}(hf:S.fns f=some fn)(h:W S .all fn.body (endQ .all fn.results fun v blk=>outV blk v=some r) (ienv args) noBlk)(hp:S.prim f args=none:=by rfl)(hl:args.length≤fn.ntmps:=by exact Nat.le_of_ble_eq_true rfl):PEv S f args r:=PEv_fn hp hf hl h
theorem two_ne: ¬ ((2:Int)=0):=by decide
theorem tmod_nat(a b:Nat):(a:Int).tmod b=((a%b:Nat):Int):=by rw[Int.tmod_eq_emod_of_nonneg (by omega)];rfl
theorem tmod2(a:Nat):(a:Int).tmod 2=((a%2:Nat):Int):=tmod_nat a 2
theorem tdiv2(a:Nat):(a:Int).tdiv 2=((a/2:Nat):Int):=by rw[Int.tdiv_eq_ediv_of_nonneg (by omega)];rfl
theorem no_more{n:Nat}: ¬ ((n:Int)<(n:Int)):=by omega
theorem ps_len(l:Let):l.ps.length=6:=rfl
theorem frzL_nil{blk:Blk}{all:List Nat}:frzL blk all []=some []:=rfl
attribute [go_sem] snap_hfn snapHfn_some snap_href_s snap_hsl_s frzL_nil
def inG(g:Int)(l:Let):Bool:=l.isP&&l.gate==g
def isId(g:Int)(l:Let):Bool:=l.isC&&l.id==g
theorem passes_p(f:Int)(ls:List Let)(hl:ls.length≤1000000):PEv S 12 [codeV f ls] (ri (cnt Let.isP ls)):=by
 refine pev1 c12 ?_;simp only[go_sem,i12];refine R_for (fun k env _=>env 7= .one (.p (lsP ls))∧env 8=vi ls.length∧env 9=vi k∧env 3=vi (cnt Let.isP (ls.take k))) 0 ls.length (Nat.zero_le _) ?_ ?_
 ·simp only[go_sem];exact⟨rfl,rfl⟩
 ·rintro k env blk hk ⟨h7,h8,h9,h3⟩
  by_cases hlt:k<ls.length
  ·obtain⟨l,hk1⟩:=at_lt hlt;have hi:=ps_of hk1;have hlt':((k:Int)<(ls.length:Int)):=by omega
   have hb:=cnt_take_le (Let.isP) ls k;have w1:=wrap_succ (n:=k) (by omega);have w2:=wrap_succ (n:=cnt (Let.isP) (ls.take k)) (by omega);cases hp:(l.kind==1) with
   |true=>
    have hc:=cnt_hit (p:=Let.isP) hk1 hp;simp only[go_sem,i12_l1,h3,h7,h8,h9,hi,Let.ps,hlt',w1,w2,hp,hc];first|exact hlt|exact⟨hlt,rfl⟩
   |false=>
    have hc:=cnt_miss (p:=Let.isP) hk1 hp;simp only[go_sem,i12_l1,h3,h7,h8,h9,hi,Let.ps,hlt',w1,hp,hc];first|exact hlt|exact⟨hlt,rfl⟩
  ·have:k=ls.length:=by omega
   subst this;rw[List.take_length] at h3;simp only[go_sem,i12_l1,i12_r2,h3,h8,h9,no_more]
theorem crosses_p(f:Int)(ls:List Let)(hl:ls.length≤1000000):PEv S 33 [codeV f ls] (ri (cnt Let.isC ls)):=by
 refine pev1 c33 ?_;simp only[go_sem,i33];refine R_for (fun k env _=>env 7= .one (.p (lsP ls))∧env 8=vi ls.length∧env 9=vi k∧env 3=vi (cnt Let.isC (ls.take k))) 0 ls.length (Nat.zero_le _) ?_ ?_
 ·simp only[go_sem];exact⟨rfl,rfl⟩
 ·rintro k env blk hk ⟨h7,h8,h9,h3⟩
  by_cases hlt:k<ls.length
  ·obtain⟨l,hk1⟩:=at_lt hlt;have hi:=ps_of hk1;have hlt':((k:Int)<(ls.length:Int)):=by omega
   have hb:=cnt_take_le (Let.isC) ls k;have w1:=wrap_succ (n:=k) (by omega);have w2:=wrap_succ (n:=cnt (Let.isC) (ls.take k)) (by omega);cases hp:(l.kind==2) with
   |true=>
    have hc:=cnt_hit (p:=Let.isC) hk1 hp;simp only[go_sem,i33_l1,h3,h7,h8,h9,hi,Let.ps,hlt',w1,w2,hp,hc];first|exact hlt|exact⟨hlt,rfl⟩
   |false=>
    have hc:=cnt_miss (p:=Let.isC) hk1 hp;simp only[go_sem,i33_l1,h3,h7,h8,h9,hi,Let.ps,hlt',w1,hp,hc];first|exact hlt|exact⟨hlt,rfl⟩
  ·have:k=ls.length:=by omega
   subst this;rw[List.take_length] at h3;simp only[go_sem,i33_l1,i33_r2,h3,h8,h9,no_more]
theorem crossings_p(f:Int)(ls:List Let)(hl:ls.length≤1000000):PEv S 13 [codeV f ls] (ri ((cnt Let.isC ls/2:Nat))):=by
 have hb:=cnt_le Let.isC ls;have e1:IntKind.i64.wrap ((cnt Let.isC ls:Int).tdiv 2)=((cnt Let.isC ls/2:Nat):Int):=by
  have:(cnt Let.isC ls:Int).tdiv 2=((cnt Let.isC ls/2:Nat):Int):=by rw[Int.tdiv_eq_ediv_of_nonneg (by omega)];omega
  rw[this];exact wrap_small (by omega)
 refine pev1 c13 ?_;simp only[go_sem,i13,s33,gP_int (crosses_p f ls hl),e1,(by decide: ¬ (2:Int)=0)]
theorem passes_r(f:Int)(ls:List Let)(hl:ls.length≤1000000):PEv S 42 [codeV f ls] (ri (cnt Let.isP ls)):=by
 refine pev1 c42 ?_;simp only[go_sem,i42];refine R_for (fun k env blk=>env 1= .one (.href 2688000000 1 0)∧blk 2688000000=(1,some (.var (codeC f ls)))∧env 4=vi k∧env 3=vi (cnt Let.isP (ls.take k))) 0 ls.length (Nat.zero_le _) ?_ ?_
 ·simp only[go_sem];first|exact⟨rfl,rfl⟩|exact⟨rfl,rfl,rfl⟩
 ·rintro k env blk hk ⟨hb1,hB,hi1,hn1⟩
  by_cases hlt:k<ls.length
  ·obtain⟨l,hk1⟩:=at_lt hlt;have hi:=ps_of hk1;have hlt':((k:Int)<(ls.length:Int)):=by omega
   have hb:=cnt_take_le (Let.isP) ls k;have w1:=wrap_succ (n:=k) (by omega);have w2:=wrap_succ (n:=cnt (Let.isP) (ls.take k)) (by omega);cases hp:(l.kind==1) with
   |true=>
    have hc:=cnt_hit (p:=Let.isP) hk1 hp;simp only[go_sem,i42_l1,hb1,hB,hi1,hn1,hi,Let.ps,hlt',w1,w2,hp,hc];first|exact hlt|exact⟨hlt,rfl⟩
   |false=>
    have hc:=cnt_miss (p:=Let.isP) hk1 hp;simp only[go_sem,i42_l1,hb1,hB,hi1,hn1,hi,Let.ps,hlt',w1,hp,hc];first|exact hlt|exact⟨hlt,rfl⟩
  ·have:k=ls.length:=by omega
   subst this;rw[List.take_length] at hn1;simp only[go_sem,i42_l1,i42_r2,hb1,hB,hi1,hn1,no_more]
theorem visits_r(f:Int)(ls:List Let)(hl:ls.length≤1000000):PEv S 41 [codeV f ls] (ri (cnt Let.isC ls)):=by
 refine pev1 c41 ?_;simp only[go_sem,i41];refine R_for (fun k env blk=>env 1= .one (.href 2624000000 1 0)∧blk 2624000000=(1,some (.var (codeC f ls)))∧env 4=vi k∧env 3=vi (cnt Let.isC (ls.take k))) 0 ls.length (Nat.zero_le _) ?_ ?_
 ·simp only[go_sem];first|exact⟨rfl,rfl⟩|exact⟨rfl,rfl,rfl⟩
 ·rintro k env blk hk ⟨hb1,hB,hi1,hn1⟩
  by_cases hlt:k<ls.length
  ·obtain⟨l,hk1⟩:=at_lt hlt;have hi:=ps_of hk1;have hlt':((k:Int)<(ls.length:Int)):=by omega
   have hb:=cnt_take_le (Let.isC) ls k;have w1:=wrap_succ (n:=k) (by omega);have w2:=wrap_succ (n:=cnt (Let.isC) (ls.take k)) (by omega);cases hp:(l.kind==2) with
   |true=>
    have hc:=cnt_hit (p:=Let.isC) hk1 hp;simp only[go_sem,i41_l1,hb1,hB,hi1,hn1,hi,Let.ps,hlt',w1,w2,hp,hc];first|exact hlt|exact⟨hlt,rfl⟩
   |false=>
    have hc:=cnt_miss (p:=Let.isC) hk1 hp;simp only[go_sem,i41_l1,hb1,hB,hi1,hn1,hi,Let.ps,hlt',w1,hp,hc];first|exact hlt|exact⟨hlt,rfl⟩
  ·have:k=ls.length:=by omega
   subst this;rw[List.take_length] at hn1;simp only[go_sem,i41_l1,i41_r2,hb1,hB,hi1,hn1,no_more]
theorem crossings_r(f:Int)(ls:List Let)(hl:ls.length≤1000000):PEv S 45 [codeV f ls] (ri ((cnt Let.isC ls/2:Nat))):=by
 have hb:=cnt_le Let.isC ls;have e1:IntKind.i64.wrap ((cnt Let.isC ls:Int).tdiv 2)=((cnt Let.isC ls/2:Nat):Int):=by
  have:(cnt Let.isC ls:Int).tdiv 2=((cnt Let.isC ls/2:Nat):Int):=by rw[Int.tdiv_eq_ediv_of_nonneg (by omega)];omega
  rw[this];exact wrap_small (by omega)
 refine pev1 c45 ?_;simp only[go_sem,i45,s41,gP_int (visits_r f ls hl),e1,(by decide: ¬ (2:Int)=0)]
theorem in_r(f:Int)(ls:List Let)(hl:ls.length≤1000000)(g:Int):PEv S 65 [codeV f ls,vi g] (ri (cnt (inG g) ls)):=by
 refine pev1 c65 ?_;simp only[go_sem,i65];refine R_for (fun k env blk=>env 2= .one (.href 4160000000 1 0)∧blk 4160000000=(1,some (.var (codeC f ls)))∧env 6=vi k∧env 5=vi (cnt (inG g) (ls.take k))∧env 1=vi g) 0 ls.length (Nat.zero_le _) ?_ ?_
 ·simp only[go_sem];first|exact⟨rfl,rfl⟩|exact⟨rfl,rfl,rfl⟩
 ·rintro k env blk hk ⟨hb1,hB,hi1,hn1,ha1⟩
  by_cases hlt:k<ls.length
  ·obtain⟨l,hk1⟩:=at_lt hlt;have hi:=ps_of hk1;have hlt':((k:Int)<(ls.length:Int)):=by omega
   have hb:=cnt_take_le ((inG g)) ls k;have w1:=wrap_succ (n:=k) (by omega);have w2:=wrap_succ (n:=cnt ((inG g)) (ls.take k)) (by omega);cases hp:(l.kind==1) with
   |true=>
    cases hq:(l.gate==g) with
    |true=>
     have hc:=cnt_hit (p:=(inG g)) hk1 (by simp only[inG,Let.isP,hp,hq];rfl);simp only[go_sem,i65_l1,hb1,hB,hi1,hn1,hi,Let.ps,hlt',w1,w2,ha1,hp,hq,hc];first|exact hlt|exact⟨hlt,rfl⟩
    |false=>
     have hc:=cnt_miss (p:=(inG g)) hk1 (by simp only[inG,Let.isP,hp,hq];rfl);simp only[go_sem,i65_l1,hb1,hB,hi1,hn1,hi,Let.ps,hlt',w1,ha1,hp,hq,hc];first|exact hlt|exact⟨hlt,rfl⟩
   |false=>
    have hc:=cnt_miss (p:=(inG g)) hk1 (by simp only[inG,Let.isP,hp];rfl);simp only[go_sem,i65_l1,hb1,hB,hi1,hn1,hi,Let.ps,hlt',w1,ha1,hp,hc];first|exact hlt|exact⟨hlt,rfl⟩
  ·have:k=ls.length:=by omega
   subst this;rw[List.take_length] at hn1;simp only[go_sem,i65_l1,i65_r2,hb1,hB,hi1,hn1,no_more]
theorem times_r(f:Int)(ls:List Let)(hl:ls.length≤1000000)(g:Int):PEv S 66 [codeV f ls,vi g] (ri (cnt (isId g) ls)):=by
 refine pev1 c66 ?_;simp only[go_sem,i66];refine R_for (fun k env blk=>env 2= .one (.href 4224000000 1 0)∧blk 4224000000=(1,some (.var (codeC f ls)))∧env 6=vi k∧env 5=vi (cnt (isId g) (ls.take k))∧env 1=vi g) 0 ls.length (Nat.zero_le _) ?_ ?_
 ·simp only[go_sem];first|exact⟨rfl,rfl⟩|exact⟨rfl,rfl,rfl⟩
 ·rintro k env blk hk ⟨hb1,hB,hi1,hn1,ha1⟩
  by_cases hlt:k<ls.length
  ·obtain⟨l,hk1⟩:=at_lt hlt;have hi:=ps_of hk1;have hlt':((k:Int)<(ls.length:Int)):=by omega
   have hb:=cnt_take_le ((isId g)) ls k;have w1:=wrap_succ (n:=k) (by omega);have w2:=wrap_succ (n:=cnt ((isId g)) (ls.take k)) (by omega);cases hp:(l.kind==2) with
   |true=>
    cases hq:(l.id==g) with
    |true=>
     have hc:=cnt_hit (p:=(isId g)) hk1 (by simp only[isId,Let.isC,hp,hq];rfl);simp only[go_sem,i66_l1,hb1,hB,hi1,hn1,hi,Let.ps,hlt',w1,w2,ha1,hp,hq,hc];first|exact hlt|exact⟨hlt,rfl⟩
    |false=>
     have hc:=cnt_miss (p:=(isId g)) hk1 (by simp only[isId,Let.isC,hp,hq];rfl);simp only[go_sem,i66_l1,hb1,hB,hi1,hn1,hi,Let.ps,hlt',w1,ha1,hp,hq,hc];first|exact hlt|exact⟨hlt,rfl⟩
   |false=>
    have hc:=cnt_miss (p:=(isId g)) hk1 (by simp only[isId,Let.isC,hp];rfl);simp only[go_sem,i66_l1,hb1,hB,hi1,hn1,hi,Let.ps,hlt',w1,ha1,hp,hc];first|exact hlt|exact⟨hlt,rfl⟩
  ·have:k=ls.length:=by omega
   subst this;rw[List.take_length] at hn1;simp only[go_sem,i66_l1,i66_r2,hb1,hB,hi1,hn1,no_more]
def dn (ls:List Let)(i:Nat):Bool:=cnt Let.isP (ls.take i)%2==0
theorem down_r(f:Int)(ls:List Let)(i:Nat)(hl:ls.length≤1000000)(hi0:i≤ls.length):PEv S 96 [codeV f ls,vi i] (rb (dn ls i)):=by
 refine pev1 c96 ?_;simp only[go_sem,i96];refine R_for (fun k env blk=>env 1=vi i∧env 2= .one (.href 6144000000 1 0)∧blk 6144000000=(1,some (.var (codeC f ls)))∧env 6=vi k∧env 5=vi (cnt Let.isP (ls.take k))) 0 i (Nat.zero_le _) ?_ ?_
 ·simp only[go_sem];exact⟨rfl,rfl⟩
 ·rintro k env blk hk ⟨h1,hb1,hB,hi1,hn1⟩
  have hb:=cnt_take_le Let.isP ls k;by_cases hlt:k<i
  ·obtain⟨l,hk1⟩:=at_lt (ls:=ls) (k:=k) (by omega);have hi:=ps_of hk1;have hlt':((k:Int)<(i:Int)):=by omega
   have w1:=wrap_succ (n:=k) (by omega);have w2:=wrap_succ (n:=cnt Let.isP (ls.take k)) (by omega);cases hp:(l.kind==1) with
   |true=>
    have hc:=cnt_hit (p:=Let.isP) hk1 hp;simp only[go_sem,i96_l1,h1,hb1,hB,hi1,hn1,hi,Let.ps,hlt',w1,w2,hp,hc];exact hlt
   |false=>
    have hc:=cnt_miss (p:=Let.isP) hk1 hp;simp only[go_sem,i96_l1,h1,hb1,hB,hi1,hn1,hi,Let.ps,hlt',w1,hp,hc];exact hlt
  ·have:k=i:=by omega
   subst this;have e2:((((cnt Let.isP (ls.take k))%2:Nat):Int)==0)=dn ls k:=by
    unfold dn;cases h:(cnt Let.isP (ls.take k)%2==0) with
    |true=>simp at h ⊢;omega
    |false=>simp at h ⊢;omega
   simp only[go_sem,i96_l1,i96_r2,h1,hi1,hn1,no_more,two_ne,tmod2,e2]
theorem left_r(a b:Let):PEv S 94 [.agg (a.ps.map .p), .agg (b.ps.map .p)] (rb (decide (a.gate<b.gate)||(a.gate==b.gate&&decide (a.rank<b.rank)))):=by
 refine pev1 c94 ?_;by_cases h1:a.gate<b.gate
 ·simp only[go_sem,i94,Let.ps,h1]
 ·cases h2:(a.gate==b.gate) with
  |true=>simp only[go_sem,i94,Let.ps,h1,h2]
  |false=>simp only[go_sem,i94,Let.ps,h1,h2]
def alongD(n i:Nat)(fw:Bool):Nat:=if fw then 2*i else 2*((i+n - 1)%n)+1
theorem along_r(f:Int)(ls:List Let)(i:Nat)(fw:Bool)(hl:ls.length≤1000000)(hi:i<ls.length):PEv S 95 [codeV f ls,vi i,vb fw] (ri (alongD ls.length i fw)):=by
 refine pev1 c95 ?_;cases fw with
 |true=>
  have e:IntKind.i64.wrap (2*(i:Int))=((2*i:Nat):Int):=wrap_small (n:=2*i) (by omega);simp only[go_sem,i95,e,alongD]
 |false=>
  have w1:IntKind.i64.wrap ((i:Int)+(ls.length:Int))=((i+ls.length:Nat):Int):=wrap_small (n:=i+ls.length) (by omega);have w2:IntKind.i64.wrap (((i+ls.length:Nat):Int) - 1)=((i+ls.length - 1:Nat):Int):=by
   have:(((i+ls.length:Nat):Int) - 1)=((i+ls.length - 1:Nat):Int):=by omega
   rw[this];exact wrap_small (by omega)
  have e1:=tmod_nat (i+ls.length - 1) ls.length;have hm:=Nat.mod_lt (i+ls.length - 1) (show 0<ls.length by omega);have w3:IntKind.i64.wrap (2*(((i+ls.length - 1)%ls.length:Nat):Int))=((2*((i+ls.length - 1)%ls.length):Nat):Int):=wrap_small (n:=2*((i+ls.length - 1)%ls.length)) (by omega);have w4:=wrap_succ (n:=2*((i+ls.length - 1)%ls.length)) (by omega);have hz: ¬ ((ls.length:Int)=0):=by omega
  simp only[go_sem,i95,w1,w2,e1,w3,w4,hz,alongD]
def otherP(ls:List Let)(i j:Nat):Bool:=j !=i&&(match ls[j]? with|some l=>l.isC&&l.id==((ls[i]?).map Let.id).getD 0|none=>false)
def otherR(ls:List Let)(i:Nat):Nat:=((List.range ls.length).find? (otherP ls i)).getD i
theorem find_range{p:Nat→Bool}: ∀ {n k:Nat},k<n→(∀ j,j<k→p j=false)→p k=true→(List.range n).find? p=some k:=by
 intro n k hk hn hp;exact List.find?_range_eq_some.2 ⟨hp,by simpa using hk,fun j hj=>by simp[hn j hj]⟩
theorem find_range_none{p:Nat→Bool}{n:Nat}(hn: ∀ j,j<n→p j=false):(List.range n).find? p=none:=by
 rw[List.find?_eq_none];intro x hx;simp[hn x (by simpa using hx)]
theorem other_r(f:Int)(ls:List Let)(i:Nat)(hl:ls.length≤1000000)(hi0:i<ls.length):PEv S 97 [codeV f ls,vi i] (ri (otherR ls i)):=by
 obtain⟨li,hli⟩:=at_lt hi0;have hpi:=ps_of hli;have key: ∀ j l,ls[j]? =some l→otherP ls i j=(j !=i&&(l.isC&&l.id==li.id)):=fun j l h=>by simp[otherP,h,hli]
 refine pev1 c97 ?_;simp only[go_sem,i97];refine R_for (fun k env blk=>env 1=vi i∧env 2= .one (.href 6208000000 1 0)∧blk 6208000000=(1,some (.var (codeC f ls)))∧env 5=vi k∧ ∀ j,j<k→otherP ls i j=false) 0 ls.length (Nat.zero_le _) ?_ ?_
 ·simp only[go_sem];exact⟨rfl,fun j h=>absurd h (Nat.not_lt_zero j)⟩
 ·rintro k env blk hk ⟨h1,hb1,hB,hi1,hn⟩
  by_cases hlt:k<ls.length
  ·obtain⟨l,hk1⟩:=at_lt hlt;have hi:=ps_of hk1;have hlt':((k:Int)<(ls.length:Int)):=by omega
   have w1:=wrap_succ (n:=k) (by omega);have hkey:=key k l hk1;have step:otherP ls i k=false→ ∀ j,j<k+1→otherP ls i j=false:=fun h j hj=>by
    rcases Nat.lt_succ_iff_lt_or_eq.1 hj with h2|rfl
    ·exact hn j h2
    ·exact h
   by_cases hki:k=i
   ·have hb:((k:Int)!=(i:Int))=false:=by simp[hki]
    have hs:=step (by rw[hkey];simp[hki]);simp only[go_sem,i97_l1,h1,hb1,hB,hi1,hlt',w1,hb];exact⟨by kernel_rfl,hlt,hs⟩
   ·have hb:((k:Int)!=(i:Int))=true:=by simp;omega
    have hb2:(k !=i)=true:=by simp[hki]
    cases hp:(l.kind==2) with
    |false=>
     have hs:=step (by rw[hkey,hb2,Let.isC,hp];rfl);simp only[go_sem,i97_l1,h1,hb1,hB,hi1,hi,Let.ps,hlt',w1,hb,hp];exact⟨by kernel_rfl,hlt,hs⟩
    |true=>
     cases hq:(l.id==li.id) with
     |false=>
      have hs:=step (by rw[hkey,hb2,Let.isC,hp,hq];rfl);simp only[go_sem,i97_l1,h1,hb1,hB,hi1,hi,hpi,Let.ps,hlt',w1,hb,hp,hq];exact⟨by kernel_rfl,hlt,hs⟩
     |true=>
      have hf:otherR ls i=k:=by
       unfold otherR;rw[find_range hlt hn (by rw[hkey,hb2,Let.isC,hp,hq];rfl)];rfl
      simp only[go_sem,i97_l1,h1,hb1,hB,hi1,hi,hpi,Let.ps,hlt',hb,hp,hq,hf];show okDraw _ _ _=true
      kernel_rfl
  ·have:k=ls.length:=by omega
   subst this;have hf:otherR ls i=i:=by
    unfold otherR;rw[find_range_none hn];rfl
   simp only[go_sem,i97_l1,i97_r2,h1,hb1,hB,hi1,no_more,hf]
abbrev natsP(l:List Nat):PV:= .sl (l.map fun n:Nat=>[.int .i64 (n:Int)])
theorem at_r(l:List Nat)(n k0:Nat)(hl:l.length≤1000000)(hk0:l[k0]? =some n)(hn: ∀ j,j<k0→l[j]? ≠some n):PEv S 98 [.one (.p (natsP l)),vi n] (ri k0):=by
 have hk0l:=(List.getElem?_eq_some_iff.1 hk0).1;refine pev1 c98 ?_;simp only[go_sem,i98];refine R_for (fun k env blk=>env 0= .one (.p (natsP l))∧env 1=vi n∧env 5=vi k) 0 k0 (Nat.zero_le _) ?_ ?_
 ·simp only[go_sem];rfl
 ·rintro k env blk hk ⟨h0,h1,h5⟩
  have hlt':((k:Int)<(l.length:Int)):=by omega
  have w1:=wrap_succ (n:=k) (by omega);obtain⟨m,hm⟩:=at_lt (ls:=l) (k:=k) (by omega);have hi:(l.map fun n:Nat=>[PV.int .i64 (n:Int)])[k]? =some [.int .i64 (m:Int)]:=by simp[hm]
  by_cases hlt:k<k0
  ·have hne:((m:Int)==(n:Int))=false:=by
    have:m≠n:=fun e=>hn k hlt (by rw[hm,e])
    simp;omega
   simp only[go_sem,i98_l1,h0,h1,h5,hlt',w1,hi,hne];exact hlt
  ·have:k=k0:=by omega
   subst this;have e:m=n:=by rw[hm] at hk0;exact Option.some.inj hk0
   subst e;simp only[go_sem,i98_l1,h0,h1,h5,hlt',hi]
abbrev letV(l:Let):V:= .agg [.p (.int .i64 l.kind), .p (.int .i64 l.gate), .p (.int .i64 l.rank), .p (.int .i64 l.id), .p (.int .i64 l.sign), .p (.bool l.over)]
def leftB(a b:Let):Bool:=decide (a.gate<b.gate)||(a.gate==b.gate&&decide (a.rank<b.rank))
theorem left_r'(a b:Let):PEv S 94 [letV a,letV b] (rb (leftB a b)):=left_r a b
abbrev nP(o:List Nat):List (List PV):=o.map fun n:Nat=>[PV.int .i64 (n:Int)]
theorem nP_at{o:List Nat}{k n:Nat}(h:o[k]? =some n):(nP o)[k]? =some [.int .i64 (n:Int)]:=by simp[h]
def leftAt(ls:List Let)(i j:Nat):Bool:=match ls[j]?,ls[i]? with
 |some a,some b=>leftB a b
 |_,_=>false
def insA(ls:List Let)(o:List Nat)(i:Nat):List Nat:=o.take (o.takeWhile (leftAt ls i)).length++i::o.drop (o.takeWhile (leftAt ls i)).length
def axStep(ls:List Let)(o:List Nat)(i:Nat):List Nat:=match ls[i]? with
 |some l=>if l.isP then insA ls o i else o
 |none=>o
def axisR(ls:List Let):List Nat:=(List.range ls.length).foldl (axStep ls) []
def axisK(ls:List Let)(k:Nat):List Nat:=(List.range k).foldl (axStep ls) []
theorem axisK_succ(ls:List Let)(k:Nat):axisK ls (k+1)=axStep ls (axisK ls k) k:=by
 unfold axisK;rw[List.range_succ,List.foldl_append];rfl
theorem axStep_mem{ls:List Let}{o:List Nat}{i:Nat}{x:Nat}(h:x∈axStep ls o i):x∈o∨x=i:=by
 unfold axStep at h;split at h
 ·split at h
  ·unfold insA at h;rcases List.mem_append.1 h with h|h
   ·exact .inl (List.mem_of_mem_take h)
   ·rcases List.mem_cons.1 h with h|h
    ·exact .inr h
    ·exact .inl (List.mem_of_mem_drop h)
  ·exact .inl h
 ·exact .inl h
theorem axisK_lt{ls:List Let}: ∀ {k x:Nat},x∈axisK ls k→x<k:=by
 intro k
 induction k with
 |zero=>intro x h;simp[axisK] at h
 |succ k ih=>
  intro x h;rw[axisK_succ] at h;rcases axStep_mem h with h|h
  ·have:=ih h;omega
  ·omega
theorem axisK_len(ls:List Let): ∀ k,(axisK ls k).length≤k:=by
 intro k
 induction k with
 |zero=>simp[axisK]
 |succ k ih=>
  rw[axisK_succ];unfold axStep;split
  ·split
   ·unfold insA;simp only[List.length_append,List.length_cons,List.length_take,List.length_drop];omega
   ·omega
  ·omega
def outI(site:Nat)(o:List Nat)(v:V)(blk:Blk):Prop:=(o=[]∧v= .one (.p .nils))∨(o≠[]∧ ∃ g,v= .one (.hsl site g 1 0 o.length)∧blk site=(g,some (.arr 3 1 (nP o))))
theorem axisIns{o:List Nat}{i K:Nat}{env:Env}{blk:Blk}{Q:Post}(ho:outI 4288576640 o (env 3) blk)(h4:env 4=vi i)(h5:env 5=vi K)(hK:K≤o.length)(hl:o.length≤1000000)
  (hq: ∀ env' blk',env' 1=env 1→env' 4=env 4→blk' 4288000000=blk 4288000000→outI 4288576640 (o.take K++i::o.drop K) (env' 3) blk'→Q .normal env' blk'):
  W S .all i67_r2 Q env blk:=by
 rcases ho with ⟨rfl,h3⟩|⟨ho,g,h3,hC⟩
 ·have hK0:K=0:=by simpa using hK
  subst hK0;simp only[go_sem,i67_r2,h3,h4,h5,planAppend,szOK];refine⟨by kernel_rfl,hq _ _ ?_ ?_ ?_ (.inr ⟨by simp,(blk 4288576640).1+1,?_,?_⟩)⟩;all_goals simp only[go_sem]
 ·have hroom: ∀ n:Nat,n≤1000001→n*8≤140737488355328:=fun n hn=>by omega
  by_cases hK0:K=0
  ·subst hK0;have ht:List.take o.length (nP o)=nP o:=List.take_of_length_le (by simp);have hr1:=hroom (1+o.length) (by omega);simp only[go_sem,i67_r2,h3,h4,h5,hC,ht,hr1,planAppend,szOK];refine⟨by kernel_rfl,hq _ _ ?_ ?_ ?_ (.inr ⟨by simp,g+1,?_,?_⟩)⟩;all_goals simp only[go_sem]
   ·simp;omega
  ·have ht:(List.take K (nP o)).length=K:=by simp;omega
   have htt:List.take K (List.take K (nP o))=List.take K (nP o):=by rw[List.take_take,Nat.min_self]
   have htk:List.take (K+1) (List.take K (nP o)++[[PV.int .i64 (i:Int)]])=List.take K (nP o)++[[PV.int .i64 (i:Int)]]:=List.take_of_length_le (by simp;omega);have htd:List.take (o.length - K) (List.drop K (nP o))=List.drop K (nP o):=List.take_of_length_le (by simp);have hld:(List.drop K (nP o)).length=o.length - K:=by simp
   have hla:(List.take K (nP o)++[[PV.int .i64 (i:Int)]]).length=K+1:=by simp;omega
   have hr1:=hroom K (by omega);have hr2:=hroom (K+1) (by omega);have hr3:=hroom (K+1+(o.length - K)) (by omega);have hle:K+(o.length - K)≤o.length:=by omega
   simp only[go_sem,i67_r2,h3,h4,h5,hC,hK,ht,hK0,hr1,hr2,hr3,htt,htk,htd,hld,hla,hle,planAppend,szOK];refine⟨by kernel_rfl,hq _ _ ?_ ?_ ?_ (.inr ⟨by simp,g+1,?_,?_⟩)⟩;all_goals simp only[go_sem]
   ·simp;omega
   ·simp
theorem takeWhile_take{α:Type}{p:α→Bool}{l:List α}{K:Nat}(hK:K≤l.length)(h1: ∀ j x,j<K→l[j]? =some x→p x=true)(h2: ∀ x,l[K]? =some x→p x=false):(l.takeWhile p).length=K:=by
 induction l generalizing K with
 |nil=>simp at hK ⊢;omega
 |cons a l ih=>
  cases K with
  |zero=>
   have:=h2 a rfl;simp[List.takeWhile,this]
  |succ K=>
   have:=h1 0 a (by omega) rfl;simp only[List.takeWhile,this,List.length_cons];rw[ih (by simpa using hK) (fun j x hj hx=>h1 (j+1) x (by omega) (by simpa using hx)) (fun x hx=>h2 x (by simpa using hx))]
theorem axisRound{ls:List Let}{f:Int}{o:List Nat}{i:Nat}{li:Let}{env:Env}{blk:Blk}{Q:Post}(ho:outI 4288576640 o (env 3) blk)(h1:env 1= .one (.href 4288000000 1 0))(hB:blk 4288000000=(1,some (.var (codeC f ls))))(h4:env 4=vi i)(h5:env 5=vi 0)
  (hli:ls[i]? =some li) (hlt: ∀ x∈o,x<ls.length) (hl:o.length≤1000000)
  (hq: ∀ env' blk',env' 1=env 1→env' 4=env 4→blk' 4288000000=blk 4288000000→outI 4288576640 (insA ls o i) (env' 3) blk'→Q .normal env' blk'):
  W S .all (.loop i67_l1) (blockQ 2 (thenW S .all i67_r2 Q)) env blk:=by
 have hpi:=ps_of hli;refine R_for (fun k env' blk'=>env' 1=env 1∧env' 4=env 4∧env' 3=env 3∧blk'=blk∧env' 5=vi k∧ ∀ j x,j<k→o[j]? =some x→leftAt ls i x=true) 0 o.length (Nat.zero_le _) ?_ ?_
 ·exact⟨rfl,rfl,rfl,rfl,h5,fun j x hj=>absurd hj (Nat.not_lt_zero j)⟩
 ·rintro k env' blk' hk ⟨h1',h4',h3',rfl,h5',hp⟩
  rw[h1] at h1';rw[h4] at h4';have fin: ∀ e:Env,e 1=env' 1→e 4=env' 4→e 3=env' 3→e 5=env' 5→(∀ x,o[k]? =some x→leftAt ls i x=false)→W S .all i67_r2 Q e blk':=by
   intro e e1 e4 e3 e5 hk2;have hK:=takeWhile_take hk hp hk2;have ho':outI 4288576640 o (e 3) blk':=by rw[e3,h3'];exact ho
   refine axisIns (i:=i) (K:=k) ho' (by rw[e4,h4']) (by rw[e5,h5']) hk hl ?_;intro env2 blk2 q1 q2 q3 q4;refine hq env2 blk2 (by rw[q1,e1,h1',h1]) (by rw[q2,e4,h4',h4]) q3 ?_;unfold insA;rw[hK];exact q4
  by_cases hk1:k<o.length
  ·obtain⟨x,hx⟩:=at_lt hk1;have hxl:=hlt x (List.mem_of_getElem? hx);obtain⟨lx,hlx⟩:=at_lt hxl;have hpx:=ps_of hlx;have hnx:=nP_at hx;have hlt':((k:Int)<(o.length:Int)):=by omega
   have w1:=wrap_succ (n:=k) (by omega);have hleft:leftAt ls i x=leftB lx li:=by simp[leftAt,hlx,hli]
   have p453:=left_r' lx li;rcases ho with ⟨rfl,_⟩|⟨ho,g,h3,hC⟩
   ·simp at hk1
   ·rw[h3] at h3';cases hb:leftB lx li with
    |true=>
     rw[hb] at p453;simp only[go_sem,i67_l1,h1,h3,h4,h1',h3',h4',h5',hB,hC,hlt',hnx,hpx,hpi,Let.ps,hk1,w1,s94,dP_bool p453];refine⟨by kernel_rfl,fun j y hj hy=> ?_⟩;rcases Nat.lt_succ_iff_lt_or_eq.1 hj with hj|rfl
     ·exact hp j y hj hy
     ·rw[hx] at hy;cases hy;rw[hleft,hb]
    |false=>
     rw[hb] at p453;simp only[go_sem,i67_l1,h1',h3',h4',h5',hB,hC,hlt',hnx,hpx,hpi,Let.ps,hk1,s94,dP_bool p453];refine⟨by kernel_rfl,fin _ ?_ ?_ ?_ ?_ (fun y hy=>by rw[hx] at hy;cases hy;rw[hleft,hb])⟩;all_goals simp only[go_sem,h1',h3',h4',h5']
  ·have:k=o.length:=by omega
   subst this;have hno: ∀ x,o[o.length]? =some x→leftAt ls i x=false:=fun x hx=>by simp at hx
   rcases ho with ⟨rfl,h3⟩|⟨ho,g,h3,hC⟩
   ·rw[h3] at h3';simp only[go_sem,i67_l1,h3',h5',no_more];refine⟨by kernel_rfl,fin _ ?_ ?_ ?_ ?_ hno⟩;all_goals simp only[go_sem,h1',h3',h4',h5']
   ·rw[h3] at h3';simp only[go_sem,i67_l1,h3',h5',no_more];refine⟨by kernel_rfl,fin _ ?_ ?_ ?_ ?_ hno⟩;all_goals simp only[go_sem,h1',h3',h4',h5']
theorem insA_len(ls:List Let)(o:List Nat)(i:Nat):(insA ls o i).length=o.length+1:=by
 unfold insA;simp only[List.length_append,List.length_cons,List.length_take,List.length_drop];have:=(List.takeWhile_sublist (leftAt ls i) (l:=o)).length_le;omega
theorem outV_own{blk:Blk}{id g z len ty:Nat}{es:List (List PV)}(h:blk id=(g,some (.arr ty z es)))(hl:len=es.length):outV blk (.one (.hsl id g z 0 len))=some (.one (.own ty z es)):=by
 subst hl;simp only[outV,flatV,flatV1,outCs,outC,h,Nat.le_refl,and_self,if_true,List.take_length];rfl
def axisRC(o:List Nat):RC:=if o=[] then .p .nils else .own 3 1 (nP o)
theorem axis_r(f:Int)(ls:List Let)(hl:ls.length≤1000000):PEv S 67 [codeV f ls] (.one (axisRC (axisR ls))):=by
 refine pev1 c67 ?_;simp only[go_sem,i67];refine R_for (fun k env blk=>env 1= .one (.href 4288000000 1 0)∧blk 4288000000=(1,some (.var (codeC f ls)))∧env 4=vi k∧outI 4288576640 (axisK ls k) (env 3) blk) 0 ls.length (Nat.zero_le _) ?_ ?_
 ·simp only[go_sem];exact⟨rfl, .inl ⟨rfl,rfl⟩⟩
 ·rintro k env blk hk ⟨h1,hB,h4,ho⟩
  have hkl:=axisK_len ls k;by_cases hlt:k<ls.length
  ·obtain⟨l,hk1⟩:=at_lt hlt;have hi:=ps_of hk1;have hlt':((k:Int)<(ls.length:Int)):=by omega
   have w1:=wrap_succ (n:=k) (by omega);have hs:=axisK_succ ls k;unfold axStep at hs;rw[hk1] at hs;cases hp:(l.kind==1) with
   |false=>
    have hp2:(l.kind !=1)=true:=by simp[bne,hp]
    simp only[Let.isP,hp] at hs;have hs:axisK ls (k+1)=axisK ls k:=hs;simp only[go_sem,i67_l4,i67_r3,h1,hB,h4,hi,Let.ps,hlt',hp2,w1,hs,hlt];rcases ho with ⟨e,h3⟩|⟨ho,g,h3,hC⟩
    ·exact .inl ⟨e,by simp only[go_sem,h3]⟩
    ·exact .inr ⟨ho,g,by simp only[go_sem,h3],by simp only[go_sem,hC]⟩
   |true=>
    have hp2:(l.kind !=1)=false:=by simp[bne,hp]
    simp only[Let.isP,hp] at hs;have hs:axisK ls (k+1)=insA ls (axisK ls k) k:=hs;simp only[go_sem,i67_l4,h1,hB,h4,hi,Let.ps,hlt',hp2];refine axisRound (ls:=ls) (f:=f) (o:=axisK ls k) (i:=k) ?_ ?_ ?_ ?_ ?_ hk1 (fun x hx=>Nat.lt_trans (axisK_lt hx) hlt) (by omega) ?_
    ·rcases ho with ⟨e,h3⟩|⟨ho,g,h3,hC⟩
     ·exact .inl ⟨e,by simp only[go_sem,h3]⟩
     ·exact .inr ⟨ho,g,by simp only[go_sem,h3],by simp only[go_sem,hC]⟩
    ·simp only[go_sem,h1]
    ·simp only[go_sem,hB]
    ·simp only[go_sem,h4]
    ·rfl
    ·intro env' blk' q1 q2 q3 q4;simp only[go_sem,h1,h4,hB] at q1 q2 q3;simp only[go_sem,i67_r3,q1,q2,q3,w1,hs,hlt];rcases q4 with ⟨e,h3⟩|⟨ho,g,h3,hC⟩
     ·exact .inl ⟨e,by simp only[go_sem,h3]⟩
     ·exact .inr ⟨ho,g,by simp only[go_sem,h3],by simp only[go_sem,hC]⟩
  ·have:k=ls.length:=by omega
   subst this;have he:axisR ls=axisK ls ls.length:=rfl;rw[← he] at ho;rcases ho with ⟨e,h3⟩|⟨ho,g,h3,hC⟩
   ·simp only[go_sem,i67_l4,i67_r5,h1,hB,h3,h4,no_more,axisRC,e]
   ·simp only[go_sem,i67_l4,i67_r5,h1,hB,h3,h4,no_more,axisRC,ho];exact outV_own hC (by simp)
def turnD(ls:List Let)(ax:List Nat)(d:Nat):Nat:=
 if 2*ls.length≤d then
  if d%2=0 then alongD ls.length (ax.getD (((d - 2*ls.length)/2+1)%ax.length) 0) (!dn ls (ax.getD (((d - 2*ls.length)/2+1)%ax.length) 0))
  else alongD ls.length (ax.getD ((d - 2*ls.length)/2) 0) (dn ls (ax.getD ((d - 2*ls.length)/2) 0))
 else
  let fw:=d%2==0
  let v:=if fw then (d/2+1)%ls.length else d/2
  match ls[v]? with
  |none=>0
  |some l=>if l.kind==2 then alongD ls.length (otherR ls v) (fw==(l.over==(l.sign==1)))
   else if dn ls v==fw then 2*ls.length+2*ax.idxOf v else 2*ls.length+2*((ax.idxOf v+ax.length - 1)%ax.length)+1
theorem otherR_lt{ls:List Let}{i:Nat}(hi:i<ls.length):otherR ls i<ls.length:=by
 unfold otherR;cases h:(List.range ls.length).find? (otherP ls i) with
 |none=>exact hi
 |some k=>
  have:=List.mem_of_find?_eq_some h
  simpa using this
theorem alongD_lt{n i:Nat}{fw:Bool}(hi:i<n):alongD n i fw<2*n:=by
 unfold alongD;have:=Nat.mod_lt (i+n - 1) (show 0<n by omega);split<;>omega
theorem turnD_lt{ls:List Let}{ax:List Nat}{d:Nat}(hax: ∀ x∈ax,x<ls.length)(hp: ∀ v l,ls[v]? =some l→(l.kind==2)=false→v∈ax)(hd:d<2*ls.length+2*ax.length):turnD ls ax d<2*ls.length+2*ax.length:=by
 have hget: ∀ k,k<ax.length→ax.getD k 0<ls.length:=fun k hk=>by
  obtain⟨x,hx⟩:=at_lt hk;rw[List.getD_eq_getElem?_getD,hx];exact hax x (List.mem_of_getElem? hx)
 unfold turnD;by_cases h:2*ls.length≤d
 ·rw[if_pos h];have hm:=Nat.mod_lt ((d - 2*ls.length)/2+1) (show 0<ax.length by omega);by_cases h2:d%2=0
  ·rw[if_pos h2];exact Nat.lt_of_lt_of_le (alongD_lt (hget _ hm)) (by omega)
  ·rw[if_neg h2];exact Nat.lt_of_lt_of_le (alongD_lt (hget _ (by omega))) (by omega)
 ·rw[if_neg h];have hn:0<ls.length:=by omega
  have hv:(if (d%2==0)=true then (d/2+1)%ls.length else d/2)<ls.length:=by
   split
   ·exact Nat.mod_lt _ hn
   ·omega
  simp only;generalize (if (d%2==0)=true then (d/2+1)%ls.length else d/2)=v at hv;obtain⟨l,hl⟩:=at_lt hv;rw[hl];simp only;by_cases hk:(l.kind==2)=true
  ·rw[if_pos hk];exact Nat.lt_of_lt_of_le (alongD_lt (otherR_lt hv)) (by omega)
  ·rw[if_neg hk];have hin:=hp v l hl (by simpa using hk);have hix:ax.idxOf v<ax.length:=List.idxOf_lt_length_iff.2 hin;have hm:=Nat.mod_lt (ax.idxOf v+ax.length - 1) (show 0<ax.length by omega);split<;>omega
theorem idxOf_first{ax:List Nat}{v:Nat}: ∀ j,j<ax.idxOf v→ax[j]? ≠some v:=by
 induction ax with
 |nil=>intro j h;simp at h
 |cons a ax ih=>
  intro j h e;rw[List.idxOf_cons] at h;by_cases ha:a=v
  ·simp[ha] at h
  ·have hb:(a==v)=false:=by simpa using ha
   rw[hb] at h;cases j with
   |zero=>simp at e;exact ha e
   |succ j=>exact ih j (by simp at h;omega) (by simpa using e)
theorem idxOf_get{ax:List Nat}{v:Nat}(h:v∈ax):ax[ax.idxOf v]? =some v:=by
 have hl:ax.idxOf v<ax.length:=List.idxOf_lt_length_iff.2 h;rw[List.getElem?_eq_getElem hl,List.getElem_idxOf hl]
theorem turn_r(f:Int)(ls:List Let)(ax:List Nat)(d:Nat)(hl:ls.length≤1000000)(hal:ax.length≤1000000)(hax: ∀ x∈ax,x<ls.length)(hp: ∀ v l,ls[v]? =some l→(l.kind==2)=false→v∈ax)
  (hd:d<2*ls.length+2*ax.length):PEv S 68 [codeV f ls, .one (.p (natsP ax)),vi d] (ri (turnD ls ax d)):=by
 have m1:IntKind.i64.wrap (2*(ls.length:Int))=((2*ls.length:Nat):Int):=wrap_small (n:=2*ls.length) (by omega);unfold turnD;by_cases h:2*ls.length≤d
 ·rw[if_pos h];refine pev1 c68 ?_;have h':((2*ls.length:Nat):Int)≤(d:Int):=by omega
  have m2:IntKind.i64.wrap ((d:Int) - ((2*ls.length:Nat):Int))=((d - 2*ls.length:Nat):Int):=by
   have:((d:Int) - ((2*ls.length:Nat):Int))=((d - 2*ls.length:Nat):Int):=by omega
   rw[this];exact wrap_small (by omega)
  have m3:=wrap_small (n:=(d - 2*ls.length)/2) (by omega);have hm:=Nat.mod_lt ((d - 2*ls.length)/2+1) (show 0<ax.length by omega);have hm0: ¬ ((ax.length:Int)=0):=by omega
  by_cases h2:d%2=0
  ·rw[if_pos h2];have m4:=wrap_succ (n:=(d - 2*ls.length)/2) (by omega);have h2':(((d%2:Nat):Int)==0)=true:=by simp[h2]
   have m5:=tmod_nat ((d - 2*ls.length)/2+1) ax.length;obtain⟨v,hv⟩:=at_lt hm;have hv2:ax.getD (((d - 2*ls.length)/2+1)%ax.length) 0=v:=by rw[List.getD_eq_getElem?_getD,hv];rfl
   rw[hv2];have hvl:=hax v (List.mem_of_getElem? hv);have hnv:=nP_at hv;have pd:=down_r f ls v hl (by omega);have pa:=along_r f ls v (!dn ls v) hl hvl;simp only[go_sem,i68,m1,m2,m3,m4,m5,h',h2',hnv,hm0,tmod2,tdiv2,two_ne,s96,s95,dP_bool pd,dP_int pa];exact okd
  ·rw[if_neg h2];have h2':(((d%2:Nat):Int)==0)=false:=by simp;omega
   obtain⟨v,hv⟩:=at_lt (ls:=ax) (k:=(d - 2*ls.length)/2) (by omega);have hv2:ax.getD ((d - 2*ls.length)/2) 0=v:=by rw[List.getD_eq_getElem?_getD,hv];rfl
   rw[hv2];have hvl:=hax v (List.mem_of_getElem? hv);have hnv:=nP_at hv;have pd:=down_r f ls v hl (by omega);have pa:=along_r f ls v (dn ls v) hl hvl;simp only[go_sem,i68,m1,m2,m3,h',h2',hnv,tmod2,tdiv2,two_ne,s96,s95,dP_bool pd,dP_int pa];exact okd
 ·rw[if_neg h];have h': ¬ (((2*ls.length:Nat):Int)≤(d:Int)):=by omega
  have m3:=wrap_small (n:=d/2) (by omega);have hn0: ¬ ((ls.length:Int)=0):=by omega
  have hm0:=Nat.mod_lt (d/2+1) (show 0<ls.length by omega);have m4:=wrap_succ (n:=d/2) (by omega);have m5:=tmod_nat (d/2+1) ls.length;have body: ∀ v:Nat,v<ls.length→ ∀ fw:Bool,v=(if fw then (d/2+1)%ls.length else d/2)→(d%2==0)=fw→(((d%2:Nat):Int)==0)=fw→PEv S 68 [codeV f ls, .one (.p (natsP ax)),vi d] (ri ((match ls[v]? with
    |none=>0
    |some l=>if l.kind==2 then alongD ls.length (otherR ls v) (fw==(l.over==(l.sign==1)))
     else if dn ls v==fw then 2*ls.length+2*ax.idxOf v else 2*ls.length+2*((ax.idxOf v+ax.length - 1)%ax.length)+1:Nat):Int)):=by
   intro v hv fw hvf hfw hfw';obtain⟨l,hlv⟩:=at_lt hv;have hpv:=ps_of hlv;rw[hlv];simp only;refine pev1 c68 ?_;cases hk:(l.kind==2) with
   |true=>
    have po:=other_r f ls v hl hv;have pa:=along_r f ls (otherR ls v) (fw==(l.over==(l.sign==1))) hl (otherR_lt hv);cases fw with
    |true=>
     have hvf:v=(d/2+1)%ls.length:=hvf;rw[hvf] at hpv po pa ⊢;simp only[go_sem,i68,m1,m3,m4,m5,h',hfw',hpv,Let.ps,hn0,hk,tmod2,tdiv2,two_ne,s97,s95,dP_int po,dP_int pa];exact okd
    |false=>
     have hvf:v=d/2:=hvf;rw[hvf] at hpv po pa ⊢;simp only[go_sem,i68,m1,m3,h',hfw',hpv,Let.ps,hk,tmod2,tdiv2,two_ne,s97,s95,dP_int po,dP_int pa];exact okd
   |false=>
    have hin:=hp v l hlv hk;have hix:ax.idxOf v<ax.length:=List.idxOf_lt_length_iff.2 hin;have pat:=at_r ax v (ax.idxOf v) hal (idxOf_get hin) idxOf_first;have pd:=down_r f ls v hl (by omega);have hm0': ¬ ((ax.length:Int)=0):=by omega
    have hml:=Nat.mod_lt (ax.idxOf v+ax.length - 1) (show 0<ax.length by omega);have n1:=wrap_mul2 (a:=ax.idxOf v) (by omega);have n2:=wrap_add (a:=2*ls.length) (b:=2*ax.idxOf v) (by omega);have n3:=wrap_add (a:=ax.idxOf v) (b:=ax.length) (by omega);have n4:=wrap_pred (a:=ax.idxOf v+ax.length) (by omega) (by omega);have n5:=tmod_nat (ax.idxOf v+ax.length - 1) ax.length;have n6:=wrap_mul2 (a:=(ax.idxOf v+ax.length - 1)%ax.length) (by omega);have n7:=wrap_add (a:=2*ls.length) (b:=2*((ax.idxOf v+ax.length - 1)%ax.length)) (by omega)
    have n8:=wrap_succ (n:=2*ls.length+2*((ax.idxOf v+ax.length - 1)%ax.length)) (by omega);cases fw with
    |true=>
     have hvf:v=(d/2+1)%ls.length:=hvf;cases hdn:dn ls v with
     |true=>
      rw[hdn] at pd;subst hvf;simp only[go_sem,i68,m1,m3,m4,m5,h',hfw',hpv,Let.ps,hn0,hk,tmod2,tdiv2,two_ne,s98,s96,gP_int pat,gP_bool pd,n1,n2]
     |false=>
      rw[hdn] at pd;subst hvf;simp only[go_sem,i68,m1,m3,m4,m5,h',hfw',hpv,Let.ps,hn0,hk,tmod2,tdiv2,two_ne,s98,s96,gP_int pat,gP_bool pd,n3,n4,n5,n6,n7,n8,hm0']
    |false=>
     have hvf:v=d/2:=hvf;cases hdn:dn ls v with
     |true=>
      rw[hdn] at pd;subst hvf;simp only[go_sem,i68,m1,m3,h',hfw',hpv,Let.ps,hk,tmod2,tdiv2,two_ne,s98,s96,gP_int pat,gP_bool pd,n3,n4,n5,n6,n7,n8,hm0']
     |false=>
      rw[hdn] at pd;subst hvf;simp only[go_sem,i68,m1,m3,h',hfw',hpv,Let.ps,hk,tmod2,tdiv2,two_ne,s98,s96,gP_int pat,gP_bool pd,n1,n2]
  have hvl:(if (d%2==0)=true then (d/2+1)%ls.length else d/2)<ls.length:=by
   split
   ·exact hm0
   ·omega
  have:=body _ hvl (d%2==0) rfl rfl (by cases hq:(d%2==0)<;>simp at hq ⊢ <;>omega);exact this
abbrev bP(o:List Bool):List (List PV):=o.map fun b:Bool=>[PV.bool b]
theorem bP_at{o:List Bool}{k:Nat}{b:Bool}(h:o[k]? =some b):(bP o)[k]? =some [.bool b]:=by simp[h]
theorem bP_set(o:List Bool)(k:Nat)(b:Bool):(bP o).set k [.bool b]=bP (o.set k b):=by simp[List.map_set]
def walkF(next:Nat→Nat):Nat→Nat→List Bool→List Nat × List Bool
 |0,_,seen=>([],seen)
 |k+1,x,seen=>if seen.getD x true then ([],seen) else (x::(walkF next k (next x) (seen.set x true)).1,(walkF next k (next x) (seen.set x true)).2)
def unseen(s:List Bool):Nat:=s.countP (fun b=> !b)
theorem unseen_set{s:List Bool}{x:Nat}(h:s[x]? =some false):unseen (s.set x true)+1=unseen s:=by
 induction s generalizing x with
 |nil=>simp at h
 |cons b s ih=>
  cases x with
  |zero=>
   simp at h;subst h;simp[unseen]
  |succ x=>
   have:=ih (x:=x) (by simpa using h);unfold unseen at this ⊢;simp only[List.set_cons_succ,List.countP_cons];omega
theorem walkF_len(next:Nat→Nat): ∀ (k x:Nat) (s:List Bool),(walkF next k x s).2.length=s.length:=by
 intro k
 induction k with
 |zero=>intro x s;rfl
 |succ k ih=>
  intro x s;unfold walkF;split
  ·rfl
  ·simp[ih]
def walkStep(next:Nat→Nat)(st:List (List Nat) × List Bool)(d:Nat):List (List Nat) × List Bool:=
 if st.2.getD d true then st else (st.1++[(walkF next (st.2.length+1) d st.2).1],(walkF next (st.2.length+1) d st.2).2)
def walksK(next:Nat→Nat)(N k:Nat):List (List Nat) × List Bool:=(List.range k).foldl (walkStep next) ([],List.replicate N false)
def walksL(next:Nat→Nat)(N:Nat):List (List Nat):=(walksK next N N).1
theorem walksK_succ(next:Nat→Nat)(N k:Nat):walksK next N (k+1)=walkStep next (walksK next N k) k:=by
 unfold walksK;rw[List.range_succ,List.foldl_append];rfl
theorem walksK_len(next:Nat→Nat)(N:Nat): ∀ k,(walksK next N k).2.length=N:=by
 intro k
 induction k with
 |zero=>simp[walksK]
 |succ k ih=>
  rw[walksK_succ];unfold walkStep;split
  ·exact ih
  ·simp[walkF_len,ih]
theorem walksK_ne(next:Nat→Nat)(N k:Nat)(hk:1≤k)(hN:1≤N):(walksK next N k).1≠[]:=by
 induction k with
 |zero=>omega
 |succ k ih=>
  rw[walksK_succ];by_cases h0:k=0
  ·subst h0;have hz:(walksK next N 0)=([],List.replicate N false):=rfl;have hg:(List.replicate N false).getD 0 true=false:=by
    obtain⟨n,rfl⟩: ∃ n,N=n+1:=⟨N - 1,by omega⟩;rfl
   rw[hz];unfold walkStep;simp only[hg];simp
  ·have:=ih (by omega);unfold walkStep;split
   ·exact this
   ·simp
theorem walksK_olen(next:Nat→Nat)(N:Nat): ∀ k,(walksK next N k).1.length≤k:=by
 intro k
 induction k with
 |zero=>simp[walksK]
 |succ k ih=>
  rw[walksK_succ];unfold walkStep;split
  ·omega
  ·simp;exact ih
theorem unseen_le(s:List Bool):unseen s≤s.length:=List.countP_le_length
theorem walkIn{f:Int}{ls:List Let}{ax:List Nat}(hl:ls.length≤1000000)(hal:ax.length≤1000000)(hax: ∀ x∈ax,x<ls.length)(hp: ∀ v l,ls[v]? =some l→(l.kind==2)=false→v∈ax){Q:Post}:
  ∀ (fuel x:Nat) (sn:List Bool) (w:List Nat) (env:Env) (blk:Blk),env 1= .one (.href 2816000000 1 0)→blk 2816000000=(1,some (.var (codeC f ls)))→
   env 4= .one (.hsl 2816128064 1 1 0 ax.length)→blk 2816128064=(1,some (.arr 3 1 (nP ax)))→env 5= .one (.hsl 2816192512 1 1 0 sn.length)→blk 2816192512=(1,some (.arr 4 1 (bP sn)))→
   outI 2816832192 w (env 7) blk→env 8=vi x→x<sn.length→sn.length=2*ls.length+2*ax.length→unseen sn<fuel→w.length+unseen sn≤5000000→
   (∀ env' blk',env' 1=env 1→env' 3=env 3→env' 4=env 4→env' 5=env 5→env' 6=env 6→blk' 2816000000=blk 2816000000→blk' 2816128064=blk 2816128064→blk' 2816896192=blk 2816896192→blk' 2816896128=blk 2816896128→
    blk' 2816192512=(1,some (.arr 4 1 (bP (walkF (turnD ls ax) fuel x sn).2)))→outI 2816832192 (w++(walkF (turnD ls ax) fuel x sn).1) (env' 7) blk'→Q .normal env' blk')→
   W S .all (.loop i44_l1) (blockQ 2 Q) env blk:=by
 intro fuel
 induction fuel with
 |zero=>intro x sn w env blk _ _ _ _ _ _ _ _ _ _ h;omega
 |succ fuel ih=>
  intro x sn w env blk h1 hB h4 hA h5 hS ho h8 hx hsl hu hw hq;obtain⟨b,hb⟩:=at_lt hx;have hbp:=bP_at hb;have hgd:sn.getD x true=b:=by rw[List.getD_eq_getElem?_getD,hb];rfl
  unfold walkF at hq;rw[hgd] at hq;refine R_unroll ?_;cases b with
  |true=>
   simp only[go_sem,i44_l1,h5,hS,h8,hx,hbp];refine hq _ _ ?_ ?_ ?_ ?_ ?_ rfl rfl rfl rfl hS ?_;all_goals simp only[go_sem]
   exact ho
  |false=>
   have hun:=unseen_set hb;have pt:=turn_r f ls ax x hl hal hax hp (by omega);have hnl:=turnD_lt (d:=x) hax hp (by omega);have hset:=bP_set sn x true;have hroom: ∀ n:Nat,n≤5000001→n*8≤140737488355328:=fun n hn=>by omega
   have hta:List.take ax.length (nP ax)=nP ax:=List.take_of_length_le (by simp);rcases ho with ⟨rfl,h7⟩|⟨hwne,g,h7,hC⟩
   ·simp only[go_sem,i44_l1,h1,hB,h4,hA,h5,hS,h7,h8,hx,hbp,hset,hta,s68,gP_int pt,planAppend,szOK];refine ih (turnD ls ax x) (sn.set x true) [x] _ _ ?_ ?_ ?_ ?_ ?_ ?_ ?_ ?_ (by simpa [hsl] using hnl) (by simpa using hsl) (by omega) (by simp;omega) ?_
    ·simp only[go_sem,h1]
    ·simp only[go_sem,hB]
    ·simp only[go_sem,h4]
    ·simp only[go_sem,hA]
    ·simp only[go_sem,h5,List.length_set]
    ·simp only[go_sem]
    ·simp only[go_sem];exact .inr ⟨by simp,_,rfl,rfl⟩
    ·simp only[go_sem]
    ·intro env' blk' q1 q3 q4 q5 q6 b1 b2 b3 b4 b5 b6;refine hq env' blk' ?_ ?_ ?_ ?_ ?_ ?_ ?_ ?_ ?_ b5 ?_
     ·rw[q1];simp only[go_sem]
     ·rw[q3];simp only[go_sem]
     ·rw[q4];simp only[go_sem]
     ·rw[q5];simp only[go_sem]
     ·rw[q6];simp only[go_sem]
     ·rw[b1];simp only[go_sem]
     ·rw[b2];simp only[go_sem]
     ·rw[b3];simp only[go_sem]
     ·rw[b4];simp only[go_sem]
     ·simpa using b6
   ·have htw:List.take w.length (nP w)=nP w:=List.take_of_length_le (by simp);have hr1:=hroom (w.length+1) (by omega);simp only[go_sem,i44_l1,h1,hB,h4,hA,h5,hS,h7,h8,hx,hbp,hset,hta,s68,gP_int pt,hC,htw,hr1,planAppend,szOK];refine ih (turnD ls ax x) (sn.set x true) (w++[x]) _ _ ?_ ?_ ?_ ?_ ?_ ?_ ?_ ?_ (by simpa [hsl] using hnl) (by simpa using hsl) (by omega) (by simp;omega) ?_
    ·simp only[go_sem,h1]
    ·simp only[go_sem,hB]
    ·simp only[go_sem,h4]
    ·simp only[go_sem,hA]
    ·simp only[go_sem,h5,List.length_set]
    ·simp only[go_sem]
    ·simp only[go_sem];exact .inr ⟨by simp,g+1,by simp,by simp[upd_apply]⟩
    ·simp only[go_sem]
    ·intro env' blk' q1 q3 q4 q5 q6 b1 b2 b3 b4 b5 b6;refine hq env' blk' ?_ ?_ ?_ ?_ ?_ ?_ ?_ ?_ ?_ b5 ?_
     ·rw[q1];simp only[go_sem]
     ·rw[q3];simp only[go_sem]
     ·rw[q4];simp only[go_sem]
     ·rw[q5];simp only[go_sem]
     ·rw[q6];simp only[go_sem]
     ·rw[b1];simp only[go_sem]
     ·rw[b2];simp only[go_sem]
     ·rw[b3];simp only[go_sem]
     ·rw[b4];simp only[go_sem]
     ·simpa using b6
def outW(site:Nat)(o:List (List Nat))(v:V)(blk:Blk):Prop:=(o=[]∧v= .one (.p .nils))∨(o≠[]∧ ∃ g,v= .one (.hsl site g 1 0 o.length)∧blk site=(g,some (.arr 102 1 (o.map fun w=>[natsP w]))))
theorem walks_r(f:Int)(ls:List Let)(hl:ls.length≤1000000)(hne:axisR ls≠[])(hp: ∀ v l,ls[v]? =some l→(l.kind==2)=false→v∈axisR ls):
  PEv S 44 [codeV f ls] (.one (.own 102 1 ((walksL (turnD ls (axisR ls)) (2*ls.length+2*(axisR ls).length)).map fun w=>[natsP w]))):=by
 have pa:=axis_r f ls hl;have hax: ∀ x∈axisR ls,x<ls.length:=fun x h=>axisK_lt h
 have hal:(axisR ls).length≤ls.length:=axisK_len ls ls.length;unfold axisRC at pa;rw[if_neg hne] at pa;generalize axisR ls=ax at hne hp pa hax hal;have m1:=wrap_mul2 (a:=ls.length) (by omega);have m2:=wrap_mul2 (a:=ax.length) (by omega);have m3:=wrap_add (a:=2*ls.length) (b:=2*ax.length) (by omega);have hl2:(nP ax).length=ax.length:=by simp
 have hroom:2*ls.length+2*ax.length≤140737488355328:=by omega
 have hrep:List.replicate (2*ls.length+2*ax.length) [PV.bool false]=bP (List.replicate (2*ls.length+2*ax.length) false):=by simp
 refine pev1 c44 ?_;have hland: ∀ (blk:Blk),land blk [] 2816128064 ((RV.one (.own 3 1 (nP ax))).pureIf (S.lone 2816128064))=some (.one (.hsl 2816128064 ((blk 2816128064).1+1) 1 0 ax.length),[(2816128064,((blk 2816128064).1+1,some (.arr 3 1 (nP ax))))]):=by
  intro blk;have hlo:S.lone 2816128064=false:=by kernel_rfl
  rw[hlo];simp only[RV.pureIf,land,true_or,if_true,inV,flatR,flatR1,inCs,inC,reshV,reshV1,List.length_map,List.append_nil]
 simp only[go_sem,i44,s67,gP_land pa (hland _),m1,m2,m3,hroom,hrep];generalize hN:2*ls.length+2*ax.length=N at hroom;refine R_for (fun k env blk=>env 1= .one (.href 2816000000 1 0)∧blk 2816000000=(1,some (.var (codeC f ls)))∧env 4= .one (.hsl 2816128064 1 1 0 ax.length)∧blk 2816128064=(1,some (.arr 3 1 (nP ax)))∧
   env 5= .one (.hsl 2816192512 1 1 0 N)∧blk 2816192512=(1,some (.arr 4 1 (bP (walksK (turnD ls ax) N k).2)))∧env 6=vi k∧outW 2816896192 (walksK (turnD ls ax) N k).1 (env 3) blk) 0 N (Nat.zero_le _) ?_ ?_
 ·simp only[go_sem];exact⟨rfl,rfl, .inl ⟨rfl,rfl⟩⟩
 ·rintro k env blk hk ⟨h1,hB,h4,hA,h5,hS,h6,ho⟩
  have hlen:=walksK_len (turnD ls ax) N k;have holen:=walksK_olen (turnD ls ax) N k;by_cases hlt:k<N
  ·have hlt':((k:Int)<(N:Int)):=by omega
   have w1:=wrap_succ (n:=k) (by omega);have hs:=walksK_succ (turnD ls ax) N k;generalize hst:walksK (turnD ls ax) N k=st at hlen hs ho hS holen;obtain⟨out,sn⟩:=st;simp only at hlen ho hS holen;obtain⟨b,hb⟩:=at_lt (ls:=sn) (k:=k) (by omega);have hbp:=bP_at hb;unfold walkStep at hs;have hgd:sn.getD k true=b:=by rw[List.getD_eq_getElem?_getD,hb];rfl
   simp only[hgd] at hs;cases b with
   |true=>
    have hs:walksK (turnD ls ax) N (k+1)=(out,sn):=hs;simp only[go_sem,i44_l4,i44_r3,h1,hB,h4,hA,h5,hS,h6,hlt,hlt',hbp,w1,hs];exact ho
   |false=>
    have hs:walksK (turnD ls ax) N (k+1)=(out++[(walkF (turnD ls ax) (N+1) k sn).1],(walkF (turnD ls ax) (N+1) k sn).2):=by rw[hs,hlen];rfl
    have hul:=unseen_le sn;simp only[go_sem,i44_l4,h5,hS,h6,hlt,hlt',hbp];refine walkIn (f:=f) hl (by omega) hax hp (N+1) k sn [] _ _ ?_ ?_ ?_ ?_ ?_ ?_ ?_ ?_ (by omega) (by omega) (by omega) (by simp;omega) ?_
    ·simp only[go_sem,h1]
    ·simp only[go_sem,hB]
    ·simp only[go_sem,h4]
    ·simp only[go_sem,hA]
    ·simp only[go_sem,h5,hlen]
    ·simp only[go_sem,hS]
    ·exact .inl ⟨rfl,by simp only[go_sem]⟩
    ·simp only[go_sem]
    ·intro env' blk' q1 q3 q4 q5 q6 b1 b2 b3 b4 b5 b6;simp only[go_sem,h1,h4,h5,h6] at q1 q3 q4 q5 q6;simp only[go_sem,hB,hA] at b1 b2 b3 b4;have hwne:(walkF (turnD ls ax) (N+1) k sn).1≠[]:=by
      unfold walkF;rw[hgd];simp
     rw[List.nil_append] at b6;rcases b6 with ⟨e,_⟩|⟨_,g,h7,hC⟩
     ·exact(hwne e).elim
     ·generalize walkF (turnD ls ax) (N+1) k sn=wf at hs hwne b5 h7 hC;obtain⟨w,sn'⟩:=wf;simp only at hs hwne b5 h7 hC;have htw:List.take w.length (nP w)=nP w:=List.take_of_length_le (by simp);rcases ho with ⟨rfl,h3⟩|⟨ho,go,h3,hO⟩
      ·rw[h3] at q3;simp only[go_sem,i44_r2,i44_r3,q1,q3,q4,q5,q6,b1,b2,b5,h7,hC,htw,w1,hs,hlt,frz1,planAppend,szOK];exact .inr ⟨by simp,_,rfl,by simp[upd_apply]⟩
      ·rw[h3] at q3;have hto:List.take out.length (out.map fun w=>[natsP w])=out.map fun w=>[natsP w]:=List.take_of_length_le (by simp)
       have hr1:(out.length+1)*24≤140737488355328:=by omega
       simp only[go_sem,i44_r2,i44_r3,q1,q3,q4,q5,q6,b1,b2,b3,b5,h7,hC,hO,htw,hto,hr1,w1,hs,hlt,frz1,List.mem_cons,planAppend,szOK];exact .inr ⟨by simp,go+1,by simp,by simp[upd_apply]⟩
  ·have:k=N:=by omega
   subst this;have he:walksL (turnD ls ax) k=(walksK (turnD ls ax) k k).1:=rfl;rw[← he] at ho;rcases ho with ⟨e,h3⟩|⟨ho,g,h3,hC⟩
   ·exact(walksK_ne (turnD ls ax) k k (by have:=List.length_pos_iff.2 hne;omega) (by have:=List.length_pos_iff.2 hne;omega) e).elim
   ·simp only[go_sem,i44_l4,i44_r5,h3,h5,h6,no_more];exact outV_own hC (by simp)
end Go.Abs
