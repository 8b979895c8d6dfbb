/-
  A part of a proof.
-/
import Derived.Test.YtchbcakfkniimaaGreatDoorVa
import Derived.Test.YtchbcakfkniimaaGreatDoorWx
import Derived.Test.YtchbcakfkniimaaGreatDoorWy
set_option linter.unusedSimpArgs false
set_option linter.unusedVariables false
set_option linter.unusedSectionVars false
set_option maxRecDepth 100000
set_option maxHeartbeats 16000000
namespace Go.Abs
section
variable{F:Nat}{ls:List Let}
structure Swo {α:Type} (lt:α→α→Bool):Prop where
 asym: ∀ a b,lt a b=true→lt b a=false
 ntrans: ∀ a b c,lt b a=false→lt c b=false→lt c a=false
def Srt{α:Type}(lt:α→α→Bool)(ws:List α)(a b:Nat):Prop:= ∀ p q x y,a≤p→p<q→q<b→ws[p]? =some x→ws[q]? =some y→lt y x=false
structure InsI {α:Type} (lt:α→α→Bool) (zs ws:List α) (x:α) (a i j:Nat):Prop where
 perm:ws.Perm zs
 le:a≤j∧j≤i∧i<ws.length
 at':ws[j]? =some x
 up: ∀ p y,j<p→p≤i→ws[p]? =some y→lt x y=true
 so: ∀ p q y z,a≤p→p<q→q≤i→p≠j→q≠j→ws[p]? =some y→ws[q]? =some z→lt z y=false
 out: ∀ p,p<a∨i<p→ws[p]? =zs[p]?
theorem InsI.start{α:Type}{lt:α→α→Bool}{zs:List α}{x:α}{a i:Nat}(ha:a≤i)(hi:zs[i]? =some x)(hs:Srt lt zs a i):InsI lt zs zs x a i i:=
 ⟨.refl _,⟨ha,Nat.le_refl _,(List.getElem?_eq_some_iff.1 hi).1⟩,hi,fun p y h1 h2=>by omega,fun p q y z h0 h1 h2 h3 h4=>hs p q y z h0 h1 (by omega),fun _ _=>rfl⟩
theorem swap_perm{α:Type}{ws:List α}{i j:Nat}{x y:α}(hi:ws[i]? =some x)(hj:ws[j]? =some y):((ws.set i y).set j x).Perm ws:=by
 obtain⟨h1,e1⟩:=List.getElem?_eq_some_iff.1 hi;obtain⟨h2,e2⟩:=List.getElem?_eq_some_iff.1 hj;have:=List.set_set_perm h1 h2;rwa[e1,e2] at this
theorem InsI.step{α:Type}{lt:α→α→Bool}{zs ws:List α}{x y:α}{a i j:Nat}(o:Swo lt)(h:InsI lt zs ws x a i (j+1))(hj:a≤j)(hy:ws[j]? =some y)(hlt:lt x y=true):
  InsI lt zs ((ws.set (j+1) y).set j x) x a i j:=by
 obtain⟨hp,⟨_,hle,hl⟩,hat,hup,hso,hout⟩:=h;have hj1:j<ws.length:=(List.getElem?_eq_some_iff.1 hy).1;have get: ∀ p,((ws.set (j+1) y).set j x)[p]? =if p=j then some x else if p=j+1 then some y else ws[p]? :=fun p=>by
  rw[List.getElem?_set,List.getElem?_set,List.length_set];by_cases e1:j=p
  ·subst e1;simp[hj1]
  ·by_cases e2:j+1=p
   ·subst e2;have: ¬ (j+1=j):=by omega
    rw[if_neg e1,if_pos rfl,if_pos (by omega),if_neg this,if_pos rfl]
   ·rw[if_neg e1,if_neg e2,if_neg (fun h=>e1 h.symm),if_neg (fun h=>e2 h.symm)]
 refine⟨(swap_perm hat hy).trans hp,⟨hj,by omega,by simp;omega⟩,by rw[get];simp,?_,?_,?_⟩
 ·intro p z h1 h2 hz;rw[get,if_neg (by omega)] at hz;by_cases e:p=j+1
  ·rw[if_pos e] at hz;cases hz;exact hlt
  ·rw[if_neg e] at hz;exact hup p z (by omega) h2 hz
 ·intro p q u v h0 h1 h2 h3 h4 hu hv;rw[get,if_neg h3] at hu;rw[get,if_neg h4] at hv;by_cases e:p=j+1
  ·rw[if_pos e] at hu;cases hu;rw[if_neg (by omega)] at hv;exact hso j q _ _ hj (by omega) h2 (by omega) (by omega) hy hv
  ·rw[if_neg e] at hu;by_cases e2:q=j+1
   ·rw[if_pos e2] at hv;cases hv;exact hso p j _ _ h0 (by omega) (by omega) e (by omega) hu hy
   ·rw[if_neg e2] at hv;exact hso p q _ _ h0 h1 h2 e e2 hu hv
 ·intro p hpp;rw[get,if_neg (by omega),if_neg (by omega),hout p hpp]
theorem InsI.stop{α:Type}{lt:α→α→Bool}{zs ws:List α}{x:α}{a i j:Nat}(o:Swo lt)(h:InsI lt zs ws x a i j)(hj:j=a∨ ∃ y,a<j∧ws[j - 1]? =some y∧lt x y=false):Srt lt ws a (i+1):=by
 obtain⟨hp,⟨hja,hle,hl⟩,hat,hup,hso,hout⟩:=h;intro p q u v h0 h1 h2 hu hv;by_cases e:q=j
 ·subst e;rw[hat] at hv;cases hv;rcases hj with hj|⟨y,hya,hy,hxy⟩
  ·omega
  ·by_cases e3:p=q - 1
   ·subst e3;rw[hy] at hu;cases hu;exact hxy
   ·exact o.ntrans _ _ _ (hso p (q - 1) _ _ h0 (by omega) (by omega) (by omega) (by omega) hu hy) hxy
 ·by_cases e2:p=j
  ·subst e2;rw[hat] at hu;cases hu;exact o.asym _ _ (hup q v h1 (by omega) hv)
  ·exact hso p q u v h0 h1 (by omega) e2 e hu hv
theorem Srt.mono{α:Type}{lt:α→α→Bool}{ws:List α}{a b c:Nat}(h:Srt lt ws a c)(hb:b≤c∨ws.length≤c):Srt lt ws a b:=fun p q x y h0 h1 h2 hx hy=>h p q x y h0 h1 (by
 rcases hb with hb|hb
 ·omega
 ·have:=(List.getElem?_eq_some_iff.1 hy).1;omega) hx hy
abbrev ltI(a b:Int):Bool:=decide (a<b)
theorem swoI:Swo ltI:=⟨fun a b h=>by simp at*;omega,fun a b c h k=>by simp at*;omega⟩
theorem nan_p(a:Int):PEv S 181 [vi a] (rb false):=by
 refine pev1 c181 ?_;have h:(a !=a)=false:=by simp
 simp only[go_sem,i181,h]
theorem less_i(a b:Int):PEv S 160 [vi a,vi b] (rb (ltI a b)):=by
 have pn:=nan_p a;refine pev1 c160 ?_;simp only[go_sem,i160,s181,gP_bool pn,ltI]
theorem bits_p(n:Nat)(h:n≤1000000): ∃ k:Int,PEv S 125 [.one (.p (.int .u64 n))] (ri k):=by
 refine⟨((Lib.bitLen n:Nat):Int),⟨1,?_⟩⟩;have hp:S.prim 125 [.one (.p (.int .u64 (n:Int)))]=some (some (ri ((Lib.bitLen n:Nat):Int))):=by
  show some (primBits [.one (.p (.int .u64 (n:Int)))])=_;simp only[primBits];rw[if_pos ⟨by omega,by omega⟩];rfl
 rw[callP,hp]
theorem iP_set(o:List Int)(k:Nat)(v:Int):(iP o).set k [.int .i64 v]=iP (o.set k v):=by simp[List.map_set]
theorem iP_len(o:List Int):(iP o).length=o.length:=List.length_map _
def soPost(lt:Int→Int→Bool)(id g ty:Nat)(es:List Int)(blk:Blk)(v:V)(blk':Blk):Prop:=v= .tup []∧(∃ ws:List Int,blk' id=(g,some (.arr ty 1 (iP ws)))∧ws.Perm es∧Srt lt ws 0 ws.length)∧Kept (· =id) blk blk'
theorem insI_s{al:Al}{blk:Blk}{id g ty:Nat}{es:List Int}(o:al.ok id=true)(hl:es.length≤1000000)(hC:blk id=(g,some (.arr ty 1 (iP es)))):
  ∃ v blk',SEv S 154 [.one (.hsl id g 1 0 es.length),vi 0,vi es.length] al blk v blk'∧soPost ltI id g ty es blk v blk':=by
 refine SEv_fn c154 (Nat.le_of_ble_eq_true rfl) ?_;have w0:IntKind.i64.wrap (0+1)=((0+1:Nat):Int):=by decide
 simp only[go_sem,i154];refine R_for (fun k env blk'=>env 0= .one (.hsl id g 1 0 es.length)∧env 1=vi 0∧env 2=vi es.length∧env 6=vi ((k+1:Nat):Int)∧ ∃ zs:List Int,blk' id=(g,some (.arr ty 1 (iP zs)))∧zs.Perm es∧Srt ltI zs 0 (k+1)∧Kept (· =id) blk blk') 0 es.length (Nat.zero_le _) ?_ ?_
 ·simp only[go_sem];exact⟨rfl,es,hC, .refl _,fun p q x y _ h1 h2=>by omega,Kept.refl _ _⟩
 ·rintro k env blk1 hk ⟨h0,h1,h2,h6,zs,hZ,hp,hs,hkp⟩
  have hzl:=hp.length_eq;by_cases hlt:k+1<es.length
  ·have hlt':((k+1:Nat):Int)<(es.length:Int):=by omega
   obtain⟨x,hx⟩:=at_lt (ls:=zs) (k:=k+1) (by omega);simp only[go_sem,i154_l3,h2,h6,hlt'];refine R_for (fun q env blk'=>env 0= .one (.hsl id g 1 0 es.length)∧env 1=vi 0∧env 2=vi es.length∧env 6=vi ((k+1:Nat):Int)∧env 7=vi ((k+1 - q:Nat):Int)∧ ∃ ws:List Int,blk' id=(g,some (.arr ty 1 (iP ws)))∧InsI ltI zs ws x 0 (k+1) (k+1 - q)∧Kept (· =id) blk blk') 0 (k+1) (Nat.zero_le _) ?_ ?_
   ·simp only[go_sem,h0,h1,h2,h6];exact⟨zs,hZ,InsI.start (Nat.zero_le _) hx hs,hkp⟩
   ·rintro q env2 blk2 hq ⟨k0,k1,k2,k6,k7,ws,hW,hI,hkp2⟩
    have hwl:ws.length=es.length:=hI.perm.length_eq.trans hzl;have wk:IntKind.i64.wrap (((k+1:Nat):Int)+1)=((k+1+1:Nat):Int):=wrap_succ (n:=k+1) (by omega);by_cases hj0:k+1 - q=0
    ·have e7: ¬ ((0:Int)<((k+1 - q:Nat):Int)):=by omega
     simp only[go_sem,i154_l1,i154_r2,k0,k1,k2,k6,k7,e7,wk];refine⟨okd,by omega,ws,hW,hI.perm.trans hp,hI.stop swoI (.inl hj0),hkp2⟩
    ·obtain⟨j,hj⟩: ∃ j,k+1 - q=j+1:=⟨k - q,by omega⟩;have e7:((0:Int)<((j+1:Nat):Int)):=by omega
     obtain⟨y,hy⟩:=at_lt (ls:=ws) (k:=j) (by omega);rw[hj] at hI k7;have wj:IntKind.i64.wrap (((j+1:Nat):Int) - 1)=(j:Int):=by rw[wrap_m1 (by omega)];omega
     have hxa:=iP_at hI.at';have hya:=iP_at hy;have j1:j+1<es.length:=by have:=hI.le;omega
     have j2:j<es.length:=by omega
     have pl:=less_i x y;cases hxy:ltI x y with
     |false=>
      rw[hxy] at pl;simp only[go_sem,i154_l1,i154_r2,k0,k1,k2,k6,k7,e7,wk,wj,hW,hxa,hya,j1,j2,o,s160,dP_pA pl];refine⟨okd,by omega,ws,rfl,hI.perm.trans hp,hI.stop swoI (.inr ⟨y,by omega,hy,hxy⟩),hkp2⟩
     |true=>
      rw[hxy] at pl;have hI2:=hI.step swoI (Nat.zero_le _) hy hxy;have hjj: ¬ (j+1=j):=by omega
      have l1:j+1<ws.length:=by omega
      have l2:j<ws.length:=by omega
      simp only[go_sem,i154_l1,i154_r2,k0,k1,k2,k6,k7,e7,wj,hW,hxa,hya,j1,j2,l1,hjj,o,s160,dP_pA pl,List.getElem?_set,iP_len];have hq2:k+1 - (q+1)=j:=by omega
      refine⟨okd,okd,by omega,by rw[hq2],(ws.set (j+1) y).set j x,by rw[iP_set,iP_set],by rw[hq2];exact hI2,(hkp2.upd rfl _).upd rfl _⟩
  ·have hlt': ¬ (((k+1:Nat):Int)<(es.length:Int)):=by omega
   simp only[go_sem,i154_l3,h2,h6,hlt'];exact⟨rfl,⟨zs,hZ,hp,hs.mono (.inl (by omega))⟩,hkp⟩
theorem gP_soA{Q:Post}{al:Al}{env:Env}{blk:Blk}{os:List IOper}{d:Option Nat}{f id g ty z o n:Nat}{vs:List V}{es:List (List PV)}{P:V→Blk→Prop}(hC:blk id=(g,some (.arr ty z es)))(hvs:(vs.map (reachV blk)).flatten=[])(hh:al= .all∨al.ok id=true∧(S.sites f).all al.fs.contains=true)
  (h: ∀ al',al'.ok id=true→al'.fs=S.sites f→ ∃ v blk',SEv S f (.one (.hsl id g z o n)::vs) al' blk v blk'∧P v blk')
  (hK: ∀ v blk',P v blk'→RN S al os Q (put env d v) blk'):gP S al (.sc f (.one (.hsl id g z o n)::vs)) d os Q env blk:=by
 have hr:((V.one (.hsl id g z o n)::vs).map (reachV blk)).flatten=[id]:=by
  rw[List.map_cons,List.flatten_cons,hvs,reach_hsl hC];rfl
 refine gP_sc2 (P:=P) ?_ (h _ (allow_okI (by rw[hr];simp)) rfl) hK;rcases hh with rfl|⟨h1,h2⟩
 ·rfl
 ·refine holds_of ?_ h2;show al.oks ((V.one (.hsl id g z o n)::vs).map (reachV blk)).flatten=true;rw[hr];simp[Al.oks,h1]
theorem pdqI_s{al:Al}{blk:Blk}{id g ty:Nat}{es:List Int}(o:al.ok id=true)(f1:al.fs.contains 154=true)(hl:es.length≤12)(hC:blk id=(g,some (.arr ty 1 (iP es))))(lim:Int):
  ∃ v blk',SEv S 135 [.one (.hsl id g 1 0 es.length),vi 0,vi es.length,vi lim] al blk v blk'∧soPost ltI id g ty es blk v blk':=by
 refine SEv_fn c135 (Nat.le_of_ble_eq_true rfl) ?_;have w0:IntKind.i64.wrap ((es.length:Int) - 0)=(es.length:Int):=by rw[Int.sub_zero];exact wrapI (by omega) (by omega)
 have h12:(es.length:Int)≤12:=by omega
 simp only[go_sem,i135];refine R_unroll ?_;simp only[go_sem,i135_l1,w0,h12,s154];refine gP_soA hC (by rfl) (.inr ⟨o,by rw[show S.sites 154=[154] by kernel_rfl];simp only[List.all_cons,List.all_nil,f1,Bool.and_self]⟩) (P:=soPost ltI id g ty es blk) (fun al' h1 _=>insI_s h1 (by omega) hC) fun v blk' hP=> ?_
 obtain⟨rfl,h2⟩:=hP;simp only[go_sem];exact⟨rfl,h2⟩
theorem sortI_s{al:Al}{blk:Blk}{id g ty:Nat}{es:List Int}(o:al.ok id=true)(f1:(S.sites 135).all al.fs.contains=true)(hl:es.length≤12)(hC:blk id=(g,some (.arr ty 1 (iP es)))):
  ∃ v blk',SEv S 117 [.one (.hsl id g 1 0 es.length)] al blk v blk'∧soPost ltI id g ty es blk v blk':=by
 obtain⟨k,pb⟩:=bits_p es.length (by omega);have wu:IntKind.u64.wrap (es.length:Int)=(es.length:Int):=by
  have e:IntKind.u64.wrap (es.length:Int)=(es.length:Int)%18446744073709551616:=by
   unfold IntKind.wrap;rfl
  rw[e];omega
 refine SEv_fn c117 (Nat.le_of_ble_eq_true rfl) ?_;have sbl:S.shared 125=false:=by kernel_rfl
 simp only[go_sem,i117,wu,sbl,gP_pA pb,s135];refine gP_soA hC (by rfl) (.inr ⟨o,f1⟩) (P:=soPost ltI id g ty es blk) (fun al' h1 h2=>pdqI_s h1 (by rw[h2];kernel_rfl) hl hC k) fun v blk' hP=> ?_
 obtain⟨rfl,h2⟩:=hP;simp only[go_sem];exact⟨rfl,h2⟩
def cpK(ws:List Int):Nat→List Int
 |0=>[]
 |k+1=>match ws[k]? with
  |some x=>if 0<k∧ws[k - 1]? =some x then cpK ws k else cpK ws k++[x]
  |none=>cpK ws k
theorem cpK_len(ws:List Int): ∀ k,(cpK ws k).length≤k:=by
 intro k
 induction k with
 |zero=>exact Nat.le_refl _
 |succ k ih=>
  unfold cpK;split
  ·split
   ·omega
   ·simp;omega
  ·omega
theorem cpK_same{ws:List Int}{k:Nat}{x:Int}(h:ws[k+1]? =some x)(hp:ws[k]? =some x):cpK ws (k+2)=cpK ws (k+1):=by
 conv=>lhs;unfold cpK
 rw[h];simp[hp]
theorem cpK_new{ws:List Int}{k:Nat}{x y:Int}(h:ws[k+1]? =some x)(hp:ws[k]? =some y)(hn: ¬ x=y):cpK ws (k+2)=cpK ws (k+1)++[x]:=by
 conv=>lhs;unfold cpK
 rw[h];have: ¬ y=x:=fun e=>hn e.symm
 simp[hp,this]
theorem cpK_one{ws:List Int}{x:Int}(h:ws[0]? =some x):cpK ws 1=[x]:=by simp[cpK,h]
def noDup(ws:List Int)(k:Nat):Prop:= ∀ i x y,i+1<k→ws[i]? =some x→ws[i+1]? =some y→ ¬ y=x
theorem cpK_noDup{ws:List Int}: ∀ k,k≤ws.length→noDup ws k→cpK ws k=ws.take k:=by
 intro k
 induction k with
 |zero=>intro _ _;rfl
 |succ k ih=>
  intro hk h;obtain⟨x,hx⟩:=at_lt (ls:=ws) (k:=k) (by omega);have e:=ih (by omega) fun i x y h1=>h i x y (by omega)
  have ht:ws.take (k+1)=ws.take k++[x]:=by rw[List.take_add_one,hx];rfl
  rcases k with _|k
  ·rw[cpK_one hx,ht];rfl
  ·obtain⟨y,hy⟩:=at_lt (ls:=ws) (k:=k) (by omega);rw[cpK_new hx hy (h k y x (by omega) hy hx),e,ht]
structure cpI (ws cs:List Int) (k q:Nat):Prop where
 len:cs.length=ws.length
 kl:k=(cpK ws q).length
 pre:cs.take k=cpK ws q
 out: ∀ p,q - 1≤p→cs[p]? =ws[p]?
 kq:k<q
theorem cpI.step{ws cs:List Int}{k q:Nat}{x y:Int}(h:cpI ws cs k (q+1))(hx:ws[q+1]? =some x)(hy:ws[q]? =some y)(hn: ¬ x=y):cpI ws (cs.set k x) (k+1) (q+2):=by
 obtain⟨h1,h2,h3,h4,h5⟩:=h;have hl:=cpK_len ws (q+1);have hq:q+1<ws.length:=(List.getElem?_eq_some_iff.1 hx).1;refine⟨by simpa using h1,by rw[cpK_new hx hy hn,List.length_append,← h2];rfl,?_,fun p hp=> ?_,by omega⟩
 ·rw[cpK_new hx hy hn,List.take_add_one,List.getElem?_set];have:k<cs.length:=by omega
  rw[if_pos rfl,if_pos this,List.take_set_of_le (Nat.le_refl _),h3];rfl
 ·rw[List.getElem?_set,if_neg (by omega)];exact h4 p (by omega)
theorem cpI.skip{ws cs:List Int}{k q:Nat}{x:Int}(h:cpI ws cs k (q+1))(hx:ws[q+1]? =some x)(hy:ws[q]? =some x):cpI ws cs k (q+2):=by
 obtain⟨h1,h2,h3,h4,h5⟩:=h;exact⟨h1,by rw[cpK_same hx hy];exact h2,by rw[cpK_same hx hy];exact h3,fun p hp=>h4 p (by omega),by omega⟩
theorem cpI.start{ws:List Int}{k:Nat}{x:Int}(hk:k+1<ws.length)(h:noDup ws (k+1))(hx:ws[k+1]? =some x)(hy:ws[k]? =some x):cpI ws ws (k+1) (k+2):=by
 have e:=cpK_noDup (k+1) (by omega) h;have e2:cpK ws (k+2)=ws.take (k+1):=(cpK_same hx hy).trans e;exact⟨rfl,by rw[e2];simp;omega,by rw[e2],fun _ _=>rfl,by omega⟩
def coPost(id g ty:Nat)(ws:List Int)(blk:Blk)(v:V)(blk':Blk):Prop:=v= .one (.hsl id g 1 0 (cpK ws ws.length).length)∧(∃ cs:List Int,blk' id=(g,some (.arr ty 1 (iP cs)))∧cs.length=ws.length∧cs.take (cpK ws ws.length).length=cpK ws ws.length)∧Kept (· =id) blk blk'
theorem iP_splice{cs:List Int}{k:Nat}(hk:k≤cs.length):List.take k (iP cs)++List.replicate (cs.length - k) [PV.int .i64 0]++List.drop (k+(cs.length - k)) (iP cs)=iP (cs.take k++List.replicate (cs.length - k) 0):=by
 rw[List.drop_of_length_le (by simp;omega),List.append_nil];simp only[iP,List.map_append,List.map_replicate,List.map_take]
theorem compact_s{al:Al}{blk:Blk}{id g ty:Nat}{ws:List Int}(o:al.ok id=true)(hl:ws.length≤1000000)(hC:blk id=(g,some (.arr ty 1 (iP ws)))):
  ∃ v blk',SEv S 118 [.one (.hsl id g 1 0 ws.length)] al blk v blk'∧coPost id g ty ws blk v blk':=by
 refine SEv_fn c118 (Nat.le_of_ble_eq_true rfl) ?_;by_cases h2:ws.length<2
 ·have h2':((ws.length:Int)<2):=by omega
  have hnd:noDup ws ws.length:=fun i x y h=>by omega
  have e:=cpK_noDup ws.length (Nat.le_refl _) hnd;rw[List.take_length] at e;simp only[go_sem,i118,h2'];exact⟨by rw[e],⟨ws,hC,rfl,by rw[e,List.take_length]⟩,Kept.refl _ _⟩
 have h2': ¬ ((ws.length:Int)<2):=by omega
 simp only[go_sem,i118,h2'];refine R_for (fun q env blk'=>env 0= .one (.hsl id g 1 0 ws.length)∧env 3=vi ((q+1:Nat):Int)∧noDup ws (q+1)∧blk'=blk) 0 ws.length (Nat.zero_le _) ?_ ?_
 ·simp only[go_sem];exact⟨rfl,fun i x y h=>by omega⟩
 ·rintro q env blk1 hq ⟨h0,h3,hnd,rfl⟩
  by_cases hlt:q+1<ws.length
  ·have hlt':(((q+1:Nat):Int)<(ws.length:Int)):=by omega
   obtain⟨x,hx⟩:=at_lt (ls:=ws) (k:=q+1) hlt;obtain⟨y,hy⟩:=at_lt (ls:=ws) (k:=q) (by omega);have hxa:=iP_at hx;have hya:=iP_at hy;have wj:IntKind.i64.wrap (((q+1:Nat):Int) - 1)=(q:Int):=by rw[wrap_m1 (by omega)];omega
   have wk:=wrap_succ (n:=q+1) (by omega);have q1:q<ws.length:=by omega
   have q2:q+1≤ws.length:=by omega
   by_cases e:x=y
   ·subst e;simp only[go_sem,i118_l4,h0,h3,hlt,hlt',hxa,hya,wj,q1,q2,hC,o];refine⟨okd,?_⟩;refine R_for (fun r env blk'=>env 0= .one (.hsl id g 1 0 ws.length)∧env 4= .one (.hsl id g 1 (q+1) (ws.length - (q+1)))∧env 5=vi ((r+1:Nat):Int)∧ ∃ (cs:List Int) (k:Nat),env 3=vi (k:Nat)∧blk' id=(g,some (.arr ty 1 (iP cs)))∧cpI ws cs k (q+2+r)∧q+2+r≤ws.length∧Kept (· =id) blk1 blk') 0 ws.length (Nat.zero_le _) ?_ ?_
    ·simp only[go_sem,h0];exact⟨rfl,ws,q+1,h3,hC,cpI.start hlt hnd hx hy,by omega,Kept.refl _ _⟩
    ·rintro r env2 blk2 hr ⟨k0,k4,k5,cs,k,k3,hB,hI,hqr,hkp⟩
     have hcl:=hI.len;have hkl:=hI.kl;have hkle:=cpK_len ws (q+2+r);have hkq:=hI.kq;have hI':cpI ws cs k (q+1+r+1):=by rw[show q+1+r+1=q+2+r by omega];exact hI
     by_cases hlt2:r+1<ws.length - (q+1)
     ·have hlt2':(((r+1:Nat):Int)<((ws.length - (q+1):Nat):Int)):=by omega
      obtain⟨u,hu⟩:=at_lt (ls:=ws) (k:=q+1+(r+1)) (by omega);obtain⟨v,hv⟩:=at_lt (ls:=ws) (k:=q+1+r) (by omega);have cu:=iP_at ((hI.out (q+1+(r+1)) (by omega)).trans hu);have cv:=iP_at ((hI.out (q+1+r) (by omega)).trans hv);have wr:IntKind.i64.wrap (((r+1:Nat):Int) - 1)=(r:Int):=by rw[wrap_m1 (by omega)];omega
      have wr2:=wrap_succ (n:=r+1) (by omega);have wk2:=wrap_succ (n:=k) (by omega);have r1:r<ws.length - (q+1):=by omega
      have kk:k<ws.length:=by omega
      have kk2:k<cs.length:=by omega
      obtain⟨z,hz⟩:=at_lt kk2;have cz:=iP_at hz;by_cases e2:u=v
      ·subst e2;have hun:(u !=u)=false:=by simp
       have hI2:=hI'.skip (by rw[show q+1+r+1=q+1+(r+1) by omega];exact hu) hv;simp only[go_sem,i118_l1,k0,k4,k5,k3,hlt2,hlt2',r1,hB,cu,cv,wr,wr2,hun,o];refine⟨okd,by omega,cs,k,rfl,rfl,by rw[show q+2+(r+1)=q+1+r+2 by omega];exact hI2,by omega,hkp⟩
      ·have hun:=(show(u !=v)=true by simp[e2]);simp only[go_sem,i118_l1,k0,k4,k5,k3,hlt2,hlt2',r1,hB,cu,cv,wr,wr2,wk2,kk,cz,hun,o];have hI2:=hI'.step (by rw[show q+1+r+1=q+1+(r+1) by omega];exact hu) hv e2;refine⟨okd,by omega,cs.set k u,k+1,rfl,by rw[iP_set],by rw[show q+2+(r+1)=q+1+r+2 by omega];exact hI2,by omega,hkp.upd rfl _⟩
     ·have hlt2': ¬ (((r+1:Nat):Int)<((ws.length - (q+1):Nat):Int)):=by omega
      have kk3:k≤ws.length:=by omega
      have kk4:k+(ws.length - k)≤cs.length:=by omega
      have hne: ¬ (ws.length - k=0):=by omega
      have hend:q+2+r=ws.length:=by omega
      rw[hend] at hI;have hsp:=iP_splice (cs:=cs) (k:=k) (by omega);rw[hcl] at hsp;simp only[go_sem,i118_l1,i118_r2,k0,k4,k5,k3,hlt2',hB,o,kk3,kk4,hne,List.length_replicate,iP_len,hsp];obtain⟨i1,i2,i3,i4,i5⟩:=hI;refine⟨by rw[← i2],⟨_,upd_eq,by simp;omega,?_⟩,hkp.upd rfl _⟩;rw[← i2,List.take_left' (by simp;omega),i3]
   ·have e1:=(show(x==y)=false by simp[e]);simp only[go_sem,i118_l4,i118_r3,h0,h3,hlt,hlt',hxa,hya,wj,wk,q1,hC,o,e1];refine⟨okd,fun i u v h h4 h5=> ?_⟩;by_cases e2:i=q
    ·subst e2;rw[hy] at h4;rw[hx] at h5;cases h4;cases h5;exact e
    ·exact hnd i u v (by omega) h4 h5
  ·have hlt': ¬ (((q+1:Nat):Int)<(ws.length:Int)):=by omega
   have e:=cpK_noDup ws.length (Nat.le_refl _) (fun i x y h=>hnd i x y (by omega));rw[List.take_length] at e;simp only[go_sem,i118_l4,i118_r5,h0,h3,hlt'];exact⟨by rw[e],⟨ws,hC,rfl,by rw[e,List.take_length]⟩,Kept.refl _ _⟩
def ddI:List Int→List Int
 |[]=>[]
 |x::r=>if x∈r then ddI r else x::ddI r
theorem ddI_mem{x:Int}: ∀ {l:List Int},x∈ddI l↔x∈l:=by
 intro l
 induction l with
 |nil=>simp[ddI]
 |cons y r ih=>
  unfold ddI;split
  ·rename_i h;rw[ih,List.mem_cons];constructor
   ·exact .inr
   ·rintro (rfl|h2)
    ·exact h
    ·exact h2
  ·rw[List.mem_cons,List.mem_cons,ih]
theorem ddI_nodup: ∀ l:List Int,(ddI l).Nodup:=by
 intro l
 induction l with
 |nil=>exact List.nodup_nil
 |cons y r ih=>
  unfold ddI;split
  ·exact ih
  ·rename_i h;exact List.nodup_cons.2 ⟨fun h2=>h (ddI_mem.1 h2),ih⟩
theorem cpK_mem{ws:List Int}{x:Int}: ∀ k,k≤ws.length→(x∈cpK ws k↔x∈ws.take k):=by
 intro k
 induction k with
 |zero=>intro _;simp[cpK]
 |succ k ih=>
  intro hk;obtain⟨y,hy⟩:=at_lt (ls:=ws) (k:=k) (by omega);have ht:ws.take (k+1)=ws.take k++[y]:=by rw[List.take_add_one,hy];rfl
  have ih:=ih (by omega);unfold cpK;rw[hy,ht];simp only;split
  ·rename_i h;obtain⟨h1,h2⟩:=h;have hm:y∈ws.take k:=by
    rw[List.mem_take_iff_getElem];obtain⟨h3,h4⟩:=List.getElem?_eq_some_iff.1 h2;exact⟨k - 1,by omega,h4⟩
   rw[ih,List.mem_append];constructor
   ·exact .inl
   ·rintro (h|h)
    ·exact h
    ·simp at h;subst h;exact hm
  ·rw[List.mem_append,List.mem_append,ih]
theorem cpK_nodup{ws:List Int}(hs:Srt ltI ws 0 ws.length): ∀ k,k≤ws.length→(cpK ws k).Nodup:=by
 intro k
 induction k with
 |zero=>intro _;exact List.nodup_nil
 |succ k ih=>
  intro hk;obtain⟨y,hy⟩:=at_lt (ls:=ws) (k:=k) (by omega);have ih:=ih (by omega);unfold cpK;rw[hy];simp only;split
  ·exact ih
  ·rename_i h;rw[List.nodup_append];refine⟨ih,by simp,fun z hz w hw=> ?_⟩;simp at hw;subst hw;rintro rfl
   rw[cpK_mem k (by omega),List.mem_take_iff_getElem] at hz;obtain⟨p,hp,hpz⟩:=hz;have hpk:p<k:=by omega
   have hp2:ws[p]? =some z:=by rw[List.getElem?_eq_getElem (by omega),hpz]
   obtain⟨u,hu⟩:=at_lt (ls:=ws) (k:=k - 1) (by omega);have s1:=hs (k - 1) k u z (Nat.zero_le _) (by omega) (by omega) hu hy;have huz:u=z:=by
    by_cases e:p=k - 1
    ·rw[e,hu] at hp2;cases hp2;rfl
    ·have s2:=hs p (k - 1) z u (Nat.zero_le _) (by omega) (by omega) hp2 hu;simp at s1 s2;omega
   rw[huz] at hu;exact h ⟨by omega,hu⟩
theorem compact_count{es ws:List Int}(hp:ws.Perm es)(hs:Srt ltI ws 0 ws.length):(cpK ws ws.length).length=(ddI es).length:=by
 refine List.Perm.length_eq ((List.perm_ext_iff_of_nodup (cpK_nodup hs _ (Nat.le_refl _)) (ddI_nodup es)).2 fun x=> ?_);rw[cpK_mem _ (Nat.le_refl _),List.take_length,ddI_mem,hp.mem_iff]
def crP(ls:List Let)(e:Nat):Bool:=((pA ls e).l.kind==2)&&((pA ls (nx ls e)).l.kind==2)
def tgL(ls:List Let)(es:List Nat):List Int:=es.flatMap fun e:Nat=>[(e:Int),(nx ls e:Int)]
def tgI(ls:List Let)(es:List Nat):List Int:=es.flatMap fun e:Nat=>[(pA ls e).l.id,(pA ls (nx ls e)).l.id]
def tgB(F:Nat)(ls:List Let)(a b c:Nat):Bool:=[a,b,c].all (crP ls)&&(((ddI (tgL ls [a,b,c])).length==6)&&(((ddI (tgI ls [a,b,c])).length==3)&&([a,b,c].any (boR ls · true)&&([a,b,c].any (boR ls · false)&&cornR F ls 0 [a,b,c] a))))
def tgR(F:Nat)(ls:List Let)(a b c:Nat):Option (List Pc):=if tgB F ls a b c then some (swL ls (pieces ls) [a,b,c]) else none
theorem tg_len(f:Nat→List Int)(hf: ∀ e,(f e).length=2): ∀ l:List Nat,(l.flatMap f).length=2*l.length:=by
 intro l
 induction l with
 |nil=>rfl
 |cons a r ih=>rw[List.flatMap_cons,List.length_append,ih,hf,List.length_cons];omega
theorem flat_snoc(f:Nat→List Int)(l:List Nat)(k e:Nat)(h:l[k]? =some e):(l.take (k+1)).flatMap f=(l.take k).flatMap f++f e:=by
 rw[List.take_add_one,h];simp
theorem any_snoc(f:Nat→Bool)(l:List Nat)(k e:Nat)(h:l[k]? =some e):(l.take (k+1)).any f=((l.take k).any f||f e):=by
 rw[List.take_add_one,h];simp
theorem all_snoc(f:Nat→Bool)(l:List Nat)(k e:Nat)(h:l[k]? =some e):(l.take (k+1)).all f=((l.take k).all f&&f e):=by
 rw[List.take_add_one,h];simp
theorem two_iP(f:Nat→List Int)(es:List Nat)(x y:Int):iP (es.flatMap f)++[[PV.int .i64 x],[PV.int .i64 y]]=iP (es.flatMap f++[x,y]):=by simp
theorem triangle_p(g:Fine F ls){av bv cv:Nat}(ha:av<ls.length)(hb:bv<ls.length)(hc:cv<ls.length){k:Int}{l o:Bool}{sg:Int}:
  PEv S 88 [.one (.p (brdV F ls)),mvV k av bv cv l o sg] (kR (tgR F ls av bv cv)):=by
 have hlen:=g.len;have hpl:=pieces_len ls;have hes: ∀ e∈[av,bv,cv],e<ls.length:=fun e h=>by
  simp at h;rcases h with rfl|rfl|rfl<;>assumption
 generalize hE:[av,bv,cv]=es at*;have hel:es.length=3:=by rw[← hE];rfl
 have hn3:nP [av,bv,cv]=[[.int .i64 av],[.int .i64 bv],[.int .i64 cv]]:=rfl;rw[hE] at hn3;have w3:((3:Nat):Int)=3:=rfl;refine pev1 c88 ?_;simp only[go_sem,i88];refine R_for (fun j env blk=>env 0= .one (.p (brdV F ls))∧env 6= .one (.hsl 5632064384 1 1 0 3)∧env 22= .one (.hsl 5632064384 1 1 0 3)∧env 23=vi 3∧env 24=vi j∧blk 5632064384=(1,some (.arr 3 1 (nP es)))∧(es.take j).all (crP ls)=true∧
  env 9=vb ((es.take j).any (boR ls · true))∧env 10=vb ((es.take j).any (boR ls · false))∧ ∃ c7 c8,env 7= .one c7∧env 8= .one c8∧grown 5632640256 3 1 (iP (tgL ls (es.take j))) (.one c7) blk∧grown 5632705280 3 1 (iP (tgI ls (es.take j))) (.one c8) blk) 0 3 (Nat.zero_le _) ?_ ?_
 ·simp only[go_sem];exact⟨rfl,rfl,by rw[hn3],rfl,rfl,_,_,rfl,rfl,grown.nil,grown.nil⟩
 ·rintro j env blk hj ⟨h0,h6,h22,h23,h24,b6,hall,h9,h10,c7,c8,h7,h8,g7,g8⟩
  by_cases hlt:j<3
  ·have hlt':((j:Int)<3):=by omega
   obtain⟨e,he⟩:=at_lt (ls:=es) (k:=j) (by omega);have hel2:=hes e (List.mem_of_getElem? he);have hnp:=nP_at he;have pe:=ends_p g hel2;have hm:=Nat.mod_lt (e+1) (show 0<ls.length by omega);obtain⟨P,hP⟩:=at_lt (ls:=pieces ls) (k:=e) (by omega);obtain⟨Q,hQ⟩:=at_lt (ls:=pieces ls) (k:=(e+1)%ls.length) (by omega);have hap:=pcP_at hP;have haq:=pcP_at hQ;have w1:=wrap_succ (n:=j) (by omega);have po:=both_p g hel2 true;have pu:=both_p g hel2 false;have hcr:crP ls e=((P.l.kind==2)&&(Q.l.kind==2)):=by unfold crP;rw[pA_of hP,pA_of hQ]
   have hl7:(iP (tgL ls (es.take j))).length≤100:=by
    unfold tgL;rw[iP_len,tg_len _ (fun _=>rfl),List.length_take];omega
   have hl8:(iP (tgI ls (es.take j))).length≤100:=by
    unfold tgI;rw[iP_len,tg_len _ (fun _=>rfl),List.length_take];omega
   have hno:crP ls e=false→tgR F ls av bv cv=none:=fun h=>by
    have:es.all (crP ls)=false:=by
     cases hh:es.all (crP ls) with
     |false=>rfl
     |true=>rw[List.all_eq_true.1 hh e (List.mem_of_getElem? he)] at h;cases h
    unfold tgR tgB;rw[hE,this];rfl
   cases k1:(P.l.kind==2) with
   |false=>
    rw[k1] at hcr;have k1':(P.l.kind !=2)=true:=by simp only[bne,k1];rfl
    rw[hno hcr];simp only[go_sem,i88_l1,h0,h22,h23,h24,b6,hlt,hlt',hnp,s104,gP_land pe land_tup,hap,Pc.ps,k1'];rfl
   |true=>
    have k1':(P.l.kind !=2)=false:=by simp only[bne,k1];rfl
    cases k2:(Q.l.kind==2) with
    |false=>
     rw[k1,k2] at hcr;have k2':(Q.l.kind !=2)=true:=by simp only[bne,k2];rfl
     rw[hno hcr];simp only[go_sem,i88_l1,h0,h22,h23,h24,b6,hlt,hlt',hnp,s104,gP_land pe land_tup,hap,haq,Pc.ps,k1',k2'];rfl
    |true=>
     rw[k1,k2] at hcr;have k2':(Q.l.kind !=2)=false:=by simp only[bne,k2];rfl
     simp only[go_sem,i88_l1,h0,h7,h22,h23,h24,b6,hlt,hlt',hnp,s104,gP_land pe land_tup,hap,haq,Pc.ps,k1',k2'];refine gP_app (xs:=[[.int .i64 (e:Nat)],[.int .i64 ((e+1)%ls.length:Nat)]]) (g7.of_eq (upd_ne (by decide))) (by simp only[elemsOf,upd_apply,if_true];rfl) (.inl rfl) (by simp only[List.length_cons,List.length_nil];omega) fun d7 blk1 gd7 hb1=> ?_
     have q6:=hb1 5632064384 (by decide) (by decide);simp only[go_sem,b6] at q6;have g8':=g8.of_eq ((hb1 5632705280 (by decide) (by decide)).trans (upd_ne (by decide)));simp only[go_sem,h0,h8,hap,haq,Pc.ps];refine dP_app (xs:=[[.int .i64 P.l.id],[.int .i64 Q.l.id]]) (g8'.of_eq (upd_ne (by decide))) (by simp only[elemsOf,upd_apply,if_true];rfl) (.inl rfl) (by simp only[List.length_cons,List.length_nil];omega) fun d8 blk2 r w gd8 hb2 hw=> ?_
     have p6:=(hb2 5632064384 (by decide) (by decide)).trans ((upd_ne (by decide)).trans q6);have gd7':=gd7.of_eq ((hb2 5632640256 (by decide) (by decide)).trans (upd_ne (by decide)));simp only[go_sem];refine⟨?_,?_⟩
     ·rcases hw with ⟨rfl,rfl⟩|⟨rfl,rfl⟩|⟨rfl,rfl⟩<;>kernel_rfl
     generalize hx9:(es.take j).any (boR ls · true)=x9 at h9;generalize hx10:(es.take j).any (boR ls · false)=x10 at h10;have e9:=any_snoc (boR ls · true) es j e he;have e10:=any_snoc (boR ls · false) es j e he;have eA:=all_snoc (crP ls) es j e he;rw[hx9] at e9;rw[hx10] at e10;rw[hall,hcr] at eA;have G7:grown 5632640256 3 1 (iP (tgL ls (es.take (j+1)))) (.one d7) blk2:=by
      have:=two_iP (fun e:Nat=>[(e:Int),(nx ls e:Int)]) (es.take j) e (nx ls e);have h2:=flat_snoc (fun e:Nat=>[(e:Int),(nx ls e:Int)]) es j e he;rw[show tgL ls (es.take (j+1))=(es.take j).flatMap (fun e:Nat=>[(e:Int),(nx ls e:Int)])++[(e:Int),(nx ls e:Int)] from h2,← this];exact gd7'
     have G8:grown 5632705280 3 1 (iP (tgI ls (es.take (j+1)))) (.one d8) blk2:=by
      have:=two_iP (fun e:Nat=>[(pA ls e).l.id,(pA ls (nx ls e)).l.id]) (es.take j) (pA ls e).l.id (pA ls (nx ls e)).l.id;have h2:=flat_snoc (fun e:Nat=>[(pA ls e).l.id,(pA ls (nx ls e)).l.id]) es j e he;rw[show tgI ls (es.take (j+1))=(es.take j).flatMap (fun e:Nat=>[(pA ls e).l.id,(pA ls (nx ls e)).l.id])++[(pA ls e).l.id,(pA ls (nx ls e)).l.id] from h2,← this,pA_of hP,show pA ls (nx ls e)=Q from pA_of hQ];exact gd8
     cases x9<;>cases x10<;>simp only[go_sem,h0,h9,h10,h22,h23,h24,s115,gP_bool po,gP_bool pu,w1,hlt]<;>exact⟨h6,p6,by rw[eA];rfl,by rw[e9];rfl,by rw[e10];rfl,d7,d8,rfl,rfl,G7,G8⟩
  ·have:j=3:=by omega
   subst this;have ht:es.take 3=es:=by rw[← hE];rfl
   rw[ht] at hall h9 h10 g7 g8;have n7:(tgL ls es).length=6:=by unfold tgL;rw[tg_len _ (fun _=>rfl),hel]
   have n8:(tgI ls es).length=6:=by unfold tgI;rw[tg_len _ (fun _=>rfl),hel]
   rcases g7 with ⟨e,_⟩|⟨_,gg7,e,b7⟩
   ·have:=congrArg List.length e;rw[iP_len,n7] at this;cases this
   cases e
   rcases g8 with ⟨e,_⟩|⟨_,gg8,e,b8⟩
   ·have:=congrArg List.length e;rw[iP_len,n8] at this;cases this
   cases e
   have s506:S.shared 117=true:=by kernel_rfl
   have s507:S.shared 118=true:=by kernel_rfl
   have h33: ¬ (((3:Nat):Int)<3):=by decide
   simp only[go_sem,i88_l1,i88_r2,h7,h23,h24,h33,s506,iP_len];refine gP_soA b7 (by rfl) (.inl rfl) (P:=soPost ltI 5632640256 gg7 3 (tgL ls es) blk) (fun al' h1 h2=>sortI_s h1 (by rw[h2];kernel_rfl) (by omega) b7) fun v blk1 hP=> ?_
   obtain⟨rfl,⟨ws,bw,pw,sw⟩,kw⟩:=hP;have b8':=(kw 5632705280 (by decide)).trans b8;have b6':=(kw 5632064384 (by decide)).trans b6;simp only[go_sem,h8,s506,iP_len];refine gP_soA b8' (by rfl) (.inl rfl) (P:=soPost ltI 5632705280 gg8 3 (tgI ls es) blk1) (fun al' h1 h2=>sortI_s h1 (by rw[h2];kernel_rfl) (by omega) b8') fun v blk2 hP=> ?_
   obtain⟨rfl,⟨us,bu,pu,su⟩,ku⟩:=hP;have bw':=(ku 5632640256 (by decide)).trans bw;have b6'':=(ku 5632064384 (by decide)).trans b6';have wl:=pw.length_eq;have ul:=pu.length_eq;have cw:=compact_count pw sw;have cu:=compact_count pu su;have pcn:=corner_p g es (by omega) (e0:=av) (by rw[← hE];rfl) ha 0;have c00:((0:Nat):Int)=0:=rfl;rw[c00] at pcn;have psw:=swapped_p g es hes (by omega);have ht3:List.take 3 (nP es)=nP es:=List.take_of_length_le (by rw[nP_len];omega)
   have hB:tgB F ls av bv cv=((((ddI (tgL ls es)).length:Int)==6)&&((((ddI (tgI ls es)).length:Int)==3)&&(es.any (boR ls · true)&&(es.any (boR ls · false)&&cornR F ls 0 es av)))):=by
    unfold tgB;rw[hE,hall,int_beq,int_beq];rfl
   unfold tgR;rw[hB];clear hB;simp only[go_sem,h7,s507,iP_len,← wl];refine gP_soA bw' (by rfl) (.inl rfl) (P:=coPost 5632640256 gg7 3 ws blk2) (fun al' h1 h2=>compact_s h1 (by omega) bw') fun v blk3 hP=> ?_
   obtain⟨rfl,_,kc⟩:=hP;have bu':=(kc 5632705280 (by decide)).trans bu;have b63:=(kc 5632064384 (by decide)).trans b6'';rw[cw];have lo:S.lone 5633152128=false:=by kernel_rfl
   cases q1:(((ddI (tgL ls es)).length:Int)==6) with
   |false=>
    have q1':(((ddI (tgL ls es)).length:Int)!=6)=true:=by simp only[bne,q1];rfl
    simp only[go_sem,q1'];rfl
   |true=>
    have q1':(((ddI (tgL ls es)).length:Int)!=6)=false:=by simp only[bne,q1];rfl
    simp only[go_sem,h8,q1',s507,iP_len,← ul];refine gP_soA bu' (by rfl) (.inl rfl) (P:=coPost 5632705280 gg8 3 us blk3) (fun al' h1 h2=>compact_s h1 (by omega) bu') fun v blk4 hP=> ?_
    obtain⟨rfl,_,kd⟩:=hP;have b64:=(kd 5632064384 (by decide)).trans b63;rw[cu];cases q2:(((ddI (tgI ls es)).length:Int)==3) with
    |false=>
     have q2':(((ddI (tgI ls es)).length:Int)!=3)=true:=by simp only[bne,q2];rfl
     simp only[go_sem,q2'];rfl
    |true=>
     have q2':(((ddI (tgI ls es)).length:Int)!=3)=false:=by simp only[bne,q2];rfl
     cases q3:es.any (boR ls · true) with
     |false=>
      rw[q3] at h9;simp only[go_sem,h9,q2'];rfl
     |true=>
      rw[q3] at h9;cases q4:es.any (boR ls · false) with
      |false=>
       rw[q4] at h10;simp only[go_sem,h9,h10,q2'];rfl
      |true=>
       rw[q4] at h10;cases q5:cornR F ls 0 es av with
       |false=>
        rw[q5] at pcn;simp only[go_sem,h0,h6,h9,h10,q2',b64,s112,gP_bool pcn,hel,nP_len,ht3];rfl
       |true=>
        rw[q5] at pcn;simp only[go_sem,h0,h6,h9,h10,q2',b64,s112,gP_bool pcn,s119,hel,nP_len,ht3];refine gP_g1 psw lo (.inr (alone_grown (sc_pc _))) fun cc blk5 gc hb5=> ?_
        simp only[go_sem];rw[← hE] at gc;exact grown_out1 gc
abbrev kagC:List C:=[.p .nilf, .p (.fn 81 [] []), .p (.fn 82 [] []), .p (.fn 83 [] []), .p (.fn 84 [] []), .p (.fn 85 [] []), .p (.fn 86 [] []), .p (.fn 87 [] []), .p (.fn 88 [] []), .p (.fn 89 [] []), .p (.fn 89 [] [])]
theorem grows_small(k:Int):0≤(growsR k).1∧(growsR k).1≤4∧0≤(growsR k).2∧(growsR k).2≤2:=by
 unfold growsR;split
 ·simp
 ·split
  ·simp
  ·split<;>simp
theorem do_g(hlen:ls.length≤400)(hcr:cnt Let.isC ls≤200){k f:Nat}{rest:List C}(hk:kagC.drop k= .p (.fn f [] [])::rest)(hk2:k<11)(hsf:S.shared f=false){a b c:Int}{l o:Bool}{sg:Int}{res:Option (List Pc)}(ha:PEv S 66 [.one (.p (brdV F ls)),mvV k a b c l o sg] (rb true))(hm:PEv S f [.one (.p (brdV F ls)),mvV k a b c l o sg] (kR res))(hL: ∀ L,res=some L→L.length≤1000000):
  PEv S 50 [.one (.p (brdV F ls)),mvV k a b c l o sg] (doR F ls k res):=by
 have hfin:=finished_p F;have pg:=grows_p k;have lo1:S.lone 3200192384=false:=by kernel_rfl
 have lo2:S.lone 3200576128=false:=by kernel_rfl
 have hlk: ∀ (blk:Blk),land blk [] 3200192000 ((RV.agg [.p .nilf, .p (.fn 81 [] []), .p (.fn 82 [] []), .p (.fn 83 [] []), .p (.fn 84 [] []), .p (.fn 85 [] []), .p (.fn 86 [] []), .p (.fn 87 [] []), .p (.fn 88 [] []), .p (.fn 89 [] []), .p (.fn 89 [] [])]).pureIf (S.lone 3200192000))=some (.agg kagC,[]):=fun blk=>by cases S.lone 3200192000<;>rfl
 have hpl:=pieces_len ls;obtain⟨g1,g2,g3,g4⟩:=grows_small k;have lg: ∀ blk:Blk,land blk [] 3200384128 ((RV.tup [.one (.p (.int .i64 (growsR k).1)), .one (.p (.int .i64 (growsR k).2))]).pureIf (S.lone 3200384128))=some (.tup [.one (.p (.int .i64 (growsR k).1)), .one (.p (.int .i64 (growsR k).2))],[]):=fun blk=>land_tup
 obtain⟨gr1,gr2,hgr⟩: ∃ x y,growsR k=(x,y):=⟨_,_,rfl⟩;have d4:doR F ls k none=rcode 4:=rfl;have d7: ∀ L,((400:Int)<(ls.length:Int)+gr1∨(100:Int)<((cnt Let.isC ls/2:Nat):Int)+gr2)→doR F ls k (some L)=rcode 7:=fun L h=>by
  unfold doR;rw[hgr];exact if_pos h
 have d0: ∀ L,¬ ((400:Int)<(ls.length:Int)+gr1∨(100:Int)<((cnt Let.isC ls/2:Nat):Int)+gr2)→doR F ls k (some L)=rokc F (finL L):=fun L h=>by
  unfold doR;rw[hgr];exact if_neg h
 rw[hgr] at g1 g2 g3 g4 pg;simp only[hgr] at lg;simp only at g1 g2 g3 g4 lg pg;have w1:IntKind.i64.wrap (((pieces ls).length:Int)+gr1)=(ls.length:Int)+gr1:=by rw[hpl];exact wrapI (by omega) (by omega)
 have w2:IntKind.i64.wrap (((cnt Let.isC ls/2:Nat):Int)+gr2)=((cnt Let.isC ls/2:Nat):Int)+gr2:=wrapI (by omega) (by omega);unfold kR at hm;generalize kagC=kg at hk hlk;refine pev1 c50 ?_;simp only[go_sem,i50,s66,gP_bool ha,s67,dP_land kinds_p (hlk _),hk,hk2,hsf];refine dP_g1p hm lo1 fun cc blk1 w gc hb hw=> ?_
 have b0:=hb 3200000000 (by decide);have b1:=hb 3200000064 (by decide);simp only[go_sem] at b0 b1;cases res with
 |none=>
  rw[d4];simp only[go_sem,b1];refine⟨?_,rfl⟩;rcases hw with rfl|rfl<;>kernel_rfl
 |some L=>
  simp only[Option.getD_some] at gc;have pfin:=hfin L (hL L rfl) (.sl (pcP (pieces ls))) (.sl (fcP (facesL F ls))) (.sl (nP (leftL F ls))) (.int .i64 (cnt Let.isP ls:Nat)) (.int .i64 ((cnt Let.isC ls/2:Nat):Int)) (.sl (nP (counts ls F)));obtain⟨rs,hsn,_⟩:=gc.snapN;by_cases h1:(400:Int)<(ls.length:Int)+gr1
  ·rw[d7 L (.inl h1)];simp only[go_sem,b0,b1,s68,gP_land pg (lg _),w1,h1];refine⟨?_,rfl⟩;rcases hw with rfl|rfl<;>kernel_rfl
  ·by_cases h2:(100:Int)<((cnt Let.isC ls/2:Nat):Int)+gr2
   ·rw[d7 L (.inr h2)];simp only[go_sem,b0,b1,s68,gP_land pg (lg _),w1,w2,h1,h2];refine⟨?_,rfl⟩;rcases hw with rfl|rfl<;>kernel_rfl
   ·rw[d0 L (by rintro (h|h);exact h1 h;exact h2 h)];simp only[go_sem,b0,s68,gP_land pg (lg _),w1,w2,h1,h2,hsn,s69];refine⟨?_,?_⟩
    ·rcases hw with rfl|rfl<;>kernel_rfl
    refine gP_gA pfin lo2 rfl (sc_let _) fun c2 blk2 gc2 hb2=> ?_
    have b02:=(hb2 3200000064 (by decide)).trans b1;simp only[go_sem,b02];exact grown_outT (gc2.of_eq (upd_ne (by decide)))
theorem do_arg{k a b c:Int}{l o:Bool}{sg:Int}(ha:PEv S 66 [.one (.p (brdV F ls)),mvV k a b c l o sg] (rb false)):PEv S 50 [.one (.p (brdV F ls)),mvV k a b c l o sg] (rcode 2):=by
 refine pev1 c50 ?_;simp only[go_sem,i50,s66,gP_bool ha];try rfl
def moveR(F:Nat)(ls:List Let)(k:Int)(a b c:Nat)(l o:Bool)(sg:Int):Option (List Pc):=
 if k=1 then acR ls a else if k=2 then amR F ls a b c else if k=3 then asR F ls a b else if k=4 then lcR ls a else if k=5 then some (lmR ls a sg o) else if k=6 then pcR F ls a b else if k=7 then pmR F ls a b l o else if k=8 then tgR F ls a b c else if k=9 then trR F ls a else tlR ls a
def appR(F:Nat)(ls:List Let)(k a b c:Int)(l o:Bool)(sg:Int):RV:=if argB F ls k a b c l o sg then doR F ls k (moveR F ls k a.toNat b.toNat c.toNat l o sg) else rcode 2
theorem appR_form{k a b c:Int}{l o:Bool}{sg:Int}:(∃ e,appR F ls k a b c l o sg=rcode e)∨ ∃ L,appR F ls k a b c l o sg=rokc F L:=by
 unfold appR;split
 ·cases moveR F ls k a.toNat b.toNat c.toNat l o sg with
  |none=>exact .inl ⟨4,rfl⟩
  |some L=>
   by_cases h:(400:Int)<(ls.length:Int)+(growsR k).1∨(100:Int)<((cnt Let.isC ls/2:Nat):Int)+(growsR k).2
   ·exact .inl ⟨7,if_pos h⟩
   ·exact .inr ⟨finL L,if_neg h⟩
 ·exact .inl ⟨2,rfl⟩
theorem apply_gen{k a b c:Int}{l o:Bool}{sg:Int}{res:RV}(po:PEv S 49 [codeV F ls] (rtup (brdV F ls) (.int .i64 0)))(hd:PEv S 50 [.one (.p (brdV F ls)),mvV k a b c l o sg] res)(fin:(∃ e,res=rcode e)∨ ∃ L,res=rokc F L):
  PEv S 32 [codeV F ls,mvV k a b c l o sg] res:=by
 have lo:S.lone 2048256128=false:=by kernel_rfl
 refine pev1 c32 ?_;rcases fin with ⟨e,rfl⟩|⟨L,rfl⟩
 ·simp only[go_sem,i32,s49,gP_land po land_tup,s50,gP_land hd land_code];rfl
 ·simp only[go_sem,i32,s49,gP_land po land_tup,s50];refine gP_gT hd lo fun cc blk1 gc hb=> ?_
  have b4:=hb 2048000128 (by decide);simp only[go_sem] at b4;simp only[go_sem,b4];exact grown_outT (gc.of_eq (upd_ne (by decide)))
theorem isI_nat{n:Nat}{i:Int}(h:isI n i=true): ∃ k:Nat,i=(k:Int)∧k<n:=by
 unfold isI at h;simp at h;exact⟨i.toNat,by omega,by omega⟩
theorem keepL_len(l:List Pc)(drop:Nat→Pc→Bool):(keepL l drop).length≤l.length:=keepK_len l drop l.length
theorem setGR_len(l:List Pc)(i:Nat)(g r:Int):(setGR l i g r).length=l.length:=by simp[setGR]
theorem moveR_len{k:Int}{a b c:Nat}{l o:Bool}{sg:Int}{L:List Pc}(h:moveR F ls k a b c l o sg=some L):L.length≤ls.length+4:=by
 have hp:=pieces_len ls;unfold moveR at h;repeat' split at h
 ·unfold acR at h;simp only at h;split at h
  ·cases h
   have:=keepL_len (pieces ls) (fun k _=>decide (k=a)||decide (k=(a+1)%ls.length));simp only[shiftL,List.length_map];omega
  ·cases h
 ·unfold amR at h;split at h
  ·cases h;simp only[amIns,insAt_len,shiftL,List.length_map,List.length_cons,List.length_nil];omega
  ·split at h
   ·cases h;simp only[amIns,insAt_len,shiftL,List.length_map,List.length_cons,List.length_nil];omega
   ·cases h
 ·unfold asR at h;split at h
  ·cases h;simp only[swL_len,setRk_len];omega
  ·cases h
 ·unfold lcR at h;simp only at h;split at h
  ·cases h
   have:=keepL_len (pieces ls) (dropI [((pieces ls).getD a ⟨noLet,false⟩).l.id]);simp only[dropL,List.length_map];omega
  ·cases h
 ·cases h;simp only[lmR,insAt_len,List.length_cons,List.length_nil];omega
 ·unfold pcR at h;split at h
  ·cases h
   have:=keepL_len (pieces ls) (dropI [(pA ls a).l.id,(pA ls (nx ls a)).l.id]);simp only[dropL,List.length_map];omega
  ·cases h
 ·have key: ∀ s t,pmV ls a b l o s t=some L→L.length≤ls.length+4:=fun s t h=>by
   unfold pmV at h;split at h
   ·cases h
   ·simp only[Option.some.injEq] at h;subst h;have h2: ∀ x sg o s,(pmS x sg o s).length=2:=fun x sg o s=>by unfold pmS;split<;>rfl
    split<;>simp only[insAt_len,h2,List.length_cons,List.length_nil]<;>omega
  unfold pmR at h;split at h
  ·exact key _ _ h
  ·exact key _ _ h
 ·unfold tgR at h;split at h
  ·cases h;simp only[swL_len];omega
  ·cases h
 ·unfold trR at h;split at h
  ·cases h;simp only[setGR_len,shiftL,List.length_map];omega
  ·cases h
 ·unfold tlR at h;split at h
  ·cases h;simp only[setGR_len,shiftL,List.length_map];omega
  ·cases h
theorem do_p(g:Fine F ls)(k a b c:Int)(l o:Bool)(sg:Int):PEv S 50 [.one (.p (brdV F ls)),mvV k a b c l o sg] (appR F ls k a b c l o sg):=by
 have pa:=arg_p (F:=F) (ls:=ls) (a:=a) (b:=b) (c:=c) (l:=l) (o:=o) (sg:=sg) k;have hlen:=g.len;have hcr:=g.cr;unfold appR;cases hA:argB F ls k a b c l o sg with
 |false=>
  rw[hA] at pa;exact do_arg pa
 |true=>
  rw[hA] at pa;rw[if_pos rfl];have hL: ∀ L,moveR F ls k a.toNat b.toNat c.toNat l o sg=some L→L.length≤1000000:=fun L h=>by have:=moveR_len h;omega
  have ne:=g.ne;have hnl: ¬ ls.length=0:=by
   have:=List.length_pos_iff.2 ne;omega
  unfold argB at hA;by_cases h1:k=1
  ·subst h1;simp only[Int.reduceEq,if_true,if_false,or_false,or_self] at hA;simp only[Bool.and_eq_true,Bool.not_eq_true',beq_iff_eq] at hA;obtain⟨rfl,rfl,rfl,hx,rfl,rfl⟩:=hA;obtain⟨av,rfl,ha⟩:=isI_nat hx;simp only[Int.toNat_natCast] at hL ⊢;exact do_g hlen hcr (k:=1) rfl (by decide) (by kernel_rfl) pa (axisCut_p g ha) hL
  by_cases h2:k=2
  ·subst h2;simp only[Int.reduceEq,if_true,if_false,or_self] at hA;simp only[Bool.and_eq_true,Bool.or_eq_true,Bool.not_eq_true',beq_iff_eq,decide_eq_true_eq] at hA;obtain⟨rfl,rfl,rfl,hx,hb0,hbF,hc0,hcc⟩:=hA;rcases hx with hx|⟨hx,_⟩
   rotate_left
   ·exact absurd hx hnl
   obtain⟨av,rfl,ha⟩:=isI_nat hx;obtain⟨bv,rfl⟩:=Int.eq_ofNat_of_zero_le hb0;obtain⟨cv,rfl⟩:=Int.eq_ofNat_of_zero_le hc0;simp only[Int.toNat_natCast] at hL hcc ⊢;have:=cnt_le (atG bv) ls;exact do_g hlen hcr (k:=2) rfl (by decide) (by kernel_rfl) pa (axisMake_p g ha (by omega) (by simp only[cg] at hcc;omega)) hL
  by_cases h3:k=3
  ·subst h3;simp only[Int.reduceEq,if_true,if_false,or_false,or_self] at hA;simp only[Bool.and_eq_true,Bool.not_eq_true',beq_iff_eq,decide_eq_true_eq] at hA;obtain⟨rfl,rfl,rfl,hx,rfl,hy,hlt⟩:=hA;obtain⟨av,rfl,ha⟩:=isI_nat hx;obtain⟨bv,rfl,hb⟩:=isI_nat hy;simp only[Int.toNat_natCast] at hL ⊢;exact do_g hlen hcr (k:=3) rfl (by decide) (by kernel_rfl) pa (axisSlide_p g ha hb) hL
  by_cases h4:k=4
  ·subst h4;simp only[Int.reduceEq,if_true,if_false,or_false,or_true,or_self] at hA;simp only[Bool.and_eq_true,Bool.not_eq_true',beq_iff_eq] at hA;obtain⟨rfl,rfl,rfl,hx,rfl,rfl⟩:=hA;obtain⟨av,rfl,ha⟩:=isI_nat hx;simp only[Int.toNat_natCast] at hL ⊢;exact do_g hlen hcr (k:=4) rfl (by decide) (by kernel_rfl) pa (loopCut_p g ha) hL
  by_cases h5:k=5
  ·subst h5;simp only[Int.reduceEq,if_true,if_false,or_self] at hA;simp only[Bool.and_eq_true,Bool.or_eq_true,Bool.not_eq_true',beq_iff_eq] at hA;obtain⟨rfl,hs,hx,rfl,rfl⟩:=hA;obtain⟨av,rfl,ha⟩:=isI_nat hx;simp only[Int.toNat_natCast] at hL ⊢;exact do_g hlen hcr (k:=5) rfl (by decide) (by kernel_rfl) pa (loopMake_p g ha) hL
  by_cases h6:k=6
  ·subst h6;simp only[Int.reduceEq,if_true,if_false,or_true,or_self] at hA;simp only[Bool.and_eq_true,Bool.not_eq_true',beq_iff_eq,decide_eq_true_eq] at hA;obtain⟨rfl,rfl,rfl,hx,rfl,hy,hlt⟩:=hA;obtain⟨av,rfl,ha⟩:=isI_nat hx;obtain⟨bv,rfl,hb⟩:=isI_nat hy;simp only[Int.toNat_natCast] at hL ⊢;exact do_g hlen hcr (k:=6) rfl (by decide) (by kernel_rfl) pa (pairCut_p g ha hb) hL
  by_cases h7:k=7
  ·subst h7;simp only[Int.reduceEq,if_true,if_false,or_self] at hA;simp only[Bool.and_eq_true,Bool.not_eq_true',beq_iff_eq,beq_eq_false_iff_ne] at hA;obtain⟨rfl,hx,rfl,hy,hne⟩:=hA;obtain⟨av,rfl,ha⟩:=isI_nat hx;obtain⟨bv,rfl,hb⟩:=isI_nat hy;simp only[Int.toNat_natCast] at hL ⊢;exact do_g hlen hcr (k:=7) rfl (by decide) (by kernel_rfl) pa (pairMake_p g ha hb (by omega)) hL
  by_cases h8:k=8
  ·subst h8;simp only[Int.reduceEq,if_true,if_false,or_self] at hA;simp only[Bool.and_eq_true,Bool.not_eq_true',beq_iff_eq,decide_eq_true_eq] at hA;obtain⟨rfl,rfl,rfl,hx,hy,hz,_,_⟩:=hA;obtain⟨av,rfl,ha⟩:=isI_nat hx;obtain⟨bv,rfl,hb⟩:=isI_nat hy;obtain⟨cv,rfl,hc⟩:=isI_nat hz;simp only[Int.toNat_natCast] at hL ⊢;exact do_g hlen hcr (k:=8) rfl (by decide) (by kernel_rfl) pa (triangle_p g ha hb hc) hL
  by_cases h9:k=9
  ·subst h9;simp only[Int.reduceEq,if_true,if_false,or_false,or_true,or_self] at hA;simp only[Bool.and_eq_true,Bool.not_eq_true',beq_iff_eq] at hA;obtain⟨rfl,rfl,rfl,hx,rfl,rfl⟩:=hA;obtain⟨av,rfl,ha⟩:=isI_nat hx;simp only[Int.toNat_natCast] at hL ⊢;exact do_g hlen hcr (k:=9) rfl (by decide) (by kernel_rfl) pa (tipR_p g ha) hL
  by_cases h10:k=10
  ·subst h10;simp only[Int.reduceEq,if_true,if_false,or_true,or_self] at hA;simp only[Bool.and_eq_true,Bool.not_eq_true',beq_iff_eq] at hA;obtain⟨rfl,rfl,rfl,hx,rfl,rfl⟩:=hA;obtain⟨av,rfl,ha⟩:=isI_nat hx;simp only[Int.toNat_natCast] at hL ⊢;exact do_g hlen hcr (k:=10) rfl (by decide) (by kernel_rfl) pa (tipL_p g ha) hL
  ·simp[h1,h2,h3,h4,h5,h6,h7,h8,h9,h10] at hA
theorem apply_p(g:Fine F ls)(k a b c:Int)(l o:Bool)(sg:Int):PEv S 32 [codeV F ls,mvV k a b c l o sg] (appR F ls k a b c l o sg):=apply_gen (open_p g) (do_p g k a b c l o sg) appR_form
def app0(F:Nat)(k a b c:Int)(l o:Bool)(sg:Int):RV:=if argB F [] k a b c l o sg then rokc F (circ b.toNat) else rcode 2
theorem argB0{F:Nat}{k a b c:Int}{l o:Bool}{sg:Int}(h:argB F [] k a b c l o sg=true): ∃ bv:Nat,k=2∧a=0∧b=(bv:Int)∧bv≤F∧c=0∧l=false∧o=false∧sg=0:=by
 have hi: ∀ i:Int,isI 0 i=false:=fun i=>by unfold isI;simp
 unfold argB at h;by_cases h2:k=2
 ·subst h2;simp only[if_true,List.length_nil,hi,Bool.false_or,Bool.and_eq_true,Bool.not_eq_true',beq_iff_eq,decide_eq_true_eq] at h;obtain⟨rfl,rfl,rfl,⟨_,rfl⟩,hb0,hbF,hc0,hcc⟩:=h;obtain⟨bv,rfl⟩:=Int.eq_ofNat_of_zero_le hb0;have:cg [] ((bv:Int).toNat)=0:=rfl;rw[this] at hcc;exact⟨bv,rfl,rfl,rfl,by omega,by omega,rfl,rfl,rfl⟩
 ·simp[h2,hi] at h
theorem apply_e{F:Nat}(hF:F≤40)(k a b c:Int)(l o:Bool)(sg:Int):PEv S 32 [codeV F [],mvV k a b c l o sg] (app0 F k a b c l o sg):=by
 unfold app0;cases hA:argB F [] k a b c l o sg with
 |false=>
  have pa:=arg_p (F:=F) (ls:=[]) (a:=a) (b:=b) (c:=c) (l:=l) (o:=o) (sg:=sg) k;rw[hA] at pa;exact apply_gen (open0 hF) (do_arg pa) (.inl ⟨2,rfl⟩)
 |true=>
  obtain⟨bv,rfl,rfl,rfl,hb,rfl,rfl,rfl,rfl⟩:=argB0 hA;exact apply0_p hF hb
end
end Go.Abs
