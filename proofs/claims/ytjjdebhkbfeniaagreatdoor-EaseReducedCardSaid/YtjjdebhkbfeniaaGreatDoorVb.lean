/-
  A part of a proof.
-/
import Derived.Test.YtjjdebhkbfeniaaGreatDoorVa
import Derived.Test.YtjjdebhkbfeniaaGreatDoorWx
import Derived.Test.YtjjdebhkbfeniaaGreatDoorWy
set_option linter.unusedSimpArgs false
set_option linter.unusedVariables false
set_option linter.unusedSectionVars false
set_option maxRecDepth 100000
set_option maxHeartbeats 16000000
namespace Go.Abs
section
variable{F:Nat}{ls:List Let}
structure Swo {α:Type} (lt:α→α→Bool):Prop where
 asym: ∀ a b,lt a b=true→lt b a=false
 ntrans: ∀ a b c,lt b a=false→lt c b=false→lt c a=false
def Srt{α:Type}(lt:α→α→Bool)(ws:List α)(a b:Nat):Prop:= ∀ p q x y,a≤p→p<q→q<b→ws[p]? =some x→ws[q]? =some y→lt y x=false
structure InsI {α:Type} (lt:α→α→Bool) (zs ws:List α) (x:α) (a i j:Nat):Prop where
 perm:ws.Perm zs
 le:a≤j∧j≤i∧i<ws.length
 at':ws[j]? =some x
 up: ∀ p y,j<p→p≤i→ws[p]? =some y→lt x y=true
 so: ∀ p q y z,a≤p→p<q→q≤i→p≠j→q≠j→ws[p]? =some y→ws[q]? =some z→lt z y=false
 out: ∀ p,p<a∨i<p→ws[p]? =zs[p]?
theorem InsI.start{α:Type}{lt:α→α→Bool}{zs:List α}{x:α}{a i:Nat}(ha:a≤i)(hi:zs[i]? =some x)(hs:Srt lt zs a i):InsI lt zs zs x a i i:=
 ⟨.refl _,⟨ha,Nat.le_refl _,(List.getElem?_eq_some_iff.1 hi).1⟩,hi,fun p y h1 h2=>by omega,fun p q y z h0 h1 h2 h3 h4=>hs p q y z h0 h1 (by omega),fun _ _=>rfl⟩
theorem swap_perm{α:Type}{ws:List α}{i j:Nat}{x y:α}(hi:ws[i]? =some x)(hj:ws[j]? =some y):((ws.set i y).set j x).Perm ws:=by
 obtain⟨h1,e1⟩:=List.getElem?_eq_some_iff.1 hi;obtain⟨h2,e2⟩:=List.getElem?_eq_some_iff.1 hj;have:=List.set_set_perm h1 h2;rwa[e1,e2] at this
theorem InsI.step{α:Type}{lt:α→α→Bool}{zs ws:List α}{x y:α}{a i j:Nat}(o:Swo lt)(h:InsI lt zs ws x a i (j+1))(hj:a≤j)(hy:ws[j]? =some y)(hlt:lt x y=true):
  InsI lt zs ((ws.set (j+1) y).set j x) x a i j:=by
 obtain⟨hp,⟨_,hle,hl⟩,hat,hup,hso,hout⟩:=h;have hj1:j<ws.length:=(List.getElem?_eq_some_iff.1 hy).1;have get: ∀ p,((ws.set (j+1) y).set j x)[p]? =if p=j then some x else if p=j+1 then some y else ws[p]? :=fun p=>by
  rw[List.getElem?_set,List.getElem?_set,List.length_set];by_cases e1:j=p
  ·subst e1;simp[hj1]
  ·by_cases e2:j+1=p
   ·subst e2;have: ¬ (j+1=j):=by omega
    rw[if_neg e1,if_pos rfl,if_pos (by omega),if_neg this,if_pos rfl]
   ·rw[if_neg e1,if_neg e2,if_neg (fun h=>e1 h.symm),if_neg (fun h=>e2 h.symm)]
 refine⟨(swap_perm hat hy).trans hp,⟨hj,by omega,by simp;omega⟩,by rw[get];simp,?_,?_,?_⟩
 ·intro p z h1 h2 hz;rw[get,if_neg (by omega)] at hz;by_cases e:p=j+1
  ·rw[if_pos e] at hz;cases hz;exact hlt
  ·rw[if_neg e] at hz;exact hup p z (by omega) h2 hz
 ·intro p q u v h0 h1 h2 h3 h4 hu hv;rw[get,if_neg h3] at hu;rw[get,if_neg h4] at hv;by_cases e:p=j+1
  ·rw[if_pos e] at hu;cases hu;rw[if_neg (by omega)] at hv;exact hso j q _ _ hj (by omega) h2 (by omega) (by omega) hy hv
  ·rw[if_neg e] at hu;by_cases e2:q=j+1
   ·rw[if_pos e2] at hv;cases hv;exact hso p j _ _ h0 (by omega) (by omega) e (by omega) hu hy
   ·rw[if_neg e2] at hv;exact hso p q _ _ h0 h1 h2 e e2 hu hv
 ·intro p hpp;rw[get,if_neg (by omega),if_neg (by omega),hout p hpp]
theorem InsI.stop{α:Type}{lt:α→α→Bool}{zs ws:List α}{x:α}{a i j:Nat}(o:Swo lt)(h:InsI lt zs ws x a i j)(hj:j=a∨ ∃ y,a<j∧ws[j - 1]? =some y∧lt x y=false):Srt lt ws a (i+1):=by
 obtain⟨hp,⟨hja,hle,hl⟩,hat,hup,hso,hout⟩:=h;intro p q u v h0 h1 h2 hu hv;by_cases e:q=j
 ·subst e;rw[hat] at hv;cases hv;rcases hj with hj|⟨y,hya,hy,hxy⟩
  ·omega
  ·by_cases e3:p=q - 1
   ·subst e3;rw[hy] at hu;cases hu;exact hxy
   ·exact o.ntrans _ _ _ (hso p (q - 1) _ _ h0 (by omega) (by omega) (by omega) (by omega) hu hy) hxy
 ·by_cases e2:p=j
  ·subst e2;rw[hat] at hu;cases hu;exact o.asym _ _ (hup q v h1 (by omega) hv)
  ·exact hso p q u v h0 h1 (by omega) e2 e hu hv
theorem Srt.mono{α:Type}{lt:α→α→Bool}{ws:List α}{a b c:Nat}(h:Srt lt ws a c)(hb:b≤c∨ws.length≤c):Srt lt ws a b:=fun p q x y h0 h1 h2 hx hy=>h p q x y h0 h1 (by
 rcases hb with hb|hb
 ·omega
 ·have:=(List.getElem?_eq_some_iff.1 hy).1;omega) hx hy
abbrev ltI(a b:Int):Bool:=decide (a<b)
theorem swoI:Swo ltI:=⟨fun a b h=>by simp at*;omega,fun a b c h k=>by simp at*;omega⟩
theorem nan_p(a:Int):PEv S 196 [vi a] (rb false):=by
 refine pev1 c196 ?_;have h:(a !=a)=false:=by simp
 simp only[go_sem,i196,h]
theorem less_i(a b:Int):PEv S 175 [vi a,vi b] (rb (ltI a b)):=by
 have pn:=nan_p a;refine pev1 c175 ?_;simp only[go_sem,i175,s196,gP_bool pn,ltI]
theorem bits_p(n:Nat)(h:n≤1000000): ∃ k:Int,PEv S 118 [.one (.p (.int .u64 n))] (ri k):=by
 refine⟨((Lib.bitLen n:Nat):Int),⟨1,?_⟩⟩;have hp:S.prim 118 [.one (.p (.int .u64 (n:Int)))]=some (some (ri ((Lib.bitLen n:Nat):Int))):=by
  show some (primBits [.one (.p (.int .u64 (n:Int)))])=_;simp only[primBits];rw[if_pos ⟨by omega,by omega⟩];rfl
 rw[callP,hp]
theorem iP_set(o:List Int)(k:Nat)(v:Int):(iP o).set k [.int .i64 v]=iP (o.set k v):=by simp[List.map_set]
theorem iP_len(o:List Int):(iP o).length=o.length:=List.length_map _
def soPost(lt:Int→Int→Bool)(id g ty:Nat)(es:List Int)(blk:Blk)(v:V)(blk':Blk):Prop:=v= .tup []∧(∃ ws:List Int,blk' id=(g,some (.arr ty 1 (iP ws)))∧ws.Perm es∧Srt lt ws 0 ws.length)∧Kept (· =id) blk blk'
theorem insI_s{al:Al}{blk:Blk}{id g ty:Nat}{es:List Int}(o:al.ok id=true)(hl:es.length≤1000000)(hC:blk id=(g,some (.arr ty 1 (iP es)))):
  ∃ v blk',SEv S 169 [.one (.hsl id g 1 0 es.length),vi 0,vi es.length] al blk v blk'∧soPost ltI id g ty es blk v blk':=by
 refine SEv_fn c169 (Nat.le_of_ble_eq_true rfl) ?_;have w0:IntKind.i64.wrap (0+1)=((0+1:Nat):Int):=by decide
 simp only[go_sem,i169];refine R_for (fun k env blk'=>env 0= .one (.hsl id g 1 0 es.length)∧env 1=vi 0∧env 2=vi es.length∧env 6=vi ((k+1:Nat):Int)∧ ∃ zs:List Int,blk' id=(g,some (.arr ty 1 (iP zs)))∧zs.Perm es∧Srt ltI zs 0 (k+1)∧Kept (· =id) blk blk') 0 es.length (Nat.zero_le _) ?_ ?_
 ·simp only[go_sem];exact⟨rfl,es,hC, .refl _,fun p q x y _ h1 h2=>by omega,Kept.refl _ _⟩
 ·rintro k env blk1 hk ⟨h0,h1,h2,h6,zs,hZ,hp,hs,hkp⟩
  have hzl:=hp.length_eq;by_cases hlt:k+1<es.length
  ·have hlt':((k+1:Nat):Int)<(es.length:Int):=by omega
   obtain⟨x,hx⟩:=at_lt (ls:=zs) (k:=k+1) (by omega);simp only[go_sem,i169_l3,h2,h6,hlt'];refine R_for (fun q env blk'=>env 0= .one (.hsl id g 1 0 es.length)∧env 1=vi 0∧env 2=vi es.length∧env 6=vi ((k+1:Nat):Int)∧env 7=vi ((k+1 - q:Nat):Int)∧ ∃ ws:List Int,blk' id=(g,some (.arr ty 1 (iP ws)))∧InsI ltI zs ws x 0 (k+1) (k+1 - q)∧Kept (· =id) blk blk') 0 (k+1) (Nat.zero_le _) ?_ ?_
   ·simp only[go_sem,h0,h1,h2,h6];exact⟨zs,hZ,InsI.start (Nat.zero_le _) hx hs,hkp⟩
   ·rintro q env2 blk2 hq ⟨k0,k1,k2,k6,k7,ws,hW,hI,hkp2⟩
    have hwl:ws.length=es.length:=hI.perm.length_eq.trans hzl;have wk:IntKind.i64.wrap (((k+1:Nat):Int)+1)=((k+1+1:Nat):Int):=wrap_succ (n:=k+1) (by omega);by_cases hj0:k+1 - q=0
    ·have e7: ¬ ((0:Int)<((k+1 - q:Nat):Int)):=by omega
     simp only[go_sem,i169_l1,i169_r2,k0,k1,k2,k6,k7,e7,wk];refine⟨okd,by omega,ws,hW,hI.perm.trans hp,hI.stop swoI (.inl hj0),hkp2⟩
    ·obtain⟨j,hj⟩: ∃ j,k+1 - q=j+1:=⟨k - q,by omega⟩;have e7:((0:Int)<((j+1:Nat):Int)):=by omega
     obtain⟨y,hy⟩:=at_lt (ls:=ws) (k:=j) (by omega);rw[hj] at hI k7;have wj:IntKind.i64.wrap (((j+1:Nat):Int) - 1)=(j:Int):=by rw[wrap_m1 (by omega)];omega
     have hxa:=iP_at hI.at';have hya:=iP_at hy;have j1:j+1<es.length:=by have:=hI.le;omega
     have j2:j<es.length:=by omega
     have pl:=less_i x y;cases hxy:ltI x y with
     |false=>
      rw[hxy] at pl;simp only[go_sem,i169_l1,i169_r2,k0,k1,k2,k6,k7,e7,wk,wj,hW,hxa,hya,j1,j2,o,s175,dP_pA pl];refine⟨okd,by omega,ws,rfl,hI.perm.trans hp,hI.stop swoI (.inr ⟨y,by omega,hy,hxy⟩),hkp2⟩
     |true=>
      rw[hxy] at pl;have hI2:=hI.step swoI (Nat.zero_le _) hy hxy;have hjj: ¬ (j+1=j):=by omega
      have l1:j+1<ws.length:=by omega
      have l2:j<ws.length:=by omega
      simp only[go_sem,i169_l1,i169_r2,k0,k1,k2,k6,k7,e7,wj,hW,hxa,hya,j1,j2,l1,hjj,o,s175,dP_pA pl,List.getElem?_set,iP_len];have hq2:k+1 - (q+1)=j:=by omega
      refine⟨okd,okd,by omega,by rw[hq2],(ws.set (j+1) y).set j x,by rw[iP_set,iP_set],by rw[hq2];exact hI2,(hkp2.upd rfl _).upd rfl _⟩
  ·have hlt': ¬ (((k+1:Nat):Int)<(es.length:Int)):=by omega
   simp only[go_sem,i169_l3,h2,h6,hlt'];exact⟨rfl,⟨zs,hZ,hp,hs.mono (.inl (by omega))⟩,hkp⟩
theorem gP_soA{Q:Post}{al:Al}{env:Env}{blk:Blk}{os:List IOper}{d:Option Nat}{f id g ty z o n:Nat}{vs:List V}{es:List (List PV)}{P:V→Blk→Prop}(hC:blk id=(g,some (.arr ty z es)))(hvs:(vs.map (reachV blk)).flatten=[])(hh:al= .all∨al.ok id=true∧(S.sites f).all al.fs.contains=true)
  (h: ∀ al',al'.ok id=true→al'.fs=S.sites f→ ∃ v blk',SEv S f (.one (.hsl id g z o n)::vs) al' blk v blk'∧P v blk')
  (hK: ∀ v blk',P v blk'→RN S al os Q (put env d v) blk'):gP S al (.sc f (.one (.hsl id g z o n)::vs)) d os Q env blk:=by
 have hr:((V.one (.hsl id g z o n)::vs).map (reachV blk)).flatten=[id]:=by
  rw[List.map_cons,List.flatten_cons,hvs,reach_hsl hC];rfl
 refine gP_sc2 (P:=P) ?_ (h _ (allow_okI (by rw[hr];simp)) rfl) hK;rcases hh with rfl|⟨h1,h2⟩
 ·rfl
 ·refine holds_of ?_ h2;show al.oks ((V.one (.hsl id g z o n)::vs).map (reachV blk)).flatten=true;rw[hr];simp[Al.oks,h1]
theorem pdqI_s{al:Al}{blk:Blk}{id g ty:Nat}{es:List Int}(o:al.ok id=true)(f1:al.fs.contains 169=true)(hl:es.length≤12)(hC:blk id=(g,some (.arr ty 1 (iP es))))(lim:Int):
  ∃ v blk',SEv S 154 [.one (.hsl id g 1 0 es.length),vi 0,vi es.length,vi lim] al blk v blk'∧soPost ltI id g ty es blk v blk':=by
 refine SEv_fn c154 (Nat.le_of_ble_eq_true rfl) ?_;have w0:IntKind.i64.wrap ((es.length:Int) - 0)=(es.length:Int):=by rw[Int.sub_zero];exact wrapI (by omega) (by omega)
 have h12:(es.length:Int)≤12:=by omega
 simp only[go_sem,i154];refine R_unroll ?_;simp only[go_sem,i154_l1,w0,h12,s169];refine gP_soA hC (by rfl) (.inr ⟨o,by rw[show S.sites 169=[169] by kernel_rfl];simp only[List.all_cons,List.all_nil,f1,Bool.and_self]⟩) (P:=soPost ltI id g ty es blk) (fun al' h1 _=>insI_s h1 (by omega) hC) fun v blk' hP=> ?_
 obtain⟨rfl,h2⟩:=hP;simp only[go_sem];exact⟨rfl,h2⟩
theorem sortI_s{al:Al}{blk:Blk}{id g ty:Nat}{es:List Int}(o:al.ok id=true)(f1:(S.sites 154).all al.fs.contains=true)(hl:es.length≤12)(hC:blk id=(g,some (.arr ty 1 (iP es)))):
  ∃ v blk',SEv S 119 [.one (.hsl id g 1 0 es.length)] al blk v blk'∧soPost ltI id g ty es blk v blk':=by
 obtain⟨k,pb⟩:=bits_p es.length (by omega);have wu:IntKind.u64.wrap (es.length:Int)=(es.length:Int):=by
  have e:IntKind.u64.wrap (es.length:Int)=(es.length:Int)%18446744073709551616:=by
   unfold IntKind.wrap;rfl
  rw[e];omega
 refine SEv_fn c119 (Nat.le_of_ble_eq_true rfl) ?_;have sbl:S.shared 118=false:=by kernel_rfl
 simp only[go_sem,i119,wu,sbl,gP_pA pb,s154];refine gP_soA hC (by rfl) (.inr ⟨o,f1⟩) (P:=soPost ltI id g ty es blk) (fun al' h1 h2=>pdqI_s h1 (by rw[h2];kernel_rfl) hl hC k) fun v blk' hP=> ?_
 obtain⟨rfl,h2⟩:=hP;simp only[go_sem];exact⟨rfl,h2⟩
def cpK(ws:List Int):Nat→List Int
 |0=>[]
 |k+1=>match ws[k]? with
  |some x=>if 0<k∧ws[k - 1]? =some x then cpK ws k else cpK ws k++[x]
  |none=>cpK ws k
theorem cpK_len(ws:List Int): ∀ k,(cpK ws k).length≤k:=by
 intro k
 induction k with
 |zero=>exact Nat.le_refl _
 |succ k ih=>
  unfold cpK;split
  ·split
   ·omega
   ·simp;omega
  ·omega
theorem cpK_same{ws:List Int}{k:Nat}{x:Int}(h:ws[k+1]? =some x)(hp:ws[k]? =some x):cpK ws (k+2)=cpK ws (k+1):=by
 conv=>lhs;unfold cpK
 rw[h];simp[hp]
theorem cpK_new{ws:List Int}{k:Nat}{x y:Int}(h:ws[k+1]? =some x)(hp:ws[k]? =some y)(hn: ¬ x=y):cpK ws (k+2)=cpK ws (k+1)++[x]:=by
 conv=>lhs;unfold cpK
 rw[h];have: ¬ y=x:=fun e=>hn e.symm
 simp[hp,this]
theorem cpK_one{ws:List Int}{x:Int}(h:ws[0]? =some x):cpK ws 1=[x]:=by simp[cpK,h]
def noDup(ws:List Int)(k:Nat):Prop:= ∀ i x y,i+1<k→ws[i]? =some x→ws[i+1]? =some y→ ¬ y=x
theorem cpK_noDup{ws:List Int}: ∀ k,k≤ws.length→noDup ws k→cpK ws k=ws.take k:=by
 intro k
 induction k with
 |zero=>intro _ _;rfl
 |succ k ih=>
  intro hk h;obtain⟨x,hx⟩:=at_lt (ls:=ws) (k:=k) (by omega);have e:=ih (by omega) fun i x y h1=>h i x y (by omega)
  have ht:ws.take (k+1)=ws.take k++[x]:=by rw[List.take_add_one,hx];rfl
  rcases k with _|k
  ·rw[cpK_one hx,ht];rfl
  ·obtain⟨y,hy⟩:=at_lt (ls:=ws) (k:=k) (by omega);rw[cpK_new hx hy (h k y x (by omega) hy hx),e,ht]
structure cpI (ws cs:List Int) (k q:Nat):Prop where
 len:cs.length=ws.length
 kl:k=(cpK ws q).length
 pre:cs.take k=cpK ws q
 out: ∀ p,q - 1≤p→cs[p]? =ws[p]?
 kq:k<q
theorem cpI.step{ws cs:List Int}{k q:Nat}{x y:Int}(h:cpI ws cs k (q+1))(hx:ws[q+1]? =some x)(hy:ws[q]? =some y)(hn: ¬ x=y):cpI ws (cs.set k x) (k+1) (q+2):=by
 obtain⟨h1,h2,h3,h4,h5⟩:=h;have hl:=cpK_len ws (q+1);have hq:q+1<ws.length:=(List.getElem?_eq_some_iff.1 hx).1;refine⟨by simpa using h1,by rw[cpK_new hx hy hn,List.length_append,← h2];rfl,?_,fun p hp=> ?_,by omega⟩
 ·rw[cpK_new hx hy hn,List.take_add_one,List.getElem?_set];have:k<cs.length:=by omega
  rw[if_pos rfl,if_pos this,List.take_set_of_le (Nat.le_refl _),h3];rfl
 ·rw[List.getElem?_set,if_neg (by omega)];exact h4 p (by omega)
theorem cpI.skip{ws cs:List Int}{k q:Nat}{x:Int}(h:cpI ws cs k (q+1))(hx:ws[q+1]? =some x)(hy:ws[q]? =some x):cpI ws cs k (q+2):=by
 obtain⟨h1,h2,h3,h4,h5⟩:=h;exact⟨h1,by rw[cpK_same hx hy];exact h2,by rw[cpK_same hx hy];exact h3,fun p hp=>h4 p (by omega),by omega⟩
theorem cpI.start{ws:List Int}{k:Nat}{x:Int}(hk:k+1<ws.length)(h:noDup ws (k+1))(hx:ws[k+1]? =some x)(hy:ws[k]? =some x):cpI ws ws (k+1) (k+2):=by
 have e:=cpK_noDup (k+1) (by omega) h;have e2:cpK ws (k+2)=ws.take (k+1):=(cpK_same hx hy).trans e;exact⟨rfl,by rw[e2];simp;omega,by rw[e2],fun _ _=>rfl,by omega⟩
def ddI:List Int→List Int
 |[]=>[]
 |x::r=>if x∈r then ddI r else x::ddI r
def crP(ls:List Let)(e:Nat):Bool:=((pA ls e).l.kind==2)&&((pA ls (nx ls e)).l.kind==2)
def tgL(ls:List Let)(es:List Nat):List Int:=es.flatMap fun e:Nat=>[(e:Int),(nx ls e:Int)]
def tgI(ls:List Let)(es:List Nat):List Int:=es.flatMap fun e:Nat=>[(pA ls e).l.id,(pA ls (nx ls e)).l.id]
def tgB(F:Nat)(ls:List Let)(a b c:Nat):Bool:=[a,b,c].all (crP ls)&&(((ddI (tgL ls [a,b,c])).length==6)&&(((ddI (tgI ls [a,b,c])).length==3)&&([a,b,c].any (boR ls · true)&&([a,b,c].any (boR ls · false)&&cornR F ls 0 [a,b,c] a))))
def tgR(F:Nat)(ls:List Let)(a b c:Nat):Option (List Pc):=if tgB F ls a b c then some (swL ls (pieces ls) [a,b,c]) else none
abbrev kagC:List C:=[.p .nilf, .p (.fn 102 [] []), .p (.fn 103 [] []), .p (.fn 104 [] []), .p (.fn 105 [] []), .p (.fn 106 [] []), .p (.fn 107 [] []), .p (.fn 108 [] []), .p (.fn 109 [] []), .p (.fn 110 [] []), .p (.fn 110 [] [])]
theorem grows_small(k:Int):0≤(growsR k).1∧(growsR k).1≤4∧0≤(growsR k).2∧(growsR k).2≤2:=by
 unfold growsR;split
 ·simp
 ·split
  ·simp
  ·split<;>simp
theorem do_g(hlen:ls.length≤400)(hcr:cnt Let.isC ls≤200){k f:Nat}{rest:List C}(hk:kagC.drop k= .p (.fn f [] [])::rest)(hk2:k<11)(hsf:S.shared f=false){a b c:Int}{l o:Bool}{sg:Int}{res:Option (List Pc)}(ha:PEv S 75 [.one (.p (brdV F ls)),mvV k a b c l o sg] (rb true))(hm:PEv S f [.one (.p (brdV F ls)),mvV k a b c l o sg] (kR res))(hL: ∀ L,res=some L→L.length≤1000000):
  PEv S 50 [.one (.p (brdV F ls)),mvV k a b c l o sg] (doR F ls k res):=by
 have hfin:=finished_p F;have pg:=grows_p k;have lo1:S.lone 3200192384=false:=by kernel_rfl
 have lo2:S.lone 3200576128=false:=by kernel_rfl
 have hlk: ∀ (blk:Blk),land blk [] 3200192000 ((RV.agg [.p .nilf, .p (.fn 102 [] []), .p (.fn 103 [] []), .p (.fn 104 [] []), .p (.fn 105 [] []), .p (.fn 106 [] []), .p (.fn 107 [] []), .p (.fn 108 [] []), .p (.fn 109 [] []), .p (.fn 110 [] []), .p (.fn 110 [] [])]).pureIf (S.lone 3200192000))=some (.agg kagC,[]):=fun blk=>by cases S.lone 3200192000<;>rfl
 have hpl:=pieces_len ls;obtain⟨g1,g2,g3,g4⟩:=grows_small k;have lg: ∀ blk:Blk,land blk [] 3200384128 ((RV.tup [.one (.p (.int .i64 (growsR k).1)), .one (.p (.int .i64 (growsR k).2))]).pureIf (S.lone 3200384128))=some (.tup [.one (.p (.int .i64 (growsR k).1)), .one (.p (.int .i64 (growsR k).2))],[]):=fun blk=>land_tup
 obtain⟨gr1,gr2,hgr⟩: ∃ x y,growsR k=(x,y):=⟨_,_,rfl⟩;have d4:doR F ls k none=rcode 4:=rfl;have d7: ∀ L,((400:Int)<(ls.length:Int)+gr1∨(100:Int)<((cnt Let.isC ls/2:Nat):Int)+gr2)→doR F ls k (some L)=rcode 7:=fun L h=>by
  unfold doR;rw[hgr];exact if_pos h
 have d0: ∀ L,¬ ((400:Int)<(ls.length:Int)+gr1∨(100:Int)<((cnt Let.isC ls/2:Nat):Int)+gr2)→doR F ls k (some L)=rokc F (finL L):=fun L h=>by
  unfold doR;rw[hgr];exact if_neg h
 rw[hgr] at g1 g2 g3 g4 pg;simp only[hgr] at lg;simp only at g1 g2 g3 g4 lg pg;have w1:IntKind.i64.wrap (((pieces ls).length:Int)+gr1)=(ls.length:Int)+gr1:=by rw[hpl];exact wrapI (by omega) (by omega)
 have w2:IntKind.i64.wrap (((cnt Let.isC ls/2:Nat):Int)+gr2)=((cnt Let.isC ls/2:Nat):Int)+gr2:=wrapI (by omega) (by omega);unfold kR at hm;generalize kagC=kg at hk hlk;refine pev1 c50 ?_;simp only[go_sem,i50,s75,gP_bool ha,s76,dP_land kinds_p (hlk _),hk,hk2,hsf];refine dP_g1p hm lo1 fun cc blk1 w gc hb hw=> ?_
 have b0:=hb 3200000000 (by decide);have b1:=hb 3200000064 (by decide);simp only[go_sem] at b0 b1;cases res with
 |none=>
  rw[d4];simp only[go_sem,b1];refine⟨?_,rfl⟩;rcases hw with rfl|rfl<;>kernel_rfl
 |some L=>
  simp only[Option.getD_some] at gc;have pfin:=hfin L (hL L rfl) (.sl (pcP (pieces ls))) (.sl (fcP (facesL F ls))) (.sl (nP (leftL F ls))) (.int .i64 (cnt Let.isP ls:Nat)) (.int .i64 ((cnt Let.isC ls/2:Nat):Int)) (.sl (nP (counts ls F)));obtain⟨rs,hsn,_⟩:=gc.snapN;by_cases h1:(400:Int)<(ls.length:Int)+gr1
  ·rw[d7 L (.inl h1)];simp only[go_sem,b0,b1,s77,gP_land pg (lg _),w1,h1];refine⟨?_,rfl⟩;rcases hw with rfl|rfl<;>kernel_rfl
  ·by_cases h2:(100:Int)<((cnt Let.isC ls/2:Nat):Int)+gr2
   ·rw[d7 L (.inr h2)];simp only[go_sem,b0,b1,s77,gP_land pg (lg _),w1,w2,h1,h2];refine⟨?_,rfl⟩;rcases hw with rfl|rfl<;>kernel_rfl
   ·rw[d0 L (by rintro (h|h);exact h1 h;exact h2 h)];simp only[go_sem,b0,s77,gP_land pg (lg _),w1,w2,h1,h2,hsn,s78];refine⟨?_,?_⟩
    ·rcases hw with rfl|rfl<;>kernel_rfl
    refine gP_gA pfin lo2 rfl (sc_let _) fun c2 blk2 gc2 hb2=> ?_
    have b02:=(hb2 3200000064 (by decide)).trans b1;simp only[go_sem,b02];exact grown_outT (gc2.of_eq (upd_ne (by decide)))
theorem do_arg{k a b c:Int}{l o:Bool}{sg:Int}(ha:PEv S 75 [.one (.p (brdV F ls)),mvV k a b c l o sg] (rb false)):PEv S 50 [.one (.p (brdV F ls)),mvV k a b c l o sg] (rcode 2):=by
 refine pev1 c50 ?_;simp only[go_sem,i50,s75,gP_bool ha];try rfl
def moveR(F:Nat)(ls:List Let)(k:Int)(a b c:Nat)(l o:Bool)(sg:Int):Option (List Pc):=
 if k=1 then acR ls a else if k=2 then amR F ls a b c else if k=3 then asR F ls a b else if k=4 then lcR ls a else if k=5 then some (lmR ls a sg o) else if k=6 then pcR F ls a b else if k=7 then pmR F ls a b l o else if k=8 then tgR F ls a b c else if k=9 then trR F ls a else tlR ls a
def appR(F:Nat)(ls:List Let)(k a b c:Int)(l o:Bool)(sg:Int):RV:=if argB F ls k a b c l o sg then doR F ls k (moveR F ls k a.toNat b.toNat c.toNat l o sg) else rcode 2
theorem appR_form{k a b c:Int}{l o:Bool}{sg:Int}:(∃ e,appR F ls k a b c l o sg=rcode e)∨ ∃ L,appR F ls k a b c l o sg=rokc F L:=by
 unfold appR;split
 ·cases moveR F ls k a.toNat b.toNat c.toNat l o sg with
  |none=>exact .inl ⟨4,rfl⟩
  |some L=>
   by_cases h:(400:Int)<(ls.length:Int)+(growsR k).1∨(100:Int)<((cnt Let.isC ls/2:Nat):Int)+(growsR k).2
   ·exact .inl ⟨7,if_pos h⟩
   ·exact .inr ⟨finL L,if_neg h⟩
 ·exact .inl ⟨2,rfl⟩
theorem apply_gen{k a b c:Int}{l o:Bool}{sg:Int}{res:RV}(po:PEv S 31 [codeV F ls] (rtup (brdV F ls) (.int .i64 0)))(hd:PEv S 50 [.one (.p (brdV F ls)),mvV k a b c l o sg] res)(fin:(∃ e,res=rcode e)∨ ∃ L,res=rokc F L):
  PEv S 30 [codeV F ls,mvV k a b c l o sg] res:=by
 have lo:S.lone 1920256128=false:=by kernel_rfl
 refine pev1 c30 ?_;rcases fin with ⟨e,rfl⟩|⟨L,rfl⟩
 ·simp only[go_sem,i30,s31,gP_land po land_tup,s50,gP_land hd land_code,planAppend,szOK];rfl
 ·simp only[go_sem,i30,s31,gP_land po land_tup,s50];refine gP_gT hd lo fun cc blk1 gc hb=> ?_
  have b4:=hb 1920000128 (by decide);simp only[go_sem] at b4;simp only[go_sem,b4];exact grown_outT (gc.of_eq (upd_ne (by decide)))
theorem isI_nat{n:Nat}{i:Int}(h:isI n i=true): ∃ k:Nat,i=(k:Int)∧k<n:=by
 unfold isI at h;simp at h;exact⟨i.toNat,by omega,by omega⟩
theorem keepL_len(l:List Pc)(drop:Nat→Pc→Bool):(keepL l drop).length≤l.length:=keepK_len l drop l.length
theorem setGR_len(l:List Pc)(i:Nat)(g r:Int):(setGR l i g r).length=l.length:=by simp[setGR]
theorem moveR_len{k:Int}{a b c:Nat}{l o:Bool}{sg:Int}{L:List Pc}(h:moveR F ls k a b c l o sg=some L):L.length≤ls.length+4:=by
 have hp:=pieces_len ls;unfold moveR at h;repeat' split at h
 ·unfold acR at h;simp only at h;split at h
  ·cases h
   have:=keepL_len (pieces ls) (fun k _=>decide (k=a)||decide (k=(a+1)%ls.length));simp only[shiftL,List.length_map];omega
  ·cases h
 ·unfold amR at h;split at h
  ·cases h;simp only[amIns,insAt_len,shiftL,List.length_map,List.length_cons,List.length_nil];omega
  ·split at h
   ·cases h;simp only[amIns,insAt_len,shiftL,List.length_map,List.length_cons,List.length_nil];omega
   ·cases h
 ·unfold asR at h;split at h
  ·cases h;simp only[swL_len,setRk_len];omega
  ·cases h
 ·unfold lcR at h;simp only at h;split at h
  ·cases h
   have:=keepL_len (pieces ls) (dropI [((pieces ls).getD a ⟨noLet,false⟩).l.id]);simp only[dropL,List.length_map];omega
  ·cases h
 ·cases h;simp only[lmR,insAt_len,List.length_cons,List.length_nil];omega
 ·unfold pcR at h;split at h
  ·cases h
   have:=keepL_len (pieces ls) (dropI [(pA ls a).l.id,(pA ls (nx ls a)).l.id]);simp only[dropL,List.length_map];omega
  ·cases h
 ·have key: ∀ s t,pmV ls a b l o s t=some L→L.length≤ls.length+4:=fun s t h=>by
   unfold pmV at h;split at h
   ·cases h
   ·simp only[Option.some.injEq] at h;subst h;have h2: ∀ x sg o s,(pmS x sg o s).length=2:=fun x sg o s=>by unfold pmS;split<;>rfl
    split<;>simp only[insAt_len,h2,List.length_cons,List.length_nil]<;>omega
  unfold pmR at h;split at h
  ·exact key _ _ h
  ·exact key _ _ h
 ·unfold tgR at h;split at h
  ·cases h;simp only[swL_len];omega
  ·cases h
 ·unfold trR at h;split at h
  ·cases h;simp only[setGR_len,shiftL,List.length_map];omega
  ·cases h
 ·unfold tlR at h;split at h
  ·cases h;simp only[setGR_len,shiftL,List.length_map];omega
  ·cases h
end
end Go.Abs
