/-
  The normal form of a code is a function.
-/
import Derived.Test.YtchbcakfkniimaaGreatDoorWx
set_option linter.unusedSimpArgs false
set_option linter.unusedVariables false
set_option linter.unusedSectionVars false
set_option maxRecDepth 100000
set_option maxHeartbeats 16000000
namespace Go.Abs
section
variable{F:Nat}{ls:List Let}
abbrev lA(ls:List Let)(i:Nat):Let:=ls.getD i noLet
theorem lA_of{i:Nat}{l:Let}(h:ls[i]? =some l):lA ls i=l:=by rw[lA,List.getD_eq_getElem?_getD,h];rfl
theorem lA_at{i:Nat}(h:i<ls.length):ls[i]? =some (lA ls i):=by
 obtain⟨l,hl⟩:=at_lt h;rw[lA_of hl,hl]
theorem szL(l:List Let):szOK 6 (letP l)=true:=by simp[szOK,Let.ps]
theorem letP_app(a b:List Let):letP (a++b)=letP a++letP b:=List.map_append
theorem letP_ne{L:List Let}(h:L≠[]):letP L≠[]:=by simpa [letP] using h
def leq(a b:Let):Bool:=(a.kind==b.kind)&&((a.gate==b.gate)&&((a.rank==b.rank)&&((a.id==b.id)&&((a.sign==b.sign)&&(a.over==b.over)))))
theorem eq_let(x y:Let):eqCs [true,true,true,true,true,false] [.p (.int .i64 x.kind), .p (.int .i64 x.gate), .p (.int .i64 x.rank), .p (.int .i64 x.id), .p (.int .i64 x.sign), .p (.bool x.over)] [.p (.int .i64 y.kind), .p (.int .i64 y.gate), .p (.int .i64 y.rank), .p (.int .i64 y.id), .p (.int .i64 y.sign), .p (.bool y.over)]=some (leq x y):=by
 have e: ∀ a b:Int,eqC true (.int .i64 a) (.int .i64 b)=some (a==b):=fun a b=>by simp[eqC]
 have e2: ∀ a b:Bool,eqC false (.bool a) (.bool b)=some (a==b):=fun a b=>by simp[eqC]
 simp only[eqCs,leq,e,e2];cases (x.kind==y.kind)<;>cases (x.gate==y.gate)<;>cases (x.rank==y.rank)<;>cases (x.id==y.id)<;>cases (x.sign==y.sign)<;>cases (x.over==y.over)<;>rfl
theorem leq_self(x:Let):leq x x=true:=by simp[leq]
theorem rotated_p(L:List Let)(k:Nat)(hk:k≤L.length)(hl:L.length≤1000000):PEv S 53 [.one (.p (lsP L)),vi k] (.one (grownR lsTy 6 (letP (L.drop k++L.take k)))):=by
 have hs6:=szL L;have hdr:List.take (L.length - k) (List.drop k (letP L))=letP (L.drop k):=by rw[List.take_of_length_le (by simp)];simp[List.map_drop]
 have htk:List.take k (letP L)=letP (L.take k):=by simp[List.map_take]
 rw[letP_app];refine pev1 c53 ?_;simp only[go_sem,i53,hk,hs6,hdr];refine dP_app (id:=3392064192) (bytes:=48) grown.nil (xs:=letP (L.drop k)) (rd:=[]) rfl (.inr (szL _)) (by simp;omega) fun c1 blk1 r w g1 hb1 hw=> ?_
 rw[List.nil_append] at g1;simp only[go_sem,hk,hs6,htk];refine dP_app (bytes:=48) g1 (xs:=letP (L.take k)) (rd:=[]) rfl (.inr (szL _)) (by simp;omega) fun c2 blk2 r2 w2 g2 hb2 hw2=> ?_
 simp only[go_sem];refine⟨?_,grown_out g2⟩;rcases hw with ⟨rfl,rfl⟩|⟨rfl,rfl⟩|⟨rfl,rfl⟩<;>rcases hw2 with ⟨rfl,rfl⟩|⟨rfl,rfl⟩|⟨rfl,rfl⟩<;>kernel_rfl
theorem less_p(a b:Let): ∃ r,PEv S 71 [letV a,letV b] (rb r):=by
 by_cases h1:a.kind=b.kind
 ·by_cases h2:a.gate=b.gate
  ·by_cases h3:a.rank=b.rank
   ·by_cases h4:a.id=b.id
    ·cases h5:(a.over==b.over) with
     |true=>
      refine⟨decide (a.sign<b.sign),?_⟩;refine pev1 c71 ?_;simp only[go_sem,i71,h1,h2,h3,h4,h5,bne]
     |false=>
      refine⟨b.over,?_⟩;refine pev1 c71 ?_;simp only[go_sem,i71,h1,h2,h3,h4,h5,bne]
    ·have h4':(a.id==b.id)=false:=by simp[h4]
     refine⟨decide (a.id<b.id),?_⟩;refine pev1 c71 ?_;simp only[go_sem,i71,h1,h2,h3,h4',bne]
   ·have h3':(a.rank==b.rank)=false:=by simp[h3]
    refine⟨decide (a.rank<b.rank),?_⟩;refine pev1 c71 ?_;simp only[go_sem,i71,h1,h2,h3',bne]
  ·have h2':(a.gate==b.gate)=false:=by simp[h2]
   refine⟨decide (a.gate<b.gate),?_⟩;refine pev1 c71 ?_;simp only[go_sem,i71,h1,h2',bne]
 ·have h1':(a.kind==b.kind)=false:=by simp[h1]
  refine⟨decide (a.kind<b.kind),?_⟩;refine pev1 c71 ?_;simp only[go_sem,i71,h1',bne]
def befF(A B:List Let):Option Nat:=(List.range A.length).find? fun k=> !leq (lA A k) (lA B k)
noncomputable def befR (A B:List Let):Bool:=match befF A B with|some k=>Classical.choose (less_p (lA A k) (lA B k))|none=>false
theorem before_p(A B:List Let)(hAB:A.length=B.length)(hl:A.length≤1000000):PEv S 54 [.one (.p (lsP A)), .one (.p (lsP B))] (rb (befR A B)):=by
 refine pev1 c54 ?_;simp only[go_sem,i54];refine R_for (fun k env blk=>env 0= .one (.p (lsP A))∧env 1= .one (.p (lsP B))∧env 7=vi A.length∧env 8=vi k∧ ∀ j,j<k→leq (lA A j) (lA B j)=true) 0 A.length (Nat.zero_le _) ?_ ?_
 ·simp only[go_sem];exact⟨rfl,fun j h=>absurd h (Nat.not_lt_zero j)⟩
 ·rintro k env blk hk ⟨h0,h1,h7,h8,hn⟩
  by_cases hlt:k<A.length
  ·have hx:=lA_at hlt;have hy:=lA_at (ls:=B) (i:=k) (by omega);have hxi:=ps_of hx;have hyi:=ps_of hy;have hlt':(k:Int)<(A.length:Int):=by omega
   have w1:=wrap_succ (n:=k) (by omega);have hlB:k<B.length:=by omega
   cases he:leq (lA A k) (lA B k) with
   |true=>
    have hn': ∀ j,j<k+1→leq (lA A j) (lA B j)=true:=fun j hj=>by
     rcases Nat.lt_succ_iff_lt_or_eq.1 hj with h|rfl
     ·exact hn j h
     ·exact he
    simp only[go_sem,i54_l1,h0,h1,h7,h8,hxi,hyi,Let.ps,hlt',hlt,w1,eq_let,he];exact⟨okd,hn'⟩
   |false=>
    have hf:befF A B=some k:=find_range hlt (fun j hj=>by rw[hn j hj];rfl) (by rw[he];rfl);have hr:befR A B=Classical.choose (less_p (lA A k) (lA B k)):=by unfold befR;rw[hf]
    have pl:=Classical.choose_spec (less_p (lA A k) (lA B k));rw[← hr] at pl;simp only[go_sem,i54_l1,h0,h1,h7,h8,hxi,hyi,Let.ps,hlt',eq_let,he,s71,dP_bool pl];first|exact⟨okd,okd,rfl⟩|exact⟨okd,okd⟩
  ·have:k=A.length:=by omega
   subst this;have hf:befF A B=none:=find_range_none fun j hj=>by rw[hn j hj];rfl
   have hr:befR A B=false:=by unfold befR;rw[hf]
   rw[hr];simp only[go_sem,i54_l1,i54_r2,h7,h8,no_more]
theorem PEv_ex{S:Sys}{f:Nat}{fn:IFn}{args:List V}{P:RV→Prop}(hp:S.prim f args=none)(hf:S.fns f=some fn)(hl:args.length≤fn.ntmps)
  (h:W S .all fn.body (endQ .all fn.results fun v blk=> ∃ r,P r∧outV blk v=some r) (ienv args) noBlk): ∃ r,P r∧PEv S f args r:=by
 obtain⟨n,v,blk',h1,r,h3,h2⟩:=W_run h;refine⟨r,h3,n+1,?_⟩;rw[callP];simp only[hp,hf,hl,if_true];unfold runP;simp only[h1,h2]
theorem cloneL{l:List Let}(hne:l≠[])(hl:l.length≤1000000):PEv S 33 [.one (.p (lsP l))] (.one (grownR lsTy 6 (letP l))):=by
 have hs:((letP l).all fun e=>e.length==6)=true:=szL l;have hr:(0+(letP l).length)*48≤room:=by unfold room;rw[List.length_map];omega
 show PEv S _ [.one (.p (.sl (letP l)))] _;obtain⟨e0,es,hq⟩: ∃ e0 es,letP l=e0::es:=by cases l with
  |nil=>exact absurd rfl hne
  |cons a t=>exact⟨_,_,rfl⟩
 rw[hq] at hs hr ⊢;refine pev1 c33 ?_;have hne:e0::es≠[]:=by simp
 have hgr:grownR lsTy 6 (e0::es)= .own lsTy 6 (e0::es):=if_neg hne;rw[hgr];unfold room at hr;simp only[Nat.zero_add,List.length_cons] at hr;simp only[List.all_cons] at hs;simp only[go_sem,i33,planAppend,szOK];simp only[hs,hr,not_true_eq_false,if_true,if_false];simp only[go_sem];exact outV_own upd_eq rfl
abbrev mkE(M:List (Int × Int)):List (PV × List PV):=M.map fun e=>(PV.int .i64 e.1,[PV.int .i64 e.2])
def fiM:List (Int × Int)→Int→Nat→Option (Nat × Int)
 |[],_,_=>none
 |(a,v)::r,x,i=>if x==a then some (i,v) else fiM r x (i+1)
theorem findK_mk(M:List (Int × Int))(x:Int): ∀ i,findK (.int .i64 x) (mkE M) i=some ((fiM M x i).map fun p=>(p.1,[PV.int .i64 p.2])):=by
 induction M with
 |nil=>intro i;rfl
 |cons e M ih=>
  intro i;obtain⟨a,v⟩:=e;show findK (.int .i64 x) ((PV.int .i64 a,[PV.int .i64 v])::mkE M) i=_;unfold findK;have hs:sameKey (.int .i64 x) (.int .i64 a)=some (x==a):=by simp[sameKey]
  rw[hs];unfold fiM;cases (x==a) with
  |true=>rfl
  |false=>exact ih (i+1)
theorem mkE_set(M:List (Int × Int))(i:Nat)(x v:Int):(mkE M).set i (PV.int .i64 x,[PV.int .i64 v])=mkE (M.set i (x,v)):=by simp[List.map_set]
theorem mkE_app(M:List (Int × Int))(x v:Int):mkE M++[(PV.int .i64 x,[PV.int .i64 v])]=mkE (M++[(x,v)]):=by simp
theorem letP_set(l:List Let)(k:Nat)(p:Let):(letP l).set k p.ps=letP (l.set k p):=by simp[List.map_set]
def lets(n:Nat)(r:RV):Prop:= ∃ L:List Let,L.length=n∧r= .one (grownR lsTy 6 (letP L))
theorem renamed_p(L:List Let)(hne:L≠[])(hl:L.length≤1000000): ∃ r,lets L.length r∧PEv S 52 [.one (.p (lsP L))] r:=by
 have pcl:=cloneL hne hl;have lo:S.lone 3328128064=false:=by kernel_rfl
 refine PEv_ex rfl c52 (Nat.le_of_ble_eq_true rfl) ?_;simp only[go_sem,i52,s33];refine gP_g1 pcl lo (.inl rfl) fun cc blk0 gc hb0=> ?_
 have b0:=hb0 3328064000 (by decide);rcases gc with ⟨e,_⟩|⟨_,gg,e,hC⟩
 ·exact absurd (by simpa using e) hne
 ·cases e
  rw[List.length_map];simp only[go_sem] at b0;simp only[go_sem];refine R_for (fun k env blk=>env 3= .one (.hmap 3328064000 1)∧env 4= .one (.hsl 3328128064 gg 6 0 L.length)∧env 10= .one (.hsl 3328128064 gg 6 0 L.length)∧env 11=vi L.length∧env 12=vi k∧
   ∃ (M:List (Int × Int)) (X:List Let),blk 3328064000=(1,some (.map false (mkE M)))∧M.length≤k∧X.length=L.length∧blk 3328128064=(gg,some (.arr lsTy 6 (letP X)))) 0 L.length (Nat.zero_le _) ?_ ?_
  ·simp only[go_sem,b0];exact⟨rfl,[],L,rfl,Nat.le_refl _,rfl,hC⟩
  ·rintro k env blk hk ⟨h3,h4,h10,h11,h12,M,X,bM,hM,hX,bX⟩
   by_cases hlt:k<L.length
   ·have hlt':((k:Int)<(L.length:Int)):=by omega
    have hltX:k<X.length:=by omega
    have hx:=lA_at hltX;have hxi:=ps_of hx;have w1:=wrap_succ (n:=k) (by omega);have w2:=wrap_succ (n:=M.length) (by omega);generalize lA X k=x at hx hxi;have fk:=findK_mk M x.id 0;cases hk2:(x.kind==2) with
    |false=>
     simp only[go_sem,i52_l1,h3,h4,h10,h11,h12,bM,bX,hlt,hlt',hxi,Let.ps,hk2,bne,w1];exact⟨M,X,rfl,by omega,hX,rfl⟩
    |true=>
     have fin: ∀ (N:List (Int × Int)) (w:Int),N.length≤k+1→ ∃ (M':List (Int × Int)) (X':List Let),(1,some (Ob.map false (mkE N)))=(1,some (Ob.map false (mkE M')))∧M'.length≤k+1∧X'.length=L.length∧
       (gg,some (Ob.arr lsTy 6 ((letP X).set k [.int .i64 x.kind, .int .i64 x.gate, .int .i64 x.rank, .int .i64 w, .int .i64 x.sign, .bool x.over])))=(gg,some (Ob.arr lsTy 6 (letP X'))):=fun N w hN=>
      ⟨N,X.set k ⟨x.kind,x.gate,x.rank,w,x.sign,x.over⟩,rfl,hN,by rw[List.length_set];exact hX,by rw[← letP_set];rfl⟩
     have upd: ∀ (N:List (Int × Int)),N.length≤k+1→True:=fun _ _=>trivial
     cases hf:fiM M x.id 0 with
     |none=>
      rw[hf] at fk;simp only[Option.map_none] at fk;have f2:=findK_mk (M++[(x.id,((M.length+1:Nat):Int))]) x.id 0;rw[← mkE_app] at f2;cases hf2:fiM (M++[(x.id,((M.length+1:Nat):Int))]) x.id 0 with
      |none=>
       rw[hf2] at f2;simp only[Option.map_none] at f2;simp only[go_sem,i52_l1,h3,h4,h10,h11,h12,bM,bX,hlt,hlt',hxi,Let.ps,hk2,bne,w1,w2,mapOf,mapVal,keyKd,lenM,cellsAg,fk,Option.map_none,f2];rw[mkE_app];exact fin _ _ (by simp;omega)
      |some q=>
       rw[hf2] at f2;simp only[Option.map_some] at f2;simp only[go_sem,i52_l1,h3,h4,h10,h11,h12,bM,bX,hlt,hlt',hxi,Let.ps,hk2,bne,w1,w2,mapOf,mapVal,keyKd,lenM,cellsAg,fk,Option.map_none,f2];rw[mkE_app];exact fin _ _ (by simp;omega)
     |some q=>
      rw[hf] at fk;simp only[Option.map_some] at fk;obtain⟨j,v⟩:=q;simp only at fk;cases hv:(v==0) with
      |false=>
       simp only[go_sem,i52_l1,h3,h4,h10,h11,h12,bM,bX,hlt,hlt',hxi,Let.ps,hk2,bne,w1,mapOf,mapVal,keyKd,fk,hv];exact fin _ _ (by omega)
      |true=>
       have f2:=findK_mk (M.set j (x.id,((M.length+1:Nat):Int))) x.id 0;rw[← mkE_set] at f2;cases hf2:fiM (M.set j (x.id,((M.length+1:Nat):Int))) x.id 0 with
       |none=>
        rw[hf2] at f2;simp only[Option.map_none] at f2;simp only[go_sem,i52_l1,h3,h4,h10,h11,h12,bM,bX,hlt,hlt',hxi,Let.ps,hk2,bne,w1,w2,mapOf,mapVal,keyKd,lenM,cellsAg,fk,Option.map_none,hv,f2];rw[mkE_set];exact fin _ _ (by rw[List.length_set];omega)
       |some q=>
        rw[hf2] at f2;simp only[Option.map_some] at f2;simp only[go_sem,i52_l1,h3,h4,h10,h11,h12,bM,bX,hlt,hlt',hxi,Let.ps,hk2,bne,w1,w2,mapOf,mapVal,keyKd,lenM,cellsAg,fk,hv,f2];rw[mkE_set];exact fin _ _ (by rw[List.length_set];omega)
   ·have:k=L.length:=by omega
    subst this;simp only[go_sem,i52_l1,i52_r2,h4,h11,h12,no_more];refine⟨_,⟨X,hX,rfl⟩,grown_out (.inr ⟨?_,gg,by rw[List.length_map,hX],bX⟩)⟩;intro h2;have:=congrArg List.length h2;rw[List.length_map,hX] at this;exact hne (List.length_eq_zero_iff.1 this)
theorem len6{e:List PV}(h:e.length=6): ∃ x0 x1 x2 x3 x4 x5,e=[x0,x1,x2,x3,x4,x5]:=by
 match e,h with
 |[x0,x1,x2,x3,x4,x5],_=>exact⟨_,_,_,_,_,_,rfl⟩
theorem rev_lets{al:Al}{blk:Blk}{id ty:Nat}{es:List (List PV)}{c:C}(o:es=[]∨al.ok id=true)(hl:es.length≤1000000)(hes: ∀ e∈es,e.length=6∧ ∀ v∈e,v.norm=v)(h:grown id ty 6 es (.one c) blk):
  ∃ v blk',SEv S 70 [.one c] al blk v blk'∧rvPost id ty 6 es c blk v blk':=by
 refine SEv_fn c70 (Nat.le_of_ble_eq_true rfl) ?_;rcases h with ⟨rfl,h2⟩|⟨hne,g,h2,hC⟩
 ·cases h2
  have w0:IntKind.i64.wrap (((0:Nat):Int) - 1)= -1:=by decide
  have hz: ¬ ((0:Int)< -1):=by decide
  simp only[go_sem,i70,w0];refine R_for (fun k env blk'=>k=0∧env 2=vi 0∧env 3=vi (-1)∧blk'=blk) 0 0 (Nat.le_refl _) ?_ ?_
  ·simp only[go_sem]
  ·rintro k env blk' _ ⟨rfl,h2,h3,rfl⟩
   simp only[go_sem,i70_l1,h2,h3,hz];exact⟨rfl, .inl ⟨rfl,rfl⟩,fun _ _=>rfl⟩
 ·cases h2
  have o:=o.resolve_left hne;have w0:=wrap_m1 (a:=es.length) (by omega);simp only[go_sem,i70,w0];refine R_for (fun k env blk'=>env 0= .one (.hsl id g 6 0 es.length)∧env 2=vi k∧env 3=vi ((es.length:Int) - 1 - (k:Int))∧ ∃ fs,blk' id=(g,some (.arr ty 6 fs))∧rvI es fs k∧Kept (· =id) blk blk') 0 es.length (Nat.zero_le _) ?_ ?_
  ·simp only[go_sem];refine⟨rfl,by simp,es,hC,rvI.start es,Kept.refl _ _⟩
  ·rintro k env blk' hk ⟨h0,h2,h3,fs,hF,hI,hkp⟩
   by_cases hlt:k<es.length - 1 - k
   ·have e1:((es.length:Int) - 1 - (k:Int))=((es.length - 1 - k:Nat):Int):=by omega
    rw[e1] at h3;have hlt':((k:Int)<((es.length - 1 - k:Nat):Int)):=by omega
    have w1:=wrap_succ (n:=k) (by omega);have w2:IntKind.i64.wrap (((es.length - 1 - k:Nat):Int) - 1)=((es.length:Int) - 1 - ((k+1:Nat):Int)):=by
     rw[wrap_m1 (by omega)];omega
    obtain⟨a,ha⟩:=at_lt (show k<es.length by omega);obtain⟨b,hb⟩:=at_lt (show es.length - 1 - k<es.length by omega);obtain⟨fa,fb,hI2⟩:=hI.step hlt ha hb;obtain⟨la,na⟩:=hes a (List.mem_of_getElem? ha);obtain⟨lb,nb⟩:=hes b (List.mem_of_getElem? hb);obtain⟨x0,x1,x2,x3,x4,x5,rfl⟩:=len6 la;obtain⟨y0,y1,y2,y3,y4,y5,rfl⟩:=len6 lb;have hnx0:=na x0 (by simp);have hnx1:=na x1 (by simp);have hnx2:=na x2 (by simp);have hnx3:=na x3 (by simp);have hnx4:=na x4 (by simp);have hnx5:=na x5 (by simp)
    have hny0:=nb y0 (by simp);have hny1:=nb y1 (by simp);have hny2:=nb y2 (by simp);have hny3:=nb y3 (by simp);have hny4:=nb y4 (by simp);have hny5:=nb y5 (by simp);have hfl:=hI.len;have hkj: ¬ (k=es.length - 1 - k):=by omega
    have hkj': ¬ (es.length - 1 - k=k):=by omega
    have l1:k<fs.length:=by omega
    have l2:es.length - 1 - k<fs.length:=by omega
    have l3:k<es.length:=by omega
    have l4:es.length - 1 - k<es.length:=by omega
    simp only[go_sem,i70_l1,h0,h2,h3,hF,hlt',fa,fb,w1,w2,o,l1,l3,l4,hkj,hnx0,hnx1,hnx2,hnx3,hnx4,hnx5,hny0,hny1,hny2,hny3,hny4,hny5,List.getElem?_set];refine⟨okd,_,rfl,hI2,?_⟩;exact(hkp.upd rfl _).upd rfl _
   ·have hlt': ¬ ((k:Int)<(es.length:Int) - 1 - (k:Int)):=by omega
    simp only[go_sem,i70_l1,h2,h3,hlt'];refine⟨rfl,?_,hkp⟩;rw[hI.done hlt] at hF;exact .inr ⟨by simpa using hne,g,by rw[List.length_reverse],hF⟩
theorem let_norm(l:List Let): ∀ e∈letP l,e.length=6∧ ∀ v∈e,v.norm=v:=fun e he=>by
 obtain⟨x,_,rfl⟩:=List.mem_map.1 he;refine⟨rfl,fun v hv=> ?_⟩;simp only[Let.ps,List.mem_cons,List.not_mem_nil,or_false] at hv;rcases hv with rfl|rfl|rfl|rfl|rfl|rfl<;>rfl
theorem letP_rev(l:List Let):(letP l).reverse=letP l.reverse:=by simp
theorem back_p(hne:ls≠[])(hl:ls.length≤1000000): ∃ r,lets ls.length r∧PEv S 51 [.one (.p (dgV F ls))] r:=by
 have pcl:=cloneL hne hl;have lo:S.lone 3264064320=false:=by kernel_rfl
 have lo2:S.lone 3264512128=false:=by kernel_rfl
 refine PEv_ex rfl c51 (Nat.le_of_ble_eq_true rfl) ?_;simp only[go_sem,i51,s33];refine gP_g1 pcl lo (.inl rfl) fun cc blk0 gc hb0=> ?_
 simp only[go_sem,s70];refine gP_revAll (f:=70) (es:=letP ls) (id:=3264064320) (ty:=lsTy) (z:=6) (fun o h=>rev_lets o (by simp;omega) (let_norm _) h) (gc.of_eq rfl) fun blkr gr hbr=> ?_
 rw[letP_rev] at gr;rcases gr with ⟨e,_⟩|⟨_,gg,e,hC⟩
 ·have:=congrArg List.length e;rw[List.length_map,List.length_reverse] at this;exact absurd (List.length_eq_zero_iff.1 this) hne
 ·cases e
  rw[List.length_map,List.length_reverse];simp only[go_sem];have hRl:ls.reverse.length=ls.length:=List.length_reverse;have hw0:IntKind.i64.wrap ((ls.length:Int) - 1)=((ls.length - 1:Nat):Int):=by
   have:=List.length_pos_iff.2 hne;rw[wrapI (by omega) (by omega)];omega
  have hdl:(downs ls).length=ls.length:=by simp[downs]
  generalize ls.reverse=X at hC hRl gc;refine R_for (fun k env blk=>env 0= .one (.p (dgV F ls))∧env 3= .one (.hsl 3264064320 gg 6 0 ls.length)∧env 15=vi ls.length∧env 16=vi k∧blk 3264064320=(gg,some (.arr lsTy 6 (letP X)))) 0 ls.length (Nat.zero_le _) ?_ ?_
  ·simp only[go_sem,hC];first|rfl|exact⟨rfl,rfl⟩
  ·rintro k env blk hk ⟨h0,h3,h15,h16,bX⟩
   by_cases hlt:k<ls.length
   ·have hlt':((k:Int)<(ls.length:Int)):=by omega
    have hltX:k<X.length:=by omega
    have hxi:=ps_of (lA_at hltX);have w1:=wrap_succ (n:=k) (by omega);have w2:IntKind.i64.wrap (((ls.length - 1:Nat):Int) - (k:Int))=((ls.length - 1 - k:Nat):Int):=by
     rw[wrapI (by omega) (by omega)];omega
    obtain⟨d,hd⟩:=at_lt (ls:=downs ls) (k:=ls.length - 1 - k) (by omega);have hdp:=bP_at hd;have hdl':ls.length - 1 - k<(downs ls).length:=by omega
    generalize lA X k=x at hxi;have hXle:ls.length≤X.length:=by omega
    have hXt:List.take ls.length (letP X)=letP X:=List.take_of_length_le (by rw[List.length_map];omega);have pr:=rotated_p X k (by omega) (by omega);cases hk2:(x.kind==1) with
    |false=>
     simp only[go_sem,i51_l1,h0,h3,h15,h16,bX,hlt,hlt',hxi,Let.ps,hk2,hw0,w1,w2]
    |true=>
     cases d with
     |true=>
      simp only[go_sem,i51_l1,h0,h3,h15,h16,bX,hlt,hlt',hxi,Let.ps,hk2,hw0,w1,w2,hdp]
     |false=>
      simp only[go_sem,i51_l1,h0,h3,h15,h16,bX,hlt,hlt',hxi,Let.ps,hk2,hw0,w2,hdp,hXle,hXt,s53];refine gP_g1 pr lo2 (.inr (alone_grown (sc_let _))) fun cr blk3 gr3 hb3=> ?_
      simp only[go_sem];exact⟨_,⟨X.drop k++X.take k,by rw[List.length_append,List.length_drop,List.length_take];omega,rfl⟩,grown_out gr3⟩
   ·have:k=ls.length:=by omega
    subst this;simp only[go_sem,i51_l1,i51_r2,h3,h15,h16,no_more];refine⟨_,⟨X,hRl,rfl⟩,grown_out (.inr ⟨?_,gg,by rw[List.length_map,hRl],bX⟩)⟩;intro h2;have:=congrArg List.length h2;rw[List.length_map,hRl] at this;exact hne (List.length_eq_zero_iff.1 this)
theorem lone_no{s:Nat}(h:s/64000000=37):S.lone s=true:=by
 show memN loneT (s/64000000)=true;rw[h];kernel_rfl
theorem land_lets{blk:Blk}{s:Nat}{L:List Let}(hne:L≠[])(hs:S.lone s=true):land blk [] s ((RV.one (grownR lsTy 6 (letP L))).pureIf (S.lone s))=some (.one (.p (lsP L)),[]):=by
 rw[hs,grownR_own (letP_ne hne)];unfold land;rw[if_pos (.inl rfl)];rfl
def nilL(n:Nat)(c:PV):Prop:=c= .nils∨ ∃ Y:List Let,Y.length=n∧c=lsP Y
def norI(F:Nat)(ls:List Let)(gB:Nat)(bs:List (List PV))(k:Nat)(env:Env)(blk:Blk):Prop:=
 env 0= .one (.p (dgV F ls))∧env 2= .one (.href 2368000000 1 0)∧env 17= .one (.hsl 2368128448 gB 1 0 2)∧env 18=vi 2∧env 19=vi k∧(∃ c,nilL ls.length c∧env 3= .one (.p c))∧
 blk 2368000000=(1,some (.var [.p (.int .i64 0), .p .nils]))∧blk 2368128448=(gB,some (.arr 22 1 bs))
theorem nor_in{F:Nat}{ls l:List Let}{gB k:Nat}{bs:List (List PV)}{Q:Post}{env:Env}{blk:Blk}(hne:l≠[])(hll:l.length=ls.length)(hl:ls.length≤1000000)(hI:norI F ls gB bs k env blk)(h5:env 5= .one (.p (lsP l)))(h6: ∃ d,env 6=vb d)(h23:env 23= .one (.p (lsP l)))(h24:env 24=vi ls.length)(h25:env 25=vi 0)
  (hK: ∀ env' blk',norI F ls gB bs k env' blk'→Q .normal env' blk'):W S .all (.loop i37_l1) (blockQ 2 Q) env blk:=by
 refine R_for (fun i env blk=>norI F ls gB bs k env blk∧env 5= .one (.p (lsP l))∧(∃ d,env 6=vb d)∧env 23= .one (.p (lsP l))∧env 24=vi ls.length∧env 25=vi i) 0 ls.length (Nat.zero_le _) ⟨hI,h5,h6,h23,h24,h25⟩ ?_;rintro i env blk hi ⟨⟨h0,h2,h17,h18,h19,⟨c,hc,h3⟩,b0,bB⟩,h5,⟨d,h6⟩,h23,h24,h25⟩
 by_cases hlt:i<ls.length
 ·have hlt':((i:Int)<(ls.length:Int)):=by omega
  have hltl:i<l.length:=by omega
  have hxi:=ps_of (lA_at hltl);generalize lA l i=x at hxi;have w1:=wrap_succ (n:=i) (by omega);have pr:=rotated_p l i (by omega) (by omega);have hRl:(l.drop i++l.take i).length=ls.length:=by rw[List.length_append,List.length_drop,List.length_take];omega
  generalize l.drop i++l.take i=R at pr hRl;have hRne:R≠[]:=List.length_pos_iff.1 (by omega);obtain⟨_,⟨Y,hY,rfl⟩,pn⟩:=renamed_p R hRne (by omega);have hYne:Y≠[]:=List.length_pos_iff.1 (by omega);have lo1:S.lone 2368704128=true:=lone_no (by kernel_rfl);have lo2:S.lone 2368704192=true:=lone_no (by kernel_rfl);cases hk1:(x.kind==1) with
  |false=>
   simp only[go_sem,i37_l1,h5,h6,h23,h24,h25,hlt,hlt',hxi,Let.ps,hk1,bne,w1];simp only[go_sem,norI,h0,h2,h3,h17,h18,h19,b0,bB];exact⟨⟨c,hc,rfl⟩,_,rfl⟩
  |true=>
   cases d with
   |false=>
    simp only[go_sem,i37_l1,h5,h6,h23,h24,h25,hlt,hlt',hxi,Let.ps,hk1,bne,w1];simp only[go_sem,norI,h0,h2,h3,h17,h18,h19,b0,bB];exact⟨⟨c,hc,rfl⟩,_,rfl⟩
   |true=>
    rcases hc with rfl|⟨Z,hZ,rfl⟩
    ·simp only[go_sem,i37_l1,h3,h5,h6,h23,h24,h25,hlt,hlt',hxi,Let.ps,hk1,bne,w1,s53,gP_land pr (land_lets hRne lo1),s52,gP_land pn (land_lets hYne lo2)];simp only[go_sem,norI,h0,h2,h3,h17,h18,h19,b0,bB];exact⟨⟨_, .inr ⟨Y,by omega,rfl⟩,rfl⟩,_,rfl⟩
    ·have pb:=before_p Y Z (by omega) (by omega);obtain⟨e,es,he⟩: ∃ e es,letP Z=e::es:=by
      cases Z with
      |nil=>simp at hZ;omega
      |cons z t=>exact⟨_,_,rfl⟩
     have hZe:PV.sl (e::es)=lsP Z:=by rw[← he]
     rw[← hZe] at pb h3;cases hb:befR Y Z with
     |false=>
      rw[hb] at pb;simp only[go_sem,i37_l1,h3,h5,h6,h23,h24,h25,hlt,hlt',hxi,Let.ps,hk1,bne,w1,s53,gP_land pr (land_lets hRne lo1),s52,gP_land pn (land_lets hYne lo2),s54,gP_bool pb];simp only[go_sem,norI,h0,h2,h3,h17,h18,h19,b0,bB];exact⟨⟨_, .inr ⟨Z,hZ,hZe⟩,rfl⟩,_,rfl⟩
     |true=>
      rw[hb] at pb;simp only[go_sem,i37_l1,h3,h5,h6,h23,h24,h25,hlt,hlt',hxi,Let.ps,hk1,bne,w1,s53,gP_land pr (land_lets hRne lo1),s52,gP_land pn (land_lets hYne lo2),s54,gP_bool pb];simp only[go_sem,norI,h0,h2,h3,h17,h18,h19,b0,bB];exact⟨⟨_, .inr ⟨Y,by omega,rfl⟩,rfl⟩,_,rfl⟩
 ·have:i=ls.length:=by omega
  subst this;simp only[go_sem,i37_l1,h24,h25,no_more];refine hK _ _ ?_;simp only[go_sem,norI,h0,h2,h3,h17,h18,h19,b0,bB];exact⟨c,hc,rfl⟩
theorem normal_p(hne:ls≠[])(hl:ls.length≤1000000): ∃ r,(∃ c,nilL ls.length c∧r= .agg [.p (.int .i64 F), .p c])∧PEv S 37 [.one (.p (dgV F ls))] r:=by
 obtain⟨_,⟨B,hB,rfl⟩,pb⟩:=back_p (F:=F) hne hl;have hBne:B≠[]:=by
  have:=List.length_pos_iff.2 hne;exact List.length_pos_iff.1 (by omega)
 have lo1:S.lone 2368128384=true:=lone_no (by kernel_rfl);refine PEv_ex rfl c37 (Nat.le_of_ble_eq_true rfl) ?_;simp only[go_sem,i37,s51,dP_land pb (land_lets hBne lo1)];refine⟨okd,?_⟩;refine R_for (norI F ls 1 [[lsP ls],[lsP B]]) 0 2 (Nat.zero_le _) ?_ ?_
 ·simp only[go_sem,norI];first|exact⟨rfl,rfl,rfl,rfl,rfl,⟨.nils, .inl rfl,rfl⟩,rfl,rfl⟩|exact⟨rfl,rfl,⟨.nils, .inl rfl,rfl⟩⟩|skip
 ·intro k env blk hk hI;have hI0:=hI;obtain⟨h0,h2,h17,h18,h19,⟨c,hc,h3⟩,b0,bB⟩:=hI;by_cases hlt:k<2
  ·have hk01:k=0∨k=1:=by omega
   have l02:((0:Nat):Int)<2:=by decide
   have l12:((1:Nat):Int)<2:=by decide
   rcases hk01 with rfl|rfl
   ·simp only[go_sem,i37_l3,h17,h18,h19,bB,l02];refine nor_in (F:=F) (ls:=ls) (l:=ls) (gB:=1) (k:=0) (bs:=[[lsP ls],[lsP B]]) hne rfl hl ?_ rfl ⟨true,rfl⟩ rfl rfl rfl fun env' blk' hI'=> ?_
    ·simp only[go_sem,norI,h0,h2,h3,h17,h18,h19,b0,bB];exact⟨c,hc,rfl⟩
    ·obtain⟨h0,h2,h17,h18,h19,⟨c,hc,h3⟩,b0,bB⟩:=hI';simp only[go_sem,norI,i37_r2,h0,h2,h3,h17,h18,h19,b0,bB];exact⟨rfl,c,hc,rfl⟩
   ·simp only[go_sem,i37_l3,h17,h18,h19,bB,l12];refine nor_in (F:=F) (ls:=ls) (l:=B) (gB:=1) (k:=1) (bs:=[[lsP ls],[lsP B]]) hBne hB hl ?_ rfl ⟨true,rfl⟩ rfl (by rw[← hB];rfl) rfl fun env' blk' hI'=> ?_
    ·simp only[go_sem,norI,h0,h2,h3,h17,h18,h19,b0,bB];exact⟨c,hc,rfl⟩
    ·obtain⟨h0,h2,h17,h18,h19,⟨c,hc,h3⟩,b0,bB⟩:=hI';simp only[go_sem,norI,i37_r2,h0,h2,h3,h17,h18,h19,b0,bB];exact⟨rfl,c,hc,rfl⟩
  ·have:k=2:=by omega
   subst this;have l22: ¬ (((2:Nat):Int)<2):=by decide
   simp only[go_sem,i37_l3,i37_r4,h0,h2,h3,h18,h19,b0,l22];exact⟨_,⟨c,hc,rfl⟩,by rcases hc with rfl|⟨Y,_,rfl⟩<;>rfl⟩
abbrev cloneE:Prop:=PEv S 33 [.one (.p (.sl []))] (.one (.p (.sl [])))
theorem revE{al:Al}{blk:Blk}: ∃ v blk',SEv S 70 [.one (.p (.sl []))] al blk v blk'∧(v= .tup []∧blk'=blk):=by
 refine SEv_fn c70 (Nat.le_of_ble_eq_true rfl) ?_;have w0:IntKind.i64.wrap (((0:Nat):Int) - 1)= -1:=by decide
 have hz: ¬ ((0:Int)< -1):=by decide
 simp only[go_sem,i70,w0];refine R_for (fun k env blk'=>k=0∧env 2=vi 0∧env 3=vi (-1)∧blk'=blk) 0 0 (Nat.le_refl _) ?_ ?_
 ·simp only[go_sem]
 ·rintro k env blk' _ ⟨rfl,h2,h3,rfl⟩
  simp only[go_sem,i70_l1,h2,h3,hz]
theorem land_p{blk:Blk}{s:Nat}{x:PV}{l:Bool}:land blk [] s ((RV.one (.p x)).pureIf l)=some (.one (.p x),[]):=by cases l<;>rfl
theorem back_e(hcl:cloneE)(F:Int):PEv S 51 [.one (.p (dgE F))] (.one (.p (.sl []))):=by
 refine pev1 c51 ?_;simp only[go_sem,i51,s33,gP_land hcl land_p,s70];refine gP_sc2 (P:=fun v blk'=>v= .tup []∧blk'=noBlk) holds_all revE ?_;rintro v blk' ⟨rfl,rfl⟩
 simp only[go_sem];refine R_for (fun k env blk=>k=0∧env 3= .one (.p (.sl []))∧env 15=vi 0∧env 16=vi 0) 0 0 (Nat.le_refl _) ?_ ?_
 ·simp only[go_sem];rfl
 ·rintro k env blk _ ⟨rfl,h3,h15,h16⟩
  have hz: ¬ ((0:Int)<0):=by decide
  simp only[go_sem,i51_l1,i51_r2,h3,h15,h16,hz]
theorem normal_e(hcl:cloneE)(F:Int):PEv S 37 [.one (.p (dgE F))] (.agg [.p (.int .i64 F), .p .nils]):=by
 have pb:=back_e hcl F;refine pev1 c37 ?_;simp only[go_sem,i37,s51,dP_land pb land_p];refine⟨okd,?_⟩;refine R_for (fun k env blk=>env 0= .one (.p (dgE F))∧env 2= .one (.href 2368000000 1 0)∧env 17= .one (.hsl 2368128448 1 1 0 2)∧env 18=vi 2∧env 19=vi k∧env 3= .one (.p .nils)∧
  blk 2368000000=(1,some (.var [.p (.int .i64 0), .p .nils]))∧blk 2368128448=(1,some (.arr 22 1 [[.sl []],[.sl []]]))) 0 2 (Nat.zero_le _) ?_ ?_
 ·simp only[go_sem];first|done|rfl|exact⟨rfl,rfl⟩
 ·rintro k env blk hk ⟨h0,h2,h17,h18,h19,h3,b0,bB⟩
  by_cases hlt:k<2
  ·have hk01:k=0∨k=1:=by omega
   have l02:((0:Nat):Int)<2:=by decide
   have l12:((1:Nat):Int)<2:=by decide
   have hz: ¬ ((0:Int)<0):=by decide
   rcases hk01 with rfl|rfl
   ·simp only[go_sem,i37_l3,h17,h18,h19,bB,l02];refine R_for (fun i env' blk'=>i=0∧blk'=blk∧env' 0=env 0∧env' 2=env 2∧env' 17=env 17∧env' 18=env 18∧env' 19=env 19∧env' 3=env 3∧env' 24=vi 0∧env' 25=vi 0) 0 0 (Nat.le_refl _) ?_ ?_
    ·simp only[go_sem];first|done|rfl|exact⟨rfl,rfl⟩
    ·rintro i env' blk' _ ⟨rfl,rfl,e0,e2,e17,e18,e19,e3,e24,e25⟩
     simp only[go_sem,i37_l1,i37_r2,e0,e2,e17,e18,e19,e3,e24,e25,h0,h2,h3,h17,h18,h19,b0,bB,hz];first|done|rfl|exact⟨rfl,rfl⟩
   ·simp only[go_sem,i37_l3,h17,h18,h19,bB,l12];refine R_for (fun i env' blk'=>i=0∧blk'=blk∧env' 0=env 0∧env' 2=env 2∧env' 17=env 17∧env' 18=env 18∧env' 19=env 19∧env' 3=env 3∧env' 24=vi 0∧env' 25=vi 0) 0 0 (Nat.le_refl _) ?_ ?_
    ·simp only[go_sem];first|done|rfl|exact⟨rfl,rfl⟩
    ·rintro i env' blk' _ ⟨rfl,rfl,e0,e2,e17,e18,e19,e3,e24,e25⟩
     simp only[go_sem,i37_l1,i37_r2,e0,e2,e17,e18,e19,e3,e24,e25,h0,h2,h3,h17,h18,h19,b0,bB,hz];first|done|rfl|exact⟨rfl,rfl⟩
  ·have:k=2:=by omega
   subst this;have l22: ¬ (((2:Nat):Int)<2):=by decide
   simp only[go_sem,i37_l3,i37_r4,h0,h2,h3,h18,h19,b0,l22];first|done|rfl|exact⟨rfl,rfl⟩
theorem cloneE_p:cloneE:=⟨1,by kernel_rfl⟩
def norP(f:Int)(ls:List Let)(r:RV):Prop:=(checkR f ls≠0∧r=rcode (checkR f ls))∨(checkR f ls=0∧ ∃ c,nilL ls.length c∧r= .tup [.agg [.p (.int .i64 f), .p c], .one (.p (.int .i64 0))])
theorem land_cd{blk:Blk}{s:Nat}{x c:PV}{l:Bool}:land blk [] s ((RV.agg [.p x, .p c]).pureIf l)=some (.agg [.p x, .p c],[]):=by cases l<;>rfl
theorem norm_p(hcl:cloneE)(f:Int)(ls:List Let)(hl:ls.length≤1000000): ∃ r,norP f ls r∧PEv S 21 [codeV f ls] r:=by
 have pr:=read_p f ls hl;by_cases h0:checkR f ls=0
 ·rw[readR_good h0] at pr;have hn: ∃ c,nilL ls.length c∧PEv S 37 [.one (.p (if ls=[] then dgE f else dgV f.toNat ls))] (.agg [.p (.int .i64 f), .p c]):=by
   by_cases hne:ls=[]
   ·rw[if_pos hne];exact⟨.nils, .inl rfl,normal_e hcl f⟩
   ·rw[if_neg hne];obtain⟨F,hF,g⟩:=fine_of h0 hne;subst hF;obtain⟨_,⟨c,hc,rfl⟩,pn⟩:=normal_p (F:=F) hne hl;exact⟨c,hc,pn⟩
  obtain⟨c,hc,pn⟩:=hn;have hdn:(if ls=[] then dgE f else dgV f.toNat ls).norm=(if ls=[] then dgE f else dgV f.toNat ls):=by split<;>simp only[norm_box]
  generalize (if ls=[] then dgE f else dgV f.toNat ls)=dg at pr pn hdn;refine⟨_, .inr ⟨h0,c,hc,rfl⟩,?_⟩;refine pev1 c21 ?_;simp only[go_sem,i21,s31,gP_land pr land_tup,s37,gP_land pn land_cd,hdn];rfl
 ·rw[readR_bad rfl h0] at pr;refine⟨_, .inl ⟨h0,rfl⟩,?_⟩;have h0':(checkR f ls==0)=false:=by simpa using h0
  generalize checkR f ls=e at*;refine pev1 c21 ?_;simp only[go_sem,i21,s31,gP_land pr land_tup,bne,h0'];rfl
theorem leq_iff'(x y:Let):leq x y=true↔x=y:=by
 constructor
 ·intro h;unfold leq at h;simp only[Bool.and_eq_true,beq_iff_eq] at h;obtain⟨h1,h2,h3,h4,h5,h6⟩:=h;cases x;cases y
  simp only at h1 h2 h3 h4 h5 h6;subst h1 h2 h3 h4 h5 h6;rfl
 ·rintro rfl;exact leq_self x
theorem lists_eq{A B:List Let}(hAB:A.length=B.length)(h: ∀ j,j<A.length→leq (lA A j) (lA B j)=true):A=B:=by
 apply List.ext_getElem?;intro j;by_cases hj:j<A.length
 ·rw[lA_at hj,lA_at (ls:=B) (i:=j) (by omega),(leq_iff' _ _).1 (h j hj)]
 ·rw[List.getElem?_eq_none (by omega),List.getElem?_eq_none (by omega)]
theorem eqL_p(A B:List Let)(hl:A.length≤1000000)(hl2:B.length≤1000000):PEv S 30 [.one (.p (lsP A)), .one (.p (lsP B))] (rb (decide (A=B))):=by
 by_cases hAB:A.length=B.length
 ·have hABi:((A.length:Int)==(B.length:Int))=true:=by rw[hAB];simp
  generalize hr:decide (A=B)=r;refine pev1 c30 ?_;simp only[go_sem,i30,hABi,bne];refine R_for (fun k env blk=>env 0= .one (.p (lsP A))∧env 1= .one (.p (lsP B))∧env 12=vi A.length∧env 13=vi k∧ ∀ j,j<k→leq (lA A j) (lA B j)=true) 0 A.length (Nat.zero_le _) ?_ ?_
  ·simp only[go_sem];exact⟨rfl,fun j h=>absurd h (Nat.not_lt_zero j)⟩
  ·rintro k env blk hk ⟨h0,h1,h12,h13,hn⟩
   by_cases hlt:k<A.length
   ·have hx:=lA_at hlt;have hy:=lA_at (ls:=B) (i:=k) (by omega);have hxi:=ps_of hx;have hyi:=ps_of hy;have hlt':(k:Int)<(A.length:Int):=by omega
    have w1:=wrap_succ (n:=k) (by omega);have hlB:k<B.length:=by omega
    cases he:leq (lA A k) (lA B k) with
    |true=>
     have hn': ∀ j,j<k+1→leq (lA A j) (lA B j)=true:=fun j hj=>by
      rcases Nat.lt_succ_iff_lt_or_eq.1 hj with h|rfl
      ·exact hn j h
      ·exact he
     simp only[go_sem,i30_l1,h0,h1,h12,h13,hxi,hyi,Let.ps,hlt',hlt,w1,eq_let,he];exact⟨okd,hn'⟩
    |false=>
     have hne:A≠B:=fun e=>by
      subst e;rw[leq_self] at he;cases he
     rw[decide_eq_false hne] at hr;subst hr;simp only[go_sem,i30_l1,h0,h1,h12,h13,hxi,hyi,Let.ps,hlt',eq_let,he];exact okd
   ·have:k=A.length:=by omega
    subst this;have he:A=B:=lists_eq hAB hn;rw[decide_eq_true he] at hr;subst hr;simp only[go_sem,i30_l1,i30_r2,h12,h13,no_more]
 ·have hABi:((A.length:Int)==(B.length:Int))=false:=by rw[beq_eq_false_iff_ne];omega
  have hne:A≠B:=fun e=>hAB (by rw[e])
  rw[decide_eq_false hne];refine pev1 c30 ?_;simp only[go_sem,i30,hABi,bne]
end
end Go.Abs
