/-
  A sorted list of moves.
-/
import Derived.Test.YtjjdebhkbfeniaaGreatDoorVd
set_option linter.unusedSimpArgs false
set_option linter.unusedVariables false
set_option linter.unusedSectionVars false
set_option maxRecDepth 100000
set_option maxHeartbeats 16000000
namespace Go.Abs
def ltM(x y:Mov):Bool:=decide (x.b<y.b)||(decide (x.b=y.b)&&decide (x.c<y.c))
def smM(m:Mov):Prop:=(0≤m.b∧m.b≤1000000)∧0≤m.c∧m.c≤1000000
theorem swoM:Swo ltM:=⟨fun a b h=>by unfold ltM at*;simp at*;omega,fun a b c h k=>by unfold ltM at*;simp at*;omega⟩
theorem cmp_p(x y:Mov)(hx:smM x)(hy:smM y): ∃ n:Int,PEv S 122 [movV1 x,movV1 y] (ri n)∧(decide (n<0)=ltM x y):=by
 obtain⟨⟨x1,x2⟩,x3,x4⟩:=hx;obtain⟨⟨y1,y2⟩,y3,y4⟩:=hy;have w1:IntKind.i64.wrap (x.b - y.b)=x.b - y.b:=wrapI (by omega) (by omega);have w2:IntKind.i64.wrap (x.c - y.c)=x.c - y.c:=wrapI (by omega) (by omega);cases hb:(x.b==y.b) with
 |true=>
  have e:x.b=y.b:=eq_of_beq hb;refine⟨x.c - y.c,?_,?_⟩
  ·refine pev1 c122 ?_;simp only[go_sem,i122,bne,hb,w2,planAppend,szOK]
  ·unfold ltM;rw[Bool.eq_iff_iff];simp;omega
 |false=>
  have e: ¬ x.b=y.b:=by simpa using hb
  refine⟨x.b - y.b,?_,?_⟩
  ·refine pev1 c122 ?_;simp only[go_sem,i122,bne,hb,w1,planAppend,szOK]
  ·unfold ltM;rw[Bool.eq_iff_iff];simp;omega
abbrev mP(o:List Mov):List (List PV):=o.map Mov.ps
theorem mP_set(o:List Mov)(k:Nat)(v:Mov):(mP o).set k v.ps=mP (o.set k v):=by simp[List.map_set]
theorem mP_len(o:List Mov):(mP o).length=o.length:=List.length_map _
def smPost(id g ty:Nat)(es:List Mov)(blk:Blk)(v:V)(blk':Blk):Prop:=v= .tup []∧(∃ ws:List Mov,blk' id=(g,some (.arr ty 7 (mP ws)))∧ws.Perm es∧Srt ltM ws 0 ws.length)∧Kept (· =id) blk blk'
abbrev cmF:V:= .one (.p (.fn 122 [] []))
theorem insM_s{al:Al}{blk:Blk}{id g ty:Nat}{es:List Mov}(o:al.ok id=true)(hl:es.length≤1000000)(hsm: ∀ m∈es,smM m)(hC:blk id=(g,some (.arr ty 7 (mP es)))):
  ∃ v blk',SEv S 178 [.one (.hsl id g 7 0 es.length),vi 0,vi es.length,cmF] al blk v blk'∧smPost id g ty es blk v blk':=by
 have scm:S.shared 122=false:=by kernel_rfl
 refine SEv_fn c178 (Nat.le_of_ble_eq_true rfl) ?_;have w0:IntKind.i64.wrap (0+1)=((0+1:Nat):Int):=by decide
 simp only[go_sem,i178,w0,planAppend,szOK];refine R_for (fun k env blk'=>env 0= .one (.hsl id g 7 0 es.length)∧env 1=vi 0∧env 2=vi es.length∧env 3=cmF∧env 8=vi ((k+1:Nat):Int)∧ ∃ zs:List Mov,blk' id=(g,some (.arr ty 7 (mP zs)))∧zs.Perm es∧Srt ltM zs 0 (k+1)∧Kept (· =id) blk blk') 0 es.length (Nat.zero_le _) ?_ ?_
 ·simp only[go_sem];exact⟨rfl,es,hC, .refl _,fun p q x y _ h1 h2=>by omega,Kept.refl _ _⟩
 ·rintro k env blk1 hk ⟨h0,h1,h2,h3,h6,zs,hZ,hp,hs,hkp⟩
  have hzl:=hp.length_eq;by_cases hlt:k+1<es.length
  ·have hlt':((k+1:Nat):Int)<(es.length:Int):=by omega
   obtain⟨x,hx⟩:=at_lt (ls:=zs) (k:=k+1) (by omega);have sx:smM x:=hsm x (hp.mem_iff.1 (List.mem_of_getElem? hx));simp only[go_sem,i178_l3,h0,h1,h2,h3,h6,hlt',planAppend,szOK];refine R_for (fun q env blk'=>env 0= .one (.hsl id g 7 0 es.length)∧env 1=vi 0∧env 2=vi es.length∧env 3=cmF∧env 8=vi ((k+1:Nat):Int)∧env 9=vi ((k+1 - q:Nat):Int)∧ ∃ ws:List Mov,blk' id=(g,some (.arr ty 7 (mP ws)))∧InsI ltM zs ws x 0 (k+1) (k+1 - q)∧Kept (· =id) blk blk') 0 (k+1) (Nat.zero_le _) ?_ ?_
   ·simp only[go_sem,h0,h1,h2,h3,h6];exact⟨zs,hZ,InsI.start (Nat.zero_le _) hx hs,hkp⟩
   ·rintro q env2 blk2 hq ⟨k0,k1,k2,k3,k6,k7,ws,hW,hI,hkp2⟩
    have hwl:ws.length=es.length:=hI.perm.length_eq.trans hzl;have wk:IntKind.i64.wrap (((k+1:Nat):Int)+1)=((k+1+1:Nat):Int):=wrap_succ (n:=k+1) (by omega);by_cases hj0:k+1 - q=0
    ·have e7: ¬ ((0:Int)<((k+1 - q:Nat):Int)):=by omega
     simp only[go_sem,i178_l1,i178_r2,k0,k1,k2,k3,k6,k7,e7,wk,planAppend,szOK];refine⟨okd,by omega,ws,hW,hI.perm.trans hp,hI.stop swoM (.inl hj0),hkp2⟩
    ·obtain⟨j,hj⟩: ∃ j,k+1 - q=j+1:=⟨k - q,by omega⟩;have e7:((0:Int)<((j+1:Nat):Int)):=by omega
     obtain⟨y,hy⟩:=at_lt (ls:=ws) (k:=j) (by omega);have sy:smM y:=hsm y ((hI.perm.trans hp).mem_iff.1 (List.mem_of_getElem? hy));rw[hj] at hI k7;have wj:IntKind.i64.wrap (((j+1:Nat):Int) - 1)=(j:Int):=by rw[wrap_m1 (by omega)];omega
     have hxa:=mov_at hI.at';have hya:=mov_at hy;have j1:j+1<es.length:=by have:=hI.le;omega
     have j2:j<es.length:=by omega
     obtain⟨n,pl,hn⟩:=cmp_p x y sx sy;cases hxy:ltM x y with
     |false=>
      rw[hxy] at hn;have hn': ¬ (n<0):=by simpa using hn
      simp only[go_sem,i178_l1,i178_r2,k0,k1,k2,k3,k6,k7,e7,wk,wj,hW,hxa,hya,Mov.ps,j1,j2,o,scm,dP_pA pl,hn',planAppend,szOK];refine⟨okd,by omega,ws,rfl,hI.perm.trans hp,hI.stop swoM (.inr ⟨y,by omega,hy,hxy⟩),hkp2⟩
     |true=>
      rw[hxy] at hn;have hn':n<0:=by simpa using hn
      have hI2:=hI.step swoM (Nat.zero_le _) hy hxy;have hjj: ¬ (j+1=j):=by omega
      have l1:j+1<ws.length:=by omega
      have l2:j<ws.length:=by omega
      simp only[go_sem,i178_l1,i178_r2,k0,k1,k2,k3,k6,k7,e7,wk,wj,hW,hxa,hya,Mov.ps,j1,j2,l1,l2,hjj,o,scm,dP_pA pl,hn',List.getElem?_set,List.length_set,mP_len,planAppend,szOK];have hq2:k+1 - (q+1)=j:=by omega
      refine⟨okd,okd,by omega,by rw[hq2],(ws.set (j+1) y).set j x,by rw[← mP_set,← mP_set];rfl,by rw[hq2];exact hI2,(hkp2.upd rfl _).upd rfl _⟩
  ·have hlt': ¬ (((k+1:Nat):Int)<(es.length:Int)):=by omega
   simp only[go_sem,i178_l3,h0,h1,h2,h3,h6,hlt',planAppend,szOK];exact⟨rfl,⟨zs,hZ,hp,hs.mono (.inl (by omega))⟩,hkp⟩
theorem pdqM_s{al:Al}{blk:Blk}{id g ty:Nat}{es:List Mov}(o:al.ok id=true)(f1:al.fs.contains 178=true)(hl:es.length≤12)(hsm: ∀ m∈es,smM m)(hC:blk id=(g,some (.arr ty 7 (mP es))))(lim:Int):
  ∃ v blk',SEv S 156 [.one (.hsl id g 7 0 es.length),vi 0,vi es.length,vi lim,cmF] al blk v blk'∧smPost id g ty es blk v blk':=by
 refine SEv_fn c156 (Nat.le_of_ble_eq_true rfl) ?_;have w0:IntKind.i64.wrap ((es.length:Int) - 0)=(es.length:Int):=by rw[Int.sub_zero];exact wrapI (by omega) (by omega)
 have h12:(es.length:Int)≤12:=by omega
 simp only[go_sem,i156,planAppend,szOK];refine R_unroll ?_;simp only[go_sem,i156_l1,w0,h12,s178,planAppend,szOK];refine gP_soA hC (by rfl) (.inr ⟨o,by rw[show S.sites 178=[178] by kernel_rfl];simp only[List.all_cons,List.all_nil,f1,Bool.and_self]⟩) (P:=smPost id g ty es blk) (fun al' h1 _=>insM_s h1 (by omega) hsm hC) fun v blk' hP=> ?_
 obtain⟨rfl,h2⟩:=hP;simp only[go_sem,planAppend,szOK];exact⟨rfl,h2⟩
theorem sortM_s{al:Al}{blk:Blk}{id g ty:Nat}{es:List Mov}(o:al.ok id=true)(f1:(S.sites 156).all al.fs.contains=true)(hl:es.length≤12)(hsm: ∀ m∈es,smM m)(hC:blk id=(g,some (.arr ty 7 (mP es)))):
  ∃ v blk',SEv S 121 [.one (.hsl id g 7 0 es.length),cmF] al blk v blk'∧smPost id g ty es blk v blk':=by
 obtain⟨k,pb⟩:=bits_p es.length (by omega);have wu:IntKind.u64.wrap (es.length:Int)=(es.length:Int):=by
  have e:IntKind.u64.wrap (es.length:Int)=(es.length:Int)%18446744073709551616:=by
   unfold IntKind.wrap;rfl
  rw[e];omega
 refine SEv_fn c121 (Nat.le_of_ble_eq_true rfl) ?_;have sbl:S.shared 118=false:=by kernel_rfl
 simp only[go_sem,i121,wu,sbl,gP_pA pb,s156,planAppend,szOK];refine gP_soA hC (by rfl) (.inr ⟨o,f1⟩) (P:=smPost id g ty es blk) (fun al' h1 h2=>pdqM_s h1 (by rw[h2];kernel_rfl) hl hsm hC k) fun v blk' hP=> ?_
 obtain⟨rfl,h2⟩:=hP;simp only[go_sem,planAppend,szOK];exact⟨rfl,h2⟩
theorem indexK_p(o:List Int)(x:Int)(hl:o.length≤1000000):PEv S 81 [.one (.p (.sl (iP o))),vi x] (ri (match (List.range o.length).find? (inA o x) with|some k=>(k:Int)|none=> -1)):=by
 refine pev1 c81 ?_;simp only[go_sem,i81];refine R_for (fun k env blk=>env 0= .one (.p (.sl (iP o)))∧env 1=vi x∧env 7=vi o.length∧env 8=vi k∧ ∀ j,j<k→inA o x j=false) 0 o.length (Nat.zero_le _) ?_ ?_
 ·simp only[go_sem];exact⟨rfl,fun j hj=>absurd hj (Nat.not_lt_zero j)⟩
 ·rintro k env blk hk ⟨h0,h1,h7,h8,hn⟩
  by_cases hlt:k<o.length
  ·have hlt':((k:Int)<(o.length:Int)):=by omega
   obtain⟨y,hy⟩:=at_lt hlt;have hpp:=iP_at hy;have w1:=wrap_succ (n:=k) (by omega);have hpd:inA o x k=(y==x):=by simp[inA,hy]
   cases hb:(y==x) with
   |true=>
    have hb':(x==y)=true:=by have:=beq_iff_eq.1 hb;simp[this]
    rw[hb] at hpd;have hf:=find_range (p:=inA o x) hlt hn hpd;simp only[go_sem,i81_l1,h0,h1,h7,h8,hlt',hpp,hb',hf]
   |false=>
    have hb':(x==y)=false:=by
     have: ¬ y=x:=by simpa using hb
     simp;exact fun h=>this h.symm
    rw[hb] at hpd;have hn': ∀ j,j<k+1→inA o x j=false:=fun j hj=>by
     rcases Nat.lt_succ_iff_lt_or_eq.1 hj with h|rfl
     ·exact hn j h
     ·exact hpd
    simp only[go_sem,i81_l1,h0,h1,h7,h8,hlt,hlt',hpp,hb',w1];exact hn'
  ·have:k=o.length:=by omega
   subst this;have hf:=find_range_none (p:=inA o x) hn;simp only[go_sem,i81_l1,i81_r2,h7,h8,no_more,hf]
theorem containsK_p(o:List Int)(x:Int)(hl:o.length≤1000000):PEv S 52 [.one (.p (.sl (iP o))),vi x] (rb (o.contains x)):=by
 have pi:=indexK_p o x hl;refine pev1 c52 ?_;cases hm:o.contains x with
 |true=>
  have hm':x∈o:=by simpa using hm
  obtain⟨k,hk⟩:=List.getElem?_of_mem hm';have hkl:=(List.getElem?_eq_some_iff.1 hk).1;cases hf:(List.range o.length).find? (inA o x) with
  |none=>
   have:=List.find?_eq_none.1 hf k (List.mem_range.2 hkl);simp[inA,hk] at this
  |some j=>
   rw[hf] at pi;have hge:(0:Int)≤(j:Int):=by omega
   simp only[go_sem,i52,s81,gP_int pi,hge]
 |false=>
  have hm':x∉o:=by simpa using hm
  cases hf:(List.range o.length).find? (inA o x) with
  |some j=>
   have h1:=List.find?_some hf;unfold inA at h1;cases ho:o[j]? with
   |none=>rw[ho] at h1;cases h1
   |some y=>
    rw[ho] at h1;have:y=x:=by simpa using h1
    subst this;exact absurd (List.mem_of_getElem? ho) hm'
  |none=>
   rw[hf] at pi;have hge: ¬ (0:Int)≤ -1:=by decide
   simp only[go_sem,i52,s81,gP_int pi,hge]
def meq(a b:Mov):Bool:=(a.k==b.k)&&((a.a==b.a)&&((a.b==b.b)&&((a.c==b.c)&&((a.l==b.l)&&((a.o==b.o)&&(a.s==b.s))))))
theorem eq_mov(x y:Mov):eqCs [true,true,true,true,false,false,true] [.p (.int .i64 x.k), .p (.int .i64 x.a), .p (.int .i64 x.b), .p (.int .i64 x.c), .p (.bool x.l), .p (.bool x.o), .p (.int .i64 x.s)] [.p (.int .i64 y.k), .p (.int .i64 y.a), .p (.int .i64 y.b), .p (.int .i64 y.c), .p (.bool y.l), .p (.bool y.o), .p (.int .i64 y.s)]=some (meq x y):=by
 have e: ∀ a b:Int,eqC true (.int .i64 a) (.int .i64 b)=some (a==b):=fun a b=>by simp[eqC]
 have e2: ∀ a b:Bool,eqC false (.bool a) (.bool b)=some (a==b):=fun a b=>by simp[eqC]
 simp only[eqCs,meq,e,e2];cases (x.k==y.k)<;>cases (x.a==y.a)<;>cases (x.b==y.b)<;>cases (x.c==y.c)<;>cases (x.l==y.l)<;>cases (x.o==y.o)<;>cases (x.s==y.s)<;>rfl
theorem indexV_e(ms:List Mov)(x:Mov)(hm:ms.length≤1000000): ∃ i:Int,PEv S 155 [.one (.p (.sl (mP ms))),movV1 x] (ri i):=by
 have: ∃ r,isN r∧PEv S 155 [.one (.p (.sl (mP ms))),movV1 x] r:=by
  refine PEv_ex rfl c155 (Nat.le_of_ble_eq_true rfl) ?_;simp only[go_sem,i155];refine R_for (fun k env blk=>env 0= .one (.p (.sl (mP ms)))∧env 3= .one (.href 9920000000 1 0)∧blk 9920000000=(1,some (.var [.p (.int .i64 x.k), .p (.int .i64 x.a), .p (.int .i64 x.b), .p (.int .i64 x.c), .p (.bool x.l), .p (.bool x.o), .p (.int .i64 x.s)]))∧env 7=vi ms.length∧env 8=vi k) 0 ms.length (Nat.zero_le _) ?_ ?_
  ·simp only[go_sem];first|done|rfl|exact⟨rfl,rfl⟩|exact⟨rfl,rfl,rfl⟩
  ·rintro k env blk hk ⟨h0,h3,hB,h7,h8⟩
   by_cases hlt:k<ms.length
   ·have hlt':((k:Int)<(ms.length:Int)):=by omega
    obtain⟨m,hm1⟩:=at_lt hlt;have hmi:=mov_at hm1;have w1:=wrap_succ (n:=k) (by omega);have he:=eq_mov x m;cases hb:meq x m with
    |true=>
     rw[hb] at he;simp only[go_sem,i155_l1,h0,h3,hB,h7,h8,hlt',hmi,Mov.ps,he];exact⟨okd,_,⟨_,rfl⟩,rfl⟩
    |false=>
     rw[hb] at he;simp only[go_sem,i155_l1,h0,h3,hB,h7,h8,hlt,hlt',hmi,Mov.ps,w1,he];exact okd
   ·have:k=ms.length:=by omega
    subst this;simp only[go_sem,i155_l1,i155_r2,h7,h8,no_more];exact⟨_,⟨_,rfl⟩,rfl⟩
 obtain⟨_,⟨i,rfl⟩,h⟩:=this;exact⟨i,h⟩
theorem containsV_e(ms:List Mov)(x:Mov)(hm:ms.length≤1000000): ∃ b,PEv S 120 [.one (.p (.sl (mP ms))),movV1 x] (rb b):=by
 obtain⟨i,pi⟩:=indexV_e ms x hm;refine⟨decide (0≤i),?_⟩;refine pev1 c120 ?_;simp only[go_sem,i120,s155,gP_int pi]
end Go.Abs
