/-
  A valid code has a certificate, and how it is changed.
-/
import Derived.Test.YtjjdebhkbfeniaaGreatDoorUa
set_option linter.unusedSimpArgs false
set_option linter.unusedVariables false
set_option linter.unusedSectionVars false
set_option maxHeartbeats 16000000
namespace Go.Abs
def phi(ls:List Let)(x:Nat):Nat:=widx (walksL (nxt ls) (nD ls)) x
def sdF(ls:List Let)(i:Nat):SdE:=⟨phi ls (2*i),phi ls (2*i+1),!dn ls (i+1)⟩
def enF(ls:List Let)(i:Nat):EnT:=⟨⟨ls.getD i noLet,dnP ls i⟩,sdF ls ((i+ls.length - 1)%ls.length),sdF ls i⟩
def zF (ls:List Let):List EnT:=(List.range ls.length).map (enF ls)
def TF (ls:List Let)(g k:Nat):Nat:=phi ls (2*ls.length+2*((firstG ls g+k+(axisR ls).length - 1)%(axisR ls).length))
def BF (ls:List Let)(g k:Nat):Nat:=phi ls (2*ls.length+2*((firstG ls g+k+(axisR ls).length - 1)%(axisR ls).length)+1)
theorem zF_p(ls:List Let):(zF ls).map EnT.p=pieces ls:=by
 unfold zF pieces;rw[List.map_map];rfl
theorem zF_ls(ls:List Let):lsE (zF ls)=ls:=by
 have h:lsE (zF ls)=(pieces ls).map Pc.l:=by rw[← zF_p,List.map_map];rfl
 rw[h];apply List.ext_getElem?;intro i;rw[List.getElem?_map];by_cases hi:i<ls.length
 ·obtain⟨l,hl⟩:=at_lt hi;rw[pieces_at hl,hl];rfl
 ·rw[List.getElem?_eq_none (by rw[pieces_len];omega),List.getElem?_eq_none (by omega)];rfl
theorem zF_len(ls:List Let):(zF ls).length=ls.length:=by simp[zF]
theorem zF_at{ls:List Let}{i:Nat}(h:i<ls.length):(zF ls)[i]? =some (enF ls i):=by simp[zF,h]
theorem enF_k{ls:List Let}{i:Nat}{l:Let}(h:ls[i]? =some l):(enF ls i).k=l:=by
 show ls.getD i noLet=l;rw[List.getD_eq_getElem?_getD,h];rfl
theorem path_map(f:Nat→EnT)(e:Nat→SdE): ∀ k a,(∀ i,a≤i→i<a+k→(f i).i=e i∧(f i).o=e (i+1))→PathE (e a) ((List.range' a k).map f) (e (a+k)):=by
 intro k
 induction k with
 |zero=>intro a _;rfl
 |succ k ih=>
  intro a h;rw[List.range'_succ,List.map_cons];obtain⟨h1,h2⟩:=h a (Nat.le_refl _) (by omega);refine⟨h1,?_⟩;rw[h2,show a+(k+1)=a+1+k by omega];exact ih (a+1) fun i hi hk=>h i (by omega) (by omega)
theorem pair_map{R:EnT→EnT→Prop}{f:Nat→EnT}{n:Nat}(h: ∀ i j,i<n→j<n→i≠j→R (f i) (f j)):((List.range n).map f).Pairwise R:=
 List.pairwise_map.2 (List.Pairwise.imp_of_mem (fun {a b} ha hb hab=>h a b (List.mem_range.1 ha) (List.mem_range.1 hb) hab) (List.nodup_range (n:=n)))
section
variable {F:Nat} {ls:List Let}
theorem phi_of(g:Fine F ls){i x:Nat}{w:List Nat}(hi:(walksL (nxt ls) (nD ls))[i]? =some w)(hx:x∈w):phi ls x=i:=widx_of (walksL_part _ _).1 hi hx
theorem phi_in(g:Fine F ls){x:Nat}(hx:x<nD ls): ∃ w,(walksL (nxt ls) (nD ls))[phi ls x]? =some w∧x∈w:=by
 obtain⟨u,hu,hxu⟩:=List.mem_flatten.1 ((walksL_part (nxt ls) (nD ls)).2 x hx);obtain⟨i,hi⟩:=List.getElem?_of_mem hu;rw[phi_of g hi hxu];exact⟨u,hi,hxu⟩
theorem phi_next(g:Fine F ls){x:Nat}(hx:x<nD ls):phi ls (nxt ls x)=phi ls x:=by
 obtain⟨w,hw,hxw⟩:=phi_in g hx;exact phi_of g hw (walksL_next (maps g.ok) (List.mem_of_getElem? hw) hxw)
theorem phi_arr(g:Fine F ls){v:Nat}(hv:v<ls.length)(fw:Bool):phi ls (arrD ls.length v fw)=if fw then (enF ls v).i.l else (enF ls v).o.r:=by
 cases fw<;>rfl
theorem phi_al{v:Nat}(fw:Bool):phi ls (alongD ls.length v fw)=if fw then (enF ls v).o.l else (enF ls v).i.r:=by
 cases fw<;>rfl
theorem dn_end(g:Fine F ls):dn ls ls.length=true:=by
 unfold dn;rw[List.take_length];have:=g.even;simp[this]
theorem in_b(g:Fine F ls){i:Nat}(hi:i<ls.length):(enF ls i).i.b= !dn ls i:=by
 show(!dn ls ((i+ls.length - 1)%ls.length+1))=_;by_cases h:i=0
 ·subst h;rw[Nat.zero_add,Nat.mod_eq_of_lt (by omega),show ls.length - 1+1=ls.length by omega,dn_end g];rfl
 ·rw[show i+ls.length - 1=(i - 1)+ls.length by omega,Nat.add_mod_right,Nat.mod_eq_of_lt (by omega),show i - 1+1=i by omega]
theorem arr_nD{v:Nat}(hv:v<ls.length)(fw:Bool):arrD ls.length v fw<nD ls:=by
 have:=arr_lt hv fw;unfold nD;omega
theorem enF_d(g:Fine F ls){v:Nat}{l:Let}(hl:ls[v]? =some l)(hp:l.isP=true):(enF ls v).p.d=dn ls v:=by
 show dnP ls v=_;simp[dnP,hl,hp]
theorem enF_ok(g:Fine F ls){i:Nat}(hi:i<ls.length):okE F (enF ls i):=by
 obtain⟨l,hl⟩:=at_lt hi;have hk:=enF_k hl;refine⟨by rw[hk];exact g.bad l (List.mem_of_getElem? hl),fun hc=> ?_,fun hp=> ?_⟩
 ·rw[hk] at hc;rw[in_b g hi];show _= !dn ls (i+1);rw[dn_miss hl (by
   cases hp:l.isP
   ·rfl
   ·rw[notBoth hp] at hc;cases hc)]
 ·rw[hk] at hp;rw[in_b g hi,enF_d g hl hp];refine⟨?_,rfl⟩;show(!dn ls (i+1))=_;rw[dn_hit hl hp,Bool.not_not]
theorem enF_xr(g:Fine F ls){i j:Nat}(hi:i<ls.length)(hj:j<ls.length)(hij:i≠j):Xr (enF ls i) (enF ls j):=by
 obtain⟨l,hl⟩:=at_lt hi;obtain⟨m,hm⟩:=at_lt hj;intro hc mc e;rw[enF_k hl] at hc e;rw[enF_k hm] at mc e;obtain⟨_,hp⟩:=g.ids;obtain⟨d1,d2⟩:=hp i j l m hl hm hc mc e hij;obtain⟨b1,w,hw,wc,wi,wo,ws⟩:=otherR_back g.ok.cr hl hc;have hoj:otherR ls i=j:=by
  refine Classical.byContradiction fun hne=> ?_
  have d3:=(hp _ _ w m hw hm wc mc (by rw[wi,e]) hne).1;rw[wo] at d3;revert d1 d3;cases l.over<;>cases m.over<;>simp
 refine⟨?_,by rw[enF_k hl,enF_k hm];exact d2,?_⟩
 ·rw[enF_k hl,enF_k hm];revert d1;cases l.over<;>cases m.over<;>simp
 rw[enF_k hl];have t1:=phi_next g (arr_nD hi true);have t2:=phi_next g (arr_nD hi false);have t3:=phi_next g (arr_nD hj true);have t4:=phi_next g (arr_nD hj false);rw[turn_C hl hc,hoj,phi_al,phi_arr g hi] at t1 t2;rw[turn_C hm mc,← hoj,b1,hoj,phi_al,phi_arr g hj] at t3 t4;have hg:(m.over==(m.sign==1))= !gX l:=by
  unfold gX;rw[← d2];revert d1;cases l.over<;>cases m.over<;>cases (l.sign==1)<;>simp
 rw[hg] at t3 t4;have hg':(l.over==(l.sign==1))=gX l:=rfl;rw[hg'] at t1 t2;cases hgx:gX l<;>rw[hgx] at t1 t2 t3 t4<;>simp at t1 t2 t3 t4<;>constructor<;>simp[t1,t2,t3,t4]
theorem enF_pl(g:Fine F ls){v:Nat}{l:Let}(hl:ls[v]? =some l)(hp:l.isP=true):plE (TF ls) (BF ls) (enF ls v):=by
 have hv:=(List.getElem?_eq_some_iff.1 hl).1;have ok:=g.ok;have gd:=ok.ax.good l (List.mem_of_getElem? hl) hp;obtain⟨g0,g1,r0,r1⟩:=gd;obtain⟨a1,a2⟩:=ax_idx ok hl hp;have hidx:=axis_idx ok.ax hl hp;have hP:firstG ls l.gate.toNat+l.rank.toNat=(axisR ls).idxOf v+1:=by
  rw[hidx];unfold plOf;omega
 have hPm:firstG ls l.gate.toNat+(l.rank.toNat - 1)=(axisR ls).idxOf v:=by omega
 have eR:(firstG ls l.gate.toNat+l.rank.toNat+(axisR ls).length - 1)%(axisR ls).length=(axisR ls).idxOf v:=by
  rw[hP,show(axisR ls).idxOf v+1+(axisR ls).length - 1=(axisR ls).idxOf v+(axisR ls).length by omega,Nat.add_mod_right,Nat.mod_eq_of_lt a1]
 have hk:=enF_k hl;have hd:=enF_d g hl hp;have nR: ∀ k,k<(axisR ls).length→2*ls.length+2*k<nD ls∧2*ls.length+2*k+1<nD ls:=fun k hk=>by unfold nD;omega
 have hm:=Nat.mod_lt ((axisR ls).idxOf v+(axisR ls).length - 1) (show 0<(axisR ls).length by omega);have q1:=phi_next g (arr_nD hv (dn ls v));have q2:=phi_next g (arr_nD hv (!dn ls v));have q3:=phi_next g (nR _ a1).2;have q4:=phi_next g (nR _ hm).1;rw[turn_P hl hp,phi_arr g hv] at q1 q2;rw[turn_L,a2,phi_al] at q3;rw[turn_R,mod_back a1,a2,phi_al] at q4;constructor
 ·rw[hk];unfold TF;rw[hPm];unfold EnT.up;rw[hd];cases hdn:dn ls v<;>rw[hdn] at q4<;>exact q4
 ·rw[hk];unfold TF;rw[eR];unfold EnT.up;rw[hd];cases hdn:dn ls v<;>rw[hdn] at q1<;>exact q1.symm
 ·rw[hk];unfold BF;rw[hPm];unfold EnT.lo;rw[hd];cases hdn:dn ls v<;>rw[hdn] at q2<;>exact q2.symm
 ·rw[hk];unfold BF;rw[eR];unfold EnT.lo;rw[hd];cases hdn:dn ls v<;>rw[hdn] at q3<;>exact q3
theorem Fine.cz(g:Fine F ls):Cz F (zF ls) (TF ls) (BF ls) (List.range (nWalks ls)):=by
 have hn:0<ls.length:=List.length_pos_iff.2 g.ne;have mem: ∀ x∈zF ls,∃ i,i<ls.length∧x=enF ls i:=fun x hx=>by
  obtain⟨i,hi,rfl⟩:=List.mem_map.1 hx;exact⟨i,List.mem_range.1 hi,rfl⟩
 have hT:firstG ls (F+1)=(axisR ls).length:=T_len fun l hl hp=>((not_badP hp).1 (g.bad l hl)).1.1.1
 have hs:=firstG_succ ls F;have hm:0<(axisR ls).length:=by
  obtain⟨l,h1,h2⟩:=g.first;exact List.length_pos_of_mem (axisR_mem.2 ⟨l,h1,h2⟩)
 have hcr:=g.ok.cr;unfold crossR at hcr;simp only[Bool.and_eq_true,beq_iff_eq] at hcr;refine⟨⟨sdF ls (ls.length - 1),?_⟩,fun x hx=> ?_,pair_map fun i j hi hj hij=>enF_xr g hi hj hij,by rw[zF_ls];exact hcr.1.1,fun x hx hc=> ?_,pair_map fun i j hi hj hij=> ?_,fun x hx hp=> ?_,fun x hx hp=> ?_,
  fun k hk=> ?_,?_,?_,List.nodup_range,fun s hs=> ?_,?_⟩
 ·have:=path_map (enF ls) (fun i=>sdF ls ((i+ls.length - 1)%ls.length)) ls.length 0 fun i _ hi=>⟨rfl,?_⟩
  ·simp only[Nat.zero_add] at this;rw[Nat.mod_eq_of_lt (by omega),show ls.length+ls.length - 1=(ls.length - 1)+ls.length by omega,Nat.add_mod_right,Nat.mod_eq_of_lt (by omega),← List.range_eq_range'] at this;exact this
  ·show sdF ls i=sdF ls ((i+1+ls.length - 1)%ls.length);rw[show i+1+ls.length - 1=i+ls.length by omega,Nat.add_mod_right,Nat.mod_eq_of_lt (by omega)]
 ·obtain⟨i,hi,rfl⟩:=mem x hx;exact enF_ok g hi
 ·obtain⟨i,hi,rfl⟩:=mem x hx;obtain⟨l,hl⟩:=at_lt hi;rw[enF_k hl] at hc ⊢;rw[zF_ls];exact g.ids.1 l (List.mem_of_getElem? hl) hc
 ·obtain⟨l,hl⟩:=at_lt hi;obtain⟨m,hm⟩:=at_lt hj;intro pl pm e1 e2;rw[enF_k hl] at pl e1 e2;rw[enF_k hm] at pm e1 e2;exact hij (g.ok.ax.inj i j l m hl hm pl pm ((pl_eq (g.ok.ax.good l (List.mem_of_getElem? hl) pl) (g.ok.ax.good m (List.mem_of_getElem? hm) pm)).2 ⟨e1,e2⟩))
 ·obtain⟨i,hi,rfl⟩:=mem x hx;obtain⟨l,hl⟩:=at_lt hi;rw[enF_k hl] at hp ⊢;rw[zF_ls];obtain⟨_,_,r0,r1⟩:=g.ok.ax.good l (List.mem_of_getElem? hl) hp;exact⟨r0,r1⟩
 ·obtain⟨i,hi,rfl⟩:=mem x hx;obtain⟨l,hl⟩:=at_lt hi;rw[enF_k hl] at hp;exact enF_pl g hl hp
 ·rw[zF_ls];unfold TF BF;rw[firstG_succ ls k,Nat.add_zero];exact⟨rfl,rfl⟩
 ·rw[zF_ls];unfold TF BF;have e1:firstG ls F+cg ls F=(axisR ls).length:=by omega
  have e0:firstG ls 0=0:=rfl;rw[e1,e0,Nat.zero_add,show(axisR ls).length+(axisR ls).length - 1=((axisR ls).length - 1)+(axisR ls).length by omega,Nat.add_mod_right];exact⟨rfl,rfl⟩
 ·obtain⟨l,h1,h2⟩:=g.first;exact⟨enF ls 0,List.mem_of_getElem? (zF_at hn),by rw[enF_k h1];exact h2⟩
 ·obtain⟨w,hw⟩:=at_lt (List.mem_range.1 hs);obtain⟨⟨d,t,e,hd⟩,_⟩:=walksL_facts g.ok w (List.mem_of_getElem? hw);have hp:phi ls d=s:=phi_of g hw (by rw[e];simp);refine⟨enF ls (d/2),List.mem_of_getElem? (zF_at (by omega)),?_⟩;rcases Nat.mod_two_eq_zero_or_one d with h|h
  ·refine .inl ?_;show s=phi ls (2*(d/2));rw[show 2*(d/2)=d by omega,hp]
  ·refine .inr ?_;show s=phi ls (2*(d/2)+1);rw[show 2*(d/2)+1=d by omega,hp]
 ·rw[zF_ls,List.length_range,g.nw];omega
end
structure Cq (F:Nat) (z:List EnT) (T B:Nat→Nat→Nat):Prop where
 ok: ∀ x∈z,okE F x
 cr:z.Pairwise Xr
 ev:cnt Let.isC (lsE z)%2=0
 ids: ∀ x∈z,x.k.isC=true→1≤x.k.id∧x.k.id≤((cnt Let.isC (lsE z)/2:Nat):Int)
 rk:z.Pairwise Dr
 rr: ∀ x∈z,x.k.isP=true→1≤x.k.rank∧x.k.rank≤(cg (lsE z) x.k.gate.toNat:Int)
 pl: ∀ x∈z,x.k.isP=true→plE T B x
 gt: ∀ g,g<F→T g (cg (lsE z) g)=T (g+1) 0∧B g (cg (lsE z) g)=B (g+1) 0
 gz:T F (cg (lsE z) F)=T 0 0∧B F (cg (lsE z) F)=B 0 0
def SdE.mp(ψ:Nat→Nat)(s:SdE):SdE:=⟨ψ s.l,ψ s.r,s.b⟩
def EnT.mp(ψ:Nat→Nat)(h:Let→Let)(x:EnT):EnT:=⟨⟨h x.p.l,x.p.d⟩,x.i.mp ψ,x.o.mp ψ⟩
theorem X4.mp{g:Bool}{i o j q:SdE}(h:X4 g i o j q)(ψ:Nat→Nat):X4 g (i.mp ψ) (o.mp ψ) (j.mp ψ) (q.mp ψ):=by
 obtain⟨a,b,c,d⟩:=h;cases g<;>simp only[Bool.false_eq_true,if_false,if_true] at a b c d<;>constructor<;>simp[SdE.mp,a,b,c,d]
theorem mp_up(ψ:Nat→Nat)(h:Let→Let)(x:EnT):(x.mp ψ h).up=x.up.mp ψ:=by
 unfold EnT.up EnT.mp;cases x.p.d<;>rfl
theorem mp_lo(ψ:Nat→Nat)(h:Let→Let)(x:EnT):(x.mp ψ h).lo=x.lo.mp ψ:=by
 unfold EnT.lo EnT.mp;cases x.p.d<;>rfl
theorem path_mp{ψ:Nat→Nat}{h:Let→Let}: ∀ {z:List EnT} {s t:SdE},PathE s z t→PathE (s.mp ψ) (z.map (EnT.mp ψ h)) (t.mp ψ):=by
 intro z
 induction z with
 |nil=>intro s t e;cases e;rfl
 |cons x z ih=>intro s t e;obtain⟨rfl,e⟩:=e;exact⟨rfl,ih e⟩
theorem filter_len{S L:List Nat}(hn:S.Nodup):S.length≤(S.filter fun s=> !L.contains s).length+L.length:=by
 have h1:S.length=(S.filter fun s=> !L.contains s).length+(S.filter fun s=>L.contains s).length:=by
  have:=List.length_eq_countP_add_countP (fun s=> !L.contains s) (l:=S);rw[List.countP_eq_length_filter,List.countP_eq_length_filter] at this;rw[this];congr 2;apply List.filter_congr;intro x _;simp
 have h2:=sub_len (S.filter fun s=>L.contains s) L (hn.filter _) fun x hx=>by simpa using (List.mem_filter.1 hx).2
 omega
structure Same3 (h:Let→Let):Prop where
 kind: ∀ l,(h l).kind=l.kind
 over: ∀ l,(h l).over=l.over
 sign: ∀ l,(h l).sign=l.sign
theorem Same3.isP{h:Let→Let}(s:Same3 h)(l:Let):(h l).isP=l.isP:=by unfold Let.isP;rw[s.kind]
theorem Same3.isC{h:Let→Let}(s:Same3 h)(l:Let):(h l).isC=l.isC:=by unfold Let.isC;rw[s.kind]
theorem Same3.id:Same3 id:=⟨fun _=>rfl,fun _=>rfl,fun _=>rfl⟩
section
variable {F:Nat} {X r X':List EnT} {T B T' B':Nat→Nat→Nat} {S:List Nat} {ψ:Nat→Nat} {h:Let→Let}
theorem Cz.q{z:List EnT}(c:Cz F z T B S):Cq F z T B:=⟨c.ok,c.cr,c.ev,c.ids,c.rk,c.rr,c.pl,c.gt,c.gz⟩
theorem Cq.perm{z z':List EnT}(c:Cq F z T B)(hh:z.Perm z'):Cq F z' T B:=by
 have hm: ∀ {x},x∈z'↔x∈z:=fun {x}=>hh.symm.mem_iff
 have e: ∀ p,cnt p (lsE z')=cnt p (lsE z):=fun p=>(cnt_perm hh).symm
 have eg: ∀ g,cg (lsE z') g=cg (lsE z) g:=fun g=>e _
 exact⟨fun x hx=>c.ok x (hm.1 hx),(hh.pairwise_iff fun {x y}=>Xr.symm).1 c.cr,by rw[e];exact c.ev,fun x hx=>by rw[e];exact c.ids x (hm.1 hx),(hh.pairwise_iff fun {x y}=>Dr.symm).1 c.rk,
  fun x hx=>by rw[eg];exact c.rr x (hm.1 hx),fun x hx=>c.pl x (hm.1 hx),fun g hg=>by rw[eg];exact c.gt g hg,by rw[eg];exact c.gz⟩
theorem okE.mp{x:EnT}(o:okE F x)(s:Same3 h)(hb:badL F (h x.k)=false):okE F (x.mp ψ h):=by
 refine⟨hb,fun hc=> ?_,fun hp=> ?_⟩
 ·exact o.cb (by rw[← s.isC];exact hc)
 ·exact o.pb (by rw[← s.isP];exact hp)
theorem Cq.edit(q:Cq F (X++r) T B)(s:Same3 h)(hb: ∀ x∈r,badL F (h x.k)=false)
  (hid: ∀ x∈r,∀ y∈r,x.k.isC=true→y.k.isC=true→(h x.k).id=(h y.k).id→x.k.id=y.k.id)
  (hrk: ∀ x∈r,∀ y∈r,x.k.isP=true→y.k.isP=true→(h x.k).gate=(h y.k).gate→(h x.k).rank=(h y.k).rank→x.k.gate=y.k.gate∧x.k.rank=y.k.rank)
  (n1: ∀ x∈X',okE F x) (n2:X'.Pairwise Xr) (n3:X'.Pairwise Dr) (n4: ∀ x∈X',∀ y∈r,Xr x (y.mp ψ h)) (n5: ∀ x∈X',∀ y∈r,Dr x (y.mp ψ h))
  (ev:cnt Let.isC (lsE (X'++r.map (EnT.mp ψ h)))%2=0)
  (ids: ∀ x∈X',x.k.isC=true→1≤x.k.id∧x.k.id≤((cnt Let.isC (lsE (X'++r.map (EnT.mp ψ h)))/2:Nat):Int))
  (ids': ∀ x∈r,x.k.isC=true→1≤(h x.k).id∧(h x.k).id≤((cnt Let.isC (lsE (X'++r.map (EnT.mp ψ h)))/2:Nat):Int))
  (rr: ∀ x∈X',x.k.isP=true→1≤x.k.rank∧x.k.rank≤(cg (lsE (X'++r.map (EnT.mp ψ h))) x.k.gate.toNat:Int))
  (rr': ∀ x∈r,x.k.isP=true→1≤(h x.k).rank∧(h x.k).rank≤(cg (lsE (X'++r.map (EnT.mp ψ h))) (h x.k).gate.toNat:Int))
  (pl: ∀ x∈X',x.k.isP=true→plE T' B' x)
  (pl': ∀ x∈r,x.k.isP=true→(ψ (T x.k.gate.toNat (x.k.rank.toNat - 1))=T' (h x.k).gate.toNat ((h x.k).rank.toNat - 1)∧ψ (B x.k.gate.toNat (x.k.rank.toNat - 1))=B' (h x.k).gate.toNat ((h x.k).rank.toNat - 1))∧ψ (T x.k.gate.toNat x.k.rank.toNat)=T' (h x.k).gate.toNat (h x.k).rank.toNat∧ψ (B x.k.gate.toNat x.k.rank.toNat)=B' (h x.k).gate.toNat (h x.k).rank.toNat)
  (gt: ∀ g,g<F→T' g (cg (lsE (X'++r.map (EnT.mp ψ h))) g)=T' (g+1) 0∧B' g (cg (lsE (X'++r.map (EnT.mp ψ h))) g)=B' (g+1) 0)
  (gz:T' F (cg (lsE (X'++r.map (EnT.mp ψ h))) F)=T' 0 0∧B' F (cg (lsE (X'++r.map (EnT.mp ψ h))) F)=B' 0 0):Cq F (X'++r.map (EnT.mp ψ h)) T' B':=by
 have crr:=(List.pairwise_append.1 q.cr).2.1;have rkr:=(List.pairwise_append.1 q.rk).2.1;have mem: ∀ x∈X'++r.map (EnT.mp ψ h),x∈X'∨ ∃ y∈r,x=y.mp ψ h:=fun x hx=>by
  rcases List.mem_append.1 hx with hx|hx
  ·exact .inl hx
  ·obtain⟨y,hy,rfl⟩:=List.mem_map.1 hx;exact .inr ⟨y,hy,rfl⟩
 have in': ∀ y∈r,y∈X++r:=fun y hy=>List.mem_append_right _ hy
 refine⟨fun x hx=> ?_,?_,ev,fun x hx hc=> ?_,?_,fun x hx hp=> ?_,fun x hx hp=> ?_,gt,gz⟩
 ·rcases mem x hx with hx|⟨y,hy,rfl⟩
  ·exact n1 x hx
  ·exact(q.ok y (in' y hy)).mp s (hb y hy)
 ·refine List.pairwise_append.2 ⟨n2,List.pairwise_map.2 (crr.imp_of_mem fun {x y} hx hy hxy hc hd e=> ?_),fun x hx y hy=> ?_⟩
  ·have hc:x.k.isC=true:=by rw[← s.isC];exact hc
   have hd:y.k.isC=true:=by rw[← s.isC];exact hd
   obtain⟨h1,h2,h3⟩:=hxy hc hd (hid x hx y hy hc hd e);refine⟨?_,?_,?_⟩
   ·show(h x.k).over= !(h y.k).over;rw[s.over,s.over];exact h1
   ·show(h x.k).sign=(h y.k).sign;rw[s.sign,s.sign];exact h2
   ·have:gX (x.mp ψ h).k=gX x.k:=by
     show((h x.k).over==((h x.k).sign==1))=_;rw[s.over,s.sign];rfl
    rw[this];exact h3.mp ψ
  ·obtain⟨w,hw,rfl⟩:=List.mem_map.1 hy;exact n4 x hx w hw
 ·rcases mem x hx with hx|⟨y,hy,rfl⟩
  ·exact ids x hx hc
  ·exact ids' y hy (by rw[← s.isC];exact hc)
 ·refine List.pairwise_append.2 ⟨n3,List.pairwise_map.2 (rkr.imp_of_mem fun {x y} hx hy hxy hc hd e1 e2=> ?_),fun x hx y hy=> ?_⟩
  ·have hc:x.k.isP=true:=by rw[← s.isP];exact hc
   have hd:y.k.isP=true:=by rw[← s.isP];exact hd
   obtain⟨f1,f2⟩:=hrk x hx y hy hc hd e1 e2;exact hxy hc hd f1 f2
  ·obtain⟨w,hw,rfl⟩:=List.mem_map.1 hy;exact n5 x hx w hw
 ·rcases mem x hx with hx|⟨y,hy,rfl⟩
  ·exact rr x hx hp
  ·exact rr' y hy (by rw[← s.isP];exact hp)
 ·rcases mem x hx with hx|⟨y,hy,rfl⟩
  ·exact pl x hx hp
  ·have hp:y.k.isP=true:=by rw[← s.isP];exact hp
   obtain⟨p1,p2,p3,p4⟩:=q.pl y (in' y hy) hp;obtain⟨⟨a1,a2⟩,a3,a4⟩:=pl' y hy hp;constructor
   ·rw[mp_up];show ψ y.up.r=_;rw[p1];exact a1
   ·rw[mp_up];show ψ y.up.l=_;rw[p2];exact a3
   ·rw[mp_lo];show ψ y.lo.r=_;rw[p3];exact a2
   ·rw[mp_lo];show ψ y.lo.l=_;rw[p4];exact a4
theorem Cq.done{l:List Pc}{z':List EnT}{L N:List Nat}{V:Nat}(q:Cq F (X'++r.map (EnT.mp ψ h)) T' B')(hnd:S.Nodup)(wit: ∀ s∈S,∃ x∈X++r,s=x.o.l∨s=x.o.r)
  (hperm:z'.Perm (X'++r.map (EnT.mp ψ h))) (hpath: ∃ s,PathE s z' s) (hl:z'.map EnT.p=l) (one: ∃ x∈X'++r.map (EnT.mp ψ h),x.k.isP=true)
  (hψ: ∀ s∈S,s∉L→ψ s=s) (hX: ∀ x∈X,∀ s∈S,(s=x.o.l∨s=x.o.r)→s∉L→ ∃ y∈X'++r.map (EnT.mp ψ h),s=y.o.l∨s=y.o.r)
  (hN:N.Nodup) (hNS: ∀ s∈N,s∉S) (hNw: ∀ s∈N,∃ y∈X'++r.map (EnT.mp ψ h),s=y.o.l∨s=y.o.r)
  (hS:V≤S.length) (num:cnt Let.isP (lsE (X'++r.map (EnT.mp ψ h)))+cnt Let.isC (lsE (X'++r.map (EnT.mp ψ h)))/2+1+L.length≤V+N.length):Cert F l:=by
 have qz:=q.perm hperm.symm;have hm: ∀ {x},x∈z'↔x∈X'++r.map (EnT.mp ψ h):=fun {x}=>hperm.mem_iff
 refine⟨z',T',B',N++S.filter (fun s=> !L.contains s),hl,⟨hpath,qz.ok,qz.cr,qz.ev,qz.ids,qz.rk,qz.rr,qz.pl,qz.gt,qz.gz,?_,?_,fun s hs=> ?_,?_⟩⟩
 ·obtain⟨x,hx,e⟩:=one;exact⟨x,hm.2 hx,e⟩
 ·refine List.nodup_append.2 ⟨hN,hnd.filter _,fun a ha b hb e=> ?_⟩;subst e;exact hNS a ha (List.mem_filter.1 hb).1
 ·have key: ∃ y∈X'++r.map (EnT.mp ψ h),s=y.o.l∨s=y.o.r:=by
   rcases List.mem_append.1 hs with hs|hs
   ·exact hNw s hs
   ·obtain⟨h1,h2⟩:=List.mem_filter.1 hs;have h2:s∉L:=by simpa using h2
    obtain⟨x,hx,e⟩:=wit s h1;rcases List.mem_append.1 hx with hx|hx
    ·exact hX x hx s h1 e h2
    ·refine⟨x.mp ψ h,List.mem_append_right _ (List.mem_map.2 ⟨x,hx,rfl⟩),?_⟩;have hp:=hψ s h1 h2;rcases e with e|e
     ·left;show s=ψ x.o.l;rw[← e,hp]
     ·right;show s=ψ x.o.r;rw[← e,hp]
  obtain⟨y,hy,e⟩:=key;exact⟨y,hm.2 hy,e⟩
 ·have e: ∀ p,cnt p (lsE z')=cnt p (lsE (X'++r.map (EnT.mp ψ h))):=fun p=>cnt_perm hperm
  rw[e,e,List.length_append];have:=filter_len (L:=L) hnd;omega
end
theorem cnt_app(p:Let→Bool)(a b:List EnT):cnt p (lsE (a++b))=cnt p (lsE a)+cnt p (lsE b):=by
 show List.countP p (List.map _ _)=List.countP p (List.map _ _)+List.countP p (List.map _ _);rw[List.map_append,List.countP_append]
theorem cnt_cons(p:Let→Bool)(x:EnT)(b:List EnT):cnt p (lsE (x::b))=(if p x.k then 1 else 0)+cnt p (lsE b):=by
 show List.countP p (List.map _ _)=_+List.countP p (List.map _ _);rw[List.map_cons,List.countP_cons,Nat.add_comm]
theorem cnt_nil(p:Let→Bool):cnt p (lsE [])=0:=rfl
theorem cnt_mp{p:Let→Bool}{ψ:Nat→Nat}{h:Let→Let}(hp: ∀ l,p (h l)=p l)(r:List EnT):cnt p (lsE (r.map (EnT.mp ψ h)))=cnt p (lsE r):=by
 induction r with
 |nil=>rfl
 |cons x r ih=>
  rw[List.map_cons,cnt_cons,cnt_cons,ih];show(if p (h x.k) then 1 else 0)+_=_;rw[hp]
theorem atG_C{l:Let}(g:Nat)(h:l.isC=true):atG g l=false:=by
 unfold atG;cases hp:l.isP
 ·rfl
 ·rw[notBoth hp] at h;cases h
theorem isP_notC{l:Let}(h:l.isC=true):l.isP=false:=by
 cases hp:l.isP
 ·rfl
 ·rw[notBoth hp] at h;cases h
theorem from_at{α:Type}{z:List α}{a:Nat}(ha:a<z.length)(h2:2≤z.length): ∃ x y r,z.drop a++z.take a=x::y::r∧z[a]? =some x∧z[(a+1)%z.length]? =some y:=by
 obtain⟨x,hx⟩:=at_lt ha;obtain⟨hl,e⟩:=List.getElem?_eq_some_iff.1 hx;have hd:z.drop a=x::z.drop (a+1):=by rw[← e,List.getElem_cons_drop]
 by_cases c:a+1<z.length
 ·obtain⟨y,hy⟩:=at_lt c;obtain⟨hl2,e2⟩:=List.getElem?_eq_some_iff.1 hy;have hd2:z.drop (a+1)=y::z.drop (a+1+1):=by rw[← e2,List.getElem_cons_drop]
  exact⟨x,y,z.drop (a+1+1)++z.take a,by rw[hd,hd2];rfl,hx,by rw[Nat.mod_eq_of_lt c];exact hy⟩
 ·have ea:a+1=z.length:=by omega
  obtain⟨y,hy⟩:=at_lt (ls:=z) (k:=0) (by omega);have hd2:z.drop (a+1)=[]:=List.drop_eq_nil_of_le (by omega);have ht:z.take a=y::(z.take a).drop 1:=by
   have h0:(z.take a)[0]? =some y:=by rw[List.getElem?_take,if_pos (by omega)];exact hy
   obtain⟨hl3,e3⟩:=List.getElem?_eq_some_iff.1 h0;have:=List.getElem_cons_drop (h:=hl3);rw[e3,List.drop_zero] at this;exact this.symm
  refine⟨x,y,(z.take a).drop 1,?_,hx,by rw[ea,Nat.mod_self];exact hy⟩;rw[hd,hd2]
  conv=>lhs;rw[ht]
  rfl
section
variable {F:Nat} {ls:List Let}
theorem ifC{l:Let}(h:l.isC=true):(if Let.isC l=true then 1 else 0)=1∧(if Let.isP l=true then 1 else 0)=0:=by simp[h,isP_notC h]
theorem ifP{l:Let}(h:l.isP=true):(if Let.isC l=true then 1 else 0)=0∧(if Let.isP l=true then 1 else 0)=1:=by simp[h,notBoth h]
end
def lowL(ids:List Int)(l:Let):Let:=if l.kind==2 then {l with id:=l.id - ((ids.take ids.length).countP (fun i=>decide (i<l.id)):Nat)} else l
theorem lowL_same(ids:List Int):Same3 (lowL ids):=by
 refine⟨fun l=> ?_,fun l=> ?_,fun l=> ?_⟩<;>unfold lowL<;>split<;>rfl
theorem lowP_L(ids:List Int)(p:Pc):lowP ids p=⟨lowL ids p.l,p.d⟩:=by
 unfold lowP lowL lowK;split<;>rfl
theorem lowL_P{ids:List Int}{l:Let}(h:l.isP=true):lowL ids l=l:=by
 unfold lowL;have:=notBoth h;unfold Let.isC at this;rw[if_neg (by rw[this];decide)]
theorem lowL_bad{F:Nat}{ids:List Int}{l:Let}(h:badL F l=false):badL F (lowL ids l)=false:=by
 rcases bad_kind h with hp|hc
 ·rw[lowL_P hp];exact h
 ·have hc':(lowL ids l).isC=true:=by rw[(lowL_same ids).isC];exact hc
  rw[not_badC hc] at h;rw[not_badC hc'];unfold lowL;split<;>exact h
theorem lowL_atG(ids:List Int)(g:Nat)(l:Let):atG g (lowL ids l)=atG g l:=by
 cases hp:l.isP
 ·unfold atG;rw[(lowL_same ids).isP,hp];rfl
 ·rw[lowL_P hp]
theorem lowL_id{ids:List Int}{l:Let}(h:l.isC=true):(lowL ids l).id=l.id - ((ids.countP fun i=>decide (i<l.id):Nat):Int):=by
 unfold lowL;unfold Let.isC at h;rw[if_pos h,List.take_length]
theorem keep_filter{l:List Pc}{drop:Nat→Pc→Bool}{d:Pc→Bool}(h: ∀ i p,drop i p=d p):keepL l drop=l.filter fun p=> !d p:=by
 have key: ∀ k,k≤l.length→keepK l drop k=(l.take k).filter fun p=> !d p:=by
  intro k
  induction k with
  |zero=>intro _;rfl
  |succ k ih=>
   intro hk;obtain⟨p,hp⟩:=at_lt (ls:=l) (k:=k) (by omega);rw[List.take_add_one,hp,List.filter_append,← ih (by omega)];cases hd:d p
   ·rw[keepK_keep hp (by rw[h];exact hd)];simp[hd]
   ·rw[keepK_drop hp (by rw[h];exact hd)];simp[hd]
 unfold keepL;rw[key _ (Nat.le_refl _),List.take_length]
theorem path_lastm: ∀ {z:List EnT} {s t:SdE},PathE s z t→z≠[]→ ∃ w∈z,w.o=t:=by
 intro z
 induction z with
 |nil=>intro s t _ h;exact absurd rfl h
 |cons x z ih=>
  intro s t h _;obtain⟨_,h⟩:=h;cases z with
  |nil=>cases h;exact⟨x,by simp,rfl⟩
  |cons y z=>
   obtain⟨w,hw,e⟩:=ih h (by simp);exact⟨w,List.mem_cons_of_mem _ hw,e⟩
section
variable {F:Nat} {ls:List Let}
theorem no_third{x y:EnT}{r:List EnT}{T B:Nat→Nat→Nat}(q:Cq F (x::y::r) T B)(cx:x.k.isC=true)(cy:y.k.isC=true)(e:x.k.id=y.k.id): ∀ w∈r,w.k.isC=true→w.k.id≠x.k.id:=by
 intro w hw cw ew;obtain⟨p1,p2⟩:=List.pairwise_cons.1 q.cr;obtain⟨p3,_⟩:=List.pairwise_cons.1 p2;have a:=(p1 y (by simp) cx cy e).ov;have b:=(p1 w (by simp[hw]) cx cw ew.symm).ov;have d:=(p3 w hw cy cw (by rw[← e,ew])).ov;rw[b] at a;rw[d] at a;revert a;cases w.k.over<;>simp
theorem zF_get(g:Fine F ls){a:Nat}(ha:a<ls.length): ∃ x y r s,(zF ls).drop a++(zF ls).take a=x::y::r∧(pieces ls)[a]? =some x.p∧(pieces ls)[nx ls a]? =some y.p∧
  Cz F (x::y::r) (TF ls) (BF ls) (List.range (nWalks ls))∧PathE s (x::y::r) s∧(pieces ls).drop a++(pieces ls).take a=(x::y::r).map EnT.p∧(zF ls)[a]? =some x∧(zF ls)[nx ls a]? =some y∧(x::y::r).Perm (zF ls):=by
 have h2:2≤ls.length:=by
  obtain⟨l,h1,hp⟩:=g.first;have:=g.even;have:0<cnt Let.isP ls:=List.countP_pos_iff.2 ⟨l,List.mem_of_getElem? h1,hp⟩;have:=cnt_le Let.isP ls;omega
 have hl:=zF_len ls;obtain⟨x,y,r,e,hx,hy⟩:=from_at (z:=zF ls) (a:=a) (by omega) (by omega);rw[hl] at hy;have c:Cz F ((zF ls).drop a++(zF ls).take a) (TF ls) (BF ls) (List.range (nWalks ls)):=by
  refine Cz.rot ?_;rw[List.take_append_drop];exact g.cz
 rw[e] at c;obtain⟨s,hs⟩:=c.path;refine⟨x,y,r,s,e,?_,?_,c,hs,?_,hx,hy,?_⟩
 ·rw[← zF_p,List.getElem?_map,hx];rfl
 ·rw[← zF_p,List.getElem?_map,hy];rfl
 ·rw[← e,List.map_append,List.map_drop,List.map_take,zF_p]
 ·rw[← e];exact List.perm_append_comm.trans (by rw[List.take_append_drop])
theorem drop_rot{a:Nat}{d:Pc→Bool}{f:Pc→Pc}(c:Cert F ((((pieces ls).drop a++(pieces ls).take a).filter d).map f)):Cert F (((pieces ls).filter d).map f):=by
 rw[List.filter_append,List.map_append] at c;have:=c.rot;rwa[← List.map_append,← List.filter_append,List.take_append_drop] at this
theorem isC_kind{l:Let}:l.isC=(l.kind==2):=rfl
theorem filter_all{α:Type}{l:List α}{p:α→Bool}(h: ∀ x∈l,p x=true):l.filter p=l:=List.filter_eq_self.2 h
theorem cert4(g:Fine F ls){a:Nat}(ha:a<ls.length){L:List Pc}(h:lcR ls a=some L):Cert F L:=by
 obtain⟨x,y,r,s,e,hx,hy,c,hp,hrot,_,_,hperm⟩:=zF_get g ha;have q:=c.q;unfold lcR at h;have e1:(pieces ls).getD a ⟨noLet,false⟩=x.p:=by rw[List.getD_eq_getElem?_getD,hx];rfl
 have e2:(pieces ls).getD ((a+1)%ls.length) ⟨noLet,false⟩=y.p:=by rw[List.getD_eq_getElem?_getD,hy];rfl
 simp only[e1,e2] at h;split at h
 case isFalse=>cases h
 rename_i hc;simp only[Bool.and_eq_true,beq_iff_eq] at hc;obtain⟨hc1,hc2,hid⟩:=hc;have cx:x.k.isC=true:=by rw[isC_kind];simp[hc1]
 have cy:y.k.isC=true:=by rw[isC_kind];simp[hc2]
 have hid':x.k.id=y.k.id:=hid;cases h
 have hthird:=no_third q cx cy hid';have hxy:Xc x y:=(List.pairwise_cons.1 q.cr).1 y (by simp) cx cy hid';obtain⟨hs1,hs2,hpr⟩:=hp
 -- both ends of the kink look alike
 have ix:=(q.ok x (by simp)).cb cx;have iy:=(q.ok y (by simp)).cb cy;have hk:=hxy.x4;rw[hs1,hs2] at hk;rw[hs1] at ix;rw[hs2] at iy;have hyo:y.o=s:=by
  obtain⟨k1,k2,k3,k4⟩:=hk;have hb:y.o.b=s.b:=by rw[← iy,← ix]
  cases y with
  |mk yp yi yo=>
  cases yo with
  |mk l r b=>
  cases s with
  |mk sl sr sb=>
  cases hg:gX x.k<;>rw[hg] at k1 k2 k3 k4<;>simp only[Bool.false_eq_true,if_false,if_true] at k1 k2 k3 k4 hb<;>simp_all
 rw[hyo] at hpr;have hlost: ∃ b,(s.r=b∨s.l=b)∧ ∀ t,(t=x.o.l∨t=x.o.r)→t=s.l∨t=s.r∨t=(if gX x.k then x.o.r else x.o.l):=by
  obtain⟨k1,k2,k3,k4⟩:=hk;refine⟨s.r, .inl rfl,?_⟩;cases hg:gX x.k<;>rw[hg] at k1 k2 k3 k4<;>simp only[Bool.false_eq_true,if_false,if_true] at k1 k2 k3 k4 ⊢
  ·rintro t (rfl|rfl)
   ·exact .inr (.inr rfl)
   ·exact .inl k1.symm
  ·rintro t (rfl|rfl)
   ·exact .inr (.inl k3)
   ·exact .inr (.inr rfl)
 obtain⟨_,_,hlost⟩:=hlost;have hev:=q.ev;have hcC: ∀ z:List EnT,cnt Let.isC (lsE (x::y::z))=cnt Let.isC (lsE z)+2:=fun z=>by rw[cnt_cons,cnt_cons,(ifC cx).1,(ifC cy).1];omega
 have hcP: ∀ z:List EnT,cnt Let.isP (lsE (x::y::z))=cnt Let.isP (lsE z):=fun z=>by rw[cnt_cons,cnt_cons,(ifC cx).2,(ifC cy).2];omega
 have hcG: ∀ (z:List EnT) k,cg (lsE (x::y::z)) k=cg (lsE z) k:=fun z k=>by
  show cnt _ _=cnt _ _;rw[cnt_cons,cnt_cons,atG_C k cx,atG_C k cy];simp
 have mC:cnt Let.isC (lsE (r.map (EnT.mp id (lowL [x.k.id]))))=cnt Let.isC (lsE r):=cnt_mp (fun l=>(lowL_same _).isC l) r;have mP:cnt Let.isP (lsE (r.map (EnT.mp id (lowL [x.k.id]))))=cnt Let.isP (lsE r):=cnt_mp (fun l=>(lowL_same _).isP l) r;have mG: ∀ k,cg (lsE (r.map (EnT.mp id (lowL [x.k.id])))) k=cg (lsE r) k:=fun k=>cnt_mp (fun l=>lowL_atG _ k l) r
 have lowid: ∀ w∈r,w.k.isC=true→(lowL [x.k.id] w.k).id=if x.k.id<w.k.id then w.k.id - 1 else w.k.id:=fun w hw hc=>by
  rw[lowL_id hc];by_cases c:x.k.id<w.k.id
  ·simp[c]
  ·simp[c]
 have hidr: ∀ w∈x::y::r,w.k.isC=true→1≤w.k.id∧w.k.id≤((cnt Let.isC (lsE r)/2:Nat):Int)+1:=fun w hw hc=>by
  have:=q.ids w hw hc;rw[hcC] at this;omega
 have hr:r≠[]:=by
  obtain⟨w,hw,hwp⟩:=c.one;rintro rfl
  simp only[List.mem_cons,List.not_mem_nil,or_false] at hw;rcases hw with rfl|rfl
  ·rw[isP_notC cx] at hwp;cases hwp
  ·rw[isP_notC cy] at hwp;cases hwp
 have inr: ∀ w∈r,w∈x::y::r:=fun w hw=>by simp[hw]
 have qn:Cq F ([]++r.map (EnT.mp id (lowL [x.k.id]))) (TF ls) (BF ls):=by
  refine Cq.edit (X:=[x,y]) (r:=r) q (lowL_same _) (fun w hw=>lowL_bad (q.ok w (inr w hw)).bad) (fun u hu v hv cu cv e=> ?_) (fun u hu v hv pu pv e1 e2=> ?_) (fun _ h=>by cases h) List.Pairwise.nil List.Pairwise.nil (fun _ h=>by cases h) (fun _ h=>by cases h) ?_ (fun _ h=>by cases h) (fun u hu cu=> ?_) (fun _ h=>by cases h) (fun u hu pu=> ?_) (fun _ h=>by cases h) (fun u hu pu=> ?_) (fun k hk=> ?_) ?_
  ·have h1:=hthird u hu cu;have h2:=hthird v hv cv;rw[lowid u hu cu,lowid v hv cv] at e;split at e<;>split at e<;>omega
  ·rw[lowL_P pu,lowL_P pv] at e1 e2;exact⟨e1,e2⟩
  ·rw[List.nil_append,mC];rw[hcC] at hev;omega
  ·rw[List.nil_append,mC,lowid u hu cu];have h1:=hidr u (inr u hu) cu;have h2:=hthird u hu cu;have h3:=hidr x (by simp) cx;split<;>omega
  ·rw[List.nil_append,lowL_P pu,mG,← hcG r];exact q.rr u (inr u hu) pu
  ·rw[lowL_P pu];exact⟨⟨rfl,rfl⟩,rfl,rfl⟩
  ·rw[List.nil_append,mG,← hcG r];exact q.gt k hk
  ·rw[List.nil_append,mG,← hcG r];exact q.gz
 have hdone:Cert F (r.map fun w=>lowP [x.k.id] w.p):=by
  refine Cq.done (X:=[x,y]) (r:=r) (X':=[]) (L:=[if gX x.k then x.o.r else x.o.l]) (N:=[]) (V:=nWalks ls) (z':=r.map (EnT.mp id (lowL [x.k.id]))) qn c.nd (fun t ht=>c.wit t ht) (List.Perm.refl _) ⟨s,path_mp (ψ:=id) hpr⟩ ?_ ?_ (fun _ _ _=>rfl) (fun w hw t ht ew hL=> ?_) List.nodup_nil (fun t ht=>by cases ht) (fun t ht=>by cases ht) (by rw[List.length_range];exact Nat.le_refl _) ?_
  ·rw[List.map_map];refine List.map_congr_left fun w _=> ?_
   rw[lowP_L];rfl
  ·obtain⟨w,hw,hwp⟩:=c.one;simp only[List.mem_cons] at hw;rcases hw with rfl|rfl|hw
   ·rw[isP_notC cx] at hwp;cases hwp
   ·rw[isP_notC cy] at hwp;cases hwp
   ·refine⟨w.mp id (lowL [x.k.id]),?_,?_⟩
    ·rw[List.nil_append];exact List.mem_map.2 ⟨w,hw,rfl⟩
    ·show(lowL [x.k.id] w.k).isP=true;rw[(lowL_same _).isP];exact hwp
  ·obtain⟨v,hv,hvo⟩:=path_lastm hpr hr;have key:t=s.l∨t=s.r:=by
    simp only[List.mem_cons,List.not_mem_nil,or_false] at hw hL;rcases hw with rfl|rfl
    ·rcases hlost t ew with h|h|h
     ·exact .inl h
     ·exact .inr h
     ·exact absurd h hL
    ·rw[hyo] at ew;exact ew
   refine⟨v.mp id (lowL [x.k.id]),by rw[List.nil_append];exact List.mem_map.2 ⟨v,hv,rfl⟩,?_⟩;show t=id v.o.l∨t=id v.o.r;rw[hvo];exact key
  ·rw[List.nil_append,mC,mP];have h1:=g.nw;have h2:cnt Let.isC (lsE (x::y::r))=cnt Let.isC ls:=by rw[cnt_perm hperm,zF_ls]
   have h3:cnt Let.isP (lsE (x::y::r))=cnt Let.isP ls:=by rw[cnt_perm hperm,zF_ls]
   rw[hcC] at h2;rw[hcP] at h3;simp only[List.length_nil,List.length_cons];omega
 show Cert F ((keepL (pieces ls) (dropI [x.k.id])).map (lowP [x.k.id]));rw[keep_filter (l:=pieces ls) (drop:=dropI [x.k.id]) (d:=fun p=>(p.l.kind==2)&&[x.k.id].contains p.l.id) fun _ _=>rfl];refine drop_rot (a:=a) ?_;rw[hrot];have hf:((x::y::r).map EnT.p).filter (fun p=> !((p.l.kind==2)&&[x.k.id].contains p.l.id))=r.map EnT.p:=by
  rw[List.map_cons,List.map_cons,List.filter_cons_of_neg (by simp[hc1]),List.filter_cons_of_neg (by simp[hc2,hid])];refine filter_all fun p hp=> ?_
  obtain⟨w,hw,rfl⟩:=List.mem_map.1 hp;cases hk:(w.p.l.kind==2)
  ·rfl
  ·have:=hthird w hw hk;simp[this]
 rw[hf,List.map_map];exact hdone
end
end Go.Abs
