/-
  A part of a proof.
-/
import Derived.Test.YtjjdebhkbfeniaaGreatDoorWn
set_option linter.unusedSimpArgs false
set_option linter.unusedVariables false
set_option linter.unusedSectionVars false
set_option maxRecDepth 100000
set_option maxHeartbeats 16000000
namespace Go.Abs
section
variable{F:Nat}{ls:List Let}
structure Fine (F:Nat) (ls:List Let):Prop where
 ok:dgOK F ls
 len:ls.length≤400
 cr:cnt Let.isC ls≤200
 fing:F≤40
 ne:ls≠[]
 first: ∃ l,ls[0]? =some l∧l.isP=true
 even:cnt Let.isP ls%2=0
 bad: ∀ l∈ls,badL F l=false
 chk:checkR F ls=0
 nw:nWalks ls=cnt Let.isP ls+cnt Let.isC ls/2+2
theorem fine_of{f:Int}(h:checkR f ls=0)(hne:ls≠[]): ∃ F:Nat,f=(F:Int)∧Fine F ls:=by
 have h0:=h;unfold checkR at h;by_cases h1:400<ls.length∨200<cnt Let.isC ls
 ·rw[if_pos h1] at h;cases h
 rw[if_neg h1] at h;by_cases h2:f<0∨40<f
 ·rw[if_pos h2] at h;cases h
 rw[if_neg h2,if_neg hne] at h;cases hv:validR f ls with
 |false=>rw[hv] at h;simp at h
 |true=>
  obtain⟨F,rfl⟩:=Int.eq_ofNat_of_zero_le (show 0≤f by omega);refine⟨F,rfl,?_⟩;unfold validR at hv;simp only[Bool.and_eq_true] at hv;obtain⟨⟨⟨v1,v2⟩,v3⟩,v4⟩:=hv;obtain⟨hb1,hrk,hcr⟩:=letters_law.1 v3;have hbl: ∀ l∈ls,badL F l=false:=fun l hl=>by simpa using List.any_eq_false.1 hb1 l hl
  have hg:gates F ls:=fun l hl hp=>((not_badP hp).1 (hbl l hl)).1.1.1
  obtain⟨g1,g2⟩:=(ranks_iff hg).1 hrk;obtain⟨l0,hl0⟩:=at_lt (List.length_pos_iff.2 hne);rw[hl0] at v1;exact⟨⟨by omega,⟨g1,g2⟩,hcr,fun l hl=>bad_kind (hbl l hl)⟩,by omega,by omega,by omega,hne,⟨l0,hl0,v1⟩,by simpa using v2,hbl,h0,by simpa using v4⟩
def fcPost(F:Nat)(ls:List Let)(idS gS:Nat)(x:Nat)(sn':List Bool)(blk:Blk)(v:V)(blk':Blk):Prop:=
 ∃ f cd cp cf,f=((walkF (nxt ls) (nD ls+1) x sn').1).foldl (Fc.add F ls) (Fc.new ls x)∧v= .agg [.p (.bool f.above),cd,cp,cf, .p (.bool f.outer)]∧blk' idS=(gS,some (.arr 4 1 (bP ((walkF (nxt ls) (nD ls+1) x sn').2.take (2*ls.length)))))∧
  grown 5120512256 3 1 (nP f.darts) (.one cd) blk'∧grown 5120896192 plTy 2 (plP f.places) (.one cp) blk'∧grown 5120896448 3 1 (nP f.fingers) (.one cf) blk'∧Kept (fun id=>isFc id∨id=idS) blk blk'
theorem face_s{al:Al}(ok:dgOK F ls)(hF:F≤1000)(okf: ∀ id,isFc id→al.ok id=true){idS gS idB gB x:Nat}(oS:al.ok idS=true)(oB:al.ok idB=true)(nS: ¬ isFc idS)(nB: ¬ isFc idB)(nSB:idS≠idB)(f1:al.fs.contains 115=true)(f2:al.fs.contains 116=true){sn':List Bool}{blk:Blk}
  (hx:x<2*ls.length) (hSl:sn'.length=nD ls) (hcl:Closed (nxt ls) (nD ls) sn') (hs:sn'.getD x true=false) (bS:blk idS=(gS,some (.arr 4 1 (bP (sn'.take (2*ls.length)))))) (bB:blk idB=(gB,some (.arr 4 1 (bP (belL ls))))):
  ∃ v blk',SEv S 80 [.one (.p (dgV F ls)),vi x, .one (.hsl idS gS 1 0 (2*ls.length)), .one (.hsl idB gB 1 0 ls.length)] al blk v blk'∧fcPost F ls idS gS x sn' blk v blk':=by
 have hl:=ok.hl;have hal:(axisR ls).length≤ls.length:=axisK_len ls ls.length;have hnd:nD ls≤4000000:=by unfold nD;omega
 have k0:al.ok 5120000000=true:=okf _ rfl;have kF:al.ok 5120128448=true:=okf _ rfl;have wq:=wrap_small (n:=x/2) (by omega);have hxl:x/2<ls.length:=by omega
 have hbel:=bP_at (belL_at hxl);have nSi: ∀ {a:Nat},isFc a→a≠idS:=fun h e=>nS (e▸h)
 have nBi: ∀ {a:Nat},isFc a→a≠idB:=fun h e=>nB (e▸h)
 have nB0: ¬ (idB=5120000000):=fun e=>nBi rfl e.symm
 have hul:=unseen_le sn';refine SEv_fn c80 (Nat.le_of_ble_eq_true rfl) ?_;simp only[go_sem,i80,bB,nB0,k0,kF,oB,two_ne,tdiv2,wq,hxl,hbel];refine⟨okd,?_⟩;refine faceIn ok hF okf (idS:=idS) (gS:=gS) (idB:=idB) (gB:=gB) (g8:=(blk 5120000000).1+1) (gF:=(blk 5120128448).1+1) (d:=x) oS nS nB nSB f1 f2 hx (nD ls+1) 0 x sn' (Fc.new ls x) _ _ (.p .nils) (.p .nils) (.p .nils) ?_ ?_ ?_ ?_ ?_ ?_ ?_ ?_ hSl (by unfold nD;omega) (Inv.start hcl hs) (by omega) (by omega) ⟨Nat.le_refl _,Nat.zero_le _,Nat.zero_le _⟩ ?_
 ·simp only[go_sem]
 ·simp only[go_sem]
 ·simp only[go_sem]
 ·simp only[go_sem]
 ·simp only[go_sem]
 ·simp only[go_sem]
 ·simp only[go_sem]
 ·refine⟨?_,?_,?_,?_,grown.nil,grown.nil,grown.nil⟩
  ·simp only[upd_ne (nSi (a:=5120000000) rfl).symm,upd_ne (nSi (a:=5120128448) rfl).symm,bS]
  ·simp only[upd_ne (nBi (a:=5120000000) rfl).symm,upd_ne (nBi (a:=5120128448) rfl).symm,bB]
  ·simp only[go_sem]
  ·simp only[go_sem,Fc.new]
 ·intro env' blk' cd' cp' cf' q8 q11 hFE hkp;simp only[go_sem] at q8 q11;have h8:=hFE.b8;have hf:=hFE.bF;simp only[go_sem,i80_r2,q8,q11,h8,hf,k0,kF];refine⟨_,cd',cp',cf',rfl,rfl,?_,?_,?_,?_,fun id hn=> ?_⟩
  ·exact(upd_ne (nSi rfl).symm).trans hFE.bS
  ·exact hFE.gd.of_eq (upd_ne (by decide))
  ·exact hFE.gp.of_eq (upd_ne (by decide))
  ·exact hFE.gf.of_eq (upd_ne (by decide))
  ·have a: ∀ y,isFc y→id≠y:=fun y hy e=>hn (.inl (e▸hy))
   refine(upd_ne (a _ rfl)).trans ((hkp id hn).trans ?_);simp only[upd_ne (a 5120000000 rfl),upd_ne (a 5120128448 rfl)]
theorem grown_out1{s1 t1 z1:Nat}{es:List (List PV)}{c:C}{x:PV}{blk:Blk}(h:grown s1 t1 z1 es (.one c) blk):outV blk (.tup [.one c, .one (.p x)])=some (.tup [.one (grownR t1 z1 es), .one (.p x)]):=by
 obtain⟨c',o,hc,h2,h3⟩:=h.outC;cases hc
 rcases h3 with rfl|rfl<;>simp[outV,flatV,flatVs,flatV1,outCs,h2,(show Go.Abs.outC blk (.p x)=some (.p x,[],[]) from rfl),apart,reshR,reshR1,reshRs]
theorem reach_hsl{blk:Blk}{id g g0 z o l ty sz:Nat}{es:List (List PV)}(h:blk id=(g0,some (.arr ty sz es))):reachV blk (.one (.hsl id g z o l))=[id]:=(reach_arr h:reachC blk 6 (.hsl id g z o l)=[id])
theorem sitesF1:(S.sites 80).contains 80=true:=by kernel_rfl
theorem sitesF2:(S.sites 80).contains 115=true:=by kernel_rfl
theorem sitesF3:(S.sites 80).contains 116=true:=by kernel_rfl
theorem take_get{S:List Bool}{n k:Nat}{b:Bool}(hk:k<n)(hn:n≤S.length)(h:S.getD k true=b):(S.take n)[k]? =some b:=by
 rw[List.getElem?_take,if_pos hk];rw[List.getD_eq_getElem?_getD] at h;obtain⟨c,hc⟩:=at_lt (show k<S.length by omega);rw[hc] at h ⊢;exact congrArg some h
theorem faces_p(g:Fine F ls):PEv S 51 [codeV F ls] (.tup [.one (grownR faTy 5 (fcP (facesL F ls))), .one (.p (.int .i64 0))]):=by
 have ok:=g.ok;have hl:=ok.hl;have hF:F≤1000:=by have:=g.fing;omega
 have hal:(axisR ls).length≤ls.length:=axisK_len ls ls.length;have hlen:=g.len;have hnd:nD ls≤4000000:=by unfold nD;omega
 have h2n:2*ls.length≤nD ls:=by unfold nD;omega
 have pr:=read_p F ls hl;rw[readR_good g.chk,if_neg g.ne,Int.toNat_natCast] at pr;have pb:=below_p ok;have hm:=maps ok;have m2:=wrap_mul2 (a:=ls.length) (by omega);have hroom:2*ls.length≤140737488355328:=by omega
 have hrep:List.replicate (2*ls.length) [PV.bool false]=bP ((walksK (nxt ls) (nD ls) 0).2.take (2*ls.length)):=by
  show _=bP ((List.replicate (nD ls) false).take (2*ls.length));rw[List.take_replicate,Nat.min_eq_left h2n];simp
 have hLB: ∀ blk:Blk,land blk [] 3264384064 ((RV.one (.own 4 1 (bP (belL ls)))).pureIf (S.lone 3264384064))=some (.one (.hsl 3264384064 ((blk 3264384064).1+1) 1 0 ls.length),[(3264384064,((blk 3264384064).1+1,some (.arr 4 1 (bP (belL ls)))))]):=by
  intro blk;rw[show S.lone 3264384064=false by kernel_rfl];show some (V.one (.hsl 3264384064 ((blk 3264384064).1+1) 1 0 (bP (belL ls)).length),_)=_;rw[show(bP (belL ls)).length=ls.length by simp[belK]];rfl
 have hsh:S.shared 80=true:=by kernel_rfl
 refine pev1 c51 ?_;simp only[go_sem,i51,s38,gP_land pr land_tup,s79,gP_land pb (hLB _),m2,hroom,hrep];refine R_for (fun k env blk=>env 4= .one (.p (dgV F ls))∧env 7= .one (.hsl 3264320448 1 1 0 (2*ls.length))∧env 8= .one (.hsl 3264384064 1 1 0 ls.length)∧env 29=vi ((2*ls.length:Nat):Int)∧env 30=vi k∧
   blk 3264320448=(1,some (.arr 4 1 (bP ((walksK (nxt ls) (nD ls) k).2.take (2*ls.length)))))∧blk 3264384064=(1,some (.arr 4 1 (bP (belL ls))))∧
   ∃ vo,env 6= .one vo∧grown 3264704448 faTy 5 (fcP ((walksK (nxt ls) (nD ls) k).1.map (faceW F ls))) (.one vo) blk) 0 (2*ls.length) (Nat.zero_le _) ?_ ?_
 ·simp only[go_sem];first|exact⟨rfl,rfl,rfl,_,rfl, .inl ⟨rfl,rfl⟩⟩|exact⟨rfl,rfl,_,rfl, .inl ⟨rfl,rfl⟩⟩|exact⟨rfl,_,rfl, .inl ⟨rfl,rfl⟩⟩|exact⟨rfl,rfl,rfl,rfl,_,rfl, .inl ⟨rfl,rfl⟩⟩
 ·rintro k env blk hk ⟨h4,h7,h8,h29,h30,bS,bB,vo,h6,go⟩
  by_cases hlt:k<2*ls.length
  ·have hlt':((k:Int)<((2*ls.length:Nat):Int)):=by omega
   have w1:=wrap_succ (n:=k) (by omega);obtain⟨hcl,_⟩:=walksK_closed hm k (by omega);have hlenS:=walksK_len (nxt ls) (nD ls) k;have holen:=walksK_olen (nxt ls) (nD ls) k;have hst:=walksK_succ (nxt ls) (nD ls) k;generalize hw:walksK (nxt ls) (nD ls) k=st at*;obtain⟨o,sn'⟩:=st;simp only at hcl hlenS holen bS go;unfold walkStep at hst;cases hs:sn'.getD k true with
   |true=>
    simp only[hs,if_true] at hst;have hb:=bP_at (take_get hlt (by omega) hs);simp only[go_sem,i51_l1,h4,h6,h7,h8,h29,h30,bS,bB,hlt,hlt',hb,w1,hst];exact⟨vo,rfl,go⟩
   |false=>
    simp only[hs,Bool.false_eq_true,if_false,hlenS] at hst;have hb:=bP_at (take_get hlt (by omega) hs);obtain⟨t,ht⟩:=walkF_cons (nxt ls) (k:=nD ls) hs;have hfw:((walkF (nxt ls) (nD ls+1) k sn').1).foldl (Fc.add F ls) (Fc.new ls k)=faceW F ls (walkF (nxt ls) (nD ls+1) k sn').1:=by
     unfold faceW;rw[ht];rfl
    have hdn:=faceW_darts (F:=F) (t:=t) hlt;rw[← ht] at hdn;simp only[go_sem,i51_l1,h4,h6,h7,h8,h29,h30,bS,bB,hlt,hlt',hb,hsh];have hre1:reachV blk (.one (.hsl 3264320448 1 1 0 (2*ls.length)))=[3264320448]:=reach_hsl bS;have hre2:reachV blk (.one (.hsl 3264384064 1 1 0 ls.length))=[3264384064]:=reach_hsl bB;refine gP_sc2 (P:=fcPost F ls 3264320448 1 k sn' blk) holds_all (face_s ok hF (fun id h=>allow_ok (by rw[h];exact sitesF1)) (allow_okI ?_) (allow_okI ?_) (by decide) (by decide) (by decide) ?_ ?_ hlt hlenS hcl hs bS bB) ?_
    ·simp only[List.map_cons,List.flatten_cons,hre1,hre2];simp
    ·simp only[List.map_cons,List.flatten_cons,hre1,hre2];simp
    ·exact sitesF2
    ·exact sitesF3
    ·rintro v blk1 ⟨f,cd,cp,cf,hf,rfl,bS1,gd,gp,gf,hkp⟩
     rw[hfw] at hf;rw[← hf] at hdn;have bB1:=(hkp 3264384064 (by decide)).trans bB;have go1:=go.of_eq (hkp 3264704448 (by decide));have hout:fcP (o.map (faceW F ls))++[f.ps]=fcP ((walksK (nxt ls) (nD ls) (k+1)).1.map (faceW F ls)):=by rw[hst,hf];simp
     have hS2:(walksK (nxt ls) (nD ls) (k+1)).2=(walkF (nxt ls) (nD ls+1) k sn').2:=by rw[hst]
     have holn:(fcP (o.map (faceW F ls))).length≤k:=by simpa using holen
     generalize fcP (o.map (faceW F ls))=outs at go1 hout holn;have gd0:=gd;rcases gd with ⟨e,_⟩|⟨_,gg,e,hbd⟩
     ·simp at e;exact absurd e hdn
     ·cases e
      simp only[go_sem];rw[List.length_map] at gd0;obtain⟨fr,hx,hfa,hfi⟩:=elems_face (blk:=upd blk1 3264704384 ((blk1 3264704384).1+1,some (.carr faTy 5 [[.p (.bool f.above), .hsl 5120512256 gg 1 0 f.darts.length,cp,cf, .p (.bool f.outer)]]))) (s:=3264704384) upd_eq (gd0.of_eq (upd_ne (by decide))) (gp.of_eq (upd_ne (by decide))) (gf.of_eq (upd_ne (by decide)));have nf: ∀ i,i≠5120512256→i≠5120896192→i≠5120896448→i∉fr:=fun i a b c h=>by
       rcases hfi i h with h|h|h
       ·exact a h
       ·exact b h
       ·exact c h
      refine gP_appF (site:=3264704448) (id:=3264704448) (bytes:=88) (go1.of_eq (upd_ne (by decide))) hx hfa (nf _ (by decide) (by decide) (by decide)) (nf _ (by decide) (by decide) (by decide)) (.inl rfl) (by simp only[List.length_cons,List.length_nil];omega) fun c blk2 hc hb2=> ?_
      have BS':=(hb2 3264320448 (by decide) (by decide) (nf _ (by decide) (by decide) (by decide))).trans ((upd_ne (by decide)).trans bS1);have BB':=(hb2 3264384064 (by decide) (by decide) (nf _ (by decide) (by decide) (by decide))).trans ((upd_ne (by decide)).trans bB1);simp only[go_sem,h4,h6,h7,h8,h29,h30,BS',BB',w1,hlt,hS2];refine⟨c,rfl,?_⟩;rw[← hout];exact hc
  ·have:k=2*ls.length:=by omega
   subst this;simp only[go_sem,i51_l1,i51_r2,h6,h29,h30,no_more];have:=walksK_end hm (nD ls) h2n (Nat.le_refl _);unfold facesL walksL;rw[this];exact grown_out1 go
structure Pc where
 l:Let
 d:Bool
def Pc.ps(p:Pc):List PV:=[.int .i64 p.l.kind, .int .i64 p.l.gate, .int .i64 p.l.rank, .int .i64 p.l.id, .int .i64 p.l.sign, .bool p.l.over, .bool p.d]
abbrev pcP(o:List Pc):List (List PV):=o.map Pc.ps
abbrev pcTy:Nat:=107
def noLet:Let:=⟨0,0,0,0,0,false⟩
def pieces(ls:List Let):List Pc:=(List.range ls.length).map fun i=>⟨ls.getD i noLet,dnP ls i⟩
theorem pieces_len(ls:List Let):(pieces ls).length=ls.length:=by simp[pieces]
theorem pieces_at{i:Nat}{l:Let}(h:ls[i]? =some l):(pieces ls)[i]? =some ⟨l,dnP ls i⟩:=by
 have:=(List.getElem?_eq_some_iff.1 h).1;simp only[pieces,List.getElem?_map,List.getElem?_range this,Option.map_some,List.getD_eq_getElem?_getD,h,Option.getD_some]
theorem pcP_at{o:List Pc}{k:Nat}{p:Pc}(h:o[k]? =some p):(pcP o)[k]? =some p.ps:=by simp[h]
def setAll(L:List Nat)(ds:List Nat)(v:Nat):List Nat:=ds.foldl (fun L d=>L.set d v) L
def leftR:List Fc→Nat→List Nat→List Nat
 |[],_,L=>L
 |f::r,j,L=>leftR r (j+1) (setAll L f.darts j)
def leftL(F:Nat)(ls:List Let):List Nat:=leftR (facesL F ls) 0 (List.replicate (2*ls.length) 0)
theorem setAll_len(L ds:List Nat)(v:Nat):(setAll L ds v).length=L.length:=by
 induction ds generalizing L with
 |nil=>rfl
 |cons d ds ih=>show(setAll (L.set d v) ds v).length=_;rw[ih];simp
theorem setAll_app(L a b:List Nat)(v:Nat):setAll L (a++b) v=setAll (setAll L a v) b v:=by simp[setAll]
theorem leftR_len(fs:List Fc): ∀ (j:Nat) (L:List Nat),(leftR fs j L).length=L.length:=by
 induction fs with
 |nil=>intro j L;rfl
 |cons f r ih=>intro j L;show(leftR r (j+1) _).length=_;rw[ih,setAll_len]
theorem leftR_app(a:List Fc)(f:Fc): ∀ (j:Nat) (L:List Nat),leftR (a++[f]) j L=setAll (leftR a j L) f.darts (j+a.length):=by
 induction a with
 |nil=>intro j L;rfl
 |cons g r ih=>intro j L;show leftR (r++[f]) (j+1) _=_;rw[ih];simp[leftR];congr 1;omega
theorem addAll_darts(F:Nat)(ls:List Let): ∀ (w:List Nat) (f:Fc),(w.foldl (Fc.add F ls) f).darts=f.darts++w.filter (fun x=>decide (x<2*ls.length)):=by
 intro w
 induction w with
 |nil=>intro f;simp
 |cons x w ih=>
  intro f;rw[List.foldl_cons,ih];unfold Fc.add;by_cases h:x<2*ls.length
  ·rw[if_pos h,List.filter_cons_of_pos (by simpa using h)];simp
  ·rw[if_neg h,List.filter_cons_of_neg (by simpa using h)]
theorem faceW_dl(F:Nat)(ls:List Let)(w:List Nat):(faceW F ls w).darts=w.filter (fun x=>decide (x<2*ls.length)):=by
 unfold faceW;rw[addAll_darts];rfl
theorem facesL_darts{f:Fc}(h:f∈facesL F ls): ∀ d∈f.darts,d<2*ls.length:=by
 obtain⟨w,_,rfl⟩:=List.mem_map.1 h;intro d hd;rw[faceW_dl] at hd
 simpa using (List.mem_filter.1 hd).2
theorem facesL_dlen(ok:dgOK F ls){f:Fc}(h:f∈facesL F ls):f.darts.length≤nD ls:=by
 obtain⟨w,hw,rfl⟩:=List.mem_map.1 h;rw[faceW_dl];exact Nat.le_trans (List.length_filter_le _ _) (walksL_facts ok w hw).2.1
theorem facesL_len(F:Nat)(ls:List Let):(facesL F ls).length=nWalks ls:=by simp[facesL,nWalks]
theorem fcP_at{o:List Fc}{k:Nat}{p:Fc}(h:o[k]? =some p):(fcP o)[k]? =some p.ps:=by simp[h]
abbrev brdV(F:Nat)(ls:List Let):PV:= .box [.int .i64 F, .sl (pcP (pieces ls)), .sl (fcP (facesL F ls)), .sl (nP (leftL F ls)), .int .i64 (cnt Let.isP ls:Nat), .int .i64 ((cnt Let.isC ls/2:Nat):Int), .sl (nP (counts ls F))]
abbrev brdC(F:Nat)(ls:List Let)(pc cf:C):List C:=[.p (.int .i64 F),pc,cf, .hsl 1984256448 1 1 0 (2*ls.length), .p (.int .i64 (cnt Let.isP ls:Nat)), .p (.int .i64 ((cnt Let.isC ls/2:Nat):Int)), .hsl 1984256960 1 1 0 (F+1)]
theorem openL(g:Fine F ls){pc cf:C}{env:Env}{blk:Blk}{Q:Post}(h4:env 4= .one cf)(h6:env 6= .one (.href 1984257088 1 0))
  (bB:blk 1984257088=(1,some (.var (brdC F ls pc cf)))) (bL:blk 1984256448=(1,some (.arr 3 1 (nP (List.replicate (2*ls.length) 0))))) (bC:blk 1984256960=(1,some (.arr 3 1 (nP (counts ls F))))) (gp:grown 1984896448 pcTy 7 (pcP (pieces ls)) (.one pc) blk) (gf:grown 1984064064 faTy 5 (fcP (facesL F ls)) (.one cf) blk)
  (hq: ∀ env' blk',env' 6=env 6→blk' 1984257088=(1,some (.var (brdC F ls pc cf)))→blk' 1984256448=(1,some (.arr 3 1 (nP (leftL F ls))))→blk' 1984256960=(1,some (.arr 3 1 (nP (counts ls F))))→grown 1984896448 pcTy 7 (pcP (pieces ls)) (.one pc) blk'→grown 1984064064 faTy 5 (fcP (facesL F ls)) (.one cf) blk'→W S .all i31_r5 Q env' blk'):
  W S .all i31_r6 Q env blk:=by
 have ok:=g.ok;have hl:=ok.hl;have hlen:=g.len;have hal:(axisR ls).length≤ls.length:=axisK_len ls ls.length;have hnd:nD ls≤4000000:=by unfold nD;omega
 have hfl:(facesL F ls).length≤nD ls:=by rw[facesL,List.length_map];exact walksK_olen (nxt ls) (nD ls) _
 obtain⟨g0,hcf0⟩: ∃ gg,cf= .hsl 1984064064 gg 5 0 (facesL F ls).length:=by
  rcases gf with ⟨e,_⟩|⟨_,gg,e,hb⟩
  ·have h1:(facesL F ls).length=0:=by simpa using congrArg List.length e
   rw[facesL_len,g.nw] at h1;omega
  ·cases e;exact⟨gg,by rw[List.length_map]⟩
 have h4':=h4;rw[hcf0] at h4';simp only[go_sem,i31_r6,h4'];refine R_for (fun k env' blk'=>env' 6=env 6∧env' 78= .one cf∧env' 79=vi (facesL F ls).length∧env' 80=vi k∧blk' 1984257088=(1,some (.var (brdC F ls pc cf)))∧blk' 1984256448=(1,some (.arr 3 1 (nP (leftR ((facesL F ls).take k) 0 (List.replicate (2*ls.length) 0)))))∧blk' 1984256960=(1,some (.arr 3 1 (nP (counts ls F))))∧
   grown 1984896448 pcTy 7 (pcP (pieces ls)) (.one pc) blk'∧grown 1984064064 faTy 5 (fcP (facesL F ls)) (.one cf) blk') 0 (facesL F ls).length (Nat.zero_le _) ?_ ?_
 ·simp only[go_sem,bB,bL,bC,leftR,hcf0];exact⟨rfl,gp,by first|exact gf|(rw[← hcf0];exact gf)⟩
 ·rintro k env' blk' hk ⟨q6,h78,h79,h80,bB,bL,bC,gp,gf⟩
  rw[h6] at q6;by_cases hlt:k<(facesL F ls).length
  ·have hlt':((k:Int)<((facesL F ls).length:Int)):=by omega
   obtain⟨f,hf⟩:=at_lt hlt;have hfp:=fcP_at hf;have hmem:=List.mem_of_getElem? hf;have hdl:=facesL_dlen ok hmem;have hdd:=facesL_darts hmem;have w1:=wrap_succ (n:=k) (by omega);have htk:leftR ((facesL F ls).take (k+1)) 0 (List.replicate (2*ls.length) 0)=setAll (leftR ((facesL F ls).take k) 0 (List.replicate (2*ls.length) 0)) f.darts k:=by
    rw[List.take_add_one,hf];show leftR (_++[f]) 0 _=_;rw[leftR_app,List.length_take,Nat.min_eq_left (by omega),Nat.zero_add]
   have hLl:(leftR ((facesL F ls).take k) 0 (List.replicate (2*ls.length) 0)).length=2*ls.length:=by rw[leftR_len,List.length_replicate]
   generalize leftR ((facesL F ls).take k) 0 (List.replicate (2*ls.length) 0)=L at bL htk hLl;obtain⟨gg,hcf,bf⟩: ∃ gg,cf= .hsl 1984064064 gg 5 0 (fcP (facesL F ls)).length∧blk' 1984064064=(gg,some (.arr faTy 5 (fcP (facesL F ls)))):=by
    rcases gf with ⟨e,_⟩|⟨_,gg,e,hb⟩
    ·have:(facesL F ls).length=0:=by simpa using congrArg List.length e
     omega
    ·cases e;exact⟨gg,rfl,hb⟩
   rw[List.length_map] at hcf;have h78':=h78;rw[hcf] at h78';simp only[go_sem,i31_l4,h78',h79,h80,bf,hfp,Fc.ps,hlt,hlt'];refine R_for (fun j env2 blk2=>env2 6= .one (.href 1984257088 1 0)∧env2 11=vi k∧env2 78= .one cf∧env2 79=vi (facesL F ls).length∧env2 80=vi k∧env2 86= .one (.p (.sl (nP f.darts)))∧env2 87=vi f.darts.length∧env2 88=vi j∧
    blk2 1984257088=(1,some (.var (brdC F ls pc cf)))∧blk2 1984256448=(1,some (.arr 3 1 (nP (setAll L (f.darts.take j) k))))∧blk2 1984256960=(1,some (.arr 3 1 (nP (counts ls F))))∧grown 1984896448 pcTy 7 (pcP (pieces ls)) (.one pc) blk2∧grown 1984064064 faTy 5 (fcP (facesL F ls)) (.one cf) blk2) 0 f.darts.length (Nat.zero_le _) ?_ ?_
   ·simp only[go_sem,q6,hcf,h78',h79,h80,bB,bL,bC,setAll,List.foldl_nil];refine⟨rfl,gp.of_eq (upd_ne (by decide)),?_⟩;first|exact gf.of_eq (upd_ne (by decide))|(rw[← hcf];exact gf.of_eq (upd_ne (by decide)))
   ·rintro j env2 blk2 hj ⟨p6,p11,p78,p79,p80,p86,p87,p88,cB,cL,cC,cp,cg⟩
    by_cases hlj:j<f.darts.length
    ·have hlj':((j:Int)<(f.darts.length:Int)):=by omega
     obtain⟨d,hd⟩:=at_lt hlj;have hdp:=nP_at hd;have hdb:=hdd d (List.mem_of_getElem? hd);have w2:=wrap_succ (n:=j) (by omega);have hset:(setAll L (f.darts.take j) k).set d k=setAll L (f.darts.take (j+1)) k:=by rw[List.take_add_one,hd,setAll_app];rfl
     have hs2:=nP_set (setAll L (f.darts.take j) k) d k;rw[hset] at hs2;obtain⟨v0,hv0⟩:=at_lt (ls:=setAll L (f.darts.take j) k) (k:=d) (by rw[setAll_len,hLl];exact hdb);have hv:=nP_at hv0;simp only[go_sem,i31_l2,p6,p11,p78,p79,p80,p86,p87,p88,cB,cL,cC,hlj,hlj',hdp,hdb,hv,hs2,w2];exact⟨cp.of_eq (upd_ne (by decide)),cg.of_eq (upd_ne (by decide))⟩
    ·have:j=f.darts.length:=by omega
     subst this;rw[List.take_length,← htk] at cL;simp only[go_sem,i31_l2,i31_r3,p6,p78,p79,p80,p87,p88,cB,cL,cC,no_more,w1,hlt,h6];exact⟨cp,cg⟩
  ·have:k=(facesL F ls).length:=by omega
   subst this;rw[List.take_length] at bL;simp only[go_sem,i31_l4,h79,h80,no_more];exact hq _ _ (by simp only[go_sem,q6,h6]) bB bL bC gp gf
theorem open_p(g:Fine F ls):PEv S 31 [codeV F ls] (rtup (brdV F ls) (.int .i64 0)):=by
 have ok:=g.ok;have hl:=ok.hl;have hlen:=g.len;have hfin:=g.fing;have pf:=faces_p g;have pps:=passes_p F ls hl;have pcs:=crossings_p F ls hl;have lo:S.lone 1984064064=false:=by kernel_rfl
 have m2:=wrap_mul2 (a:=ls.length) (by omega);have wF:=wrap_succ (n:=F) (by omega);have r1:2*ls.length*8≤140737488355328:=by omega
 have r2:(F+1)*8≤140737488355328:=by omega
 have e1:List.replicate (2*ls.length) [PV.int .i64 0]=nP (List.replicate (2*ls.length) 0):=by simp
 have e2:List.replicate (F+1) [PV.int .i64 0]=nP (countsK ls F 0):=by rw[countsK_zero];simp
 refine pev1 c31 ?_;simp only[go_sem,i31,s51];refine gP_g1p pf lo fun cf blk0 hcf hb0=> ?_
 have b00:=hb0 1984000000 (by decide);simp only[go_sem] at b00;simp only[go_sem,b00,m2,wF,r1,r2,s12,s13,dP_int pps,dP_int pcs,e1,e2];refine⟨okd,?_⟩;have hz: ∀ j,j≠1984064064→j≠1984000000→blk0 j=(0,none):=fun j a b=>(hb0 j a).trans (upd_ne b)
 have z1:=hz 1984256448 (by decide) (by decide);have z2:=hz 1984256960 (by decide) (by decide);have z3:=hz 1984257088 (by decide) (by decide);refine R_for (fun k env blk=>env 4= .one cf∧env 6= .one (.href 1984257088 1 0)∧env 7=vb (dn ls k)∧env 42= .one (.p (lsP ls))∧env 43=vi ls.length∧env 44=vi k∧
   blk 1984256448=(1,some (.arr 3 1 (nP (List.replicate (2*ls.length) 0))))∧blk 1984256960=(1,some (.arr 3 1 (nP (countsK ls F k))))∧
   ∃ pc,blk 1984257088=(1,some (.var (brdC F ls pc cf)))∧grown 1984896448 pcTy 7 (pcP ((pieces ls).take k)) (.one pc) blk∧grown 1984064064 faTy 5 (fcP (facesL F ls)) (.one cf) blk) 0 ls.length (Nat.zero_le _) ?_ ?_
 ·simp only[go_sem,z1,z2,z3];refine⟨rfl,rfl, .p .nils,rfl, .inl ⟨rfl,rfl⟩,hcf.of_eq ?_⟩;simp only[go_sem]
 ·rintro k env blk hk ⟨h4,h6,h7,h42,h43,h44,bL,bC,pc,bB,gp,gf⟩
  by_cases hlt:k<ls.length
  ·obtain⟨l,hk1⟩:=at_lt hlt;have hi:=ps_of hk1;have hlt':((k:Int)<(ls.length:Int)):=by omega
   have w1:=wrap_succ (n:=k) (by omega);have hpa:=pieces_at hk1;cases hp:(l.kind==1) with
   |false=>
    have hp':l.isP=false:=hp;have hdp:dnP ls k=false:=by simp[dnP,hk1,hp']
    rw[hdp] at hpa;have hd:=dn_miss hk1 hp';have hcm:=countsK_miss (F:=F) hk1 hp';have htk:pcP ((pieces ls).take (k+1))=pcP ((pieces ls).take k)++[(Pc.mk l false).ps]:=by rw[List.take_add_one,hpa];simp
    simp only[go_sem,i31_l1,h6,h42,h43,h44,hi,Let.ps,hlt',hp,bB];refine dP_app (site:=1984896448) (id:=1984896448) (bytes:=56) (xs:=[(Pc.mk l false).ps]) (rd:=[1984896384]) (gp.of_eq (by simp only[upd_apply,Nat.reduceEqDiff,if_false])) (by simp[elemsOf,upd_apply,Pc.ps]) (.inl rfl) (by simp only[List.length_map,List.length_cons,List.length_nil,List.length_take,pieces_len];omega) fun c blk1 r u hc hb hr=> ?_
    have hfr: ∀ i,i≠1984896448→i≠1984896384→i≠1984576128→i≠1984512128→i≠1984256960→blk1 i=blk i:=fun i a b c d e=>(hb i a a).trans (by simp only[upd_apply,if_neg b,if_neg c,if_neg d])
    have hcn:=(hb 1984256960 (by decide) (by decide));simp only[upd_apply,Nat.reduceEqDiff,if_false,bC] at hcn;have bB1:=(hfr 1984257088 (by decide) (by decide) (by decide) (by decide) (by decide)).trans bB;have bL1:=(hfr 1984256448 (by decide) (by decide) (by decide) (by decide) (by decide)).trans bL;simp only[go_sem,h4,h6,h7,h42,h43,h44,bB1,bL1,hcn,w1,hd,hcm,hlt];refine⟨?_,?_⟩
    ·rcases hr with ⟨rfl,rfl⟩|⟨rfl,rfl⟩|⟨rfl,rfl⟩<;>kernel_rfl
    ·refine⟨c,rfl,?_,?_⟩
     ·rw[htk];exact hc.of_eq (upd_ne (by decide))
     ·exact gf.of_eq ((upd_ne (by decide)).trans (hfr _ (by decide) (by decide) (by decide) (by decide) (by decide)))
   |true=>
    have hp':l.isP=true:=hp;have hdp:dnP ls k=dn ls k:=by simp[dnP,hk1,hp']
    rw[hdp] at hpa;have hd:=dn_hit hk1 hp';have htk:pcP ((pieces ls).take (k+1))=pcP ((pieces ls).take k)++[(Pc.mk l (dn ls k)).ps]:=by rw[List.take_add_one,hpa];simp
    have hgd:=ok.ax.good l (List.mem_of_getElem? hk1) hp';obtain⟨G,hG⟩:=Int.eq_ofNat_of_zero_le hgd.g0;have hGF:G≤F:=by have:=hgd.g1;omega
    have hGF':G<F+1:=by omega
    have hca:=nP_at (countsK_at (ls:=ls) (k:=k) hGF);have hcl:cg (ls.take k) G≤k:=cnt_take_le _ _ _;have w2:=wrap_succ (n:=cg (ls.take k) G) (by omega);have s1:=nP_set (countsK ls F k) G (cg (ls.take k) G+1);rw[← countsK_hit hk1 hp' hG] at s1;simp only[go_sem,i31_l1,h6,h7,h42,h43,h44,hi,Let.ps,hlt',hp,hG,bB,bC,hca,hGF',w2,s1];refine⟨okd,?_⟩
    refine dP_app (site:=1984896448) (id:=1984896448) (bytes:=56) (xs:=[(Pc.mk l (dn ls k)).ps]) (rd:=[1984896384]) (gp.of_eq (by simp only[upd_apply,Nat.reduceEqDiff,if_false])) (by simp[elemsOf,upd_apply,Pc.ps,hG]) (.inl rfl) (by simp only[List.length_map,List.length_cons,List.length_nil,List.length_take,pieces_len];omega) fun c blk1 r u hc hb hr=> ?_
    have hfr: ∀ i,i≠1984896448→i≠1984896384→i≠1984576128→i≠1984512128→i≠1984256960→blk1 i=blk i:=fun i a b c d e=>(hb i a a).trans (by simp only[upd_apply,if_neg b,if_neg c,if_neg d,if_neg e])
    have hcn:=(hb 1984256960 (by decide) (by decide));simp only[upd_apply,Nat.reduceEqDiff,if_false,if_true,bC] at hcn;have bB1:=(hfr 1984257088 (by decide) (by decide) (by decide) (by decide) (by decide)).trans bB;have bL1:=(hfr 1984256448 (by decide) (by decide) (by decide) (by decide) (by decide)).trans bL;simp only[go_sem,h4,h6,h7,h42,h43,h44,bB1,bL1,hcn,w1,hd,hlt];refine⟨?_,?_⟩
    ·rcases hr with ⟨rfl,rfl⟩|⟨rfl,rfl⟩|⟨rfl,rfl⟩<;>kernel_rfl
    ·refine⟨c,rfl,?_,?_⟩
     ·rw[htk];exact hc.of_eq (upd_ne (by decide))
     ·exact gf.of_eq ((upd_ne (by decide)).trans (hfr _ (by decide) (by decide) (by decide) (by decide) (by decide)))
  ·have:k=ls.length:=by omega
   subst this;rw[List.take_of_length_le (by rw[pieces_len];exact Nat.le_refl _)] at gp;rw[countsK_all] at bC;simp only[go_sem,i31_l1,h43,h44,no_more];refine openL g (pc:=pc) (cf:=cf) ?_ ?_ bB bL bC gp gf ?_
   ·simp only[go_sem,h4]
   ·simp only[go_sem,h6]
   ·intro env' blk' q6 cB cL cC gp' gf';simp only[go_sem,h6] at q6;obtain⟨rp,np,_⟩:=gp'.snapC (n:=4);obtain⟨rf,nf,_⟩:=gf'.snapC (n:=4);have t1:List.take (2*ls.length) (nP (leftL F ls))=nP (leftL F ls):=List.take_of_length_le (by simp[leftL,leftR_len]);have t2:List.take (F+1) (nP (counts ls F))=nP (counts ls F):=List.take_of_length_le (by simp[counts]);have n1:2*ls.length≤(leftL F ls).length:=by simp[leftL,leftR_len]
    have n2:F+1≤(counts ls F).length:=by simp[counts]
    simp only[go_sem,i31_r5,q6];simp only[go_sem,outV,flatV,flatVs,flatV1,outCs,outC,cB,cL,cC,np,nf,t1,t2,n1,n2];rfl
end
end Go.Abs
