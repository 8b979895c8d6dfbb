/-
  A part of a proof.
-/
import Derived.Test.YtjjdebhkbfeniaaGreatDoorWk
set_option linter.unusedSimpArgs false
set_option linter.unusedVariables false
set_option linter.unusedSectionVars false
set_option maxRecDepth 100000
set_option maxHeartbeats 16000000
namespace Go.Abs
section
variable{F:Nat}{ls:List Let}
theorem len1{e:List PV}(h:e.length=1): ∃ x0,e=[x0]:=by
 match e,h with
 |[a],_=>exact⟨a,rfl⟩
theorem len2{e:List PV}(h:e.length=2): ∃ x0 x1,e=[x0,x1]:=by
 match e,h with
 |[a,b],_=>exact⟨a,b,rfl⟩
structure rvI (es fs:List (List PV)) (k:Nat):Prop where
 len:fs.length=es.length
 at': ∀ i,i<es.length→fs[i]? =if i<k∨es.length - 1 - i<k then es[es.length - 1 - i]? else es[i]?
theorem rvI.start(es:List (List PV)):rvI es es 0:=⟨rfl,fun i _=>by rw[if_neg (by omega)]⟩
theorem rvI.step{es fs:List (List PV)}{k:Nat}{a b:List PV}(h:rvI es fs k)(hk:k<es.length - 1 - k)(ha:es[k]? =some a)(hb:es[es.length - 1 - k]? =some b):
  fs[k]? =some a∧fs[es.length - 1 - k]? =some b∧rvI es ((fs.set k b).set (es.length - 1 - k) a) (k+1):=by
 have hlen:=h.len;refine⟨?_,?_,⟨by rw[List.length_set,List.length_set];exact hlen,fun i hi=> ?_⟩⟩
 ·rw[h.at' k (by omega),if_neg (by omega),ha]
 ·rw[h.at' _ (by omega),if_neg (by omega),hb]
 ·rw[List.getElem?_set,List.length_set];by_cases e1:es.length - 1 - k=i
  ·rw[if_pos e1,if_pos (by omega),if_pos (by omega),show es.length - 1 - i=k by omega,ha]
  ·rw[if_neg e1,List.getElem?_set];by_cases e2:k=i
   ·subst e2;rw[if_pos rfl,if_pos (by omega),if_pos (by omega),hb]
   ·rw[if_neg e2,h.at' i hi];by_cases e3:i<k∨es.length - 1 - i<k
    ·rw[if_pos e3,if_pos (by omega)]
    ·rw[if_neg e3,if_neg (by omega)]
theorem rvI.done{es fs:List (List PV)}{k:Nat}(h:rvI es fs k)(hk: ¬ k<es.length - 1 - k):fs=es.reverse:=by
 refine List.ext_getElem? fun i=> ?_
 rcases Nat.lt_or_ge i es.length with hi|hi
 ·rw[h.at' i hi,List.getElem?_reverse hi];by_cases e:i<k∨es.length - 1 - i<k
  ·rw[if_pos e]
  ·rw[if_neg e,show es.length - 1 - i=i by omega]
 ·rw[List.getElem?_eq_none (by rw[h.len];exact hi),List.getElem?_eq_none (by rw[List.length_reverse];exact hi)]
def rvPost(id ty z:Nat)(es:List (List PV))(c:C)(blk:Blk)(v:V)(blk':Blk):Prop:=v= .tup []∧grown id ty z es.reverse (.one c) blk'∧Kept (· =id) blk blk'
theorem rev_ints{al:Al}{blk:Blk}{id ty:Nat}{es:List (List PV)}{c:C}(o:es=[]∨al.ok id=true)(hl:es.length≤1000000)(hes: ∀ e∈es,e.length=1∧ ∀ v∈e,v.norm=v)(h:grown id ty 1 es (.one c) blk):
  ∃ v blk',SEv S 116 [.one c] al blk v blk'∧rvPost id ty 1 es c blk v blk':=by
 refine SEv_fn c116 (Nat.le_of_ble_eq_true rfl) ?_;rcases h with ⟨rfl,h2⟩|⟨hne,g,h2,hC⟩
 ·cases h2
  have w0:IntKind.i64.wrap (((0:Nat):Int) - 1)= -1:=by decide
  have hz: ¬ ((0:Int)< -1):=by decide
  simp only[go_sem,i116,w0,planAppend,szOK];refine R_for (fun k env blk'=>k=0∧env 2=vi 0∧env 3=vi (-1)∧blk'=blk) 0 0 (Nat.le_refl _) ?_ ?_
  ·simp only[go_sem]
  ·rintro k env blk' _ ⟨rfl,h2,h3,rfl⟩
   simp only[go_sem,i116_l1,h2,h3,hz,planAppend,szOK];exact⟨rfl, .inl ⟨rfl,rfl⟩,fun _ _=>rfl⟩
 ·cases h2
  have o:=o.resolve_left hne;have w0:=wrap_m1 (a:=es.length) (by omega);simp only[go_sem,i116,w0,planAppend,szOK];refine R_for (fun k env blk'=>env 0= .one (.hsl id g 1 0 es.length)∧env 2=vi k∧env 3=vi ((es.length:Int) - 1 - (k:Int))∧ ∃ fs,blk' id=(g,some (.arr ty 1 fs))∧rvI es fs k∧Kept (· =id) blk blk') 0 es.length (Nat.zero_le _) ?_ ?_
  ·simp only[go_sem];refine⟨rfl,by simp,es,hC,rvI.start es,Kept.refl _ _⟩
  ·rintro k env blk' hk ⟨h0,h2,h3,fs,hF,hI,hkp⟩
   by_cases hlt:k<es.length - 1 - k
   ·have e1:((es.length:Int) - 1 - (k:Int))=((es.length - 1 - k:Nat):Int):=by omega
    rw[e1] at h3;have hlt':((k:Int)<((es.length - 1 - k:Nat):Int)):=by omega
    have w1:=wrap_succ (n:=k) (by omega);have w2:IntKind.i64.wrap (((es.length - 1 - k:Nat):Int) - 1)=((es.length:Int) - 1 - ((k+1:Nat):Int)):=by
     rw[wrap_m1 (by omega)];omega
    obtain⟨a,ha⟩:=at_lt (show k<es.length by omega);obtain⟨b,hb⟩:=at_lt (show es.length - 1 - k<es.length by omega);obtain⟨fa,fb,hI2⟩:=hI.step hlt ha hb;obtain⟨la,na⟩:=hes a (List.mem_of_getElem? ha);obtain⟨lb,nb⟩:=hes b (List.mem_of_getElem? hb);obtain⟨x0,rfl⟩:=len1 la;obtain⟨y0,rfl⟩:=len1 lb;have hnx0:=na x0 (by simp);have hny0:=nb y0 (by simp);have hfl:=hI.len;have hkj: ¬ (k=es.length - 1 - k):=by omega
    have hkj': ¬ (es.length - 1 - k=k):=by omega
    have l1:k<fs.length:=by omega
    have l2:es.length - 1 - k<fs.length:=by omega
    have l3:k<es.length:=by omega
    have l4:es.length - 1 - k<es.length:=by omega
    simp only[go_sem,i116_l1,h0,h2,h3,hF,hlt',fa,fb,w1,w2,o,l1,l2,l3,l4,hkj,hkj',hnx0,hny0,List.getElem?_set,List.length_set,planAppend,szOK];refine⟨okd,_,rfl,hI2,?_⟩;exact(hkp.upd rfl _).upd rfl _
   ·have hlt': ¬ ((k:Int)<(es.length:Int) - 1 - (k:Int)):=by omega
    simp only[go_sem,i116_l1,h0,h2,h3,hlt',planAppend,szOK];refine⟨rfl,?_,hkp⟩;rw[hI.done hlt] at hF;exact .inr ⟨by simpa using hne,g,by rw[List.length_reverse],hF⟩
theorem rev_places{al:Al}{blk:Blk}{id ty:Nat}{es:List (List PV)}{c:C}(o:es=[]∨al.ok id=true)(hl:es.length≤1000000)(hes: ∀ e∈es,e.length=2∧ ∀ v∈e,v.norm=v)(h:grown id ty 2 es (.one c) blk):
  ∃ v blk',SEv S 115 [.one c] al blk v blk'∧rvPost id ty 2 es c blk v blk':=by
 refine SEv_fn c115 (Nat.le_of_ble_eq_true rfl) ?_;rcases h with ⟨rfl,h2⟩|⟨hne,g,h2,hC⟩
 ·cases h2
  have w0:IntKind.i64.wrap (((0:Nat):Int) - 1)= -1:=by decide
  have hz: ¬ ((0:Int)< -1):=by decide
  simp only[go_sem,i115,w0,planAppend,szOK];refine R_for (fun k env blk'=>k=0∧env 2=vi 0∧env 3=vi (-1)∧blk'=blk) 0 0 (Nat.le_refl _) ?_ ?_
  ·simp only[go_sem]
  ·rintro k env blk' _ ⟨rfl,h2,h3,rfl⟩
   simp only[go_sem,i115_l1,h2,h3,hz,planAppend,szOK];exact⟨rfl, .inl ⟨rfl,rfl⟩,fun _ _=>rfl⟩
 ·cases h2
  have o:=o.resolve_left hne;have w0:=wrap_m1 (a:=es.length) (by omega);simp only[go_sem,i115,w0,planAppend,szOK];refine R_for (fun k env blk'=>env 0= .one (.hsl id g 2 0 es.length)∧env 2=vi k∧env 3=vi ((es.length:Int) - 1 - (k:Int))∧ ∃ fs,blk' id=(g,some (.arr ty 2 fs))∧rvI es fs k∧Kept (· =id) blk blk') 0 es.length (Nat.zero_le _) ?_ ?_
  ·simp only[go_sem];refine⟨rfl,by simp,es,hC,rvI.start es,Kept.refl _ _⟩
  ·rintro k env blk' hk ⟨h0,h2,h3,fs,hF,hI,hkp⟩
   by_cases hlt:k<es.length - 1 - k
   ·have e1:((es.length:Int) - 1 - (k:Int))=((es.length - 1 - k:Nat):Int):=by omega
    rw[e1] at h3;have hlt':((k:Int)<((es.length - 1 - k:Nat):Int)):=by omega
    have w1:=wrap_succ (n:=k) (by omega);have w2:IntKind.i64.wrap (((es.length - 1 - k:Nat):Int) - 1)=((es.length:Int) - 1 - ((k+1:Nat):Int)):=by
     rw[wrap_m1 (by omega)];omega
    obtain⟨a,ha⟩:=at_lt (show k<es.length by omega);obtain⟨b,hb⟩:=at_lt (show es.length - 1 - k<es.length by omega);obtain⟨fa,fb,hI2⟩:=hI.step hlt ha hb;obtain⟨la,na⟩:=hes a (List.mem_of_getElem? ha);obtain⟨lb,nb⟩:=hes b (List.mem_of_getElem? hb);obtain⟨x0,x1,rfl⟩:=len2 la;obtain⟨y0,y1,rfl⟩:=len2 lb;have hnx0:=na x0 (by simp);have hnx1:=na x1 (by simp);have hny0:=nb y0 (by simp);have hny1:=nb y1 (by simp);have hfl:=hI.len;have hkj: ¬ (k=es.length - 1 - k):=by omega
    have hkj': ¬ (es.length - 1 - k=k):=by omega
    have l1:k<fs.length:=by omega
    have l2:es.length - 1 - k<fs.length:=by omega
    have l3:k<es.length:=by omega
    have l4:es.length - 1 - k<es.length:=by omega
    simp only[go_sem,i115_l1,h0,h2,h3,hF,hlt',fa,fb,w1,w2,o,l1,l2,l3,l4,hkj,hkj',hnx0,hnx1,hny0,hny1,List.getElem?_set,List.length_set,planAppend,szOK];refine⟨okd,_,rfl,hI2,?_⟩;exact(hkp.upd rfl _).upd rfl _
   ·have hlt': ¬ ((k:Int)<(es.length:Int) - 1 - (k:Int)):=by omega
    simp only[go_sem,i115_l1,h0,h2,h3,hlt',planAppend,szOK];refine⟨rfl,?_,hkp⟩;rw[hI.done hlt] at hF;exact .inr ⟨by simpa using hne,g,by rw[List.length_reverse],hF⟩
theorem reach_grown{site ty z:Nat}{es:List (List PV)}{c:C}{blk:Blk}(h:grown site ty z es (.one c) blk):(es=[]∧reachV blk (.one c)=[])∨reachV blk (.one c)=[site]:=by
 rcases h with ⟨h1,h2⟩|⟨h1,g,h2,h3⟩
 ·cases h2;exact .inl ⟨h1,reach_p⟩
 ·cases h2;exact .inr (show reachC blk 6 (.hsl site g z 0 es.length)=[site] from reach_arr (n:=5) h3)
section
variable {al:Al} {Q:Post} {env:Env} {blk:Blk} {os:List IOper} {d:Option Nat}
theorem gP_rev{f id ty z:Nat}{es:List (List PV)}{c:C}(hrev: ∀ {al:Al} {blk:Blk},es=[]∨al.ok id=true→grown id ty z es (.one c) blk→ ∃ v blk',SEv S f [.one c] al blk v blk'∧rvPost id ty z es c blk v blk')(hs:S.sites f=[f])(hg:grown id ty z es (.one c) blk)(oid:al.ok id=true)(hf:al.fs.contains f=true)
  (hK: ∀ blk',grown id ty z es.reverse (.one c) blk'→(∀ i,i≠id→blk' i=blk i)→RN S al os Q (put env d (.tup [])) blk'):gP S al (.sc f [.one c]) d os Q env blk:=by
 refine gP_sc2 (P:=rvPost id ty z es c blk) (holds_of ?_ ?_) (hrev ?_ hg) ?_
 ·show al.oks ([V.one c].map (reachV blk)).flatten=true;rcases reach_grown hg with ⟨_,h⟩|h
  ·simp[h,Al.oks]
  ·simp[h,Al.oks,oid]
 ·show(S.sites f).all al.fs.contains=true;rw[hs];simp only[List.all_cons,List.all_nil,hf,Bool.and_self]
 ·rcases reach_grown hg with ⟨h,_⟩|h
  ·exact .inl h
  ·exact .inr (allow_okI (by simp[h]))
 ·rintro v blk' ⟨rfl,h1,h2⟩
  exact hK blk' h1 h2
end
theorem sitesRP:S.sites 115=[115]:=by kernel_rfl
theorem sitesRI:S.sites 116=[116]:=by kernel_rfl
theorem turn_lt2(ok:dgOK F ls){x:Nat}(h:x<nD ls):nxt ls x<nD ls:=turnD_lt ok.hax ok.hp h
abbrev isFc(id:Nat):Prop:=siteFn id=80
structure FE (ls:List Let) (idS gS idB gB g8 gF:Nat) (sp:List Bool) (f:Fc) (cd cp cf:C) (blk:Blk):Prop where
 bS:blk idS=(gS,some (.arr 4 1 (bP sp)))
 bB:blk idB=(gB,some (.arr 4 1 (bP (belL ls))))
 b8:blk 5120000000=(g8,some (.var [.p (.bool false), .p .nils, .p .nils, .p .nils, .p (.bool false)]))
 bF:blk 5120128448=(gF,some (.var [.p (.bool f.above),cd,cp,cf, .p (.bool f.outer)]))
 gd:grown 5120512256 3 1 (nP f.darts) (.one cd) blk
 gp:grown 5120896192 plTy 2 (plP f.places) (.one cp) blk
 gf:grown 5120896448 3 1 (nP f.fingers) (.one cf) blk
theorem add_len(ok:dgOK F ls){f:Fc}{x k:Nat}(hx:x<nD ls)(h:f.darts.length≤k∧f.places.length≤k*(2*F+2)∧f.fingers.length≤k*(2*F+2)):(f.add F ls x).darts.length≤k+1∧(f.add F ls x).places.length≤(k+1)*(2*F+2)∧(f.add F ls x).fingers.length≤(k+1)*(2*F+2):=by
 obtain⟨i1,i2,i3⟩:=h;rw[Nat.succ_mul];unfold Fc.add;by_cases h:x<2*ls.length
 ·rw[if_pos h];simp only[List.length_append,List.length_cons,List.length_nil];exact⟨by omega,by omega,by omega⟩
 ·rw[if_neg h];have hj:(x - 2*ls.length)/2<(axisR ls).length:=by unfold nD at hx;omega
  have l1:=pieceP_len ok hj;have l2:=pieceF_len ok hj;refine⟨by simp only;omega,?_,?_⟩
  ·simp only[List.length_append];split<;>(try rw[List.length_reverse])<;>omega
  ·simp only[List.length_append];split<;>(try rw[List.length_reverse])<;>omega
theorem faceIn{al:Al}(ok:dgOK F ls)(hF:F≤1000)(okf: ∀ id,isFc id→al.ok id=true){idS gS idB gB g8 gF d:Nat}(oS:al.ok idS=true)(nS: ¬ isFc idS)(nB: ¬ isFc idB)(nSB:idS≠idB)(f1:al.fs.contains 115=true)(f2:al.fs.contains 116=true)(hd:d<2*ls.length){Q:Post}:
  ∀ (fuel k x:Nat) (sn':List Bool) (f:Fc) (env:Env) (blk:Blk) (cd cp cf:C),env 0= .one (.p (dgV F ls))→env 2= .one (.hsl idS gS 1 0 (2*ls.length))→env 8= .one (.href 5120000000 g8 0)→env 9=vi ls.length→env 10=vi (axisR ls).length→env 11= .one (.href 5120128448 gF 0)→env 12=vi x→
   FE ls idS gS idB gB g8 gF (sn'.take (2*ls.length)) f cd cp cf blk→sn'.length=nD ls→x<nD ls→Inv (nxt ls) (nD ls) d sn' x→unseen sn'<fuel→(k+fuel≤5000000)→(f.darts.length≤k∧f.places.length≤k*(2*F+2)∧f.fingers.length≤k*(2*F+2))→
   (∀ env' blk' cd' cp' cf',env' 8=env 8→env' 11=env 11→FE ls idS gS idB gB g8 gF ((walkF (nxt ls) fuel x sn').2.take (2*ls.length)) ((walkF (nxt ls) fuel x sn').1.foldl (Fc.add F ls) f) cd' cp' cf' blk'→(∀ id,¬ (isFc id∨id=idS)→blk' id=blk id)→Q .normal env' blk')→
   W S al (.loop i80_l1) (blockQ 0 Q) env blk:=by
 have hl:=ok.hl;have hal:(axisR ls).length≤1000000:=Nat.le_trans (axisK_len ls ls.length) hl;have hnd:nD ls≤4000000:=by unfold nD;omega
 have m2:=wrap_mul2 (a:=ls.length) (by omega);have k0:al.ok 5120000000=true:=okf _ rfl;have kF:al.ok 5120128448=true:=okf _ rfl;have kd0:al.ok 5120512192=true:=okf _ rfl;have kd:al.ok 5120512256=true:=okf _ rfl;have kp:al.ok 5120896192=true:=okf _ rfl;have kf:al.ok 5120896448=true:=okf _ rfl;have kr1:al.ok 5120640128=true:=okf _ rfl;have kr2:al.ok 5120640129=true:=okf _ rfl;have hm:=maps ok;intro fuel
 induction fuel with
 |zero=>intro k x sn' f env blk cd cp cf _ _ _ _ _ _ _ _ _ _ _ h;omega
 |succ fuel ih=>
  intro k x sn' f env blk cd cp cf h0 h2 h8 h9 h10 h11 h12 hB hSl hxn hi hu hk hlen hq;have hle:=hm.le;obtain⟨l1,l2,l3⟩:=hlen;have hbig:k*(2*F+2)≤5000000*2002:=Nat.mul_le_mul (by omega) (by omega);have hlen2:=add_len ok hxn ⟨l1,l2,l3⟩;unfold walkF at hq;have nSi: ∀ {a:Nat},isFc a→a≠idS:=fun h e=>nS (e▸h)
  have nBi: ∀ {a:Nat},isFc a→a≠idB:=fun h e=>nB (e▸h)
  have nF: ¬ (5120128448=idS):=nSi rfl;refine R_unroll ?_;cases hs:sn'.getD x true with
  |true=>
   have hxd:=hi.i4 hs;have hlt:x<2*ls.length:=by omega
   have hlt':((x:Int)<((2*ls.length:Nat):Int)):=by omega
   rw[hs] at hq;simp only[if_true] at hq;have hb:(sn'.take (2*ls.length))[x]? =some true:=by
    have h1:=sn_take hlt (show 2*ls.length≤sn'.length by omega);rw[show sn sn' x=true from hs,List.getD_eq_getElem?_getD] at h1;have hx2:x<(sn'.take (2*ls.length)).length:=by rw[List.length_take];omega
    obtain⟨b,hb⟩:=at_lt hx2;rw[hb] at h1 ⊢;exact congrArg some h1
   have hbp:=bP_at hb;simp only[go_sem,i80_l1,h0,h2,h9,h12,m2,hlt',hlt,hB.bS,hbp,oS];exact hq _ _ cd cp cf (by simp only[go_sem]) (by simp only[go_sem]) hB (fun _ _=>rfl)
  |false=>
   have hsx:sn'[x]? =some false:=by
    rw[List.getD_eq_getElem?_getD] at hs;cases h1:sn'[x]? with
    |none=>rw[h1] at hs;cases hs
    |some b=>rw[h1] at hs;exact congrArg some hs
   have hun:=unseen_set hsx;have pt:=dleft_p ok x (by unfold nD at hxn;exact hxn);have hst:=hi.step hm hSl hxn hs;rw[hs] at hq;simp only[Bool.false_eq_true,if_false,List.foldl_cons] at hq;by_cases hd2:x<2*ls.length
   ·have hlt':((x:Int)<((2*ls.length:Nat):Int)):=by omega
    have hb:(sn'.take (2*ls.length))[x]? =some false:=by rw[List.getElem?_take,if_pos hd2];exact hsx
    have hbp:=bP_at hb;have hset:=bP_set (sn'.take (2*ls.length)) x true;rw[take_set_lt] at hset;have hadd:f.add F ls x={f with darts:=f.darts++[x]}:=by unfold Fc.add;rw[if_pos hd2]
    simp only[go_sem,i80_l1,h2,h9,h11,h12,m2,hlt',hd2,hB.bS,hB.bF,hbp,hset,oS,kF,kd0,nF];refine gP_appA (site:=5120512256) (id:=5120512256) (bytes:=8) (xs:=[[.int .i64 (x:Int)]]) (rd:=[5120512192]) (by simp[kd,kd0]) (hB.gd.of_eq ((upd_ne (by decide)).trans (upd_ne (nSi rfl)))) (by simp[elemsOf,upd_apply]) (.inl rfl) (by simp only[List.length_map,List.length_cons,List.length_nil];omega) fun c blk2 hc hb2=> ?_
    have hfr0: ∀ i,i≠5120512192→i≠5120512256→i≠idS→blk2 i=blk i:=fun i a b c=>(hb2 i b b).trans ((upd_ne a).trans (upd_ne c))
    have hfrS:=(hb2 idS (nSi rfl).symm (nSi rfl).symm).trans ((upd_ne (nSi rfl).symm).trans upd_eq);have bF2:=(hfr0 5120128448 (by decide) (by decide) (nSi rfl)).trans hB.bF;simp only[go_sem,bF2,h0,h11,h12,kF,s113,gP_int_al pt];refine ih (k+1) (nxt ls x) (sn'.set x true) (f.add F ls x) _ _ c cp cf ?_ ?_ ?_ ?_ ?_ ?_ ?_ ?_ (by rw[List.length_set];exact hSl) (turn_lt2 ok hxn) hst (by omega) (by omega) hlen2 ?_
    ·simp only[go_sem,h0]
    ·simp only[go_sem,h2]
    ·simp only[go_sem,h8]
    ·simp only[go_sem,h9]
    ·simp only[go_sem,h10]
    ·simp only[go_sem,h11]
    ·simp only[go_sem]
    ·rw[hadd];refine⟨?_,?_,?_,upd_eq,?_,?_,?_⟩
     ·exact(upd_ne (nSi rfl).symm).trans hfrS
     ·exact(upd_ne (nBi rfl).symm).trans ((hfr0 _ (nBi rfl).symm (nBi rfl).symm nSB.symm).trans hB.bB)
     ·exact(upd_ne (by decide)).trans ((hfr0 _ (by decide) (by decide) (nSi rfl)).trans hB.b8)
     ·exact(nP_app _ _▸hc.of_eq (upd_ne (by decide)))
     ·exact(hB.gp.of_eq (hfr0 _ (by decide) (by decide) (nSi rfl))).of_eq (upd_ne (by decide))
     ·exact(hB.gf.of_eq (hfr0 _ (by decide) (by decide) (nSi rfl))).of_eq (upd_ne (by decide))
    ·intro env' blk' cd' cp' cf' q8 q11 hFE hkp;refine hq env' blk' cd' cp' cf' (by rw[q8];simp only[go_sem]) (by rw[q11];simp only[go_sem]) hFE fun id hn=> ?_
     have a: ∀ y,isFc y→id≠y:=fun y hy e=>hn (.inl (e▸hy))
     exact(hkp id hn).trans ((upd_ne (a _ rfl)).trans (hfr0 id (a _ rfl) (a _ rfl) fun e=>hn (.inr e)))
   ·have hj:(x - 2*ls.length)/2<(axisR ls).length:=by unfold nD at hxn;omega
    have hpr:=rim_p ok hF hj;have lP:=pieceP_len ok hj;have lF:=pieceF_len ok hj;have hd': ¬ ((x:Int)<((2*ls.length:Nat):Int)):=by omega
    have ws:=wrap_sub (a:=x) (b:=2*ls.length) (by omega) (by omega);have wq:=wrap_small (n:=(x - 2*ls.length)/2) (by omega);have w2:=wrap_pred (a:=(axisR ls).length) (by omega) (by omega);have hend:((((x - 2*ls.length)/2:Nat):Int)==(((axisR ls).length - 1:Nat):Int))=decide ((x - 2*ls.length)/2+1=(axisR ls).length):=by
     by_cases h:(x - 2*ls.length)/2+1=(axisR ls).length
     ·rw[decide_eq_true h];simp;omega
     ·rw[decide_eq_false h];simp;omega
    have hout:(f.add F ls x).outer=(f.outer||decide ((x - 2*ls.length)/2+1=(axisR ls).length)):=by unfold Fc.add;rw[if_neg hd2]
    have habove:(f.add F ls x).above=f.above:=by unfold Fc.add;rw[if_neg hd2]
    have hdarts:(f.add F ls x).darts=f.darts:=by unfold Fc.add;rw[if_neg hd2]
    have hplaces:(f.add F ls x).places=f.places++(if x%2=0 then pieceP F ls ((x - 2*ls.length)/2) else (pieceP F ls ((x - 2*ls.length)/2)).reverse):=by unfold Fc.add;rw[if_neg hd2]
    have hfing:(f.add F ls x).fingers=f.fingers++(if x%2=0 then pieceF F ls ((x - 2*ls.length)/2) else (pieceF F ls ((x - 2*ls.length)/2)).reverse):=by unfold Fc.add;rw[if_neg hd2]
    generalize f.add F ls x=f' at hout habove hdarts hplaces hfing hq hlen2;have lo1:S.lone 5120640128=false:=by kernel_rfl
    have sc1: ∀ l:List (Nat × Nat),((plP l).all fun e=>e.all PV.scalar)=true:=fun l=>by simp[PV.scalar]
    have sc2: ∀ l:List Nat,((nP l).all fun e=>e.all PV.scalar)=true:=fun l=>by simp[PV.scalar]
    have hnP: ∀ l:List (Nat × Nat),∀ e∈plP l,e.length=2∧ ∀ v∈e,v.norm=v:=fun l e he=>by
     obtain⟨a,_,rfl⟩:=List.mem_map.1 he;exact⟨rfl,fun v hv=>by simp at hv;rcases hv with rfl|rfl<;>rfl⟩
    have hnF: ∀ l:List Nat,∀ e∈nP l,e.length=1∧ ∀ v∈e,v.norm=v:=fun l e he=>by
     obtain⟨a,_,rfl⟩:=List.mem_map.1 he;exact⟨rfl,fun v hv=>by simp at hv;rcases hv with rfl;rfl⟩
    have shP:S.shared 115=true:=by kernel_rfl
    have shI:S.shared 116=true:=by kernel_rfl
    have htk:(sn'.set x true).take (2*ls.length)=sn'.take (2*ls.length):=take_set_ge (by omega);generalize pieceP F ls ((x - 2*ls.length)/2)=PP at*;generalize pieceF F ls ((x - 2*ls.length)/2)=FF at*;simp only[go_sem,i80_l1,h0,h9,h12,m2,hd',ws,wq,two_ne,tdiv2,s114];refine gP_g2A (by simp[kr1,kr2]) hpr lo1 (sc1 _) (sc2 _) fun c e blk1 hc he hb=> ?_
    by_cases hev:x%2=0
    ·have hpar:((x:Int).tmod 2==1)=false:=by rw[tmod2,hev];rfl
     rw[if_pos hev] at hplaces hfing;have hP:=hc;have hE:=he;have hbA: ∀ i,i≠5120640128→i≠5120640129→blk1 i=blk i:=hb;have bFN:=(hbA 5120128448 (by decide) (by decide)).trans hB.bF;simp only[go_sem,two_ne,hpar,bFN,h11,h12,kF];obtain⟨rP,hxP,hrP⟩:=hP.elems;refine dP_appA (site:=5120896192) (id:=5120896192) (bytes:=16) (by rcases hrP with rfl|rfl<;>simp[kp,kr1]) (hB.gp.of_eq (hbA _ (by decide) (by decide))) hxP hP.szOK (by simp only[List.length_map];omega) fun c2 blk4 r1 u1 hc2 hb4 hr1=> ?_
     have bF2:=(hb4 5120128448 (by decide) (by decide)).trans bFN;simp only[go_sem,bF2,h11,kF];obtain⟨rE,hxE,hrE⟩:=(hE.of_eq (hb4 _ (by decide) (by decide))).elems;refine dP_appA (site:=5120896448) (id:=5120896448) (bytes:=8) (by rcases hrE with rfl|rfl<;>simp[kf,kr2]) (hB.gf.of_eq ((hb4 _ (by decide) (by decide)).trans (hbA _ (by decide) (by decide)))) hxE hE.szOK (by simp only[List.length_map];omega) fun c3 blk5 r2 u2 hc3 hb5 hr2=> ?_
     have bF3:=(hb5 5120128448 (by decide) (by decide)).trans bF2;have hall: ∀ i,i≠5120640128→i≠5120640129→i≠5120896192→i≠5120896448→blk5 i=blk i:=fun i a b c d=>(hb5 i d d).trans ((hb4 i c c).trans (hbA i a b))
     have hc2':grown 5120896192 plTy 2 (plP f'.places) (.one c2) blk5:=by rw[hplaces,plP_app];exact hc2.of_eq (hb5 _ (by decide) (by decide))
     have hc3':grown 5120896448 3 1 (nP f'.fingers) (.one c3) blk5:=by rw[hfing,nP_app];exact hc3
     clear hc2 hc3;cases ho:f.outer with
     |true=>
      rw[ho] at bF3;simp only[go_sem,bF3,h0,h11,h12,kF,s113,gP_int_al pt];refine⟨?_,?_⟩
      ·rcases hrP with rfl|rfl<;>rcases hrE with rfl|rfl<;>rcases hr1 with ⟨rfl,rfl⟩|⟨rfl,rfl⟩|⟨rfl,rfl⟩<;>rcases hr2 with ⟨rfl,rfl⟩|⟨rfl,rfl⟩|⟨rfl,rfl⟩<;>kernel_rfl
      refine ih (k+1) (nxt ls x) (sn'.set x true) f' _ _ cd c2 c3 ?_ ?_ ?_ ?_ ?_ ?_ ?_ ?_ (by rw[List.length_set];exact hSl) (turn_lt2 ok hxn) hst (by omega) (by omega) hlen2 ?_
      ·simp only[go_sem,h0]
      ·simp only[go_sem,h2]
      ·simp only[go_sem,h8]
      ·simp only[go_sem,h9]
      ·simp only[go_sem,h10]
      ·simp only[go_sem,h11]
      ·simp only[go_sem]
      ·rw[htk];refine⟨?_,?_,?_,?_,?_,?_,?_⟩
       ·exact(upd_ne (nSi rfl).symm).trans ((upd_ne (nSi rfl).symm).trans ((upd_ne (nSi rfl).symm).trans ((hall _ (nSi rfl).symm (nSi rfl).symm (nSi rfl).symm (nSi rfl).symm).trans hB.bS)))
       ·exact(upd_ne (nBi rfl).symm).trans ((upd_ne (nBi rfl).symm).trans ((upd_ne (nBi rfl).symm).trans ((hall _ (nBi rfl).symm (nBi rfl).symm (nBi rfl).symm (nBi rfl).symm).trans hB.bB)))
       ·exact(upd_ne (by decide)).trans ((upd_ne (by decide)).trans ((upd_ne (by decide)).trans ((hall _ (by decide) (by decide) (by decide) (by decide)).trans hB.b8)))
       ·rw[upd_eq,habove,hout,ho];rfl
       ·rw[hdarts];exact hB.gd.of_eq ((upd_ne (by decide)).trans ((upd_ne (by decide)).trans ((upd_ne (by decide)).trans (hall _ (by decide) (by decide) (by decide) (by decide)))))
       ·exact hc2'.of_eq ((upd_ne (by decide)).trans ((upd_ne (by decide)).trans (upd_ne (by decide))))
       ·exact hc3'.of_eq ((upd_ne (by decide)).trans ((upd_ne (by decide)).trans (upd_ne (by decide))))
      ·intro env' blk' cd' cp' cf' q8 q11 hFE hkp;refine hq env' blk' cd' cp' cf' (by rw[q8];simp only[go_sem]) (by rw[q11];simp only[go_sem]) hFE fun id hn=> ?_
       have a: ∀ y,isFc y→id≠y:=fun y hy e=>hn (.inl (e▸hy))
       exact(hkp id hn).trans ((upd_ne (a _ rfl)).trans ((upd_ne (a _ rfl)).trans ((upd_ne (a _ rfl)).trans (hall id (a _ rfl) (a _ rfl) (a _ rfl) (a _ rfl)))))
     |false=>
      rw[ho] at bF3;simp only[go_sem,bF3,h0,h10,h11,h12,kF,w2,hend,s113,gP_int_al pt];refine⟨?_,?_⟩
      ·rcases hrP with rfl|rfl<;>rcases hrE with rfl|rfl<;>rcases hr1 with ⟨rfl,rfl⟩|⟨rfl,rfl⟩|⟨rfl,rfl⟩<;>rcases hr2 with ⟨rfl,rfl⟩|⟨rfl,rfl⟩|⟨rfl,rfl⟩<;>kernel_rfl
      refine ih (k+1) (nxt ls x) (sn'.set x true) f' _ _ cd c2 c3 ?_ ?_ ?_ ?_ ?_ ?_ ?_ ?_ (by rw[List.length_set];exact hSl) (turn_lt2 ok hxn) hst (by omega) (by omega) hlen2 ?_
      ·simp only[go_sem,h0]
      ·simp only[go_sem,h2]
      ·simp only[go_sem,h8]
      ·simp only[go_sem,h9]
      ·simp only[go_sem,h10]
      ·simp only[go_sem,h11]
      ·simp only[go_sem]
      ·rw[htk];refine⟨?_,?_,?_,?_,?_,?_,?_⟩
       ·exact(upd_ne (nSi rfl).symm).trans ((upd_ne (nSi rfl).symm).trans ((upd_ne (nSi rfl).symm).trans ((hall _ (nSi rfl).symm (nSi rfl).symm (nSi rfl).symm (nSi rfl).symm).trans hB.bS)))
       ·exact(upd_ne (nBi rfl).symm).trans ((upd_ne (nBi rfl).symm).trans ((upd_ne (nBi rfl).symm).trans ((hall _ (nBi rfl).symm (nBi rfl).symm (nBi rfl).symm (nBi rfl).symm).trans hB.bB)))
       ·exact(upd_ne (by decide)).trans ((upd_ne (by decide)).trans ((upd_ne (by decide)).trans ((hall _ (by decide) (by decide) (by decide) (by decide)).trans hB.b8)))
       ·rw[upd_eq,habove,hout,ho];rfl
       ·rw[hdarts];exact hB.gd.of_eq ((upd_ne (by decide)).trans ((upd_ne (by decide)).trans ((upd_ne (by decide)).trans (hall _ (by decide) (by decide) (by decide) (by decide)))))
       ·exact hc2'.of_eq ((upd_ne (by decide)).trans ((upd_ne (by decide)).trans (upd_ne (by decide))))
       ·exact hc3'.of_eq ((upd_ne (by decide)).trans ((upd_ne (by decide)).trans (upd_ne (by decide))))
      ·intro env' blk' cd' cp' cf' q8 q11 hFE hkp;refine hq env' blk' cd' cp' cf' (by rw[q8];simp only[go_sem]) (by rw[q11];simp only[go_sem]) hFE fun id hn=> ?_
       have a: ∀ y,isFc y→id≠y:=fun y hy e=>hn (.inl (e▸hy))
       exact(hkp id hn).trans ((upd_ne (a _ rfl)).trans ((upd_ne (a _ rfl)).trans ((upd_ne (a _ rfl)).trans (hall id (a _ rfl) (a _ rfl) (a _ rfl) (a _ rfl)))))
    ·have hpar:((x:Int).tmod 2==1)=true:=by rw[tmod2,show x%2=1 by omega];rfl
     rw[if_neg hev] at hplaces hfing;simp only[go_sem,two_ne,hpar,h12,shP];refine gP_rev (f:=115) (fun o h=>rev_places o (by simp only[List.length_map];omega) (hnP _) h) sitesRP hc kr1 f1 fun blk2 hc1 hb2=> ?_
     simp only[go_sem,shI];refine gP_rev (f:=116) (fun o h=>rev_ints o (by simp only[List.length_map];omega) (hnF _) h) sitesRI (he.of_eq (hb2 _ (by decide))) kr2 f2 fun blk3 he1 hb3=> ?_
     have hP:grown 5120640128 plTy 2 (plP PP.reverse) (.one c) blk3:=by rw[plP,List.map_reverse];exact hc1.of_eq (hb3 _ (by decide))
     have hE:grown 5120640129 3 1 (nP FF.reverse) (.one e) blk3:=by rw[nP,List.map_reverse];exact he1
     have hbA: ∀ i,i≠5120640128→i≠5120640129→blk3 i=blk i:=fun i a b=>(hb3 i b).trans ((hb2 i a).trans (hb i a b))
     have bFN:=(hbA 5120128448 (by decide) (by decide)).trans hB.bF;simp only[go_sem,bFN,h11,kF];obtain⟨rP,hxP,hrP⟩:=hP.elems;refine dP_appA (site:=5120896192) (id:=5120896192) (bytes:=16) (by rcases hrP with rfl|rfl<;>simp[kp,kr1]) (hB.gp.of_eq (hbA _ (by decide) (by decide))) hxP hP.szOK (by simp only[List.length_map,List.length_reverse];omega) fun c2 blk4 r1 u1 hc2 hb4 hr1=> ?_
     have bF2:=(hb4 5120128448 (by decide) (by decide)).trans bFN;simp only[go_sem,bF2,h11,kF];obtain⟨rE,hxE,hrE⟩:=(hE.of_eq (hb4 _ (by decide) (by decide))).elems;refine dP_appA (site:=5120896448) (id:=5120896448) (bytes:=8) (by rcases hrE with rfl|rfl<;>simp[kf,kr2]) (hB.gf.of_eq ((hb4 _ (by decide) (by decide)).trans (hbA _ (by decide) (by decide)))) hxE hE.szOK (by simp only[List.length_map,List.length_reverse];omega) fun c3 blk5 r2 u2 hc3 hb5 hr2=> ?_
     have bF3:=(hb5 5120128448 (by decide) (by decide)).trans bF2;have hall: ∀ i,i≠5120640128→i≠5120640129→i≠5120896192→i≠5120896448→blk5 i=blk i:=fun i a b c d=>(hb5 i d d).trans ((hb4 i c c).trans (hbA i a b))
     have hc2':grown 5120896192 plTy 2 (plP f'.places) (.one c2) blk5:=by rw[hplaces,plP_app];exact hc2.of_eq (hb5 _ (by decide) (by decide))
     have hc3':grown 5120896448 3 1 (nP f'.fingers) (.one c3) blk5:=by rw[hfing,nP_app];exact hc3
     clear hc2 hc3;cases ho:f.outer with
     |true=>
      rw[ho] at bF3;simp only[go_sem,bF3,h0,h11,h12,kF,s113,gP_int_al pt];refine⟨?_,?_⟩
      ·rcases hrP with rfl|rfl<;>rcases hrE with rfl|rfl<;>rcases hr1 with ⟨rfl,rfl⟩|⟨rfl,rfl⟩|⟨rfl,rfl⟩<;>rcases hr2 with ⟨rfl,rfl⟩|⟨rfl,rfl⟩|⟨rfl,rfl⟩<;>kernel_rfl
      refine ih (k+1) (nxt ls x) (sn'.set x true) f' _ _ cd c2 c3 ?_ ?_ ?_ ?_ ?_ ?_ ?_ ?_ (by rw[List.length_set];exact hSl) (turn_lt2 ok hxn) hst (by omega) (by omega) hlen2 ?_
      ·simp only[go_sem,h0]
      ·simp only[go_sem,h2]
      ·simp only[go_sem,h8]
      ·simp only[go_sem,h9]
      ·simp only[go_sem,h10]
      ·simp only[go_sem,h11]
      ·simp only[go_sem]
      ·rw[htk];refine⟨?_,?_,?_,?_,?_,?_,?_⟩
       ·exact(upd_ne (nSi rfl).symm).trans ((upd_ne (nSi rfl).symm).trans ((upd_ne (nSi rfl).symm).trans ((hall _ (nSi rfl).symm (nSi rfl).symm (nSi rfl).symm (nSi rfl).symm).trans hB.bS)))
       ·exact(upd_ne (nBi rfl).symm).trans ((upd_ne (nBi rfl).symm).trans ((upd_ne (nBi rfl).symm).trans ((hall _ (nBi rfl).symm (nBi rfl).symm (nBi rfl).symm (nBi rfl).symm).trans hB.bB)))
       ·exact(upd_ne (by decide)).trans ((upd_ne (by decide)).trans ((upd_ne (by decide)).trans ((hall _ (by decide) (by decide) (by decide) (by decide)).trans hB.b8)))
       ·rw[upd_eq,habove,hout,ho];rfl
       ·rw[hdarts];exact hB.gd.of_eq ((upd_ne (by decide)).trans ((upd_ne (by decide)).trans ((upd_ne (by decide)).trans (hall _ (by decide) (by decide) (by decide) (by decide)))))
       ·exact hc2'.of_eq ((upd_ne (by decide)).trans ((upd_ne (by decide)).trans (upd_ne (by decide))))
       ·exact hc3'.of_eq ((upd_ne (by decide)).trans ((upd_ne (by decide)).trans (upd_ne (by decide))))
      ·intro env' blk' cd' cp' cf' q8 q11 hFE hkp;refine hq env' blk' cd' cp' cf' (by rw[q8];simp only[go_sem]) (by rw[q11];simp only[go_sem]) hFE fun id hn=> ?_
       have a: ∀ y,isFc y→id≠y:=fun y hy e=>hn (.inl (e▸hy))
       exact(hkp id hn).trans ((upd_ne (a _ rfl)).trans ((upd_ne (a _ rfl)).trans ((upd_ne (a _ rfl)).trans (hall id (a _ rfl) (a _ rfl) (a _ rfl) (a _ rfl)))))
     |false=>
      rw[ho] at bF3;simp only[go_sem,bF3,h0,h10,h11,h12,kF,w2,hend,s113,gP_int_al pt];refine⟨?_,?_⟩
      ·rcases hrP with rfl|rfl<;>rcases hrE with rfl|rfl<;>rcases hr1 with ⟨rfl,rfl⟩|⟨rfl,rfl⟩|⟨rfl,rfl⟩<;>rcases hr2 with ⟨rfl,rfl⟩|⟨rfl,rfl⟩|⟨rfl,rfl⟩<;>kernel_rfl
      refine ih (k+1) (nxt ls x) (sn'.set x true) f' _ _ cd c2 c3 ?_ ?_ ?_ ?_ ?_ ?_ ?_ ?_ (by rw[List.length_set];exact hSl) (turn_lt2 ok hxn) hst (by omega) (by omega) hlen2 ?_
      ·simp only[go_sem,h0]
      ·simp only[go_sem,h2]
      ·simp only[go_sem,h8]
      ·simp only[go_sem,h9]
      ·simp only[go_sem,h10]
      ·simp only[go_sem,h11]
      ·simp only[go_sem]
      ·rw[htk];refine⟨?_,?_,?_,?_,?_,?_,?_⟩
       ·exact(upd_ne (nSi rfl).symm).trans ((upd_ne (nSi rfl).symm).trans ((upd_ne (nSi rfl).symm).trans ((hall _ (nSi rfl).symm (nSi rfl).symm (nSi rfl).symm (nSi rfl).symm).trans hB.bS)))
       ·exact(upd_ne (nBi rfl).symm).trans ((upd_ne (nBi rfl).symm).trans ((upd_ne (nBi rfl).symm).trans ((hall _ (nBi rfl).symm (nBi rfl).symm (nBi rfl).symm (nBi rfl).symm).trans hB.bB)))
       ·exact(upd_ne (by decide)).trans ((upd_ne (by decide)).trans ((upd_ne (by decide)).trans ((hall _ (by decide) (by decide) (by decide) (by decide)).trans hB.b8)))
       ·rw[upd_eq,habove,hout,ho];rfl
       ·rw[hdarts];exact hB.gd.of_eq ((upd_ne (by decide)).trans ((upd_ne (by decide)).trans ((upd_ne (by decide)).trans (hall _ (by decide) (by decide) (by decide) (by decide)))))
       ·exact hc2'.of_eq ((upd_ne (by decide)).trans ((upd_ne (by decide)).trans (upd_ne (by decide))))
       ·exact hc3'.of_eq ((upd_ne (by decide)).trans ((upd_ne (by decide)).trans (upd_ne (by decide))))
      ·intro env' blk' cd' cp' cf' q8 q11 hFE hkp;refine hq env' blk' cd' cp' cf' (by rw[q8];simp only[go_sem]) (by rw[q11];simp only[go_sem]) hFE fun id hn=> ?_
       have a: ∀ y,isFc y→id≠y:=fun y hy e=>hn (.inl (e▸hy))
       exact(hkp id hn).trans ((upd_ne (a _ rfl)).trans ((upd_ne (a _ rfl)).trans ((upd_ne (a _ rfl)).trans (hall id (a _ rfl) (a _ rfl) (a _ rfl) (a _ rfl)))))
end
end Go.Abs
