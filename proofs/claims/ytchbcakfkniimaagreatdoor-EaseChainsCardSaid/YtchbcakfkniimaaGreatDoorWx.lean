/-
  A part of a proof.
-/
import Derived.Test.YtchbcakfkniimaaGreatDoorWw
set_option linter.unusedSimpArgs false
set_option linter.unusedVariables false
set_option linter.unusedSectionVars false
set_option maxRecDepth 100000
set_option maxHeartbeats 16000000
namespace Go.Abs
attribute [local go_sem ↓] fm1 fm2
theorem rev_pieces{al:Al}{blk:Blk}{id ty:Nat}{es:List (List PV)}{c:C}(o:es=[]∨al.ok id=true)(hl:es.length≤1000000)(hes: ∀ e∈es,e.length=7∧ ∀ v∈e,v.norm=v)(h:grown id ty 7 es (.one c) blk):
  ∃ v blk',SEv S 116 [.one c] al blk v blk'∧rvPost id ty 7 es c blk v blk':=by
 refine SEv_fn c116 (Nat.le_of_ble_eq_true rfl) ?_;rcases h with ⟨rfl,h2⟩|⟨hne,g,h2,hC⟩
 ·cases h2
  have w0:IntKind.i64.wrap (((0:Nat):Int) - 1)= -1:=by decide
  have hz: ¬ ((0:Int)< -1):=by decide
  simp only[go_sem,i116,w0];refine R_for (fun k env blk'=>k=0∧env 2=vi 0∧env 3=vi (-1)∧blk'=blk) 0 0 (Nat.le_refl _) ?_ ?_
  ·simp only[go_sem]
  ·rintro k env blk' _ ⟨rfl,h2,h3,rfl⟩
   simp only[go_sem,i116_l1,h2,h3,hz];exact⟨rfl, .inl ⟨rfl,rfl⟩,fun _ _=>rfl⟩
 ·cases h2
  have o:=o.resolve_left hne;have w0:=wrap_m1 (a:=es.length) (by omega);simp only[go_sem,i116,w0];refine R_for (fun k env blk'=>env 0= .one (.hsl id g 7 0 es.length)∧env 2=vi k∧env 3=vi ((es.length:Int) - 1 - (k:Int))∧ ∃ fs,blk' id=(g,some (.arr ty 7 fs))∧rvI es fs k∧Kept (· =id) blk blk') 0 es.length (Nat.zero_le _) ?_ ?_
  ·simp only[go_sem];refine⟨rfl,by simp,es,hC,rvI.start es,Kept.refl _ _⟩
  ·rintro k env blk' hk ⟨h0,h2,h3,fs,hF,hI,hkp⟩
   by_cases hlt:k<es.length - 1 - k
   ·have e1:((es.length:Int) - 1 - (k:Int))=((es.length - 1 - k:Nat):Int):=by omega
    rw[e1] at h3;have hlt':((k:Int)<((es.length - 1 - k:Nat):Int)):=by omega
    have w1:=wrap_succ (n:=k) (by omega);have w2:IntKind.i64.wrap (((es.length - 1 - k:Nat):Int) - 1)=((es.length:Int) - 1 - ((k+1:Nat):Int)):=by
     rw[wrap_m1 (by omega)];omega
    obtain⟨a,ha⟩:=at_lt (show k<es.length by omega);obtain⟨b,hb⟩:=at_lt (show es.length - 1 - k<es.length by omega);obtain⟨fa,fb,hI2⟩:=hI.step hlt ha hb;obtain⟨la,na⟩:=hes a (List.mem_of_getElem? ha);obtain⟨lb,nb⟩:=hes b (List.mem_of_getElem? hb);obtain⟨x0,x1,x2,x3,x4,x5,x6,rfl⟩:=len7 la;obtain⟨y0,y1,y2,y3,y4,y5,y6,rfl⟩:=len7 lb;have hnx0:=na x0 (by simp);have hnx1:=na x1 (by simp);have hnx2:=na x2 (by simp);have hnx3:=na x3 (by simp);have hnx4:=na x4 (by simp);have hnx5:=na x5 (by simp);have hnx6:=na x6 (by simp)
    have hny0:=nb y0 (by simp);have hny1:=nb y1 (by simp);have hny2:=nb y2 (by simp);have hny3:=nb y3 (by simp);have hny4:=nb y4 (by simp);have hny5:=nb y5 (by simp);have hny6:=nb y6 (by simp);have hfl:=hI.len;have hkj: ¬ (k=es.length - 1 - k):=by omega
    have hkj': ¬ (es.length - 1 - k=k):=by omega
    have l1:k<fs.length:=by omega
    have l2:es.length - 1 - k<fs.length:=by omega
    have l3:k<es.length:=by omega
    have l4:es.length - 1 - k<es.length:=by omega
    simp only[go_sem,i116_l1,h0,h2,h3,hF,hlt',fa,fb,w1,w2,o,l1,l3,l4,hkj,hnx0,hnx1,hnx2,hnx3,hnx4,hnx5,hnx6,hny0,hny1,hny2,hny3,hny4,hny5,hny6,List.getElem?_set];refine⟨okd,_,rfl,hI2,?_⟩;exact(hkp.upd rfl _).upd rfl _
   ·have hlt': ¬ ((k:Int)<(es.length:Int) - 1 - (k:Int)):=by omega
    simp only[go_sem,i116_l1,h2,h3,hlt'];refine⟨rfl,?_,hkp⟩;rw[hI.done hlt] at hF;exact .inr ⟨by simpa using hne,g,by rw[List.length_reverse],hF⟩
theorem gP_revAll{Q:Post}{env:Env}{blk:Blk}{os:List IOper}{d:Option Nat}{f id ty z:Nat}{es:List (List PV)}{c:C}(hrev: ∀ {al:Al} {blk:Blk},es=[]∨al.ok id=true→grown id ty z es (.one c) blk→ ∃ v blk',SEv S f [.one c] al blk v blk'∧rvPost id ty z es c blk v blk')(hg:grown id ty z es (.one c) blk)
  (hK: ∀ blk',grown id ty z es.reverse (.one c) blk'→(∀ i,i≠id→blk' i=blk i)→RN S .all os Q (put env d (.tup [])) blk'):gP S .all (.sc f [.one c]) d os Q env blk:=by
 refine gP_sc2 (P:=rvPost id ty z es c blk) holds_all (hrev ?_ hg) ?_
 ·rcases reach_grown hg with ⟨h,_⟩|h
  ·exact .inl h
  ·exact .inr (allow_okI (by simp[h]))
 ·rintro v blk' ⟨rfl,h1,h2⟩
  exact hK blk' h1 h2
abbrev vis(x k:Nat)(sg:Int)(ov:Bool):Pc:=⟨⟨2,0,0,((x+k:Nat):Int),sg,ov⟩,false⟩
abbrev vv(ls:List Let)(s t:Int)(o:Bool):List Pc:=[vis (cnt Let.isC ls/2) 1 s o,vis (cnt Let.isC ls/2) 2 t o]
abbrev ww(ls:List Let)(s t:Int)(o:Bool):List Pc:=[vis (cnt Let.isC ls/2) 2 t o,vis (cnt Let.isC ls/2) 1 s o]
abbrev lAt(F:Nat)(ls:List Let)(d:Nat):Nat:=(leftL F ls).getD d 0
abbrev pmF(x:Nat)(sg:Int)(o:Bool):List Pc:=[vis x 1 sg o,vis x 2 (-sg) o]
abbrev pmS(x:Nat)(sg:Int)(o same:Bool):List Pc:=if same then [vis x 2 (-sg) (!o),vis x 1 sg (!o)] else [vis x 1 sg (!o),vis x 2 (-sg) (!o)]
def pmV(ls:List Let)(av bv:Nat)(l o same other:Bool):Option (List Pc):=
 if !same&& !other then none
 else
  let sg:Int:=if o==(same==l) then 1 else -1
  let first:=pmF (cnt Let.isC ls/2) sg o
  let second:=pmS (cnt Let.isC ls/2) sg o same
  some (if av<bv then insAt (insAt (pieces ls) second bv) first av else insAt (insAt (pieces ls) first av) second bv)
def pmR(F:Nat)(ls:List Let)(av bv:Nat)(l o:Bool):Option (List Pc):=
 if l then pmV ls av bv l o ((lAt F ls (2*bv):Int)==(lAt F ls (2*av):Int)) ((lAt F ls (2*bv+1):Int)==(lAt F ls (2*av):Int))
 else pmV ls av bv l o ((lAt F ls (2*bv+1):Int)==(lAt F ls (2*av+1):Int)) ((lAt F ls (2*bv):Int)==(lAt F ls (2*av+1):Int))
theorem lAt_at{F:Nat}{ls:List Let}{d:Nat}(hd:d<2*ls.length):(leftL F ls)[d]? =some (lAt F ls d):=by
 obtain⟨j,hj⟩:=at_lt (ls:=leftL F ls) (k:=d) (by rw[leftL_len];exact hd);rw[lAt,List.getD_eq_getElem?_getD,hj];rfl
theorem pairMake_p{F:Nat}{ls:List Let}(g:Fine F ls){av bv:Nat}(ha:av<ls.length)(hb:bv<ls.length)(hab:av≠bv){k c:Int}{l o:Bool}{sg:Int}:
  PEv S 87 [.one (.p (brdV F ls)),mvV k av bv c l o sg] (kR (pmR F ls av bv l o)):=by
 have hlen:=g.len;have hcr:=g.cr;have hpl:=pieces_len ls;have hll:=leftL_len F ls;have m2a:=wrap_mul2 (a:=av) (by omega);have m2b:=wrap_mul2 (a:=bv) (by omega);have wa0:IntKind.i64.wrap (((2*av:Nat):Int)+0)=((2*av:Nat):Int):=(wrapI (x:=((2*av:Nat):Int)+0) (by omega) (by omega)).trans (by omega);have wa1:=wrap_succ (n:=2*av) (by omega);have wb0:IntKind.i64.wrap (((2*bv:Nat):Int)+0)=((2*bv:Nat):Int):=(wrapI (x:=((2*bv:Nat):Int)+0) (by omega) (by omega)).trans (by omega);have wb1:=wrap_succ (n:=2*bv) (by omega)
 have wc0:IntKind.i64.wrap (((2*bv+1:Nat):Int) - 0)=((2*bv+1:Nat):Int):=(wrapI (x:=((2*bv+1:Nat):Int) - 0) (by omega) (by omega)).trans (by omega);have wc1:IntKind.i64.wrap (((2*bv+1:Nat):Int) - 1)=((2*bv:Nat):Int):=(wrapI (x:=((2*bv+1:Nat):Int) - 1) (by omega) (by omega)).trans (by omega);have la0:2*av<(leftL F ls).length:=by omega
 have la1:2*av+1<(leftL F ls).length:=by omega
 have lb0:2*bv<(leftL F ls).length:=by omega
 have lb1:2*bv+1<(leftL F ls).length:=by omega
 have ja0:=nP_at (lAt_at (F:=F) (ls:=ls) (d:=2*av) (by omega));have ja1:=nP_at (lAt_at (F:=F) (ls:=ls) (d:=2*av+1) (by omega));have jb0:=nP_at (lAt_at (F:=F) (ls:=ls) (d:=2*bv) (by omega));have jb1:=nP_at (lAt_at (F:=F) (ls:=ls) (d:=2*bv+1) (by omega));have hsh:S.shared 116=true:=by kernel_rfl
 have k1:((1:Nat):Int)=1:=rfl;have k2:((2:Nat):Int)=2:=rfl;have pv1:=fun ov=>visit_p F (cnt Let.isC ls/2) 1 ov (.sl (pcP (pieces ls))) (.sl (fcP (facesL F ls))) (.sl (nP (leftL F ls))) (.int .i64 (cnt Let.isP ls:Nat)) (.sl (nP (counts ls F))) 1 (by omega) (by omega)
 have pv2:=fun ov=>visit_p F (cnt Let.isC ls/2) (-1) ov (.sl (pcP (pieces ls))) (.sl (fcP (facesL F ls))) (.sl (nP (leftL F ls))) (.int .i64 (cnt Let.isP ls:Nat)) (.sl (nP (counts ls F))) 2 (by omega) (by omega)
 have pv3:=fun ov=>visit_p F (cnt Let.isC ls/2) (-1) ov (.sl (pcP (pieces ls))) (.sl (fcP (facesL F ls))) (.sl (nP (leftL F ls))) (.int .i64 (cnt Let.isP ls:Nat)) (.sl (nP (counts ls F))) 1 (by omega) (by omega)
 have pv4:=fun ov=>visit_p F (cnt Let.isC ls/2) 1 ov (.sl (pcP (pieces ls))) (.sl (fcP (facesL F ls))) (.sl (nP (leftL F ls))) (.int .i64 (cnt Let.isP ls:Nat)) (.sl (nP (counts ls F))) 2 (by omega) (by omega)
 simp only[k1,k2] at pv1 pv2 pv3 pv4;have wn1:IntKind.i64.wrap (0 - 1)= -1:=by decide
 have wn2:IntKind.i64.wrap (0 - -1)=1:=by decide
 have hl1: ∀ blk:Blk,∀ s,∀ x1 x2 x3 x4 x5 x6 x7:PV,land blk [] s ((RV.agg [.p x1, .p x2, .p x3, .p x4, .p x5, .p x6, .p x7]).pureIf (S.lone s))=some (.agg [.p x1, .p x2, .p x3, .p x4, .p x5, .p x6, .p x7],[]):=fun blk s x1 x2 x3 x4 x5 x6 x7=>by cases S.lone s<;>rfl
 have wz:=And.intro wa0 (And.intro wa1 (And.intro wb0 (And.intro wb1 (And.intro wc0 (And.intro wc1 (And.intro m2a (And.intro m2b (And.intro la0 (And.intro la1 (And.intro lb0 (And.intro lb1 (And.intro ja0 (And.intro ja1 (And.intro jb0 jb1))))))))))))));unfold pmR;generalize lAt F ls (2*av)=a0 at*;generalize lAt F ls (2*av+1)=a1 at*;generalize lAt F ls (2*bv)=b0 at*;generalize lAt F ls (2*bv+1)=b1 at*;refine pev1 c87 ?_;cases l with
 |true=>
  rw[if_pos rfl];cases o with
  |true=>
   simp only[go_sem,i87,wz];refine⟨okd,okd,?_⟩;refine dW_env [0,3,4,5,6,7,8,9,40] fun e1 hh1=> ?_
   simp only[go_sem] at hh1;cases hs:((b0:Int)==(a0:Int)) with
   |true=>
    simp only[go_sem,hh1,hs];refine⟨okd,?_⟩;by_cases hAB:av<bv
    ·have hlt:((av:Int)<(bv:Int)):=by omega
     have hres:pmV ls av bv true true true ((b1:Int)==(a0:Int))=some (insAt (insAt (pieces ls) (ww ls 1 (-1) false) bv) (vv ls 1 (-1) true) av):=by simp[pmV,pmF,pmS,hAB,vv,ww]
     rw[hres];simp only[go_sem,hh1,hs,s114,dP_land (pv1 _) (hl1 _ _ _ _ _ _ _ _ _),dP_land (pv2 _) (hl1 _ _ _ _ _ _ _ _ _),wn1,hsh];refine⟨okd,okd,?_⟩;refine gP_revAll (f:=116) (es:=pcP (vv ls 1 (-1) false)) (id:=5568704832) (ty:=pcTy) (z:=7) (fun o h=>rev_pieces o (by simp) (pc_norm _) h) (.inr ⟨by simp,_,rfl,by simp only[upd_apply,Nat.reduceEqDiff,if_true,if_false];rfl⟩) fun blkr gr hbr=> ?_
     have br0:=hbr 5568000000 (by decide);have br1:=hbr 5568640704 (by decide);simp only[go_sem] at br0 br1;rcases gr with ⟨e,_⟩|⟨_,gg,e,hbd⟩
     ·simp at e
     cases e
     rw[show(pcP (vv ls 1 (-1) false)).reverse=pcP (ww ls 1 (-1) false) from rfl] at hbd;simp only[Pc.ps,List.map_cons,List.map_nil] at hbd;simp only[go_sem,hh1,br0,hbd,hlt,s110];refine dP_g1 (inserted_p (pieces ls) (ww ls 1 (-1) false) bv (by omega) (by omega) (by simp)) (by kernel_rfl:S.lone 5568960448=false) (.inr (alone_grown (sc_pc _))) fun c1 blk1 v1 g1 hb1 hw1=> ?_
     obtain⟨r1,hsn1,hr1⟩:=g1.snapN;have q0:=hb1 5568000000 (by decide);have q1:=hb1 5568640704 (by decide);have q2:=hb1 5568704832 (by decide);simp only[go_sem,br0,br1,hbd] at q0 q1 q2;simp only[go_sem,hh1,q0,q1,hsn1,s110];refine dP_g1 (inserted_p (insAt (pieces ls) (ww ls 1 (-1) false) bv) (vv ls 1 (-1) true) av (by rw[insAt_len];omega) (by rw[insAt_len];simp;omega) (by simp)) (by kernel_rfl:S.lone 5568960704=false) (.inr (alone_grown (sc_pc _))) fun c2 blk2 v2 g2 hb2 hw2=> ?_
     simp only[go_sem];refine⟨?_,grown_out1 g2⟩;rcases hr1 with rfl|rfl<;>rcases hw1 with rfl|rfl<;>rcases hw2 with rfl|rfl<;>kernel_rfl
    ·have hlt: ¬ ((av:Int)<(bv:Int)):=by omega
     have hres:pmV ls av bv true true true ((b1:Int)==(a0:Int))=some (insAt (insAt (pieces ls) (vv ls 1 (-1) true) av) (ww ls 1 (-1) false) bv):=by simp[pmV,pmF,pmS,hAB,vv,ww]
     rw[hres];simp only[go_sem,hh1,hs,s114,dP_land (pv1 _) (hl1 _ _ _ _ _ _ _ _ _),dP_land (pv2 _) (hl1 _ _ _ _ _ _ _ _ _),wn1,hsh];refine⟨okd,okd,?_⟩;refine gP_revAll (f:=116) (es:=pcP (vv ls 1 (-1) false)) (id:=5568704832) (ty:=pcTy) (z:=7) (fun o h=>rev_pieces o (by simp) (pc_norm _) h) (.inr ⟨by simp,_,rfl,by simp only[upd_apply,Nat.reduceEqDiff,if_true,if_false];rfl⟩) fun blkr gr hbr=> ?_
     have br0:=hbr 5568000000 (by decide);have br1:=hbr 5568640704 (by decide);simp only[go_sem] at br0 br1;rcases gr with ⟨e,_⟩|⟨_,gg,e,hbd⟩
     ·simp at e
     cases e
     rw[show(pcP (vv ls 1 (-1) false)).reverse=pcP (ww ls 1 (-1) false) from rfl] at hbd;simp only[Pc.ps,List.map_cons,List.map_nil] at hbd;simp only[go_sem,hh1,br0,br1,hlt,s110];refine dP_g1 (inserted_p (pieces ls) (vv ls 1 (-1) true) av (by omega) (by omega) (by simp)) (by kernel_rfl:S.lone 5569024448=false) (.inr (alone_grown (sc_pc _))) fun c1 blk1 v1 g1 hb1 hw1=> ?_
     obtain⟨r1,hsn1,hr1⟩:=g1.snapN;have q0:=hb1 5568000000 (by decide);have q1:=hb1 5568640704 (by decide);have q2:=hb1 5568704832 (by decide);simp only[go_sem,br0,br1,hbd] at q0 q1 q2;simp only[go_sem,hh1,q0,q2,hsn1,s110];refine dP_g1 (inserted_p (insAt (pieces ls) (vv ls 1 (-1) true) av) (ww ls 1 (-1) false) bv (by rw[insAt_len];omega) (by rw[insAt_len];simp;omega) (by simp)) (by kernel_rfl:S.lone 5569024704=false) (.inr (alone_grown (sc_pc _))) fun c2 blk2 v2 g2 hb2 hw2=> ?_
     simp only[go_sem];refine⟨?_,grown_out1 g2⟩;rcases hr1 with rfl|rfl<;>rcases hw1 with rfl|rfl<;>rcases hw2 with rfl|rfl<;>kernel_rfl
   |false=>
    cases ho:((b1:Int)==(a0:Int)) with
    |false=>
     have hn:((b1:Int)!=(a0:Int))=true:=by simp only[bne,ho];rfl
     simp only[go_sem,wz,hh1,hs,hn];first|rfl|exact okd|exact⟨okd,rfl⟩|exact⟨okd,okd,rfl⟩
    |true=>
     have hn:((b1:Int)!=(a0:Int))=false:=by simp only[bne,ho];rfl
     simp only[go_sem,wz,hh1,hs,hn];refine⟨okd,?_⟩;by_cases hAB:av<bv
     ·have hlt:((av:Int)<(bv:Int)):=by omega
      have hres:pmV ls av bv true true false true=some (insAt (insAt (pieces ls) (vv ls (-1) 1 false) bv) (vv ls (-1) 1 true) av):=by simp[pmV,pmF,pmS,hAB,vv]
      rw[hres];simp only[go_sem,hh1,hs,s114,dP_land (pv3 _) (hl1 _ _ _ _ _ _ _ _ _),dP_land (pv4 _) (hl1 _ _ _ _ _ _ _ _ _),wn2,hlt,s110];refine⟨okd,okd,?_⟩;refine dP_g1 (inserted_p (pieces ls) (vv ls (-1) 1 false) bv (by omega) (by omega) (by simp)) (by kernel_rfl:S.lone 5568960448=false) (.inr (alone_grown (sc_pc _))) fun c1 blk1 v1 g1 hb1 hw1=> ?_
      obtain⟨r1,hsn1,hr1⟩:=g1.snapN;have q0:=hb1 5568000000 (by decide);have q1:=hb1 5568640704 (by decide);have q2:=hb1 5568704832 (by decide);simp only[go_sem] at q0 q1 q2;simp only[go_sem,hh1,q0,q1,hsn1,s110];refine dP_g1 (inserted_p (insAt (pieces ls) (vv ls (-1) 1 false) bv) (vv ls (-1) 1 true) av (by rw[insAt_len];omega) (by rw[insAt_len];simp;omega) (by simp)) (by kernel_rfl:S.lone 5568960704=false) (.inr (alone_grown (sc_pc _))) fun c2 blk2 v2 g2 hb2 hw2=> ?_
      simp only[go_sem];refine⟨?_,grown_out1 g2⟩;rcases hr1 with rfl|rfl<;>rcases hw1 with rfl|rfl<;>rcases hw2 with rfl|rfl<;>kernel_rfl
     ·have hlt: ¬ ((av:Int)<(bv:Int)):=by omega
      have hres:pmV ls av bv true true false true=some (insAt (insAt (pieces ls) (vv ls (-1) 1 true) av) (vv ls (-1) 1 false) bv):=by simp[pmV,pmF,pmS,hAB,vv]
      rw[hres];simp only[go_sem,hh1,hs,s114,dP_land (pv3 _) (hl1 _ _ _ _ _ _ _ _ _),dP_land (pv4 _) (hl1 _ _ _ _ _ _ _ _ _),wn2,hlt,s110];refine⟨okd,okd,?_⟩;refine dP_g1 (inserted_p (pieces ls) (vv ls (-1) 1 true) av (by omega) (by omega) (by simp)) (by kernel_rfl:S.lone 5569024448=false) (.inr (alone_grown (sc_pc _))) fun c1 blk1 v1 g1 hb1 hw1=> ?_
      obtain⟨r1,hsn1,hr1⟩:=g1.snapN;have q0:=hb1 5568000000 (by decide);have q1:=hb1 5568640704 (by decide);have q2:=hb1 5568704832 (by decide);simp only[go_sem] at q0 q1 q2;simp only[go_sem,hh1,q0,q2,hsn1,s110];refine dP_g1 (inserted_p (insAt (pieces ls) (vv ls (-1) 1 true) av) (vv ls (-1) 1 false) bv (by rw[insAt_len];omega) (by rw[insAt_len];simp;omega) (by simp)) (by kernel_rfl:S.lone 5569024704=false) (.inr (alone_grown (sc_pc _))) fun c2 blk2 v2 g2 hb2 hw2=> ?_
      simp only[go_sem];refine⟨?_,grown_out1 g2⟩;rcases hr1 with rfl|rfl<;>rcases hw1 with rfl|rfl<;>rcases hw2 with rfl|rfl<;>kernel_rfl
  |false=>
   simp only[go_sem,i87,wz];refine⟨okd,okd,?_⟩;refine dW_env [0,3,4,5,6,7,8,9,40] fun e2 hh2=> ?_
   simp only[go_sem] at hh2;cases hs:((b0:Int)==(a0:Int)) with
   |true=>
    simp only[go_sem,hh2,hs];refine⟨okd,?_⟩;by_cases hAB:av<bv
    ·have hlt:((av:Int)<(bv:Int)):=by omega
     have hres:pmV ls av bv true false true ((b1:Int)==(a0:Int))=some (insAt (insAt (pieces ls) (ww ls (-1) 1 true) bv) (vv ls (-1) 1 false) av):=by simp[pmV,pmF,pmS,hAB,vv,ww]
     rw[hres];simp only[go_sem,hh2,hs,s114,dP_land (pv3 _) (hl1 _ _ _ _ _ _ _ _ _),dP_land (pv4 _) (hl1 _ _ _ _ _ _ _ _ _),wn2,hsh];refine⟨okd,okd,?_⟩;refine gP_revAll (f:=116) (es:=pcP (vv ls (-1) 1 true)) (id:=5568704832) (ty:=pcTy) (z:=7) (fun o h=>rev_pieces o (by simp) (pc_norm _) h) (.inr ⟨by simp,_,rfl,by simp only[upd_apply,Nat.reduceEqDiff,if_true,if_false];rfl⟩) fun blkr gr hbr=> ?_
     have br0:=hbr 5568000000 (by decide);have br1:=hbr 5568640704 (by decide);simp only[go_sem] at br0 br1;rcases gr with ⟨e,_⟩|⟨_,gg,e,hbd⟩
     ·simp at e
     cases e
     rw[show(pcP (vv ls (-1) 1 true)).reverse=pcP (ww ls (-1) 1 true) from rfl] at hbd;simp only[Pc.ps,List.map_cons,List.map_nil] at hbd;simp only[go_sem,hh2,br0,hbd,hlt,s110];refine dP_g1 (inserted_p (pieces ls) (ww ls (-1) 1 true) bv (by omega) (by omega) (by simp)) (by kernel_rfl:S.lone 5568960448=false) (.inr (alone_grown (sc_pc _))) fun c1 blk1 v1 g1 hb1 hw1=> ?_
     obtain⟨r1,hsn1,hr1⟩:=g1.snapN;have q0:=hb1 5568000000 (by decide);have q1:=hb1 5568640704 (by decide);have q2:=hb1 5568704832 (by decide);simp only[go_sem,br0,br1,hbd] at q0 q1 q2;simp only[go_sem,hh2,q0,q1,hsn1,s110];refine dP_g1 (inserted_p (insAt (pieces ls) (ww ls (-1) 1 true) bv) (vv ls (-1) 1 false) av (by rw[insAt_len];omega) (by rw[insAt_len];simp;omega) (by simp)) (by kernel_rfl:S.lone 5568960704=false) (.inr (alone_grown (sc_pc _))) fun c2 blk2 v2 g2 hb2 hw2=> ?_
     simp only[go_sem];refine⟨?_,grown_out1 g2⟩;rcases hr1 with rfl|rfl<;>rcases hw1 with rfl|rfl<;>rcases hw2 with rfl|rfl<;>kernel_rfl
    ·have hlt: ¬ ((av:Int)<(bv:Int)):=by omega
     have hres:pmV ls av bv true false true ((b1:Int)==(a0:Int))=some (insAt (insAt (pieces ls) (vv ls (-1) 1 false) av) (ww ls (-1) 1 true) bv):=by simp[pmV,pmF,pmS,hAB,vv,ww]
     rw[hres];simp only[go_sem,hh2,hs,s114,dP_land (pv3 _) (hl1 _ _ _ _ _ _ _ _ _),dP_land (pv4 _) (hl1 _ _ _ _ _ _ _ _ _),wn2,hsh];refine⟨okd,okd,?_⟩;refine gP_revAll (f:=116) (es:=pcP (vv ls (-1) 1 true)) (id:=5568704832) (ty:=pcTy) (z:=7) (fun o h=>rev_pieces o (by simp) (pc_norm _) h) (.inr ⟨by simp,_,rfl,by simp only[upd_apply,Nat.reduceEqDiff,if_true,if_false];rfl⟩) fun blkr gr hbr=> ?_
     have br0:=hbr 5568000000 (by decide);have br1:=hbr 5568640704 (by decide);simp only[go_sem] at br0 br1;rcases gr with ⟨e,_⟩|⟨_,gg,e,hbd⟩
     ·simp at e
     cases e
     rw[show(pcP (vv ls (-1) 1 true)).reverse=pcP (ww ls (-1) 1 true) from rfl] at hbd;simp only[Pc.ps,List.map_cons,List.map_nil] at hbd;simp only[go_sem,hh2,br0,br1,hlt,s110];refine dP_g1 (inserted_p (pieces ls) (vv ls (-1) 1 false) av (by omega) (by omega) (by simp)) (by kernel_rfl:S.lone 5569024448=false) (.inr (alone_grown (sc_pc _))) fun c1 blk1 v1 g1 hb1 hw1=> ?_
     obtain⟨r1,hsn1,hr1⟩:=g1.snapN;have q0:=hb1 5568000000 (by decide);have q1:=hb1 5568640704 (by decide);have q2:=hb1 5568704832 (by decide);simp only[go_sem,br0,br1,hbd] at q0 q1 q2;simp only[go_sem,hh2,q0,q2,hsn1,s110];refine dP_g1 (inserted_p (insAt (pieces ls) (vv ls (-1) 1 false) av) (ww ls (-1) 1 true) bv (by rw[insAt_len];omega) (by rw[insAt_len];simp;omega) (by simp)) (by kernel_rfl:S.lone 5569024704=false) (.inr (alone_grown (sc_pc _))) fun c2 blk2 v2 g2 hb2 hw2=> ?_
     simp only[go_sem];refine⟨?_,grown_out1 g2⟩;rcases hr1 with rfl|rfl<;>rcases hw1 with rfl|rfl<;>rcases hw2 with rfl|rfl<;>kernel_rfl
   |false=>
    cases ho:((b1:Int)==(a0:Int)) with
    |false=>
     have hn:((b1:Int)!=(a0:Int))=true:=by simp only[bne,ho];rfl
     simp only[go_sem,wz,hh2,hs,hn];first|rfl|exact okd|exact⟨okd,rfl⟩|exact⟨okd,okd,rfl⟩
    |true=>
     have hn:((b1:Int)!=(a0:Int))=false:=by simp only[bne,ho];rfl
     simp only[go_sem,wz,hh2,hs,hn];refine⟨okd,?_⟩;by_cases hAB:av<bv
     ·have hlt:((av:Int)<(bv:Int)):=by omega
      have hres:pmV ls av bv true false false true=some (insAt (insAt (pieces ls) (vv ls 1 (-1) true) bv) (vv ls 1 (-1) false) av):=by simp[pmV,pmF,pmS,hAB,vv]
      rw[hres];simp only[go_sem,hh2,hs,s114,dP_land (pv1 _) (hl1 _ _ _ _ _ _ _ _ _),dP_land (pv2 _) (hl1 _ _ _ _ _ _ _ _ _),wn1,hlt,s110];refine⟨okd,okd,?_⟩;refine dP_g1 (inserted_p (pieces ls) (vv ls 1 (-1) true) bv (by omega) (by omega) (by simp)) (by kernel_rfl:S.lone 5568960448=false) (.inr (alone_grown (sc_pc _))) fun c1 blk1 v1 g1 hb1 hw1=> ?_
      obtain⟨r1,hsn1,hr1⟩:=g1.snapN;have q0:=hb1 5568000000 (by decide);have q1:=hb1 5568640704 (by decide);have q2:=hb1 5568704832 (by decide);simp only[go_sem] at q0 q1 q2;simp only[go_sem,hh2,q0,q1,hsn1,s110];refine dP_g1 (inserted_p (insAt (pieces ls) (vv ls 1 (-1) true) bv) (vv ls 1 (-1) false) av (by rw[insAt_len];omega) (by rw[insAt_len];simp;omega) (by simp)) (by kernel_rfl:S.lone 5568960704=false) (.inr (alone_grown (sc_pc _))) fun c2 blk2 v2 g2 hb2 hw2=> ?_
      simp only[go_sem];refine⟨?_,grown_out1 g2⟩;rcases hr1 with rfl|rfl<;>rcases hw1 with rfl|rfl<;>rcases hw2 with rfl|rfl<;>kernel_rfl
     ·have hlt: ¬ ((av:Int)<(bv:Int)):=by omega
      have hres:pmV ls av bv true false false true=some (insAt (insAt (pieces ls) (vv ls 1 (-1) false) av) (vv ls 1 (-1) true) bv):=by simp[pmV,pmF,pmS,hAB,vv]
      rw[hres];simp only[go_sem,hh2,hs,s114,dP_land (pv1 _) (hl1 _ _ _ _ _ _ _ _ _),dP_land (pv2 _) (hl1 _ _ _ _ _ _ _ _ _),wn1,hlt,s110];refine⟨okd,okd,?_⟩;refine dP_g1 (inserted_p (pieces ls) (vv ls 1 (-1) false) av (by omega) (by omega) (by simp)) (by kernel_rfl:S.lone 5569024448=false) (.inr (alone_grown (sc_pc _))) fun c1 blk1 v1 g1 hb1 hw1=> ?_
      obtain⟨r1,hsn1,hr1⟩:=g1.snapN;have q0:=hb1 5568000000 (by decide);have q1:=hb1 5568640704 (by decide);have q2:=hb1 5568704832 (by decide);simp only[go_sem] at q0 q1 q2;simp only[go_sem,hh2,q0,q2,hsn1,s110];refine dP_g1 (inserted_p (insAt (pieces ls) (vv ls 1 (-1) false) av) (vv ls 1 (-1) true) bv (by rw[insAt_len];omega) (by rw[insAt_len];simp;omega) (by simp)) (by kernel_rfl:S.lone 5569024704=false) (.inr (alone_grown (sc_pc _))) fun c2 blk2 v2 g2 hb2 hw2=> ?_
      simp only[go_sem];refine⟨?_,grown_out1 g2⟩;rcases hr1 with rfl|rfl<;>rcases hw1 with rfl|rfl<;>rcases hw2 with rfl|rfl<;>kernel_rfl
 |false=>
  rw[if_neg (by decide)];cases o with
  |true=>
   simp only[go_sem,i87,wz];refine⟨okd,okd,?_⟩;refine dW_env [0,3,4,5,6,7,8,9,40] fun e3 hh3=> ?_
   simp only[go_sem] at hh3;cases hs:((b1:Int)==(a1:Int)) with
   |true=>
    simp only[go_sem,hh3,hs];refine⟨okd,?_⟩;by_cases hAB:av<bv
    ·have hlt:((av:Int)<(bv:Int)):=by omega
     have hres:pmV ls av bv false true true ((b0:Int)==(a1:Int))=some (insAt (insAt (pieces ls) (ww ls (-1) 1 false) bv) (vv ls (-1) 1 true) av):=by simp[pmV,pmF,pmS,hAB,vv,ww]
     rw[hres];simp only[go_sem,hh3,hs,s114,dP_land (pv3 _) (hl1 _ _ _ _ _ _ _ _ _),dP_land (pv4 _) (hl1 _ _ _ _ _ _ _ _ _),wn2,hsh];refine⟨okd,okd,?_⟩;refine gP_revAll (f:=116) (es:=pcP (vv ls (-1) 1 false)) (id:=5568704832) (ty:=pcTy) (z:=7) (fun o h=>rev_pieces o (by simp) (pc_norm _) h) (.inr ⟨by simp,_,rfl,by simp only[upd_apply,Nat.reduceEqDiff,if_true,if_false];rfl⟩) fun blkr gr hbr=> ?_
     have br0:=hbr 5568000000 (by decide);have br1:=hbr 5568640704 (by decide);simp only[go_sem] at br0 br1;rcases gr with ⟨e,_⟩|⟨_,gg,e,hbd⟩
     ·simp at e
     cases e
     rw[show(pcP (vv ls (-1) 1 false)).reverse=pcP (ww ls (-1) 1 false) from rfl] at hbd;simp only[Pc.ps,List.map_cons,List.map_nil] at hbd;simp only[go_sem,hh3,br0,hbd,hlt,s110];refine dP_g1 (inserted_p (pieces ls) (ww ls (-1) 1 false) bv (by omega) (by omega) (by simp)) (by kernel_rfl:S.lone 5568960448=false) (.inr (alone_grown (sc_pc _))) fun c1 blk1 v1 g1 hb1 hw1=> ?_
     obtain⟨r1,hsn1,hr1⟩:=g1.snapN;have q0:=hb1 5568000000 (by decide);have q1:=hb1 5568640704 (by decide);have q2:=hb1 5568704832 (by decide);simp only[go_sem,br0,br1,hbd] at q0 q1 q2;simp only[go_sem,hh3,q0,q1,hsn1,s110];refine dP_g1 (inserted_p (insAt (pieces ls) (ww ls (-1) 1 false) bv) (vv ls (-1) 1 true) av (by rw[insAt_len];omega) (by rw[insAt_len];simp;omega) (by simp)) (by kernel_rfl:S.lone 5568960704=false) (.inr (alone_grown (sc_pc _))) fun c2 blk2 v2 g2 hb2 hw2=> ?_
     simp only[go_sem];refine⟨?_,grown_out1 g2⟩;rcases hr1 with rfl|rfl<;>rcases hw1 with rfl|rfl<;>rcases hw2 with rfl|rfl<;>kernel_rfl
    ·have hlt: ¬ ((av:Int)<(bv:Int)):=by omega
     have hres:pmV ls av bv false true true ((b0:Int)==(a1:Int))=some (insAt (insAt (pieces ls) (vv ls (-1) 1 true) av) (ww ls (-1) 1 false) bv):=by simp[pmV,pmF,pmS,hAB,vv,ww]
     rw[hres];simp only[go_sem,hh3,hs,s114,dP_land (pv3 _) (hl1 _ _ _ _ _ _ _ _ _),dP_land (pv4 _) (hl1 _ _ _ _ _ _ _ _ _),wn2,hsh];refine⟨okd,okd,?_⟩;refine gP_revAll (f:=116) (es:=pcP (vv ls (-1) 1 false)) (id:=5568704832) (ty:=pcTy) (z:=7) (fun o h=>rev_pieces o (by simp) (pc_norm _) h) (.inr ⟨by simp,_,rfl,by simp only[upd_apply,Nat.reduceEqDiff,if_true,if_false];rfl⟩) fun blkr gr hbr=> ?_
     have br0:=hbr 5568000000 (by decide);have br1:=hbr 5568640704 (by decide);simp only[go_sem] at br0 br1;rcases gr with ⟨e,_⟩|⟨_,gg,e,hbd⟩
     ·simp at e
     cases e
     rw[show(pcP (vv ls (-1) 1 false)).reverse=pcP (ww ls (-1) 1 false) from rfl] at hbd;simp only[Pc.ps,List.map_cons,List.map_nil] at hbd;simp only[go_sem,hh3,br0,br1,hlt,s110];refine dP_g1 (inserted_p (pieces ls) (vv ls (-1) 1 true) av (by omega) (by omega) (by simp)) (by kernel_rfl:S.lone 5569024448=false) (.inr (alone_grown (sc_pc _))) fun c1 blk1 v1 g1 hb1 hw1=> ?_
     obtain⟨r1,hsn1,hr1⟩:=g1.snapN;have q0:=hb1 5568000000 (by decide);have q1:=hb1 5568640704 (by decide);have q2:=hb1 5568704832 (by decide);simp only[go_sem,br0,br1,hbd] at q0 q1 q2;simp only[go_sem,hh3,q0,q2,hsn1,s110];refine dP_g1 (inserted_p (insAt (pieces ls) (vv ls (-1) 1 true) av) (ww ls (-1) 1 false) bv (by rw[insAt_len];omega) (by rw[insAt_len];simp;omega) (by simp)) (by kernel_rfl:S.lone 5569024704=false) (.inr (alone_grown (sc_pc _))) fun c2 blk2 v2 g2 hb2 hw2=> ?_
     simp only[go_sem];refine⟨?_,grown_out1 g2⟩;rcases hr1 with rfl|rfl<;>rcases hw1 with rfl|rfl<;>rcases hw2 with rfl|rfl<;>kernel_rfl
   |false=>
    cases ho:((b0:Int)==(a1:Int)) with
    |false=>
     have hn:((b0:Int)!=(a1:Int))=true:=by simp only[bne,ho];rfl
     simp only[go_sem,wz,hh3,hs,hn];first|rfl|exact okd|exact⟨okd,rfl⟩|exact⟨okd,okd,rfl⟩
    |true=>
     have hn:((b0:Int)!=(a1:Int))=false:=by simp only[bne,ho];rfl
     simp only[go_sem,wz,hh3,hs,hn];refine⟨okd,?_⟩;by_cases hAB:av<bv
     ·have hlt:((av:Int)<(bv:Int)):=by omega
      have hres:pmV ls av bv false true false true=some (insAt (insAt (pieces ls) (vv ls 1 (-1) false) bv) (vv ls 1 (-1) true) av):=by simp[pmV,pmF,pmS,hAB,vv]
      rw[hres];simp only[go_sem,hh3,hs,s114,dP_land (pv1 _) (hl1 _ _ _ _ _ _ _ _ _),dP_land (pv2 _) (hl1 _ _ _ _ _ _ _ _ _),wn1,hlt,s110];refine⟨okd,okd,?_⟩;refine dP_g1 (inserted_p (pieces ls) (vv ls 1 (-1) false) bv (by omega) (by omega) (by simp)) (by kernel_rfl:S.lone 5568960448=false) (.inr (alone_grown (sc_pc _))) fun c1 blk1 v1 g1 hb1 hw1=> ?_
      obtain⟨r1,hsn1,hr1⟩:=g1.snapN;have q0:=hb1 5568000000 (by decide);have q1:=hb1 5568640704 (by decide);have q2:=hb1 5568704832 (by decide);simp only[go_sem] at q0 q1 q2;simp only[go_sem,hh3,q0,q1,hsn1,s110];refine dP_g1 (inserted_p (insAt (pieces ls) (vv ls 1 (-1) false) bv) (vv ls 1 (-1) true) av (by rw[insAt_len];omega) (by rw[insAt_len];simp;omega) (by simp)) (by kernel_rfl:S.lone 5568960704=false) (.inr (alone_grown (sc_pc _))) fun c2 blk2 v2 g2 hb2 hw2=> ?_
      simp only[go_sem];refine⟨?_,grown_out1 g2⟩;rcases hr1 with rfl|rfl<;>rcases hw1 with rfl|rfl<;>rcases hw2 with rfl|rfl<;>kernel_rfl
     ·have hlt: ¬ ((av:Int)<(bv:Int)):=by omega
      have hres:pmV ls av bv false true false true=some (insAt (insAt (pieces ls) (vv ls 1 (-1) true) av) (vv ls 1 (-1) false) bv):=by simp[pmV,pmF,pmS,hAB,vv]
      rw[hres];simp only[go_sem,hh3,hs,s114,dP_land (pv1 _) (hl1 _ _ _ _ _ _ _ _ _),dP_land (pv2 _) (hl1 _ _ _ _ _ _ _ _ _),wn1,hlt,s110];refine⟨okd,okd,?_⟩;refine dP_g1 (inserted_p (pieces ls) (vv ls 1 (-1) true) av (by omega) (by omega) (by simp)) (by kernel_rfl:S.lone 5569024448=false) (.inr (alone_grown (sc_pc _))) fun c1 blk1 v1 g1 hb1 hw1=> ?_
      obtain⟨r1,hsn1,hr1⟩:=g1.snapN;have q0:=hb1 5568000000 (by decide);have q1:=hb1 5568640704 (by decide);have q2:=hb1 5568704832 (by decide);simp only[go_sem] at q0 q1 q2;simp only[go_sem,hh3,q0,q2,hsn1,s110];refine dP_g1 (inserted_p (insAt (pieces ls) (vv ls 1 (-1) true) av) (vv ls 1 (-1) false) bv (by rw[insAt_len];omega) (by rw[insAt_len];simp;omega) (by simp)) (by kernel_rfl:S.lone 5569024704=false) (.inr (alone_grown (sc_pc _))) fun c2 blk2 v2 g2 hb2 hw2=> ?_
      simp only[go_sem];refine⟨?_,grown_out1 g2⟩;rcases hr1 with rfl|rfl<;>rcases hw1 with rfl|rfl<;>rcases hw2 with rfl|rfl<;>kernel_rfl
  |false=>
   simp only[go_sem,i87,wz];refine⟨okd,okd,?_⟩;refine dW_env [0,3,4,5,6,7,8,9,40] fun e4 hh4=> ?_
   simp only[go_sem] at hh4;cases hs:((b1:Int)==(a1:Int)) with
   |true=>
    simp only[go_sem,hh4,hs];refine⟨okd,?_⟩;by_cases hAB:av<bv
    ·have hlt:((av:Int)<(bv:Int)):=by omega
     have hres:pmV ls av bv false false true ((b0:Int)==(a1:Int))=some (insAt (insAt (pieces ls) (ww ls 1 (-1) true) bv) (vv ls 1 (-1) false) av):=by simp[pmV,pmF,pmS,hAB,vv,ww]
     rw[hres];simp only[go_sem,hh4,hs,s114,dP_land (pv1 _) (hl1 _ _ _ _ _ _ _ _ _),dP_land (pv2 _) (hl1 _ _ _ _ _ _ _ _ _),wn1,hsh];refine⟨okd,okd,?_⟩;refine gP_revAll (f:=116) (es:=pcP (vv ls 1 (-1) true)) (id:=5568704832) (ty:=pcTy) (z:=7) (fun o h=>rev_pieces o (by simp) (pc_norm _) h) (.inr ⟨by simp,_,rfl,by simp only[upd_apply,Nat.reduceEqDiff,if_true,if_false];rfl⟩) fun blkr gr hbr=> ?_
     have br0:=hbr 5568000000 (by decide);have br1:=hbr 5568640704 (by decide);simp only[go_sem] at br0 br1;rcases gr with ⟨e,_⟩|⟨_,gg,e,hbd⟩
     ·simp at e
     cases e
     rw[show(pcP (vv ls 1 (-1) true)).reverse=pcP (ww ls 1 (-1) true) from rfl] at hbd;simp only[Pc.ps,List.map_cons,List.map_nil] at hbd;simp only[go_sem,hh4,br0,hbd,hlt,s110];refine dP_g1 (inserted_p (pieces ls) (ww ls 1 (-1) true) bv (by omega) (by omega) (by simp)) (by kernel_rfl:S.lone 5568960448=false) (.inr (alone_grown (sc_pc _))) fun c1 blk1 v1 g1 hb1 hw1=> ?_
     obtain⟨r1,hsn1,hr1⟩:=g1.snapN;have q0:=hb1 5568000000 (by decide);have q1:=hb1 5568640704 (by decide);have q2:=hb1 5568704832 (by decide);simp only[go_sem,br0,br1,hbd] at q0 q1 q2;simp only[go_sem,hh4,q0,q1,hsn1,s110];refine dP_g1 (inserted_p (insAt (pieces ls) (ww ls 1 (-1) true) bv) (vv ls 1 (-1) false) av (by rw[insAt_len];omega) (by rw[insAt_len];simp;omega) (by simp)) (by kernel_rfl:S.lone 5568960704=false) (.inr (alone_grown (sc_pc _))) fun c2 blk2 v2 g2 hb2 hw2=> ?_
     simp only[go_sem];refine⟨?_,grown_out1 g2⟩;rcases hr1 with rfl|rfl<;>rcases hw1 with rfl|rfl<;>rcases hw2 with rfl|rfl<;>kernel_rfl
    ·have hlt: ¬ ((av:Int)<(bv:Int)):=by omega
     have hres:pmV ls av bv false false true ((b0:Int)==(a1:Int))=some (insAt (insAt (pieces ls) (vv ls 1 (-1) false) av) (ww ls 1 (-1) true) bv):=by simp[pmV,pmF,pmS,hAB,vv,ww]
     rw[hres];simp only[go_sem,hh4,hs,s114,dP_land (pv1 _) (hl1 _ _ _ _ _ _ _ _ _),dP_land (pv2 _) (hl1 _ _ _ _ _ _ _ _ _),wn1,hsh];refine⟨okd,okd,?_⟩;refine gP_revAll (f:=116) (es:=pcP (vv ls 1 (-1) true)) (id:=5568704832) (ty:=pcTy) (z:=7) (fun o h=>rev_pieces o (by simp) (pc_norm _) h) (.inr ⟨by simp,_,rfl,by simp only[upd_apply,Nat.reduceEqDiff,if_true,if_false];rfl⟩) fun blkr gr hbr=> ?_
     have br0:=hbr 5568000000 (by decide);have br1:=hbr 5568640704 (by decide);simp only[go_sem] at br0 br1;rcases gr with ⟨e,_⟩|⟨_,gg,e,hbd⟩
     ·simp at e
     cases e
     rw[show(pcP (vv ls 1 (-1) true)).reverse=pcP (ww ls 1 (-1) true) from rfl] at hbd;simp only[Pc.ps,List.map_cons,List.map_nil] at hbd;simp only[go_sem,hh4,br0,br1,hlt,s110];refine dP_g1 (inserted_p (pieces ls) (vv ls 1 (-1) false) av (by omega) (by omega) (by simp)) (by kernel_rfl:S.lone 5569024448=false) (.inr (alone_grown (sc_pc _))) fun c1 blk1 v1 g1 hb1 hw1=> ?_
     obtain⟨r1,hsn1,hr1⟩:=g1.snapN;have q0:=hb1 5568000000 (by decide);have q1:=hb1 5568640704 (by decide);have q2:=hb1 5568704832 (by decide);simp only[go_sem,br0,br1,hbd] at q0 q1 q2;simp only[go_sem,hh4,q0,q2,hsn1,s110];refine dP_g1 (inserted_p (insAt (pieces ls) (vv ls 1 (-1) false) av) (ww ls 1 (-1) true) bv (by rw[insAt_len];omega) (by rw[insAt_len];simp;omega) (by simp)) (by kernel_rfl:S.lone 5569024704=false) (.inr (alone_grown (sc_pc _))) fun c2 blk2 v2 g2 hb2 hw2=> ?_
     simp only[go_sem];refine⟨?_,grown_out1 g2⟩;rcases hr1 with rfl|rfl<;>rcases hw1 with rfl|rfl<;>rcases hw2 with rfl|rfl<;>kernel_rfl
   |false=>
    cases ho:((b0:Int)==(a1:Int)) with
    |false=>
     have hn:((b0:Int)!=(a1:Int))=true:=by simp only[bne,ho];rfl
     simp only[go_sem,wz,hh4,hs,hn];first|rfl|exact okd|exact⟨okd,rfl⟩|exact⟨okd,okd,rfl⟩
    |true=>
     have hn:((b0:Int)!=(a1:Int))=false:=by simp only[bne,ho];rfl
     simp only[go_sem,wz,hh4,hs,hn];refine⟨okd,?_⟩;by_cases hAB:av<bv
     ·have hlt:((av:Int)<(bv:Int)):=by omega
      have hres:pmV ls av bv false false false true=some (insAt (insAt (pieces ls) (vv ls (-1) 1 true) bv) (vv ls (-1) 1 false) av):=by simp[pmV,pmF,pmS,hAB,vv]
      rw[hres];simp only[go_sem,hh4,hs,s114,dP_land (pv3 _) (hl1 _ _ _ _ _ _ _ _ _),dP_land (pv4 _) (hl1 _ _ _ _ _ _ _ _ _),wn2,hlt,s110];refine⟨okd,okd,?_⟩;refine dP_g1 (inserted_p (pieces ls) (vv ls (-1) 1 true) bv (by omega) (by omega) (by simp)) (by kernel_rfl:S.lone 5568960448=false) (.inr (alone_grown (sc_pc _))) fun c1 blk1 v1 g1 hb1 hw1=> ?_
      obtain⟨r1,hsn1,hr1⟩:=g1.snapN;have q0:=hb1 5568000000 (by decide);have q1:=hb1 5568640704 (by decide);have q2:=hb1 5568704832 (by decide);simp only[go_sem] at q0 q1 q2;simp only[go_sem,hh4,q0,q1,hsn1,s110];refine dP_g1 (inserted_p (insAt (pieces ls) (vv ls (-1) 1 true) bv) (vv ls (-1) 1 false) av (by rw[insAt_len];omega) (by rw[insAt_len];simp;omega) (by simp)) (by kernel_rfl:S.lone 5568960704=false) (.inr (alone_grown (sc_pc _))) fun c2 blk2 v2 g2 hb2 hw2=> ?_
      simp only[go_sem];refine⟨?_,grown_out1 g2⟩;rcases hr1 with rfl|rfl<;>rcases hw1 with rfl|rfl<;>rcases hw2 with rfl|rfl<;>kernel_rfl
     ·have hlt: ¬ ((av:Int)<(bv:Int)):=by omega
      have hres:pmV ls av bv false false false true=some (insAt (insAt (pieces ls) (vv ls (-1) 1 false) av) (vv ls (-1) 1 true) bv):=by simp[pmV,pmF,pmS,hAB,vv]
      rw[hres];simp only[go_sem,hh4,hs,s114,dP_land (pv3 _) (hl1 _ _ _ _ _ _ _ _ _),dP_land (pv4 _) (hl1 _ _ _ _ _ _ _ _ _),wn2,hlt,s110];refine⟨okd,okd,?_⟩;refine dP_g1 (inserted_p (pieces ls) (vv ls (-1) 1 false) av (by omega) (by omega) (by simp)) (by kernel_rfl:S.lone 5569024448=false) (.inr (alone_grown (sc_pc _))) fun c1 blk1 v1 g1 hb1 hw1=> ?_
      obtain⟨r1,hsn1,hr1⟩:=g1.snapN;have q0:=hb1 5568000000 (by decide);have q1:=hb1 5568640704 (by decide);have q2:=hb1 5568704832 (by decide);simp only[go_sem] at q0 q1 q2;simp only[go_sem,hh4,q0,q2,hsn1,s110];refine dP_g1 (inserted_p (insAt (pieces ls) (vv ls (-1) 1 false) av) (vv ls (-1) 1 true) bv (by rw[insAt_len];omega) (by rw[insAt_len];simp;omega) (by simp)) (by kernel_rfl:S.lone 5569024704=false) (.inr (alone_grown (sc_pc _))) fun c2 blk2 v2 g2 hb2 hw2=> ?_
      simp only[go_sem];refine⟨?_,grown_out1 g2⟩;rcases hr1 with rfl|rfl<;>rcases hw1 with rfl|rfl<;>rcases hw2 with rfl|rfl<;>kernel_rfl
end Go.Abs
