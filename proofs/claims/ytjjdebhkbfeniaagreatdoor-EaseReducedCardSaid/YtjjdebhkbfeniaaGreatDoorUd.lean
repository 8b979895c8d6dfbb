/-
  LoopCut and PairCut keep a code valid.
-/
import Derived.Test.YtjjdebhkbfeniaaGreatDoorUc
import Derived.Test.YtjjdebhkbfeniaaGreatDoorVb
set_option linter.unusedSimpArgs false
set_option linter.unusedVariables false
set_option linter.unusedSectionVars false
set_option maxRecDepth 100000
set_option maxHeartbeats 16000000
namespace Go.Abs
section
variable {F:Nat} {ls:List Let}
theorem corner_walk(g:Fine F ls){pl:Nat}{edges:List Nat}{e0:Nat}(he0:e0<ls.length)(h:cornR F ls pl edges e0=true): ∃ w,w∈walksL (nxt ls) (nD ls)∧(faceW F ls w).places.length=pl∧((w.filter fun x=>decide (x<2*ls.length)).length=edges.length)∧ ∀ e∈edges,∃ d,d∈w∧d<2*ls.length∧d/2=e:=by
 have key: ∀ f∈facesL F ls,cornB f pl edges=true→ ∃ w,w∈walksL (nxt ls) (nD ls)∧(faceW F ls w).places.length=pl∧((w.filter fun x=>decide (x<2*ls.length)).length=edges.length)∧ ∀ e∈edges,∃ d,d∈w∧d<2*ls.length∧d/2=e:=by
  intro f hf hc;obtain⟨w,hw,rfl⟩:=List.mem_map.1 hf;unfold cornB at hc;simp only[Bool.and_eq_true,beq_iff_eq,List.all_eq_true] at hc;obtain⟨h1,h2,h3⟩:=hc;rw[faceW_dl] at h1;refine⟨w,hw,h2,h1,fun e he=> ?_⟩;have h4:=h3 e he;unfold dcnt at h4;obtain⟨d,hd,hde⟩:=List.countP_pos_iff.1 (show 0<((faceW F ls w).darts.countP fun d=>d/2==e) by omega);rw[faceW_dl] at hd;obtain⟨d1,d2⟩:=List.mem_filter.1 hd;exact⟨d,d1,by simpa using d2,by simpa using hde⟩
 unfold cornR at h;rw[Bool.or_eq_true] at h;rcases h with h|h
 ·exact key _ (faceAt_mem (by omega)) h
 ·exact key _ (faceAt_mem (by omega)) h
theorem two_mem2{D:List Nat}(h:D.length=2){x y:Nat}(hx:x∈D)(hy:y∈D)(hne:x≠y){z:Nat}(hz:z∈D):z=x∨z=y:=by
 match D,h with
 |[p,q],_=>
  simp only[List.mem_cons,List.not_mem_nil,or_false] at hx hy hz;omega
theorem nxt_fw{e:Nat}(he:e<ls.length){l:Let}(hl:ls[nx ls e]? =some l)(hc:l.isC=true):nxt ls (2*e)=alongD ls.length (otherR ls (nx ls e)) (gX l):=by
 have:2*e=arrD ls.length (nx ls e) true:=by
  unfold arrD nx;rw[if_pos rfl,mod_fore he]
 rw[this,turn_C hl hc];unfold gX;cases (l.over==(l.sign==1))<;>rfl
theorem nxt_bw{e:Nat}{l:Let}(hl:ls[e]? =some l)(hc:l.isC=true):nxt ls (2*e+1)=alongD ls.length (otherR ls e) (!gX l):=by
 have:2*e+1=arrD ls.length e false:=rfl;rw[this,turn_C hl hc];unfold gX;cases (l.over==(l.sign==1))<;>rfl
theorem al_eq{v:Nat}{b:Bool}{x:Nat}(h:alongD ls.length v b=x):(b=true∧x=2*v)∨(b=false∧x=2*((v+ls.length - 1)%ls.length)+1):=by
 cases b
 ·exact .inr ⟨rfl,h.symm⟩
 ·exact .inl ⟨rfl,h.symm⟩
theorem back_nx{v e:Nat}(hv:v<ls.length)(h:(v+ls.length - 1)%ls.length=e):v=nx ls e:=by
 unfold nx;rw[← h,mod_back hv]
theorem gX_other(ok:dgOK F ls){v u:Nat}{l m:Let}(hl:ls[v]? =some l)(hc:l.isC=true)(hm:ls[u]? =some m)(ho:otherR ls v=u):gX m= !gX l∧m.isC=true∧m.id=l.id:=by
 obtain⟨_,w,hw,wc,wi,wo,ws⟩:=otherR_back ok.cr hl hc;rw[ho,hm] at hw;cases hw
 refine⟨?_,wc,wi⟩;unfold gX;rw[wo,ws];cases l.over<;>cases (l.sign==1)<;>rfl
theorem other_lt(ok:dgOK F ls){v:Nat}{l:Let}(hl:ls[v]? =some l)(hc:l.isC=true):otherR ls v<ls.length:=by
 obtain⟨_,w,hw,_⟩:=otherR_back ok.cr hl hc;exact(List.getElem?_eq_some_iff.1 hw).1
theorem pair_corner(g:Fine F ls){a b:Nat}(ha:a<ls.length)(hb:b<ls.length){lx ly lu lv:Let}(hx:ls[a]? =some lx)(hy:ls[nx ls a]? =some ly)(hu:ls[b]? =some lu)(hv:ls[nx ls b]? =some lv)
  (cx:lx.isC=true) (cy:ly.isC=true) (cu:lu.isC=true) (cv:lv.isC=true) (hxy:lx.id≠ly.id) (huv:lu.id≠lv.id) (hab:a≠b) (h:cornR F ls 0 [a,b] a=true):gX lx= !gX ly:=by
 have ok:=g.ok;obtain⟨w,hw,_,hlen,hE⟩:=corner_walk g ha h;obtain⟨da,da1,da2,da3⟩:=hE a (by simp);obtain⟨db,db1,db2,db3⟩:=hE b (by simp);have hne:da≠db:=by omega
 have inD: ∀ d,d∈w→d<2*ls.length→d∈w.filter fun x=>decide (x<2*ls.length):=fun d h1 h2=>List.mem_filter.2 ⟨h1,by simpa using h2⟩
 have two: ∀ d,d∈w→d<2*ls.length→d=da∨d=db:=fun d h1 h2=>two_mem2 hlen (inD da da1 da2) (inD db db1 db2) hne (inD d h1 h2)
 have nin: ∀ d,d∈w→nxt ls d∈w:=fun d hd=>walksL_next (maps ok) hw hd
 have str: ∀ (v:Nat) (b:Bool),v<ls.length→alongD ls.length v b<2*ls.length:=fun v b hv=>by
  have:=arr_lt hv (!b);rw[← rv_along] at this;have:=rv_lt this;rwa[rv_rv] at this
 have oy:=other_lt ok hy cy;have ox:=other_lt ok hx cx;have ou:=other_lt ok hu cu;have ov:=other_lt ok hv cv
 -- where the walk goes on
 have na:(da=2*a∧nxt ls da=alongD ls.length (otherR ls (nx ls a)) (gX ly))∨(da=2*a+1∧nxt ls da=alongD ls.length (otherR ls a) (!gX lx)):=by
  rcases Nat.mod_two_eq_zero_or_one da with c|c
  ·have:da=2*a:=by omega
   exact .inl ⟨this,by rw[this];exact nxt_fw ha hy cy⟩
  ·have:da=2*a+1:=by omega
   exact .inr ⟨this,by rw[this];exact nxt_bw hx cx⟩
 have nb:(db=2*b∧nxt ls db=alongD ls.length (otherR ls (nx ls b)) (gX lv))∨(db=2*b+1∧nxt ls db=alongD ls.length (otherR ls b) (!gX lu)):=by
  rcases Nat.mod_two_eq_zero_or_one db with c|c
  ·have:db=2*b:=by omega
   exact .inl ⟨this,by rw[this];exact nxt_fw hb hv cv⟩
  ·have:db=2*b+1:=by omega
   exact .inr ⟨this,by rw[this];exact nxt_bw hu cu⟩
 have ta:nxt ls da=da∨nxt ls da=db:=two _ (nin _ da1) (by rcases na with ⟨_,e⟩|⟨_,e⟩<;>rw[e]<;>exact str _ _ (by assumption));have tb:nxt ls db=da∨nxt ls db=db:=two _ (nin _ db1) (by rcases nb with ⟨_,e⟩|⟨_,e⟩<;>rw[e]<;>exact str _ _ (by assumption));have ta':nxt ls da=db:=by
  rcases ta with e|e
  ·exfalso;rcases na with ⟨e1,e2⟩|⟨e1,e2⟩
   ·rw[e] at e2;rcases al_eq e2.symm with ⟨_,e3⟩|⟨_,e3⟩
    ·exact hxy (gX_other ok hy cy hx (by omega)).2.2
    ·omega
   ·rw[e] at e2;rcases al_eq e2.symm with ⟨_,e3⟩|⟨_,e3⟩
    ·omega
    ·exact hxy (gX_other ok hx cx hy (back_nx ox (by omega))).2.2.symm
  ·exact e
 have tb':nxt ls db=da:=by
  rcases tb with e|e
  ·exact e
  ·exfalso;rcases nb with ⟨e1,e2⟩|⟨e1,e2⟩
   ·rw[e] at e2;rcases al_eq e2.symm with ⟨_,e3⟩|⟨_,e3⟩
    ·exact huv (gX_other ok hv cv hu (by omega)).2.2
    ·omega
   ·rw[e] at e2;rcases al_eq e2.symm with ⟨_,e3⟩|⟨_,e3⟩
    ·omega
    ·exact huv (gX_other ok hu cu hv (back_nx ou (by omega))).2.2.symm
 rcases na with ⟨ea,e1⟩|⟨ea,e1⟩<;>rcases nb with ⟨eb,e2⟩|⟨eb,e2⟩<;>rw[ta'] at e1<;>rw[tb'] at e2
 ·rcases al_eq e1.symm with ⟨g1,e3⟩|⟨g1,e3⟩<;>rcases al_eq e2.symm with ⟨g2,e4⟩|⟨g2,e4⟩<;>try omega
  have:=(gX_other ok hv cv hx (by omega)).1;rw[this,g1,g2]
 ·rcases al_eq e1.symm with ⟨g1,e3⟩|⟨g1,e3⟩<;>rcases al_eq e2.symm with ⟨g2,e4⟩|⟨g2,e4⟩<;>try omega
  have:=(gX_other ok hu cu hx (by omega)).1;rw[this,g1,g2];rfl
 ·rcases al_eq e1.symm with ⟨g1,e3⟩|⟨g1,e3⟩<;>rcases al_eq e2.symm with ⟨g2,e4⟩|⟨g2,e4⟩<;>try omega
  have:=(gX_other ok hv cv hy (back_nx ov (by omega))).1;rw[this,g2];revert g1;cases gX lx<;>simp
 ·rcases al_eq e1.symm with ⟨g1,e3⟩|⟨g1,e3⟩<;>rcases al_eq e2.symm with ⟨g2,e4⟩|⟨g2,e4⟩<;>try omega
  have:=(gX_other ok hu cu hy (back_nx ou (by omega))).1;rw[this];revert g1 g2;cases gX lx<;>cases gX lu<;>simp
theorem third{x p w:EnT}(h1:Xr x p)(h2:Xr x w)(h3:Xr p w)(cx:x.k.isC=true)(cp:p.k.isC=true)(cw:w.k.isC=true)(e1:x.k.id=p.k.id):w.k.id≠x.k.id:=by
 intro e2;have a:=(h1 cx cp e1).ov;have b:=(h2 cx cw e2.symm).ov;have d:=(h3 cp cw (by rw[← e1,e2])).ov;rw[b] at a;rw[d] at a;revert a;cases w.k.over<;>simp
theorem rot_at{α:Type}{z:List α}{a j:Nat}(ha:a<z.length)(hj:j<z.length):(z.drop a++z.take a)[j]? =z[(a+j)%z.length]? :=by
 by_cases h:a+j<z.length
 ·rw[List.getElem?_append_left (by rw[List.length_drop];omega),List.getElem?_drop,Nat.mod_eq_of_lt h]
 ·rw[List.getElem?_append_right (by rw[List.length_drop];omega),List.length_drop,List.getElem?_take,if_pos (by omega),Nat.mod_eq_sub_mod (by omega),Nat.mod_eq_of_lt (by omega)];congr 1;omega
theorem split_two{α:Type}{r:List α}{j:Nat}{u v:α}(hu:r[j]? =some u)(hv:r[j+1]? =some v):r=r.take j++u::v::r.drop (j+2):=by
 obtain⟨h1,e1⟩:=List.getElem?_eq_some_iff.1 hu;obtain⟨h2,e2⟩:=List.getElem?_eq_some_iff.1 hv;have:r.drop j=u::v::r.drop (j+2):=by
  rw[← List.getElem_cons_drop h1,e1,← List.getElem_cons_drop h2,e2]
 rw[← this,List.take_append_drop]
end
theorem low2{p q w:Int}{l:Let}(hc:l.isC=true)(hw:l.id=w):(lowL [p,q] l).id=w - (if p<w then 1 else 0) - (if q<w then 1 else 0):=by
 rw[lowL_id hc,hw];by_cases c1:p<w<;>by_cases c2:q<w<;>simp[c1,c2]<;>omega
section
variable {F:Nat} {ls:List Let}
theorem cert6(g:Fine F ls){a b:Nat}(ha:a<ls.length)(hb:b<ls.length){L:List Pc}(h:pcR F ls a b=some L):Cert F L:=by
 obtain⟨x,y,r0,s,e,hx,hy,c,hp,hrot,hzx,hzy,hperm⟩:=zF_get g ha;have q:=c.q;have hzl:=zF_len ls;unfold pcR at h;split at h
 case isFalse=>cases h
 rename_i hc;simp only[Bool.and_eq_true,Bool.or_eq_true,beq_iff_eq,Bool.not_eq_true',beq_eq_false_iff_ne] at hc;obtain⟨hbo,hne,hids,hn1,hn2,hcor⟩:=hc;have pa:pA ls a=x.p:=pA_of hx;have pb:pA ls (nx ls a)=y.p:=pA_of hy;cases h
 have hnb:nx ls b<ls.length:=Nat.mod_lt _ (by omega);have hna:nx ls a<ls.length:=Nat.mod_lt _ (by omega);obtain⟨u,hzu⟩:=at_lt (ls:=zF ls) (k:=b) (by omega);obtain⟨v,hzv⟩:=at_lt (ls:=zF ls) (k:=nx ls b) (by omega);have pc:pA ls b=u.p:=pA_of (by rw[← zF_p,List.getElem?_map,hzu];rfl);have pd:pA ls (nx ls b)=v.p:=pA_of (by rw[← zF_p,List.getElem?_map,hzv];rfl);rw[pa,pb] at hne;rw[pa,pb,pc,pd] at hids
 -- they are visits, two over and two under
 have kinds:x.k.isC=true∧y.k.isC=true∧u.k.isC=true∧v.k.isC=true∧x.k.over=y.k.over∧u.k.over=v.k.over∧x.k.over≠u.k.over:=by
  have bo: ∀ e ov,boR ls e ov=true→(pA ls e).l.isC=true∧(pA ls (nx ls e)).l.isC=true∧(pA ls e).l.over=ov∧(pA ls (nx ls e)).l.over=ov:=fun e ov h=>by
   unfold boR at h;simp only[Bool.and_eq_true,beq_iff_eq] at h;obtain⟨h1,h2,h3,h4⟩:=h;exact⟨by unfold Let.isC;rw[h1];rfl,by unfold Let.isC;rw[h2];rfl,h3,h4⟩
  rcases hbo with ⟨h1,h2⟩|⟨h1,h2⟩<;>obtain⟨a1,a2,a3,a4⟩:=bo _ _ h1<;>obtain⟨b1,b2,b3,b4⟩:=bo _ _ h2
  all_goals
   rw[pa] at a1 a3;rw[pb] at a2 a4;rw[pc] at b1 b3;rw[pd] at b2 b4;refine⟨a1,a2,b1,b2,?_,?_,?_⟩
   ·show x.p.l.over=y.p.l.over;rw[a3,a4]
   ·show u.p.l.over=v.p.l.over;rw[b3,b4]
   ·show x.p.l.over≠u.p.l.over;rw[a3,b3];decide
 obtain⟨cx,cy,cu,cv,ov1,ov2,ov3⟩:=kinds;have hxy:x.k.id≠y.k.id:=hne;have hidc:(u.k.id=x.k.id∧v.k.id=y.k.id)∨(u.k.id=y.k.id∧v.k.id=x.k.id):=hids;have huv:u.k.id≠v.k.id:=by
  rcases hidc with ⟨h1,h2⟩|⟨h1,h2⟩
  ·rw[h1,h2];exact hxy
  ·rw[h1,h2];exact hxy.symm
 have hab:a≠b:=by
  rintro rfl
  rw[hzx] at hzu;cases hzu
  exact ov3 rfl
 have lx:ls[a]? =some x.k:=by have:=lsE_at hzx;rwa[zF_ls] at this
 have ly:ls[nx ls a]? =some y.k:=by have:=lsE_at hzy;rwa[zF_ls] at this
 have lu:ls[b]? =some u.k:=by have:=lsE_at hzu;rwa[zF_ls] at this
 have lv:ls[nx ls b]? =some v.k:=by have:=lsE_at hzv;rwa[zF_ls] at this
 have hg:=pair_corner g ha hb lx ly lu lv cx cy cu cv hxy huv hab hcor
 -- where the second edge stands, from the first one on
 obtain⟨j,hj1,hj2,hj3⟩: ∃ j,j+3<ls.length∧(a+(j+2))%ls.length=b∧(a+(j+3))%ls.length=nx ls b:=by
  have hnab:nx ls a≠b:=by
   intro e;rw[e,hzu] at hzy;cases hzy
   exact ov3 ov1
  have hnba:nx ls b≠a:=by
   intro e;rw[e,hzx] at hzv;cases hzv
   exact ov3 ov2.symm
  unfold nx at hnab hnba ⊢;by_cases c1:a<b
  ·have e1:(a+1)%ls.length=a+1:=Nat.mod_eq_of_lt (by omega);rw[e1] at hnab;have h2:b≠a+1:=fun h=>hnab h.symm
   have h3: ¬ (b+1=ls.length∧a=0):=fun⟨h3,h4⟩=>hnba (by rw[h3,Nat.mod_self,h4])
   refine⟨b - a - 2,by omega,?_,?_⟩
   ·rw[show a+(b - a - 2+2)=b by omega,Nat.mod_eq_of_lt hb]
   ·rw[show a+(b - a - 2+3)=b+1 by omega]
  ·have e1:(b+1)%ls.length=b+1:=Nat.mod_eq_of_lt (by omega);rw[e1] at hnba;have h3: ¬ (a+1=ls.length∧b=0):=fun⟨h3,h4⟩=>hnab (by rw[h3,Nat.mod_self,h4])
   refine⟨b+ls.length - a - 2,by omega,?_,?_⟩
   ·rw[show a+(b+ls.length - a - 2+2)=b+ls.length by omega,Nat.add_mod_right,Nat.mod_eq_of_lt hb]
   ·rw[show a+(b+ls.length - a - 2+3)=b+1+ls.length by omega,Nat.add_mod_right]
 have hru:r0[j]? =some u:=by
  have:=rot_at (z:=zF ls) (a:=a) (j:=j+2) (by omega) (by omega);rw[e,hzl,hj2,hzu] at this;exact this
 have hrv:r0[j+1]? =some v:=by
  have:=rot_at (z:=zF ls) (a:=a) (j:=j+3) (by omega) (by omega);rw[e,hzl,hj3,hzv] at this;exact this
 have hsp:=split_two hru hrv;obtain⟨c1,c2,hr0,hcl1,hcl2⟩: ∃ c1 c2,r0=c1++u::v::c2∧c1.length=j∧c2.length+j+4=ls.length:=by
  refine⟨_,_,hsp,?_,?_⟩
  ·have:=(List.getElem?_eq_some_iff.1 hru).1;rw[List.length_take];omega
  ·have h1:=(List.getElem?_eq_some_iff.1 hrv).1;have h2:=hperm.length_eq;rw[hzl] at h2;simp only[List.length_cons] at h2;rw[List.length_drop];omega
 subst hr0
 -- the two paths that are left
 obtain⟨hs1,hs2,hpr⟩:=hp;obtain⟨s2,hp1,hu1,hv1,hp2⟩:=path_app.1 hpr;have hj0:j≠0:=by
  rintro rfl
  exact hn1 hj2
 have hj9:c2≠[]:=by
  rintro rfl
  simp only[List.length_nil] at hcl2;refine hn2 ?_;rw[← hj2,Nat.mod_add_mod,show a+(j+2)+2=a+ls.length by omega,Nat.add_mod_right,Nat.mod_eq_of_lt ha]
 have hc1:c1≠[]:=by rintro rfl;simp at hcl1;omega
 have q4:Cq F ([x,y,u,v]++(c1++c2)) (TF ls) (BF ls):=by
  refine q.perm ?_;refine List.Perm.cons x (List.Perm.cons y ?_);exact List.perm_middle.trans (List.Perm.cons u List.perm_middle)
 obtain⟨w1,q5⟩:=List.pairwise_cons.1 q4.cr;obtain⟨w2,q6⟩:=List.pairwise_cons.1 q5;obtain⟨w3,q7⟩:=List.pairwise_cons.1 q6;obtain⟨w4,q8⟩:=List.pairwise_cons.1 q7;have rxu:Xr x u:=w1 u (by simp);have rxv:Xr x v:=w1 v (by simp);have ryu:Xr y u:=w2 u (by simp);have ryv:Xr y v:=w2 v (by simp);have third1: ∀ w∈c1++c2,w.k.isC=true→w.k.id≠x.k.id∧w.k.id≠y.k.id:=fun w hw cw=>by
  have a1:Xr x w:=w1 w (List.mem_append_right [y,u,v] hw);have a2:Xr y w:=w2 w (List.mem_append_right [u,v] hw);have a3:Xr u w:=w3 w (List.mem_append_right [v] hw);have a4:Xr v w:=w4 w hw;rcases hidc with ⟨h1,h2⟩|⟨h1,h2⟩
  ·exact⟨third rxu a1 a3 cx cu cw h1.symm,third ryv a2 a4 cy cv cw h2.symm⟩
  ·exact⟨third rxv a1 a4 cx cv cw h2.symm,third ryu a2 a3 cy cu cw h1.symm⟩
 have bx:=(q4.ok x (by simp)).cb cx;have by':=(q4.ok y (by simp)).cb cy
 have bu:=(q4.ok u (by simp)).cb cu;have bv:=(q4.ok v (by simp)).cb cv;rw[hs1] at bx;rw[hs2] at by'
 rw[hv1] at bv
 -- which names are merged, and which are lost
 obtain⟨mc,me,bg,m1,m2,m3⟩: ∃ mc me bg:Nat,y.o.mp (mrgN mc me)=s.mp (mrgN mc me)∧v.o.mp (mrgN mc me)=s2.mp (mrgN mc me)∧
   (∀ t,(t=x.o.l∨t=x.o.r)∨(t=y.o.l∨t=y.o.r)∨(t=u.o.l∨t=u.o.r)∨(t=v.o.l∨t=v.o.r)→t=mc∨t=bg∨(t=s.l∨t=s.r)∨(t=s2.l∨t=s2.r)):=by
  have hb1:y.o.b=s.b:=by rw[← by',← bx]
  have hb2:v.o.b=s2.b:=by rw[← bv,← bu,hu1]
  have fin: ∀ mc me,mrgN mc me y.o.l=mrgN mc me s.l→mrgN mc me y.o.r=mrgN mc me s.r→mrgN mc me v.o.l=mrgN mc me s2.l→mrgN mc me v.o.r=mrgN mc me s2.r→y.o.mp (mrgN mc me)=s.mp (mrgN mc me)∧v.o.mp (mrgN mc me)=s2.mp (mrgN mc me):=fun mc me k1 k2 k3 k4=>⟨SdE.ext' k1 k2 hb1,SdE.ext' k3 k4 hb2⟩
  rcases hidc with ⟨h1,h2⟩|⟨h1,h2⟩
  ·have p1:=(rxu cx cu h1.symm).x4;have p2:=(ryv cy cv h2.symm).x4;rw[hs1,hu1] at p1;rw[hs2,hv1] at p2;obtain⟨a1,a2,a3,a4⟩:=p1;obtain⟨b1,b2,b3,b4⟩:=p2;cases hgx:gX x.k
   ·have hgy:gX y.k=true:=by revert hg;rw[hgx];cases gX y.k<;>simp
    rw[hgx] at a1 a2 a3 a4;rw[hgy] at b1 b2 b3 b4;simp only[Bool.false_eq_true,if_false,if_true] at a1 a2 a3 a4 b1 b2 b3 b4;refine⟨y.o.l,s.l,x.o.r,?_⟩;have f:=fin y.o.l s.l (by rw[mrg_c,mrg_e]) (by rw[b2,a4]) (by rw[← b1,a3]) (by rw[b4,← a1,mrg_c,mrg_e]);refine⟨f.1,f.2,?_⟩;rintro t ((rfl|rfl)|(rfl|rfl)|(rfl|rfl)|(rfl|rfl))
    ·exact .inr (.inr (.inr (.inl a3.symm)))
    ·exact .inr (.inl rfl)
    ·exact .inl rfl
    ·exact .inr (.inr (.inl (.inr (b2.trans a4))))
    ·exact .inr (.inl a2.symm)
    ·exact .inr (.inr (.inl (.inr a4)))
    ·exact .inr (.inr (.inr (.inl (by rw[← b1,a3]))))
    ·exact .inl b4
   ·have hgy:gX y.k=false:=by revert hg;rw[hgx];cases gX y.k<;>simp
    rw[hgx] at a1 a2 a3 a4;rw[hgy] at b1 b2 b3 b4;simp only[Bool.false_eq_true,if_false,if_true] at a1 a2 a3 a4 b1 b2 b3 b4;refine⟨y.o.r,s.r,x.o.l,?_⟩;have f:=fin y.o.r s.r (by rw[← b3,a1]) (by rw[mrg_c,mrg_e]) (by rw[a3,← b2,mrg_c,mrg_e]) (by rw[b4,a2]);refine⟨f.1,f.2,?_⟩;rintro t ((rfl|rfl)|(rfl|rfl)|(rfl|rfl)|(rfl|rfl))
    ·exact .inr (.inl rfl)
    ·exact .inr (.inr (.inr (.inr a2)))
    ·exact .inr (.inr (.inl (.inl (by rw[← b3,a1]))))
    ·exact .inl rfl
    ·exact .inr (.inr (.inl (.inl a1.symm)))
    ·exact .inr (.inl a4)
    ·exact .inl b2.symm
    ·exact .inr (.inr (.inr (.inr (b4.trans a2))))
  ·have p1:=(rxv cx cv h2.symm).x4;have p2:=(ryu cy cu h1.symm).x4;rw[hs1,hv1] at p1;rw[hs2,hu1] at p2;obtain⟨a1,a2,a3,a4⟩:=p1;obtain⟨b1,b2,b3,b4⟩:=p2;cases hgx:gX x.k
   ·have hgy:gX y.k=true:=by revert hg;rw[hgx];cases gX y.k<;>simp
    rw[hgx] at a1 a2 a3 a4;rw[hgy] at b1 b2 b3 b4;simp only[Bool.false_eq_true,if_false,if_true] at a1 a2 a3 a4 b1 b2 b3 b4;refine⟨y.o.r,s.r,x.o.l,?_⟩;have f:=fin y.o.r s.r (by rw[a1,← b4]) (by rw[mrg_c,mrg_e]) (by rw[← a2,b3]) (by rw[a4,← b2,mrg_c,mrg_e]);refine⟨f.1,f.2,?_⟩;rintro t ((rfl|rfl)|(rfl|rfl)|(rfl|rfl)|(rfl|rfl))
    ·exact .inr (.inl rfl)
    ·exact .inr (.inr (.inr (.inl b3.symm)))
    ·exact .inr (.inr (.inl (.inl (by rw[a1,← b4]))))
    ·exact .inl rfl
    ·exact .inr (.inl b1.symm)
    ·exact .inr (.inr (.inl (.inl (by rw[a1]))))
    ·exact .inr (.inr (.inr (.inl (by rw[← a2,b3]))))
    ·exact .inr (.inr (.inl (.inr a4)))
   ·have hgy:gX y.k=false:=by revert hg;rw[hgx];cases gX y.k<;>simp
    rw[hgx] at a1 a2 a3 a4;rw[hgy] at b1 b2 b3 b4;simp only[Bool.false_eq_true,if_false,if_true] at a1 a2 a3 a4 b1 b2 b3 b4;refine⟨y.o.l,s.l,x.o.r,?_⟩;have f:=fin y.o.l s.l (by rw[mrg_c,mrg_e]) (by rw[b2,a3]) (by rw[← a1,b3,mrg_c,mrg_e]) (by rw[a4,b1]);refine⟨f.1,f.2,?_⟩;rintro t ((rfl|rfl)|(rfl|rfl)|(rfl|rfl)|(rfl|rfl))
    ·exact .inr (.inr (.inr (.inr b1)))
    ·exact .inr (.inl rfl)
    ·exact .inl rfl
    ·exact .inr (.inr (.inl (.inr (by rw[b2,a3]))))
    ·exact .inr (.inr (.inl (.inr a3)))
    ·exact .inr (.inl b4)
    ·exact .inr (.inr (.inl (.inl a1.symm)))
    ·exact .inr (.inr (.inr (.inr (a4.trans b1))))
 have hcC: ∀ z:List EnT,cnt Let.isC (lsE ([x,y,u,v]++z))=cnt Let.isC (lsE z)+4:=fun z=>by
  rw[cnt_app,cnt_cons,cnt_cons,cnt_cons,cnt_cons,cnt_nil,(ifC cx).1,(ifC cy).1,(ifC cu).1,(ifC cv).1];omega
 have hcP: ∀ z:List EnT,cnt Let.isP (lsE ([x,y,u,v]++z))=cnt Let.isP (lsE z):=fun z=>by
  rw[cnt_app,cnt_cons,cnt_cons,cnt_cons,cnt_cons,cnt_nil,(ifC cx).2,(ifC cy).2,(ifC cu).2,(ifC cv).2];omega
 have hcG: ∀ (z:List EnT) k,cg (lsE ([x,y,u,v]++z)) k=cg (lsE z) k:=fun z k=>by
  show cnt _ _=cnt _ _;rw[cnt_app,cnt_cons,cnt_cons,cnt_cons,cnt_cons,cnt_nil,atG_C k cx,atG_C k cy,atG_C k cu,atG_C k cv];simp
 have hP4:([x,y,u,v]++(c1++c2)).Perm (zF ls):=by
  refine List.Perm.trans (List.Perm.symm ?_) hperm;refine List.Perm.cons x (List.Perm.cons y ?_);exact List.perm_middle.trans (List.Perm.cons u List.perm_middle)
 have h2:cnt Let.isC (lsE ([x,y,u,v]++(c1++c2)))=cnt Let.isC ls:=by rw[cnt_perm hP4,zF_ls]
 have h3:cnt Let.isP (lsE ([x,y,u,v]++(c1++c2)))=cnt Let.isP ls:=by rw[cnt_perm hP4,zF_ls]
 have hev:=q4.ev
 let ψ:=mrgN mc me
 let hL:=lowL [x.k.id,y.k.id]
 let r:=c1++c2
 have mC:cnt Let.isC (lsE (r.map (EnT.mp ψ hL)))=cnt Let.isC (lsE r):=cnt_mp (fun l=>(lowL_same _).isC l) r;have mP:cnt Let.isP (lsE (r.map (EnT.mp ψ hL)))=cnt Let.isP (lsE r):=cnt_mp (fun l=>(lowL_same _).isP l) r;have mG: ∀ k,cg (lsE (r.map (EnT.mp ψ hL))) k=cg (lsE r) k:=fun k=>cnt_mp (fun l=>lowL_atG _ k l) r
 have hidr: ∀ w∈[x,y,u,v]++r,w.k.isC=true→1≤w.k.id∧w.k.id≤((cnt Let.isC (lsE r)/2:Nat):Int)+2:=fun w hw hc=>by
  have:=q4.ids w hw hc;rw[hcC] at this;show 1≤w.k.id∧w.k.id≤((cnt Let.isC (lsE (c1++c2))/2:Nat):Int)+2;omega
 have idx:=hidr x (by simp) cx;have idy:=hidr y (by simp) cy;have inr: ∀ w∈r,w∈[x,y,u,v]++r:=fun w hw=>List.mem_append_right _ hw
 have qn:Cq F ([]++r.map (EnT.mp ψ hL)) (fun G k=>ψ (TF ls G k)) (fun G k=>ψ (BF ls G k)):=by
  refine Cq.edit (X:=[x,y,u,v]) (r:=r) q4 (lowL_same _) (fun w hw=>lowL_bad (q4.ok w (inr w hw)).bad) (fun p hp o ho cp co e=> ?_) (fun p hp o ho pp po e1 e2=> ?_) (fun _ h=>by cases h) List.Pairwise.nil List.Pairwise.nil (fun _ h=>by cases h) (fun _ h=>by cases h) ?_ (fun _ h=>by cases h) (fun p hp cp=> ?_) (fun _ h=>by cases h) (fun p hp pp=> ?_) (fun _ h=>by cases h) (fun p hp pp=> ?_) (fun k hk=> ?_) ?_
  ·obtain⟨n1,n2⟩:=third1 p hp cp;obtain⟨n3,n4⟩:=third1 o ho co;rw[low2 cp rfl,low2 co rfl] at e;split at e<;>split at e<;>split at e<;>split at e<;>omega
  ·have e1:(lowL [x.k.id,y.k.id] p.k).gate=(lowL [x.k.id,y.k.id] o.k).gate:=e1;have e2:(lowL [x.k.id,y.k.id] p.k).rank=(lowL [x.k.id,y.k.id] o.k).rank:=e2;rw[lowL_P pp,lowL_P po] at e1 e2;exact⟨e1,e2⟩
  ·rw[List.nil_append,mC];rw[hcC] at hev;show cnt Let.isC (lsE (c1++c2))%2=0;omega
  ·rw[List.nil_append,mC];show 1≤(lowL [x.k.id,y.k.id] p.k).id∧(lowL [x.k.id,y.k.id] p.k).id≤_;rw[low2 cp rfl];have h1:=hidr p (inr p hp) cp;obtain⟨n1,n2⟩:=third1 p hp cp;have hxy':=hxy;split<;>split<;>omega
  ·rw[List.nil_append,mG];show 1≤(lowL [x.k.id,y.k.id] p.k).rank∧(lowL [x.k.id,y.k.id] p.k).rank≤((cg (lsE r) (lowL [x.k.id,y.k.id] p.k).gate.toNat:Nat):Int);rw[lowL_P pp,← hcG r];exact q4.rr p (inr p hp) pp
  ·show(ψ _=ψ (TF ls (lowL [x.k.id,y.k.id] p.k).gate.toNat ((lowL [x.k.id,y.k.id] p.k).rank.toNat - 1))∧ψ _=ψ (BF ls (lowL [x.k.id,y.k.id] p.k).gate.toNat ((lowL [x.k.id,y.k.id] p.k).rank.toNat - 1)))∧ψ _=ψ (TF ls (lowL [x.k.id,y.k.id] p.k).gate.toNat (lowL [x.k.id,y.k.id] p.k).rank.toNat)∧ψ _=ψ (BF ls (lowL [x.k.id,y.k.id] p.k).gate.toNat (lowL [x.k.id,y.k.id] p.k).rank.toNat);rw[lowL_P pp];exact⟨⟨rfl,rfl⟩,rfl,rfl⟩
  ·rw[List.nil_append,mG,← hcG r];obtain⟨t1,t2⟩:=q4.gt k hk;exact⟨congrArg ψ t1,congrArg ψ t2⟩
  ·rw[List.nil_append,mG,← hcG r];obtain⟨t1,t2⟩:=q4.gz;exact⟨congrArg ψ t1,congrArg ψ t2⟩
 have hdone:Cert F (r.map fun w=>lowP [x.k.id,y.k.id] w.p):=by
  refine Cq.done (X:=[x,y,u,v]) (r:=r) (X':=[]) (L:=[mc,bg]) (N:=[]) (V:=nWalks ls) (z':=r.map (EnT.mp ψ hL)) qn List.nodup_range (fun t ht=> ?_) (List.Perm.refl _) ⟨s.mp ψ,?_⟩ ?_ ?_ (fun t _ ht=>mrg_n fun e=>ht (by simp[e])) (fun w hw t ht ew hL'=> ?_) List.nodup_nil (fun t ht=>by cases ht) (fun t ht=>by cases ht) (by rw[List.length_range];exact Nat.le_refl _) ?_
  ·obtain⟨w,hw,ew⟩:=c.wit t ht;refine⟨w,?_,ew⟩;have:w∈zF ls:=hperm.mem_iff.1 hw;exact hP4.mem_iff.2 this
  ·have e1:=path_mp (ψ:=ψ) (h:=hL) hp1;have e2:=path_mp (ψ:=ψ) (h:=hL) hp2;rw[show y.o.mp ψ=s.mp ψ from m1] at e1;rw[show v.o.mp ψ=s2.mp ψ from m2] at e2;show PathE (s.mp ψ) ((c1++c2).map (EnT.mp ψ hL)) (s.mp ψ);rw[List.map_append];exact path_app.2 ⟨_,e1,e2⟩
  ·rw[List.map_map];refine List.map_congr_left fun w _=> ?_
   rw[lowP_L];rfl
  ·obtain⟨w,hw,hwp⟩:=c.one;have hw':w∈[x,y,u,v]++r:=hP4.mem_iff.2 (hperm.mem_iff.1 hw);rcases List.mem_append.1 hw' with h|h
   ·exfalso;simp only[List.mem_cons,List.not_mem_nil,or_false] at h;rcases h with rfl|rfl|rfl|rfl
    ·rw[isP_notC cx] at hwp;cases hwp
    ·rw[isP_notC cy] at hwp;cases hwp
    ·rw[isP_notC cu] at hwp;cases hwp
    ·rw[isP_notC cv] at hwp;cases hwp
   ·refine⟨w.mp ψ hL,by rw[List.nil_append];exact List.mem_map.2 ⟨w,h,rfl⟩,?_⟩;show(lowL [x.k.id,y.k.id] w.k).isP=true;rw[(lowL_same _).isP];exact hwp
  ·simp only[List.mem_cons,List.not_mem_nil,or_false,not_or] at hw hL';have key:=m3 t (by
    rcases hw with rfl|rfl|rfl|rfl
    ·exact .inl ew
    ·exact .inr (.inl ew)
    ·exact .inr (.inr (.inl ew))
    ·exact .inr (.inr (.inr ew)))
   have hψ:ψ t=t:=mrg_n hL'.1;have put: ∀ d∈r,(t=d.o.l∨t=d.o.r)→ ∃ y'∈[]++r.map (EnT.mp ψ hL),t=y'.o.l∨t=y'.o.r:=fun d hd h=>by
    refine⟨d.mp ψ hL,by rw[List.nil_append];exact List.mem_map.2 ⟨d,hd,rfl⟩,?_⟩;rcases h with h|h
    ·left;show t=ψ d.o.l;rw[← h,hψ]
    ·right;show t=ψ d.o.r;rw[← h,hψ]
   rcases key with h|h|h|h
   ·exact absurd h hL'.1
   ·exact absurd h hL'.2
   ·obtain⟨d,hd,ed⟩:=path_lastm hp2 hj9;exact put d (List.mem_append_right _ hd) (by rw[ed];exact h)
   ·obtain⟨d,hd,ed⟩:=path_lastm hp1 hc1;exact put d (List.mem_append_left _ hd) (by rw[ed];exact h)
  ·rw[List.nil_append,mC,mP];have h1:=g.nw;rw[hcC] at h2;rw[hcP] at h3;show cnt Let.isP (lsE (c1++c2))+cnt Let.isC (lsE (c1++c2))/2+1+2≤_;simp only[List.length_nil];omega
 rw[pa,pb];show Cert F ((keepL (pieces ls) (dropI [x.k.id,y.k.id])).map (lowP [x.k.id,y.k.id]));rw[keep_filter (l:=pieces ls) (drop:=dropI [x.k.id,y.k.id]) (d:=fun p=>(p.l.kind==2)&&[x.k.id,y.k.id].contains p.l.id) fun _ _=>rfl];refine drop_rot (a:=a) ?_;rw[hrot];have hkx:(x.p.l.kind==2)=true:=cx;have hky:(y.p.l.kind==2)=true:=cy;have hku:(u.p.l.kind==2)=true:=cu;have hkv:(v.p.l.kind==2)=true:=cv;have hkeep: ∀ d∈r,(fun p:Pc=> !((p.l.kind==2)&&[x.k.id,y.k.id].contains p.l.id)) d.p=true:=fun d hd=>by
  show(!((d.p.l.kind==2)&&_))=true;cases hk:(d.p.l.kind==2)
  ·rfl
  ·obtain⟨n1,n2⟩:=third1 d hd hk;simp[n1,n2]
 have hgone: ∀ (d:EnT) (t:List Pc),(d.p.l.kind==2)=true→(d.k.id=x.k.id∨d.k.id=y.k.id)→(d.p::t).filter (fun p=> !((p.l.kind==2)&&[x.k.id,y.k.id].contains p.l.id))=t.filter (fun p=> !((p.l.kind==2)&&[x.k.id,y.k.id].contains p.l.id)):=fun d t hd h=>by
  refine List.filter_cons_of_neg ?_;rcases h with h|h
  ·have h:d.p.l.id=x.k.id:=h;simp[h,hd]
  ·have h:d.p.l.id=y.k.id:=h;simp[h,hd]
 have hf:((x::y::(c1++u::v::c2)).map EnT.p).filter (fun p=> !((p.l.kind==2)&&[x.k.id,y.k.id].contains p.l.id))=r.map EnT.p:=by
  rw[List.map_cons,List.map_cons,hgone x _ hkx (.inl rfl),hgone y _ hky (.inr rfl),List.map_append,List.filter_append,List.map_cons,List.map_cons,
   hgone u _ hku (hidc.imp (fun h=>h.1) fun h=>h.1),hgone v _ hkv (hidc.symm.imp (fun h=>h.2) fun h=>h.2)]
  rw[← List.filter_append,← List.map_append];refine filter_all fun p hp=> ?_
  obtain⟨d,hd,rfl⟩:=List.mem_map.1 hp;exact hkeep d hd
 rw[hf,List.map_map];exact hdone
end
def kindT(q:Pc→Bool):Prop:= ∀ p p':Pc,p.l.kind=p'.l.kind→q p=q p'
def k146(k:Int):Prop:=k=1∨k=4∨k=6
theorem keepL_cnt{q:Pc→Bool}(l:List Pc)(drop:Nat→Pc→Bool):(keepL l drop).countP q≤l.countP q:=by
 have key: ∀ k,k≤l.length→(keepK l drop k).countP q≤(l.take k).countP q:=by
  intro k
  induction k with
  |zero=>intro _;exact Nat.le_refl _
  |succ k ih=>
   intro hk;obtain⟨p,hp⟩:=at_lt (ls:=l) (k:=k) (by omega);have:=ih (by omega);rw[List.take_add_one,hp,List.countP_append];cases hd:drop k p
   ·rw[keepK_keep hp hd,List.countP_append];exact Nat.add_le_add_right this _
   ·rw[keepK_drop hp hd];omega
 have:=key l.length (Nat.le_refl _);rwa[List.take_length] at this
theorem map_cnt{q:Pc→Bool}(hq:kindT q){f:Pc→Pc}(hf: ∀ p,(f p).l.kind=p.l.kind)(l:List Pc):(l.map f).countP q=l.countP q:=by
 rw[List.countP_map];exact List.countP_congr fun p _=>by rw[Function.comp_apply,hq _ _ (hf p)]
theorem shP_kind(g ab b:Int)(p:Pc):(shP g ab b p).l.kind=p.l.kind:=by unfold shP;split<;>rfl
theorem lowP_kind(ids:List Int)(p:Pc):(lowP ids p).l.kind=p.l.kind:=by unfold lowP;split<;>rfl
section
variable {F:Nat} {ls:List Let}
theorem pcl_cnt(p:Let→Bool):cnt p ((pieces ls).map Pc.l)=cnt p ls:=by
 have:(pieces ls).map Pc.l=ls:=by
  have h:=zF_ls ls;rw[← h];have e:lsE (zF ls)=((zF ls).map EnT.p).map Pc.l:=by rw[List.map_map];rfl
  rw[h,← zF_p,← e,h]
 rw[this]
theorem moveR_cnt3{q:Pc→Bool}(hq:kindT q){k:Int}(hk:k146 k){a b c:Nat}{l o:Bool}{sg:Int}{L:List Pc}(h:moveR F ls k a b c l o sg=some L):L.countP q≤(pieces ls).countP q:=by
 rcases hk with rfl|rfl|rfl
 ·have h:acR ls a=some L:=h;unfold acR at h;simp only at h;split at h
  ·cases h
   show(List.map _ _).countP q≤_;rw[map_cnt hq (shP_kind _ _ _)];exact keepL_cnt (q:=q) (pieces ls) _
  ·cases h
 ·have h:lcR ls a=some L:=h;unfold lcR at h;simp only at h;split at h
  ·cases h
   show(List.map _ _).countP q≤_;rw[map_cnt hq (lowP_kind _)];exact keepL_cnt (q:=q) (pieces ls) _
  ·cases h
 ·have h:pcR F ls a b=some L:=h;unfold pcR at h;split at h
  ·cases h
   show(List.map _ _).countP q≤_;rw[map_cnt hq (lowP_kind _)];exact keepL_cnt (q:=q) (pieces ls) _
  ·cases h
theorem do3(g:Fine F ls){k:Int}(hk:k146 k)(a b c:Int)(l o:Bool)(sg:Int):PEv S 50 [.one (.p (brdV F ls)),mvV k a b c l o sg] (appR F ls k a b c l o sg):=by
 have pa:=arg_p (F:=F) (ls:=ls) (a:=a) (b:=b) (c:=c) (l:=l) (o:=o) (sg:=sg) k;have hlen:=g.len;have hcr:=g.cr;unfold appR;cases hA:argB F ls k a b c l o sg with
 |false=>
  rw[hA] at pa;exact do_arg pa
 |true=>
  rw[hA] at pa;rw[if_pos rfl];have hL: ∀ L,moveR F ls k a.toNat b.toNat c.toNat l o sg=some L→L.length≤1000000:=fun L h=>by have:=moveR_len h;omega
  have ne:=g.ne;have hnl: ¬ ls.length=0:=by
   have:=List.length_pos_iff.2 ne;omega
  unfold argB at hA;by_cases h1:k=1
  ·subst h1;simp only[Int.reduceEq,if_true,if_false,or_false,or_self] at hA;simp only[Bool.and_eq_true,Bool.not_eq_true',beq_iff_eq] at hA;obtain⟨rfl,rfl,rfl,hx,rfl,rfl⟩:=hA;obtain⟨av,rfl,ha⟩:=isI_nat hx;simp only[Int.toNat_natCast] at hL ⊢;exact do_g hlen hcr (k:=1) rfl (by decide) (by kernel_rfl) pa (axisCut_p g ha) hL
  by_cases h4:k=4
  ·subst h4;simp only[Int.reduceEq,if_true,if_false,or_false,or_true,or_self] at hA;simp only[Bool.and_eq_true,Bool.not_eq_true',beq_iff_eq] at hA;obtain⟨rfl,rfl,rfl,hx,rfl,rfl⟩:=hA;obtain⟨av,rfl,ha⟩:=isI_nat hx;simp only[Int.toNat_natCast] at hL ⊢;exact do_g hlen hcr (k:=4) rfl (by decide) (by kernel_rfl) pa (loopCut_p g ha) hL
  by_cases h6:k=6
  ·subst h6;simp only[Int.reduceEq,if_true,if_false,or_true,or_self] at hA;simp only[Bool.and_eq_true,Bool.not_eq_true',beq_iff_eq,decide_eq_true_eq] at hA;obtain⟨rfl,rfl,rfl,hx,rfl,hy,hlt⟩:=hA;obtain⟨av,rfl,ha⟩:=isI_nat hx;obtain⟨bv,rfl,hb⟩:=isI_nat hy;simp only[Int.toNat_natCast] at hL ⊢;exact do_g hlen hcr (k:=6) rfl (by decide) (by kernel_rfl) pa (pairCut_p g ha hb) hL
  ·exact absurd hk (by rintro (h|h|h)<;>contradiction)
theorem apply3(g:Fine F ls){k:Int}(hk:k146 k)(a b c:Int)(l o:Bool)(sg:Int):PEv S 30 [codeV F ls,mvV k a b c l o sg] (appR F ls k a b c l o sg):=apply_gen (open_p g) (do3 g hk a b c l o sg) appR_form
theorem app3(g:Fine F ls){k:Int}(hk:k146 k)(a b c:Int)(l o:Bool)(sg:Int):(∃ e,e≠0∧appR F ls k a b c l o sg=rcode e)∨ ∃ M,appR F ls k a b c l o sg=rokc F M∧checkR F M=0∧argB F ls k a b c l o sg=true∧ ∃ L,moveR F ls k a.toNat b.toNat c.toNat l o sg=some L∧M=finL L:=by
 unfold appR;cases hA:argB F ls k a b c l o sg
 ·exact .inl ⟨2,by decide,rfl⟩
 rw[if_pos rfl];cases hm:moveR F ls k a.toNat b.toNat c.toNat l o sg with
 |none=>exact .inl ⟨4,by decide,rfl⟩
 |some L=>
  unfold doR;by_cases hgr:(400:Int)<(ls.length:Int)+(growsR k).1∨(100:Int)<((cnt Let.isC ls/2:Nat):Int)+(growsR k).2
  ·exact .inl ⟨7,by decide,if_pos hgr⟩
  refine .inr ⟨finL L,if_neg hgr,?_,rfl,L,rfl,rfl⟩;have hlen:=g.len;have hcr:=g.cr;have hF:=g.fing;have ne:=g.ne;have hnl: ¬ ls.length=0:=by
   have:=List.length_pos_iff.2 ne;omega
  have hev:cnt Let.isC ls%2=0:=by
   have:=g.cz.ev;rwa[zF_ls] at this
  have hpl:=pieces_len ls;have kT:kindT (fun _=>true):=fun _ _ _=>rfl
  have kC:kindT (fun p=>p.l.isC):=fun p p' h=>by show(p.l.kind==2)=(p'.l.kind==2);rw[h]
  have pC:(pieces ls).countP (fun p=>p.l.isC)=cnt Let.isC ls:=by
   rw[← pcl_cnt (ls:=ls) Let.isC];show _=List.countP _ (List.map _ _);rw[List.countP_map];rfl
  have lC:cnt Let.isC (L.map Pc.l)=L.countP (fun p=>p.l.isC):=by
   show List.countP _ (List.map _ _)=_;rw[List.countP_map];rfl
  have tT: ∀ l:List Pc,l.countP (fun _=>true)=l.length:=fun l=>by simp
  have fin:L=[]∨Cert F L→checkR F (finL L)=0:=by
   intro hc;have c1:=moveR_cnt3 kT hk hm;have c2:=moveR_cnt3 kC hk hm;rw[tT,tT,hpl] at c1;rw[pC] at c2;rcases hc with rfl|hc
   ·unfold checkR;have:finL []=[]:=rfl;rw[this];rw[if_neg (by simp[cnt]),if_neg (by omega),if_pos rfl]
   ·exact hc.check (by omega) (by rw[lC];omega) hF
  unfold argB at hA;by_cases h1:k=1
  ·subst h1;simp only[Int.reduceEq,if_true,if_false,or_false,or_self] at hA;simp only[Bool.and_eq_true,Bool.not_eq_true',beq_iff_eq] at hA;obtain⟨rfl,rfl,rfl,hx,rfl,rfl⟩:=hA;obtain⟨av,rfl,ha⟩:=isI_nat hx;exact fin (cert1 g ha (by simpa [moveR] using hm))
  by_cases h4:k=4
  ·subst h4;simp only[Int.reduceEq,if_true,if_false,or_false,or_true,or_self] at hA;simp only[Bool.and_eq_true,Bool.not_eq_true',beq_iff_eq] at hA;obtain⟨rfl,rfl,rfl,hx,rfl,rfl⟩:=hA;obtain⟨av,rfl,ha⟩:=isI_nat hx;exact fin (.inr (cert4 g ha (by simpa [moveR] using hm)))
  by_cases h6:k=6
  ·subst h6;simp only[Int.reduceEq,if_true,if_false,or_true,or_self] at hA;simp only[Bool.and_eq_true,Bool.not_eq_true',beq_iff_eq,decide_eq_true_eq] at hA;obtain⟨rfl,rfl,rfl,hx,rfl,hy,hlt⟩:=hA;obtain⟨av,rfl,ha⟩:=isI_nat hx;obtain⟨bv,rfl,hb⟩:=isI_nat hy;exact fin (.inr (cert6 g ha hb (by simpa [moveR] using hm)))
  ·exact absurd hk (by rintro (h|h|h)<;>contradiction)
end
end Go.Abs
