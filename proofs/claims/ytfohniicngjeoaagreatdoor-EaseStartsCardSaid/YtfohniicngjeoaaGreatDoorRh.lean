/- A part. -/
import Derived.Test.YtfohniicngjeoaaGreatDoorRg
set_option linter.all false
set_option maxRecDepth 100000
set_option maxHeartbeats 16000000
namespace Go.Abs
section
variable{F:Nat}
def VZ(F:Nat)(L:List Let)(q:List bd×List Let):Prop:=Bz F L q.1 q.2/\Jf F q.2/\ ∃r,V0 F L q.1 q.2 r/\aI S 25 [dX F L] r
open Classical in
noncomputable def fX (F:Nat) (L:List Let):List bd×List Let:=if h:∃q,VZ F L q then Classical.choose h else ([],[])
theorem Qb{L:List Let}(h:cU (F:Int) L=0):VZ F L (fX F L):=by
 have he:∃q,VZ F L q:=by obtain⟨r,⟨ms,M,h1,h2,h3⟩,h4⟩:=api h (Dv h);exact⟨(ms,M),h1,h2,r,h3,h4⟩
 unfold fX;rw[dif_pos he];exact Classical.choose_spec he
theorem aph{L:List Let}(h:cU (F:Int) L=0):(fX F L).2.length<=L.length/\((zx F L).2=true->(fX F L).2.length<L.length):=by
 obtain⟨h1,h2,_⟩:=Qb h;have hl:=h1.len;refine⟨aa,fun hr=>?_⟩;obtain⟨_,h4,_⟩:=aeo h;have h5:=(h4 hr).2;have aH:(fX F L).1≠[]:=fun e=>by have vg:=h1.rep;rw[e] at vg;have vg:some L=some (fX F L).2:=vg;have hLM:=qZ vg;rw[<- hLM] at h2;exact h5 h2
 have:=iX.2 aH;omega
theorem agk{limit:Nat}{a:cN}:∀ {ms:List bd} {st:List cN},(kG F limit a st ms).1=2->∃x,(kG F limit a st ms).2.getLast?=some x/\(zx F x.c).2=true:=by
 intro ms
 induction ms with
 |nil=>intro st h;cases h
 |cons m r ih=>
  intro st h;rw[QZ] at h ⊢;by_cases e:(pR F limit a st m).1=0
  .rw[if_pos e] at h ⊢;exact ih h
  rw[if_neg e] at h ⊢;unfold pR at h ⊢;split at h
  .cases h
  rename_i h1;rw[if_neg h1];split at h
  .cases h
  rename_i h2;rw[if_neg h2];dsimp only at h ⊢;split at h
  .rename_i h3;exact⟨_,List.getLast?_concat,h3⟩
  cases h
theorem ahl{limit:Nat}:∀ {f k:Nat} {st:List cN},(zP F limit f k st).1=2->∃x,(zP F limit f k st).2.getLast?=some x/\(zx F x.c).2=true:=by
 intro f
 induction f with
 |zero=>intro k st h;cases h
 |succ f ih=>
  intro k st h;cases hs:st[k]? with
  |none=>rw[Ri hs] at h;cases h
  |some a=>
   rw[NO hs] at h ⊢;by_cases e:(kG F limit a st (qo F a.c)).1=0
   .rw[if_pos e] at h ⊢;exact ih h
   rw[if_neg e] at h ⊢;exact agk h
def vm(l:List cN):cN:=l.getLast?.getD ⟨[],[],[]⟩
noncomputable def th (F:Nat) (l:List cN):cN:=(l[(uF F (l.map cN.n) l.length).toNat]?).getD ⟨[],[],[]⟩
noncomputable def AY (F limit:Nat):Nat->List Let->List bd->List Let×List bd×Bool
 |0,_,_=>([],[],false)
 |f+1,a,p=>if (iz F limit (fX F a).2).1=2 then AY F limit f (vm (iz F limit (fX F a).2).2).c (p++(fX F a).1++(vm (iz F limit (fX F a).2).2).w)
  else ((th F (iz F limit (fX F a).2).2).n,p++(fX F a).1++(th F (iz F limit (fX F a).2).2).w,(iz F limit (fX F a).2).1==0)
noncomputable def zk (F limit:Nat) (ls:List Let):List Let×List bd×Bool:=AY F limit (ls.length+2) (fB ls) []
theorem aet:∀ {a b:List bd} {L K:List Let},vu F L a=some K->vu F L (a++b)=vu F K b:=by
 intro a
 induction a with
 |nil=>intro b L K h;cases h;rfl
 |cons m r ih=>
  intro b L K h;show(match sk F L m with|none=>none|some L=>vu F L (r++b))=_;have h:(match sk F L m with|none=>none|some L=>vu F L r)=some K:=h;cases ha:sk F L m with
  |none=>rw[ha] at h;cases h
  |some J=>rw[ha] at h;exact ih h
structure sa (F:Nat) (N:List Let) (b:Nat) (a:List Let) (p:List bd):Prop where
 chk:cU (F:Int) a=0
 rep:vu F N p=some a
 kind:∀m∈p,k5 m.k
 len:p.length+a.length<=N.length+b
theorem sa.red{N a:List Let}{b:Nat}{p:List bd}(h:sa F N b a p):sa F N b (fX F a).2 (p++(fX F a).1):=by
 obtain⟨r,_,_⟩:=Qb h.chk;refine⟨r.chk,by rw[aet h.rep];exact r.rep,fun m hm=>?_,?_⟩
 .rcases fg.1 hm with h1|h1
  .exact h.kind m h1
  have:=r.kind m h1;simp only[cP,jz,or_false] at this;unfold k5;omega
 have:=r.len;have:=h.len;rw[gh];omega
theorem sa.mem{N a:List Let}{b n:Nat}{p:List bd}{m:cN}(h:sa F N b a p)(hm:vI F a n m):sa F N (b+n) m.c (p++m.w):=by
 refine⟨hm.chk,by rw[aet h.rep];exact hm.rep,fun x hx=>?_,?_⟩
 .rcases fg.1 hx with h1|h1
  .exact h.kind x h1
  have:=hm.kind x h1;simp only[cP,jz,or_false] at this;unfold k5;omega
 have:=hm.len;have:=hm.same;have:=h.len;rw[gh];omega
end
end Go.Abs
namespace Go.Abs
section
variable{st:List cN}{F limit:Nat}
theorem PJ{s o:Nat}(h:mw s)(e:jo o=8):¬s=o:=by
 rintro rfl
 unfold mw at h;rw[e] at h;revert h;decide
theorem VI{s:Nat}(h:mw s):¬s=512000000/\ ¬s=512000064/\ ¬s=512256320/\ ¬s=512320000/\ ¬s=512384320/\ ¬s=512448192/\ ¬s=512512000/\ ¬s=512640384/\ ¬s=512832256/\ ¬s=513088128/\ ¬s=513152192/\ ¬s=513152256/\ ¬s=513280320/\ ¬s=513344384:=by
 repeat' apply And.intro
 all_goals exact PJ h rfl
abbrev MI(F:Nat)(x:List Let×List bd×Bool):RV:=.tup [.agg [.p (.int .i64 F),.p (cF x.1),aT gC 7 (mP x.2.1),.p (.bool x.2.2)],.one (.p (.int .i64 0))]
theorem anY{s1 t1 z1:Nat}{es:List (List PV)}{c:C}{x y w u:PV}{aj:aA}(h:grown s1 t1 z1 es (.one c) aj):iU aj (.tup [.agg [.p x,.p y,c,.p w],.one (.p u)])=some (.tup [.agg [.p x,.p y,aT t1 z1 es,.p w],.one (.p u)]):=by obtain⟨c',o,hc,h2,h3⟩:=h.ke;cases hc;have e1:∀v:PV,ke aj (.p v)=some (.p v,[],[]):=fun _=>rfl;rcases h3 with rfl|rfl<;>simp[iU,tA,uX,nT,mT,h2,e1,apart,vv,sX,A9]
structure MkC (F:Nat) (st:List cN) (p:List bd) (wh:Bool) (s g:Nat) (ak:Env) (aj:aA):Prop where
 e4:ak 4=.one (.aY 512000064 1 0)
 e9:ak 9=.one (.aY 512320000 1 0)
 FA:ak 13=.one (.hsl s g 5 0 st.length)
 FB:ak 14=vb wh
 w7:∃c0 c1 c2 c3,aj 512000064=(1,some (.var [c0,c1,c2,c3]))
 bf:∃pc,aj 512320000=(1,some (.var [.p (.int .i64 0),.p .nils,pc,.p (.bool false)]))/\grown 512448192 gC 7 (mP p) (.one pc) aj
 bs:aj s=(g,some (.arr MJ 5 (mv F st)))
theorem ant{p:List bd}{wh:Bool}{s g:Nat}{ak:Env}{aj:aA}{fc:C}(hs:mw s)(cQ:st≠[])(hl:st.length<=100000)(hp:p.length<=100000000)(hw:∀m∈st,m.w.length<=100000)(hn:∀m∈st,m.n.length<=1000000)(h:MkC F st p wh s g ak aj)(DD:ak 16=.one fc)(gf:grown 513152256 BO 2 (BN F (st.map cN.n)) (.one fc) aj):
  W S .all i8_r2 (mJ .all i8.results fun v aj=>iU aj v=some (MI F ((th F st).n,p++(th F st).w,wh))) ak aj:=by
 obtain⟨e4,e9,FA,FB,⟨c0,c1,c2,c3,w7⟩,⟨pc,bf,gp⟩,bs⟩:=h;have sJ:=VI hs;have aH:1<=st.length:=iX.2 cQ;have pl:=ams F (st.map cN.n) (by rw[cM];omega) (fun L hL=>by obtain⟨m,hm,rfl⟩:=dQ.1 hL;exact hn m hm)
 have Iu:th F st=(st[(uF F (st.map cN.n) st.length).toNat]?).getD ⟨[],[],[]⟩:=rfl;rw[cM] at pl;rcases Vv F (st.map cN.n) st.length with ⟨h0,_⟩|⟨nU,jr⟩
 .omega
 obtain⟨b,hb⟩:=sZ nU;rw[hb] at pl jr Iu;rw[tY] at Iu;have pY:b<st.length:=aa;obtain⟨m,hm⟩:=aL pY;rw[hm] at Iu;have Iu:th F st=m:=Iu;rw[Iu];have hme:(mv F st)[b]?=some (m.ps F):=by rw[fZ,hm];rfl
 have oZ:(mv F st).length=st.length:=MK F st;have hwm:=hw m (aU hm);obtain⟨rd,lK,_⟩:=gf.fH;simp only[go_sem,i8_r2,i8,e9,FA,DD,lK,s17,eJ pl,bs,pY,hme,cN.ps];simp only[go_sem,bf];refine zR (site:=513344384) (id:=512448192) (xs:=mP m.w) (rd:=[]) (gp.of_eq (by simp only[aN,Nat.reduceEqDiff,if_false])) rfl (.inr (szM _)) (by simp only[oz];omega) fun c' gT r1 u1 g1 hJ jv=>?_;have d1:=hJ 512320000 ae ae;have d2:=hJ 512000064 ae ae;simp only[go_sem,bf,w7] at d1 d2;simp only[go_sem,e4,e9,FB,d1,d2];rw[show mP p++mP m.w=mP (p++m.w) by simp[mP]] at g1;refine⟨?_,?_⟩
 .rcases jv with ⟨rfl,rfl⟩|⟨rfl,rfl⟩|⟨rfl,rfl⟩<;>kernel_rfl
 first
  |exact anY (g1.of_eq (by simp only[aN,Nat.reduceEqDiff,if_false]))
  |trace_state
theorem anh{j:Nat}{m:cN}(h:st[j]?=some m):BN F ((st.map cN.n).take (j+1))=BN F ((st.map cN.n).take j)++[[.int .i64 F,cF m.n]]:=by
 have h2:(st.map cN.n)[j]?=some m.n:=by rw[fZ,h];rfl
 obtain⟨hl,e⟩:=aW.1 h2;rw[<- List.take_append_getElem hl,e];exact ll
theorem anu{p:List bd}{wh:Bool}{s g:Nat}{ak:Env}{aj:aA}(hs:mw s)(cQ:st≠[])(hl:st.length<=100000)(hp:p.length<=100000000)(hw:∀m∈st,m.w.length<=100000)(hn:∀m∈st,m.n.length<=1000000)(h:MkC F st p wh s g ak aj)(DD:ak 16=.one (.p .nils))(e64:ak 64=.one (.hsl s g 5 0 st.length))(KR:ak 65=vi st.length)(KS:ak 66=vi 0):
  W S .all (.loop i8_l1) (mI 2 (zB S .all i8_r2 (mJ .all i8.results fun v aj=>iU aj v=some (MI F ((th F st).n,p++(th F st).w,wh))))) ak aj:=by
 have sJ:=VI hs;refine cV (fun j ak aj=>MkC F st p wh s g ak aj/\ak 64=.one (.hsl s g 5 0 st.length)/\ak 65=vi st.length/\ak 66=vi j/\ ∃fc,ak 16=.one fc/\grown 513152256 BO 2 (BN F ((st.map cN.n).take j)) (.one fc) aj) 0 st.length (bG _) ⟨h,e64,KR,KS,_,DD,grown.nil⟩ ?_;rintro j ak aj hj ⟨h,e64,KR,KS,fc,DD,gf⟩
 by_cases ay:j<st.length
 .obtain⟨e4,e9,FA,FB,⟨c0,c1,c2,c3,w7⟩,⟨pc,bf,gp⟩,bs⟩:=h;have aJ:((j:Int)<(st.length:Int)):=aa;obtain⟨m,hm⟩:=aL ay;have hme:(mv F st)[j]?=some (m.ps F):=by rw[fZ,hm];rfl
  have oZ:(mv F st).length=st.length:=MK F st;have w1:=cn (n:=j) aa;simp only[go_sem,i8_l1,DD,e64,KR,KS,ay,aJ,bs,hme,cN.ps];refine um (site:=513152256) (id:=513152256) (bytes:=32) (xs:=[[.int .i64 F,cF m.n]]) (rd:=[513152192]) (gf.of_eq (by simp only[aN,Nat.reduceEqDiff,if_false])) (by simp[fF,aN]) (.inl rfl) (by simp only[cM,iu,dh,ff];omega) fun c' gT g1 hJ=>?_
  have d1:=hJ 512320000 ae ae;have d2:=hJ 512000064 ae ae;have d3:=hJ 512448192 ae ae;have d4:=hJ s (PJ hs rfl) (PJ hs rfl);simp only[go_sem,bf,w7,bs,sJ] at d1 d2 d3 d4;rw[<- anh hm] at g1;simp only[go_sem,DD,e64,KR,KS,w1];have hI:∀aC:Env,aC 4=ak 4->aC 9=ak 9->aC 13=ak 13->aC 14=ak 14->MkC F st p wh s g aC gT:=fun aC q4 q9 q13 q14=>⟨q4.trans e4,q9.trans e9,q13.trans FA,q14.trans FB,⟨c0,c1,c2,c3,d2⟩,⟨pc,d1,gp.of_eq d3⟩,d4⟩;first
   |exact⟨ay,hI _ rfl rfl rfl rfl,c',rfl,g1⟩
   |(refine⟨ay,hI _ ?_ ?_ ?_ ?_,c',rfl,g1⟩<;>(simp only[go_sem];first|done|rfl))
   |trace_state
 have hjn:j=st.length:=aa;subst hjn;have mq:(st.map cN.n).take st.length=st.map cN.n:=gR (by rw[cM];exact bN _);rw[mq] at gf;simp only[go_sem,i8_l1,KR,KS,eE];refine ant (g:=g) hs cQ hl hp hw hn (fc:=fc) ?_ ?_ gf
 .obtain⟨e4,e9,FA,FB,w7,bf,bs⟩:=h;refine⟨?_,?_,?_,?_,w7,bf,bs⟩;all_goals(simp only[go_sem,e4,e9,FA,FB];first|done|rfl)
 simp only[go_sem,DD];first|done|rfl
theorem XY{al:Al}{vs:List V}{aj:aA}:(allow (S.ctx al) 26 vs aj).fs.contains 50=true:=by show(S.sites 26).contains _=true;kernel_rfl
theorem XW{al:Al}{vs:List V}{aj:aA}:(allow (S.ctx al) 26 vs aj).fs.contains 53=true:=by show(S.sites 26).contains _=true;kernel_rfl
theorem XX{al:Al}{vs:List V}{aj:aA}:(allow (S.ctx al) 26 vs aj).fs.contains 27=true:=by show(S.sites 26).contains _=true;kernel_rfl
theorem W9{a:cN}{m:bd}(h:st.length<=limit):(pR F limit a st m).2.length<=limit:=by
 unfold pR;split
 .exact h
 split
 .exact h
 simp only[gh,dh,ff];omega
theorem W7{a:cN}:∀ {ms:List bd} {st:List cN},st.length<=limit->(kG F limit a st ms).2.length<=limit:=by
 intro ms
 induction ms with
 |nil=>intro st h;exact h
 |cons m r ih=>
  intro st h;rw[QZ];split
  .exact ih (W9 h)
  exact W9 h
theorem ahk:∀ {f k:Nat} {st:List cN},st.length<=limit->(zP F limit f k st).2.length<=limit:=by
 intro f
 induction f with
 |zero=>intro k st h;exact h
 |succ f ih=>
  intro k st h;cases hs:st[k]? with
  |none=>rw[Ri hs];exact h
  |some a=>
   rw[NO hs];split
   .exact ih (W7 h)
   exact W7 h
theorem XZ{L0:List Let}(h:1<=limit):(iz F limit L0).2.length<=limit:=ahk h
def Vm:aK->Bool
 | .seq _ b=>Vm b
 | .ret=>true
 |_=>false
theorem ajc{sh:Ctx}{cp:fO}{cs:jN}{n:Nat}:∀ {c:aK} {ak:Env} {aj:aA} {e:lS} {aC:Env} {ao:aA},Vm c=true->exec sh cp cs n c ak aj=some (e,aC,ao)->e≠ .normal:=by
 intro c
 induction c with
 |seq a b iha ihb=>
  intro ak aj e aC ao hc h;simp only[exec] at h;split at h
  .exact ihb hc h
  rename_i hx;rintro rfl
  exact hx _ _ h
 |ret=>intro ak aj e aC ao hc h;cases h;exact fun h=>by cases h
 |_=>intro ak aj e aC ao hc;cases hc
theorem W3{al:Al}{c:aK}{Q Q':dA}{ak:Env}{aj:aA}(hc:Vm c=true)(h:W S al c Q ak aj)(hq:∀e ak aj,e≠ .normal->Q e ak aj->Q' e ak aj):W S al c Q' ak aj:=by obtain⟨n,e,aC,ao,h1,h2⟩:=h;exact⟨n,e,aC,ao,h1,hq _ _ _ (ajc hc h1) h2⟩
theorem ajH{R:V->aA->Prop}{Q:dA}{ak:Env}{aj:aA}(h:W S .all (.loop i8_l1) (mI 2 (zB S .all i8_r2 (mJ .all i8.results R))) ak aj)
  (hR:∀ak aj,mJ .all i8.results R .ret ak aj->Q .ret ak aj):W S .all (.loop i8_l1) (mI 2 (zB S .all i8_r2 (mI 1 Q))) ak aj:=by
 have key:∀e ak aj,e≠lS.normal->mJ .all i8.results R e ak aj->mI 1 Q e ak aj:=fun e ak aj hn h=>by
  cases e with
  |normal=>exact absurd rfl hn
  |ret=>exact hR _ _ h
  |exit i=>exact h.elim
 refine h.mono fun e ak aj h=>?_;cases e with
 |normal=>exact W3 rfl h key
 |ret=>exact hR _ _ h
 |exit i=>
  simp only[mI] at h ⊢;by_cases hi:i=2
  .rw[if_pos hi] at h ⊢;exact W3 rfl h key
  rw[if_neg hi] at h;exact False.elim h
structure MkH (F limit:Nat) (a:List Let) (p:List bd) (ak:Env) (aj:aA):Prop where
 e1:ak 1=vi limit
 e4:ak 4=.one (.aY 512000064 1 0)
 e7:ak 7=.one (.aY 512256320 1 0)
 e9:ak 9=.one (.aY 512320000 1 0)
 w7:∃c0 c1 c2 c3,aj 512000064=(1,some (.var [c0,c1,c2,c3]))
 ba:∃x,aj 512256320=(1,some (.var [.p (.int .i64 F),.p x]))/\x.norm=cF a
 bf:∃pc,aj 512320000=(1,some (.var [.p (.int .i64 0),.p .nils,pc,.p (.bool false)]))/\grown 512832256 gC 7 (mP p) (.one pc) aj
theorem ahj(h:st≠[]):th F st∈st:=by
 unfold th;have aH:1<=st.length:=iX.2 h;rcases Vv F (st.map cN.n) st.length with ⟨h0,_⟩|⟨nU,jr⟩
 .omega
 obtain⟨b,hb⟩:=sZ nU;rw[hb] at jr ⊢;rw[tY];obtain⟨m,hm⟩:=aL (ls:=st) (k:=b) aa;rw[hm];exact aU hm
theorem Pp(h:st≠[]):st[st.length-1]?=some (vm st)/\vm st∈st:=by
 have e:st.getLast?=some (vm st):=by
  unfold vm;cases hg:st.getLast? with
  |none=>exact absurd (List.getLast?_eq_none_iff.1 hg) h
  |some x=>rfl
 refine⟨by rw[<- List.getLast?_eq_getElem?];exact e,List.mem_of_getLast? e⟩
def Du(s:Nat)(L:List Let)(c:C)(aj:aA):Prop:=c=.p (cF L)\/grown s jI 6 (dw L) (.one c) aj
theorem Du.snap{s:Nat}{L:List Let}{c:C}{aj:aA}(h:Du s L c aj):∃r,(∀B:aA,(∀i∈r,B i=aj i)->Go.Abs.snap B fH c=some (cF L,r))/\(r=[]\/r=[s])/\nK aj r/\ ∀n,jX aj (n+1) c=r:=by
 rcases h with rfl|h
 .exact⟨[],(fun B _=>rfl),.inl rfl,nK.nil,fun n=>rfl⟩
 obtain⟨r,h1,h2⟩:=h.ET;rcases h with ⟨e,e2⟩|⟨e,g,e2,hb⟩
 .cases e2;have:=h1 aj rfl;rw[e] at this;have:some ((PV.sl []:PV),([]:List Nat))=some (.sl [],r):=this;simp at this;subst this;exact⟨[],by have e3:=List.map_eq_nil_iff.1 e;subst e3;exact fun B _=>h1 aj rfl,.inl rfl,nK.nil,fun n=>rfl⟩
 cases e2;have:=h1 aj rfl;have h3:Go.Abs.snap aj fH (.hsl s g 6 0 (dw L).length)=some (.sl (dw L),[s]):=by have ht:List.take L.length (dw L)=dw L:=gR (by rw[cM];exact bN _);simp[Go.Abs.snap,fH,hb,ht]
 rw[h3] at this;simp at this;subst this;exact⟨[s],fun B hB=>h1 B (hB s (pO.2 rfl)),.inr rfl,fun i hi=>by rw[pO.1 hi];exact⟨_,_,_,_,hb⟩,fun n=>CQ hb⟩
theorem ajZ{Q:dA}{ak:Env}{aj:aA}{os:List aO}{d:Option Nat}{F:Nat}{ls M:List Let}{ms:List bd}{r:RV}{f:Nat}{vs:List V}{s:Nat}(hp:aI S f vs r)(hr:V0 F ls ms M r)(eS:S.lone s=false)
  (hK:∀(c e:C) ao,Du (s+1) M c ao->grown (s+2) gC 7 (mP ms) (.one e) ao->(∀i,i≠s+1->i≠s+2->ao i=aj i)->RN S .all os Q (put ak d (.tup [.agg [.p (.int .i64 F),c],.one e])) ao):gP S .all (.pc f vs [] s) d os Q ak aj:=by
 rcases hr with ⟨rfl,rfl,rfl⟩|rfl
 .exact(cJ hp (by rw[eS];rfl)).2 (hK _ _ _ (.inl rfl) grown.nil fun _ _ _=>rfl)
 exact ajX hp eS rfl (GM _) (Qi _) fun c e ao h1 h2 h3=>hK c e ao (.inr h1) h2 h3
theorem MT{o:Nat}(e:jo o=8):¬mw o:=fun h=>PJ h e rfl
theorem anl{k:Nat}{m:cN}(h:st[k]?=some m):(mv F st)[k]?=some [.int .i64 F,cF m.c,.int .i64 F,cF m.n,kK m.w]:=by rw[fZ,h];rfl
theorem aeq{je:aA}{gv:Nat}{cc:C}{r0:List Nat}(h4:je 512512000=(gv,some (.var [.p (.bool false)])))(O1:∀n,jX je (n+1) cc=r0):((([V.agg [.p (.int .i64 F),cc],vi limit,JF gv]:List V).map (jm je)).flatten)=r0++[512512000]:=by
 have r1:jm je (.agg [.p (.int .i64 F),cc])=r0:=by show([C.p (.int .i64 F),cc].map (jX je 6)).flatten=r0;simp only[dS,kQ,l8,Hb,kN,O1,Ju,gD]
 have r2:jm je (JF gv)=[512512000]:=by
  show([]:List Nat)++([C.aY 512512000 gv 0].map (jX je 5)).flatten=_;simp only[dS,kQ,l8,Hb,kN,gD];have:jX je 5 (.aY 512512000 gv 0)=512512000::(([C.p (.bool false)]).map (jX je 4)).flatten:=by rw[jX,h4]
  rw[this];rfl
 rw[dS,dS,dS,kQ,r1,r2];show r0++([]++([512512000]++[]))=_;simp
theorem anw(cq:nQ){F limit:Nat}{a:List Let}{p:List bd}{ak:Env}{aj:aA}{Q:dA}(jQ:1<=limit)(j7:limit<=20000)(qJ:cU (F:Int) a=0)(hp:p.length<=50000000)(hI:MkH F limit a p ak aj)
  (hN:∀(aC:Env) (ao:aA),(iz F limit (fX F a).2).1=2->MkH F limit (vm (iz F limit (fX F a).2).2).c (p++(fX F a).1++(vm (iz F limit (fX F a).2).2).w) aC ao->Q .normal aC ao)
  (hR:∀(aC:Env) (ao:aA),(iz F limit (fX F a).2).1≠2->(mJ .all i8.results fun v aj=>iU aj v=some (MI F ((th F (iz F limit (fX F a).2).2).n,p++(fX F a).1++(th F (iz F limit (fX F a).2).2).w,(iz F limit (fX F a).2).1==0))) .ret aC ao->Q .ret aC ao):W S .all i8_l3 Q ak aj:=by
 obtain⟨e1,e4,e7,e9,⟨c0,c1,c2,c3,w7⟩,⟨x,ba,hx⟩,⟨pc,bf,gp⟩⟩:=hI;obtain⟨OE,dD,r,hr,pr⟩:=Qb qJ;generalize fX F a=q at*;have oZ:=OE.len;have gZ:=Dv qJ;have lY:S.lone 512384064=false:=ah;simp only[go_sem,i8_l3,e7,ba,hx,s25];refine ajZ pr hr lY fun cc ec bK gc ge cD=>?_;have gc:Du 512384065 q.2 cc bK:=gc;have ge:grown 512384066 gC 7 (mP q.1) (.one ec) bK:=ge;have d1:=cD 512000064 ae ae;have d2:=cD 512256320 ae ae;have d3:=cD 512320000 ae ae;have d4:=cD 512832256 ae ae;simp only[go_sem,ba,bf,w7] at d1 d2 d3 d4;have FO:=gp.of_eq d4;clear cD d4;simp only[go_sem,e9,d3]
 obtain⟨re,Mn,_⟩:=(ge.of_eq (ao:=dK (dK bK 512384320 ((bK 512384320).1+1,some (.var [.p (.int .i64 0),.p .nils]))) 512384320 ((bK 512384320).1+1,some (.var [.p (.int .i64 F),cc]))) (by simp only[aN,Nat.reduceEqDiff,if_false])).elems;refine um (site:=512448192) (id:=512832256) (bytes:=48) (xs:=mP q.1) (rd:=re) (FO.of_eq (by simp only[aN,Nat.reduceEqDiff,if_false])) Mn (.inr (szM _)) (by simp only[oz];omega) fun c' gT g1 hJ=>?_;have f1:=hJ 512000064 ae ae;have f2:=hJ 512256320 ae ae;have f3:=hJ 512320000 ae ae;have f5:=hJ 512384065 ae ae;have f6:=hJ 512384320 ae ae;simp only[go_sem,d1,d2,d3] at f1 f2 f3 f5 f6;have Ij:Du 512384065 q.2 cc gT:=by
  rcases gc with h|h
  .exact .inl h
  exact .inr (h.of_eq f5)
 rw[show mP p++mP q.1=mP (p++q.1) by simp[mP]] at g1;clear hJ Mn ge FO gc f5 d1 d2 d3;simp only[go_sem,e1,e9,f3,f6,s26];refine aas fun je kI=>?_;have h1:je 512000064=(1,some (.var [c0,c1,c2,c3])):=by rw[kI];simp only[aN,Nat.reduceEqDiff,if_false];exact f1
 have h2:je 512256320=(1,some (.var [.p (.int .i64 F),.p x])):=by rw[kI];simp only[aN,Nat.reduceEqDiff,if_false];exact f2
 have h3:je 512320000=(1,some (.var [.p (.int .i64 0),.p .nils,c',.p (.bool false)])):=by rw[kI];simp only[aN,Nat.reduceEqDiff,if_true,if_false]
 have h4:je 512512000=((gT 512512000).1+1,some (.var [.p (.bool false)])):=by rw[kI];simp only[aN,Nat.reduceEqDiff,if_true,if_false]
 have g4:grown 512448192 gC 7 (mP (p++q.1)) (.one c') je:=g1.of_eq (by rw[kI];simp only[aN,Nat.reduceEqDiff,if_false]);have gc4:Du 512384065 q.2 cc je:=by
  rcases Ij with h|h
  .exact .inl h
  exact .inr (h.of_eq (by rw[kI];simp only[aN,Nat.reduceEqDiff,if_false]))
 generalize (gT 512512000).1+1=gv at h4;clear kI g1 Ij f1 f2 f3;obtain⟨r0,lK,uC,har,O1⟩:=gc4.snap;have tG:=aeq (F:=F) (limit:=limit) h4 O1;have nX:∀i∈r0,i=512384065:=fun i hi=>by
  rcases uC with h|h
  .rw[h] at hi;cases hi
  rw[h] at hi;exact pO.1 hi
 have hac:wU (allow (S.ctx .all) 26 [V.agg [.p (.int .i64 F),cc],vi limit,JF gv] je):=⟨fun id h=>uR (by rw[h];kernel_rfl),XY,XW,XX,se (by rw[tG];simp)⟩;have de:=XS hac cq (F:=F) (limit:=limit) (L0:=q.2) (gv:=gv) (c0:=cc) (r0:=r0) (aj:=je) jQ j7 OE.chk (fun B hB=>lK B hB) har (fun i hi=>⟨se (by rw[tG];simp[hi]),by rw[nX i hi];exact MT rfl,by rw[nX i hi];decide⟩) h4;refine rC za de fun v5 BK hP=>?_;obtain⟨s,g,rfl,hs,mK,DX,aH,dy,kZ⟩:=hP;have F9:∀i,i≠512384065->i∉r0:=fun i h hi=>h (nX i hi)
 have k1:=(kZ 512000064 (MT rfl) ae (F9 _ ae)).trans h1;have k2:=(kZ 512256320 (MT rfl) ae (F9 _ ae)).trans h2;have k3:=(kZ 512320000 (MT rfl) ae (F9 _ ae)).trans h3;have g5:=g4.of_eq (kZ 512448192 (MT rfl) ae (F9 _ ae));clear de hac tG kZ g4 h1 h2 h3 h4 lK O1 har;have sJ:=VI hs;obtain⟨vd,abd⟩:=Pp aH;have LF:=XZ (F:=F) (L0:=q.2) jQ;generalize iz F limit q.2=cr at*;have hlen:(mv F cr.2).length=cr.2.length:=MK F cr.2;have ju:=iX.2 aH;have aa7:=anl (F:=F) vd;have uE:IntKind.i64.wrap ((cr.2.length:Int)-1)=((cr.2.length-1:Nat):Int):=GV aa aa;have abe:cr.2.length-1<cr.2.length:=aa;have gdl:=dy _ abd;generalize vm cr.2=lm at*;have lL:=fun m hm=>(dy m hm).len;by_cases h2:cr.1=2
 .have hb:(cr.1==2)=true:=by rw[h2];rfl
  simp only[go_sem,hb,e7,e9,mK,aa7,uE,abe,DX,k2,k3];refine um (site:=512832256) (id:=512448192) (bytes:=48) (xs:=mP lm.w) (rd:=[]) (g5.of_eq (by simp only[aN,Nat.reduceEqDiff,if_false])) rfl (.inr (szM _)) (by have:=lL _ abd;simp only[oz,gh];omega) fun cz blk6 g6 hb6=>?_;have d1:=hb6 512000064 ae ae;have d2:=hb6 512256320 ae ae;have d3:=hb6 512320000 ae ae;simp only[go_sem,k1,k2,k3] at d1 d2 d3;rw[show mP (p++q.1)++mP lm.w=mP (p++q.1++lm.w) by simp[mP]] at g6;simp only[go_sem,e9,d3];refine hN _ _ h2 ⟨e1,e4,e7,e9,⟨c0,c1,c2,c3,?_⟩,⟨cF lm.c,?_,rfl⟩,⟨cz,?_,?_⟩⟩
  .simp only[go_sem,d1]
  .simp only[go_sem,d2]
  .simp only[go_sem,d3]
  exact g6.of_eq (by simp only[aN,Nat.reduceEqDiff,if_false])
 have hb:(cr.1==2)=false:=by simpa using h2
 simp only[go_sem,hb,mK,aa7,uE,abe,DX];refine ajH (anu (p:=p++q.1) (wh:=cr.1==0) hs aH aa (by rw[gh];omega) (fun m hm=>by have:=lL m hm;omega) (fun m hm=>?_) ⟨e4,e9,rfl,rfl,⟨c0,c1,c2,c3,?_⟩,⟨c',?_,?_⟩,?_⟩ rfl rfl ?_ rfl) fun ak aj h=>hR _ _ h2 h
 .rw[(dy m hm).MR];have h5:=GA m.c;have h6:=(dy m hm).same;omega
 .simp only[go_sem,k1]
 .simp only[go_sem,k3]
 .exact g5.of_eq (by simp only[aN,Nat.reduceEqDiff,if_false])
 .simp only[go_sem,mK,sJ]
 simp only[go_sem]
end
end Go.Abs
