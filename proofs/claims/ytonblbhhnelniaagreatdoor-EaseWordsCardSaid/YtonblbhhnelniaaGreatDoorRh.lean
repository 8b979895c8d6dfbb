/- A part. -/
import Derived.Test.YtonblbhhnelniaaGreatDoorRg
set_option linter.all false
set_option maxRecDepth 100000
set_option maxHeartbeats 16000000
namespace Go.Abs
section
variable{F:Nat}
def WQ(F:Nat)(L:List Let)(q:List a7×List Let):Prop:=BG F L q.1 q.2/\Jr F q.2/\ ∃r,WS F L q.1 q.2 r/\aI S 26 [eY F L] r
open Classical in
noncomputable def fO (F:Nat) (L:List Let):List a7×List Let:=if h:∃q,WQ F L q then Classical.choose h else ([],[])
theorem QF{L:List Let}(h:cN (F:Int) L=0):WQ F L (fO F L):=by
 have he:∃q,WQ F L q:=by obtain⟨r,⟨ms,M,h1,h2,h3⟩,h4⟩:=ary h (DH h);exact⟨(ms,M),h1,h2,r,h3,h4⟩
 unfold fO;rw[dif_pos he];exact Classical.choose_spec he
theorem arw{L:List Let}(h:cN (F:Int) L=0):(fO F L).2.length<=L.length/\((zR F L).2=true->(fO F L).2.length<L.length):=by
 obtain⟨h1,h2,_⟩:=QF h;have hl:=h1.len;refine⟨aa,fun hr=>?_⟩;obtain⟨_,h4,_⟩:=afG h;have h5:=(h4 hr).2;have aF:(fO F L).1≠[]:=fun e=>by have ve:=h1.rep;rw[e] at ve;have ve:some L=some (fO F L).2:=ve;have hLM:=qF ve;rw[<- hLM] at h2;exact h5 h2
 have:=gV.2 aF;omega
theorem ah2{limit:Nat}{a:cQ}:∀ {ms:List a7} {st:List cQ},(kr F limit a st ms).1=2->∃x,(kr F limit a st ms).2.getLast?=some x/\(zR F x.c).2=true:=by
 intro ms
 induction ms with
 |nil=>intro st h;cases h
 |cons m r ih=>
  intro st h;rw[R5] at h ⊢;by_cases e:(pX F limit a st m).1=0
  .rw[if_pos e] at h ⊢;exact ih h
  rw[if_neg e] at h ⊢;unfold pX at h ⊢;split at h
  .cases h
  rename_i h1;rw[if_neg h1];split at h
  .cases h
  rename_i h2;rw[if_neg h2];dsimp only at h ⊢;split at h
  .rename_i h3;exact⟨_,List.getLast?_concat,h3⟩
  cases h
theorem ai8{limit:Nat}:∀ {f k:Nat} {st:List cQ},(Ad F limit f k st).1=2->∃x,(Ad F limit f k st).2.getLast?=some x/\(zR F x.c).2=true:=by
 intro f
 induction f with
 |zero=>intro k st h;cases h
 |succ f ih=>
  intro k st h;cases hs:st[k]? with
  |none=>rw[Sj hs] at h;cases h
  |some a=>
   rw[Oj hs] at h ⊢;by_cases e:(kr F limit a st (qy F a.c)).1=0
   .rw[if_pos e] at h ⊢;exact ih h
   rw[if_neg e] at h ⊢;exact ah2 h
def vm(l:List cQ):cQ:=l.getLast?.getD ⟨[],[],[]⟩
noncomputable def tm (F:Nat) (l:List cQ):cQ:=(l[(uF F (l.map cQ.n) l.length).toNat]?).getD ⟨[],[],[]⟩
noncomputable def A8 (F limit:Nat):Nat->List Let->List a7->List Let×List a7×Bool
 |0,_,_=>([],[],false)
 |f+1,a,p=>if (ik F limit (fO F a).2).1=2 then A8 F limit f (vm (ik F limit (fO F a).2).2).c (p++(fO F a).1++(vm (ik F limit (fO F a).2).2).w)
  else ((tm F (ik F limit (fO F a).2).2).n,p++(fO F a).1++(tm F (ik F limit (fO F a).2).2).w,(ik F limit (fO F a).2).1==0)
noncomputable def vn (F limit:Nat) (ls:List Let):List Let×List a7×Bool:=A8 F limit (ls.length+2) (gT ls) []
theorem afP:∀ {a b:List a7} {L K:List Let},uc F L a=some K->uc F L (a++b)=uc F K b:=by
 intro a
 induction a with
 |nil=>intro b L K h;cases h;rfl
 |cons m r ih=>
  intro b L K h;show(match oL F L m with|none=>none|some L=>uc F L (r++b))=_;have h:(match oL F L m with|none=>none|some L=>uc F L r)=some K:=h;cases ha:oL F L m with
  |none=>rw[ha] at h;cases h
  |some J=>rw[ha] at h;exact ih h
structure sv (F:Nat) (N:List Let) (b:Nat) (a:List Let) (p:List a7):Prop where
 chk:cN (F:Int) a=0
 rep:uc F N p=some a
 kind:∀m∈p,k5 m.k
 len:p.length+a.length<=N.length+b
theorem sv.red{N a:List Let}{b:Nat}{p:List a7}(h:sv F N b a p):sv F N b (fO F a).2 (p++(fO F a).1):=by
 obtain⟨r,_,_⟩:=QF h.chk;refine⟨r.chk,by rw[afP h.rep];exact r.rep,fun m hm=>?_,?_⟩
 .rcases eF.1 hm with h1|h1
  .exact h.kind m h1
  have:=r.kind m h1;simp only[cM,iO,or_false] at this;unfold k5;omega
 have:=r.len;have:=h.len;rw[dX];omega
theorem sv.mem{N a:List Let}{b n:Nat}{p:List a7}{m:cQ}(h:sv F N b a p)(hm:vL F a n m):sv F N (b+n) m.c (p++m.w):=by
 refine⟨hm.chk,by rw[afP h.rep];exact hm.rep,fun x hx=>?_,?_⟩
 .rcases eF.1 hx with h1|h1
  .exact h.kind x h1
  have:=hm.kind x h1;simp only[cM,iO,or_false] at this;unfold k5;omega
 have:=hm.len;have:=hm.same;have:=h.len;rw[dX];omega
end
end Go.Abs
namespace Go.Abs
section
variable{st:List cQ}{F limit:Nat}
theorem Qn{s o:Nat}(h:mj s)(e:je o=14):¬s=o:=by
 rintro rfl
 unfold mj at h;rw[e] at h;revert h;decide
theorem Wt{s:Nat}(h:mj s):¬s=896000000/\ ¬s=896000064/\ ¬s=896256320/\ ¬s=896320000/\ ¬s=896384320/\ ¬s=896448192/\ ¬s=896512000/\ ¬s=896640384/\ ¬s=896832256/\ ¬s=897088128/\ ¬s=897152192/\ ¬s=897152256/\ ¬s=897280320/\ ¬s=897344384:=by
 repeat' apply And.intro
 all_goals exact Qn h rfl
abbrev Nb(F:Nat)(x:List Let×List a7×Bool):RV:=.tup [.agg [.p (.int .i64 F),.p (cP x.1),aR fT 7 (mP x.2.1),.p (.bool x.2.2)],.one (.p (.int .i64 0))]
theorem ap3{s1 t1 z1:Nat}{es:List (List PV)}{c:C}{x y w u:PV}{aj:aq}(h:grown s1 t1 z1 es (.one c) aj):iA aj (.tup [.agg [.p x,.p y,c,.p w],.one (.p u)])=some (.tup [.agg [.p x,.p y,aR t1 z1 es,.p w],.one (.p u)]):=by obtain⟨c',o,hc,h2,h3⟩:=h.jc;cases hc;have e1:∀v:PV,jc aj (.p v)=some (.p v,[],[]):=fun _=>rfl;rcases h3 with rfl|rfl<;>simp[iA,rK,tD,my,lM,h2,e1,apart,ud,rq,yx]
structure MkC (F:Nat) (st:List cQ) (p:List a7) (wh:Bool) (s g:Nat) (ak:Env) (aj:aq):Prop where
 e4:ak 4=.one (.bk 896000064 1 0)
 e9:ak 9=.one (.bk 896320000 1 0)
 FL:ak 13=.one (.hsl s g 5 0 st.length)
 FM:ak 14=vb wh
 xr:∃c0 c1 c2 c3,aj 896000064=(1,some (.var [c0,c1,c2,c3]))
 bf:∃pc,aj 896320000=(1,some (.var [.p (.int .i64 0),.p .nils,pc,.p (.bool false)]))/\grown 896448192 fT 7 (mP p) (.one pc) aj
 bs:aj s=(g,some (.arr mbT 5 (mf F st)))
theorem apu{p:List a7}{wh:Bool}{s g:Nat}{ak:Env}{aj:aq}{fc:C}(hs:mj s)(cE:st≠[])(hl:st.length<=100000)(hp:p.length<=100000000)(hw:∀m∈st,m.w.length<=100000)(hn:∀m∈st,m.n.length<=1000000)(h:MkC F st p wh s g ak aj)(DQ:ak 16=.one fc)(gf:grown 897152256 BX 2 (BW F (st.map cQ.n)) (.one fc) aj):
  W S .all i14_r2 (lE .all i14.results fun v aj=>iA aj v=some (Nb F ((tm F st).n,p++(tm F st).w,wh))) ak aj:=by
 obtain⟨e4,e9,FL,FM,⟨c0,c1,c2,c3,xr⟩,⟨pc,bf,gp⟩,bs⟩:=h;have vd:=Wt hs;have aF:1<=st.length:=gV.2 cE;have pl:=aoz F (st.map cQ.n) (by rw[cF];omega) (fun L hL=>by obtain⟨m,hm,rfl⟩:=dq.1 hL;exact hn m hm)
 have IA:tm F st=(st[(uF F (st.map cQ.n) st.length).toNat]?).getD ⟨[],[],[]⟩:=rfl;rw[cF] at pl;rcases Wg F (st.map cQ.n) st.length with ⟨h0,_⟩|⟨mA,iu⟩
 .omega
 obtain⟨b,hb⟩:=r8 mA;rw[hb] at pl iu IA;rw[uK] at IA;have nM:b<st.length:=aa;obtain⟨m,hm⟩:=aK nM;rw[hm] at IA;have IA:tm F st=m:=IA;rw[IA];have hme:(mf F st)[b]?=some (m.ps F):=by rw[fR,hm];rfl
 have ni:(mf F st).length=st.length:=Nc F st;have hwm:=hw m (aU hm);obtain⟨rd,l6,_⟩:=gf.eL;simp only[go_sem,i14_r2,i14,e9,FL,DQ,l6,s16,eH pl,bs,nM,hme,cQ.ps];simp only[go_sem,bf];refine xz (site:=897344384) (id:=896448192) (xs:=mP m.w) (rd:=[]) (gp.of_eq (by simp only[aM,Nat.reduceEqDiff,if_false])) rfl (.inr (szM _)) (by simp only[nY];omega) fun c' fG r1 u1 g1 eW ky=>?_;have d1:=eW 896320000 ae ae;have d2:=eW 896000064 ae ae;simp only[go_sem,bf,xr] at d1 d2;simp only[go_sem,e4,e9,FM,d1,d2];rw[show mP p++mP m.w=mP (p++m.w) by simp[mP]] at g1;refine⟨?_,?_⟩
 .rcases ky with ⟨rfl,rfl⟩|⟨rfl,rfl⟩|⟨rfl,rfl⟩<;>kernel_rfl
 first
  |exact ap3 (g1.of_eq (by simp only[aM,Nat.reduceEqDiff,if_false]))
  |trace_state
theorem aph{j:Nat}{m:cQ}(h:st[j]?=some m):BW F ((st.map cQ.n).take (j+1))=BW F ((st.map cQ.n).take j)++[[.int .i64 F,cP m.n]]:=by
 have h2:(st.map cQ.n)[j]?=some m.n:=by rw[fR,h];rfl
 obtain⟨hl,e⟩:=aS.1 h2;rw[<- List.take_append_getElem hl,e];exact km
theorem apv{p:List a7}{wh:Bool}{s g:Nat}{ak:Env}{aj:aq}(hs:mj s)(cE:st≠[])(hl:st.length<=100000)(hp:p.length<=100000000)(hw:∀m∈st,m.w.length<=100000)(hn:∀m∈st,m.n.length<=1000000)(h:MkC F st p wh s g ak aj)(DQ:ak 16=.one (.p .nils))(e64:ak 64=.one (.hsl s g 5 0 st.length))(KY:ak 65=vi st.length)(KZ:ak 66=vi 0):
  W S .all (.loop i14_l1) (nJ 2 (zU S .all i14_r2 (lE .all i14.results fun v aj=>iA aj v=some (Nb F ((tm F st).n,p++(tm F st).w,wh))))) ak aj:=by
 have vd:=Wt hs;refine cV (fun j ak aj=>MkC F st p wh s g ak aj/\ak 64=.one (.hsl s g 5 0 st.length)/\ak 65=vi st.length/\ak 66=vi j/\ ∃fc,ak 16=.one fc/\grown 897152256 BX 2 (BW F ((st.map cQ.n).take j)) (.one fc) aj) 0 st.length (bd _) ⟨h,e64,KY,KZ,_,DQ,grown.nil⟩ ?_;rintro j ak aj hj ⟨h,e64,KY,KZ,fc,DQ,gf⟩
 by_cases aw:j<st.length
 .obtain⟨e4,e9,FL,FM,⟨c0,c1,c2,c3,xr⟩,⟨pc,bf,gp⟩,bs⟩:=h;have aL:((j:Int)<(st.length:Int)):=aa;obtain⟨m,hm⟩:=aK aw;have hme:(mf F st)[j]?=some (m.ps F):=by rw[fR,hm];rfl
  have ni:(mf F st).length=st.length:=Nc F st;have w1:=cK (n:=j) aa;simp only[go_sem,i14_l1,DQ,e64,KY,KZ,aw,aL,bs,hme,cQ.ps];refine qN (site:=897152256) (id:=897152256) (bytes:=32) (xs:=[[.int .i64 F,cP m.n]]) (rd:=[897152192]) (gf.of_eq (by simp only[aM,Nat.reduceEqDiff,if_false])) (by simp[ez,aM]) (.inl rfl) (by simp only[cF,eQ,cq,dN];omega) fun c' fG g1 eW=>?_
  have d1:=eW 896320000 ae ae;have d2:=eW 896000064 ae ae;have d3:=eW 896448192 ae ae;have d4:=eW s (Qn hs rfl) (Qn hs rfl);simp only[go_sem,bf,xr,bs,vd] at d1 d2 d3 d4;rw[<- aph hm] at g1;simp only[go_sem,DQ,e64,KY,KZ,w1];have hI:∀aD:Env,aD 4=ak 4->aD 9=ak 9->aD 13=ak 13->aD 14=ak 14->MkC F st p wh s g aD fG:=fun aD q4 q9 q13 q14=>⟨q4.trans e4,q9.trans e9,q13.trans FL,q14.trans FM,⟨c0,c1,c2,c3,d2⟩,⟨pc,d1,gp.of_eq d3⟩,d4⟩;first
   |exact⟨aw,hI _ rfl rfl rfl rfl,c',rfl,g1⟩
   |(refine⟨aw,hI _ ?_ ?_ ?_ ?_,c',rfl,g1⟩<;>(simp only[go_sem];first|done|rfl))
   |trace_state
 have hjn:j=st.length:=aa;subst hjn;have lH:(st.map cQ.n).take st.length=st.map cQ.n:=fS (by rw[cF];exact aX _);rw[lH] at gf;simp only[go_sem,i14_l1,KY,KZ,eK];refine apu (g:=g) hs cE hl hp hw hn (fc:=fc) ?_ ?_ gf
 .obtain⟨e4,e9,FL,FM,xr,bf,bs⟩:=h;refine⟨?_,?_,?_,?_,xr,bf,bs⟩;all_goals(simp only[go_sem,e4,e9,FL,FM];first|done|rfl)
 simp only[go_sem,DQ];first|done|rfl
theorem YW{al:Al}{vs:List V}{aj:aq}:(allow (S.ctx al) 29 vs aj).fs.contains 51=true:=by show(S.sites 29).contains _=true;kernel_rfl
theorem YU{al:Al}{vs:List V}{aj:aq}:(allow (S.ctx al) 29 vs aj).fs.contains 54=true:=by show(S.sites 29).contains _=true;kernel_rfl
theorem YV{al:Al}{vs:List V}{aj:aq}:(allow (S.ctx al) 29 vs aj).fs.contains 30=true:=by show(S.sites 29).contains _=true;kernel_rfl
theorem X8{a:cQ}{m:a7}(h:st.length<=limit):(pX F limit a st m).2.length<=limit:=by
 unfold pX;split
 .exact h
 split
 .exact h
 simp only[dX,cq,dN];omega
theorem X6{a:cQ}:∀ {ms:List a7} {st:List cQ},st.length<=limit->(kr F limit a st ms).2.length<=limit:=by
 intro ms
 induction ms with
 |nil=>intro st h;exact h
 |cons m r ih=>
  intro st h;rw[R5];split
  .exact ih (X8 h)
  exact X8 h
theorem ai7:∀ {f k:Nat} {st:List cQ},st.length<=limit->(Ad F limit f k st).2.length<=limit:=by
 intro f
 induction f with
 |zero=>intro k st h;exact h
 |succ f ih=>
  intro k st h;cases hs:st[k]? with
  |none=>rw[Sj hs];exact h
  |some a=>
   rw[Oj hs];split
   .exact ih (X6 h)
   exact X6 h
theorem YX{L0:List Let}(h:1<=limit):(ik F limit L0).2.length<=limit:=ai7 h
def V6:aJ->Bool
 | .seq _ b=>V6 b
 | .ret=>true
 |_=>false
theorem ak7{sh:Ctx}{cp:fE}{cs:jF}{n:Nat}:∀ {c:aJ} {ak:Env} {aj:aq} {e:lz} {aD:Env} {ao:aq},V6 c=true->exec sh cp cs n c ak aj=some (e,aD,ao)->e≠ .normal:=by
 intro c
 induction c with
 |seq a b iha ihb=>
  intro ak aj e aD ao hc h;simp only[exec] at h;split at h
  .exact ihb hc h
  rename_i hx;rintro rfl
  exact hx _ _ h
 |ret=>intro ak aj e aD ao hc h;cases h;exact fun h=>by cases h
 |_=>intro ak aj e aD ao hc;cases hc
theorem X0{al:Al}{c:aJ}{Q Q':dy}{ak:Env}{aj:aq}(hc:V6 c=true)(h:W S al c Q ak aj)(hq:∀e ak aj,e≠ .normal->Q e ak aj->Q' e ak aj):W S al c Q' ak aj:=by obtain⟨n,e,aD,ao,h1,h2⟩:=h;exact⟨n,e,aD,ao,h1,hq _ _ _ (ak7 hc h1) h2⟩
theorem alI{R:V->aq->Prop}{Q:dy}{ak:Env}{aj:aq}(h:W S .all (.loop i14_l1) (nJ 2 (zU S .all i14_r2 (lE .all i14.results R))) ak aj)
  (hR:∀ak aj,lE .all i14.results R .ret ak aj->Q .ret ak aj):W S .all (.loop i14_l1) (nJ 2 (zU S .all i14_r2 (nJ 1 Q))) ak aj:=by
 have key:∀e ak aj,e≠lz.normal->lE .all i14.results R e ak aj->nJ 1 Q e ak aj:=fun e ak aj hn h=>by
  cases e with
  |normal=>exact absurd rfl hn
  |ret=>exact hR _ _ h
  |exit i=>exact h.elim
 refine h.mono fun e ak aj h=>?_;cases e with
 |normal=>exact X0 rfl h key
 |ret=>exact hR _ _ h
 |exit i=>
  simp only[nJ] at h ⊢;by_cases hi:i=2
  .rw[if_pos hi] at h ⊢;exact X0 rfl h key
  rw[if_neg hi] at h;exact False.elim h
structure MkH (F limit:Nat) (a:List Let) (p:List a7) (ak:Env) (aj:aq):Prop where
 e1:ak 1=vi limit
 e4:ak 4=.one (.bk 896000064 1 0)
 e7:ak 7=.one (.bk 896256320 1 0)
 e9:ak 9=.one (.bk 896320000 1 0)
 xr:∃c0 c1 c2 c3,aj 896000064=(1,some (.var [c0,c1,c2,c3]))
 ba:∃x,aj 896256320=(1,some (.var [.p (.int .i64 F),.p x]))/\x.norm=cP a
 bf:∃pc,aj 896320000=(1,some (.var [.p (.int .i64 0),.p .nils,pc,.p (.bool false)]))/\grown 896832256 fT 7 (mP p) (.one pc) aj
theorem ai6(h:st≠[]):tm F st∈st:=by
 unfold tm;have aF:1<=st.length:=gV.2 h;rcases Wg F (st.map cQ.n) st.length with ⟨h0,_⟩|⟨mA,iu⟩
 .omega
 obtain⟨b,hb⟩:=r8 mA;rw[hb] at iu ⊢;rw[uK];obtain⟨m,hm⟩:=aK (ls:=st) (k:=b) aa;rw[hm];exact aU hm
theorem PS(h:st≠[]):st[st.length-1]?=some (vm st)/\vm st∈st:=by
 have e:st.getLast?=some (vm st):=by
  unfold vm;cases hg:st.getLast? with
  |none=>exact absurd (List.getLast?_eq_none_iff.1 hg) h
  |some x=>rfl
 refine⟨by rw[<- List.getLast?_eq_getElem?];exact e,List.mem_of_getLast? e⟩
def HK(s:Nat)(L:List Let)(c:C)(aj:aq):Prop:=c=.p (cP L)\/grown s lK 6 (dA L) (.one c) aj
theorem HK.snap{s:Nat}{L:List Let}{c:C}{aj:aq}(h:HK s L c aj):∃r,(∀B:aq,(∀i∈r,B i=aj i)->Go.Abs.snap B eL c=some (cP L,r))/\(r=[]\/r=[s])/\pY aj r/\ ∀n,jO aj (n+1) c=r:=by
 rcases h with rfl|h
 .exact⟨[],(fun B _=>rfl),.inl rfl,pY.nil,fun n=>rfl⟩
 obtain⟨r,h1,h2⟩:=h.Dj;rcases h with ⟨e,e2⟩|⟨e,g,e2,hb⟩
 .cases e2;have:=h1 aj rfl;rw[e] at this;have:some ((PV.sl []:PV),([]:List Nat))=some (.sl [],r):=this;simp at this;subst this;exact⟨[],by have e3:=NV.1 e;subst e3;exact fun B _=>h1 aj rfl,.inl rfl,pY.nil,fun n=>rfl⟩
 cases e2;have:=h1 aj rfl;have h3:Go.Abs.snap aj eL (.hsl s g 6 0 (dA L).length)=some (.sl (dA L),[s]):=by have ht:List.take L.length (dA L)=dA L:=fS (by rw[cF];exact aX _);simp[Go.Abs.snap,eL,hb,ht]
 rw[h3] at this;simp at this;subst this;exact⟨[s],fun B hB=>h1 B (hB s (mR.2 rfl)),.inr rfl,fun i hi=>by rw[mR.1 hi];exact⟨_,_,_,_,hb⟩,fun n=>De hb⟩
theorem al0{Q:dy}{ak:Env}{aj:aq}{os:List bl}{d:Option Nat}{F:Nat}{ls M:List Let}{ms:List a7}{r:RV}{f:Nat}{vs:List V}{s:Nat}(hp:aI S f vs r)(hr:WS F ls ms M r)(dZ:S.lone s=false)
  (hK:∀(c e:C) ao,HK (s+1) M c ao->grown (s+2) fT 7 (mP ms) (.one e) ao->(∀i,i≠s+1->i≠s+2->ao i=aj i)->RN S .all os Q (put ak d (.tup [.agg [.p (.int .i64 F),c],.one e])) ao):gP S .all (.pc f vs [] s) d os Q ak aj:=by
 rcases hr with ⟨rfl,rfl,rfl⟩|rfl
 .exact(cX hp (by rw[dZ];rfl)).2 (hK _ _ _ (.inl rfl) grown.nil fun _ _ _=>rfl)
 exact alX hp dZ rfl (JM _) (QO _) fun c e ao h1 h2 h3=>hK c e ao (.inr h1) h2 h3
theorem Ng{o:Nat}(e:je o=14):¬mj o:=fun h=>Qn h e rfl
theorem apl{k:Nat}{m:cQ}(h:st[k]?=some m):(mf F st)[k]?=some [.int .i64 F,cP m.c,.int .i64 F,cP m.n,nZ m.w]:=by rw[fR,h];rfl
theorem afJ{iE:aq}{gv:Nat}{cc:C}{r0:List Nat}(h4:iE 896512000=(gv,some (.var [.p (.bool false)])))(Px:∀n,jO iE (n+1) cc=r0):((([V.agg [.p (.int .i64 F),cc],vi limit,JU gv]:List V).map (jd iE)).flatten)=r0++[896512000]:=by
 have r1:jd iE (.agg [.p (.int .i64 F),cc])=r0:=by show([C.p (.int .i64 F),cc].map (jO iE 6)).flatten=r0;simp only[dG,kE,lR,Hi,jR,Px,JF,fp]
 have r2:jd iE (JU gv)=[896512000]:=by
  show([]:List Nat)++([C.bk 896512000 gv 0].map (jO iE 5)).flatten=_;simp only[dG,kE,lR,Hi,jR,fp];have:jO iE 5 (.bk 896512000 gv 0)=896512000::(([C.p (.bool false)]).map (jO iE 4)).flatten:=by rw[jO,h4]
  rw[this];rfl
 rw[dG,dG,dG,kE,r1,r2];show r0++([]++([896512000]++[]))=_;simp
theorem apx(bQ:nK){F limit:Nat}{a:List Let}{p:List a7}{ak:Env}{aj:aq}{Q:dy}(jx:1<=limit)(iv:limit<=20000)(qQ:cN (F:Int) a=0)(hp:p.length<=50000000)(hI:MkH F limit a p ak aj)
  (hN:∀(aD:Env) (ao:aq),(ik F limit (fO F a).2).1=2->MkH F limit (vm (ik F limit (fO F a).2).2).c (p++(fO F a).1++(vm (ik F limit (fO F a).2).2).w) aD ao->Q .normal aD ao)
  (hR:∀(aD:Env) (ao:aq),(ik F limit (fO F a).2).1≠2->(lE .all i14.results fun v aj=>iA aj v=some (Nb F ((tm F (ik F limit (fO F a).2).2).n,p++(fO F a).1++(tm F (ik F limit (fO F a).2).2).w,(ik F limit (fO F a).2).1==0))) .ret aD ao->Q .ret aD ao):W S .all i14_l3 Q ak aj:=by
 obtain⟨e1,e4,e7,e9,⟨c0,c1,c2,c3,xr⟩,⟨x,ba,hx⟩,⟨pc,bf,gp⟩⟩:=hI;obtain⟨O7,dz,r,hr,pr⟩:=QF qQ;generalize fO F a=q at*;have ni:=O7.len;have iK:=DH qQ;have kA:S.lone 896384064=false:=ah;simp only[go_sem,i14_l3,e7,ba,hx,s26];refine al0 pr hr kA fun cc ec bG gc ge cU=>?_;have gc:HK 896384065 q.2 cc bG:=gc;have ge:grown 896384066 fT 7 (mP q.1) (.one ec) bG:=ge;have d1:=cU 896000064 ae ae;have d2:=cU 896256320 ae ae;have d3:=cU 896320000 ae ae;have d4:=cU 896832256 ae ae;simp only[go_sem,ba,bf,xr] at d1 d2 d3 d4;have F0:=gp.of_eq d4;clear cU d4;simp only[go_sem,e9,d3]
 obtain⟨re,MJ,_⟩:=(ge.of_eq (ao:=dB (dB bG 896384320 ((bG 896384320).1+1,some (.var [.p (.int .i64 0),.p .nils]))) 896384320 ((bG 896384320).1+1,some (.var [.p (.int .i64 F),cc]))) (by simp only[aM,Nat.reduceEqDiff,if_false])).elems;refine qN (site:=896448192) (id:=896832256) (bytes:=48) (xs:=mP q.1) (rd:=re) (F0.of_eq (by simp only[aM,Nat.reduceEqDiff,if_false])) MJ (.inr (szM _)) (by simp only[nY];omega) fun c' fG g1 eW=>?_;have f1:=eW 896000064 ae ae;have f2:=eW 896256320 ae ae;have f3:=eW 896320000 ae ae;have f5:=eW 896384065 ae ae;have f6:=eW 896384320 ae ae;simp only[go_sem,d1,d2,d3] at f1 f2 f3 f5 f6;have Iq:HK 896384065 q.2 cc fG:=by
  rcases gc with h|h
  .exact .inl h
  exact .inr (h.of_eq f5)
 rw[show mP p++mP q.1=mP (p++q.1) by simp[mP]] at g1;clear eW MJ ge F0 gc f5 d1 d2 d3;simp only[go_sem,e1,e9,f3,f6,s29];refine abB fun iE jv=>?_;have h1:iE 896000064=(1,some (.var [c0,c1,c2,c3])):=by rw[jv];simp only[aM,Nat.reduceEqDiff,if_false];exact f1
 have h2:iE 896256320=(1,some (.var [.p (.int .i64 F),.p x])):=by rw[jv];simp only[aM,Nat.reduceEqDiff,if_false];exact f2
 have h3:iE 896320000=(1,some (.var [.p (.int .i64 0),.p .nils,c',.p (.bool false)])):=by rw[jv];simp only[aM,Nat.reduceEqDiff,if_true,if_false]
 have h4:iE 896512000=((fG 896512000).1+1,some (.var [.p (.bool false)])):=by rw[jv];simp only[aM,Nat.reduceEqDiff,if_true,if_false]
 have g4:grown 896448192 fT 7 (mP (p++q.1)) (.one c') iE:=g1.of_eq (by rw[jv];simp only[aM,Nat.reduceEqDiff,if_false]);have gc4:HK 896384065 q.2 cc iE:=by
  rcases Iq with h|h
  .exact .inl h
  exact .inr (h.of_eq (by rw[jv];simp only[aM,Nat.reduceEqDiff,if_false]))
 generalize (fG 896512000).1+1=gv at h4;clear jv g1 Iq f1 f2 f3;obtain⟨r0,l6,uz,har,Px⟩:=gc4.snap;have tP:=afJ (F:=F) (limit:=limit) h4 Px;have rV:∀i∈r0,i=896384065:=fun i hi=>by
  rcases uz with h|h
  .rw[h] at hi;cases hi
  rw[h] at hi;exact mR.1 hi
 have hac:xg (allow (S.ctx .all) 29 [V.agg [.p (.int .i64 F),cc],vi limit,JU gv] iE):=⟨fun id h=>uQ (by rw[h];kernel_rfl),YW,YU,YV,sB (by rw[tP];simp)⟩;have cY:=YR hac bQ (F:=F) (limit:=limit) (L0:=q.2) (gv:=gv) (c0:=cc) (r0:=r0) (aj:=iE) jx iv O7.chk (fun B hB=>l6 B hB) har (fun i hi=>⟨sB (by rw[tP];simp[hi]),by rw[rV i hi];exact Ng rfl,by rw[rV i hi];decide⟩) h4;refine rM zH cY fun v5 Ae hP=>?_;obtain⟨s,g,rfl,hs,mB,As,aF,dk,kN⟩:=hP;have hnr:∀i,i≠896384065->i∉r0:=fun i h hi=>h (rV i hi)
 have k1:=(kN 896000064 (Ng rfl) ae (hnr _ ae)).trans h1;have k2:=(kN 896256320 (Ng rfl) ae (hnr _ ae)).trans h2;have k3:=(kN 896320000 (Ng rfl) ae (hnr _ ae)).trans h3;have g5:=g4.of_eq (kN 896448192 (Ng rfl) ae (hnr _ ae));clear cY hac tP kN g4 h1 h2 h3 h4 l6 Px har;have vd:=Wt hs;obtain⟨xT,acr⟩:=PS aF;have LR:=YX (F:=F) (L0:=q.2) jx;generalize ik F limit q.2=cr at*;have hlen:(mf F cr.2).length=cr.2.length:=Nc F cr.2;have fA:=gV.2 aF;have acm:=apl (F:=F) xT;have uB:IntKind.i64.wrap ((cr.2.length:Int)-1)=((cr.2.length-1:Nat):Int):=Kj aa aa;have acs:cr.2.length-1<cr.2.length:=aa;have gdl:=dk _ acr;generalize vm cr.2=lm at*;have lI:=fun m hm=>(dk m hm).len;by_cases h2:cr.1=2
 .have hb:(cr.1==2)=true:=by rw[h2];rfl
  simp only[go_sem,hb,e7,e9,mB,acm,uB,acs,As,k2,k3];refine qN (site:=896832256) (id:=896448192) (bytes:=48) (xs:=mP lm.w) (rd:=[]) (g5.of_eq (by simp only[aM,Nat.reduceEqDiff,if_false])) rfl (.inr (szM _)) (by have:=lI _ acr;simp only[nY,dX];omega) fun cz blk6 g6 hb6=>?_;have d1:=hb6 896000064 ae ae;have d2:=hb6 896256320 ae ae;have d3:=hb6 896320000 ae ae;simp only[go_sem,k1,k2,k3] at d1 d2 d3;rw[show mP (p++q.1)++mP lm.w=mP (p++q.1++lm.w) by simp[mP]] at g6;simp only[go_sem,e9,d3];refine hN _ _ h2 ⟨e1,e4,e7,e9,⟨c0,c1,c2,c3,?_⟩,⟨cP lm.c,?_,rfl⟩,⟨cz,?_,?_⟩⟩
  .simp only[go_sem,d1]
  .simp only[go_sem,d2]
  .simp only[go_sem,d3]
  exact g6.of_eq (by simp only[aM,Nat.reduceEqDiff,if_false])
 have hb:(cr.1==2)=false:=by simpa using h2
 simp only[go_sem,hb,mB,acm,uB,acs,As];refine alI (apv (p:=p++q.1) (wh:=cr.1==0) hs aF aa (by rw[dX];omega) (fun m hm=>by have:=lI m hm;omega) (fun m hm=>?_) ⟨e4,e9,rfl,rfl,⟨c0,c1,c2,c3,?_⟩,⟨c',?_,?_⟩,?_⟩ rfl rfl ?_ rfl) fun ak aj h=>hR _ _ h2 h
 .rw[(dk m hm).nor];have h5:=Js m.c;have h6:=(dk m hm).same;omega
 .simp only[go_sem,k1]
 .simp only[go_sem,k3]
 .exact g5.of_eq (by simp only[aM,Nat.reduceEqDiff,if_false])
 .simp only[go_sem,mB,vd]
 simp only[go_sem]
end
end Go.Abs
