/- A part. -/
import Derived.Test.YthcnadmehopfcaaGreatDoorRg
set_option linter.all false
set_option maxRecDepth 100000
set_option maxHeartbeats 16000000
namespace Go.Abs
section
variable{F:Nat}
def XG(F:Nat)(L:List Let)(q:List aP×List Let):Prop:=BU F L q.1 q.2/\Db F q.2/\ ∃r,XH F L q.1 q.2 r/\aK S 28 [dR F L] r
open Classical in
noncomputable def dU (F:Nat) (L:List Let):List aP×List Let:=if h:∃q,XG F L q then Classical.choose h else ([],[])
theorem Oc{L:List Let}(h:cQ (F:Int) L=0):XG F L (dU F L):=by
 have he:∃q,XG F L q:=by obtain⟨r,⟨ms,M,h1,h2,h3⟩,h4⟩:=asp h (FJ h);exact⟨(ms,M),h1,h2,r,h3,h4⟩
 unfold dU;rw[dif_pos he];exact Classical.choose_spec he
theorem asn{L:List Let}(h:cQ (F:Int) L=0):(dU F L).2.length<=L.length/\((Af F L).2=true->(dU F L).2.length<L.length):=by
 obtain⟨h1,h2,_⟩:=Oc h;have hl:=h1.len;refine⟨aa,fun hr=>?_⟩;obtain⟨_,h4,_⟩:=agu h;have h5:=(h4 hr).2;have aI:(dU F L).1≠[]:=fun e=>by have vC:=h1.rep;rw[e] at vC;have vC:some L=some (dU F L).2:=vC;have hLM:=rj vC;rw[<- hLM] at h2;exact h5 h2
 have:=jf.2 aI;omega
theorem ai2{limit:Nat}{a:cE}:∀ {ms:List aP} {st:List cE},(j8 true F limit a st ms).1=2->∃x,(j8 true F limit a st ms).2.getLast?=some x/\(Af F x.c).2=true:=by
 intro ms
 induction ms with
 |nil=>intro st h;cases h
 |cons m r ih=>
  intro st h;rw[Sy] at h ⊢;by_cases e:(pV true F limit a st m).1=0
  .rw[aF e] at h ⊢;exact ih h
  rw[ay e] at h ⊢;unfold pV at h ⊢;split at h
  .cases h
  rename_i h1;rw[ay h1];split at h
  .cases h
  rename_i h2;rw[ay h2];dsimp only at h ⊢;split at h
  .rename_i h3;exact⟨_,List.getLast?_concat,h3⟩
  cases h
theorem aj0{limit:Nat}:∀ {f k:Nat} {st:List cE},(Az true F limit f k st).1=2->∃x,(Az true F limit f k st).2.getLast?=some x/\(Af F x.c).2=true:=by
 intro f
 induction f with
 |zero=>intro k st h;cases h
 |succ f ih=>
  intro k st h;cases hs:st[k]? with
  |none=>rw[O0 hs] at h;cases h
  |some a=>
   rw[Lx hs] at h ⊢;by_cases e:(j8 true F limit a st (pK F a.c)).1=0
   .rw[aF e] at h ⊢;exact ih h
   rw[ay e] at h ⊢;exact ai2 h
def vI(l:List cE):cE:=l.getLast?.getD ⟨[],[],[]⟩
noncomputable def qE (F:Nat) (l:List cE):cE:=(l[(uN F (l.map cE.n) l.length).toNat]?).getD ⟨[],[],[]⟩
noncomputable def Bq (F limit:Nat):Nat->List Let->List aP->List Let×List aP×Bool
 |0,_,_=>([],[],false)
 |f+1,a,p=>if (fU true F limit (dU F a).2).1=2 then Bq F limit f (vI (fU true F limit (dU F a).2).2).c (p++(dU F a).1++(vI (fU true F limit (dU F a).2).2).w)
  else ((qE F (fU true F limit (dU F a).2).2).n,p++(dU F a).1++(qE F (fU true F limit (dU F a).2).2).w,(fU true F limit (dU F a).2).1==0)
noncomputable def NL (F limit:Nat) (ls:List Let):List Let×List aP×Bool:=Bq F limit (ls.length+2) (cT ls) []
theorem agC:∀ {a b:List aP} {L K:List Let},te F L a=some K->te F L (a++b)=te F K b:=by
 intro a
 induction a with
 |nil=>intro b L K h;cases h;rfl
 |cons m r ih=>
  intro b L K h;show(match jT F L m with|none=>none|some L=>te F L (r++b))=_;have h:(match jT F L m with|none=>none|some L=>te F L r)=some K:=h;cases ha:jT F L m with
  |none=>rw[ha] at h;cases h
  |some J=>rw[ha] at h;exact ih h
structure r6 (F:Nat) (N:List Let) (b:Nat) (a:List Let) (p:List aP):Prop where
 chk:cQ (F:Int) a=0
 rep:te F N p=some a
 kind:∀m∈p,k5 m.k
 len:p.length+a.length<=N.length+b
theorem r6.red{N a:List Let}{b:Nat}{p:List aP}(h:r6 F N b a p):r6 F N b (dU F a).2 (p++(dU F a).1):=by
 obtain⟨r,_,_⟩:=Oc h.chk;refine⟨r.chk,by rw[agC h.rep];exact r.rep,fun m hm=>?_,?_⟩
 .rcases eD.1 hm with h1|h1
  .exact h.kind m h1
  have:=r.kind m h1;simp only[cM,gC,or_false] at this;unfold k5;omega
 have:=r.len;have:=h.len;rw[ff];omega
theorem r6.mem{N a:List Let}{b n:Nat}{p:List aP}{m:cE}(h:r6 F N b a p)(hm:wy F a n m):r6 F N (b+n) m.c (p++m.w):=by
 refine⟨hm.chk,by rw[agC h.rep];exact hm.rep,fun x hx=>?_,?_⟩
 .rcases eD.1 hx with h1|h1
  .exact h.kind x h1
  have:=hm.kind x h1;simp only[cM,gC,or_false] at this;unfold k5;omega
 have:=hm.len;have:=hm.same;have:=h.len;rw[ff];omega
end
end Go.Abs
namespace Go.Abs
section
variable{F limit:Nat}{st:List cE}
theorem QV{s o:Nat}(h:kU s)(e:iN o=9):¬s=o:=by
 rintro rfl
 unfold kU at h;rw[e] at h;revert h;decide
theorem Xm{s:Nat}(h:kU s):¬s=576000000/\ ¬s=576000064/\ ¬s=576256320/\ ¬s=576320000/\ ¬s=576384320/\ ¬s=576448192/\ ¬s=576512000/\ ¬s=576640384/\ ¬s=576832256/\ ¬s=577088128/\ ¬s=577152192/\ ¬s=577152256/\ ¬s=577280320/\ ¬s=577344384:=by
 repeat' apply And.intro
 all_goals exact QV h rfl
abbrev GR(F:Nat)(x:List Let×List aP×Bool):RV:=.tup [.agg [.p (.int .i64 F),.p (cK x.1),aT fK 7 (mP x.2.1),.p (.bool x.2.2)],.one (.p (.int .i64 0))]
theorem aqW{s1 t1 z1:Nat}{es:List (List PV)}{c:C}{x y w u:PV}{aj:aA}(h:grown s1 t1 z1 es (.one c) aj):iE aj (.tup [.agg [.p x,.p y,c,.p w],.one (.p u)])=some (.tup [.agg [.p x,.p y,aT t1 z1 es,.p w],.one (.p u)]):=by obtain⟨c',o,hc,h2,h3⟩:=h.jv;cases hc;have e1:∀v:PV,jv aj (.p v)=some (.p v,[],[]):=fun _=>rfl;rcases h3 with rfl|rfl<;>simp[iE,sv,ux,ng,mj,h2,e1,apart,uS,rU,Ag]
structure MkC (F:Nat) (st:List cE) (p:List aP) (wh:Bool) (s g:Nat) (ak:Env) (aj:aA):Prop where
 e4:ak 4=.one (.aY 576000064 1 0)
 e9:ak 9=.one (.aY 576320000 1 0)
 FU:ak 13=.one (.hsl s g 5 0 st.length)
 FV:ak 14=vb wh
 xB:∃c0 c1 c2 c3,aj 576000064=(1,some (.var [c0,c1,c2,c3]))
 bf:∃pc,aj 576320000=(1,some (.var [.p (.int .i64 0),.p .nils,pc,.p (.bool false)]))/\grown 576448192 fK 7 (mP p) (.one pc) aj
 bs:aj s=(g,some (.arr GS 5 (ky F st)))
theorem aql{p:List aP}{wh:Bool}{s g:Nat}{ak:Env}{aj:aA}{fc:C}(hs:kU s)(cX:st≠[])(hl:st.length<=100000)(hp:p.length<=100000000)(hw:∀m∈st,m.w.length<=100000)(hn:∀m∈st,m.n.length<=1000000)(h:MkC F st p wh s g ak aj)(DR:ak 16=.one fc)(gf:grown 577152256 vc 2 (se F (st.map cE.n)) (.one fc) aj):
  W S .all i9_r2 (mH .all i9.results fun v aj=>iE aj v=some (GR F ((qE F st).n,p++(qE F st).w,wh))) ak aj:=by
 obtain⟨e4,e9,FU,FV,⟨c0,c1,c2,c3,xB⟩,⟨pc,bf,gp⟩,bs⟩:=h;have vz:=Xm hs;have aI:1<=st.length:=jf.2 cX;have pl:=apn F (st.map cE.n) (by rw[cD];omega) (fun L hL=>by obtain⟨m,hm,rfl⟩:=dp.1 hL;exact hn m hm)
 have Jd:qE F st=(st[(uN F (st.map cE.n) st.length).toNat]?).getD ⟨[],[],[]⟩:=rfl;rw[cD] at pl;rcases W6 F (st.map cE.n) st.length with ⟨h0,_⟩|⟨mJ,ir⟩
 .omega
 obtain⟨b,hb⟩:=th mJ;rw[hb] at pl ir Jd;rw[vZ] at Jd;have tG:b<st.length:=aa;obtain⟨m,hm⟩:=aM tG;rw[hm] at Jd;have Jd:qE F st=m:=Jd;rw[Jd];have M4:(ky F st)[b]?=some (m.ps F):=by rw[fQ,hm];rfl
 have nj:(ky F st).length=st.length:=JW F st;have hwm:=hw m (aU hm);obtain⟨rd,l8,_⟩:=gf.fM;simp only[go_sem,i9_r2,i9,e9,FU,DR,l8,s21,dY pl,bs,tG,M4,cE.ps];simp only[go_sem,bf];refine AO (site:=577344384) (id:=576448192) (xs:=mP m.w) (rd:=[]) (gp.of_eq (by simp only[aN,Nat.reduceEqDiff,if_false])) rfl (.inr (szM _)) (by simp only[ow];omega) fun c' fT r1 u1 g1 gn jE=>?_;have d1:=gn 576320000 ae ae;have d2:=gn 576000064 ae ae;simp only[go_sem,bf,xB] at d1 d2;simp only[go_sem,e4,e9,FV,d1,d2];rw[show mP p++mP m.w=mP (p++m.w) by simp[mP]] at g1;refine⟨?_,?_⟩
 .rcases jE with ⟨rfl,rfl⟩|⟨rfl,rfl⟩|⟨rfl,rfl⟩<;>kernel_rfl
 first
  |exact aqW (g1.of_eq (by simp only[aN,Nat.reduceEqDiff,if_false]))
  |trace_state
theorem aff{j:Nat}{m:cE}(h:st[j]?=some m):se F ((st.map cE.n).take (j+1))=se F ((st.map cE.n).take j)++[[.int .i64 F,cK m.n]]:=by
 have h2:(st.map cE.n)[j]?=some m.n:=by rw[fQ,h];rfl
 obtain⟨hl,e⟩:=aW.1 h2;rw[<- List.take_append_getElem hl,e];exact j6
theorem aqm{p:List aP}{wh:Bool}{s g:Nat}{ak:Env}{aj:aA}(hs:kU s)(cX:st≠[])(hl:st.length<=100000)(hp:p.length<=100000000)(hw:∀m∈st,m.w.length<=100000)(hn:∀m∈st,m.n.length<=1000000)(h:MkC F st p wh s g ak aj)(DR:ak 16=.one (.p .nils))(e64:ak 64=.one (.hsl s g 5 0 st.length))(LY:ak 65=vi st.length)(LZ:ak 66=vi 0):
  W S .all (.loop i9_l1) (lU 2 (yF S .all i9_r2 (mH .all i9.results fun v aj=>iE aj v=some (GR F ((qE F st).n,p++(qE F st).w,wh))))) ak aj:=by
 have vz:=Xm hs;refine cU (fun j ak aj=>MkC F st p wh s g ak aj/\ak 64=.one (.hsl s g 5 0 st.length)/\ak 65=vi st.length/\ak 66=vi j/\ ∃fc,ak 16=.one fc/\grown 577152256 vc 2 (se F ((st.map cE.n).take j)) (.one fc) aj) 0 st.length (bl _) ⟨h,e64,LY,LZ,_,DR,grown.nil⟩ ?_;rintro j ak aj hj ⟨h,e64,LY,LZ,fc,DR,gf⟩
 by_cases au:j<st.length
 .obtain⟨e4,e9,FU,FV,⟨c0,c1,c2,c3,xB⟩,⟨pc,bf,gp⟩,bs⟩:=h;have aL:((j:Int)<(st.length:Int)):=aa;obtain⟨m,hm⟩:=aM au;have M4:(ky F st)[j]?=some (m.ps F):=by rw[fQ,hm];rfl
  have nj:(ky F st).length=st.length:=JW F st;have w1:=cA (n:=j) aa;simp only[go_sem,i9_l1,DR,e64,LY,LZ,au,aL,bs,M4,cE.ps];refine sB (site:=577152256) (id:=577152256) (bytes:=32) (xs:=[[.int .i64 F,cK m.n]]) (rd:=[577152192]) (gf.of_eq (by simp only[aN,Nat.reduceEqDiff,if_false])) (by simp[fh,aN]) (.inl rfl) (by simp only[cD,fX,dh,ez];omega) fun c' fT g1 gn=>?_
  have d1:=gn 576320000 ae ae;have d2:=gn 576000064 ae ae;have d3:=gn 576448192 ae ae;have d4:=gn s (QV hs rfl) (QV hs rfl);simp only[go_sem,bf,xB,bs,vz] at d1 d2 d3 d4;rw[<- aff hm] at g1;simp only[go_sem,DR,e64,LY,LZ,w1];have hI:∀aD:Env,aD 4=ak 4->aD 9=ak 9->aD 13=ak 13->aD 14=ak 14->MkC F st p wh s g aD fT:=fun aD q4 q9 q13 q14=>⟨q4.trans e4,q9.trans e9,q13.trans FU,q14.trans FV,⟨c0,c1,c2,c3,d2⟩,⟨pc,d1,gp.of_eq d3⟩,d4⟩;first
   |exact⟨au,hI _ rfl rfl rfl rfl,c',rfl,g1⟩
   |(refine⟨au,hI _ ?_ ?_ ?_ ?_,c',rfl,g1⟩<;>(simp only[go_sem];first|done|rfl))
   |trace_state
 have MW:j=st.length:=aa;subst MW;have l9:(st.map cE.n).take st.length=st.map cE.n:=fR (by rw[cD];exact bJ _);rw[l9] at gf;simp only[go_sem,i9_l1,LY,LZ,dT];refine aql (g:=g) hs cX hl hp hw hn (fc:=fc) ?_ ?_ gf
 .obtain⟨e4,e9,FU,FV,xB,bf,bs⟩:=h;refine⟨?_,?_,?_,?_,xB,bf,bs⟩;all_goals(simp only[go_sem,e4,e9,FU,FV];first|done|rfl)
 simp only[go_sem,DR];first|done|rfl
theorem SZ{al:Al}{vs:List V}{aj:aA}:(allow (S.ctx al) 24 vs aj).fs.contains 43=true:=by show(S.sites 24).contains _=true;kernel_rfl
theorem SY{al:Al}{vs:List V}{aj:aA}:(allow (S.ctx al) 24 vs aj).fs.contains 47=true:=by show(S.sites 24).contains _=true;kernel_rfl
theorem Z6{al:Al}{vs:List V}{aj:aA}:(allow (S.ctx al) 24 vs aj).fs.contains 29=true:=by show(S.sites 24).contains _=true;kernel_rfl
theorem Zi{sb:Bool}{a:cE}{m:aP}(h:st.length<=limit):(pV sb F limit a st m).2.length<=limit:=by
 unfold pV;split
 .exact h
 split
 .exact h
 simp only[ff,dh,ez];omega
theorem Zg{sb:Bool}{a:cE}:∀ {ms:List aP} {st:List cE},st.length<=limit->(j8 sb F limit a st ms).2.length<=limit:=by
 intro ms
 induction ms with
 |nil=>intro st h;exact h
 |cons m r ih=>
  intro st h;rw[Sy];split
  .exact ih (Zi h)
  exact Zi h
theorem ajZ{sb:Bool}:∀ {f k:Nat} {st:List cE},st.length<=limit->(Az sb F limit f k st).2.length<=limit:=by
 intro f
 induction f with
 |zero=>intro k st h;exact h
 |succ f ih=>
  intro k st h;cases hs:st[k]? with
  |none=>rw[O0 hs];exact h
  |some a=>
   rw[Lx hs];split
   .exact ih (Zg h)
   exact Zg h
theorem S1{sb:Bool}{L0:List Let}(h:1<=limit):(fU sb F limit L0).2.length<=limit:=ajZ h
def WU:aJ->Bool
 | .seq _ b=>WU b
 | .ret=>true
 |_=>false
theorem al5{sh:Ctx}{cp:fH}{cs:jz}{n:Nat}:∀ {c:aJ} {ak:Env} {aj:aA} {e:lG} {aD:Env} {ao:aA},WU c=true->exec sh cp cs n c ak aj=some (e,aD,ao)->e≠ .normal:=by
 intro c
 induction c with
 |seq a b iha ihb=>
  intro ak aj e aD ao hc h;simp only[exec] at h;split at h
  .exact ihb hc h
  rename_i hx;rintro rfl
  exact hx _ _ h
 |ret=>intro ak aj e aD ao hc h;cases h;exact fun h=>by cases h
 |_=>intro ak aj e aD ao hc;cases hc
theorem Zc{al:Al}{c:aJ}{Q Q':dD}{ak:Env}{aj:aA}(hc:WU c=true)(h:W S al c Q ak aj)(hq:∀e ak aj,e≠ .normal->Q e ak aj->Q' e ak aj):W S al c Q' ak aj:=by obtain⟨n,e,aD,ao,h1,h2⟩:=h;exact⟨n,e,aD,ao,h1,hq _ _ _ (al5 hc h1) h2⟩
theorem amF{R:V->aA->Prop}{Q:dD}{ak:Env}{aj:aA}(h:W S .all (.loop i9_l1) (lU 2 (yF S .all i9_r2 (mH .all i9.results R))) ak aj)
  (hR:∀ak aj,mH .all i9.results R .ret ak aj->Q .ret ak aj):W S .all (.loop i9_l1) (lU 2 (yF S .all i9_r2 (lU 1 Q))) ak aj:=by
 have key:∀e ak aj,e≠lG.normal->mH .all i9.results R e ak aj->lU 1 Q e ak aj:=fun e ak aj hn h=>by
  cases e with
  |normal=>exact absurd rfl hn
  |ret=>exact hR _ _ h
  |exit i=>exact h.elim
 refine h.mono fun e ak aj h=>?_;cases e with
 |normal=>exact Zc rfl h key
 |ret=>exact hR _ _ h
 |exit i=>
  simp only[lU] at h ⊢;by_cases hi:i=2
  .rw[aF hi] at h ⊢;exact Zc rfl h key
  rw[ay hi] at h;exact False.elim h
structure MkH (F limit:Nat) (a:List Let) (p:List aP) (ak:Env) (aj:aA):Prop where
 e1:ak 1=vi limit
 e4:ak 4=.one (.aY 576000064 1 0)
 e7:ak 7=.one (.aY 576256320 1 0)
 e9:ak 9=.one (.aY 576320000 1 0)
 xB:∃c0 c1 c2 c3,aj 576000064=(1,some (.var [c0,c1,c2,c3]))
 ba:∃x,aj 576256320=(1,some (.var [.p (.int .i64 F),.p x]))/\x.norm=cK a
 bf:∃pc,aj 576320000=(1,some (.var [.p (.int .i64 0),.p .nils,pc,.p (.bool false)]))/\grown 576832256 fK 7 (mP p) (.one pc) aj
theorem ajY(h:st≠[]):qE F st∈st:=by
 unfold qE;have aI:1<=st.length:=jf.2 h;rcases W6 F (st.map cE.n) st.length with ⟨h0,_⟩|⟨mJ,ir⟩
 .omega
 obtain⟨b,hb⟩:=th mJ;rw[hb] at ir ⊢;rw[vZ];obtain⟨m,hm⟩:=aM (ls:=st) (k:=b) aa;rw[hm];exact aU hm
theorem QB(h:st≠[]):st[st.length-1]?=some (vI st)/\vI st∈st:=by
 have e:st.getLast?=some (vI st):=by
  unfold vI;cases hg:st.getLast? with
  |none=>exact absurd (List.getLast?_eq_none_iff.1 hg) h
  |some x=>rfl
 refine⟨by rw[<- List.getLast?_eq_getElem?];exact e,List.mem_of_getLast? e⟩
def Ir(s:Nat)(L:List Let)(c:C)(aj:aA):Prop:=c=.p (cK L)\/grown s lN 6 (dF L) (.one c) aj
theorem Ir.snap{s:Nat}{L:List Let}{c:C}{aj:aA}(h:Ir s L c aj):∃r,(∀B:aA,(∀i∈r,B i=aj i)->Go.Abs.snap B fM c=some (cK L,r))/\(r=[]\/r=[s])/\oJ aj r/\ ∀n,jK aj (n+1) c=r:=by
 rcases h with rfl|h
 .exact⟨[],(fun B _=>rfl),.inl rfl,oJ.nil,fun n=>rfl⟩
 obtain⟨r,h1,h2⟩:=h.KD;rcases h with ⟨e,e2⟩|⟨e,g,e2,hb⟩
 .cases e2;have:=h1 aj rfl;rw[e] at this;have:some ((PV.sl []:PV),([]:List Nat))=some (.sl [],r):=this;simp at this;subst this;exact⟨[],by have e3:=Yy.1 e;subst e3;exact fun B _=>h1 aj rfl,.inl rfl,oJ.nil,fun n=>rfl⟩
 cases e2;have:=h1 aj rfl;have h3:Go.Abs.snap aj fM (.hsl s g 6 0 (dF L).length)=some (.sl (dF L),[s]):=by have ht:List.take L.length (dF L)=dF L:=fR (by rw[cD];exact bJ _);simp[Go.Abs.snap,fM,hb,ht]
 rw[h3] at this;simp at this;subst this;exact⟨[s],fun B hB=>h1 B (hB s (lD.2 rfl)),.inr rfl,fun i hi=>by rw[lD.1 hi];exact⟨_,_,_,_,hb⟩,fun n=>Dj hb⟩
theorem amX{Q:dD}{ak:Env}{aj:aA}{os:List bG}{d:Option Nat}{F:Nat}{ls M:List Let}{ms:List aP}{r:RV}{f:Nat}{vs:List V}{s:Nat}(hp:aK S f vs r)(hr:XH F ls ms M r)(eG:S.lone s=false)
  (hK:∀(c e:C) ao,Ir (s+1) M c ao->grown (s+2) fK 7 (mP ms) (.one e) ao->(∀i,i≠s+1->i≠s+2->ao i=aj i)->RN S .all os Q (put ak d (.tup [.agg [.p (.int .i64 F),c],.one e])) ao):gP S .all (.pc f vs [] s) d os Q ak aj:=by
 rcases hr with ⟨rfl,rfl,rfl⟩|rfl
 .exact(cV hp (by rw[eG];rfl)).2 (hK _ _ _ (.inl rfl) grown.nil fun _ _ _=>rfl)
 exact amV hp eG rfl (Kz _) (XN _) fun c e ao h1 h2 h3=>hK c e ao (.inr h1) h2 h3
theorem NR{o:Nat}(e:iN o=9):¬kU o:=fun h=>QV h e rfl
theorem aqc{k:Nat}{m:cE}(h:st[k]?=some m):(ky F st)[k]?=some [.int .i64 F,cK m.c,.int .i64 F,cK m.n,oz m.w]:=by rw[fQ,h];rfl
theorem agw{ij:aA}{gv:Nat}{cc:C}{r0:List Nat}(h4:ij 576512000=(gv,some (.var [.p (.bool false)])))(Qh:∀n,jK ij (n+1) cc=r0):((([V.agg [.p (.int .i64 F),cc],vi limit,Hl true gv]:List V).map (jc ij)).flatten)=r0++[576512000]:=by
 have r1:jc ij (.agg [.p (.int .i64 F),cc])=r0:=by show([C.p (.int .i64 F),cc].map (jK ij 6)).flatten=r0;simp only[dK,j7,lQ,HE,jP,Qh,Ku,fY]
 have r2:jc ij (Hl true gv)=[576512000]:=by
  show([]:List Nat)++([C.aY 576512000 gv 0].map (jK ij 5)).flatten=_;simp only[dK,j7,lQ,HE,jP,fY];have:jK ij 5 (.aY 576512000 gv 0)=576512000::(([C.p (.bool false)]).map (jK ij 4)).flatten:=by rw[jK,h4]
  rw[this];rfl
 rw[dK,dK,dK,j7,r1,r2];show r0++([]++([576512000]++[]))=_;simp
theorem aqo(bR:pX){F limit:Nat}{a:List Let}{p:List aP}{ak:Env}{aj:aA}{Q:dD}(iL:1<=limit)(iH:limit<=20000)(iW:cQ (F:Int) a=0)(hp:p.length<=50000000)(hI:MkH F limit a p ak aj)
  (hN:∀(aD:Env) (ao:aA),(fU true F limit (dU F a).2).1=2->MkH F limit (vI (fU true F limit (dU F a).2).2).c (p++(dU F a).1++(vI (fU true F limit (dU F a).2).2).w) aD ao->Q .normal aD ao)
  (hR:∀(aD:Env) (ao:aA),(fU true F limit (dU F a).2).1≠2->(mH .all i9.results fun v aj=>iE aj v=some (GR F ((qE F (fU true F limit (dU F a).2).2).n,p++(dU F a).1++(qE F (fU true F limit (dU F a).2).2).w,(fU true F limit (dU F a).2).1==0))) .ret aD ao->Q .ret aD ao):W S .all i9_l3 Q ak aj:=by
 obtain⟨e1,e4,e7,e9,⟨c0,c1,c2,c3,xB⟩,⟨x,ba,hx⟩,⟨pc,bf,gp⟩⟩:=hI;obtain⟨PJ,dk,r,hr,pr⟩:=Oc iW;generalize dU F a=q at*;have nj:=PJ.len;have fi:=FJ iW;have mR:S.lone 576384064=false:=ah;simp only[go_sem,i9_l3,e7,ba,hx,s28];refine amX pr hr mR fun cc ec bQ gc ge dd=>?_;have gc:Ir 576384065 q.2 cc bQ:=gc;have ge:grown 576384066 fK 7 (mP q.1) (.one ec) bQ:=ge;have d1:=dd 576000064 ae ae;have d2:=dd 576256320 ae ae;have d3:=dd 576320000 ae ae;have d4:=dd 576832256 ae ae;simp only[go_sem,ba,bf,xB] at d1 d2 d3 d4;have F5:=gp.of_eq d4;clear dd d4;simp only[go_sem,e9,d3]
 obtain⟨re,Np,_⟩:=(ge.of_eq (ao:=dJ (dJ bQ 576384320 ((bQ 576384320).1+1,some (.var [.p (.int .i64 0),.p .nils]))) 576384320 ((bQ 576384320).1+1,some (.var [.p (.int .i64 F),cc]))) (by simp only[aN,Nat.reduceEqDiff,if_false])).elems;refine sB (site:=576448192) (id:=576832256) (bytes:=48) (xs:=mP q.1) (rd:=re) (F5.of_eq (by simp only[aN,Nat.reduceEqDiff,if_false])) Np (.inr (szM _)) (by simp only[ow];omega) fun c' fT g1 gn=>?_;have f1:=gn 576000064 ae ae;have f2:=gn 576256320 ae ae;have f3:=gn 576320000 ae ae;have f5:=gn 576384065 ae ae;have f6:=gn 576384320 ae ae;simp only[go_sem,d1,d2,d3] at f1 f2 f3 f5 f6;have I2:Ir 576384065 q.2 cc fT:=by
  rcases gc with h|h
  .exact .inl h
  exact .inr (h.of_eq f5)
 rw[show mP p++mP q.1=mP (p++q.1) by simp[mP]] at g1;clear gn Np ge F5 gc f5 d1 d2 d3;simp only[go_sem,e1,e9,f3,f6,s24];refine VG fun ij jV=>?_;have h1:ij 576000064=(1,some (.var [c0,c1,c2,c3])):=by rw[jV];simp only[aN,Nat.reduceEqDiff,if_false];exact f1
 have h2:ij 576256320=(1,some (.var [.p (.int .i64 F),.p x])):=by rw[jV];simp only[aN,Nat.reduceEqDiff,if_false];exact f2
 have h3:ij 576320000=(1,some (.var [.p (.int .i64 0),.p .nils,c',.p (.bool false)])):=by rw[jV];simp only[aN,Nat.reduceEqDiff,if_true,if_false]
 have h4:ij 576512000=((fT 576512000).1+1,some (.var [.p (.bool false)])):=by rw[jV];simp only[aN,Nat.reduceEqDiff,if_true,if_false]
 have g4:grown 576448192 fK 7 (mP (p++q.1)) (.one c') ij:=g1.of_eq (by rw[jV];simp only[aN,Nat.reduceEqDiff,if_false]);have gc4:Ir 576384065 q.2 cc ij:=by
  rcases I2 with h|h
  .exact .inl h
  exact .inr (h.of_eq (by rw[jV];simp only[aN,Nat.reduceEqDiff,if_false]))
 generalize (fT 576512000).1+1=gv at h4;clear jV g1 I2 f1 f2 f3;obtain⟨r0,l8,uI,har,Qh⟩:=gc4.snap;have sR:=agw (F:=F) (limit:=limit) h4 Qh;have nT:∀i∈r0,i=576384065:=fun i hi=>by
  rcases uI with h|h
  .rw[h] at hi;cases hi
  rw[h] at hi;exact lD.1 hi
 have I9:wx true (allow (S.ctx .all) 24 [V.agg [.p (.int .i64 F),cc],vi limit,Hl true gv] ij):=⟨fun id h=>um (by rw[h];kernel_rfl),SZ,SY,fun _=>Z6,fun _=>r7 (by rw[sR];simp)⟩;have de:=SX I9 bR (F:=F) (limit:=limit) (L0:=q.2) (gv:=gv) (z:=(0,none)) (c0:=cc) (r0:=r0) (aj:=ij) iL iH PJ.chk (fun B hB=>l8 B hB) har (fun i hi=>⟨r7 (by rw[sR];simp[hi]),by rw[nT i hi];exact NR rfl,by rw[nT i hi];decide⟩) h4;refine qK yj de fun v5 yY hP=>?_;obtain⟨s,g,rfl,hs,lL,AW,aI,dM,kO⟩:=hP;have AW:yY 576512000=(gv,some (.var [.p (.bool ((fU true F limit q.2).1==2))])):=AW;have hnr:∀i,i≠576384065->i∉r0:=fun i h hi=>h (nT i hi)
 have k1:=(kO 576000064 (NR rfl) ae (hnr _ ae)).trans h1;have k2:=(kO 576256320 (NR rfl) ae (hnr _ ae)).trans h2;have k3:=(kO 576320000 (NR rfl) ae (hnr _ ae)).trans h3;have g5:=g4.of_eq (kO 576448192 (NR rfl) ae (hnr _ ae));clear de I9 sR kO g4 h1 h2 h3 h4 l8 Qh har;have vz:=Xm hs;obtain⟨vu,adl⟩:=QB aI;have MD:=S1 (sb:=true) (F:=F) (L0:=q.2) iL;generalize fU true F limit q.2=cr at*;have hlen:(ky F cr.2).length=cr.2.length:=JW F cr.2;have gE:=jf.2 aI;have adg:=aqc (F:=F) vu;have uL:IntKind.i64.wrap ((cr.2.length:Int)-1)=((cr.2.length-1:Nat):Int):=Hv aa aa;have adm:cr.2.length-1<cr.2.length:=aa;have gdl:=dM _ adl;generalize vI cr.2=lm at*;have jm:=fun m hm=>(dM m hm).len;by_cases h2:cr.1=2
 .have hb:(cr.1==2)=true:=by rw[h2];rfl
  simp only[go_sem,hb,e7,e9,lL,adg,uL,adm,AW,k2,k3];refine sB (site:=576832256) (id:=576448192) (bytes:=48) (xs:=mP lm.w) (rd:=[]) (g5.of_eq (by simp only[aN,Nat.reduceEqDiff,if_false])) rfl (.inr (szM _)) (by have:=jm _ adl;simp only[ow,ff];omega) fun cz blk6 g6 hb6=>?_;have d1:=hb6 576000064 ae ae;have d2:=hb6 576256320 ae ae;have d3:=hb6 576320000 ae ae;simp only[go_sem,k1,k2,k3] at d1 d2 d3;rw[show mP (p++q.1)++mP lm.w=mP (p++q.1++lm.w) by simp[mP]] at g6;simp only[go_sem,e9,d3];refine hN _ _ h2 ⟨e1,e4,e7,e9,⟨c0,c1,c2,c3,?_⟩,⟨cK lm.c,?_,rfl⟩,⟨cz,?_,?_⟩⟩
  .simp only[go_sem,d1]
  .simp only[go_sem,d2]
  .simp only[go_sem,d3]
  exact g6.of_eq (by simp only[aN,Nat.reduceEqDiff,if_false])
 have hb:(cr.1==2)=false:=by simpa using h2
 simp only[go_sem,hb,lL,adg,uL,adm,AW];refine amF (aqm (p:=p++q.1) (wh:=cr.1==0) hs aI aa (by rw[ff];omega) (fun m hm=>by have:=jm m hm;omega) (fun m hm=>?_) ⟨e4,e9,rfl,rfl,⟨c0,c1,c2,c3,?_⟩,⟨c',?_,?_⟩,?_⟩ rfl rfl ?_ rfl) fun ak aj h=>hR _ _ h2 h
 .rw[(dM m hm).ES];have h5:=ET m.c;have h6:=(dM m hm).same;omega
 .simp only[go_sem,k1]
 .simp only[go_sem,k3]
 .exact g5.of_eq (by simp only[aN,Nat.reduceEqDiff,if_false])
 .simp only[go_sem,lL,vz]
 simp only[go_sem]
theorem aeU{f:Int}{ls:List Let}{n:Nat}(hl:ls.length<=1000000)(h1:1<=n)(h2:n<=20000):aK S 23 [dR f ls,vi n] (ri (cQ f ls)):=by
 have pc:=aku f ls hl;have a1:¬((n:Int)<1):=aa;have a2:¬((20000:Int)<(n:Int)):=aa;generalize cQ f ls=e at*;refine bh c23 ?_;by_cases h:e=0
 .subst h;have FT:((0:Int)!=0)=false:=ae;simp only[go_sem,i23,s35,dY pc,FT,a1,a2];first|done|rfl
 have e1:(e !=0)=true:=by simpa using h
 simp only[go_sem,i23,s35,dY pc,e1];first|done|rfl
theorem LK(bR:pX){L0:List Let}(iL:1<=limit)(iH:limit<=20000)(h0:cQ (F:Int) L0=0):(fU true F limit L0).2≠[]/\ ∀m∈(fU true F limit L0).2,wy F L0 (fU true F limit L0).2.length m:=by
 have h4:(fun i=>if i=576512000 then (1,some (.var [.p (.bool false)])) else (0,none):aA) 576512000=(1,some (.var [.p (.bool false)])):=aF rfl;generalize (fun i=>if i=576512000 then (1,some (.var [.p (.bool false)])) else (0,none):aA)=ij at h4;have sR:=agw (F:=F) (limit:=limit) (cc:=.p (cK L0)) (r0:=[]) h4 fun n=>rfl
 have I9:wx true (allow (S.ctx .all) 24 [V.agg [.p (.int .i64 F),.p (cK L0)],vi limit,Hl true 1] ij):=⟨fun id h=>um (by rw[h];kernel_rfl),SZ,SY,fun _=>Z6,fun _=>r7 (by rw[sR];simp)⟩;obtain⟨v,ao,_,hP⟩:=SX I9 bR (F:=F) (limit:=limit) (L0:=L0) (gv:=1) (z:=(0,none)) (c0:=.p (cK L0)) (r0:=[]) (aj:=ij) iL iH h0 (fun B hB=>rfl) oJ.nil (fun i hi=>by cases hi) h4;obtain⟨s,g,_,_,_,_,aI,dM,_⟩:=hP;exact⟨aI,dM⟩
noncomputable def GV (F:Nat) (a:List Let):Nat:=a.length+(if (Af F a).2 then 0 else 1)
theorem afk(bR:pX){a:List Let}(iL:1<=limit)(iH:limit<=20000)(iW:cQ (F:Int) a=0)(h2:(fU true F limit (dU F a).2).1=2):GV F (vI (fU true F limit (dU F a).2).2).c+1<=GV F a:=by
 obtain⟨PJ,_,_⟩:=Oc iW;obtain⟨aI,dM⟩:=LK bR iL iH PJ.chk;have hb:∃x,(fU true F limit (dU F a).2).2.getLast?=some x/\(Af F x.c).2=true:=aj0 h2;obtain⟨x,hx,hr⟩:=hb;have MY:vI (fU true F limit (dU F a).2).2=x:=by unfold vI;rw[hx];rfl
 have hs:=(dM _ (QB aI).2).same;rw[MY] at hs ⊢;obtain⟨k1,k2⟩:=asn iW;unfold GV;rw[hr];simp only[if_true];by_cases hd:(Af F a).2=true
 .have:=k2 hd;rw[aF hd];omega
 rw[ay hd];omega
theorem ai0{al:Al}{Q:dD}{ak:Env}{aj:aA}{c:aJ}(h:W S al c (KJ (fun e b=>W S al (.loop c) Q e b) Q) ak aj):W S al (.loop c) Q ak aj:=by
 obtain⟨n,e,aD,ao,h1,h2⟩:=h;cases e with
 |normal=>obtain⟨m,e,cZ,bj,h3,h4⟩:=h2;refine⟨max n m+1,e,cZ,bj,?_,h4⟩;have h5:=zk S (mT (Fo n m) (Le _)) h1;have h6:=zk S (HN n m) h3;simp only[exec] at h6 ⊢;have h7:=Qw S (Le (max n m)) (bJ _) h6;rw[iter,h5];exact h7
 |exit i=>refine⟨n+1,_,_,_,?_,h2⟩;have h5:=zk S (Le n) h1;simp only[exec,iter,h5]
 |ret=>refine⟨n+1,_,_,_,?_,h2⟩;have h5:=zk S (Le n) h1;simp only[exec,iter,h5]
theorem afc{f:Nat}{a:List Let}{p:List aP}(h:(fU true F limit (dU F a).2).1=2):Bq F limit (f+1) a p=Bq F limit f (vI (fU true F limit (dU F a).2).2).c (p++(dU F a).1++(vI (fU true F limit (dU F a).2).2).w):=by rw[Bq,aF h]
theorem W7{f:Nat}{a:List Let}{p:List aP}(h:(fU true F limit (dU F a).2).1≠2):Bq F limit (f+1) a p=((qE F (fU true F limit (dU F a).2).2).n,p++(dU F a).1++(qE F (fU true F limit (dU F a).2).2).w,(fU true F limit (dU F a).2).1==0):=by rw[Bq,ay h]
theorem r6.round(bR:pX){N a:List Let}{b:Nat}{p:List aP}(iL:1<=limit)(iH:limit<=20000)(h:r6 F N b a p){m:cE}(hm:m∈(fU true F limit (dU F a).2).2):r6 F N (b+limit) m.c (p++(dU F a).1++m.w)/\m.n=cT m.c:=by have hr:=h.red;obtain⟨aI,dM⟩:=LK bR iL iH hr.chk;have hg:=dM m hm;exact⟨hr.mem (hg.mono (S1 iL)),hg.ES⟩
theorem ap0(bR:pX){N:List Let}(iL:1<=limit)(iH:limit<=20000):∀(f:Nat) {a:List Let} {p:List aP} {b:Nat},GV F a<f->r6 F N b a p->∃K,r6 F N (b+f*limit) K (Bq F limit f a p).2.1/\(Bq F limit f a p).1=cT K:=by
 intro f
 induction f with
 |zero=>intro a p b hm;omega
 |succ f ih=>
  intro a p b hm hP;by_cases h2:(fU true F limit (dU F a).2).1=2
  .rw[afc h2];obtain⟨aI,dM⟩:=LK bR iL iH hP.red.chk;obtain⟨h3,_⟩:=hP.round bR iL iH (QB aI).2;have h4:=afk bR iL iH hP.chk h2;obtain⟨K,k1,k2⟩:=ih aa h3;exact⟨K,by rw[show b+(f+1)*limit=b+limit+f*limit by rw[So];omega];exact k1,k2⟩
  rw[W7 h2];obtain⟨aI,dM⟩:=LK bR iL iH hP.red.chk;obtain⟨h3,h4⟩:=hP.round bR iL iH (ajY (F:=F) aI);refine⟨_,⟨h3.chk,h3.rep,h3.kind,?_⟩,h4⟩;have h5:=h3.len;have h6:0<=f*limit:=bl _;rw[So];show(p++(dU F a).1++(qE F (fU true F limit (dU F a).2).2).w).length+(qE F (fU true F limit (dU F a).2).2).c.length<=_;omega
theorem aqn(bR:pX){N:List Let}(iL:1<=limit)(iH:limit<=20000)(hN:N.length<=1000):∀(f:Nat) {a:List Let} {p:List aP} {b:Nat} {ak:Env} {aj:aA} {Q:dD},GV F a<f->r6 F N b a p->b+f*limit<=40000000->MkH F limit a p ak aj->
  (∀(aD:Env) (ao:aA),(mH .all i9.results fun v aj=>iE aj v=some (GR F (Bq F limit f a p))) .ret aD ao->Q .ret aD ao)->W S .all (.loop i9_l3) Q ak aj:=by
 intro f
 induction f with
 |zero=>intro a p b ak aj Q hm;omega
 |succ f ih=>
  intro a p b ak aj Q hm hP hb hI hQ;have bU:=hP.len;have hz:0<=f*limit:=bl _;rw[So] at hb;refine ai0 (aqo bR iL iH hP.chk aa hI (fun aD ao h2 Ee=>?_) fun aD ao h2 hr=>?_)
  .obtain⟨aI,dM⟩:=LK bR iL iH hP.red.chk;obtain⟨h3,_⟩:=hP.round bR iL iH (QB aI).2;have h4:=afk bR iL iH hP.chk h2;exact ih aa h3 aa Ee fun aD ao h=>hQ _ _ (by rw[afc h2];exact h)
  exact hQ _ _ (by rw[W7 h2];exact hr)
theorem r6.start{ls:List Let}(h:cQ (F:Int) ls=0):r6 F (cT ls) 0 (cT ls) []:=⟨EU h,rfl,(fun m hm=>by cases hm),af⟩
theorem afg(ls:List Let):GV F (cT ls)<ls.length+2:=by have:=ET ls;unfold GV;split<;>omega
theorem ap1(bR:pX){ls:List Let}(iL:1<=limit)(iH:limit<=20000)(h:cQ (F:Int) ls=0):∃K,r6 F (cT ls) ((ls.length+2)*limit) K (NL F limit ls).2.1/\(NL F limit ls).1=cT K:=by obtain⟨K,k1,k2⟩:=ap0 bR iL iH (ls.length+2) (afg ls) (r6.start h);rw[iQ] at k1;exact⟨K,k1,k2⟩
theorem ap3(bR:pX){ls:List Let}(iL:1<=limit)(iH:limit<=20000)(h:cQ (F:Int) ls=0):aK S 9 [dR F ls,vi limit] (GR F (NL F limit ls)):=by
 have uG:=FJ h;have pl:=aeU (f:=F) (ls:=ls) (n:=limit) aa iL iH;rw[h] at pl;have pn:=QM bR (f:=F) (ls:=ls) aa h;have a3:(cO (gU ls)).norm=cK (cT ls):=LD (gU ls);have FT:((0:Int)!=0)=false:=ae;generalize cO (gU ls)=q at*;refine bh c9 ?_;simp only[go_sem,i9,s23,dY pl,FT,s8,cV pn Qz];have js:=ET ls;have hb:(ls.length+2)*limit<=402*20000:=Nat.mul_le_mul aa iH;refine aqn bR iL iH aa (ls.length+2) (afg ls) (r6.start h) aa ⟨rfl,rfl,rfl,rfl,⟨.p (.int .i64 0),.p .nils,.p .nils,.p (.bool false),?_⟩,⟨q,?_,a3⟩,⟨.p .nils,?_,grown.nil⟩⟩ fun aD ao hr=>?_
 .simp only[go_sem]
 .simp only[go_sem]
 .simp only[go_sem]
 exact hr
theorem aqV{s1 t1 z1:Nat}{es:List (List PV)}{c:C}{x y:PV}{aj:aA}(h:grown s1 t1 z1 es (.one c) aj):iE aj (.tup [.one c,.one (.p x),.one (.p y)])=some (.tup [.one (aT t1 z1 es),.one (.p x),.one (.p y)]):=by obtain⟨c',o,hc,h2,h3⟩:=h.jv;cases hc;have e1:∀v:PV,jv aj (.p v)=some (.p v,[],[]):=fun _=>rfl;rcases h3 with rfl|rfl<;>simp[iE,sv,ux,ng,mj,h2,e1,apart,uS,rU,Ag]
theorem Xn{s o:Nat}(h:kU s)(e:iN o=7):¬s=o:=by
 rintro rfl
 unfold kU at h;rw[e] at h;revert h;decide
abbrev clsV(F:Nat)(r:Nat×List cE):RV:=.tup [.one (aT vc 2 (se F (r.2.map cE.n))),.one (.p (.bool (r.1==0))),.one (.p (.int .i64 0))]
theorem akx{wh:Bool}{s g:Nat}{ak:Env}{aj:aA}(hs:kU s)(hl:st.length<=100000)(II:ak 11=vb wh)(bs:aj s=(g,some (.arr GS 5 (ky F st))))(IJ:ak 12=.one (.p .nils))(e32:ak 32=.one (.hsl s g 5 0 st.length))(LW:ak 33=vi st.length)(LX:ak 34=vi 0):
  W S .all (.loop i7_l1) (lU 0 (yF S .all i7_r2 (mH .all i7.results fun v aj=>iE aj v=some (.tup [.one (aT vc 2 (se F (st.map cE.n))),.one (.p (.bool wh)),.one (.p (.int .i64 0))])))) ak aj:=by
 have n1:=Xn (o:=448576128) hs rfl;have n2:=Xn (o:=448640192) hs rfl;have n3:=Xn (o:=448640256) hs rfl;refine cU (fun j ak aj=>ak 11=vb wh/\ak 32=.one (.hsl s g 5 0 st.length)/\ak 33=vi st.length/\ak 34=vi j/\aj s=(g,some (.arr GS 5 (ky F st)))/\ ∃fc,ak 12=.one fc/\grown 448640256 vc 2 (se F ((st.map cE.n).take j)) (.one fc) aj) 0 st.length (bl _) ⟨II,e32,LW,LX,bs,_,IJ,grown.nil⟩ ?_;rintro j ak aj hj ⟨II,e32,LW,LX,bs,fc,IJ,gf⟩
 by_cases au:j<st.length
 .have aL:((j:Int)<(st.length:Int)):=aa;obtain⟨m,hm⟩:=aM au;have M4:(ky F st)[j]?=some (m.ps F):=by rw[fQ,hm];rfl
  have nj:(ky F st).length=st.length:=JW F st;have w1:=cA (n:=j) aa;simp only[go_sem,i7_l1,IJ,e32,LW,LX,au,aL,bs,M4,cE.ps];refine sB (site:=448640256) (id:=448640256) (bytes:=32) (xs:=[[.int .i64 F,cK m.n]]) (rd:=[448640192]) (gf.of_eq (by simp only[aN,Nat.reduceEqDiff,if_false])) (by simp[fh,aN]) (.inl rfl) (by simp only[cD,fX,dh,ez];omega) fun c' fT g1 gn=>?_;have d4:=gn s n3 n3;simp only[go_sem,bs,n1,n2] at d4;rw[<- aff hm] at g1;simp only[go_sem,II,IJ,e32,LW,LX,w1];exact⟨au,d4,c',rfl,g1⟩
 have MW:j=st.length:=aa;subst MW;have l9:(st.map cE.n).take st.length=st.map cE.n:=fR (by rw[cD];exact bJ _);rw[l9] at gf;simp only[go_sem,i7_l1,i7_r2,i7,II,IJ,LW,LX,dT];exact aqV gf
theorem akz(bR:pX){ls:List Let}(iL:1<=limit)(iH:limit<=20000)(h:cQ (F:Int) ls=0):aK S 7 [dR F ls,vi limit] (clsV F (fU false F limit (cT ls))):=by
 have uG:=FJ h;have pl:=aeU (f:=F) (ls:=ls) (n:=limit) aa iL iH;rw[h] at pl;have pn:=QM bR (f:=F) (ls:=ls) aa h;have a3:(cO (gU ls)).norm=cK (cT ls):=LD (gU ls);have FT:((0:Int)!=0)=false:=ae;generalize cO (gU ls)=q at*;refine bh c7 ?_;simp only[go_sem,i7,s23,dY pl,FT,s8,cV pn Qz,s24];refine VG fun ij jV=>?_
 clear jV;have I9:wx false (allow (S.ctx .all) 24 [V.agg [.p (.int .i64 F),.p q],vi limit,Hl false 0] ij):=⟨fun id h=>um (by rw[h];kernel_rfl),SZ,SY,(fun h=>by cases h),fun h=>by cases h⟩;have de:=SX I9 bR (F:=F) (limit:=limit) (L0:=cT ls) (gv:=0) (z:=ij 576512000) (c0:=.p q) (r0:=[]) (aj:=ij) iL iH (EU h) (fun B _=>by show some (q.norm,[])=_;rw[a3]) oJ.nil (fun i hi=>by cases hi) rfl;have hlen:=S1 (sb:=false) (F:=F) (L0:=cT ls) iL;refine qK yj de fun v5 yY hP=>?_;obtain⟨s,g,rfl,hs,lL,_,aI,dM,_⟩:=hP;generalize fU false F limit (cT ls)=r at*;simp only[go_sem];refine akx (s:=s) (g:=g) hs aa ?_ lL ?_ ?_ ?_ ?_;all_goals(simp only[go_sem];first|done|rfl)
end
end Go.Abs
