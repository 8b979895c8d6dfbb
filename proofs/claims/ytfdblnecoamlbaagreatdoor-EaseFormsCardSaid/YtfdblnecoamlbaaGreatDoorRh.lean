/- A part. -/
import Derived.Test.YtfdblnecoamlbaaGreatDoorRg
set_option linter.all false
set_option maxRecDepth 100000
set_option maxHeartbeats 16000000
namespace Go.Abs
section
variable{F:Nat}
def Yu(F:Nat)(L:ai)(q:g_×ai):Prop:=CG F L q.1 q.2/\HZ F q.2/\ ∃r,Yv F L q.1 q.2 r/\aK S 22 [dY F L] r
open Classical in
noncomputable def fQ (F:Nat) (L:ai):g_×ai:=if h:∃q,Yu F L q then Classical.choose h else ([],[])
def K7{L:ai}(h:bQ (F:Int) L=0):Yu F L (fQ F L):=by
 have he:∃q,Yu F L q:=by obtain⟨r,⟨ms,M,h1,h2,h3⟩,h4⟩:=asQ h (GF h);exact⟨(ms,M),h1,h2,r,h3,h4⟩
 unfold fQ;rw[dif_pos he];exact Classical.choose_spec he
def asO{L:ai}(h:bQ (F:Int) L=0):(fQ F L).2.length<=L.length/\((nK F L).2=true->(fQ F L).2.length<L.length):=by
 obtain⟨h1,h2,_⟩:=K7 h;have hl:=h1.len;refine⟨aa,fun hr=>?_⟩;obtain⟨_,h4,_⟩:=Yq h;have h5:=(h4 hr).2;have aI:(fQ F L).1≠[]:=fun e=>by have kV:=h1.rep;rw[e] at kV;have kV:some L=some (fQ F L).2:=kV;have hLM:=qt kV;rw[<- hLM] at h2;exact h5 h2
 have:=jl.2 aI;omega
def ajn{limit:Nat}{a:aY}:∀ {ms:g_} {st:j_},(gD F limit a st ms).1=2->∃x,(gD F limit a st ms).2.getLast?=some x/\(nK F x.c).2=true:=by
 intro ms
 induction ms with
 |nil=>intro st h;cases h
 |cons m r ih=>
  intro st h;rw[Gq] at h |-;by_cases e:(jD F limit a st m).1=0
  .rw[aD e] at h |-;exact ih h
  rw[ay e] at h |-;unfold jD at h |-;split at h
  .cases h
  rename_i h1;rw[ay h1];split at h
  .cases h
  rename_i h2;rw[ay h2];dsimp only at h |-;split at h
  .rename_i h3;exact⟨_,List.getLast?_concat,h3⟩
  cases h
def akt{limit:Nat}:∀ {f k:Nat} {st:j_},(iR F limit f k st).1=2->∃x,(iR F limit f k st).2.getLast?=some x/\(nK F x.c).2=true:=by
 intro f
 induction f with
 |zero=>intro k st h;cases h
 |succ f ih=>
  intro k st h;cases hs:st[k]? with
  |none=>rw[Ts hs] at h;cases h
  |some a=>
   rw[Po hs] at h |-;by_cases e:(gD F limit a st (jc F a.c)).1=0
   .rw[aD e] at h |-;exact ih h
   rw[ay e] at h |-;exact ajn h
def wR(l:j_):aY:=l.getLast?.getD ⟨[],[],[]⟩
noncomputable def kO (F:Nat) (l:j_):aY:=(l[(qj F (l.map aY.n) l.length).toNat]?).getD ⟨[],[],[]⟩
noncomputable def zj (F limit:Nat):Nat->ai->g_->ai×g_×Bool
 |0,_,_=>([],[],false)
 |f+1,a,p=>if (dE F limit (fQ F a).2).1=2 then zj F limit f (wR (dE F limit (fQ F a).2).2).c (p++(fQ F a).1++(wR (dE F limit (fQ F a).2).2).w)
  else ((kO F (dE F limit (fQ F a).2).2).n,p++(fQ F a).1++(kO F (dE F limit (fQ F a).2).2).w,(dE F limit (fQ F a).2).1==0)
noncomputable def oI (F limit:Nat) (ls:ai):ai×g_×Bool:=zj F limit (ls.length+2) (cN ls) []
def ahm:∀ {a b:g_} {L K:ai},mV F L a=some K->mV F L (a++b)=mV F K b:=by
 intro a
 induction a with
 |nil=>intro b L K h;cases h;rfl
 |cons m r ih=>
  intro b L K h;show(match ft F L m with|none=>none|some L=>mV F L (r++b))=_;have h:(match ft F L m with|none=>none|some L=>mV F L r)=some K:=h;cases ha:ft F L m with
  |none=>rw[ha] at h;cases h
  |some J=>rw[ha] at h;exact ih h
structure rO (F:Nat) (N:ai) (b:Nat) (a:ai) (p:g_):Prop where
 chk:bQ (F:Int) a=0
 rep:mV F N p=some a
 kind:∀m∈p,k5 m.k
 len:p.length+a.length<=N.length+b
def rO.red{N a:ai}{b:Nat}{p:g_}(h:rO F N b a p):rO F N b (fQ F a).2 (p++(fQ F a).1):=by
 obtain⟨r,_,_⟩:=K7 h.chk;refine⟨r.chk,by rw[ahm h.rep];exact r.rep,fun m hm=>?_,?_⟩
 .rcases eK.1 hm with h1|h1
  .exact h.kind m h1
  have:=r.kind m h1;simp only[cD,fq,or_false] at this;unfold k5;omega
 have:=r.len;have:=h.len;rw[fS];omega
def rO.mem{N a:ai}{b n:Nat}{p:g_}{m:aY}(h:rO F N b a p)(hm:xr F a n m):rO F N (b+n) m.c (p++m.w):=by
 refine⟨hm.chk,by rw[ahm h.rep];exact hm.rep,fun x hx=>?_,?_⟩
 .rcases eK.1 hx with h1|h1
  .exact h.kind x h1
  have:=hm.kind x h1;simp only[cD,fq,or_false] at this;unfold k5;omega
 have:=hm.len;have:=hm.same;have:=h.len;rw[fS];omega
end
end Go.Abs
namespace Go.Abs
section
variable{F limit:Nat}
def Rp{s o:Nat}(h:nH s)(e:jO o=6):¬s=o:=by
 rintro rfl
 unfold nH at h;rw[e] at h;revert h;decide
def Yc{s:Nat}(h:nH s):¬s=384000000/\ ¬s=384000064/\ ¬s=384256320/\ ¬s=384320000/\ ¬s=384384320/\ ¬s=384448192/\ ¬s=384512000/\ ¬s=384640384/\ ¬s=384832256/\ ¬s=385088128/\ ¬s=385152192/\ ¬s=385152256/\ ¬s=385280320/\ ¬s=385344384:=by
 repeat' apply And.intro
 all_goals exact Rp h rfl
abbrev KF(F:Nat)(x:ai×g_×Bool):RV:=.tup [.agg [.p (.int .i64 F),.p (cT x.1),aU fO 7 (mP x.2.1),.p (.bool x.2.2)],.one (.p (.int .i64 0))]
def arv{s1 t1 z1:Nat}{es:s_}{c:C}{x y w u:PV}{aj:aB}(h:grown s1 t1 z1 es (.one c) aj):jd aj (.tup [.agg [.p x,.p y,c,.p w],.one (.p u)])=some (.tup [.agg [.p x,.p y,aU t1 z1 es,.p w],.one (.p u)]):=by obtain⟨c',o,hc,h2,h3⟩:=h.jM;cases hc;have e1:∀v:PV,jM aj (.p v)=some (.p v,[],[]):=fun _=>rfl;rcases h3 with rfl|rfl<;>simp[jd,tH,vn,oX,nG,h2,e1,apart,vN,tq,AZ]
structure MkC (F:Nat) (st:j_) (p:g_) (wh:Bool) (s g:Nat) (ak:Env) (aj:aB):Prop where
 e4:ak 4=.one (.aZ 384000064 1 0)
 e9:ak 9=.one (.aZ 384320000 1 0)
 GO:ak 13=.one (.hsl s g 5 0 st.length)
 GP:ak 14=vb wh
 yw:∃c0 c1 c2 c3,aj 384000064=(1,some (.var [c0,c1,c2,c3]))
 bf:∃pc,aj 384320000=(1,some (.var [.p (.int .i64 0),.p .nils,pc,.p (.bool false)]))/\grown 384448192 fO 7 (mP p) (.one pc) aj
 bs:aj s=(g,some (.arr mbT 5 (nC F st)))
def aqW{st:j_}{p:g_}{wh:Bool}{s g:Nat}{ak:Env}{aj:aB}{fc:C}(hs:nH s)(cV:st≠[])(hl:st.length<=100000)(hp:p.length<=100000000)(hw:∀m∈st,m.w.length<=100000)(hn:∀m∈st,m.n.length<=1000000)(h:MkC F st p wh s g ak aj)(EP:ak 16=.one fc)(gf:grown 385152256 Bm 2 (CT F (st.map aY.n)) (.one fc) aj):
  W S .all i6_r2 (nj .all i6.results fun v aj=>jd aj v=some (KF F ((kO F st).n,p++(kO F st).w,wh))) ak aj:=by
 obtain⟨e4,e9,GO,GP,⟨c0,c1,c2,c3,yw⟩,⟨pc,bf,gp⟩,bs⟩:=h;have wI:=Yc hs;have aI:1<=st.length:=jl.2 cV;have pl:=apV F (st.map aY.n) (by rw[cM];omega) (fun L hL=>by obtain⟨m,hm,rfl⟩:=dh.1 hL;exact hn m hm)
 have Fi:kO F st=(st[(qj F (st.map aY.n) st.length).toNat]?).getD ⟨[],[],[]⟩:=rfl;rw[cM] at pl;rcases Og F (st.map aY.n) st.length with ⟨h0,_⟩|⟨mu,iW⟩
 .omega
 obtain⟨b,hb⟩:=tA mu;rw[hb] at pl iW Fi;rw[pP] at Fi;have sT:b<st.length:=aa;obtain⟨m,hm⟩:=aM sT;rw[hm] at Fi;have Fi:kO F st=m:=Fi;rw[Fi];have hme:(nC F st)[b]?=some (m.ps F):=by rw[fG,hm];rfl
 have jq:(nC F st).length=st.length:=Oi F st;have hwm:=hw m (aV hm);obtain⟨rd,lJ,_⟩:=gf.fE;simp only[go_sem,i6_r2,i6,e9,GO,EP,lJ,s19,eT pl,bs,sT,hme,aY.ps];simp only[go_sem,bf];refine Bn (site:=385344384) (id:=384448192) (xs:=mP m.w) (rd:=[]) (gp.of_eq (by simp only[aO,Nat.reduceEqDiff,if_false])) rfl (.inr (szM _)) (by simp only[pL];omega) fun c' ig r1 u1 g1 gk jV=>?_;have d1:=gk 384320000 ae ae;have d2:=gk 384000064 ae ae;simp only[go_sem,bf,yw] at d1 d2;simp only[go_sem,e4,e9,GP,d1,d2];rw[show mP p++mP m.w=mP (p++m.w) by simp[mP]] at g1;refine⟨?_,?_⟩
 .rcases jV with ⟨rfl,rfl⟩|⟨rfl,rfl⟩|⟨rfl,rfl⟩<;>kernel_rfl
 first
  |exact arv (g1.of_eq (by simp only[aO,Nat.reduceEqDiff,if_false]))
  |trace_state
def aqK{st:j_}{j:Nat}{m:aY}(h:st[j]?=some m):CT F ((st.map aY.n).take (j+1))=CT F ((st.map aY.n).take j)++[[.int .i64 F,cT m.n]]:=by
 have h2:(st.map aY.n)[j]?=some m.n:=by rw[fG,h];rfl
 obtain⟨hl,e⟩:=aT.1 h2;rw[<- List.take_append_getElem hl,e];exact kZ
def aqX{st:j_}{p:g_}{wh:Bool}{s g:Nat}{ak:Env}{aj:aB}(hs:nH s)(cV:st≠[])(hl:st.length<=100000)(hp:p.length<=100000000)(hw:∀m∈st,m.w.length<=100000)(hn:∀m∈st,m.n.length<=1000000)(h:MkC F st p wh s g ak aj)(EP:ak 16=.one (.p .nils))(e64:ak 64=.one (.hsl s g 5 0 st.length))(Mm:ak 65=vi st.length)(Mn:ak 66=vi 0):
  W S .all (.loop i6_l1) (nh 2 (zy S .all i6_r2 (nj .all i6.results fun v aj=>jd aj v=some (KF F ((kO F st).n,p++(kO F st).w,wh))))) ak aj:=by
 have wI:=Yc hs;refine dy (fun j ak aj=>MkC F st p wh s g ak aj/\ak 64=.one (.hsl s g 5 0 st.length)/\ak 65=vi st.length/\ak 66=vi j/\ ∃fc,ak 16=.one fc/\grown 385152256 Bm 2 (CT F ((st.map aY.n).take j)) (.one fc) aj) 0 st.length (bG _) ⟨h,e64,Mm,Mn,_,EP,grown.nil⟩ ?_;rintro j ak aj hj ⟨h,e64,Mm,Mn,fc,EP,gf⟩
 by_cases aw:j<st.length
 .obtain⟨e4,e9,GO,GP,⟨c0,c1,c2,c3,yw⟩,⟨pc,bf,gp⟩,bs⟩:=h;have aL:((j:Int)<(st.length:Int)):=aa;obtain⟨m,hm⟩:=aM aw;have hme:(nC F st)[j]?=some (m.ps F):=by rw[fG,hm];rfl
  have jq:(nC F st).length=st.length:=Oi F st;have w1:=cS (n:=j) aa;simp only[go_sem,i6_l1,EP,e64,Mm,Mn,aw,aL,bs,hme,aY.ps];refine vq (site:=385152256) (id:=385152256) (bytes:=32) (xs:=[[.int .i64 F,cT m.n]]) (rd:=[385152192]) (gf.of_eq (by simp only[aO,Nat.reduceEqDiff,if_false])) (by simp[fU,aO]) (.inl rfl) (by simp only[cM,iK,dC,fe];omega) fun c' ig g1 gk=>?_
  have d1:=gk 384320000 ae ae;have d2:=gk 384000064 ae ae;have d3:=gk 384448192 ae ae;have d4:=gk s (Rp hs rfl) (Rp hs rfl);simp only[go_sem,bf,yw,bs,wI] at d1 d2 d3 d4;rw[<- aqK hm] at g1;simp only[go_sem,EP,e64,Mm,Mn,w1];have hI:∀aF:Env,aF 4=ak 4->aF 9=ak 9->aF 13=ak 13->aF 14=ak 14->MkC F st p wh s g aF ig:=fun aF q4 q9 q13 q14=>⟨q4.trans e4,q9.trans e9,q13.trans GO,q14.trans GP,⟨c0,c1,c2,c3,d2⟩,⟨pc,d1,gp.of_eq d3⟩,d4⟩;first
   |exact⟨aw,hI _ rfl rfl rfl rfl,c',rfl,g1⟩
   |(refine⟨aw,hI _ ?_ ?_ ?_ ?_,c',rfl,g1⟩<;>(simp only[go_sem];first|done|rfl))
   |trace_state
 have hjn:j=st.length:=aa;subst hjn;have nA:(st.map aY.n).take st.length=st.map aY.n:=iz (by rw[cM];exact bR _);rw[nA] at gf;simp only[go_sem,i6_l1,Mm,Mn,eI];refine aqW (g:=g) hs cV hl hp hw hn (fc:=fc) ?_ ?_ gf
 .obtain⟨e4,e9,GO,GP,yw,bf,bs⟩:=h;refine⟨?_,?_,?_,?_,yw,bf,bs⟩;all_goals(simp only[go_sem,e4,e9,GO,GP];first|done|rfl)
 simp only[go_sem,EP];first|done|rfl
def aaD{al:Al}{vs:e_}{aj:aB}:(allow (S.ctx al) 23 vs aj).fs.contains 45=true:=by show(S.sites 23).contains _=true;kernel_rfl
def aaB{al:Al}{vs:e_}{aj:aB}:(allow (S.ctx al) 23 vs aj).fs.contains 47=true:=by show(S.sites 23).contains _=true;kernel_rfl
def aaC{al:Al}{vs:e_}{aj:aB}:(allow (S.ctx al) 23 vs aj).fs.contains 24=true:=by show(S.sites 23).contains _=true;kernel_rfl
def ZO{a:aY}{st:j_}{m:aP}(h:st.length<=limit):(jD F limit a st m).2.length<=limit:=by
 unfold jD;split
 .exact h
 split
 .exact h
 simp only[fS,dC,fe];omega
def S4{a:aY}:∀ {ms:g_} {st:j_},st.length<=limit->(gD F limit a st ms).2.length<=limit:=by
 intro ms
 induction ms with
 |nil=>intro st h;exact h
 |cons m r ih=>
  intro st h;rw[Gq];split
  .exact ih (ZO h)
  exact ZO h
def akq:∀ {f k:Nat} {st:j_},st.length<=limit->(iR F limit f k st).2.length<=limit:=by
 intro f
 induction f with
 |zero=>intro k st h;exact h
 |succ f ih=>
  intro k st h;cases hs:st[k]? with
  |none=>rw[Ts hs];exact h
  |some a=>
   rw[Po hs];split
   .exact ih (S4 h)
   exact S4 h
def TG{L0:ai}(h:1<=limit):(dE F limit L0).2.length<=limit:=akq h
def XC:aN->Bool
 | .seq _ b=>XC b
 | .ret=>true
 |_=>false
def amB{sh:Ctx}{cp:gC}{cs:ke}{n:Nat}:∀ {c:aN} {ak:Env} {aj:aB} {e:mK} {aF:Env} {ao:aB},XC c=true->exec sh cp cs n c ak aj=some (e,aF,ao)->e≠ .normal:=by
 intro c
 induction c with
 |seq a b iha ihb=>
  intro ak aj e aF ao hc h;simp only[exec] at h;split at h
  .exact ihb hc h
  rename_i hx;rintro rfl
  exact hx _ _ h
 |ret=>intro ak aj e aF ao hc h;cases h;exact fun h=>by cases h
 |_=>intro ak aj e aF ao hc;cases hc
def ZF{al:Al}{c:aN}{Q Q':dO}{ak:Env}{aj:aB}(hc:XC c=true)(h:W S al c Q ak aj)(hq:∀e ak aj,e≠ .normal->Q e ak aj->Q' e ak aj):W S al c Q' ak aj:=by obtain⟨n,e,aF,ao,h1,h2⟩:=h;exact⟨n,e,aF,ao,h1,hq _ _ _ (amB hc h1) h2⟩
def am7{R:V->aB->Prop}{Q:dO}{ak:Env}{aj:aB}(h:W S .all (.loop i6_l1) (nh 2 (zy S .all i6_r2 (nj .all i6.results R))) ak aj)
  (hR:∀ak aj,nj .all i6.results R .ret ak aj->Q .ret ak aj):W S .all (.loop i6_l1) (nh 2 (zy S .all i6_r2 (nh 1 Q))) ak aj:=by
 have key:∀e ak aj,e≠mK.normal->nj .all i6.results R e ak aj->nh 1 Q e ak aj:=fun e ak aj hn h=>by
  cases e with
  |normal=>exact absurd rfl hn
  |ret=>exact hR _ _ h
  |exit i=>exact h.elim
 refine h.mono fun e ak aj h=>?_;cases e with
 |normal=>exact ZF rfl h key
 |ret=>exact hR _ _ h
 |exit i=>
  simp only[nh] at h |-;by_cases hi:i=2
  .rw[aD hi] at h |-;exact ZF rfl h key
  rw[ay hi] at h;exact False.elim h
structure MkH (F limit:Nat) (a:ai) (p:g_) (ak:Env) (aj:aB):Prop where
 e1:ak 1=vi limit
 e4:ak 4=.one (.aZ 384000064 1 0)
 e7:ak 7=.one (.aZ 384256320 1 0)
 e9:ak 9=.one (.aZ 384320000 1 0)
 yw:∃c0 c1 c2 c3,aj 384000064=(1,some (.var [c0,c1,c2,c3]))
 ba:∃x,aj 384256320=(1,some (.var [.p (.int .i64 F),.p x]))/\x.norm=cT a
 bf:∃pc,aj 384320000=(1,some (.var [.p (.int .i64 0),.p .nils,pc,.p (.bool false)]))/\grown 384832256 fO 7 (mP p) (.one pc) aj
def aae{st:j_}(h:st≠[]):kO F st∈st:=by
 unfold kO;have aI:1<=st.length:=jl.2 h;rcases Og F (st.map aY.n) st.length with ⟨h0,_⟩|⟨mu,iW⟩
 .omega
 obtain⟨b,hb⟩:=tA mu;rw[hb] at iW |-;rw[pP];obtain⟨m,hm⟩:=aM (ls:=st) (k:=b) aa;rw[hm];exact aV hm
def Oc{st:j_}(h:st≠[]):st[st.length-1]?=some (wR st)/\wR st∈st:=by
 have e:st.getLast?=some (wR st):=by
  unfold wR;cases hg:st.getLast? with
  |none=>exact absurd (List.getLast?_eq_none_iff.1 hg) h
  |some x=>rfl
 refine⟨by rw[<- List.getLast?_eq_getElem?];exact e,List.mem_of_getLast? e⟩
def Ji(s:Nat)(L:ai)(c:C)(aj:aB):Prop:=c=.p (cT L)\/grown s jL 6 (dG L) (.one c) aj
def Ji.snap{s:Nat}{L:ai}{c:C}{aj:aB}(h:Ji s L c aj):∃r,(∀B:aB,(∀i∈r,B i=aj i)->Go.Abs.snap B fE c=some (cT L,r))/\(r=[]\/r=[s])/\qX aj r/\ ∀n,kJ aj (n+1) c=r:=by
 rcases h with rfl|h
 .exact⟨[],(fun B _=>rfl),.inl rfl,qX.nil,fun n=>rfl⟩
 obtain⟨r,h1,h2⟩:=h.F3;rcases h with ⟨e,e2⟩|⟨e,g,e2,hb⟩
 .cases e2;have:=h1 aj rfl;rw[e] at this;have:some ((PV.sl []:PV),([]:a_))=some (.sl [],r):=this;simp at this;subst this;exact⟨[],by have e3:=List.map_eq_nil_iff.1 e;subst e3;exact fun B _=>h1 aj rfl,.inl rfl,qX.nil,fun n=>rfl⟩
 cases e2;have:=h1 aj rfl;have h3:Go.Abs.snap aj fE (.hsl s g 6 0 (dG L).length)=some (.sl (dG L),[s]):=by have ht:List.take L.length (dG L)=dG L:=iz (by rw[cM];exact bR _);simp[Go.Abs.snap,fE,hb,ht]
 rw[h3] at this;simp at this;subst this;exact⟨[s],fun B hB=>h1 B (hB s (k9.2 rfl)),.inr rfl,fun i hi=>by rw[k9.1 hi];exact⟨_,_,_,_,hb⟩,fun n=>DW hb⟩
def ans{Q:dO}{ak:Env}{aj:aB}{os:h_}{d:w_}{F:Nat}{ls M:ai}{ms:g_}{r:RV}{f:Nat}{vs:e_}{s:Nat}(hp:aK S f vs r)(hr:Yv F ls ms M r)(eF:S.lone s=false)
  (hK:∀(c e:C) ao,Ji (s+1) M c ao->grown (s+2) fO 7 (mP ms) (.one e) ao->(∀i,i≠s+1->i≠s+2->ao i=aj i)->RN S .all os Q (put ak d (.tup [.agg [.p (.int .i64 F),c],.one e])) ao):gP S .all (.pc f vs [] s) d os Q ak aj:=by
 rcases hr with ⟨rfl,rfl,rfl⟩|rfl
 .exact(de hp (by rw[eF];rfl)).2 (hK _ _ _ (.inl rfl) grown.nil fun _ _ _=>rfl)
 exact anq hp eF rfl (DY _) (Sg _) fun c e ao h1 h2 h3=>hK c e ao (.inr h1) h2 h3
def On{o:Nat}(e:jO o=6):¬nH o:=fun h=>Rp h e rfl
def aqO{st:j_}{k:Nat}{m:aY}(h:st[k]?=some m):(nC F st)[k]?=some [.int .i64 F,cT m.c,.int .i64 F,cT m.n,lW m.w]:=by rw[fG,h];rfl
def ahf{jE:aB}{gv:Nat}{cc:C}{r0:a_}(h4:jE 384512000=(gv,some (.var [.p (.bool false)])))(QI:∀n,kJ jE (n+1) cc=r0):((([V.agg [.p (.int .i64 F),cc],vi limit,Lf gv]:e_).map (jN jE)).flatten)=r0++[384512000]:=by
 have r1:jN jE (.agg [.p (.int .i64 F),cc])=r0:=by show([C.p (.int .i64 F),cc].map (kJ jE 6)).flatten=r0;simp only[eh,lQ,mX,IE,jA,QI,K4,fZ]
 have r2:jN jE (Lf gv)=[384512000]:=by
  show([]:a_)++([C.aZ 384512000 gv 0].map (kJ jE 5)).flatten=_;simp only[eh,lQ,mX,IE,jA,fZ];have:kJ jE 5 (.aZ 384512000 gv 0)=384512000::(([C.p (.bool false)]).map (kJ jE 4)).flatten:=by rw[kJ,h4]
  rw[this];rfl
 rw[eh,eh,eh,lQ,r1,r2];show r0++([]++([384512000]++[]))=_;simp
def aqZ(bN:ni){F limit:Nat}{a:ai}{p:g_}{ak:Env}{aj:aB}{Q:dO}(hJ:1<=limit)(iE:limit<=20000)(ny:bQ (F:Int) a=0)(hp:p.length<=50000000)(hI:MkH F limit a p ak aj)
  (hN:∀(aF:Env) (ao:aB),(dE F limit (fQ F a).2).1=2->MkH F limit (wR (dE F limit (fQ F a).2).2).c (p++(fQ F a).1++(wR (dE F limit (fQ F a).2).2).w) aF ao->Q .normal aF ao)
  (hR:∀(aF:Env) (ao:aB),(dE F limit (fQ F a).2).1≠2->(nj .all i6.results fun v aj=>jd aj v=some (KF F ((kO F (dE F limit (fQ F a).2).2).n,p++(fQ F a).1++(kO F (dE F limit (fQ F a).2).2).w,(dE F limit (fQ F a).2).1==0))) .ret aF ao->Q .ret aF ao):W S .all i6_l3 Q ak aj:=by
 obtain⟨e1,e4,e7,e9,⟨c0,c1,c2,c3,yw⟩,⟨x,ba,hx⟩,⟨pc,bf,gp⟩⟩:=hI;obtain⟨Qk,dM,r,hr,pr⟩:=K7 ny;generalize fQ F a=q at*;have jq:=Qk.len;have gR:=GF ny;have mf:S.lone 384384064=false:=ah;simp only[go_sem,i6_l3,e7,ba,hx,s22];refine ans pr hr mf fun cc ec bU gc ge dw=>?_;have gc:Ji 384384065 q.2 cc bU:=gc;have ge:grown 384384066 fO 7 (mP q.1) (.one ec) bU:=ge;have d1:=dw 384000064 ae ae;have d2:=dw 384256320 ae ae;have d3:=dw 384320000 ae ae;have d4:=dw 384832256 ae ae;simp only[go_sem,ba,bf,yw] at d1 d2 d3 d4;have G9:=gp.of_eq d4;clear dw d4;simp only[go_sem,e9,d3]
 obtain⟨re,NS,_⟩:=(ge.of_eq (ao:=dU (dU bU 384384320 ((bU 384384320).1+1,some (.var [.p (.int .i64 0),.p .nils]))) 384384320 ((bU 384384320).1+1,some (.var [.p (.int .i64 F),cc]))) (by simp only[aO,Nat.reduceEqDiff,if_false])).elems;refine vq (site:=384448192) (id:=384832256) (bytes:=48) (xs:=mP q.1) (rd:=re) (G9.of_eq (by simp only[aO,Nat.reduceEqDiff,if_false])) NS (.inr (szM _)) (by simp only[pL];omega) fun c' ig g1 gk=>?_;have f1:=gk 384000064 ae ae;have f2:=gk 384256320 ae ae;have f3:=gk 384320000 ae ae;have f5:=gk 384384065 ae ae;have f6:=gk 384384320 ae ae;simp only[go_sem,d1,d2,d3] at f1 f2 f3 f5 f6;have JL:Ji 384384065 q.2 cc ig:=by
  rcases gc with h|h
  .exact .inl h
  exact .inr (h.of_eq f5)
 rw[show mP p++mP q.1=mP (p++q.1) by simp[mP]] at g1;clear gk NS ge G9 gc f5 d1 d2 d3;simp only[go_sem,e1,e9,f3,f6,s23];refine ado fun jE lV=>?_;have h1:jE 384000064=(1,some (.var [c0,c1,c2,c3])):=by rw[lV];simp only[aO,Nat.reduceEqDiff,if_false];exact f1
 have h2:jE 384256320=(1,some (.var [.p (.int .i64 F),.p x])):=by rw[lV];simp only[aO,Nat.reduceEqDiff,if_false];exact f2
 have h3:jE 384320000=(1,some (.var [.p (.int .i64 0),.p .nils,c',.p (.bool false)])):=by rw[lV];simp only[aO,Nat.reduceEqDiff,if_true,if_false]
 have h4:jE 384512000=((ig 384512000).1+1,some (.var [.p (.bool false)])):=by rw[lV];simp only[aO,Nat.reduceEqDiff,if_true,if_false]
 have g4:grown 384448192 fO 7 (mP (p++q.1)) (.one c') jE:=g1.of_eq (by rw[lV];simp only[aO,Nat.reduceEqDiff,if_false]);have gc4:Ji 384384065 q.2 cc jE:=by
  rcases JL with h|h
  .exact .inl h
  exact .inr (h.of_eq (by rw[lV];simp only[aO,Nat.reduceEqDiff,if_false]))
 generalize (ig 384512000).1+1=gv at h4;clear lV g1 JL f1 f2 f3;obtain⟨r0,lJ,tS,har,QI⟩:=gc4.snap;have uG:=ahf (F:=F) (limit:=limit) h4 QI;have pY:∀i∈r0,i=384384065:=fun i hi=>by
  rcases tS with h|h
  .rw[h] at hi;cases hi
  rw[h] at hi;exact k9.1 hi
 have hac:yq (allow (S.ctx .all) 23 [V.agg [.p (.int .i64 F),cc],vi limit,Lf gv] jE):=⟨fun id h=>vZ (by rw[h];kernel_rfl),aaD,aaB,aaC,tD (by rw[uG];simp)⟩;have dB:=aay hac bN (F:=F) (limit:=limit) (L0:=q.2) (gv:=gv) (c0:=cc) (r0:=r0) (aj:=jE) hJ iE Qk.chk (fun B hB=>lJ B hB) har (fun i hi=>⟨tD (by rw[uG];simp[hi]),by rw[pY i hi];exact On rfl,by rw[pY i hi];decide⟩) h4;refine sR Az dB fun v5 CO hP=>?_;obtain⟨s,g,rfl,hs,n9,Fj,aI,dQ,l7⟩:=hP;have HA:∀i,i≠384384065->i∉r0:=fun i h hi=>h (pY i hi)
 have k1:=(l7 384000064 (On rfl) ae (HA _ ae)).trans h1;have k2:=(l7 384256320 (On rfl) ae (HA _ ae)).trans h2;have k3:=(l7 384320000 (On rfl) ae (HA _ ae)).trans h3;have g5:=g4.of_eq (l7 384448192 (On rfl) ae (HA _ ae));clear dB hac uG l7 g4 h1 h2 h3 h4 lJ QI har;have wI:=Yc hs;obtain⟨rB,aee⟩:=Oc aI;have M5:=TG (F:=F) (L0:=q.2) hJ;generalize dE F limit q.2=cr at*;have hlen:(nC F cr.2).length=cr.2.length:=Oi F cr.2;have jU:=jl.2 aI;have ad8:=aqO (F:=F) rB;have vF:IntKind.i64.wrap ((cr.2.length:Int)-1)=((cr.2.length-1:Nat):Int):=Iu aa aa;have aef:cr.2.length-1<cr.2.length:=aa;have gdl:=dQ _ aee;generalize wR cr.2=lm at*;have j5:=fun m hm=>(dQ m hm).len;by_cases h2:cr.1=2
 .have hb:(cr.1==2)=true:=by rw[h2];rfl
  simp only[go_sem,hb,e7,e9,n9,ad8,vF,aef,Fj,k2,k3];refine vq (site:=384832256) (id:=384448192) (bytes:=48) (xs:=mP lm.w) (rd:=[]) (g5.of_eq (by simp only[aO,Nat.reduceEqDiff,if_false])) rfl (.inr (szM _)) (by have:=j5 _ aee;simp only[pL,fS];omega) fun cz blk6 g6 hb6=>?_;have d1:=hb6 384000064 ae ae;have d2:=hb6 384256320 ae ae;have d3:=hb6 384320000 ae ae;simp only[go_sem,k1,k2,k3] at d1 d2 d3;rw[show mP (p++q.1)++mP lm.w=mP (p++q.1++lm.w) by simp[mP]] at g6;simp only[go_sem,e9,d3];refine hN _ _ h2 ⟨e1,e4,e7,e9,⟨c0,c1,c2,c3,?_⟩,⟨cT lm.c,?_,rfl⟩,⟨cz,?_,?_⟩⟩
  .simp only[go_sem,d1]
  .simp only[go_sem,d2]
  .simp only[go_sem,d3]
  exact g6.of_eq (by simp only[aO,Nat.reduceEqDiff,if_false])
 have hb:(cr.1==2)=false:=by simpa using h2
 simp only[go_sem,hb,n9,ad8,vF,aef,Fj];refine am7 (aqX (p:=p++q.1) (wh:=cr.1==0) hs aI aa (by rw[fS];omega) (fun m hm=>by have:=j5 m hm;omega) (fun m hm=>?_) ⟨e4,e9,rfl,rfl,⟨c0,c1,c2,c3,?_⟩,⟨c',?_,?_⟩,?_⟩ rfl rfl ?_ rfl) fun ak aj h=>hR _ _ h2 h
 .rw[(dQ m hm).vK];have h5:=DN m.c;have h6:=(dQ m hm).same;omega
 .simp only[go_sem,k1]
 .simp only[go_sem,k3]
 .exact g5.of_eq (by simp only[aO,Nat.reduceEqDiff,if_false])
 .simp only[go_sem,n9,wI]
 simp only[go_sem]
end
end Go.Abs
