/- A part. -/
import Derived.Test.YtkfngecllhhooaaGreatDoorRg
set_option linter.all false
set_option maxRecDepth 100000
set_option maxHeartbeats 16000000
namespace Go.Abs
section
variable{F:Nat}
def WJ(F:Nat)(L:List Let)(q:List bU×List Let):Prop:=EA F L q.1 q.2/\BI F q.2/\ ∃r,WI F L q.1 q.2 r/\aP S 21 [bj F L] r
open Classical in
noncomputable def eQ (F:Nat) (L:List Let):List bU×List Let:=if h:∃q,WJ F L q then Classical.choose h else ([],[])
theorem Do{L:List Let}(h:ay (F:Int) L=0):WJ F L (eQ F L):=by
 have he:∃q,WJ F L q:=by obtain⟨r,⟨ms,M,h1,h2,h3⟩,h4⟩:=OM h (jQ h);exact⟨(ms,M),h1,h2,r,h3,h4⟩
 unfold eQ;rw[dif_pos he];exact Classical.choose_spec he
theorem ON{L:List Let}(h:ay (F:Int) L=0):(eQ F L).2.length<=L.length/\((OP F L).2=true->(eQ F L).2.length<L.length):=by
 obtain⟨h1,h2,_⟩:=Do h;have hl:=h1.len;refine⟨by omega,fun hr=>?_⟩;obtain⟨_,h4,_⟩:=Vn h;have h5:=(h4 hr).2;have hne:(eQ F L).1≠[]:=fun e=>by have abs:=h1.rep;rw[e] at abs;have abs:some L=some (eQ F L).2:=abs;have hLM:=abP abs;rw[<- hLM] at h2;exact h5 h2
 have:=abh.2 hne;omega
theorem Ji{limit:Nat}{a:eX}:∀ {ms:List bU} {st:List eX},(dF F limit a st ms).1=2->∃x,(dF F limit a st ms).2.getLast?=some x/\(OP F x.c).2=true:=by
 intro ms
 induction ms with
 |nil=>intro st h;cases h
 |cons m r ih=>
  intro st h;rw[rl] at h ⊢;by_cases e:(fE F limit a st m).1=0
  .rw[if_pos e] at h ⊢;exact ih h
  rw[if_neg e] at h ⊢;unfold fE at h ⊢;split at h
  .cases h
  rename_i h1;rw[if_neg h1];split at h
  .cases h
  rename_i h2;rw[if_neg h2];dsimp only at h ⊢;split at h
  .rename_i h3;exact⟨_,List.getLast?_concat,h3⟩
  cases h
theorem UN{limit:Nat}:∀ {f k:Nat} {st:List eX},(Sq F limit f k st).1=2->∃x,(Sq F limit f k st).2.getLast?=some x/\(OP F x.c).2=true:=by
 intro f
 induction f with
 |zero=>intro k st h;cases h
 |succ f ih=>
  intro k st h;cases hs:st[k]? with
  |none=>rw[Em hs] at h;cases h
  |some a=>
   rw[uL hs] at h ⊢;by_cases e:(dF F limit a st (BS F a.c)).1=0
   .rw[if_pos e] at h ⊢;exact ih h
   rw[if_neg e] at h ⊢;exact Ji h
def mu(l:List eX):eX:=l.getLast?.getD ⟨[],[],[]⟩
noncomputable def kW (F:Nat) (l:List eX):eX:=(l[(th F (l.map eX.n) l.length).toNat]?).getD ⟨[],[],[]⟩
noncomputable def sM (F limit:Nat):Nat->List Let->List bU->List Let×List bU×Bool
 |0,_,_=>([],[],false)
 |f+1,a,p=>if (fO F limit (eQ F a).2).1=2 then sM F limit f (mu (fO F limit (eQ F a).2).2).c (p++(eQ F a).1++(mu (fO F limit (eQ F a).2).2).w)
  else ((kW F (fO F limit (eQ F a).2).2).n,p++(eQ F a).1++(kW F (fO F limit (eQ F a).2).2).w,(fO F limit (eQ F a).2).1==0)
noncomputable def fd (F limit:Nat) (ls:List Let):List Let×List bU×Bool:=sM F limit (ls.length+2) (js ls) []
theorem Fl:∀ {a b:List bU} {L K:List Let},ky F L a=some K->ky F L (a++b)=ky F K b:=by
 intro a
 induction a with
 |nil=>intro b L K h;cases h;rfl
 |cons m r ih=>
  intro b L K h;show(match km F L m with|none=>none|some L=>ky F L (r++b))=_;have h:(match km F L m with|none=>none|some L=>ky F L r)=some K:=h;cases ha:km F L m with
  |none=>rw[ha] at h;cases h
  |some J=>rw[ha] at h;exact ih h
structure Hh (F:Nat) (N:List Let) (b:Nat) (a:List Let) (p:List bU):Prop where
 chk:ay (F:Int) a=0
 rep:ky F N p=some a
 kind:∀m∈p,k5 m.k
 len:p.length+a.length<=N.length+b
theorem Hh.red{N a:List Let}{b:Nat}{p:List bU}(h:Hh F N b a p):Hh F N b (eQ F a).2 (p++(eQ F a).1):=by
 obtain⟨r,_,_⟩:=Do h.chk;refine⟨r.chk,by rw[Fl h.rep];exact r.rep,fun m hm=>?_,?_⟩
 .rcases aaR.1 hm with h1|h1
  .exact h.kind m h1
  have:=r.kind m h1;simp only[aat,aa9,or_false] at this;unfold k5;omega
 have:=r.len;have:=h.len;rw[aaY];omega
theorem Hh.mem{N a:List Let}{b n:Nat}{p:List bU}{m:eX}(h:Hh F N b a p)(hm:Ny F a n m):Hh F N (b+n) m.c (p++m.w):=by
 refine⟨hm.chk,by rw[Fl h.rep];exact hm.rep,fun x hx=>?_,?_⟩
 .rcases aaR.1 hx with h1|h1
  .exact h.kind x h1
  have:=hm.kind x h1;simp only[aat,aa9,or_false] at this;unfold k5;omega
 have:=hm.len;have:=hm.same;have:=h.len;rw[aaY];omega
end
end Go.Abs
namespace Go.Abs
section
variable{st:List eX}{F limit:Nat}
theorem DA{s o:Nat}(h:kD s)(e:cH o=13):¬s=o:=by
 rintro rfl
 unfold kD at h;rw[e] at h;revert h;decide
theorem DB{s:Nat}(h:kD s):¬s=832000000/\ ¬s=832000064/\ ¬s=832256320/\ ¬s=832320000/\ ¬s=832384320/\ ¬s=832448192/\ ¬s=832512000/\ ¬s=832640384/\ ¬s=832832256/\ ¬s=833088128/\ ¬s=833152192/\ ¬s=833152256/\ ¬s=833280320/\ ¬s=833344384:=by
 repeat' apply And.intro
 all_goals exact DA h rfl
abbrev FL(F:Nat)(x:List Let×List bU×Bool):RV:=.tup [.agg [.p (.int .i64 F),.p (eB x.1),ah md 7 (mP x.2.1),.p (.bool x.2.2)],.one (.p (.int .i64 0))]
theorem O9{s1 t1 z1:Nat}{es:List (List PV)}{c:C}{x y w u:PV}{blk:aw}(h:grown s1 t1 z1 es (.one c) blk):fH blk (.tup [.agg [.p x,.p y,c,.p w],.one (.p u)])=some (.tup [.agg [.p x,.p y,ah t1 z1 es,.p w],.one (.p u)]):=by obtain⟨c',o,hc,h2,h3⟩:=h.fR;cases hc;have e1:∀v:PV,fR blk (.p v)=some (.p v,[],[]):=fun _=>rfl;rcases h3 with rfl|rfl<;>simp[fH,jv,ii,ef,fJ,h2,e1,apart,kN,fL,kx]
structure MkC (F:Nat) (st:List eX) (p:List bU) (wh:Bool) (s g:Nat) (env:Env) (blk:aw):Prop where
 e4:env 4=.one (.aam 832000064 1 0)
 e9:env 9=.one (.aam 832320000 1 0)
 e13:env 13=.one (.hsl s g 5 0 st.length)
 e14:env 14=vb wh
 b64:∃c0 c1 c2 c3,blk 832000064=(1,some (.var [c0,c1,c2,c3]))
 bf:∃pc,blk 832320000=(1,some (.var [.p (.int .i64 0),.p .nils,pc,.p (.bool false)]))/\grown 832448192 md 7 (mP p) (.one pc) blk
 bs:blk s=(g,some (.arr YK 5 (kE F st)))
theorem W1{p:List bU}{wh:Bool}{s g:Nat}{env:Env}{blk:aw}{fc:C}(hs:kD s)(hst:st≠[])(hl:st.length<=100000)(hp:p.length<=100000000)(hw:∀m∈st,m.w.length<=100000)(hn:∀m∈st,m.n.length<=1000000)(h:MkC F st p wh s g env blk)(e16:env 16=.one fc)(gf:grown 833152256 UI 2 (UJ F (st.map eX.n)) (.one fc) blk):
  W S .all i13_r2 (lh .all i13.results fun v blk=>fH blk v=some (FL F ((kW F st).n,p++(kW F st).w,wh))) env blk:=by
 obtain⟨e4,e9,e13,e14,⟨c0,c1,c2,c3,b64⟩,⟨pc,bf,gp⟩,bs⟩:=h;have hns:=DB hs;have hne:1<=st.length:=abh.2 hst;have pl:=TY F (st.map eX.n) (by rw[aau];omega) (fun L hL=>by obtain⟨m,hm,rfl⟩:=aaF.1 hL;exact hn m hm)
 have hbm:kW F st=(st[(th F (st.map eX.n) st.length).toNat]?).getD ⟨[],[],[]⟩:=rfl;rw[aau] at pl;rcases DH F (st.map eX.n) st.length with ⟨h0,_⟩|⟨hb0,hbk⟩
 .omega
 obtain⟨b,hb⟩:=abX hb0;rw[hb] at pl hbk hbm;rw[ab1] at hbm;have hbl:b<st.length:=by omega
 obtain⟨m,hm⟩:=ao hbl;rw[hm] at hbm;have hbm:kW F st=m:=hbm;rw[hbm];have hme:(kE F st)[b]?=some (m.ps F):=by rw[aa0,hm];rfl
 have hml:(kE F st).length=st.length:=qI F st;have hwm:=hw m (aae hm);obtain⟨rd,hsn,_⟩:=gf.cG;simp only[go_sem,i13_r2,i13,e9,e13,e16,hsn,s15,a7 pl,bs,hbl,hme,eX.ps];simp only[go_sem,bf];refine mX (site:=833344384) (id:=832448192) (xs:=mP m.w) (rd:=[]) (gp.of_eq (by simp only[aa,Nat.reduceEqDiff,if_false])) rfl (.inr (szM _)) (by simp only[eS];omega) fun c' aaB r1 u1 g1 hb3 hr1=>?_;have d1:=hb3 832320000 (by decide) (by decide);have d2:=hb3 832000064 (by decide) (by decide);simp only[go_sem,bf,b64] at d1 d2;simp only[go_sem,e4,e9,e14,d1,d2];rw[show mP p++mP m.w=mP (p++m.w) by simp[mP]] at g1;refine⟨?_,?_⟩
 .rcases hr1 with ⟨rfl,rfl⟩|⟨rfl,rfl⟩|⟨rfl,rfl⟩<;>kernel_rfl
 first
  |exact O9 (g1.of_eq (by simp only[aa,Nat.reduceEqDiff,if_false]))
  |trace_state
theorem TP{j:Nat}{m:eX}(h:st[j]?=some m):UJ F ((st.map eX.n).take (j+1))=UJ F ((st.map eX.n).take j)++[[.int .i64 F,eB m.n]]:=by
 have h2:(st.map eX.n)[j]?=some m.n:=by rw[aa0,h];rfl
 obtain⟨hl,e⟩:=aai.1 h2;rw[<- List.take_append_getElem hl,e];exact abq
theorem Po{p:List bU}{wh:Bool}{s g:Nat}{env:Env}{blk:aw}(hs:kD s)(hst:st≠[])(hl:st.length<=100000)(hp:p.length<=100000000)(hw:∀m∈st,m.w.length<=100000)(hn:∀m∈st,m.n.length<=1000000)(h:MkC F st p wh s g env blk)(e16:env 16=.one (.p .nils))(e64:env 64=.one (.hsl s g 5 0 st.length))(e65:env 65=vi st.length)(e66:env 66=vi 0):
  W S .all (.loop i13_l1) (eT 2 (qp S .all i13_r2 (lh .all i13.results fun v blk=>fH blk v=some (FL F ((kW F st).n,p++(kW F st).w,wh))))) env blk:=by
 have hns:=DB hs;refine aV (fun j env blk=>MkC F st p wh s g env blk/\env 64=.one (.hsl s g 5 0 st.length)/\env 65=vi st.length/\env 66=vi j/\ ∃fc,env 16=.one fc/\grown 833152256 UI 2 (UJ F ((st.map eX.n).take j)) (.one fc) blk) 0 st.length (aan _) ⟨h,e64,e65,e66,_,e16,grown.nil⟩ ?_;rintro j env blk hj ⟨h,e64,e65,e66,fc,e16,gf⟩
 by_cases hlt:j<st.length
 .obtain⟨e4,e9,e13,e14,⟨c0,c1,c2,c3,b64⟩,⟨pc,bf,gp⟩,bs⟩:=h;have aak:((j:Int)<(st.length:Int)):=by omega
  obtain⟨m,hm⟩:=ao hlt;have hme:(kE F st)[j]?=some (m.ps F):=by rw[aa0,hm];rfl
  have hml:(kE F st).length=st.length:=qI F st;have w1:=ak (n:=j) (by omega);simp only[go_sem,i13_l1,e16,e64,e65,e66,hlt,aak,bs,hme,eX.ps];refine iN (site:=833152256) (id:=833152256) (bytes:=32) (xs:=[[.int .i64 F,eB m.n]]) (rd:=[833152192]) (gf.of_eq (by simp only[aa,Nat.reduceEqDiff,if_false])) (by simp[aO,aa]) (.inl rfl) (by simp only[aau,aa2,aaz,aaL];omega) fun c' aaB g1 hb3=>?_
  have d1:=hb3 832320000 (by decide) (by decide);have d2:=hb3 832000064 (by decide) (by decide);have d3:=hb3 832448192 (by decide) (by decide);have d4:=hb3 s (DA hs rfl) (DA hs rfl);simp only[go_sem,bf,b64,bs,hns] at d1 d2 d3 d4;rw[<- TP hm] at g1;simp only[go_sem,e16,e64,e65,e66,w1];have hI:∀aah:Env,aah 4=env 4->aah 9=env 9->aah 13=env 13->aah 14=env 14->MkC F st p wh s g aah aaB:=fun aah q4 q9 q13 q14=>⟨q4.trans e4,q9.trans e9,q13.trans e13,q14.trans e14,⟨c0,c1,c2,c3,d2⟩,⟨pc,d1,gp.of_eq d3⟩,d4⟩;first
   |exact⟨hlt,hI _ rfl rfl rfl rfl,c',rfl,g1⟩
   |(refine⟨hlt,hI _ ?_ ?_ ?_ ?_,c',rfl,g1⟩<;>(simp only[go_sem];first|done|rfl))
   |trace_state
 have hjn:j=st.length:=by omega
 subst hjn;have htk:(st.map eX.n).take st.length=st.map eX.n:=aa4 (by rw[aau];exact aaj _);rw[htk] at gf;simp only[go_sem,i13_l1,e65,e66,aS];refine W1 (g:=g) hs hst hl hp hw hn (fc:=fc) ?_ ?_ gf
 .obtain⟨e4,e9,e13,e14,b64,bf,bs⟩:=h;refine⟨?_,?_,?_,?_,b64,bf,bs⟩;all_goals(simp only[go_sem,e4,e9,e13,e14];first|done|rfl)
 simp only[go_sem,e16];first|done|rfl
theorem ZO{al:Al}{vs:List V}{blk:aw}:(allow (S.ctx al) 24 vs blk).fs.contains 43=true:=by show(S.sites 24).contains _=true;kernel_rfl
theorem ZP{al:Al}{vs:List V}{blk:aw}:(allow (S.ctx al) 24 vs blk).fs.contains 46=true:=by show(S.sites 24).contains _=true;kernel_rfl
theorem Wd{al:Al}{vs:List V}{blk:aw}:(allow (S.ctx al) 24 vs blk).fs.contains 25=true:=by show(S.sites 24).contains _=true;kernel_rfl
theorem An{a:eX}{m:bU}(h:st.length<=limit):(fE F limit a st m).2.length<=limit:=by
 unfold fE;split
 .exact h
 split
 .exact h
 simp only[aaY,aaz,aaL];omega
theorem Ao{a:eX}:∀ {ms:List bU} {st:List eX},st.length<=limit->(dF F limit a st ms).2.length<=limit:=by
 intro ms
 induction ms with
 |nil=>intro st h;exact h
 |cons m r ih=>
  intro st h;rw[rl];split
  .exact ih (An h)
  exact An h
theorem UO:∀ {f k:Nat} {st:List eX},st.length<=limit->(Sq F limit f k st).2.length<=limit:=by
 intro f
 induction f with
 |zero=>intro k st h;exact h
 |succ f ih=>
  intro k st h;cases hs:st[k]? with
  |none=>rw[Em hs];exact h
  |some a=>
   rw[uL hs];split
   .exact ih (Ao h)
   exact Ao h
theorem KZ{L0:List Let}(h:1<=limit):(fO F limit L0).2.length<=limit:=UO h
def DM:am->Bool
 | .seq _ b=>DM b
 | .ret=>true
 |_=>false
theorem Uo{sh:Ctx}{cp:cN}{cs:ez}{n:Nat}:∀ {c:am} {env:Env} {blk:aw} {e:fK} {aah:Env} {aaf:aw},DM c=true->exec sh cp cs n c env blk=some (e,aah,aaf)->e≠ .normal:=by
 intro c
 induction c with
 |seq a b iha ihb=>
  intro env blk e aah aaf hc h;simp only[exec] at h;split at h
  .exact ihb hc h
  rename_i hx;rintro rfl
  exact hx _ _ h
 |ret=>intro env blk e aah aaf hc h;cases h;exact fun h=>by cases h
 |_=>intro env blk e aah aaf hc;cases hc
theorem Z3{al:Al}{c:am}{Q Q':cU}{env:Env}{blk:aw}(hc:DM c=true)(h:W S al c Q env blk)(hq:∀e env blk,e≠ .normal->Q e env blk->Q' e env blk):W S al c Q' env blk:=by obtain⟨n,e,aah,aaf,h1,h2⟩:=h;exact⟨n,e,aah,aaf,h1,hq _ _ _ (Uo hc h1) h2⟩
theorem MS{R:V->aw->Prop}{Q:cU}{env:Env}{blk:aw}(h:W S .all (.loop i13_l1) (eT 2 (qp S .all i13_r2 (lh .all i13.results R))) env blk)
  (hR:∀env blk,lh .all i13.results R .ret env blk->Q .ret env blk):W S .all (.loop i13_l1) (eT 2 (qp S .all i13_r2 (eT 1 Q))) env blk:=by
 have key:∀e env blk,e≠fK.normal->lh .all i13.results R e env blk->eT 1 Q e env blk:=fun e env blk hn h=>by
  cases e with
  |normal=>exact absurd rfl hn
  |ret=>exact hR _ _ h
  |exit i=>exact h.elim
 refine h.mono fun e env blk h=>?_;cases e with
 |normal=>exact Z3 rfl h key
 |ret=>exact hR _ _ h
 |exit i=>
  simp only[eT] at h ⊢;by_cases hi:i=2
  .rw[if_pos hi] at h ⊢;exact Z3 rfl h key
  rw[if_neg hi] at h;exact False.elim h
structure MkH (F limit:Nat) (a:List Let) (p:List bU) (env:Env) (blk:aw):Prop where
 e1:env 1=vi limit
 e4:env 4=.one (.aam 832000064 1 0)
 e7:env 7=.one (.aam 832256320 1 0)
 e9:env 9=.one (.aam 832320000 1 0)
 b64:∃c0 c1 c2 c3,blk 832000064=(1,some (.var [c0,c1,c2,c3]))
 ba:∃x,blk 832256320=(1,some (.var [.p (.int .i64 F),.p x]))/\x.norm=eB a
 bf:∃pc,blk 832320000=(1,some (.var [.p (.int .i64 0),.p .nils,pc,.p (.bool false)]))/\grown 832832256 md 7 (mP p) (.one pc) blk
theorem Ng(h:st≠[]):kW F st∈st:=by
 unfold kW;have hne:1<=st.length:=abh.2 h;rcases DH F (st.map eX.n) st.length with ⟨h0,_⟩|⟨hb0,hbk⟩
 .omega
 obtain⟨b,hb⟩:=abX hb0;rw[hb] at hbk ⊢;rw[ab1];obtain⟨m,hm⟩:=ao (ls:=st) (k:=b) (by omega);rw[hm];exact aae hm
theorem uk(h:st≠[]):st[st.length-1]?=some (mu st)/\mu st∈st:=by
 have e:st.getLast?=some (mu st):=by
  unfold mu;cases hg:st.getLast? with
  |none=>exact absurd (List.getLast?_eq_none_iff.1 hg) h
  |some x=>rfl
 refine⟨by rw[<- List.getLast?_eq_getElem?];exact e,List.mem_of_getLast? e⟩
def CB(s:Nat)(L:List Let)(c:C)(blk:aw):Prop:=c=.p (eB L)\/grown s iM 6 (cA L) (.one c) blk
theorem CB.snap{s:Nat}{L:List Let}{c:C}{blk:aw}(h:CB s L c blk):∃r,(∀B:aw,(∀i∈r,B i=blk i)->Go.Abs.snap B cG c=some (eB L,r))/\(r=[]\/r=[s])/\fD blk r/\ ∀n,c9 blk (n+1) c=r:=by
 rcases h with rfl|h
 .exact⟨[],(fun B _=>rfl),.inl rfl,fD.nil,fun n=>rfl⟩
 obtain⟨r,h1,h2⟩:=h.xW;rcases h with ⟨e,e2⟩|⟨e,g,e2,hb⟩
 .cases e2;have:=h1 blk rfl;rw[e] at this;have:some ((PV.sl []:PV),([]:List Nat))=some (.sl [],r):=this;simp at this;subst this;exact⟨[],by have e3:=List.map_eq_nil_iff.1 e;subst e3;exact fun B _=>h1 blk rfl,.inl rfl,fD.nil,fun n=>rfl⟩
 cases e2;have:=h1 blk rfl;have h3:Go.Abs.snap blk cG (.hsl s g 6 0 (cA L).length)=some (.sl (cA L),[s]):=by have ht:List.take L.length (cA L)=cA L:=aa4 (by rw[aau];exact aaj _);simp[Go.Abs.snap,cG,hb,ht]
 rw[h3] at this;simp at this;subst this;exact⟨[s],fun B hB=>h1 B (hB s (abJ.2 rfl)),.inr rfl,fun i hi=>by rw[abJ.1 hi];exact⟨_,_,_,_,hb⟩,fun n=>gR hb⟩
theorem Uh{Q:cU}{env:Env}{blk:aw}{os:List aj}{d:Option Nat}{F:Nat}{ls M:List Let}{ms:List bU}{r:RV}{f:Nat}{vs:List V}{s:Nat}(hp:aP S f vs r)(hr:WI F ls ms M r)(hlo:S.lone s=false)
  (hK:∀(c e:C) aaf,CB (s+1) M c aaf->grown (s+2) md 7 (mP ms) (.one e) aaf->(∀i,i≠s+1->i≠s+2->aaf i=blk i)->RN S .all os Q (put env d (.tup [.agg [.p (.int .i64 F),c],.one e])) aaf):gP S .all (.pc f vs [] s) d os Q env blk:=by
 rcases hr with ⟨rfl,rfl,rfl⟩|rfl
 .exact(aq hp (by rw[hlo];rfl)).2 (hK _ _ _ (.inl rfl) grown.nil fun _ _ _=>rfl)
 exact Xl hp hlo rfl (qw _) (JK _) fun c e aaf h1 h2 h3=>hK c e aaf (.inr h1) h2 h3
theorem ue{o:Nat}(e:cH o=13):¬kD o:=fun h=>DA h e rfl
theorem Pq{k:Nat}{m:eX}(h:st[k]?=some m):(kE F st)[k]?=some [.int .i64 F,eB m.c,.int .i64 F,eB m.n,fN m.w]:=by rw[aa0,h];rfl
theorem OO{aaO:aw}{gv:Nat}{cc:C}{r0:List Nat}(h4:aaO 832512000=(gv,some (.var [.p (.bool false)])))(aiV:∀n,c9 aaO (n+1) cc=r0):((([V.agg [.p (.int .i64 F),cc],vi limit,Bb gv]:List V).map (cJ aaO)).flatten)=r0++[832512000]:=by
 have r1:cJ aaO (.agg [.p (.int .i64 F),cc])=r0:=by show([C.p (.int .i64 F),cc].map (c9 aaO 6)).flatten=r0;simp only[aaK,abi,abt,ade,abo,aiV,rI,aaZ]
 have r2:cJ aaO (Bb gv)=[832512000]:=by
  show([]:List Nat)++([C.aam 832512000 gv 0].map (c9 aaO 5)).flatten=_;simp only[aaK,abi,abt,ade,abo,aaZ];have:c9 aaO 5 (.aam 832512000 gv 0)=832512000::(([C.p (.bool false)]).map (c9 aaO 4)).flatten:=by rw[c9,h4]
  rw[this];rfl
 rw[aaK,aaK,aaK,abi,r1,r2];show r0++([]++([832512000]++[]))=_;simp
theorem Pn(hcl:dw){F limit:Nat}{a:List Let}{p:List bU}{env:Env}{blk:aw}{Q:cU}(hl1:1<=limit)(hlm:limit<=20000)(hck:ay (F:Int) a=0)(hp:p.length<=50000000)(hI:MkH F limit a p env blk)
  (hN:∀(aah:Env) (aaf:aw),(fO F limit (eQ F a).2).1=2->MkH F limit (mu (fO F limit (eQ F a).2).2).c (p++(eQ F a).1++(mu (fO F limit (eQ F a).2).2).w) aah aaf->Q .normal aah aaf)
  (hR:∀(aah:Env) (aaf:aw),(fO F limit (eQ F a).2).1≠2->(lh .all i13.results fun v blk=>fH blk v=some (FL F ((kW F (fO F limit (eQ F a).2).2).n,p++(eQ F a).1++(kW F (fO F limit (eQ F a).2).2).w,(fO F limit (eQ F a).2).1==0))) .ret aah aaf->Q .ret aah aaf):W S .all i13_l3 Q env blk:=by
 obtain⟨e1,e4,e7,e9,⟨c0,c1,c2,c3,b64⟩,⟨x,ba,hx⟩,⟨pc,bf,gp⟩⟩:=hI;obtain⟨ajh,hno,r,hr,pr⟩:=Do hck;generalize eQ F a=q at*;have hml:=ajh.len;have hal:=jQ hck;have lo1:S.lone 832384064=false:=by kernel_rfl
 simp only[go_sem,i13_l3,e7,ba,hx,s21];refine Uh pr hr lo1 fun cc ec aao gc ge hb1=>?_;have gc:CB 832384065 q.2 cc aao:=gc;have ge:grown 832384066 md 7 (mP q.1) (.one ec) aao:=ge;have d1:=hb1 832000064 (by decide) (by decide);have d2:=hb1 832256320 (by decide) (by decide);have d3:=hb1 832320000 (by decide) (by decide);have d4:=hb1 832832256 (by decide) (by decide);simp only[go_sem,ba,bf,b64] at d1 d2 d3 d4;have gp1:=gp.of_eq d4;clear hb1 d4;simp only[go_sem,e9,d3]
 obtain⟨re,hre,_⟩:=(ge.of_eq (aaf:=fY (fY aao 832384320 ((aao 832384320).1+1,some (.var [.p (.int .i64 0),.p .nils]))) 832384320 ((aao 832384320).1+1,some (.var [.p (.int .i64 F),cc]))) (by simp only[aa,Nat.reduceEqDiff,if_false])).elems;refine iN (site:=832448192) (id:=832832256) (bytes:=48) (xs:=mP q.1) (rd:=re) (gp1.of_eq (by simp only[aa,Nat.reduceEqDiff,if_false])) hre (.inr (szM _)) (by simp only[eS];omega) fun c' aaB g1 hb3=>?_
 have f1:=hb3 832000064 (by decide) (by decide);have f2:=hb3 832256320 (by decide) (by decide);have f3:=hb3 832320000 (by decide) (by decide);have f5:=hb3 832384065 (by decide) (by decide);have f6:=hb3 832384320 (by decide) (by decide);simp only[go_sem,d1,d2,d3] at f1 f2 f3 f5 f6;have gc3:CB 832384065 q.2 cc aaB:=by
  rcases gc with h|h
  .exact .inl h
  exact .inr (h.of_eq f5)
 rw[show mP p++mP q.1=mP (p++q.1) by simp[mP]] at g1;clear hb3 hre ge gp1 gc f5 d1 d2 d3;simp only[go_sem,e1,e9,f3,f6,s24];refine V6 fun aaO hb4=>?_;have h1:aaO 832000064=(1,some (.var [c0,c1,c2,c3])):=by rw[hb4];simp only[aa,Nat.reduceEqDiff,if_false];exact f1
 have h2:aaO 832256320=(1,some (.var [.p (.int .i64 F),.p x])):=by rw[hb4];simp only[aa,Nat.reduceEqDiff,if_false];exact f2
 have h3:aaO 832320000=(1,some (.var [.p (.int .i64 0),.p .nils,c',.p (.bool false)])):=by rw[hb4];simp only[aa,Nat.reduceEqDiff,if_true,if_false]
 have h4:aaO 832512000=((aaB 832512000).1+1,some (.var [.p (.bool false)])):=by rw[hb4];simp only[aa,Nat.reduceEqDiff,if_true,if_false]
 have g4:grown 832448192 md 7 (mP (p++q.1)) (.one c') aaO:=g1.of_eq (by rw[hb4];simp only[aa,Nat.reduceEqDiff,if_false]);have gc4:CB 832384065 q.2 cc aaO:=by
  rcases gc3 with h|h
  .exact .inl h
  exact .inr (h.of_eq (by rw[hb4];simp only[aa,Nat.reduceEqDiff,if_false]))
 generalize (aaB 832512000).1+1=gv at h4;clear hb4 g1 gc3 f1 f2 f3;obtain⟨r0,hsn,hr0,har,aiV⟩:=gc4.snap;have hrc:=OO (F:=F) (limit:=limit) h4 aiV;have hm0:∀i∈r0,i=832384065:=fun i hi=>by
  rcases hr0 with h|h
  .rw[h] at hi;cases hi
  rw[h] at hi;exact abJ.1 hi
 have hac:NF (allow (S.ctx .all) 24 [V.agg [.p (.int .i64 F),cc],vi limit,Bb gv] aaO):=⟨fun id h=>ff (by rw[h];kernel_rfl),ZO,ZP,Wd,dA (by rw[hrc];simp)⟩;have hcs:=K4 hac hcl (F:=F) (limit:=limit) (L0:=q.2) (gv:=gv) (c0:=cc) (r0:=r0) (blk:=aaO) hl1 hlm ajh.chk (fun B hB=>hsn B hB) har (fun i hi=>⟨dA (by rw[hrc];simp[hi]),by rw[hm0 i hi];exact ue rfl,by rw[hm0 i hi];decide⟩) h4;refine gb fy hcs fun v5 adO hP=>?_;obtain⟨s,g,rfl,hs,hbs,hbv,hne,aas,hfr⟩:=hP;have hnr:∀i,i≠832384065->i∉r0:=fun i h hi=>h (hm0 i hi)
 have k1:=(hfr 832000064 (ue rfl) (by decide) (hnr _ (by decide))).trans h1;have k2:=(hfr 832256320 (ue rfl) (by decide) (hnr _ (by decide))).trans h2;have k3:=(hfr 832320000 (ue rfl) (by decide) (hnr _ (by decide))).trans h3;have g5:=g4.of_eq (hfr 832448192 (ue rfl) (by decide) (hnr _ (by decide)));clear hcs hac hrc hfr g4 h1 h2 h3 h4 hsn aiV har;have hns:=DB hs;obtain⟨hla,anu⟩:=uk hne;have ag7:=KZ (F:=F) (L0:=q.2) hl1;generalize fO F limit q.2=cr at*;have hlen:(kE F cr.2).length=cr.2.length:=qI F cr.2;have aaP:=abh.2 hne;have anz:=Pq (F:=F) hla;have hw0:IntKind.i64.wrap ((cr.2.length:Int)-1)=((cr.2.length-1:Nat):Int):=lB (by omega) (by omega);have ans:cr.2.length-1<cr.2.length:=by omega
 have gdl:=aas _ anu;generalize mu cr.2=lm at*;have hwl:=fun m hm=>(aas m hm).len;by_cases h2:cr.1=2
 .have hb:(cr.1==2)=true:=by rw[h2];rfl
  simp only[go_sem,hb,e7,e9,hbs,anz,hw0,ans,hbv,k2,k3];refine iN (site:=832832256) (id:=832448192) (bytes:=48) (xs:=mP lm.w) (rd:=[]) (g5.of_eq (by simp only[aa,Nat.reduceEqDiff,if_false])) rfl (.inr (szM _)) (by have:=hwl _ anu;simp only[eS,aaY];omega) fun cz blk6 g6 hb6=>?_;have d1:=hb6 832000064 (by decide) (by decide);have d2:=hb6 832256320 (by decide) (by decide);have d3:=hb6 832320000 (by decide) (by decide);simp only[go_sem,k1,k2,k3] at d1 d2 d3;rw[show mP (p++q.1)++mP lm.w=mP (p++q.1++lm.w) by simp[mP]] at g6;simp only[go_sem,e9,d3];refine hN _ _ h2 ⟨e1,e4,e7,e9,⟨c0,c1,c2,c3,?_⟩,⟨eB lm.c,?_,rfl⟩,⟨cz,?_,?_⟩⟩
  .simp only[go_sem,d1]
  .simp only[go_sem,d2]
  .simp only[go_sem,d3]
  exact g6.of_eq (by simp only[aa,Nat.reduceEqDiff,if_false])
 have hb:(cr.1==2)=false:=by simpa using h2
 simp only[go_sem,hb,hbs,anz,hw0,ans,hbv];refine MS (Po (p:=p++q.1) (wh:=cr.1==0) hs hne (by omega) (by rw[aaY];omega) (fun m hm=>by have:=hwl m hm;omega) (fun m hm=>?_) ⟨e4,e9,rfl,rfl,⟨c0,c1,c2,c3,?_⟩,⟨c',?_,?_⟩,?_⟩ rfl rfl ?_ rfl) fun env blk h=>hR _ _ h2 h
 .rw[(aas m hm).YF];have h5:=jN m.c;have h6:=(aas m hm).same;omega
 .simp only[go_sem,k1]
 .simp only[go_sem,k3]
 .exact g5.of_eq (by simp only[aa,Nat.reduceEqDiff,if_false])
 .simp only[go_sem,hbs,hns]
 simp only[go_sem]
end
end Go.Abs
