/- A part. -/
import Derived.Test.YtanhekelecofdaaGreatDoorRg
set_option linter.all false
set_option maxRecDepth 100000
set_option maxHeartbeats 16000000
namespace Go.Abs
def Zv(F:Nat)(L:ai)(q:h_×ai):Prop:=CW F L q.1 q.2/\Ie F q.2/\ ∃r,ahb F L q.1 q.2 r/\aO S 32 [fe F L] r
open Classical in
noncomputable def Lq (F:Nat) (L:ai):h_×ai:=if h:∃q,Zv F L q then Classical.choose h else ([],[])
def asu{F:Nat}{L:ai}(h:cX (F:Int) L=0):Zv F L (Lq F L):=by
 have he:∃q,Zv F L q:=by obtain⟨r,⟨ms,M,h1,h2,h3⟩,h4⟩:=asw h (My h);exact⟨(ms,M),h1,h2,r,h3,h4⟩
 unfold Lq;rw[dif_pos he];exact Classical.choose_spec he
def ahg{F:Nat}:∀ {a b:h_} {L K:ai},rO F L a=some K->rO F L (a++b)=rO F K b:=by
 intro a
 induction a with
 |nil=>intro b L K h;cases h;rfl
 |cons m r ih=>
  intro b L K h;show(match fi F L m with|none=>none|some L=>rO F L (r++b))=_;have h:(match fi F L m with|none=>none|some L=>rO F L r)=some K:=h;cases ha:fi F L m with
  |none=>rw[ha] at h;cases h
  |some J=>rw[ha] at h;exact ih h
structure Ao (F:Nat) (N:ai) (b:Nat) (a:ai) (p:h_):Prop where
 chk:cX (F:Int) a=0
 rep:rO F N p=some a
 kind:∀m∈p,k5 m.k
 len:p.length+a.length<=N.length+b
def Ao.red{F:Nat}{N a:ai}{b:Nat}{p:h_}(h:Ao F N b a p):Ao F N b (Lq F a).2 (p++(Lq F a).1):=by
 obtain⟨r,_,_⟩:=asu h.chk;refine⟨r.chk,by rw[ahg h.rep];exact r.rep,fun m hm=>?_,?_⟩
 .rcases eX.1 hm with h1|h1
  .exact h.kind m h1
  have:=r.kind m h1;simp only[ch,eL,or_false] at this;unfold k5;omega
 have:=r.len;have:=h.len;rw[gJ];omega
def Ao.mem{F:Nat}{N a:ai}{b n:Nat}{p:h_}{m:bj}(h:Ao F N b a p)(hm:uw F a n m):Ao F N (b+n) m.c (p++m.w):=by
 refine⟨hm.chk,by rw[ahg h.rep];exact hm.rep,fun x hx=>?_,?_⟩
 .rcases eX.1 hx with h1|h1
  .exact h.kind x h1
  have:=hm.kind x h1;simp only[ch,eL,or_false] at this;unfold k5;omega
 have:=hm.len;have:=hm.same;have:=h.len;rw[gJ];omega
end Go.Abs
namespace Go.Abs
section
variable{F limit:Nat}
def aqp{st:m_}{j:Nat}{m:bj}(h:st[j]?=some m):pL F ((st.map bj.n).take (j+1))=pL F ((st.map bj.n).take j)++[[.int .i64 F,dJ m.n]]:=by
 have h2:(st.map bj.n)[j]?=some m.n:=by rw[gk,h];rfl
 obtain⟨hl,e⟩:=aW.1 h2;rw[<- List.take_append_getElem hl,e];exact ki
def Wu{al:Al}{vs:e_}{aj:aE}:(allow (S.ctx al) 22 vs aj).fs.contains 44=true:=by show(S.sites 22).contains _=true;kernel_rfl
def Wt{al:Al}{vs:e_}{aj:aE}:(allow (S.ctx al) 22 vs aj).fs.contains 48=true:=by show(S.sites 22).contains _=true;kernel_rfl
def ak6{al:Al}{vs:e_}{aj:aE}:(allow (S.ctx al) 22 vs aj).fs.contains 35=true:=by show(S.sites 22).contains _=true;kernel_rfl
def aaG{sb:Bool}{a:bj}{st:m_}{m:aV}(h:st.length<=limit):(kA sb F limit a st m).2.length<=limit:=by
 unfold kA;split
 .exact h
 split
 .exact h
 simp only[gJ,dL,fv];omega
def VZ{sb:Bool}{a:bj}:∀ {ms:h_} {st:m_},st.length<=limit->(iO sb F limit a st ms).2.length<=limit:=by
 intro ms
 induction ms with
 |nil=>intro st h;exact h
 |cons m r ih=>
  intro st h;rw[IZ];split
  .exact ih (aaG h)
  exact aaG h
def akm{sb:Bool}:∀ {f k:Nat} {st:m_},st.length<=limit->(lH sb F limit f k st).2.length<=limit:=by
 intro f
 induction f with
 |zero=>intro k st h;exact h
 |succ f ih=>
  intro k st h;cases hs:st[k]? with
  |none=>rw[Wi hs];exact h
  |some a=>
   rw[Qf hs];split
   .exact ih (VZ h)
   exact VZ h
def Qj{sb:Bool}{L0:ai}(h:1<=limit):(gK sb F limit L0).2.length<=limit:=akm h
def abh(s:Nat)(L:ai)(c:C)(aj:aE):Prop:=c=.p (dJ L)\/grown s mN 6 (ez L) (.one c) aj
def abh.snap{s:Nat}{L:ai}{c:C}{aj:aE}(h:abh s L c aj):∃r,(∀B:aE,(∀i∈r,B i=aj i)->Go.Abs.snap B gZ c=some (dJ L,r))/\(r=[]\/r=[s])/\pG aj r/\ ∀n,j8 aj (n+1) c=r:=by
 rcases h with rfl|h
 .exact⟨[],(fun B _=>rfl),.inl rfl,pG.nil,fun n=>rfl⟩
 obtain⟨r,h1,h2⟩:=h.Lx;rcases h with ⟨e,e2⟩|⟨e,g,e2,hb⟩
 .cases e2;have:=h1 aj rfl;rw[e] at this;have:some ((PV.sl []:PV),([]:a_))=some (.sl [],r):=this;simp at this;subst this;exact⟨[],by have e3:=List.map_eq_nil_iff.1 e;subst e3;exact fun B _=>h1 aj rfl,.inl rfl,pG.nil,fun n=>rfl⟩
 cases e2;have:=h1 aj rfl;have h3:Go.Abs.snap aj gZ (.hsl s g 6 0 (ez L).length)=some (.sl (ez L),[s]):=by have ht:List.take L.length (ez L)=ez L:=gT (by rw[cU];exact cD _);simp[Go.Abs.snap,gZ,hb,ht]
 rw[h3] at this;simp at this;subst this;exact⟨[s],fun B hB=>h1 B (hB s (lQ.2 rfl)),.inr rfl,fun i hi=>by rw[lQ.1 hi];exact⟨_,_,_,_,hb⟩,fun n=>Eo hb⟩
def asr{kN:aE}{gv:Nat}{cc:C}{r0:a_}(h4:kN 1024512000=(gv,some (.var [.p (.bool false)])))(aoJ:∀n,j8 kN (n+1) cc=r0):((([V.agg [.p (.int .i64 F),cc],vi limit,Ix true gv]:e_).map (jy kN)).flatten)=r0++[1024512000]:=by
 have r1:jy kN (.agg [.p (.int .i64 F),cc])=r0:=by show([C.p (.int .i64 F),cc].map (j8 kN 6)).flatten=r0;simp only[eD,kL,mS,IJ,jJ,aoJ,Ln,gR]
 have r2:jy kN (Ix true gv)=[1024512000]:=by
  show([]:a_)++([C.bt 1024512000 gv 0].map (j8 kN 5)).flatten=_;simp only[eD,kL,mS,IJ,jJ,gR];have:j8 kN 5 (.bt 1024512000 gv 0)=1024512000::(([C.p (.bool false)]).map (j8 kN 4)).flatten:=by rw[j8,h4]
  rw[this];rfl
 rw[eD,eD,eD,kL,r1,r2];show r0++([]++([1024512000]++[]))=_;simp
def ap4{f:Int}{ls:ai}{n:Nat}(hl:ls.length<=1000000)(h1:1<=n)(h2:n<=20000):aO S 20 [fe f ls,vi n] (ri (cX f ls)):=by
 have pc:=akS f ls hl;have a1:¬((n:Int)<1):=aa;have a2:¬((20000:Int)<(n:Int)):=aa;generalize cX f ls=e at*;refine bY c20 ?_;by_cases h:e=0
 .subst h;have Jz:((0:Int)!=0)=false:=ae;simp only[go_sem,i20,s31,eF pc,Jz,a1,a2];first|done|rfl
 have e1:(e !=0)=true:=by simpa using h
 simp only[go_sem,i20,s31,eF pc,e1];first|done|rfl
def ak7(cK:sP){L0:ai}(jM:1<=limit)(oG:limit<=20000)(h0:cX (F:Int) L0=0):(gK true F limit L0).2≠[]/\ ∀m∈(gK true F limit L0).2,uw F L0 (gK true F limit L0).2.length m:=by
 have h4:(fun i=>if i=1024512000 then (1,some (.var [.p (.bool false)])) else (0,none):aE) 1024512000=(1,some (.var [.p (.bool false)])):=aG rfl;generalize (fun i=>if i=1024512000 then (1,some (.var [.p (.bool false)])) else (0,none):aE)=kN at h4;have yr:=asr (F:=F) (limit:=limit) (cc:=.p (dJ L0)) (r0:=[]) h4 fun n=>rfl
 have NO:xI true (allow (S.ctx .all) 22 [V.agg [.p (.int .i64 F),.p (dJ L0)],vi limit,Ix true 1] kN):=⟨fun id h=>vf (by rw[h];kernel_rfl),Wu,Wt,fun _=>ak6,fun _=>vg (by rw[yr];simp)⟩;obtain⟨v,ao,_,hP⟩:=Ws NO cK (F:=F) (limit:=limit) (L0:=L0) (gv:=1) (z:=(0,none)) (c0:=.p (dJ L0)) (r0:=[]) (aj:=kN) jM oG h0 (fun B hB=>rfl) pG.nil (fun i hi=>by cases hi) h4;obtain⟨s,g,_,_,_,_,aK,dV,_⟩:=hP;exact⟨aK,dV⟩
def Mz(cK:sP){L0:ai}(jM:1<=limit)(oG:limit<=20000)(h0:cX (F:Int) L0=0):(gK false F limit L0).2≠[]/\ ∀m∈(gK false F limit L0).2,uw F L0 (gK false F limit L0).2.length m:=by have NO:xI false (allow (S.ctx .all) 22 [V.agg [.p (.int .i64 F),.p (dJ L0)],vi limit,Ix false 1] xe):=⟨fun id h=>vf (by rw[h];kernel_rfl),Wu,Wt,(fun h=>by cases h),fun h=>by cases h⟩;obtain⟨v,ao,_,hP⟩:=Ws NO cK (F:=F) (limit:=limit) (L0:=L0) (gv:=1) (z:=xe 1024512000) (c0:=.p (dJ L0)) (r0:=[]) (aj:=xe) jM oG h0 (fun B hB=>rfl) pG.nil (fun i hi=>by cases hi) rfl;obtain⟨s,g,_,_,_,_,aK,dV,_⟩:=hP;exact⟨aK,dV⟩
def Ao.round(cK:sP){N a:ai}{b:Nat}{p:h_}(jM:1<=limit)(oG:limit<=20000)(h:Ao F N b a p){m:bj}(hm:m∈(gK true F limit (Lq F a).2).2):Ao F N (b+limit) m.c (p++(Lq F a).1++m.w)/\m.n=dd m.c:=by have hr:=h.red;obtain⟨aK,dV⟩:=ak7 cK jM oG hr.chk;have hg:=dV m hm;exact⟨hr.mem (hg.mono (Qj jM)),hg.sB⟩
def Ao.start{ls:ai}(h:cX (F:Int) ls=0):Ao F (dd ls) 0 (dd ls) []:=⟨yC h,rfl,(fun m hm=>by cases hm),af⟩
def aq3{s1 t1 z1:Nat}{es:s_}{c:C}{x y:PV}{aj:aE}(h:grown s1 t1 z1 es (.one c) aj):j6 aj (.tup [.one c,.one (.p x),.one (.p y)])=some (.tup [.one (bh t1 z1 es),.one (.p x),.one (.p y)]):=by obtain⟨c',o,hc,h2,h3⟩:=h.kJ;cases hc;have e1:∀v:PV,kJ aj (.p v)=some (.p v,[],[]):=fun _=>rfl;rcases h3 with rfl|rfl<;>simp[j6,uH,wD,pO,nU,h2,e1,apart,xn,uk,CF]
def Zg{s o:Nat}(h:qm s)(e:jH o=6):¬s=o:=by
 rintro rfl
 unfold qm at h;rw[e] at h;revert h;decide
abbrev clsV(F:Nat)(r:Nat×m_):RV:=.tup [.one (bh yW 2 (pL F (r.2.map bj.n))),.one (.p (.bool (r.1==0))),.one (.p (.int .i64 0))]
def akV{st:m_}{wh:Bool}{s g:Nat}{ak:Env}{aj:aE}(hs:qm s)(hl:st.length<=100000)(JA:ak 11=vb wh)(bs:aj s=(g,some (.arr mbT 5 (oR F st))))(GX:ak 12=.one (.p .nils))(MI:ak 32=.one (.hsl s g 5 0 st.length))(MJ:ak 33=vi st.length)(MK:ak 34=vi 0):
  W S .all (.loop i6_l1) (rV 0 (Ew S .all i6_r2 (tW .all i6.results fun v aj=>j6 aj v=some (.tup [.one (bh yW 2 (pL F (st.map bj.n))),.one (.p (.bool wh)),.one (.p (.int .i64 0))])))) ak aj:=by
 have n1:=Zg (o:=384576128) hs rfl;have n2:=Zg (o:=384640192) hs rfl;have n3:=Zg (o:=384640256) hs rfl;refine dG (fun j ak aj=>ak 11=vb wh/\ak 32=.one (.hsl s g 5 0 st.length)/\ak 33=vi st.length/\ak 34=vi j/\aj s=(g,some (.arr mbT 5 (oR F st)))/\ ∃fc,ak 12=.one fc/\grown 384640256 yW 2 (pL F ((st.map bj.n).take j)) (.one fc) aj) 0 st.length (cA _) ⟨JA,MI,MJ,MK,bs,_,GX,grown.nil⟩ ?_;rintro j ak aj hj ⟨JA,MI,MJ,MK,bs,fc,GX,gf⟩
 by_cases aB:j<st.length
 .have aP:((j:Int)<(st.length:Int)):=aa;obtain⟨m,hm⟩:=aN aB;have hme:(oR F st)[j]?=some (m.ps F):=by rw[gk,hm];rfl
  have kY:(oR F st).length=st.length:=YS F st;have w1:=df (n:=j) aa;simp only[go_sem,i6_l1,GX,MI,MJ,MK,aB,aP,bs,hme,bj.ps];refine xU (site:=384640256) (id:=384640256) (bytes:=32) (xs:=[[.int .i64 F,dJ m.n]]) (rd:=[384640192]) (gf.of_eq (by simp only[aU,Nat.reduceEqDiff,if_false])) (by simp[gb,aU]) (.inl rfl) (by simp only[cU,iH,dL,fv];omega) fun c' je g1 lV=>?_;have d4:=lV s n3 n3;simp only[go_sem,bs,n1,n2] at d4;rw[<- aqp hm] at g1;simp only[go_sem,JA,GX,MI,MJ,MK,w1];exact⟨aB,d4,c',rfl,g1⟩
 have hjn:j=st.length:=aa;subst hjn;have oN:(st.map bj.n).take st.length=st.map bj.n:=gT (by rw[cU];exact cD _);rw[oN] at gf;simp only[go_sem,i6_l1,i6_r2,i6,JA,GX,MJ,MK,fh];exact aq3 gf
def abn(cK:sP){ls:ai}(jM:1<=limit)(oG:limit<=20000)(h:cX (F:Int) ls=0):aO S 6 [fe F ls,vi limit] (clsV F (gK false F limit (dd ls))):=by
 have wP:=My h;have pl:=ap4 (f:=F) (ls:=ls) (n:=limit) aa jM oG;rw[h] at pl;have pn:=agl cK (f:=F) (ls:=ls) aa h;have a3:(cO (j4 ls)).norm=dJ (dd ls):=Wm (j4 ls);have Jz:((0:Int)!=0)=false:=ae;generalize cO (j4 ls)=q at*;refine bY c6 ?_;simp only[go_sem,i6,s20,eF pl,Jz,s21,aY pn afr,s22];refine adf fun kN oF=>?_
 clear oF;have NO:xI false (allow (S.ctx .all) 22 [V.agg [.p (.int .i64 F),.p q],vi limit,Ix false 0] kN):=⟨fun id h=>vf (by rw[h];kernel_rfl),Wu,Wt,(fun h=>by cases h),fun h=>by cases h⟩;have dF:=Ws NO cK (F:=F) (limit:=limit) (L0:=dd ls) (gv:=0) (z:=kN 1024512000) (c0:=.p q) (r0:=[]) (aj:=kN) jM oG (yC h) (fun B _=>by show some (q.norm,[])=_;rw[a3]) pG.nil (fun i hi=>by cases hi) rfl;have hlen:=Qj (sb:=false) (F:=F) (L0:=dd ls) jM;refine sY Ba dF fun v5 De hP=>?_;obtain⟨s,g,rfl,hs,pQ,_,aK,dV,_⟩:=hP;generalize gK false F limit (dd ls)=r at*;simp only[go_sem];refine akV (s:=s) (g:=g) hs aa ?_ pQ ?_ ?_ ?_ ?_;all_goals(simp only[go_sem];first|done|rfl)
end
end Go.Abs
