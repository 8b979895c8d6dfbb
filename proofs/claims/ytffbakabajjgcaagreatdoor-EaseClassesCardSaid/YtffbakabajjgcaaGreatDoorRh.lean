/- A part. -/
import Derived.Test.YtffbakabajjgcaaGreatDoorRg
set_option linter.all false
set_option maxRecDepth 100000
set_option maxHeartbeats 16000000
namespace Go.Abs
section
variable{F limit:Nat}

theorem acK{st:List bR}{j:Nat}{m:bR}(h:st[j]?=some m):qO F ((st.map bR.n).take (j+1))=qO F ((st.map bR.n).take j)++[[.int .i64 F,cQ m.n]]:=by
 have h2:(st.map bR.n)[j]?=some m.n:=by rw[fT,h];rfl
 obtain⟨hl,e⟩:=bg.1 h2;rw[<- List.take_append_getElem hl,e];exact rQ
theorem Yg{al:Al}{vs:List V}{aj:aw}:(allow (S.ctx al) 21 vs aj).fs.contains 39=true:=by show(S.sites 21).contains _=true;kernel_rfl
theorem Yf{al:Al}{vs:List V}{aj:aw}:(allow (S.ctx al) 21 vs aj).fs.contains 43=true:=by show(S.sites 21).contains _=true;kernel_rfl
theorem Xt{sb:Bool}{a:bR}{st:List bR}{m:aU}(h:st.length<=limit):(me sb F limit a st m).2.length<=limit:=by
 unfold me;split
 .exact h
 split
 .exact h
 simp only[eG,cS,eE];omega
theorem Xp{sb:Bool}{a:bR}:∀ {ms:List aU} {st:List bR},st.length<=limit->(jz sb F limit a st ms).2.length<=limit:=by
 intro ms
 induction ms with
 |nil=>intro st h;exact h
 |cons m r ih=>
  intro st h;rw[Sl];split
  .exact ih (Xt h)
  exact Xt h
theorem ahR{sb:Bool}:∀ {f k:Nat} {st:List bR},st.length<=limit->(BR sb F limit f k st).2.length<=limit:=by
 intro f
 induction f with
 |zero=>intro k st h;exact h
 |succ f ih=>
  intro k st h;cases hs:st[k]? with
  |none=>rw[SF hs];exact h
  |some a=>
   rw[OP hs];split
   .exact ih (Xp h)
   exact Xp h
theorem SM{sb:Bool}{L0:List Let}(h:1<=limit):(mX sb F limit L0).2.length<=limit:=ahR h
theorem anN{f:Int}{ls:List Let}{n:Nat}(hl:ls.length<=1000000)(h1:1<=n)(h2:n<=20000):aF S 19 [cZ f ls,vi n] (ri (di f ls)):=by
 have pc:=X8 f ls hl;have a1:¬((n:Int)<1):=aa;have a2:¬((20000:Int)<(n:Int)):=aa;generalize di f ls=e at*;refine aV c19 ?_;by_cases h:e=0
 .subst h;have zg:((0:Int)!=0)=false:=ae;simp only[go_sem,i19,s26,dJ pc,zg,a1,a2];first|done|rfl
 have e1:(e !=0)=true:=by simpa using h
 simp only[go_sem,i19,s26,dJ pc,e1];first|done|rfl
theorem Yi(cP:vd){L0:List Let}(gE:1<=limit)(rj:limit<=20000)(h0:di (F:Int) L0=0):(mX false F limit L0).2≠[]/\ ∀m∈(mX false F limit L0).2,tG F L0 (mX false F limit L0).2.length m:=by have hac:xB false (allow (S.ctx .all) 21 [V.agg [.p (.int .i64 F),.p (cQ L0)],vi limit,Rg false 1] vG):=⟨fun id h=>vY (by rw[h];kernel_rfl),Yg,Yf,(fun h=>by cases h),(fun h=>by cases h),rfl⟩;obtain⟨v,ao,_,hP⟩:=Ya hac cP (F:=F) (limit:=limit) (L0:=L0) (gv:=1) (z:=vG 960512000) (c0:=.p (cQ L0)) (r0:=[]) (aj:=vG) gE rj h0 (fun B hB=>rfl) qK.nil (fun i hi=>by cases hi) rfl;obtain⟨s,g,_,_,_,_,aI,cV,_⟩:=hP;exact⟨aI,cV⟩
theorem adC{s1 t1 z1:Nat}{es:List (List PV)}{c:C}{x y:PV}{aj:aw}(h:grown s1 t1 z1 es (.one c) aj):gh aj (.tup [.one c,.one (.p x),.one (.p y)])=some (.tup [.one (aO t1 z1 es),.one (.p x),.one (.p y)]):=by obtain⟨c',o,hc,h2,h3⟩:=h.gQ;cases hc;have e1:∀v:PV,gQ aj (.p v)=some (.p v,[],[]):=fun _=>rfl;rcases h3 with rfl|rfl<;>simp[gh,nL,tU,kI,kh,h2,e1,apart,sI,pQ,Bp]
theorem Vt{s o:Nat}(h:pO s)(e:jy o=6):¬s=o:=by
 rintro rfl
 unfold pO at h;rw[e] at h;revert h;decide
abbrev Yh(F:Nat)(r:Nat×List bR):RV:=.tup [.one (aO xG 2 (qO F (r.2.map bR.n))),.one (.p (.bool (r.1==0))),.one (.p (.int .i64 0))]
theorem aim{st:List bR}{wh:Bool}{s g:Nat}{ak:Env}{aj:aw}(hs:pO s)(hl:st.length<=100000)(mJ:ak 11=vb wh)(bs:aj s=(g,some (.arr mbT 5 (fJ F st))))(qR:ak 12=.one (.p .nils))(e32:ak 32=.one (.hsl s g 5 0 st.length))(Lv:ak 33=vi st.length)(Lw:ak 34=vi 0):
  W S .all (.loop i6_l1) (lN 0 (xu S .all i6_r2 (qS .all i6.results fun v aj=>gh aj v=some (.tup [.one (aO xG 2 (qO F (st.map bR.n))),.one (.p (.bool wh)),.one (.p (.int .i64 0))])))) ak aj:=by
 have n1:=Vt (o:=384576128) hs rfl;have n2:=Vt (o:=384640192) hs rfl;have n3:=Vt (o:=384640256) hs rfl;refine cJ (fun j ak aj=>ak 11=vb wh/\ak 32=.one (.hsl s g 5 0 st.length)/\ak 33=vi st.length/\ak 34=vi j/\aj s=(g,some (.arr mbT 5 (fJ F st)))/\ ∃fc,ak 12=.one fc/\grown 384640256 xG 2 (qO F ((st.map bR.n).take j)) (.one fc) aj) 0 st.length (bj _) ⟨mJ,e32,Lv,Lw,bs,_,qR,grown.nil⟩ ?_;rintro j ak aj hj ⟨mJ,e32,Lv,Lw,bs,fc,qR,gf⟩
 by_cases aq:j<st.length
 .have aL:((j:Int)<(st.length:Int)):=aa;obtain⟨m,hm⟩:=aM aq;have hme:(fJ F st)[j]?=some (m.ps F):=by rw[fT,hm];rfl
  have lT:(fJ F st).length=st.length:=Fi F st;have w1:=bN (n:=j) aa;simp only[go_sem,i6_l1,qR,e32,Lv,Lw,aq,aL,bs,hme,bR.ps];refine ni (site:=384640256) (id:=384640256) (bytes:=32) (xs:=[[.int .i64 F,cQ m.n]]) (rd:=[384640192]) (gf.of_eq (by simp only[aN,Nat.reduceEqDiff,if_false])) (by simp[ed,aN]) (.inl rfl) (by simp only[cH,gT,cS,eE];omega) fun c' fN g1 ef=>?_;have d4:=ef s n3 n3;simp only[go_sem,bs,n1,n2] at d4;rw[<- acK hm] at g1;simp only[go_sem,mJ,qR,e32,Lv,Lw,w1];exact⟨aq,d4,c',rfl,g1⟩
 have GG:j=st.length:=aa;subst GG;have eY:(st.map bR.n).take st.length=st.map bR.n:=dD (by rw[cH];exact bJ _);rw[eY] at gf;simp only[go_sem,i6_l1,i6_r2,i6,mJ,qR,Lv,Lw,dG];exact adC gf
theorem aip(cP:vd){ls:List Let}(gE:1<=limit)(rj:limit<=20000)(h:di (F:Int) ls=0):aF S 6 [cZ F ls,vi limit] (Yh F (mX false F limit (dK ls))):=by
 have tj:=DW h;have pl:=anN (f:=F) (ls:=ls) (n:=limit) aa gE rj;rw[h] at pl;have pn:=adk cP (f:=F) (ls:=ls) aa h;have a3:(cO (ly ls)).norm=cQ (dK ls):=SJ (ly ls);have zg:((0:Int)!=0)=false:=ae;generalize cO (ly ls)=q at*;refine aV c6 ?_;simp only[go_sem,i6,s19,dJ pl,zg,s20,cU pn ach,s21];refine aaa fun vc eT=>?_
 clear eT;have hac:xB false (allow (S.ctx .all) 21 [V.agg [.p (.int .i64 F),.p q],vi limit,Rg false 0] vc):=⟨fun id h=>vY (by rw[h];kernel_rfl),Yg,Yf,(fun h=>by cases h),(fun h=>by cases h),rfl⟩;have cX:=Ya hac cP (F:=F) (limit:=limit) (L0:=dK ls) (gv:=0) (z:=vc 960512000) (c0:=.p q) (r0:=[]) (aj:=vc) gE rj (Fl h) (fun B _=>by show some (q.norm,[])=_;rw[a3]) qK.nil (fun i hi=>by cases hi) rfl;have hlen:=SM (sb:=false) (F:=F) (L0:=dK ls) gE;refine tV zK cX fun v5 BT hP=>?_;obtain⟨s,g,rfl,hs,nO,_,aI,cV,_⟩:=hP;generalize mX false F limit (dK ls)=r at*;simp only[go_sem];refine aim (s:=s) (g:=g) hs aa ?_ nO ?_ ?_ ?_ ?_;all_goals(simp only[go_sem];first|done|rfl)
end
end Go.Abs
