/- A part. -/
import Derived.Test.YtffbakabajjgcaaGreatDoorRf
set_option linter.all false
set_option maxRecDepth 100000
set_option maxHeartbeats 16000000
namespace Go.Abs
section
variable{limit:Nat}
theorem Sl{sb:Bool}{F:Nat}{a:bR}{st:List bR}{m:aU}{r:List aU}:jz sb F limit a st (m::r)=if (me sb F limit a st m).1=0 then jz sb F limit a (me sb F limit a st m).2 r else me sb F limit a st m:=rfl
theorem aiq{sb:Bool}{al:Al}(ac:xB sb al)(cP:vd){F limit:Nat}{L0:List Let}{gv gq gM ga gg:Nat}{z:Nat×Option Ob}{r0:List Nat}{b0:aw}{a:bR}{ms:List aU}{lD:List bR}{k:Nat}{ak:Env}{aj:aw}{Q:dy}(rj:limit<=20000)(lT:ms.length<=8000)(r8:∀m∈ms,tz F a.c zX m)(ha:tG F L0 lD.length a)
  (hI:vX sb F limit L0 gv z r0 b0 gq gM lD k ak aj) (hR:RdC a F ms ga gg 0 ak aj)
  (hN:∀ib (aA:Env) (ao:aw),jz sb F limit a lD ms=(0,ib)->vX sb F limit L0 gv z r0 b0 gq gM ib k aA ao->lD.length<=ib.length->Q .normal aA ao)
  (hX:∀(aA:Env) (ao:aw),(jz sb F limit a lD ms).1≠0->EdC sb F L0 gv z r0 b0 (jz sb F limit a lD ms) gq aA ao->Q (.exit 0) aA ao):W S al (.loop i21_l1) (lN 2 Q) ak aj:=by
 refine cJ (fun j ak aj=>∃st,vX sb F limit L0 gv z r0 b0 gq gM st k ak aj/\RdC a F ms ga gg j ak aj/\jz sb F limit a st (ms.drop j)=jz sb F limit a lD ms/\lD.length<=st.length) 0 ms.length (bj _) ⟨lD,hI,hR,by rw[List.drop_zero],bJ _⟩ ?_;rintro j ak aj hj ⟨st,hI,hR,hA,hle⟩
 by_cases aq:j<ms.length
 .obtain⟨m,hm⟩:=aM aq;have hd:=ajj hm;rw[hd,Sl] at hA;have L9:=ha.mono hle;have au:=r8 m (aW hm);have n1:∀ib (aA:Env) (ao:aw),me sb F limit a st m=(0,ib)->vX sb F limit L0 gv z r0 b0 gq gM ib k aA ao->RdC a F ms ga gg (j+1) aA ao->Hk ms.length (fun j ak aj=>∃st,vX sb F limit L0 gv z r0 b0 gq gM st k ak aj/\RdC a F ms ga gg j ak aj/\jz sb F limit a st (ms.drop j)=jz sb F limit a lD ms/\lD.length<=st.length) j (lN 2 Q) .normal aA ao:=by
   intro ib aA ao e h1 h2;rw[e] at hA;simp only[if_true] at hA;have lk:st.length<=ib.length:=by
    have:(me sb F limit a st m).2=ib:=by rw[e]
    rw[<- this];unfold me;split
    .exact bJ _
    split
    .exact bJ _
    simp
   exact⟨aq,ib,h1,h2,hA,aa⟩
  have n2:∀(aA:Env) (ao:aw),(me sb F limit a st m).1≠0->EdC sb F L0 gv z r0 b0 (me sb F limit a st m) gq aA ao->Hk ms.length (fun j ak aj=>∃st,vX sb F limit L0 gv z r0 b0 gq gM st k ak aj/\RdC a F ms ga gg j ak aj/\jz sb F limit a st (ms.drop j)=jz sb F limit a lD ms/\lD.length<=st.length) j (lN 2 Q) (.exit 0) aA ao:=by intro aA ao e h;rw[ay e] at hA;rw[hA] at e h;exact hX aA ao e h
  obtain⟨s,hs,gi,hq⟩:=hI.que;exact round hs ac cP rj lT hm au L9 hI hq hR n1 n2
 have GG:j=ms.length:=aa;subst GG;rw[RP] at hA;have hA:(0,st)=jz sb F limit a lD ms:=hA;obtain⟨ie,bA,L5,I2,xW,bV⟩:=hR;obtain⟨e1,e2,e9,iA,bM,que,bv,ne,lim,alls,fr⟩:=hI;simp only[go_sem,i21_l1,I2,xW,dG];refine hN st _ _ hA.symm ⟨?_,?_,?_,?_,bM,que,bv,ne,lim,alls,fr⟩ hle;all_goals(simp only[go_sem,e1,e2,e9,iA];first|done|rfl)
def clP(sb:Bool)(F limit:Nat)(L0:List Let)(gv:Nat)(z:Nat×Option Ob)(r0:List Nat)(b0:aw)(r:Nat×List bR)(v:V)(ao:aw):Prop:=∃s g,v=.tup [.one (.hsl s g 5 0 r.2.length),vb (r.1==0)]/\pO s/\ao s=(g,some (.arr mbT 5 (fJ F r.2)))/\ao 960512000=F4 sb gv z (r.1==2)/\r.2≠[]/\(∀m∈r.2,tG F L0 r.2.length m)/\ ∀i,¬pO i->i≠960512000->i∉r0->ao i=b0 i
theorem OP{sb:Bool}{F f k:Nat}{st:List bR}{a:bR}(h:st[k]?=some a):BR sb F limit (f+1) k st=if (jz sb F limit a st (jw F a.c)).1=0 then BR sb F limit f (k+1) (jz sb F limit a st (jw F a.c)).2 else jz sb F limit a st (jw F a.c):=by show(match st[k]? with|none=>(0,st)|some a=>_)=_;rw[h]
theorem SF{sb:Bool}{F f k:Nat}{st:List bR}(h:st[k]?=none):BR sb F limit (f+1) k st=(0,st):=by show(match st[k]? with|none=>(0,st)|some a=>_)=_;rw[h]
theorem aob{F:Nat}{st:List bR}{k:Nat}{e:List PV}(h:(fJ F st)[k]?=some e):∃a,st[k]?=some a/\e=a.ps F:=by
 rw[fT] at h;cases hs:st[k]? with
 |none=>rw[hs] at h;cases h
 |some a=>rw[hs] at h;cases h;exact⟨a,rfl,rfl⟩
theorem out{sb:Bool}{al:Al}{s:Nat}(hq:vE s)(ac:xB sb al)(cP:vd){F limit:Nat}{L0:List Let}{gv gq gM gi:Nat}{z:Nat×Option Ob}{r0:List Nat}{b0:aw}{st:List bR}{k:Nat}{ak:Env}{aj:aw}{Q:dy}(rj:limit<=20000)
  (hI:vX sb F limit L0 gv z r0 b0 gq gM st k ak aj) (que:BG s gq gi (fJ F st) k aj) (hk:k<=st.length)
  (hE:∀(aA:Env) (ao:aw),k=st.length->aA 6=.one (.hsl s gi 5 0 st.length)->aA 7=vb true->ao s=(gi,some (.arr mbT 5 (fJ F st)))->ao 960512000=F4 sb gv z false->(∀i,¬pO i->i≠960512000->i∉r0->ao i=b0 i)->Q .ret aA ao)
  (hN:∀a ib (aA:Env) (ao:aw),st[k]?=some a->jz sb F limit a st (jw F a.c)=(0,ib)->vX sb F limit L0 gv z r0 b0 gq gM ib (k+1) aA ao->st.length<=ib.length->Q .normal aA ao)
  (hX:∀a (aA:Env) (ao:aw),st[k]?=some a->(jz sb F limit a st (jw F a.c)).1≠0->EdC sb F L0 gv z r0 b0 (jz sb F limit a st (jw F a.c)) gq aA ao->Q (.exit 0) aA ao):W S al i21_l2 Q ak aj:=by
  have hI0:=hI;obtain⟨e1,e2,e9,iA,bM,_,bv,ne,lim,alls,fr⟩:=hI;obtain⟨bq,bs⟩:=que;have ho:=ac.fG;have o1:=hq.ok ac;have mr:=hq.ne;have ub:(fJ F st).length=st.length:=Fi F st;have Ba:((([V.one (.aX 1344192192 gq 0)]:List V).map (iZ aj)).flatten)=[1344192192,s]:=by
   have r1:iZ aj (.one (.aX 1344192192 gq 0))=[1344192192,s]:=by rw[ND bq];simp only[fy,pV,lH,Og,mR];rw[Fw (n:=4) bs,NC];rfl
   rw[fy,pV,r1];rfl
  have eY:=asH hq (al:=allow (S.ctx al) 39 [V.one (.aX 1344192192 gq 0)] aj) (aj:=aj) (gq:=gq) (gi:=gi) (k:=k) (es:=fJ F st) (u9 (by rw[Ba];simp)) (u9 (by rw[Ba];simp)) (vY ah) (vY ah) ⟨bq,bs⟩ (aoa F st) (by rw[ub];omega) (by rw[ub];exact hk);simp only[go_sem,i21_l2,iA,s39];refine tV (holds_of (by show al.fG (List.flatten _)=true;rw[Ba];simp only[Nn,No,ho,o1,Ar]) (by show(S.sites 39).all al.fs.contains=true;rw[arJ];simp only[oG,sP,ac.t,Ar])) eY fun v1 cn hP=>?_;rcases hP with ⟨zD,rfl,hf⟩|⟨e,he,rfl,⟨bq1,bs1⟩,hf⟩
  .have c3:=(hf 1344192192 ae).trans bq;have c4:=(hf s (by rcases hq with rfl|rfl<;>decide)).trans bs;have c5:=(hf 960512000 ae).trans bv;simp only[go_sem,iA,c3,ho];refine hE _ _ (by rw[ub] at zD;exact zD) ?_ ?_ ?_ ?_ fun i h1 h2 h3=>?_
   .simp only[go_sem];first|done|rfl
   .simp only[go_sem];first|done|rfl
   .simp only[aN,if_false,mr];exact c4
   .simp only[aN,Nat.reduceEqDiff,if_false];exact c5
   have n1:i≠1344256256:=rC h1 rfl (.inl rfl);simp only[aN,ay n1];exact(hf i (fun h=>h1 (.inr (.inl h)))).trans (fr i h1 h2 h3)
  obtain⟨a,Ps,rfl⟩:=aob he;have ha:=alls a (aW Ps);obtain⟨⟨lT,r8⟩,ps⟩:=U3 ha.chk;have ps':aF S 40 [.agg [.p (.int .i64 F),.p (cQ a.c)],.one (.p (.sl [[.int .i64 3],[.int .i64 8]]))] (.tup [.one (aO jY 7 (mP (jw F a.c))),.one (.p (.int .i64 0))]):=ps;have c2:=(hf 1344128000 ae ae).trans bM;have c5:=(hf 960512000 ae ae).trans bv;have iD:S.lone 1344448192=false:=ah;have IQ:∀i,¬pO i->i≠960512000->i∉r0->cn i=b0 i:=fun i h1 h2 h3=>(hf i (fun h=>h1 (.inr (.inl h))) (rC h1 rfl (.inl rfl))).trans (fr i h1 h2 h3);simp only[go_sem,bR.ps,ho,s40];refine akA (fun i hi=>?_) ps' iD (aqZ _) rfl fun cc ba gc aT=>?_
  .simp only[cI,iM,or_false] at hi;rcases hi with rfl|rfl
   .exact ac.c _ rfl
   exact ac.c _ rfl
  have d0:=aT 1344256256 ae;have d2:=aT 1344128000 ae;have d3:=aT 1344192192 ae;have d4:=aT s (by rcases hq with rfl|rfl<;>decide);have d5:=aT 960512000 ae;simp only[go_sem,c2,bq1,bs1,c5,mr] at d0 d2 d3 d4 d5;have AU:∀i,¬pO i->i≠960512000->i∉r0->ba i=b0 i:=fun i h1 h2 h3=>by have n1:i≠1344256256:=rC h1 rfl (.inl rfl);have n2:i≠1344448128:=rC h1 rfl (.inl rfl);rw[aT i (rC h1 rfl (.inl rfl))];simp only[aN,ay n1,ay n2];exact IQ i h1 h2 h3
  rcases gc with ⟨em,e⟩|⟨_,gg,e,bV⟩
  .cases e;have nv:jw F a.c=[]:=by simpa [mP] using em
   simp only[go_sem];refine kG ?_;simp only[go_sem,i21_l1,zz];refine hN a st _ _ Ps (by rw[nv];rfl) ⟨?_,?_,?_,?_,d2,⟨s,hq,gi,by rw[ub];exact d3,d4⟩,d5,ne,lim,alls,AU⟩ (bJ _);all_goals(simp only[go_sem,e1,e2,e9,iA];first|done|rfl)
  cases e;have alF:(mP (jw F a.c)).length=(jw F a.c).length:=mN _;simp only[go_sem,alF];refine aiq ac cP (F:=F) (L0:=L0) (a:=a) (ms:=jw F a.c) (lD:=st) (k:=k+1) (ga:=(cn 1344256256).1+1) (gg:=gg) (gq:=gq) (gM:=gM) (gv:=gv) (z:=z) (r0:=r0) (b0:=b0) rj lT r8 ha ⟨?_,?_,?_,?_,d2,⟨s,hq,gi,by rw[ub];exact d3,d4⟩,d5,ne,lim,alls,AU⟩ ⟨?_,d0,?_,?_,?_,bV⟩ (fun ib aA ao h1 h2 h3=>hN a ib aA ao Ps h1 h2 h3) (fun aA ao h1 h2=>hX a aA ao Ps h1 h2);all_goals(simp only[go_sem,e1,e2,e9,iA];first|done|rfl)
theorem agr{al:Al}{Q:dy}{ak:Env}{aj:aw}{os:List bI}(h:∀b,b=aj->RN S al os Q ak b):RN S al os Q ak aj:=h _ rfl
noncomputable def mX (sb:Bool) (F limit:Nat) (L0:List Let):Nat×List bR:=BR sb F limit (limit+1) 0 [⟨L0,dK L0,[]⟩]
theorem Ya{sb:Bool}{al:Al}(ac:xB sb al)(cP:vd){F:Nat}{L0:List Let}{gv:Nat}{z:Nat×Option Ob}{c0:C}{r0:List Nat}{aj:aw}(gE:1<=limit)(rj:limit<=20000)(h0:di (F:Int) L0=0)(Ew:∀B:aw,(∀i∈r0,B i=aj i)->snap B ik c0=some (cQ L0,r0))(uM:qK aj r0)(ME:∀i∈r0,al.ok i=true/\ ¬pO i/\i≠960512000)(bv:aj 960512000=F4 sb gv z false):
  ∃v ao,iw S 21 [.agg [.p (.int .i64 F),c0],vi limit,Rg sb gv] al aj v ao/\clP sb F limit L0 gv z r0 aj (mX sb F limit L0) v ao:=by
 have ho:=ac.fG;have hF:=SL h0;have tj:=DW h0;have pm:=Vb cP (F:=F) (L:=L0) [] aa h0;have Kc:aF S 37 [.agg [.p (.int .i64 F),.p (cQ L0)],.one (.p (.sl []))] (.agg [.p (.int .i64 F),.p (cQ L0),.p (.int .i64 F),.p (cO (ly L0)),.p (.sl [])]):=pm;clear pm;have a3:(cO (ly L0)).norm=cQ (dK L0):=SJ (ly L0);have pp:=ad7 (F:=(F:Int)) (L:=dK L0) ⟨aa,aa⟩ (by have:=Qt L0;omega) (aeT (Fl h0));have qq:snap (dj aj 1344000000 ((aj 1344000000).1+1,some (.var [.p (.int .i64 F),c0]))) ik c0=some (cQ L0,r0):=Ew _ fun i hi=>by rw[aN,ay];intro e;exact(ME i hi).2.1 (.inl (by rw[e];rfl))
 refine mV c21 (iv rfl) ?_;simp only[go_sem,i21,ho,qq,s37];have hV0:960512000∉r0:=fun h=>(ME _ h).2.2 rfl;have aa0:qK (dj aj 1344000000 ((aj 1344000000).1+1,some (.var [.p (.int .i64 F),c0]))) r0:=fun i hi=>by
  obtain⟨g,ty,z,es,h⟩:=uM i hi;refine⟨g,ty,z,es,?_⟩;rw[aN,ay]
  .exact h
  intro e;exact(ME i hi).2.1 (.inl (by rw[e];rfl))
 obtain⟨u,hu,uN,vA,_⟩:=UQ (aj:=dj aj 1344000000 ((aj 1344000000).1+1,some (.var [.p (.int .i64 F),c0]))) (s:=1344064064) (rd:=r0) (x0:=.int .i64 F) (x1:=cQ L0) (x2:=.int .i64 F) (x3:=cO (ly L0)) (x4:=.sl []) (l:=S.lone 1344064064) aa0;rw[LU Kc hu];refine⟨Df fun i hi=>?_,?_⟩
 .rcases dZ.1 hi with h|h
  .exact(ME i h).1
  exact(ME i (vA i h)).1
 refine agr fun cn cq=>?_;have bv1:cn 960512000=F4 sb gv z false:=by rw[cq,uN _ hV0];simp only[aN,Nat.reduceEqDiff,if_false];exact bv
 have IQ:∀i,¬pO i->i≠960512000->i∉r0->cn i=aj i:=fun i h1 h2 h3=>by have n1:i≠1344000000:=rC h1 rfl (.inl rfl);rw[cq,uN i h3];simp only[aN,ay n1]
 clear cq hu uN vA aa0 qq;have GB:tG F L0 1 ⟨L0,dK L0,[]⟩:=⟨h0,rfl,rfl,(fun x hx=>by cases hx),af,rfl⟩;simp only[go_sem,ho,a3,s38,Ei pp,gZ,xH,oZ];refine cJ (fun k ak b=>∃st gq gM,vX sb F limit L0 gv z r0 aj gq gM st k ak b/\k<=st.length/\BR sb F limit (limit+1-k) k st=mX sb F limit L0) 0 limit (bj _) ?_ ?_
 .refine⟨[⟨L0,dK L0,[]⟩],(cn 1344192192).1+1,(cn 1344128000).1+1,⟨?_,?_,?_,?_,?_,⟨_,.inl rfl,(cn 1344192064).1+1,?_,?_⟩,?_,af,gE,fun m hm=>?_,fun i h1 h2 h3=>?_⟩,bj _,rfl⟩
  .simp only[go_sem];first|done|rfl
  .simp only[go_sem];first|done|rfl
  .simp only[go_sem];first|done|rfl
  .simp only[go_sem];first|done|rfl
  .simp only[aN,Nat.reduceEqDiff,if_true,if_false];rfl
  .simp only[aN,Nat.reduceEqDiff,if_true,if_false];rfl
  .simp only[aN,Nat.reduceEqDiff,if_true,if_false];rfl
  .simp only[aN,Nat.reduceEqDiff,if_false];exact bv1
  .rw[lK.1 hm];exact GB
  have n1:i≠1344064128:=rC h1 rfl (.inl rfl);have n2:i≠1344128000:=rC h1 rfl (.inl rfl);have n3:i≠1344192064:=rC h1 rfl (.inl rfl);have n4:i≠1344192192:=rC h1 rfl (.inl rfl);simp only[aN,ay n1,ay n2,ay n3,ay n4];exact IQ i h1 h2 h3
 rintro k ak b hk ⟨st,gq,gM,hI,Jj,hB⟩
 have alx:=hI.lim;have aI:=hI.ne;have ak2:=hI.all;have hf:limit+1-k=(limit-k)+1:=aa;rw[hf] at hB;have ret:∀(s gi:Nat) (aA:Env) (ao:aw),pO s->k=st.length->aA 6=.one (.hsl s gi 5 0 st.length)->aA 7=vb true->ao s=(gi,some (.arr mbT 5 (fJ F st)))->ao 960512000=F4 sb gv z false->(∀i,¬pO i->i≠960512000->i∉r0->ao i=aj i)->clP sb F limit L0 gv z r0 aj (mX sb F limit L0) (.tup [aA 6,aA 7]) ao:=by intro s gi aA ao hs zD h6 h7 hb Md nT;rw[SF (mS aa)] at hB;rw[<- hB,h6,h7];exact⟨s,gi,rfl,hs,hb,Md,aI,ak2,nT⟩
 have hN:∀a ib (aA:Env) (ao:aw),st[k]?=some a->jz sb F limit a st (jw F a.c)=(0,ib)->vX sb F limit L0 gv z r0 aj gq gM ib (k+1) aA ao->st.length<=ib.length->k<limit/\ ∃st gq gM,vX sb F limit L0 gv z r0 aj gq gM st (k+1) aA ao/\k+1<=st.length/\BR sb F limit (limit+1-(k+1)) (k+1) st=mX sb F limit L0:=by intro a ib aA ao ha he h hl;have aq:=(bg.1 ha).1;rw[OP ha,he] at hB;simp only[if_true] at hB;exact⟨aa,ib,gq,gM,h,aa,by rw[show limit+1-(k+1)=limit-k by omega];exact hB⟩
 have hX:∀a (aA:Env) (ao:aw),st[k]?=some a->(jz sb F limit a st (jw F a.c)).1≠0->EdC sb F L0 gv z r0 aj (jz sb F limit a st (jw F a.c)) gq aA ao->W S al i21_r3 (qS al i21.results (clP sb F limit L0 gv z r0 aj (mX sb F limit L0))) aA ao:=by intro a aA ao ha he h;rw[OP ha,ay he] at hB;rw[hB] at he h;generalize mX sb F limit L0=r at*;have uM:(r.1==0)=false:=tF.2 he;obtain⟨iA,⟨k',s,hs,gi,hq,hb⟩,Md,hn,cV,nT⟩:=h;simp only[go_sem,i21_r3,i21,iA,hq,ho];exact⟨_,gi,by rw[uM],hs.own,hb,Md,hn,cV,nT⟩
 obtain⟨s,hs,gi,hq⟩:=hI.que;refine out hs ac cP rj hI hq Jj (fun aA ao h1 h6 h7 hb Md nT=>?_) (fun a ib aA ao h1 h2 h3 h4=>hN a ib aA ao h1 h2 h3 h4) (fun a aA ao h1 h2 h3=>hX a aA ao h1 h2 h3);have:=ret _ _ aA ao hs.own h1 h6 h7 hb Md nT;rw[h6,h7] at this;simp only[go_sem,h6,h7];exact this
end
end Go.Abs
