/- A part. -/
import Derived.Test.YtonblbhhnelniaaGreatDoorRf
set_option linter.all false
set_option maxRecDepth 100000
set_option maxHeartbeats 16000000
namespace Go.Abs
section
variable{limit:Nat}
theorem R5{F:Nat}{a:cQ}{st:List cQ}{m:a7}{r:List a7}:kr F limit a st (m::r)=if (pX F limit a st m).1=0 then kr F limit a (pX F limit a st m).2 r else pX F limit a st m:=rfl
theorem ajz{al:Al}(ac:xg al)(bQ:nK){F limit:Nat}{L0:List Let}{gv gq gM ga gg:Nat}{r0:List Nat}{b0:aq}{a:cQ}{ms:List a7}{uI:List cQ}{k:Nat}{ak:Env}{aj:aq}{Q:dy}(iv:limit<=20000)(ni:ms.length<=8000)(xU:∀m∈ms,r5 F a.c EM m)(ha:vL F L0 uI.length a)
  (hI:vN F limit L0 gv r0 b0 gq gM uI k ak aj) (hR:RdC a F ms ga gg 0 ak aj)
  (hN:∀lh (aD:Env) (ao:aq),kr F limit a uI ms=(0,lh)->vN F limit L0 gv r0 b0 gq gM lh k aD ao->uI.length<=lh.length->Q .normal aD ao)
  (hX:∀(aD:Env) (ao:aq),(kr F limit a uI ms).1≠0->EdC F L0 gv r0 b0 (kr F limit a uI ms) gq aD ao->Q (.exit 0) aD ao):W S al (.loop i29_l1) (nJ 2 Q) ak aj:=by
 refine cV (fun j ak aj=>∃st,vN F limit L0 gv r0 b0 gq gM st k ak aj/\RdC a F ms ga gg j ak aj/\kr F limit a st (ms.drop j)=kr F limit a uI ms/\uI.length<=st.length) 0 ms.length (bd _) ⟨uI,hI,hR,by rw[List.drop_zero],aX _⟩ ?_;rintro j ak aj hj ⟨st,hI,hR,hA,hle⟩
 by_cases aw:j<ms.length
 .obtain⟨m,hm⟩:=aK aw;have hd:=Ox hm;rw[hd,R5] at hA;have ha':=ha.mono hle;have au:=xU m (aU hm);have n1:∀lh (aD:Env) (ao:aq),pX F limit a st m=(0,lh)->vN F limit L0 gv r0 b0 gq gM lh k aD ao->RdC a F ms ga gg (j+1) aD ao->Jn ms.length (fun j ak aj=>∃st,vN F limit L0 gv r0 b0 gq gM st k ak aj/\RdC a F ms ga gg j ak aj/\kr F limit a st (ms.drop j)=kr F limit a uI ms/\uI.length<=st.length) j (nJ 2 Q) .normal aD ao:=by
   intro lh aD ao e h1 h2;rw[e] at hA;simp only[if_true] at hA;have mH:st.length<=lh.length:=by
    have:(pX F limit a st m).2=lh:=by rw[e]
    rw[<- this];unfold pX;split
    .exact aX _
    split
    .exact aX _
    simp
   exact⟨aw,lh,h1,h2,hA,aa⟩
  have n2:∀(aD:Env) (ao:aq),(pX F limit a st m).1≠0->EdC F L0 gv r0 b0 (pX F limit a st m) gq aD ao->Jn ms.length (fun j ak aj=>∃st,vN F limit L0 gv r0 b0 gq gM st k ak aj/\RdC a F ms ga gg j ak aj/\kr F limit a st (ms.drop j)=kr F limit a uI ms/\uI.length<=st.length) j (nJ 2 Q) (.exit 0) aD ao:=by intro aD ao e h;rw[if_neg e] at hA;rw[hA] at e h;exact hX aD ao e h
  obtain⟨s,hs,gi,hq⟩:=hI.que;exact round hs ac bQ iv ni hm au ha' hI hq hR n1 n2
 have hjn:j=ms.length:=aa;subst hjn;rw[Hg] at hA;have hA:(0,st)=kr F limit a uI ms:=hA;obtain⟨dK,bA,Lu,Ix,xG,bV⟩:=hR;obtain⟨e1,e2,e9,qJ,bM,que,bv,ne,lim,alls,fr⟩:=hI;simp only[go_sem,i29_l1,Ix,xG,eK];refine hN st _ _ hA.symm ⟨?_,?_,?_,?_,bM,que,bv,ne,lim,alls,fr⟩ hle;all_goals(simp only[go_sem,e1,e2,e9,qJ];first|done|rfl)
def clP(F limit:Nat)(L0:List Let)(gv:Nat)(r0:List Nat)(b0:aq)(r:Nat×List cQ)(v:V)(ao:aq):Prop:=∃s g,v=.tup [.one (.hsl s g 5 0 r.2.length),vb (r.1==0)]/\mj s/\ao s=(g,some (.arr mbT 5 (mf F r.2)))/\ao 896512000=(gv,some (.var [.p (.bool (r.1==2))]))/\r.2≠[]/\(∀m∈r.2,vL F L0 r.2.length m)/\ ∀i,¬mj i->i≠896512000->i∉r0->ao i=b0 i
theorem Oj{F f k:Nat}{st:List cQ}{a:cQ}(h:st[k]?=some a):Ad F limit (f+1) k st=if (kr F limit a st (qy F a.c)).1=0 then Ad F limit f (k+1) (kr F limit a st (qy F a.c)).2 else kr F limit a st (qy F a.c):=by show(match st[k]? with|none=>(0,st)|some a=>_)=_;rw[h]
theorem Sj{F f k:Nat}{st:List cQ}(h:st[k]?=none):Ad F limit (f+1) k st=(0,st):=by show(match st[k]? with|none=>(0,st)|some a=>_)=_;rw[h]
theorem apk{F:Nat}{st:List cQ}{k:Nat}{e:List PV}(h:(mf F st)[k]?=some e):∃a,st[k]?=some a/\e=a.ps F:=by
 rw[fR] at h;cases hs:st[k]? with
 |none=>rw[hs] at h;cases h
 |some a=>rw[hs] at h;cases h;exact⟨a,rfl,rfl⟩
theorem out{al:Al}{s:Nat}(hq:vl s)(ac:xg al)(bQ:nK){F limit:Nat}{L0:List Let}{gv gq gM gi:Nat}{r0:List Nat}{b0:aq}{st:List cQ}{k:Nat}{ak:Env}{aj:aq}{Q:dy}(iv:limit<=20000)
  (hI:vN F limit L0 gv r0 b0 gq gM st k ak aj) (que:BE s gq gi (mf F st) k aj) (hk:k<=st.length)
  (hE:∀(aD:Env) (ao:aq),k=st.length->aD 6=.one (.hsl s gi 5 0 st.length)->aD 7=vb true->ao s=(gi,some (.arr mbT 5 (mf F st)))->ao 896512000=(gv,some (.var [.p (.bool false)]))->(∀i,¬mj i->i≠896512000->i∉r0->ao i=b0 i)->Q .ret aD ao)
  (hN:∀a lh (aD:Env) (ao:aq),st[k]?=some a->kr F limit a st (qy F a.c)=(0,lh)->vN F limit L0 gv r0 b0 gq gM lh (k+1) aD ao->st.length<=lh.length->Q .normal aD ao)
  (hX:∀a (aD:Env) (ao:aq),st[k]?=some a->(kr F limit a st (qy F a.c)).1≠0->EdC F L0 gv r0 b0 (kr F limit a st (qy F a.c)) gq aD ao->Q (.exit 0) aD ao):W S al i29_l2 Q ak aj:=by
  have hI0:=hI;obtain⟨e1,e2,e9,qJ,bM,_,bv,ne,lim,alls,fr⟩:=hI;obtain⟨bq,bs⟩:=que;have ho:=ac.ff;have o1:=hq.ok ac;have vd:=hq.ne;have o2:=ac.v;have sM:(mf F st).length=st.length:=Nc F st;have tP:((([V.one (.bk 1856192192 gq 0)]:List V).map (jd aj)).flatten)=[1856192192,s]:=by
   have r1:jd aj (.one (.bk 1856192192 gq 0))=[1856192192,s]:=by rw[JG bq];simp only[dG,kE,lR,Hi,jR];rw[De (n:=4) bs,JF];rfl
   rw[dG,kE,r1];rfl
  have lH:=atS hq (al:=allow (S.ctx al) 51 [V.one (.bk 1856192192 gq 0)] aj) (aj:=aj) (gq:=gq) (gi:=gi) (k:=k) (es:=mf F st) (sB (by rw[tP];simp)) (sB (by rw[tP];simp)) (uQ ah) (uQ ah) ⟨bq,bs⟩ (apj F st) (by rw[sM];omega) (by rw[sM];exact hk);simp only[go_sem,i29_l2,qJ,s51];refine rM (holds_of (by show al.ff (List.flatten _)=true;rw[tP];simp only[Jv,GJ,ho,o1,wY]) (by show(S.sites 51).all al.fs.contains=true;rw[asV];simp only[lk,oG,ac.t,wY])) lH fun v1 bG hP=>?_;rcases hP with ⟨CB,rfl,hf⟩|⟨e,he,rfl,⟨bq1,bs1⟩,hf⟩
  .have c3:=(hf 1856192192 ae).trans bq;have c4:=(hf s (by rcases hq with rfl|rfl<;>decide)).trans bs;have c5:=(hf 896512000 ae).trans bv;simp only[go_sem,qJ,c3,ho];refine hE _ _ (by rw[sM] at CB;exact CB) ?_ ?_ ?_ ?_ fun i h1 h2 h3=>?_
   .simp only[go_sem];first|done|rfl
   .simp only[go_sem];first|done|rfl
   .simp only[aM,if_false,vd];exact c4
   .simp only[aM,Nat.reduceEqDiff,if_false];exact c5
   have n1:i≠1856256256:=rh h1 rfl (.inl rfl);simp only[aM,if_neg n1];exact(hf i (fun h=>h1 (.inr (.inl h)))).trans (fr i h1 h2 h3)
  obtain⟨a,O9,rfl⟩:=apk he;have ha:=alls a (aU O9);obtain⟨⟨ni,xU⟩,ps⟩:=ao3 ha.chk;have ps':aI S 52 [.agg [.p (.int .i64 F),.p (cP a.c)],.one (.p (.sl [[.int .i64 3],[.int .i64 8]]))] (.tup [.one (aR fT 7 (mP (qy F a.c))),.one (.p (.int .i64 0))]):=ps;have c2:=(hf 1856128000 ae ae).trans bM;have c5:=(hf 896512000 ae ae).trans bv;have kA:S.lone 1856448192=false:=ah;have Ik:∀i,¬mj i->i≠896512000->i∉r0->bG i=b0 i:=fun i h1 h2 h3=>(hf i (fun h=>h1 (.inr (.inl h))) (rh h1 rfl (.inl rfl))).trans (fr i h1 h2 h3);simp only[go_sem,cQ.ps,ho,s52];refine alT (fun i hi=>?_) ps' kA (QO _) rfl fun cc aZ gc aV=>?_
  .simp only[cM,iO,or_false] at hi;rcases hi with rfl|rfl
   .exact ac.c _ rfl
   exact ac.c _ rfl
  have d0:=aV 1856256256 ae;have d2:=aV 1856128000 ae;have d3:=aV 1856192192 ae;have d4:=aV s (by rcases hq with rfl|rfl<;>decide);have d5:=aV 896512000 ae;simp only[go_sem,c2,bq1,bs1,c5,vd] at d0 d2 d3 d4 d5;have Am:∀i,¬mj i->i≠896512000->i∉r0->aZ i=b0 i:=fun i h1 h2 h3=>by have n1:i≠1856256256:=rh h1 rfl (.inl rfl);have n2:i≠1856448128:=rh h1 rfl (.inl rfl);rw[aV i (rh h1 rfl (.inl rfl))];simp only[aM,if_neg n1,if_neg n2];exact Ik i h1 h2 h3
  rcases gc with ⟨em,e⟩|⟨_,gg,e,bV⟩
  .cases e;have rV:qy F a.c=[]:=by simpa [mP] using em
   simp only[go_sem];refine sA ?_;simp only[go_sem,i29_l1,zz];refine hN a st _ _ O9 (by rw[rV];rfl) ⟨?_,?_,?_,?_,d2,⟨s,hq,gi,by rw[sM];exact d3,d4⟩,d5,ne,lim,alls,Am⟩ (aX _);all_goals(simp only[go_sem,e1,e2,e9,qJ];first|done|rfl)
  cases e;have am2:(mP (qy F a.c)).length=(qy F a.c).length:=nY _;simp only[go_sem,am2];refine ajz ac bQ (F:=F) (L0:=L0) (a:=a) (ms:=qy F a.c) (uI:=st) (k:=k+1) (ga:=(bG 1856256256).1+1) (gg:=gg) (gq:=gq) (gM:=gM) (gv:=gv) (r0:=r0) (b0:=b0) iv ni xU ha ⟨?_,?_,?_,?_,d2,⟨s,hq,gi,by rw[sM];exact d3,d4⟩,d5,ne,lim,alls,Am⟩ ⟨?_,d0,?_,?_,?_,bV⟩ (fun lh aD ao h1 h2 h3=>hN a lh aD ao O9 h1 h2 h3) (fun aD ao h1 h2=>hX a aD ao O9 h1 h2);all_goals(simp only[go_sem,e1,e2,e9,qJ];first|done|rfl)
theorem ahF{al:Al}{Q:dy}{ak:Env}{aj:aq}{os:List bl}(h:∀b,b=aj->RN S al os Q ak b):RN S al os Q ak aj:=h _ rfl
noncomputable def ik (F limit:Nat) (L0:List Let):Nat×List cQ:=Ad F limit (limit+1) 0 [⟨L0,gT L0,[]⟩]
theorem YR{al:Al}(ac:xg al)(bQ:nK){F:Nat}{L0:List Let}{gv:Nat}{c0:C}{r0:List Nat}{aj:aq}(jx:1<=limit)(iv:limit<=20000)(h0:cN (F:Int) L0=0)(hc0:∀B:aq,(∀i∈r0,B i=aj i)->snap B eL c0=some (cP L0,r0))(uz:pY aj r0)(Mz:∀i∈r0,al.ok i=true/\ ¬mj i/\i≠896512000)(bv:aj 896512000=(gv,some (.var [.p (.bool false)]))):
  ∃v ao,iJ S 29 [.agg [.p (.int .i64 F),c0],vi limit,JU gv] al aj v ao/\clP F limit L0 gv r0 aj (ik F limit L0) v ao:=by
 have ho:=ac.ff;have o2:=ac.v;have hF:=Om h0;have rU:=DH h0;have pm:=Wj bQ (F:=F) (L:=L0) [] aa h0;have JA:aI S 49 [.agg [.p (.int .i64 F),.p (cP L0)],.one (.p (.sl []))] (.agg [.p (.int .i64 F),.p (cP L0),.p (.int .i64 F),.p (cO (ke L0)),.p (.sl [])]):=pm;clear pm;have a3:(cO (ke L0)).norm=cP (gT L0):=Sm (ke L0);have pp:=afz (F:=(F:Int)) (L:=gT L0) ⟨aa,aa⟩ (by have:=Js L0;omega) (agq (Nh h0));have l6:snap (dB aj 1856000000 ((aj 1856000000).1+1,some (.var [.p (.int .i64 F),c0]))) eL c0=some (cP L0,r0):=hc0 _ fun i hi=>by rw[aM,if_neg];intro e;exact(Mz i hi).2.1 (.inl (by rw[e];rfl))
 refine mr c29 (gY rfl) ?_;simp only[go_sem,i29,ho,l6,s49];have hV0:896512000∉r0:=fun h=>(Mz _ h).2.2 rfl;have acA:pY (dB aj 1856000000 ((aj 1856000000).1+1,some (.var [.p (.int .i64 F),c0]))) r0:=fun i hi=>by
  obtain⟨g,ty,z,es,h⟩:=uz i hi;refine⟨g,ty,z,es,?_⟩;rw[aM,if_neg]
  .exact h
  intro e;exact(Mz i hi).2.1 (.inl (by rw[e];rfl))
 obtain⟨u,hu,sP,vh,_⟩:=V5 (aj:=dB aj 1856000000 ((aj 1856000000).1+1,some (.var [.p (.int .i64 F),c0]))) (s:=1856064064) (rd:=r0) (x0:=.int .i64 F) (x1:=cP L0) (x2:=.int .i64 F) (x3:=cO (ke L0)) (x4:=.sl []) (l:=S.lone 1856064064) acA;rw[Lk JA hu];refine⟨CX fun i hi=>?_,?_⟩
 .rcases eF.1 hi with h|h
  .exact(Mz i h).1
  exact(Mz i (vh i h)).1
 refine ahF fun bG cU=>?_;have bv1:bG 896512000=(gv,some (.var [.p (.bool false)])):=by rw[cU,sP _ hV0];simp only[aM,Nat.reduceEqDiff,if_false];exact bv
 have Ik:∀i,¬mj i->i≠896512000->i∉r0->bG i=aj i:=fun i h1 h2 h3=>by have n1:i≠1856000000:=rh h1 rfl (.inl rfl);rw[cU,sP i h3];simp only[aM,if_neg n1]
 clear cU hu sP vh acA l6;have Mi:vL F L0 1 ⟨L0,gT L0,[]⟩:=⟨h0,rfl,rfl,(fun x hx=>by cases hx),af,rfl⟩;simp only[go_sem,ho,a3,s50,FX pp,iz,xv,oU];refine cV (fun k ak b=>∃st gq gM,vN F limit L0 gv r0 aj gq gM st k ak b/\k<=st.length/\Ad F limit (limit+1-k) k st=ik F limit L0) 0 limit (bd _) ?_ ?_
 .refine⟨[⟨L0,gT L0,[]⟩],(bG 1856192192).1+1,(bG 1856128000).1+1,⟨?_,?_,?_,?_,?_,⟨_,.inl rfl,(bG 1856192064).1+1,?_,?_⟩,?_,af,jx,fun m hm=>?_,fun i h1 h2 h3=>?_⟩,bd _,rfl⟩
  .simp only[go_sem];first|done|rfl
  .simp only[go_sem];first|done|rfl
  .simp only[go_sem];first|done|rfl
  .simp only[go_sem];first|done|rfl
  .simp only[aM,Nat.reduceEqDiff,if_true,if_false];rfl
  .simp only[aM,Nat.reduceEqDiff,if_true,if_false];rfl
  .simp only[aM,Nat.reduceEqDiff,if_true,if_false];rfl
  .simp only[aM,Nat.reduceEqDiff,if_false];exact bv1
  .rw[mR.1 hm];exact Mi
  have n1:i≠1856064128:=rh h1 rfl (.inl rfl);have n2:i≠1856128000:=rh h1 rfl (.inl rfl);have n3:i≠1856192064:=rh h1 rfl (.inl rfl);have n4:i≠1856192192:=rh h1 rfl (.inl rfl);simp only[aM,if_neg n1,if_neg n2,if_neg n3,if_neg n4];exact Ik i h1 h2 h3
 rintro k ak b hk ⟨st,gq,gM,hI,Mn,hB⟩
 have hlim:=hI.lim;have aF:=hI.ne;have amo:=hI.all;have hf:limit+1-k=(limit-k)+1:=aa;rw[hf] at hB;have ret:∀(s gi:Nat) (aD:Env) (ao:aq),mj s->k=st.length->aD 6=.one (.hsl s gi 5 0 st.length)->aD 7=vb true->ao s=(gi,some (.arr mbT 5 (mf F st)))->ao 896512000=(gv,some (.var [.p (.bool false)]))->(∀i,¬mj i->i≠896512000->i∉r0->ao i=aj i)->clP F limit L0 gv r0 aj (ik F limit L0) (.tup [aD 6,aD 7]) ao:=by intro s gi aD ao hs CB h6 h7 hb As kN;rw[Sj (lS aa)] at hB;rw[<- hB,h6,h7];exact⟨s,gi,rfl,hs,hb,As,aF,amo,kN⟩
 have hN:∀a lh (aD:Env) (ao:aq),st[k]?=some a->kr F limit a st (qy F a.c)=(0,lh)->vN F limit L0 gv r0 aj gq gM lh (k+1) aD ao->st.length<=lh.length->k<limit/\ ∃st gq gM,vN F limit L0 gv r0 aj gq gM st (k+1) aD ao/\k+1<=st.length/\Ad F limit (limit+1-(k+1)) (k+1) st=ik F limit L0:=by intro a lh aD ao ha he h hl;have aw:=(aS.1 ha).1;rw[Oj ha,he] at hB;simp only[if_true] at hB;exact⟨aa,lh,gq,gM,h,aa,by rw[show limit+1-(k+1)=limit-k by omega];exact hB⟩
 have hX:∀a (aD:Env) (ao:aq),st[k]?=some a->(kr F limit a st (qy F a.c)).1≠0->EdC F L0 gv r0 aj (kr F limit a st (qy F a.c)) gq aD ao->W S al i29_r3 (lE al i29.results (clP F limit L0 gv r0 aj (ik F limit L0))) aD ao:=by intro a aD ao ha he h;rw[Oj ha,if_neg he] at hB;rw[hB] at he h;generalize ik F limit L0=r at*;have uz:(r.1==0)=false:=beq_eq_false_iff_ne.2 he;obtain⟨qJ,⟨k',s,hs,gi,hq,hb⟩,As,hn,dk,kN⟩:=h;simp only[go_sem,i29_r3,i29,qJ,hq,ho];exact⟨_,gi,by rw[uz],hs.own,hb,As,hn,dk,kN⟩
 obtain⟨s,hs,gi,hq⟩:=hI.que;refine out hs ac bQ iv hI hq Mn (fun aD ao h1 h6 h7 hb As kN=>?_) (fun a lh aD ao h1 h2 h3 h4=>hN a lh aD ao h1 h2 h3 h4) (fun a aD ao h1 h2 h3=>hX a aD ao h1 h2 h3);have:=ret _ _ aD ao hs.own h1 h6 h7 hb As kN;rw[h6,h7] at this;simp only[go_sem,h6,h7];exact this
end
end Go.Abs
