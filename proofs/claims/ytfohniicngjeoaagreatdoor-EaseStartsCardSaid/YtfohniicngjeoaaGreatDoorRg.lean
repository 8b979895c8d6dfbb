/- A part. -/
import Derived.Test.YtfohniicngjeoaaGreatDoorRf
set_option linter.all false
set_option maxRecDepth 100000
set_option maxHeartbeats 16000000
namespace Go.Abs
section
variable{limit:Nat}
theorem QZ{F:Nat}{a:cN}{st:List cN}{m:bd}{r:List bd}:kG F limit a st (m::r)=if (pR F limit a st m).1=0 then kG F limit a (pR F limit a st m).2 r else pR F limit a st m:=rfl
theorem ahR{al:Al}(ac:wU al)(cq:nQ){F limit:Nat}{L0:List Let}{gv gq gM ga gg:Nat}{r0:List Nat}{b0:aA}{a:cN}{ms:List bd}{uJ:List cN}{k:Nat}{ak:Env}{aj:aA}{Q:dA}(j7:limit<=20000)(oZ:ms.length<=8000)(xK:∀m∈ms,rU F a.c EE m)(ha:vI F L0 uJ.length a)
  (hI:vJ F limit L0 gv r0 b0 gq gM uJ k ak aj) (hR:Fh a F ms ga gg 0 ak aj)
  (hN:∀lO (aC:Env) (ao:aA),kG F limit a uJ ms=(0,lO)->vJ F limit L0 gv r0 b0 gq gM lO k aC ao->uJ.length<=lO.length->Q .normal aC ao)
  (hX:∀(aC:Env) (ao:aA),(kG F limit a uJ ms).1≠0->Kh F L0 gv r0 b0 (kG F limit a uJ ms) gq aC ao->Q (.exit 0) aC ao):W S al (.loop i26_l1) (mI 2 Q) ak aj:=by
 refine cV (fun j ak aj=>∃st,vJ F limit L0 gv r0 b0 gq gM st k ak aj/\Fh a F ms ga gg j ak aj/\kG F limit a st (ms.drop j)=kG F limit a uJ ms/\uJ.length<=st.length) 0 ms.length (bG _) ⟨uJ,hI,hR,by rw[List.drop_zero],bN _⟩ ?_;rintro j ak aj hj ⟨st,hI,hR,hA,hle⟩
 by_cases ay:j<ms.length
 .obtain⟨m,hm⟩:=aL ay;have hd:=NX hm;rw[hd,QZ] at hA;have ha':=ha.mono hle;have au:=xK m (aU hm);have n1:∀lO (aC:Env) (ao:aA),pR F limit a st m=(0,lO)->vJ F limit L0 gv r0 b0 gq gM lO k aC ao->Fh a F ms ga gg (j+1) aC ao->Jc ms.length (fun j ak aj=>∃st,vJ F limit L0 gv r0 b0 gq gM st k ak aj/\Fh a F ms ga gg j ak aj/\kG F limit a st (ms.drop j)=kG F limit a uJ ms/\uJ.length<=st.length) j (mI 2 Q) .normal aC ao:=by
   intro lO aC ao e h1 h2;rw[e] at hA;simp only[if_true] at hA;have sG:st.length<=lO.length:=by
    have:(pR F limit a st m).2=lO:=by rw[e]
    rw[<- this];unfold pR;split
    .exact bN _
    split
    .exact bN _
    simp
   exact⟨ay,lO,h1,h2,hA,aa⟩
  have n2:∀(aC:Env) (ao:aA),(pR F limit a st m).1≠0->Kh F L0 gv r0 b0 (pR F limit a st m) gq aC ao->Jc ms.length (fun j ak aj=>∃st,vJ F limit L0 gv r0 b0 gq gM st k ak aj/\Fh a F ms ga gg j ak aj/\kG F limit a st (ms.drop j)=kG F limit a uJ ms/\uJ.length<=st.length) j (mI 2 Q) (.exit 0) aC ao:=by intro aC ao e h;rw[if_neg e] at hA;rw[hA] at e h;exact hX aC ao e h
  obtain⟨s,hs,gi,hq⟩:=hI.que;exact round hs ac cq j7 oZ hm au ha' hI hq hR n1 n2
 have hjn:j=ms.length:=aa;subst hjn;rw[Ka] at hA;have hA:(0,st)=kG F limit a uJ ms:=hA;obtain⟨fK,bA,Lq,Iq,xu,bV⟩:=hR;obtain⟨e1,e2,e9,qC,bM,que,bv,ne,lim,alls,fr⟩:=hI;simp only[go_sem,i26_l1,Iq,xu,eE];refine hN st _ _ hA.symm ⟨?_,?_,?_,?_,bM,que,bv,ne,lim,alls,fr⟩ hle;all_goals(simp only[go_sem,e1,e2,e9,qC];first|done|rfl)
def clP(F limit:Nat)(L0:List Let)(gv:Nat)(r0:List Nat)(b0:aA)(r:Nat×List cN)(v:V)(ao:aA):Prop:=∃s g,v=.tup [.one (.hsl s g 5 0 r.2.length),vb (r.1==0)]/\mw s/\ao s=(g,some (.arr MJ 5 (mv F r.2)))/\ao 512512000=(gv,some (.var [.p (.bool (r.1==2))]))/\r.2≠[]/\(∀m∈r.2,vI F L0 r.2.length m)/\ ∀i,¬mw i->i≠512512000->i∉r0->ao i=b0 i
theorem NO{F f k:Nat}{st:List cN}{a:cN}(h:st[k]?=some a):zP F limit (f+1) k st=if (kG F limit a st (qo F a.c)).1=0 then zP F limit f (k+1) (kG F limit a st (qo F a.c)).2 else kG F limit a st (qo F a.c):=by show(match st[k]? with|none=>(0,st)|some a=>_)=_;rw[h]
theorem Ri{F f k:Nat}{st:List cN}(h:st[k]?=none):zP F limit (f+1) k st=(0,st):=by show(match st[k]? with|none=>(0,st)|some a=>_)=_;rw[h]
theorem ank{F:Nat}{st:List cN}{k:Nat}{e:List PV}(h:(mv F st)[k]?=some e):∃a,st[k]?=some a/\e=a.ps F:=by
 rw[fZ] at h;cases hs:st[k]? with
 |none=>rw[hs] at h;cases h
 |some a=>rw[hs] at h;cases h;exact⟨a,rfl,rfl⟩
theorem out{al:Al}{s:Nat}(hq:vl s)(ac:wU al)(cq:nQ){F limit:Nat}{L0:List Let}{gv gq gM gi:Nat}{r0:List Nat}{b0:aA}{st:List cN}{k:Nat}{ak:Env}{aj:aA}{Q:dA}(j7:limit<=20000)
  (hI:vJ F limit L0 gv r0 b0 gq gM st k ak aj) (que:By s gq gi (mv F st) k aj) (hk:k<=st.length)
  (hE:∀(aC:Env) (ao:aA),k=st.length->aC 6=.one (.hsl s gi 5 0 st.length)->aC 7=vb true->ao s=(gi,some (.arr MJ 5 (mv F st)))->ao 512512000=(gv,some (.var [.p (.bool false)]))->(∀i,¬mw i->i≠512512000->i∉r0->ao i=b0 i)->Q .ret aC ao)
  (hN:∀a lO (aC:Env) (ao:aA),st[k]?=some a->kG F limit a st (qo F a.c)=(0,lO)->vJ F limit L0 gv r0 b0 gq gM lO (k+1) aC ao->st.length<=lO.length->Q .normal aC ao)
  (hX:∀a (aC:Env) (ao:aA),st[k]?=some a->(kG F limit a st (qo F a.c)).1≠0->Kh F L0 gv r0 b0 (kG F limit a st (qo F a.c)) gq aC ao->Q (.exit 0) aC ao):W S al i26_l2 Q ak aj:=by
  have hI0:=hI;obtain⟨e1,e2,e9,qC,bM,_,bv,ne,lim,alls,fr⟩:=hI;obtain⟨bq,bs⟩:=que;have ho:=ac.fD;have o1:=hq.ok ac;have sJ:=hq.ne;have o2:=ac.v;have sN:(mv F st).length=st.length:=MK F st;have tG:((([V.one (.aY 1664192192 gq 0)]:List V).map (jm aj)).flatten)=[1664192192,s]:=by
   have r1:jm aj (.one (.aY 1664192192 gq 0))=[1664192192,s]:=by rw[Jv bq];simp only[dS,kQ,l8,Hb,kN];rw[CQ (n:=4) bs,Ju];rfl
   rw[dS,kQ,r1];rfl
  have mq:=arv hq (al:=allow (S.ctx al) 50 [V.one (.aY 1664192192 gq 0)] aj) (aj:=aj) (gq:=gq) (gi:=gi) (k:=k) (es:=mv F st) (se (by rw[tG];simp)) (se (by rw[tG];simp)) (uR ah) (uR ah) ⟨bq,bs⟩ (anj F st) (by rw[sN];omega) (by rw[sN];exact hk);simp only[go_sem,i26_l2,qC,s50];refine rC (holds_of (by show al.fD (List.flatten _)=true;rw[tG];simp only[Jj,GB,ho,o1,wN]) (by show(S.sites 50).all al.fs.contains=true;rw[aqB];simp only[mB,pM,ac.t,wN])) mq fun v1 bK hP=>?_;rcases hP with ⟨Cp,rfl,hf⟩|⟨e,he,rfl,⟨bq1,bs1⟩,hf⟩
  .have c3:=(hf 1664192192 ae).trans bq;have c4:=(hf s (by rcases hq with rfl|rfl<;>decide)).trans bs;have c5:=(hf 512512000 ae).trans bv;simp only[go_sem,qC,c3,ho];refine hE _ _ (by rw[sN] at Cp;exact Cp) ?_ ?_ ?_ ?_ fun i h1 h2 h3=>?_
   .simp only[go_sem];first|done|rfl
   .simp only[go_sem];first|done|rfl
   .simp only[aN,if_false,sJ];exact c4
   .simp only[aN,Nat.reduceEqDiff,if_false];exact c5
   have n1:i≠1664256256:=qR h1 rfl (.inl rfl);simp only[aN,if_neg n1];exact(hf i (fun h=>h1 (.inr (.inl h)))).trans (fr i h1 h2 h3)
  obtain⟨a,OG,rfl⟩:=ank he;have ha:=alls a (aU OG);obtain⟨⟨oZ,xK⟩,ps⟩:=am1 ha.chk;have ps':aI S 51 [.agg [.p (.int .i64 F),.p (cF a.c)],.one (.p (.sl [[.int .i64 3],[.int .i64 8]]))] (.tup [.one (aT gC 7 (mP (qo F a.c))),.one (.p (.int .i64 0))]):=ps;have c2:=(hf 1664128000 ae ae).trans bM;have c5:=(hf 512512000 ae ae).trans bv;have lY:S.lone 1664448192=false:=ah;have Ic:∀i,¬mw i->i≠512512000->i∉r0->bK i=b0 i:=fun i h1 h2 h3=>(hf i (fun h=>h1 (.inr (.inl h))) (qR h1 rfl (.inl rfl))).trans (fr i h1 h2 h3);simp only[go_sem,cN.ps,ho,s51];refine ajT (fun i hi=>?_) ps' lY (Qi _) rfl fun cc bh gc bj=>?_
  .simp only[cP,jz,or_false] at hi;rcases hi with rfl|rfl
   .exact ac.c _ rfl
   exact ac.c _ rfl
  have d0:=bj 1664256256 ae;have d2:=bj 1664128000 ae;have d3:=bj 1664192192 ae;have d4:=bj s (by rcases hq with rfl|rfl<;>decide);have d5:=bj 512512000 ae;simp only[go_sem,c2,bq1,bs1,c5,sJ] at d0 d2 d3 d4 d5;have zY:∀i,¬mw i->i≠512512000->i∉r0->bh i=b0 i:=fun i h1 h2 h3=>by have n1:i≠1664256256:=qR h1 rfl (.inl rfl);have n2:i≠1664448128:=qR h1 rfl (.inl rfl);rw[bj i (qR h1 rfl (.inl rfl))];simp only[aN,if_neg n1,if_neg n2];exact Ic i h1 h2 h3
  rcases gc with ⟨em,e⟩|⟨_,gg,e,bV⟩
  .cases e;have nX:qo F a.c=[]:=by simpa [mP] using em
   simp only[go_sem];refine rj ?_;simp only[go_sem,i26_l1,zz];refine hN a st _ _ OG (by rw[nX];rfl) ⟨?_,?_,?_,?_,d2,⟨s,hq,gi,by rw[sN];exact d3,d4⟩,d5,ne,lim,alls,zY⟩ (bN _);all_goals(simp only[go_sem,e1,e2,e9,qC];first|done|rfl)
  cases e;have akY:(mP (qo F a.c)).length=(qo F a.c).length:=oz _;simp only[go_sem,akY];refine ahR ac cq (F:=F) (L0:=L0) (a:=a) (ms:=qo F a.c) (uJ:=st) (k:=k+1) (ga:=(bK 1664256256).1+1) (gg:=gg) (gq:=gq) (gM:=gM) (gv:=gv) (r0:=r0) (b0:=b0) j7 oZ xK ha ⟨?_,?_,?_,?_,d2,⟨s,hq,gi,by rw[sN];exact d3,d4⟩,d5,ne,lim,alls,zY⟩ ⟨?_,d0,?_,?_,?_,bV⟩ (fun lO aC ao h1 h2 h3=>hN a lO aC ao OG h1 h2 h3) (fun aC ao h1 h2=>hX a aC ao OG h1 h2);all_goals(simp only[go_sem,e1,e2,e9,qC];first|done|rfl)
theorem afZ{al:Al}{Q:dA}{ak:Env}{aj:aA}{os:List aO}(h:∀b,b=aj->RN S al os Q ak b):RN S al os Q ak aj:=h _ rfl
noncomputable def iz (F limit:Nat) (L0:List Let):Nat×List cN:=zP F limit (limit+1) 0 [⟨L0,fB L0,[]⟩]
theorem XS{al:Al}(ac:wU al)(cq:nQ){F:Nat}{L0:List Let}{gv:Nat}{c0:C}{r0:List Nat}{aj:aA}(jQ:1<=limit)(j7:limit<=20000)(h0:cU (F:Int) L0=0)(hc0:∀B:aA,(∀i∈r0,B i=aj i)->snap B fH c0=some (cF L0,r0))(uC:nK aj r0)(Mg:∀i∈r0,al.ok i=true/\ ¬mw i/\i≠512512000)(bv:aj 512512000=(gv,some (.var [.p (.bool false)]))):
  ∃v ao,iK S 26 [.agg [.p (.int .i64 F),c0],vi limit,JF gv] al aj v ao/\clP F limit L0 gv r0 aj (iz F limit L0) v ao:=by
 have ho:=ac.fD;have o2:=ac.v;have hF:=Rr h0;have rJ:=Dv h0;have pm:=Vx cq (F:=F) (L:=L0) [] aa h0;have Jp:aI S 48 [.agg [.p (.int .i64 F),.p (cF L0)],.one (.p (.sl []))] (.agg [.p (.int .i64 F),.p (cF L0),.p (.int .i64 F),.p (cO (jV L0)),.p (.sl [])]):=pm;clear pm;have a3:(cO (jV L0)).norm=cF (fB L0):=Rm (jV L0);have pp:=aeg (F:=(F:Int)) (L:=fB L0) ⟨aa,aa⟩ (by have:=GA L0;omega) (aeZ (VF h0));have lK:snap (dK aj 1664000000 ((aj 1664000000).1+1,some (.var [.p (.int .i64 F),c0]))) fH c0=some (cF L0,r0):=hc0 _ fun i hi=>by rw[aN,if_neg];intro e;exact(Mg i hi).2.1 (.inl (by rw[e];rfl))
 refine mF c26 (iv rfl) ?_;simp only[go_sem,i26,ho,lK,s48];have hV0:512512000∉r0:=fun h=>(Mg _ h).2.2 rfl;have abk:nK (dK aj 1664000000 ((aj 1664000000).1+1,some (.var [.p (.int .i64 F),c0]))) r0:=fun i hi=>by
  obtain⟨g,ty,z,es,h⟩:=uC i hi;refine⟨g,ty,z,es,?_⟩;rw[aN,if_neg]
  .exact h
  intro e;exact(Mg i hi).2.1 (.inl (by rw[e];rfl))
 obtain⟨u,hu,uD,vj,_⟩:=Vk (aj:=dK aj 1664000000 ((aj 1664000000).1+1,some (.var [.p (.int .i64 F),c0]))) (s:=1664064064) (rd:=r0) (x0:=.int .i64 F) (x1:=cF L0) (x2:=.int .i64 F) (x3:=cO (jV L0)) (x4:=.sl []) (l:=S.lone 1664064064) abk;rw[Lg Jp hu];refine⟨CK fun i hi=>?_,?_⟩
 .rcases fg.1 hi with h|h
  .exact(Mg i h).1
  exact(Mg i (vj i h)).1
 refine afZ fun bK cD=>?_;have bv1:bK 512512000=(gv,some (.var [.p (.bool false)])):=by rw[cD,uD _ hV0];simp only[aN,Nat.reduceEqDiff,if_false];exact bv
 have Ic:∀i,¬mw i->i≠512512000->i∉r0->bK i=aj i:=fun i h1 h2 h3=>by have n1:i≠1664000000:=qR h1 rfl (.inl rfl);rw[cD,uD i h3];simp only[aN,if_neg n1]
 clear cD hu uD vj abk lK;have hg0:vI F L0 1 ⟨L0,fB L0,[]⟩:=⟨h0,rfl,rfl,(fun x hx=>by cases hx),af,rfl⟩;simp only[go_sem,ho,a3,s49,FK pp,iC,w8,oO];refine cV (fun k ak b=>∃st gq gM,vJ F limit L0 gv r0 aj gq gM st k ak b/\k<=st.length/\zP F limit (limit+1-k) k st=iz F limit L0) 0 limit (bG _) ?_ ?_
 .refine⟨[⟨L0,fB L0,[]⟩],(bK 1664192192).1+1,(bK 1664128000).1+1,⟨?_,?_,?_,?_,?_,⟨_,.inl rfl,(bK 1664192064).1+1,?_,?_⟩,?_,af,jQ,fun m hm=>?_,fun i h1 h2 h3=>?_⟩,bG _,rfl⟩
  .simp only[go_sem];first|done|rfl
  .simp only[go_sem];first|done|rfl
  .simp only[go_sem];first|done|rfl
  .simp only[go_sem];first|done|rfl
  .simp only[aN,Nat.reduceEqDiff,if_true,if_false];rfl
  .simp only[aN,Nat.reduceEqDiff,if_true,if_false];rfl
  .simp only[aN,Nat.reduceEqDiff,if_true,if_false];rfl
  .simp only[aN,Nat.reduceEqDiff,if_false];exact bv1
  .rw[pO.1 hm];exact hg0
  have n1:i≠1664064128:=qR h1 rfl (.inl rfl);have n2:i≠1664128000:=qR h1 rfl (.inl rfl);have n3:i≠1664192064:=qR h1 rfl (.inl rfl);have n4:i≠1664192192:=qR h1 rfl (.inl rfl);simp only[aN,if_neg n1,if_neg n2,if_neg n3,if_neg n4];exact Ic i h1 h2 h3
 rintro k ak b hk ⟨st,gq,gM,hI,L3,hB⟩
 have hlim:=hI.lim;have aH:=hI.ne;have akn:=hI.all;have hf:limit+1-k=(limit-k)+1:=aa;rw[hf] at hB;have ret:∀(s gi:Nat) (aC:Env) (ao:aA),mw s->k=st.length->aC 6=.one (.hsl s gi 5 0 st.length)->aC 7=vb true->ao s=(gi,some (.arr MJ 5 (mv F st)))->ao 512512000=(gv,some (.var [.p (.bool false)]))->(∀i,¬mw i->i≠512512000->i∉r0->ao i=aj i)->clP F limit L0 gv r0 aj (iz F limit L0) (.tup [aC 6,aC 7]) ao:=by intro s gi aC ao hs Cp h6 h7 hb DX kZ;rw[Ri (tZ aa)] at hB;rw[<- hB,h6,h7];exact⟨s,gi,rfl,hs,hb,DX,aH,akn,kZ⟩
 have hN:∀a lO (aC:Env) (ao:aA),st[k]?=some a->kG F limit a st (qo F a.c)=(0,lO)->vJ F limit L0 gv r0 aj gq gM lO (k+1) aC ao->st.length<=lO.length->k<limit/\ ∃st gq gM,vJ F limit L0 gv r0 aj gq gM st (k+1) aC ao/\k+1<=st.length/\zP F limit (limit+1-(k+1)) (k+1) st=iz F limit L0:=by intro a lO aC ao ha he h hl;have ay:=(aW.1 ha).1;rw[NO ha,he] at hB;simp only[if_true] at hB;exact⟨aa,lO,gq,gM,h,aa,by rw[show limit+1-(k+1)=limit-k by omega];exact hB⟩
 have hX:∀a (aC:Env) (ao:aA),st[k]?=some a->(kG F limit a st (qo F a.c)).1≠0->Kh F L0 gv r0 aj (kG F limit a st (qo F a.c)) gq aC ao->W S al i26_r3 (mJ al i26.results (clP F limit L0 gv r0 aj (iz F limit L0))) aC ao:=by intro a aC ao ha he h;rw[NO ha,if_neg he] at hB;rw[hB] at he h;generalize iz F limit L0=r at*;have uC:(r.1==0)=false:=beq_eq_false_iff_ne.2 he;obtain⟨qC,⟨k',s,hs,gi,hq,hb⟩,DX,hn,dy,kZ⟩:=h;simp only[go_sem,i26_r3,i26,qC,hq,ho];exact⟨_,gi,by rw[uC],hs.own,hb,DX,hn,dy,kZ⟩
 obtain⟨s,hs,gi,hq⟩:=hI.que;refine out hs ac cq j7 hI hq L3 (fun aC ao h1 h6 h7 hb DX kZ=>?_) (fun a lO aC ao h1 h2 h3 h4=>hN a lO aC ao h1 h2 h3 h4) (fun a aC ao h1 h2 h3=>hX a aC ao h1 h2 h3);have:=ret _ _ aC ao hs.own h1 h6 h7 hb DX kZ;rw[h6,h7] at this;simp only[go_sem,h6,h7];exact this
end
end Go.Abs
