/- A part. -/
import Derived.Test.YtfdblnecoamlbaaGreatDoorRf
set_option linter.all false
set_option maxRecDepth 100000
set_option maxHeartbeats 16000000
namespace Go.Abs
section
variable{limit:Nat}
def Gq{F:Nat}{a:aY}{st:j_}{m:aP}{r:g_}:gD F limit a st (m::r)=if (jD F limit a st m).1=0 then gD F limit a (jD F limit a st m).2 r else jD F limit a st m:=rfl
def ak2{al:Al}(ac:yq al)(bN:ni){F limit:Nat}{L0:ai}{gv gq gM ga gg:Nat}{r0:a_}{b0:aB}{a:aY}{ms:g_}{vO:j_}{k:Nat}{ak:Env}{aj:aB}{Q:dO}(iE:limit<=20000)(jq:ms.length<=8000)(yZ:∀m∈ms,qO F a.c DM m)(ha:xr F L0 vO.length a)
  (hI:xu F limit L0 gv r0 b0 gq gM vO k ak aj) (hR:RdC a F ms ga gg 0 ak aj)
  (hN:∀mD (aF:Env) (ao:aB),gD F limit a vO ms=(0,mD)->xu F limit L0 gv r0 b0 gq gM mD k aF ao->vO.length<=mD.length->Q .normal aF ao)
  (hX:∀(aF:Env) (ao:aB),(gD F limit a vO ms).1≠0->EdC F L0 gv r0 b0 (gD F limit a vO ms) gq aF ao->Q (.exit 0) aF ao):W S al (.loop i23_l1) (nh 2 Q) ak aj:=by
 refine dy (fun j ak aj=>∃st,xu F limit L0 gv r0 b0 gq gM st k ak aj/\RdC a F ms ga gg j ak aj/\gD F limit a st (ms.drop j)=gD F limit a vO ms/\vO.length<=st.length) 0 ms.length (bG _) ⟨vO,hI,hR,by rw[List.drop_zero],bR _⟩ ?_;rintro j ak aj hj ⟨st,hI,hR,hA,hle⟩
 by_cases aw:j<ms.length
 .obtain⟨m,hm⟩:=aM aw;have hd:=Px hm;rw[hd,Gq] at hA;have MW:=ha.mono hle;have au:=yZ m (aV hm);have n1:∀mD (aF:Env) (ao:aB),jD F limit a st m=(0,mD)->xu F limit L0 gv r0 b0 gq gM mD k aF ao->RdC a F ms ga gg (j+1) aF ao->KK ms.length (fun j ak aj=>∃st,xu F limit L0 gv r0 b0 gq gM st k ak aj/\RdC a F ms ga gg j ak aj/\gD F limit a st (ms.drop j)=gD F limit a vO ms/\vO.length<=st.length) j (nh 2 Q) .normal aF ao:=by
   intro mD aF ao e h1 h2;rw[e] at hA;simp only[if_true] at hA;have r8:st.length<=mD.length:=by
    have:(jD F limit a st m).2=mD:=by rw[e]
    rw[<- this];unfold jD;split
    .exact bR _
    split
    .exact bR _
    simp
   exact⟨aw,mD,h1,h2,hA,aa⟩
  have n2:∀(aF:Env) (ao:aB),(jD F limit a st m).1≠0->EdC F L0 gv r0 b0 (jD F limit a st m) gq aF ao->KK ms.length (fun j ak aj=>∃st,xu F limit L0 gv r0 b0 gq gM st k ak aj/\RdC a F ms ga gg j ak aj/\gD F limit a st (ms.drop j)=gD F limit a vO ms/\vO.length<=st.length) j (nh 2 Q) (.exit 0) aF ao:=by intro aF ao e h;rw[ay e] at hA;rw[hA] at e h;exact hX aF ao e h
  obtain⟨s,hs,gi,hq⟩:=hI.que;exact round hs ac bN iE jq hm au MW hI hq hR n1 n2
 have hjn:j=ms.length:=aa;subst hjn;rw[Ly] at hA;have hA:(0,st)=gD F limit a vO ms:=hA;obtain⟨iu,bA,MR,JP,yI,bV⟩:=hR;obtain⟨e1,e2,e9,rU,bM,que,bv,ne,lim,alls,fr⟩:=hI;simp only[go_sem,i23_l1,JP,yI,eI];refine hN st _ _ hA.symm ⟨?_,?_,?_,?_,bM,que,bv,ne,lim,alls,fr⟩ hle;all_goals(simp only[go_sem,e1,e2,e9,rU];first|done|rfl)
def clP(F limit:Nat)(L0:ai)(gv:Nat)(r0:a_)(b0:aB)(r:Nat×j_)(v:V)(ao:aB):Prop:=∃s g,v=.tup [.one (.hsl s g 5 0 r.2.length),vb (r.1==0)]/\nH s/\ao s=(g,some (.arr mbT 5 (nC F r.2)))/\ao 384512000=(gv,some (.var [.p (.bool (r.1==2))]))/\r.2≠[]/\(∀m∈r.2,xr F L0 r.2.length m)/\ ∀i,¬nH i->i≠384512000->i∉r0->ao i=b0 i
def Po{F f k:Nat}{st:j_}{a:aY}(h:st[k]?=some a):iR F limit (f+1) k st=if (gD F limit a st (jc F a.c)).1=0 then iR F limit f (k+1) (gD F limit a st (jc F a.c)).2 else gD F limit a st (jc F a.c):=by show(match st[k]? with|none=>(0,st)|some a=>_)=_;rw[h]
def Ts{F f k:Nat}{st:j_}(h:st[k]?=none):iR F limit (f+1) k st=(0,st):=by show(match st[k]? with|none=>(0,st)|some a=>_)=_;rw[h]
def aqN{F:Nat}{st:j_}{k:Nat}{e:b_}(h:(nC F st)[k]?=some e):∃a,st[k]?=some a/\e=a.ps F:=by
 rw[fG] at h;cases hs:st[k]? with
 |none=>rw[hs] at h;cases h
 |some a=>rw[hs] at h;cases h;exact⟨a,rfl,rfl⟩
def out{al:Al}{s:Nat}(hq:wP s)(ac:yq al)(bN:ni){F limit:Nat}{L0:ai}{gv gq gM gi:Nat}{r0:a_}{b0:aB}{st:j_}{k:Nat}{ak:Env}{aj:aB}{Q:dO}(iE:limit<=20000)
  (hI:xu F limit L0 gv r0 b0 gq gM st k ak aj) (que:CF s gq gi (nC F st) k aj) (hk:k<=st.length)
  (hE:∀(aF:Env) (ao:aB),k=st.length->aF 6=.one (.hsl s gi 5 0 st.length)->aF 7=vb true->ao s=(gi,some (.arr mbT 5 (nC F st)))->ao 384512000=(gv,some (.var [.p (.bool false)]))->(∀i,¬nH i->i≠384512000->i∉r0->ao i=b0 i)->Q .ret aF ao)
  (hN:∀a mD (aF:Env) (ao:aB),st[k]?=some a->gD F limit a st (jc F a.c)=(0,mD)->xu F limit L0 gv r0 b0 gq gM mD (k+1) aF ao->st.length<=mD.length->Q .normal aF ao)
  (hX:∀a (aF:Env) (ao:aB),st[k]?=some a->(gD F limit a st (jc F a.c)).1≠0->EdC F L0 gv r0 b0 (gD F limit a st (jc F a.c)) gq aF ao->Q (.exit 0) aF ao):W S al i23_l2 Q ak aj:=by
  have hI0:=hI;obtain⟨e1,e2,e9,rU,bM,_,bv,ne,lim,alls,fr⟩:=hI;obtain⟨bq,bs⟩:=que;have ho:=ac.fP;have o1:=hq.ok ac;have wI:=hq.ne;have o2:=ac.v;have tR:(nC F st).length=st.length:=Oi F st;have uG:((([V.one (.aZ 1472192192 gq 0)]:e_).map (jN aj)).flatten)=[1472192192,s]:=by
   have r1:jN aj (.one (.aZ 1472192192 gq 0))=[1472192192,s]:=by rw[K5 bq];simp only[eh,lQ,mX,IE,jA];rw[DW (n:=4) bs,K4];rfl
   rw[eh,lQ,r1];rfl
  have nA:=ava hq (al:=allow (S.ctx al) 45 [V.one (.aZ 1472192192 gq 0)] aj) (aj:=aj) (gq:=gq) (gi:=gi) (k:=k) (es:=nC F st) (tD (by rw[uG];simp)) (tD (by rw[uG];simp)) (vZ ah) (vZ ah) ⟨bq,bs⟩ (aqM F st) (by rw[tR];omega) (by rw[tR];exact hk);simp only[go_sem,i23_l2,rU,s45];refine sR (holds_of (by show al.fP (List.flatten _)=true;rw[uG];simp only[KQ,Ia,ho,o1,yg]) (by show(S.sites 45).all al.fs.contains=true;rw[auj];simp only[mH,pQ,ac.t,yg])) nA fun v1 bU hP=>?_;rcases hP with ⟨Dw,rfl,hf⟩|⟨e,he,rfl,⟨bq1,bs1⟩,hf⟩
  .have c3:=(hf 1472192192 ae).trans bq;have c4:=(hf s (by rcases hq with rfl|rfl<;>decide)).trans bs;have c5:=(hf 384512000 ae).trans bv;simp only[go_sem,rU,c3,ho];refine hE _ _ (by rw[tR] at Dw;exact Dw) ?_ ?_ ?_ ?_ fun i h1 h2 h3=>?_
   .simp only[go_sem];first|done|rfl
   .simp only[go_sem];first|done|rfl
   .simp only[aO,if_false,wI];exact c4
   .simp only[aO,Nat.reduceEqDiff,if_false];exact c5
   have n1:i≠1472256256:=sv h1 rfl (.inl rfl);simp only[aO,ay n1];exact(hf i (fun h=>h1 (.inr (.inl h)))).trans (fr i h1 h2 h3)
  obtain⟨a,Qm,rfl⟩:=aqN he;have ha:=alls a (aV Qm);obtain⟨⟨jq,yZ⟩,ps⟩:=XN ha.chk;have ps':aK S 10 [.agg [.p (.int .i64 F),.p (cT a.c)],.one (.p (.sl [[.int .i64 3],[.int .i64 8]]))] (.tup [.one (aU fO 7 (mP (jc F a.c))),.one (.p (.int .i64 0))]):=ps;have c2:=(hf 1472128000 ae ae).trans bM;have c5:=(hf 384512000 ae ae).trans bv;have mf:S.lone 1472448192=false:=ah;have JG:∀i,¬nH i->i≠384512000->i∉r0->bU i=b0 i:=fun i h1 h2 h3=>(hf i (fun h=>h1 (.inr (.inl h))) (sv h1 rfl (.inl rfl))).trans (fr i h1 h2 h3);simp only[go_sem,aY.ps,ho,s10];refine ann (fun i hi=>?_) ps' mf (Sg _) rfl fun cc bh gc bj=>?_
  .simp only[cD,fq,or_false] at hi;rcases hi with rfl|rfl
   .exact ac.c _ rfl
   exact ac.c _ rfl
  have d0:=bj 1472256256 ae;have d2:=bj 1472128000 ae;have d3:=bj 1472192192 ae;have d4:=bj s (by rcases hq with rfl|rfl<;>decide);have d5:=bj 384512000 ae;simp only[go_sem,c2,bq1,bs1,c5,wI] at d0 d2 d3 d4 d5;have Bs:∀i,¬nH i->i≠384512000->i∉r0->bh i=b0 i:=fun i h1 h2 h3=>by have n1:i≠1472256256:=sv h1 rfl (.inl rfl);have n2:i≠1472448128:=sv h1 rfl (.inl rfl);rw[bj i (sv h1 rfl (.inl rfl))];simp only[aO,ay n1,ay n2];exact JG i h1 h2 h3
  rcases gc with ⟨em,e⟩|⟨_,gg,e,bV⟩
  .cases e;have pY:jc F a.c=[]:=by simpa [mP] using em
   simp only[go_sem];refine sF ?_;simp only[go_sem,i23_l1,zz];refine hN a st _ _ Qm (by rw[pY];rfl) ⟨?_,?_,?_,?_,d2,⟨s,hq,gi,by rw[tR];exact d3,d4⟩,d5,ne,lim,alls,Bs⟩ (bR _);all_goals(simp only[go_sem,e1,e2,e9,rU];first|done|rfl)
  cases e;have aoy:(mP (jc F a.c)).length=(jc F a.c).length:=pL _;simp only[go_sem,aoy];refine ak2 ac bN (F:=F) (L0:=L0) (a:=a) (ms:=jc F a.c) (vO:=st) (k:=k+1) (ga:=(bU 1472256256).1+1) (gg:=gg) (gq:=gq) (gM:=gM) (gv:=gv) (r0:=r0) (b0:=b0) iE jq yZ ha ⟨?_,?_,?_,?_,d2,⟨s,hq,gi,by rw[tR];exact d3,d4⟩,d5,ne,lim,alls,Bs⟩ ⟨?_,d0,?_,?_,?_,bV⟩ (fun mD aF ao h1 h2 h3=>hN a mD aF ao Qm h1 h2 h3) (fun aF ao h1 h2=>hX a aF ao Qm h1 h2);all_goals(simp only[go_sem,e1,e2,e9,rU];first|done|rfl)
def aiZ{al:Al}{Q:dO}{ak:Env}{aj:aB}{os:h_}(h:∀b,b=aj->RN S al os Q ak b):RN S al os Q ak aj:=h _ rfl
noncomputable def dE (F limit:Nat) (L0:ai):Nat×j_:=iR F limit (limit+1) 0 [⟨L0,cN L0,[]⟩]
def aay{al:Al}(ac:yq al)(bN:ni){F:Nat}{L0:ai}{gv:Nat}{c0:C}{r0:a_}{aj:aB}(hJ:1<=limit)(iE:limit<=20000)(h0:bQ (F:Int) L0=0)(hc0:∀B:aB,(∀i∈r0,B i=aj i)->snap B fE c0=some (cT L0,r0))(tS:qX aj r0)(NI:∀i∈r0,al.ok i=true/\ ¬nH i/\i≠384512000)(bv:aj 384512000=(gv,some (.var [.p (.bool false)]))):
  ∃v ao,jm S 23 [.agg [.p (.int .i64 F),c0],vi limit,Lf gv] al aj v ao/\clP F limit L0 gv r0 aj (dE F limit L0) v ao:=by
 have ho:=ac.fP;have o2:=ac.v;have hF:=TD h0;have wH:=GF h0;have pm:=XS bN (F:=F) (L:=L0) [] aa h0;have KX:aK S 43 [.agg [.p (.int .i64 F),.p (cT L0)],.one (.p (.sl []))] (.agg [.p (.int .i64 F),.p (cT L0),.p (.int .i64 F),.p (cO (iM L0)),.p (.sl [])]):=pm;clear pm;have a3:(cO (iM L0)).norm=cT (cN L0):=GB (iM L0);have pp:=ag6 (F:=(F:Int)) (L:=cN L0) ⟨aa,aa⟩ (by have:=DN L0;omega) (ahS (FT h0));have lJ:snap (dU aj 1472000000 ((aj 1472000000).1+1,some (.var [.p (.int .i64 F),c0]))) fE c0=some (cT L0,r0):=hc0 _ fun i hi=>by rw[aO,ay];intro e;exact(NI i hi).2.1 (.inl (by rw[e];rfl))
 refine nT c23 (iA rfl) ?_;simp only[go_sem,i23,ho,lJ,s43];have hV0:384512000∉r0:=fun h=>(NI _ h).2.2 rfl;have aei:qX (dU aj 1472000000 ((aj 1472000000).1+1,some (.var [.p (.int .i64 F),c0]))) r0:=fun i hi=>by
  obtain⟨g,ty,z,es,h⟩:=tS i hi;refine⟨g,ty,z,es,?_⟩;rw[aO,ay]
  .exact h
  intro e;exact(NI i hi).2.1 (.inl (by rw[e];rfl))
 obtain⟨u,hu,vE,wM,_⟩:=XA (aj:=dU aj 1472000000 ((aj 1472000000).1+1,some (.var [.p (.int .i64 F),c0]))) (s:=1472064064) (rd:=r0) (x0:=.int .i64 F) (x1:=cT L0) (x2:=.int .i64 F) (x3:=cO (iM L0)) (x4:=.sl []) (l:=S.lone 1472064064) aei;rw[MH KX hu];refine⟨DO fun i hi=>?_,?_⟩
 .rcases eK.1 hi with h|h
  .exact(NI i h).1
  exact(NI i (wM i h)).1
 refine aiZ fun bU dw=>?_;have bv1:bU 384512000=(gv,some (.var [.p (.bool false)])):=by rw[dw,vE _ hV0];simp only[aO,Nat.reduceEqDiff,if_false];exact bv
 have JG:∀i,¬nH i->i≠384512000->i∉r0->bU i=aj i:=fun i h1 h2 h3=>by have n1:i≠1472000000:=sv h1 rfl (.inl rfl);rw[dw,vE i h3];simp only[aO,ay n1]
 clear dw hu vE wM aei lJ;have hg0:xr F L0 1 ⟨L0,cN L0,[]⟩:=⟨h0,rfl,rfl,(fun x hx=>by cases hx),af,rfl⟩;simp only[go_sem,ho,a3,s44,GY pp,iZ,yy,qC];refine dy (fun k ak b=>∃st gq gM,xu F limit L0 gv r0 aj gq gM st k ak b/\k<=st.length/\iR F limit (limit+1-k) k st=dE F limit L0) 0 limit (bG _) ?_ ?_
 .refine⟨[⟨L0,cN L0,[]⟩],(bU 1472192192).1+1,(bU 1472128000).1+1,⟨?_,?_,?_,?_,?_,⟨_,.inl rfl,(bU 1472192064).1+1,?_,?_⟩,?_,af,hJ,fun m hm=>?_,fun i h1 h2 h3=>?_⟩,bG _,rfl⟩
  .simp only[go_sem];first|done|rfl
  .simp only[go_sem];first|done|rfl
  .simp only[go_sem];first|done|rfl
  .simp only[go_sem];first|done|rfl
  .simp only[aO,Nat.reduceEqDiff,if_true,if_false];rfl
  .simp only[aO,Nat.reduceEqDiff,if_true,if_false];rfl
  .simp only[aO,Nat.reduceEqDiff,if_true,if_false];rfl
  .simp only[aO,Nat.reduceEqDiff,if_false];exact bv1
  .rw[k9.1 hm];exact hg0
  have n1:i≠1472064128:=sv h1 rfl (.inl rfl);have n2:i≠1472128000:=sv h1 rfl (.inl rfl);have n3:i≠1472192064:=sv h1 rfl (.inl rfl);have n4:i≠1472192192:=sv h1 rfl (.inl rfl);simp only[aO,ay n1,ay n2,ay n3,ay n4];exact JG i h1 h2 h3
 rintro k ak b hk ⟨st,gq,gM,hI,Ns,hB⟩
 have hlim:=hI.lim;have aI:=hI.ne;have anS:=hI.all;have hf:limit+1-k=(limit-k)+1:=aa;rw[hf] at hB;have ret:∀(s gi:Nat) (aF:Env) (ao:aB),nH s->k=st.length->aF 6=.one (.hsl s gi 5 0 st.length)->aF 7=vb true->ao s=(gi,some (.arr mbT 5 (nC F st)))->ao 384512000=(gv,some (.var [.p (.bool false)]))->(∀i,¬nH i->i≠384512000->i∉r0->ao i=aj i)->clP F limit L0 gv r0 aj (dE F limit L0) (.tup [aF 6,aF 7]) ao:=by intro s gi aF ao hs Dw h6 h7 hb Fj l7;rw[Ts (qp aa)] at hB;rw[<- hB,h6,h7];exact⟨s,gi,rfl,hs,hb,Fj,aI,anS,l7⟩
 have hN:∀a mD (aF:Env) (ao:aB),st[k]?=some a->gD F limit a st (jc F a.c)=(0,mD)->xu F limit L0 gv r0 aj gq gM mD (k+1) aF ao->st.length<=mD.length->k<limit/\ ∃st gq gM,xu F limit L0 gv r0 aj gq gM st (k+1) aF ao/\k+1<=st.length/\iR F limit (limit+1-(k+1)) (k+1) st=dE F limit L0:=by intro a mD aF ao ha he h hl;have aw:=(aT.1 ha).1;rw[Po ha,he] at hB;simp only[if_true] at hB;exact⟨aa,mD,gq,gM,h,aa,by rw[show limit+1-(k+1)=limit-k by omega];exact hB⟩
 have hX:∀a (aF:Env) (ao:aB),st[k]?=some a->(gD F limit a st (jc F a.c)).1≠0->EdC F L0 gv r0 aj (gD F limit a st (jc F a.c)) gq aF ao->W S al i23_r3 (nj al i23.results (clP F limit L0 gv r0 aj (dE F limit L0))) aF ao:=by intro a aF ao ha he h;rw[Po ha,ay he] at hB;rw[hB] at he h;generalize dE F limit L0=r at*;have tS:(r.1==0)=false:=lS.2 he;obtain⟨rU,⟨k',s,hs,gi,hq,hb⟩,Fj,hn,dQ,l7⟩:=h;simp only[go_sem,i23_r3,i23,rU,hq,ho];exact⟨_,gi,by rw[tS],hs.own,hb,Fj,hn,dQ,l7⟩
 obtain⟨s,hs,gi,hq⟩:=hI.que;refine out hs ac bN iE hI hq Ns (fun aF ao h1 h6 h7 hb Fj l7=>?_) (fun a mD aF ao h1 h2 h3 h4=>hN a mD aF ao h1 h2 h3 h4) (fun a aF ao h1 h2 h3=>hX a aF ao h1 h2 h3);have:=ret _ _ aF ao hs.own h1 h6 h7 hb Fj l7;rw[h6,h7] at this;simp only[go_sem,h6,h7];exact this
end
end Go.Abs
