/- A part. -/
import Derived.Test.YthcnadmehopfcaaGreatDoorRf
set_option linter.all false
set_option maxRecDepth 100000
set_option maxHeartbeats 16000000
namespace Go.Abs
section
variable{limit:Nat}
theorem Sy{sb:Bool}{F:Nat}{a:cE}{st:List cE}{m:aP}{r:List aP}:j8 sb F limit a st (m::r)=if (pV sb F limit a st m).1=0 then j8 sb F limit a (pV sb F limit a st m).2 r else pV sb F limit a st m:=rfl
theorem akA{sb:Bool}{al:Al}(ac:wx sb al)(bR:pX){F limit:Nat}{L0:List Let}{gv gq gM ga gg:Nat}{z:Nat×Option Ob}{r0:List Nat}{b0:aA}{a:cE}{ms:List aP}{uT:List cE}{k:Nat}{ak:Env}{aj:aA}{Q:dD}(iH:limit<=20000)(nj:ms.length<=8000)(yg:∀m∈ms,qV F a.c EN m)(ha:wy F L0 uT.length a)
  (hI:wA sb F limit L0 gv z r0 b0 gq gM uT k ak aj) (hR:Fs a F ms ga gg 0 ak aj)
  (hN:∀ll (aD:Env) (ao:aA),j8 sb F limit a uT ms=(0,ll)->wA sb F limit L0 gv z r0 b0 gq gM ll k aD ao->uT.length<=ll.length->Q .normal aD ao)
  (hX:∀(aD:Env) (ao:aA),(j8 sb F limit a uT ms).1≠0->EdC sb F L0 gv z r0 b0 (j8 sb F limit a uT ms) gq aD ao->Q (.exit 0) aD ao):W S al (.loop i24_l1) (lU 2 Q) ak aj:=by
 refine cU (fun j ak aj=>∃st,wA sb F limit L0 gv z r0 b0 gq gM st k ak aj/\Fs a F ms ga gg j ak aj/\j8 sb F limit a st (ms.drop j)=j8 sb F limit a uT ms/\uT.length<=st.length) 0 ms.length (bl _) ⟨uT,hI,hR,by rw[OA],bJ _⟩ ?_;rintro j ak aj hj ⟨st,hI,hR,hA,hle⟩
 by_cases au:j<ms.length
 .obtain⟨m,hm⟩:=aM au;have hd:=O9 hm;rw[hd,Sy] at hA;have ha':=ha.mono hle;have aq:=yg m (aU hm);have n1:∀ll (aD:Env) (ao:aA),pV sb F limit a st m=(0,ll)->wA sb F limit L0 gv z r0 b0 gq gM ll k aD ao->Fs a F ms ga gg (j+1) aD ao->Kc ms.length (fun j ak aj=>∃st,wA sb F limit L0 gv z r0 b0 gq gM st k ak aj/\Fs a F ms ga gg j ak aj/\j8 sb F limit a st (ms.drop j)=j8 sb F limit a uT ms/\uT.length<=st.length) j (lU 2 Q) .normal aD ao:=by
   intro ll aD ao e h1 h2;rw[e] at hA;simp only[if_true] at hA;have sK:st.length<=ll.length:=by
    have:(pV sb F limit a st m).2=ll:=by rw[e]
    rw[<- this];unfold pV;split
    .exact bJ _
    split
    .exact bJ _
    simp
   exact⟨au,ll,h1,h2,hA,aa⟩
  have n2:∀(aD:Env) (ao:aA),(pV sb F limit a st m).1≠0->EdC sb F L0 gv z r0 b0 (pV sb F limit a st m) gq aD ao->Kc ms.length (fun j ak aj=>∃st,wA sb F limit L0 gv z r0 b0 gq gM st k ak aj/\Fs a F ms ga gg j ak aj/\j8 sb F limit a st (ms.drop j)=j8 sb F limit a uT ms/\uT.length<=st.length) j (lU 2 Q) (.exit 0) aD ao:=by intro aD ao e h;rw[ay e] at hA;rw[hA] at e h;exact hX aD ao e h
  obtain⟨s,hs,gi,hq⟩:=hI.que;exact round hs ac bR iH nj hm aq ha' hI hq hR n1 n2
 have MW:j=ms.length:=aa;subst MW;rw[K0] at hA;have hA:(0,st)=j8 sb F limit a uT ms:=hA;obtain⟨gk,bA,Mu,I6,xO,bV⟩:=hR;obtain⟨e1,e2,e9,qH,bM,que,bv,ne,lim,alls,fr⟩:=hI;simp only[go_sem,i24_l1,I6,xO,dT];refine hN st _ _ hA.symm ⟨?_,?_,?_,?_,bM,que,bv,ne,lim,alls,fr⟩ hle;all_goals(simp only[go_sem,e1,e2,e9,qH];first|done|rfl)
def clP(sb:Bool)(F limit:Nat)(L0:List Let)(gv:Nat)(z:Nat×Option Ob)(r0:List Nat)(b0:aA)(r:Nat×List cE)(v:V)(ao:aA):Prop:=∃s g,v=.tup [.one (.hsl s g 5 0 r.2.length),vb (r.1==0)]/\kU s/\ao s=(g,some (.arr GS 5 (ky F r.2)))/\ao 576512000=FG sb gv z (r.1==2)/\r.2≠[]/\(∀m∈r.2,wy F L0 r.2.length m)/\ ∀i,¬kU i->i≠576512000->i∉r0->ao i=b0 i
theorem Lx{sb:Bool}{F f k:Nat}{st:List cE}{a:cE}(h:st[k]?=some a):Az sb F limit (f+1) k st=if (j8 sb F limit a st (pK F a.c)).1=0 then Az sb F limit f (k+1) (j8 sb F limit a st (pK F a.c)).2 else j8 sb F limit a st (pK F a.c):=by show(match st[k]? with|none=>(0,st)|some a=>_)=_;rw[h]
theorem O0{sb:Bool}{F f k:Nat}{st:List cE}(h:st[k]?=none):Az sb F limit (f+1) k st=(0,st):=by show(match st[k]? with|none=>(0,st)|some a=>_)=_;rw[h]
theorem aqb{F:Nat}{st:List cE}{k:Nat}{e:List PV}(h:(ky F st)[k]?=some e):∃a,st[k]?=some a/\e=a.ps F:=by
 rw[fQ] at h;cases hs:st[k]? with
 |none=>rw[hs] at h;cases h
 |some a=>rw[hs] at h;cases h;exact⟨a,rfl,rfl⟩
theorem out{sb:Bool}{al:Al}{s:Nat}(hq:vH s)(ac:wx sb al)(bR:pX){F limit:Nat}{L0:List Let}{gv gq gM gi:Nat}{z:Nat×Option Ob}{r0:List Nat}{b0:aA}{st:List cE}{k:Nat}{ak:Env}{aj:aA}{Q:dD}(iH:limit<=20000)
  (hI:wA sb F limit L0 gv z r0 b0 gq gM st k ak aj) (que:Av s gq gi (ky F st) k aj) (hk:k<=st.length)
  (hE:∀(aD:Env) (ao:aA),k=st.length->aD 6=.one (.hsl s gi 5 0 st.length)->aD 7=vb true->ao s=(gi,some (.arr GS 5 (ky F st)))->ao 576512000=FG sb gv z false->(∀i,¬kU i->i≠576512000->i∉r0->ao i=b0 i)->Q .ret aD ao)
  (hN:∀a ll (aD:Env) (ao:aA),st[k]?=some a->j8 sb F limit a st (pK F a.c)=(0,ll)->wA sb F limit L0 gv z r0 b0 gq gM ll (k+1) aD ao->st.length<=ll.length->Q .normal aD ao)
  (hX:∀a (aD:Env) (ao:aA),st[k]?=some a->(j8 sb F limit a st (pK F a.c)).1≠0->EdC sb F L0 gv z r0 b0 (j8 sb F limit a st (pK F a.c)) gq aD ao->Q (.exit 0) aD ao):W S al i24_l2 Q ak aj:=by
  have hI0:=hI;obtain⟨e1,e2,e9,qH,bM,_,bv,ne,lim,alls,fr⟩:=hI;obtain⟨bq,bs⟩:=que;have ho:=ac.ft;have o1:=hq.ok ac;have vz:=hq.ne;have sQ:(ky F st).length=st.length:=JW F st;have sR:((([V.one (.aY 1536192192 gq 0)]:List V).map (jc aj)).flatten)=[1536192192,s]:=by
   have r1:jc aj (.one (.aY 1536192192 gq 0))=[1536192192,s]:=by rw[Kv bq];simp only[dK,j7,lQ,HE,jP];rw[Dj (n:=4) bs,Ku];rfl
   rw[dK,j7,r1];rfl
  have l9:=auG hq (al:=allow (S.ctx al) 43 [V.one (.aY 1536192192 gq 0)] aj) (aj:=aj) (gq:=gq) (gi:=gi) (k:=k) (es:=ky F st) (r7 (by rw[sR];simp)) (r7 (by rw[sR];simp)) (um ah) (um ah) ⟨bq,bs⟩ (aqa F st) (by rw[sQ];omega) (by rw[sQ];exact hk);simp only[go_sem,i24_l2,qH,s43];refine qK (holds_of (by show al.ft (List.flatten _)=true;rw[sR];simp only[Kk,GY,ho,o1,vY]) (by show(S.sites 43).all al.fs.contains=true;rw[atP];simp only[mw,pP,ac.t,vY])) l9 fun v1 bQ hP=>?_;rcases hP with ⟨CI,rfl,hf⟩|⟨e,he,rfl,⟨bq1,bs1⟩,hf⟩
  .have c3:=(hf 1536192192 ae).trans bq;have c4:=(hf s (by rcases hq with rfl|rfl<;>decide)).trans bs;have c5:=(hf 576512000 ae).trans bv;simp only[go_sem,qH,c3,ho];refine hE _ _ (by rw[sQ] at CI;exact CI) ?_ ?_ ?_ ?_ fun i h1 h2 h3=>?_
   .simp only[go_sem];first|done|rfl
   .simp only[go_sem];first|done|rfl
   .simp only[aN,if_false,vz];exact c4
   .simp only[aN,Nat.reduceEqDiff,if_false];exact c5
   have n1:i≠1536256256:=qT h1 rfl (.inl rfl);simp only[aN,ay n1];exact(hf i (fun h=>h1 (.inr (.inl h)))).trans (fr i h1 h2 h3)
  obtain⟨a,PL,rfl⟩:=aqb he;have ha:=alls a (aU PL);obtain⟨⟨nj,yg⟩,ps⟩:=ae8 ha.chk;have ps':aK S 44 [.agg [.p (.int .i64 F),.p (cK a.c)],.one (.p (.sl [[.int .i64 3],[.int .i64 8]]))] (.tup [.one (aT fK 7 (mP (pK F a.c))),.one (.p (.int .i64 0))]):=ps;have c2:=(hf 1536128000 ae ae).trans bM;have c5:=(hf 576512000 ae ae).trans bv;have mR:S.lone 1536448192=false:=ah;have IX:∀i,¬kU i->i≠576512000->i∉r0->bQ i=b0 i:=fun i h1 h2 h3=>(hf i (fun h=>h1 (.inr (.inl h))) (qT h1 rfl (.inl rfl))).trans (fr i h1 h2 h3);simp only[go_sem,cE.ps,ho,s44];refine amS (fun i hi=>?_) ps' mR (XN _) rfl fun cc bj gc bn=>?_
  .simp only[cM,gC,or_false] at hi;rcases hi with rfl|rfl
   .exact ac.c _ rfl
   exact ac.c _ rfl
  have d0:=bn 1536256256 ae;have d2:=bn 1536128000 ae;have d3:=bn 1536192192 ae;have d4:=bn s (by rcases hq with rfl|rfl<;>decide);have d5:=bn 576512000 ae;simp only[go_sem,c2,bq1,bs1,c5,vz] at d0 d2 d3 d4 d5;have AR:∀i,¬kU i->i≠576512000->i∉r0->bj i=b0 i:=fun i h1 h2 h3=>by have n1:i≠1536256256:=qT h1 rfl (.inl rfl);have n2:i≠1536448128:=qT h1 rfl (.inl rfl);rw[bn i (qT h1 rfl (.inl rfl))];simp only[aN,ay n1,ay n2];exact IX i h1 h2 h3
  rcases gc with ⟨em,e⟩|⟨_,gg,e,bV⟩
  .cases e;have nT:pK F a.c=[]:=by simpa [mP] using em
   simp only[go_sem];refine rm ?_;simp only[go_sem,i24_l1,zz];refine hN a st _ _ PL (by rw[nT];rfl) ⟨?_,?_,?_,?_,d2,⟨s,hq,gi,by rw[sQ];exact d3,d4⟩,d5,ne,lim,alls,AR⟩ (bJ _);all_goals(simp only[go_sem,e1,e2,e9,qH];first|done|rfl)
  cases e;have anY:(mP (pK F a.c)).length=(pK F a.c).length:=ow _;simp only[go_sem,anY];refine akA ac bR (F:=F) (L0:=L0) (a:=a) (ms:=pK F a.c) (uT:=st) (k:=k+1) (ga:=(bQ 1536256256).1+1) (gg:=gg) (gq:=gq) (gM:=gM) (gv:=gv) (z:=z) (r0:=r0) (b0:=b0) iH nj yg ha ⟨?_,?_,?_,?_,d2,⟨s,hq,gi,by rw[sQ];exact d3,d4⟩,d5,ne,lim,alls,AR⟩ ⟨?_,d0,?_,?_,?_,bV⟩ (fun ll aD ao h1 h2 h3=>hN a ll aD ao PL h1 h2 h3) (fun aD ao h1 h2=>hX a aD ao PL h1 h2);all_goals(simp only[go_sem,e1,e2,e9,qH];first|done|rfl)
theorem aiG{al:Al}{Q:dD}{ak:Env}{aj:aA}{os:List bG}(h:∀b,b=aj->RN S al os Q ak b):RN S al os Q ak aj:=h _ rfl
noncomputable def fU (sb:Bool) (F limit:Nat) (L0:List Let):Nat×List cE:=Az sb F limit (limit+1) 0 [⟨L0,cT L0,[]⟩]
theorem SX{sb:Bool}{al:Al}(ac:wx sb al)(bR:pX){F:Nat}{L0:List Let}{gv:Nat}{z:Nat×Option Ob}{c0:C}{r0:List Nat}{aj:aA}(iL:1<=limit)(iH:limit<=20000)(h0:cQ (F:Int) L0=0)(hc0:∀B:aA,(∀i∈r0,B i=aj i)->snap B fM c0=some (cK L0,r0))(uI:oJ aj r0)(Nc:∀i∈r0,al.ok i=true/\ ¬kU i/\i≠576512000)(bv:aj 576512000=FG sb gv z false):
  ∃v ao,iF S 24 [.agg [.p (.int .i64 F),c0],vi limit,Hl sb gv] al aj v ao/\clP sb F limit L0 gv z r0 aj (fU sb F limit L0) v ao:=by
 have ho:=ac.ft;have hF:=SW h0;have uG:=FJ h0;have pm:=W9 bR (F:=F) (L:=L0) [] aa h0;have Ko:aK S 41 [.agg [.p (.int .i64 F),.p (cK L0)],.one (.p (.sl []))] (.agg [.p (.int .i64 F),.p (cK L0),.p (.int .i64 F),.p (cO (gU L0)),.p (.sl [])]):=pm;clear pm;have a3:(cO (gU L0)).norm=cK (cT L0):=LD (gU L0);have pp:=agi (F:=(F:Int)) (L:=cT L0) ⟨aa,aa⟩ (by have:=ET L0;omega) (ahc (EU h0));have l8:snap (dJ aj 1536000000 ((aj 1536000000).1+1,some (.var [.p (.int .i64 F),c0]))) fM c0=some (cK L0,r0):=hc0 _ fun i hi=>by rw[aN,ay];intro e;exact(Nc i hi).2.1 (.inl (by rw[e];rfl))
 refine mA c24 (ig rfl) ?_;simp only[go_sem,i24,ho,l8,s41];have hV0:576512000∉r0:=fun h=>(Nc _ h).2.2 rfl;have adr:oJ (dJ aj 1536000000 ((aj 1536000000).1+1,some (.var [.p (.int .i64 F),c0]))) r0:=fun i hi=>by
  obtain⟨g,ty,z,es,h⟩:=uI i hi;refine⟨g,ty,z,es,?_⟩;rw[aN,ay]
  .exact h
  intro e;exact(Nc i hi).2.1 (.inl (by rw[e];rfl))
 obtain⟨u,hu,uJ,vE,_⟩:=WT (aj:=dJ aj 1536000000 ((aj 1536000000).1+1,some (.var [.p (.int .i64 F),c0]))) (s:=1536064064) (rd:=r0) (x0:=.int .i64 F) (x1:=cK L0) (x2:=.int .i64 F) (x3:=cO (gU L0)) (x4:=.sl []) (l:=S.lone 1536064064) adr;rw[Ml Ko hu];refine⟨Dc fun i hi=>?_,?_⟩
 .rcases eD.1 hi with h|h
  .exact(Nc i h).1
  exact(Nc i (vE i h)).1
 refine aiG fun bQ dd=>?_;have bv1:bQ 576512000=FG sb gv z false:=by rw[dd,uJ _ hV0];simp only[aN,Nat.reduceEqDiff,if_false];exact bv
 have IX:∀i,¬kU i->i≠576512000->i∉r0->bQ i=aj i:=fun i h1 h2 h3=>by have n1:i≠1536000000:=qT h1 rfl (.inl rfl);rw[dd,uJ i h3];simp only[aN,ay n1]
 clear dd hu uJ vE adr l8;have hg0:wy F L0 1 ⟨L0,cT L0,[]⟩:=⟨h0,rfl,rfl,(fun x hx=>by cases hx),af,rfl⟩;simp only[go_sem,ho,a3,s42,DX pp,iw,xD,oU];refine cU (fun k ak b=>∃st gq gM,wA sb F limit L0 gv z r0 aj gq gM st k ak b/\k<=st.length/\Az sb F limit (limit+1-k) k st=fU sb F limit L0) 0 limit (bl _) ?_ ?_
 .refine⟨[⟨L0,cT L0,[]⟩],(bQ 1536192192).1+1,(bQ 1536128000).1+1,⟨?_,?_,?_,?_,?_,⟨_,.inl rfl,(bQ 1536192064).1+1,?_,?_⟩,?_,af,iL,fun m hm=>?_,fun i h1 h2 h3=>?_⟩,bl _,rfl⟩
  .simp only[go_sem];first|done|rfl
  .simp only[go_sem];first|done|rfl
  .simp only[go_sem];first|done|rfl
  .simp only[go_sem];first|done|rfl
  .simp only[aN,Nat.reduceEqDiff,if_true,if_false];rfl
  .simp only[aN,Nat.reduceEqDiff,if_true,if_false];rfl
  .simp only[aN,Nat.reduceEqDiff,if_true,if_false];rfl
  .simp only[aN,Nat.reduceEqDiff,if_false];exact bv1
  .rw[lD.1 hm];exact hg0
  have n1:i≠1536064128:=qT h1 rfl (.inl rfl);have n2:i≠1536128000:=qT h1 rfl (.inl rfl);have n3:i≠1536192064:=qT h1 rfl (.inl rfl);have n4:i≠1536192192:=qT h1 rfl (.inl rfl);simp only[aN,ay n1,ay n2,ay n3,ay n4];exact IX i h1 h2 h3
 rintro k ak b hk ⟨st,gq,gM,hI,Jq,hB⟩
 have hlim:=hI.lim;have aI:=hI.ne;have ano:=hI.all;have hf:limit+1-k=(limit-k)+1:=aa;rw[hf] at hB;have ret:∀(s gi:Nat) (aD:Env) (ao:aA),kU s->k=st.length->aD 6=.one (.hsl s gi 5 0 st.length)->aD 7=vb true->ao s=(gi,some (.arr GS 5 (ky F st)))->ao 576512000=FG sb gv z false->(∀i,¬kU i->i≠576512000->i∉r0->ao i=aj i)->clP sb F limit L0 gv z r0 aj (fU sb F limit L0) (.tup [aD 6,aD 7]) ao:=by intro s gi aD ao hs CI h6 h7 hb AW kO;rw[O0 (ti aa)] at hB;rw[<- hB,h6,h7];exact⟨s,gi,rfl,hs,hb,AW,aI,ano,kO⟩
 have hN:∀a ll (aD:Env) (ao:aA),st[k]?=some a->j8 sb F limit a st (pK F a.c)=(0,ll)->wA sb F limit L0 gv z r0 aj gq gM ll (k+1) aD ao->st.length<=ll.length->k<limit/\ ∃st gq gM,wA sb F limit L0 gv z r0 aj gq gM st (k+1) aD ao/\k+1<=st.length/\Az sb F limit (limit+1-(k+1)) (k+1) st=fU sb F limit L0:=by intro a ll aD ao ha he h hl;have au:=(aW.1 ha).1;rw[Lx ha,he] at hB;simp only[if_true] at hB;exact⟨aa,ll,gq,gM,h,aa,by rw[show limit+1-(k+1)=limit-k by omega];exact hB⟩
 have hX:∀a (aD:Env) (ao:aA),st[k]?=some a->(j8 sb F limit a st (pK F a.c)).1≠0->EdC sb F L0 gv z r0 aj (j8 sb F limit a st (pK F a.c)) gq aD ao->W S al i24_r3 (mH al i24.results (clP sb F limit L0 gv z r0 aj (fU sb F limit L0))) aD ao:=by intro a aD ao ha he h;rw[Lx ha,ay he] at hB;rw[hB] at he h;generalize fU sb F limit L0=r at*;have uI:(r.1==0)=false:=lE.2 he;obtain⟨qH,⟨k',s,hs,gi,hq,hb⟩,AW,hn,dM,kO⟩:=h;simp only[go_sem,i24_r3,i24,qH,hq,ho];exact⟨_,gi,by rw[uI],hs.own,hb,AW,hn,dM,kO⟩
 obtain⟨s,hs,gi,hq⟩:=hI.que;refine out hs ac bR iH hI hq Jq (fun aD ao h1 h6 h7 hb AW kO=>?_) (fun a ll aD ao h1 h2 h3 h4=>hN a ll aD ao h1 h2 h3 h4) (fun a aD ao h1 h2 h3=>hX a aD ao h1 h2 h3);have:=ret _ _ aD ao hs.own h1 h6 h7 hb AW kO;rw[h6,h7] at this;simp only[go_sem,h6,h7];exact this
end
end Go.Abs
