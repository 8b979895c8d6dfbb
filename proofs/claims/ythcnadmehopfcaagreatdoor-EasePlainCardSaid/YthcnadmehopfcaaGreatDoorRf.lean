/- A part. -/
import Derived.Test.YthcnadmehopfcaaGreatDoorRe
set_option linter.all false
set_option maxRecDepth 100000
set_option maxHeartbeats 16000000
namespace Go.Abs
theorem akD:aK S 46 [.one (.p (.sl []))] (.one (.p .zs)):=⟨1,ah⟩
theorem ass{sb:Bool}{al:Al}(ac:wx sb al)(bR:pX){F:Nat}{M:List Let}{w:List aP}{m:aP}{ak:Env}{aj:aA}{Q2:dD}{g2 gm:Nat}(hw:w.length<=100000)(iW:cQ (F:Int) M=0)(hMl:M.length<=1000000)
  (bC:aj 1536704193=(g2,some (.arr lN 6 (dF M)))) (bm:aj 1536640128=(gm,some (.var [.p (.int .i64 m.k),.p (.int .i64 m.a),.p (.int .i64 m.b),.p (.int .i64 m.c),.p (.bool m.l),.p (.bool m.o),.p (.int .i64 m.s)])))
  (h59:ak 59=.agg [.p (.int .i64 F),.hsl 1536704193 g2 6 0 M.length]) (oX:ak 16=.one (.aY 1536640128 gm 0))
  (hK:∀(aD:Env) (ao:aA) (g:Nat),(∀i,i<59->i≠19->aD i=ak i)->aD 19=.one (.aY 1536768512 g 0)->ao 1536768512=(g,some (.var [.p (.int .i64 F),.p (cK M),.p (.int .i64 F),.p (cO (gU M)),.p (oz (w++[m]))]))->
   (∀i,i∉[1536704193,1536768192,1536768320,1536768384,1536768512]->ao i=aj i)->Q2 .normal aD ao):
  dP S al (.pc 46 [.one (.p (oz w))] [] 1536768192) (some 62) [ox 59 2 17,of 60 4 11,dl 61 60 2,dc 62 1536768192 46 [.t 61] 6,ox 63 7 16,od 64 (.DI 1536768320 42 7 [.t 63]) 16,od 65 (.append 1536768384 42 7 48 (.t 62) (.t 64)) 62,dc 66 1536768448 41 [.t 59,.t 65] 127,oo 19 (.alloc 1536768512 [il 0,.nils,il 0,.nils,.nils]),⟨none,.store 5 (.t 19) (.t 66),none,511⟩] [ox 63 7 16,od 64 (.DI 1536768320 42 7 [.t 63]) 16,od 65 (.append 1536768384 42 7 48 (.t 62) (.t 64)) 62,dc 66 1536768448 41 [.t 59,.t 65] 127,oo 19 (.alloc 1536768512 [il 0,.nils,il 0,.nils,.nils]),⟨none,.store 5 (.t 19) (.t 66),none,511⟩] Q2 ak aj [⟨[1536704448],[],[]⟩,⟨[],[],[]⟩,⟨[1536256256],[],[]⟩]:=by
 have ho:=ac.ft;have uM:S.lone 1536768192=false:=ah;have cq:([aP.ps m].all fun e=>e.length==7)=true:=rfl;by_cases uL:w=[]
 .have hz0:oz w=.sl []:=by rw[uL];rfl
  have tK:land aj [] 1536768192 ((RV.one (.p .zs)).fP (S.lone 1536768192))=some (.one (.p .zs),[]):=by rw[uM];rfl
  rw[hz0,LR akD tK];refine⟨rfl,?_⟩;simp only[go_sem,oX,bm,ho];refine ak8 (site:=1536768384) (ty:=42) (z:=7) (bytes:=48) (xs:=[aP.ps m]) (rd:=[1536768320]) (fun i hi=>?_) ?_ af (.inl rfl) (by simp only[dh,ez];omega) fun c' fT r1 u1 g1 gn jE=>?_
  .simp only[cM,gC,or_false] at hi;rcases hi with rfl|rfl<;>exact ac.c _ rfl
  .simp[fh,aN,aP.ps]
  have g1:grown 1536768384 42 7 (mP w++[aP.ps m]) (.one c') fT:=by rw[uL];exact g1
  have c3:=gn 1536704193 ae ae;simp only[aN,Nat.reduceEqDiff,if_false] at c3;have c3:=c3.trans bC;rcases g1 with ⟨e,_⟩|⟨_,g5,e,bW⟩
  .simp at e
  cases e;have M5:=W9 bR (w++[m]) aa iW;rw[show oz (w++[m])=.sl (mP w++[m.ps]) by simp[mP]] at M5;have jm:(mP w++[m.ps]).length=w.length+1:=by simp[mP]
  have tk1:List.take M.length (dF M)=dF M:=fR (by rw[cD];exact bJ _);have tk2:List.take (w.length+1) (mP w++[m.ps])=mP w++[m.ps]:=fR (Fp jm);simp only[go_sem,h59,c3,bW,jm,tk1,tk2,s41];obtain⟨u,hu,uJ,vE,hu4⟩:=WT (aj:=fT) (s:=1536768448) (rd:=[1536704193,1536768384]) (x0:=.int .i64 F) (x1:=cK M) (x2:=.int .i64 F) (x3:=cO (gU M)) (x4:=.sl (mP w++[m.ps])) (l:=S.lone 1536768448) (fun i hi=>by
   simp only[cM,gC,or_false] at hi;rcases hi with rfl|rfl
   .exact⟨_,_,_,_,c3⟩
   exact⟨_,_,_,_,bW⟩)
  rw[LR M5 hu];refine⟨Dc fun i hi=>?_,?_⟩
  .rcases eD.1 hi with h|h
   .simp only[cM,gC,or_false] at h;rcases h with rfl|rfl<;>exact ac.c _ rfl
   have h:=vE i h;simp only[cM,gC,or_false] at h;rcases h with rfl|rfl<;>exact ac.c _ rfl
  simp only[go_sem,ho];refine⟨?_,hK _ _ _ (fun i h1 h2=>?_) rfl ?_ fun i h1=>?_⟩
  .rcases jE with ⟨rfl,rfl⟩|⟨rfl,rfl⟩|⟨rfl,rfl⟩<;>rcases hu4 with h4|h4<;>rw[h4]<;>kernel_rfl
  .simp only[aN];repeat' rw[ay aa]
  .simp only[aN,if_true];rw[show oz (w++[m])=.sl (mP w++[m.ps]) by simp[mP]]
  simp only[cM,gC,or_false,Au] at h1;obtain⟨n1,n2,n3,n4,n5⟩:=h1;simp only[aN,ay n5];rw[uJ i (by simp[n1,n4]),gn i n4 n4];simp only[aN,ay n3]
 have pc:=akC uL aa;refine ala (fun i hi=>?_) pc uM (.inl rfl) fun c1 bj w1 gw bn hw1=>?_
 .simp only[cM,gC,or_false] at hi;subst hi;exact ac.c _ rfl
 have d1:=bn 1536640128 ae;rw[bm] at d1;simp only[go_sem,oX,d1,ho];refine FP (site:=1536768384) (id:=1536768192) (ty:=42) (z:=7) (bytes:=48) (es:=mP w) (xs:=[aP.ps m]) (rd:=[1536768320]) (fun i hi=>?_) (gw.of_eq (by simp only[aN,Nat.reduceEqDiff,if_false])) ?_ (.inl rfl) (by simp only[ow,dh,ez];omega) fun c' fT r1 u1 g1 gn jE=>?_
 .simp only[cM,gC,or_false] at hi;rcases hi with rfl|rfl|rfl<;>exact ac.c _ rfl
 .simp[fh,aN,aP.ps]
 have c3:=gn 1536704193 ae ae;simp only[aN,Nat.reduceEqDiff,if_false,bn 1536704193 ae] at c3;have c3:=c3.trans bC;rcases g1 with ⟨e,_⟩|⟨_,g5,e,bW⟩
 .simp at e
 cases e;have M5:=W9 bR (w++[m]) aa iW;rw[show oz (w++[m])=.sl (mP w++[m.ps]) by simp[mP]] at M5;have jm:(mP w++[m.ps]).length=w.length+1:=by simp[mP]
 have tk1:List.take M.length (dF M)=dF M:=fR (by rw[cD];exact bJ _);have tk2:List.take (w.length+1) (mP w++[m.ps])=mP w++[m.ps]:=fR (Fp jm);simp only[go_sem,h59,c3,bW,jm,tk1,tk2,s41];obtain⟨u,hu,uJ,vE,hu4⟩:=WT (aj:=fT) (s:=1536768448) (rd:=[1536704193,1536768384]) (x0:=.int .i64 F) (x1:=cK M) (x2:=.int .i64 F) (x3:=cO (gU M)) (x4:=.sl (mP w++[m.ps])) (l:=S.lone 1536768448) (fun i hi=>by
  simp only[cM,gC,or_false] at hi;rcases hi with rfl|rfl
  .exact⟨_,_,_,_,c3⟩
  exact⟨_,_,_,_,bW⟩)
 rw[LR M5 hu];refine⟨Dc fun i hi=>?_,?_⟩
 .rcases eD.1 hi with h|h
  .simp only[cM,gC,or_false] at h;rcases h with rfl|rfl<;>exact ac.c _ rfl
  have h:=vE i h;simp only[cM,gC,or_false] at h;rcases h with rfl|rfl<;>exact ac.c _ rfl
 simp only[go_sem,ho];refine⟨?_,hK _ _ _ (fun i h1 h2=>?_) rfl ?_ fun i h1=>?_⟩
 .rcases hw1 with rfl|rfl<;>rcases jE with ⟨rfl,rfl⟩|⟨rfl,rfl⟩|⟨rfl,rfl⟩<;>rcases hu4 with h4|h4<;>rw[h4]<;>kernel_rfl
 .simp only[aN];repeat' rw[ay aa]
 .simp only[aN,if_true];rw[show oz (w++[m])=.sl (mP w++[m.ps]) by simp[mP]]
 simp only[cM,gC,or_false,Au] at h1;obtain⟨n1,n2,n3,n4,n5⟩:=h1;simp only[aN,ay n5];rw[uJ i (by simp[n1,n4]),gn i n4 n2];simp only[aN,ay n3];rw[bn i n2]
theorem VG{al:Al}{Q:dD}{ak:Env}{aj:aA}{os:List bG}{d:Option Nat}{p:fg}(h:∀b,b=aj->gP S al p d os Q ak b):gP S al p d os Q ak aj:=h _ rfl
theorem atN:S.sites 47=[47]:=ah
theorem atP:S.sites 43=[43]:=ah
theorem atO:S.sites 29=[29]:=ah
theorem SW{F:Nat}{L:List Let}(h:cQ (F:Int) L=0):F<=40:=by
 by_cases aI:L=[]
 .subst aI;exact ZZ h
 obtain⟨G,e,g⟩:=ss h aI;have:=g.fing;omega
structure Fs (a:cE) (F:Nat) (ms:List aP) (ga gg:Nat) (j:Nat) (ak:Env) (aj:aA):Prop where
 gk:ak 11=.one (.aY 1536256256 ga 0)
 bA:aj 1536256256=(ga,some (.var [.p (.int .i64 F),.p (cK a.c),.p (.int .i64 F),.p (cK a.n),.p (oz a.w)]))
 Mu:ak 46=.one (.hsl 1536448192 gg 7 0 ms.length)
 I6:ak 47=vi ms.length
 xO:ak 48=vi j
 bV:aj 1536448192=(gg,some (.arr fK 7 (mP ms)))
theorem auw(x0 x1 x2 x3 x4:PV):aK S 25 [.agg [.p x0,.p x1,.p x2,.p x3,.p x4]] (rb false):=by refine bh c25 ?_;simp only[go_sem,i25];first|done|rfl
theorem round{sb:Bool}{al:Al}{s:Nat}(hq:vH s)(ac:wx sb al)(bR:pX){F limit:Nat}{L0:List Let}{gv gq gM ga gg gi:Nat}{z:Nat×Option Ob}{r0:List Nat}{b0:aA}{a:cE}{ms:List aP}{st:List cE}{k j:Nat}{m:aP}{ak:Env}{aj:aA}{Q:dD}(iH:limit<=20000)(nj:ms.length<=8000)(hj:ms[j]?=some m)(Qd:qV F a.c EN m)(ha:wy F L0 st.length a)
  (hI:wA sb F limit L0 gv z r0 b0 gq gM st k ak aj) (que:Av s gq gi (ky F st) k aj) (hR:Fs a F ms ga gg j ak aj)
  (hN:∀ll (aD:Env) (ao:aA),pV sb F limit a st m=(0,ll)->wA sb F limit L0 gv z r0 b0 gq gM ll k aD ao->Fs a F ms ga gg (j+1) aD ao->Q .normal aD ao)
  (hX:∀(aD:Env) (ao:aA),(pV sb F limit a st m).1≠0->EdC sb F L0 gv z r0 b0 (pV sb F limit a st m) gq aD ao->Q (.exit 0) aD ao):W S al i24_l1 Q ak aj:=by
  obtain⟨e1,e2,e9,qH,bM,_,bv,ne,lim,alls,fr⟩:=hI;obtain⟨bq,bs⟩:=que;obtain⟨gk,bA,Mu,I6,xO,bV⟩:=hR;have ho:=ac.ft;have o1:=hq.ok ac;have vz:=hq.ne;have o3:al.ok 1536448192=true:=ac.c _ rfl;have au:=(aW.1 hj).1;have aL:((j:Int)<(ms.length:Int)):=aa;have jC:=JY hj;have w1:=cA (n:=j) aa;have anX:(mP ms).length=ms.length:=ow ms;obtain⟨M,ni,pa,iW,ank,anj,vC⟩:=apU ha Qd;have mR:S.lone 1536704192=false:=ah;have uG:=FJ iW;have jm:=ha.len;have uB:pV sb F limit a st m=if (st.map (cE.key F)).any (fun s=>Bx F (cT M)==s) then (0,st) else if st.length=limit then (1,st) else (if (sb&&(Af F M).2)=true then 2 else 0,st++[⟨M,cT M,a.w++[m]⟩]):=by unfold pV;rw[ni];rfl
  have NX:aK S 45 [.agg [.p (.int .i64 F),.p (cK a.c)],.agg [.p (.int .i64 m.k),.p (.int .i64 m.a),.p (.int .i64 m.b),.p (.int .i64 m.c),.p (.bool m.l),.p (.bool m.o),.p (.int .i64 m.s)]] (kW F M):=pa;simp only[go_sem,i24_l1,gk,Mu,I6,xO,bA,bV,au,aL,jC,aP.ps,ho,s45];refine amW (fun i hi=>?_) NX mR rfl rfl (Kz _) fun cc bQ gc dd=>?_
  .simp only[cM,gC,or_false] at hi;subst hi;exact ac.c _ rfl
  rcases gc with ⟨e,_⟩|⟨_,g2,e,bC⟩
  .exact absurd (Yy.1 e) ank
  cases e;have c0:=dd 1536256256 ae;have c1:=dd 1536640128 ae;have c2:=dd 1536128000 ae;have c3:=dd 1536192192 ae;have c4:=dd s (by rcases hq with rfl|rfl<;>decide);have c5:=dd 576512000 ae;have c6:=dd 1536448192 ae;simp only[go_sem,bA,bM,bq,bs,bv,bV,vz] at c0 c1 c2 c3 c4 c5 c6;have hlM:(dF M).length=M.length:=cD ..;simp only[go_sem,gk,c0,hlM,ho,s46]
  refine ass ac bR (F:=F) (M:=M) (w:=a.w) (m:=m) (g2:=g2) (gm:=(aj 1536640128).1+1) aa iW aa (by simp only[aN,Nat.reduceEqDiff,if_false];exact bC) (by simp only[aN,Nat.reduceEqDiff,if_false];exact c1) rfl rfl fun aD ao g hE gZ b19 hB=>?_;have f1:=hE 1 ae ae;have f2:=hE 2 ae ae;have f9:=hE 9 ae ae;have f10:=hE 10 ae ae;have f11:=hE 11 ae ae;have f46:=hE 46 ae ae;have f47:=hE 47 ae ae;have f48:=hE 48 ae ae;simp only[go_sem,e1,e2,e9,qH,gk,Mu,I6,xO] at f1 f2 f9 f10 f11 f46 f47 f48;have d0:=hB 1536256256 ae;have d2:=hB 1536128000 ae;have d3:=hB 1536192192 ae;have d4:=hB s (by rcases hq with rfl|rfl<;>decide);have d5:=hB 576512000 ae
  have d6:=hB 1536448192 ae;simp only[go_sem,c0,c2,c3,c4,c5,c6,vz] at d0 d2 d3 d4 d5 d6;have AR:∀i,¬kU i->i≠576512000->i∉r0->ao i=b0 i:=fun i h1 h2 h3=>by have n1:i≠1536704193:=qT h1 rfl (.inl rfl);have n2:i≠1536704448:=qT h1 rfl (.inl rfl);have n3:i≠1536640128:=qT h1 rfl (.inl rfl);have n4:i≠1536768192:=qT h1 rfl (.inl rfl);have n5:i≠1536768320:=qT h1 rfl (.inl rfl);have n6:i≠1536768384:=qT h1 rfl (.inl rfl);have n7:i≠1536768512:=qT h1 rfl (.inl rfl);rw[hB i (by simp[n1,n4,n5,n6,n7])];simp only[aN,ay n2];rw[dd i n1];simp only[aN,ay n3];exact fr i h1 h2 h3
  clear hE hB dd c0 c1 c2 c3 c4 c5 c6 fr bA bM bq bs bv bV e1 e2 e9 qH gk Mu I6 xO bC;have pp:=agi (F:=(F:Int)) (L:=cT M) ⟨by have:=SW iW;omega,by have:=SW iW;omega⟩ (by have:=ET M;omega) (ahc (EU iW));have a3:(cO (gU M)).norm=cK (cT M):=LD (gU M);have a4:(oz (a.w++[m])).norm=oz (a.w++[m]):=rfl;have ef:(CY (st.map (cE.key F))).length=st.length:=af;have sQ:(ky F st).length=st.length:=JW F st;have PZ:((st.length:Int)==(limit:Int))=decide (st.length=limit):=by
   by_cases h:st.length=limit
   .rw[h];simp
   rw[u4 h,lE];omega
  rcases amo (Bx F (cT M)) (st.map (cE.key F)) 0 with ⟨hf,jj,fk⟩|⟨hf,fk⟩
  .rw[hf,aF rfl] at uB;simp only[go_sem,f9,f48,gZ,b19,a3,d2,s42,DX pp,mapOf,mapVal,iw,fk,w1,ho];refine hN st _ _ uB ⟨?_,?_,?_,?_,d2,⟨s,hq,gi,by rw[sQ];exact d3,d4⟩,d5,ne,lim,alls,AR⟩ ⟨?_,d0,?_,?_,?_,d6⟩;all_goals(simp only[go_sem,f1,f2,f9,f10,f11,f46,f47,f48];first|done|rfl)
  rw[hf] at uB;simp only[dx,if_false] at uB;cases hL:decide (st.length=limit) with
  |true=>rw[aF (nG hL)] at uB;rw[hL] at PZ;simp only[go_sem,f1,f9,f10,f48,gZ,b19,a3,d2,d3,PZ,s42,DX pp,mapOf,mapVal,iw,fk,OK,w1,ho];have Mx:=hX;rw[uB] at Mx;refine Mx _ _ (by show(1:Nat)≠0;decide) ⟨?_,⟨k,s,hq,gi,by rw[sQ];exact d3,d4⟩,d5,ne,alls,AR⟩;simp only[go_sem,f10];first|done|rfl
  |false=>
   rw[ay (fS hL)] at uB;rw[hL] at PZ;simp only[go_sem,f1,f9,f10,gZ,b19,a3,d2,d3,d4,PZ,s42,DX pp,mapOf,mapVal,iw,xD,fk,OK,ho,s47];refine VG fun bj bn=>?_;have g2:bj 1536128000=(gM,some (.map false (CY (st.map (cE.key F))++[(.str (Bx F (cT M)),[.bool true])]))):=by rw[bn];simp only[aN,if_true];try rfl
   have an2:ky F st≠[]:=by simpa using ne
   have kp:∀i,i≠1536128000->bj i=ao i:=fun i h=>by rw[bn];simp only[aN,ay h]
   have k3:=(kp 1536192192 ae).trans d3;have k4:=(kp s (by rcases hq with rfl|rfl<;>decide)).trans d4;have k5:=(kp 576512000 ae).trans d5;have k6:=(kp 1536448192 ae).trans d6;have k0:=(kp 1536256256 ae).trans d0;have k19:=(kp 1536768512 ae).trans b19;have fr3:∀i,¬kU i->i≠576512000->i∉r0->bj i=b0 i:=fun i h1 h2 h3=>(kp i (qT h1 rfl (.inl rfl))).trans (AR i h1 h2 h3)
   clear bn kp AR;have sR:((([V.one (.aY 1536192192 gq 0),V.agg [.p (.int .i64 F),.p (cK M),.p (.int .i64 F),.p (cO (gU M)),.p (oz (a.w++[m]))]]:List V).map (jc bj)).flatten)=[1536192192,s]:=by
    have r1:jc bj (.one (.aY 1536192192 gq 0))=[1536192192,s]:=by rw[Kv k3];simp only[dK,j7,lQ,HE,jP];rw[Dj (n:=4) k4,Ku];rfl
    rw[dK,dK,j7,r1];rfl
   have Ja:=ai5 hq (al:=allow (S.ctx al) 47 [V.one (.aY 1536192192 gq 0),V.agg [.p (.int .i64 F),.p (cK M),.p (.int .i64 F),.p (cO (gU M)),.p (oz (a.w++[m]))]] bj) (aj:=bj) (gq:=gq) (gi:=gi) (k:=k) (es:=ky F st) (x0:=.int .i64 F) (x1:=cK M) (x2:=.int .i64 F) (x3:=cO (gU M)) (x4:=oz (a.w++[m])) (r7 (by rw[sR];simp)) (r7 (by rw[sR];simp)) (um ah) (um ah) (um ah) ⟨by rw[sQ];exact k3,k4⟩ an2 (by rw[sQ];omega);rw[a3] at Ja;refine qK (holds_of (by show al.ft (List.flatten _)=true;rw[sR];simp only[Kk,GY,ho,o1,vY]) (by show(S.sites 47).all al.fs.contains=true;rw[atN];simp only[mw,pP,ac.a,vY])) Ja fun v3 fT hP=>?_
   obtain⟨rfl,⟨g5,bq3,bs3⟩,Jj⟩:=hP;have m5:=Jj 576512000 ae ae (by rcases hq with rfl|rfl<;>decide);have m6:=Jj 1536448192 ae ae (by rcases hq with rfl|rfl<;>decide);have m0:=Jj 1536256256 ae ae (by rcases hq with rfl|rfl<;>decide);have m2:=Jj 1536128000 ae ae (by rcases hq with rfl|rfl<;>decide);have m19:=Jj 1536768512 ae ae (by rcases hq with rfl|rfl<;>decide);rw[k5] at m5;rw[k6] at m6;rw[k0] at m0;rw[g2] at m2;rw[k19] at m19
   have fr4:∀i,¬kU i->i≠576512000->i∉r0->fT i=b0 i:=fun i h1 h2 h3=>(Jj i (fun h=>h1 (.inr (.inr (.inl h)))) (qT h1 rfl (.inl rfl)) (hq.no h1)).trans (fr3 i h1 h2 h3);have vv:ky F st++[[.int .i64 F,cK M,.int .i64 F,cK (cT M),oz (a.w++[m])]]=ky F (st++[(⟨M,cT M,a.w++[m]⟩:cE)]):=by simp[cE.ps]
   have Jq:CY (st.map (cE.key F))++[(.str (Bx F (cT M)),[.bool true])]=CY ((st++[(⟨M,cT M,a.w++[m]⟩:cE)]).map (cE.key F)):=by simp[cE.key]
   have V6:(st++[(⟨M,cT M,a.w++[m]⟩:cE)]).length=st.length+1:=af;have Wg:(st++[(⟨M,cT M,a.w++[m]⟩:cE)])≠[]:=af;have hL2:=fS hL;have dM:∀x∈st++[(⟨M,cT M,a.w++[m]⟩:cE)],wy F L0 (st++[(⟨M,cT M,a.w++[m]⟩:cE)]).length x:=fun x hx=>by
    rw[V6];rcases eD.1 hx with h|h
    .exact(alls x h).mono aa
    rw[lD.1 h];refine⟨iW,rfl,vC,fun y hy=>?_,by show(a.w++[m]).length<=_;rw[ff];simp only[dh,ez];omega,anj.trans ha.same⟩;rcases eD.1 hy with h|h
    .exact ha.kind y h
    rw[lD.1 h];exact Qd.1
   cases sb with
   |false=>
    have f2:aD 2=.one (.p (.fn 25 [] [])):=f2;have hq3:Av 3008064448 gq g5 (ky F (st++[(⟨M,cT M,a.w++[m]⟩:cE)])) k fT:=by rw[<- vv];exact⟨bq3,bs3⟩
    rw[Jq] at m2;clear Ja sR;rw[HB] at uB;simp only[dx,if_false] at uB;simp only[go_sem,f2,f48,gZ,m19,w1,ho,s25,DX (auw _ _ _ _ _)];refine hN _ _ _ uB ⟨?_,?_,?_,?_,m2,⟨_,.inr rfl,g5,hq3⟩,m5,Wg,by rw[V6];omega,dM,fr4⟩ ⟨?_,m0,?_,?_,?_,m6⟩;all_goals(simp only[go_sem,f1,f2,f9,f10,f11,f46,f47,f48];first|done|rfl)
   |true=>
    have pr:=agu iW;have o2:=ac.v rfl;have f2:aD 2=.one (.hfn 29 [] [.aY 576512000 gv 0]):=f2;have m5:fT 576512000=(gv,some (.var [.p (.bool false)])):=m5;simp only[go_sem,f2,gZ,m19,ho,s29];have Gy:((([V.agg [.p (.int .i64 F),.p (cK M),.p (.int .i64 F),.p (cO (gU M)),.p (oz (a.w++[m]))],V.one (.aY 576512000 gv 0)]:List V).map (jc fT)).flatten)=[576512000]:=by
     have r1:jc fT (.one (.aY 576512000 gv 0))=[576512000]:=by rw[Kv m5];rfl
     rw[dK,dK,j7,r1];rfl
    have cX:=auy (al:=allow (S.ctx al) 29 [V.agg [.p (.int .i64 F),.p (cK M),.p (.int .i64 F),.p (cO (gU M)),.p (oz (a.w++[m]))],V.one (.aY 576512000 gv 0)] fT) (aj:=fT) (gv:=gv) (F:=F) (L:=M) (x2:=.int .i64 F) (x3:=cO (gU M)) (x4:=oz (a.w++[m])) (b0:=false) pr.1 (r7 (by rw[Gy];simp)) (um ah) (um ah) m5;refine qK (holds_of (by show al.ft (List.flatten _)=true;rw[Gy];simp only[Kk,GY,o2,vY]) (by show(S.sites 29).all al.fs.contains=true;rw[atO];simp only[mw,pP,ac.s rfl,vY])) cX fun v4 ij hP=>?_
    obtain⟨rfl,bv4,Jk⟩:=hP;have n0:=(Jk 1536256256 ae ae).trans m0;have n2:=(Jk 1536128000 ae ae).trans m2;have n3:=(Jk 1536192192 ae ae).trans bq3;have n4:=(Jk 3008064448 ae ae).trans bs3;have n6:=(Jk 1536448192 ae ae).trans m6;have fr5:∀i,¬kU i->i≠576512000->i∉r0->ij i=b0 i:=fun i h1 h2 h3=>(Jk i (fun h=>h1 (.inr (.inr (.inr h)))) h2).trans (fr4 i h1 h2 h3);have hq3:Av 3008064448 gq g5 (ky F (st++[(⟨M,cT M,a.w++[m]⟩:cE)])) k ij:=by rw[<- vv];exact⟨n3,n4⟩
    rw[Jq] at n2;clear Ja cX pr Gy sR;cases hb:(Af F M).2 with
    |true=>rw[hb,An,aF rfl] at uB;rw[hb] at bv4;have Mx:=hX;rw[uB] at Mx;simp only[go_sem,f48];refine Mx _ _ (by show(2:Nat)≠0;decide) ⟨?_,⟨k,_,.inr rfl,g5,hq3⟩,bv4,Wg,dM,fr5⟩;simp only[go_sem,f10];first|done|rfl
    |false=>rw[hb] at uB bv4;simp only[An,dx,if_false] at uB;simp only[go_sem,f48,w1];refine hN _ _ _ uB ⟨?_,?_,?_,?_,n2,⟨_,.inr rfl,g5,hq3⟩,bv4,Wg,by rw[V6];omega,dM,fr5⟩ ⟨?_,n0,?_,?_,?_,n6⟩;all_goals(simp only[go_sem,f1,f2,f9,f10,f11,f46,f47,f48];first|done|rfl)
end Go.Abs
