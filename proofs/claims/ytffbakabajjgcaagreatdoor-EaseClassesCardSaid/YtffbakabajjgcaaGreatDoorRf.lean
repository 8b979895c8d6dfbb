/- A part. -/
import Derived.Test.YtffbakabajjgcaaGreatDoorRe
set_option linter.all false
set_option maxRecDepth 100000
set_option maxHeartbeats 16000000
namespace Go.Abs
theorem aiv:aF S 42 [.one (.p (.sl []))] (.one (.p .zs)):=⟨1,ah⟩
theorem aqn{sb:Bool}{al:Al}(ac:xB sb al)(cP:vd){F:Nat}{M:List Let}{w:List aU}{m:aU}{ak:Env}{aj:aw}{Q2:dy}{g2 gm:Nat}(hw:w.length<=100000)(uH:di (F:Int) M=0)(hMl:M.length<=1000000)
  (bC:aj 1344704193=(g2,some (.arr gH 6 (aZ M)))) (bm:aj 1344640128=(gm,some (.var [.p (.int .i64 m.k),.p (.int .i64 m.a),.p (.int .i64 m.b),.p (.int .i64 m.c),.p (.bool m.l),.p (.bool m.o),.p (.int .i64 m.s)])))
  (h59:ak 59=.agg [.p (.int .i64 F),.hsl 1344704193 g2 6 0 M.length]) (xS:ak 16=.one (.aX 1344640128 gm 0))
  (hK:∀(aA:Env) (ao:aw) (g:Nat),(∀i,i<59->i≠19->aA i=ak i)->aA 19=.one (.aX 1344768512 g 0)->ao 1344768512=(g,some (.var [.p (.int .i64 F),.p (cQ M),.p (.int .i64 F),.p (cO (ly M)),.p (sB (w++[m]))]))->
   (∀i,i∉[1344704193,1344768192,1344768320,1344768384,1344768512]->ao i=aj i)->Q2 .normal aA ao):
  dP S al (.pc 42 [.one (.p (sB w))] [] 1344768192) (some 62) [ox 59 2 17,of 60 4 11,dl 61 60 2,dc 62 1344768192 42 [.t 61] 6,ox 63 7 16,od 64 (.DS 1344768320 57 7 [.t 63]) 16,od 65 (.append 1344768384 57 7 48 (.t 62) (.t 64)) 62,dc 66 1344768448 37 [.t 59,.t 65] 127,oo 19 (.alloc 1344768512 [il 0,.nils,il 0,.nils,.nils]),⟨none,.store 5 (.t 19) (.t 66),none,511⟩] [ox 63 7 16,od 64 (.DS 1344768320 57 7 [.t 63]) 16,od 65 (.append 1344768384 57 7 48 (.t 62) (.t 64)) 62,dc 66 1344768448 37 [.t 59,.t 65] 127,oo 19 (.alloc 1344768512 [il 0,.nils,il 0,.nils,.nils]),⟨none,.store 5 (.t 19) (.t 66),none,511⟩] Q2 ak aj [⟨[1344704448],[],[]⟩,⟨[],[],[]⟩,⟨[1344256256],[],[]⟩]:=by
 have ho:=ac.fG;have kN:S.lone 1344768192=false:=ah;have cA:([aU.ps m].all fun e=>e.length==7)=true:=rfl;by_cases CQ:w=[]
 .have hz0:sB w=.sl []:=by rw[CQ];rfl
  have tY:land aj [] 1344768192 ((RV.one (.p .zs)).eD (S.lone 1344768192))=some (.one (.p .zs),[]):=by rw[kN];rfl
  rw[hz0,Lp aiv tY];refine⟨rfl,?_⟩;simp only[go_sem,xS,bm,ho];refine aiS (site:=1344768384) (ty:=57) (z:=7) (bytes:=48) (xs:=[aU.ps m]) (rd:=[1344768320]) (fun i hi=>?_) ?_ af (.inl rfl) (by simp only[cS,eE];omega) fun c' fN r1 u1 g1 ef ig=>?_
  .simp only[cI,iM,or_false] at hi;rcases hi with rfl|rfl<;>exact ac.c _ rfl
  .simp[ed,aN,aU.ps]
  have g1:grown 1344768384 57 7 (mP w++[aU.ps m]) (.one c') fN:=by rw[CQ];exact g1
  have c3:=ef 1344704193 ae ae;simp only[aN,Nat.reduceEqDiff,if_false] at c3;have c3:=c3.trans bC;rcases g1 with ⟨e,_⟩|⟨_,g5,e,bW⟩
  .simp at e
  cases e;have Mz:=Vb cP (w++[m]) aa uH;rw[show sB (w++[m])=.sl (mP w++[m.ps]) by simp[mP]] at Mz;have iW:(mP w++[m.ps]).length=w.length+1:=by simp[mP]
  have tk1:List.take M.length (aZ M)=aZ M:=dD (by rw[cH];exact bJ _);have tk2:List.take (w.length+1) (mP w++[m.ps])=mP w++[m.ps]:=dD (FU iW);simp only[go_sem,h59,c3,bW,iW,tk1,tk2,s37];obtain⟨u,hu,uN,vA,hu4⟩:=UQ (aj:=fN) (s:=1344768448) (rd:=[1344704193,1344768384]) (x0:=.int .i64 F) (x1:=cQ M) (x2:=.int .i64 F) (x3:=cO (ly M)) (x4:=.sl (mP w++[m.ps])) (l:=S.lone 1344768448) (fun i hi=>by
   simp only[cI,iM,or_false] at hi;rcases hi with rfl|rfl
   .exact⟨_,_,_,_,c3⟩
   exact⟨_,_,_,_,bW⟩)
  rw[Lp Mz hu];refine⟨Df fun i hi=>?_,?_⟩
  .rcases dZ.1 hi with h|h
   .simp only[cI,iM,or_false] at h;rcases h with rfl|rfl<;>exact ac.c _ rfl
   have h:=vA i h;simp only[cI,iM,or_false] at h;rcases h with rfl|rfl<;>exact ac.c _ rfl
  simp only[go_sem,ho];refine⟨?_,hK _ _ _ (fun i h1 h2=>?_) rfl ?_ fun i h1=>?_⟩
  .rcases ig with ⟨rfl,rfl⟩|⟨rfl,rfl⟩|⟨rfl,rfl⟩<;>rcases hu4 with h4|h4<;>rw[h4]<;>kernel_rfl
  .simp only[aN];repeat' rw[ay aa]
  .simp only[aN,if_true];rw[show sB (w++[m])=.sl (mP w++[m.ps]) by simp[mP]]
  simp only[cI,iM,or_false,Az] at h1;obtain⟨n1,n2,n3,n4,n5⟩:=h1;simp only[aN,ay n5];rw[uN i (by simp[n1,n4]),ef i n4 n4];simp only[aN,ay n3]
 have pc:=aiu CQ aa;refine aiU (fun i hi=>?_) pc kN (.inl rfl) fun c1 ba w1 gw aT Bc=>?_
 .simp only[cI,iM,or_false] at hi;subst hi;exact ac.c _ rfl
 have d1:=aT 1344640128 ae;rw[bm] at d1;simp only[go_sem,xS,d1,ho];refine F8 (site:=1344768384) (id:=1344768192) (ty:=57) (z:=7) (bytes:=48) (es:=mP w) (xs:=[aU.ps m]) (rd:=[1344768320]) (fun i hi=>?_) (gw.of_eq (by simp only[aN,Nat.reduceEqDiff,if_false])) ?_ (.inl rfl) (by simp only[mN,cS,eE];omega) fun c' fN r1 u1 g1 ef ig=>?_
 .simp only[cI,iM,or_false] at hi;rcases hi with rfl|rfl|rfl<;>exact ac.c _ rfl
 .simp[ed,aN,aU.ps]
 have c3:=ef 1344704193 ae ae;simp only[aN,Nat.reduceEqDiff,if_false,aT 1344704193 ae] at c3;have c3:=c3.trans bC;rcases g1 with ⟨e,_⟩|⟨_,g5,e,bW⟩
 .simp at e
 cases e;have Mz:=Vb cP (w++[m]) aa uH;rw[show sB (w++[m])=.sl (mP w++[m.ps]) by simp[mP]] at Mz;have iW:(mP w++[m.ps]).length=w.length+1:=by simp[mP]
 have tk1:List.take M.length (aZ M)=aZ M:=dD (by rw[cH];exact bJ _);have tk2:List.take (w.length+1) (mP w++[m.ps])=mP w++[m.ps]:=dD (FU iW);simp only[go_sem,h59,c3,bW,iW,tk1,tk2,s37];obtain⟨u,hu,uN,vA,hu4⟩:=UQ (aj:=fN) (s:=1344768448) (rd:=[1344704193,1344768384]) (x0:=.int .i64 F) (x1:=cQ M) (x2:=.int .i64 F) (x3:=cO (ly M)) (x4:=.sl (mP w++[m.ps])) (l:=S.lone 1344768448) (fun i hi=>by
  simp only[cI,iM,or_false] at hi;rcases hi with rfl|rfl
  .exact⟨_,_,_,_,c3⟩
  exact⟨_,_,_,_,bW⟩)
 rw[Lp Mz hu];refine⟨Df fun i hi=>?_,?_⟩
 .rcases dZ.1 hi with h|h
  .simp only[cI,iM,or_false] at h;rcases h with rfl|rfl<;>exact ac.c _ rfl
  have h:=vA i h;simp only[cI,iM,or_false] at h;rcases h with rfl|rfl<;>exact ac.c _ rfl
 simp only[go_sem,ho];refine⟨?_,hK _ _ _ (fun i h1 h2=>?_) rfl ?_ fun i h1=>?_⟩
 .rcases Bc with rfl|rfl<;>rcases ig with ⟨rfl,rfl⟩|⟨rfl,rfl⟩|⟨rfl,rfl⟩<;>rcases hu4 with h4|h4<;>rw[h4]<;>kernel_rfl
 .simp only[aN];repeat' rw[ay aa]
 .simp only[aN,if_true];rw[show sB (w++[m])=.sl (mP w++[m.ps]) by simp[mP]]
 simp only[cI,iM,or_false,Az] at h1;obtain⟨n1,n2,n3,n4,n5⟩:=h1;simp only[aN,ay n5];rw[uN i (by simp[n1,n4]),ef i n4 n2];simp only[aN,ay n3];rw[aT i n2]
theorem aaa{al:Al}{Q:dy}{ak:Env}{aj:aw}{os:List bI}{d:Option Nat}{p:fq}(h:∀b,b=aj->gP S al p d os Q ak b):gP S al p d os Q ak aj:=h _ rfl
theorem arI:S.sites 43=[43]:=ah
theorem arJ:S.sites 39=[39]:=ah
theorem SL{F:Nat}{L:List Let}(h:di (F:Int) L=0):F<=40:=by
 by_cases aI:L=[]
 .subst aI;exact X9 h
 obtain⟨G,e,g⟩:=xM h aI;have:=g.fing;omega
structure RdC (a:bR) (F:Nat) (ms:List aU) (ga gg:Nat) (j:Nat) (ak:Env) (aj:aw):Prop where
 ie:ak 11=.one (.aX 1344256256 ga 0)
 bA:aj 1344256256=(ga,some (.var [.p (.int .i64 F),.p (cQ a.c),.p (.int .i64 F),.p (cQ a.n),.p (sB a.w)]))
 L5:ak 46=.one (.hsl 1344448192 gg 7 0 ms.length)
 I2:ak 47=vi ms.length
 xW:ak 48=vi j
 bV:aj 1344448192=(gg,some (.arr jY 7 (mP ms)))
theorem asx(x0 x1 x2 x3 x4:PV):aF S 22 [.agg [.p x0,.p x1,.p x2,.p x3,.p x4]] (rb false):=by refine aV c22 ?_;simp only[go_sem,i22];first|done|rfl
theorem round{sb:Bool}{al:Al}{s:Nat}(hq:vE s)(ac:xB sb al)(cP:vd){F limit:Nat}{L0:List Let}{gv gq gM ga gg gi:Nat}{z:Nat×Option Ob}{r0:List Nat}{b0:aw}{a:bR}{ms:List aU}{st:List bR}{k j:Nat}{m:aU}{ak:Env}{aj:aw}{Q:dy}(rj:limit<=20000)(lT:ms.length<=8000)(hj:ms[j]?=some m)(CI:tz F a.c zX m)(ha:tG F L0 st.length a)
  (hI:vX sb F limit L0 gv z r0 b0 gq gM st k ak aj) (que:BG s gq gi (fJ F st) k aj) (hR:RdC a F ms ga gg j ak aj)
  (hN:∀ib (aA:Env) (ao:aw),me sb F limit a st m=(0,ib)->vX sb F limit L0 gv z r0 b0 gq gM ib k aA ao->RdC a F ms ga gg (j+1) aA ao->Q .normal aA ao)
  (hX:∀(aA:Env) (ao:aw),(me sb F limit a st m).1≠0->EdC sb F L0 gv z r0 b0 (me sb F limit a st m) gq aA ao->Q (.exit 0) aA ao):W S al i21_l1 Q ak aj:=by
  obtain⟨e1,e2,e9,iA,bM,_,bv,ne,lim,alls,fr⟩:=hI;obtain⟨bq,bs⟩:=que;obtain⟨ie,bA,L5,I2,xW,bV⟩:=hR;have ho:=ac.fG;have o1:=hq.ok ac;have mr:=hq.ne;have o3:al.ok 1344448192=true:=ac.c _ rfl;have aq:=(bg.1 hj).1;have aL:((j:Int)<(ms.length:Int)):=aa;have j6:=JN hj;have w1:=bN (n:=j) aa;have Ue:(mP ms).length=ms.length:=mN ms;obtain⟨M,nN,pa,uH,I5,TK,zO⟩:=acE ha CI;have iD:S.lone 1344704192=false:=ah;have tj:=DW uH;have iW:=ha.len;have qh:me sb F limit a st m=if (st.map (bR.key F)).any (fun s=>sF F (dK M)==s) then (0,st) else if st.length=limit then (1,st) else (if (sb&&(rdO F M).2)=true then 2 else 0,st++[⟨M,dK M,a.w++[m]⟩]):=by unfold me;rw[nN];rfl
  have Ns:aF S 41 [.agg [.p (.int .i64 F),.p (cQ a.c)],.agg [.p (.int .i64 m.k),.p (.int .i64 m.a),.p (.int .i64 m.b),.p (.int .i64 m.c),.p (.bool m.l),.p (.bool m.o),.p (.int .i64 m.s)]] (mz F M):=pa;simp only[go_sem,i21_l1,ie,L5,I2,xW,bA,bV,aq,aL,j6,aU.ps,ho,s41];refine akD (fun i hi=>?_) Ns iD rfl rfl (Fz _) fun cc cn gc cq=>?_
  .simp only[cI,iM,or_false] at hi;subst hi;exact ac.c _ rfl
  rcases gc with ⟨e,_⟩|⟨_,g2,e,bC⟩
  .exact absurd (WU.1 e) I5
  cases e;have c0:=cq 1344256256 ae;have c1:=cq 1344640128 ae;have c2:=cq 1344128000 ae;have c3:=cq 1344192192 ae;have c4:=cq s (by rcases hq with rfl|rfl<;>decide);have c5:=cq 960512000 ae;have c6:=cq 1344448192 ae;simp only[go_sem,bA,bM,bq,bs,bv,bV,mr] at c0 c1 c2 c3 c4 c5 c6;have hlM:(aZ M).length=M.length:=cH ..;simp only[go_sem,ie,c0,hlM,ho,s42]
  refine aqn ac cP (F:=F) (M:=M) (w:=a.w) (m:=m) (g2:=g2) (gm:=(aj 1344640128).1+1) aa uH aa (by simp only[aN,Nat.reduceEqDiff,if_false];exact bC) (by simp only[aN,Nat.reduceEqDiff,if_false];exact c1) rfl rfl fun aA ao g hE jS b19 hB=>?_;have f1:=hE 1 ae ae;have f2:=hE 2 ae ae;have f9:=hE 9 ae ae;have f10:=hE 10 ae ae;have f11:=hE 11 ae ae;have f46:=hE 46 ae ae;have f47:=hE 47 ae ae;have f48:=hE 48 ae ae;simp only[go_sem,e1,e2,e9,iA,ie,L5,I2,xW] at f1 f2 f9 f10 f11 f46 f47 f48;have d0:=hB 1344256256 ae;have d2:=hB 1344128000 ae;have d3:=hB 1344192192 ae;have d4:=hB s (by rcases hq with rfl|rfl<;>decide);have d5:=hB 960512000 ae
  have d6:=hB 1344448192 ae;simp only[go_sem,c0,c2,c3,c4,c5,c6,mr] at d0 d2 d3 d4 d5 d6;have AU:∀i,¬pO i->i≠960512000->i∉r0->ao i=b0 i:=fun i h1 h2 h3=>by have n1:i≠1344704193:=rC h1 rfl (.inl rfl);have n2:i≠1344704448:=rC h1 rfl (.inl rfl);have n3:i≠1344640128:=rC h1 rfl (.inl rfl);have n4:i≠1344768192:=rC h1 rfl (.inl rfl);have n5:i≠1344768320:=rC h1 rfl (.inl rfl);have n6:i≠1344768384:=rC h1 rfl (.inl rfl);have n7:i≠1344768512:=rC h1 rfl (.inl rfl);rw[hB i (by simp[n1,n4,n5,n6,n7])];simp only[aN,ay n2];rw[cq i n1];simp only[aN,ay n3];exact fr i h1 h2 h3
  clear hE hB cq c0 c1 c2 c3 c4 c5 c6 fr bA bM bq bs bv bV e1 e2 e9 iA ie L5 I2 xW bC;have pp:=ad7 (F:=(F:Int)) (L:=dK M) ⟨by have:=SL uH;omega,by have:=SL uH;omega⟩ (by have:=Qt M;omega) (aeT (Fl uH));have a3:(cO (ly M)).norm=cQ (dK M):=SJ (ly M);have a4:(sB (a.w++[m])).norm=sB (a.w++[m]):=rfl;have eI:(CW (st.map (bR.key F))).length=st.length:=af;have ub:(fJ F st).length=st.length:=Fi F st;have PD:((st.length:Int)==(limit:Int))=decide (st.length=limit):=by
   by_cases h:st.length=limit
   .rw[h];simp
   rw[vW h,tF];omega
  rcases aj7 (sF F (dK M)) (st.map (bR.key F)) 0 with ⟨hf,jj,fk⟩|⟨hf,fk⟩
  .rw[hf,aD rfl] at qh;simp only[go_sem,f9,f48,jS,b19,a3,d2,s38,Ei pp,mapOf,mapVal,gZ,fk,w1,ho];refine hN st _ _ qh ⟨?_,?_,?_,?_,d2,⟨s,hq,gi,by rw[ub];exact d3,d4⟩,d5,ne,lim,alls,AU⟩ ⟨?_,d0,?_,?_,?_,d6⟩;all_goals(simp only[go_sem,f1,f2,f9,f10,f11,f46,f47,f48];first|done|rfl)
  rw[hf] at qh;simp only[dQ,if_false] at qh;cases hL:decide (st.length=limit) with
  |true=>rw[aD (l7 hL)] at qh;rw[hL] at PD;simp only[go_sem,f1,f9,f10,f48,jS,b19,a3,d2,d3,PD,s38,Ei pp,mapOf,mapVal,gZ,fk,Ou,w1,ho];have L8:=hX;rw[qh] at L8;refine L8 _ _ (by show(1:Nat)≠0;decide) ⟨?_,⟨k,s,hq,gi,by rw[ub];exact d3,d4⟩,d5,ne,alls,AU⟩;simp only[go_sem,f10];first|done|rfl
  |false=>
   rw[ay (fA hL)] at qh;rw[hL] at PD;simp only[go_sem,f1,f9,f10,jS,b19,a3,d2,d3,d4,PD,s38,Ei pp,mapOf,mapVal,gZ,xH,fk,Ou,ho,s43];refine aaa fun ba aT=>?_;have g2:ba 1344128000=(gM,some (.map false (CW (st.map (bR.key F))++[(.str (sF F (dK M)),[.bool true])]))):=by rw[aT];simp only[aN,if_true];try rfl
   have alJ:fJ F st≠[]:=by simpa using ne
   have kp:∀i,i≠1344128000->ba i=ao i:=fun i h=>by rw[aT];simp only[aN,ay h]
   have k3:=(kp 1344192192 ae).trans d3;have k4:=(kp s (by rcases hq with rfl|rfl<;>decide)).trans d4;have k5:=(kp 960512000 ae).trans d5;have k6:=(kp 1344448192 ae).trans d6;have k0:=(kp 1344256256 ae).trans d0;have k19:=(kp 1344768512 ae).trans b19;have fr3:∀i,¬pO i->i≠960512000->i∉r0->ba i=b0 i:=fun i h1 h2 h3=>(kp i (rC h1 rfl (.inl rfl))).trans (AU i h1 h2 h3)
   clear aT kp AU;have Ba:((([V.one (.aX 1344192192 gq 0),V.agg [.p (.int .i64 F),.p (cQ M),.p (.int .i64 F),.p (cO (ly M)),.p (sB (a.w++[m]))]]:List V).map (iZ ba)).flatten)=[1344192192,s]:=by
    have r1:iZ ba (.one (.aX 1344192192 gq 0))=[1344192192,s]:=by rw[ND k3];simp only[fy,pV,lH,Og,mR];rw[Fw (n:=4) k4,NC];rfl
    rw[fy,fy,pV,r1];rfl
   have Ma:=agP hq (al:=allow (S.ctx al) 43 [V.one (.aX 1344192192 gq 0),V.agg [.p (.int .i64 F),.p (cQ M),.p (.int .i64 F),.p (cO (ly M)),.p (sB (a.w++[m]))]] ba) (aj:=ba) (gq:=gq) (gi:=gi) (k:=k) (es:=fJ F st) (x0:=.int .i64 F) (x1:=cQ M) (x2:=.int .i64 F) (x3:=cO (ly M)) (x4:=sB (a.w++[m])) (u9 (by rw[Ba];simp)) (u9 (by rw[Ba];simp)) (vY ah) (vY ah) (vY ah) ⟨by rw[ub];exact k3,k4⟩ alJ (by rw[ub];omega);rw[a3] at Ma;refine tV (holds_of (by show al.fG (List.flatten _)=true;rw[Ba];simp only[Nn,No,ho,o1,Ar]) (by show(S.sites 43).all al.fs.contains=true;rw[arI];simp only[oG,sP,ac.a,Ar])) Ma fun v3 fN hP=>?_
   obtain⟨rfl,⟨g5,bq3,bs3⟩,Jd⟩:=hP;have m5:=Jd 960512000 ae ae (by rcases hq with rfl|rfl<;>decide);have m6:=Jd 1344448192 ae ae (by rcases hq with rfl|rfl<;>decide);have m0:=Jd 1344256256 ae ae (by rcases hq with rfl|rfl<;>decide);have m2:=Jd 1344128000 ae ae (by rcases hq with rfl|rfl<;>decide);have m19:=Jd 1344768512 ae ae (by rcases hq with rfl|rfl<;>decide);rw[k5] at m5;rw[k6] at m6;rw[k0] at m0;rw[g2] at m2;rw[k19] at m19
   have fr4:∀i,¬pO i->i≠960512000->i∉r0->fN i=b0 i:=fun i h1 h2 h3=>(Jd i (fun h=>h1 (.inr (.inr (.inl h)))) (rC h1 rfl (.inl rfl)) (hq.no h1)).trans (fr3 i h1 h2 h3);have tZ:fJ F st++[[.int .i64 F,cQ M,.int .i64 F,cQ (dK M),sB (a.w++[m])]]=fJ F (st++[(⟨M,dK M,a.w++[m]⟩:bR)]):=by simp[bR.ps]
   have Jj:CW (st.map (bR.key F))++[(.str (sF F (dK M)),[.bool true])]=CW ((st++[(⟨M,dK M,a.w++[m]⟩:bR)]).map (bR.key F)):=by simp[bR.key]
   have T7:(st++[(⟨M,dK M,a.w++[m]⟩:bR)]).length=st.length+1:=af;have PK:(st++[(⟨M,dK M,a.w++[m]⟩:bR)])≠[]:=af;have hL2:=fA hL;have cV:∀x∈st++[(⟨M,dK M,a.w++[m]⟩:bR)],tG F L0 (st++[(⟨M,dK M,a.w++[m]⟩:bR)]).length x:=fun x hx=>by
    rw[T7];rcases dZ.1 hx with h|h
    .exact(alls x h).mono aa
    rw[lK.1 h];refine⟨uH,rfl,zO,fun y hy=>?_,by show(a.w++[m]).length<=_;rw[eG];simp only[cS,eE];omega,TK.trans ha.same⟩;rcases dZ.1 hy with h|h
    .exact ha.kind y h
    rw[lK.1 h];exact CI.1
   cases sb with
   |false=>
    have f2:aA 2=.one (.p (.fn 22 [] [])):=f2;have hq3:BG 2752064448 gq g5 (fJ F (st++[(⟨M,dK M,a.w++[m]⟩:bR)])) k fN:=by rw[<- tZ];exact⟨bq3,bs3⟩
    rw[Jj] at m2;clear Ma Ba;rw[Oa] at qh;simp only[dQ,if_false] at qh;simp only[go_sem,f2,f48,jS,m19,w1,ho,s22,Ei (asx _ _ _ _ _)];refine hN _ _ _ qh ⟨?_,?_,?_,?_,m2,⟨_,.inr rfl,g5,hq3⟩,m5,PK,by rw[T7];omega,cV,fr4⟩ ⟨?_,m0,?_,?_,?_,m6⟩;all_goals(simp only[go_sem,f1,f2,f9,f10,f11,f46,f47,f48];first|done|rfl)
   |true=>exact absurd ac.f ae
end Go.Abs
