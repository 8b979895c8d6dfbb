/- A part. -/
import Derived.Test.YtaajncoljnafjaaGreatDoorRe
set_option linter.all false
set_option maxRecDepth 100000
set_option maxHeartbeats 16000000
namespace Go.Abs
def amZ:aK S 45 [.one (.p (.sl []))] (.one (.p .zs)):=⟨1,ah⟩
def auK{sb:Bool}{al:Al}(ac:wI sb al)(cS:rm){F:Nat}{M:ai}{w:g_}{m:aS}{ak:Env}{aj:aC}{Q2:dX}{g2 gm:Nat}(hw:w.length<=100000)(uR:cG (F:Int) M=0)(hMl:M.length<=1000000)
  (bC:aj 1344704193=(g2,some (.arr mO 6 (dZ M)))) (bm:aj 1344640128=(gm,some (.var [.p (.int .i64 m.k),.p (.int .i64 m.a),.p (.int .i64 m.b),.p (.int .i64 m.c),.p (.bool m.l),.p (.bool m.o),.p (.int .i64 m.s)])))
  (h59:ak 59=.agg [.p (.int .i64 F),.hsl 1344704193 g2 6 0 M.length]) (qH:ak 16=.one (.aZ 1344640128 gm 0))
  (hK:∀(aF:Env) (ao:aC) (g:Nat),(∀i,i<59->i≠19->aF i=ak i)->aF 19=.one (.aZ 1344768512 g 0)->ao 1344768512=(g,some (.var [.p (.int .i64 F),.p (dd M),.p (.int .i64 F),.p (cO (jE M)),.p (qf (w++[m]))]))->
   (∀i,i∉[1344704193,1344768192,1344768320,1344768384,1344768512]->ao i=aj i)->Q2 .normal aF ao):
  dP S al (.pc 45 [.one (.p (qf w))] [] 1344768192) (some 62) [ox 59 2 17,of 60 4 11,dl 61 60 2,dc 62 1344768192 45 [.t 61] 6,ox 63 7 16,od 64 (.Fi 1344768320 57 7 [.t 63]) 16,od 65 (.append 1344768384 57 7 48 (.t 62) (.t 64)) 62,dc 66 1344768448 41 [.t 59,.t 65] 127,oo 19 (.alloc 1344768512 [il 0,.nils,il 0,.nils,.nils]),⟨none,.store 5 (.t 19) (.t 66),none,511⟩] [ox 63 7 16,od 64 (.Fi 1344768320 57 7 [.t 63]) 16,od 65 (.append 1344768384 57 7 48 (.t 62) (.t 64)) 62,dc 66 1344768448 41 [.t 59,.t 65] 127,oo 19 (.alloc 1344768512 [il 0,.nils,il 0,.nils,.nils]),⟨none,.store 5 (.t 19) (.t 66),none,511⟩] Q2 ak aj [⟨[1344704448],[],[]⟩,⟨[],[],[]⟩,⟨[1344256256],[],[]⟩]:=by
 have ho:=ac.fQ;have xu:S.lone 1344768192=false:=ah;have cT:([aS.ps m].all fun e=>e.length==7)=true:=rfl;by_cases vW:w=[]
 .have hz0:qf w=.sl []:=by rw[vW];rfl
  have uT:land aj [] 1344768192 ((RV.one (.p .zs)).gj (S.lone 1344768192))=some (.one (.p .zs),[]):=by rw[xu];rfl
  rw[hz0,MV amZ uT];refine⟨rfl,?_⟩;simp only[go_sem,qH,bm,ho];refine anC (site:=1344768384) (ty:=57) (z:=7) (bytes:=48) (xs:=[aS.ps m]) (rd:=[1344768320]) (fun i hi=>?_) ?_ af (.inl rfl) (by simp only[dI,fe];omega) fun c' gR r1 u1 g1 ig ke=>?_
  .simp only[bJ,eo,or_false]at hi;rcases hi with rfl|rfl<;>exact ac.c _ rfl
  .simp[fN,aP,aS.ps]
  have g1:grown 1344768384 57 7 (mP w++[aS.ps m]) (.one c') gR:=by rw[vW];exact g1
  have c3:=ig 1344704193 ae ae;simp only[aP,Nat.reduceEqDiff,if_false]at c3;have c3:=c3.trans bC;rcases g1 with⟨e,_⟩|⟨_,g5,e,bW⟩
  .simp at e
  cases e;have Oj:=YS cS (w++[m]) aa uR;rw[show qf (w++[m])=.sl (mP w++[m.ps]) by simp[mP]]at Oj;have jU:(mP w++[m.ps]).length=w.length+1:=by simp[mP]
  have tk1:List.take M.length (dZ M)=dZ M:=gK (by rw[cE];exact bY _);have tk2:List.take (w.length+1) (mP w++[m.ps])=mP w++[m.ps]:=gK (GK jU);simp only[go_sem,h59,c3,bW,jU,tk1,tk2,s41];obtain⟨u,hu,vV,xl,hu4⟩:=YA (aj:=gR) (s:=1344768448) (rd:=[1344704193,1344768384]) (x0:=.int .i64 F) (x1:=dd M) (x2:=.int .i64 F) (x3:=cO (jE M)) (x4:=.sl (mP w++[m.ps])) (l:=S.lone 1344768448) (fun i hi=>by
   simp only[bJ,eo,or_false]at hi;rcases hi with rfl|rfl
   .exact⟨_,_,_,_,c3⟩
   exact⟨_,_,_,_,bW⟩)
  rw[MV Oj hu];refine⟨Ey fun i hi=>?_,?_⟩
  .rcases eO.1 hi with h|h
   .simp only[bJ,eo,or_false]at h;rcases h with rfl|rfl<;>exact ac.c _ rfl
   have h:=xl i h;simp only[bJ,eo,or_false]at h;rcases h with rfl|rfl<;>exact ac.c _ rfl
  simp only[go_sem,ho];refine⟨?_,hK _ _ _ (fun i h1 h2=>?_) rfl ?_ fun i h1=>?_⟩
  .rcases ke with⟨rfl,rfl⟩|⟨rfl,rfl⟩|⟨rfl,rfl⟩<;>rcases hu4 with h4|h4<;>rw[h4]<;>kernel_rfl
  .simp only[aP];repeat' rw[au aa]
  .simp only[aP,if_true];rw[show qf (w++[m])=.sl (mP w++[m.ps]) by simp[mP]]
  simp only[bJ,eo,or_false,Aw]at h1;obtain⟨n1,n2,n3,n4,n5⟩:=h1;simp only[aP,au n5];rw[vV i (by simp[n1,n4]),ig i n4 n4];simp only[aP,au n3]
 have pc:=amY vW aa;refine anE (fun i hi=>?_) pc xu (.inl rfl) fun c1 bn w1 gw bK hw1=>?_
 .simp only[bJ,eo,or_false]at hi;subst hi;exact ac.c _ rfl
 have d1:=bK 1344640128 ae;rw[bm]at d1;simp only[go_sem,qH,d1,ho];refine Hd (site:=1344768384) (id:=1344768192) (ty:=57) (z:=7) (bytes:=48) (es:=mP w) (xs:=[aS.ps m]) (rd:=[1344768320]) (fun i hi=>?_) (gw.of_eq (by simp only[aP,Nat.reduceEqDiff,if_false])) ?_ (.inl rfl) (by simp only[qe,dI,fe];omega) fun c' gR r1 u1 g1 ig ke=>?_
 .simp only[bJ,eo,or_false]at hi;rcases hi with rfl|rfl|rfl<;>exact ac.c _ rfl
 .simp[fN,aP,aS.ps]
 have c3:=ig 1344704193 ae ae;simp only[aP,Nat.reduceEqDiff,if_false,bK 1344704193 ae]at c3;have c3:=c3.trans bC;rcases g1 with⟨e,_⟩|⟨_,g5,e,bW⟩
 .simp at e
 cases e;have Oj:=YS cS (w++[m]) aa uR;rw[show qf (w++[m])=.sl (mP w++[m.ps]) by simp[mP]]at Oj;have jU:(mP w++[m.ps]).length=w.length+1:=by simp[mP]
 have tk1:List.take M.length (dZ M)=dZ M:=gK (by rw[cE];exact bY _);have tk2:List.take (w.length+1) (mP w++[m.ps])=mP w++[m.ps]:=gK (GK jU);simp only[go_sem,h59,c3,bW,jU,tk1,tk2,s41];obtain⟨u,hu,vV,xl,hu4⟩:=YA (aj:=gR) (s:=1344768448) (rd:=[1344704193,1344768384]) (x0:=.int .i64 F) (x1:=dd M) (x2:=.int .i64 F) (x3:=cO (jE M)) (x4:=.sl (mP w++[m.ps])) (l:=S.lone 1344768448) (fun i hi=>by
  simp only[bJ,eo,or_false]at hi;rcases hi with rfl|rfl
  .exact⟨_,_,_,_,c3⟩
  exact⟨_,_,_,_,bW⟩)
 rw[MV Oj hu];refine⟨Ey fun i hi=>?_,?_⟩
 .rcases eO.1 hi with h|h
  .simp only[bJ,eo,or_false]at h;rcases h with rfl|rfl<;>exact ac.c _ rfl
  have h:=xl i h;simp only[bJ,eo,or_false]at h;rcases h with rfl|rfl<;>exact ac.c _ rfl
 simp only[go_sem,ho];refine⟨?_,hK _ _ _ (fun i h1 h2=>?_) rfl ?_ fun i h1=>?_⟩
 .rcases hw1 with rfl|rfl<;>rcases ke with⟨rfl,rfl⟩|⟨rfl,rfl⟩|⟨rfl,rfl⟩<;>rcases hu4 with h4|h4<;>rw[h4]<;>kernel_rfl
 .simp only[aP];repeat' rw[au aa]
 .simp only[aP,if_true];rw[show qf (w++[m])=.sl (mP w++[m.ps]) by simp[mP]]
 simp only[bJ,eo,or_false,Aw]at h1;obtain⟨n1,n2,n3,n4,n5⟩:=h1;simp only[aP,au n5];rw[vV i (by simp[n1,n4]),ig i n4 n2];simp only[aP,au n3];rw[bK i n2]
def Xo{al:Al}{Q:dX}{ak:Env}{aj:aC}{os:h_}{d:w_}{p:fL}(h:∀b,b=aj->gP S al p d os Q ak b):gP S al p d os Q ak aj:=h _ rfl
def av3:S.sites 46=[46]:=ah
def av5:S.sites 43=[43]:=ah
def av4:S.sites 26=[26]:=ah
def UG{F:Nat}{L:ai}(h:cG (F:Int) L=0):F<=40:=by
 by_cases aH:L=[]
 .subst aH;exact abM h
 obtain⟨G,e,g⟩:=qG h aH;have:=g.fing;omega
structure RdC (a:aX) (F:Nat) (ms:g_) (ga gg:Nat) (j:Nat) (ak:Env) (aj:aC):Prop where
 ie:ak 11=.one (.aZ 1344256256 ga 0)
 bA:aj 1344256256=(ga,some (.var [.p (.int .i64 F),.p (dd a.c),.p (.int .i64 F),.p (dd a.n),.p (qf a.w)]))
 NB:ak 46=.one (.hsl 1344448192 gg 7 0 ms.length)
 Kk:ak 47=vi ms.length
 zu:ak 48=vi j
 bV:aj 1344448192=(gg,some (.arr fD 7 (mP ms)))
def awK(x0 x1 x2 x3 x4:PV):aK S 22 [.agg [.p x0,.p x1,.p x2,.p x3,.p x4]] (rb false):=by refine bt c22 ?_;simp only[go_sem,i22];first|done|rfl
def round{sb:Bool}{al:Al}{s:Nat}(hq:xr s)(ac:wI sb al)(cS:rm){F limit:Nat}{L0:ai}{gv gq gM ga gg gi:Nat}{z:Nat×Option Ob}{r0:a_}{b0:aC}{a:aX}{ms:g_}{st:j_}{k j:Nat}{m:aS}{ak:Env}{aj:aC}{Q:dX}(kK:limit<=20000)(j8:ms.length<=8000)(hj:ms[j]?=some m)(R6:qT F a.c Bq m)(ha:uA F L0 st.length a)
  (hI:xR sb F limit L0 gv z r0 b0 gq gM st k ak aj) (que:BG s gq gi (lD F st) k aj) (hR:RdC a F ms ga gg j ak aj)
  (hN:∀mv (aF:Env) (ao:aC),jm sb F limit a st m=(0,mv)->xR sb F limit L0 gv z r0 b0 gq gM mv k aF ao->RdC a F ms ga gg (j+1) aF ao->Q .normal aF ao)
  (hX:∀(aF:Env) (ao:aC),(jm sb F limit a st m).1≠0->EdC sb F L0 gv z r0 b0 (jm sb F limit a st m) gq aF ao->Q (.exit 0) aF ao):W S al i21_l1 Q ak aj:=by
  obtain⟨e1,e2,e9,rY,bM,_,bv,ne,lim,alls,fr⟩:=hI;obtain⟨bq,bs⟩:=que;obtain⟨ie,bA,NB,Kk,zu,bV⟩:=hR;have ho:=ac.fQ;have o1:=hq.ok ac;have xf:=hq.ne;have o3:al.ok 1344448192=true:=ac.c _ rfl;have aA:=(aT.1 hj).1;have aM:((j:Int)<(ms.length:Int)):=aa;have jI:=O1 hj;have w1:=cU (n:=j) aa;have aqk:(mP ms).length=ms.length:=qe ms;obtain⟨M,qI,pa,uR,apB,apA,vU⟩:=aso ha R6;have nW:S.lone 1344704192=false:=ah;have vO:=G9 uR;have jU:=ha.len;have vH:jm sb F limit a st m=if(st.map (aX.key F)).any (fun s=>oX F (bh M)==s)then(0,st)else if st.length=limit then(1,st)else(if(sb&&(tD F M).2)=true then 2 else 0,st++[⟨M,bh M,a.w++[m]⟩]):=by unfold jm;rw[qI];rfl
  have Pa:aK S 44 [.agg [.p (.int .i64 F),.p (dd a.c)],.agg [.p (.int .i64 m.k),.p (.int .i64 m.a),.p (.int .i64 m.b),.p (.int .i64 m.c),.p (.bool m.l),.p (.bool m.o),.p (.int .i64 m.s)]] (l7 F M):=pa;simp only[go_sem,i21_l1,ie,NB,Kk,zu,bA,bV,aA,aM,jI,aS.ps,ho,s44];refine apf (fun i hi=>?_) Pa nW rfl rfl (LH _) fun cc cF gc dE=>?_
  .simp only[bJ,eo,or_false]at hi;subst hi;exact ac.c _ rfl
  rcases gc with⟨e,_⟩|⟨_,g2,e,bC⟩
  .exact absurd (aav.1 e) apB
  cases e;have c0:=dE 1344256256 ae;have c1:=dE 1344640128 ae;have c2:=dE 1344128000 ae;have c3:=dE 1344192192 ae;have c4:=dE s (by rcases hq with rfl|rfl<;>decide);have c5:=dE 512512000 ae;have c6:=dE 1344448192 ae;simp only[go_sem,bA,bM,bq,bs,bv,bV,xf]at c0 c1 c2 c3 c4 c5 c6;have hlM:(dZ M).length=M.length:=cE ..;simp only[go_sem,ie,c0,hlM,ho,s45]
  refine auK ac cS (F:=F) (M:=M) (w:=a.w) (m:=m) (g2:=g2) (gm:=(aj 1344640128).1+1) aa uR aa (by simp only[aP,Nat.reduceEqDiff,if_false];exact bC) (by simp only[aP,Nat.reduceEqDiff,if_false];exact c1) rfl rfl fun aF ao g hE iK b19 hB=>?_;have f1:=hE 1 ae ae;have f2:=hE 2 ae ae;have f9:=hE 9 ae ae;have f10:=hE 10 ae ae;have f11:=hE 11 ae ae;have f46:=hE 46 ae ae;have f47:=hE 47 ae ae;have f48:=hE 48 ae ae;simp only[go_sem,e1,e2,e9,rY,ie,NB,Kk,zu]at f1 f2 f9 f10 f11 f46 f47 f48;have d0:=hB 1344256256 ae;have d2:=hB 1344128000 ae;have d3:=hB 1344192192 ae;have d4:=hB s (by rcases hq with rfl|rfl<;>decide);have d5:=hB 512512000 ae
  have d6:=hB 1344448192 ae;simp only[go_sem,c0,c2,c3,c4,c5,c6,xf]at d0 d2 d3 d4 d5 d6;have BT:∀i,¬l5 i->i≠512512000->i∉r0->ao i=b0 i:=fun i h1 h2 h3=>by have n1:i≠1344704193:=sv h1 rfl (.inl rfl);have n2:i≠1344704448:=sv h1 rfl (.inl rfl);have n3:i≠1344640128:=sv h1 rfl (.inl rfl);have n4:i≠1344768192:=sv h1 rfl (.inl rfl);have n5:i≠1344768320:=sv h1 rfl (.inl rfl);have n6:i≠1344768384:=sv h1 rfl (.inl rfl);have n7:i≠1344768512:=sv h1 rfl (.inl rfl);rw[hB i (by simp[n1,n4,n5,n6,n7])];simp only[aP,au n2];rw[dE i n1];simp only[aP,au n3];exact fr i h1 h2 h3
  clear hE hB dE c0 c1 c2 c3 c4 c5 c6 fr bA bM bq bs bv bV e1 e2 e9 rY ie NB Kk zu bC;have pp:=air (F:=(F:Int)) (L:=bh M) ⟨by have:=UG uR;omega,by have:=UG uR;omega⟩ (by have:=Ze M;omega) (ajh (wg uR));have a3:(cO (jE M)).norm=dd (bh M):=Qx (jE M);have a4:(qf (a.w++[m])).norm=qf (a.w++[m]):=rfl;have eK:(Et (st.map (aX.key F))).length=st.length:=af;have ud:(lD F st).length=st.length:=Lb F st;have RR:((st.length:Int)==(limit:Int))=decide (st.length=limit):=by
   by_cases h:st.length=limit
   .rw[h];simp
   rw[E6 h,lS];omega
  rcases aoJ (oX F (bh M)) (st.map (aX.key F)) 0 with⟨hf,jj,fk⟩|⟨hf,fk⟩
  .rw[hf,aD rfl]at vH;simp only[go_sem,f9,f48,iK,b19,a3,d2,s42,FB pp,mapOf,mapVal,iW,fk,w1,ho];refine hN st _ _ vH ⟨?_,?_,?_,?_,d2,⟨s,hq,gi,by rw[ud];exact d3,d4⟩,d5,ne,lim,alls,BT⟩ ⟨?_,d0,?_,?_,?_,d6⟩;all_goals(simp only[go_sem,f1,f2,f9,f10,f11,f46,f47,f48];first|done|rfl)
  rw[hf]at vH;simp only[dN,if_false]at vH;cases hL:decide (st.length=limit)with
  |true=>rw[aD (qx hL)]at vH;rw[hL]at RR;simp only[go_sem,f1,f9,f10,f48,iK,b19,a3,d2,d3,RR,s42,FB pp,mapOf,mapVal,iW,fk,Qa,w1,ho];have NF:=hX;rw[vH]at NF;refine NF _ _ (by show(1:Nat)≠0;decide) ⟨?_,⟨k,s,hq,gi,by rw[ud];exact d3,d4⟩,d5,ne,alls,BT⟩;simp only[go_sem,f10];first|done|rfl
  |false=>
   rw[au (gZ hL)]at vH;rw[hL]at RR;simp only[go_sem,f1,f9,f10,iK,b19,a3,d2,d3,d4,RR,s42,FB pp,mapOf,mapVal,iW,zc,fk,Qa,ho,s46];refine Xo fun bn bK=>?_;have g2:bn 1344128000=(gM,some (.map false (Et (st.map (aX.key F))++[(.str (oX F (bh M)),[.bool true])]))):=by rw[bK];simp only[aP,if_true];try rfl
   have XY:lD F st≠[]:=by simpa using ne
   have kp:∀i,i≠1344128000->bn i=ao i:=fun i h=>by rw[bK];simp only[aP,au h]
   have k3:=(kp 1344192192 ae).trans d3;have k4:=(kp s (by rcases hq with rfl|rfl<;>decide)).trans d4;have k5:=(kp 512512000 ae).trans d5;have k6:=(kp 1344448192 ae).trans d6;have k0:=(kp 1344256256 ae).trans d0;have k19:=(kp 1344768512 ae).trans b19;have fr3:∀i,¬l5 i->i≠512512000->i∉r0->bn i=b0 i:=fun i h1 h2 h3=>(kp i (sv h1 rfl (.inl rfl))).trans (BT i h1 h2 h3)
   clear bK kp BT;have ue:((([V.one (.aZ 1344192192 gq 0),V.agg [.p (.int .i64 F),.p (dd M),.p (.int .i64 F),.p (cO (jE M)),.p (qf (a.w++[m]))]]:e_).map (jF bn)).flatten)=[1344192192,s]:=by
    have r1:jF bn (.one (.aZ 1344192192 gq 0))=[1344192192,s]:=by rw[Ly k3];simp only[ek,kU,mT,Jc,jG];rw[EG (n:=4) k4,Lx];rfl
    rw[ek,ek,kU,r1];rfl
   have Ko:=alm hq (al:=allow (S.ctx al) 46 [V.one (.aZ 1344192192 gq 0),V.agg [.p (.int .i64 F),.p (dd M),.p (.int .i64 F),.p (cO (jE M)),.p (qf (a.w++[m]))]] bn) (aj:=bn) (gq:=gq) (gi:=gi) (k:=k) (es:=lD F st) (x0:=.int .i64 F) (x1:=dd M) (x2:=.int .i64 F) (x3:=cO (jE M)) (x4:=qf (a.w++[m])) (tM (by rw[ue];simp)) (tM (by rw[ue];simp)) (uE ah) (uE ah) (uE ah) ⟨by rw[ud];exact k3,k4⟩ XY (by rw[ud];omega);rw[a3]at Ko;refine r5 (holds_of (by show al.fQ (List.flatten _)=true;rw[ue];simp only[Ll,IA,ho,o1,yP]) (by show(S.sites 46).all al.fs.contains=true;rw[av3];simp only[nI,qY,ac.a,yP])) Ko fun v3 gR hP=>?_
   obtain⟨rfl,⟨g5,bq3,bs3⟩,Ku⟩:=hP;have m5:=Ku 512512000 ae ae (by rcases hq with rfl|rfl<;>decide);have m6:=Ku 1344448192 ae ae (by rcases hq with rfl|rfl<;>decide);have m0:=Ku 1344256256 ae ae (by rcases hq with rfl|rfl<;>decide);have m2:=Ku 1344128000 ae ae (by rcases hq with rfl|rfl<;>decide);have m19:=Ku 1344768512 ae ae (by rcases hq with rfl|rfl<;>decide);rw[k5]at m5;rw[k6]at m6;rw[k0]at m0;rw[g2]at m2;rw[k19]at m19
   have fr4:∀i,¬l5 i->i≠512512000->i∉r0->gR i=b0 i:=fun i h1 h2 h3=>(Ku i (fun h=>h1 (.inr (.inr (.inl h)))) (sv h1 rfl (.inl rfl)) (hq.no h1)).trans (fr3 i h1 h2 h3);have xe:lD F st++[[.int .i64 F,dd M,.int .i64 F,dd (bh M),qf (a.w++[m])]]=lD F (st++[(⟨M,bh M,a.w++[m]⟩:aX)]):=by simp[aX.ps]
   have KB:Et (st.map (aX.key F))++[(.str (oX F (bh M)),[.bool true])]=Et ((st++[(⟨M,bh M,a.w++[m]⟩:aX)]).map (aX.key F)):=by simp[aX.key]
   have XP:(st++[(⟨M,bh M,a.w++[m]⟩:aX)]).length=st.length+1:=af;have Ck:(st++[(⟨M,bh M,a.w++[m]⟩:aX)])≠[]:=af;have hL2:=gZ hL;have dz:∀x∈st++[(⟨M,bh M,a.w++[m]⟩:aX)],uA F L0 (st++[(⟨M,bh M,a.w++[m]⟩:aX)]).length x:=fun x hx=>by
    rw[XP];rcases eO.1 hx with h|h
    .exact(alls x h).mono aa
    rw[lI.1 h];refine⟨uR,rfl,vU,fun y hy=>?_,by show(a.w++[m]).length<=_;rw[fS];simp only[dI,fe];omega,apA.trans ha.same⟩;rcases eO.1 hy with h|h
    .exact ha.kind y h
    rw[lI.1 h];exact R6.1
   cases sb with
   |false=>
    have f2:aF 2=.one (.p (.fn 22 [] [])):=f2;have hq3:BG 2944064448 gq g5 (lD F (st++[(⟨M,bh M,a.w++[m]⟩:aX)])) k gR:=by rw[<-xe];exact⟨bq3,bs3⟩
    rw[KB]at m2;clear Ko ue;rw[Bool.false_and]at vH;simp only[dN,if_false]at vH;simp only[go_sem,f2,f48,iK,m19,w1,ho,s22,FB (awK _ _ _ _ _)];refine hN _ _ _ vH ⟨?_,?_,?_,?_,m2,⟨_,.inr rfl,g5,hq3⟩,m5,Ck,by rw[XP];omega,dz,fr4⟩ ⟨?_,m0,?_,?_,?_,m6⟩;all_goals(simp only[go_sem,f1,f2,f9,f10,f11,f46,f47,f48];first|done|rfl)
   |true=>
    have pr:=aiz uR;have o2:=ac.v rfl;have f2:aF 2=.one (.hfn 26 [] [.aZ 512512000 gv 0]):=f2;have m5:gR 512512000=(gv,some (.var [.p (.bool false)])):=m5;simp only[go_sem,f2,iK,m19,ho,s26];have HY:((([V.agg [.p (.int .i64 F),.p (dd M),.p (.int .i64 F),.p (cO (jE M)),.p (qf (a.w++[m]))],V.one (.aZ 512512000 gv 0)]:e_).map (jF gR)).flatten)=[512512000]:=by
     have r1:jF gR (.one (.aZ 512512000 gv 0))=[512512000]:=by rw[Ly m5];rfl
     rw[ek,ek,kU,r1];rfl
    have cV:=awL (al:=allow (S.ctx al) 26 [V.agg [.p (.int .i64 F),.p (dd M),.p (.int .i64 F),.p (cO (jE M)),.p (qf (a.w++[m]))],V.one (.aZ 512512000 gv 0)] gR) (aj:=gR) (gv:=gv) (F:=F) (L:=M) (x2:=.int .i64 F) (x3:=cO (jE M)) (x4:=qf (a.w++[m])) (b0:=false) pr.1 (tM (by rw[HY];simp)) (uE ah) (uE ah) m5;refine r5 (holds_of (by show al.fQ (List.flatten _)=true;rw[HY];simp only[Ll,IA,o2,yP]) (by show(S.sites 26).all al.fs.contains=true;rw[av4];simp only[nI,qY,ac.s rfl,yP])) cV fun v4 iR hP=>?_
    obtain⟨rfl,bv4,Kv⟩:=hP;have n0:=(Kv 1344256256 ae ae).trans m0;have n2:=(Kv 1344128000 ae ae).trans m2;have n3:=(Kv 1344192192 ae ae).trans bq3;have n4:=(Kv 2944064448 ae ae).trans bs3;have n6:=(Kv 1344448192 ae ae).trans m6;have fr5:∀i,¬l5 i->i≠512512000->i∉r0->iR i=b0 i:=fun i h1 h2 h3=>(Kv i (fun h=>h1 (.inr (.inr (.inr h)))) h2).trans (fr4 i h1 h2 h3);have hq3:BG 2944064448 gq g5 (lD F (st++[(⟨M,bh M,a.w++[m]⟩:aX)])) k iR:=by rw[<-xe];exact⟨n3,n4⟩
    rw[KB]at n2;clear Ko cV pr HY ue;cases hb:(tD F M).2 with
    |true=>rw[hb,Df,aD rfl]at vH;rw[hb]at bv4;have NF:=hX;rw[vH]at NF;simp only[go_sem,f48];refine NF _ _ (by show(2:Nat)≠0;decide) ⟨?_,⟨k,_,.inr rfl,g5,hq3⟩,bv4,Ck,dz,fr5⟩;simp only[go_sem,f10];first|done|rfl
    |false=>rw[hb]at vH bv4;simp only[Df,dN,if_false]at vH;simp only[go_sem,f48,w1];refine hN _ _ _ vH ⟨?_,?_,?_,?_,n2,⟨_,.inr rfl,g5,hq3⟩,bv4,Ck,by rw[XP];omega,dz,fr5⟩ ⟨?_,n0,?_,?_,?_,n6⟩;all_goals(simp only[go_sem,f1,f2,f9,f10,f11,f46,f47,f48];first|done|rfl)
section
variable{limit:Nat}
def Dq{sb:Bool}{F:Nat}{a:aX}{st:j_}{m:aS}{r:g_}:gO sb F limit a st (m::r)=if(jm sb F limit a st m).1=0 then gO sb F limit a (jm sb F limit a st m).2 r else jm sb F limit a st m:=rfl
def amV{sb:Bool}{al:Al}(ac:wI sb al)(cS:rm){F limit:Nat}{L0:ai}{gv gq gM ga gg:Nat}{z:Nat×Option Ob}{r0:a_}{b0:aC}{a:aX}{ms:g_}{wy:j_}{k:Nat}{ak:Env}{aj:aC}{Q:dX}(kK:limit<=20000)(j8:ms.length<=8000)(uV:∀m∈ms,qT F a.c Bq m)(ha:uA F L0 wy.length a)
  (hI:xR sb F limit L0 gv z r0 b0 gq gM wy k ak aj) (hR:RdC a F ms ga gg 0 ak aj)
  (hN:∀mv (aF:Env) (ao:aC),gO sb F limit a wy ms=(0,mv)->xR sb F limit L0 gv z r0 b0 gq gM mv k aF ao->wy.length<=mv.length->Q .normal aF ao)
  (hX:∀(aF:Env) (ao:aC),(gO sb F limit a wy ms).1≠0->EdC sb F L0 gv z r0 b0 (gO sb F limit a wy ms) gq aF ao->Q (.exit 0) aF ao):W S al (.loop i21_l1) (mY 2 Q) ak aj:=by
 refine dD (fun j ak aj=>∃st,xR sb F limit L0 gv z r0 b0 gq gM st k ak aj/\RdC a F ms ga gg j ak aj/\gO sb F limit a st (ms.drop j)=gO sb F limit a wy ms/\wy.length<=st.length) 0 ms.length (bR _) ⟨wy,hI,hR,by rw[PO],bY _⟩ ?_;rintro j ak aj hj ⟨st,hI,hR,hA,hle⟩
 by_cases aA:j<ms.length
 .obtain⟨m,hm⟩:=aL aA;have hd:=QM hm;rw[hd,Dq]at hA;have NI:=ha.mono hle;have ay:=uV m (aV hm);have n1:∀mv (aF:Env) (ao:aC),jm sb F limit a st m=(0,mv)->xR sb F limit L0 gv z r0 b0 gq gM mv k aF ao->RdC a F ms ga gg (j+1) aF ao->Lg ms.length (fun j ak aj=>∃st,xR sb F limit L0 gv z r0 b0 gq gM st k ak aj/\RdC a F ms ga gg j ak aj/\gO sb F limit a st (ms.drop j)=gO sb F limit a wy ms/\wy.length<=st.length) j (mY 2 Q) .normal aF ao:=by
   intro mv aF ao e h1 h2;rw[e]at hA;simp only[if_true]at hA;have ti:st.length<=mv.length:=by
    have:(jm sb F limit a st m).2=mv:=by rw[e]
    rw[<-this];unfold jm;split
    .exact bY _
    split
    .exact bY _
    simp
   exact⟨aA,mv,h1,h2,hA,aa⟩
  have n2:∀(aF:Env) (ao:aC),(jm sb F limit a st m).1≠0->EdC sb F L0 gv z r0 b0 (jm sb F limit a st m) gq aF ao->Lg ms.length (fun j ak aj=>∃st,xR sb F limit L0 gv z r0 b0 gq gM st k ak aj/\RdC a F ms ga gg j ak aj/\gO sb F limit a st (ms.drop j)=gO sb F limit a wy ms/\wy.length<=st.length) j (mY 2 Q) (.exit 0) aF ao:=by intro aF ao e h;rw[au e]at hA;rw[hA]at e h;exact hX aF ao e h
  obtain⟨s,hs,gi,hq⟩:=hI.que;exact round hs ac cS kK j8 hm ay NI hI hq hR n1 n2
 have Oc:j=ms.length:=aa;subst Oc;rw[Mc]at hA;have hA:(0,st)=gO sb F limit a wy ms:=hA;obtain⟨ie,bA,NB,Kk,zu,bV⟩:=hR;obtain⟨e1,e2,e9,rY,bM,que,bv,ne,lim,alls,fr⟩:=hI;simp only[go_sem,i21_l1,Kk,zu,eS];refine hN st _ _ hA.symm ⟨?_,?_,?_,?_,bM,que,bv,ne,lim,alls,fr⟩ hle;all_goals(simp only[go_sem,e1,e2,e9,rY];first|done|rfl)
def clP(sb:Bool)(F limit:Nat)(L0:ai)(gv:Nat)(z:Nat×Option Ob)(r0:a_)(b0:aC)(r:Nat×j_)(v:V)(ao:aC):Prop:=∃s g,v=.tup [.one (.hsl s g 5 0 r.2.length),vb (r.1==0)]/\l5 s/\ao s=(g,some (.arr Is 5 (lD F r.2)))/\ao 512512000=bzE sb gv z (r.1==2)/\r.2≠[]/\(∀m∈r.2,uA F L0 r.2.length m)/\ ∀i,¬l5 i->i≠512512000->i∉r0->ao i=b0 i
def JA{sb:Bool}{F f k:Nat}{st:j_}{a:aX}(h:st[k]?=some a):jS sb F limit (f+1) k st=if(gO sb F limit a st (iX F a.c)).1=0 then jS sb F limit f (k+1) (gO sb F limit a st (iX F a.c)).2 else gO sb F limit a st (iX F a.c):=by show(match st[k]? with|none=>(0,st)|some a=>_)=_;rw[h]
def abv{sb:Bool}{F f k:Nat}{st:j_}(h:st[k]?=none):jS sb F limit (f+1) k st=(0,st):=by show(match st[k]? with|none=>(0,st)|some a=>_)=_;rw[h]
def asC{F:Nat}{st:j_}{k:Nat}{e:b_}(h:(lD F st)[k]?=some e):∃a,st[k]?=some a/\e=a.ps F:=by
 rw[fG]at h;cases hs:st[k]? with
 |none=>rw[hs]at h;cases h
 |some a=>rw[hs]at h;cases h;exact⟨a,rfl,rfl⟩
def out{sb:Bool}{al:Al}{s:Nat}(hq:xr s)(ac:wI sb al)(cS:rm){F limit:Nat}{L0:ai}{gv gq gM gi:Nat}{z:Nat×Option Ob}{r0:a_}{b0:aC}{st:j_}{k:Nat}{ak:Env}{aj:aC}{Q:dX}(kK:limit<=20000)
  (hI:xR sb F limit L0 gv z r0 b0 gq gM st k ak aj) (que:BG s gq gi (lD F st) k aj) (hk:k<=st.length)
  (hE:∀(aF:Env) (ao:aC),k=st.length->aF 6=.one (.hsl s gi 5 0 st.length)->aF 7=vb true->ao s=(gi,some (.arr Is 5 (lD F st)))->ao 512512000=bzE sb gv z false->(∀i,¬l5 i->i≠512512000->i∉r0->ao i=b0 i)->Q .ret aF ao)
  (hN:∀a mv (aF:Env) (ao:aC),st[k]?=some a->gO sb F limit a st (iX F a.c)=(0,mv)->xR sb F limit L0 gv z r0 b0 gq gM mv (k+1) aF ao->st.length<=mv.length->Q .normal aF ao)
  (hX:∀a (aF:Env) (ao:aC),st[k]?=some a->(gO sb F limit a st (iX F a.c)).1≠0->EdC sb F L0 gv z r0 b0 (gO sb F limit a st (iX F a.c)) gq aF ao->Q (.exit 0) aF ao):W S al i21_l2 Q ak aj:=by
  have hI0:=hI;obtain⟨e1,e2,e9,rY,bM,_,bv,ne,lim,alls,fr⟩:=hI;obtain⟨bq,bs⟩:=que;have ho:=ac.fQ;have o1:=hq.ok ac;have xf:=hq.ne;have ud:(lD F st).length=st.length:=Lb F st;have ue:((([V.one (.aZ 1344192192 gq 0)]:e_).map (jF aj)).flatten)=[1344192192,s]:=by
   have r1:jF aj (.one (.aZ 1344192192 gq 0))=[1344192192,s]:=by rw[Ly bq];simp only[ek,kU,mT,Jc,jG];rw[EG (n:=4) bs,Lx];rfl
   rw[ek,kU,r1];rfl
  have ny:=awW hq (al:=allow (S.ctx al) 43 [V.one (.aZ 1344192192 gq 0)] aj) (aj:=aj) (gq:=gq) (gi:=gi) (k:=k) (es:=lD F st) (tM (by rw[ue];simp)) (tM (by rw[ue];simp)) (uE ah) (uE ah) ⟨bq,bs⟩ (asB F st) (by rw[ud];omega) (by rw[ud];exact hk);simp only[go_sem,i21_l2,rY,s43];refine r5 (holds_of (by show al.fQ (List.flatten _)=true;rw[ue];simp only[Ll,IA,ho,o1,yP]) (by show(S.sites 43).all al.fs.contains=true;rw[av5];simp only[nI,qY,ac.t,yP])) ny fun v1 cF hP=>?_;rcases hP with⟨Ef,rfl,hf⟩|⟨e,he,rfl,⟨bq1,bs1⟩,hf⟩
  .have c3:=(hf 1344192192 ae).trans bq;have c4:=(hf s (by rcases hq with rfl|rfl<;>decide)).trans bs;have c5:=(hf 512512000 ae).trans bv;simp only[go_sem,rY,c3,ho];refine hE _ _ (by rw[ud]at Ef;exact Ef) ?_ ?_ ?_ ?_ fun i h1 h2 h3=>?_
   .simp only[go_sem];first|done|rfl
   .simp only[go_sem];first|done|rfl
   .simp only[aP,if_false,xf];exact c4
   .simp only[aP,Nat.reduceEqDiff,if_false];exact c5
   have n1:i≠1344256256:=sv h1 rfl (.inl rfl);simp only[aP,au n1];exact(hf i (fun h=>h1 (.inr (.inl h)))).trans (fr i h1 h2 h3)
  obtain⟨a,Rs,rfl⟩:=asC he;have ha:=alls a (aV Rs);obtain⟨⟨j8,uV⟩,ps⟩:=YM ha.chk;have ps':aK S 7 [.agg [.p (.int .i64 F),.p (dd a.c)],.one (.p (.sl [[.int .i64 3],[.int .i64 8]]))] (.tup [.one (aW fD 7 (mP (iX F a.c))),.one (.p (.int .i64 0))]):=ps;have c2:=(hf 1344128000 ae ae).trans bM;have c5:=(hf 512512000 ae ae).trans bv;have nW:S.lone 1344448192=false:=ah;have Kc:∀i,¬l5 i->i≠512512000->i∉r0->cF i=b0 i:=fun i h1 h2 h3=>(hf i (fun h=>h1 (.inr (.inl h))) (sv h1 rfl (.inl rfl))).trans (fr i h1 h2 h3);simp only[go_sem,aX.ps,ho,s7];refine apb (fun i hi=>?_) ps' nW (Tg _) rfl fun cc bn gc bK=>?_
  .simp only[bJ,eo,or_false]at hi;rcases hi with rfl|rfl
   .exact ac.c _ rfl
   exact ac.c _ rfl
  have d0:=bK 1344256256 ae;have d2:=bK 1344128000 ae;have d3:=bK 1344192192 ae;have d4:=bK s (by rcases hq with rfl|rfl<;>decide);have d5:=bK 512512000 ae;simp only[go_sem,c2,bq1,bs1,c5,xf]at d0 d2 d3 d4 d5;have BT:∀i,¬l5 i->i≠512512000->i∉r0->bn i=b0 i:=fun i h1 h2 h3=>by have n1:i≠1344256256:=sv h1 rfl (.inl rfl);have n2:i≠1344448128:=sv h1 rfl (.inl rfl);rw[bK i (sv h1 rfl (.inl rfl))];simp only[aP,au n1,au n2];exact Kc i h1 h2 h3
  rcases gc with⟨em,e⟩|⟨_,gg,e,bV⟩
  .cases e;have pP:iX F a.c=[]:=by simpa [mP]using em
   simp only[go_sem];refine sK ?_;simp only[go_sem,i21_l1,zz];refine hN a st _ _ Rs (by rw[pP];rfl) ⟨?_,?_,?_,?_,d2,⟨s,hq,gi,by rw[ud];exact d3,d4⟩,d5,ne,lim,alls,BT⟩ (bY _);all_goals(simp only[go_sem,e1,e2,e9,rY];first|done|rfl)
  cases e;have aql:(mP (iX F a.c)).length=(iX F a.c).length:=qe _;simp only[go_sem,aql];refine amV ac cS (F:=F) (L0:=L0) (a:=a) (ms:=iX F a.c) (wy:=st) (k:=k+1) (ga:=(cF 1344256256).1+1) (gg:=gg) (gq:=gq) (gM:=gM) (gv:=gv) (z:=z) (r0:=r0) (b0:=b0) kK j8 uV ha ⟨?_,?_,?_,?_,d2,⟨s,hq,gi,by rw[ud];exact d3,d4⟩,d5,ne,lim,alls,BT⟩ ⟨?_,d0,?_,?_,?_,bV⟩ (fun mv aF ao h1 h2 h3=>hN a mv aF ao Rs h1 h2 h3) (fun aF ao h1 h2=>hX a aF ao Rs h1 h2);all_goals(simp only[go_sem,e1,e2,e9,rY];first|done|rfl)
def akR{al:Al}{Q:dX}{ak:Env}{aj:aC}{os:h_}(h:∀b,b=aj->RN S al os Q ak b):RN S al os Q ak aj:=h _ rfl
noncomputable def dU (sb:Bool) (F limit:Nat) (L0:ai):Nat×j_:=jS sb F limit (limit+1) 0 [⟨L0,bh L0,[]⟩]
def Qz{sb:Bool}{al:Al}(ac:wI sb al)(cS:rm){F:Nat}{L0:ai}{gv:Nat}{z:Nat×Option Ob}{c0:C}{r0:a_}{aj:aC}(iC:1<=limit)(kK:limit<=20000)(h0:cG (F:Int) L0=0)(hc0:∀B:aC,(∀i∈r0,B i=aj i)->snap B gG c0=some (dd L0,r0))(vT:pG aj r0)(Ov:∀i∈r0,al.ok i=true/\ ¬l5 i/\i≠512512000)(bv:aj 512512000=bzE sb gv z false):
  ∃v ao,jg S 21 [.agg [.p (.int .i64 F),c0],vi limit,Gw sb gv] al aj v ao/\clP sb F limit L0 gv z r0 aj (dU sb F limit L0) v ao:=by
 have ho:=ac.fQ;have hF:=UG h0;have vO:=G9 h0;have pm:=YS cS (F:=F) (L:=L0) [] aa h0;have Lt:aK S 41 [.agg [.p (.int .i64 F),.p (dd L0)],.one (.p (.sl []))] (.agg [.p (.int .i64 F),.p (dd L0),.p (.int .i64 F),.p (cO (jE L0)),.p (.sl [])]):=pm;clear pm;have a3:(cO (jE L0)).norm=dd (bh L0):=Qx (jE L0);have pp:=air (F:=(F:Int)) (L:=bh L0) ⟨aa,aa⟩ (by have:=Ze L0;omega) (ajh (wg h0));have nv:snap (eh aj 1344000000 ((aj 1344000000).1+1,some (.var [.p (.int .i64 F),c0]))) gG c0=some (dd L0,r0):=hc0 _ fun i hi=>by rw[aP,au];intro e;exact(Ov i hi).2.1 (.inl (by rw[e];rfl))
 refine nL c21 (iH rfl) ?_;simp only[go_sem,i21,ho,nv,s41];have hV0:512512000∉r0:=fun h=>(Ov _ h).2.2 rfl;have afx:pG (eh aj 1344000000 ((aj 1344000000).1+1,some (.var [.p (.int .i64 F),c0]))) r0:=fun i hi=>by
  obtain⟨g,ty,z,es,h⟩:=vT i hi;refine⟨g,ty,z,es,?_⟩;rw[aP,au]
  .exact h
  intro e;exact(Ov i hi).2.1 (.inl (by rw[e];rfl))
 obtain⟨u,hu,vV,xl,_⟩:=YA (aj:=eh aj 1344000000 ((aj 1344000000).1+1,some (.var [.p (.int .i64 F),c0]))) (s:=1344064064) (rd:=r0) (x0:=.int .i64 F) (x1:=dd L0) (x2:=.int .i64 F) (x3:=cO (jE L0)) (x4:=.sl []) (l:=S.lone 1344064064) afx;rw[Nr Lt hu];refine⟨Ey fun i hi=>?_,?_⟩
 .rcases eO.1 hi with h|h
  .exact(Ov i h).1
  exact(Ov i (xl i h)).1
 refine akR fun cF dE=>?_;have bv1:cF 512512000=bzE sb gv z false:=by rw[dE,vV _ hV0];simp only[aP,Nat.reduceEqDiff,if_false];exact bv
 have Kc:∀i,¬l5 i->i≠512512000->i∉r0->cF i=aj i:=fun i h1 h2 h3=>by have n1:i≠1344000000:=sv h1 rfl (.inl rfl);rw[dE,vV i h3];simp only[aP,au n1]
 clear dE hu vV xl afx nv;have hg0:uA F L0 1 ⟨L0,bh L0,[]⟩:=⟨h0,rfl,rfl,(fun x hx=>by cases hx),af,rfl⟩;simp only[go_sem,ho,a3,s42,FB pp,iW,zc,qF];refine dD (fun k ak b=>∃st gq gM,xR sb F limit L0 gv z r0 aj gq gM st k ak b/\k<=st.length/\jS sb F limit (limit+1-k) k st=dU sb F limit L0) 0 limit (bR _) ?_ ?_
 .refine⟨[⟨L0,bh L0,[]⟩],(cF 1344192192).1+1,(cF 1344128000).1+1,⟨?_,?_,?_,?_,?_,⟨_,.inl rfl,(cF 1344192064).1+1,?_,?_⟩,?_,af,iC,fun m hm=>?_,fun i h1 h2 h3=>?_⟩,bR _,rfl⟩
  .simp only[go_sem];first|done|rfl
  .simp only[go_sem];first|done|rfl
  .simp only[go_sem];first|done|rfl
  .simp only[go_sem];first|done|rfl
  .simp only[aP,Nat.reduceEqDiff,if_true,if_false];rfl
  .simp only[aP,Nat.reduceEqDiff,if_true,if_false];rfl
  .simp only[aP,Nat.reduceEqDiff,if_true,if_false];rfl
  .simp only[aP,Nat.reduceEqDiff,if_false];exact bv1
  .rw[lI.1 hm];exact hg0
  have n1:i≠1344064128:=sv h1 rfl (.inl rfl);have n2:i≠1344128000:=sv h1 rfl (.inl rfl);have n3:i≠1344192064:=sv h1 rfl (.inl rfl);have n4:i≠1344192192:=sv h1 rfl (.inl rfl);simp only[aP,au n1,au n2,au n3,au n4];exact Kc i h1 h2 h3
 rintro k ak b hk ⟨st,gq,gM,hI,KB,hB⟩
 have hlim:=hI.lim;have aH:=hI.ne;have apG:=hI.all;have hf:limit+1-k=(limit-k)+1:=aa;rw[hf]at hB;have ret:∀(s gi:Nat) (aF:Env) (ao:aC),l5 s->k=st.length->aF 6=.one (.hsl s gi 5 0 st.length)->aF 7=vb true->ao s=(gi,some (.arr Is 5 (lD F st)))->ao 512512000=bzE sb gv z false->(∀i,¬l5 i->i≠512512000->i∉r0->ao i=aj i)->clP sb F limit L0 gv z r0 aj (dU sb F limit L0) (.tup [aF 6,aF 7]) ao:=by intro s gi aF ao hs Ef h6 h7 hb BZ lW;rw[abv (n9 aa)]at hB;rw[<-hB,h6,h7];exact⟨s,gi,rfl,hs,hb,BZ,aH,apG,lW⟩
 have hN:∀a mv (aF:Env) (ao:aC),st[k]?=some a->gO sb F limit a st (iX F a.c)=(0,mv)->xR sb F limit L0 gv z r0 aj gq gM mv (k+1) aF ao->st.length<=mv.length->k<limit/\ ∃st gq gM,xR sb F limit L0 gv z r0 aj gq gM st (k+1) aF ao/\k+1<=st.length/\jS sb F limit (limit+1-(k+1)) (k+1) st=dU sb F limit L0:=by intro a mv aF ao ha he h hl;have aA:=(aT.1 ha).1;rw[JA ha,he]at hB;simp only[if_true]at hB;exact⟨aa,mv,gq,gM,h,aa,by rw[show limit+1-(k+1)=limit-k by omega];exact hB⟩
 have hX:∀a (aF:Env) (ao:aC),st[k]?=some a->(gO sb F limit a st (iX F a.c)).1≠0->EdC sb F L0 gv z r0 aj (gO sb F limit a st (iX F a.c)) gq aF ao->W S al i21_r3 (oJ al i21.results (clP sb F limit L0 gv z r0 aj (dU sb F limit L0))) aF ao:=by intro a aF ao ha he h;rw[JA ha,au he]at hB;rw[hB]at he h;generalize dU sb F limit L0=r at*;have vT:(r.1==0)=false:=lS.2 he;obtain⟨rY,⟨k',s,hs,gi,hq,hb⟩,BZ,hn,dz,lW⟩:=h;simp only[go_sem,i21_r3,i21,rY,hq,ho];exact⟨_,gi,by rw[vT],hs.own,hb,BZ,hn,dz,lW⟩
 obtain⟨s,hs,gi,hq⟩:=hI.que;refine out hs ac cS kK hI hq KB (fun aF ao h1 h6 h7 hb BZ lW=>?_) (fun a mv aF ao h1 h2 h3 h4=>hN a mv aF ao h1 h2 h3 h4) (fun a aF ao h1 h2 h3=>hX a aF ao h1 h2 h3);have:=ret _ _ aF ao hs.own h1 h6 h7 hb BZ lW;rw[h6,h7]at this;simp only[go_sem,h6,h7];exact this
end
def ZB(F:Nat)(L:ai)(q:g_×ai):Prop:=Dn F L q.1 q.2/\Ix F q.2/\ ∃r,ZC F L q.1 q.2 r/\aK S 25 [ez F L] r
open Classical in
noncomputable def sG (F:Nat) (L:ai):g_×ai:=if h:∃q,ZB F L q then Classical.choose h else([],[])
def ZA{F:Nat}{L:ai}(h:cG (F:Int) L=0):ZB F L (sG F L):=by
 have he:∃q,ZB F L q:=by obtain⟨r,⟨ms,M,h1,h2,h3⟩,h4⟩:=auJ h (G9 h);exact⟨(ms,M),h1,h2,r,h3,h4⟩
 unfold sG;rw[dif_pos he];exact Classical.choose_spec he
def Ip(l:j_):aX:=l.getLast?.getD ⟨[],[],[]⟩
noncomputable def zb (F:Nat) (l:j_):aX:=(l[(nX F (l.map aX.n) l.length).toNat]?).getD ⟨[],[],[]⟩
def aiI{F:Nat}:∀ {a b:g_}{L K:ai},rO F L a=some K->rO F L (a++b)=rO F K b:=by
 intro a
 induction a with
 |nil=>intro b L K h;cases h;rfl
 |cons m r ih=>
  intro b L K h;show(match fg F L m with|none=>none|some L=>rO F L (r++b))=_;have h:(match fg F L m with|none=>none|some L=>rO F L r)=some K:=h;cases ha:fg F L m with
  |none=>rw[ha]at h;cases h
  |some J=>rw[ha]at h;exact ih h
structure Az (F:Nat) (N:ai) (b:Nat) (a:ai) (p:g_):Prop where
 chk:cG (F:Int) a=0
 rep:rO F N p=some a
 kind:∀m∈p,k5 m.k
 len:p.length+a.length<=N.length+b
def Az.red{F:Nat}{N a:ai}{b:Nat}{p:g_}(h:Az F N b a p):Az F N b (sG F a).2 (p++(sG F a).1):=by
 obtain⟨r,_,_⟩:=ZA h.chk;refine⟨r.chk,by rw[aiI h.rep];exact r.rep,fun m hm=>?_,?_⟩
 .rcases eO.1 hm with h1|h1
  .exact h.kind m h1
  have:=r.kind m h1;simp only[bJ,eo,or_false]at this;unfold k5;omega
 have:=r.len;have:=h.len;rw[fS];omega
def Az.mem{F:Nat}{N a:ai}{b n:Nat}{p:g_}{m:aX}(h:Az F N b a p)(hm:uA F a n m):Az F N (b+n) m.c (p++m.w):=by
 refine⟨hm.chk,by rw[aiI h.rep];exact hm.rep,fun x hx=>?_,?_⟩
 .rcases eO.1 hx with h1|h1
  .exact h.kind x h1
  have:=hm.kind x h1;simp only[bJ,eo,or_false]at this;unfold k5;omega
 have:=hm.len;have:=hm.same;have:=h.len;rw[fS];omega
section
variable{F limit:Nat}
def SN{s o:Nat}(h:l5 s)(e:jw o=8):¬s=o:=by
 rintro rfl
 unfold l5 at h;rw[e]at h;revert h;decide
def Zj{s:Nat}(h:l5 s):¬s=512000000/\ ¬s=512000064/\ ¬s=512256320/\ ¬s=512320000/\ ¬s=512384320/\ ¬s=512448192/\ ¬s=512512000/\ ¬s=512640384/\ ¬s=512832256/\ ¬s=513088128/\ ¬s=513152192/\ ¬s=513152256/\ ¬s=513280320/\ ¬s=513344384:=by
 repeat' apply And.intro
 all_goals exact SN h rfl
abbrev xv(F:Nat)(x:ai×g_×Bool):RV:=.tup [.agg [.p (.int .i64 F),.p (dd x.1),aW fD 7 (mP x.2.1),.p (.bool x.2.2)],.one (.p (.int .i64 0))]
def atk{s1 t1 z1:Nat}{es:s_}{c:C}{x y w u:PV}{aj:aC}(h:grown s1 t1 z1 es (.one c) aj):jk aj (.tup [.agg [.p x,.p y,c,.p w],.one (.p u)])=some (.tup [.agg [.p x,.p y,aW t1 z1 es,.p w],.one (.p u)]):=by obtain⟨c',o,hc,h2,h3⟩:=h.jW;cases hc;have e1:∀v:PV,jW aj (.p v)=some (.p v,[],[]):=fun _=>rfl;rcases h3 with rfl|rfl<;>simp[jk,tW,vE,oL,nC,h2,e1,apart,wx,tE,Bw]
structure MkC (F:Nat) (st:j_) (p:g_) (wh:Bool) (s g:Nat) (ak:Env) (aj:aC):Prop where
 e4:ak 4=.one (.aZ 512000064 1 0)
 e9:ak 9=.one (.aZ 512320000 1 0)
 Fv:ak 13=.one (.hsl s g 5 0 st.length)
 Hk:ak 14=vb wh
 y9:∃c0 c1 c2 c3,aj 512000064=(1,some (.var [c0,c1,c2,c3]))
 bf:∃pc,aj 512320000=(1,some (.var [.p (.int .i64 0),.p .nils,pc,.p (.bool false)]))/\grown 512448192 fD 7 (mP p) (.one pc) aj
 bs:aj s=(g,some (.arr Is 5 (lD F st)))
def asL{st:j_}{p:g_}{wh:Bool}{s g:Nat}{ak:Env}{aj:aC}{fc:C}(hs:l5 s)(cV:st≠[])(hl:st.length<=100000)(hp:p.length<=100000000)(hw:∀m∈st,m.w.length<=100000)(hn:∀m∈st,m.n.length<=1000000)(h:MkC F st p wh s g ak aj)(Fw:ak 16=.one fc)(gf:grown 513152256 wN 2 (sN F (st.map aX.n)) (.one fc) aj):
  W S .all i8_r2 (oJ .all i8.results fun v aj=>jk aj v=some (xv F ((zb F st).n,p++(zb F st).w,wh))) ak aj:=by
 obtain⟨e4,e9,Fv,Hk,⟨c0,c1,c2,c3,y9⟩,⟨pc,bf,gp⟩,bs⟩:=h;have xf:=Zj hs;have aH:1<=st.length:=jl.2 cV;have pl:=agS F (st.map aX.n) (by rw[cE];omega) (fun L hL=>by obtain⟨m,hm,rfl⟩:=cJ.1 hL;exact hn m hm)
 have Kq:zb F st=(st[(nX F (st.map aX.n) st.length).toNat]?).getD ⟨[],[],[]⟩:=rfl;rw[cE]at pl;rcases Sy F (st.map aX.n) st.length with⟨h0,_⟩|⟨pM,jh⟩
 .omega
 obtain⟨b,hb⟩:=tJ pM;rw[hb]at pl jh Kq;rw[qu]at Kq;have sY:b<st.length:=aa;obtain⟨m,hm⟩:=aL sY;rw[hm]at Kq;have Kq:zb F st=m:=Kq;rw[Kq];have Oi:(lD F st)[b]?=some (m.ps F):=by rw[fG,hm];rfl
 have j8:(lD F st).length=st.length:=Lb F st;have hwm:=hw m (aV hm);obtain⟨rd,nv,_⟩:=gf.gG;simp only[go_sem,i8_r2,i8,e9,Fv,Fw,nv,s10,eW pl,bs,sY,Oi,aX.ps];simp only[go_sem,bf];refine BO (site:=513344384) (id:=512448192) (xs:=mP m.w) (rd:=[]) (gp.of_eq (by simp only[aP,Nat.reduceEqDiff,if_false])) rfl (.inr (szM _)) (by simp only[qe];omega) fun c' gR r1 u1 g1 ig ke=>?_;have d1:=ig 512320000 ae ae;have d2:=ig 512000064 ae ae;simp only[go_sem,bf,y9]at d1 d2;simp only[go_sem,e4,e9,Hk,d1,d2];rw[show mP p++mP m.w=mP (p++m.w) by simp[mP]]at g1;refine⟨?_,?_⟩
 .rcases ke with⟨rfl,rfl⟩|⟨rfl,rfl⟩|⟨rfl,rfl⟩<;>kernel_rfl
 first
  |exact atk (g1.of_eq (by simp only[aP,Nat.reduceEqDiff,if_false]))
  |trace_state
def ahl{st:j_}{j:Nat}{m:aX}(h:st[j]?=some m):sN F ((st.map aX.n).take (j+1))=sN F ((st.map aX.n).take j)++[[.int .i64 F,dd m.n]]:=by
 have h2:(st.map aX.n)[j]?=some m.n:=by rw[fG,h];rfl
 obtain⟨hl,e⟩:=aT.1 h2;rw[<-List.take_append_getElem hl,e];exact kS
def asM{st:j_}{p:g_}{wh:Bool}{s g:Nat}{ak:Env}{aj:aC}(hs:l5 s)(cV:st≠[])(hl:st.length<=100000)(hp:p.length<=100000000)(hw:∀m∈st,m.w.length<=100000)(hn:∀m∈st,m.n.length<=1000000)(h:MkC F st p wh s g ak aj)(Fw:ak 16=.one (.p .nils))(e64:ak 64=.one (.hsl s g 5 0 st.length))(M5:ak 65=vi st.length)(M6:ak 66=vi 0):
  W S .all (.loop i8_l1) (mY 2 (Ai S .all i8_r2 (oJ .all i8.results fun v aj=>jk aj v=some (xv F ((zb F st).n,p++(zb F st).w,wh))))) ak aj:=by
 have xf:=Zj hs;refine dD (fun j ak aj=>MkC F st p wh s g ak aj/\ak 64=.one (.hsl s g 5 0 st.length)/\ak 65=vi st.length/\ak 66=vi j/\ ∃fc,ak 16=.one fc/\grown 513152256 wN 2 (sN F ((st.map aX.n).take j)) (.one fc) aj) 0 st.length (bR _) ⟨h,e64,M5,M6,_,Fw,grown.nil⟩ ?_;rintro j ak aj hj ⟨h,e64,M5,M6,fc,Fw,gf⟩
 by_cases aA:j<st.length
 .obtain⟨e4,e9,Fv,Hk,⟨c0,c1,c2,c3,y9⟩,⟨pc,bf,gp⟩,bs⟩:=h;have aM:((j:Int)<(st.length:Int)):=aa;obtain⟨m,hm⟩:=aL aA;have Oi:(lD F st)[j]?=some (m.ps F):=by rw[fG,hm];rfl
  have j8:(lD F st).length=st.length:=Lb F st;have w1:=cU (n:=j) aa;simp only[go_sem,i8_l1,Fw,e64,M5,M6,aA,aM,bs,Oi,aX.ps];refine uO (site:=513152256) (id:=513152256) (bytes:=32) (xs:=[[.int .i64 F,dd m.n]]) (rd:=[513152192]) (gf.of_eq (by simp only[aP,Nat.reduceEqDiff,if_false])) (by simp[fN,aP]) (.inl rfl) (by simp only[cE,iz,dI,fe];omega) fun c' gR g1 ig=>?_
  have d1:=ig 512320000 ae ae;have d2:=ig 512000064 ae ae;have d3:=ig 512448192 ae ae;have d4:=ig s (SN hs rfl) (SN hs rfl);simp only[go_sem,bf,y9,bs,xf]at d1 d2 d3 d4;rw[<-ahl hm]at g1;simp only[go_sem,Fw,e64,M5,M6,w1];have hI:∀aF:Env,aF 4=ak 4->aF 9=ak 9->aF 13=ak 13->aF 14=ak 14->MkC F st p wh s g aF gR:=fun aF q4 q9 q13 q14=>⟨q4.trans e4,q9.trans e9,q13.trans Fv,q14.trans Hk,⟨c0,c1,c2,c3,d2⟩,⟨pc,d1,gp.of_eq d3⟩,d4⟩;first
   |exact⟨aA,hI _ rfl rfl rfl rfl,c',rfl,g1⟩
   |(refine⟨aA,hI _ ?_ ?_ ?_ ?_,c',rfl,g1⟩<;>(simp only[go_sem];first|done|rfl))
   |trace_state
 have Oc:j=st.length:=aa;subst Oc;have ny:(st.map aX.n).take st.length=st.map aX.n:=gK (by rw[cE];exact bY _);rw[ny]at gf;simp only[go_sem,i8_l1,M5,M6,eS];refine asL (g:=g) hs cV hl hp hw hn (fc:=fc) ?_ ?_ gf
 .obtain⟨e4,e9,Fv,Hk,y9,bf,bs⟩:=h;refine⟨?_,?_,?_,?_,y9,bf,bs⟩;all_goals(simp only[go_sem,e4,e9,Fv,Hk];first|done|rfl)
 simp only[go_sem,Fw];first|done|rfl
def QB{al:Al}{vs:e_}{aj:aC}:(allow (S.ctx al) 21 vs aj).fs.contains 43=true:=by show(S.sites 21).contains _=true;kernel_rfl
def QA{al:Al}{vs:e_}{aj:aC}:(allow (S.ctx al) 21 vs aj).fs.contains 46=true:=by show(S.sites 21).contains _=true;kernel_rfl
def abQ{al:Al}{vs:e_}{aj:aC}:(allow (S.ctx al) 21 vs aj).fs.contains 26=true:=by show(S.sites 21).contains _=true;kernel_rfl
def aa8{sb:Bool}{a:aX}{st:j_}{m:aS}(h:st.length<=limit):(jm sb F limit a st m).2.length<=limit:=by
 unfold jm;split
 .exact h
 split
 .exact h
 simp only[fS,dI,fe];omega
def Ui{sb:Bool}{a:aX}:∀ {ms:g_}{st:j_},st.length<=limit->(gO sb F limit a st ms).2.length<=limit:=by
 intro ms
 induction ms with
 |nil=>intro st h;exact h
 |cons m r ih=>
  intro st h;rw[Dq];split
  .exact ih (aa8 h)
  exact aa8 h
def aml{sb:Bool}:∀ {f k:Nat}{st:j_},st.length<=limit->(jS sb F limit f k st).2.length<=limit:=by
 intro f
 induction f with
 |zero=>intro k st h;exact h
 |succ f ih=>
  intro k st h;cases hs:st[k]? with
  |none=>rw[abv hs];exact h
  |some a=>
   rw[JA hs];split
   .exact ih (Ui h)
   exact Ui h
def MR{sb:Bool}{L0:ai}(h:1<=limit):(dU sb F limit L0).2.length<=limit:=aml h
def YC:aN->Bool
 | .seq _ b=>YC b
 | .ret=>true
 |_=>false
def aou{sh:Ctx}{cp:gC}{cs:jZ}{n:Nat}:∀ {c:aN}{ak:Env}{aj:aC}{e:mD}{aF:Env}{ao:aC},YC c=true->exec sh cp cs n c ak aj=some (e,aF,ao)->e≠ .normal:=by
 intro c
 induction c with
 |seq a b iha ihb=>
  intro ak aj e aF ao hc h;simp only[exec]at h;split at h
  .exact ihb hc h
  rename_i hx;rintro rfl
  exact hx _ _ h
 |ret=>intro ak aj e aF ao hc h;cases h;exact fun h=>by cases h
 |_=>intro ak aj e aF ao hc;cases hc
def aa1{al:Al}{c:aN}{Q Q':dX}{ak:Env}{aj:aC}(hc:YC c=true)(h:W S al c Q ak aj)(hq:∀e ak aj,e≠ .normal->Q e ak aj->Q' e ak aj):W S al c Q' ak aj:=by obtain⟨n,e,aF,ao,h1,h2⟩:=h;exact⟨n,e,aF,ao,h1,hq _ _ _ (aou hc h1) h2⟩
def aoZ{R:V->aC->Prop}{Q:dX}{ak:Env}{aj:aC}(h:W S .all (.loop i8_l1) (mY 2 (Ai S .all i8_r2 (oJ .all i8.results R))) ak aj)
  (hR:∀ak aj,oJ .all i8.results R .ret ak aj->Q .ret ak aj):W S .all (.loop i8_l1) (mY 2 (Ai S .all i8_r2 (mY 1 Q))) ak aj:=by
 have key:∀e ak aj,e≠mD.normal->oJ .all i8.results R e ak aj->mY 1 Q e ak aj:=fun e ak aj hn h=>by
  cases e with
  |normal=>exact absurd rfl hn
  |ret=>exact hR _ _ h
  |exit i=>exact h.elim
 refine h.mono fun e ak aj h=>?_;cases e with
 |normal=>exact aa1 rfl h key
 |ret=>exact hR _ _ h
 |exit i=>
  simp only[mY]at h |-;by_cases hi:i=2
  .rw[aD hi]at h |-;exact aa1 rfl h key
  rw[au hi]at h;exact False.elim h
structure MkH (F limit:Nat) (a:ai) (p:g_) (ak:Env) (aj:aC):Prop where
 e1:ak 1=vi limit
 e4:ak 4=.one (.aZ 512000064 1 0)
 e7:ak 7=.one (.aZ 512256320 1 0)
 e9:ak 9=.one (.aZ 512320000 1 0)
 y9:∃c0 c1 c2 c3,aj 512000064=(1,some (.var [c0,c1,c2,c3]))
 ba:∃x,aj 512256320=(1,some (.var [.p (.int .i64 F),.p x]))/\x.norm=dd a
 bf:∃pc,aj 512320000=(1,some (.var [.p (.int .i64 0),.p .nils,pc,.p (.bool false)]))/\grown 512832256 fD 7 (mP p) (.one pc) aj
def arH{st:j_}(h:st≠[]):st[st.length-1]?=some (Ip st)/\Ip st∈st:=by
 have e:st.getLast?=some (Ip st):=by
  unfold Ip;cases hg:st.getLast? with
  |none=>exact absurd (List.getLast?_eq_none_iff.1 hg) h
  |some x=>rfl
 refine⟨by rw[<-List.getLast?_eq_getElem?];exact e,List.mem_of_getLast? e⟩
def JG(s:Nat)(L:ai)(c:C)(aj:aC):Prop:=c=.p (dd L)\/grown s mO 6 (dZ L) (.one c) aj
def JG.snap{s:Nat}{L:ai}{c:C}{aj:aC}(h:JG s L c aj):∃r,(∀B:aC,(∀i∈r,B i=aj i)->Go.Abs.snap B gG c=some (dd L,r))/\(r=[]\/r=[s])/\pG aj r/\ ∀n,kr aj (n+1) c=r:=by
 rcases h with rfl|h
 .exact⟨[],(fun B _=>rfl),.inl rfl,pG.nil,fun n=>rfl⟩
 obtain⟨r,h1,h2⟩:=h.LN;rcases h with⟨e,e2⟩|⟨e,g,e2,hb⟩
 .cases e2;have:=h1 aj rfl;rw[e]at this;have:some ((PV.sl []:PV),([]:a_))=some (.sl [],r):=this;simp at this;subst this;exact⟨[],by have e3:=aav.1 e;subst e3;exact fun B _=>h1 aj rfl,.inl rfl,pG.nil,fun n=>rfl⟩
 cases e2;have:=h1 aj rfl;have h3:Go.Abs.snap aj gG (.hsl s g 6 0 (dZ L).length)=some (.sl (dZ L),[s]):=by have ht:List.take L.length (dZ L)=dZ L:=gK (by rw[cE];exact bY _);simp[Go.Abs.snap,gG,hb,ht]
 rw[h3]at this;simp at this;subst this;exact⟨[s],fun B hB=>h1 B (hB s (lI.2 rfl)),.inr rfl,fun i hi=>by rw[lI.1 hi];exact⟨_,_,_,_,hb⟩,fun n=>EG hb⟩
def apg{Q:dX}{ak:Env}{aj:aC}{os:h_}{d:w_}{F:Nat}{ls M:ai}{ms:g_}{r:RV}{f:Nat}{vs:e_}{s:Nat}(hp:aK S f vs r)(hr:ZC F ls ms M r)(eL:S.lone s=false)
  (hK:∀(c e:C) ao,JG (s+1) M c ao->grown (s+2) fD 7 (mP ms) (.one e) ao->(∀i,i≠s+1->i≠s+2->ao i=aj i)->RN S .all os Q (put ak d (.tup [.agg [.p (.int .i64 F),c],.one e])) ao):gP S .all (.pc f vs [] s) d os Q ak aj:=by
 rcases hr with⟨rfl,rfl,rfl⟩|rfl
 .exact(dr hp (by rw[eL];rfl)).2 (hK _ _ _ (.inl rfl) grown.nil fun _ _ _=>rfl)
 exact ape hp eL rfl (LH _) (Tg _) fun c e ao h1 h2 h3=>hK c e ao (.inr h1) h2 h3
def O5{o:Nat}(e:jw o=8):¬l5 o:=fun h=>SN h e rfl
def asD{st:j_}{k:Nat}{m:aX}(h:st[k]?=some m):(lD F st)[k]?=some [.int .i64 F,dd m.c,.int .i64 F,dd m.n,qf m.w]:=by rw[fG,h];rfl
def aiC{iR:aC}{gv:Nat}{cc:C}{r0:a_}(h4:iR 512512000=(gv,some (.var [.p (.bool false)])))(Sa:∀n,kr iR (n+1) cc=r0):((([V.agg [.p (.int .i64 F),cc],vi limit,Gw true gv]:e_).map (jF iR)).flatten)=r0++[512512000]:=by
 have r1:jF iR (.agg [.p (.int .i64 F),cc])=r0:=by show([C.p (.int .i64 F),cc].map (kr iR 6)).flatten=r0;simp only[ek,kU,mT,Jc,jG,Sa,Lx,gn]
 have r2:jF iR (Gw true gv)=[512512000]:=by
  show([]:a_)++([C.aZ 512512000 gv 0].map (kr iR 5)).flatten=_;simp only[ek,kU,mT,Jc,jG,gn];have:kr iR 5 (.aZ 512512000 gv 0)=512512000::(([C.p (.bool false)]).map (kr iR 4)).flatten:=by rw[kr,h4]
  rw[this];rfl
 rw[ek,ek,ek,kU,r1,r2];show r0++([]++([512512000]++[]))=_;simp
def asO(cS:rm){F limit:Nat}{a:ai}{p:g_}{ak:Env}{aj:aC}{Q:dX}(iC:1<=limit)(kK:limit<=20000)(uR:cG (F:Int) a=0)(hp:p.length<=50000000)(hI:MkH F limit a p ak aj)
  (hN:∀(aF:Env) (ao:aC),(dU true F limit (sG F a).2).1=2->MkH F limit (Ip (dU true F limit (sG F a).2).2).c (p++(sG F a).1++(Ip (dU true F limit (sG F a).2).2).w) aF ao->Q .normal aF ao)
  (hR:∀(aF:Env) (ao:aC),(dU true F limit (sG F a).2).1≠2->(oJ .all i8.results fun v aj=>jk aj v=some (xv F ((zb F (dU true F limit (sG F a).2).2).n,p++(sG F a).1++(zb F (dU true F limit (sG F a).2).2).w,(dU true F limit (sG F a).2).1==0))) .ret aF ao->Q .ret aF ao):W S .all i8_l3 Q ak aj:=by
 obtain⟨e1,e4,e7,e9,⟨c0,c1,c2,c3,y9⟩,⟨x,ba,hx⟩,⟨pc,bf,gp⟩⟩:=hI;obtain⟨aeZ,dR,r,hr,pr⟩:=ZA uR;generalize sG F a=q at*;have j8:=aeZ.len;have gT:=G9 uR;have nW:S.lone 512384064=false:=ah;simp only[go_sem,i8_l3,e7,ba,hx,s25];refine apg pr hr nW fun cc ec cF gc ge dE=>?_;have gc:JG 512384065 q.2 cc cF:=gc;have ge:grown 512384066 fD 7 (mP q.1) (.one ec) cF:=ge;have d1:=dE 512000064 ae ae;have d2:=dE 512256320 ae ae;have d3:=dE 512320000 ae ae;have d4:=dE 512832256 ae ae;simp only[go_sem,ba,bf,y9]at d1 d2 d3 d4;have Ht:=gp.of_eq d4;clear dE d4;simp only[go_sem,e9,d3]
 obtain⟨re,OG,_⟩:=(ge.of_eq (ao:=eh (eh cF 512384320 ((cF 512384320).1+1,some (.var [.p (.int .i64 0),.p .nils]))) 512384320 ((cF 512384320).1+1,some (.var [.p (.int .i64 F),cc]))) (by simp only[aP,Nat.reduceEqDiff,if_false])).elems;refine uO (site:=512448192) (id:=512832256) (bytes:=48) (xs:=mP q.1) (rd:=re) (Ht.of_eq (by simp only[aP,Nat.reduceEqDiff,if_false])) OG (.inr (szM _)) (by simp only[qe];omega) fun c' gR g1 ig=>?_;have f1:=ig 512000064 ae ae;have f2:=ig 512256320 ae ae;have f3:=ig 512320000 ae ae;have f5:=ig 512384065 ae ae;have f6:=ig 512384320 ae ae;simp only[go_sem,d1,d2,d3]at f1 f2 f3 f5 f6;have Kh:JG 512384065 q.2 cc gR:=by
  rcases gc with h|h
  .exact .inl h
  exact .inr (h.of_eq f5)
 rw[show mP p++mP q.1=mP (p++q.1) by simp[mP]]at g1;clear ig OG ge Ht gc f5 d1 d2 d3;simp only[go_sem,e1,e9,f3,f6,s21];refine Xo fun iR kJ=>?_;have h1:iR 512000064=(1,some (.var [c0,c1,c2,c3])):=by rw[kJ];simp only[aP,Nat.reduceEqDiff,if_false];exact f1
 have h2:iR 512256320=(1,some (.var [.p (.int .i64 F),.p x])):=by rw[kJ];simp only[aP,Nat.reduceEqDiff,if_false];exact f2
 have h3:iR 512320000=(1,some (.var [.p (.int .i64 0),.p .nils,c',.p (.bool false)])):=by rw[kJ];simp only[aP,Nat.reduceEqDiff,if_true,if_false]
 have h4:iR 512512000=((gR 512512000).1+1,some (.var [.p (.bool false)])):=by rw[kJ];simp only[aP,Nat.reduceEqDiff,if_true,if_false]
 have g4:grown 512448192 fD 7 (mP (p++q.1)) (.one c') iR:=g1.of_eq (by rw[kJ];simp only[aP,Nat.reduceEqDiff,if_false]);have gc4:JG 512384065 q.2 cc iR:=by
  rcases Kh with h|h
  .exact .inl h
  exact .inr (h.of_eq (by rw[kJ];simp only[aP,Nat.reduceEqDiff,if_false]))
 generalize(gR 512512000).1+1=gv at h4;clear kJ g1 Kh f1 f2 f3;obtain⟨r0,nv,vT,har,Sa⟩:=gc4.snap;have ue:=aiC (F:=F) (limit:=limit) h4 Sa;have pP:∀i∈r0,i=512384065:=fun i hi=>by
  rcases vT with h|h
  .rw[h]at hi;cases hi
  rw[h]at hi;exact lI.1 hi
 have FM:wI true (allow (S.ctx .all) 21 [V.agg [.p (.int .i64 F),cc],vi limit,Gw true gv] iR):=⟨fun id h=>uE (by rw[h];kernel_rfl),QB,QA,fun _=>abQ,fun _=>tM (by rw[ue];simp)⟩;have dA:=Qz FM cS (F:=F) (limit:=limit) (L0:=q.2) (gv:=gv) (z:=(0,none)) (c0:=cc) (r0:=r0) (aj:=iR) iC kK aeZ.chk (fun B hB=>nv B hB) har (fun i hi=>⟨tM (by rw[ue];simp[hi]),by rw[pP i hi];exact O5 rfl,by rw[pP i hi];decide⟩) h4;refine r5 zR dA fun v5 AQ hP=>?_;obtain⟨s,g,rfl,hs,mL,BZ,aH,dz,lW⟩:=hP;have BZ:AQ 512512000=(gv,some (.var [.p (.bool ((dU true F limit q.2).1==2))])):=BZ;have hnr:∀i,i≠512384065->i∉r0:=fun i h hi=>h (pP i hi)
 have k1:=(lW 512000064 (O5 rfl) ae (hnr _ ae)).trans h1;have k2:=(lW 512256320 (O5 rfl) ae (hnr _ ae)).trans h2;have k3:=(lW 512320000 (O5 rfl) ae (hnr _ ae)).trans h3;have g5:=g4.of_eq (lW 512448192 (O5 rfl) ae (hnr _ ae));clear dA FM ue lW g4 h1 h2 h3 h4 nv Sa har;have xf:=Zj hs;obtain⟨rH,afs⟩:=arH aH;have NN:=MR (sb:=true) (F:=F) (L0:=q.2) iC;generalize dU true F limit q.2=cr at*;have hlen:(lD F cr.2).length=cr.2.length:=Lb F cr.2;have jN:=jl.2 aH;have afn:=asD (F:=F) rH;have vW:IntKind.i64.wrap ((cr.2.length:Int)-1)=((cr.2.length-1:Nat):Int):=IS aa aa;have aft:cr.2.length-1<cr.2.length:=aa;have gdl:=dz _ afs;generalize Ip cr.2=lm at*;have jU:=fun m hm=>(dz m hm).len;by_cases h2:cr.1=2
 .have hb:(cr.1==2)=true:=by rw[h2];rfl
  simp only[go_sem,hb,e7,e9,mL,afn,vW,aft,BZ,k2,k3];refine uO (site:=512832256) (id:=512448192) (bytes:=48) (xs:=mP lm.w) (rd:=[]) (g5.of_eq (by simp only[aP,Nat.reduceEqDiff,if_false])) rfl (.inr (szM _)) (by have:=jU _ afs;simp only[qe,fS];omega) fun cz blk6 g6 hb6=>?_;have d1:=hb6 512000064 ae ae;have d2:=hb6 512256320 ae ae;have d3:=hb6 512320000 ae ae;simp only[go_sem,k1,k2,k3]at d1 d2 d3;rw[show mP (p++q.1)++mP lm.w=mP (p++q.1++lm.w) by simp[mP]]at g6;simp only[go_sem,e9,d3];refine hN _ _ h2 ⟨e1,e4,e7,e9,⟨c0,c1,c2,c3,?_⟩,⟨dd lm.c,?_,rfl⟩,⟨cz,?_,?_⟩⟩
  .simp only[go_sem,d1]
  .simp only[go_sem,d2]
  .simp only[go_sem,d3]
  exact g6.of_eq (by simp only[aP,Nat.reduceEqDiff,if_false])
 have hb:(cr.1==2)=false:=by simpa using h2
 simp only[go_sem,hb,mL,afn,vW,aft,BZ];refine aoZ (asM (p:=p++q.1) (wh:=cr.1==0) hs aH aa (by rw[fS];omega) (fun m hm=>by have:=jU m hm;omega) (fun m hm=>?_) ⟨e4,e9,rfl,rfl,⟨c0,c1,c2,c3,?_⟩,⟨c',?_,?_⟩,?_⟩ rfl rfl ?_ rfl) fun ak aj h=>hR _ _ h2 h
 .rw[(dz m hm).qk];have h5:=Ze m.c;have h6:=(dz m hm).same;omega
 .simp only[go_sem,k1]
 .simp only[go_sem,k3]
 .exact g5.of_eq (by simp only[aP,Nat.reduceEqDiff,if_false])
 .simp only[go_sem,mL,xf]
 simp only[go_sem]
def ag0{f:Int}{ls:ai}{n:Nat}(hl:ls.length<=1000000)(h1:1<=n)(h2:n<=20000):aK S 19 [ez f ls,vi n] (ri (cG f ls)):=by
 have pc:=amO f ls hl;have a1:¬((n:Int)<1):=aa;have a2:¬((20000:Int)<(n:Int)):=aa;generalize cG f ls=e at*;refine bt c19 ?_;by_cases h:e=0
 .subst h;have DL:((0:Int)!=0)=false:=ae;simp only[go_sem,i19,s34,eW pc,DL,a1,a2];first|done|rfl
 have e1:(e !=0)=true:=by simpa using h
 simp only[go_sem,i19,s34,eW pc,e1];first|done|rfl
def am2(cS:rm){L0:ai}(iC:1<=limit)(kK:limit<=20000)(h0:cG (F:Int) L0=0):(dU true F limit L0).2≠[]/\ ∀m∈(dU true F limit L0).2,uA F L0 (dU true F limit L0).2.length m:=by
 have h4:(fun i=>if i=512512000 then(1,some (.var [.p (.bool false)]))else(0,none):aC) 512512000=(1,some (.var [.p (.bool false)])):=aD rfl;generalize(fun i=>if i=512512000 then(1,some (.var [.p (.bool false)]))else(0,none):aC)=iR at h4;have ue:=aiC (F:=F) (limit:=limit) (cc:=.p (dd L0)) (r0:=[]) h4 fun n=>rfl
 have FM:wI true (allow (S.ctx .all) 21 [V.agg [.p (.int .i64 F),.p (dd L0)],vi limit,Gw true 1] iR):=⟨fun id h=>uE (by rw[h];kernel_rfl),QB,QA,fun _=>abQ,fun _=>tM (by rw[ue];simp)⟩;obtain⟨v,ao,_,hP⟩:=Qz FM cS (F:=F) (limit:=limit) (L0:=L0) (gv:=1) (z:=(0,none)) (c0:=.p (dd L0)) (r0:=[]) (aj:=iR) iC kK h0 (fun B hB=>rfl) pG.nil (fun i hi=>by cases hi) h4;obtain⟨s,g,_,_,_,_,aH,dz,_⟩:=hP;exact⟨aH,dz⟩
def MQ(cS:rm){L0:ai}(iC:1<=limit)(kK:limit<=20000)(h0:cG (F:Int) L0=0):(dU false F limit L0).2≠[]/\ ∀m∈(dU false F limit L0).2,uA F L0 (dU false F limit L0).2.length m:=by have FM:wI false (allow (S.ctx .all) 21 [V.agg [.p (.int .i64 F),.p (dd L0)],vi limit,Gw false 1] xx):=⟨fun id h=>uE (by rw[h];kernel_rfl),QB,QA,(fun h=>by cases h),fun h=>by cases h⟩;obtain⟨v,ao,_,hP⟩:=Qz FM cS (F:=F) (limit:=limit) (L0:=L0) (gv:=1) (z:=xx 512512000) (c0:=.p (dd L0)) (r0:=[]) (aj:=xx) iC kK h0 (fun B hB=>rfl) pG.nil (fun i hi=>by cases hi) rfl;obtain⟨s,g,_,_,_,_,aH,dz,_⟩:=hP;exact⟨aH,dz⟩
def ala{al:Al}{Q:dX}{ak:Env}{aj:aC}{c:aN}(h:W S al c (LU (fun e b=>W S al (.loop c) Q e b) Q) ak aj):W S al (.loop c) Q ak aj:=by
 obtain⟨n,e,aF,ao,h1,h2⟩:=h;cases e with
 |normal=>obtain⟨m,e,dy,bn,h3,h4⟩:=h2;refine⟨max n m+1,e,dy,bn,?_,h4⟩;have h5:=A1 S (oz (GJ n m) (Mm _)) h1;have h6:=A1 S (Jg n m) h3;simp only[exec]at h6 |-;have h7:=Sq S (Mm (max n m)) (bY _) h6;rw[iter,h5];exact h7
 |exit i=>refine⟨n+1,_,_,_,?_,h2⟩;have h5:=A1 S (Mm n) h1;simp only[exec,iter,h5]
 |ret=>refine⟨n+1,_,_,_,?_,h2⟩;have h5:=A1 S (Mm n) h1;simp only[exec,iter,h5]
def Az.round(cS:rm){N a:ai}{b:Nat}{p:g_}(iC:1<=limit)(kK:limit<=20000)(h:Az F N b a p){m:aX}(hm:m∈(dU true F limit (sG F a).2).2):Az F N (b+limit) m.c (p++(sG F a).1++m.w)/\m.n=bh m.c:=by have hr:=h.red;obtain⟨aH,dz⟩:=am2 cS iC kK hr.chk;have hg:=dz m hm;exact⟨hr.mem (hg.mono (MR iC)),hg.qk⟩
def asu(cS:rm){ls:ai}(iC:1<=limit)(kK:limit<=20000)(h:cG (F:Int) ls=0)(hr:sG F (bh ls)=([],bh ls))(h2:(dU true F limit (bh ls)).1≠2):aK S 8 [ez F ls,vi limit] (xv F ((zb F (dU true F limit (bh ls)).2).n,(zb F (dU true F limit (bh ls)).2).w,(dU true F limit (bh ls)).1==0)):=by
 have vO:=G9 h;have pl:=ag0 (f:=F) (ls:=ls) (n:=limit) aa iC kK;rw[h]at pl;have pn:=Zc cS (f:=F) (ls:=ls) aa h;have a3:(cO (jE ls)).norm=dd (bh ls):=Qx (jE ls);have DL:((0:Int)!=0)=false:=ae;generalize cO (jE ls)=q at*;refine bt c8 ?_;simp only[go_sem,i8,s19,eW pl,DL,s20,dr pn YB];refine ala (asO cS iC kK (wg h) (p:=[]) af ⟨rfl,rfl,rfl,rfl,⟨.p (.int .i64 0),.p .nils,.p .nils,.p (.bool false),?_⟩,⟨q,?_,a3⟩,⟨.p .nils,?_,grown.nil⟩⟩ (fun aF ao h3 _=>absurd h3 (by rw[hr];exact h2)) fun aF ao _ h4=>?_)
 .simp only[go_sem]
 .simp only[go_sem]
 .simp only[go_sem]
 rw[hr]at h4;exact h4
def Az.start{ls:ai}(h:cG (F:Int) ls=0):Az F (bh ls) 0 (bh ls) []:=⟨wg h,rfl,(fun m hm=>by cases hm),af⟩
def atj{s1 t1 z1:Nat}{es:s_}{c:C}{x y:PV}{aj:aC}(h:grown s1 t1 z1 es (.one c) aj):jk aj (.tup [.one c,.one (.p x),.one (.p y)])=some (.tup [.one (aW t1 z1 es),.one (.p x),.one (.p y)]):=by obtain⟨c',o,hc,h2,h3⟩:=h.jW;cases hc;have e1:∀v:PV,jW aj (.p v)=some (.p v,[],[]):=fun _=>rfl;rcases h3 with rfl|rfl<;>simp[jk,tW,vE,oL,nC,h2,e1,apart,wx,tE,Bw]
def Zk{s o:Nat}(h:l5 s)(e:jw o=6):¬s=o:=by
 rintro rfl
 unfold l5 at h;rw[e]at h;revert h;decide
abbrev clsV(F:Nat)(r:Nat×j_):RV:=.tup [.one (aW wN 2 (sN F (r.2.map aX.n))),.one (.p (.bool (r.1==0))),.one (.p (.int .i64 0))]
def amS{st:j_}{wh:Bool}{s g:Nat}{ak:Env}{aj:aC}(hs:l5 s)(hl:st.length<=100000)(M1:ak 11=vb wh)(bs:aj s=(g,some (.arr Is 5 (lD F st))))(Hj:ak 12=.one (.p .nils))(e32:ak 32=.one (.hsl s g 5 0 st.length))(M3:ak 33=vi st.length)(M4:ak 34=vi 0):
  W S .all (.loop i6_l1) (mY 0 (Ai S .all i6_r2 (oJ .all i6.results fun v aj=>jk aj v=some (.tup [.one (aW wN 2 (sN F (st.map aX.n))),.one (.p (.bool wh)),.one (.p (.int .i64 0))])))) ak aj:=by
 have n1:=Zk (o:=384576128) hs rfl;have n2:=Zk (o:=384640192) hs rfl;have n3:=Zk (o:=384640256) hs rfl;refine dD (fun j ak aj=>ak 11=vb wh/\ak 32=.one (.hsl s g 5 0 st.length)/\ak 33=vi st.length/\ak 34=vi j/\aj s=(g,some (.arr Is 5 (lD F st)))/\ ∃fc,ak 12=.one fc/\grown 384640256 wN 2 (sN F ((st.map aX.n).take j)) (.one fc) aj) 0 st.length (bR _) ⟨M1,e32,M3,M4,bs,_,Hj,grown.nil⟩ ?_;rintro j ak aj hj ⟨M1,e32,M3,M4,bs,fc,Hj,gf⟩
 by_cases aA:j<st.length
 .have aM:((j:Int)<(st.length:Int)):=aa;obtain⟨m,hm⟩:=aL aA;have Oi:(lD F st)[j]?=some (m.ps F):=by rw[fG,hm];rfl
  have j8:(lD F st).length=st.length:=Lb F st;have w1:=cU (n:=j) aa;simp only[go_sem,i6_l1,Hj,e32,M3,M4,aA,aM,bs,Oi,aX.ps];refine uO (site:=384640256) (id:=384640256) (bytes:=32) (xs:=[[.int .i64 F,dd m.n]]) (rd:=[384640192]) (gf.of_eq (by simp only[aP,Nat.reduceEqDiff,if_false])) (by simp[fN,aP]) (.inl rfl) (by simp only[cE,iz,dI,fe];omega) fun c' gR g1 ig=>?_;have d4:=ig s n3 n3;simp only[go_sem,bs,n1,n2]at d4;rw[<-ahl hm]at g1;simp only[go_sem,M1,Hj,e32,M3,M4,w1];exact⟨aA,d4,c',rfl,g1⟩
 have Oc:j=st.length:=aa;subst Oc;have ny:(st.map aX.n).take st.length=st.map aX.n:=gK (by rw[cE];exact bY _);rw[ny]at gf;simp only[go_sem,i6_l1,i6_r2,i6,M1,Hj,M3,M4,eS];exact atj gf
def amU(cS:rm){ls:ai}(iC:1<=limit)(kK:limit<=20000)(h:cG (F:Int) ls=0):aK S 6 [ez F ls,vi limit] (clsV F (dU false F limit (bh ls))):=by
 have vO:=G9 h;have pl:=ag0 (f:=F) (ls:=ls) (n:=limit) aa iC kK;rw[h]at pl;have pn:=Zc cS (f:=F) (ls:=ls) aa h;have a3:(cO (jE ls)).norm=dd (bh ls):=Qx (jE ls);have DL:((0:Int)!=0)=false:=ae;generalize cO (jE ls)=q at*;refine bt c6 ?_;simp only[go_sem,i6,s19,eW pl,DL,s20,dr pn YB,s21];refine Xo fun iR kJ=>?_
 clear kJ;have FM:wI false (allow (S.ctx .all) 21 [V.agg [.p (.int .i64 F),.p q],vi limit,Gw false 0] iR):=⟨fun id h=>uE (by rw[h];kernel_rfl),QB,QA,(fun h=>by cases h),fun h=>by cases h⟩;have dA:=Qz FM cS (F:=F) (limit:=limit) (L0:=bh ls) (gv:=0) (z:=iR 512512000) (c0:=.p q) (r0:=[]) (aj:=iR) iC kK (wg h) (fun B _=>by show some (q.norm,[])=_;rw[a3]) pG.nil (fun i hi=>by cases hi) rfl;have hlen:=MR (sb:=false) (F:=F) (L0:=bh ls) iC;refine r5 zR dA fun v5 AQ hP=>?_;obtain⟨s,g,rfl,hs,mL,_,aH,dz,_⟩:=hP;generalize dU false F limit (bh ls)=r at*;simp only[go_sem];refine amS (s:=s) (g:=g) hs aa ?_ mL ?_ ?_ ?_ ?_;all_goals(simp only[go_sem];first|done|rfl)
end
end Go.Abs
