/- A part. -/
import Derived.Test.YtanhekelecofdaaGreatDoorRe
set_option linter.all false
set_option maxRecDepth 100000
set_option maxHeartbeats 16000000
namespace Go.Abs
def ak3:aO S 47 [.one (.p (.sl []))] (.one (.p .zs)):=⟨1,ah⟩
def asx{sb:Bool}{al:Al}(ac:xI sb al)(cK:sP){F:Nat}{M:ai}{w:h_}{m:aV}{ak:Env}{aj:aE}{Q2:eK}{g2 gm:Nat}(hw:w.length<=100000)(ye:cX (F:Int) M=0)(hMl:M.length<=1000000)
  (bC:aj 1408704193=(g2,some (.arr mN 6 (ez M)))) (bm:aj 1408640128=(gm,some (.var [.p (.int .i64 m.k),.p (.int .i64 m.a),.p (.int .i64 m.b),.p (.int .i64 m.c),.p (.bool m.l),.p (.bool m.o),.p (.int .i64 m.s)])))
  (h59:ak 59=.agg [.p (.int .i64 F),.hsl 1408704193 g2 6 0 M.length]) (qH:ak 16=.one (.bt 1408640128 gm 0))
  (hK:∀(aH:Env) (ao:aE) (g:Nat),(∀i,i<59->i≠19->aH i=ak i)->aH 19=.one (.bt 1408768512 g 0)->ao 1408768512=(g,some (.var [.p (.int .i64 F),.p (dJ M),.p (.int .i64 F),.p (cO (j4 M)),.p (qT (w++[m]))]))->
   (∀i,i∉[1408704193,1408768192,1408768320,1408768384,1408768512]->ao i=aj i)->Q2 .normal aH ao):
  dP S al (.pc 47 [.one (.p (qT w))] [] 1408768192) (some 62) [ox 59 2 17,of 60 4 11,dl 61 60 2,dc 62 1408768192 47 [.t 61] 6,ox 63 7 16,od 64 (.EY 1408768320 56 7 [.t 63]) 16,od 65 (.append 1408768384 56 7 48 (.t 62) (.t 64)) 62,dc 66 1408768448 42 [.t 59,.t 65] 127,oo 19 (.alloc 1408768512 [il 0,.nils,il 0,.nils,.nils]),⟨none,.store 5 (.t 19) (.t 66),none,511⟩] [ox 63 7 16,od 64 (.EY 1408768320 56 7 [.t 63]) 16,od 65 (.append 1408768384 56 7 48 (.t 62) (.t 64)) 62,dc 66 1408768448 42 [.t 59,.t 65] 127,oo 19 (.alloc 1408768512 [il 0,.nils,il 0,.nils,.nils]),⟨none,.store 5 (.t 19) (.t 66),none,511⟩] Q2 ak aj [⟨[1408704448],[],[]⟩,⟨[],[],[]⟩,⟨[1408256256],[],[]⟩]:=by
 have ho:=ac.fT;have w8:S.lone 1408768192=false:=ah;have cT:([aV.ps m].all fun e=>e.length==7)=true:=rfl;by_cases zJ:w=[]
 .have hz0:qT w=.sl []:=by rw[zJ];rfl
  have uL:land aj [] 1408768192 ((RV.one (.p .zs)).iu (S.lone 1408768192))=some (.one (.p .zs),[]):=by rw[w8];rfl
  rw[hz0,MD ak3 uL];refine⟨rfl,?_⟩;simp only[go_sem,qH,bm,ho];refine alz (site:=1408768384) (ty:=56) (z:=7) (bytes:=48) (xs:=[aV.ps m]) (rd:=[1408768320]) (fun i hi=>?_) ?_ af (.inl rfl) (by simp only[dL,fv];omega) fun c' je r1 u1 g1 lV k9=>?_
  .simp only[ch,eL,or_false] at hi;rcases hi with rfl|rfl<;>exact ac.c _ rfl
  .simp[gb,aU,aV.ps]
  have g1:grown 1408768384 56 7 (mP w++[aV.ps m]) (.one c') je:=by rw[zJ];exact g1
  have c3:=lV 1408704193 ae ae;simp only[aU,Nat.reduceEqDiff,if_false] at c3;have c3:=c3.trans bC;rcases g1 with ⟨e,_⟩|⟨_,g5,e,bW⟩
  .simp at e
  cases e;have Oo:=YR cK (w++[m]) aa ye;rw[show qT (w++[m])=.sl (mP w++[m.ps]) by simp[mP]] at Oo;have lh:(mP w++[m.ps]).length=w.length+1:=by simp[mP]
  have tk1:List.take M.length (ez M)=ez M:=gT (by rw[cU];exact cD _);have tk2:List.take (w.length+1) (mP w++[m.ps])=mP w++[m.ps]:=gT (Gq lh);simp only[go_sem,h59,c3,bW,lh,tk1,tk2,s42];obtain⟨u,hu,vE,wV,hu4⟩:=YC (aj:=je) (s:=1408768448) (rd:=[1408704193,1408768384]) (x0:=.int .i64 F) (x1:=dJ M) (x2:=.int .i64 F) (x3:=cO (j4 M)) (x4:=.sl (mP w++[m.ps])) (l:=S.lone 1408768448) (fun i hi=>by
   simp only[ch,eL,or_false] at hi;rcases hi with rfl|rfl
   .exact⟨_,_,_,_,c3⟩
   exact⟨_,_,_,_,bW⟩)
  rw[MD Oo hu];refine⟨Eg fun i hi=>?_,?_⟩
  .rcases eX.1 hi with h|h
   .simp only[ch,eL,or_false] at h;rcases h with rfl|rfl<;>exact ac.c _ rfl
   have h:=wV i h;simp only[ch,eL,or_false] at h;rcases h with rfl|rfl<;>exact ac.c _ rfl
  simp only[go_sem,ho];refine⟨?_,hK _ _ _ (fun i h1 h2=>?_) rfl ?_ fun i h1=>?_⟩
  .rcases k9 with ⟨rfl,rfl⟩|⟨rfl,rfl⟩|⟨rfl,rfl⟩<;>rcases hu4 with h4|h4<;>rw[h4]<;>kernel_rfl
  .simp only[aU];repeat' rw[aC aa]
  .simp only[aU,if_true];rw[show qT (w++[m])=.sl (mP w++[m.ps]) by simp[mP]]
  simp only[ch,eL,or_false,not_or] at h1;obtain⟨n1,n2,n3,n4,n5⟩:=h1;simp only[aU,aC n5];rw[vE i (by simp[n1,n4]),lV i n4 n4];simp only[aU,aC n3]
 have pc:=ak2 zJ aa;refine alD (fun i hi=>?_) pc w8 (.inl rfl) fun c1 bN w1 gw bR hw1=>?_
 .simp only[ch,eL,or_false] at hi;subst hi;exact ac.c _ rfl
 have d1:=bR 1408640128 ae;rw[bm] at d1;simp only[go_sem,qH,d1,ho];refine GQ (site:=1408768384) (id:=1408768192) (ty:=56) (z:=7) (bytes:=48) (es:=mP w) (xs:=[aV.ps m]) (rd:=[1408768320]) (fun i hi=>?_) (gw.of_eq (by simp only[aU,Nat.reduceEqDiff,if_false])) ?_ (.inl rfl) (by simp only[sk,dL,fv];omega) fun c' je r1 u1 g1 lV k9=>?_
 .simp only[ch,eL,or_false] at hi;rcases hi with rfl|rfl|rfl<;>exact ac.c _ rfl
 .simp[gb,aU,aV.ps]
 have c3:=lV 1408704193 ae ae;simp only[aU,Nat.reduceEqDiff,if_false,bR 1408704193 ae] at c3;have c3:=c3.trans bC;rcases g1 with ⟨e,_⟩|⟨_,g5,e,bW⟩
 .simp at e
 cases e;have Oo:=YR cK (w++[m]) aa ye;rw[show qT (w++[m])=.sl (mP w++[m.ps]) by simp[mP]] at Oo;have lh:(mP w++[m.ps]).length=w.length+1:=by simp[mP]
 have tk1:List.take M.length (ez M)=ez M:=gT (by rw[cU];exact cD _);have tk2:List.take (w.length+1) (mP w++[m.ps])=mP w++[m.ps]:=gT (Gq lh);simp only[go_sem,h59,c3,bW,lh,tk1,tk2,s42];obtain⟨u,hu,vE,wV,hu4⟩:=YC (aj:=je) (s:=1408768448) (rd:=[1408704193,1408768384]) (x0:=.int .i64 F) (x1:=dJ M) (x2:=.int .i64 F) (x3:=cO (j4 M)) (x4:=.sl (mP w++[m.ps])) (l:=S.lone 1408768448) (fun i hi=>by
  simp only[ch,eL,or_false] at hi;rcases hi with rfl|rfl
  .exact⟨_,_,_,_,c3⟩
  exact⟨_,_,_,_,bW⟩)
 rw[MD Oo hu];refine⟨Eg fun i hi=>?_,?_⟩
 .rcases eX.1 hi with h|h
  .simp only[ch,eL,or_false] at h;rcases h with rfl|rfl<;>exact ac.c _ rfl
  have h:=wV i h;simp only[ch,eL,or_false] at h;rcases h with rfl|rfl<;>exact ac.c _ rfl
 simp only[go_sem,ho];refine⟨?_,hK _ _ _ (fun i h1 h2=>?_) rfl ?_ fun i h1=>?_⟩
 .rcases hw1 with rfl|rfl<;>rcases k9 with ⟨rfl,rfl⟩|⟨rfl,rfl⟩|⟨rfl,rfl⟩<;>rcases hu4 with h4|h4<;>rw[h4]<;>kernel_rfl
 .simp only[aU];repeat' rw[aC aa]
 .simp only[aU,if_true];rw[show qT (w++[m])=.sl (mP w++[m.ps]) by simp[mP]]
 simp only[ch,eL,or_false,not_or] at h1;obtain⟨n1,n2,n3,n4,n5⟩:=h1;simp only[aU,aC n5];rw[vE i (by simp[n1,n4]),lV i n4 n2];simp only[aU,aC n3];rw[bR i n2]
def adf{al:Al}{Q:eK}{ak:Env}{aj:aE}{os:g_}{d:w_}{p:fP}(h:∀b,b=aj->gP S al p d os Q ak b):gP S al p d os Q ak aj:=h _ rfl
def atS:S.sites 48=[48]:=ah
def atU:S.sites 44=[44]:=ah
def atT:S.sites 35=[35]:=ah
def Wr{F:Nat}{L:ai}(h:cX (F:Int) L=0):F<=40:=by
 by_cases aK:L=[]
 .subst aK;exact abm h
 obtain⟨G,e,g⟩:=pM h aK;have:=g.fing;omega
structure Gs (a:bj) (F:Nat) (ms:h_) (ga gg:Nat) (j:Nat) (ak:Env) (aj:aE):Prop where
 gD:ak 11=.one (.bt 1408256256 ga 0)
 bA:aj 1408256256=(ga,some (.var [.p (.int .i64 F),.p (dJ a.c),.p (.int .i64 F),.p (dJ a.n),.p (qT a.w)]))
 JZ:ak 46=.one (.hsl 1408448192 gg 7 0 ms.length)
 Hh:ak 47=vi ms.length
 xV:ak 48=vi j
 bV:aj 1408448192=(gg,some (.arr iT 7 (mP ms)))
def auC(x0 x1 x2 x3 x4:PV):aO S 23 [.agg [.p x0,.p x1,.p x2,.p x3,.p x4]] (rb false):=by refine bY c23 ?_;simp only[go_sem,i23];first|done|rfl
def round{sb:Bool}{al:Al}{s:Nat}(hq:wZ s)(ac:xI sb al)(cK:sP){F limit:Nat}{L0:ai}{gv gq gM ga gg gi:Nat}{z:Nat×Option Ob}{r0:a_}{b0:aE}{a:bj}{ms:h_}{st:m_}{k j:Nat}{m:aV}{ak:Env}{aj:aE}{Q:eK}(oG:limit<=20000)(kY:ms.length<=8000)(hj:ms[j]?=some m)(T2:qW F a.c zO m)(ha:uw F L0 st.length a)
  (hI:xK sb F limit L0 gv z r0 b0 gq gM st k ak aj) (que:Bv s gq gi (oR F st) k aj) (hR:Gs a F ms ga gg j ak aj)
  (hN:∀mw (aH:Env) (ao:aE),kA sb F limit a st m=(0,mw)->xK sb F limit L0 gv z r0 b0 gq gM mw k aH ao->Gs a F ms ga gg (j+1) aH ao->Q .normal aH ao)
  (hX:∀(aH:Env) (ao:aE),(kA sb F limit a st m).1≠0->EdC sb F L0 gv z r0 b0 (kA sb F limit a st m) gq aH ao->Q (.exit 0) aH ao):W S al i22_l1 Q ak aj:=by
  obtain⟨e1,e2,e9,mY,bM,_,bv,ne,lim,alls,fr⟩:=hI;obtain⟨bq,bs⟩:=que;obtain⟨gD,bA,JZ,Hh,xV,bV⟩:=hR;have ho:=ac.fT;have o1:=hq.ok ac;have DS:=hq.ne;have o3:al.ok 1408448192=true:=ac.c _ rfl;have aB:=(aW.1 hj).1;have aP:((j:Int)<(ms.length:Int)):=aa;have jU:=O0 hj;have w1:=df (n:=j) aa;have ad8:(mP ms).length=ms.length:=sk ms;obtain⟨M,qI,pa,ye,anA,anz,DV⟩:=aqe ha T2;have qk:S.lone 1408704192=false:=ah;have wP:=My ye;have lh:=ha.len;have vt:kA sb F limit a st m=if (st.map (bj.key F)).any (fun s=>oU F (dd M)==s) then (0,st) else if st.length=limit then (1,st) else (if (sb&&(zU F M).2)=true then 2 else 0,st++[⟨M,dd M,a.w++[m]⟩]):=by unfold kA;rw[qI];rfl
  have O7:aO S 46 [.agg [.p (.int .i64 F),.p (dJ a.c)],.agg [.p (.int .i64 m.k),.p (.int .i64 m.a),.p (.int .i64 m.b),.p (.int .i64 m.c),.p (.bool m.l),.p (.bool m.o),.p (.int .i64 m.s)]] (l5 F M):=pa;simp only[go_sem,i22_l1,gD,JZ,Hh,xV,bA,bV,aB,aP,jU,aV.ps,ho,s46];refine anf (fun i hi=>?_) O7 qk rfl rfl (Pj _) fun cc cZ gc dN=>?_
  .simp only[ch,eL,or_false] at hi;subst hi;exact ac.c _ rfl
  rcases gc with ⟨e,_⟩|⟨_,g2,e,bC⟩
  .exact absurd (List.map_eq_nil_iff.1 e) anA
  cases e;have c0:=dN 1408256256 ae;have c1:=dN 1408640128 ae;have c2:=dN 1408128000 ae;have c3:=dN 1408192192 ae;have c4:=dN s (by rcases hq with rfl|rfl<;>decide);have c5:=dN 1024512000 ae;have c6:=dN 1408448192 ae;simp only[go_sem,bA,bM,bq,bs,bv,bV,DS] at c0 c1 c2 c3 c4 c5 c6;have hlM:(ez M).length=M.length:=cU ..;simp only[go_sem,gD,c0,hlM,ho,s47]
  refine asx ac cK (F:=F) (M:=M) (w:=a.w) (m:=m) (g2:=g2) (gm:=(aj 1408640128).1+1) aa ye aa (by simp only[aU,Nat.reduceEqDiff,if_false];exact bC) (by simp only[aU,Nat.reduceEqDiff,if_false];exact c1) rfl rfl fun aH ao g hE gV b19 hB=>?_;have f1:=hE 1 ae ae;have f2:=hE 2 ae ae;have f9:=hE 9 ae ae;have f10:=hE 10 ae ae;have f11:=hE 11 ae ae;have f46:=hE 46 ae ae;have f47:=hE 47 ae ae;have f48:=hE 48 ae ae;simp only[go_sem,e1,e2,e9,mY,gD,JZ,Hh,xV] at f1 f2 f9 f10 f11 f46 f47 f48;have d0:=hB 1408256256 ae;have d2:=hB 1408128000 ae;have d3:=hB 1408192192 ae;have d4:=hB s (by rcases hq with rfl|rfl<;>decide);have d5:=hB 1024512000 ae
  have d6:=hB 1408448192 ae;simp only[go_sem,c0,c2,c3,c4,c5,c6,DS] at d0 d2 d3 d4 d5 d6;have BI:∀i,¬qm i->i≠1024512000->i∉r0->ao i=b0 i:=fun i h1 h2 h3=>by have n1:i≠1408704193:=sv h1 rfl (.inl rfl);have n2:i≠1408704448:=sv h1 rfl (.inl rfl);have n3:i≠1408640128:=sv h1 rfl (.inl rfl);have n4:i≠1408768192:=sv h1 rfl (.inl rfl);have n5:i≠1408768320:=sv h1 rfl (.inl rfl);have n6:i≠1408768384:=sv h1 rfl (.inl rfl);have n7:i≠1408768512:=sv h1 rfl (.inl rfl);rw[hB i (by simp[n1,n4,n5,n6,n7])];simp only[aU,aC n2];rw[dN i n1];simp only[aU,aC n3];exact fr i h1 h2 h3
  clear hE hB dN c0 c1 c2 c3 c4 c5 c6 fr bA bM bq bs bv bV e1 e2 e9 mY gD JZ Hh xV bC;have pp:=ag1 (F:=(F:Int)) (L:=dd M) ⟨by have:=Wr ye;omega,by have:=Wr ye;omega⟩ (by have:=ago M;omega) (ahP (yC ye));have a3:(cO (j4 M)).norm=dJ (dd M):=Wm (j4 M);have a4:(qT (a.w++[m])).norm=qT (a.w++[m]):=rfl;have eT:(Ed (st.map (bj.key F))).length=st.length:=af;have qN:(oR F st).length=st.length:=YS F st;have TW:((st.length:Int)==(limit:Int))=decide (st.length=limit):=by
   by_cases h:st.length=limit
   .rw[h];simp
   rw[xG h,lS];omega
  rcases amH (oU F (dd M)) (st.map (bj.key F)) 0 with ⟨hf,jj,fk⟩|⟨hf,fk⟩
  .rw[hf,aG rfl] at vt;simp only[go_sem,f9,f48,gV,b19,a3,d2,s43,Fo pp,mapOf,mapVal,iK,fk,w1,ho];refine hN st _ _ vt ⟨?_,?_,?_,?_,d2,⟨s,hq,gi,by rw[qN];exact d3,d4⟩,d5,ne,lim,alls,BI⟩ ⟨?_,d0,?_,?_,?_,d6⟩;all_goals(simp only[go_sem,f1,f2,f9,f10,f11,f46,f47,f48];first|done|rfl)
  rw[hf] at vt;simp only[dR,if_false] at vt;cases hL:decide (st.length=limit) with
  |true=>rw[aG (qA hL)] at vt;rw[hL] at TW;simp only[go_sem,f1,f9,f10,f48,gV,b19,a3,d2,d3,TW,s43,Fo pp,mapOf,mapVal,iK,fk,yQ,w1,ho];have NK:=hX;rw[vt] at NK;refine NK _ _ (by show(1:Nat)≠0;decide) ⟨?_,⟨k,s,hq,gi,by rw[qN];exact d3,d4⟩,d5,ne,alls,BI⟩;simp only[go_sem,f10];first|done|rfl
  |false=>
   rw[aC (ie hL)] at vt;rw[hL] at TW;simp only[go_sem,f1,f9,f10,gV,b19,a3,d2,d3,d4,TW,s43,Fo pp,mapOf,mapVal,iK,sM,fk,yQ,ho,s48];refine adf fun bN bR=>?_;have g2:bN 1408128000=(gM,some (.map false (Ed (st.map (bj.key F))++[(.str (oU F (dd M)),[.bool true])]))):=by rw[bR];simp only[aU,if_true];try rfl
   have XZ:oR F st≠[]:=by simpa using ne
   have kp:∀i,i≠1408128000->bN i=ao i:=fun i h=>by rw[bR];simp only[aU,aC h]
   have k3:=(kp 1408192192 ae).trans d3;have k4:=(kp s (by rcases hq with rfl|rfl<;>decide)).trans d4;have k5:=(kp 1024512000 ae).trans d5;have k6:=(kp 1408448192 ae).trans d6;have k0:=(kp 1408256256 ae).trans d0;have k19:=(kp 1408768512 ae).trans b19;have fr3:∀i,¬qm i->i≠1024512000->i∉r0->bN i=b0 i:=fun i h1 h2 h3=>(kp i (sv h1 rfl (.inl rfl))).trans (BI i h1 h2 h3)
   clear bR kp BI;have yr:((([V.one (.bt 1408192192 gq 0),V.agg [.p (.int .i64 F),.p (dJ M),.p (.int .i64 F),.p (cO (j4 M)),.p (qT (a.w++[m]))]]:e_).map (jy bN)).flatten)=[1408192192,s]:=by
    have r1:jy bN (.one (.bt 1408192192 gq 0))=[1408192192,s]:=by rw[Lo k3];simp only[eD,kL,mS,IJ,jJ];rw[Eo (n:=4) k4,Ln];rfl
    rw[eD,eD,kL,r1];rfl
   have Kd:=ajt hq (al:=allow (S.ctx al) 48 [V.one (.bt 1408192192 gq 0),V.agg [.p (.int .i64 F),.p (dJ M),.p (.int .i64 F),.p (cO (j4 M)),.p (qT (a.w++[m]))]] bN) (aj:=bN) (gq:=gq) (gi:=gi) (k:=k) (es:=oR F st) (x0:=.int .i64 F) (x1:=dJ M) (x2:=.int .i64 F) (x3:=cO (j4 M)) (x4:=qT (a.w++[m])) (vg (by rw[yr];simp)) (vg (by rw[yr];simp)) (vf ah) (vf ah) (vf ah) ⟨by rw[qN];exact k3,k4⟩ XZ (by rw[qN];omega);rw[a3] at Kd;refine sY (holds_of (by show al.fT (List.flatten _)=true;rw[yr];simp only[Ii,Ij,ho,o1,xy]) (by show(S.sites 48).all al.fs.contains=true;rw[atS];simp only[oY,sH,ac.a,xy])) Kd fun v3 je hP=>?_
   obtain⟨rfl,⟨g5,bq3,bs3⟩,Ki⟩:=hP;have m5:=Ki 1024512000 ae ae (by rcases hq with rfl|rfl<;>decide);have m6:=Ki 1408448192 ae ae (by rcases hq with rfl|rfl<;>decide);have m0:=Ki 1408256256 ae ae (by rcases hq with rfl|rfl<;>decide);have m2:=Ki 1408128000 ae ae (by rcases hq with rfl|rfl<;>decide);have m19:=Ki 1408768512 ae ae (by rcases hq with rfl|rfl<;>decide);rw[k5] at m5;rw[k6] at m6;rw[k0] at m0;rw[g2] at m2;rw[k19] at m19
   have fr4:∀i,¬qm i->i≠1024512000->i∉r0->je i=b0 i:=fun i h1 h2 h3=>(Ki i (fun h=>h1 (.inr (.inr (.inl h)))) (sv h1 rfl (.inl rfl)) (hq.no h1)).trans (fr3 i h1 h2 h3);have wQ:oR F st++[[.int .i64 F,dJ M,.int .i64 F,dJ (dd M),qT (a.w++[m])]]=oR F (st++[(⟨M,dd M,a.w++[m]⟩:bj)]):=by simp[bj.ps]
   have Kp:Ed (st.map (bj.key F))++[(.str (oU F (dd M)),[.bool true])]=Ed ((st++[(⟨M,dd M,a.w++[m]⟩:bj)]).map (bj.key F)):=by simp[bj.key]
   have XQ:(st++[(⟨M,dd M,a.w++[m]⟩:bj)]).length=st.length+1:=af;have BY:(st++[(⟨M,dd M,a.w++[m]⟩:bj)])≠[]:=af;have hL2:=ie hL;have dV:∀x∈st++[(⟨M,dd M,a.w++[m]⟩:bj)],uw F L0 (st++[(⟨M,dd M,a.w++[m]⟩:bj)]).length x:=fun x hx=>by
    rw[XQ];rcases eX.1 hx with h|h
    .exact(alls x h).mono aa
    rw[lQ.1 h];refine⟨ye,rfl,DV,fun y hy=>?_,by show(a.w++[m]).length<=_;rw[gJ];simp only[dL,fv];omega,anz.trans ha.same⟩;rcases eX.1 hy with h|h
    .exact ha.kind y h
    rw[lQ.1 h];exact T2.1
   cases sb with
   |false=>
    have f2:aH 2=.one (.p (.fn 23 [] [])):=f2;have hq3:Bv 3072064448 gq g5 (oR F (st++[(⟨M,dd M,a.w++[m]⟩:bj)])) k je:=by rw[<- wQ];exact⟨bq3,bs3⟩
    rw[Kp] at m2;clear Kd yr;rw[Bool.false_and] at vt;simp only[dR,if_false] at vt;simp only[go_sem,f2,f48,gV,m19,w1,ho,s23,Fo (auC _ _ _ _ _)];refine hN _ _ _ vt ⟨?_,?_,?_,?_,m2,⟨_,.inr rfl,g5,hq3⟩,m5,BY,by rw[XQ];omega,dV,fr4⟩ ⟨?_,m0,?_,?_,?_,m6⟩;all_goals(simp only[go_sem,f1,f2,f9,f10,f11,f46,f47,f48];first|done|rfl)
   |true=>
    have pr:=ag9 ye;have o2:=ac.v rfl;have f2:aH 2=.one (.hfn 35 [] [.bt 1024512000 gv 0]):=f2;have m5:je 1024512000=(gv,some (.var [.p (.bool false)])):=m5;simp only[go_sem,f2,gV,m19,ho,s35];have HJ:((([V.agg [.p (.int .i64 F),.p (dJ M),.p (.int .i64 F),.p (cO (j4 M)),.p (qT (a.w++[m]))],V.one (.bt 1024512000 gv 0)]:e_).map (jy je)).flatten)=[1024512000]:=by
     have r1:jy je (.one (.bt 1024512000 gv 0))=[1024512000]:=by rw[Lo m5];rfl
     rw[eD,eD,kL,r1];rfl
    have di:=auD (al:=allow (S.ctx al) 35 [V.agg [.p (.int .i64 F),.p (dJ M),.p (.int .i64 F),.p (cO (j4 M)),.p (qT (a.w++[m]))],V.one (.bt 1024512000 gv 0)] je) (aj:=je) (gv:=gv) (F:=F) (L:=M) (x2:=.int .i64 F) (x3:=cO (j4 M)) (x4:=qT (a.w++[m])) (b0:=false) pr.1 (vg (by rw[HJ];simp)) (vf ah) (vf ah) m5;refine sY (holds_of (by show al.fT (List.flatten _)=true;rw[HJ];simp only[Ii,Ij,o2,xy]) (by show(S.sites 35).all al.fs.contains=true;rw[atT];simp only[oY,sH,ac.s rfl,xy])) di fun v4 kN hP=>?_
    obtain⟨rfl,bv4,Kj⟩:=hP;have n0:=(Kj 1408256256 ae ae).trans m0;have n2:=(Kj 1408128000 ae ae).trans m2;have n3:=(Kj 1408192192 ae ae).trans bq3;have n4:=(Kj 3072064448 ae ae).trans bs3;have n6:=(Kj 1408448192 ae ae).trans m6;have fr5:∀i,¬qm i->i≠1024512000->i∉r0->kN i=b0 i:=fun i h1 h2 h3=>(Kj i (fun h=>h1 (.inr (.inr (.inr h)))) h2).trans (fr4 i h1 h2 h3);have hq3:Bv 3072064448 gq g5 (oR F (st++[(⟨M,dd M,a.w++[m]⟩:bj)])) k kN:=by rw[<- wQ];exact⟨n3,n4⟩
    rw[Kp] at n2;clear Kd di pr HJ yr;cases hb:(zU F M).2 with
    |true=>rw[hb,CQ,aG rfl] at vt;rw[hb] at bv4;have NK:=hX;rw[vt] at NK;simp only[go_sem,f48];refine NK _ _ (by show(2:Nat)≠0;decide) ⟨?_,⟨k,_,.inr rfl,g5,hq3⟩,bv4,BY,dV,fr5⟩;simp only[go_sem,f10];first|done|rfl
    |false=>rw[hb] at vt bv4;simp only[CQ,dR,if_false] at vt;simp only[go_sem,f48,w1];refine hN _ _ _ vt ⟨?_,?_,?_,?_,n2,⟨_,.inr rfl,g5,hq3⟩,bv4,BY,by rw[XQ];omega,dV,fr5⟩ ⟨?_,n0,?_,?_,?_,n6⟩;all_goals(simp only[go_sem,f1,f2,f9,f10,f11,f46,f47,f48];first|done|rfl)
end Go.Abs
