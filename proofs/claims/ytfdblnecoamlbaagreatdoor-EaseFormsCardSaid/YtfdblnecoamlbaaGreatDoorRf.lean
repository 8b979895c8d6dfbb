/- A part. -/
import Derived.Test.YtfdblnecoamlbaaGreatDoorRe
set_option linter.all false
set_option maxRecDepth 100000
set_option maxHeartbeats 16000000
namespace Go.Abs
def ak5:aK S 46 [.one (.p (.sl []))] (.one (.p .zs)):=⟨1,ah⟩
def asS{al:Al}(ac:yq al)(bN:ni){F:Nat}{M:ai}{w:g_}{m:aP}{ak:Env}{aj:aB}{Q2:dO}{g2 gm:Nat}(hw:w.length<=100000)(ny:bQ (F:Int) M=0)(hMl:M.length<=1000000)
  (bC:aj 1472704193=(g2,some (.arr jL 6 (dG M)))) (bm:aj 1472640128=(gm,some (.var [.p (.int .i64 m.k),.p (.int .i64 m.a),.p (.int .i64 m.b),.p (.int .i64 m.c),.p (.bool m.l),.p (.bool m.o),.p (.int .i64 m.s)])))
  (h59:ak 59=.agg [.p (.int .i64 F),.hsl 1472704193 g2 6 0 M.length]) (qE:ak 16=.one (.aZ 1472640128 gm 0))
  (hK:∀(aF:Env) (ao:aB) (g:Nat),(∀i,i<59->i≠19->aF i=ak i)->aF 19=.one (.aZ 1472768512 g 0)->ao 1472768512=(g,some (.var [.p (.int .i64 F),.p (cT M),.p (.int .i64 F),.p (cO (iM M)),.p (lW (w++[m]))]))->
   (∀i,i∉[1472704193,1472768192,1472768320,1472768384,1472768512]->ao i=aj i)->Q2 .normal aF ao):
  dP S al (.pc 46 [.one (.p (lW w))] [] 1472768192) (some 62) [ox 59 2 17,of 60 4 11,dl 61 60 2,dc 62 1472768192 46 [.t 61] 6,ox 63 7 16,od 64 (.Ey 1472768320 44 7 [.t 63]) 16,od 65 (.append 1472768384 44 7 48 (.t 62) (.t 64)) 62,dc 66 1472768448 43 [.t 59,.t 65] 127,oo 19 (.alloc 1472768512 [il 0,.nils,il 0,.nils,.nils]),⟨none,.store 5 (.t 19) (.t 66),none,511⟩] [ox 63 7 16,od 64 (.Ey 1472768320 44 7 [.t 63]) 16,od 65 (.append 1472768384 44 7 48 (.t 62) (.t 64)) 62,dc 66 1472768448 43 [.t 59,.t 65] 127,oo 19 (.alloc 1472768512 [il 0,.nils,il 0,.nils,.nils]),⟨none,.store 5 (.t 19) (.t 66),none,511⟩] Q2 ak aj [⟨[1472704448],[],[]⟩,⟨[],[],[]⟩,⟨[1472256256],[],[]⟩]:=by
 have ho:=ac.fP;have ti:S.lone 1472768192=false:=ah;have cH:([aP.ps m].all fun e=>e.length==7)=true:=rfl;by_cases vF:w=[]
 .have hz0:lW w=.sl []:=by rw[vF];rfl
  have r7:land aj [] 1472768192 ((RV.one (.p .zs)).gJ (S.lone 1472768192))=some (.one (.p .zs),[]):=by rw[ti];rfl
  rw[hz0,Mf ak5 r7];refine⟨rfl,?_⟩;simp only[go_sem,qE,bm,ho];refine alH (site:=1472768384) (ty:=44) (z:=7) (bytes:=48) (xs:=[aP.ps m]) (rd:=[1472768320]) (fun i hi=>?_) ?_ af (.inl rfl) (by simp only[dC,fe];omega) fun c' ig r1 u1 g1 gk jV=>?_
  .simp only[cD,fq,or_false] at hi;rcases hi with rfl|rfl<;>exact ac.c _ rfl
  .simp[fU,aO,aP.ps]
  have g1:grown 1472768384 44 7 (mP w++[aP.ps m]) (.one c') ig:=by rw[vF];exact g1
  have c3:=gk 1472704193 ae ae;simp only[aO,Nat.reduceEqDiff,if_false] at c3;have c3:=c3.trans bC;rcases g1 with ⟨e,_⟩|⟨_,g5,e,bW⟩
  .simp at e
  cases e;have Ny:=XS bN (w++[m]) aa ny;rw[show lW (w++[m])=.sl (mP w++[m.ps]) by simp[mP]] at Ny;have j5:(mP w++[m.ps]).length=w.length+1:=by simp[mP]
  have tk1:List.take M.length (dG M)=dG M:=iz (by rw[cM];exact bR _);have tk2:List.take (w.length+1) (mP w++[m.ps])=mP w++[m.ps]:=iz (Gk j5);simp only[go_sem,h59,c3,bW,j5,tk1,tk2,s43];obtain⟨u,hu,vE,wM,hu4⟩:=XA (aj:=ig) (s:=1472768448) (rd:=[1472704193,1472768384]) (x0:=.int .i64 F) (x1:=cT M) (x2:=.int .i64 F) (x3:=cO (iM M)) (x4:=.sl (mP w++[m.ps])) (l:=S.lone 1472768448) (fun i hi=>by
   simp only[cD,fq,or_false] at hi;rcases hi with rfl|rfl
   .exact⟨_,_,_,_,c3⟩
   exact⟨_,_,_,_,bW⟩)
  rw[Mf Ny hu];refine⟨DO fun i hi=>?_,?_⟩
  .rcases eK.1 hi with h|h
   .simp only[cD,fq,or_false] at h;rcases h with rfl|rfl<;>exact ac.c _ rfl
   have h:=wM i h;simp only[cD,fq,or_false] at h;rcases h with rfl|rfl<;>exact ac.c _ rfl
  simp only[go_sem,ho];refine⟨?_,hK _ _ _ (fun i h1 h2=>?_) rfl ?_ fun i h1=>?_⟩
  .rcases jV with ⟨rfl,rfl⟩|⟨rfl,rfl⟩|⟨rfl,rfl⟩<;>rcases hu4 with h4|h4<;>rw[h4]<;>kernel_rfl
  .simp only[aO];repeat' rw[ay aa]
  .simp only[aO,if_true];rw[show lW (w++[m])=.sl (mP w++[m.ps]) by simp[mP]]
  simp only[cD,fq,or_false,not_or] at h1;obtain⟨n1,n2,n3,n4,n5⟩:=h1;simp only[aO,ay n5];rw[vE i (by simp[n1,n4]),gk i n4 n4];simp only[aO,ay n3]
 have pc:=ak4 vF aa;refine alJ (fun i hi=>?_) pc ti (.inl rfl) fun c1 bh w1 gw bj hw1=>?_
 .simp only[cD,fq,or_false] at hi;subst hi;exact ac.c _ rfl
 have d1:=bj 1472640128 ae;rw[bm] at d1;simp only[go_sem,qE,d1,ho];refine GK (site:=1472768384) (id:=1472768192) (ty:=44) (z:=7) (bytes:=48) (es:=mP w) (xs:=[aP.ps m]) (rd:=[1472768320]) (fun i hi=>?_) (gw.of_eq (by simp only[aO,Nat.reduceEqDiff,if_false])) ?_ (.inl rfl) (by simp only[pL,dC,fe];omega) fun c' ig r1 u1 g1 gk jV=>?_
 .simp only[cD,fq,or_false] at hi;rcases hi with rfl|rfl|rfl<;>exact ac.c _ rfl
 .simp[fU,aO,aP.ps]
 have c3:=gk 1472704193 ae ae;simp only[aO,Nat.reduceEqDiff,if_false,bj 1472704193 ae] at c3;have c3:=c3.trans bC;rcases g1 with ⟨e,_⟩|⟨_,g5,e,bW⟩
 .simp at e
 cases e;have Ny:=XS bN (w++[m]) aa ny;rw[show lW (w++[m])=.sl (mP w++[m.ps]) by simp[mP]] at Ny;have j5:(mP w++[m.ps]).length=w.length+1:=by simp[mP]
 have tk1:List.take M.length (dG M)=dG M:=iz (by rw[cM];exact bR _);have tk2:List.take (w.length+1) (mP w++[m.ps])=mP w++[m.ps]:=iz (Gk j5);simp only[go_sem,h59,c3,bW,j5,tk1,tk2,s43];obtain⟨u,hu,vE,wM,hu4⟩:=XA (aj:=ig) (s:=1472768448) (rd:=[1472704193,1472768384]) (x0:=.int .i64 F) (x1:=cT M) (x2:=.int .i64 F) (x3:=cO (iM M)) (x4:=.sl (mP w++[m.ps])) (l:=S.lone 1472768448) (fun i hi=>by
  simp only[cD,fq,or_false] at hi;rcases hi with rfl|rfl
  .exact⟨_,_,_,_,c3⟩
  exact⟨_,_,_,_,bW⟩)
 rw[Mf Ny hu];refine⟨DO fun i hi=>?_,?_⟩
 .rcases eK.1 hi with h|h
  .simp only[cD,fq,or_false] at h;rcases h with rfl|rfl<;>exact ac.c _ rfl
  have h:=wM i h;simp only[cD,fq,or_false] at h;rcases h with rfl|rfl<;>exact ac.c _ rfl
 simp only[go_sem,ho];refine⟨?_,hK _ _ _ (fun i h1 h2=>?_) rfl ?_ fun i h1=>?_⟩
 .rcases hw1 with rfl|rfl<;>rcases jV with ⟨rfl,rfl⟩|⟨rfl,rfl⟩|⟨rfl,rfl⟩<;>rcases hu4 with h4|h4<;>rw[h4]<;>kernel_rfl
 .simp only[aO];repeat' rw[ay aa]
 .simp only[aO,if_true];rw[show lW (w++[m])=.sl (mP w++[m.ps]) by simp[mP]]
 simp only[cD,fq,or_false,not_or] at h1;obtain⟨n1,n2,n3,n4,n5⟩:=h1;simp only[aO,ay n5];rw[vE i (by simp[n1,n4]),gk i n4 n2];simp only[aO,ay n3];rw[bj i n2]
def ado{al:Al}{Q:dO}{ak:Env}{aj:aB}{os:h_}{d:w_}{p:fH}(h:∀b,b=aj->gP S al p d os Q ak b):gP S al p d os Q ak aj:=h _ rfl
def auh:S.sites 47=[47]:=ah
def auj:S.sites 45=[45]:=ah
def aui:S.sites 24=[24]:=ah
def TD{F:Nat}{L:ai}(h:bQ (F:Int) L=0):F<=40:=by
 by_cases aI:L=[]
 .subst aI;exact aax h
 obtain⟨G,e,g⟩:=rj h aI;have:=g.fing;omega
structure RdC (a:aY) (F:Nat) (ms:g_) (ga gg:Nat) (j:Nat) (ak:Env) (aj:aB):Prop where
 iu:ak 11=.one (.aZ 1472256256 ga 0)
 bA:aj 1472256256=(ga,some (.var [.p (.int .i64 F),.p (cT a.c),.p (.int .i64 F),.p (cT a.n),.p (lW a.w)]))
 MR:ak 46=.one (.hsl 1472448192 gg 7 0 ms.length)
 JP:ak 47=vi ms.length
 yI:ak 48=vi j
 bV:aj 1472448192=(gg,some (.arr fO 7 (mP ms)))
def round{al:Al}{s:Nat}(hq:wP s)(ac:yq al)(bN:ni){F limit:Nat}{L0:ai}{gv gq gM ga gg gi:Nat}{r0:a_}{b0:aB}{a:aY}{ms:g_}{st:j_}{k j:Nat}{m:aP}{ak:Env}{aj:aB}{Q:dO}(iE:limit<=20000)(jq:ms.length<=8000)(hj:ms[j]?=some m)(QE:qO F a.c DM m)(ha:xr F L0 st.length a)
  (hI:xu F limit L0 gv r0 b0 gq gM st k ak aj) (que:CF s gq gi (nC F st) k aj) (hR:RdC a F ms ga gg j ak aj)
  (hN:∀mD (aF:Env) (ao:aB),jD F limit a st m=(0,mD)->xu F limit L0 gv r0 b0 gq gM mD k aF ao->RdC a F ms ga gg (j+1) aF ao->Q .normal aF ao)
  (hX:∀(aF:Env) (ao:aB),(jD F limit a st m).1≠0->EdC F L0 gv r0 b0 (jD F limit a st m) gq aF ao->Q (.exit 0) aF ao):W S al i23_l1 Q ak aj:=by
  obtain⟨e1,e2,e9,rU,bM,_,bv,ne,lim,alls,fr⟩:=hI;obtain⟨bq,bs⟩:=que;obtain⟨iu,bA,MR,JP,yI,bV⟩:=hR;have ho:=ac.fP;have o1:=hq.ok ac;have wI:=hq.ne;have o2:=ac.v;have o3:al.ok 1472448192=true:=ac.c _ rfl;have aw:=(aT.1 hj).1;have aL:((j:Int)<(ms.length:Int)):=aa;have kr:=HX hj;have w1:=cS (n:=j) aa;have aox:(mP ms).length=ms.length:=pL ms;obtain⟨M,oZ,pa,ny,anO,anN,kV⟩:=aqv ha QE;have mf:S.lone 1472704192=false:=ah;have wH:=GF ny;have j5:=ha.len;have yJ:jD F limit a st m=if (st.map (aY.key F)).any (fun s=>pM F (cN M)==s) then (0,st) else if st.length=limit then (1,st) else (if (nK F M).2 then 2 else 0,st++[⟨M,cN M,a.w++[m]⟩]):=by unfold jD;rw[oZ];rfl
  have Ow:aK S 30 [.agg [.p (.int .i64 F),.p (cT a.c)],.agg [.p (.int .i64 m.k),.p (.int .i64 m.a),.p (.int .i64 m.b),.p (.int .i64 m.c),.p (.bool m.l),.p (.bool m.o),.p (.int .i64 m.s)]] (jy F M):=pa;simp only[go_sem,i23_l1,iu,MR,JP,yI,bA,bV,aw,aL,kr,aP.ps,ho,s30];refine anr (fun i hi=>?_) Ow mf rfl rfl (DY _) fun cc bU gc dw=>?_
  .simp only[cD,fq,or_false] at hi;subst hi;exact ac.c _ rfl
  rcases gc with ⟨e,_⟩|⟨_,g2,e,bC⟩
  .exact absurd (List.map_eq_nil_iff.1 e) anO
  cases e;have c0:=dw 1472256256 ae;have c1:=dw 1472640128 ae;have c2:=dw 1472128000 ae;have c3:=dw 1472192192 ae;have c4:=dw s (by rcases hq with rfl|rfl<;>decide);have c5:=dw 384512000 ae;have c6:=dw 1472448192 ae;simp only[go_sem,bA,bM,bq,bs,bv,bV,wI] at c0 c1 c2 c3 c4 c5 c6;have hlM:(dG M).length=M.length:=cM ..;simp only[go_sem,iu,c0,hlM,ho,s46]
  refine asS ac bN (F:=F) (M:=M) (w:=a.w) (m:=m) (g2:=g2) (gm:=(aj 1472640128).1+1) aa ny aa (by simp only[aO,Nat.reduceEqDiff,if_false];exact bC) (by simp only[aO,Nat.reduceEqDiff,if_false];exact c1) rfl rfl fun aF ao g hE iV b19 hB=>?_;have f1:=hE 1 ae ae;have f2:=hE 2 ae ae;have f9:=hE 9 ae ae;have f10:=hE 10 ae ae;have f11:=hE 11 ae ae;have f46:=hE 46 ae ae;have f47:=hE 47 ae ae;have f48:=hE 48 ae ae;simp only[go_sem,e1,e2,e9,rU,iu,MR,JP,yI] at f1 f2 f9 f10 f11 f46 f47 f48;have d0:=hB 1472256256 ae;have d2:=hB 1472128000 ae;have d3:=hB 1472192192 ae;have d4:=hB s (by rcases hq with rfl|rfl<;>decide);have d5:=hB 384512000 ae
  have d6:=hB 1472448192 ae;simp only[go_sem,c0,c2,c3,c4,c5,c6,wI] at d0 d2 d3 d4 d5 d6;have Bs:∀i,¬nH i->i≠384512000->i∉r0->ao i=b0 i:=fun i h1 h2 h3=>by have n1:i≠1472704193:=sv h1 rfl (.inl rfl);have n2:i≠1472704448:=sv h1 rfl (.inl rfl);have n3:i≠1472640128:=sv h1 rfl (.inl rfl);have n4:i≠1472768192:=sv h1 rfl (.inl rfl);have n5:i≠1472768320:=sv h1 rfl (.inl rfl);have n6:i≠1472768384:=sv h1 rfl (.inl rfl);have n7:i≠1472768512:=sv h1 rfl (.inl rfl);rw[hB i (by simp[n1,n4,n5,n6,n7])];simp only[aO,ay n2];rw[dw i n1];simp only[aO,ay n3];exact fr i h1 h2 h3
  clear hE hB dw c0 c1 c2 c3 c4 c5 c6 fr bA bM bq bs bv bV e1 e2 e9 rU iu MR JP yI bC;have pp:=ag6 (F:=(F:Int)) (L:=cN M) ⟨by have:=TD ny;omega,by have:=TD ny;omega⟩ (by have:=DN M;omega) (ahS (FT ny));have a3:(cO (iM M)).norm=cT (cN M):=GB (iM M);have a4:(lW (a.w++[m])).norm=lW (a.w++[m]):=rfl;have eH:(DJ (st.map (aY.key F))).length=st.length:=af;have tR:(nC F st).length=st.length:=Oi F st;have Qw:((st.length:Int)==(limit:Int))=decide (st.length=limit):=by
   by_cases h:st.length=limit
   .rw[h];simp
   rw[Eo h,lS];omega
  rcases amS (pM F (cN M)) (st.map (aY.key F)) 0 with ⟨hf,jj,fk⟩|⟨hf,fk⟩
  .rw[hf,aD rfl] at yJ;simp only[go_sem,f9,f48,iV,b19,a3,d2,s44,GY pp,mapOf,mapVal,iZ,fk,w1,ho];refine hN st _ _ yJ ⟨?_,?_,?_,?_,d2,⟨s,hq,gi,by rw[tR];exact d3,d4⟩,d5,ne,lim,alls,Bs⟩ ⟨?_,d0,?_,?_,?_,d6⟩;all_goals(simp only[go_sem,f1,f2,f9,f10,f11,f46,f47,f48];first|done|rfl)
  rw[hf] at yJ;simp only[dN,if_false] at yJ;cases hL:decide (st.length=limit) with
  |true=>rw[aD (qu hL)] at yJ;rw[hL] at Qw;simp only[go_sem,f1,f9,f10,f48,iV,b19,a3,d2,d3,Qw,s44,GY pp,mapOf,mapVal,iZ,fk,Option.map_none,w1,ho];have MV:=hX;rw[yJ] at MV;refine MV _ _ (by show(1:Nat)≠0;decide) ⟨?_,⟨k,s,hq,gi,by rw[tR];exact d3,d4⟩,d5,ne,alls,Bs⟩;simp only[go_sem,f10];first|done|rfl
  |false=>
   rw[ay (ib hL)] at yJ;rw[hL] at Qw;simp only[go_sem,f1,f9,f10,iV,b19,a3,d2,d3,d4,Qw,s44,GY pp,mapOf,mapVal,iZ,yy,fk,Option.map_none,ho,s47];refine ado fun bh bj=>?_;have g2:bh 1472128000=(gM,some (.map false (DJ (st.map (aY.key F))++[(.str (pM F (cN M)),[.bool true])]))):=by rw[bj];simp only[aO,if_true];try rfl
   have aoC:nC F st≠[]:=by simpa using ne
   have kp:∀i,i≠1472128000->bh i=ao i:=fun i h=>by rw[bj];simp only[aO,ay h]
   have k3:=(kp 1472192192 ae).trans d3;have k4:=(kp s (by rcases hq with rfl|rfl<;>decide)).trans d4;have k5:=(kp 384512000 ae).trans d5;have k6:=(kp 1472448192 ae).trans d6;have k0:=(kp 1472256256 ae).trans d0;have k19:=(kp 1472768512 ae).trans b19;have fr3:∀i,¬nH i->i≠384512000->i∉r0->bh i=b0 i:=fun i h1 h2 h3=>(kp i (sv h1 rfl (.inl rfl))).trans (Bs i h1 h2 h3)
   clear bj kp Bs;have uG:((([V.one (.aZ 1472192192 gq 0),V.agg [.p (.int .i64 F),.p (cT M),.p (.int .i64 F),.p (cO (iM M)),.p (lW (a.w++[m]))]]:e_).map (jN bh)).flatten)=[1472192192,s]:=by
    have r1:jN bh (.one (.aZ 1472192192 gq 0))=[1472192192,s]:=by rw[K5 k3];simp only[eh,lQ,mX,IE,jA];rw[DW (n:=4) k4,K4];rfl
    rw[eh,eh,lQ,r1];rfl
   have MX:=ajs hq (al:=allow (S.ctx al) 47 [V.one (.aZ 1472192192 gq 0),V.agg [.p (.int .i64 F),.p (cT M),.p (.int .i64 F),.p (cO (iM M)),.p (lW (a.w++[m]))]] bh) (aj:=bh) (gq:=gq) (gi:=gi) (k:=k) (es:=nC F st) (x0:=.int .i64 F) (x1:=cT M) (x2:=.int .i64 F) (x3:=cO (iM M)) (x4:=lW (a.w++[m])) (tD (by rw[uG];simp)) (tD (by rw[uG];simp)) (vZ ah) (vZ ah) (vZ ah) ⟨by rw[tR];exact k3,k4⟩ aoC (by rw[tR];omega);rw[a3] at MX;refine sR (holds_of (by show al.fP (List.flatten _)=true;rw[uG];simp only[KQ,Ia,ho,o1,yg]) (by show(S.sites 47).all al.fs.contains=true;rw[auh];simp only[mH,pQ,ac.a,yg])) MX fun v3 ig hP=>?_
   obtain⟨rfl,⟨g5,bq3,bs3⟩,JV⟩:=hP;have m5:=JV 384512000 ae ae (by rcases hq with rfl|rfl<;>decide);have m6:=JV 1472448192 ae ae (by rcases hq with rfl|rfl<;>decide);have m0:=JV 1472256256 ae ae (by rcases hq with rfl|rfl<;>decide);have m2:=JV 1472128000 ae ae (by rcases hq with rfl|rfl<;>decide);have m19:=JV 1472768512 ae ae (by rcases hq with rfl|rfl<;>decide);rw[k5] at m5;rw[k6] at m6;rw[k0] at m0;rw[g2] at m2;rw[k19] at m19
   have fr4:∀i,¬nH i->i≠384512000->i∉r0->ig i=b0 i:=fun i h1 h2 h3=>(JV i (fun h=>h1 (.inr (.inr (.inl h)))) (sv h1 rfl (.inl rfl)) (hq.no h1)).trans (fr3 i h1 h2 h3);have pr:=Yq ny;simp only[go_sem,f2,iV,m19,ho,s24];have uH:((([V.agg [.p (.int .i64 F),.p (cT M),.p (.int .i64 F),.p (cO (iM M)),.p (lW (a.w++[m]))],V.one (.aZ 384512000 gv 0)]:e_).map (jN ig)).flatten)=[384512000]:=by
    have r1:jN ig (.one (.aZ 384512000 gv 0))=[384512000]:=by rw[K5 m5];rfl
    rw[eh,eh,lQ,r1];rfl
   have cV:=au0 (al:=allow (S.ctx al) 24 [V.agg [.p (.int .i64 F),.p (cT M),.p (.int .i64 F),.p (cO (iM M)),.p (lW (a.w++[m]))],V.one (.aZ 384512000 gv 0)] ig) (aj:=ig) (gv:=gv) (F:=F) (L:=M) (x2:=.int .i64 F) (x3:=cO (iM M)) (x4:=lW (a.w++[m])) (b0:=false) pr.1 (tD (by rw[uH];simp)) (vZ ah) (vZ ah) m5;refine sR (holds_of (by show al.fP (List.flatten _)=true;rw[uH];simp only[KQ,Ia,o2,yg]) (by show(S.sites 24).all al.fs.contains=true;rw[aui];simp only[mH,pQ,ac.s,yg])) cV fun v4 jE hP=>?_
   obtain⟨rfl,bv4,JW⟩:=hP;have n0:=(JW 1472256256 ae ae).trans m0;have n2:=(JW 1472128000 ae ae).trans m2;have n3:=(JW 1472192192 ae ae).trans bq3;have n4:=(JW 3008064448 ae ae).trans bs3;have n6:=(JW 1472448192 ae ae).trans m6;have fr5:∀i,¬nH i->i≠384512000->i∉r0->jE i=b0 i:=fun i h1 h2 h3=>(JW i (fun h=>h1 (.inr (.inr (.inr h)))) h2).trans (fr4 i h1 h2 h3);have xM:nC F st++[[.int .i64 F,cT M,.int .i64 F,cT (cN M),lW (a.w++[m])]]=nC F (st++[(⟨M,cN M,a.w++[m]⟩:aY)]):=by simp[aY.ps]
   have Ns:DJ (st.map (aY.key F))++[(.str (pM F (cN M)),[.bool true])]=DJ ((st++[(⟨M,cN M,a.w++[m]⟩:aY)]).map (aY.key F)):=by simp[aY.key]
   have hq3:CF 3008064448 gq g5 (nC F (st++[(⟨M,cN M,a.w++[m]⟩:aY)])) k jE:=by rw[<- xM];exact⟨n3,n4⟩
   rw[Ns] at n2;have aec:(st++[(⟨M,cN M,a.w++[m]⟩:aY)]).length=st.length+1:=af;have NB:(st++[(⟨M,cN M,a.w++[m]⟩:aY)])≠[]:=af;have hL2:=ib hL;have dQ:∀x∈st++[(⟨M,cN M,a.w++[m]⟩:aY)],xr F L0 (st++[(⟨M,cN M,a.w++[m]⟩:aY)]).length x:=fun x hx=>by
    rw[aec];rcases eK.1 hx with h|h
    .exact(alls x h).mono aa
    rw[k9.1 h];refine⟨ny,rfl,kV,fun y hy=>?_,by show(a.w++[m]).length<=_;rw[fS];simp only[dC,fe];omega,anN.trans ha.same⟩;rcases eK.1 hy with h|h
    .exact ha.kind y h
    rw[k9.1 h];exact QE.1
   clear MX cV pr uH uG;cases hb:(nK F M).2 with
   |true=>rw[hb,aD rfl] at yJ;rw[hb] at bv4;have MV:=hX;rw[yJ] at MV;simp only[go_sem,f48];refine MV _ _ (by show(2:Nat)≠0;decide) ⟨?_,⟨k,_,.inr rfl,g5,hq3⟩,bv4,NB,dQ,fr5⟩;simp only[go_sem,f10];first|done|rfl
   |false=>rw[hb] at yJ bv4;simp only[dN,if_false] at yJ;simp only[go_sem,f48,w1];refine hN _ _ _ yJ ⟨?_,?_,?_,?_,n2,⟨_,.inr rfl,g5,hq3⟩,bv4,NB,by rw[aec];omega,dQ,fr5⟩ ⟨?_,n0,?_,?_,?_,n6⟩;all_goals(simp only[go_sem,f1,f2,f9,f10,f11,f46,f47,f48];first|done|rfl)
end Go.Abs
