/- A part. -/
import Derived.Test.YtfohniicngjeoaaGreatDoorRe
set_option linter.all false
set_option maxRecDepth 100000
set_option maxHeartbeats 16000000
namespace Go.Abs
theorem ahU:aI S 52 [.one (.p (.sl []))] (.one (.p .zs)):=⟨1,ah⟩
theorem apj{al:Al}(ac:wU al)(cq:nQ){F:Nat}{M:List Let}{w:List bd}{m:bd}{ak:Env}{aj:aA}{Q2:dA}{g2 gm:Nat}(hw:w.length<=100000)(qJ:cU (F:Int) M=0)(hMl:M.length<=1000000)
  (bC:aj 1664704193=(g2,some (.arr jI 6 (dw M)))) (bm:aj 1664640128=(gm,some (.var [.p (.int .i64 m.k),.p (.int .i64 m.a),.p (.int .i64 m.b),.p (.int .i64 m.c),.p (.bool m.l),.p (.bool m.o),.p (.int .i64 m.s)])))
  (h59:ak 59=.agg [.p (.int .i64 F),.hsl 1664704193 g2 6 0 M.length]) (oQ:ak 16=.one (.aY 1664640128 gm 0))
  (hK:∀(aC:Env) (ao:aA) (g:Nat),(∀i,i<59->i≠19->aC i=ak i)->aC 19=.one (.aY 1664768512 g 0)->ao 1664768512=(g,some (.var [.p (.int .i64 F),.p (cF M),.p (.int .i64 F),.p (cO (jV M)),.p (kK (w++[m]))]))->
   (∀i,i∉[1664704193,1664768192,1664768320,1664768384,1664768512]->ao i=aj i)->Q2 .normal aC ao):
  dP S al (.pc 52 [.one (.p (kK w))] [] 1664768192) (some 62) [ox 59 2 17,of 60 4 11,dl 61 60 2,dc 62 1664768192 52 [.t 61] 6,ox 63 7 16,od 64 (.fi 1664768320 55 7 [.t 63]) 16,od 65 (.append 1664768384 55 7 48 (.t 62) (.t 64)) 62,dc 66 1664768448 48 [.t 59,.t 65] 127,oo 19 (.alloc 1664768512 [il 0,.nils,il 0,.nils,.nils]),⟨none,.store 5 (.t 19) (.t 66),none,511⟩] [ox 63 7 16,od 64 (.fi 1664768320 55 7 [.t 63]) 16,od 65 (.append 1664768384 55 7 48 (.t 62) (.t 64)) 62,dc 66 1664768448 48 [.t 59,.t 65] 127,oo 19 (.alloc 1664768512 [il 0,.nils,il 0,.nils,.nils]),⟨none,.store 5 (.t 19) (.t 66),none,511⟩] Q2 ak aj [⟨[1664704448],[],[]⟩,⟨[],[],[]⟩,⟨[1664256256],[],[]⟩]:=by
 have ho:=ac.fD;have vn:S.lone 1664768192=false:=ah;have ch:([bd.ps m].all fun e=>e.length==7)=true:=rfl;by_cases uE:w=[]
 .have hz0:kK w=.sl []:=by rw[uE];rfl
  have vc:land aj [] 1664768192 ((RV.one (.p .zs)).gK (S.lone 1664768192))=some (.one (.p .zs),[]):=by rw[vn];rfl
  rw[hz0,KL ahU vc];refine⟨rfl,?_⟩;simp only[go_sem,oQ,bm,ho];refine ail (site:=1664768384) (ty:=55) (z:=7) (bytes:=48) (xs:=[bd.ps m]) (rd:=[1664768320]) (fun i hi=>?_) ?_ af (.inl rfl) (by simp only[dh,ff];omega) fun c' gT r1 u1 g1 hJ jv=>?_
  .simp only[cP,jz,or_false] at hi;rcases hi with rfl|rfl<;>exact ac.c _ rfl
  .simp[fF,aN,bd.ps]
  have g1:grown 1664768384 55 7 (mP w++[bd.ps m]) (.one c') gT:=by rw[uE];exact g1
  have c3:=hJ 1664704193 ae ae;simp only[aN,Nat.reduceEqDiff,if_false] at c3;have c3:=c3.trans bC;rcases g1 with ⟨e,_⟩|⟨_,g5,e,bW⟩
  .simp at e
  cases e;have L9:=Vx cq (w++[m]) aa qJ;rw[show kK (w++[m])=.sl (mP w++[m.ps]) by simp[mP]] at L9;have lL:(mP w++[m.ps]).length=w.length+1:=by simp[mP]
  have tk1:List.take M.length (dw M)=dw M:=gR (by rw[cM];exact bN _);have tk2:List.take (w.length+1) (mP w++[m.ps])=mP w++[m.ps]:=gR (Fb lL);simp only[go_sem,h59,c3,bW,lL,tk1,tk2,s48];obtain⟨u,hu,uD,vj,hu4⟩:=Vk (aj:=gT) (s:=1664768448) (rd:=[1664704193,1664768384]) (x0:=.int .i64 F) (x1:=cF M) (x2:=.int .i64 F) (x3:=cO (jV M)) (x4:=.sl (mP w++[m.ps])) (l:=S.lone 1664768448) (fun i hi=>by
   simp only[cP,jz,or_false] at hi;rcases hi with rfl|rfl
   .exact⟨_,_,_,_,c3⟩
   exact⟨_,_,_,_,bW⟩)
  rw[KL L9 hu];refine⟨CK fun i hi=>?_,?_⟩
  .rcases fg.1 hi with h|h
   .simp only[cP,jz,or_false] at h;rcases h with rfl|rfl<;>exact ac.c _ rfl
   have h:=vj i h;simp only[cP,jz,or_false] at h;rcases h with rfl|rfl<;>exact ac.c _ rfl
  simp only[go_sem,ho];refine⟨?_,hK _ _ _ (fun i h1 h2=>?_) rfl ?_ fun i h1=>?_⟩
  .rcases jv with ⟨rfl,rfl⟩|⟨rfl,rfl⟩|⟨rfl,rfl⟩<;>rcases hu4 with h4|h4<;>rw[h4]<;>kernel_rfl
  .simp only[aN];repeat' rw[if_neg aa]
  .simp only[aN,if_true];rw[show kK (w++[m])=.sl (mP w++[m.ps]) by simp[mP]]
  simp only[cP,jz,or_false,not_or] at h1;obtain⟨n1,n2,n3,n4,n5⟩:=h1;simp only[aN,if_neg n5];rw[uD i (by simp[n1,n4]),hJ i n4 n4];simp only[aN,if_neg n3]
 have pc:=ahT uE aa;refine aim (fun i hi=>?_) pc vn (.inl rfl) fun c1 bh w1 gw bj hw1=>?_
 .simp only[cP,jz,or_false] at hi;subst hi;exact ac.c _ rfl
 have d1:=bj 1664640128 ae;rw[bm] at d1;simp only[go_sem,oQ,d1,ho];refine Fz (site:=1664768384) (id:=1664768192) (ty:=55) (z:=7) (bytes:=48) (es:=mP w) (xs:=[bd.ps m]) (rd:=[1664768320]) (fun i hi=>?_) (gw.of_eq (by simp only[aN,Nat.reduceEqDiff,if_false])) ?_ (.inl rfl) (by simp only[oz,dh,ff];omega) fun c' gT r1 u1 g1 hJ jv=>?_
 .simp only[cP,jz,or_false] at hi;rcases hi with rfl|rfl|rfl<;>exact ac.c _ rfl
 .simp[fF,aN,bd.ps]
 have c3:=hJ 1664704193 ae ae;simp only[aN,Nat.reduceEqDiff,if_false,bj 1664704193 ae] at c3;have c3:=c3.trans bC;rcases g1 with ⟨e,_⟩|⟨_,g5,e,bW⟩
 .simp at e
 cases e;have L9:=Vx cq (w++[m]) aa qJ;rw[show kK (w++[m])=.sl (mP w++[m.ps]) by simp[mP]] at L9;have lL:(mP w++[m.ps]).length=w.length+1:=by simp[mP]
 have tk1:List.take M.length (dw M)=dw M:=gR (by rw[cM];exact bN _);have tk2:List.take (w.length+1) (mP w++[m.ps])=mP w++[m.ps]:=gR (Fb lL);simp only[go_sem,h59,c3,bW,lL,tk1,tk2,s48];obtain⟨u,hu,uD,vj,hu4⟩:=Vk (aj:=gT) (s:=1664768448) (rd:=[1664704193,1664768384]) (x0:=.int .i64 F) (x1:=cF M) (x2:=.int .i64 F) (x3:=cO (jV M)) (x4:=.sl (mP w++[m.ps])) (l:=S.lone 1664768448) (fun i hi=>by
  simp only[cP,jz,or_false] at hi;rcases hi with rfl|rfl
  .exact⟨_,_,_,_,c3⟩
  exact⟨_,_,_,_,bW⟩)
 rw[KL L9 hu];refine⟨CK fun i hi=>?_,?_⟩
 .rcases fg.1 hi with h|h
  .simp only[cP,jz,or_false] at h;rcases h with rfl|rfl<;>exact ac.c _ rfl
  have h:=vj i h;simp only[cP,jz,or_false] at h;rcases h with rfl|rfl<;>exact ac.c _ rfl
 simp only[go_sem,ho];refine⟨?_,hK _ _ _ (fun i h1 h2=>?_) rfl ?_ fun i h1=>?_⟩
 .rcases hw1 with rfl|rfl<;>rcases jv with ⟨rfl,rfl⟩|⟨rfl,rfl⟩|⟨rfl,rfl⟩<;>rcases hu4 with h4|h4<;>rw[h4]<;>kernel_rfl
 .simp only[aN];repeat' rw[if_neg aa]
 .simp only[aN,if_true];rw[show kK (w++[m])=.sl (mP w++[m.ps]) by simp[mP]]
 simp only[cP,jz,or_false,not_or] at h1;obtain⟨n1,n2,n3,n4,n5⟩:=h1;simp only[aN,if_neg n5];rw[uD i (by simp[n1,n4]),hJ i n4 n2];simp only[aN,if_neg n3];rw[bj i n2]
theorem aas{al:Al}{Q:dA}{ak:Env}{aj:aA}{os:List aO}{d:Option Nat}{p:ft}(h:∀b,b=aj->gP S al p d os Q ak b):gP S al p d os Q ak aj:=h _ rfl
theorem aqz:S.sites 53=[53]:=ah
theorem aqB:S.sites 50=[50]:=ah
theorem aqA:S.sites 27=[27]:=ah
theorem Rr{F:Nat}{L:List Let}(h:cU (F:Int) L=0):F<=40:=by
 by_cases aH:L=[]
 .subst aH;exact XR h
 obtain⟨G,e,g⟩:=xg h aH;have:=g.fing;omega
structure Fh (a:cN) (F:Nat) (ms:List bd) (ga gg:Nat) (j:Nat) (ak:Env) (aj:aA):Prop where
 fK:ak 11=.one (.aY 1664256256 ga 0)
 bA:aj 1664256256=(ga,some (.var [.p (.int .i64 F),.p (cF a.c),.p (.int .i64 F),.p (cF a.n),.p (kK a.w)]))
 Lq:ak 46=.one (.hsl 1664448192 gg 7 0 ms.length)
 Iq:ak 47=vi ms.length
 xu:ak 48=vi j
 bV:aj 1664448192=(gg,some (.arr gC 7 (mP ms)))
theorem round{al:Al}{s:Nat}(hq:vl s)(ac:wU al)(cq:nQ){F limit:Nat}{L0:List Let}{gv gq gM ga gg gi:Nat}{r0:List Nat}{b0:aA}{a:cN}{ms:List bd}{st:List cN}{k j:Nat}{m:bd}{ak:Env}{aj:aA}{Q:dA}(j7:limit<=20000)(oZ:ms.length<=8000)(hj:ms[j]?=some m)(OX:rU F a.c EE m)(ha:vI F L0 st.length a)
  (hI:vJ F limit L0 gv r0 b0 gq gM st k ak aj) (que:By s gq gi (mv F st) k aj) (hR:Fh a F ms ga gg j ak aj)
  (hN:∀lO (aC:Env) (ao:aA),pR F limit a st m=(0,lO)->vJ F limit L0 gv r0 b0 gq gM lO k aC ao->Fh a F ms ga gg (j+1) aC ao->Q .normal aC ao)
  (hX:∀(aC:Env) (ao:aA),(pR F limit a st m).1≠0->Kh F L0 gv r0 b0 (pR F limit a st m) gq aC ao->Q (.exit 0) aC ao):W S al i26_l1 Q ak aj:=by
  obtain⟨e1,e2,e9,qC,bM,_,bv,ne,lim,alls,fr⟩:=hI;obtain⟨bq,bs⟩:=que;obtain⟨fK,bA,Lq,Iq,xu,bV⟩:=hR;have ho:=ac.fD;have o1:=hq.ok ac;have sJ:=hq.ne;have o2:=ac.v;have o3:al.ok 1664448192=true:=ac.c _ rfl;have ay:=(aW.1 hj).1;have aJ:((j:Int)<(ms.length:Int)):=aa;have jP:=I8 hj;have w1:=cn (n:=j) aa;have akX:(mP ms).length=ms.length:=oz ms;obtain⟨M,oU,pa,qJ,akk,akj,vg⟩:=am3 ha OX;have lY:S.lone 1664704192=false:=ah;have rJ:=Dv qJ;have lL:=ha.len;have xv:pR F limit a st m=if (st.map (cN.key F)).any (fun s=>A5 F (fB M)==s) then (0,st) else if st.length=limit then (1,st) else (if (zx F M).2 then 2 else 0,st++[⟨M,fB M,a.w++[m]⟩]):=by unfold pR;rw[oU];rfl
  have MZ:aI S 47 [.agg [.p (.int .i64 F),.p (cF a.c)],.agg [.p (.int .i64 m.k),.p (.int .i64 m.a),.p (.int .i64 m.b),.p (.int .i64 m.c),.p (.bool m.l),.p (.bool m.o),.p (.int .i64 m.s)]] (rX F M):=pa;simp only[go_sem,i26_l1,fK,Lq,Iq,xu,bA,bV,ay,aJ,jP,bd.ps,ho,s47];refine ajY (fun i hi=>?_) MZ lY rfl rfl (GM _) fun cc bK gc cD=>?_
  .simp only[cP,jz,or_false] at hi;subst hi;exact ac.c _ rfl
  rcases gc with ⟨e,_⟩|⟨_,g2,e,bC⟩
  .exact absurd (List.map_eq_nil_iff.1 e) akk
  cases e;have c0:=cD 1664256256 ae;have c1:=cD 1664640128 ae;have c2:=cD 1664128000 ae;have c3:=cD 1664192192 ae;have c4:=cD s (by rcases hq with rfl|rfl<;>decide);have c5:=cD 512512000 ae;have c6:=cD 1664448192 ae;simp only[go_sem,bA,bM,bq,bs,bv,bV,sJ] at c0 c1 c2 c3 c4 c5 c6;have hlM:(dw M).length=M.length:=cM ..;simp only[go_sem,fK,c0,hlM,ho,s52]
  refine apj ac cq (F:=F) (M:=M) (w:=a.w) (m:=m) (g2:=g2) (gm:=(aj 1664640128).1+1) aa qJ aa (by simp only[aN,Nat.reduceEqDiff,if_false];exact bC) (by simp only[aN,Nat.reduceEqDiff,if_false];exact c1) rfl rfl fun aC ao g hE iB b19 hB=>?_;have f1:=hE 1 ae ae;have f2:=hE 2 ae ae;have f9:=hE 9 ae ae;have f10:=hE 10 ae ae;have f11:=hE 11 ae ae;have f46:=hE 46 ae ae;have f47:=hE 47 ae ae;have f48:=hE 48 ae ae;simp only[go_sem,e1,e2,e9,qC,fK,Lq,Iq,xu] at f1 f2 f9 f10 f11 f46 f47 f48;have d0:=hB 1664256256 ae;have d2:=hB 1664128000 ae;have d3:=hB 1664192192 ae;have d4:=hB s (by rcases hq with rfl|rfl<;>decide);have d5:=hB 512512000 ae
  have d6:=hB 1664448192 ae;simp only[go_sem,c0,c2,c3,c4,c5,c6,sJ] at d0 d2 d3 d4 d5 d6;have zY:∀i,¬mw i->i≠512512000->i∉r0->ao i=b0 i:=fun i h1 h2 h3=>by have n1:i≠1664704193:=qR h1 rfl (.inl rfl);have n2:i≠1664704448:=qR h1 rfl (.inl rfl);have n3:i≠1664640128:=qR h1 rfl (.inl rfl);have n4:i≠1664768192:=qR h1 rfl (.inl rfl);have n5:i≠1664768320:=qR h1 rfl (.inl rfl);have n6:i≠1664768384:=qR h1 rfl (.inl rfl);have n7:i≠1664768512:=qR h1 rfl (.inl rfl);rw[hB i (by simp[n1,n4,n5,n6,n7])];simp only[aN,if_neg n2];rw[cD i n1];simp only[aN,if_neg n3];exact fr i h1 h2 h3
  clear hE hB cD c0 c1 c2 c3 c4 c5 c6 fr bA bM bq bs bv bV e1 e2 e9 qC fK Lq Iq xu bC;have pp:=aeg (F:=(F:Int)) (L:=fB M) ⟨by have:=Rr qJ;omega,by have:=Rr qJ;omega⟩ (by have:=GA M;omega) (aeZ (VF qJ));have a3:(cO (jV M)).norm=cF (fB M):=Rm (jV M);have a4:(kK (a.w++[m])).norm=kK (a.w++[m]):=rfl;have dU:(CF (st.map (cN.key F))).length=st.length:=af;have sN:(mv F st).length=st.length:=MK F st;have OR:((st.length:Int)==(limit:Int))=decide (st.length=limit):=by
   by_cases h:st.length=limit
   .rw[h];simp
   rw[decide_eq_false h,beq_eq_false_iff_ne];omega
  rcases ajs (A5 F (fB M)) (st.map (cN.key F)) 0 with ⟨hf,jj,fk⟩|⟨hf,fk⟩
  .rw[hf,if_pos rfl] at xv;simp only[go_sem,f9,f48,iB,b19,a3,d2,s49,FK pp,mapOf,mapVal,iC,fk,w1,ho];refine hN st _ _ xv ⟨?_,?_,?_,?_,d2,⟨s,hq,gi,by rw[sN];exact d3,d4⟩,d5,ne,lim,alls,zY⟩ ⟨?_,d0,?_,?_,?_,d6⟩;all_goals(simp only[go_sem,f1,f2,f9,f10,f11,f46,f47,f48];first|done|rfl)
  rw[hf] at xv;simp only[dL,if_false] at xv;cases hL:decide (st.length=limit) with
  |true=>rw[if_pos (of_decide_eq_true hL)] at xv;rw[hL] at OR;simp only[go_sem,f1,f9,f10,f48,iB,b19,a3,d2,d3,OR,s49,FK pp,mapOf,mapVal,iC,fk,Option.map_none,w1,ho];have Lt:=hX;rw[xv] at Lt;refine Lt _ _ (by show(1:Nat)≠0;decide) ⟨?_,⟨k,s,hq,gi,by rw[sN];exact d3,d4⟩,d5,ne,alls,zY⟩;simp only[go_sem,f10];first|done|rfl
  |false=>
   rw[if_neg (of_decide_eq_false hL)] at xv;rw[hL] at OR;simp only[go_sem,f1,f9,f10,iB,b19,a3,d2,d3,d4,OR,s49,FK pp,mapOf,mapVal,iC,w8,fk,Option.map_none,ho,s53];refine aas fun bh bj=>?_;have g2:bh 1664128000=(gM,some (.map false (CF (st.map (cN.key F))++[(.str (A5 F (fB M)),[.bool true])]))):=by rw[bj];simp only[aN,if_true];try rfl
   have ak2:mv F st≠[]:=by simpa using ne
   have kp:∀i,i≠1664128000->bh i=ao i:=fun i h=>by rw[bj];simp only[aN,if_neg h]
   have k3:=(kp 1664192192 ae).trans d3;have k4:=(kp s (by rcases hq with rfl|rfl<;>decide)).trans d4;have k5:=(kp 512512000 ae).trans d5;have k6:=(kp 1664448192 ae).trans d6;have k0:=(kp 1664256256 ae).trans d0;have k19:=(kp 1664768512 ae).trans b19;have fr3:∀i,¬mw i->i≠512512000->i∉r0->bh i=b0 i:=fun i h1 h2 h3=>(kp i (qR h1 rfl (.inl rfl))).trans (zY i h1 h2 h3)
   clear bj kp zY;have tG:((([V.one (.aY 1664192192 gq 0),V.agg [.p (.int .i64 F),.p (cF M),.p (.int .i64 F),.p (cO (jV M)),.p (kK (a.w++[m]))]]:List V).map (jm bh)).flatten)=[1664192192,s]:=by
    have r1:jm bh (.one (.aY 1664192192 gq 0))=[1664192192,s]:=by rw[Jv k3];simp only[dS,kQ,l8,Hb,kN];rw[CQ (n:=4) k4,Ju];rfl
    rw[dS,dS,kQ,r1];rfl
   have Lv:=agn hq (al:=allow (S.ctx al) 53 [V.one (.aY 1664192192 gq 0),V.agg [.p (.int .i64 F),.p (cF M),.p (.int .i64 F),.p (cO (jV M)),.p (kK (a.w++[m]))]] bh) (aj:=bh) (gq:=gq) (gi:=gi) (k:=k) (es:=mv F st) (x0:=.int .i64 F) (x1:=cF M) (x2:=.int .i64 F) (x3:=cO (jV M)) (x4:=kK (a.w++[m])) (se (by rw[tG];simp)) (se (by rw[tG];simp)) (uR ah) (uR ah) (uR ah) ⟨by rw[sN];exact k3,k4⟩ ak2 (by rw[sN];omega);rw[a3] at Lv;refine rC (holds_of (by show al.fD (List.flatten _)=true;rw[tG];simp only[Jj,GB,ho,o1,wN]) (by show(S.sites 53).all al.fs.contains=true;rw[aqz];simp only[mB,pM,ac.a,wN])) Lv fun v3 gT hP=>?_
   obtain⟨rfl,⟨g5,bq3,bs3⟩,IA⟩:=hP;have m5:=IA 512512000 ae ae (by rcases hq with rfl|rfl<;>decide);have m6:=IA 1664448192 ae ae (by rcases hq with rfl|rfl<;>decide);have m0:=IA 1664256256 ae ae (by rcases hq with rfl|rfl<;>decide);have m2:=IA 1664128000 ae ae (by rcases hq with rfl|rfl<;>decide);have m19:=IA 1664768512 ae ae (by rcases hq with rfl|rfl<;>decide);rw[k5] at m5;rw[k6] at m6;rw[k0] at m0;rw[g2] at m2;rw[k19] at m19
   have fr4:∀i,¬mw i->i≠512512000->i∉r0->gT i=b0 i:=fun i h1 h2 h3=>(IA i (fun h=>h1 (.inr (.inr (.inl h)))) (qR h1 rfl (.inl rfl)) (hq.no h1)).trans (fr3 i h1 h2 h3);have pr:=aeo qJ;simp only[go_sem,f2,iB,m19,ho,s27];have Gg:((([V.agg [.p (.int .i64 F),.p (cF M),.p (.int .i64 F),.p (cO (jV M)),.p (kK (a.w++[m]))],V.one (.aY 512512000 gv 0)]:List V).map (jm gT)).flatten)=[512512000]:=by
    have r1:jm gT (.one (.aY 512512000 gv 0))=[512512000]:=by rw[Jv m5];rfl
    rw[dS,dS,kQ,r1];rfl
   have cQ:=arl (al:=allow (S.ctx al) 27 [V.agg [.p (.int .i64 F),.p (cF M),.p (.int .i64 F),.p (cO (jV M)),.p (kK (a.w++[m]))],V.one (.aY 512512000 gv 0)] gT) (aj:=gT) (gv:=gv) (F:=F) (L:=M) (x2:=.int .i64 F) (x3:=cO (jV M)) (x4:=kK (a.w++[m])) (b0:=false) pr.1 (se (by rw[Gg];simp)) (uR ah) (uR ah) m5;refine rC (holds_of (by show al.fD (List.flatten _)=true;rw[Gg];simp only[Jj,GB,o2,wN]) (by show(S.sites 27).all al.fs.contains=true;rw[aqA];simp only[mB,pM,ac.s,wN])) cQ fun v4 je hP=>?_
   obtain⟨rfl,bv4,IB⟩:=hP;have n0:=(IB 1664256256 ae ae).trans m0;have n2:=(IB 1664128000 ae ae).trans m2;have n3:=(IB 1664192192 ae ae).trans bq3;have n4:=(IB 3392064448 ae ae).trans bs3;have n6:=(IB 1664448192 ae ae).trans m6;have fr5:∀i,¬mw i->i≠512512000->i∉r0->je i=b0 i:=fun i h1 h2 h3=>(IB i (fun h=>h1 (.inr (.inr (.inr h)))) h2).trans (fr4 i h1 h2 h3);have wg:mv F st++[[.int .i64 F,cF M,.int .i64 F,cF (fB M),kK (a.w++[m])]]=mv F (st++[(⟨M,fB M,a.w++[m]⟩:cN)]):=by simp[cN.ps]
   have L3:CF (st.map (cN.key F))++[(.str (A5 F (fB M)),[.bool true])]=CF ((st++[(⟨M,fB M,a.w++[m]⟩:cN)]).map (cN.key F)):=by simp[cN.key]
   have hq3:By 3392064448 gq g5 (mv F (st++[(⟨M,fB M,a.w++[m]⟩:cN)])) k je:=by rw[<- wg];exact⟨n3,n4⟩
   rw[L3] at n2;have abb:(st++[(⟨M,fB M,a.w++[m]⟩:cN)]).length=st.length+1:=af;have abi:(st++[(⟨M,fB M,a.w++[m]⟩:cN)])≠[]:=af;have hL2:=of_decide_eq_false hL;have dy:∀x∈st++[(⟨M,fB M,a.w++[m]⟩:cN)],vI F L0 (st++[(⟨M,fB M,a.w++[m]⟩:cN)]).length x:=fun x hx=>by
    rw[abb];rcases fg.1 hx with h|h
    .exact(alls x h).mono aa
    rw[pO.1 h];refine⟨qJ,rfl,vg,fun y hy=>?_,by show(a.w++[m]).length<=_;rw[gh];simp only[dh,ff];omega,akj.trans ha.same⟩;rcases fg.1 hy with h|h
    .exact ha.kind y h
    rw[pO.1 h];exact OX.1
   clear Lv cQ pr Gg tG;cases hb:(zx F M).2 with
   |true=>rw[hb,if_pos rfl] at xv;rw[hb] at bv4;have Lt:=hX;rw[xv] at Lt;simp only[go_sem,f48];refine Lt _ _ (by show(2:Nat)≠0;decide) ⟨?_,⟨k,_,.inr rfl,g5,hq3⟩,bv4,abi,dy,fr5⟩;simp only[go_sem,f10];first|done|rfl
   |false=>rw[hb] at xv bv4;simp only[dL,if_false] at xv;simp only[go_sem,f48,w1];refine hN _ _ _ xv ⟨?_,?_,?_,?_,n2,⟨_,.inr rfl,g5,hq3⟩,bv4,abi,by rw[abb];omega,dy,fr5⟩ ⟨?_,n0,?_,?_,?_,n6⟩;all_goals(simp only[go_sem,f1,f2,f9,f10,f11,f46,f47,f48];first|done|rfl)
end Go.Abs
