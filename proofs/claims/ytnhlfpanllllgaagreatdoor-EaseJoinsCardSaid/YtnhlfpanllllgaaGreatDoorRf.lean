/- A part. -/
import Derived.Test.YtnhlfpanllllgaaGreatDoorRe
set_option linter.all false
open List renaming length->I
set_option maxRecDepth 100000
set_option maxHeartbeats 16000000
namespace Go.Abs
variable{m:dx}{f:bn}{Q:fM}
def aFg:aJ S 46 [.one (.p (.sl []))] (.one (.p .zs)):=⟨1,ah⟩
def aCi{al:cG}(A:yV al)(cN:pI){F:Nat}{M:ae}{w:dB}{aj:aB}{Q2:fM}{g2 gm:Nat}(hw:I w<=100000)(my:dA (F:Int) M=0)(ad:I M<=1000000)
  (bC:aj 1600704193=(g2,some (.arr fI 6 (bQ M)))) (bm:aj 1600640128=(gm,some (.var [.p (.int .i64 m.k),.p (.int .i64 m.a),.p (.int .i64 m.b),.p (.int .i64 m.c),.p (.bool m.l),.p (.bool m.o),.p (.int .i64 m.s)])))
  (x:f 59=.agg [.p (.int .i64 F),.hsl 1600704193 g2 6 0 (I M)]) (xA:f 16=.one (.bh 1600640128 gm 0))
  (hK:∀(Z:bn) (ao:aB) (g:Nat),(∀i,i<59->i≠19->Z i=f i)->Z 19=.one (.bh 1600768512 g 0)->ao 1600768512=(g,some (.var [.p (.int .i64 F),.p (c8 M),.p (.int .i64 F),.p (lV (mF M)),.p (ob (w++[m]))]))->
   (∀i,i∉[1600704193,1600768192,1600768320,1600768384,1600768512]->ao i=aj i)->Q2 .normal Z ao):
  pM S al (.pc 46 [.one (.p (ob w))] [] 1600768192) (some 62) [tR 59 2 17,of 60 4 11,acM 61 60 2,wg 62 1600768192 46 [.t 61] 6,tR 63 7 16,OW 64 (.Iv 1600768320 57 7 [.t 63]) 16,OW 65 (.append 1600768384 57 7 48 (.t 62) (.t 64)) 62,wg 66 1600768448 42 [.t 59,.t 65] 127,nE 19 (.alloc 1600768512 [.int .i64 0,.nils,.int .i64 0,.nils,.nils]),⟨none,.store 5 (.t 19) (.t 66),none,511⟩] [tR 63 7 16,OW 64 (.Iv 1600768320 57 7 [.t 63]) 16,OW 65 (.append 1600768384 57 7 48 (.t 62) (.t 64)) 62,wg 66 1600768448 42 [.t 59,.t 65] 127,nE 19 (.alloc 1600768512 [.int .i64 0,.nils,.int .i64 0,.nils,.nils]),⟨none,.store 5 (.t 19) (.t 66),none,511⟩] Q2 f aj [⟨[1600704448],[],[]⟩,⟨[],[],[]⟩,⟨[1600256256],[],[]⟩]:=by
 have E:=A.gH;have mU:S.lone 1600768192=false:=ah;have de:([dx.ps m].all λe=>I e==7):=rfl;by_cases xL:w=[]
 .have ab:ob w=.sl []:=by rw[xL];rfl
  have yH:eF aj [] 1600768192 ((RV.one (.p .zs)).fi (S.lone 1600768192))=some (.one (.p .zs),[]):=by rw[mU];rfl
  rw[ab,JU aFg yH];refine⟨rfl,?_⟩;simp only[go_sem,x,xA,bm,E];refine azw (y:=1600768384) (m:=57) (z:=7) (bytes:=48) (B:=[dx.ps m]) (rd:=[1600768320]) (λi H=>?_) ?_ aQ (.inl rfl) (by simp only[dw,eK];omega) λc' X r1 u1 g1 L Y=>?_
  .simp only[dk,iu,or_false]at H;rcases H with rfl|rfl<;>exact A.c _ rfl
  .simp[fz,aT,dx.ps]
  have g1:aY 1600768384 57 7 (aS w++[dx.ps m]) (.one c') X:=by rw[xL];exact g1
  have j:=L 1600704193 U U;simp only[aT,Nat.reduceEqDiff,if_false]at j;have j:=j.trans bC;rcases g1 with⟨e,_⟩|⟨_,g5,e,bW⟩
  .simp at e
  cases e;have Q:=adk cN (w++[m]) J my;rw[show ob (w++[m])=.sl (aS w++[m.ps]) by simp[aS]]at Q;have R:I (aS w++[m.ps])=I w+1:=by simp[aS]
  have T:List.take (I M) (bQ M)=bQ M:=e_ (by rw[cH];exact cT _);have y:List.take (I w+1) (aS w++[m.ps])=aS w++[m.ps]:=e_ (DE R);simp only[go_sem,x,j,bW,R,T,y,E,Wl];obtain⟨u,hu,xK,yN,B⟩:=WB (aj:=X) (s:=1600768448) (rd:=[1600704193,1600768384]) (D:=.int .i64 F) (E:=c8 M) (A:=.int .i64 F) (y:=lV (mF M)) (x4:=.sl (aS w++[m.ps])) (l:=S.lone 1600768448) (λi H=>by
   simp only[dk,iu,or_false]at H;rcases H with rfl|rfl
   .exact⟨_,_,_,_,j⟩
   exact⟨_,_,_,_,bW⟩)
  rw[JU Q hu];refine⟨DX λi H=>?_,?_⟩
  .rcases fc.1 H with h|h
   .simp only[dk,iu,or_false]at h;rcases h with rfl|rfl<;>exact A.c _ rfl
   have h:=yN i h;simp only[dk,iu,or_false]at h;rcases h with rfl|rfl<;>exact A.c _ rfl
  simp only[go_sem,E];refine⟨?_,hK _ _ _ (λi D h2=>?_) rfl ?_ λi D=>?_⟩
  .rcases Y with⟨rfl,rfl⟩|⟨rfl,rfl⟩|⟨rfl,rfl⟩<;>rcases B with O|O<;>rw[O]<;>kernel_rfl
  .simp only[aT];repeat' rw[aw J]
  .simp only[aT,if_true];rw[show ob (w++[m])=.sl (aS w++[m.ps]) by simp[aS]]
  simp only[dk,iu,or_false,vW]at D;obtain⟨n1,n2,n3,N,n5⟩:=D;simp only[aT,aw n5];rw[xK i (by simp[n1,N]),L i N N];simp only[aT,aw n3]
 have pc:=ayT xL J;refine auO (λi H=>?_) pc mU (.inl rfl) λc1 bJ w1 gw bl Bb=>?_
 .simp only[dk,iu,or_false]at H;subst H;exact A.c _ rfl
 have d1:=bl 1600640128 U;rw[bm]at d1;simp only[go_sem,x,xA,d1,E];refine HY (y:=1600768384) (id:=1600768192) (m:=57) (z:=7) (bytes:=48) (j:=aS w) (B:=[dx.ps m]) (rd:=[1600768320]) (λi H=>?_) (gw.of_eq (by simp only[aT,Nat.reduceEqDiff,if_false])) ?_ (.inl rfl) (by simp only[k_,dw,eK];omega) λc' X r1 u1 g1 L Y=>?_
 .simp only[dk,iu,or_false]at H;rcases H with rfl|rfl|rfl<;>exact A.c _ rfl
 .simp[fz,aT,dx.ps]
 have j:=L 1600704193 U U;simp only[aT,Nat.reduceEqDiff,if_false,bl 1600704193 U]at j;have j:=j.trans bC;rcases g1 with⟨e,_⟩|⟨_,g5,e,bW⟩
 .simp at e
 cases e;have Q:=adk cN (w++[m]) J my;rw[show ob (w++[m])=.sl (aS w++[m.ps]) by simp[aS]]at Q;have R:I (aS w++[m.ps])=I w+1:=by simp[aS]
 have T:List.take (I M) (bQ M)=bQ M:=e_ (by rw[cH];exact cT _);have y:List.take (I w+1) (aS w++[m.ps])=aS w++[m.ps]:=e_ (DE R);simp only[go_sem,x,j,bW,R,T,y,E,Wl];obtain⟨u,hu,xK,yN,B⟩:=WB (aj:=X) (s:=1600768448) (rd:=[1600704193,1600768384]) (D:=.int .i64 F) (E:=c8 M) (A:=.int .i64 F) (y:=lV (mF M)) (x4:=.sl (aS w++[m.ps])) (l:=S.lone 1600768448) (λi H=>by
  simp only[dk,iu,or_false]at H;rcases H with rfl|rfl
  .exact⟨_,_,_,_,j⟩
  exact⟨_,_,_,_,bW⟩)
 rw[JU Q hu];refine⟨DX λi H=>?_,?_⟩
 .rcases fc.1 H with h|h
  .simp only[dk,iu,or_false]at h;rcases h with rfl|rfl<;>exact A.c _ rfl
  have h:=yN i h;simp only[dk,iu,or_false]at h;rcases h with rfl|rfl<;>exact A.c _ rfl
 simp only[go_sem,E];refine⟨?_,hK _ _ _ (λi D h2=>?_) rfl ?_ λi D=>?_⟩
 .rcases Bb with rfl|rfl<;>rcases Y with⟨rfl,rfl⟩|⟨rfl,rfl⟩|⟨rfl,rfl⟩<;>rcases B with O|O<;>rw[O]<;>kernel_rfl
 .simp only[aT];repeat' rw[aw J]
 .simp only[aT,if_true];rw[show ob (w++[m])=.sl (aS w++[m.ps]) by simp[aS]]
 simp only[dk,iu,or_false,vW]at D;obtain⟨n1,n2,n3,N,n5⟩:=D;simp only[aT,aw n5];rw[xK i (by simp[n1,N]),L i N n2];simp only[aT,aw n3];rw[bl i n2]
def alM{al:cG}{aj:aB}{os:eZ}{d:eh}{p:A_}(h:∀b,b=aj->iU S al p d os Q f b):iU S al p d os Q f aj:=h _ rfl
def awC:S.sites 47=[47]:=ah
def az3:S.sites 44=[44]:=ah
def av3:S.sites 26=[26]:=ah
def Wf{F:Nat}{L:ae}(h:dA (F:Int) L=0):F<=40:=by
 by_cases A:L=[]
 .subst A;exact anf h
 obtain⟨G,e,g⟩:=uU h A;have:=g.fing;omega
structure HW (a:dM) (F:Nat) (ms:dB) (ga gg:Nat) (j:Nat) (ak:bn) (aj:aB):Prop where
 fe:ak 11=.one (.bh 1600256256 ga 0)
 bA:aj 1600256256=(ga,some (.var [.p (.int .i64 F),.p (c8 a.c),.p (.int .i64 F),.p (c8 a.n),.p (ob a.w)]))
 Ls:ak 46=.one (.hsl 1600448192 gg 7 0 (I ms))
 IS:ak 47=aC (I ms)
 zD:ak 48=aC j
 bV:aj 1600448192=(gg,some (.arr iN 7 (aS ms)))
def round{al:cG}{s:Nat}(O:wu s)(ac:yV al)(cN:pI){F u:Nat}{L0:ae}{gv Z gM ga gg gi:Nat}{r0:aG}{b0:aB}{a:dM}{ms:dB}{z:lT}{k j:Nat}{aj:aB}(gO:u<=20000)(iB:I ms<=8000)(hj:ms[j]?=some m)(FW:rq F a.c Bg m)(ha:uz F L0 (I z) a)
  (hI:ya F u L0 gv r0 b0 Z gM z k f aj) (que:C5 s Z gi (gX F z) k aj) (hR:HW a F ms ga gg j f aj)
  (hN:∀jt (aE:bn) (ao:aB),nL F u a z m=(0,jt)->ya F u L0 gv r0 b0 Z gM jt k aE ao->HW a F ms ga gg (j+1) aE ao->Q .normal aE ao)
  (hX:∀(aE:bn) (ao:aB),(nL F u a z m).1≠0->MC F L0 gv r0 b0 (nL F u a z m) Z aE ao->Q (.exit 0) aE ao):bP S al LM Q f aj:=by
  obtain⟨e1,e2,e9,fD,bM,_,bv,ne,lim,alls,fr⟩:=hI;obtain⟨bq,bs⟩:=que;obtain⟨fe,bA,Ls,IS,zD,bV⟩:=hR;have ho:=ac.gH;have o1:=O.ok ac;have gQ:=O.ne;have o2:=ac.v;have o3:al.ok 1600448192:=ac.c _ rfl;have aq:=(cD.1 hj).1;have aO:((j:Int)<(I ms:Int)):=J;have jR:=Ii hj;have w1:=cP (n:=j) J;have LZ:I (aS ms)=I ms:=k_ ms;obtain⟨M,qm,pa,my,Lv,az,wN⟩:=afe ha FW;have iI:S.lone 1600704192=false:=ah;have vA:=w7 my;have iX:=ha.len;have R:nL F u a z m=if(z.map (dM.key F)).any (λs=>s7 F (fW M)==s)then(0,z)else if I z=u then(1,z)else(if(s8 F M).2 then 2 else 0,z++[⟨M,fW M,a.w++[m]⟩]):=by unfold nL;rw[qm];rfl
  have QU:aJ S 41 [.agg [.p (.int .i64 F),.p (c8 a.c)],.agg [.p (.int .i64 m.k),.p (.int .i64 m.a),.p (.int .i64 m.b),.p (.int .i64 m.c),.p (.bool m.l),.p (.bool m.o),.p (.int .i64 m.s)]] (nm F M):=pa;simp only[go_sem,LM,e1,e2,e9,fD,fe,Ls,IS,zD,bA,bV,aq,aO,jR,LZ,dx.ps,w1,ho,o1,o2,o3,adE];refine aEW (λi hi=>?_) QU iI rfl rfl (zf _) λcc bY gc cF=>?_
  .simp only[dk,iu,or_false]at hi;subst hi;exact ac.c _ rfl
  rcases gc with⟨e,_⟩|⟨_,g2,e,bC⟩
  .exact absurd (QE.1 e) Lv
  cases e;have c0:=cF 1600256256 U;have c1:=cF 1600640128 U;have c2:=cF 1600128000 U;have c3:=cF 1600192192 U;have c5:=cF s (by rcases O with rfl|rfl<;>decide);have c4:=cF 512512000 U;have ft:=cF 1600448192 U;simp only[go_sem,bA,bM,bq,bs,bv,bV,gQ]at c0 c1 c2 c3 c5 c4 ft;have a2:I (bQ M)=I M:=cH ..;simp only[go_sem,e1,e2,e9,fD,fe,Ls,IS,zD,c0,c1,bC,a2,ho,o1,o2,aG3]
  refine aCi ac cN (F:=F) (M:=M) (w:=a.w) (m:=m) (g2:=g2) (gm:=(aj 1600640128).1+1) J my J (by simp only[aT,Nat.reduceEqDiff,if_false];exact bC) (by simp only[aT,Nat.reduceEqDiff,if_false];exact c1) rfl rfl λaE ao g hE jq ad hB=>?_;have Y:=hE 1 U U;have T:=hE 2 U U;have X:=hE 9 U U;have H:=hE 10 U U;have A:=hE 11 U U;have D:=hE 46 U U;have B:=hE 47 U U;have E:=hE 48 U U;simp only[go_sem,e1,e2,e9,fD,fe,Ls,IS,zD]at Y T X H A D B E;have d0:=hB 1600256256 U;have d2:=hB 1600128000 U;have d3:=hB 1600192192 U;have d4:=hB s (by rcases O with rfl|rfl<;>decide);have d5:=hB 512512000 U
  have d6:=hB 1600448192 U;simp only[go_sem,c0,c2,c3,c5,c4,ft,gQ]at d0 d2 d3 d4 d5 d6;have DH:∀i,¬oq i->i≠512512000->i∉r0->ao i=b0 i:=λi N h2 h3=>by have n1:i≠1600704193:=sY N rfl (.inl rfl);have n2:i≠1600704448:=sY N rfl (.inl rfl);have n3:i≠1600640128:=sY N rfl (.inl rfl);have n4:i≠1600768192:=sY N rfl (.inl rfl);have n5:i≠1600768320:=sY N rfl (.inl rfl);have n6:i≠1600768384:=sY N rfl (.inl rfl);have n7:i≠1600768512:=sY N rfl (.inl rfl);rw[hB i (by simp[n1,n4,n5,n6,n7])];simp only[aT,aw n2];rw[cF i n1];simp only[aT,aw n3];exact fr i N h2 h3
  clear hE hB cF c0 c1 c2 c3 c5 c4 ft fr bA bM bq bs bv bV e1 e2 e9 fD fe Ls IS zD bC;have pp:=aoE (F:=(F:Int)) (L:=fW M) ⟨by have:=Wf my;omega,by have:=Wf my;omega⟩ (by have:=Bi M;omega) (anE (Oh my));have a3:(lV (mF M)).norm=c8 (fW M):=acq (mF M);have a4:(ob (a.w++[m])).norm=ob (a.w++[m]):=rfl;have ff:I (CN (z.map (dM.key F)))=I z:=aQ;have sD:I (gX F z)=I z:=Ad F z;have TU:((I z:Int)==(u:Int))=decide (I z=u):=by
   by_cases h:I z=u
   .rw[h];simp
   rw[tJ h,ng];omega
  rcases awr (s7 F (fW M)) (z.map (dM.key F)) 0 with⟨hf,jj,fk⟩|⟨hf,fk⟩
  .rw[hf,aH rfl]at R;simp only[go_sem,Y,T,X,H,A,D,B,E,jq,ad,a3,d2,Rb,G4 pp,ni,mW,j4,fk,w1,ho,o1,o2];refine hN z _ _ R ⟨?_,?_,?_,?_,d2,⟨s,O,gi,by rw[sD];exact d3,d4⟩,d5,ne,lim,alls,DH⟩ ⟨?_,d0,?_,?_,?_,d6⟩;all_goals(simp only[go_sem,Y,T,X,H,A,D,B,E];first|done|rfl)
  rw[hf]at R;simp only[eX,if_false]at R;cases hL:decide (I z=u)with
  |true=>rw[aH (lp hL)]at R;rw[hL]at TU;simp only[go_sem,Y,T,X,H,A,D,B,E,jq,ad,a3,d2,d3,d4,sD,TU,Rb,G4 pp,ni,mW,j4,fk,HX,w1,ho,o1,o2];have Cf:=hX;rw[R]at Cf;refine Cf _ _ (by show(1:Nat)≠0;decide) ⟨?_,⟨k,s,O,gi,by rw[sD];exact d3,d4⟩,d5,ne,alls,DH⟩;simp only[go_sem,Y,T,X,H,A,D,B,E];first|done|rfl
  |false=>
   rw[aw (gU hL)]at R;rw[hL]at TU;simp only[go_sem,Y,T,X,H,A,D,B,E,jq,ad,a3,d2,d3,d4,sD,TU,Rb,G4 pp,ni,mW,j4,zd,fk,HX,w1,ho,o1,o2,axD];refine alM λbJ bl=>?_;have g2:bJ 1600128000=(gM,some (.map false (CN (z.map (dM.key F))++[(.str (s7 F (fW M)),[.bool true])]))):=by rw[bl];simp only[aT,if_true];try rfl
   have aN:gX F z≠[]:=by simpa using ne
   have kp:∀i,i≠1600128000->bJ i=ao i:=λi h=>by rw[bl];simp only[aT,aw h]
   have k3:=(kp 1600192192 U).trans d3;have k4:=(kp s (by rcases O with rfl|rfl<;>decide)).trans d4;have ef:=(kp 512512000 U).trans d5;have k6:=(kp 1600448192 U).trans d6;have k0:=(kp 1600256256 U).trans d0;have a6:=(kp 1600768512 U).trans ad;have a0:∀i,¬oq i->i≠512512000->i∉r0->bJ i=b0 i:=λi N h2 h3=>(kp i (sY N rfl (.inl rfl))).trans (DH i N h2 h3)
   clear bl kp DH;have wM:((([V.one (.bh 1600192192 Z 0),V.agg [.p (.int .i64 F),.p (c8 M),.p (.int .i64 F),.p (lV (mF M)),.p (ob (a.w++[m]))]]:dN).map (jA bJ)).flatten)=[1600192192,s]:=by
    have r1:jA bJ (.one (.bh 1600192192 Z 0))=[1600192192,s]:=by rw[LR k3];simp only[eR,jS,lI,Fo,lg];rw[DD (n:=4) k4,Jk];rfl
    rw[eR,eR,jS,r1];rfl
   have Pg:=aqO O (al:=f_ (S.ctx al) 47 [V.one (.bh 1600192192 Z 0),V.agg [.p (.int .i64 F),.p (c8 M),.p (.int .i64 F),.p (lV (mF M)),.p (ob (a.w++[m]))]] bJ) (aj:=bJ) (u:=Z) (B:=gi) (k:=k) (g:=gX F z) (D:=.int .i64 F) (E:=c8 M) (A:=.int .i64 F) (y:=lV (mF M)) (x4:=ob (a.w++[m])) (qf (by rw[wM];simp)) (qf (by rw[wM];simp)) (sP ah) (sP ah) (sP ah) ⟨by rw[sD];exact k3,k4⟩ aN (by rw[sD];omega);rw[a3]at Pg;refine qq (E9 (by show al.gH (List.flatten _)=true;rw[wM];simp only[Gt,F_,ho,o1,wX]) (by show(S.sites 47).all al.fs.contains=true;rw[awC];simp only[mN,oc,ac.a,wX])) Pg λv3 fy hP=>?_
   obtain⟨rfl,⟨g5,aA,a1⟩,LK⟩:=hP;have m5:=LK 512512000 U U (by rcases O with rfl|rfl<;>decide);have m6:=LK 1600448192 U U (by rcases O with rfl|rfl<;>decide);have m0:=LK 1600256256 U U (by rcases O with rfl|rfl<;>decide);have m2:=LK 1600128000 U U (by rcases O with rfl|rfl<;>decide);have av:=LK 1600768512 U U (by rcases O with rfl|rfl<;>decide);rw[ef]at m5;rw[k6]at m6;rw[k0]at m0;rw[g2]at m2;rw[a6]at av
   have a5:∀i,¬oq i->i≠512512000->i∉r0->fy i=b0 i:=λi N h2 h3=>(LK i (λh=>N (.inr (.inr (.inl h)))) (sY N rfl (.inl rfl)) (O.no N)).trans (a0 i N h2 h3);have pr:=ab9 my;simp only[go_sem,Y,T,X,H,A,D,B,E,jq,av,ho,awo];have Jg:((([V.agg [.p (.int .i64 F),.p (c8 M),.p (.int .i64 F),.p (lV (mF M)),.p (ob (a.w++[m]))],V.one (.bh 512512000 gv 0)]:dN).map (jA fy)).flatten)=[512512000]:=by
    have r1:jA fy (.one (.bh 512512000 gv 0))=[512512000]:=by rw[LR m5];rfl
    rw[eR,eR,jS,r1];rfl
   have dh:=aGR (al:=f_ (S.ctx al) 26 [V.agg [.p (.int .i64 F),.p (c8 M),.p (.int .i64 F),.p (lV (mF M)),.p (ob (a.w++[m]))],V.one (.bh 512512000 gv 0)] fy) (aj:=fy) (g:=gv) (F:=F) (L:=M) (A:=.int .i64 F) (y:=lV (mF M)) (x4:=ob (a.w++[m])) (b0:=false) pr.1 (qf (by rw[Jg];simp)) (sP ah) (sP ah) m5;refine qq (E9 (by show al.gH (List.flatten _)=true;rw[Jg];simp only[Gt,F_,o2,wX]) (by show(S.sites 26).all al.fs.contains=true;rw[av3];simp only[mN,oc,ac.s,wX])) dh λv4 jF hP=>?_
   obtain⟨rfl,ab,LN⟩:=hP;have n0:=(LN 1600256256 U U).trans m0;have n2:=(LN 1600128000 U U).trans m2;have n3:=(LN 1600192192 U U).trans aA;have n4:=(LN 3008064448 U U).trans a1;have n6:=(LN 1600448192 U U).trans m6;have ap:∀i,¬oq i->i≠512512000->i∉r0->jF i=b0 i:=λi N h2 h3=>(LN i (λh=>N (.inr (.inr (.inr h)))) h2).trans (a5 i N h2 h3);have wJ:gX F z++[[.int .i64 F,c8 M,.int .i64 F,c8 (fW M),ob (a.w++[m])]]=gX F (z++[(⟨M,fW M,a.w++[m]⟩:dM)]):=by simp[dM.ps]
   have LV:CN (z.map (dM.key F))++[(.str (s7 F (fW M)),[.bool true])]=CN ((z++[(⟨M,fW M,a.w++[m]⟩:dM)]).map (dM.key F)):=by simp[dM.key]
   have an:C5 3008064448 Z g5 (gX F (z++[(⟨M,fW M,a.w++[m]⟩:dM)])) k jF:=by rw[<-wJ];exact⟨n3,n4⟩
   rw[LV]at n2;have ar:I (z++[(⟨M,fW M,a.w++[m]⟩:dM)])=I z+1:=aQ;have ag:(z++[(⟨M,fW M,a.w++[m]⟩:dM)])≠[]:=aQ;have a7:=gU hL;have dp:∀x∈z++[(⟨M,fW M,a.w++[m]⟩:dM)],uz F L0 (I (z++[(⟨M,fW M,a.w++[m]⟩:dM)])) x:=λx hx=>by
    rw[ar];rcases fc.1 hx with h|h
    .exact(alls x h).mono J
    rw[kV.1 h];refine⟨my,rfl,wN,λy hy=>?_,by show(a.w++[m]).length<=_;rw[fv];simp only[dw,eK];omega,az.trans ha.same⟩;rcases fc.1 hy with h|h
    .exact ha.kind y h
    rw[kV.1 h];exact FW.1
   clear Pg dh pr Jg wM;cases hb:(s8 F M).2 with
   |true=>rw[hb,aH rfl]at R;rw[hb]at ab;have Cf:=hX;rw[R]at Cf;simp only[go_sem,Y,T,X,H,A,D,B,E];refine Cf _ _ (by show(2:Nat)≠0;decide) ⟨?_,⟨k,_,.inr rfl,g5,an⟩,ab,ag,dp,ap⟩;simp only[go_sem,Y,T,X,H,A,D,B,E];first|done|rfl
   |false=>rw[hb]at R ab;simp only[eX,if_false]at R;simp only[go_sem,Y,T,X,H,A,D,B,E,w1];refine hN _ _ _ R ⟨?_,?_,?_,?_,n2,⟨_,.inr rfl,g5,an⟩,ab,ag,by rw[ar];omega,dp,ap⟩ ⟨?_,n0,?_,?_,?_,n6⟩;all_goals(simp only[go_sem,Y,T,X,H,A,D,B,E];first|done|rfl)
end Go.Abs
