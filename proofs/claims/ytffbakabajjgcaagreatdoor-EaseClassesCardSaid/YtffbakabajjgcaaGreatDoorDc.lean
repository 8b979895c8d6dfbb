/- A part. -/
import Derived.Test.YtffbakabajjgcaaGreatDoorDa
set_option linter.all false
set_option maxRecDepth 100000
set_option maxHeartbeats 16000000
namespace Go.Abs
section
variable{F j:Nat}{ls:List Let}
abbrev hsD(idL gL idD gD:Nat)(n m:Nat):V:=.agg [.hsl idL gL 6 0 n,.hsl idD gD 1 0 m]
theorem aqi{aj:aw}{idL gL idD gD n m:Nat}{L:List Let}{D:List Bool}(hL:aj idL=(gL,some (.arr gH 6 (aZ L))))(hD:aj idD=(gD,some (.arr 4 1 (bP D)))):iZ aj (hsD idL gL idD gD n m)=[idL,idD]:=by have a:iZ aj (.one (.hsl idL gL 6 0 n))=[idL]:=NB hL;have b:iZ aj (.one (.hsl idD gD 1 0 m))=[idD]:=NB hD;simp only[iZ] at a b ⊢;simp[a,b]
theorem aeR:S.sites 92=[92]:=ah
section
variable {Q:dy} {os all:List bI} {d:Option Nat} {ak:Env} {aj:aw} {tr:List cy} {idL gL idD gD:Nat} {L:List Let} {D:List Bool}
theorem aiW{al:Al}{f:Nat}{vs:List V}{P:V->aw->Prop}(hh:al.holds (allow (S.ctx al) f vs aj)=true)(h:∃v ao,iw S f vs (allow (S.ctx al) f vs aj) aj v ao/\P v ao)
  (hK:∀v ao,P v ao->RD S al all os Q (put ak d v) ao (tr++[⟨(allow (S.ctx al) f vs aj).ids,(allow (S.ctx al) f vs aj).ids,(allow (S.ctx al) f vs aj).fs⟩])):dP S al (.sc f vs) d all os Q ak aj tr:=by
 obtain⟨v,ao,h1,h2⟩:=h;exact⟨hh,v,ao,h1,hK v ao h2⟩
theorem aiX{i j:Nat}{x y:Let}{c e:Bool}(n1:idL≠idD)(n2:idL≠5888000000)(n3:idD≠5888000000)(hL:aj idL=(gL,some (.arr gH 6 (aZ L))))(hD:aj idD=(gD,some (.arr 4 1 (bP D))))(hd:D.length=L.length)(hx:L[i]?=some x)(hy:L[j]?=some y)(hc:D[i]?=some c)(he:D[j]?=some e)(eU:i≠j)
  (hK:∀ao,ao idL=(gL,some (.arr gH 6 (aZ (Ds L i j x y))))->ao idD=(gD,some (.arr 4 1 (bP (Ds D i j c e))))->(∀q,q≠idL->q≠idD->q≠5888000000->ao q=aj q)->RD S .all all os Q (put ak d (.tup [])) ao (tr++[⟨[idL,idD],[idL,idD],[92]⟩])):
  dP S .all (.sc 92 [hsD idL gL idD gD L.length D.length,vi i,vi j]) d all os Q ak aj tr:=by
 have hr:=aqi (n:=L.length) (m:=D.length) hL hD;have hi:(allow (S.ctx .all) 92 [hsD idL gL idD gD L.length D.length,vi i,vi j] aj).ids=[idL,idD]:=by show(([hsD idL gL idD gD L.length D.length,vi i,vi j]:List V).map (iZ aj)).flatten=_;simp only[fy,lH,hr];rfl
 have hf:(allow (S.ctx .all) 92 [hsD idL gL idD gD L.length D.length,vi i,vi j] aj).fs=[92]:=aeR;refine aiW (P:=YX idL gL idD gD 5888000000 (Ds L i j x y) (Ds D i j c e) aj) zK (asC (u9 ?_) (u9 ?_) (vY (by rw[aeR];decide)) n1 n2 n3 hL hD hd hx hy hc he eU) ?_
 .simp only[fy,lH,hr];simp
 .simp only[fy,lH,hr];simp
 rintro v ao ⟨rfl,h1,h2,h3⟩
 rw[hi,hf];exact hK ao h1 h2 fun q a b c=>h3 q (by simp[a,b,c])
end
abbrev apO(F:Nat)(L:List Let)(D:List Bool):RV:=.agg [.p (.int .i64 F),aO gH 6 (aZ (sJ L D))]
theorem Ks(F:Nat)(ls:List Let):(jR (dh F ls)).take (dh F ls).length=jR (dh F ls):=dD af


theorem afi{α:Type}{l:List α}{i:Nat}{x y:α}(hx:l[i]?=some x)(hy:l[j]?=some y):eN l i j=Ds l i j x y:=by unfold eN;rw[hx,hy];rfl
theorem vP{α:Type}(l:List α)(i j:Nat):(eN l i j).length=l.length:=by unfold eN;split<;>simp
section
variable {Q:dy} {os all:List bI} {d:Option Nat} {ak:Env} {aj:aw} {tr:List cy} {idL gL idD gD:Nat} {L:List Let} {D:List Bool}
theorem Lq{i j n:Nat}(n1:idL≠idD)(n2:idL≠5888000000)(n3:idD≠5888000000)(hL:aj idL=(gL,some (.arr gH 6 (aZ L))))(hD:aj idD=(gD,some (.arr 4 1 (bP D))))(hl:L.length=n)(hd:D.length=n)(hi:i<n)(hj:j<n)(eU:i≠j)
  (hK:∀ao,ao idL=(gL,some (.arr gH 6 (aZ (eN L i j))))->ao idD=(gD,some (.arr 4 1 (bP (eN D i j))))->(∀q,q≠idL->q≠idD->q≠5888000000->ao q=aj q)->RD S .all all os Q (put ak d (.tup [])) ao (tr++[⟨[idL,idD],[idL,idD],[92]⟩])):
  dP S .all (.sc 92 [hsD idL gL idD gD n n,vi i,vi j]) d all os Q ak aj tr:=by
 obtain⟨x,hx⟩:=aM (ls:=L) (k:=i) aa;obtain⟨y,hy⟩:=aM (ls:=L) (k:=j) aa;obtain⟨c,hc⟩:=aM (ls:=D) (k:=i) aa;obtain⟨e,he⟩:=aM (ls:=D) (k:=j) aa;have h:=aiX (Q:=Q) (os:=os) (all:=all) (d:=d) (ak:=ak) (tr:=tr) n1 n2 n3 hL hD (hd.trans hl.symm) hx hy hc he eU fun ao a b c'=>hK ao (by rw[afi hx hy];exact a) (by rw[afi hc he];exact b) c';rw[hl,hd] at h;exact h
end
theorem Nj{k:Nat}(h2:2<=ls.length):nx ls k<ls.length:=ez _ aa
theorem ag1(g:bQ F ls)(i j k:Nat)(l o:Bool)(sg:Int)(hi:i<ls.length)(hj:j<ls.length)(hk:k<ls.length)(h2:2<=ls.length)(hl:ls.length<=400):
  aF S 50 [cZ F ls,fE 8 i j k l o sg] (apO F (eN (eN (eN ls i (nx ls i)) j (nx ls j)) k (nx ls k)) (eN (eN (eN (rY ls) i (nx ls i)) j (nx ls j)) k (nx ls k))):=by
 have pof:=Vp g;have po:=ady (F:Int) ls aa;have l1:S.lone 3200064064=false:=ah;have l2:S.lone 3200128064=false:=ah;have l4:S.lone 3203136128=false:=ah;rw[xQ (Tn g)] at pof;have Nv:=YY g.ne (IG ls);simp only[dfR] at Nv;rw[Nv] at po;have pe1:=Gc (F:=F) hi aa;have pe2:=Gc (F:=F) hj aa;have pe3:=Gc (F:=F) hk aa;have x1:=vP ls i (nx ls i);have x2:=(vP (eN ls i (nx ls i)) j (nx ls j)).trans x1;have x3:=(vP (eN (eN ls i (nx ls i)) j (nx ls j)) k (nx ls k)).trans x2;have y0:=IG ls;have y1:=(vP (rY ls) i (nx ls i)).trans y0;have y2:=(vP (eN (rY ls) i (nx ls i)) j (nx ls j)).trans y1
 have y3:=(vP (eN (eN (rY ls) i (nx ls i)) j (nx ls j)) k (nx ls k)).trans y2;refine aV c50 ?_;simp only[go_sem,i50,s84,AW pof l1 (.inl rfl)];simp only[go_sem,s85,AW po l2 (.inl rfl),NS,Ks,s88,gV pe1,s92,IG];refine Lq (L:=ls) (D:=rY ls) ae ae ae (by simp only[go_sem]) (by simp only[go_sem]) rfl y0 hi (Nj h2) (JT h2 hi) fun b1 hL1 hD1 hb=>?_;have p0:=hb 3200000000 ae ae ae;have p1:=hb 3200000064 ae ae ae;have p2:=hb 3200000128 ae ae ae;have p3:=hb 3200064128 ae ae ae;have p4:=hb 3200064067 ae ae ae;have p5:=hb 3200128128 ae ae ae;simp only[go_sem] at p0 p1 p2 p3 p4 p5;simp only[go_sem,p1,p3,p4,p5,Ks,s88,gV pe2,s92];refine⟨aK,?_⟩
 refine Lq ae ae ae hL1 hD1 x1 y1 hj (Nj h2) (JT h2 hj) fun b2 hL2 hD2 aT=>?_;have q0:=aT 3200000000 ae ae ae;have q1:=aT 3200000064 ae ae ae;have q2:=aT 3200000128 ae ae ae;have q3:=aT 3200064128 ae ae ae;have q4:=aT 3200064067 ae ae ae;have q5:=aT 3200128128 ae ae ae;simp only[p0,p1,p2,p3,p4,p5] at q0 q1 q2 q3 q4 q5;simp only[go_sem,q1,q3,q4,q5,Ks,s88,gV pe3,s92];refine⟨aK,?_⟩;refine Lq ae ae ae hL2 hD2 x2 y2 hk (Nj h2) (JT h2 hk) fun b3 hL3 hD3 ef=>?_
 have r0:=ef 3200000000 ae ae ae;have r1:=ef 3200000064 ae ae ae;have r2:=ef 3200000128 ae ae ae;have r3:=ef 3200128128 ae ae ae;simp only[q0,q1,q2,q5] at r0 r1 r2 r3;generalize eN (eN (eN ls i (nx ls i)) j (nx ls j)) k (nx ls k)=L3 at*;generalize eN (eN (eN (rY ls) i (nx ls i)) j (nx ls j)) k (nx ls k)=D3 at*;have pcl:=Ye (F:Int) ls L3 D3 aa (y3.trans x3.symm);have cM:(sJ L3 D3).length=L3.length:=ae9 _ _;have qq:sJ L3 D3≠[]:=fun e=>by rw[e] at cM;simp only[eE] at cM;omega
 simp only[apO];rw[xQ (Qk qq)] at pcl ⊢;have tk:List.take ls.length (aZ L3)=aZ L3:=by rw[<- x3];exact NS L3
 have tb:List.take ls.length (bP D3)=bP D3:=by rw[<- y3];exact afk D3
 have tl:ls.length<=(aZ L3).length:=by rw[CX];omega
 have tm:ls.length<=(bP D3).length:=by rw[SB];omega
 simp only[go_sem,hL3,hD3,r0,r2,r3,tk,tb,x3,y3,i50_r3,s96,AW pcl l4 (.inr (Yk _ _))];refine⟨aK,?_⟩;simp[gh,nL,kI,kh,gQ,aN,apart,sI,pQ,NS]
def lz(p q l:Let):Let:=if leq l p then q else if leq l q then p else l
theorem ag0(g:bQ F ls)(i j:Nat)(c:Int)(l o:Bool)(sg:Int)(hi:i<ls.length)(hj:j<ls.length)(h2:2<=ls.length)(hl:ls.length<=400):
  aF S 50 [cZ F ls,fE 3 i j c l o sg] (apO F (eN (eN (ls.map (lz (iE ls i).2.1 (iE ls j).2.1)) i (nx ls i)) j (nx ls j)) (eN (eN (rY ls) i (nx ls i)) j (nx ls j))):=by
 have pof:=Vp g;have po:=ady (F:Int) ls aa;have l1:S.lone 3200064064=false:=ah;have l2:S.lone 3200128064=false:=ah;have l4:S.lone 3203136128=false:=ah;rw[xQ (Tn g)] at pof;have Nv:=YY g.ne (IG ls);simp only[dfR] at Nv;rw[Nv] at po;have pe1:=Gc (F:=F) hi aa;have pe2:=Gc (F:=F) hj aa;have pm1:=Qo (F:=F) hi aa;have pm2:=Qo (F:=F) hj aa;have l5:S.lone 3200704192=false:=ah;have l6:S.lone 3200768192=false:=ah
 generalize (iE ls i).1=X at*;generalize (iE ls i).2.1=P at*;generalize (iE ls i).2.2=e1 at*;generalize (iE ls j).1=Y at*;generalize (iE ls j).2.1=Z at*;generalize (iE ls j).2.2=e2 at*;refine aV c50 ?_;simp only[go_sem,i50,s84,AW pof l1 (.inl rfl)];simp only[go_sem,s85,AW po l2 (.inl rfl),Ks,s91,AW pm1 l5 (.inr rfl),AW pm2 l6 (.inr rfl),IG];refine cJ (fun q ak aj=>ak 2=.one (.aX 3200000000 1 0)/\ak 3=.one (.aX 3200000064 1 0)/\ak 4=.one (.aX 3200000128 1 0)/\ak 5=.one (.aX 3200064128 1 0)/\ak 6=.one (.aX 3200128128 1 0)/\ak 10=.one (.aX 3200704576 1 0)/\ak 13=.one (.aX 3200768576 1 0)/\ak 15=vi q/\
   aj 3200000000=(1,some (.var [.p (.int .i64 F),.p (cQ ls)]))/\aj 3200000064=(1,some (.var [.p (.int .i64 3),.p (.int .i64 i),.p (.int .i64 j),.p (.int .i64 c),.p (.bool l),.p (.bool o),.p (.int .i64 sg)]))/\
   aj 3200000128=(1,some (.var [.p (.int .i64 0),.p .nils]))/\aj 3200064067=(1,some (.arr tP 5 (jR (dh F ls))))/\aj 3200064128=(1,some (.var [.p (.int .i64 F),.p (cQ ls),.p (.int .i64 ls.length),.hsl 3200064067 1 5 0 (dh F ls).length]))/\
   aj 3200128128=(1,some (.var [.hsl 3200128064 1 6 0 ls.length,.hsl 3200128065 1 1 0 ls.length]))/\aj 3200128065=(1,some (.arr 4 1 (bP (rY ls))))/\
   aj 3200704576=(1,some (.var (M7 P)))/\aj 3200768576=(1,some (.var (M7 Z)))/\aj 3200128064=(1,some (.arr gH 6 (aZ (Db (lz P Z) ls q))))) 0 ls.length (bj _) ?_ ?_
 .simp only[go_sem,Db]
  trivial
 rintro q ak aj hq ⟨v2,v3,v4,v5,v6,v10,v13,v15,b0,b1,b2,bf,bs,bd,bD,mf,bZ,bL⟩
 by_cases aq:q<ls.length
 .have aL:((q:Int)<(ls.length:Int)):=aa;have w1:=bN (n:=q) aa;obtain⟨x,hx⟩:=aM aq;have hm:=acH (f:=lz P Z) hx;have iC:=fv hm;have lT:q<(Db (lz P Z) ls q).length:=by rw[an2];exact aq
  have Lx:=IK x P;have el2:=IK x Z;cases h1:leq x P with
  |true=>rw[h1] at Lx;simp only[go_sem,i50_l1,v2,v3,v4,v5,v6,v10,v13,v15,b0,b1,b2,bf,bs,bd,bD,mf,bZ,bL,aq,aL,iC,Let.ps,w1,Lx];refine⟨aK,?_⟩;have hs:=U4 (f:=lz P Z) hx;rw[show lz P Z x=Z by simp[lz,h1]] at hs;rw[show(aZ (Db (lz P Z) ls q)).set q [.int .i64 Z.kind,.int .i64 Z.gate,.int .i64 Z.aE,.int .i64 Z.id,.int .i64 Z.sign,.bool Z.over]=aZ ((Db (lz P Z) ls q).set q Z) from Ql _ _ _ rfl,hs]
  |false=>
   rw[h1] at Lx;cases h2:leq x Z with
   |true=>rw[h2] at el2;simp only[go_sem,i50_l1,v2,v3,v4,v5,v6,v10,v13,v15,b0,b1,b2,bf,bs,bd,bD,mf,bZ,bL,aq,aL,iC,Let.ps,w1,Lx,el2];refine⟨aK,aK,?_⟩;have hs:=U4 (f:=lz P Z) hx;rw[show lz P Z x=P by simp[lz,h1,h2]] at hs;rw[show(aZ (Db (lz P Z) ls q)).set q [.int .i64 P.kind,.int .i64 P.gate,.int .i64 P.aE,.int .i64 P.id,.int .i64 P.sign,.bool P.over]=aZ ((Db (lz P Z) ls q).set q P) from Ql _ _ _ rfl,hs]
   |false=>rw[h2] at el2;simp only[go_sem,i50_l1,v2,v3,v4,v5,v6,v10,v13,v15,b0,b1,b2,bf,bs,bd,bD,mf,bZ,bL,aq,aL,iC,Let.ps,w1,Lx,el2];refine⟨aK,aK,?_⟩;exact congrArg (fun z=>(1,some (Ob.arr gH 6 (aZ z)))) (an3 hx (by simp[lz,h1,h2]))
 have:q=ls.length:=aa;subst this;rw[show Db (lz P Z) ls ls.length=ls.map (lz P Z) by simp[Db]] at bL;have n0:(ls.map (lz P Z)).length=ls.length:=cH _;generalize ls.map (lz P Z)=L0 at*;have x1:=(vP L0 i (nx ls i)).trans n0;have x3:=(vP (eN L0 i (nx ls i)) j (nx ls j)).trans x1;have y0:=IG ls;have y1:=(vP (rY ls) i (nx ls i)).trans y0;have y3:=(vP (eN (rY ls) i (nx ls i)) j (nx ls j)).trans y1;simp only[go_sem,i50_l1,i50_r2,v3,v5,v6,v15,b1,bf,bs,bd,dG,Ks,s88,gV pe1,s92];refine Lq ae ae ae bL bD n0 y0 hi (Nj h2) (JT h2 hi) fun B1 hL1 hD1 hb=>?_
 have p0:=hb 3200000000 ae ae ae;have p1:=hb 3200000064 ae ae ae;have p2:=hb 3200000128 ae ae ae;have p3:=hb 3200064128 ae ae ae;have p4:=hb 3200064067 ae ae ae;have p5:=hb 3200128128 ae ae ae;simp only[b0,b1,b2,bs,bf,bd] at p0 p1 p2 p3 p4 p5;simp only[go_sem,v3,v5,v6,p1,p3,p4,p5,Ks,s88,gV pe2,s92];refine⟨aK,?_⟩;refine Lq ae ae ae hL1 hD1 x1 y1 hj (Nj h2) (JT h2 hj) fun B3 hL3 hD3 ef=>?_
 have r0:=ef 3200000000 ae ae ae;have r1:=ef 3200000064 ae ae ae;have r2:=ef 3200000128 ae ae ae;have r3:=ef 3200128128 ae ae ae;simp only[p0,p1,p2,p5] at r0 r1 r2 r3;generalize eN (eN L0 i (nx ls i)) j (nx ls j)=L3 at*;generalize eN (eN (rY ls) i (nx ls i)) j (nx ls j)=D3 at*;have pcl:=Ye (F:Int) ls L3 D3 aa (y3.trans x3.symm);have cM:(sJ L3 D3).length=L3.length:=ae9 _ _;have qq:sJ L3 D3≠[]:=fun e=>by rw[e] at cM;simp only[eE] at cM;omega
 simp only[apO];rw[xQ (Qk qq)] at pcl ⊢;have tk:List.take ls.length (aZ L3)=aZ L3:=by rw[<- x3];exact NS L3
 have tb:List.take ls.length (bP D3)=bP D3:=by rw[<- y3];exact afk D3
 simp only[go_sem,v2,v4,v6,hL3,hD3,r0,r2,r3,CX,SB,tk,tb,x3,y3,i50_r3,s96,AW pcl l4 (.inr (Yk _ _))];refine⟨aK,?_⟩;simp[gh,nL,kI,kh,gQ,aN,apart,sI,pQ,NS]
def alG(n cc k:Int):Int×Int:=if k==2 then (n+2,cc) else if k==5 then (n+2,cc+1) else if k==7 then (n+4,cc+2) else (n,cc)
def alR(w p:Bool)(n cc k:Int):Int:=if w then 2 else if p then (if decide (400<(alG n cc k).1)||decide (100<(alG n cc k).2) then 7 else 0) else 4
theorem OB{k a b c:Int}{l o:Bool}{sg:Int}{w p:Bool}(hl:ls.length<=400)(pw:aF S 191 [iH F ls,fE k a b c l o sg] (rb w))(pp:w=false->aF S 192 [iH F ls,fE k a b c l o sg] (rb p)):
  aF S 156 [iH F ls,fE k a b c l o sg] (ri (alR w p ls.length (aC Let.aG ls/2:Nat) k)):=by
 have pcr:=S6 (F:Int) ls aa;have wI:aC Let.aG ls<=ls.length:=oU _ _;have lS:aC Let.aG ls/2<=400:=aa;generalize aC Let.aG ls/2=cc at*;have w1:IntKind.i64.wrap ((cc:Int)+1)=(cc:Int)+1:=rM aa aa;have w2:IntKind.i64.wrap ((cc:Int)+2)=(cc:Int)+2:=rM aa aa;have w3:IntKind.i64.wrap ((ls.length:Int)+2)=(ls.length:Int)+2:=rM aa aa;have w4:IntKind.i64.wrap ((ls.length:Int)+4)=(ls.length:Int)+4:=rM aa aa;unfold alR alG;cases w with
 |true=>
  refine aV c156 ?_;simp only[go_sem,i156,s191,bh pw];repeat' ((first|apply qX|apply qW|apply qQ|apply qP|apply qN|apply qM)<;>intro he<;>simp only[go_sem, *,s191,bh pw,bne,eF,eo])
  all_goals(first|done|exact aK|exact⟨aK,rfl⟩|rfl)
 |false=>
  have pp:=pp rfl;cases p with
  |false=>
   refine aV c156 ?_;simp only[go_sem,i156,s191,bh pw,s192,bh pp];repeat' ((first|apply qX|apply qW|apply qQ|apply qP|apply qN|apply qM)<;>intro he<;>simp only[go_sem, *,s191,bh pw,s192,bh pp,bne,eF,eo])
   all_goals(first|done|exact aK|exact⟨aK,rfl⟩|rfl)
  |true=>
   refine aV c156 ?_;simp only[go_sem,i156,s191,bh pw,s192,bh pp,s48,gV pcr];refine⟨aK,?_⟩;repeat' ((first|apply qX|apply qW|apply qQ|apply qP|apply qN|apply qM)<;>intro he<;>simp only[go_sem, *])
   all_goals(first|done|exact aK|exact⟨aK,rfl⟩|rfl)
theorem apS(g:bQ F ls){i:Nat}{c:Int}{l o:Bool}{sg:Int}(hi:i<ls.length)(hj:j<ls.length):aF S 192 [iH F ls,fE 3 i j c l o sg] (rb (Hz F ls i j)):=by
 have ps:=arS g hi hj;refine aV c192 ?_;simp only[go_sem,i192,s220,bh ps];repeat' ((first|apply qX|apply qW|apply qQ|apply qP|apply qN|apply qM)<;>intro he<;>simp only[go_sem, *,s220,bh ps,bne,eF,eo])
 all_goals(first|done|exact aK|exact⟨aK,rfl⟩|rfl)
theorem apU(g:bQ F ls){i:Nat}{c:Int}{l o:Bool}{sg:Int}(hi:i<ls.length)(hj:j<ls.length):aF S 192 [iH F ls,fE 6 i j c l o sg] (rb (dpR F ls i j)):=by
 have ps:=aoU g hi hj;refine aV c192 ?_;simp only[go_sem,i192,s222,bh ps];repeat' ((first|apply qX|apply qW|apply qQ|apply qP|apply qN|apply qM)<;>intro he<;>simp only[go_sem, *,s222,bh ps,bne,eF,eo])
 all_goals(first|done|exact aK|exact⟨aK,rfl⟩|rfl)
theorem apV(g:bQ F ls){i k:Nat}{l o:Bool}{sg:Int}(hi:i<ls.length)(hj:j<ls.length)(hk:k<ls.length):aF S 192 [iH F ls,fE 8 i j k l o sg] (rb (Dt F ls [i,j,k])):=by
 have ps:=asT g hi hj hk;refine aV c192 ?_;simp only[go_sem,i192,s223,bh ps];repeat' ((first|apply qX|apply qW|apply qQ|apply qP|apply qN|apply qM)<;>intro he<;>simp only[go_sem, *,s223,bh ps,bne,eF,eo])
 all_goals(first|done|exact aK|exact⟨aK,rfl⟩|rfl)
theorem apT(g:bQ F ls){i:Nat}{b c:Int}{l o:Bool}{sg:Int}(hi:i<ls.length):aF S 192 [iH F ls,fE 4 i b c l o sg] (rb (tL ls i&&((lA ls i).id==(lA ls (nx ls i)).id))):=by
 have ps:=OW (F:=F) hi (by have:=g.len;omega);have l1:S.lone 12288704192=false:=ah;have pc:=ps;generalize lA ls i=X at*;generalize lA ls (nx ls i)=Y at*;generalize tL ls i=e at*;refine aV c192 ?_;simp only[go_sem,i192,s221,AW pc l1 (.inl rfl)];repeat' ((first|apply qX|apply qW|apply qQ|apply qP|apply qN|apply qM)<;>intro he<;>simp only[go_sem, *])
 all_goals(first|done|exact aK|exact⟨aK,rfl⟩|rfl)
theorem apR(g:bQ F ls){i:Nat}{b c:Int}{l o:Bool}{sg:Int}(hi:i<ls.length)(ha:rkB (lA ls i))(hb:rkB (lA ls (nx ls i))):aF S 192 [iH F ls,fE 1 i b c l o sg] (rb (Dc (lA ls i) (lA ls (nx ls i))&&(decide ((2:Int)<(aC Let.aJ ls:Nat))||(((aC Let.aG ls/2:Nat):Int)==0)))):=by
 have hlen:=g.len;have pb:=OQ (F:=F) hi aa;have pn:=acY _ _ ha hb;have pp:=adM (F:Int) ls aa;have pc:=S6 (F:Int) ls aa;have l1:S.lone 12288192192=false:=ah;generalize Dc (lA ls i) (lA ls (nx ls i))=nb at*;generalize lA ls i=X at*;generalize lA ls (nx ls i)=Y at*;generalize aC Let.aJ ls=np at*;generalize aC Let.aG ls/2=nc at*;refine aV c192 ?_;simp only[go_sem,i192,s86,AW pb l1 (.inl rfl),s219,bh pn];repeat' ((first|apply qX|apply qW|apply qQ|apply qP|apply qN|apply qM)<;>intro he<;>simp only[go_sem, *,s45,dJ pp,s48,dJ pc])
 all_goals(first|done|exact aK|exact⟨aK,rfl⟩|rfl)
theorem of_e(F:Int):aF S 84 [cZ F []] (.agg [.p (.int .i64 F),.p (.sl []),.p (.int .i64 0),.p .nils]):=by refine aV c84 ?_;have hn:¬((0:Int)<0):=aa;simp only[go_sem,i84,Int.ofNat_zero,hn];all_goals(first|done|exact aK|exact⟨aK,rfl⟩|rfl)
theorem find_congr{α:Type}{l:List α}{p q:α->Bool}(h:∀x∈l,p x=q x):l.find? p=l.find? q:=by
 induction l with
 |nil=>rfl
 |cons a l ih=>rw[RW,RW,h a (KR ..),ih fun x hx=>h x (yN _ hx)]
theorem aep{l:List Pc}{f:Nat}(hf:f<=l.length):rH l f l.length=(l.drop f++l.take f).map Pc.l:=by
 apply Au;intro i;by_cases hi:i<l.length
 .have h1:(rH l f l.length)[i]?=some (l.getD ((f+i)%l.length) ⟨kO,false⟩).l:=by
   simp[rH,hi]
  rw[h1,fT];by_cases h2:f+i<l.length
  .rw[vR (by simp;omega),Aw,jN h2];simp[h2]
  rw[yK (by simp;omega),lX];have h3:(f+i)%l.length=i-(l.length-f):=by rw[Nat.mod_eq_sub_mod aa,jN aa];omega
  have h4:i-(l.length-f)<l.length:=aa;rw[h3,lI,aD aa];simp[h4]
 have h1:(rH l f l.length).length=l.length:=by simp[rH]
 rw[mS (by rw[h1];omega),mS (by simp;omega)]
theorem aj5{l:List Pc}{L:List Let}{D:List Bool}(hL:l.map Pc.l=L)(hd:D.length=l.length)(h:∀(i:Nat) (p:Pc),l[i]?=some p->(p.l.kind==1)=true->D[i]?=some p.d):nh l=sJ L D:=by
 subst hL;have hf:tR l=HB (l.map Pc.l) D:=by
  unfold tR HB;rw[cH];refine find_congr fun i hi=>?_;have hi:i<l.length:=by simpa using hi
  obtain⟨p,hp⟩:=aM hi;obtain⟨d,hD⟩:=aM (ls:=D) (k:=i) aa;have iU:(l.map Pc.l)[i]?=some p.l:=by rw[fT,hp];rfl
  simp only[pdA,FH,hp,iU,hD,Fs];cases hk:(p.l.kind==1) with
  |false=>simp
  |true=>have:=h i p hp hk;rw[hD] at this;cases this;simp
 unfold nh sJ;rw[<- hf];cases hq:tR l with
 |none=>simp only[Option.getD_none];rw[aep (bj _)];simp
 |some i=>
  have hi:i<l.length:=by
   have:=KS hq
   simpa using this
  simp only[lZ];rw[aep (Nat.le_of_lt hi),rQ,KP,KQ]
def Rel(l:List Pc)(L:List Let)(D:List Bool):Prop:= ∃z:List (Pc×Bool),z.map (·.1)=l/\z.map (·.1.l)=L/\z.map (·.2)=D/\ ∀x∈z,(x.1.l.kind==1)=true->x.2=x.1.d
theorem Rel.fin{l:List Pc}{L:List Let}{D:List Bool}(h:Rel l L D):nh l=sJ L D:=by
 obtain⟨z,rfl,rfl,rfl,hz⟩:=h;refine aj5 af af fun i p hp hk=>?_;rw[fT] at hp ⊢;cases hx:z[i]? with
 |none=>rw[hx] at hp;cases hp
 |some x=>rw[hx] at hp;cases hp;have:=hz x (aW hx) hk;rw[<- this];rfl
theorem Rel.base(ls:List Let):Rel (pieces ls) ls (rY ls):=by
 refine⟨(List.range ls.length).map fun i=>(⟨ls.getD i kO,iz ls i⟩,dn ls i),?_,?_,?_,?_⟩
 .simp[pieces]
 .rw[yL];apply Au;intro i;rw[fT];by_cases hi:i<ls.length
  .rw[rO hi];simp[hi]
  rw[mS (by simp;omega),mS aa];rfl
 .rw[yL];rfl
 intro x hx hk;obtain⟨i,hi,rfl⟩:=dI.1 hx;have hi:=fg.1 hi;obtain⟨l,hl⟩:=aM hi;simp only[cY,hl,lZ] at hk ⊢;unfold iz;rw[hl];simp only;unfold Let.aJ;rw[hk,xx]
theorem Va{α β:Type}(f:α->β)(l:List α)(i j:Nat):(eN l i j).map f=eN (l.map f) i j:=by unfold eN;rw[fT,fT];cases l[i]? <;>cases l[j]? <;>simp[yM]
theorem asB{α:Type}{l:List α}{i:Nat}{x:α}(h:x∈eN l i j):x∈l:=by
 unfold eN at h;cases hi:l[i]? with
 |none=>rw[hi] at h;exact h
 |some a=>
  cases hj:l[j]? with
  |none=>rw[hi,hj] at h;exact h
  |some b=>
   rw[hi,hj] at h;rcases R0 h with h|rfl
   .rcases R0 h with h|rfl
    .exact h
    exact aW hj
   exact aW hi
theorem Rel.sw{l:List Pc}{L:List Let}{D:List Bool}(h:Rel l L D)(i j:Nat):Rel (eN l i j) (eN L i j) (eN D i j):=by obtain⟨z,rfl,rfl,rfl,hz⟩:=h;exact⟨eN z i j,Va _ _ _ _,Va _ _ _ _,Va _ _ _ _,fun x hx=>hz x (asB hx)⟩
theorem Rel.set{l:List Pc}{L:List Let}{D:List Bool}(h:Rel l L D){i:Nat}{p q:Pc}(hp:l[i]?=some p)(hd:q.d=p.d)(hk:q.l.kind=p.l.kind):Rel (l.set i q) (L.set i q.l) D:=by
 obtain⟨z,rfl,rfl,rfl,hz⟩:=h;rw[fT] at hp;cases hx:z[i]? with
 |none=>rw[hx] at hp;cases hp
 |some x=>
  rw[hx] at hp;cases hp;refine⟨z.set i (q,x.2),by rw[yM],by rw[yM],?_,fun y hy hky=>?_⟩
  .rw[yM];apply Au;intro j;rw[mC];by_cases e:i=j
   .subst e;rw[aD rfl,fT,hx];have:i<z.length:=(bg.1 hx).1;simp[this]
   rw[ay e]
  rcases R0 hy with hy|rfl
  .exact hz y hy hky
  simp only at hky ⊢;rw[hd];exact hz x (aW hx) (by rw[<- hk];exact hky)
theorem Ab(ls:List Let)(i:Nat):(pA ls i).l=lA ls i:=by
 by_cases h:i<ls.length
 .obtain⟨l,hl⟩:=aM h;show((pieces ls).getD i _).l=ls.getD i kO;rw[cY,cY,pP hl,hl];rfl
 show((pieces ls).getD i _).l=ls.getD i kO;rw[cY,cY,mS (by rw[jJ];omega),mS aa];rfl
theorem ace{i:Nat}(h:i<ls.length):ls[i]?=some (lA ls i):=by obtain⟨l,hl⟩:=aM h;rw[hl];show some l=some (ls.getD i kO);rw[cY,hl];rfl
theorem adF{i:Nat}(h:i<ls.length):(pieces ls)[i]?=some (pA ls i):=by rw[pP (ace h)];congr 1;show _=(pieces ls).getD i _;rw[cY,pP (ace h)];rfl
theorem UG{l:Let}(h:l.kind=2):l.aG=true:=by unfold Let.aG;rw[h];rfl
theorem Ha{l:Let}(h:l.kind=1):l.aJ=true:=by unfold Let.aJ;rw[h];rfl
theorem amZ{l:Let}(h:l.aG=true):l.kind=2:=by unfold Let.aG at h;exact eq_of_beq h
theorem UO{l:Let}(h:l.aJ=true):l.kind=1:=by unfold Let.aJ at h;exact eq_of_beq h
section
variable {F:Nat} {ls:List Let}
theorem bQ.pos(g:bQ F ls):0<ls.length:=jl.2 g.ne
theorem bQ.Hm(g:bQ F ls)(e:Nat):nx ls e<ls.length:=ez _ g.pos
theorem bQ.Po(g:bQ F ls){i:Nat}{l:Let}(hl:ls[i]?=some l)(hp:l.aJ=true):tW F ls l:=g.ok.ax.eQ l (aW hl) hp
theorem bQ.one(g:bQ F ls){i:Nat}{l m:Let}(hl:ls[i]?=some l)(hm:ls[j]?=some m)(pl:l.aJ=true)(pm:m.aJ=true)(hg:l.gate=m.gate)(hr:l.aE=m.aE):i=j:=g.ok.ax.inj i j l m hl hm pl pm ((Fu (g.Po hl pl) (g.Po hm pm)).2 ⟨hg,hr⟩)
end
section
variable {F:Nat} {ls:List Let}
theorem bQ.two(g:bQ F ls):2<=ls.length:=by have h:=acr g.ok;obtain⟨l,hl,hp⟩:=g.first;have h1:0<aC Let.aJ ls:=yJ.2 ⟨l,aW hl,hp⟩;have h2:=g.even;omega
theorem bQ.Vk(g:bQ F ls){a:Nat}(ha:a<ls.length):a≠nx ls a:=JT g.two ha
theorem XU(ls:List Let)(e:Nat)(ov:Bool):mG ls e ov=(tL ls e&&(((lA ls e).over==ov)&&((lA ls (nx ls e)).over==ov))):=by unfold mG tL;rw[Ab,Ab,WC]
end
theorem Wg:∀(L M:List Int),L.Nodup->(∀x∈L,x∈M)->L.length<=M.length:=by
 intro L
 induction L with
 |nil=>intro M _ _;exact bj _
 |cons a L ih=>intro M hn hs;obtain⟨h1,h2⟩:=nI.1 hn;have ha:=hs a af;have:=ih (M.erase a) h2 fun x hx=>(RZ (by rintro rfl;exact h1 hx)).2 (hs x (by simp[hx]));rw[RY ha] at this;have:0<M.length:=KM ha;simp only[cS];omega
theorem YU:∀l:List Int,(jC l).Nodup:=by
 intro l
 induction l with
 |nil=>exact vU
 |cons a l ih=>
  unfold jC;split
  .exact ih
  rename_i h;exact nI.2 ⟨fun hm=>h (F9.1 hm),ih⟩
theorem ai2{l:List Int}:(jC l).length=l.length↔l.Nodup:=by
 induction l with
 |nil=>simp[jC]
 |cons a l ih=>
  have hle:(jC l).length<=l.length:=Wg _ _ (YU l) fun x hx=>F9.1 hx;unfold jC;rw[nI];split
  .rename_i h;constructor
   .intro e;simp only[cS] at e;omega
   intro e;exact absurd h e.1
  rename_i h;simp only[cS];rw[<- ih];exact⟨fun e=>⟨h,aa⟩,fun e=>aa⟩
theorem aa7{l:List Int}{x:Int}(h:l.Nodup):(fV l x).Nodup:=by
 unfold fV;split
 .exact h
 rename_i hx;rw[DH];exact⟨h,af,fun a ha b hb e=>hx (by simp at hb;subst hb;subst e;exact ha)⟩
theorem aa6{l:List Int}{x y:Int}:y∈fV l x↔y∈l\/y=x:=by
 unfold fV;split
 .rename_i hx;exact⟨.inl,fun h=>h.elim id fun e=>e▸hx⟩
 simp
section
variable {F:Nat} {ls:List Let}
theorem amn{l:List Int}(h:l.Nodup)(e:Nat):(zR ls l e).Nodup:=aa7 (aa7 h)
theorem asO(es:List Nat):∀l:List Int,l.Nodup->(es.foldl (zR ls) l).Nodup/\ ∀y,y∈es.foldl (zR ls) l↔y∈l\/y∈es.flatMap fun e:Nat=>[(lA ls e).id,(lA ls (nx ls e)).id]:=by
 induction es with
 |nil=>intro l h;exact⟨h,fun y=>af⟩
 |cons e es ih=>
  intro l h;obtain⟨h1,h2⟩:=ih (zR ls l e) (amn h e);refine⟨h1,fun y=>?_⟩;rw[uY,h2];unfold zR;rw[aa6,aa6,DC,dZ];simp only[cI,iM,or_false];constructor
  .rintro (((h|h)|h)|h)
   .exact .inl h
   .exact .inr (.inl (.inl h))
   .exact .inr (.inl (.inr h))
   exact .inr (.inr h)
  rintro (h|(h|h)|h)
  .exact .inl (.inl (.inl h))
  .exact .inl (.inl (.inr h))
  .exact .inl (.inr h)
  exact .inr h
theorem amp(es:List Nat):(jC (uj ls es)).length=(jL ls es).length:=by
 obtain⟨h1,h2⟩:=asO (ls:=ls) es [] vU;have hm:∀y,y∈jC (uj ls es)↔y∈jL ls es:=fun y=>by rw[F9];unfold jL;rw[h2];unfold uj;simp only[Ab,iM,false_or]
 have a:=Wg _ _ (YU _) fun x hx=>(hm x).1 hx;have b:=Wg _ _ h1 fun x hx=>(hm x).2 hx;exact agf a b
theorem lv2{e:Nat}(h:tL ls e=true):mG ls e true=(Fg ls e==2)/\mG ls e false=(Fg ls e==0):=by rw[XU,XU,h];unfold Fg;cases (lA ls e).over<;>cases (lA ls (nx ls e)).over<;>exact⟨rfl,rfl⟩
theorem YI(e:Nat):wm ls e=tL ls e:=by unfold wm tL;rw[Ab,Ab]
theorem asM(g:bQ F ls){a b c:Nat}(ha:a<ls.length)(hb:b<ls.length)(hc:c<ls.length):FI F ls a b c=Dt F ls [a,b,c]:=by
 have na:=g.Vk ha;have nb:=g.Vk hb;have nc:=g.Vk hc;unfold FI Dt;rw[YA rfl ha,amp];have fj:((jC (rK ls [a,b,c])).length==6)=decide ((rK ls [a,b,c]).Nodup):=by rw[BB];simp only[dL,kV];rw[<- ai2];unfold rK;simp
 rw[fj];have cV:(List.range [a,b,c].length).all (Ak ls [a,b,c])=([a,b,c].all (wm ls)&&decide ((rK ls [a,b,c]).Nodup)):=by
  have:List.range [a,b,c].length=[0,1,2]:=rfl;rw[this];unfold Ak uk rK;simp only[oG,sP,List.getElem?_cons_zero,List.getElem?_cons_succ,KV,WW,DC,List.flatMap_nil,oI,nH,YI];rw[BB];simp only[cN,sM,decide_eq_false_iff_not,kV,cI,iM,or_false,nI,Az,not_false_eq_true,vU,and_true];constructor
  .rintro ⟨h1,⟨h2,h3,h4⟩,h5,h6,h7⟩
   refine⟨⟨h1,h2,h5⟩,?_⟩;omega
  rintro ⟨⟨h1,h2,h5⟩,h⟩
  refine⟨h1,⟨h2,?_,?_⟩,h5,?_,?_⟩<;>omega
 rw[cV];cases h1:[a,b,c].all (wm ls) with
 |false=>rfl
 |true=>
  simp only[oG,sP,xv,cN,YI] at h1;obtain⟨q1,q2,q3⟩:=h1;have e1:([a,b,c].any (mG ls · true))=decide ((2:Int)∈qH ls [a,b,c]):=by rw[BB];unfold qH;simp only[Rz,WG,Ry,(lv2 q1).1,(lv2 q2).1,(lv2 q3).1,sN,dL,kV,fy,pV,cI,iM,or_false];omega
  have e2:([a,b,c].any (mG ls · false))=decide ((0:Int)∈qH ls [a,b,c]):=by rw[BB];unfold qH;simp only[Rz,WG,Ry,(lv2 q1).2,(lv2 q2).2,(lv2 q3).2,sN,dL,kV,fy,pV,cI,iM,or_false];omega
  rw[e1,e2];simp only[xx]
theorem NQ(g:bQ F ls){l:List Pc}(hl:l.length=ls.length){e:Nat}(he:e<ls.length):gk ls l e=eN l e (nx ls e):=by have hn:=g.Hm e;obtain⟨p,hp⟩:=aM (ls:=l) (k:=e) aa;obtain⟨q,hq⟩:=aM (ls:=l) (k:=nx ls e) aa;unfold gk eN;rw[hp,hq];simp only[cY,hp,hq,lZ]
theorem mv8(g:bQ F ls){a b c:Nat}(ha:a<ls.length)(hb:b<ls.length)(hc:c<ls.length):
  (tC F ls a b c).isSome=Dt F ls [a,b,c]/\
  ∀L,tC F ls a b c=some L->Rel L (eN (eN (eN ls a (nx ls a)) b (nx ls b)) c (nx ls c)) (eN (eN (eN (rY ls) a (nx ls a)) b (nx ls b)) c (nx ls c)):=by
 unfold tC;rw[asM g ha hb hc];refine⟨by split<;>simp_all,fun L hL=>?_⟩;split at hL
 .cases hL;unfold im;simp only[uY,Oh];rw[NQ g (jJ ls) ha,NQ g (by rw[vP,jJ]) hb,NQ g (by rw[vP,vP,jJ]) hc];exact(((Rel.base ls).sw _ _).sw _ _).sw _ _
 cases hL
end
section
variable {F:Nat} {ls:List Let}
theorem Xq:∀(w:List Nat) (f:Fc),f.places.length<=(w.foldl (Fc.add F ls) f).places.length/\ ∀x∈w,2*ls.length<=x->(oz F ls ((x-2*ls.length)/2)).length<=(w.foldl (Fc.add F ls) f).places.length:=by
 intro w
 induction w with
 |nil=>intro f;exact⟨bJ _,fun x hx=>nomatch hx⟩
 |cons x w ih=>
  intro f;rw[uY];obtain⟨h1,h2⟩:=ih (Fc.add F ls f x);have h3:f.places.length<=(Fc.add F ls f x).places.length:=by
   unfold Fc.add;split
   .exact bJ _
   simp only[eG];omega
  refine⟨mD h3 h1,fun y hy hl=>?_⟩;rcases cI.1 hy with rfl|hy
  .refine mD ?_ h1;unfold Fc.add;rw[ay aa];simp only[eG];split<;>(try rw[lJ])<;>omega
  exact h2 y hy hl
theorem aoA(ok:eH F ls){v:Nat}{l:Let}(hl:ls[v]?=some l)(hp:l.aJ=true)(fw:Bool):∃k,k<(aB ls).length/\
  ((aY ls (jf ls.length v fw)=2*ls.length+2*k/\(aB ls).getD k 0=v)\/(aY ls (jf ls.length v fw)=2*ls.length+2*k+1/\(aB ls).getD ((k+1)%(aB ls).length) 0=v)):=by
 obtain⟨h1,h2⟩:=Ij ok hl hp;rw[Kw hl hp];by_cases c:(dn ls v==fw)=true
 .rw[aD c];exact⟨(aB ls).idxOf v,h1,.inl ⟨rfl,h2⟩⟩
 rw[ay c];refine⟨((aB ls).idxOf v+(aB ls).length-1)%(aB ls).length,ez _ aa,.inr ⟨rfl,?_⟩⟩;rw[vF h1,h2]
theorem akz(ok:eH F ls){k u v:Nat}(hk:k+1<(aB ls).length)(hu:(aB ls).getD k 0=u)(hv:(aB ls).getD (k+1) 0=v){l m:Let}(hl:ls[u]?=some l)(hm:ls[v]?=some m)
  (pl:l.aJ=true) (pm:m.aJ=true) (hg:m.gate<=l.gate):l.gate=m.gate/\m.aE=l.aE+1:=by
 obtain⟨u',GS⟩:=aM (ls:=aB ls) (k:=k) aa;obtain⟨v',GW⟩:=aM hk;rw[cY,GS,lZ] at hu;rw[cY,GW,lZ] at hv;subst hu hv;obtain⟨l',e1,_,e2⟩:=yX ok.ax GS;obtain⟨m',e3,_,e4⟩:=yX ok.ax GW;rw[hl] at e1;cases e1;rw[hm] at e3;cases e3;have gl:=ok.ax.eQ l (aW hl) pl;have gm:=ok.ax.eQ m (aW hm) pm;have aq:=(adU gl gm).2 aa;unfold Fe at aq;simp only[sN,cN,kV,dL] at aq;have Cy:l.gate=m.gate:=aa;refine⟨Cy,?_⟩;unfold dO at e2 e4;rw[Cy] at e2;have:=gl.r0;have:=gm.r0;omega
end
section
variable {F:Nat} {ls:List Let}
theorem Kf(e:Nat):(dC ls e).2.2=(iE ls e).2.2/\((iE ls e).2.2=true->(iE ls e).1=lA ls (dC ls e).2.1/\(iE ls e).2.1=lA ls (dC ls e).1/\(lA ls (dC ls e).1).kind=1/\(lA ls (dC ls e).2.1).kind=2/\
  (((dC ls e).1=e/\(dC ls e).2.1=nx ls e)\/((dC ls e).1=nx ls e/\(dC ls e).2.1=e))):=by
 unfold dC iE;rw[Ab,Ab];by_cases h1:(lA ls e).kind=1
 .have e2:((lA ls e).kind==2)=false:=by rw[h1];rfl
  have e1:((lA ls e).kind==1)=true:=by rw[h1];rfl
  rw[ay (by rw[e2];decide),aD e1];simp only[e1,xx,xv];exact⟨trivial,fun h=>⟨trivial,trivial,h1,eq_of_beq h,.inl ⟨trivial,trivial⟩⟩⟩
 have e1:((lA ls e).kind==1)=false:=by rw[tF];exact h1
 by_cases h2:(lA ls e).kind=2
 .have e2:((lA ls e).kind==2)=true:=by rw[h2];rfl
  rw[aD e2,ay (by rw[e1];decide)];simp only[e2,xx];exact⟨trivial,fun h=>⟨trivial,trivial,eq_of_beq h,h2,.inr ⟨trivial,trivial⟩⟩⟩
 have e2:((lA ls e).kind==2)=false:=by rw[tF];exact h2
 rw[ay (by rw[e2];decide),ay (by rw[e1];decide)];simp only[e1,e2,Oa];exact⟨trivial,fun h=>by cases h⟩
theorem Px{x:Nat}(hx:x<2*ls.length):nQ ls x=if x%2=0 then nx ls (x/2) else x/2:=by unfold nQ;rw[ay aa]
theorem acX(g:bQ F ls){w:List Nat}(hw:w∈eh (aY ls) (nD ls))(ru:(gC F ls w).places.length=1){x u:Nat}(hx:x∈w)(qw:x<2*ls.length)(hu:nQ ls x=u){l:Let}(hl:ls[u]?=some l)(pl:l.aJ=true):
  ∃y v m,y∈w/\y<2*ls.length/\nQ ls (rv y)=v/\ls[v]?=some m/\m.aJ=true/\l.gate=m.gate/\(l.aE=m.aE+1\/m.aE=l.aE+1):=by
 have ok:=g.ok;have m:=maps ok;have ue:=Ii qw;have hv:(if x%2=0 then (x/2+1)%ls.length else x/2)=u:=by rw[<- hu,Px qw]
 rw[hv] at ue;have hz:=Ao m hw hx;rw[ue] at hz;obtain⟨k,hk,hc⟩:=aoA ok hl pl (x%2==0);have pE:(oz F ls k).length<=1:=by
  rw[<- ru];unfold gC;rcases hc with ⟨e,_⟩|⟨e,_⟩
  .have:=(Xq (F:=F) (ls:=ls) w (Fc.new ls (w.headD 0))).2 _ (e▸hz) aa;rwa[show(2*ls.length+2*k-2*ls.length)/2=k by omega] at this
  have:=(Xq (F:=F) (ls:=ls) w (Fc.new ls (w.headD 0))).2 _ (e▸hz) aa;rwa[show(2*ls.length+2*k+1-2*ls.length)/2=k by omega] at this
 have mL:=ez (k+1) (show 0<(aB ls).length by omega);obtain⟨l1,gE,Ac⟩:=BP hk;obtain⟨l2,lk,Di⟩:=BP mL;have g1:=g.Po gE Ac;have g2:=g.Po lk Di;have tX:k+1<(aB ls).length/\gN ls ((aB ls).getD ((k+1)%(aB ls).length) 0)<=gN ls ((aB ls).getD k 0):=by
  unfold oz at pE;simp only at pE;split at pE
  .rename_i h;rw[vO] at pE;exact⟨h,aa⟩
  rw[eG,vO,vO] at pE;omega
 obtain⟨cF,hgn⟩:=tX;rw[jN cF] at lk hgn;rw[zj gE,zj lk] at hgn;have jU:l2.gate<=l1.gate:=by have:=g1.g0;have:=g2.g0;omega
 obtain⟨r1,r2⟩:=akz ok cF rfl rfl gE lk Ac Di jU;rcases hc with ⟨e,hA⟩|⟨e,hA⟩
 .rw[e] at hz;have wW:=Ao m hw hz;rw[HE,jN cF] at wW;rw[hA,hl] at gE;cases gE;have aq:=(bg.1 lk).1;exact⟨_,_,l2,wW,BI aq,by rw[Ai,EA aq],lk,Di,r1,.inr r2⟩
 rw[e] at hz;have wW:=Ao m hw hz;rw[HD] at wW;rw[jN cF] at hA;rw[hA,hl] at lk;cases lk;have aq:=(bg.1 gE).1;exact⟨_,_,l1,wW,BI aq,by rw[Ai,EA aq],gE,Ac,r1.symm,.inl r2⟩
theorem aiN(g:bQ F ls){w:List Nat}(hw:w∈eh (aY ls) (nD ls)){x u:Nat}(hx:x∈w)(qw:x<2*ls.length)(hu:nQ ls x=u){l:Let}(hl:ls[u]?=some l)(cl:l.aG=true):
  ∃y v m,y∈w/\y<2*ls.length/\nQ ls (rv y)=v/\ls[v]?=some m/\m.aG=true:=by
 have ok:=g.ok;have m:=maps ok;have ue:=Ii qw;have hv:(if x%2=0 then (x/2+1)%ls.length else x/2)=u:=by rw[<- hu,Px qw]
 rw[hv] at ue;have hz:=Ao m hw hx;rw[ue,Dv hl cl] at hz;obtain⟨_,k,hk,ck,_⟩:=sE ok.cr hl cl;have aq:=(bg.1 hk).1;exact⟨_,_,k,hz,BI aq,by rw[Ai,EA aq],hk,ck⟩
theorem atd{D:List Nat}(h:D.length=2){x y:Nat}(hx:x∈D)(hy:y∈D)(aI:x≠y){z:Nat}(hz:z∈D):z=x\/z=y:=by
 match D,h with
 |[p,q],_=>simp only[cI,iM,or_false] at hx hy hz;omega
theorem adl{l:Let}(h1:l.kind=1)(h2:l.aG=true):False:=by rw[amZ h2] at h1;cases h1
theorem aow(g:bQ F ls){a b:Nat}(ha:a<ls.length)(hb:b<ls.length)(dX:a≠b)(ma:(iE ls a).2.2=true)(mb:(iE ls b).2.2=true)(ho:vJ F ls 1 [a,b]=true):Dc (iE ls a).2.1 (iE ls b).2.1=true:=by
 obtain⟨_,p1,p2,p3,p4⟩:=And.intro (Kf (ls:=ls) a).1 ((Kf (ls:=ls) a).2 ma);obtain⟨_,q1,q2,q3,q4⟩:=And.intro (Kf (ls:=ls) b).1 ((Kf (ls:=ls) b).2 mb);rw[p2,q2];unfold vJ at ho;obtain⟨f,hf,h⟩:=FO.1 ho;obtain⟨w,hw,rfl⟩:=dI.1 hf;unfold Bj at h;simp only[cN,dL,cS,eE,oG,sP,xv,sM] at h;obtain⟨A1,ru,xa,xb⟩:=h;have mem:∀x,x∈(gC F ls w).bl↔x∈w/\x<2*ls.length:=fun x=>by rw[Ef,vS,kV]
 have ex:∀e,(decide (2*e∈(gC F ls w).bl)==decide (2*e+1∈(gC F ls w).bl))=false->∃d,d∈(gC F ls w).bl/\d/2=e:=by
  intro e h;by_cases h1:2*e∈(gC F ls w).bl
  .exact⟨_,h1,aa⟩
  by_cases h2:2*e+1∈(gC F ls w).bl
  .exact⟨_,h2,aa⟩
  rw[vW h1,vW h2] at h;cases h
 obtain⟨x,hx,xe⟩:=ex a xa;obtain⟨y,hy,ye⟩:=ex b xb;have qx:x≠y:=fun e=>dX (by rw[<- xe,<- ye,e]);obtain⟨xw,xl⟩:=(mem x).1 hx;obtain⟨yw,yl⟩:=(mem y).1 hy;have only:∀z,z∈w->z<2*ls.length->z=x\/z=y:=fun z h1 h2=>atd A1 hx hy qx ((mem z).2 ⟨h1,h2⟩)
 -- the ends of a dart of a mixed edge
 have ends:∀ {d e:Nat},d/2=e->d<2*ls.length->(((dC ls e).1=e/\(dC ls e).2.1=nx ls e)\/((dC ls e).1=nx ls e/\(dC ls e).2.1=e))->
   (nQ ls d=(dC ls e).1/\nQ ls (rv d)=(dC ls e).2.1)\/(nQ ls d=(dC ls e).2.1/\nQ ls (rv d)=(dC ls e).1):=by
  intro d e qk Cr hc;have hr:=Bs Cr;rw[Px Cr,Px hr,aqX,qk];rcases Ax d with c|c
  .have c':rv d%2=1:=by unfold rv;rw[aD c];omega
   rw[aD c,ay aa];rcases hc with ⟨c1,c2⟩|⟨c1,c2⟩<;>rw[c1,c2]<;>simp
  have c':rv d%2=0:=by unfold rv;rw[ay aa];omega
  rw[ay aa,aD c'];rcases hc with ⟨c1,c2⟩|⟨c1,c2⟩<;>rw[c1,c2]<;>simp
 have pvl:∀ {e:Nat},e<ls.length->(((dC ls e).1=e/\(dC ls e).2.1=nx ls e)\/((dC ls e).1=nx ls e/\(dC ls e).2.1=e))->(dC ls e).1<ls.length/\(dC ls e).2.1<ls.length:=fun he hc=>by
  have:=g.Hm ‹Nat›;rcases hc with ⟨c1,c2⟩|⟨c1,c2⟩<;>rw[c1,c2]
  .exact⟨he,g.Hm _⟩
  exact⟨g.Hm _,he⟩
 obtain⟨Ac,Di⟩:=pvl ha p4.2;obtain⟨Nz,ql2⟩:=pvl hb q4.2;have hP:=nC Ac;have hV:=nC Di;have hQ:=nC Nz;have hW:=nC ql2;have Ex:=ends xe xl p4.2;have Ey:=ends ye yl q4.2;have fin:∀ {P Q:Let},P.kind=1->Q.kind=1->P.gate=Q.gate->(P.aE=Q.aE+1\/Q.aE=P.aE+1)->Dc P Q=true:=fun h1 h2 h3 h4=>by unfold Dc;simp[h1,h2,h3,h4]
 rcases Ex with ⟨x1,x2⟩|⟨x1,x2⟩
 .obtain⟨z,v,mm,zw,zl,zv,hv,pm,r1,r2⟩:=acX g hw ru xw xl x1 hP (Ha p3);rcases only z zw zl with rfl|rfl
  .rw[x2] at zv;subst zv;rw[hV] at hv;cases hv;rw[UO pm] at p4;exact absurd p4.1 ae
  rcases Ey with ⟨y1,y2⟩|⟨y1,y2⟩
  .rw[y2] at zv;subst zv;rw[hW] at hv;cases hv;rw[UO pm] at q4;exact absurd q4.1 ae
  rw[y2] at zv;subst zv;rw[hQ] at hv;cases hv;exact fin p3 q3 r1 r2
 rcases Ey with ⟨y1,y2⟩|⟨y1,y2⟩
 .obtain⟨z,v,mm,zw,zl,zv,hv,pm,r1,r2⟩:=acX g hw ru yw yl y1 hQ (Ha q3);rcases only z zw zl with rfl|rfl
  .rw[x2] at zv;subst zv;rw[hP] at hv;cases hv;exact fin p3 q3 r1.symm r2.symm
  rw[y2] at zv;subst zv;rw[hW] at hv;cases hv;rw[UO pm] at q4;exact absurd q4.1 ae
 obtain⟨z,v,mm,zw,zl,zv,hv,cm⟩:=aiN g hw xw xl x1 hV (UG p4.1);rcases only z zw zl with rfl|rfl
 .rw[x2] at zv;subst zv;rw[hP] at hv;cases hv;exact absurd cm fun h=>adl p3 h
 rw[y2] at zv;subst zv;rw[hQ] at hv;cases hv;exact absurd cm fun h=>adl q3 h
theorem UY(x y:Let):leq x y=true↔x=y:=by
 constructor
 .intro h;unfold leq at h;simp only[cN,dL] at h;obtain⟨h1,h2,h3,h4,h5,h6⟩:=h;cases x;cases y;simp only at h1 h2 h3 h4 h5 h6;subst h1 h2 h3 h4 h5 h6;rfl
 rintro rfl;exact zV x
theorem aao(g:bQ F ls){i:Nat}{l:Let}(hl:ls[i]?=some l)(hk:l.kind=1):l=⟨1,l.gate,l.aE,0,0,false⟩:=by have hb:=g.bad l (aW hl);rw[xg (Ha hk)] at hb;obtain⟨⟨⟨_,h1⟩,h2⟩,h3⟩:=hb;cases l;simp only at hk h1 h2 h3 ⊢;subst hk h1 h2 h3;rfl
theorem apX(g:bQ F ls){i:Nat}(hi:i<ls.length)(hj:j<ls.length)(ki:(lA ls i).kind=1)(kj:(lA ls j).kind=1)(hg:(lA ls i).gate=(lA ls j).gate)(hr:(lA ls i).aE≠(lA ls j).aE):
  (ls.set i (lA ls j)).set j (lA ls i)=ls.map (lz (lA ls i) (lA ls j)):=by
 have h1:=nC hi;have h2:=nC hj;have aI:i≠j:=fun e=>hr (by rw[e]);apply Au;intro k;rw[fT,mC,mC,tE];have hpq:lz (lA ls i) (lA ls j) (lA ls i)=lA ls j:=by unfold lz;rw[aD (zV _)]
 have yo:lz (lA ls i) (lA ls j) (lA ls j)=lA ls i:=by unfold lz;rw[ay (fun h=>hr (by rw[(UY _ _).1 h])),aD (zV _)]
 by_cases e1:j=k
 .subst e1;rw[aD rfl,aD hj,h2,kU,yo]
 rw[ay e1];by_cases e2:i=k
 .subst e2;rw[aD rfl,aD hi,h1,kU,hpq]
 rw[ay e2];by_cases hk:k<ls.length
 .have h3:=nC hk;rw[h3,kU];congr 1;unfold lz;rw[ay,ay]
  .intro h;have h:=(UY _ _).1 h;exact e1 (g.one h2 h3 (Ha kj) (by rw[h];exact Ha kj) (by rw[h]) (by rw[h]))
  intro h;have h:=(UY _ _).1 h;exact e2 (g.one h1 h3 (Ha ki) (by rw[h];exact Ha ki) (by rw[h]) (by rw[h]))
 rw[mS aa];rfl
theorem aeL{l:List Pc}{i:Nat}{p:Pc}{r:Int}(h:l[i]?=some p):iK l i r=l.set i {p with l:={p.l with aE:=r}}:=by unfold iK;rw[cY,h];rfl
theorem mv3q(g:bQ F ls){a b:Nat}(ha:a<ls.length)(hb:b<ls.length)(dX:a≠b):
  (uy F ls a b).isSome=Hz F ls a b/\
  ∀L,uy F ls a b=some L->Rel L (eN (eN (ls.map (lz (iE ls a).2.1 (iE ls b).2.1)) a (nx ls a)) b (nx ls b)) (eN (eN (rY ls) a (nx ls a)) b (nx ls b)):=by
 have cP:=YA (F:=F) (ls:=ls) (pl:=1) (edges:=[a,b]) rfl ha;obtain⟨ea,pa⟩:=Kf (ls:=ls) a;obtain⟨eb,pb⟩:=Kf (ls:=ls) b;obtain⟨Ac,Di⟩:=QQ ha;obtain⟨Nz,ql2⟩:=QQ hb;have Gt:((dC ls a).2.2&&((dC ls b).2.2&&(!((dC ls a).2.1==(dC ls b).2.1)&&(((pA ls (dC ls a).2.1).l.id==(pA ls (dC ls b).2.1).l.id)&&rV F ls 1 [a,b] a))))=Hz F ls a b:=by
  unfold Hz;rw[ea,eb,cP,Ab,Ab];cases h1:(iE ls a).2.2 with
  |false=>rfl
  |true=>
  cases h2:(iE ls b).2.2 with
  |false=>rfl
  |true=>
  obtain⟨p1,p2,p3,p4,p5⟩:=pa h1;obtain⟨q1,q2,q3,q4,q5⟩:=pb h2;cases h3:vJ F ls 1 [a,b] with
  |false=>simp
  |true=>
  have hn:=aow g ha hb dX h1 h2 h3;rw[hn,p1,q1];simp only[xx,xv];cases h4:((lA ls (dC ls a).2.1).id==(lA ls (dC ls b).2.1).id) with
  |false=>simp
  |true=>
  simp only[xv,xx];congr 1;rw[BB,dL,dL];constructor
  .intro e;rw[e]
  intro e;apply Classical.byContradiction;intro aI;exact(g.ids.2 _ _ _ _ (nC Di) (nC ql2) (UG p4) (UG q4) (eq_of_beq h4) aI).1 e
 unfold uy;rw[Gt];refine⟨by split<;>simp_all,fun L hL=>?_⟩;split at hL
 .rename_i hc;cases hL;unfold Hz at hc;simp only[cN] at hc;obtain⟨h1,h2,_,_,hn,_⟩:=hc;obtain⟨p1,p2,p3,p4,p5⟩:=pa h1;obtain⟨q1,q2,q3,q4,q5⟩:=pb h2;rw[p2,q2] at hn ⊢;unfold Dc at hn;simp only[cN,sN,dL] at hn;obtain⟨_,_,hg,hr⟩:=hn;have aa2:(lA ls (dC ls a).1).aE≠(lA ls (dC ls b).1).aE:=aa;have aI:(dC ls a).1≠(dC ls b).1:=fun e=>aa2 (by rw[e])
  have gp:=aao g (nC Ac) p3;have gq:=aao g (nC Nz) q3;generalize mu:(dC ls a).1=pi at*;generalize CL:(dC ls b).1=qi at*;have s1:=adF Ac;have s2:=adF Nz;have r1:=(Rel.base ls).set s1 (q:={pA ls pi with l:={(pA ls pi).l with aE:=(pA ls qi).l.aE}}) rfl rfl;have t2:((pieces ls).set pi {pA ls pi with l:={(pA ls pi).l with aE:=(pA ls qi).l.aE}})[qi]?=some (pA ls qi):=by rw[List.getElem?_set_ne aI];exact s2
  have r2:=r1.set t2 (q:={pA ls qi with l:={(pA ls qi).l with aE:=(pA ls pi).l.aE}}) rfl rfl;have eL:(ls.set pi ({(pA ls pi).l with aE:=(pA ls qi).l.aE}:Let)).set qi ({(pA ls qi).l with aE:=(pA ls pi).l.aE}:Let)=ls.map (lz (lA ls pi) (lA ls qi)):=by
   rw[<- apX g Ac Nz p3 q3 hg aa2,Ab,Ab];have x1:({lA ls pi with aE:=(lA ls qi).aE}:Let)=lA ls qi:=by rw[gp,gq,hg]
   have x2:({lA ls qi with aE:=(lA ls pi).aE}:Let)=lA ls pi:=by rw[gp,gq,hg]
   rw[x1,x2]
  have eS:iK (iK (pieces ls) pi (pA ls qi).l.aE) qi (pA ls pi).l.aE=((pieces ls).set pi {pA ls pi with l:={(pA ls pi).l with aE:=(pA ls qi).l.aE}}).set qi {pA ls qi with l:={(pA ls qi).l with aE:=(pA ls pi).l.aE}}:=by rw[aeL s1,aeL t2]
  simp only at r2;rw[eL] at r2;rw[eS];unfold im;simp only[uY,Oh];have M6:(((pieces ls).set pi {pA ls pi with l:={(pA ls pi).l with aE:=(pA ls qi).l.aE}}).set qi {pA ls qi with l:={(pA ls qi).l with aE:=(pA ls pi).l.aE}}).length=ls.length:=by simp[jJ]
  rw[NQ g M6 ha,NQ g (by rw[vP,M6]) hb];exact(r2.sw _ _).sw _ _
 cases hL
end
end
end Go.Abs
