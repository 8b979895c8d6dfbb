/-
  Drafts of the document, and its Apply for seven kinds.
-/
import Derived.Test.YtnbfnkckmfibpaaGreatDoorVd
set_option linter.unusedSimpArgs false
set_option linter.unusedVariables false
set_option linter.unusedSectionVars false
set_option maxRecDepth 100000
set_option maxHeartbeats 16000000
namespace Go.Abs
section
variable{F:Nat}{ls:List ae}
theorem Pq(l:List ae):gI 6 (bn l)=true:=by simp[gI,ae.ps]
theorem szB(l:List Bool):gI 1 (bP l)=true:=by simp[gI]
theorem Sn(l:List Bool):((bP l).all fun e=>e.all PV.scalar)=true:=by simp[PV.scalar]
theorem Cm(a b:List ae):bn (a++b)=bn a++bn b:=abQ
theorem Rx(a b:List Bool):bP (a++b)=bP a++bP b:=abQ
theorem bG(l:List ae):(bn l).length=l.length:=aak _
theorem mK(l:List Bool):(bP l).length=l.length:=aak _
theorem pZ{s1 t1 z1 s2 t2 z2:Nat}{es fs:List (List PV)}{c d:C}{Tc:aB}(hs:s1≠s2)(h:grown s1 t1 z1 es (.one c) Tc)(h':grown s2 t2 z2 fs (.one d) Tc):en Tc (.agg [c,d])=some (.agg [aq t1 z1 es,aq t2 z2 fs]):=by
 obtain⟨c',o,hc,h2,h3⟩:=h.eo;cases hc
 obtain⟨d',q,hd,k2,k3⟩:=h'.eo;cases hd
 rcases h3 with rfl|rfl<;>rcases k3 with rfl|rfl<;>simp[en,et,cb,dg,h2,k2,apart,eZ,cX,hs]
def PQ(ls:List ae)(k:Nat):List Bool:=(List.range k).map (dn ls)
abbrev fj(ls:List ae):List Bool:=PQ ls ls.length
theorem LN(ls:List ae)(k:Nat):bP (PQ ls (k+1))=bP (PQ ls k)++[[.bool (dn ls k)]]:=by simp[PQ,abE]
theorem Oy(ls:List ae)(k:Nat):(PQ ls k).length=k:=by simp[PQ]
theorem OA(f:Int)(ls:List ae)(hl:ls.length<=1000000):aH S 56 [aQ f ls] (.one (aq 4 1 (bP (fj ls)))):=by
 refine aG c56 ?_;simp only[go_sem,i56];refine be (fun k env Tc=>env 1= .one (.Tn 3584000000 1 0)/\env 4=vi k/\Tc 3584000000=(1,some (.var (ie f ls)))/\ ∃ c,env 3= .one c/\grown 3584320320 4 1 (bP (PQ ls k)) (.one c) Tc) 0 ls.length (aah _) ?_ ?_
 ·simp only[go_sem];exact⟨rfl,_,rfl,grown.nil⟩
 ·rintro k env Tc hk ⟨h1,h4,b0,c,h3,gc⟩
  by_cases Ti:k<ls.length
  ·have Tk:((k:Int)<(ls.length:Int)):=by omega
   have w1:=am (n:=k) (by omega);have pd:=wB f ls k hl (by omega);simp only[go_sem,i56_l1,h1,h3,h4,b0,Tk,s98,aa pd];refine gk (xs:=[[.bool (dn ls k)]]) (gc.of_eq (aj (by decide))) (by simp only[bh,af,if_true];rfl) (.inl rfl) (by simp[Oy];omega) fun c2 Tq g2 hb=> ?_
   have q0:=hb 3584000000 (by decide) (by decide);simp only[go_sem,b0] at q0;simp only[go_sem,h1,h4,w1,Ti,q0];exact⟨c2,rfl,by rw[LN];exact g2⟩
  ·have:k=ls.length:=by omega
   subst this;simp only[go_sem,i56_l1,i56_r2,h1,h3,h4,b0,aN];exact iV gc
theorem jY(f:Int)(ls:List ae)(hl:ls.length<=1000000):aH S 19 [aQ f ls] (.agg [aq eH 6 (bn ls),aq 4 1 (bP (fj ls))]):=by
 have pd:=OA f ls hl;have lo:S.lone 1216064256=false:=by kernel_rfl
 refine aG c19 ?_;simp only[go_sem,i19];refine fi (id:=1216064128) (bytes:=48) grown.nil (xs:=bn ls) (rd:=[]) rfl (.inr (Pq _)) (by simp;omega) fun c1 Tq r w g1 Tw hw=> ?_
 rw[abK] at g1;have q0:=Tw 1216000000 (by decide) (by decide);have q1:=Tw 1216000064 (by decide) (by decide);simp only[go_sem] at q0 q1;simp only[go_sem,q0,s56];refine dJ pd lo (.inr (ap (Sn _))) fun c2 Tp w2 g2 Tv Uw=> ?_
 have g1':=g1.of_eq (Tv 1216064128 (by decide));have q1':=(Tv 1216000064 (by decide)).trans q1;simp only[go_sem,q1'];refine⟨?_,pZ (by decide) (g1'.of_eq (aj (by decide))) (g2.of_eq (aj (by decide)))⟩;rcases hw with ⟨rfl,rfl⟩|⟨rfl,rfl⟩|⟨rfl,rfl⟩<;>rcases Uw with rfl|rfl<;>kernel_rfl
theorem Rn(f:Int)(ls:List ae)(hl:ls.length<=1000000):aH S 99 [aQ f ls] (.agg [.p (.int .i64 f),aq eH 6 (bn ls)]):=by
 refine aG c99 ?_;simp only[go_sem,i99];refine fi (id:=6336064256) (bytes:=48) grown.nil (xs:=bn ls) (rd:=[]) rfl (.inr (Pq _)) (by simp;omega) fun c1 Tq r w g1 Tw hw=> ?_
 rw[abK] at g1;have q1:=Tw 6336000064 (by decide) (by decide);simp only[go_sem] at q1;simp only[go_sem,q1];refine⟨?_,kh (g1.of_eq (aj (by decide)))⟩;rcases hw with ⟨rfl,rfl⟩|⟨rfl,rfl⟩|⟨rfl,rfl⟩<;>kernel_rfl
def Qu(L:List ae)(D:List Bool)(i:Nat):Bool:=match L[i]?,D[i]? with|some l,some d=>(l.kind==1)&&d|_,_=>false
def Sl(L:List ae)(D:List Bool):Option Nat:=(List.range L.length).find? (Qu L D)
def mP(L:List ae)(D:List Bool):List ae:=match Sl L D with|some i=>L.drop i++L.take i|none=>L
theorem Ke(f:Int)(L:List ae)(D:List Bool)(hl:L.length<=1000000)(hd:D.length=L.length):aH S 61 [aQ f L, .one (.p (.sl (bP D)))] (.agg [.p (.int .i64 f),aq eH 6 (bn (mP L D))]):=by
 have pc:=Rn f L hl;have lo:S.lone 3904384064=false:=by kernel_rfl
 refine aG c61 ?_;simp only[go_sem,i61];refine be (fun k env Tc=>env 1= .one (.p (.sl (bP D)))/\env 2= .one (.Tn 3904000000 1 0)/\env 4= .one (.Tn 3904000064 1 0)/\env 5=vi k/\Tc 3904000000=(1,some (.var (ie f L)))/\Tc 3904000064=(1,some (.var [.p (.int .i64 0), .p .nils]))/\ ∀ j,j<k->Qu L D j=false) 0 L.length (aah _) ?_ ?_
 ·simp only[go_sem];exact⟨rfl,fun j hj=>absurd hj (abl j)⟩
 ·rintro k env Tc hk ⟨h1,h2,h4,h5,b0,b1,hn⟩
  by_cases Ti:k<L.length
  ·have Tk:((k:Int)<(L.length:Int)):=by omega
   obtain⟨l,hL⟩:=ao Ti;obtain⟨d,hD⟩:=ao (ls:=D) (k:=k) (by omega);have TD:=cD hL;have hpb:=ig hD;have w1:=am (n:=k) (by omega);have hs:Qu L D k=((l.kind==1)&&d):=by simp[Qu,hL,hD]
   have miss:Qu L D k=false-> ∀ j,j<k+1->Qu L D j=false:=fun h j hj=>by
    rcases aaW.1 hj with h1|rfl
    ·exact hn j h1
    ·exact h
   cases TH:(l.kind==1) with
   |false=>
    rw[TH] at hs;simp only[go_sem,i61_l1,h1,h2,h4,h5,b0,b1,Ti,Tk,TD,ae.ps,TH,w1];exact miss hs
   |true=>
    rw[TH] at hs;cases d with
    |false=>
     simp only[go_sem,i61_l1,h1,h2,h4,h5,b0,b1,Ti,Tk,TD,hpb,ae.ps,TH,w1];exact miss hs
    |true=>
     have hf:Sl L D=some k:=fh Ti hn hs;have TE:mP L D=L.drop k++L.take k:=by unfold mP;rw[hf]
     have kl:k<=L.length:=by omega
     have hs6:((bn L).all fun e=>e.length==6)=true:=Pq L;have hdr:List.take (L.length - k) (List.drop k (bn L))=bn (L.drop k):=by rw[aau (by simp)];simp[List.map_drop]
     have Uq:List.take k (bn L)=bn (L.take k):=by simp[List.map_take]
     rw[TE,Cm];simp only[go_sem,i61_l1,h1,h2,h5,b0,Tk,TD,hpb,ae.ps,TH,kl,hs6,hdr];refine fi (id:=3904320384) (bytes:=48) grown.nil (xs:=bn (L.drop k)) (rd:=[]) rfl (.inr (Pq _)) (by simp;omega) fun c1 Tq r w g1 Tw hw=> ?_
     rw[abK] at g1;have q0:=(Tw 3904000000 (by decide) (by decide)).trans b0;have q1:=(Tw 3904000064 (by decide) (by decide)).trans b1;simp only[go_sem,h2,h5,q0,kl,hs6,Uq];refine fi (bytes:=48) g1 (xs:=bn (L.take k)) (rd:=[]) rfl (.inr (Pq _)) (by simp;omega) fun c2 Tp r2 w2 g2 Tv Uw=> ?_
     have q1':=(Tv 3904000064 (by decide) (by decide)).trans q1;simp only[go_sem,h4,q1'];refine⟨?_,kh (g2.of_eq (aj (by decide)))⟩;rcases hw with ⟨rfl,rfl⟩|⟨rfl,rfl⟩|⟨rfl,rfl⟩<;>rcases Uw with ⟨rfl,rfl⟩|⟨rfl,rfl⟩|⟨rfl,rfl⟩<;>kernel_rfl
  ·have:k=L.length:=by omega
   subst this;have hf:Sl L D=none:=eD hn;have TE:mP L D=L:=by unfold mP;rw[hf]
   rw[TE];simp only[go_sem,i61_l1,i61_r2,h2,h5,b0,aN,s99];refine GL pc lo rfl (r4 _) fun c2 Tp YM Tv=> ?_
   have q1:=(Tv 3904000064 (by decide)).trans b1;simp only[go_sem,h4,q1];exact kh (YM.of_eq (aj (by decide)))
theorem fI(f:Int)(ls L:List ae)(D:List Bool)(hl:L.length<=1000000)(hd:D.length=L.length):aH S 32 [.agg [.p (tY L), .p (.sl (bP D))],aQ f ls] (.agg [.p (.int .i64 f),aq eH 6 (bn (mP L D))]):=by
 have ps:=Ke f L D hl hd;have lo:S.lone 2048064448=false:=by kernel_rfl
 refine aG c32 ?_;simp only[go_sem,i32,s61];refine GL ps lo rfl (r4 _) fun c2 Tp YM Tv=> ?_
 have q1:=Tv 2048000128 (by decide);simp only[go_sem] at q1;simp only[go_sem,q1];exact kh (YM.of_eq (aj (by decide)))
abbrev PT(L:List ae)(D:List Bool):V:= .agg [.p (tY L), .p (.sl (bP D))]
abbrev Db(L:List ae)(D:List Bool):RV:= .agg [aq eH 6 (bn L),aq 4 1 (bP D)]
def dQ{α:Type}(l x:List α)(k:Nat):List α:=l.take (k+1)++x++l.drop (k+1)
theorem bl{α:Type}(l x:List α)(k:Nat):(dQ l x k).length=l.length+x.length:=by
 simp only[dQ,aay,aaB,abY];omega
theorem lI(L:List ae)(D:List Bool)(k:Nat)(x y:ae)(dn:Bool)(hl:L.length<=1000000)(hd:D.length=L.length)(hk:k<L.length):
  aH S 29 [PT L D,vi k,vH x,vH y,vb dn] (Db (dQ L [x,y] k) (dQ D [dn,!dn] k)):=by
 have w1:=am (n:=k) (by omega);have k1:k+1<=L.length:=by omega
 have k2:k+1<=D.length:=by omega
 have s1:((bn L).all fun e=>e.length==6)=true:=Pq L;have s2:((bP D).all fun e=>e.length==1)=true:=szB D;have t1:List.take (k+1) (bn L)=bn (L.take (k+1)):=by simp[List.map_take]
 have t2:List.take (k+1) (bP D)=bP (D.take (k+1)):=by simp[List.map_take]
 have t3:List.take (L.length - (k+1)) (List.drop (k+1) (bn L))=bn (L.drop (k+1)):=by rw[aau (by simp)];simp[List.map_drop]
 have t4:List.take (D.length - (k+1)) (List.drop (k+1) (bP D))=bP (D.drop (k+1)):=by rw[aau (by simp)];simp[List.map_drop]
 have r1: ∀ X:List ae,X.length<=2000000->(bn X).length<=2000000:=fun X h=>by rw[bG];exact h
 refine aG c29 ?_;simp only[go_sem,i29,w1,k1,s1,t1];refine fi (id:=1856064320) (bytes:=48) grown.nil (xs:=bn (L.take (k+1))) (rd:=[]) rfl (.inr (Pq _)) (by simp;omega) fun c1 Tq ra wa g1 Tw UI=> ?_
 rw[abK] at g1;have p0:=Tw 1856000000 (by decide) (by decide);have p7:=Tw 1856000064 (by decide) (by decide);have p8:=Tw 1856000128 (by decide) (by decide);have p10:=Tw 1856000192 (by decide) (by decide);simp only[go_sem] at p0 p7 p8 p10;simp only[go_sem,p0,w1,k2,s2,t2];refine fi (id:=1856064704) (bytes:=1) grown.nil (xs:=bP (D.take (k+1))) (rd:=[]) rfl (.inr (szB _)) (by simp;omega) fun c2 Tp rb wb g2 Tv Uw=> ?_
 rw[abK] at g2;have q0:=(Tv 1856000000 (by decide) (by decide)).trans p0;have q7:=(Tv 1856000064 (by decide) (by decide)).trans p7;have q8:=(Tv 1856000128 (by decide) (by decide)).trans p8;have q10:=(Tv 1856000192 (by decide) (by decide)).trans p10;have g1b:=g1.of_eq (Tv 1856064320 (by decide) (by decide));simp only[go_sem,q7,q8];refine⟨?_,?_⟩
 ·rcases UI with ⟨rfl,rfl⟩|⟨rfl,rfl⟩|⟨rfl,rfl⟩<;>rcases Uw with ⟨rfl,rfl⟩|⟨rfl,rfl⟩|⟨rfl,rfl⟩<;>kernel_rfl
 refine fi (xs:=[x.ps,y.ps]) (g1b.of_eq (by simp only[go_sem])) (by simp only[bh,af,if_true];rfl) (.inl rfl) (by simp only[bG,aaB,aar,aav];omega) fun c3 Ub rc wc g3 Uz hw3=> ?_
 have z0:=Uz 1856000000 (by decide) (by decide);have z10:=Uz 1856000192 (by decide) (by decide);have z11:=Uz 1856064832 (by decide) (by decide);have zg:=Uz 1856064704 (by decide) (by decide);simp only[go_sem,q0,q10] at z0 z10 z11 zg;have g2b:=g2.of_eq zg;simp only[go_sem,z0,w1,k1,s1,t3];refine fi (bytes:=48) g3 (xs:=bn (L.drop (k+1))) (rd:=[]) rfl (.inr (Pq _)) (by simp only[bG,aay,aaB,abY,aar,aav];omega) fun c4 ada rd4 wd4 g4 Un hw4=> ?_
 have y0:=(Un 1856000000 (by decide) (by decide)).trans z0;have y10:=(Un 1856000192 (by decide) (by decide)).trans z10;have y11:=(Un 1856064832 (by decide) (by decide)).trans z11;have g2c:=g2b.of_eq (Un 1856064704 (by decide) (by decide));simp only[go_sem,y11];refine⟨?_,?_⟩
 ·rcases hw3 with ⟨rfl,rfl⟩|⟨rfl,rfl⟩|⟨rfl,rfl⟩<;>rcases hw4 with ⟨rfl,rfl⟩|⟨rfl,rfl⟩|⟨rfl,rfl⟩<;>kernel_rfl
 refine fi (xs:=[[.bool dn],[.bool !dn]]) (g2c.of_eq (by simp only[go_sem])) (by simp only[bh,af,if_true];rfl) (.inl rfl) (by simp only[mK,aaB,aar,aav];omega) fun c5 Xo re we g5 hb5 hw5=> ?_
 have x0:=hb5 1856000000 (by decide) (by decide);have x10:=hb5 1856000192 (by decide) (by decide);have x11:=hb5 1856064832 (by decide) (by decide);have xg:=hb5 1856128704 (by decide) (by decide);simp only[go_sem,y0,y10] at x0 x10 x11 xg;have g4b:=g4.of_eq xg;simp only[go_sem,x0,w1,k2,s2,t4];refine fi (bytes:=1) g5 (xs:=bP (D.drop (k+1))) (rd:=[]) rfl (.inr (szB _)) (by simp only[mK,aay,aaB,abY,aar,aav];omega) fun c6 blk6 rf wf g6 hb6 hw6=> ?_
 have v10:=(hb6 1856000192 (by decide) (by decide)).trans x10;have v11:=(hb6 1856064832 (by decide) (by decide)).trans x11;have g4c:=g4b.of_eq (hb6 1856128704 (by decide) (by decide));simp only[go_sem,v10,v11];refine⟨?_,?_⟩
 ·rcases hw5 with ⟨rfl,rfl⟩|⟨rfl,rfl⟩|⟨rfl,rfl⟩<;>rcases hw6 with ⟨rfl,rfl⟩|⟨rfl,rfl⟩|⟨rfl,rfl⟩<;>kernel_rfl
 have e1:bn (dQ L [x,y] k)=bn (L.take (k+1))++[x.ps,y.ps]++bn (L.drop (k+1)):=by simp[dQ]
 have e2:bP (dQ D [dn,!dn] k)=bP (D.take (k+1))++[[.bool dn],[.bool !dn]]++bP (D.drop (k+1)):=by simp[dQ]
 rw[Db,e1,e2];exact pZ (by decide) (g4c.of_eq (by simp only[go_sem])) (g6.of_eq (by simp only[go_sem]))
def Pg{α:Type}(l:List α)(out:List Nat)(i:Nat):Option α:=if i∈out then none else l[i]?
def DI{α:Type}(l:List α)(out:List Nat)(k:Nat):List α:=(List.range k).filterMap (Pg l out)
abbrev lq{α:Type}(l:List α)(out:List Nat):List α:=DI l out l.length
theorem zq{α:Type}{l:List α}{out:List Nat}{k:Nat}(h:k∈out):DI l out (k+1)=DI l out k:=by
 simp[DI,abE,List.filterMap_append,Pg,h]
theorem ua{α:Type}{l:List α}{out:List Nat}{k:Nat}{x:α}(h: ¬ k∈out)(hx:l[k]? =some x):DI l out (k+1)=DI l out k++[x]:=by
 simp[DI,abE,List.filterMap_append,Pg,h,hx]
theorem zo{α:Type}(l:List α)(out:List Nat)(k:Nat):(DI l out k).length<=k:=by
 have:=List.length_filterMap_le (Pg l out) (List.range k)
 simpa [DI] using this
theorem rV(L:List ae)(D:List Bool)(out:List Nat)(hl:L.length<=1000000)(hd:D.length=L.length)(ho:out.length<=1000000):aH S 21 [PT L D, .one (.p (.sl (nP out)))] (Db (lq L out) (lq D out)):=by
 refine aG c21 ?_;simp only[go_sem,i21];refine be (fun k env Tc=>env 1= .one (.p (.sl (nP out)))/\env 2= .one (.Tn 1344000000 1 0)/\env 4= .one (.Tn 1344000064 1 0)/\env 5= .one (.Tn 1344064000 1 0)/\env 6=vi k/\Tc 1344000000=(1,some (.var [.p (tY L), .p (.sl (bP D))]))/\Tc 1344000064=(1,some (.var [.p .nils, .p .nils]))/\
  ∃ c1 c2,Tc 1344064000=(1,some (.var [c1,c2]))/\grown 1344384512 eH 6 (bn (DI L out k)) (.one c1) Tc/\grown 1344448512 4 1 (bP (DI D out k)) (.one c2) Tc) 0 L.length (aah _) ?_ ?_
 ·simp only[go_sem];exact⟨rfl,_,_,rfl,grown.nil,grown.nil⟩
 ·rintro k env Tc hk ⟨h1,h2,h4,h5,h6,b0,b1,c1,c2,b5,g1,g2⟩
  by_cases Ti:k<L.length
  ·have Tk:((k:Int)<(L.length:Int)):=by omega
   have w1:=am (n:=k) (by omega);have ph:=rn out k ho;obtain⟨x,hx⟩:=ao Ti;obtain⟨d,hD⟩:=ao (ls:=D) (k:=k) (by omega);have Vl:=cD hx;have hdp:=ig hD;have k2:k<D.length:=by omega
   have l1:=zo L out k;have l2:=zo D out k;cases hm:decide (k∈out) with
   |true=>
    rw[hm] at ph;have hm':=of_decide_eq_true hm;simp only[go_sem,i21_l1,h1,h2,h4,h5,h6,b0,b1,b5,Ti,Tk,s57,aa ph,w1];exact⟨_,_,rfl,by rw[zq hm'];exact g1,by rw[zq hm'];exact g2⟩
   |false=>
    rw[hm] at ph;have hm':=of_decide_eq_false hm;simp only[go_sem,i21_l1,h1,h2,h5,h6,b0,b5,Tk,s57,aa ph,Vl,ae.ps];refine fi (xs:=[x.ps]) (g1.of_eq (aj (by decide))) (by simp only[bh,af,if_true];rfl) (.inl rfl) (by simp only[bG,aar,aav];omega) fun c3 Tq ra wa g3 Tw UI=> ?_
    have q0:=Tw 1344000000 (by decide) (by decide);have q1:=Tw 1344000064 (by decide) (by decide);have q5:=Tw 1344064000 (by decide) (by decide);have q36:=Tw 1344448512 (by decide) (by decide);simp only[go_sem,b0,b1,b5] at q0 q1 q5 q36;have g2b:=g2.of_eq q36;simp only[go_sem,h2,h5,h6,q0,q5,hdp];refine⟨?_,?_⟩
    ·rcases UI with ⟨rfl,rfl⟩|⟨rfl,rfl⟩|⟨rfl,rfl⟩<;>kernel_rfl
    refine fi (xs:=[[.bool d]]) (g2b.of_eq (by simp only[go_sem])) (by simp only[bh,af,if_true];rfl) (.inl rfl) (by simp only[mK,aar,aav];omega) fun c4 Tp rb wb g4 Tv Uw=> ?_
    have p0:=Tv 1344000000 (by decide) (by decide);have p1:=Tv 1344000064 (by decide) (by decide);have p5:=Tv 1344064000 (by decide) (by decide);have p26:=Tv 1344384512 (by decide) (by decide);simp only[go_sem,q0,q1] at p0 p1 p5 p26;have g3b:=g3.of_eq p26;simp only[go_sem,h1,h2,h4,h5,h6,p0,p1,p5,w1,Ti];refine⟨?_,?_⟩
    ·rcases Uw with ⟨rfl,rfl⟩|⟨rfl,rfl⟩|⟨rfl,rfl⟩<;>kernel_rfl
    refine⟨_,_,rfl,?_,?_⟩
    ·rw[ua hm' hx,Cm];exact g3b.of_eq (by simp only[go_sem])
    ·rw[ua hm' hD,Rx];exact g4.of_eq (by simp only[go_sem])
  ·have:k=L.length:=by omega
   subst this;rw[<- hd] at g2;simp only[go_sem,i21_l1,i21_r2,h2,h4,h5,h6,b0,b1,b5,aN];exact pZ (by decide) (g1.of_eq (by simp only[go_sem])) (g2.of_eq (by simp only[go_sem]))
def LR(idL gL idD gD box:Nat)(L:List ae)(D:List Bool)(Tc:aB)(v:V)(Td:aB):Prop:=v= .tup []/\Td idL=(gL,some (.arr eH 6 (bn L)))/\Td idD=(gD,some (.arr 4 1 (bP D)))/\Kept (fun i=>i=idL\/i=idD\/i=box) Tc Td
def M2{α:Type}(l:List α)(i j:Nat)(x y:α):List α:=(l.set i y).set j x
theorem Qp{al:Al}{Tc:aB}{idL gL idD gD i j:Nat}{L:List ae}{D:List Bool}{x y:ae}{c d:Bool}(o1:al.ok idL=true)(o2:al.ok idD=true)(o3:al.ok 1664000000=true)(n1:idL≠idD)(n2:idL≠1664000000)(n3:idD≠1664000000)
  (hL:Tc idL=(gL,some (.arr eH 6 (bn L)))) (hD:Tc idD=(gD,some (.arr 4 1 (bP D)))) (hd:D.length=L.length) (hx:L[i]? =some x) (hy:L[j]? =some y) (hc:D[i]? =some c) (he:D[j]? =some d) (WK:i≠j):
  ∃ v Td,pz S 26 [.agg [.hsl idL gL 6 0 L.length, .hsl idD gD 1 0 D.length],vi i,vi j] al Tc v Td/\LR idL gL idD gD 1664000000 (M2 L i j x y) (M2 D i j c d) Tc v Td:=by
 have hi:=(aag.1 hx).1;have hj:=(aag.1 hy).1;have hi2:i<D.length:=by omega
 have Wh:j<D.length:=by omega
 have px:=cD hx;have py:=cD hy;have pc:=ig hc;have pd:=ig he;have hji: ¬ (j=i):=fun h=>WK h.symm
 refine eY c26 (aaN rfl) ?_;simp only[go_sem,i26,o1,o2,o3,hL,hD,n1.symm,n2,n2.symm,n3,hi,hj,hi2,Wh,px,py,pc,pd,ae.ps,WK,aa3,bG,mK];refine⟨au (by simp[dX,vw,kS,meets,rk,n2.symm];decide),au (by simp[dX,vw,kS,meets,rk,n3.symm];decide),?_⟩;refine⟨rfl,?_,?_,?_⟩
 ·simp only[go_sem,n1,n2];simp[M2,bn,abU,ae.ps]
 ·simp only[go_sem,n1.symm,n3];simp[M2,abU]
 ·intro q hq;have q1:q≠idL:=fun h=>hq (.inl h)
  have q2:q≠idD:=fun h=>hq (.inr (.inl h))
  have q3:q≠1664000000:=fun h=>hq (.inr (.inr h))
  simp only[go_sem,q1,q2,q3]
def jV(g ab Uu:Int)(l:ae):ae:=if (l.kind==1)&&((l.gate==g)&&decide (ab<l.Th)) then {l with Th:=l.Th - Uu} else l
theorem ut{α:Type}{f:α->α}{L:List α}{k:Nat}{x:α}(h:L[k]? =some x):((L.take k).map f++L.drop k)[k]? =some x:=by
 have hl:k<L.length:=(aag.1 h).1;rw[acn (by simp;omega)];simp only[aak,aaB,ab8 (Nat.le_of_lt hl),Nat.sub_self,act,ab6,h]
theorem ny{α:Type}{f:α->α}{L:List α}{k:Nat}{x:α}(h:L[k]? =some x):((L.take k).map f++L.drop k).set k (f x)=(L.take (k+1)).map f++L.drop (k+1):=by
 have hl:k<L.length:=(aag.1 h).1;rw[List.set_append_right _ _ (by simp;omega)];simp only[aak,aaB,ab8 (Nat.le_of_lt hl),Nat.sub_self];rw[aaX,h];have hd:L.drop k=x::L.drop (k+1):=by
  rw[adF hl];congr 1;exact(aag.1 h).2
 rw[hd];simp
theorem sj{α:Type}{f:α->α}{L:List α}{k:Nat}{x:α}(h:L[k]? =some x)(hf:f x=x):(L.take k).map f++L.drop k=(L.take (k+1)).map f++L.drop (k+1):=by
 rw[<- ny h,hf];have:=ut (f:=f) h;obtain⟨hk,hv⟩:=aag.1 this;have e:=List.set_getElem_self hk;rw[hv] at e;exact e.symm
theorem vF{α:Type}{f:α->α}(L:List α)(k:Nat):((L.take k).map f++L.drop k).length=L.length:=by simp;omega
def u4(idL gL box:Nat)(L:List ae)(Tc:aB)(v:V)(Td:aB):Prop:=v= .tup []/\Td idL=(gL,some (.arr eH 6 (bn L)))/\Kept (fun i=>i=idL\/i=box) Tc Td
abbrev j9{α:Type}(f:α->α)(L:List α)(k:Nat):List α:=(L.take k).map f++L.drop k
theorem jQ(L:List ae)(i:Nat)(y:ae){z:List PV}(h:y.ps=z):(bn L).set i z=bn (L.set i y):=by subst h;simp[bn,abU]
theorem J0{al:Al}{Tc:aB}{idL gL:Nat}{L:List ae}{vd:Abs.C}{g ab Uu:Int}(o1:al.ok idL=true)(o3:al.ok 1472000000=true)(n2:idL≠1472000000)
  (hl:L.length<=1000000) (hL:Tc idL=(gL,some (.arr eH 6 (bn L)))) (hw: ∀ x∈L,IntKind.i64.wrap (x.Th - Uu)=x.Th - Uu):
  ∃ v Td,pz S 23 [.agg [.hsl idL gL 6 0 L.length,vd],vi g,vi ab,vi Uu] al Tc v Td/\u4 idL gL 1472000000 (L.map (jV g ab Uu)) Tc v Td:=by
 refine eY c23 (aaN rfl) ?_;simp only[go_sem,i23,o3];refine be (fun k env Td=>env 1=vi g/\env 2=vi ab/\env 3=vi Uu/\env 4= .one (.Tn 1472000000 ((Tc 1472000000).1+1) 0)/\env 8=vi k/\Td 1472000000=((Tc 1472000000).1+1,some (.var [.hsl idL gL 6 0 L.length,vd]))/\Td idL=(gL,some (.arr eH 6 (bn (j9 (jV g ab Uu) L k))))/\Kept (fun i=>i=idL\/i=1472000000) Tc Td) 0 L.length (aah _) ?_ ?_
 ·simp only[go_sem,n2];exact⟨rfl,by simpa [j9] using hL,(Kept.refl _ _).fD (.inr rfl) _⟩
 ·rintro k env Tq hk ⟨h1,h2,h3,h4,h8,hb,hC,TL⟩
  by_cases Ti:k<L.length
  ·have Tk:((k:Int)<(L.length:Int)):=by omega
   have w1:=am (n:=k) (by omega);obtain⟨x,hx⟩:=ao Ti;have hm:=ut (f:=jV g ab Uu) hx;have Vl:=cD hm;have Vi:k<(j9 (jV g ab Uu) L k).length:=by rw[vF];exact Ti
   have wr:=hw x (aaf hx);simp only[go_sem,i23_l1,h4,h8,hb,hC,Ti,Tk,Vl,ae.ps,o1,o3];repeat' ((first|apply gO|apply gQ|apply gT|apply gU|apply gV|apply gX)<;>intro he<;>simp only[go_sem, *,n2.symm,ae.ps])
   all_goals(first|rw[show j9 (jV g ab Uu) L k=j9 (jV g ab Uu) L (k+1) from sj hx (by simp only[jV, *];rfl)]|skip)
   ·refine⟨au (by simp[dX,vw,kS,meets,rk,n2.symm]<;>decide),?_,?_⟩
    ·rw[jQ _ _ (jV g ab Uu x) (by simp[jV,ae.ps, *])];exact congrArg (fun z=>(gL,some (Ob.arr eH 6 (bn z)))) (ny hx)
    ·exact TL.fD (.inl rfl) _
  ·have:k=L.length:=by omega
   subst this;rw[show j9 (jV g ab Uu) L L.length=L.map (jV g ab Uu) by simp[j9]] at hC;simp only[go_sem,i23_l1,h4,h8,hb,o3,aN];exact⟨rfl,hC,TL⟩
theorem J1{al:Al}{Tc:aB}{vd:Abs.C}{g ab Uu:Int}(o3:al.ok 1472000000=true):
  ∃ v Td,pz S 23 [.agg [.p .nils,vd],vi g,vi ab,vi Uu] al Tc v Td/\v= .tup []/\Kept (· =1472000000) Tc Td:=by
 refine eY c23 (aaN rfl) ?_;simp only[go_sem,i23,o3];refine dV ?_;simp only[go_sem,i23_l1,o3];have h0:decide ((0:Int)<((0:Nat):Int))=false:=rfl;simp only[go_sem,h0];exact Kept.fD (Kept.refl (fun i=>i=1472000000) Tc) rfl _
def nz(gone:List Int)(i:Int)(k:Nat):Nat:=((gone.take k).filter (fun x=>decide (x<i))).length
theorem Cn(gone:List Int)(i:Int)(k:Nat):nz gone i k<=k:=by
 have:=List.length_filter_le (fun x=>decide (x<i)) (gone.take k);simp only[nz];have h:=List.length_take_le k gone;omega
theorem ET{gone:List Int}{i x:Int}{k:Nat}(h:gone[k]? =some x):nz gone i (k+1)=if decide (x<i) then nz gone i k+1 else nz gone i k:=by
 simp only[nz,aaX,h,List.filter_append];cases hx:decide (x<i)<;>simp[hx]
def r6(gone:List Int)(l:ae):ae:=if l.kind==2 then {l with id:=l.id - (nz gone l.id gone.length:Int)} else l
theorem Es{al:Al}{Tc:aB}{idL gL idG gG tG:Nat}{L:List ae}{vd:Abs.C}{gone:List Int}(o1:al.ok idL=true)(o2:al.ok idG=true)(o3:al.ok 1728000000=true)(n2:idL≠1728000000)(n3:idG≠1728000000)(n4:idL≠idG)
  (hl:L.length<=1000000) (hg:gone.length<=1000000) (hL:Tc idL=(gL,some (.arr eH 6 (bn L)))) (hG:Tc idG=(gG,some (.arr tG 1 (iP gone)))) (hw: ∀ x∈L,∀ k:Nat,k<=gone.length->IntKind.i64.wrap (x.id - (k:Int))=x.id - k):
  ∃ v Td,pz S 27 [.agg [.hsl idL gL 6 0 L.length,vd], .one (.hsl idG gG 1 0 gone.length)] al Tc v Td/\u4 idL gL 1728000000 (L.map (r6 gone)) Tc v Td:=by
 refine eY c27 (aaN rfl) ?_;simp only[go_sem,i27,o3];refine be (fun k env Td=>env 1= .one (.hsl idG gG 1 0 gone.length)/\env 2= .one (.Tn 1728000000 ((Tc 1728000000).1+1) 0)/\env 4=vi k/\Td 1728000000=((Tc 1728000000).1+1,some (.var [.hsl idL gL 6 0 L.length,vd]))/\Td idG=(gG,some (.arr tG 1 (iP gone)))/\Td idL=(gL,some (.arr eH 6 (bn (j9 (r6 gone) L k))))/\Kept (fun i=>i=idL\/i=1728000000) Tc Td) 0 L.length (aah _) ?_ ?_
 ·simp only[go_sem,n2,n3];refine⟨rfl,hG,?_,(Kept.refl _ _).fD (.inr rfl) _⟩;simp only[j9,List.take_zero,aaG,abK,List.drop_zero];exact hL
 ·rintro k env Tq hk ⟨h1,h2,h4,hb,hG',hC,TL⟩
  by_cases Ti:k<L.length
  ·have Tk:((k:Int)<(L.length:Int)):=by omega
   have w1:=am (n:=k) (by omega);obtain⟨x,hx⟩:=ao Ti;have hm:=ut (f:=r6 gone) hx;have Vl:=cD hm;have Vi:k<(j9 (r6 gone) L k).length:=by rw[vF];exact Ti
   have wr:=hw x (aaf hx);simp only[go_sem,i27_l4,h2,h4,hb,Tk,o3];refine be (fun q env Td=>env 1= .one (.hsl idG gG 1 0 gone.length)/\env 2= .one (.Tn 1728000000 ((Tc 1728000000).1+1) 0)/\env 4=vi k/\env 5=vi (nz gone x.id q)/\env 6=vi q/\Td=Tq) 0 gone.length (aah _) ?_ ?_
   ·simp only[go_sem,h1,h2,h4];exact⟨rfl,rfl⟩
   ·rintro q Tz Tp hq ⟨k1,k2,k4,k5,k6,rfl⟩
    by_cases hlq:q<gone.length
    ·have aid:((q:Int)<(gone.length:Int)):=by omega
     have w2:=am (n:=q) (by omega);have w3:=am (n:=nz gone x.id q) (by have:=Cn gone x.id q;omega);obtain⟨y,hy⟩:=ao hlq;have hyp:=nH hy;have hs:=ET (i:=x.id) hy;simp only[go_sem,i27_l1,k1,k2,k4,k6,hb,hG',hC,Ti,hlq,aid,Vl,hyp,ae.ps,o1,o2,o3];cases hyx:decide (y<x.id) with
     |true=>
      have adO:=of_decide_eq_true hyx;rw[hyx] at hs;simp only[go_sem,k1,k2,k4,k5,k6,w2,w3];exact⟨au (by simp[dX,vw,kS,meets,rk]<;>decide),hlq,by rw[hs];rfl⟩
     |false=>
      have adO:=of_decide_eq_false hyx;rw[hyx] at hs;simp only[go_sem,k1,k2,k4,k5,k6,w2];exact⟨au (by simp[dX,vw,kS,meets,rk]<;>decide),hlq,by rw[hs];rfl⟩
    ·have:q=gone.length:=by omega
     subst this;have wk:=wr (nz gone x.id gone.length) (Cn _ _ _);simp only[go_sem,i27_l1,i27_r2,i27_r3,k1,k2,k4,k6,hb,hG',hC,Ti,Vl,ae.ps,o1,o3,aN];cases Wm:x.kind==2 with
     |true=>
      simp only[go_sem,k1,k2,k4,k5,hb,hG',hC,Ti,Vl,ae.ps,o1,o3,w1,wk,n2.symm,n4.symm];refine⟨au (by simp[dX,vw,kS,meets,rk,n2.symm]<;>decide),?_,?_⟩
      ·rw[jQ _ _ (r6 gone x) (by simp[r6,ae.ps,Wm])];exact congrArg (fun z=>(gL,some (Ob.arr eH 6 (bn z)))) (ny hx)
      ·exact TL.fD (.inl rfl) _
     |false=>
      simp only[go_sem,k1,k2,k4,hb,hG',hC,Ti,w1];refine⟨?_,TL⟩;rw[show j9 (r6 gone) L k=j9 (r6 gone) L (k+1) from sj hx (by simp only[r6,Wm];rfl)]
  ·have:k=L.length:=by omega
   subst this;rw[show j9 (r6 gone) L L.length=L.map (r6 gone) by simp[j9]] at hC;simp only[go_sem,i27_l4,h2,h4,hb,o3,aN];exact⟨rfl,hC,TL⟩
theorem aok{i:Nat}:Al.all.ok i=true:=rfl
attribute [go_sem] aok
theorem bJ(ls:List ae):(fj ls).length=ls.length:=by simp[fj,PQ]
theorem ir(L:List ae)(D:List Bool):(mP L D).length=L.length:=by
 simp only[mP];split
 ·simp only[aay,abY,aaB];omega
 ·rfl
theorem fX{L:List ae}(h:L≠[]):bn L≠[]:=by simpa [bn] using h
theorem SR{L:List Bool}(h:L≠[]):bP L≠[]:=by simpa using h
abbrev OH(L:List ae)(D:List Bool):RV:= .agg [.own eH 6 (bn L), .own 4 1 (bP D)]
theorem dY{L:List ae}{D:List Bool}(h:L≠[])(hd:D.length=L.length):Db L D=OH L D:=by
 have h2:D≠[]:=fun e=>h (adf.1 (by rw[<- hd,e];rfl))
 simp only[Db,OH,bm (fX h),bm (SR h2)]
theorem fq(L:List ae)(D:List Bool):(OH L D).alone=true:=by
 have a:=r4 L;have b:=Sn D;simp[RV.alone,eJ,dA,RC.alone,a,b]
theorem eV(F:Nat)(L:List ae):(RV.agg [.p (.int .i64 F), .own eH 6 (bn L)]).alone=true:=by
 have a:=r4 L;simp[RV.alone,eJ,dA,RC.alone,PV.scalar,a]
theorem cU(l:List ae):(bn l).take l.length=bn l:=aau (by simp)
theorem eR(l:List Bool):(bP l).take l.length=bP l:=aau (by simp)
theorem iT{α:Type}{l:List α}{n:Nat}(h:l.length=n+1):l≠[]:=fun e=>by rw[e] at h;cases h
theorem nL(g:bj F ls):lZ (ay F ls)≠[]:=by
 have hl:0<ls.length:=abn.2 g.ne;obtain⟨j,hj,_⟩:=fR (F:=F) (ls:=ls) (d:=0) (by omega);intro e;have:ay F ls=[]:=by simpa using e
 rw[this] at hj;cases hj
theorem SX(g:bj F ls)(k:Nat)(b c:Int)(l o:Bool)(sg:Int)(hk:k<ls.length)(hl:ls.length<=400):
  aH S 9 [aQ F ls,dL 5 k b c l o sg] (.agg [.p (.int .i64 F),aq eH 6 (bn (mP (dQ ls [⟨2,0,0,(aD ae.aJ ls/2:Nat)+1,sg,o⟩,⟨2,0,0,(aD ae.aJ ls/2:Nat)+1,sg,!o⟩] k) (dQ (fj ls) [false,!false] k)))]):=by
 have pof:=vx g;have po:=jY (F:Int) ls (by omega);have pcr:=js (F:Int) ls (by omega);have Wt:aD ae.aJ ls<=ls.length:=dS _ _;have w1:IntKind.i64.wrap (((aD ae.aJ ls/2:Nat):Int)+1)=((aD ae.aJ ls/2:Nat):Int)+1:=dd (by omega) (by omega);have pins:=lI ls (fj ls) k ⟨2,0,0,(aD ae.aJ ls/2:Nat)+1,sg,o⟩ ⟨2,0,0,(aD ae.aJ ls/2:Nat)+1,sg,!o⟩ false (by omega) (bJ ls) hk;have Vj:(dQ ls [⟨2,0,0,(aD ae.aJ ls/2:Nat)+1,sg,o⟩,⟨2,0,0,(aD ae.aJ ls/2:Nat)+1,sg,!o⟩] k).length=ls.length+2:=bl _ _ _
 have Ts:(dQ (fj ls) [false,!false] k).length=ls.length+2:=by rw[bl,bJ];rfl
 have pcl:=fI (F:Int) ls _ _ (by omega) (Ts.trans Vj.symm);have l1:S.lone 576064064=false:=by kernel_rfl
 have l2:S.lone 576128064=false:=by kernel_rfl
 have l3:S.lone 577920320=false:=by kernel_rfl
 have l4:S.lone 579136128=false:=by kernel_rfl
 have n1:=bm (ty:=lS) (z:=5) (nL g);rw[n1] at pof;have U8:=dY g.ne (bJ ls);simp only[Db] at U8;rw[U8] at po;generalize hNL:dQ ls [⟨2,0,0,(aD ae.aJ ls/2:Nat)+1,sg,o⟩,⟨2,0,0,(aD ae.aJ ls/2:Nat)+1,sg,!o⟩] k=NL at*;generalize hND:dQ (fj ls) [false,!false] k=ND at*;rw[dY (iT Vj) (Ts.trans Vj.symm)] at pins;have TE:(mP NL ND).length=ls.length+1+1:=by rw[ir];exact Vj
 rw[bm (fX (iT TE))] at pcl ⊢;refine aG c9 ?_;simp only[go_sem,i9,s17,bx pof l1 (.inl rfl)];simp only[go_sem,s19,bx po l2 (.inl rfl),s28,bg pcr,w1];refine⟨au,?_⟩;simp only[go_sem,s29,cU,eR,bx pins l3 (.inr (fq _ _)),i9_r3,s32,bx pcl l4 (.inr (eV _ _))];simp[en,et,cb,dg,eo,af,apart,eZ,cX,cU]
abbrev Is(idL gL idD gD:Nat)(n m:Nat):V:= .agg [.hsl idL gL 6 0 n, .hsl idD gD 1 0 m]
theorem ni{Tc:aB}{idL gL idD gD n m:Nat}{L:List ae}{D:List Bool}(hL:Tc idL=(gL,some (.arr eH 6 (bn L))))(hD:Tc idD=(gD,some (.arr 4 1 (bP D)))):co Tc (Is idL gL idD gD n m)=[idL,idD]:=by
 have a:co Tc (.one (.hsl idL gL 6 0 n))=[idL]:=iR hL;have b:co Tc (.one (.hsl idD gD 1 0 m))=[idD]:=iR hD;simp only[co] at a b ⊢;simp[a,b]
theorem ud:S.sites 23=[23]:=by kernel_rfl
theorem Gd:S.sites 27=[27]:=by kernel_rfl
theorem Gc:S.sites 26=[26]:=by kernel_rfl
theorem zX{al:Al}{Tc:aB}{vd:Abs.C}{g:V}(o3:al.ok 1728000000=true):
  ∃ v Td,pz S 27 [.agg [.p .nils,vd],g] al Tc v Td/\v= .tup []/\Kept (· =1728000000) Tc Td:=by
 refine eY c27 (aaN rfl) ?_;simp only[go_sem,i27,o3];refine dV ?_;have h0:decide ((0:Int)<((0:Nat):Int))=false:=rfl;simp only[go_sem,i27_l4,o3,h0];exact Kept.fD (Kept.refl (fun i=>i=1728000000) Tc) rfl _
section
variable {Q:cZ} {os all:List az} {d:Option Nat} {env:Env} {Tc:aB} {tr:List dE} {idL gL idD gD:Nat} {L:List ae} {D:List Bool}
theorem GJ{g ab Uu:Int}(n2:idL≠1472000000)(hl:L.length<=1000000)(hw: ∀ x∈L,IntKind.i64.wrap (x.Th - Uu)=x.Th - Uu)(hL:Tc idL=(gL,some (.arr eH 6 (bn L))))(hD:Tc idD=(gD,some (.arr 4 1 (bP D))))
  (hK: ∀ Td,Td idL=(gL,some (.arr eH 6 (bn (L.map (jV g ab Uu)))))->(∀ i,i≠idL->i≠1472000000->Td i=Tc i)->RN S .all os Q (put env d (.tup [])) Td):
  gP S .all (.sc 23 [Is idL gL idD gD L.length D.length,vi g,vi ab,vi Uu]) d os Q env Tc:=by
 have hr:=ni (n:=L.length) (m:=D.length) hL hD;refine fg (P:=u4 idL gL 1472000000 (L.map (jV g ab Uu)) Tc) da (J0 (cK ?_) (eW (by rw[ud];decide)) n2 hl hL hw) ?_
 ·simp only[aas,aaI,hr];simp
 ·rintro v Td ⟨rfl,h1,h2⟩
  exact hK Td h1 fun i a b=>h2 i (by simp[a,b])
theorem Ls{g ab Uu:Int}{c:Abs.C}(hK: ∀ Td,(∀ i,i≠1472000000->Td i=Tc i)->RN S .all os Q (put env d (.tup [])) Td):
  gP S .all (.sc 23 [.agg [.p .nils,c],vi g,vi ab,vi Uu]) d os Q env Tc:=by
 refine fg (P:=fun v Td=>v= .tup []/\Kept (· =1472000000) Tc Td) da (J1 (eW (by rw[ud];decide))) ?_;rintro v Td ⟨rfl,h2⟩
 exact hK Td fun i a=>h2 i a
theorem Lv{idG gG tG:Nat}{gone:List Int}(n2:idL≠1728000000)(n3:idG≠1728000000)(n4:idL≠idG)(hl:L.length<=1000000)(hg:gone.length<=1000000)(hw: ∀ x∈L,∀ k:Nat,k<=gone.length->IntKind.i64.wrap (x.id - (k:Int))=x.id - k)(hL:Tc idL=(gL,some (.arr eH 6 (bn L))))(hD:Tc idD=(gD,some (.arr 4 1 (bP D))))(hG:Tc idG=(gG,some (.arr tG 1 (iP gone))))
  (hK: ∀ Td,Td idL=(gL,some (.arr eH 6 (bn (L.map (r6 gone)))))->(∀ i,i≠idL->i≠1728000000->Td i=Tc i)->RN S .all os Q (put env d (.tup [])) Td):
  gP S .all (.sc 27 [Is idL gL idD gD L.length D.length, .one (.hsl idG gG 1 0 gone.length)]) d os Q env Tc:=by
 have hr:=ni (n:=L.length) (m:=D.length) hL hD;have YT:co Tc (.one (.hsl idG gG 1 0 gone.length))=[idG]:=iR hG;refine fg (P:=u4 idL gL 1728000000 (L.map (r6 gone)) Tc) da (Es (cK ?_) (cK ?_) (eW (by rw[Gd];decide)) n2 n3 n4 hl hg hL hG hw) ?_
 ·simp only[aas,aaI,hr,YT];simp
 ·simp only[aas,aaI,hr,YT];simp
 ·rintro v Td ⟨rfl,h1,h2⟩
  exact hK Td h1 fun i a b=>h2 i (by simp[a,b])
theorem GK{idG gG tG:Nat}{gone:List Int}{c:Abs.C}(hG:Tc idG=(gG,some (.arr tG 1 (iP gone))))(hK: ∀ Td,(∀ i,i≠1728000000->Td i=Tc i)->RN S .all os Q (put env d (.tup [])) Td):
  gP S .all (.sc 27 [.agg [.p .nils,c], .one (.hsl idG gG 1 0 gone.length)]) d os Q env Tc:=by
 refine fg (P:=fun v Td=>v= .tup []/\Kept (· =1728000000) Tc Td) da (zX (eW (by rw[Gd];decide))) ?_;rintro v Td ⟨rfl,h2⟩
 exact hK Td fun i a=>h2 i a
theorem Rk{al:Al}{f:Nat}{vs:List V}{P:V->aB->Prop}(hh:al.holds (allow (S.ctx al) f vs Tc)=true)(h: ∃ v Td,pz S f vs (allow (S.ctx al) f vs Tc) Tc v Td/\P v Td)
  (hK: ∀ v Td,P v Td->RD S al all os Q (put env d v) Td (tr++[⟨(allow (S.ctx al) f vs Tc).ids,(allow (S.ctx al) f vs Tc).ids,(allow (S.ctx al) f vs Tc).fs⟩])):dP S al (.sc f vs) d all os Q env Tc tr:=by
 obtain⟨v,Td,h1,h2⟩:=h;exact⟨hh,v,Td,h1,hK v Td h2⟩
theorem OO{i j:Nat}{x y:ae}{c e:Bool}(n1:idL≠idD)(n2:idL≠1664000000)(n3:idD≠1664000000)(hL:Tc idL=(gL,some (.arr eH 6 (bn L))))(hD:Tc idD=(gD,some (.arr 4 1 (bP D))))(hd:D.length=L.length)(hx:L[i]? =some x)(hy:L[j]? =some y)(hc:D[i]? =some c)(he:D[j]? =some e)(WK:i≠j)
  (hK: ∀ Td,Td idL=(gL,some (.arr eH 6 (bn (M2 L i j x y))))->Td idD=(gD,some (.arr 4 1 (bP (M2 D i j c e))))->(∀ q,q≠idL->q≠idD->q≠1664000000->Td q=Tc q)->RD S .all all os Q (put env d (.tup [])) Td (tr++[⟨[idL,idD],[idL,idD],[26]⟩])):
  dP S .all (.sc 26 [Is idL gL idD gD L.length D.length,vi i,vi j]) d all os Q env Tc tr:=by
 have hr:=ni (n:=L.length) (m:=D.length) hL hD;have hi:(allow (S.ctx .all) 26 [Is idL gL idD gD L.length D.length,vi i,vi j] Tc).ids=[idL,idD]:=by
  show(([Is idL gL idD gD L.length D.length,vi i,vi j]:List V).map (co Tc)).flatten=_;simp only[aas,aaI,hr];rfl
 have hf:(allow (S.ctx .all) 26 [Is idL gL idD gD L.length D.length,vi i,vi j] Tc).fs=[26]:=Gc;refine Rk (P:=LR idL gL idD gD 1664000000 (M2 L i j x y) (M2 D i j c e) Tc) da (Qp (cK ?_) (cK ?_) (eW (by rw[Gc];decide)) n1 n2 n3 hL hD hd hx hy hc he WK) ?_
 ·simp only[aas,aaI,hr];simp
 ·simp only[aas,aaI,hr];simp
 ·rintro v Td ⟨rfl,h1,h2,h3⟩
  rw[hi,hf];exact hK Td h1 h2 fun q a b c=>h3 q (by simp[a,b,c])
end
abbrev uA(F:Nat)(L:List ae)(D:List Bool):RV:= .agg [.p (.int .i64 F),aq eH 6 (bn (mP L D))]
theorem zn{α β:Type}(l:List α)(m:List β)(out:List Nat)(h:m.length=l.length):(lq m out).length=(lq l out).length:=by
 suffices hk: ∀ k,k<=l.length->(DI m out k).length=(DI l out k).length by
  have:=hk l.length (aal _)
  simpa only[lq,h] using this
 intro k
 induction k with
 |zero=>intro _;rfl
 |succ k ih=>
  intro hk;have ih:=ih (by omega);by_cases hm:k∈out
  ·rw[zq hm,zq hm,ih]
  ·obtain⟨x,hx⟩:=ao (ls:=l) (k:=k) (by omega);obtain⟨y,hy⟩:=ao (ls:=m) (k:=k) (by omega);rw[ua hm hx,ua hm hy];simp[ih]
theorem DR{α:Type}(l:List α)(out:List Nat):(lq l out).length<=l.length:=zo _ _ _
theorem t8{α:Type}{l:List α}{out:List Nat}{x:α}(h:x∈lq l out):x∈l:=by
 obtain⟨k,_,hk⟩:=List.mem_filterMap.1 h;unfold Pg at hk;split at hk
 ·cases hk
 ·exact aaf hk
theorem fE(F:Nat)(ls:List ae):(lZ (ay F ls)).take (ay F ls).length=lZ (ay F ls):=aau (by simp)
theorem AM:Db [] []= .agg [.p .nils, .p .nils]:=by simp[Db,aq]
theorem SY(g:bj F ls)(k:Nat)(b c:Int)(l o:Bool)(sg:Int){x:ae}(hx:ls[k]? =some x)(hl:ls.length<=400)(Ts: ∀ x∈ls,∀ k:Nat,k<=4->IntKind.i64.wrap (x.id - (k:Int))=x.id - k):
  aH S 9 [aQ F ls,dL 4 k b c l o sg] (uA F ((lq ls [k,nx ls k]).map (r6 [x.id])) (lq (fj ls) [k,nx ls k])):=by
 have hk:=(aag.1 hx).1;have pof:=vx g;have po:=jY (F:Int) ls (by omega);have l1:S.lone 576064064=false:=by kernel_rfl
 have l2:S.lone 576128064=false:=by kernel_rfl
 have l4:S.lone 579136128=false:=by kernel_rfl
 rw[bm (nL g)] at pof;have U8:=dY g.ne (bJ ls);simp only[Db] at U8;rw[U8] at po;have pe:=nO (F:=F) hk (by omega);have pw:=rV ls (fj ls) [k,nx ls k] (by omega) (bJ ls) (by simp);have hWD:=zn ls (fj ls) [k,nx ls k] (bJ ls);have hWl:=DR ls [k,nx ls k];have hWm: ∀ y∈lq ls [k,nx ls k],y∈ls:=fun y h=>t8 h
 have l3:S.lone 577536512=false:=by kernel_rfl
 have px:=cD hx;have e1:nP [k,nx ls k]=[[.int .i64 k],[.int .i64 ((k+1)%ls.length:Nat)]]:=rfl;rw[e1] at pw;generalize hL:lq ls [k,nx ls k]=W at*;generalize hD:lq (fj ls) [k,nx ls k]=V at*;by_cases hW:W=[]
 ·subst hW;have hV:V=[]:=adf.1 hWD;subst hV;rw[AM] at pw;have pcl:aH S 32 [.agg [.p (.sl []), .p (.sl [])],aQ F ls] (.agg [.p (.int .i64 F), .p .nils]):=fI (F:Int) ls [] [] (by simp) rfl;have e0:bn (mP [] [])=[]:=rfl;simp only[uA,aaG,e0];rw[mu];refine aG c9 ?_;simp only[go_sem,i9,s17,bx pof l1 (.inl rfl)];simp only[go_sem,s19,bx po l2 (.inl rfl),cU,eR,fE,s22,bg pe,px,ae.ps,s21,iJ pw l3 (.inr rfl),s27];refine⟨au,?_⟩;refine GK (gone:=[x.id]) (by simp only[go_sem];rfl) fun Tq hb=> ?_
  have q0:=hb 576000000 (by decide);have q1:=hb 576000128 (by decide);have q2:=hb 576128128 (by decide);simp only[go_sem] at q0 q1 q2;simp only[go_sem,q0,q1,q2,i9_r3,s32,bx pcl l4 (.inr rfl)];try rfl
 ·rw[dY hW hWD] at pw;have TE:(mP (W.map (r6 [x.id])) V).length=W.length:=by rw[ir,aak]
  have pcl:=fI (F:Int) ls (W.map (r6 [x.id])) V (by simp only[aak];omega) (by rw[aak];exact hWD);have UV:mP (W.map (r6 [x.id])) V≠[]:=fun e=>hW (adf.1 (by rw[<- TE,e];rfl))
  simp only[uA];rw[bm (fX UV)] at pcl ⊢;refine aG c9 ?_;simp only[go_sem,i9,s17,bx pof l1 (.inl rfl)];simp only[go_sem,s19,bx po l2 (.inl rfl),cU,eR,fE,s22,bg pe,px,ae.ps,s21,iJ pw l3 (.inr (fq _ _)),s27];refine⟨au,?_⟩;refine Lv (L:=W) (D:=V) (gone:=[x.id]) (by decide) (by decide) (by decide) (by omega) (by simp) (fun y hy k hk=>Ts y (hWm y hy) k (by simp at hk;omega)) (by simp only[go_sem]) (by simp only[go_sem]) (by simp only[go_sem];rfl) fun Tq h1 hb=> ?_
  have q0:=hb 576000000 (by decide) (by decide);have q1:=hb 576000128 (by decide) (by decide);have q2:=hb 576128128 (by decide) (by decide);have q3:=hb 577536513 (by decide) (by decide);simp only[go_sem] at q0 q1 q2 q3;generalize hW2:W.map (r6 [x.id])=W2 at*;have tk:W.length=W2.length:=by rw[<- hW2,aak]
  simp only[go_sem,h1,tk,q0,q1,q2,q3,cU,eR,i9_r3,s32,bx pcl l4 (.inr (eV _ _))];simp[en,et,cb,dg,eo,af,apart,eZ,cX,cU]
theorem S3(g:bj F ls)(k:Nat)(b c:Int)(l o:Bool)(sg:Int)(hk:k<ls.length)(hl:ls.length<=400)(U2: ∀ x∈ls,IntKind.i64.wrap (x.Th - 2)=x.Th - 2):
  aH S 9 [aQ F ls,dL 1 k b c l o sg] (uA F ((lq ls [k,nx ls k]).map (jV (lA ls k).gate (if (lA ls (nx ls k)).Th<(lA ls k).Th then (lA ls (nx ls k)).Th else (lA ls k).Th) 2)) (lq (fj ls) [k,nx ls k])):=by
 have pof:=vx g;have po:=jY (F:Int) ls (by omega);have l1:S.lone 576064064=false:=by kernel_rfl
 have l2:S.lone 576128064=false:=by kernel_rfl
 have l4:S.lone 579136128=false:=by kernel_rfl
 rw[bm (nL g)] at pof;have U8:=dY g.ne (bJ ls);simp only[Db] at U8;rw[U8] at po;have pe:=nO (F:=F) hk (by omega);have pw:=rV ls (fj ls) [k,nx ls k] (by omega) (bJ ls) (by simp);have hWD:=zn ls (fj ls) [k,nx ls k] (bJ ls);have hWl:=DR ls [k,nx ls k];have hWm: ∀ y∈lq ls [k,nx ls k],y∈ls:=fun y h=>t8 h
 have l3:S.lone 576384512=false:=by kernel_rfl
 have pb:=sR (F:=F) hk (by omega);have l5:S.lone 576320192=false:=by kernel_rfl
 have e1:nP [k,nx ls k]=[[.int .i64 k],[.int .i64 ((k+1)%ls.length:Nat)]]:=rfl;rw[e1] at pw;generalize hL:lq ls [k,nx ls k]=W at*;generalize hD:lq (fj ls) [k,nx ls k]=V at*;generalize lA ls k=X at*;generalize lA ls (nx ls k)=Y at*;by_cases hW:W=[]
 ·subst hW;have hV:V=[]:=adf.1 hWD;subst hV;rw[AM] at pw;have pcl:aH S 32 [.agg [.p (.sl []), .p (.sl [])],aQ F ls] (.agg [.p (.int .i64 F), .p .nils]):=fI (F:Int) ls [] [] (by simp) rfl;have e0:bn (mP [] [])=[]:=rfl;simp only[uA,aaG,e0];rw[mu];refine aG c9 ?_;simp only[go_sem,i9,s17,bx pof l1 (.inl rfl)];simp only[go_sem,s19,bx po l2 (.inl rfl),cU,eR,fE,s22,bg pe,s20,bx pb l5 (.inr rfl),s21,iJ pw l3 (.inr rfl),s23];refine⟨au,?_⟩;refine Ls fun Tq hb=> ?_
  have q0:=hb 576000000 (by decide);have q1:=hb 576000128 (by decide);have q2:=hb 576128128 (by decide);simp only[go_sem] at q0 q1 q2;simp only[go_sem,q0,q1,q2,i9_r3,s32,bx pcl l4 (.inr rfl)];try rfl
 ·rw[dY hW hWD] at pw;have TE:(mP (W.map (jV X.gate (if Y.Th<X.Th then Y.Th else X.Th) 2)) V).length=W.length:=by rw[ir,aak]
  have pcl:=fI (F:Int) ls (W.map (jV X.gate (if Y.Th<X.Th then Y.Th else X.Th) 2)) V (by simp only[aak];omega) (by rw[aak];exact hWD);have UV:mP (W.map (jV X.gate (if Y.Th<X.Th then Y.Th else X.Th) 2)) V≠[]:=fun e=>hW (adf.1 (by rw[<- TE,e];rfl))
  simp only[uA];rw[bm (fX UV)] at pcl ⊢;refine aG c9 ?_;simp only[go_sem,i9,s17,bx pof l1 (.inl rfl)];simp only[go_sem,s19,bx po l2 (.inl rfl),cU,eR,fE,s22,bg pe,s20,bx pb l5 (.inr rfl),s21,iJ pw l3 (.inr (fq _ _)),s23];refine⟨au,?_⟩;refine GJ (L:=W) (D:=V) (by decide) (by omega) (fun y hy=>U2 y (hWm y hy)) (by simp only[go_sem]) (by simp only[go_sem]) fun Tq h1 hb=> ?_
  have q0:=hb 576000000 (by decide) (by decide);have q1:=hb 576000128 (by decide) (by decide);have q2:=hb 576128128 (by decide) (by decide);have q3:=hb 576384513 (by decide) (by decide);simp only[go_sem] at q0 q1 q2 q3;generalize hW2:W.map (jV X.gate (if Y.Th<X.Th then Y.Th else X.Th) 2)=W2 at*;have tk:W.length=W2.length:=by rw[<- hW2,aak]
  simp only[go_sem,h1,tk,q0,q1,q2,q3,cU,eR,i9_r3,s32,bx pcl l4 (.inr (eV _ _))];simp[en,et,cb,dg,eo,af,apart,eZ,cX,cU]
theorem SW(g:bj F ls)(k j:Nat)(c:Int)(l o:Bool)(sg:Int)(hk:k<ls.length)(hj:j<ls.length)(hl:ls.length<=400)(Ts: ∀ x∈ls,∀ k:Nat,k<=4->IntKind.i64.wrap (x.id - (k:Int))=x.id - k):
  aH S 9 [aQ F ls,dL 6 k j c l o sg] (uA F ((lq ls [k,nx ls k,j,nx ls j]).map (r6 [(lA ls k).id,(lA ls (nx ls k)).id])) (lq (fj ls) [k,nx ls k,j,nx ls j])):=by
 have pof:=vx g;have po:=jY (F:Int) ls (by omega);have l1:S.lone 576064064=false:=by kernel_rfl
 have l2:S.lone 576128064=false:=by kernel_rfl
 have l4:S.lone 579136128=false:=by kernel_rfl
 rw[bm (nL g)] at pof;have U8:=dY g.ne (bJ ls);simp only[Db] at U8;rw[U8] at po;have pe:=nO (F:=F) hk (by omega);have pw:=rV ls (fj ls) [k,nx ls k,j,nx ls j] (by omega) (bJ ls) (by simp);have hWD:=zn ls (fj ls) [k,nx ls k,j,nx ls j] (bJ ls);have hWl:=DR ls [k,nx ls k,j,nx ls j];have hWm: ∀ y∈lq ls [k,nx ls k,j,nx ls j],y∈ls:=fun y h=>t8 h
 have l3:S.lone 578112896=false:=by kernel_rfl
 have pb:=sR (F:=F) hk (by omega);have Ua:=nO (F:=F) hj (by omega);have l5:S.lone 578048192=false:=by kernel_rfl
 have e1:nP [k,nx ls k,j,nx ls j]=[[.int .i64 k],[.int .i64 ((k+1)%ls.length:Nat)],[.int .i64 j],[.int .i64 ((j+1)%ls.length:Nat)]]:=rfl;rw[e1] at pw;generalize hL:lq ls [k,nx ls k,j,nx ls j]=W at*;generalize hD:lq (fj ls) [k,nx ls k,j,nx ls j]=V at*;generalize lA ls k=X at*;generalize lA ls (nx ls k)=Y at*;by_cases hW:W=[]
 ·subst hW;have hV:V=[]:=adf.1 hWD;subst hV;rw[AM] at pw;have pcl:aH S 32 [.agg [.p (.sl []), .p (.sl [])],aQ F ls] (.agg [.p (.int .i64 F), .p .nils]):=fI (F:Int) ls [] [] (by simp) rfl;have e0:bn (mP [] [])=[]:=rfl;simp only[uA,aaG,e0];rw[mu];refine aG c9 ?_;simp only[go_sem,i9,s17,bx pof l1 (.inl rfl)];simp only[go_sem,s19,bx po l2 (.inl rfl),cU,eR,fE,s22,bg pe,s20,bx pb l5 (.inr rfl),bg Ua,s21,iJ pw l3 (.inr rfl),s27];refine⟨au,?_⟩
  refine GK (gone:=[X.id,Y.id]) (by simp only[go_sem];rfl) fun Tq hb=> ?_
  have q0:=hb 576000000 (by decide);have q1:=hb 576000128 (by decide);have q2:=hb 576128128 (by decide);simp only[go_sem] at q0 q1 q2;simp only[go_sem,q0,q1,q2,i9_r3,s32,bx pcl l4 (.inr rfl)];try rfl
 ·rw[dY hW hWD] at pw;have TE:(mP (W.map (r6 [X.id,Y.id])) V).length=W.length:=by rw[ir,aak]
  have pcl:=fI (F:Int) ls (W.map (r6 [X.id,Y.id])) V (by simp only[aak];omega) (by rw[aak];exact hWD);have UV:mP (W.map (r6 [X.id,Y.id])) V≠[]:=fun e=>hW (adf.1 (by rw[<- TE,e];rfl))
  simp only[uA];rw[bm (fX UV)] at pcl ⊢;refine aG c9 ?_;simp only[go_sem,i9,s17,bx pof l1 (.inl rfl)];simp only[go_sem,s19,bx po l2 (.inl rfl),cU,eR,fE,s22,bg pe,s20,bx pb l5 (.inr rfl),bg Ua,s21,iJ pw l3 (.inr (fq _ _)),s27];refine⟨au,?_⟩;refine Lv (L:=W) (D:=V) (gone:=[X.id,Y.id]) (by decide) (by decide) (by decide) (by omega) (by simp) (fun y hy k hk=>Ts y (hWm y hy) k (by simp at hk;omega)) (by simp only[go_sem]) (by simp only[go_sem]) (by simp only[go_sem];rfl) fun Tq h1 hb=> ?_
  have q0:=hb 576000000 (by decide) (by decide);have q1:=hb 576000128 (by decide) (by decide);have q2:=hb 576128128 (by decide) (by decide);have q3:=hb 578112897 (by decide) (by decide);simp only[go_sem] at q0 q1 q2 q3;generalize hW2:W.map (r6 [X.id,Y.id])=W2 at*;have tk:W.length=W2.length:=by rw[<- hW2,aak]
  simp only[go_sem,h1,tk,q0,q1,q2,q3,cU,eR,i9_r3,s32,bx pcl l4 (.inr (eV _ _))];simp[en,et,cb,dg,eo,af,apart,eZ,cX,cU]
def iO{α:Type}(l:List α)(i j:Nat):List α:=match l[i]?,l[j]? with
 |some x,some y=>(l.set i y).set j x
 |_,_=>l
theorem JK{α:Type}{l:List α}{i j:Nat}{x y:α}(hx:l[i]? =some x)(hy:l[j]? =some y):iO l i j=M2 l i j x y:=by unfold iO;rw[hx,hy];rfl
theorem fF{α:Type}(l:List α)(i j:Nat):(iO l i j).length=l.length:=by
 unfold iO;split<;>simp
section
variable {Q:cZ} {os all:List az} {d:Option Nat} {env:Env} {Tc:aB} {tr:List dE} {idL gL idD gD:Nat} {L:List ae} {D:List Bool}
theorem nQ{i j n:Nat}(n1:idL≠idD)(n2:idL≠1664000000)(n3:idD≠1664000000)(hL:Tc idL=(gL,some (.arr eH 6 (bn L))))(hD:Tc idD=(gD,some (.arr 4 1 (bP D))))(hl:L.length=n)(hd:D.length=n)(hi:i<n)(hj:j<n)(WK:i≠j)
  (hK: ∀ Td,Td idL=(gL,some (.arr eH 6 (bn (iO L i j))))->Td idD=(gD,some (.arr 4 1 (bP (iO D i j))))->(∀ q,q≠idL->q≠idD->q≠1664000000->Td q=Tc q)->RD S .all all os Q (put env d (.tup [])) Td (tr++[⟨[idL,idD],[idL,idD],[26]⟩])):
  dP S .all (.sc 26 [Is idL gL idD gD n n,vi i,vi j]) d all os Q env Tc tr:=by
 obtain⟨x,hx⟩:=ao (ls:=L) (k:=i) (by omega);obtain⟨y,hy⟩:=ao (ls:=L) (k:=j) (by omega);obtain⟨c,hc⟩:=ao (ls:=D) (k:=i) (by omega);obtain⟨e,he⟩:=ao (ls:=D) (k:=j) (by omega);have h:=OO (Q:=Q) (os:=os) (all:=all) (d:=d) (env:=env) (tr:=tr) n1 n2 n3 hL hD (hd.trans hl.symm) hx hy hc he WK fun Td a b c'=>hK Td (by rw[JK hx hy];exact a) (by rw[JK hc he];exact b) c'
 rw[hl,hd] at h;exact h
end
theorem yh{k:Nat}(h2:2<=ls.length)(hk:k<ls.length):k≠nx ls k:=by
 unfold nx;by_cases h:k+1<ls.length
 ·rw[abF h];omega
 ·have:k+1=ls.length:=by omega
  rw[this,Nat.mod_self];omega
theorem vz{k:Nat}(h2:2<=ls.length):nx ls k<ls.length:=aax _ (by omega)
theorem SU(g:bj F ls)(i j k:Nat)(l o:Bool)(sg:Int)(hi:i<ls.length)(hj:j<ls.length)(hk:k<ls.length)(h2:2<=ls.length)(hl:ls.length<=400):
  aH S 9 [aQ F ls,dL 8 i j k l o sg] (uA F (iO (iO (iO ls i (nx ls i)) j (nx ls j)) k (nx ls k)) (iO (iO (iO (fj ls) i (nx ls i)) j (nx ls j)) k (nx ls k))):=by
 have pof:=vx g;have po:=jY (F:Int) ls (by omega);have l1:S.lone 576064064=false:=by kernel_rfl
 have l2:S.lone 576128064=false:=by kernel_rfl
 have l4:S.lone 579136128=false:=by kernel_rfl
 rw[bm (nL g)] at pof;have U8:=dY g.ne (bJ ls);simp only[Db] at U8;rw[U8] at po;have Uc:=nO (F:=F) hi (by omega);have Ua:=nO (F:=F) hj (by omega);have pe3:=nO (F:=F) hk (by omega);have x1:=fF ls i (nx ls i);have x2:=(fF (iO ls i (nx ls i)) j (nx ls j)).trans x1;have x3:=(fF (iO (iO ls i (nx ls i)) j (nx ls j)) k (nx ls k)).trans x2;have y0:=bJ ls;have y1:=(fF (fj ls) i (nx ls i)).trans y0;have y2:=(fF (iO (fj ls) i (nx ls i)) j (nx ls j)).trans y1
 have y3:=(fF (iO (iO (fj ls) i (nx ls i)) j (nx ls j)) k (nx ls k)).trans y2;refine aG c9 ?_;simp only[go_sem,i9,s17,bx pof l1 (.inl rfl)];simp only[go_sem,s19,bx po l2 (.inl rfl),cU,fE,s22,bg Uc,s26,bJ];refine nQ (L:=ls) (D:=fj ls) (by decide) (by decide) (by decide) (by simp only[go_sem]) (by simp only[go_sem]) rfl y0 hi (vz h2) (yh h2 hi) fun b1 hL1 hD1 hb=> ?_
 have p0:=hb 576000000 (by decide) (by decide) (by decide);have p1:=hb 576000064 (by decide) (by decide) (by decide);have p2:=hb 576000128 (by decide) (by decide) (by decide);have p3:=hb 576064128 (by decide) (by decide) (by decide);have p4:=hb 576064067 (by decide) (by decide) (by decide);have p5:=hb 576128128 (by decide) (by decide) (by decide);simp only[go_sem] at p0 p1 p2 p3 p4 p5;simp only[go_sem,p1,p3,p4,p5,fE,s22,bg Ua,s26];refine⟨au,?_⟩;refine nQ (by decide) (by decide) (by decide) hL1 hD1 x1 y1 hj (vz h2) (yh h2 hj) fun b2 hL2 hD2 Tv=> ?_
 have q0:=Tv 576000000 (by decide) (by decide) (by decide);have q1:=Tv 576000064 (by decide) (by decide) (by decide);have q2:=Tv 576000128 (by decide) (by decide) (by decide);have q3:=Tv 576064128 (by decide) (by decide) (by decide);have q4:=Tv 576064067 (by decide) (by decide) (by decide);have q5:=Tv 576128128 (by decide) (by decide) (by decide);simp only[p0,p1,p2,p3,p4,p5] at q0 q1 q2 q3 q4 q5;simp only[go_sem,q1,q3,q4,q5,fE,s22,bg pe3,s26];refine⟨au,?_⟩
 refine nQ (by decide) (by decide) (by decide) hL2 hD2 x2 y2 hk (vz h2) (yh h2 hk) fun b3 hL3 hD3 Uz=> ?_
 have r0:=Uz 576000000 (by decide) (by decide) (by decide);have r1:=Uz 576000064 (by decide) (by decide) (by decide);have r2:=Uz 576000128 (by decide) (by decide) (by decide);have r3:=Uz 576128128 (by decide) (by decide) (by decide);simp only[q0,q1,q2,q5] at r0 r1 r2 r3;generalize iO (iO (iO ls i (nx ls i)) j (nx ls j)) k (nx ls k)=L3 at*;generalize iO (iO (iO (fj ls) i (nx ls i)) j (nx ls j)) k (nx ls k)=D3 at*;have pcl:=fI (F:Int) ls L3 D3 (by omega) (y3.trans x3.symm);have TE:(mP L3 D3).length=L3.length:=ir _ _
 have UV:mP L3 D3≠[]:=fun e=>by rw[e] at TE;simp only[aav] at TE;omega
 simp only[uA];rw[bm (fX UV)] at pcl ⊢;have tk:List.take ls.length (bn L3)=bn L3:=by rw[<- x3];exact cU L3
 have tb:List.take ls.length (bP D3)=bP D3:=by rw[<- y3];exact eR D3
 have tl:ls.length<=(bn L3).length:=by rw[bG];omega
 have tm:ls.length<=(bP D3).length:=by rw[mK];omega
 simp only[go_sem,hL3,hD3,r0,r2,r3,tk,tb,x3,y3,i9_r3,s32,bx pcl l4 (.inr (eV _ _))];refine⟨au,?_⟩;simp[en,et,cb,dg,eo,af,apart,eZ,cX,cU]
theorem CG{Q:cZ}{os:List az}{d:Option Nat}{env:Env}{Tc:aB}{idL gL idD gD n m:Nat}{L:List ae}{D:List Bool}{g ab Uu:Int}(n2:idL≠1472000000)(hl:L.length<=1000000)(hw: ∀ x∈L,IntKind.i64.wrap (x.Th - Uu)=x.Th - Uu)(hL:Tc idL=(gL,some (.arr eH 6 (bn L))))(hD:Tc idD=(gD,some (.arr 4 1 (bP D))))(hn:n=L.length)(hm:m=D.length)
  (hK: ∀ Td,Td idL=(gL,some (.arr eH 6 (bn (L.map (jV g ab Uu)))))->(∀ i,i≠idL->i≠1472000000->Td i=Tc i)->RN S .all os Q (put env d (.tup [])) Td):
  gP S .all (.sc 23 [Is idL gL idD gD n m,vi g,vi ab,vi Uu]) d os Q env Tc:=by
 subst hn hm;exact GJ n2 hl hw hL hD hK
theorem ST(g:bj F ls)(k:Nat)(b c:Int)(l o:Bool)(sg:Int){x:ae}(hx:ls[k]? =some x)(hl:ls.length<=400)(U2: ∀ x∈ls,IntKind.i64.wrap (x.Th - -1)=x.Th - -1)(hg:IntKind.i64.wrap (x.gate+1)=x.gate+1):
  aH S 9 [aQ F ls,dL 9 k b c l o sg] (uA F ((ls.map (jV (x.gate+1) 0 (-1))).set k {jV (x.gate+1) 0 (-1) x with gate:=x.gate+1,Th:=1}) (fj ls)):=by
 have hk:=(aag.1 hx).1;have pof:=vx g;have po:=jY (F:Int) ls (by omega);have l1:S.lone 576064064=false:=by kernel_rfl
 have l2:S.lone 576128064=false:=by kernel_rfl
 have l4:S.lone 579136128=false:=by kernel_rfl
 rw[bm (nL g)] at pof;have U8:=dY g.ne (bJ ls);simp only[Db] at U8;rw[U8] at po;have px:=cD hx;have x1:(ls.map (jV (x.gate+1) 0 (-1)))[k]? =some (jV (x.gate+1) 0 (-1) x):=by rw[aaA,hx];rfl
 have n1:(ls.map (jV (x.gate+1) 0 (-1))).length=ls.length:=aak _;refine aG c9 ?_;simp only[go_sem,i9,s17,bx pof l1 (.inl rfl)];simp only[go_sem,s19,bx po l2 (.inl rfl),cU,eR,px,ae.ps,hg,s23];refine CG (L:=ls) (D:=fj ls) (by decide) (by omega) U2 (by simp only[go_sem]) (by simp only[go_sem]) rfl rfl fun b1 hL1 hb=> ?_
 have p0:=hb 576000000 (by decide) (by decide);have p1:=hb 576000064 (by decide) (by decide);have p2:=hb 576000128 (by decide) (by decide);have p3:=hb 576128128 (by decide) (by decide);have p4:=hb 576128065 (by decide) (by decide);simp only[go_sem] at p0 p1 p2 p3 p4;generalize ls.map (jV (x.gate+1) 0 (-1))=L1 at*;generalize jV (x.gate+1) 0 (-1) x=X1 at*;have px1:=cD x1;have TH:k<L1.length:=by omega
 generalize hLF:L1.set k {X1 with gate:=x.gate+1,Th:=1}=LF at*;have sf:(bn L1).set k [.int .i64 X1.kind, .int .i64 (x.gate+1), .int .i64 1, .int .i64 X1.id, .int .i64 X1.sign, .bool X1.over]=bn LF:=by rw[<- hLF];exact jQ _ _ _ rfl
 have nF:LF.length=ls.length:=by rw[<- hLF,aaD];exact n1
 have tk:List.take ls.length (bn LF)=bn LF:=by rw[<- nF];exact cU LF
 have pcl:=fI (F:Int) ls LF (fj ls) (by omega) ((bJ ls).trans nF.symm);have TE:(mP LF (fj ls)).length=LF.length:=ir _ _;have UV:mP LF (fj ls)≠[]:=fun e=>by rw[e] at TE;simp only[aav] at TE;omega
 simp only[uA];rw[bm (fX UV)] at pcl ⊢;simp only[go_sem,hL1,p0,p1,p2,p3,p4,px1,hk,hg,ae.ps,aa3,bG,List.set_set,sf,tk,n1,nF,eR,i9_r3,s32,bx pcl l4 (.inr (eV _ _))];refine⟨au,?_⟩;simp[en,et,cb,dg,eo,af,apart,eZ,cX,cU]
theorem RR(g:bj F ls)(k:Nat)(b c:Int)(l o:Bool)(sg:Int){x:ae}{n:Int}(hx:ls[k]? =some x)(hl:ls.length<=400)(pin:aH S 31 [aQ F ls,vi (x.gate - 1)] (ri n))(hn:IntKind.i64.wrap (n+1)=n+1)(YW:IntKind.i64.wrap (n+1 - 1)=n+1 - 1)(U2: ∀ x∈ls,IntKind.i64.wrap (x.Th - 1)=x.Th - 1)(hg:IntKind.i64.wrap (x.gate - 1)=x.gate - 1):
  aH S 9 [aQ F ls,dL 10 k b c l o sg] (uA F ((ls.set k {x with gate:=x.gate - 1,Th:=n+1}).map (jV x.gate 1 1)) (fj ls)):=by
 have hk:=(aag.1 hx).1;have pof:=vx g;have po:=jY (F:Int) ls (by omega);have l1:S.lone 576064064=false:=by kernel_rfl
 have l2:S.lone 576128064=false:=by kernel_rfl
 have l4:S.lone 579136128=false:=by kernel_rfl
 rw[bm (nL g)] at pof;have U8:=dY g.ne (bJ ls);simp only[Db] at U8;rw[U8] at po;have px:=cD hx;generalize hLF:ls.set k {x with gate:=x.gate - 1,Th:=n+1}=LF at*;have sf:(bn ls).set k [.int .i64 x.kind, .int .i64 (x.gate - 1), .int .i64 (n+1), .int .i64 x.id, .int .i64 x.sign, .bool x.over]=bn LF:=by rw[<- hLF];exact jQ _ _ _ rfl
 have nF:LF.length=ls.length:=by rw[<- hLF,aaD]
 have VA: ∀ y∈LF,IntKind.i64.wrap (y.Th - 1)=y.Th - 1:=by
  intro y hy;rw[<- hLF] at hy;rcases adB hy with h|rfl
  ·exact U2 y h
  ·exact YW
 refine aG c9 ?_;simp only[go_sem,i9,s17,bx pof l1 (.inl rfl)];simp only[go_sem,s19,bx po l2 (.inl rfl),eR,px,ae.ps,hk,hg,s31,bg pin,hn,aa3,bG,List.set_set,sf,s23];refine⟨au,?_⟩;refine CG (L:=LF) (D:=fj ls) (by decide) (by omega) VA (by simp only[go_sem]) (by simp only[go_sem]) nF.symm rfl fun b1 hL1 hb=> ?_
 have p0:=hb 576000000 (by decide) (by decide);have p1:=hb 576000128 (by decide) (by decide);have p2:=hb 576128128 (by decide) (by decide);have p3:=hb 576128065 (by decide) (by decide);simp only[go_sem] at p0 p1 p2 p3;have nM:(LF.map (jV x.gate 1 1)).length=ls.length:=by rw[aak];exact nF
 generalize LF.map (jV x.gate 1 1)=L2 at*;have tk:List.take ls.length (bn L2)=bn L2:=by rw[<- nM];exact cU L2
 have pcl:=fI (F:Int) ls L2 (fj ls) (by omega) ((bJ ls).trans nM.symm);have TE:(mP L2 (fj ls)).length=L2.length:=ir _ _;have UV:mP L2 (fj ls)≠[]:=fun e=>by rw[e] at TE;simp only[aav] at TE;omega
 simp only[uA];rw[bm (fX UV)] at pcl ⊢;simp only[go_sem,hL1,p0,p1,p2,p3,bG,tk,nM,eR,i9_r3,s32,bx pcl l4 (.inr (eV _ _))];simp[en,et,cb,dg,eo,af,apart,eZ,cX,cU]
def leq(a b:ae):Bool:=(a.kind==b.kind)&&((a.gate==b.gate)&&((a.Th==b.Th)&&((a.id==b.id)&&((a.sign==b.sign)&&(a.over==b.over)))))
def se(p q l:ae):ae:=if leq l p then q else if leq l q then p else l
theorem Fu(x y:ae):mC [true,true,true,true,true,false] [.p (.int .i64 x.kind), .p (.int .i64 x.gate), .p (.int .i64 x.Th), .p (.int .i64 x.id), .p (.int .i64 x.sign), .p (.bool x.over)] [.p (.int .i64 y.kind), .p (.int .i64 y.gate), .p (.int .i64 y.Th), .p (.int .i64 y.id), .p (.int .i64 y.sign), .p (.bool y.over)]=some (leq x y):=by
 have e: ∀ a b:Int,CX true (.int .i64 a) (.int .i64 b)=some (a==b):=fun a b=>by simp[CX]
 have e2: ∀ a b:Bool,CX false (.bool a) (.bool b)=some (a==b):=fun a b=>by simp[CX]
 simp only[mC,leq,e,e2];cases (x.kind==y.kind)<;>cases (x.gate==y.gate)<;>cases (x.Th==y.Th)<;>cases (x.id==y.id)<;>cases (x.sign==y.sign)<;>cases (x.over==y.over)<;>rfl
theorem SZ(g:bj F ls)(i j:Nat)(c:Int)(l o:Bool)(sg:Int)(hi:i<ls.length)(hj:j<ls.length)(h2:2<=ls.length)(hl:ls.length<=400):
  aH S 9 [aQ F ls,dL 3 i j c l o sg] (uA F (iO (iO (ls.map (se (fy ls i).2.1 (fy ls j).2.1)) i (nx ls i)) j (nx ls j)) (iO (iO (fj ls) i (nx ls i)) j (nx ls j))):=by
 have pof:=vx g;have po:=jY (F:Int) ls (by omega);have l1:S.lone 576064064=false:=by kernel_rfl
 have l2:S.lone 576128064=false:=by kernel_rfl
 have l4:S.lone 579136128=false:=by kernel_rfl
 rw[bm (nL g)] at pof;have U8:=dY g.ne (bJ ls);simp only[Db] at U8;rw[U8] at po;have Uc:=nO (F:=F) hi (by omega);have Ua:=nO (F:=F) hj (by omega);have pm1:=ur (F:=F) hi (by omega);have pm2:=ur (F:=F) hj (by omega);have l5:S.lone 576704192=false:=by kernel_rfl
 have l6:S.lone 576768192=false:=by kernel_rfl
 generalize (fy ls i).1=X at*;generalize (fy ls i).2.1=P at*;generalize (fy ls i).2.2=e1 at*;generalize (fy ls j).1=Y at*;generalize (fy ls j).2.1=Z at*;generalize (fy ls j).2.2=e2 at*;refine aG c9 ?_;simp only[go_sem,i9,s17,bx pof l1 (.inl rfl)];simp only[go_sem,s19,bx po l2 (.inl rfl),fE,s25,bx pm1 l5 (.inr rfl),bx pm2 l6 (.inr rfl),bJ]
 refine be (fun q env Tc=>env 2= .one (.Tn 576000000 1 0)/\env 3= .one (.Tn 576000064 1 0)/\env 4= .one (.Tn 576000128 1 0)/\env 5= .one (.Tn 576064128 1 0)/\env 6= .one (.Tn 576128128 1 0)/\env 10= .one (.Tn 576704576 1 0)/\env 13= .one (.Tn 576768576 1 0)/\env 15=vi q/\
   Tc 576000000=(1,some (.var [.p (.int .i64 F), .p (tY ls)]))/\Tc 576000064=(1,some (.var [.p (.int .i64 3), .p (.int .i64 i), .p (.int .i64 j), .p (.int .i64 c), .p (.bool l), .p (.bool o), .p (.int .i64 sg)]))/\
   Tc 576000128=(1,some (.var [.p (.int .i64 0), .p .nils]))/\Tc 576064067=(1,some (.arr lS 5 (lZ (ay F ls))))/\Tc 576064128=(1,some (.var [.p (.int .i64 F), .p (tY ls), .p (.int .i64 ls.length), .hsl 576064067 1 5 0 (ay F ls).length]))/\
   Tc 576128128=(1,some (.var [.hsl 576128064 1 6 0 ls.length, .hsl 576128065 1 1 0 ls.length]))/\Tc 576128065=(1,some (.arr 4 1 (bP (fj ls))))/\
   Tc 576704576=(1,some (.var (KT P)))/\Tc 576768576=(1,some (.var (KT Z)))/\Tc 576128064=(1,some (.arr eH 6 (bn (j9 (se P Z) ls q))))) 0 ls.length (aah _) ?_ ?_
 ·simp only[go_sem,j9]
  trivial
 ·rintro q env Tc hq ⟨v2,v3,v4,v5,v6,v10,v13,v15,b0,b1,b2,bf,bs,bd,bD,VC,bZ,bL⟩
  by_cases Ti:q<ls.length
  ·have Tk:((q:Int)<(ls.length:Int)):=by omega
   have w1:=am (n:=q) (by omega);obtain⟨x,hx⟩:=ao Ti;have hm:=ut (f:=se P Z) hx;have Vl:=cD hm;have Vi:q<(j9 (se P Z) ls q).length:=by rw[vF];exact Ti
   have el1:=Fu x P;have el2:=Fu x Z;cases h1:leq x P with
   |true=>
    rw[h1] at el1;simp only[go_sem,i9_l1,v2,v3,v4,v5,v6,v10,v13,v15,b0,b1,b2,bf,bs,bd,bD,VC,bZ,bL,Ti,Tk,Vl,ae.ps,w1,el1];refine⟨au,?_⟩;have hs:=ny (f:=se P Z) hx;rw[show se P Z x=Z by simp[se,h1]] at hs;rw[show(bn (j9 (se P Z) ls q)).set q [.int .i64 Z.kind, .int .i64 Z.gate, .int .i64 Z.Th, .int .i64 Z.id, .int .i64 Z.sign, .bool Z.over]=bn ((j9 (se P Z) ls q).set q Z) from jQ _ _ _ rfl,hs]
   |false=>
    rw[h1] at el1;cases h2:leq x Z with
    |true=>
     rw[h2] at el2;simp only[go_sem,i9_l1,v2,v3,v4,v5,v6,v10,v13,v15,b0,b1,b2,bf,bs,bd,bD,VC,bZ,bL,Ti,Tk,Vl,ae.ps,w1,el1,el2];refine⟨au,au,?_⟩;have hs:=ny (f:=se P Z) hx;rw[show se P Z x=P by simp[se,h1,h2]] at hs;rw[show(bn (j9 (se P Z) ls q)).set q [.int .i64 P.kind, .int .i64 P.gate, .int .i64 P.Th, .int .i64 P.id, .int .i64 P.sign, .bool P.over]=bn ((j9 (se P Z) ls q).set q P) from jQ _ _ _ rfl,hs]
    |false=>
     rw[h2] at el2;simp only[go_sem,i9_l1,v2,v3,v4,v5,v6,v10,v13,v15,b0,b1,b2,bf,bs,bd,bD,VC,bZ,bL,Ti,Tk,Vl,ae.ps,w1,el1,el2];refine⟨au,au,?_⟩;exact congrArg (fun z=>(1,some (Ob.arr eH 6 (bn z)))) (sj hx (by simp[se,h1,h2]))
  ·have:q=ls.length:=by omega
   subst this;rw[show j9 (se P Z) ls ls.length=ls.map (se P Z) by simp[j9]] at bL;have n0:(ls.map (se P Z)).length=ls.length:=aak _;generalize ls.map (se P Z)=L0 at*;have x1:=(fF L0 i (nx ls i)).trans n0;have x3:=(fF (iO L0 i (nx ls i)) j (nx ls j)).trans x1;have y0:=bJ ls;have y1:=(fF (fj ls) i (nx ls i)).trans y0;have y3:=(fF (iO (fj ls) i (nx ls i)) j (nx ls j)).trans y1;simp only[go_sem,i9_l1,i9_r2,v3,v5,v6,v15,b1,bf,bs,bd,aN,fE,s22,bg Uc,s26]
   refine nQ (by decide) (by decide) (by decide) bL bD n0 y0 hi (vz h2) (yh h2 hi) fun B1 hL1 hD1 hb=> ?_
   have p0:=hb 576000000 (by decide) (by decide) (by decide);have p1:=hb 576000064 (by decide) (by decide) (by decide);have p2:=hb 576000128 (by decide) (by decide) (by decide);have p3:=hb 576064128 (by decide) (by decide) (by decide);have p4:=hb 576064067 (by decide) (by decide) (by decide);have p5:=hb 576128128 (by decide) (by decide) (by decide);simp only[b0,b1,b2,bs,bf,bd] at p0 p1 p2 p3 p4 p5;simp only[go_sem,v3,v5,v6,p1,p3,p4,p5,fE,s22,bg Ua,s26];refine⟨au,?_⟩
   refine nQ (by decide) (by decide) (by decide) hL1 hD1 x1 y1 hj (vz h2) (yh h2 hj) fun B3 hL3 hD3 Uz=> ?_
   have r0:=Uz 576000000 (by decide) (by decide) (by decide);have r1:=Uz 576000064 (by decide) (by decide) (by decide);have r2:=Uz 576000128 (by decide) (by decide) (by decide);have r3:=Uz 576128128 (by decide) (by decide) (by decide);simp only[p0,p1,p2,p5] at r0 r1 r2 r3;generalize iO (iO L0 i (nx ls i)) j (nx ls j)=L3 at*;generalize iO (iO (fj ls) i (nx ls i)) j (nx ls j)=D3 at*;have pcl:=fI (F:Int) ls L3 D3 (by omega) (y3.trans x3.symm);have TE:(mP L3 D3).length=L3.length:=ir _ _;have UV:mP L3 D3≠[]:=fun e=>by rw[e] at TE;simp only[aav] at TE;omega
   simp only[uA];rw[bm (fX UV)] at pcl ⊢;have tk:List.take ls.length (bn L3)=bn L3:=by rw[<- x3];exact cU L3
   have tb:List.take ls.length (bP D3)=bP D3:=by rw[<- y3];exact eR D3
   simp only[go_sem,v2,v4,v6,hL3,hD3,r0,r2,r3,bG,mK,tk,tb,x3,y3,i9_r3,s32,bx pcl l4 (.inr (eV _ _))];refine⟨au,?_⟩;simp[en,et,cb,dg,eo,af,apart,eZ,cX,cU]
end
end Go.Abs
