/- A part. -/
import Derived.Test.YtfhejdojdajpmaaGreatDoorDa
set_option linter.all false
set_option maxRecDepth 100000
set_option maxHeartbeats 16000000
namespace Go.Abs
section
variable{F:Nat}{ls:List Let}
abbrev hsD(idL gL idD gD:Nat)(n m:Nat):V:=.agg [.hsl idL gL 6 0 n,.hsl idD gD 1 0 m]
theorem ad7{aj:aA}{idL gL idD gD n m:Nat}{L:List Let}{D:List Bool}(hL:aj idL=(gL,some (.arr fU 6 (cM L))))(hD:aj idD=(gD,some (.arr 4 1 (bP D)))):jr aj (hsD idL gL idD gD n m)=[idL,idD]:=by have a:jr aj (.one (.hsl idL gL 6 0 n))=[idL]:=HZ hL;have b:jr aj (.one (.hsl idD gD 1 0 m))=[idD]:=HZ hD;simp only[jr] at a b ⊢;simp[a,b]
theorem aeC:S.sites 51=[51]:=ah
theorem aeB:S.sites 55=[55]:=ah
theorem aoX{al:Al}{aj:aA}{vd:Abs.C}{g:V}(o3:al.ok 3520000000=true):
  ∃v ao,iA S 55 [.agg [.p .nils,vd],g] al aj v ao/\v=.tup []/\Kept (· =3520000000) aj ao:=by
 refine mz c55 (gj rfl) ?_;simp only[go_sem,i55,o3];refine lU ?_;have h0:decide ((0:Int)<((0:Nat):Int))=false:=rfl;simp only[go_sem,i55_l4,o3,h0];exact Kept.df (Kept.refl (fun i=>i=3520000000) aj) rfl _
section
variable {Q:dS} {os all:List bR} {d:Option Nat} {ak:Env} {aj:aA} {tr:List cn} {idL gL idD gD:Nat} {L:List Let} {D:List Bool}
theorem ajZ{g ab dZ:Int}(n2:idL≠3264000000)(hl:L.length<=1000000)(hw:∀x∈L,IntKind.i64.wrap (x.aw-dZ)=x.aw-dZ)(hL:aj idL=(gL,some (.arr fU 6 (cM L))))(hD:aj idD=(gD,some (.arr 4 1 (bP D))))
  (hK:∀ao,ao idL=(gL,some (.arr fU 6 (cM (L.map (oU g ab dZ)))))->(∀i,i≠idL->i≠3264000000->ao i=aj i)->RN S .all os Q (put ak d (.tup [])) ao):
  gP S .all (.sc 51 [hsD idL gL idD gD L.length D.length,vi g,vi ab,vi dZ]) d os Q ak aj:=by
 have hr:=ad7 (n:=L.length) (m:=D.length) hL hD;refine rV (P:=OT idL gL 3264000000 (L.map (oU g ab dZ)) aj) wB (aqf (xl ?_) (Ae (by rw[aeC];decide)) n2 hl hL hw) ?_
 .simp only[eE,kX,hr];simp
 rintro v ao ⟨rfl,h1,h2⟩
 exact hK ao h1 fun i a b=>h2 i (by simp[a,b])
theorem aj0{g ab dZ:Int}{c:Abs.C}(hK:∀ao,(∀i,i≠3264000000->ao i=aj i)->RN S .all os Q (put ak d (.tup [])) ao):
  gP S .all (.sc 51 [.agg [.p .nils,c],vi g,vi ab,vi dZ]) d os Q ak aj:=by
 refine rV (P:=fun v ao=>v=.tup []/\Kept (· =3264000000) aj ao) wB (aqe (Ae (by rw[aeC];decide))) ?_;rintro v ao ⟨rfl,h2⟩
 exact hK ao fun i a=>h2 i a
theorem aai{idG gG tG:Nat}{gone:List Int}(n2:idL≠3520000000)(n3:idG≠3520000000)(n4:idL≠idG)(hl:L.length<=1000000)(hg:gone.length<=1000000)(hw:∀x∈L,∀k:Nat,k<=gone.length->IntKind.i64.wrap (x.id-(k:Int))=x.id-k)(hL:aj idL=(gL,some (.arr fU 6 (cM L))))(hD:aj idD=(gD,some (.arr 4 1 (bP D))))(hG:aj idG=(gG,some (.arr tG 1 (iP gone))))
  (hK:∀ao,ao idL=(gL,some (.arr fU 6 (cM (L.map (kh gone)))))->(∀i,i≠idL->i≠3520000000->ao i=aj i)->RN S .all os Q (put ak d (.tup [])) ao):
  gP S .all (.sc 55 [hsD idL gL idD gD L.length D.length,.one (.hsl idG gG 1 0 gone.length)]) d os Q ak aj:=by
 have hr:=ad7 (n:=L.length) (m:=D.length) hL hD;have rj:jr aj (.one (.hsl idG gG 1 0 gone.length))=[idG]:=HZ hG;refine rV (P:=OT idL gL 3520000000 (L.map (kh gone)) aj) wB (aoY (xl ?_) (xl ?_) (Ae (by rw[aeB];decide)) n2 n3 n4 hl hg hL hG hw) ?_
 .simp only[eE,kX,hr,rj];simp
 .simp only[eE,kX,hr,rj];simp
 rintro v ao ⟨rfl,h1,h2⟩
 exact hK ao h1 fun i a b=>h2 i (by simp[a,b])
theorem aaj{idG gG tG:Nat}{gone:List Int}{c:Abs.C}(hG:aj idG=(gG,some (.arr tG 1 (iP gone))))(hK:∀ao,(∀i,i≠3520000000->ao i=aj i)->RN S .all os Q (put ak d (.tup [])) ao):
  gP S .all (.sc 55 [.agg [.p .nils,c],.one (.hsl idG gG 1 0 gone.length)]) d os Q ak aj:=by
 refine rV (P:=fun v ao=>v=.tup []/\Kept (· =3520000000) aj ao) wB (aoX (Ae (by rw[aeB];decide))) ?_;rintro v ao ⟨rfl,h2⟩
 exact hK ao fun i a=>h2 i a
end
abbrev yJ(F:Nat)(L:List Let)(D:List Bool):RV:=.agg [.p (.int .i64 F),aO fU 6 (cM (nN L D))]
theorem Wc{α β:Type}(l:List α)(m:List β)(out:List Nat)(h:m.length=l.length):(fV m out).length=(fV l out).length:=by
 suffices hk:∀k,k<=l.length->(sH m out k).length=(sH l out k).length by
  have:=hk l.length (cA _)
  simpa only[fV,h] using this
 intro k
 induction k with
 |zero=>intro _;rfl
 |succ k ih=>
  intro hk;have ih:=ih aa;by_cases hm:k∈out
  .rw[Pf hm,Pf hm,ih]
  obtain⟨x,hx⟩:=aN (ls:=l) (k:=k) aa;obtain⟨y,hy⟩:=aN (ls:=m) (k:=k) aa;rw[Pg hm hx,Pg hm hy];simp[ih]
theorem Wb{α:Type}(l:List α)(out:List Nat):(fV l out).length<=l.length:=Wa _ _ _
theorem Ph{α:Type}{l:List α}{out:List Nat}{x:α}(h:x∈fV l out):x∈l:=by
 obtain⟨k,_,hk⟩:=afK.1 h;unfold DA at hk;split at hk
 .cases hk
 exact aW hk
theorem Io(F:Nat)(ls:List Let):(jw (de F ls)).take (de F ls).length=jw (de F ls):=eY af
theorem QL:Ca [] []=.agg [.p .nils,.p .nils]:=by simp[Ca,aO]
theorem agD(g:bK F ls)(k:Nat)(b c:Int)(l o:Bool)(sg:Int){x:Let}(hx:ls[k]?=some x)(hl:ls.length<=400)(hid:∀x∈ls,∀k:Nat,k<=4->IntKind.i64.wrap (x.id-(k:Int))=x.id-k):
  aJ S 28 [cY F ls,ft 4 k b c l o sg] (yJ F ((fV ls [k,nx ls k]).map (kh [x.id])) (fV (oa ls) [k,nx ls k])):=by
 have hk:=(aY.1 hx).1;have pof:=Oe g;have po:=UW (F:Int) ls aa;have l1:S.lone 1792064064=false:=ah;have l2:S.lone 1792128064=false:=ah;have l4:S.lone 1795136128=false:=ah;rw[AR (M9 g)] at pof;have Dm:=Gq g.ne (Ax ls);simp only[Ca] at Dm;rw[Dm] at po;have pe:=Jz (F:=F) hk aa;have pw:=V6 ls (oa ls) [k,nx ls k] aa (Ax ls) af;have xM:=Wc ls (oa ls) [k,nx ls k] (Ax ls);have hWl:=Wb ls [k,nx ls k];have Kc:∀y∈fV ls [k,nx ls k],y∈ls:=fun y h=>Ph h;have l3:S.lone 1793536512=false:=ah;have px:=gE hx;have e1:nP [k,nx ls k]=[[.int .i64 k],[.int .i64 ((k+1)%ls.length:Nat)]]:=rfl;rw[e1] at pw;generalize hL:fV ls [k,nx ls k]=W at*;generalize hD:fV (oa ls) [k,nx ls k]=V at*;by_cases hW:W=[]
 .subst hW;have hV:V=[]:=BJ.1 xM;subst hV;rw[QL] at pw;have pcl:aJ S 58 [.agg [.p (.sl []),.p (.sl [])],cY F ls] (.agg [.p (.int .i64 F),.p .nils]):=Ga (F:Int) ls [] [] af rfl;have e0:cM (nN [] [])=[]:=rfl;simp only[yJ,kZ,e0];rw[Tl];refine bc c28 ?_;simp only[go_sem,i28,s46,lz pof l1 (.inl rfl)];simp only[go_sem,s47,lz po l2 (.inl rfl),wS,Bx,Io,s50,gR pe,px,Let.ps,s49,Gl pw l3 (.inr rfl),s55];refine⟨aH,?_⟩;refine aaj (gone:=[x.id]) (by simp only[go_sem];rfl) fun bt hb=>?_;have q0:=hb 1792000000 ae;have q1:=hb 1792000128 ae;have q2:=hb 1792128128 ae;simp only[go_sem] at q0 q1 q2;simp only[go_sem,q0,q1,q2,i28_r3,s58,lz pcl l4 (.inr rfl)];try rfl
 rw[Gq hW xM] at pw;have cJ:(nN (W.map (kh [x.id])) V).length=W.length:=by rw[VG,cG]
 have pcl:=Ga (F:Int) ls (W.map (kh [x.id])) V (by simp only[cG];omega) (by rw[cG];exact xM);have lI:nN (W.map (kh [x.id])) V≠[]:=fun e=>hW (BJ.1 (by rw[<- cJ,e];rfl));simp only[yJ];rw[AR (NY lI)] at pcl ⊢;refine bc c28 ?_;simp only[go_sem,i28,s46,lz pof l1 (.inl rfl)];simp only[go_sem,s47,lz po l2 (.inl rfl),wS,Bx,Io,s50,gR pe,px,Let.ps,s49,Gl pw l3 (.inr (QK _ _)),s55];refine⟨aH,?_⟩;refine aai (L:=W) (D:=V) (gone:=[x.id]) ae ae ae aa af (fun y hy k hk=>hid y (Kc y hy) k (by simp at hk;omega)) (by simp only[go_sem]) (by simp only[go_sem]) (by simp only[go_sem];rfl) fun bt h1 hb=>?_
 have q0:=hb 1792000000 ae ae;have q1:=hb 1792000128 ae ae;have q2:=hb 1792128128 ae ae;have q3:=hb 1793536513 ae ae;simp only[go_sem] at q0 q1 q2 q3;generalize Kb:W.map (kh [x.id])=W2 at*;have tk:W.length=W2.length:=by rw[<- Kb,cG]
 simp only[go_sem,h1,tk,q0,q1,q2,q3,wS,Bx,i28_r3,s58,lz pcl l4 (.inr (Qp _ _))];simp[fv,ll,jx,iY,fm,aS,apart,oQ,mq,wS]
theorem agC(g:bK F ls)(k:Nat)(b c:Int)(l o:Bool)(sg:Int)(hk:k<ls.length)(hl:ls.length<=400)(jj:∀x∈ls,IntKind.i64.wrap (x.aw-2)=x.aw-2):
  aJ S 28 [cY F ls,ft 1 k b c l o sg] (yJ F ((fV ls [k,nx ls k]).map (oU (lA ls k).gate (if (lA ls (nx ls k)).aw<(lA ls k).aw then (lA ls (nx ls k)).aw else (lA ls k).aw) 2)) (fV (oa ls) [k,nx ls k])):=by
 have pof:=Oe g;have po:=UW (F:Int) ls aa;have l1:S.lone 1792064064=false:=ah;have l2:S.lone 1792128064=false:=ah;have l4:S.lone 1795136128=false:=ah;rw[AR (M9 g)] at pof;have Dm:=Gq g.ne (Ax ls);simp only[Ca] at Dm;rw[Dm] at po;have pe:=Jz (F:=F) hk aa;have pw:=V6 ls (oa ls) [k,nx ls k] aa (Ax ls) af;have xM:=Wc ls (oa ls) [k,nx ls k] (Ax ls);have hWl:=Wb ls [k,nx ls k];have Kc:∀y∈fV ls [k,nx ls k],y∈ls:=fun y h=>Ph h;have l3:S.lone 1792384512=false:=ah;have pb:=Mz (F:=F) hk aa;have l5:S.lone 1792320192=false:=ah
 have e1:nP [k,nx ls k]=[[.int .i64 k],[.int .i64 ((k+1)%ls.length:Nat)]]:=rfl;rw[e1] at pw;generalize hL:fV ls [k,nx ls k]=W at*;generalize hD:fV (oa ls) [k,nx ls k]=V at*;generalize lA ls k=X at*;generalize lA ls (nx ls k)=Y at*;by_cases hW:W=[]
 .subst hW;have hV:V=[]:=BJ.1 xM;subst hV;rw[QL] at pw;have pcl:aJ S 58 [.agg [.p (.sl []),.p (.sl [])],cY F ls] (.agg [.p (.int .i64 F),.p .nils]):=Ga (F:Int) ls [] [] af rfl;have e0:cM (nN [] [])=[]:=rfl;simp only[yJ,kZ,e0];rw[Tl];refine bc c28 ?_;simp only[go_sem,i28,s46,lz pof l1 (.inl rfl)];simp only[go_sem,s47,lz po l2 (.inl rfl),wS,Bx,Io,s50,gR pe,s48,lz pb l5 (.inr rfl),s49,Gl pw l3 (.inr rfl),s51];refine⟨aH,?_⟩;refine aj0 fun bt hb=>?_;have q0:=hb 1792000000 ae;have q1:=hb 1792000128 ae;have q2:=hb 1792128128 ae;simp only[go_sem] at q0 q1 q2;simp only[go_sem,q0,q1,q2,i28_r3,s58,lz pcl l4 (.inr rfl)];try rfl
 rw[Gq hW xM] at pw;have cJ:(nN (W.map (oU X.gate (if Y.aw<X.aw then Y.aw else X.aw) 2)) V).length=W.length:=by rw[VG,cG]
 have pcl:=Ga (F:Int) ls (W.map (oU X.gate (if Y.aw<X.aw then Y.aw else X.aw) 2)) V (by simp only[cG];omega) (by rw[cG];exact xM);have lI:nN (W.map (oU X.gate (if Y.aw<X.aw then Y.aw else X.aw) 2)) V≠[]:=fun e=>hW (BJ.1 (by rw[<- cJ,e];rfl));simp only[yJ];rw[AR (NY lI)] at pcl ⊢;refine bc c28 ?_;simp only[go_sem,i28,s46,lz pof l1 (.inl rfl)];simp only[go_sem,s47,lz po l2 (.inl rfl),wS,Bx,Io,s50,gR pe,s48,lz pb l5 (.inr rfl),s49,Gl pw l3 (.inr (QK _ _)),s51];refine⟨aH,?_⟩;refine ajZ (L:=W) (D:=V) ae aa (fun y hy=>jj y (Kc y hy)) (by simp only[go_sem]) (by simp only[go_sem]) fun bt h1 hb=>?_
 have q0:=hb 1792000000 ae ae;have q1:=hb 1792000128 ae ae;have q2:=hb 1792128128 ae ae;have q3:=hb 1792384513 ae ae;simp only[go_sem] at q0 q1 q2 q3;generalize Kb:W.map (oU X.gate (if Y.aw<X.aw then Y.aw else X.aw) 2)=W2 at*;have tk:W.length=W2.length:=by rw[<- Kb,cG]
 simp only[go_sem,h1,tk,q0,q1,q2,q3,wS,Bx,i28_r3,s58,lz pcl l4 (.inr (Qp _ _))];simp[fv,ll,jx,iY,fm,aS,apart,oQ,mq,wS]
theorem agE(g:bK F ls)(k j:Nat)(c:Int)(l o:Bool)(sg:Int)(hk:k<ls.length)(hj:j<ls.length)(hl:ls.length<=400)(hid:∀x∈ls,∀k:Nat,k<=4->IntKind.i64.wrap (x.id-(k:Int))=x.id-k):
  aJ S 28 [cY F ls,ft 6 k j c l o sg] (yJ F ((fV ls [k,nx ls k,j,nx ls j]).map (kh [(lA ls k).id,(lA ls (nx ls k)).id])) (fV (oa ls) [k,nx ls k,j,nx ls j])):=by
 have pof:=Oe g;have po:=UW (F:Int) ls aa;have l1:S.lone 1792064064=false:=ah;have l2:S.lone 1792128064=false:=ah;have l4:S.lone 1795136128=false:=ah;rw[AR (M9 g)] at pof;have Dm:=Gq g.ne (Ax ls);simp only[Ca] at Dm;rw[Dm] at po;have pe:=Jz (F:=F) hk aa;have pw:=V6 ls (oa ls) [k,nx ls k,j,nx ls j] aa (Ax ls) af;have xM:=Wc ls (oa ls) [k,nx ls k,j,nx ls j] (Ax ls);have hWl:=Wb ls [k,nx ls k,j,nx ls j];have Kc:∀y∈fV ls [k,nx ls k,j,nx ls j],y∈ls:=fun y h=>Ph h;have l3:S.lone 1794112896=false:=ah;have pb:=Mz (F:=F) hk aa;have Ls:=Jz (F:=F) hj aa;have l5:S.lone 1794048192=false:=ah
 have e1:nP [k,nx ls k,j,nx ls j]=[[.int .i64 k],[.int .i64 ((k+1)%ls.length:Nat)],[.int .i64 j],[.int .i64 ((j+1)%ls.length:Nat)]]:=rfl;rw[e1] at pw;generalize hL:fV ls [k,nx ls k,j,nx ls j]=W at*;generalize hD:fV (oa ls) [k,nx ls k,j,nx ls j]=V at*;generalize lA ls k=X at*;generalize lA ls (nx ls k)=Y at*;by_cases hW:W=[]
 .subst hW;have hV:V=[]:=BJ.1 xM;subst hV;rw[QL] at pw;have pcl:aJ S 58 [.agg [.p (.sl []),.p (.sl [])],cY F ls] (.agg [.p (.int .i64 F),.p .nils]):=Ga (F:Int) ls [] [] af rfl;have e0:cM (nN [] [])=[]:=rfl;simp only[yJ,kZ,e0];rw[Tl];refine bc c28 ?_;simp only[go_sem,i28,s46,lz pof l1 (.inl rfl)];simp only[go_sem,s47,lz po l2 (.inl rfl),wS,Bx,Io,s50,gR pe,s48,lz pb l5 (.inr rfl),gR Ls,s49,Gl pw l3 (.inr rfl),s55];refine⟨aH,?_⟩;refine aaj (gone:=[X.id,Y.id]) (by simp only[go_sem];rfl) fun bt hb=>?_;have q0:=hb 1792000000 ae;have q1:=hb 1792000128 ae;have q2:=hb 1792128128 ae;simp only[go_sem] at q0 q1 q2;simp only[go_sem,q0,q1,q2,i28_r3,s58,lz pcl l4 (.inr rfl)];try rfl
 rw[Gq hW xM] at pw;have cJ:(nN (W.map (kh [X.id,Y.id])) V).length=W.length:=by rw[VG,cG]
 have pcl:=Ga (F:Int) ls (W.map (kh [X.id,Y.id])) V (by simp only[cG];omega) (by rw[cG];exact xM);have lI:nN (W.map (kh [X.id,Y.id])) V≠[]:=fun e=>hW (BJ.1 (by rw[<- cJ,e];rfl));simp only[yJ];rw[AR (NY lI)] at pcl ⊢;refine bc c28 ?_;simp only[go_sem,i28,s46,lz pof l1 (.inl rfl)];simp only[go_sem,s47,lz po l2 (.inl rfl),wS,Bx,Io,s50,gR pe,s48,lz pb l5 (.inr rfl),gR Ls,s49,Gl pw l3 (.inr (QK _ _)),s55];refine⟨aH,?_⟩;refine aai (L:=W) (D:=V) (gone:=[X.id,Y.id]) ae ae ae aa af (fun y hy k hk=>hid y (Kc y hy) k (by simp at hk;omega)) (by simp only[go_sem]) (by simp only[go_sem]) (by simp only[go_sem];rfl) fun bt h1 hb=>?_
 have q0:=hb 1792000000 ae ae;have q1:=hb 1792000128 ae ae;have q2:=hb 1792128128 ae ae;have q3:=hb 1794112897 ae ae;simp only[go_sem] at q0 q1 q2 q3;generalize Kb:W.map (kh [X.id,Y.id])=W2 at*;have tk:W.length=W2.length:=by rw[<- Kb,cG]
 simp only[go_sem,h1,tk,q0,q1,q2,q3,wS,Bx,i28_r3,s58,lz pcl l4 (.inr (Qp _ _))];simp[fv,ll,jx,iY,fm,aS,apart,oQ,mq,wS]
def alG(n cc k:Int):Int×Int:=if k==2 then (n+2,cc) else if k==5 then (n+2,cc+1) else if k==7 then (n+4,cc+2) else (n,cc)
def alR(w p:Bool)(n cc k:Int):Int:=if w then 2 else if p then (if decide (400<(alG n cc k).1)||decide (100<(alG n cc k).2) then 7 else 0) else 4
theorem W6{k a b c:Int}{l o:Bool}{sg:Int}{w p:Bool}(hl:ls.length<=400)(pw:aJ S 141 [lN F ls,ft k a b c l o sg] (rb w))(pp:w=false->aJ S 142 [lN F ls,ft k a b c l o sg] (rb p)):
  aJ S 115 [lN F ls,ft k a b c l o sg] (ri (alR w p ls.length (ay Let.aB ls/2:Nat) k)):=by
 have pcr:=QI (F:Int) ls aa;have qA:ay Let.aB ls<=ls.length:=qt _ _;have jO:ay Let.aB ls/2<=400:=aa;generalize ay Let.aB ls/2=cc at*;have w1:IntKind.i64.wrap ((cc:Int)+1)=(cc:Int)+1:=nT aa aa;have w2:IntKind.i64.wrap ((cc:Int)+2)=(cc:Int)+2:=nT aa aa;have w3:IntKind.i64.wrap ((ls.length:Int)+2)=(ls.length:Int)+2:=nT aa aa;have w4:IntKind.i64.wrap ((ls.length:Int)+4)=(ls.length:Int)+4:=nT aa aa;unfold alR alG;cases w with
 |true=>
  refine bc c115 ?_;simp only[go_sem,i115,s141,cq pw];repeat' ((first|apply uU|apply uT|apply uM|apply uL|apply uI|apply uH)<;>intro he<;>simp only[go_sem, *,s141,cq pw,bne,eO,eC])
  all_goals(first|done|exact aH|exact⟨aH,rfl⟩|rfl)
 |false=>
  have pp:=pp rfl;cases p with
  |false=>
   refine bc c115 ?_;simp only[go_sem,i115,s141,cq pw,s142,cq pp];repeat' ((first|apply uU|apply uT|apply uM|apply uL|apply uI|apply uH)<;>intro he<;>simp only[go_sem, *,s141,cq pw,s142,cq pp,bne,eO,eC])
   all_goals(first|done|exact aH|exact⟨aH,rfl⟩|rfl)
  |true=>
   refine bc c115 ?_;simp only[go_sem,i115,s141,cq pw,s142,cq pp,s25,gR pcr];refine⟨aH,?_⟩;repeat' ((first|apply uU|apply uT|apply uM|apply uL|apply uI|apply uH)<;>intro he<;>simp only[go_sem, *])
   all_goals(first|done|exact aH|exact⟨aH,rfl⟩|rfl)
theorem aoy(g:bK F ls){i j:Nat}{c:Int}{l o:Bool}{sg:Int}(hi:i<ls.length)(hj:j<ls.length):aJ S 142 [lN F ls,ft 6 i j c l o sg] (rb (DU F ls i j)):=by
 have ps:=anB g hi hj;refine bc c142 ?_;simp only[go_sem,i142,s177,cq ps];repeat' ((first|apply uU|apply uT|apply uM|apply uL|apply uI|apply uH)<;>intro he<;>simp only[go_sem, *,s177,cq ps,bne,eO,eC])
 all_goals(first|done|exact aH|exact⟨aH,rfl⟩|rfl)
theorem aox(g:bK F ls){i:Nat}{b c:Int}{l o:Bool}{sg:Int}(hi:i<ls.length):aJ S 142 [lN F ls,ft 4 i b c l o sg] (rb (sN ls i&&((lA ls i).id==(lA ls (nx ls i)).id))):=by
 have ps:=QG (F:=F) hi (by have:=g.len;omega);have l1:S.lone 9088704192=false:=ah;have pc:=ps;generalize lA ls i=X at*;generalize lA ls (nx ls i)=Y at*;generalize sN ls i=e at*;refine bc c142 ?_;simp only[go_sem,i142,s176,lz pc l1 (.inl rfl)];repeat' ((first|apply uU|apply uT|apply uM|apply uL|apply uI|apply uH)<;>intro he<;>simp only[go_sem, *])
 all_goals(first|done|exact aH|exact⟨aH,rfl⟩|rfl)
theorem aow(g:bK F ls){i:Nat}{b c:Int}{l o:Bool}{sg:Int}(hi:i<ls.length)(ha:Lz (lA ls i))(hb:Lz (lA ls (nx ls i))):aJ S 142 [lN F ls,ft 1 i b c l o sg] (rb (De (lA ls i) (lA ls (nx ls i))&&(decide ((2:Int)<(ay Let.aG ls:Nat))||(((ay Let.aB ls/2:Nat):Int)==0)))):=by
 have hlen:=g.len;have pb:=Mz (F:=F) hi aa;have pn:=am7 _ _ ha hb;have pp:=adC (F:Int) ls aa;have pc:=QI (F:Int) ls aa;have l1:S.lone 9088192192=false:=ah;generalize De (lA ls i) (lA ls (nx ls i))=nb at*;generalize lA ls i=X at*;generalize lA ls (nx ls i)=Y at*;generalize ay Let.aG ls=np at*;generalize ay Let.aB ls/2=nc at*;refine bc c142 ?_;simp only[go_sem,i142,s48,lz pb l1 (.inl rfl),s174,cq pn];repeat' ((first|apply uU|apply uT|apply uM|apply uL|apply uI|apply uH)<;>intro he<;>simp only[go_sem, *,s22,dJ pp,s25,dJ pc])
 all_goals(first|done|exact aH|exact⟨aH,rfl⟩|rfl)
theorem of_e(F:Int):aJ S 46 [cY F []] (.agg [.p (.int .i64 F),.p (.sl []),.p (.int .i64 0),.p .nils]):=by refine bc c46 ?_;have hn:¬((0:Int)<0):=aa;simp only[go_sem,i46,Int.ofNat_zero,hn];all_goals(first|done|exact aH|exact⟨aH,rfl⟩|rfl)
theorem find_congr{α:Type}{l:List α}{p q:α->Bool}(h:∀x∈l,p x=q x):l.find? p=l.find? q:=by
 induction l with
 |nil=>rfl
 |cons a l ih=>rw[Pv,Pv,h a (IS ..),ih fun x hx=>h x (vB _ hx)]
theorem aee{l:List Pc}{f:Nat}(hf:f<=l.length):qc l f l.length=(l.drop f++l.take f).map Pc.l:=by
 apply BE;intro i;by_cases hi:i<l.length
 .have h1:(qc l f l.length)[i]?=some (l.getD ((f+i)%l.length) ⟨iM,false⟩).l:=by
   simp[qc,hi]
  rw[h1,gh];by_cases h2:f+i<l.length
  .rw[uz (by simp;omega),wZ,gV h2];simp[h2]
  rw[vz (by simp;omega),tx];have h3:(f+i)%l.length=i-(l.length-f):=by rw[afX aa,gV aa];omega
  have h4:i-(l.length-f)<l.length:=aa;rw[h3,jY,aE aa];simp[h4]
 have h1:(qc l f l.length).length=l.length:=by simp[qc]
 rw[nV (by rw[h1];omega),nV (by simp;omega)]
theorem ajv{l:List Pc}{L:List Let}{D:List Bool}(hL:l.map Pc.l=L)(hd:D.length=l.length)(h:∀(i:Nat) (p:Pc),l[i]?=some p->(p.l.kind==1)=true->D[i]?=some p.d):kK l=nN L D:=by
 subst hL;have hf:qw l=LP (l.map Pc.l) D:=by
  unfold qw LP;rw[cG];refine find_congr fun i hi=>?_;have hi:i<l.length:=by simpa using hi
  obtain⟨p,hp⟩:=aN hi;obtain⟨d,hD⟩:=aN (ls:=D) (k:=i) aa;have gU:(l.map Pc.l)[i]?=some p.l:=by rw[gh,hp];rfl
  simp only[Lr,Fl,hp,gU,hD,Dj];cases hk:(p.l.kind==1) with
  |false=>simp
  |true=>have:=h i p hp hk;rw[hD] at this;cases this;simp
 unfold kK nN;rw[<- hf];cases hq:qw l with
 |none=>simp only[Option.getD_none];rw[aee (bn _)];simp
 |some i=>
  have hi:i<l.length:=by
   have:=IT hq
   simpa using this
  simp only[kE];rw[aee (Nat.le_of_lt hi),km,Py,Pz]
def Rel(l:List Pc)(L:List Let)(D:List Bool):Prop:= ∃z:List (Pc×Bool),z.map (·.1)=l/\z.map (·.1.l)=L/\z.map (·.2)=D/\ ∀x∈z,(x.1.l.kind==1)=true->x.2=x.1.d
theorem Rel.fin{l:List Pc}{L:List Let}{D:List Bool}(h:Rel l L D):kK l=nN L D:=by
 obtain⟨z,rfl,rfl,rfl,hz⟩:=h;refine ajv af af fun i p hp hk=>?_;rw[gh] at hp ⊢;cases hx:z[i]? with
 |none=>rw[hx] at hp;cases hp
 |some x=>rw[hx] at hp;cases hp;have:=hz x (aW hx) hk;rw[<- this];rfl
theorem Rel.base(ls:List Let):Rel (pieces ls) ls (oa ls):=by
 refine⟨(List.range ls.length).map fun i=>(⟨ls.getD i iM,gY ls i⟩,dn ls i),?_,?_,?_,?_⟩
 .simp[pieces]
 .rw[nX];apply BE;intro i;rw[gh];by_cases hi:i<ls.length
  .rw[sI hi];simp[hi]
  rw[nV (by simp;omega),nV aa];rfl
 .rw[nX];rfl
 intro x hx hk;obtain⟨i,hi,rfl⟩:=dy.1 hx;have hi:=fJ.1 hi;obtain⟨l,hl⟩:=aN hi;simp only[cU,hl,kE] at hk ⊢;unfold gY;rw[hl];simp only;unfold Let.aG;rw[hk,IJ]
theorem UD{α β:Type}(f:α->β)(l:List α)(out:List Nat):(fV l out).map f=fV (l.map f) out:=by
 unfold fV sH;rw[List.map_filterMap,cG];congr 1;funext i;unfold DA;split
 .rfl
 rw[gh]
theorem Rel.wo{l:List Pc}{L:List Let}{D:List Bool}(h:Rel l L D)(out:List Nat):Rel (fV l out) (fV L out) (fV D out):=by obtain⟨z,rfl,rfl,rfl,hz⟩:=h;exact⟨fV z out,UD _ _ _,UD _ _ _,UD _ _ _,fun x hx=>hz x (Ph hx)⟩
theorem UC{α β:Type}(f:α->β)(l:List α)(i j:Nat):(Bw l i j).map f=Bw (l.map f) i j:=by unfold Bw;rw[gh,gh];cases l[i]? <;>cases l[j]? <;>simp[zX]
theorem aq0{α:Type}{l:List α}{i j:Nat}{x:α}(h:x∈Bw l i j):x∈l:=by
 unfold Bw at h;cases hi:l[i]? with
 |none=>rw[hi] at h;exact h
 |some a=>
  cases hj:l[j]? with
  |none=>rw[hi,hj] at h;exact h
  |some b=>
   rw[hi,hj] at h;rcases PA h with h|rfl
   .rcases PA h with h|rfl
    .exact h
    exact aW hj
   exact aW hi
theorem Rel.sw{l:List Pc}{L:List Let}{D:List Bool}(h:Rel l L D)(i j:Nat):Rel (Bw l i j) (Bw L i j) (Bw D i j):=by obtain⟨z,rfl,rfl,rfl,hz⟩:=h;exact⟨Bw z i j,UC _ _ _ _,UC _ _ _ _,UC _ _ _ _,fun x hx=>hz x (aq0 hx)⟩
theorem Rel.map{l:List Pc}{L:List Let}{D:List Bool}(h:Rel l L D){f:Pc->Pc}{g:Let->Let}(hf:∀p∈l,(f p).l=g p.l/\(f p).d=p.d/\(f p).l.kind=p.l.kind):Rel (l.map f) (L.map g) D:=by
 obtain⟨z,rfl,rfl,rfl,hz⟩:=h;refine⟨z.map fun x=>(f x.1,x.2),?_,?_,?_,?_⟩
 .rw[nX,nX];rfl
 .rw[nX,nX];exact zW fun x hx=>(hf x.1 (dy.2 ⟨x,hx,rfl⟩)).1
 .rw[nX];rfl
 intro x hx hk;obtain⟨y,hy,rfl⟩:=dy.1 hx;obtain⟨_,h2,h3⟩:=hf y.1 (dy.2 ⟨y,hy,rfl⟩);simp only at hk ⊢;rw[h3] at hk;rw[h2];exact hz y hy hk
theorem Rel.set{l:List Pc}{L:List Let}{D:List Bool}(h:Rel l L D){i:Nat}{p q:Pc}(hp:l[i]?=some p)(hd:q.d=p.d)(hk:q.l.kind=p.l.kind):Rel (l.set i q) (L.set i q.l) D:=by
 obtain⟨z,rfl,rfl,rfl,hz⟩:=h;rw[gh] at hp;cases hx:z[i]? with
 |none=>rw[hx] at hp;cases hp
 |some x=>
  rw[hx] at hp;cases hp;refine⟨z.set i (q,x.2),by rw[zX],by rw[zX],?_,fun y hy KD=>?_⟩
  .rw[zX];apply BE;intro j;rw[nW];by_cases e:i=j
   .subst e;rw[aE rfl,gh,hx];have:i<z.length:=(aY.1 hx).1;simp[this]
   rw[aD e]
  rcases PA hy with hy|rfl
  .exact hz y hy KD
  simp only at KD ⊢;rw[hd];exact hz x (aW hx) (by rw[<- hk];exact KD)
theorem Rel.two{p q:Pc}{d e:Bool}(hp:(p.l.kind==1)=true->d=p.d)(hq:(q.l.kind==1)=true->e=q.d):Rel [p,q] [p.l,q.l] [d,e]:=
 ⟨[(p,d),(q,e)],rfl,rfl,rfl,fun x hx=>by
  simp only[dh,lT,or_false] at hx;rcases hx with rfl|rfl
  .exact hp
  exact hq⟩
theorem Rel.len{l:List Pc}{L:List Let}{D:List Bool}(h:Rel l L D):L.length=l.length/\D.length=l.length:=by obtain⟨z,rfl,rfl,rfl,_⟩:=h;simp
theorem yt(ls:List Let)(i:Nat):(pA ls i).l=lA ls i:=by
 by_cases h:i<ls.length
 .obtain⟨l,hl⟩:=aN h;show((pieces ls).getD i _).l=ls.getD i iM;rw[cU,cU,kS hl,hl];rfl
 show((pieces ls).getD i _).l=ls.getD i iM;rw[cU,cU,nV (by rw[fG];omega),nV aa];rfl
theorem NV{i:Nat}(h:i<ls.length):ls[i]?=some (lA ls i):=by obtain⟨l,hl⟩:=aN h;rw[hl];show some l=some (ls.getD i iM);rw[cU,hl];rfl
theorem filterMap_eq{α β:Type}{f g:α->Option β}:∀ {l:List α},(∀x∈l,f x=g x)->l.filterMap f=l.filterMap g:=by
 intro l
 induction l with
 |nil=>intro _;rfl
 |cons a l ih=>intro h;rw[List.filterMap_cons,List.filterMap_cons,h a af,ih fun x hx=>h x (by simp[hx])]
theorem CY{l:Let}(h:l.kind=2):l.aB=true:=by unfold Let.aB;rw[h];rfl
theorem Ul(l:List Pc)(drop:Nat->Pc->Bool)(out:List Nat)(h:∀i p,l[i]?=some p->(drop i p=true↔i∈out)):jQ l drop=fV l out:=by
 unfold jQ rl fV sH;refine filterMap_eq fun i hi=>?_;unfold HA DA;cases hp:l[i]? with
 |none=>simp
 |some p=>
  simp only;by_cases c:i∈out
  .rw[aE c,aE ((h i p hp).2 c)]
  rw[aD c,aD fun d=>c ((h i p hp).1 d)]
theorem arX{α:Type}{l:List α}{out:List Nat}{x:α}(h:x∈fV l out):∃i,i∉out/\l[i]?=some x:=by
 unfold fV sH at h;obtain⟨i,_,hi⟩:=afK.1 h;unfold DA at hi;split at hi
 .cases hi
 rename_i c;exact⟨i,c,hi⟩
section
variable {F:Nat} {ls:List Let}
theorem bK.pos(g:bK F ls):0<ls.length:=kY.2 g.ne
theorem bK.HM(g:bK F ls)(e:Nat):nx ls e<ls.length:=dK _ g.pos
theorem bK.aat(g:bK F ls){i:Nat}{l:Let}(hl:ls[i]?=some l)(hp:l.aG=true):rW F ls l:=g.ok.ax.eJ l (aW hl) hp
theorem bK.one(g:bK F ls){i j:Nat}{l m:Let}(hl:ls[i]?=some l)(hm:ls[j]?=some m)(pl:l.aG=true)(pm:m.aG=true)(hg:l.gate=m.gate)(hr:l.aw=m.aw):i=j:=g.ok.ax.inj i j l m hl hm pl pm ((Dl (g.aat hl pl) (g.aat hm pm)).2 ⟨hg,hr⟩)
theorem mv1(g:bK F ls){a:Nat}(ha:a<ls.length):
  (uF ls a).isSome=(De (lA ls a) (lA ls (nx ls a))&&(decide ((2:Int)<(ay Let.aG ls:Nat))||(((ay Let.aB ls/2:Nat):Int)==0)))/\
  ∀L,uF ls a=some L->Rel L ((fV ls [a,nx ls a]).map (oU (lA ls a).gate (if (lA ls (nx ls a)).aw<(lA ls a).aw then (lA ls (nx ls a)).aw else (lA ls a).aw) 2)) (fV (oa ls) [a,nx ls a]):=by
 have hn:=g.HM a;have e1:=yt ls a;have e2:=yt ls (nx ls a);unfold uF;simp only
 change ((if ((pA ls a).l.kind==1)&&(((pA ls (nx ls a)).l.kind==1)&&(((pA ls a).l.gate==(pA ls (nx ls a)).l.gate)&&((nL (pA ls a).l.aw (pA ls (nx ls a)).l.aw-vm (pA ls a).l.aw (pA ls (nx ls a)).l.aw==1)&& !(decide (ay Let.aG ls<=2)&&decide (0<ay Let.aB ls/2))))) then some (iO (jQ (pieces ls) fun k _=>decide (k=a)||decide (k=nx ls a)) (pA ls a).l.gate (nL (pA ls a).l.aw (pA ls (nx ls a)).l.aw) (-2)) else none).isSome=_/\ ∀L,(if ((pA ls a).l.kind==1)&&(((pA ls (nx ls a)).l.kind==1)&&(((pA ls a).l.gate==(pA ls (nx ls a)).l.gate)&&((nL (pA ls a).l.aw (pA ls (nx ls a)).l.aw-vm (pA ls a).l.aw (pA ls (nx ls a)).l.aw==1)&& !(decide (ay Let.aG ls<=2)&&decide (0<ay Let.aB ls/2))))) then some (iO (jQ (pieces ls) fun k _=>decide (k=a)||decide (k=nx ls a)) (pA ls a).l.gate (nL (pA ls a).l.aw (pA ls (nx ls a)).l.aw) (-2)) else none)=some L->_)
 rw[e1,e2];have h1:=NV ha;have h2:=NV hn;generalize hx:lA ls a=x at*;generalize hy:lA ls (nx ls a)=y at*;have CF:(nL x.aw y.aw-vm x.aw y.aw==1)=((x.aw==y.aw+1)||(y.aw==x.aw+1)):=by rw[yD];unfold nL vm;simp only[dk,oY];split<;>split<;>omega
 have qA:(!(decide (ay Let.aG ls<=2)&&decide (0<ay Let.aB ls/2)))=(decide ((2:Int)<(ay Let.aG ls:Nat))||(((ay Let.aB ls/2:Nat):Int)==0)):=by rw[yD];simp only[kW,afA,decide_eq_false_iff_not,oY,lh,dk];omega
 rw[CF,qA];have A1:((x.kind==1)&&((y.kind==1)&&((x.gate==y.gate)&&(((x.aw==y.aw+1)||(y.aw==x.aw+1))&&(decide ((2:Int)<(ay Let.aG ls:Nat))||(((ay Let.aB ls/2:Nat):Int)==0))))))=(De x y&&(decide ((2:Int)<(ay Let.aG ls:Nat))||(((ay Let.aB ls/2:Nat):Int)==0))):=by unfold De;simp only[L4]
 rw[A1];refine⟨by split<;>simp_all,fun L hL=>?_⟩;split at hL
 .rename_i hc;cases hL;rw[cE] at hc;have hn:=hc.1;unfold De at hn;simp only[cE,oY,dk] at hn;obtain⟨k1,k2,k3,k4⟩:=hn;rw[Ul (pieces ls) (fun k _=>decide (k=a)||decide (k=nx ls a)) [a,nx ls a] (fun i p _=>af)];refine((Rel.base ls).wo _).map fun p hp=>?_;obtain⟨i,hi,fQ⟩:=arX hp;simp only[dh,lT,or_false,Ab] at hi;have ny:i<ls.length:=by have:=(aY.1 fQ).1;rwa[fG] at this
  have bG:ls[i]?=some p.l:=by rw[kS (NV ny)] at fQ;cases fQ;exact NV ny
  unfold qe oU;by_cases c1:(p.l.kind==1)=true
  .rw[c1];by_cases c2:(p.l.gate==x.gate)=true
   .rw[c2];simp only[IJ,lh];have nx1:p.l.aw≠x.aw:=fun e=>hi.1 (g.one bG h1 c1 (by unfold Let.aG;simp[k1]) (eq_of_beq c2) e);have nx2:p.l.aw≠y.aw:=fun e=>hi.2 (g.one bG h2 c1 (by unfold Let.aG;simp[k2]) (by rw[eq_of_beq c2,k3]) e);have:(nL x.aw y.aw<p.l.aw)↔((if y.aw<x.aw then y.aw else x.aw)<p.l.aw):=by
     unfold nL;split<;>split<;>omega
    by_cases c3:(if y.aw<x.aw then y.aw else x.aw)<p.l.aw
    .rw[aE (this.2 c3),aE c3];exact⟨rfl,rfl,rfl⟩
    rw[aD (fun h=>c3 (this.1 h)),aD c3];exact⟨rfl,rfl,rfl⟩
   rw[Bool.eq_false_iff.2 c2];exact⟨rfl,rfl,rfl⟩
  rw[Bool.eq_false_iff.2 c1];exact⟨rfl,rfl,rfl⟩
 cases hL
end
section
variable {F:Nat} {ls:List Let}
theorem bK.two(g:bK F ls):2<=ls.length:=by have h:=Uu g.ok;obtain⟨l,hl,hp⟩:=g.first;have h1:0<ay Let.aG ls:=vw.2 ⟨l,aW hl,hp⟩;have h2:=g.even;omega
theorem bK.UJ(g:bK F ls){a:Nat}(ha:a<ls.length):a≠nx ls a:=ana g.two ha
theorem bK.three(g:bK F ls){i j k:Nat}{l m x:Let}(hi:ls[i]?=some l)(hj:ls[j]?=some m)(hk:ls[k]?=some x)(cl:l.aB=true)(cm:m.aB=true)(cx:x.aB=true)(e1:l.id=m.id)(e2:l.id=x.id)(eT:i≠j):k=i\/k=j:=by
 have hp:=g.ids.2;by_cases h1:k=i
 .exact .inl h1
 by_cases h2:k=j
 .exact .inr h2
 have o1:=(hp i j l m hi hj cl cm e1 eT).1;have o2:=(hp i k l x hi hk cl cx e2 fun e=>h1 e.symm).1;have o3:=(hp j k m x hj hk cm cx (e1▸e2) fun e=>h2 e.symm).1;revert o1 o2 o3;cases l.over<;>cases m.over<;>cases x.over<;>simp
theorem acM(ids:List Int)(p:Pc):(lL ids p).l=kh ids p.l/\(lL ids p).d=p.d/\(lL ids p).l.kind=p.l.kind:=by
 unfold lL kh;split
 .refine⟨?_,rfl,rfl⟩;unfold iL ym;simp only[jf,Pr]
 exact⟨rfl,rfl,rfl⟩
theorem mv4(g:bK F ls){a:Nat}(ha:a<ls.length):
  (vj ls a).isSome=(sN ls a&&((lA ls a).id==(lA ls (nx ls a)).id))/\
  ∀L,vj ls a=some L->Rel L ((fV ls [a,nx ls a]).map (kh [(lA ls a).id])) (fV (oa ls) [a,nx ls a]):=by
 have hn:=g.HM a;have aM:=g.UJ ha;have h1:=se ha;have h2:=se hn;unfold vj sN;simp only;change ((if ((pA ls a).l.kind==2)&&(((pA ls (nx ls a)).l.kind==2)&&((pA ls a).l.id==(pA ls (nx ls a)).l.id)) then some (Cb (pieces ls) [(pA ls a).l.id]) else none).isSome=_/\ ∀L,(if ((pA ls a).l.kind==2)&&(((pA ls (nx ls a)).l.kind==2)&&((pA ls a).l.id==(pA ls (nx ls a)).l.id)) then some (Cb (pieces ls) [(pA ls a).l.id]) else none)=some L->_);rw[yt,yt,<- L4];refine⟨by split<;>simp_all,fun L hL=>?_⟩;split at hL
 .rename_i hc;cases hL;simp only[cE,dk] at hc;obtain⟨⟨k1,k2⟩,k3⟩:=hc;have hk:jQ (pieces ls) (nk [(lA ls a).id])=fV (pieces ls) [a,nx ls a]:=by
   refine Ul _ _ _ fun i p hp=>?_;have ny:i<ls.length:=by have:=(aY.1 hp).1;rwa[fG] at this
   have bG:ls[i]?=some p.l:=by rw[kS (se ny)] at hp;cases hp;exact se ny
   unfold nk;simp only[cE,dk,L8,dh,lT,or_false,lh];constructor
   .rintro ⟨q1,q2⟩
    exact g.three h1 h2 bG (CY k1) (CY k2) (CY q1) k3 q2.symm aM
   have get:∀j,j<ls.length->i=j->p.l=lA ls j:=fun j hj e=>by subst e;rw[se hj] at bG;exact(oZ bG).symm
   rintro (e|e)
   .rw[get _ ha e];exact⟨k1,rfl⟩
   rw[get _ hn e];exact⟨k2,k3.symm⟩
  show Rel ((jQ (pieces ls) (nk [(lA ls a).id])).map (lL [(lA ls a).id])) _ _;rw[hk];exact((Rel.base ls).wo _).map fun p _=>acM _ p
 cases hL
theorem aht(ls:List Let)(e:Nat)(ov:Bool):iB ls e ov=(sN ls e&&(((lA ls e).over==ov)&&((lA ls (nx ls e)).over==ov))):=by unfold iB sN;rw[yt,yt,L4]
theorem mv6(g:bK F ls){a b:Nat}(ha:a<ls.length)(hb:b<ls.length):
  (ti F ls a b).isSome=DU F ls a b/\
  ∀L,ti F ls a b=some L->Rel L ((fV ls [a,nx ls a,b,nx ls b]).map (kh [(lA ls a).id,(lA ls (nx ls a)).id])) (fV (oa ls) [a,nx ls a,b,nx ls b]):=by
 have hn:=g.HM a;have hm:=g.HM b;have na:=g.UJ ha;have nb:=g.UJ hb;have h1:=se ha;have h2:=se hn;have h3:=se hb;have h4:=se hm;have A1:(((iB ls a true&&iB ls b false)||(iB ls a false&&iB ls b true))&&(!((pA ls a).l.id==(pA ls (nx ls a)).l.id)&&
  (((((pA ls b).l.id==(pA ls a).l.id)&&((pA ls (nx ls b)).l.id==(pA ls (nx ls a)).l.id))||(((pA ls b).l.id==(pA ls (nx ls a)).l.id)&&((pA ls (nx ls b)).l.id==(pA ls a).l.id)))&&
  (!((a+2)%ls.length==b)&&(!((b+2)%ls.length==a)&&lW F ls 0 [a,b] a)))))=DU F ls a b:=by
  rw[aib rfl ha];unfold DU;simp only[aht,yt];have e1:((a+2)%ls.length==b)=((((a+2)%ls.length:Nat):Int)==(b:Int)):=by rw[yD];simp only[dk];omega
  have e2:((b+2)%ls.length==a)=((((b+2)%ls.length:Nat):Int)==(a:Int)):=by rw[yD];simp only[dk];omega
  rw[e1,e2];have s1:((lA ls b).id==(lA ls a).id)=((lA ls a).id==(lA ls b).id):=by rw[yD];simp only[dk];exact eq_comm
  have s2:((lA ls (nx ls b)).id==(lA ls (nx ls a)).id)=((lA ls (nx ls a)).id==(lA ls (nx ls b)).id):=by rw[yD];simp only[dk];exact eq_comm
  have s3:((lA ls b).id==(lA ls (nx ls a)).id)=((lA ls (nx ls a)).id==(lA ls b).id):=by rw[yD];simp only[dk];exact eq_comm
  have s4:((lA ls (nx ls b)).id==(lA ls a).id)=((lA ls a).id==(lA ls (nx ls b)).id):=by rw[yD];simp only[dk];exact eq_comm
  rw[s1,s2,s3,s4];generalize sN ls a=p1;generalize sN ls b=p2;generalize ((lA ls a).id==(lA ls (nx ls a)).id)=p3;generalize ((((a+2)%ls.length:Nat):Int)==(b:Int))=p4;generalize ((((b+2)%ls.length:Nat):Int)==(a:Int))=p5;generalize ((lA ls a).id==(lA ls b).id)=p6;generalize ((lA ls (nx ls a)).id==(lA ls (nx ls b)).id)=p7;generalize ((lA ls (nx ls a)).id==(lA ls b).id)=p8;generalize ((lA ls a).id==(lA ls (nx ls b)).id)=p9;generalize Bo F ls 0 [a,b]=zC;generalize (lA ls a).over=o1;generalize (lA ls b).over=o2;generalize (lA ls (nx ls a)).over=o3;generalize (lA ls (nx ls b)).over=o4;cases p1<;>cases p2<;>cases p3<;>simp
  all_goals(cases o1<;>cases o2<;>cases o3<;>cases o4<;>simp)
  all_goals(cases p6<;>cases p7<;>cases p8<;>cases p9<;>cases p4<;>cases p5<;>simp)
 unfold ti;rw[A1];refine⟨by split<;>simp_all,fun L hL=>?_⟩;split at hL
 .rename_i hc;cases hL;unfold DU at hc;simp only[cE,oY,kW,dk,rI] at hc;obtain⟨c1,c2,c3,c4,c5,c6,c7,c8,c9,_⟩:=hc;unfold sN at c1 c2;simp only[cE,dk] at c1 c2;have ka:(lA ls a).aB=true:=CY c1.1;have kna:(lA ls (nx ls a)).aB=true:=CY c1.2;have kb:(lA ls b).aB=true:=CY c2.1;have knb:(lA ls (nx ls b)).aB=true:=CY c2.2;have hk:jQ (pieces ls) (nk [(pA ls a).l.id,(pA ls (nx ls a)).l.id])=fV (pieces ls) [a,nx ls a,b,nx ls b]:=by
   rw[yt,yt];refine Ul _ _ _ fun i p hp=>?_;have ny:i<ls.length:=by have:=(aY.1 hp).1;rwa[fG] at this
   have bG:ls[i]?=some p.l:=by rw[kS (se ny)] at hp;cases hp;exact se ny
   have ab:a≠b:=fun e=>c9 (by rw[e]);unfold nk;simp only[cE,dk,L8,dh,lT,or_false,lh];constructor
   .rintro ⟨q1,q2⟩
    have kp:p.l.aB=true:=CY q1;have over:∀ {i j:Nat} {l m:Let},ls[i]?=some l->ls[j]?=some m->l.over≠m.over->i≠j:=fun h k ho e=>by subst e;rw[h] at k;cases k;exact ho rfl
    rcases q2 with q2|q2<;>rcases c6 with ⟨d1,d2⟩|⟨d1,d2⟩
    .rcases g.three h1 h3 bG ka kb kp d1 q2.symm ab with e|e<;>subst e<;>simp
    .rcases g.three h1 h4 bG ka knb kp d1 q2.symm (over h1 h4 (by rw[<- c8];exact c9)) with e|e<;>subst e<;>simp
    .rcases g.three h2 h4 bG kna knb kp d2 q2.symm (over h2 h4 (by rw[<- c8,<- c7];exact c9)) with e|e<;>subst e<;>simp
    rcases g.three h2 h3 bG kna kb kp d2 q2.symm (over h2 h3 (by rw[<- c7];exact c9)) with e|e<;>subst e<;>simp
   have get:∀j,j<ls.length->i=j->p.l=lA ls j:=fun j hj e=>by subst e;rw[se hj] at bG;exact(oZ bG).symm
   rintro (e|e|e|e)
   .rw[get _ ha e];exact⟨c1.1,.inl rfl⟩
   .rw[get _ hn e];exact⟨c1.2,.inr rfl⟩
   .rw[get _ hb e];exact⟨c2.1,c6.elim (fun d=>.inl d.1.symm) (fun d=>.inr d.2.symm)⟩
   rw[get _ hm e];exact⟨c2.2,c6.elim (fun d=>.inr d.2.symm) (fun d=>.inl d.1.symm)⟩
  show Rel ((jQ (pieces ls) (nk [(pA ls a).l.id,(pA ls (nx ls a)).l.id])).map (lL [(pA ls a).l.id,(pA ls (nx ls a)).l.id])) _ _;rw[hk,yt,yt];exact((Rel.base ls).wo _).map fun p _=>acM _ p
 cases hL
end
end
end Go.Abs
