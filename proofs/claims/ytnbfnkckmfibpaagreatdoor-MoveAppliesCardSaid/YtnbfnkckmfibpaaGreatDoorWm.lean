/-
  The rim of a piece of the axis.
-/
import Derived.Test.YtnbfnkckmfibpaaGreatDoorWk
set_option linter.unusedSimpArgs false
set_option linter.unusedVariables false
set_option linter.unusedSectionVars false
set_option maxRecDepth 100000
set_option maxHeartbeats 16000000
namespace Go.Abs
section
variable{F:Nat}{ls:List ae}
theorem He(ok:eN F ls){j:Nat}(hj:j<(ah ls).length): ∃ u l,(ah ls)[j]? =some u/\(ah ls).getD j 0=u/\ls[u]? =some l/\l.bq=true/\jq F ls l/\cR ls l=j:=by
 obtain⟨u,l,h1,h2,h3,h4,h5⟩:=rK ok hj;obtain⟨l',k1,k2,k3⟩:=mM ok.ax h1;rw[h3] at k1;cases k1
 exact⟨u,l,h1,h2,h3,h4,h5,k3⟩
theorem IV{j pg pr qg qr:Nat}{p q:ae}(gp:jq F ls p)(gq:jq F ls q)(hp:cR ls p=j)(hq:cR ls q=j+1)(h1:p.gate=(pg:Int))(h2:p.Th=(pr:Int))(h3:q.gate=(qg:Int))(h4:q.Th=(qr:Int)):
  pg<=qg/\qr - 1=if qg=pg then pr else 0:=by
 obtain⟨_,_,p1,p2⟩:=gp;obtain⟨_,_,q1,q2⟩:=gq;unfold cR at hp hq;rw[h1,h2] at hp;rw[h3,h4] at hq;rw[h2] at p1;rw[h1,h2] at p2;rw[h4] at q1;rw[h3,h4] at q2;simp only[abm] at hp hq p2 q2;have sp:=dI ls pg;have sq:=dI ls qg;have hle:pg<=qg:=by
  rcases Nat.lt_or_ge qg pg with h|h
  ·have:=fc (ls:=ls) (show qg+1<=pg by omega);omega
  ·exact h
 refine⟨hle,?_⟩;by_cases e:qg=pg
 ·subst e;rw[if_pos rfl];omega
 ·rw[if_neg e];have:=fc (ls:=ls) (show pg+1<=qg by omega);omega
theorem FM{qg qr:Nat}{q:ae}(gq:jq F ls q)(hq:cR ls q=0)(h3:q.gate=(qg:Int))(h4:q.Th=(qr:Int)):qr - 1=0:=by
 obtain⟨_,_,q1,q2⟩:=gq;unfold cR at hq;rw[h3,h4] at hq;rw[h4] at q1;simp only[abm] at hq;omega
theorem Qy:S.sites 144=[144]:=by kernel_rfl
theorem AA{vs:List V}{Tc:aB}: ∀ id,Cv id->(allow (S.ctx .all) 144 vs Tc).ok id=true:=fun id h=>eW (by rw[Qy,h];simp)
theorem So(ok:eN F ls)(hF:F<=1000){j:Nat}(hj:j<(ah ls).length):
  aH S 109 [.one (.p (DP F ls)),vi j] (.tup [.one (aq qI 2 (fv (gM F ls j))), .one (aq 3 1 (nP (jz F ls j)))]):=by
 have hl:=ok.hl;have UG:(ah ls).length<=1000000:=aa5 (cn ls ls.length) hl;have hm:=aax (j+1) (show 0<(ah ls).length by omega);obtain⟨u,p,hu,du,hp,pp,gp,xp⟩:=He ok hj;obtain⟨v,q,hv,dv,hq,pq,gq,xq⟩:=He ok hm;unfold gM jz;simp only[du,dv,vU hp,vU hq,Pv hp];have T1:=cD hp;have hqp:=cD hq;have hnu:=cN hu;have WH:=cN hv;have e1:=dq (j+1) (ah ls).length;have w1:=am (n:=j) (by omega);have w2:=fU (a:=(ah ls).length) (by omega) (by omega);have VF: ¬ (((ah ls).length:Int)=0):=by omega
 have hg0:=gp.g0;have hg1:=gp.g1;have hk0:=gq.g0;have TH:=gq.g1;have hr0:=gp.r0;have T8:=gp.r1;have Wi:=gq.r0;have Vz:=gq.r1;have hcg:cg ls p.gate.toNat<=ls.length:=dS _ _;have hcq:cg ls q.gate.toNat<=ls.length:=dS _ _;obtain⟨pg,h1⟩:=aa8 (show 0<=p.gate by omega);obtain⟨pr,h2⟩:=aa8 (show 0<=p.Th by omega);obtain⟨qg,h3⟩:=aa8 (show 0<=q.gate by omega);obtain⟨qr,h4⟩:=aa8 (show 0<=q.Th by omega);have wr:=fU (a:=qr) (by rw[h4] at Wi;omega) (by omega);have T4:S.Tf 144=true:=by kernel_rfl
 have Vv:=fun h=>IV gp gq xp (h:cR ls q=j+1) h1 h2 h3 h4
 have YF:=fun h=>FM gq (h:cR ls q=0) h3 h4
 rw[h1] at hg1 T8 hcg hg0;rw[h2] at T8 hr0;rw[h3] at hk0 TH Vz hcq;rw[h4] at Wi Vz;rw[h1,h2,h3];simp only[abm] at T8 hcg Vz hcq ⊢;refine aG c109 ?_;by_cases Ti:j+1<(ah ls).length
 ·have Tk:(j:Int)<(((ah ls).length - 1:Nat):Int):=by omega
  rw[abF Ti] at xq;obtain⟨n1,n2⟩:=Vv xq;simp only[if_pos Ti];simp only[go_sem,i109,hnu,WH,T1,hqp,ae.ps,w1,e1,w2,wr,Tk,VF,h1,h2,h3,h4,T4];refine⟨au,?_⟩;refine fg (P:=sQ pg pr qg [] [] 9216128192 9216256256 _) da (lW (g:=pg) (r:=pr) (T:=qg) (t:=qr - 1) (c1:= .p .nils) (c2:= .p .nils) AA (AA _ rfl) (AA _ rfl) n1 n2 (by omega) (aah _) (aah _) (by decide) (by decide) (by decide) grown.nil grown.nil) ?_;rintro v Td ⟨c1,c2,j2,rfl,g1,g2,Wh,TL⟩
  have Wh:j2=9216256256:=by rcases Wh with h|h<;>exact h
  subst Wh;simp only[go_sem];exact km (by decide) g1 g2
 ·have Tk: ¬ (j:Int)<(((ah ls).length - 1:Nat):Int):=by omega
  have hjm:(j+1)%(ah ls).length=0:=by rw[show j+1=(ah ls).length by omega,Nat.mod_self]
  rw[hjm] at xq;have n2:=YF xq;simp only[if_neg Ti];have aa1: ∃ t:Nat,t=(if F=pg then pr else 0):=⟨_,rfl⟩;obtain⟨t,ht⟩:=aa1;have fin: ∀ (env:Env) (Tc:aB) (c1 c2:C),True:=fun _ _ _ _=>trivial
  have ini:(((pg:Int)==(F:Int))=true/\t=pr/\F=pg)\/(((pg:Int)==(F:Int))=false/\t=0):=by
   by_cases h:F=pg
   ·subst h;rw[if_pos rfl] at ht;exact .inl ⟨by simp,ht,rfl⟩
   ·rw[if_neg h] at ht;exact .inr ⟨by simp;omega,ht⟩
  rcases ini with ⟨hb,ht2,hFp⟩|⟨hb,ht2⟩
  ·subst hFp;simp only[go_sem,i109,hnu,WH,T1,hqp,ae.ps,w1,e1,w2,wr,Tk,VF,h1,h2,h3,h4,T4,hb];refine⟨au,?_⟩;refine⟨au,?_⟩;refine fg (P:=sQ F pr F [] [] 9216128192 9216256256 _) da (lW (g:=F) (r:=pr) (T:=F) (t:=pr) (c1:= .p .nils) (c2:= .p .nils) AA (AA _ rfl) (AA _ rfl) (by omega) (by rw[if_pos rfl]) (by omega) (aah _) (aah _) (by decide) (by decide) (by decide) grown.nil grown.nil) ?_;rintro v Tq ⟨c1,c2,j2,rfl,g1,g2,Wh,TL⟩
   have Wh:j2=9216256256:=by rcases Wh with h|h<;>exact h
   subst Wh;rw[abK] at g1 g2;have hA:=TL 6976256384 (by decide);simp only[go_sem] at hA;simp only[go_sem,hA,T4];refine fg (P:=sQ 0 0 qg (fv (fG F pr F)) (nP (iu F F)) 9216320192 9216256256 _) da (lW (g:=0) (r:=0) (T:=qg) (t:=qr - 1) (c1:=c1) (c2:=c2) AA (AA _ rfl) (AA _ rfl) (aah _) (by rw[n2];split<;>rfl) (by omega) (by simp only[aak,gZ];omega) (by simp only[aak,lv];omega) (by decide) (by decide) (by decide) g1 g2) ?_;rintro v Tp ⟨d1,d2,j3,rfl,k1,k2,hj3,_⟩
   have hj3:j3=9216256256:=by rcases hj3 with h|h<;>exact h
   subst hj3;simp only[go_sem];rw[iw,jC];exact km (by decide) k1 k2
  ·simp only[go_sem,i109,hnu,WH,T1,hqp,ae.ps,w1,e1,w2,wr,Tk,VF,h1,h2,h3,h4,T4,hb];refine⟨au,?_⟩;refine⟨au,?_⟩;refine fg (P:=sQ pg pr F [] [] 9216128192 9216256256 _) da (lW (g:=pg) (r:=pr) (T:=F) (t:=0) (c1:= .p .nils) (c2:= .p .nils) AA (AA _ rfl) (AA _ rfl) (by omega) (by rw[ht2] at ht;exact ht) (by omega) (aah _) (aah _) (by decide) (by decide) (by decide) grown.nil grown.nil) ?_;rintro v Tq ⟨c1,c2,j2,rfl,g1,g2,Wh,TL⟩
   have Wh:j2=9216256256:=by rcases Wh with h|h<;>exact h
   subst Wh;rw[abK] at g1 g2;have hA:=TL 6976256384 (by decide);simp only[go_sem] at hA;simp only[go_sem,hA,T4];refine fg (P:=sQ 0 0 qg (fv (fG pg pr F)) (nP (iu pg F)) 9216320192 9216256256 _) da (lW (g:=0) (r:=0) (T:=qg) (t:=qr - 1) (c1:=c1) (c2:=c2) AA (AA _ rfl) (AA _ rfl) (aah _) (by rw[n2];split<;>rfl) (by omega) (by simp only[aak,gZ];omega) (by simp only[aak,lv];omega) (by decide) (by decide) (by decide) g1 g2) ?_;rintro v Tp ⟨d1,d2,j3,rfl,k1,k2,hj3,_⟩
   have hj3:j3=9216256256:=by rcases hj3 with h|h<;>exact h
   subst hj3;simp only[go_sem];rw[iw,jC];exact km (by decide) k1 k2
end
end Go.Abs
