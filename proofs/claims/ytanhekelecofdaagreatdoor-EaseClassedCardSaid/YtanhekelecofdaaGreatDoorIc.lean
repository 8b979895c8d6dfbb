/- A part. -/
import Derived.Test.YtanhekelecofdaaGreatDoorIb
set_option linter.all false
set_option maxRecDepth 100000
set_option maxHeartbeats 16000000
namespace Go.Abs
def ab6{L:ai}{v:Nat}{l:Let}(h:L[v]?=some l)(hp:l.aF=true):eW L v=dn L v:=by unfold eW;rw[h];show(l.aF&&dn L v)=_;rw[hp];rfl
section
variable {F:Nat} {L X:ai} {P:c_} {f:Nat}
def Sh.aq(S:Sh F P X f)(q:Let->Bool):Go.Abs.aq q X=Go.Abs.aq q (P.map Pc.l):=by
 have hf:=S.hf;have hX:=S.len;have e:X=eU (P.map Pc.l) f:=by
  apply xA;intro k;have hl:(P.map Pc.l).length=P.length:=cU ..;by_cases hk:k<P.length
  .have jv:(f+k)%P.length<P.length:=dk _ aa;obtain⟨p,hp⟩:=aN jv;have:=S.at_ _ p hp;rw[ahv hf hk] at this;rw[this,Lt aa aa,hl,gk,hp];rfl
  rw[nZ aa,nZ (by rw[yG];omega)]
 rw[e,Jo]
def ahO(g:cE F L)(S:Sh F P X f)(hP:P.length=L.length)(AX:∀q:Let->Bool,(∀(l:Let) (r:Int),q {l with aA:=r}=q l)->Go.Abs.aq q (P.map Pc.l)=Go.Abs.aq q L)
  {d p v q w:Nat} (hd:d<2*L.length) (yg:aQ L d<2*L.length) (t1:oT L.length d=p) (t2:oH L.length d=v) (t3:oT L.length (aQ L d)=w) (t4:oH L.length (aQ L d)=q) (wR:p≠q) (Kf:d/2≠aQ L d/2)
  {lp lv lq lw:Let} (ni:L[p]?=some lp) (jD:L[v]?=some lv) (vB:L[q]?=some lq) (zC:L[w]?=some lw) (pp:lp.aF=true) (cv:lv.aD=true) (pq:lq.aF=true) (cw:lw.aD=true) (hid:lw.id=lv.id)
  {e1 e2:Bool} (P1:P[p]?=some ⟨lv,e1⟩) (P2:P[q]?=some ⟨lw,e2⟩) (P3:P[v]?=some ⟨{lp with aA:=lq.aA},eW L p⟩) (P4:P[w]?=some ⟨{lq with aA:=lp.aA},eW L q⟩)
  (hg:lp.gate=lq.gate) (anN:(dn L q=ba (aQ L d)/\lp.aA=lq.aA+1/\ba d= !dn L p)\/(dn L q=(!ba (aQ L d))/\lq.aA=lp.aA+1/\ba d=dn L p)):vM F X 1 [sF L.length f (d/2),sF L.length f (aQ L d/2)]=true:=by
 have hf:=S.hf;have hX:=S.len;rw[hP] at hf hX;have x3:=S.at_ _ _ P3;have x4:=S.at_ _ _ P4;have y3:=S.dn _ _ P3 pp;have y4:=S.dn _ _ P4 pq;rw[hP] at x3 x4 y3 y4;rw[ab6 ni pp] at y3;rw[ab6 vB pq] at y4;have y3:dn X (sF L.length f v)=dn L p:=y3;have y4:dn X (sF L.length f w)=dn L q:=y4;have gP:=g.ok.ax.fq lp (aZ ni) pp;have gQ:=g.ok.ax.fq lq (aZ vB) pq;have Ht:∀k,fp X k=fp L k:=fun k=>by unfold fp;congr 1;refine Ai fun z _=>?_;show Go.Abs.aq (mD z) X=Go.Abs.aq (mD z) L;rw[S.aq,AX _ fun l r=>rfl]
 have iC:(aI X).length=(aI L).length:=by rw[Db,Db];show Go.Abs.aq Let.aF X=Go.Abs.aq Let.aF L;rw[S.aq,AX _ fun l r=>rfl]
 have pl3:dD X {lp with aA:=lq.aA}=dD L lq:=by unfold dD;show fp X lp.gate.toNat+lq.aA.toNat-1=_;rw[Ht,hg]
 have pl4:dD X {lq with aA:=lp.aA}=dD L lp:=by unfold dD;show fp X lq.gate.toNat+lp.aA.toNat-1=_;rw[Ht,hg]
 have a3:=Je S.g.ok.ax x3 pp;have a4:=Je S.g.ok.ax x4 pq;have i4:=EX S.g.ok.ax x4 pq;rw[pl3] at a3;rw[pl4] at a4 i4;have k3:=(aW.1 a3).1;have k4:=(aW.1 a4).1;have g3:(aI X).getD (dD L lq) 0=sF L.length f v:=by rw[dK,a3];rfl
 have g4:(aI X).getD (dD L lp) 0=sF L.length f w:=by rw[dK,a4];rfl
 have n1:aQ X (kM L.length f d)=kM L.length f (aQ L d):=S.aiv g hP hd (by rw[t2];exact jD) cv (by rw[t1];exact P1) (by rw[t4];exact P2) cw hid (by rw[t1,t4];exact wR);have n2:=Gf x4 pq (!ba (aQ L d));rw[hX,y4,i4,<- t3,<- aa6 hf yg] at n2;have n3:=aa5 hf hd;rw[t2] at n3;have hD:=Wl (d:=d) hf;have hD':=Wl (d:=aQ L d) hf;have hdiv:=GI L.length f d;have adM:=GI L.length f (aQ L d);have aK:sF L.length f (d/2)≠sF L.length f (aQ L d/2):=fun e=>Kf (Bm hf aa aa e);obtain⟨l1,l2,l3,l4⟩:=gP;obtain⟨m1,m2,m3,m4⟩:=gQ;have finish:∀x,2*L.length<=x->x<nD X->aQ X (kM L.length f (aQ L d))=x->aQ X x=kM L.length f d->u4 F X x=1->vM F X 1 [sF L.length f (d/2),sF L.length f (aQ L d/2)]=true:=by
  intro x tz yv q1 q2 q3;rw[<- hdiv,<- adM];rw[<- hdiv,<- adM] at aK;have z1:u4 F X (kM L.length f d)=0:=aG aa;have z2:u4 F X (kM L.length f (aQ L d))=0:=aG aa;have hJ:kM L.length f d<nD X:=by unfold nD;omega
  have lM:kM L.length f (aQ L d)<nD X:=by unfold nD;omega
  generalize kM L.length f d=r at*;generalize kM L.length f (aQ L d)=t at*;have Oa:([r,t,x].filter fun x=>decide (x<2*X.length))=[r,t]:=by rw[List.filter_cons_of_pos (by rw[l9];omega),List.filter_cons_of_pos (by rw[l9];omega),VI (by rw[l9];omega)];rfl
  refine agy S.g aa aa aa hJ lM yv n1 q1 q2 (by rw[Oa];rfl) (by rw[z1,z2,q3]) fun e he=>?_;rw[Oa];simp only[ch,eL,or_false] at he |-;omega
 have wt:∀k x u u',k+1<(aI X).length->(x=2*L.length+2*k\/x=2*L.length+2*k+1)->(aI X).getD k 0=u->(aI X).getD (k+1) 0=u'->gN X u=gN X u'->u4 F X x=1:=by intro k x u u' hk hx hu KH he;unfold u4;rw[aC aa,hX,show(x-2*L.length)/2=k by omega];unfold qX;simp only;rw[aG hk,Bn,fX hk,hu,KH,he];omega
 have gg:gN X (sF L.length f v)=gN X (sF L.length f w):=by rw[AQ x3,AQ x4];show lp.gate.toNat=lq.gate.toNat;rw[hg]
 rcases anN with ⟨c1,c2,c3⟩|⟨c1,c2,c3⟩
 .have hk:dD L lp=dD L lq+1:=by
   unfold dD;rw[hg];omega
  rw[hk] at g4 k4 n2;rw[c1,aC (by cases ba (aQ L d)<;>decide),show dD L lq+1+(aI X).length-1=dD L lq+(aI X).length by omega,n9,fX k3] at n2;refine finish _ aa (by unfold nD;omega) n2 ?_ (wt _ _ _ _ k4 (.inr rfl) g3 g4 gg);have:=Ez (ls:=X) (dD L lq);rw[hX,g3,y3] at this;rw[this,n3,c3];cases dn L p<;>rfl
 have hk:dD L lq=dD L lp+1:=by unfold dD;rw[hg];omega
 rw[hk] at g3 k3;rw[c1,aG (by cases ba (aQ L d)<;>decide)] at n2;refine finish _ aa (by unfold nD;omega) n2 ?_ (wt _ _ _ _ k3 (.inl rfl) g4 g3 gg.symm);have:=EA (ls:=X) (dD L lp);rw[hX,fX k3,g3,y3] at this;rw[this,n3,c3]
end
section
variable {F:Nat} {L X:ai} {P:c_} {f:Nat}
def ahN(g:cE F L){wk:a_}(hw:wk∈gO (aQ L) (nD L))(lX:(mf F L wk).places.length=1){d:Nat}(yg:aQ L d<2*L.length)(hm:aQ L d∈wk)(two:∀y,y∈wk->y<2*L.length->y=d\/y=aQ L d)
  {p q w:Nat} (t1:oT L.length d=p) (t3:oT L.length (aQ L d)=w) (t4:oH L.length (aQ L d)=q) {lp lq lw:Let} (ni:L[p]?=some lp) (vB:L[q]?=some lq) (zC:L[w]?=some lw) (pq:lq.aF=true) (cw:lw.aD=true):
  lp.gate=lq.gate/\((dn L q=ba (aQ L d)/\lp.aA=lq.aA+1/\ba d= !dn L p)\/(dn L q=(!ba (aQ L d))/\lq.aA=lp.aA+1/\ba d=dn L p)):=by
 obtain⟨u,m,y,y1,y2,y3,y4,y5⟩:=Uw g hw lX hm (v:=q) (fw:=ba (aQ L d)) (by rw[<- t4];exact Dq yg) vB pq;have hu:=(aW.1 y2).1;have al:∀h,oT L.length (dB L.length u h)=u/\dB L.length u h<2*L.length/\ba (dB L.length u h)=h:=fun h=>⟨(GS hu).1,by
  have:=xM hu (!h);rw[<- zV] at this;have:=zW this;rwa[zX] at this,(GS hu).2⟩
 have vF:oT L.length y=u/\y<2*L.length:=by
  rcases y5 with ⟨_,_,e⟩|⟨_,_,e⟩<;>rw[e]
  .exact⟨(al _).1,(al _).2.1⟩
  exact⟨(al _).1,(al _).2.1⟩
 have hyd:y=d:=by
  rcases two y y1 vF.2 with e|e
  .exact e
  exfalso;rw[e,t3] at vF;rw[<- vF.1,zC] at y2;have:=pz y2;rw[<- this,nj cw] at y3;cases y3
 rw[hyd,t1] at vF;have e:=vF.1;subst e;rw[ni] at y2;cases y2;refine⟨y4.symm,?_⟩;rcases y5 with ⟨h1,h2,h3⟩|⟨h1,h2,h3⟩
 .exact .inl ⟨h1,h2,by rw[<- hyd,h3];exact(al _).2.2⟩
 exact .inr ⟨h1,h2,by rw[<- hyd,h3];exact(al _).2.2⟩
def wB.two{e p v:Nat}(h:wB L e p v){Q:Nat->Nat->Prop}(hs:∀x y,Q x y->Q y x):Q e (nx L e)↔Q p v:=by
 rcases h.1 with ⟨rfl,rfl⟩|⟨rfl,rfl⟩
 .exact Iff.rfl
 exact⟨hs _ _,hs _ _⟩
def at2(g:cE F L){a b:Nat}(dU:a<b)(hb:b<L.length){P:c_}(h:nI F L a b=some P)(vX:cX (F:Int) (dT P)=0):∃a' b' Q,a'<b'/\b'<(dT P).length/\nI F (dT P) a' b'=some Q/\lI (dT Q) L:=by
 have ha:a<L.length:=aa;have aK:a≠b:=aa;have cP:=Jm g ha hb aK h;obtain⟨p,v,q,w,c,rfl⟩:=Mi g ha hb h;have dj:=c.dj g ha hb aK;have wR:=c.pq g ha hb aK;obtain⟨hp,hv⟩:=c.ea.lt ha;obtain⟨hq,hw⟩:=c.eb.lt hb;have bd:=bk L;obtain⟨lp,ni⟩:=aN hp;obtain⟨lv,jD⟩:=aN hv;obtain⟨lq,vB⟩:=aN hq;obtain⟨lw,zC⟩:=aN hw;have kP:∀ {l:Let},l.kind=1->l.aF=true:=fun h=>by unfold Let.aF;rw[h];rfl
 have kC:∀ {l:Let},l.kind=2->l.aD=true:=fun h=>by unfold Let.aD;rw[h];rfl
 have pp:lp.aF=true:=kP (by rw[<- iL ni];exact c.ea.2.1);have pq:lq.aF=true:=kP (by rw[<- iL vB];exact c.eb.2.1);have cv:lv.aD=true:=kC (by rw[<- iL jD];exact c.ea.2.2);have cw:lw.aD=true:=kC (by rw[<- iL zC];exact c.eb.2.2);have hid:lv.id=lw.id:=by rw[<- iL jD,<- iL zC];exact c.id
 have Cc:=c.vw;have pv:=KQ c.ea.2.1 c.ea.2.2;have pw:=KQ c.ea.2.1 c.eb.2.2;have qv:=KQ c.eb.2.1 c.ea.2.2;have qw:=KQ c.eb.2.1 c.eb.2.2;rw[iL vB,iL ni] at cP vX |-;have gG:∀e∈[a,b],e<L.length:=fun e he=>by simp only[ch,eL,or_false] at he;rcases he with rfl|rfl<;>assumption
 have djl:[a,b].Pairwise (rW L):=by simp only[mB,ch,eL,or_false,false_imp_iff,implies_true,and_true,forall_eq,List.Pairwise.nil];exact dj
 have tv:∀e∈[a,b],e≠nx L e:=fun e he=>Bg g (gG e he)
 -- what stands where
 have swx:∀ {Z:c_},Z.length=L.length->(dC L Z [a,b])[p]?=Z[v]? /\(dC L Z [a,b])[v]?=Z[p]? /\(dC L Z [a,b])[q]?=Z[w]? /\(dC L Z [a,b])[w]?=Z[q]? /\ ∀x,x≠p->x≠v->x≠q->x≠w->(dC L Z [a,b])[x]?=Z[x]? :=fun {Z} hZ=>by
  obtain⟨k1,k2⟩:=Pq hZ gG djl tv;have ka:=(c.ea.two (Q:=fun x y=>(dC L Z [a,b])[x]?=Z[y]? /\(dC L Z [a,b])[y]?=Z[x]?) fun _ _ h=>⟨h.2,h.1⟩).1 (k1 a af);have kb:=(c.eb.two (Q:=fun x y=>(dC L Z [a,b])[x]?=Z[y]? /\(dC L Z [a,b])[y]?=Z[x]?) fun _ _ h=>⟨h.2,h.1⟩).1 (k1 b af);refine⟨ka.1,ka.2,kb.1,kb.2,fun x n1 n2 n3 n4=>k2 x fun e he=>?_⟩;simp only[ch,eL,or_false] at he;rcases he with rfl|rfl
  .exact(c.ea.two (Q:=fun y z=>x≠y/\x≠z) fun _ _ h=>⟨h.2,h.1⟩).2 ⟨n1,n2⟩
  exact(c.eb.two (Q:=fun y z=>x≠y/\x≠z) fun _ _ h=>⟨h.2,h.1⟩).2 ⟨n3,n4⟩
 have hzp:=jm ni;have hzq:(dx (pieces L) p lq.aA)[q]?=some ⟨lq,eW L q⟩:=by rw[qx hzp,aC (Ne.symm wR)];exact jm vB
 have zg:∀x,(dx (dx (pieces L) p lq.aA) q lp.aA)[x]?=if x=q then some ⟨{lq with aA:=lp.aA},eW L q⟩ else if x=p then some ⟨{lp with aA:=lq.aA},eW L p⟩ else (pieces L)[x]? :=fun x=>by rw[qx hzq,qx hzp]
 have Hk:(dx (dx (pieces L) p lq.aA) q lp.aA).length=L.length:=by rw[nv,nv,bd]
 obtain⟨P1,P3,P2,P4,P5⟩:=swx Hk;rw[zg,aC (Ne.symm qv),aC (Ne.symm pv),jm jD] at P1;rw[zg,aC wR,aG rfl] at P3;rw[zg,aC (Ne.symm qw),aC (Ne.symm pw),jm zC] at P2;rw[zg,aG rfl] at P4;have P5:∀x,x≠p->x≠v->x≠q->x≠w->(dC L (dx (dx (pieces L) p lq.aA) q lp.aA) [a,b])[x]?=(pieces L)[x]? :=fun x n1 n2 n3 n4=>by rw[P5 x n1 n2 n3 n4,zg,aC n3,aC n1]
 have hP:(dC L (dx (dx (pieces L) p lq.aA) q lp.aA) [a,b]).length=L.length:=by rw[qy,Hk]
 have AX:∀q':Let->Bool,(∀(l:Let) (r:Int),q' {l with aA:=r}=q' l)->aq q' ((dC L (dx (dx (pieces L) p lq.aA) q lp.aA) [a,b]).map Pc.l)=aq q' L:=fun q' rH=>by rw[<- Lg (ls:=L) q'];show List.countP _ _=List.countP _ _;rw[vZ,vZ];show(eN L (eN L (dx (dx (pieces L) p lq.aA) q lp.aA) a) b).countP _=_;rw[Eu (by rw[tJ,Hk]) hb (Bg g hb),Eu Hk ha (Bg g ha),Iv hzq (fun p=>rH _ _),Iv hzp (fun p=>rH _ _)]
 have X2:∀z∈dC L (dx (dx (pieces L) p lq.aA) q lp.aA) [a,b],z.l.aF=false->z.d=false:=fun z hz h=>by
  have hz:=aie Hk gG hz;obtain⟨x,hx⟩:=ia hz;rw[zg] at hx;split at hx
  .cases hx;have:lq.aF=false:=h;rw[pq] at this;cases this
  split at hx
  .cases hx;have:lp.aF=false:=h;rw[pp] at this;cases this
  exact agM (aZ hx) h
 obtain⟨f,S⟩:=Xd cP vX;generalize dC L (dx (dx (pieces L) p lq.aA) q lp.aA) [a,b]=P at*;generalize dT P=X at*;have hf:=S.hf;have hX:=S.len;rw[hP] at hf hX
 -- the face
 have face:vM F X 1 [sF L.length f a,sF L.length f b]=true:=by
  obtain⟨wk,hwk,lX,d,d1,d2,d3,d4,two,cs⟩:=ZE g ha hb aK c.ea.1 c.eb.1 jD zC ni vB cv cw pp pq hid Cc c.cor;rcases cs with ⟨e1,e2,t1,t2,t3,t4⟩|⟨e1,e2,t1,t2,t3,t4⟩
  .obtain⟨hg,hc⟩:=ahN g hwk lX d4 d3 two t1 t3 t4 ni vB zC pq cw;have:=ahO g S hP AX d2 d4 t1 t2 t3 t4 wR aa ni jD vB zC pp cv pq cw hid.symm P1 P2 P3 P4 hg hc;rwa[e1,e2] at this
  obtain⟨hg,hc⟩:=ahN g hwk lX d4 d3 two t1 t3 t4 vB ni jD pp cv;have:=ahO g S hP AX d2 d4 t1 t2 t3 t4 wR.symm aa vB zC ni jD pq cw pp cv hid P2 P1 P4 P3 hg hc;rw[e1,e2] at this;rw[Lb (List.Perm.swap _ _ [])];exact this
 have x1:=S.at_ _ _ P1;have x2:=S.at_ _ _ P2;have x3:=S.at_ _ _ P3;have x4:=S.at_ _ _ P4;rw[hP] at x1 x2 x3 x4;have kp:lp.kind=1:=by rw[<- iL ni];exact c.ea.2.1
 have kq:lq.kind=1:=by rw[<- iL vB];exact c.eb.2.1
 have kv:lv.kind=2:=by rw[<- iL jD];exact c.ea.2.2
 have kw:lw.kind=2:=by rw[<- iL zC];exact c.eb.2.2
 have ed:∀ {e p v:Nat},e<L.length->wB L e p v->(bJ X (sF L.length f v)).kind=1->(bJ X (sF L.length f p)).kind=2->wB X (sF L.length f e) (sF L.length f v) (sF L.length f p):=by
  intro e p v he h h1 h2;refine⟨?_,h1,h2⟩;rw[S.nx hP he];rcases h.1 with ⟨rfl,rfl⟩|⟨rfl,rfl⟩
  .exact .inr ⟨rfl,rfl⟩
  exact .inl ⟨rfl,rfl⟩
 have C':C3 F X (sF L.length f a) (sF L.length f b) (sF L.length f v) (sF L.length f p) (sF L.length f w) (sF L.length f q):=by refine⟨ed ha c.ea (by rw[iL x3];exact kp) (by rw[iL x1];exact kv),ed hb c.eb (by rw[iL x4];exact kq) (by rw[iL x2];exact kw),fun e=>wR (Bm hf hp hq e),by rw[iL x1,iL x2];exact hid,?_⟩;rw[BC (e0:=sF L.length f a) rfl (by rw[hX];exact zY hf)];exact face
 have la:sF L.length f a<X.length:=by rw[hX];exact zY hf
 have lb:sF L.length f b<X.length:=by rw[hX];exact zY hf
 have BY:sF L.length f a≠sF L.length f b:=fun e=>aK (Bm hf ha hb e);have Jx:=C'.dj S.g la lb BY;have vw':=C'.pq S.g la lb BY;have AU:=bk X;have r1:(bJ X (sF L.length f w)).aA=lp.aA:=by rw[iL x4]
 have r2:(bJ X (sF L.length f v)).aA=lq.aA:=by rw[iL x3]
 -- pieces of the way back
 have hPv:P[v]?=some ⟨{lp with aA:=lq.aA},eW L p⟩:=P3;have hPw:(dx P v lp.aA)[w]?=some ⟨{lq with aA:=lp.aA},eW L q⟩:=by rw[qx hPv,aC (Ne.symm Cc)];exact P4
 have Cx:=fun {x:Nat} (hx:x<L.length)=>S.Cx hP X2 hx;have hYv:(pieces X)[sF L.length f v]?=some ⟨{lp with aA:=lq.aA},eW L p⟩:=(Cx hv).trans P3;have hYw:(dx (pieces X) (sF L.length f v) lp.aA)[sF L.length f w]?=some ⟨{lq with aA:=lp.aA},eW L q⟩:=by rw[qx hYv,aC (Ne.symm vw')];exact(Cx hw).trans P4
 have hYZ:∀x,x<L.length->(dx (dx (pieces X) (sF L.length f v) lp.aA) (sF L.length f w) lq.aA)[sF L.length f x]?=(dx (dx P v lp.aA) w lq.aA)[x]? :=fun x hx=>by
  rw[qx hYw,qx hPw,qx hYv,qx hPv];by_cases c1:x=w
  .subst c1;rw[aG rfl,aG rfl]
  rw[aC c1,aC fun k=>c1 (Bm hf hx hw k)];by_cases c2:x=v
  .subst c2;rw[aG rfl,aG rfl]
  rw[aC c2,aC fun k=>c2 (Bm hf hx hv k),Cx hx]
 have hZ2:(dx (dx P v lp.aA) w lq.aA).length=L.length:=by rw[nv,nv,hP]
 have back:dC L (dx (dx P v lp.aA) w lq.aA) [a,b]=pieces L:=by
  obtain⟨b1,b2,b3,b4,b5⟩:=swx hZ2;have zz:∀x,(dx (dx P v lp.aA) w lq.aA)[x]?=if x=w then some ⟨lq,eW L q⟩ else if x=v then some ⟨lp,eW L p⟩ else P[x]? :=fun x=>by rw[qx hPw,qx hPv]
  rw[zz,aC Cc,aG rfl] at b1;rw[zz,aC pw,aC pv,P1] at b2;rw[zz,aG rfl] at b3;rw[zz,aC qw,aC qv,P2] at b4;apply xA;intro x;by_cases c1:x=p
  .subst c1;rw[b1,jm ni]
  by_cases c2:x=v
  .subst c2;rw[b2,jm jD]
  by_cases c3:x=q
  .subst c3;rw[b3,jm vB]
  by_cases c4:x=w
  .subst c4;rw[b4,jm zC]
  rw[b5 x c1 c2 c3 c4,zz,aC c4,aC c2,P5 x c1 c2 c3 c4]
 have done:∀a' b' Y,a'<b'->b'<X.length->nI F X a' b'=some Y->Y=dC X (dx (dx (pieces X) (sF L.length f v) lp.aA) (sF L.length f w) lq.aA) ([a,b].map (sF L.length f))->∃a' b' Q,a'<b'/\b'<X.length/\nI F X a' b'=some Q/\lI (dT Q) L:=fun a' b' Y h1 h2 h3 h4=>by
  refine⟨a',b',Y,h1,h2,h3,?_⟩;have cY:=Jm S.g (a:=a') (b:=b') aa h2 aa h3;have hYl:(dx (dx (pieces X) (sF L.length f v) lp.aA) (sF L.length f w) lq.aA).length=L.length:=by rw[nv,nv,AU,hX]
  refine S.back g hP cY (by rw[h4,qy,hYl]) fun x hx=>?_;rw[h4,S.sw hP hYl hZ2 gG hYZ x hx,back]
 by_cases aB:sF L.length f a<sF L.length f b
 .refine done _ _ _ aB lb C'.as ?_;rw[r1,r2];rfl
 refine done _ _ _ (show sF L.length f b<sF L.length f a by omega) la (C'.symm la lb).as ?_;rw[r1,r2,ahG (X:=pieces X) (p:=sF L.length f w) (q:=sF L.length f v) (by rw[AU,hX];exact zY hf) (by rw[AU,hX];exact zY hf) (Ne.symm vw')];refine Vp (List.Perm.swap _ _ []) (by rw[nv,nv,AU]) (fun e he=>?_) ?_
 .simp only[ch,eL,or_false] at he;rcases he with rfl|rfl<;>assumption
 simp only[mB,ch,eL,or_false,false_imp_iff,implies_true,and_true,forall_eq,List.Pairwise.nil];exact⟨Jx.1.symm,Jx.2.2.1.symm,Jx.2.1.symm,Jx.2.2.2.symm⟩
def afT(g:cE F L){m:aV}{X:ai}(hk:m.k=3\/m.k=8)(h:fi F L m=some X):∃m' Z,m'.k=m.k/\fi F X m'=some Z/\lI Z L:=by
 obtain⟨k,a,b,c,l,o,sg⟩:=m;have hk:k=3\/k=8:=hk;obtain⟨hX,hA,P,hP,rfl⟩:=By g (show k5 k by unfold k5;omega) h;simp only at hA hP;have gX:cE F (dT P):=by
  have aK:dT P≠[]:=fun e=>by
   have hc:∃z,dT P=z/\z.length=P.length:=⟨_,rfl,by rw[Tw]⟩;have DA:P.length=0:=by obtain⟨z,e1,e2⟩:=hc;rw[<- e2,<- e1,e];rfl
   have hl:P.length=L.length:=by
    rcases hk with rfl|rfl
    .obtain⟨av,bv,dU,hb,rfl,rfl,rfl,rfl,rfl,rfl⟩:=(EW (.inl rfl)).1 hA;obtain⟨p,v,q,w,_,e⟩:=Mi g (a:=av) (b:=bv) aa hb hP;rw[e,qy,nv,nv,bk]
    obtain⟨av,bv,cv,dU,wJ,hc,rfl,rfl,rfl,rfl,rfl,rfl⟩:=GD.1 hA;have hP:mR F L av bv cv=some P:=hP;unfold mR at hP;split at hP
    .cases hP;rw[qy,bk]
    cases hP
   exact g.ne (List.eq_nil_of_length_eq_zero aa)
  obtain⟨G,e1,g'⟩:=pM hX aK;have:F=G:=aa;subst this;exact g'
 have mk:∀(m:aV) (Q:c_),k5 m.k->dr F (dT P) m.k m.a m.b m.c m.l m.o m.s=true->qU F (dT P) m.k m.a.toNat m.b.toNat m.c.toNat m.l m.o m.s=some Q->fi F (dT P) m=some (dT Q):=fun m Q hk hA hP=>by rw[Wc gX hk,aG hA,hP];rfl
 rcases hk with rfl|rfl
 .obtain⟨av,bv,dU,hb,rfl,rfl,rfl,rfl,rfl,rfl⟩:=(EW (.inl rfl)).1 hA;obtain⟨a',b',Q,h1,h2,h3,h4⟩:=at2 g dU hb hP hX;exact⟨mv2 3 a' b',_,rfl,mk (mv2 3 a' b') Q (.inr (.inl rfl)) ((EW (.inl rfl)).2 ⟨a',b',h1,h2,rfl,rfl,rfl,rfl,rfl,rfl⟩) h3,h4⟩
 obtain⟨av,bv,cv,dU,wJ,hc,rfl,rfl,rfl,rfl,rfl,rfl⟩:=GD.1 hA;obtain⟨a',b',c',Q,h1,h2,h3,h4,h5⟩:=au3 g dU wJ hc hP hX;exact⟨mv3 8 a' b' c',_,rfl,mk (mv3 8 a' b' c') Q (.inr (.inr (.inr (.inr rfl)))) (GD.2 ⟨a',b',c',h1,h2,h3,rfl,rfl,rfl,rfl,rfl,rfl⟩) h4,h5⟩
end
section
variable {F limit:Nat}
def Ur{L:ai}(h:cX (F:Int) L=0){m:aV}{X:ai}(hk:m.k=3\/m.k=8)(hm:fi F L m=some X):cE F L:=by
 by_cases aK:L=[]
 .subst aK;unfold fi at hm;rw[aG rfl] at hm;split at hm
  .rename_i hA;obtain⟨bv,k1,_⟩:=aaN hA;omega
  cases hm
 obtain⟨G,e,g⟩:=pM h aK;have:F=G:=aa;subst this;exact g
def afS{L:ai}(g:cE F L){m:aV}{X:ai}(hk:m.k=3\/m.k=8)(hm:fi F L m=some X):cE F X:=by have hX:=(By g (by unfold k5;omega) hm).1;obtain⟨m',Z,lL,hZ,_⟩:=afT g hk hm;exact Ur hX (by rw[lL];exact hk) hZ
def clT(F:Nat)(T:x_):Prop:=∀(A X:ai) (m:aV),cX (F:Int) A=0->dd A∈T->m∈jl F A->fi F A m=some X->dd X∈T
def ark{T:x_}(hT:clT F T):∀ {w:h_} {L K:ai},cX (F:Int) L=0->rO F L w=some K->(∀x∈w,x.k∈zO)->dd L∈T->dd K∈T:=by
 intro w
 induction w with
 |nil=>intro L K _ h _ hL;cases h;exact hL
 |cons m r ih=>
  intro L K hc h hk hL;have h:(match fi F L m with|none=>none|some K=>rO F K r)=some K:=h;have hm:m.k=3\/m.k=8:=by simpa using hk m af
  cases ha:fi F L m with
  |none=>rw[ha] at h;cases h
  |some X=>rw[ha] at h;have g:=Ur hc hm ha;exact ih (By g (by unfold k5;omega) ha).1 h (fun x hx=>hk x (by simp[hx])) (hT L X m hc hL (YO g hm ha) ha)
def arf{T:x_}(hT:clT F T):∀ {w:h_} {L K:ai},cX (F:Int) L=0->rO F L w=some K->(∀x∈w,x.k∈zO)->dd K∈T->dd L∈T:=by
 intro w
 induction w with
 |nil=>intro L K _ h _ hL;cases h;exact hL
 |cons m r ih=>
  intro L K hc h hk hK;have h:(match fi F L m with|none=>none|some K=>rO F K r)=some K:=h;have hm:m.k=3\/m.k=8:=by simpa using hk m af
  cases ha:fi F L m with
  |none=>rw[ha] at h;cases h
  |some X=>
   rw[ha] at h;have g:=Ur hc hm ha;have hX:=(By g (by unfold k5;omega) ha).1;have gX:=afS g hm ha;have h1:=ih hX h (fun x hx=>hk x (by simp[hx])) hK;obtain⟨m',Z,lL,hZ,hf⟩:=afT g hm ha;have iS:m'.k=3\/m'.k=8:=by rw[lL];exact hm
   have h2:=hT X Z m' hX h1 (YO gX iS hZ) hZ;rw[W4 g hf.symm];exact h2
def aiM{sb:Bool}(jM:1<=limit){L0:ai}(dV:∀x∈(gK sb F limit L0).2,uw F L0 (gK sb F limit L0).2.length x)(hw:(gK sb F limit L0).1=0):clT F ((gK sb F limit L0).2.map bj.n):=by
 have closed:=ak5 jM dV hw;intro A X m hA hAT hm hX;obtain⟨x,hx,ex⟩:=cV.1 hAT;have gx:=dV x hx;obtain⟨hk,gA,_⟩:=YN hA hm;have es:dd A=dd x.c:=by rw[<- ex,gx.sB]
 have gxf:=amI gA gx.chk es;obtain⟨m',Y,lL,hY,hf⟩:=as6 gA gxf es hk hX;obtain⟨y,hy,ey⟩:=closed x hx m' (YO gxf (by rw[lL];exact hk) hY);rw[hY] at ey;have hYX:dd X=dd Y:=W4 (afS gA hk hX) hf.symm;rw[hYX];exact cV.2 ⟨y,hy,ey⟩
def agn{X:ai}(hX:cX (F:Int) X=0):dd (dd X)=dd X:=by
 by_cases hX0:X=[]
 .subst hX0;rfl
 obtain⟨G,_,g⟩:=pM hX hX0;have:F=G:=aa;subst this;have tv:dd X≠[]:=fun e2=>by have:=agp g;rw[e2] at this;exact hX0 (Gj.1 this.symm)
 obtain⟨G',_,g'⟩:=pM (yC g.chk) tv;have:F=G':=aa;subst this;exact W4 g' (acB g.even g.sB.2.1)
def akY(cK:sP)(jM:1<=limit)(oG:limit<=20000){L0:ai}(h0:cX (F:Int) L0=0)(hw:(gK false F limit L0).1=0){y:bj}(hy:y∈(gK false F limit L0).2):(gK false F limit y.n).1=0/\((gK false F limit y.n).2.map bj.n).Nodup/\ ∀a,a∈(gK false F limit y.n).2.map bj.n↔a∈(gK false F limit L0).2.map bj.n:=by
 obtain⟨aK,dV⟩:=Mz cK jM oG h0;have hc:=aiM (sb:=false) jM dV hw;have gy:=dV y hy;have hv:cX (F:Int) y.n=0:=by rw[gy.sB];exact yC gy.chk
 have hi:dd y.n=y.n:=by rw[gy.sB];exact agn gy.chk
 have hT:ShT false F limit ((gK false F limit L0).2.map bj.n):=⟨hc,(fun h=>by cases h),by rw[cU];exact Qj jM⟩;have jC:CU F ((gK false F limit L0).2.map bj.n) [⟨y.n,dd y.n,[]⟩]:=⟨fun x hx=>by rw[lQ.1 hx];exact⟨hv,rfl,by show dd y.n∈_;rw[hi];exact cV.2 ⟨y,hy,rfl⟩⟩,af⟩
 obtain⟨w1,w2⟩:=akl hT (limit+1) 0 _ jC;have w1:(gK false F limit y.n).1=0:=w1;have w2:CU F ((gK false F limit L0).2.map bj.n) (gK false F limit y.n).2:=w2;obtain⟨BY,anD⟩:=Mz cK jM oG hv;have iz:=aiM (sb:=false) jM anD w1;obtain⟨t,ht⟩:=aa4 (sb:=false) (F:=F) (limit:=limit) (limit+1) 0 [⟨y.n,dd y.n,[]⟩];have ht:(gK false F limit y.n).2=[⟨y.n,dd y.n,[]⟩]++t:=ht;have hyT:dd y.n∈(gK false F limit y.n).2.map bj.n:=by rw[ht];simp
 have hL0:dd L0∈(gK false F limit y.n).2.map bj.n:=arf iz h0 gy.rep gy.kind (by rw[gy.sB.symm.trans hi.symm];exact hyT);refine⟨w1,w2.nd,fun a=>⟨fun h=>?_,fun h=>?_⟩⟩
 .obtain⟨x,hx,rfl⟩:=cV.1 h;exact(w2.mem x hx).2.2
 obtain⟨x,hx,rfl⟩:=cV.1 h;have gx:=dV x hx;rw[gx.sB];exact ark iz h0 gx.rep gx.kind hL0
end
section
variable {F limit:Nat} {L:ai}
def aif(g:cE F L)(q:Pc->Bool):∀ {es:a_} {Z:c_},Z.length=L.length->(∀e∈es,e<L.length)->(dC L Z es).countP q=Z.countP q:=by
 intro es
 induction es with
 |nil=>intro Z _ _;rfl
 |cons e es ih=>intro Z hZ he;have dy:=he e af;exact(ih (Z:=eN L Z e) (by rw[tJ,hZ]) fun x h=>he x (by simp[h])).trans (Eu hZ dy (Bg g dy) q)
def aqd(g:cE F L){m:aV}{X:ai}(hk:m.k=3\/m.k=8)(h:fi F L m=some X){q:Let->Bool}(hq:∀(l:Let) (r:Int),q {l with aA:=r}=q l):aq q X=aq q L:=by
 obtain⟨k,a,b,c,l,o,sg⟩:=m;have hk:k=3\/k=8:=hk;obtain⟨hX,hA,P,hP,rfl⟩:=By g (show k5 k by unfold k5;omega) h;simp only at hA hP;have bd:=bk L;have key:aq q (P.map Pc.l)=aq q L/\Cert F P:=by
  have e0:aq q (P.map Pc.l)=P.countP (q ∘ Pc.l):=vZ ..;have e1:aq q L=(pieces L).countP (q ∘ Pc.l):=by rw[<- Lg (ls:=L) q];exact vZ ..
  rw[e0,e1];rcases hk with rfl|rfl
  .obtain⟨av,bv,dU,hb,rfl,rfl,rfl,rfl,rfl,rfl⟩:=(EW (.inl rfl)).1 hA;have hP:nI F L av bv=some P:=hP;refine⟨?_,Jm g aa hb aa hP⟩;obtain⟨p,v,x,w,c3,rfl⟩:=Mi g aa hb hP;obtain⟨hp,_⟩:=c3.ea.lt aa;obtain⟨hx,_⟩:=c3.eb.lt hb;obtain⟨z1,hz1⟩:=aN (ls:=pieces L) (k:=p) aa;obtain⟨z2,Eb⟩:=aN (ls:=dx (pieces L) p (bJ L x).aA) (k:=x) (by rw[nv];omega);rw[aif g _ (by rw[nv,nv,bd]) (fun e he=>by simp only[ch,eL,or_false] at he;rcases he with rfl|rfl<;>omega),Iv Eb (fun p=>hq _ _),Iv hz1 (fun p=>hq _ _)]
  obtain⟨av,bv,cv,dU,wJ,hc,rfl,rfl,rfl,rfl,rfl,rfl⟩:=GD.1 hA;have hP:mR F L av bv cv=some P:=hP;refine⟨?_,Jn g aa aa hc hP⟩;unfold mR at hP;split at hP
  .cases hP;exact aif g _ bd fun e he=>by simp only[ch,eL,or_false] at he;rcases he with rfl|rfl|rfl<;>omega
  cases hP
 obtain⟨f,S⟩:=Xd key.2 hX;rw[S.aq,key.1]
def arc{q:Let->Bool}(hq:∀(l:Let) (r:Int),q {l with aA:=r}=q l):∀ {w:h_} {L K:ai},cX (F:Int) L=0->rO F L w=some K->(∀x∈w,x.k∈zO)->aq q K=aq q L:=by
 intro w
 induction w with
 |nil=>intro L K _ h _;cases h;rfl
 |cons m r ih=>
  intro L K hc h hk;have h:(match fi F L m with|none=>none|some K=>rO F K r)=some K:=h;have hm:m.k=3\/m.k=8:=by simpa using hk m af
  cases ha:fi F L m with
  |none=>rw[ha] at h;cases h
  |some X=>rw[ha] at h;have g:=Ur hc hm ha;rw[ih (By g (by unfold k5;omega) ha).1 h (fun x hx=>hk x (by simp[hx])),aqd g hm ha hq]
end
section
variable {sb:Bool} {F limit:Nat}
def aaH{a:bj}{st:m_}{m:aV}(h:(st.map bj.n).Nodup):((kA sb F limit a st m).2.map bj.n).Nodup:=by
 unfold kA;split
 .exact h
 rename_i hk;split
 .exact h
 show((st++[(⟨(fi F a.c m).getD [],dd ((fi F a.c m).getD []),a.w++[m]⟩:bj)]).map bj.n).Nodup;rw[ki,EL];refine⟨h,af,fun x hx y hy e=>?_⟩;rw[lQ.1 hy] at e;obtain⟨u,hu,rfl⟩:=cV.1 hx;exact hk (u5.2 ⟨u.key F,cV.2 ⟨u,hu,rfl⟩,by
  unfold bj.key;rw[show u.n=dd ((fi F a.c m).getD []) from e];exact Qe.2 rfl⟩)
def aaE{a:bj}:∀ {ms:h_} {st:m_},(st.map bj.n).Nodup->((iO sb F limit a st ms).2.map bj.n).Nodup:=by
 intro ms
 induction ms with
 |nil=>intro st h;exact h
 |cons m r ih=>
  intro st h;rw[IZ];split
  .exact ih (aaH h)
  exact aaH h
def ako:∀(f i:Nat) (st:m_),(st.map bj.n).Nodup->((lH sb F limit f i st).2.map bj.n).Nodup:=by
 intro f
 induction f with
 |zero=>intro i st h;exact h
 |succ f ih=>
  intro i st h;cases hs:st[i]? with
  |none=>rw[Wi hs];exact h
  |some a=>
   rw[Qf hs];split
   .exact ih _ _ (aaE h)
   exact aaE h
def abt{L0:ai}:((gK sb F limit L0).2.map bj.n).Nodup:=ako (limit+1) 0 _ af
def Zb{A:ai}(h:cX (F:Int) A=0){q:Let->Bool}(hq:∀l m:Let,m.kind=l.kind->m.gate=l.gate->q m=q l):aq q (dd A)=aq q A:=by
 by_cases aK:A=[]
 .subst aK;rfl
 obtain⟨G,e,g⟩:=pM h aK;have:F=G:=aa;subst this;obtain⟨r,s,t,i⟩:=g.iso g.sB.2.1;exact i.cn q hq
def abr(cK:sP)(jM:1<=limit)(oG:limit<=20000){L0:ai}(h0:cX (F:Int) L0=0){q:Let->Bool}(hq:∀l m:Let,m.kind=l.kind->m.gate=l.gate->q m=q l){y:bj}(hy:y∈(gK false F limit L0).2):aq q y.n=aq q L0:=by obtain⟨_,dV⟩:=Mz cK jM oG h0;have gy:=dV y hy;rw[gy.sB,Zb gy.chk hq,arc (fun l r=>hq l _ rfl rfl) h0 gy.rep gy.kind]
def ak8(cK:sP)(jM:1<=limit)(oG:limit<=20000){A:ai}(h0:cX (F:Int) A=0){y:bj}(hy:y∈(gK false F limit (dd A)).2):aq Let.aF y.n=aq Let.aF A/\aq Let.aD y.n=aq Let.aD A:=by
 have hP:∀l m:Let,m.kind=l.kind->m.gate=l.gate->m.aF=l.aF:=fun l m h _=>by unfold Let.aF;rw[h]
 have hC:∀l m:Let,m.kind=l.kind->m.gate=l.gate->m.aD=l.aD:=fun l m h _=>by unfold Let.aD;rw[h]
 exact⟨(abr cK jM oG (yC h0) hP hy).trans (Zb h0 hP),(abr cK jM oG (yC h0) hC hy).trans (Zb h0 hC)⟩
end
end Go.Abs
