/- A part. -/
import Derived.Test.YtdlmpmilnbhmgaaGreatDoorWk
set_option linter.all false
open List renaming length->I
set_option maxRecDepth 100000
set_option maxHeartbeats 16000000
namespace Go.Abs
variable{g bv m N h j:Nat}{R E q:Nat->Nat->Prop}{L f:aI}{D:eo}
section
variable{n v x y:Nat}
section
variable {F:Nat} {f:aI}
def anN(f:Nat->Bool)(l:aA)(k e:Nat)(h:l[k]?=some e):(l.take (k+1)).all f=((l.take k).all f&&f e):=by rw[jN,h];simp
abbrev AT(f:cM)(e:Nat):Bool:= !(decide (2*e∈f.aT)==decide (2*e+1∈f.aT))
def OQ(g:ch F f)(q:Nat)(E:aA)(gI:∀e∈E,e<I f)(dr:I E<=1000):aC S 172 [eQ F f,.one (.p (.sl (aS E))),aq q] (bK (qK F f q E)):=by
 have ad:=g.len;have jI:I (cZ F f)<=1000000:=by have N:=g.nw;have H:=ld af.aN f;have Q:=ld af.aJ f;rw[Kc];omega
 refine bG afD ?_;simp only[go_sem,adN,ae,ao];refine cD (λi A blk=>A 1=.one (.p (.sl (aS E)))/\A 2=aq q/\A 3=.one (.bg 11008000000 1 0)/\A 7=aq i/\blk 11008000000=(1,some (.var (qZ F f)))/\ ∀j m,j<i->(cZ F f)[j]?=some m->vS q E m=false) 0 (I (cZ F f)) (bC _) ?_ ?_
 .simp only[go_sem];exact⟨rfl,λj m X=>absurd X (l_ j)⟩
 rintro i A blk hi ⟨N,H,Q,Z,b0,hn⟩
 by_cases au:i<I (cZ F f)
 .have aL:((i:Int)<(I (cZ F f):Int)):=J;obtain⟨m,O⟩:=bq au;have dy:=BP O;have w1:=bJ (n:=i) J;have og:I m.aT<=1000000:=by
   have h9:I m.aT<=2*I f+2*I (aH f):=DT g.ok (bY O);have iD:I (aH f)<=I f:=mv f (I f);omega
  have Bl:vS q E m=((((I m.aT:Int)==(I E:Int))&&((I m.places:Int)==(q:Int)))&&E.all (AT m)):=by unfold vS;rw[Bx,Bx,Cy]
  generalize R:(((I m.aT:Int)==(I E:Int))&&((I m.places:Int)==(q:Int)))=c0 at Bl;have ab:∀y bp g1,y 1=.one (.p (.sl (aS E)))->y 2=aq q->y 3=.one (.bg 11008000000 1 0)->y 7=aq i->bp 11008000000=(1,some (.var (qZ F f)))->y 8=.one (.bg 11008256320 g1 0)->y 9=kN c0->y 10=aq 0->bp 11008256320=(g1,some (.var [.p (.bool m.dA),.p (.sl (aS m.aT)),.p (.sl (dc m.places)),.p (.sl (aS m.mY)),.p (.bool m.outer)]))->
    W S .all (.loop C8) (kZ 2 (qm S .all Ns (kZ 1 (qm S .all NA (Gv (I (cZ F f)) (λi A blk=>A 1=.one (.p (.sl (aS E)))/\A 2=aq q/\A 3=.one (.bg 11008000000 1 0)/\A 7=aq i/\blk 11008000000=(1,some (.var (qZ F f)))/\ ∀j m,j<i->(cZ F f)[j]?=some m->vS q E m=false) i (kZ 0 (qm S .all Vg (nk .all [(6,none)] λv blk=>hJ blk v=some (bK (qK F f q E)))))))))) y bp:=by
   intro y bp g1 D T M L kb k8 r Y z;refine cD (λk A blk=>A 1=.one (.p (.sl (aS E)))/\A 2=aq q/\A 3=.one (.bg 11008000000 1 0)/\A 7=aq i/\blk 11008000000=(1,some (.var (qZ F f)))/\A 8=.one (.bg 11008256320 g1 0)/\A 9=kN (c0&&(E.take k).all (AT m))/\A 10=aq k/\blk 11008256320=(g1,some (.var [.p (.bool m.dA),.p (.sl (aS m.aT)),.p (.sl (dc m.places)),.p (.sl (aS m.mY)),.p (.bool m.outer)]))) 0 (I E) (bC _) ⟨D,T,M,L,kb,k8,by rw[r];simp,Y,z⟩ ?_;rintro k cF aV hk ⟨D,T,M,L,kb,k8,r,Y,z⟩
   by_cases SY:k<I E
   .have YH:((k:Int)<(I E:Int)):=J;obtain⟨e,he⟩:=bq SY;have uc:=gI e (bY he);have ug:=fC he;have wk:=bJ (n:=k) J;have m2:=lR (a:=e) J;have m3:=bJ (n:=2*e) J;have p1:=AP m.aT (2*e) og;have p2:=AP m.aT (2*e+1) og;have aa:=anN (AT m) E k e he;generalize(E.take k).all (AT m)=x at r aa;cases u:(c0&&x)with
    |false=>
     rw[u]at r;have B:(c0&&(x&&AT m e))=false:=by rw[<-Cy,u];rfl
     simp only[go_sem,C8,D,T,M,L,kb,k8,r,Y,z,SY,YH,wk,aa,B,ae,ao];exact aw
    |true=>
     rw[u]at r;have B:(c0&&(x&&AT m e))=AT m e:=by rw[<-Cy,u];rfl
     simp only[go_sem,C8,D,T,M,L,kb,k8,r,Y,z,SY,YH,wk,aa,B,ug,m2,m3,pI,cN p1,cN p2,ae,ao];exact aw
   have:k=I E:=J;subst this;rw[iV,<-Bl]at r;cases B:vS q E m with
   |true=>have ha:qK F f q E:=Ad.2 ⟨m,bY O,B⟩;rw[B]at r;simp only[go_sem,C8,Ns,D,T,M,L,r,Y,dF,ha,ae,ao]
   |false=>
    rw[B]at r;simp only[go_sem,C8,Ns,NA,D,T,M,L,kb,r,Y,dF,w1,au,ae,ao];intro j f' X A3;rcases jG.1 X with h|rfl
    .exact hn j f' h A3
    rw[O]at A3;cases A3;exact B
  cases hA:((I m.aT:Int)==(I E:Int))with
  |false=>rw[hA]at R;simp only[Bool.false_and]at R;subst R;simp only[go_sem,IW,N,H,Q,Z,b0,aL,dy,cM.ps,hA,ae,ao];refine ab _ _ ((blk 11008256320).1+1) ?_ ?_ ?_ ?_ ?_ ?_ ?_ ?_ ?_ <;>simp only[go_sem,N,H,Q,Z,b0]
  |true=>rw[hA]at R;simp only[tI]at R;simp only[go_sem,IW,N,H,Q,Z,b0,aL,dy,cM.ps,hA,R,ae,ao];refine ab _ _ ((blk 11008256320).1+1) ?_ ?_ ?_ ?_ ?_ ?_ ?_ ?_ ?_ <;>simp only[go_sem,N,H,Q,Z,b0]
 have:i=I (cZ F f):=J;subst this;have ha:qK F f q E=false:=by
  cases h:qK F f q E with
  |false=>rfl
  |true=>obtain⟨m,O,H⟩:=Ad.1 h;obtain⟨j,X⟩:=iA O;rw[hn j m (ct.1 X).1 X]at H;cases H
 simp only[go_sem,IW,Vg,N,H,Q,Z,b0,dF,ha,ae,ao]
end
section
variable {F:Nat} {f:aI}
def Nn(g:ch F f){i:Nat}(h:i<I f):CC (aR f i):=by have hp:=vl (iX h);exact Ej g _ (bY hp)
def wS{e:Nat}(h:e<I f):bt f e<I f:=fO _ J
def ab1(g:ch F f){e:Nat}(h:e<I f):CC (jT f e).2.1:=by
 unfold jT;split
 .exact Nn g h
 exact Nn g (wS h)
def Cg(F:Nat)(f:aI)(a b:Nat):Bool:=(jT f a).2.2&&((jT f b).2.2&&(((jT f a).1.id==(jT f b).1.id)&&(!((jT f a).1.over==(jT f b).1.over)&&(sK (jT f a).2.1 (jT f b).2.1&&qK F f 1 [a,b]))))
def asu(v:ch F f)(r:g<I f)(H:bv<I f):aC S 138 [eQ F f,aq g,aq bv] (bK (Cg F f g bv)):=by
 have u:=v.len;have m:=V7 (F:=F) r J;have n:=V7 (F:=F) H J;have j:=abu _ _ (ab1 v r) (ab1 v H);have h:=OQ v 1 [g,bv] (by simp;omega) aG;simp only[ew,jn]at h;have z:((1:Nat):Int)=1:=rfl;rw[z]at h;unfold Cg;generalize jT f g=M at*;generalize jT f bv=bN at*;obtain⟨x,p,is⟩:=M;obtain⟨y,q,T⟩:=bN;simp only at m n j h |-;refine bG aj7 ?_;simp only[go_sem,Z8,XW,bl m (tU _ _ _),bl n (tU _ _ _),Mo,ai j,F5,ai h,bne,ae,ao];repeat' ((first|apply jv|apply jw|apply jA|apply ju|apply jB|apply jx)<;>intro A<;>simp only[go_sem, *,XW,bl m (tU _ _ _),bl n (tU _ _ _),Mo,ai j,F5,ai h,bne,ae,ao])
 all_goals(first|done|exact aw|exact⟨aw,rfl⟩|rfl)
def AN(F:Nat)(f:aI)(a b:Nat):Bool:=
 mK f a&&(mK f b&&(!((aR f a).id==(aR f (bt f a)).id)&&(!((((a+2)%I f:Nat):Int)==(b:Int))&&(!((((b+2)%I f:Nat):Int)==(a:Int))&&
  (((((aR f a).id==(aR f b).id)&&((aR f (bt f a)).id==(aR f (bt f b)).id))||(((aR f a).id==(aR f (bt f b)).id)&&((aR f (bt f a)).id==(aR f b).id)))&&
   (((aR f a).over==(aR f (bt f a)).over)&&(((aR f b).over==(aR f (bt f b)).over)&&(!((aR f a).over==(aR f b).over)&&qK F f 0 [a,b]))))))))
def aiR(L:ch F f)(B:g<I f)(A:bv<I f):aC S 140 [eQ F f,aq g,aq bv] (bK (AN F f g bv)):=by
 have H:=L.len;have q:=H7 (F:=F) B J;have r:=H7 (F:=F) A J;have n:=OQ L 0 [g,bv] (by simp;omega) aG;simp only[ew,jn]at n;have D:((0:Nat):Int)=0:=rfl;rw[D]at n;have z:¬((I f:Int)=0):=J;have m:IntKind.i64.wrap ((g:Int)+2)=((g+2:Nat):Int):=(j_ (x:=(g:Int)+2) J J).trans J;have h:=n_ (g+2) (I f);have j:IntKind.i64.wrap ((bv:Int)+2)=((bv+2:Nat):Int):=(j_ (x:=(bv:Int)+2) J J).trans J;have E:=n_ (bv+2) (I f);unfold AN;generalize mK f g=is at*;generalize mK f bv=T at*;generalize aR f g=x at*;generalize aR f (bt f g)=y at*;generalize aR f bv=u at*;generalize aR f (bt f bv)=v at*;refine bG af0 ?_
 simp only[go_sem,abi,zO,bl q (tU _ _ _),bl r (tU _ _ _),m,h,j,E,z,F5,ai n,bne,ae,ao];repeat' ((first|apply jv|apply jw|apply jA|apply ju|apply jB|apply jx)<;>intro M<;>simp only[go_sem, *,zO,bl q (tU _ _ _),bl r (tU _ _ _),m,h,j,E,z,F5,ai n,bne,ae,ao])
 all_goals(first|done|exact aw|exact⟨aw,rfl⟩|rfl)
end
inductive cJ (R:Nat->Nat->Prop):Nat->Nat->Prop
 |rel {a b:Nat}:R a b->cJ R a b
 |refl (a:Nat):cJ R a a
 |symm {a b:Nat}:cJ R a b->cJ R b a
 |trans {a b c:Nat}:cJ R a b->cJ R b c->cJ R a c
def cJ.mono{R':Nat->Nat->Prop}(h:∀a b,R a b->cJ R' a b)(e:cJ R x y):cJ R' x y:=by
 induction e with
 |rel r=>exact h _ _ r
 |refl a=>exact .refl a
 |symm _ f=>exact .symm f
 |trans _ _ i1 i2=>exact .trans i1 i2
def cJ.inv{α:Type}{f:Nat->α}(h:∀a b,R a b->f a=f b)(e:cJ R x y):f x=f y:=by
 induction e with
 |rel r=>exact h _ _ r
 |refl a=>rfl
 |symm _ g=>exact g.symm
 |trans _ _ i1 i2=>exact i1.trans i2
def uo (E:Nat->Nat->Prop)(x:Nat):Prop:=∀y,E x y->x<=y
noncomputable def ym (E:Nat->Nat->Prop) (x:Nat):Bool:= @decide (uo E x) (Classical.propDecidable _)
def Gi:ym E x↔uo E x:=by unfold ym;exact@decide_eq_true_iff _ (Classical.propDecidable _)
noncomputable def bN (E:Nat->Nat->Prop) (n:Nat):Nat:=(List.range n).countP (ym E)
def Nu(h:∀x y,E x y↔q x y)(n:Nat):bN E n=bN q n:=by have:E=q:=funext λx=>funext λy=>propext (h x y);rw[this]
def ap3{p:Nat->Prop}:∀n,p n->∃m,p m/\ ∀k,p k->m<=k:=by
 intro n
 induction n using Nat.strongRecOn with
 |ind n f=>
  intro h;rcases Classical.em (∃k,k<n/\p k)with⟨k,H,hp⟩|D
  .exact f k H hp
  exact⟨n,h,λk H=>Vm λA=>D ⟨k,A,H⟩⟩
def Vh(R:Nat->Nat->Prop)(x:Nat):∃m,cJ R x m/\uo (cJ R) m/\m<=x:=by obtain⟨m,h,H⟩:=ap3 (p:=λy=>cJ R x y) x (.refl x);exact⟨m,h,λy f=>H y (h.trans f),H x (.refl x)⟩
def ams{p:Nat->Bool}(hp:p x):∀ {l:aA},l.Nodup->x∈l->l.countP p=l.countP (λy=>p y&&y !=x)+1:=by
 intro l
 induction l with
 |nil=>intro _ h;cases h
 |cons a l n=>
  intro j m;obtain⟨q,f⟩:=n9.1 j;rw[sO,sO];by_cases e:a=x
  .subst e;have r:l.countP p=l.countP (λy=>p y&&y !=a):=DV λy H=>by
    have:(y !=a):=by simp;rintro rfl;exact q H
    simp[this]
   simp[hp,r]
  have g:x∈l:=by rcases dL.1 m with h|h;exact absurd h.symm e;exact h
  rw[n f g];have:(a !=x):=by simp[e]
  simp only[this,tk];omega
abbrev rh(R:Nat->Nat->Prop)(a b:Nat)(x y:Nat):Prop:=R x y\/(x=a/\y=b)
def B5{a b:Nat}:cJ (rh R a b) x y↔cJ R x y\/(cJ R x a/\cJ R b y)\/(cJ R x b/\cJ R a y):=by
 constructor
 .intro h
  induction h with
  |rel r=>
   rcases r with r|⟨rfl,rfl⟩
   .exact .inl (.rel r)
   exact .inr (.inl ⟨.refl _,.refl _⟩)
  |refl a=>exact .inl (.refl a)
  |symm _ m=>
   rcases m with h|⟨H,f⟩|⟨H,f⟩
   .exact .inl h.symm
   .exact .inr (.inr ⟨f.symm,H.symm⟩)
   exact .inr (.inl ⟨f.symm,H.symm⟩)
  |trans _ _ i1 i2=>
   rcases i1 with h|⟨H,f⟩|⟨H,f⟩<;>rcases i2 with k|⟨j,g⟩|⟨j,g⟩
   .exact .inl (h.trans k)
   .exact .inr (.inl ⟨h.trans j,g⟩)
   .exact .inr (.inr ⟨h.trans j,g⟩)
   .exact .inr (.inl ⟨H,f.trans k⟩)
   .exact .inr (.inl ⟨H,g⟩)
   .exact .inl (H.trans g)
   .exact .inr (.inr ⟨H,f.trans k⟩)
   .exact .inl (H.trans g)
   exact .inr (.inr ⟨H,g⟩)
 have up:∀ {u v},cJ R u v->cJ (rh R a b) u v:=λh=>h.mono λ_ _ r=>.rel (.inl r);have A:cJ (rh R a b) a b:=.rel (.inr ⟨rfl,rfl⟩);rintro(h|⟨H,f⟩|⟨H,f⟩)
 .exact up h
 .exact(up H).trans (A.trans (up f))
 exact(up H).trans (A.symm.trans (up f))
def ahY{a b:Nat}(h:cJ R a b)(n:Nat):bN (cJ (rh R a b)) n=bN (cJ R) n:=by
 refine Nu (λx y=>?_) n;rw[B5];constructor
 .rintro (k|⟨f,H⟩|⟨f,H⟩)
  .exact k
  .exact f.trans (h.trans H)
  exact f.trans (h.symm.trans H)
 exact .inl
def ZF(H:m<n)(f:uo E m)(h:∀x,uo q x↔uo E x/\x≠m):bN E n=bN q n+1:=by unfold bN;rw[ams (p:=ym E) (x:=m) (Gi.2 f) Um (f_.2 H)];congr 1;refine DV λx _=>?_;rw[Gi,h,cq,Gi];simp
def ass{a b:Nat}(L:a<n)(F:b<n)(h:¬cJ R a b):bN (cJ R) n=bN (cJ (rh R a b)) n+1:=by
 obtain⟨p,j,z,D⟩:=Vh R a;obtain⟨q,Q,A,M⟩:=Vh R b;have u:p≠q:=λe=>h (j.trans (e▸Q.symm));rcases Nat.lt_or_gt_of_ne u with c|c
 .refine ZF (m:=q) J A λx=>⟨λH=>⟨λy f=>H y (B5.2 (.inl f)),?_⟩,λ⟨H,v⟩ y f=>?_⟩
  .rintro rfl
   have:=H p (B5.2 (.inr (.inr ⟨Q.symm,j⟩)));omega
  rcases B5.1 f with f|⟨g,r⟩|⟨g,r⟩
  .exact H y f
  .have E:=H p (g.trans j);have B:=A y (Q.symm.trans r);omega
  have E:=H q (g.trans Q);have B:=A x (Q.symm.trans g.symm);omega
 refine ZF (m:=p) J z λx=>⟨λH=>⟨λy f=>H y (B5.2 (.inl f)),?_⟩,λ⟨H,v⟩ y f=>?_⟩
 .rintro rfl
  have:=H q (B5.2 (.inr (.inl ⟨j.symm,Q⟩)));omega
 rcases B5.1 f with f|⟨g,r⟩|⟨g,r⟩
 .exact H y f
 .have E:=H p (g.trans j);have B:=z x (j.symm.trans g.symm);omega
 have E:=H q (g.trans Q);have B:=z y (j.symm.trans r);omega
def acy{α:Type}{f:Nat->α}(h:∀a b,R a b->f a=f b){g:aA}(v:∀x∈g,x<n)(j:(g.map f).Nodup):I g<=bN (cJ R) n:=by
 have y:∀g:aA,(∀x∈g,x<n)->(g.map f).Nodup->∃L:aA,I L=I g/\L.Nodup/\(∀m∈L,m<n/\uo (cJ R) m)/\ ∀m∈L,f m∈g.map f:=by
  intro g
  induction g with
  |nil=>intro _ _;exact⟨[],rfl,um,aG,aG⟩
  |cons a r E=>
   intro v j;rw[ew,n9]at j;obtain⟨L,B,D,u,F⟩:=E (λx H=>v x (by simp[H])) j.2;obtain⟨m,T,N,Y⟩:=Vh R a;have q:f m=f a:=(T.inv h).symm;have A:=v a aG;refine⟨m::L,by simp[B],n9.2 ⟨λX=>j.1 (q▸F m X),D⟩,λx H=>?_,λx H=>?_⟩
   .rcases dL.1 H with rfl|H
    .exact⟨J,N⟩
    exact u x H
   rcases dL.1 H with rfl|H
   .rw[q];simp
   rw[ew];exact s4 _ (F x H)
 obtain⟨L,B,D,u,_⟩:=y g v j;rw[<-B];unfold bN;rw[V0];have z:∀(L M:aA),L.Nodup->(∀x∈L,x∈M)->I L<=I M:=by
  intro L
  induction L with
  |nil=>intro M _ _;exact bC _
  |cons a L E=>intro M j aa;obtain⟨Q,O⟩:=n9.1 j;have A:=aa a aG;have:=E (M.erase a) O λx H=>(U6 (by rintro rfl;exact Q H)).2 (aa x (by simp[H]));rw[SD A]at this;have:0<I M:=Md A;simp only[dE];omega
 exact z L _ D λx H=>tx.2 ⟨f_.2 (u x H).1,Gi.2 (u x H).2⟩
def aeI(h:∀x,x<n->cJ R x 0):bN (cJ R) n<=1:=by
 unfold bN;have u:∀x∈List.range n,ym (cJ R) x->x=0:=λx H hl=>by have:=Gi.1 hl 0 (h x (f_.1 H));omega
 have:∀l:aA,l.Nodup->(∀x∈l,ym (cJ R) x->x=0)->l.countP (ym (cJ R))<=1:=by
  intro l
  induction l with
  |nil=>intro _ _;simp
  |cons a l m=>
   intro g hl;obtain⟨r,f⟩:=n9.1 g;rw[sO];by_cases c:ym (cJ R) a
   .have j:=hl a aG c;subst j;have:l.countP (ym (cJ R))=0:=B4.2 λx H q=>r (by have:=hl x (by simp[H]) q;subst this;exact H);simp[c,this]
   have:=m f λx H=>hl x (by simp[H]);simp[c,this]
 exact this _ Um u
structure tD (n:Nat) (p:Nat->Nat):Prop where
 lt:∀x,x<n->p x<n
 inj:∀x y,x<n->y<n->p x=p y->x=y
abbrev fI(n:Nat)(p:Nat->Nat)(x y:Nat):Prop:=x<n/\y=p x
def tr (p:Nat->Nat)(t:Nat×Nat)(x:Nat):Nat:=if x=t.1 then p t.2 else if x=t.2 then p t.1 else p x
def F3(p:Nat->Nat)(a b x:Nat):tr p (a,b) x=p (if x=a then b else if x=b then a else x):=by
 unfold tr;simp only;split
 .rfl
 split<;>rfl
def tD.tr{p:Nat->Nat}(h:tD n p){a b:Nat}(g:a<n)(j:b<n):tD n (tr p (a,b)):=by
 have aa:∀x,x<n->(if x=a then b else if x=b then a else x)<n:=λx H=>by split<;>(try split)<;>assumption
 refine⟨λx H=>by rw[F3];exact h.lt _ (aa x H),λx y H f e=>?_⟩;rw[F3,F3]at e;have e:=h.inj _ _ (aa x H) (aa y f) e;by_cases X:x=a
 .rw[aM X]at e;by_cases Y:y=a
  .omega
  rw[aD Y]at e;split at e<;>omega
 rw[aD X]at e;by_cases Y:y=a
 .rw[aM Y]at e;split at e<;>omega
 rw[aD Y]at e;split at e<;>split at e<;>omega
def it (p:Nat->Nat):Nat->Nat->Nat
 |0,x=>x
 |k+1,x=>p (it p k x)
def tD.Jf{p:Nat->Nat}(h:tD n p)(H:x<n):∀k,it p k x<n:=by
 intro k
 induction k with
 |zero=>exact H
 |succ k f=>exact h.lt _ f
def tD.back{p:Nat->Nat}(h:tD n p)(H:x<n):∀i j,it p (i+j) x=it p i x->it p j x=x:=by
 intro i
 induction i with
 |zero=>intro j e;rw[ka]at e;exact e
 |succ i f=>intro j e;rw[show i+1+j=(i+j)+1 by omega]at e;exact f j (h.inj _ _ (h.Jf H _) (h.Jf H _) e)
def aqA:∀(L M:aA),L.Nodup->(∀x∈L,x∈M)->I L<=I M:=by
 intro L
 induction L with
 |nil=>intro M _ _;exact bC _
 |cons a L f=>intro M m aa;obtain⟨j,g⟩:=n9.1 m;have h:=aa a aG;have:=f (M.erase a) g λx H=>(U6 (by rintro rfl;exact j H)).2 (aa x (by simp[H]));rw[SD h]at this;have:0<I M:=Md h;simp only[dE];omega
def tD.afj{p:Nat->Nat}(h:tD n p)(j:x<n):∃m,it p (m+1) x=x:=by
 apply Classical.byContradiction;intro D;have f:∀k,((List.range k).map λi=>it p i x).Nodup:=by
  intro k
  induction k with
  |zero=>simp
  |succ k u=>rw[j0,q_,xh];refine⟨u,aG,λa r b H=>?_⟩;obtain⟨i,g,rfl⟩:=eJ.1 r;have g:=f_.1 g;simp only[ew,jn,pA]at H;subst H;intro e;have:=h.back j i (k-i) (by rw[show i+(k-i)=k by omega];exact e.symm);exact D ⟨k-i-1,by rw[show k-i-1+1=k-i by omega];exact this⟩
 have:=aqA _ (List.range n) (f (n+1)) λy q=>by obtain⟨i,_,rfl⟩:=eJ.1 q;exact f_.2 (h.Jf j i)
 rw[cT,Ff,Ff]at this;omega
def XR(p:Nat->Nat)(x:Nat):∀k,it p (k+1) x=it p k (p x):=by
 intro k
 induction k with
 |zero=>rfl
 |succ k f=>show p (it p (k+1) x)=p (it p k (p x));rw[f]
def agp{p:Nat->Nat}(h:tD n p){a b:Nat}(q:a<n)(H:b<n)(r:¬cJ (fI n p) a b):cJ (fI n (tr p (a,b))) a b:=by
 obtain⟨m,j⟩:=h.afj H;have E:tr p (a,b) a=p b:=by unfold tr;rw[aM rfl]
 have D:∀k,cJ (fI n p) b (it p k b):=by
  intro k
  induction k with
  |zero=>exact .refl _
  |succ k f=>exact f.trans (.rel ⟨h.Jf H k,rfl⟩)
 have g:∀k,cJ (fI n (tr p (a,b))) a b\/cJ (fI n (tr p (a,b))) a (it p k (p b)):=by
  intro k
  induction k with
  |zero=>exact .inr (.rel ⟨q,E.symm⟩)
  |succ k f=>
   rcases f with f|f
   .exact .inl f
   by_cases c:it p k (p b)=b
   .rw[c]at f;exact .inl f
   refine .inr (f.trans (.rel ⟨h.Jf (h.lt _ H) k,?_⟩));have N:it p k (p b)≠a:=λe=>r (by have:=D (k+1);rw[XR,e]at this;exact this.symm)
   unfold tr;rw[aD N,aD c];rfl
 rcases g m with k|k
 .exact k
 rw[<-XR,j]at k;exact k
def Y8{p:Nat->Nat}{a b:Nat}(f:a<n)(H:b<n){S:Nat->Nat->Prop}{x y:Nat}:cJ (rh (λx y=>fI n (tr p (a,b)) x y\/S x y) a b) x y↔cJ (rh (λx y=>fI n p x y\/S x y) a b) x y:=by
 have A:∀R:Nat->Nat->Prop,cJ (rh R a b) a b:=λR=>.rel (.inr ⟨rfl,rfl⟩);constructor
 .refine cJ.mono λu v r=>?_;rcases r with(⟨h,rfl⟩|s)|⟨rfl,rfl⟩
  .unfold tr;simp only;by_cases c:u=a
   .subst c;rw[aM rfl];exact(A _).trans (.rel (.inl (.inl ⟨H,rfl⟩)))
   rw[aD c];by_cases d:u=b
   .subst d;rw[aM rfl];exact(A _).symm.trans (.rel (.inl (.inl ⟨f,rfl⟩)))
   rw[aD d];exact .rel (.inl (.inl ⟨h,rfl⟩))
  .exact .rel (.inl (.inr s))
  exact A _
 refine cJ.mono λu v r=>?_;rcases r with(⟨h,rfl⟩|s)|⟨rfl,rfl⟩
 .by_cases c:u=a
  .subst c;refine(A _).trans (.rel (.inl (.inl ⟨H,?_⟩)));unfold tr;simp only;by_cases d:b=u
   .rw[aM d,d]
   rw[aD d];simp
  by_cases d:u=b
  .subst d;refine(A _).symm.trans (.rel (.inl (.inl ⟨f,?_⟩)));unfold tr;rw[aM rfl]
  refine .rel (.inl (.inl ⟨h,?_⟩));unfold tr;rw[aD c,aD d]
 .exact .rel (.inl (.inr s))
 exact A _
abbrev ab5(ts:gN)(x y:Nat):Prop:=(x,y)∈ts
abbrev wB(n:Nat)(p:Nat->Nat)(ts:gN)(x y:Nat):Prop:=fI n p x y\/ab5 ts x y
def apY:∀(T:gN) (p:Nat->Nat),tD n p->(∀t∈T,t.1<n/\t.2<n)->
  bN (cJ (fI n (T.foldl tr p))) n+bN (cJ (fI n p)) n<=2*bN (cJ (wB n p T)) n+I T:=by
 intro T
 induction T with
 |nil=>
  intro p _ _;have:bN (cJ (wB n p [])) n=bN (cJ (fI n p)) n:=Nu (λx y=>⟨cJ.mono (R:=wB n p []) (R':=fI n p) (λu v r=>by
   rcases r with r|r
   .exact .rel r
   cases r),cJ.mono (R:=fI n p) (R':=wB n p []) (λu v r=>.rel (.inl r))⟩) n
  rw[this];simp only[Hu,eR];omega
 |cons t T B=>
  intro p hp z;obtain⟨a,b⟩:=t;obtain⟨f,H⟩:=z (a,b) aG
  replace f:a<n:=f
  replace H:b<n:=H
  have B:=B (tr p (a,b)) (hp.tr f H) λt h=>z t (by simp[h]);have all:∀x y,cJ (wB n p ((a,b)::T)) x y↔cJ (rh (wB n (tr p (a,b)) T) a b) x y:=λx y=>by
   refine Iff.trans ⟨cJ.mono λu v r=>?_,cJ.mono λu v r=>?_⟩ (Y8 (S:=ab5 T) f H).symm
   .rcases r with r|r
    .exact .rel (.inl (.inl r))
    rcases dL.1 r with r|r
    .cases r;exact .rel (.inr ⟨rfl,rfl⟩)
    exact .rel (.inl (.inr r))
   rcases r with(r|r)|⟨rfl,rfl⟩
   .exact .rel (.inl r)
   .exact .rel (.inr (s4 _ r))
   exact .rel (.inr (uO ..))
  have one:∀x y,cJ (rh (fI n (tr p (a,b))) a b) x y↔cJ (rh (fI n p) a b) x y:=λx y=>by have h:=Y8 (p:=p) (S:=λ_ _=>False) f H (x:=x) (y:=y);have e:∀q:Nat->Nat,(λx y=>fI n q x y\/False)=fI n q:=λq=>funext λx=>funext λy=>propext aG;rw[e,e]at h;exact h
  rw[Nu all];simp only[qG,dE];have F:bN (cJ (rh (fI n (tr p (a,b))) a b)) n=bN (cJ (rh (fI n p) a b)) n:=Nu one n;have g:∀R:Nat->Nat->Prop,cJ R a b->bN (cJ (rh R a b)) n=bN (cJ R) n:=λR h=>ahY h n;have m:∀R:Nat->Nat->Prop,¬cJ R a b->bN (cJ R) n=bN (cJ (rh R a b)) n+1:=λR h=>ass f H h;rcases Classical.em (cJ (fI n p) a b)with c|c
  .have E:=g _ c;rcases Classical.em (cJ (fI n (tr p (a,b))) a b)with d|d
   .have A:=g _ d;have j:=g _ (d.mono (R':=wB n (tr p (a,b)) T) λu v r=>.rel (.inl r));omega
   have A:=m _ d;rcases Classical.em (cJ (wB n (tr p (a,b)) T) a b)with D|D
   .have j:=g _ D;omega
   have j:=m _ D;omega
  have E:=m _ c;have d:=agp hp f H c;have A:=g _ d;have j:=g _ (d.mono (R':=wB n (tr p (a,b)) T) λu v r=>.rel (.inl r));omega
def dW (x:Nat):Nat:=if x%2=0 then x+1 else x-1
def tq(k:Nat):dW (2*k)=2*k+1:=by unfold dW;rw[aM J]
def AF(k:Nat):dW (2*k+1)=2*k:=by unfold dW;rw[aD J];rfl
def Kn(x:Nat):dW (dW x)=x:=by
 rcases Bs x with h|h
 .rw[show x=2*(x/2) by omega,tq,AF]
 rw[show x=2*(x/2)+1 by omega,AF,tq]
def E5(h:x<2*m):dW x<2*m:=by unfold dW;split<;>omega
def arh(x:Nat):dW x/2=x/2:=by unfold dW;split<;>omega
def D7(n v:Nat)(g:Bool):dW (jX n v g)=kU n v (!g):=by
 cases g with
 |true=>exact tq _
 |false=>exact AF _
def UR(h:v<n)(g:Bool):kU n v g<2*n:=by have:=fO (v+n-1) (show 0<n by omega);unfold kU;split<;>omega
def ON(H:x<2*n):x=kU n (if x%2=0 then(x/2+1)%n else x/2) (x%2==0):=by
 unfold kU;rcases Bs x with h|h
 .simp only[h,acA,if_true];rw[Tq J];omega
 simp only[h,show((1:Nat)==0)=false from rfl,ib,if_false,Nat.one_ne_zero];omega
section
variable {F:Nat} {f:aI}
def WN{l:af}(hl:f[v]?=some l)(F:Bool):bZ f (kU (I f) v F)=if l.kind==2 then jX (I f) (jY f v) (F==(l.over==(l.sign==1)))
   else if dP f v==F then 2*I f+2*(aH f).idxOf v else 2*I f+2*(((aH f).idxOf v+I (aH f)-1)%I (aH f))+1:=by
 have h:=(ct.1 hl).1;have A:=UR h F;refine ach J ?_ ?_ hl
 .unfold kU;cases F<;>simp
 unfold kU;cases F with
 |true=>simp only[if_true];rw[show 2*((v+I f-1)%I f)/2=(v+I f-1)%I f by omega,A4 h]
 |false=>simp only[ib,if_false];omega
def Ml{l:af}(hl:f[v]?=some l)(h:l.aJ)(F:Bool):bZ f (kU (I f) v F)=jX (I f) (jY f v) (F==(l.over==(l.sign==1))):=by rw[WN hl];unfold af.aJ at h;rw[aM h]
def Sd{l:af}(hl:f[v]?=some l)(hp:l.aN)(F:Bool):bZ f (kU (I f) v F)=if dP f v==F then 2*I f+2*(aH f).idxOf v else 2*I f+2*(((aH f).idxOf v+I (aH f)-1)%I (aH f))+1:=by have:=AQ hp;unfold af.aJ at this;rw[WN hl,aD (by rw[this];decide)]
def OY(k:Nat):bZ f (2*I f+2*k)=jX (I f) ((aH f).getD ((k+1)%I (aH f)) 0) (!dP f ((aH f).getD ((k+1)%I (aH f)) 0)):=by show fz _ _ _=_;unfold fz;rw[aM J,aM J,show(2*I f+2*k-2*I f)/2=k by omega]
def O_(k:Nat):bZ f (2*I f+2*k+1)=jX (I f) ((aH f).getD k 0) (dP f ((aH f).getD k 0)):=by show fz _ _ _=_;unfold fz;rw[aM J,aD J,show(2*I f+2*k+1-2*I f)/2=k by omega]
def N9{k:Nat}(H:k<I (aH f)):∃l,f[(aH f).getD k 0]?=some l/\l.aN:=by obtain⟨v,h⟩:=bq H;rw[dT,h,jV];exact tm.1 (bY h)
def T6{l:af}(ok:gC F f)(hl:f[v]?=some l)(hp:l.aN):(aH f).idxOf v<I (aH f)/\(aH f).getD ((aH f).idxOf v) 0=v:=by have h:=TM ok.ax hl hp;rw[E0 ok.ax hl hp];exact⟨(ct.1 h).1,by rw[dT,h];rfl⟩
def ag3(ok:gC F f)(r:v<I f)(g:Bool):bZ f (dW (bZ f (kU (I f) v g)))=jX (I f) v g:=by
 obtain⟨l,hl⟩:=bq r;rcases ok.kinds l (bY hl)with hp|n
 .obtain⟨h,j⟩:=T6 ok hl hp;rw[Sd hl hp];by_cases c:(dP f v==g)
  .rw[aM c,show 2*I f+2*(aH f).idxOf v=2*(I f+(aH f).idxOf v) by omega,tq,show 2*(I f+(aH f).idxOf v)+1=2*I f+2*(aH f).idxOf v+1 by omega,O_,j];rw[eq_of_beq c]
  rw[aD c];have c:dP f v= !g:=by revert c;cases dP f v<;>cases g<;>simp
  have H:=fO ((aH f).idxOf v+I (aH f)-1) (show 0<I (aH f) by omega);rw[show 2*I f+2*(((aH f).idxOf v+I (aH f)-1)%I (aH f))+1=2*(I f+((aH f).idxOf v+I (aH f)-1)%I (aH f))+1 by omega,AF,
   show 2*(I f+((aH f).idxOf v+I (aH f)-1)%I (aH f))=2*I f+2*(((aH f).idxOf v+I (aH f)-1)%I (aH f)) by omega,OY,A4 h,j,c,Bool.not_not]
 obtain⟨h,m,H,u,x,q,M⟩:=MS ok.cr hl n;rw[Ml hl n,D7,Ml H u,h,q,M];cases g<;>cases l.over<;>cases(l.sign==1)<;>rfl
def lH(f:aI)(x:Nat):Nat:=
 if 2*I f<=x then(if x%2=0 then(aH f).getD (((x-2*I f)/2+1)%I (aH f)) 0 else(aH f).getD ((x-2*I f)/2) 0)
 else if x%2=0 then(x/2+1)%I f else x/2
def vE(f:aI)(x:Nat):Bool:=decide (2*I f<=x)||(match f[lH f x]? with|some l=>l.aJ&&l.over|none=>false)
def oR(f:aI)(i:Nat):Int×Int:=match f[i]? with|some l=>if l.aJ then(1,l.id)else(0,i)|none=>(2,0)
def Ah(h:v<I f)(F:Bool):lH f (kU (I f) v F)=v:=by
 have A:=UR h F;unfold lH;rw[aD J];unfold kU;cases F with
 |true=>simp only[if_true];rw[aM J,show 2*((v+I f-1)%I f)/2=(v+I f-1)%I f by omega,A4 h]
 |false=>simp only[ib,if_false];rw[aD J];omega
def P5{l:af}(hl:f[v]?=some l)(F:Bool):vE f (kU (I f) v F)=(l.aJ&&l.over):=by have h:=(ct.1 hl).1;have A:=UR h F;unfold vE;rw[Ah h,hl];have:¬2*I f<=kU (I f) v F:=J;simp[this]
def WC(k:Nat):lH f (2*I f+2*k)=(aH f).getD ((k+1)%I (aH f)) 0:=by unfold lH;rw[aM J,aM J,show(2*I f+2*k-2*I f)/2=k by omega]
def X3(k:Nat):lH f (2*I f+2*k+1)=(aH f).getD k 0:=by unfold lH;rw[aM J,aD J,show(2*I f+2*k+1-2*I f)/2=k by omega]
def Of(h:2*I f<=x):vE f x:=by unfold vE;simp[h]
def adh(ok:gC F f)(y:x<bH f):oR f (lH f (dW (bZ f x)))=oR f (lH f x)/\vE f (dW (bZ f x))= !vE f x:=by
 unfold bH at y;rcases DE x (2*I f)with c|c
 .have j:(if x%2=0 then(x/2+1)%I f else x/2)<I f:=by
   have:=fO (x/2+1) (show 0<I f by omega);split<;>omega
  rw[ON c];generalize(if x%2=0 then(x/2+1)%I f else x/2)=v at j;generalize(x%2==0)=fw;obtain⟨l,hl⟩:=bq j;rw[Ah j,P5 hl];rcases ok.kinds l (bY hl)with hp|n
  .obtain⟨r,q⟩:=T6 ok hl hp;rw[AQ hp,Sd hl hp];by_cases d:(dP f v==fw)
   .rw[aM d,show 2*I f+2*(aH f).idxOf v=2*(I f+(aH f).idxOf v) by omega,tq,show 2*(I f+(aH f).idxOf v)+1=2*I f+2*(aH f).idxOf v+1 by omega,X3,q,Of J];exact⟨rfl,rfl⟩
   rw[aD d,show 2*I f+2*(((aH f).idxOf v+I (aH f)-1)%I (aH f))+1=2*(I f+((aH f).idxOf v+I (aH f)-1)%I (aH f))+1 by omega,AF,
    show 2*(I f+((aH f).idxOf v+I (aH f)-1)%I (aH f))=2*I f+2*(((aH f).idxOf v+I (aH f)-1)%I (aH f)) by omega,WC,A4 r,q,Of J]
   exact⟨rfl,rfl⟩
  obtain⟨r,m,H,B,z,M,D⟩:=MS ok.cr hl n;have u:=(ct.1 H).1;rw[Ml hl n,D7,Ah u,P5 H];unfold oR;simp[hl,H,n,B,z,M]
 rw[Of c];have h:∀k,k<I (aH f)->∀g,oR f (lH f (dW (jX (I f) ((aH f).getD k 0) g)))=oR f ((aH f).getD k 0)/\vE f (dW (jX (I f) ((aH f).getD k 0) g))= !true:=λk A g=>by obtain⟨l,hl,hp⟩:=N9 A;rw[D7,Ah (ct.1 hl).1,P5 hl,AQ hp];exact⟨rfl,rfl⟩
 rcases Bs x with d|d
 .rw[show x=2*I f+2*((x-2*I f)/2) by omega,OY,WC];exact h _ (fO _ J) _
 rw[show x=2*I f+2*((x-2*I f)/2)+1 by omega,O_,X3];exact h _ J _
end
def ap1{next:Nat->Nat}(A:∀x,x<N->next x<N)(h:∀x,x<N->cJ R x (next x)):∀(k x:Nat) (S:eo),x<N->∀y∈(eZ next k x S).1,cJ R x y:=by
 intro k
 induction k with
 |zero=>intro x S _ y H;simp[eZ]at H
 |succ k g=>
  intro x S f y H;unfold eZ at H;split at H
  .simp at H
  rcases dL.1 H with rfl|H
  .exact .refl _
  exact(h x f).trans (g (next x) _ (A x f) y H)
def aq2{next:Nat->Nat}(m:vu next h N)(r:∀x,x<N->cJ R x (next x)):∀k,k<=N->∀w∈(dN next N k).1,∀x∈w,∀y∈w,cJ R x y:=by
 intro k
 induction k with
 |zero=>intro _ w H;simp[dN]at H
 |succ k n=>
  intro q w H x g y f;rw[s_]at H;unfold qX at H;split at H
  .exact n J w H x g y f
  rcases fB.1 H with H|H
  .exact n J w H x g y f
  simp only[pA]at H;subst H;have j:=ap1 (R:=R) m.lt r ((dN next N k).2.length+1) k (dN next N k).2 J;exact(j x g).symm.trans (j y f)
def aif{next:Nat->Nat}(m:vu next h N):∀k,k<=h->∀w∈(dN next N k).1,∀x∈w,next x∈w:=by
 intro k
 induction k with
 |zero=>intro _ w H;simp[dN]at H
 |succ k n=>
  intro r w H x f;obtain⟨u,_⟩:=Ma m k J;obtain⟨g,_⟩:=Ma m (k+1) r;rw[s_]at H g;unfold qX at H g;cases aa:(dN next N k).2.getD k true with
  |true=>rw[aa,aM rfl]at H;exact n J w H x f
  |false=>
   rw[aa,aD U]at H g;rcases fB.1 H with H|H
   .exact n J w H x f
   simp only[pA]at H;subst H;obtain⟨g1,v,q⟩:=ZH next ((dN next N k).2.length+1) k (dN next N k).2;have y:x<N:=by have:=L6 (g1 x f);have:=Ce next N k;omega
   have j:=u x y;have E:=g x y;rw[q,q,g1 x f]at E;rw[g1 x f]at j;simp only[wL,f,decide_true,<-j]at E;exact mX E.symm
def GI{next:Nat->Nat}(m:vu next h N){w:aA}(H:w∈fW next N)(f:x∈w):next x∈w:=by unfold fW at H;rw[Sm m N m.le (cH _)]at H;exact aif m h (cH _) w H x f
def anu{next:Nat->Nat}(m:vu next h N)(j:∀x,x<N->cJ R x (next x)){w:aA}(H:w∈fW next N){x:Nat}(g:x∈w)(f:y∈w):cJ R x y:=aq2 m j N (cH _) w H x g y f
def M8(L:List aA)(x:Nat):Nat:=L.findIdx λw=>w.contains x
def TL{L:List aA}(h:L.flatten.Nodup){i:Nat}{w:aA}(H:L[i]?=some w)(f:x∈w):M8 L x=i:=by
 have g:w.contains x:=by simpa using f
 have A:L.findIdx (λw=>w.contains x)<I L:=aaf ⟨w,bY H,g⟩;have hp:=T3 (w:=A);have j:L[L.findIdx λw=>w.contains x]?=some (L[L.findIdx λw=>w.contains x]'A):=oO A;exact adu h j H (by simpa using hp) f
def agz:∀ {L:List aA},L.flatten.Nodup->(∀w∈L,w≠[])->((L.map (·.headD 0)).map (M8 L))=List.range (I L):=by
 intro L h A;apply Ai;intro i;rw[gZ,gZ];by_cases H:i<I L
 .have e:=oO H;rw[e,nH H];simp only[oG];have f:=A _ (bY e);rw[TL h e (x:=L[i].headD 0) (by
   cases g:L[i]with
   |nil=>exact absurd g f
   |cons a r=>simp)]
 rw[o6 J,o6 (by simp;omega)];rfl
def aaS{α:Type}{f:Nat->α×Bool}{g:Nat->α}{c:Nat->Bool}(j:∀x,f (2*x)=(g x,c x))(n:∀x,f (2*x+1)=(g x,!c x)):∀ {L:aA},(L.map g).Nodup->((L.flatMap λx=>[2*x,2*x+1]).map f).Nodup:=by
 intro L
 induction L with
 |nil=>intro _;exact um
 |cons a L m=>
  intro h;rw[ew,n9]at h;have m:=m h.2;have D:∀b,(g a,b)∉(L.flatMap λx=>[2*x,2*x+1]).map f:=by
   intro b z;obtain⟨y,H,e⟩:=eJ.1 z;obtain⟨x,A,H⟩:=pR.1 H;have:g x=g a:=by
    simp only[dL,mV,or_false]at H;rcases H with rfl|rfl
    .rw[j]at e;exact congrArg Prod.fst e
    rw[n]at e;exact congrArg Prod.fst e
   exact h.1 (eJ.2 ⟨x,A,this⟩)
  rw[xn,q_,xh];refine⟨?_,m,?_⟩
  .simp only[ew,jn,j,n,n9,pA,mV,not_false_eq_true,um,and_true];intro e;have:=congrArg Prod.snd e;revert this;cases c a<;>simp
  intro u q v r e;subst e;simp only[ew,jn,j,n,dL,mV,or_false]at q;rcases q with rfl|rfl
  .exact D _ r
  exact D _ r
def Vw:∀L:aA,I (L.flatMap λx=>[2*x,2*x+1])=2*I L:=by
 intro L
 induction L with
 |nil=>rfl
 |cons a L f=>rw[xn,ep,f];simp only[dE,eR];omega
def Wl{L:aA}(h:∀x∈L,x<N):∀y∈(L.flatMap λx=>[2*x,2*x+1]),y<2*N:=by intro y H;obtain⟨x,f,H⟩:=pR.1 H;have:=h x f;simp only[dL,mV,or_false]at H;rcases H with rfl|rfl<;>omega
def ic (b:Bool)(s:Nat):Nat:=if b then 1-s else s
def A8{b:Bool}{s:Nat}(h:s<2):ic b s<2:=by unfold ic;split<;>omega
def Gt{b:Bool}{s:Nat}(h:s<2):ic b (ic b s)=s:=by unfold ic;cases b<;>simp;omega
def lx(p:Nat->Bool)(y:Nat):Nat:=2*dW (y/2)+ic (p (y/2)) (y%2)
def rk(p:Nat->Bool)(bt:Nat->Nat)(y:Nat):Nat:=2*bt (dW (y/2))+ic (p (y/2)) (y%2)
def qH(p:Nat->Bool)(k:Nat):gN:=(List.range k).flatMap λe=>[(4*e,lx p (4*e)),(4*e+1,lx p (4*e+1))]
def FM(p:Nat->Bool)(e:Nat):lx p (4*e)=if p (2*e)then 4*e+3 else 4*e+2:=by unfold lx ic;rw[show 4*e/2=2*e by omega,tq,show 4*e%2=0 by omega];split<;>omega
def Hd(p:Nat->Bool)(e:Nat):lx p (4*e+1)=if p (2*e)then 4*e+2 else 4*e+3:=by unfold lx ic;rw[show(4*e+1)/2=2*e by omega,tq,show(4*e+1)%2=1 by omega];split<;>omega
def VP{p:Nat->Bool}(hp:∀x,p (dW x)=p x)(e:Nat):lx p (4*e+2)=if p (2*e)then 4*e+1 else 4*e:=by unfold lx ic;rw[show(4*e+2)/2=2*e+1 by omega,AF,show(4*e+2)%2=0 by omega,<-hp (2*e),tq];split<;>omega
def YL{p:Nat->Bool}(hp:∀x,p (dW x)=p x)(e:Nat):lx p (4*e+3)=if p (2*e)then 4*e else 4*e+1:=by unfold lx ic;rw[show(4*e+3)/2=2*e+1 by omega,AF,show(4*e+3)%2=1 by omega,<-hp (2*e),tq];split<;>omega
def abv(p:Nat->Bool)(k:Nat):qH p (k+1)=qH p k++[(4*k,lx p (4*k)),(4*k+1,lx p (4*k+1))]:=by unfold qH;rw[j0,List.flatMap_append];simp
def afq(p:Nat->Bool)(k:Nat):I (qH p k)=2*k:=by
 induction k with
 |zero=>rfl
 |succ k f=>rw[abv,ep,f];simp only[dE,eR];omega
def amQ(p:Nat->Bool)(k:Nat):∀t∈qH p k,t.1<4*k/\t.2<4*k:=by intro t f;obtain⟨e,H,h⟩:=pR.1 f;have H:=f_.1 H;simp only[dL,mV,or_false,FM,Hd]at h;rcases h with rfl|rfl<;>refine⟨by simp only;omega,?_⟩<;>simp only<;>split<;>omega
def ash(p:Nat->Bool){k e:Nat}(h:e<k):(4*e,lx p (4*e))∈qH p k/\(4*e+1,lx p (4*e+1))∈qH p k:=
 ⟨pR.2 ⟨e,f_.2 h,aG⟩,pR.2 ⟨e,f_.2 h,aG⟩⟩
def ap8{p:Nat->Bool}(hp:∀x,p (dW x)=p x)(q:Nat->Nat):∀k y,(qH p k).foldl tr q y=if y<4*k then q (lx p y)else q y:=by
 intro k
 induction k with
 |zero=>intro y;simp[qH]
 |succ k u=>
  intro y;rw[abv,yq,qG,qG,Hu,F3,F3,u,FM,Hd];by_cases c:y<4*k
  .have v:(if y=4*k+1 then(if p (2*k)then 4*k+2 else 4*k+3)else if y=(if p (2*k)then 4*k+2 else 4*k+3)then 4*k+1 else y)=y:=by rw[aD J,aD (by split<;>omega)]
   rw[v];have r:(if y=4*k then(if p (2*k)then 4*k+3 else 4*k+2)else if y=(if p (2*k)then 4*k+3 else 4*k+2)then 4*k else y)=y:=by rw[aD J,aD (by split<;>omega)]
   rw[r,aM c,aM J]
  have f:=VP hp k;have h:=YL hp k;have A:=FM p k;have g:=Hd p k;cases H:p (2*k)with
  |true=>
   rw[H]at A g f h;simp only[if_true]at A g f h |-;by_cases m:y=4*k
   .subst m;rw[A,aD (show¬4*k=4*k+1 by omega),aD (show¬4*k=4*k+2 by omega),aM rfl,aD J,aM J]
   by_cases n:y=4*k+1
   .subst n;rw[g,aM rfl,aD (show¬4*k+2=4*k by omega),aD (show¬4*k+2=4*k+3 by omega),aD J,aM J]
   by_cases j:y=4*k+2
   .subst j;rw[f,aD (show¬4*k+2=4*k+1 by omega),aM rfl,aD (show¬4*k+1=4*k by omega),aD (show¬4*k+1=4*k+3 by omega),aD J,aM J]
   by_cases cP:y=4*k+3
   .subst cP;rw[h,aD (show¬4*k+3=4*k+1 by omega),aD (show¬4*k+3=4*k+2 by omega),aD (show¬4*k+3=4*k by omega),aM rfl,aD J,aM J]
   rw[aD n,aD j,aD m,aD cP,aD c,aD J]
  |false=>
   rw[H]at A g f h;simp only[ib,if_false]at A g f h |-;by_cases m:y=4*k
   .subst m;rw[A,aD (show¬4*k=4*k+1 by omega),aD (show¬4*k=4*k+3 by omega),aM rfl,aD J,aM J]
   by_cases n:y=4*k+1
   .subst n;rw[g,aM rfl,aD (show¬4*k+3=4*k by omega),aD (show¬4*k+3=4*k+2 by omega),aD J,aM J]
   by_cases cP:y=4*k+3
   .subst cP;rw[h,aD (show¬4*k+3=4*k+1 by omega),aM rfl,aD (show¬4*k+1=4*k by omega),aD (show¬4*k+1=4*k+2 by omega),aD J,aM J]
   by_cases j:y=4*k+2
   .subst j;rw[f,aD (show¬4*k+2=4*k+1 by omega),aD (show¬4*k+2=4*k+3 by omega),aD (show¬4*k+2=4*k by omega),aM rfl,aD J,aM J]
   rw[aD n,aD cP,aD m,aD j,aD c,aD J]
def ait{p:Nat->Bool}(hp:∀x,p (dW x)=p x)(bt:Nat->Nat){k:Nat}(h:y<4*k):(qH p k).foldl tr (rk p bt) y=2*bt (y/2)+y%2:=by
 rw[ap8 hp,aM h];unfold rk;have g:ic (p (y/2)) (y%2)<2:=A8 J;have f:lx p y/2=dW (y/2):=by unfold lx;omega
 have H:lx p y%2=ic (p (y/2)) (y%2):=by unfold lx;omega
 rw[f,H,Kn,hp,Gt J]
def amV{α β:Type}{P:α->β->Prop}{f:β->α}(j:∀a b,P a b->f b=a):∀ {L:List α},(∀a∈L,∃b,P a b)->∃M:List β,M.map f=L/\ ∀b∈M,∃a∈L,P a b:=by
 intro L
 induction L with
 |nil=>intro _;exact⟨[],rfl,aG⟩
 |cons a L n=>
  intro h;obtain⟨b,g⟩:=h a aG;obtain⟨M,q,m⟩:=n λx H=>h x (by simp[H]);refine⟨b::M,by rw[ew,q,j a b g],λx H=>?_⟩;rcases dL.1 H with rfl|H
  .exact⟨a,aG,g⟩
  obtain⟨c,r,hp⟩:=m x H;exact⟨c,by simp[r],hp⟩
section
variable {F:Nat} {f:aI}
def akA(ok:gC F f):(aH f).Nodup:=by have:=ab7 ok.ax (I f) (cH _);refine NU (λ{a b} h e=>?_) this;subst e;exact absurd h (Nat.lt_irrefl _)
def Zs(ok:gC F f):I f=aF af.aN f+aF af.aJ f:=by
 have:∀l:aI,(∀x∈l,x.aN\/x.aJ)->I l=aF af.aN l+aF af.aJ l:=by
  intro l
  induction l with
  |nil=>intro _;rfl
  |cons a l g=>
   intro h;have g:=g λx H=>h x (by simp[H]);unfold aF at g |-;rw[sO,sO,dE,g];rcases h a aG with c|c
   .rw[c,AQ c];simp;omega
   have:a.aN=false:=by cases hp:a.aN;rfl;rw[AQ hp]at c;cases c
   rw[c,this];simp;omega
 exact this f ok.kinds
def agA(ok:gC F f):∃L:aA,I L=aF af.aN f+aF af.aJ f/2/\(∀j∈L,j<I f)/\(L.map (oR f)).Nodup:=by
 have r:=ok.cr;unfold lA at r;simp only[cq,c6]at r;have q:=r.2
 let ids:tE:=(fg f (I f)).map λid=>(1,id)
 have A:∀a∈ids,∃j,(oR f j=a/\j<I f):=by intro a n;obtain⟨id,H,rfl⟩:=eJ.1 n;obtain⟨j,o,g,z⟩:=(GQ (cH _)).1 H;obtain⟨m,D,y,B,_⟩:=xx z;refine⟨j,?_,g⟩;unfold oR;rw[D];simp[y,B]
 obtain⟨M,u,v⟩:=amV (P:=λa j=>oR f j=a/\j<I f) (f:=oR f) (λa b h=>h.1) A;have iD:∀i∈aH f,i<I f/\oR f i=(0,(i:Int)):=λi H=>by obtain⟨l,hl,hp⟩:=tm.1 H;refine⟨(ct.1 hl).1,?_⟩;unfold oR;rw[hl];simp[AQ hp]
 refine⟨aH f++M,?_,λj g=>?_,?_⟩
 .have:I M=I (fg f (I f)):=by
   have:=congrArg List.length u
   simpa [ids]using this
  rw[ep,this,q,F_]
 .rcases fB.1 g with g|g
  .exact(iD j g).1
  obtain⟨_,_,h⟩:=v j g;exact h.2
 rw[q_,u,xh];refine⟨?_,?_,?_⟩
 .have:(aH f).map (oR f)=(aH f).map λi:Nat=>((0:Int),(i:Int)):=yC λi H=>(iD i H).2;rw[this];refine Iv.2 (NU (λ{a b} h e=>h ?_) (akA ok));have:=congrArg Prod.snd e;simp only at this;omega
 .refine Iv.2 (NU (λ{a b} h e=>h ?_) (RE f (I f)));exact congrArg Prod.snd e
 intro a n b x e;obtain⟨i,H,rfl⟩:=eJ.1 n;obtain⟨id,_,rfl⟩:=eJ.1 x;rw[(iD i H).2]at e;have:=congrArg Prod.fst e;simp at this
def anv(ok:gC F f)(p:Nat->Bool):tD (2*bH f) (rk p (bZ f)):=by
 have m:=xy ok;have q:bH f=2*(I f+I (aH f)):=by unfold bH;omega
 have g:∀y,y<2*bH f->dW (y/2)<bH f:=λy h=>by rw[q];exact E5 J
 have H:∀y,ic (p (y/2)) (y%2)<2:=λy=>A8 J;refine⟨λy h=>?_,λx y u h e=>?_⟩
 .have:=m.lt _ (g y h);have:=H y;unfold rk;omega
 unfold rk at e;have:=H x;have:=H y;have j:bZ f (dW (x/2))=bZ f (dW (y/2)):=J;have r:=m.inj _ _ (g x u) (g y h) j;have n:x/2=y/2:=by rw[<-Kn (x/2),r,Kn]
 have E:ic (p (x/2)) (x%2)=ic (p (y/2)) (y%2):=J;rw[n]at E;have v:x%2=y%2:=by rw[<-Gt (b:=p (y/2)) (s:=x%2) J,E,Gt J]
 omega
end
section
variable {F:Nat} {f:aI} {p:Nat->Bool}
abbrev rJ(ls:aI)(p:Nat->Bool):Nat->Nat->Prop:=wB (2*bH ls) (rk p (bZ ls)) (qH p (I ls+I (aH ls)))
def LO(f:aI):bH f=2*(I f+I (aH f)):=by unfold bH;omega
def ajN(hp:∀x,p (dW x)=p x)(j:y<2*bH f):cJ (rJ f p) y (lx p y):=by
 have m:=LO f;obtain⟨H,h⟩:=ash p (k:=I f+I (aH f)) (e:=y/4) J;have r1:cJ (rJ f p) (4*(y/4)) (lx p (4*(y/4))):=.rel (.inr H);have r:cJ (rJ f p) (4*(y/4)+1) (lx p (4*(y/4)+1)):=.rel (.inr h);have A:=VP hp (y/4);have g:=YL hp (y/4);rcases(by omega:y=4*(y/4)\/y=4*(y/4)+1\/y=4*(y/4)+2\/y=4*(y/4)+3)with e|e|e|e
 .rw[<-e]at r1;exact r1
 .rw[<-e]at r;exact r
 .rw[<-e]at A;rw[A];rw[FM]at r1;rw[Hd]at r;by_cases c:p (2*(y/4))
  .rw[aM c]at r |-;rw[<-e]at r;exact r.symm
  rw[aD c]at r1 |-;rw[<-e]at r1;exact r1.symm
 rw[<-e]at g;rw[g];rw[FM]at r1;rw[Hd]at r;by_cases c:p (2*(y/4))
 .rw[aM c]at r1 |-;rw[<-e]at r1;exact r1.symm
 rw[aD c]at r |-;rw[<-e]at r;exact r.symm
def Ux(hp:∀x,p (dW x)=p x){x s:Nat}(h:x<bH f)(aa:s<2):cJ (rJ f p) (2*x+s) (2*dW x+ic (p x) s):=by have:=ajN (f:=f) hp (y:=2*x+s) J;unfold lx at this;rwa[show(2*x+s)/2=x by omega,show(2*x+s)%2=s by omega]at this
def RH(hp:∀x,p (dW x)=p x){x s:Nat}(H:x<bH f)(aa:s<2):cJ (rJ f p) (2*x+s) (2*bZ f x+s):=by
 have h:=LO f;have g:ic (p x) s<2:=A8 aa;refine(Ux hp H aa).trans (.rel (.inl ⟨?_,?_⟩))
 .have:dW x<bH f:=by rw[h];exact E5 J
  omega
 unfold rk;rw[show(2*dW x+ic (p x) s)/2=dW x by omega,show(2*dW x+ic (p x) s)%2=ic (p x) s by omega,Kn,hp,Gt aa]
def vx(f:aI)(p:Nat->Bool)(x:Nat):Prop:= ∃b,∀s,s<2->cJ (rJ f p) (2*x+s) (ic b s)
def akH(f:aI)(p:Nat->Bool):vx f p 0:=⟨false,λs _=>by rw[show 2*0+s=s by omega];exact .refl _⟩
def apq(a b:Bool){s:Nat}(h:s<2):ic a (ic b s)=ic (a !=b) s:=by unfold ic;cases a<;>cases b<;>simp;omega
def Xz(hp:∀x,p (dW x)=p x){x:Nat}(g:x<bH f)(h:vx f p x):vx f p (dW x):=by obtain⟨b,h⟩:=h;refine⟨b !=p x,λs aa=>?_⟩;have H:=(Ux hp g (s:=ic (p x) s) (A8 aa)).symm.trans (h (ic (p x) s) (A8 aa));rwa[Gt aa,apq _ _ aa]at H
def Zi(hp:∀x,p (dW x)=p x){x:Nat}(H:x<bH f)(h:vx f p x):vx f p (bZ f x):=by obtain⟨t,h⟩:=h;exact⟨t,λs aa=>(RH hp H aa).symm.trans (h s aa)⟩
def ahg(hp:∀x,p (dW x)=p x){x:Nat}(H:x<bH f)(h:vx f p (bZ f x)):vx f p x:=by obtain⟨t,h⟩:=h;exact⟨t,λs aa=>(RH hp H aa).trans (h s aa)⟩
def abl(hp:∀x,p (dW x)=p x)(ok:gC F f){x:Nat}(j:x<bH f):vx f p x:=by
 have m:=xy ok;have z:=LO f;have D:∀y,y<bH f->dW y<bH f:=λy h=>by rw[z]at h |-;exact E5 h
 have g:∀i,i<I f->vx f p (2*i):=by
  intro i
  induction i with
  |zero=>intro _;exact akH f p
  |succ i A=>
   intro v;have r:=A J;have H:2*i<bH f:=J;have u:=Zi hp H r;have n:=m.lt _ H;have q:=Zi hp (D _ n) (Xz hp n u);have e:2*i=kU (I f) (i+1) true:=by unfold kU;rw[aM rfl,show i+1+I f-1=i+I f by omega,Jg,o_ J]
   rw[e,ag3 ok v]at q;exact q
 have str:∀y,y<2*I f->vx f p y:=λy h=>by
  rcases Bs y with c|c
  .rw[show y=2*(y/2) by omega];exact g _ J
  have:=Xz hp (x:=2*(y/2)) J (g (y/2) J);rw[tq]at this;rw[show y=2*(y/2)+1 by omega];exact this
 rcases DE x (2*I f)with c|c
 .exact str x c
 exact ahg hp j (str _ (m.ax x j c))
def aqh(g:ch F f)(hp:∀x,p (dW x)=p x){c:Nat->Bool}(hc:∀x,x<bH f->c (dW (bZ f x))=(c x !=p x)):¬cJ (rJ f p) 0 1:=by
 intro v;have ok:=g.ok;have hN:=LO f;have X:∀y,y<bH f->dW y<bH f:=λy h=>by rw[hN]at h |-;exact E5 h
 obtain⟨q,A⟩:=LH (bZ f) (bH f);have E:=apY (qH p (I f+I (aH f))) (rk p (bZ f)) (anv ok p) (λt m=>by have:=amQ p _ t m;omega)
 rw[afq]at E;have K1:bN (cJ (rJ f p)) (2*bH f)<=1:=aeI λy h=>by
  obtain⟨b,m⟩:=abl hp ok (x:=y/2) J;have e:=m (y%2) J;rw[show 2*(y/2)+y%2=y by omega]at e;have Z:ic b (y%2)<2:=A8 J;rcases(by omega:ic b (y%2)=0\/ic b (y%2)=1)with k|k
  .rw[k]at e;exact e
  rw[k]at e;exact e.trans v.symm
 have K2:2*sJ f<=bN (cJ (fI (2*bH f) ((qH p (I f+I (aH f))).foldl tr (rk p (bZ f))))) (2*bH f):=by
  have r:∀w∈fW (bZ f) (bH f),w≠[]:=λw z=>by obtain⟨⟨d,t,e,_⟩,_⟩:=yS ok w z;rw[e];simp
  have:=acy (R:=fI (2*bH f) ((qH p (I f+I (aH f))).foldl tr (rk p (bZ f)))) (f:=λy=>(M8 (fW (bZ f) (bH f)) (y/2),decide (y%2=1))) (n:=2*bH f)
   (g:=((fW (bZ f) (bH f)).map (·.headD 0)).flatMap λx=>[2*x,2*x+1]) ?_ ?_ ?_
  .rw[Vw,cT]at this;exact this
  .rintro a b ⟨ha,rfl⟩
   rw[ait hp _ J];have h:a/2<bH f:=J;obtain⟨u,N,H⟩:=Ho.1 (A _ h);obtain⟨i,O⟩:=iA N;simp only[show(2*bZ f (a/2)+a%2)/2=bZ f (a/2) by omega,show(2*bZ f (a/2)+a%2)%2=a%2 by omega];rw[TL q O H,TL q O (GI (xy ok) N H)]
  .refine Wl λx B=>?_;obtain⟨w,z,rfl⟩:=eJ.1 B;obtain⟨⟨d,t,e,hd⟩,_⟩:=yS ok w z;rw[e];simp only[List.headD_cons];omega
  refine aaS (g:=M8 (fW (bZ f) (bH f))) (c:=λ_=>false) (λx=>?_) (λx=>?_) ?_
  .simp only[show 2*x/2=x by omega,show 2*x%2=0 by omega];simp
  .simp only[show(2*x+1)/2=x by omega,show(2*x+1)%2=1 by omega];simp
  rw[agz q r];exact Um
 have K3:2*(aF af.aN f+aF af.aJ f/2)<=bN (cJ (fI (2*bH f) (rk p (bZ f)))) (2*bH f):=by
  obtain⟨L,l1,Q,Y⟩:=agA ok;have:=acy (R:=fI (2*bH f) (rk p (bZ f))) (f:=λy=>(oR f (lH f (dW (y/2))),(c (dW (y/2))!=decide (y%2=1)))) (n:=2*bH f)
   (g:=(L.map (2* ·)).flatMap λx=>[2*x,2*x+1]) ?_ ?_ ?_
  .rw[Vw,cT,l1]at this;exact this
  .rintro a b ⟨ha,rfl⟩
   have h:dW (a/2)<bH f:=X _ J;have t1:=(adh ok h).1;have T:=hc _ h;have Z:ic (p (a/2)) (a%2)<2:=A8 J;unfold rk;simp only[show(2*bZ f (dW (a/2))+ic (p (a/2)) (a%2))/2=bZ f (dW (a/2)) by omega,show(2*bZ f (dW (a/2))+ic (p (a/2)) (a%2))%2=ic (p (a/2)) (a%2) by omega,t1,T,hp];rcases Bs a with k|k<;>rw[k]<;>cases c (dW (a/2))<;>cases p (a/2)<;>rfl
  .refine Wl λx B=>?_;obtain⟨j,M,rfl⟩:=eJ.1 B;have:=Q j M;omega
  refine aaS (g:=λx=>oR f (lH f (dW x))) (c:=λx=>c (dW x)) (λx=>?_) (λx=>?_) ?_
  .simp only[show 2*x/2=x by omega,show 2*x%2=0 by omega];simp
  .simp only[show(2*x+1)/2=x by omega,show(2*x+1)%2=1 by omega];simp
  rw[u9];have:L.map ((λx=>oR f (lH f (dW x))) ∘ (2* ·))=L.map (oR f):=yC λj M=>by have:=Ah (f:=f) (Q j M) false;simp only[Function.comp_apply,tq];rw[show 2*j+1=kU (I f) j false from rfl,this]
  rw[this];exact Y
 have ad:=Zs ok;have iD:=F_ (h:=f);have ab:=g.nw;have D:=ok.cr;unfold lA at D;simp only[cq,c6]at D;have ed:=D.1.1;have E:bN (cJ (fI (2*bH f) ((qH p (I f+I (aH f))).foldl tr (rk p (bZ f))))) (2*bH f)+bN (cJ (fI (2*bH f) (rk p (bZ f)))) (2*bH f)<=2*bN (cJ (rJ f p)) (2*bH f)+2*(I f+I (aH f)):=E;omega
def agD(g:ch F f)(hp:∀x,p (dW x)=p x){w:aA}(j:w∈fW (bZ f) (bH f)){x s:Nat}(m:x∈w)(H:y∈w)(aa:s<2):cJ (rJ f p) (2*x+s) (2*y+s):=by
 have base:∀a b,cJ (λu v=>cJ (rJ f p) (2*u+s) (2*v+s)) a b->cJ (rJ f p) (2*a+s) (2*b+s):=by
  intro a b h
  induction h with
  |rel r=>exact r
  |refl a=>exact .refl _
  |symm _ n=>exact n.symm
  |trans _ _ i1 i2=>exact i1.trans i2
 exact base _ _ (anu (xy g.ok) (R:=λu v=>cJ (rJ f p) (2*u+s) (2*v+s)) (λy H=>.rel (RH hp H aa)) j m H)
def alM(g:ch F f)(hp:∀x,p (dW x)=p x){c:Nat->Bool}(m:∀x,x<bH f->c (dW (bZ f x))=(c x !=p x)){x:Nat}(q:x<bH f)(h:cJ (rJ f p) (2*x+0) (2*x+1)):False:=by
 obtain⟨b,H⟩:=abl hp g.ok q;have j:=H 0 U;have n:=H 1 U;have E:=j.symm.trans (h.trans n);refine aqh g hp m ?_;cases b with
 |true=>exact E.symm
 |false=>exact E
def ajY(g:ch F f)(h:x<bH f){w:aA}(H:w∈fW (bZ f) (bH f))(m:x∈w)(j:dW x∈w):False:=by
 have hp:∀x:Nat,(λ_:Nat=>true) (dW x)=(λ_:Nat=>true) x:=λ_=>rfl;have n:∀x,x<bH f->vE f (dW (bZ f x))=(vE f x !=(λ_:Nat=>true) x):=λx h=>by rw[(adh g.ok h).2];cases vE f x<;>rfl
 have E:=agD (p:=λ_=>true) g hp H m j (s:=0) U;have q:=Ux (f:=f) (p:=λ_=>true) hp h (s:=1) U;exact alM (p:=λ_=>true) g hp n h (E.trans q.symm)
end
def eB(l:cO)(L:aI)(D:eo):Prop:= ∃z:List (aZ×Bool),z.map (·.1)=l/\z.map (·.1.l)=L/\z.map (·.2)=D/\ ∀x∈z,(x.1.l.kind==1)->x.2=x.1.d
def eB.fin{l:cO}(h:eB l L D):tP l=Rd L D:=by
 obtain⟨z,rfl,rfl,rfl,g⟩:=h;refine arX aG aG λi p hp f=>?_;rw[gZ]at hp |-;cases H:z[i]? with
 |none=>rw[H]at hp;cases hp
 |some x=>rw[H]at hp;cases hp;have:=g x (bY H) f;rw[<-this];rfl
def eB.base(f:aI):eB (a_ f) f (tO f):=by
 refine⟨(List.range (I f)).map λi=>(⟨f.getD i nv,rB f i⟩,dP f i),?_,?_,?_,?_⟩
 .simp[a_]
 .rw[u9];apply Ai;intro i;rw[gZ];by_cases h:i<I f
  .rw[nH h];simp[h]
  rw[o6 (by simp;omega),o6 J];rfl
 .rw[u9];rfl
 intro x g H;obtain⟨i,h,rfl⟩:=eJ.1 g;have h:=f_.1 h;obtain⟨l,hl⟩:=bq h;simp only[dT,hl,jV]at H |-;unfold rB;rw[hl];simp only;unfold af.aN;rw[H,tI]
def Ny{α β:Type}(f:α->β)(l x:List α)(k:Nat):(r9 l x k).map f=r9 (l.map f) (x.map f) k:=by unfold r9;simp[GN,Lq]
def eB.ins{l x:cO}{X:aI}{E:eo}(h:eB l L D)(H:eB x X E)(k:Nat):eB (ey l x k) (r9 L X k) (r9 D E k):=by
 obtain⟨z,rfl,rfl,rfl,f⟩:=h;obtain⟨y,rfl,rfl,rfl,g⟩:=H;refine⟨r9 z y k,by rw[Ny];rfl,by rw[Ny],by rw[Ny],λx H=>?_⟩;unfold r9 at H;rcases fB.1 H with H|H
 .rcases fB.1 H with H|H
  .exact f x (qM H)
  exact g x H
 exact f x (rj H)
def TR{α β:Type}(f:α->β)(l:List α)(out:aA):(nC l out).map f=nC (l.map f) out:=by
 unfold nC J8;rw[List.map_filterMap,cT];congr 1;funext i;unfold Gu;split
 .rfl
 rw[gZ]
def eB.wo{l:cO}(h:eB l L D)(out:aA):eB (nC l out) (nC L out) (nC D out):=by obtain⟨z,rfl,rfl,rfl,H⟩:=h;exact⟨nC z out,TR _ _ _,TR _ _ _,TR _ _ _,λx f=>H x (ahA f)⟩
def OV{α β:Type}(f:α->β)(l:List α)(i j:Nat):(lp l i j).map f=lp (l.map f) i j:=by unfold lp;rw[gZ,gZ];cases l[i]? <;>cases l[j]? <;>simp[tK]
def agm{α:Type}{l:List α}{i:Nat}{x:α}(h:x∈lp l i j):x∈l:=by
 unfold lp at h;cases H:l[i]? with
 |none=>rw[H]at h;exact h
 |some a=>
  cases f:l[j]? with
  |none=>rw[H,f]at h;exact h
  |some b=>
   rw[H,f]at h;rcases Hc h with h|rfl
   .rcases Hc h with h|rfl
    .exact h
    exact bY f
   exact bY H
def eB.sw{l:cO}(h:eB l L D)(i j:Nat):eB (lp l i j) (lp L i j) (lp D i j):=by obtain⟨z,rfl,rfl,rfl,H⟩:=h;exact⟨lp z i j,OV _ _ _ _,OV _ _ _ _,OV _ _ _ _,λx f=>H x (agm f)⟩
def eB.map{l:cO}(h:eB l L D){f:aZ->aZ}{g:af->af}(m:∀p∈l,(f p).l=g p.l/\(f p).d=p.d/\(f p).l.kind=p.l.kind):eB (l.map f) (L.map g) D:=by
 obtain⟨z,rfl,rfl,rfl,u⟩:=h;refine⟨z.map λx=>(f x.1,x.2),?_,?_,?_,?_⟩
 .rw[u9,u9];rfl
 .rw[u9,u9];exact yC λx j=>(m x.1 (eJ.2 ⟨x,j,rfl⟩)).1
 .rw[u9];rfl
 intro x j H;obtain⟨y,n,rfl⟩:=eJ.1 j;obtain⟨_,q,r⟩:=m y.1 (eJ.2 ⟨y,n,rfl⟩);simp only at H |-;rw[r]at H;rw[q];exact u y n H
def eB.set{l:cO}(h:eB l L D){i:Nat}{p q:aZ}(hp:l[i]?=some p)(n:q.d=p.d)(r:q.l.kind=p.l.kind):eB (l.set i q) (L.set i q.l) D:=by
 obtain⟨z,rfl,rfl,rfl,m⟩:=h;rw[gZ]at hp;cases f:z[i]? with
 |none=>rw[f]at hp;cases hp
 |some x=>
  rw[f]at hp;cases hp;refine⟨z.set i (q,x.2),by rw[tK],by rw[tK],?_,λy g H=>?_⟩
  .rw[tK];apply Ai;intro j;rw[lC];by_cases e:i=j
   .subst e;rw[aM rfl,gZ,f];have:i<I z:=(ct.1 f).1;simp[this]
   rw[aD e]
  rcases Hc g with g|rfl
  .exact m y g H
  simp only at H |-;rw[n];exact m x (bY f) (by rw[<-r];exact H)
def eB.two{p q:aZ}{d e:Bool}(hp:(p.l.kind==1)->d=p.d)(H:(q.l.kind==1)->e=q.d):eB [p,q] [p.l,q.l] [d,e]:=
 ⟨[(p,d),(q,e)],rfl,rfl,rfl,λx h=>by
  simp only[dL,mV,or_false]at h;rcases h with rfl|rfl
  .exact hp
  exact H⟩
def eB.len{l:cO}(h:eB l L D):I L=I l/\I D=I l:=by obtain⟨z,rfl,rfl,rfl,_⟩:=h;simp
def kJ(f:aI)(i:Nat):(aQ f i).l=aR f i:=by
 by_cases h:i<I f
 .obtain⟨l,hl⟩:=bq h;show((a_ f).getD i _).l=f.getD i nv;rw[dT,dT,vl hl,hl];rfl
 show((a_ f).getD i _).l=f.getD i nv;rw[dT,dT,o6 (by rw[bR];omega),o6 J];rfl
def C3{i:Nat}(h:i<I f):f[i]?=some (aR f i):=by obtain⟨l,hl⟩:=bq h;rw[hl];show some l=some (f.getD i nv);rw[dT,hl];rfl
def aiU{α β:Type}{f g:α->Option β}:∀ {l:List α},(∀x∈l,f x=g x)->l.filterMap f=l.filterMap g:=by
 intro l
 induction l with
 |nil=>intro _;rfl
 |cons a l j=>intro h;rw[List.filterMap_cons,List.filterMap_cons,h a aG,j λx H=>h x (by simp[H])]
def Nh{i:Nat}(h:i<I f):(a_ f)[i]?=some (aQ f i):=by rw[vl (C3 h)];congr 1;show _=(a_ f).getD i _;rw[dT,vl (C3 h)];rfl
def uG{l:af}(h:l.kind=2):l.aJ:=by unfold af.aJ;rw[h];rfl
def yW{l:af}(h:l.kind=1):l.aN:=by unfold af.aN;rw[h];rfl
def ad2{l:af}(h:l.aJ):l.kind=2:=by unfold af.aJ at h;exact eq_of_beq h
def P1{l:af}(h:l.aN):l.kind=1:=by unfold af.aN at h;exact eq_of_beq h
def NC(l:cO)(drop:Nat->aZ->Bool)(out:aA)(h:∀i p,l[i]?=some p->(drop i p↔i∈out)):nZ l drop=nC l out:=by
 unfold nZ va nC J8;refine aiU λi H=>?_;unfold DZ Gu;cases hp:l[i]? with
 |none=>simp
 |some p=>
  simp only;by_cases c:i∈out
  .rw[aM c,aM ((h i p hp).2 c)]
  rw[aD c,aD λd=>c ((h i p hp).1 d)]
def apG{α:Type}{l:List α}{out:aA}{x:α}(h:x∈nC l out):∃i,i∉out/\l[i]?=some x:=by
 unfold nC J8 at h;obtain⟨i,_,H⟩:=N6.1 h;unfold Gu at H;split at H
 .cases H
 rename_i c;exact⟨i,c,H⟩
section
variable {F:Nat} {f:aI}
def ch.pos(g:ch F f):0<I f:=nA.2 g.ne
def ch.wS(g:ch F f)(e:Nat):bt f e<I f:=fO _ g.pos
def ch.CH(g:ch F f){i:Nat}{l:af}(hl:f[i]?=some l)(hp:l.aN):pH F f l:=g.ok.ax.good l (bY hl) hp
def ch.one(g:ch F f){i:Nat}{l m:af}(hl:f[i]?=some l)(h:f[j]?=some m)(q:l.aN)(n:m.aN)(r:l.gate=m.gate)(H:l.aK=m.aK):i=j:=g.ok.ax.inj i j l m hl h q n ((NI (g.CH hl q) (g.CH h n)).2 ⟨r,H⟩)
def amo(g:ch F f){a:Nat}(Y:a<I f):
  (Cf f a).isSome=(sK (aR f a) (aR f (bt f a))&&(decide ((2:Int)<(aF af.aN f:Nat))||(((aF af.aJ f/2:Nat):Int)==0)))/\
  ∀L,Cf f a=some L->eB L ((nC f [a,bt f a]).map (rS (aR f a).gate (if(aR f (bt f a)).aK<(aR f a).aK then(aR f (bt f a)).aK else(aR f a).aK) 2)) (nC (tO f) [a,bt f a]):=by
 have H:=g.wS a;have X:=kJ f a;have N:=kJ f (bt f a);unfold Cf;simp only
 change ((if((aQ f a).l.kind==1)&&(((aQ f (bt f a)).l.kind==1)&&(((aQ f a).l.gate==(aQ f (bt f a)).l.gate)&&((qD (aQ f a).l.aK (aQ f (bt f a)).l.aK-uU (aQ f a).l.aK (aQ f (bt f a)).l.aK==1)&& !(decide (aF af.aN f<=2)&&decide (0<aF af.aJ f/2)))))then some (eu (nZ (a_ f) λk _=>decide (k=a)||decide (k=bt f a)) (aQ f a).l.gate (qD (aQ f a).l.aK (aQ f (bt f a)).l.aK) (-2))else none).isSome=_/\ ∀L,(if((aQ f a).l.kind==1)&&(((aQ f (bt f a)).l.kind==1)&&(((aQ f a).l.gate==(aQ f (bt f a)).l.gate)&&((qD (aQ f a).l.aK (aQ f (bt f a)).l.aK-uU (aQ f a).l.aK (aQ f (bt f a)).l.aK==1)&& !(decide (aF af.aN f<=2)&&decide (0<aF af.aJ f/2)))))then some (eu (nZ (a_ f) λk _=>decide (k=a)||decide (k=bt f a)) (aQ f a).l.gate (qD (aQ f a).l.aK (aQ f (bt f a)).l.aK) (-2))else none)=some L->_)
 rw[X,N];have M:=C3 Y;have A:=C3 H;generalize hx:aR f a=x at*;generalize hy:aR f (bt f a)=y at*;have q:(qD x.aK y.aK-uU x.aK y.aK==1)=((x.aK==y.aK+1)||(y.aK==x.aK+1)):=by rw[kS];unfold qD uU;simp only[c6,jC];split<;>split<;>omega
 have Z:(!(decide (aF af.aN f<=2)&&decide (0<aF af.aJ f/2)))=(decide ((2:Int)<(aF af.aN f:Nat))||(((aF af.aJ f/2:Nat):Int)==0)):=by rw[kS];simp only[hY,Bool.and_eq_false_iff,decide_eq_false_iff_not,jC,fH,c6];omega
 rw[q,Z];have R:((x.kind==1)&&((y.kind==1)&&((x.gate==y.gate)&&(((x.aK==y.aK+1)||(y.aK==x.aK+1))&&(decide ((2:Int)<(aF af.aN f:Nat))||(((aF af.aJ f/2:Nat):Int)==0))))))=(sK x y&&(decide ((2:Int)<(aF af.aN f:Nat))||(((aF af.aJ f/2:Nat):Int)==0))):=by unfold sK;simp only[Cy]
 rw[R];refine⟨by split<;>simp_all,λL r=>?_⟩;split at r
 .rename_i v;cases r;rw[cq]at v;have H:=v.1;unfold sK at H;simp only[cq,jC,c6]at H;obtain⟨z,T,E,k4⟩:=H;rw[NC (a_ f) (λk _=>decide (k=a)||decide (k=bt f a)) [a,bt f a] (λi p _=>aG)];refine((eB.base f).wo _).map λp hp=>?_;obtain⟨i,u,n⟩:=apG hp;simp only[dL,mV,or_false,not_or]at u;have D:i<I f:=by have:=(ct.1 n).1;rwa[bR]at this
  have B:f[i]?=some p.l:=by rw[vl (C3 D)]at n;cases n;exact C3 D
  unfold lk rS;by_cases j:(p.l.kind==1)
  .rw[j];by_cases m:(p.l.gate==x.gate)
   .rw[m];simp only[tI,fH];have Q:p.l.aK≠x.aK:=λe=>u.1 (g.one B M j (by unfold af.aN;simp[z]) (eq_of_beq m) e);have O:p.l.aK≠y.aK:=λe=>u.2 (g.one B A j (by unfold af.aN;simp[T]) (by rw[eq_of_beq m,E]) e);have:(qD x.aK y.aK<p.l.aK)↔((if y.aK<x.aK then y.aK else x.aK)<p.l.aK):=by
     unfold qD;split<;>split<;>omega
    by_cases cP:(if y.aK<x.aK then y.aK else x.aK)<p.l.aK
    .rw[aM (this.2 cP),aM cP];exact⟨rfl,rfl,rfl⟩
    rw[aD (λh=>cP (this.1 h)),aD cP];exact⟨rfl,rfl,rfl⟩
   rw[Bool.eq_false_iff.2 m];exact⟨rfl,rfl,rfl⟩
  rw[Bool.eq_false_iff.2 j];exact⟨rfl,rfl,rfl⟩
 cases r
end
section
variable {F:Nat} {f:aI}
def ch.two(g:ch F f):2<=I f:=by have h:=Zs g.ok;obtain⟨l,hl,hp⟩:=g.first;have H:0<aF af.aN f:=xz.2 ⟨l,bY hl,hp⟩;have j:=g.even;omega
def ch.F2(g:ch F f){a:Nat}(h:a<I f):a≠bt f a:=aeC g.two h
def ch.three(g:ch F f){i k:Nat}{l m x:af}(H:f[i]?=some l)(r:f[j]?=some m)(n:f[k]?=some x)(q:l.aJ)(u:m.aJ)(v:x.aJ)(E:l.id=m.id)(z:l.id=x.id)(B:i≠j):k=i\/k=j:=by
 have hp:=g.ids.2;by_cases y:k=i
 .exact .inl y
 by_cases h:k=j
 .exact .inr h
 have D:=(hp i j l m H r q u E B).1;have A:=(hp i k l x H n q v z λe=>y e.symm).1;have O:=(hp j k m x r n u v (E▸z) λe=>h e.symm).1;revert D A O;cases l.over<;>cases m.over<;>cases x.over<;>simp
def Wp(ids:cS)(p:aZ):(p_ ids p).l=MT ids p.l/\(p_ ids p).d=p.d/\(p_ ids p).l.kind=p.l.kind:=by
 unfold p_ MT;split
 .refine⟨?_,rfl,rfl⟩;unfold iY XA;simp only[iV,V0]
 exact⟨rfl,rfl,rfl⟩
def aoW(g:ch F f){a:Nat}(h:a<I f):
  (BG f a).isSome=(mK f a&&((aR f a).id==(aR f (bt f a)).id))/\
  ∀L,BG f a=some L->eB L ((nC f [a,bt f a]).map (MT [(aR f a).id])) (nC (tO f) [a,bt f a]):=by
 have n:=g.wS a;have A:=g.F2 h;have z:=iX h;have v:=iX n;unfold BG mK;simp only;change ((if((aQ f a).l.kind==2)&&(((aQ f (bt f a)).l.kind==2)&&((aQ f a).l.id==(aQ f (bt f a)).l.id))then some (zm (a_ f) [(aQ f a).l.id])else none).isSome=_/\ ∀L,(if((aQ f a).l.kind==2)&&(((aQ f (bt f a)).l.kind==2)&&((aQ f a).l.id==(aQ f (bt f a)).l.id))then some (zm (a_ f) [(aQ f a).l.id])else none)=some L->_);rw[kJ,kJ,<-Cy];refine⟨by split<;>simp_all,λL H=>?_⟩;split at H
 .rename_i u;cases H;simp only[cq,c6]at u;obtain⟨⟨m,q⟩,r⟩:=u;have x:nZ (a_ f) (qJ [(aR f a).id])=nC (a_ f) [a,bt f a]:=by
   refine NC _ _ _ λi p hp=>?_;have D:i<I f:=by have:=(ct.1 hp).1;rwa[bR]at this
   have B:f[i]?=some p.l:=by rw[vl (iX D)]at hp;cases hp;exact iX D
   unfold qJ;simp only[cq,c6,GD,dL,mV,or_false,fH];constructor
   .rintro ⟨Q,E⟩
    exact g.three z v B (uG m) (uG q) (uG Q) r E.symm A
   have get:∀j,j<I f->i=j->p.l=aR f j:=λj y e=>by subst e;rw[iX y]at B;exact(xH B).symm
   rintro(e|e)
   .rw[get _ h e];exact⟨m,rfl⟩
   rw[get _ n e];exact⟨q,r.symm⟩
  show eB ((nZ (a_ f) (qJ [(aR f a).id])).map (p_ [(aR f a).id])) _ _;rw[x];exact((eB.base f).wo _).map λp _=>Wp _ p
 cases H
def SX(f:aI)(e:Nat)(O:Bool):iz f e O=(mK f e&&(((aR f e).over==O)&&((aR f (bt f e)).over==O))):=by unfold iz mK;rw[kJ,kJ,Cy]
def ano(g:ch F f){a b:Nat}(z:a<I f)(A:b<I f):
  (xk F f a b).isSome=AN F f a b/\
  ∀L,xk F f a b=some L->eB L ((nC f [a,bt f a,b,bt f b]).map (MT [(aR f a).id,(aR f (bt f a)).id])) (nC (tO f) [a,bt f a,b,bt f b]):=by
 have T:=g.wS a;have X:=g.wS b;have na:=g.F2 z;have nb:=g.F2 A;have E:=iX z;have H:=iX T;have O:=iX A;have y:=iX X;have vW:(((iz f a true&&iz f b false)||(iz f a false&&iz f b true))&&(!((aQ f a).l.id==(aQ f (bt f a)).l.id)&&
  (((((aQ f b).l.id==(aQ f a).l.id)&&((aQ f (bt f b)).l.id==(aQ f (bt f a)).l.id))||(((aQ f b).l.id==(aQ f (bt f a)).l.id)&&((aQ f (bt f b)).l.id==(aQ f a).l.id)))&&
  (!((a+2)%I f==b)&&(!((b+2)%I f==a)&&nD F f 0 [a,b] a)))))=AN F f a b:=by
  rw[SS rfl z];unfold AN;simp only[SX,kJ];have e1:((a+2)%I f==b)=((((a+2)%I f:Nat):Int)==(b:Int)):=by rw[kS];simp only[c6];omega
  have e2:((b+2)%I f==a)=((((b+2)%I f:Nat):Int)==(a:Int)):=by rw[kS];simp only[c6];omega
  rw[e1,e2];have s1:((aR f b).id==(aR f a).id)=((aR f a).id==(aR f b).id):=by rw[kS];simp only[c6];exact eq_comm
  have s2:((aR f (bt f b)).id==(aR f (bt f a)).id)=((aR f (bt f a)).id==(aR f (bt f b)).id):=by rw[kS];simp only[c6];exact eq_comm
  have B3:((aR f b).id==(aR f (bt f a)).id)=((aR f (bt f a)).id==(aR f b).id):=by rw[kS];simp only[c6];exact eq_comm
  have xU:((aR f (bt f b)).id==(aR f a).id)=((aR f a).id==(aR f (bt f b)).id):=by rw[kS];simp only[c6];exact eq_comm
  rw[s1,s2,B3,xU];generalize mK f a=p1;generalize mK f b=p2;generalize((aR f a).id==(aR f (bt f a)).id)=p3;generalize((((a+2)%I f:Nat):Int)==(b:Int))=p4;generalize((((b+2)%I f:Nat):Int)==(a:Int))=p5;generalize((aR f a).id==(aR f b).id)=p6;generalize((aR f (bt f a)).id==(aR f (bt f b)).id)=p7;generalize((aR f (bt f a)).id==(aR f b).id)=p8;generalize((aR f a).id==(aR f (bt f b)).id)=p9;generalize qK F f 0 [a,b]=yx;generalize(aR f a).over=o1;generalize(aR f b).over=o2;generalize(aR f (bt f a)).over=o3;generalize(aR f (bt f b)).over=o4;cases p1<;>cases p2<;>cases p3<;>simp
  all_goals(cases o1<;>cases o2<;>cases o3<;>cases o4<;>simp)
  all_goals(cases p6<;>cases p7<;>cases p8<;>cases p9<;>cases p4<;>cases p5<;>simp)
 unfold xk;rw[vW];refine⟨by split<;>simp_all,λL N=>?_⟩;split at N
 .rename_i Q;cases N;unfold AN at Q;simp only[cq,jC,hY,c6,pQ]at Q;obtain⟨n,r,cP,fv,c5,fq,uX,zr,EI,_⟩:=Q;unfold mK at n r;simp only[cq,c6]at n r;have R:(aR f a).aJ:=uG n.1;have v:(aR f (bt f a)).aJ:=uG n.2;have Z:(aR f b).aJ:=uG r.1;have u:(aR f (bt f b)).aJ:=uG r.2;have hk:nZ (a_ f) (qJ [(aQ f a).l.id,(aQ f (bt f a)).l.id])=nC (a_ f) [a,bt f a,b,bt f b]:=by
   rw[kJ,kJ];refine NC _ _ _ λi p hp=>?_;have Y:i<I f:=by have:=(ct.1 hp).1;rwa[bR]at this
   have B:f[i]?=some p.l:=by rw[vl (iX Y)]at hp;cases hp;exact iX Y
   have ab:a≠b:=λe=>EI (by rw[e]);unfold qJ;simp only[cq,c6,GD,dL,mV,or_false,fH];constructor
   .rintro ⟨q1,q⟩
    have x:p.l.aJ:=uG q1;have over:∀ {i j:Nat}{l m:af},f[i]?=some l->f[j]?=some m->l.over≠m.over->i≠j:=λh k ho e=>by subst e;rw[h]at k;cases k;exact ho rfl
    rcases q with q|q<;>rcases fq with⟨M,D⟩|⟨M,D⟩
    .rcases g.three E O B R Z x M q.symm ab with e|e<;>subst e<;>simp
    .rcases g.three E y B R u x M q.symm (over E y (by rw[<-zr];exact EI))with e|e<;>subst e<;>simp
    .rcases g.three H y B v u x D q.symm (over H y (by rw[<-zr,<-uX];exact EI))with e|e<;>subst e<;>simp
    rcases g.three H O B v Z x D q.symm (over H O (by rw[<-uX];exact EI))with e|e<;>subst e<;>simp
   have get:∀j,j<I f->i=j->p.l=aR f j:=λj hj e=>by subst e;rw[iX hj]at B;exact(xH B).symm
   rintro(e|e|e|e)
   .rw[get _ z e];exact⟨n.1,.inl rfl⟩
   .rw[get _ T e];exact⟨n.2,.inr rfl⟩
   .rw[get _ A e];exact⟨r.1,fq.elim (λd=>.inl d.1.symm) (λd=>.inr d.2.symm)⟩
   rw[get _ X e];exact⟨r.2,fq.elim (λd=>.inr d.2.symm) (λd=>.inl d.1.symm)⟩
  show eB ((nZ (a_ f) (qJ [(aQ f a).l.id,(aQ f (bt f a)).l.id])).map (p_ [(aQ f a).l.id,(aQ f (bt f a)).l.id])) _ _;rw[hk,kJ,kJ];exact((eB.base f).wo _).map λp _=>Wp _ p
 cases N
end
end
end Go.Abs
