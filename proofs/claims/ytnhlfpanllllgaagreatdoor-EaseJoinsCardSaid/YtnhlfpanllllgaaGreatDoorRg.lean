/- A part. -/
import Derived.Test.YtnhlfpanllllgaaGreatDoorRf
set_option linter.all false
open List renaming length->I
set_option maxRecDepth 100000
set_option maxHeartbeats 16000000
namespace Go.Abs
variable{F m j x f:Nat}{g:lT}{L:ae}{u:bn}{Q:fM}
section
variable{h:Nat}
def Vd{a:dM}{m:dx}{r:dB}:kE F h a g (m::r)=if(nL F h a g m).1=0 then kE F h a (nL F h a g m).2 r else nL F h a g m:=rfl
def arF{al:cG}(ac:yV al)(cN:pI){h:Nat}{B E:Nat}{r0:aG}{b0:aB}{a:dM}{M:dB}{O:lT}{k:Nat}{aj:aB}(gO:h<=20000)(iB:I M<=8000)(tj:∀T∈M,rq F a.c Bg T)(ha:uz F L (I O) a)
  (D:ya F h L m r0 b0 j x O k u aj) (R:HW a F M B E 0 u aj)
  (hN:∀y (A:bn) (f:aB),kE F h a O M=(0,y)->ya F h L m r0 b0 j x y k A f->I O<=I y->Q .normal A f)
  (hX:∀(A:bn) (f:aB),(kE F h a O M).1≠0->MC F L m r0 b0 (kE F h a O M) j A f->Q (.exit 0) A f):bP S al (.loop LM) (ld 2 Q) u aj:=by
 refine c_ (λz u aj=>∃g,ya F h L m r0 b0 j x g k u aj/\HW a F M B E z u aj/\kE F h a g (M.drop z)=kE F h a O M/\I O<=I g) 0 (I M) (cE _) ⟨O,D,R,by rw[Ih],cT _⟩ ?_;rintro z u aj hj ⟨g,D,R,H,N⟩
 by_cases Y:z<I M
 .obtain⟨T,X⟩:=aR Y;have Z:=Ge X;rw[Z,Vd]at H;have Pf:=ha.mono N;have aA:=tj T (ch X);have n1:∀y (A:bn) (f:aB),nL F h a g T=(0,y)->ya F h L m r0 b0 j x y k A f->HW a F M B E (z+1) A f->Iq (I M) (λz u aj=>∃g,ya F h L m r0 b0 j x g k u aj/\HW a F M B E z u aj/\kE F h a g (M.drop z)=kE F h a O M/\I O<=I g) z (ld 2 Q) .normal A f:=by
   intro y A f e h1 h2;rw[e]at H;simp only[if_true]at H;have kL:I g<=I y:=by
    have:(nL F h a g T).2=y:=by rw[e]
    rw[<-this];unfold nL;split
    .exact cT _
    split
    .exact cT _
    simp
   exact⟨Y,y,h1,h2,H,J⟩
  have n2:∀(A:bn) (f:aB),(nL F h a g T).1≠0->MC F L m r0 b0 (nL F h a g T) j A f->Iq (I M) (λz u aj=>∃g,ya F h L m r0 b0 j x g k u aj/\HW a F M B E z u aj/\kE F h a g (M.drop z)=kE F h a O M/\I O<=I g) z (ld 2 Q) (.exit 0) A f:=by intro A f e ab;rw[aw e]at H;rw[H]at e ab;exact hX A f e ab
  obtain⟨s,hs,gi,hq⟩:=D.que;exact round hs ac cN gO iB X aA Pf D hq R n1 n2
 have PB:z=I M:=J;subst PB;rw[Ak]at H;have H:(0,g)=kE F h a O M:=H;obtain⟨fe,bA,Ls,IS,zD,bV⟩:=R;obtain⟨e1,e2,e9,fD,bM,que,bv,ne,lim,alls,fr⟩:=D;simp only[go_sem,LM,IS,zD,dW];refine hN g _ _ H.symm ⟨?_,?_,?_,?_,bM,que,bv,ne,lim,alls,fr⟩ N;all_goals(simp only[go_sem,e1,e2,e9,fD];first|done|rfl)
def Xw(F h:Nat)(L:ae)(m:Nat)(r0:aG)(b0:aB)(r:Nat×lT)(v:V)(A:aB):Prop:=∃s g,v=.tup [.one (.hsl s g 5 0 (I r.2)),fT (r.1==0)]/\oq s/\A s=(g,some (.arr Qp 5 (gX F r.2)))/\A 512512000=(m,some (.var [.p (.bool (r.1==2))]))/\r.2≠[]/\(∀M∈r.2,uz F L (I r.2) M)/\ ∀i,¬oq i->i≠512512000->i∉r0->A i=b0 i
def Nz{k:Nat}{a:dM}(H:g[k]?=some a):Ap F h (f+1) k g=if(kE F h a g (k9 F a.c)).1=0 then Ap F h f (k+1) (kE F h a g (k9 F a.c)).2 else kE F h a g (k9 F a.c):=by show(match g[k]? with|none=>(0,g)|some a=>_)=_;rw[H]
def VY{k:Nat}(H:g[k]?=none):Ap F h (f+1) k g=(0,g):=by show(match g[k]? with|none=>(0,g)|some a=>_)=_;rw[H]
def aqi{k:Nat}{e:b_}(h:(gX F g)[k]?=some e):∃a,g[k]?=some a/\e=a.ps F:=by
 rw[fY]at h;cases hs:g[k]? with
 |none=>rw[hs]at h;cases h
 |some a=>rw[hs]at h;cases h;exact⟨a,rfl,rfl⟩
def out{al:cG}{s:Nat}(E:wu s)(M:yV al)(cN:pI){h:Nat}{D:Nat}{r0:aG}{b0:aB}{k:Nat}{aj:aB}(gO:h<=20000)
  (hI:ya F h L m r0 b0 j x g k u aj) (que:C5 s j D (gX F g) k aj) (hk:k<=I g)
  (hE:∀(f:bn) (A:aB),k=I g->f 6=.one (.hsl s D 5 0 (I g))->f 7=fT true->A s=(D,some (.arr Qp 5 (gX F g)))->A 512512000=(m,some (.var [.p (.bool false)]))->(∀i,¬oq i->i≠512512000->i∉r0->A i=b0 i)->Q .ret f A)
  (hN:∀a O (f:bn) (A:aB),g[k]?=some a->kE F h a g (k9 F a.c)=(0,O)->ya F h L m r0 b0 j x O (k+1) f A->I g<=I O->Q .normal f A)
  (hX:∀a (f:bn) (A:aB),g[k]?=some a->(kE F h a g (k9 F a.c)).1≠0->MC F L m r0 b0 (kE F h a g (k9 F a.c)) j f A->Q (.exit 0) f A):bP S al W3 Q u aj:=by
  have ag:=hI;obtain⟨e1,e2,e9,fD,bM,_,bv,ne,lim,alls,fr⟩:=hI;obtain⟨bq,bs⟩:=que;have T:=M.gH;have o1:=E.ok M;have gQ:=E.ne;have o2:=M.v;have R:I (gX F g)=I g:=Ad F g;have wM:((([V.one (.bh 1600192192 j 0)]:dN).map (jA aj)).flatten)=[1600192192,s]:=by
   have r1:jA aj (.one (.bh 1600192192 j 0))=[1600192192,s]:=by rw[LR bq];simp only[eR,jS,lI,Fo,lg];rw[DD (n:=4) bs,Jk];rfl
   rw[eR,jS,r1];rfl
  have gC:=axQ E (al:=f_ (S.ctx al) 44 [V.one (.bh 1600192192 j 0)] aj) (aj:=aj) (u:=j) (B:=D) (k:=k) (g:=gX F g) (qf (by rw[wM];simp)) (qf (by rw[wM];simp)) (sP ah) (sP ah) ⟨bq,bs⟩ (aCS F g) (by rw[R];omega) (by rw[R];exact hk);simp only[go_sem,W3,e1,e2,e9,fD,aG1];refine qq (E9 (by show al.gH (List.flatten _)=true;rw[wM];simp only[Gt,F_,T,o1,wX]) (by show(S.sites 44).all al.fs.contains=true;rw[az3];simp only[mN,oc,M.t,wX])) gC λv1 bY hP=>?_;rcases hP with⟨Cu,rfl,z⟩|⟨e,he,rfl,⟨ad,Z⟩,z⟩
  .have c3:=(z 1600192192 U).trans bq;have c5:=(z s (by rcases E with rfl|rfl<;>decide)).trans bs;have c4:=(z 512512000 U).trans bv;simp only[go_sem,e1,e2,e9,fD,c3,T];refine hE _ _ (by rw[R]at Cu;exact Cu) ?_ ?_ ?_ ?_ λi H y B=>?_
   .simp only[go_sem];first|done|rfl
   .simp only[go_sem];first|done|rfl
   .simp only[aT,Nat.reduceEqDiff,if_false,gQ];exact c5
   .simp only[aT,Nat.reduceEqDiff,if_false];exact c4
   have n1:i≠1600256256:=sY H rfl (.inl rfl);simp only[aT,aw n1];exact(z i (λan=>H (.inr (.inl an)))).trans (fr i H y B)
  obtain⟨a,X,rfl⟩:=aqi he;have ha:=alls a (ch X);obtain⟨⟨iB,tj⟩,ps⟩:=ac8 ha.chk;have MV:aJ S 45 [.agg [.p (.int .i64 F),.p (c8 a.c)],.one (.p (.sl [[.int .i64 3],[.int .i64 8]]))] (.tup [.one (aX iN 7 (aS (k9 F a.c))),.one (.p (.int .i64 0))]):=ps;have c2:=(z 1600128000 U U).trans bM;have c4:=(z 512512000 U U).trans bv;have iI:S.lone 1600448192=false:=ah;have Li:∀i,¬oq i->i≠512512000->i∉r0->bY i=b0 i:=λi H y B=>(z i (λan=>H (.inr (.inl an))) (sY H rfl (.inl rfl))).trans (fr i H y B);simp only[go_sem,e1,e2,e9,fD,dM.ps,T,afP];refine aCs (λi hi=>?_) MV iI (aey _) rfl λcc bJ gc N=>?_
  .simp only[dk,iu,or_false]at hi;rcases hi with rfl|rfl
   .exact M.c _ rfl
   exact M.c _ rfl
  have d0:=N 1600256256 U;have Y:=N 1600128000 U;have d3:=N 1600192192 U;have d4:=N s (by rcases E with rfl|rfl<;>decide);have d5:=N 512512000 U;simp only[go_sem,c2,ad,Z,c4,gQ]at d0 Y d3 d4 d5;have DH:∀i,¬oq i->i≠512512000->i∉r0->bJ i=b0 i:=λi H y B=>by have n1:i≠1600256256:=sY H rfl (.inl rfl);have n2:i≠1600448128:=sY H rfl (.inl rfl);rw[N i (sY H rfl (.inl rfl))];simp only[aT,aw n1,aw n2];exact Li i H y B
  rcases gc with⟨em,e⟩|⟨_,gg,e,bV⟩
  .cases e;have lO:k9 F a.c=[]:=by simpa [aS]using em
   simp only[go_sem,e1,e2,e9,fD,T];refine mx ?_;simp only[go_sem,LM,e1,e2,e9,fD,C8];refine hN a g _ _ X (by rw[lO];rfl) ⟨?_,?_,?_,?_,Y,⟨s,E,D,by rw[R];exact d3,d4⟩,d5,ne,lim,alls,DH⟩ (cT _);all_goals(simp only[go_sem,e1,e2,e9,fD];first|done|rfl)
  cases e;have ab:I (aS (k9 F a.c))=I (k9 F a.c):=k_ _;simp only[go_sem,e1,e2,e9,fD,ab,T];refine arF M cN (F:=F) (L:=L) (a:=a) (M:=k9 F a.c) (O:=g) (k:=k+1) (B:=(bY 1600256256).1+1) (E:=gg) (j:=j) (x:=x) (m:=m) (r0:=r0) (b0:=b0) gO iB tj ha ⟨?_,?_,?_,?_,Y,⟨s,E,D,by rw[R];exact d3,d4⟩,d5,ne,lim,alls,DH⟩ ⟨?_,d0,?_,?_,?_,bV⟩ (λO f A H y B=>hN a O f A X H y B) (λf A H y=>hX a f A X H y);all_goals(simp only[go_sem,e1,e2,e9,fD];first|done|rfl)
def aBH{al:cG}{aj:aB}{os:eZ}(h:∀b,b=aj->iH S al os Q u b):iH S al os Q u aj:=h _ rfl
noncomputable def iw (F h:Nat) (L:ae):Nat×lT:=Ap F h (h+1) 0 [⟨L,fW L,[]⟩]
def aj2{al:cG}(ac:yV al)(cN:pI){F:Nat}{Q:c6}{r0:aG}{aj:aB}(dZ:1<=h)(gO:h<=20000)(Z:dA (F:Int) L=0)(Hg:∀B:aB,(∀i∈r0,B i=aj i)->snap B ia Q=some (c8 L,r0))(ue:rh aj r0)(Y:∀i∈r0,al.ok i/\ ¬oq i/\i≠512512000)(bv:aj 512512000=(m,some (.var [.p (.bool false)]))):
  ∃v A,je S 25 [.agg [.p (.int .i64 F),Q],aC h,Mm m] al aj v A/\Xw F h L m r0 aj (iw F h L) v A:=by
 have ho:=ac.gH;have o2:=ac.v;have hF:=Wf Z;have vA:=w7 Z;have pm:=adk cN (F:=F) (L:=L) [] J Z;have MT:aJ S 42 [.agg [.p (.int .i64 F),.p (c8 L)],.one (.p (.sl []))] (.agg [.p (.int .i64 F),.p (c8 L),.p (.int .i64 F),.p (lV (mF L)),.p (.sl [])]):=pm;clear pm;have a3:(lV (mF L)).norm=c8 (fW L):=acq (mF L);have pp:=aoE (F:=(F:Int)) (L:=fW L) ⟨J,J⟩ (by have:=Bi L;omega) (anE (Oh Z));have km:snap (dE aj 1600000000 ((aj 1600000000).1+1,some (.var [.p (.int .i64 F),Q]))) ia Q=some (c8 L,r0):=Hg _ λi O=>by rw[aT,aw];intro e;exact(Y i O).2.1 (.inl (by rw[e];rfl))
 refine nc ars (jn rfl) ?_;simp only[go_sem,N_,ho,km,Wl];have an:512512000∉r0:=λR=>(Y _ R).2.2 rfl;have ab:rh (dE aj 1600000000 ((aj 1600000000).1+1,some (.var [.p (.int .i64 F),Q]))) r0:=λi O=>by
  obtain⟨ar,ty,z,es,R⟩:=ue i O;refine⟨ar,ty,z,es,?_⟩;rw[aT,aw]
  .exact R
  intro e;exact(Y i O).2.1 (.inl (by rw[e];rfl))
 obtain⟨az,hu,xK,yN,_⟩:=WB (aj:=dE aj 1600000000 ((aj 1600000000).1+1,some (.var [.p (.int .i64 F),Q]))) (s:=1600064064) (rd:=r0) (D:=.int .i64 F) (E:=c8 L) (A:=.int .i64 F) (y:=lV (mF L)) (x4:=.sl []) (l:=S.lone 1600064064) ab;rw[MA MT hu];refine⟨DX λi O=>?_,?_⟩
 .rcases fc.1 O with R|R
  .exact(Y i R).1
  exact(Y i (yN i R)).1
 refine aBH λbY cF=>?_;have ag:bY 512512000=(m,some (.var [.p (.bool false)])):=by rw[cF,xK _ an];simp only[aT,Nat.reduceEqDiff,if_false];exact bv
 have Li:∀i,¬oq i->i≠512512000->i∉r0->bY i=aj i:=λi H N E=>by have n1:i≠1600000000:=sY H rfl (.inl rfl);rw[cF,xK i E];simp only[aT,aw n1]
 clear cF hu xK yN ab km;have I5:uz F L 1 ⟨L,fW L,[]⟩:=⟨Z,rfl,rfl,(λaA hx=>by cases hx),aQ,rfl⟩;simp only[go_sem,ho,a3,Rb,G4 pp,ni,mW,j4,zd,sZ];refine c_ (λk u b=>∃g j x,ya F h L m r0 aj j x g k u b/\k<=I g/\Ap F h (h+1-k) k g=iw F h L) 0 h (cE _) ?_ ?_
 .refine⟨[⟨L,fW L,[]⟩],(bY 1600192192).1+1,(bY 1600128000).1+1,⟨?_,?_,?_,?_,?_,⟨_,.inl rfl,(bY 1600192064).1+1,?_,?_⟩,?_,aQ,dZ,λav hm=>?_,λi H N E=>?_⟩,cE _,rfl⟩
  .simp only[go_sem];first|done|rfl
  .simp only[go_sem];first|done|rfl
  .simp only[go_sem];first|done|rfl
  .simp only[go_sem];first|done|rfl
  .simp only[aT,Nat.reduceEqDiff,if_true,if_false];rfl
  .simp only[aT,Nat.reduceEqDiff,if_true,if_false];rfl
  .simp only[aT,Nat.reduceEqDiff,if_true,if_false];rfl
  .simp only[aT,Nat.reduceEqDiff,if_true,if_false];exact ag
  .rw[kV.1 hm];exact I5
  have n1:i≠1600064128:=sY H rfl (.inl rfl);have n2:i≠1600128000:=sY H rfl (.inl rfl);have n3:i≠1600192064:=sY H rfl (.inl rfl);have n4:i≠1600192192:=sY H rfl (.inl rfl);simp only[aT,aw n1,aw n2,aw n3,aw n4];exact Li i H N E
 rintro k u b hk ⟨g,j,x,hI,LV,y⟩
 have ap:=hI.lim;have aN:=hI.ne;have ad:=hI.all;have hf:h+1-k=(h-k)+1:=J;rw[hf]at y;have ret:∀(s M:Nat) (f:bn) (A:aB),oq s->k=I g->f 6=.one (.hsl s M 5 0 (I g))->f 7=fT true->A s=(M,some (.arr Qp 5 (gX F g)))->A 512512000=(m,some (.var [.p (.bool false)]))->(∀i,¬oq i->i≠512512000->i∉r0->A i=aj i)->Xw F h L m r0 aj (iw F h L) (.tup [f 6,f 7]) A:=by intro s M f A hs Cu h6 h7 T Hf mz;rw[VY (oF J)]at y;rw[<-y,h6,h7];exact⟨s,M,rfl,hs,T,Hf,aN,ad,mz⟩
 have hN:∀a D (f:bn) (A:aB),g[k]?=some a->kE F h a g (k9 F a.c)=(0,D)->ya F h L m r0 aj j x D (k+1) f A->I g<=I D->k<h/\ ∃g j x,ya F h L m r0 aj j x g (k+1) f A/\k+1<=I g/\Ap F h (h+1-(k+1)) (k+1) g=iw F h L:=by intro a D f A ha X R hl;have aq:=(cD.1 ha).1;rw[Nz ha,X]at y;simp only[if_true]at y;exact⟨J,D,j,x,R,J,by rw[show h+1-(k+1)=h-k by omega];exact y⟩
 have hX:∀a (f:bn) (A:aB),g[k]?=some a->(kE F h a g (k9 F a.c)).1≠0->MC F L m r0 aj (kE F h a g (k9 F a.c)) j f A->bP S al abM (ns al N_.results (Xw F h L m r0 aj (iw F h L))) f A:=by intro a f A ha X R;rw[Nz ha,aw X]at y;rw[y]at X R;generalize iw F h L=r at*;have ue:(r.1==0)=false:=ng.2 X;obtain⟨fD,⟨k',s,hs,M,hq,T⟩,Hf,hn,dp,mz⟩:=R;simp only[go_sem,abM,N_,fD,hq,ho];exact⟨_,M,by rw[ue],hs.own,T,Hf,hn,dp,mz⟩
 obtain⟨s,hs,M,hq⟩:=hI.que;refine out hs ac cN gO hI hq LV (λf A H h6 h7 T Hf mz=>?_) (λa D f A H N E h4=>hN a D f A H N E h4) (λa f A H N E=>hX a f A H N E);have:=ret _ _ f A hs.own H h6 h7 T Hf mz;rw[h6,h7]at this;simp only[go_sem,N_,h6,h7];exact this
end
end Go.Abs
