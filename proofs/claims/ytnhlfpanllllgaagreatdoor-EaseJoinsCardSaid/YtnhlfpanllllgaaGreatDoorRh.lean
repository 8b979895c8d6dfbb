/- A part. -/
import Derived.Test.YtnhlfpanllllgaaGreatDoorRg
set_option linter.all false
open List renaming length->I
set_option maxRecDepth 100000
set_option maxHeartbeats 16000000
namespace Go.Abs
variable{L N B A:ae}{h R M H g f:Nat}{m:dM}{D:s_}{x y u:PV}{E:Bool}{z:bn}{O:dN}{Q:fM}
section
variable{F:Nat}
def Xg(F:Nat)(L:ae)(q:dB×ae):Prop:=BO F L q.1 q.2/\Ik F q.2/\ ∃r,WN F L q.1 q.2 r/\aJ S 24 [df F L] r
open Classical in
noncomputable def gE (F:Nat) (L:ae):dB×ae:=if h:∃q,Xg F L q then Classical.choose h else([],[])
def Nq(h:dA (F:Int) L=0):Xg F L (gE F L):=by
 have H:∃q,Xg F L q:=by obtain⟨r,⟨m,M,j,f,u⟩,g⟩:=atf h (w7 h);exact⟨(m,M),j,f,r,u,g⟩
 unfold gE;rw[dif_pos H];exact Classical.choose_spec H
def asp(h:dA (F:Int) L=0):(gE F L).2.length<=I L/\((s8 F L).2->(gE F L).2.length<I L):=by
 obtain⟨j,g,_⟩:=Nq h;have hl:=j.len;refine⟨J,λu=>?_⟩;obtain⟨_,m,_⟩:=ab9 h;have x:=(m u).2;have A:(gE F L).1≠[]:=λe=>by have f:=j.rep;rw[e]at f;have f:some L=some (gE F L).2:=f;have H:=lq f;rw[<-H]at g;exact x g
 have:=jr.2 A;omega
def aA7{a:dM}:∀ {M:dB}{j:lT},(kE F h a j M).1=2->∃x,(kE F h a j M).2.getLast?=some x/\(s8 F x.c).2:=by
 intro M
 induction M with
 |nil=>intro j H;cases H
 |cons m r g=>
  intro j H;rw[Vd]at H |-;by_cases e:(nL F h a j m).1=0
  .rw[aH e]at H |-;exact g H
  rw[aw e]at H |-;unfold nL at H |-;split at H
  .cases H
  rename_i u;rw[aw u];split at H
  .cases H
  rename_i f;rw[aw f];dsimp only at H |-;split at H
  .rename_i y;exact⟨_,List.getLast?_concat,y⟩
  cases H
def auE:∀ {f k:Nat}{j:lT},(Ap F h f k j).1=2->∃x,(Ap F h f k j).2.getLast?=some x/\(s8 F x.c).2:=by
 intro f
 induction f with
 |zero=>intro k j H;cases H
 |succ f g=>
  intro k j H;cases hs:j[k]? with
  |none=>rw[VY hs]at H;cases H
  |some a=>
   rw[Nz hs]at H |-;by_cases e:(kE F h a j (k9 F a.c)).1=0
   .rw[aH e]at H |-;exact g H
   rw[aw e]at H |-;exact aA7 H
def sX(l:lT):dM:=l.getLast?.getD ⟨[],[],[]⟩
noncomputable def nG (F:Nat) (l:lT):dM:=(l[(qL F (l.map dM.n) (I l)).toNat]?).getD ⟨[],[],[]⟩
noncomputable def Bc (F h:Nat):Nat->ae->dB->ae×dB×Bool
 |0,_,_=>([],[],false)
 |f+1,a,p=>if(iw F h (gE F a).2).1=2 then Bc F h f (sX (iw F h (gE F a).2).2).c (p++(gE F a).1++(sX (iw F h (gE F a).2).2).w)
  else((nG F (iw F h (gE F a).2).2).n,p++(gE F a).1++(nG F (iw F h (gE F a).2).2).w,(iw F h (gE F a).2).1==0)
noncomputable def HZ (F h:Nat) (A:ae):ae×dB×Bool:=Bc F h (I A+2) (fW A) []
def alJ:∀ {a b:dB}{L bK:ae},pJ F L a=some bK->pJ F L (a++b)=pJ F bK b:=by
 intro a
 induction a with
 |nil=>intro b L bK h;cases h;rfl
 |cons m r f=>
  intro b L bK h;show(match iY F L m with|none=>none|some L=>pJ F L (r++b))=_;have h:(match iY F L m with|none=>none|some L=>pJ F L r)=some bK:=h;cases H:iY F L m with
  |none=>rw[H]at h;cases h
  |some j=>rw[H]at h;exact f h
structure sL (F:Nat) (N:ae) (b:Nat) (a:ae) (p:dB):Prop where
 chk:dA (F:Int) a=0
 rep:pJ F N p=some a
 kind:∀m∈p,ef m.k
 len:I p+I a<=I N+b
def sL.red{a:ae}{b:Nat}{p:dB}(h:sL F N b a p):sL F N b (gE F a).2 (p++(gE F a).1):=by
 obtain⟨r,_,_⟩:=Nq h.chk;refine⟨r.chk,by rw[alJ h.rep];exact r.rep,λm f=>?_,?_⟩
 .rcases fc.1 f with H|H
  .exact h.kind m H
  have:=r.kind m H;simp only[dk,iu,or_false]at this;unfold ef;omega
 have:=r.len;have:=h.len;rw[fv];omega
def sL.mem{a:ae}{b n:Nat}{p:dB}(h:sL F N b a p)(H:uz F a n m):sL F N (b+n) m.c (p++m.w):=by
 refine⟨H.chk,by rw[alJ h.rep];exact H.rep,λx g=>?_,?_⟩
 .rcases fc.1 g with f|f
  .exact h.kind x f
  have:=H.kind x f;simp only[dk,iu,or_false]at this;unfold ef;omega
 have:=H.len;have:=H.same;have:=h.len;rw[fv];omega
end
section
variable{F h:Nat}{j:lT}
def VM{s o:Nat}(h:oq s)(e:kO o=8):¬s=o:=by
 rintro rfl
 unfold oq at h;rw[e]at h;revert h;decide
def aah{s:Nat}(h:oq s):¬s=512000000/\ ¬s=512000064/\ ¬s=512256320/\ ¬s=512320000/\ ¬s=512384320/\ ¬s=512448192/\ ¬s=512512000/\ ¬s=512640384/\ ¬s=512832256/\ ¬s=513088128/\ ¬s=513152192/\ ¬s=513152256/\ ¬s=513280320/\ ¬s=513344384:=by
 repeat' apply And.intro
 all_goals exact VM h rfl
abbrev H_(F:Nat)(x:ae×dB×Bool):RV:=.tup [.agg [.p (.int .i64 F),.p (c8 x.1),aX iN 7 (aS x.2.1),.p (.bool x.2.2)],.one (.p (.int .i64 0))]
def awn{c:c6}{w:PV}{aj:aB}(h:aY R M H D (.one c) aj):gr aj (.tup [.agg [.p x,.p y,c,.p w],.one (.p u)])=some (.tup [.agg [.p x,.p y,aX M H D,.p w],.one (.p u)]):=by obtain⟨m,o,j,f,g⟩:=h.gR;cases j;have e1:∀v:PV,gR aj (.p v)=some (.p v,[],[]):=λ_=>rfl;rcases g with rfl|rfl<;>simp[gr,nx,tH,k5,kj,f,e1,lG,pB,nD,zu]
structure SD (F:Nat) (st:lT) (p:dB) (wh:Bool) (s g:Nat) (ak:bn) (aj:aB):Prop where
 e4:ak 4=.one (.bh 512000064 1 0)
 e9:ak 9=.one (.bh 512320000 1 0)
 ru:ak 13=.one (.hsl s g 5 0 (I st))
 uH:ak 14=fT wh
 qh:∃c0 c1 c2 c3,aj 512000064=(1,some (.var [c0,c1,c2,c3]))
 bf:∃pc,aj 512320000=(1,some (.var [.p (.int .i64 0),.p .nils,pc,.p (.bool false)]))/\aY 512448192 iN 7 (aS p) (.one pc) aj
 bs:aj s=(g,some (.arr Qp 5 (gX F st)))
def avJ{p:dB}{s:Nat}{aj:aB}{A:c6}(hs:oq s)(Q:j≠[])(hl:I j<=100000)(hp:I p<=100000000)(Y:∀m∈j,I m.w<=100000)(hn:∀m∈j,I m.n<=1000000)(h:SD F j p E s g z aj)(D:z 16=.one A)(gf:aY 513152256 Bv 2 (D6 F (j.map dM.n)) (.one A) aj):
  bP S .all Kc (ns .all zX.results λv aj=>gr aj v=some (H_ F ((nG F j).n,p++(nG F j).w,E))) z aj:=by
 obtain⟨e4,e9,ru,uH,⟨c0,c1,c2,c3,qh⟩,⟨pc,bf,gp⟩,bs⟩:=h;have X:=aah hs;have aN:1<=I j:=jr.2 Q;have pl:=aFc F (j.map dM.n) (by rw[cH];omega) (λL T=>by obtain⟨m,u,rfl⟩:=eg.1 T;exact hn m u)
 have f:nG F j=(j[(qL F (j.map dM.n) (I j)).toNat]?).getD ⟨[],[],[]⟩:=rfl;rw[cH]at pl;rcases T5 F (j.map dM.n) (I j) with⟨h0,_⟩|⟨Z,jH⟩
 .omega
 obtain⟨b,O⟩:=qX Z;rw[O]at pl jH f;rw[s9]at f;have R:b<I j:=J;obtain⟨m,u⟩:=aR R;rw[u]at f;have f:nG F j=m:=f;rw[f];have H:(gX F j)[b]?=some (m.ps F):=by rw[fY,u];rfl
 have M:I (gX F j)=I j:=Ad F j;have ab:=Y m (ch u);obtain⟨rd,km,_⟩:=gf.ia;simp only[go_sem,Kc,zX,e4,e9,ru,uH,D,km,aEb,dP pl,bs,R,H,M,dM.ps];simp only[go_sem,e4,e9,ru,uH,D,bs,bf,qh,R,H,M,X];refine nP (y:=513344384) (id:=512448192) (B:=aS m.w) (rd:=[]) (gp.of_eq (by simp only[aT,Nat.reduceEqDiff,if_false])) rfl (.inr (BU _)) (by simp only[k_];omega) λc' fy r1 u1 g1 y N=>?_;have B:=y 512320000 U U;have x:=y 512000064 U U;simp only[go_sem,bf,qh]at B x;simp only[go_sem,e4,e9,ru,uH,D,B,x];rw[show aS p++aS m.w=aS (p++m.w) by simp[aS]]at g1;refine⟨?_,?_⟩
 .rcases N with⟨rfl,rfl⟩|⟨rfl,rfl⟩|⟨rfl,rfl⟩<;>kernel_rfl
 first
  |exact awn (g1.of_eq (by simp only[aT,Nat.reduceEqDiff,if_false]))
  |trace_state
def avv{f:Nat}(h:j[f]?=some m):D6 F ((j.map dM.n).take (f+1))=D6 F ((j.map dM.n).take f)++[[.int .i64 F,c8 m.n]]:=by
 have H:(j.map dM.n)[f]?=some m.n:=by rw[fY,h];rfl
 obtain⟨hl,e⟩:=cD.1 H;rw[<-List.take_append_getElem hl,e];exact lU
def azC{p:dB}{s:Nat}{aj:aB}(hs:oq s)(dh:j≠[])(hl:I j<=100000)(hp:I p<=100000000)(hw:∀m∈j,I m.w<=100000)(hn:∀m∈j,I m.n<=1000000)(h:SD F j p E s g z aj)(D:z 16=.one (.p .nils))(u:z 64=.one (.hsl s g 5 0 (I j)))(O:z 65=aC (I j))(x:z 66=aC 0):
  bP S .all (.loop KC) (ld 2 (vb S .all Kc (ns .all zX.results λv aj=>gr aj v=some (H_ F ((nG F j).n,p++(nG F j).w,E))))) z aj:=by
 have Z:=aah hs;refine c_ (λH z aj=>SD F j p E s g z aj/\z 64=.one (.hsl s g 5 0 (I j))/\z 65=aC (I j)/\z 66=aC H/\ ∃f,z 16=.one f/\aY 513152256 Bv 2 (D6 F ((j.map dM.n).take H)) (.one f) aj) 0 (I j) (cE _) ⟨h,u,O,x,_,D,aY.nil⟩ ?_;rintro H z aj hj ⟨h,u,O,x,f,D,gf⟩
 by_cases B:H<I j
 .obtain⟨e4,e9,ru,uH,⟨c0,c1,c2,c3,qh⟩,⟨pc,bf,gp⟩,bs⟩:=h;have aO:((H:Int)<(I j:Int)):=J;obtain⟨m,hm⟩:=aR B;have M:(gX F j)[H]?=some (m.ps F):=by rw[fY,hm];rfl
  have iB:I (gX F j)=I j:=Ad F j;have N:=cP (n:=H) J;simp only[go_sem,KC,e4,e9,ru,uH,D,u,O,x,B,aO,bs,M,iB,dM.ps,N,Z];refine l_ (y:=513152256) (id:=513152256) (bytes:=32) (B:=[[.int .i64 F,c8 m.n]]) (rd:=[513152192]) (gf.of_eq (by simp only[aT,Nat.reduceEqDiff,if_false])) (by simp[fz,aT]) (.inl rfl) (by simp only[cH,iM,dw,eK];omega) λX fy g1 y=>?_
  have Y:=y 512320000 U U;have R:=y 512000064 U U;have T:=y 512448192 U U;have d4:=y s (VM hs rfl) (VM hs rfl);simp only[go_sem,bf,qh,bs,Z]at Y R T d4;rw[<-avv hm]at g1;simp only[go_sem,e4,e9,ru,uH,D,u,O,x,N];have hI:∀A:bn,A 4=z 4->A 9=z 9->A 13=z 13->A 14=z 14->SD F j p E s g A fy:=λA q4 q9 Q L=>⟨q4.trans e4,q9.trans e9,Q.trans ru,L.trans uH,⟨c0,c1,c2,c3,R⟩,⟨pc,Y,gp.of_eq T⟩,d4⟩;first
   |exact⟨B,hI _ rfl rfl rfl rfl,X,rfl,g1⟩
   |(refine⟨B,hI _ ?_ ?_ ?_ ?_,X,rfl,g1⟩<;>(simp only[go_sem];first|done|rfl))
   |trace_state
 have PB:H=I j:=J;subst PB;have gC:(j.map dM.n).take (I j)=j.map dM.n:=e_ (by rw[cH];exact cT _);rw[gC]at gf;simp only[go_sem,KC,u,O,x,dW];refine avJ (g:=g) hs dh hl hp hw hn (A:=f) ?_ ?_ gf
 .obtain⟨e4,e9,ru,uH,qh,bf,bs⟩:=h;refine⟨?_,?_,?_,?_,qh,bf,bs⟩;all_goals(simp only[go_sem,e4,e9,ru,uH];first|done|rfl)
 simp only[go_sem,D];first|done|rfl
def af4{al:cG}{aj:aB}:(f_ (S.ctx al) 25 O aj).fs.contains 44:=by show(S.sites 25).contains _=true;kernel_rfl
def ah0{al:cG}{aj:aB}:(f_ (S.ctx al) 25 O aj).fs.contains 47:=by show(S.sites 25).contains _=true;kernel_rfl
def apx{al:cG}{aj:aB}:(f_ (S.ctx al) 25 O aj).fs.contains 26:=by show(S.sites 25).contains _=true;kernel_rfl
def apZ{a:dM}{m:dx}(H:I j<=h):(nL F h a j m).2.length<=h:=by
 unfold nL;split
 .exact H
 split
 .exact H
 simp only[fv,dw,eK];omega
def afH{a:dM}:∀ {M:dB}{j:lT},I j<=h->(kE F h a j M).2.length<=h:=by
 intro M
 induction M with
 |nil=>intro j H;exact H
 |cons m r f=>
  intro j H;rw[Vd];split
  .exact f (apZ H)
  exact apZ H
def aD8:∀ {f k:Nat}{j:lT},I j<=h->(Ap F h f k j).2.length<=h:=by
 intro f
 induction f with
 |zero=>intro k j H;exact H
 |succ f g=>
  intro k j H;cases hs:j[k]? with
  |none=>rw[VY hs];exact H
  |some a=>
   rw[Nz hs];split
   .exact g (afH H)
   exact afH H
def W6(H:1<=h):(iw F h B).2.length<=h:=aD8 H
def abt:aP->Bool
 | .seq _ b=>abt b
 | .ret=>true
 |_=>false
def aGg{m:mL}{x:kS}{u:qM}{n:Nat}:∀ {c:aP}{z:bn}{aj:aB}{e:oh}{A:bn}{f:aB},abt c->dJ m x u n c z aj=some (e,A,f)->e≠ .normal:=by
 intro c
 induction c with
 |seq a b y g=>
  intro z aj e A f H h;simp only[dJ]at h;split at h
  .exact g H h
  rename_i j;rintro rfl
  exact j _ _ h
 |ret=>intro z aj e A f H h;cases h;exactλh=>by cases h
 |_=>intro z aj e A f H;cases H
def akN{al:cG}{c:aP}{f:fM}{z:bn}{aj:aB}(u:abt c)(h:bP S al c Q z aj)(g:∀e z aj,e≠ .normal->Q e z aj->f e z aj):bP S al c f z aj:=by obtain⟨n,e,j,A,H,m⟩:=h;exact⟨n,e,j,A,H,g _ _ _ (aGg u H) m⟩
def aFZ{R:V->aB->Prop}{z:bn}{aj:aB}(h:bP S .all (.loop KC) (ld 2 (vb S .all Kc (ns .all zX.results R))) z aj)
  (H:∀z aj,ns .all zX.results R .ret z aj->Q .ret z aj):bP S .all (.loop KC) (ld 2 (vb S .all Kc (ld 1 Q))) z aj:=by
 have key:∀e z aj,e≠oh.normal->ns .all zX.results R e z aj->ld 1 Q e z aj:=λe z aj g h=>by
  cases e with
  |normal=>exact absurd rfl g
  |ret=>exact H _ _ h
  |exit i=>exact h.elim
 refine h.mono λe z aj h=>?_;cases e with
 |normal=>exact akN rfl h key
 |ret=>exact H _ _ h
 |exit i=>
  simp only[ld]at h |-;by_cases f:i=2
  .rw[aH f]at h |-;exact akN rfl h key
  rw[aw f]at h;exact False.elim h
structure acn (F limit:Nat) (a:ae) (p:dB) (ak:bn) (aj:aB):Prop where
 e1:ak 1=aC limit
 e4:ak 4=.one (.bh 512000064 1 0)
 e7:ak 7=.one (.bh 512256320 1 0)
 e9:ak 9=.one (.bh 512320000 1 0)
 qh:∃c0 c1 c2 c3,aj 512000064=(1,some (.var [c0,c1,c2,c3]))
 ba:∃x,aj 512256320=(1,some (.var [.p (.int .i64 F),.p x]))/\x.norm=c8 a
 bf:∃pc,aj 512320000=(1,some (.var [.p (.int .i64 0),.p .nils,pc,.p (.bool false)]))/\aY 512832256 iN 7 (aS p) (.one pc) aj
def awy(h:j≠[]):nG F j∈j:=by
 unfold nG;have x:1<=I j:=jr.2 h;rcases T5 F (j.map dM.n) (I j) with⟨u,_⟩|⟨N,f⟩
 .omega
 obtain⟨b,g⟩:=qX N;rw[g]at f |-;rw[s9];obtain⟨m,H⟩:=aR (L:=j) (k:=b) J;rw[H];exact ch H
def J_(h:j≠[]):j[I j-1]?=some (sX j)/\sX j∈j:=by
 have e:j.getLast?=some (sX j):=by
  unfold sX;cases H:j.getLast? with
  |none=>exact absurd (List.getLast?_eq_none_iff.1 H) h
  |some x=>rfl
 refine⟨by rw[<-List.getLast?_eq_getElem?];exact e,List.mem_of_getLast? e⟩
def Jt(s:Nat)(L:ae)(c:c6)(aj:aB):Prop:=c=.p (c8 L)\/aY s fI 6 (bQ L) (.one c) aj
def Jt.snap{s:Nat}{c:c6}{aj:aB}(h:Jt s L c aj):∃r,(∀B:aB,(∀i∈r,B i=aj i)->Go.Abs.snap B ia c=some (c8 L,r))/\(r=[]\/r=[s])/\rh aj r/\ ∀n,l7 aj (n+1) c=r:=by
 rcases h with rfl|h
 .exact⟨[],(λB _=>rfl),.inl rfl,rh.nil,λn=>rfl⟩
 obtain⟨r,H,y⟩:=h.xW;rcases h with⟨e,e2⟩|⟨e,g,e2,f⟩
 .cases e2;have:=H aj rfl;rw[e]at this;have:some ((PV.sl []:PV),([]:aG))=some (.sl [],r):=this;simp at this;subst this;exact⟨[],by have E:=QE.1 e;subst E;exactλB _=>H aj rfl,.inl rfl,rh.nil,λn=>rfl⟩
 cases e2;have:=H aj rfl;have m:Go.Abs.snap aj ia (.hsl s g 6 0 (I (bQ L)))=some (.sl (bQ L),[s]):=by have j:List.take (I L) (bQ L)=bQ L:=e_ (by rw[cH];exact cT _);simp[Go.Abs.snap,ia,f,j]
 rw[m]at this;simp at this;subst this;exact⟨[s],λB x=>H B (x s (kV.2 rfl)),.inr rfl,λi u=>by rw[kV.1 u];exact⟨_,_,_,_,f⟩,λn=>DD f⟩
def aF7{aj:aB}{os:eZ}{d:eh}{F:Nat}{M:ae}{m:dB}{r:RV}{s:Nat}(hp:aJ S f O r)(u:WN F A m M r)(h:S.lone s=false)
  (H:∀(c e:c6) g,Jt (s+1) M c g->aY (s+2) iN 7 (aS m) (.one e) g->(∀i,i≠s+1->i≠s+2->g i=aj i)->iH S .all os Q (dF z d (.tup [.agg [.p (.int .i64 F),c],.one e])) g):iU S .all (.pc f O [] s) d os Q z aj:=by
 rcases u with⟨rfl,rfl,rfl⟩|rfl
 .exact(a_ hp (by rw[h];rfl)).2 (H _ _ _ (.inl rfl) aY.nil λ_ _ _=>rfl)
 exact aGC hp h rfl (zf _) (aey _) λc e g y j x=>H c e g (.inr y) j x
def No{o:Nat}(e:kO o=8):¬oq o:=λh=>VM h e rfl
def aFl{k:Nat}(h:j[k]?=some m):(gX F j)[k]?=some [.int .i64 F,c8 m.c,.int .i64 F,c8 m.n,ob m.w]:=by rw[fY,h];rfl
def ana{j:aB}{g:Nat}{f:c6}{r0:aG}(H:j 512512000=(g,some (.var [.p (.bool false)])))(T:∀n,l7 j (n+1) f=r0):((([V.agg [.p (.int .i64 F),f],aC h,Mm g]:dN).map (jA j)).flatten)=r0++[512512000]:=by
 have r1:jA j (.agg [.p (.int .i64 F),f])=r0:=by show([c6.p (.int .i64 F),f].map (l7 j 6)).flatten=r0;simp only[eR,jS,lI,Fo,lg,T,Jk,fN]
 have R:jA j (Mm g)=[512512000]:=by
  show([]:aG)++([c6.bh 512512000 g 0].map (l7 j 5)).flatten=_;simp only[eR,jS,lI,Fo,lg,fN];have:l7 j 5 (.bh 512512000 g 0)=512512000::(([c6.p (.bool false)]).map (l7 j 4)).flatten:=by rw[l7,H]
  rw[this];rfl
 rw[eR,eR,eR,jS,r1,R];show r0++([]++([512512000]++[]))=_;simp
def axs(cN:pI){F h:Nat}{a:ae}{p:dB}{aj:aB}(dZ:1<=h)(gO:h<=20000)(my:dA (F:Int) a=0)(hp:I p<=50000000)(hI:acn F h a p z aj)
  (hN:∀(aE:bn) (T:aB),(iw F h (gE F a).2).1=2->acn F h (sX (iw F h (gE F a).2).2).c (p++(gE F a).1++(sX (iw F h (gE F a).2).2).w) aE T->Q .normal aE T)
  (hR:∀(aE:bn) (T:aB),(iw F h (gE F a).2).1≠2->(ns .all zX.results λv aj=>gr aj v=some (H_ F ((nG F (iw F h (gE F a).2).2).n,p++(gE F a).1++(nG F (iw F h (gE F a).2).2).w,(iw F h (gE F a).2).1==0))) .ret aE T->Q .ret aE T):bP S .all R4 Q z aj:=by
 obtain⟨e1,e4,e7,e9,⟨c0,c1,c2,c3,qh⟩,⟨x,ba,hx⟩,⟨pc,bf,gp⟩⟩:=hI;obtain⟨DN,dL,r,hr,pr⟩:=Nq my;generalize gE F a=q at*;have iB:=DN.len;have hJ:=w7 my;have iI:S.lone 512384064=false:=ah;simp only[go_sem,R4,e1,e4,e7,e9,ba,hx,arT];refine aF7 pr hr iI λX ec bY gc ge cF=>?_;have gc:Jt 512384065 q.2 X bY:=gc;have ge:aY 512384066 iN 7 (aS q.1) (.one ec) bY:=ge;have u:=cF 512000064 U U;have f:=cF 512256320 U U;have D:=cF 512320000 U U;have d4:=cF 512832256 U U;simp only[go_sem,ba,bf,qh]at u f D d4;have IM:=gp.of_eq d4;clear cF d4;simp only[go_sem,e1,e4,e7,e9,D]
 obtain⟨re,P0,_⟩:=(ge.of_eq (ao:=dE (dE bY 512384320 ((bY 512384320).1+1,some (.var [.p (.int .i64 0),.p .nils]))) 512384320 ((bY 512384320).1+1,some (.var [.p (.int .i64 F),X]))) (by simp only[aT,Nat.reduceEqDiff,if_false])).elems;refine l_ (y:=512448192) (id:=512832256) (bytes:=48) (B:=aS q.1) (rd:=re) (IM.of_eq (by simp only[aT,Nat.reduceEqDiff,if_false])) P0 (.inr (BU _)) (by simp only[k_];omega) λc' fy g1 R=>?_;have f1:=R 512000064 U U;have f2:=R 512256320 U U;have f3:=R 512320000 U U;have f5:=R 512384065 U U;have f6:=R 512384320 U U;simp only[go_sem,u,f,D]at f1 f2 f3 f5 f6;have Lm:Jt 512384065 q.2 X fy:=by
  rcases gc with L|L
  .exact .inl L
  exact .inr (L.of_eq f5)
 rw[show aS p++aS q.1=aS (p++q.1) by simp[aS]]at g1;clear R P0 ge IM gc f5 u f D;simp only[go_sem,e1,e4,e7,e9,f3,f6,azt];refine alM λA N=>?_;have h1:A 512000064=(1,some (.var [c0,c1,c2,c3])):=by rw[N];simp only[aT,Nat.reduceEqDiff,if_false];exact f1
 have M:A 512256320=(1,some (.var [.p (.int .i64 F),.p x])):=by rw[N];simp only[aT,Nat.reduceEqDiff,if_false];exact f2
 have h3:A 512320000=(1,some (.var [.p (.int .i64 0),.p .nils,c',.p (.bool false)])):=by rw[N];simp only[aT,Nat.reduceEqDiff,if_true,if_false]
 have h4:A 512512000=((fy 512512000).1+1,some (.var [.p (.bool false)])):=by rw[N];simp only[aT,Nat.reduceEqDiff,if_true,if_false]
 have g4:aY 512448192 iN 7 (aS (p++q.1)) (.one c') A:=g1.of_eq (by rw[N];simp only[aT,Nat.reduceEqDiff,if_false]);have ag:Jt 512384065 q.2 X A:=by
  rcases Lm with L|L
  .exact .inl L
  exact .inr (L.of_eq (by rw[N];simp only[aT,Nat.reduceEqDiff,if_false]))
 generalize(fy 512512000).1+1=gv at h4;clear N g1 Lm f1 f2 f3;obtain⟨r0,km,ue,Z,T7⟩:=ag.snap;have wM:=ana (F:=F) (h:=h) h4 T7;have lO:∀i∈r0,i=512384065:=λi H=>by
  rcases ue with L|L
  .rw[L]at H;cases H
  rw[L]at H;exact kV.1 H
 have ac:yV (f_ (S.ctx .all) 25 [V.agg [.p (.int .i64 F),X],aC h,Mm gv] A):=⟨λid L=>sP (by rw[L];kernel_rfl),af4,ah0,apx,qf (by rw[wM];simp)⟩;have dK:=aj2 ac cN (F:=F) (h:=h) (L:=q.2) (m:=gv) (Q:=X) (r0:=r0) (aj:=A) dZ gO DN.chk (λaq hB=>km aq hB) Z (λi H=>⟨qf (by rw[wM];simp[H]),by rw[lO i H];exact No rfl,by rw[lO i H];decide⟩) h4;refine qq uR dK λv5 Fm hP=>?_;obtain⟨s,g,rfl,hs,qp,Hf,aN,dp,mz⟩:=hP;have j:∀i,i≠512384065->i∉r0:=λi L H=>L (lO i H)
 have k1:=(mz 512000064 (No rfl) U (j _ U)).trans h1;have k2:=(mz 512256320 (No rfl) U (j _ U)).trans M;have k3:=(mz 512320000 (No rfl) U (j _ U)).trans h3;have g5:=g4.of_eq (mz 512448192 (No rfl) U (j _ U));clear dK ac wM mz g4 h1 M h3 h4 km T7 Z;have gQ:=aah hs;obtain⟨pR,ab⟩:=J_ aN;have IZ:=W6 (F:=F) (B:=q.2) dZ;generalize iw F h q.2=cr at*;have y:I (gX F cr.2)=I cr.2:=Ad F cr.2;have jT:=jr.2 aN;have ad:=aFl (F:=F) pR;have xL:IntKind.i64.wrap ((I cr.2:Int)-1)=((I cr.2-1:Nat):Int):=C7 J J;have TV:I cr.2-1<I cr.2:=J;have ap:=dp _ ab;generalize sX cr.2=lm at*;have iX:=λm Y=>(dp m Y).len;by_cases M:cr.1=2
 .have hb:(cr.1==2):=by rw[M];rfl
  simp only[go_sem,hb,e1,e4,e7,e9,qp,ad,y,xL,TV,Hf,k1,k2,k3,gQ];refine l_ (y:=512832256) (id:=512448192) (bytes:=48) (B:=aS lm.w) (rd:=[]) (g5.of_eq (by simp only[aT,Nat.reduceEqDiff,if_false])) rfl (.inr (BU _)) (by have:=iX _ ab;simp only[k_,fv];omega) λcz an g6 O=>?_;have u:=O 512000064 U U;have f:=O 512256320 U U;have D:=O 512320000 U U;simp only[go_sem,k1,k2,k3]at u f D;rw[show aS (p++q.1)++aS lm.w=aS (p++q.1++lm.w) by simp[aS]]at g6;simp only[go_sem,e1,e4,e7,e9,u,f,D];refine hN _ _ M ⟨e1,e4,e7,e9,⟨c0,c1,c2,c3,?_⟩,⟨c8 lm.c,?_,rfl⟩,⟨cz,?_,?_⟩⟩
  .simp only[go_sem,u,f,D]
  .simp only[go_sem,u,f,D]
  .simp only[go_sem,u,f,D]
  exact g6.of_eq (by simp only[aT,Nat.reduceEqDiff,if_false])
 have hb:(cr.1==2)=false:=by simpa using M
 simp only[go_sem,hb,e1,e4,e7,e9,qp,ad,y,xL,TV,Hf,k1,k2,k3,gQ];refine aFZ (azC (p:=p++q.1) (E:=cr.1==0) hs aN J (by rw[fv];omega) (λm Y=>by have:=iX m Y;omega) (λm Y=>?_) ⟨e4,e9,rfl,rfl,⟨c0,c1,c2,c3,?_⟩,⟨c',?_,?_⟩,?_⟩ rfl rfl ?_ rfl) λz aj L=>hR _ _ M L
 .rw[(dp m Y).Et];have h5:=Bi m.c;have h6:=(dp m Y).same;omega
 .simp only[go_sem,k1,k2,k3]
 .simp only[go_sem,k1,k2,k3]
 .exact g5.of_eq (by simp only[aT,Nat.reduceEqDiff,if_false])
 .simp only[go_sem,qp,gQ]
 simp only[go_sem,e1]
def aGD{f:Int}{n:Nat}(hl:I A<=1000000)(u:1<=n)(H:n<=20000):aJ S 22 [df f A,aC n] (fQ (dA f A)):=by
 have pc:=aju f A hl;have g:¬((n:Int)<1):=J;have j:¬((20000:Int)<(n:Int)):=J;generalize dA f A=e at*;refine bt ajR ?_;by_cases h:e=0
 .subst h;have m:((0:Int)!=0)=false:=U;simp only[go_sem,GG,LO,dP pc,m,g,j,af,au];first|done|rfl
 have e1:(e !=0):=by simpa using h
 simp only[go_sem,GG,LO,dP pc,e1,af,au];first|done|rfl
def Gd(u:pI)(D:1<=h)(E:h<=20000)(j:dA (F:Int) B=0):(iw F h B).2≠[]/\ ∀m∈(iw F h B).2,uz F B (iw F h B).2.length m:=by have f:(λi=>if i=512512000 then(1,some (.var [.p (.bool false)]))else(0,none):aB) 512512000=(1,some (.var [.p (.bool false)])):=aH rfl;generalize(λi=>if i=512512000 then(1,some (.var [.p (.bool false)]))else(0,none):aB)=jF at f;have y:=ana (F:=F) (h:=h) (f:=.p (c8 B)) (r0:=[]) f λn=>rfl;have H:yV (f_ (S.ctx .all) 25 [V.agg [.p (.int .i64 F),.p (c8 B)],aC h,Mm 1] jF):=⟨λid N=>sP (by rw[N];kernel_rfl),af4,ah0,apx,qf (by rw[y];simp)⟩;obtain⟨v,M,_,z⟩:=aj2 H u (F:=F) (h:=h) (L:=B) (m:=1) (Q:=.p (c8 B)) (r0:=[]) (aj:=jF) D E j (λQ O=>rfl) rh.nil (λi x=>by cases x) f;obtain⟨s,g,_,_,_,_,L,A,_⟩:=z;exact⟨L,A⟩
noncomputable def Fg (F:Nat) (a:ae):Nat:=I a+(if(s8 F a).2 then 0 else 1)
def aeM(u:pI){a:ae}(y:1<=h)(L:h<=20000)(m:dA (F:Int) a=0)(f:(iw F h (gE F a).2).1=2):Fg F (sX (iw F h (gE F a).2).2).c+1<=Fg F a:=by
 obtain⟨D,_,_⟩:=Nq m;obtain⟨M,E⟩:=Gd u y L D.chk;have j:∃x,(iw F h (gE F a).2).2.getLast?=some x/\(s8 F x.c).2:=auE f;obtain⟨x,z,g⟩:=j;have A:sX (iw F h (gE F a).2).2=x:=by unfold sX;rw[z];rfl
 have hs:=(E _ (J_ M).2).same;rw[A]at hs |-;obtain⟨N,B⟩:=asp m;unfold Fg;rw[g];simp only[if_true];by_cases H:(s8 F a).2
 .have:=B H;rw[aH H];omega
 rw[aw H];omega
def aoH{al:cG}{aj:aB}{c:aP}(h:bP S al c (Mu (λe b=>bP S al (.loop c) Q e b) Q) z aj):bP S al (.loop c) Q z aj:=by
 obtain⟨n,e,A,E,g,f⟩:=h;cases e with
 |normal=>obtain⟨m,e,D,B,u,x⟩:=f;refine⟨max n m+1,e,D,B,?_,x⟩;have H:=AK S (lX (DB n m) (H4 _)) g;have j:=AK S (ES n m) u;simp only[dJ]at j |-;have y:=Vj S (H4 (max n m)) (cT _) j;rw[lY,H];exact y
 |exit i=>refine⟨n+1,_,_,_,?_,f⟩;have H:=AK S (H4 n) g;simp only[dJ,lY,H]
 |ret=>refine⟨n+1,_,_,_,?_,f⟩;have H:=AK S (H4 n) g;simp only[dJ,lY,H]
def acH{a:ae}{p:dB}(H:(iw F h (gE F a).2).1=2):Bc F h (f+1) a p=Bc F h f (sX (iw F h (gE F a).2).2).c (p++(gE F a).1++(sX (iw F h (gE F a).2).2).w):=by rw[Bc,aH H]
def ac2{a:ae}{p:dB}(H:(iw F h (gE F a).2).1≠2):Bc F h (f+1) a p=((nG F (iw F h (gE F a).2).2).n,p++(gE F a).1++(nG F (iw F h (gE F a).2).2).w,(iw F h (gE F a).2).1==0):=by rw[Bc,aw H]
def sL.round(x:pI){a:ae}{b:Nat}{p:dB}(D:1<=h)(u:h<=20000)(y:sL F N b a p)(g:m∈(iw F h (gE F a).2).2):sL F N (b+h) m.c (p++(gE F a).1++m.w)/\m.n=fW m.c:=by have H:=y.red;obtain⟨A,j⟩:=Gd x D u H.chk;have f:=j m g;exact⟨H.mem (f.mono (W6 D)),f.Et⟩
def arQ(g:pI)(D:1<=h)(m:h<=20000):∀(f:Nat) {a:ae}{p:dB}{b:Nat},Fg F a<f->sL F N b a p->∃bK,sL F N (b+f*h) bK (Bc F h f a p).2.1/\(Bc F h f a p).1=fW bK:=by
 intro f
 induction f with
 |zero=>intro a p b z;omega
 |succ f E=>
  intro a p b z j;by_cases u:(iw F h (gE F a).2).1=2
  .rw[acH u];obtain⟨A,L⟩:=Gd g D m j.red.chk;obtain⟨H,_⟩:=j.round g D m (J_ A).2;have x:=aeM g D m j.chk u;obtain⟨bK,y,B⟩:=E J H;exact⟨bK,by rw[show b+(f+1)*h=b+h+f*h by rw[Ie];omega];exact y,B⟩
  rw[ac2 u];obtain⟨A,L⟩:=Gd g D m j.red.chk;obtain⟨H,x⟩:=j.round g D m (awy (F:=F) A);refine⟨_,⟨H.chk,H.rep,H.kind,?_⟩,x⟩;have O:=H.len;have M:0<=f*h:=cE _;rw[Ie];show(p++(gE F a).1++(nG F (iw F h (gE F a).2).2).w).length+(nG F (iw F h (gE F a).2).2).c.length<=_;omega
def aCf(m:pI)(D:1<=h)(u:h<=20000)(hN:I N<=1000):∀(f:Nat) {a:ae}{p:dB}{b:Nat}{z:bn}{aj:aB}{Q:fM},Fg F a<f->sL F N b a p->b+f*h<=40000000->acn F h a p z aj->
  (∀(A:bn) (g:aB),(ns .all zX.results λv aj=>gr aj v=some (H_ F (Bc F h f a p))) .ret A g->Q .ret A g)->bP S .all (.loop R4) Q z aj:=by
 intro f
 induction f with
 |zero=>intro a p b z aj Q M;omega
 |succ f O=>
  intro a p b z aj Q M H y B x;have bN:=H.len;have Z:0<=f*h:=cE _;rw[Ie]at y;refine aoH (axs m D u H.chk J B (λA g j T=>?_) λA g j E=>?_)
  .obtain⟨R,Y⟩:=Gd m D u H.red.chk;obtain⟨L,_⟩:=H.round m D u (J_ R).2;have X:=aeM m D u H.chk j;exact O J L J T λA g ab=>x _ _ (by rw[acH j];exact ab)
  exact x _ _ (by rw[ac2 j];exact E)
def sL.start(h:dA (F:Int) A=0):sL F (fW A) 0 (fW A) []:=⟨Oh h,rfl,(λm H=>by cases H),aQ⟩
def adM(A:ae):Fg F (fW A)<I A+2:=by have:=Bi A;unfold Fg;split<;>omega
def aCM(m:pI)(D:1<=h)(j:h<=20000)(H:dA (F:Int) A=0):∃bK,sL F (fW A) ((I A+2)*h) bK (HZ F h A).2.1/\(HZ F h A).1=fW bK:=by obtain⟨bK,f,g⟩:=arQ m D j (I A+2) (adM A) (sL.start H);rw[kA]at f;exact⟨bK,f,g⟩
def avI(j:pI)(D:1<=h)(g:h<=20000)(H:dA (F:Int) A=0):aJ S 8 [df F A,aC h] (H_ F (HZ F h A)):=by
 have z:=w7 H;have pl:=aGD (f:=F) (A:=A) (n:=h) J D g;rw[H]at pl;have m:=ahA j (f:=F) (g:=A) J H;have y:(lV (mF A)).norm=c8 (fW A):=acq (mF A);have u:((0:Int)!=0)=false:=U;generalize lV (mF A)=q at*;refine bt Dt ?_;simp only[go_sem,zX,aoW,dP pl,u,amf,a_ m apU];have L:=Bi A;have M:(I A+2)*h<=402*20000:=PR J g;refine aCf j D g J (I A+2) (adM A) (sL.start H) J ⟨rfl,rfl,rfl,rfl,⟨.p (.int .i64 0),.p .nils,.p .nils,.p (.bool false),?_⟩,⟨q,?_,y⟩,⟨.p .nils,?_,aY.nil⟩⟩ λE B x=>?_
 .simp only[go_sem]
 .simp only[go_sem]
 .simp only[go_sem]
 exact x
abbrev aHG(e:Int):RV:=.tup [.agg [.p .nils,.p .nils],.one (.p (.int .i64 e))]
abbrev aHJ(p q:dB):RV:=.tup [.agg [aX iN 7 (aS p),aX iN 7 (aS q)],.one (.p (.int .i64 0))]
def aB2{aj:aB}{os:eZ}{d:eh}{s:Nat}{w:PV}(hp:aJ S f O (.tup [.agg [.p x,.p y,aX M H D,.p w],.one (.p u)]))(F:S.lone s=false)
  (g:∀(c:c6) A,aY (s+2) M H D (.one c) A->(∀i,i≠s+2->A i=aj i)->iH S .all os Q (dF z d (.tup [.agg [.p x,.p y,c,.p w],.one (.p u)])) A):iU S .all (.pc f O [] s) d os Q z aj:=by
 obtain⟨j,h,_⟩:=tZ (aj:=aj) (s:=s+2) (m:=M) (z:=H) (j:=D);refine(a_ (v:=.tup [.agg [.p x,.p y,(d_ aj (s+2) (aX M H D)).1,.p w],.one (.p u)]) (u:=(d_ aj (s+2) (aX M H D)).2) hp ?_).2 (g _ _ j h);rw[F,uD];unfold eF;rw[aH (.inl rfl)];simp[jf,iV,oL,ja,kC,sJ,ti,ox,d_]
def aHW{f T z:Nat}{fs:s_}{c d:c6}{aj:aB}(hs:R≠f)(h:aY R M H D (.one c) aj)(y:aY f T z fs (.one d) aj):gr aj (.tup [.agg [c,d],.one (.p u)])=some (.tup [.agg [aX M H D,aX T z fs],.one (.p u)]):=by obtain⟨E,o,B,j,m⟩:=h.gR;obtain⟨F,q,g,x,A⟩:=y.gR;cases B;cases g;have e1:∀v:PV,gR aj (.p v)=some (.p v,[],[]):=λ_=>rfl;rcases m with rfl|rfl<;>rcases A with rfl|rfl<;>simp[gr,nx,tH,k5,kj,j,x,e1,lG,pB,nD,zu,hs]
def aHL(m:pI)(D:1<=h)(g:h<=20000)(H:dA (F:Int) A=0):(HZ F h A).1.length<=400:=by obtain⟨bK,f,j⟩:=aCM m D g H;rw[j];exact lX (Bi bK) (w7 f.chk)
def aHT(Q:pI){n:Nat}{ab B:ae}(L:1<=n)(H:n<=20000)(m:dA (F:Int) ab=0)(j:dA (F:Int) B=0):aJ S 14 [df F ab,df F B,aC n] (if(HZ F n ab).1=(HZ F n B).1 then aHJ (HZ F n ab).2.1 (HZ F n B).2.1 else aHG 9):=by
 have hA:=w7 m;have hB:=w7 j;have pc:=aju (F:Int) ab J;have pl:=aGD (f:=(F:Int)) (A:=B) J L H;rw[m]at pc;rw[j]at pl;have pa:=avI Q L H m;have pb:=avI Q L H j;have la:=aHL Q L H m;have lb:=aHL Q L H j;generalize HZ F n ab=X at*;generalize HZ F n B=Y at*;have Z:=awF (F:Int) X.1 (F:Int) Y.1 J J;have iI:S.lone 896576128=false:=ah;have mU:S.lone 896640128=false:=ah;have vp:((0:Int)!=0)=false:=U;have M:((F:Int)!=(F:Int))=false:=aQ;by_cases T:X.1=Y.1
 .rw[aH T];rw[aHN.2 ⟨rfl,T⟩]at Z;refine bt aHH ?_;simp only[go_sem,ap5,LO,aoW,ahJ,dP pc,dP pl,vp,M];refine aB2 pa iI λc bY g1 u=>?_;have g1:aY 896576130 iN 7 (aS X.2.1) (.one c) bY:=g1;have y:=u 896000000 U;have x:=u 896000064 U;have D:=u 896000128 U;simp only[go_sem]at y x D;simp only[go_sem,y,x,D,ahJ];refine aB2 pb mU λd bJ R g=>?_
  have R:aY 896640130 iN 7 (aS Y.2.1) (.one d) bJ:=R;have z:=g 896000000 U;have E:=g 896000064 U;have N:=g 896000128 U;have O:=g 896576384 U;have g1:=(g1.of_eq (ao:=bJ) (by rw[g 896576130 U];simp only[aT,Nat.reduceEqDiff,if_false]));simp only[go_sem,y,x,D]at z E N O;simp only[go_sem,z,E,N,O,agF,dP Z,vp];first
   |exact aHW U (g1.of_eq (by simp only[aT,Nat.reduceEqDiff,if_false])) (R.of_eq (by simp only[aT,Nat.reduceEqDiff,if_false]))
   |trace_state
 rw[aw T];have aN:yr (F:Int) X.1 (F:Int) Y.1≠0:=λh=>T (aHN.1 h).2;generalize yr (F:Int) X.1 (F:Int) Y.1=e at*;have e1:(e !=0):=by simpa using aN
 refine bt aHH ?_;simp only[go_sem,ap5,LO,aoW,ahJ,dP pc,dP pl,vp,M];refine aB2 pa iI λc bY g1 u=>?_;have y:=u 896000000 U;have x:=u 896000064 U;have D:=u 896000128 U;simp only[go_sem]at y x D;simp only[go_sem,y,x,D,ahJ];refine aB2 pb mU λd bJ R g=>?_;have z:=g 896000000 U;have E:=g 896000064 U;have N:=g 896000128 U;have O:=g 896576384 U;simp only[go_sem,y,x,D]at z E N O;simp only[go_sem,z,E,N,O,agF,dP Z,e1];first|done|rfl
end
end Go.Abs
