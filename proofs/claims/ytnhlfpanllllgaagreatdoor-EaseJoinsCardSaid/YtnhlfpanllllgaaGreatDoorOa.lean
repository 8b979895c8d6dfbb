/-
  The document lists moves and makes normal forms as the program does.
-/
import Derived.Test.YtnhlfpanllllgaaGreatDoorDc
import Derived.Test.YtnhlfpanllllgaaGreatDoorRe
set_option linter.all false
open List renaming length->I
set_option maxRecDepth 100000
set_option maxHeartbeats 16000000
namespace Go.Abs
variable{A z h:Nat}{j:s_}{u:ByteArray}{x y:PV}{g:bn}{m:dx}{X L f:ae}
def ac3{α:Type}(f:Nat->List α)(k:Nat):(List.range k++[k]).flatMap f=(List.range k).flatMap f++f k:=by rw[List.flatMap_append];simp
def uj(k:Int)(v:Nat->Nat->Nat->Int)(a b c:Nat):dB:=if v a b c=0 then [⟨k,a,b,c,false,false,0⟩]else []
def Db(h:Nat)(k:Int)(v:Nat->Nat->Nat->Int)(a b:Nat):dB:=(List.range h).flatMap (uj k v a b)
def EK(fg h:Nat)(k:Int)(v:Nat->Nat->Nat->Int)(a:Nat):dB:=(List.range fg).flatMap (Db h k v a)
def Gq(n fg h:Nat)(k:Int)(v:Nat->Nat->Nat->Int):dB:=(List.range n).flatMap (EK fg h k v)
def ki(x:s_):PV:=if x=[]then .nils else .sl x
def aDY{aj:aB}(x:s_):fz aj (.one (.p (ki x)))=some (x,[],[]):=by
 unfold ki;by_cases h:x=[]
 .rw[aH h,h];rfl
 rw[aw h];rfl
def AD(x:s_):(ki x).norm=.sl x:=by
 unfold ki;by_cases h:x=[]
 .rw[aH h,h];rfl
 rw[aw h];rfl
def FE{aj:aB}{s:Nat}(lo:S.lone s):eF aj [] s ((RV.one (aX A z j)).fi (S.lone s))=some (.one (.p (ki j)),[]):=by
 rw[lo];unfold aX ki;by_cases h:j=[]
 .rw[aH h,aH h];rfl
 rw[aw h,aw h];rfl
section
variable {F:Nat} {f:ae}
abbrev nW:Nat:=57
def awt{k a b c v:Int}(m:aJ S 132 [mT u,.one (.p (.int .u8 76))] (dn false))(g:aJ S 132 [mT u,.one (.p (.int .u8 79))] (dn false))(H:aJ S 163 [kQ F f,gP k a b c false false 0] (fQ v)):aJ S 133 [kQ F f,gP k a b c false false 0,mT u] (.one (aX nW 7 (aS (if v=0 then [⟨k,a,b,c,false,false,0⟩]else [])))):=by
 refine bt aEz ?_;by_cases h:v=0
 .subst h;have E:((0:Int)==0):=rfl;rw[aH rfl];simp only[go_sem,aef,yc,aD m,aD g,ap4,dP H,E];refine l_ (id:=8512256192) (y:=8512256192) (j:=[]) (B:=[[.int .i64 k,.int .i64 a,.int .i64 b,.int .i64 c,.bool false,.bool false,.int .i64 0]]) aY.nil (by simp only[fz,aT,if_true];rfl) (.inl rfl) aQ λy A g1 z=>?_;simp only[go_sem];exact uX g1
 rw[aw h];have x:(v==0)=false:=by simpa using h
 simp only[go_sem,aef,yc,aD m,aD g,ap4,dP H,x];first|done|rfl
def aBr(hx:x.norm=.sl (mv (eD F f))){k:Int}{v:Nat->Nat->Nat->Int}{N fg G:Nat}(hN:N<=400)(ar:fg<=400)(L2:h<=400)(hL:aJ S 132 [mT u,.one (.p (.int .u8 76))] (dn false))(hO:aJ S 132 [mT u,.one (.p (.int .u8 79))] (dn false))(hv:∀a b c:Nat,aJ S 163 [kQ F f,gP k a b c false false 0] (fQ (v a b c))){aj:aB}
  (D:g 1=aC k) (E:g 5=.one (.p .nils)) (H:g 6=mT u) (B:g 7=.one (.bh 6080192128 G 0)) (A:g 8=aC N) (L:g 9=aC fg) (m:g 10=aC h) (y:g 11=aC 0) (M:aj 6080192128=(G,some (.var [.p (.int .i64 F),.p (c8 f),.p (.int .i64 (I f)),.p x]))):
  bP S .all (.loop RB) (ld 0 (vb S .all WJ (ns .all UG.results λw aj=>gr aj w=some (.one (aX nW 7 (aS (Gq N fg h k v))))))) g aj:=by
 have lo:S.lone 6081344512:=ah;have xD:∀a b c:Nat,aJ S 133 [kQ F f,gP k a b c false false 0,mT u] (.one (aX nW 7 (aS (uj k v a b c)))):=λa b c=>awt hL hO (hv a b c)
 refine c_ (λa g aj=>g 1=aC k/\g 6=mT u/\g 7=.one (.bh 6080192128 G 0)/\g 8=aC N/\g 9=aC fg/\g 10=aC h/\g 11=aC a/\aj 6080192128=(G,some (.var [.p (.int .i64 F),.p (c8 f),.p (.int .i64 (I f)),.p x]))/\ ∃T,g 5=.one T/\I ((List.range a).flatMap (EK fg h k v))<=161000*a/\aY 6081344576 nW 7 (aS ((List.range a).flatMap (EK fg h k v))) (.one T) aj) 0 N (cE _) ⟨D,H,B,A,L,m,y,M,_,E,aQ,aY.nil⟩ ?_;clear D E H B A L m y M;rintro a g aj ha ⟨D,H,B,A,L,m,y,M,ca,E,R,O⟩
 by_cases aq:a<N
 .have aO:((a:Int)<(N:Int)):=J;have w1:=cP (n:=a) J;have sa:=ac3 (EK fg h k v) a;generalize ap:(List.range a).flatMap (EK fg h k v)=Q at*;simp only[go_sem,RB,D,E,H,B,A,L,m,y,aO];refine c_ (λb g aj=>g 1=aC k/\g 6=mT u/\g 7=.one (.bh 6080192128 G 0)/\g 8=aC N/\g 9=aC fg/\g 10=aC h/\g 11=aC a/\g 12=aC b/\aj 6080192128=(G,some (.var [.p (.int .i64 F),.p (c8 f),.p (.int .i64 (I f)),.p x]))/\ ∃T,g 5=.one T/\I (Q++(List.range b).flatMap (Db h k v a))<=161000*a+401*b/\aY 6081344576 nW 7 (aS (Q++(List.range b).flatMap (Db h k v a))) (.one T) aj) 0 fg (cE _) ?_ ?_
  .simp only[go_sem,D,E,H,B,A,L,m,y,M];exact⟨rfl,_,rfl,by simpa using R,by simpa using O⟩
  clear D E H B A L m y M O R;rintro b g aj hb ⟨D,H,B,A,L,m,y,z,M,ca,E,R,O⟩
  by_cases A8:b<fg
  .have ad:((b:Int)<(fg:Int)):=J;have w2:=cP (n:=b) J;have sb:=ac3 (Db h k v a) b;generalize av:(List.range b).flatMap (Db h k v a)=eb at*;simp only[go_sem,aas,D,E,H,B,A,L,m,y,z,ad];refine c_ (λc g aj=>g 1=aC k/\g 6=mT u/\g 7=.one (.bh 6080192128 G 0)/\g 8=aC N/\g 9=aC fg/\g 10=aC h/\g 11=aC a/\g 12=aC b/\g 13=aC c/\aj 6080192128=(G,some (.var [.p (.int .i64 F),.p (c8 f),.p (.int .i64 (I f)),.p x]))/\ ∃T,g 5=.one T/\I (Q++eb++(List.range c).flatMap (uj k v a b))<=161000*a+401*b+c/\aY 6081344576 nW 7 (aS (Q++eb++(List.range c).flatMap (uj k v a b))) (.one T) aj) 0 h (cE _) ?_ ?_
   .simp only[go_sem,D,E,H,B,A,L,m,y,z,M];exact⟨rfl,_,rfl,by simpa using R,by simpa using O⟩
   clear D E H B A L m y z M O R;rintro c g aj hc ⟨D,H,B,A,L,m,y,z,X,M,ca,E,R,O⟩
   by_cases ag:c<h
   .have ac:((c:Int)<(h:Int)):=J;have w3:=cP (n:=c) J;have sc:=ac3 (uj k v a b) c;have pf:=xD a b c;have cN:I (aS (uj k v a b c))<=1:=by
     unfold uj;split<;>simp[aS]
    have IZ:I (uj k v a b c)<=1:=by unfold uj;split<;>simp
    have de:au 7 (aS (uj k v a b c)):=by unfold uj;split<;>rfl
    generalize az:(List.range c).flatMap (uj k v a b)=Y at*;generalize wD:uj k v a b c=qs at*;simp only[go_sem,aej,D,E,H,B,A,L,m,y,z,X,M,hx,ac,axT,a_ pf (FE lo)];have dY:I (aS (Q++eb++Y))=I (Q++eb++Y):=cH ..;refine l_ (id:=6081344576) (y:=6081344576) (j:=aS (Q++eb++Y)) (B:=aS qs) O (aDY _) (.inr de) J λc2 ao g1 cF=>?_;have Z:=cF 6080192128 U U;rw[M]at Z;simp only[go_sem,D,E,H,B,A,L,m,y,z,X,w3];refine⟨ag,Z,c2,rfl,?_,?_⟩
    .rw[sc,<-s5,fv];omega
    rw[sc,<-s5,show aS (Q++eb++Y++qs)=aS (Q++eb++Y)++aS qs by simp[aS]];exact g1
   have I0:c=h:=J;subst I0;have e2:(List.range c).flatMap (uj k v a b)=Db c k v a b:=rfl;rw[e2]at R O;simp only[go_sem,aej,alA,D,E,H,B,A,L,m,y,z,X,dW,w2];refine⟨A8,M,_,rfl,?_,?_⟩
   .rw[sb,<-s5];omega
   rw[sb,<-s5];exact O
  have an:b=fg:=J;subst an;have e2:(List.range b).flatMap (Db h k v a)=EK b h k v a:=rfl;rw[e2]at R O;simp only[go_sem,aas,aid,D,E,H,B,A,L,m,y,z,dW,w1];refine⟨aq,M,_,rfl,?_,?_⟩
  .rw[sa];omega
  rw[sa];exact O
 have ab:a=N:=J;subst ab;simp only[go_sem,RB,WJ,UG,D,E,H,B,A,L,m,y,dW];exact uX O
def aAz(h:f=[]\/cK F f):∃x r,x.norm=.sl (mv (eD F f))/\aJ S 96 [df F f] r/\ ∀(aj:aB) (s:Nat),S.lone s->eF aj [] s (r.fi (S.lone s))=some (.agg [.p (.int .i64 F),.p (c8 f),.p (.int .i64 (I f)),.p x],[]):=by
 rcases h with rfl|g
 .exact⟨.nils,_,rfl,ayz F,λaj s h=>by rw[h];rfl⟩
 refine⟨.sl (mv (eD F f)),_,rfl,K4 g,λaj s h=>?_⟩;rw[h,vq (Lh g)];rfl
def P8(h:f=[]\/cK F f)(hl:I f<=400){k:Int}{pb pc:Bool}{v:Nat->Nat->Nat->Int}(z:(k==2)=false)(m:aJ S 131 [aC k] (Ke u))(E:aJ S 132 [mT u,.one (.p (.int .u8 66))] (dn pb))(j:aJ S 132 [mT u,.one (.p (.int .u8 67))] (dn pc))(D:aJ S 132 [mT u,.one (.p (.int .u8 76))] (dn false))(L:aJ S 132 [mT u,.one (.p (.int .u8 79))] (dn false))(B:∀a b c:Nat,aJ S 163 [kQ F f,gP k a b c false false 0] (fQ (v a b c))):
  aJ S 95 [df F f,aC k] (.one (aX nW 7 (aS (Gq (max (I f) 1) (if pb then max (I f) 1 else 1) (if pc then max (I f) 1 else 1) k v)))):=by
 obtain⟨x,r,y,A,rO⟩:=aAz h;have lo:S.lone 6080192064:=ah;obtain⟨N,hN⟩:∃N,max (I f) 1=N:=⟨_,rfl⟩;have g:(if(1:Int)>(I f:Int)then(1:Int)else(I f:Int))=(N:Int):=by split<;>omega
 have H:N<=400:=J;rw[hN];refine bt aqE ?_;cases pb<;>cases pc
 all_goals
  simp only[go_sem,UG,Bf,sh m,D7,a_ A (rO _ _ lo),yc,aD E,aD j,z,g];refine aBr (G:=1) y H ?_ ?_ D L B ?_ ?_ ?_ ?_ ?_ ?_ ?_ ?_ ?_;all_goals first
   |omega
   |(simp only[go_sem];first|done|rfl|trace_state)
end
def akU{x y:dx}(h:uy x y):¬uy y x:=by unfold uy zA rb at*;simp only[oG,dj,kB]at*;omega
def anO{R:dx->dx->Prop}(u:∀x y,R x y-> ¬R y x):∀ {A B:dB},A.Pairwise R->B.Pairwise R->(∀m,m∈A↔m∈B)->A=B:=by
 intro A
 induction A with
 |nil=>
  intro B _ _ h;cases B with
  |nil=>rfl
  |cons b B=>exact absurd ((h b).2 aQ) aQ
 |cons a A E=>
  intro B j g h;cases B with
  |nil=>exact absurd ((h a).1 aQ) aQ
  |cons b B=>
   rw[tD]at j g;have e:a=b:=by apply Classical.byContradiction;intro z;have F:a∈B:=(dk.1 ((h a).1 aQ)).resolve_left z;have D:b∈A:=(dk.1 ((h b).2 aQ)).resolve_left (Ne.symm z);exact u _ _ (j.1 b D) (g.1 a F)
   subst e;rw[E j.2 g.2 λm=>⟨λf=>?_,λf=>?_⟩]
   .rcases dk.1 ((h m).1 (xo _ f))with e|e
    .subst e;exact absurd (j.1 m f) λH=>u m m H H
    exact e
   rcases dk.1 ((h m).2 (xo _ f))with e|e
   .subst e;exact absurd (g.1 m f) λH=>u m m H H
   exact e
section
variable {n fg h:Nat} {k:Int} {v:Nat->Nat->Nat->Int} {a b c:Nat} {m:dx}
def acS:m∈uj k v a b c↔v a b c=0/\m=⟨k,a,b,c,false,false,0⟩:=by
 unfold uj;split
 .rename_i h;simp[h]
 rename_i h;simp[h]
def WW:m∈Db h k v a b↔ ∃c,c<h/\v a b c=0/\m=⟨k,a,b,c,false,false,0⟩:=by unfold Db;simp only[K_,gI,acS]
def aai:m∈EK fg h k v a↔ ∃b c,b<fg/\c<h/\v a b c=0/\m=⟨k,a,b,c,false,false,0⟩:=by unfold EK;simp only[K_,gI,WW];exact⟨λ⟨b,f,c,H,g⟩=>⟨b,c,f,H,g⟩,λ⟨b,c,f,H,g⟩=>⟨b,f,c,H,g⟩⟩
def aDl:m∈Gq n fg h k v↔ ∃a b c,a<n/\b<fg/\c<h/\v a b c=0/\m=⟨k,a,b,c,false,false,0⟩:=by unfold Gq;simp only[K_,gI,aai];exact⟨λ⟨a,g,b,c,H,j,f⟩=>⟨a,b,c,g,H,j,f⟩,λ⟨a,b,c,g,H,j,f⟩=>⟨a,g,b,c,H,j,f⟩⟩
def Nn(n fg h:Nat)(k:Int)(v:Nat->Nat->Nat->Int):(Gq n fg h k v).Pairwise uy:=by
 unfold Gq;refine ab4.2 ⟨λa _=>?_,List.pairwise_lt_range.imp λg x f y H=>?_⟩
 .refine ab4.2 ⟨λb _=>?_,List.pairwise_lt_range.imp λg x f y H=>?_⟩
  .refine ab4.2 ⟨λc _=>?_,List.pairwise_lt_range.imp λg x f y H=>?_⟩
   .unfold uj;split
    .exact abr _ _
    exact List.Pairwise.nil
   obtain⟨_,rfl⟩:=acS.1 f;obtain⟨_,rfl⟩:=acS.1 H;refine .inr ⟨rfl,.inr ⟨rfl,?_⟩⟩;unfold rb;simp only[oG,dj,kB,true_and];omega
  obtain⟨_,_,_,rfl⟩:=WW.1 f;obtain⟨_,_,_,rfl⟩:=WW.1 H;refine .inr ⟨rfl,.inr ⟨rfl,?_⟩⟩;unfold rb;simp only[oG,dj,kB,true_and];omega
 obtain⟨_,_,_,_,_,rfl⟩:=aai.1 f;obtain⟨_,_,_,_,_,rfl⟩:=aai.1 H;refine .inr ⟨rfl,.inl ?_⟩;show((_:Nat):Int)<((_:Nat):Int);omega
end
section
variable {F:Nat} {L:ae}
def avW(g:cK F L):∀x∈L,-1000000<=x.ay/\x.ay<=1000000:=λx H=>by obtain⟨i,h⟩:=jL H;exact aak g ⟨x,jK L i⟩ (ch (nR h))
def azk(g:cK F L):∀x∈L,-1000000<=x.id/\x.id<=1000000:=λx H=>by obtain⟨i,h⟩:=jL H;exact adH g ⟨x,jK L i⟩ (ch (nR h))
def W_(F:Nat)(L:ae)(k a b c:Int)(p:Bool)(N:ae)(D:eH):Prop:=aJ S 199 [kQ F L,gP k a b c false false 0] (dn p)/\((qi F L k a.toNat b.toNat c.toNat false false 0).isSome=p/\ ∀M,qi F L k a.toNat b.toNat c.toNat false false 0=some M->lH M N D)/\aJ S 60 [df F L,gP k a b c false false 0] (wY F N D)
def MJ{k:Int}(f:ef k)(h:L=[]\/cK F L){a b c:Int}{l o:Bool}{sg:Int}(H:dc F L k a b c l o sg=false):iY F L ⟨k,a,b,c,l,o,sg⟩=none:=by
 rcases h with rfl|g
 .unfold iY;rw[aH rfl,H];rfl
 rw[aar g f];simp only[H];rfl
def am3(h:L=[]\/cK F L){k:Int}(f:ef k){a b c:Nat}(z:∀x y:Int,Jz x y k=(x,y))(pw:aJ S 198 [kQ F L,gP k a b c false false 0] (dn (!dc F L k a b c false false 0)))(m:L=[]->dc F L k a b c false false 0=false)
  (j:cK F L->dc F L k a b c false false 0->∃p N D,W_ F L k a b c p N D):∃v,aJ S 163 [kQ F L,gP k a b c false false 0] (fQ v)/\(v=0↔ ∃X,iY F L ⟨k,a,b,c,false,false,0⟩=some X):=by
 have hl:I L<=400:=by
  rcases h with rfl|g
  .simp
  exact g.len
 cases H:dc F L k a b c false false 0 with
 |false=>rw[H]at pw;refine⟨_,aiE (p:=false) hl pw (λh=>by cases h),?_⟩;rw[MJ f h H];unfold Vu;simp
 |true=>
  rcases h with rfl|g
  .exact absurd (m rfl) (by rw[H];decide)
  obtain⟨p,N,D,A,⟨u,_⟩,_⟩:=j g H;rw[H]at pw;refine⟨_,aiE hl pw λ_=>A,?_⟩;have B:=g.cr;have E:=g.len;have e1:decide ((400:Int)<(I L:Int))=false:=tJ J;have e2:decide ((100:Int)<((ai aa.aF L/2:Nat):Int))=false:=tJ J;rw[aar g f];simp only[H,if_true];unfold Vu;rw[z,<-u];simp only[e1,e2,Bool.or_self,zl];cases qi F L k (a:Int).toNat (b:Int).toNat (c:Int).toNat false false 0 with
  |none=>simp
  |some M=>simp
def Xf{k:Int}{n fg:Nat}{v:Nat->Nat->Nat->Int}(g:∀a b c:Nat,v a b c=0↔ ∃X,iY F L ⟨k,a,b,c,false,false,0⟩=some X)(j:∀m X,m.k=k->iY F L m=some X->∃a b c:Nat,a<n/\b<fg/\c<h/\m=⟨k,a,b,c,false,false,0⟩)(m:dx):m∈Gq n fg h k v↔m.k=k/\ ∃X,iY F L m=some X:=by
 rw[aDl];constructor
 .rintro ⟨a,b,c,_,_,_,H,rfl⟩
  exact⟨rfl,(g a b c).1 H⟩
 rintro⟨Q,X,f⟩
 obtain⟨a,b,c,x,u,y,rfl⟩:=j m X Q f;exact⟨a,b,c,x,u,y,(g a b c).2 ⟨X,f⟩,rfl⟩
end
section
variable {F:Nat} {L:ae}
def af9(g:cK F L){k a b c:Int}(z:k=1\/k=4\/k=6)(y:dc F L k a b c false false 0):∃p N D,W_ F L k a b c p N D:=by
 have hl:=g.len;have B:=avW g;have u:=azk g;have H:∀x∈L,∀k:Nat,k<=4->IntKind.i64.wrap (x.id-(k:Int))=x.id-k:=λx m k z=>by have:=u x m;exact nK J J
 have f:∀x∈L,IntKind.i64.wrap (x.ay-2)=x.ay-2:=λx m=>by have:=B x m;exact nK J J
 rcases z with rfl|rfl|rfl
 .obtain⟨A,h,rfl,rfl,rfl,_⟩:=(zx (.inl rfl)).1 y;exact⟨_,_,_,aul g h (U8 g h) (U8 g (CV h)),aAX g h,azP g A 0 0 false false 0 h hl f⟩
 .obtain⟨A,h,rfl,rfl,rfl,_⟩:=(zx (.inr rfl)).1 y;exact⟨_,_,_,aE0 g h,aDD g h,aGq g A 0 0 false false 0 (js h) hl H⟩
 obtain⟨A,bv,E,j,rfl,rfl,rfl,_⟩:=(BG (.inr rfl)).1 y;exact⟨_,_,_,aud g J j,aB3 g J j,arj g A bv 0 false false 0 J j hl H⟩
def apo(g:cK F L)(j:m.k=1\/m.k=4\/m.k=6)(h:iY F L m=some X):∃a b c:Nat,a<I L/\b<I L/\c<I L/\(m.k=6\/b=0)/\c=0/\m=⟨m.k,a,b,c,false,false,0⟩:=by
 have H:=(Kh g (by unfold ef;omega) h).2.1;have hp:=g.pos;obtain⟨k,a,b,c,l,o,sg⟩:=m;simp only at j H |-;rcases j with rfl|rfl|rfl
 .obtain⟨A,f,rfl,rfl,rfl,rfl,rfl,rfl⟩:=(zx (.inl rfl)).1 H;exact⟨A,0,0,f,hp,hp,.inr rfl,rfl,rfl⟩
 .obtain⟨A,f,rfl,rfl,rfl,rfl,rfl,rfl⟩:=(zx (.inr rfl)).1 H;exact⟨A,0,0,f,hp,hp,.inr rfl,rfl,rfl⟩
 obtain⟨A,bv,E,u,rfl,rfl,rfl,rfl,rfl,rfl⟩:=(BG (.inr rfl)).1 H;exact⟨A,bv,0,J,u,hp,.inl rfl,rfl,rfl⟩
def aGN(g:cK F L)(H:m.k=1\/m.k=4\/m.k=6)(h:iY F L m=some X):aJ S 60 [df F L,D_ m] (.agg [.p (.int .i64 F),aX fI 6 (bQ X)]):=by obtain⟨_,x,P,u,rfl⟩:=Kh g (by unfold ef;omega) h;obtain⟨a,b,c,_,_,_,_,_,e⟩:=apo g H h;generalize m.k=k at*;subst e;obtain⟨p,N,D,_,⟨_,j⟩,pa⟩:=af9 g H x;have f:=j P u;rw[f.fin];exact pa
def aov{k:Int}(f:k=1\/k=4\/k=6){a b c sg:Int}{l o:Bool}:dc F [] k a b c l o sg=false:=by
 cases H:dc F [] k a b c l o sg with
 |false=>rfl
 |true=>
  rcases f with rfl|rfl|rfl
  .obtain⟨A,h,_⟩:=(zx (.inl rfl)).1 H;simp at h
  .obtain⟨A,h,_⟩:=(zx (.inr rfl)).1 H;simp at h
  obtain⟨A,bv,E,g,_⟩:=(BG (.inr rfl)).1 H;simp at g
def adx(j:L=[]\/cK F L){k:Int}(f:k=1\/k=4\/k=6):∃M:dB,aJ S 95 [df F L,aC k] (.one (aX nW 7 (aS M)))/\M.Pairwise uy/\ ∀m,m∈M↔m.k=k/\ ∃X,iY F L m=some X:=by
 have hl:I L<=400:=by
  rcases j with rfl|g
  .simp
  exact g.len
 have O:∀a b c:Nat,aJ S 198 [kQ F L,gP k a b c false false 0] (dn (!dc F L k a b c false false 0)):=λa b c=>by
  rcases f with rfl|rfl|rfl
  .exact aDK J
  .exact ayh J
  exact atK J
 have R:∀x y:Int,Jz x y k=(x,y):=λx y=>by rcases f with rfl|rfl|rfl<;>rfl
 have al:∀a b c:Nat,_:=λa b c=>am3 (a:=a) (b:=b) (c:=c) j (show ef k by unfold ef;omega) R (O a b c) (λe=>by subst e;exact aov f) (λg N=>af9 g f N);obtain⟨v,hv⟩:∃v:Nat->Nat->Nat->Int,∀a b c:Nat,aJ S 163 [kQ F L,gP k a b c false false 0] (fQ (v a b c))/\(v a b c=0↔ ∃X,iY F L ⟨k,a,b,c,false,false,0⟩=some X):=
  ⟨λa b c=>Classical.choose (al a b c),λa b c=>Classical.choose_spec (al a b c)⟩
 have u:∀m X,m.k=k->iY F L m=some X->∃a b c:Nat,a<I L/\b<I L/\c<I L/\(k=6\/b=0)/\c=0/\m=⟨k,a,b,c,false,false,0⟩:=by
  intro m X Q H;subst Q;rcases j with rfl|g
  .exfalso;have e:=MJ (show ef m.k by unfold ef;omega) (.inl rfl) (aov (F:=F) f (a:=m.a) (b:=m.b) (c:=m.c) (l:=m.l) (o:=m.o) (sg:=m.s));rw[show(⟨m.k,m.a,m.b,m.c,m.l,m.o,m.s⟩:dx)=m by cases m;rfl,H]at e;cases e
  exact apo g f H
 have fin:∀ {fg h},_:=λ{fg h} j=>Xf (n:=max (I L) 1) (fg:=fg) (h:=h) (λa b c=>(hv a b c).2) j;rcases f with rfl|rfl|rfl
 .refine⟨_,P8 j hl U adC KD JA Jy My λa b c=>(hv a b c).1,Nn _ _ _ _ _,fin λm X Q H=>?_⟩;obtain⟨a,b,c,B,z,E,A,D,e⟩:=u m X Q H;exact⟨a,b,c,J,by simp;omega,by simp;omega,e⟩
 .refine⟨_,P8 j hl U ad2 KD JA Jy My λa b c=>(hv a b c).1,Nn _ _ _ _ _,fin λm X Q H=>?_⟩;obtain⟨a,b,c,B,z,E,A,D,e⟩:=u m X Q H;exact⟨a,b,c,J,by simp;omega,by simp;omega,e⟩
 refine⟨_,P8 j hl U acQ Ly Ju Mv JT λa b c=>(hv a b c).1,Nn _ _ _ _ _,fin λm X Q H=>?_⟩;obtain⟨a,b,c,B,z,E,A,D,e⟩:=u m X Q H;exact⟨a,b,c,J,by simp;omega,by simp;omega,e⟩
end
section
variable {F:Nat} {L:ae}
def adm{aj:aB}{s:Nat}{r:dB}(lo:S.lone s):eF aj [] s ((RV.one (aX nW 7 (aS (m::r)))).fi (S.lone s))=some (.one (.p (.sl (m.ps::aS r))),[]):=FE lo
def acZ{aj:aB}{s:Nat}(lo:S.lone s):eF aj [] s ((RV.one (aX nW 7 (aS []))).fi (S.lone s))=some (.one (.p .nils),[]):=FE lo
def aEa{y u A:dB}(B:aJ S 95 [df F L,aC 1] (.one (aX nW 7 (aS y))))(D:aJ S 95 [df F L,aC 4] (.one (aX nW 7 (aS u))))(E:aJ S 95 [df F L,aC 6] (.one (aX nW 7 (aS A)))):aJ S 59 [df F L] (afb (y++u++A)):=by
 have lo:S.lone 3776320320:=ah;have Z:((0:Int)<((0:Nat):Int))=False:=aQ;have f:IntKind.i64.wrap 1=1:=U;have g:IntKind.i64.wrap 2=2:=U;have j:IntKind.i64.wrap 3=3:=U;have h:(1:Int)<3:=U;have H:(2:Int)<3:=U;have x:¬(3:Int)<3:=U;refine bt asf ?_;simp only[go_sem,ahj];refine mx ?_;cases y with
 |cons m r=>have z:(0:Int)<((I r+1:Nat):Int):=J;simp only[go_sem,Fx,ET,ow B (adm lo),Y7,z,f,g,h,H,dx.ps];first|done|exact aI|exact⟨aI,rfl⟩|trace_state
 |nil=>
  simp only[go_sem,Fx,ET,ow B (acZ lo),Z,f,g,j,h,H];refine⟨aI,?_⟩;refine mx ?_;cases u with
  |cons m r=>have z:(0:Int)<((I r+1:Nat):Int):=J;simp only[go_sem,Fx,ET,ow D (adm lo),Y7,z,f,g,h,H,dx.ps];first|done|exact aI|exact⟨aI,rfl⟩|trace_state
  |nil=>
   simp only[go_sem,Fx,ET,ow D (acZ lo),Z,f,g,j,h,H];refine⟨aI,?_⟩;refine mx ?_;cases A with
   |cons m r=>have z:(0:Int)<((I r+1:Nat):Int):=J;simp only[go_sem,Fx,ET,ow E (adm lo),Y7,z,f,g,h,H,dx.ps];first|done|exact aI|exact⟨aI,rfl⟩|trace_state
   |nil=>simp only[go_sem,Fx,ET,ow E (acZ lo),Z,f,g,j,h,H];refine⟨aI,?_⟩;refine mx ?_;simp only[go_sem,Fx,aiB,j,x];first|done|rfl|trace_state
def awg(h:dA (F:Int) L=0):∃M,aJ S 45 [df F L,.one (.p (.sl (dR w8)))] (.tup [.one (aX iN 7 (aS M)),.one (.p (.int .i64 0))])/\M.Pairwise uy/\ ∀m,m∈M↔m.k∈w8/\ ∃X,iY F L m=some X:=by
 by_cases z:L=[]
 .subst z;obtain⟨M,⟨_,x⟩,ps⟩:=Y6 h w8 U Qt;have A:M=[]:=aev.2 λm E=>by
   obtain⟨_,⟨a,j,_⟩,_⟩:=x m E;simp at j
  subst A;refine⟨[],ps,List.Pairwise.nil,λm=>⟨λh=>(by cases h),λ⟨f,X,u⟩=>?_⟩⟩;exfalso;have f:m.k=1\/m.k=4\/m.k=6:=by simpa using f
  cases H:dc F [] m.k m.a m.b m.c m.l m.o m.s with
  |false=>have e:=MJ (show ef m.k by unfold ef;omega) (.inl rfl) H;rw[show(⟨m.k,m.a,m.b,m.c,m.l,m.o,m.s⟩:dx)=m by cases m;rfl,u]at e;cases e
  |true=>
   rcases f with e|e|e
   .rw[e]at H;obtain⟨y,j,_⟩:=(zx (.inl rfl)).1 H;simp at j
   .rw[e]at H;obtain⟨y,j,_⟩:=(zx (.inr rfl)).1 H;simp at j
   rw[e]at H;obtain⟨y,bv,R,D,_⟩:=(BG (.inr rfl)).1 H;simp at D
 obtain⟨G,e,g⟩:=uU h z;have:F=G:=J;subst this;obtain⟨M,⟨_,Q,_,N⟩,ps⟩:=acA g w8 U Qt;refine⟨M,ps,N,λm=>⟨λx=>?_,λ⟨f,X,u⟩=>ahS g U Qt ps f u⟩⟩;obtain⟨O,_,X,B,_⟩:=abR h Qt (Q m x);exact⟨O,X,B⟩
def Xj(h:dA (F:Int) L=0){r:RV}(hp:aJ S 27 [df F L] r):aJ S 59 [df F L] r:=by
 have u:L=[]\/cK F L:=by
  by_cases D:L=[]
  .exact .inl D
  obtain⟨G,e,g⟩:=uU h D;have:F=G:=J;subst this;exact .inr g
 obtain⟨N,ps,mE,pS⟩:=awg h;obtain⟨l1,Q,O,M⟩:=adx u (.inl rfl);obtain⟨T,X,R,A⟩:=adx u (.inr (.inl rfl));obtain⟨l6,Y,Z,B⟩:=adx u (.inr (.inr rfl));have E:=aEa Q X Y;have e:l1++T++l6=N:=by
  refine anO (λ_ _=>akU) ?_ mE λm=>?_
  .refine Ac.2 ⟨Ac.2 ⟨O,R,λx j y z=>.inl ?_⟩,Z,λx j y z=>.inl ?_⟩
   .rw[((M x).1 j).1,((A y).1 z).1];decide
   rw[((B y).1 z).1];rcases fc.1 j with j|j
   .rw[((M x).1 j).1];decide
   rw[((A x).1 j).1];decide
  rw[fc,fc,M,A,B,pS];simp only[dk,iu,or_false];constructor
  .rintro ((⟨H,f⟩|⟨H,f⟩)|⟨H,f⟩)
   .exact⟨.inl H,f⟩
   .exact⟨.inr (.inl H),f⟩
   exact⟨.inr (.inr H),f⟩
  rintro⟨H|H|H,f⟩
  .exact .inl (.inl ⟨H,f⟩)
  .exact .inl (.inr ⟨H,f⟩)
  exact .inr ⟨H,f⟩
 rw[e]at E;rw[hp.yv (WD ps)];exact E
end
section
variable {F:Nat} {f:ae}
def ao4{aj:aB}{s:Nat}(lo:S.lone s):eF aj [] s ((RV.agg [.p x,aX A z j]).fi (S.lone s))=some (.agg [.p x,.p (ki j)],[]):=by
 rw[lo];unfold aX ki;by_cases h:j=[]
 .rw[aH h,aH h];rfl
 rw[aw h,aw h];rfl
def aFm{f T z:Nat}{c:c6}{aj:aB}(h:aY f T z j (.one c) aj):gr aj (.tup [.agg [.p x,.p y],.one c])=some (.tup [.agg [.p x,.p y],.one (aX T z j)]):=by obtain⟨u,o,m,H,g⟩:=h.gR;cases m;have e1:∀v:PV,gR aj (.p v)=some (.p v,[],[]):=λ_=>rfl;rcases g with rfl|rfl<;>simp[gr,nx,tH,k5,kj,H,e1,lG,pB,nD,zu]
def aFr:∀ {m:dB}{f:ae},pJ F f m=some L->∀k,k<=I m->∃bK,pJ F f (m.take k)=some bK:=by
 intro m f h k g;cases H:pJ F f (m.take k)with
 |some bK=>exact⟨bK,rfl⟩
 |none=>have:=aDv (r:=m.drop k) H;rw[ot,h]at this;cases this
def aGk{h:dB}{M:ae}(my:dA (F:Int) f=0)(hl:I f<=400)(y:BO F f h M)(dL:Ik F M):aJ S 30 [df F f] (.tup [.agg [.p (.int .i64 F),.p (ki (bQ M))],.one (aX nW 7 (aS h))]):=by
 have iI:S.lone 1920128064:=ah;have Qv:S.lone 1920384128:=ah;have N:=aaF (F:Int) f J;have ab:=y.len;refine bt aBy ?_;simp only[go_sem,afF,Rx,a_ N (ao4 iI)];refine c_ (λk g aj=>∃bK c,pJ F f (h.take k)=some bK/\g 1=.one (.bh 1920000000 1 0)/\g 2=.one (.bh 1920000064 1 0)/\aj 1920000064=(1,some (.var [.p (.int .i64 0),.p .nils]))/\aj 1920000000=(1,some (.var [.p (.int .i64 F),.p (ki (bQ bK))]))/\g 4=.one c/\aY 1920448192 nW 7 (aS (h.take k)) (.one c) aj) 0 (I h) (cE _) ?_ ?_
 .simp only[go_sem];refine⟨f,.p .nils,rfl,?_⟩;repeat' apply And.intro
  all_goals first|rfl|exact aY.nil
 rintro k g aj hk ⟨bK,c,A,O,E,L,b0,h4,gp⟩
 have ub:=AD (bQ bK);by_cases aq:k<I h
 .obtain⟨m,Q⟩:=aR aq;obtain⟨K',z,B,pr⟩:=y.rdg k m Q;rw[A]at z;cases z;have u:=Xj B pr;have LU:=y.kind m (ch Q);have Hp:m.k=1\/m.k=4\/m.k=6:=by simpa using LU
  obtain⟨X,hX⟩:=aFr y.rep (k+1) J;have Qf:h.take (k+1)=h.take k++[m]:=by rw[iJ,Q];rfl
  have x:=hX;rw[Qf,ade m A]at x;have R:cK F bK:=by
   by_cases aN:bK=[]
   .exfalso;subst aN;cases H:dc F [] m.k m.a m.b m.c m.l m.o m.s with
    |false=>have e:=MJ (show ef m.k by unfold ef;omega) (.inl rfl) H;rw[show(⟨m.k,m.a,m.b,m.c,m.l,m.o,m.s⟩:dx)=m by cases m;rfl,x]at e;cases e
    |true=>
     rcases Hp with e|e|e
     .rw[e]at H;obtain⟨av,T,_⟩:=(zx (.inl rfl)).1 H;simp at T
     .rw[e]at H;obtain⟨av,T,_⟩:=(zx (.inr rfl)).1 H;simp at T
     rw[e]at H;obtain⟨av,bv,ez,hb,_⟩:=(BG (.inr rfl)).1 H;simp at hb
   obtain⟨G,e,ac⟩:=uU B aN;have:F=G:=J;subst this;exact ac
  have D:=aGN R Hp x;simp only[go_sem,abo,O,E,h4,b0,L,ub,W7,a_ u HE,ahz,a_ D (ao4 Qv)];refine l_ (id:=1920448192) (y:=1920448192) (j:=aS (h.take k)) (B:=[m.ps]) (gp.of_eq (by simp only[aT,Nat.reduceEqDiff,if_false])) (by simp only[fz,aT,if_true];rfl) (.inl rfl) (by simp only[k_,iM,dw,eK];omega) λc2 ao g1 Z=>?_;have Y:=Z 1920000000 U U;have q1:=Z 1920000064 U U;simp only[go_sem,b0,L]at Y q1;simp only[go_sem,O,E];refine⟨aq,X,c2,hX,q1,Y,rfl,?_⟩;rw[Qf,show aS (h.take k++[m])=aS (h.take k)++[m.ps] by simp[aS]];exact g1
 have PD:k=I h:=J;subst PD;rw[jN]at A gp;rw[y.rep]at A;cases A;have u:=Xj y.chk (WD (h:=[]) dL);have u:aJ S 59 [df F M] (xY LD false):=u;simp only[go_sem,abo,O,E,h4,b0,L,ub,W7,a_ u HE];exact aFm (gp.of_eq (by simp only[aT,Nat.reduceEqDiff,if_false]))
end
section
variable {F:Nat} {L:ae}
def amA(g:cK F L){k a b c:Int}(m:k=3\/k=8)(f:dc F L k a b c false false 0):∃p N D,W_ F L k a b c p N D:=by
 have hl:=g.len;rcases m with rfl|rfl
 .obtain⟨A,bv,E,h,rfl,rfl,rfl,_⟩:=(BG (.inl rfl)).1 f;exact⟨_,_,_,ayo g J h,aBP g J h J,aF2 g A bv 0 false false 0 J h J hl⟩
 obtain⟨A,bv,j,E,u,H,rfl,rfl,rfl,_⟩:=Us.1 f;exact⟨_,_,_,aFT g J J H,aqI g J J H,aB8 g A bv j false false 0 J J H J hl⟩
def afh{k:Int}(f:k=3\/k=8){a b c sg:Int}{l o:Bool}:dc F [] k a b c l o sg=false:=by
 cases h:dc F [] k a b c l o sg with
 |false=>rfl
 |true=>
  rcases f with rfl|rfl
  .obtain⟨A,bv,E,H,_⟩:=(BG (.inl rfl)).1 h;simp at H
  obtain⟨A,bv,j,E,m,g,_⟩:=Us.1 h;simp at g
def RM(j:L=[]\/cK F L)(f:m.k=3\/m.k=8)(h:iY F L m=some X):∃a b c:Nat,a<I L/\b<I L/\c<I L/\(m.k=8\/c=0)/\m=⟨m.k,a,b,c,false,false,0⟩/\cK F L:=by
 have H:dc F L m.k m.a m.b m.c m.l m.o m.s:=by
  cases H:dc F L m.k m.a m.b m.c m.l m.o m.s with
  |true=>rfl
  |false=>have e:=MJ (show ef m.k by unfold ef;omega) j H;rw[show(⟨m.k,m.a,m.b,m.c,m.l,m.o,m.s⟩:dx)=m by cases m;rfl,h]at e;cases e
 rcases j with rfl|g
 .rw[afh f]at H;cases H
 have hp:=g.pos;obtain⟨k,a,b,c,l,o,sg⟩:=m;simp only at f H |-;rcases f with rfl|rfl
 .obtain⟨A,bv,E,u,rfl,rfl,rfl,rfl,rfl,rfl⟩:=(BG (.inl rfl)).1 H;exact⟨A,bv,0,J,u,hp,.inr rfl,rfl,g⟩
 obtain⟨A,bv,x,E,z,y,rfl,rfl,rfl,rfl,rfl,rfl⟩:=Us.1 H;exact⟨A,bv,x,J,J,y,.inl rfl,rfl,g⟩
def aw1(g:cK F L)(H:m.k=3\/m.k=8)(h:iY F L m=some X):aJ S 60 [df F L,D_ m] (.agg [.p (.int .i64 F),aX fI 6 (bQ X)]):=by obtain⟨_,x,P,u,rfl⟩:=Kh g (by unfold ef;omega) h;obtain⟨a,b,c,_,_,_,_,e,_⟩:=RM (.inr g) H h;generalize m.k=k at*;subst e;obtain⟨p,N,D,_,⟨_,j⟩,pa⟩:=amA g H x;have f:=j P u;rw[f.fin];exact pa
def aft(h:L=[]\/cK F L){k:Int}(H:k=3\/k=8):∃M:dB,aJ S 95 [df F L,aC k] (.one (aX nW 7 (aS M)))/\M.Pairwise uy/\ ∀m,m∈M↔m.k=k/\ ∃X,iY F L m=some X:=by
 have hl:I L<=400:=by
  rcases h with rfl|g
  .simp
  exact g.len
 have B:∀a b c:Nat,aJ S 198 [kQ F L,gP k a b c false false 0] (dn (!dc F L k a b c false false 0)):=λa b c=>by
  rcases H with rfl|rfl
  .exact aBO J
  exact az4 J
 have E:∀x y:Int,Jz x y k=(x,y):=λx y=>by rcases H with rfl|rfl<;>rfl
 have al:∀a b c:Nat,_:=λa b c=>am3 (a:=a) (b:=b) (c:=c) h (show ef k by unfold ef;omega) E (B a b c) (λe=>by subst e;exact afh H) (λg A=>amA g H A);obtain⟨v,hv⟩:∃v:Nat->Nat->Nat->Int,∀a b c:Nat,aJ S 163 [kQ F L,gP k a b c false false 0] (fQ (v a b c))/\(v a b c=0↔ ∃X,iY F L ⟨k,a,b,c,false,false,0⟩=some X):=
  ⟨λa b c=>Classical.choose (al a b c),λa b c=>Classical.choose_spec (al a b c)⟩
 rcases H with rfl|rfl
 .refine⟨_,P8 h hl U adW Ly Ju Mv JT λa b c=>(hv a b c).1,Nn _ _ _ _ _,Xf (λa b c=>(hv a b c).2) λm X Q f=>?_⟩;obtain⟨a,b,c,z,u,D,j,e,_⟩:=RM h (.inl Q) f;rw[Q]at e j;exact⟨a,b,c,J,by simp;omega,by simp;omega,e⟩
 refine⟨_,P8 h hl U Z6 abp Xn acv adt λa b c=>(hv a b c).1,Nn _ _ _ _ _,Xf (λa b c=>(hv a b c).2) λm X Q f=>?_⟩;obtain⟨a,b,c,z,u,D,j,e,_⟩:=RM h (.inr Q) f;rw[Q]at e j;exact⟨a,b,c,J,by simp;omega,by simp;omega,e⟩
end
def Ej(a:Nat)(b:UInt8):Nat:=10*a+(b.toNat-48)
def ve(b:UInt8):Prop:=48<=b.toNat/\b.toNat<=57
def Mc{n:Nat}(h:n<256):(UInt8.ofNat n).toNat=n:=by rw[UInt8.toNat_ofNat'];exact jv h
def arR:∀(k u:Nat) (A:wV),u<10 ^ (k+1)->∃D,tT (k+1) u A=D++A/\D≠[]/\(∀b∈D,ve b)/\D.foldl Ej 0=u:=by
 intro k
 induction k with
 |zero=>
  intro u A h;have f:u<10:=by simpa using h
  refine⟨[UInt8.ofNat (48+u)],?_,aQ,λb H=>?_,?_⟩
  .unfold tT;have H:Nat.blt u 10:=U2 f;rw[H];rfl
  .rw[kV.1 H];unfold ve;rw[Mc J];omega
  show Ej 0 (UInt8.ofNat (48+u))=u;unfold Ej;rw[Mc J];omega
 |succ k m=>
  intro u A h;by_cases f:u<10
  .refine⟨[UInt8.ofNat (48+u)],?_,aQ,λb H=>?_,?_⟩
   .unfold tT;have H:Nat.blt u 10:=U2 f;rw[H];rfl
   .rw[kV.1 H];unfold ve;rw[Mc J];omega
   show Ej 0 (UInt8.ofNat (48+u))=u;unfold Ej;rw[Mc J];omega
  have j:u/10<10 ^ (k+1):=by have:10 ^ (k+1+1)=10 ^ (k+1)*10:=Nat.pow_succ ..;omega
  have B:=fC u (show 0<10 by decide);obtain⟨D,y,z,g,x⟩:=m (u/10) (UInt8.ofNat (48+u%10)::A) j;refine⟨D++[UInt8.ofNat (48+u%10)],?_,aQ,λb H=>?_,?_⟩
  .have H:Nat.blt u 10=false:=by
    cases e:Nat.blt u 10 with
    |false=>rfl
    |true=>exact absurd (jn e) f
   have e:tT (k+1+1) u A=tT (k+1) (u/10) (UInt8.ofNat (48+u%10)::A):=by rw[tT,H];rfl
   rw[e,y];simp
  .rcases fc.1 H with H|H
   .exact g b H
   rw[kV.1 H];unfold ve;rw[Mc J];omega
  rw[za,x];show Ej (u/10) (UInt8.ofNat (48+u%10))=u;unfold Ej;rw[Mc J];omega
def fg (n:Nat):wV:=tT 20 n []
def vG{n:Nat}(h:n<=1000000):(∀b∈fg n,ve b)/\(fg n).foldl Ej 0=n:=by
 have hp:n<10 ^ (19+1):=Nat.lt_of_le_of_lt h U;obtain⟨D,f,_,g,H⟩:=arR 19 n [] hp;have e:fg n=D:=by unfold fg;rw[f,lg]
 rw[e];exact⟨g,H⟩
def aay(n:Nat):(mK (n:Int)).data.toList=fg n:=rfl
def Vi:∀ {x y:wV}{c d:UInt8}{r q:wV},(∀b∈x,ve b)->(∀b∈y,ve b)-> ¬ve c-> ¬ve d->x++c::r=y++d::q->x=y/\c=d/\r=q:=by
 intro x
 induction x with
 |nil=>
  intro y c d r q _ H g _ h;cases y with
  |nil=>cases h;exact⟨rfl,rfl,rfl⟩
  |cons b y=>exfalso;rw[fN,nA]at h;exact g ((FJ h).1▸H b aQ)
 |cons a x A=>
  intro y c d r q m H g j h;cases y with
  |nil=>exfalso;rw[fN,nA]at h;exact j ((FJ h).1▸m a aQ)
  |cons b y=>rw[nA,nA]at h;obtain⟨e,h⟩:=FJ h;obtain⟨B,u,z⟩:=A (λb f=>m b (by simp[f])) (λb f=>H b (by simp[f])) g j h;exact⟨by rw[e,B],u,z⟩
def HS(l:aa):Prop:= ∃a b c:Nat,a<=1000000/\b<=1000000/\c<=1000000/\((l.kind=1/\l.gate=a/\l.ay=b/\l.id=0/\l.sign=0/\l.over=false)\/(l.kind=2/\l.gate=0/\l.ay=0/\l.id=c/\(l.sign=1\/l.sign= -1)))
def aEJ{F:Nat}(g:cK F L):∀l∈L,HS l:=by
 intro l hl;have y:=g.len;have z:=g.fing;have h:=g.bad l hl;rcases yO h with hp|H
 .obtain⟨g0,g1,r0,r1⟩:=g.ok.ax.fK l hl hp;have:=qk (pP l.gate.toNat) L;obtain⟨⟨⟨_,f⟩,hs⟩,j⟩:=(sU hp).1 h;simp only[di]at r1;refine⟨l.gate.toNat,l.ay.toNat,0,J,J,J,.inl ⟨dI.1 hp,J,J,f,hs,j⟩⟩
 obtain⟨i1,i2⟩:=g.ids.1 l hl H;have:=qk aa.aF L;obtain⟨⟨x,m⟩,u⟩:=(M6 H).1 h;refine⟨0,0,l.id.toNat,J,J,J,.inr ⟨dI.1 H,x,m,J,?_⟩⟩;by_cases e:l.sign=1
 .exact .inl e
 by_cases e2:l.sign= -1
 .exact .inr e2
 simp[e,e2]at u
def uJ (l:aa):wV:=(tC l).data.toList
def IB(a b:ByteArray):(a++b).data.toList=a.data.toList++b.data.toList:=by rw[ByteArray.data_append,Array.toList_append]
def NV{l:aa}{a b:Nat}(h:l.kind=1)(f:l.gate=a)(H:l.ay=b):uJ l=fg a++46::fg b:=by unfold uJ tC;rw[h,f,H];show(mK (a:Int)++aea++mK (b:Int)).data.toList=_;rw[IB,IB,aay,aay];show fg a++[46]++fg b=_;simp
def Nl{l:aa}{c:Nat}(H:l.kind=2)(g:l.id=c)(f:l.sign=1\/l.sign= -1):uJ l=fg c++(if l.over then 111 else 117)::(if l.sign=1 then [43]else [45]):=by unfold uJ tC;rw[H,g];show((mK (c:Int)++(if l.over then RR else QS))++(if l.sign==1 then Tw else if l.sign== -1 then RE else V6)).data.toList=_;rw[IB,IB,aay];rcases f with h|h<;>rw[h]<;>cases l.over<;>simp[RR,QS,Tw,RE]
def nd:¬ve 46/\ ¬ve 111/\ ¬ve 117:=by unfold ve;decide
def awm{x y:aa}(F:HS x)(H:HS y)(h:uJ x=uJ y):x=y:=by
 obtain⟨a,b,c,L,T,O,F⟩:=F;obtain⟨Z,R,Q,M,qo,D,H⟩:=H;obtain⟨N,n2,n3⟩:=nd;have ext:∀a b:aa,a.kind=b.kind->a.gate=b.gate->a.ay=b.ay->a.id=b.id->a.sign=b.sign->a.over=b.over->a=b:=λa b=>by cases a;cases b;simp only[aa.mk.injEq];intros;simp_all
 have no:∀o:Bool,¬ve (if o then 111 else 117):=λo=>by cases o<;>assumption
 have ne:∀o:Bool,(46:UInt8)≠(if o then 111 else 117):=λo=>by cases o<;>decide
 rcases F with⟨X,z,f,x4,A,x6⟩|⟨X,z,f,x4,A⟩<;>rcases H with⟨Y,B,g,m,j,y6⟩|⟨Y,B,g,m,j⟩
 .rw[NV X z f,NV Y B g]at h;obtain⟨e1,_,e2⟩:=Vi (vG L).1 (vG M).1 N N h;have E:a=Z:=by rw[<- (vG L).2,<- (vG M).2,e1]
  have e4:b=R:=by rw[<- (vG T).2,<- (vG qo).2,e2]
  exact ext _ _ (by rw[X,Y]) (by rw[z,B,E]) (by rw[f,g,e4]) (by rw[x4,m]) (by rw[A,j]) (by rw[x6,y6])
 .rw[NV X z f,Nl Y m j]at h;exact absurd (Vi (vG L).1 (vG D).1 N (no _) h).2.1 (ne _)
 .rw[Nl X x4 A,NV Y B g]at h;exact absurd (Vi (vG O).1 (vG M).1 (no _) N h).2.1.symm (ne _)
 rw[Nl X x4 A,Nl Y m j]at h;obtain⟨e1,e2,E⟩:=Vi (vG O).1 (vG D).1 (no _) (no _) h;have e4:c=Q:=by rw[<- (vG O).2,<- (vG D).2,e1]
 refine ext _ _ (by rw[X,Y]) (by rw[z,B]) (by rw[f,g]) (by rw[x4,m,e4]) ?_ ?_
 .rcases A with s|s<;>rcases j with u|u<;>rw[s,u]at E |- <;>revert E<;>decide
 revert e2;cases x.over<;>cases y.over<;>decide
def akf{x:aa}(f:HS x):∀b∈uJ x,b≠32:=by
 obtain⟨a,b,c,y,g,B,f⟩:=f;have A:¬ve 32:=by unfold ve;decide
 have dg:∀z,z<=1000000->∀q∈fg z,q≠32:=λz D q H e=>A (e▸(vG D).1 q H);rcases f with⟨X,m,j,_⟩|⟨X,_,_,x4,u⟩
 .rw[NV X m j];intro q H;rcases fc.1 H with h|h
  .exact dg a y q h
  rcases dk.1 h with rfl|h
  .decide
  exact dg b g q h
 rw[Nl X x4 u];intro q H;rcases fc.1 H with h|h
 .exact dg c B q h
 rcases dk.1 h with rfl|h
 .cases x.over<;>decide
 split at h<;>(rw[kV.1 h];decide)
def ate:∀ {x y r q:wV},(∀b∈x,b≠32)->(∀b∈y,b≠32)->(r=[]\/ ∃t,r=32::t)->(q=[]\/ ∃t,q=32::t)->x++r=y++q->x=y/\r=q:=by
 intro x
 induction x with
 |nil=>
  intro y r q _ H f j h;cases y with
  |nil=>exact⟨rfl,h⟩
  |cons b y=>
   exfalso;rw[fN,nA]at h;rcases f with rfl|⟨t,rfl⟩
   .cases h
   exact H b aQ (FJ h).1.symm
 |cons a x z=>
  intro y r q m H f j h;cases y with
  |nil=>
   exfalso;rw[fN,nA]at h;rcases j with rfl|⟨t,rfl⟩
   .cases h
   exact m a aQ (FJ h).1
  |cons b y=>rw[nA,nA]at h;obtain⟨e,h⟩:=FJ h;obtain⟨A,u⟩:=z (λb g=>m b (by simp[g])) (λb g=>H b (by simp[g])) f j h;exact⟨by rw[e,A],u⟩
def aGK:∀ {A B:ae},(∀l∈A,HS l)->(∀l∈B,HS l)->(A.flatMap λl=>32::uJ l)=(B.flatMap λl=>32::uJ l)->A=B:=by
 have T:∀X:ae,(X.flatMap λl=>32::uJ l)=[]\/ ∃t,(X.flatMap λl=>32::uJ l)=32::t:=λX=>by
  cases X with
  |nil=>exact .inl rfl
  |cons x X=>exact .inr ⟨_,by rw[Bw,nA]⟩
 intro A
 induction A with
 |nil=>
  intro B _ _ h;cases B with
  |nil=>rfl
  |cons b B=>rw[Bw,nA]at h;cases h
 |cons a A j=>
  intro B f H h;cases B with
  |nil=>rw[Bw,nA]at h;cases h
  |cons b B=>rw[Bw,Bw,nA,nA]at h;obtain⟨m,g⟩:=ate (akf (f a aQ)) (akf (H b aQ)) (T A) (T B) (FJ h).2;rw[awm (f a aQ) (H b aQ) m,j (λl h=>f l (by simp[h])) (λl h=>H l (by simp[h])) g]
def ahn(F:Int)(L:ae):(s7 F L).data.toList=(mK F++P7).data.toList++L.flatMap λl=>32::uJ l:=by
 have key:∀(L:ae) (s:ByteArray),(L.foldl (λs l=>s++(Dp++tC l)) s).data.toList=s.data.toList++L.flatMap λl=>32::uJ l:=by
  intro L
  induction L with
  |nil=>intro s;simp
  |cons l L f=>intro s;rw[vi,f,IB,IB,Bw];show s.data.toList++([32]++uJ l)++_=_;simp
 exact key L _
def ar5{F:Nat}{A B:ae}(u:dA (F:Int) A=0)(j:dA (F:Int) B=0)(h:s7 (F:Int) A=s7 (F:Int) B):A=B:=by
 have f:∀X:ae,dA (F:Int) X=0->∀l∈X,HS l:=λX m l hl=>by obtain⟨G,_,g⟩:=uU m (U6 hl);exact aEJ g l hl
 have H:(s7 (F:Int) A).data.toList=(s7 (F:Int) B).data.toList:=by rw[h]
 rw[ahn,ahn]at H;exact aGK (f A u) (f B j) (List.append_cancel_left H)
abbrev agt:Nat:=3
def ani(x:aa):aJ S 94 [xt x] (.one (aX agt 1 (dR (ss x)))):=by
 have e:∀b:Bool,dR (ss x)=[[.int .i64 x.kind],[.int .i64 x.gate],[.int .i64 x.ay],[.int .i64 x.id],[.int .i64 (if x.over then 1 else 0)],[.int .i64 x.sign]]:=λ_=>rfl;rw[vq (by rw[e true];simp),e true];refine bt ay4 ?_;cases h:x.over with
 |true=>simp only[go_sem,Y_,h];first|done|rfl
 |false=>simp only[go_sem,Y_,h];first|done|rfl
def amT{α:Type}{a b:List α}{k:Nat}{x:α}(h:a.take k=b.take k)(f:a[k]?=some x)(H:b[k]?=some x):a.take (k+1)=b.take (k+1):=by rw[iJ,iJ,h,f,H]
def axV:∀ {k:Nat}{a b:cV}{x y:Int},a.take k=b.take k->a[k]?=some x->b[k]?=some y->x≠y->r6 a b=decide (x<y):=by
 intro k
 induction k with
 |zero=>
  intro a b x y _ f H A;cases a with
  |nil=>cases f
  |cons p a=>
   cases b with
   |nil=>cases H
   |cons q b=>cases f;cases H;unfold r6;rw[aw A]
 |succ k g=>
  intro a b x y h f H A;cases a with
  |nil=>cases f
  |cons p a=>
   cases b with
   |nil=>cases H
   |cons q b=>simp only[Es,vN]at h;obtain⟨rfl,h⟩:=h;unfold r6;rw[aH rfl];exact g h f H A
def aHu:∀ {k:Nat}{a b:ae}{x y:aa},a.take k=b.take k->a[k]?=some x->b[k]?=some y->oE x y=false->jE a b=qj x y:=by
 intro k
 induction k with
 |zero=>
  intro a b x y _ f H A;cases a with
  |nil=>cases f
  |cons p a=>
   cases b with
   |nil=>cases H
   |cons q b=>cases f;cases H;unfold jE;rw[A];rfl
 |succ k g=>
  intro a b x y h f H A;cases a with
  |nil=>cases f
  |cons p a=>
   cases b with
   |nil=>cases H
   |cons q b=>simp only[Es,vN]at h;obtain⟨rfl,h⟩:=h;unfold jE;rw[OR,aH rfl];exact g h f H A
def aqV(a b:cV)(hl:I a<=1000000)(N:I a=I b):aJ S 93 [.one (.p (.sl (dR a))),.one (.p (.sl (dR b)))] (dn (r6 a b)):=by
 refine bt axx ?_;simp only[go_sem,aik,af,au];refine c_ (λk g aj=>g 0=.one (.p (.sl (dR a)))/\g 1=.one (.p (.sl (dR b)))/\g 5=aC k/\a.take k=b.take k) 0 (I a) (cE _) ?_ ?_
 .simp only[go_sem];first|done|rfl
 rintro k g aj O ⟨m,B,D,H⟩
 by_cases f:k<I a
 .have L:((k:Int)<(I a:Int)):=J;have A:k<I b:=J;have E:=cP (n:=k) J;obtain⟨x,u⟩:=aR f;obtain⟨y,j⟩:=aR A;have F:=vT u;have h:=vT j;by_cases z:x=y
  .subst z;have hs:=amT H u j;simp only[go_sem,RS,m,B,D,f,L,A,F,h,E,af,au];first|done|exact⟨aI,hs⟩|exact⟨aI,f,hs⟩|trace_state
  have M:(x !=y):=by simpa using z
  rw[axV H u j z];simp only[go_sem,RS,m,B,D,f,L,A,F,h,E,M,af,au];first|done|exact aI|exact⟨aI,aI⟩|exact⟨aI,aI,rfl⟩|trace_state
 have:k=I a:=J;subst this;have e:a=b:=by rw[e_ (cT _),e_ J]at H;exact H
 subst e;rw[aDb];simp only[go_sem,RS,ag8,m,B,D,dW,af,au];first|done|rfl
def azB(f ab:Int)(A B:ae)(hl:I A<=1000000)(ez:I A=I B):aJ S 57 [df f A,df ab B] (dn (jE A B)):=by
 have iI:S.lone 3648320320:=ah;have X:S.lone 3648320704:=ah;refine bt aFI ?_;simp only[go_sem,agq];refine c_ (λk g aj=>g 2=.one (.bh 3648000000 1 0)/\g 3=.one (.bh 3648000064 1 0)/\g 5=aC k/\aj 3648000000=(1,some (.var (oz f A)))/\aj 3648000064=(1,some (.var (oz ab B)))/\A.take k=B.take k) 0 (I A) (cE _) ?_ ?_
 .simp only[go_sem];first|done|rfl
 rintro k g aj hk ⟨E,M,F,b0,D,H⟩
 by_cases m:k<I A
 .have R:((k:Int)<(I A:Int)):=J;have Y:k<I B:=J;have Q:=cP (n:=k) J;obtain⟨x,N⟩:=aR m;obtain⟨y,L⟩:=aR Y;have T:=fP N;have h:=fP L;have j:=ap7 x y;cases u:oE x y with
  |true=>rw[u]at j;have kM:=(F8 x y).1 u;subst kM;have hs:=amT H N L;simp only[go_sem,VN,E,M,F,b0,D,m,R,Y,T,h,aa.ps,Q,j,bne];first|done|exact⟨aI,hs⟩|exact⟨aI,m,hs⟩|trace_state
  |false=>rw[u]at j;have O:=ani x;have z:=ani y;have aK:(ki (dR (ss x))).norm=.sl (dR (ss x)):=AD _;have Z:(ki (dR (ss y))).norm=.sl (dR (ss y)):=AD _;have pl:=aqV (ss x) (ss y) (by unfold ss;simp) rfl;rw[aHu H N L u,NN];generalize r6 (ss x) (ss y)=r at pl |-;generalize ss x=kx at*;generalize ss y=ky at*;simp only[go_sem,VN,E,M,F,b0,D,m,R,Y,T,h,aa.ps,Q,j,bne,avH,ow O (FE iI),ow z (FE X),aK,Z,atN,dC pl];first|done|exact aI|exact⟨aI,aI⟩|exact⟨aI,aI,rfl⟩|trace_state
 have:k=I A:=J;subst this;have e:A=B:=by rw[e_ (cT _),e_ J]at H;exact H
 subst e;rw[V5];simp only[go_sem,VN,ao5,E,M,F,b0,D,dW];first|done|rfl
def aiz:∀ {k:Nat}{l:cV}{x:Int},l[k]?=some x->x∉l.take k->l.idxOf x=k:=by
 intro k
 induction k with
 |zero=>
  intro l x h _;cases l with
  |nil=>cases h
  |cons a l=>cases h;rw[List.idxOf_cons_self]
 |succ k f=>
  intro l x h H;cases l with
  |nil=>cases h
  |cons a l=>
   simp only[Es,dk,vW]at H;have e:(a==x)=false:=by rw[ng];exactλe=>H.1 e.symm
   rw[Wc,e,cond_false,f h H.2]
def D3(l:cV)(x:Int):Int:=if l.contains x then(l.idxOf x:Int)else -1
def aoS(l:cV)(x:Int)(hl:I l<=1000000):aJ S 91 [.one (.p (.sl (dR l))),aC x] (fQ (D3 l x)):=by
 generalize H:D3 l x=r;unfold D3 at H;refine bt alE ?_;simp only[go_sem,aba,af,au];refine c_ (λk g aj=>g 0=.one (.p (.sl (dR l)))/\g 1=aC x/\g 5=aC k/\x∉l.take k) 0 (I l) (cE _) ?_ ?_
 .simp only[go_sem];first|done|simp|exact⟨rfl,aQ⟩
 rintro k g aj O ⟨u,z,B,f⟩
 by_cases A:k<I l
 .have L:((k:Int)<(I l:Int)):=J;have E:=cP (n:=k) J;obtain⟨m,j⟩:=aR A;have F:=vT j;by_cases y:m=x
  .subst y;have D:l.contains m:=D1.2 (ch j);rw[D,aH rfl,aiz j f]at H;subst H;simp only[go_sem,IA,u,z,B,A,L,F,E,af,au];first|done|rfl
  have N:(m==x)=false:=by simpa using y
  have M:x∉l.take (k+1):=by
   rw[iJ,j];intro h;rcases fc.1 h with h|h
   .exact f h
   simp at h;exact y h.symm
  simp only[go_sem,IA,u,z,B,A,L,F,E,N,af,au];first|done|exact M|exact⟨A,M⟩|trace_state
 have:k=I l:=J;subst this;rw[jN]at f;have D:l.contains x=false:=by
  cases h:l.contains x with
  |false=>rfl
  |true=>exact absurd (D1.1 h) f
 rw[D]at H;have H: -1=r:=H;subst H;simp only[go_sem,IA,aoQ,u,z,B,dW,af,au];first|done|rfl
def CP(s:cV)(x:aa):cV:=if x.kind==2 then(if s.contains x.id then s else s++[x.id])else s
def Bj(s:cV)(x:aa):aa:=if x.kind==2 then(if s.contains x.id then{x with id:=((s.idxOf x.id+1:Nat):Int)}else{x with id:=((I s+1:Nat):Int)})else x
def abU(s:cV)(x:aa)(r:ae):kW s (x::r)=Bj s x::kW (CP s x) r:=by
 unfold Bj CP;rw[kW];by_cases h:(x.kind==2)
 .rw[aH h,aH h,aH h];by_cases H:s.contains x.id
  .rw[aH H,aH H,aH H]
  rw[aw H,aw H,aw H]
 rw[aw h,aw h,aw h]
def aCE:∀(a b:ae) (s:cV),kW s (a++b)=kW s a++kW (a.foldl CP s) b:=by
 intro a
 induction a with
 |nil=>intro b s;rfl
 |cons x r f=>intro b s;rw[nA,abU,abU,f];rfl
def wz(f:ae)(k:Nat):ae:=kW [] (f.take k)++f.drop k
def zR(f:ae)(k:Nat):cV:=(f.take k).foldl CP []
section
variable {f:ae} {k:Nat} {x:aa}
def aCK(f:ae)(k:Nat):I (wz f k)=I f:=by unfold wz;rw[fv,Gl,<-fv,ot]
def Ru(h:f[k]?=some x):I (kW [] (f.take k))=k:=by have:=(cD.1 h).1;rw[Gl,iM];omega
def amg(h:f[k]?=some x):f.drop k=x::f.drop (k+1):=by obtain⟨j,g⟩:=cD.1 h;rw[<-sQ j,g]
def ag4(h:f[k]?=some x):(wz f k)[k]?=some x:=by unfold wz;rw[vI (by rw[Ru h];exact cT _),Ru h,ze,amg h];rfl
def ahT(h:f[k]?=some x):zR f (k+1)=CP (zR f k) x:=by unfold zR;rw[iJ,h,za];rfl
def atp(h:f[k]?=some x):(wz f k).set k (Bj (zR f k) x)=wz f (k+1):=by
 have e:kW [] (f.take (k+1))=kW [] (f.take k)++[Bj (zR f k) x]:=by rw[iJ,h];show kW [] (f.take k++[x])=_;rw[aCE,abU];rfl
 unfold wz;rw[e,J3 _ _ (by rw[Ru h];exact cT _),Ru h,ze,amg h,s5];rfl
def ay6(f:ae):∀k,I (zR f k)<=k:=by
 intro k
 induction k with
 |zero=>exact cT _
 |succ k g=>
  by_cases h:k<I f
  .obtain⟨x,H⟩:=aR h;rw[ahT H];unfold CP;split
   .split
    .omega
    rw[fv];simp;omega
   omega
  unfold zR at g |-;rw[e_ J]at g |-;omega
end
def ax1{aj:aB}{s:Nat}{l:Bool}:eF aj [] s ((RV.agg [.p x,.p y]).fi l)=some (.agg [.p x,.p y],[]):=by cases l<;>rfl
def ak2(ad:Int)(f:ae)(hl:I f<=1000000):aJ S 53 [df ad f] (.agg [.p (.int .i64 ad),aX fI 6 (bQ (j_ f))]):=by
 have pc:=aaF ad f hl;by_cases aN:f=[]
 .subst aN;have pc:aJ S 58 [.agg [.p (.int .i64 ad),.p (.sl [])]] (.agg [.p (.int .i64 ad),.p .nils]):=pc;refine bt apT ?_;simp only[go_sem,i53,Rx,a_ pc ax1];refine mx ?_;have z0:¬((0:Int)<((0:Nat):Int)):=U;simp only[go_sem,KR,Y9,z0];first|done|rfl
 have lo:S.lone 3392064064=false:=ah;refine bt apT ?_;simp only[go_sem,i53,Rx];refine Qc pc lo rfl (zf _) λcc pG gc nQ=>?_;have q0:=nQ 3392000000 U;have q1:=nQ 3392000064 U;simp only[go_sem]at q0 q1;rcases gc with⟨h,_⟩|⟨_,Y,e2,hC⟩
 .exact absurd (QE.1 h) aN
 cases e2;have hC:pG 3392064065=(Y,some (.arr fI 6 (bQ f))):=hC;rw[qz];simp only[go_sem,q0,q1,hC];obtain⟨g1,Cn⟩:∃g1,(pG 3392064128).1+1=g1:=⟨_,rfl⟩;rw[Cn];refine c_ (λk g aj=>g 1=.one (.bh 3392000000 1 0)/\g 2=.one (.bh 3392000064 1 0)/\g 3=.one (.bh 3392064128 g1 0)/\g 5=aC k/\aj 3392000000=(1,some (.var (oz ad f)))/\aj 3392000064=(1,some (.var [.p (.int .i64 0),.p .nils]))/\aj 3392064128=(g1,some (.var [.p (.int .i64 ad),.hsl 3392064065 Y 6 0 (I f)]))/\aj 3392064065=(Y,some (.arr fI 6 (bQ (wz f k))))/\ ∃c,g 4=.one c/\aY 3392512512 agt 1 (dR (zR f k)) (.one c) aj) 0 (I f) (cE _) ?_ ?_
 .simp only[go_sem,q0,q1,hC];have e0:wz f 0=f:=rfl;rw[e0];repeat' apply And.intro
  all_goals first|rfl|exact⟨_,rfl,aY.nil⟩
 rintro k g aj hk ⟨M,y,z,N,b0,E,Q,B,c,T,u⟩
 by_cases A:k<I f
 .have X:((k:Int)<(I f:Int)):=J;have w1:=cP (n:=k) J;obtain⟨x,D⟩:=aR A;have iE:=fP (ag4 D);have F1:=fP D;have iX:k<I (wz f k):=by rw[aCK];exact A
  have tj:=ahT D;have L:=atp D;have iB:=ay6 f k;have ag:=ag4 D;generalize wz f k=bP at*;generalize zR f k=s at*;cases m:(x.kind==2)with
  |false=>
   have Z:(x.kind !=2):=by rw[bne,m];rfl
   have j:zR f (k+1)=s:=by rw[tj];unfold CP;rw[m];rfl
   have eW:wz f (k+1)=bP:=by
    rw[<-L];have e:Bj s x=x:=by unfold Bj;rw[m];rfl
    rw[e];apply y_;intro av;rw[mA];by_cases e:k=av
    .subst e;rw[aH rfl,aH iX,ag]
    rw[aw e]
   simp only[go_sem,KR,M,y,z,T,N,b0,E,Q,B,A,X,iE,aa.ps,Z,w1];rw[j,eW];first|exact⟨rfl,_,rfl,u⟩|exact⟨A,rfl,_,rfl,u⟩|trace_state
  |true=>
   have Z:(x.kind !=2)=false:=by rw[bne,m];rfl
   obtain⟨rd,dQ,tq⟩:=u.xW;have pa:=aoS s x.id J;cases H:s.contains x.id with
   |true=>
    have ea:D3 s x.id=(s.idxOf x.id:Int):=by unfold D3;rw[H,aH rfl]
    rw[ea]at pa;have mR:s.idxOf x.id<=I s:=List.idxOf_le_length;have ap:¬((s.idxOf x.id:Int)<0):=J;have w2:=cP (n:=s.idxOf x.id) J;have j:zR f (k+1)=s:=by rw[tj];unfold CP;rw[m,H];rfl
    have ey:Bj s x={x with id:=((s.idxOf x.id+1:Nat):Int)}:=by unfold Bj;rw[m,H];rfl
    rw[ey]at L;generalize s.idxOf x.id=ix at*;simp only[go_sem,KR,M,y,z,T,N,b0,E,Q,B,A,X,iE,F1,iX,aa.ps,Z,w1,w2,dQ,Ig,dP pa,ek pa,ap,qz,kI];rw[j,<-L];refine⟨?_,?_⟩
    .rcases tq with rfl|rfl<;>kernel_rfl
    rw[IN _ _ {x with id:=((ix+1:Nat):Int)} (by simp[aa.ps])];first|exact⟨rfl,_,rfl,u.of_eq (by simp only[aT,Nat.reduceEqDiff,if_false])⟩|exact⟨A,rfl,_,rfl,u.of_eq (by simp only[aT,Nat.reduceEqDiff,if_false])⟩|trace_state
   |false=>
    have ea:D3 s x.id= -1:=by unfold D3;rw[H];rfl
    rw[ea]at pa;have ab:(-1:Int)<0:=U;have ub:x.id∉s:=λh=>by have:=D1.2 h;rw[H]at this;cases this
    have j:zR f (k+1)=s++[x.id]:=by rw[tj];unfold CP;rw[m,H];rfl
    have ey:Bj s x={x with id:=((I s+1:Nat):Int)}:=by unfold Bj;rw[m,H];rfl
    have F:=aoS (s++[x.id]) x.id (by simp;omega);have an:D3 (s++[x.id]) x.id=(I s:Int):=by unfold D3;have l9:(s++[x.id]).contains x.id:=D1.2 aQ;rw[l9,aH rfl,aiz (k:=I s) aQ (by rw[Gn];exact ub)]
    rw[an]at F;have w2:=cP (n:=I s) J;rw[ey]at L;simp only[go_sem,KR,M,y,z,T,N,b0,E,Q,B,A,X,iE,F1,iX,aa.ps,Z,dQ,Ig,dP pa,ab];refine l_ (id:=3392512512) (y:=3392512512) (j:=dR s) (B:=[[.int .i64 x.id]]) (u.of_eq (by simp only[aT,Nat.reduceEqDiff,if_false])) (by simp only[fz,aT,if_true];rfl) (.inl rfl) (by simp only[qy,dw,eK];omega) λc2 bJ R bl=>?_
    rw[show dR s++[[.int .i64 x.id]]=dR (s++[x.id]) by simp[dR]]at R;have d0:=bl 3392000000 U U;have d1:=bl 3392000064 U U;have d2:=bl 3392064128 U U;have d3:=bl 3392064065 U U;simp only[go_sem,b0,E,Q,B]at d0 d1 d2 d3;obtain⟨ar,ao,ac⟩:=R.xW;simp only[go_sem,M,y,z,N,d0,d1,d2,d3,A,X,iE,F1,iX,aa.ps,w1,w2,ao,Ig,ek F,qz,kI];rw[j,<-L];refine⟨?_,?_⟩
    .rcases ac with rfl|rfl<;>kernel_rfl
    rw[IN _ _ {x with id:=((I s+1:Nat):Int)} (by simp[aa.ps])];first|exact⟨rfl,_,rfl,R.of_eq (by simp only[aT,Nat.reduceEqDiff,if_false])⟩|exact⟨A,rfl,_,rfl,R.of_eq (by simp only[aT,Nat.reduceEqDiff,if_false])⟩|trace_state
 have PD:k=I f:=J;subst PD;have eW:wz f (I f)=j_ f:=by unfold wz j_;rw[jN,Ak,lg]
 rw[eW]at B;have O:I (j_ f)=I f:=zE f;simp only[go_sem,KR,Y9,M,y,z,T,N,b0,E,Q,B,dW];refine E7 (.inr ⟨λe=>aN (uE.1 (by rw[<-O,<-qz,e];rfl)),Y,by rw[qz,O],?_⟩);simp only[aT,Nat.reduceEqDiff,if_false];exact B
def aEy(F:Int)(f:ae)(i:Nat)(H:i<I f)(hl:I f<=1000000):aJ S 56 [df F f,aC i] (.agg [.p (.int .i64 F),aX fI 6 (bQ (fL f i))]):=by
 have m:i<=I f:=J;have h:=y7 f;have y:(List.drop i (bQ f)).take (I f-i)=bQ (f.drop i):=by rw[e_ (by rw[l8,qz];exact cT _)];exact E_.symm
 have T:List.take i (bQ f)=bQ (f.take i):=Ex.symm;refine bt aFR ?_;simp only[go_sem,ak3,qz,m,h,y];refine nP (id:=3584064384) (y:=3584064384) (bytes:=48) aY.nil (B:=bQ (f.drop i)) (rd:=[]) rfl (.inr (y7 _)) (by simp;omega) λO M r1 E g1 u z=>?_;have j:=u 3584000000 U U;have Q:=u 3584000064 U U;simp only[go_sem]at j Q;rw[fN]at g1;simp only[go_sem,j,Q,qz,m,h,T];refine nP (id:=3584064384) (y:=3584064704) (bytes:=48) g1 (B:=bQ (f.take i)) (rd:=[]) rfl (.inr (y7 _)) (by simp;omega) λD L R N x B A=>?_
 have g:=B 3584000064 U U;simp only[go_sem,Q]at g;rw[show bQ (f.drop i)++bQ (f.take i)=bQ (fL f i) by unfold fL;rw[V3]]at x;simp only[go_sem,g];refine⟨?_,E7 (x.of_eq (by simp only[aT,Nat.reduceEqDiff,if_false]))⟩;rcases z with⟨rfl,rfl⟩|⟨rfl,rfl⟩|⟨rfl,rfl⟩<;>rcases A with⟨rfl,rfl⟩|⟨rfl,rfl⟩|⟨rfl,rfl⟩<;>kernel_rfl
def xn(f:ae):eH:=(List.range (I f)).map λj=> !c9 f (I f-1-j)
def ali(f:ae):I (xn f)=I f:=by simp[xn]
def af8{k:Nat}(h:k<I f):(xn f)[k]?=some (!c9 f (I f-1-k)):=by unfold xn;rw[fY,qx h];rfl
def ae9{k:Nat}(h:k<I f):f.reverse[k]?=f[I f-1-k]? :=IW h
def aBD(f:ae):nM f.reverse (xn f)=qU f:=by
 have e:Il f.reverse (xn f)=(List.range (I f)).find? (Im f):=by
  unfold Il;rw[lK];refine ae1 λk h=>?_;have h:=gI.1 h;have u:k<I f.reverse:=by rw[lK];exact h
  have H:=js u;have m:I f-1-k<I f:=J;unfold EL Im;rw[H,af8 h];simp only;have g:(mg f).getD (I f-1-k) false=jK f (I f-1-k):=by unfold mg;rw[dS,fY,qx m];rfl
  rw[g];unfold jK;rw[ae9 h]at H;rw[H];simp only;cases j:((aZ f.reverse k).kind==1)with
  |false=>rfl
  |true=>have:(aZ f.reverse k).aM:=j;rw[this];rfl
 unfold nM qU;rw[e];cases(List.range (I f)).find? (Im f)<;>rfl
def awZ(Z:Int)(f:ae)(hl:I f<=1000000):aJ S 54 [df Z f] (.agg [.p (.int .i64 Z),aX fI 6 (bQ (qU f))]):=by
 have lo:S.lone 3456512128=false:=ah;have ps:=apX Z f.reverse (xn f) (by rw[lK];exact hl) (by rw[ali,lK]);rw[aBD]at ps;have w0:IntKind.i64.wrap ((I f:Int)-1)=(I f:Int)-1-((0:Nat):Int):=by rw[nK J J];omega
 refine bt ayP ?_;simp only[go_sem,ao7,w0];refine c_ (λk g aj=>g 1=.one (.bh 3456000000 1 0)/\g 2=.one (.bh 3456000064 1 0)/\g 3=.one (.bh 3456064192 1 0)/\g 5=.one (.p (.int .i64 ((I f:Int)-1-(k:Int))))/\aj 3456000000=(1,some (.var (oz Z f)))/\aj 3456000064=(1,some (.var [.p (.int .i64 0),.p .nils]))/\ ∃c d,aj 3456064192=(1,some (.var [.p (.int .i64 Z),c]))/\g 4=.one d/\aY 3456384512 fI 6 (bQ (f.reverse.take k)) (.one c) aj/\aY 3456448384 4 1 (eC ((xn f).take k)) (.one d) aj) 0 (I f) (cE _) ?_ ?_
 .simp only[go_sem];repeat' apply And.intro
  all_goals first|rfl|exact⟨_,_,rfl,rfl,aY.nil,aY.nil⟩
 rintro k g aj hk ⟨m,h,u,H,b0,B,c,d,R,A,Q,gd⟩
 by_cases N:k<I f
 .have e5:(I f:Int)-1-(k:Int)=((I f-1-k:Nat):Int):=J;rw[e5]at H;have Y:(0:Int)<=((I f-1-k:Nat):Int):=J;have w1:IntKind.i64.wrap (((I f-1-k:Nat):Int)-1)=(I f:Int)-1-((k+1:Nat):Int):=by rw[nK J J];omega
  have hj:I f-1-k<I f:=J;obtain⟨x,hx⟩:=aR hj;have iE:=fP hx;have pd:=Ir Z f (I f-1-k) hl J;have lk:f.reverse.take (k+1)=f.reverse.take k++[x]:=by rw[iJ,ae9 N,hx];rfl
  have X:(xn f).take (k+1)=(xn f).take k++[!c9 f (I f-1-k)]:=by rw[iJ,af8 N];rfl
  generalize c9 f (I f-1-k)=dv at*;generalize (I f)-1-k=ab at*;simp only[go_sem,ab8,m,h,u,A,H,b0,B,R,Y,hj,iE,aa.ps];refine nP (id:=3456384512) (y:=3456384512) (bytes:=48) (j:=bQ (f.reverse.take k)) (Q.of_eq (by simp only[aT,Nat.reduceEqDiff,if_false])) (B:=[x.ps]) (rd:=[3456384448]) (by simp only[fz,aT,if_true];rfl) (.inl rfl) (by simp;omega) λc1 bY r1 WS g1 y Bb=>?_
  rw[show bQ (f.reverse.take k)++[x.ps]=bQ (f.reverse.take (k+1)) by rw[lk];simp]at g1;have F:=y 3456000000 U U;have E:=y 3456000064 U U;have D:=y 3456064192 U U;have d3:=y 3456448384 U U;simp only[go_sem,b0,B,R]at F E D d3;have L:=gd.of_eq d3;simp only[go_sem,m,h,u,A,H,F,E,D];refine⟨?_,?_⟩
  .rcases Bb with⟨rfl,rfl⟩|⟨rfl,rfl⟩|⟨rfl,rfl⟩<;>kernel_rfl
  simp only[go_sem,m,h,u,A,H,F,E,D,zz,aD pd];refine l_ (id:=3456448384) (y:=3456448384) (j:=eC ((xn f).take k)) (B:=[[.bool (!dv)]]) (L.of_eq (by simp only[aT,Nat.reduceEqDiff,if_false])) (by simp only[fz,aT,if_true];rfl) (.inl rfl) (by simp;omega) λM bJ g2 z=>?_;rw[show eC ((xn f).take k)++[[.bool (!dv)]]=eC ((xn f).take (k+1)) by rw[X];simp]at g2;have f0:=z 3456000000 U U;have f1:=z 3456000064 U U;have f2:=z 3456064192 U U;have f3:=z 3456384512 U U;simp only[go_sem,F,E,D]at f0 f1 f2 f3;simp only[go_sem,m,h,u,H,f0,f1,f2,w1];exact⟨N,c1,M,rfl,rfl,g1.of_eq f3,g2⟩
 have PD:k=I f:=J;subst PD;have Y:¬(0:Int)<=(I f:Int)-1-(I f:Int):=J;rw[e_ (by rw[lK];exact cT _)]at Q;rw[e_ (by rw[ali];exact cT _)]at gd;obtain⟨rc,O,_⟩:=Q.xW;obtain⟨rd,T,_⟩:=gd.xW;simp only[go_sem,ab8,alj,m,h,u,A,H,b0,B,R,Y,O,T,afG];refine Qc ps lo rfl (zf _) λcc fy g3 dO=>?_;have m1:=dO 3456000064 U;simp only[go_sem,B]at m1;simp only[go_sem,h,m1];exact E7 (g3.of_eq (by simp only[aT,Nat.reduceEqDiff,if_false]))
def Pc(l:ae)(z:ae)(i:Nat):ae:=if ym l i&&jE (j_ (fL l i)) z then j_ (fL l i)else z
def mu(z l:ae)(n:Nat):ae:=(List.range n).foldl (Pc l) z
def aaq(z l:ae)(n:Nat):mu z l (n+1)=Pc l (mu z l n) n:=by unfold mu;rw[r9,za];rfl
def ain{z l:ae}(h:I z=I l):∀n,I (mu z l n)=I l:=by
 intro n
 induction n with
 |zero=>exact h
 |succ n f=>
  rw[aaq];unfold Pc;split
  .rw[zE,AA]
  exact f
def yx(f:ae):ae:=mu (mu (j_ f) f (I f)) (qU f) (I f)
def JY{aj:aB}{s:Nat}(lo:S.lone s):eF aj [] s ((RV.agg [.p x,aX A z j]).fi (S.lone s))=some (.agg [.p x,.p (ki j)],[]):=by
 rw[lo];unfold aX ki;by_cases h:j=[]
 .rw[aH h,aH h];rfl
 rw[aw h,aw h];rfl
def au4(l:ae)(i:Nat):ym l i=(((aZ l i).kind==1)&&c9 l i):=by unfold ym c9;congr 1
section
variable {F:Nat} {f:ae}
def ag6{z:ae}(hX:I X<=400)(hz:I z=I X){ab:Nat}{aj:aB}{Q:fM}(M:g 3=.one (.bh 1856064128 1 0))(f6:g 6=.one (.bh 1856384256 ab 0))(f7:g 7=aC 0)(b3:aj 1856064128=(1,some (.var [.p (.int .i64 F),.p (ki (bQ z))])))(b6:aj 1856384256=(ab,some (.var [.p (.int .i64 F),.p (c8 X)])))
  (hQ:∀A f,A 2=g 2->A 3=g 3->A 4=g 4->A 5=g 5->f 1856064128=(1,some (.var [.p (.int .i64 F),.p (ki (bQ (mu z X (I X))))]))->f 1856000064=aj 1856000064->f 1856128192=aj 1856128192->Q .normal A f):bP S .all (.loop Gh) (ld 2 Q) g aj:=by
 have iI:S.lone 1856704128:=ah;have Y:S.lone 1856704192:=ah;refine c_ (λi A f=>A 2=g 2/\A 3=g 3/\A 4=g 4/\A 5=g 5/\A 6=.one (.bh 1856384256 ab 0)/\A 7=aC i/\f 1856064128=(1,some (.var [.p (.int .i64 F),.p (ki (bQ (mu z X i)))]))/\f 1856384256=(ab,some (.var [.p (.int .i64 F),.p (c8 X)]))/\f 1856000064=aj 1856000064/\f 1856128192=aj 1856128192) 0 (I X) (cE _) ⟨rfl,rfl,rfl,rfl,f6,f7,b3,b6,rfl,rfl⟩ ?_;rintro i A f hi ⟨g2,g3,g4,g5,u,B,D,ft,Lc,o6⟩
 have j:=g3.trans M;by_cases m:i<I X
 .have O:((i:Int)<(I X:Int)):=J;have N:=cP (n:=i) J;have hx:=js m;have R:=fP hx;have hs:=aaq z X i;have iB:=ain hz i;have eB:=au4 X i;unfold Pc at hs;rw[eB]at hs;cases H:((aZ X i).kind==1)with
  |false=>
   rw[H]at hs;have hs:mu z X (i+1)=mu z X i:=hs;simp only[go_sem,Gh,j,u,B,D,ft,m,O,R,aa.ps,H,N];rw[hs];repeat' apply And.intro
   all_goals first|assumption|rfl|exact M.symm
  |true=>
   have L:=Ir (F:Int) X i J J;rw[H]at hs;cases T:c9 X i with
   |false=>
    rw[T]at L hs;have hs:mu z X (i+1)=mu z X i:=hs;simp only[go_sem,Gh,j,u,B,D,ft,m,O,R,aa.ps,H,zz,aD L,N];rw[hs];repeat' apply And.intro
    all_goals first|assumption|rfl|exact M.symm
   |true=>
    rw[T]at L hs;have E:=aEy (F:Int) X i m J;have x:=ak2 (F:Int) (fL X i) (by rw[AA];omega);have h:=azB (F:Int) (F:Int) (j_ (fL X i)) (mu z X i) (by rw[zE,AA];omega) (by rw[zE,AA,iB]);have n1:=AD (bQ (fL X i));have n2:=AD (bQ (j_ (fL X i)));have n3:=AD (bQ (mu z X i));generalize mu z X i=z0 at*;generalize j_ (fL X i)=y at*;generalize fL X i=r at*;cases Z:jE y z0 with
    |false=>
     rw[Z]at h hs;have hs:mu z X (i+1)=z0:=hs;simp only[go_sem,Gh,j,u,B,D,ft,m,O,R,aa.ps,H,zz,aD L,ajM,a_ E (JY iI),n1,X_,a_ x (JY Y),n2,n3,afg,aD h,N];rw[hs];repeat' apply And.intro
     all_goals first|assumption|rfl|exact M.symm
    |true=>
     rw[Z]at h hs;have hs:mu z X (i+1)=y:=hs;simp only[go_sem,Gh,j,u,B,D,ft,m,O,R,aa.ps,H,zz,aD L,ajM,a_ E (JY iI),n1,X_,a_ x (JY Y),n2,n3,afg,aD h,N];rw[hs];repeat' apply And.intro
     all_goals first|assumption|rfl|exact M.symm
 have lf:i=I X:=J;subst lf;simp only[go_sem,Gh,u,B,ft,dW];refine hQ _ _ ?_ ?_ ?_ ?_ D Lc o6;all_goals(simp only[go_sem];assumption)
def acO(hl:I f<=400):aJ S 29 [df F f] (.agg [.p (.int .i64 F),.p (ki (bQ (yx f)))]):=by
 have H:S.lone 1856064064:=ah;have M:S.lone 1856128128:=ah;have u:=ak2 (F:Int) f J;have m:=awZ (F:Int) f J;have R:=Kd f;have fg:=AD (bQ (qU f));refine bt av2 ?_;simp only[go_sem,alk,X_,a_ u (JY H),aEB,ow m (JY M),fg];refine⟨aI,?_⟩;have O:IntKind.i64.wrap 1=1:=U;have Y:IntKind.i64.wrap 2=2:=U;have N:(1:Int)<2:=U;have L:¬(2:Int)<2:=U;refine mx ?_;simp only[go_sem,UN];refine ag6 (F:=F) (X:=f) (z:=j_ f) (ab:=1) hl (zE f) ?_ ?_ ?_ ?_ ?_ λgK T e2 E e4 e5 B Lc o6=>?_
 any_goals first|rfl|(simp only[go_sem];done)
 simp only[go_sem]at e2 E e4 e5 Lc o6;simp only[go_sem,aeH,e5,O];refine mx ?_;simp only[go_sem,UN,e2,E,e4,e5,o6,N];refine ag6 (F:=F) (X:=qU f) (z:=mu (j_ f) f (I f)) (ab:=(T 1856384256).1+1) J (by rw[ain (zE f),R]) ?_ ?_ ?_ ?_ ?_ λdz Q x y A D j h Z=>?_
 any_goals first|rfl|(simp only[go_sem,E,B];done)
 simp only[go_sem,e2,E,e4,Lc]at x y A D h;rw[R]at j;have j:Q 1856064128=(1,some (.var [.p (.int .i64 F),.p (ki (bQ (yx f)))])):=j;simp only[go_sem,aeH,D,Y];refine mx ?_;simp only[go_sem,UN,aix,x,y,A,D,j,h,L];first|done|rfl|trace_state
def aom{z l:ae}{n m:Nat}(F:I z=m)(hl:I l=m):∀n,I (mu z l n)=m/\(mu z l n=z\/ ∃i,i<n/\ym l i/\mu z l n=j_ (fL l i))/\jE z (mu z l n)=false/\ ∀i,i<n->ym l i->jE (j_ (fL l i)) (mu z l n)=false:=by
 intro n
 induction n with
 |zero=>exact⟨F,.inl rfl,V5 _,λi h=>absurd h (mX _)⟩
 |succ n E=>
  obtain⟨B,j,x,A⟩:=E;rw[aaq];unfold Pc;by_cases H:(ym l n&&jE (j_ (fL l n)) (mu z l n))
  .rw[aH H];rw[dj]at H;have tr:∀y,jE y (mu z l n)=false->jE y (j_ (fL l n))=false:=λy u=>by
    cases g:jE y (j_ (fL l n))with
    |false=>rfl
    |true=>rw[V8 g H.2]at u;cases u
   refine⟨by rw[zE,AA,hl],.inr ⟨n,J,H.1,rfl⟩,tr _ x,λi D f=>?_⟩;by_cases e:i=n
   .subst e;exact V5 _
   exact tr _ (A i J f)
  rw[aw H];refine⟨B,?_,x,λi D f=>?_⟩
  .rcases j with j|⟨i,a,b,c⟩
   .exact .inl j
   exact .inr ⟨i,J,b,c⟩
  by_cases e:i=n
  .subst e;cases g:jE (j_ (fL l i)) (mu z l i)with
   |false=>rfl
   |true=>exact absurd (by rw[f,g];rfl) H
  exact A i J f
def Xm(g:cK F f):yx f=fW f:=by
 obtain⟨hn,A,X⟩:=g.Et;obtain⟨E,Y,a2,Z⟩:=aom (z:=j_ f) (l:=f) (n:=0) (zE f) rfl (I f);obtain⟨b0,B,O,Q⟩:=aom (z:=mu (j_ f) f (I f)) (l:=qU f) (n:=0) E (Kd f) (I f);have m:∀y,DA f y->jE y (yx f)=false:=by
  intro y u;have u:=(Gj g.even).2 u;unfold AF at u;rcases fc.1 u with h|h
  .obtain⟨i,H,e⟩:=Ae.1 h;split at e
   case isFalse=>cases e
   rename_i j;cases e;cases D:jE (j_ (fL f i)) (yx f)with
   |false=>rfl
   |true=>
    exfalso;have x:=Z i (gI.1 H) j;cases L:jE (yx f) (mu (j_ f) f (I f))with
    |true=>rw[V8 D L]at x;cases x
    |false=>have e:mu (j_ f) f (I f)=yx f:=aao (E.trans b0.symm) O L;rw[e,D]at x;cases x
  obtain⟨i,H,e⟩:=Ae.1 h;split at e
  case isFalse=>cases e
  rename_i j;cases e;exact Q i (gI.1 H) j
 have N:j_ f∈AF f:=by have hp:0<I f:=jr.2 g.ne;refine AI _ (Ae.2 ⟨0,gI.2 hp,?_⟩);rw[(WI hp).2 g.aiC,aH rfl];rw[show fL f 0=f by unfold fL;simp]
 have M:mu (j_ f) f (I f)∈AF f:=by
  rcases Y with h|⟨i,H,j,h⟩
  .rw[h];exact N
  rw[h];refine AI _ (Ae.2 ⟨i,gI.2 H,?_⟩);rw[j,aH rfl]
 have T:yx f∈AF f:=by
  have B:yx f=mu (j_ f) f (I f)\/ ∃i,i<I f/\ym (qU f) i/\yx f=j_ (fL (qU f) i):=B;rcases B with h|⟨i,H,j,h⟩
  .rw[h];exact M
  rw[h];refine zt _ (Ae.2 ⟨i,gI.2 H,?_⟩);rw[j,aH rfl]
 have R:I (yx f)=I f:=b0;have kL:I (fW f)=I f:=Sx ((Gj g.even).2 A);exact aao (R.trans kL.symm) (X _ ((Gj g.even).1 T)) (m _ A)
end
section
variable {F:Nat} {L:ae}
def Ld(h:dA (F:Int) L=0):L=[]\/cK F L:=by
 by_cases A:L=[]
 .exact .inl A
 obtain⟨G,e,g⟩:=uU h A;have:F=G:=J;subst this;exact .inr g
def at0(h:dA (F:Int) L=0):aJ S 59 [df F L] (xY (s8 F L).1 (s8 F L).2):=Xj h (ab9 h).1
def asQ(h:dA (F:Int) L=0):I (k9 F L)<=8000/\(k9 F L).Pairwise uy/\ ∀m,m∈k9 F L↔m.k∈Bg/\ ∃X,iY F L m=some X:=by
 obtain⟨⟨D,B⟩,ps⟩:=ac8 h;refine⟨D,?_⟩;rcases Ld h with rfl|g
 .have A:k9 F []=[]:=aev.2 λm E=>by
   obtain⟨_,⟨a,x,_⟩,_⟩:=B m E;simp at x
  rw[A];refine⟨List.Pairwise.nil,λm=>⟨λh=>(by cases h),λ⟨u,X,j⟩=>?_⟩⟩;obtain⟨a,b,c,x,_⟩:=RM (.inl rfl) (by simpa using u) j;simp at x
 obtain⟨M,⟨_,_,_,N⟩,f⟩:=acA g Bg U NM;have e:aS M=aS (k9 F L):=by
  have:=f.yv ps;injection this with this;injection this with this;injection this with this;unfold aX at this;split at this<;>split at this
  .rename_i y H;rw[y,H]
  .cases this
  .cases this
  injection this
 have e2:M=k9 F L:=al6 e;rw[<-e2]at ps |-;refine⟨N,λm=>⟨λz=>?_,λ⟨u,X,j⟩=>ahS g U NM ps u j⟩⟩;rw[e2]at z;obtain⟨y,_,X,H,_⟩:=abR h NM (B m z);exact⟨y,X,H⟩
def aqU{f g:dB}(N:I f<=100000000)(H:I (f++g)<=100000000)(u:aJ S 95 [df F L,aC 3] (.one (aX nW 7 (aS f))))(B:aJ S 95 [df F L,aC 8] (.one (aX nW 7 (aS g)))):aJ S 61 [df F L] (.one (aX nW 7 (aS (f++g)))):=by
 have z:S.lone 3904064064:=ah;have M:S.lone 3904064256:=ah;have dY:∀(l:dB) (b:aB),fz b (.one (.p (ki (aS l))))=some (aS l,[],[]):=λl b=>by
  unfold ki;split
  .rename_i h;rw[h];rfl
  rfl
 rw[fv]at H;refine bt aDs ?_;simp only[go_sem,ajE,ET,ow u (FE z)];refine nP (bytes:=48) (id:=3904064128) (y:=3904064128) (j:=[]) (B:=aS f) (rd:=[]) aY.nil (dY _ _) (.inr (BU _)) (by simp only[k_,eK];omega) λZ X r1 E g1 A x=>?_;rw[fN]at g1;have Q:=A 3904000000 U U;simp only[go_sem]at Q;simp only[go_sem,Q,ET,ow B (FE M)];refine nP (bytes:=48) (id:=3904064128) (y:=3904064320) (j:=aS f) (B:=aS g) (rd:=[]) g1 (dY _ _) (.inr (BU _)) (by simp only[k_];omega) λD T R Y m O y=>?_;simp only[go_sem];rw[show aS f++aS g=aS (f++g) by simp[aS]]at m;refine⟨?_,?_⟩
 .rcases x with⟨rfl,rfl⟩|⟨rfl,rfl⟩|⟨rfl,rfl⟩<;>rcases y with⟨rfl,rfl⟩|⟨rfl,rfl⟩|⟨rfl,rfl⟩<;>exact aI
 first|exact uX m|trace_state
def awS(h:dA (F:Int) L=0):aJ S 61 [df F L] (.one (aX nW 7 (aS (k9 F L)))):=by
 obtain⟨R,u,A,M⟩:=aft (Ld h) (.inl rfl);obtain⟨N,O,E,j⟩:=aft (Ld h) (.inr rfl);obtain⟨H,D,Q⟩:=asQ h;have e:R++N=k9 F L:=by
  refine anO (λ_ _=>akU) ?_ D λm=>?_
  .refine Ac.2 ⟨A,E,λx B y z=>.inl ?_⟩;rw[((M x).1 B).1,((j y).1 z).1];decide
  rw[fc,M,j,Q];simp only[dk,iu,or_false];constructor
  .rintro (⟨f,g⟩|⟨f,g⟩)
   .exact⟨.inl f,g⟩
   exact⟨.inr f,g⟩
  rintro⟨f|f,g⟩
  .exact .inl ⟨f,g⟩
  exact .inr ⟨f,g⟩
 rw[<-e]at H |-;exact aqU (by rw[fv]at H;omega) J u O
end
end Go.Abs
