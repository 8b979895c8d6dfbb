/- A part. -/
import Derived.Test.YtenindeoffokoaaGreatDoorWp
set_option linter.all false
open List renaming length->I
set_option maxRecDepth 100000
set_option maxHeartbeats 16000000
namespace Go.Abs
variable{j z:af}{h m:Int->Int}{f:aN->aN}{A B:aW}
abbrev adW:Nat:=3
def akF(x:U):aL S 97 [IJ x] (.one (cU adW 1 (fJ (xm x)))):=by
 have e:∀b:Bool,fJ (xm x)=[[.int .i64 x.kind],[.int .i64 x.gate],[.int .i64 x.au],[.int .i64 x.id],[.int .i64 _],[.int .i64 x.sign]]:=λ_=>rfl;rw[amx (by simp_all),e true];refine cG aBC ?_;cases h:x.over;all_goals
  simp only[go_sem,aiu,h];first|done|rfl
def ah1{α:Type}{a b:List α}{k:Nat}{x:α}(h:a.take k=b.take k)(f:a[k]?=some x)(H:b[k]?=some x):a.take (k+1)=b.take (k+1):=by rw[k_,k_,h,f,H]
def aqk:∀ {k:Nat}{a b:cL}{x y:Int},a.take k=b.take k->a[k]?=some x->b[k]?=some y->x≠y->rJ a b=decide (x<y):=by
 intro k
 induction k with
 |zero=>
  intro a b x y _ f H A;cases a with
  |nil=>cases f
  |cons p a=>
   cases b with
   |nil=>cases H
   |cons q b=>grind [rJ]
 |succ k j=>
  intro a b x y h f H A;cases a with
  |nil=>cases f
  |cons p a=>
   cases b with
   |nil=>cases H
   |cons q b=>
    simp only[RZ,OY]at h;obtain⟨rfl,h⟩:=h;unfold rJ
    grind
def aoz:∀ {k:Nat}{a b:af}{x y:U},a.take k=b.take k->a[k]?=some x->b[k]?=some y->uo x y=false->kS a b=pQ x y:=by
 intro k
 induction k with
 |zero=>
  intro a b x y _ f H A;cases a with
  |nil=>cases f
  |cons p a=>
   cases b with
   |nil=>cases H
   |cons q b=>grind [kS]
 |succ k j=>
  intro a b x y h f H A;cases a with
  |nil=>cases f
  |cons p a=>
   cases b with
   |nil=>cases H
   |cons q b=>
    simp only[RZ,OY]at h
    grind [kS,H7]
def asK(a b:cL)(hl:I a<=1000000)(N:I a=I b):aL S 96 [.one (.p (.sl (fJ a))),.one (.p (.sl (fJ b)))] (fv (rJ a b)):=by
 refine cG aqq ?_;simp only[go_sem,agr,ai,aB];refine dt (λk f blk=>f 0=.one (.p (.sl (fJ a)))/\f 1=.one (.p (.sl (fJ b)))/\f 5=aI k/\a.take k=b.take k) 0 (I a) (bZ _) ?_ ?_
 .simp only[go_sem];first|done|rfl
 rintro k f blk M ⟨m,z,B,H⟩
 by_cases A:k<I a
 .have F:((k:Int)<(I a:Int)):=J;have Z:k<I b:=J;have D:=cS (n:=k) J;obtain⟨x,u⟩:=aP A;obtain⟨y,j⟩:=aP Z;have E:=yM u;have h:=yM j;by_cases v:x=y
  .subst v;have ae:=ah1 H u j;simp only[go_sem,SI,m,z,B,A,F,Z,E,h,D,ai,aB];first|done|exact⟨aS,ae⟩|exact⟨aS,A,ae⟩|trace_state
  have L:(x !=y):=by simpa using v
  rw[aqk H u j v];simp only[go_sem,SI,m,z,B,A,F,Z,E,h,D,L,ai,aB];first|done|exact aS|exact⟨aS,aS⟩|exact⟨aS,aS,rfl⟩|trace_state
 have:k=I a:=J;subst this;have e:a=b:=by rw[f_ (cJ _),f_ J]at H;exact H
 subst e;rw[awM];simp only[go_sem,SI,al3,m,z,B,fF,ai,aB];first|done|rfl
def auN(f g:Int)(A B:af)(hl:I A<=1000000)(dp:I A=I B):aL S 59 [eU f A,eU g B] (fv (kS A B)):=by
 have kQ:S.lone 3776320320:=ah;have Z:S.lone 3776320704:=ah;refine cG aoU ?_;simp only[go_sem,aeD];refine dt (λk m blk=>m 2=.one (.bR 3776000000 1 0)/\m 3=.one (.bR 3776000064 1 0)/\m 5=aI k/\blk 3776000000=(1,some (.var (oi f A)))/\blk 3776000064=(1,some (.var (oi g B)))/\A.take k=B.take k) 0 (I A) (bZ _) ?_ ?_
 .simp only[go_sem];first|done|rfl
 rintro k m blk hk ⟨D,N,L,F,z,H⟩
 by_cases j:k<I A
 .have Y:((k:Int)<(I A:Int)):=J;have R:k<I B:=J;have T:=cS (n:=k) J;obtain⟨x,O⟩:=aP j;obtain⟨y,M⟩:=aP R;have X:=jh O;have h:=jh M;have E:=Ko x y;cases u:uo x y with
  |true=>rw[u]at E;have iO:=(R4 x y).1 u;subst iO;have ae:=ah1 H O M;simp only[go_sem,U4,D,N,L,F,z,j,Y,R,X,h,U.ps,T,E,bne];first|done|exact⟨aS,ae⟩|exact⟨aS,j,ae⟩|trace_state
  |false=>rw[u]at E;have Q:=akF x;have v:=akF y;have pl:=asK (xm x) (xm y) (by unfold xm;simp) rfl;rw[aoz H O M u,Pp];generalize rJ (xm x) (xm y)=r at pl |-;generalize xm x=kx at*;generalize xm y=ky at*;simp only[go_sem,U4,D,N,L,F,z,j,Y,R,X,h,U.ps,T,E,bne,aAo,oT Q (Y6 kQ),oT v (Y6 Z),uh _,aBU,fx pl];first|done|exact aS|exact⟨aS,aS⟩|exact⟨aS,aS,rfl⟩|trace_state
 have:k=I A:=J;subst this;have e:A=B:=by rw[f_ (cJ _),f_ J]at H;exact H
 subst e;rw[Vr];simp only[go_sem,U4,afI,D,N,L,F,z,fF];first|done|rfl
def afg:∀ {k:Nat}{l:cL}{x:Int},l[k]?=some x->x∉l.take k->l.idxOf x=k:=by
 intro k
 induction k with
 |zero=>
  intro l x h _;cases l with
  |nil=>cases h
  |cons a l=>grind
 |succ k f=>
  intro l x h H;cases l with
  |nil=>cases h
  |cons a l=>grind
def El(l:cL)(x:Int):Int:=if l.contains x then(l.idxOf x:Int)else -1
def ama(l:cL)(x:Int)(hl:I l<=1000000):aL S 88 [.one (.p (.sl (fJ l))),aI x] (jr (El l x)):=by
 generalize H:El l x=r;unfold El at H;refine cG afx ?_;simp only[go_sem,Yu,ai,aB];refine dt (λk f blk=>f 0=.one (.p (.sl (fJ l)))/\f 1=aI x/\f 5=aI k/\x∉l.take k) 0 (I l) (bZ _) ?_ ?_
 .simp only[go_sem];first|done|simp|exact⟨rfl,aE⟩
 rintro k f blk O ⟨u,z,B,v⟩
 by_cases A:k<I l
 .have F:((k:Int)<(I l:Int)):=J;have D:=cS (n:=k) J;obtain⟨m,j⟩:=aP A;have E:=yM j;by_cases y:m=x
  .subst y;rw[Dr.2 (a7 j),aD rfl,afg j v]at H;subst H;simp only[go_sem,I3,u,z,B,A,F,E,D,ai,aB];first|done|rfl
  have M:(m==x)=false:=by simpa using y
  have L:x∉l.take (k+1):=by
   rw[k_,j];intro h;rcases gn.1 h with h|h
   .exact v h
   simp at h;exact y h.symm
  simp only[go_sem,I3,u,z,B,A,F,E,D,M,ai,aB];first|done|exact L|exact⟨A,L⟩|trace_state
 have:k=I l:=J;subst this;rw[jZ]at v;have N:l.contains x=false:=by grind
 rw[N]at H;subst H;simp only[go_sem,I3,ajJ,u,z,B,fF,ai,aB];first|done|rfl
def Ek(s:cL)(x:U):cL:=if x.kind==2 then(if s.contains x.id then s else s++[x.id])else s
def Bx(s:cL)(x:U):U:=if x.kind==2 then(if s.contains x.id then{x with id:=((s.idxOf x.id+1:Nat):Int)}else{x with id:=((I s+1:Nat):Int)})else x
def aa0(s:cL)(x:U)(r:af):jP s (x::r)=Bx s x::jP (Ek s x) r:=by grind [Bx,Ek,jP]
def aBN:∀(a b:af) (s:cL),jP s (a++b)=jP s a++jP (a.foldl Ek s) b:=by
 intro a
 induction a with
 |nil=>intro b s;rfl
 |cons x r f=>intro b s;rw[qz,aa0,aa0,f];rfl
def xM(j:af)(k:Nat):af:=jP [] (j.take k)++j.drop k
def zS(j:af)(k:Nat):cL:=(j.take k).foldl Ek []
section
variable {j:af} {k:Nat} {x:U}
def aw7(j:af)(k:Nat):I (xM j k)=I j:=by grind [xM,H_]
def So(h:j[k]?=some x):I (jP [] (j.take k))=k:=by have:=(bt.1 h).1;rw[H_,jO];omega
def aen(h:j[k]?=some x):j.drop k=x::j.drop (k+1):=by obtain⟨c1,f⟩:=bt.1 h;rw[<-ux c1,f]
def agT(h:j[k]?=some x):(xM j k)[k]?=some x:=by unfold xM;rw[qQ (by rw[So h];exact cJ _),So h,xt,aen h];rfl
def amL(h:j[k]?=some x):zS j (k+1)=Ek (zS j k) x:=by unfold zS;rw[k_,h,A8];rfl
def aoC(h:j[k]?=some x):(xM j k).set k (Bx (zS j k) x)=xM j (k+1):=by
 have e:jP [] (j.take (k+1))=jP [] (j.take k)++[Bx (zS j k) x]:=by rw[k_,h];show jP [] (j.take k++[x])=_;rw[aBN,aa0];rfl
 unfold xM;rw[e,Oe _ _ (by rw[So h];exact cJ _),So h,xt,aen h,lf];rfl
def aqT(j:af):∀k,I (zS j k)<=k:=by
 intro k
 induction k with
 |zero=>exact cJ _
 |succ k f=>
  by_cases h:k<I j
  .obtain⟨x,H⟩:=aP h;rw[amL H]
   grind [Ek]
  grind [zS,f_]
end
def ay5{blk:aJ}{s:Nat}{x y:PV}{l:Bool}:fR blk [] s ((RV.agg [.p x,.p y]).iA l)=some (.agg [.p x,.p y],[]):=by cases l<;>rfl
def afQ(f:Int)(j:af)(hl:I j<=1000000):aL S 55 [eU f j] (.agg [.p (.int .i64 f),cU ml 6 (cX (lL j))]):=by
 have pc:=ag8 f j hl;by_cases aO:j=[]
 .subst aO;have pc:aL S 94 [.agg [.p (.int .i64 f),.p (.sl [])]] (.agg [.p (.int .i64 f),.p .nils]):=pc;refine cG adO ?_;simp only[go_sem,Xp,Xx,cE pc ay5];refine og ?_;have z0:¬((0:Int)<((0:Nat):Int)):=aa;simp only[go_sem,K5,abM,z0];first|done|rfl
 refine cG adO ?_;simp only[go_sem,Xp,Xx];refine O6 pc ah rfl (Ih _) λcc mq gc iD=>?_;have q0:=iD 3520000000 aa;have q1:=iD 3520000064 aa;simp only[go_sem]at q0 q1;rcases gc with⟨h,_⟩|⟨_,gg,e2,hC⟩
 .exact absurd (N3.1 h) aO
 cases e2;have hC:=hC;rw[FG];simp only[go_sem,q0,q1,hC];obtain⟨g1,FT⟩:∃g1,(mq 3520064128).1+1=g1:=⟨_,rfl⟩;rw[FT];refine dt (λk u blk=>u 1=.one (.bR 3520000000 1 0)/\u 2=.one (.bR 3520000064 1 0)/\u 3=.one (.bR 3520064128 g1 0)/\u 5=aI k/\blk 3520000000=(1,some (.var (oi f j)))/\blk 3520000064=(1,some (.var [.p (.int .i64 0),.p .nils]))/\blk 3520064128=(g1,some (.var [.p (.int .i64 f),.hsl 3520064065 gg 6 0 (I j)]))/\blk 3520064065=(gg,some (.arr ml 6 (cX (xM j k))))/\ ∃c,u 4=.one c/\bh 3520512512 adW 1 (fJ (zS j k)) (.one c) blk) 0 (I j) (bZ _) ?_ ?_
 .simp only[go_sem,q0,q1,hC];have e0:xM j 0=j:=rfl;rw[e0];repeat' apply And.intro
  all_goals first|rfl|exact⟨_,rfl,bh.nil⟩
 rintro k u blk hk ⟨N,v,z,O,y,F,T,B,c,Y,m⟩
 by_cases A:k<I j
 .have X:((k:Int)<(I j:Int)):=J;have w1:=cS (n:=k) J;obtain⟨x,D⟩:=aP A;have jo:=jh (agT D);have Ee:=jh D;have Z:k<I (xM j k):=by rw[aw7];exact A
  have DU:=amL D;have Q:=aoC D;have fj:=aqT j k;have ad:=agT D;generalize xM j k=W at*;generalize zS j k=s at*;cases L:(x.kind==2)with
  |false=>
   have Um:(x.kind !=2):=by rw[bne,L];rfl
   have R:zS j (k+1)=s:=by rw[DU];unfold Ek;rw[L];rfl
   have eW:xM j (k+1)=W:=by
    rw[<-Q];have e:Bx s x=x:=by unfold Bx;rw[L];rfl
    rw[e];apply pk;intro ar;rw[pJ];by_cases e:k=ar
    .subst e;rw[aD rfl,aD Z,ad]
    rw[aC e]
   simp only[go_sem,K5,N,v,z,Y,O,y,F,T,B,A,X,jo,U.ps,Um,w1];rw[R,eW];first|exact⟨rfl,_,rfl,m⟩|exact⟨A,rfl,_,rfl,m⟩|trace_state
  |true=>
   have Um:(x.kind !=2)=false:=by rw[bne,L];rfl
   obtain⟨rd,dU,wX⟩:=m.NO;have E:=ama s x.id J;cases H:s.contains x.id with
   |true=>
    have ea:El s x.id=(s.idxOf x.id:Int):=by unfold El;rw[H,aD rfl]
    rw[ea]at E;have qo:s.idxOf x.id<=I s:=List.idxOf_le_length;have ao:¬((s.idxOf x.id:Int)<0):=J;have w2:=cS (n:=s.idxOf x.id) J;have R:zS j (k+1)=s:=by rw[DU];unfold Ek;rw[L,H];rfl
    have ey:Bx s x={x with id:=((s.idxOf x.id+1:Nat):Int)}:=by unfold Bx;rw[L,H];rfl
    rw[ey]at Q;generalize s.idxOf x.id=ix at*;simp only[go_sem,K5,N,v,z,Y,O,y,F,T,B,A,X,jo,Ee,Z,U.ps,Um,w1,w2,dU,GM,gr E,pG E,ao,FG,j7];rw[R,<-Q];refine⟨?_,?_⟩
    .rcases wX with rfl|rfl<;>kernel_rfl
    rw[ad8 _ _ {x with id:=((ix+1:Nat):Int)} (by simp[U.ps])];first|exact⟨rfl,_,rfl,m.of_eq (by simp only[bG,Nat.reduceEqDiff,if_false])⟩|exact⟨A,rfl,_,rfl,m.of_eq (by simp only[bG,Nat.reduceEqDiff,if_false])⟩|trace_state
   |false=>
    have ea:El s x.id= -1:=by unfold El;rw[H];rfl
    rw[ea]at E;have ab:(-1:Int)<0:=aa;have JV:x.id∉s:=λh=>by have:=Dr.2 h;rw[H]at this;cases this
    have R:zS j (k+1)=s++[x.id]:=by rw[DU];unfold Ek;rw[L,H];rfl
    have ey:Bx s x={x with id:=((I s+1:Nat):Int)}:=by unfold Bx;rw[L,H];rfl
    have M:=ama (s++[x.id]) x.id (by simp;omega);have ag:El (s++[x.id]) x.id=(I s:Int):=by unfold El;rw[Dr.2 aE,aD rfl,afg (k:=I s) aE (by rw[Kn];exact JV)]
    rw[ag]at M;rw[ey]at Q;simp only[go_sem,K5,N,v,z,Y,O,y,F,T,B,A,X,jo,Ee,Z,U.ps,Um,dU,GM,gr E,ab];refine re (B:=[[.int .i64 x.id]]) (m.of_eq (by simp only[bG,Nat.reduceEqDiff,if_false])) (by simp only[hU,bG,if_true];rfl) (.inl rfl) (by simp only[vZ,fP,ga];omega) λc2 bK wH cV=>?_
    rw[show fJ s++[[.int .i64 x.id]]=fJ (s++[x.id]) by simp[fJ]]at wH;have d0:=cV 3520000000 aa aa;have d1:=cV 3520000064 aa aa;have d2:=cV 3520064128 aa aa;have d3:=cV 3520064065 aa aa;simp only[go_sem,y,F,T,B]at d0 d1 d2 d3;obtain⟨ap,am,ac⟩:=wH.NO;simp only[go_sem,N,v,z,O,d0,d1,d2,d3,A,X,jo,Ee,Z,U.ps,w1,cS (n:=I s) J,am,GM,pG M,FG,j7];rw[R,<-Q];refine⟨?_,?_⟩
    .rcases ac with rfl|rfl<;>kernel_rfl
    rw[ad8 _ _ {x with id:=((I s+1:Nat):Int)} (by simp[U.ps])];first|exact⟨rfl,_,rfl,wH.of_eq (by simp only[bG,Nat.reduceEqDiff,if_false])⟩|exact⟨A,rfl,_,rfl,wH.of_eq (by simp only[bG,Nat.reduceEqDiff,if_false])⟩|trace_state
 have CC:k=I j:=J;subst CC;have eW:xM j (I j)=lL j:=by unfold xM lL;rw[jZ,Lx,ic]
 rw[eW]at B;have wY:=Az j;simp only[go_sem,K5,abM,N,v,z,Y,O,y,F,T,B,fF];refine H2 (.inr ⟨λe=>aO (G5.1 (by rw[<-wY,<-FG,e];rfl)),gg,by rw[FG,wY],?_⟩);simp only[bG,Nat.reduceEqDiff,if_false];exact B
def ann{α:Type}{l:List α}{p q:α->Bool}(h:∀x∈l,p x=q x):l.find? p=l.find? q:=by
 induction l with
 |nil=>rfl
 |cons a l f=>grind
def azW(f:Int)(j:af)(i:Nat)(H:i<I j)(hl:I j<=1000000):aL S 58 [eU f j,aI i] (.agg [.p (.int .i64 f),cU ml 6 (cX (eC j i))]):=by
 have u:i<=I j:=J;have m:=AF j;have T:(List.drop i (cX j)).take (I j-i)=cX (j.drop i):=by rw[f_ (by rw[rG,FG];exact cJ _)];exact vv.symm
 refine cG aw2 ?_;simp only[go_sem,afJ,FG,u,m,T];refine s_ (id:=3712064384) bh.nil rfl (.inr (AF _)) (by simp;omega) λc1 F r1 A g1 D B=>?_;have x:=D 3712000000 aa aa;have Q:=D 3712000064 aa aa;rw[fB]at g1;simp only[go_sem,x,Q,FG,u,m,sC.symm];refine s_ g1 rfl (.inr (AF _)) (by simp;omega) λz E R L n y v=>?_;have h:=y 3712000064 aa aa;simp only[go_sem,Q]at h;rw[show cX (j.drop i)++cX (j.take i)=cX (eC j i) by unfold eC;rw[abi]]at n;simp only[go_sem,h];refine⟨?_,H2 (n.of_eq (by simp[bG,Nat.reduceEqDiff,if_false]))⟩;rcases B with⟨rfl,rfl⟩|⟨rfl,rfl⟩|⟨rfl,rfl⟩<;>rcases v with⟨rfl,rfl⟩|⟨rfl,rfl⟩|⟨rfl,rfl⟩<;>kernel_rfl
def Al(j:af):gD:=(List.range (I j)).map λf=> !dn j (I j-1-f)
def afq(j:af):I (Al j)=I j:=by simp[Al]
def akh{k:Nat}(h:k<I j):(Al j)[k]?=some (!dn j (I j-1-k)):=by
 unfold Al
 grind
def aes{k:Nat}(h:k<I j):j.reverse[k]?=j[I j-1-k]? :=EE h
def ayX(j:af):Ho j.reverse (Al j)=rF j:=by
 have e:Qd j.reverse (Al j)=(List.range (I j)).find? (IC j):=by
  unfold Qd;rw[nr];refine ann λk h=>?_;have h:=gA.1 h;have H:=A7 (by rw[nr];exact h);unfold Ha IC;rw[H,akh h];have f:(lr j).getD (I j-1-k) false=c9 j (I j-1-k):=by
   unfold lr
   grind
  rw[f];unfold c9;rw[aes h]at H;rw[H];simp only;cases m:((nQ j.reverse k).kind==1)with
  |false=>rfl
  |true=>have:(nQ j.reverse k).ay:=m;rw[this];rfl
 unfold Ho rF;rw[e];cases(List.range (I j)).find? (IC j)<;>rfl
def ayQ(f:Int)(j:af)(hl:I j<=1000000):aL S 56 [eU f j] (.agg [.p (.int .i64 f),cU ml 6 (cX (rF j))]):=by
 have lo:S.lone 3584512128=false:=ah;have ps:=arf f j.reverse (Al j) (by rw[nr];exact hl) (by rw[afq,nr]);rw[ayX]at ps;have w0:IntKind.i64.wrap ((I j:Int)-1)=(I j:Int)-1-((0:Nat):Int):=by rw[nj J J];omega
 refine cG aA4 ?_;simp only[go_sem,ahC,w0];refine dt (λk A blk=>A 1=.one (.bR 3584000000 1 0)/\A 2=.one (.bR 3584000064 1 0)/\A 3=.one (.bR 3584064192 1 0)/\A 5=.one (.p (.int .i64 ((I j:Int)-1-(k:Int))))/\blk 3584000000=(1,some (.var (oi f j)))/\blk 3584000064=(1,some (.var [.p (.int .i64 0),.p .nils]))/\ ∃c d,blk 3584064192=(1,some (.var [.p (.int .i64 f),c]))/\A 4=.one d/\bh 3584384512 ml 6 (cX (j.reverse.take k)) (.one c) blk/\bh 3584448384 4 1 (iQ ((Al j).take k)) (.one d) blk) 0 (I j) (bZ _) ?_ ?_
 .simp only[go_sem];repeat' apply And.intro
  all_goals first|rfl|exact⟨_,_,rfl,rfl,bh.nil,bh.nil⟩
 rintro k A blk hk ⟨m,h,n,H,O,B,c,d,T,v,R,gd⟩
 by_cases L:k<I j
 .have e5:(I j:Int)-1-(k:Int)=((I j-1-k:Nat):Int):=J;rw[e5]at H;have M:(0:Int)<=((I j-1-k:Nat):Int):=J;have w1:IntKind.i64.wrap (((I j-1-k:Nat):Int)-1)=(I j:Int)-1-((k+1:Nat):Int):=by rw[nj J J];omega
  have hj:I j-1-k<I j:=J;obtain⟨x,hx⟩:=aP hj;have jo:=jh hx;have pd:=M1 f j (I j-1-k) hl J;have jX:j.reverse.take (k+1)=j.reverse.take k++[x]:=by rw[k_,aes L,hx];rfl
  have Y:(Al j).take (k+1)=(Al j).take k++[!dn j (I j-1-k)]:=by rw[k_,akh L];rfl
  generalize dn j (I j-1-k)=dv at*;generalize (I j)-1-k=ab at*;simp only[go_sem,aaP,m,h,n,v,H,O,B,T,M,hj,jo,U.ps];refine s_ (R.of_eq (by simp only[bG,Nat.reduceEqDiff,if_false])) (B:=[x.ps]) (by simp only[hU,bG,if_true];rfl) (.inl rfl) (by simp;omega) λc1 de r1 D9 g1 E BN=>?_;rw[show cX (j.reverse.take k)++[x.ps]=cX (j.reverse.take (k+1)) by rw[jX];simp]at g1;have z:=E 3584000000 aa aa;have y:=E 3584000064 aa aa;have D:=E 3584064192 aa aa;have Z:=E 3584448384 aa aa;simp only[go_sem,O,B,T]at z y D Z;have F:=gd.of_eq Z;simp only[go_sem,m,h,n,v,H,z,y,D];refine⟨?_,?_⟩
  .rcases BN with⟨rfl,rfl⟩|⟨rfl,rfl⟩|⟨rfl,rfl⟩<;>kernel_rfl
  simp only[go_sem,m,h,n,v,H,z,y,D,CQ,b_ pd];refine re (B:=[[.bool (!dv)]]) (F.of_eq (by simp only[bG,Nat.reduceEqDiff,if_false])) (by simp only[hU,bG,if_true];rfl) (.inl rfl) (by simp;omega) λN bK g2 u=>?_;rw[show iQ ((Al j).take k)++[[.bool (!dv)]]=iQ ((Al j).take (k+1)) by rw[Y];simp]at g2;have f0:=u 3584000000 aa aa;have f1:=u 3584000064 aa aa;have f2:=u 3584064192 aa aa;have f3:=u 3584384512 aa aa;simp only[go_sem,z,y,D]at f0 f1 f2 f3;simp only[go_sem,m,h,n,H,f0,f1,f2,w1];exact⟨L,c1,N,rfl,rfl,g1.of_eq f3,g2⟩
 have CC:k=I j:=J;subst CC;have M:¬(0:Int)<=(I j:Int)-1-(I j:Int):=J;rw[f_ (by rw[nr];exact cJ _)]at R;rw[f_ (by rw[afq];exact cJ _)]at gd;obtain⟨rc,Q,_⟩:=R.NO;obtain⟨rd,X,_⟩:=gd.NO;simp only[go_sem,aaP,agc,m,h,n,v,H,O,B,T,M,Q,X,atP];refine O6 ps lo rfl (Ih _) λcc mO g3 mS=>?_;have m1:=mS 3584000064 aa;simp only[go_sem,B]at m1;simp only[go_sem,h,m1];exact H2 (g3.of_eq (by simp only[bG,Nat.reduceEqDiff,if_false]))
def Pc(l:af)(z:af)(i:Nat):af:=if zZ l i&&kS (lL (eC l i)) z then lL (eC l i)else z
def qI(z l:af)(n:Nat):af:=(List.range n).foldl (Pc l) z
theorem XM(z l:af)(n:Nat):qI z l (n+1)=Pc l (qI z l n) n:=by unfold qI;rw[nJ,A8];rfl
def adH{l:af}(h:I z=I l):∀n,I (qI z l n)=I l:=by
 intro n
 induction n with
 |zero=>exact h
 |succ n f=>grind [XM,Pc,Az,rC]
def Dz(j:af):af:=qI (qI (lL j) j (I j)) (rF j) (I j)
def SB{blk:aJ}{s T z:Nat}{x:PV}{E:dI}(lo:S.lone s):fR blk [] s ((RV.agg [.p x,cU T z E]).iA (S.lone s))=some (.agg [.p x,.p (om E)],[]):=by
 rw[lo];unfold cU om;by_cases h:E=[]
 .rw[aD h,aD h];rfl
 rw[aC h,aC h];rfl
def aq7(l:af)(i:Nat):zZ l i=(((nQ l i).kind==1)&&dn l i):=by unfold zZ dn;congr 1
section
variable {F:Nat} {j:af}
def amy{X:af}(hX:I X<=400)(hz:I z=I X){g:Nat}{f:bJ}{blk:aJ}{Q:iw}(D:f 3=.one (.bR 1856064128 1 0))(f6:f 6=.one (.bR 1856384256 g 0))(f7:f 7=aI 0)(b3:blk 1856064128=(1,some (.var [.p (.int .i64 F),.p (om (cX z))])))(Z:blk 1856384256=(g,some (.var [.p (.int .i64 F),.p (gC X)])))
  (hQ:∀A h,A 2=f 2->A 3=f 3->A 4=f 4->A 5=f 5->h 1856064128=(1,some (.var [.p (.int .i64 F),.p (om (cX (qI z X (I X))))]))->h 1856000064=blk 1856000064->h 1856128192=blk 1856128192->Q .normal A h):W S .all (.loop IU) (rM 2 Q) f blk:=by
 have kQ:S.lone 1856704128:=ah;have n9:S.lone 1856704192:=ah;refine dt (λi A h=>A 2=f 2/\A 3=f 3/\A 4=f 4/\A 5=f 5/\A 6=.one (.bR 1856384256 g 0)/\A 7=aI i/\h 1856064128=(1,some (.var [.p (.int .i64 F),.p (om (cX (qI z X i)))]))/\h 1856384256=(g,some (.var [.p (.int .i64 F),.p (gC X)]))/\h 1856000064=blk 1856000064/\h 1856128192=blk 1856128192) 0 (I X) (bZ _) ⟨rfl,rfl,rfl,rfl,f6,f7,b3,Z,rfl,rfl⟩ ?_;rintro i A h hi ⟨g2,g3,g4,g5,v,x,c3,c6,O,J_⟩
 have m:=g3.trans D;by_cases u:i<I X
 .have M:((i:Int)<(I X:Int)):=J;have E:=cS (n:=i) J;have hx:=A7 u;have L:=jh hx;have ae:=XM z X i;have fj:=adH hz i;have ff:=aq7 X i;unfold Pc at ae;rw[ff]at ae;cases H:((nQ X i).kind==1)with
  |false=>
   rw[H]at ae;have ae:=ae;simp only[go_sem,IU,m,v,x,c3,c6,u,M,L,U.ps,H,E];rw[ae];repeat' apply And.intro
   all_goals first|assumption|rfl|exact D.symm
  |true=>
   have B:=M1 (F:Int) X i J J;rw[H]at ae;cases T:dn X i with
   |false=>
    rw[T]at B ae;have ae:=ae;simp only[go_sem,IU,m,v,x,c3,c6,u,M,L,U.ps,H,CQ,b_ B,E];rw[ae];repeat' apply And.intro
    all_goals first|assumption|rfl|exact D.symm
   |true=>
    rw[T]at B ae;have R:=azW (F:Int) X i u J;have N:=afQ (F:Int) (eC X i) (by rw[rC];omega);have j:=auN (F:Int) (F:Int) (lL (eC X i)) (qI z X i) (by rw[Az,rC];omega) (by rw[Az,rC,fj]);have n1:=uh (cX (eC X i));have n2:=uh (cX (lL (eC X i)));have n3:=uh (cX (qI z X i));generalize qI z X i=z0 at*;generalize lL (eC X i)=y at*;cases Y:kS y z0
    case' false=>rw[Y]at j ae;have ae:=ae
    case' true=>rw[Y]at j ae;have ae:=ae
    all_goals
     simp only[go_sem,IU,m,v,x,c3,c6,u,M,L,U.ps,H,CQ,b_ B,apk,cE R (SB kQ),n1,akM,cE N (SB n9),n2,n3,ao4,b_ j,E];rw[ae];repeat' apply And.intro
     all_goals first|assumption|rfl|exact D.symm
 have gY:i=I X:=J;subst gY;simp only[go_sem,IU,v,x,c6,fF];refine hQ _ _ ?_ ?_ ?_ ?_ c3 O J_;all_goals(simp only[go_sem];assumption)
def aq1(hl:I j<=400):aL S 29 [eU F j] (.agg [.p (.int .i64 F),.p (om (cX (Dz j)))]):=by
 have Q:S.lone 1856064064:=ah;have Y:S.lone 1856128128:=ah;have v:=afQ (F:Int) j J;have m:=ayQ (F:Int) j J;have M:=Jy j;have O:=uh (cX (rF j));refine cG asl ?_;simp only[go_sem,ahT,akM,cE v (SB Q),ats,oT m (SB Y),O];refine⟨aS,?_⟩;have R:IntKind.i64.wrap 1=1:=aa;have Z:IntKind.i64.wrap 2=2:=aa;have L:(1:Int)<2:=aa;have u:¬(2:Int)<2:=aa;refine og ?_;simp only[go_sem,Ue];refine amy (F:=F) (g:=1) hl (Az j) ?_ ?_ ?_ ?_ ?_ λjH T y E x n c3 f J_=>?_
 any_goals first|rfl|(simp only[go_sem];done)
 simp only[go_sem]at y E x n f J_;simp only[go_sem,acv,n,R];refine og ?_;simp only[go_sem,Ue,y,E,x,n,J_,L];refine amy (F:=F) (X:=rF j) (z:=qI (lL j) j (I j)) (g:=(T 1856384256).1+1) J (by rw[adH (Az j),M]) ?_ ?_ ?_ ?_ ?_ λdM bK A B H D N h ab=>?_
 any_goals first|rfl|(simp only[go_sem,E,c3];done)
 simp only[go_sem,y,E,x,f]at A B H D h;rw[M]at N;simp only[go_sem,acv,D,Z];refine og ?_;simp only[go_sem,Ue,afE,A,B,H,D,N,h,u];first|done|rfl|trace_state
def ahR{l:af}{n m:Nat}(j:I z=m)(hl:I l=m):∀n,I (qI z l n)=m/\(qI z l n=z\/ ∃i,i<n/\zZ l i/\qI z l n=lL (eC l i))/\kS z (qI z l n)=false/\ ∀i,i<n->zZ l i->kS (lL (eC l i)) (qI z l n)=false:=by
 intro n
 induction n with
 |zero=>exact⟨j,.inl rfl,Vr _,λi h=>absurd h (o6 _)⟩
 |succ n f=>
  obtain _:=f;rw[XM];unfold Pc;by_cases H:(zZ l n&&kS (lL (eC l n)) (qI z l n))
  .rw[aD H];have tr:∀y,kS y (qI z l n)=false->kS y (lL (eC l n))=false:=λy u=>by
    grind [Vl]
   grind [Az,rC,Vr]
  grind
def atV(g:bj F j):Dz j=gV j:=by
 obtain⟨R,hf,L⟩:=g.nor;obtain⟨D,E,T,N⟩:=ahR (n:=0) (Az j) rfl (I j);obtain⟨M,B,O,z⟩:=ahR (n:=0) D (Jy j) (I j);have m:∀y,yQ j y->kS y (Dz j)=false:=by
  intro y u;have u:=(H8 g.even).2 u;unfold B7 at u;rcases gn.1 u with h|h
  .obtain⟨i,H,e⟩:=CY.1 h;split at e
   case isFalse=>cases e
   rename_i f;cases e;cases Q:kS (lL (eC j i)) (Dz j)with
   |false=>rfl
   |true=>
    exfalso;have X:=N i (gA.1 H) f
    grind [Dz,Vl,VG]
  obtain⟨i,H,e⟩:=CY.1 h;split at e
  case isFalse=>cases e
  rename_i f;cases e;exact z i (gA.1 H) f
 have x:lL j∈B7 j:=by have hp:=gy.2 g.ne;refine Fy _ (CY.2 ⟨0,gA.2 hp,?_⟩);rw[(aa6 hp).2 g.ahq,aD rfl];rw[show eC j 0=j by unfold eC;simp]
 have v:qI (lL j) j (I j)∈B7 j:=by
  rcases E with h|⟨i,H,f,h⟩
  .rw[h];exact x
  rw[h];refine Fy _ (CY.2 ⟨i,gA.2 H,?_⟩);rw[f,aD rfl]
 have A:Dz j∈B7 j:=by
  have B:Dz j=qI (lL j) j (I j)\/ ∃i,i<I j/\zZ (rF j) i/\Dz j=lL (eC (rF j) i):=B;rcases B with h|⟨i,H,f,h⟩
  .rw[h];exact v
  rw[h];refine uX _ (CY.2 ⟨i,gA.2 H,?_⟩);rw[f,aD rfl]
 exact VG (M.trans (Rc ((H8 g.even).2 hf)).symm) (L _ ((H8 g.even).1 A)) (m _ hf)
end
def afS(f:Int)(A B:af)(hA:I A<=1000000)(hB:I B<=1000000):aL S 15 [eU f A,eU f B] (fv (decide (A=B))):=by
 by_cases hl:I A=I B
 .have M:((I A:Int)!=(I B:Int))=false:=by rw[hl];simp
  refine cG agy ?_;simp only[go_sem,abB,M,ai,aB];refine dt (λk m blk=>m 2=.one (.bR 960000000 1 0)/\m 3=.one (.bR 960000064 1 0)/\m 5=aI k/\blk 960000000=(1,some (.var (oi f A)))/\blk 960000064=(1,some (.var (oi f B)))/\A.take k=B.take k) 0 (I A) (bZ _) ?_ ?_
  .simp only[go_sem];first|done|rfl
  rintro k m blk hk ⟨v,D,R,N,u,z⟩
  by_cases F:k<I A
  .have Z:((k:Int)<(I A:Int)):=J;have O:k<I B:=J;have X:=cS (n:=k) J;obtain⟨x,L⟩:=aP F;obtain⟨y,j⟩:=aP O;have Y:=jh L;have H:=jh j;have E:=Ko x y;cases h:uo x y with
   |true=>
    rw[h]at E;have iO:=(amc x y).1 h;have Q:A.take (k+1)=B.take (k+1):=by rw[k_,k_,z,L,j,iO]
    simp only[go_sem,Sq,v,D,R,N,u,F,Z,O,Y,H,U.ps,X,E,bne,ai,aB];first|done|exact aS|exact⟨aS,rfl⟩|exact⟨aS,Q⟩|exact⟨aS,rfl,Q⟩|exact⟨Q,aS⟩|trace_state
   |false=>
    rw[h]at E;have T:decide (A=B)=false:=vg λe=>by subst e;rw[L]at j;cases j;rw[H7]at h;cases h
    rw[T];simp only[go_sem,Sq,v,D,R,N,u,F,Z,O,Y,H,U.ps,X,E,bne,ai,aB];first|done|exact aS|exact⟨aS,rfl⟩|trace_state
  have:k=I A:=J;subst this;have h:decide (A=B)=true:=tV (by rw[f_ (cJ _),f_ J]at z;exact z);rw[h];simp only[go_sem,Sq,afk,v,D,R,N,u,fF,ai,aB];first|done|rfl
 have M:((I A:Int)!=(I B:Int)):=by simp;omega
 have T:decide (A=B)=false:=vg λe=>hl (by rw[e]);rw[T];refine cG agy ?_;simp only[go_sem,abB,M,ai,aB];first|done|rfl
def ia(p:aN):aN:=⟨p.l,p.l.ay&& !p.d⟩
def eY(P:aW):aW:=(P.reverse).map ia
def c_.rev{α:Type}{a b:List α}(h:c_ a b):c_ a.reverse b.reverse:=by obtain⟨u,v,rfl,rfl⟩:=h;exact⟨v.reverse,u.reverse,aE,aE⟩
def c_.eY{P Q:aW}(h:c_ P Q):c_ (eY P) (eY Q):=h.rev.map _
def Cu(P Q:aW):Prop:= ∃(r:Bool) (h:Int->Int),inj h (P.map aN.l)/\c_ ((if r=true then eY P else P).map (cN h)) Q
section
variable {F:Nat} {L M:af} {P Q:aW}
def apz{α:Type}{a b:List α}(h:c_ a b)(H:0<I a):∃i,i<I a/\ ∀x,x<I a->b[x]?=a[(i+x)%I a]? :=by
 obtain⟨u,v,rfl,rfl⟩:=h;rw[gb]at H |-;by_cases f:v=[]
 .subst f;simp only[ga,uz,ic,fB]at H |-;exact⟨0,H,λx j=>by rw[jN,eJ j]⟩
 have:=gy.2 f;refine⟨I u,J,λx j=>?_⟩;by_cases c:x<I v
 .rw[s8 c,eJ J,qQ J];congr 1;omega
 rw[qQ J,Nj J,eJ J,s8 J];congr 1;omega
def Gy(P:aW):I (eY P)=I P:=by unfold eY;rw[cg,nr]
def aaG{k:Nat}(h:k<I P):(eY P)[k]?=(P[I P-1-k]?).map ia:=by unfold eY;rw[fz,EE h]
def apP(g:bj F L)(hf:inj h L)(N:gO F Q)(r:c_ ((eY (an L)).map (cN h)) Q):eV (aY Q) L:=by
 obtain⟨f,D,B,T,⟨q0,A,RP,M⟩,_⟩:=Hn N;have H:=r.len;rw[cg,Gy,bY]at H;rw[<-H]at D B T;have n:0<I L:=J;obtain⟨i,R,get⟩:=apz r (by rw[cg,Gy,bY];exact n);rw[cg,Gy,bY]at R get;have get:∀x,x<I L->Q[x]?=((an L)[I L-1-(i+x)%I L]?).map λp=>cN h (ia p):=λx v=>by have z:=cT (i+x) n;rw[get x v,fz,aaG (by rw[bY];exact z),bY,Option.map_map];rfl
 have Y:(i+f)%I L<I L:=cT _ n;have u:I L.reverse=I L:=nr;have e:aY Q=(eC L.reverse ((i+f)%I L)).map (dd h):=by
  apply pk;intro k;by_cases E:k<I L
  .have z:(i+f+k)%I L<I L:=cT _ n;rw[B k E,get _ (cT _ n),fz,Gf (by rw[u];exact Y) (by rw[u];exact E),u,Dj,<-AH,tU,EE z];obtain⟨l,hl⟩:=aP (h:=L) (k:=I L-1-(i+f+k)%I L) J;rw[fX hl,hl];rfl
  rw[lS J,lS (by rw[cg,rC,u];omega)]
 have Z:aq U.ay L.reverse%2=0:=by rw[yL];exact g.even
 rw[e];refine(MZ λx v y O=>hf x (zJ.1 (Be.1 v)) y (zJ.1 (Be.1 O))).trans ((KE (by rw[u];omega) Z ?_).trans Sz);rw[get f D]at A;obtain⟨l,hl⟩:=aP (h:=L) (k:=I L-1-(i+f)%I L) J;rw[fX hl]at A;have X:=kA A;have m:(l.ay&& !c9 L (I L-1-(i+f)%I L)):=by rw[<-X]at M;exact M
 rw[cP,ke]at m;rw[N_ hl m.1]at m;have:=aac g.even hl m.1;rw[m.2,show I L-1-(I L-1-(i+f)%I L)=(i+f)%I L by omega]at this;unfold Go.Abs.dn at this;exact c8.1 this
def Cu.eV(e:Cu P Q)(fH:gO F P)(m:gO F Q)(z:dk (F:Int) (aY P)=0)(u:∀p∈P,p.l.ay=false->p.d=false):eV (aY Q) (aY P):=by
 obtain⟨r,h,f,t⟩:=e;obtain⟨cM,T⟩:=Iw fH z u;have H:inj h (aY P):=by
  have n:∀x∈aY P,x∈P.map aN.l:=λx j=>by obtain⟨i,f⟩:=fK j;have:=a7 (fX f);exact ch.2 ⟨_,T.perm.mem_iff.2 this,rfl⟩
  exactλx j y v=>f x (n x j) y (n y v)
 cases r with
 |false=>rw[aC aa]at t;exact SE cM H m ((T.map _).symm.trans t)
 |true=>rw[aD rfl]at t;exact apP cM H m ((T.eY.map _).symm.trans t)
end
section
variable {F:Nat} {L M:af} {P Q:aW} {r:Bool} {s t:Nat->Nat}
def agt{α:Type}{a b:List α}{i:Nat}(f:i<I a)(hl:I b=I a)(h:∀x,x<I a->b[x]?=a[(i+x)%I a]?):c_ a b:=by
 refine⟨a.take i,a.drop i,(jS i a).symm,?_⟩;apply pk;intro x;by_cases H:x<I a
 .rw[h x H,Je f H]
 rw[lS J,lS (by rw[gb,rG,jO];omega)]
def cK.Vw(i:cK F L M r s t):∃h:Int->Int,Go.Abs.inj h L/\(∀x∈L,x.ak->1<=h x.id/\h x.id<=((aq U.ak L/2:Nat):Int))/\c_ ((if r=true then eY (an L)else an L).map (cN h)) (an M)/\(∀v l,L[v]?=some l->l.ak->∃m,M[s v]?=some m/\m.id=h l.id)/\ ∀v,v<I L->(an M)[s v]?=((an L)[v]?).map λp=>cN h (if r=true then ia p else p):=by
 have hn:0<I L:=gy.2 i.g.ne;have T:=i.BT 0 hn;obtain⟨h,hh⟩:=WB (P:=an L) (Q:=an M) (s:=s) λu v p p' q q' hp fO hq lG cp oj=>by have a1:=(rz hp).1;have a2:=(rz fO).1;have a3:=(rz hq).1;have a4:=(rz lG).1;exact i.ids u v p.l p'.l q.l q'.l a1 a2 a3 a4 cp oj
 have uH:aq U.ak M=aq U.ak L:=i.cn _ λl m Z _=>by unfold U.ak;rw[Z]
 have E:∀v l,L[v]?=some l->l.ak->∃m,M[s v]?=some m/\m.id=h l.id:=λv l hl j=>by obtain⟨m,H,_⟩:=i.at_ v l hl;exact⟨m,H,hh v _ _ (fX hl) (fX H) j⟩
 have o9:Go.Abs.inj h L:=λx f y hy kx ky e=>by
  obtain⟨u,z⟩:=fK f;obtain⟨v,B⟩:=fK hy;have cx:x.ak:=by unfold U.ak;rw[kx];rfl
  have cy:y.ak:=by unfold U.ak;rw[ky];rfl
  obtain⟨R,A,Y⟩:=E u x z cx;obtain⟨my,O,ey⟩:=E v y B cy;exact(i.ids u v x y R my z B A O cx cy).1 (by rw[Y,ey,e])
 have piece:∀v,v<I L->(an M)[s v]?=((an L)[v]?).map λp=>cN h (if r=true then ia p else p):=λv B=>by
  obtain⟨l,hl⟩:=aP B;obtain⟨m,H,Z,h2,h3,h4,h5⟩:=i.at_ v l hl;rw[fX H,fX hl];show some _=some _;congr 1;have X:m=dd h l:=by
   obtain⟨g1,g2,g3,g4,g5,g6⟩:=J3 h l;have Zc:m.id=(dd h l).id:=by
    cases j:l.ak with
    |true=>rw[g6 j];exact hh v _ _ (fX hl) (fX H) j
    |false=>
     have hp:l.ay:=by
      rcases i.g.ok.kinds l (a7 hl)with h|h
      .exact h
      rw[j]at h;cases h
     rw[RN j];have b1:=(lQ hp).1 (i.g.bad l (a7 hl));have D:m.ay:=(i.ay hl H).1.trans hp;have b2:=(lQ D).1 (i.g'.bad m (a7 H));rw[b2.1.1.2,b1.1.1.2]
   have YZ:∀a b:U,a.kind=b.kind->a.gate=b.gate->a.au=b.au->a.id=b.id->a.sign=b.sign->a.over=b.over->a=b:=λa b=>by cases a;cases b;simp only[U.mk.injEq];intros;simp_all
   exact YZ _ _ (Z.trans g1.symm) (h2.trans g2.symm) (h3.trans g3.symm) Zc (h4.trans g4.symm) (h5.trans g5.symm)
  have DM:c9 M (s v)=if r=true then(l.ay&& !c9 L v)else c9 L v:=by
   have D:=(i.ay hl H).1;cases hp:l.ay with
   |true=>rw[N_ H (D.trans hp),N_ hl hp,i.dwn v l hl hp];cases r<;>cases dn L v<;>rfl
   |false=>
    have z1:c9 M (s v)=false:=by unfold c9;rw[H];show(m.ay&&_)=false;rw[D,hp];rfl
    have z2:c9 L v=false:=by unfold c9;rw[hl];show(l.ay&&_)=false;rw[hp];rfl
    rw[z1,z2];cases r<;>rfl
  rw[X,DM];cases r<;>rfl
 refine⟨h,o9,λx f j=>?_,?_,E,piece⟩
 .obtain⟨u,z⟩:=fK f;obtain⟨R,A,Y⟩:=E u x z j;have cm:R.ak:=(i.ay z A).2.1.trans j;have:=xi i.g' (a7 (fX A)) cm;rw[uH]at this;rw[<-Y];exact this
 have get:∀k,k<I L->(an M)[k]?=((an L)[t k]?).map λp=>cN h (if r=true then ia p else p):=λk N=>by have:=piece (t k) (i.BT k N);rwa[i.st k N]at this
 have ta:∀k,k<I L->t k=if r=true then(t 0+I L-k)%I L else(t 0+k)%I L:=λk N=>by have:=i.Wg hn k J;rwa[jN,eJ N]at this
 have n:I (an M)=I L:=by rw[bY,i.len]
 cases hr:r with
 |false=>rw[aC aa];refine agt (i:=t 0) (by rw[cg,bY];exact T) (by rw[cg,bY,bY];exact i.len) λx f=>?_;rw[cg,bY]at f |-;rw[get x f,ta x f,hr,aC aa,fz];rfl
 |true=>
  rw[aD rfl];have mz:I ((eY (an L)).map (cN h))=I L:=by rw[cg,Gy,bY]
  refine agt (i:=I L-1-t 0) (by rw[mz];omega) (by rw[mz];exact n) λx f=>?_;rw[mz]at f |-;have H:(I L-1-t 0+x)%I L<I L:=cT _ hn;rw[get x f,ta x f,hr,aD rfl,fz,aaG (by rw[bY];exact H),bY,Option.map_map];have:(t 0+I L-x)%I L=I L-1-(I L-1-t 0+x)%I L:=by rw[uf J,uf (a:=I L-1-t 0+x) J];split<;>split<;>omega
  rw[this];rfl
def cK.tS(i:cK F L M r s t):∃h:Int->Int,Go.Abs.inj h L/\(∀x∈L,x.ak->1<=h x.id/\h x.id<=((aq U.ak L/2:Nat):Int))/\c_ ((if r=true then eY (an L)else an L).map (cN h)) (an M):=by obtain⟨h,f,H,j,_⟩:=i.Vw;exact⟨h,f,H,j⟩
end
def H3(h:Int->Int)(x:U):(dd h x).kind=x.kind/\(dd h x).gate=x.gate/\(dd h x).au=x.au/\(dd h x).sign=x.sign/\(dd h x).over=x.over:=by unfold dd;split<;>exact⟨rfl,rfl,rfl,rfl,rfl⟩
def Sg(h:Int->Int){x:U}(H:x.ak):(dd h x).id=h x.id:=by have f:(x.kind==2):=H;unfold dd;rw[f];rfl
def aby(G a b:Int)(h:Int->Int)(p:aN):cW G a b (cN h p)=cN h (cW G a b p):=by
 obtain⟨j,f,H,_⟩:=H3 h p.l;have e:∀c:Bool,(if c=true then(⟨{dd h p.l with au:=(dd h p.l).au+b},p.d⟩:aN)else⟨dd h p.l,p.d⟩)=cN h (if c=true then{p with l:={p.l with au:=p.l.au+b}}else p):=λc=>by
  cases c
  .rfl
  unfold cN;rw[aD rfl,aD rfl,H];congr 1;unfold dd;cases p.l.kind==2<;>rfl
 have:=e ((p.l.kind==1)&&((p.l.gate==G)&&decide (a<p.l.au)));unfold cW;show(if((dd h p.l).kind==1)&&(((dd h p.l).gate==G)&&decide (a<(dd h p.l).au))then(⟨{dd h p.l with au:=(dd h p.l).au+b},p.d⟩:aN)else⟨dd h p.l,p.d⟩)=_;rw[j,f,H];rw[H]at this;exact this
def YL(G a b:Int)(p:aN):cW G a b (ia p)=ia (cW G a b p):=by unfold cW ia;show(if(p.l.kind==1)&&((p.l.gate==G)&&decide (a<p.l.au))then _ else _)=_;split<;>rfl
def Rb(h:Int->Int)(p:aN):ia (cN h p)=cN h (ia p):=by
 unfold ia cN;have:(dd h p.l).ay=p.l.ay:=by unfold U.ay;rw[(H3 h p.l).1]
 rw[this]
def L8(hf:∀p,f (ia p)=ia (f p))(P:aW):eY (P.map f)=(eY P).map f:=by unfold eY;rw[<-OS,h_,h_];exact lq λp _=>(hf p).symm
section
variable {F:Nat} {L M:af} {P Q:aW} {r:Bool} {s t:Nat->Nat}
def ahk{w:aW}{x y:aN}(f:c_ A (x::y::w))(H:c_ ((if r=true then eY A else A).map (cN h)) B):c_ (cN h (if r=true then ia y else x)::cN h (if r=true then ia x else y)::(if r=true then eY w else w).map (cN h)) B:=by
 cases r with
 |false=>rw[aC aa]at H;exact(f.map (cN h)).symm.trans H
 |true=>rw[aD rfl]at H;refine c_.trans ?_ ((f.eY.map (cN h)).symm.trans H);rw[aD rfl,aD rfl,aD rfl];refine⟨[cN h (ia y),cN h (ia x)],(eY w).map (cN h),rfl,?_⟩;unfold eY;simp
def cK.Ta(i:cK F L M r s t):aq U.ak M=aq U.ak L:=i.cn _ λl m h _=>by unfold U.ak;rw[h]
def cK.OZ(i:cK F L M r s t):aq U.ay M=aq U.ay L:=i.cn _ λl m h _=>by unfold U.ay;rw[h]
def aus(a b:Int):j6 a b=j6 b a:=by unfold j6;split<;>split<;>omega
def apc(a b:Int):rN a b=rN b a:=by unfold rN;split<;>split<;>omega
def aoN(n:Go.Abs.inj h L){P:aW}(hp:∀p∈P,∃l∈L,p.l.kind=l.kind/\p.l.id=l.id):Go.Abs.inj h (P.map aN.l):=λx u y f j v e=>by obtain⟨p,D,rfl⟩:=ch.1 u;obtain⟨q,H,rfl⟩:=ch.1 f;obtain⟨l,hl,E,F⟩:=hp p D;obtain⟨m,z,A,B⟩:=hp q H;rw[F,B]at e |-;exact n l hl m z (E▸j) (A▸v) e
def tp{p:aN}(h:p∈an L):p.l∈L:=by obtain⟨v,H⟩:=fK h;exact a7 (rz H).1
def ak4{l:aW}{a:Nat}(h:a<I l)(H:2<=I l){p q:aN}{w:aW}(e:l.drop a++l.take a=p::q::w):c_ w (oc l λk _=>decide (k=a)||decide (k=(a+1)%I l)):=by obtain⟨u,v,k1,k2⟩:=IN h H e;rw[k1,k2];exact⟨v,u,rfl,rfl⟩
def cK.k1(i:cK F L M r s t){a:Nat}(Y:a<I L)(h:n_ L a=some P)(vX:dk (F:Int) (aY P)=0):∃A Q,A<I M/\n_ M A=some Q/\eV (aY Q) (aY P):=by
 obtain⟨H,o9,_,hR⟩:=i.tS;obtain⟨x0,y0,r0,s0,_,hx,hy,_,_,E,_,_,iU⟩:=GF i.g Y;have mz:2<=I L:=by have:=iU.length_eq;rw[yy]at this;simp only[fP]at this;omega
 rw[eZ,eZ]at E;generalize r0.map aQ.p=w at E;generalize x0.p=x at*;generalize y0.p=y at*;have n:=h;unfold n_ at n;have e1:(an L).getD a ⟨ij,false⟩=x:=by rw[dD,hx];rfl
 have e2:(an L).getD ((a+1)%I L) ⟨ij,false⟩=y:=by rw[dD,hy];rfl
 simp only[e1,e2]at n;split at n
 case isFalse=>cases n
 rename_i hc;have Jv:=(kA n).symm;simp only[cP,c8]at hc;obtain⟨ib,jB,jC,jX,Ux⟩:=hc;have hA:c_ (an L) (x::y::w):=by rw[<-E];exact xO _ _
 have hB:=ahk hA hR;obtain⟨A,B,q1,q2,q3⟩:=hB.at2;have R:2<=I (an M):=by rw[bY,i.len];exact mz
 have T:=ak4 B R q3;rw[bY]at B q2 T;have v:=ak4 (l:=an L) (a:=a) (by rw[bY];exact Y) (by rw[bY];exact mz) E;rw[bY]at v;have Kg:∀p:aN,(cN H p).l.kind=p.l.kind/\(cN H p).l.gate=p.l.gate/\(cN H p).l.au=p.l.au:=λp=>by obtain⟨j,z,X,_⟩:=H3 H p.l;exact⟨j,z,X⟩
 have PX:n_ M A=some (dO (oc (an M) λk _=>decide (k=A)||decide (k=(A+1)%I M)) x.l.gate (j6 x.l.au y.l.au) (-2)):=by
  have f1:(an M).getD A ⟨ij,false⟩=cN H (if r=true then ia y else x):=by rw[dD,q1];rfl
  have f2:(an M).getD ((A+1)%I M) ⟨ij,false⟩=cN H (if r=true then ia x else y):=by rw[dD,q2];rfl
  unfold n_;simp only[f1,f2,(Kg _).1,(Kg _).2.1,(Kg _).2.2,i.OZ,i.Ta];cases r with
  |false=>simp only[fE,if_false];rw[aD (by simp only[cP,c8];exact⟨ib,jB,jC,jX,Ux⟩)]
  |true=>have z1:(ia y).l=y.l:=rfl;have z2:(ia x).l=x.l:=rfl;simp only[if_true,z1,z2];rw[aus y.l.au,apc y.l.au,<-jC];rw[aD (by simp only[cP,c8];exact⟨jB,ib,trivial,jX,Ux⟩)]
 refine⟨A,_,B,PX,?_⟩;have m:c_ (w.map (cW x.l.gate (j6 x.l.au y.l.au) (-2))) P:=by rw[Jv];exact v.map _
 have D:=T.map (cW x.l.gate (j6 x.l.au y.l.au) (-2));have ew:((if r=true then eY w else w).map (cN H)).map (cW x.l.gate (j6 x.l.au y.l.au) (-2))=(if r=true then eY (w.map (cW x.l.gate (j6 x.l.au y.l.au) (-2)))else w.map (cW x.l.gate (j6 x.l.au y.l.au) (-2))).map (cN H):=by
  have:∀l:aW,(l.map (cN H)).map (cW x.l.gate (j6 x.l.au y.l.au) (-2))=(l.map (cW x.l.gate (j6 x.l.au y.l.au) (-2))).map (cN H):=λl=>by rw[h_,h_];exact lq λp _=>aby _ _ _ _ p
  rw[this];cases r
  .rfl
  rw[aD rfl,aD rfl,L8 λp=>YL _ _ _ p]
 rw[ew]at D;rcases S3 i.g Y h with e|fH
 .have hw:w=[]:=by
   have:=m.len;rw[e,cg]at this;exact Eh this
  subst hw;have Z:=D.len;have N:(oc (an M) λk _=>decide (k=A)||decide (k=(A+1)%I M)).map (cW x.l.gate (j6 x.l.au y.l.au) (-2))=[]:=by refine Eh ?_;rw[<-Z];cases r<;>rfl
  rw[e,show dO _ _ _ _=_ from N];exact eV.refl _
 have mX:∀p∈P,∃q∈an L,p=cW x.l.gate (j6 x.l.au y.l.au) (-2) q:=λp hp=>by obtain⟨q,u,rfl⟩:=ch.1 (m.perm.mem_iff.2 hp);exact⟨q,hA.perm.mem_iff.2 (by simp[u]),rfl⟩
 have O:dO (oc (an M) λk _=>decide (k=A)||decide (k=(A+1)%I M)) x.l.gate (j6 x.l.au y.l.au) (-2)≠[]:=λe0=>by
  have j:=D.len;have z:=m.len;rw[show List.map _ _=_ from e0]at j;rw[cg]at j;have X:I (if r=true then eY (w.map (cW x.l.gate (j6 x.l.au y.l.au) (-2)))else w.map (cW x.l.gate (j6 x.l.au y.l.au) (-2)))=I w:=by
   cases r
   .rw[aC aa,cg]
   rw[aD rfl,Gy,cg]
  rw[X]at j;rw[cg,j]at z;obtain⟨f,hf,_⟩:=Hn fH;have:I P=0:=z.symm;omega
 have cQ:gO F _:=(S3 i.g' B PX).resolve_left O;refine Cu.eV ⟨r,H,aoN o9 λp hp=>?_,?_⟩ fH cQ vX λp hp dx=>?_
 .obtain⟨q,u,rfl⟩:=mX p hp;refine⟨q.l,tp u,?_,?_⟩
  .unfold cW;split<;>rfl
  unfold cW;split<;>rfl
 .refine c_.trans (c_.map _ ?_) D;cases r
  .exact m.symm
  exact m.symm.eY
 obtain⟨q,u,rfl⟩:=mX p hp;rw[Cq.1]at dx;rw[Cq.2];exact qH u dx
end
def al4{p:aN}(H:p.l.ak)(h:p.d=false):ia p=p:=by obtain⟨l,d⟩:=p;have H:l.ak:=H;have h:d=false:=h;subst h;show(⟨l,l.ay&& !false⟩:aN)=_;rw[kJ H];rfl
def ayB(x:aN)(w:aW):c_ (ia x::eY w) (eY (x::w)):=by refine⟨[ia x],eY w,rfl,?_⟩;unfold eY;simp
section
variable {F:Nat} {L M:af} {P Q:aW} {r:Bool} {s t:Nat->Nat}
def aj1{p:aN}(e:p.l.ak->h p.l.id=m p.l.id):cN h p=cN m p:=by
 unfold cN dd;cases H:p.l.kind==2 with
 |false=>rfl
 |true=>rw[e H]
def cK.k5(i:cK F L M r s t){a:Nat}(ha:a<I L){sg:Int}{o:Bool}(ae:sg=1\/sg= -1)(vX:dk (F:Int) (aY (oo L a sg o))=0):∃(a':Nat) (o':Bool),a'<I M/\eV (aY (oo M a' sg o')) (aY (oo L a sg o)):=by
 obtain⟨h,o9,BC,hR⟩:=i.tS;have r0:=xO (an L) (a+1);have m:=O2 (an L) [⟨⟨2,0,0,((aq U.ak L/2+1:Nat):Int),sg,o⟩,false⟩,⟨⟨2,0,0,((aq U.ak L/2+1:Nat):Int),sg,!o⟩,false⟩] a;have D:=r0.len;rw[bY]at D;have fH:=L5 i.g ha (o:=o) ae;have B:oo L a sg o=dK (an L) [⟨⟨2,0,0,((aq U.ak L/2+1:Nat):Int),sg,o⟩,false⟩,⟨⟨2,0,0,((aq U.ak L/2+1:Nat):Int),sg,!o⟩,false⟩] a:=rfl;rw[<-B]at m;generalize oo L a sg o=P at*;generalize(an L).drop (a+1)++(an L).take (a+1)=w at*;have f:∀p∈w,p∈an L:=λp hp=>r0.perm.mem_iff.2 hp;have tB:c_ ((if r=true then eY w else w).map (cN h)) (an M):=by
  cases r with
  |false=>exact(r0.map _).symm.trans hR
  |true=>exact(r0.eY.map _).symm.trans hR
 have MQ:(if r=true then eY w else w).map (cN h)≠[]:=λe=>by have:=tB.len;rw[e,bY,i.len]at this;have h1:I ([]:aW)=0:=rfl;omega
 obtain⟨k,v,_,_,DP⟩:=tB.ins MQ;rw[bY]at v;refine⟨k,if r=true then !o else o,v,?_⟩;have cQ:=L5 i.g' v (o:=if r=true then !o else o) ae;have T:=DP [⟨⟨2,0,0,((aq U.ak M/2+1:Nat):Int),sg,if r=true then !o else o⟩,false⟩,⟨⟨2,0,0,((aq U.ak M/2+1:Nat):Int),sg,!(if r=true then !o else o)⟩,false⟩];have T:c_ _ (oo M k sg (if r=true then !o else o)):=T;rw[i.Ta]at T;generalize oo M k sg (if r=true then !o else o)=Q at*
 let H:Int->Int:=λid=>if id=((aq U.ak L/2+1:Nat):Int)then((aq U.ak L/2+1:Nat):Int)else h id
 have PH:∀p∈w,cN H p=cN h p:=λp hp=>aj1 λn=>by have:=(xi i.g (f p hp) n).2;show(if _ then _ else _)=_;rw[aC J]
 have X:∀p∈eY w,cN H p=cN h p:=λp hp=>by unfold eY at hp;obtain⟨q,z,rfl⟩:=ch.1 hp;rw[<-Rb,<-Rb,PH q (zJ.1 z)]
 have u:∀p∈P,(p.l.ak/\p.d=false/\p.l.id=((aq U.ak L/2+1:Nat):Int))\/p∈an L:=λp hp=>by
  have:=m.perm.mem_iff.2 hp;simp only[qz,fB,c7]at this;rcases this with rfl|rfl|h
  .exact .inl ⟨rfl,rfl,rfl⟩
  .exact .inl ⟨rfl,rfl,rfl⟩
  exact .inr (f p h)
 refine Cu.eV ⟨r,H,?_,?_⟩ fH cQ vX λp hp dx=>?_
 .intro x hx y hy Y Z e;obtain⟨p,hp,rfl⟩:=ch.1 hx;obtain⟨q,z,rfl⟩:=ch.1 hy;have cp:p.l.ak:=by unfold U.ak;rw[Y];rfl
  have cq:q.l.ak:=by unfold U.ak;rw[Z];rfl
  have O:∀ {p:aN},p∈an L->p.l.ak->p.l.id<=((aq U.ak L/2:Nat):Int)/\H p.l.id=h p.l.id/\h p.l.id<=((aq U.ak L/2:Nat):Int):=λ{p} hp n=>by have h1:=(xi i.g hp n).2;refine⟨h1,?_,(BC p.l (tp hp) n).2⟩;show(if _ then _ else _)=_;rw[aC J]
  have new:H ((aq U.ak L/2+1:Nat):Int)=((aq U.ak L/2+1:Nat):Int):=aD rfl;rcases u p hp with⟨_,_,E⟩|j<;>rcases u q z with⟨_,_,e2⟩|R
  .rw[E,e2]
  .exfalso;obtain⟨b1,N,b3⟩:=O R cq;rw[E,new,N]at e;omega
  .exfalso;obtain⟨b1,N,b3⟩:=O j cp;rw[e2,new,N]at e;omega
  rw[(O j cp).2.1,(O R cq).2.1]at e;exact o9 _ (tp j) _ (tp R) Y Z e
 .have A:∀ov:Bool,cN H ⟨⟨2,0,0,((aq U.ak L/2+1:Nat):Int),sg,ov⟩,false⟩=⟨⟨2,0,0,((aq U.ak L/2+1:Nat):Int),sg,ov⟩,false⟩:=λov=>by
   show(⟨{kind:=2,gate:=0,au:=0,id:=H _,sign:=sg,over:=ov},false⟩:aN)=_;rw[show H ((aq U.ak L/2+1:Nat):Int)=_ from aD rfl]
  cases r with
  |false=>simp only[fE,if_false]at T |-;refine c_.trans ((m.map (cN H)).symm) ?_;rw[qz,qz,fB,eZ,eZ,A,A,lq PH];exact T
  |true=>
   simp only[if_true,yI]at T |-;refine c_.trans ((m.eY.map (cN H)).symm) (c_.trans ?_ T);rw[<-lq X];refine c_.trans ?_ (c_.refl _);have E:eY ([⟨⟨2,0,0,((aq U.ak L/2+1:Nat):Int),sg,o⟩,false⟩,⟨⟨2,0,0,((aq U.ak L/2+1:Nat):Int),sg,!o⟩,false⟩]++w)=eY w++[⟨⟨2,0,0,((aq U.ak L/2+1:Nat):Int),sg,!o⟩,false⟩,⟨⟨2,0,0,((aq U.ak L/2+1:Nat):Int),sg,o⟩,false⟩]:=by unfold eY;simp only[List.reverse_append,fL,Xm,List.reverse_nil,fB,qz,eZ,m_];rw[lf];rfl
   rw[E,fL,eZ,eZ,m_,A,A];exact⟨_,_,rfl,rfl⟩
 rcases u p hp with⟨_,hd,_⟩|j
 .exact hd
 exact qH j dx
def acV{l:aW}{a:Nat}{x q:aN}{w:aW}(h:l[a]?=some x)(e:l.drop a++l.take a=x::w):c_ (q::w.map f) ((l.map f).set a q):=by
 have hl:=(bt.1 h).1;have H:l.drop a=x::l.drop (a+1):=by obtain⟨m,E⟩:=bt.1 h;rw[<-E,ux]
 rw[H,qz]at e;have j:l.drop (a+1)++l.take a=w:=(List.cons.inj e).2;rw[S2 h,<-j,fL];exact⟨q::(l.drop (a+1)).map f,(l.take a).map f,rfl,rfl⟩
def aoY{α:Type}{l w:List α}{x:α}(h:c_ (x::w) l):∃a,a<I l/\l[a]?=some x/\l.drop a++l.take a=x::w:=by
 have hl:=h.len;obtain⟨u,v,e,rfl⟩:=h;by_cases H:u=[]
 .subst H;rw[fB]at e;subst e;exact⟨0,aE,aE,aE⟩
 have:=gy.2 H;refine⟨I v,by rw[gb];omega,?_,by simp[e]⟩;rw[qQ (cJ _),xt];cases u with
 |nil=>exact absurd rfl H
 |cons y u=>rw[qz]at e;rw[(List.cons.inj e).1];rfl
def agC{w:aW}{x:aN}(f:c_ A (x::w))(H:c_ ((if r=true then eY A else A).map (cN h)) B):c_ (cN h (if r=true then ia x else x)::(if r=true then eY w else w).map (cN h)) B:=by
 cases r with
 |false=>rw[aC aa]at H;exact(f.map (cN h)).symm.trans H
 |true=>rw[aD rfl]at H;refine c_.trans ?_ ((f.eY.map (cN h)).symm.trans H);rw[aD rfl,aD rfl];exact(ayB x w).map (cN h)
def cK.cgs(i:cK F L M r s t)(g:Nat):aV M g=aV L g:=i.cn _ λl m h H=>by unfold jq U.ay;rw[h,H]
def cK.tip(i:cK F L M r s t){a:Nat}{l:U}(hl:L[a]?=some l)(hp:l.ay)(m A b j R:Int)(fH:gO F (((an L).map (cW m A b)).set a ⟨{l with gate:=j,au:=R},c9 L a⟩))(vX:dk (F:Int) (aY (((an L).map (cW m A b)).set a ⟨{l with gate:=j,au:=R},c9 L a⟩))=0):
  ∃(n:Nat) (O:Bool),n<I M/\(an M)[n]?=some ⟨l,O⟩/\(gO F (((an M).map (cW m A b)).set n ⟨{l with gate:=j,au:=R},O⟩)->eV (aY (((an M).map (cW m A b)).set n ⟨{l with gate:=j,au:=R},O⟩)) (aY (((an L).map (cW m A b)).set a ⟨{l with gate:=j,au:=R},c9 L a⟩))):=by
 obtain⟨h,o9,_,hR⟩:=i.tS;have Y:=fX hl;have jt:=(bt.1 Y).1;obtain⟨w,hw⟩:∃w,(an L).drop a++(an L).take a=⟨l,c9 L a⟩::w:=by obtain⟨h1,H⟩:=bt.1 Y;exact⟨(an L).drop (a+1)++(an L).take a,by rw[<-H,<-qz,ux]⟩
 have hA:c_ (an L) (⟨l,c9 L a⟩::w):=by rw[<-hw];exact xO _ _
 obtain⟨n,ko,Z,q2⟩:=aoY (agC hA hR);rw[bY]at ko;have ex:cN h (if r=true then ia ⟨l,c9 L a⟩else⟨l,c9 L a⟩)=⟨l,if r=true then !c9 L a else c9 L a⟩:=by
  have e:∀d,cN h ⟨l,d⟩=⟨l,d⟩:=λd=>by
   unfold cN;rw[RN (by
    cases hc:l.ak with
    |false=>rfl
    |true=>rw[kJ hc]at hp;cases hp)]
  cases r
  .exact e _
  rw[aD rfl,aD rfl];have:ia ⟨l,c9 L a⟩=⟨l,!c9 L a⟩:=by unfold ia;rw[hp];rfl
  rw[this];exact e _
 rw[ex]at Z q2;refine⟨n,_,ko,Z,λcQ=>?_⟩;have tP:=acV (f:=cW m A b) (q:=⟨{l with gate:=j,au:=R},c9 L a⟩) Y hw;have N:=acV (f:=cW m A b) (q:=⟨{l with gate:=j,au:=R},if r=true then !c9 L a else c9 L a⟩) Z q2;have hn:=V4 (L:=L) (a:=a) (A:=cW m A b) (q:=⟨{l with gate:=j,au:=R},c9 L a⟩) (λp=>Cq) hp;generalize((an L).map (cW m A b)).set a ⟨{l with gate:=j,au:=R},c9 L a⟩=P at*;generalize((an M).map (cW m A b)).set n ⟨{l with gate:=j,au:=R},if r=true then !c9 L a else c9 L a⟩=Q at*;have E:l.ak=false:=nL hp;have kc:¬l.kind=2:=λe=>by unfold U.ak at E;rw[e]at E;cases E
 refine Cu.eV ⟨r,h,?_,?_⟩ fH cQ vX hn
 .intro x X y hy D ky e;have B:∀x∈P.map aN.l,x.kind=2->∃z∈L,z.kind=2/\z.id=x.id:=λx X D=>by
   obtain⟨p,kM,rfl⟩:=ch.1 X;rcases c7.1 (tP.perm.mem_iff.2 kM)with rfl|hm
   .exact absurd D kc
   obtain⟨q,hq,rfl⟩:=ch.1 hm;have H:(cW m A b q).l.kind=q.l.kind/\(cW m A b q).l.id=q.l.id:=by unfold cW;split<;>exact⟨rfl,rfl⟩
   exact⟨q.l,tp (hA.perm.mem_iff.2 (zY _ hq)),H.1▸D,H.2.symm⟩
  obtain⟨u,hu,ku,eu⟩:=B x X D;obtain⟨v,hv,kv,ev⟩:=B y hy ky;rw[<-eu,<-ev]at e |-;exact o9 u hu v hv ku kv e
 have lG:cN h (if r=true then ia ⟨{l with gate:=j,au:=R},c9 L a⟩else⟨{l with gate:=j,au:=R},c9 L a⟩)=⟨{l with gate:=j,au:=R},if r=true then !c9 L a else c9 L a⟩:=by
  have e:∀d,cN h ⟨{l with gate:=j,au:=R},d⟩=⟨{l with gate:=j,au:=R},d⟩:=λd=>by unfold cN;rw[RN (x:={l with gate:=j,au:=R}) E]
  cases r
  .exact e _
  rw[aD rfl,aD rfl];have:ia ⟨{l with gate:=j,au:=R},c9 L a⟩=⟨{l with gate:=j,au:=R},!c9 L a⟩:=by unfold ia;show(⟨_,l.ay&& !c9 L a⟩:aN)=_;rw[hp];rfl
  rw[this];exact e _
 have e3:∀l:aW,(l.map (cN h)).map (cW m A b)=(l.map (cW m A b)).map (cN h):=λl=>by rw[h_,h_];exact lq λp _=>aby _ _ _ _ p
 rw[e3]at N;have T:=agC (r:=r) (h:=h) tP.symm (c_.refl _);rw[lG]at T;refine c_.trans T.symm ?_;cases r
 .exact N
 rw[aD rfl]at N |-;rw[L8 λp=>YL _ _ _ p];exact N
end
section
variable {F:Nat} {L M:af} {P Q:aW} {r:Bool} {s t:Nat->Nat}
def al8{a:Nat}{l:U}{d:Bool}(hp:(an L)[a]?=some ⟨l,d⟩)(f:l.kind=1)(H:l.gate<(F:Int))(j:l.au=(aV L l.gate.toNat:Int)):th F L a=some (((an L).map (cW (l.gate+1) 0 1)).set a ⟨{l with gate:=l.gate+1,au:=1},d⟩):=by
 unfold th;rw[gU hp,aD (by simp only[cP,c8,iJ];exact⟨f,H,j⟩)];unfold pF dO;have:((an L).map (cW (l.gate+1) 0 1)).getD a ⟨ij,false⟩=⟨l,d⟩:=by rw[dD,fz,hp];show cW (l.gate+1) 0 1 ⟨l,d⟩=_;unfold cW;rw[aC];simp only[cP,c8];intro h;omega
 rw[this]
def aeI{a:Nat}{l:U}{d:Bool}(hp:(an L)[a]?=some ⟨l,d⟩)(j:l.kind=1)(H:0<l.gate)(f:l.au=1):te L a=some (((an L).map (cW l.gate 1 (-1))).set a ⟨{l with gate:=l.gate-1,au:=((aV L (l.gate-1).toNat+1:Nat):Int)},d⟩):=by
 unfold te;rw[gU hp,aD (by simp only[cP,c8,iJ];exact⟨j,H,f⟩)];unfold pF dO;have:((an L).map (cW l.gate 1 (-1))).getD a ⟨ij,false⟩=⟨l,d⟩:=by rw[dD,fz,hp];show cW l.gate 1 (-1) ⟨l,d⟩=_;unfold cW;rw[aC];simp only[cP,c8,iJ];intro h;omega
 rw[this]
def cK.k9(i:cK F L M r s t){a:Nat}(v:a<I L)(h:th F L a=some P)(y:dk (F:Int) (aY P)=0):∃A Q,A<I M/\th F M A=some Q/\eV (aY Q) (aY P):=by
 have fH:=Og i.g v h;obtain⟨l,hl⟩:=aP v;have m:=fX hl;have H:l.kind=1/\l.gate<(F:Int)/\l.au=(aV L l.gate.toNat:Int):=by
  unfold th at h;rw[gU m]at h;split at h
  .rename_i H;simp only[cP,c8,iJ]at H;exact H
  cases h
 obtain⟨f,j,n⟩:=H;rw[al8 m f j n]at h;cases h;obtain⟨A,D,x,z,hf⟩:=i.tip hl (by unfold U.ay;rw[f];rfl) _ _ _ _ _ fH y;have u:=al8 (F:=F) z f j (by rw[i.cgs];exact n);exact⟨A,_,x,u,hf (Og i.g' x u)⟩
def cK.k10(i:cK F L M r s t){a:Nat}(v:a<I L)(h:te L a=some P)(y:dk (F:Int) (aY P)=0):∃A Q,A<I M/\te M A=some Q/\eV (aY Q) (aY P):=by
 have fH:=Nz i.g v h;obtain⟨l,hl⟩:=aP v;have n:=fX hl;have H:l.kind=1/\0<l.gate/\l.au=1:=by
  unfold te at h;rw[gU n]at h;split at h
  .rename_i H;simp only[cP,c8,iJ]at H;exact H
  cases h
 obtain⟨j,m,u⟩:=H;rw[aeI n j m u]at h;cases h;obtain⟨A,D,x,z,hf⟩:=i.tip hl (by unfold U.ay;rw[j];rfl) _ _ _ _ _ fH y;have f:=aeI (L:=M) z j m u;rw[i.cgs]at f;exact⟨A,_,x,f,hf (Nz i.g' x f)⟩
def ni(ids:cL)(k:Int):Int:=k-((ids.countP λi=>decide (i<k):Nat):Int)
def Nk(ids:cL)(p:aN):jn ids p=if p.l.kind==2 then{p with l:={p.l with id:=ni ids p.l.id}}else p:=by unfold jn kh ni;rw[jZ]
def am3{ids:cL}{p:aN}(h:p.l.ak):(jn ids p).l.id=ni ids p.l.id:=by have H:(p.l.kind==2):=h;rw[Nk,H];rfl
def agu{ids v:cL}{p:aN}(e:p.l.ak->m (ni ids p.l.id)=ni v (h p.l.id)):jn v (cN h p)=cN m (jn ids p):=by
 rw[Nk,Nk];unfold cN dd;cases H:p.l.kind==2 with
 |false=>simp only[H,fE,if_false]
 |true=>simp only[H,if_true];rw[e H]
def adx(ids:cL)(p:aN):jn ids (ia p)=ia (jn ids p):=by
 rw[Nk,Nk];unfold ia;cases h:p.l.kind==2 with
 |false=>simp only[h,fE,if_false]
 |true=>simp only[h,if_true];rfl
def abG{i k:Int}:ni [i] k=if i<k then k-1 else k:=by
 unfold ni;by_cases h:i<k
 .simp[h]
 simp[h]
def cK.k4(i:cK F L M r s t){a:Nat}(ha:a<I L)(h:qh L a=some P)(vX:dk (F:Int) (aY P)=0):∃B Q,B<I M/\qh M B=some Q/\eV (aY Q) (aY P):=by
 have fH:=O7 i.g ha h;obtain⟨H,o9,_,hR⟩:=i.tS;obtain⟨x,y,r1,s1,_,hx,hy,c,_,mZ,_,_,_⟩:=GF i.g ha;have q:=c.q;unfold qh at h;have e1:(an L).getD a ⟨ij,false⟩=x.p:=by rw[dD,hx];rfl
 have e2:(an L).getD ((a+1)%I L) ⟨ij,false⟩=y.p:=by rw[dD,hy];rfl
 simp only[e1,e2]at h;split at h
 case isFalse=>cases h
 rename_i m;have Jv:=(kA h).symm;simp only[cP,c8]at m;obtain⟨Y,jB,D⟩:=m;have O:x.k.ak:=by rw[A9];simp[Y]
 have N:y.k.ak:=by rw[A9];simp[jB]
 have Gb:=Xe q O N D;have T:∀p∈r1.map aQ.p,p.l.ak->p.l.id≠x.p.l.id:=λp hp m=>by obtain⟨w,hw,rfl⟩:=ch.1 hp;exact Gb w hw m
 rw[eZ,eZ]at mZ;generalize r1.map aQ.p=w at mZ T;have O:x.p.l.ak:=O;have N:y.p.l.ak:=N;generalize x.p=x at*;generalize y.p=y at*;have hA:c_ (an L) (x::y::w):=by rw[<-mZ];exact xO _ _
 have E:∀p∈x::y::w,p∈an L:=λp hp=>hA.perm.mem_iff.2 hp;have QK:=E x aE;have ad:=E y aE;have iL:ia x=x:=al4 O (qH QK (kJ O));have fy:ia y=y:=al4 N (qH ad (kJ N));have hB:=ahk hA hR;rw[iL,fy]at hB;obtain⟨B,ko,q1,q2,_⟩:=hB.at2;rw[bY]at ko q2;have idx:∀z:aN,z=x\/z=y->(cN H z).l.id=H x.l.id/\(cN H z).l.kind=2:=λz f=>by
  rcases f with rfl|rfl
  .exact⟨Sg H O,by rw[show(cN H z).l=dd H z.l from rfl,(H3 H z.l).1];exact Y⟩
  exact⟨by rw[show(cN H z).l.id=(dd H z.l).id from rfl,Sg H N,D],by rw[show(cN H z).l=dd H z.l from rfl,(H3 H z.l).1];exact jB⟩
 have i1:=idx (if r=true then y else x) (by cases r<;>simp);have i2:=idx (if r=true then x else y) (by cases r<;>simp);have CF:qh M B=some (jA (an M) [H x.l.id]):=by
  have f1:(an M).getD B ⟨ij,false⟩=cN H (if r=true then y else x):=by rw[dD,q1];rfl
  have f2:(an M).getD ((B+1)%I M) ⟨ij,false⟩=cN H (if r=true then x else y):=by rw[dD,q2];rfl
  unfold qh;simp only[f1,f2,i1.1,i1.2,i2.1,i2.2,sv,zK,if_true]
 refine⟨B,_,ko,CF,?_⟩;have cQ:=O7 i.g' ko CF;have kC:∀ {l:U},l.ak->l.kind=2:=λh=>by unfold U.ak at h;exact c8.1 h
 have ac:∀ {ids:cL}{p q:aN}{w:aW},p.l.kind=2->q.l.kind=2->p.l.id∈ids->q.l.id∈ids->(∀z∈w,z.l.ak->z.l.id∉ids)->jA (p::q::w) ids=w.map (jn ids):=λ{ids p q w} h1 h2 h3 h4 h5=>by
  rw[yE,Dd,Dd,Ge]
  .intro z f;cases hk:z.l.kind==2 with
   |false=>rfl
   |true=>
    have:=h5 z f hk;have:ids.contains z.l.id=false:=by simpa using this
    rw[this];rfl
  .rw[HM h2 h4];decide
  rw[HM h1 h3];decide
 have tP:c_ (w.map (jn [x.l.id])) P:=by rw[Jv,<-ac Y jB aE (by simp[D]) (λz f m=>by simpa using T z f m)];exact hA.symm.jA _
 have qW:∀z∈(if r=true then eY w else w),∃n∈w,z.l=n.l:=λz f=>by
  cases r
  .exact⟨z,f,rfl⟩
  rw[aD rfl]at f;unfold eY at f;obtain⟨n,R,rfl⟩:=ch.1 f;exact⟨n,zJ.1 R,rfl⟩
 have tQ:c_ (((if r=true then eY w else w).map (cN H)).map (jn [H x.l.id])) (jA (an M) [H x.l.id]):=by
  rw[<-ac i1.2 i2.2 (by simp[i1.1]) (by simp[i2.1]) (λz f m=>?_)]
  .exact hB.jA _
  obtain⟨Z,h1,rfl⟩:=ch.1 f;obtain⟨n,R,e0⟩:=qW Z h1;have c1:Z.l.ak:=by have:(dd H Z.l).ak:=m;unfold U.ak at this |-;rwa[(H3 H Z.l).1]at this
  have c0:n.l.ak:=by rw[<-e0];exact c1
  have:(cN H Z).l.id=H n.l.id:=by rw[show(cN H Z).l.id=(dd H Z.l).id from rfl,Sg H c1,e0]
  rw[this];simp only[c7,eD,or_false];intro e;exact T n R c0 (o9 _ (tp (E n (by simp[R]))) _ (tp QK) (kC c0) Y e)
 let h3:Int->Int:=λj=>ni [H x.l.id] (H (if j<x.l.id then j else j+1))
 have Ju:∀z∈w,z.l.ak->h3 (ni [x.l.id] z.l.id)=ni [H x.l.id] (H z.l.id):=λz f m=>by
  have aO:=T z f m;show ni [H x.l.id] (H _)=_;rw[show ni [x.l.id] z.l.id=if x.l.id<z.l.id then z.l.id-1 else z.l.id from abG];by_cases aw:x.l.id<z.l.id
  .rw[aD aw,aC J,show z.l.id-1+1=z.l.id by omega]
  rw[aC aw,aD J]
 refine Cu.eV ⟨r,h3,?_,?_⟩ fH cQ vX ?_
 .intro u hu v hv ku kv e;have ab:∀u∈P.map aN.l,u.kind=2->∃z∈w,z.l.ak/\u.id=ni [x.l.id] z.l.id:=λu hu ku=>by
   obtain⟨p,hp,rfl⟩:=ch.1 hu;obtain⟨z,f,rfl⟩:=ch.1 (tP.perm.mem_iff.2 hp);have cz:z.l.ak:=by have:=LM [x.l.id] z;unfold U.ak;rw[<-this,ku];rfl
   exact⟨z,f,cz,am3 cz⟩
  obtain⟨Z,A,c1,e1⟩:=ab u hu ku;obtain⟨X,Kk,c2,e2⟩:=ab v hv kv;rw[e1,e2,Ju Z A c1,Ju X Kk c2]at e;have n1:=T Z A c1;have n2:=T X Kk c2;have m1:H Z.l.id≠H x.l.id:=λe=>n1 (o9 _ (tp (E Z (by simp[A]))) _ (tp QK) (kC c1) Y e);have m2:H X.l.id≠H x.l.id:=λe=>n2 (o9 _ (tp (E X (by simp[Kk]))) _ (tp QK) (kC c2) Y e);have:H Z.l.id=H X.l.id:=by rw[abG,abG]at e;split at e<;>split at e<;>omega
  rw[e1,e2,o9 _ (tp (E Z (by simp[A]))) _ (tp (E X (by simp[Kk]))) (kC c1) (kC c2) this]
 .have ew:∀l:aW,(∀z∈l,∃n∈w,z.l=n.l)->(l.map (cN H)).map (jn [H x.l.id])=(l.map (jn [x.l.id])).map (cN h3):=λl hl=>by
   rw[h_,h_];refine lq λp hp=>agu λm=>?_;obtain⟨n,R,e0⟩:=hl p hp;rw[e0]at m |-;exact Ju n R m
  rw[ew _ qW]at tQ;refine c_.trans (c_.map _ ?_) tQ;cases r
  .exact tP.symm
  rw[aD rfl,aD rfl,<-L8 λp=>adx _ p];exact tP.symm.eY
 intro p hp dx;rw[Jv]at hp;exact abR (λp hp=>qH hp) p hp dx
end
section
variable {F:Nat} {L M:af} {P Q:aW} {r:Bool} {s t:Nat->Nat}
def aqE(o9:Go.Abs.inj h L)(N:∀p∈A,p.l∈L)(hR:c_ ((if r=true then eY A else A).map (cN h)) B){ids f:cL}(l1:∀a b,a∉ids->b∉ids->ni ids a=ni ids b->a=b)(l2:∀a b,a∉f->b∉f->ni f a=ni f b->a=b)(X:∀l∈L,l.ak->(l.id∈ids↔h l.id∈f)):Cu (jA A ids) (jA B f):=by
 classical
 have kC:∀ {l:U},l.ak->l.kind=2:=λh=>by unfold U.ak at h;exact c8.1 h
 let R:Int->Int:=λj=>if e:∃l∈L,l.ak/\l.id∉ids/\ni ids l.id=j then ni f (h (Classical.choose e).id)else 0
 have M:∀l∈L,l.ak->l.id∉ids->R (ni ids l.id)=ni f (h l.id):=λl hl F D=>by have e:∃z∈L,z.ak/\z.id∉ids/\ni ids z.id=ni ids l.id:=⟨l,hl,F,D,rfl⟩;show(if e:_ then _ else _)=_;rw[dif_pos e];obtain⟨q1,q2,q3,q4⟩:=Classical.choose_spec e;rw[l1 _ _ q3 D q4]
 have keep:∀p:aN,(!((p.l.kind==2)&&ids.contains p.l.id))↔(p.l.ak->p.l.id∉ids):=λp=>by rw[A9];cases p.l.kind==2<;>simp
 have hP:∀p∈jA A ids,∃z∈A,(z.l.ak->z.l.id∉ids)/\p=jn ids z:=λp hp=>by rw[yE]at hp;obtain⟨z,H,rfl⟩:=ch.1 hp;obtain⟨m,n⟩:=r4.1 H;exact⟨z,m,(keep z).1 n,rfl⟩
 refine⟨r,R,?_,?_⟩
 .intro u Q v hv T kv e;have y:∀u∈(jA A ids).map aN.l,u.kind=2->∃z∈L,z.ak/\z.id∉ids/\u.id=ni ids z.id:=λu Q T=>by
   obtain⟨p,hp,rfl⟩:=ch.1 Q;obtain⟨z,H,D,rfl⟩:=hP p hp;have cz:z.l.ak:=by have:=LM ids z;unfold U.ak;rw[<-this,T];rfl
   exact⟨z.l,N z H,cz,D cz,am3 cz⟩
  obtain⟨z1,m,c1,n1,E⟩:=y u Q T;obtain⟨Z,n,O,n2,e2⟩:=y v hv kv;rw[E,e2,M z1 m c1 n1,M Z n O n2]at e;have:=l2 _ _ (λx=>n1 ((X z1 m c1).2 x)) (λx=>n2 ((X Z n O).2 x)) e;rw[E,e2,o9 _ m _ n (kC c1) (kC O) this]
 have tQ:=hR.jA f;refine Eq.mp (congrArg (λz=>c_ z _) ?_) tQ;have one:∀l:aW,(∀z∈l,z.l∈L)->jA (l.map (cN h)) f=(jA l ids).map (cN R):=λl hl=>by
  rw[yE,yE,Ui,h_,h_];have E:l.filter ((λp=> !((p.l.kind==2)&&f.contains p.l.id)) ∘ cN h)=l.filter (λp=> !((p.l.kind==2)&&ids.contains p.l.id)):=List.filter_congr λp hp=>by
   show(!(((dd h p.l).kind==2)&&f.contains (dd h p.l).id))=_;rw[(H3 h p.l).1];cases Y:p.l.kind==2 with
   |false=>rfl
   |true=>rw[Sg h Y];have:=X p.l (hl p hp) Y;congr 2;rw[KG,Dr,Dr];exact this.symm
  rw[E];refine lq λp hp=>?_;obtain⟨m,n⟩:=r4.1 hp;exact agu λF=>M p.l (hl p m) F ((keep p).1 n F)
 have HF:∀l:aW,eY (jA l ids)=jA (eY l) ids:=λl=>by rw[yE,yE,L8 λp=>adx _ p];congr 1;unfold eY;rw[Ui,<-List.filter_reverse];rfl
 cases r with
 |false=>exact one A N
 |true=>rw[aD rfl,aD rfl,HF];refine one (eY A) λz H=>?_;unfold eY at H;obtain⟨z0,h0,rfl⟩:=ch.1 H;exact N z0 (zJ.1 h0)
def amZ{p q:Int}(h:p≠q)(a b:Int)(H:a∉[p,q])(j:b∉[p,q])(e:ni [p,q] a=ni [p,q] b):a=b:=by
 simp only[c7,eD,or_false,A4]at H j;have L:∀k,ni [p,q] k=k-(if p<k then 1 else 0)-(if q<k then 1 else 0):=λk=>by unfold ni;by_cases c1:p<k<;>by_cases f:q<k<;>simp[c1,f]<;>omega
 rw[L,L]at e;split at e<;>split at e<;>split at e<;>split at e<;>omega
def cK.k6(i:cK F L M r s t){a b:Nat}(dp:a<b)(Z:b<I L)(h:oY F L a b=some P)(vX:dk (F:Int) (aY P)=0):∃a' Y Q,a'<Y/\Y<I M/\oY F M a' Y=some Q/\eV (aY Q) (aY P):=by
 have B:a<I L:=J;have fH:=Vy i.g B Z h;obtain⟨H,R,_,hR,Mu,_⟩:=i.Vw;have bd:=M_.1 (by rw[h];rfl:(oY F L a b).isSome);have D:=i.c6 B Z bd;have Jv:P=jA (an L) [(a8 L a).id,(a8 L (nx L a)).id]:=by
  unfold oY at h;split at h
  .exact(kA h).symm
  cases h
 have JU:nx L a<I L:=cT _ J;have ag:nx L b<I L:=cT _ J;have N:∀v,v<I L->(a8 L v).kind=2->(a8 M (s v)).id=H (a8 L v).id:=λv O hk=>by obtain⟨l,hl⟩:=aP O;rw[iP hl]at hk |-;obtain⟨m,hm,e⟩:=Mu v l hl (by unfold U.ak;rw[hk];rfl);rw[iP hm,e]
 have f:∀v,v<I L->a8 L v∈L:=λv O=>by obtain⟨l,hl⟩:=aP O;rw[iP hl];exact a7 hl
 have aO:H (a8 L a).id≠H (a8 L (nx L a)).id:=λe=>bd.AL (R _ (f a B) _ (f _ JU) bd.cr.1 bd.cr.2.1 e)
 have A:((a8 M (dw (I L) r s a)).id=H (a8 L a).id/\(a8 M (nx M (dw (I L) r s a))).id=H (a8 L (nx L a)).id)\/((a8 M (dw (I L) r s a)).id=H (a8 L (nx L a)).id/\(a8 M (nx M (dw (I L) r s a))).id=H (a8 L a).id):=by
  have m1:=N a B bd.cr.1;have m2:=N _ JU bd.cr.2.1;rcases i.ends B with⟨_,j,E⟩|⟨_,j,E⟩
  .rw[j]at E |-;rw[E];exact .inl ⟨m1,m2⟩
  rw[j]at E |-;rw[E];exact .inr ⟨m2,m1⟩
 have x:∀z,z∈[(a8 M (dw (I L) r s a)).id,(a8 M (nx M (dw (I L) r s a))).id]↔z=H (a8 L a).id\/z=H (a8 L (nx L a)).id:=λz=>by
  simp only[c7,eD,or_false];rcases A with⟨j,E⟩|⟨j,E⟩<;>rw[j,E]
  exact or_comm
 have y:∀z,z∈[(a8 M (dw (I L) r s b)).id,(a8 M (nx M (dw (I L) r s b))).id]↔z=H (a8 L a).id\/z=H (a8 L (nx L a)).id:=λz=>by
  rw[<-x];simp only[c7,eD,or_false];rcases D.BO with⟨j,E⟩|⟨j,E⟩<;>rw[j,E]
  exact or_comm
 have fin:∀(u v:Nat) (Q:aW),oY F M u v=some Q->u<I M->v<I M->(∀z,z∈[(a8 M u).id,(a8 M (nx M u)).id]↔z=H (a8 L a).id\/z=H (a8 L (nx L a)).id)->(a8 M u).id≠(a8 M (nx M u)).id->eV (aY Q) (aY P):=λu v Q n hu O iE hd=>by
  have cQ:=Vy i.g' hu O n;have ac:Q=jA (an M) [(a8 M u).id,(a8 M (nx M u)).id]:=by
   unfold oY at n;split at n
   .exact(kA n).symm
   cases n
  have ab:Cu P Q:=by
   rw[Jv,ac];refine aqE R (λp hp=>tp hp) hR (amZ bd.AL) (amZ hd) λl hl hc=>?_;rw[iE];have kl:l.kind=2:=by unfold U.ak at hc;exact c8.1 hc
   simp only[c7,eD,or_false];constructor
   .rintro (e|e)
    .exact .inl (by rw[e])
    exact .inr (by rw[e])
   rintro(e|e)
   .exact .inl (R _ hl _ (f a B) kl bd.cr.1 e)
   exact .inr (R _ hl _ (f _ JU) kl bd.cr.2.1 e)
  refine ab.eV fH cQ vX λp hp dx=>?_;rw[Jv]at hp;exact abR (λp hp=>qH hp) p hp dx
 have T:dw (I L) r s a<I M:=by rw[i.len];exact i.Bq B
 have X:dw (I L) r s b<I M:=by rw[i.len];exact i.Bq Z
 have Zm:dw (I L) r s a≠dw (I L) r s b:=λe=>by have:=D.ov.2.2;rw[e]at this;revert this;cases(a8 M (dw (I L) r s b)).over<;>simp
 have qm:=D.AL;have ad:(a8 M (dw (I L) r s b)).id≠(a8 M (nx M (dw (I L) r s b))).id:=by
  rcases D.BO with⟨j,E⟩|⟨j,E⟩<;>rw[j,E]
  .exact qm
  exact qm.symm
 rcases FI Zm with aw|aw
 .obtain⟨Q,n⟩:=Me.1 (M_.2 D);exact⟨_,_,Q,aw,X,n,fin _ _ Q n T X x qm⟩
 obtain⟨Q,n⟩:=Me.1 (M_.2 (D.symm T X));exact⟨_,_,Q,aw,T,n,fin _ _ Q n X T y ad⟩
end
def aaZ{α:Type}{l:List α}{j k:Nat}(f:j<I l)(H:k<I l):(l.drop (j+1)++l.take (j+1))[k]?=l[(j+1+k)%I l]? :=by
 by_cases h:j+1<I l
 .exact Je h H
 have e:j+1=I l:=J;rw[e,Lx,jZ,fB,Nat.add_mod_left,eJ H]
section
variable {F:Nat} {L M:af} {P Q:aW} {r:Bool} {s t:Nat->Nat}
def cK.VR(i:cK F L M r s t){v:Nat}(H:v<I L){k:Nat}(h:k<=I L):s ((v+k)%I L)=if r=true then(s v+I L-k)%I L else(s v+k)%I L:=by have:=i.symm.Wg (v:=v) (by rw[i.len];exact H) k (by rw[i.len];exact h);rwa[i.len]at this
def cK.ael(i:cK F L M r s t)(hp:∀v,v<I L->(an M)[s v]?=((an L)[v]?).map λp=>cN h (if r=true then ia p else p)){e:Nat}(H:e<I L):(an M).drop (dw (I L) r s e+1)++(an M).take (dw (I L) r s e+1)=(if r=true then eY ((an L).drop (e+1)++(an L).take (e+1))else(an L).drop (e+1)++(an L).take (e+1)).map (cN h):=by
 have u:0<I L:=J;have A:=i.Bq H;have j:I ((an L).drop (e+1)++(an L).take (e+1))=I L:=by rw[<- (xO (an L) (e+1)).len,bY]
 have z:I ((an M).drop (dw (I L) r s e+1)++(an M).take (dw (I L) r s e+1))=I L:=by rw[<- (xO (an M) _).len,bY,i.len]
 apply pk;intro k;by_cases m:k<I L
 .rw[aaZ (by rw[bY,i.len];exact A) (by rw[bY,i.len];exact m),bY,i.len,fz];rcases i.ends H with⟨n,E,x⟩|⟨n,E,x⟩
  .have f:=i.VR H (k:=k+1) J;rw[E];simp only[n,fE,if_false]at f hp |-;rw[show s e+1+k=s e+(k+1) by omega,<-f,hp _ (cT _ u),aaZ (by rw[bY];exact H) (by rw[bY];exact m),bY,show e+1+k=e+(k+1) by omega]
  have y:nx L e<I L:=cT _ u;have f:=i.VR y (k:=I L-1-k) J;rw[E];simp only[n,if_true]at f hp |-;rw[show s (nx L e)+1+k=s (nx L e)+I L-(I L-1-k) by omega,<-f,hp _ (cT _ u),aaG (by rw[j];exact m),j,aaZ (by rw[bY];exact H) (by rw[bY];omega),bY,Option.map_map];have:(nx L e+(I L-1-k))%I L=(e+1+(I L-1-k))%I L:=by show((e+1)%I L+_)%I L=_;rw[tU]
  rw[this];rfl
 rw[lS J,lS (by
  rw[cg];cases r
  .rw[aC aa,j];omega
  rw[aD rfl,Gy,j];omega)]
def cK.dmE(i:cK F L M r s t){e:Nat}(H:e<I L)(b:Bool):lK (I L) r s (if b=true then 2*e+1 else 2*e)=if(b !=r)=true then 2*dw (I L) r s e+1 else 2*dw (I L) r s e:=by
 have f:=i.along H true;have E:dS (I L) e true=2*e:=rfl;rw[E]at f;have D:lK (I L) r s (2*e)%2=if r=true then 1 else 0:=by
  rw[f];cases r with
  |false=>show(2*s e)%2=0;omega
  |true=>show(2*((s e+I L-1)%I L)+1)%2=1;omega
 rcases i.Hd H with⟨k1,k2⟩|⟨k1,k2⟩
 .rw[k1]at D;have h:r=false:=by
   cases r
   .rfl
   rw[aD rfl]at D;omega
  rw[h]at k1 k2 |-;cases b
  .exact k1
  exact k2
 rw[k1]at D;have h:r:=by
  cases r
  .rw[aC aa]at D;omega
  rfl
 rw[h]at k1 k2 |-;cases b
 .exact k1
 exact k2
def cK.ajc(i:cK F L M r s t){d D:Nat}(f:d<aT L)(y:D<aT L)(e:ep L d=ep L D):ep M (lK (I L) r s d)=ep M (lK (I L) r s D):=by obtain⟨w,h,n⟩:=zo i.g f;obtain⟨x,Q,m⟩:=zo i.g y;rw[<-e,h]at Q;cases Q;obtain⟨v,u,hp⟩:=i.walk (a7 h);obtain⟨j,H⟩:=fK u;rw[BU i.g' H (hp.mem_iff.1 (ch.2 ⟨d,n,rfl⟩)),BU i.g' H (hp.mem_iff.1 (ch.2 ⟨D,m,rfl⟩))]
def ai9(g:bj F L):0<I (aA L):=by obtain⟨l,h,hp⟩:=g.first;exact Ns (sB.2 ⟨_,h,hp⟩)
def asF(g:bj F L){d b c:Nat}(n:d<2*I L)(D:b<=F)(Y:c<=aV L b){A:Bool}(h:ep L d=if A=true then fp L b c else fm L b c):dn L (d/2+1)=A:=by
 have Z:=ai9 g;have Uz:=cT (dr L b+c+I (aA L)-1) Z;have M:(b,c)∈(gJ F L d).places:=by
  obtain⟨w,H,N,hf⟩:=U5 (F:=F) g n;obtain⟨sP,R⟩:=aeR g D Y rfl;obtain⟨i,u⟩:=fK H;have O:=BU g u N;have E:2*I L+2*((dr L b+c+I (aA L)-1)%I (aA L))+(if A=true then 0 else 1)∈w:=by
   have e:ep L d=ep L (2*I L+2*((dr L b+c+I (aA L)-1)%I (aA L))+(if A=true then 0 else 1)):=by rw[h];cases A<;>rfl
   obtain⟨y,f,z⟩:=zo g (x:=2*I L+2*((dr L b+c+I (aA L)-1)%I (aA L))+(if A=true then 0 else 1)) (by unfold aT;split<;>omega);rw[<-e,O,u]at f;cases f
   exact z
  rw[hf];unfold kY;refine amw (x:=2*I L+2*((dr L b+c+I (aA L)-1)%I (aA L))+(if A=true then 0 else 1)) J ?_ w _ (.inr E);rw[show(2*I L+2*((dr L b+c+I (aA L)-1)%I (aA L))+(if A=true then 0 else 1)-2*I L)/2=(dr L b+c+I (aA L)-1)%I (aA L) by split<;>omega];exact R
 have j:=K0 g n M;have v:fp L b c≠fm L b c:=λe=>by
  have m:∀t,t<2->2*I L+2*((dr L b+c+I (aA L)-1)%I (aA L))+t<aT L:=λt ht=>by unfold aT;omega
  obtain⟨w,H,B⟩:=zo g (m 0 J);obtain⟨y,f,T⟩:=zo g (m 1 J);have X:ep L (2*I L+2*((dr L b+c+I (aA L)-1)%I (aA L))+0)=ep L (2*I L+2*((dr L b+c+I (aA L)-1)%I (aA L))+1):=e;rw[<-X,H]at f;cases f;refine adm g (m 0 J) (a7 H) B ?_;rw[show 2*I L+2*((dr L b+c+I (aA L)-1)%I (aA L))+0=2*(I L+(dr L b+c+I (aA L)-1)%I (aA L)) by omega,sf];rw[show 2*(I L+(dr L b+c+I (aA L)-1)%I (aA L))+1=2*I L+2*((dr L b+c+I (aA L)-1)%I (aA L))+1 by omega];exact T
 rw[h]at j;cases A<;>cases Q:dn L (d/2+1)<;>rw[Q]at j<;>first|rfl|exact absurd j v|exact absurd j.symm v
def ahN(g:bj F L){a b c:Nat}(z:a<I L)(H:b<=F)(v:c<=aV L b){f A:Bool}(h:ep L (if f=true then 2*a+1 else 2*a)=if A=true then fp L b c else fm L b c):ob F L a b c=some (dK (dO (an L) b c 2) [iS b (if(A !=f)=true then((c+2:Nat):Int)else((c+1:Nat):Int)) A,iS b (if(A !=f)=true then((c+1:Nat):Int)else((c+2:Nat):Int)) (!A)] a):=by
 have B:(if f=true then 2*a+1 else 2*a)/2=a:=by split<;>omega
 have m:=asF g (d:=if f=true then 2*a+1 else 2*a) (by split<;>omega) H v h;rw[B]at m;have j:(b,c)∈(gJ F L (if f=true then 2*a+1 else 2*a)).places:=akW g (by split<;>omega) H v (by rw[B,m];exact h);have n:=Ln (F:=F) g (d:=2*a) J;have u:=Ln (F:=F) g (d:=2*a+1) J;rw[show 2*a/2+1=a+1 by omega,m]at n;rw[show(2*a+1)/2+1=a+1 by omega,m]at u;unfold ob;cases f with
 |false=>have j:(b,c)∈(gJ F L (2*a)).places:=j;rw[aD j];unfold uT;rw[n]
 |true=>
  have j:(b,c)∈(gJ F L (2*a+1)).places:=j;have y:(b,c)∉(gJ F L (2*a)).places:=λx=>by have E:=K0 g (d:=2*a) J x;rw[show 2*a/2+1=a+1 by omega,m]at E;exact aam g z (E.trans h.symm)
  rw[aC y,aD j];unfold uT;rw[u]
end
end Go.Abs
