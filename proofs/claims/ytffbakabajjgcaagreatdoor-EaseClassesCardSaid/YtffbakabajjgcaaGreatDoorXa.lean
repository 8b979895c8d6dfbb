/-
  EaseClasses: for every code and every limit the call returns true and the arguments read as they did. It holds for every input that the row speaks of; the tables that the row lists hold what the text lays.
-/
import Derived.Test.YtffbakabajjgcaaGreatDoorRh
import Derived.Test.YtffbakabajjgcaaGreatDoorOa
import Derived.Test.YtffbakabajjgcaaGreatDoorTie
import Derived.Deep.DeepHandedRow
import Derived.Deep.DeepLaidRun
import Derived.Stop.LaidErr
import Derived.Test.YtffbakabajjgcaaGreatDoorSb
import Derived.Test.YtffbakabajjgcaaGreatDoorTa
import Derived.Test.YtffbakabajjgcaaGreatDoorFa
import Derived.Test.YtffbakabajjgcaaGreatDoorGa
set_option linter.all false
set_option maxRecDepth 100000
set_option maxHeartbeats 16000000
namespace Go.Abs
section
variable{F limit:Nat}
section
variable {Q:dy} {ak:Env} {aj:aw} {os:List bI} {d:Option Nat}
end
abbrev clR(F:Nat)(l:List (List Let))(wh:Bool):RV:=.tup [.one (aO xG 2 (qO F l)),.one (.p (.bool wh)),.one (.p (.int .i64 0))]
theorem am7{l:List (List Let)}{wh:Bool}{aj:aw}{s:Nat}(h:l≠[])(eJ:S.lone s=true):land aj [] s ((clR F l wh).eD (S.lone s))=some (.tup [.one (.p (.sl (qO F l))),.one (.p (.bool wh)),.one (.p (.int .i64 0))],[]):=by
 have aI:qO F l≠[]:=by simpa [qO] using h
 rw[eJ];unfold clR;rw[xQ aI];rfl
theorem ail{f:Int}{A:List Let}(ck:di f A=0):∃F:Nat,f=(F:Int):=by
 by_cases aI:A=[]
 .subst aI;unfold di at ck;rw[ay ae] at ck;by_cases hf:f<0\/40<f
  .rw[aD hf] at ck;cases ck
  exact uu (show 0<=f by omega)
 obtain⟨F,e,_⟩:=xM ck aI;exact⟨F,e⟩
theorem Zs(f:Int)(A B:List Let)(hA:A.length<=1000000)(hB:B.length<=1000000):aF S 9 [cZ f A,cZ f B] (rb (decide (A=B))):=by
 by_cases hl:A.length=B.length
 .have e1:((A.length:Int)!=(B.length:Int))=false:=by rw[hl];simp
  refine aV c9 ?_;simp only[go_sem,i9,e1];refine cJ (fun k ak aj=>ak 2=.one (.aX 576000000 1 0)/\ak 3=.one (.aX 576000064 1 0)/\ak 5=vi k/\aj 576000000=(1,some (.var (mh f A)))/\aj 576000064=(1,some (.var (mh f B)))/\A.take k=B.take k) 0 A.length (bj _) ?_ ?_
  .simp only[go_sem];first|done|rfl
  rintro k ak aj hk ⟨h2,h3,h5,b0,b1,ht⟩
  by_cases aq:k<A.length
  .have aL:((k:Int)<(A.length:Int)):=aa;have T9:k<B.length:=aa;have w1:=bN (n:=k) aa;obtain⟨x,hx⟩:=aM aq;obtain⟨y,hy⟩:=aM T9;have iC:=fv hx;have hyp:=fv hy;have es:=IK x y;cases he:leq x y with
   |true=>
    rw[he] at es;have qx:=(anu x y).1 he;have zQ:A.take (k+1)=B.take (k+1):=by rw[iu,iu,ht,hx,hy,qx]
    simp only[go_sem,i9_l1,h2,h3,h5,b0,b1,aq,aL,iC,hyp,Let.ps,w1,es];first|done|exact aK|exact⟨aK,rfl⟩|exact⟨aK,zQ⟩|exact⟨aK,rfl,zQ⟩|exact⟨zQ,aK⟩|trace_state
   |false=>
    rw[he] at es;have aI:decide (A=B)=false:=vW fun e=>by subst e;rw[hx] at hy;cases hy;rw[zV] at he;cases he
    rw[aI];simp only[go_sem,i9_l1,h2,h3,h5,b0,b1,aL,iC,hyp,Let.ps,es];first|done|exact aK|exact⟨aK,rfl⟩|trace_state
  have:k=A.length:=aa;subst this;have he:decide (A=B)=true:=DK (by rw[dD (bJ _),dD aa] at ht;exact ht);rw[he];simp only[go_sem,i9_l1,i9_r2,h2,h5,b0,dG];first|done|rfl
 have e1:((A.length:Int)!=(B.length:Int))=true:=by simp;omega
 have aI:decide (A=B)=false:=vW fun e=>hl (by rw[e]);rw[aI];refine aV c9 ?_;simp only[go_sem,i9,e1];first|done|rfl
section
variable {F:Nat} {L:List Let}
theorem UR{aj:aw}{s:Nat}{m:aU}{r:List aU}(lo:S.lone s=true):land aj [] s ((RV.one (aO qC 7 (mP (m::r)))).eD (S.lone s))=some (.one (.p (.sl (m.ps::mP r))),[]):=Fb lo
theorem US{aj:aw}{s:Nat}(lo:S.lone s=true):land aj [] s ((RV.one (aO qC 7 (mP []))).eD (S.lone s))=some (.one (.p .nils),[]):=Fb lo
theorem aql{l1 l4 l6:List aU}(p1:aF S 83 [cZ F L,vi 1] (.one (aO qC 7 (mP l1))))(p4:aF S 83 [cZ F L,vi 4] (.one (aO qC 7 (mP l4))))(p6:aF S 83 [cZ F L,vi 6] (.one (aO qC 7 (mP l6)))):aF S 52 [cZ F L] (hdV (l1++l4++l6)):=by
 have lo:S.lone 3328320320=true:=ah;have z0:((0:Int)<((0:Nat):Int))=False:=af;have w1:IntKind.i64.wrap 1=1:=ae;have w2:IntKind.i64.wrap 2=2:=ae;have w3:IntKind.i64.wrap 3=3:=ae;have l1':(1:Int)<3:=ae;have l2':(2:Int)<3:=ae;have l3':¬(3:Int)<3:=ae;refine aV c52 ?_;simp only[go_sem,i52];refine kG ?_;cases l1 with
 |cons m r=>have zp:(0:Int)<((r.length+1:Nat):Int):=aa;simp only[go_sem,i52_l1,s83,mH p1 (UR lo),Nat.zero_lt_succ,zp,aU.ps];first|done|exact aK|exact⟨aK,rfl⟩|trace_state
 |nil=>
  simp only[go_sem,i52_l1,s83,mH p1 (US lo),z0,w1];refine⟨aK,?_⟩;refine kG ?_;cases l4 with
  |cons m r=>have zp:(0:Int)<((r.length+1:Nat):Int):=aa;simp only[go_sem,s83,mH p4 (UR lo),zp,l1',aU.ps];first|done|exact aK|exact⟨aK,rfl⟩|trace_state
  |nil=>
   simp only[go_sem,s83,mH p4 (US lo),z0,w2,l1'];refine⟨aK,?_⟩;refine kG ?_;cases l6 with
   |cons m r=>have zp:(0:Int)<((r.length+1:Nat):Int):=aa;simp only[go_sem,s83,mH p6 (UR lo),zp,l2',aU.ps];first|done|exact aK|exact⟨aK,rfl⟩|trace_state
   |nil=>simp only[go_sem,s83,mH p6 (US lo),z0,w3,l2'];refine⟨aK,?_⟩;refine kG ?_;simp only[go_sem,i52_r2,l3'];first|done|rfl|trace_state
theorem alb(l:List aU):∃m b,hdV l=Hu m b:=by
 cases l with
 |nil=>exact⟨_,_,rfl⟩
 |cons m r=>exact⟨_,_,rfl⟩
theorem Dd(h:di (F:Int) L=0):L=[]\/bQ F L:=by
 by_cases aI:L=[]
 .exact .inl aI
 obtain⟨G,e,g⟩:=xM h aI;have:F=G:=aa;subst this;exact .inr g
theorem aqk(h:di (F:Int) L=0):∃m b,aF S 52 [cZ F L] (Hu m b):=by obtain⟨l1,p1⟩:=Vo (Dd h) (.inl rfl);obtain⟨l4,p4⟩:=Vo (Dd h) (.inr (.inl rfl));obtain⟨l6,p6⟩:=Vo (Dd h) (.inr (.inr rfl));obtain⟨m,b,e⟩:=alb (l1++l4++l6);have:=aql p1 p4 p6;rw[e] at this;exact⟨m,b,this⟩
theorem anV(h:di (F:Int) L=0):(jw F L).length<=8000/\(jw F L).Pairwise uP/\ ∀m,m∈jw F L↔m.k∈zX/\ ∃X,jA F L m=some X:=by
 obtain⟨⟨h8,au⟩,ps⟩:=U3 h;refine⟨h8,?_⟩;rcases Dd h with rfl|g
 .have alN:jw F []=[]:=atO.2 fun m hx=>by
   obtain⟨_,⟨a,ha,_⟩,_⟩:=au m hx;simp at ha
  rw[alN];refine⟨List.Pairwise.nil,fun m=>⟨fun h=>(by cases h),fun⟨hk,X,hX⟩=>?_⟩⟩;obtain⟨a,b,c,ha,_⟩:=Qe (.inl rfl) (by simpa using hk) hX;simp at ha
 obtain⟨ms,⟨_,_,_,kL⟩,ps2⟩:=Xi g zX ae Nb;have e:mP ms=mP (jw F L):=by
  have:=ps2.xK ps;injection this with this;injection this with this;injection this with this;unfold aO at this;split at this<;>split at this
  .rename_i h1 h2;rw[h1,h2]
  .cases this
  .cases this
  injection this
 have e2:ms=jw F L:=acF e;rw[<- e2] at ps ⊢;refine⟨kL,fun m=>⟨fun hm=>?_,fun⟨hk,X,hX⟩=>agu g ae Nb ps hk hX⟩⟩;rw[e2] at hm;obtain⟨h1,_,X,h2,_⟩:=adv h Nb (au m hm);exact⟨h1,X,h2⟩
theorem anJ{l3 l8:List aU}(h3:l3.length<=100000000)(h8:(l3++l8).length<=100000000)(p3:aF S 83 [cZ F L,vi 3] (.one (aO qC 7 (mP l3))))(p8:aF S 83 [cZ F L,vi 8] (.one (aO qC 7 (mP l8)))):aF S 49 [cZ F L] (.one (aO qC 7 (mP (l3++l8)))):=by
 have iD:S.lone 3136064064=true:=ah;have kN:S.lone 3136064256=true:=ah;have de:∀(l:List aU) (b:aw),ed b (.one (.p (nE (mP l))))=some (mP l,[],[]):=fun l b=>by
  unfold nE;split
  .rename_i h;rw[h];rfl
  rfl
 rw[eG] at h8;refine aV c49 ?_;simp only[go_sem,i49,s83,mH p3 (Fb iD)];refine mZ (bytes:=48) (id:=3136064128) (site:=3136064128) (es:=[]) (xs:=mP l3) (rd:=[]) grown.nil (de _ _) (.inr (szM _)) (by simp only[mN,eE];omega) fun c1 cn r1 w1 g1 cq ig=>?_;rw[nH] at g1;have q1:=cq 3136000000 ae ae;simp only[go_sem] at q1;simp only[go_sem,q1,s83,mH p8 (Fb kN)];refine mZ (bytes:=48) (id:=3136064128) (site:=3136064320) (es:=mP l3) (xs:=mP l8) (rd:=[]) g1 (de _ _) (.inr (szM _)) (by simp only[mN];omega) fun c2 ba r2 w2 g2 aT r9=>?_;simp only[go_sem];rw[show mP l3++mP l8=mP (l3++l8) by simp[mP]] at g2;refine⟨?_,?_⟩
 .rcases ig with ⟨rfl,rfl⟩|⟨rfl,rfl⟩|⟨rfl,rfl⟩<;>rcases r9 with ⟨rfl,rfl⟩|⟨rfl,rfl⟩|⟨rfl,rfl⟩<;>exact aK
 first|exact xR g2|trace_state
theorem anK(h:di (F:Int) L=0):aF S 49 [cZ F L] (.one (aO qC 7 (mP (jw F L)))):=by
 obtain⟨l3,p3,w3,m3⟩:=adq (Dd h) (.inl rfl);obtain⟨l8,p8,w8,m8⟩:=adq (Dd h) (.inr rfl);obtain⟨hlen,kL,qn⟩:=anV h;have e:l3++l8=jw F L:=by
  refine ajB (fun _ _=>anU) ?_ kL fun m=>?_
  .refine R5.2 ⟨w3,w8,fun x hx y hy=>.inl ?_⟩;rw[((m3 x).1 hx).1,((m8 y).1 hy).1];decide
  rw[dZ,m3,m8,qn];simp only[cI,iM,or_false];constructor
  .rintro (⟨h1,h2⟩|⟨h1,h2⟩)
   .exact⟨.inl h1,h2⟩
   exact⟨.inr h1,h2⟩
  rintro ⟨h1|h1,h2⟩
  .exact .inl ⟨h1,h2⟩
  exact .inr ⟨h1,h2⟩
 rw[<- e] at hlen ⊢;exact anJ (by rw[eG] at hlen;omega) aa p3 p8
end
abbrev zY:Nat:=75
theorem Qp{l:List bR}{k:Nat}{m:bR}(h:l[k]?=some m):(fJ F l)[k]?=some (m.ps F):=by rw[fT,h];rfl
theorem agY(F:Nat)(st:List bR)(A:List Let)(hl:st.length<=1000000)(hL:∀m∈st,m.n.length<=1000000)(hA:A.length<=1000000):aF S 51 [.one (.p (.sl (fJ F st))),cZ F A] (rb (decide (A∈st.map bR.n))):=by
 have cP:=Fi F st;refine aV c51 ?_;simp only[go_sem,i51];refine cJ (fun k ak aj=>ak 0=.one (.p (.sl (fJ F st)))/\ak 3=.one (.aX 3264000000 1 0)/\ak 5=vi k/\aj 3264000000=(1,some (.var (mh F A)))/\A∉(st.map bR.n).take k) 0 st.length (bj _) ?_ ?_
 .simp only[go_sem];first|done|rfl|exact⟨rfl,af⟩|simp
 rintro k ak aj hk ⟨h0,h3,h5,b0,ht⟩
 by_cases aq:k<st.length
 .have aL:((k:Int)<(st.length:Int)):=aa;have w1:=bN (n:=k) aa;obtain⟨x,hx⟩:=aM aq;have iC:=Qp (F:=F) hx;have uO:(st.map bR.n)[k]?=some x.n:=by rw[fT,hx];rfl
  have tq:(cQ x.n).norm=.sl (aZ x.n):=rfl;have pe:=Zs (F:Int) x.n A (hL x (aW hx)) hA;have pe':aF S 9 [.agg [.p (.int .i64 F),.p (.sl (aZ x.n))],cZ F A] (rb (decide (x.n=A))):=pe;clear pe;by_cases he:x.n=A
  .rw[DK he] at pe';have hm:decide (A∈st.map bR.n)=true:=DK (he▸aW uO);rw[hm];simp only[go_sem,i51_l1,h0,h3,h5,b0,cP,aL,iC,bR.ps,tq,s9,kW pe'];first|done|exact aK|exact⟨aK,rfl⟩|rfl|trace_state
  rw[vW he] at pe';have zQ:A∉(st.map bR.n).take (k+1):=by
   rw[iu,uO,dZ];rintro (h|h)
   .exact ht h
   simp at h;exact he h.symm
  simp only[go_sem,i51_l1,h0,h3,h5,b0,cP,aq,aL,iC,bR.ps,tq,w1,s9,kW pe'];first|done|exact zQ|exact⟨aK,zQ⟩|exact⟨aq,zQ⟩|exact⟨aK,aq,zQ⟩|trace_state
 have:k=st.length:=aa;subst this;have hm:decide (A∈st.map bR.n)=false:=vW (by rw[dD (by rw[cH];exact bJ _)] at ht;exact ht);rw[hm];simp only[go_sem,i51_l1,i51_r2,h0,h5,cP,dG];first|done|rfl
theorem ajo{aj:aw}{s g ty sd td zd:Nat}{x0 x1 x2 x3:PV}{cd:C}{D:List (List PV)}(hb:aj s=(g,some (.gU ty 5 [[.p x0,.p x1,.p x2,.p x3,cd]])))(gd:grown sd td zd D (.one cd) aj):
  ∃fr,ed aj (.one (.hsl s g 5 0 1))=some ([[x0.norm,x1.norm,x2.norm,x3.norm,.sl D]],[s],fr)/\qK aj fr/\(fr=[]\/fr=[sd]):=by
 obtain⟨r1,n1,a1,q1⟩:=gd.NM;refine⟨r1,?_,a1,q1⟩;simp only[ed,hb];simp[collect,n1,NO]
def UI(s:Nat):Prop:=s=1536064256\/s=1536897088
theorem UI.ne{s:Nat}(h:UI s):¬s=1536000000/\ ¬s=1536576576/\ ¬s=1536576640/\ ¬s=1536640064/\ ¬s=1536640128/\ ¬s=1536896512/\ ¬s=1536896832/\ ¬s=1536896896/\ ¬s=1536897024/\ ¬s=1536960320:=by rcases h with rfl|rfl<;>decide
structure SrI (F limit:Nat) (L0:List Let) (st:List bR) (i s g:Nat) (ak:Env) (aj:aw):Prop where
 e1:ak 1=vi limit
 e2:ak 2=vb false
 iA:ak 10=vi i
 e9:ak 9=.one (.hsl s g 5 0 st.length)
 bs:aj s=(g,some (.arr zY 5 (fJ F st)))
 hs:UI s
 ne:st≠[]
 lim:st.length<=limit
 alls:∀m∈st,tG F L0 st.length m
structure SrE (F:Nat) (st:List bR) (ak:Env) (aj:aw):Prop where
 e7:ak 7=vb false
 e8:ak 8=vb false
 ne:st≠[]
 e6:∃s g,ak 6=.one (.hsl s g 5 0 st.length)/\aj s=(g,some (.arr zY 5 (fJ F st)))
theorem M4{aj:aw}{s:Nat}{x y:PV}{l:Bool}:land aj [] s ((RV.agg [.p x,.p y]).eD l)=some (.agg [.p x,.p y],[]):=by cases l<;>rfl
theorem am4{aj:aw}{s ty z:Nat}{x:PV}{es:List (List PV)}(h:es≠[])(lo:S.lone s=true):land aj [] s ((RV.agg [.p x,aO ty z es]).eD (S.lone s))=some (.agg [.p x,.p (.sl es)],[]):=by rw[lo];unfold aO;rw[ay h];rfl
theorem atW{a b c e:PV}{id g z o l:Nat}:Am [[.p a,.p b,.p c,.p e,.hsl id g z o l]]=none:=rfl
theorem Ny{es:List (List PV)}(h:es≠[]):nE es=.sl es:=ay h
theorem XO{a b:ByteArray}:(a==b)=true↔a=b:=by obtain⟨x⟩:=a;obtain⟨y⟩:=b;show(x==y)=true↔_;rw[dL,ByteArray.mk.injEq]
theorem amX{L0:List Let}{n:Nat}{st:List bR}{A:List Let}(hA:di (F:Int) A=0)(cV:∀m∈st,tG F L0 n m):((st.map (bR.key F)).any fun s=>sF F A==s)=decide (A∈st.map bR.n):=by
 rw[BB,FO,kV];constructor
 .rintro ⟨x,hx,h⟩
  obtain⟨m,hm,rfl⟩:=dI.1 hx;have g:=cV m hm;have e:sF (F:Int) A=sF (F:Int) m.n:=XO.1 h;rw[ap5 hA (by rw[g.Fk];exact Fl g.chk) e];exact dI.2 ⟨m,hm,rfl⟩
 intro h;obtain⟨m,hm,rfl⟩:=dI.1 h;exact⟨_,dI.2 ⟨m,hm,rfl⟩,XO.2 rfl⟩
theorem asi{F limit:Nat}{L0:List Let}{st:List bR}{a:bR}{ms:List aU}{i j s g:Nat}{m:aU}{ak:Env}{aj:aw}{Q:dy}(gE:1<=limit)(rj:limit<=20000)(A0:st[i]?=some a)(hj:ms[j]?=some m)(lT:ms.length<=8000)(CI:tz F a.c zX m)
  (hI:SrI F limit L0 st i s g ak aj) (mJ:ak 11=.one (.p (.sl (mP ms)))) (qR:ak 12=vi j)
  (hN:∀ib s' g' (aA:Env) (ao:aw),me false F limit a st m=(0,ib)->SrI F limit L0 ib i s' g' aA ao->ib[i]?=some a->aA 11=.one (.p (.sl (mP ms)))->aA 12=vi ((j+1:Nat):Int)->Q .normal aA ao)
  (hX:∀(aA:Env) (ao:aw),(me false F limit a st m).1≠0->SrE F (me false F limit a st m).2 aA ao->Q .ret aA ao):W S .all i24_l1 Q ak aj:=by
 obtain⟨e1,e2,iA,e9,bs,hs,ne,lim,alls⟩:=hI;have ha:=alls a (aW A0);have mr:=hs.ne;have iD:S.lone 1536576576=true:=ah;have aq:=(bg.1 hj).1;have aL:((j:Int)<(ms.length:Int)):=aa;have r6:=(bg.1 A0).1;have j6:=JN hj;have hae:=Qp (F:=F) A0;have gj:(fJ F st).length=st.length:=Fi F st;have w1:=bN (n:=j) aa;have Ue:(mP ms).length=ms.length:=mN ms;obtain⟨M,nN,_,uH,I5,TK,zO⟩:=acE ha CI;have tj:=DW uH;have iW:=ha.len;obtain⟨_,hga,_⟩:=adv ha.chk Nb CI;have Ms:m.k=3\/m.k=8:=by simpa using CI.1
 have hnA:(cQ a.c).norm=.sl (aZ a.c):=rfl;have hnM:nE (aZ M)=.sl (aZ M):=Ny (by simpa using I5);have pap:=ag4 hga Ms nN;have aoV:aF S 50 [.agg [.p (.int .i64 F),.p (.sl (aZ a.c))],.agg [.p (.int .i64 m.k),.p (.int .i64 m.a),.p (.int .i64 m.b),.p (.int .i64 m.c),.p (.bool m.l),.p (.bool m.o),.p (.int .i64 m.s)]] (.agg [.p (.int .i64 F),aO gH 6 (aZ M)]):=pap;have hgM:bQ F M:=(Dd uH).resolve_left I5;have pn:=Vh (F:=F) (ls:=M) aa;rw[Tc hgM] at pn;have akY:dK M≠[]:=fun e=>by have:=OT ((F5 hgM.even).2 hgM.Fk.2.1);rw[e] at this;exact I5 (DG.1 this.symm)
 have pn':aF S 25 [.agg [.p (.int .i64 F),.p (.sl (aZ M))]] (.agg [.p (.int .i64 F),.p (nE (aZ (dK M)))]):=pn;rw[Ny (by simpa using akY)] at pn';have pam:=agY F st (dK M) aa (fun x hx=>by have:=DW (alls x hx).chk;have:=Qt x.c;rw[(alls x hx).Fk];omega) (by have:=Qt M;omega);have Nt:aF S 51 [.one (.p (.sl (fJ F st))),.agg [.p (.int .i64 F),.p (.sl (aZ (dK M)))]] (rb (decide (dK M∈st.map bR.n))):=pam;obtain⟨rm,rbb,prd⟩:=aqk uH;have apZ:aF S 52 [.agg [.p (.int .i64 F),.p (.sl (aZ M))]] (Hu rm rbb):=prd;clear pap pn pam prd;have qh:me false F limit a st m=if decide (dK M∈st.map bR.n)=true then (0,st) else if st.length=limit then (1,st) else (0,st++[⟨M,dK M,a.w++[m]⟩]):=by
  unfold me;rw[nN];rw[show(some M).getD []=M from rfl,amX (Fl uH) alls];simp only[Oa,dQ,if_false]
 have eY:(fJ F st).take st.length=fJ F st:=dD (by rw[gj];exact bJ _);have nk:decide ((st.length:Int)≥(limit:Int))=decide (st.length=limit):=decide_eq_decide.2 aa;simp only[go_sem,i24_l1,e9,iA,mJ,qR,bs,aL,r6,hae,j6,Ue,bR.ps,aU.ps,hnA,s50,mH aoV (am4 (by simpa using I5) iD)];refine⟨by rcases hs with rfl|rfl<;>exact aK,?_⟩;cases iT:decide (dK M∈st.map bR.n) with
 |true=>rw[iT] at Nt qh;rw[aD rfl] at qh;simp only[go_sem,e9,qR,bs,mr,s25,cU pn' M4,s51,eY,bh Nt,PV.norm,w1];refine hN st s g _ _ qh ⟨?_,?_,?_,?_,?_,hs,ne,lim,alls⟩ A0 ?_ ?_;all_goals(simp only[go_sem,e1,e2,e9,iA,mJ,qR,bs,mr];first|done|rfl|trace_state)
 |false=>
  rw[iT] at Nt qh;rw[ay ae] at qh;cases hL:decide (st.length=limit) with
  |true=>rw[aD (l7 hL)] at qh;rw[hL] at nk;simp only[go_sem,e1,e9,bs,mr,s25,cU pn' M4,s51,eY,bh Nt,PV.norm,nk];have L8:=hX;rw[qh] at L8;refine L8 _ _ (by show(1:Nat)≠0;decide) ⟨?_,?_,ne,s,g,?_,?_⟩;all_goals(simp only[go_sem,bs,mr];first|done|rfl|trace_state)
  |false=>
   rw[ay (fA hL)] at qh;rw[hL] at nk;simp only[go_sem,e1,e9,iA,bs,mr,r6,gj,hae,bR.ps,s25,cU pn' M4,s51,eY,bh Nt,PV.norm,nk];refine mZ (bytes:=48) (id:=1536896512) (site:=1536896512) (es:=[]) (xs:=mP a.w) (rd:=[]) grown.nil rfl (.inr (szM _)) (by simp only[mN,eE];omega) fun c1 cn r1 v1 g1 cq ig=>?_;rw[nH] at g1;have q0:=cq s mr.2.2.2.2.2.1 mr.2.2.2.2.2.1;have q1:=cq 1536576640 ae ae;simp only[go_sem,bs,mr] at q0 q1;clear cq;simp only[go_sem,mJ,qR,j6,aU.ps];refine mZ (bytes:=48) (id:=1536896512) (site:=1536896896) (es:=mP a.w) (xs:=[m.ps]) (rd:=[1536896832]) (g1.of_eq (aR ae)) (by simp only[ed,aN,if_true];rfl) (.inl rfl) (by simp only[mN,cS,eE];omega) fun c2 ba r2 v2 g2 aT r9=>?_
   rw[show mP a.w++[m.ps]=mP (a.w++[m]) by simp[mP]] at g2;have p0:=aT s mr.2.2.2.2.2.2.2.1 mr.2.2.2.2.2.1;have p1:=aT 1536576640 ae ae;simp only[go_sem,q0,q1,mr] at p0 p1;clear aT;rcases g2 with ⟨e,_⟩|⟨_,gw,e,hbw⟩
   .exact absurd e (by simp[mP])
   cases e;simp only[go_sem];have gw2:grown 1536896896 qC 7 (mP (a.w++[m])) (.one (.hsl 1536896896 gw 7 0 (a.w++[m]).length)) ba:=.inr ⟨by simp[mP],gw,by rw[mN],hbw⟩;obtain⟨fr,hx,vr,yh⟩:=ajo (aj:=dj ba 1536897024 ((ba 1536897024).1+1,some (.gU zY 5 [[.p (.int .i64 F),.p (.sl (aZ M)),.p (.int .i64 F),.p (.sl (aZ (dK M))),.hsl 1536896896 gw 7 0 (a.w++[m]).length]]))) (s:=1536897024) rL (gw2.of_eq (aR ae));have nf:∀i,i≠1536896896->i∉fr:=fun i a h=>by
    rcases yh with rfl|rfl
    .cases h
    exact a (lK.1 h)
   have gs:grown s zY 5 (fJ F st) (.one (.hsl s g 5 0 (fJ F st).length)) ba:=.inr ⟨by simpa using ne,g,rfl,p0⟩;rw[gj] at gs;refine YN (bytes:=88) (site:=1536897088) (id:=s) (gs.of_eq (aR mr.2.2.2.2.2.2.2.2.1)) hx vr (nf _ mr.2.2.2.2.2.2.2.1) (nf _ ae) (.inl rfl) (by simp only[gj,cS,eE];omega) fun c3 fN r3 v3 g3 ef MK=>?_;have k1:=ef 1536576640 ae (fun e=>mr.2.2.1 e.symm) (nf _ ae);simp only[go_sem,p1] at k1;clear ef;rcases g3 with ⟨e,_⟩|⟨_,gn,e,hbn⟩
   .exact absurd e af
   cases e;simp only[go_sem,k1,s52,cU apZ anb,PV.norm];refine⟨?_,?_⟩
   .rcases hs with rfl|rfl<;>rcases yh with rfl|rfl<;>rcases ig with ⟨rfl,rfl⟩|⟨rfl,rfl⟩|⟨rfl,rfl⟩<;>rcases r9 with ⟨rfl,rfl⟩|⟨rfl,rfl⟩|⟨rfl,rfl⟩<;>rcases MK with ⟨rfl,rfl⟩|⟨rfl,rfl⟩|⟨rfl,rfl⟩<;>exact aK
   have wJ:∀x∈st++[(⟨M,dK M,a.w++[m]⟩:bR)],tG F L0 (st++[(⟨M,dK M,a.w++[m]⟩:bR)]).length x:=fun x hx=>by
    rcases dZ.1 hx with hx|hx
    .exact(alls x hx).mono af
    rw[lK.1 hx];refine⟨uH,rfl,zO,fun y hy=>?_,by simp;omega,by rw[TK,ha.same]⟩;rcases dZ.1 hy with hy|hy
    .exact ha.kind y hy
    rw[lK.1 hy];exact CI.1
   have jU:(st++[(⟨M,dK M,a.w++[m]⟩:bR)])[i]?=some a:=by rw[vR r6];exact A0
   have ak7:fN 1536897088=(gn,some (.arr zY 5 (fJ F (st++[⟨M,dK M,a.w++[m]⟩])))):=by rw[hbn];unfold fJ;rw[rQ];rfl
   cases rbb;all_goals
    simp only[go_sem,e2,qR,w1];refine hN _ 1536897088 gn _ _ qh ⟨?_,?_,?_,?_,?_,.inr rfl,af,by rw[eG];simp only[cS,eE];have:=fA hL;omega,wJ⟩ jU ?_ ?_;all_goals(simp only[go_sem,e1,e2,e9,iA,mJ,qR];first|done|rfl|exact ak7|(rw[eG,eG,gj];rfl)|trace_state)
theorem agN{sb:Bool}{a:bR}{st:List bR}{m:aU}:st.length<=(me sb F limit a st m).2.length:=by
 unfold me;split
 .exact bJ _
 split
 .exact bJ _
 simp
theorem ash{F limit:Nat}{L0:List Let}{lD:List bR}{a:bR}{i s g:Nat}{ak:Env}{aj:aw}{Q:dy}(gE:1<=limit)(rj:limit<=20000)(A0:lD[i]?=some a)
  (hI:SrI F limit L0 lD i s g ak aj) (mJ:ak 11=.one (.p (nE (mP (jw F a.c))))) (qR:ak 12=vi 0)
  (hN:∀ib s' g' (aA:Env) (ao:aw),jz false F limit a lD (jw F a.c)=(0,ib)->SrI F limit L0 ib i s' g' aA ao->lD.length<=ib.length->Q .normal aA ao)
  (hX:∀(aA:Env) (ao:aw),(jz false F limit a lD (jw F a.c)).1≠0->SrE F (jz false F limit a lD (jw F a.c)).2 aA ao->Q .ret aA ao):W S .all (.loop i24_l1) (lN 2 Q) ak aj:=by
 obtain⟨⟨h8,au⟩,_⟩:=U3 (hI.alls a (aW A0)).chk;generalize jw F a.c=ms at*;refine cJ (fun j ak aj=>∃st s g,SrI F limit L0 st i s g ak aj/\ak 11=.one (.p (nE (mP ms)))/\ak 12=vi j/\jz false F limit a st (ms.drop j)=jz false F limit a lD ms/\st[i]?=some a/\lD.length<=st.length) 0 ms.length (bj _) ⟨lD,s,g,hI,mJ,qR,rfl,A0,bJ _⟩ ?_;rintro j ak aj hj ⟨st,s,g,hI,mJ,qR,hA,A0,hle⟩
 by_cases aq:j<ms.length
 .obtain⟨m,hm⟩:=aM aq;have hd:ms.drop j=m::ms.drop (j+1):=by
   obtain⟨h1,h2⟩:=bg.1 hm;rw[WL h1,h2]
  have aI:mP ms≠[]:=fun e=>by
   have:(mP ms).length=0:=by rw[e];rfl
   rw[mN] at this;omega
  have Zi:=mJ;rw[Ny aI] at Zi;rw[hd,Sl] at hA;refine asi gE rj A0 hm h8 (au m (aW hm)) hI Zi qR (fun ib s' g' aA ao h1 h2 h3 h4 h5=>?_) fun aA ao h1 h2=>?_
  .have hl:=agN (sb:=false) (F:=F) (limit:=limit) (a:=a) (st:=st) (m:=m);rw[h1] at hA hl;rw[aD rfl] at hA;exact⟨aq,ib,s',g',h2,by rw[h4,Ny aI],h5,hA,h3,mD hle hl⟩
  rw[ay h1] at hA;rw[hA] at h1 h2;exact hX aA ao h1 h2
 have GG:j=ms.length:=aa;subst GG;rw[RP] at hA;have hA:(0,st)=jz false F limit a lD ms:=hA;obtain⟨e1,e2,iA,e9,bs,hs,ne,lim,alls⟩:=hI;have lT:(mP ms).length=ms.length:=mN ms;by_cases r8:mP ms=[]
 .have nv:ms.length=0:=by rw[<- lT,r8];rfl
  have mJ:ak 11=.one (.p .nils):=by rw[mJ];unfold nE;rw[aD r8]
  rw[nv] at qR;have z0:decide (((0:Nat):Int)<((0:Nat):Int))=false:=ae;simp only[go_sem,i24_l1,mJ,qR,z0];refine hN st s g _ _ hA.symm ⟨?_,?_,?_,?_,bs,hs,ne,lim,alls⟩ hle;all_goals(simp only[go_sem,e1,e2,e9,iA];first|done|rfl)
 rw[Ny r8] at mJ;simp only[go_sem,i24_l1,mJ,qR,lT,dG];refine hN st s g _ _ hA.symm ⟨?_,?_,?_,?_,bs,hs,ne,lim,alls⟩ hle;all_goals(simp only[go_sem,e1,e2,e9,iA];first|done|rfl)
abbrev srV(F:Nat)(r:Nat×List bR):RV:=.tup [.one (aO zY 5 (fJ F r.2)),.one (.p (.bool (r.1==0))),.one (.p (.bool false))]
theorem adD{st:List bR}{s g:Nat}{x y:PV}{aj:aw}(ne:st≠[])(h:aj s=(g,some (.arr zY 5 (fJ F st)))):gh aj (.tup [.one (.hsl s g 5 0 st.length),.one (.p x),.one (.p y)])=some (.tup [.one (aO zY 5 (fJ F st)),.one (.p x),.one (.p y)]):=by have gs:grown s zY 5 (fJ F st) (.one (.hsl s g 5 0 (fJ F st).length)) aj:=.inr ⟨by simpa using ne,g,rfl,h⟩;rw[Fi] at gs;exact adC gs
theorem aq1{L0:List Let}(gE:1<=limit)(rj:limit<=20000)(h0:di (F:Int) L0=0):aF S 24 [cZ F L0,vi limit,vb false] (srV F (mX false F limit L0)):=by
 have tj:=DW h0;have pn:=Vh (F:=F) (ls:=L0) aa;have dV:wy L0=dK L0:=by
  rcases Dd h0 with rfl|g
  .rfl
  exact Tc g
 rw[dV] at pn;have GB:tG F L0 1 ⟨L0,dK L0,[]⟩:=⟨h0,rfl,rfl,(fun x hx=>by cases hx),af,rfl⟩;refine aV c24 ?_;simp only[go_sem,i24,s25,mH pn M4];refine⟨aK,?_⟩;refine cJ (fun k ak b=>∃st s g,SrI F limit L0 st k s g ak b/\k<=st.length/\BR false F limit (limit+1-k) k st=mX false F limit L0) 0 limit (bj _) ?_ ?_
 .refine⟨[⟨L0,dK L0,[]⟩],1536064256,1,⟨?_,?_,?_,?_,?_,.inl rfl,af,gE,fun m hm=>?_⟩,bj _,rfl⟩;all_goals first
   |(rw[lK.1 hm];exact GB)
   |(simp only[go_sem];first|done|rfl|(rw[Fv];rfl)|trace_state)
 rintro k ak b hk ⟨st,s,g,hI,Jj,hB⟩
 have alx:=hI.lim;have hf:limit+1-k=(limit-k)+1:=aa;rw[hf] at hB;have hI0:=hI;obtain⟨e1,e2,iA,e9,bs,hs,ne,lim,alls⟩:=hI;have mr:=hs.ne;have gj:(fJ F st).length=st.length:=Fi F st;by_cases aq:k<st.length
 .have aL:((k:Int)<(st.length:Int)):=aa;obtain⟨a,ha⟩:=aM aq;have hae:=Qp (F:=F) ha;have hga:=alls a (aW ha);have plv:=anK hga.chk;have apQ:aF S 49 [.agg [.p (.int .i64 F),.p (.sl (aZ a.c))]] (.one (aO qC 7 (mP (jw F a.c)))):=plv;have lo:S.lone 1536320320=true:=ah;have hnA:(cQ a.c).norm=.sl (aZ a.c):=rfl;have w1:=bN (n:=k) aa;rw[OP ha] at hB;simp only[go_sem,i24_l3,e9,iA,bs,aq,aL,hae,bR.ps,hnA,s49,cU apQ (Fb lo)];refine ash (L0:=L0) (lD:=st) (a:=a) (i:=k) (s:=s) (g:=g) gE rj ha ⟨?_,?_,?_,?_,bs,hs,ne,lim,alls⟩ ?_ ?_ (fun ib s' g' aA ao h1 h2 h3=>?_) fun aA ao h1 h2=>?_;all_goals try(simp only[go_sem,e1,e2,e9,iA];first|done|rfl)
  .rw[h1,aD rfl] at hB;obtain⟨q1,q2,q10,q9,v8,MQ,ne',anM,agW⟩:=h2;simp only[go_sem,i24_r2,q10,w1];refine⟨aa,ib,s',g',⟨?_,?_,?_,?_,v8,MQ,ne',anM,agW⟩,aa,by rw[show limit+1-(k+1)=limit-k by omega];exact hB⟩;all_goals(simp only[go_sem,q1,q2,q9,q10];first|done|rfl)
  rw[ay h1] at hB;rw[hB] at h1 h2;obtain⟨q7,q8,ne',s',g',q6,v8⟩:=h2;have uM:((mX false F limit L0).1==0)=false:=tF.2 h1;simp only[go_sem,q6,q7,q8];unfold srV;rw[uM];exact adD ne' v8
 have zD:k=st.length:=aa;subst zD;rw[SF (mS (bJ _))] at hB;rw[<- hB];simp only[go_sem,i24_l3,i24_r4,e9,iA,dG];exact adD ne bs
abbrev X2:Nat:=24
abbrev clD(F:Nat)(l:List (List Let))(wh:Bool):RV:=.tup [.one (aO X2 2 (qO F l)),.one (.p (.bool wh))]
theorem am6{l:List (List Let)}{wh:Bool}{aj:aw}{s:Nat}(h:l≠[])(eJ:S.lone s=true):land aj [] s ((clD F l wh).eD (S.lone s))=some (.tup [.one (.p (.sl (qO F l))),.one (.p (.bool wh))],[]):=by
 have aI:qO F l≠[]:=by simpa [qO] using h
 rw[eJ];unfold clD;rw[xQ aI];rfl
theorem ane{l:List bR}{x y:PV}{aj:aw}{s:Nat}(h:l≠[])(eJ:S.lone s=true):land aj [] s ((RV.tup [.one (aO zY 5 (fJ F l)),.one (.p x),.one (.p y)]).eD (S.lone s))=some (.tup [.one (.p (.sl (fJ F l))),.one (.p x),.one (.p y)],[]):=by
 have aI:fJ F l≠[]:=by simpa [fJ] using h
 rw[eJ,xQ aI];rfl
theorem aoS{s1 t1 z1:Nat}{es:List (List PV)}{c:C}{x:PV}{aj:aw}(h:grown s1 t1 z1 es (.one c) aj):gh aj (.tup [.one c,.one (.p x)])=some (.tup [.one (aO t1 z1 es),.one (.p x)]):=by obtain⟨c',o,hc,h2,h3⟩:=h.gQ;cases hc;have e1:∀v:PV,gQ aj (.p v)=some (.p v,[],[]):=fun _=>rfl;rcases h3 with rfl|rfl<;>simp[gh,nL,tU,kI,kh,h2,e1,apart,sI,pQ,Bp]
theorem air(cP:vd){ls:List Let}(gE:1<=limit)(rj:limit<=20000)(h:di (F:Int) ls=0):aF S 8 [cZ F ls,vi limit] (clD F ((mX false F limit (dK ls)).2.map bR.n) ((mX false F limit (dK ls)).1==0)):=by
 have tj:=DW h;have pn:=Vh (F:=F) (ls:=ls) aa;have dV:wy ls=dK ls:=by
  rcases Dd h with rfl|g
  .rfl
  exact Tc g
 rw[dV] at pn;have hN:=Fl h;have ps:=aq1 gE rj hN;obtain⟨aI,_⟩:=Yi cP gE rj hN;have hlen:=SM (sb:=false) (F:=F) (L0:=dK ls) gE;have iD:S.lone 512064192=true:=ah;have kN:S.lone 512064064=true:=ah;unfold srV at ps;generalize mX false F limit (dK ls)=r at*;have gj:(fJ F r.2).length=r.2.length:=Fi F r.2;have ua:=Fv (aZ (dK ls));have ps:aF S 24 [.agg [.p (.int .i64 F),.p (.sl (aZ (dK ls)))],vi limit,vb false] (.tup [.one (aO zY 5 (fJ F r.2)),.one (.p (.bool (r.1==0))),.one (.p (.bool false))]):=ps;refine aV c8 ?_;simp only[go_sem,i8,s25,cU pn M4,ua,s24,cU ps (ane aI iD)]
 refine cJ (fun j ak aj=>ak 6=.one (.p (.sl (fJ F r.2)))/\ak 7=vb (r.1==0)/\ak 10=vi j/\ ∃fc,ak 9=.one fc/\grown 512384448 X2 2 (qO F ((r.2.map bR.n).take j)) (.one fc) aj) 0 r.2.length (bj _) ?_ ?_
 .simp only[go_sem];exact⟨rfl,_,rfl,grown.nil⟩
 rintro j ak aj hj ⟨e6,e7,iA,fc,e9,gf⟩
 by_cases aq:j<r.2.length
 .have aL:((j:Int)<(r.2.length:Int)):=aa;obtain⟨m,hm⟩:=aM aq;have hme:=Qp (F:=F) hm;have w1:=bN (n:=j) aa;have tq:(cQ m.n).norm=.sl (aZ m.n):=rfl;simp only[go_sem,i8_l1,e6,e9,iA,aL,gj,hme,bR.ps,tq];refine ni (site:=512384448) (id:=512384448) (bytes:=32) (xs:=[[.int .i64 F,cQ m.n]]) (rd:=[512384384]) (gf.of_eq (by simp only[aN,Nat.reduceEqDiff,if_false])) (by simp[ed,aN]) (.inl rfl) (by simp only[qO,cH,gT,cS,eE];omega) fun c' fN g1 ef=>?_;rw[<- acK hm] at g1;simp only[go_sem,e6,e7,e9,iA,w1];first|exact⟨aq,c',rfl,g1⟩|exact⟨aq,rfl,rfl,rfl,c',rfl,g1⟩|trace_state
 have GG:j=r.2.length:=aa;subst GG;have eY:(r.2.map bR.n).take r.2.length=r.2.map bR.n:=dD (by rw[cH];exact bJ _);rw[eY] at gf;simp only[go_sem,i8_l1,i8_r2,e6,e7,e9,iA,gj,dG];exact aoS gf
def zW(e n:Int):Int:=if e≠0 then e else if n<1\/20000<n then 2 else 0
theorem anO{f:Int}{ls:List Let}{n:Int}(hl:ls.length<=1000000):aF S 19 [cZ f ls,vi n] (ri (zW (di f ls) n)):=by
 have pc:=X8 f ls hl;generalize di f ls=e at*;unfold zW;refine aV c19 ?_;by_cases h:e=0
 .subst h;have zg:((0:Int)!=0)=false:=ae;rw[ay af];by_cases a1:n<1
  .rw[aD (.inl a1)];simp only[go_sem,i19,s26,dJ pc,zg,a1];first|done|rfl
  by_cases a2:20000<n
  .rw[aD (.inr a2)];simp only[go_sem,i19,s26,dJ pc,zg,a1,a2];first|done|rfl
  rw[ay aa];simp only[go_sem,i19,s26,dJ pc,zg,a1,a2];first|done|rfl
 have e1:(e !=0)=true:=by simpa using h
 rw[aD h];simp only[go_sem,i19,s26,dJ pc,e1];first|done|rfl
theorem aio{f:Int}{ls:List Let}{n:Int}(hl:ls.length<=1000000)(h:zW (di f ls) n≠0):aF S 6 [cZ f ls,vi n] (.tup [.one (.p .nils),.one (.p (.bool false)),.one (.p (.int .i64 (zW (di f ls) n)))]):=by
 have pl:=anO (f:=f) (n:=n) hl;generalize zW (di f ls) n=e at*;have e1:(e !=0)=true:=by simpa using h
 refine aV c6 ?_;simp only[go_sem,i6,s19,dJ pl,e1];first|done|rfl
theorem acv(n m:Int):aF S 4 [vi n,vi m] (rb (decide (n<=m)||decide (20000<n))):=by
 refine aV c4 ?_;by_cases a1:n<=m
 .simp only[go_sem,i4,a1];first|done|rfl
 by_cases a2:20000<n
 .simp only[go_sem,i4,a1,a2];first|done|rfl
 simp only[go_sem,i4,a1,a2];first|done|rfl
theorem aqm{f:Int}{ls:List Let}{n:Int}(hl:ls.length<=1000000):aF S 7 [vi n,.one (.p (.sl [[.int .i64 f,cQ ls]]))] (ri (zW (di f ls) n)):=by
 have pc:=aik f ls hl;generalize di f ls=e at*;have tq:(cQ ls).norm=.sl (aZ ls):=rfl;have pc:aF S 23 [.agg [.p (.int .i64 f),.p (.sl (aZ ls))]] (ri e):=pc;have z1:(0:Int)<((1:Nat):Int):=ae;have z2:¬(1:Int)<((1:Nat):Int):=ae;have z3:(((1:Nat):Int)==2)=false:=ae;have w1:IntKind.i64.wrap 1=1:=ae;unfold zW;refine aV c7 ?_;simp only[go_sem,i7];refine kG ?_;by_cases h:e=0
 .subst h;have zg:((0:Int)!=0)=false:=ae;rw[ay af];simp only[go_sem,i7_l1,z1,tq,s23,dJ pc,zg,w1];refine kG ?_;simp only[go_sem,z2,i7_r2];by_cases a1:n<1
  .rw[aD (.inl a1)];simp only[go_sem,a1];first|done|exact aK|exact⟨aK,rfl⟩|trace_state
  by_cases a2:20000<n
  .rw[aD (.inr a2)];simp only[go_sem,a1,a2];first|done|exact aK|exact⟨aK,rfl⟩|trace_state
  rw[ay aa];simp only[go_sem,a1,a2,z3];first|done|exact aK|exact⟨aK,rfl⟩|trace_state
 have e1:(e !=0)=true:=by simpa using h
 rw[aD h];simp only[go_sem,i7_l1,z1,tq,s23,dJ pc,e1];first|done|rfl
theorem ais(hk:aF S 5 [] (rb true)){f n:Int}{A:List Let}(h:(30:Int)<(A.length:Int)\/30<n/\n<=20000):aF S 3 [cZ f A,vi n] (rb true):=by
 refine aV c3 ?_;by_cases hl:(30:Int)<(A.length:Int)
 .simp only[go_sem,i3,hl,s5,bh hk];first|done|rfl
 have pl:=acv n 30;have e:(decide (n<=30)||decide (20000<n))=false:=by rw[vW aa,vW aa];rfl
 rw[e] at pl;simp only[go_sem,i3,hl,s4,bh pl,s5,bh hk];first|done|rfl
theorem anf(cP:vd)(hk:aF S 5 [] (rb true))(f:Int)(A:List Let)(n:Int):aF S 3 [cZ f A,vi n] (rb true):=by
 by_cases Jp:(30:Int)<(A.length:Int)\/30<n/\n<=20000
 .exact ais hk Jp
 have hl:¬(30:Int)<(A.length:Int):=fun h=>Jp (.inl h);have pl:=acv n 30;have e:(decide (n<=30)||decide (20000<n))=true:=by
  by_cases h:n<=30
  .rw[DK h];rfl
  rw[DK (show 20000<n by omega),Bool.or_true]
 rw[e] at pl;have pr:=aqm (f:=f) (ls:=A) (n:=n) aa;have iD:S.lone 192192128=true:=ah;have kN:S.lone 192448128=true:=ah;have z0:(((0:Nat):Int)==0)=true:=rfl;by_cases hE:zW (di f A) n=0
 .have ck:di f A=0:=by
   unfold zW at hE;by_cases h:di f A≠0
   .rw[aD h] at hE;exact hE
   exact Classical.not_not.1 h
  have hn:¬(n<1\/20000<n):=fun h=>by unfold zW at hE;rw[ay (by simpa using ck),aD h] at hE;cases hE
  obtain⟨n,rfl⟩:=uu (show 0<=n by omega);obtain⟨F,rfl⟩:=ail ck;have l1:1<=n:=aa;have l2:n<=20000:=aa;have hN:=Fl ck;obtain⟨aI,cV⟩:=Yi cP l1 l2 hN;have hlen:=SM (sb:=false) (F:=F) (L0:=dK A) l1;have pc:=aip cP l1 l2 ck;have pd:=air cP l1 l2 ck;rw[hE] at pr;unfold Yh at pc;have hL:∀L∈(mX false F n (dK A)).2.map bR.n,L.length<=400:=fun L hL=>by obtain⟨y,hy,rfl⟩:=dI.1 hL;have gy:=cV y hy;exact DW (by rw[gy.Fk];exact Fl gy.chk)
  have PK:(mX false F n (dK A)).2.map bR.n≠[]:=by simpa using aI
  have T7:((mX false F n (dK A)).2.map bR.n).length<=n:=by rw[cH];exact hlen
  generalize (mX false F n (dK A)).2.map bR.n=l at*;generalize ((mX false F n (dK A)).1==0)=wh at*;have TS:(qO F l).length=l.length:=cH ..;have zg:((0:Int)!=0)=false:=ae;have pc:aF S 6 [cZ F A,vi n] (clR F l wh):=pc;refine aV c3 ?_;simp only[go_sem,i3,hl,s4,bh pl,s6,cU pc (am7 PK iD),s7,dJ pr,zg,s8,cU pd (am6 PK kN),TS];refine cJ (fun k ak aj=>ak 5=.one (.p (.sl (qO F l)))/\ak 9=.one (.p (.sl (qO F l)))/\ak 11=vi k) 0 l.length (bj _) ?_ ?_
  .simp only[go_sem];first|done|rfl|trace_state
  rintro k ak aj eI ⟨g5,g9,g11⟩
  by_cases aq:k<l.length
  .have aL:((k:Int)<(l.length:Int)):=aa;have w1:=bN (n:=k) aa;obtain⟨L,hx⟩:=aM aq;have iC:=ah9 (F:=F) hx;have hLl:=hL L (aW hx);have pe:=Zs (F:Int) L L aa aa;rw[DK rfl] at pe;have tq:(cQ L).norm=.sl (aZ L):=rfl;simp only[go_sem,i3_l1,g5,g9,g11,TS,aq,aL,iC,tq,w1,s9,kW pe];first|done|exact aK|exact⟨aK,rfl⟩|trace_state
  have Mu:k=l.length:=aa;subst Mu;simp only[go_sem,i3_l1,i3_r2,g5,g11,TS,dG,s5,bh hk];first|done|rfl|trace_state
 have pc:=aio (f:=f) (ls:=A) (n:=n) aa hE;generalize zW (di f A) n=e at*;have e1:(e !=0)=true:=by simpa using hE
 have ld:∀(aj:aw),land aj [] 192192128 ((RV.tup [.one (.p .nils),.one (.p (.bool false)),.one (.p (.int .i64 e))]).eD (S.lone 192192128))=some (.tup [.one (.p .nils),.one (.p (.bool false)),.one (.p (.int .i64 e))],[]):=fun aj=>by rw[iD];rfl
 refine aV c3 ?_;simp only[go_sem,i3,hl,s4,bh pl,s6,cU pc (ld _),s7,dJ pr,e1,z0,s5,bh hk];first|done|rfl|trace_state
end
end Go.Abs
namespace Go.Proofs.YtffbakabajjgcaaGreatDoor.fnEaseClasses
open Go.Abs Go.ChangeShapes Go.WideShapes Go.ChangeAt Go.RowKit
theorem aay {P : Program} {N n : Nat} {t : TypeId} {fs : Array Field} {p : List PV} (hu : P.underlying t = some (.struct fs)) (h : jO P N (n + 1) t p) :
    ∃parts : List (List PV), p = parts.flatten ∧ parts.length = fs.toList.length ∧ ∀(i : Nat) (f : Field) (x : List PV), fs.toList[i]?= some f → parts[i]?= some x → jO P N n f.type x := by
  simp only [jO, hu] at h;exact h
theorem anF {es : List (List PV)} (h :∀x ∈ es, ∃l : Let, x = l.ps) :∃ls : List Let, es = ls.map Let.ps := by
  induction es with
  | nil => exact ⟨[], rfl⟩
  | cons e es ih =>obtain ⟨l, rfl⟩ := h e (by simp);obtain ⟨ls, rfl⟩ := ih fun x hx => h x (by simp [hx]);exact ⟨l :: ls, rfl⟩
theorem anE {N n : Nat} {p : List PV} (h : jO S.P N (n + 1 + 1) 38 p) :∃l : Let, p = l.ps := by
  obtain ⟨parts, rfl, hl, hp⟩ := aay Tryz.underlying38 h;rcases parts with _ | ⟨p0, _ | ⟨p1, _ | ⟨p2, _ | ⟨p3, _ | ⟨p4, _ | ⟨p5, _ | ⟨p6, r⟩⟩⟩⟩⟩⟩⟩ <;> first
    | (simp at hl; done)
    | skip
  obtain ⟨k, rfl, _⟩ := Gq Tryz.underlying36 (hp 0 _ _ rfl rfl);obtain ⟨g, rfl, _⟩ := Gq Tryz.underlying3 (hp 1 _ _ rfl rfl);obtain ⟨r, rfl, _⟩ := Gq Tryz.underlying3 (hp 2 _ _ rfl rfl);obtain ⟨i, rfl, _⟩ := Gq Tryz.underlying3 (hp 3 _ _ rfl rfl);obtain ⟨s, rfl, _⟩ := Gq Tryz.underlying3 (hp 4 _ _ rfl rfl);obtain ⟨o, rfl⟩ := ak4 Tryz.underlying4 (hp 5 _ _ rfl rfl);exact ⟨⟨k, g, r, i, s, o⟩, rfl⟩
theorem aiz {N n : Nat} {p : List PV} (h : jO S.P N (n + 1 + 1 + 1 + 1) 24 p) :∃(k : Int) (ls : List Let), p = [.int .i64 k,.sl (ls.map Let.ps)] := by
  obtain ⟨parts, rfl, hl, hp⟩ := aay Tryz.underlying24 h;rcases parts with _ | ⟨p0, _ | ⟨p1, _ | ⟨p2, r⟩⟩⟩ <;> first
    | (simp at hl; done)
    | skip
  obtain ⟨k, rfl, _⟩ := Gq Tryz.underlying3 (hp 0 _ _ rfl rfl);obtain ⟨es, rfl, _, he⟩ := ak5 Tryz.underlying22 (hp 1 _ _ rfl rfl);obtain ⟨ls, rfl⟩ := anF fun x hx => anE (he x hx);exact ⟨k, ls, rfl⟩
theorem law_any (pvss : List (List PV)) (h : Ow S.P maxLen 4 Tryz.f3.params.toList pvss) : aF S 3 (BK S.P Tryz.f3.params.toList pvss) (.one (.p (.bool true))) := by
  have hp : Tryz.f3.params.toList = [24, 3] := by rw [Tryz.params3]
  rw [hp] at h ⊢;rcases pvss with _ | ⟨a0, _ | ⟨a1, _ | ⟨a2, z2⟩⟩⟩
  · exact h.elim
  · exact h.2.elim
  · obtain ⟨f0, ls0, rfl⟩ := aiz (n := 0) h.1
    obtain ⟨x1, rfl, _⟩ := Gq (n := 3) Tryz.underlying3 h.2.1;have e3 :∀(f : Int) (a : List Let), BJ S.P 24 [.int .i64 f,.sl (a.map Let.ps)] = cZ f a := fun f a => ahd (P := S.P) Tryz.underlying24;have e1 :∀x : Int, BJ S.P 3 [.int .i64 x] = vi x := fun x => ahc (P := S.P) Tryz.underlying3 (fun fs h => by cases h);simp only [BK, e3, e1];exact anf ait amQ f0 ls0 x1
  · exact h.2.2.elim
theorem gTab : Tryz.prog.globalNamed Rh = some 0 := by kernel_rfl
theorem akG : (Tryz.prog.globals[0]?).map (·.type) = some 248 := by kernel_rfl
theorem aic : Tryz.prog.cellsOf 248 = 20 := by kernel_rfl
theorem aid : Tryz.prog.cellsOf 219 = 1 := by kernel_rfl
/-- what the row's list gives: the table of the powers of ten -/
theorem table {W : World} (h : laidMetH Tryz.prog Rows.easeClassesRow.laid W) : G W := by
  have h1 : laidMet Tryz.prog Rows.easeClassesRow.laid W := h;have h2 := h1.tail.tail;have e : (Rows.laid_internal_strconv_uint64pow10 : DataW Unit) = Lib.tabData .u64 Lib.pow10Tab := by kernel_rfl
  rw [e] at h2;exact Lib.tabIs_of_head (rest := []) gTab akG Tryz.underlying248 Tryz.underlying219 aid aic h2
end Go.Proofs.YtffbakabajjgcaaGreatDoor.fnEaseClasses
namespace Go.Proofs.YtffbakabajjgcaaGreatDoor.fnEaseClasses
open Go.Abs Go.ChangeShapes Go.WideShapes Go.ChangeAt Go.RowKit
theorem own : ownKnob Tryz.prog.godebug = none := by kernel_rfl
theorem aiF (H : Type) (enc : TypeId×Value → H) (W : World) (base : Nat) (args : Array Value) (ds gs : List (DataW H)) (before : List MemPlace)
    (hval :∀(j : Nat) t v, Tryz.f3.params[j]?= some t → args[j]?= some v → Value.okWide Tryz.prog W .any base t v)
    (hW : DataW.Whole enc Tryz.prog Tryz.f3.params.toList Rows.easeClassesSpec.vars false W args.toList ds gs before) (hL : laidMetH Tryz.prog Rows.easeClassesRow.laid W) :
    Calls Tryz.prog 3 args W fun e W' =>∃v, e =.returned v ∧ Rows.easeClassesSpec.post enc Tryz.prog Tryz.f3 false true false false W args v W' := by
  have hk :∀t ∈ Tryz.f3.params.toList, jI S.P 4 t = true := by
    rw [Tryz.params3];intro t ht;have e : t = 24 ∨ t = 3 := by simpa using ht
    have k0 : jI S.P 4 24 = true := by kernel_rfl
    have k1 : jI S.P 4 3 = true := by kernel_rfl
    rcases e with e | e
    · exact e ▸ k0
    · exact e ▸ k1
  have hfit :∀d ∈ ds, Fits maxLen d := by obtain ⟨p, q, hA, _⟩ := hW;exact (aft hk hA).1
  exact ang S_ok (fun w h => akR h) (fn := Tryz.f3) (s := Rows.easeClassesSpec) rfl
    (fun H ds hd => by
      rw [Tryz.params3] at hd
      match ds, hd with
      | [d0, d1], _ => rfl) (tb := 4) (by kernel_rfl) Tryz.underlying4 hk law_any hval hW (table hL) hfit

noncomputable def aib (d : DataW Unit) : Array Value :=
  match d with
  | .agg l => (l.map fun
    | .lit (.int k z) => Value.int k z
    | _ => undef).toArray
  | _ => #[]
noncomputable def UT (d : DataW Unit) : Obj → Obj
  | .cells _ t frozen =>.cells (aib d) t frozen
  | o => o
noncomputable def UP (os : Os) : World :={ World.holding Tryz.prog os ⟨#[], #[], []⟩ with heap := (((World.holding Tryz.prog os ⟨#[], #[], []⟩).heap.modify 1 (UT Rows.laid_math_bits_deBruijn32tab)).modify 2 (UT Rows.laid_math_bits_deBruijn64tab)).modify 0 (UT Rows.laid_internal_strconv_uint64pow10) }
theorem am1 (os : Os) : laidMet Tryz.prog Rows.easeClassesRow.laid ((UP os).forCall (fun _ _ => 0) ⟨#[], #[Value.agg #[.int .i64 0,.slice none 0 0],.int .i64 0], []⟩).memory :=laidMet_of_run' 8 (by kernel_rfl) (by kernel_rfl)
theorem reads (os : Os) {H : Type} (enc : TypeId×Value → H) :∃places, DataW.whole enc Tryz.prog ((UP os).forCall (fun _ _ => 0) ⟨#[], #[Value.agg #[.int .i64 0,.slice none 0 0],.int .i64 0], []⟩).memory Tryz.f3.params.toList Rows.easeClassesSpec.vars false #[Value.agg #[.int .i64 0,.slice none 0 0],.int .i64 0].toList 8 = some ([.agg [.lit (.int .i64 0),.nil],.lit (.int .i64 0)], [], places) :=
  ⟨[], by kernel_rfl⟩

theorem lifted (os : Os) (started : os.Started) (H : Type) (enc : TypeId×Value → H) (F : Stop.Interp) :
    ReturnsInHanded {} Tryz.checked os 3 .any ((OpenSpec.ofChange Rows.easeClassesSpec).preRow enc Tryz.prog Tryz.f3 Rows.easeClassesRow.domain false Rows.easeClassesRow.laid) (((OpenSpec.ofChange Rows.easeClassesSpec).at F).post enc Tryz.prog Tryz.f3 false true false false) := by
  obtain ⟨places, hx⟩ := reads os enc;refine returnsInHanded_of_row (C := Tryz.checked) (s := (OpenSpec.ofChange Rows.easeClassesSpec)) own started (by kernel_rfl) Tryz.func3
    (witness_row_at (enc := enc) (C := Tryz.checked) false (UP os) #[Value.agg #[.int .i64 0,.slice none 0 0],.int .i64 0] rfl (by kernel_rfl) (by kernel_rfl) (by kernel_rfl)
      (OpenSpec.preRow_of_cond 8 hx (by kernel_rfl) (fun k hk => by cases hk) (by kernel_rfl) (am1 os))) ?_
  intro W base args ds gs before hval hW _ _ _ hL _ _;exact aiF H enc W base args ds gs before hval hW hL
end Go.Proofs.YtffbakabajjgcaaGreatDoor.fnEaseClasses
namespace Go.Proofs.YtffbakabajjgcaaGreatDoor.fnEaseClasses
open Go.Abs Go.ChangeShapes Go.WideShapes Go.ChangeAt Go.RowKit
theorem said : Rows.EaseClassesSaid :=
  OpenClaim.holds_of_cond 3 Tryz.f3 rfl rfl rfl rfl rfl rfl rfl ⟨rfl, rfl, rfl, rfl, rfl⟩ rfl rfl rfl rfl rfl (by kernel_rfl) Tryz.func3 closed
    (of_decide_eq_true (by kernel_rfl)) (by unfold Func.isWrapper; first | (rw [if_pos (by decide +kernel)]; kernel_rfl) | (rw [if_neg (by decide +kernel)]; exact ⟨rfl, rfl⟩))
    (fun os started H enc _ F => by rw [OpenClaim.pre_eq_preRow]; exact lifted os started H enc F)

theorem plain (f : FuncId) (fn : Func) (hf : Tryz.pinned.checked.prog.funcNamed Rows.easeClassesRow.func = some f) (hfn : Tryz.pinned.checked.prog.funcs[f]?= some fn) :
    false = Tryz.pinned.checked.prog.looks [] ∧ ∀(j : Nat) t, fn.params[j]?= some t → Tryz.pinned.checked.prog.wantsStandIn t = false := by
  obtain rfl : f = 3 := Option.some.inj ((show Tryz.prog.funcNamed Rows.easeClassesRow.func = some 3 by kernel_rfl).symm.trans hf) |>.symm
  obtain rfl : fn = Tryz.f3 := (Option.some.inj (Tryz.func3.symm.trans hfn)).symm;refine ⟨by kernel_rfl, ?_⟩
  · intro j t ht
    rw [Tryz.params3] at ht;have e : t = 24 ∨ t = 3 := by simpa using Array.mem_of_getElem? ht
    have k0 : Tryz.prog.wantsStandIn 24 = false := by kernel_rfl
    have k1 : Tryz.prog.wantsStandIn 3 = false := by kernel_rfl
    rcases e with e | e
    · exact e ▸ k0
    · exact e ▸ k1

theorem atz : Rows.easeClassesRow.wfByText (OpenSpec.ofChange Rows.easeClassesSpec) = true := by kernel_rfl
theorem mainIs : Tryz.pinned.checked.prog.mainIs = some ((true, "79dfb077fb678fb48dcec61b3beebcfcba1452cf5f8d7e946d90b432d3c00249").1, (true, "79dfb077fb678fb48dcec61b3beebcfcba1452cf5f8d7e946d90b432d3c00249").2.toList) := by kernel_rfl
theorem card : Rows.EaseClassesCardSaid :=Claim7.holds_tied_plain_at .later [] _ _ _ _ said (fun _ h => by cases h) atz (fun _ h => by cases h) easeClasses_row_tie rfl ⟨rfl, rfl⟩ mainIs rfl plain goes
end Go.Proofs.YtffbakabajjgcaaGreatDoor.fnEaseClasses
