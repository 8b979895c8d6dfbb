/-
  The class search.
-/
import Derived.Test.YtaajncoljnafjaaGreatDoorRd
set_option linter.all false
set_option maxRecDepth 100000
set_option maxHeartbeats 16000000
namespace Go.Abs
def Sr{n:Int}(h1: -1000000<=n)(h2:n<=1000000):aK S 73 [vi n] (.one (.p (.str (lB n)))):=by
 refine⟨1,?_⟩;have e:S1 [vi n]=some (.one (.p (.str (lB n)))):=by show(if -9223372036854775808<=n/\n<=9223372036854775807 then _ else _)=_;rw[aD ⟨aa,aa⟩]
 have h:S.prim 73 [vi n]=some (some (.one (.p (.str (lB n))))):=by rw[<-e];rfl
 rw[hU];simp only[h]
def acx:∀(k n:Nat) (acc:p_),(sV k n acc).length<=k+acc.length:=by
 intro k
 induction k with
 |zero=>intro n acc;simp[sV]
 |succ k ih=>
  intro n acc;unfold sV;cases Nat.blt n 10 with
  |true=>simp only[cond_true,dI];omega
  |false=>simp only[cond_false];have:=ih (Nat.div n 10) (UInt8.ofNat (Nat.add 48 (Nat.mod n 10))::acc);rw[dI]at this;omega
def Ik(n:Int):(lB n).size<=40:=by
 unfold lB;show(List.toArray _).size<=40;rw[T4];cases n with
 |ofNat u=>have:=acx 20 u [];simp only[fe]at this;show(sV 20 u []).length<=40;omega
 |negSucc u=>have:=acx 20 (Nat.succ u) [];simp only[fe]at this;show(45::sV 20 (Nat.succ u) []).length<=40;rw[dI];omega
def Fg{a b:ByteArray}(h:a.size+b.size<=1000000000):JB .add a b=some (.str (a++b)):=by unfold JB;exact aD aa
def CY(a b:ByteArray):(a++b).size=a.size+b.size:=ByteArray.size_append
def ZG:ByteArray:=⟨#[46]⟩
def sU:ByteArray:=⟨#[117]⟩
def sO:ByteArray:=⟨#[111]⟩
def sPl:ByteArray:=⟨#[43]⟩
def sMi:ByteArray:=⟨#[45]⟩
def sQu:ByteArray:=⟨#[63]⟩
def EH:ByteArray:=⟨#[32]⟩
def sCo:ByteArray:=⟨#[58]⟩
def tH(l:Let):ByteArray:=
 if l.kind==1 then lB l.gate++ZG++lB l.aw
 else if l.kind==2 then(lB l.id++(if l.over then sO else sU))++(if l.sign==1 then sPl else if l.sign== -1 then sMi else sQu)
 else sQu
def akf(l:Let):(tH l).size<=100:=by
 have h1:=Ik l.gate;have h2:=Ik l.aw;have h3:=Ik l.id;have c1:ZG.size=1:=rfl;have c2:sU.size=1:=rfl;have c3:sO.size=1:=rfl;have c4:sPl.size=1:=rfl;have c5:sMi.size=1:=rfl;have c6:sQu.size=1:=rfl;unfold tH;split
 .rw[CY,CY];omega
 split
 .rw[CY,CY];split<;>split
  .omega
  .split<;>omega
  .omega
  split<;>omega
 omega
def smL(l:Let):Prop:=(-1000000<=l.gate/\l.gate<=1000000)/\(-1000000<=l.aw/\l.aw<=1000000)/\(-1000000<=l.id/\l.id<=1000000)
def axM{l:Let}(h:smL l):aK S 74 [K8 l] (.one (.p (.str (tH l)))):=by
 obtain⟨⟨g1,g2⟩,⟨r1,r2⟩,⟨i1,i2⟩⟩:=h;have pg:=Sr g1 g2;have pr:=Sr r1 r2;have pi:=Sr i1 i2;have lg:=Ik l.gate;have lr:=Ik l.aw;have li:=Ik l.id;have Em:S.shared 73=false:=ah;have b1:=Fg (a:=lB l.gate) (b:=⟨#[46]⟩) (by have:(ByteArray.mk #[46]).size=1:=rfl;omega);have b2:=Fg (a:=lB l.gate++⟨#[46]⟩) (b:=lB l.aw) (by rw[CY];have:(ByteArray.mk #[46]).size=1:=rfl;omega);have b3:=Fg (a:=lB l.id) (b:=⟨#[117]⟩) (by have:(ByteArray.mk #[117]).size=1:=rfl;omega);have b4:=Fg (a:=lB l.id) (b:=⟨#[111]⟩) (by have:(ByteArray.mk #[111]).size=1:=rfl;omega);have fin:∀(x:ByteArray) (c:ByteArray),(x=⟨#[117]⟩\/x=⟨#[111]⟩)->c.size=1->JB .add (lB l.id++x) c=some (.str (lB l.id++x++c)):=fun x c hx hc=>by
  refine Fg ?_;rw[CY];rcases hx with rfl|rfl
  .have:(ByteArray.mk #[117]).size=1:=rfl;omega
  have:(ByteArray.mk #[111]).size=1:=rfl;omega
 have u1:=fin ⟨#[117]⟩ ⟨#[43]⟩ (.inl rfl) rfl;have u2:=fin ⟨#[117]⟩ ⟨#[45]⟩ (.inl rfl) rfl;have u3:=fin ⟨#[117]⟩ ⟨#[63]⟩ (.inl rfl) rfl;have o1:=fin ⟨#[111]⟩ ⟨#[43]⟩ (.inr rfl) rfl;have o2:=fin ⟨#[111]⟩ ⟨#[45]⟩ (.inr rfl) rfl;have o3:=fin ⟨#[111]⟩ ⟨#[63]⟩ (.inr rfl) rfl;have hw:tH l=if l.kind==1 then lB l.gate++⟨#[46]⟩++lB l.aw
  else if l.kind==2 then(lB l.id++(if l.over then⟨#[111]⟩else⟨#[117]⟩))++(if l.sign==1 then⟨#[43]⟩else if l.sign== -1 then⟨#[45]⟩else⟨#[63]⟩)
  else⟨#[63]⟩:=rfl
 rw[hw];cases k1:(l.kind==1)with
 |true=>simp only[if_true];refine bt c74 ?_;simp only[go_sem,i74,k1,Em,acp pg,acp pr,b1,b2];first|done|exact⟨aJ,rfl⟩|exact aJ
 |false=>
  cases k2:(l.kind==2)with
  |true=>
   simp only[dN,if_true,if_false];cases ho:l.over with
   |true=>
    cases s1:(l.sign==1)with
    |true=>refine bt c74 ?_;simp only[go_sem,i74,k1,k2,ho,s1,Em,FC pi,b3,b4,o1];first|done|rfl
    |false=>
     cases s2:(l.sign== -1)with
     |true=>refine bt c74 ?_;simp only[go_sem,i74,k1,k2,ho,s1,s2,Em,FC pi,b3,b4,o2];first|done|rfl
     |false=>refine bt c74 ?_;simp only[go_sem,i74,k1,k2,ho,s1,s2,Em,FC pi,b3,b4,o3];first|done|rfl
   |false=>
    cases s1:(l.sign==1)with
    |true=>refine bt c74 ?_;simp only[go_sem,i74,k1,k2,ho,s1,Em,FC pi,b3,u1];first|done|rfl
    |false=>
     cases s2:(l.sign== -1)with
     |true=>refine bt c74 ?_;simp only[go_sem,i74,k1,k2,ho,s1,s2,Em,FC pi,b3,u2];first|done|rfl
     |false=>refine bt c74 ?_;simp only[go_sem,i74,k1,k2,ho,s1,s2,Em,FC pi,b3,u3];first|done|rfl
  |false=>simp only[dN,if_false];refine bt c74 ?_;simp only[go_sem,i74,k1,k2];first|done|rfl
def oX(F:Int)(L:ai):ByteArray:=L.foldl (fun s l=>s++(EH++tH l)) (lB F++sCo)
def auv(F:Int):∀(L:ai) (s:ByteArray) (k:Nat),s.size<=41+101*k->(L.foldl (fun s l=>s++(EH++tH l)) s).size<=41+101*(k+L.length):=by
 intro L
 induction L with
 |nil=>intro s k h;exact h
 |cons l L ih=>
  intro s k h;have:=ih (s++(EH++tH l)) (k+1) (by have:=akf l;rw[CY,CY];have c:EH.size=1:=rfl;omega)
  rw[dI];show(List.foldl (fun s l=>s++(EH++tH l)) (s++(EH++tH l)) L).size<=_;omega
def EF(F:Int)(L:ai)(k:Nat):ByteArray:=(L.take k).foldl (fun s l=>s++(EH++tH l)) (lB F++sCo)
def auo{F:Int}{L:ai}{k:Nat}{x:Let}(h:L[k]?=some x):EF F L (k+1)=EF F L k++(EH++tH x):=by unfold EF;rw[IL h,Jd];rfl
def air{F:Int}{L:ai}(hF: -1000000<=F/\F<=1000000)(hl:L.length<=1000000)(F4:∀l∈L,smL l):aK S 42 [ez F L] (.one (.p (.str (oX F L)))):=by
 have pF:=Sr hF.1 hF.2;have lF:=Ik F;have Em:S.shared 73=false:=ah;have b1:=Fg (a:=lB F) (b:=⟨#[58]⟩) (by have:(ByteArray.mk #[58]).size=1:=rfl;omega);have uX:∀k,(EF F L k).size<=41+101*k:=fun k=>by have:=auv F (L.take k) (lB F++sCo) 0 (by rw[CY];have:sCo.size=1:=rfl;omega);rw[iz]at this;unfold EF;omega
 have vT:EF F L L.length=oX F L:=by unfold EF oX;rw[lJ]
 generalize oX F L=res at vT;refine bt c42 ?_;simp only[go_sem,i42,Em,FC pF,b1];refine dD (fun k ak aj=>ak 11=.one (.p (dd L))/\ak 12=vi L.length/\ak 13=vi k/\ak 3=.one (.p (.str (EF F L k)))) 0 L.length (bR _) ?_ ?_
 .simp only[go_sem];first|done|rfl|exact⟨rfl,rfl⟩
 rintro k ak aj hk ⟨ie,kG,tX,h3⟩
 by_cases aA:k<L.length
 .have aM:((k:Int)<(L.length:Int)):=aa;have hx:=Cy aA;have jV:=jf hx;have w1:=cU (n:=k) aa;have pw:=axM (F4 _ (aV hx));have lw:=akf (lA L k);have hts:=auo (F:=F) hx;have jr:=uX k;generalize lA L k=x at*;have b2:=Fg (a:=⟨#[32]⟩) (b:=tH x) (by have:(ByteArray.mk #[32]).size=1:=rfl;omega);generalize EF F L k=s at*;have b3:=Fg (a:=s) (b:=⟨#[32]⟩++tH x) (by rw[CY];have:(ByteArray.mk #[32]).size=1:=rfl;omega)
  have pw':aK S 74 [.agg [.p (.int .i64 x.kind),.p (.int .i64 x.gate),.p (.int .i64 x.aw),.p (.int .i64 x.id),.p (.int .i64 x.sign),.p (.bool x.over)]] (.one (.p (.str (tH x)))):=pw;simp only[go_sem,i42_l1,ie,kG,tX,h3,aA,aM,jV,Let.ps,w1,s74,FC pw',b2,b3];first|(rw[hts];rfl)|exact⟨aA,by rw[hts];rfl⟩
 have:k=L.length:=aa;subst this;rw[vT]at h3;simp only[go_sem,i42_l1,i42_r2,kG,tX,h3,eS]
structure aX where
 c:ai
 n:ai
 w:g_
abbrev j_:=List aX
def aX.ps(F:Nat)(m:aX):b_:=[.int .i64 F,dd m.c,.int .i64 F,dd m.n,qf m.w]
abbrev lD(F:Nat)(l:j_):s_:=l.map (aX.ps F)
abbrev Is:Nat:=66
def YS(cS:rm){F:Nat}{L:ai}(w:g_)(hl:L.length<=1000000)(h0:cG (F:Int) L=0):aK S 41 [ez F L,.one (.p (qf w))] (.agg [.p (.int .i64 F),.p (dd L),.p (.int .i64 F),.p (cO (jE L)),.p (qf w)]):=by have pn:=Zc cS (f:=F) hl h0;generalize cO (jE L)=q at*;refine bt c41 ?_;simp only[go_sem,i41,s20,dr pn YB];first|done|rfl
abbrev afT(id:Nat):Prop:=jw id=43
abbrev isAd(id:Nat):Prop:=jw id=46
structure BG (s gq gi:Nat) (es:s_) (k:Nat) (aj:aC):Prop where
 q:aj 1344192192=(gq,some (.var [.hsl s gi 5 0 es.length,.p (.int .i64 k)]))
 b:aj s=(gi,some (.arr Is 5 es))
def tkP(s gq gi:Nat)(es:s_)(k:Nat)(aj:aC)(v:V)(ao:aC):Prop:=
 (k=es.length/\v=.tup [.agg [.p (.int .i64 0),.p .nils,.p (.int .i64 0),.p .nils,.p .nils],vb false]/\ ∀i,¬afT i->ao i=aj i)\/
 ∃e,es[k]?=some e/\v=.tup [.agg (e.map .p),vb true]/\BG s gq gi es (k+1) ao/\ ∀i,¬afT i->i≠1344192192->ao i=aj i
def len5{e:b_}(h:e.length=5):∃x0 x1 x2 x3 x4,e=[x0,x1,x2,x3,x4]:=by
 match e,h with
 |[x0,x1,x2,x3,x4],_=>exact⟨_,_,_,_,_,rfl⟩
def adP(s gq:Nat)(es:s_)(k:Nat)(e:b_)(aj:aC)(v:V)(ao:aC):Prop:=v=.tup []/\(∃g,BG 2944064448 gq g (es++[e]) k ao)/\ ∀i,¬isAd i->i≠1344192192->i≠s->ao i=aj i
abbrev xr(s:Nat):Prop:=s=1344192064\/s=2944064448
def awW{al:Al}{s:Nat}(hs:xr s){aj:aC}{gq gi k:Nat}{es:s_}(oq:al.ok 1344192192=true)(os:al.ok s=true)(ot:al.ok 2752000000=true)(ot2:al.ok 2752128000=true)(h:BG s gq gi es k aj)(h5:∀e∈es,e.length=5)(hl:es.length<=1000000)(hk:k<=es.length):
  ∃v ao,jg S 43 [.one (.aZ 1344192192 gq 0)] al aj v ao/\tkP s gq gi es k aj v ao:=by
 rcases hs with rfl|rfl
 all_goals
  obtain⟨hq,hb⟩:=h;refine nL c43 (iH rfl) ?_;by_cases aA:k<es.length
  .have aH:(((k:Int))==(es.length:Int))=false:=by rw[lS];omega
   obtain⟨e,he⟩:=aL aA;obtain⟨x0,x1,x2,x3,x4,rfl⟩:=len5 (h5 e (aV he));have w1:=cU (n:=k) aa;have w2:IntKind.i64.wrap (((k+1:Nat):Int)-1)=(k:Int):=by rw[xI aa aa];omega
   simp only[go_sem,i43,hq,hb,oq,os,ot,aH,aA,he,w1,w2];refine⟨aJ,aJ,.inr ⟨_,he,rfl,⟨?_,?_⟩,fun i h1 h2=>?_⟩⟩
   .simp only[aP,Nat.reduceEqDiff,if_true,if_false]
   .simp only[aP,Nat.reduceEqDiff,if_false];exact hb
   have h3:i≠2752000000:=fun e=>h1 (by rw[e];rfl);simp only[aP,au h2,au h3]
  have Ef:k=es.length:=aa;subst Ef;have heq:(((es.length:Int))==(es.length:Int))=true:=af;simp only[go_sem,i43,hq,oq,ot,ot2,heq];refine⟨aJ,.inl ⟨rfl,rfl,fun i h1=>?_⟩⟩;have h3:i≠2752000000:=fun e=>h1 (by rw[e];rfl);have h4:i≠2752128000:=fun e=>h1 (by rw[e];rfl);simp only[aP,au h3,au h4]
def alm{al:Al}{s:Nat}(hs:xr s){aj:aC}{gq gi k:Nat}{es:s_}{x0 x1 x2 x3 x4:PV}(oq:al.ok 1344192192=true)(os:al.ok s=true)(oa:al.ok 2944000000=true)(oa2:al.ok 2944064384=true)(oa3:al.ok 2944064448=true)(h:BG s gq gi es k aj)(aH:es≠[])(hl:es.length<=1000000):
  ∃v ao,jg S 46 [.one (.aZ 1344192192 gq 0),.agg [.p x0,.p x1,.p x2,.p x3,.p x4]] al aj v ao/\adP s gq es k [x0.norm,x1.norm,x2.norm,x3.norm,x4.norm] aj v ao:=by
 rcases hs with rfl|rfl
 all_goals
  obtain⟨hq,hb⟩:=h;refine nL c46 (iH rfl) ?_;simp only[go_sem,i46,hq,oq,oa,oa2];refine Hd (site:=2944064448) (bytes:=88) (es:=es) (xs:=[[x0.norm,x1.norm,x2.norm,x3.norm,x4.norm]]) (rd:=[2944064384]) (fun i hi=>?_) (.inr ⟨aH,gi,rfl,?_⟩) ?_ (.inl rfl) (by simp only[dI,fe];omega) fun c' gR r1 u1 je ig ke=>?_
  .simp only[bJ,eo,or_false]at hi;rcases hi with rfl|rfl|rfl<;>assumption
  .simp only[aP,Nat.reduceEqDiff,if_false];exact hb
  .simp[fN,aP]
  have b0:=ig 1344192192 ae ae;simp only[aP,Nat.reduceEqDiff,if_false]at b0;have b1:=b0.trans hq;rcases je with⟨e,_⟩|⟨_,g2,e2,hC⟩
  .simp at e
  cases e2;simp only[go_sem,b1,oq];refine⟨?_,rfl,⟨g2,?_,?_⟩,fun i h1 h2 h3=>?_⟩
  .rcases ke with⟨rfl,rfl⟩|⟨rfl,rfl⟩|⟨rfl,rfl⟩<;>kernel_rfl
  .simp only[aP,if_true]
  .simp only[aP,Nat.reduceEqDiff,if_false];exact hC
  have h4:i≠2944000000:=fun e=>h1 (by rw[e];rfl);have h5:i≠2944064384:=fun e=>h1 (by rw[e];rfl);have h6:i≠2944064448:=fun e=>h1 (by rw[e];rfl);simp only[aP,au h2];rw[ig i h6 h3];simp only[aP,au h4,au h5]
abbrev prP(ps:u_):s_:=ps.map fun p=>[.int .i64 p.1,.int .i64 p.2]
def ik:u_->Int
 |[]=>0
 |p::r=>if p.1=p.2 then ik r else if p.1<p.2 then -1 else 1
def aun{ps:u_}{k:Nat}{p:Int×Int}(h:ps[k]?=some p):(prP ps)[k]?=some [.int .i64 p.1,.int .i64 p.2]:=by rw[fG,h];rfl
def QM{α:Type}{A:List α}{k:Nat}{a:α}(h:A[k]?=some a):A.drop k=a::A.drop (k+1):=by obtain⟨h1,e⟩:=aT.1 h;rw[<-e,uw]
def ahW(ps:u_)(hl:ps.length<=1000000):aK S 53 [.one (.p (.sl (prP ps)))] (ri (ik ps)):=by
 generalize hr:ik ps=r;refine bt c53 ?_;simp only[go_sem,i53];refine dD (fun k ak aj=>ak 5=.one (.p (.sl (prP ps)))/\ak 6=vi ps.length/\ak 7=vi k/\ik (ps.drop k)=r) 0 ps.length (bR _) ?_ ?_
 .simp only[go_sem];first|exact hr|exact⟨rfl,hr⟩
 rintro k ak aj hk ⟨h5,h6,h7,hn⟩
 by_cases aA:k<ps.length
 .have aM:(k:Int)<(ps.length:Int):=aa;obtain⟨p,hp⟩:=aL aA;have gD:=aun hp;have w1:=cU (n:=k) aa;rw[QM hp]at hn;obtain⟨x,y⟩:=p;unfold ik at hn;dsimp only at hn gD;by_cases e:x=y
  .rw[aD e]at hn;subst e;simp only[go_sem,i53_l1,h5,h6,h7,aA,aM,gD,w1];first|exact hn|exact⟨rfl,hn⟩|exact⟨aA,hn⟩
  rw[au e]at hn;have e':(x !=y)=true:=by simpa using e
  by_cases l:x<y
  .rw[aD l]at hn;subst hn;simp only[go_sem,i53_l1,h5,h6,h7,aM,gD,e',l];first|done|rfl
  rw[au l]at hn;subst hn;simp only[go_sem,i53_l1,h5,h6,h7,aM,gD,e',l];first|done|rfl
 have:k=ps.length:=aa;subst this;rw[Mc]at hn;have hn:0=r:=hn;subst hn;simp only[go_sem,i53_l1,i53_r2,h6,h7,eS]
def ahK(b:Bool):aK S 55 [vb b] (ri (if b then 1 else 0)):=by
 cases b
 .refine bt c55 ?_;simp only[go_sem,i55];first|done|rfl
 refine bt c55 ?_;simp only[go_sem,i55];first|done|rfl
def anb{q:Let->Bool}{L:ai}{k:Nat}{x:Let}(h:L[k]?=some x):aq q (L.take (k+1))=aq q (L.take k)+(if q x then 1 else 0):=by rw[IL h,wP];congr 1;show List.countP _ [x]=_;rw[aao]
def aci(F:Int)(L:ai)(hl:L.length<=1000000):aK S 54 [ez F L] (ri ((aq Let.aB L:Nat):Int)):=by
 have hc:∀k,aq Let.aB (L.take k)<=k:=fun k=>by have:=PN (p:=Let.aB) (l:=L.take k);rw[iz]at this;show List.countP _ _<=k;omega
 refine bt c54 ?_;simp only[go_sem,i54];refine dD (fun k ak aj=>ak 7=.one (.p (dd L))/\ak 8=vi L.length/\ak 9=vi k/\ak 3=vi ((aq Let.aB (L.take k):Nat):Int)) 0 L.length (bR _) ?_ ?_
 .simp only[go_sem];first|done|rfl|exact⟨rfl,rfl⟩
 rintro k ak aj hk ⟨h7,h8,h9,h3⟩
 by_cases aA:k<L.length
 .have aM:(k:Int)<(L.length:Int):=aa;have hx:=Cy aA;have jV:=jf hx;have w1:=cU (n:=k) aa;have hs:=anb (q:=Let.aB) hx;have jr:=hc k;have w2:=cU (n:=aq Let.aB (L.take k)) aa;generalize lA L k=x at*;have hcx:x.aB=(x.kind==2):=rfl;rw[hcx]at hs;generalize aq Let.aB (L.take k)=d at*;cases h2:(x.kind==2)with
  |false=>rw[h2]at hs;simp only[go_sem,i54_l1,h7,h8,h9,h3,aA,aM,jV,Let.ps,h2,w1];first|(rw[hs];rfl)|exact⟨aA,by rw[hs];rfl⟩
  |true=>rw[h2]at hs;simp only[go_sem,i54_l1,h7,h8,h9,h3,aA,aM,jV,Let.ps,h2,w1,w2];first|(rw[hs];rfl)|exact⟨aA,by rw[hs];rfl⟩
 have:k=L.length:=aa;subst this;rw[lJ]at h3;simp only[go_sem,i54_l1,i54_r2,h8,h9,h3,eS]
def tx(a b:Let):u_:=[(a.kind,b.kind),(a.gate,b.gate),(a.aw,b.aw),(a.id,b.id),(if a.over then 1 else 0,if b.over then 1 else 0),(a.sign,b.sign)]
def tP:ai->ai->Int
 |a::A,b::B=>if ik (tx a b)=0 then tP A B else ik (tx a b)
 |_,_=>0
def lU(f:Int)(A:ai)(g:Int)(B:ai):u_:=[(f,g),(((aq Let.aB A:Nat):Int),((aq Let.aB B:Nat):Int)),((A.length:Int),(B.length:Int))]
def qC(f:Int)(A:ai)(g:Int)(B:ai):Int:=if ik (lU f A g B)=0 then tP A B else ik (lU f A g B)
def IC{ps:u_}(h:ik ps=0):∀p∈ps,p.1=p.2:=by
 induction ps with
 |nil=>intro p hp;cases hp
 |cons q r ih=>
  unfold ik at h;by_cases e:q.1=q.2
  .rw[aD e]at h;intro p hp;rcases bJ.1 hp with rfl|hp
   .exact e
   exact ih h p hp
  rw[au e]at h;split at h<;>cases h
def Ln{ps:u_}(h:∀p∈ps,p.1=p.2):ik ps=0:=by
 induction ps with
 |nil=>rfl
 |cons q r ih=>unfold ik;rw[aD (h q af)];exact ih fun p hp=>h p (by simp[hp])
def OX{a b:Let}(h:ik (tx a b)=0):a=b:=by
 have h:=IC h;unfold tx at h;simp only[bJ,eo,or_false,forall_eq_or_imp,forall_eq]at h;obtain⟨h1,h2,h3,h4,h5,h6⟩:=h;cases a with|mk k g r i s o=>cases b with|mk k' g' r' i' s' o'=>
 dsimp only at*;have:o=o':=by revert h5;cases o<;>cases o'<;>simp
 subst h1 h2 h3 h4 h6 this;rfl
def abR:∀ {A B:ai},A.length=B.length->tP A B=0->A=B:=by
 intro A
 induction A with
 |nil=>intro B h _;cases B with
  |nil=>rfl
  |cons _ _=>cases h
 |cons a A ih=>
  intro B h h1;cases B with
  |nil=>cases h
  |cons b B=>
   unfold tP at h1;by_cases e:ik (tx a b)=0
   .rw[aD e]at h1;rw[OX e,ih (by simpa using h) h1]
   rw[au e]at h1;exact absurd h1 e
def am4(A:ai):tP A A=0:=by
 induction A with
 |nil=>rfl
 |cons a A ih=>unfold tP;rw[aD (Ln (by unfold tx;simp))];exact ih
def am8{f g:Int}{A B:ai}:qC f A g B=0↔f=g/\A=B:=by
 unfold qC;constructor
 .intro h;by_cases e:ik (lU f A g B)=0
  .rw[aD e]at h;have e:=IC e;unfold lU at e;simp only[bJ,eo,or_false,forall_eq_or_imp,forall_eq]at e;exact⟨e.1,abR aa h⟩
  rw[au e]at h;exact absurd h e
 rintro⟨rfl,rfl⟩
 rw[aD (Ln (by unfold lU;simp))];exact am4 A
def anh(f:Int)(A:ai)(g:Int)(B:ai)(hA:A.length<=1000000)(hB:B.length<=1000000):aK S 28 [ez f A,ez g B] (ri (qC f A g B)):=by
 have c1:=aci f A hA;have c2:=aci g B hB;have po:=ahW (lU f A g B) (by simp[lU]);have po':aK S 53 [.one (.p (.sl [[.int .i64 f,.int .i64 g],[.int .i64 ((aq Let.aB A:Nat):Int),.int .i64 ((aq Let.aB B:Nat):Int)],[.int .i64 A.length,.int .i64 B.length]]))] (ri (ik (lU f A g B))):=po;clear po;generalize hr:qC f A g B=r;unfold qC at hr;by_cases e:ik (lU f A g B)=0
 .rw[aD e]at hr;have hlen:A.length=B.length:=by
   have e:=IC e;unfold lU at e;simp only[bJ,eo,or_false,forall_eq_or_imp,forall_eq]at e;omega
  rw[e]at po';refine bt c28 ?_;simp only[go_sem,i28,s54,s53,ir c1,ir c2,ir po'];refine⟨aJ,?_⟩;refine dD (fun k ak aj=>ak 2=.one (.aZ 1792000000 1 0)/\ak 3=.one (.aZ 1792000064 1 0)/\aj 1792000000=(1,some (.var [.p (.int .i64 f),.p (dd A)]))/\aj 1792000064=(1,some (.var [.p (.int .i64 g),.p (dd B)]))/\ak 33=.one (.p (dd A))/\ak 34=vi A.length/\ak 35=vi k/\tP (A.drop k) (B.drop k)=r) 0 A.length (bR _) ?_ ?_
  .simp only[go_sem];first|exact hr|exact⟨rfl,hr⟩|exact⟨rfl,rfl,hr⟩|trace_state
  rintro k ak aj hk ⟨h2,h3,b0,b1,FI,Hv,h35,hn⟩
  by_cases aA:k<A.length
  .have aM:(k:Int)<(A.length:Int):=aa;have aqi:k<B.length:=aa;have hx:=Cy aA;have hy:=Cy aqi;have jV:=jf hx;have OQ:=jf hy;have w1:=cU (n:=k) aa;rw[QM hx,QM hy]at hn;unfold tP at hn;generalize lA A k=x at*;generalize lA B k=y at*;have n1:=ahK x.over;have n2:=ahK y.over;have pl:=ahW (tx x y) (by simp[tx]);have CQ:aK S 53 [.one (.p (.sl [[.int .i64 x.kind,.int .i64 y.kind],[.int .i64 x.gate,.int .i64 y.gate],[.int .i64 x.aw,.int .i64 y.aw],[.int .i64 x.id,.int .i64 y.id],[.int .i64 (if x.over then 1 else 0),.int .i64 (if y.over then 1 else 0)],[.int .i64 x.sign,.int .i64 y.sign]]))] (ri (ik (tx x y))):=pl;clear pl;by_cases e2:ik (tx x y)=0
   .rw[aD e2]at hn;rw[e2]at CQ;simp only[go_sem,i28_l1,h2,h3,b0,b1,FI,Hv,h35,aA,aM,jV,OQ,Let.ps,w1,s55,s53,ir n1,ir n2,ir CQ];first|exact⟨aJ,hn⟩|exact⟨aJ,aA,hn⟩|trace_state
   rw[au e2]at hn;subst hn;have e2':(ik (tx x y)!=0)=true:=by simpa using e2
   simp only[go_sem,i28_l1,h3,b1,FI,Hv,h35,aM,jV,OQ,Let.ps,s55,s53,ir n1,ir n2,ir CQ,e2'];first|exact⟨aJ,rfl⟩|exact aJ|trace_state
  have:k=A.length:=aa;subst this;rw[Mc]at hn;have hn:0=r:=by rw[<-hn];cases B.drop A.length<;>rfl
  subst hn;simp only[go_sem,i28_l1,i28_r2,Hv,h35,eS];first|done|rfl
 rw[au e]at hr;subst hr;have e':(ik (lU f A g B)!=0)=true:=by simpa using e
 refine bt c28 ?_;simp only[go_sem,i28,s54,s53,ir c1,ir c2,ir po',e'];first|exact⟨aJ,rfl⟩|exact aJ|trace_state
end Go.Abs
namespace Go.Abs
abbrev sN(F:Nat)(l:x_):s_:=l.map fun L=>[.int .i64 F,dd L]
def MJ{F:Nat}{l:x_}{k:Nat}{L:ai}(h:l[k]?=some L):(sN F l)[k]?=some [.int .i64 F,dd L]:=by rw[fG,h];rfl
def nX(F:Nat)(l:x_):Nat->Int
 |0=> -1
 |k+1=>if nX F l k<0 then(k:Int)else if qC F (l.getD k []) F (l.getD (nX F l k).toNat [])<0 then(k:Int)else nX F l k
def Sy(F:Nat)(l:x_):∀k,(k=0/\nX F l k= -1)\/(0<=nX F l k/\nX F l k<k):=by
 intro k
 induction k with
 |zero=>exact .inl ⟨rfl,rfl⟩
 |succ k ih=>
  right;unfold nX;split
  .omega
  split
  .omega
  omega
def agS(F:Nat)(l:x_)(hl:l.length<=1000000)(hL:∀L∈l,L.length<=1000000):aK S 10 [.one (.p (.sl (sN F l)))] (ri (nX F l l.length)):=by
 refine bt c10 ?_;simp only[go_sem,i10];refine dD (fun k ak aj=>ak 0=.one (.p (.sl (sN F l)))/\ak 6=.one (.p (.sl (sN F l)))/\ak 7=vi l.length/\ak 8=vi k/\ak 3=vi (nX F l k)) 0 l.length (bR _) ?_ ?_
 .simp only[go_sem];first|done|rfl|exact⟨rfl,rfl⟩
 rintro k ak aj hk ⟨h0,h6,h7,h8,h3⟩
 by_cases aA:k<l.length
 .have aM:(k:Int)<(l.length:Int):=aa;obtain⟨X,hX⟩:=aL aA;have hXi:=MJ (F:=F) hX;have w1:=cU (n:=k) aa;have hgX:l.getD k []=X:=by rw[dC,hX];rfl
  have cS:(sN F l).length=l.length:=cE ..;have hs:nX F l (k+1)=if nX F l k<0 then(k:Int)else if qC F X F (l.getD (nX F l k).toNat [])<0 then(k:Int)else nX F l k:=by rw[<-hgX];rfl
  rcases Sy F l k with⟨Cg,hb⟩|⟨pM,jh⟩
  .rw[hb]at hs h3;rw[aD ae]at hs;have R0:((-1:Int)<0):=ae;simp only[go_sem,i10_l1,h0,h6,h7,h8,h3,aA,aM,hXi,w1,R0];first|exact⟨aJ,by rw[hs]⟩|exact⟨aJ,aA,by rw[hs]⟩|trace_state
  obtain⟨b,hb⟩:=tJ pM;rw[hb]at hs h3 jh;have sY:b<l.length:=aa;obtain⟨Y,hY⟩:=aL sY;have hYi:=MJ (F:=F) hY;have hgY:l.getD b []=Y:=by rw[dC,hY];rfl
  rw[qu,hgY,au aa]at hs;have R0:¬((b:Int)<0):=aa;have pc:=anh F X F Y (hL X (aV hX)) (hL Y (aV hY));have pc':aK S 28 [.agg [.p (.int .i64 F),.p (dd X)],.agg [.p (.int .i64 F),.p (dd Y)]] (ri (qC F X F Y)):=pc;clear pc;generalize qC F X F Y=o at*;by_cases ho:o<0
  .rw[aD ho]at hs;simp only[go_sem,i10_l1,h0,h6,h7,h8,h3,aA,aM,hXi,hYi,w1,R0,s28,ir pc',ho];first|exact⟨aJ,by rw[hs]⟩|exact⟨aJ,aA,by rw[hs]⟩|trace_state
  rw[au ho]at hs;simp only[go_sem,i10_l1,h0,h6,h7,h8,h3,aA,aM,hXi,hYi,w1,R0,s28,ir pc',ho];first|exact⟨aJ,by rw[hs]⟩|exact⟨aJ,aA,by rw[hs]⟩|trace_state
 have:k=l.length:=aa;subst this;simp only[go_sem,i10_l1,i10_r2,h7,h8,h3,eS]
def rdQ(F:Nat)(L:ai)(x:aS×Bool):Prop:=aK S 27 [ez F L] (LD x.1 x.2)/\(x.2=true->qT F L sE x.1/\ ¬Ix F L)/\(x.2=false->Ix F L)
def auF{F:Nat}{L:ai}(h:cG (F:Int) L=0):∃x,rdQ F L x:=by
 rcases aiE h with⟨m,h1,h3,h2⟩|⟨h1,h2⟩
 .exact⟨(m,true),h2,fun _=>⟨h1,h3⟩,fun h=>(by cases h)⟩
 exact⟨(TN,false),h2,fun h=>(by cases h),fun _=>h1⟩
open Classical in
noncomputable def tD (F:Nat) (L:ai):aS×Bool:=if h:∃x,rdQ F L x then Classical.choose h else(TN,false)
def aiz{F:Nat}{L:ai}(h:cG (F:Int) L=0):rdQ F L (tD F L):=by have he:=auF h;unfold tD;rw[dif_pos he];exact Classical.choose_spec he
abbrev Bq:d_:=[3,8]
def YP:∀k∈Bq,ui k:=by intro k h;simp only[bJ,eo,or_false]at h;unfold ui k5;omega
def lvQ(F:Nat)(L:ai)(ms:g_):Prop:=(ms.length<=8000/\ ∀m∈ms,qT F L Bq m)/\aK S 7 [ez F L,.one (.p (.sl (iP Bq)))] (.tup [.one (aW fD 7 (mP ms)),.one (.p (.int .i64 0))])
open Classical in
noncomputable def iX (F:Nat) (L:ai):g_:=if h:∃ms,lvQ F L ms then Classical.choose h else []
def YM{F:Nat}{L:ai}(h:cG (F:Int) L=0):lvQ F L (iX F L):=by have he:∃ms,lvQ F L ms:=Qe h Bq ae YP;unfold iX;rw[dif_pos he];exact Classical.choose_spec he
abbrev isSt(id:Nat):Prop:=jw id=26
def stP(idv gv:Nat)(b:Bool)(aj:aC)(v:V)(ao:aC):Prop:=v=vb b/\ao idv=(gv,some (.var [.p (.bool b)]))/\ ∀i,¬isSt i->i≠idv->ao i=aj i
def awL{al:Al}{aj:aC}{gv F:Nat}{L:ai}{x2 x3 x4:PV}{b0:Bool}{m:aS}{b:Bool}(hp:aK S 27 [ez F L] (LD m b))(ov:al.ok 512512000=true)(oa:al.ok 1664000000=true)(oa2:al.ok 1664064128=true)(hv:aj 512512000=(gv,some (.var [.p (.bool b0)]))):
  ∃v ao,jg S 26 [.agg [.p (.int .i64 F),.p (dd L),.p x2,.p x3,.p x4],.one (.aZ 512512000 gv 0)] al aj v ao/\stP 512512000 gv b aj v ao:=by
 refine nL c26 (iH rfl) ?_;simp only[go_sem,i26,oa,s27];rw[Nr hp St];refine⟨by simp only[IA,kU,jG],?_⟩;simp only[go_sem,hv,ov];refine⟨rfl,?_,fun i h1 h2=>?_⟩
 .simp only[aP,Nat.reduceEqDiff,if_true,if_false]
 have h3:i≠1664000000:=fun e=>h1 (by rw[e];rfl);simp only[aP,au h2,au h3]
end Go.Abs
namespace Go.Abs
section
variable {al:Al} {Q:dX} {ak:Env} {aj:aC} {os all:h_} {tr:i_} {d:w_}
def apb{f:Nat}{vs:e_}{s ty z:Nat}{rd:a_}{es:s_}{x:PV}(ay:∀i∈s::rd,al.ok i=true)(hp:aK S f vs (.tup [.one (aW ty z es),.one (.p x)]))(eL:S.lone s=false)(hs:(es.all fun e=>e.all PV.scalar)=true)(hx:x.scalar=true)
  (hK:∀(c:C) ao,grown s ty z es (.one c) ao->(∀i,i≠s->ao i=aj i)->RN S al os Q (put ak d (.tup [.one c,.one (.p x)])) ao):gP S al (.pc f vs rd s) d os Q ak aj:=by
 obtain⟨h1,h2,h3⟩:=uh (aj:=aj) (s:=s) (ty:=ty) (z:=z) (es:=es);have gT:(RV.tup [.one (aW ty z es),.one (.p x)]).alone=true:=by have a:=rV (ty:=ty) (z:=z) hs;simp only[RV.alone,iu,iJ,nI,qY,yQ]at a;simp only[RV.alone,iu,ng,iJ,nJ,gn,jG,nI,qY,yQ,a,Df];exact hx
 refine(Nr (v:=.tup [.one (dw aj s (aW ty z es)).1,.one (.p x)]) (u:=(dw aj s (aW ty z es)).2) hp ?_).2 ⟨Ey fun i hi=>ay i ?_,hK _ _ h1 h2⟩
 .rw[eL,xB];unfold land;rw[aD (.inr gT)];simp[jO,iu,ng,iJ,jt,rQ,sH,mS,dw]
 rcases h3 with h|h<;>rw[h]at hi<;>simp at hi<;>simp[hi]
 rcases hi with hi|hi<;>simp[hi]
def apf{f:Nat}{vs:e_}{s ty z:Nat}{rd:a_}{es:s_}{x y:PV}(ay:∀i∈(s+1)::rd,al.ok i=true)(hp:aK S f vs (.tup [.agg [.p x,aW ty z es],.one (.p y)]))(eL:S.lone s=false)(hx:x.scalar=true)(hy:y.scalar=true)(hs:(es.all fun e=>e.all PV.scalar)=true)
  (hK:∀(c:C) ao,grown (s+1) ty z es (.one c) ao->(∀i,i≠s+1->ao i=aj i)->RN S al os Q (put ak d (.tup [.agg [.p x,c],.one (.p y)])) ao):gP S al (.pc f vs rd s) d os Q ak aj:=by
 obtain⟨h1,h2,h3⟩:=uh (aj:=aj) (s:=s+1) (ty:=ty) (z:=z) (es:=es);have gT:(RV.tup [.agg [.p x,aW ty z es],.one (.p y)]).alone=true:=by have a:=rV (ty:=ty) (z:=z) hs;simp only[RV.alone,iu,iJ,nI,qY,yQ]at a;simp only[RV.alone,iu,ng,iJ,nJ,gn,jG,nI,qY,yQ,a,Df];show(x.scalar&&y.scalar)=true;rw[hx,hy];rfl
 refine(Nr (v:=.tup [.agg [.p x,(dw aj (s+1) (aW ty z es)).1],.one (.p y)]) (u:=(dw aj (s+1) (aW ty z es)).2) hp ?_).2 ⟨Ey fun i hi=>ay i ?_,hK _ _ h1 h2⟩
 .rw[eL,xB];unfold land;rw[aD (.inr gT)];simp[jO,iu,ng,iJ,jt,rQ,sH,mS,dw]
 rcases h3 with h|h<;>rw[h]at hi<;>simp at hi<;>simp[hi]
 rcases hi with hi|hi<;>simp[hi]
def YA{s:Nat}{rd:a_}{x0 x1 x2 x3 x4:PV}{l:Bool}(hr:pG aj rd):∃u,land aj rd s ((RV.agg [.p x0,.p x1,.p x2,.p x3,.p x4]).gj l)=some (.agg [.p x0,.p x1,.p x2,.p x3,.p x4],u)/\(∀i,i∉rd->app u aj i=aj i)/\(∀i∈u.map (·.1),i∈rd)/\(u.map (·.1)=[]\/u.map (·.1)=rd):=by
 have hp:(RV.agg [.p x0,.p x1,.p x2,.p x3,.p x4]).gj l=.agg [.p x0,.p x1,.p x2,.p x3,.p x4]:=by cases l<;>rfl
 rw[hp];unfold land;by_cases h:rd=[]\/(RV.agg [.p x0,.p x1,.p x2,.p x3,.p x4]).alone=true
 .rw[aD h];exact⟨[],rfl,fun _ _=>rfl,(fun i hi=>by cases hi),.inl rfl⟩
 rw[au h];obtain⟨fu,h1,h2⟩:=Xl rd rd hr;have:sW aj rd=some fu:=h1;rw[this];refine⟨fu,?_,fun i hi=>GU _ _ _ (by rw[h2];exact hi),fun i hi=>by rw[h2]at hi;exact hi,.inr h2⟩;show some (_,fu++[])=_;rw[jG];rfl
end
abbrev Et(l:List ByteArray):t_:=l.map fun s=>(PV.str s,[PV.bool true])
def aoJ(q:ByteArray):∀(l:List ByteArray) (i:Nat),(l.any (fun s=>q==s)=true/\ ∃j,qF (.str q) (Et l) i=some (some (j,[.bool true])))\/(l.any (fun s=>q==s)=false/\qF (.str q) (Et l) i=some none):=by
 intro l
 induction l with
 |nil=>intro i;exact .inr ⟨rfl,rfl⟩
 |cons a l ih=>
  intro i;have e:qF (.str q) (Et (a::l)) i=match some (q==a)with|some true=>some (some (i,[.bool true]))|some false=>qF (.str q) (Et l) (i+1)|none=>none:=rfl
  rw[e,List.any_cons];cases h:(q==a)with
  |true=>exact .inl ⟨rfl,i,rfl⟩
  |false=>exact ih (i+1)
def aX.key(F:Nat)(m:aX):ByteArray:=oX F m.n
noncomputable def jm (sb:Bool) (F limit:Nat) (a:aX) (st:j_) (m:aS):Nat×j_:=
 if(st.map (aX.key F)).any (fun s=>oX F (bh ((fg F a.c m).getD []))==s)then(0,st)
 else if st.length=limit then(1,st)
 else(if(sb&&(tD F ((fg F a.c m).getD [])).2)=true then 2 else 0,st++[⟨(fg F a.c m).getD [],bh ((fg F a.c m).getD []),a.w++[m]⟩])
noncomputable def gO (sb:Bool) (F limit:Nat) (a:aX):j_->g_->Nat×j_
 |st,[]=>(0,st)
 |st,m::r=>if(jm sb F limit a st m).1=0 then gO sb F limit a (jm sb F limit a st m).2 r else jm sb F limit a st m
noncomputable def jS (sb:Bool) (F limit:Nat):Nat->Nat->j_->Nat×j_
 |0,_,st=>(0,st)
 |f+1,i,st=>match st[i]? with
  |none=>(0,st)
  |some a=>if(gO sb F limit a st (iX F a.c)).1=0 then jS sb F limit f (i+1) (gO sb F limit a st (iX F a.c)).2 else gO sb F limit a st (iX F a.c)
structure uA (F:Nat) (L0:ai) (n:Nat) (m:aX):Prop where
 chk:cG (F:Int) m.c=0
 qk:m.n=bh m.c
 rep:rO F L0 m.w=some m.c
 kind:∀x∈m.w,x.k∈Bq
 len:m.w.length<=n
 same:m.c.length=L0.length
structure wI (sb:Bool) (al:Al):Prop where
 c:∀id,jw id=21->al.ok id=true
 t:al.fs.contains 43=true
 a:al.fs.contains 46=true
 s:sb=true->al.fs.contains 26=true
 v:sb=true->al.ok 512512000=true
def wI.fn{al:Al}{f id:Nat}(h:al.fs.contains f=true)(e:jw id=f):al.ok id=true:=by unfold Al.ok;rw[e,h];simp
def wI.fQ{sb:Bool}{al:Al}(ac:wI sb al):al.ok 1344000000=true/\al.ok 1344064128=true/\al.ok 1344128000=true/\al.ok 1344192064=true/\al.ok 1344192192=true/\al.ok 1344256256=true/\al.ok 1344448128=true/\al.ok 1344448192=true/\al.ok 1344640128=true/\al.ok 1344704193=true/\al.ok 1344704448=true/\al.ok 1344768192=true/\al.ok 1344768320=true/\al.ok 1344768384=true/\al.ok 1344768512=true:=by
 repeat' apply And.intro
 all_goals exact ac.c _ rfl
def Gw:Bool->Nat->V
 |true,gv=>.one (.hfn 26 [] [.aZ 512512000 gv 0])
 |false,_=>.one (.p (.fn 22 [] []))
def bzE:Bool->Nat->Nat×Option Ob->Bool->Nat×Option Ob
 |true,gv,_,b=>(gv,some (.var [.p (.bool b)]))
 |false,_,z,_=>z
def l5(i:Nat):Prop:=jw i=21\/jw i=43\/jw i=46\/jw i=26
def xr.ok{sb:Bool}{al:Al}{s:Nat}(hq:xr s)(ac:wI sb al):al.ok s=true:=by
 rcases hq with rfl|rfl
 .exact ac.c _ rfl
 exact wI.fn ac.a rfl
def xr.own{s:Nat}(hq:xr s):l5 s:=by
 rcases hq with rfl|rfl
 .exact .inl rfl
 exact .inr (.inr (.inl rfl))
def xr.no{s i:Nat}(hq:xr s)(h:¬l5 i):i≠s:=fun e=>h (e▸hq.own)
def xr.ne{s:Nat}(hq:xr s):¬s=1344000000/\ ¬s=1344064128/\ ¬s=1344128000/\ ¬s=1344192192/\ ¬s=1344256256/\ ¬s=1344448128/\ ¬s=1344448192/\ ¬s=1344640128/\ ¬s=1344704193/\ ¬s=1344704448/\ ¬s=1344768192/\ ¬s=1344768320/\ ¬s=1344768384/\ ¬s=1344768512/\ ¬s=512512000:=by rcases hq with rfl|rfl<;>decide
structure xR (sb:Bool) (F limit:Nat) (L0:ai) (gv:Nat) (z:Nat×Option Ob) (r0:a_) (b0:aC) (gq gM:Nat) (st:j_) (k:Nat) (ak:Env) (aj:aC):Prop where
 e1:ak 1=vi limit
 e2:ak 2=Gw sb gv
 e9:ak 9=.one (.kL 1344128000 gM)
 rY:ak 10=.one (.aZ 1344192192 gq 0)
 bM:aj 1344128000=(gM,some (.map false (Et (st.map (aX.key F)))))
 que:∃s,xr s/\ ∃gi,BG s gq gi (lD F st) k aj
 bv:aj 512512000=bzE sb gv z false
 ne:st≠[]
 lim:st.length<=limit
 all:∀m∈st,uA F L0 st.length m
 fr:∀i,¬l5 i->i≠512512000->i∉r0->aj i=b0 i
def Lb(F:Nat)(l:j_):(lD F l).length=l.length:=cE ..
def asB(F:Nat)(l:j_):∀e∈lD F l,e.length=5:=fun e he=>by obtain⟨m,_,rfl⟩:=cJ.1 he;rfl
def sv{i:Nat}{f o:Nat}(h:¬l5 i)(e:jw o=f)(hf:f=21\/f=43\/f=46\/f=26):i≠o:=fun h2=>h (by rw[h2];unfold l5;rw[e];exact hf)
structure EdC (sb:Bool) (F:Nat) (L0:ai) (gv:Nat) (z:Nat×Option Ob) (r0:a_) (b0:aC) (r:Nat×j_) (gq:Nat) (ak:Env) (aj:aC):Prop where
 rY:ak 10=.one (.aZ 1344192192 gq 0)
 que:∃k s,xr s/\ ∃gi,BG s gq gi (lD F r.2) k aj
 bv:aj 512512000=bzE sb gv z (r.1==2)
 ne:r.2≠[]
 all:∀m∈r.2,uA F L0 r.2.length m
 fr:∀i,¬l5 i->i≠512512000->i∉r0->aj i=b0 i
def uA.mono{F:Nat}{L0:ai}{n n':Nat}{m:aX}(h:uA F L0 n m)(hn:n<=n'):uA F L0 n' m:=⟨h.chk,h.qk,h.rep,h.kind,oz h.len hn,h.same⟩
def ajh{F:Nat}{L:ai}(h:cG (F:Int) L=0):∀l∈L,smL l:=by
 intro l hl;have aH:L≠[]:=akz hl;obtain⟨G,e,g⟩:=qG h aH;have hc:=g.len;have hF:=g.fing;have hb:=g.bad l hl;rcases wM hb with hp|hx
 .obtain⟨g0,g1,r0,r1⟩:=g.ok.ax.fi l hl hp;have:=sR (mE l.gate.toNat) L;have hid:l.id=0:=((sB hp).1 hb).1.1.2;simp only[cg]at r1;refine⟨⟨aa,aa⟩,⟨aa,aa⟩,⟨aa,aa⟩⟩
 obtain⟨i1,i2⟩:=g.ids.1 l hl hx;have:=sR Let.aB L;have te:l.gate=0/\l.aw=0:=by unfold dQ at hb;have hk:l.kind=2:=cZ.1 hx;simp[hk]at hb;exact⟨by have:=hb;omega,by have:=hb;omega⟩
 refine⟨⟨aa,aa⟩,⟨aa,aa⟩,⟨aa,aa⟩⟩
def aso{F:Nat}{L0:ai}{n:Nat}{a:aX}{m:aS}(ha:uA F L0 n a)(hm:qT F a.c Bq m):∃M,fg F a.c m=some M/\aK S 44 [ez F a.c,Iv m] (l7 F M)/\cG (F:Int) M=0/\M≠[]/\M.length=a.c.length/\rO F L0 (a.w++[m])=some M:=by
 have aH:a.c≠[]:=by obtain⟨_,⟨v,hv,_⟩,_⟩:=hm;intro e;rw[e]at hv;exact absurd hv (o9 v)
 obtain⟨G,e,g⟩:=qG ha.chk aH;have:F=G:=aa;subst this;have hk:m.k=3\/m.k=8:=by
  have:=hm.1
  simpa using this
 have Bj:k5 m.k:=by unfold k5;omega
 have pa:=abd g Bj m.a m.b m.c m.l m.o m.s;obtain⟨_,_,M0,e0⟩:=hm;rcases Qm g Bj m.a m.b m.c m.l m.o m.s with⟨e,he,h⟩|⟨M,h,hc,_,L,hL,hM⟩
 .rw[e0]at h;exact absurd h (Ta he)
 rw[h]at pa;have hlen:M.length=a.c.length:=by
  rw[hM,Ra];rcases hk with hk|hk
  .rw[hk]at hL;have hL:oI F a.c m.a.toNat m.b.toNat=some L:=hL;unfold oI at hL;split at hL
   .cases hL;rw[qt,qq,qq,eY]
   cases hL
  rw[hk]at hL;have hL:nY F a.c m.a.toNat m.b.toNat m.c.toNat=some L:=hL;unfold nY at hL;split at hL
  .cases hL;rw[qt,eY]
  cases hL
 have qI:=Ut aH h;refine⟨M,qI,pa,hc,?_,hlen,by rw[aiJ m ha.rep];exact qI⟩;intro e;rw[e]at hlen;exact aH (GD.1 hlen.symm)
def szM(l:g_):iG 7 (mP l)=true:=by simp[iG,aS.ps]
def amY{w:g_}(aH:w≠[])(hl:w.length<=1000000):aK S 45 [.one (.p (qf w))] (.one (aW fD 7 (mP w))):=by
 have hs:((mP w).all fun e=>e.length==7)=true:=szM w;have hr:(0+(mP w).length)*48<=room:=by unfold room;rw[cE];omega
 show aK S _ [.one (.p (.sl (mP w)))] _;obtain⟨e0,es,hq⟩:∃e0 es,mP w=e0::es:=by cases w with
  |nil=>exact absurd rfl aH
  |cons a t=>exact⟨_,_,rfl⟩
 rw[hq]at hs hr |-;refine bt c45 ?_;have aH:e0::es≠[]:=af;have te:aW fD 7 (e0::es)=.own fD 7 (e0::es):=au aH;rw[te];unfold room at hr;simp only[jx,dI]at hr;simp only[nI]at hs;simp only[go_sem,i45,gE,iG];simp only[hs,hr,not_true_eq_false,if_true,if_false];simp only[go_sem];exact Lq Ak rfl
section
variable {al:Al} {Q:dX} {ak:Env} {aj:aC} {os all:h_} {tr:i_} {d:w_}
def anE{f:Nat}{vs:e_}{s ty z:Nat}{rd:a_}{es:s_}(ay:∀i∈s::rd,al.ok i=true)(hp:aK S f vs (.one (aW ty z es)))(eL:S.lone s=false)(pV:rd=[]\/(RV.one (aW ty z es)).alone=true)
  (hK:∀(c:C) ao w,grown s ty z es (.one c) ao->(∀i,i≠s->ao i=aj i)->(w=[]\/w=[s])->RD S al all os Q (put ak d (.one c)) ao (tr++[⟨rd++w,w,[]⟩])):dP S al (.pc f vs rd s) d all os Q ak aj tr:=by
 obtain⟨h1,h2,h3⟩:=uh (aj:=aj) (s:=s) (ty:=ty) (z:=z) (es:=es);refine(MV (v:=.one (dw aj s (aW ty z es)).1) (u:=(dw aj s (aW ty z es)).2) hp ?_).2 ⟨Ey fun i hi=>ay i ?_,hK _ _ _ h1 h2 h3⟩
 .rw[eL,xB];unfold land;rw[aD pV];simp[jO,iu,iJ,jt,rQ,mS]
 rcases h3 with h|h<;>rw[h]at hi<;>simp at hi<;>simp[hi]
 rcases hi with hi|hi<;>simp[hi]
end
end Go.Abs
