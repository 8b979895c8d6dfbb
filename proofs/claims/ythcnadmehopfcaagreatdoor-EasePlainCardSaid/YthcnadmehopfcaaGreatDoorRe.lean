/-
  The class search.
-/
import Derived.Test.YthcnadmehopfcaaGreatDoorRd
set_option linter.all false
set_option maxRecDepth 100000
set_option maxHeartbeats 16000000
namespace Go.Abs
theorem Qx{n:Int}(h1: -1000000<=n)(h2:n<=1000000):aK S 70 [vi n] (.one (.p (.str (mg n)))):=by
 refine⟨1,?_⟩;have e:Q8 [vi n]=some (.one (.p (.str (mg n)))):=by show(if -9223372036854775808<=n/\n<=9223372036854775807 then _ else _)=_;rw[aF ⟨aa,aa⟩]
 have h:S.prim 70 [vi n]=some (some (.one (.p (.str (mg n))))):=by rw[<- e];rfl
 rw[gh];simp only[h]
theorem aaA:∀(k n:Nat) (acc:List UInt8),(ze k n acc).length<=k+acc.length:=by
 intro k
 induction k with
 |zero=>intro n acc;simp[ze]
 |succ k ih=>
  intro n acc;unfold ze;cases Nat.blt n 10 with
  |true=>simp only[cond_true,dh];omega
  |false=>simp only[cond_false];have:=ih (Nat.div n 10) (UInt8.ofNat (Nat.add 48 (Nat.mod n 10))::acc);rw[dh] at this;omega
theorem GJ(n:Int):(mg n).size<=40:=by
 unfold mg;show(List.toArray _).size<=40;rw[Sk];cases n with
 |ofNat u=>have:=aaA 20 u [];simp only[ez] at this;show(ze 20 u []).length<=40;omega
 |negSucc u=>have:=aaA 20 (Nat.succ u) [];simp only[ez] at this;show(45::ze 20 (Nat.succ u) []).length<=40;rw[dh];omega
theorem DG{a b:ByteArray}(h:a.size+b.size<=1000000000):Il .add a b=some (.str (a++b)):=by unfold Il;exact aF aa
theorem BD(a b:ByteArray):(a++b).size=a.size+b.size:=ByteArray.size_append
def agU:ByteArray:=⟨#[46]⟩
def sU:ByteArray:=⟨#[117]⟩
def sO:ByteArray:=⟨#[111]⟩
def sPl:ByteArray:=⟨#[43]⟩
def sMi:ByteArray:=⟨#[45]⟩
def sQu:ByteArray:=⟨#[63]⟩
def Fa:ByteArray:=⟨#[32]⟩
def sCo:ByteArray:=⟨#[58]⟩
def vW(l:Let):ByteArray:=
 if l.kind==1 then mg l.gate++agU++mg l.aE
 else if l.kind==2 then (mg l.id++(if l.over then sO else sU))++(if l.sign==1 then sPl else if l.sign== -1 then sMi else sQu)
 else sQu
theorem ah5(l:Let):(vW l).size<=100:=by
 have h1:=GJ l.gate;have h2:=GJ l.aE;have h3:=GJ l.id;have c1:agU.size=1:=rfl;have c2:sU.size=1:=rfl;have c3:sO.size=1:=rfl;have c4:sPl.size=1:=rfl;have c5:sMi.size=1:=rfl;have c6:sQu.size=1:=rfl;unfold vW;split
 .rw[BD,BD];omega
 split
 .rw[BD,BD];split<;>split
  .omega
  .split<;>omega
  .omega
  split<;>omega
 omega
def smL(l:Let):Prop:=(-1000000<=l.gate/\l.gate<=1000000)/\(-1000000<=l.aE/\l.aE<=1000000)/\(-1000000<=l.id/\l.id<=1000000)
theorem avC{l:Let}(h:smL l):aK S 71 [JT l] (.one (.p (.str (vW l)))):=by
 obtain⟨⟨g1,g2⟩,⟨r1,r2⟩,⟨i1,i2⟩⟩:=h;have pg:=Qx g1 g2;have pr:=Qx r1 r2;have pi:=Qx i1 i2;have lg:=GJ l.gate;have lr:=GJ l.aE;have li:=GJ l.id;have CR:S.shared 70=false:=ah;have b1:=DG (a:=mg l.gate) (b:=⟨#[46]⟩) (by have:(ByteArray.mk #[46]).size=1:=rfl;omega);have b2:=DG (a:=mg l.gate++⟨#[46]⟩) (b:=mg l.aE) (by rw[BD];have:(ByteArray.mk #[46]).size=1:=rfl;omega);have b3:=DG (a:=mg l.id) (b:=⟨#[117]⟩) (by have:(ByteArray.mk #[117]).size=1:=rfl;omega);have b4:=DG (a:=mg l.id) (b:=⟨#[111]⟩) (by have:(ByteArray.mk #[111]).size=1:=rfl;omega);have fin:∀(x:ByteArray) (c:ByteArray),(x=⟨#[117]⟩\/x=⟨#[111]⟩)->c.size=1->Il .add (mg l.id++x) c=some (.str (mg l.id++x++c)):=fun x c hx hc=>by
  refine DG ?_;rw[BD];rcases hx with rfl|rfl
  .have:(ByteArray.mk #[117]).size=1:=rfl;omega
  have:(ByteArray.mk #[111]).size=1:=rfl;omega
 have u1:=fin ⟨#[117]⟩ ⟨#[43]⟩ (.inl rfl) rfl;have u2:=fin ⟨#[117]⟩ ⟨#[45]⟩ (.inl rfl) rfl;have u3:=fin ⟨#[117]⟩ ⟨#[63]⟩ (.inl rfl) rfl;have o1:=fin ⟨#[111]⟩ ⟨#[43]⟩ (.inr rfl) rfl;have o2:=fin ⟨#[111]⟩ ⟨#[45]⟩ (.inr rfl) rfl;have o3:=fin ⟨#[111]⟩ ⟨#[63]⟩ (.inr rfl) rfl;have hw:vW l=if l.kind==1 then mg l.gate++⟨#[46]⟩++mg l.aE
  else if l.kind==2 then (mg l.id++(if l.over then ⟨#[111]⟩ else ⟨#[117]⟩))++(if l.sign==1 then ⟨#[43]⟩ else if l.sign== -1 then ⟨#[45]⟩ else ⟨#[63]⟩)
  else ⟨#[63]⟩:=rfl
 rw[hw];cases k1:(l.kind==1) with
 |true=>simp only[if_true];refine bh c71 ?_;simp only[go_sem,i71,k1,CR,aaw pg,aaw pr,b1,b2];first|done|exact⟨aH,rfl⟩|exact aH
 |false=>
  cases k2:(l.kind==2) with
  |true=>
   simp only[dx,if_true,if_false];cases ho:l.over with
   |true=>
    cases s1:(l.sign==1) with
    |true=>refine bh c71 ?_;simp only[go_sem,i71,k1,k2,ho,s1,CR,DY pi,b3,b4,o1];first|done|rfl
    |false=>
     cases s2:(l.sign== -1) with
     |true=>refine bh c71 ?_;simp only[go_sem,i71,k1,k2,ho,s1,s2,CR,DY pi,b3,b4,o2];first|done|rfl
     |false=>refine bh c71 ?_;simp only[go_sem,i71,k1,k2,ho,s1,s2,CR,DY pi,b3,b4,o3];first|done|rfl
   |false=>
    cases s1:(l.sign==1) with
    |true=>refine bh c71 ?_;simp only[go_sem,i71,k1,k2,ho,s1,CR,DY pi,b3,u1];first|done|rfl
    |false=>
     cases s2:(l.sign== -1) with
     |true=>refine bh c71 ?_;simp only[go_sem,i71,k1,k2,ho,s1,s2,CR,DY pi,b3,u2];first|done|rfl
     |false=>refine bh c71 ?_;simp only[go_sem,i71,k1,k2,ho,s1,s2,CR,DY pi,b3,u3];first|done|rfl
  |false=>simp only[dx,if_false];refine bh c71 ?_;simp only[go_sem,i71,k1,k2];first|done|rfl
def Bx(F:Int)(L:List Let):ByteArray:=L.foldl (fun s l=>s++(Fa++vW l)) (mg F++sCo)
theorem ar8(F:Int):∀(L:List Let) (s:ByteArray) (k:Nat),s.size<=41+101*k->(L.foldl (fun s l=>s++(Fa++vW l)) s).size<=41+101*(k+L.length):=by
 intro L
 induction L with
 |nil=>intro s k h;exact h
 |cons l L ih=>
  intro s k h;have:=ih (s++(Fa++vW l)) (k+1) (by have:=ah5 l;rw[BD,BD];have c:Fa.size=1:=rfl;omega)
  rw[dh];show(List.foldl (fun s l=>s++(Fa++vW l)) (s++(Fa++vW l)) L).size<=_;omega
def Di(F:Int)(L:List Let)(k:Nat):ByteArray:=(L.take k).foldl (fun s l=>s++(Fa++vW l)) (mg F++sCo)
theorem ar2{F:Int}{L:List Let}{k:Nat}{x:Let}(h:L[k]?=some x):Di F L (k+1)=Di F L k++(Fa++vW x):=by unfold Di;rw[Hn h,HF];rfl
theorem agi{F:Int}{L:List Let}(hF: -1000000<=F/\F<=1000000)(hl:L.length<=1000000)(Be:∀l∈L,smL l):aK S 42 [dR F L] (.one (.p (.str (Bx F L)))):=by
 have pF:=Qx hF.1 hF.2;have lF:=GJ F;have CR:S.shared 70=false:=ah;have b1:=DG (a:=mg F) (b:=⟨#[58]⟩) (by have:(ByteArray.mk #[58]).size=1:=rfl;omega);have tL:∀k,(Di F L k).size<=41+101*k:=fun k=>by have:=ar8 F (L.take k) (mg F++sCo) 0 (by rw[BD];have:sCo.size=1:=rfl;omega);rw[fX] at this;unfold Di;omega
 have uI:Di F L L.length=Bx F L:=by unfold Di Bx;rw[jQ]
 generalize Bx F L=res at uI;refine bh c42 ?_;simp only[go_sem,i42,CR,DY pF,b1];refine cU (fun k ak aj=>ak 11=.one (.p (cK L))/\ak 12=vi L.length/\ak 13=vi k/\ak 3=.one (.p (.str (Di F L k)))) 0 L.length (bl _) ?_ ?_
 .simp only[go_sem];first|done|rfl|exact⟨rfl,rfl⟩
 rintro k ak aj hk ⟨gk,iT,sC,h3⟩
 by_cases au:k<L.length
 .have aL:((k:Int)<(L.length:Int)):=aa;have hx:=Bi au;have jt:=ia hx;have w1:=cA (n:=k) aa;have pw:=avC (Be _ (aU hx));have lw:=ah5 (lA L k);have hts:=ar2 (F:=F) hx;have jk:=tL k;generalize lA L k=x at*;have b2:=DG (a:=⟨#[32]⟩) (b:=vW x) (by have:(ByteArray.mk #[32]).size=1:=rfl;omega);generalize Di F L k=s at*;have b3:=DG (a:=s) (b:=⟨#[32]⟩++vW x) (by rw[BD];have:(ByteArray.mk #[32]).size=1:=rfl;omega)
  have pw':aK S 71 [.agg [.p (.int .i64 x.kind),.p (.int .i64 x.gate),.p (.int .i64 x.aE),.p (.int .i64 x.id),.p (.int .i64 x.sign),.p (.bool x.over)]] (.one (.p (.str (vW x)))):=pw;simp only[go_sem,i42_l1,gk,iT,sC,h3,au,aL,jt,Let.ps,w1,s71,DY pw',b2,b3];first|(rw[hts];rfl)|exact⟨au,by rw[hts];rfl⟩
 have:k=L.length:=aa;subst this;rw[uI] at h3;simp only[go_sem,i42_l1,i42_r2,iT,sC,h3,dT]
structure cE where
 c:List Let
 n:List Let
 w:List aP
def cE.ps(F:Nat)(m:cE):List PV:=[.int .i64 F,cK m.c,.int .i64 F,cK m.n,oz m.w]
abbrev ky(F:Nat)(l:List cE):List (List PV):=l.map (cE.ps F)
abbrev GS:Nat:=69
theorem W9(bR:pX){F:Nat}{L:List Let}(w:List aP)(hl:L.length<=1000000)(h0:cQ (F:Int) L=0):aK S 41 [dR F L,.one (.p (oz w))] (.agg [.p (.int .i64 F),.p (cK L),.p (.int .i64 F),.p (cO (gU L)),.p (oz w)]):=by have pn:=QM bR (f:=F) hl h0;generalize cO (gU L)=q at*;refine bh c41 ?_;simp only[go_sem,i41,s8,cV pn Qz];first|done|rfl
abbrev adN(id:Nat):Prop:=iN id=43
abbrev isAd(id:Nat):Prop:=iN id=47
structure Av (s gq gi:Nat) (es:List (List PV)) (k:Nat) (aj:aA):Prop where
 q:aj 1536192192=(gq,some (.var [.hsl s gi 5 0 es.length,.p (.int .i64 k)]))
 b:aj s=(gi,some (.arr GS 5 es))
def tkP(s gq gi:Nat)(es:List (List PV))(k:Nat)(aj:aA)(v:V)(ao:aA):Prop:=
 (k=es.length/\v=.tup [.agg [.p (.int .i64 0),.p .nils,.p (.int .i64 0),.p .nils,.p .nils],vb false]/\ ∀i,¬adN i->ao i=aj i)\/
 ∃e,es[k]?=some e/\v=.tup [.agg (e.map .p),vb true]/\Av s gq gi es (k+1) ao/\ ∀i,¬adN i->i≠1536192192->ao i=aj i
theorem len5{e:List PV}(h:e.length=5):∃x0 x1 x2 x3 x4,e=[x0,x1,x2,x3,x4]:=by
 match e,h with
 |[x0,x1,x2,x3,x4],_=>exact⟨_,_,_,_,_,rfl⟩
def adP(s gq:Nat)(es:List (List PV))(k:Nat)(e:List PV)(aj:aA)(v:V)(ao:aA):Prop:=v=.tup []/\(∃g,Av 3008064448 gq g (es++[e]) k ao)/\ ∀i,¬isAd i->i≠1536192192->i≠s->ao i=aj i
abbrev vH(s:Nat):Prop:=s=1536192064\/s=3008064448
theorem auG{al:Al}{s:Nat}(hs:vH s){aj:aA}{gq gi k:Nat}{es:List (List PV)}(oq:al.ok 1536192192=true)(os:al.ok s=true)(ot:al.ok 2752000000=true)(ot2:al.ok 2752128000=true)(h:Av s gq gi es k aj)(h5:∀e∈es,e.length=5)(hl:es.length<=1000000)(hk:k<=es.length):
  ∃v ao,iF S 43 [.one (.aY 1536192192 gq 0)] al aj v ao/\tkP s gq gi es k aj v ao:=by
 rcases hs with rfl|rfl
 all_goals
  obtain⟨hq,hb⟩:=h;refine mA c43 (ig rfl) ?_;by_cases au:k<es.length
  .have aI:(((k:Int))==(es.length:Int))=false:=by rw[lE];omega
   obtain⟨e,he⟩:=aM au;obtain⟨x0,x1,x2,x3,x4,rfl⟩:=len5 (h5 e (aU he));have w1:=cA (n:=k) aa;have w2:IntKind.i64.wrap (((k+1:Nat):Int)-1)=(k:Int):=by rw[vX aa aa];omega
   simp only[go_sem,i43,hq,hb,oq,os,ot,aI,au,he,w1,w2];refine⟨aH,aH,.inr ⟨_,he,rfl,⟨?_,?_⟩,fun i h1 h2=>?_⟩⟩
   .simp only[aN,Nat.reduceEqDiff,if_true,if_false]
   .simp only[aN,Nat.reduceEqDiff,if_false];exact hb
   have h3:i≠2752000000:=fun e=>h1 (by rw[e];rfl);simp only[aN,ay h2,ay h3]
  have CI:k=es.length:=aa;subst CI;have heq:(((es.length:Int))==(es.length:Int))=true:=af;simp only[go_sem,i43,hq,oq,ot,ot2,heq];refine⟨aH,.inl ⟨rfl,rfl,fun i h1=>?_⟩⟩;have h3:i≠2752000000:=fun e=>h1 (by rw[e];rfl);have h4:i≠2752128000:=fun e=>h1 (by rw[e];rfl);simp only[aN,ay h3,ay h4]
theorem ai5{al:Al}{s:Nat}(hs:vH s){aj:aA}{gq gi k:Nat}{es:List (List PV)}{x0 x1 x2 x3 x4:PV}(oq:al.ok 1536192192=true)(os:al.ok s=true)(oa:al.ok 3008000000=true)(oa2:al.ok 3008064384=true)(oa3:al.ok 3008064448=true)(h:Av s gq gi es k aj)(aI:es≠[])(hl:es.length<=1000000):
  ∃v ao,iF S 47 [.one (.aY 1536192192 gq 0),.agg [.p x0,.p x1,.p x2,.p x3,.p x4]] al aj v ao/\adP s gq es k [x0.norm,x1.norm,x2.norm,x3.norm,x4.norm] aj v ao:=by
 rcases hs with rfl|rfl
 all_goals
  obtain⟨hq,hb⟩:=h;refine mA c47 (ig rfl) ?_;simp only[go_sem,i47,hq,oq,oa,oa2];refine FP (site:=3008064448) (bytes:=88) (es:=es) (xs:=[[x0.norm,x1.norm,x2.norm,x3.norm,x4.norm]]) (rd:=[3008064384]) (fun i hi=>?_) (.inr ⟨aI,gi,rfl,?_⟩) ?_ (.inl rfl) (by simp only[dh,ez];omega) fun c' fT r1 u1 iC gn jE=>?_
  .simp only[cM,gC,or_false] at hi;rcases hi with rfl|rfl|rfl<;>assumption
  .simp only[aN,Nat.reduceEqDiff,if_false];exact hb
  .simp[fh,aN]
  have b0:=gn 1536192192 ae ae;simp only[aN,Nat.reduceEqDiff,if_false] at b0;have b1:=b0.trans hq;rcases iC with ⟨e,_⟩|⟨_,g2,e2,hC⟩
  .simp at e
  cases e2;simp only[go_sem,b1,oq];refine⟨?_,rfl,⟨g2,?_,?_⟩,fun i h1 h2 h3=>?_⟩
  .rcases jE with ⟨rfl,rfl⟩|⟨rfl,rfl⟩|⟨rfl,rfl⟩<;>kernel_rfl
  .simp only[aN,if_true]
  .simp only[aN,Nat.reduceEqDiff,if_false];exact hC
  have h4:i≠3008000000:=fun e=>h1 (by rw[e];rfl);have h5:i≠3008064384:=fun e=>h1 (by rw[e];rfl);have h6:i≠3008064448:=fun e=>h1 (by rw[e];rfl);simp only[aN,ay h2];rw[gn i h6 h3];simp only[aN,ay h4,ay h5]
abbrev prP(ps:List (Int×Int)):List (List PV):=ps.map fun p=>[.int .i64 p.1,.int .i64 p.2]
def s0:List (Int×Int)->Int
 |[]=>0
 |p::r=>if p.1=p.2 then s0 r else if p.1<p.2 then -1 else 1
theorem ar1{ps:List (Int×Int)}{k:Nat}{p:Int×Int}(h:ps[k]?=some p):(prP ps)[k]?=some [.int .i64 p.1,.int .i64 p.2]:=by rw[fQ,h];rfl
theorem O9{α:Type}{A:List α}{k:Nat}{a:α}(h:A[k]?=some a):A.drop k=a::A.drop (k+1):=by obtain⟨h1,e⟩:=aW.1 h;rw[<- e,tj]
theorem afQ(ps:List (Int×Int))(hl:ps.length<=1000000):aK S 61 [.one (.p (.sl (prP ps)))] (ri (s0 ps)):=by
 generalize hr:s0 ps=r;refine bh c61 ?_;simp only[go_sem,i61];refine cU (fun k ak aj=>ak 5=.one (.p (.sl (prP ps)))/\ak 6=vi ps.length/\ak 7=vi k/\s0 (ps.drop k)=r) 0 ps.length (bl _) ?_ ?_
 .simp only[go_sem];first|exact hr|exact⟨rfl,hr⟩
 rintro k ak aj hk ⟨h5,h6,h7,hn⟩
 by_cases au:k<ps.length
 .have aL:(k:Int)<(ps.length:Int):=aa;obtain⟨p,hp⟩:=aM au;have gD:=ar1 hp;have w1:=cA (n:=k) aa;rw[O9 hp] at hn;obtain⟨x,y⟩:=p;unfold s0 at hn;dsimp only at hn gD;by_cases e:x=y
  .rw[aF e] at hn;subst e;simp only[go_sem,i61_l1,h5,h6,h7,au,aL,gD,w1];first|exact hn|exact⟨rfl,hn⟩|exact⟨au,hn⟩
  rw[ay e] at hn;have e':(x !=y)=true:=by simpa using e
  by_cases l:x<y
  .rw[aF l] at hn;subst hn;simp only[go_sem,i61_l1,h5,h6,h7,aL,gD,e',l];first|done|rfl
  rw[ay l] at hn;subst hn;simp only[go_sem,i61_l1,h5,h6,h7,aL,gD,e',l];first|done|rfl
 have:k=ps.length:=aa;subst this;rw[K0] at hn;have hn:0=r:=hn;subst hn;simp only[go_sem,i61_l1,i61_r2,h6,h7,dT]
theorem afI(b:Bool):aK S 63 [vb b] (ri (if b then 1 else 0)):=by
 cases b
 .refine bh c63 ?_;simp only[go_sem,i63];first|done|rfl
 refine bh c63 ?_;simp only[go_sem,i63];first|done|rfl
theorem akH{q:Let->Bool}{L:List Let}{k:Nat}{x:Let}(h:L[k]?=some x):aw q (L.take (k+1))=aw q (L.take k)+(if q x then 1 else 0):=by rw[Hn h,AM];congr 1;show List.countP _ [x]=_;rw[Yp]
theorem aar(F:Int)(L:List Let)(hl:L.length<=1000000):aK S 62 [dR F L] (ri ((aw Let.aC L:Nat):Int)):=by
 have hc:∀k,aw Let.aC (L.take k)<=k:=fun k=>by have:=KZ (p:=Let.aC) (l:=L.take k);rw[fX] at this;show List.countP _ _<=k;omega
 refine bh c62 ?_;simp only[go_sem,i62];refine cU (fun k ak aj=>ak 7=.one (.p (cK L))/\ak 8=vi L.length/\ak 9=vi k/\ak 3=vi ((aw Let.aC (L.take k):Nat):Int)) 0 L.length (bl _) ?_ ?_
 .simp only[go_sem];first|done|rfl|exact⟨rfl,rfl⟩
 rintro k ak aj hk ⟨h7,h8,h9,h3⟩
 by_cases au:k<L.length
 .have aL:(k:Int)<(L.length:Int):=aa;have hx:=Bi au;have jt:=ia hx;have w1:=cA (n:=k) aa;have hs:=akH (q:=Let.aC) hx;have jk:=hc k;have w2:=cA (n:=aw Let.aC (L.take k)) aa;generalize lA L k=x at*;have hcx:x.aC=(x.kind==2):=rfl;rw[hcx] at hs;generalize aw Let.aC (L.take k)=d at*;cases h2:(x.kind==2) with
  |false=>rw[h2] at hs;simp only[go_sem,i62_l1,h7,h8,h9,h3,au,aL,jt,Let.ps,h2,w1];first|(rw[hs];rfl)|exact⟨au,by rw[hs];rfl⟩
  |true=>rw[h2] at hs;simp only[go_sem,i62_l1,h7,h8,h9,h3,au,aL,jt,Let.ps,h2,w1,w2];first|(rw[hs];rfl)|exact⟨au,by rw[hs];rfl⟩
 have:k=L.length:=aa;subst this;rw[jQ] at h3;simp only[go_sem,i62_l1,i62_r2,h8,h9,h3,dT]
def GN(a b:Let):List (Int×Int):=[(a.kind,b.kind),(a.gate,b.gate),(a.aE,b.aE),(a.id,b.id),(if a.over then 1 else 0,if b.over then 1 else 0),(a.sign,b.sign)]
def O2:List Let->List Let->Int
 |a::A,b::B=>if s0 (GN a b)=0 then O2 A B else s0 (GN a b)
 |_,_=>0
def Ek(f:Int)(A:List Let)(g:Int)(B:List Let):List (Int×Int):=[(f,g),(((aw Let.aC A:Nat):Int),((aw Let.aC B:Nat):Int)),((A.length:Int),(B.length:Int))]
def FL(f:Int)(A:List Let)(g:Int)(B:List Let):Int:=if s0 (Ek f A g B)=0 then O2 A B else s0 (Ek f A g B)
theorem aqR{ps:List (Int×Int)}(h:s0 ps=0):∀p∈ps,p.1=p.2:=by
 induction ps with
 |nil=>intro p hp;cases hp
 |cons q r ih=>
  unfold s0 at h;by_cases e:q.1=q.2
  .rw[aF e] at h;intro p hp;rcases cM.1 hp with rfl|hp
   .exact e
   exact ih h p hp
  rw[ay e] at h;split at h<;>cases h
theorem akK(f:Int)(A:List Let)(g:Int)(B:List Let)(hA:A.length<=1000000)(hB:B.length<=1000000):aK S 37 [dR f A,dR g B] (ri (FL f A g B)):=by
 have c1:=aar f A hA;have c2:=aar g B hB;have po:=afQ (Ek f A g B) (by simp[Ek]);have po':aK S 61 [.one (.p (.sl [[.int .i64 f,.int .i64 g],[.int .i64 ((aw Let.aC A:Nat):Int),.int .i64 ((aw Let.aC B:Nat):Int)],[.int .i64 A.length,.int .i64 B.length]]))] (ri (s0 (Ek f A g B))):=po;clear po;generalize hr:FL f A g B=r;unfold FL at hr;by_cases e:s0 (Ek f A g B)=0
 .rw[aF e] at hr;have hlen:A.length=B.length:=by
   have e:=aqR e;unfold Ek at e;simp only[cM,gC,or_false,forall_eq_or_imp,forall_eq] at e;omega
  rw[e] at po';refine bh c37 ?_;simp only[go_sem,i37,s62,s61,gJ c1,gJ c2,gJ po'];refine⟨aH,?_⟩;refine cU (fun k ak aj=>ak 2=.one (.aY 2368000000 1 0)/\ak 3=.one (.aY 2368000064 1 0)/\aj 2368000000=(1,some (.var [.p (.int .i64 f),.p (cK A)]))/\aj 2368000064=(1,some (.var [.p (.int .i64 g),.p (cK B)]))/\ak 33=.one (.p (cK A))/\ak 34=vi A.length/\ak 35=vi k/\O2 (A.drop k) (B.drop k)=r) 0 A.length (bl _) ?_ ?_
  .simp only[go_sem];first|exact hr|exact⟨rfl,hr⟩|exact⟨rfl,rfl,hr⟩|trace_state
  rintro k ak aj hk ⟨h2,h3,b0,b1,Ec,F6,h35,hn⟩
  by_cases au:k<A.length
  .have aL:(k:Int)<(A.length:Int):=aa;have Wa:k<B.length:=aa;have hx:=Bi au;have hy:=Bi Wa;have jt:=ia hx;have NA:=ia hy;have w1:=cA (n:=k) aa;rw[O9 hx,O9 hy] at hn;unfold O2 at hn;generalize lA A k=x at*;generalize lA B k=y at*;have n1:=afI x.over;have n2:=afI y.over;have pl:=afQ (GN x y) (by simp[GN]);have Bu:aK S 61 [.one (.p (.sl [[.int .i64 x.kind,.int .i64 y.kind],[.int .i64 x.gate,.int .i64 y.gate],[.int .i64 x.aE,.int .i64 y.aE],[.int .i64 x.id,.int .i64 y.id],[.int .i64 (if x.over then 1 else 0),.int .i64 (if y.over then 1 else 0)],[.int .i64 x.sign,.int .i64 y.sign]]))] (ri (s0 (GN x y))):=pl;clear pl;by_cases e2:s0 (GN x y)=0
   .rw[aF e2] at hn;rw[e2] at Bu;simp only[go_sem,i37_l1,h2,h3,b0,b1,Ec,F6,h35,au,aL,jt,NA,Let.ps,w1,s63,s61,gJ n1,gJ n2,gJ Bu];first|exact⟨aH,hn⟩|exact⟨aH,au,hn⟩|trace_state
   rw[ay e2] at hn;subst hn;have e2':(s0 (GN x y)!=0)=true:=by simpa using e2
   simp only[go_sem,i37_l1,h3,b1,Ec,F6,h35,aL,jt,NA,Let.ps,s63,s61,gJ n1,gJ n2,gJ Bu,e2'];first|exact⟨aH,rfl⟩|exact aH|trace_state
  have:k=A.length:=aa;subst this;rw[K0] at hn;have hn:0=r:=by rw[<- hn];cases B.drop A.length<;>rfl
  subst hn;simp only[go_sem,i37_l1,i37_r2,F6,h35,dT];first|done|rfl
 rw[ay e] at hr;subst hr;have e':(s0 (Ek f A g B)!=0)=true:=by simpa using e
 refine bh c37 ?_;simp only[go_sem,i37,s62,s61,gJ c1,gJ c2,gJ po',e'];first|exact⟨aH,rfl⟩|exact aH|trace_state
end Go.Abs
namespace Go.Abs
abbrev se(F:Nat)(l:List (List Let)):List (List PV):=l.map fun L=>[.int .i64 F,cK L]
theorem ZU{F:Nat}{l:List (List Let)}{k:Nat}{L:List Let}(h:l[k]?=some L):(se F l)[k]?=some [.int .i64 F,cK L]:=by rw[fQ,h];rfl
def uN(F:Nat)(l:List (List Let)):Nat->Int
 |0=> -1
 |k+1=>if uN F l k<0 then (k:Int) else if FL F (l.getD k []) F (l.getD (uN F l k).toNat [])<0 then (k:Int) else uN F l k
theorem W6(F:Nat)(l:List (List Let)):∀k,(k=0/\uN F l k= -1)\/(0<=uN F l k/\uN F l k<k):=by
 intro k
 induction k with
 |zero=>exact .inl ⟨rfl,rfl⟩
 |succ k ih=>
  right;unfold uN;split
  .omega
  split
  .omega
  omega
theorem apn(F:Nat)(l:List (List Let))(hl:l.length<=1000000)(hL:∀L∈l,L.length<=1000000):aK S 21 [.one (.p (.sl (se F l)))] (ri (uN F l l.length)):=by
 refine bh c21 ?_;simp only[go_sem,i21];refine cU (fun k ak aj=>ak 0=.one (.p (.sl (se F l)))/\ak 6=.one (.p (.sl (se F l)))/\ak 7=vi l.length/\ak 8=vi k/\ak 3=vi (uN F l k)) 0 l.length (bl _) ?_ ?_
 .simp only[go_sem];first|done|rfl|exact⟨rfl,rfl⟩
 rintro k ak aj hk ⟨h0,h6,h7,h8,h3⟩
 by_cases au:k<l.length
 .have aL:(k:Int)<(l.length:Int):=aa;obtain⟨X,hX⟩:=aM au;have hXi:=ZU (F:=F) hX;have w1:=cA (n:=k) aa;have hgX:l.getD k []=X:=by rw[di,hX];rfl
  have bR:(se F l).length=l.length:=cD ..;have hs:uN F l (k+1)=if uN F l k<0 then (k:Int) else if FL F X F (l.getD (uN F l k).toNat [])<0 then (k:Int) else uN F l k:=by rw[<- hgX];rfl
  rcases W6 F l k with ⟨A5,hb⟩|⟨mJ,ir⟩
  .rw[hb] at hs h3;rw[aF ae] at hs;have Qb:((-1:Int)<0):=ae;simp only[go_sem,i21_l1,h0,h6,h7,h8,h3,au,aL,hXi,w1,Qb];first|exact⟨aH,by rw[hs]⟩|exact⟨aH,au,by rw[hs]⟩|trace_state
  obtain⟨b,hb⟩:=th mJ;rw[hb] at hs h3 ir;have tG:b<l.length:=aa;obtain⟨Y,hY⟩:=aM tG;have hYi:=ZU (F:=F) hY;have hgY:l.getD b []=Y:=by rw[di,hY];rfl
  rw[vZ,hgY,ay aa] at hs;have Qb:¬((b:Int)<0):=aa;have pc:=akK F X F Y (hL X (aU hX)) (hL Y (aU hY));have pc':aK S 37 [.agg [.p (.int .i64 F),.p (cK X)],.agg [.p (.int .i64 F),.p (cK Y)]] (ri (FL F X F Y)):=pc;clear pc;generalize FL F X F Y=o at*;by_cases ho:o<0
  .rw[aF ho] at hs;simp only[go_sem,i21_l1,h0,h6,h7,h8,h3,au,aL,hXi,hYi,w1,Qb,s37,gJ pc',ho];first|exact⟨aH,by rw[hs]⟩|exact⟨aH,au,by rw[hs]⟩|trace_state
  rw[ay ho] at hs;simp only[go_sem,i21_l1,h0,h6,h7,h8,h3,au,aL,hXi,hYi,w1,Qb,s37,gJ pc',ho];first|exact⟨aH,by rw[hs]⟩|exact⟨aH,au,by rw[hs]⟩|trace_state
 have:k=l.length:=aa;subst this;simp only[go_sem,i21_l1,i21_r2,h7,h8,h3,dT]
def rdQ(F:Nat)(L:List Let)(x:aP×Bool):Prop:=aK S 30 [dR F L] (BA x.1 x.2)/\(x.2=true->qV F L vQ x.1/\ ¬Db F L)/\(x.2=false->Db F L)
theorem asi{F:Nat}{L:List Let}(h:cQ (F:Int) L=0):∃x,rdQ F L x:=by
 rcases agy h with ⟨m,h1,h3,h2⟩|⟨h1,h2⟩
 .exact⟨(m,true),h2,fun _=>⟨h1,h3⟩,fun h=>(by cases h)⟩
 exact⟨(Ow,false),h2,fun h=>(by cases h),fun _=>h1⟩
open Classical in
noncomputable def Af (F:Nat) (L:List Let):aP×Bool:=if h:∃x,rdQ F L x then Classical.choose h else (Ow,false)
theorem agu{F:Nat}{L:List Let}(h:cQ (F:Int) L=0):rdQ F L (Af F L):=by have he:=asi h;unfold Af;rw[dif_pos he];exact Classical.choose_spec he
abbrev EN:List Int:=[3,8]
theorem afa:∀k∈EN,sW k:=by intro k h;simp only[cM,gC,or_false] at h;unfold sW k5;omega
def lvQ(F:Nat)(L:List Let)(ms:List aP):Prop:=(ms.length<=8000/\ ∀m∈ms,qV F L EN m)/\aK S 44 [dR F L,.one (.p (.sl (iP EN)))] (.tup [.one (aT fK 7 (mP ms)),.one (.p (.int .i64 0))])
open Classical in
noncomputable def pK (F:Nat) (L:List Let):List aP:=if h:∃ms,lvQ F L ms then Classical.choose h else []
theorem ae8{F:Nat}{L:List Let}(h:cQ (F:Int) L=0):lvQ F L (pK F L):=by have he:∃ms,lvQ F L ms:=YZ h EN ae afa;unfold pK;rw[dif_pos he];exact Classical.choose_spec he
abbrev isSt(id:Nat):Prop:=iN id=29
def stQ(idv gv:Nat)(b:Bool)(aj:aA)(v:V)(ao:aA):Prop:=v=vb b/\ao idv=(gv,some (.var [.p (.bool b)]))/\ ∀i,¬isSt i->i≠idv->ao i=aj i
theorem auy{al:Al}{aj:aA}{gv F:Nat}{L:List Let}{x2 x3 x4:PV}{b0:Bool}{m:aP}{b:Bool}(hp:aK S 30 [dR F L] (BA m b))(ov:al.ok 576512000=true)(oa:al.ok 1856000000=true)(oa2:al.ok 1856064128=true)(hv:aj 576512000=(gv,some (.var [.p (.bool b0)]))):
  ∃v ao,iF S 29 [.agg [.p (.int .i64 F),.p (cK L),.p x2,.p x3,.p x4],.one (.aY 576512000 gv 0)] al aj v ao/\stQ 576512000 gv b aj v ao:=by
 refine mA c29 (ig rfl) ?_;simp only[go_sem,i29,oa,s30];rw[Ml hp QA];refine⟨by simp only[GY,j7,jP],?_⟩;simp only[go_sem,hv,ov];refine⟨rfl,?_,fun i h1 h2=>?_⟩
 .simp only[aN,Nat.reduceEqDiff,if_true,if_false]
 have h3:i≠1856000000:=fun e=>h1 (by rw[e];rfl);simp only[aN,ay h2,ay h3]
end Go.Abs
namespace Go.Abs
section
variable {al:Al} {Q:dD} {ak:Env} {aj:aA} {os all:List bG} {tr:List bY} {d:Option Nat}
theorem amS{f:Nat}{vs:List V}{s ty z:Nat}{rd:List Nat}{es:List (List PV)}{x:PV}(aq:∀i∈s::rd,al.ok i=true)(hp:aK S f vs (.tup [.one (aT ty z es),.one (.p x)]))(eG:S.lone s=false)(hs:(es.all fun e=>e.all PV.scalar)=true)(hx:x.scalar=true)
  (hK:∀(c:C) ao,grown s ty z es (.one c) ao->(∀i,i≠s->ao i=aj i)->RN S al os Q (put ak d (.tup [.one c,.one (.p x)])) ao):gP S al (.pc f vs rd s) d os Q ak aj:=by
 obtain⟨h1,h2,h3⟩:=sV (aj:=aj) (s:=s) (ty:=ty) (z:=z) (es:=es);have fi:(RV.tup [.one (aT ty z es),.one (.p x)]).alone=true:=by have a:=qD (ty:=ty) (z:=z) hs;simp only[RV.alone,gK,im,mw,pP,xn] at a;simp only[RV.alone,gK,mI,im,yM,fY,jP,mw,pP,xn,a,An];exact hx
 refine(Ml (v:=.tup [.one (df aj s (aT ty z es)).1,.one (.p x)]) (u:=(df aj s (aT ty z es)).2) hp ?_).2 ⟨Dc fun i hi=>aq i ?_,hK _ _ h1 h2⟩
 .rw[eG,vP];unfold land;rw[aF (.inr fi)];simp[ju,gK,mI,im,iY,qY,rV,mq,df]
 rcases h3 with h|h<;>rw[h] at hi<;>simp at hi<;>simp[hi]
 rcases hi with hi|hi<;>simp[hi]
theorem amW{f:Nat}{vs:List V}{s ty z:Nat}{rd:List Nat}{es:List (List PV)}{x y:PV}(aq:∀i∈(s+1)::rd,al.ok i=true)(hp:aK S f vs (.tup [.agg [.p x,aT ty z es],.one (.p y)]))(eG:S.lone s=false)(hx:x.scalar=true)(hy:y.scalar=true)(hs:(es.all fun e=>e.all PV.scalar)=true)
  (hK:∀(c:C) ao,grown (s+1) ty z es (.one c) ao->(∀i,i≠s+1->ao i=aj i)->RN S al os Q (put ak d (.tup [.agg [.p x,c],.one (.p y)])) ao):gP S al (.pc f vs rd s) d os Q ak aj:=by
 obtain⟨h1,h2,h3⟩:=sV (aj:=aj) (s:=s+1) (ty:=ty) (z:=z) (es:=es);have fi:(RV.tup [.agg [.p x,aT ty z es],.one (.p y)]).alone=true:=by have a:=qD (ty:=ty) (z:=z) hs;simp only[RV.alone,gK,im,mw,pP,xn] at a;simp only[RV.alone,gK,mI,im,yM,fY,jP,mw,pP,xn,a,An];show(x.scalar&&y.scalar)=true;rw[hx,hy];rfl
 refine(Ml (v:=.tup [.agg [.p x,(df aj (s+1) (aT ty z es)).1],.one (.p y)]) (u:=(df aj (s+1) (aT ty z es)).2) hp ?_).2 ⟨Dc fun i hi=>aq i ?_,hK _ _ h1 h2⟩
 .rw[eG,vP];unfold land;rw[aF (.inr fi)];simp[ju,gK,mI,im,iY,qY,rV,mq,df]
 rcases h3 with h|h<;>rw[h] at hi<;>simp at hi<;>simp[hi]
 rcases hi with hi|hi<;>simp[hi]
theorem WT{s:Nat}{rd:List Nat}{x0 x1 x2 x3 x4:PV}{l:Bool}(hr:oJ aj rd):∃u,land aj rd s ((RV.agg [.p x0,.p x1,.p x2,.p x3,.p x4]).fP l)=some (.agg [.p x0,.p x1,.p x2,.p x3,.p x4],u)/\(∀i,i∉rd->app u aj i=aj i)/\(∀i∈u.map (·.1),i∈rd)/\(u.map (·.1)=[]\/u.map (·.1)=rd):=by
 have hp:(RV.agg [.p x0,.p x1,.p x2,.p x3,.p x4]).fP l=.agg [.p x0,.p x1,.p x2,.p x3,.p x4]:=by cases l<;>rfl
 rw[hp];unfold land;by_cases h:rd=[]\/(RV.agg [.p x0,.p x1,.p x2,.p x3,.p x4]).alone=true
 .rw[aF h];exact⟨[],rfl,fun _ _=>rfl,(fun i hi=>by cases hi),.inl rfl⟩
 rw[ay h];obtain⟨fu,h1,h2⟩:=VD rd rd hr;have:sA aj rd=some fu:=h1;rw[this];refine⟨fu,?_,fun i hi=>FB _ _ _ (by rw[h2];exact hi),fun i hi=>by rw[h2] at hi;exact hi,.inr h2⟩;show some (_,fu++[])=_;rw[jP];rfl
end
abbrev CY(l:List ByteArray):List (PV×List PV):=l.map fun s=>(PV.str s,[PV.bool true])
theorem amo(q:ByteArray):∀(l:List ByteArray) (i:Nat),(l.any (fun s=>q==s)=true/\ ∃j,oU (.str q) (CY l) i=some (some (j,[.bool true])))\/(l.any (fun s=>q==s)=false/\oU (.str q) (CY l) i=some none):=by
 intro l
 induction l with
 |nil=>intro i;exact .inr ⟨rfl,rfl⟩
 |cons a l ih=>
  intro i;have e:oU (.str q) (CY (a::l)) i=match some (q==a) with|some true=>some (some (i,[.bool true]))|some false=>oU (.str q) (CY l) (i+1)|none=>none:=rfl
  rw[e,List.any_cons];cases h:(q==a) with
  |true=>exact .inl ⟨rfl,i,rfl⟩
  |false=>exact ih (i+1)
def cE.key(F:Nat)(m:cE):ByteArray:=Bx F m.n
noncomputable def pV (sb:Bool) (F limit:Nat) (a:cE) (st:List cE) (m:aP):Nat×List cE:=
 if (st.map (cE.key F)).any (fun s=>Bx F (cT ((jT F a.c m).getD []))==s) then (0,st)
 else if st.length=limit then (1,st)
 else (if (sb&&(Af F ((jT F a.c m).getD [])).2)=true then 2 else 0,st++[⟨(jT F a.c m).getD [],cT ((jT F a.c m).getD []),a.w++[m]⟩])
noncomputable def j8 (sb:Bool) (F limit:Nat) (a:cE):List cE->List aP->Nat×List cE
 |st,[]=>(0,st)
 |st,m::r=>if (pV sb F limit a st m).1=0 then j8 sb F limit a (pV sb F limit a st m).2 r else pV sb F limit a st m
noncomputable def Az (sb:Bool) (F limit:Nat):Nat->Nat->List cE->Nat×List cE
 |0,_,st=>(0,st)
 |f+1,i,st=>match st[i]? with
  |none=>(0,st)
  |some a=>if (j8 sb F limit a st (pK F a.c)).1=0 then Az sb F limit f (i+1) (j8 sb F limit a st (pK F a.c)).2 else j8 sb F limit a st (pK F a.c)
structure wy (F:Nat) (L0:List Let) (n:Nat) (m:cE):Prop where
 chk:cQ (F:Int) m.c=0
 ES:m.n=cT m.c
 rep:te F L0 m.w=some m.c
 kind:∀x∈m.w,x.k∈EN
 len:m.w.length<=n
 same:m.c.length=L0.length
structure wx (sb:Bool) (al:Al):Prop where
 c:∀id,iN id=24->al.ok id=true
 t:al.fs.contains 43=true
 a:al.fs.contains 47=true
 s:sb=true->al.fs.contains 29=true
 v:sb=true->al.ok 576512000=true
theorem wx.fn{al:Al}{f id:Nat}(h:al.fs.contains f=true)(e:iN id=f):al.ok id=true:=by unfold Al.ok;rw[e,h];simp
theorem wx.ft{sb:Bool}{al:Al}(ac:wx sb al):al.ok 1536000000=true/\al.ok 1536064128=true/\al.ok 1536128000=true/\al.ok 1536192064=true/\al.ok 1536192192=true/\al.ok 1536256256=true/\al.ok 1536448128=true/\al.ok 1536448192=true/\al.ok 1536640128=true/\al.ok 1536704193=true/\al.ok 1536704448=true/\al.ok 1536768192=true/\al.ok 1536768320=true/\al.ok 1536768384=true/\al.ok 1536768512=true:=by
 repeat' apply And.intro
 all_goals exact ac.c _ rfl
def Hl:Bool->Nat->V
 |true,gv=>.one (.hfn 29 [] [.aY 576512000 gv 0])
 |false,_=>.one (.p (.fn 25 [] []))
def FG:Bool->Nat->Nat×Option Ob->Bool->Nat×Option Ob
 |true,gv,_,b=>(gv,some (.var [.p (.bool b)]))
 |false,_,z,_=>z
def kU(i:Nat):Prop:=iN i=24\/iN i=43\/iN i=47\/iN i=29
theorem vH.ok{sb:Bool}{al:Al}{s:Nat}(hq:vH s)(ac:wx sb al):al.ok s=true:=by
 rcases hq with rfl|rfl
 .exact ac.c _ rfl
 exact wx.fn ac.a rfl
theorem vH.own{s:Nat}(hq:vH s):kU s:=by
 rcases hq with rfl|rfl
 .exact .inl rfl
 exact .inr (.inr (.inl rfl))
theorem vH.no{s i:Nat}(hq:vH s)(h:¬kU i):i≠s:=fun e=>h (e▸hq.own)
theorem vH.ne{s:Nat}(hq:vH s):¬s=1536000000/\ ¬s=1536064128/\ ¬s=1536128000/\ ¬s=1536192192/\ ¬s=1536256256/\ ¬s=1536448128/\ ¬s=1536448192/\ ¬s=1536640128/\ ¬s=1536704193/\ ¬s=1536704448/\ ¬s=1536768192/\ ¬s=1536768320/\ ¬s=1536768384/\ ¬s=1536768512/\ ¬s=576512000:=by rcases hq with rfl|rfl<;>decide
structure wA (sb:Bool) (F limit:Nat) (L0:List Let) (gv:Nat) (z:Nat×Option Ob) (r0:List Nat) (b0:aA) (gq gM:Nat) (st:List cE) (k:Nat) (ak:Env) (aj:aA):Prop where
 e1:ak 1=vi limit
 e2:ak 2=Hl sb gv
 e9:ak 9=.one (.jW 1536128000 gM)
 qH:ak 10=.one (.aY 1536192192 gq 0)
 bM:aj 1536128000=(gM,some (.map false (CY (st.map (cE.key F)))))
 que:∃s,vH s/\ ∃gi,Av s gq gi (ky F st) k aj
 bv:aj 576512000=FG sb gv z false
 ne:st≠[]
 lim:st.length<=limit
 all:∀m∈st,wy F L0 st.length m
 fr:∀i,¬kU i->i≠576512000->i∉r0->aj i=b0 i
theorem JW(F:Nat)(l:List cE):(ky F l).length=l.length:=cD ..
theorem aqa(F:Nat)(l:List cE):∀e∈ky F l,e.length=5:=fun e he=>by obtain⟨m,_,rfl⟩:=dp.1 he;rfl
theorem qT{i:Nat}{f o:Nat}(h:¬kU i)(e:iN o=f)(hf:f=24\/f=43\/f=47\/f=29):i≠o:=fun h2=>h (by rw[h2];unfold kU;rw[e];exact hf)
structure EdC (sb:Bool) (F:Nat) (L0:List Let) (gv:Nat) (z:Nat×Option Ob) (r0:List Nat) (b0:aA) (r:Nat×List cE) (gq:Nat) (ak:Env) (aj:aA):Prop where
 qH:ak 10=.one (.aY 1536192192 gq 0)
 que:∃k s,vH s/\ ∃gi,Av s gq gi (ky F r.2) k aj
 bv:aj 576512000=FG sb gv z (r.1==2)
 ne:r.2≠[]
 all:∀m∈r.2,wy F L0 r.2.length m
 fr:∀i,¬kU i->i≠576512000->i∉r0->aj i=b0 i
theorem wy.mono{F:Nat}{L0:List Let}{n n':Nat}{m:cE}(h:wy F L0 n m)(hn:n<=n'):wy F L0 n' m:=⟨h.chk,h.ES,h.rep,h.kind,mT h.len hn,h.same⟩
theorem ahc{F:Nat}{L:List Let}(h:cQ (F:Int) L=0):∀l∈L,smL l:=by
 intro l hl;have aI:L≠[]:=List.ne_nil_of_mem hl;obtain⟨G,e,g⟩:=ss h aI;have hc:=g.len;have hF:=g.fing;have hb:=g.bad l hl;rcases yX hb with hp|hx
 .obtain⟨g0,g1,r0,r1⟩:=g.ok.ax.eF l hl hp;have:=tx (nJ l.gate.toNat) L;have hid:l.id=0:=((sY hp).1 hb).1.1.2;simp only[cg] at r1;refine⟨⟨aa,aa⟩,⟨aa,aa⟩,⟨aa,aa⟩⟩
 obtain⟨i1,i2⟩:=g.ids.1 l hl hx;have:=tx Let.aC L;have rH:l.gate=0/\l.aE=0:=by unfold dy at hb;have hk:l.kind=2:=dI.1 hx;simp[hk] at hb;exact⟨by have:=hb;omega,by have:=hb;omega⟩
 refine⟨⟨aa,aa⟩,⟨aa,aa⟩,⟨aa,aa⟩⟩
theorem apU{F:Nat}{L0:List Let}{n:Nat}{a:cE}{m:aP}(ha:wy F L0 n a)(hm:qV F a.c EN m):∃M,jT F a.c m=some M/\aK S 45 [dR F a.c,GW m] (kW F M)/\cQ (F:Int) M=0/\M≠[]/\M.length=a.c.length/\te F L0 (a.w++[m])=some M:=by
 have aI:a.c≠[]:=by obtain⟨_,⟨v,hv,_⟩,_⟩:=hm;intro e;rw[e] at hv;exact absurd hv (nE v)
 obtain⟨G,e,g⟩:=ss ha.chk aI;have:F=G:=aa;subst this;have hk:m.k=3\/m.k=8:=by
  have:=hm.1
  simpa using this
 have zK:k5 m.k:=by unfold k5;omega
 have pa:=Zp g zK m.a m.b m.c m.l m.o m.s;obtain⟨_,_,M0,e0⟩:=hm;rcases OU g zK m.a m.b m.c m.l m.o m.s with ⟨e,he,h⟩|⟨M,h,hc,_,L,hL,hM⟩
 .rw[e0] at h;exact absurd h (Rh he)
 rw[h] at pa;have hlen:M.length=a.c.length:=by
  rw[hM,ab4];rcases hk with hk|hk
  .rw[hk] at hL;have hL:u9 F a.c m.a.toNat m.b.toNat=some L:=hL;unfold u9 at hL;split at hL
   .cases hL;rw[BH,BC,BC,gG]
   cases hL
  rw[hk] at hL;have hL:ub F a.c m.a.toNat m.b.toNat m.c.toNat=some L:=hL;unfold ub at hL;split at hL
  .cases hL;rw[BH,gG]
  cases hL
 have ni:=SJ aI h;refine⟨M,ni,pa,hc,?_,hlen,by rw[agD m ha.rep];exact ni⟩;intro e;rw[e] at hlen;exact aI (HG.1 hlen.symm)
theorem szM(l:List aP):gV 7 (mP l)=true:=by simp[gV,aP.ps]
theorem akC{w:List aP}(aI:w≠[])(hl:w.length<=1000000):aK S 46 [.one (.p (oz w))] (.one (aT fK 7 (mP w))):=by
 have hs:((mP w).all fun e=>e.length==7)=true:=szM w;have hr:(0+(mP w).length)*48<=room:=by unfold room;rw[cD];omega
 show aK S _ [.one (.p (.sl (mP w)))] _;obtain⟨e0,es,hq⟩:∃e0 es,mP w=e0::es:=by cases w with
  |nil=>exact absurd rfl aI
  |cons a t=>exact⟨_,_,rfl⟩
 rw[hq] at hs hr ⊢;refine bh c46 ?_;have aI:e0::es≠[]:=af;have rH:aT fK 7 (e0::es)=.own fK 7 (e0::es):=ay aI;rw[rH];unfold room at hr;simp only[iQ,dh] at hr;simp only[mw] at hs;simp only[go_sem,i46,fL,gV];simp only[hs,hr,not_true_eq_false,if_true,if_false];simp only[go_sem];exact Km Ai rfl
section
variable {al:Al} {Q:dD} {ak:Env} {aj:aA} {os all:List bG} {tr:List bY} {d:Option Nat}
theorem ala{f:Nat}{vs:List V}{s ty z:Nat}{rd:List Nat}{es:List (List PV)}(aq:∀i∈s::rd,al.ok i=true)(hp:aK S f vs (.one (aT ty z es)))(eG:S.lone s=false)(qk:rd=[]\/(RV.one (aT ty z es)).alone=true)
  (hK:∀(c:C) ao w,grown s ty z es (.one c) ao->(∀i,i≠s->ao i=aj i)->(w=[]\/w=[s])->RD S al all os Q (put ak d (.one c)) ao (tr++[⟨rd++w,w,[]⟩])):dP S al (.pc f vs rd s) d all os Q ak aj tr:=by
 obtain⟨h1,h2,h3⟩:=sV (aj:=aj) (s:=s) (ty:=ty) (z:=z) (es:=es);refine(LR (v:=.one (df aj s (aT ty z es)).1) (u:=(df aj s (aT ty z es)).2) hp ?_).2 ⟨Dc fun i hi=>aq i ?_,hK _ _ _ h1 h2 h3⟩
 .rw[eG,vP];unfold land;rw[aF qk];simp[ju,gK,im,iY,qY,mq]
 rcases h3 with h|h<;>rw[h] at hi<;>simp at hi<;>simp[hi]
 rcases hi with hi|hi<;>simp[hi]
end
end Go.Abs
