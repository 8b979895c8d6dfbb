/-
  The class search.
-/
import Derived.Test.YtfdblnecoamlbaaGreatDoorRd
set_option linter.all false
set_option maxRecDepth 100000
set_option maxHeartbeats 16000000
namespace Go.Abs
def QY{n:Int}(h1: -1000000<=n)(h2:n<=1000000):aK S 71 [vi n] (.one (.p (.str (lK n)))):=by
 refine⟨1,?_⟩;have e:RR [vi n]=some (.one (.p (.str (lK n)))):=by show(if -9223372036854775808<=n/\n<=9223372036854775807 then _ else _)=_;rw[aD ⟨aa,aa⟩]
 have h:S.prim 71 [vi n]=some (some (.one (.p (.str (lK n))))):=by rw[<- e];rfl
 rw[ij];simp only[h]
def abi:∀(k n:Nat) (acc:p_),(sN k n acc).length<=k+acc.length:=by
 intro k
 induction k with
 |zero=>intro n acc;simp[sN]
 |succ k ih=>
  intro n acc;unfold sN;cases Nat.blt n 10 with
  |true=>simp only[cond_true,dC];omega
  |false=>simp only[cond_false];have:=ih (Nat.div n 10) (UInt8.ofNat (Nat.add 48 (Nat.mod n 10))::acc);rw[dC] at this;omega
def HQ(n:Int):(lK n).size<=40:=by
 unfold lK;show(List.toArray _).size<=40;rw[List.size_toArray];cases n with
 |ofNat u=>have:=abi 20 u [];simp only[fe] at this;show(sN 20 u []).length<=40;omega
 |negSucc u=>have:=abi 20 (Nat.succ u) [];simp only[fe] at this;show(45::sN 20 (Nat.succ u) []).length<=40;rw[dC];omega
def Ew{a b:ByteArray}(h:a.size+b.size<=1000000000):Jd .add a b=some (.str (a++b)):=by unfold Jd;exact aD aa
def Cm(a b:ByteArray):(a++b).size=a.size+b.size:=ByteArray.size_append
def YC:ByteArray:=⟨#[46]⟩
def sU:ByteArray:=⟨#[117]⟩
def sO:ByteArray:=⟨#[111]⟩
def sPl:ByteArray:=⟨#[43]⟩
def sMi:ByteArray:=⟨#[45]⟩
def sQu:ByteArray:=⟨#[63]⟩
def DX:ByteArray:=⟨#[32]⟩
def sCo:ByteArray:=⟨#[58]⟩
def tz(l:Let):ByteArray:=
 if l.kind==1 then lK l.gate++YC++lK l.aC
 else if l.kind==2 then (lK l.id++(if l.over then sO else sU))++(if l.sign==1 then sPl else if l.sign== -1 then sMi else sQu)
 else sQu
def aiM(l:Let):(tz l).size<=100:=by
 have h1:=HQ l.gate;have h2:=HQ l.aC;have h3:=HQ l.id;have c1:YC.size=1:=rfl;have c2:sU.size=1:=rfl;have c3:sO.size=1:=rfl;have c4:sPl.size=1:=rfl;have c5:sMi.size=1:=rfl;have c6:sQu.size=1:=rfl;unfold tz;split
 .rw[Cm,Cm];omega
 split
 .rw[Cm,Cm];split<;>split
  .omega
  .split<;>omega
  .omega
  split<;>omega
 omega
def smL(l:Let):Prop:=(-1000000<=l.gate/\l.gate<=1000000)/\(-1000000<=l.aC/\l.aC<=1000000)/\(-1000000<=l.id/\l.id<=1000000)
def av0{l:Let}(h:smL l):aK S 72 [KC l] (.one (.p (.str (tz l)))):=by
 obtain⟨⟨g1,g2⟩,⟨r1,r2⟩,⟨i1,i2⟩⟩:=h;have pg:=QY g1 g2;have pr:=QY r1 r2;have pi:=QY i1 i2;have lg:=HQ l.gate;have lr:=HQ l.aC;have li:=HQ l.id;have DD:S.shared 71=false:=ah;have b1:=Ew (a:=lK l.gate) (b:=⟨#[46]⟩) (by have:(ByteArray.mk #[46]).size=1:=rfl;omega);have b2:=Ew (a:=lK l.gate++⟨#[46]⟩) (b:=lK l.aC) (by rw[Cm];have:(ByteArray.mk #[46]).size=1:=rfl;omega);have b3:=Ew (a:=lK l.id) (b:=⟨#[117]⟩) (by have:(ByteArray.mk #[117]).size=1:=rfl;omega);have b4:=Ew (a:=lK l.id) (b:=⟨#[111]⟩) (by have:(ByteArray.mk #[111]).size=1:=rfl;omega);have fin:∀(x:ByteArray) (c:ByteArray),(x=⟨#[117]⟩\/x=⟨#[111]⟩)->c.size=1->Jd .add (lK l.id++x) c=some (.str (lK l.id++x++c)):=fun x c hx hc=>by
  refine Ew ?_;rw[Cm];rcases hx with rfl|rfl
  .have:(ByteArray.mk #[117]).size=1:=rfl;omega
  have:(ByteArray.mk #[111]).size=1:=rfl;omega
 have u1:=fin ⟨#[117]⟩ ⟨#[43]⟩ (.inl rfl) rfl;have u2:=fin ⟨#[117]⟩ ⟨#[45]⟩ (.inl rfl) rfl;have u3:=fin ⟨#[117]⟩ ⟨#[63]⟩ (.inl rfl) rfl;have o1:=fin ⟨#[111]⟩ ⟨#[43]⟩ (.inr rfl) rfl;have o2:=fin ⟨#[111]⟩ ⟨#[45]⟩ (.inr rfl) rfl;have o3:=fin ⟨#[111]⟩ ⟨#[63]⟩ (.inr rfl) rfl;have hw:tz l=if l.kind==1 then lK l.gate++⟨#[46]⟩++lK l.aC
  else if l.kind==2 then (lK l.id++(if l.over then ⟨#[111]⟩ else ⟨#[117]⟩))++(if l.sign==1 then ⟨#[43]⟩ else if l.sign== -1 then ⟨#[45]⟩ else ⟨#[63]⟩)
  else ⟨#[63]⟩:=rfl
 rw[hw];cases k1:(l.kind==1) with
 |true=>simp only[if_true];refine bk c72 ?_;simp only[go_sem,i72,k1,DD,aba pg,aba pr,b1,b2];first|done|exact⟨aJ,rfl⟩|exact aJ
 |false=>
  cases k2:(l.kind==2) with
  |true=>
   simp only[dN,if_true,if_false];cases ho:l.over with
   |true=>
    cases s1:(l.sign==1) with
    |true=>refine bk c72 ?_;simp only[go_sem,i72,k1,k2,ho,s1,DD,EW pi,b3,b4,o1];first|done|rfl
    |false=>
     cases s2:(l.sign== -1) with
     |true=>refine bk c72 ?_;simp only[go_sem,i72,k1,k2,ho,s1,s2,DD,EW pi,b3,b4,o2];first|done|rfl
     |false=>refine bk c72 ?_;simp only[go_sem,i72,k1,k2,ho,s1,s2,DD,EW pi,b3,b4,o3];first|done|rfl
   |false=>
    cases s1:(l.sign==1) with
    |true=>refine bk c72 ?_;simp only[go_sem,i72,k1,k2,ho,s1,DD,EW pi,b3,u1];first|done|rfl
    |false=>
     cases s2:(l.sign== -1) with
     |true=>refine bk c72 ?_;simp only[go_sem,i72,k1,k2,ho,s1,s2,DD,EW pi,b3,u2];first|done|rfl
     |false=>refine bk c72 ?_;simp only[go_sem,i72,k1,k2,ho,s1,s2,DD,EW pi,b3,u3];first|done|rfl
  |false=>simp only[dN,if_false];refine bk c72 ?_;simp only[go_sem,i72,k1,k2];first|done|rfl
def pM(F:Int)(L:ai):ByteArray:=L.foldl (fun s l=>s++(DX++tz l)) (lK F++sCo)
def asB(F:Int):∀(L:ai) (s:ByteArray) (k:Nat),s.size<=41+101*k->(L.foldl (fun s l=>s++(DX++tz l)) s).size<=41+101*(k+L.length):=by
 intro L
 induction L with
 |nil=>intro s k h;exact h
 |cons l L ih=>
  intro s k h;have:=ih (s++(DX++tz l)) (k+1) (by have:=aiM l;rw[Cm,Cm];have c:DX.size=1:=rfl;omega)
  rw[dC];show(List.foldl (fun s l=>s++(DX++tz l)) (s++(DX++tz l)) L).size<=_;omega
def DV(F:Int)(L:ai)(k:Nat):ByteArray:=(L.take k).foldl (fun s l=>s++(DX++tz l)) (lK F++sCo)
def asu{F:Int}{L:ai}{k:Nat}{x:Let}(h:L[k]?=some x):DV F L (k+1)=DV F L k++(DX++tz x):=by unfold DV;rw[Io h,IF];rfl
def ag6{F:Int}{L:ai}(hF: -1000000<=F/\F<=1000000)(hl:L.length<=1000000)(Fx:∀l∈L,smL l):aK S 44 [dY F L] (.one (.p (.str (pM F L)))):=by
 have pF:=QY hF.1 hF.2;have lF:=HQ F;have DD:S.shared 71=false:=ah;have b1:=Ew (a:=lK F) (b:=⟨#[58]⟩) (by have:(ByteArray.mk #[58]).size=1:=rfl;omega);have uF:∀k,(DV F L k).size<=41+101*k:=fun k=>by have:=asB F (L.take k) (lK F++sCo) 0 (by rw[Cm];have:sCo.size=1:=rfl;omega);rw[iK] at this;unfold DV;omega
 have tS:DV F L L.length=pM F L:=by unfold DV pM;rw[lf]
 generalize pM F L=res at tS;refine bk c44 ?_;simp only[go_sem,i44,DD,EW pF,b1];refine dy (fun k ak aj=>ak 11=.one (.p (cT L))/\ak 12=vi L.length/\ak 13=vi k/\ak 3=.one (.p (.str (DV F L k)))) 0 L.length (bG _) ?_ ?_
 .simp only[go_sem];first|done|rfl|exact⟨rfl,rfl⟩
 rintro k ak aj hk ⟨iu,jF,qD,h3⟩
 by_cases aw:k<L.length
 .have aL:((k:Int)<(L.length:Int)):=aa;have hx:=wQ aw;have jx:=iO hx;have w1:=cS (n:=k) aa;have pw:=av0 (Fx _ (aV hx));have lw:=aiM (lA L k);have hts:=asu (F:=F) hx;have jT:=uF k;generalize lA L k=x at*;have b2:=Ew (a:=⟨#[32]⟩) (b:=tz x) (by have:(ByteArray.mk #[32]).size=1:=rfl;omega);generalize DV F L k=s at*;have b3:=Ew (a:=s) (b:=⟨#[32]⟩++tz x) (by rw[Cm];have:(ByteArray.mk #[32]).size=1:=rfl;omega)
  have pw':aK S 72 [.agg [.p (.int .i64 x.kind),.p (.int .i64 x.gate),.p (.int .i64 x.aC),.p (.int .i64 x.id),.p (.int .i64 x.sign),.p (.bool x.over)]] (.one (.p (.str (tz x)))):=pw;simp only[go_sem,i44_l1,iu,jF,qD,h3,aw,aL,jx,Let.ps,w1,s72,EW pw',b2,b3];first|(rw[hts];rfl)|exact⟨aw,by rw[hts];rfl⟩
 have:k=L.length:=aa;subst this;rw[tS] at h3;simp only[go_sem,i44_l1,i44_r2,jF,qD,h3,eI]
structure aY where
 c:ai
 n:ai
 w:g_
abbrev j_:=List aY
def aY.ps(F:Nat)(m:aY):b_:=[.int .i64 F,cT m.c,.int .i64 F,cT m.n,lW m.w]
abbrev nC(F:Nat)(l:j_):s_:=l.map (aY.ps F)
abbrev mbT:Nat:=68
def XS(bN:ni){F:Nat}{L:ai}(w:g_)(hl:L.length<=1000000)(h0:bQ (F:Int) L=0):aK S 43 [dY F L,.one (.p (lW w))] (.agg [.p (.int .i64 F),.p (cT L),.p (.int .i64 F),.p (cO (iM L)),.p (lW w)]):=by have pn:=KO bN (f:=F) hl h0;generalize cO (iM L)=q at*;refine bk c43 ?_;simp only[go_sem,i43,s7,de pn FM];first|done|rfl
abbrev aeE(id:Nat):Prop:=jO id=45
abbrev isAd(id:Nat):Prop:=jO id=47
structure CF (s gq gi:Nat) (es:s_) (k:Nat) (aj:aB):Prop where
 q:aj 1472192192=(gq,some (.var [.hsl s gi 5 0 es.length,.p (.int .i64 k)]))
 b:aj s=(gi,some (.arr mbT 5 es))
def tkP(s gq gi:Nat)(es:s_)(k:Nat)(aj:aB)(v:V)(ao:aB):Prop:=
 (k=es.length/\v=.tup [.agg [.p (.int .i64 0),.p .nils,.p (.int .i64 0),.p .nils,.p .nils],vb false]/\ ∀i,¬aeE i->ao i=aj i)\/
 ∃e,es[k]?=some e/\v=.tup [.agg (e.map .p),vb true]/\CF s gq gi es (k+1) ao/\ ∀i,¬aeE i->i≠1472192192->ao i=aj i
def len5{e:b_}(h:e.length=5):∃x0 x1 x2 x3 x4,e=[x0,x1,x2,x3,x4]:=by
 match e,h with
 |[x0,x1,x2,x3,x4],_=>exact⟨_,_,_,_,_,rfl⟩
def adP(s gq:Nat)(es:s_)(k:Nat)(e:b_)(aj:aB)(v:V)(ao:aB):Prop:=v=.tup []/\(∃g,CF 3008064448 gq g (es++[e]) k ao)/\ ∀i,¬isAd i->i≠1472192192->i≠s->ao i=aj i
abbrev wP(s:Nat):Prop:=s=1472192064\/s=3008064448
def ava{al:Al}{s:Nat}(hs:wP s){aj:aB}{gq gi k:Nat}{es:s_}(oq:al.ok 1472192192=true)(os:al.ok s=true)(ot:al.ok 2880000000=true)(ot2:al.ok 2880128000=true)(h:CF s gq gi es k aj)(h5:∀e∈es,e.length=5)(hl:es.length<=1000000)(hk:k<=es.length):
  ∃v ao,jm S 45 [.one (.aZ 1472192192 gq 0)] al aj v ao/\tkP s gq gi es k aj v ao:=by
 rcases hs with rfl|rfl
 all_goals
  obtain⟨hq,hb⟩:=h;refine nT c45 (iA rfl) ?_;by_cases aw:k<es.length
  .have aI:(((k:Int))==(es.length:Int))=false:=by rw[lS];omega
   obtain⟨e,he⟩:=aM aw;obtain⟨x0,x1,x2,x3,x4,rfl⟩:=len5 (h5 e (aV he));have w1:=cS (n:=k) aa;have w2:IntKind.i64.wrap (((k+1:Nat):Int)-1)=(k:Int):=by rw[uZ aa aa];omega
   simp only[go_sem,i45,hq,hb,oq,os,ot,aI,aw,he,w1,w2];refine⟨aJ,aJ,.inr ⟨_,he,rfl,⟨?_,?_⟩,fun i h1 h2=>?_⟩⟩
   .simp only[aO,Nat.reduceEqDiff,if_true,if_false]
   .simp only[aO,Nat.reduceEqDiff,if_false];exact hb
   have h3:i≠2880000000:=fun e=>h1 (by rw[e];rfl);simp only[aO,ay h2,ay h3]
  have Dw:k=es.length:=aa;subst Dw;have heq:(((es.length:Int))==(es.length:Int))=true:=af;simp only[go_sem,i45,hq,oq,ot,ot2,heq];refine⟨aJ,.inl ⟨rfl,rfl,fun i h1=>?_⟩⟩;have h3:i≠2880000000:=fun e=>h1 (by rw[e];rfl);have h4:i≠2880128000:=fun e=>h1 (by rw[e];rfl);simp only[aO,ay h3,ay h4]
def ajs{al:Al}{s:Nat}(hs:wP s){aj:aB}{gq gi k:Nat}{es:s_}{x0 x1 x2 x3 x4:PV}(oq:al.ok 1472192192=true)(os:al.ok s=true)(oa:al.ok 3008000000=true)(oa2:al.ok 3008064384=true)(oa3:al.ok 3008064448=true)(h:CF s gq gi es k aj)(aI:es≠[])(hl:es.length<=1000000):
  ∃v ao,jm S 47 [.one (.aZ 1472192192 gq 0),.agg [.p x0,.p x1,.p x2,.p x3,.p x4]] al aj v ao/\adP s gq es k [x0.norm,x1.norm,x2.norm,x3.norm,x4.norm] aj v ao:=by
 rcases hs with rfl|rfl
 all_goals
  obtain⟨hq,hb⟩:=h;refine nT c47 (iA rfl) ?_;simp only[go_sem,i47,hq,oq,oa,oa2];refine GK (site:=3008064448) (bytes:=88) (es:=es) (xs:=[[x0.norm,x1.norm,x2.norm,x3.norm,x4.norm]]) (rd:=[3008064384]) (fun i hi=>?_) (.inr ⟨aI,gi,rfl,?_⟩) ?_ (.inl rfl) (by simp only[dC,fe];omega) fun c' ig r1 u1 ji gk jV=>?_
  .simp only[cD,fq,or_false] at hi;rcases hi with rfl|rfl|rfl<;>assumption
  .simp only[aO,Nat.reduceEqDiff,if_false];exact hb
  .simp[fU,aO]
  have b0:=gk 1472192192 ae ae;simp only[aO,Nat.reduceEqDiff,if_false] at b0;have b1:=b0.trans hq;rcases ji with ⟨e,_⟩|⟨_,g2,e2,hC⟩
  .simp at e
  cases e2;simp only[go_sem,b1,oq];refine⟨?_,rfl,⟨g2,?_,?_⟩,fun i h1 h2 h3=>?_⟩
  .rcases jV with ⟨rfl,rfl⟩|⟨rfl,rfl⟩|⟨rfl,rfl⟩<;>kernel_rfl
  .simp only[aO,if_true]
  .simp only[aO,Nat.reduceEqDiff,if_false];exact hC
  have h4:i≠3008000000:=fun e=>h1 (by rw[e];rfl);have h5:i≠3008064384:=fun e=>h1 (by rw[e];rfl);have h6:i≠3008064448:=fun e=>h1 (by rw[e];rfl);simp only[aO,ay h2];rw[gk i h6 h3];simp only[aO,ay h4,ay h5]
abbrev prP(ps:u_):s_:=ps.map fun p=>[.int .i64 p.1,.int .i64 p.2]
def j7:u_->Int
 |[]=>0
 |p::r=>if p.1=p.2 then j7 r else if p.1<p.2 then -1 else 1
def ast{ps:u_}{k:Nat}{p:Int×Int}(h:ps[k]?=some p):(prP ps)[k]?=some [.int .i64 p.1,.int .i64 p.2]:=by rw[fG,h];rfl
def Px{α:Type}{A:List α}{k:Nat}{a:α}(h:A[k]?=some a):A.drop k=a::A.drop (k+1):=by obtain⟨h1,e⟩:=aT.1 h;rw[<- e,uc]
def agD(ps:u_)(hl:ps.length<=1000000):aK S 64 [.one (.p (.sl (prP ps)))] (ri (j7 ps)):=by
 generalize hr:j7 ps=r;refine bk c64 ?_;simp only[go_sem,i64];refine dy (fun k ak aj=>ak 5=.one (.p (.sl (prP ps)))/\ak 6=vi ps.length/\ak 7=vi k/\j7 (ps.drop k)=r) 0 ps.length (bG _) ?_ ?_
 .simp only[go_sem];first|exact hr|exact⟨rfl,hr⟩
 rintro k ak aj hk ⟨h5,h6,h7,hn⟩
 by_cases aw:k<ps.length
 .have aL:(k:Int)<(ps.length:Int):=aa;obtain⟨p,hp⟩:=aM aw;have gH:=ast hp;have w1:=cS (n:=k) aa;rw[Px hp] at hn;obtain⟨x,y⟩:=p;unfold j7 at hn;dsimp only at hn gH;by_cases e:x=y
  .rw[aD e] at hn;subst e;simp only[go_sem,i64_l1,h5,h6,h7,aw,aL,gH,w1];first|exact hn|exact⟨rfl,hn⟩|exact⟨aw,hn⟩
  rw[ay e] at hn;have e':(x !=y)=true:=by simpa using e
  by_cases l:x<y
  .rw[aD l] at hn;subst hn;simp only[go_sem,i64_l1,h5,h6,h7,aL,gH,e',l];first|done|rfl
  rw[ay l] at hn;subst hn;simp only[go_sem,i64_l1,h5,h6,h7,aL,gH,e',l];first|done|rfl
 have:k=ps.length:=aa;subst this;rw[Ly] at hn;have hn:0=r:=hn;subst hn;simp only[go_sem,i64_l1,i64_r2,h6,h7,eI]
def agt(b:Bool):aK S 66 [vb b] (ri (if b then 1 else 0)):=by
 cases b
 .refine bk c66 ?_;simp only[go_sem,i66];first|done|rfl
 refine bk c66 ?_;simp only[go_sem,i66];first|done|rfl
def alf{q:Let->Bool}{L:ai}{k:Nat}{x:Let}(h:L[k]?=some x):aq q (L.take (k+1))=aq q (L.take k)+(if q x then 1 else 0):=by rw[Io h,wa];congr 1;show List.countP _ [x]=_;rw[List.countP_singleton]
def aa3(F:Int)(L:ai)(hl:L.length<=1000000):aK S 65 [dY F L] (ri ((aq Let.aA L:Nat):Int)):=by
 have hc:∀k,aq Let.aA (L.take k)<=k:=fun k=>by have:=OZ (p:=Let.aA) (l:=L.take k);rw[iK] at this;show List.countP _ _<=k;omega
 refine bk c65 ?_;simp only[go_sem,i65];refine dy (fun k ak aj=>ak 7=.one (.p (cT L))/\ak 8=vi L.length/\ak 9=vi k/\ak 3=vi ((aq Let.aA (L.take k):Nat):Int)) 0 L.length (bG _) ?_ ?_
 .simp only[go_sem];first|done|rfl|exact⟨rfl,rfl⟩
 rintro k ak aj hk ⟨h7,h8,h9,h3⟩
 by_cases aw:k<L.length
 .have aL:(k:Int)<(L.length:Int):=aa;have hx:=wQ aw;have jx:=iO hx;have w1:=cS (n:=k) aa;have hs:=alf (q:=Let.aA) hx;have jT:=hc k;have w2:=cS (n:=aq Let.aA (L.take k)) aa;generalize lA L k=x at*;have hcx:x.aA=(x.kind==2):=rfl;rw[hcx] at hs;generalize aq Let.aA (L.take k)=d at*;cases h2:(x.kind==2) with
  |false=>rw[h2] at hs;simp only[go_sem,i65_l1,h7,h8,h9,h3,aw,aL,jx,Let.ps,h2,w1];first|(rw[hs];rfl)|exact⟨aw,by rw[hs];rfl⟩
  |true=>rw[h2] at hs;simp only[go_sem,i65_l1,h7,h8,h9,h3,aw,aL,jx,Let.ps,h2,w1,w2];first|(rw[hs];rfl)|exact⟨aw,by rw[hs];rfl⟩
 have:k=L.length:=aa;subst this;rw[lf] at h3;simp only[go_sem,i65_l1,i65_r2,h8,h9,h3,eI]
def vG(a b:Let):u_:=[(a.kind,b.kind),(a.gate,b.gate),(a.aC,b.aC),(a.id,b.id),(if a.over then 1 else 0,if b.over then 1 else 0),(a.sign,b.sign)]
def xw:ai->ai->Int
 |a::A,b::B=>if j7 (vG a b)=0 then xw A B else j7 (vG a b)
 |_,_=>0
def ru(f:Int)(A:ai)(g:Int)(B:ai):u_:=[(f,g),(((aq Let.aA A:Nat):Int),((aq Let.aA B:Nat):Int)),((A.length:Int),(B.length:Int))]
def sJ(f:Int)(A:ai)(g:Int)(B:ai):Int:=if j7 (ru f A g B)=0 then xw A B else j7 (ru f A g B)
def Rn{ps:u_}(h:j7 ps=0):∀p∈ps,p.1=p.2:=by
 induction ps with
 |nil=>intro p hp;cases hp
 |cons q r ih=>
  unfold j7 at h;by_cases e:q.1=q.2
  .rw[aD e] at h;intro p hp;rcases cD.1 hp with rfl|hp
   .exact e
   exact ih h p hp
  rw[ay e] at h;split at h<;>cases h
def Yb{ps:u_}(h:∀p∈ps,p.1=p.2):j7 ps=0:=by
 induction ps with
 |nil=>rfl
 |cons q r ih=>unfold j7;rw[aD (h q af)];exact ih fun p hp=>h p (by simp[hp])
def XF{a b:Let}(h:j7 (vG a b)=0):a=b:=by
 have h:=Rn h;unfold vG at h;simp only[cD,fq,or_false,forall_eq_or_imp,forall_eq] at h;obtain⟨h1,h2,h3,h4,h5,h6⟩:=h;cases a with|mk k g r i s o=>cases b with|mk k' g' r' i' s' o'=>
 dsimp only at*;have:o=o':=by revert h5;cases o<;>cases o'<;>simp
 subst h1 h2 h3 h4 h6 this;rfl
def ak8:∀ {A B:ai},A.length=B.length->xw A B=0->A=B:=by
 intro A
 induction A with
 |nil=>intro B h _;cases B with
  |nil=>rfl
  |cons _ _=>cases h
 |cons a A ih=>
  intro B h h1;cases B with
  |nil=>cases h
  |cons b B=>
   unfold xw at h1;by_cases e:j7 (vG a b)=0
   .rw[aD e] at h1;rw[XF e,ih (by simpa using h) h1]
   rw[ay e] at h1;exact absurd h1 e
def ak9(A:ai):xw A A=0:=by
 induction A with
 |nil=>rfl
 |cons a A ih=>unfold xw;rw[aD (Yb (by unfold vG;simp))];exact ih
def alc{f g:Int}{A B:ai}:sJ f A g B=0↔f=g/\A=B:=by
 unfold sJ;constructor
 .intro h;by_cases e:j7 (ru f A g B)=0
  .rw[aD e] at h;have e:=Rn e;unfold ru at e;simp only[cD,fq,or_false,forall_eq_or_imp,forall_eq] at e;exact⟨e.1,ak8 aa h⟩
  rw[ay e] at h;exact absurd h e
 rintro ⟨rfl,rfl⟩
 rw[aD (Yb (by unfold ru;simp))];exact ak9 A
def alj(f:Int)(A:ai)(g:Int)(B:ai)(hA:A.length<=1000000)(hB:B.length<=1000000):aK S 40 [dY f A,dY g B] (ri (sJ f A g B)):=by
 have c1:=aa3 f A hA;have c2:=aa3 g B hB;have po:=agD (ru f A g B) (by simp[ru]);have po':aK S 64 [.one (.p (.sl [[.int .i64 f,.int .i64 g],[.int .i64 ((aq Let.aA A:Nat):Int),.int .i64 ((aq Let.aA B:Nat):Int)],[.int .i64 A.length,.int .i64 B.length]]))] (ri (j7 (ru f A g B))):=po;clear po;generalize hr:sJ f A g B=r;unfold sJ at hr;by_cases e:j7 (ru f A g B)=0
 .rw[aD e] at hr;have hlen:A.length=B.length:=by
   have e:=Rn e;unfold ru at e;simp only[cD,fq,or_false,forall_eq_or_imp,forall_eq] at e;omega
  rw[e] at po';refine bk c40 ?_;simp only[go_sem,i40,s65,s64,iD c1,iD c2,iD po'];refine⟨aJ,?_⟩;refine dy (fun k ak aj=>ak 2=.one (.aZ 2560000000 1 0)/\ak 3=.one (.aZ 2560000064 1 0)/\aj 2560000000=(1,some (.var [.p (.int .i64 f),.p (cT A)]))/\aj 2560000064=(1,some (.var [.p (.int .i64 g),.p (cT B)]))/\ak 33=.one (.p (cT A))/\ak 34=vi A.length/\ak 35=vi k/\xw (A.drop k) (B.drop k)=r) 0 A.length (bG _) ?_ ?_
  .simp only[go_sem];first|exact hr|exact⟨rfl,hr⟩|exact⟨rfl,rfl,hr⟩|trace_state
  rintro k ak aj hk ⟨h2,h3,b0,b1,E0,Hc,h35,hn⟩
  by_cases aw:k<A.length
  .have aL:(k:Int)<(A.length:Int):=aa;have aov:k<B.length:=aa;have hx:=wQ aw;have hy:=wQ aov;have jx:=iO hx;have FG:=iO hy;have w1:=cS (n:=k) aa;rw[Px hx,Px hy] at hn;unfold xw at hn;generalize lA A k=x at*;generalize lA B k=y at*;have n1:=agt x.over;have n2:=agt y.over;have pl:=agD (vG x y) (by simp[vG]);have Cf:aK S 64 [.one (.p (.sl [[.int .i64 x.kind,.int .i64 y.kind],[.int .i64 x.gate,.int .i64 y.gate],[.int .i64 x.aC,.int .i64 y.aC],[.int .i64 x.id,.int .i64 y.id],[.int .i64 (if x.over then 1 else 0),.int .i64 (if y.over then 1 else 0)],[.int .i64 x.sign,.int .i64 y.sign]]))] (ri (j7 (vG x y))):=pl;clear pl;by_cases e2:j7 (vG x y)=0
   .rw[aD e2] at hn;rw[e2] at Cf;simp only[go_sem,i40_l1,h2,h3,b0,b1,E0,Hc,h35,aw,aL,jx,FG,Let.ps,w1,s66,s64,iD n1,iD n2,iD Cf];first|exact⟨aJ,hn⟩|exact⟨aJ,aw,hn⟩|trace_state
   rw[ay e2] at hn;subst hn;have e2':(j7 (vG x y)!=0)=true:=by simpa using e2
   simp only[go_sem,i40_l1,h3,b1,E0,Hc,h35,aL,jx,FG,Let.ps,s66,s64,iD n1,iD n2,iD Cf,e2'];first|exact⟨aJ,rfl⟩|exact aJ|trace_state
  have:k=A.length:=aa;subst this;rw[Ly] at hn;have hn:0=r:=by rw[<- hn];cases B.drop A.length<;>rfl
  subst hn;simp only[go_sem,i40_l1,i40_r2,Hc,h35,eI];first|done|rfl
 rw[ay e] at hr;subst hr;have e':(j7 (ru f A g B)!=0)=true:=by simpa using e
 refine bk c40 ?_;simp only[go_sem,i40,s65,s64,iD c1,iD c2,iD po',e'];first|exact⟨aJ,rfl⟩|exact aJ|trace_state
end Go.Abs
namespace Go.Abs
abbrev CT(F:Nat)(l:x_):s_:=l.map fun L=>[.int .i64 F,cT L]
def aaq{F:Nat}{l:x_}{k:Nat}{L:ai}(h:l[k]?=some L):(CT F l)[k]?=some [.int .i64 F,cT L]:=by rw[fG,h];rfl
def qj(F:Nat)(l:x_):Nat->Int
 |0=> -1
 |k+1=>if qj F l k<0 then (k:Int) else if sJ F (l.getD k []) F (l.getD (qj F l k).toNat [])<0 then (k:Int) else qj F l k
def Og(F:Nat)(l:x_):∀k,(k=0/\qj F l k= -1)\/(0<=qj F l k/\qj F l k<k):=by
 intro k
 induction k with
 |zero=>exact .inl ⟨rfl,rfl⟩
 |succ k ih=>
  right;unfold qj;split
  .omega
  split
  .omega
  omega
def apV(F:Nat)(l:x_)(hl:l.length<=1000000)(hL:∀L∈l,L.length<=1000000):aK S 19 [.one (.p (.sl (CT F l)))] (ri (qj F l l.length)):=by
 refine bk c19 ?_;simp only[go_sem,i19];refine dy (fun k ak aj=>ak 0=.one (.p (.sl (CT F l)))/\ak 6=.one (.p (.sl (CT F l)))/\ak 7=vi l.length/\ak 8=vi k/\ak 3=vi (qj F l k)) 0 l.length (bG _) ?_ ?_
 .simp only[go_sem];first|done|rfl|exact⟨rfl,rfl⟩
 rintro k ak aj hk ⟨h0,h6,h7,h8,h3⟩
 by_cases aw:k<l.length
 .have aL:(k:Int)<(l.length:Int):=aa;obtain⟨X,hX⟩:=aM aw;have hXi:=aaq (F:=F) hX;have w1:=cS (n:=k) aa;have hgX:l.getD k []=X:=by rw[dA,hX];rfl
  have bN:(CT F l).length=l.length:=cM ..;have hs:qj F l (k+1)=if qj F l k<0 then (k:Int) else if sJ F X F (l.getD (qj F l k).toNat [])<0 then (k:Int) else qj F l k:=by rw[<- hgX];rfl
  rcases Og F l k with ⟨BE,hb⟩|⟨mu,iW⟩
  .rw[hb] at hs h3;rw[aD ae] at hs;have QC:((-1:Int)<0):=ae;simp only[go_sem,i19_l1,h0,h6,h7,h8,h3,aw,aL,hXi,w1,QC];first|exact⟨aJ,by rw[hs]⟩|exact⟨aJ,aw,by rw[hs]⟩|trace_state
  obtain⟨b,hb⟩:=tA mu;rw[hb] at hs h3 iW;have sT:b<l.length:=aa;obtain⟨Y,hY⟩:=aM sT;have hYi:=aaq (F:=F) hY;have hgY:l.getD b []=Y:=by rw[dA,hY];rfl
  rw[pP,hgY,ay aa] at hs;have QC:¬((b:Int)<0):=aa;have pc:=alj F X F Y (hL X (aV hX)) (hL Y (aV hY));have pc':aK S 40 [.agg [.p (.int .i64 F),.p (cT X)],.agg [.p (.int .i64 F),.p (cT Y)]] (ri (sJ F X F Y)):=pc;clear pc;generalize sJ F X F Y=o at*;by_cases ho:o<0
  .rw[aD ho] at hs;simp only[go_sem,i19_l1,h0,h6,h7,h8,h3,aw,aL,hXi,hYi,w1,QC,s40,iD pc',ho];first|exact⟨aJ,by rw[hs]⟩|exact⟨aJ,aw,by rw[hs]⟩|trace_state
  rw[ay ho] at hs;simp only[go_sem,i19_l1,h0,h6,h7,h8,h3,aw,aL,hXi,hYi,w1,QC,s40,iD pc',ho];first|exact⟨aJ,by rw[hs]⟩|exact⟨aJ,aw,by rw[hs]⟩|trace_state
 have:k=l.length:=aa;subst this;simp only[go_sem,i19_l1,i19_r2,h7,h8,h3,eI]
def rdQ(F:Nat)(L:ai)(x:aP×Bool):Prop:=aK S 25 [dY F L] (K8 x.1 x.2)/\(x.2=true->qO F L vM x.1/\ ¬HZ F L)/\(x.2=false->HZ F L)
def asK{F:Nat}{L:ai}(h:bQ (F:Int) L=0):∃x,rdQ F L x:=by
 rcases ahh h with ⟨m,h1,h3,h2⟩|⟨h1,h2⟩
 .exact⟨(m,true),h2,fun _=>⟨h1,h3⟩,fun h=>(by cases h)⟩
 exact⟨(SK,false),h2,fun h=>(by cases h),fun _=>h1⟩
open Classical in
noncomputable def nK (F:Nat) (L:ai):aP×Bool:=if h:∃x,rdQ F L x then Classical.choose h else (SK,false)
def Yq{F:Nat}{L:ai}(h:bQ (F:Int) L=0):rdQ F L (nK F L):=by have he:=asK h;unfold nK;rw[dif_pos he];exact Classical.choose_spec he
abbrev DM:d_:=[3,8]
def XP:∀k∈DM,tW k:=by intro k h;simp only[cD,fq,or_false] at h;unfold tW k5;omega
def lvQ(F:Nat)(L:ai)(ms:g_):Prop:=(ms.length<=8000/\ ∀m∈ms,qO F L DM m)/\aK S 10 [dY F L,.one (.p (.sl (iP DM)))] (.tup [.one (aU fO 7 (mP ms)),.one (.p (.int .i64 0))])
open Classical in
noncomputable def jc (F:Nat) (L:ai):g_:=if h:∃ms,lvQ F L ms then Classical.choose h else []
def XN{F:Nat}{L:ai}(h:bQ (F:Int) L=0):lvQ F L (jc F L):=by have he:∃ms,lvQ F L ms:=SU h DM ae XP;unfold jc;rw[dif_pos he];exact Classical.choose_spec he
abbrev isSt(id:Nat):Prop:=jO id=24
def stP(idv gv:Nat)(b:Bool)(aj:aB)(v:V)(ao:aB):Prop:=v=vb b/\ao idv=(gv,some (.var [.p (.bool b)]))/\ ∀i,¬isSt i->i≠idv->ao i=aj i
def au0{al:Al}{aj:aB}{gv F:Nat}{L:ai}{x2 x3 x4:PV}{b0:Bool}{m:aP}{b:Bool}(hp:aK S 25 [dY F L] (K8 m b))(ov:al.ok 384512000=true)(oa:al.ok 1536000000=true)(oa2:al.ok 1536064128=true)(hv:aj 384512000=(gv,some (.var [.p (.bool b0)]))):
  ∃v ao,jm S 24 [.agg [.p (.int .i64 F),.p (cT L),.p x2,.p x3,.p x4],.one (.aZ 384512000 gv 0)] al aj v ao/\stP 384512000 gv b aj v ao:=by
 refine nT c24 (iA rfl) ?_;simp only[go_sem,i24,oa,s25];rw[MH hp Q0];refine⟨by simp only[Ia,lQ,jA],?_⟩;simp only[go_sem,hv,ov];refine⟨rfl,?_,fun i h1 h2=>?_⟩
 .simp only[aO,Nat.reduceEqDiff,if_true,if_false]
 have h3:i≠1536000000:=fun e=>h1 (by rw[e];rfl);simp only[aO,ay h2,ay h3]
end Go.Abs
namespace Go.Abs
section
variable {al:Al} {Q:dO} {ak:Env} {aj:aB} {os all:h_} {tr:i_} {d:w_}
def ann{f:Nat}{vs:e_}{s ty z:Nat}{rd:a_}{es:s_}{x:PV}(au:∀i∈s::rd,al.ok i=true)(hp:aK S f vs (.tup [.one (aU ty z es),.one (.p x)]))(eF:S.lone s=false)(hs:(es.all fun e=>e.all PV.scalar)=true)(hx:x.scalar=true)
  (hK:∀(c:C) ao,grown s ty z es (.one c) ao->(∀i,i≠s->ao i=aj i)->RN S al os Q (put ak d (.tup [.one c,.one (.p x)])) ao):gP S al (.pc f vs rd s) d os Q ak aj:=by
 obtain⟨h1,h2,h3⟩:=sk (aj:=aj) (s:=s) (ty:=ty) (z:=z) (es:=es);have gR:(RV.tup [.one (aU ty z es),.one (.p x)]).alone=true:=by have a:=qY (ty:=ty) (z:=z) hs;simp only[RV.alone,gQ,ir,mH,pQ,vS] at a;simp only[RV.alone,gQ,ml,ir,mW,fZ,jA,mH,pQ,vS,a,Eg];exact hx
 refine(MH (v:=.tup [.one (dq aj s (aU ty z es)).1,.one (.p x)]) (u:=(dq aj s (aU ty z es)).2) hp ?_).2 ⟨DO fun i hi=>au i ?_,hK _ _ h1 h2⟩
 .rw[eF,uT];unfold land;rw[aD (.inr gR)];simp[jJ,gQ,ml,ir,jr,qQ,rI,mA,dq]
 rcases h3 with h|h<;>rw[h] at hi<;>simp at hi<;>simp[hi]
 rcases hi with hi|hi<;>simp[hi]
def anr{f:Nat}{vs:e_}{s ty z:Nat}{rd:a_}{es:s_}{x y:PV}(au:∀i∈(s+1)::rd,al.ok i=true)(hp:aK S f vs (.tup [.agg [.p x,aU ty z es],.one (.p y)]))(eF:S.lone s=false)(hx:x.scalar=true)(hy:y.scalar=true)(hs:(es.all fun e=>e.all PV.scalar)=true)
  (hK:∀(c:C) ao,grown (s+1) ty z es (.one c) ao->(∀i,i≠s+1->ao i=aj i)->RN S al os Q (put ak d (.tup [.agg [.p x,c],.one (.p y)])) ao):gP S al (.pc f vs rd s) d os Q ak aj:=by
 obtain⟨h1,h2,h3⟩:=sk (aj:=aj) (s:=s+1) (ty:=ty) (z:=z) (es:=es);have gR:(RV.tup [.agg [.p x,aU ty z es],.one (.p y)]).alone=true:=by have a:=qY (ty:=ty) (z:=z) hs;simp only[RV.alone,gQ,ir,mH,pQ,vS] at a;simp only[RV.alone,gQ,ml,ir,mW,fZ,jA,mH,pQ,vS,a,Eg];show(x.scalar&&y.scalar)=true;rw[hx,hy];rfl
 refine(MH (v:=.tup [.agg [.p x,(dq aj (s+1) (aU ty z es)).1],.one (.p y)]) (u:=(dq aj (s+1) (aU ty z es)).2) hp ?_).2 ⟨DO fun i hi=>au i ?_,hK _ _ h1 h2⟩
 .rw[eF,uT];unfold land;rw[aD (.inr gR)];simp[jJ,gQ,ml,ir,jr,qQ,rI,mA,dq]
 rcases h3 with h|h<;>rw[h] at hi<;>simp at hi<;>simp[hi]
 rcases hi with hi|hi<;>simp[hi]
def XA{s:Nat}{rd:a_}{x0 x1 x2 x3 x4:PV}{l:Bool}(hr:qX aj rd):∃u,land aj rd s ((RV.agg [.p x0,.p x1,.p x2,.p x3,.p x4]).gJ l)=some (.agg [.p x0,.p x1,.p x2,.p x3,.p x4],u)/\(∀i,i∉rd->app u aj i=aj i)/\(∀i∈u.map (·.1),i∈rd)/\(u.map (·.1)=[]\/u.map (·.1)=rd):=by
 have hp:(RV.agg [.p x0,.p x1,.p x2,.p x3,.p x4]).gJ l=.agg [.p x0,.p x1,.p x2,.p x3,.p x4]:=by cases l<;>rfl
 rw[hp];unfold land;by_cases h:rd=[]\/(RV.agg [.p x0,.p x1,.p x2,.p x3,.p x4]).alone=true
 .rw[aD h];exact⟨[],rfl,fun _ _=>rfl,(fun i hi=>by cases hi),.inl rfl⟩
 rw[ay h];obtain⟨fu,h1,h2⟩:=Wg rd rd hr;have:tJ aj rd=some fu:=h1;rw[this];refine⟨fu,?_,fun i hi=>Gv _ _ _ (by rw[h2];exact hi),fun i hi=>by rw[h2] at hi;exact hi,.inr h2⟩;show some (_,fu++[])=_;rw[jA];rfl
end
abbrev DJ(l:List ByteArray):t_:=l.map fun s=>(PV.str s,[PV.bool true])
def amS(q:ByteArray):∀(l:List ByteArray) (i:Nat),(l.any (fun s=>q==s)=true/\ ∃j,qC (.str q) (DJ l) i=some (some (j,[.bool true])))\/(l.any (fun s=>q==s)=false/\qC (.str q) (DJ l) i=some none):=by
 intro l
 induction l with
 |nil=>intro i;exact .inr ⟨rfl,rfl⟩
 |cons a l ih=>
  intro i;have e:qC (.str q) (DJ (a::l)) i=match some (q==a) with|some true=>some (some (i,[.bool true]))|some false=>qC (.str q) (DJ l) (i+1)|none=>none:=rfl
  rw[e,List.any_cons];cases h:(q==a) with
  |true=>exact .inl ⟨rfl,i,rfl⟩
  |false=>exact ih (i+1)
def aY.key(F:Nat)(m:aY):ByteArray:=pM F m.n
noncomputable def jD (F limit:Nat) (a:aY) (st:j_) (m:aP):Nat×j_:=
 if (st.map (aY.key F)).any (fun s=>pM F (cN ((ft F a.c m).getD []))==s) then (0,st)
 else if st.length=limit then (1,st)
 else (if (nK F ((ft F a.c m).getD [])).2 then 2 else 0,st++[⟨(ft F a.c m).getD [],cN ((ft F a.c m).getD []),a.w++[m]⟩])
noncomputable def gD (F limit:Nat) (a:aY):j_->g_->Nat×j_
 |st,[]=>(0,st)
 |st,m::r=>if (jD F limit a st m).1=0 then gD F limit a (jD F limit a st m).2 r else jD F limit a st m
noncomputable def iR (F limit:Nat):Nat->Nat->j_->Nat×j_
 |0,_,st=>(0,st)
 |f+1,i,st=>match st[i]? with
  |none=>(0,st)
  |some a=>if (gD F limit a st (jc F a.c)).1=0 then iR F limit f (i+1) (gD F limit a st (jc F a.c)).2 else gD F limit a st (jc F a.c)
structure xr (F:Nat) (L0:ai) (n:Nat) (m:aY):Prop where
 chk:bQ (F:Int) m.c=0
 vK:m.n=cN m.c
 rep:mV F L0 m.w=some m.c
 kind:∀x∈m.w,x.k∈DM
 len:m.w.length<=n
 same:m.c.length=L0.length
structure yq (al:Al):Prop where
 c:∀id,jO id=23->al.ok id=true
 t:al.fs.contains 45=true
 a:al.fs.contains 47=true
 s:al.fs.contains 24=true
 v:al.ok 384512000=true
def yq.fn{al:Al}{f id:Nat}(h:al.fs.contains f=true)(e:jO id=f):al.ok id=true:=by unfold Al.ok;rw[e,h];simp
def yq.fP{al:Al}(ac:yq al):al.ok 1472000000=true/\al.ok 1472064128=true/\al.ok 1472128000=true/\al.ok 1472192064=true/\al.ok 1472192192=true/\al.ok 1472256256=true/\al.ok 1472448128=true/\al.ok 1472448192=true/\al.ok 1472640128=true/\al.ok 1472704193=true/\al.ok 1472704448=true/\al.ok 1472768192=true/\al.ok 1472768320=true/\al.ok 1472768384=true/\al.ok 1472768512=true:=by
 repeat' apply And.intro
 all_goals exact ac.c _ rfl
abbrev Lf(gv:Nat):V:=.one (.hfn 24 [] [.aZ 384512000 gv 0])
def nH(i:Nat):Prop:=jO i=23\/jO i=45\/jO i=47\/jO i=24
def wP.ok{al:Al}{s:Nat}(hq:wP s)(ac:yq al):al.ok s=true:=by
 rcases hq with rfl|rfl
 .exact ac.c _ rfl
 exact yq.fn ac.a rfl
def wP.own{s:Nat}(hq:wP s):nH s:=by
 rcases hq with rfl|rfl
 .exact .inl rfl
 exact .inr (.inr (.inl rfl))
def wP.no{s i:Nat}(hq:wP s)(h:¬nH i):i≠s:=fun e=>h (e▸hq.own)
def wP.ne{s:Nat}(hq:wP s):¬s=1472000000/\ ¬s=1472064128/\ ¬s=1472128000/\ ¬s=1472192192/\ ¬s=1472256256/\ ¬s=1472448128/\ ¬s=1472448192/\ ¬s=1472640128/\ ¬s=1472704193/\ ¬s=1472704448/\ ¬s=1472768192/\ ¬s=1472768320/\ ¬s=1472768384/\ ¬s=1472768512/\ ¬s=384512000:=by rcases hq with rfl|rfl<;>decide
structure xu (F limit:Nat) (L0:ai) (gv:Nat) (r0:a_) (b0:aB) (gq gM:Nat) (st:j_) (k:Nat) (ak:Env) (aj:aB):Prop where
 e1:ak 1=vi limit
 e2:ak 2=Lf gv
 e9:ak 9=.one (.kU 1472128000 gM)
 rU:ak 10=.one (.aZ 1472192192 gq 0)
 bM:aj 1472128000=(gM,some (.map false (DJ (st.map (aY.key F)))))
 que:∃s,wP s/\ ∃gi,CF s gq gi (nC F st) k aj
 bv:aj 384512000=(gv,some (.var [.p (.bool false)]))
 ne:st≠[]
 lim:st.length<=limit
 all:∀m∈st,xr F L0 st.length m
 fr:∀i,¬nH i->i≠384512000->i∉r0->aj i=b0 i
def Oi(F:Nat)(l:j_):(nC F l).length=l.length:=cM ..
def aqM(F:Nat)(l:j_):∀e∈nC F l,e.length=5:=fun e he=>by obtain⟨m,_,rfl⟩:=dh.1 he;rfl
def sv{i:Nat}{f o:Nat}(h:¬nH i)(e:jO o=f)(hf:f=23\/f=45\/f=47\/f=24):i≠o:=fun h2=>h (by rw[h2];unfold nH;rw[e];exact hf)
structure EdC (F:Nat) (L0:ai) (gv:Nat) (r0:a_) (b0:aB) (r:Nat×j_) (gq:Nat) (ak:Env) (aj:aB):Prop where
 rU:ak 10=.one (.aZ 1472192192 gq 0)
 que:∃k s,wP s/\ ∃gi,CF s gq gi (nC F r.2) k aj
 bv:aj 384512000=(gv,some (.var [.p (.bool (r.1==2))]))
 ne:r.2≠[]
 all:∀m∈r.2,xr F L0 r.2.length m
 fr:∀i,¬nH i->i≠384512000->i∉r0->aj i=b0 i
def xr.mono{F:Nat}{L0:ai}{n n':Nat}{m:aY}(h:xr F L0 n m)(hn:n<=n'):xr F L0 n' m:=⟨h.chk,h.vK,h.rep,h.kind,mY h.len hn,h.same⟩
def ahS{F:Nat}{L:ai}(h:bQ (F:Int) L=0):∀l∈L,smL l:=by
 intro l hl;have aI:L≠[]:=List.ne_nil_of_mem hl;obtain⟨G,e,g⟩:=rj h aI;have hc:=g.len;have hF:=g.fing;have hb:=g.bad l hl;rcases v7 hb with hp|hx
 .obtain⟨g0,g1,r0,r1⟩:=g.ok.ax.fy l hl hp;have:=sL (nV l.gate.toNat) L;have hid:l.id=0:=((sB hp).1 hb).1.1.2;simp only[cg] at r1;refine⟨⟨aa,aa⟩,⟨aa,aa⟩,⟨aa,aa⟩⟩
 obtain⟨i1,i2⟩:=g.ids.1 l hl hx;have:=sL Let.aA L;have sX:l.gate=0/\l.aC=0:=by unfold dL at hb;have hk:l.kind=2:=dk.1 hx;simp[hk] at hb;exact⟨by have:=hb;omega,by have:=hb;omega⟩
 refine⟨⟨aa,aa⟩,⟨aa,aa⟩,⟨aa,aa⟩⟩
def aqv{F:Nat}{L0:ai}{n:Nat}{a:aY}{m:aP}(ha:xr F L0 n a)(hm:qO F a.c DM m):∃M,ft F a.c m=some M/\aK S 30 [dY F a.c,AS m] (jy F M)/\bQ (F:Int) M=0/\M≠[]/\M.length=a.c.length/\mV F L0 (a.w++[m])=some M:=by
 have aI:a.c≠[]:=by obtain⟨_,⟨v,hv,_⟩,_⟩:=hm;intro e;rw[e] at hv;exact absurd hv (oN v)
 obtain⟨G,e,g⟩:=rj ha.chk aI;have:F=G:=aa;subst this;have hk:m.k=3\/m.k=8:=by
  have:=hm.1
  simpa using this
 have Ax:k5 m.k:=by unfold k5;omega
 have pa:=Tk g Ax m.a m.b m.c m.l m.o m.s;obtain⟨_,_,M0,e0⟩:=hm;rcases LS g Ax m.a m.b m.c m.l m.o m.s with ⟨e,he,h⟩|⟨M,h,hc,_,L,hL,hM⟩
 .rw[e0] at h;exact absurd h (R9 he)
 rw[h] at pa;have hlen:M.length=a.c.length:=by
  rw[hM,PX];rcases hk with hk|hk
  .rw[hk] at hL;have hL:rS F a.c m.a.toNat m.b.toNat=some L:=hL;unfold rS at hL;split at hL
   .cases hL;rw[w8,zu,zu,fK]
   cases hL
  rw[hk] at hL;have hL:tx F a.c m.a.toNat m.b.toNat m.c.toNat=some L:=hL;unfold tx at hL;split at hL
  .cases hL;rw[w8,fK]
  cases hL
 have oZ:=Ti aI h;refine⟨M,oZ,pa,hc,?_,hlen,by rw[Yx m ha.rep];exact oZ⟩;intro e;rw[e] at hlen;exact aI (Ej.1 hlen.symm)
def szM(l:g_):iI 7 (mP l)=true:=by simp[iI,aP.ps]
def ak4{w:g_}(aI:w≠[])(hl:w.length<=1000000):aK S 46 [.one (.p (lW w))] (.one (aU fO 7 (mP w))):=by
 have hs:((mP w).all fun e=>e.length==7)=true:=szM w;have hr:(0+(mP w).length)*48<=room:=by unfold room;rw[cM];omega
 show aK S _ [.one (.p (.sl (mP w)))] _;obtain⟨e0,es,hq⟩:∃e0 es,mP w=e0::es:=by cases w with
  |nil=>exact absurd rfl aI
  |cons a t=>exact⟨_,_,rfl⟩
 rw[hq] at hs hr |-;refine bk c46 ?_;have aI:e0::es≠[]:=af;have sX:aU fO 7 (e0::es)=.own fO 7 (e0::es):=ay aI;rw[sX];unfold room at hr;simp only[js,dC] at hr;simp only[mH] at hs;simp only[go_sem,i46,gI,iI];simp only[hs,hr,not_true_eq_false,if_true,if_false];simp only[go_sem];exact KU A7 rfl
section
variable {al:Al} {Q:dO} {ak:Env} {aj:aB} {os all:h_} {tr:i_} {d:w_}
def alJ{f:Nat}{vs:e_}{s ty z:Nat}{rd:a_}{es:s_}(au:∀i∈s::rd,al.ok i=true)(hp:aK S f vs (.one (aU ty z es)))(eF:S.lone s=false)(oE:rd=[]\/(RV.one (aU ty z es)).alone=true)
  (hK:∀(c:C) ao w,grown s ty z es (.one c) ao->(∀i,i≠s->ao i=aj i)->(w=[]\/w=[s])->RD S al all os Q (put ak d (.one c)) ao (tr++[⟨rd++w,w,[]⟩])):dP S al (.pc f vs rd s) d all os Q ak aj tr:=by
 obtain⟨h1,h2,h3⟩:=sk (aj:=aj) (s:=s) (ty:=ty) (z:=z) (es:=es);refine(Mf (v:=.one (dq aj s (aU ty z es)).1) (u:=(dq aj s (aU ty z es)).2) hp ?_).2 ⟨DO fun i hi=>au i ?_,hK _ _ _ h1 h2 h3⟩
 .rw[eF,uT];unfold land;rw[aD oE];simp[jJ,gQ,ir,jr,qQ,mA]
 rcases h3 with h|h<;>rw[h] at hi<;>simp at hi<;>simp[hi]
 rcases hi with hi|hi<;>simp[hi]
end
end Go.Abs
