/-
  The class search.
-/
import Derived.Test.YtanhekelecofdaaGreatDoorRd
set_option linter.all false
set_option maxRecDepth 100000
set_option maxHeartbeats 16000000
namespace Go.Abs
def Uk{n:Int}(h1: -1000000<=n)(h2:n<=1000000):aO S 68 [vi n] (.one (.p (.str (lk n)))):=by
 refine⟨1,?_⟩;have e:UO [vi n]=some (.one (.p (.str (lk n)))):=by show(if -9223372036854775808<=n/\n<=9223372036854775807 then _ else _)=_;rw[aG ⟨aa,aa⟩]
 have h:S.prim 68 [vi n]=some (some (.one (.p (.str (lk n))))):=by rw[<- e];rfl
 rw[ij];simp only[h]
def ab3:∀(k n:Nat) (acc:p_),(sW k n acc).length<=k+acc.length:=by
 intro k
 induction k with
 |zero=>intro n acc;simp[sW]
 |succ k ih=>
  intro n acc;unfold sW;cases Nat.blt n 10 with
  |true=>simp only[cond_true,dL];omega
  |false=>simp only[cond_false];have:=ih (Nat.div n 10) (UInt8.ofNat (Nat.add 48 (Nat.mod n 10))::acc);rw[dL] at this;omega
def HT(n:Int):(lk n).size<=40:=by
 unfold lk;show(List.toArray _).size<=40;rw[List.size_toArray];cases n with
 |ofNat u=>have:=ab3 20 u [];simp only[fv] at this;show(sW 20 u []).length<=40;omega
 |negSucc u=>have:=ab3 20 (Nat.succ u) [];simp only[fv] at this;show(45::sW 20 (Nat.succ u) []).length<=40;rw[dL];omega
def EU{a b:ByteArray}(h:a.size+b.size<=1000000000):Jh .add a b=some (.str (a++b)):=by unfold Jh;exact aG aa
def CH(a b:ByteArray):(a++b).size=a.size+b.size:=ByteArray.size_append
def Zz:ByteArray:=⟨#[46]⟩
def sU:ByteArray:=⟨#[117]⟩
def sO:ByteArray:=⟨#[111]⟩
def sPl:ByteArray:=⟨#[43]⟩
def sMi:ByteArray:=⟨#[45]⟩
def sQu:ByteArray:=⟨#[63]⟩
def Ep:ByteArray:=⟨#[32]⟩
def sCo:ByteArray:=⟨#[58]⟩
def tK(l:Let):ByteArray:=
 if l.kind==1 then lk l.gate++Zz++lk l.aA
 else if l.kind==2 then (lk l.id++(if l.over then sO else sU))++(if l.sign==1 then sPl else if l.sign== -1 then sMi else sQu)
 else sQu
def aiP(l:Let):(tK l).size<=100:=by
 have h1:=HT l.gate;have h2:=HT l.aA;have h3:=HT l.id;have c1:Zz.size=1:=rfl;have c2:sU.size=1:=rfl;have c3:sO.size=1:=rfl;have c4:sPl.size=1:=rfl;have c5:sMi.size=1:=rfl;have c6:sQu.size=1:=rfl;unfold tK;split
 .rw[CH,CH];omega
 split
 .rw[CH,CH];split<;>split
  .omega
  .split<;>omega
  .omega
  split<;>omega
 omega
def smL(l:Let):Prop:=(-1000000<=l.gate/\l.gate<=1000000)/\(-1000000<=l.aA/\l.aA<=1000000)/\(-1000000<=l.id/\l.id<=1000000)
def avD{l:Let}(h:smL l):aO S 69 [KV l] (.one (.p (.str (tK l)))):=by
 obtain⟨⟨g1,g2⟩,⟨r1,r2⟩,⟨i1,i2⟩⟩:=h;have pg:=Uk g1 g2;have pr:=Uk r1 r2;have pi:=Uk i1 i2;have lg:=HT l.gate;have lr:=HT l.aA;have li:=HT l.id;have DX:S.shared 68=false:=ah;have b1:=EU (a:=lk l.gate) (b:=⟨#[46]⟩) (by have:(ByteArray.mk #[46]).size=1:=rfl;omega);have b2:=EU (a:=lk l.gate++⟨#[46]⟩) (b:=lk l.aA) (by rw[CH];have:(ByteArray.mk #[46]).size=1:=rfl;omega);have b3:=EU (a:=lk l.id) (b:=⟨#[117]⟩) (by have:(ByteArray.mk #[117]).size=1:=rfl;omega);have b4:=EU (a:=lk l.id) (b:=⟨#[111]⟩) (by have:(ByteArray.mk #[111]).size=1:=rfl;omega);have fin:∀(x:ByteArray) (c:ByteArray),(x=⟨#[117]⟩\/x=⟨#[111]⟩)->c.size=1->Jh .add (lk l.id++x) c=some (.str (lk l.id++x++c)):=fun x c hx hc=>by
  refine EU ?_;rw[CH];rcases hx with rfl|rfl
  .have:(ByteArray.mk #[117]).size=1:=rfl;omega
  have:(ByteArray.mk #[111]).size=1:=rfl;omega
 have u1:=fin ⟨#[117]⟩ ⟨#[43]⟩ (.inl rfl) rfl;have u2:=fin ⟨#[117]⟩ ⟨#[45]⟩ (.inl rfl) rfl;have u3:=fin ⟨#[117]⟩ ⟨#[63]⟩ (.inl rfl) rfl;have o1:=fin ⟨#[111]⟩ ⟨#[43]⟩ (.inr rfl) rfl;have o2:=fin ⟨#[111]⟩ ⟨#[45]⟩ (.inr rfl) rfl;have o3:=fin ⟨#[111]⟩ ⟨#[63]⟩ (.inr rfl) rfl;have hw:tK l=if l.kind==1 then lk l.gate++⟨#[46]⟩++lk l.aA
  else if l.kind==2 then (lk l.id++(if l.over then ⟨#[111]⟩ else ⟨#[117]⟩))++(if l.sign==1 then ⟨#[43]⟩ else if l.sign== -1 then ⟨#[45]⟩ else ⟨#[63]⟩)
  else ⟨#[63]⟩:=rfl
 rw[hw];cases k1:(l.kind==1) with
 |true=>simp only[if_true];refine bY c69 ?_;simp only[go_sem,i69,k1,DX,abW pg,abW pr,b1,b2];first|done|exact⟨aL,rfl⟩|exact aL
 |false=>
  cases k2:(l.kind==2) with
  |true=>
   simp only[dR,if_true,if_false];cases ho:l.over with
   |true=>
    cases s1:(l.sign==1) with
    |true=>refine bY c69 ?_;simp only[go_sem,i69,k1,k2,ho,s1,DX,Fp pi,b3,b4,o1];first|done|rfl
    |false=>
     cases s2:(l.sign== -1) with
     |true=>refine bY c69 ?_;simp only[go_sem,i69,k1,k2,ho,s1,s2,DX,Fp pi,b3,b4,o2];first|done|rfl
     |false=>refine bY c69 ?_;simp only[go_sem,i69,k1,k2,ho,s1,s2,DX,Fp pi,b3,b4,o3];first|done|rfl
   |false=>
    cases s1:(l.sign==1) with
    |true=>refine bY c69 ?_;simp only[go_sem,i69,k1,k2,ho,s1,DX,Fp pi,b3,u1];first|done|rfl
    |false=>
     cases s2:(l.sign== -1) with
     |true=>refine bY c69 ?_;simp only[go_sem,i69,k1,k2,ho,s1,s2,DX,Fp pi,b3,u2];first|done|rfl
     |false=>refine bY c69 ?_;simp only[go_sem,i69,k1,k2,ho,s1,s2,DX,Fp pi,b3,u3];first|done|rfl
  |false=>simp only[dR,if_false];refine bY c69 ?_;simp only[go_sem,i69,k1,k2];first|done|rfl
def oU(F:Int)(L:ai):ByteArray:=L.foldl (fun s l=>s++(Ep++tK l)) (lk F++sCo)
def asf(F:Int):∀(L:ai) (s:ByteArray) (k:Nat),s.size<=41+101*k->(L.foldl (fun s l=>s++(Ep++tK l)) s).size<=41+101*(k+L.length):=by
 intro L
 induction L with
 |nil=>intro s k h;exact h
 |cons l L ih=>
  intro s k h;have:=ih (s++(Ep++tK l)) (k+1) (by have:=aiP l;rw[CH,CH];have c:Ep.size=1:=rfl;omega)
  rw[dL];show(List.foldl (fun s l=>s++(Ep++tK l)) (s++(Ep++tK l)) L).size<=_;omega
def En(F:Int)(L:ai)(k:Nat):ByteArray:=(L.take k).foldl (fun s l=>s++(Ep++tK l)) (lk F++sCo)
def ar8{F:Int}{L:ai}{k:Nat}{x:Let}(h:L[k]?=some x):En F L (k+1)=En F L k++(Ep++tK x):=by unfold En;rw[LG h,IK];rfl
def ag1{F:Int}{L:ai}(hF: -1000000<=F/\F<=1000000)(hl:L.length<=1000000)(FP:∀l∈L,smL l):aO S 43 [fe F L] (.one (.p (.str (oU F L)))):=by
 have pF:=Uk hF.1 hF.2;have lF:=HT F;have DX:S.shared 68=false:=ah;have b1:=EU (a:=lk F) (b:=⟨#[58]⟩) (by have:(ByteArray.mk #[58]).size=1:=rfl;omega);have uN:∀k,(En F L k).size<=41+101*k:=fun k=>by have:=asf F (L.take k) (lk F++sCo) 0 (by rw[CH];have:sCo.size=1:=rfl;omega);rw[iH] at this;unfold En;omega
 have yq:En F L L.length=oU F L:=by unfold En oU;rw[lR]
 generalize oU F L=res at yq;refine bY c43 ?_;simp only[go_sem,i43,DX,Fp pF,b1];refine dG (fun k ak aj=>ak 11=.one (.p (dJ L))/\ak 12=vi L.length/\ak 13=vi k/\ak 3=.one (.p (.str (En F L k)))) 0 L.length (cA _) ?_ ?_
 .simp only[go_sem];first|done|rfl|exact⟨rfl,rfl⟩
 rintro k ak aj hk ⟨gD,jA,sZ,h3⟩
 by_cases aB:k<L.length
 .have aP:((k:Int)<(L.length:Int)):=aa;have hx:=HW aB;have mr:=jo hx;have w1:=df (n:=k) aa;have pw:=avD (FP _ (aZ hx));have lw:=aiP (lA L k);have hts:=ar8 (F:=F) hx;have jv:=uN k;generalize lA L k=x at*;have b2:=EU (a:=⟨#[32]⟩) (b:=tK x) (by have:(ByteArray.mk #[32]).size=1:=rfl;omega);generalize En F L k=s at*;have b3:=EU (a:=s) (b:=⟨#[32]⟩++tK x) (by rw[CH];have:(ByteArray.mk #[32]).size=1:=rfl;omega)
  have pw':aO S 69 [.agg [.p (.int .i64 x.kind),.p (.int .i64 x.gate),.p (.int .i64 x.aA),.p (.int .i64 x.id),.p (.int .i64 x.sign),.p (.bool x.over)]] (.one (.p (.str (tK x)))):=pw;simp only[go_sem,i43_l1,gD,jA,sZ,h3,aB,aP,mr,Let.ps,w1,s69,Fp pw',b2,b3];first|(rw[hts];rfl)|exact⟨aB,by rw[hts];rfl⟩
 have:k=L.length:=aa;subst this;rw[yq] at h3;simp only[go_sem,i43_l1,i43_r2,jA,sZ,h3,fh]
structure bj where
 c:ai
 n:ai
 w:h_
abbrev m_:=List bj
def bj.ps(F:Nat)(m:bj):b_:=[.int .i64 F,dJ m.c,.int .i64 F,dJ m.n,qT m.w]
abbrev oR(F:Nat)(l:m_):s_:=l.map (bj.ps F)
abbrev mbT:Nat:=66
def YR(cK:sP){F:Nat}{L:ai}(w:h_)(hl:L.length<=1000000)(h0:cX (F:Int) L=0):aO S 42 [fe F L,.one (.p (qT w))] (.agg [.p (.int .i64 F),.p (dJ L),.p (.int .i64 F),.p (cO (j4 L)),.p (qT w)]):=by have pn:=agl cK (f:=F) hl h0;generalize cO (j4 L)=q at*;refine bY c42 ?_;simp only[go_sem,i42,s21,aY pn afr];first|done|rfl
abbrev aey(id:Nat):Prop:=jH id=44
abbrev isAd(id:Nat):Prop:=jH id=48
structure Bv (s gq gi:Nat) (es:s_) (k:Nat) (aj:aE):Prop where
 q:aj 1408192192=(gq,some (.var [.hsl s gi 5 0 es.length,.p (.int .i64 k)]))
 b:aj s=(gi,some (.arr mbT 5 es))
def tkP(s gq gi:Nat)(es:s_)(k:Nat)(aj:aE)(v:V)(ao:aE):Prop:=
 (k=es.length/\v=.tup [.agg [.p (.int .i64 0),.p .nils,.p (.int .i64 0),.p .nils,.p .nils],vb false]/\ ∀i,¬aey i->ao i=aj i)\/
 ∃e,es[k]?=some e/\v=.tup [.agg (e.map .p),vb true]/\Bv s gq gi es (k+1) ao/\ ∀i,¬aey i->i≠1408192192->ao i=aj i
def len5{e:b_}(h:e.length=5):∃x0 x1 x2 x3 x4,e=[x0,x1,x2,x3,x4]:=by
 match e,h with
 |[x0,x1,x2,x3,x4],_=>exact⟨_,_,_,_,_,rfl⟩
def adP(s gq:Nat)(es:s_)(k:Nat)(e:b_)(aj:aE)(v:V)(ao:aE):Prop:=v=.tup []/\(∃g,Bv 3072064448 gq g (es++[e]) k ao)/\ ∀i,¬isAd i->i≠1408192192->i≠s->ao i=aj i
abbrev wZ(s:Nat):Prop:=s=1408192064\/s=3072064448
def auN{al:Al}{s:Nat}(hs:wZ s){aj:aE}{gq gi k:Nat}{es:s_}(oq:al.ok 1408192192=true)(os:al.ok s=true)(ot:al.ok 2816000000=true)(ot2:al.ok 2816128000=true)(h:Bv s gq gi es k aj)(h5:∀e∈es,e.length=5)(hl:es.length<=1000000)(hk:k<=es.length):
  ∃v ao,jd S 44 [.one (.bt 1408192192 gq 0)] al aj v ao/\tkP s gq gi es k aj v ao:=by
 rcases hs with rfl|rfl
 all_goals
  obtain⟨hq,hb⟩:=h;refine nH c44 (iI rfl) ?_;by_cases aB:k<es.length
  .have aK:(((k:Int))==(es.length:Int))=false:=by rw[lS];omega
   obtain⟨e,he⟩:=aN aB;obtain⟨x0,x1,x2,x3,x4,rfl⟩:=len5 (h5 e (aZ he));have w1:=df (n:=k) aa;have w2:IntKind.i64.wrap (((k+1:Nat):Int)-1)=(k:Int):=by rw[xx aa aa];omega
   simp only[go_sem,i44,hq,hb,oq,os,ot,aK,aB,he,w1,w2];refine⟨aL,aL,.inr ⟨_,he,rfl,⟨?_,?_⟩,fun i h1 h2=>?_⟩⟩
   .simp only[aU,Nat.reduceEqDiff,if_true,if_false]
   .simp only[aU,Nat.reduceEqDiff,if_false];exact hb
   have h3:i≠2816000000:=fun e=>h1 (by rw[e];rfl);simp only[aU,aC h2,aC h3]
  have DM:k=es.length:=aa;subst DM;have heq:(((es.length:Int))==(es.length:Int))=true:=af;simp only[go_sem,i44,hq,oq,ot,ot2,heq];refine⟨aL,.inl ⟨rfl,rfl,fun i h1=>?_⟩⟩;have h3:i≠2816000000:=fun e=>h1 (by rw[e];rfl);have h4:i≠2816128000:=fun e=>h1 (by rw[e];rfl);simp only[aU,aC h3,aC h4]
def ajt{al:Al}{s:Nat}(hs:wZ s){aj:aE}{gq gi k:Nat}{es:s_}{x0 x1 x2 x3 x4:PV}(oq:al.ok 1408192192=true)(os:al.ok s=true)(oa:al.ok 3072000000=true)(O5:al.ok 3072064384=true)(oa3:al.ok 3072064448=true)(h:Bv s gq gi es k aj)(aK:es≠[])(hl:es.length<=1000000):
  ∃v ao,jd S 48 [.one (.bt 1408192192 gq 0),.agg [.p x0,.p x1,.p x2,.p x3,.p x4]] al aj v ao/\adP s gq es k [x0.norm,x1.norm,x2.norm,x3.norm,x4.norm] aj v ao:=by
 rcases hs with rfl|rfl
 all_goals
  obtain⟨hq,hb⟩:=h;refine nH c48 (iI rfl) ?_;simp only[go_sem,i48,hq,oq,oa,O5];refine GQ (site:=3072064448) (bytes:=88) (es:=es) (xs:=[[x0.norm,x1.norm,x2.norm,x3.norm,x4.norm]]) (rd:=[3072064384]) (fun i hi=>?_) (.inr ⟨aK,gi,rfl,?_⟩) ?_ (.inl rfl) (by simp only[dL,fv];omega) fun c' je r1 u1 iZ lV k9=>?_
  .simp only[ch,eL,or_false] at hi;rcases hi with rfl|rfl|rfl<;>assumption
  .simp only[aU,Nat.reduceEqDiff,if_false];exact hb
  .simp[gb,aU]
  have b0:=lV 1408192192 ae ae;simp only[aU,Nat.reduceEqDiff,if_false] at b0;have b1:=b0.trans hq;rcases iZ with ⟨e,_⟩|⟨_,g2,e2,hC⟩
  .simp at e
  cases e2;simp only[go_sem,b1,oq];refine⟨?_,rfl,⟨g2,?_,?_⟩,fun i h1 h2 h3=>?_⟩
  .rcases k9 with ⟨rfl,rfl⟩|⟨rfl,rfl⟩|⟨rfl,rfl⟩<;>kernel_rfl
  .simp only[aU,if_true]
  .simp only[aU,Nat.reduceEqDiff,if_false];exact hC
  have h4:i≠3072000000:=fun e=>h1 (by rw[e];rfl);have h5:i≠3072064384:=fun e=>h1 (by rw[e];rfl);have h6:i≠3072064448:=fun e=>h1 (by rw[e];rfl);simp only[aU,aC h2];rw[lV i h6 h3];simp only[aU,aC h4,aC h5]
def alX{α:Type}{A:List α}{k:Nat}{a:α}(h:A[k]?=some a):A.drop k=a::A.drop (k+1):=by obtain⟨h1,e⟩:=aW.1 h;rw[<- e,ur]
end Go.Abs
namespace Go.Abs
abbrev pL(F:Nat)(l:x_):s_:=l.map fun L=>[.int .i64 F,dJ L]
def Qh{F:Nat}{l:x_}{k:Nat}{L:ai}(h:l[k]?=some L):(pL F l)[k]?=some [.int .i64 F,dJ L]:=by rw[gk,h];rfl
def rdQ(F:Nat)(L:ai)(x:aV×Bool):Prop:=aO S 36 [fe F L] (Lr x.1 x.2)/\(x.2=true->qW F L xl x.1/\ ¬Ie F L)/\(x.2=false->Ie F L)
def asp{F:Nat}{L:ai}(h:cX (F:Int) L=0):∃x,rdQ F L x:=by
 rcases ahc h with ⟨m,h1,h3,h2⟩|⟨h1,h2⟩
 .exact⟨(m,true),h2,fun _=>⟨h1,h3⟩,fun h=>(by cases h)⟩
 exact⟨(VG,false),h2,fun h=>(by cases h),fun _=>h1⟩
open Classical in
noncomputable def zU (F:Nat) (L:ai):aV×Bool:=if h:∃x,rdQ F L x then Classical.choose h else (VG,false)
def ag9{F:Nat}{L:ai}(h:cX (F:Int) L=0):rdQ F L (zU F L):=by have he:=asp h;unfold zU;rw[dif_pos he];exact Classical.choose_spec he
abbrev zO:d_:=[3,8]
def YP:∀k∈zO,uf k:=by intro k h;simp only[ch,eL,or_false] at h;unfold uf k5;omega
def lvQ(F:Nat)(L:ai)(ms:h_):Prop:=(ms.length<=8000/\ ∀m∈ms,qW F L zO m)/\aO S 45 [fe F L,.one (.p (.sl (iP zO)))] (.tup [.one (bh iT 7 (mP ms)),.one (.p (.int .i64 0))])
open Classical in
noncomputable def jl (F:Nat) (L:ai):h_:=if h:∃ms,lvQ F L ms then Classical.choose h else []
def YM{F:Nat}{L:ai}(h:cX (F:Int) L=0):lvQ F L (jl F L):=by have he:∃ms,lvQ F L ms:=VQ h zO ae YP;unfold jl;rw[dif_pos he];exact Classical.choose_spec he
abbrev isSt(id:Nat):Prop:=jH id=35
def stP(idv gv:Nat)(b:Bool)(aj:aE)(v:V)(ao:aE):Prop:=v=vb b/\ao idv=(gv,some (.var [.p (.bool b)]))/\ ∀i,¬isSt i->i≠idv->ao i=aj i
def auD{al:Al}{aj:aE}{gv F:Nat}{L:ai}{x2 x3 x4:PV}{b0:Bool}{m:aV}{b:Bool}(hp:aO S 36 [fe F L] (Lr m b))(ov:al.ok 1024512000=true)(oa:al.ok 2240000000=true)(O5:al.ok 2240064128=true)(hv:aj 1024512000=(gv,some (.var [.p (.bool b0)]))):
  ∃v ao,jd S 35 [.agg [.p (.int .i64 F),.p (dJ L),.p x2,.p x3,.p x4],.one (.bt 1024512000 gv 0)] al aj v ao/\stP 1024512000 gv b aj v ao:=by
 refine nH c35 (iI rfl) ?_;simp only[go_sem,i35,oa,s36];rw[Nu hp Um];refine⟨by simp only[Ij,kL,jJ],?_⟩;simp only[go_sem,hv,ov];refine⟨rfl,?_,fun i h1 h2=>?_⟩
 .simp only[aU,Nat.reduceEqDiff,if_true,if_false]
 have h3:i≠2240000000:=fun e=>h1 (by rw[e];rfl);simp only[aU,aC h2,aC h3]
end Go.Abs
namespace Go.Abs
section
variable {al:Al} {Q:eK} {ak:Env} {aj:aE} {os all:g_} {tr:i_} {d:w_}
def ana{f:Nat}{vs:e_}{s ty z:Nat}{rd:a_}{es:s_}{x:PV}(ay:∀i∈s::rd,al.ok i=true)(hp:aO S f vs (.tup [.one (bh ty z es),.one (.p x)]))(fM:S.lone s=false)(hs:(es.all fun e=>e.all PV.scalar)=true)(hx:x.scalar=true)
  (hK:∀(c:C) ao,grown s ty z es (.one c) ao->(∀i,i≠s->ao i=aj i)->RN S al os Q (put ak d (.tup [.one c,.one (.p x)])) ao):gP S al (.pc f vs rd s) d os Q ak aj:=by
 obtain⟨h1,h2,h3⟩:=vG (aj:=aj) (s:=s) (ty:=ty) (z:=z) (es:=es);have iC:(RV.tup [.one (bh ty z es),.one (.p x)]).alone=true:=by have a:=tP (ty:=ty) (z:=z) hs;simp only[RV.alone,iY,jh,oY,sH,Bs] at a;simp only[RV.alone,iY,pN,jh,nY,gR,jJ,oY,sH,Bs,a,CQ];exact hx
 refine(Nu (v:=.tup [.one (dY aj s (bh ty z es)).1,.one (.p x)]) (u:=(dY aj s (bh ty z es)).2) hp ?_).2 ⟨Eg fun i hi=>ay i ?_,hK _ _ h1 h2⟩
 .rw[fM,yF];unfold land;rw[aG (.inr iC)];simp[jY,iY,pN,jh,jF,tF,um,nW,dY]
 rcases h3 with h|h<;>rw[h] at hi<;>simp at hi<;>simp[hi]
 rcases hi with hi|hi<;>simp[hi]
def anf{f:Nat}{vs:e_}{s ty z:Nat}{rd:a_}{es:s_}{x y:PV}(ay:∀i∈(s+1)::rd,al.ok i=true)(hp:aO S f vs (.tup [.agg [.p x,bh ty z es],.one (.p y)]))(fM:S.lone s=false)(hx:x.scalar=true)(hy:y.scalar=true)(hs:(es.all fun e=>e.all PV.scalar)=true)
  (hK:∀(c:C) ao,grown (s+1) ty z es (.one c) ao->(∀i,i≠s+1->ao i=aj i)->RN S al os Q (put ak d (.tup [.agg [.p x,c],.one (.p y)])) ao):gP S al (.pc f vs rd s) d os Q ak aj:=by
 obtain⟨h1,h2,h3⟩:=vG (aj:=aj) (s:=s+1) (ty:=ty) (z:=z) (es:=es);have iC:(RV.tup [.agg [.p x,bh ty z es],.one (.p y)]).alone=true:=by have a:=tP (ty:=ty) (z:=z) hs;simp only[RV.alone,iY,jh,oY,sH,Bs] at a;simp only[RV.alone,iY,pN,jh,nY,gR,jJ,oY,sH,Bs,a,CQ];show(x.scalar&&y.scalar)=true;rw[hx,hy];rfl
 refine(Nu (v:=.tup [.agg [.p x,(dY aj (s+1) (bh ty z es)).1],.one (.p y)]) (u:=(dY aj (s+1) (bh ty z es)).2) hp ?_).2 ⟨Eg fun i hi=>ay i ?_,hK _ _ h1 h2⟩
 .rw[fM,yF];unfold land;rw[aG (.inr iC)];simp[jY,iY,pN,jh,jF,tF,um,nW,dY]
 rcases h3 with h|h<;>rw[h] at hi<;>simp at hi<;>simp[hi]
 rcases hi with hi|hi<;>simp[hi]
def YC{s:Nat}{rd:a_}{x0 x1 x2 x3 x4:PV}{l:Bool}(hr:pG aj rd):∃u,land aj rd s ((RV.agg [.p x0,.p x1,.p x2,.p x3,.p x4]).iu l)=some (.agg [.p x0,.p x1,.p x2,.p x3,.p x4],u)/\(∀i,i∉rd->app u aj i=aj i)/\(∀i∈u.map (·.1),i∈rd)/\(u.map (·.1)=[]\/u.map (·.1)=rd):=by
 have hp:(RV.agg [.p x0,.p x1,.p x2,.p x3,.p x4]).iu l=.agg [.p x0,.p x1,.p x2,.p x3,.p x4]:=by cases l<;>rfl
 rw[hp];unfold land;by_cases h:rd=[]\/(RV.agg [.p x0,.p x1,.p x2,.p x3,.p x4]).alone=true
 .rw[aG h];exact⟨[],rfl,fun _ _=>rfl,(fun i hi=>by cases hi),.inl rfl⟩
 rw[aC h];obtain⟨fu,h1,h2⟩:=Xn rd rd hr;have:tY aj rd=some fu:=h1;rw[this];refine⟨fu,?_,fun i hi=>GC _ _ _ (by rw[h2];exact hi),fun i hi=>by rw[h2] at hi;exact hi,.inr h2⟩;show some (_,fu++[])=_;rw[jJ];rfl
end
abbrev Ed(l:List ByteArray):t_:=l.map fun s=>(PV.str s,[PV.bool true])
def amH(q:ByteArray):∀(l:List ByteArray) (i:Nat),(l.any (fun s=>q==s)=true/\ ∃j,qG (.str q) (Ed l) i=some (some (j,[.bool true])))\/(l.any (fun s=>q==s)=false/\qG (.str q) (Ed l) i=some none):=by
 intro l
 induction l with
 |nil=>intro i;exact .inr ⟨rfl,rfl⟩
 |cons a l ih=>
  intro i;have e:qG (.str q) (Ed (a::l)) i=match some (q==a) with|some true=>some (some (i,[.bool true]))|some false=>qG (.str q) (Ed l) (i+1)|none=>none:=rfl
  rw[e,List.any_cons];cases h:(q==a) with
  |true=>exact .inl ⟨rfl,i,rfl⟩
  |false=>exact ih (i+1)
def bj.key(F:Nat)(m:bj):ByteArray:=oU F m.n
noncomputable def kA (sb:Bool) (F limit:Nat) (a:bj) (st:m_) (m:aV):Nat×m_:=
 if (st.map (bj.key F)).any (fun s=>oU F (dd ((fi F a.c m).getD []))==s) then (0,st)
 else if st.length=limit then (1,st)
 else (if (sb&&(zU F ((fi F a.c m).getD [])).2)=true then 2 else 0,st++[⟨(fi F a.c m).getD [],dd ((fi F a.c m).getD []),a.w++[m]⟩])
noncomputable def iO (sb:Bool) (F limit:Nat) (a:bj):m_->h_->Nat×m_
 |st,[]=>(0,st)
 |st,m::r=>if (kA sb F limit a st m).1=0 then iO sb F limit a (kA sb F limit a st m).2 r else kA sb F limit a st m
noncomputable def lH (sb:Bool) (F limit:Nat):Nat->Nat->m_->Nat×m_
 |0,_,st=>(0,st)
 |f+1,i,st=>match st[i]? with
  |none=>(0,st)
  |some a=>if (iO sb F limit a st (jl F a.c)).1=0 then lH sb F limit f (i+1) (iO sb F limit a st (jl F a.c)).2 else iO sb F limit a st (jl F a.c)
structure uw (F:Nat) (L0:ai) (n:Nat) (m:bj):Prop where
 chk:cX (F:Int) m.c=0
 sB:m.n=dd m.c
 rep:rO F L0 m.w=some m.c
 kind:∀x∈m.w,x.k∈zO
 len:m.w.length<=n
 same:m.c.length=L0.length
structure xI (sb:Bool) (al:Al):Prop where
 c:∀id,jH id=22->al.ok id=true
 t:al.fs.contains 44=true
 a:al.fs.contains 48=true
 s:sb=true->al.fs.contains 35=true
 v:sb=true->al.ok 1024512000=true
def xI.fn{al:Al}{f id:Nat}(h:al.fs.contains f=true)(e:jH id=f):al.ok id=true:=by unfold Al.ok;rw[e,h];simp
def xI.fT{sb:Bool}{al:Al}(ac:xI sb al):al.ok 1408000000=true/\al.ok 1408064128=true/\al.ok 1408128000=true/\al.ok 1408192064=true/\al.ok 1408192192=true/\al.ok 1408256256=true/\al.ok 1408448128=true/\al.ok 1408448192=true/\al.ok 1408640128=true/\al.ok 1408704193=true/\al.ok 1408704448=true/\al.ok 1408768192=true/\al.ok 1408768320=true/\al.ok 1408768384=true/\al.ok 1408768512=true:=by
 repeat' apply And.intro
 all_goals exact ac.c _ rfl
def Ix:Bool->Nat->V
 |true,gv=>.one (.hfn 35 [] [.bt 1024512000 gv 0])
 |false,_=>.one (.p (.fn 23 [] []))
def GJ:Bool->Nat->Nat×Option Ob->Bool->Nat×Option Ob
 |true,gv,_,b=>(gv,some (.var [.p (.bool b)]))
 |false,_,z,_=>z
def qm(i:Nat):Prop:=jH i=22\/jH i=44\/jH i=48\/jH i=35
def wZ.ok{sb:Bool}{al:Al}{s:Nat}(hq:wZ s)(ac:xI sb al):al.ok s=true:=by
 rcases hq with rfl|rfl
 .exact ac.c _ rfl
 exact xI.fn ac.a rfl
def wZ.own{s:Nat}(hq:wZ s):qm s:=by
 rcases hq with rfl|rfl
 .exact .inl rfl
 exact .inr (.inr (.inl rfl))
def wZ.no{s i:Nat}(hq:wZ s)(h:¬qm i):i≠s:=fun e=>h (e▸hq.own)
def wZ.ne{s:Nat}(hq:wZ s):¬s=1408000000/\ ¬s=1408064128/\ ¬s=1408128000/\ ¬s=1408192192/\ ¬s=1408256256/\ ¬s=1408448128/\ ¬s=1408448192/\ ¬s=1408640128/\ ¬s=1408704193/\ ¬s=1408704448/\ ¬s=1408768192/\ ¬s=1408768320/\ ¬s=1408768384/\ ¬s=1408768512/\ ¬s=1024512000:=by rcases hq with rfl|rfl<;>decide
structure xK (sb:Bool) (F limit:Nat) (L0:ai) (gv:Nat) (z:Nat×Option Ob) (r0:a_) (b0:aE) (gq gM:Nat) (st:m_) (k:Nat) (ak:Env) (aj:aE):Prop where
 e1:ak 1=vi limit
 e2:ak 2=Ix sb gv
 e9:ak 9=.one (.kE 1408128000 gM)
 mY:ak 10=.one (.bt 1408192192 gq 0)
 bM:aj 1408128000=(gM,some (.map false (Ed (st.map (bj.key F)))))
 que:∃s,wZ s/\ ∃gi,Bv s gq gi (oR F st) k aj
 bv:aj 1024512000=GJ sb gv z false
 ne:st≠[]
 lim:st.length<=limit
 all:∀m∈st,uw F L0 st.length m
 fr:∀i,¬qm i->i≠1024512000->i∉r0->aj i=b0 i
def YS(F:Nat)(l:m_):(oR F l).length=l.length:=cU ..
def aqr(F:Nat)(l:m_):∀e∈oR F l,e.length=5:=fun e he=>by obtain⟨m,_,rfl⟩:=cV.1 he;rfl
def sv{i:Nat}{f o:Nat}(h:¬qm i)(e:jH o=f)(hf:f=22\/f=44\/f=48\/f=35):i≠o:=fun h2=>h (by rw[h2];unfold qm;rw[e];exact hf)
structure EdC (sb:Bool) (F:Nat) (L0:ai) (gv:Nat) (z:Nat×Option Ob) (r0:a_) (b0:aE) (r:Nat×m_) (gq:Nat) (ak:Env) (aj:aE):Prop where
 mY:ak 10=.one (.bt 1408192192 gq 0)
 que:∃k s,wZ s/\ ∃gi,Bv s gq gi (oR F r.2) k aj
 bv:aj 1024512000=GJ sb gv z (r.1==2)
 ne:r.2≠[]
 all:∀m∈r.2,uw F L0 r.2.length m
 fr:∀i,¬qm i->i≠1024512000->i∉r0->aj i=b0 i
def uw.mono{F:Nat}{L0:ai}{n n':Nat}{m:bj}(h:uw F L0 n m)(hn:n<=n'):uw F L0 n' m:=⟨h.chk,h.sB,h.rep,h.kind,oZ h.len hn,h.same⟩
def ahP{F:Nat}{L:ai}(h:cX (F:Int) L=0):∀l∈L,smL l:=by
 intro l hl;have aK:L≠[]:=List.ne_nil_of_mem hl;obtain⟨G,e,g⟩:=pM h aK;have hc:=g.len;have hF:=g.fing;have hb:=g.bad l hl;rcases wg hb with hp|hx
 .obtain⟨g0,g1,r0,r1⟩:=g.ok.ax.fq l hl hp;have:=sR (mD l.gate.toNat) L;have hid:l.id=0:=((sC hp).1 hb).1.1.2;simp only[cg] at r1;refine⟨⟨aa,aa⟩,⟨aa,aa⟩,⟨aa,aa⟩⟩
 obtain⟨i1,i2⟩:=g.ids.1 l hl hx;have:=sR Let.aD L;have th:l.gate=0/\l.aA=0:=by unfold dS at hb;have hk:l.kind=2:=dh.1 hx;simp[hk] at hb;exact⟨by have:=hb;omega,by have:=hb;omega⟩
 refine⟨⟨aa,aa⟩,⟨aa,aa⟩,⟨aa,aa⟩⟩
def aqe{F:Nat}{L0:ai}{n:Nat}{a:bj}{m:aV}(ha:uw F L0 n a)(hm:qW F a.c zO m):∃M,fi F a.c m=some M/\aO S 46 [fe F a.c,Ib m] (l5 F M)/\cX (F:Int) M=0/\M≠[]/\M.length=a.c.length/\rO F L0 (a.w++[m])=some M:=by
 have aK:a.c≠[]:=by obtain⟨_,⟨v,hv,_⟩,_⟩:=hm;intro e;rw[e] at hv;exact absurd hv (o9 v)
 obtain⟨G,e,g⟩:=pM ha.chk aK;have:F=G:=aa;subst this;have hk:m.k=3\/m.k=8:=by
  have:=hm.1
  simpa using this
 have A8:k5 m.k:=by unfold k5;omega
 have pa:=aaM g A8 m.a m.b m.c m.l m.o m.s;obtain⟨_,_,M0,e0⟩:=hm;rcases PZ g A8 m.a m.b m.c m.l m.o m.s with ⟨e,he,h⟩|⟨M,h,hc,_,L,hL,hM⟩
 .rw[e0] at h;exact absurd h (U0 he)
 rw[h] at pa;have hlen:M.length=a.c.length:=by
  rw[hM,Tw];rcases hk with hk|hk
  .rw[hk] at hL;have hL:nI F a.c m.a.toNat m.b.toNat=some L:=hL;unfold nI at hL;split at hL
   .cases hL;rw[qy,nv,nv,bk]
   cases hL
  rw[hk] at hL;have hL:mR F a.c m.a.toNat m.b.toNat m.c.toNat=some L:=hL;unfold mR at hL;split at hL
  .cases hL;rw[qy,bk]
  cases hL
 have qI:=Wd aK h;refine⟨M,qI,pa,hc,?_,hlen,by rw[ahh m ha.rep];exact qI⟩;intro e;rw[e] at hlen;exact aK (Gj.1 hlen.symm)
def szM(l:h_):aw 7 (mP l)=true:=by simp[aw,aV.ps]
def ak2{w:h_}(aK:w≠[])(hl:w.length<=1000000):aO S 47 [.one (.p (qT w))] (.one (bh iT 7 (mP w))):=by
 have hs:((mP w).all fun e=>e.length==7)=true:=szM w;have hr:(0+(mP w).length)*48<=room:=by unfold room;rw[cU];omega
 show aO S _ [.one (.p (.sl (mP w)))] _;obtain⟨e0,es,hq⟩:∃e0 es,mP w=e0::es:=by cases w with
  |nil=>exact absurd rfl aK
  |cons a t=>exact⟨_,_,rfl⟩
 rw[hq] at hs hr |-;refine bY c47 ?_;have aK:e0::es≠[]:=af;have th:bh iT 7 (e0::es)=.own iT 7 (e0::es):=aC aK;rw[th];unfold room at hr;simp only[jr,dL] at hr;simp only[oY] at hs;simp only[go_sem,i47,au,aw];simp only[hs,hr,not_true_eq_false,if_true,if_false];simp only[go_sem];exact Le Bp rfl
section
variable {al:Al} {Q:eK} {ak:Env} {aj:aE} {os all:g_} {tr:i_} {d:w_}
def alD{f:Nat}{vs:e_}{s ty z:Nat}{rd:a_}{es:s_}(ay:∀i∈s::rd,al.ok i=true)(hp:aO S f vs (.one (bh ty z es)))(fM:S.lone s=false)(pZ:rd=[]\/(RV.one (bh ty z es)).alone=true)
  (hK:∀(c:C) ao w,grown s ty z es (.one c) ao->(∀i,i≠s->ao i=aj i)->(w=[]\/w=[s])->RD S al all os Q (put ak d (.one c)) ao (tr++[⟨rd++w,w,[]⟩])):dP S al (.pc f vs rd s) d all os Q ak aj tr:=by
 obtain⟨h1,h2,h3⟩:=vG (aj:=aj) (s:=s) (ty:=ty) (z:=z) (es:=es);refine(MD (v:=.one (dY aj s (bh ty z es)).1) (u:=(dY aj s (bh ty z es)).2) hp ?_).2 ⟨Eg fun i hi=>ay i ?_,hK _ _ _ h1 h2 h3⟩
 .rw[fM,yF];unfold land;rw[aG pZ];simp[jY,iY,jh,jF,tF,nW]
 rcases h3 with h|h<;>rw[h] at hi<;>simp at hi<;>simp[hi]
 rcases hi with hi|hi<;>simp[hi]
end
end Go.Abs
