/-
  The class search.
-/
import Derived.Test.YtffbakabajjgcaaGreatDoorRd
set_option linter.all false
set_option maxRecDepth 100000
set_option maxHeartbeats 16000000
namespace Go.Abs
theorem Qd{n:Int}(h1: -1000000<=n)(h2:n<=1000000):aF S 74 [vi n] (.one (.p (.str (ke n)))):=by
 refine⟨1,?_⟩;have e:QM [vi n]=some (.one (.p (.str (ke n)))):=by show(if -9223372036854775808<=n/\n<=9223372036854775807 then _ else _)=_;rw[aD ⟨aa,aa⟩]
 have h:S.prim 74 [vi n]=some (some (.one (.p (.str (ke n))))):=by rw[<- e];rfl
 rw[fZ];simp only[h]
theorem YW:∀(k n:Nat) (acc:List UInt8),(rX k n acc).length<=k+acc.length:=by
 intro k
 induction k with
 |zero=>intro n acc;simp[rX]
 |succ k ih=>
  intro n acc;unfold rX;cases Nat.blt n 10 with
  |true=>simp only[cond_true,cS];omega
  |false=>simp only[cond_false];have:=ih (Nat.div n 10) (UInt8.ofNat (Nat.add 48 (Nat.mod n 10))::acc);rw[cS] at this;omega
theorem Hc(n:Int):(ke n).size<=40:=by
 unfold ke;show(List.toArray _).size<=40;rw[R6];cases n with
 |ofNat u=>have:=YW 20 u [];simp only[eE] at this;show(rX 20 u []).length<=40;omega
 |negSucc u=>have:=YW 20 (Nat.succ u) [];simp only[eE] at this;show(45::rX 20 (Nat.succ u) []).length<=40;rw[cS];omega
theorem DP{a b:ByteArray}(h:a.size+b.size<=1000000000):BS .add a b=some (.str (a++b)):=by unfold BS;exact aD aa
theorem Bu(a b:ByteArray):(a++b).size=a.size+b.size:=ByteArray.size_append
def VR:ByteArray:=⟨#[46]⟩
def sU:ByteArray:=⟨#[117]⟩
def sO:ByteArray:=⟨#[111]⟩
def sPl:ByteArray:=⟨#[43]⟩
def sMi:ByteArray:=⟨#[45]⟩
def sQu:ByteArray:=⟨#[63]⟩
def Dm:ByteArray:=⟨#[32]⟩
def sCo:ByteArray:=⟨#[58]⟩
def sK(l:Let):ByteArray:=
 if l.kind==1 then ke l.gate++VR++ke l.aE
 else if l.kind==2 then (ke l.id++(if l.over then sO else sU))++(if l.sign==1 then sPl else if l.sign== -1 then sMi else sQu)
 else sQu
theorem afP(l:Let):(sK l).size<=100:=by
 have h1:=Hc l.gate;have h2:=Hc l.aE;have h3:=Hc l.id;have c1:VR.size=1:=rfl;have c2:sU.size=1:=rfl;have c3:sO.size=1:=rfl;have c4:sPl.size=1:=rfl;have c5:sMi.size=1:=rfl;have c6:sQu.size=1:=rfl;unfold sK;split
 .rw[Bu,Bu];omega
 split
 .rw[Bu,Bu];split<;>split
  .omega
  .split<;>omega
  .omega
  split<;>omega
 omega
def smL(l:Let):Prop:=(-1000000<=l.gate/\l.gate<=1000000)/\(-1000000<=l.aE/\l.aE<=1000000)/\(-1000000<=l.id/\l.id<=1000000)
theorem atD{l:Let}(h:smL l):aF S 75 [w7 l] (.one (.p (.str (sK l)))):=by
 obtain⟨⟨g1,g2⟩,⟨r1,r2⟩,⟨i1,i2⟩⟩:=h;have pg:=Qd g1 g2;have pr:=Qd r1 r2;have pi:=Qd i1 i2;have lg:=Hc l.gate;have lr:=Hc l.aE;have li:=Hc l.id;have CN:S.shared 74=false:=ah;have b1:=DP (a:=ke l.gate) (b:=⟨#[46]⟩) (by have:(ByteArray.mk #[46]).size=1:=rfl;omega);have b2:=DP (a:=ke l.gate++⟨#[46]⟩) (b:=ke l.aE) (by rw[Bu];have:(ByteArray.mk #[46]).size=1:=rfl;omega);have b3:=DP (a:=ke l.id) (b:=⟨#[117]⟩) (by have:(ByteArray.mk #[117]).size=1:=rfl;omega);have b4:=DP (a:=ke l.id) (b:=⟨#[111]⟩) (by have:(ByteArray.mk #[111]).size=1:=rfl;omega);have fin:∀(x:ByteArray) (c:ByteArray),(x=⟨#[117]⟩\/x=⟨#[111]⟩)->c.size=1->BS .add (ke l.id++x) c=some (.str (ke l.id++x++c)):=fun x c hx hc=>by
  refine DP ?_;rw[Bu];rcases hx with rfl|rfl
  .have:(ByteArray.mk #[117]).size=1:=rfl;omega
  have:(ByteArray.mk #[111]).size=1:=rfl;omega
 have u1:=fin ⟨#[117]⟩ ⟨#[43]⟩ (.inl rfl) rfl;have u2:=fin ⟨#[117]⟩ ⟨#[45]⟩ (.inl rfl) rfl;have u3:=fin ⟨#[117]⟩ ⟨#[63]⟩ (.inl rfl) rfl;have o1:=fin ⟨#[111]⟩ ⟨#[43]⟩ (.inr rfl) rfl;have o2:=fin ⟨#[111]⟩ ⟨#[45]⟩ (.inr rfl) rfl;have o3:=fin ⟨#[111]⟩ ⟨#[63]⟩ (.inr rfl) rfl;have hw:sK l=if l.kind==1 then ke l.gate++⟨#[46]⟩++ke l.aE
  else if l.kind==2 then (ke l.id++(if l.over then ⟨#[111]⟩ else ⟨#[117]⟩))++(if l.sign==1 then ⟨#[43]⟩ else if l.sign== -1 then ⟨#[45]⟩ else ⟨#[63]⟩)
  else ⟨#[63]⟩:=rfl
 rw[hw];cases k1:(l.kind==1) with
 |true=>simp only[if_true];refine aV c75 ?_;simp only[go_sem,i75,k1,CN,YP pg,YP pr,b1,b2];first|done|exact⟨aK,rfl⟩|exact aK
 |false=>
  cases k2:(l.kind==2) with
  |true=>
   simp only[dQ,if_true,if_false];cases ho:l.over with
   |true=>
    cases s1:(l.sign==1) with
    |true=>refine aV c75 ?_;simp only[go_sem,i75,k1,k2,ho,s1,CN,vk pi,b3,b4,o1];first|done|rfl
    |false=>
     cases s2:(l.sign== -1) with
     |true=>refine aV c75 ?_;simp only[go_sem,i75,k1,k2,ho,s1,s2,CN,vk pi,b3,b4,o2];first|done|rfl
     |false=>refine aV c75 ?_;simp only[go_sem,i75,k1,k2,ho,s1,s2,CN,vk pi,b3,b4,o3];first|done|rfl
   |false=>
    cases s1:(l.sign==1) with
    |true=>refine aV c75 ?_;simp only[go_sem,i75,k1,k2,ho,s1,CN,vk pi,b3,u1];first|done|rfl
    |false=>
     cases s2:(l.sign== -1) with
     |true=>refine aV c75 ?_;simp only[go_sem,i75,k1,k2,ho,s1,s2,CN,vk pi,b3,u2];first|done|rfl
     |false=>refine aV c75 ?_;simp only[go_sem,i75,k1,k2,ho,s1,s2,CN,vk pi,b3,u3];first|done|rfl
  |false=>simp only[dQ,if_false];refine aV c75 ?_;simp only[go_sem,i75,k1,k2];first|done|rfl
def sF(F:Int)(L:List Let):ByteArray:=L.foldl (fun s l=>s++(Dm++sK l)) (ke F++sCo)
theorem ap6(F:Int):∀(L:List Let) (s:ByteArray) (k:Nat),s.size<=41+101*k->(L.foldl (fun s l=>s++(Dm++sK l)) s).size<=41+101*(k+L.length):=by
 intro L
 induction L with
 |nil=>intro s k h;exact h
 |cons l L ih=>
  intro s k h;have:=ih (s++(Dm++sK l)) (k+1) (by have:=afP l;rw[Bu,Bu];have c:Dm.size=1:=rfl;omega)
  rw[cS];show(List.foldl (fun s l=>s++(Dm++sK l)) (s++(Dm++sK l)) L).size<=_;omega
def Dk(F:Int)(L:List Let)(k:Nat):ByteArray:=(L.take k).foldl (fun s l=>s++(Dm++sK l)) (ke F++sCo)
theorem apY{F:Int}{L:List Let}{k:Nat}{x:Let}(h:L[k]?=some x):Dk F L (k+1)=Dk F L k++(Dm++sK x):=by unfold Dk;rw[Kt h,Av];rfl
theorem ad7{F:Int}{L:List Let}(hF: -1000000<=F/\F<=1000000)(hl:L.length<=1000000)(EO:∀l∈L,smL l):aF S 38 [cZ F L] (.one (.p (.str (sF F L)))):=by
 have pF:=Qd hF.1 hF.2;have lF:=Hc F;have CN:S.shared 74=false:=ah;have b1:=DP (a:=ke F) (b:=⟨#[58]⟩) (by have:(ByteArray.mk #[58]).size=1:=rfl;omega);have GO:∀k,(Dk F L k).size<=41+101*k:=fun k=>by have:=ap6 F (L.take k) (ke F++sCo) 0 (by rw[Bu];have:sCo.size=1:=rfl;omega);rw[gT] at this;unfold Dk;omega
 have uM:Dk F L L.length=sF F L:=by unfold Dk sF;rw[kE]
 generalize sF F L=res at uM;refine aV c38 ?_;simp only[go_sem,i38,CN,vk pF,b1];refine cJ (fun k ak aj=>ak 11=.one (.p (cQ L))/\ak 12=vi L.length/\ak 13=vi k/\ak 3=.one (.p (.str (Dk F L k)))) 0 L.length (bj _) ?_ ?_
 .simp only[go_sem];first|done|rfl|exact⟨rfl,rfl⟩
 rintro k ak aj hk ⟨ie,kY,ta,h3⟩
 by_cases aq:k<L.length
 .have aL:((k:Int)<(L.length:Int)):=aa;have hx:=nC aq;have ll:=fv hx;have w1:=bN (n:=k) aa;have pw:=atD (EO _ (aW hx));have lw:=afP (lA L k);have hts:=apY (F:=F) hx;have jV:=GO k;generalize lA L k=x at*;have b2:=DP (a:=⟨#[32]⟩) (b:=sK x) (by have:(ByteArray.mk #[32]).size=1:=rfl;omega);generalize Dk F L k=s at*;have b3:=DP (a:=s) (b:=⟨#[32]⟩++sK x) (by rw[Bu];have:(ByteArray.mk #[32]).size=1:=rfl;omega)
  have pw':aF S 75 [.agg [.p (.int .i64 x.kind),.p (.int .i64 x.gate),.p (.int .i64 x.aE),.p (.int .i64 x.id),.p (.int .i64 x.sign),.p (.bool x.over)]] (.one (.p (.str (sK x)))):=pw;simp only[go_sem,i38_l1,ie,kY,ta,h3,aq,aL,ll,Let.ps,w1,s75,vk pw',b2,b3];first|(rw[hts];rfl)|exact⟨aq,by rw[hts];rfl⟩
 have:k=L.length:=aa;subst this;rw[uM] at h3;simp only[go_sem,i38_l1,i38_r2,kY,ta,h3,dG]
structure bR where
 c:List Let
 n:List Let
 w:List aU
def bR.ps(F:Nat)(m:bR):List PV:=[.int .i64 F,cQ m.c,.int .i64 F,cQ m.n,sB m.w]
abbrev fJ(F:Nat)(l:List bR):List (List PV):=l.map (bR.ps F)
abbrev mbT:Nat:=67
theorem Vb(cP:vd){F:Nat}{L:List Let}(w:List aU)(hl:L.length<=1000000)(h0:di (F:Int) L=0):aF S 37 [cZ F L,.one (.p (sB w))] (.agg [.p (.int .i64 F),.p (cQ L),.p (.int .i64 F),.p (cO (ly L)),.p (sB w)]):=by have pn:=adk cP (f:=F) hl h0;generalize cO (ly L)=q at*;refine aV c37 ?_;simp only[go_sem,i37,s20,cU pn ach];first|done|rfl
abbrev abl(id:Nat):Prop:=jy id=39
abbrev isAd(id:Nat):Prop:=jy id=43
structure BG (s gq gi:Nat) (es:List (List PV)) (k:Nat) (aj:aw):Prop where
 q:aj 1344192192=(gq,some (.var [.hsl s gi 5 0 es.length,.p (.int .i64 k)]))
 b:aj s=(gi,some (.arr mbT 5 es))
def tkP(s gq gi:Nat)(es:List (List PV))(k:Nat)(aj:aw)(v:V)(ao:aw):Prop:=
 (k=es.length/\v=.tup [.agg [.p (.int .i64 0),.p .nils,.p (.int .i64 0),.p .nils,.p .nils],vb false]/\ ∀i,¬abl i->ao i=aj i)\/
 ∃e,es[k]?=some e/\v=.tup [.agg (e.map .p),vb true]/\BG s gq gi es (k+1) ao/\ ∀i,¬abl i->i≠1344192192->ao i=aj i
theorem len5{e:List PV}(h:e.length=5):∃x0 x1 x2 x3 x4,e=[x0,x1,x2,x3,x4]:=by
 match e,h with
 |[x0,x1,x2,x3,x4],_=>exact⟨_,_,_,_,_,rfl⟩
def adP(s gq:Nat)(es:List (List PV))(k:Nat)(e:List PV)(aj:aw)(v:V)(ao:aw):Prop:=v=.tup []/\(∃g,BG 2752064448 gq g (es++[e]) k ao)/\ ∀i,¬isAd i->i≠1344192192->i≠s->ao i=aj i
abbrev vE(s:Nat):Prop:=s=1344192064\/s=2752064448
theorem asH{al:Al}{s:Nat}(hs:vE s){aj:aw}{gq gi k:Nat}{es:List (List PV)}(oq:al.ok 1344192192=true)(os:al.ok s=true)(ot:al.ok 2496000000=true)(ot2:al.ok 2496128000=true)(h:BG s gq gi es k aj)(h5:∀e∈es,e.length=5)(hl:es.length<=1000000)(hk:k<=es.length):
  ∃v ao,iw S 39 [.one (.aX 1344192192 gq 0)] al aj v ao/\tkP s gq gi es k aj v ao:=by
 rcases hs with rfl|rfl
 all_goals
  obtain⟨hq,hb⟩:=h;refine mV c39 (iv rfl) ?_;by_cases aq:k<es.length
  .have aI:(((k:Int))==(es.length:Int))=false:=by rw[tF];omega
   obtain⟨e,he⟩:=aM aq;obtain⟨x0,x1,x2,x3,x4,rfl⟩:=len5 (h5 e (aW he));have w1:=bN (n:=k) aa;have w2:IntKind.i64.wrap (((k+1:Nat):Int)-1)=(k:Int):=by rw[rM aa aa];omega
   simp only[go_sem,i39,hq,hb,oq,os,ot,aI,aq,he,w1,w2];refine⟨aK,aK,.inr ⟨_,he,rfl,⟨?_,?_⟩,fun i h1 h2=>?_⟩⟩
   .simp only[aN,Nat.reduceEqDiff,if_true,if_false]
   .simp only[aN,Nat.reduceEqDiff,if_false];exact hb
   have h3:i≠2496000000:=fun e=>h1 (by rw[e];rfl);simp only[aN,ay h2,ay h3]
  have zD:k=es.length:=aa;subst zD;have heq:(((es.length:Int))==(es.length:Int))=true:=af;simp only[go_sem,i39,hq,oq,ot,ot2,heq];refine⟨aK,.inl ⟨rfl,rfl,fun i h1=>?_⟩⟩;have h3:i≠2496000000:=fun e=>h1 (by rw[e];rfl);have h4:i≠2496128000:=fun e=>h1 (by rw[e];rfl);simp only[aN,ay h3,ay h4]
theorem agP{al:Al}{s:Nat}(hs:vE s){aj:aw}{gq gi k:Nat}{es:List (List PV)}{x0 x1 x2 x3 x4:PV}(oq:al.ok 1344192192=true)(os:al.ok s=true)(oa:al.ok 2752000000=true)(oa2:al.ok 2752064384=true)(oa3:al.ok 2752064448=true)(h:BG s gq gi es k aj)(aI:es≠[])(hl:es.length<=1000000):
  ∃v ao,iw S 43 [.one (.aX 1344192192 gq 0),.agg [.p x0,.p x1,.p x2,.p x3,.p x4]] al aj v ao/\adP s gq es k [x0.norm,x1.norm,x2.norm,x3.norm,x4.norm] aj v ao:=by
 rcases hs with rfl|rfl
 all_goals
  obtain⟨hq,hb⟩:=h;refine mV c43 (iv rfl) ?_;simp only[go_sem,i43,hq,oq,oa,oa2];refine F8 (site:=2752064448) (bytes:=88) (es:=es) (xs:=[[x0.norm,x1.norm,x2.norm,x3.norm,x4.norm]]) (rd:=[2752064384]) (fun i hi=>?_) (.inr ⟨aI,gi,rfl,?_⟩) ?_ (.inl rfl) (by simp only[cS,eE];omega) fun c' fN r1 u1 jr ef ig=>?_
  .simp only[cI,iM,or_false] at hi;rcases hi with rfl|rfl|rfl<;>assumption
  .simp only[aN,Nat.reduceEqDiff,if_false];exact hb
  .simp[ed,aN]
  have b0:=ef 1344192192 ae ae;simp only[aN,Nat.reduceEqDiff,if_false] at b0;have b1:=b0.trans hq;rcases jr with ⟨e,_⟩|⟨_,g2,e2,hC⟩
  .simp at e
  cases e2;simp only[go_sem,b1,oq];refine⟨?_,rfl,⟨g2,?_,?_⟩,fun i h1 h2 h3=>?_⟩
  .rcases ig with ⟨rfl,rfl⟩|⟨rfl,rfl⟩|⟨rfl,rfl⟩<;>kernel_rfl
  .simp only[aN,if_true]
  .simp only[aN,Nat.reduceEqDiff,if_false];exact hC
  have h4:i≠2752000000:=fun e=>h1 (by rw[e];rfl);have h5:i≠2752064384:=fun e=>h1 (by rw[e];rfl);have h6:i≠2752064448:=fun e=>h1 (by rw[e];rfl);simp only[aN,ay h2];rw[ef i h6 h3];simp only[aN,ay h4,ay h5]
theorem ajj{α:Type}{A:List α}{k:Nat}{a:α}(h:A[k]?=some a):A.drop k=a::A.drop (k+1):=by obtain⟨h1,e⟩:=bg.1 h;rw[<- e,DE]
end Go.Abs
namespace Go.Abs
abbrev qO(F:Nat)(l:List (List Let)):List (List PV):=l.map fun L=>[.int .i64 F,cQ L]
theorem ah9{F:Nat}{l:List (List Let)}{k:Nat}{L:List Let}(h:l[k]?=some L):(qO F l)[k]?=some [.int .i64 F,cQ L]:=by rw[fT,h];rfl
def rdQ(F:Nat)(L:List Let)(x:aU×Bool):Prop:=aF S 31 [cZ F L] (Hu x.1 x.2)/\(x.2=true->tz F L aeh x.1/\ ¬ac5 F L)/\(x.2=false->ac5 F L)
open Classical in
noncomputable def rdO (F:Nat) (L:List Let):aU×Bool:=if h:∃x,rdQ F L x then Classical.choose h else (afV,false)
abbrev zX:List Int:=[3,8]
theorem Nb:∀k∈zX,wY k:=by intro k h;simp only[cI,iM,or_false] at h;unfold wY k5;omega
def lvQ(F:Nat)(L:List Let)(ms:List aU):Prop:=(ms.length<=8000/\ ∀m∈ms,tz F L zX m)/\aF S 40 [cZ F L,.one (.p (.sl (iP zX)))] (.tup [.one (aO jY 7 (mP ms)),.one (.p (.int .i64 0))])
open Classical in
noncomputable def jw (F:Nat) (L:List Let):List aU:=if h:∃ms,lvQ F L ms then Classical.choose h else []
theorem U3{F:Nat}{L:List Let}(h:di (F:Int) L=0):lvQ F L (jw F L):=by have he:∃ms,lvQ F L ms:=agt h zX ae Nb;unfold jw;rw[dif_pos he];exact Classical.choose_spec he
end Go.Abs
namespace Go.Abs
section
variable {al:Al} {Q:dy} {ak:Env} {aj:aw} {os all:List bI} {tr:List cy} {d:Option Nat}
theorem akA{f:Nat}{vs:List V}{s ty z:Nat}{rd:List Nat}{es:List (List PV)}{x:PV}(au:∀i∈s::rd,al.ok i=true)(hp:aF S f vs (.tup [.one (aO ty z es),.one (.p x)]))(eJ:S.lone s=false)(hs:(es.all fun e=>e.all PV.scalar)=true)(hx:x.scalar=true)
  (hK:∀(c:C) ao,grown s ty z es (.one c) ao->(∀i,i≠s->ao i=aj i)->RN S al os Q (put ak d (.tup [.one c,.one (.p x)])) ao):gP S al (.pc f vs rd s) d os Q ak aj:=by
 obtain⟨h1,h2,h3⟩:=wX (aj:=aj) (s:=s) (ty:=ty) (z:=z) (es:=es);have gY:(RV.tup [.one (aO ty z es),.one (.p x)]).alone=true:=by have a:=xD (ty:=ty) (z:=z) hs;simp only[RV.alone,iR,jq,oG,sP,xv] at a;simp only[RV.alone,iR,qV,jq,oI,nH,mR,oG,sP,xv,a,xx];exact hx
 refine(LU (v:=.tup [.one (dF aj s (aO ty z es)).1,.one (.p x)]) (u:=(dF aj s (aO ty z es)).2) hp ?_).2 ⟨Df fun i hi=>au i ?_,hK _ _ h1 h2⟩
 .rw[eJ,xm];unfold land;rw[aD (.inr gY)];simp[ji,iR,qV,jq,jH,ui,uV,oD,dF]
 rcases h3 with h|h<;>rw[h] at hi<;>simp at hi<;>simp[hi]
 rcases hi with hi|hi<;>simp[hi]
theorem akD{f:Nat}{vs:List V}{s ty z:Nat}{rd:List Nat}{es:List (List PV)}{x y:PV}(au:∀i∈(s+1)::rd,al.ok i=true)(hp:aF S f vs (.tup [.agg [.p x,aO ty z es],.one (.p y)]))(eJ:S.lone s=false)(hx:x.scalar=true)(hy:y.scalar=true)(hs:(es.all fun e=>e.all PV.scalar)=true)
  (hK:∀(c:C) ao,grown (s+1) ty z es (.one c) ao->(∀i,i≠s+1->ao i=aj i)->RN S al os Q (put ak d (.tup [.agg [.p x,c],.one (.p y)])) ao):gP S al (.pc f vs rd s) d os Q ak aj:=by
 obtain⟨h1,h2,h3⟩:=wX (aj:=aj) (s:=s+1) (ty:=ty) (z:=z) (es:=es);have gY:(RV.tup [.agg [.p x,aO ty z es],.one (.p y)]).alone=true:=by have a:=xD (ty:=ty) (z:=z) hs;simp only[RV.alone,iR,jq,oG,sP,xv] at a;simp only[RV.alone,iR,qV,jq,oI,nH,mR,oG,sP,xv,a,xx];show(x.scalar&&y.scalar)=true;rw[hx,hy];rfl
 refine(LU (v:=.tup [.agg [.p x,(dF aj (s+1) (aO ty z es)).1],.one (.p y)]) (u:=(dF aj (s+1) (aO ty z es)).2) hp ?_).2 ⟨Df fun i hi=>au i ?_,hK _ _ h1 h2⟩
 .rw[eJ,xm];unfold land;rw[aD (.inr gY)];simp[ji,iR,qV,jq,jH,ui,uV,oD,dF]
 rcases h3 with h|h<;>rw[h] at hi<;>simp at hi<;>simp[hi]
 rcases hi with hi|hi<;>simp[hi]
theorem UQ{s:Nat}{rd:List Nat}{x0 x1 x2 x3 x4:PV}{l:Bool}(hr:qK aj rd):∃u,land aj rd s ((RV.agg [.p x0,.p x1,.p x2,.p x3,.p x4]).eD l)=some (.agg [.p x0,.p x1,.p x2,.p x3,.p x4],u)/\(∀i,i∉rd->app u aj i=aj i)/\(∀i∈u.map (·.1),i∈rd)/\(u.map (·.1)=[]\/u.map (·.1)=rd):=by
 have hp:(RV.agg [.p x0,.p x1,.p x2,.p x3,.p x4]).eD l=.agg [.p x0,.p x1,.p x2,.p x3,.p x4]:=by cases l<;>rfl
 rw[hp];unfold land;by_cases h:rd=[]\/(RV.agg [.p x0,.p x1,.p x2,.p x3,.p x4]).alone=true
 .rw[aD h];exact⟨[],rfl,fun _ _=>rfl,(fun i hi=>by cases hi),.inl rfl⟩
 rw[ay h];obtain⟨fu,h1,h2⟩:=Ty rd rd hr;have:s0 aj rd=some fu:=h1;rw[this];refine⟨fu,?_,fun i hi=>F1 _ _ _ (by rw[h2];exact hi),fun i hi=>by rw[h2] at hi;exact hi,.inr h2⟩;show some (_,fu++[])=_;rw[mR];rfl
end
abbrev CW(l:List ByteArray):List (PV×List PV):=l.map fun s=>(PV.str s,[PV.bool true])
theorem aj7(q:ByteArray):∀(l:List ByteArray) (i:Nat),(l.any (fun s=>q==s)=true/\ ∃j,oZ (.str q) (CW l) i=some (some (j,[.bool true])))\/(l.any (fun s=>q==s)=false/\oZ (.str q) (CW l) i=some none):=by
 intro l
 induction l with
 |nil=>intro i;exact .inr ⟨rfl,rfl⟩
 |cons a l ih=>
  intro i;have e:oZ (.str q) (CW (a::l)) i=match some (q==a) with|some true=>some (some (i,[.bool true]))|some false=>oZ (.str q) (CW l) (i+1)|none=>none:=rfl
  rw[e,Rz];cases h:(q==a) with
  |true=>exact .inl ⟨rfl,i,rfl⟩
  |false=>exact ih (i+1)
def bR.key(F:Nat)(m:bR):ByteArray:=sF F m.n
noncomputable def me (sb:Bool) (F limit:Nat) (a:bR) (st:List bR) (m:aU):Nat×List bR:=
 if (st.map (bR.key F)).any (fun s=>sF F (dK ((jA F a.c m).getD []))==s) then (0,st)
 else if st.length=limit then (1,st)
 else (if (sb&&(rdO F ((jA F a.c m).getD [])).2)=true then 2 else 0,st++[⟨(jA F a.c m).getD [],dK ((jA F a.c m).getD []),a.w++[m]⟩])
noncomputable def jz (sb:Bool) (F limit:Nat) (a:bR):List bR->List aU->Nat×List bR
 |st,[]=>(0,st)
 |st,m::r=>if (me sb F limit a st m).1=0 then jz sb F limit a (me sb F limit a st m).2 r else me sb F limit a st m
noncomputable def BR (sb:Bool) (F limit:Nat):Nat->Nat->List bR->Nat×List bR
 |0,_,st=>(0,st)
 |f+1,i,st=>match st[i]? with
  |none=>(0,st)
  |some a=>if (jz sb F limit a st (jw F a.c)).1=0 then BR sb F limit f (i+1) (jz sb F limit a st (jw F a.c)).2 else jz sb F limit a st (jw F a.c)
structure tG (F:Nat) (L0:List Let) (n:Nat) (m:bR):Prop where
 chk:di (F:Int) m.c=0
 Fk:m.n=dK m.c
 rep:Hw F L0 m.w=some m.c
 kind:∀x∈m.w,x.k∈zX
 len:m.w.length<=n
 same:m.c.length=L0.length
structure xB (sb:Bool) (al:Al):Prop where
 c:∀id,jy id=21->al.ok id=true
 t:al.fs.contains 39=true
 a:al.fs.contains 43=true
 s:sb=true->al.fs.contains 30=true
 v:sb=true->al.ok 960512000=true
 f:sb=false
theorem xB.fn{al:Al}{f id:Nat}(h:al.fs.contains f=true)(e:jy id=f):al.ok id=true:=by unfold Al.ok;rw[e,h];simp
theorem xB.fG{sb:Bool}{al:Al}(ac:xB sb al):al.ok 1344000000=true/\al.ok 1344064128=true/\al.ok 1344128000=true/\al.ok 1344192064=true/\al.ok 1344192192=true/\al.ok 1344256256=true/\al.ok 1344448128=true/\al.ok 1344448192=true/\al.ok 1344640128=true/\al.ok 1344704193=true/\al.ok 1344704448=true/\al.ok 1344768192=true/\al.ok 1344768320=true/\al.ok 1344768384=true/\al.ok 1344768512=true:=by
 repeat' apply And.intro
 all_goals exact ac.c _ rfl
def Rg:Bool->Nat->V
 |true,gv=>.one (.hfn 30 [] [.aX 960512000 gv 0])
 |false,_=>.one (.p (.fn 22 [] []))
def F4:Bool->Nat->Nat×Option Ob->Bool->Nat×Option Ob
 |true,gv,_,b=>(gv,some (.var [.p (.bool b)]))
 |false,_,z,_=>z
def pO(i:Nat):Prop:=jy i=21\/jy i=39\/jy i=43\/jy i=30
theorem vE.ok{sb:Bool}{al:Al}{s:Nat}(hq:vE s)(ac:xB sb al):al.ok s=true:=by
 rcases hq with rfl|rfl
 .exact ac.c _ rfl
 exact xB.fn ac.a rfl
theorem vE.own{s:Nat}(hq:vE s):pO s:=by
 rcases hq with rfl|rfl
 .exact .inl rfl
 exact .inr (.inr (.inl rfl))
theorem vE.no{s i:Nat}(hq:vE s)(h:¬pO i):i≠s:=fun e=>h (e▸hq.own)
theorem vE.ne{s:Nat}(hq:vE s):¬s=1344000000/\ ¬s=1344064128/\ ¬s=1344128000/\ ¬s=1344192192/\ ¬s=1344256256/\ ¬s=1344448128/\ ¬s=1344448192/\ ¬s=1344640128/\ ¬s=1344704193/\ ¬s=1344704448/\ ¬s=1344768192/\ ¬s=1344768320/\ ¬s=1344768384/\ ¬s=1344768512/\ ¬s=960512000:=by rcases hq with rfl|rfl<;>decide
structure vX (sb:Bool) (F limit:Nat) (L0:List Let) (gv:Nat) (z:Nat×Option Ob) (r0:List Nat) (b0:aw) (gq gM:Nat) (st:List bR) (k:Nat) (ak:Env) (aj:aw):Prop where
 e1:ak 1=vi limit
 e2:ak 2=Rg sb gv
 e9:ak 9=.one (.jW 1344128000 gM)
 iA:ak 10=.one (.aX 1344192192 gq 0)
 bM:aj 1344128000=(gM,some (.map false (CW (st.map (bR.key F)))))
 que:∃s,vE s/\ ∃gi,BG s gq gi (fJ F st) k aj
 bv:aj 960512000=F4 sb gv z false
 ne:st≠[]
 lim:st.length<=limit
 all:∀m∈st,tG F L0 st.length m
 fr:∀i,¬pO i->i≠960512000->i∉r0->aj i=b0 i
theorem Fi(F:Nat)(l:List bR):(fJ F l).length=l.length:=cH ..
theorem aoa(F:Nat)(l:List bR):∀e∈fJ F l,e.length=5:=fun e he=>by obtain⟨m,_,rfl⟩:=dI.1 he;rfl
theorem rC{i:Nat}{f o:Nat}(h:¬pO i)(e:jy o=f)(hf:f=21\/f=39\/f=43\/f=30):i≠o:=fun h2=>h (by rw[h2];unfold pO;rw[e];exact hf)
structure EdC (sb:Bool) (F:Nat) (L0:List Let) (gv:Nat) (z:Nat×Option Ob) (r0:List Nat) (b0:aw) (r:Nat×List bR) (gq:Nat) (ak:Env) (aj:aw):Prop where
 iA:ak 10=.one (.aX 1344192192 gq 0)
 que:∃k s,vE s/\ ∃gi,BG s gq gi (fJ F r.2) k aj
 bv:aj 960512000=F4 sb gv z (r.1==2)
 ne:r.2≠[]
 all:∀m∈r.2,tG F L0 r.2.length m
 fr:∀i,¬pO i->i≠960512000->i∉r0->aj i=b0 i
theorem tG.mono{F:Nat}{L0:List Let}{n n':Nat}{m:bR}(h:tG F L0 n m)(hn:n<=n'):tG F L0 n' m:=⟨h.chk,h.Fk,h.rep,h.kind,mD h.len hn,h.same⟩
theorem aeT{F:Nat}{L:List Let}(h:di (F:Int) L=0):∀l∈L,smL l:=by
 intro l hl;have aI:L≠[]:=af8 hl;obtain⟨G,e,g⟩:=xM h aI;have hc:=g.len;have hF:=g.fing;have hb:=g.bad l hl;rcases AN hb with hp|hx
 .obtain⟨g0,g1,r0,r1⟩:=g.ok.ax.eQ l hl hp;have:=oU (vZ l.gate.toNat) L;have hid:l.id=0:=((xg hp).1 hb).1.1.2;simp only[cg] at r1;refine⟨⟨aa,aa⟩,⟨aa,aa⟩,⟨aa,aa⟩⟩
 obtain⟨i1,i2⟩:=g.ids.1 l hl hx;have:=oU Let.aG L;have r5:l.gate=0/\l.aE=0:=by unfold dA at hb;have hk:l.kind=2:=dL.1 hx;simp[hk] at hb;exact⟨by have:=hb;omega,by have:=hb;omega⟩
 refine⟨⟨aa,aa⟩,⟨aa,aa⟩,⟨aa,aa⟩⟩
theorem acE{F:Nat}{L0:List Let}{n:Nat}{a:bR}{m:aU}(ha:tG F L0 n a)(hm:tz F a.c zX m):∃M,jA F a.c m=some M/\aF S 41 [cZ F a.c,Hi m] (mz F M)/\di (F:Int) M=0/\M≠[]/\M.length=a.c.length/\Hw F L0 (a.w++[m])=some M:=by
 have aI:a.c≠[]:=by obtain⟨_,⟨v,hv,_⟩,_⟩:=hm;intro e;rw[e] at hv;exact absurd hv (mT v)
 obtain⟨G,e,g⟩:=xM ha.chk aI;have:F=G:=aa;subst this;have hk:m.k=3\/m.k=8:=by
  have:=hm.1
  simpa using this
 have Mt:k5 m.k:=by unfold k5;omega
 have pa:=aha g Mt m.a m.b m.c m.l m.o m.s;obtain⟨_,_,M0,e0⟩:=hm;rcases Sv g Mt m.a m.b m.c m.l m.o m.s with ⟨e,he,h⟩|⟨M,h,hc,_,L,hL,hM⟩
 .rw[e0] at h;exact absurd h (QV he)
 rw[h] at pa;have hlen:M.length=a.c.length:=by
  rw[hM,aj4];rcases hk with hk|hk
  .rw[hk] at hL;have hL:uy F a.c m.a.toNat m.b.toNat=some L:=hL;unfold uy at hL;split at hL
   .cases hL;rw[Bw,Bt,Bt,jJ]
   cases hL
  rw[hk] at hL;have hL:tC F a.c m.a.toNat m.b.toNat m.c.toNat=some L:=hL;unfold tC at hL;split at hL
  .cases hL;rw[Bw,jJ]
  cases hL
 have nN:=Xy aI h;refine⟨M,nN,pa,hc,?_,hlen,by rw[aqu m ha.rep];exact nN⟩;intro e;rw[e] at hlen;exact aI (DG.1 hlen.symm)
theorem szM(l:List aU):eo 7 (mP l)=true:=by simp[eo,aU.ps]
theorem aiu{w:List aU}(aI:w≠[])(hl:w.length<=1000000):aF S 42 [.one (.p (sB w))] (.one (aO jY 7 (mP w))):=by
 have hs:((mP w).all fun e=>e.length==7)=true:=szM w;have hr:(0+(mP w).length)*48<=room:=by unfold room;rw[cH];omega
 show aF S _ [.one (.p (.sl (mP w)))] _;obtain⟨e0,es,hq⟩:∃e0 es,mP w=e0::es:=by cases w with
  |nil=>exact absurd rfl aI
  |cons a t=>exact⟨_,_,rfl⟩
 rw[hq] at hs hr ⊢;refine aV c42 ?_;have aI:e0::es≠[]:=af;have r5:aO jY 7 (e0::es)=.own jY 7 (e0::es):=ay aI;rw[r5];unfold room at hr;simp only[jm,cS] at hr;simp only[oG] at hs;simp only[go_sem,i42,eF,eo];simp only[hs,hr,not_true_eq_false,if_true,if_false];simp only[go_sem];exact Fp rL rfl
section
variable {al:Al} {Q:dy} {ak:Env} {aj:aw} {os all:List bI} {tr:List cy} {d:Option Nat}
theorem aiU{f:Nat}{vs:List V}{s ty z:Nat}{rd:List Nat}{es:List (List PV)}(au:∀i∈s::rd,al.ok i=true)(hp:aF S f vs (.one (aO ty z es)))(eJ:S.lone s=false)(nY:rd=[]\/(RV.one (aO ty z es)).alone=true)
  (hK:∀(c:C) ao w,grown s ty z es (.one c) ao->(∀i,i≠s->ao i=aj i)->(w=[]\/w=[s])->RD S al all os Q (put ak d (.one c)) ao (tr++[⟨rd++w,w,[]⟩])):dP S al (.pc f vs rd s) d all os Q ak aj tr:=by
 obtain⟨h1,h2,h3⟩:=wX (aj:=aj) (s:=s) (ty:=ty) (z:=z) (es:=es);refine(Lp (v:=.one (dF aj s (aO ty z es)).1) (u:=(dF aj s (aO ty z es)).2) hp ?_).2 ⟨Df fun i hi=>au i ?_,hK _ _ _ h1 h2 h3⟩
 .rw[eJ,xm];unfold land;rw[aD nY];simp[ji,iR,jq,jH,ui,oD]
 rcases h3 with h|h<;>rw[h] at hi<;>simp at hi<;>simp[hi]
 rcases hi with hi|hi<;>simp[hi]
end
end Go.Abs
