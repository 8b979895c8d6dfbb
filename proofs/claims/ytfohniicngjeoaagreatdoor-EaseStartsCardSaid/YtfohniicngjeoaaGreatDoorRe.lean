/- A part. -/
import Derived.Test.YtfohniicngjeoaaGreatDoorRd
set_option linter.all false
set_option maxRecDepth 100000
set_option maxHeartbeats 16000000
namespace Go.Abs
theorem Pl{n:Int}(h1: -1000000<=n)(h2:n<=1000000):aI S 76 [vi n] (.one (.p (.str (mu n)))):=by
 refine⟨1,?_⟩;have e:PY [vi n]=some (.one (.p (.str (mu n)))):=by show(if -9223372036854775808<=n/\n<=9223372036854775807 then _ else _)=_;rw[if_pos ⟨aa,aa⟩]
 have h:S.prim 76 [vi n]=some (some (.one (.p (.str (mu n))))):=by rw[<- e];rfl
 rw[gn];simp only[h]
theorem Yt:∀(k n:Nat) (acc:List UInt8),(yI k n acc).length<=k+acc.length:=by
 intro k
 induction k with
 |zero=>intro n acc;simp[yI]
 |succ k ih=>
  intro n acc;unfold yI;cases Nat.blt n 10 with
  |true=>simp only[cond_true,dh];omega
  |false=>simp only[cond_false];have:=ih (Nat.div n 10) (UInt8.ofNat (Nat.add 48 (Nat.mod n 10))::acc);rw[dh] at this;omega
theorem Gq(n:Int):(mu n).size<=40:=by
 unfold mu;show(List.toArray _).size<=40;rw[List.size_toArray];cases n with
 |ofNat u=>have:=Yt 20 u [];simp only[ff] at this;show(yI 20 u []).length<=40;omega
 |negSucc u=>have:=Yt 20 (Nat.succ u) [];simp only[ff] at this;show(45::yI 20 (Nat.succ u) []).length<=40;rw[dh];omega
theorem Dq{a b:ByteArray}(h:a.size+b.size<=1000000000):Hy .add a b=some (.str (a++b)):=by unfold Hy;exact if_pos aa
theorem Be(a b:ByteArray):(a++b).size=a.size+b.size:=ByteArray.size_append
def aeJ:ByteArray:=⟨#[46]⟩
def sU:ByteArray:=⟨#[117]⟩
def sO:ByteArray:=⟨#[111]⟩
def sPl:ByteArray:=⟨#[43]⟩
def sMi:ByteArray:=⟨#[45]⟩
def sQu:ByteArray:=⟨#[63]⟩
def ER:ByteArray:=⟨#[32]⟩
def sCo:ByteArray:=⟨#[58]⟩
def vD(l:Let):ByteArray:=
 if l.kind==1 then mu l.gate++aeJ++mu l.aD
 else if l.kind==2 then (mu l.id++(if l.over then sO else sU))++(if l.sign==1 then sPl else if l.sign== -1 then sMi else sQu)
 else sQu
theorem afN(l:Let):(vD l).size<=100:=by
 have h1:=Gq l.gate;have h2:=Gq l.aD;have h3:=Gq l.id;have c1:aeJ.size=1:=rfl;have c2:sU.size=1:=rfl;have c3:sO.size=1:=rfl;have c4:sPl.size=1:=rfl;have c5:sMi.size=1:=rfl;have c6:sQu.size=1:=rfl;unfold vD;split
 .rw[Be,Be];omega
 split
 .rw[Be,Be];split<;>split
  .omega
  .split<;>omega
  .omega
  split<;>omega
 omega
def smL(l:Let):Prop:=(-1000000<=l.gate/\l.gate<=1000000)/\(-1000000<=l.aD/\l.aD<=1000000)/\(-1000000<=l.id/\l.id<=1000000)
theorem ash{l:Let}(h:smL l):aI S 77 [I7 l] (.one (.p (.str (vD l)))):=by
 obtain⟨⟨g1,g2⟩,⟨r1,r2⟩,⟨i1,i2⟩⟩:=h;have pg:=Pl g1 g2;have pr:=Pl r1 r2;have pi:=Pl i1 i2;have lg:=Gq l.gate;have lr:=Gq l.aD;have li:=Gq l.id;have Cw:S.shared 76=false:=ah;have b1:=Dq (a:=mu l.gate) (b:=⟨#[46]⟩) (by have:(ByteArray.mk #[46]).size=1:=rfl;omega);have b2:=Dq (a:=mu l.gate++⟨#[46]⟩) (b:=mu l.aD) (by rw[Be];have:(ByteArray.mk #[46]).size=1:=rfl;omega);have b3:=Dq (a:=mu l.id) (b:=⟨#[117]⟩) (by have:(ByteArray.mk #[117]).size=1:=rfl;omega);have b4:=Dq (a:=mu l.id) (b:=⟨#[111]⟩) (by have:(ByteArray.mk #[111]).size=1:=rfl;omega);have fin:∀(x:ByteArray) (c:ByteArray),(x=⟨#[117]⟩\/x=⟨#[111]⟩)->c.size=1->Hy .add (mu l.id++x) c=some (.str (mu l.id++x++c)):=fun x c hx hc=>by
  refine Dq ?_;rw[Be];rcases hx with rfl|rfl
  .have:(ByteArray.mk #[117]).size=1:=rfl;omega
  have:(ByteArray.mk #[111]).size=1:=rfl;omega
 have u1:=fin ⟨#[117]⟩ ⟨#[43]⟩ (.inl rfl) rfl;have u2:=fin ⟨#[117]⟩ ⟨#[45]⟩ (.inl rfl) rfl;have u3:=fin ⟨#[117]⟩ ⟨#[63]⟩ (.inl rfl) rfl;have o1:=fin ⟨#[111]⟩ ⟨#[43]⟩ (.inr rfl) rfl;have o2:=fin ⟨#[111]⟩ ⟨#[45]⟩ (.inr rfl) rfl;have o3:=fin ⟨#[111]⟩ ⟨#[63]⟩ (.inr rfl) rfl;have hw:vD l=if l.kind==1 then mu l.gate++⟨#[46]⟩++mu l.aD
  else if l.kind==2 then (mu l.id++(if l.over then ⟨#[111]⟩ else ⟨#[117]⟩))++(if l.sign==1 then ⟨#[43]⟩ else if l.sign== -1 then ⟨#[45]⟩ else ⟨#[63]⟩)
  else ⟨#[63]⟩:=rfl
 rw[hw];cases k1:(l.kind==1) with
 |true=>simp only[if_true];refine aZ c77 ?_;simp only[go_sem,i77,k1,Cw,Yp pg,Yp pr,b1,b2];first|done|exact⟨aG,rfl⟩|exact aG
 |false=>
  cases k2:(l.kind==2) with
  |true=>
   simp only[dL,if_true,if_false];cases ho:l.over with
   |true=>
    cases s1:(l.sign==1) with
    |true=>refine aZ c77 ?_;simp only[go_sem,i77,k1,k2,ho,s1,Cw,DH pi,b3,b4,o1];first|done|rfl
    |false=>
     cases s2:(l.sign== -1) with
     |true=>refine aZ c77 ?_;simp only[go_sem,i77,k1,k2,ho,s1,s2,Cw,DH pi,b3,b4,o2];first|done|rfl
     |false=>refine aZ c77 ?_;simp only[go_sem,i77,k1,k2,ho,s1,s2,Cw,DH pi,b3,b4,o3];first|done|rfl
   |false=>
    cases s1:(l.sign==1) with
    |true=>refine aZ c77 ?_;simp only[go_sem,i77,k1,k2,ho,s1,Cw,DH pi,b3,u1];first|done|rfl
    |false=>
     cases s2:(l.sign== -1) with
     |true=>refine aZ c77 ?_;simp only[go_sem,i77,k1,k2,ho,s1,s2,Cw,DH pi,b3,u2];first|done|rfl
     |false=>refine aZ c77 ?_;simp only[go_sem,i77,k1,k2,ho,s1,s2,Cw,DH pi,b3,u3];first|done|rfl
  |false=>simp only[dL,if_false];refine aZ c77 ?_;simp only[go_sem,i77,k1,k2];first|done|rfl
def A5(F:Int)(L:List Let):ByteArray:=L.foldl (fun s l=>s++(ER++vD l)) (mu F++sCo)
theorem ao2(F:Int):∀(L:List Let) (s:ByteArray) (k:Nat),s.size<=41+101*k->(L.foldl (fun s l=>s++(ER++vD l)) s).size<=41+101*(k+L.length):=by
 intro L
 induction L with
 |nil=>intro s k h;exact h
 |cons l L ih=>
  intro s k h;have:=ih (s++(ER++vD l)) (k+1) (by have:=afN l;rw[Be,Be];have c:ER.size=1:=rfl;omega)
  rw[dh];show(List.foldl (fun s l=>s++(ER++vD l)) (s++(ER++vD l)) L).size<=_;omega
def CP(F:Int)(L:List Let)(k:Nat):ByteArray:=(L.take k).foldl (fun s l=>s++(ER++vD l)) (mu F++sCo)
theorem aoW{F:Int}{L:List Let}{k:Nat}{x:Let}(h:L[k]?=some x):CP F L (k+1)=CP F L k++(ER++vD x):=by unfold CP;rw[GQ h,Kd];rfl
theorem aeg{F:Int}{L:List Let}(hF: -1000000<=F/\F<=1000000)(hl:L.length<=1000000)(Aw:∀l∈L,smL l):aI S 49 [dX F L] (.one (.p (.str (A5 F L)))):=by
 have pF:=Pl hF.1 hF.2;have lF:=Gq F;have Cw:S.shared 76=false:=ah;have b1:=Dq (a:=mu F) (b:=⟨#[58]⟩) (by have:(ByteArray.mk #[58]).size=1:=rfl;omega);have tE:∀k,(CP F L k).size<=41+101*k:=fun k=>by have:=ao2 F (L.take k) (mu F++sCo) 0 (by rw[Be];have:sCo.size=1:=rfl;omega);rw[iu] at this;unfold CP;omega
 have uC:CP F L L.length=A5 F L:=by unfold CP A5;rw[kS]
 generalize A5 F L=res at uC;refine aZ c49 ?_;simp only[go_sem,i49,Cw,DH pF,b1];refine cV (fun k ak aj=>ak 11=.one (.p (cF L))/\ak 12=vi L.length/\ak 13=vi k/\ak 3=.one (.p (.str (CP F L k)))) 0 L.length (bG _) ?_ ?_
 .simp only[go_sem];first|done|rfl|exact⟨rfl,rfl⟩
 rintro k ak aj hk ⟨fK,jD,sA,h3⟩
 by_cases ay:k<L.length
 .have aJ:((k:Int)<(L.length:Int)):=aa;have hx:=AN ay;have jG:=iI hx;have w1:=cn (n:=k) aa;have pw:=ash (Aw _ (aU hx));have lw:=afN (lA L k);have hts:=aoW (F:=F) hx;have jt:=tE k;generalize lA L k=x at*;have b2:=Dq (a:=⟨#[32]⟩) (b:=vD x) (by have:(ByteArray.mk #[32]).size=1:=rfl;omega);generalize CP F L k=s at*;have b3:=Dq (a:=s) (b:=⟨#[32]⟩++vD x) (by rw[Be];have:(ByteArray.mk #[32]).size=1:=rfl;omega)
  have pw':aI S 77 [.agg [.p (.int .i64 x.kind),.p (.int .i64 x.gate),.p (.int .i64 x.aD),.p (.int .i64 x.id),.p (.int .i64 x.sign),.p (.bool x.over)]] (.one (.p (.str (vD x)))):=pw;simp only[go_sem,i49_l1,fK,jD,sA,h3,ay,aJ,jG,Let.ps,w1,s77,DH pw',b2,b3];first|(rw[hts];rfl)|exact⟨ay,by rw[hts];rfl⟩
 have:k=L.length:=aa;subst this;rw[uC] at h3;simp only[go_sem,i49_l1,i49_r2,jD,sA,h3,eE]
structure cN where
 c:List Let
 n:List Let
 w:List bd
def cN.ps(F:Nat)(m:cN):List PV:=[.int .i64 F,cF m.c,.int .i64 F,cF m.n,kK m.w]
abbrev mv(F:Nat)(l:List cN):List (List PV):=l.map (cN.ps F)
abbrev MJ:Nat:=77
theorem Vx(cq:nQ){F:Nat}{L:List Let}(w:List bd)(hl:L.length<=1000000)(h0:cU (F:Int) L=0):aI S 48 [dX F L,.one (.p (kK w))] (.agg [.p (.int .i64 F),.p (cF L),.p (.int .i64 F),.p (cO (jV L)),.p (kK w)]):=by have pn:=adE cq (f:=F) hl h0;generalize cO (jV L)=q at*;refine aZ c48 ?_;simp only[go_sem,i48,s24,cJ pn ED];first|done|rfl
abbrev abG(id:Nat):Prop:=jo id=50
abbrev isAd(id:Nat):Prop:=jo id=53
structure By (s gq gi:Nat) (es:List (List PV)) (k:Nat) (aj:aA):Prop where
 q:aj 1664192192=(gq,some (.var [.hsl s gi 5 0 es.length,.p (.int .i64 k)]))
 b:aj s=(gi,some (.arr MJ 5 es))
def tkP(s gq gi:Nat)(es:List (List PV))(k:Nat)(aj:aA)(v:V)(ao:aA):Prop:=
 (k=es.length/\v=.tup [.agg [.p (.int .i64 0),.p .nils,.p (.int .i64 0),.p .nils,.p .nils],vb false]/\ ∀i,¬abG i->ao i=aj i)\/
 ∃e,es[k]?=some e/\v=.tup [.agg (e.map .p),vb true]/\By s gq gi es (k+1) ao/\ ∀i,¬abG i->i≠1664192192->ao i=aj i
theorem len5{e:List PV}(h:e.length=5):∃x0 x1 x2 x3 x4,e=[x0,x1,x2,x3,x4]:=by
 match e,h with
 |[x0,x1,x2,x3,x4],_=>exact⟨_,_,_,_,_,rfl⟩
def adP(s gq:Nat)(es:List (List PV))(k:Nat)(e:List PV)(aj:aA)(v:V)(ao:aA):Prop:=v=.tup []/\(∃g,By 3392064448 gq g (es++[e]) k ao)/\ ∀i,¬isAd i->i≠1664192192->i≠s->ao i=aj i
abbrev vl(s:Nat):Prop:=s=1664192064\/s=3392064448
theorem arv{al:Al}{s:Nat}(hs:vl s){aj:aA}{gq gi k:Nat}{es:List (List PV)}(oq:al.ok 1664192192=true)(os:al.ok s=true)(ot:al.ok 3200000000=true)(ot2:al.ok 3200128000=true)(h:By s gq gi es k aj)(h5:∀e∈es,e.length=5)(hl:es.length<=1000000)(hk:k<=es.length):
  ∃v ao,iK S 50 [.one (.aY 1664192192 gq 0)] al aj v ao/\tkP s gq gi es k aj v ao:=by
 rcases hs with rfl|rfl
 all_goals
  obtain⟨hq,hb⟩:=h;refine mF c50 (iv rfl) ?_;by_cases ay:k<es.length
  .have aH:(((k:Int))==(es.length:Int))=false:=by rw[beq_eq_false_iff_ne];omega
   obtain⟨e,he⟩:=aL ay;obtain⟨x0,x1,x2,x3,x4,rfl⟩:=len5 (h5 e (aU he));have w1:=cn (n:=k) aa;have w2:IntKind.i64.wrap (((k+1:Nat):Int)-1)=(k:Int):=by rw[vE aa aa];omega
   simp only[go_sem,i50,hq,hb,oq,os,ot,aH,ay,he,w1,w2];refine⟨aG,aG,.inr ⟨_,he,rfl,⟨?_,?_⟩,fun i h1 h2=>?_⟩⟩
   .simp only[aN,Nat.reduceEqDiff,if_true,if_false]
   .simp only[aN,Nat.reduceEqDiff,if_false];exact hb
   have h3:i≠3200000000:=fun e=>h1 (by rw[e];rfl);simp only[aN,if_neg h2,if_neg h3]
  have Cp:k=es.length:=aa;subst Cp;have heq:(((es.length:Int))==(es.length:Int))=true:=af;simp only[go_sem,i50,hq,oq,ot,ot2,heq];refine⟨aG,.inl ⟨rfl,rfl,fun i h1=>?_⟩⟩;have h3:i≠3200000000:=fun e=>h1 (by rw[e];rfl);have h4:i≠3200128000:=fun e=>h1 (by rw[e];rfl);simp only[aN,if_neg h3,if_neg h4]
theorem agn{al:Al}{s:Nat}(hs:vl s){aj:aA}{gq gi k:Nat}{es:List (List PV)}{x0 x1 x2 x3 x4:PV}(oq:al.ok 1664192192=true)(os:al.ok s=true)(oa:al.ok 3392000000=true)(oa2:al.ok 3392064384=true)(oa3:al.ok 3392064448=true)(h:By s gq gi es k aj)(aH:es≠[])(hl:es.length<=1000000):
  ∃v ao,iK S 53 [.one (.aY 1664192192 gq 0),.agg [.p x0,.p x1,.p x2,.p x3,.p x4]] al aj v ao/\adP s gq es k [x0.norm,x1.norm,x2.norm,x3.norm,x4.norm] aj v ao:=by
 rcases hs with rfl|rfl
 all_goals
  obtain⟨hq,hb⟩:=h;refine mF c53 (iv rfl) ?_;simp only[go_sem,i53,hq,oq,oa,oa2];refine Fz (site:=3392064448) (bytes:=88) (es:=es) (xs:=[[x0.norm,x1.norm,x2.norm,x3.norm,x4.norm]]) (rd:=[3392064384]) (fun i hi=>?_) (.inr ⟨aH,gi,rfl,?_⟩) ?_ (.inl rfl) (by simp only[dh,ff];omega) fun c' gT r1 u1 fG hJ jv=>?_
  .simp only[cP,jz,or_false] at hi;rcases hi with rfl|rfl|rfl<;>assumption
  .simp only[aN,Nat.reduceEqDiff,if_false];exact hb
  .simp[fF,aN]
  have b0:=hJ 1664192192 ae ae;simp only[aN,Nat.reduceEqDiff,if_false] at b0;have b1:=b0.trans hq;rcases fG with ⟨e,_⟩|⟨_,g2,e2,hC⟩
  .simp at e
  cases e2;simp only[go_sem,b1,oq];refine⟨?_,rfl,⟨g2,?_,?_⟩,fun i h1 h2 h3=>?_⟩
  .rcases jv with ⟨rfl,rfl⟩|⟨rfl,rfl⟩|⟨rfl,rfl⟩<;>kernel_rfl
  .simp only[aN,if_true]
  .simp only[aN,Nat.reduceEqDiff,if_false];exact hC
  have h4:i≠3392000000:=fun e=>h1 (by rw[e];rfl);have h5:i≠3392064384:=fun e=>h1 (by rw[e];rfl);have h6:i≠3392064448:=fun e=>h1 (by rw[e];rfl);simp only[aN,if_neg h2];rw[hJ i h6 h3];simp only[aN,if_neg h4,if_neg h5]
abbrev prP(ps:List (Int×Int)):List (List PV):=ps.map fun p=>[.int .i64 p.1,.int .i64 p.2]
def sV:List (Int×Int)->Int
 |[]=>0
 |p::r=>if p.1=p.2 then sV r else if p.1<p.2 then -1 else 1
theorem aoV{ps:List (Int×Int)}{k:Nat}{p:Int×Int}(h:ps[k]?=some p):(prP ps)[k]?=some [.int .i64 p.1,.int .i64 p.2]:=by rw[fZ,h];rfl
theorem NX{α:Type}{A:List α}{k:Nat}{a:α}(h:A[k]?=some a):A.drop k=a::A.drop (k+1):=by obtain⟨h1,e⟩:=aW.1 h;rw[<- e,r5]
theorem adQ(ps:List (Int×Int))(hl:ps.length<=1000000):aI S 58 [.one (.p (.sl (prP ps)))] (ri (sV ps)):=by
 generalize hr:sV ps=r;refine aZ c58 ?_;simp only[go_sem,i58];refine cV (fun k ak aj=>ak 5=.one (.p (.sl (prP ps)))/\ak 6=vi ps.length/\ak 7=vi k/\sV (ps.drop k)=r) 0 ps.length (bG _) ?_ ?_
 .simp only[go_sem];first|exact hr|exact⟨rfl,hr⟩
 rintro k ak aj hk ⟨h5,h6,h7,hn⟩
 by_cases ay:k<ps.length
 .have aJ:(k:Int)<(ps.length:Int):=aa;obtain⟨p,hp⟩:=aL ay;have gI:=aoV hp;have w1:=cn (n:=k) aa;rw[NX hp] at hn;obtain⟨x,y⟩:=p;unfold sV at hn;dsimp only at hn gI;by_cases e:x=y
  .rw[if_pos e] at hn;subst e;simp only[go_sem,i58_l1,h5,h6,h7,ay,aJ,gI,w1];first|exact hn|exact⟨rfl,hn⟩|exact⟨ay,hn⟩
  rw[if_neg e] at hn;have e':(x !=y)=true:=by simpa using e
  by_cases l:x<y
  .rw[if_pos l] at hn;subst hn;simp only[go_sem,i58_l1,h5,h6,h7,aJ,gI,e',l];first|done|rfl
  rw[if_neg l] at hn;subst hn;simp only[go_sem,i58_l1,h5,h6,h7,aJ,gI,e',l];first|done|rfl
 have:k=ps.length:=aa;subst this;rw[Ka] at hn;have hn:0=r:=hn;subst hn;simp only[go_sem,i58_l1,i58_r2,h6,h7,eE]
theorem adG(b:Bool):aI S 60 [vb b] (ri (if b then 1 else 0)):=by
 cases b
 .refine aZ c60 ?_;simp only[go_sem,i60];first|done|rfl
 refine aZ c60 ?_;simp only[go_sem,i60];first|done|rfl
theorem ahY{q:Let->Bool}{L:List Let}{k:Nat}{x:Let}(h:L[k]?=some x):aw q (L.take (k+1))=aw q (L.take k)+(if q x then 1 else 0):=by rw[GQ h,yA];congr 1;show List.countP _ [x]=_;rw[List.countP_singleton]
theorem Yj(F:Int)(L:List Let)(hl:L.length<=1000000):aI S 59 [dX F L] (ri ((aw Let.aB L:Nat):Int)):=by
 have hc:∀k,aw Let.aB (L.take k)<=k:=fun k=>by have:=Nt (p:=Let.aB) (l:=L.take k);rw[iu] at this;show List.countP _ _<=k;omega
 refine aZ c59 ?_;simp only[go_sem,i59];refine cV (fun k ak aj=>ak 7=.one (.p (cF L))/\ak 8=vi L.length/\ak 9=vi k/\ak 3=vi ((aw Let.aB (L.take k):Nat):Int)) 0 L.length (bG _) ?_ ?_
 .simp only[go_sem];first|done|rfl|exact⟨rfl,rfl⟩
 rintro k ak aj hk ⟨h7,h8,h9,h3⟩
 by_cases ay:k<L.length
 .have aJ:(k:Int)<(L.length:Int):=aa;have hx:=AN ay;have jG:=iI hx;have w1:=cn (n:=k) aa;have hs:=ahY (q:=Let.aB) hx;have jt:=hc k;have w2:=cn (n:=aw Let.aB (L.take k)) aa;generalize lA L k=x at*;have hcx:x.aB=(x.kind==2):=rfl;rw[hcx] at hs;generalize aw Let.aB (L.take k)=d at*;cases h2:(x.kind==2) with
  |false=>rw[h2] at hs;simp only[go_sem,i59_l1,h7,h8,h9,h3,ay,aJ,jG,Let.ps,h2,w1];first|(rw[hs];rfl)|exact⟨ay,by rw[hs];rfl⟩
  |true=>rw[h2] at hs;simp only[go_sem,i59_l1,h7,h8,h9,h3,ay,aJ,jG,Let.ps,h2,w1,w2];first|(rw[hs];rfl)|exact⟨ay,by rw[hs];rfl⟩
 have:k=L.length:=aa;subst this;rw[kS] at h3;simp only[go_sem,i59_l1,i59_r2,h8,h9,h3,eE]
def Gv(a b:Let):List (Int×Int):=[(a.kind,b.kind),(a.gate,b.gate),(a.aD,b.aD),(a.id,b.id),(if a.over then 1 else 0,if b.over then 1 else 0),(a.sign,b.sign)]
def NQ:List Let->List Let->Int
 |a::A,b::B=>if sV (Gv a b)=0 then NQ A B else sV (Gv a b)
 |_,_=>0
def DY(f:Int)(A:List Let)(g:Int)(B:List Let):List (Int×Int):=[(f,g),(((aw Let.aB A:Nat):Int),((aw Let.aB B:Nat):Int)),((A.length:Int),(B.length:Int))]
def Fw(f:Int)(A:List Let)(g:Int)(B:List Let):Int:=if sV (DY f A g B)=0 then NQ A B else sV (DY f A g B)
theorem anU{ps:List (Int×Int)}(h:sV ps=0):∀p∈ps,p.1=p.2:=by
 induction ps with
 |nil=>intro p hp;cases hp
 |cons q r ih=>
  unfold sV at h;by_cases e:q.1=q.2
  .rw[if_pos e] at h;intro p hp;rcases cP.1 hp with rfl|hp
   .exact e
   exact ih h p hp
  rw[if_neg e] at h;split at h<;>cases h
theorem ah1(f:Int)(A:List Let)(g:Int)(B:List Let)(hA:A.length<=1000000)(hB:B.length<=1000000):aI S 38 [dX f A,dX g B] (ri (Fw f A g B)):=by
 have c1:=Yj f A hA;have c2:=Yj g B hB;have po:=adQ (DY f A g B) (by simp[DY]);have po':aI S 58 [.one (.p (.sl [[.int .i64 f,.int .i64 g],[.int .i64 ((aw Let.aB A:Nat):Int),.int .i64 ((aw Let.aB B:Nat):Int)],[.int .i64 A.length,.int .i64 B.length]]))] (ri (sV (DY f A g B))):=po;clear po;generalize hr:Fw f A g B=r;unfold Fw at hr;by_cases e:sV (DY f A g B)=0
 .rw[if_pos e] at hr;have hlen:A.length=B.length:=by
   have e:=anU e;unfold DY at e;simp only[cP,jz,or_false,forall_eq_or_imp,forall_eq] at e;omega
  rw[e] at po';refine aZ c38 ?_;simp only[go_sem,i38,s59,s58,gU c1,gU c2,gU po'];refine⟨aG,?_⟩;refine cV (fun k ak aj=>ak 2=.one (.aY 2432000000 1 0)/\ak 3=.one (.aY 2432000064 1 0)/\aj 2432000000=(1,some (.var [.p (.int .i64 f),.p (cF A)]))/\aj 2432000064=(1,some (.var [.p (.int .i64 g),.p (cF B)]))/\ak 33=.one (.p (cF A))/\ak 34=vi A.length/\ak 35=vi k/\NQ (A.drop k) (B.drop k)=r) 0 A.length (bG _) ?_ ?_
  .simp only[go_sem];first|exact hr|exact⟨rfl,hr⟩|exact⟨rfl,rfl,hr⟩|trace_state
  rintro k ak aj hk ⟨h2,h3,b0,b1,DN,FQ,h35,hn⟩
  by_cases ay:k<A.length
  .have aJ:(k:Int)<(A.length:Int):=aa;have akU:k<B.length:=aa;have hx:=AN ay;have hy:=AN akU;have jG:=iI hx;have My:=iI hy;have w1:=cn (n:=k) aa;rw[NX hx,NX hy] at hn;unfold NQ at hn;generalize lA A k=x at*;generalize lA B k=y at*;have n1:=adG x.over;have n2:=adG y.over;have pl:=adQ (Gv x y) (by simp[Gv]);have A2:aI S 58 [.one (.p (.sl [[.int .i64 x.kind,.int .i64 y.kind],[.int .i64 x.gate,.int .i64 y.gate],[.int .i64 x.aD,.int .i64 y.aD],[.int .i64 x.id,.int .i64 y.id],[.int .i64 (if x.over then 1 else 0),.int .i64 (if y.over then 1 else 0)],[.int .i64 x.sign,.int .i64 y.sign]]))] (ri (sV (Gv x y))):=pl;clear pl;by_cases e2:sV (Gv x y)=0
   .rw[if_pos e2] at hn;rw[e2] at A2;simp only[go_sem,i38_l1,h2,h3,b0,b1,DN,FQ,h35,ay,aJ,jG,My,Let.ps,w1,s60,s58,gU n1,gU n2,gU A2];first|exact⟨aG,hn⟩|exact⟨aG,ay,hn⟩|trace_state
   rw[if_neg e2] at hn;subst hn;have e2':(sV (Gv x y)!=0)=true:=by simpa using e2
   simp only[go_sem,i38_l1,h3,b1,DN,FQ,h35,aJ,jG,My,Let.ps,s60,s58,gU n1,gU n2,gU A2,e2'];first|exact⟨aG,rfl⟩|exact aG|trace_state
  have:k=A.length:=aa;subst this;rw[Ka] at hn;have hn:0=r:=by rw[<- hn];cases B.drop A.length<;>rfl
  subst hn;simp only[go_sem,i38_l1,i38_r2,FQ,h35,eE];first|done|rfl
 rw[if_neg e] at hr;subst hr;have e':(sV (DY f A g B)!=0)=true:=by simpa using e
 refine aZ c38 ?_;simp only[go_sem,i38,s59,s58,gU c1,gU c2,gU po',e'];first|exact⟨aG,rfl⟩|exact aG|trace_state
end Go.Abs
namespace Go.Abs
abbrev BN(F:Nat)(l:List (List Let)):List (List PV):=l.map fun L=>[.int .i64 F,cF L]
theorem XM{F:Nat}{l:List (List Let)}{k:Nat}{L:List Let}(h:l[k]?=some L):(BN F l)[k]?=some [.int .i64 F,cF L]:=by rw[fZ,h];rfl
def uF(F:Nat)(l:List (List Let)):Nat->Int
 |0=> -1
 |k+1=>if uF F l k<0 then (k:Int) else if Fw F (l.getD k []) F (l.getD (uF F l k).toNat [])<0 then (k:Int) else uF F l k
theorem Vv(F:Nat)(l:List (List Let)):∀k,(k=0/\uF F l k= -1)\/(0<=uF F l k/\uF F l k<k):=by
 intro k
 induction k with
 |zero=>exact .inl ⟨rfl,rfl⟩
 |succ k ih=>
  right;unfold uF;split
  .omega
  split
  .omega
  omega
theorem ams(F:Nat)(l:List (List Let))(hl:l.length<=1000000)(hL:∀L∈l,L.length<=1000000):aI S 17 [.one (.p (.sl (BN F l)))] (ri (uF F l l.length)):=by
 refine aZ c17 ?_;simp only[go_sem,i17];refine cV (fun k ak aj=>ak 0=.one (.p (.sl (BN F l)))/\ak 6=.one (.p (.sl (BN F l)))/\ak 7=vi l.length/\ak 8=vi k/\ak 3=vi (uF F l k)) 0 l.length (bG _) ?_ ?_
 .simp only[go_sem];first|done|rfl|exact⟨rfl,rfl⟩
 rintro k ak aj hk ⟨h0,h6,h7,h8,h3⟩
 by_cases ay:k<l.length
 .have aJ:(k:Int)<(l.length:Int):=aa;obtain⟨X,hX⟩:=aL ay;have hXi:=XM (F:=F) hX;have w1:=cn (n:=k) aa;have hgX:l.getD k []=X:=by rw[dq,hX];rfl
  have cq:(BN F l).length=l.length:=cM ..;have hs:uF F l (k+1)=if uF F l k<0 then (k:Int) else if Fw F X F (l.getD (uF F l k).toNat [])<0 then (k:Int) else uF F l k:=by rw[<- hgX];rfl
  rcases Vv F l k with ⟨Ak,hb⟩|⟨nU,jr⟩
  .rw[hb] at hs h3;rw[if_pos ae] at hs;have OW:((-1:Int)<0):=ae;simp only[go_sem,i17_l1,h0,h6,h7,h8,h3,ay,aJ,hXi,w1,OW];first|exact⟨aG,by rw[hs]⟩|exact⟨aG,ay,by rw[hs]⟩|trace_state
  obtain⟨b,hb⟩:=sZ nU;rw[hb] at hs h3 jr;have pY:b<l.length:=aa;obtain⟨Y,hY⟩:=aL pY;have hYi:=XM (F:=F) hY;have hgY:l.getD b []=Y:=by rw[dq,hY];rfl
  rw[tY,hgY,if_neg aa] at hs;have OW:¬((b:Int)<0):=aa;have pc:=ah1 F X F Y (hL X (aU hX)) (hL Y (aU hY));have pc':aI S 38 [.agg [.p (.int .i64 F),.p (cF X)],.agg [.p (.int .i64 F),.p (cF Y)]] (ri (Fw F X F Y)):=pc;clear pc;generalize Fw F X F Y=o at*;by_cases ho:o<0
  .rw[if_pos ho] at hs;simp only[go_sem,i17_l1,h0,h6,h7,h8,h3,ay,aJ,hXi,hYi,w1,OW,s38,gU pc',ho];first|exact⟨aG,by rw[hs]⟩|exact⟨aG,ay,by rw[hs]⟩|trace_state
  rw[if_neg ho] at hs;simp only[go_sem,i17_l1,h0,h6,h7,h8,h3,ay,aJ,hXi,hYi,w1,OW,s38,gU pc',ho];first|exact⟨aG,by rw[hs]⟩|exact⟨aG,ay,by rw[hs]⟩|trace_state
 have:k=l.length:=aa;subst this;simp only[go_sem,i17_l1,i17_r2,h7,h8,h3,eE]
def rdQ(F:Nat)(L:List Let)(x:bd×Bool):Prop:=aI S 28 [dX F L] (Jx x.1 x.2)/\(x.2=true->rU F L zy x.1/\ ¬Jf F L)/\(x.2=false->Jf F L)
theorem apd{F:Nat}{L:List Let}(h:cU (F:Int) L=0):∃x,rdQ F L x:=by
 rcases aer h with ⟨m,h1,h3,h2⟩|⟨h1,h2⟩
 .exact⟨(m,true),h2,fun _=>⟨h1,h3⟩,fun h=>(by cases h)⟩
 exact⟨(QK,false),h2,fun h=>(by cases h),fun _=>h1⟩
open Classical in
noncomputable def zx (F:Nat) (L:List Let):bd×Bool:=if h:∃x,rdQ F L x then Classical.choose h else (QK,false)
theorem aeo{F:Nat}{L:List Let}(h:cU (F:Int) L=0):rdQ F L (zx F L):=by have he:=apd h;unfold zx;rw[dif_pos he];exact Classical.choose_spec he
abbrev EE:List Int:=[3,8]
theorem am2:∀k∈EE,wA k:=by intro k h;simp only[cP,jz,or_false] at h;unfold wA k5;omega
def lvQ(F:Nat)(L:List Let)(ms:List bd):Prop:=(ms.length<=8000/\ ∀m∈ms,rU F L EE m)/\aI S 51 [dX F L,.one (.p (.sl (iP EE)))] (.tup [.one (aT gC 7 (mP ms)),.one (.p (.int .i64 0))])
open Classical in
noncomputable def qo (F:Nat) (L:List Let):List bd:=if h:∃ms,lvQ F L ms then Classical.choose h else []
theorem am1{F:Nat}{L:List Let}(h:cU (F:Int) L=0):lvQ F L (qo F L):=by have he:∃ms,lvQ F L ms:=WY h EE ae am2;unfold qo;rw[dif_pos he];exact Classical.choose_spec he
abbrev isSt(id:Nat):Prop:=jo id=27
def stP(idv gv:Nat)(b:Bool)(aj:aA)(v:V)(ao:aA):Prop:=v=vb b/\ao idv=(gv,some (.var [.p (.bool b)]))/\ ∀i,¬isSt i->i≠idv->ao i=aj i
theorem arl{al:Al}{aj:aA}{gv F:Nat}{L:List Let}{x2 x3 x4:PV}{b0:Bool}{m:bd}{b:Bool}(hp:aI S 28 [dX F L] (Jx m b))(ov:al.ok 512512000=true)(oa:al.ok 1728000000=true)(oa2:al.ok 1728064128=true)(hv:aj 512512000=(gv,some (.var [.p (.bool b0)]))):
  ∃v ao,iK S 27 [.agg [.p (.int .i64 F),.p (cF L),.p x2,.p x3,.p x4],.one (.aY 512512000 gv 0)] al aj v ao/\stP 512512000 gv b aj v ao:=by
 refine mF c27 (iv rfl) ?_;simp only[go_sem,i27,oa,s28];rw[Lg hp Po];refine⟨by simp only[GB,kQ,kN],?_⟩;simp only[go_sem,hv,ov];refine⟨rfl,?_,fun i h1 h2=>?_⟩
 .simp only[aN,Nat.reduceEqDiff,if_true,if_false]
 have h3:i≠1728000000:=fun e=>h1 (by rw[e];rfl);simp only[aN,if_neg h2,if_neg h3]
end Go.Abs
namespace Go.Abs
section
variable {al:Al} {Q:dA} {ak:Env} {aj:aA} {os all:List aO} {tr:List bR} {d:Option Nat}
theorem ajT{f:Nat}{vs:List V}{s ty z:Nat}{rd:List Nat}{es:List (List PV)}{x:PV}(au:∀i∈s::rd,al.ok i=true)(hp:aI S f vs (.tup [.one (aT ty z es),.one (.p x)]))(eS:S.lone s=false)(hs:(es.all fun e=>e.all PV.scalar)=true)(hx:x.scalar=true)
  (hK:∀(c:C) ao,grown s ty z es (.one c) ao->(∀i,i≠s->ao i=aj i)->RN S al os Q (put ak d (.tup [.one c,.one (.p x)])) ao):gP S al (.pc f vs rd s) d os Q ak aj:=by
 obtain⟨h1,h2,h3⟩:=rM (aj:=aj) (s:=s) (ty:=ty) (z:=z) (es:=es);have gZ:(RV.tup [.one (aT ty z es),.one (.p x)]).alone=true:=by have a:=qA (ty:=ty) (z:=z) hs;simp only[RV.alone,gG,ik,mB,pM,wO] at a;simp only[RV.alone,gG,mf,ik,yf,gD,kN,mB,pM,wO,a,Db];exact hx
 refine(Lg (v:=.tup [.one (cH aj s (aT ty z es)).1,.one (.p x)]) (u:=(cH aj s (aT ty z es)).2) hp ?_).2 ⟨CK fun i hi=>au i ?_,hK _ _ h1 h2⟩
 .rw[eS,uH];unfold land;rw[if_pos (.inr gZ)];simp[jl,gG,mf,ik,iT,qt,qT,l7,cH]
 rcases h3 with h|h<;>rw[h] at hi<;>simp at hi<;>simp[hi]
 rcases hi with hi|hi<;>simp[hi]
theorem ajY{f:Nat}{vs:List V}{s ty z:Nat}{rd:List Nat}{es:List (List PV)}{x y:PV}(au:∀i∈(s+1)::rd,al.ok i=true)(hp:aI S f vs (.tup [.agg [.p x,aT ty z es],.one (.p y)]))(eS:S.lone s=false)(hx:x.scalar=true)(hy:y.scalar=true)(hs:(es.all fun e=>e.all PV.scalar)=true)
  (hK:∀(c:C) ao,grown (s+1) ty z es (.one c) ao->(∀i,i≠s+1->ao i=aj i)->RN S al os Q (put ak d (.tup [.agg [.p x,c],.one (.p y)])) ao):gP S al (.pc f vs rd s) d os Q ak aj:=by
 obtain⟨h1,h2,h3⟩:=rM (aj:=aj) (s:=s+1) (ty:=ty) (z:=z) (es:=es);have gZ:(RV.tup [.agg [.p x,aT ty z es],.one (.p y)]).alone=true:=by have a:=qA (ty:=ty) (z:=z) hs;simp only[RV.alone,gG,ik,mB,pM,wO] at a;simp only[RV.alone,gG,mf,ik,yf,gD,kN,mB,pM,wO,a,Db];show(x.scalar&&y.scalar)=true;rw[hx,hy];rfl
 refine(Lg (v:=.tup [.agg [.p x,(cH aj (s+1) (aT ty z es)).1],.one (.p y)]) (u:=(cH aj (s+1) (aT ty z es)).2) hp ?_).2 ⟨CK fun i hi=>au i ?_,hK _ _ h1 h2⟩
 .rw[eS,uH];unfold land;rw[if_pos (.inr gZ)];simp[jl,gG,mf,ik,iT,qt,qT,l7,cH]
 rcases h3 with h|h<;>rw[h] at hi<;>simp at hi<;>simp[hi]
 rcases hi with hi|hi<;>simp[hi]
theorem Vk{s:Nat}{rd:List Nat}{x0 x1 x2 x3 x4:PV}{l:Bool}(hr:nK aj rd):∃u,land aj rd s ((RV.agg [.p x0,.p x1,.p x2,.p x3,.p x4]).gK l)=some (.agg [.p x0,.p x1,.p x2,.p x3,.p x4],u)/\(∀i,i∉rd->app u aj i=aj i)/\(∀i∈u.map (·.1),i∈rd)/\(u.map (·.1)=[]\/u.map (·.1)=rd):=by
 have hp:(RV.agg [.p x0,.p x1,.p x2,.p x3,.p x4]).gK l=.agg [.p x0,.p x1,.p x2,.p x3,.p x4]:=by cases l<;>rfl
 rw[hp];unfold land;by_cases h:rd=[]\/(RV.agg [.p x0,.p x1,.p x2,.p x3,.p x4]).alone=true
 .rw[if_pos h];exact⟨[],rfl,fun _ _=>rfl,(fun i hi=>by cases hi),.inl rfl⟩
 rw[if_neg h];obtain⟨fu,h1,h2⟩:=Ow rd rd hr;have:rA aj rd=some fu:=h1;rw[this];refine⟨fu,?_,fun i hi=>Ds _ _ _ (by rw[h2];exact hi),fun i hi=>by rw[h2] at hi;exact hi,.inr h2⟩;show some (_,fu++[])=_;rw[kN];rfl
end
abbrev CF(l:List ByteArray):List (PV×List PV):=l.map fun s=>(PV.str s,[PV.bool true])
theorem ajs(q:ByteArray):∀(l:List ByteArray) (i:Nat),(l.any (fun s=>q==s)=true/\ ∃j,oO (.str q) (CF l) i=some (some (j,[.bool true])))\/(l.any (fun s=>q==s)=false/\oO (.str q) (CF l) i=some none):=by
 intro l
 induction l with
 |nil=>intro i;exact .inr ⟨rfl,rfl⟩
 |cons a l ih=>
  intro i;have e:oO (.str q) (CF (a::l)) i=match some (q==a) with|some true=>some (some (i,[.bool true]))|some false=>oO (.str q) (CF l) (i+1)|none=>none:=rfl
  rw[e,List.any_cons];cases h:(q==a) with
  |true=>exact .inl ⟨rfl,i,rfl⟩
  |false=>exact ih (i+1)
def cN.key(F:Nat)(m:cN):ByteArray:=A5 F m.n
noncomputable def pR (F limit:Nat) (a:cN) (st:List cN) (m:bd):Nat×List cN:=
 if (st.map (cN.key F)).any (fun s=>A5 F (fB ((sk F a.c m).getD []))==s) then (0,st)
 else if st.length=limit then (1,st)
 else (if (zx F ((sk F a.c m).getD [])).2 then 2 else 0,st++[⟨(sk F a.c m).getD [],fB ((sk F a.c m).getD []),a.w++[m]⟩])
noncomputable def kG (F limit:Nat) (a:cN):List cN->List bd->Nat×List cN
 |st,[]=>(0,st)
 |st,m::r=>if (pR F limit a st m).1=0 then kG F limit a (pR F limit a st m).2 r else pR F limit a st m
noncomputable def zP (F limit:Nat):Nat->Nat->List cN->Nat×List cN
 |0,_,st=>(0,st)
 |f+1,i,st=>match st[i]? with
  |none=>(0,st)
  |some a=>if (kG F limit a st (qo F a.c)).1=0 then zP F limit f (i+1) (kG F limit a st (qo F a.c)).2 else kG F limit a st (qo F a.c)
structure vI (F:Nat) (L0:List Let) (n:Nat) (m:cN):Prop where
 chk:cU (F:Int) m.c=0
 MR:m.n=fB m.c
 rep:vu F L0 m.w=some m.c
 kind:∀x∈m.w,x.k∈EE
 len:m.w.length<=n
 same:m.c.length=L0.length
structure wU (al:Al):Prop where
 c:∀id,jo id=26->al.ok id=true
 t:al.fs.contains 50=true
 a:al.fs.contains 53=true
 s:al.fs.contains 27=true
 v:al.ok 512512000=true
theorem wU.fn{al:Al}{f id:Nat}(h:al.fs.contains f=true)(e:jo id=f):al.ok id=true:=by unfold Al.ok;rw[e,h];simp
theorem wU.fD{al:Al}(ac:wU al):al.ok 1664000000=true/\al.ok 1664064128=true/\al.ok 1664128000=true/\al.ok 1664192064=true/\al.ok 1664192192=true/\al.ok 1664256256=true/\al.ok 1664448128=true/\al.ok 1664448192=true/\al.ok 1664640128=true/\al.ok 1664704193=true/\al.ok 1664704448=true/\al.ok 1664768192=true/\al.ok 1664768320=true/\al.ok 1664768384=true/\al.ok 1664768512=true:=by
 repeat' apply And.intro
 all_goals exact ac.c _ rfl
abbrev JF(gv:Nat):V:=.one (.hfn 27 [] [.aY 512512000 gv 0])
def mw(i:Nat):Prop:=jo i=26\/jo i=50\/jo i=53\/jo i=27
theorem vl.ok{al:Al}{s:Nat}(hq:vl s)(ac:wU al):al.ok s=true:=by
 rcases hq with rfl|rfl
 .exact ac.c _ rfl
 exact wU.fn ac.a rfl
theorem vl.own{s:Nat}(hq:vl s):mw s:=by
 rcases hq with rfl|rfl
 .exact .inl rfl
 exact .inr (.inr (.inl rfl))
theorem vl.no{s i:Nat}(hq:vl s)(h:¬mw i):i≠s:=fun e=>h (e▸hq.own)
theorem vl.ne{s:Nat}(hq:vl s):¬s=1664000000/\ ¬s=1664064128/\ ¬s=1664128000/\ ¬s=1664192192/\ ¬s=1664256256/\ ¬s=1664448128/\ ¬s=1664448192/\ ¬s=1664640128/\ ¬s=1664704193/\ ¬s=1664704448/\ ¬s=1664768192/\ ¬s=1664768320/\ ¬s=1664768384/\ ¬s=1664768512/\ ¬s=512512000:=by rcases hq with rfl|rfl<;>decide
structure vJ (F limit:Nat) (L0:List Let) (gv:Nat) (r0:List Nat) (b0:aA) (gq gM:Nat) (st:List cN) (k:Nat) (ak:Env) (aj:aA):Prop where
 e1:ak 1=vi limit
 e2:ak 2=JF gv
 e9:ak 9=.one (.j8 1664128000 gM)
 qC:ak 10=.one (.aY 1664192192 gq 0)
 bM:aj 1664128000=(gM,some (.map false (CF (st.map (cN.key F)))))
 que:∃s,vl s/\ ∃gi,By s gq gi (mv F st) k aj
 bv:aj 512512000=(gv,some (.var [.p (.bool false)]))
 ne:st≠[]
 lim:st.length<=limit
 all:∀m∈st,vI F L0 st.length m
 fr:∀i,¬mw i->i≠512512000->i∉r0->aj i=b0 i
theorem MK(F:Nat)(l:List cN):(mv F l).length=l.length:=cM ..
theorem anj(F:Nat)(l:List cN):∀e∈mv F l,e.length=5:=fun e he=>by obtain⟨m,_,rfl⟩:=dQ.1 he;rfl
theorem qR{i:Nat}{f o:Nat}(h:¬mw i)(e:jo o=f)(hf:f=26\/f=50\/f=53\/f=27):i≠o:=fun h2=>h (by rw[h2];unfold mw;rw[e];exact hf)
structure Kh (F:Nat) (L0:List Let) (gv:Nat) (r0:List Nat) (b0:aA) (r:Nat×List cN) (gq:Nat) (ak:Env) (aj:aA):Prop where
 qC:ak 10=.one (.aY 1664192192 gq 0)
 que:∃k s,vl s/\ ∃gi,By s gq gi (mv F r.2) k aj
 bv:aj 512512000=(gv,some (.var [.p (.bool (r.1==2))]))
 ne:r.2≠[]
 all:∀m∈r.2,vI F L0 r.2.length m
 fr:∀i,¬mw i->i≠512512000->i∉r0->aj i=b0 i
theorem vI.mono{F:Nat}{L0:List Let}{n n':Nat}{m:cN}(h:vI F L0 n m)(hn:n<=n'):vI F L0 n' m:=⟨h.chk,h.MR,h.rep,h.kind,mD h.len hn,h.same⟩
theorem aeZ{F:Nat}{L:List Let}(h:cU (F:Int) L=0):∀l∈L,smL l:=by
 intro l hl;have aH:L≠[]:=List.ne_nil_of_mem hl;obtain⟨G,e,g⟩:=xg h aH;have hc:=g.len;have hF:=g.fing;have hb:=g.bad l hl;rcases yz hb with hp|hx
 .obtain⟨g0,g1,r0,r1⟩:=g.ok.ax.fm l hl hp;have:=tj (nL l.gate.toNat) L;have hid:l.id=0:=((sR hp).1 hb).1.1.2;simp only[cg] at r1;refine⟨⟨aa,aa⟩,⟨aa,aa⟩,⟨aa,aa⟩⟩
 obtain⟨i1,i2⟩:=g.ids.1 l hl hx;have:=tj Let.aB L;have rH:l.gate=0/\l.aD=0:=by unfold dz at hb;have hk:l.kind=2:=beq_iff_eq.1 hx;simp[hk] at hb;exact⟨by have:=hb;omega,by have:=hb;omega⟩
 refine⟨⟨aa,aa⟩,⟨aa,aa⟩,⟨aa,aa⟩⟩
theorem am3{F:Nat}{L0:List Let}{n:Nat}{a:cN}{m:bd}(ha:vI F L0 n a)(hm:rU F a.c EE m):∃M,sk F a.c m=some M/\aI S 47 [dX F a.c,Gy m] (rX F M)/\cU (F:Int) M=0/\M≠[]/\M.length=a.c.length/\vu F L0 (a.w++[m])=some M:=by
 have aH:a.c≠[]:=by obtain⟨_,⟨v,hv,_⟩,_⟩:=hm;intro e;rw[e] at hv;exact absurd hv (qY v)
 obtain⟨G,e,g⟩:=xg ha.chk aH;have:F=G:=aa;subst this;have hk:m.k=3\/m.k=8:=by
  have:=hm.1
  simpa using this
 have yZ:k5 m.k:=by unfold k5;omega
 have pa:=Xf g yZ m.a m.b m.c m.l m.o m.s;obtain⟨_,_,M0,e0⟩:=hm;rcases Ra g yZ m.a m.b m.c m.l m.o m.s with ⟨e,he,h⟩|⟨M,h,hc,_,L,hL,hM⟩
 .rw[e0] at h;exact absurd h (Qe he)
 rw[h] at pa;have hlen:M.length=a.c.length:=by
  rw[hM,Z5];rcases hk with hk|hk
  .rw[hk] at hL;have hL:zN F a.c m.a.toNat m.b.toNat=some L:=hL;unfold zN at hL;split at hL
   .cases hL;rw[Bh,Bd,Bd,fW]
   cases hL
  rw[hk] at hL;have hL:xY F a.c m.a.toNat m.b.toNat m.c.toNat=some L:=hL;unfold xY at hL;split at hL
  .cases hL;rw[Bh,fW]
  cases hL
 have oU:=Xe aH h;refine⟨M,oU,pa,hc,?_,hlen,by rw[aeu m ha.rep];exact oU⟩;intro e;rw[e] at hlen;exact aH (E0.1 hlen.symm)
theorem szM(l:List bd):ie 7 (mP l)=true:=by simp[ie,bd.ps]
theorem ahT{w:List bd}(aH:w≠[])(hl:w.length<=1000000):aI S 52 [.one (.p (kK w))] (.one (aT gC 7 (mP w))):=by
 have hs:((mP w).all fun e=>e.length==7)=true:=szM w;have hr:(0+(mP w).length)*48<=room:=by unfold room;rw[cM];omega
 show aI S _ [.one (.p (.sl (mP w)))] _;obtain⟨e0,es,hq⟩:∃e0 es,mP w=e0::es:=by cases w with
  |nil=>exact absurd rfl aH
  |cons a t=>exact⟨_,_,rfl⟩
 rw[hq] at hs hr ⊢;refine aZ c52 ?_;have aH:e0::es≠[]:=af;have rH:aT gC 7 (e0::es)=.own gC 7 (e0::es):=if_neg aH;rw[rH];unfold room at hr;simp only[kU,dh] at hr;simp only[mB] at hs;simp only[go_sem,i52,fQ,ie];simp only[hs,hr,not_true_eq_false,if_true,if_false];simp only[go_sem];exact Jm wM rfl
section
variable {al:Al} {Q:dA} {ak:Env} {aj:aA} {os all:List aO} {tr:List bR} {d:Option Nat}
theorem aim{f:Nat}{vs:List V}{s ty z:Nat}{rd:List Nat}{es:List (List PV)}(au:∀i∈s::rd,al.ok i=true)(hp:aI S f vs (.one (aT ty z es)))(eS:S.lone s=false)(qf:rd=[]\/(RV.one (aT ty z es)).alone=true)
  (hK:∀(c:C) ao w,grown s ty z es (.one c) ao->(∀i,i≠s->ao i=aj i)->(w=[]\/w=[s])->RD S al all os Q (put ak d (.one c)) ao (tr++[⟨rd++w,w,[]⟩])):dP S al (.pc f vs rd s) d all os Q ak aj tr:=by
 obtain⟨h1,h2,h3⟩:=rM (aj:=aj) (s:=s) (ty:=ty) (z:=z) (es:=es);refine(KL (v:=.one (cH aj s (aT ty z es)).1) (u:=(cH aj s (aT ty z es)).2) hp ?_).2 ⟨CK fun i hi=>au i ?_,hK _ _ _ h1 h2 h3⟩
 .rw[eS,uH];unfold land;rw[if_pos qf];simp[jl,gG,ik,iT,qt,l7]
 rcases h3 with h|h<;>rw[h] at hi<;>simp at hi<;>simp[hi]
 rcases hi with hi|hi<;>simp[hi]
end
end Go.Abs
