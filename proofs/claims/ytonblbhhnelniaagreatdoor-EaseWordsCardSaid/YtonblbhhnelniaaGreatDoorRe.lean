/-
  The class search.
-/
import Derived.Test.YtonblbhhnelniaaGreatDoorRd
set_option linter.all false
set_option maxRecDepth 100000
set_option maxHeartbeats 16000000
namespace Go.Abs
theorem PN{n:Int}(h1: -1000000<=n)(h2:n<=1000000):aI S 80 [vi n] (.one (.p (.str (l9 n)))):=by
 refine⟨1,?_⟩;have e:Qy [vi n]=some (.one (.p (.str (l9 n)))):=by show(if -9223372036854775808<=n/\n<=9223372036854775807 then _ else _)=_;rw[if_pos ⟨aa,aa⟩]
 have h:S.prim 80 [vi n]=some (some (.one (.p (.str (l9 n))))):=by rw[<- e];rfl
 rw[gh];simp only[h]
theorem ZE:∀(k n:Nat) (acc:List UInt8),(y7 k n acc).length<=k+acc.length:=by
 intro k
 induction k with
 |zero=>intro n acc;simp[y7]
 |succ k ih=>
  intro n acc;unfold y7;cases Nat.blt n 10 with
  |true=>simp only[cond_true,cq];omega
  |false=>simp only[cond_false];have:=ih (Nat.div n 10) (UInt8.ofNat (Nat.add 48 (Nat.mod n 10))::acc);rw[cq] at this;omega
theorem Gz(n:Int):(l9 n).size<=40:=by
 unfold l9;show(List.toArray _).size<=40;rw[List.size_toArray];cases n with
 |ofNat u=>have:=ZE 20 u [];simp only[dN] at this;show(y7 20 u []).length<=40;omega
 |negSucc u=>have:=ZE 20 (Nat.succ u) [];simp only[dN] at this;show(45::y7 20 (Nat.succ u) []).length<=40;rw[cq];omega
theorem DD{a b:ByteArray}(h:a.size+b.size<=1000000000):HD .add a b=some (.str (a++b)):=by unfold HD;exact if_pos aa
theorem Bk(a b:ByteArray):(a++b).size=a.size+b.size:=ByteArray.size_append
def af7:ByteArray:=⟨#[46]⟩
def sU:ByteArray:=⟨#[117]⟩
def sO:ByteArray:=⟨#[111]⟩
def sPl:ByteArray:=⟨#[43]⟩
def sMi:ByteArray:=⟨#[45]⟩
def sQu:ByteArray:=⟨#[63]⟩
def EW:ByteArray:=⟨#[32]⟩
def sCo:ByteArray:=⟨#[58]⟩
def vB(l:Let):ByteArray:=
 if l.kind==1 then l9 l.gate++af7++l9 l.aB
 else if l.kind==2 then (l9 l.id++(if l.over then sO else sU))++(if l.sign==1 then sPl else if l.sign== -1 then sMi else sQu)
 else sQu
theorem ahq(l:Let):(vB l).size<=100:=by
 have h1:=Gz l.gate;have h2:=Gz l.aB;have h3:=Gz l.id;have c1:af7.size=1:=rfl;have c2:sU.size=1:=rfl;have c3:sO.size=1:=rfl;have c4:sPl.size=1:=rfl;have c5:sMi.size=1:=rfl;have c6:sQu.size=1:=rfl;unfold vB;split
 .rw[Bk,Bk];omega
 split
 .rw[Bk,Bk];split<;>split
  .omega
  .split<;>omega
  .omega
  split<;>omega
 omega
def smL(l:Let):Prop:=(-1000000<=l.gate/\l.gate<=1000000)/\(-1000000<=l.aB/\l.aB<=1000000)/\(-1000000<=l.id/\l.id<=1000000)
theorem auU{l:Let}(h:smL l):aI S 81 [PY l] (.one (.p (.str (vB l)))):=by
 obtain⟨⟨g1,g2⟩,⟨r1,r2⟩,⟨i1,i2⟩⟩:=h;have pg:=PN g1 g2;have pr:=PN r1 r2;have pi:=PN i1 i2;have lg:=Gz l.gate;have lr:=Gz l.aB;have li:=Gz l.id;have CM:S.shared 80=false:=ah;have b1:=DD (a:=l9 l.gate) (b:=⟨#[46]⟩) (by have:(ByteArray.mk #[46]).size=1:=rfl;omega);have b2:=DD (a:=l9 l.gate++⟨#[46]⟩) (b:=l9 l.aB) (by rw[Bk];have:(ByteArray.mk #[46]).size=1:=rfl;omega);have b3:=DD (a:=l9 l.id) (b:=⟨#[117]⟩) (by have:(ByteArray.mk #[117]).size=1:=rfl;omega);have b4:=DD (a:=l9 l.id) (b:=⟨#[111]⟩) (by have:(ByteArray.mk #[111]).size=1:=rfl;omega);have fin:∀(x:ByteArray) (c:ByteArray),(x=⟨#[117]⟩\/x=⟨#[111]⟩)->c.size=1->HD .add (l9 l.id++x) c=some (.str (l9 l.id++x++c)):=fun x c hx hc=>by
  refine DD ?_;rw[Bk];rcases hx with rfl|rfl
  .have:(ByteArray.mk #[117]).size=1:=rfl;omega
  have:(ByteArray.mk #[111]).size=1:=rfl;omega
 have u1:=fin ⟨#[117]⟩ ⟨#[43]⟩ (.inl rfl) rfl;have u2:=fin ⟨#[117]⟩ ⟨#[45]⟩ (.inl rfl) rfl;have u3:=fin ⟨#[117]⟩ ⟨#[63]⟩ (.inl rfl) rfl;have o1:=fin ⟨#[111]⟩ ⟨#[43]⟩ (.inr rfl) rfl;have o2:=fin ⟨#[111]⟩ ⟨#[45]⟩ (.inr rfl) rfl;have o3:=fin ⟨#[111]⟩ ⟨#[63]⟩ (.inr rfl) rfl;have hw:vB l=if l.kind==1 then l9 l.gate++⟨#[46]⟩++l9 l.aB
  else if l.kind==2 then (l9 l.id++(if l.over then ⟨#[111]⟩ else ⟨#[117]⟩))++(if l.sign==1 then ⟨#[43]⟩ else if l.sign== -1 then ⟨#[45]⟩ else ⟨#[63]⟩)
  else ⟨#[63]⟩:=rfl
 rw[hw];cases k1:(l.kind==1) with
 |true=>simp only[if_true];refine aY c81 ?_;simp only[go_sem,i81,k1,CM,ZA pg,ZA pr,b1,b2];first|done|exact⟨aH,rfl⟩|exact aH
 |false=>
  cases k2:(l.kind==2) with
  |true=>
   simp only[dx,if_true,if_false];cases ho:l.over with
   |true=>
    cases s1:(l.sign==1) with
    |true=>refine aY c81 ?_;simp only[go_sem,i81,k1,k2,ho,s1,CM,DW pi,b3,b4,o1];first|done|rfl
    |false=>
     cases s2:(l.sign== -1) with
     |true=>refine aY c81 ?_;simp only[go_sem,i81,k1,k2,ho,s1,s2,CM,DW pi,b3,b4,o2];first|done|rfl
     |false=>refine aY c81 ?_;simp only[go_sem,i81,k1,k2,ho,s1,s2,CM,DW pi,b3,b4,o3];first|done|rfl
   |false=>
    cases s1:(l.sign==1) with
    |true=>refine aY c81 ?_;simp only[go_sem,i81,k1,k2,ho,s1,CM,DW pi,b3,u1];first|done|rfl
    |false=>
     cases s2:(l.sign== -1) with
     |true=>refine aY c81 ?_;simp only[go_sem,i81,k1,k2,ho,s1,s2,CM,DW pi,b3,u2];first|done|rfl
     |false=>refine aY c81 ?_;simp only[go_sem,i81,k1,k2,ho,s1,s2,CM,DW pi,b3,u3];first|done|rfl
  |false=>simp only[dx,if_false];refine aY c81 ?_;simp only[go_sem,i81,k1,k2];first|done|rfl
def Bd(F:Int)(L:List Let):ByteArray:=L.foldl (fun s l=>s++(EW++vB l)) (l9 F++sCo)
theorem aq7(F:Int):∀(L:List Let) (s:ByteArray) (k:Nat),s.size<=41+101*k->(L.foldl (fun s l=>s++(EW++vB l)) s).size<=41+101*(k+L.length):=by
 intro L
 induction L with
 |nil=>intro s k h;exact h
 |cons l L ih=>
  intro s k h;have:=ih (s++(EW++vB l)) (k+1) (by have:=ahq l;rw[Bk,Bk];have c:EW.size=1:=rfl;omega)
  rw[cq];show(List.foldl (fun s l=>s++(EW++vB l)) (s++(EW++vB l)) L).size<=_;omega
def Dd(F:Int)(L:List Let)(k:Nat):ByteArray:=(L.take k).foldl (fun s l=>s++(EW++vB l)) (l9 F++sCo)
theorem aq1{F:Int}{L:List Let}{k:Nat}{x:Let}(h:L[k]?=some x):Dd F L (k+1)=Dd F L k++(EW++vB x):=by unfold Dd;rw[GZ h,BA];rfl
theorem afz{F:Int}{L:List Let}(hF: -1000000<=F/\F<=1000000)(hl:L.length<=1000000)(Ez:∀l∈L,smL l):aI S 50 [eY F L] (.one (.p (.str (Bd F L)))):=by
 have pF:=PN hF.1 hF.2;have lF:=Gz F;have CM:S.shared 80=false:=ah;have b1:=DD (a:=l9 F) (b:=⟨#[58]⟩) (by have:(ByteArray.mk #[58]).size=1:=rfl;omega);have tO:∀k,(Dd F L k).size<=41+101*k:=fun k=>by have:=aq7 F (L.take k) (l9 F++sCo) 0 (by rw[Bk];have:sCo.size=1:=rfl;omega);rw[eQ] at this;unfold Dd;omega
 have uz:Dd F L L.length=Bd F L:=by unfold Dd Bd;rw[jh]
 generalize Bd F L=res at uz;refine aY c50 ?_;simp only[go_sem,i50,CM,DW pF,b1];refine cV (fun k ak aj=>ak 11=.one (.p (cP L))/\ak 12=vi L.length/\ak 13=vi k/\ak 3=.one (.p (.str (Dd F L k)))) 0 L.length (bd _) ?_ ?_
 .simp only[go_sem];first|done|rfl|exact⟨rfl,rfl⟩
 rintro k ak aj hk ⟨dK,gA,qf,h3⟩
 by_cases aw:k<L.length
 .have aL:((k:Int)<(L.length:Int)):=aa;have hx:=A0 aw;have jy:=mL hx;have w1:=cK (n:=k) aa;have pw:=auU (Ez _ (aU hx));have lw:=ahq (lA L k);have hts:=aq1 (F:=F) hx;have jH:=tO k;generalize lA L k=x at*;have b2:=DD (a:=⟨#[32]⟩) (b:=vB x) (by have:(ByteArray.mk #[32]).size=1:=rfl;omega);generalize Dd F L k=s at*;have b3:=DD (a:=s) (b:=⟨#[32]⟩++vB x) (by rw[Bk];have:(ByteArray.mk #[32]).size=1:=rfl;omega)
  have pw':aI S 81 [.agg [.p (.int .i64 x.kind),.p (.int .i64 x.gate),.p (.int .i64 x.aB),.p (.int .i64 x.id),.p (.int .i64 x.sign),.p (.bool x.over)]] (.one (.p (.str (vB x)))):=pw;simp only[go_sem,i50_l1,dK,gA,qf,h3,aw,aL,jy,Let.ps,w1,s81,DW pw',b2,b3];first|(rw[hts];rfl)|exact⟨aw,by rw[hts];rfl⟩
 have:k=L.length:=aa;subst this;rw[uz] at h3;simp only[go_sem,i50_l1,i50_r2,gA,qf,h3,eK]
structure cQ where
 c:List Let
 n:List Let
 w:List a7
def cQ.ps(F:Nat)(m:cQ):List PV:=[.int .i64 F,cP m.c,.int .i64 F,cP m.n,nZ m.w]
abbrev mf(F:Nat)(l:List cQ):List (List PV):=l.map (cQ.ps F)
abbrev mbT:Nat:=82
theorem Wj(bQ:nK){F:Nat}{L:List Let}(w:List a7)(hl:L.length<=1000000)(h0:cN (F:Int) L=0):aI S 49 [eY F L,.one (.p (nZ w))] (.agg [.p (.int .i64 F),.p (cP L),.p (.int .i64 F),.p (cO (ke L)),.p (nZ w)]):=by have pn:=aeW bQ (f:=F) hl h0;generalize cO (ke L)=q at*;refine aY c49 ?_;simp only[go_sem,i49,s28,cX pn adS];first|done|rfl
abbrev acV(id:Nat):Prop:=je id=51
abbrev isAd(id:Nat):Prop:=je id=54
structure BE (s gq gi:Nat) (es:List (List PV)) (k:Nat) (aj:aq):Prop where
 q:aj 1856192192=(gq,some (.var [.hsl s gi 5 0 es.length,.p (.int .i64 k)]))
 b:aj s=(gi,some (.arr mbT 5 es))
def tkP(s gq gi:Nat)(es:List (List PV))(k:Nat)(aj:aq)(v:V)(ao:aq):Prop:=
 (k=es.length/\v=.tup [.agg [.p (.int .i64 0),.p .nils,.p (.int .i64 0),.p .nils,.p .nils],vb false]/\ ∀i,¬acV i->ao i=aj i)\/
 ∃e,es[k]?=some e/\v=.tup [.agg (e.map .p),vb true]/\BE s gq gi es (k+1) ao/\ ∀i,¬acV i->i≠1856192192->ao i=aj i
theorem len5{e:List PV}(h:e.length=5):∃x0 x1 x2 x3 x4,e=[x0,x1,x2,x3,x4]:=by
 match e,h with
 |[x0,x1,x2,x3,x4],_=>exact⟨_,_,_,_,_,rfl⟩
def adP(s gq:Nat)(es:List (List PV))(k:Nat)(e:List PV)(aj:aq)(v:V)(ao:aq):Prop:=v=.tup []/\(∃g,BE 3456064448 gq g (es++[e]) k ao)/\ ∀i,¬isAd i->i≠1856192192->i≠s->ao i=aj i
abbrev vl(s:Nat):Prop:=s=1856192064\/s=3456064448
theorem atS{al:Al}{s:Nat}(hs:vl s){aj:aq}{gq gi k:Nat}{es:List (List PV)}(oq:al.ok 1856192192=true)(os:al.ok s=true)(ot:al.ok 3264000000=true)(ot2:al.ok 3264128000=true)(h:BE s gq gi es k aj)(h5:∀e∈es,e.length=5)(hl:es.length<=1000000)(hk:k<=es.length):
  ∃v ao,iJ S 51 [.one (.bk 1856192192 gq 0)] al aj v ao/\tkP s gq gi es k aj v ao:=by
 rcases hs with rfl|rfl
 all_goals
  obtain⟨hq,hb⟩:=h;refine mr c51 (gY rfl) ?_;by_cases aw:k<es.length
  .have aF:(((k:Int))==(es.length:Int))=false:=by rw[beq_eq_false_iff_ne];omega
   obtain⟨e,he⟩:=aK aw;obtain⟨x0,x1,x2,x3,x4,rfl⟩:=len5 (h5 e (aU he));have w1:=cK (n:=k) aa;have w2:IntKind.i64.wrap (((k+1:Nat):Int)-1)=(k:Int):=by rw[vC aa aa];omega
   simp only[go_sem,i51,hq,hb,oq,os,ot,aF,aw,he,w1,w2];refine⟨aH,aH,.inr ⟨_,he,rfl,⟨?_,?_⟩,fun i h1 h2=>?_⟩⟩
   .simp only[aM,Nat.reduceEqDiff,if_true,if_false]
   .simp only[aM,Nat.reduceEqDiff,if_false];exact hb
   have h3:i≠3264000000:=fun e=>h1 (by rw[e];rfl);simp only[aM,if_neg h2,if_neg h3]
  have CB:k=es.length:=aa;subst CB;have heq:(((es.length:Int))==(es.length:Int))=true:=af;simp only[go_sem,i51,hq,oq,ot,ot2,heq];refine⟨aH,.inl ⟨rfl,rfl,fun i h1=>?_⟩⟩;have h3:i≠3264000000:=fun e=>h1 (by rw[e];rfl);have h4:i≠3264128000:=fun e=>h1 (by rw[e];rfl);simp only[aM,if_neg h3,if_neg h4]
theorem ah5{al:Al}{s:Nat}(hs:vl s){aj:aq}{gq gi k:Nat}{es:List (List PV)}{x0 x1 x2 x3 x4:PV}(oq:al.ok 1856192192=true)(os:al.ok s=true)(oa:al.ok 3456000000=true)(oa2:al.ok 3456064384=true)(oa3:al.ok 3456064448=true)(h:BE s gq gi es k aj)(aF:es≠[])(hl:es.length<=1000000):
  ∃v ao,iJ S 54 [.one (.bk 1856192192 gq 0),.agg [.p x0,.p x1,.p x2,.p x3,.p x4]] al aj v ao/\adP s gq es k [x0.norm,x1.norm,x2.norm,x3.norm,x4.norm] aj v ao:=by
 rcases hs with rfl|rfl
 all_goals
  obtain⟨hq,hb⟩:=h;refine mr c54 (gY rfl) ?_;simp only[go_sem,i54,hq,oq,oa,oa2];refine FI (site:=3456064448) (bytes:=88) (es:=es) (xs:=[[x0.norm,x1.norm,x2.norm,x3.norm,x4.norm]]) (rd:=[3456064384]) (fun i hi=>?_) (.inr ⟨aF,gi,rfl,?_⟩) ?_ (.inl rfl) (by simp only[cq,dN];omega) fun c' fG r1 u1 fH eW ky=>?_
  .simp only[cM,iO,or_false] at hi;rcases hi with rfl|rfl|rfl<;>assumption
  .simp only[aM,Nat.reduceEqDiff,if_false];exact hb
  .simp[ez,aM]
  have b0:=eW 1856192192 ae ae;simp only[aM,Nat.reduceEqDiff,if_false] at b0;have b1:=b0.trans hq;rcases fH with ⟨e,_⟩|⟨_,g2,e2,hC⟩
  .simp at e
  cases e2;simp only[go_sem,b1,oq];refine⟨?_,rfl,⟨g2,?_,?_⟩,fun i h1 h2 h3=>?_⟩
  .rcases ky with ⟨rfl,rfl⟩|⟨rfl,rfl⟩|⟨rfl,rfl⟩<;>kernel_rfl
  .simp only[aM,if_true]
  .simp only[aM,Nat.reduceEqDiff,if_false];exact hC
  have h4:i≠3456000000:=fun e=>h1 (by rw[e];rfl);have h5:i≠3456064384:=fun e=>h1 (by rw[e];rfl);have h6:i≠3456064448:=fun e=>h1 (by rw[e];rfl);simp only[aM,if_neg h2];rw[eW i h6 h3];simp only[aM,if_neg h4,if_neg h5]
abbrev prP(ps:List (Int×Int)):List (List PV):=ps.map fun p=>[.int .i64 p.1,.int .i64 p.2]
def og:List (Int×Int)->Int
 |[]=>0
 |p::r=>if p.1=p.2 then og r else if p.1<p.2 then -1 else 1
theorem aq0{ps:List (Int×Int)}{k:Nat}{p:Int×Int}(h:ps[k]?=some p):(prP ps)[k]?=some [.int .i64 p.1,.int .i64 p.2]:=by rw[fR,h];rfl
theorem Ox{α:Type}{A:List α}{k:Nat}{a:α}(h:A[k]?=some a):A.drop k=a::A.drop (k+1):=by obtain⟨h1,e⟩:=aS.1 h;rw[<- e,tg]
theorem ae8(ps:List (Int×Int))(hl:ps.length<=1000000):aI S 35 [.one (.p (.sl (prP ps)))] (ri (og ps)):=by
 generalize hr:og ps=r;refine aY c35 ?_;simp only[go_sem,i35];refine cV (fun k ak aj=>ak 5=.one (.p (.sl (prP ps)))/\ak 6=vi ps.length/\ak 7=vi k/\og (ps.drop k)=r) 0 ps.length (bd _) ?_ ?_
 .simp only[go_sem];first|exact hr|exact⟨rfl,hr⟩
 rintro k ak aj hk ⟨h5,h6,h7,hn⟩
 by_cases aw:k<ps.length
 .have aL:(k:Int)<(ps.length:Int):=aa;obtain⟨p,hp⟩:=aK aw;have iG:=aq0 hp;have w1:=cK (n:=k) aa;rw[Ox hp] at hn;obtain⟨x,y⟩:=p;unfold og at hn;dsimp only at hn iG;by_cases e:x=y
  .rw[if_pos e] at hn;subst e;simp only[go_sem,i35_l1,h5,h6,h7,aw,aL,iG,w1];first|exact hn|exact⟨rfl,hn⟩|exact⟨aw,hn⟩
  rw[if_neg e] at hn;have e':(x !=y)=true:=by simpa using e
  by_cases l:x<y
  .rw[if_pos l] at hn;subst hn;simp only[go_sem,i35_l1,h5,h6,h7,aL,iG,e',l];first|done|rfl
  rw[if_neg l] at hn;subst hn;simp only[go_sem,i35_l1,h5,h6,h7,aL,iG,e',l];first|done|rfl
 have:k=ps.length:=aa;subst this;rw[Hg] at hn;have hn:0=r:=hn;subst hn;simp only[go_sem,i35_l1,i35_r2,h6,h7,eK]
theorem aeY(b:Bool):aI S 37 [vb b] (ri (if b then 1 else 0)):=by
 cases b
 .refine aY c37 ?_;simp only[go_sem,i37];first|done|rfl
 refine aY c37 ?_;simp only[go_sem,i37];first|done|rfl
theorem ajK{q:Let->Bool}{L:List Let}{k:Nat}{x:Let}(h:L[k]?=some x):ay q (L.take (k+1))=ay q (L.take k)+(if q x then 1 else 0):=by rw[GZ h,BY];congr 1;show List.countP _ [x]=_;rw[List.countP_singleton]
theorem Zu(F:Int)(L:List Let)(hl:L.length<=1000000):aI S 36 [eY F L] (ri ((ay Let.aC L:Nat):Int)):=by
 have hc:∀k,ay Let.aC (L.take k)<=k:=fun k=>by have:=Kq (p:=Let.aC) (l:=L.take k);rw[eQ] at this;show List.countP _ _<=k;omega
 refine aY c36 ?_;simp only[go_sem,i36];refine cV (fun k ak aj=>ak 7=.one (.p (cP L))/\ak 8=vi L.length/\ak 9=vi k/\ak 3=vi ((ay Let.aC (L.take k):Nat):Int)) 0 L.length (bd _) ?_ ?_
 .simp only[go_sem];first|done|rfl|exact⟨rfl,rfl⟩
 rintro k ak aj hk ⟨h7,h8,h9,h3⟩
 by_cases aw:k<L.length
 .have aL:(k:Int)<(L.length:Int):=aa;have hx:=A0 aw;have jy:=mL hx;have w1:=cK (n:=k) aa;have hs:=ajK (q:=Let.aC) hx;have jH:=hc k;have w2:=cK (n:=ay Let.aC (L.take k)) aa;generalize lA L k=x at*;have hcx:x.aC=(x.kind==2):=rfl;rw[hcx] at hs;generalize ay Let.aC (L.take k)=d at*;cases h2:(x.kind==2) with
  |false=>rw[h2] at hs;simp only[go_sem,i36_l1,h7,h8,h9,h3,aw,aL,jy,Let.ps,h2,w1];first|(rw[hs];rfl)|exact⟨aw,by rw[hs];rfl⟩
  |true=>rw[h2] at hs;simp only[go_sem,i36_l1,h7,h8,h9,h3,aw,aL,jy,Let.ps,h2,w1,w2];first|(rw[hs];rfl)|exact⟨aw,by rw[hs];rfl⟩
 have:k=L.length:=aa;subst this;rw[jh] at h3;simp only[go_sem,i36_l1,i36_r2,h8,h9,h3,eK]
def zM(a b:Let):List (Int×Int):=[(a.kind,b.kind),(a.gate,b.gate),(a.aB,b.aB),(a.id,b.id),(if a.over then 1 else 0,if b.over then 1 else 0),(a.sign,b.sign)]
def DM:List Let->List Let->Int
 |a::A,b::B=>if og (zM a b)=0 then DM A B else og (zM a b)
 |_,_=>0
def zo(f:Int)(A:List Let)(g:Int)(B:List Let):List (Int×Int):=[(f,g),(((ay Let.aC A:Nat):Int),((ay Let.aC B:Nat):Int)),((A.length:Int),(B.length:Int))]
def yR(f:Int)(A:List Let)(g:Int)(B:List Let):Int:=if og (zo f A g B)=0 then DM A B else og (zo f A g B)
theorem Ws{ps:List (Int×Int)}(h:og ps=0):∀p∈ps,p.1=p.2:=by
 induction ps with
 |nil=>intro p hp;cases hp
 |cons q r ih=>
  unfold og at h;by_cases e:q.1=q.2
  .rw[if_pos e] at h;intro p hp;rcases cM.1 hp with rfl|hp
   .exact e
   exact ih h p hp
  rw[if_neg e] at h;split at h<;>cases h
theorem ae7{ps:List (Int×Int)}(h:∀p∈ps,p.1=p.2):og ps=0:=by
 induction ps with
 |nil=>rfl
 |cons q r ih=>unfold og;rw[if_pos (h q af)];exact ih fun p hp=>h p (by simp[hp])
theorem aox{a b:Let}(h:og (zM a b)=0):a=b:=by
 have h:=Ws h;unfold zM at h;simp only[cM,iO,or_false,forall_eq_or_imp,forall_eq] at h;obtain⟨h1,h2,h3,h4,h5,h6⟩:=h;cases a with|mk k g r i s o=>cases b with|mk k' g' r' i' s' o'=>
 dsimp only at*;have:o=o':=by revert h5;cases o<;>cases o'<;>simp
 subst h1 h2 h3 h4 h6 this;rfl
theorem ajG:∀ {A B:List Let},A.length=B.length->DM A B=0->A=B:=by
 intro A
 induction A with
 |nil=>intro B h _;cases B with
  |nil=>rfl
  |cons _ _=>cases h
 |cons a A ih=>
  intro B h h1;cases B with
  |nil=>cases h
  |cons b B=>
   unfold DM at h1;by_cases e:og (zM a b)=0
   .rw[if_pos e] at h1;rw[aox e,ih (by simpa using h) h1]
   rw[if_neg e] at h1;exact absurd h1 e
theorem ajH(A:List Let):DM A A=0:=by
 induction A with
 |nil=>rfl
 |cons a A ih=>unfold DM;rw[if_pos (ae7 (by unfold zM;simp))];exact ih
theorem Y0{f g:Int}{A B:List Let}:yR f A g B=0↔f=g/\A=B:=by
 unfold yR;constructor
 .intro h;by_cases e:og (zo f A g B)=0
  .rw[if_pos e] at h;have e:=Ws e;unfold zo at e;simp only[cM,iO,or_false,forall_eq_or_imp,forall_eq] at e;exact⟨e.1,ajG aa h⟩
  rw[if_neg e] at h;exact absurd h e
 rintro ⟨rfl,rfl⟩
 rw[if_pos (ae7 (by unfold zo;simp))];exact ajH A
theorem Zj(f:Int)(A:List Let)(g:Int)(B:List Let)(hA:A.length<=1000000)(hB:B.length<=1000000):aI S 20 [eY f A,eY g B] (ri (yR f A g B)):=by
 have c1:=Zu f A hA;have c2:=Zu g B hB;have po:=ae8 (zo f A g B) (by simp[zo]);have po':aI S 35 [.one (.p (.sl [[.int .i64 f,.int .i64 g],[.int .i64 ((ay Let.aC A:Nat):Int),.int .i64 ((ay Let.aC B:Nat):Int)],[.int .i64 A.length,.int .i64 B.length]]))] (ri (og (zo f A g B))):=po;clear po;generalize hr:yR f A g B=r;unfold yR at hr;by_cases e:og (zo f A g B)=0
 .rw[if_pos e] at hr;have hlen:A.length=B.length:=by
   have e:=Ws e;unfold zo at e;simp only[cM,iO,or_false,forall_eq_or_imp,forall_eq] at e;omega
  rw[e] at po';refine aY c20 ?_;simp only[go_sem,i20,s36,s35,rI c1,rI c2,rI po'];refine⟨aH,?_⟩;refine cV (fun k ak aj=>ak 2=.one (.bk 1280000000 1 0)/\ak 3=.one (.bk 1280000064 1 0)/\aj 1280000000=(1,some (.var [.p (.int .i64 f),.p (cP A)]))/\aj 1280000064=(1,some (.var [.p (.int .i64 g),.p (cP B)]))/\ak 33=.one (.p (cP A))/\ak 34=vi A.length/\ak 35=vi k/\DM (A.drop k) (B.drop k)=r) 0 A.length (bd _) ?_ ?_
  .simp only[go_sem];first|exact hr|exact⟨rfl,hr⟩|exact⟨rfl,rfl,hr⟩|trace_state
  rintro k ak aj hk ⟨h2,h3,b0,b1,Ea,F1,h35,hn⟩
  by_cases aw:k<A.length
  .have aL:(k:Int)<(A.length:Int):=aa;have amX:k<B.length:=aa;have hx:=A0 aw;have hy:=A0 amX;have jy:=mL hx;have MV:=mL hy;have w1:=cK (n:=k) aa;rw[Ox hx,Ox hy] at hn;unfold DM at hn;generalize lA A k=x at*;generalize lA B k=y at*;have n1:=aeY x.over;have n2:=aeY y.over;have pl:=ae8 (zM x y) (by simp[zM]);have Ba:aI S 35 [.one (.p (.sl [[.int .i64 x.kind,.int .i64 y.kind],[.int .i64 x.gate,.int .i64 y.gate],[.int .i64 x.aB,.int .i64 y.aB],[.int .i64 x.id,.int .i64 y.id],[.int .i64 (if x.over then 1 else 0),.int .i64 (if y.over then 1 else 0)],[.int .i64 x.sign,.int .i64 y.sign]]))] (ri (og (zM x y))):=pl;clear pl;by_cases e2:og (zM x y)=0
   .rw[if_pos e2] at hn;rw[e2] at Ba;simp only[go_sem,i20_l1,h2,h3,b0,b1,Ea,F1,h35,aw,aL,jy,MV,Let.ps,w1,s37,s35,rI n1,rI n2,rI Ba];first|exact⟨aH,hn⟩|exact⟨aH,aw,hn⟩|trace_state
   rw[if_neg e2] at hn;subst hn;have e2':(og (zM x y)!=0)=true:=by simpa using e2
   simp only[go_sem,i20_l1,h3,b1,Ea,F1,h35,aL,jy,MV,Let.ps,s37,s35,rI n1,rI n2,rI Ba,e2'];first|exact⟨aH,rfl⟩|exact aH|trace_state
  have:k=A.length:=aa;subst this;rw[Hg] at hn;have hn:0=r:=by rw[<- hn];cases B.drop A.length<;>rfl
  subst hn;simp only[go_sem,i20_l1,i20_r2,F1,h35,eK];first|done|rfl
 rw[if_neg e] at hr;subst hr;have e':(og (zo f A g B)!=0)=true:=by simpa using e
 refine aY c20 ?_;simp only[go_sem,i20,s36,s35,rI c1,rI c2,rI po',e'];first|exact⟨aH,rfl⟩|exact aH|trace_state
end Go.Abs
namespace Go.Abs
abbrev BW(F:Nat)(l:List (List Let)):List (List PV):=l.map fun L=>[.int .i64 F,cP L]
theorem YG{F:Nat}{l:List (List Let)}{k:Nat}{L:List Let}(h:l[k]?=some L):(BW F l)[k]?=some [.int .i64 F,cP L]:=by rw[fR,h];rfl
def uF(F:Nat)(l:List (List Let)):Nat->Int
 |0=> -1
 |k+1=>if uF F l k<0 then (k:Int) else if yR F (l.getD k []) F (l.getD (uF F l k).toNat [])<0 then (k:Int) else uF F l k
theorem Wg(F:Nat)(l:List (List Let)):∀k,(k=0/\uF F l k= -1)\/(0<=uF F l k/\uF F l k<k):=by
 intro k
 induction k with
 |zero=>exact .inl ⟨rfl,rfl⟩
 |succ k ih=>
  right;unfold uF;split
  .omega
  split
  .omega
  omega
theorem aoz(F:Nat)(l:List (List Let))(hl:l.length<=1000000)(hL:∀L∈l,L.length<=1000000):aI S 16 [.one (.p (.sl (BW F l)))] (ri (uF F l l.length)):=by
 refine aY c16 ?_;simp only[go_sem,i16];refine cV (fun k ak aj=>ak 0=.one (.p (.sl (BW F l)))/\ak 6=.one (.p (.sl (BW F l)))/\ak 7=vi l.length/\ak 8=vi k/\ak 3=vi (uF F l k)) 0 l.length (bd _) ?_ ?_
 .simp only[go_sem];first|done|rfl|exact⟨rfl,rfl⟩
 rintro k ak aj hk ⟨h0,h6,h7,h8,h3⟩
 by_cases aw:k<l.length
 .have aL:(k:Int)<(l.length:Int):=aa;obtain⟨X,hX⟩:=aK aw;have hXi:=YG (F:=F) hX;have w1:=cK (n:=k) aa;have hgX:l.getD k []=X:=by rw[de,hX];rfl
  have bQ:(BW F l).length=l.length:=cF ..;have hs:uF F l (k+1)=if uF F l k<0 then (k:Int) else if yR F X F (l.getD (uF F l k).toNat [])<0 then (k:Int) else uF F l k:=by rw[<- hgX];rfl
  rcases Wg F l k with ⟨IM,hb⟩|⟨mA,iu⟩
  .rw[hb] at hs h3;rw[if_pos ae] at hs;have Pq:((-1:Int)<0):=ae;simp only[go_sem,i16_l1,h0,h6,h7,h8,h3,aw,aL,hXi,w1,Pq];first|exact⟨aH,by rw[hs]⟩|exact⟨aH,aw,by rw[hs]⟩|trace_state
  obtain⟨b,hb⟩:=r8 mA;rw[hb] at hs h3 iu;have nM:b<l.length:=aa;obtain⟨Y,hY⟩:=aK nM;have hYi:=YG (F:=F) hY;have hgY:l.getD b []=Y:=by rw[de,hY];rfl
  rw[uK,hgY,if_neg aa] at hs;have Pq:¬((b:Int)<0):=aa;have pc:=Zj F X F Y (hL X (aU hX)) (hL Y (aU hY));have pc':aI S 20 [.agg [.p (.int .i64 F),.p (cP X)],.agg [.p (.int .i64 F),.p (cP Y)]] (ri (yR F X F Y)):=pc;clear pc;generalize yR F X F Y=o at*;by_cases ho:o<0
  .rw[if_pos ho] at hs;simp only[go_sem,i16_l1,h0,h6,h7,h8,h3,aw,aL,hXi,hYi,w1,Pq,s20,rI pc',ho];first|exact⟨aH,by rw[hs]⟩|exact⟨aH,aw,by rw[hs]⟩|trace_state
  rw[if_neg ho] at hs;simp only[go_sem,i16_l1,h0,h6,h7,h8,h3,aw,aL,hXi,hYi,w1,Pq,s20,rI pc',ho];first|exact⟨aH,by rw[hs]⟩|exact⟨aH,aw,by rw[hs]⟩|trace_state
 have:k=l.length:=aa;subst this;simp only[go_sem,i16_l1,i16_r2,h7,h8,h3,eK]
def rdQ(F:Nat)(L:List Let)(x:a7×Bool):Prop:=aI S 31 [eY F L] (JI x.1 x.2)/\(x.2=true->r5 F L zS x.1/\ ¬Jr F L)/\(x.2=false->Jr F L)
theorem arn{F:Nat}{L:List Let}(h:cN (F:Int) L=0):∃x,rdQ F L x:=by
 rcases afM h with ⟨m,h1,h3,h2⟩|⟨h1,h2⟩
 .exact⟨(m,true),h2,fun _=>⟨h1,h3⟩,fun h=>(by cases h)⟩
 exact⟨(Ro,false),h2,fun h=>(by cases h),fun _=>h1⟩
open Classical in
noncomputable def zR (F:Nat) (L:List Let):a7×Bool:=if h:∃x,rdQ F L x then Classical.choose h else (Ro,false)
theorem afG{F:Nat}{L:List Let}(h:cN (F:Int) L=0):rdQ F L (zR F L):=by have he:=arn h;unfold zR;rw[dif_pos he];exact Classical.choose_spec he
abbrev EM:List Int:=[3,8]
theorem ao4:∀k∈EM,wL k:=by intro k h;simp only[cM,iO,or_false] at h;unfold wL k5;omega
def lvQ(F:Nat)(L:List Let)(ms:List a7):Prop:=(ms.length<=8000/\ ∀m∈ms,r5 F L EM m)/\aI S 52 [eY F L,.one (.p (.sl (iP EM)))] (.tup [.one (aR fT 7 (mP ms)),.one (.p (.int .i64 0))])
open Classical in
noncomputable def qy (F:Nat) (L:List Let):List a7:=if h:∃ms,lvQ F L ms then Classical.choose h else []
theorem ao3{F:Nat}{L:List Let}(h:cN (F:Int) L=0):lvQ F L (qy F L):=by have he:∃ms,lvQ F L ms:=XW h EM ae ao4;unfold qy;rw[dif_pos he];exact Classical.choose_spec he
abbrev isSt(id:Nat):Prop:=je id=30
def stP(idv gv:Nat)(b:Bool)(aj:aq)(v:V)(ao:aq):Prop:=v=vb b/\ao idv=(gv,some (.var [.p (.bool b)]))/\ ∀i,¬isSt i->i≠idv->ao i=aj i
theorem atJ{al:Al}{aj:aq}{gv F:Nat}{L:List Let}{x2 x3 x4:PV}{b0:Bool}{m:a7}{b:Bool}(hp:aI S 31 [eY F L] (JI m b))(ov:al.ok 896512000=true)(oa:al.ok 1920000000=true)(oa2:al.ok 1920064128=true)(hv:aj 896512000=(gv,some (.var [.p (.bool b0)]))):
  ∃v ao,iJ S 30 [.agg [.p (.int .i64 F),.p (cP L),.p x2,.p x3,.p x4],.one (.bk 896512000 gv 0)] al aj v ao/\stP 896512000 gv b aj v ao:=by
 refine mr c30 (gY rfl) ?_;simp only[go_sem,i30,oa,s31];rw[Lk hp PQ];refine⟨by simp only[GJ,kE,jR],?_⟩;simp only[go_sem,hv,ov];refine⟨rfl,?_,fun i h1 h2=>?_⟩
 .simp only[aM,Nat.reduceEqDiff,if_true,if_false]
 have h3:i≠1920000000:=fun e=>h1 (by rw[e];rfl);simp only[aM,if_neg h2,if_neg h3]
end Go.Abs
namespace Go.Abs
section
variable {al:Al} {Q:dy} {ak:Env} {aj:aq} {os all:List bl} {tr:List bR} {d:Option Nat}
theorem alT{f:Nat}{vs:List V}{s ty z:Nat}{rd:List Nat}{es:List (List PV)}{x:PV}(au:∀i∈s::rd,al.ok i=true)(hp:aI S f vs (.tup [.one (aR ty z es),.one (.p x)]))(dZ:S.lone s=false)(hs:(es.all fun e=>e.all PV.scalar)=true)(hx:x.scalar=true)
  (hK:∀(c:C) ao,grown s ty z es (.one c) ao->(∀i,i≠s->ao i=aj i)->RN S al os Q (put ak d (.tup [.one c,.one (.p x)])) ao):gP S al (.pc f vs rd s) d os Q ak aj:=by
 obtain⟨h1,h2,h3⟩:=qw (aj:=aj) (s:=s) (ty:=ty) (z:=z) (es:=es);have iK:(RV.tup [.one (aR ty z es),.one (.p x)]).alone=true:=by have a:=nI (ty:=ty) (z:=z) hs;simp only[RV.alone,gk,gI,lk,oG,vD] at a;simp only[RV.alone,gk,kL,gI,jg,fp,jR,lk,oG,vD,a,Ds];exact hx
 refine(Lk (v:=.tup [.one (cD aj s (aR ty z es)).1,.one (.p x)]) (u:=(cD aj s (aR ty z es)).2) hp ?_).2 ⟨CX fun i hi=>au i ?_,hK _ _ h1 h2⟩
 .rw[dZ,sV];unfold land;rw[if_pos (.inr iK)];simp[jm,gk,kL,gI,iU,qB,pM,lN,cD]
 rcases h3 with h|h<;>rw[h] at hi<;>simp at hi<;>simp[hi]
 rcases hi with hi|hi<;>simp[hi]
theorem alY{f:Nat}{vs:List V}{s ty z:Nat}{rd:List Nat}{es:List (List PV)}{x y:PV}(au:∀i∈(s+1)::rd,al.ok i=true)(hp:aI S f vs (.tup [.agg [.p x,aR ty z es],.one (.p y)]))(dZ:S.lone s=false)(hx:x.scalar=true)(hy:y.scalar=true)(hs:(es.all fun e=>e.all PV.scalar)=true)
  (hK:∀(c:C) ao,grown (s+1) ty z es (.one c) ao->(∀i,i≠s+1->ao i=aj i)->RN S al os Q (put ak d (.tup [.agg [.p x,c],.one (.p y)])) ao):gP S al (.pc f vs rd s) d os Q ak aj:=by
 obtain⟨h1,h2,h3⟩:=qw (aj:=aj) (s:=s+1) (ty:=ty) (z:=z) (es:=es);have iK:(RV.tup [.agg [.p x,aR ty z es],.one (.p y)]).alone=true:=by have a:=nI (ty:=ty) (z:=z) hs;simp only[RV.alone,gk,gI,lk,oG,vD] at a;simp only[RV.alone,gk,kL,gI,jg,fp,jR,lk,oG,vD,a,Ds];show(x.scalar&&y.scalar)=true;rw[hx,hy];rfl
 refine(Lk (v:=.tup [.agg [.p x,(cD aj (s+1) (aR ty z es)).1],.one (.p y)]) (u:=(cD aj (s+1) (aR ty z es)).2) hp ?_).2 ⟨CX fun i hi=>au i ?_,hK _ _ h1 h2⟩
 .rw[dZ,sV];unfold land;rw[if_pos (.inr iK)];simp[jm,gk,kL,gI,iU,qB,pM,lN,cD]
 rcases h3 with h|h<;>rw[h] at hi<;>simp at hi<;>simp[hi]
 rcases hi with hi|hi<;>simp[hi]
theorem V5{s:Nat}{rd:List Nat}{x0 x1 x2 x3 x4:PV}{l:Bool}(hr:pY aj rd):∃u,land aj rd s ((RV.agg [.p x0,.p x1,.p x2,.p x3,.p x4]).ig l)=some (.agg [.p x0,.p x1,.p x2,.p x3,.p x4],u)/\(∀i,i∉rd->app u aj i=aj i)/\(∀i∈u.map (·.1),i∈rd)/\(u.map (·.1)=[]\/u.map (·.1)=rd):=by
 have hp:(RV.agg [.p x0,.p x1,.p x2,.p x3,.p x4]).ig l=.agg [.p x0,.p x1,.p x2,.p x3,.p x4]:=by cases l<;>rfl
 rw[hp];unfold land;by_cases h:rd=[]\/(RV.agg [.p x0,.p x1,.p x2,.p x3,.p x4]).alone=true
 .rw[if_pos h];exact⟨[],rfl,fun _ _=>rfl,(fun i hi=>by cases hi),.inl rfl⟩
 rw[if_neg h];obtain⟨fu,h1,h2⟩:=UZ rd rd hr;have:qd aj rd=some fu:=h1;rw[this];refine⟨fu,?_,fun i hi=>Fx _ _ _ (by rw[h2];exact hi),fun i hi=>by rw[h2] at hi;exact hi,.inr h2⟩;show some (_,fu++[])=_;rw[jR];rfl
end
abbrev CR(l:List ByteArray):List (PV×List PV):=l.map fun s=>(PV.str s,[PV.bool true])
theorem aln(q:ByteArray):∀(l:List ByteArray) (i:Nat),(l.any (fun s=>q==s)=true/\ ∃j,oU (.str q) (CR l) i=some (some (j,[.bool true])))\/(l.any (fun s=>q==s)=false/\oU (.str q) (CR l) i=some none):=by
 intro l
 induction l with
 |nil=>intro i;exact .inr ⟨rfl,rfl⟩
 |cons a l ih=>
  intro i;have e:oU (.str q) (CR (a::l)) i=match some (q==a) with|some true=>some (some (i,[.bool true]))|some false=>oU (.str q) (CR l) (i+1)|none=>none:=rfl
  rw[e,List.any_cons];cases h:(q==a) with
  |true=>exact .inl ⟨rfl,i,rfl⟩
  |false=>exact ih (i+1)
def cQ.key(F:Nat)(m:cQ):ByteArray:=Bd F m.n
noncomputable def pX (F limit:Nat) (a:cQ) (st:List cQ) (m:a7):Nat×List cQ:=
 if (st.map (cQ.key F)).any (fun s=>Bd F (gT ((oL F a.c m).getD []))==s) then (0,st)
 else if st.length=limit then (1,st)
 else (if (zR F ((oL F a.c m).getD [])).2 then 2 else 0,st++[⟨(oL F a.c m).getD [],gT ((oL F a.c m).getD []),a.w++[m]⟩])
noncomputable def kr (F limit:Nat) (a:cQ):List cQ->List a7->Nat×List cQ
 |st,[]=>(0,st)
 |st,m::r=>if (pX F limit a st m).1=0 then kr F limit a (pX F limit a st m).2 r else pX F limit a st m
noncomputable def Ad (F limit:Nat):Nat->Nat->List cQ->Nat×List cQ
 |0,_,st=>(0,st)
 |f+1,i,st=>match st[i]? with
  |none=>(0,st)
  |some a=>if (kr F limit a st (qy F a.c)).1=0 then Ad F limit f (i+1) (kr F limit a st (qy F a.c)).2 else kr F limit a st (qy F a.c)
structure vL (F:Nat) (L0:List Let) (n:Nat) (m:cQ):Prop where
 chk:cN (F:Int) m.c=0
 nor:m.n=gT m.c
 rep:uc F L0 m.w=some m.c
 kind:∀x∈m.w,x.k∈EM
 len:m.w.length<=n
 same:m.c.length=L0.length
structure xg (al:Al):Prop where
 c:∀id,je id=29->al.ok id=true
 t:al.fs.contains 51=true
 a:al.fs.contains 54=true
 s:al.fs.contains 30=true
 v:al.ok 896512000=true
theorem xg.fn{al:Al}{f id:Nat}(h:al.fs.contains f=true)(e:je id=f):al.ok id=true:=by unfold Al.ok;rw[e,h];simp
theorem xg.ff{al:Al}(ac:xg al):al.ok 1856000000=true/\al.ok 1856064128=true/\al.ok 1856128000=true/\al.ok 1856192064=true/\al.ok 1856192192=true/\al.ok 1856256256=true/\al.ok 1856448128=true/\al.ok 1856448192=true/\al.ok 1856640128=true/\al.ok 1856704193=true/\al.ok 1856704448=true/\al.ok 1856768192=true/\al.ok 1856768320=true/\al.ok 1856768384=true/\al.ok 1856768512=true:=by
 repeat' apply And.intro
 all_goals exact ac.c _ rfl
abbrev JU(gv:Nat):V:=.one (.hfn 30 [] [.bk 896512000 gv 0])
def mj(i:Nat):Prop:=je i=29\/je i=51\/je i=54\/je i=30
theorem vl.ok{al:Al}{s:Nat}(hq:vl s)(ac:xg al):al.ok s=true:=by
 rcases hq with rfl|rfl
 .exact ac.c _ rfl
 exact xg.fn ac.a rfl
theorem vl.own{s:Nat}(hq:vl s):mj s:=by
 rcases hq with rfl|rfl
 .exact .inl rfl
 exact .inr (.inr (.inl rfl))
theorem vl.no{s i:Nat}(hq:vl s)(h:¬mj i):i≠s:=fun e=>h (e▸hq.own)
theorem vl.ne{s:Nat}(hq:vl s):¬s=1856000000/\ ¬s=1856064128/\ ¬s=1856128000/\ ¬s=1856192192/\ ¬s=1856256256/\ ¬s=1856448128/\ ¬s=1856448192/\ ¬s=1856640128/\ ¬s=1856704193/\ ¬s=1856704448/\ ¬s=1856768192/\ ¬s=1856768320/\ ¬s=1856768384/\ ¬s=1856768512/\ ¬s=896512000:=by rcases hq with rfl|rfl<;>decide
structure vN (F limit:Nat) (L0:List Let) (gv:Nat) (r0:List Nat) (b0:aq) (gq gM:Nat) (st:List cQ) (k:Nat) (ak:Env) (aj:aq):Prop where
 e1:ak 1=vi limit
 e2:ak 2=JU gv
 e9:ak 9=.one (.jV 1856128000 gM)
 qJ:ak 10=.one (.bk 1856192192 gq 0)
 bM:aj 1856128000=(gM,some (.map false (CR (st.map (cQ.key F)))))
 que:∃s,vl s/\ ∃gi,BE s gq gi (mf F st) k aj
 bv:aj 896512000=(gv,some (.var [.p (.bool false)]))
 ne:st≠[]
 lim:st.length<=limit
 all:∀m∈st,vL F L0 st.length m
 fr:∀i,¬mj i->i≠896512000->i∉r0->aj i=b0 i
theorem Nc(F:Nat)(l:List cQ):(mf F l).length=l.length:=cF ..
theorem apj(F:Nat)(l:List cQ):∀e∈mf F l,e.length=5:=fun e he=>by obtain⟨m,_,rfl⟩:=dq.1 he;rfl
theorem rh{i:Nat}{f o:Nat}(h:¬mj i)(e:je o=f)(hf:f=29\/f=51\/f=54\/f=30):i≠o:=fun h2=>h (by rw[h2];unfold mj;rw[e];exact hf)
structure EdC (F:Nat) (L0:List Let) (gv:Nat) (r0:List Nat) (b0:aq) (r:Nat×List cQ) (gq:Nat) (ak:Env) (aj:aq):Prop where
 qJ:ak 10=.one (.bk 1856192192 gq 0)
 que:∃k s,vl s/\ ∃gi,BE s gq gi (mf F r.2) k aj
 bv:aj 896512000=(gv,some (.var [.p (.bool (r.1==2))]))
 ne:r.2≠[]
 all:∀m∈r.2,vL F L0 r.2.length m
 fr:∀i,¬mj i->i≠896512000->i∉r0->aj i=b0 i
theorem vL.mono{F:Nat}{L0:List Let}{n n':Nat}{m:cQ}(h:vL F L0 n m)(hn:n<=n'):vL F L0 n' m:=⟨h.chk,h.nor,h.rep,h.kind,ll h.len hn,h.same⟩
theorem agq{F:Nat}{L:List Let}(h:cN (F:Int) L=0):∀l∈L,smL l:=by
 intro l hl;have aF:L≠[]:=List.ne_nil_of_mem hl;obtain⟨G,e,g⟩:=vY h aF;have hc:=g.len;have hF:=g.fing;have hb:=g.bad l hl;rcases vQ hb with hp|hx
 .obtain⟨g0,g1,r0,r1⟩:=g.ok.ax.eU l hl hp;have:=xx (mU l.gate.toNat) L;have hid:l.id=0:=((r4 hp).1 hb).1.1.2;simp only[cg] at r1;refine⟨⟨aa,aa⟩,⟨aa,aa⟩,⟨aa,aa⟩⟩
 obtain⟨i1,i2⟩:=g.ids.1 l hl hx;have:=xx Let.aC L;have qj:l.gate=0/\l.aB=0:=by unfold dj at hb;have hk:l.kind=2:=beq_iff_eq.1 hx;simp[hk] at hb;exact⟨by have:=hb;omega,by have:=hb;omega⟩
 refine⟨⟨aa,aa⟩,⟨aa,aa⟩,⟨aa,aa⟩⟩
theorem ao5{F:Nat}{L0:List Let}{n:Nat}{a:cQ}{m:a7}(ha:vL F L0 n a)(hm:r5 F a.c EM m):∃M,oL F a.c m=some M/\aI S 46 [eY F a.c,GG m] (pN F M)/\cN (F:Int) M=0/\M≠[]/\M.length=a.c.length/\uc F L0 (a.w++[m])=some M:=by
 have aF:a.c≠[]:=by obtain⟨_,⟨v,hv,_⟩,_⟩:=hm;intro e;rw[e] at hv;exact absurd hv (qE v)
 obtain⟨G,e,g⟩:=vY ha.chk aF;have:F=G:=aa;subst this;have hk:m.k=3\/m.k=8:=by
  have:=hm.1
  simpa using this
 have zB:k5 m.k:=by unfold k5;omega
 have pa:=Ye g zB m.a m.b m.c m.l m.o m.s;obtain⟨_,_,M0,e0⟩:=hm;rcases Oe g zB m.a m.b m.c m.l m.o m.s with ⟨e,he,h⟩|⟨M,h,hc,_,L,hL,hM⟩
 .rw[e0] at h;exact absurd h (QI he)
 rw[h] at pa;have hlen:M.length=a.c.length:=by
  rw[hM,abc];rcases hk with hk|hk
  .rw[hk] at hL;have hL:xn F a.c m.a.toNat m.b.toNat=some L:=hL;unfold xn at hL;split at hL
   .cases hL;rw[Bo,yy,yy,fi]
   cases hL
  rw[hk] at hL;have hL:vz F a.c m.a.toNat m.b.toNat m.c.toNat=some L:=hL;unfold vz at hL;split at hL
  .cases hL;rw[Bo,fi]
  cases hL
 have oY:=Yd aF h;refine⟨M,oY,pa,hc,?_,hlen,by rw[afQ m ha.rep];exact oY⟩;intro e;rw[e] at hlen;exact aF (uL.1 hlen.symm)
theorem szM(l:List a7):gC 7 (mP l)=true:=by simp[gC,a7.ps]
theorem ajC{w:List a7}(aF:w≠[])(hl:w.length<=1000000):aI S 53 [.one (.p (nZ w))] (.one (aR fT 7 (mP w))):=by
 have hs:((mP w).all fun e=>e.length==7)=true:=szM w;have hr:(0+(mP w).length)*48<=room:=by unfold room;rw[cF];omega
 show aI S _ [.one (.p (.sl (mP w)))] _;obtain⟨e0,es,hq⟩:∃e0 es,mP w=e0::es:=by cases w with
  |nil=>exact absurd rfl aF
  |cons a t=>exact⟨_,_,rfl⟩
 rw[hq] at hs hr ⊢;refine aY c53 ?_;have aF:e0::es≠[]:=af;have qj:aR fT 7 (e0::es)=.own fT 7 (e0::es):=if_neg aF;rw[qj];unfold room at hr;simp only[iD,cq] at hr;simp only[lk] at hs;simp only[go_sem,i53,fj,gC];simp only[hs,hr,not_true_eq_false,if_true,if_false];simp only[go_sem];exact Nl sZ rfl
section
variable {al:Al} {Q:dy} {ak:Env} {aj:aq} {os all:List bl} {tr:List bR} {d:Option Nat}
theorem akd{f:Nat}{vs:List V}{s ty z:Nat}{rd:List Nat}{es:List (List PV)}(au:∀i∈s::rd,al.ok i=true)(hp:aI S f vs (.one (aR ty z es)))(dZ:S.lone s=false)(qq:rd=[]\/(RV.one (aR ty z es)).alone=true)
  (hK:∀(c:C) ao w,grown s ty z es (.one c) ao->(∀i,i≠s->ao i=aj i)->(w=[]\/w=[s])->RD S al all os Q (put ak d (.one c)) ao (tr++[⟨rd++w,w,[]⟩])):dP S al (.pc f vs rd s) d all os Q ak aj tr:=by
 obtain⟨h1,h2,h3⟩:=qw (aj:=aj) (s:=s) (ty:=ty) (z:=z) (es:=es);refine(KU (v:=.one (cD aj s (aR ty z es)).1) (u:=(cD aj s (aR ty z es)).2) hp ?_).2 ⟨CX fun i hi=>au i ?_,hK _ _ _ h1 h2 h3⟩
 .rw[dZ,sV];unfold land;rw[if_pos qq];simp[jm,gk,gI,iU,qB,lN]
 rcases h3 with h|h<;>rw[h] at hi<;>simp at hi<;>simp[hi]
 rcases hi with hi|hi<;>simp[hi]
end
end Go.Abs
