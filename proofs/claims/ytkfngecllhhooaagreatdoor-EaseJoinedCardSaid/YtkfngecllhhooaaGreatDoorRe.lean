/- A part. -/
import Derived.Test.YtkfngecllhhooaaGreatDoorRd
set_option linter.all false
set_option maxRecDepth 100000
set_option maxHeartbeats 16000000
namespace Go.Abs
theorem DO{n:Int}(h1: -1000000<=n)(h2:n<=1000000):aP S 61 [vi n] (.one (.p (.str (fS n)))):=by
 refine⟨1,?_⟩;have e:tZ [vi n]=some (.one (.p (.str (fS n)))):=by show(if -9223372036854775808<=n/\n<=9223372036854775807 then _ else _)=_;rw[if_pos ⟨by omega,by omega⟩]
 have h:S.prim 61 [vi n]=some (some (.one (.p (.str (fS n))))):=by rw[<- e];rfl
 rw[de];simp only[h]
theorem GE:∀(k n:Nat) (acc:List UInt8),(zK k n acc).length<=k+acc.length:=by
 intro k
 induction k with
 |zero=>intro n acc;simp[zK]
 |succ k ih=>
  intro n acc;unfold zK;cases Nat.blt n 10 with
  |true=>simp only[cond_true,aaz];omega
  |false=>simp only[cond_false];have:=ih (Nat.div n 10) (UInt8.ofNat (Nat.add 48 (Nat.mod n 10))::acc);rw[aaz] at this;omega
theorem lR(n:Int):(fS n).size<=40:=by
 unfold fS;show(List.toArray _).size<=40;rw[List.size_toArray];cases n with
 |ofNat u=>have:=GE 20 u [];simp only[aaL] at this;show(zK 20 u []).length<=40;omega
 |negSucc u=>have:=GE 20 (Nat.succ u) [];simp only[aaL] at this;show(45::zK 20 (Nat.succ u) []).length<=40;rw[aaz];omega
theorem mH{a b:ByteArray}(h:a.size+b.size<=1000000000):vK .add a b=some (.str (a++b)):=by unfold vK;exact if_pos (by omega)
theorem iA(a b:ByteArray):(a++b).size=a.size+b.size:=ByteArray.size_append
def Yt:ByteArray:=⟨#[46]⟩
def sU:ByteArray:=⟨#[117]⟩
def sO:ByteArray:=⟨#[111]⟩
def sPl:ByteArray:=⟨#[43]⟩
def sMi:ByteArray:=⟨#[45]⟩
def sQu:ByteArray:=⟨#[63]⟩
def Vk:ByteArray:=⟨#[32]⟩
def sCo:ByteArray:=⟨#[58]⟩
def mg(l:Let):ByteArray:=
 if l.kind==1 then fS l.gate++Yt++fS l.aag
 else if l.kind==2 then (fS l.id++(if l.over then sO else sU))++(if l.sign==1 then sPl else if l.sign== -1 then sMi else sQu)
 else sQu
theorem EH(l:Let):(mg l).size<=100:=by
 have h1:=lR l.gate;have h2:=lR l.aag;have h3:=lR l.id;have c1:Yt.size=1:=rfl;have c2:sU.size=1:=rfl;have c3:sO.size=1:=rfl;have c4:sPl.size=1:=rfl;have c5:sMi.size=1:=rfl;have c6:sQu.size=1:=rfl;unfold mg;split
 .rw[iA,iA];omega
 split
 .rw[iA,iA];split<;>split
  .omega
  .split<;>omega
  .omega
  split<;>omega
 omega
def smL(l:Let):Prop:=(-1000000<=l.gate/\l.gate<=1000000)/\(-1000000<=l.aag/\l.aag<=1000000)/\(-1000000<=l.id/\l.id<=1000000)
theorem Wl{l:Let}(h:smL l):aP S 62 [TW l] (.one (.p (.str (mg l)))):=by
 obtain⟨⟨g1,g2⟩,⟨r1,r2⟩,⟨i1,i2⟩⟩:=h;have pg:=DO g1 g2;have pr:=DO r1 r2;have pi:=DO i1 i2;have lg:=lR l.gate;have lr:=lR l.aag;have li:=lR l.id;have hsI:S.shared 61=false:=by kernel_rfl
 have b1:=mH (a:=fS l.gate) (b:=⟨#[46]⟩) (by have:(ByteArray.mk #[46]).size=1:=rfl;omega);have b2:=mH (a:=fS l.gate++⟨#[46]⟩) (b:=fS l.aag) (by rw[iA];have:(ByteArray.mk #[46]).size=1:=rfl;omega);have b3:=mH (a:=fS l.id) (b:=⟨#[117]⟩) (by have:(ByteArray.mk #[117]).size=1:=rfl;omega);have b4:=mH (a:=fS l.id) (b:=⟨#[111]⟩) (by have:(ByteArray.mk #[111]).size=1:=rfl;omega);have fin:∀(x:ByteArray) (c:ByteArray),(x=⟨#[117]⟩\/x=⟨#[111]⟩)->c.size=1->vK .add (fS l.id++x) c=some (.str (fS l.id++x++c)):=fun x c hx hc=>by
  refine mH ?_;rw[iA];rcases hx with rfl|rfl
  .have:(ByteArray.mk #[117]).size=1:=rfl;omega
  have:(ByteArray.mk #[111]).size=1:=rfl;omega
 have u1:=fin ⟨#[117]⟩ ⟨#[43]⟩ (.inl rfl) rfl;have u2:=fin ⟨#[117]⟩ ⟨#[45]⟩ (.inl rfl) rfl;have u3:=fin ⟨#[117]⟩ ⟨#[63]⟩ (.inl rfl) rfl;have o1:=fin ⟨#[111]⟩ ⟨#[43]⟩ (.inr rfl) rfl;have o2:=fin ⟨#[111]⟩ ⟨#[45]⟩ (.inr rfl) rfl;have o3:=fin ⟨#[111]⟩ ⟨#[63]⟩ (.inr rfl) rfl;have hw:mg l=if l.kind==1 then fS l.gate++⟨#[46]⟩++fS l.aag
  else if l.kind==2 then (fS l.id++(if l.over then ⟨#[111]⟩ else ⟨#[117]⟩))++(if l.sign==1 then ⟨#[43]⟩ else if l.sign== -1 then ⟨#[45]⟩ else ⟨#[63]⟩)
  else ⟨#[63]⟩:=rfl
 rw[hw];cases k1:(l.kind==1) with
 |true=>simp only[if_true];refine aJ c62 ?_;simp only[go_sem,i62,k1,hsI,QT pg,QT pr,b1,b2];first|done|exact⟨aK,rfl⟩|exact aK
 |false=>
  cases k2:(l.kind==2) with
  |true=>
   simp only[aaE,if_true,if_false];cases ho:l.over with
   |true=>
    cases s1:(l.sign==1) with
    |true=>refine aJ c62 ?_;simp only[go_sem,i62,k1,k2,ho,s1,hsI,qP pi,b3,b4,o1];first|done|rfl
    |false=>
     cases s2:(l.sign== -1) with
     |true=>refine aJ c62 ?_;simp only[go_sem,i62,k1,k2,ho,s1,s2,hsI,qP pi,b3,b4,o2];first|done|rfl
     |false=>refine aJ c62 ?_;simp only[go_sem,i62,k1,k2,ho,s1,s2,hsI,qP pi,b3,b4,o3];first|done|rfl
   |false=>
    cases s1:(l.sign==1) with
    |true=>refine aJ c62 ?_;simp only[go_sem,i62,k1,k2,ho,s1,hsI,qP pi,b3,u1];first|done|rfl
    |false=>
     cases s2:(l.sign== -1) with
     |true=>refine aJ c62 ?_;simp only[go_sem,i62,k1,k2,ho,s1,s2,hsI,qP pi,b3,u2];first|done|rfl
     |false=>refine aJ c62 ?_;simp only[go_sem,i62,k1,k2,ho,s1,s2,hsI,qP pi,b3,u3];first|done|rfl
  |false=>simp only[aaE,if_false];refine aJ c62 ?_;simp only[go_sem,i62,k1,k2];first|done|rfl
def mR(F:Int)(L:List Let):ByteArray:=L.foldl (fun s l=>s++(Vk++mg l)) (fS F++sCo)
theorem L5(F:Int):∀(L:List Let) (s:ByteArray) (k:Nat),s.size<=41+101*k->(L.foldl (fun s l=>s++(Vk++mg l)) s).size<=41+101*(k+L.length):=by
 intro L
 induction L with
 |nil=>intro s k h;exact h
 |cons l L ih=>
  intro s k h;have:=ih (s++(Vk++mg l)) (k+1) (by have:=EH l;rw[iA,iA];have c:Vk.size=1:=rfl;omega)
  rw[aaz];show(List.foldl (fun s l=>s++(Vk++mg l)) (s++(Vk++mg l)) L).size<=_;omega
def Tn(F:Int)(L:List Let)(k:Nat):ByteArray:=(L.take k).foldl (fun s l=>s++(Vk++mg l)) (fS F++sCo)
theorem OU{F:Int}{L:List Let}{k:Nat}{x:Let}(h:L[k]?=some x):Tn F L (k+1)=Tn F L k++(Vk++mg x):=by unfold Tn;rw[jA h,adp];rfl
theorem JS{F:Int}{L:List Let}(hF: -1000000<=F/\F<=1000000)(hl:L.length<=1000000)(hsm:∀l∈L,smL l):aP S 42 [bj F L] (.one (.p (.str (mR F L)))):=by
 have pF:=DO hF.1 hF.2;have lF:=lR F;have hsI:S.shared 61=false:=by kernel_rfl
 have b1:=mH (a:=fS F) (b:=⟨#[58]⟩) (by have:(ByteArray.mk #[58]).size=1:=rfl;omega);have hpr:∀k,(Tn F L k).size<=41+101*k:=fun k=>by have:=L5 F (L.take k) (fS F++sCo) 0 (by rw[iA];have:sCo.size=1:=rfl;omega);rw[aa2] at this;unfold Tn;omega
 have hr0:Tn F L L.length=mR F L:=by unfold Tn mR;rw[abw]
 generalize mR F L=res at hr0;refine aJ c42 ?_;simp only[go_sem,i42,hsI,qP pF,b1];refine aV (fun k env blk=>env 11=.one (.p (eB L))/\env 12=vi L.length/\env 13=vi k/\env 3=.one (.p (.str (Tn F L k)))) 0 L.length (aan _) ?_ ?_
 .simp only[go_sem];first|done|rfl|exact⟨rfl,rfl⟩
 rintro k env blk hk ⟨h11,h12,h13,h3⟩
 by_cases hlt:k<L.length
 .have aak:((k:Int)<(L.length:Int)):=by omega
  have hx:=mv hlt;have hxi:=fQ hx;have w1:=ak (n:=k) (by omega);have pw:=Wl (hsm _ (aae hx));have lw:=EH (lA L k);have hts:=OU (F:=F) hx;have hk2:=hpr k;generalize lA L k=x at*;have b2:=mH (a:=⟨#[32]⟩) (b:=mg x) (by have:(ByteArray.mk #[32]).size=1:=rfl;omega);generalize Tn F L k=s at*;have b3:=mH (a:=s) (b:=⟨#[32]⟩++mg x) (by rw[iA];have:(ByteArray.mk #[32]).size=1:=rfl;omega);have pw':aP S 62 [.agg [.p (.int .i64 x.kind),.p (.int .i64 x.gate),.p (.int .i64 x.aag),.p (.int .i64 x.id),.p (.int .i64 x.sign),.p (.bool x.over)]] (.one (.p (.str (mg x)))):=pw;simp only[go_sem,i42_l1,h11,h12,h13,h3,hlt,aak,hxi,Let.ps,w1,s62,qP pw',b2,b3];first|(rw[hts];rfl)|exact⟨hlt,by rw[hts];rfl⟩
 have:k=L.length:=by omega
 subst this;rw[hr0] at h3;simp only[go_sem,i42_l1,i42_r2,h12,h13,h3,aS]
structure eX where
 c:List Let
 n:List Let
 w:List bU
def eX.ps(F:Nat)(m:eX):List PV:=[.int .i64 F,eB m.c,.int .i64 F,eB m.n,fN m.w]
abbrev kE(F:Nat)(l:List eX):List (List PV):=l.map (eX.ps F)
abbrev YK:Nat:=72
theorem Ij(hcl:dw){F:Nat}{L:List Let}(w:List bU)(hl:L.length<=1000000)(h0:ay (F:Int) L=0):aP S 41 [bj F L,.one (.p (fN w))] (.agg [.p (.int .i64 F),.p (eB L),.p (.int .i64 F),.p (cO (fZ L)),.p (fN w)]):=by have pn:=yC hcl (f:=F) hl h0;generalize cO (fZ L)=q at*;refine aJ c41 ?_;simp only[go_sem,i41,s23,aq pn jO];first|done|rfl
abbrev Zr(id:Nat):Prop:=cH id=43
abbrev isAd(id:Nat):Prop:=cH id=46
structure Nw (s gq gi:Nat) (es:List (List PV)) (k:Nat) (blk:aw):Prop where
 q:blk 1536192192=(gq,some (.var [.hsl s gi 5 0 es.length,.p (.int .i64 k)]))
 b:blk s=(gi,some (.arr YK 5 es))
def tkP(s gq gi:Nat)(es:List (List PV))(k:Nat)(blk:aw)(v:V)(aaf:aw):Prop:=
 (k=es.length/\v=.tup [.agg [.p (.int .i64 0),.p .nils,.p (.int .i64 0),.p .nils,.p .nils],vb false]/\ ∀i,¬Zr i->aaf i=blk i)\/
 ∃e,es[k]?=some e/\v=.tup [.agg (e.map .p),vb true]/\Nw s gq gi es (k+1) aaf/\ ∀i,¬Zr i->i≠1536192192->aaf i=blk i
theorem YN{e:List PV}(h:e.length=5):∃x0 x1 x2 x3 x4,e=[x0,x1,x2,x3,x4]:=by
 match e,h with
 |[x0,x1,x2,x3,x4],_=>exact⟨_,_,_,_,_,rfl⟩
def adP(s gq:Nat)(es:List (List PV))(k:Nat)(e:List PV)(blk:aw)(v:V)(aaf:aw):Prop:=v=.tup []/\(∃g,Nw 2944064448 gq g (es++[e]) k aaf)/\ ∀i,¬isAd i->i≠1536192192->i≠s->aaf i=blk i
theorem SL{al:Al}{blk:aw}{gq gi k:Nat}{es:List (List PV)}(oq:al.ok 1536192192=true)(os:al.ok 1536192064=true)(ot:al.ok 2752000000=true)(ot2:al.ok 2752128000=true)(h:Nw 1536192064 gq gi es k blk)(h5:∀e∈es,e.length=5)(hl:es.length<=1000000)(hk:k<=es.length):
  ∃v aaf,nQ S 43 [.one (.aam 1536192192 gq 0)] al blk v aaf/\tkP 1536192064 gq gi es k blk v aaf:=by
 obtain⟨hq,hb⟩:=h;refine dO c43 (aaW rfl) ?_;by_cases hlt:k<es.length
 .have hne:(((k:Int))==(es.length:Int))=false:=by rw[beq_eq_false_iff_ne];omega
  obtain⟨e,he⟩:=ao hlt;obtain⟨x0,x1,x2,x3,x4,rfl⟩:=YN (h5 e (aae he));have w1:=ak (n:=k) (by omega);have w2:IntKind.i64.wrap (((k+1:Nat):Int)-1)=(k:Int):=by rw[jT (by omega) (by omega)];omega
  simp only[go_sem,i43,hq,hb,oq,os,ot,hne,hlt,he,w1,w2];refine⟨aK,aK,.inr ⟨_,he,rfl,⟨?_,?_⟩,fun i h1 h2=>?_⟩⟩
  .simp only[aa,Nat.reduceEqDiff,if_true,if_false]
  .simp only[aa,Nat.reduceEqDiff,if_false];exact hb
  have h3:i≠2752000000:=fun e=>h1 (by rw[e];rfl);simp only[aa,if_neg h2,if_neg h3]
 have hke:k=es.length:=by omega
 subst hke;have heq:(((es.length:Int))==(es.length:Int))=true:=by simp
 simp only[go_sem,i43,hq,oq,ot,ot2,heq];refine⟨aK,.inl ⟨rfl,rfl,fun i h1=>?_⟩⟩;have h3:i≠2752000000:=fun e=>h1 (by rw[e];rfl);have h4:i≠2752128000:=fun e=>h1 (by rw[e];rfl);simp only[aa,if_neg h3,if_neg h4]
theorem XU{al:Al}{blk:aw}{gq gi k:Nat}{es:List (List PV)}{x0 x1 x2 x3 x4:PV}(oq:al.ok 1536192192=true)(os:al.ok 1536192064=true)(oa:al.ok 2944000000=true)(oa2:al.ok 2944064384=true)(oa3:al.ok 2944064448=true)(h:Nw 1536192064 gq gi es k blk)(hne:es≠[])(hl:es.length<=1000000):
  ∃v aaf,nQ S 46 [.one (.aam 1536192192 gq 0),.agg [.p x0,.p x1,.p x2,.p x3,.p x4]] al blk v aaf/\adP 1536192064 gq es k [x0.norm,x1.norm,x2.norm,x3.norm,x4.norm] blk v aaf:=by
 obtain⟨hq,hb⟩:=h;refine dO c46 (aaW rfl) ?_;simp only[go_sem,i46,hq,oq,oa,oa2];refine mD (site:=2944064448) (id:=1536192064) (bytes:=88) (es:=es) (xs:=[[x0.norm,x1.norm,x2.norm,x3.norm,x4.norm]]) (rd:=[2944064384]) (fun i hi=>?_) (.inr ⟨hne,gi,rfl,?_⟩) ?_ (.inl rfl) (by simp only[aaz,aaL];omega) fun c' aaB r1 u1 hc1 hb3 hr1=>?_
 .simp only[aat,aa9,or_false] at hi;rcases hi with rfl|rfl|rfl<;>assumption
 .simp only[aa,Nat.reduceEqDiff,if_false];exact hb
 .simp[aO,aa]
 have b0:=hb3 1536192192 (by decide) (by decide);simp only[aa,Nat.reduceEqDiff,if_false] at b0;have b1:=b0.trans hq;rcases hc1 with ⟨e,_⟩|⟨_,g2,e2,hC⟩
 .simp at e
 cases e2;simp only[go_sem,b1,oq];refine⟨?_,rfl,⟨g2,?_,?_⟩,fun i h1 h2 h3=>?_⟩
 .rcases hr1 with ⟨rfl,rfl⟩|⟨rfl,rfl⟩|⟨rfl,rfl⟩<;>kernel_rfl
 .simp only[aa,if_true]
 .simp only[aa,Nat.reduceEqDiff,if_false];exact hC
 have h4:i≠2944000000:=fun e=>h1 (by rw[e];rfl);have h5:i≠2944064384:=fun e=>h1 (by rw[e];rfl);have h6:i≠2944064448:=fun e=>h1 (by rw[e];rfl);simp only[aa,if_neg h2];rw[hb3 i h6 h3];simp only[aa,if_neg h4,if_neg h5]
theorem SK{al:Al}{blk:aw}{gq gi k:Nat}{es:List (List PV)}(oq:al.ok 1536192192=true)(os:al.ok 2944064448=true)(ot:al.ok 2752000000=true)(ot2:al.ok 2752128000=true)(h:Nw 2944064448 gq gi es k blk)(h5:∀e∈es,e.length=5)(hl:es.length<=1000000)(hk:k<=es.length):
  ∃v aaf,nQ S 43 [.one (.aam 1536192192 gq 0)] al blk v aaf/\tkP 2944064448 gq gi es k blk v aaf:=by
 obtain⟨hq,hb⟩:=h;refine dO c43 (aaW rfl) ?_;by_cases hlt:k<es.length
 .have hne:(((k:Int))==(es.length:Int))=false:=by rw[beq_eq_false_iff_ne];omega
  obtain⟨e,he⟩:=ao hlt;obtain⟨x0,x1,x2,x3,x4,rfl⟩:=YN (h5 e (aae he));have w1:=ak (n:=k) (by omega);have w2:IntKind.i64.wrap (((k+1:Nat):Int)-1)=(k:Int):=by rw[jT (by omega) (by omega)];omega
  simp only[go_sem,i43,hq,hb,oq,os,ot,hne,hlt,he,w1,w2];refine⟨aK,aK,.inr ⟨_,he,rfl,⟨?_,?_⟩,fun i h1 h2=>?_⟩⟩
  .simp only[aa,Nat.reduceEqDiff,if_true,if_false]
  .simp only[aa,Nat.reduceEqDiff,if_false];exact hb
  have h3:i≠2752000000:=fun e=>h1 (by rw[e];rfl);simp only[aa,if_neg h2,if_neg h3]
 have hke:k=es.length:=by omega
 subst hke;have heq:(((es.length:Int))==(es.length:Int))=true:=by simp
 simp only[go_sem,i43,hq,oq,ot,ot2,heq];refine⟨aK,.inl ⟨rfl,rfl,fun i h1=>?_⟩⟩;have h3:i≠2752000000:=fun e=>h1 (by rw[e];rfl);have h4:i≠2752128000:=fun e=>h1 (by rw[e];rfl);simp only[aa,if_neg h3,if_neg h4]
theorem XT{al:Al}{blk:aw}{gq gi k:Nat}{es:List (List PV)}{x0 x1 x2 x3 x4:PV}(oq:al.ok 1536192192=true)(os:al.ok 2944064448=true)(oa:al.ok 2944000000=true)(oa2:al.ok 2944064384=true)(oa3:al.ok 2944064448=true)(h:Nw 2944064448 gq gi es k blk)(hne:es≠[])(hl:es.length<=1000000):
  ∃v aaf,nQ S 46 [.one (.aam 1536192192 gq 0),.agg [.p x0,.p x1,.p x2,.p x3,.p x4]] al blk v aaf/\adP 2944064448 gq es k [x0.norm,x1.norm,x2.norm,x3.norm,x4.norm] blk v aaf:=by
 obtain⟨hq,hb⟩:=h;refine dO c46 (aaW rfl) ?_;simp only[go_sem,i46,hq,oq,oa,oa2];refine mD (site:=2944064448) (id:=2944064448) (bytes:=88) (es:=es) (xs:=[[x0.norm,x1.norm,x2.norm,x3.norm,x4.norm]]) (rd:=[2944064384]) (fun i hi=>?_) (.inr ⟨hne,gi,rfl,?_⟩) ?_ (.inl rfl) (by simp only[aaz,aaL];omega) fun c' aaB r1 u1 hc1 hb3 hr1=>?_
 .simp only[aat,aa9,or_false] at hi;rcases hi with rfl|rfl|rfl<;>assumption
 .simp only[aa,Nat.reduceEqDiff,if_false];exact hb
 .simp[aO,aa]
 have b0:=hb3 1536192192 (by decide) (by decide);simp only[aa,Nat.reduceEqDiff,if_false] at b0;have b1:=b0.trans hq;rcases hc1 with ⟨e,_⟩|⟨_,g2,e2,hC⟩
 .simp at e
 cases e2;simp only[go_sem,b1,oq];refine⟨?_,rfl,⟨g2,?_,?_⟩,fun i h1 h2 h3=>?_⟩
 .rcases hr1 with ⟨rfl,rfl⟩|⟨rfl,rfl⟩|⟨rfl,rfl⟩<;>kernel_rfl
 .simp only[aa,if_true]
 .simp only[aa,Nat.reduceEqDiff,if_false];exact hC
 have h4:i≠2944000000:=fun e=>h1 (by rw[e];rfl);have h5:i≠2944064384:=fun e=>h1 (by rw[e];rfl);have h6:i≠2944064448:=fun e=>h1 (by rw[e];rfl);simp only[aa,if_neg h2];rw[hb3 i h6 h3];simp only[aa,if_neg h4,if_neg h5]
abbrev prP(ps:List (Int×Int)):List (List PV):=ps.map fun p=>[.int .i64 p.1,.int .i64 p.2]
def l9:List (Int×Int)->Int
 |[]=>0
 |p::r=>if p.1=p.2 then l9 r else if p.1<p.2 then -1 else 1
theorem WM{ps:List (Int×Int)}{k:Nat}{p:Int×Int}(h:ps[k]?=some p):(prP ps)[k]?=some [.int .i64 p.1,.int .i64 p.2]:=by rw[aa0,h];rfl
theorem xt{α:Type}{A:List α}{k:Nat}{a:α}(h:A[k]?=some a):A.drop k=a::A.drop (k+1):=by obtain⟨h1,e⟩:=aai.1 h;rw[<- e,abY]
theorem JW(ps:List (Int×Int))(hl:ps.length<=1000000):aP S 28 [.one (.p (.sl (prP ps)))] (ri (l9 ps)):=by
 generalize hr:l9 ps=r;refine aJ c28 ?_;simp only[go_sem,i28];refine aV (fun k env blk=>env 5=.one (.p (.sl (prP ps)))/\env 6=vi ps.length/\env 7=vi k/\l9 (ps.drop k)=r) 0 ps.length (aan _) ?_ ?_
 .simp only[go_sem];first|exact hr|exact⟨rfl,hr⟩
 rintro k env blk hk ⟨h5,h6,h7,hn⟩
 by_cases hlt:k<ps.length
 .have aak:(k:Int)<(ps.length:Int):=by omega
  obtain⟨p,hp⟩:=ao hlt;have hpi:=WM hp;have w1:=ak (n:=k) (by omega);rw[xt hp] at hn;obtain⟨x,y⟩:=p;unfold l9 at hn;dsimp only at hn hpi;by_cases e:x=y
  .rw[if_pos e] at hn;subst e;simp only[go_sem,i28_l1,h5,h6,h7,hlt,aak,hpi,w1];first|exact hn|exact⟨rfl,hn⟩|exact⟨hlt,hn⟩
  rw[if_neg e] at hn;have e':(x !=y)=true:=by simpa using e
  by_cases l:x<y
  .rw[if_pos l] at hn;subst hn;simp only[go_sem,i28_l1,h5,h6,h7,aak,hpi,e',l];first|done|rfl
  rw[if_neg l] at hn;subst hn;simp only[go_sem,i28_l1,h5,h6,h7,aak,hpi,e',l];first|done|rfl
 have:k=ps.length:=by omega
 subst this;rw[adw] at hn;have hn:0=r:=hn;subst hn;simp only[go_sem,i28_l1,i28_r2,h6,h7,aS]
theorem FD(b:Bool):aP S 30 [vb b] (ri (if b then 1 else 0)):=by
 cases b
 .refine aJ c30 ?_;simp only[go_sem,i30];first|done|rfl
 refine aJ c30 ?_;simp only[go_sem,i30];first|done|rfl
theorem QZ{q:Let->Bool}{L:List Let}{k:Nat}{x:Let}(h:L[k]?=some x):aA q (L.take (k+1))=aA q (L.take k)+(if q x then 1 else 0):=by rw[jA h,jm];congr 1;show List.countP _ [x]=_;rw[List.countP_singleton]
theorem zP(F:Int)(L:List Let)(hl:L.length<=1000000):aP S 29 [bj F L] (ri ((aA Let.aD L:Nat):Int)):=by
 have hc:∀k,aA Let.aD (L.take k)<=k:=fun k=>by have:=adC (p:=Let.aD) (l:=L.take k);rw[aa2] at this;show List.countP _ _<=k;omega
 refine aJ c29 ?_;simp only[go_sem,i29];refine aV (fun k env blk=>env 7=.one (.p (eB L))/\env 8=vi L.length/\env 9=vi k/\env 3=vi ((aA Let.aD (L.take k):Nat):Int)) 0 L.length (aan _) ?_ ?_
 .simp only[go_sem];first|done|rfl|exact⟨rfl,rfl⟩
 rintro k env blk hk ⟨h7,h8,h9,h3⟩
 by_cases hlt:k<L.length
 .have aak:(k:Int)<(L.length:Int):=by omega
  have hx:=mv hlt;have hxi:=fQ hx;have w1:=ak (n:=k) (by omega);have hs:=QZ (q:=Let.aD) hx;have hk2:=hc k;have w2:=ak (n:=aA Let.aD (L.take k)) (by omega);generalize lA L k=x at*;have hcx:x.aD=(x.kind==2):=rfl;rw[hcx] at hs;generalize aA Let.aD (L.take k)=d at*;cases h2:(x.kind==2) with
  |false=>rw[h2] at hs;simp only[go_sem,i29_l1,h7,h8,h9,h3,hlt,aak,hxi,Let.ps,h2,w1];first|(rw[hs];rfl)|exact⟨hlt,by rw[hs];rfl⟩
  |true=>rw[h2] at hs;simp only[go_sem,i29_l1,h7,h8,h9,h3,hlt,aak,hxi,Let.ps,h2,w1,w2];first|(rw[hs];rfl)|exact⟨hlt,by rw[hs];rfl⟩
 have:k=L.length:=by omega
 subst this;rw[abw] at h3;simp only[go_sem,i29_l1,i29_r2,h8,h9,h3,aS]
def yN(a b:Let):List (Int×Int):=[(a.kind,b.kind),(a.gate,b.gate),(a.aag,b.aag),(a.id,b.id),(if a.over then 1 else 0,if b.over then 1 else 0),(a.sign,b.sign)]
def GM:List Let->List Let->Int
 |a::A,b::B=>if l9 (yN a b)=0 then GM A B else l9 (yN a b)
 |_,_=>0
def yZ(f:Int)(A:List Let)(g:Int)(B:List Let):List (Int×Int):=[(f,g),(((aA Let.aD A:Nat):Int),((aA Let.aD B:Nat):Int)),((A.length:Int),(B.length:Int))]
def zX(f:Int)(A:List Let)(g:Int)(B:List Let):Int:=if l9 (yZ f A g B)=0 then GM A B else l9 (yZ f A g B)
theorem vg{ps:List (Int×Int)}(h:l9 ps=0):∀p∈ps,p.1=p.2:=by
 induction ps with
 |nil=>intro p hp;cases hp
 |cons q r ih=>
  unfold l9 at h;by_cases e:q.1=q.2
  .rw[if_pos e] at h;intro p hp;rcases aat.1 hp with rfl|hp
   .exact e
   exact ih h p hp
  rw[if_neg e] at h;split at h<;>cases h
theorem By{ps:List (Int×Int)}(h:∀p∈ps,p.1=p.2):l9 ps=0:=by
 induction ps with
 |nil=>rfl
 |cons q r ih=>unfold l9;rw[if_pos (h q (by simp))];exact ih fun p hp=>h p (by simp[hp])
theorem TZ{a b:Let}(h:l9 (yN a b)=0):a=b:=by
 have h:=vg h;unfold yN at h;simp only[aat,aa9,or_false,forall_eq_or_imp,forall_eq] at h;obtain⟨h1,h2,h3,h4,h5,h6⟩:=h;cases a with|mk k g r i s o=>cases b with|mk k' g' r' i' s' o'=>
 dsimp only at*;have:o=o':=by revert h5;cases o<;>cases o'<;>simp
 subst h1 h2 h3 h4 h6 this;rfl
theorem UG:∀ {A B:List Let},A.length=B.length->GM A B=0->A=B:=by
 intro A
 induction A with
 |nil=>intro B h _;cases B with
  |nil=>rfl
  |cons _ _=>cases h
 |cons a A ih=>
  intro B h h1;cases B with
  |nil=>cases h
  |cons b B=>
   unfold GM at h1;by_cases e:l9 (yN a b)=0
   .rw[if_pos e] at h1;rw[TZ e,ih (by simpa using h) h1]
   rw[if_neg e] at h1;exact absurd h1 e
theorem Nf(A:List Let):GM A A=0:=by
 induction A with
 |nil=>rfl
 |cons a A ih=>unfold GM;rw[if_pos (By (by unfold yN;simp))];exact ih
theorem Cy{f g:Int}{A B:List Let}:zX f A g B=0↔f=g/\A=B:=by
 unfold zX;constructor
 .intro h;by_cases e:l9 (yZ f A g B)=0
  .rw[if_pos e] at h;have e:=vg e;unfold yZ at e;simp only[aat,aa9,or_false,forall_eq_or_imp,forall_eq] at e;exact⟨e.1,UG (by omega) h⟩
  rw[if_neg e] at h;exact absurd h e
 rintro ⟨rfl,rfl⟩
 rw[if_pos (By (by unfold yZ;simp))];exact Nf A
theorem Cw(f:Int)(A:List Let)(g:Int)(B:List Let)(hA:A.length<=1000000)(hB:B.length<=1000000):aP S 17 [bj f A,bj g B] (ri (zX f A g B)):=by
 have c1:=zP f A hA;have c2:=zP g B hB;have po:=JW (yZ f A g B) (by simp[yZ]);have po':aP S 28 [.one (.p (.sl [[.int .i64 f,.int .i64 g],[.int .i64 ((aA Let.aD A:Nat):Int),.int .i64 ((aA Let.aD B:Nat):Int)],[.int .i64 A.length,.int .i64 B.length]]))] (ri (l9 (yZ f A g B))):=po;clear po;generalize hr:zX f A g B=r;unfold zX at hr;by_cases e:l9 (yZ f A g B)=0
 .rw[if_pos e] at hr;have hlen:A.length=B.length:=by
   have e:=vg e;unfold yZ at e;simp only[aat,aa9,or_false,forall_eq_or_imp,forall_eq] at e;omega
  rw[e] at po';refine aJ c17 ?_;simp only[go_sem,i17,s29,s28,gh c1,gh c2,gh po'];refine⟨aK,?_⟩;refine aV (fun k env blk=>env 2=.one (.aam 1088000000 1 0)/\env 3=.one (.aam 1088000064 1 0)/\blk 1088000000=(1,some (.var [.p (.int .i64 f),.p (eB A)]))/\blk 1088000064=(1,some (.var [.p (.int .i64 g),.p (eB B)]))/\env 33=.one (.p (eB A))/\env 34=vi A.length/\env 35=vi k/\GM (A.drop k) (B.drop k)=r) 0 A.length (aan _) ?_ ?_
  .simp only[go_sem];first|exact hr|exact⟨rfl,hr⟩|exact⟨rfl,rfl,hr⟩|trace_state
  rintro k env blk hk ⟨h2,h3,b0,b1,h33,h34,h35,hn⟩
  by_cases hlt:k<A.length
  .have aak:(k:Int)<(A.length:Int):=by omega
   have aqV:k<B.length:=by omega
   have hx:=mv hlt;have hy:=mv aqV;have hxi:=fQ hx;have hyi:=fQ hy;have w1:=ak (n:=k) (by omega);rw[xt hx,xt hy] at hn;unfold GM at hn;generalize lA A k=x at*;generalize lA B k=y at*;have n1:=FD x.over;have n2:=FD y.over;have pl:=JW (yN x y) (by simp[yN]);have pl':aP S 28 [.one (.p (.sl [[.int .i64 x.kind,.int .i64 y.kind],[.int .i64 x.gate,.int .i64 y.gate],[.int .i64 x.aag,.int .i64 y.aag],[.int .i64 x.id,.int .i64 y.id],[.int .i64 (if x.over then 1 else 0),.int .i64 (if y.over then 1 else 0)],[.int .i64 x.sign,.int .i64 y.sign]]))] (ri (l9 (yN x y))):=pl;clear pl;by_cases e2:l9 (yN x y)=0
   .rw[if_pos e2] at hn;rw[e2] at pl';simp only[go_sem,i17_l1,h2,h3,b0,b1,h33,h34,h35,hlt,aak,hxi,hyi,Let.ps,w1,s30,s28,gh n1,gh n2,gh pl'];first|exact⟨aK,hn⟩|exact⟨aK,hlt,hn⟩|trace_state
   rw[if_neg e2] at hn;subst hn;have e2':(l9 (yN x y)!=0)=true:=by simpa using e2
   simp only[go_sem,i17_l1,h3,b1,h33,h34,h35,aak,hxi,hyi,Let.ps,s30,s28,gh n1,gh n2,gh pl',e2'];first|exact⟨aK,rfl⟩|exact aK|trace_state
  have:k=A.length:=by omega
  subst this;rw[adw] at hn;have hn:0=r:=by rw[<- hn];cases B.drop A.length<;>rfl
  subst hn;simp only[go_sem,i17_l1,i17_r2,h34,h35,aS];first|done|rfl
 rw[if_neg e] at hr;subst hr;have e':(l9 (yZ f A g B)!=0)=true:=by simpa using e
 refine aJ c17 ?_;simp only[go_sem,i17,s29,s28,gh c1,gh c2,gh po',e'];first|exact⟨aK,rfl⟩|exact aK|trace_state
end Go.Abs
namespace Go.Abs
abbrev UJ(F:Nat)(l:List (List Let)):List (List PV):=l.map fun L=>[.int .i64 F,eB L]
theorem Ra{F:Nat}{l:List (List Let)}{k:Nat}{L:List Let}(h:l[k]?=some L):(UJ F l)[k]?=some [.int .i64 F,eB L]:=by rw[aa0,h];rfl
def th(F:Nat)(l:List (List Let)):Nat->Int
 |0=> -1
 |k+1=>if th F l k<0 then (k:Int) else if zX F (l.getD k []) F (l.getD (th F l k).toNat [])<0 then (k:Int) else th F l k
theorem DH(F:Nat)(l:List (List Let)):∀k,(k=0/\th F l k= -1)\/(0<=th F l k/\th F l k<k):=by
 intro k
 induction k with
 |zero=>exact .inl ⟨rfl,rfl⟩
 |succ k ih=>
  right;unfold th;split
  .omega
  split
  .omega
  omega
theorem TY(F:Nat)(l:List (List Let))(hl:l.length<=1000000)(hL:∀L∈l,L.length<=1000000):aP S 15 [.one (.p (.sl (UJ F l)))] (ri (th F l l.length)):=by
 refine aJ c15 ?_;simp only[go_sem,i15];refine aV (fun k env blk=>env 0=.one (.p (.sl (UJ F l)))/\env 6=.one (.p (.sl (UJ F l)))/\env 7=vi l.length/\env 8=vi k/\env 3=vi (th F l k)) 0 l.length (aan _) ?_ ?_
 .simp only[go_sem];first|done|rfl|exact⟨rfl,rfl⟩
 rintro k env blk hk ⟨h0,h6,h7,h8,h3⟩
 by_cases hlt:k<l.length
 .have aak:(k:Int)<(l.length:Int):=by omega
  obtain⟨X,hX⟩:=ao hlt;have hXi:=Ra (F:=F) hX;have w1:=ak (n:=k) (by omega);have hgX:l.getD k []=X:=by rw[aaC,hX];rfl
  have hcl:(UJ F l).length=l.length:=aau ..;have hs:th F l (k+1)=if th F l k<0 then (k:Int) else if zX F X F (l.getD (th F l k).toNat [])<0 then (k:Int) else th F l k:=by rw[<- hgX];rfl
  rcases DH F l k with ⟨hk0,hb⟩|⟨hb0,hbk⟩
  .rw[hb] at hs h3;rw[if_pos (by decide)] at hs;have aiZ:((-1:Int)<0):=by decide
   simp only[go_sem,i15_l1,h0,h6,h7,h8,h3,hlt,aak,hXi,w1,aiZ];first|exact⟨aK,by rw[hs]⟩|exact⟨aK,hlt,by rw[hs]⟩|trace_state
  obtain⟨b,hb⟩:=abX hb0;rw[hb] at hs h3 hbk;have hbl:b<l.length:=by omega
  obtain⟨Y,hY⟩:=ao hbl;have hYi:=Ra (F:=F) hY;have hgY:l.getD b []=Y:=by rw[aaC,hY];rfl
  rw[ab1,hgY,if_neg (by omega)] at hs;have aiZ:¬((b:Int)<0):=by omega
  have pc:=Cw F X F Y (hL X (aae hX)) (hL Y (aae hY));have pc':aP S 17 [.agg [.p (.int .i64 F),.p (eB X)],.agg [.p (.int .i64 F),.p (eB Y)]] (ri (zX F X F Y)):=pc;clear pc;generalize zX F X F Y=o at*;by_cases ho:o<0
  .rw[if_pos ho] at hs;simp only[go_sem,i15_l1,h0,h6,h7,h8,h3,hlt,aak,hXi,hYi,w1,aiZ,s17,gh pc',ho];first|exact⟨aK,by rw[hs]⟩|exact⟨aK,hlt,by rw[hs]⟩|trace_state
  rw[if_neg ho] at hs;simp only[go_sem,i15_l1,h0,h6,h7,h8,h3,hlt,aak,hXi,hYi,w1,aiZ,s17,gh pc',ho];first|exact⟨aK,by rw[hs]⟩|exact⟨aK,hlt,by rw[hs]⟩|trace_state
 have:k=l.length:=by omega
 subst this;simp only[go_sem,i15_l1,i15_r2,h7,h8,h3,aS]
def rdQ(F:Nat)(L:List Let)(x:bU×Bool):Prop:=aP S 26 [bj F L] (LZ x.1 x.2)/\(x.2=true->EE F L yl x.1/\ ¬BI F L)/\(x.2=false->BI F L)
theorem WK{F:Nat}{L:List Let}(h:ay (F:Int) L=0):∃x,rdQ F L x:=by
 rcases yj h with ⟨m,h1,h3,h2⟩|⟨h1,h2⟩
 .exact⟨(m,true),h2,fun _=>⟨h1,h3⟩,fun h=>(by cases h)⟩
 exact⟨(Su,false),h2,fun h=>(by cases h),fun _=>h1⟩
open Classical in
noncomputable def OP (F:Nat) (L:List Let):bU×Bool:=if h:∃x,rdQ F L x then Classical.choose h else (Su,false)
theorem Vn{F:Nat}{L:List Let}(h:ay (F:Int) L=0):rdQ F L (OP F L):=by have he:=WK h;unfold OP;rw[dif_pos he];exact Classical.choose_spec he
abbrev FM:List Int:=[3,8]
theorem TU:∀k∈FM,MC k:=by intro k h;simp only[aat,aa9,or_false] at h;unfold MC k5;omega
def lvQ(F:Nat)(L:List Let)(ms:List bU):Prop:=(ms.length<=8000/\ ∀m∈ms,EE F L FM m)/\aP S 44 [bj F L,.one (.p (.sl (iP FM)))] (.tup [.one (ah md 7 (mP ms)),.one (.p (.int .i64 0))])
open Classical in
noncomputable def BS (F:Nat) (L:List Let):List bU:=if h:∃ms,lvQ F L ms then Classical.choose h else []
theorem YL{F:Nat}{L:List Let}(h:ay (F:Int) L=0):lvQ F L (BS F L):=by have he:∃ms,lvQ F L ms:=RY h FM (by decide) TU;unfold BS;rw[dif_pos he];exact Classical.choose_spec he
abbrev isSt(id:Nat):Prop:=cH id=25
def stP(idv gv:Nat)(b:Bool)(blk:aw)(v:V)(aaf:aw):Prop:=v=vb b/\aaf idv=(gv,some (.var [.p (.bool b)]))/\ ∀i,¬isSt i->i≠idv->aaf i=blk i
theorem Wu{al:Al}{blk:aw}{gv F:Nat}{L:List Let}{x2 x3 x4:PV}{b0:Bool}{m:bU}{b:Bool}(hp:aP S 26 [bj F L] (LZ m b))(ov:al.ok 832512000=true)(oa:al.ok 1600000000=true)(oa2:al.ok 1600064128=true)(hv:blk 832512000=(gv,some (.var [.p (.bool b0)]))):
  ∃v aaf,nQ S 25 [.agg [.p (.int .i64 F),.p (eB L),.p x2,.p x3,.p x4],.one (.aam 832512000 gv 0)] al blk v aaf/\stP 832512000 gv b blk v aaf:=by
 refine dO c25 (aaW rfl) ?_;simp only[go_sem,i25,oa,s26];rw[qQ hp um];refine⟨by simp only[oG,abi,abo],?_⟩;simp only[go_sem,hv,ov];refine⟨rfl,?_,fun i h1 h2=>?_⟩
 .simp only[aa,Nat.reduceEqDiff,if_true,if_false]
 have h3:i≠1600000000:=fun e=>h1 (by rw[e];rfl);simp only[aa,if_neg h2,if_neg h3]
end Go.Abs
namespace Go.Abs
section
variable {al:Al} {Q:cU} {env:Env} {blk:aw} {os all:List aj} {tr:List dR} {d:Option Nat}
theorem Qv{f:Nat}{vs:List V}{s ty z:Nat}{rd:List Nat}{es:List (List PV)}{x:PV}(hok:∀i∈s::rd,al.ok i=true)(hp:aP S f vs (.tup [.one (ah ty z es),.one (.p x)]))(hlo:S.lone s=false)(hs:(es.all fun e=>e.all PV.scalar)=true)(hx:x.scalar=true)
  (hK:∀(c:C) aaf,grown s ty z es (.one c) aaf->(∀i,i≠s->aaf i=blk i)->RN S al os Q (put env d (.tup [.one c,.one (.p x)])) aaf):gP S al (.pc f vs rd s) d os Q env blk:=by
 obtain⟨h1,h2,h3⟩:=cD (blk:=blk) (s:=s) (ty:=ty) (z:=z) (es:=es);have hal:(RV.tup [.one (ah ty z es),.one (.p x)]).alone=true:=by have a:=bG (ty:=ty) (z:=z) hs;simp only[RV.alone,dp,bQ,abu,abL,aci] at a;simp only[RV.alone,dp,dJ,bQ,acp,aaZ,abo,abu,abL,aci,a,acH];exact hx
 refine(qQ (v:=.tup [.one (dY blk s (ah ty z es)).1,.one (.p x)]) (u:=(dY blk s (ah ty z es)).2) hp ?_).2 ⟨oF fun i hi=>hok i ?_,hK _ _ h1 h2⟩
 .rw[hlo,bl];unfold land;rw[if_pos (.inr hal)];simp[rV,dp,dJ,bQ,gA,iR,fg,dM,dY]
 rcases h3 with h|h<;>rw[h] at hi<;>simp at hi<;>simp[hi]
 rcases hi with hi|hi<;>simp[hi]
theorem Ui{f:Nat}{vs:List V}{s ty z:Nat}{rd:List Nat}{es:List (List PV)}{x y:PV}(hok:∀i∈(s+1)::rd,al.ok i=true)(hp:aP S f vs (.tup [.agg [.p x,ah ty z es],.one (.p y)]))(hlo:S.lone s=false)(hx:x.scalar=true)(hy:y.scalar=true)(hs:(es.all fun e=>e.all PV.scalar)=true)
  (hK:∀(c:C) aaf,grown (s+1) ty z es (.one c) aaf->(∀i,i≠s+1->aaf i=blk i)->RN S al os Q (put env d (.tup [.agg [.p x,c],.one (.p y)])) aaf):gP S al (.pc f vs rd s) d os Q env blk:=by
 obtain⟨h1,h2,h3⟩:=cD (blk:=blk) (s:=s+1) (ty:=ty) (z:=z) (es:=es);have hal:(RV.tup [.agg [.p x,ah ty z es],.one (.p y)]).alone=true:=by have a:=bG (ty:=ty) (z:=z) hs;simp only[RV.alone,dp,bQ,abu,abL,aci] at a;simp only[RV.alone,dp,dJ,bQ,acp,aaZ,abo,abu,abL,aci,a,acH];show(x.scalar&&y.scalar)=true;rw[hx,hy];rfl
 refine(qQ (v:=.tup [.agg [.p x,(dY blk (s+1) (ah ty z es)).1],.one (.p y)]) (u:=(dY blk (s+1) (ah ty z es)).2) hp ?_).2 ⟨oF fun i hi=>hok i ?_,hK _ _ h1 h2⟩
 .rw[hlo,bl];unfold land;rw[if_pos (.inr hal)];simp[rV,dp,dJ,bQ,gA,iR,fg,dM,dY]
 rcases h3 with h|h<;>rw[h] at hi<;>simp at hi<;>simp[hi]
 rcases hi with hi|hi<;>simp[hi]
theorem yO{s:Nat}{rd:List Nat}{x0 x1 x2 x3 x4:PV}{l:Bool}(hr:fD blk rd):∃u,land blk rd s ((RV.agg [.p x0,.p x1,.p x2,.p x3,.p x4]).bn l)=some (.agg [.p x0,.p x1,.p x2,.p x3,.p x4],u)/\(∀i,i∉rd->app u blk i=blk i)/\(∀i∈u.map (·.1),i∈rd)/\(u.map (·.1)=[]\/u.map (·.1)=rd):=by
 have hp:(RV.agg [.p x0,.p x1,.p x2,.p x3,.p x4]).bn l=.agg [.p x0,.p x1,.p x2,.p x3,.p x4]:=by cases l<;>rfl
 rw[hp];unfold land;by_cases h:rd=[]\/(RV.agg [.p x0,.p x1,.p x2,.p x3,.p x4]).alone=true
 .rw[if_pos h];exact⟨[],rfl,fun _ _=>rfl,(fun i hi=>by cases hi),.inl rfl⟩
 rw[if_neg h];obtain⟨fu,h1,h2⟩:=IG rd rd hr;have:Gb blk rd=some fu:=h1;rw[this];refine⟨fu,?_,fun i hi=>jJ _ _ _ (by rw[h2];exact hi),fun i hi=>by rw[h2] at hi;exact hi,.inr h2⟩;show some (_,fu++[])=_;rw[abo];rfl
end
abbrev T2(l:List ByteArray):List (PV×List PV):=l.map fun s=>(PV.str s,[PV.bool true])
theorem IM(q:ByteArray):∀(l:List ByteArray) (i:Nat),(l.any (fun s=>q==s)=true/\ ∃j,iG (.str q) (T2 l) i=some (some (j,[.bool true])))\/(l.any (fun s=>q==s)=false/\iG (.str q) (T2 l) i=some none):=by
 intro l
 induction l with
 |nil=>intro i;exact .inr ⟨rfl,rfl⟩
 |cons a l ih=>
  intro i;have e:iG (.str q) (T2 (a::l)) i=match some (q==a) with|some true=>some (some (i,[.bool true]))|some false=>iG (.str q) (T2 l) (i+1)|none=>none:=rfl
  rw[e,List.any_cons];cases h:(q==a) with
  |true=>exact .inl ⟨rfl,i,rfl⟩
  |false=>exact ih (i+1)
def eX.key(F:Nat)(m:eX):ByteArray:=mR F m.n
noncomputable def fE (F limit:Nat) (a:eX) (st:List eX) (m:bU):Nat×List eX:=
 if (st.map (eX.key F)).any (fun s=>mR F (js ((km F a.c m).getD []))==s) then (0,st)
 else if st.length=limit then (1,st)
 else (if (OP F ((km F a.c m).getD [])).2 then 2 else 0,st++[⟨(km F a.c m).getD [],js ((km F a.c m).getD []),a.w++[m]⟩])
noncomputable def dF (F limit:Nat) (a:eX):List eX->List bU->Nat×List eX
 |st,[]=>(0,st)
 |st,m::r=>if (fE F limit a st m).1=0 then dF F limit a (fE F limit a st m).2 r else fE F limit a st m
noncomputable def Sq (F limit:Nat):Nat->Nat->List eX->Nat×List eX
 |0,_,st=>(0,st)
 |f+1,i,st=>match st[i]? with
  |none=>(0,st)
  |some a=>if (dF F limit a st (BS F a.c)).1=0 then Sq F limit f (i+1) (dF F limit a st (BS F a.c)).2 else dF F limit a st (BS F a.c)
structure Ny (F:Nat) (L0:List Let) (n:Nat) (m:eX):Prop where
 chk:ay (F:Int) m.c=0
 YF:m.n=js m.c
 rep:ky F L0 m.w=some m.c
 kind:∀x∈m.w,x.k∈FM
 len:m.w.length<=n
 same:m.c.length=L0.length
structure NF (al:Al):Prop where
 c:∀id,cH id=24->al.ok id=true
 t:al.fs.contains 43=true
 a:al.fs.contains 46=true
 s:al.fs.contains 25=true
 v:al.ok 832512000=true
theorem NF.fn{al:Al}{f id:Nat}(h:al.fs.contains f=true)(e:cH id=f):al.ok id=true:=by unfold Al.ok;rw[e,h];simp
theorem NF.kY{al:Al}(ac:NF al):al.ok 1536000000=true/\al.ok 1536064128=true/\al.ok 1536128000=true/\al.ok 1536192064=true/\al.ok 1536192192=true/\al.ok 1536256256=true/\al.ok 1536448128=true/\al.ok 1536448192=true/\al.ok 1536640128=true/\al.ok 1536704193=true/\al.ok 1536704448=true/\al.ok 1536768192=true/\al.ok 1536768320=true/\al.ok 1536768384=true/\al.ok 1536768512=true:=by
 repeat' apply And.intro
 all_goals exact ac.c _ rfl
abbrev Bb(gv:Nat):V:=.one (.hfn 25 [] [.aam 832512000 gv 0])
def kD(i:Nat):Prop:=cH i=24\/cH i=43\/cH i=46\/cH i=25
abbrev Kp(s:Nat):Prop:=s=1536192064\/s=2944064448
theorem Kp.ok{al:Al}{s:Nat}(hq:Kp s)(ac:NF al):al.ok s=true:=by
 rcases hq with rfl|rfl
 .exact ac.c _ rfl
 exact NF.fn ac.a rfl
theorem Kp.own{s:Nat}(hq:Kp s):kD s:=by
 rcases hq with rfl|rfl
 .exact .inl rfl
 exact .inr (.inr (.inl rfl))
theorem Kp.no{s i:Nat}(hq:Kp s)(h:¬kD i):i≠s:=fun e=>h (e▸hq.own)
theorem Kp.ne{s:Nat}(hq:Kp s):¬s=1536000000/\ ¬s=1536064128/\ ¬s=1536128000/\ ¬s=1536192192/\ ¬s=1536256256/\ ¬s=1536448128/\ ¬s=1536448192/\ ¬s=1536640128/\ ¬s=1536704193/\ ¬s=1536704448/\ ¬s=1536768192/\ ¬s=1536768320/\ ¬s=1536768384/\ ¬s=1536768512/\ ¬s=832512000:=by rcases hq with rfl|rfl<;>decide
theorem Wr{al:Al}{s:Nat}(hq:Kp s){blk:aw}{gq gi k:Nat}{es:List (List PV)}(oq:al.ok 1536192192=true)(os:al.ok s=true)(ot:al.ok 2752000000=true)(ot2:al.ok 2752128000=true)(h:Nw s gq gi es k blk)(h5:∀e∈es,e.length=5)(hl:es.length<=1000000)(hk:k<=es.length):
  ∃v aaf,nQ S 43 [.one (.aam 1536192192 gq 0)] al blk v aaf/\tkP s gq gi es k blk v aaf:=by
 rcases hq with rfl|rfl
 .exact SL oq os ot ot2 h h5 hl hk
 exact SK oq os ot ot2 h h5 hl hk
theorem Z0{al:Al}{s:Nat}(hq:Kp s){blk:aw}{gq gi k:Nat}{es:List (List PV)}{x0 x1 x2 x3 x4:PV}(oq:al.ok 1536192192=true)(os:al.ok s=true)(oa:al.ok 2944000000=true)(oa2:al.ok 2944064384=true)(oa3:al.ok 2944064448=true)(h:Nw s gq gi es k blk)(hne:es≠[])(hl:es.length<=1000000):
  ∃v aaf,nQ S 46 [.one (.aam 1536192192 gq 0),.agg [.p x0,.p x1,.p x2,.p x3,.p x4]] al blk v aaf/\adP s gq es k [x0.norm,x1.norm,x2.norm,x3.norm,x4.norm] blk v aaf:=by
 rcases hq with rfl|rfl
 .exact XU oq os oa oa2 oa3 h hne hl
 exact XT oq os oa oa2 oa3 h hne hl
structure Nu (F limit:Nat) (L0:List Let) (gv:Nat) (r0:List Nat) (b0:aw) (gq gM:Nat) (st:List eX) (k:Nat) (env:Env) (blk:aw):Prop where
 e1:env 1=vi limit
 e2:env 2=Bb gv
 e9:env 9=.one (.aaT 1536128000 gM)
 e10:env 10=.one (.aam 1536192192 gq 0)
 bM:blk 1536128000=(gM,some (.map false (T2 (st.map (eX.key F)))))
 que:∃s,Kp s/\ ∃gi,Nw s gq gi (kE F st) k blk
 bv:blk 832512000=(gv,some (.var [.p (.bool false)]))
 ne:st≠[]
 lim:st.length<=limit
 all:∀m∈st,Ny F L0 st.length m
 fr:∀i,¬kD i->i≠832512000->i∉r0->blk i=b0 i
theorem qI(F:Nat)(l:List eX):(kE F l).length=l.length:=aau ..
theorem W2(F:Nat)(l:List eX):∀e∈kE F l,e.length=5:=fun e he=>by obtain⟨m,_,rfl⟩:=aaF.1 he;rfl
theorem fM{i:Nat}{f o:Nat}(h:¬kD i)(e:cH o=f)(hf:f=24\/f=43\/f=46\/f=25):i≠o:=fun h2=>h (by rw[h2];unfold kD;rw[e];exact hf)
structure EdC (F:Nat) (L0:List Let) (gv:Nat) (r0:List Nat) (b0:aw) (r:Nat×List eX) (gq:Nat) (env:Env) (blk:aw):Prop where
 e10:env 10=.one (.aam 1536192192 gq 0)
 que:∃k s,Kp s/\ ∃gi,Nw s gq gi (kE F r.2) k blk
 bv:blk 832512000=(gv,some (.var [.p (.bool (r.1==2))]))
 ne:r.2≠[]
 all:∀m∈r.2,Ny F L0 r.2.length m
 fr:∀i,¬kD i->i≠832512000->i∉r0->blk i=b0 i
theorem Ny.mono{F:Nat}{L0:List Let}{n n':Nat}{m:eX}(h:Ny F L0 n m)(hn:n<=n'):Ny F L0 n' m:=⟨h.chk,h.YF,h.rep,h.kind,abm h.len hn,h.same⟩
theorem Og{F:Nat}{L:List Let}(h:ay (F:Int) L=0):∀l∈L,smL l:=by
 intro l hl;have hne:L≠[]:=List.ne_nil_of_mem hl;obtain⟨G,e,g⟩:=jh h hne;have hc:=g.len;have hF:=g.fing;have hb:=g.bad l hl;rcases fU hb with hp|hx
 .obtain⟨g0,g1,r0,r1⟩:=g.ok.ax.dX l hl hp;have:=kI (Aj l.gate.toNat) L;have hid:l.id=0:=((dG hp).1 hb).1.1.2;simp only[cg] at r1;refine⟨⟨by omega,by omega⟩,⟨by omega,by omega⟩,⟨by omega,by omega⟩⟩
 obtain⟨i1,i2⟩:=g.ids.1 l hl hx;have:=kI Let.aD L;have hgr:l.gate=0/\l.aag=0:=by unfold ch at hb;have hk:l.kind=2:=beq_iff_eq.1 hx;simp[hk] at hb;exact⟨by have:=hb;omega,by have:=hb;omega⟩
 refine⟨⟨by omega,by omega⟩,⟨by omega,by omega⟩,⟨by omega,by omega⟩⟩
theorem Px{F:Nat}{L0:List Let}{n:Nat}{a:eX}{m:bU}(ha:Ny F L0 n a)(hm:EE F a.c FM m):∃M,km F a.c m=some M/\aP S 38 [bj F a.c,pR m] (jr F M)/\ay (F:Int) M=0/\M≠[]/\M.length=a.c.length/\ky F L0 (a.w++[m])=some M:=by
 have hne:a.c≠[]:=by obtain⟨_,⟨v,hv,_⟩,_⟩:=hm;intro e;rw[e] at hv;exact absurd hv (abW v)
 obtain⟨G,e,g⟩:=jh ha.chk hne;have:F=G:=by omega
 subst this;have hk:m.k=3\/m.k=8:=by
  have:=hm.1
  simpa using this
 have hk5:k5 m.k:=by unfold k5;omega
 have pa:=Je g hk5 m.a m.b m.c m.l m.o m.s;obtain⟨_,_,M0,e0⟩:=hm;rcases Vb g hk5 m.a m.b m.c m.l m.o m.s with ⟨e,he,h⟩|⟨M,h,hc,_,L,hL,hM⟩
 .rw[e0] at h;exact absurd h (tW he)
 rw[h] at pa;have hlen:M.length=a.c.length:=by
  rw[hM,zu];rcases hk with hk|hk
  .rw[hk] at hL;have hL:Sr F a.c m.a.toNat m.b.toNat=some L:=hL;unfold Sr at hL;split at hL
   .cases hL;rw[jL,fW,fW,aB]
   cases hL
  rw[hk] at hL;have hL:Nz F a.c m.a.toNat m.b.toNat m.c.toNat=some L:=hL;unfold Nz at hL;split at hL
  .cases hL;rw[jL,aB]
  cases hL
 have hap:=Lc hne h;refine⟨M,hap,pa,hc,?_,hlen,by rw[u9 m ha.rep];exact hap⟩;intro e;rw[e] at hlen;exact hne (adg.1 hlen.symm)
theorem szM(l:List bU):gQ 7 (mP l)=true:=by simp[gQ,bU.ps]
theorem XC{w:List bU}(hne:w≠[])(hl:w.length<=1000000):aP S 45 [.one (.p (fN w))] (.one (ah md 7 (mP w))):=by
 have hs:((mP w).all fun e=>e.length==7)=true:=szM w;have hr:(0+(mP w).length)*48<=room:=by unfold room;rw[aau];omega
 show aP S _ [.one (.p (.sl (mP w)))] _;obtain⟨e0,es,hq⟩:∃e0 es,mP w=e0::es:=by cases w with
  |nil=>exact absurd rfl hne
  |cons a t=>exact⟨_,_,rfl⟩
 rw[hq] at hs hr ⊢;refine aJ c45 ?_;have hne:e0::es≠[]:=by simp
 have hgr:ah md 7 (e0::es)=.own md 7 (e0::es):=if_neg hne;rw[hgr];unfold room at hr;simp only[abd,aaz] at hr;simp only[abu] at hs;simp only[go_sem,i45,aF,gQ];simp only[hs,hr,not_true_eq_false,if_true,if_false];simp only[go_sem];exact t8 jy rfl
section
variable {al:Al} {Q:cU} {env:Env} {blk:aw} {os all:List aj} {tr:List dR} {d:Option Nat}
theorem Xz{f:Nat}{vs:List V}{s ty z:Nat}{rd:List Nat}{es:List (List PV)}(hok:∀i∈s::rd,al.ok i=true)(hp:aP S f vs (.one (ah ty z es)))(hlo:S.lone s=false)(hrd:rd=[]\/(RV.one (ah ty z es)).alone=true)
  (hK:∀(c:C) aaf w,grown s ty z es (.one c) aaf->(∀i,i≠s->aaf i=blk i)->(w=[]\/w=[s])->RD S al all os Q (put env d (.one c)) aaf (tr++[⟨rd++w,w,[]⟩])):dP S al (.pc f vs rd s) d all os Q env blk tr:=by
 obtain⟨h1,h2,h3⟩:=cD (blk:=blk) (s:=s) (ty:=ty) (z:=z) (es:=es);refine(qU (v:=.one (dY blk s (ah ty z es)).1) (u:=(dY blk s (ah ty z es)).2) hp ?_).2 ⟨oF fun i hi=>hok i ?_,hK _ _ _ h1 h2 h3⟩
 .rw[hlo,bl];unfold land;rw[if_pos hrd];simp[rV,dp,bQ,gA,iR,dM]
 rcases h3 with h|h<;>rw[h] at hi<;>simp at hi<;>simp[hi]
 rcases hi with hi|hi<;>simp[hi]
end
end Go.Abs
