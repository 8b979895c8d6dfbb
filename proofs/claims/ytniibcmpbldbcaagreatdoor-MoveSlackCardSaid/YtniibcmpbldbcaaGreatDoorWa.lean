/- A part. -/
import Derived.Test.YtniibcmpbldbcaaGreatDoorSa
set_option linter.all false
set_option maxRecDepth 100000
set_option maxHeartbeats 16000000
namespace Go.Abs
section
variable{f:Int}{F:Nat}
structure Let where
 kind:Int
 gate:Int
 aA:Int
 id:Int
 sign:Int
 over:Bool
 deriving DecidableEq
def Let.ps(l:Let):List PV:=[.int .i64 l.kind,.int .i64 l.gate,.int .i64 l.aA,.int .i64 l.id,.int .i64 l.sign,.bool l.over]
def Let.ay(l:Let):Bool:=l.kind==1
def Let.aw(l:Let):Bool:=l.kind==2
abbrev pR(ls:List Let):PV:=.sl (ls.map Let.ps)
abbrev fP(f:Int)(ls:List Let):V:=.agg [.p (.int .i64 f),.p (pR ls)]
abbrev uB(f:Int)(ls:List Let):List C:=[.p (.int .i64 f),.p (pR ls)]
abbrev vi(k:Int):V:=.one (.p (.int .i64 k))
abbrev vb(b:Bool):V:=.one (.p (.bool b))
abbrev ri(k:Int):RV:=.one (.p (.int .i64 k))
abbrev rb(k:Bool):RV:=.one (.p (.bool k))
abbrev au(p:Let->Bool)(ls:List Let):Nat:=ls.countP p
theorem aI{α:Type}{ls:List α}{k:Nat}(h:k<ls.length):∃l,ls[k]?=some l:=⟨ls[k],by simp[h]⟩
theorem sL{p:Let->Bool}{ls:List Let}{k:Nat}{l:Let}(h:ls[k]?=some l)(hp:p l=true):au p (ls.take (k+1))=au p (ls.take k)+1:=by unfold au;obtain⟨hk,rfl⟩:=aV.1 h;rw[List.take_succ_eq_append_getElem hk,uU,List.countP_singleton,if_pos hp]
theorem jR{p:Let->Bool}{ls:List Let}{k:Nat}{l:Let}(h:ls[k]?=some l)(hp:p l=false):au p (ls.take (k+1))=au p (ls.take k):=by unfold au;obtain⟨hk,rfl⟩:=aV.1 h;rw[List.take_succ_eq_append_getElem hk,uU,List.countP_singleton,hp];rfl
theorem yX(p:Let->Bool)(ls:List Let)(k:Nat):au p (ls.take k)<=k:=mU NC (by rw[fJ];exact Nat.min_le_left _ _)
theorem sM(p:Let->Bool)(ls:List Let):au p ls<=ls.length:=NC
theorem lf{ls:List Let}{k:Nat}{l:Let}(h:ls[k]?=some l):(ls.map Let.ps)[k]?=some l.ps:=by simp[h]
theorem wrap_add{a b:Nat}(h:a+b<=9223372036854775807):IntKind.i64.wrap ((a:Int)+(b:Int))=((a+b:Nat):Int):=wrap_small (n:=a+b) h
theorem qF{a:Nat}(h:2*a<=9223372036854775807):IntKind.i64.wrap (2*(a:Int))=((2*a:Nat):Int):=wrap_small (n:=2*a) h
theorem Wv{a b:Nat}(h:b<=a)(h2:a<=9223372036854775807):IntKind.i64.wrap ((a:Int)-(b:Int))=((a-b:Nat):Int):=by have:((a:Int)-(b:Int))=((a-b:Nat):Int):=aa;rw[this];exact wrap_small aa
theorem G0{a:Nat}(h:1<=a)(h2:a<=9223372036854775807):IntKind.i64.wrap ((a:Int)-1)=((a-1:Nat):Int):=Wv (b:=1) h h2
def V2(x y:Option (List PV×List Nat))(f:Nat):Option (PV×List Nat):=match x,y with
 |some (x,r),some (y,s)=>some (.fn f x y,r++s)
 |_,_=>none
theorem apW{x y:List PV}{r s:List Nat}{f:Nat}:V2 (some (x,r)) (some (y,s)) f=some (.fn f x y,r++s):=rfl
theorem ap0{blk:aB}{f:Nat}{a b:List C}:snap blk dO (.hfn f a b)=V2 (collect (snap blk 5) a) (collect (snap blk 5) b) f:=by unfold dO;rw[snap];unfold V2;rfl
theorem ap1{blk:aB}{n id g off:Nat}:snap blk (n+1) (.bt id g off)=Qj (blk id) (collect (snap blk n)) id g off:=by rw[snap];rfl
theorem ap2{blk:aB}{n id g z off len:Nat}:snap blk (n+1) (.hsl id g z off len)=Qk (blk id) (collect (collect (snap blk n))) id g off len:=by rw[snap];rfl
theorem aD{b:Bool}(h:b=true:=by kernel_rfl):b=true:=h
theorem ba{f:Nat}{fn:aX}{args:List V}{r:RV}(hf:S.fns f=some fn)(h:W S .all fn.body (qL .all fn.results fun v blk=>kx blk v=some r) (sv args) A5)(hp:S.prim f args=none:=by rfl)(hl:args.length<=fn.ntmps:=by exact hU rfl):aH S f args r:=afE hp hf hl h
theorem eD:¬((2:Int)=0):=ae
theorem uj(a b:Nat):(a:Int).tmod b=((a%b:Nat):Int):=by rw[Int.tmod_eq_emod_of_nonneg aa];rfl
theorem jG(a:Nat):(a:Int).tmod 2=((a%2:Nat):Int):=uj a 2
theorem fy(a:Nat):(a:Int).tdiv 2=((a/2:Nat):Int):=by rw[Int.tdiv_eq_ediv_of_nonneg aa];rfl
theorem dZ{n:Nat}:¬((n:Int)<(n:Int)):=aa
theorem ps_len(l:Let):l.ps.length=6:=rfl
theorem ajB{blk:aB}{all:List Nat}:rV blk all []=some []:=rfl
attribute [go_sem] ap0 apW ap1 ap2 ajB
def om(g:Int)(l:Let):Bool:=l.ay&&l.gate==g
def lT(g:Int)(l:Let):Bool:=l.aw&&l.id==g
theorem Vh(f:Int)(ls:List Let)(hl:ls.length<=1000000):aH S 41 [fP f ls] (ri (au Let.ay ls)):=by
 refine ba c41 ?_;simp only[go_sem,i41];refine cQ (fun k aj _=>aj 7=.one (.p (pR ls))/\aj 8=vi ls.length/\aj 9=vi k/\aj 3=vi (au Let.ay (ls.take k))) 0 ls.length (aY _) ?_ ?_
 .simp only[go_sem];exact⟨rfl,rfl⟩
 rintro k aj blk hk ⟨h7,h8,h9,h3⟩
 by_cases aq:k<ls.length
 .obtain⟨l,cM⟩:=aI aq;have hi:=lf cM;have aJ:((k:Int)<(ls.length:Int)):=aa;have hb:=yX (Let.ay) ls k;have w1:=bG (n:=k) aa;have w2:=bG (n:=au (Let.ay) (ls.take k)) aa;cases hp:(l.kind==1) with
  |true=>have hc:=sL (p:=Let.ay) cM hp;simp only[go_sem,i41_l1,h3,h7,h8,h9,hi,Let.ps,aJ,w1,w2,hp,hc];first|exact aq|exact⟨aq,rfl⟩
  |false=>have hc:=jR (p:=Let.ay) cM hp;simp only[go_sem,i41_l1,h3,h7,h8,h9,hi,Let.ps,aJ,w1,hp,hc];first|exact aq|exact⟨aq,rfl⟩
 have:k=ls.length:=aa;subst this;rw[jo] at h3;simp only[go_sem,i41_l1,i41_r2,h3,h8,h9,dZ]
theorem Rw(f:Int)(ls:List Let)(hl:ls.length<=1000000):aH S 48 [fP f ls] (ri (au Let.aw ls)):=by
 refine ba c48 ?_;simp only[go_sem,i48];refine cQ (fun k aj _=>aj 7=.one (.p (pR ls))/\aj 8=vi ls.length/\aj 9=vi k/\aj 3=vi (au Let.aw (ls.take k))) 0 ls.length (aY _) ?_ ?_
 .simp only[go_sem];exact⟨rfl,rfl⟩
 rintro k aj blk hk ⟨h7,h8,h9,h3⟩
 by_cases aq:k<ls.length
 .obtain⟨l,cM⟩:=aI aq;have hi:=lf cM;have aJ:((k:Int)<(ls.length:Int)):=aa;have hb:=yX (Let.aw) ls k;have w1:=bG (n:=k) aa;have w2:=bG (n:=au (Let.aw) (ls.take k)) aa;cases hp:(l.kind==2) with
  |true=>have hc:=sL (p:=Let.aw) cM hp;simp only[go_sem,i48_l1,h3,h7,h8,h9,hi,Let.ps,aJ,w1,w2,hp,hc];first|exact aq|exact⟨aq,rfl⟩
  |false=>have hc:=jR (p:=Let.aw) cM hp;simp only[go_sem,i48_l1,h3,h7,h8,h9,hi,Let.ps,aJ,w1,hp,hc];first|exact aq|exact⟨aq,rfl⟩
 have:k=ls.length:=aa;subst this;rw[jo] at h3;simp only[go_sem,i48_l1,i48_r2,h3,h8,h9,dZ]
theorem Yl(f:Int)(ls:List Let)(hl:ls.length<=1000000):aH S 42 [fP f ls] (ri ((au Let.aw ls/2:Nat))):=by
 have hb:=sM Let.aw ls;have e1:IntKind.i64.wrap ((au Let.aw ls:Int).tdiv 2)=((au Let.aw ls/2:Nat):Int):=by
  have:(au Let.aw ls:Int).tdiv 2=((au Let.aw ls/2:Nat):Int):=by rw[Int.tdiv_eq_ediv_of_nonneg aa];omega
  rw[this];exact wrap_small aa
 refine ba c42 ?_;simp only[go_sem,i42,s48,dV (Rw f ls hl),e1,(by decide:¬(2:Int)=0)]
theorem anj(f:Int)(ls:List Let)(hl:ls.length<=1000000):aH S 27 [fP f ls] (ri (au Let.ay ls)):=by
 refine ba c27 ?_;simp only[go_sem,i27];refine cQ (fun k aj blk=>aj 1=.one (.bt 1728000000 1 0)/\blk 1728000000=(1,some (.var (uB f ls)))/\aj 4=vi k/\aj 3=vi (au Let.ay (ls.take k))) 0 ls.length (aY _) ?_ ?_
 .simp only[go_sem];first|exact⟨rfl,rfl⟩|exact⟨rfl,rfl,rfl⟩
 rintro k aj blk hk ⟨aR,hB,kI,il⟩
 by_cases aq:k<ls.length
 .obtain⟨l,cM⟩:=aI aq;have hi:=lf cM;have aJ:((k:Int)<(ls.length:Int)):=aa;have hb:=yX (Let.ay) ls k;have w1:=bG (n:=k) aa;have w2:=bG (n:=au (Let.ay) (ls.take k)) aa;cases hp:(l.kind==1) with
  |true=>have hc:=sL (p:=Let.ay) cM hp;simp only[go_sem,i27_l1,aR,hB,kI,il,hi,Let.ps,aJ,w1,w2,hp,hc];first|exact aq|exact⟨aq,rfl⟩
  |false=>have hc:=jR (p:=Let.ay) cM hp;simp only[go_sem,i27_l1,aR,hB,kI,il,hi,Let.ps,aJ,w1,hp,hc];first|exact aq|exact⟨aq,rfl⟩
 have:k=ls.length:=aa;subst this;rw[jo] at il;simp only[go_sem,i27_l1,i27_r2,aR,hB,kI,il,dZ]
theorem Wm(f:Int)(ls:List Let)(hl:ls.length<=1000000):aH S 26 [fP f ls] (ri (au Let.aw ls)):=by
 refine ba c26 ?_;simp only[go_sem,i26];refine cQ (fun k aj blk=>aj 1=.one (.bt 1664000000 1 0)/\blk 1664000000=(1,some (.var (uB f ls)))/\aj 4=vi k/\aj 3=vi (au Let.aw (ls.take k))) 0 ls.length (aY _) ?_ ?_
 .simp only[go_sem];first|exact⟨rfl,rfl⟩|exact⟨rfl,rfl,rfl⟩
 rintro k aj blk hk ⟨aR,hB,kI,il⟩
 by_cases aq:k<ls.length
 .obtain⟨l,cM⟩:=aI aq;have hi:=lf cM;have aJ:((k:Int)<(ls.length:Int)):=aa;have hb:=yX (Let.aw) ls k;have w1:=bG (n:=k) aa;have w2:=bG (n:=au (Let.aw) (ls.take k)) aa;cases hp:(l.kind==2) with
  |true=>have hc:=sL (p:=Let.aw) cM hp;simp only[go_sem,i26_l1,aR,hB,kI,il,hi,Let.ps,aJ,w1,w2,hp,hc];first|exact aq|exact⟨aq,rfl⟩
  |false=>have hc:=jR (p:=Let.aw) cM hp;simp only[go_sem,i26_l1,aR,hB,kI,il,hi,Let.ps,aJ,w1,hp,hc];first|exact aq|exact⟨aq,rfl⟩
 have:k=ls.length:=aa;subst this;rw[jo] at il;simp only[go_sem,i26_l1,i26_r2,aR,hB,kI,il,dZ]
theorem ah8(f:Int)(ls:List Let)(hl:ls.length<=1000000):aH S 30 [fP f ls] (ri ((au Let.aw ls/2:Nat))):=by
 have hb:=sM Let.aw ls;have e1:IntKind.i64.wrap ((au Let.aw ls:Int).tdiv 2)=((au Let.aw ls/2:Nat):Int):=by
  have:(au Let.aw ls:Int).tdiv 2=((au Let.aw ls/2:Nat):Int):=by rw[Int.tdiv_eq_ediv_of_nonneg aa];omega
  rw[this];exact wrap_small aa
 refine ba c30 ?_;simp only[go_sem,i30,s26,dV (Wm f ls hl),e1,(by decide:¬(2:Int)=0)]
theorem in_r(f:Int)(ls:List Let)(hl:ls.length<=1000000)(g:Int):aH S 55 [fP f ls,vi g] (ri (au (om g) ls)):=by
 refine ba c55 ?_;simp only[go_sem,i55];refine cQ (fun k aj blk=>aj 2=.one (.bt 3520000000 1 0)/\blk 3520000000=(1,some (.var (uB f ls)))/\aj 6=vi k/\aj 5=vi (au (om g) (ls.take k))/\aj 1=vi g) 0 ls.length (aY _) ?_ ?_
 .simp only[go_sem];first|exact⟨rfl,rfl⟩|exact⟨rfl,rfl,rfl⟩
 rintro k aj blk hk ⟨aR,hB,kI,il,xS⟩
 by_cases aq:k<ls.length
 .obtain⟨l,cM⟩:=aI aq;have hi:=lf cM;have aJ:((k:Int)<(ls.length:Int)):=aa;have hb:=yX ((om g)) ls k;have w1:=bG (n:=k) aa;have w2:=bG (n:=au ((om g)) (ls.take k)) aa;cases hp:(l.kind==1) with
  |true=>
   cases hq:(l.gate==g) with
   |true=>have hc:=sL (p:=(om g)) cM (by simp only[om,Let.ay,hp,hq];rfl);simp only[go_sem,i55_l1,aR,hB,kI,il,hi,Let.ps,aJ,w1,w2,xS,hp,hq,hc];first|exact aq|exact⟨aq,rfl⟩
   |false=>have hc:=jR (p:=(om g)) cM (by simp only[om,Let.ay,hp,hq];rfl);simp only[go_sem,i55_l1,aR,hB,kI,il,hi,Let.ps,aJ,w1,xS,hp,hq,hc];first|exact aq|exact⟨aq,rfl⟩
  |false=>have hc:=jR (p:=(om g)) cM (by simp only[om,Let.ay,hp];rfl);simp only[go_sem,i55_l1,aR,hB,kI,il,hi,Let.ps,aJ,w1,xS,hp,hc];first|exact aq|exact⟨aq,rfl⟩
 have:k=ls.length:=aa;subst this;rw[jo] at il;simp only[go_sem,i55_l1,i55_r2,aR,hB,kI,il,dZ]
theorem aqW(f:Int)(ls:List Let)(hl:ls.length<=1000000)(g:Int):aH S 56 [fP f ls,vi g] (ri (au (lT g) ls)):=by
 refine ba c56 ?_;simp only[go_sem,i56];refine cQ (fun k aj blk=>aj 2=.one (.bt 3584000000 1 0)/\blk 3584000000=(1,some (.var (uB f ls)))/\aj 6=vi k/\aj 5=vi (au (lT g) (ls.take k))/\aj 1=vi g) 0 ls.length (aY _) ?_ ?_
 .simp only[go_sem];first|exact⟨rfl,rfl⟩|exact⟨rfl,rfl,rfl⟩
 rintro k aj blk hk ⟨aR,hB,kI,il,xS⟩
 by_cases aq:k<ls.length
 .obtain⟨l,cM⟩:=aI aq;have hi:=lf cM;have aJ:((k:Int)<(ls.length:Int)):=aa;have hb:=yX ((lT g)) ls k;have w1:=bG (n:=k) aa;have w2:=bG (n:=au ((lT g)) (ls.take k)) aa;cases hp:(l.kind==2) with
  |true=>
   cases hq:(l.id==g) with
   |true=>have hc:=sL (p:=(lT g)) cM (by simp only[lT,Let.aw,hp,hq];rfl);simp only[go_sem,i56_l1,aR,hB,kI,il,hi,Let.ps,aJ,w1,w2,xS,hp,hq,hc];first|exact aq|exact⟨aq,rfl⟩
   |false=>have hc:=jR (p:=(lT g)) cM (by simp only[lT,Let.aw,hp,hq];rfl);simp only[go_sem,i56_l1,aR,hB,kI,il,hi,Let.ps,aJ,w1,xS,hp,hq,hc];first|exact aq|exact⟨aq,rfl⟩
  |false=>have hc:=jR (p:=(lT g)) cM (by simp only[lT,Let.aw,hp];rfl);simp only[go_sem,i56_l1,aR,hB,kI,il,hi,Let.ps,aJ,w1,xS,hp,hc];first|exact aq|exact⟨aq,rfl⟩
 have:k=ls.length:=aa;subst this;rw[jo] at il;simp only[go_sem,i56_l1,i56_r2,aR,hB,kI,il,dZ]
def dn (ls:List Let)(i:Nat):Bool:=au Let.ay (ls.take i)%2==0
theorem RO(f:Int)(ls:List Let)(i:Nat)(hl:ls.length<=1000000)(zy:i<=ls.length):aH S 93 [fP f ls,vi i] (rb (dn ls i)):=by
 refine ba c93 ?_;simp only[go_sem,i93];refine cQ (fun k aj blk=>aj 1=vi i/\aj 2=.one (.bt 5952000000 1 0)/\blk 5952000000=(1,some (.var (uB f ls)))/\aj 6=vi k/\aj 5=vi (au Let.ay (ls.take k))) 0 i (aY _) ?_ ?_
 .simp only[go_sem];exact⟨rfl,rfl⟩
 rintro k aj blk hk ⟨h1,aR,hB,kI,il⟩
 have hb:=yX Let.ay ls k;by_cases aq:k<i
 .obtain⟨l,cM⟩:=aI (ls:=ls) (k:=k) aa;have hi:=lf cM;have aJ:((k:Int)<(i:Int)):=aa;have w1:=bG (n:=k) aa;have w2:=bG (n:=au Let.ay (ls.take k)) aa;cases hp:(l.kind==1) with
  |true=>have hc:=sL (p:=Let.ay) cM hp;simp only[go_sem,i93_l1,h1,aR,hB,kI,il,hi,Let.ps,aJ,w1,w2,hp,hc];exact aq
  |false=>have hc:=jR (p:=Let.ay) cM hp;simp only[go_sem,i93_l1,h1,aR,hB,kI,il,hi,Let.ps,aJ,w1,hp,hc];exact aq
 have:k=i:=aa;subst this;have e2:((((au Let.ay (ls.take k))%2:Nat):Int)==0)=dn ls k:=by
  unfold dn;cases h:(au Let.ay (ls.take k)%2==0) with
  |true=>simp at h ⊢;omega
  |false=>simp at h ⊢;omega
 simp only[go_sem,i93_l1,i93_r2,h1,kI,il,dZ,eD,jG,e2]
theorem amf(a b:Let):aH S 91 [.agg (a.ps.map .p),.agg (b.ps.map .p)] (rb (decide (a.gate<b.gate)||(a.gate==b.gate&&decide (a.aA<b.aA)))):=by
 refine ba c91 ?_;by_cases h1:a.gate<b.gate
 .simp only[go_sem,i91,Let.ps,h1]
 cases h2:(a.gate==b.gate) with
 |true=>simp only[go_sem,i91,Let.ps,h1,h2]
 |false=>simp only[go_sem,i91,Let.ps,h1,h2]
def dk(n i:Nat)(fw:Bool):Nat:=if fw then 2*i else 2*((i+n-1)%n)+1
theorem QS(f:Int)(ls:List Let)(i:Nat)(fw:Bool)(hl:ls.length<=1000000)(hi:i<ls.length):aH S 92 [fP f ls,vi i,vb fw] (ri (dk ls.length i fw)):=by
 refine ba c92 ?_;cases fw with
 |true=>have e:IntKind.i64.wrap (2*(i:Int))=((2*i:Nat):Int):=wrap_small (n:=2*i) aa;simp only[go_sem,i92,e,dk]
 |false=>
  have w1:IntKind.i64.wrap ((i:Int)+(ls.length:Int))=((i+ls.length:Nat):Int):=wrap_small (n:=i+ls.length) aa;have w2:IntKind.i64.wrap (((i+ls.length:Nat):Int)-1)=((i+ls.length-1:Nat):Int):=by have:(((i+ls.length:Nat):Int)-1)=((i+ls.length-1:Nat):Int):=aa;rw[this];exact wrap_small aa
  have e1:=uj (i+ls.length-1) ls.length;have hm:=dw (i+ls.length-1) (show 0<ls.length by omega);have w3:IntKind.i64.wrap (2*(((i+ls.length-1)%ls.length:Nat):Int))=((2*((i+ls.length-1)%ls.length):Nat):Int):=wrap_small (n:=2*((i+ls.length-1)%ls.length)) aa;have w4:=bG (n:=2*((i+ls.length-1)%ls.length)) aa;have hz:¬((ls.length:Int)=0):=aa;simp only[go_sem,i92,w1,w2,e1,w3,w4,hz,dk]
def zO(ls:List Let)(i j:Nat):Bool:=j !=i&&(match ls[j]? with|some l=>l.aw&&l.id==((ls[i]?).map Let.id).getD 0|none=>false)
def fH(ls:List Let)(i:Nat):Nat:=((List.range ls.length).find? (zO ls i)).getD i
theorem DI{p:Nat->Bool}:∀ {n k:Nat},k<n->(∀j,j<k->p j=false)->p k=true->(List.range n).find? p=some k:=by intro n k hk hn hp;exact List.find?_range_eq_some.2 ⟨hp,by simpa using hk,fun j hj=>by simp[hn j hj]⟩
theorem K9{p:Nat->Bool}{n:Nat}(hn:∀j,j<n->p j=false):(List.range n).find? p=none:=by rw[Hf];intro x hx;simp[hn x (by simpa using hx)]
theorem am8(f:Int)(ls:List Let)(i:Nat)(hl:ls.length<=1000000)(zy:i<ls.length):aH S 94 [fP f ls,vi i] (ri (fH ls i)):=by
 obtain⟨li,uJ⟩:=aI zy;have iw:=lf uJ;have key:∀j l,ls[j]?=some l->zO ls i j=(j !=i&&(l.aw&&l.id==li.id)):=fun j l h=>by simp[zO,h,uJ]
 refine ba c94 ?_;simp only[go_sem,i94];refine cQ (fun k aj blk=>aj 1=vi i/\aj 2=.one (.bt 6016000000 1 0)/\blk 6016000000=(1,some (.var (uB f ls)))/\aj 5=vi k/\ ∀j,j<k->zO ls i j=false) 0 ls.length (aY _) ?_ ?_
 .simp only[go_sem];exact⟨rfl,fun j h=>absurd h (tA j)⟩
 rintro k aj blk hk ⟨h1,aR,hB,kI,hn⟩
 by_cases aq:k<ls.length
 .obtain⟨l,cM⟩:=aI aq;have hi:=lf cM;have aJ:((k:Int)<(ls.length:Int)):=aa;have w1:=bG (n:=k) aa;have Eg:=key k l cM;have step:zO ls i k=false->∀j,j<k+1->zO ls i j=false:=fun h j hj=>by
   rcases nZ.1 hj with h2|rfl
   .exact hn j h2
   exact h
  by_cases hki:k=i
  .have hb:((k:Int)!=(i:Int))=false:=by simp[hki]
   have hs:=step (by rw[Eg];simp[hki]);simp only[go_sem,i94_l1,h1,aR,hB,kI,aJ,w1,hb];exact⟨ah,aq,hs⟩
  have hb:((k:Int)!=(i:Int))=true:=by simp;omega
  have aU:(k !=i)=true:=by simp[hki]
  cases hp:(l.kind==2) with
  |false=>have hs:=step (by rw[Eg,aU,Let.aw,hp];rfl);simp only[go_sem,i94_l1,h1,aR,hB,kI,hi,Let.ps,aJ,w1,hb,hp];exact⟨ah,aq,hs⟩
  |true=>
   cases hq:(l.id==li.id) with
   |false=>have hs:=step (by rw[Eg,aU,Let.aw,hp,hq];rfl);simp only[go_sem,i94_l1,h1,aR,hB,kI,hi,iw,Let.ps,aJ,w1,hb,hp,hq];exact⟨ah,aq,hs⟩
   |true=>
    have hf:fH ls i=k:=by unfold fH;rw[DI aq hn (by rw[Eg,aU,Let.aw,hp,hq];rfl)];rfl
    simp only[go_sem,i94_l1,h1,aR,hB,kI,hi,iw,Let.ps,aJ,hb,hp,hq,hf];show te _ _ _=true
    kernel_rfl
 have:k=ls.length:=aa;subst this;have hf:fH ls i=i:=by unfold fH;rw[K9 hn];rfl
 simp only[go_sem,i94_l1,i94_r2,h1,aR,hB,kI,dZ,hf]
abbrev A4(l:List Nat):PV:=.sl (l.map fun n:Nat=>[.int .i64 (n:Int)])
theorem at_r(l:List Nat)(n k0:Nat)(hl:l.length<=1000000)(Ck:l[k0]?=some n)(hn:∀j,j<k0->l[j]? ≠some n):aH S 95 [.one (.p (A4 l)),vi n] (ri k0):=by
 have hk0l:=(aV.1 Ck).1;refine ba c95 ?_;simp only[go_sem,i95];refine cQ (fun k aj blk=>aj 0=.one (.p (A4 l))/\aj 1=vi n/\aj 5=vi k) 0 k0 (aY _) ?_ ?_
 .simp only[go_sem];rfl
 rintro k aj blk hk ⟨h0,h1,h5⟩
 have aJ:((k:Int)<(l.length:Int)):=aa;have w1:=bG (n:=k) aa;obtain⟨m,hm⟩:=aI (ls:=l) (k:=k) aa;have hi:(l.map fun n:Nat=>[PV.int .i64 (n:Int)])[k]?=some [.int .i64 (m:Int)]:=by simp[hm]
 by_cases aq:k<k0
 .have aK:((m:Int)==(n:Int))=false:=by
   have:m≠n:=fun e=>hn k aq (by rw[hm,e]);simp;omega
  simp only[go_sem,i95_l1,h0,h1,h5,aJ,w1,hi,aK];exact aq
 have:k=k0:=aa;subst this;have e:m=n:=by rw[hm] at Ck;exact rB Ck
 subst e;simp only[go_sem,i95_l1,h0,h1,h5,aJ,hi]
abbrev U4(l:Let):V:=.agg [.p (.int .i64 l.kind),.p (.int .i64 l.gate),.p (.int .i64 l.aA),.p (.int .i64 l.id),.p (.int .i64 l.sign),.p (.bool l.over)]
def GA(a b:Let):Bool:=decide (a.gate<b.gate)||(a.gate==b.gate&&decide (a.aA<b.aA))
theorem amg(a b:Let):aH S 91 [U4 a,U4 b] (rb (GA a b)):=amf a b
abbrev nP(o:List Nat):List (List PV):=o.map fun n:Nat=>[PV.int .i64 (n:Int)]
theorem iA{o:List Nat}{k n:Nat}(h:o[k]?=some n):(nP o)[k]?=some [.int .i64 (n:Int)]:=by simp[h]
def AT(ls:List Let)(i j:Nat):Bool:=match ls[j]?,ls[i]? with
 |some a,some b=>GA a b
 |_,_=>false
def zN(ls:List Let)(o:List Nat)(i:Nat):List Nat:=o.take (o.takeWhile (AT ls i)).length++i::o.drop (o.takeWhile (AT ls i)).length
def Af(ls:List Let)(o:List Nat)(i:Nat):List Nat:=match ls[i]? with
 |some l=>if l.ay then zN ls o i else o
 |none=>o
def aC(ls:List Let):List Nat:=(List.range ls.length).foldl (Af ls) []
def n9(ls:List Let)(k:Nat):List Nat:=(List.range k).foldl (Af ls) []
theorem HC(ls:List Let)(k:Nat):n9 ls (k+1)=Af ls (n9 ls k) k:=by unfold n9;rw[uv,Bq];rfl
theorem agI{ls:List Let}{o:List Nat}{i:Nat}{x:Nat}(h:x∈Af ls o i):x∈o\/x=i:=by
 unfold Af at h;split at h
 .split at h
  .unfold zN at h;rcases fq.1 h with h|h
   .exact .inl (vP h)
   rcases cT.1 h with h|h
   .exact .inr h
   exact .inl (vO h)
  exact .inl h
 exact .inl h
theorem NV{ls:List Let}:∀ {k x:Nat},x∈n9 ls k->x<k:=by
 intro k
 induction k with
 |zero=>intro x h;simp[n9] at h
 |succ k ih=>
  intro x h;rw[HC] at h;rcases agI h with h|h
  .have:=ih h;omega
  omega
theorem uy(ls:List Let):∀k,(n9 ls k).length<=k:=by
 intro k
 induction k with
 |zero=>simp[n9]
 |succ k ih=>
  rw[HC];unfold Af;split
  .split
   .unfold zN;simp only[fc,cE,fJ,nW];omega
   omega
  omega
def ER(site:Nat)(o:List Nat)(v:V)(blk:aB):Prop:=(o=[]/\v=.one (.p .nils))\/(o≠[]/\ ∃g,v=.one (.hsl site g 1 0 o.length)/\blk site=(g,some (.arr 3 1 (nP o))))
theorem agK{o:List Nat}{i K:Nat}{aj:Env}{blk:aB}{Q:ef}(ho:ER 3648576640 o (aj 3) blk)(h4:aj 4=vi i)(h5:aj 5=vi K)(hK:K<=o.length)(hl:o.length<=1000000)
  (hq:∀aE ak,aE 1=aj 1->aE 4=aj 4->ak 3648000000=blk 3648000000->ER 3648576640 (o.take K++i::o.drop K) (aE 3) ak->Q .normal aE ak):
  W S .all i57_r2 Q aj blk:=by
 rcases ho with ⟨rfl,h3⟩|⟨ho,g,h3,hC⟩
 .have hK0:K=0:=by simpa using hK
  subst hK0;simp only[go_sem,i57_r2,h3,h4,h5,fj,fM];refine⟨ah,hq _ _ ?_ ?_ ?_ (.inr ⟨af,(blk 3648576640).1+1,?_,?_⟩)⟩;all_goals simp only[go_sem]
 have kL:∀n:Nat,n<=1000001->n*8<=140737488355328:=fun n hn=>aa;by_cases hK0:K=0
 .subst hK0;have ht:List.take o.length (nP o)=nP o:=fY af;have dI:=kL (1+o.length) aa;simp only[go_sem,i57_r2,h3,h4,h5,hC,ht,dI,fj,fM];refine⟨ah,hq _ _ ?_ ?_ ?_ (.inr ⟨af,g+1,?_,?_⟩)⟩;all_goals simp only[go_sem]
  simp;omega
 have ht:(List.take K (nP o)).length=K:=by simp;omega
 have htt:List.take K (List.take K (nP o))=List.take K (nP o):=by rw[List.take_take,Nat.min_self]
 have oi:List.take (K+1) (List.take K (nP o)++[[PV.int .i64 (i:Int)]])=List.take K (nP o)++[[PV.int .i64 (i:Int)]]:=fY (by simp;omega);have htd:List.take (o.length-K) (List.drop K (nP o))=List.drop K (nP o):=fY af;have hld:(List.drop K (nP o)).length=o.length-K:=af;have yh:(List.take K (nP o)++[[PV.int .i64 (i:Int)]]).length=K+1:=by simp;omega
 have dI:=kL K aa;have nH:=kL (K+1) aa;have hr3:=kL (K+1+(o.length-K)) aa;have hle:K+(o.length-K)<=o.length:=aa;simp only[go_sem,i57_r2,h3,h4,h5,hC,hK,ht,hK0,dI,nH,hr3,htt,oi,htd,hld,yh,hle,fj,fM];refine⟨ah,hq _ _ ?_ ?_ ?_ (.inr ⟨af,g+1,?_,?_⟩)⟩;all_goals simp only[go_sem]
 .simp;omega
 simp
theorem aqP{α:Type}{p:α->Bool}{l:List α}{K:Nat}(hK:K<=l.length)(h1:∀j x,j<K->l[j]?=some x->p x=true)(h2:∀x,l[K]?=some x->p x=false):(l.takeWhile p).length=K:=by
 induction l generalizing K with
 |nil=>simp at hK ⊢;omega
 |cons a l ih=>
  cases K with
  |zero=>have:=h2 a rfl;simp[List.takeWhile,this]
  |succ K=>have:=h1 0 a aa rfl;simp only[List.takeWhile,this,cE];rw[ih (by simpa using hK) (fun j x hj hx=>h1 (j+1) x aa (by simpa using hx)) (fun x hx=>h2 x (by simpa using hx))]
theorem agP{ls:List Let}{f:Int}{o:List Nat}{i:Nat}{li:Let}{aj:Env}{blk:aB}{Q:ef}(ho:ER 3648576640 o (aj 3) blk)(h1:aj 1=.one (.bt 3648000000 1 0))(hB:blk 3648000000=(1,some (.var (uB f ls))))(h4:aj 4=vi i)(h5:aj 5=vi 0)
  (uJ:ls[i]?=some li) (aq:∀x∈o,x<ls.length) (hl:o.length<=1000000)
  (hq:∀aE ak,aE 1=aj 1->aE 4=aj 4->ak 3648000000=blk 3648000000->ER 3648576640 (zN ls o i) (aE 3) ak->Q .normal aE ak):
  W S .all (.loop i57_l1) (rG 2 (Bj S .all i57_r2 Q)) aj blk:=by
 have iw:=lf uJ;refine cQ (fun k aE ak=>aE 1=aj 1/\aE 4=aj 4/\aE 3=aj 3/\ak=blk/\aE 5=vi k/\ ∀j x,j<k->o[j]?=some x->AT ls i x=true) 0 o.length (aY _) ?_ ?_
 .exact⟨rfl,rfl,rfl,rfl,h5,fun j x hj=>absurd hj (tA j)⟩
 rintro k aE ak hk ⟨jI,xQ,qo,rfl,DQ,hp⟩
 rw[h1] at jI;rw[h4] at xQ;have fin:∀e:Env,e 1=aE 1->e 4=aE 4->e 3=aE 3->e 5=aE 5->(∀x,o[k]?=some x->AT ls i x=false)->W S .all i57_r2 Q e ak:=by
  intro e e1 e4 e3 e5 r4;have hK:=aqP hk hp r4;have lD:ER 3648576640 o (e 3) ak:=by rw[e3,qo];exact ho
  refine agK (i:=i) (K:=k) lD (by rw[e4,xQ]) (by rw[e5,DQ]) hk hl ?_;intro cS aT q1 q2 q3 q4;refine hq cS aT (by rw[q1,e1,jI,h1]) (by rw[q2,e4,xQ,h4]) q3 ?_;unfold zN;rw[hK];exact q4
 by_cases cM:k<o.length
 .obtain⟨x,hx⟩:=aI cM;have wX:=aq x (aQ hx);obtain⟨lx,hlx⟩:=aI wX;have jL:=lf hlx;have qV:=iA hx;have aJ:((k:Int)<(o.length:Int)):=aa;have w1:=bG (n:=k) aa;have abb:AT ls i x=GA lx li:=by simp[AT,hlx,uJ]
  have PC:=amg lx li;rcases ho with ⟨rfl,_⟩|⟨ho,g,h3,hC⟩
  .simp at cM
  rw[h3] at qo;cases hb:GA lx li with
  |true=>
   rw[hb] at PC;simp only[go_sem,i57_l1,h1,h3,h4,jI,qo,xQ,DQ,hB,hC,aJ,qV,jL,iw,Let.ps,cM,w1,s91,mZ PC];refine⟨ah,fun j y hj hy=>?_⟩;rcases nZ.1 hj with hj|rfl
   .exact hp j y hj hy
   rw[hx] at hy;cases hy;rw[abb,hb]
  |false=>rw[hb] at PC;simp only[go_sem,i57_l1,jI,qo,xQ,DQ,hB,hC,aJ,qV,jL,iw,Let.ps,cM,s91,mZ PC];refine⟨ah,fin _ ?_ ?_ ?_ ?_ (fun y hy=>by rw[hx] at hy;cases hy;rw[abb,hb])⟩;all_goals simp only[go_sem,jI,qo,xQ,DQ]
 have:k=o.length:=aa;subst this;have dF:∀x,o[o.length]?=some x->AT ls i x=false:=fun x hx=>by simp at hx
 rcases ho with ⟨rfl,h3⟩|⟨ho,g,h3,hC⟩
 .rw[h3] at qo;simp only[go_sem,i57_l1,qo,DQ,dZ];refine⟨ah,fin _ ?_ ?_ ?_ ?_ dF⟩;all_goals simp only[go_sem,jI,qo,xQ,DQ]
 rw[h3] at qo;simp only[go_sem,i57_l1,qo,DQ,dZ];refine⟨ah,fin _ ?_ ?_ ?_ ?_ dF⟩;all_goals simp only[go_sem,jI,qo,xQ,DQ]
theorem alu(ls:List Let)(o:List Nat)(i:Nat):(zN ls o i).length=o.length+1:=by unfold zN;simp only[fc,cE,fJ,nW];have:=(List.takeWhile_sublist (AT ls i) (l:=o)).length_le;omega
theorem MY{blk:aB}{id g z len ty:Nat}{es:List (List PV)}(h:blk id=(g,some (.arr ty z es)))(hl:len=es.length):kx blk (.one (.hsl id g z 0 len))=some (.one (.own ty z es)):=by subst hl;simp only[kx,tL,oa,mN,lG,h,aZ,and_self,if_true,jo];rfl
def NW(o:List Nat):RC:=if o=[] then .p .nils else .own 3 1 (nP o)
theorem agU(f:Int)(ls:List Let)(hl:ls.length<=1000000):aH S 57 [fP f ls] (.one (NW (aC ls))):=by
 refine ba c57 ?_;simp only[go_sem,i57];refine cQ (fun k aj blk=>aj 1=.one (.bt 3648000000 1 0)/\blk 3648000000=(1,some (.var (uB f ls)))/\aj 4=vi k/\ER 3648576640 (n9 ls k) (aj 3) blk) 0 ls.length (aY _) ?_ ?_
 .simp only[go_sem];exact⟨rfl,.inl ⟨rfl,rfl⟩⟩
 rintro k aj blk hk ⟨h1,hB,h4,ho⟩
 have dM:=uy ls k;by_cases aq:k<ls.length
 .obtain⟨l,cM⟩:=aI aq;have hi:=lf cM;have aJ:((k:Int)<(ls.length:Int)):=aa;have w1:=bG (n:=k) aa;have hs:=HC ls k;unfold Af at hs;rw[cM] at hs;cases hp:(l.kind==1) with
  |false=>
   have lS:(l.kind !=1)=true:=by simp[bne,hp]
   simp only[Let.ay,hp] at hs;have hs:n9 ls (k+1)=n9 ls k:=hs;simp only[go_sem,i57_l4,i57_r3,h1,hB,h4,hi,Let.ps,aJ,lS,w1,hs,aq];rcases ho with ⟨e,h3⟩|⟨ho,g,h3,hC⟩
   .exact .inl ⟨e,by simp only[go_sem,h3]⟩
   exact .inr ⟨ho,g,by simp only[go_sem,h3],by simp only[go_sem,hC]⟩
  |true=>
   have lS:(l.kind !=1)=false:=by simp[bne,hp]
   simp only[Let.ay,hp] at hs;have hs:n9 ls (k+1)=zN ls (n9 ls k) k:=hs;simp only[go_sem,i57_l4,h1,hB,h4,hi,Let.ps,aJ,lS];refine agP (ls:=ls) (f:=f) (o:=n9 ls k) (i:=k) ?_ ?_ ?_ ?_ ?_ cM (fun x hx=>Nat.lt_trans (NV hx) aq) aa ?_
   .rcases ho with ⟨e,h3⟩|⟨ho,g,h3,hC⟩
    .exact .inl ⟨e,by simp only[go_sem,h3]⟩
    exact .inr ⟨ho,g,by simp only[go_sem,h3],by simp only[go_sem,hC]⟩
   .simp only[go_sem,h1]
   .simp only[go_sem,hB]
   .simp only[go_sem,h4]
   .rfl
   intro aE ak q1 q2 q3 q4;simp only[go_sem,h1,h4,hB] at q1 q2 q3;simp only[go_sem,i57_r3,q1,q2,q3,w1,hs,aq];rcases q4 with ⟨e,h3⟩|⟨ho,g,h3,hC⟩
   .exact .inl ⟨e,by simp only[go_sem,h3]⟩
   exact .inr ⟨ho,g,by simp only[go_sem,h3],by simp only[go_sem,hC]⟩
 have:k=ls.length:=aa;subst this;have he:aC ls=n9 ls ls.length:=rfl;rw[<- he] at ho;rcases ho with ⟨e,h3⟩|⟨ho,g,h3,hC⟩
 .simp only[go_sem,i57_l4,i57_r5,h1,hB,h3,h4,dZ,NW,e]
 simp only[go_sem,i57_l4,i57_r5,h1,hB,h3,h4,dZ,NW,ho];exact MY hC af
def fN(ls:List Let)(ax:List Nat)(d:Nat):Nat:=
 if 2*ls.length<=d then
  if d%2=0 then dk ls.length (ax.getD (((d-2*ls.length)/2+1)%ax.length) 0) (!dn ls (ax.getD (((d-2*ls.length)/2+1)%ax.length) 0))
  else dk ls.length (ax.getD ((d-2*ls.length)/2) 0) (dn ls (ax.getD ((d-2*ls.length)/2) 0))
 else
  let fw:=d%2==0
  let v:=if fw then (d/2+1)%ls.length else d/2
  match ls[v]? with
  |none=>0
  |some l=>if l.kind==2 then dk ls.length (fH ls v) (fw==(l.over==(l.sign==1)))
   else if dn ls v==fw then 2*ls.length+2*ax.idxOf v else 2*ls.length+2*((ax.idxOf v+ax.length-1)%ax.length)+1
theorem ac4{ls:List Let}{i:Nat}(hi:i<ls.length):fH ls i<ls.length:=by
 unfold fH;cases h:(List.range ls.length).find? (zO ls i) with
 |none=>exact hi
 |some k=>
  have:=Ko h
  simpa using this
theorem Fv{n i:Nat}{fw:Bool}(hi:i<n):dk n i fw<2*n:=by unfold dk;have:=dw (i+n-1) (show 0<n by omega);split<;>omega
theorem Qu{ls:List Let}{ax:List Nat}{d:Nat}(jT:∀x∈ax,x<ls.length)(hp:∀v l,ls[v]?=some l->(l.kind==2)=false->v∈ax)(hd:d<2*ls.length+2*ax.length):fN ls ax d<2*ls.length+2*ax.length:=by
 have Cj:∀k,k<ax.length->ax.getD k 0<ls.length:=fun k hk=>by obtain⟨x,hx⟩:=aI hk;rw[cJ,hx];exact jT x (aQ hx)
 unfold fN;by_cases h:2*ls.length<=d
 .rw[if_pos h];have hm:=dw ((d-2*ls.length)/2+1) (show 0<ax.length by omega);by_cases h2:d%2=0
  .rw[if_pos h2];exact Dm (Fv (Cj _ hm)) aa
  rw[if_neg h2];exact Dm (Fv (Cj _ aa)) aa
 rw[if_neg h];have hn:0<ls.length:=aa;have hv:(if (d%2==0)=true then (d/2+1)%ls.length else d/2)<ls.length:=by
  split
  .exact dw _ hn
  omega
 simp only;generalize (if (d%2==0)=true then (d/2+1)%ls.length else d/2)=v at hv;obtain⟨l,hl⟩:=aI hv;rw[hl];simp only;by_cases hk:(l.kind==2)=true
 .rw[if_pos hk];exact Dm (Fv (ac4 hv)) aa
 rw[if_neg hk];have l6:=hp v l hl (by simpa using hk);have Mg:ax.idxOf v<ax.length:=List.idxOf_lt_length_iff.2 l6;have hm:=dw (ax.idxOf v+ax.length-1) (show 0<ax.length by omega);split<;>omega
theorem ali{ax:List Nat}{v:Nat}:∀j,j<ax.idxOf v->ax[j]? ≠some v:=by
 induction ax with
 |nil=>intro j h;simp at h
 |cons a ax ih=>
  intro j h e;rw[List.idxOf_cons] at h;by_cases ha:a=v
  .simp[ha] at h
  have hb:(a==v)=false:=by simpa using ha
  rw[hb] at h;cases j with
  |zero=>simp at e;exact ha e
  |succ j=>exact ih j (by simp at h;omega) (by simpa using e)
theorem abv{ax:List Nat}{v:Nat}(h:v∈ax):ax[ax.idxOf v]?=some v:=by have hl:ax.idxOf v<ax.length:=List.idxOf_lt_length_iff.2 h;rw[oQ hl,List.getElem_idxOf hl]
theorem aro(f:Int)(ls:List Let)(ax:List Nat)(d:Nat)(hl:ls.length<=1000000)(iK:ax.length<=1000000)(jT:∀x∈ax,x<ls.length)(hp:∀v l,ls[v]?=some l->(l.kind==2)=false->v∈ax)
  (hd:d<2*ls.length+2*ax.length):aH S 58 [fP f ls,.one (.p (A4 ax)),vi d] (ri (fN ls ax d)):=by
 have m1:IntKind.i64.wrap (2*(ls.length:Int))=((2*ls.length:Nat):Int):=wrap_small (n:=2*ls.length) aa;unfold fN;by_cases h:2*ls.length<=d
 .rw[if_pos h];refine ba c58 ?_;have h':((2*ls.length:Nat):Int)<=(d:Int):=aa;have m2:IntKind.i64.wrap ((d:Int)-((2*ls.length:Nat):Int))=((d-2*ls.length:Nat):Int):=by
   have:((d:Int)-((2*ls.length:Nat):Int))=((d-2*ls.length:Nat):Int):=aa;rw[this];exact wrap_small aa
  have m3:=wrap_small (n:=(d-2*ls.length)/2) aa;have hm:=dw ((d-2*ls.length)/2+1) (show 0<ax.length by omega);have pK:¬((ax.length:Int)=0):=aa;by_cases h2:d%2=0
  .rw[if_pos h2];have m4:=bG (n:=(d-2*ls.length)/2) aa;have ij:(((d%2:Nat):Int)==0)=true:=by simp[h2]
   have m5:=uj ((d-2*ls.length)/2+1) ax.length;obtain⟨v,hv⟩:=aI hm;have qC:ax.getD (((d-2*ls.length)/2+1)%ax.length) 0=v:=by rw[cJ,hv];rfl
   rw[qC];have ss:=jT v (aQ hv);have yk:=iA hv;have pd:=RO f ls v hl aa;have pa:=QS f ls v (!dn ls v) hl ss;simp only[go_sem,i58,m1,m2,m3,m4,m5,h',ij,yk,pK,jG,fy,eD,s93,s92,mZ pd,lO pa];exact aD
  rw[if_neg h2];have ij:(((d%2:Nat):Int)==0)=false:=by simp;omega
  obtain⟨v,hv⟩:=aI (ls:=ax) (k:=(d-2*ls.length)/2) aa;have qC:ax.getD ((d-2*ls.length)/2) 0=v:=by rw[cJ,hv];rfl
  rw[qC];have ss:=jT v (aQ hv);have yk:=iA hv;have pd:=RO f ls v hl aa;have pa:=QS f ls v (dn ls v) hl ss;simp only[go_sem,i58,m1,m2,m3,h',ij,yk,jG,fy,eD,s93,s92,mZ pd,lO pa];exact aD
 rw[if_neg h];have h':¬(((2*ls.length:Nat):Int)<=(d:Int)):=aa;have m3:=wrap_small (n:=d/2) aa;have fR:¬((ls.length:Int)=0):=aa;have pK:=dw (d/2+1) (show 0<ls.length by omega);have m4:=bG (n:=d/2) aa;have m5:=uj (d/2+1) ls.length;have body:∀v:Nat,v<ls.length->∀fw:Bool,v=(if fw then (d/2+1)%ls.length else d/2)->(d%2==0)=fw->(((d%2:Nat):Int)==0)=fw->aH S 58 [fP f ls,.one (.p (A4 ax)),vi d] (ri ((match ls[v]? with
   |none=>0
   |some l=>if l.kind==2 then dk ls.length (fH ls v) (fw==(l.over==(l.sign==1)))
    else if dn ls v==fw then 2*ls.length+2*ax.idxOf v else 2*ls.length+2*((ax.idxOf v+ax.length-1)%ax.length)+1:Nat):Int)):=by
  intro v hv fw fi yf qS;obtain⟨l,l8⟩:=aI hv;have gT:=lf l8;rw[l8];simp only;refine ba c58 ?_;cases hk:(l.kind==2) with
  |true=>
   have po:=am8 f ls v hl hv;have pa:=QS f ls (fH ls v) (fw==(l.over==(l.sign==1))) hl (ac4 hv);cases fw with
   |true=>have fi:v=(d/2+1)%ls.length:=fi;rw[fi] at gT po pa ⊢;simp only[go_sem,i58,m1,m3,m4,m5,h',qS,gT,Let.ps,fR,hk,jG,fy,eD,s94,s92,lO po,lO pa];exact aD
   |false=>have fi:v=d/2:=fi;rw[fi] at gT po pa ⊢;simp only[go_sem,i58,m1,m3,h',qS,gT,Let.ps,hk,jG,fy,eD,s94,s92,lO po,lO pa];exact aD
  |false=>
   have l6:=hp v l l8 hk;have Mg:ax.idxOf v<ax.length:=List.idxOf_lt_length_iff.2 l6;have pat:=at_r ax v (ax.idxOf v) iK (abv l6) ali;have pd:=RO f ls v hl aa;have Mh:¬((ax.length:Int)=0):=aa;have kJ:=dw (ax.idxOf v+ax.length-1) (show 0<ax.length by omega);have n1:=qF (a:=ax.idxOf v) aa;have n2:=wrap_add (a:=2*ls.length) (b:=2*ax.idxOf v) aa;have n3:=wrap_add (a:=ax.idxOf v) (b:=ax.length) aa;have n4:=G0 (a:=ax.idxOf v+ax.length) aa aa;have n5:=uj (ax.idxOf v+ax.length-1) ax.length;have n6:=qF (a:=(ax.idxOf v+ax.length-1)%ax.length) aa;have n7:=wrap_add (a:=2*ls.length) (b:=2*((ax.idxOf v+ax.length-1)%ax.length)) aa
   have n8:=bG (n:=2*ls.length+2*((ax.idxOf v+ax.length-1)%ax.length)) aa;cases fw with
   |true=>
    have fi:v=(d/2+1)%ls.length:=fi;cases fp:dn ls v with
    |true=>rw[fp] at pd;subst fi;simp only[go_sem,i58,m1,m3,m4,m5,h',qS,gT,Let.ps,fR,hk,jG,fy,eD,s95,s93,dV pat,cH pd,n1,n2]
    |false=>rw[fp] at pd;subst fi;simp only[go_sem,i58,m1,m3,m4,m5,h',qS,gT,Let.ps,fR,hk,jG,fy,eD,s95,s93,dV pat,cH pd,n3,n4,n5,n6,n7,n8,Mh]
   |false=>
    have fi:v=d/2:=fi;cases fp:dn ls v with
    |true=>rw[fp] at pd;subst fi;simp only[go_sem,i58,m1,m3,h',qS,gT,Let.ps,hk,jG,fy,eD,s95,s93,dV pat,cH pd,n3,n4,n5,n6,n7,n8,Mh]
    |false=>rw[fp] at pd;subst fi;simp only[go_sem,i58,m1,m3,h',qS,gT,Let.ps,hk,jG,fy,eD,s95,s93,dV pat,cH pd,n1,n2]
 have ss:(if (d%2==0)=true then (d/2+1)%ls.length else d/2)<ls.length:=by
  split
  .exact pK
  omega
 have:=body _ ss (d%2==0) rfl rfl (by cases hq:(d%2==0)<;>simp at hq ⊢ <;>omega);exact this
abbrev bP(o:List Bool):List (List PV):=o.map fun b:Bool=>[PV.bool b]
theorem tD{o:List Bool}{k:Nat}{b:Bool}(h:o[k]?=some b):(bP o)[k]?=some [.bool b]:=by simp[h]
theorem HF(o:List Bool)(k:Nat)(b:Bool):(bP o).set k [.bool b]=bP (o.set k b):=by simp[List.map_set]
def eZ(next:Nat->Nat):Nat->Nat->List Bool->List Nat×List Bool
 |0,_,seen=>([],seen)
 |k+1,x,seen=>if seen.getD x true then ([],seen) else (x::(eZ next k (next x) (seen.set x true)).1,(eZ next k (next x) (seen.set x true)).2)
def yF(s:List Bool):Nat:=s.countP (fun b=> !b)
theorem Nu{s:List Bool}{x:Nat}(h:s[x]?=some false):yF (s.set x true)+1=yF s:=by
 induction s generalizing x with
 |nil=>simp at h
 |cons b s ih=>
  cases x with
  |zero=>simp at h;subst h;simp[yF]
  |succ x=>have:=ih (x:=x) (by simpa using h);unfold yF at this ⊢;simp only[List.set_cons_succ,uV];omega
theorem arz(next:Nat->Nat):∀(k x:Nat) (s:List Bool),(eZ next k x s).2.length=s.length:=by
 intro k
 induction k with
 |zero=>intro x s;rfl
 |succ k ih=>
  intro x s;unfold eZ;split
  .rfl
  simp[ih]
def uS(next:Nat->Nat)(st:List (List Nat)×List Bool)(d:Nat):List (List Nat)×List Bool:=if st.2.getD d true then st else (st.1++[(eZ next (st.2.length+1) d st.2).1],(eZ next (st.2.length+1) d st.2).2)
def dC(next:Nat->Nat)(N k:Nat):List (List Nat)×List Bool:=(List.range k).foldl (uS next) ([],List.replicate N false)
def fV(next:Nat->Nat)(N:Nat):List (List Nat):=(dC next N N).1
theorem yG(next:Nat->Nat)(N k:Nat):dC next N (k+1)=uS next (dC next N k) k:=by unfold dC;rw[uv,Bq];rfl
theorem GW(next:Nat->Nat)(N:Nat):∀k,(dC next N k).2.length=N:=by
 intro k
 induction k with
 |zero=>simp[dC]
 |succ k ih=>
  rw[yG];unfold uS;split
  .exact ih
  simp[arz,ih]
theorem arH(next:Nat->Nat)(N k:Nat)(hk:1<=k)(hN:1<=N):(dC next N k).1≠[]:=by
 induction k with
 |zero=>omega
 |succ k ih=>
  rw[yG];by_cases h0:k=0
  .subst h0;have hz:(dC next N 0)=([],List.replicate N false):=rfl;have hg:(List.replicate N false).getD 0 true=false:=by
    obtain⟨n,rfl⟩:∃n,N=n+1:=⟨N-1,aa⟩;rfl
   rw[hz];unfold uS;simp only[hg];simp
  have:=ih aa;unfold uS;split
  .exact this
  simp
theorem Nx(next:Nat->Nat)(N:Nat):∀k,(dC next N k).1.length<=k:=by
 intro k
 induction k with
 |zero=>simp[dC]
 |succ k ih=>
  rw[yG];unfold uS;split
  .omega
  simp;exact ih
theorem Kc(s:List Bool):yF s<=s.length:=NC
theorem arC{ls:List Let}{ax:List Nat}(hl:ls.length<=1000000)(iK:ax.length<=1000000)(jT:∀x∈ax,x<ls.length)(hp:∀v l,ls[v]?=some l->(l.kind==2)=false->v∈ax){Q:ef}:
  ∀(fuel x:Nat) (sn:List Bool) (w:List Nat) (aj:Env) (blk:aB),aj 1=.one (.bt 1856000000 1 0)->blk 1856000000=(1,some (.var (uB f ls)))->
   aj 4=.one (.hsl 1856128064 1 1 0 ax.length)->blk 1856128064=(1,some (.arr 3 1 (nP ax)))->aj 5=.one (.hsl 1856192512 1 1 0 sn.length)->blk 1856192512=(1,some (.arr 4 1 (bP sn)))->
   ER 1856832192 w (aj 7) blk->aj 8=vi x->x<sn.length->sn.length=2*ls.length+2*ax.length->yF sn<fuel->w.length+yF sn<=5000000->
   (∀aE ak,aE 1=aj 1->aE 3=aj 3->aE 4=aj 4->aE 5=aj 5->aE 6=aj 6->ak 1856000000=blk 1856000000->ak 1856128064=blk 1856128064->ak 1856896192=blk 1856896192->ak 1856896128=blk 1856896128->
    ak 1856192512=(1,some (.arr 4 1 (bP (eZ (fN ls ax) fuel x sn).2)))->ER 1856832192 (w++(eZ (fN ls ax) fuel x sn).1) (aE 7) ak->Q .normal aE ak)->
   W S .all (.loop i29_l1) (rG 2 Q) aj blk:=by
 intro fuel
 induction fuel with
 |zero=>intro x sn w aj blk _ _ _ _ _ _ _ _ _ _ h;omega
 |succ fuel ih=>
  intro x sn w aj blk h1 hB h4 hA h5 hS ho h8 hx hsl hu hw hq;obtain⟨b,hb⟩:=aI hx;have od:=tD hb;have rY:sn.getD x true=b:=by rw[cJ,hb];rfl
  unfold eZ at hq;rw[rY] at hq;refine oU ?_;cases b with
  |true=>
   simp only[go_sem,i29_l1,h5,hS,h8,hx,od];refine hq _ _ ?_ ?_ ?_ ?_ ?_ rfl rfl rfl rfl hS ?_;all_goals simp only[go_sem]
   exact ho
  |false=>
   have Ez:=Nu hb;have pt:=aro f ls ax x hl iK jT hp aa;have ir:=Qu (d:=x) jT hp aa;have km:=HF sn x true;have kL:∀n:Nat,n<=5000001->n*8<=140737488355328:=fun n hn=>aa;have Gl:List.take ax.length (nP ax)=nP ax:=fY af;rcases ho with ⟨rfl,h7⟩|⟨O2,g,h7,hC⟩
   .simp only[go_sem,i29_l1,h1,hB,h4,hA,h5,hS,h7,h8,hx,od,km,Gl,s58,dV pt,fj,fM];refine ih (fN ls ax x) (sn.set x true) [x] _ _ ?_ ?_ ?_ ?_ ?_ ?_ ?_ ?_ (by simpa [hsl] using ir) (by simpa using hsl) aa (by simp;omega) ?_
    .simp only[go_sem,h1]
    .simp only[go_sem,hB]
    .simp only[go_sem,h4]
    .simp only[go_sem,hA]
    .simp only[go_sem,h5,nX]
    .simp only[go_sem]
    .simp only[go_sem];exact .inr ⟨af,_,rfl,rfl⟩
    .simp only[go_sem]
    intro aE ak q1 q3 q4 q5 q6 b1 b2 b3 b4 b5 b6;refine hq aE ak ?_ ?_ ?_ ?_ ?_ ?_ ?_ ?_ ?_ b5 ?_
    .rw[q1];simp only[go_sem]
    .rw[q3];simp only[go_sem]
    .rw[q4];simp only[go_sem]
    .rw[q5];simp only[go_sem]
    .rw[q6];simp only[go_sem]
    .rw[b1];simp only[go_sem]
    .rw[b2];simp only[go_sem]
    .rw[b3];simp only[go_sem]
    .rw[b4];simp only[go_sem]
    simpa using b6
   have tW:List.take w.length (nP w)=nP w:=fY af;have dI:=kL (w.length+1) aa;simp only[go_sem,i29_l1,h1,hB,h4,hA,h5,hS,h7,h8,hx,od,km,Gl,s58,dV pt,hC,tW,dI,fj,fM];refine ih (fN ls ax x) (sn.set x true) (w++[x]) _ _ ?_ ?_ ?_ ?_ ?_ ?_ ?_ ?_ (by simpa [hsl] using ir) (by simpa using hsl) aa (by simp;omega) ?_
   .simp only[go_sem,h1]
   .simp only[go_sem,hB]
   .simp only[go_sem,h4]
   .simp only[go_sem,hA]
   .simp only[go_sem,h5,nX]
   .simp only[go_sem]
   .simp only[go_sem];exact .inr ⟨af,g+1,af,by simp[aS]⟩
   .simp only[go_sem]
   intro aE ak q1 q3 q4 q5 q6 b1 b2 b3 b4 b5 b6;refine hq aE ak ?_ ?_ ?_ ?_ ?_ ?_ ?_ ?_ ?_ b5 ?_
   .rw[q1];simp only[go_sem]
   .rw[q3];simp only[go_sem]
   .rw[q4];simp only[go_sem]
   .rw[q5];simp only[go_sem]
   .rw[q6];simp only[go_sem]
   .rw[b1];simp only[go_sem]
   .rw[b2];simp only[go_sem]
   .rw[b3];simp only[go_sem]
   .rw[b4];simp only[go_sem]
   simpa using b6
def outW(site:Nat)(o:List (List Nat))(v:V)(blk:aB):Prop:=(o=[]/\v=.one (.p .nils))\/(o≠[]/\ ∃g,v=.one (.hsl site g 1 0 o.length)/\blk site=(g,some (.arr 35 1 (o.map fun w=>[A4 w]))))
theorem arL(f:Int)(ls:List Let)(hl:ls.length<=1000000)(aK:aC ls≠[])(hp:∀v l,ls[v]?=some l->(l.kind==2)=false->v∈aC ls):
  aH S 29 [fP f ls] (.one (.own 35 1 ((fV (fN ls (aC ls)) (2*ls.length+2*(aC ls).length)).map fun w=>[A4 w]))):=by
 have pa:=agU f ls hl;have jT:∀x∈aC ls,x<ls.length:=fun x h=>NV h;have iK:(aC ls).length<=ls.length:=uy ls ls.length;unfold NW at pa;rw[if_neg aK] at pa;generalize aC ls=ax at aK hp pa jT iK;have m1:=qF (a:=ls.length) aa;have m2:=qF (a:=ax.length) aa;have m3:=wrap_add (a:=2*ls.length) (b:=2*ax.length) aa;have l7:(nP ax).length=ax.length:=af;have kL:2*ls.length+2*ax.length<=140737488355328:=aa;have Cx:List.replicate (2*ls.length+2*ax.length) [PV.bool false]=bP (List.replicate (2*ls.length+2*ax.length) false):=af
 refine ba c29 ?_;have akr:∀(blk:aB),land blk [] 1856128064 ((RV.one (.own 3 1 (nP ax))).gV (S.lone 1856128064))=some (.one (.hsl 1856128064 ((blk 1856128064).1+1) 1 0 ax.length),[(1856128064,((blk 1856128064).1+1,some (.arr 3 1 (nP ax))))]):=by intro blk;have fA:S.lone 1856128064=false:=ah;rw[fA];simp only[RV.gV,land,true_or,if_true,kN,jS,kD,jW,dN,ue,oE,cF,oN]
 simp only[go_sem,i29,s57,dB pa (akr _),m1,m2,m3,kL,Cx];generalize hN:2*ls.length+2*ax.length=N at kL;refine cQ (fun k aj blk=>aj 1=.one (.bt 1856000000 1 0)/\blk 1856000000=(1,some (.var (uB f ls)))/\aj 4=.one (.hsl 1856128064 1 1 0 ax.length)/\blk 1856128064=(1,some (.arr 3 1 (nP ax)))/\
   aj 5=.one (.hsl 1856192512 1 1 0 N)/\blk 1856192512=(1,some (.arr 4 1 (bP (dC (fN ls ax) N k).2)))/\aj 6=vi k/\outW 1856896192 (dC (fN ls ax) N k).1 (aj 3) blk) 0 N (aY _) ?_ ?_
 .simp only[go_sem];exact⟨rfl,rfl,.inl ⟨rfl,rfl⟩⟩
 rintro k aj blk hk ⟨h1,hB,h4,hA,h5,hS,h6,ho⟩
 have hlen:=GW (fN ls ax) N k;have Ep:=Nx (fN ls ax) N k;by_cases aq:k<N
 .have aJ:((k:Int)<(N:Int)):=aa;have w1:=bG (n:=k) aa;have hs:=yG (fN ls ax) N k;generalize cA:dC (fN ls ax) N k=st at hlen hs ho hS Ep;obtain⟨out,sn⟩:=st;simp only at hlen ho hS Ep;obtain⟨b,hb⟩:=aI (ls:=sn) (k:=k) aa;have od:=tD hb;unfold uS at hs;have rY:sn.getD k true=b:=by rw[cJ,hb];rfl
  simp only[rY] at hs;cases b with
  |true=>have hs:dC (fN ls ax) N (k+1)=(out,sn):=hs;simp only[go_sem,i29_l4,i29_r3,h1,hB,h4,hA,h5,hS,h6,aq,aJ,od,w1,hs];exact ho
  |false=>
   have hs:dC (fN ls ax) N (k+1)=(out++[(eZ (fN ls ax) (N+1) k sn).1],(eZ (fN ls ax) (N+1) k sn).2):=by rw[hs,hlen];rfl
   have Ey:=Kc sn;simp only[go_sem,i29_l4,h5,hS,h6,aq,aJ,od];refine arC (f:=f) hl aa jT hp (N+1) k sn [] _ _ ?_ ?_ ?_ ?_ ?_ ?_ ?_ ?_ aa aa aa (by simp;omega) ?_
   .simp only[go_sem,h1]
   .simp only[go_sem,hB]
   .simp only[go_sem,h4]
   .simp only[go_sem,hA]
   .simp only[go_sem,h5,hlen]
   .simp only[go_sem,hS]
   .exact .inl ⟨rfl,by simp only[go_sem]⟩
   .simp only[go_sem]
   intro aE ak q1 q3 q4 q5 q6 b1 b2 b3 b4 b5 b6;simp only[go_sem,h1,h4,h5,h6] at q1 q3 q4 q5 q6;simp only[go_sem,hB,hA] at b1 b2 b3 b4;have O2:(eZ (fN ls ax) (N+1) k sn).1≠[]:=by unfold eZ;rw[rY];simp
   rw[gZ] at b6;rcases b6 with ⟨e,_⟩|⟨_,g,h7,hC⟩
   .exact(O2 e).elim
   generalize eZ (fN ls ax) (N+1) k sn=wf at hs O2 b5 h7 hC;obtain⟨w,gO⟩:=wf;simp only at hs O2 b5 h7 hC;have tW:List.take w.length (nP w)=nP w:=fY af;rcases ho with ⟨rfl,h3⟩|⟨ho,go,h3,hO⟩
   .rw[h3] at q3;simp only[go_sem,i29_r2,i29_r3,q1,q3,q4,q5,q6,b1,b2,b5,h7,hC,tW,w1,hs,aq,xL,fj,fM];exact .inr ⟨af,_,rfl,by simp[aS]⟩
   rw[h3] at q3;have Ew:List.take out.length (out.map fun w=>[A4 w])=out.map fun w=>[A4 w]:=fY af;have dI:(out.length+1)*24<=140737488355328:=aa;simp only[go_sem,i29_r2,i29_r3,q1,q3,q4,q5,q6,b1,b2,b3,b5,h7,hC,hO,tW,Ew,dI,w1,hs,aq,xL,cT,fj,fM];exact .inr ⟨af,go+1,af,by simp[aS]⟩
 have:k=N:=aa;subst this;have he:fV (fN ls ax) k=(dC (fN ls ax) k k).1:=rfl;rw[<- he] at ho;rcases ho with ⟨e,h3⟩|⟨ho,g,h3,hC⟩
 .exact(arH (fN ls ax) k k (by have:=iR.2 aK;omega) (by have:=iR.2 aK;omega) e).elim
 simp only[go_sem,i29_l4,i29_r5,h3,h5,h6,dZ];exact MY hC af
abbrev U3(l:Let):List C:=[.p (.int .i64 l.kind),.p (.int .i64 l.gate),.p (.int .i64 l.aA),.p (.int .i64 l.id),.p (.int .i64 l.sign),.p (.bool l.over)]
def jk(l o:Let):Bool:=(o.kind==l.kind&&o.gate==l.gate)&&o.aA==l.aA
def iJ(l o:Let):Bool:=((o.kind==l.kind&&o.id==l.id)&&o.sign==l.sign)&& !(o.over==l.over)
def vA(f:Int)(ls:List Let)(l:Let):Bool:= !(((((((l.id !=0||l.sign !=0)||l.over)||decide (l.gate<0))||decide (f<l.gate))||decide (l.aA<1))||decide ((au (om l.gate) ls:Int)<l.aA))||(((au (jk l) ls:Nat):Int)!=1))
def mg(ls:List Let)(l:Let):Bool:= !((((((l.gate !=0||l.aA !=0)||(l.sign !=1&&l.sign != -1))||decide (l.id<1))||decide (((au Let.aw ls/2:Nat):Int)<l.id))||(((au (iJ l) ls:Nat):Int)!=1))||(((au (lT l.id) ls:Nat):Int)!=2))
def eS(f:Int)(ls:List Let)(l:Let):Bool:=if l.kind==1 then vA f ls l else if l.kind==2 then mg ls l else false
theorem amo{f:Int}{ls:List Let}{l:Let}{g i:Nat}{aj:Env}{blk:aB}{Q:ef}(hl:ls.length<=1000000)(h1:aj 1=.one (.bt 1792000000 1 0))(hB:blk 1792000000=(1,some (.var (uB f ls))))(h3:aj 3=vi i)(h4:aj 4=.one (.bt 1792256320 g 0))(hL:blk 1792256320=(g,some (.var (U3 l))))
  (h5:aj 5=vi 0) (h6:aj 6=vi 0) (h7:aj 7=vi 0)
  (hq:∀aE ak,aE 1=aj 1->aE 3=aj 3->aE 4=aj 4->ak 1792000000=blk 1792000000->ak 1792256320=blk 1792256320->aE 5=vi (au (jk l) ls)->aE 6=vi (au (iJ l) ls)->Q .normal aE ak):
  W S .all (.loop i28_l1) (rG 2 Q) aj blk:=by
 refine cQ (fun k aE ak=>aE 1=.one (.bt 1792000000 1 0)/\ak 1792000000=(1,some (.var (uB f ls)))/\aE 3=vi i/\aE 4=.one (.bt 1792256320 g 0)/\ak 1792256320=(g,some (.var (U3 l)))/\
   aE 5=vi (au (jk l) (ls.take k))/\aE 6=vi (au (iJ l) (ls.take k))/\aE 7=vi k) 0 ls.length (aY _) ?_ ?_
 .exact⟨h1,hB,h3,h4,hL,h5,h6,h7⟩
 rintro k aE ak hk ⟨g1,gB,g3,g4,gL,g5,g6,g7⟩
 by_cases aq:k<ls.length
 .obtain⟨o,ho⟩:=aI aq;have hi:=lf ho;have aJ:((k:Int)<(ls.length:Int)):=aa;have b5:=yX (jk l) ls k;have b6:=yX (iJ l) ls k;have w1:=bG (n:=k) aa;have w5:=bG (n:=au (jk l) (ls.take k)) aa;have w6:=bG (n:=au (iJ l) (ls.take k)) aa;cases e0:(o.kind==l.kind) with
  |true=>
   cases e1:(o.gate==l.gate) with
   |true=>
    cases e2:(o.aA==l.aA) with
    |true=>
     cases e3:(o.id==l.id) with
     |true=>
      cases e4:(o.sign==l.sign) with
      |true=>
       cases e5:(o.over==l.over) with
       |true=>have c5:=sL (p:=jk l) ho (by simp only[jk,e0,e1,e2];rfl);have c6:=jR (p:=iJ l) ho (by simp only[iJ,e0,e3,e4,e5];rfl);simp only[go_sem,i28_l1,g1,gB,g3,g4,gL,g5,g6,g7,hi,Let.ps,aJ,w1,w5,e0,e1,e2,e3,e4,e5,c5,c6];first|exact aq|exact⟨aq,rfl⟩|exact⟨aq,rfl,rfl⟩
       |false=>have c5:=sL (p:=jk l) ho (by simp only[jk,e0,e1,e2];rfl);have c6:=sL (p:=iJ l) ho (by simp only[iJ,e0,e3,e4,e5];rfl);simp only[go_sem,i28_l1,g1,gB,g3,g4,gL,g5,g6,g7,hi,Let.ps,aJ,w1,w5,w6,e0,e1,e2,e3,e4,e5,c5,c6];first|exact aq|exact⟨aq,rfl⟩|exact⟨aq,rfl,rfl⟩
      |false=>have c5:=sL (p:=jk l) ho (by simp only[jk,e0,e1,e2];rfl);have c6:=jR (p:=iJ l) ho (by simp only[iJ,e0,e3,e4];rfl);simp only[go_sem,i28_l1,g1,gB,g3,g4,gL,g5,g6,g7,hi,Let.ps,aJ,w1,w5,e0,e1,e2,e3,e4,c5,c6];first|exact aq|exact⟨aq,rfl⟩|exact⟨aq,rfl,rfl⟩
     |false=>have c5:=sL (p:=jk l) ho (by simp only[jk,e0,e1,e2];rfl);have c6:=jR (p:=iJ l) ho (by simp only[iJ,e0,e3];rfl);simp only[go_sem,i28_l1,g1,gB,g3,g4,gL,g5,g6,g7,hi,Let.ps,aJ,w1,w5,e0,e1,e2,e3,c5,c6];first|exact aq|exact⟨aq,rfl⟩|exact⟨aq,rfl,rfl⟩
    |false=>
     cases e3:(o.id==l.id) with
     |true=>
      cases e4:(o.sign==l.sign) with
      |true=>
       cases e5:(o.over==l.over) with
       |true=>have c5:=jR (p:=jk l) ho (by simp only[jk,e0,e1,e2];rfl);have c6:=jR (p:=iJ l) ho (by simp only[iJ,e0,e3,e4,e5];rfl);simp only[go_sem,i28_l1,g1,gB,g3,g4,gL,g5,g6,g7,hi,Let.ps,aJ,w1,e0,e1,e2,e3,e4,e5,c5,c6];first|exact aq|exact⟨aq,rfl⟩|exact⟨aq,rfl,rfl⟩
       |false=>have c5:=jR (p:=jk l) ho (by simp only[jk,e0,e1,e2];rfl);have c6:=sL (p:=iJ l) ho (by simp only[iJ,e0,e3,e4,e5];rfl);simp only[go_sem,i28_l1,g1,gB,g3,g4,gL,g5,g6,g7,hi,Let.ps,aJ,w1,w6,e0,e1,e2,e3,e4,e5,c5,c6];first|exact aq|exact⟨aq,rfl⟩|exact⟨aq,rfl,rfl⟩
      |false=>have c5:=jR (p:=jk l) ho (by simp only[jk,e0,e1,e2];rfl);have c6:=jR (p:=iJ l) ho (by simp only[iJ,e0,e3,e4];rfl);simp only[go_sem,i28_l1,g1,gB,g3,g4,gL,g5,g6,g7,hi,Let.ps,aJ,w1,e0,e1,e2,e3,e4,c5,c6];first|exact aq|exact⟨aq,rfl⟩|exact⟨aq,rfl,rfl⟩
     |false=>have c5:=jR (p:=jk l) ho (by simp only[jk,e0,e1,e2];rfl);have c6:=jR (p:=iJ l) ho (by simp only[iJ,e0,e3];rfl);simp only[go_sem,i28_l1,g1,gB,g3,g4,gL,g5,g6,g7,hi,Let.ps,aJ,w1,e0,e1,e2,e3,c5,c6];first|exact aq|exact⟨aq,rfl⟩|exact⟨aq,rfl,rfl⟩
   |false=>
    cases e3:(o.id==l.id) with
    |true=>
     cases e4:(o.sign==l.sign) with
     |true=>
      cases e5:(o.over==l.over) with
      |true=>have c5:=jR (p:=jk l) ho (by simp only[jk,e0,e1];rfl);have c6:=jR (p:=iJ l) ho (by simp only[iJ,e0,e3,e4,e5];rfl);simp only[go_sem,i28_l1,g1,gB,g3,g4,gL,g5,g6,g7,hi,Let.ps,aJ,w1,e0,e1,e3,e4,e5,c5,c6];first|exact aq|exact⟨aq,rfl⟩|exact⟨aq,rfl,rfl⟩
      |false=>have c5:=jR (p:=jk l) ho (by simp only[jk,e0,e1];rfl);have c6:=sL (p:=iJ l) ho (by simp only[iJ,e0,e3,e4,e5];rfl);simp only[go_sem,i28_l1,g1,gB,g3,g4,gL,g5,g6,g7,hi,Let.ps,aJ,w1,w6,e0,e1,e3,e4,e5,c5,c6];first|exact aq|exact⟨aq,rfl⟩|exact⟨aq,rfl,rfl⟩
     |false=>have c5:=jR (p:=jk l) ho (by simp only[jk,e0,e1];rfl);have c6:=jR (p:=iJ l) ho (by simp only[iJ,e0,e3,e4];rfl);simp only[go_sem,i28_l1,g1,gB,g3,g4,gL,g5,g6,g7,hi,Let.ps,aJ,w1,e0,e1,e3,e4,c5,c6];first|exact aq|exact⟨aq,rfl⟩|exact⟨aq,rfl,rfl⟩
    |false=>have c5:=jR (p:=jk l) ho (by simp only[jk,e0,e1];rfl);have c6:=jR (p:=iJ l) ho (by simp only[iJ,e0,e3];rfl);simp only[go_sem,i28_l1,g1,gB,g3,g4,gL,g5,g6,g7,hi,Let.ps,aJ,w1,e0,e1,e3,c5,c6];first|exact aq|exact⟨aq,rfl⟩|exact⟨aq,rfl,rfl⟩
  |false=>have c5:=jR (p:=jk l) ho (by simp only[jk,e0];rfl);have c6:=jR (p:=iJ l) ho (by simp only[iJ,e0];rfl);simp only[go_sem,i28_l1,g1,gB,g3,g4,gL,g5,g6,g7,hi,Let.ps,aJ,w1,e0,c5,c6];first|exact aq|exact⟨aq,rfl⟩|exact⟨aq,rfl,rfl⟩
 have:k=ls.length:=aa;subst this;rw[jo] at g5 g6;simp only[go_sem,i28_l1,g1,gB,g7,dZ];refine hq _ _ ?_ ?_ ?_ ?_ ?_ ?_ ?_;all_goals simp only[go_sem,g1,gB,g3,g4,gL,g5,g6,h1,hB,h3,h4,hL]
theorem amp{f:Int}{ls:List Let}{l:Let}{g i:Nat}{aj:Env}{blk:aB}{Q:ef}(hl:ls.length<=1000000)(h1:aj 1=.one (.bt 1792000000 1 0))(hB:blk 1792000000=(1,some (.var (uB f ls))))(h3:aj 3=vi i)(h4:aj 4=.one (.bt 1792256320 g 0))(hL:blk 1792256320=(g,some (.var (U3 l))))
  (h5:aj 5=vi (au (jk l) ls)) (h6:aj 6=vi (au (iJ l) ls))
  (hq:eS f ls l=true->∀aE,aE 1=aj 1->aE 3=aj 3->Q .normal aE blk) (hr:eS f ls l=false->∀aE,aE 2=.one (.p (.bool false))->Q .ret aE blk):
  W S .all i28_r2 Q aj blk:=by
 have pin:=in_r f ls hl l.gate;have pvi:=Wm f ls hl;have pti:=aqW f ls hl l.id;have hcv:=sM Let.aw ls;have wv:=wrap_small (n:=au Let.aw ls/2) aa;cases k1:(l.kind==1) with
 |true=>
  cases a1:(l.id !=0) with
  |true=>
   have ao:eS f ls l=false:=by simp only[eS,k1,vA,a1];rfl
   simp only[go_sem,i28_r2,h4,hL,k1,a1];refine⟨ah,hr ao _ ?_⟩;simp only[go_sem]
  |false=>
   cases a2:(l.sign !=0) with
   |true=>
    have ao:eS f ls l=false:=by simp only[eS,k1,vA,a1,a2];rfl
    simp only[go_sem,i28_r2,h4,hL,k1,a1,a2];refine⟨ah,hr ao _ ?_⟩;simp only[go_sem]
   |false=>
    cases a3:(l.over) with
    |true=>
     have ao:eS f ls l=false:=by simp only[eS,k1,vA,a1,a2,a3];rfl
     simp only[go_sem,i28_r2,h4,hL,k1,a1,a2,a3];refine⟨ah,hr ao _ ?_⟩;simp only[go_sem]
    |false=>
     cases a4:(decide (l.gate<0)) with
     |true=>
      have yP:(l.gate<0):=of_decide_eq_true a4;have ao:eS f ls l=false:=by simp only[eS,k1,vA,a1,a2,a3,a4];rfl
      simp only[go_sem,i28_r2,h4,hL,k1,a1,a2,a3,yP];refine⟨ah,hr ao _ ?_⟩;simp only[go_sem]
     |false=>
      cases a5:(decide (f<l.gate)) with
      |true=>
       have yP:¬(l.gate<0):=of_decide_eq_false a4;have kZ:(f<l.gate):=of_decide_eq_true a5;have ao:eS f ls l=false:=by simp only[eS,k1,vA,a1,a2,a3,a4,a5];rfl
       simp only[go_sem,i28_r2,h1,hB,h4,hL,k1,a1,a2,a3,yP,kZ];refine⟨ah,hr ao _ ?_⟩;simp only[go_sem]
      |false=>
       cases a6:(decide (l.aA<1)) with
       |true=>
        have yP:¬(l.gate<0):=of_decide_eq_false a4;have kZ:¬(f<l.gate):=of_decide_eq_false a5;have mV:(l.aA<1):=of_decide_eq_true a6;have ao:eS f ls l=false:=by simp only[eS,k1,vA,a1,a2,a3,a4,a5,a6];rfl
        simp only[go_sem,i28_r2,h1,hB,h4,hL,k1,a1,a2,a3,yP,kZ,mV];refine⟨ah,hr ao _ ?_⟩;simp only[go_sem]
       |false=>
        cases a7:(decide ((au (om l.gate) ls:Int)<l.aA)) with
        |true=>
         have yP:¬(l.gate<0):=of_decide_eq_false a4;have kZ:¬(f<l.gate):=of_decide_eq_false a5;have mV:¬(l.aA<1):=of_decide_eq_false a6;have Kt:((au (om l.gate) ls:Int)<l.aA):=of_decide_eq_true a7;have ao:eS f ls l=false:=by simp only[eS,k1,vA,a1,a2,a3,a4,a5,a6,a7];rfl
         simp only[go_sem,i28_r2,h1,hB,h4,hL,s55,lO pin,k1,a1,a2,a3,yP,kZ,mV,Kt];refine⟨ah,hr ao _ ?_⟩;simp only[go_sem]
        |false=>
         cases a8:(((au (jk l) ls:Nat):Int)!=1) with
         |true=>
          have yP:¬(l.gate<0):=of_decide_eq_false a4;have kZ:¬(f<l.gate):=of_decide_eq_false a5;have mV:¬(l.aA<1):=of_decide_eq_false a6;have Kt:¬((au (om l.gate) ls:Int)<l.aA):=of_decide_eq_false a7;have ao:eS f ls l=false:=by simp only[eS,k1,vA,a1,a2,a3,a4,a5,a6,a7,a8];rfl
          simp only[go_sem,i28_r2,h1,hB,h4,hL,h5,s55,lO pin,k1,a1,a2,a3,yP,kZ,mV,Kt,a8];refine⟨ah,hr ao _ ?_⟩;simp only[go_sem]
         |false=>
          have yP:¬(l.gate<0):=of_decide_eq_false a4;have kZ:¬(f<l.gate):=of_decide_eq_false a5;have mV:¬(l.aA<1):=of_decide_eq_false a6;have Kt:¬((au (om l.gate) ls:Int)<l.aA):=of_decide_eq_false a7;have ao:eS f ls l=true:=by simp only[eS,k1,vA,a1,a2,a3,a4,a5,a6,a7,a8];rfl
          simp only[go_sem,i28_r2,h1,hB,h4,hL,h5,s55,lO pin,k1,a1,a2,a3,yP,kZ,mV,Kt,a8];refine⟨ah,hq ao _ ?_ ?_⟩;all_goals simp only[go_sem]
 |false=>
  cases k2:(l.kind==2) with
  |true=>
   cases a1:(l.gate !=0) with
   |true=>
    have ao:eS f ls l=false:=by simp only[eS,k1,k2,mg,a1];rfl
    simp only[go_sem,i28_r2,h4,hL,k1,k2,a1];refine⟨ah,hr ao _ ?_⟩;simp only[go_sem]
   |false=>
    cases a2:(l.aA !=0) with
    |true=>
     have ao:eS f ls l=false:=by simp only[eS,k1,k2,mg,a1,a2];rfl
     simp only[go_sem,i28_r2,h4,hL,k1,k2,a1,a2];refine⟨ah,hr ao _ ?_⟩;simp only[go_sem]
    |false=>
     cases a3:(l.sign !=1) with
     |true=>
      cases a4:(l.sign != -1) with
      |true=>
       have ao:eS f ls l=false:=by simp only[eS,k1,k2,mg,a1,a2,a3,a4];rfl
       simp only[go_sem,i28_r2,h4,hL,k1,k2,a1,a2,a3,a4];refine⟨ah,hr ao _ ?_⟩;simp only[go_sem]
      |false=>
       cases a5:(decide (l.id<1)) with
       |true=>
        have kZ:(l.id<1):=of_decide_eq_true a5;have ao:eS f ls l=false:=by simp only[eS,k1,k2,mg,a1,a2,a3,a4,a5];rfl
        simp only[go_sem,i28_r2,h4,hL,k1,k2,a1,a2,a3,a4,kZ];refine⟨ah,hr ao _ ?_⟩;simp only[go_sem]
       |false=>
        cases a6:(decide (((au Let.aw ls/2:Nat):Int)<l.id)) with
        |true=>
         have kZ:¬(l.id<1):=of_decide_eq_false a5;have mV:(((au Let.aw ls/2:Nat):Int)<l.id):=of_decide_eq_true a6;have ao:eS f ls l=false:=by simp only[eS,k1,k2,mg,a1,a2,a3,a4,a5,a6];rfl
         simp only[go_sem,i28_r2,h1,hB,h4,hL,s26,lO pvi,fy,eD,wv,k1,k2,a1,a2,a3,a4,kZ,mV];refine⟨ah,hr ao _ ?_⟩;simp only[go_sem]
        |false=>
         cases a7:(((au (iJ l) ls:Nat):Int)!=1) with
         |true=>
          have kZ:¬(l.id<1):=of_decide_eq_false a5;have mV:¬(((au Let.aw ls/2:Nat):Int)<l.id):=of_decide_eq_false a6;have ao:eS f ls l=false:=by simp only[eS,k1,k2,mg,a1,a2,a3,a4,a5,a6,a7];rfl
          simp only[go_sem,i28_r2,h1,hB,h4,hL,h6,s26,lO pvi,fy,eD,wv,k1,k2,a1,a2,a3,a4,kZ,mV,a7];refine⟨ah,hr ao _ ?_⟩;simp only[go_sem]
         |false=>
          cases a8:(((au (lT l.id) ls:Nat):Int)!=2) with
          |true=>
           have kZ:¬(l.id<1):=of_decide_eq_false a5;have mV:¬(((au Let.aw ls/2:Nat):Int)<l.id):=of_decide_eq_false a6;have ao:eS f ls l=false:=by simp only[eS,k1,k2,mg,a1,a2,a3,a4,a5,a6,a7,a8];rfl
           simp only[go_sem,i28_r2,h1,hB,h4,hL,h6,s26,s56,lO pvi,lO pti,fy,eD,wv,k1,k2,a1,a2,a3,a4,kZ,mV,a7,a8];refine⟨ah,hr ao _ ?_⟩;simp only[go_sem]
          |false=>
           have kZ:¬(l.id<1):=of_decide_eq_false a5;have mV:¬(((au Let.aw ls/2:Nat):Int)<l.id):=of_decide_eq_false a6;have ao:eS f ls l=true:=by simp only[eS,k1,k2,mg,a1,a2,a3,a4,a5,a6,a7,a8];rfl
           simp only[go_sem,i28_r2,h1,hB,h4,hL,h6,s26,s56,lO pvi,lO pti,fy,eD,wv,k1,k2,a1,a2,a3,a4,kZ,mV,a7,a8];refine⟨ah,hq ao _ ?_ ?_⟩;all_goals simp only[go_sem]
     |false=>
      cases a5:(decide (l.id<1)) with
      |true=>
       have kZ:(l.id<1):=of_decide_eq_true a5;have ao:eS f ls l=false:=by simp only[eS,k1,k2,mg,a1,a2,a3,a5];rfl
       simp only[go_sem,i28_r2,h4,hL,k1,k2,a1,a2,a3,kZ];refine⟨ah,hr ao _ ?_⟩;simp only[go_sem]
      |false=>
       cases a6:(decide (((au Let.aw ls/2:Nat):Int)<l.id)) with
       |true=>
        have kZ:¬(l.id<1):=of_decide_eq_false a5;have mV:(((au Let.aw ls/2:Nat):Int)<l.id):=of_decide_eq_true a6;have ao:eS f ls l=false:=by simp only[eS,k1,k2,mg,a1,a2,a3,a5,a6];rfl
        simp only[go_sem,i28_r2,h1,hB,h4,hL,s26,lO pvi,fy,eD,wv,k1,k2,a1,a2,a3,kZ,mV];refine⟨ah,hr ao _ ?_⟩;simp only[go_sem]
       |false=>
        cases a7:(((au (iJ l) ls:Nat):Int)!=1) with
        |true=>
         have kZ:¬(l.id<1):=of_decide_eq_false a5;have mV:¬(((au Let.aw ls/2:Nat):Int)<l.id):=of_decide_eq_false a6;have ao:eS f ls l=false:=by simp only[eS,k1,k2,mg,a1,a2,a3,a5,a6,a7];rfl
         simp only[go_sem,i28_r2,h1,hB,h4,hL,h6,s26,lO pvi,fy,eD,wv,k1,k2,a1,a2,a3,kZ,mV,a7];refine⟨ah,hr ao _ ?_⟩;simp only[go_sem]
        |false=>
         cases a8:(((au (lT l.id) ls:Nat):Int)!=2) with
         |true=>
          have kZ:¬(l.id<1):=of_decide_eq_false a5;have mV:¬(((au Let.aw ls/2:Nat):Int)<l.id):=of_decide_eq_false a6;have ao:eS f ls l=false:=by simp only[eS,k1,k2,mg,a1,a2,a3,a5,a6,a7,a8];rfl
          simp only[go_sem,i28_r2,h1,hB,h4,hL,h6,s26,s56,lO pvi,lO pti,fy,eD,wv,k1,k2,a1,a2,a3,kZ,mV,a7,a8];refine⟨ah,hr ao _ ?_⟩;simp only[go_sem]
         |false=>
          have kZ:¬(l.id<1):=of_decide_eq_false a5;have mV:¬(((au Let.aw ls/2:Nat):Int)<l.id):=of_decide_eq_false a6;have ao:eS f ls l=true:=by simp only[eS,k1,k2,mg,a1,a2,a3,a5,a6,a7,a8];rfl
          simp only[go_sem,i28_r2,h1,hB,h4,hL,h6,s26,s56,lO pvi,lO pti,fy,eD,wv,k1,k2,a1,a2,a3,kZ,mV,a7,a8];refine⟨ah,hq ao _ ?_ ?_⟩;all_goals simp only[go_sem]
  |false=>
   have ao:eS f ls l=false:=by simp only[eS,k1,k2];rfl
   simp only[go_sem,i28_r2,h4,hL,k1,k2];refine hr ao _ ?_;simp only[go_sem]
def vu(f:Int)(ls:List Let):Bool:=ls.all (eS f ls)
theorem amq(f:Int)(ls:List Let)(hl:ls.length<=1000000):aH S 28 [fP f ls] (rb (vu f ls)):=by
 refine ba c28 ?_;simp only[go_sem,i28];refine cQ (fun k aj blk=>aj 1=.one (.bt 1792000000 1 0)/\blk 1792000000=(1,some (.var (uB f ls)))/\aj 3=vi k/\ ∀j l,j<k->ls[j]?=some l->eS f ls l=true) 0 ls.length (aY _) ?_ ?_
 .simp only[go_sem];exact⟨rfl,fun j l h=>absurd h (tA j)⟩
 rintro k aj blk hk ⟨h1,hB,h3,ao⟩
 by_cases aq:k<ls.length
 .obtain⟨l,ho⟩:=aI aq;have hi:=lf ho;have aJ:((k:Int)<(ls.length:Int)):=aa;have w1:=bG (n:=k) aa;simp only[go_sem,i28_l4,h1,hB,h3,hi,Let.ps,aJ];refine amo (f:=f) (l:=l) (g:=(blk 1792256320).1+1) (i:=k) hl ?_ ?_ ?_ ?_ ?_ ?_ ?_ ?_ ?_
  .simp only[go_sem,h1]
  .simp only[go_sem,hB]
  .simp only[go_sem,h3]
  .simp only[go_sem]
  .simp only[go_sem]
  .simp only[go_sem]
  .simp only[go_sem]
  .simp only[go_sem]
  intro aE ak q1 q3 q4 b1 b2 q5 q6;simp only[go_sem,h1,h3] at q1 q3 q4;simp only[go_sem,hB] at b1 b2;simp only[go_sem];refine amp (f:=f) (l:=l) (i:=k) hl q1 b1 q3 q4 b2 q5 q6 ?_ ?_
  .intro Mb cS e1 e3;rw[q1] at e1;rw[q3] at e3;simp only[go_sem,i28_r3,e1,b1,e3,w1];refine⟨aq,fun j l' hj r9=>?_⟩;rcases nZ.1 hj with hj|rfl
   .exact ao j l' hj r9
   rw[ho] at r9;cases r9;exact Mb
  intro IB cS e2;have hf:vu f ls=false:=by unfold vu;rw[List.all_eq_false];exact⟨l,aQ ho,by simp[IB]⟩
  simp only[go_sem,e2,hf]
 have:k=ls.length:=aa;subst this;have hf:vu f ls=true:=by unfold vu;rw[iC];intro x hx;obtain⟨j,hj,rfl⟩:=List.getElem_of_mem hx;exact ao j _ hj af
 simp only[go_sem,i28_l4,i28_r5,h1,hB,h3,dZ,hf]
theorem alv{ls:List Let}{o:List Nat}{i x:Nat}:x∈zN ls o i↔x∈o\/x=i:=by
 unfold zN;generalize (o.takeWhile (AT ls i)).length=K;constructor
 .intro h;rcases fq.1 h with h|h
  .exact .inl (vP h)
  rcases cT.1 h with h|h
  .exact .inr h
  exact .inl (vO h)
 rintro (h|rfl)
 .rw[<- lX K o] at h;rcases fq.1 h with h|h
  .exact fq.2 (.inl h)
  exact fq.2 (.inr (cT.2 (.inr h)))
 simp
theorem Xs{ls:List Let}:∀ {k x:Nat},k<=ls.length->(x∈n9 ls k↔x<k/\ ∃l,ls[x]?=some l/\l.ay=true):=by
 intro k
 induction k with
 |zero=>intro x _;simp[n9]
 |succ k ih=>
  intro x hk;rw[HC];obtain⟨l,hl⟩:=aI (ls:=ls) (k:=k) aa;have ih:=ih (x:=x) aa;unfold Af;rw[hl];simp only;by_cases hp:l.ay=true
  .rw[if_pos hp,alv,ih];constructor
   .rintro (⟨h1,h2⟩|rfl)
    .exact⟨aa,h2⟩
    exact⟨aa,l,hl,hp⟩
   rintro ⟨h1,h2⟩
   rcases nZ.1 h1 with h|rfl
   .exact .inl ⟨h,h2⟩
   exact .inr rfl
  rw[if_neg hp,ih];constructor
  .rintro ⟨h1,h2⟩;exact⟨aa,h2⟩
  rintro ⟨h1,m,hm,mJ⟩
  rcases nZ.1 h1 with h|rfl
  .exact⟨h,m,hm,mJ⟩
  rw[hl] at hm;cases hm;exact(hp mJ).elim
theorem tB{ls:List Let}{x:Nat}:x∈aC ls↔ ∃l,ls[x]?=some l/\l.ay=true:=by
 have:=Xs (ls:=ls) (k:=ls.length) (x:=x) (aZ _);have e:aC ls=n9 ls ls.length:=rfl;rw[e,this];constructor
 .rintro ⟨_,h⟩;exact h
 rintro ⟨l,h,h2⟩;exact⟨(aV.1 h).1,l,h,h2⟩
theorem ab3{ls:List Let}(h:vu f ls=true){v:Nat}{l:Let}(hv:ls[v]?=some l):l.ay=true\/l.aw=true:=by
 have:=(iC.1 h) l (aQ hv);unfold eS at this;unfold Let.ay Let.aw;cases h1:(l.kind==1) with
 |true=>exact .inl rfl
 |false=>
  cases h2:(l.kind==2) with
  |true=>exact .inr rfl
  |false=>rw[h1,h2] at this;simp at this
def eN(ls:List Let):Nat:=(fV (fN ls (aC ls)) (2*ls.length+2*(aC ls).length)).length
def lV(f:Int)(ls:List Let):Bool:=(match ls[0]? with|some l=>l.kind==1|none=>true)&&(au Let.ay ls%2==0)&&vu f ls&&(eN ls==au Let.ay ls+au Let.aw ls/2+2)
def iD(f:Int)(ls:List Let):Int:=if 400<ls.length\/200<au Let.aw ls then 7 else if f<0\/40<f then 2 else if ls=[] then 0 else if lV f ls then 0 else 3
theorem ahx(f:Int)(ls:List Let)(hl:ls.length<=1000000):aH S 12 [fP f ls] (ri (iD f ls)):=by
 have pvi:=Wm f ls hl;have ppa:=anj f ls hl;have ple:=amq f ls hl;have pcr:=ah8 f ls hl;have hci:=sM Let.aw ls;have iw:=sM Let.ay ls;refine ba c12 ?_;unfold iD;by_cases h1:400<ls.length
 .have jI:(400:Int)<(ls.length:Int):=aa;simp only[go_sem,i12,h1,jI]
 have jI:¬(400:Int)<(ls.length:Int):=aa;by_cases h2:200<au Let.aw ls
 .have ij:(200:Int)<(au Let.aw ls:Int):=aa;simp only[go_sem,i12,h1,jI,h2,ij,s26,dV pvi]
 have ij:¬(200:Int)<(au Let.aw ls:Int):=aa;by_cases h3:f<0
 .simp only[go_sem,i12,h1,jI,h2,ij,h3,s26,dV pvi]
 by_cases h4:40<f
 .simp only[go_sem,i12,h1,jI,h2,ij,h3,h4,s26,dV pvi]
 have akS:¬(400<ls.length\/200<au Let.aw ls):=aa;have akT:¬(f<0\/40<f):=aa;rw[if_neg akS,if_neg akT];by_cases he:ls=[]
 .subst he;have hz:(((0:Nat):Int)==0)=true:=ae;have hz3:¬((400:Int)<((0:Nat):Int)):=ae;have aon:aH S 26 [.agg [.p (.int .i64 f),.p (.sl [])]] (ri (au Let.aw [])):=pvi;simp only[go_sem,i12,hz3,ij,h3,h4,s26,dV aon,hz]
 have hlen:0<ls.length:=iR.2 he;obtain⟨l0,h0⟩:=aI hlen;have zy:=lf h0;have Cu:(((ls.length:Nat):Int)==0)=false:=by simp;omega
 rw[if_neg he];generalize hr:(if lV f ls=true then (0:Int) else 3)=r;cases c1:(l0.kind==1) with
 |false=>
  have c1':(l0.kind !=1)=true:=by simp[bne,c1]
  have hv:lV f ls=false:=by simp only[lV,h0,c1];rfl
  rw[hv] at hr;have hr:(3:Int)=r:=hr;subst hr;simp only[go_sem,i12,jI,ij,h3,h4,s26,dV pvi,Cu,s27,dV ppa,zy,Let.ps,c1'];exact aD
 |true=>
  have c1':(l0.kind !=1)=false:=by simp[bne,c1]
  cases c2:(au Let.ay ls%2==0) with
  |false=>
   have c2':(((au Let.ay ls%2:Nat):Int)!=0)=true:=by simp at c2 ⊢;omega
   have hv:lV f ls=false:=by simp only[lV,h0,c1,c2];rfl
   rw[hv] at hr;have hr:(3:Int)=r:=hr;subst hr;simp only[go_sem,i12,jI,ij,h3,h4,s26,dV pvi,Cu,s27,dV ppa,zy,Let.ps,c1',jG,eD,c2'];exact aD
  |true=>
   have c2':(((au Let.ay ls%2:Nat):Int)!=0)=false:=by simp at c2 ⊢;omega
   cases c3:vu f ls with
   |false=>
    rw[c3] at ple;have hv:lV f ls=false:=by simp only[lV,h0,c1,c2,c3];rfl
    rw[hv] at hr;have hr:(3:Int)=r:=hr;subst hr;simp only[go_sem,i12,jI,ij,h3,h4,s26,dV pvi,Cu,s27,dV ppa,zy,Let.ps,c1',jG,eD,c2',s28,mZ ple];exact aD
   |true=>
    rw[c3] at ple;have aK:aC ls≠[]:=fun e=>by have:(0:Nat)∈aC ls:=tB.2 ⟨l0,h0,c1⟩;rw[e] at this;cases this
    have hp:∀v l,ls[v]?=some l->(l.kind==2)=false->v∈aC ls:=fun v l hv h2=>by
     rcases ab3 c3 hv with h|h
     .exact tB.2 ⟨l,hv,h⟩
     unfold Let.aw at h;rw[h2] at h;cases h
    have pw:=arL f ls hl aK hp;have IU:eN ls=(fV (fN ls (aC ls)) (2*ls.length+2*(aC ls).length)).length:=rfl;have wW:=Nx (fN ls (aC ls)) (2*ls.length+2*(aC ls).length) (2*ls.length+2*(aC ls).length);generalize hW:fV (fN ls (aC ls)) (2*ls.length+2*(aC ls).length)=ws at pw wW IU;have a1:=wrap_add (a:=au Let.ay ls) (b:=au Let.aw ls/2) aa;have a2:IntKind.i64.wrap (((au Let.ay ls+au Let.aw ls/2:Nat):Int)+2)=((au Let.ay ls+au Let.aw ls/2+2:Nat):Int):=wrap_add (a:=au Let.ay ls+au Let.aw ls/2) (b:=2) aa;have fA:S.lone 768513152=false:=ah
    have gI:∀(blk:aB),land blk [] 768513152 ((RV.one (.own 35 1 (ws.map fun w=>[A4 w]))).gV (S.lone 768513152))=some (.one (.hsl 768513152 ((blk 768513152).1+1) 1 0 ws.length),[(768513152,((blk 768513152).1+1,some (.arr 35 1 (ws.map fun w=>[A4 w]))))]):=by intro blk;rw[fA];simp only[RV.gV,land,true_or,if_true,kN,jS,kD,jW,dN,ue,oE,cF,oN]
    cases c4:(ws.length==au Let.ay ls+au Let.aw ls/2+2) with
    |false=>
     have c4':(((ws.length:Nat):Int)!=((au Let.ay ls+au Let.aw ls/2+2:Nat):Int))=true:=by simp at c4 ⊢;omega
     have hv:lV f ls=false:=by simp only[lV,h0,c1,c2,c3,IU,c4];rfl
     rw[hv] at hr;have hr:(3:Int)=r:=hr;subst hr;simp only[go_sem,i12,jI,ij,h3,h4,s26,dV pvi,Cu,s27,dV ppa,zy,Let.ps,c1',jG,eD,c2',s28,mZ ple,s29,gR pw (gI _),s30,lO pcr,a1,a2,c4'];exact aD
    |true=>
     have c4':(((ws.length:Nat):Int)!=((au Let.ay ls+au Let.aw ls/2+2:Nat):Int))=false:=by simp at c4 ⊢;omega
     have hv:lV f ls=true:=by simp only[lV,h0,c1,c2,c3,IU,c4];rfl
     rw[hv] at hr;have hr:(0:Int)=r:=hr;subst hr;simp only[go_sem,i12,jI,ij,h3,h4,s26,dV pvi,Cu,s27,dV ppa,zy,Let.ps,c1',jG,eD,c2',s28,mZ ple,s29,gR pw (gI _),s30,lO pcr,a1,a2,c4'];exact aD
def de(f:Int)(l:Let):Bool:=if l.kind==1 then (((decide (l.gate<0)||decide (f<l.gate))||l.id !=0)||l.sign !=0)||l.over else if l.kind==2 then (l.gate !=0||l.aA !=0)||(l.sign !=1&&l.sign != -1) else true
theorem agX(f:Int)(l:Let)(x1 x2 x3 x4 x5 x6:PV):aH S 123 [U4 l,.one (.p (.box [.box [.int .i64 f,x1,x2,x3,x4,x5,x6]]))] (rb (de f l)):=by
 refine ba c123 ?_;cases k1:(l.kind==1) with
 |true=>
  cases a1:(decide (l.gate<0)) with
  |true=>
   have yO:(l.gate<0):=of_decide_eq_true a1;have hb:de f l=true:=by simp only[de,k1,a1];rfl
   simp only[go_sem,i123,k1,yO,hb];exact aD
  |false=>
   cases a2:(decide (f<l.gate)) with
   |true=>
    have yO:¬(l.gate<0):=of_decide_eq_false a1;have By:(f<l.gate):=of_decide_eq_true a2;have hb:de f l=true:=by simp only[de,k1,a1,a2];rfl
    simp only[go_sem,i123,k1,yO,By,hb];exact aD
   |false=>
    cases a3:(l.id !=0) with
    |true=>
     have yO:¬(l.gate<0):=of_decide_eq_false a1;have By:¬(f<l.gate):=of_decide_eq_false a2;have hb:de f l=true:=by simp only[de,k1,a1,a2,a3];rfl
     simp only[go_sem,i123,k1,yO,By,a3,hb];exact aD
    |false=>
     cases a4:(l.sign !=0) with
     |true=>
      have yO:¬(l.gate<0):=of_decide_eq_false a1;have By:¬(f<l.gate):=of_decide_eq_false a2;have hb:de f l=true:=by simp only[de,k1,a1,a2,a3,a4];rfl
      simp only[go_sem,i123,k1,yO,By,a3,a4,hb];exact aD
     |false=>
      cases a5:(l.over) with
      |true=>
       have yO:¬(l.gate<0):=of_decide_eq_false a1;have By:¬(f<l.gate):=of_decide_eq_false a2;have hb:de f l=true:=by simp only[de,k1,a1,a2,a3,a4,a5];rfl
       simp only[go_sem,i123,k1,yO,By,a3,a4,a5,hb];exact aD
      |false=>
       have yO:¬(l.gate<0):=of_decide_eq_false a1;have By:¬(f<l.gate):=of_decide_eq_false a2;have hb:de f l=false:=by simp only[de,k1,a1,a2,a3,a4,a5];rfl
       simp only[go_sem,i123,k1,yO,By,a3,a4,a5,hb];exact aD
 |false=>
  cases k2:(l.kind==2) with
  |true=>
   cases a1:(l.gate !=0) with
   |true=>
    have hb:de f l=true:=by simp only[de,k1,k2,a1];rfl
    simp only[go_sem,i123,k1,k2,a1,hb]
   |false=>
    cases a2:(l.aA !=0) with
    |true=>
     have hb:de f l=true:=by simp only[de,k1,k2,a1,a2];rfl
     simp only[go_sem,i123,k1,k2,a1,a2,hb]
    |false=>
     cases a3:(l.sign !=1) with
     |true=>
      cases a4:(l.sign != -1) with
      |true=>
       have hb:de f l=true:=by simp only[de,k1,k2,a1,a2,a3,a4];rfl
       simp only[go_sem,i123,k1,k2,a1,a2,a3,a4,hb]
      |false=>
       have hb:de f l=false:=by simp only[de,k1,k2,a1,a2,a3,a4];rfl
       simp only[go_sem,i123,k1,k2,a1,a2,a3,a4,hb]
     |false=>
      have hb:de f l=false:=by simp only[de,k1,k2,a1,a2,a3];rfl
      simp only[go_sem,i123,k1,k2,a1,a2,a3,hb]
  |false=>
   have hb:de f l=true:=by simp only[de,k1,k2];rfl
   simp only[go_sem,i123,k1,k2,hb]
abbrev dfn(f:Int)(x1 x2 x3 x4 x5 x6:PV):PV:=.fn 123 [] [.box [.box [.int .i64 f,x1,x2,x3,x4,x5,x6]]]
theorem agY(f:Int)(ls:List Let)(x1 x2 x3 x4 x5 x6:PV)(hl:ls.length<=1000000)(hn:x1.norm=x1/\x2.norm=x2/\x3.norm=x3/\x4.norm=x4/\x5.norm=x5/\x6.norm=x6):
  ∃k:Int,(0<=k↔ls.any (de f)=true)/\aH S 146 [.one (.p (pR ls)),.one (.p (dfn f x1 x2 x3 x4 x5 x6))] (ri k):=by
 have main:∀r:Int,(∀(k:Nat) l,ls[k]?=some l->de f l=true->(∀(j:Nat) m,j<k->ls[j]?=some m->de f m=false)->r=k)->((∀(j:Nat) m,ls[j]?=some m->de f m=false)->r= -1)->
   aH S 146 [.one (.p (pR ls)),.one (.p (dfn f x1 x2 x3 x4 x5 x6))] (ri r):=by
  intro r dI nH;refine ba c146 ?_;simp only[go_sem,i146];refine cQ (fun k aj blk=>aj 0=.one (.p (pR ls))/\aj 1=.one (.p (dfn f x1 x2 x3 x4 x5 x6))/\aj 7=vi ls.length/\aj 8=vi k/\ ∀j m,j<k->ls[j]?=some m->de f m=false) 0 ls.length (aY _) ?_ ?_
  .simp only[go_sem];exact⟨rfl,fun j m h=>absurd h (tA j)⟩
  rintro k aj blk hk ⟨h0,h1,h7,h8,hn⟩
  by_cases aq:k<ls.length
  .obtain⟨l,dM⟩:=aI aq;have hi:=lf dM;have aJ:((k:Int)<(ls.length:Int)):=aa;have w1:=bG (n:=k) aa;have pb:=agX f l x1 x2 x3 x4 x5 x6;cases hb:de f l with
   |true=>rw[hb] at pb;have hr:=dI k l dM hb hn;subst hr;simp only[go_sem,i146_l1,h0,h1,h7,h8,hi,Let.ps,aJ,s123,cH pb]
   |false=>
    rw[hb] at pb;simp only[go_sem,i146_l1,h0,h1,h7,h8,hi,Let.ps,aJ,w1,s123,cH pb];refine⟨aq,fun j m hj hm=>?_⟩;rcases nZ.1 hj with hj|rfl
    .exact hn j m hj hm
    rw[dM] at hm;cases hm;exact hb
  have:k=ls.length:=aa;subst this;have hr:=nH fun j m hm=>hn j m (aV.1 hm).1 hm;subst hr;simp only[go_sem,i146_l1,i146_r2,h7,h8,dZ]
 cases ha:ls.any (de f) with
 |true=>
  have hx:ls.findIdx (de f)<ls.length:=List.findIdx_lt_length_of_exists (by simpa using ha);refine⟨(ls.findIdx (de f):Nat),⟨fun _=>rfl,fun _=>aa⟩,main _ ?_ ?_⟩
  .intro k l dM hb hn;have hk:=(aV.1 dM).1;have h1:de f ls[ls.findIdx (de f)]=true:=List.findIdx_getElem;rcases Nat.lt_trichotomy (ls.findIdx (de f)) k with h|h|h
   .have:=hn _ _ h (oQ hx);rw[h1] at this;cases this
   .rw[h]
   have:=List.not_of_lt_findIdx h;have e:ls[k]=l:=by rw[oQ hk] at dM;exact rB dM
   rw[e,hb] at this;simp at this
  intro hn;have h1:de f ls[ls.findIdx (de f)]=true:=List.findIdx_getElem;have:=hn _ _ (oQ hx);rw[h1] at this;cases this
 |false=>refine⟨-1,⟨fun h=>aa,fun h=>by cases h⟩,main _ ?_ (fun _=>rfl)⟩;intro k l dM hb _;have:=Dh.1 ha l (aQ dM);exact(this hb).elim
theorem ahU(f:Int)(ls:List Let)(x1 x2 x3 x4 x5 x6:PV)(hl:ls.length<=1000000)(hn:x1.norm=x1/\x2.norm=x2/\x3.norm=x3/\x4.norm=x4/\x5.norm=x5/\x6.norm=x6):
  aH S 122 [.one (.p (pR ls)),.one (.p (dfn f x1 x2 x3 x4 x5 x6))] (rb (ls.any (de f))):=by
 obtain⟨k,hk,pk⟩:=agY f ls x1 x2 x3 x4 x5 x6 hl hn;refine ba c122 ?_;cases ha:ls.any (de f) with
 |true=>have h0:=hk.2 ha;simp only[go_sem,i122,s146,dV pk,h0]
 |false=>
  have h0:¬0<=k:=fun h=>by rw[hk.1 h] at ha;cases ha
  simp only[go_sem,i122,s146,dV pk,h0]
abbrev Ic(f:Int)(ls:List Let)(x2 x3 x4 x5 x6:PV):PV:=.box [.int .i64 f,pR ls,x2,x3,x4,x5,x6]
theorem aim(f:Int)(ls:List Let)(x2 x3 x4 x5 x6:PV)(hl:ls.length<=1000000)(hn:x2.norm=x2/\x3.norm=x3/\x4.norm=x4/\x5.norm=x5/\x6.norm=x6):
  aH S 80 [.one (.p (Ic f ls x2 x3 x4 x5 x6))] (rb (!ls.any (de f))):=by
 have pc:=ahU f ls (pR ls) x2 x3 x4 x5 x6 hl ⟨rfl,hn.1,hn.2.1,hn.2.2.1,hn.2.2.2.1,hn.2.2.2.2⟩;refine ba c80 ?_;simp only[go_sem,i80,s122,cH pc]
theorem aif(f:Int)(ls:List Let)(l0:Let)(x2 x3 x4 x5 x6:PV)(hl:ls.length<=1000000)(h0:ls[0]?=some l0):
  aH S 81 [.one (.p (Ic f ls x2 x3 x4 x5 x6))] (rb (l0.kind==1&&au Let.ay ls%2==0)):=by
 have pp:=Vh f ls hl;have zy:=lf h0;refine ba c81 ?_;have e2:((((au Let.ay ls)%2:Nat):Int)==0)=(au Let.ay ls%2==0):=by
  cases h:(au Let.ay ls%2==0) with
  |true=>simp at h ⊢;omega
  |false=>simp at h ⊢;omega
 cases hk:(l0.kind==1) with
 |true=>simp only[go_sem,i81,zy,Let.ps,hk,s41,dV pp,jG,eD,e2]
 |false=>simp only[go_sem,i81,zy,Let.ps,hk]
def lY(g:Nat)(l:Let):Bool:=l.ay&&l.gate==(g:Int)
abbrev cg(ls:List Let)(g:Nat):Nat:=au (lY g) ls
def rM(ls:List Let)(F k:Nat):List Nat:=(List.range (F+1)).map fun g=>cg (ls.take k) g
def counts(ls:List Let)(F:Nat):List Nat:=(List.range (F+1)).map (cg ls)
theorem Yf{ls:List Let}{k G:Nat}(h:G<=F):(rM ls F k)[G]?=some (cg (ls.take k) G):=by simp[rM,tu (show G<F+1 by omega)]
theorem Rp(ls:List Let)(F:Nat):rM ls F ls.length=counts ls F:=by simp[rM,counts]
theorem Rq(ls:List Let)(F:Nat):rM ls F 0=List.replicate (F+1) 0:=by apply xw<;>simp[rM]
theorem Yh{ls:List Let}{k:Nat}{l:Let}(h:ls[k]?=some l)(hp:l.ay=false):rM ls F (k+1)=rM ls F k:=by unfold rM;congr 1;funext g;exact jR h (by simp[lY,hp])
theorem Yg{ls:List Let}{k G:Nat}{l:Let}(h:ls[k]?=some l)(hp:l.ay=true)(hg:l.gate=(G:Int)):
  rM ls F (k+1)=(rM ls F k).set G (cg (ls.take k) G+1):=by
 apply xw
 .simp[rM]
 intro i h1 h2;rw[Kn];simp only[rM,Dj,Km];split
 .rename_i e;subst e;exact sL h (by simp[lY,hp,hg])
 exact jR h (by simp[lY,hg];intro _ e;omega)
theorem Jr(o:List Nat)(k n:Nat):(nP o).set k [.int .i64 (n:Int)]=nP (o.set k n):=by simp[List.map_set]
theorem U8(o:List Nat):(nP o).length=o.length:=af
theorem U9(n m:Nat):nP (List.replicate n m)=List.replicate n [.int .i64 (m:Int)]:=af
theorem Xw(n:Nat)(b:Bool):bP (List.replicate n b)=List.replicate n [.bool b]:=af
theorem DE{ls:List Let}{k:Nat}{l:Let}(h:ls[k]?=some l)(hp:l.ay=true):dn ls (k+1)= !dn ls k:=by
 unfold dn;rw[sL h hp];cases hc:(au Let.ay (ls.take k)%2==0) with
 |true=>simp at hc ⊢;omega
 |false=>simp at hc ⊢;omega
theorem Ig{ls:List Let}{k:Nat}{l:Let}(h:ls[k]?=some l)(hp:l.ay=false):dn ls (k+1)=dn ls k:=by unfold dn;rw[jR h hp]
def iE(ls:List Let)(i:Nat):Bool:=match ls[i]? with|some l=>l.ay&&dn ls i|none=>false
def tJ(ls:List Let)(k:Nat):List Bool:=(List.range ls.length).map fun i=>decide (i<k)&&iE ls i
def pE(ls:List Let):List Bool:=(List.range ls.length).map (iE ls)
theorem aiu(ls:List Let):tJ ls 0=List.replicate ls.length false:=by apply xw<;>simp[tJ]
theorem aiq(ls:List Let):tJ ls ls.length=pE ls:=by unfold tJ pE;apply uu;intro i hi;simp[fk.1 hi]
theorem ais(ls:List Let)(k:Nat):(tJ ls k).length=ls.length:=by simp[tJ]
theorem ait{ls:List Let}{k:Nat}{l:Let}(h:ls[k]?=some l)(hp:l.ay=false):tJ ls (k+1)=tJ ls k:=by
 unfold tJ;apply uu;intro i hi;by_cases e:i=k
 .subst e;simp[iE,h,hp]
 have:(i<k+1)↔(i<k):=aa;simp[this]
theorem air{ls:List Let}{k:Nat}{l:Let}(h:ls[k]?=some l)(hp:l.ay=true):tJ ls (k+1)=(tJ ls k).set k (dn ls k):=by
 apply xw
 .simp[tJ]
 intro i h1 h2;rw[Kn];simp only[tJ,Dj,Km];split
 .rename_i e;subst e;simp[iE,h,hp]
 have:(i<k+1)↔(i<k):=aa;simp[this]
def eU(ls:List Let)(g:Nat):Nat:=((List.range g).map (cg ls)).sum
theorem sO(ls:List Let)(g:Nat):eU ls (g+1)=eU ls g+cg ls g:=by simp[eU,uv]
def wy(ls:List Let)(F k:Nat):List Nat:=(List.range (F+1)).map fun g=>if g<k then eU ls g else 0
def Il(ls:List Let)(F:Nat):List Nat:=(List.range (F+1)).map (eU ls)
theorem ajl(ls:List Let)(F:Nat):wy ls F 0=List.replicate (F+1) 0:=by apply xw<;>simp[wy]
theorem aji(ls:List Let)(F:Nat):wy ls F (F+1)=Il ls F:=by unfold wy Il;apply uu;intro i hi;simp[fk.1 hi]
theorem ajj(ls:List Let)(F k:Nat):(wy ls F k).length=F+1:=by simp[wy]
theorem ajk(ls:List Let)(F k:Nat):wy ls F (k+1)=(wy ls F k).set k (eU ls k):=by
 apply xw
 .simp[wy]
 intro i h1 h2;rw[Kn];simp only[wy,Dj,Km];by_cases e:k=i
 .subst e;simp
 have:(i<k+1)↔(i<k):=aa;simp only[this,if_neg e]
theorem FI{ls:List Let}{G:Nat}(h:G<=F):(counts ls F)[G]?=some (cg ls G):=by simp[counts,tu (show G<F+1 by omega)]
theorem ajm{ls:List Let}{G:Nat}(h:G<=F):(Il ls F)[G]?=some (eU ls G):=by simp[Il,tu (show G<F+1 by omega)]
theorem zg{ls:List Let}{a b:Nat}(h:a<=b):eU ls a<=eU ls b:=by
 induction h with
 |refl=>exact aZ _
 |step _ ih=>rw[sO];omega
theorem agE(g:Nat)(a:Let):((a.ay&&(decide (0<=a.gate)&&decide (a.gate<((g+1:Nat):Int))))=true)↔((a.ay&&(decide (0<=a.gate)&&decide (a.gate<(g:Int))))=true\/lY g a=true):=by
 simp only[lY,bQ,decide_eq_true_eq,beq_iff_eq];constructor
 .rintro ⟨h1,h2,h3⟩
  by_cases h:a.gate=(g:Int)
  .exact Or.inr ⟨h1,h⟩
  exact Or.inl ⟨h1,h2,aa⟩
 rintro (⟨h1,h2,h3⟩|⟨h1,h2⟩)
 .exact⟨h1,h2,aa⟩
 exact⟨h1,aa,aa⟩
theorem agD(g:Nat)(a:Let):(a.ay&&(decide (0<=a.gate)&&decide (a.gate<(g:Int))))=true->lY g a=true->False:=by simp only[lY,bQ,decide_eq_true_eq,beq_iff_eq];omega
theorem Ro{p q r:Let->Bool}(h:∀a,r a=true↔(p a=true\/q a=true))(hn:∀a,p a=true->q a=true->False):∀ls:List Let,ls.countP r=ls.countP p+ls.countP q:=by
 intro ls
 induction ls with
 |nil=>rfl
 |cons a ls ih=>rw[uV,uV,uV,ih];have h1:=h a;have h2:=hn a;cases ep:p a<;>cases eq:q a<;>cases er:r a<;>simp_all<;>omega
theorem Z7(ls:List Let):∀g,eU ls g=au (fun l=>l.ay&&(decide (0<=l.gate)&&decide (l.gate<((g:Nat):Int)))) ls:=by
 intro g
 induction g with
 |zero=>symm;show ls.countP _=0;rw[He];intro a _;simp only[bQ,decide_eq_true_eq];omega
 |succ g ih=>rw[sO,ih];exact(Ro (agE g) (agD g) ls).symm
theorem TR(ls:List Let)(g:Nat):eU ls g<=ls.length:=by rw[Z7];exact sM _ _
def dJ(ls:List Let)(l:Let):Nat:=eU ls l.gate.toNat+l.aA.toNat-1
def sX(ls:List Let)(p i:Nat):Bool:=match ls[i]? with|some l=>l.ay&&dJ ls l==p|none=>false
def xr(ls:List Let)(T k:Nat):List Bool:=(List.range T).map fun p=>(List.range k).any (sX ls p)
def Kz(ls:List Let)(k p:Nat):Nat:=((List.range k).find? (sX ls p)).getD 0
def sK(ls:List Let)(T k:Nat):List Nat:=(List.range T).map (Kz ls k)
def A7(ls:List Let)(i:Nat):Nat:=match ls[i]? with|some l=>if l.ay then dJ ls l else 0|none=>0
def jO(ls:List Let)(k:Nat):List Nat:=(List.range ls.length).map fun i=>if i<k then A7 ls i else 0
def tj(ls:List Let)(i:Nat):Bool:=match ls[i]? with
 |some l=> !l.ay||(decide (1<=l.aA)&&decide (l.aA<=(cg ls l.gate.toNat:Int)))&& !(List.range i).any (sX ls (dJ ls l))
 |none=>true
def yB(ls:List Let):Bool:=(List.range ls.length).all (tj ls)
theorem aqT(ls:List Let)(T:Nat):xr ls T 0=List.replicate T false:=by apply xw<;>simp[xr]
theorem agH(ls:List Let)(T:Nat):sK ls T 0=List.replicate T 0:=by apply xw<;>simp[sK,Kz]
theorem anz(ls:List Let):jO ls 0=List.replicate ls.length 0:=by apply xw<;>simp[jO]
theorem Xq(ls:List Let)(T k:Nat):(sK ls T k).length=T:=by simp[sK]
theorem anw(ls:List Let)(k:Nat):(jO ls k).length=ls.length:=by simp[jO]
theorem aqQ{ls:List Let}{T k p:Nat}(h:p<T):(xr ls T k)[p]?=some ((List.range k).any (sX ls p)):=by simp[xr,h]
theorem aaZ{ls:List Let}{k p:Nat}{l:Let}(h:ls[k]?=some l)(hp:l.ay=false):sX ls p k=false:=by simp[sX,h,hp]
theorem aqS{ls:List Let}{T k:Nat}{l:Let}(h:ls[k]?=some l)(hp:l.ay=false):xr ls T (k+1)=xr ls T k:=by unfold xr;congr 1;funext p;simp[uv,List.any_append,aaZ h hp]
theorem agG{ls:List Let}{T k:Nat}{l:Let}(h:ls[k]?=some l)(hp:l.ay=false):sK ls T (k+1)=sK ls T k:=by unfold sK;congr 1;funext p;simp[Kz,uv,List.find?_append,aaZ h hp]
theorem anx{ls:List Let}{k:Nat}{l:Let}(h:ls[k]?=some l)(hp:l.ay=false):jO ls (k+1)=jO ls k:=by
 unfold jO;apply uu;intro i hi;by_cases e:i=k
 .subst e;simp[A7,h,hp]
 have:(i<k+1)↔(i<k):=aa;simp[this]
theorem LY{ls:List Let}{k p:Nat}{l:Let}(h:ls[k]?=some l)(hp:l.ay=true):sX ls p k=(dJ ls l==p):=by simp[sX,h,hp]
theorem aqR{ls:List Let}{T k:Nat}{l:Let}(h:ls[k]?=some l)(hp:l.ay=true):xr ls T (k+1)=(xr ls T k).set (dJ ls l) true:=by
 apply xw
 .simp[xr]
 intro i h1 h2;rw[Kn];simp only[xr,Dj,Km,uv,List.any_append,List.any_cons,List.any_nil,Bool.or_false,LY h hp];split
 .rename_i e;simp[e]
 rename_i e;simp[e]
theorem agF{ls:List Let}{T k:Nat}{l:Let}(h:ls[k]?=some l)(hp:l.ay=true)(hn:(List.range k).any (sX ls (dJ ls l))=false):sK ls T (k+1)=(sK ls T k).set (dJ ls l) k:=by
 apply xw
 .simp[sK]
 intro i h1 h2;rw[Kn];simp only[sK,Dj,Km,Kz,uv,List.find?_append];by_cases e:dJ ls l=i
 .have h3:(List.range k).find? (sX ls i)=none:=by
   rw[<- e,Hf];intro x hx hq;rw[Dh] at hn;exact hn x hx hq
  have h4:sX ls i k=true:=by rw[LY h hp];simp[e]
  rw[h3,if_pos e,List.find?_cons,h4];rfl
 have h4:sX ls i k=false:=by rw[LY h hp];simp[e]
 rw[if_neg e,List.find?_cons,h4];simp
theorem anv{ls:List Let}{k:Nat}{l:Let}(h:ls[k]?=some l)(hp:l.ay=true):jO ls (k+1)=(jO ls k).set k (dJ ls l):=by
 apply xw
 .simp[jO]
 intro i h1 h2;rw[Kn];simp only[jO,Dj,Km];by_cases e:k=i
 .subst e;simp[A7,h,hp]
 have:(i<k+1)↔(i<k):=aa;simp only[this,if_neg e]
theorem VE{ls:List Let}{k:Nat}(hk:k<ls.length)(h:tj ls k=false):yB ls=false:=by unfold yB;rw[List.all_eq_false];exact⟨k,fk.2 hk,by simp[h]⟩
theorem aor{ls:List Let}(h:∀i,i<ls.length->tj ls i=true):yB ls=true:=by unfold yB;rw[iC];exact fun i hi=>h i (fk.1 hi)
abbrev Ho(id:Nat):Prop:=id=1408320128\/nQ id=82
abbrev u7(F:Nat)(ls:List Let)(c2 c3 c4 c5 c6:C):List C:=[.p (.int .i64 (F:Int)),.p (pR ls),c2,c3,c4,c5,c6]
abbrev hs(id g n:Nat):C:=.hsl id g 1 0 n
abbrev ql(F:Nat)(ls:List Let):Prop:=∀l∈ls,l.ay=true->0<=l.gate/\l.gate<=(F:Int)
def JO(F:Nat)(ls:List Let)(g:Nat)(c5:C)(jQ:aB)(v:V)(ak:aB):Prop:=
 v=vb (yB ls)/\Kept Ho jQ ak/\(yB ls=true->∃g1 g2 g3 g5,ak 1408320128=(g,some (.var (u7 F ls (hs 5248128448 g2 ls.length) (hs 5249344128 g5 (eU ls (F+1))) (hs 5248192448 g3 ls.length) c5 (hs 5248064448 g1 (F+1)))))/\
  ak 5248064448=(g1,some (.arr 3 1 (nP (counts ls F))))/\ak 5248128448=(g2,some (.arr 4 1 (bP (pE ls))))/\ak 5248192448=(g3,some (.arr 3 1 (nP (jO ls ls.length))))/\
  ak 5249344128=(g5,some (.arr 3 1 (nP (sK ls (eU ls (F+1)) ls.length)))))
theorem rk3{al:Al}(kQ:al.ok 1408320128=true)(ok:∀id,nQ id=82->al.ok id=true){jQ blk:aB}{aj:Env}{g g1 g2 g3 g4 F:Nat}{ls:List Let}{c3 c5:C}(hl:ls.length<=1000000)(hF:F<=1000000)(hg:ql F ls)
  (h0:aj 0=.one (.bt 1408320128 g 0)) (h6:aj 6=.one (hs 5248832384 g4 (F+1))) (h7:aj 7=vi (eU ls (F+1)))
  (bD:blk 1408320128=(g,some (.var (u7 F ls (hs 5248128448 g2 ls.length) c3 (hs 5248192448 g3 ls.length) c5 (hs 5248064448 g1 (F+1))))))
  (bC:blk 5248064448=(g1,some (.arr 3 1 (nP (counts ls F))))) (bW:blk 5248128448=(g2,some (.arr 4 1 (bP (pE ls))))) (o9:blk 5248192448=(g3,some (.arr 3 1 (nP (jO ls 0)))))
  (bF:blk 5248832384=(g4,some (.arr 3 1 (nP (Il ls F))))) (hk:Kept Ho jQ blk):W S al i82_r5 (qL al [(2,none)] (JO F ls g c5 jQ)) aj blk:=by
 have o1:=ok 5248064448 rfl;have o2:=ok 5248128448 rfl;have o3:=ok 5248192448 rfl;have o4:=ok 5248448192 rfl;have o5:=ok 5248832384 rfl;have o6:=ok 5249344128 rfl;have o7:=ok 5249408064 rfl;have o8:=ok 5249600192 rfl;have hT:=TR ls (F+1);have Mu:eU ls (F+1)*8<=140737488355328:=aa;have dI:eU ls (F+1)<=140737488355328:=aa;simp only[go_sem,i82_r5,h0,h7,bD,Mu,dI,kQ,o6,o7];refine cQ (fun k aj ak=>aj 0=.one (.bt 1408320128 g 0)/\aj 6=.one (hs 5248832384 g4 (F+1))/\aj 10=.one (hs 5249408064 ((blk 5249408064).1+1) (eU ls (F+1)))/\aj 114=.one (.p (pR ls))/\aj 115=vi ls.length/\aj 116=vi k/\
  ak 1408320128=(g,some (.var (u7 F ls (hs 5248128448 g2 ls.length) (hs 5249344128 ((blk 5249344128).1+1) (eU ls (F+1))) (hs 5248192448 g3 ls.length) c5 (hs 5248064448 g1 (F+1)))))/\
  ak 5248064448=(g1,some (.arr 3 1 (nP (counts ls F))))/\ak 5248128448=(g2,some (.arr 4 1 (bP (pE ls))))/\ak 5248192448=(g3,some (.arr 3 1 (nP (jO ls k))))/\
  ak 5248832384=(g4,some (.arr 3 1 (nP (Il ls F))))/\ak 5249344128=((blk 5249344128).1+1,some (.arr 3 1 (nP (sK ls (eU ls (F+1)) k))))/\ak 5249408064=((blk 5249408064).1+1,some (.arr 4 1 (bP (xr ls (eU ls (F+1)) k))))/\
  (∀i,i<k->tj ls i=true)/\Kept Ho jQ ak) 0 ls.length (aY _) ?_ ?_
 .simp only[go_sem,h0,h6,bC,bW,o9,bF,agH,aqT,U9,Xw];refine⟨rfl,rfl,fun i h=>absurd h (tA i),?_⟩;repeat(first|exact hk|refine Kept.cZ ?_ (by first|exact Or.inl rfl|exact Or.inr rfl) _)
 rintro k aj ak hk ⟨h0,h6,dm,Lm,Iy,DP,bD,bC,bW,o9,bF,bA,bT,ao,cU⟩
 by_cases aq:k<ls.length
 .obtain⟨l,dM⟩:=aI aq;have hi:=lf dM;have aJ:((k:Int)<(ls.length:Int)):=aa;have w1:=bG (n:=k) aa;cases hp:(l.kind==1) with
  |false=>
   have gE:l.ay=false:=hp;have lS:(l.kind !=1)=true:=by simp[bne,hp]
   have kK:tj ls k=true:=by simp[tj,dM,gE]
   simp only[go_sem,i82_l3,h0,h6,dm,Lm,Iy,DP,bD,bC,bW,bF,o9,bA,bT,hi,Let.ps,aJ,lS,w1,o8];refine⟨aq,?_,?_,?_,?_,?_⟩
   .rw[anx dM gE]
   .rw[agG dM gE]
   .rw[aqS dM gE]
   .intro i hi;rcases nZ.1 hi with h|rfl
    .exact ao i h
    exact kK
   repeat(first|exact cU|refine Kept.cZ ?_ (by first|exact Or.inl rfl|exact Or.inr rfl) _)
  |true=>
   have gE:l.ay=true:=hp;have lS:(l.kind !=1)=false:=by simp[bne,hp]
   obtain⟨Ec,Ci⟩:=hg l (aQ dM) gE;obtain⟨G,hG⟩:=oL Ec;have zo:G<=F:=aa;have B7:G<F+1:=aa;have qt:=iA (FI (ls:=ls) zo);have ye:=iA (ajm (ls:=ls) zo);have iU:l.gate.toNat=G:=aa;cases r1:decide (l.aA<1) with
   |true=>have sD:l.aA<1:=of_decide_eq_true r1;have r1n:¬1<=l.aA:=aa;have dF:=VE aq (show tj ls k=false by simp[tj,dM,gE,r1n]);simp only[go_sem,i82_l3,Lm,Iy,DP,hi,Let.ps,aJ,lS,sD,o8];refine⟨aD,?_⟩;unfold JO;refine⟨by rw[dF],?_,fun h=>by rw[dF] at h;cases h⟩;repeat(first|exact cU|refine Kept.cZ ?_ (by first|exact Or.inl rfl|exact Or.inr rfl) _)
   |false=>
    have sD:¬l.aA<1:=of_decide_eq_false r1;obtain⟨R,hR⟩:=oL (show 0<=l.aA by omega);have r1R:¬((R:Int)<1):=aa;cases r2:decide ((cg ls G:Int)<(R:Int)) with
    |true=>
     have tg:(cg ls G:Int)<(R:Int):=of_decide_eq_true r2;have r2n:¬l.aA<=(cg ls l.gate.toNat:Int):=by rw[iU];omega
     have dF:=VE aq (show tj ls k=false by simp[tj,dM,gE,r2n]);simp only[go_sem,i82_l3,h0,Lm,Iy,DP,bD,bC,hi,Let.ps,aJ,lS,hR,hG,r1R,tg,qt,B7,kQ,o1,o8];refine⟨aD,?_⟩;unfold JO;refine⟨by rw[dF],?_,fun h=>by rw[dF] at h;cases h⟩;repeat(first|exact cU|refine Kept.cZ ?_ (by first|exact Or.inl rfl|exact Or.inr rfl) _)
    |false=>
     have tg:¬(cg ls G:Int)<(R:Int):=of_decide_eq_false r2;have hfle:=TR ls G;have hmono:=zg (ls:=ls) (show G+1<=F+1 by omega);have tS:=sO ls G;have hPT:dJ ls l<eU ls (F+1):=by unfold dJ;rw[iU];omega
     have bh:eU ls G+R-1=dJ ls l:=by unfold dJ;rw[iU];omega
     have eo:cg ls G<=ls.length:=sM _ _;have w2:=wrap_add (a:=eU ls G) (b:=R) aa;have w3:=G0 (a:=eU ls G+R) aa aa;rw[bh] at w3;have Gl:=tD (aqQ (ls:=ls) (k:=k) hPT);cases hu:(List.range k).any (sX ls (dJ ls l)) with
     |true=>rw[hu] at Gl;have dF:=VE aq (show tj ls k=false by simp[tj,dM,gE,hu]);simp only[go_sem,i82_l3,h0,h6,dm,Lm,Iy,DP,bD,bC,bF,bT,hi,Let.ps,aJ,lS,hR,hG,r1R,tg,qt,ye,B7,w2,w3,Gl,hPT,kQ,o1,o5,o7,o8];refine⟨aD,aD,?_⟩;unfold JO;refine⟨by rw[dF],?_,fun h=>by rw[dF] at h;cases h⟩;repeat(first|exact cU|refine Kept.cZ ?_ (by first|exact Or.inl rfl|exact Or.inr rfl) _)
     |false=>
      rw[hu] at Gl;have kK:tj ls k=true:=by
       have e1:1<=l.aA:=aa;have e2:l.aA<=(cg ls l.gate.toNat:Int):=by rw[iU];omega
       simp[tj,dM,e1,e2,hu]
      obtain⟨a0,wK⟩:=aI (show dJ ls l<(sK ls (eU ls (F+1)) k).length by rw[Xq];exact hPT);obtain⟨p0,wT⟩:=aI (show k<(jO ls k).length by rw[anw];exact aq);have wK:=iA wK;have wT:=iA wT;have s1:=HF (xr ls (eU ls (F+1)) k) (dJ ls l) true;rw[<- aqR dM gE] at s1;have s2:=Jr (sK ls (eU ls (F+1)) k) (dJ ls l) k;rw[<- agF dM gE hu] at s2;have s3:=Jr (jO ls k) k (dJ ls l);rw[<- anv dM gE] at s3;simp only[go_sem,i82_l3,h0,h6,dm,Lm,Iy,DP,bD,bC,bW,bF,o9,bA,bT,hi,Let.ps,aJ,aq,lS,w1,hR,hG,r1R,tg,qt,ye,B7,w2,w3,Gl,hPT,wK,wT,s1,s2,s3,kQ,o1,o3,o5,o6,o7,o8];refine⟨aD,aD,aD,?_,?_⟩
      .intro i hi;rcases nZ.1 hi with h|rfl
       .exact ao i h
       exact kK
      repeat(first|exact cU|refine Kept.cZ ?_ (by first|exact Or.inl rfl|exact Or.inr rfl) _)
 have:k=ls.length:=aa;subst this;have hr:=aor ao;simp only[go_sem,i82_l3,i82_r4,Iy,DP,dZ];exact⟨by rw[hr],cU,fun _=>⟨g1,g2,g3,(blk 5249344128).1+1,bD,bC,bW,o9,bA⟩⟩
theorem rk2{al:Al}(kQ:al.ok 1408320128=true)(ok:∀id,nQ id=82->al.ok id=true){jQ blk:aB}{aj:Env}{g g1 g2 g3 F:Nat}{ls:List Let}{c3 c5:C}(hl:ls.length<=1000000)(hF:F<=1000000)(hg:ql F ls)
  (h0:aj 0=.one (.bt 1408320128 g 0))
  (bD:blk 1408320128=(g,some (.var (u7 F ls (hs 5248128448 g2 ls.length) c3 (hs 5248192448 g3 ls.length) c5 (hs 5248064448 g1 (F+1))))))
  (bC:blk 5248064448=(g1,some (.arr 3 1 (nP (counts ls F))))) (bW:blk 5248128448=(g2,some (.arr 4 1 (bP (pE ls))))) (o9:blk 5248192448=(g3,some (.arr 3 1 (nP (jO ls 0)))))
  (hk:Kept Ho jQ blk):W S al i82_r6 (qL al [(2,none)] (JO F ls g c5 jQ)) aj blk:=by
 have o1:=ok 5248064448 rfl;have o2:=ok 5248128448 rfl;have o3:=ok 5248192448 rfl;have o4:=ok 5248448192 rfl;have o5:=ok 5248832384 rfl;have o6:=ok 5249344128 rfl;have o7:=ok 5249408064 rfl;have o8:=ok 5249600192 rfl;have Mu:(F+1)*8<=140737488355328:=aa;have wF:=bG (n:=F) aa;simp only[go_sem,i82_r6,h0,bD,wF,Mu,kQ,o5];refine cQ (fun k aj ak=>aj 0=.one (.bt 1408320128 g 0)/\aj 6=.one (hs 5248832384 ((blk 5248832384).1+1) (F+1))/\aj 7=vi (eU ls k)/\aj 88=.one (hs 5248064448 g1 (F+1))/\aj 89=vi ((F+1:Nat):Int)/\aj 90=vi k/\
  ak 1408320128=(g,some (.var (u7 F ls (hs 5248128448 g2 ls.length) c3 (hs 5248192448 g3 ls.length) c5 (hs 5248064448 g1 (F+1)))))/\
  ak 5248064448=(g1,some (.arr 3 1 (nP (counts ls F))))/\ak 5248128448=(g2,some (.arr 4 1 (bP (pE ls))))/\ak 5248192448=(g3,some (.arr 3 1 (nP (jO ls 0))))/\
  ak 5248832384=((blk 5248832384).1+1,some (.arr 3 1 (nP (wy ls F k))))/\Kept Ho jQ ak) 0 (F+1) (aY _) ?_ ?_
 .simp only[go_sem,h0,bD,bC,bW,o9,ajl,U9];refine⟨rfl,rfl,rfl,?_⟩;repeat(first|exact hk|refine Kept.cZ ?_ (by first|exact Or.inl rfl|exact Or.inr rfl) _)
 rintro k aj ak hk ⟨h0,h6,h7,h88,h89,h90,bD,bC,bW,o9,bF,cU⟩
 by_cases aq:k<F+1
 .have aJ:((k:Int)<((F+1:Nat):Int)):=aa;have w1:=bG (n:=k) aa;have hc:=iA (FI (ls:=ls) (show k<=F by omega));obtain⟨a0,ha⟩:=aI (show k<(wy ls F k).length by rw[ajj];exact aq);have ha:=iA ha;have s1:=Jr (wy ls F k) k (eU ls k);rw[<- ajk] at s1;have hs:=sO ls k;have hle:=TR ls (k+1);have w2:=wrap_add (a:=eU ls k) (b:=cg ls k) aa;rw[<- hs] at w2;simp only[go_sem,i82_l2,h0,h6,h7,h88,h89,h90,bD,bC,bW,o9,bF,aq,aJ,hc,ha,s1,w1,w2,o1,o5];repeat(first|exact cU|refine Kept.cZ ?_ (by first|exact Or.inl rfl|exact Or.inr rfl) _)
 have:k=F+1:=aa;subst this;simp only[go_sem,i82_l2,h89,h90,dZ];exact rk3 kQ ok hl hF hg h0 h6 h7 bD bC bW o9 (by rw[bF,aji]) cU
theorem aoq{al:Al}(kQ:al.ok 1408320128=true)(ok:∀id,nQ id=82->al.ok id=true){blk:aB}{g F:Nat}{ls:List Let}{c2 c3 c4 c5 c6:C}(hl:ls.length<=1000000)(hF:F<=1000000)(hg:ql F ls)
  (bD:blk 1408320128=(g,some (.var (u7 F ls c2 c3 c4 c5 c6)))):∃v ak,jd S 82 [.one (.bt 1408320128 g 0)] al blk v ak/\JO F ls g c5 blk v ak:=by
 have o1:=ok 5248064448 rfl;have o2:=ok 5248128448 rfl;have o3:=ok 5248192448 rfl;have o4:=ok 5248448192 rfl;have o5:=ok 5248832384 rfl;have o6:=ok 5249344128 rfl;have o7:=ok 5249408064 rfl;have o8:=ok 5249600192 rfl;refine oY c82 (hU rfl) ?_;have Mu:(F+1)*8<=140737488355328:=aa;have hn8:ls.length*8<=140737488355328:=aa;have il:ls.length<=140737488355328:=aa;have wF:=bG (n:=F) aa;simp only[go_sem,i82,bD,wF,Mu,hn8,il,kQ,o1,o2,o3];refine cQ (fun k aj ak=>aj 0=.one (.bt 1408320128 g 0)/\aj 3=vb (dn ls k)/\aj 48=.one (.p (pR ls))/\aj 49=vi ls.length/\aj 50=vi k/\
  ak 1408320128=(g,some (.var (u7 F ls (hs 5248128448 ((blk 5248128448).1+1) ls.length) c3 (hs 5248192448 ((blk 5248192448).1+1) ls.length) c5 (hs 5248064448 ((blk 5248064448).1+1) (F+1)))))/\
  ak 5248064448=((blk 5248064448).1+1,some (.arr 3 1 (nP (rM ls F k))))/\ak 5248128448=((blk 5248128448).1+1,some (.arr 4 1 (bP (tJ ls k))))/\ak 5248192448=((blk 5248192448).1+1,some (.arr 3 1 (nP (jO ls 0))))/\
  Kept Ho blk ak) 0 ls.length (aY _) ?_ ?_
 .simp only[go_sem,bD,Rq,aiu,anz,U9,Xw];refine⟨rfl,rfl,rfl,rfl,?_⟩;repeat(first|exact(Kept.refl _ _)|refine Kept.cZ ?_ (by first|exact Or.inl rfl|exact Or.inr rfl) _)
 rintro k aj ak hk ⟨h0,h3,Lq,h49,h50,bD,bC,bW,o9,cU⟩
 by_cases aq:k<ls.length
 .obtain⟨l,dM⟩:=aI aq;have hi:=lf dM;have aJ:((k:Int)<(ls.length:Int)):=aa;have w1:=bG (n:=k) aa;cases hp:(l.kind==1) with
  |false=>
   have gE:l.ay=false:=hp;simp only[go_sem,i82_l1,h0,h3,Lq,h49,h50,bD,bC,bW,o9,hi,Let.ps,aJ,hp,w1,o4];refine⟨aq,?_,?_,?_,?_⟩
   .rw[Ig dM gE]
   .rw[Yh dM gE]
   .rw[ait dM gE]
   repeat(first|exact cU|refine Kept.cZ ?_ (by first|exact Or.inl rfl|exact Or.inr rfl) _)
  |true=>have gE:l.ay=true:=hp;obtain⟨Ec,Ci⟩:=hg l (aQ dM) gE;obtain⟨G,hG⟩:=oL Ec;have zo:G<=F:=aa;have B7:G<F+1:=aa;have qt:=iA (Yf (ls:=ls) (k:=k) zo);have eo:cg (ls.take k) G<=k:=yX _ _ _;have w2:=bG (n:=cg (ls.take k) G) aa;have s1:=Jr (rM ls F k) G (cg (ls.take k) G+1);rw[<- Yg dM gE hG] at s1;obtain⟨b0,hb⟩:=aI (show k<(tJ ls k).length by rw[ais];exact aq);have hb:=tD hb;have s2:=HF (tJ ls k) k (dn ls k);rw[<- air dM gE] at s2;have hd:=DE dM gE;simp only[go_sem,i82_l1,h0,h3,Lq,h49,h50,bD,bC,bW,o9,hi,Let.ps,aJ,aq,hp,w1,hG,qt,B7,w2,s1,hb,s2,hd,kQ,o1,o2,o4];refine⟨aD,?_⟩;repeat(first|exact cU|refine Kept.cZ ?_ (by first|exact Or.inl rfl|exact Or.inr rfl) _)
 have:k=ls.length:=aa;subst this;simp only[go_sem,i82_l1,h49,h50,dZ];exact rk2 kQ ok hl hF hg h0 bD (by rw[bC,Rp]) (by rw[bW,aiq]) o9 cU
def qT(ls:List Let)(id:Int)(o:Bool)(j:Nat):Bool:=match ls[j]? with|some m=>m.aw&&(m.id==id&&m.over==o)|none=>false
def gC(ls:List Let)(k:Nat)(id:Int)(o:Bool):Option Nat:=(List.range k).find? (qT ls id o)
def Bn:Option Nat->Int
 |some j=>j
 |none=> -1
def eL(ls:List Let):Nat->List Int
 |0=>[]
 |k+1=>match ls[k]? with
  |some l=>if l.aw&& !(eL ls k).contains l.id then eL ls k++[l.id] else eL ls k
  |none=>eL ls k
def qM(ls:List Let)(k:Nat)(id:Int):List PV:=[.int .i64 (Bn (gC ls k id false)),.int .i64 (Bn (gC ls k id true))]
def pS(ls:List Let)(k:Nat):List (PV×List PV):=(eL ls k).map fun id=>(PV.int .i64 id,qM ls k id)
def CW(ls:List Let)(j:Nat):Int:=((ls[j]?).map Let.sign).getD 0
def ml(ls:List Let)(n2:Nat)(k:Nat):Bool:=match ls[k]? with
 |some l=> !l.aw||((decide (1<=l.id)&&decide (l.id<=(n2:Int)))&&((gC ls k l.id l.over).isNone&&(match gC ls k l.id (!l.over) with|some j=>CW ls j==l.sign|none=>true)))
 |none=>true
def lz(ls:List Let):Bool:=(au Let.aw ls%2==0)&&(List.range ls.length).all (ml ls (au Let.aw ls/2))&&((eL ls ls.length).length==au Let.aw ls/2)
theorem IP{ls:List Let}{k:Nat}{l:Let}(h:ls[k]?=some l)(hc:l.aw=true)(id:Int)(o:Bool):qT ls id o k=(l.id==id&&l.over==o):=by simp[qT,h,hc]
theorem aa5{ls:List Let}{k:Nat}{l:Let}(h:ls[k]?=some l)(hc:l.aw=false)(id:Int)(o:Bool):qT ls id o k=false:=by simp[qT,h,hc]
theorem Qw(ls:List Let)(k:Nat)(id:Int)(o:Bool):gC ls (k+1) id o=(gC ls k id o).or (if qT ls id o k then some k else none):=by simp only[gC,uv,List.find?_append,List.find?_cons,List.find?_nil];cases qT ls id o k<;>rfl
theorem GV{ls:List Let}{k:Nat}{id:Int}{o:Bool}{j:Nat}(h:gC ls k id o=some j):j<k/\qT ls id o j=true:=
 ⟨fk.1 (Ko h),List.find?_some h⟩
theorem Au{ls:List Let}{id:Int}{o:Bool}{j:Nat}(h:qT ls id o j=true):∃m,ls[j]?=some m/\m.aw=true/\m.id=id/\m.over=o:=by
 unfold qT at h;split at h
 .rename_i m hm;simp only[bQ,beq_iff_eq] at h;exact⟨m,hm,h.1,h.2.1,h.2.2⟩
 cases h
theorem Nw{ls:List Let}{k:Nat}{id:Int}{o:Bool}(h:gC ls k id o=none){j:Nat}(hj:j<k):qT ls id o j=false:=by
 have:=Hf.1 h j (fk.2 hj)
 simpa using this
theorem abr{ls:List Let}{k:Nat}{l:Let}(h:ls[k]?=some l)(hc:l.aw=false):eL ls (k+1)=eL ls k:=by simp[eL,h,hc]
theorem abt{ls:List Let}{k:Nat}{l:Let}(h:ls[k]?=some l)(hc:l.aw=true)(hn:l.id∉eL ls k):eL ls (k+1)=eL ls k++[l.id]:=by simp[eL,h,hc,hn]
theorem abu{ls:List Let}{k:Nat}{l:Let}(h:ls[k]?=some l)(hn:l.id∈eL ls k):eL ls (k+1)=eL ls k:=by simp[eL,h,hn]
theorem amG{ls:List Let}{k:Nat}{l:Let}(h:ls[k]?=some l)(hc:l.aw=false):pS ls (k+1)=pS ls k:=by unfold pS qM;rw[abr h hc];simp[Qw,aa5 h hc]
theorem alh{ls:List Let}{id:Int}:∀(k:Nat),k<=ls.length->(id∈eL ls k↔ ∃j o,j<k/\qT ls id o j=true):=by
 intro k
 induction k with
 |zero=>intro _;simp[eL]
 |succ k ih=>
  intro hk;obtain⟨l,hl⟩:=aI (show k<ls.length by omega);have ih:=ih aa;have old:(∃j o,j<k/\qT ls id o j=true)->∃j o,j<k+1/\qT ls id o j=true:=fun⟨j,o,h1,h2⟩=>⟨j,o,aa,h2⟩;cases hc:l.aw with
  |false=>
   rw[abr hl hc,ih];refine⟨old,?_⟩;rintro ⟨j,o,h1,h2⟩
   rcases nZ.1 h1 with h|rfl
   .exact⟨j,o,h,h2⟩
   rw[aa5 hl hc] at h2;cases h2
  |true=>
   have key:id∈eL ls (k+1)↔(id∈eL ls k\/id=l.id):=by
    by_cases hm:l.id∈eL ls k
    .rw[abu hl hm];exact⟨Or.inl,fun h=>h.elim eV (fun e=>e▸hm)⟩
    rw[abt hl hc hm];simp
   rw[key,ih];constructor
   .rintro (h|rfl)
    .exact old h
    exact⟨k,l.over,aa,by rw[IP hl hc];simp⟩
   rintro ⟨j,o,h1,h2⟩
   rcases nZ.1 h1 with h|rfl
   .exact Or.inl ⟨j,o,h,h2⟩
   rw[IP hl hc] at h2;simp only[bQ,beq_iff_eq] at h2;exact Or.inr h2.1.symm
where eV {p:Prop} (h:p):p:=h
theorem Gt{ls:List Let}{id:Int}{k:Nat}(h:k<=ls.length):id∈eL ls k↔ ∃j o,j<k/\qT ls id o j=true:=alh k h
theorem O4(ls:List Let):∀k,(eL ls k).Nodup:=by
 intro k
 induction k with
 |zero=>simp[eL]
 |succ k ih=>
  unfold eL;split
  .split
   .rename_i h;simp only[bQ,gH,List.contains_eq_mem,decide_eq_false_iff_not] at h;rw[Hh];refine⟨ih,af,?_⟩;intro a ha b hb;simp only[j6] at hb;subst hb;rintro rfl
    exact h.2 ha
   exact ih
  exact ih
theorem arw{ls:List Let}{k:Nat}(hk:k<=ls.length){id:Int}(h:id∉eL ls k)(o:Bool):gC ls k id o=none:=by
 cases hv:gC ls k id o with
 |none=>rfl
 |some j=>obtain⟨h1,h2⟩:=GV hv;exact absurd ((Gt hk).2 ⟨j,o,h1,h2⟩) h
theorem afb{ls:List Let}{k:Nat}(hk:k<=ls.length){id:Int}(h:id∈eL ls k)(o:Bool)(hn:gC ls k id o=none):∃j m,gC ls k id (!o)=some j/\ls[j]?=some m/\j<k:=by
 obtain⟨j,o',h1,h2⟩:=(Gt hk).1 h;by_cases e:o'=o
 .subst e;rw[Nw hn h1] at h2;cases h2
 have e:o'= !o:=by cases o<;>cases o'<;>simp_all
 subst e;cases hv:gC ls k id (!o) with
 |none=>rw[Nw hv h1] at h2;cases h2
 |some i=>obtain⟨h3,h4⟩:=GV hv;obtain⟨m,hm,_⟩:=Au h4;exact⟨i,m,rfl,hm,h3⟩
theorem afc{ls:List Let}{k:Nat}{l:Let}(h:ls[k]?=some l)(hc:l.aw=true){id:Int}(hn:¬l.id=id)(o:Bool):gC ls (k+1) id o=gC ls k id o:=by rw[Qw,IP h hc];simp[hn]
theorem Wl{ls:List Let}{k:Nat}{l:Let}(h:ls[k]?=some l)(hc:l.aw=true)(hn:gC ls k l.id l.over=none):gC ls (k+1) l.id l.over=some k:=by rw[Qw,IP h hc,hn];simp
theorem Wk{ls:List Let}{k:Nat}{l:Let}(h:ls[k]?=some l)(hc:l.aw=true):gC ls (k+1) l.id (!l.over)=gC ls k l.id (!l.over):=by rw[Qw,IP h hc];cases l.over<;>simp
theorem YQ{ls:List Let}{k:Nat}{l:Let}(h:ls[k]?=some l)(hc:l.aw=true){id:Int}(hn:¬l.id=id):qM ls (k+1) id=qM ls k id:=by unfold qM;rw[afc h hc hn,afc h hc hn]
theorem amH{ls:List Let}{k:Nat}{l:Let}(h:ls[k]?=some l)(hc:l.aw=true)(hn:l.id∉eL ls k):pS ls (k+1)=pS ls k++[(.int .i64 l.id,qM ls (k+1) l.id)]:=by unfold pS;rw[abt h hc hn,iS];congr 1;apply uu;intro id hid;rw[YQ h hc (by rintro rfl;exact hn hid)]
theorem amI{ls:List Let}{k:Nat}{l:Let}(h:ls[k]?=some l)(hc:l.aw=true)(hn:l.id∈eL ls k):pS ls (k+1)=(pS ls k).set ((eL ls k).idxOf l.id) (.int .i64 l.id,qM ls (k+1) l.id):=by
 unfold pS;rw[abu h hn];apply xw
 .simp
 intro i h1 h2;rw[Kn];simp only[cF] at h1;by_cases e:(eL ls k).idxOf l.id=i
 .subst e;simp only[Dj,if_pos,List.getElem_idxOf]
 rw[if_neg e];simp only[Dj];rw[YQ h hc];intro e2;apply e;rw[e2];exact(O4 ls k).idxOf_getElem i h1
theorem Z4(ls:List Let)(k:Nat)(q:Int):wh (.int .i64 q) (pS ls k) 0=some (if q∈eL ls k then some ((eL ls k).idxOf q,qM ls k q) else none):=by unfold pS;rw[ajf];simp
theorem HV{ls:List Let}{k:Nat}(hk:k<ls.length)(h:ml ls (au Let.aw ls/2) k=false):lz ls=false:=by have:(List.range ls.length).all (ml ls (au Let.aw ls/2))=false:=List.all_eq_false.2 ⟨k,fk.2 hk,by simp[h]⟩;simp[lz,this]
theorem Rv{ls:List Let}(he:au Let.aw ls%2=0)(h:∀i,i<ls.length->ml ls (au Let.aw ls/2) i=true):lz ls=((eL ls ls.length).length==au Let.aw ls/2):=by have:(List.range ls.length).all (ml ls (au Let.aw ls/2))=true:=iC.2 fun i hi=>h i (fk.1 hi);simp[lz,this,he]
abbrev WC(id:Nat):Prop:=id=1408320128\/nQ id=83
def Hb(F:Nat)(ls:List Let)(g:Nat)(c2 c3 c4 c6:C)(jQ:aB)(v:V)(ak:aB):Prop:=v=vb (lz ls)/\Kept WC jQ ak/\(lz ls=true->∃g1,ak 1408320128=(g,some (.var (u7 F ls c2 c3 c4 (.k9 5312256064 g1) c6)))/\ak 5312256064=(g1,some (.map true (pS ls ls.length))))
theorem ge0(j:Nat):decide ((0:Int)<=(j:Int))=true:=decide_eq_true aa
theorem wr0:IntKind.i64.wrap 0=0:=ae
theorem wr1:IntKind.i64.wrap 1=1:=ae
theorem Js:((-1:Int)≥0)=False:=af
theorem neg1':((0:Int)<= -1)=False:=af
theorem aih{al:Al}(kQ:al.ok 1408320128=true)(ok:∀id,nQ id=83->al.ok id=true){blk:aB}{g F:Nat}{ls:List Let}{c2 c3 c4 c5 c6:C}(hl:ls.length<=1000000)
  (bD:blk 1408320128=(g,some (.var (u7 F ls c2 c3 c4 c5 c6)))):∃v ak,jd S 83 [.one (.bt 1408320128 g 0)] al blk v ak/\Hb F ls g c2 c3 c4 c6 blk v ak:=by
 have o1:=ok 5312256064 rfl;have o2:=ok 5312448192 rfl;have o3:=ok 5312704640 rfl;refine oY c83 (hU rfl) ?_;have pc:=Rw F ls hl;have eo:au Let.aw ls<=ls.length:=sM _ _;cases he:(((au Let.aw ls%2:Nat):Int)!=0) with
 |true=>
  have dF:lz ls=false:=by
   have:(au Let.aw ls%2==0)=false:=by simp at he ⊢;omega
   simp[lz,this]
  simp only[go_sem,i83,bD,s48,FV pc,jG,eD,he,kQ];exact⟨by rw[dF],Kept.refl _ _,fun h=>by rw[dF] at h;cases h⟩
 |false=>
  have he0:au Let.aw ls%2=0:=by simp at he;omega
  simp only[go_sem,i83,bD,s48,FV pc,jG,eD,he,kQ,o1];refine cQ (fun k aj ak=>aj 0=.one (.bt 1408320128 g 0)/\aj 3=vi (au Let.aw ls)/\aj 25=.one (.p (pR ls))/\aj 26=vi ls.length/\aj 27=vi k/\
   ak 1408320128=(g,some (.var (u7 F ls c2 c3 c4 (.k9 5312256064 ((blk 5312256064).1+1)) c6)))/\ak 5312256064=((blk 5312256064).1+1,some (.map true (pS ls k)))/\
   (∀i,i<k->ml ls (au Let.aw ls/2) i=true)/\Kept WC blk ak) 0 ls.length (aY _) ?_ ?_
  .simp only[go_sem,bD];refine⟨rfl,rfl,fun i h=>absurd h (tA i),?_⟩;repeat(first|exact(Kept.refl _ _)|refine Kept.cZ ?_ (by first|exact Or.inl rfl|exact Or.inr rfl) _)
  rintro k aj ak hk ⟨h0,h3,tN,xO,xP,bD,bM,ao,cU⟩
  have wq:IntKind.i64.wrap ((au Let.aw ls/2:Nat):Int)=((au Let.aw ls/2:Nat):Int):=wrap_small aa;by_cases aq:k<ls.length
  .obtain⟨l,dM⟩:=aI aq;have hi:=lf dM;have aJ:((k:Int)<(ls.length:Int)):=aa;have w1:=bG (n:=k) aa;cases hc:(l.kind==2) with
   |false=>
    have ki:l.aw=false:=hc;have hp:(l.kind !=2)=true:=by simp[bne,hc]
    have kK:ml ls (au Let.aw ls/2) k=true:=by simp[ml,dM,ki]
    simp only[go_sem,i83_l1,h0,h3,tN,xO,xP,bD,bM,hi,Let.ps,aJ,hp,w1,o2];refine⟨aq,?_,?_,?_⟩
    .rw[amG dM ki]
    .intro i hi;rcases nZ.1 hi with h|rfl
     .exact ao i h
     exact kK
    repeat(first|exact cU|refine Kept.cZ ?_ (by first|exact Or.inl rfl|exact Or.inr rfl) _)
   |true=>
    have ki:l.aw=true:=hc;have hp:(l.kind !=2)=false:=by simp[bne,hc]
    cases r1:decide (l.id<1) with
    |true=>have sD:l.id<1:=of_decide_eq_true r1;have r1n:¬1<=l.id:=aa;have dF:=HV aq (show ml ls (au Let.aw ls/2) k=false by simp[ml,dM,ki,r1n]);simp only[go_sem,i83_l1,tN,xO,xP,hi,Let.ps,aJ,hp,sD,o2];unfold Hb;refine⟨by rw[dF],?_,fun h=>by rw[dF] at h;cases h⟩;repeat(first|exact cU|refine Kept.cZ ?_ (by first|exact Or.inl rfl|exact Or.inr rfl) _)
    |false=>
     have sD:¬l.id<1:=of_decide_eq_false r1;have r1y:1<=l.id:=aa;cases r2:decide (((au Let.aw ls/2:Nat):Int)<l.id) with
     |true=>have tg:((au Let.aw ls/2:Nat):Int)<l.id:=of_decide_eq_true r2;have r2n:¬l.id<=((au Let.aw ls/2:Nat):Int):=aa;have dF:=HV aq (show ml ls (au Let.aw ls/2) k=false by simp only[ml,dM,ki,r2n];simp);simp only[go_sem,i83_l1,h3,tN,xO,xP,hi,Let.ps,aJ,hp,sD,tg,fy,eD,wq,o2];unfold Hb;refine⟨by rw[dF],?_,fun h=>by rw[dF] at h;cases h⟩;repeat(first|exact cU|refine Kept.cZ ?_ (by first|exact Or.inl rfl|exact Or.inr rfl) _)
     |false=>
      have tg:¬((au Let.aw ls/2:Nat):Int)<l.id:=of_decide_eq_false r2;have r2y:l.id<=((au Let.aw ls/2:Nat):Int):=aa;have hf:=Z4 ls k l.id;have nI:ml ls (au Let.aw ls/2) k=((gC ls k l.id l.over).isNone&&(match gC ls k l.id (!l.over) with|some j=>CW ls j==l.sign|none=>true)):=by simp only[ml,dM,ki,r1y,r2y,decide_true];rfl
      by_cases hm:l.id∈eL ls k
      .rw[if_pos hm] at hf;obtain⟨e0,hse⟩:=aI (show(eL ls k).idxOf l.id<(pS ls k).length by simp[pS];exact List.idxOf_lt_length_of_mem hm);have AL:=amI dM ki hm;have LW:qM ls k l.id=[.int .i64 (Bn (gC ls k l.id false)),.int .i64 (Bn (gC ls k l.id true))]:=rfl;rw[LW] at hf;cases ho:l.over with
       |true=>
        cases hv:gC ls k l.id true with
        |some j=>have dF:=HV aq (show ml ls (au Let.aw ls/2) k=false by rw[nI,ho,hv];rfl);rw[hv] at hf;simp only[Bn] at hf;simp only[go_sem,i83_l1,h0,h3,tN,xO,xP,bD,bM,hi,Let.ps,aJ,hp,sD,tg,fy,eD,wq,hf,ho,ge0,mapOf,mapVal,jM,Int.reduceNeg,kQ,o1,o2,o3];refine⟨aD,aD,?_⟩;unfold Hb;refine⟨by rw[dF],?_,fun h=>by rw[dF] at h;cases h⟩;repeat(first|exact cU|refine Kept.cZ ?_ (by first|exact Or.inl rfl|exact Or.inr rfl) _)
        |none=>
         obtain⟨j,m,hj,F6,hjk⟩:=afb hk hm true hv;have hj:gC ls k l.id false=some j:=hj;have sY:=lf F6;have I3:CW ls j=m.sign:=by simp[CW,F6]
         rw[hv,hj] at hf;simp only[Bn] at hf;cases hs:(m.sign==l.sign) with
         |false=>
          have eH:(m.sign !=l.sign)=true:=by simp[bne,hs]
          have dF:=HV aq (show ml ls (au Let.aw ls/2) k=false by rw[nI,ho,hv];simp only[Dg,hj,I3,hs];rfl);simp only[go_sem,i83_l1,h0,h3,tN,xO,xP,bD,bM,hi,Let.ps,aJ,hp,sD,tg,fy,eD,wq,hf,ho,Js,sY,eH,wr0,mapOf,mapVal,jM,Int.reduceNeg,Int.reduceSub,kQ,o1,o2,o3];refine⟨aD,aD,?_⟩;unfold Hb;refine⟨by rw[dF],?_,fun h=>by rw[dF] at h;cases h⟩;repeat(first|exact cU|refine Kept.cZ ?_ (by first|exact Or.inl rfl|exact Or.inr rfl) _)
         |true=>
          have eH:(m.sign !=l.sign)=false:=by simp[bne,hs]
          have kK:ml ls (au Let.aw ls/2) k=true:=by rw[nI,ho,hv];simp only[Dg,hj,I3,hs];rfl
          have qZ:=Wl dM ki (show gC ls k l.id l.over=none by rw[ho];exact hv);have wV:=Wk dM ki;rw[ho] at qZ wV;rw[show gC ls k l.id (!true)=some j from hj] at wV;have Uc:qM ls (k+1) l.id=[.int .i64 (j:Int),.int .i64 (k:Int)]:=by simp only[qM];rw[qZ,show gC ls (k+1) l.id false=some j from wV];rfl
          rw[Uc] at AL;simp only[go_sem,i83_l1,h0,h3,tN,xO,xP,bD,bM,hi,Let.ps,aJ,hp,w1,sD,tg,fy,eD,wq,hf,ho,Js,sY,eH,wr0,mapOf,mapVal,jM,BQ,Int.reduceNeg,Int.reduceSub,kQ,o1,o2,o3];refine⟨aD,aD,aD,?_⟩;refine⟨aq,?_,?_,?_⟩
          .rw[AL]
          .intro i hi;rcases nZ.1 hi with h|rfl
           .exact ao i h
           exact kK
          repeat(first|exact cU|refine Kept.cZ ?_ (by first|exact Or.inl rfl|exact Or.inr rfl) _)
       |false=>
        cases hv:gC ls k l.id false with
        |some j=>have dF:=HV aq (show ml ls (au Let.aw ls/2) k=false by rw[nI,ho,hv];rfl);rw[hv] at hf;simp only[Bn] at hf;simp only[go_sem,i83_l1,h0,h3,tN,xO,xP,bD,bM,hi,Let.ps,aJ,hp,sD,tg,fy,eD,wq,hf,ho,ge0,mapOf,mapVal,jM,Int.reduceNeg,kQ,o1,o2,o3];refine⟨aD,aD,?_⟩;unfold Hb;refine⟨by rw[dF],?_,fun h=>by rw[dF] at h;cases h⟩;repeat(first|exact cU|refine Kept.cZ ?_ (by first|exact Or.inl rfl|exact Or.inr rfl) _)
        |none=>
         obtain⟨j,m,hj,F6,hjk⟩:=afb hk hm false hv;have hj:gC ls k l.id true=some j:=hj;have sY:=lf F6;have I3:CW ls j=m.sign:=by simp[CW,F6]
         rw[hv,hj] at hf;simp only[Bn] at hf;cases hs:(m.sign==l.sign) with
         |false=>
          have eH:(m.sign !=l.sign)=true:=by simp[bne,hs]
          have dF:=HV aq (show ml ls (au Let.aw ls/2) k=false by rw[nI,ho,hv];simp only[Bool.not_false,hj,I3,hs];rfl);simp only[go_sem,i83_l1,h0,h3,tN,xO,xP,bD,bM,hi,Let.ps,aJ,hp,sD,tg,fy,eD,wq,hf,ho,Js,sY,eH,wr1,mapOf,mapVal,jM,Int.reduceNeg,Int.reduceSub,kQ,o1,o2,o3];refine⟨aD,aD,?_⟩;unfold Hb;refine⟨by rw[dF],?_,fun h=>by rw[dF] at h;cases h⟩;repeat(first|exact cU|refine Kept.cZ ?_ (by first|exact Or.inl rfl|exact Or.inr rfl) _)
         |true=>
          have eH:(m.sign !=l.sign)=false:=by simp[bne,hs]
          have kK:ml ls (au Let.aw ls/2) k=true:=by rw[nI,ho,hv];simp only[Bool.not_false,hj,I3,hs];rfl
          have qZ:=Wl dM ki (show gC ls k l.id l.over=none by rw[ho];exact hv);have wV:=Wk dM ki;rw[ho] at qZ wV;rw[show gC ls k l.id (!false)=some j from hj] at wV;have Uc:qM ls (k+1) l.id=[.int .i64 (k:Int),.int .i64 (j:Int)]:=by simp only[qM];rw[qZ,show gC ls (k+1) l.id true=some j from wV];rfl
          rw[Uc] at AL;simp only[go_sem,i83_l1,h0,h3,tN,xO,xP,bD,bM,hi,Let.ps,aJ,hp,w1,sD,tg,fy,eD,wq,hf,ho,Js,sY,eH,wr1,mapOf,mapVal,jM,BQ,Int.reduceNeg,Int.reduceSub,kQ,o1,o2,o3];refine⟨aD,aD,aD,?_⟩;refine⟨aq,?_,?_,?_⟩
          .rw[AL]
          .intro i hi;rcases nZ.1 hi with h|rfl
           .exact ao i h
           exact kK
          repeat(first|exact cU|refine Kept.cZ ?_ (by first|exact Or.inl rfl|exact Or.inr rfl) _)
      rw[if_neg hm] at hf;have hv:=arw hk hm;have Az:=amH dM ki hm;have kK:ml ls (au Let.aw ls/2) k=true:=by rw[nI,hv,hv];rfl
      have qZ:=Wl dM ki (hv _);have wV:=Wk dM ki;rw[hv] at wV;cases ho:l.over with
      |true=>
       rw[ho] at qZ wV;have LW:qM ls (k+1) l.id=[.int .i64 (-1),.int .i64 (k:Int)]:=by simp only[qM];rw[qZ,show gC ls (k+1) l.id false=none from wV];rfl
       rw[LW] at Az;simp only[go_sem,i83_l1,h0,h3,tN,xO,xP,bD,bM,hi,Let.ps,aJ,hp,w1,sD,tg,fy,eD,wq,hf,ho,Js,mapOf,mapVal,jM,BQ,Option.map_none,Int.reduceNeg,kQ,o1,o2,o3];refine⟨aD,aD,aD,?_⟩;refine⟨aq,?_,?_,?_⟩
       .rw[Az]
       .intro i hi;rcases nZ.1 hi with h|rfl
        .exact ao i h
        exact kK
       repeat(first|exact cU|refine Kept.cZ ?_ (by first|exact Or.inl rfl|exact Or.inr rfl) _)
      |false=>
       rw[ho] at qZ wV;have LW:qM ls (k+1) l.id=[.int .i64 (k:Int),.int .i64 (-1)]:=by simp only[qM];rw[qZ,show gC ls (k+1) l.id true=none from wV];rfl
       rw[LW] at Az;simp only[go_sem,i83_l1,h0,h3,tN,xO,xP,bD,bM,hi,Let.ps,aJ,hp,w1,sD,tg,fy,eD,wq,hf,ho,Js,mapOf,mapVal,jM,BQ,Option.map_none,Int.reduceNeg,kQ,o1,o2,o3];refine⟨aD,aD,aD,?_⟩;refine⟨aq,?_,?_,?_⟩
       .rw[Az]
       .intro i hi;rcases nZ.1 hi with h|rfl
        .exact ao i h
        exact kK
       repeat(first|exact cU|refine Kept.cZ ?_ (by first|exact Or.inl rfl|exact Or.inr rfl) _)
  have:k=ls.length:=aa;subst this;have hr:=Rv he0 ao;have kJ:(pS ls ls.length).length=(eL ls ls.length).length:=by simp[pS]
  have hb:((((eL ls ls.length).length:Nat):Int)==((au Let.aw ls/2:Nat):Int))=((eL ls ls.length).length==au Let.aw ls/2):=by
   cases h:((eL ls ls.length).length==au Let.aw ls/2) with
   |true=>simp at h ⊢;omega
   |false=>simp at h ⊢;omega
  simp only[go_sem,i83_l1,i83_r2,h0,h3,xO,xP,bD,bM,dZ,AU,Int.reduceNeg,kJ,fy,eD,wq,hb,kQ,o1];exact⟨by rw[hr],cU,fun _=>⟨_,bD,bM⟩⟩
theorem FD{p:Let->Bool}{ls:List Let}{i:Nat}{l:Let}(h:ls[i]?=some l)(hp:p l=true):au p ls=1↔ ∀j m,ls[j]?=some m->p m=true->j=i:=by
 obtain⟨hi,e⟩:=aV.1 h;have hs:ls=ls.take i++l::ls.drop (i+1):=by rw[<- e,yJ];simp
 have hc:au p ls=au p (ls.take i)+(au p (ls.drop (i+1))+1):=by
  conv=>lhs;rw[hs]
  simp[au,uU,hp]
 constructor
 .intro h1 j m hj hm;have z1:au p (ls.take i)=0:=aa;have z2:au p (ls.drop (i+1))=0:=aa;have z1:=He.1 z1;have z2:=He.1 z2;rcases Nat.lt_trichotomy j i with Av|Av|Av
  .have:m∈ls.take i:=aQ (i:=j) (by rw[jm,if_pos Av,hj]);exact absurd hm (z1 m this)
  .exact Av
  have:m∈ls.drop (i+1):=aQ (i:=j-(i+1)) (by rw[ur,show i+1+(j-(i+1))=j by omega,hj]);exact absurd hm (z2 m this)
 intro hu;have z1:au p (ls.take i)=0:=by
  refine He.2 fun m hm mK=>?_;obtain⟨j,hj⟩:=jy hm;have Av:j<i:=by have:=(aV.1 hj).1;rw[fJ] at this;omega
  rw[jm,if_pos Av] at hj;have:=hu j m hj mK;omega
 have z2:au p (ls.drop (i+1))=0:=by refine He.2 fun m hm mK=>?_;obtain⟨j,hj⟩:=jy hm;rw[ur] at hj;have:=hu _ m hj mK;omega
 omega
theorem ahK{p:Let->Bool}{ls:List Let}(h:∀(i j:Nat) (l m:Let),ls[i]?=some l->ls[j]?=some m->p l=true->p m=true->i=j):au p ls<=1:=by
 by_cases hz:au p ls=0
 .omega
 have:0<ls.countP p:=Nat.pos_of_ne_zero hz;obtain⟨l,hl,hp⟩:=Bp.1 this;obtain⟨i,hi⟩:=jy hl;have:=(FD hi hp).2 fun j m hj hm=>h j i m l hj hi hm hp;omega
structure sP (F:Nat) (ls:List Let) (l:Let):Prop where
 g0:0<=l.gate
 g1:l.gate<=(F:Int)
 r0:1<=l.aA
 r1:l.aA<=(cg ls l.gate.toNat:Int)
theorem GJ{ls:List Let}{l m:Let}(hl:sP F ls l)(hm:sP F ls m):dJ ls l=dJ ls m↔l.gate=m.gate/\l.aA=m.aA:=by
 obtain⟨l1,l2,l3,l4⟩:=hl;obtain⟨m1,m2,m3,m4⟩:=hm;unfold dJ;constructor
 .intro h;have sl:=sO ls l.gate.toNat;have sm:=sO ls m.gate.toNat;rcases Nat.lt_trichotomy l.gate.toNat m.gate.toNat with c|c|c
  .have:=zg (ls:=ls) (show l.gate.toNat+1<=m.gate.toNat by omega);omega
  .rw[c] at h;omega
  have:=zg (ls:=ls) (show m.gate.toNat+1<=l.gate.toNat by omega);omega
 rintro ⟨h1,h2⟩;rw[h1,h2]
theorem anC{ls:List Let}{l m:Let}(hl:sP F ls l)(hm:sP F ls m):GA l m=true↔dJ ls l<dJ ls m:=by
 obtain⟨l1,l2,l3,l4⟩:=hl;obtain⟨m1,m2,m3,m4⟩:=hm;unfold dJ GA;simp only[uq,bQ,decide_eq_true_eq,beq_iff_eq];have sl:=sO ls l.gate.toNat;have sm:=sO ls m.gate.toNat;rcases Nat.lt_trichotomy l.gate.toNat m.gate.toNat with c|c|c
 .have:=zg (ls:=ls) (show l.gate.toNat+1<=m.gate.toNat by omega);omega
 .rw[c];omega
 have:=zg (ls:=ls) (show m.gate.toNat+1<=l.gate.toNat by omega);omega
theorem Vp{ls:List Let}{l:Let}(hl:sP F ls l):dJ ls l<eU ls (F+1):=by obtain⟨l1,l2,l3,l4⟩:=hl;unfold dJ;have sl:=sO ls l.gate.toNat;have:=zg (ls:=ls) (show l.gate.toNat+1<=F+1 by omega);omega
theorem PY{ls:List Let}{i:Nat}{l:Let}(h:ls[i]?=some l)(hp:l.ay=true):tj ls i=true↔1<=l.aA/\l.aA<=(cg ls l.gate.toNat:Int)/\ ∀j m,j<i->ls[j]?=some m->m.ay=true->dJ ls m≠dJ ls l:=by
 simp only[tj,h,hp,Dg,Df,bQ,decide_eq_true_eq,gH,Dh,fk];constructor
 .rintro ⟨⟨h1,h2⟩,h3⟩
  refine⟨h1,h2,fun j m hj hm mK e=>?_⟩;have:=h3 j hj;rw[LY hm mK] at this;simp[e] at this
 rintro ⟨h1,h2,h3⟩
 refine⟨⟨h1,h2⟩,fun j hj=>?_⟩;unfold sX;split
 .rename_i m hm;cases mK:m.ay with
  |false=>simp
  |true=>simpa using h3 j m hj hm mK
 simp
theorem GL{ls:List Let}(hg:ql F ls):yB ls=true↔(∀l∈ls,l.ay=true->sP F ls l)/\ ∀(i j:Nat) (l m:Let),ls[i]?=some l->ls[j]?=some m->l.ay=true->m.ay=true->dJ ls l=dJ ls m->i=j:=by
 unfold yB;rw[iC];constructor
 .intro h;refine⟨fun l hl hp=>?_,fun i j l m hi hj bh mK e=>?_⟩
  .obtain⟨i,hi⟩:=jy hl;have:=(PY hi hp).1 (h i (fk.2 (aV.1 hi).1));exact⟨(hg l hl hp).1,(hg l hl hp).2,this.1,this.2.1⟩
  have ci:=(PY hi bh).1 (h i (fk.2 (aV.1 hi).1));have cj:=(PY hj mK).1 (h j (fk.2 (aV.1 hj).1));rcases Nat.lt_trichotomy i j with c|c|c
  .exact absurd e (cj.2.2 i l c hi bh)
  .exact c
  exact absurd e.symm (ci.2.2 j m c hj mK)
 rintro ⟨h1,h2⟩ i hi
 obtain⟨l,hl⟩:=aI (fk.1 hi);cases hp:l.ay with
 |false=>simp[tj,hl,hp]
 |true=>have hg:=h1 l (aQ hl) hp;refine(PY hl hp).2 ⟨hg.r0,hg.r1,fun j m hj hm mK e=>?_⟩;have:=h2 j i m l hm hl mK hp e;omega
theorem O5(g:Int)(h:0<=g)(l:Let):om g l=lY g.toNat l:=by unfold om lY;rw[Int.toNat_of_nonneg h]
theorem lU{l:Let}(hp:l.ay=true):de f l=false↔(((0<=l.gate/\l.gate<=f)/\l.id=0)/\l.sign=0)/\l.over=false:=by unfold Let.ay at hp;simp only[de,hp,if_true,QD,decide_eq_false_iff_not,bne_eq_false_iff_eq,Int.not_lt]
theorem Jx{ls:List Let}{l:Let}(hp:l.ay=true):vA f ls l=true↔de f l=false/\1<=l.aA/\l.aA<=(au (om l.gate) ls:Int)/\au (jk l) ls=1:=by
 rw[lU hp];unfold vA;simp only[gH,QD,decide_eq_false_iff_not,bne_eq_false_iff_eq];constructor
 .rintro ⟨⟨⟨⟨⟨⟨⟨a,b⟩,c⟩,d⟩,e⟩,g⟩,h⟩,i⟩
  exact⟨⟨⟨⟨⟨aa,aa⟩,a⟩,b⟩,c⟩,aa,aa,aa⟩
 rintro ⟨⟨⟨⟨⟨d,e⟩,a⟩,b⟩,c⟩,g,h,i⟩
 exact⟨⟨⟨⟨⟨⟨⟨a,b⟩,c⟩,aa⟩,aa⟩,aa⟩,aa⟩,aa⟩
theorem P0{l m:Let}(hp:l.ay=true):jk l m=true↔m.ay=true/\m.gate=l.gate/\m.aA=l.aA:=by unfold Let.ay at hp ⊢;simp only[beq_iff_eq] at hp;unfold jk;simp only[bQ,beq_iff_eq,hp,and_assoc]
theorem ani{ls:List Let}:(∀l∈ls,l.ay=true->vA F ls l=true)↔(∀l∈ls,l.ay=true->de F l=false)/\yB ls=true:=by
 constructor
 .intro h;have hb:∀l∈ls,l.ay=true->de F l=false:=fun l hl hp=>((Jx hp).1 (h l hl hp)).1;have hg:ql F ls:=fun l hl hp=>((lU hp).1 (hb l hl hp)).1.1.1;refine⟨hb,(GL hg).2 ⟨fun l hl hp=>?_,fun i j l m hi hj bh mK e=>?_⟩⟩
  .obtain⟨_,h2,h3,_⟩:=(Jx hp).1 (h l hl hp);have:=hg l hl hp;refine⟨this.1,this.2,h2,?_⟩;have e:au (om l.gate) ls=cg ls l.gate.toNat:=by unfold cg au;congr 1;funext m;exact O5 _ this.1 m
   omega
  have gl:sP F ls l:=by
   obtain⟨_,h2,h3,_⟩:=(Jx bh).1 (h l (aQ hi) bh);have:=hg l (aQ hi) bh;have e:au (om l.gate) ls=cg ls l.gate.toNat:=by unfold cg au;congr 1;funext m;exact O5 _ this.1 m
   exact⟨this.1,this.2,h2,aa⟩
  have gm:sP F ls m:=by
   obtain⟨_,h2,h3,_⟩:=(Jx mK).1 (h m (aQ hj) mK);have:=hg m (aQ hj) mK;have e:au (om m.gate) ls=cg ls m.gate.toNat:=by unfold cg au;congr 1;funext m;exact O5 _ this.1 m
   exact⟨this.1,this.2,h2,aa⟩
  have e2:=(GJ gl gm).1 e;have hs:=((Jx mK).1 (h m (aQ hj) mK)).2.2.2;exact(FD hj ((P0 mK).2 ⟨mK,rfl,rfl⟩)).1 hs i l hi ((P0 mK).2 ⟨bh,e2.1,e2.2⟩)
 rintro ⟨hb,hr⟩ l hl hp
 have hg:ql F ls:=fun l hl hp=>((lU hp).1 (hb l hl hp)).1.1.1;obtain⟨h1,h2⟩:=(GL hg).1 hr;have gl:=h1 l hl hp;have e:au (om l.gate) ls=cg ls l.gate.toNat:=by unfold cg au;congr 1;funext m;exact O5 _ gl.g0 m
 obtain⟨i,hi⟩:=jy hl;refine(Jx hp).2 ⟨hb l hl hp,gl.r0,by rw[e];exact gl.r1,(FD hi ((P0 hp).2 ⟨hp,rfl,rfl⟩)).2 fun j m hj hs=>?_⟩;obtain⟨mK,eg,er⟩:=(P0 hp).1 hs;exact h2 j i m l hj hi mK hp ((GJ (h1 m (aQ hj) mK) gl).2 ⟨eg,er⟩)
def rZ(id:Int)(o:Bool)(l:Let):Bool:=l.aw&&(l.id==id&&l.over==o)
theorem IM{ls:List Let}{j:Nat}{m:Let}(h:ls[j]?=some m)(id:Int)(o:Bool):qT ls id o j=rZ id o m:=by simp[qT,rZ,h]
theorem qy{id:Int}{o:Bool}{l:Let}:rZ id o l=true↔l.aw=true/\l.id=id/\l.over=o:=by unfold rZ;simp only[bQ,beq_iff_eq]
def GG(ls:List Let):Prop:=∀(i j:Nat) (l m:Let),ls[i]?=some l->ls[j]?=some m->l.aw=true->m.aw=true->l.id=m.id->i≠j->l.over≠m.over/\l.sign=m.sign
def UK(ls:List Let):Prop:=∀l∈ls,l.aw=true->1<=l.id/\l.id<=((au Let.aw ls/2:Nat):Int)
theorem afv{ls:List Let}{n2 k:Nat}{l:Let}(h:ls[k]?=some l)(hc:l.aw=true):ml ls n2 k=true↔(1<=l.id/\l.id<=(n2:Int))/\gC ls k l.id l.over=none/\ ∀j,gC ls k l.id (!l.over)=some j->CW ls j=l.sign:=by
 simp only[ml,h,hc,Dg,Df,bQ,decide_eq_true_eq,Option.isNone_iff_eq_none];constructor
 .rintro ⟨h1,h2,h3⟩
  refine⟨h1,h2,fun j hj=>?_⟩;rw[hj] at h3
  simpa using h3
 rintro ⟨h1,h2,h3⟩
 refine⟨h1,h2,?_⟩;split
 .rename_i j hj
  simpa using h3 j hj
 rfl
theorem Ha{ls:List Let}:(∀k,k<ls.length->ml ls (au Let.aw ls/2) k=true)↔UK ls/\GG ls:=by
 constructor
 .intro h;have hx:∀ {k:Nat} {l:Let},ls[k]?=some l->l.aw=true->_:=fun {k l} hk hc=>(afv (n2:=au Let.aw ls/2) hk hc).1 (h k (aV.1 hk).1);refine⟨fun l hl hc=>?_,?_⟩
  .obtain⟨i,hi⟩:=jy hl;exact(hx hi hc).1
  have key:∀(i j:Nat) (l m:Let),ls[i]?=some l->ls[j]?=some m->l.aw=true->m.aw=true->l.id=m.id->i<j->l.over≠m.over/\l.sign=m.sign:=by
   intro i j l m hi hj eo qQ he fQ;obtain⟨_,hn,hs⟩:=hx hj qQ;have ho:l.over≠m.over:=by intro e;have:=Nw hn fQ;rw[IM hi,qy.2 ⟨eo,he,e⟩] at this;cases this
   refine⟨ho,?_⟩;have lD:l.over= !m.over:=by revert ho;cases l.over<;>cases m.over<;>simp
   cases hv:gC ls j m.id (!m.over) with
   |none=>have:=Nw hv fQ;rw[IM hi,qy.2 ⟨eo,he,lD⟩] at this;cases this
   |some p=>
    have h3:=hs p hv;obtain⟨qW,lS⟩:=GV hv;obtain⟨x,jL,Gq,MC,hxo⟩:=Au lS;have:p=i:=by
     rcases Nat.lt_trichotomy p i with c|c|c
     .have tV:=(hx hi eo).2.1;have:=Nw tV c;rw[IM jL,qy.2 ⟨Gq,by rw[MC,he],by rw[hxo,lD]⟩] at this;cases this
     .exact c
     have h4:(List.range j).find? (qT ls m.id (!m.over))=some p:=hv;rw[List.find?_range_eq_some] at h4;have:=h4.2.2 i c;rw[IM hi,qy.2 ⟨eo,he,lD⟩] at this;cases this
    subst this;rw[hi] at jL;cases jL
    simpa [CW,hi] using h3
  intro i j l m hi hj eo qQ he fQ;rcases Nat.lt_or_gt_of_ne fQ with c|c
  .exact key i j l m hi hj eo qQ he c
  have:=key j i m l hj hi qQ eo he.symm c;exact⟨fun e=>this.1 e.symm,this.2.symm⟩
 rintro ⟨h1,h2⟩ k hk
 obtain⟨l,hl⟩:=aI hk;cases hc:l.aw with
 |false=>simp[ml,hl,hc]
 |true=>
  refine(afv hl hc).2 ⟨h1 l (aQ hl) hc,?_,fun j hj=>?_⟩
  .cases hv:gC ls k l.id l.over with
   |none=>rfl
   |some p=>obtain⟨qW,lS⟩:=GV hv;obtain⟨x,jL,Gq,MC,hxo⟩:=Au lS;exact absurd hxo (h2 p k x l jL hl Gq hc MC aa).1
  obtain⟨qW,lS⟩:=GV hj;obtain⟨x,jL,Gq,MC,hxo⟩:=Au lS;have:=(h2 j k x l jL hl Gq hc MC aa).2;simp[CW,jL,this]
theorem aqK(ls:List Let):∀ids:List Int,ids.Nodup->(ids.map fun id=>au (lT id) ls).sum=au (fun l=>l.aw&&ids.contains l.id) ls:=by
 intro ids
 induction ids with
 |nil=>intro _;simp[au]
 |cons a ids ih=>
  intro hn;rw[nY] at hn;rw[dG,List.sum_cons,ih hn.2];refine(Ro (p:=lT a) (q:=fun l=>l.aw&&ids.contains l.id) (r:=fun l=>l.aw&&(a::ids).contains l.id) ?_ ?_ ls).symm
  .intro l;simp only[lT,bQ,beq_iff_eq,List.contains_eq_mem,decide_eq_true_eq,cT];constructor
   .rintro ⟨h1,h2|h2⟩
    .exact .inl ⟨h1,h2⟩
    exact .inr ⟨h1,h2⟩
   rintro (⟨h1,h2⟩|⟨h1,h2⟩)
   .exact⟨h1,.inl h2⟩
   exact⟨h1,.inr h2⟩
  intro l;simp only[lT,bQ,beq_iff_eq,List.contains_eq_mem,decide_eq_true_eq];rintro ⟨_,h1⟩ ⟨_,h2⟩
  exact hn.1 (h1▸h2)
theorem O3{ls:List Let}{l:Let}(hl:l∈ls)(hc:l.aw=true):l.id∈eL ls ls.length:=by obtain⟨i,hi⟩:=jy hl;refine(Gt (aZ _)).2 ⟨i,l.over,(aV.1 hi).1,?_⟩;rw[IM hi];exact qy.2 ⟨hc,rfl,rfl⟩
theorem Wc(ls:List Let):((eL ls ls.length).map fun id=>au (lT id) ls).sum=au Let.aw ls:=by
 rw[aqK _ _ (O4 ls _)];apply List.countP_congr;intro l hl;cases hc:l.aw with
 |false=>simp
 |true=>simp[O3 hl hc]
theorem Pg(id:Int)(ls:List Let):au (lT id) ls=au (rZ id true) ls+au (rZ id false) ls:=by
 refine Ro ?_ ?_ ls
 .intro l;rw[qy,qy];simp only[lT,bQ,beq_iff_eq];cases l.over<;>simp
 intro l;rw[qy,qy];rintro ⟨_,_,h1⟩ ⟨_,_,h2⟩
 rw[h1] at h2;cases h2
theorem UN(id:Int)(o:Bool)(ls:List Let):au (lT id) ls=au (rZ id o) ls+au (rZ id (!o)) ls:=by
 rw[Pg];cases o with
 |true=>rfl
 |false=>simp only[Bool.not_false];omega
theorem As{ls:List Let}(h:GG ls)(id:Int)(o:Bool):au (rZ id o) ls<=1:=by refine ahK fun i j l m hi hj hl hm=>?_;obtain⟨l1,l2,l3⟩:=qy.1 hl;obtain⟨m1,m2,m3⟩:=qy.1 hm;refine Decidable.byContradiction fun aK=>?_;exact(h i j l m hi hj l1 m1 (by rw[l2,m2]) aK).1 (by rw[l3,m3])
theorem aeP{f:Int->Nat}:∀ids:List Int,(∀x∈ids,f x<=2)->(ids.map f).sum<=2*ids.length:=by
 intro ids
 induction ids with
 |nil=>intro _;simp
 |cons a ids ih=>intro h;have:=ih fun x hx=>h x (vN _ hx);have:=h a Bs;simp only[dG,List.sum_cons,cE];omega
theorem Xe{f:Int->Nat}:∀ids:List Int,(∀x∈ids,f x<=2)->(ids.map f).sum=2*ids.length->∀x∈ids,f x=2:=by
 intro ids
 induction ids with
 |nil=>intro _ _ x hx;cases hx
 |cons a ids ih=>
  intro h hs;have h1:=aeP ids fun x hx=>h x (vN _ hx);have h2:=h a Bs;simp only[dG,List.sum_cons,cE] at hs;intro x hx;rcases cT.1 hx with rfl|hx
  .omega
  exact ih (fun x hx=>h x (vN _ hx)) aa x hx
theorem aqL{f:Int->Nat}:∀ids:List Int,(∀x∈ids,f x=2)->(ids.map f).sum=2*ids.length:=by
 intro ids
 induction ids with
 |nil=>intro _;simp
 |cons a ids ih=>intro h;have:=ih fun x hx=>h x (vN _ hx);have:=h a Bs;simp only[dG,List.sum_cons,cE];omega
theorem Vg{l m:Let}(hc:l.aw=true):iJ l m=true↔m.aw=true/\m.id=l.id/\m.sign=l.sign/\m.over= !l.over:=by unfold Let.aw at hc ⊢;simp only[beq_iff_eq] at hc;unfold iJ;simp only[bQ,beq_iff_eq,hc,and_assoc,gH,beq_eq_false_iff_ne,ne_eq];cases l.over<;>cases m.over<;>simp
theorem MT{l:Let}(hc:l.aw=true):de f l=false↔(l.gate=0/\l.aA=0)/\(l.sign !=1&&l.sign != -1)=false:=by
 unfold Let.aw at hc;have h1:(l.kind==1)=false:=by simp only[beq_iff_eq] at hc;rw[hc];rfl
 simp only[de,hc,h1,if_true];simp
theorem acY{ls:List Let}{l:Let}(hc:l.aw=true):mg ls l=true↔de f l=false/\(1<=l.id/\l.id<=((au Let.aw ls/2:Nat):Int))/\au (iJ l) ls=1/\au (lT l.id) ls=2:=by
 rw[MT hc];unfold mg;simp only[gH,QD,decide_eq_false_iff_not,bne_eq_false_iff_eq];constructor
 .rintro ⟨⟨⟨⟨⟨⟨a,b⟩,c⟩,d⟩,e⟩,g⟩,h⟩
  exact⟨⟨⟨a,b⟩,c⟩,⟨aa,aa⟩,aa,aa⟩
 rintro ⟨⟨⟨a,b⟩,c⟩,⟨d,e⟩,g,h⟩
 exact⟨⟨⟨⟨⟨⟨a,b⟩,c⟩,aa⟩,aa⟩,aa⟩,aa⟩
theorem ah7{ls:List Let}:(∀l∈ls,l.aw=true->mg ls l=true)↔(∀l∈ls,l.aw=true->de f l=false)/\lz ls=true:=by
 have My:=Wc ls;constructor
 .intro h;have eK:=fun l hl hc=>(acY (f:=f) hc).1 (h l hl hc);have hp:GG ls:=by
   intro i j l m hi hj eo qQ he fQ;obtain⟨_,_,h3,h4⟩:=eK l (aQ hi) eo;have e1:=UN l.id l.over ls;have g1:0<au (rZ l.id l.over) ls:=Bp.2 ⟨l,aQ hi,qy.2 ⟨eo,rfl,rfl⟩⟩;obtain⟨x,hx,ko⟩:=Bp.1 (show 0<ls.countP (iJ l) by show 0<au (iJ l) ls;omega);obtain⟨x1,x2,x3,x4⟩:=(Vg eo).1 ko;have g2:0<au (rZ l.id (!l.over)) ls:=Bp.2 ⟨x,hx,qy.2 ⟨x1,x2,x4⟩⟩;have u1:au (rZ l.id l.over) ls=1:=aa;have u2:au (rZ l.id (!l.over)) ls=1:=aa;have ho:l.over≠m.over:=by intro e;have:=(FD hi (qy.2 ⟨eo,rfl,rfl⟩)).1 u1 j m hj (qy.2 ⟨qQ,he.symm,e.symm⟩);exact fQ this.symm
   refine⟨ho,?_⟩;have lD:m.over= !l.over:=by revert ho;cases l.over<;>cases m.over<;>simp
   obtain⟨p,jL⟩:=jy hx;have:=(FD hj (qy.2 ⟨qQ,he.symm,lD⟩)).1 u2 p x jL (qy.2 ⟨x1,x2,x4⟩);subst this;rw[jL] at hj;cases hj;exact x3.symm
  have alc:∀id∈eL ls ls.length,au (lT id) ls=2:=by intro id hid;obtain⟨j,o,h1,h2⟩:=(Gt (aZ _)).1 hid;obtain⟨m,hm,hc,hi,_⟩:=Au h2;rw[<- hi];exact(eK m (aQ hm) hc).2.2.2
  rw[aqL _ alc] at My;refine⟨fun l hl hc=>(eK l hl hc).1,?_⟩;have hx:=(Ha (ls:=ls)).2 ⟨fun l hl hc=>(eK l hl hc).2.1,hp⟩;rw[Rv aa hx];simp only[beq_iff_eq];omega
 rintro ⟨hb,hr⟩ l hl hc
 unfold lz at hr;simp only[bQ,beq_iff_eq,iC,fk] at hr;obtain⟨⟨he,hx⟩,hlen⟩:=hr;obtain⟨hid,hp⟩:=Ha.1 hx;have hle:∀id∈eL ls ls.length,au (lT id) ls<=2:=fun id _=>by rw[Pg id];have:=As hp id true;have:=As hp id false;omega
 have h2:=Xe _ hle (by rw[My,hlen];omega) l.id (O3 hl hc);have e1:=UN l.id l.over ls;have b1:=As hp l.id l.over;have b2:=As hp l.id (!l.over);refine(acY hc).2 ⟨hb l hl hc,hid l hl hc,?_,h2⟩;have u2:au (rZ l.id (!l.over)) ls=1:=aa;obtain⟨i,hi⟩:=jy hl;obtain⟨x,hx,ko⟩:=Bp.1 (show 0<ls.countP (rZ l.id (!l.over)) by show 0<au (rZ l.id (!l.over)) ls;omega);obtain⟨p,jL⟩:=jy hx;obtain⟨x1,x2,x3⟩:=qy.1 ko;have iw:p≠i:=by
  rintro rfl
  rw[hi] at jL;cases jL;revert x3;cases l.over<;>simp
 have I2:=(hp p i x l jL hi x1 hc x2 iw).2;refine(FD jL ((Vg hc).2 ⟨x1,x2,I2,x3⟩)).2 fun j m hj hm=>?_;obtain⟨m1,m2,m3,m4⟩:=(Vg hc).1 hm;exact(FD jL ko).1 u2 j m hj (qy.2 ⟨m1,m2,m4⟩)
theorem yW{l:Let}(h:de f l=false):l.ay=true\/l.aw=true:=by
 unfold Let.ay Let.aw;cases h1:(l.kind==1) with
 |true=>exact .inl rfl
 |false=>
  cases h2:(l.kind==2) with
  |true=>exact .inr rfl
  |false=>simp only[de,h1,h2] at h;cases h
theorem mA{l:Let}(hp:l.ay=true):l.aw=false:=by unfold Let.ay at hp;unfold Let.aw;simp only[beq_iff_eq] at hp;rw[hp];rfl
theorem ac0{ls:List Let}{l:Let}(hp:l.ay=true):eS f ls l=vA f ls l:=by unfold Let.ay at hp;simp only[eS,hp,if_true]
theorem acZ{ls:List Let}{l:Let}(hp:l.aw=true):eS f ls l=mg ls l:=by
 unfold Let.aw at hp;have h1:(l.kind==1)=false:=by simp only[beq_iff_eq] at hp;rw[hp];rfl
 simp only[eS,hp,h1,if_true];simp
theorem MK{ls:List Let}:vu F ls=true↔ls.any (de F)=false/\yB ls=true/\lz ls=true:=by
 unfold vu;rw[iC,Dh];have e1:=ani (F:=F) (ls:=ls);have e2:=ah7 (f:=(F:Int)) (ls:=ls);constructor
 .intro h;have hk:=fun {l:Let} (hl:l∈ls)=>ab3 (f:=F) (ls:=ls) (iC.2 h) (jy hl).choose_spec;obtain⟨p1,p2⟩:=e1.1 fun l hl hp=>by rw[<- ac0 hp];exact h l hl
  obtain⟨c1,c2⟩:=e2.1 fun l hl hc=>by rw[<- acZ (f:=F) hc];exact h l hl
  refine⟨fun l hl=>?_,p2,c2⟩;rcases hk hl with hp|hc
  .rw[p1 l hl hp];simp
  rw[c1 l hl hc];simp
 rintro ⟨hb,hr,hc⟩ l hl
 have hb:∀l∈ls,de F l=false:=fun l hl=>by simpa using hb l hl
 rcases yW (hb l hl) with hp|ki
 .rw[ac0 hp];exact e1.2 ⟨fun l hl _=>hb l hl,hr⟩ l hl hp
 rw[acZ ki];exact e2.2 ⟨fun l hl _=>hb l hl,hc⟩ l hl ki
theorem aqe{o:List Nat}(hs:o.Pairwise (· < ·))(aq:∀x∈o,x<o.length):∀(k:Nat) (h:k<o.length),o[k]=k:=by
 rw[NH] at hs;have lo:∀(k:Nat) (h:k<o.length),k<=o[k]:=by
  intro k
  induction k with
  |zero=>intro _;omega
  |succ k ih=>intro h;have:=ih aa;have:=hs k (k+1) aa h aa;omega
 have hi:∀(d k:Nat) (h:k<o.length),k+d+1=o.length->o[k]<=k:=by
  intro d
  induction d with
  |zero=>intro k h e;have:=aq _ (List.getElem_mem h);omega
  |succ d ih=>intro k h e;have:=ih (k+1) aa aa;have:=hs k (k+1) h aa aa;omega
 intro k h;have:=lo k h;have:=hi (o.length-k-1) k h aa;omega
theorem alA{key:Nat->Nat}{p:Nat->Bool}{i:Nat}:∀ {o:List Nat},o.Pairwise (fun a b=>key a<key b)->(∀x∈o,p x=decide (key x<key i))->(∀x∈o,key x≠key i)->
  (o.take (o.takeWhile p).length++i::o.drop (o.takeWhile p).length).Pairwise (fun a b=>key a<key b):=by
 intro o
 induction o with
 |nil=>intro _ _ _;simp
 |cons a o ih=>
  intro hs hp hn;rw[jP] at hs;have pa:=hp a Bs;have na:=hn a Bs;by_cases aq:key a<key i
  .have pa':p a=true:=by rw[pa];simpa using aq
   rw[List.takeWhile_cons,if_pos pa'];simp only[cE,List.take_succ_cons,List.drop_succ_cons,mq];rw[jP];refine⟨fun b hb=>?_,ih hs.2 (fun x hx=>hp x (vN _ hx)) (fun x hx=>hn x (vN _ hx))⟩;rcases fq.1 hb with hb|hb
   .exact hs.1 b (vP hb)
   rcases cT.1 hb with rfl|hb
   .exact aq
   exact hs.1 b (vO hb)
  have pa':¬p a=true:=by rw[pa];simpa using aq
  rw[List.takeWhile_cons,if_neg pa'];simp only[dQ,List.take_zero,List.drop_zero,gZ];rw[jP,jP];refine⟨fun b hb=>?_,hs⟩;rcases cT.1 hb with rfl|hb
  .omega
  have:=hs.1 b hb;omega
theorem GI{ls:List Let}{i:Nat}{l:Let}(h:ls[i]?=some l)(hp:l.ay=true):A7 ls i=dJ ls l:=by simp[A7,h,hp]
structure BG (F:Nat) (ls:List Let):Prop where
 eQ:∀l∈ls,l.ay=true->sP F ls l
 inj:∀(i j:Nat) (l m:Let),ls[i]?=some l->ls[j]?=some m->l.ay=true->m.ay=true->dJ ls l=dJ ls m->i=j
theorem Xt{ls:List Let}(h:BG F ls):∀k,k<=ls.length->(n9 ls k).Pairwise (fun a b=>A7 ls a<A7 ls b):=by
 intro k
 induction k with
 |zero=>intro _;simp[n9]
 |succ k ih=>
  intro hk;have ih:=ih aa;rw[HC];obtain⟨l,hl⟩:=aI (show k<ls.length by omega);unfold Af;rw[hl];simp only;cases hp:l.ay with
  |false=>simpa using ih
  |true=>
   simp only[if_true];unfold zN;have hm:=fun {x:Nat} (hx:x∈n9 ls k)=>(Xs (ls:=ls) (k:=k) aa).1 hx;refine alA ih (fun x hx=>?_) (fun x hx e=>?_)
   .obtain⟨h1,m,hm,zD⟩:=hm hx;rw[GI hm zD,GI hl hp];unfold AT;rw[hm,hl];simp only;have:=anC (h.eQ m (aQ hm) zD) (h.eQ l (aQ hl) hp);cases hb:GA m l with
    |true=>simpa using this.1 hb
    |false=>symm;rw[decide_eq_false_iff_not];intro hc;rw[this.2 hc] at hb;cases hb
   obtain⟨h1,m,hm,zD⟩:=hm hx;rw[GI hm zD,GI hl hp] at e;have:=h.inj x k m l hm hl zD hp e;omega
theorem agL{ls:List Let}:∀k,k<=ls.length->(n9 ls k).length=au Let.ay (ls.take k):=by
 intro k
 induction k with
 |zero=>intro _;simp[n9,au]
 |succ k ih=>
  intro hk;have ih:=ih aa;rw[HC];obtain⟨l,hl⟩:=aI (show k<ls.length by omega);unfold Af;rw[hl];simp only;cases hp:l.ay with
  |false=>rw[jR hl hp];simpa using ih
  |true=>simp only[if_true];rw[alu,sL hl hp,ih]
theorem Fz{ls:List Let}:(aC ls).length=au Let.ay ls:=by have:=agL (ls:=ls) ls.length (aZ _);rwa[jo] at this
theorem Dt{ls:List Let}(h:ql F ls):eU ls (F+1)=(aC ls).length:=by
 rw[Fz,Z7];apply List.countP_congr;intro l hl;cases hp:l.ay with
 |false=>simp
 |true=>have:=h l hl hp;simp only[Bool.true_and,bQ,decide_eq_true_eq,iff_true];omega
theorem BG.ql{ls:List Let}(h:BG F ls):ql F ls:=fun l hl hp=>⟨(h.eQ l hl hp).g0,(h.eQ l hl hp).g1⟩
theorem yV{ls:List Let}(h:BG F ls){k i:Nat}(hk:(aC ls)[k]?=some i):∃l,ls[i]?=some l/\l.ay=true/\dJ ls l=k:=by
 have hs:((aC ls).map (A7 ls)).Pairwise (· < ·):=by rw[Hi];exact Xt h ls.length (aZ _)
 have hT:=Dt h.ql;have aq:∀x∈(aC ls).map (A7 ls),x<((aC ls).map (A7 ls)).length:=by intro x hx;obtain⟨j,hj,rfl⟩:=dr.1 hx;obtain⟨l,hl,hp⟩:=tB.1 hj;rw[GI hl hp,cF,<- hT];exact Vp (h.eQ l (aQ hl) hp)
 obtain⟨cM,r4⟩:=aV.1 hk;have:=aqe hs aq k (by rw[cF];exact cM);rw[Dj,r4] at this;obtain⟨l,hl,hp⟩:=tB.1 (aQ hk);exact⟨l,hl,hp,by rw[<- GI hl hp];exact this⟩
theorem QZ{ls:List Let}(h:BG F ls){i:Nat}{l:Let}(hl:ls[i]?=some l)(hp:l.ay=true):(aC ls)[dJ ls l]?=some i:=by have aq:=Vp (h.eQ l (aQ hl) hp);rw[Dt h.ql] at aq;obtain⟨j,hj⟩:=aI aq;obtain⟨m,hm,zD,he⟩:=yV h hj;rw[hj,h.inj j i m l hm hl zD hp he]
theorem HD{ls:List Let}(h:BG F ls){i:Nat}{l:Let}(hl:ls[i]?=some l)(hp:l.ay=true):(aC ls).idxOf i=dJ ls l:=by have h1:=QZ h hl hp;have h2:=abv (aQ h1);obtain⟨m,hm,zD,he⟩:=yV h h2;rw[hl] at hm;cases hm;exact he.symm
theorem agS{ls:List Let}(h:BG F ls):sK ls (eU ls (F+1)) ls.length=aC ls:=by
 apply xw
 .rw[Xq,Dt h.ql]
 intro k h1 h2;simp only[sK,Dj,Km];obtain⟨l,hl,hp,he⟩:=yV h (oQ h2);generalize (aC ls)[k]=i at hl;unfold Kz;have l6:=(aV.1 hl).1;have hf:(List.range ls.length).find? (sX ls k)=some i:=by
  refine DI l6 (fun j hj=>?_) ?_
  .cases hh:sX ls k j with
   |false=>rfl
   |true=>
    unfold sX at hh;split at hh
    .rename_i m hm;simp only[bQ,beq_iff_eq] at hh;have:=h.inj j i m l hm hl hh.1 hp (by rw[hh.2,he]);omega
    cases hh
  rw[LY hl hp];simp[he]
 rw[hf];rfl
theorem PA{ls:List Let}(hr:lz ls=true){i:Nat}{l:Let}(hl:ls[i]?=some l)(hc:l.aw=true):gC ls ls.length l.id (!l.over)=some (fH ls i)/\fH ls i<ls.length:=by
 have My:=Wc ls;unfold lz at hr;simp only[bQ,beq_iff_eq,iC,fk] at hr;obtain⟨⟨he,hx⟩,hlen⟩:=hr;obtain⟨hid,hp⟩:=Ha.1 hx;have hle:∀id∈eL ls ls.length,au (lT id) ls<=2:=fun id _=>by rw[Pg id];have:=As hp id true;have:=As hp id false;omega
 have h2:=Xe _ hle (by rw[My,hlen];omega) l.id (O3 (aQ hl) hc);have e1:=UN l.id l.over ls;have b1:=As hp l.id l.over;have b2:=As hp l.id (!l.over);obtain⟨x,hx,ko⟩:=Bp.1 (show 0<ls.countP (rZ l.id (!l.over)) by show 0<au (rZ l.id (!l.over)) ls;omega);obtain⟨p,jL⟩:=jy hx;obtain⟨x1,x2,x3⟩:=qy.1 ko;have hpn:=(aV.1 jL).1;have iw:p≠i:=by
  rintro rfl
  rw[hl] at jL;cases jL;revert x3;cases l.over<;>simp
 have uniq:∀(j:Nat) (m:Let),ls[j]?=some m->m.aw=true->m.id=l.id->j≠i->j=p:=by intro j m hj mc mi Av;refine Decidable.byContradiction fun aK=>?_;have o1:=(hp j i m l hj hl mc hc mi Av).1;have o2:=(hp j p m x hj jL mc x1 (by rw[mi,x2]) aK).1;rw[x3] at o2;revert o1 o2;cases m.over<;>cases l.over<;>simp
 have zu:(List.range ls.length).find? (zO ls i)=some p:=by
  refine DI hpn (fun j hj=>?_) ?_
  .cases hh:zO ls i j with
   |false=>rfl
   |true=>
    unfold zO at hh;simp only[bQ,bne_iff_ne,ne_eq] at hh;obtain⟨h1,h2⟩:=hh;split at h2
    .rename_i m hm;simp only[bQ,beq_iff_eq,hl,kX,kA] at h2;have:=uniq j m hm h2.1 h2.2 h1;omega
    cases h2
  unfold zO;rw[jL];simp[iw,x1,hl,x2]
 have ho:fH ls i=p:=by unfold fH;rw[zu];rfl
 rw[ho];refine⟨?_,hpn⟩;unfold gC;refine DI hpn (fun j hj=>?_) ?_
 .cases hh:qT ls l.id (!l.over) j with
  |false=>rfl
  |true=>
   obtain⟨m,hm,mc,mi,mo⟩:=Au hh;have Av:j≠i:=by
    rintro rfl
    rw[hl] at hm;cases hm;revert mo;cases l.over<;>simp
   have:=uniq j m hm mc mi Av;omega
 rw[IM jL];exact ko
end
end Go.Abs
