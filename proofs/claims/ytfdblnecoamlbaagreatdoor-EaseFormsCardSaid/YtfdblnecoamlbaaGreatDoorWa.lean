/- A part. -/
import Derived.Test.YtfdblnecoamlbaaGreatDoorSa
set_option linter.all false
set_option maxRecDepth 100000
set_option maxHeartbeats 16000000
namespace Go.Abs
section
variable{f:Int}{F:Nat}
structure Let where
 kind:Int
 gate:Int
 aC:Int
 id:Int
 sign:Int
 over:Bool
 deriving DecidableEq
abbrev ai:=List Let
abbrev x_:=List ai
def Let.ps(l:Let):b_:=[.int .i64 l.kind,.int .i64 l.gate,.int .i64 l.aC,.int .i64 l.id,.int .i64 l.sign,.bool l.over]
def Let.aE(l:Let):Bool:=l.kind==1
def Let.aA(l:Let):Bool:=l.kind==2
abbrev cT(ls:ai):PV:=.sl (ls.map Let.ps)
abbrev dY(f:Int)(ls:ai):V:=.agg [.p (.int .i64 f),.p (cT ls)]
abbrev uk(f:Int)(ls:ai):f_:=[.p (.int .i64 f),.p (cT ls)]
abbrev vi(k:Int):V:=.one (.p (.int .i64 k))
abbrev vb(b:Bool):V:=.one (.p (.bool b))
abbrev ri(k:Int):RV:=.one (.p (.int .i64 k))
abbrev rb(k:Bool):RV:=.one (.p (.bool k))
abbrev aq(p:Let->Bool)(ls:ai):Nat:=ls.countP p
def aM{α:Type}{ls:List α}{k:Nat}(h:k<ls.length):∃l,ls[k]?=some l:=⟨ls[k],by simp[h]⟩
def sK{p:Let->Bool}{ls:ai}{k:Nat}{l:Let}(h:ls[k]?=some l)(hp:p l=true):aq p (ls.take (k+1))=aq p (ls.take k)+1:=by unfold aq;obtain⟨hk,rfl⟩:=aT.1 h;rw[List.take_succ_eq_append_getElem hk,xf,List.countP_singleton,aD hp]
def kh{p:Let->Bool}{ls:ai}{k:Nat}{l:Let}(h:ls[k]?=some l)(hp:p l=false):aq p (ls.take (k+1))=aq p (ls.take k):=by unfold aq;obtain⟨hk,rfl⟩:=aT.1 h;rw[List.take_succ_eq_append_getElem hk,xf,List.countP_singleton,hp];rfl
def zS(p:Let->Bool)(ls:ai)(k:Nat):aq p (ls.take k)<=k:=mY OZ (by rw[iK];exact Nat.min_le_left _ _)
def sL(p:Let->Bool)(ls:ai):aq p ls<=ls.length:=OZ
def iO{ls:ai}{k:Nat}{l:Let}(h:ls[k]?=some l):(ls.map Let.ps)[k]?=some l.ps:=by simp[h]
def wrap_add{a b:Nat}(h:a+b<=9223372036854775807):IntKind.i64.wrap ((a:Int)+(b:Int))=((a+b:Nat):Int):=wrap_small (n:=a+b) h
def u4{a:Nat}(h:2*a<=9223372036854775807):IntKind.i64.wrap (2*(a:Int))=((2*a:Nat):Int):=wrap_small (n:=2*a) h
def Zi{a b:Nat}(h:b<=a)(h2:a<=9223372036854775807):IntKind.i64.wrap ((a:Int)-(b:Int))=((a-b:Nat):Int):=by have:((a:Int)-(b:Int))=((a-b:Nat):Int):=aa;rw[this];exact wrap_small aa
def Iu{a:Nat}(h:1<=a)(h2:a<=9223372036854775807):IntKind.i64.wrap ((a:Int)-1)=((a-1:Nat):Int):=Zi (b:=1) h h2
def YK(x y:Option (b_×a_))(f:Nat):Option (PV×a_):=match x,y with
 |some (x,r),some (y,s)=>some (.fn f x y,r++s)
 |_,_=>none
def aus{x y:b_}{r s:a_}{f:Nat}:YK (some (x,r)) (some (y,s)) f=some (.fn f x y,r++s):=rfl
def auy{aj:aB}{f:Nat}{a b:f_}:snap aj fE (.hfn f a b)=YK (collect (snap aj 5) a) (collect (snap aj 5) b) f:=by unfold fE;rw[snap];unfold YK;rfl
def auz{aj:aB}{n id g off:Nat}:snap aj (n+1) (.aZ id g off)=Sp (aj id) (collect (snap aj n)) id g off:=by rw[snap];rfl
def auA{aj:aB}{n id g z off len:Nat}:snap aj (n+1) (.hsl id g z off len)=Sq (aj id) (collect (collect (snap aj n))) id g off len:=by rw[snap];rfl
def aJ{b:Bool}(h:b=true:=by kernel_rfl):b=true:=h
def bk{f:Nat}{fn:bd}{args:e_}{r:RV}(hf:S.fns f=some fn)(h:W S .all fn.body (nj .all fn.results fun v aj=>jd aj v=some r) (th args) AT)(hp:S.prim f args=none:=by rfl)(hl:args.length<=fn.ntmps:=by exact iA rfl):aK S f args r:=aiX hp hf hl h
def eO:¬((2:Int)=0):=ae
def w9(a b:Nat):(a:Int).tmod b=((a%b:Nat):Int):=by rw[Int.tmod_eq_emod_of_nonneg aa];rfl
def jX(a:Nat):(a:Int).tmod 2=((a%2:Nat):Int):=w9 a 2
def fR(a:Nat):(a:Int).tdiv 2=((a/2:Nat):Int):=by rw[Int.tdiv_eq_ediv_of_nonneg aa];rfl
def eI{n:Nat}:¬((n:Int)<(n:Int)):=aa
def ps_len(l:Let):l.ps.length=6:=rfl
def ani{aj:aB}{all:a_}:vp aj all []=some []:=rfl
attribute [go_sem] auy aus auz auA ani
def qe(g:Int)(l:Let):Bool:=l.aE&&l.gate==g
def mz(g:Int)(l:Let):Bool:=l.aA&&l.id==g
def Ye(f:Int)(ls:ai)(hl:ls.length<=1000000):aK S 56 [dY f ls] (ri (aq Let.aE ls)):=by
 refine bk c56 ?_;simp only[go_sem,i56];refine dy (fun k ak _=>ak 7=.one (.p (cT ls))/\ak 8=vi ls.length/\ak 9=vi k/\ak 3=vi (aq Let.aE (ls.take k))) 0 ls.length (bG _) ?_ ?_
 .simp only[go_sem];exact⟨rfl,rfl⟩
 rintro k ak aj hk ⟨h7,h8,h9,h3⟩
 by_cases aw:k<ls.length
 .obtain⟨l,df⟩:=aM aw;have hi:=iO df;have aL:((k:Int)<(ls.length:Int)):=aa;have hb:=zS (Let.aE) ls k;have w1:=cS (n:=k) aa;have w2:=cS (n:=aq (Let.aE) (ls.take k)) aa;cases hp:(l.kind==1) with
  |true=>have hc:=sK (p:=Let.aE) df hp;simp only[go_sem,i56_l1,h3,h7,h8,h9,hi,Let.ps,aL,w1,w2,hp,hc];first|exact aw|exact⟨aw,rfl⟩
  |false=>have hc:=kh (p:=Let.aE) df hp;simp only[go_sem,i56_l1,h3,h7,h8,h9,hi,Let.ps,aL,w1,hp,hc];first|exact aw|exact⟨aw,rfl⟩
 have:k=ls.length:=aa;subst this;rw[lf] at h3;simp only[go_sem,i56_l1,i56_r2,h3,h8,h9,eI]
def T1(f:Int)(ls:ai)(hl:ls.length<=1000000):aK S 48 [dY f ls] (ri (aq Let.aA ls)):=by
 refine bk c48 ?_;simp only[go_sem,i48];refine dy (fun k ak _=>ak 7=.one (.p (cT ls))/\ak 8=vi ls.length/\ak 9=vi k/\ak 3=vi (aq Let.aA (ls.take k))) 0 ls.length (bG _) ?_ ?_
 .simp only[go_sem];exact⟨rfl,rfl⟩
 rintro k ak aj hk ⟨h7,h8,h9,h3⟩
 by_cases aw:k<ls.length
 .obtain⟨l,df⟩:=aM aw;have hi:=iO df;have aL:((k:Int)<(ls.length:Int)):=aa;have hb:=zS (Let.aA) ls k;have w1:=cS (n:=k) aa;have w2:=cS (n:=aq (Let.aA) (ls.take k)) aa;cases hp:(l.kind==2) with
  |true=>have hc:=sK (p:=Let.aA) df hp;simp only[go_sem,i48_l1,h3,h7,h8,h9,hi,Let.ps,aL,w1,w2,hp,hc];first|exact aw|exact⟨aw,rfl⟩
  |false=>have hc:=kh (p:=Let.aA) df hp;simp only[go_sem,i48_l1,h3,h7,h8,h9,hi,Let.ps,aL,w1,hp,hc];first|exact aw|exact⟨aw,rfl⟩
 have:k=ls.length:=aa;subst this;rw[lf] at h3;simp only[go_sem,i48_l1,i48_r2,h3,h8,h9,eI]
def aa4(f:Int)(ls:ai)(hl:ls.length<=1000000):aK S 57 [dY f ls] (ri ((aq Let.aA ls/2:Nat))):=by
 have hb:=sL Let.aA ls;have e1:IntKind.i64.wrap ((aq Let.aA ls:Int).tdiv 2)=((aq Let.aA ls/2:Nat):Int):=by
  have:(aq Let.aA ls:Int).tdiv 2=((aq Let.aA ls/2:Nat):Int):=by rw[Int.tdiv_eq_ediv_of_nonneg aa];omega
  rw[this];exact wrap_small aa
 refine bk c57 ?_;simp only[go_sem,i57,s48,eT (T1 f ls hl),e1,(by decide:¬(2:Int)=0)]
def arD(f:Int)(ls:ai)(hl:ls.length<=1000000):aK S 35 [dY f ls] (ri (aq Let.aE ls)):=by
 refine bk c35 ?_;simp only[go_sem,i35];refine dy (fun k ak aj=>ak 1=.one (.aZ 2240000000 1 0)/\aj 2240000000=(1,some (.var (uk f ls)))/\ak 4=vi k/\ak 3=vi (aq Let.aE (ls.take k))) 0 ls.length (bG _) ?_ ?_
 .simp only[go_sem];first|exact⟨rfl,rfl⟩|exact⟨rfl,rfl,rfl⟩
 rintro k ak aj hk ⟨dw,hB,lG,jk⟩
 by_cases aw:k<ls.length
 .obtain⟨l,df⟩:=aM aw;have hi:=iO df;have aL:((k:Int)<(ls.length:Int)):=aa;have hb:=zS (Let.aE) ls k;have w1:=cS (n:=k) aa;have w2:=cS (n:=aq (Let.aE) (ls.take k)) aa;cases hp:(l.kind==1) with
  |true=>have hc:=sK (p:=Let.aE) df hp;simp only[go_sem,i35_l1,dw,hB,lG,jk,hi,Let.ps,aL,w1,w2,hp,hc];first|exact aw|exact⟨aw,rfl⟩
  |false=>have hc:=kh (p:=Let.aE) df hp;simp only[go_sem,i35_l1,dw,hB,lG,jk,hi,Let.ps,aL,w1,hp,hc];first|exact aw|exact⟨aw,rfl⟩
 have:k=ls.length:=aa;subst this;rw[lf] at jk;simp only[go_sem,i35_l1,i35_r2,dw,hB,lG,jk,eI]
def Y0(f:Int)(ls:ai)(hl:ls.length<=1000000):aK S 34 [dY f ls] (ri (aq Let.aA ls)):=by
 refine bk c34 ?_;simp only[go_sem,i34];refine dy (fun k ak aj=>ak 1=.one (.aZ 2176000000 1 0)/\aj 2176000000=(1,some (.var (uk f ls)))/\ak 4=vi k/\ak 3=vi (aq Let.aA (ls.take k))) 0 ls.length (bG _) ?_ ?_
 .simp only[go_sem];first|exact⟨rfl,rfl⟩|exact⟨rfl,rfl,rfl⟩
 rintro k ak aj hk ⟨dw,hB,lG,jk⟩
 by_cases aw:k<ls.length
 .obtain⟨l,df⟩:=aM aw;have hi:=iO df;have aL:((k:Int)<(ls.length:Int)):=aa;have hb:=zS (Let.aA) ls k;have w1:=cS (n:=k) aa;have w2:=cS (n:=aq (Let.aA) (ls.take k)) aa;cases hp:(l.kind==2) with
  |true=>have hc:=sK (p:=Let.aA) df hp;simp only[go_sem,i34_l1,dw,hB,lG,jk,hi,Let.ps,aL,w1,w2,hp,hc];first|exact aw|exact⟨aw,rfl⟩
  |false=>have hc:=kh (p:=Let.aA) df hp;simp only[go_sem,i34_l1,dw,hB,lG,jk,hi,Let.ps,aL,w1,hp,hc];first|exact aw|exact⟨aw,rfl⟩
 have:k=ls.length:=aa;subst this;rw[lf] at jk;simp only[go_sem,i34_l1,i34_r2,dw,hB,lG,jk,eI]
def alz(f:Int)(ls:ai)(hl:ls.length<=1000000):aK S 38 [dY f ls] (ri ((aq Let.aA ls/2:Nat))):=by
 have hb:=sL Let.aA ls;have e1:IntKind.i64.wrap ((aq Let.aA ls:Int).tdiv 2)=((aq Let.aA ls/2:Nat):Int):=by
  have:(aq Let.aA ls:Int).tdiv 2=((aq Let.aA ls/2:Nat):Int):=by rw[Int.tdiv_eq_ediv_of_nonneg aa];omega
  rw[this];exact wrap_small aa
 refine bk c38 ?_;simp only[go_sem,i38,s34,eT (Y0 f ls hl),e1,(by decide:¬(2:Int)=0)]
def in_r(f:Int)(ls:ai)(hl:ls.length<=1000000)(g:Int):aK S 60 [dY f ls,vi g] (ri (aq (qe g) ls)):=by
 refine bk c60 ?_;simp only[go_sem,i60];refine dy (fun k ak aj=>ak 2=.one (.aZ 3840000000 1 0)/\aj 3840000000=(1,some (.var (uk f ls)))/\ak 6=vi k/\ak 5=vi (aq (qe g) (ls.take k))/\ak 1=vi g) 0 ls.length (bG _) ?_ ?_
 .simp only[go_sem];first|exact⟨rfl,rfl⟩|exact⟨rfl,rfl,rfl⟩
 rintro k ak aj hk ⟨dw,hB,lG,jk,Dl⟩
 by_cases aw:k<ls.length
 .obtain⟨l,df⟩:=aM aw;have hi:=iO df;have aL:((k:Int)<(ls.length:Int)):=aa;have hb:=zS ((qe g)) ls k;have w1:=cS (n:=k) aa;have w2:=cS (n:=aq ((qe g)) (ls.take k)) aa;cases hp:(l.kind==1) with
  |true=>
   cases hq:(l.gate==g) with
   |true=>have hc:=sK (p:=(qe g)) df (by simp only[qe,Let.aE,hp,hq];rfl);simp only[go_sem,i60_l1,dw,hB,lG,jk,hi,Let.ps,aL,w1,w2,Dl,hp,hq,hc];first|exact aw|exact⟨aw,rfl⟩
   |false=>have hc:=kh (p:=(qe g)) df (by simp only[qe,Let.aE,hp,hq];rfl);simp only[go_sem,i60_l1,dw,hB,lG,jk,hi,Let.ps,aL,w1,Dl,hp,hq,hc];first|exact aw|exact⟨aw,rfl⟩
  |false=>have hc:=kh (p:=(qe g)) df (by simp only[qe,Let.aE,hp];rfl);simp only[go_sem,i60_l1,dw,hB,lG,jk,hi,Let.ps,aL,w1,Dl,hp,hc];first|exact aw|exact⟨aw,rfl⟩
 have:k=ls.length:=aa;subst this;rw[lf] at jk;simp only[go_sem,i60_l1,i60_r2,dw,hB,lG,jk,eI]
def avk(f:Int)(ls:ai)(hl:ls.length<=1000000)(g:Int):aK S 61 [dY f ls,vi g] (ri (aq (mz g) ls)):=by
 refine bk c61 ?_;simp only[go_sem,i61];refine dy (fun k ak aj=>ak 2=.one (.aZ 3904000000 1 0)/\aj 3904000000=(1,some (.var (uk f ls)))/\ak 6=vi k/\ak 5=vi (aq (mz g) (ls.take k))/\ak 1=vi g) 0 ls.length (bG _) ?_ ?_
 .simp only[go_sem];first|exact⟨rfl,rfl⟩|exact⟨rfl,rfl,rfl⟩
 rintro k ak aj hk ⟨dw,hB,lG,jk,Dl⟩
 by_cases aw:k<ls.length
 .obtain⟨l,df⟩:=aM aw;have hi:=iO df;have aL:((k:Int)<(ls.length:Int)):=aa;have hb:=zS ((mz g)) ls k;have w1:=cS (n:=k) aa;have w2:=cS (n:=aq ((mz g)) (ls.take k)) aa;cases hp:(l.kind==2) with
  |true=>
   cases hq:(l.id==g) with
   |true=>have hc:=sK (p:=(mz g)) df (by simp only[mz,Let.aA,hp,hq];rfl);simp only[go_sem,i61_l1,dw,hB,lG,jk,hi,Let.ps,aL,w1,w2,Dl,hp,hq,hc];first|exact aw|exact⟨aw,rfl⟩
   |false=>have hc:=kh (p:=(mz g)) df (by simp only[mz,Let.aA,hp,hq];rfl);simp only[go_sem,i61_l1,dw,hB,lG,jk,hi,Let.ps,aL,w1,Dl,hp,hq,hc];first|exact aw|exact⟨aw,rfl⟩
  |false=>have hc:=kh (p:=(mz g)) df (by simp only[mz,Let.aA,hp];rfl);simp only[go_sem,i61_l1,dw,hB,lG,jk,hi,Let.ps,aL,w1,Dl,hp,hc];first|exact aw|exact⟨aw,rfl⟩
 have:k=ls.length:=aa;subst this;rw[lf] at jk;simp only[go_sem,i61_l1,i61_r2,dw,hB,lG,jk,eI]
def dn (ls:ai)(i:Nat):Bool:=aq Let.aE (ls.take i)%2==0
def T7(f:Int)(ls:ai)(i:Nat)(hl:ls.length<=1000000)(Av:i<=ls.length):aK S 93 [dY f ls,vi i] (rb (dn ls i)):=by
 refine bk c93 ?_;simp only[go_sem,i93];refine dy (fun k ak aj=>ak 1=vi i/\ak 2=.one (.aZ 5952000000 1 0)/\aj 5952000000=(1,some (.var (uk f ls)))/\ak 6=vi k/\ak 5=vi (aq Let.aE (ls.take k))) 0 i (bG _) ?_ ?_
 .simp only[go_sem];exact⟨rfl,rfl⟩
 rintro k ak aj hk ⟨h1,dw,hB,lG,jk⟩
 have hb:=zS Let.aE ls k;by_cases aw:k<i
 .obtain⟨l,df⟩:=aM (ls:=ls) (k:=k) aa;have hi:=iO df;have aL:((k:Int)<(i:Int)):=aa;have w1:=cS (n:=k) aa;have w2:=cS (n:=aq Let.aE (ls.take k)) aa;cases hp:(l.kind==1) with
  |true=>have hc:=sK (p:=Let.aE) df hp;simp only[go_sem,i93_l1,h1,dw,hB,lG,jk,hi,Let.ps,aL,w1,w2,hp,hc];exact aw
  |false=>have hc:=kh (p:=Let.aE) df hp;simp only[go_sem,i93_l1,h1,dw,hB,lG,jk,hi,Let.ps,aL,w1,hp,hc];exact aw
 have:k=i:=aa;subst this;have e2:((((aq Let.aE (ls.take k))%2:Nat):Int)==0)=dn ls k:=by
  unfold dn;cases h:(aq Let.aE (ls.take k)%2==0) with
  |true=>simp at h |-;omega
  |false=>simp at h |-;omega
 simp only[go_sem,i93_l1,i93_r2,h1,lG,jk,eI,eO,jX,e2]
def ap0(a b:Let):aK S 91 [.agg (a.ps.map .p),.agg (b.ps.map .p)] (rb (decide (a.gate<b.gate)||(a.gate==b.gate&&decide (a.aC<b.aC)))):=by
 refine bk c91 ?_;by_cases h1:a.gate<b.gate
 .simp only[go_sem,i91,Let.ps,h1]
 cases h2:(a.gate==b.gate) with
 |true=>simp only[go_sem,i91,Let.ps,h1,h2]
 |false=>simp only[go_sem,i91,Let.ps,h1,h2]
def dF(n i:Nat)(fw:Bool):Nat:=if fw then 2*i else 2*((i+n-1)%n)+1
def Ta(f:Int)(ls:ai)(i:Nat)(fw:Bool)(hl:ls.length<=1000000)(hi:i<ls.length):aK S 92 [dY f ls,vi i,vb fw] (ri (dF ls.length i fw)):=by
 refine bk c92 ?_;cases fw with
 |true=>have e:IntKind.i64.wrap (2*(i:Int))=((2*i:Nat):Int):=wrap_small (n:=2*i) aa;simp only[go_sem,i92,e,dF]
 |false=>
  have w1:IntKind.i64.wrap ((i:Int)+(ls.length:Int))=((i+ls.length:Nat):Int):=wrap_small (n:=i+ls.length) aa;have w2:IntKind.i64.wrap (((i+ls.length:Nat):Int)-1)=((i+ls.length-1:Nat):Int):=by have:(((i+ls.length:Nat):Int)-1)=((i+ls.length-1:Nat):Int):=aa;rw[this];exact wrap_small aa
  have e1:=w9 (i+ls.length-1) ls.length;have hm:=dr (i+ls.length-1) (show 0<ls.length by omega);have w3:IntKind.i64.wrap (2*(((i+ls.length-1)%ls.length:Nat):Int))=((2*((i+ls.length-1)%ls.length):Nat):Int):=wrap_small (n:=2*((i+ls.length-1)%ls.length)) aa;have w4:=cS (n:=2*((i+ls.length-1)%ls.length)) aa;have hz:¬((ls.length:Int)=0):=aa;simp only[go_sem,i92,w1,w2,e1,w3,w4,hz,dF]
def AW(ls:ai)(i j:Nat):Bool:=j !=i&&(match ls[j]? with|some l=>l.aA&&l.id==((ls[i]?).map Let.id).getD 0|none=>false)
def fJ(ls:ai)(i:Nat):Nat:=((List.range ls.length).find? (AW ls i)).getD i
def Df{p:Nat->Bool}:∀ {n k:Nat},k<n->(∀j,j<k->p j=false)->p k=true->(List.range n).find? p=some k:=by intro n k hk hn hp;exact List.find?_range_eq_some.2 ⟨hp,by simpa using hk,fun j hj=>by simp[hn j hj]⟩
def JD{p:Nat->Bool}{n:Nat}(hn:∀j,j<n->p j=false):(List.range n).find? p=none:=by rw[ID];intro x hx;simp[hn x (by simpa using hx)]
def ars(f:Int)(ls:ai)(i:Nat)(hl:ls.length<=1000000)(Av:i<ls.length):aK S 94 [dY f ls,vi i] (ri (fJ ls i)):=by
 obtain⟨li,vB⟩:=aM Av;have gH:=iO vB;have key:∀j l,ls[j]?=some l->AW ls i j=(j !=i&&(l.aA&&l.id==li.id)):=fun j l h=>by simp[AW,h,vB]
 refine bk c94 ?_;simp only[go_sem,i94];refine dy (fun k ak aj=>ak 1=vi i/\ak 2=.one (.aZ 6016000000 1 0)/\aj 6016000000=(1,some (.var (uk f ls)))/\ak 5=vi k/\ ∀j,j<k->AW ls i j=false) 0 ls.length (bG _) ?_ ?_
 .simp only[go_sem];exact⟨rfl,fun j h=>absurd h (oN j)⟩
 rintro k ak aj hk ⟨h1,dw,hB,lG,hn⟩
 by_cases aw:k<ls.length
 .obtain⟨l,df⟩:=aM aw;have hi:=iO df;have aL:((k:Int)<(ls.length:Int)):=aa;have w1:=cS (n:=k) aa;have Fp:=key k l df;have step:AW ls i k=false->∀j,j<k+1->AW ls i j=false:=fun h j hj=>by
   rcases nN.1 hj with h2|rfl
   .exact hn j h2
   exact h
  by_cases hki:k=i
  .have hb:((k:Int)!=(i:Int))=false:=by simp[hki]
   have hs:=step (by rw[Fp];simp[hki]);simp only[go_sem,i94_l1,h1,dw,hB,lG,aL,w1,hb];exact⟨ah,aw,hs⟩
  have hb:((k:Int)!=(i:Int))=true:=by simp;omega
  have bj:(k !=i)=true:=by simp[hki]
  cases hp:(l.kind==2) with
  |false=>have hs:=step (by rw[Fp,bj,Let.aA,hp];rfl);simp only[go_sem,i94_l1,h1,dw,hB,lG,hi,Let.ps,aL,w1,hb,hp];exact⟨ah,aw,hs⟩
  |true=>
   cases hq:(l.id==li.id) with
   |false=>have hs:=step (by rw[Fp,bj,Let.aA,hp,hq];rfl);simp only[go_sem,i94_l1,h1,dw,hB,lG,hi,gH,Let.ps,aL,w1,hb,hp,hq];exact⟨ah,aw,hs⟩
   |true=>
    have hf:fJ ls i=k:=by unfold fJ;rw[Df aw hn (by rw[Fp,bj,Let.aA,hp,hq];rfl)];rfl
    simp only[go_sem,i94_l1,h1,dw,hB,lG,hi,gH,Let.ps,aL,hb,hp,hq,hf];show tZ _ _ _=true
    kernel_rfl
 have:k=ls.length:=aa;subst this;have hf:fJ ls i=i:=by unfold fJ;rw[JD hn];rfl
 simp only[go_sem,i94_l1,i94_r2,h1,dw,hB,lG,eI,hf]
abbrev Cc(l:a_):PV:=.sl (l.map fun n:Nat=>[.int .i64 (n:Int)])
def at_r(l:a_)(n k0:Nat)(hl:l.length<=1000000)(BE:l[k0]?=some n)(hn:∀j,j<k0->l[j]? ≠some n):aK S 95 [.one (.p (Cc l)),vi n] (ri k0):=by
 have hk0l:=(aT.1 BE).1;refine bk c95 ?_;simp only[go_sem,i95];refine dy (fun k ak aj=>ak 0=.one (.p (Cc l))/\ak 1=vi n/\ak 5=vi k) 0 k0 (bG _) ?_ ?_
 .simp only[go_sem];rfl
 rintro k ak aj hk ⟨h0,h1,h5⟩
 have aL:((k:Int)<(l.length:Int)):=aa;have w1:=cS (n:=k) aa;obtain⟨m,hm⟩:=aM (ls:=l) (k:=k) aa;have hi:(l.map fun n:Nat=>[PV.int .i64 (n:Int)])[k]?=some [.int .i64 (m:Int)]:=by simp[hm]
 by_cases aw:k<k0
 .have aI:((m:Int)==(n:Int))=false:=by
   have:m≠n:=fun e=>hn k aw (by rw[hm,e]);simp;omega
  simp only[go_sem,i95_l1,h0,h1,h5,aL,w1,hi,aI];exact aw
 have:k=k0:=aa;subst this;have e:m=n:=by rw[hm] at BE;exact qt BE
 subst e;simp only[go_sem,i95_l1,h0,h1,h5,aL,hi]
abbrev KC(l:Let):V:=.agg [.p (.int .i64 l.kind),.p (.int .i64 l.gate),.p (.int .i64 l.aC),.p (.int .i64 l.id),.p (.int .i64 l.sign),.p (.bool l.over)]
def HV(a b:Let):Bool:=decide (a.gate<b.gate)||(a.gate==b.gate&&decide (a.aC<b.aC))
def ap1(a b:Let):aK S 91 [KC a,KC b] (rb (HV a b)):=ap0 a b
abbrev nP(o:a_):s_:=o.map fun n:Nat=>[PV.int .i64 (n:Int)]
def kE{o:a_}{k n:Nat}(h:o[k]?=some n):(nP o)[k]?=some [.int .i64 (n:Int)]:=by simp[h]
def BU(ls:ai)(i j:Nat):Bool:=match ls[j]?,ls[i]? with
 |some a,some b=>HV a b
 |_,_=>false
def AQ(ls:ai)(o:a_)(i:Nat):a_:=o.take (o.takeWhile (BU ls i)).length++i::o.drop (o.takeWhile (BU ls i)).length
def Bj(ls:ai)(o:a_)(i:Nat):a_:=match ls[i]? with
 |some l=>if l.aE then AQ ls o i else o
 |none=>o
def aG(ls:ai):a_:=(List.range ls.length).foldl (Bj ls) []
def pS(ls:ai)(k:Nat):a_:=(List.range k).foldl (Bj ls) []
def Ja(ls:ai)(k:Nat):pS ls (k+1)=Bj ls (pS ls k) k:=by unfold pS;rw[yn,IF];rfl
def ajX{ls:ai}{o:a_}{i:Nat}{x:Nat}(h:x∈Bj ls o i):x∈o\/x=i:=by
 unfold Bj at h;split at h
 .split at h
  .unfold AQ at h;rcases eK.1 h with h|h
   .exact .inl (yl h)
   rcases cD.1 h with h|h
   .exact .inr h
   exact .inl (xj h)
  exact .inl h
 exact .inl h
def Pk{ls:ai}:∀ {k x:Nat},x∈pS ls k->x<k:=by
 intro k
 induction k with
 |zero=>intro x h;simp[pS] at h
 |succ k ih=>
  intro x h;rw[Ja] at h;rcases ajX h with h|h
  .have:=ih h;omega
  omega
def xv(ls:ai):∀k,(pS ls k).length<=k:=by
 intro k
 induction k with
 |zero=>simp[pS]
 |succ k ih=>
  rw[Ja];unfold Bj;split
  .split
   .unfold AQ;simp only[fS,dC,iK,lO];omega
   omega
  omega
def FV(site:Nat)(o:a_)(v:V)(aj:aB):Prop:=(o=[]/\v=.one (.p .nils))\/(o≠[]/\ ∃g,v=.one (.hsl site g 1 0 o.length)/\aj site=(g,some (.arr 3 1 (nP o))))
def ajZ{o:a_}{i K:Nat}{ak:Env}{aj:aB}{Q:dO}(ho:FV 3968576640 o (ak 3) aj)(h4:ak 4=vi i)(h5:ak 5=vi K)(hK:K<=o.length)(hl:o.length<=1000000)
  (hq:∀aF ao,aF 1=ak 1->aF 4=ak 4->ao 3968000000=aj 3968000000->FV 3968576640 (o.take K++i::o.drop K) (aF 3) ao->Q .normal aF ao):
  W S .all i62_r2 Q ak aj:=by
 rcases ho with ⟨rfl,h3⟩|⟨ho,g,h3,hC⟩
 .have hK0:K=0:=by simpa using hK
  subst hK0;simp only[go_sem,i62_r2,h3,h4,h5,gI,iI];refine⟨ah,hq _ _ ?_ ?_ ?_ (.inr ⟨af,(aj 3968576640).1+1,?_,?_⟩)⟩;all_goals simp only[go_sem]
 have lI:∀n:Nat,n<=1000001->n*8<=140737488355328:=fun n hn=>aa;by_cases hK0:K=0
 .subst hK0;have ht:List.take o.length (nP o)=nP o:=iz af;have jV:=lI (1+o.length) aa;simp only[go_sem,i62_r2,h3,h4,h5,hC,ht,jV,gI,iI];refine⟨ah,hq _ _ ?_ ?_ ?_ (.inr ⟨af,g+1,?_,?_⟩)⟩;all_goals simp only[go_sem]
  simp;omega
 have ht:(List.take K (nP o)).length=K:=by simp;omega
 have htt:List.take K (List.take K (nP o))=List.take K (nP o):=by rw[Gh,Nat.min_self]
 have nA:List.take (K+1) (List.take K (nP o)++[[PV.int .i64 (i:Int)]])=List.take K (nP o)++[[PV.int .i64 (i:Int)]]:=iz (by simp;omega);have htd:List.take (o.length-K) (List.drop K (nP o))=List.drop K (nP o):=iz af;have hld:(List.drop K (nP o)).length=o.length-K:=af;have rB:(List.take K (nP o)++[[PV.int .i64 (i:Int)]]).length=K+1:=by simp;omega
 have jV:=lI K aa;have wJ:=lI (K+1) aa;have hr3:=lI (K+1+(o.length-K)) aa;have hle:K+(o.length-K)<=o.length:=aa;simp only[go_sem,i62_r2,h3,h4,h5,hC,hK,ht,hK0,jV,wJ,hr3,htt,nA,htd,hld,rB,hle,gI,iI];refine⟨ah,hq _ _ ?_ ?_ ?_ (.inr ⟨af,g+1,?_,?_⟩)⟩;all_goals simp only[go_sem]
 .simp;omega
 simp
def au9{α:Type}{p:α->Bool}{l:List α}{K:Nat}(hK:K<=l.length)(h1:∀j x,j<K->l[j]?=some x->p x=true)(h2:∀x,l[K]?=some x->p x=false):(l.takeWhile p).length=K:=by
 induction l generalizing K with
 |nil=>simp at hK |-;omega
 |cons a l ih=>
  cases K with
  |zero=>have:=h2 a rfl;simp[List.takeWhile,this]
  |succ K=>have:=h1 0 a aa rfl;simp only[List.takeWhile,this,dC];rw[ih (by simpa using hK) (fun j x hj hx=>h1 (j+1) x aa (by simpa using hx)) (fun x hx=>h2 x (by simpa using hx))]
def aj3{ls:ai}{f:Int}{o:a_}{i:Nat}{li:Let}{ak:Env}{aj:aB}{Q:dO}(ho:FV 3968576640 o (ak 3) aj)(h1:ak 1=.one (.aZ 3968000000 1 0))(hB:aj 3968000000=(1,some (.var (uk f ls))))(h4:ak 4=vi i)(h5:ak 5=vi 0)
  (vB:ls[i]?=some li) (aw:∀x∈o,x<ls.length) (hl:o.length<=1000000)
  (hq:∀aF ao,aF 1=ak 1->aF 4=ak 4->ao 3968000000=aj 3968000000->FV 3968576640 (AQ ls o i) (aF 3) ao->Q .normal aF ao):
  W S .all (.loop i62_l1) (nh 2 (zy S .all i62_r2 Q)) ak aj:=by
 have gH:=iO vB;refine dy (fun k aF ao=>aF 1=ak 1/\aF 4=ak 4/\aF 3=ak 3/\ao=aj/\aF 5=vi k/\ ∀j x,j<k->o[j]?=some x->BU ls i x=true) 0 o.length (bG _) ?_ ?_
 .exact⟨rfl,rfl,rfl,rfl,h5,fun j x hj=>absurd hj (oN j)⟩
 rintro k aF ao hk ⟨kn,vt,rm,rfl,E6,hp⟩
 rw[h1] at kn;rw[h4] at vt;have fin:∀e:Env,e 1=aF 1->e 4=aF 4->e 3=aF 3->e 5=aF 5->(∀x,o[k]?=some x->BU ls i x=false)->W S .all i62_r2 Q e ao:=by
  intro e e1 e4 e3 e5 jT;have hK:=au9 hk hp jT;have l8:FV 3968576640 o (e 3) ao:=by rw[e3,rm];exact ho
  refine ajZ (i:=i) (K:=k) l8 (by rw[e4,vt]) (by rw[e5,E6]) hk hl ?_;intro dz bh q1 q2 q3 q4;refine hq dz bh (by rw[q1,e1,kn,h1]) (by rw[q2,e4,vt,h4]) q3 ?_;unfold AQ;rw[hK];exact q4
 by_cases df:k<o.length
 .obtain⟨x,hx⟩:=aM df;have wO:=aw x (aV hx);obtain⟨lx,hlx⟩:=aM wO;have j4:=iO hlx;have hnx:=kE hx;have aL:((k:Int)<(o.length:Int)):=aa;have w1:=cS (n:=k) aa;have aeb:BU ls i x=HV lx li:=by simp[BU,hlx,vB]
  have Rq:=ap1 lx li;rcases ho with ⟨rfl,_⟩|⟨ho,g,h3,hC⟩
  .simp at df
  rw[h3] at rm;cases hb:HV lx li with
  |true=>
   rw[hb] at Rq;simp only[go_sem,i62_l1,h1,h3,h4,kn,rm,vt,E6,hB,hC,aL,hnx,j4,gH,Let.ps,df,w1,s91,nX Rq];refine⟨ah,fun j y hj hy=>?_⟩;rcases nN.1 hj with hj|rfl
   .exact hp j y hj hy
   rw[hx] at hy;cases hy;rw[aeb,hb]
  |false=>rw[hb] at Rq;simp only[go_sem,i62_l1,kn,rm,vt,E6,hB,hC,aL,hnx,j4,gH,Let.ps,df,s91,nX Rq];refine⟨ah,fin _ ?_ ?_ ?_ ?_ (fun y hy=>by rw[hx] at hy;cases hy;rw[aeb,hb])⟩;all_goals simp only[go_sem,kn,rm,vt,E6]
 have:k=o.length:=aa;subst this;have dM:∀x,o[o.length]?=some x->BU ls i x=false:=fun x hx=>by simp at hx
 rcases ho with ⟨rfl,h3⟩|⟨ho,g,h3,hC⟩
 .rw[h3] at rm;simp only[go_sem,i62_l1,rm,E6,eI];refine⟨ah,fin _ ?_ ?_ ?_ ?_ dM⟩;all_goals simp only[go_sem,kn,rm,vt,E6]
 rw[h3] at rm;simp only[go_sem,i62_l1,rm,E6,eI];refine⟨ah,fin _ ?_ ?_ ?_ ?_ dM⟩;all_goals simp only[go_sem,kn,rm,vt,E6]
def apn(ls:ai)(o:a_)(i:Nat):(AQ ls o i).length=o.length+1:=by unfold AQ;simp only[fS,dC,iK,lO];have:=(List.takeWhile_sublist (BU ls i) (l:=o)).length_le;omega
def KU{aj:aB}{id g z len ty:Nat}{es:s_}(h:aj id=(g,some (.arr ty z es)))(hl:len=es.length):jd aj (.one (.hsl id g z 0 len))=some (.one (.own ty z es)):=by subst hl;simp only[jd,tH,oX,nG,jM,h,bR,and_self,if_true,lf];rfl
def Pl(o:a_):RC:=if o=[] then .p .nils else .own 3 1 (nP o)
def aj8(f:Int)(ls:ai)(hl:ls.length<=1000000):aK S 62 [dY f ls] (.one (Pl (aG ls))):=by
 refine bk c62 ?_;simp only[go_sem,i62];refine dy (fun k ak aj=>ak 1=.one (.aZ 3968000000 1 0)/\aj 3968000000=(1,some (.var (uk f ls)))/\ak 4=vi k/\FV 3968576640 (pS ls k) (ak 3) aj) 0 ls.length (bG _) ?_ ?_
 .simp only[go_sem];exact⟨rfl,.inl ⟨rfl,rfl⟩⟩
 rintro k ak aj hk ⟨h1,hB,h4,ho⟩
 have eH:=xv ls k;by_cases aw:k<ls.length
 .obtain⟨l,df⟩:=aM aw;have hi:=iO df;have aL:((k:Int)<(ls.length:Int)):=aa;have w1:=cS (n:=k) aa;have hs:=Ja ls k;unfold Bj at hs;rw[df] at hs;cases hp:(l.kind==1) with
  |false=>
   have mw:(l.kind !=1)=true:=by simp[bne,hp]
   simp only[Let.aE,hp] at hs;have hs:pS ls (k+1)=pS ls k:=hs;simp only[go_sem,i62_l4,i62_r3,h1,hB,h4,hi,Let.ps,aL,mw,w1,hs,aw];rcases ho with ⟨e,h3⟩|⟨ho,g,h3,hC⟩
   .exact .inl ⟨e,by simp only[go_sem,h3]⟩
   exact .inr ⟨ho,g,by simp only[go_sem,h3],by simp only[go_sem,hC]⟩
  |true=>
   have mw:(l.kind !=1)=false:=by simp[bne,hp]
   simp only[Let.aE,hp] at hs;have hs:pS ls (k+1)=AQ ls (pS ls k) k:=hs;simp only[go_sem,i62_l4,h1,hB,h4,hi,Let.ps,aL,mw];refine aj3 (ls:=ls) (f:=f) (o:=pS ls k) (i:=k) ?_ ?_ ?_ ?_ ?_ df (fun x hx=>Nat.lt_trans (Pk hx) aw) aa ?_
   .rcases ho with ⟨e,h3⟩|⟨ho,g,h3,hC⟩
    .exact .inl ⟨e,by simp only[go_sem,h3]⟩
    exact .inr ⟨ho,g,by simp only[go_sem,h3],by simp only[go_sem,hC]⟩
   .simp only[go_sem,h1]
   .simp only[go_sem,hB]
   .simp only[go_sem,h4]
   .rfl
   intro aF ao q1 q2 q3 q4;simp only[go_sem,h1,h4,hB] at q1 q2 q3;simp only[go_sem,i62_r3,q1,q2,q3,w1,hs,aw];rcases q4 with ⟨e,h3⟩|⟨ho,g,h3,hC⟩
   .exact .inl ⟨e,by simp only[go_sem,h3]⟩
   exact .inr ⟨ho,g,by simp only[go_sem,h3],by simp only[go_sem,hC]⟩
 have:k=ls.length:=aa;subst this;have he:aG ls=pS ls ls.length:=rfl;rw[<- he] at ho;rcases ho with ⟨e,h3⟩|⟨ho,g,h3,hC⟩
 .simp only[go_sem,i62_l4,i62_r5,h1,hB,h3,h4,eI,Pl,e]
 simp only[go_sem,i62_l4,i62_r5,h1,hB,h3,h4,eI,Pl,ho];exact KU hC af
def iC(ls:ai)(ax:a_)(d:Nat):Nat:=
 if 2*ls.length<=d then
  if d%2=0 then dF ls.length (ax.getD (((d-2*ls.length)/2+1)%ax.length) 0) (!dn ls (ax.getD (((d-2*ls.length)/2+1)%ax.length) 0))
  else dF ls.length (ax.getD ((d-2*ls.length)/2) 0) (dn ls (ax.getD ((d-2*ls.length)/2) 0))
 else
  let fw:=d%2==0
  let v:=if fw then (d/2+1)%ls.length else d/2
  match ls[v]? with
  |none=>0
  |some l=>if l.kind==2 then dF ls.length (fJ ls v) (fw==(l.over==(l.sign==1)))
   else if dn ls v==fw then 2*ls.length+2*ax.idxOf v else 2*ls.length+2*((ax.idxOf v+ax.length-1)%ax.length)+1
def agE{ls:ai}{i:Nat}(hi:i<ls.length):fJ ls i<ls.length:=by
 unfold fJ;cases h:(List.range ls.length).find? (AW ls i) with
 |none=>exact hi
 |some k=>
  have:=IH h
  simpa using this
def IV{n i:Nat}{fw:Bool}(hi:i<n):dF n i fw<2*n:=by unfold dF;have:=dr (i+n-1) (show 0<n by omega);split<;>omega
def SB{ls:ai}{ax:a_}{d:Nat}(kQ:∀x∈ax,x<ls.length)(hp:∀v l,ls[v]?=some l->(l.kind==2)=false->v∈ax)(hd:d<2*ls.length+2*ax.length):iC ls ax d<2*ls.length+2*ax.length:=by
 have Du:∀k,k<ax.length->ax.getD k 0<ls.length:=fun k hk=>by obtain⟨x,hx⟩:=aM hk;rw[dA,hx];exact kQ x (aV hx)
 unfold iC;by_cases h:2*ls.length<=d
 .rw[aD h];have hm:=dr ((d-2*ls.length)/2+1) (show 0<ax.length by omega);by_cases h2:d%2=0
  .rw[aD h2];exact Em (IV (Du _ hm)) aa
  rw[ay h2];exact Em (IV (Du _ aa)) aa
 rw[ay h];have hn:0<ls.length:=aa;have hv:(if (d%2==0)=true then (d/2+1)%ls.length else d/2)<ls.length:=by
  split
  .exact dr _ hn
  omega
 simp only;generalize (if (d%2==0)=true then (d/2+1)%ls.length else d/2)=v at hv;obtain⟨l,hl⟩:=aM hv;rw[hl];simp only;by_cases hk:(l.kind==2)=true
 .rw[aD hk];exact Em (IV (agE hv)) aa
 rw[ay hk];have jS:=hp v l hl (by simpa using hk);have Dv:ax.idxOf v<ax.length:=O0.2 jS;have hm:=dr (ax.idxOf v+ax.length-1) (show 0<ax.length by omega);split<;>omega
def apc{ax:a_}{v:Nat}:∀j,j<ax.idxOf v->ax[j]? ≠some v:=by
 induction ax with
 |nil=>intro j h;simp at h
 |cons a ax ih=>
  intro j h e;rw[List.idxOf_cons] at h;by_cases ha:a=v
  .simp[ha] at h
  have hb:(a==v)=false:=by simpa using ha
  rw[hb] at h;cases j with
  |zero=>simp at e;exact ha e
  |succ j=>exact ih j (by simp at h;omega) (by simpa using e)
def aeu{ax:a_}{v:Nat}(h:v∈ax):ax[ax.idxOf v]?=some v:=by have hl:ax.idxOf v<ax.length:=O0.2 h;rw[rL hl,List.getElem_idxOf hl]
def avA(f:Int)(ls:ai)(ax:a_)(d:Nat)(hl:ls.length<=1000000)(gR:ax.length<=1000000)(kQ:∀x∈ax,x<ls.length)(hp:∀v l,ls[v]?=some l->(l.kind==2)=false->v∈ax)
  (hd:d<2*ls.length+2*ax.length):aK S 63 [dY f ls,.one (.p (Cc ax)),vi d] (ri (iC ls ax d)):=by
 have m1:IntKind.i64.wrap (2*(ls.length:Int))=((2*ls.length:Nat):Int):=wrap_small (n:=2*ls.length) aa;unfold iC;by_cases h:2*ls.length<=d
 .rw[aD h];refine bk c63 ?_;have h':((2*ls.length:Nat):Int)<=(d:Int):=aa;have m2:IntKind.i64.wrap ((d:Int)-((2*ls.length:Nat):Int))=((d-2*ls.length:Nat):Int):=by
   have:((d:Int)-((2*ls.length:Nat):Int))=((d-2*ls.length:Nat):Int):=aa;rw[this];exact wrap_small aa
  have m3:=wrap_small (n:=(d-2*ls.length)/2) aa;have hm:=dr ((d-2*ls.length)/2+1) (show 0<ax.length by omega);have pY:¬((ax.length:Int)=0):=aa;by_cases h2:d%2=0
  .rw[aD h2];have m4:=cS (n:=(d-2*ls.length)/2) aa;have jH:(((d%2:Nat):Int)==0)=true:=by simp[h2]
   have m5:=w9 ((d-2*ls.length)/2+1) ax.length;obtain⟨v,hv⟩:=aM hm;have qJ:ax.getD (((d-2*ls.length)/2+1)%ax.length) 0=v:=by rw[dA,hv];rfl
   rw[qJ];have te:=kQ v (aV hv);have BI:=kE hv;have pd:=T7 f ls v hl aa;have pa:=Ta f ls v (!dn ls v) hl te;simp only[go_sem,i63,m1,m2,m3,m4,m5,h',jH,BI,pY,jX,fR,eO,s93,s92,nX pd,iD pa];exact aJ
  rw[ay h2];have jH:(((d%2:Nat):Int)==0)=false:=by simp;omega
  obtain⟨v,hv⟩:=aM (ls:=ax) (k:=(d-2*ls.length)/2) aa;have qJ:ax.getD ((d-2*ls.length)/2) 0=v:=by rw[dA,hv];rfl
  rw[qJ];have te:=kQ v (aV hv);have BI:=kE hv;have pd:=T7 f ls v hl aa;have pa:=Ta f ls v (dn ls v) hl te;simp only[go_sem,i63,m1,m2,m3,h',jH,BI,jX,fR,eO,s93,s92,nX pd,iD pa];exact aJ
 rw[ay h];have h':¬(((2*ls.length:Nat):Int)<=(d:Int)):=aa;have m3:=wrap_small (n:=d/2) aa;have iY:¬((ls.length:Int)=0):=aa;have pY:=dr (d/2+1) (show 0<ls.length by omega);have m4:=cS (n:=d/2) aa;have m5:=w9 (d/2+1) ls.length;have body:∀v:Nat,v<ls.length->∀fw:Bool,v=(if fw then (d/2+1)%ls.length else d/2)->(d%2==0)=fw->(((d%2:Nat):Int)==0)=fw->aK S 63 [dY f ls,.one (.p (Cc ax)),vi d] (ri ((match ls[v]? with
   |none=>0
   |some l=>if l.kind==2 then dF ls.length (fJ ls v) (fw==(l.over==(l.sign==1)))
    else if dn ls v==fw then 2*ls.length+2*ax.idxOf v else 2*ls.length+2*((ax.idxOf v+ax.length-1)%ax.length)+1:Nat):Int)):=by
  intro v hv fw fD yW r5;obtain⟨l,pX⟩:=aM hv;have iF:=iO pX;rw[pX];simp only;refine bk c63 ?_;cases hk:(l.kind==2) with
  |true=>
   have po:=ars f ls v hl hv;have pa:=Ta f ls (fJ ls v) (fw==(l.over==(l.sign==1))) hl (agE hv);cases fw with
   |true=>have fD:v=(d/2+1)%ls.length:=fD;rw[fD] at iF po pa |-;simp only[go_sem,i63,m1,m3,m4,m5,h',r5,iF,Let.ps,iY,hk,jX,fR,eO,s94,s92,iD po,iD pa];exact aJ
   |false=>have fD:v=d/2:=fD;rw[fD] at iF po pa |-;simp only[go_sem,i63,m1,m3,h',r5,iF,Let.ps,hk,jX,fR,eO,s94,s92,iD po,iD pa];exact aJ
  |false=>
   have jS:=hp v l pX hk;have Dv:ax.idxOf v<ax.length:=O0.2 jS;have pat:=at_r ax v (ax.idxOf v) gR (aeu jS) apc;have pd:=T7 f ls v hl aa;have Nv:¬((ax.length:Int)=0):=aa;have jq:=dr (ax.idxOf v+ax.length-1) (show 0<ax.length by omega);have n1:=u4 (a:=ax.idxOf v) aa;have n2:=wrap_add (a:=2*ls.length) (b:=2*ax.idxOf v) aa;have n3:=wrap_add (a:=ax.idxOf v) (b:=ax.length) aa;have n4:=Iu (a:=ax.idxOf v+ax.length) aa aa;have n5:=w9 (ax.idxOf v+ax.length-1) ax.length;have n6:=u4 (a:=(ax.idxOf v+ax.length-1)%ax.length) aa;have n7:=wrap_add (a:=2*ls.length) (b:=2*((ax.idxOf v+ax.length-1)%ax.length)) aa;have n8:=cS (n:=2*ls.length+2*((ax.idxOf v+ax.length-1)%ax.length)) aa;cases fw with
   |true=>
    have fD:v=(d/2+1)%ls.length:=fD;cases fg:dn ls v with
    |true=>rw[fg] at pd;subst fD;simp only[go_sem,i63,m1,m3,m4,m5,h',r5,iF,Let.ps,iY,hk,jX,fR,eO,s95,s93,eT pat,dZ pd,n1,n2]
    |false=>rw[fg] at pd;subst fD;simp only[go_sem,i63,m1,m3,m4,m5,h',r5,iF,Let.ps,iY,hk,jX,fR,eO,s95,s93,eT pat,dZ pd,n3,n4,n5,n6,n7,n8,Nv]
   |false=>
    have fD:v=d/2:=fD;cases fg:dn ls v with
    |true=>rw[fg] at pd;subst fD;simp only[go_sem,i63,m1,m3,h',r5,iF,Let.ps,hk,jX,fR,eO,s95,s93,eT pat,dZ pd,n3,n4,n5,n6,n7,n8,Nv]
    |false=>rw[fg] at pd;subst fD;simp only[go_sem,i63,m1,m3,h',r5,iF,Let.ps,hk,jX,fR,eO,s95,s93,eT pat,dZ pd,n1,n2]
 have te:(if (d%2==0)=true then (d/2+1)%ls.length else d/2)<ls.length:=by
  split
  .exact pY
  omega
 have:=body _ te (d%2==0) rfl rfl (by cases hq:(d%2==0)<;>simp at hq |- <;>omega);exact this
abbrev bP(o:m_):s_:=o.map fun b:Bool=>[PV.bool b]
def tF{o:m_}{k:Nat}{b:Bool}(h:o[k]?=some b):(bP o)[k]?=some [.bool b]:=by simp[h]
def Jb(o:m_)(k:Nat)(b:Bool):(bP o).set k [.bool b]=bP (o.set k b):=by simp[List.map_set]
def fp(next:Nat->Nat):Nat->Nat->m_->a_×m_
 |0,_,seen=>([],seen)
 |k+1,x,seen=>if seen.getD x true then ([],seen) else (x::(fp next k (next x) (seen.set x true)).1,(fp next k (next x) (seen.set x true)).2)
def zB(s:m_):Nat:=s.countP (fun b=> !b)
def OO{s:m_}{x:Nat}(h:s[x]?=some false):zB (s.set x true)+1=zB s:=by
 induction s generalizing x with
 |nil=>simp at h
 |cons b s ih=>
  cases x with
  |zero=>simp at h;subst h;simp[zB]
  |succ x=>have:=ih (x:=x) (by simpa using h);unfold zB at this |-;simp only[List.set_cons_succ,xg];omega
def avJ(next:Nat->Nat):∀(k x:Nat) (s:m_),(fp next k x s).2.length=s.length:=by
 intro k
 induction k with
 |zero=>intro x s;rfl
 |succ k ih=>
  intro x s;unfold fp;split
  .rfl
  simp[ih]
def vR(next:Nat->Nat)(st:List a_×m_)(d:Nat):List a_×m_:=if st.2.getD d true then st else (st.1++[(fp next (st.2.length+1) d st.2).1],(fp next (st.2.length+1) d st.2).2)
def dX(next:Nat->Nat)(N k:Nat):List a_×m_:=(List.range k).foldl (vR next) ([],List.replicate N false)
def gU(next:Nat->Nat)(N:Nat):List a_:=(dX next N N).1
def zC(next:Nat->Nat)(N k:Nat):dX next N (k+1)=vR next (dX next N k) k:=by unfold dX;rw[yn,IF];rfl
def Is(next:Nat->Nat)(N:Nat):∀k,(dX next N k).2.length=N:=by
 intro k
 induction k with
 |zero=>simp[dX]
 |succ k ih=>
  rw[zC];unfold vR;split
  .exact ih
  simp[avJ,ih]
def avQ(next:Nat->Nat)(N k:Nat)(hk:1<=k)(hN:1<=N):(dX next N k).1≠[]:=by
 induction k with
 |zero=>omega
 |succ k ih=>
  rw[zC];by_cases h0:k=0
  .subst h0;have hz:(dX next N 0)=([],List.replicate N false):=rfl;have hg:(List.replicate N false).getD 0 true=false:=by
    obtain⟨n,rfl⟩:∃n,N=n+1:=⟨N-1,aa⟩;rfl
   rw[hz];unfold vR;simp only[hg];simp
  have:=ih aa;unfold vR;split
  .exact this
  simp
def OR(next:Nat->Nat)(N:Nat):∀k,(dX next N k).1.length<=k:=by
 intro k
 induction k with
 |zero=>simp[dX]
 |succ k ih=>
  rw[zC];unfold vR;split
  .omega
  simp;exact ih
def Lp(s:m_):zB s<=s.length:=OZ
def avM{ls:ai}{ax:a_}(hl:ls.length<=1000000)(gR:ax.length<=1000000)(kQ:∀x∈ax,x<ls.length)(hp:∀v l,ls[v]?=some l->(l.kind==2)=false->v∈ax){Q:dO}:
  ∀(fuel x:Nat) (sn:m_) (w:a_) (ak:Env) (aj:aB),ak 1=.one (.aZ 2368000000 1 0)->aj 2368000000=(1,some (.var (uk f ls)))->
   ak 4=.one (.hsl 2368128064 1 1 0 ax.length)->aj 2368128064=(1,some (.arr 3 1 (nP ax)))->ak 5=.one (.hsl 2368192512 1 1 0 sn.length)->aj 2368192512=(1,some (.arr 4 1 (bP sn)))->
   FV 2368832192 w (ak 7) aj->ak 8=vi x->x<sn.length->sn.length=2*ls.length+2*ax.length->zB sn<fuel->w.length+zB sn<=5000000->
   (∀aF ao,aF 1=ak 1->aF 3=ak 3->aF 4=ak 4->aF 5=ak 5->aF 6=ak 6->ao 2368000000=aj 2368000000->ao 2368128064=aj 2368128064->ao 2368896192=aj 2368896192->ao 2368896128=aj 2368896128->
    ao 2368192512=(1,some (.arr 4 1 (bP (fp (iC ls ax) fuel x sn).2)))->FV 2368832192 (w++(fp (iC ls ax) fuel x sn).1) (aF 7) ao->Q .normal aF ao)->
   W S .all (.loop i37_l1) (nh 2 Q) ak aj:=by
 intro fuel
 induction fuel with
 |zero=>intro x sn w ak aj _ _ _ _ _ _ _ _ _ _ h;omega
 |succ fuel ih=>
  intro x sn w ak aj h1 hB h4 hA h5 hS ho h8 hx hsl hu hw hq;obtain⟨b,hb⟩:=aM hx;have lD:=tF hb;have As:sn.getD x true=b:=by rw[dA,hb];rfl
  unfold fp at hq;rw[As] at hq;refine sF ?_;cases b with
  |true=>
   simp only[go_sem,i37_l1,h5,hS,h8,hx,lD];refine hq _ _ ?_ ?_ ?_ ?_ ?_ rfl rfl rfl rfl hS ?_;all_goals simp only[go_sem]
   exact ho
  |false=>
   have Fz:=OO hb;have pt:=avA f ls ax x hl gR kQ hp aa;have jZ:=SB (d:=x) kQ hp aa;have iG:=Jb sn x true;have lI:∀n:Nat,n<=5000001->n*8<=140737488355328:=fun n hn=>aa;have HF:List.take ax.length (nP ax)=nP ax:=iz af;rcases ho with ⟨rfl,h7⟩|⟨QL,g,h7,hC⟩
   .simp only[go_sem,i37_l1,h1,hB,h4,hA,h5,hS,h7,h8,hx,lD,iG,HF,s63,eT pt,gI,iI];refine ih (iC ls ax x) (sn.set x true) [x] _ _ ?_ ?_ ?_ ?_ ?_ ?_ ?_ ?_ (by simpa [hsl] using jZ) (by simpa using hsl) aa (by simp;omega) ?_
    .simp only[go_sem,h1]
    .simp only[go_sem,hB]
    .simp only[go_sem,h4]
    .simp only[go_sem,hA]
    .simp only[go_sem,h5,ud]
    .simp only[go_sem]
    .simp only[go_sem];exact .inr ⟨af,_,rfl,rfl⟩
    .simp only[go_sem]
    intro aF ao q1 q3 q4 q5 q6 b1 b2 b3 b4 b5 b6;refine hq aF ao ?_ ?_ ?_ ?_ ?_ ?_ ?_ ?_ ?_ b5 ?_
    .rw[q1];simp only[go_sem]
    .rw[q3];simp only[go_sem]
    .rw[q4];simp only[go_sem]
    .rw[q5];simp only[go_sem]
    .rw[q6];simp only[go_sem]
    .rw[b1];simp only[go_sem]
    .rw[b2];simp only[go_sem]
    .rw[b3];simp only[go_sem]
    .rw[b4];simp only[go_sem]
    simpa using b6
   have uJ:List.take w.length (nP w)=nP w:=iz af;have jV:=lI (w.length+1) aa;simp only[go_sem,i37_l1,h1,hB,h4,hA,h5,hS,h7,h8,hx,lD,iG,HF,s63,eT pt,hC,uJ,jV,gI,iI];refine ih (iC ls ax x) (sn.set x true) (w++[x]) _ _ ?_ ?_ ?_ ?_ ?_ ?_ ?_ ?_ (by simpa [hsl] using jZ) (by simpa using hsl) aa (by simp;omega) ?_
   .simp only[go_sem,h1]
   .simp only[go_sem,hB]
   .simp only[go_sem,h4]
   .simp only[go_sem,hA]
   .simp only[go_sem,h5,ud]
   .simp only[go_sem]
   .simp only[go_sem];exact .inr ⟨af,g+1,af,by simp[aO]⟩
   .simp only[go_sem]
   intro aF ao q1 q3 q4 q5 q6 b1 b2 b3 b4 b5 b6;refine hq aF ao ?_ ?_ ?_ ?_ ?_ ?_ ?_ ?_ ?_ b5 ?_
   .rw[q1];simp only[go_sem]
   .rw[q3];simp only[go_sem]
   .rw[q4];simp only[go_sem]
   .rw[q5];simp only[go_sem]
   .rw[q6];simp only[go_sem]
   .rw[b1];simp only[go_sem]
   .rw[b2];simp only[go_sem]
   .rw[b3];simp only[go_sem]
   .rw[b4];simp only[go_sem]
   simpa using b6
def outW(site:Nat)(o:List a_)(v:V)(aj:aB):Prop:=(o=[]/\v=.one (.p .nils))\/(o≠[]/\ ∃g,v=.one (.hsl site g 1 0 o.length)/\aj site=(g,some (.arr 104 1 (o.map fun w=>[Cc w]))))
def avU(f:Int)(ls:ai)(hl:ls.length<=1000000)(aI:aG ls≠[])(hp:∀v l,ls[v]?=some l->(l.kind==2)=false->v∈aG ls):
  aK S 37 [dY f ls] (.one (.own 104 1 ((gU (iC ls (aG ls)) (2*ls.length+2*(aG ls).length)).map fun w=>[Cc w]))):=by
 have pa:=aj8 f ls hl;have kQ:∀x∈aG ls,x<ls.length:=fun x h=>Pk h;have gR:(aG ls).length<=ls.length:=xv ls ls.length;unfold Pl at pa;rw[ay aI] at pa;generalize aG ls=ax at aI hp pa kQ gR;have m1:=u4 (a:=ls.length) aa;have m2:=u4 (a:=ax.length) aa;have m3:=wrap_add (a:=2*ls.length) (b:=2*ax.length) aa;have r8:(nP ax).length=ax.length:=af;have lI:2*ls.length+2*ax.length<=140737488355328:=aa;have kV:List.replicate (2*ls.length+2*ax.length) [PV.bool false]=bP (List.replicate (2*ls.length+2*ax.length) false):=af
 refine bk c37 ?_;have aop:∀(aj:aB),land aj [] 2368128064 ((RV.one (.own 3 1 (nP ax))).gJ (S.lone 2368128064))=some (.one (.hsl 2368128064 ((aj 2368128064).1+1) 1 0 ax.length),[(2368128064,((aj 2368128064).1+1,some (.arr 3 1 (nP ax))))]):=by intro aj;have eF:S.lone 2368128064=false:=ah;rw[eF];simp only[RV.gJ,land,true_or,if_true,jJ,gQ,ir,jr,dq,qQ,mA,cM,jA]
 simp only[go_sem,i37,s62,de pa (aop _),m1,m2,m3,lI,kV];generalize hN:2*ls.length+2*ax.length=N at lI;refine dy (fun k ak aj=>ak 1=.one (.aZ 2368000000 1 0)/\aj 2368000000=(1,some (.var (uk f ls)))/\ak 4=.one (.hsl 2368128064 1 1 0 ax.length)/\aj 2368128064=(1,some (.arr 3 1 (nP ax)))/\
   ak 5=.one (.hsl 2368192512 1 1 0 N)/\aj 2368192512=(1,some (.arr 4 1 (bP (dX (iC ls ax) N k).2)))/\ak 6=vi k/\outW 2368896192 (dX (iC ls ax) N k).1 (ak 3) aj) 0 N (bG _) ?_ ?_
 .simp only[go_sem];exact⟨rfl,rfl,.inl ⟨rfl,rfl⟩⟩
 rintro k ak aj hk ⟨h1,hB,h4,hA,h5,hS,h6,ho⟩
 have hlen:=Is (iC ls ax) N k;have Ft:=OR (iC ls ax) N k;by_cases aw:k<N
 .have aL:((k:Int)<(N:Int)):=aa;have w1:=cS (n:=k) aa;have hs:=zC (iC ls ax) N k;generalize cV:dX (iC ls ax) N k=st at hlen hs ho hS Ft;obtain⟨out,sn⟩:=st;simp only at hlen ho hS Ft;obtain⟨b,hb⟩:=aM (ls:=sn) (k:=k) aa;have lD:=tF hb;unfold vR at hs;have As:sn.getD k true=b:=by rw[dA,hb];rfl
  simp only[As] at hs;cases b with
  |true=>have hs:dX (iC ls ax) N (k+1)=(out,sn):=hs;simp only[go_sem,i37_l4,i37_r3,h1,hB,h4,hA,h5,hS,h6,aw,aL,lD,w1,hs];exact ho
  |false=>
   have hs:dX (iC ls ax) N (k+1)=(out++[(fp (iC ls ax) (N+1) k sn).1],(fp (iC ls ax) (N+1) k sn).2):=by rw[hs,hlen];rfl
   have hul:=Lp sn;simp only[go_sem,i37_l4,h5,hS,h6,aw,aL,lD];refine avM (f:=f) hl aa kQ hp (N+1) k sn [] _ _ ?_ ?_ ?_ ?_ ?_ ?_ ?_ ?_ aa aa aa (by simp;omega) ?_
   .simp only[go_sem,h1]
   .simp only[go_sem,hB]
   .simp only[go_sem,h4]
   .simp only[go_sem,hA]
   .simp only[go_sem,h5,hlen]
   .simp only[go_sem,hS]
   .exact .inl ⟨rfl,by simp only[go_sem]⟩
   .simp only[go_sem]
   intro aF ao q1 q3 q4 q5 q6 b1 b2 b3 b4 b5 b6;simp only[go_sem,h1,h4,h5,h6] at q1 q3 q4 q5 q6;simp only[go_sem,hB,hA] at b1 b2 b3 b4;have QL:(fp (iC ls ax) (N+1) k sn).1≠[]:=by unfold fp;rw[As];simp
   rw[fZ] at b6;rcases b6 with ⟨e,_⟩|⟨_,g,h7,hC⟩
   .exact(QL e).elim
   generalize fp (iC ls ax) (N+1) k sn=wf at hs QL b5 h7 hC;obtain⟨w,iQ⟩:=wf;simp only at hs QL b5 h7 hC;have uJ:List.take w.length (nP w)=nP w:=iz af;rcases ho with ⟨rfl,h3⟩|⟨ho,go,h3,hO⟩
   .rw[h3] at q3;simp only[go_sem,i37_r2,i37_r3,q1,q3,q4,q5,q6,b1,b2,b5,h7,hC,uJ,w1,hs,aw,yC,gI,iI];exact .inr ⟨af,_,rfl,by simp[aO]⟩
   rw[h3] at q3;have Fy:List.take out.length (out.map fun w=>[Cc w])=out.map fun w=>[Cc w]:=iz af;have jV:(out.length+1)*24<=140737488355328:=aa;simp only[go_sem,i37_r2,i37_r3,q1,q3,q4,q5,q6,b1,b2,b3,b5,h7,hC,hO,uJ,Fy,jV,w1,hs,aw,yC,cD,gI,iI];exact .inr ⟨af,go+1,af,by simp[aO]⟩
 have:k=N:=aa;subst this;have he:gU (iC ls ax) k=(dX (iC ls ax) k k).1:=rfl;rw[<- he] at ho;rcases ho with ⟨e,h3⟩|⟨ho,g,h3,hC⟩
 .exact(avQ (iC ls ax) k k (by have:=jl.2 aI;omega) (by have:=jl.2 aI;omega) e).elim
 simp only[go_sem,i37_l4,i37_r5,h3,h5,h6,eI];exact KU hC af
abbrev XJ(l:Let):f_:=[.p (.int .i64 l.kind),.p (.int .i64 l.gate),.p (.int .i64 l.aC),.p (.int .i64 l.id),.p (.int .i64 l.sign),.p (.bool l.over)]
def jz(l o:Let):Bool:=(o.kind==l.kind&&o.gate==l.gate)&&o.aC==l.aC
def jf(l o:Let):Bool:=((o.kind==l.kind&&o.id==l.id)&&o.sign==l.sign)&& !(o.over==l.over)
def wU(f:Int)(ls:ai)(l:Let):Bool:= !(((((((l.id !=0||l.sign !=0)||l.over)||decide (l.gate<0))||decide (f<l.gate))||decide (l.aC<1))||decide ((aq (qe l.gate) ls:Int)<l.aC))||(((aq (jz l) ls:Nat):Int)!=1))
def mU(ls:ai)(l:Let):Bool:= !((((((l.gate !=0||l.aC !=0)||(l.sign !=1&&l.sign != -1))||decide (l.id<1))||decide (((aq Let.aA ls/2:Nat):Int)<l.id))||(((aq (jf l) ls:Nat):Int)!=1))||(((aq (mz l.id) ls:Nat):Int)!=2))
def eX(f:Int)(ls:ai)(l:Let):Bool:=if l.kind==1 then wU f ls l else if l.kind==2 then mU ls l else false
def aqf{f:Int}{ls:ai}{l:Let}{g i:Nat}{ak:Env}{aj:aB}{Q:dO}(hl:ls.length<=1000000)(h1:ak 1=.one (.aZ 2304000000 1 0))(hB:aj 2304000000=(1,some (.var (uk f ls))))(h3:ak 3=vi i)(h4:ak 4=.one (.aZ 2304256320 g 0))(hL:aj 2304256320=(g,some (.var (XJ l))))
  (h5:ak 5=vi 0) (h6:ak 6=vi 0) (h7:ak 7=vi 0)
  (hq:∀aF ao,aF 1=ak 1->aF 3=ak 3->aF 4=ak 4->ao 2304000000=aj 2304000000->ao 2304256320=aj 2304256320->aF 5=vi (aq (jz l) ls)->aF 6=vi (aq (jf l) ls)->Q .normal aF ao):
  W S .all (.loop i36_l1) (nh 2 Q) ak aj:=by
 refine dy (fun k aF ao=>aF 1=.one (.aZ 2304000000 1 0)/\ao 2304000000=(1,some (.var (uk f ls)))/\aF 3=vi i/\aF 4=.one (.aZ 2304256320 g 0)/\ao 2304256320=(g,some (.var (XJ l)))/\
   aF 5=vi (aq (jz l) (ls.take k))/\aF 6=vi (aq (jf l) (ls.take k))/\aF 7=vi k) 0 ls.length (bG _) ?_ ?_
 .exact⟨h1,hB,h3,h4,hL,h5,h6,h7⟩
 rintro k aF ao hk ⟨g1,gB,g3,g4,gL,g5,g6,g7⟩
 by_cases aw:k<ls.length
 .obtain⟨o,ho⟩:=aM aw;have hi:=iO ho;have aL:((k:Int)<(ls.length:Int)):=aa;have b5:=zS (jz l) ls k;have b6:=zS (jf l) ls k;have w1:=cS (n:=k) aa;have w5:=cS (n:=aq (jz l) (ls.take k)) aa;have w6:=cS (n:=aq (jf l) (ls.take k)) aa;cases e0:(o.kind==l.kind) with
  |true=>
   cases e1:(o.gate==l.gate) with
   |true=>
    cases e2:(o.aC==l.aC) with
    |true=>
     cases e3:(o.id==l.id) with
     |true=>
      cases e4:(o.sign==l.sign) with
      |true=>
       cases e5:(o.over==l.over) with
       |true=>have c5:=sK (p:=jz l) ho (by simp only[jz,e0,e1,e2];rfl);have c6:=kh (p:=jf l) ho (by simp only[jf,e0,e3,e4,e5];rfl);simp only[go_sem,i36_l1,g1,gB,g3,g4,gL,g5,g6,g7,hi,Let.ps,aL,w1,w5,e0,e1,e2,e3,e4,e5,c5,c6];first|exact aw|exact⟨aw,rfl⟩|exact⟨aw,rfl,rfl⟩
       |false=>have c5:=sK (p:=jz l) ho (by simp only[jz,e0,e1,e2];rfl);have c6:=sK (p:=jf l) ho (by simp only[jf,e0,e3,e4,e5];rfl);simp only[go_sem,i36_l1,g1,gB,g3,g4,gL,g5,g6,g7,hi,Let.ps,aL,w1,w5,w6,e0,e1,e2,e3,e4,e5,c5,c6];first|exact aw|exact⟨aw,rfl⟩|exact⟨aw,rfl,rfl⟩
      |false=>have c5:=sK (p:=jz l) ho (by simp only[jz,e0,e1,e2];rfl);have c6:=kh (p:=jf l) ho (by simp only[jf,e0,e3,e4];rfl);simp only[go_sem,i36_l1,g1,gB,g3,g4,gL,g5,g6,g7,hi,Let.ps,aL,w1,w5,e0,e1,e2,e3,e4,c5,c6];first|exact aw|exact⟨aw,rfl⟩|exact⟨aw,rfl,rfl⟩
     |false=>have c5:=sK (p:=jz l) ho (by simp only[jz,e0,e1,e2];rfl);have c6:=kh (p:=jf l) ho (by simp only[jf,e0,e3];rfl);simp only[go_sem,i36_l1,g1,gB,g3,g4,gL,g5,g6,g7,hi,Let.ps,aL,w1,w5,e0,e1,e2,e3,c5,c6];first|exact aw|exact⟨aw,rfl⟩|exact⟨aw,rfl,rfl⟩
    |false=>
     cases e3:(o.id==l.id) with
     |true=>
      cases e4:(o.sign==l.sign) with
      |true=>
       cases e5:(o.over==l.over) with
       |true=>have c5:=kh (p:=jz l) ho (by simp only[jz,e0,e1,e2];rfl);have c6:=kh (p:=jf l) ho (by simp only[jf,e0,e3,e4,e5];rfl);simp only[go_sem,i36_l1,g1,gB,g3,g4,gL,g5,g6,g7,hi,Let.ps,aL,w1,e0,e1,e2,e3,e4,e5,c5,c6];first|exact aw|exact⟨aw,rfl⟩|exact⟨aw,rfl,rfl⟩
       |false=>have c5:=kh (p:=jz l) ho (by simp only[jz,e0,e1,e2];rfl);have c6:=sK (p:=jf l) ho (by simp only[jf,e0,e3,e4,e5];rfl);simp only[go_sem,i36_l1,g1,gB,g3,g4,gL,g5,g6,g7,hi,Let.ps,aL,w1,w6,e0,e1,e2,e3,e4,e5,c5,c6];first|exact aw|exact⟨aw,rfl⟩|exact⟨aw,rfl,rfl⟩
      |false=>have c5:=kh (p:=jz l) ho (by simp only[jz,e0,e1,e2];rfl);have c6:=kh (p:=jf l) ho (by simp only[jf,e0,e3,e4];rfl);simp only[go_sem,i36_l1,g1,gB,g3,g4,gL,g5,g6,g7,hi,Let.ps,aL,w1,e0,e1,e2,e3,e4,c5,c6];first|exact aw|exact⟨aw,rfl⟩|exact⟨aw,rfl,rfl⟩
     |false=>have c5:=kh (p:=jz l) ho (by simp only[jz,e0,e1,e2];rfl);have c6:=kh (p:=jf l) ho (by simp only[jf,e0,e3];rfl);simp only[go_sem,i36_l1,g1,gB,g3,g4,gL,g5,g6,g7,hi,Let.ps,aL,w1,e0,e1,e2,e3,c5,c6];first|exact aw|exact⟨aw,rfl⟩|exact⟨aw,rfl,rfl⟩
   |false=>
    cases e3:(o.id==l.id) with
    |true=>
     cases e4:(o.sign==l.sign) with
     |true=>
      cases e5:(o.over==l.over) with
      |true=>have c5:=kh (p:=jz l) ho (by simp only[jz,e0,e1];rfl);have c6:=kh (p:=jf l) ho (by simp only[jf,e0,e3,e4,e5];rfl);simp only[go_sem,i36_l1,g1,gB,g3,g4,gL,g5,g6,g7,hi,Let.ps,aL,w1,e0,e1,e3,e4,e5,c5,c6];first|exact aw|exact⟨aw,rfl⟩|exact⟨aw,rfl,rfl⟩
      |false=>have c5:=kh (p:=jz l) ho (by simp only[jz,e0,e1];rfl);have c6:=sK (p:=jf l) ho (by simp only[jf,e0,e3,e4,e5];rfl);simp only[go_sem,i36_l1,g1,gB,g3,g4,gL,g5,g6,g7,hi,Let.ps,aL,w1,w6,e0,e1,e3,e4,e5,c5,c6];first|exact aw|exact⟨aw,rfl⟩|exact⟨aw,rfl,rfl⟩
     |false=>have c5:=kh (p:=jz l) ho (by simp only[jz,e0,e1];rfl);have c6:=kh (p:=jf l) ho (by simp only[jf,e0,e3,e4];rfl);simp only[go_sem,i36_l1,g1,gB,g3,g4,gL,g5,g6,g7,hi,Let.ps,aL,w1,e0,e1,e3,e4,c5,c6];first|exact aw|exact⟨aw,rfl⟩|exact⟨aw,rfl,rfl⟩
    |false=>have c5:=kh (p:=jz l) ho (by simp only[jz,e0,e1];rfl);have c6:=kh (p:=jf l) ho (by simp only[jf,e0,e3];rfl);simp only[go_sem,i36_l1,g1,gB,g3,g4,gL,g5,g6,g7,hi,Let.ps,aL,w1,e0,e1,e3,c5,c6];first|exact aw|exact⟨aw,rfl⟩|exact⟨aw,rfl,rfl⟩
  |false=>have c5:=kh (p:=jz l) ho (by simp only[jz,e0];rfl);have c6:=kh (p:=jf l) ho (by simp only[jf,e0];rfl);simp only[go_sem,i36_l1,g1,gB,g3,g4,gL,g5,g6,g7,hi,Let.ps,aL,w1,e0,c5,c6];first|exact aw|exact⟨aw,rfl⟩|exact⟨aw,rfl,rfl⟩
 have:k=ls.length:=aa;subst this;rw[lf] at g5 g6;simp only[go_sem,i36_l1,g1,gB,g7,eI];refine hq _ _ ?_ ?_ ?_ ?_ ?_ ?_ ?_;all_goals simp only[go_sem,g1,gB,g3,g4,gL,g5,g6,h1,hB,h3,h4,hL]
def aqg{f:Int}{ls:ai}{l:Let}{g i:Nat}{ak:Env}{aj:aB}{Q:dO}(hl:ls.length<=1000000)(h1:ak 1=.one (.aZ 2304000000 1 0))(hB:aj 2304000000=(1,some (.var (uk f ls))))(h3:ak 3=vi i)(h4:ak 4=.one (.aZ 2304256320 g 0))(hL:aj 2304256320=(g,some (.var (XJ l))))
  (h5:ak 5=vi (aq (jz l) ls)) (h6:ak 6=vi (aq (jf l) ls))
  (hq:eX f ls l=true->∀aF,aF 1=ak 1->aF 3=ak 3->Q .normal aF aj) (hr:eX f ls l=false->∀aF,aF 2=.one (.p (.bool false))->Q .ret aF aj):
  W S .all i36_r2 Q ak aj:=by
 have pin:=in_r f ls hl l.gate;have pvi:=Y0 f ls hl;have pti:=avk f ls hl l.id;have hcv:=sL Let.aA ls;have wv:=wrap_small (n:=aq Let.aA ls/2) aa;cases k1:(l.kind==1) with
 |true=>
  cases a1:(l.id !=0) with
  |true=>
   have au:eX f ls l=false:=by simp only[eX,k1,wU,a1];rfl
   simp only[go_sem,i36_r2,h4,hL,k1,a1];refine⟨ah,hr au _ ?_⟩;simp only[go_sem]
  |false=>
   cases a2:(l.sign !=0) with
   |true=>
    have au:eX f ls l=false:=by simp only[eX,k1,wU,a1,a2];rfl
    simp only[go_sem,i36_r2,h4,hL,k1,a1,a2];refine⟨ah,hr au _ ?_⟩;simp only[go_sem]
   |false=>
    cases a3:(l.over) with
    |true=>
     have au:eX f ls l=false:=by simp only[eX,k1,wU,a1,a2,a3];rfl
     simp only[go_sem,i36_r2,h4,hL,k1,a1,a2,a3];refine⟨ah,hr au _ ?_⟩;simp only[go_sem]
    |false=>
     cases a4:(decide (l.gate<0)) with
     |true=>
      have zO:(l.gate<0):=qu a4;have au:eX f ls l=false:=by simp only[eX,k1,wU,a1,a2,a3,a4];rfl
      simp only[go_sem,i36_r2,h4,hL,k1,a1,a2,a3,zO];refine⟨ah,hr au _ ?_⟩;simp only[go_sem]
     |false=>
      cases a5:(decide (f<l.gate)) with
      |true=>
       have zO:¬(l.gate<0):=ib a4;have lT:(f<l.gate):=qu a5;have au:eX f ls l=false:=by simp only[eX,k1,wU,a1,a2,a3,a4,a5];rfl
       simp only[go_sem,i36_r2,h1,hB,h4,hL,k1,a1,a2,a3,zO,lT];refine⟨ah,hr au _ ?_⟩;simp only[go_sem]
      |false=>
       cases a6:(decide (l.aC<1)) with
       |true=>
        have zO:¬(l.gate<0):=ib a4;have lT:¬(f<l.gate):=ib a5;have oR:(l.aC<1):=qu a6;have au:eX f ls l=false:=by simp only[eX,k1,wU,a1,a2,a3,a4,a5,a6];rfl
        simp only[go_sem,i36_r2,h1,hB,h4,hL,k1,a1,a2,a3,zO,lT,oR];refine⟨ah,hr au _ ?_⟩;simp only[go_sem]
       |false=>
        cases a7:(decide ((aq (qe l.gate) ls:Int)<l.aC)) with
        |true=>
         have zO:¬(l.gate<0):=ib a4;have lT:¬(f<l.gate):=ib a5;have oR:¬(l.aC<1):=ib a6;have LN:((aq (qe l.gate) ls:Int)<l.aC):=qu a7;have au:eX f ls l=false:=by simp only[eX,k1,wU,a1,a2,a3,a4,a5,a6,a7];rfl
         simp only[go_sem,i36_r2,h1,hB,h4,hL,s60,iD pin,k1,a1,a2,a3,zO,lT,oR,LN];refine⟨ah,hr au _ ?_⟩;simp only[go_sem]
        |false=>
         cases a8:(((aq (jz l) ls:Nat):Int)!=1) with
         |true=>
          have zO:¬(l.gate<0):=ib a4;have lT:¬(f<l.gate):=ib a5;have oR:¬(l.aC<1):=ib a6;have LN:¬((aq (qe l.gate) ls:Int)<l.aC):=ib a7;have au:eX f ls l=false:=by simp only[eX,k1,wU,a1,a2,a3,a4,a5,a6,a7,a8];rfl
          simp only[go_sem,i36_r2,h1,hB,h4,hL,h5,s60,iD pin,k1,a1,a2,a3,zO,lT,oR,LN,a8];refine⟨ah,hr au _ ?_⟩;simp only[go_sem]
         |false=>
          have zO:¬(l.gate<0):=ib a4;have lT:¬(f<l.gate):=ib a5;have oR:¬(l.aC<1):=ib a6;have LN:¬((aq (qe l.gate) ls:Int)<l.aC):=ib a7;have au:eX f ls l=true:=by simp only[eX,k1,wU,a1,a2,a3,a4,a5,a6,a7,a8];rfl
          simp only[go_sem,i36_r2,h1,hB,h4,hL,h5,s60,iD pin,k1,a1,a2,a3,zO,lT,oR,LN,a8];refine⟨ah,hq au _ ?_ ?_⟩;all_goals simp only[go_sem]
 |false=>
  cases k2:(l.kind==2) with
  |true=>
   cases a1:(l.gate !=0) with
   |true=>
    have au:eX f ls l=false:=by simp only[eX,k1,k2,mU,a1];rfl
    simp only[go_sem,i36_r2,h4,hL,k1,k2,a1];refine⟨ah,hr au _ ?_⟩;simp only[go_sem]
   |false=>
    cases a2:(l.aC !=0) with
    |true=>
     have au:eX f ls l=false:=by simp only[eX,k1,k2,mU,a1,a2];rfl
     simp only[go_sem,i36_r2,h4,hL,k1,k2,a1,a2];refine⟨ah,hr au _ ?_⟩;simp only[go_sem]
    |false=>
     cases a3:(l.sign !=1) with
     |true=>
      cases a4:(l.sign != -1) with
      |true=>
       have au:eX f ls l=false:=by simp only[eX,k1,k2,mU,a1,a2,a3,a4];rfl
       simp only[go_sem,i36_r2,h4,hL,k1,k2,a1,a2,a3,a4];refine⟨ah,hr au _ ?_⟩;simp only[go_sem]
      |false=>
       cases a5:(decide (l.id<1)) with
       |true=>
        have lT:(l.id<1):=qu a5;have au:eX f ls l=false:=by simp only[eX,k1,k2,mU,a1,a2,a3,a4,a5];rfl
        simp only[go_sem,i36_r2,h4,hL,k1,k2,a1,a2,a3,a4,lT];refine⟨ah,hr au _ ?_⟩;simp only[go_sem]
       |false=>
        cases a6:(decide (((aq Let.aA ls/2:Nat):Int)<l.id)) with
        |true=>
         have lT:¬(l.id<1):=ib a5;have oR:(((aq Let.aA ls/2:Nat):Int)<l.id):=qu a6;have au:eX f ls l=false:=by simp only[eX,k1,k2,mU,a1,a2,a3,a4,a5,a6];rfl
         simp only[go_sem,i36_r2,h1,hB,h4,hL,s34,iD pvi,fR,eO,wv,k1,k2,a1,a2,a3,a4,lT,oR];refine⟨ah,hr au _ ?_⟩;simp only[go_sem]
        |false=>
         cases a7:(((aq (jf l) ls:Nat):Int)!=1) with
         |true=>
          have lT:¬(l.id<1):=ib a5;have oR:¬(((aq Let.aA ls/2:Nat):Int)<l.id):=ib a6;have au:eX f ls l=false:=by simp only[eX,k1,k2,mU,a1,a2,a3,a4,a5,a6,a7];rfl
          simp only[go_sem,i36_r2,h1,hB,h4,hL,h6,s34,iD pvi,fR,eO,wv,k1,k2,a1,a2,a3,a4,lT,oR,a7];refine⟨ah,hr au _ ?_⟩;simp only[go_sem]
         |false=>
          cases a8:(((aq (mz l.id) ls:Nat):Int)!=2) with
          |true=>
           have lT:¬(l.id<1):=ib a5;have oR:¬(((aq Let.aA ls/2:Nat):Int)<l.id):=ib a6;have au:eX f ls l=false:=by simp only[eX,k1,k2,mU,a1,a2,a3,a4,a5,a6,a7,a8];rfl
           simp only[go_sem,i36_r2,h1,hB,h4,hL,h6,s34,s61,iD pvi,iD pti,fR,eO,wv,k1,k2,a1,a2,a3,a4,lT,oR,a7,a8];refine⟨ah,hr au _ ?_⟩;simp only[go_sem]
          |false=>
           have lT:¬(l.id<1):=ib a5;have oR:¬(((aq Let.aA ls/2:Nat):Int)<l.id):=ib a6;have au:eX f ls l=true:=by simp only[eX,k1,k2,mU,a1,a2,a3,a4,a5,a6,a7,a8];rfl
           simp only[go_sem,i36_r2,h1,hB,h4,hL,h6,s34,s61,iD pvi,iD pti,fR,eO,wv,k1,k2,a1,a2,a3,a4,lT,oR,a7,a8];refine⟨ah,hq au _ ?_ ?_⟩;all_goals simp only[go_sem]
     |false=>
      cases a5:(decide (l.id<1)) with
      |true=>
       have lT:(l.id<1):=qu a5;have au:eX f ls l=false:=by simp only[eX,k1,k2,mU,a1,a2,a3,a5];rfl
       simp only[go_sem,i36_r2,h4,hL,k1,k2,a1,a2,a3,lT];refine⟨ah,hr au _ ?_⟩;simp only[go_sem]
      |false=>
       cases a6:(decide (((aq Let.aA ls/2:Nat):Int)<l.id)) with
       |true=>
        have lT:¬(l.id<1):=ib a5;have oR:(((aq Let.aA ls/2:Nat):Int)<l.id):=qu a6;have au:eX f ls l=false:=by simp only[eX,k1,k2,mU,a1,a2,a3,a5,a6];rfl
        simp only[go_sem,i36_r2,h1,hB,h4,hL,s34,iD pvi,fR,eO,wv,k1,k2,a1,a2,a3,lT,oR];refine⟨ah,hr au _ ?_⟩;simp only[go_sem]
       |false=>
        cases a7:(((aq (jf l) ls:Nat):Int)!=1) with
        |true=>
         have lT:¬(l.id<1):=ib a5;have oR:¬(((aq Let.aA ls/2:Nat):Int)<l.id):=ib a6;have au:eX f ls l=false:=by simp only[eX,k1,k2,mU,a1,a2,a3,a5,a6,a7];rfl
         simp only[go_sem,i36_r2,h1,hB,h4,hL,h6,s34,iD pvi,fR,eO,wv,k1,k2,a1,a2,a3,lT,oR,a7];refine⟨ah,hr au _ ?_⟩;simp only[go_sem]
        |false=>
         cases a8:(((aq (mz l.id) ls:Nat):Int)!=2) with
         |true=>
          have lT:¬(l.id<1):=ib a5;have oR:¬(((aq Let.aA ls/2:Nat):Int)<l.id):=ib a6;have au:eX f ls l=false:=by simp only[eX,k1,k2,mU,a1,a2,a3,a5,a6,a7,a8];rfl
          simp only[go_sem,i36_r2,h1,hB,h4,hL,h6,s34,s61,iD pvi,iD pti,fR,eO,wv,k1,k2,a1,a2,a3,lT,oR,a7,a8];refine⟨ah,hr au _ ?_⟩;simp only[go_sem]
         |false=>
          have lT:¬(l.id<1):=ib a5;have oR:¬(((aq Let.aA ls/2:Nat):Int)<l.id):=ib a6;have au:eX f ls l=true:=by simp only[eX,k1,k2,mU,a1,a2,a3,a5,a6,a7,a8];rfl
          simp only[go_sem,i36_r2,h1,hB,h4,hL,h6,s34,s61,iD pvi,iD pti,fR,eO,wv,k1,k2,a1,a2,a3,lT,oR,a7,a8];refine⟨ah,hq au _ ?_ ?_⟩;all_goals simp only[go_sem]
  |false=>
   have au:eX f ls l=false:=by simp only[eX,k1,k2];rfl
   simp only[go_sem,i36_r2,h4,hL,k1,k2];refine hr au _ ?_;simp only[go_sem]
def xU(f:Int)(ls:ai):Bool:=ls.all (eX f ls)
def aqh(f:Int)(ls:ai)(hl:ls.length<=1000000):aK S 36 [dY f ls] (rb (xU f ls)):=by
 refine bk c36 ?_;simp only[go_sem,i36];refine dy (fun k ak aj=>ak 1=.one (.aZ 2304000000 1 0)/\aj 2304000000=(1,some (.var (uk f ls)))/\ak 3=vi k/\ ∀j l,j<k->ls[j]?=some l->eX f ls l=true) 0 ls.length (bG _) ?_ ?_
 .simp only[go_sem];exact⟨rfl,fun j l h=>absurd h (oN j)⟩
 rintro k ak aj hk ⟨h1,hB,h3,au⟩
 by_cases aw:k<ls.length
 .obtain⟨l,ho⟩:=aM aw;have hi:=iO ho;have aL:((k:Int)<(ls.length:Int)):=aa;have w1:=cS (n:=k) aa;simp only[go_sem,i36_l4,h1,hB,h3,hi,Let.ps,aL];refine aqf (f:=f) (l:=l) (g:=(aj 2304256320).1+1) (i:=k) hl ?_ ?_ ?_ ?_ ?_ ?_ ?_ ?_ ?_
  .simp only[go_sem,h1]
  .simp only[go_sem,hB]
  .simp only[go_sem,h3]
  .simp only[go_sem]
  .simp only[go_sem]
  .simp only[go_sem]
  .simp only[go_sem]
  .simp only[go_sem]
  intro aF ao q1 q3 q4 b1 b2 q5 q6;simp only[go_sem,h1,h3] at q1 q3 q4;simp only[go_sem,hB] at b1 b2;simp only[go_sem];refine aqg (f:=f) (l:=l) (i:=k) hl q1 b1 q3 q4 b2 q5 q6 ?_ ?_
  .intro Nn dz e1 e3;rw[q1] at e1;rw[q3] at e3;simp only[go_sem,i36_r3,e1,b1,e3,w1];refine⟨aw,fun j l' hj kA=>?_⟩;rcases nN.1 hj with hj|rfl
   .exact au j l' hj kA
   rw[ho] at kA;cases kA;exact Nn
  intro Wv dz e2;have hf:xU f ls=false:=by unfold xU;rw[List.all_eq_false];exact⟨l,aV ho,by simp[Wv]⟩
  simp only[go_sem,e2,hf]
 have:k=ls.length:=aa;subst this;have hf:xU f ls=true:=by unfold xU;rw[gO];intro x hx;obtain⟨j,hj,rfl⟩:=List.getElem_of_mem hx;exact au j _ hj af
 simp only[go_sem,i36_l4,i36_r5,h1,hB,h3,eI,hf]
def apo{ls:ai}{o:a_}{i x:Nat}:x∈AQ ls o i↔x∈o\/x=i:=by
 unfold AQ;generalize (o.takeWhile (BU ls i)).length=K;constructor
 .intro h;rcases eK.1 h with h|h
  .exact .inl (yl h)
  rcases cD.1 h with h|h
  .exact .inr h
  exact .inl (xj h)
 rintro (h|rfl)
 .rw[<- mJ K o] at h;rcases eK.1 h with h|h
  .exact eK.2 (.inl h)
  exact eK.2 (.inr (cD.2 (.inr h)))
 simp
def Z5{ls:ai}:∀ {k x:Nat},k<=ls.length->(x∈pS ls k↔x<k/\ ∃l,ls[x]?=some l/\l.aE=true):=by
 intro k
 induction k with
 |zero=>intro x _;simp[pS]
 |succ k ih=>
  intro x hk;rw[Ja];obtain⟨l,hl⟩:=aM (ls:=ls) (k:=k) aa;have ih:=ih (x:=x) aa;unfold Bj;rw[hl];simp only;by_cases hp:l.aE=true
  .rw[aD hp,apo,ih];constructor
   .rintro (⟨h1,h2⟩|rfl)
    .exact⟨aa,h2⟩
    exact⟨aa,l,hl,hp⟩
   rintro ⟨h1,h2⟩
   rcases nN.1 h1 with h|rfl
   .exact .inl ⟨h,h2⟩
   exact .inr rfl
  rw[ay hp,ih];constructor
  .rintro ⟨h1,h2⟩;exact⟨aa,h2⟩
  rintro ⟨h1,m,hm,vC⟩
  rcases nN.1 h1 with h|rfl
  .exact⟨h,m,hm,vC⟩
  rw[hl] at hm;cases hm;exact(hp vC).elim
def ui{ls:ai}{x:Nat}:x∈aG ls↔ ∃l,ls[x]?=some l/\l.aE=true:=by
 have:=Z5 (ls:=ls) (k:=ls.length) (x:=x) (bR _);have e:aG ls=pS ls ls.length:=rfl;rw[e,this];constructor
 .rintro ⟨_,h⟩;exact h
 rintro ⟨l,h,h2⟩;exact⟨(aT.1 h).1,l,h,h2⟩
def afK{ls:ai}(h:xU f ls=true){v:Nat}{l:Let}(hv:ls[v]?=some l):l.aE=true\/l.aA=true:=by
 have:=(gO.1 h) l (aV hv);unfold eX at this;unfold Let.aE Let.aA;cases h1:(l.kind==1) with
 |true=>exact .inl rfl
 |false=>
  cases h2:(l.kind==2) with
  |true=>exact .inr rfl
  |false=>rw[h1,h2] at this;simp at this
def mT(ls:ai):Nat:=(gU (iC ls (aG ls)) (2*ls.length+2*(aG ls).length)).length
def mE(f:Int)(ls:ai):Bool:=(match ls[0]? with|some l=>l.kind==1|none=>true)&&(aq Let.aE ls%2==0)&&xU f ls&&(mT ls==aq Let.aE ls+aq Let.aA ls/2+2)
def bQ(f:Int)(ls:ai):Int:=if 400<ls.length\/200<aq Let.aA ls then 7 else if f<0\/40<f then 2 else if ls=[] then 0 else if mE f ls then 0 else 3
def akV(f:Int)(ls:ai)(hl:ls.length<=1000000):aK S 12 [dY f ls] (ri (bQ f ls)):=by
 have pvi:=Y0 f ls hl;have ppa:=arD f ls hl;have ple:=aqh f ls hl;have pcr:=alz f ls hl;have hci:=sL Let.aA ls;have gH:=sL Let.aE ls;refine bk c12 ?_;unfold bQ;by_cases h1:400<ls.length
 .have kn:(400:Int)<(ls.length:Int):=aa;simp only[go_sem,i12,h1,kn]
 have kn:¬(400:Int)<(ls.length:Int):=aa;by_cases h2:200<aq Let.aA ls
 .have jH:(200:Int)<(aq Let.aA ls:Int):=aa;simp only[go_sem,i12,h1,kn,h2,jH,s34,eT pvi]
 have jH:¬(200:Int)<(aq Let.aA ls:Int):=aa;by_cases h3:f<0
 .simp only[go_sem,i12,h1,kn,h2,jH,h3,s34,eT pvi]
 by_cases h4:40<f
 .simp only[go_sem,i12,h1,kn,h2,jH,h3,h4,s34,eT pvi]
 have aoR:¬(400<ls.length\/200<aq Let.aA ls):=aa;have aoS:¬(f<0\/40<f):=aa;rw[ay aoR,ay aoS];by_cases he:ls=[]
 .subst he;have hz:(((0:Nat):Int)==0)=true:=ae;have hz3:¬((400:Int)<((0:Nat):Int)):=ae;have asF:aK S 34 [.agg [.p (.int .i64 f),.p (.sl [])]] (ri (aq Let.aA [])):=pvi;simp only[go_sem,i12,hz3,jH,h3,h4,s34,eT asF,hz]
 have hlen:0<ls.length:=jl.2 he;obtain⟨l0,h0⟩:=aM hlen;have Av:=iO h0;have HB:(((ls.length:Nat):Int)==0)=false:=by simp;omega
 rw[ay he];generalize hr:(if mE f ls=true then (0:Int) else 3)=r;cases c1:(l0.kind==1) with
 |false=>
  have c1':(l0.kind !=1)=true:=by simp[bne,c1]
  have hv:mE f ls=false:=by simp only[mE,h0,c1];rfl
  rw[hv] at hr;have hr:(3:Int)=r:=hr;subst hr;simp only[go_sem,i12,kn,jH,h3,h4,s34,eT pvi,HB,s35,eT ppa,Av,Let.ps,c1'];exact aJ
 |true=>
  have c1':(l0.kind !=1)=false:=by simp[bne,c1]
  cases c2:(aq Let.aE ls%2==0) with
  |false=>
   have c2':(((aq Let.aE ls%2:Nat):Int)!=0)=true:=by simp at c2 |-;omega
   have hv:mE f ls=false:=by simp only[mE,h0,c1,c2];rfl
   rw[hv] at hr;have hr:(3:Int)=r:=hr;subst hr;simp only[go_sem,i12,kn,jH,h3,h4,s34,eT pvi,HB,s35,eT ppa,Av,Let.ps,c1',jX,eO,c2'];exact aJ
  |true=>
   have c2':(((aq Let.aE ls%2:Nat):Int)!=0)=false:=by simp at c2 |-;omega
   cases c3:xU f ls with
   |false=>
    rw[c3] at ple;have hv:mE f ls=false:=by simp only[mE,h0,c1,c2,c3];rfl
    rw[hv] at hr;have hr:(3:Int)=r:=hr;subst hr;simp only[go_sem,i12,kn,jH,h3,h4,s34,eT pvi,HB,s35,eT ppa,Av,Let.ps,c1',jX,eO,c2',s36,nX ple];exact aJ
   |true=>
    rw[c3] at ple;have aI:aG ls≠[]:=fun e=>by have:(0:Nat)∈aG ls:=ui.2 ⟨l0,h0,c1⟩;rw[e] at this;cases this
    have hp:∀v l,ls[v]?=some l->(l.kind==2)=false->v∈aG ls:=fun v l hv h2=>by
     rcases afK c3 hv with h|h
     .exact ui.2 ⟨l,hv,h⟩
     unfold Let.aA at h;rw[h2] at h;cases h
    have pw:=avU f ls hl aI hp;have NF:mT ls=(gU (iC ls (aG ls)) (2*ls.length+2*(aG ls).length)).length:=rfl;have j5:=OR (iC ls (aG ls)) (2*ls.length+2*(aG ls).length) (2*ls.length+2*(aG ls).length);generalize hW:gU (iC ls (aG ls)) (2*ls.length+2*(aG ls).length)=ws at pw j5 NF;have a1:=wrap_add (a:=aq Let.aE ls) (b:=aq Let.aA ls/2) aa;have a2:IntKind.i64.wrap (((aq Let.aE ls+aq Let.aA ls/2:Nat):Int)+2)=((aq Let.aE ls+aq Let.aA ls/2+2:Nat):Int):=wrap_add (a:=aq Let.aE ls+aq Let.aA ls/2) (b:=2) aa;have eF:S.lone 768513152=false:=ah
    have hJ:∀(aj:aB),land aj [] 768513152 ((RV.one (.own 104 1 (ws.map fun w=>[Cc w]))).gJ (S.lone 768513152))=some (.one (.hsl 768513152 ((aj 768513152).1+1) 1 0 ws.length),[(768513152,((aj 768513152).1+1,some (.arr 104 1 (ws.map fun w=>[Cc w]))))]):=by intro aj;rw[eF];simp only[RV.gJ,land,true_or,if_true,jJ,gQ,ir,jr,dq,qQ,mA,cM,jA]
    cases c4:(ws.length==aq Let.aE ls+aq Let.aA ls/2+2) with
    |false=>
     have c4':(((ws.length:Nat):Int)!=((aq Let.aE ls+aq Let.aA ls/2+2:Nat):Int))=true:=by simp at c4 |-;omega
     have hv:mE f ls=false:=by simp only[mE,h0,c1,c2,c3,NF,c4];rfl
     rw[hv] at hr;have hr:(3:Int)=r:=hr;subst hr;simp only[go_sem,i12,kn,jH,h3,h4,s34,eT pvi,HB,s35,eT ppa,Av,Let.ps,c1',jX,eO,c2',s36,nX ple,s37,EK pw (hJ _),s38,iD pcr,a1,a2,c4'];exact aJ
    |true=>
     have c4':(((ws.length:Nat):Int)!=((aq Let.aE ls+aq Let.aA ls/2+2:Nat):Int))=false:=by simp at c4 |-;omega
     have hv:mE f ls=true:=by simp only[mE,h0,c1,c2,c3,NF,c4];rfl
     rw[hv] at hr;have hr:(0:Int)=r:=hr;subst hr;simp only[go_sem,i12,kn,jH,h3,h4,s34,eT pvi,HB,s35,eT ppa,Av,Let.ps,c1',jX,eO,c2',s36,nX ple,s37,EK pw (hJ _),s38,iD pcr,a1,a2,c4'];exact aJ
def dL(f:Int)(l:Let):Bool:=if l.kind==1 then (((decide (l.gate<0)||decide (f<l.gate))||l.id !=0)||l.sign !=0)||l.over else if l.kind==2 then (l.gate !=0||l.aC !=0)||(l.sign !=1&&l.sign != -1) else true
def ake(f:Int)(l:Let)(x1 x2 x3 x4 x5 x6:PV):aK S 100 [KC l,.one (.p (.box [.box [.int .i64 f,x1,x2,x3,x4,x5,x6]]))] (rb (dL f l)):=by
 refine bk c100 ?_;cases k1:(l.kind==1) with
 |true=>
  cases a1:(decide (l.gate<0)) with
  |true=>
   have zN:(l.gate<0):=qu a1;have hb:dL f l=true:=by simp only[dL,k1,a1];rfl
   simp only[go_sem,i100,k1,zN,hb];exact aJ
  |false=>
   cases a2:(decide (f<l.gate)) with
   |true=>
    have zN:¬(l.gate<0):=ib a1;have CH:(f<l.gate):=qu a2;have hb:dL f l=true:=by simp only[dL,k1,a1,a2];rfl
    simp only[go_sem,i100,k1,zN,CH,hb];exact aJ
   |false=>
    cases a3:(l.id !=0) with
    |true=>
     have zN:¬(l.gate<0):=ib a1;have CH:¬(f<l.gate):=ib a2;have hb:dL f l=true:=by simp only[dL,k1,a1,a2,a3];rfl
     simp only[go_sem,i100,k1,zN,CH,a3,hb];exact aJ
    |false=>
     cases a4:(l.sign !=0) with
     |true=>
      have zN:¬(l.gate<0):=ib a1;have CH:¬(f<l.gate):=ib a2;have hb:dL f l=true:=by simp only[dL,k1,a1,a2,a3,a4];rfl
      simp only[go_sem,i100,k1,zN,CH,a3,a4,hb];exact aJ
     |false=>
      cases a5:(l.over) with
      |true=>
       have zN:¬(l.gate<0):=ib a1;have CH:¬(f<l.gate):=ib a2;have hb:dL f l=true:=by simp only[dL,k1,a1,a2,a3,a4,a5];rfl
       simp only[go_sem,i100,k1,zN,CH,a3,a4,a5,hb];exact aJ
      |false=>
       have zN:¬(l.gate<0):=ib a1;have CH:¬(f<l.gate):=ib a2;have hb:dL f l=false:=by simp only[dL,k1,a1,a2,a3,a4,a5];rfl
       simp only[go_sem,i100,k1,zN,CH,a3,a4,a5,hb];exact aJ
 |false=>
  cases k2:(l.kind==2) with
  |true=>
   cases a1:(l.gate !=0) with
   |true=>
    have hb:dL f l=true:=by simp only[dL,k1,k2,a1];rfl
    simp only[go_sem,i100,k1,k2,a1,hb]
   |false=>
    cases a2:(l.aC !=0) with
    |true=>
     have hb:dL f l=true:=by simp only[dL,k1,k2,a1,a2];rfl
     simp only[go_sem,i100,k1,k2,a1,a2,hb]
    |false=>
     cases a3:(l.sign !=1) with
     |true=>
      cases a4:(l.sign != -1) with
      |true=>
       have hb:dL f l=true:=by simp only[dL,k1,k2,a1,a2,a3,a4];rfl
       simp only[go_sem,i100,k1,k2,a1,a2,a3,a4,hb]
      |false=>
       have hb:dL f l=false:=by simp only[dL,k1,k2,a1,a2,a3,a4];rfl
       simp only[go_sem,i100,k1,k2,a1,a2,a3,a4,hb]
     |false=>
      have hb:dL f l=false:=by simp only[dL,k1,k2,a1,a2,a3];rfl
      simp only[go_sem,i100,k1,k2,a1,a2,a3,hb]
  |false=>
   have hb:dL f l=true:=by simp only[dL,k1,k2];rfl
   simp only[go_sem,i100,k1,k2,hb]
abbrev dfn(f:Int)(x1 x2 x3 x4 x5 x6:PV):PV:=.fn 100 [] [.box [.box [.int .i64 f,x1,x2,x3,x4,x5,x6]]]
def akf(f:Int)(ls:ai)(x1 x2 x3 x4 x5 x6:PV)(hl:ls.length<=1000000)(hn:x1.norm=x1/\x2.norm=x2/\x3.norm=x3/\x4.norm=x4/\x5.norm=x5/\x6.norm=x6):
  ∃k:Int,(0<=k↔ls.any (dL f)=true)/\aK S 124 [.one (.p (cT ls)),.one (.p (dfn f x1 x2 x3 x4 x5 x6))] (ri k):=by
 have main:∀r:Int,(∀(k:Nat) l,ls[k]?=some l->dL f l=true->(∀(j:Nat) m,j<k->ls[j]?=some m->dL f m=false)->r=k)->((∀(j:Nat) m,ls[j]?=some m->dL f m=false)->r= -1)->
   aK S 124 [.one (.p (cT ls)),.one (.p (dfn f x1 x2 x3 x4 x5 x6))] (ri r):=by
  intro r jV wJ;refine bk c124 ?_;simp only[go_sem,i124];refine dy (fun k ak aj=>ak 0=.one (.p (cT ls))/\ak 1=.one (.p (dfn f x1 x2 x3 x4 x5 x6))/\ak 7=vi ls.length/\ak 8=vi k/\ ∀j m,j<k->ls[j]?=some m->dL f m=false) 0 ls.length (bG _) ?_ ?_
  .simp only[go_sem];exact⟨rfl,fun j m h=>absurd h (oN j)⟩
  rintro k ak aj hk ⟨h0,h1,h7,h8,hn⟩
  by_cases aw:k<ls.length
  .obtain⟨l,eH⟩:=aM aw;have hi:=iO eH;have aL:((k:Int)<(ls.length:Int)):=aa;have w1:=cS (n:=k) aa;have pb:=ake f l x1 x2 x3 x4 x5 x6;cases hb:dL f l with
   |true=>rw[hb] at pb;have hr:=jV k l eH hb hn;subst hr;simp only[go_sem,i124_l1,h0,h1,h7,h8,hi,Let.ps,aL,s100,dZ pb]
   |false=>
    rw[hb] at pb;simp only[go_sem,i124_l1,h0,h1,h7,h8,hi,Let.ps,aL,w1,s100,dZ pb];refine⟨aw,fun j m hj hm=>?_⟩;rcases nN.1 hj with hj|rfl
    .exact hn j m hj hm
    rw[eH] at hm;cases hm;exact hb
  have:k=ls.length:=aa;subst this;have hr:=wJ fun j m hm=>hn j m (aT.1 hm).1 hm;subst hr;simp only[go_sem,i124_l1,i124_r2,h7,h8,eI]
 cases ha:ls.any (dL f) with
 |true=>
  have hx:ls.findIdx (dL f)<ls.length:=List.findIdx_lt_length_of_exists (by simpa using ha);refine⟨(ls.findIdx (dL f):Nat),⟨fun _=>rfl,fun _=>aa⟩,main _ ?_ ?_⟩
  .intro k l eH hb hn;have hk:=(aT.1 eH).1;have h1:dL f ls[ls.findIdx (dL f)]=true:=List.findIdx_getElem;rcases Nat.lt_trichotomy (ls.findIdx (dL f)) k with h|h|h
   .have:=hn _ _ h (rL hx);rw[h1] at this;cases this
   .rw[h]
   have:=List.not_of_lt_findIdx h;have e:ls[k]=l:=by rw[rL hk] at eH;exact qt eH
   rw[e,hb] at this;simp at this
  intro hn;have h1:dL f ls[ls.findIdx (dL f)]=true:=List.findIdx_getElem;have:=hn _ _ (rL hx);rw[h1] at this;cases this
 |false=>refine⟨-1,⟨fun h=>aa,fun h=>by cases h⟩,main _ ?_ (fun _=>rfl)⟩;intro k l eH hb _;have:=IA.1 ha l (aV eH);exact(this hb).elim
def alo(f:Int)(ls:ai)(x1 x2 x3 x4 x5 x6:PV)(hl:ls.length<=1000000)(hn:x1.norm=x1/\x2.norm=x2/\x3.norm=x3/\x4.norm=x4/\x5.norm=x5/\x6.norm=x6):
  aK S 99 [.one (.p (cT ls)),.one (.p (dfn f x1 x2 x3 x4 x5 x6))] (rb (ls.any (dL f))):=by
 obtain⟨k,hk,pk⟩:=akf f ls x1 x2 x3 x4 x5 x6 hl hn;refine bk c99 ?_;cases ha:ls.any (dL f) with
 |true=>have h0:=hk.2 ha;simp only[go_sem,i99,s124,eT pk,h0]
 |false=>
  have h0:¬0<=k:=fun h=>by rw[hk.1 h] at ha;cases ha
  simp only[go_sem,i99,s124,eT pk,h0]
abbrev dgP(f:Int)(ls:ai)(x2 x3 x4 x5 x6:PV):PV:=.box [.int .i64 f,cT ls,x2,x3,x4,x5,x6]
def alR(f:Int)(ls:ai)(x2 x3 x4 x5 x6:PV)(hl:ls.length<=1000000)(hn:x2.norm=x2/\x3.norm=x3/\x4.norm=x4/\x5.norm=x5/\x6.norm=x6):
  aK S 73 [.one (.p (dgP f ls x2 x3 x4 x5 x6))] (rb (!ls.any (dL f))):=by
 have pc:=alo f ls (cT ls) x2 x3 x4 x5 x6 hl ⟨rfl,hn.1,hn.2.1,hn.2.2.1,hn.2.2.2.1,hn.2.2.2.2⟩;refine bk c73 ?_;simp only[go_sem,i73,s99,dZ pc]
def alL(f:Int)(ls:ai)(l0:Let)(x2 x3 x4 x5 x6:PV)(hl:ls.length<=1000000)(h0:ls[0]?=some l0):
  aK S 74 [.one (.p (dgP f ls x2 x3 x4 x5 x6))] (rb (l0.kind==1&&aq Let.aE ls%2==0)):=by
 have pp:=Ye f ls hl;have Av:=iO h0;refine bk c74 ?_;have e2:((((aq Let.aE ls)%2:Nat):Int)==0)=(aq Let.aE ls%2==0):=by
  cases h:(aq Let.aE ls%2==0) with
  |true=>simp at h |-;omega
  |false=>simp at h |-;omega
 cases hk:(l0.kind==1) with
 |true=>simp only[go_sem,i74,Av,Let.ps,hk,s56,eT pp,jX,eO,e2]
 |false=>simp only[go_sem,i74,Av,Let.ps,hk]
def nV(g:Nat)(l:Let):Bool:=l.aE&&l.gate==(g:Int)
abbrev cg(ls:ai)(g:Nat):Nat:=aq (nV g) ls
def sM(ls:ai)(F k:Nat):a_:=(List.range (F+1)).map fun g=>cg (ls.take k) g
def counts(ls:ai)(F:Nat):a_:=(List.range (F+1)).map (cg ls)
def aaY{ls:ai}{k G:Nat}(h:G<=F):(sM ls F k)[G]?=some (cg (ls.take k) G):=by simp[sM,u5 (show G<F+1 by omega)]
def TV(ls:ai)(F:Nat):sM ls F ls.length=counts ls F:=by simp[sM,counts]
def TW(ls:ai)(F:Nat):sM ls F 0=List.replicate (F+1) 0:=by apply yj<;>simp[sM]
def aa0{ls:ai}{k:Nat}{l:Let}(h:ls[k]?=some l)(hp:l.aE=false):sM ls F (k+1)=sM ls F k:=by unfold sM;congr 1;funext g;exact kh h (by simp[nV,hp])
def aaZ{ls:ai}{k G:Nat}{l:Let}(h:ls[k]?=some l)(hp:l.aE=true)(hg:l.gate=(G:Int)):
  sM ls F (k+1)=(sM ls F k).set G (cg (ls.take k) G+1):=by
 apply yj
 .simp[sM]
 intro i h1 h2;rw[LG];simp only[sM,Ei,LF];split
 .rename_i e;subst e;exact sK h (by simp[nV,hp,hg])
 exact kh h (by simp[nV,hg];intro _ e;omega)
def KI(o:a_)(k n:Nat):(nP o).set k [.int .i64 (n:Int)]=nP (o.set k n):=by simp[List.map_set]
def XZ(o:a_):(nP o).length=o.length:=af
def X0(n m:Nat):nP (List.replicate n m)=List.replicate n [.int .i64 (m:Int)]:=af
def Z9(n:Nat)(b:Bool):bP (List.replicate n b)=List.replicate n [.bool b]:=af
def Mi{ls:ai}{k:Nat}{l:Let}(h:ls[k]?=some l)(hp:l.aE=true):dn ls (k+1)= !dn ls k:=by
 unfold dn;rw[sK h hp];cases hc:(aq Let.aE (ls.take k)%2==0) with
 |true=>simp at hc |-;omega
 |false=>simp at hc |-;omega
def Mj{ls:ai}{k:Nat}{l:Let}(h:ls[k]?=some l)(hp:l.aE=false):dn ls (k+1)=dn ls k:=by unfold dn;rw[kh h hp]
def iT(ls:ai)(i:Nat):Bool:=match ls[i]? with|some l=>l.aE&&dn ls i|none=>false
def ur(ls:ai)(k:Nat):m_:=(List.range ls.length).map fun i=>decide (i<k)&&iT ls i
def ll(ls:ai):m_:=(List.range ls.length).map (iT ls)
def alZ(ls:ai):ur ls 0=List.replicate ls.length false:=by apply yj<;>simp[ur]
def alV(ls:ai):ur ls ls.length=ll ls:=by unfold ur ll;apply Bd;intro i hi;simp[gV.1 hi]
def alX(ls:ai)(k:Nat):(ur ls k).length=ls.length:=by simp[ur]
def alY{ls:ai}{k:Nat}{l:Let}(h:ls[k]?=some l)(hp:l.aE=false):ur ls (k+1)=ur ls k:=by
 unfold ur;apply Bd;intro i hi;by_cases e:i=k
 .subst e;simp[iT,h,hp]
 have:(i<k+1)↔(i<k):=aa;simp[this]
def alW{ls:ai}{k:Nat}{l:Let}(h:ls[k]?=some l)(hp:l.aE=true):ur ls (k+1)=(ur ls k).set k (dn ls k):=by
 apply yj
 .simp[ur]
 intro i h1 h2;rw[LG];simp only[ur,Ei,LF];split
 .rename_i e;subst e;simp[iT,h,hp]
 have:(i<k+1)↔(i<k):=aa;simp[this]
def fL(ls:ai)(g:Nat):Nat:=((List.range g).map (cg ls)).sum
def uv(ls:ai)(g:Nat):fL ls (g+1)=fL ls g+cg ls g:=by simp[fL,yn]
def xA(ls:ai)(F k:Nat):a_:=(List.range (F+1)).map fun g=>if g<k then fL ls g else 0
def JE(ls:ai)(F:Nat):a_:=(List.range (F+1)).map (fL ls)
def amW(ls:ai)(F:Nat):xA ls F 0=List.replicate (F+1) 0:=by apply yj<;>simp[xA]
def amT(ls:ai)(F:Nat):xA ls F (F+1)=JE ls F:=by unfold xA JE;apply Bd;intro i hi;simp[gV.1 hi]
def amU(ls:ai)(F k:Nat):(xA ls F k).length=F+1:=by simp[xA]
def amV(ls:ai)(F k:Nat):xA ls F (k+1)=(xA ls F k).set k (fL ls k):=by
 apply yj
 .simp[xA]
 intro i h1 h2;rw[LG];simp only[xA,Ei,LF];by_cases e:k=i
 .subst e;simp
 have:(i<k+1)↔(i<k):=aa;simp only[this,ay e]
def Md{ls:ai}{G:Nat}(h:G<=F):(counts ls F)[G]?=some (cg ls G):=by simp[counts,u5 (show G<F+1 by omega)]
def amX{ls:ai}{G:Nat}(h:G<=F):(JE ls F)[G]?=some (fL ls G):=by simp[JE,u5 (show G<F+1 by omega)]
def Br{ls:ai}{a b:Nat}(h:a<=b):fL ls a<=fL ls b:=by
 induction h with
 |refl=>exact bR _
 |step _ ih=>rw[uv];omega
def ajT(g:Nat)(a:Let):((a.aE&&(decide (0<=a.gate)&&decide (a.gate<((g+1:Nat):Int))))=true)↔((a.aE&&(decide (0<=a.gate)&&decide (a.gate<(g:Int))))=true\/nV g a=true):=by
 simp only[nV,cU,oO,dk];constructor
 .rintro ⟨h1,h2,h3⟩
  by_cases h:a.gate=(g:Int)
  .exact Or.inr ⟨h1,h⟩
  exact Or.inl ⟨h1,h2,aa⟩
 rintro (⟨h1,h2,h3⟩|⟨h1,h2⟩)
 .exact⟨h1,h2,aa⟩
 exact⟨h1,aa,aa⟩
def ajS(g:Nat)(a:Let):(a.aE&&(decide (0<=a.gate)&&decide (a.gate<(g:Int))))=true->nV g a=true->False:=by simp only[nV,cU,oO,dk];omega
def TU{p q r:Let->Bool}(h:∀a,r a=true↔(p a=true\/q a=true))(hn:∀a,p a=true->q a=true->False):∀ls:ai,ls.countP r=ls.countP p+ls.countP q:=by
 intro ls
 induction ls with
 |nil=>rfl
 |cons a ls ih=>rw[xg,xg,xg,ih];have h1:=h a;have h2:=hn a;cases ep:p a<;>cases eq:q a<;>cases er:r a<;>simp_all<;>omega
def ac3(ls:ai):∀g,fL ls g=aq (fun l=>l.aE&&(decide (0<=l.gate)&&decide (l.gate<((g:Nat):Int)))) ls:=by
 intro g
 induction g with
 |zero=>symm;show ls.countP _=0;rw[Lx];intro a _;simp only[cU,oO];omega
 |succ g ih=>rw[uv,ih];exact(TU (ajT g) (ajS g) ls).symm
def V7(ls:ai)(g:Nat):fL ls g<=ls.length:=by rw[ac3];exact sL _ _
def eB(ls:ai)(l:Let):Nat:=fL ls l.gate.toNat+l.aC.toNat-1
def tM(ls:ai)(p i:Nat):Bool:=match ls[i]? with|some l=>l.aE&&eB ls l==p|none=>false
def yf(ls:ai)(T k:Nat):m_:=(List.range T).map fun p=>(List.range k).any (tM ls p)
def axP(ls:ai)(k p:Nat):Nat:=((List.range k).find? (tM ls p)).getD 0
def tE(ls:ai)(T k:Nat):a_:=(List.range T).map (axP ls k)
def Cg(ls:ai)(i:Nat):Nat:=match ls[i]? with|some l=>if l.aE then eB ls l else 0|none=>0
def j8(ls:ai)(k:Nat):a_:=(List.range ls.length).map fun i=>if i<k then Cg ls i else 0
def ub(ls:ai)(i:Nat):Bool:=match ls[i]? with
 |some l=> !l.aE||(decide (1<=l.aC)&&decide (l.aC<=(cg ls l.gate.toNat:Int)))&& !(List.range i).any (tM ls (eB ls l))
 |none=>true
def zq(ls:ai):Bool:=(List.range ls.length).all (ub ls)
def ave(ls:ai)(T:Nat):yf ls T 0=List.replicate T false:=by apply yj<;>simp[yf]
def ajW(ls:ai)(T:Nat):tE ls T 0=List.replicate T 0:=by apply yj<;>simp[tE,axP]
def arS(ls:ai):j8 ls 0=List.replicate ls.length 0:=by apply yj<;>simp[j8]
def Z4(ls:ai)(T k:Nat):(tE ls T k).length=T:=by simp[tE]
def arQ(ls:ai)(k:Nat):(j8 ls k).length=ls.length:=by simp[j8]
def avb{ls:ai}{T k p:Nat}(h:p<T):(yf ls T k)[p]?=some ((List.range k).any (tM ls p)):=by simp[yf,h]
def adW{ls:ai}{k p:Nat}{l:Let}(h:ls[k]?=some l)(hp:l.aE=false):tM ls p k=false:=by simp[tM,h,hp]
def avd{ls:ai}{T k:Nat}{l:Let}(h:ls[k]?=some l)(hp:l.aE=false):yf ls T (k+1)=yf ls T k:=by unfold yf;congr 1;funext p;simp[yn,List.any_append,adW h hp]
def ajV{ls:ai}{T k:Nat}{l:Let}(h:ls[k]?=some l)(hp:l.aE=false):tE ls T (k+1)=tE ls T k:=by unfold tE;congr 1;funext p;simp[axP,yn,List.find?_append,adW h hp]
def arR{ls:ai}{k:Nat}{l:Let}(h:ls[k]?=some l)(hp:l.aE=false):j8 ls (k+1)=j8 ls k:=by
 unfold j8;apply Bd;intro i hi;by_cases e:i=k
 .subst e;simp[Cg,h,hp]
 have:(i<k+1)↔(i<k):=aa;simp[this]
def Ni{ls:ai}{k p:Nat}{l:Let}(h:ls[k]?=some l)(hp:l.aE=true):tM ls p k=(eB ls l==p):=by simp[tM,h,hp]
def avc{ls:ai}{T k:Nat}{l:Let}(h:ls[k]?=some l)(hp:l.aE=true):yf ls T (k+1)=(yf ls T k).set (eB ls l) true:=by
 apply yj
 .simp[yf]
 intro i h1 h2;rw[LG];simp only[yf,Ei,LF,yn,List.any_append,List.any_cons,List.any_nil,Bool.or_false,Ni h hp];split
 .rename_i e;simp[e]
 rename_i e;simp[e]
def ajU{ls:ai}{T k:Nat}{l:Let}(h:ls[k]?=some l)(hp:l.aE=true)(hn:(List.range k).any (tM ls (eB ls l))=false):tE ls T (k+1)=(tE ls T k).set (eB ls l) k:=by
 apply yj
 .simp[tE]
 intro i h1 h2;rw[LG];simp only[tE,Ei,LF,axP,yn,List.find?_append];by_cases e:eB ls l=i
 .have h3:(List.range k).find? (tM ls i)=none:=by
   rw[<- e,ID];intro x hx hq;rw[IA] at hn;exact hn x hx hq
  have h4:tM ls i k=true:=by rw[Ni h hp];simp[e]
  rw[h3,aD e,List.find?_cons,h4];rfl
 have h4:tM ls i k=false:=by rw[Ni h hp];simp[e]
 rw[ay e,List.find?_cons,h4];simp
def arP{ls:ai}{k:Nat}{l:Let}(h:ls[k]?=some l)(hp:l.aE=true):j8 ls (k+1)=(j8 ls k).set k (eB ls l):=by
 apply yj
 .simp[j8]
 intro i h1 h2;rw[LG];simp only[j8,Ei,LF];by_cases e:k=i
 .subst e;simp[Cg,h,hp]
 have:(i<k+1)↔(i<k):=aa;simp only[this,ay e]
def Yp{ls:ai}{k:Nat}(hk:k<ls.length)(h:ub ls k=false):zq ls=false:=by unfold zq;rw[List.all_eq_false];exact⟨k,gV.2 hk,by simp[h]⟩
def asJ{ls:ai}(h:∀i,i<ls.length->ub ls i=true):zq ls=true:=by unfold zq;rw[gO];exact fun i hi=>h i (gV.1 hi)
abbrev IK(id:Nat):Prop:=id=1664320128\/jO id=75
abbrev wx(F:Nat)(ls:ai)(c2 c3 c4 c5 c6:C):f_:=[.p (.int .i64 (F:Int)),.p (cT ls),c2,c3,c4,c5,c6]
abbrev hs(id g n:Nat):C:=.hsl id g 1 0 n
abbrev rY(F:Nat)(ls:ai):Prop:=∀l∈ls,l.aE=true->0<=l.gate/\l.gate<=(F:Int)
def K9(F:Nat)(ls:ai)(g:Nat)(c5:C)(oU:aB)(v:V)(ao:aB):Prop:=
 v=vb (zq ls)/\Kept IK oU ao/\(zq ls=true->∃g1 g2 g3 g5,ao 1664320128=(g,some (.var (wx F ls (hs 4800128448 g2 ls.length) (hs 4801344128 g5 (fL ls (F+1))) (hs 4800192448 g3 ls.length) c5 (hs 4800064448 g1 (F+1)))))/\
  ao 4800064448=(g1,some (.arr 3 1 (nP (counts ls F))))/\ao 4800128448=(g2,some (.arr 4 1 (bP (ll ls))))/\ao 4800192448=(g3,some (.arr 3 1 (nP (j8 ls ls.length))))/\
  ao 4801344128=(g5,some (.arr 3 1 (nP (tE ls (fL ls (F+1)) ls.length)))))
def rk3{al:Al}(okD:al.ok 1664320128=true)(ok:∀id,jO id=75->al.ok id=true){oU aj:aB}{ak:Env}{g g1 g2 g3 g4 F:Nat}{ls:ai}{c3 c5:C}(hl:ls.length<=1000000)(hF:F<=1000000)(hg:rY F ls)
  (h0:ak 0=.one (.aZ 1664320128 g 0)) (h6:ak 6=.one (hs 4800832384 g4 (F+1))) (h7:ak 7=vi (fL ls (F+1)))
  (bD:aj 1664320128=(g,some (.var (wx F ls (hs 4800128448 g2 ls.length) c3 (hs 4800192448 g3 ls.length) c5 (hs 4800064448 g1 (F+1))))))
  (bC:aj 4800064448=(g1,some (.arr 3 1 (nP (counts ls F))))) (bW:aj 4800128448=(g2,some (.arr 4 1 (bP (ll ls))))) (qy:aj 4800192448=(g3,some (.arr 3 1 (nP (j8 ls 0)))))
  (bF:aj 4800832384=(g4,some (.arr 3 1 (nP (JE ls F))))) (hk:Kept IK oU aj):W S al i75_r5 (nj al [(2,none)] (K9 F ls g c5 oU)) ak aj:=by
 have o1:=ok 4800064448 rfl;have o2:=ok 4800128448 rfl;have o3:=ok 4800192448 rfl;have o4:=ok 4800448192 rfl;have o5:=ok 4800832384 rfl;have o6:=ok 4801344128 rfl;have o7:=ok 4801408064 rfl;have o8:=ok 4801600192 rfl;have hT:=V7 ls (F+1);have NP:fL ls (F+1)*8<=140737488355328:=aa;have jV:fL ls (F+1)<=140737488355328:=aa;simp only[go_sem,i75_r5,h0,h7,bD,NP,jV,okD,o6,o7];refine dy (fun k ak ao=>ak 0=.one (.aZ 1664320128 g 0)/\ak 6=.one (hs 4800832384 g4 (F+1))/\ak 10=.one (hs 4801408064 ((aj 4801408064).1+1) (fL ls (F+1)))/\ak 114=.one (.p (cT ls))/\ak 115=vi ls.length/\ak 116=vi k/\
  ao 1664320128=(g,some (.var (wx F ls (hs 4800128448 g2 ls.length) (hs 4801344128 ((aj 4801344128).1+1) (fL ls (F+1))) (hs 4800192448 g3 ls.length) c5 (hs 4800064448 g1 (F+1)))))/\
  ao 4800064448=(g1,some (.arr 3 1 (nP (counts ls F))))/\ao 4800128448=(g2,some (.arr 4 1 (bP (ll ls))))/\ao 4800192448=(g3,some (.arr 3 1 (nP (j8 ls k))))/\
  ao 4800832384=(g4,some (.arr 3 1 (nP (JE ls F))))/\ao 4801344128=((aj 4801344128).1+1,some (.arr 3 1 (nP (tE ls (fL ls (F+1)) k))))/\ao 4801408064=((aj 4801408064).1+1,some (.arr 4 1 (bP (yf ls (fL ls (F+1)) k))))/\
  (∀i,i<k->ub ls i=true)/\Kept IK oU ao) 0 ls.length (bG _) ?_ ?_
 .simp only[go_sem,h0,h6,bC,bW,qy,bF,ajW,ave,X0,Z9];refine⟨rfl,rfl,fun i h=>absurd h (oN i),?_⟩;repeat(first|exact hk|refine Kept.dU ?_ (by first|exact Or.inl rfl|exact Or.inr rfl) _)
 rintro k ak ao hk ⟨h0,h6,ff,MO,JN,EZ,bD,bC,bW,qy,bF,bA,bT,au,dK⟩
 by_cases aw:k<ls.length
 .obtain⟨l,eH⟩:=aM aw;have hi:=iO eH;have aL:((k:Int)<(ls.length:Int)):=aa;have w1:=cS (n:=k) aa;cases hp:(l.kind==1) with
  |false=>
   have gn:l.aE=false:=hp;have mw:(l.kind !=1)=true:=by simp[bne,hp]
   have my:ub ls k=true:=by simp[ub,eH,gn]
   simp only[go_sem,i75_l3,h0,h6,ff,MO,JN,EZ,bD,bC,bW,bF,qy,bA,bT,hi,Let.ps,aL,mw,w1,o8];refine⟨aw,?_,?_,?_,?_,?_⟩
   .rw[arR eH gn]
   .rw[ajV eH gn]
   .rw[avd eH gn]
   .intro i hi;rcases nN.1 hi with h|rfl
    .exact au i h
    exact my
   repeat(first|exact dK|refine Kept.dU ?_ (by first|exact Or.inl rfl|exact Or.inr rfl) _)
  |true=>
   have gn:l.aE=true:=hp;have mw:(l.kind !=1)=false:=by simp[bne,hp]
   obtain⟨Hq,Dt⟩:=hg l (aV eH) gn;obtain⟨G,hG⟩:=tA Hq;have JQ:G<=F:=aa;have Hd:G<F+1:=aa;have vv:=kE (Md (ls:=ls) JQ);have Bx:=kE (amX (ls:=ls) JQ);have qF:l.gate.toNat=G:=aa;cases r1:decide (l.aC<1) with
   |true=>have tn:l.aC<1:=qu r1;have r1n:¬1<=l.aC:=aa;have dM:=Yp aw (show ub ls k=false by simp[ub,eH,gn,r1n]);simp only[go_sem,i75_l3,MO,JN,EZ,hi,Let.ps,aL,mw,tn,o8];refine⟨aJ,?_⟩;unfold K9;refine⟨by rw[dM],?_,fun h=>by rw[dM] at h;cases h⟩;repeat(first|exact dK|refine Kept.dU ?_ (by first|exact Or.inl rfl|exact Or.inr rfl) _)
   |false=>
    have tn:¬l.aC<1:=ib r1;obtain⟨R,hR⟩:=tA (show 0<=l.aC by omega);have r1R:¬((R:Int)<1):=aa;cases r2:decide ((cg ls G:Int)<(R:Int)) with
    |true=>
     have ua:(cg ls G:Int)<(R:Int):=qu r2;have r2n:¬l.aC<=(cg ls l.gate.toNat:Int):=by rw[qF];omega
     have dM:=Yp aw (show ub ls k=false by simp[ub,eH,gn,r2n]);simp only[go_sem,i75_l3,h0,MO,JN,EZ,bD,bC,hi,Let.ps,aL,mw,hR,hG,r1R,ua,vv,Hd,okD,o1,o8];refine⟨aJ,?_⟩;unfold K9;refine⟨by rw[dM],?_,fun h=>by rw[dM] at h;cases h⟩;repeat(first|exact dK|refine Kept.dU ?_ (by first|exact Or.inl rfl|exact Or.inr rfl) _)
    |false=>
     have ua:¬(cg ls G:Int)<(R:Int):=ib r2;have hfle:=V7 ls G;have hmono:=Br (ls:=ls) (show G+1<=F+1 by omega);have xI:=uv ls G;have hPT:eB ls l<fL ls (F+1):=by unfold eB;rw[qF];omega
     have bY:fL ls G+R-1=eB ls l:=by unfold eB;rw[qF];omega
     have bN:cg ls G<=ls.length:=sL _ _;have w2:=wrap_add (a:=fL ls G) (b:=R) aa;have w3:=Iu (a:=fL ls G+R) aa aa;rw[bY] at w3;have HF:=tF (avb (ls:=ls) (k:=k) hPT);cases hu:(List.range k).any (tM ls (eB ls l)) with
     |true=>rw[hu] at HF;have dM:=Yp aw (show ub ls k=false by simp[ub,eH,gn,hu]);simp only[go_sem,i75_l3,h0,h6,ff,MO,JN,EZ,bD,bC,bF,bT,hi,Let.ps,aL,mw,hR,hG,r1R,ua,vv,Bx,Hd,w2,w3,HF,hPT,okD,o1,o5,o7,o8];refine⟨aJ,aJ,?_⟩;unfold K9;refine⟨by rw[dM],?_,fun h=>by rw[dM] at h;cases h⟩;repeat(first|exact dK|refine Kept.dU ?_ (by first|exact Or.inl rfl|exact Or.inr rfl) _)
     |false=>
      rw[hu] at HF;have my:ub ls k=true:=by
       have e1:1<=l.aC:=aa;have e2:l.aC<=(cg ls l.gate.toNat:Int):=by rw[qF];omega
       simp[ub,eH,e1,e2,hu]
      obtain⟨a0,xF⟩:=aM (show eB ls l<(tE ls (fL ls (F+1)) k).length by rw[Z4];exact hPT);obtain⟨p0,xO⟩:=aM (show k<(j8 ls k).length by rw[arQ];exact aw);have xF:=kE xF;have xO:=kE xO;have s1:=Jb (yf ls (fL ls (F+1)) k) (eB ls l) true;rw[<- avc eH gn] at s1;have s2:=KI (tE ls (fL ls (F+1)) k) (eB ls l) k;rw[<- ajU eH gn hu] at s2;have s3:=KI (j8 ls k) k (eB ls l);rw[<- arP eH gn] at s3;simp only[go_sem,i75_l3,h0,h6,ff,MO,JN,EZ,bD,bC,bW,bF,qy,bA,bT,hi,Let.ps,aL,aw,mw,w1,hR,hG,r1R,ua,vv,Bx,Hd,w2,w3,HF,hPT,xF,xO,s1,s2,s3,okD,o1,o3,o5,o6,o7,o8];refine⟨aJ,aJ,aJ,?_,?_⟩
      .intro i hi;rcases nN.1 hi with h|rfl
       .exact au i h
       exact my
      repeat(first|exact dK|refine Kept.dU ?_ (by first|exact Or.inl rfl|exact Or.inr rfl) _)
 have:k=ls.length:=aa;subst this;have hr:=asJ au;simp only[go_sem,i75_l3,i75_r4,JN,EZ,eI];exact⟨by rw[hr],dK,fun _=>⟨g1,g2,g3,(aj 4801344128).1+1,bD,bC,bW,qy,bA⟩⟩
def rk2{al:Al}(okD:al.ok 1664320128=true)(ok:∀id,jO id=75->al.ok id=true){oU aj:aB}{ak:Env}{g g1 g2 g3 F:Nat}{ls:ai}{c3 c5:C}(hl:ls.length<=1000000)(hF:F<=1000000)(hg:rY F ls)
  (h0:ak 0=.one (.aZ 1664320128 g 0))
  (bD:aj 1664320128=(g,some (.var (wx F ls (hs 4800128448 g2 ls.length) c3 (hs 4800192448 g3 ls.length) c5 (hs 4800064448 g1 (F+1))))))
  (bC:aj 4800064448=(g1,some (.arr 3 1 (nP (counts ls F))))) (bW:aj 4800128448=(g2,some (.arr 4 1 (bP (ll ls))))) (qy:aj 4800192448=(g3,some (.arr 3 1 (nP (j8 ls 0)))))
  (hk:Kept IK oU aj):W S al i75_r6 (nj al [(2,none)] (K9 F ls g c5 oU)) ak aj:=by
 have o1:=ok 4800064448 rfl;have o2:=ok 4800128448 rfl;have o3:=ok 4800192448 rfl;have o4:=ok 4800448192 rfl;have o5:=ok 4800832384 rfl;have o6:=ok 4801344128 rfl;have o7:=ok 4801408064 rfl;have o8:=ok 4801600192 rfl;have NP:(F+1)*8<=140737488355328:=aa;have wF:=cS (n:=F) aa;simp only[go_sem,i75_r6,h0,bD,wF,NP,okD,o5];refine dy (fun k ak ao=>ak 0=.one (.aZ 1664320128 g 0)/\ak 6=.one (hs 4800832384 ((aj 4800832384).1+1) (F+1))/\ak 7=vi (fL ls k)/\ak 88=.one (hs 4800064448 g1 (F+1))/\ak 89=vi ((F+1:Nat):Int)/\ak 90=vi k/\
  ao 1664320128=(g,some (.var (wx F ls (hs 4800128448 g2 ls.length) c3 (hs 4800192448 g3 ls.length) c5 (hs 4800064448 g1 (F+1)))))/\
  ao 4800064448=(g1,some (.arr 3 1 (nP (counts ls F))))/\ao 4800128448=(g2,some (.arr 4 1 (bP (ll ls))))/\ao 4800192448=(g3,some (.arr 3 1 (nP (j8 ls 0))))/\
  ao 4800832384=((aj 4800832384).1+1,some (.arr 3 1 (nP (xA ls F k))))/\Kept IK oU ao) 0 (F+1) (bG _) ?_ ?_
 .simp only[go_sem,h0,bD,bC,bW,qy,amW,X0];refine⟨rfl,rfl,rfl,?_⟩;repeat(first|exact hk|refine Kept.dU ?_ (by first|exact Or.inl rfl|exact Or.inr rfl) _)
 rintro k ak ao hk ⟨h0,h6,h7,h88,h89,h90,bD,bC,bW,qy,bF,dK⟩
 by_cases aw:k<F+1
 .have aL:((k:Int)<((F+1:Nat):Int)):=aa;have w1:=cS (n:=k) aa;have hc:=kE (Md (ls:=ls) (show k<=F by omega));obtain⟨a0,ha⟩:=aM (show k<(xA ls F k).length by rw[amU];exact aw);have ha:=kE ha;have s1:=KI (xA ls F k) k (fL ls k);rw[<- amV] at s1;have hs:=uv ls k;have hle:=V7 ls (k+1);have w2:=wrap_add (a:=fL ls k) (b:=cg ls k) aa;rw[<- hs] at w2;simp only[go_sem,i75_l2,h0,h6,h7,h88,h89,h90,bD,bC,bW,qy,bF,aw,aL,hc,ha,s1,w1,w2,o1,o5];repeat(first|exact dK|refine Kept.dU ?_ (by first|exact Or.inl rfl|exact Or.inr rfl) _)
 have:k=F+1:=aa;subst this;simp only[go_sem,i75_l2,h89,h90,eI];exact rk3 okD ok hl hF hg h0 h6 h7 bD bC bW qy (by rw[bF,amT]) dK
def asI{al:Al}(okD:al.ok 1664320128=true)(ok:∀id,jO id=75->al.ok id=true){aj:aB}{g F:Nat}{ls:ai}{c2 c3 c4 c5 c6:C}(hl:ls.length<=1000000)(hF:F<=1000000)(hg:rY F ls)
  (bD:aj 1664320128=(g,some (.var (wx F ls c2 c3 c4 c5 c6)))):∃v ao,jm S 75 [.one (.aZ 1664320128 g 0)] al aj v ao/\K9 F ls g c5 aj v ao:=by
 have o1:=ok 4800064448 rfl;have o2:=ok 4800128448 rfl;have o3:=ok 4800192448 rfl;have o4:=ok 4800448192 rfl;have o5:=ok 4800832384 rfl;have o6:=ok 4801344128 rfl;have o7:=ok 4801408064 rfl;have o8:=ok 4801600192 rfl;refine nT c75 (iA rfl) ?_;have NP:(F+1)*8<=140737488355328:=aa;have hn8:ls.length*8<=140737488355328:=aa;have jk:ls.length<=140737488355328:=aa;have wF:=cS (n:=F) aa;simp only[go_sem,i75,bD,wF,NP,hn8,jk,okD,o1,o2,o3];refine dy (fun k ak ao=>ak 0=.one (.aZ 1664320128 g 0)/\ak 3=vb (dn ls k)/\ak 48=.one (.p (cT ls))/\ak 49=vi ls.length/\ak 50=vi k/\
  ao 1664320128=(g,some (.var (wx F ls (hs 4800128448 ((aj 4800128448).1+1) ls.length) c3 (hs 4800192448 ((aj 4800192448).1+1) ls.length) c5 (hs 4800064448 ((aj 4800064448).1+1) (F+1)))))/\
  ao 4800064448=((aj 4800064448).1+1,some (.arr 3 1 (nP (sM ls F k))))/\ao 4800128448=((aj 4800128448).1+1,some (.arr 4 1 (bP (ur ls k))))/\ao 4800192448=((aj 4800192448).1+1,some (.arr 3 1 (nP (j8 ls 0))))/\
  Kept IK aj ao) 0 ls.length (bG _) ?_ ?_
 .simp only[go_sem,bD,TW,alZ,arS,X0,Z9];refine⟨rfl,rfl,rfl,rfl,?_⟩;repeat(first|exact(Kept.refl _ _)|refine Kept.dU ?_ (by first|exact Or.inl rfl|exact Or.inr rfl) _)
 rintro k ak ao hk ⟨h0,h3,yI,h49,h50,bD,bC,bW,qy,dK⟩
 by_cases aw:k<ls.length
 .obtain⟨l,eH⟩:=aM aw;have hi:=iO eH;have aL:((k:Int)<(ls.length:Int)):=aa;have w1:=cS (n:=k) aa;cases hp:(l.kind==1) with
  |false=>
   have gn:l.aE=false:=hp;simp only[go_sem,i75_l1,h0,h3,yI,h49,h50,bD,bC,bW,qy,hi,Let.ps,aL,hp,w1,o4];refine⟨aw,?_,?_,?_,?_⟩
   .rw[Mj eH gn]
   .rw[aa0 eH gn]
   .rw[alY eH gn]
   repeat(first|exact dK|refine Kept.dU ?_ (by first|exact Or.inl rfl|exact Or.inr rfl) _)
  |true=>have gn:l.aE=true:=hp;obtain⟨Hq,Dt⟩:=hg l (aV eH) gn;obtain⟨G,hG⟩:=tA Hq;have JQ:G<=F:=aa;have Hd:G<F+1:=aa;have vv:=kE (aaY (ls:=ls) (k:=k) JQ);have bN:cg (ls.take k) G<=k:=zS _ _ _;have w2:=cS (n:=cg (ls.take k) G) aa;have s1:=KI (sM ls F k) G (cg (ls.take k) G+1);rw[<- aaZ eH gn hG] at s1;obtain⟨b0,hb⟩:=aM (show k<(ur ls k).length by rw[alX];exact aw);have hb:=tF hb;have s2:=Jb (ur ls k) k (dn ls k);rw[<- alW eH gn] at s2;have hd:=Mi eH gn;simp only[go_sem,i75_l1,h0,h3,yI,h49,h50,bD,bC,bW,qy,hi,Let.ps,aL,aw,hp,w1,hG,vv,Hd,w2,s1,hb,s2,hd,okD,o1,o2,o4];refine⟨aJ,?_⟩;repeat(first|exact dK|refine Kept.dU ?_ (by first|exact Or.inl rfl|exact Or.inr rfl) _)
 have:k=ls.length:=aa;subst this;simp only[go_sem,i75_l1,h49,h50,eI];exact rk2 okD ok hl hF hg h0 bD (by rw[bC,TV]) (by rw[bW,alV]) qy dK
def r6(ls:ai)(id:Int)(o:Bool)(j:Nat):Bool:=match ls[j]? with|some m=>m.aA&&(m.id==id&&m.over==o)|none=>false
def hU(ls:ai)(k:Nat)(id:Int)(o:Bool):w_:=(List.range k).find? (r6 ls id o)
def Ct:w_->Int
 |some j=>j
 |none=> -1
def fi(ls:ai):Nat->d_
 |0=>[]
 |k+1=>match ls[k]? with
  |some l=>if l.aA&& !(fi ls k).contains l.id then fi ls k++[l.id] else fi ls k
  |none=>fi ls k
def rV(ls:ai)(k:Nat)(id:Int):b_:=[.int .i64 (Ct (hU ls k id false)),.int .i64 (Ct (hU ls k id true))]
def qM(ls:ai)(k:Nat):t_:=(fi ls k).map fun id=>(PV.int .i64 id,rV ls k id)
def D0(ls:ai)(j:Nat):Int:=((ls[j]?).map Let.sign).getD 0
def nM(ls:ai)(n2:Nat)(k:Nat):Bool:=match ls[k]? with
 |some l=> !l.aA||((decide (1<=l.id)&&decide (l.id<=(n2:Int)))&&((hU ls k l.id l.over).isNone&&(match hU ls k l.id (!l.over) with|some j=>D0 ls j==l.sign|none=>true)))
 |none=>true
def mO(ls:ai):Bool:=(aq Let.aA ls%2==0)&&(List.range ls.length).all (nM ls (aq Let.aA ls/2))&&((fi ls ls.length).length==aq Let.aA ls/2)
def Ka{ls:ai}{k:Nat}{l:Let}(h:ls[k]?=some l)(hc:l.aA=true)(id:Int)(o:Bool):r6 ls id o k=(l.id==id&&l.over==o):=by simp[r6,h,hc]
def ad4{ls:ai}{k:Nat}{l:Let}(h:ls[k]?=some l)(hc:l.aA=false)(id:Int)(o:Bool):r6 ls id o k=false:=by simp[r6,h,hc]
def SF(ls:ai)(k:Nat)(id:Int)(o:Bool):hU ls (k+1) id o=(hU ls k id o).or (if r6 ls id o k then some k else none):=by simp only[hU,yn,List.find?_append,List.find?_cons,List.find?_nil];cases r6 ls id o k<;>rfl
def Ir{ls:ai}{k:Nat}{id:Int}{o:Bool}{j:Nat}(h:hU ls k id o=some j):j<k/\r6 ls id o j=true:=
 ⟨gV.1 (IH h),Lz h⟩
def BB{ls:ai}{id:Int}{o:Bool}{j:Nat}(h:r6 ls id o j=true):∃m,ls[j]?=some m/\m.aA=true/\m.id=id/\m.over=o:=by
 unfold r6 at h;split at h
 .rename_i m hm;simp only[cU,dk] at h;exact⟨m,hm,h.1,h.2.1,h.2.2⟩
 cases h
def OQ{ls:ai}{k:Nat}{id:Int}{o:Bool}(h:hU ls k id o=none){j:Nat}(hj:j<k):r6 ls id o j=false:=by
 have:=ID.1 h j (gV.2 hj)
 simpa using this
def aer{ls:ai}{k:Nat}{l:Let}(h:ls[k]?=some l)(hc:l.aA=false):fi ls (k+1)=fi ls k:=by simp[fi,h,hc]
def aes{ls:ai}{k:Nat}{l:Let}(h:ls[k]?=some l)(hc:l.aA=true)(hn:l.id∉fi ls k):fi ls (k+1)=fi ls k++[l.id]:=by simp[fi,h,hc,hn]
def aet{ls:ai}{k:Nat}{l:Let}(h:ls[k]?=some l)(hn:l.id∈fi ls k):fi ls (k+1)=fi ls k:=by simp[fi,h,hn]
def aqH{ls:ai}{k:Nat}{l:Let}(h:ls[k]?=some l)(hc:l.aA=false):qM ls (k+1)=qM ls k:=by unfold qM rV;rw[aer h hc];simp[SF,ad4 h hc]
def apb{ls:ai}{id:Int}:∀(k:Nat),k<=ls.length->(id∈fi ls k↔ ∃j o,j<k/\r6 ls id o j=true):=by
 intro k
 induction k with
 |zero=>intro _;simp[fi]
 |succ k ih=>
  intro hk;obtain⟨l,hl⟩:=aM (show k<ls.length by omega);have ih:=ih aa;have old:(∃j o,j<k/\r6 ls id o j=true)->∃j o,j<k+1/\r6 ls id o j=true:=fun⟨j,o,h1,h2⟩=>⟨j,o,aa,h2⟩;cases hc:l.aA with
  |false=>
   rw[aer hl hc,ih];refine⟨old,?_⟩;rintro ⟨j,o,h1,h2⟩
   rcases nN.1 h1 with h|rfl
   .exact⟨j,o,h,h2⟩
   rw[ad4 hl hc] at h2;cases h2
  |true=>
   have key:id∈fi ls (k+1)↔(id∈fi ls k\/id=l.id):=by
    by_cases hm:l.id∈fi ls k
    .rw[aet hl hm];exact⟨Or.inl,fun h=>h.elim fh (fun e=>e▸hm)⟩
    rw[aes hl hc hm];simp
   rw[key,ih];constructor
   .rintro (h|rfl)
    .exact old h
    exact⟨k,l.over,aa,by rw[Ka hl hc];simp⟩
   rintro ⟨j,o,h1,h2⟩
   rcases nN.1 h1 with h|rfl
   .exact Or.inl ⟨j,o,h,h2⟩
   rw[Ka hl hc] at h2;simp only[cU,dk] at h2;exact Or.inr h2.1.symm
where fh {p:Prop} (h:p):p:=h
def HM{ls:ai}{id:Int}{k:Nat}(h:k<=ls.length):id∈fi ls k↔ ∃j o,j<k/\r6 ls id o j=true:=apb k h
def QN(ls:ai):∀k,(fi ls k).Nodup:=by
 intro k
 induction k with
 |zero=>simp[fi]
 |succ k ih=>
  unfold fi;split
  .split
   .rename_i h;simp only[cU,mj,List.contains_eq_mem,decide_eq_false_iff_not] at h;rw[Gf];refine⟨ih,af,?_⟩;intro a ha b hb;simp only[k9] at hb;subst hb;rintro rfl
    exact h.2 ha
   exact ih
  exact ih
def avG{ls:ai}{k:Nat}(hk:k<=ls.length){id:Int}(h:id∉fi ls k)(o:Bool):hU ls k id o=none:=by
 cases hv:hU ls k id o with
 |none=>rfl
 |some j=>obtain⟨h1,h2⟩:=Ir hv;exact absurd ((HM hk).2 ⟨j,o,h1,h2⟩) h
def aix{ls:ai}{k:Nat}(hk:k<=ls.length){id:Int}(h:id∈fi ls k)(o:Bool)(hn:hU ls k id o=none):∃j m,hU ls k id (!o)=some j/\ls[j]?=some m/\j<k:=by
 obtain⟨j,o',h1,h2⟩:=(HM hk).1 h;by_cases e:o'=o
 .subst e;rw[OQ hn h1] at h2;cases h2
 have e:o'= !o:=by cases o<;>cases o'<;>simp_all
 subst e;cases hv:hU ls k id (!o) with
 |none=>rw[OQ hv h1] at h2;cases h2
 |some i=>obtain⟨h3,h4⟩:=Ir hv;obtain⟨m,hm,_⟩:=BB h4;exact⟨i,m,rfl,hm,h3⟩
def aiy{ls:ai}{k:Nat}{l:Let}(h:ls[k]?=some l)(hc:l.aA=true){id:Int}(hn:¬l.id=id)(o:Bool):hU ls (k+1) id o=hU ls k id o:=by rw[SF,Ka h hc];simp[hn]
def YZ{ls:ai}{k:Nat}{l:Let}(h:ls[k]?=some l)(hc:l.aA=true)(hn:hU ls k l.id l.over=none):hU ls (k+1) l.id l.over=some k:=by rw[SF,Ka h hc,hn];simp
def YY{ls:ai}{k:Nat}{l:Let}(h:ls[k]?=some l)(hc:l.aA=true):hU ls (k+1) l.id (!l.over)=hU ls k l.id (!l.over):=by rw[SF,Ka h hc];cases l.over<;>simp
def abB{ls:ai}{k:Nat}{l:Let}(h:ls[k]?=some l)(hc:l.aA=true){id:Int}(hn:¬l.id=id):rV ls (k+1) id=rV ls k id:=by unfold rV;rw[aiy h hc hn,aiy h hc hn]
def aqI{ls:ai}{k:Nat}{l:Let}(h:ls[k]?=some l)(hc:l.aA=true)(hn:l.id∉fi ls k):qM ls (k+1)=qM ls k++[(.int .i64 l.id,rV ls (k+1) l.id)]:=by unfold qM;rw[aes h hc hn,kZ];congr 1;apply Bd;intro id hid;rw[abB h hc (by rintro rfl;exact hn hid)]
def aqJ{ls:ai}{k:Nat}{l:Let}(h:ls[k]?=some l)(hc:l.aA=true)(hn:l.id∈fi ls k):qM ls (k+1)=(qM ls k).set ((fi ls k).idxOf l.id) (.int .i64 l.id,rV ls (k+1) l.id):=by
 unfold qM;rw[aet h hn];apply yj
 .simp
 intro i h1 h2;rw[LG];simp only[cM] at h1;by_cases e:(fi ls k).idxOf l.id=i
 .subst e;simp only[Ei,aD,List.getElem_idxOf]
 rw[ay e];simp only[Ei];rw[abB h hc];intro e2;apply e;rw[e2];exact(QN ls k).idxOf_getElem i h1
def ac0(ls:ai)(k:Nat)(q:Int):qC (.int .i64 q) (qM ls k) 0=some (if q∈fi ls k then some ((fi ls k).idxOf q,rV ls k q) else none):=by unfold qM;rw[amQ];simp
def Jp{ls:ai}{k:Nat}(hk:k<ls.length)(h:nM ls (aq Let.aA ls/2) k=false):mO ls=false:=by have:(List.range ls.length).all (nM ls (aq Let.aA ls/2))=false:=List.all_eq_false.2 ⟨k,gV.2 hk,by simp[h]⟩;simp[mO,this]
def T0{ls:ai}(he:aq Let.aA ls%2=0)(h:∀i,i<ls.length->nM ls (aq Let.aA ls/2) i=true):mO ls=((fi ls ls.length).length==aq Let.aA ls/2):=by have:(List.range ls.length).all (nM ls (aq Let.aA ls/2))=true:=gO.2 fun i hi=>h i (gV.1 hi);simp[mO,this,he]
abbrev Zm(id:Nat):Prop:=id=1664320128\/jO id=76
def Iy(F:Nat)(ls:ai)(g:Nat)(c2 c3 c4 c6:C)(oU:aB)(v:V)(ao:aB):Prop:=v=vb (mO ls)/\Kept Zm oU ao/\(mO ls=true->∃g1,ao 1664320128=(g,some (.var (wx F ls c2 c3 c4 (.kU 4864256064 g1) c6)))/\ao 4864256064=(g1,some (.map true (qM ls ls.length))))
def ge0(j:Nat):decide ((0:Int)<=(j:Int))=true:=Bg aa
def wr0:IntKind.i64.wrap 0=0:=ae
def wr1:IntKind.i64.wrap 1=1:=ae
def KJ:((-1:Int)≥0)=False:=af
def neg1':((0:Int)<= -1)=False:=af
def alN{al:Al}(okD:al.ok 1664320128=true)(ok:∀id,jO id=76->al.ok id=true){aj:aB}{g F:Nat}{ls:ai}{c2 c3 c4 c5 c6:C}(hl:ls.length<=1000000)
  (bD:aj 1664320128=(g,some (.var (wx F ls c2 c3 c4 c5 c6)))):∃v ao,jm S 76 [.one (.aZ 1664320128 g 0)] al aj v ao/\Iy F ls g c2 c3 c4 c6 aj v ao:=by
 have o1:=ok 4864256064 rfl;have o2:=ok 4864448192 rfl;have o3:=ok 4864704640 rfl;refine nT c76 (iA rfl) ?_;have pc:=T1 F ls hl;have bN:aq Let.aA ls<=ls.length:=sL _ _;cases he:(((aq Let.aA ls%2:Nat):Int)!=0) with
 |true=>
  have dM:mO ls=false:=by
   have:(aq Let.aA ls%2==0)=false:=by simp at he |-;omega
   simp[mO,this]
  simp only[go_sem,i76,bD,s48,MG pc,jX,eO,he,okD];exact⟨by rw[dM],Kept.refl _ _,fun h=>by rw[dM] at h;cases h⟩
 |false=>
  have he0:aq Let.aA ls%2=0:=by simp at he;omega
  simp only[go_sem,i76,bD,s48,MG pc,jX,eO,he,okD,o1];refine dy (fun k ak ao=>ak 0=.one (.aZ 1664320128 g 0)/\ak 3=vi (aq Let.aA ls)/\ak 25=.one (.p (cT ls))/\ak 26=vi ls.length/\ak 27=vi k/\
   ao 1664320128=(g,some (.var (wx F ls c2 c3 c4 (.kU 4864256064 ((aj 4864256064).1+1)) c6)))/\ao 4864256064=((aj 4864256064).1+1,some (.map true (qM ls k)))/\
   (∀i,i<k->nM ls (aq Let.aA ls/2) i=true)/\Kept Zm aj ao) 0 ls.length (bG _) ?_ ?_
  .simp only[go_sem,bD];refine⟨rfl,rfl,fun i h=>absurd h (oN i),?_⟩;repeat(first|exact(Kept.refl _ _)|refine Kept.dU ?_ (by first|exact Or.inl rfl|exact Or.inr rfl) _)
  rintro k ak ao hk ⟨h0,h3,nv,yG,yH,bD,bM,au,dK⟩
  have wq:IntKind.i64.wrap ((aq Let.aA ls/2:Nat):Int)=((aq Let.aA ls/2:Nat):Int):=wrap_small aa;by_cases aw:k<ls.length
  .obtain⟨l,eH⟩:=aM aw;have hi:=iO eH;have aL:((k:Int)<(ls.length:Int)):=aa;have w1:=cS (n:=k) aa;cases hc:(l.kind==2) with
   |false=>
    have jw:l.aA=false:=hc;have hp:(l.kind !=2)=true:=by simp[bne,hc]
    have my:nM ls (aq Let.aA ls/2) k=true:=by simp[nM,eH,jw]
    simp only[go_sem,i76_l1,h0,h3,nv,yG,yH,bD,bM,hi,Let.ps,aL,hp,w1,o2];refine⟨aw,?_,?_,?_⟩
    .rw[aqH eH jw]
    .intro i hi;rcases nN.1 hi with h|rfl
     .exact au i h
     exact my
    repeat(first|exact dK|refine Kept.dU ?_ (by first|exact Or.inl rfl|exact Or.inr rfl) _)
   |true=>
    have jw:l.aA=true:=hc;have hp:(l.kind !=2)=false:=by simp[bne,hc]
    cases r1:decide (l.id<1) with
    |true=>have tn:l.id<1:=qu r1;have r1n:¬1<=l.id:=aa;have dM:=Jp aw (show nM ls (aq Let.aA ls/2) k=false by simp[nM,eH,jw,r1n]);simp only[go_sem,i76_l1,nv,yG,yH,hi,Let.ps,aL,hp,tn,o2];unfold Iy;refine⟨by rw[dM],?_,fun h=>by rw[dM] at h;cases h⟩;repeat(first|exact dK|refine Kept.dU ?_ (by first|exact Or.inl rfl|exact Or.inr rfl) _)
    |false=>
     have tn:¬l.id<1:=ib r1;have r1y:1<=l.id:=aa;cases r2:decide (((aq Let.aA ls/2:Nat):Int)<l.id) with
     |true=>have ua:((aq Let.aA ls/2:Nat):Int)<l.id:=qu r2;have r2n:¬l.id<=((aq Let.aA ls/2:Nat):Int):=aa;have dM:=Jp aw (show nM ls (aq Let.aA ls/2) k=false by simp only[nM,eH,jw,r2n];simp);simp only[go_sem,i76_l1,h3,nv,yG,yH,hi,Let.ps,aL,hp,tn,ua,fR,eO,wq,o2];unfold Iy;refine⟨by rw[dM],?_,fun h=>by rw[dM] at h;cases h⟩;repeat(first|exact dK|refine Kept.dU ?_ (by first|exact Or.inl rfl|exact Or.inr rfl) _)
     |false=>
      have ua:¬((aq Let.aA ls/2:Nat):Int)<l.id:=ib r2;have r2y:l.id<=((aq Let.aA ls/2:Nat):Int):=aa;have hf:=ac0 ls k l.id;have pJ:nM ls (aq Let.aA ls/2) k=((hU ls k l.id l.over).isNone&&(match hU ls k l.id (!l.over) with|some j=>D0 ls j==l.sign|none=>true)):=by simp only[nM,eH,jw,r1y,r2y,decide_true];rfl
      by_cases hm:l.id∈fi ls k
      .rw[aD hm] at hf;obtain⟨e0,hse⟩:=aM (show(fi ls k).idxOf l.id<(qM ls k).length by simp[qM];exact List.idxOf_lt_length_of_mem hm);have BH:=aqJ eH jw hm;have Ng:rV ls k l.id=[.int .i64 (Ct (hU ls k l.id false)),.int .i64 (Ct (hU ls k l.id true))]:=rfl;rw[Ng] at hf;cases ho:l.over with
       |true=>
        cases hv:hU ls k l.id true with
        |some j=>have dM:=Jp aw (show nM ls (aq Let.aA ls/2) k=false by rw[pJ,ho,hv];rfl);rw[hv] at hf;simp only[Ct] at hf;simp only[go_sem,i76_l1,h0,h3,nv,yG,yH,bD,bM,hi,Let.ps,aL,hp,tn,ua,fR,eO,wq,hf,ho,ge0,mapOf,mapVal,iZ,Int.reduceNeg,okD,o1,o2,o3];refine⟨aJ,aJ,?_⟩;unfold Iy;refine⟨by rw[dM],?_,fun h=>by rw[dM] at h;cases h⟩;repeat(first|exact dK|refine Kept.dU ?_ (by first|exact Or.inl rfl|exact Or.inr rfl) _)
        |none=>
         obtain⟨j,m,hj,Ht,hjk⟩:=aix hk hm true hv;have hj:hU ls k l.id false=some j:=hj;have Aw:=iO Ht;have Kk:D0 ls j=m.sign:=by simp[D0,Ht]
         rw[hv,hj] at hf;simp only[Ct] at hf;cases hs:(m.sign==l.sign) with
         |false=>
          have fM:(m.sign !=l.sign)=true:=by simp[bne,hs]
          have dM:=Jp aw (show nM ls (aq Let.aA ls/2) k=false by rw[pJ,ho,hv];simp only[Cx,hj,Kk,hs];rfl);simp only[go_sem,i76_l1,h0,h3,nv,yG,yH,bD,bM,hi,Let.ps,aL,hp,tn,ua,fR,eO,wq,hf,ho,KJ,Aw,fM,wr0,mapOf,mapVal,iZ,Int.reduceNeg,Int.reduceSub,okD,o1,o2,o3];refine⟨aJ,aJ,?_⟩;unfold Iy;refine⟨by rw[dM],?_,fun h=>by rw[dM] at h;cases h⟩;repeat(first|exact dK|refine Kept.dU ?_ (by first|exact Or.inl rfl|exact Or.inr rfl) _)
         |true=>
          have fM:(m.sign !=l.sign)=false:=by simp[bne,hs]
          have my:nM ls (aq Let.aA ls/2) k=true:=by rw[pJ,ho,hv];simp only[Cx,hj,Kk,hs];rfl
          have se:=YZ eH jw (show hU ls k l.id l.over=none by rw[ho];exact hv);have xQ:=YY eH jw;rw[ho] at se xQ;rw[show hU ls k l.id (!true)=some j from hj] at xQ;have WE:rV ls (k+1) l.id=[.int .i64 (j:Int),.int .i64 (k:Int)]:=by simp only[rV];rw[se,show hU ls (k+1) l.id false=some j from xQ];rfl
          rw[WE] at BH;simp only[go_sem,i76_l1,h0,h3,nv,yG,yH,bD,bM,hi,Let.ps,aL,hp,w1,tn,ua,fR,eO,wq,hf,ho,KJ,Aw,fM,wr0,mapOf,mapVal,iZ,yy,Int.reduceNeg,Int.reduceSub,okD,o1,o2,o3];refine⟨aJ,aJ,aJ,?_⟩;refine⟨aw,?_,?_,?_⟩
          .rw[BH]
          .intro i hi;rcases nN.1 hi with h|rfl
           .exact au i h
           exact my
          repeat(first|exact dK|refine Kept.dU ?_ (by first|exact Or.inl rfl|exact Or.inr rfl) _)
       |false=>
        cases hv:hU ls k l.id false with
        |some j=>have dM:=Jp aw (show nM ls (aq Let.aA ls/2) k=false by rw[pJ,ho,hv];rfl);rw[hv] at hf;simp only[Ct] at hf;simp only[go_sem,i76_l1,h0,h3,nv,yG,yH,bD,bM,hi,Let.ps,aL,hp,tn,ua,fR,eO,wq,hf,ho,ge0,mapOf,mapVal,iZ,Int.reduceNeg,okD,o1,o2,o3];refine⟨aJ,aJ,?_⟩;unfold Iy;refine⟨by rw[dM],?_,fun h=>by rw[dM] at h;cases h⟩;repeat(first|exact dK|refine Kept.dU ?_ (by first|exact Or.inl rfl|exact Or.inr rfl) _)
        |none=>
         obtain⟨j,m,hj,Ht,hjk⟩:=aix hk hm false hv;have hj:hU ls k l.id true=some j:=hj;have Aw:=iO Ht;have Kk:D0 ls j=m.sign:=by simp[D0,Ht]
         rw[hv,hj] at hf;simp only[Ct] at hf;cases hs:(m.sign==l.sign) with
         |false=>
          have fM:(m.sign !=l.sign)=true:=by simp[bne,hs]
          have dM:=Jp aw (show nM ls (aq Let.aA ls/2) k=false by rw[pJ,ho,hv];simp only[Bool.not_false,hj,Kk,hs];rfl);simp only[go_sem,i76_l1,h0,h3,nv,yG,yH,bD,bM,hi,Let.ps,aL,hp,tn,ua,fR,eO,wq,hf,ho,KJ,Aw,fM,wr1,mapOf,mapVal,iZ,Int.reduceNeg,Int.reduceSub,okD,o1,o2,o3];refine⟨aJ,aJ,?_⟩;unfold Iy;refine⟨by rw[dM],?_,fun h=>by rw[dM] at h;cases h⟩;repeat(first|exact dK|refine Kept.dU ?_ (by first|exact Or.inl rfl|exact Or.inr rfl) _)
         |true=>
          have fM:(m.sign !=l.sign)=false:=by simp[bne,hs]
          have my:nM ls (aq Let.aA ls/2) k=true:=by rw[pJ,ho,hv];simp only[Bool.not_false,hj,Kk,hs];rfl
          have se:=YZ eH jw (show hU ls k l.id l.over=none by rw[ho];exact hv);have xQ:=YY eH jw;rw[ho] at se xQ;rw[show hU ls k l.id (!false)=some j from hj] at xQ;have WE:rV ls (k+1) l.id=[.int .i64 (k:Int),.int .i64 (j:Int)]:=by simp only[rV];rw[se,show hU ls (k+1) l.id true=some j from xQ];rfl
          rw[WE] at BH;simp only[go_sem,i76_l1,h0,h3,nv,yG,yH,bD,bM,hi,Let.ps,aL,hp,w1,tn,ua,fR,eO,wq,hf,ho,KJ,Aw,fM,wr1,mapOf,mapVal,iZ,yy,Int.reduceNeg,Int.reduceSub,okD,o1,o2,o3];refine⟨aJ,aJ,aJ,?_⟩;refine⟨aw,?_,?_,?_⟩
          .rw[BH]
          .intro i hi;rcases nN.1 hi with h|rfl
           .exact au i h
           exact my
          repeat(first|exact dK|refine Kept.dU ?_ (by first|exact Or.inl rfl|exact Or.inr rfl) _)
      rw[ay hm] at hf;have hv:=avG hk hm;have oD:=aqI eH jw hm;have my:nM ls (aq Let.aA ls/2) k=true:=by rw[pJ,hv,hv];rfl
      have se:=YZ eH jw (hv _);have xQ:=YY eH jw;rw[hv] at xQ;cases ho:l.over with
      |true=>
       rw[ho] at se xQ;have Ng:rV ls (k+1) l.id=[.int .i64 (-1),.int .i64 (k:Int)]:=by simp only[rV];rw[se,show hU ls (k+1) l.id false=none from xQ];rfl
       rw[Ng] at oD;simp only[go_sem,i76_l1,h0,h3,nv,yG,yH,bD,bM,hi,Let.ps,aL,hp,w1,tn,ua,fR,eO,wq,hf,ho,KJ,mapOf,mapVal,iZ,yy,Option.map_none,Int.reduceNeg,okD,o1,o2,o3];refine⟨aJ,aJ,aJ,?_⟩;refine⟨aw,?_,?_,?_⟩
       .rw[oD]
       .intro i hi;rcases nN.1 hi with h|rfl
        .exact au i h
        exact my
       repeat(first|exact dK|refine Kept.dU ?_ (by first|exact Or.inl rfl|exact Or.inr rfl) _)
      |false=>
       rw[ho] at se xQ;have Ng:rV ls (k+1) l.id=[.int .i64 (k:Int),.int .i64 (-1)]:=by simp only[rV];rw[se,show hU ls (k+1) l.id true=none from xQ];rfl
       rw[Ng] at oD;simp only[go_sem,i76_l1,h0,h3,nv,yG,yH,bD,bM,hi,Let.ps,aL,hp,w1,tn,ua,fR,eO,wq,hf,ho,KJ,mapOf,mapVal,iZ,yy,Option.map_none,Int.reduceNeg,okD,o1,o2,o3];refine⟨aJ,aJ,aJ,?_⟩;refine⟨aw,?_,?_,?_⟩
       .rw[oD]
       .intro i hi;rcases nN.1 hi with h|rfl
        .exact au i h
        exact my
       repeat(first|exact dK|refine Kept.dU ?_ (by first|exact Or.inl rfl|exact Or.inr rfl) _)
  have:k=ls.length:=aa;subst this;have hr:=T0 he0 au;have jq:(qM ls ls.length).length=(fi ls ls.length).length:=by simp[qM]
  have hb:((((fi ls ls.length).length:Nat):Int)==((aq Let.aA ls/2:Nat):Int))=((fi ls ls.length).length==aq Let.aA ls/2):=by
   cases h:((fi ls ls.length).length==aq Let.aA ls/2) with
   |true=>simp at h |-;omega
   |false=>simp at h |-;omega
  simp only[go_sem,i76_l1,i76_r2,h0,h3,yG,yH,bD,bM,eI,AR,Int.reduceNeg,jq,fR,eO,wq,hb,okD,o1];exact⟨by rw[hr],dK,fun _=>⟨_,bD,bM⟩⟩
def GH{p:Let->Bool}{ls:ai}{i:Nat}{l:Let}(h:ls[i]?=some l)(hp:p l=true):aq p ls=1↔ ∀j m,ls[j]?=some m->p m=true->j=i:=by
 obtain⟨hi,e⟩:=aT.1 h;have hs:ls=ls.take i++l::ls.drop (i+1):=by rw[<- e,uc];simp
 have hc:aq p ls=aq p (ls.take i)+(aq p (ls.drop (i+1))+1):=by
  conv=>lhs;rw[hs]
  simp[aq,xf,hp]
 constructor
 .intro h1 j m hj hm;have z1:aq p (ls.take i)=0:=aa;have z2:aq p (ls.drop (i+1))=0:=aa;have z1:=Lx.1 z1;have z2:=Lx.1 z2;rcases Nat.lt_trichotomy j i with BD|BD|BD
  .have:m∈ls.take i:=aV (i:=j) (by rw[mI,aD BD,hj]);exact absurd hm (z1 m this)
  .exact BD
  have:m∈ls.drop (i+1):=aV (i:=j-(i+1)) (by rw[zJ,show i+1+(j-(i+1))=j by omega,hj]);exact absurd hm (z2 m this)
 intro hu;have z1:aq p (ls.take i)=0:=by
  refine Lx.2 fun m hm lH=>?_;obtain⟨j,hj⟩:=iJ hm;have BD:j<i:=by have:=(aT.1 hj).1;rw[iK] at this;omega
  rw[mI,aD BD] at hj;have:=hu j m hj lH;omega
 have z2:aq p (ls.drop (i+1))=0:=by refine Lx.2 fun m hm lH=>?_;obtain⟨j,hj⟩:=iJ hm;rw[zJ] at hj;have:=hu _ m hj lH;omega
 omega
def ale{p:Let->Bool}{ls:ai}(h:∀(i j:Nat) (l m:Let),ls[i]?=some l->ls[j]?=some m->p l=true->p m=true->i=j):aq p ls<=1:=by
 by_cases hz:aq p ls=0
 .omega
 have:0<ls.countP p:=Nat.pos_of_ne_zero hz;obtain⟨l,hl,hp⟩:=zH.1 this;obtain⟨i,hi⟩:=iJ hl;have:=(GH hi hp).2 fun j m hj hm=>h j i m l hj hi hm hp;omega
structure vr (F:Nat) (ls:ai) (l:Let):Prop where
 g0:0<=l.gate
 g1:l.gate<=(F:Int)
 r0:1<=l.aC
 r1:l.aC<=(cg ls l.gate.toNat:Int)
def Ih{ls:ai}{l m:Let}(hl:vr F ls l)(hm:vr F ls m):eB ls l=eB ls m↔l.gate=m.gate/\l.aC=m.aC:=by
 obtain⟨l1,l2,l3,l4⟩:=hl;obtain⟨m1,m2,m3,m4⟩:=hm;unfold eB;constructor
 .intro h;have sl:=uv ls l.gate.toNat;have sm:=uv ls m.gate.toNat;rcases Nat.lt_trichotomy l.gate.toNat m.gate.toNat with c|c|c
  .have:=Br (ls:=ls) (show l.gate.toNat+1<=m.gate.toNat by omega);omega
  .rw[c] at h;omega
  have:=Br (ls:=ls) (show m.gate.toNat+1<=l.gate.toNat by omega);omega
 rintro ⟨h1,h2⟩;rw[h1,h2]
def arT{ls:ai}{l m:Let}(hl:vr F ls l)(hm:vr F ls m):HV l m=true↔eB ls l<eB ls m:=by
 obtain⟨l1,l2,l3,l4⟩:=hl;obtain⟨m1,m2,m3,m4⟩:=hm;unfold eB HV;simp only[vT,cU,oO,dk];have sl:=uv ls l.gate.toNat;have sm:=uv ls m.gate.toNat;rcases Nat.lt_trichotomy l.gate.toNat m.gate.toNat with c|c|c
 .have:=Br (ls:=ls) (show l.gate.toNat+1<=m.gate.toNat by omega);omega
 .rw[c];omega
 have:=Br (ls:=ls) (show m.gate.toNat+1<=l.gate.toNat by omega);omega
def Yi{ls:ai}{l:Let}(hl:vr F ls l):eB ls l<fL ls (F+1):=by obtain⟨l1,l2,l3,l4⟩:=hl;unfold eB;have sl:=uv ls l.gate.toNat;have:=Br (ls:=ls) (show l.gate.toNat+1<=F+1 by omega);omega
def R8{ls:ai}{i:Nat}{l:Let}(h:ls[i]?=some l)(hp:l.aE=true):ub ls i=true↔1<=l.aC/\l.aC<=(cg ls l.gate.toNat:Int)/\ ∀j m,j<i->ls[j]?=some m->m.aE=true->eB ls m≠eB ls l:=by
 simp only[ub,h,hp,Cx,Cw,cU,oO,mj,IA,gV];constructor
 .rintro ⟨⟨h1,h2⟩,h3⟩
  refine⟨h1,h2,fun j m hj hm lH e=>?_⟩;have:=h3 j hj;rw[Ni hm lH] at this;simp[e] at this
 rintro ⟨h1,h2,h3⟩
 refine⟨⟨h1,h2⟩,fun j hj=>?_⟩;unfold tM;split
 .rename_i m hm;cases lH:m.aE with
  |false=>simp
  |true=>simpa using h3 j m hj hm lH
 simp
def OD{ls:ai}(hg:rY F ls):zq ls=true↔(∀l∈ls,l.aE=true->vr F ls l)/\ ∀(i j:Nat) (l m:Let),ls[i]?=some l->ls[j]?=some m->l.aE=true->m.aE=true->eB ls l=eB ls m->i=j:=by
 unfold zq;rw[gO];constructor
 .intro h;refine⟨fun l hl hp=>?_,fun i j l m hi hj bY lH e=>?_⟩
  .obtain⟨i,hi⟩:=iJ hl;have:=(R8 hi hp).1 (h i (gV.2 (aT.1 hi).1));exact⟨(hg l hl hp).1,(hg l hl hp).2,this.1,this.2.1⟩
  have ci:=(R8 hi bY).1 (h i (gV.2 (aT.1 hi).1));have cj:=(R8 hj lH).1 (h j (gV.2 (aT.1 hj).1));rcases Nat.lt_trichotomy i j with c|c|c
  .exact absurd e (cj.2.2 i l c hi bY)
  .exact c
  exact absurd e.symm (ci.2.2 j m c hj lH)
 rintro ⟨h1,h2⟩ i hi
 obtain⟨l,hl⟩:=aM (gV.1 hi);cases hp:l.aE with
 |false=>simp[ub,hl,hp]
 |true=>have hg:=h1 l (aV hl) hp;refine(R8 hl hp).2 ⟨hg.r0,hg.r1,fun j m hj hm lH e=>?_⟩;have:=h2 j i m l hm hl lH hp e;omega
def QO(g:Int)(h:0<=g)(l:Let):qe g l=nV g.toNat l:=by unfold qe nV;rw[Int.toNat_of_nonneg h]
def sB{l:Let}(hp:l.aE=true):dL f l=false↔(((0<=l.gate/\l.gate<=f)/\l.id=0)/\l.sign=0)/\l.over=false:=by unfold Let.aE at hp;simp only[dL,hp,if_true,SL,decide_eq_false_iff_not,bne_eq_false_iff_eq,Int.not_lt]
def KP{ls:ai}{l:Let}(hp:l.aE=true):wU f ls l=true↔dL f l=false/\1<=l.aC/\l.aC<=(aq (qe l.gate) ls:Int)/\aq (jz l) ls=1:=by
 rw[sB hp];unfold wU;simp only[mj,SL,decide_eq_false_iff_not,bne_eq_false_iff_eq];constructor
 .rintro ⟨⟨⟨⟨⟨⟨⟨a,b⟩,c⟩,d⟩,e⟩,g⟩,h⟩,i⟩
  exact⟨⟨⟨⟨⟨aa,aa⟩,a⟩,b⟩,c⟩,aa,aa,aa⟩
 rintro ⟨⟨⟨⟨⟨d,e⟩,a⟩,b⟩,c⟩,g,h,i⟩
 exact⟨⟨⟨⟨⟨⟨⟨a,b⟩,c⟩,aa⟩,aa⟩,aa⟩,aa⟩,aa⟩
def Sf{l m:Let}(hp:l.aE=true):jz l m=true↔m.aE=true/\m.gate=l.gate/\m.aC=l.aC:=by unfold Let.aE at hp |-;simp only[dk] at hp;unfold jz;simp only[cU,dk,hp,and_assoc]
def arC{ls:ai}:(∀l∈ls,l.aE=true->wU F ls l=true)↔(∀l∈ls,l.aE=true->dL F l=false)/\zq ls=true:=by
 constructor
 .intro h;have hb:∀l∈ls,l.aE=true->dL F l=false:=fun l hl hp=>((KP hp).1 (h l hl hp)).1;have hg:rY F ls:=fun l hl hp=>((sB hp).1 (hb l hl hp)).1.1.1;refine⟨hb,(OD hg).2 ⟨fun l hl hp=>?_,fun i j l m hi hj bY lH e=>?_⟩⟩
  .obtain⟨_,h2,h3,_⟩:=(KP hp).1 (h l hl hp);have:=hg l hl hp;refine⟨this.1,this.2,h2,?_⟩;have e:aq (qe l.gate) ls=cg ls l.gate.toNat:=by unfold cg aq;congr 1;funext m;exact QO _ this.1 m
   omega
  have gl:vr F ls l:=by
   obtain⟨_,h2,h3,_⟩:=(KP bY).1 (h l (aV hi) bY);have:=hg l (aV hi) bY;have e:aq (qe l.gate) ls=cg ls l.gate.toNat:=by unfold cg aq;congr 1;funext m;exact QO _ this.1 m
   exact⟨this.1,this.2,h2,aa⟩
  have gm:vr F ls m:=by
   obtain⟨_,h2,h3,_⟩:=(KP lH).1 (h m (aV hj) lH);have:=hg m (aV hj) lH;have e:aq (qe m.gate) ls=cg ls m.gate.toNat:=by unfold cg aq;congr 1;funext m;exact QO _ this.1 m
   exact⟨this.1,this.2,h2,aa⟩
  have e2:=(Ih gl gm).1 e;have hs:=((KP lH).1 (h m (aV hj) lH)).2.2.2;exact(GH hj ((Sf lH).2 ⟨lH,rfl,rfl⟩)).1 hs i l hi ((Sf lH).2 ⟨bY,e2.1,e2.2⟩)
 rintro ⟨hb,hr⟩ l hl hp
 have hg:rY F ls:=fun l hl hp=>((sB hp).1 (hb l hl hp)).1.1.1;obtain⟨h1,h2⟩:=(OD hg).1 hr;have gl:=h1 l hl hp;have e:aq (qe l.gate) ls=cg ls l.gate.toNat:=by unfold cg aq;congr 1;funext m;exact QO _ gl.g0 m
 obtain⟨i,hi⟩:=iJ hl;refine(KP hp).2 ⟨hb l hl hp,gl.r0,by rw[e];exact gl.r1,(GH hi ((Sf hp).2 ⟨hp,rfl,rfl⟩)).2 fun j m hj hs=>?_⟩;obtain⟨lH,eg,er⟩:=(Sf hp).1 hs;exact h2 j i m l hj hi lH hp ((Ih (h1 m (aV hj) lH) gl).2 ⟨eg,er⟩)
def sY(id:Int)(o:Bool)(l:Let):Bool:=l.aA&&(l.id==id&&l.over==o)
def JZ{ls:ai}{j:Nat}{m:Let}(h:ls[j]?=some m)(id:Int)(o:Bool):r6 ls id o j=sY id o m:=by simp[r6,sY,h]
def rA{id:Int}{o:Bool}{l:Let}:sY id o l=true↔l.aA=true/\l.id=id/\l.over=o:=by unfold sY;simp only[cU,dk]
def Ib(ls:ai):Prop:=∀(i j:Nat) (l m:Let),ls[i]?=some l->ls[j]?=some m->l.aA=true->m.aA=true->l.id=m.id->i≠j->l.over≠m.over/\l.sign=m.sign
def Xl(ls:ai):Prop:=∀l∈ls,l.aA=true->1<=l.id/\l.id<=((aq Let.aA ls/2:Nat):Int)
def aiP{ls:ai}{n2 k:Nat}{l:Let}(h:ls[k]?=some l)(hc:l.aA=true):nM ls n2 k=true↔(1<=l.id/\l.id<=(n2:Int))/\hU ls k l.id l.over=none/\ ∀j,hU ls k l.id (!l.over)=some j->D0 ls j=l.sign:=by
 simp only[nM,h,hc,Cx,Cw,cU,oO,Option.isNone_iff_eq_none];constructor
 .rintro ⟨h1,h2,h3⟩
  refine⟨h1,h2,fun j hj=>?_⟩;rw[hj] at h3
  simpa using h3
 rintro ⟨h1,h2,h3⟩
 refine⟨h1,h2,?_⟩;split
 .rename_i j hj
  simpa using h3 j hj
 rfl
def Ix{ls:ai}:(∀k,k<ls.length->nM ls (aq Let.aA ls/2) k=true)↔Xl ls/\Ib ls:=by
 constructor
 .intro h;have hx:∀ {k:Nat} {l:Let},ls[k]?=some l->l.aA=true->_:=fun {k l} hk hc=>(aiP (n2:=aq Let.aA ls/2) hk hc).1 (h k (aT.1 hk).1);refine⟨fun l hl hc=>?_,?_⟩
  .obtain⟨i,hi⟩:=iJ hl;exact(hx hi hc).1
  have key:∀(i j:Nat) (l m:Let),ls[i]?=some l->ls[j]?=some m->l.aA=true->m.aA=true->l.id=m.id->i<j->l.over≠m.over/\l.sign=m.sign:=by
   intro i j l m hi hj bN yO he iv;obtain⟨_,hn,hs⟩:=hx hj yO;have ho:l.over≠m.over:=by intro e;have:=OQ hn iv;rw[JZ hi,rA.2 ⟨bN,he,e⟩] at this;cases this
   refine⟨ho,?_⟩;have l8:l.over= !m.over:=by revert ho;cases l.over<;>cases m.over<;>simp
   cases hv:hU ls j m.id (!m.over) with
   |none=>have:=OQ hv iv;rw[JZ hi,rA.2 ⟨bN,he,l8⟩] at this;cases this
   |some p=>
    have h3:=hs p hv;obtain⟨pE,mw⟩:=Ir hv;obtain⟨x,j4,N4,jx,hxo⟩:=BB mw;have:p=i:=by
     rcases Nat.lt_trichotomy p i with c|c|c
     .have uD:=(hx hi bN).2.1;have:=OQ uD c;rw[JZ j4,rA.2 ⟨N4,by rw[jx,he],by rw[hxo,l8]⟩] at this;cases this
     .exact c
     have h4:(List.range j).find? (r6 ls m.id (!m.over))=some p:=hv;rw[List.find?_range_eq_some] at h4;have:=h4.2.2 i c;rw[JZ hi,rA.2 ⟨bN,he,l8⟩] at this;cases this
    subst this;rw[hi] at j4;cases j4
    simpa [D0,hi] using h3
  intro i j l m hi hj bN yO he iv;rcases Nat.lt_or_gt_of_ne iv with c|c
  .exact key i j l m hi hj bN yO he c
  have:=key j i m l hj hi yO bN he.symm c;exact⟨fun e=>this.1 e.symm,this.2.symm⟩
 rintro ⟨h1,h2⟩ k hk
 obtain⟨l,hl⟩:=aM hk;cases hc:l.aA with
 |false=>simp[nM,hl,hc]
 |true=>
  refine(aiP hl hc).2 ⟨h1 l (aV hl) hc,?_,fun j hj=>?_⟩
  .cases hv:hU ls k l.id l.over with
   |none=>rfl
   |some p=>obtain⟨pE,mw⟩:=Ir hv;obtain⟨x,j4,N4,jx,hxo⟩:=BB mw;exact absurd hxo (h2 p k x l j4 hl N4 hc jx aa).1
  obtain⟨pE,mw⟩:=Ir hj;obtain⟨x,j4,N4,jx,hxo⟩:=BB mw;have:=(h2 j k x l j4 hl N4 hc jx aa).2;simp[D0,j4,this]
def au3(ls:ai):∀ids:d_,ids.Nodup->(ids.map fun id=>aq (mz id) ls).sum=aq (fun l=>l.aA&&ids.contains l.id) ls:=by
 intro ids
 induction ids with
 |nil=>intro _;simp[aq]
 |cons a ids ih=>
  intro hn;rw[qU] at hn;rw[eh,List.sum_cons,ih hn.2];refine(TU (p:=mz a) (q:=fun l=>l.aA&&ids.contains l.id) (r:=fun l=>l.aA&&(a::ids).contains l.id) ?_ ?_ ls).symm
  .intro l;simp only[mz,cU,dk,List.contains_eq_mem,oO,cD];constructor
   .rintro ⟨h1,h2|h2⟩
    .exact .inl ⟨h1,h2⟩
    exact .inr ⟨h1,h2⟩
   rintro (⟨h1,h2⟩|⟨h1,h2⟩)
   .exact⟨h1,.inl h2⟩
   exact⟨h1,.inr h2⟩
  intro l;simp only[mz,cU,dk,List.contains_eq_mem,oO];rintro ⟨_,h1⟩ ⟨_,h2⟩
  exact hn.1 (h1▸h2)
def QM{ls:ai}{l:Let}(hl:l∈ls)(hc:l.aA=true):l.id∈fi ls ls.length:=by obtain⟨i,hi⟩:=iJ hl;refine(HM (bR _)).2 ⟨i,l.over,(aT.1 hi).1,?_⟩;rw[JZ hi];exact rA.2 ⟨hc,rfl,rfl⟩
def YO(ls:ai):((fi ls ls.length).map fun id=>aq (mz id) ls).sum=aq Let.aA ls:=by
 rw[au3 _ _ (QN ls _)];apply IC;intro l hl;cases hc:l.aA with
 |false=>simp
 |true=>simp[QM hl hc]
def QV(id:Int)(ls:ai):aq (mz id) ls=aq (sY id true) ls+aq (sY id false) ls:=by
 refine TU ?_ ?_ ls
 .intro l;rw[rA,rA];simp only[mz,cU,dk];cases l.over<;>simp
 intro l;rw[rA,rA];rintro ⟨_,_,h1⟩ ⟨_,_,h2⟩
 rw[h1] at h2;cases h2
def Xq(id:Int)(o:Bool)(ls:ai):aq (mz id) ls=aq (sY id o) ls+aq (sY id (!o)) ls:=by
 rw[QV];cases o with
 |true=>rfl
 |false=>simp only[Bool.not_false];omega
def BA{ls:ai}(h:Ib ls)(id:Int)(o:Bool):aq (sY id o) ls<=1:=by refine ale fun i j l m hi hj hl hm=>?_;obtain⟨l1,l2,l3⟩:=rA.1 hl;obtain⟨m1,m2,m3⟩:=rA.1 hm;refine Decidable.byContradiction fun aI=>?_;exact(h i j l m hi hj l1 m1 (by rw[l2,m2]) aI).1 (by rw[l3,m3])
def aie{f:Int->Nat}:∀ids:d_,(∀x∈ids,f x<=2)->(ids.map f).sum<=2*ids.length:=by
 intro ids
 induction ids with
 |nil=>intro _;simp
 |cons a ids ih=>intro h;have:=ih fun x hx=>h x (u6 _ hx);have:=h a O1;simp only[eh,List.sum_cons,dC];omega
def ZR{f:Int->Nat}:∀ids:d_,(∀x∈ids,f x<=2)->(ids.map f).sum=2*ids.length->∀x∈ids,f x=2:=by
 intro ids
 induction ids with
 |nil=>intro _ _ x hx;cases hx
 |cons a ids ih=>
  intro h hs;have h1:=aie ids fun x hx=>h x (u6 _ hx);have h2:=h a O1;simp only[eh,List.sum_cons,dC] at hs;intro x hx;rcases cD.1 hx with rfl|hx
  .omega
  exact ih (fun x hx=>h x (u6 _ hx)) aa x hx
def au4{f:Int->Nat}:∀ids:d_,(∀x∈ids,f x=2)->(ids.map f).sum=2*ids.length:=by
 intro ids
 induction ids with
 |nil=>intro _;simp
 |cons a ids ih=>intro h;have:=ih fun x hx=>h x (u6 _ hx);have:=h a O1;simp only[eh,List.sum_cons,dC];omega
def Yd{l m:Let}(hc:l.aA=true):jf l m=true↔m.aA=true/\m.id=l.id/\m.sign=l.sign/\m.over= !l.over:=by unfold Let.aA at hc |-;simp only[dk] at hc;unfold jf;simp only[cU,dk,hc,and_assoc,mj,lS,ne_eq];cases l.over<;>cases m.over<;>simp
def Om{l:Let}(hc:l.aA=true):dL f l=false↔(l.gate=0/\l.aC=0)/\(l.sign !=1&&l.sign != -1)=false:=by
 unfold Let.aA at hc;have h1:(l.kind==1)=false:=by simp only[dk] at hc;rw[hc];rfl
 simp only[dL,hc,h1,if_true];simp
def agw{ls:ai}{l:Let}(hc:l.aA=true):mU ls l=true↔dL f l=false/\(1<=l.id/\l.id<=((aq Let.aA ls/2:Nat):Int))/\aq (jf l) ls=1/\aq (mz l.id) ls=2:=by
 rw[Om hc];unfold mU;simp only[mj,SL,decide_eq_false_iff_not,bne_eq_false_iff_eq];constructor
 .rintro ⟨⟨⟨⟨⟨⟨a,b⟩,c⟩,d⟩,e⟩,g⟩,h⟩
  exact⟨⟨⟨a,b⟩,c⟩,⟨aa,aa⟩,aa,aa⟩
 rintro ⟨⟨⟨a,b⟩,c⟩,⟨d,e⟩,g,h⟩
 exact⟨⟨⟨⟨⟨⟨a,b⟩,c⟩,aa⟩,aa⟩,aa⟩,aa⟩
def aly{ls:ai}:(∀l∈ls,l.aA=true->mU ls l=true)↔(∀l∈ls,l.aA=true->dL f l=false)/\mO ls=true:=by
 have NV:=YO ls;constructor
 .intro h;have dQ:=fun l hl hc=>(agw (f:=f) hc).1 (h l hl hc);have hp:Ib ls:=by
   intro i j l m hi hj bN yO he iv;obtain⟨_,_,h3,h4⟩:=dQ l (aV hi) bN;have e1:=Xq l.id l.over ls;have g1:0<aq (sY l.id l.over) ls:=zH.2 ⟨l,aV hi,rA.2 ⟨bN,rfl,rfl⟩⟩;obtain⟨x,hx,zb⟩:=zH.1 (show 0<ls.countP (jf l) by show 0<aq (jf l) ls;omega);obtain⟨x1,x2,x3,x4⟩:=(Yd bN).1 zb;have g2:0<aq (sY l.id (!l.over)) ls:=zH.2 ⟨x,hx,rA.2 ⟨x1,x2,x4⟩⟩;have u1:aq (sY l.id l.over) ls=1:=aa;have u2:aq (sY l.id (!l.over)) ls=1:=aa;have ho:l.over≠m.over:=by intro e;have:=(GH hi (rA.2 ⟨bN,rfl,rfl⟩)).1 u1 j m hj (rA.2 ⟨yO,he.symm,e.symm⟩);exact iv this.symm
   refine⟨ho,?_⟩;have l8:m.over= !l.over:=by revert ho;cases l.over<;>cases m.over<;>simp
   obtain⟨p,j4⟩:=iJ hx;have:=(GH hj (rA.2 ⟨yO,he.symm,l8⟩)).1 u2 p x j4 (rA.2 ⟨x1,x2,x4⟩);subst this;rw[j4] at hj;cases hj;exact x3.symm
  have ao6:∀id∈fi ls ls.length,aq (mz id) ls=2:=by intro id hid;obtain⟨j,o,h1,h2⟩:=(HM (bR _)).1 hid;obtain⟨m,hm,hc,hi,_⟩:=BB h2;rw[<- hi];exact(dQ m (aV hm) hc).2.2.2
  rw[au4 _ ao6] at NV;refine⟨fun l hl hc=>(dQ l hl hc).1,?_⟩;have hx:=(Ix (ls:=ls)).2 ⟨fun l hl hc=>(dQ l hl hc).2.1,hp⟩;rw[T0 aa hx];simp only[dk];omega
 rintro ⟨hb,hr⟩ l hl hc
 unfold mO at hr;simp only[cU,dk,gO,gV] at hr;obtain⟨⟨he,hx⟩,hlen⟩:=hr;obtain⟨hid,hp⟩:=Ix.1 hx;have hle:∀id∈fi ls ls.length,aq (mz id) ls<=2:=fun id _=>by rw[QV id];have:=BA hp id true;have:=BA hp id false;omega
 have h2:=ZR _ hle (by rw[NV,hlen];omega) l.id (QM hl hc);have e1:=Xq l.id l.over ls;have b1:=BA hp l.id l.over;have b2:=BA hp l.id (!l.over);refine(agw hc).2 ⟨hb l hl hc,hid l hl hc,?_,h2⟩;have u2:aq (sY l.id (!l.over)) ls=1:=aa;obtain⟨i,hi⟩:=iJ hl;obtain⟨x,hx,zb⟩:=zH.1 (show 0<ls.countP (sY l.id (!l.over)) by show 0<aq (sY l.id (!l.over)) ls;omega);obtain⟨p,j4⟩:=iJ hx;obtain⟨x1,x2,x3⟩:=rA.1 zb;have gH:p≠i:=by
  rintro rfl
  rw[hi] at j4;cases j4;revert x3;cases l.over<;>simp
 have hsg:=(hp p i x l j4 hi x1 hc x2 gH).2;refine(GH j4 ((Yd hc).2 ⟨x1,x2,hsg,x3⟩)).2 fun j m hj hm=>?_;obtain⟨m1,m2,m3,m4⟩:=(Yd hc).1 hm;exact(GH j4 zb).1 u2 j m hj (rA.2 ⟨m1,m2,m4⟩)
def v7{l:Let}(h:dL f l=false):l.aE=true\/l.aA=true:=by
 unfold Let.aE Let.aA;cases h1:(l.kind==1) with
 |true=>exact .inl rfl
 |false=>
  cases h2:(l.kind==2) with
  |true=>exact .inr rfl
  |false=>simp only[dL,h1,h2] at h;cases h
def qN{l:Let}(hp:l.aE=true):l.aA=false:=by unfold Let.aE at hp;unfold Let.aA;simp only[dk] at hp;rw[hp];rfl
def agy{ls:ai}{l:Let}(hp:l.aE=true):eX f ls l=wU f ls l:=by unfold Let.aE at hp;simp only[eX,hp,if_true]
def agx{ls:ai}{l:Let}(hp:l.aA=true):eX f ls l=mU ls l:=by
 unfold Let.aA at hp;have h1:(l.kind==1)=false:=by simp only[dk] at hp;rw[hp];rfl
 simp only[eX,hp,h1,if_true];simp
def XK{ls:ai}:xU F ls=true↔ls.any (dL F)=false/\zq ls=true/\mO ls=true:=by
 unfold xU;rw[gO,IA];have e1:=arC (F:=F) (ls:=ls);have e2:=aly (f:=(F:Int)) (ls:=ls);constructor
 .intro h;have hk:=fun {l:Let} (hl:l∈ls)=>afK (f:=F) (ls:=ls) (gO.2 h) (iJ hl).choose_spec;obtain⟨p1,p2⟩:=e1.1 fun l hl hp=>by rw[<- agy hp];exact h l hl
  obtain⟨c1,c2⟩:=e2.1 fun l hl hc=>by rw[<- agx (f:=F) hc];exact h l hl
  refine⟨fun l hl=>?_,p2,c2⟩;rcases hk hl with hp|hc
  .rw[p1 l hl hp];simp
  rw[c1 l hl hc];simp
 rintro ⟨hb,hr,hc⟩ l hl
 have hb:∀l∈ls,dL F l=false:=fun l hl=>by simpa using hb l hl
 rcases v7 (hb l hl) with hp|jw
 .rw[agy hp];exact e1.2 ⟨fun l hl _=>hb l hl,hr⟩ l hl hp
 rw[agx jw];exact e2.2 ⟨fun l hl _=>hb l hl,hc⟩ l hl jw
def auJ{o:a_}(hs:o.Pairwise (· < ·))(aw:∀x∈o,x<o.length):∀(k:Nat) (h:k<o.length),o[k]=k:=by
 rw[SO] at hs;have lo:∀(k:Nat) (h:k<o.length),k<=o[k]:=by
  intro k
  induction k with
  |zero=>intro _;omega
  |succ k ih=>intro h;have:=ih aa;have:=hs k (k+1) aa h aa;omega
 have hi:∀(d k:Nat) (h:k<o.length),k+d+1=o.length->o[k]<=k:=by
  intro d
  induction d with
  |zero=>intro k h e;have:=aw _ (List.getElem_mem h);omega
  |succ d ih=>intro k h e;have:=ih (k+1) aa aa;have:=hs k (k+1) h aa aa;omega
 intro k h;have:=lo k h;have:=hi (o.length-k-1) k h aa;omega
def apt{key:Nat->Nat}{p:Nat->Bool}{i:Nat}:∀ {o:a_},o.Pairwise (fun a b=>key a<key b)->(∀x∈o,p x=decide (key x<key i))->(∀x∈o,key x≠key i)->
  (o.take (o.takeWhile p).length++i::o.drop (o.takeWhile p).length).Pairwise (fun a b=>key a<key b):=by
 intro o
 induction o with
 |nil=>intro _ _ _;simp
 |cons a o ih=>
  intro hs hp hn;rw[rM] at hs;have pa:=hp a O1;have na:=hn a O1;by_cases aw:key a<key i
  .have Ow:p a=true:=by rw[pa];simpa using aw
   rw[List.takeWhile_cons,aD Ow];simp only[dC,List.take_succ_cons,List.drop_succ_cons,mW];rw[rM];refine⟨fun b hb=>?_,ih hs.2 (fun x hx=>hp x (u6 _ hx)) (fun x hx=>hn x (u6 _ hx))⟩;rcases eK.1 hb with hb|hb
   .exact hs.1 b (yl hb)
   rcases cD.1 hb with rfl|hb
   .exact aw
   exact hs.1 b (xj hb)
  have Ow:¬p a=true:=by rw[pa];simpa using aw
  rw[List.takeWhile_cons,ay Ow];simp only[fe,List.take_zero,List.drop_zero,fZ];rw[rM,rM];refine⟨fun b hb=>?_,hs⟩;rcases cD.1 hb with rfl|hb
  .omega
  have:=hs.1 b hb;omega
def Ig{ls:ai}{i:Nat}{l:Let}(h:ls[i]?=some l)(hp:l.aE=true):Cg ls i=eB ls l:=by simp[Cg,h,hp]
structure CL (F:Nat) (ls:ai):Prop where
 fy:∀l∈ls,l.aE=true->vr F ls l
 inj:∀(i j:Nat) (l m:Let),ls[i]?=some l->ls[j]?=some m->l.aE=true->m.aE=true->eB ls l=eB ls m->i=j
def Z6{ls:ai}(h:CL F ls):∀k,k<=ls.length->(pS ls k).Pairwise (fun a b=>Cg ls a<Cg ls b):=by
 intro k
 induction k with
 |zero=>intro _;simp[pS]
 |succ k ih=>
  intro hk;have ih:=ih aa;rw[Ja];obtain⟨l,hl⟩:=aM (show k<ls.length by omega);unfold Bj;rw[hl];simp only;cases hp:l.aE with
  |false=>simpa using ih
  |true=>
   simp only[if_true];unfold AQ;have hm:=fun {x:Nat} (hx:x∈pS ls k)=>(Z5 (ls:=ls) (k:=k) aa).1 hx;refine apt ih (fun x hx=>?_) (fun x hx e=>?_)
   .obtain⟨h1,m,hm,xM⟩:=hm hx;rw[Ig hm xM,Ig hl hp];unfold BU;rw[hm,hl];simp only;have:=arT (h.fy m (aV hm) xM) (h.fy l (aV hl) hp);cases hb:HV m l with
    |true=>simpa using this.1 hb
    |false=>symm;rw[decide_eq_false_iff_not];intro hc;rw[this.2 hc] at hb;cases hb
   obtain⟨h1,m,hm,xM⟩:=hm hx;rw[Ig hm xM,Ig hl hp] at e;have:=h.inj x k m l hm hl xM hp e;omega
def aj0{ls:ai}:∀k,k<=ls.length->(pS ls k).length=aq Let.aE (ls.take k):=by
 intro k
 induction k with
 |zero=>intro _;simp[pS,aq]
 |succ k ih=>
  intro hk;have ih:=ih aa;rw[Ja];obtain⟨l,hl⟩:=aM (show k<ls.length by omega);unfold Bj;rw[hl];simp only;cases hp:l.aE with
  |false=>rw[kh hl hp];simpa using ih
  |true=>simp only[if_true];rw[apn,sK hl hp,ih]
def Gx{ls:ai}:(aG ls).length=aq Let.aE ls:=by have:=aj0 (ls:=ls) ls.length (bR _);rwa[lf] at this
def Gn{ls:ai}(h:rY F ls):fL ls (F+1)=(aG ls).length:=by
 rw[Gx,ac3];apply IC;intro l hl;cases hp:l.aE with
 |false=>simp
 |true=>have:=h l hl hp;simp only[Eg,cU,oO,iff_true];omega
def CL.rY{ls:ai}(h:CL F ls):rY F ls:=fun l hl hp=>⟨(h.fy l hl hp).g0,(h.fy l hl hp).g1⟩
def Bk{ls:ai}(h:CL F ls){k i:Nat}(hk:(aG ls)[k]?=some i):∃l,ls[i]?=some l/\l.aE=true/\eB ls l=k:=by
 have hs:((aG ls).map (Cg ls)).Pairwise (· < ·):=by rw[ym];exact Z6 h ls.length (bR _)
 have hT:=Gn h.rY;have aw:∀x∈(aG ls).map (Cg ls),x<((aG ls).map (Cg ls)).length:=by intro x hx;obtain⟨j,hj,rfl⟩:=dh.1 hx;obtain⟨l,hl,hp⟩:=ui.1 hj;rw[Ig hl hp,cM,<- hT];exact Yi (h.fy l (aV hl) hp)
 obtain⟨df,jT⟩:=aT.1 hk;have:=auJ hs aw k (by rw[cM];exact df);rw[Ei,jT] at this;obtain⟨l,hl,hp⟩:=ui.1 (aV hk);exact⟨l,hl,hp,by rw[<- Ig hl hp];exact this⟩
def Pm{ls:ai}(h:CL F ls){i:Nat}{l:Let}(hl:ls[i]?=some l)(hp:l.aE=true):(aG ls)[eB ls l]?=some i:=by have aw:=Yi (h.fy l (aV hl) hp);rw[Gn h.rY] at aw;obtain⟨j,hj⟩:=aM aw;obtain⟨m,hm,xM,he⟩:=Bk h hj;rw[hj,h.inj j i m l hm hl xM hp he]
def Gy{ls:ai}(h:CL F ls){i:Nat}{l:Let}(hl:ls[i]?=some l)(hp:l.aE=true):(aG ls).idxOf i=eB ls l:=by have h1:=Pm h hl hp;have h2:=aeu (aV h1);obtain⟨m,hm,xM,he⟩:=Bk h h2;rw[hl] at hm;cases hm;exact he.symm
def aj6{ls:ai}(h:CL F ls):tE ls (fL ls (F+1)) ls.length=aG ls:=by
 apply yj
 .rw[Z4,Gn h.rY]
 intro k h1 h2;simp only[tE,Ei,LF];obtain⟨l,hl,hp,he⟩:=Bk h (rL h2);generalize (aG ls)[k]=i at hl;unfold axP;have jS:=(aT.1 hl).1;have hf:(List.range ls.length).find? (tM ls k)=some i:=by
  refine Df jS (fun j hj=>?_) ?_
  .cases hh:tM ls k j with
   |false=>rfl
   |true=>
    unfold tM at hh;split at hh
    .rename_i m hm;simp only[cU,dk] at hh;have:=h.inj j i m l hm hl hh.1 hp (by rw[hh.2,he]);omega
    cases hh
  rw[Ni hl hp];simp[he]
 rw[hf];rfl
def Ro{ls:ai}(hr:mO ls=true){i:Nat}{l:Let}(hl:ls[i]?=some l)(hc:l.aA=true):hU ls ls.length l.id (!l.over)=some (fJ ls i)/\fJ ls i<ls.length:=by
 have NV:=YO ls;unfold mO at hr;simp only[cU,dk,gO,gV] at hr;obtain⟨⟨he,hx⟩,hlen⟩:=hr;obtain⟨hid,hp⟩:=Ix.1 hx;have hle:∀id∈fi ls ls.length,aq (mz id) ls<=2:=fun id _=>by rw[QV id];have:=BA hp id true;have:=BA hp id false;omega
 have h2:=ZR _ hle (by rw[NV,hlen];omega) l.id (QM (aV hl) hc);have e1:=Xq l.id l.over ls;have b1:=BA hp l.id l.over;have b2:=BA hp l.id (!l.over);obtain⟨x,hx,zb⟩:=zH.1 (show 0<ls.countP (sY l.id (!l.over)) by show 0<aq (sY l.id (!l.over)) ls;omega);obtain⟨p,j4⟩:=iJ hx;obtain⟨x1,x2,x3⟩:=rA.1 zb;have hpn:=(aT.1 j4).1;have gH:p≠i:=by
  rintro rfl
  rw[hl] at j4;cases j4;revert x3;cases l.over<;>simp
 have uniq:∀(j:Nat) (m:Let),ls[j]?=some m->m.aA=true->m.id=l.id->j≠i->j=p:=by intro j m hj mc mi BD;refine Decidable.byContradiction fun aI=>?_;have o1:=(hp j i m l hj hl mc hc mi BD).1;have o2:=(hp j p m x hj j4 mc x1 (by rw[mi,x2]) aI).1;rw[x3] at o2;revert o1 o2;cases m.over<;>cases l.over<;>simp
 have Ar:(List.range ls.length).find? (AW ls i)=some p:=by
  refine Df hpn (fun j hj=>?_) ?_
  .cases hh:AW ls i j with
   |false=>rfl
   |true=>
    unfold AW at hh;simp only[cU,bne_iff_ne,ne_eq] at hh;obtain⟨h1,h2⟩:=hh;split at h2
    .rename_i m hm;simp only[cU,dk,hl,nQ,nO] at h2;have:=uniq j m hm h2.1 h2.2 h1;omega
    cases h2
  unfold AW;rw[j4];simp[gH,x1,hl,x2]
 have ho:fJ ls i=p:=by unfold fJ;rw[Ar];rfl
 rw[ho];refine⟨?_,hpn⟩;unfold hU;refine Df hpn (fun j hj=>?_) ?_
 .cases hh:r6 ls l.id (!l.over) j with
  |false=>rfl
  |true=>
   obtain⟨m,hm,mc,mi,mo⟩:=BB hh;have BD:j≠i:=by
    rintro rfl
    rw[hl] at hm;cases hm;revert mo;cases l.over<;>simp
   have:=uniq j m hm mc mi BD;omega
 rw[JZ j4];exact zb
end
end Go.Abs
