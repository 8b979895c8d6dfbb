/- A part. -/
import Derived.Test.YtfohniicngjeoaaGreatDoorSa
set_option linter.all false
set_option maxRecDepth 100000
set_option maxHeartbeats 16000000
namespace Go.Abs
section
variable{f:Int}{F:Nat}
structure Let where
 kind:Int
 gate:Int
 aD:Int
 id:Int
 sign:Int
 over:Bool
 deriving DecidableEq
def Let.ps(l:Let):List PV:=[.int .i64 l.kind,.int .i64 l.gate,.int .i64 l.aD,.int .i64 l.id,.int .i64 l.sign,.bool l.over]
def Let.aE(l:Let):Bool:=l.kind==1
def Let.aB(l:Let):Bool:=l.kind==2
abbrev cF(ls:List Let):PV:=.sl (ls.map Let.ps)
abbrev dX(f:Int)(ls:List Let):V:=.agg [.p (.int .i64 f),.p (cF ls)]
abbrev tk(f:Int)(ls:List Let):List C:=[.p (.int .i64 f),.p (cF ls)]
abbrev vi(k:Int):V:=.one (.p (.int .i64 k))
abbrev vb(b:Bool):V:=.one (.p (.bool b))
abbrev ri(k:Int):RV:=.one (.p (.int .i64 k))
abbrev rb(k:Bool):RV:=.one (.p (.bool k))
abbrev aw(p:Let->Bool)(ls:List Let):Nat:=ls.countP p
theorem aL{α:Type}{ls:List α}{k:Nat}(h:k<ls.length):∃l,ls[k]?=some l:=⟨ls[k],by simp[h]⟩
theorem ru{p:Let->Bool}{ls:List Let}{k:Nat}{l:Let}(h:ls[k]?=some l)(hp:p l=true):aw p (ls.take (k+1))=aw p (ls.take k)+1:=by unfold aw;obtain⟨hk,rfl⟩:=aW.1 h;rw[List.take_succ_eq_append_getElem hk,vF,List.countP_singleton,if_pos hp]
theorem jC{p:Let->Bool}{ls:List Let}{k:Nat}{l:Let}(h:ls[k]?=some l)(hp:p l=false):aw p (ls.take (k+1))=aw p (ls.take k):=by unfold aw;obtain⟨hk,rfl⟩:=aW.1 h;rw[List.take_succ_eq_append_getElem hk,vF,List.countP_singleton,hp];rfl
theorem yB(p:Let->Bool)(ls:List Let)(k:Nat):aw p (ls.take k)<=k:=mD Nt (by rw[iu];exact Nat.min_le_left _ _)
theorem tj(p:Let->Bool)(ls:List Let):aw p ls<=ls.length:=Nt
theorem iI{ls:List Let}{k:Nat}{l:Let}(h:ls[k]?=some l):(ls.map Let.ps)[k]?=some l.ps:=by simp[h]
theorem wrap_add{a b:Nat}(h:a+b<=9223372036854775807):IntKind.i64.wrap ((a:Int)+(b:Int))=((a+b:Nat):Int):=wrap_small (n:=a+b) h
theorem tX{a:Nat}(h:2*a<=9223372036854775807):IntKind.i64.wrap (2*(a:Int))=((2*a:Nat):Int):=wrap_small (n:=2*a) h
theorem WB{a b:Nat}(h:b<=a)(h2:a<=9223372036854775807):IntKind.i64.wrap ((a:Int)-(b:Int))=((a-b:Nat):Int):=by have:((a:Int)-(b:Int))=((a-b:Nat):Int):=aa;rw[this];exact wrap_small aa
theorem GV{a:Nat}(h:1<=a)(h2:a<=9223372036854775807):IntKind.i64.wrap ((a:Int)-1)=((a-1:Nat):Int):=WB (b:=1) h h2
def Wg(x y:Option (List PV×List Nat))(f:Nat):Option (PV×List Nat):=match x,y with
 |some (x,r),some (y,s)=>some (.fn f x y,r++s)
 |_,_=>none
theorem aqL{x y:List PV}{r s:List Nat}{f:Nat}:Wg (some (x,r)) (some (y,s)) f=some (.fn f x y,r++s):=rfl
theorem aqP{aj:aA}{f:Nat}{a b:List C}:snap aj fH (.hfn f a b)=Wg (collect (snap aj 5) a) (collect (snap aj 5) b) f:=by unfold fH;rw[snap];unfold Wg;rfl
theorem aqQ{aj:aA}{n id g off:Nat}:snap aj (n+1) (.aY id g off)=Qq (aj id) (collect (snap aj n)) id g off:=by rw[snap];rfl
theorem aqR{aj:aA}{n id g z off len:Nat}:snap aj (n+1) (.hsl id g z off len)=Qr (aj id) (collect (collect (snap aj n))) id g off len:=by rw[snap];rfl
theorem aG{b:Bool}(h:b=true:=by kernel_rfl):b=true:=h
theorem aZ{f:Nat}{fn:aX}{args:List V}{r:RV}(hf:S.fns f=some fn)(h:W S .all fn.body (mJ .all fn.results fun v aj=>iU aj v=some r) (rL args) zo)(hp:S.prim f args=none:=by rfl)(hl:args.length<=fn.ntmps:=by exact iv rfl):aI S f args r:=afY hp hf hl h
theorem ez:¬((2:Int)=0):=ae
theorem vB(a b:Nat):(a:Int).tmod b=((a%b:Nat):Int):=by rw[Int.tmod_eq_emod_of_nonneg aa];rfl
theorem jy(a:Nat):(a:Int).tmod 2=((a%2:Nat):Int):=vB a 2
theorem fE(a:Nat):(a:Int).tdiv 2=((a/2:Nat):Int):=by rw[Int.tdiv_eq_ediv_of_nonneg aa];rfl
theorem eE{n:Nat}:¬((n:Int)<(n:Int)):=aa
theorem ps_len(l:Let):l.ps.length=6:=rfl
theorem ajP{aj:aA}{all:List Nat}:uk aj all []=some []:=rfl
attribute [go_sem] aqP aqL aqQ aqR ajP
def n9(g:Int)(l:Let):Bool:=l.aE&&l.gate==g
def lM(g:Int)(l:Let):Bool:=l.aB&&l.id==g
theorem VL(f:Int)(ls:List Let)(hl:ls.length<=1000000):aI S 88 [dX f ls] (ri (aw Let.aE ls)):=by
 refine aZ c88 ?_;simp only[go_sem,i88];refine cV (fun k ak _=>ak 7=.one (.p (cF ls))/\ak 8=vi ls.length/\ak 9=vi k/\ak 3=vi (aw Let.aE (ls.take k))) 0 ls.length (bG _) ?_ ?_
 .simp only[go_sem];exact⟨rfl,rfl⟩
 rintro k ak aj hk ⟨h7,h8,h9,h3⟩
 by_cases ay:k<ls.length
 .obtain⟨l,cK⟩:=aL ay;have hi:=iI cK;have aJ:((k:Int)<(ls.length:Int)):=aa;have hb:=yB (Let.aE) ls k;have w1:=cn (n:=k) aa;have w2:=cn (n:=aw (Let.aE) (ls.take k)) aa;cases hp:(l.kind==1) with
  |true=>have hc:=ru (p:=Let.aE) cK hp;simp only[go_sem,i88_l1,h3,h7,h8,h9,hi,Let.ps,aJ,w1,w2,hp,hc];first|exact ay|exact⟨ay,rfl⟩
  |false=>have hc:=jC (p:=Let.aE) cK hp;simp only[go_sem,i88_l1,h3,h7,h8,h9,hi,Let.ps,aJ,w1,hp,hc];first|exact ay|exact⟨ay,rfl⟩
 have:k=ls.length:=aa;subst this;rw[kS] at h3;simp only[go_sem,i88_l1,i88_r2,h3,h8,h9,eE]
theorem R9(f:Int)(ls:List Let)(hl:ls.length<=1000000):aI S 42 [dX f ls] (ri (aw Let.aB ls)):=by
 refine aZ c42 ?_;simp only[go_sem,i42];refine cV (fun k ak _=>ak 7=.one (.p (cF ls))/\ak 8=vi ls.length/\ak 9=vi k/\ak 3=vi (aw Let.aB (ls.take k))) 0 ls.length (bG _) ?_ ?_
 .simp only[go_sem];exact⟨rfl,rfl⟩
 rintro k ak aj hk ⟨h7,h8,h9,h3⟩
 by_cases ay:k<ls.length
 .obtain⟨l,cK⟩:=aL ay;have hi:=iI cK;have aJ:((k:Int)<(ls.length:Int)):=aa;have hb:=yB (Let.aB) ls k;have w1:=cn (n:=k) aa;have w2:=cn (n:=aw (Let.aB) (ls.take k)) aa;cases hp:(l.kind==2) with
  |true=>have hc:=ru (p:=Let.aB) cK hp;simp only[go_sem,i42_l1,h3,h7,h8,h9,hi,Let.ps,aJ,w1,w2,hp,hc];first|exact ay|exact⟨ay,rfl⟩
  |false=>have hc:=jC (p:=Let.aB) cK hp;simp only[go_sem,i42_l1,h3,h7,h8,h9,hi,Let.ps,aJ,w1,hp,hc];first|exact ay|exact⟨ay,rfl⟩
 have:k=ls.length:=aa;subst this;rw[kS] at h3;simp only[go_sem,i42_l1,i42_r2,h3,h8,h9,eE]
theorem Yk(f:Int)(ls:List Let)(hl:ls.length<=1000000):aI S 92 [dX f ls] (ri ((aw Let.aB ls/2:Nat))):=by
 have hb:=tj Let.aB ls;have e1:IntKind.i64.wrap ((aw Let.aB ls:Int).tdiv 2)=((aw Let.aB ls/2:Nat):Int):=by
  have:(aw Let.aB ls:Int).tdiv 2=((aw Let.aB ls/2:Nat):Int):=by rw[Int.tdiv_eq_ediv_of_nonneg aa];omega
  rw[this];exact wrap_small aa
 refine aZ c92 ?_;simp only[go_sem,i92,s42,eJ (R9 f ls hl),e1,(by decide:¬(2:Int)=0)]
theorem an6(f:Int)(ls:List Let)(hl:ls.length<=1000000):aI S 32 [dX f ls] (ri (aw Let.aE ls)):=by
 refine aZ c32 ?_;simp only[go_sem,i32];refine cV (fun k ak aj=>ak 1=.one (.aY 2048000000 1 0)/\aj 2048000000=(1,some (.var (tk f ls)))/\ak 4=vi k/\ak 3=vi (aw Let.aE (ls.take k))) 0 ls.length (bG _) ?_ ?_
 .simp only[go_sem];first|exact⟨rfl,rfl⟩|exact⟨rfl,rfl,rfl⟩
 rintro k ak aj hk ⟨cD,hB,kA,iH⟩
 by_cases ay:k<ls.length
 .obtain⟨l,cK⟩:=aL ay;have hi:=iI cK;have aJ:((k:Int)<(ls.length:Int)):=aa;have hb:=yB (Let.aE) ls k;have w1:=cn (n:=k) aa;have w2:=cn (n:=aw (Let.aE) (ls.take k)) aa;cases hp:(l.kind==1) with
  |true=>have hc:=ru (p:=Let.aE) cK hp;simp only[go_sem,i32_l1,cD,hB,kA,iH,hi,Let.ps,aJ,w1,w2,hp,hc];first|exact ay|exact⟨ay,rfl⟩
  |false=>have hc:=jC (p:=Let.aE) cK hp;simp only[go_sem,i32_l1,cD,hB,kA,iH,hi,Let.ps,aJ,w1,hp,hc];first|exact ay|exact⟨ay,rfl⟩
 have:k=ls.length:=aa;subst this;rw[kS] at iH;simp only[go_sem,i32_l1,i32_r2,cD,hB,kA,iH,eE]
theorem Wu(f:Int)(ls:List Let)(hl:ls.length<=1000000):aI S 31 [dX f ls] (ri (aw Let.aB ls)):=by
 refine aZ c31 ?_;simp only[go_sem,i31];refine cV (fun k ak aj=>ak 1=.one (.aY 1984000000 1 0)/\aj 1984000000=(1,some (.var (tk f ls)))/\ak 4=vi k/\ak 3=vi (aw Let.aB (ls.take k))) 0 ls.length (bG _) ?_ ?_
 .simp only[go_sem];first|exact⟨rfl,rfl⟩|exact⟨rfl,rfl,rfl⟩
 rintro k ak aj hk ⟨cD,hB,kA,iH⟩
 by_cases ay:k<ls.length
 .obtain⟨l,cK⟩:=aL ay;have hi:=iI cK;have aJ:((k:Int)<(ls.length:Int)):=aa;have hb:=yB (Let.aB) ls k;have w1:=cn (n:=k) aa;have w2:=cn (n:=aw (Let.aB) (ls.take k)) aa;cases hp:(l.kind==2) with
  |true=>have hc:=ru (p:=Let.aB) cK hp;simp only[go_sem,i31_l1,cD,hB,kA,iH,hi,Let.ps,aJ,w1,w2,hp,hc];first|exact ay|exact⟨ay,rfl⟩
  |false=>have hc:=jC (p:=Let.aB) cK hp;simp only[go_sem,i31_l1,cD,hB,kA,iH,hi,Let.ps,aJ,w1,hp,hc];first|exact ay|exact⟨ay,rfl⟩
 have:k=ls.length:=aa;subst this;rw[kS] at iH;simp only[go_sem,i31_l1,i31_r2,cD,hB,kA,iH,eE]
theorem aie(f:Int)(ls:List Let)(hl:ls.length<=1000000):aI S 35 [dX f ls] (ri ((aw Let.aB ls/2:Nat))):=by
 have hb:=tj Let.aB ls;have e1:IntKind.i64.wrap ((aw Let.aB ls:Int).tdiv 2)=((aw Let.aB ls/2:Nat):Int):=by
  have:(aw Let.aB ls:Int).tdiv 2=((aw Let.aB ls/2:Nat):Int):=by rw[Int.tdiv_eq_ediv_of_nonneg aa];omega
  rw[this];exact wrap_small aa
 refine aZ c35 ?_;simp only[go_sem,i35,s31,eJ (Wu f ls hl),e1,(by decide:¬(2:Int)=0)]
theorem in_r(f:Int)(ls:List Let)(hl:ls.length<=1000000)(g:Int):aI S 54 [dX f ls,vi g] (ri (aw (n9 g) ls)):=by
 refine aZ c54 ?_;simp only[go_sem,i54];refine cV (fun k ak aj=>ak 2=.one (.aY 3456000000 1 0)/\aj 3456000000=(1,some (.var (tk f ls)))/\ak 6=vi k/\ak 5=vi (aw (n9 g) (ls.take k))/\ak 1=vi g) 0 ls.length (bG _) ?_ ?_
 .simp only[go_sem];first|exact⟨rfl,rfl⟩|exact⟨rfl,rfl,rfl⟩
 rintro k ak aj hk ⟨cD,hB,kA,iH,Ce⟩
 by_cases ay:k<ls.length
 .obtain⟨l,cK⟩:=aL ay;have hi:=iI cK;have aJ:((k:Int)<(ls.length:Int)):=aa;have hb:=yB ((n9 g)) ls k;have w1:=cn (n:=k) aa;have w2:=cn (n:=aw ((n9 g)) (ls.take k)) aa;cases hp:(l.kind==1) with
  |true=>
   cases hq:(l.gate==g) with
   |true=>have hc:=ru (p:=(n9 g)) cK (by simp only[n9,Let.aE,hp,hq];rfl);simp only[go_sem,i54_l1,cD,hB,kA,iH,hi,Let.ps,aJ,w1,w2,Ce,hp,hq,hc];first|exact ay|exact⟨ay,rfl⟩
   |false=>have hc:=jC (p:=(n9 g)) cK (by simp only[n9,Let.aE,hp,hq];rfl);simp only[go_sem,i54_l1,cD,hB,kA,iH,hi,Let.ps,aJ,w1,Ce,hp,hq,hc];first|exact ay|exact⟨ay,rfl⟩
  |false=>have hc:=jC (p:=(n9 g)) cK (by simp only[n9,Let.aE,hp];rfl);simp only[go_sem,i54_l1,cD,hB,kA,iH,hi,Let.ps,aJ,w1,Ce,hp,hc];first|exact ay|exact⟨ay,rfl⟩
 have:k=ls.length:=aa;subst this;rw[kS] at iH;simp only[go_sem,i54_l1,i54_r2,cD,hB,kA,iH,eE]
theorem arC(f:Int)(ls:List Let)(hl:ls.length<=1000000)(g:Int):aI S 55 [dX f ls,vi g] (ri (aw (lM g) ls)):=by
 refine aZ c55 ?_;simp only[go_sem,i55];refine cV (fun k ak aj=>ak 2=.one (.aY 3520000000 1 0)/\aj 3520000000=(1,some (.var (tk f ls)))/\ak 6=vi k/\ak 5=vi (aw (lM g) (ls.take k))/\ak 1=vi g) 0 ls.length (bG _) ?_ ?_
 .simp only[go_sem];first|exact⟨rfl,rfl⟩|exact⟨rfl,rfl,rfl⟩
 rintro k ak aj hk ⟨cD,hB,kA,iH,Ce⟩
 by_cases ay:k<ls.length
 .obtain⟨l,cK⟩:=aL ay;have hi:=iI cK;have aJ:((k:Int)<(ls.length:Int)):=aa;have hb:=yB ((lM g)) ls k;have w1:=cn (n:=k) aa;have w2:=cn (n:=aw ((lM g)) (ls.take k)) aa;cases hp:(l.kind==2) with
  |true=>
   cases hq:(l.id==g) with
   |true=>have hc:=ru (p:=(lM g)) cK (by simp only[lM,Let.aB,hp,hq];rfl);simp only[go_sem,i55_l1,cD,hB,kA,iH,hi,Let.ps,aJ,w1,w2,Ce,hp,hq,hc];first|exact ay|exact⟨ay,rfl⟩
   |false=>have hc:=jC (p:=(lM g)) cK (by simp only[lM,Let.aB,hp,hq];rfl);simp only[go_sem,i55_l1,cD,hB,kA,iH,hi,Let.ps,aJ,w1,Ce,hp,hq,hc];first|exact ay|exact⟨ay,rfl⟩
  |false=>have hc:=jC (p:=(lM g)) cK (by simp only[lM,Let.aB,hp];rfl);simp only[go_sem,i55_l1,cD,hB,kA,iH,hi,Let.ps,aJ,w1,Ce,hp,hc];first|exact ay|exact⟨ay,rfl⟩
 have:k=ls.length:=aa;subst this;rw[kS] at iH;simp only[go_sem,i55_l1,i55_r2,cD,hB,kA,iH,eE]
def dn (ls:List Let)(i:Nat):Bool:=aw Let.aE (ls.take i)%2==0
theorem Sg(f:Int)(ls:List Let)(i:Nat)(hl:ls.length<=1000000)(yY:i<=ls.length):aI S 81 [dX f ls,vi i] (rb (dn ls i)):=by
 refine aZ c81 ?_;simp only[go_sem,i81];refine cV (fun k ak aj=>ak 1=vi i/\ak 2=.one (.aY 5184000000 1 0)/\aj 5184000000=(1,some (.var (tk f ls)))/\ak 6=vi k/\ak 5=vi (aw Let.aE (ls.take k))) 0 i (bG _) ?_ ?_
 .simp only[go_sem];exact⟨rfl,rfl⟩
 rintro k ak aj hk ⟨h1,cD,hB,kA,iH⟩
 have hb:=yB Let.aE ls k;by_cases ay:k<i
 .obtain⟨l,cK⟩:=aL (ls:=ls) (k:=k) aa;have hi:=iI cK;have aJ:((k:Int)<(i:Int)):=aa;have w1:=cn (n:=k) aa;have w2:=cn (n:=aw Let.aE (ls.take k)) aa;cases hp:(l.kind==1) with
  |true=>have hc:=ru (p:=Let.aE) cK hp;simp only[go_sem,i81_l1,h1,cD,hB,kA,iH,hi,Let.ps,aJ,w1,w2,hp,hc];exact ay
  |false=>have hc:=jC (p:=Let.aE) cK hp;simp only[go_sem,i81_l1,h1,cD,hB,kA,iH,hi,Let.ps,aJ,w1,hp,hc];exact ay
 have:k=i:=aa;subst this;have e2:((((aw Let.aE (ls.take k))%2:Nat):Int)==0)=dn ls k:=by
  unfold dn;cases h:(aw Let.aE (ls.take k)%2==0) with
  |true=>simp at h ⊢;omega
  |false=>simp at h ⊢;omega
 simp only[go_sem,i81_l1,i81_r2,h1,kA,iH,eE,ez,jy,e2]
theorem amx(a b:Let):aI S 79 [.agg (a.ps.map .p),.agg (b.ps.map .p)] (rb (decide (a.gate<b.gate)||(a.gate==b.gate&&decide (a.aD<b.aD)))):=by
 refine aZ c79 ?_;by_cases h1:a.gate<b.gate
 .simp only[go_sem,i79,Let.ps,h1]
 cases h2:(a.gate==b.gate) with
 |true=>simp only[go_sem,i79,Let.ps,h1,h2]
 |false=>simp only[go_sem,i79,Let.ps,h1,h2]
def dJ(n i:Nat)(fw:Bool):Nat:=if fw then 2*i else 2*((i+n-1)%n)+1
theorem Q5(f:Int)(ls:List Let)(i:Nat)(fw:Bool)(hl:ls.length<=1000000)(hi:i<ls.length):aI S 80 [dX f ls,vi i,vb fw] (ri (dJ ls.length i fw)):=by
 refine aZ c80 ?_;cases fw with
 |true=>have e:IntKind.i64.wrap (2*(i:Int))=((2*i:Nat):Int):=wrap_small (n:=2*i) aa;simp only[go_sem,i80,e,dJ]
 |false=>
  have w1:IntKind.i64.wrap ((i:Int)+(ls.length:Int))=((i+ls.length:Nat):Int):=wrap_small (n:=i+ls.length) aa;have w2:IntKind.i64.wrap (((i+ls.length:Nat):Int)-1)=((i+ls.length-1:Nat):Int):=by have:(((i+ls.length:Nat):Int)-1)=((i+ls.length-1:Nat):Int):=aa;rw[this];exact wrap_small aa
  have e1:=vB (i+ls.length-1) ls.length;have hm:=eH (i+ls.length-1) (show 0<ls.length by omega);have w3:IntKind.i64.wrap (2*(((i+ls.length-1)%ls.length:Nat):Int))=((2*((i+ls.length-1)%ls.length):Nat):Int):=wrap_small (n:=2*((i+ls.length-1)%ls.length)) aa;have w4:=cn (n:=2*((i+ls.length-1)%ls.length)) aa;have hz:¬((ls.length:Int)=0):=aa;simp only[go_sem,i80,w1,w2,e1,w3,w4,hz,dJ]
def zt(ls:List Let)(i j:Nat):Bool:=j !=i&&(match ls[j]? with|some l=>l.aB&&l.id==((ls[i]?).map Let.id).getD 0|none=>false)
def fN(ls:List Let)(i:Nat):Nat:=((List.range ls.length).find? (zt ls i)).getD i
theorem B0{p:Nat->Bool}:∀ {n k:Nat},k<n->(∀j,j<k->p j=false)->p k=true->(List.range n).find? p=some k:=by intro n k hk hn hp;exact List.find?_range_eq_some.2 ⟨hp,by simpa using hk,fun j hj=>by simp[hn j hj]⟩
theorem HZ{p:Nat->Bool}{n:Nat}(hn:∀j,j<n->p j=false):(List.range n).find? p=none:=by rw[Ha];intro x hx;simp[hn x (by simpa using hx)]
theorem anV(f:Int)(ls:List Let)(i:Nat)(hl:ls.length<=1000000)(yY:i<ls.length):aI S 82 [dX f ls,vi i] (ri (fN ls i)):=by
 obtain⟨li,uy⟩:=aL yY;have gI:=iI uy;have key:∀j l,ls[j]?=some l->zt ls i j=(j !=i&&(l.aB&&l.id==li.id)):=fun j l h=>by simp[zt,h,uy]
 refine aZ c82 ?_;simp only[go_sem,i82];refine cV (fun k ak aj=>ak 1=vi i/\ak 2=.one (.aY 5248000000 1 0)/\aj 5248000000=(1,some (.var (tk f ls)))/\ak 5=vi k/\ ∀j,j<k->zt ls i j=false) 0 ls.length (bG _) ?_ ?_
 .simp only[go_sem];exact⟨rfl,fun j h=>absurd h (qY j)⟩
 rintro k ak aj hk ⟨h1,cD,hB,kA,hn⟩
 by_cases ay:k<ls.length
 .obtain⟨l,cK⟩:=aL ay;have hi:=iI cK;have aJ:((k:Int)<(ls.length:Int)):=aa;have w1:=cn (n:=k) aa;have Ee:=key k l cK;have step:zt ls i k=false->∀j,j<k+1->zt ls i j=false:=fun h j hj=>by
   rcases mY.1 hj with h2|rfl
   .exact hn j h2
   exact h
  by_cases hki:k=i
  .have hb:((k:Int)!=(i:Int))=false:=by simp[hki]
   have hs:=step (by rw[Ee];simp[hki]);simp only[go_sem,i82_l1,h1,cD,hB,kA,aJ,w1,hb];exact⟨ah,ay,hs⟩
  have hb:((k:Int)!=(i:Int))=true:=by simp;omega
  have bj:(k !=i)=true:=by simp[hki]
  cases hp:(l.kind==2) with
  |false=>have hs:=step (by rw[Ee,bj,Let.aB,hp];rfl);simp only[go_sem,i82_l1,h1,cD,hB,kA,hi,Let.ps,aJ,w1,hb,hp];exact⟨ah,ay,hs⟩
  |true=>
   cases hq:(l.id==li.id) with
   |false=>have hs:=step (by rw[Ee,bj,Let.aB,hp,hq];rfl);simp only[go_sem,i82_l1,h1,cD,hB,kA,hi,gI,Let.ps,aJ,w1,hb,hp,hq];exact⟨ah,ay,hs⟩
   |true=>
    have hf:fN ls i=k:=by unfold fN;rw[B0 ay hn (by rw[Ee,bj,Let.aB,hp,hq];rfl)];rfl
    simp only[go_sem,i82_l1,h1,cD,hB,kA,hi,gI,Let.ps,aJ,hb,hp,hq,hf];show sT _ _ _=true
    kernel_rfl
 have:k=ls.length:=aa;subst this;have hf:fN ls i=i:=by unfold fN;rw[HZ hn];rfl
 simp only[go_sem,i82_l1,i82_r2,h1,cD,hB,kA,eE,hf]
abbrev AZ(l:List Nat):PV:=.sl (l.map fun n:Nat=>[.int .i64 (n:Int)])
theorem at_r(l:List Nat)(n k0:Nat)(hl:l.length<=1000000)(Ak:l[k0]?=some n)(hn:∀j,j<k0->l[j]? ≠some n):aI S 83 [.one (.p (AZ l)),vi n] (ri k0):=by
 have hk0l:=(aW.1 Ak).1;refine aZ c83 ?_;simp only[go_sem,i83];refine cV (fun k ak aj=>ak 0=.one (.p (AZ l))/\ak 1=vi n/\ak 5=vi k) 0 k0 (bG _) ?_ ?_
 .simp only[go_sem];rfl
 rintro k ak aj hk ⟨h0,h1,h5⟩
 have aJ:((k:Int)<(l.length:Int)):=aa;have w1:=cn (n:=k) aa;obtain⟨m,hm⟩:=aL (ls:=l) (k:=k) aa;have hi:(l.map fun n:Nat=>[PV.int .i64 (n:Int)])[k]?=some [.int .i64 (m:Int)]:=by simp[hm]
 by_cases ay:k<k0
 .have aH:((m:Int)==(n:Int))=false:=by
   have:m≠n:=fun e=>hn k ay (by rw[hm,e]);simp;omega
  simp only[go_sem,i83_l1,h0,h1,h5,aJ,w1,hi,aH];exact ay
 have:k=k0:=aa;subst this;have e:m=n:=by rw[hm] at Ak;exact qZ Ak
 subst e;simp only[go_sem,i83_l1,h0,h1,h5,aJ,hi]
abbrev I7(l:Let):V:=.agg [.p (.int .i64 l.kind),.p (.int .i64 l.gate),.p (.int .i64 l.aD),.p (.int .i64 l.id),.p (.int .i64 l.sign),.p (.bool l.over)]
def Gw(a b:Let):Bool:=decide (a.gate<b.gate)||(a.gate==b.gate&&decide (a.aD<b.aD))
theorem amy(a b:Let):aI S 79 [I7 a,I7 b] (rb (Gw a b)):=amx a b
abbrev nP(o:List Nat):List (List PV):=o.map fun n:Nat=>[PV.int .i64 (n:Int)]
theorem j9{o:List Nat}{k n:Nat}(h:o[k]?=some n):(nP o)[k]?=some [.int .i64 (n:Int)]:=by simp[h]
def AQ(ls:List Let)(i j:Nat):Bool:=match ls[j]?,ls[i]? with
 |some a,some b=>Gw a b
 |_,_=>false
def zi(ls:List Let)(o:List Nat)(i:Nat):List Nat:=o.take (o.takeWhile (AQ ls i)).length++i::o.drop (o.takeWhile (AQ ls i)).length
def zO(ls:List Let)(o:List Nat)(i:Nat):List Nat:=match ls[i]? with
 |some l=>if l.aE then zi ls o i else o
 |none=>o
def aF(ls:List Let):List Nat:=(List.range ls.length).foldl (zO ls) []
def nM(ls:List Let)(k:Nat):List Nat:=(List.range k).foldl (zO ls) []
theorem Hv(ls:List Let)(k:Nat):nM ls (k+1)=zO ls (nM ls k) k:=by unfold nM;rw[wT,Kd];rfl
theorem agU{ls:List Let}{o:List Nat}{i:Nat}{x:Nat}(h:x∈zO ls o i):x∈o\/x=i:=by
 unfold zO at h;split at h
 .split at h
  .unfold zi at h;rcases fg.1 h with h|h
   .exact .inl (yg h)
   rcases cP.1 h with h|h
   .exact .inr h
   exact .inl (wR h)
  exact .inl h
 exact .inl h
theorem NM{ls:List Let}:∀ {k x:Nat},x∈nM ls k->x<k:=by
 intro k
 induction k with
 |zero=>intro x h;simp[nM] at h
 |succ k ih=>
  intro x h;rw[Hv] at h;rcases agU h with h|h
  .have:=ih h;omega
  omega
theorem vL(ls:List Let):∀k,(nM ls k).length<=k:=by
 intro k
 induction k with
 |zero=>simp[nM]
 |succ k ih=>
  rw[Hv];unfold zO;split
  .split
   .unfold zi;simp only[gh,dh,iu,kO];omega
   omega
  omega
def EI(site:Nat)(o:List Nat)(v:V)(aj:aA):Prop:=(o=[]/\v=.one (.p .nils))\/(o≠[]/\ ∃g,v=.one (.hsl site g 1 0 o.length)/\aj site=(g,some (.arr 3 1 (nP o))))
theorem agW{o:List Nat}{i K:Nat}{ak:Env}{aj:aA}{Q:dA}(ho:EI 3584576640 o (ak 3) aj)(h4:ak 4=vi i)(h5:ak 5=vi K)(hK:K<=o.length)(hl:o.length<=1000000)
  (hq:∀aC ao,aC 1=ak 1->aC 4=ak 4->ao 3584000000=aj 3584000000->EI 3584576640 (o.take K++i::o.drop K) (aC 3) ao->Q .normal aC ao):
  W S .all i56_r2 Q ak aj:=by
 rcases ho with ⟨rfl,h3⟩|⟨ho,g,h3,hC⟩
 .have hK0:K=0:=by simpa using hK
  subst hK0;simp only[go_sem,i56_r2,h3,h4,h5,fQ,ie];refine⟨ah,hq _ _ ?_ ?_ ?_ (.inr ⟨af,(aj 3584576640).1+1,?_,?_⟩)⟩;all_goals simp only[go_sem]
 have lX:∀n:Nat,n<=1000001->n*8<=140737488355328:=fun n hn=>aa;by_cases hK0:K=0
 .subst hK0;have ht:List.take o.length (nP o)=nP o:=gR af;have jv:=lX (1+o.length) aa;simp only[go_sem,i56_r2,h3,h4,h5,hC,ht,jv,fQ,ie];refine⟨ah,hq _ _ ?_ ?_ ?_ (.inr ⟨af,g+1,?_,?_⟩)⟩;all_goals simp only[go_sem]
  simp;omega
 have ht:(List.take K (nP o)).length=K:=by simp;omega
 have htt:List.take K (List.take K (nP o))=List.take K (nP o):=by rw[Hg,Nat.min_self]
 have mq:List.take (K+1) (List.take K (nP o)++[[PV.int .i64 (i:Int)]])=List.take K (nP o)++[[PV.int .i64 (i:Int)]]:=gR (by simp;omega);have htd:List.take (o.length-K) (List.drop K (nP o))=List.drop K (nP o):=gR af;have hld:(List.drop K (nP o)).length=o.length-K:=af;have vd:(List.take K (nP o)++[[PV.int .i64 (i:Int)]]).length=K+1:=by simp;omega
 have jv:=lX K aa;have tF:=lX (K+1) aa;have hr3:=lX (K+1+(o.length-K)) aa;have hle:K+(o.length-K)<=o.length:=aa;simp only[go_sem,i56_r2,h3,h4,h5,hC,hK,ht,hK0,jv,tF,hr3,htt,mq,htd,hld,vd,hle,fQ,ie];refine⟨ah,hq _ _ ?_ ?_ ?_ (.inr ⟨af,g+1,?_,?_⟩)⟩;all_goals simp only[go_sem]
 .simp;omega
 simp
theorem aru{α:Type}{p:α->Bool}{l:List α}{K:Nat}(hK:K<=l.length)(h1:∀j x,j<K->l[j]?=some x->p x=true)(h2:∀x,l[K]?=some x->p x=false):(l.takeWhile p).length=K:=by
 induction l generalizing K with
 |nil=>simp at hK ⊢;omega
 |cons a l ih=>
  cases K with
  |zero=>have:=h2 a rfl;simp[List.takeWhile,this]
  |succ K=>have:=h1 0 a aa rfl;simp only[List.takeWhile,this,dh];rw[ih (by simpa using hK) (fun j x hj hx=>h1 (j+1) x aa (by simpa using hx)) (fun x hx=>h2 x (by simpa using hx))]
theorem agZ{ls:List Let}{f:Int}{o:List Nat}{i:Nat}{li:Let}{ak:Env}{aj:aA}{Q:dA}(ho:EI 3584576640 o (ak 3) aj)(h1:ak 1=.one (.aY 3584000000 1 0))(hB:aj 3584000000=(1,some (.var (tk f ls))))(h4:ak 4=vi i)(h5:ak 5=vi 0)
  (uy:ls[i]?=some li) (ay:∀x∈o,x<ls.length) (hl:o.length<=1000000)
  (hq:∀aC ao,aC 1=ak 1->aC 4=ak 4->ao 3584000000=aj 3584000000->EI 3584576640 (zi ls o i) (aC 3) ao->Q .normal aC ao):
  W S .all (.loop i56_l1) (mI 2 (zB S .all i56_r2 Q)) ak aj:=by
 have gI:=iI uy;refine cV (fun k aC ao=>aC 1=ak 1/\aC 4=ak 4/\aC 3=ak 3/\ao=aj/\aC 5=vi k/\ ∀j x,j<k->o[j]?=some x->AQ ls i x=true) 0 o.length (bG _) ?_ ?_
 .exact⟨rfl,rfl,rfl,rfl,h5,fun j x hj=>absurd hj (qY j)⟩
 rintro k aC ao hk ⟨jO,uZ,qH,rfl,DO,hp⟩
 rw[h1] at jO;rw[h4] at uZ;have fin:∀e:Env,e 1=aC 1->e 4=aC 4->e 3=aC 3->e 5=aC 5->(∀x,o[k]?=some x->AQ ls i x=false)->W S .all i56_r2 Q e ao:=by
  intro e e1 e4 e3 e5 jt;have hK:=aru hk hp jt;have k8:EI 3584576640 o (e 3) ao:=by rw[e3,qH];exact ho
  refine agW (i:=i) (K:=k) k8 (by rw[e4,uZ]) (by rw[e5,DO]) hk hl ?_;intro cT bh q1 q2 q3 q4;refine hq cT bh (by rw[q1,e1,jO,h1]) (by rw[q2,e4,uZ,h4]) q3 ?_;unfold zi;rw[hK];exact q4
 by_cases cK:k<o.length
 .obtain⟨x,hx⟩:=aL cK;have vk:=ay x (aU hx);obtain⟨lx,hlx⟩:=aL vk;have jF:=iI hlx;have hnx:=j9 hx;have aJ:((k:Int)<(o.length:Int)):=aa;have w1:=cn (n:=k) aa;have aba:AQ ls i x=Gw lx li:=by simp[AQ,hlx,uy]
  have PK:=amy lx li;rcases ho with ⟨rfl,_⟩|⟨ho,g,h3,hC⟩
  .simp at cK
  rw[h3] at qH;cases hb:Gw lx li with
  |true=>
   rw[hb] at PK;simp only[go_sem,i56_l1,h1,h3,h4,jO,qH,uZ,DO,hB,hC,aJ,hnx,jF,gI,Let.ps,cK,w1,s79,nk PK];refine⟨ah,fun j y hj hy=>?_⟩;rcases mY.1 hj with hj|rfl
   .exact hp j y hj hy
   rw[hx] at hy;cases hy;rw[aba,hb]
  |false=>rw[hb] at PK;simp only[go_sem,i56_l1,jO,qH,uZ,DO,hB,hC,aJ,hnx,jF,gI,Let.ps,cK,s79,nk PK];refine⟨ah,fin _ ?_ ?_ ?_ ?_ (fun y hy=>by rw[hx] at hy;cases hy;rw[aba,hb])⟩;all_goals simp only[go_sem,jO,qH,uZ,DO]
 have:k=o.length:=aa;subst this;have dD:∀x,o[o.length]?=some x->AQ ls i x=false:=fun x hx=>by simp at hx
 rcases ho with ⟨rfl,h3⟩|⟨ho,g,h3,hC⟩
 .rw[h3] at qH;simp only[go_sem,i56_l1,qH,DO,eE];refine⟨ah,fin _ ?_ ?_ ?_ ?_ dD⟩;all_goals simp only[go_sem,jO,qH,uZ,DO]
 rw[h3] at qH;simp only[go_sem,i56_l1,qH,DO,eE];refine⟨ah,fin _ ?_ ?_ ?_ ?_ dD⟩;all_goals simp only[go_sem,jO,qH,uZ,DO]
theorem alT(ls:List Let)(o:List Nat)(i:Nat):(zi ls o i).length=o.length+1:=by unfold zi;simp only[gh,dh,iu,kO];have:=(List.takeWhile_sublist (AQ ls i) (l:=o)).length_le;omega
theorem Jm{aj:aA}{id g z len ty:Nat}{es:List (List PV)}(h:aj id=(g,some (.arr ty z es)))(hl:len=es.length):iU aj (.one (.hsl id g z 0 len))=some (.one (.own ty z es)):=by subst hl;simp only[iU,tA,nT,mT,ke,h,bN,and_self,if_true,kS];rfl
def NN(o:List Nat):RC:=if o=[] then .p .nils else .own 3 1 (nP o)
theorem ag4(f:Int)(ls:List Let)(hl:ls.length<=1000000):aI S 56 [dX f ls] (.one (NN (aF ls))):=by
 refine aZ c56 ?_;simp only[go_sem,i56];refine cV (fun k ak aj=>ak 1=.one (.aY 3584000000 1 0)/\aj 3584000000=(1,some (.var (tk f ls)))/\ak 4=vi k/\EI 3584576640 (nM ls k) (ak 3) aj) 0 ls.length (bG _) ?_ ?_
 .simp only[go_sem];exact⟨rfl,.inl ⟨rfl,rfl⟩⟩
 rintro k ak aj hk ⟨h1,hB,h4,ho⟩
 have dU:=vL ls k;by_cases ay:k<ls.length
 .obtain⟨l,cK⟩:=aL ay;have hi:=iI cK;have aJ:((k:Int)<(ls.length:Int)):=aa;have w1:=cn (n:=k) aa;have hs:=Hv ls k;unfold zO at hs;rw[cK] at hs;cases hp:(l.kind==1) with
  |false=>
   have nC:(l.kind !=1)=true:=by simp[bne,hp]
   simp only[Let.aE,hp] at hs;have hs:nM ls (k+1)=nM ls k:=hs;simp only[go_sem,i56_l4,i56_r3,h1,hB,h4,hi,Let.ps,aJ,nC,w1,hs,ay];rcases ho with ⟨e,h3⟩|⟨ho,g,h3,hC⟩
   .exact .inl ⟨e,by simp only[go_sem,h3]⟩
   exact .inr ⟨ho,g,by simp only[go_sem,h3],by simp only[go_sem,hC]⟩
  |true=>
   have nC:(l.kind !=1)=false:=by simp[bne,hp]
   simp only[Let.aE,hp] at hs;have hs:nM ls (k+1)=zi ls (nM ls k) k:=hs;simp only[go_sem,i56_l4,h1,hB,h4,hi,Let.ps,aJ,nC];refine agZ (ls:=ls) (f:=f) (o:=nM ls k) (i:=k) ?_ ?_ ?_ ?_ ?_ cK (fun x hx=>Nat.lt_trans (NM hx) ay) aa ?_
   .rcases ho with ⟨e,h3⟩|⟨ho,g,h3,hC⟩
    .exact .inl ⟨e,by simp only[go_sem,h3]⟩
    exact .inr ⟨ho,g,by simp only[go_sem,h3],by simp only[go_sem,hC]⟩
   .simp only[go_sem,h1]
   .simp only[go_sem,hB]
   .simp only[go_sem,h4]
   .rfl
   intro aC ao q1 q2 q3 q4;simp only[go_sem,h1,h4,hB] at q1 q2 q3;simp only[go_sem,i56_r3,q1,q2,q3,w1,hs,ay];rcases q4 with ⟨e,h3⟩|⟨ho,g,h3,hC⟩
   .exact .inl ⟨e,by simp only[go_sem,h3]⟩
   exact .inr ⟨ho,g,by simp only[go_sem,h3],by simp only[go_sem,hC]⟩
 have:k=ls.length:=aa;subst this;have he:aF ls=nM ls ls.length:=rfl;rw[<- he] at ho;rcases ho with ⟨e,h3⟩|⟨ho,g,h3,hC⟩
 .simp only[go_sem,i56_l4,i56_r5,h1,hB,h3,h4,eE,NN,e]
 simp only[go_sem,i56_l4,i56_r5,h1,hB,h3,h4,eE,NN,ho];exact Jm hC af
def gQ(ls:List Let)(ax:List Nat)(d:Nat):Nat:=
 if 2*ls.length<=d then
  if d%2=0 then dJ ls.length (ax.getD (((d-2*ls.length)/2+1)%ax.length) 0) (!dn ls (ax.getD (((d-2*ls.length)/2+1)%ax.length) 0))
  else dJ ls.length (ax.getD ((d-2*ls.length)/2) 0) (dn ls (ax.getD ((d-2*ls.length)/2) 0))
 else
  let fw:=d%2==0
  let v:=if fw then (d/2+1)%ls.length else d/2
  match ls[v]? with
  |none=>0
  |some l=>if l.kind==2 then dJ ls.length (fN ls v) (fw==(l.over==(l.sign==1)))
   else if dn ls v==fw then 2*ls.length+2*ax.idxOf v else 2*ls.length+2*((ax.idxOf v+ax.length-1)%ax.length)+1
theorem adR{ls:List Let}{i:Nat}(hi:i<ls.length):fN ls i<ls.length:=by
 unfold fN;cases h:(List.range ls.length).find? (zt ls i) with
 |none=>exact hi
 |some k=>
  have:=He h
  simpa using this
theorem Hs{n i:Nat}{fw:Bool}(hi:i<n):dJ n i fw<2*n:=by unfold dJ;have:=eH (i+n-1) (show 0<n by omega);split<;>omega
theorem QD{ls:List Let}{ax:List Nat}{d:Nat}(j6:∀x∈ax,x<ls.length)(hp:∀v l,ls[v]?=some l->(l.kind==2)=false->v∈ax)(hd:d<2*ls.length+2*ax.length):gQ ls ax d<2*ls.length+2*ax.length:=by
 have Cn:∀k,k<ax.length->ax.getD k 0<ls.length:=fun k hk=>by obtain⟨x,hx⟩:=aL hk;rw[dq,hx];exact j6 x (aU hx)
 unfold gQ;by_cases h:2*ls.length<=d
 .rw[if_pos h];have hm:=eH ((d-2*ls.length)/2+1) (show 0<ax.length by omega);by_cases h2:d%2=0
  .rw[if_pos h2];exact Di (Hs (Cn _ hm)) aa
  rw[if_neg h2];exact Di (Hs (Cn _ aa)) aa
 rw[if_neg h];have hn:0<ls.length:=aa;have hv:(if (d%2==0)=true then (d/2+1)%ls.length else d/2)<ls.length:=by
  split
  .exact eH _ hn
  omega
 simp only;generalize (if (d%2==0)=true then (d/2+1)%ls.length else d/2)=v at hv;obtain⟨l,hl⟩:=aL hv;rw[hl];simp only;by_cases hk:(l.kind==2)=true
 .rw[if_pos hk];exact Di (Hs (adR hv)) aa
 rw[if_neg hk];have lW:=hp v l hl (by simpa using hk);have F2:ax.idxOf v<ax.length:=Nv.2 lW;have hm:=eH (ax.idxOf v+ax.length-1) (show 0<ax.length by omega);split<;>omega
theorem alH{ax:List Nat}{v:Nat}:∀j,j<ax.idxOf v->ax[j]? ≠some v:=by
 induction ax with
 |nil=>intro j h;simp at h
 |cons a ax ih=>
  intro j h e;rw[List.idxOf_cons] at h;by_cases ha:a=v
  .simp[ha] at h
  have hb:(a==v)=false:=by simpa using ha
  rw[hb] at h;cases j with
  |zero=>simp at e;exact ha e
  |succ j=>exact ih j (by simp at h;omega) (by simpa using e)
theorem abw{ax:List Nat}{v:Nat}(h:v∈ax):ax[ax.idxOf v]?=some v:=by have hl:ax.idxOf v<ax.length:=Nv.2 h;rw[s0 hl,List.getElem_idxOf hl]
theorem arS(f:Int)(ls:List Let)(ax:List Nat)(d:Nat)(hl:ls.length<=1000000)(gZ:ax.length<=1000000)(j6:∀x∈ax,x<ls.length)(hp:∀v l,ls[v]?=some l->(l.kind==2)=false->v∈ax)
  (hd:d<2*ls.length+2*ax.length):aI S 57 [dX f ls,.one (.p (AZ ax)),vi d] (ri (gQ ls ax d)):=by
 have m1:IntKind.i64.wrap (2*(ls.length:Int))=((2*ls.length:Nat):Int):=wrap_small (n:=2*ls.length) aa;unfold gQ;by_cases h:2*ls.length<=d
 .rw[if_pos h];refine aZ c57 ?_;have h':((2*ls.length:Nat):Int)<=(d:Int):=aa;have m2:IntKind.i64.wrap ((d:Int)-((2*ls.length:Nat):Int))=((d-2*ls.length:Nat):Int):=by
   have:((d:Int)-((2*ls.length:Nat):Int))=((d-2*ls.length:Nat):Int):=aa;rw[this];exact wrap_small aa
  have m3:=wrap_small (n:=(d-2*ls.length)/2) aa;have hm:=eH ((d-2*ls.length)/2+1) (show 0<ax.length by omega);have nX:¬((ax.length:Int)=0):=aa;by_cases h2:d%2=0
  .rw[if_pos h2];have m4:=cn (n:=(d-2*ls.length)/2) aa;have gH:(((d%2:Nat):Int)==0)=true:=by simp[h2]
   have m5:=vB ((d-2*ls.length)/2+1) ax.length;obtain⟨v,hv⟩:=aL hm;have qh:ax.getD (((d-2*ls.length)/2+1)%ax.length) 0=v:=by rw[dq,hv];rfl
   rw[qh];have rK:=j6 v (aU hv);have Aq:=j9 hv;have pd:=Sg f ls v hl aa;have pa:=Q5 f ls v (!dn ls v) hl rK;simp only[go_sem,i57,m1,m2,m3,m4,m5,h',gH,Aq,nX,jy,fE,ez,s81,s80,nk pd,gU pa];exact aG
  rw[if_neg h2];have gH:(((d%2:Nat):Int)==0)=false:=by simp;omega
  obtain⟨v,hv⟩:=aL (ls:=ax) (k:=(d-2*ls.length)/2) aa;have qh:ax.getD ((d-2*ls.length)/2) 0=v:=by rw[dq,hv];rfl
  rw[qh];have rK:=j6 v (aU hv);have Aq:=j9 hv;have pd:=Sg f ls v hl aa;have pa:=Q5 f ls v (dn ls v) hl rK;simp only[go_sem,i57,m1,m2,m3,h',gH,Aq,jy,fE,ez,s81,s80,nk pd,gU pa];exact aG
 rw[if_neg h];have h':¬(((2*ls.length:Nat):Int)<=(d:Int)):=aa;have m3:=wrap_small (n:=d/2) aa;have iM:¬((ls.length:Int)=0):=aa;have nX:=eH (d/2+1) (show 0<ls.length by omega);have m4:=cn (n:=d/2) aa;have m5:=vB (d/2+1) ls.length;have body:∀v:Nat,v<ls.length->∀fw:Bool,v=(if fw then (d/2+1)%ls.length else d/2)->(d%2==0)=fw->(((d%2:Nat):Int)==0)=fw->aI S 57 [dX f ls,.one (.p (AZ ax)),vi d] (ri ((match ls[v]? with
   |none=>0
   |some l=>if l.kind==2 then dJ ls.length (fN ls v) (fw==(l.over==(l.sign==1)))
    else if dn ls v==fw then 2*ls.length+2*ax.idxOf v else 2*ls.length+2*((ax.idxOf v+ax.length-1)%ax.length)+1:Nat):Int)):=by
  intro v hv fw fp xF qK;obtain⟨l,nW⟩:=aL hv;have hU:=iI nW;rw[nW];simp only;refine aZ c57 ?_;cases hk:(l.kind==2) with
  |true=>
   have po:=anV f ls v hl hv;have pa:=Q5 f ls (fN ls v) (fw==(l.over==(l.sign==1))) hl (adR hv);cases fw with
   |true=>have fp:v=(d/2+1)%ls.length:=fp;rw[fp] at hU po pa ⊢;simp only[go_sem,i57,m1,m3,m4,m5,h',qK,hU,Let.ps,iM,hk,jy,fE,ez,s82,s80,gU po,gU pa];exact aG
   |false=>have fp:v=d/2:=fp;rw[fp] at hU po pa ⊢;simp only[go_sem,i57,m1,m3,h',qK,hU,Let.ps,hk,jy,fE,ez,s82,s80,gU po,gU pa];exact aG
  |false=>
   have lW:=hp v l nW hk;have F2:ax.idxOf v<ax.length:=Nv.2 lW;have pat:=at_r ax v (ax.idxOf v) gZ (abw lW) alH;have pd:=Sg f ls v hl aa;have L6:¬((ax.length:Int)=0):=aa;have oZ:=eH (ax.idxOf v+ax.length-1) (show 0<ax.length by omega);have n1:=tX (a:=ax.idxOf v) aa;have n2:=wrap_add (a:=2*ls.length) (b:=2*ax.idxOf v) aa;have n3:=wrap_add (a:=ax.idxOf v) (b:=ax.length) aa;have n4:=GV (a:=ax.idxOf v+ax.length) aa aa;have n5:=vB (ax.idxOf v+ax.length-1) ax.length;have n6:=tX (a:=(ax.idxOf v+ax.length-1)%ax.length) aa;have n7:=wrap_add (a:=2*ls.length) (b:=2*((ax.idxOf v+ax.length-1)%ax.length)) aa;have n8:=cn (n:=2*ls.length+2*((ax.idxOf v+ax.length-1)%ax.length)) aa;cases fw with
   |true=>
    have fp:v=(d/2+1)%ls.length:=fp;cases eF:dn ls v with
    |true=>rw[eF] at pd;subst fp;simp only[go_sem,i57,m1,m3,m4,m5,h',qK,hU,Let.ps,iM,hk,jy,fE,ez,s83,s81,eJ pat,cY pd,n1,n2]
    |false=>rw[eF] at pd;subst fp;simp only[go_sem,i57,m1,m3,m4,m5,h',qK,hU,Let.ps,iM,hk,jy,fE,ez,s83,s81,eJ pat,cY pd,n3,n4,n5,n6,n7,n8,L6]
   |false=>
    have fp:v=d/2:=fp;cases eF:dn ls v with
    |true=>rw[eF] at pd;subst fp;simp only[go_sem,i57,m1,m3,h',qK,hU,Let.ps,hk,jy,fE,ez,s83,s81,eJ pat,cY pd,n3,n4,n5,n6,n7,n8,L6]
    |false=>rw[eF] at pd;subst fp;simp only[go_sem,i57,m1,m3,h',qK,hU,Let.ps,hk,jy,fE,ez,s83,s81,eJ pat,cY pd,n1,n2]
 have rK:(if (d%2==0)=true then (d/2+1)%ls.length else d/2)<ls.length:=by
  split
  .exact nX
  omega
 have:=body _ rK (d%2==0) rfl rfl (by cases hq:(d%2==0)<;>simp at hq ⊢ <;>omega);exact this
abbrev bP(o:List Bool):List (List PV):=o.map fun b:Bool=>[PV.bool b]
theorem sv{o:List Bool}{k:Nat}{b:Bool}(h:o[k]?=some b):(bP o)[k]?=some [.bool b]:=by simp[h]
theorem Hw(o:List Bool)(k:Nat)(b:Bool):(bP o).set k [.bool b]=bP (o.set k b):=by simp[List.map_set]
def fe(next:Nat->Nat):Nat->Nat->List Bool->List Nat×List Bool
 |0,_,seen=>([],seen)
 |k+1,x,seen=>if seen.getD x true then ([],seen) else (x::(fe next k (next x) (seen.set x true)).1,(fe next k (next x) (seen.set x true)).2)
def xZ(s:List Bool):Nat:=s.countP (fun b=> !b)
theorem Nj{s:List Bool}{x:Nat}(h:s[x]?=some false):xZ (s.set x true)+1=xZ s:=by
 induction s generalizing x with
 |nil=>simp at h
 |cons b s ih=>
  cases x with
  |zero=>simp at h;subst h;simp[xZ]
  |succ x=>have:=ih (x:=x) (by simpa using h);unfold xZ at this ⊢;simp only[List.set_cons_succ,wP];omega
theorem ar0(next:Nat->Nat):∀(k x:Nat) (s:List Bool),(fe next k x s).2.length=s.length:=by
 intro k
 induction k with
 |zero=>intro x s;rfl
 |succ k ih=>
  intro x s;unfold fe;split
  .rfl
  simp[ih]
def uL(next:Nat->Nat)(st:List (List Nat)×List Bool)(d:Nat):List (List Nat)×List Bool:=if st.2.getD d true then st else (st.1++[(fe next (st.2.length+1) d st.2).1],(fe next (st.2.length+1) d st.2).2)
def dG(next:Nat->Nat)(N k:Nat):List (List Nat)×List Bool:=(List.range k).foldl (uL next) ([],List.replicate N false)
def iJ(next:Nat->Nat)(N:Nat):List (List Nat):=(dG next N N).1
theorem ya(next:Nat->Nat)(N k:Nat):dG next N (k+1)=uL next (dG next N k) k:=by unfold dG;rw[wT,Kd];rfl
theorem GU(next:Nat->Nat)(N:Nat):∀k,(dG next N k).2.length=N:=by
 intro k
 induction k with
 |zero=>simp[dG]
 |succ k ih=>
  rw[ya];unfold uL;split
  .exact ih
  simp[ar0,ih]
theorem ar8(next:Nat->Nat)(N k:Nat)(hk:1<=k)(hN:1<=N):(dG next N k).1≠[]:=by
 induction k with
 |zero=>omega
 |succ k ih=>
  rw[ya];by_cases h0:k=0
  .subst h0;have hz:(dG next N 0)=([],List.replicate N false):=rfl;have hg:(List.replicate N false).getD 0 true=false:=by
    obtain⟨n,rfl⟩:∃n,N=n+1:=⟨N-1,aa⟩;rfl
   rw[hz];unfold uL;simp only[hg];simp
  have:=ih aa;unfold uL;split
  .exact this
  simp
theorem Nn(next:Nat->Nat)(N:Nat):∀k,(dG next N k).1.length<=k:=by
 intro k
 induction k with
 |zero=>simp[dG]
 |succ k ih=>
  rw[ya];unfold uL;split
  .omega
  simp;exact ih
theorem JQ(s:List Bool):xZ s<=s.length:=Nt
theorem ar3{ls:List Let}{ax:List Nat}(hl:ls.length<=1000000)(gZ:ax.length<=1000000)(j6:∀x∈ax,x<ls.length)(hp:∀v l,ls[v]?=some l->(l.kind==2)=false->v∈ax){Q:dA}:
  ∀(fuel x:Nat) (sn:List Bool) (w:List Nat) (ak:Env) (aj:aA),ak 1=.one (.aY 2176000000 1 0)->aj 2176000000=(1,some (.var (tk f ls)))->
   ak 4=.one (.hsl 2176128064 1 1 0 ax.length)->aj 2176128064=(1,some (.arr 3 1 (nP ax)))->ak 5=.one (.hsl 2176192512 1 1 0 sn.length)->aj 2176192512=(1,some (.arr 4 1 (bP sn)))->
   EI 2176832192 w (ak 7) aj->ak 8=vi x->x<sn.length->sn.length=2*ls.length+2*ax.length->xZ sn<fuel->w.length+xZ sn<=5000000->
   (∀aC ao,aC 1=ak 1->aC 3=ak 3->aC 4=ak 4->aC 5=ak 5->aC 6=ak 6->ao 2176000000=aj 2176000000->ao 2176128064=aj 2176128064->ao 2176896192=aj 2176896192->ao 2176896128=aj 2176896128->
    ao 2176192512=(1,some (.arr 4 1 (bP (fe (gQ ls ax) fuel x sn).2)))->EI 2176832192 (w++(fe (gQ ls ax) fuel x sn).1) (aC 7) ao->Q .normal aC ao)->
   W S .all (.loop i34_l1) (mI 2 Q) ak aj:=by
 intro fuel
 induction fuel with
 |zero=>intro x sn w ak aj _ _ _ _ _ _ _ _ _ _ h;omega
 |succ fuel ih=>
  intro x sn w ak aj h1 hB h4 hA h5 hS ho h8 hx hsl hu hw hq;obtain⟨b,hb⟩:=aL hx;have kz:=sv hb;have yV:sn.getD x true=b:=by rw[dq,hb];rfl
  unfold fe at hq;rw[yV] at hq;refine rj ?_;cases b with
  |true=>
   simp only[go_sem,i34_l1,h5,hS,h8,hx,kz];refine hq _ _ ?_ ?_ ?_ ?_ ?_ rfl rfl rfl rfl hS ?_;all_goals simp only[go_sem]
   exact ho
  |false=>
   have Es:=Nj hb;have pt:=arS f ls ax x hl gZ j6 hp aa;have lI:=QD (d:=x) j6 hp aa;have ia:=Hw sn x true;have lX:∀n:Nat,n<=5000001->n*8<=140737488355328:=fun n hn=>aa;have Gh:List.take ax.length (nP ax)=nP ax:=gR af;rcases ho with ⟨rfl,h7⟩|⟨O5,g,h7,hC⟩
   .simp only[go_sem,i34_l1,h1,hB,h4,hA,h5,hS,h7,h8,hx,kz,ia,Gh,s57,eJ pt,fQ,ie];refine ih (gQ ls ax x) (sn.set x true) [x] _ _ ?_ ?_ ?_ ?_ ?_ ?_ ?_ ?_ (by simpa [hsl] using lI) (by simpa using hsl) aa (by simp;omega) ?_
    .simp only[go_sem,h1]
    .simp only[go_sem,hB]
    .simp only[go_sem,h4]
    .simp only[go_sem,hA]
    .simp only[go_sem,h5,qX]
    .simp only[go_sem]
    .simp only[go_sem];exact .inr ⟨af,_,rfl,rfl⟩
    .simp only[go_sem]
    intro aC ao q1 q3 q4 q5 q6 b1 b2 b3 b4 b5 b6;refine hq aC ao ?_ ?_ ?_ ?_ ?_ ?_ ?_ ?_ ?_ b5 ?_
    .rw[q1];simp only[go_sem]
    .rw[q3];simp only[go_sem]
    .rw[q4];simp only[go_sem]
    .rw[q5];simp only[go_sem]
    .rw[q6];simp only[go_sem]
    .rw[b1];simp only[go_sem]
    .rw[b2];simp only[go_sem]
    .rw[b3];simp only[go_sem]
    .rw[b4];simp only[go_sem]
    simpa using b6
   have tJ:List.take w.length (nP w)=nP w:=gR af;have jv:=lX (w.length+1) aa;simp only[go_sem,i34_l1,h1,hB,h4,hA,h5,hS,h7,h8,hx,kz,ia,Gh,s57,eJ pt,hC,tJ,jv,fQ,ie];refine ih (gQ ls ax x) (sn.set x true) (w++[x]) _ _ ?_ ?_ ?_ ?_ ?_ ?_ ?_ ?_ (by simpa [hsl] using lI) (by simpa using hsl) aa (by simp;omega) ?_
   .simp only[go_sem,h1]
   .simp only[go_sem,hB]
   .simp only[go_sem,h4]
   .simp only[go_sem,hA]
   .simp only[go_sem,h5,qX]
   .simp only[go_sem]
   .simp only[go_sem];exact .inr ⟨af,g+1,af,by simp[aN]⟩
   .simp only[go_sem]
   intro aC ao q1 q3 q4 q5 q6 b1 b2 b3 b4 b5 b6;refine hq aC ao ?_ ?_ ?_ ?_ ?_ ?_ ?_ ?_ ?_ b5 ?_
   .rw[q1];simp only[go_sem]
   .rw[q3];simp only[go_sem]
   .rw[q4];simp only[go_sem]
   .rw[q5];simp only[go_sem]
   .rw[q6];simp only[go_sem]
   .rw[b1];simp only[go_sem]
   .rw[b2];simp only[go_sem]
   .rw[b3];simp only[go_sem]
   .rw[b4];simp only[go_sem]
   simpa using b6
def outW(site:Nat)(o:List (List Nat))(v:V)(aj:aA):Prop:=(o=[]/\v=.one (.p .nils))\/(o≠[]/\ ∃g,v=.one (.hsl site g 1 0 o.length)/\aj site=(g,some (.arr 62 1 (o.map fun w=>[AZ w]))))
theorem asc(f:Int)(ls:List Let)(hl:ls.length<=1000000)(aH:aF ls≠[])(hp:∀v l,ls[v]?=some l->(l.kind==2)=false->v∈aF ls):
  aI S 34 [dX f ls] (.one (.own 62 1 ((iJ (gQ ls (aF ls)) (2*ls.length+2*(aF ls).length)).map fun w=>[AZ w]))):=by
 have pa:=ag4 f ls hl;have j6:∀x∈aF ls,x<ls.length:=fun x h=>NM h;have gZ:(aF ls).length<=ls.length:=vL ls ls.length;unfold NN at pa;rw[if_neg aH] at pa;generalize aF ls=ax at aH hp pa j6 gZ;have m1:=tX (a:=ls.length) aa;have m2:=tX (a:=ax.length) aa;have m3:=wrap_add (a:=2*ls.length) (b:=2*ax.length) aa;have sG:(nP ax).length=ax.length:=af;have lX:2*ls.length+2*ax.length<=140737488355328:=aa;have vg:List.replicate (2*ls.length+2*ax.length) [PV.bool false]=bP (List.replicate (2*ls.length+2*ax.length) false):=af
 refine aZ c34 ?_;have akQ:∀(aj:aA),land aj [] 2176128064 ((RV.one (.own 3 1 (nP ax))).gK (S.lone 2176128064))=some (.one (.hsl 2176128064 ((aj 2176128064).1+1) 1 0 ax.length),[(2176128064,((aj 2176128064).1+1,some (.arr 3 1 (nP ax))))]):=by intro aj;have eS:S.lone 2176128064=false:=ah;rw[eS];simp only[RV.gK,land,true_or,if_true,jl,gG,ik,iT,cH,qt,l7,cM,kN]
 simp only[go_sem,i34,s56,cJ pa (akQ _),m1,m2,m3,lX,vg];generalize hN:2*ls.length+2*ax.length=N at lX;refine cV (fun k ak aj=>ak 1=.one (.aY 2176000000 1 0)/\aj 2176000000=(1,some (.var (tk f ls)))/\ak 4=.one (.hsl 2176128064 1 1 0 ax.length)/\aj 2176128064=(1,some (.arr 3 1 (nP ax)))/\
   ak 5=.one (.hsl 2176192512 1 1 0 N)/\aj 2176192512=(1,some (.arr 4 1 (bP (dG (gQ ls ax) N k).2)))/\ak 6=vi k/\outW 2176896192 (dG (gQ ls ax) N k).1 (ak 3) aj) 0 N (bG _) ?_ ?_
 .simp only[go_sem];exact⟨rfl,rfl,.inl ⟨rfl,rfl⟩⟩
 rintro k ak aj hk ⟨h1,hB,h4,hA,h5,hS,h6,ho⟩
 have hlen:=GU (gQ ls ax) N k;have Em:=Nn (gQ ls ax) N k;by_cases ay:k<N
 .have aJ:((k:Int)<(N:Int)):=aa;have w1:=cn (n:=k) aa;have hs:=ya (gQ ls ax) N k;generalize cQ:dG (gQ ls ax) N k=st at hlen hs ho hS Em;obtain⟨out,sn⟩:=st;simp only at hlen ho hS Em;obtain⟨b,hb⟩:=aL (ls:=sn) (k:=k) aa;have kz:=sv hb;unfold uL at hs;have yV:sn.getD k true=b:=by rw[dq,hb];rfl
  simp only[yV] at hs;cases b with
  |true=>have hs:dG (gQ ls ax) N (k+1)=(out,sn):=hs;simp only[go_sem,i34_l4,i34_r3,h1,hB,h4,hA,h5,hS,h6,ay,aJ,kz,w1,hs];exact ho
  |false=>
   have hs:dG (gQ ls ax) N (k+1)=(out++[(fe (gQ ls ax) (N+1) k sn).1],(fe (gQ ls ax) (N+1) k sn).2):=by rw[hs,hlen];rfl
   have hul:=JQ sn;simp only[go_sem,i34_l4,h5,hS,h6,ay,aJ,kz];refine ar3 (f:=f) hl aa j6 hp (N+1) k sn [] _ _ ?_ ?_ ?_ ?_ ?_ ?_ ?_ ?_ aa aa aa (by simp;omega) ?_
   .simp only[go_sem,h1]
   .simp only[go_sem,hB]
   .simp only[go_sem,h4]
   .simp only[go_sem,hA]
   .simp only[go_sem,h5,hlen]
   .simp only[go_sem,hS]
   .exact .inl ⟨rfl,by simp only[go_sem]⟩
   .simp only[go_sem]
   intro aC ao q1 q3 q4 q5 q6 b1 b2 b3 b4 b5 b6;simp only[go_sem,h1,h4,h5,h6] at q1 q3 q4 q5 q6;simp only[go_sem,hB,hA] at b1 b2 b3 b4;have O5:(fe (gQ ls ax) (N+1) k sn).1≠[]:=by unfold fe;rw[yV];simp
   rw[gD] at b6;rcases b6 with ⟨e,_⟩|⟨_,g,h7,hC⟩
   .exact(O5 e).elim
   generalize fe (gQ ls ax) (N+1) k sn=wf at hs O5 b5 h7 hC;obtain⟨w,gO⟩:=wf;simp only at hs O5 b5 h7 hC;have tJ:List.take w.length (nP w)=nP w:=gR af;rcases ho with ⟨rfl,h3⟩|⟨ho,go,h3,hO⟩
   .rw[h3] at q3;simp only[go_sem,i34_r2,i34_r3,q1,q3,q4,q5,q6,b1,b2,b5,h7,hC,tJ,w1,hs,ay,xj,fQ,ie];exact .inr ⟨af,_,rfl,by simp[aN]⟩
   rw[h3] at q3;have Er:List.take out.length (out.map fun w=>[AZ w])=out.map fun w=>[AZ w]:=gR af;have jv:(out.length+1)*24<=140737488355328:=aa;simp only[go_sem,i34_r2,i34_r3,q1,q3,q4,q5,q6,b1,b2,b3,b5,h7,hC,hO,tJ,Er,jv,w1,hs,ay,xj,cP,fQ,ie];exact .inr ⟨af,go+1,af,by simp[aN]⟩
 have:k=N:=aa;subst this;have he:iJ (gQ ls ax) k=(dG (gQ ls ax) k k).1:=rfl;rw[<- he] at ho;rcases ho with ⟨e,h3⟩|⟨ho,g,h3,hC⟩
 .exact(ar8 (gQ ls ax) k k (by have:=iX.2 aH;omega) (by have:=iX.2 aH;omega) e).elim
 simp only[go_sem,i34_l4,i34_r5,h3,h5,h6,eE];exact Jm hC af
abbrev Vr(l:Let):List C:=[.p (.int .i64 l.kind),.p (.int .i64 l.gate),.p (.int .i64 l.aD),.p (.int .i64 l.id),.p (.int .i64 l.sign),.p (.bool l.over)]
def iV(l o:Let):Bool:=(o.kind==l.kind&&o.gate==l.gate)&&o.aD==l.aD
def iD(l o:Let):Bool:=((o.kind==l.kind&&o.id==l.id)&&o.sign==l.sign)&& !(o.over==l.over)
def vq(f:Int)(ls:List Let)(l:Let):Bool:= !(((((((l.id !=0||l.sign !=0)||l.over)||decide (l.gate<0))||decide (f<l.gate))||decide (l.aD<1))||decide ((aw (n9 l.gate) ls:Int)<l.aD))||(((aw (iV l) ls:Nat):Int)!=1))
def l6(ls:List Let)(l:Let):Bool:= !((((((l.gate !=0||l.aD !=0)||(l.sign !=1&&l.sign != -1))||decide (l.id<1))||decide (((aw Let.aB ls/2:Nat):Int)<l.id))||(((aw (iD l) ls:Nat):Int)!=1))||(((aw (lM l.id) ls:Nat):Int)!=2))
def eT(f:Int)(ls:List Let)(l:Let):Bool:=if l.kind==1 then vq f ls l else if l.kind==2 then l6 ls l else false
theorem amM{f:Int}{ls:List Let}{l:Let}{g i:Nat}{ak:Env}{aj:aA}{Q:dA}(hl:ls.length<=1000000)(h1:ak 1=.one (.aY 2112000000 1 0))(hB:aj 2112000000=(1,some (.var (tk f ls))))(h3:ak 3=vi i)(h4:ak 4=.one (.aY 2112256320 g 0))(hL:aj 2112256320=(g,some (.var (Vr l))))
  (h5:ak 5=vi 0) (h6:ak 6=vi 0) (h7:ak 7=vi 0)
  (hq:∀aC ao,aC 1=ak 1->aC 3=ak 3->aC 4=ak 4->ao 2112000000=aj 2112000000->ao 2112256320=aj 2112256320->aC 5=vi (aw (iV l) ls)->aC 6=vi (aw (iD l) ls)->Q .normal aC ao):
  W S .all (.loop i33_l1) (mI 2 Q) ak aj:=by
 refine cV (fun k aC ao=>aC 1=.one (.aY 2112000000 1 0)/\ao 2112000000=(1,some (.var (tk f ls)))/\aC 3=vi i/\aC 4=.one (.aY 2112256320 g 0)/\ao 2112256320=(g,some (.var (Vr l)))/\
   aC 5=vi (aw (iV l) (ls.take k))/\aC 6=vi (aw (iD l) (ls.take k))/\aC 7=vi k) 0 ls.length (bG _) ?_ ?_
 .exact⟨h1,hB,h3,h4,hL,h5,h6,h7⟩
 rintro k aC ao hk ⟨g1,gB,g3,g4,gL,g5,g6,g7⟩
 by_cases ay:k<ls.length
 .obtain⟨o,ho⟩:=aL ay;have hi:=iI ho;have aJ:((k:Int)<(ls.length:Int)):=aa;have b5:=yB (iV l) ls k;have b6:=yB (iD l) ls k;have w1:=cn (n:=k) aa;have w5:=cn (n:=aw (iV l) (ls.take k)) aa;have w6:=cn (n:=aw (iD l) (ls.take k)) aa;cases e0:(o.kind==l.kind) with
  |true=>
   cases e1:(o.gate==l.gate) with
   |true=>
    cases e2:(o.aD==l.aD) with
    |true=>
     cases e3:(o.id==l.id) with
     |true=>
      cases e4:(o.sign==l.sign) with
      |true=>
       cases e5:(o.over==l.over) with
       |true=>have c5:=ru (p:=iV l) ho (by simp only[iV,e0,e1,e2];rfl);have c6:=jC (p:=iD l) ho (by simp only[iD,e0,e3,e4,e5];rfl);simp only[go_sem,i33_l1,g1,gB,g3,g4,gL,g5,g6,g7,hi,Let.ps,aJ,w1,w5,e0,e1,e2,e3,e4,e5,c5,c6];first|exact ay|exact⟨ay,rfl⟩|exact⟨ay,rfl,rfl⟩
       |false=>have c5:=ru (p:=iV l) ho (by simp only[iV,e0,e1,e2];rfl);have c6:=ru (p:=iD l) ho (by simp only[iD,e0,e3,e4,e5];rfl);simp only[go_sem,i33_l1,g1,gB,g3,g4,gL,g5,g6,g7,hi,Let.ps,aJ,w1,w5,w6,e0,e1,e2,e3,e4,e5,c5,c6];first|exact ay|exact⟨ay,rfl⟩|exact⟨ay,rfl,rfl⟩
      |false=>have c5:=ru (p:=iV l) ho (by simp only[iV,e0,e1,e2];rfl);have c6:=jC (p:=iD l) ho (by simp only[iD,e0,e3,e4];rfl);simp only[go_sem,i33_l1,g1,gB,g3,g4,gL,g5,g6,g7,hi,Let.ps,aJ,w1,w5,e0,e1,e2,e3,e4,c5,c6];first|exact ay|exact⟨ay,rfl⟩|exact⟨ay,rfl,rfl⟩
     |false=>have c5:=ru (p:=iV l) ho (by simp only[iV,e0,e1,e2];rfl);have c6:=jC (p:=iD l) ho (by simp only[iD,e0,e3];rfl);simp only[go_sem,i33_l1,g1,gB,g3,g4,gL,g5,g6,g7,hi,Let.ps,aJ,w1,w5,e0,e1,e2,e3,c5,c6];first|exact ay|exact⟨ay,rfl⟩|exact⟨ay,rfl,rfl⟩
    |false=>
     cases e3:(o.id==l.id) with
     |true=>
      cases e4:(o.sign==l.sign) with
      |true=>
       cases e5:(o.over==l.over) with
       |true=>have c5:=jC (p:=iV l) ho (by simp only[iV,e0,e1,e2];rfl);have c6:=jC (p:=iD l) ho (by simp only[iD,e0,e3,e4,e5];rfl);simp only[go_sem,i33_l1,g1,gB,g3,g4,gL,g5,g6,g7,hi,Let.ps,aJ,w1,e0,e1,e2,e3,e4,e5,c5,c6];first|exact ay|exact⟨ay,rfl⟩|exact⟨ay,rfl,rfl⟩
       |false=>have c5:=jC (p:=iV l) ho (by simp only[iV,e0,e1,e2];rfl);have c6:=ru (p:=iD l) ho (by simp only[iD,e0,e3,e4,e5];rfl);simp only[go_sem,i33_l1,g1,gB,g3,g4,gL,g5,g6,g7,hi,Let.ps,aJ,w1,w6,e0,e1,e2,e3,e4,e5,c5,c6];first|exact ay|exact⟨ay,rfl⟩|exact⟨ay,rfl,rfl⟩
      |false=>have c5:=jC (p:=iV l) ho (by simp only[iV,e0,e1,e2];rfl);have c6:=jC (p:=iD l) ho (by simp only[iD,e0,e3,e4];rfl);simp only[go_sem,i33_l1,g1,gB,g3,g4,gL,g5,g6,g7,hi,Let.ps,aJ,w1,e0,e1,e2,e3,e4,c5,c6];first|exact ay|exact⟨ay,rfl⟩|exact⟨ay,rfl,rfl⟩
     |false=>have c5:=jC (p:=iV l) ho (by simp only[iV,e0,e1,e2];rfl);have c6:=jC (p:=iD l) ho (by simp only[iD,e0,e3];rfl);simp only[go_sem,i33_l1,g1,gB,g3,g4,gL,g5,g6,g7,hi,Let.ps,aJ,w1,e0,e1,e2,e3,c5,c6];first|exact ay|exact⟨ay,rfl⟩|exact⟨ay,rfl,rfl⟩
   |false=>
    cases e3:(o.id==l.id) with
    |true=>
     cases e4:(o.sign==l.sign) with
     |true=>
      cases e5:(o.over==l.over) with
      |true=>have c5:=jC (p:=iV l) ho (by simp only[iV,e0,e1];rfl);have c6:=jC (p:=iD l) ho (by simp only[iD,e0,e3,e4,e5];rfl);simp only[go_sem,i33_l1,g1,gB,g3,g4,gL,g5,g6,g7,hi,Let.ps,aJ,w1,e0,e1,e3,e4,e5,c5,c6];first|exact ay|exact⟨ay,rfl⟩|exact⟨ay,rfl,rfl⟩
      |false=>have c5:=jC (p:=iV l) ho (by simp only[iV,e0,e1];rfl);have c6:=ru (p:=iD l) ho (by simp only[iD,e0,e3,e4,e5];rfl);simp only[go_sem,i33_l1,g1,gB,g3,g4,gL,g5,g6,g7,hi,Let.ps,aJ,w1,w6,e0,e1,e3,e4,e5,c5,c6];first|exact ay|exact⟨ay,rfl⟩|exact⟨ay,rfl,rfl⟩
     |false=>have c5:=jC (p:=iV l) ho (by simp only[iV,e0,e1];rfl);have c6:=jC (p:=iD l) ho (by simp only[iD,e0,e3,e4];rfl);simp only[go_sem,i33_l1,g1,gB,g3,g4,gL,g5,g6,g7,hi,Let.ps,aJ,w1,e0,e1,e3,e4,c5,c6];first|exact ay|exact⟨ay,rfl⟩|exact⟨ay,rfl,rfl⟩
    |false=>have c5:=jC (p:=iV l) ho (by simp only[iV,e0,e1];rfl);have c6:=jC (p:=iD l) ho (by simp only[iD,e0,e3];rfl);simp only[go_sem,i33_l1,g1,gB,g3,g4,gL,g5,g6,g7,hi,Let.ps,aJ,w1,e0,e1,e3,c5,c6];first|exact ay|exact⟨ay,rfl⟩|exact⟨ay,rfl,rfl⟩
  |false=>have c5:=jC (p:=iV l) ho (by simp only[iV,e0];rfl);have c6:=jC (p:=iD l) ho (by simp only[iD,e0];rfl);simp only[go_sem,i33_l1,g1,gB,g3,g4,gL,g5,g6,g7,hi,Let.ps,aJ,w1,e0,c5,c6];first|exact ay|exact⟨ay,rfl⟩|exact⟨ay,rfl,rfl⟩
 have:k=ls.length:=aa;subst this;rw[kS] at g5 g6;simp only[go_sem,i33_l1,g1,gB,g7,eE];refine hq _ _ ?_ ?_ ?_ ?_ ?_ ?_ ?_;all_goals simp only[go_sem,g1,gB,g3,g4,gL,g5,g6,h1,hB,h3,h4,hL]
theorem amN{f:Int}{ls:List Let}{l:Let}{g i:Nat}{ak:Env}{aj:aA}{Q:dA}(hl:ls.length<=1000000)(h1:ak 1=.one (.aY 2112000000 1 0))(hB:aj 2112000000=(1,some (.var (tk f ls))))(h3:ak 3=vi i)(h4:ak 4=.one (.aY 2112256320 g 0))(hL:aj 2112256320=(g,some (.var (Vr l))))
  (h5:ak 5=vi (aw (iV l) ls)) (h6:ak 6=vi (aw (iD l) ls))
  (hq:eT f ls l=true->∀aC,aC 1=ak 1->aC 3=ak 3->Q .normal aC aj) (hr:eT f ls l=false->∀aC,aC 2=.one (.p (.bool false))->Q .ret aC aj):
  W S .all i33_r2 Q ak aj:=by
 have pin:=in_r f ls hl l.gate;have pvi:=Wu f ls hl;have pti:=arC f ls hl l.id;have hcv:=tj Let.aB ls;have wv:=wrap_small (n:=aw Let.aB ls/2) aa;cases k1:(l.kind==1) with
 |true=>
  cases a1:(l.id !=0) with
  |true=>
   have au:eT f ls l=false:=by simp only[eT,k1,vq,a1];rfl
   simp only[go_sem,i33_r2,h4,hL,k1,a1];refine⟨ah,hr au _ ?_⟩;simp only[go_sem]
  |false=>
   cases a2:(l.sign !=0) with
   |true=>
    have au:eT f ls l=false:=by simp only[eT,k1,vq,a1,a2];rfl
    simp only[go_sem,i33_r2,h4,hL,k1,a1,a2];refine⟨ah,hr au _ ?_⟩;simp only[go_sem]
   |false=>
    cases a3:(l.over) with
    |true=>
     have au:eT f ls l=false:=by simp only[eT,k1,vq,a1,a2,a3];rfl
     simp only[go_sem,i33_r2,h4,hL,k1,a1,a2,a3];refine⟨ah,hr au _ ?_⟩;simp only[go_sem]
    |false=>
     cases a4:(decide (l.gate<0)) with
     |true=>
      have yv:(l.gate<0):=of_decide_eq_true a4;have au:eT f ls l=false:=by simp only[eT,k1,vq,a1,a2,a3,a4];rfl
      simp only[go_sem,i33_r2,h4,hL,k1,a1,a2,a3,yv];refine⟨ah,hr au _ ?_⟩;simp only[go_sem]
     |false=>
      cases a5:(decide (f<l.gate)) with
      |true=>
       have yv:¬(l.gate<0):=of_decide_eq_false a4;have kE:(f<l.gate):=of_decide_eq_true a5;have au:eT f ls l=false:=by simp only[eT,k1,vq,a1,a2,a3,a4,a5];rfl
       simp only[go_sem,i33_r2,h1,hB,h4,hL,k1,a1,a2,a3,yv,kE];refine⟨ah,hr au _ ?_⟩;simp only[go_sem]
      |false=>
       cases a6:(decide (l.aD<1)) with
       |true=>
        have yv:¬(l.gate<0):=of_decide_eq_false a4;have kE:¬(f<l.gate):=of_decide_eq_false a5;have nh:(l.aD<1):=of_decide_eq_true a6;have au:eT f ls l=false:=by simp only[eT,k1,vq,a1,a2,a3,a4,a5,a6];rfl
        simp only[go_sem,i33_r2,h1,hB,h4,hL,k1,a1,a2,a3,yv,kE,nh];refine⟨ah,hr au _ ?_⟩;simp only[go_sem]
       |false=>
        cases a7:(decide ((aw (n9 l.gate) ls:Int)<l.aD)) with
        |true=>
         have yv:¬(l.gate<0):=of_decide_eq_false a4;have kE:¬(f<l.gate):=of_decide_eq_false a5;have nh:¬(l.aD<1):=of_decide_eq_false a6;have Kl:((aw (n9 l.gate) ls:Int)<l.aD):=of_decide_eq_true a7;have au:eT f ls l=false:=by simp only[eT,k1,vq,a1,a2,a3,a4,a5,a6,a7];rfl
         simp only[go_sem,i33_r2,h1,hB,h4,hL,s54,gU pin,k1,a1,a2,a3,yv,kE,nh,Kl];refine⟨ah,hr au _ ?_⟩;simp only[go_sem]
        |false=>
         cases a8:(((aw (iV l) ls:Nat):Int)!=1) with
         |true=>
          have yv:¬(l.gate<0):=of_decide_eq_false a4;have kE:¬(f<l.gate):=of_decide_eq_false a5;have nh:¬(l.aD<1):=of_decide_eq_false a6;have Kl:¬((aw (n9 l.gate) ls:Int)<l.aD):=of_decide_eq_false a7;have au:eT f ls l=false:=by simp only[eT,k1,vq,a1,a2,a3,a4,a5,a6,a7,a8];rfl
          simp only[go_sem,i33_r2,h1,hB,h4,hL,h5,s54,gU pin,k1,a1,a2,a3,yv,kE,nh,Kl,a8];refine⟨ah,hr au _ ?_⟩;simp only[go_sem]
         |false=>
          have yv:¬(l.gate<0):=of_decide_eq_false a4;have kE:¬(f<l.gate):=of_decide_eq_false a5;have nh:¬(l.aD<1):=of_decide_eq_false a6;have Kl:¬((aw (n9 l.gate) ls:Int)<l.aD):=of_decide_eq_false a7;have au:eT f ls l=true:=by simp only[eT,k1,vq,a1,a2,a3,a4,a5,a6,a7,a8];rfl
          simp only[go_sem,i33_r2,h1,hB,h4,hL,h5,s54,gU pin,k1,a1,a2,a3,yv,kE,nh,Kl,a8];refine⟨ah,hq au _ ?_ ?_⟩;all_goals simp only[go_sem]
 |false=>
  cases k2:(l.kind==2) with
  |true=>
   cases a1:(l.gate !=0) with
   |true=>
    have au:eT f ls l=false:=by simp only[eT,k1,k2,l6,a1];rfl
    simp only[go_sem,i33_r2,h4,hL,k1,k2,a1];refine⟨ah,hr au _ ?_⟩;simp only[go_sem]
   |false=>
    cases a2:(l.aD !=0) with
    |true=>
     have au:eT f ls l=false:=by simp only[eT,k1,k2,l6,a1,a2];rfl
     simp only[go_sem,i33_r2,h4,hL,k1,k2,a1,a2];refine⟨ah,hr au _ ?_⟩;simp only[go_sem]
    |false=>
     cases a3:(l.sign !=1) with
     |true=>
      cases a4:(l.sign != -1) with
      |true=>
       have au:eT f ls l=false:=by simp only[eT,k1,k2,l6,a1,a2,a3,a4];rfl
       simp only[go_sem,i33_r2,h4,hL,k1,k2,a1,a2,a3,a4];refine⟨ah,hr au _ ?_⟩;simp only[go_sem]
      |false=>
       cases a5:(decide (l.id<1)) with
       |true=>
        have kE:(l.id<1):=of_decide_eq_true a5;have au:eT f ls l=false:=by simp only[eT,k1,k2,l6,a1,a2,a3,a4,a5];rfl
        simp only[go_sem,i33_r2,h4,hL,k1,k2,a1,a2,a3,a4,kE];refine⟨ah,hr au _ ?_⟩;simp only[go_sem]
       |false=>
        cases a6:(decide (((aw Let.aB ls/2:Nat):Int)<l.id)) with
        |true=>
         have kE:¬(l.id<1):=of_decide_eq_false a5;have nh:(((aw Let.aB ls/2:Nat):Int)<l.id):=of_decide_eq_true a6;have au:eT f ls l=false:=by simp only[eT,k1,k2,l6,a1,a2,a3,a4,a5,a6];rfl
         simp only[go_sem,i33_r2,h1,hB,h4,hL,s31,gU pvi,fE,ez,wv,k1,k2,a1,a2,a3,a4,kE,nh];refine⟨ah,hr au _ ?_⟩;simp only[go_sem]
        |false=>
         cases a7:(((aw (iD l) ls:Nat):Int)!=1) with
         |true=>
          have kE:¬(l.id<1):=of_decide_eq_false a5;have nh:¬(((aw Let.aB ls/2:Nat):Int)<l.id):=of_decide_eq_false a6;have au:eT f ls l=false:=by simp only[eT,k1,k2,l6,a1,a2,a3,a4,a5,a6,a7];rfl
          simp only[go_sem,i33_r2,h1,hB,h4,hL,h6,s31,gU pvi,fE,ez,wv,k1,k2,a1,a2,a3,a4,kE,nh,a7];refine⟨ah,hr au _ ?_⟩;simp only[go_sem]
         |false=>
          cases a8:(((aw (lM l.id) ls:Nat):Int)!=2) with
          |true=>
           have kE:¬(l.id<1):=of_decide_eq_false a5;have nh:¬(((aw Let.aB ls/2:Nat):Int)<l.id):=of_decide_eq_false a6;have au:eT f ls l=false:=by simp only[eT,k1,k2,l6,a1,a2,a3,a4,a5,a6,a7,a8];rfl
           simp only[go_sem,i33_r2,h1,hB,h4,hL,h6,s31,s55,gU pvi,gU pti,fE,ez,wv,k1,k2,a1,a2,a3,a4,kE,nh,a7,a8];refine⟨ah,hr au _ ?_⟩;simp only[go_sem]
          |false=>
           have kE:¬(l.id<1):=of_decide_eq_false a5;have nh:¬(((aw Let.aB ls/2:Nat):Int)<l.id):=of_decide_eq_false a6;have au:eT f ls l=true:=by simp only[eT,k1,k2,l6,a1,a2,a3,a4,a5,a6,a7,a8];rfl
           simp only[go_sem,i33_r2,h1,hB,h4,hL,h6,s31,s55,gU pvi,gU pti,fE,ez,wv,k1,k2,a1,a2,a3,a4,kE,nh,a7,a8];refine⟨ah,hq au _ ?_ ?_⟩;all_goals simp only[go_sem]
     |false=>
      cases a5:(decide (l.id<1)) with
      |true=>
       have kE:(l.id<1):=of_decide_eq_true a5;have au:eT f ls l=false:=by simp only[eT,k1,k2,l6,a1,a2,a3,a5];rfl
       simp only[go_sem,i33_r2,h4,hL,k1,k2,a1,a2,a3,kE];refine⟨ah,hr au _ ?_⟩;simp only[go_sem]
      |false=>
       cases a6:(decide (((aw Let.aB ls/2:Nat):Int)<l.id)) with
       |true=>
        have kE:¬(l.id<1):=of_decide_eq_false a5;have nh:(((aw Let.aB ls/2:Nat):Int)<l.id):=of_decide_eq_true a6;have au:eT f ls l=false:=by simp only[eT,k1,k2,l6,a1,a2,a3,a5,a6];rfl
        simp only[go_sem,i33_r2,h1,hB,h4,hL,s31,gU pvi,fE,ez,wv,k1,k2,a1,a2,a3,kE,nh];refine⟨ah,hr au _ ?_⟩;simp only[go_sem]
       |false=>
        cases a7:(((aw (iD l) ls:Nat):Int)!=1) with
        |true=>
         have kE:¬(l.id<1):=of_decide_eq_false a5;have nh:¬(((aw Let.aB ls/2:Nat):Int)<l.id):=of_decide_eq_false a6;have au:eT f ls l=false:=by simp only[eT,k1,k2,l6,a1,a2,a3,a5,a6,a7];rfl
         simp only[go_sem,i33_r2,h1,hB,h4,hL,h6,s31,gU pvi,fE,ez,wv,k1,k2,a1,a2,a3,kE,nh,a7];refine⟨ah,hr au _ ?_⟩;simp only[go_sem]
        |false=>
         cases a8:(((aw (lM l.id) ls:Nat):Int)!=2) with
         |true=>
          have kE:¬(l.id<1):=of_decide_eq_false a5;have nh:¬(((aw Let.aB ls/2:Nat):Int)<l.id):=of_decide_eq_false a6;have au:eT f ls l=false:=by simp only[eT,k1,k2,l6,a1,a2,a3,a5,a6,a7,a8];rfl
          simp only[go_sem,i33_r2,h1,hB,h4,hL,h6,s31,s55,gU pvi,gU pti,fE,ez,wv,k1,k2,a1,a2,a3,kE,nh,a7,a8];refine⟨ah,hr au _ ?_⟩;simp only[go_sem]
         |false=>
          have kE:¬(l.id<1):=of_decide_eq_false a5;have nh:¬(((aw Let.aB ls/2:Nat):Int)<l.id):=of_decide_eq_false a6;have au:eT f ls l=true:=by simp only[eT,k1,k2,l6,a1,a2,a3,a5,a6,a7,a8];rfl
          simp only[go_sem,i33_r2,h1,hB,h4,hL,h6,s31,s55,gU pvi,gU pti,fE,ez,wv,k1,k2,a1,a2,a3,kE,nh,a7,a8];refine⟨ah,hq au _ ?_ ?_⟩;all_goals simp only[go_sem]
  |false=>
   have au:eT f ls l=false:=by simp only[eT,k1,k2];rfl
   simp only[go_sem,i33_r2,h4,hL,k1,k2];refine hr au _ ?_;simp only[go_sem]
def wC(f:Int)(ls:List Let):Bool:=ls.all (eT f ls)
theorem amO(f:Int)(ls:List Let)(hl:ls.length<=1000000):aI S 33 [dX f ls] (rb (wC f ls)):=by
 refine aZ c33 ?_;simp only[go_sem,i33];refine cV (fun k ak aj=>ak 1=.one (.aY 2112000000 1 0)/\aj 2112000000=(1,some (.var (tk f ls)))/\ak 3=vi k/\ ∀j l,j<k->ls[j]?=some l->eT f ls l=true) 0 ls.length (bG _) ?_ ?_
 .simp only[go_sem];exact⟨rfl,fun j l h=>absurd h (qY j)⟩
 rintro k ak aj hk ⟨h1,hB,h3,au⟩
 by_cases ay:k<ls.length
 .obtain⟨l,ho⟩:=aL ay;have hi:=iI ho;have aJ:((k:Int)<(ls.length:Int)):=aa;have w1:=cn (n:=k) aa;simp only[go_sem,i33_l4,h1,hB,h3,hi,Let.ps,aJ];refine amM (f:=f) (l:=l) (g:=(aj 2112256320).1+1) (i:=k) hl ?_ ?_ ?_ ?_ ?_ ?_ ?_ ?_ ?_
  .simp only[go_sem,h1]
  .simp only[go_sem,hB]
  .simp only[go_sem,h3]
  .simp only[go_sem]
  .simp only[go_sem]
  .simp only[go_sem]
  .simp only[go_sem]
  .simp only[go_sem]
  intro aC ao q1 q3 q4 b1 b2 q5 q6;simp only[go_sem,h1,h3] at q1 q3 q4;simp only[go_sem,hB] at b1 b2;simp only[go_sem];refine amN (f:=f) (l:=l) (i:=k) hl q1 b1 q3 q4 b2 q5 q6 ?_ ?_
  .intro LY cT e1 e3;rw[q1] at e1;rw[q3] at e3;simp only[go_sem,i33_r3,e1,b1,e3,w1];refine⟨ay,fun j l' hj u9=>?_⟩;rcases mY.1 hj with hj|rfl
   .exact au j l' hj u9
   rw[ho] at u9;cases u9;exact LY
  intro Uw cT e2;have hf:wC f ls=false:=by unfold wC;rw[List.all_eq_false];exact⟨l,aU ho,by simp[Uw]⟩
  simp only[go_sem,e2,hf]
 have:k=ls.length:=aa;subst this;have hf:wC f ls=true:=by unfold wC;rw[ko];intro x hx;obtain⟨j,hj,rfl⟩:=List.getElem_of_mem hx;exact au j _ hj af
 simp only[go_sem,i33_l4,i33_r5,h1,hB,h3,eE,hf]
theorem alU{ls:List Let}{o:List Nat}{i x:Nat}:x∈zi ls o i↔x∈o\/x=i:=by
 unfold zi;generalize (o.takeWhile (AQ ls i)).length=K;constructor
 .intro h;rcases fg.1 h with h|h
  .exact .inl (yg h)
  rcases cP.1 h with h|h
  .exact .inr h
  exact .inl (wR h)
 rintro (h|rfl)
 .rw[<- mX K o] at h;rcases fg.1 h with h|h
  .exact fg.2 (.inl h)
  exact fg.2 (.inr (cP.2 (.inr h)))
 simp
theorem Xm{ls:List Let}:∀ {k x:Nat},k<=ls.length->(x∈nM ls k↔x<k/\ ∃l,ls[x]?=some l/\l.aE=true):=by
 intro k
 induction k with
 |zero=>intro x _;simp[nM]
 |succ k ih=>
  intro x hk;rw[Hv];obtain⟨l,hl⟩:=aL (ls:=ls) (k:=k) aa;have ih:=ih (x:=x) aa;unfold zO;rw[hl];simp only;by_cases hp:l.aE=true
  .rw[if_pos hp,alU,ih];constructor
   .rintro (⟨h1,h2⟩|rfl)
    .exact⟨aa,h2⟩
    exact⟨aa,l,hl,hp⟩
   rintro ⟨h1,h2⟩
   rcases mY.1 h1 with h|rfl
   .exact .inl ⟨h,h2⟩
   exact .inr rfl
  rw[if_neg hp,ih];constructor
  .rintro ⟨h1,h2⟩;exact⟨aa,h2⟩
  rintro ⟨h1,m,hm,uz⟩
  rcases mY.1 h1 with h|rfl
  .exact⟨h,m,hm,uz⟩
  rw[hl] at hm;cases hm;exact(hp uz).elim
theorem tg{ls:List Let}{x:Nat}:x∈aF ls↔ ∃l,ls[x]?=some l/\l.aE=true:=by
 have:=Xm (ls:=ls) (k:=ls.length) (x:=x) (bN _);have e:aF ls=nM ls ls.length:=rfl;rw[e,this];constructor
 .rintro ⟨_,h⟩;exact h
 rintro ⟨l,h,h2⟩;exact⟨(aW.1 h).1,l,h,h2⟩
theorem acN{ls:List Let}(h:wC f ls=true){v:Nat}{l:Let}(hv:ls[v]?=some l):l.aE=true\/l.aB=true:=by
 have:=(ko.1 h) l (aU hv);unfold eT at this;unfold Let.aE Let.aB;cases h1:(l.kind==1) with
 |true=>exact .inl rfl
 |false=>
  cases h2:(l.kind==2) with
  |true=>exact .inr rfl
  |false=>rw[h1,h2] at this;simp at this
def l5(ls:List Let):Nat:=(iJ (gQ ls (aF ls)) (2*ls.length+2*(aF ls).length)).length
def lR(f:Int)(ls:List Let):Bool:=(match ls[0]? with|some l=>l.kind==1|none=>true)&&(aw Let.aE ls%2==0)&&wC f ls&&(l5 ls==aw Let.aE ls+aw Let.aB ls/2+2)
def cU(f:Int)(ls:List Let):Int:=if 400<ls.length\/200<aw Let.aB ls then 7 else if f<0\/40<f then 2 else if ls=[] then 0 else if lR f ls then 0 else 3
theorem ahO(f:Int)(ls:List Let)(hl:ls.length<=1000000):aI S 10 [dX f ls] (ri (cU f ls)):=by
 have pvi:=Wu f ls hl;have ppa:=an6 f ls hl;have ple:=amO f ls hl;have pcr:=aie f ls hl;have hci:=tj Let.aB ls;have gI:=tj Let.aE ls;refine aZ c10 ?_;unfold cU;by_cases h1:400<ls.length
 .have jO:(400:Int)<(ls.length:Int):=aa;simp only[go_sem,i10,h1,jO]
 have jO:¬(400:Int)<(ls.length:Int):=aa;by_cases h2:200<aw Let.aB ls
 .have gH:(200:Int)<(aw Let.aB ls:Int):=aa;simp only[go_sem,i10,h1,jO,h2,gH,s31,eJ pvi]
 have gH:¬(200:Int)<(aw Let.aB ls:Int):=aa;by_cases h3:f<0
 .simp only[go_sem,i10,h1,jO,h2,gH,h3,s31,eJ pvi]
 by_cases h4:40<f
 .simp only[go_sem,i10,h1,jO,h2,gH,h3,h4,s31,eJ pvi]
 have ali:¬(400<ls.length\/200<aw Let.aB ls):=aa;have alj:¬(f<0\/40<f):=aa;rw[if_neg ali,if_neg alj];by_cases he:ls=[]
 .subst he;have hz:(((0:Nat):Int)==0)=true:=ae;have hz3:¬((400:Int)<((0:Nat):Int)):=ae;have ao6:aI S 31 [.agg [.p (.int .i64 f),.p (.sl [])]] (ri (aw Let.aB [])):=pvi;simp only[go_sem,i10,hz3,gH,h3,h4,s31,eJ ao6,hz]
 have hlen:0<ls.length:=iX.2 he;obtain⟨l0,h0⟩:=aL hlen;have yY:=iI h0;have Ga:(((ls.length:Nat):Int)==0)=false:=by simp;omega
 rw[if_neg he];generalize hr:(if lR f ls=true then (0:Int) else 3)=r;cases c1:(l0.kind==1) with
 |false=>
  have c1':(l0.kind !=1)=true:=by simp[bne,c1]
  have hv:lR f ls=false:=by simp only[lR,h0,c1];rfl
  rw[hv] at hr;have hr:(3:Int)=r:=hr;subst hr;simp only[go_sem,i10,jO,gH,h3,h4,s31,eJ pvi,Ga,s32,eJ ppa,yY,Let.ps,c1'];exact aG
 |true=>
  have c1':(l0.kind !=1)=false:=by simp[bne,c1]
  cases c2:(aw Let.aE ls%2==0) with
  |false=>
   have c2':(((aw Let.aE ls%2:Nat):Int)!=0)=true:=by simp at c2 ⊢;omega
   have hv:lR f ls=false:=by simp only[lR,h0,c1,c2];rfl
   rw[hv] at hr;have hr:(3:Int)=r:=hr;subst hr;simp only[go_sem,i10,jO,gH,h3,h4,s31,eJ pvi,Ga,s32,eJ ppa,yY,Let.ps,c1',jy,ez,c2'];exact aG
  |true=>
   have c2':(((aw Let.aE ls%2:Nat):Int)!=0)=false:=by simp at c2 ⊢;omega
   cases c3:wC f ls with
   |false=>
    rw[c3] at ple;have hv:lR f ls=false:=by simp only[lR,h0,c1,c2,c3];rfl
    rw[hv] at hr;have hr:(3:Int)=r:=hr;subst hr;simp only[go_sem,i10,jO,gH,h3,h4,s31,eJ pvi,Ga,s32,eJ ppa,yY,Let.ps,c1',jy,ez,c2',s33,nk ple];exact aG
   |true=>
    rw[c3] at ple;have aH:aF ls≠[]:=fun e=>by have:(0:Nat)∈aF ls:=tg.2 ⟨l0,h0,c1⟩;rw[e] at this;cases this
    have hp:∀v l,ls[v]?=some l->(l.kind==2)=false->v∈aF ls:=fun v l hv h2=>by
     rcases acN c3 hv with h|h
     .exact tg.2 ⟨l,hv,h⟩
     unfold Let.aB at h;rw[h2] at h;cases h
    have pw:=asc f ls hl aH hp;have Md:l5 ls=(iJ (gQ ls (aF ls)) (2*ls.length+2*(aF ls).length)).length:=rfl;have lL:=Nn (gQ ls (aF ls)) (2*ls.length+2*(aF ls).length) (2*ls.length+2*(aF ls).length);generalize hW:iJ (gQ ls (aF ls)) (2*ls.length+2*(aF ls).length)=ws at pw lL Md;have a1:=wrap_add (a:=aw Let.aE ls) (b:=aw Let.aB ls/2) aa;have a2:IntKind.i64.wrap (((aw Let.aE ls+aw Let.aB ls/2:Nat):Int)+2)=((aw Let.aE ls+aw Let.aB ls/2+2:Nat):Int):=wrap_add (a:=aw Let.aE ls+aw Let.aB ls/2) (b:=2) aa;have eS:S.lone 640513152=false:=ah
    have jQ:∀(aj:aA),land aj [] 640513152 ((RV.one (.own 62 1 (ws.map fun w=>[AZ w]))).gK (S.lone 640513152))=some (.one (.hsl 640513152 ((aj 640513152).1+1) 1 0 ws.length),[(640513152,((aj 640513152).1+1,some (.arr 62 1 (ws.map fun w=>[AZ w]))))]):=by intro aj;rw[eS];simp only[RV.gK,land,true_or,if_true,jl,gG,ik,iT,cH,qt,l7,cM,kN]
    cases c4:(ws.length==aw Let.aE ls+aw Let.aB ls/2+2) with
    |false=>
     have c4':(((ws.length:Nat):Int)!=((aw Let.aE ls+aw Let.aB ls/2+2:Nat):Int))=true:=by simp at c4 ⊢;omega
     have hv:lR f ls=false:=by simp only[lR,h0,c1,c2,c3,Md,c4];rfl
     rw[hv] at hr;have hr:(3:Int)=r:=hr;subst hr;simp only[go_sem,i10,jO,gH,h3,h4,s31,eJ pvi,Ga,s32,eJ ppa,yY,Let.ps,c1',jy,ez,c2',s33,nk ple,s34,DC pw (jQ _),s35,gU pcr,a1,a2,c4'];exact aG
    |true=>
     have c4':(((ws.length:Nat):Int)!=((aw Let.aE ls+aw Let.aB ls/2+2:Nat):Int))=false:=by simp at c4 ⊢;omega
     have hv:lR f ls=true:=by simp only[lR,h0,c1,c2,c3,Md,c4];rfl
     rw[hv] at hr;have hr:(0:Int)=r:=hr;subst hr;simp only[go_sem,i10,jO,gH,h3,h4,s31,eJ pvi,Ga,s32,eJ ppa,yY,Let.ps,c1',jy,ez,c2',s33,nk ple,s34,DC pw (jQ _),s35,gU pcr,a1,a2,c4'];exact aG
def dz(f:Int)(l:Let):Bool:=if l.kind==1 then (((decide (l.gate<0)||decide (f<l.gate))||l.id !=0)||l.sign !=0)||l.over else if l.kind==2 then (l.gate !=0||l.aD !=0)||(l.sign !=1&&l.sign != -1) else true
theorem ag9(f:Int)(l:Let)(x1 x2 x3 x4 x5 x6:PV):aI S 87 [I7 l,.one (.p (.box [.box [.int .i64 f,x1,x2,x3,x4,x5,x6]]))] (rb (dz f l)):=by
 refine aZ c87 ?_;cases k1:(l.kind==1) with
 |true=>
  cases a1:(decide (l.gate<0)) with
  |true=>
   have yu:(l.gate<0):=of_decide_eq_true a1;have hb:dz f l=true:=by simp only[dz,k1,a1];rfl
   simp only[go_sem,i87,k1,yu,hb];exact aG
  |false=>
   cases a2:(decide (f<l.gate)) with
   |true=>
    have yu:¬(l.gate<0):=of_decide_eq_false a1;have BA:(f<l.gate):=of_decide_eq_true a2;have hb:dz f l=true:=by simp only[dz,k1,a1,a2];rfl
    simp only[go_sem,i87,k1,yu,BA,hb];exact aG
   |false=>
    cases a3:(l.id !=0) with
    |true=>
     have yu:¬(l.gate<0):=of_decide_eq_false a1;have BA:¬(f<l.gate):=of_decide_eq_false a2;have hb:dz f l=true:=by simp only[dz,k1,a1,a2,a3];rfl
     simp only[go_sem,i87,k1,yu,BA,a3,hb];exact aG
    |false=>
     cases a4:(l.sign !=0) with
     |true=>
      have yu:¬(l.gate<0):=of_decide_eq_false a1;have BA:¬(f<l.gate):=of_decide_eq_false a2;have hb:dz f l=true:=by simp only[dz,k1,a1,a2,a3,a4];rfl
      simp only[go_sem,i87,k1,yu,BA,a3,a4,hb];exact aG
     |false=>
      cases a5:(l.over) with
      |true=>
       have yu:¬(l.gate<0):=of_decide_eq_false a1;have BA:¬(f<l.gate):=of_decide_eq_false a2;have hb:dz f l=true:=by simp only[dz,k1,a1,a2,a3,a4,a5];rfl
       simp only[go_sem,i87,k1,yu,BA,a3,a4,a5,hb];exact aG
      |false=>
       have yu:¬(l.gate<0):=of_decide_eq_false a1;have BA:¬(f<l.gate):=of_decide_eq_false a2;have hb:dz f l=false:=by simp only[dz,k1,a1,a2,a3,a4,a5];rfl
       simp only[go_sem,i87,k1,yu,BA,a3,a4,a5,hb];exact aG
 |false=>
  cases k2:(l.kind==2) with
  |true=>
   cases a1:(l.gate !=0) with
   |true=>
    have hb:dz f l=true:=by simp only[dz,k1,k2,a1];rfl
    simp only[go_sem,i87,k1,k2,a1,hb]
   |false=>
    cases a2:(l.aD !=0) with
    |true=>
     have hb:dz f l=true:=by simp only[dz,k1,k2,a1,a2];rfl
     simp only[go_sem,i87,k1,k2,a1,a2,hb]
    |false=>
     cases a3:(l.sign !=1) with
     |true=>
      cases a4:(l.sign != -1) with
      |true=>
       have hb:dz f l=true:=by simp only[dz,k1,k2,a1,a2,a3,a4];rfl
       simp only[go_sem,i87,k1,k2,a1,a2,a3,a4,hb]
      |false=>
       have hb:dz f l=false:=by simp only[dz,k1,k2,a1,a2,a3,a4];rfl
       simp only[go_sem,i87,k1,k2,a1,a2,a3,a4,hb]
     |false=>
      have hb:dz f l=false:=by simp only[dz,k1,k2,a1,a2,a3];rfl
      simp only[go_sem,i87,k1,k2,a1,a2,a3,hb]
  |false=>
   have hb:dz f l=true:=by simp only[dz,k1,k2];rfl
   simp only[go_sem,i87,k1,k2,hb]
abbrev dfn(f:Int)(x1 x2 x3 x4 x5 x6:PV):PV:=.fn 87 [] [.box [.box [.int .i64 f,x1,x2,x3,x4,x5,x6]]]
theorem aha(f:Int)(ls:List Let)(x1 x2 x3 x4 x5 x6:PV)(hl:ls.length<=1000000)(hn:x1.norm=x1/\x2.norm=x2/\x3.norm=x3/\x4.norm=x4/\x5.norm=x5/\x6.norm=x6):
  ∃k:Int,(0<=k↔ls.any (dz f)=true)/\aI S 100 [.one (.p (cF ls)),.one (.p (dfn f x1 x2 x3 x4 x5 x6))] (ri k):=by
 have main:∀r:Int,(∀(k:Nat) l,ls[k]?=some l->dz f l=true->(∀(j:Nat) m,j<k->ls[j]?=some m->dz f m=false)->r=k)->((∀(j:Nat) m,ls[j]?=some m->dz f m=false)->r= -1)->
   aI S 100 [.one (.p (cF ls)),.one (.p (dfn f x1 x2 x3 x4 x5 x6))] (ri r):=by
  intro r jv tF;refine aZ c100 ?_;simp only[go_sem,i100];refine cV (fun k ak aj=>ak 0=.one (.p (cF ls))/\ak 1=.one (.p (dfn f x1 x2 x3 x4 x5 x6))/\ak 7=vi ls.length/\ak 8=vi k/\ ∀j m,j<k->ls[j]?=some m->dz f m=false) 0 ls.length (bG _) ?_ ?_
  .simp only[go_sem];exact⟨rfl,fun j m h=>absurd h (qY j)⟩
  rintro k ak aj hk ⟨h0,h1,h7,h8,hn⟩
  by_cases ay:k<ls.length
  .obtain⟨l,dU⟩:=aL ay;have hi:=iI dU;have aJ:((k:Int)<(ls.length:Int)):=aa;have w1:=cn (n:=k) aa;have pb:=ag9 f l x1 x2 x3 x4 x5 x6;cases hb:dz f l with
   |true=>rw[hb] at pb;have hr:=jv k l dU hb hn;subst hr;simp only[go_sem,i100_l1,h0,h1,h7,h8,hi,Let.ps,aJ,s87,cY pb]
   |false=>
    rw[hb] at pb;simp only[go_sem,i100_l1,h0,h1,h7,h8,hi,Let.ps,aJ,w1,s87,cY pb];refine⟨ay,fun j m hj hm=>?_⟩;rcases mY.1 hj with hj|rfl
    .exact hn j m hj hm
    rw[dU] at hm;cases hm;exact hb
  have:k=ls.length:=aa;subst this;have hr:=tF fun j m hm=>hn j m (aW.1 hm).1 hm;subst hr;simp only[go_sem,i100_l1,i100_r2,h7,h8,eE]
 cases ha:ls.any (dz f) with
 |true=>
  have hx:ls.findIdx (dz f)<ls.length:=List.findIdx_lt_length_of_exists (by simpa using ha);refine⟨(ls.findIdx (dz f):Nat),⟨fun _=>rfl,fun _=>aa⟩,main _ ?_ ?_⟩
  .intro k l dU hb hn;have hk:=(aW.1 dU).1;have h1:dz f ls[ls.findIdx (dz f)]=true:=List.findIdx_getElem;rcases Nat.lt_trichotomy (ls.findIdx (dz f)) k with h|h|h
   .have:=hn _ _ h (s0 hx);rw[h1] at this;cases this
   .rw[h]
   have:=List.not_of_lt_findIdx h;have e:ls[k]=l:=by rw[s0 hk] at dU;exact qZ dU
   rw[e,hb] at this;simp at this
  intro hn;have h1:dz f ls[ls.findIdx (dz f)]=true:=List.findIdx_getElem;have:=hn _ _ (s0 hx);rw[h1] at this;cases this
 |false=>refine⟨-1,⟨fun h=>aa,fun h=>by cases h⟩,main _ ?_ (fun _=>rfl)⟩;intro k l dU hb _;have:=G0.1 ha l (aU dU);exact(this hb).elim
theorem ah5(f:Int)(ls:List Let)(x1 x2 x3 x4 x5 x6:PV)(hl:ls.length<=1000000)(hn:x1.norm=x1/\x2.norm=x2/\x3.norm=x3/\x4.norm=x4/\x5.norm=x5/\x6.norm=x6):
  aI S 86 [.one (.p (cF ls)),.one (.p (dfn f x1 x2 x3 x4 x5 x6))] (rb (ls.any (dz f))):=by
 obtain⟨k,hk,pk⟩:=aha f ls x1 x2 x3 x4 x5 x6 hl hn;refine aZ c86 ?_;cases ha:ls.any (dz f) with
 |true=>have h0:=hk.2 ha;simp only[go_sem,i86,s100,eJ pk,h0]
 |false=>
  have h0:¬0<=k:=fun h=>by rw[hk.1 h] at ha;cases ha
  simp only[go_sem,i86,s100,eJ pk,h0]
abbrev KM(f:Int)(ls:List Let)(x2 x3 x4 x5 x6:PV):PV:=.box [.int .i64 f,cF ls,x2,x3,x4,x5,x6]
theorem aiw(f:Int)(ls:List Let)(x2 x3 x4 x5 x6:PV)(hl:ls.length<=1000000)(hn:x2.norm=x2/\x3.norm=x3/\x4.norm=x4/\x5.norm=x5/\x6.norm=x6):
  aI S 67 [.one (.p (KM f ls x2 x3 x4 x5 x6))] (rb (!ls.any (dz f))):=by
 have pc:=ah5 f ls (cF ls) x2 x3 x4 x5 x6 hl ⟨rfl,hn.1,hn.2.1,hn.2.2.1,hn.2.2.2.1,hn.2.2.2.2⟩;refine aZ c67 ?_;simp only[go_sem,i67,s86,cY pc]
theorem aiq(f:Int)(ls:List Let)(l0:Let)(x2 x3 x4 x5 x6:PV)(hl:ls.length<=1000000)(h0:ls[0]?=some l0):
  aI S 68 [.one (.p (KM f ls x2 x3 x4 x5 x6))] (rb (l0.kind==1&&aw Let.aE ls%2==0)):=by
 have pp:=VL f ls hl;have yY:=iI h0;refine aZ c68 ?_;have e2:((((aw Let.aE ls)%2:Nat):Int)==0)=(aw Let.aE ls%2==0):=by
  cases h:(aw Let.aE ls%2==0) with
  |true=>simp at h ⊢;omega
  |false=>simp at h ⊢;omega
 cases hk:(l0.kind==1) with
 |true=>simp only[go_sem,i68,yY,Let.ps,hk,s88,eJ pp,jy,ez,e2]
 |false=>simp only[go_sem,i68,yY,Let.ps,hk]
def nL(g:Nat)(l:Let):Bool:=l.aE&&l.gate==(g:Int)
abbrev cg(ls:List Let)(g:Nat):Nat:=aw (nL g) ls
def rz(ls:List Let)(F k:Nat):List Nat:=(List.range (F+1)).map fun g=>cg (ls.take k) g
def counts(ls:List Let)(F:Nat):List Nat:=(List.range (F+1)).map (cg ls)
theorem Ye{ls:List Let}{k G:Nat}(h:G<=F):(rz ls F k)[G]?=some (cg (ls.take k) G):=by simp[rz,r4 (show G<F+1 by omega)]
theorem RZ(ls:List Let)(F:Nat):rz ls F ls.length=counts ls F:=by simp[rz,counts]
theorem R0(ls:List Let)(F:Nat):rz ls F 0=List.replicate (F+1) 0:=by apply wQ<;>simp[rz]
theorem Yg{ls:List Let}{k:Nat}{l:Let}(h:ls[k]?=some l)(hp:l.aE=false):rz ls F (k+1)=rz ls F k:=by unfold rz;congr 1;funext g;exact jC h (by simp[nL,hp])
theorem Yf{ls:List Let}{k G:Nat}{l:Let}(h:ls[k]?=some l)(hp:l.aE=true)(hg:l.gate=(G:Int)):
  rz ls F (k+1)=(rz ls F k).set G (cg (ls.take k) G+1):=by
 apply wQ
 .simp[rz]
 intro i h1 h2;rw[Kf];simp only[rz,Df,Ke];split
 .rename_i e;subst e;exact ru h (by simp[nL,hp,hg])
 exact jC h (by simp[nL,hg];intro _ e;omega)
theorem Ja(o:List Nat)(k n:Nat):(nP o).set k [.int .i64 (n:Int)]=nP (o.set k n):=by simp[List.map_set]
theorem VC(o:List Nat):(nP o).length=o.length:=af
theorem VD(n m:Nat):nP (List.replicate n m)=List.replicate n [.int .i64 (m:Int)]:=af
theorem Xs(n:Nat)(b:Bool):bP (List.replicate n b)=List.replicate n [.bool b]:=af
theorem KN{ls:List Let}{k:Nat}{l:Let}(h:ls[k]?=some l)(hp:l.aE=true):dn ls (k+1)= !dn ls k:=by
 unfold dn;rw[ru h hp];cases hc:(aw Let.aE (ls.take k)%2==0) with
 |true=>simp at hc ⊢;omega
 |false=>simp at hc ⊢;omega
theorem KO{ls:List Let}{k:Nat}{l:Let}(h:ls[k]?=some l)(hp:l.aE=false):dn ls (k+1)=dn ls k:=by unfold dn;rw[jC h hp]
def gV(ls:List Let)(i:Nat):Bool:=match ls[i]? with|some l=>l.aE&&dn ls i|none=>false
def tn(ls:List Let)(k:Nat):List Bool:=(List.range ls.length).map fun i=>decide (i<k)&&gV ls i
def iO(ls:List Let):List Bool:=(List.range ls.length).map (gV ls)
theorem aiD(ls:List Let):tn ls 0=List.replicate ls.length false:=by apply wQ<;>simp[tn]
theorem aiz(ls:List Let):tn ls ls.length=iO ls:=by unfold tn iO;apply Dh;intro i hi;simp[gj.1 hi]
theorem aiB(ls:List Let)(k:Nat):(tn ls k).length=ls.length:=by simp[tn]
theorem aiC{ls:List Let}{k:Nat}{l:Let}(h:ls[k]?=some l)(hp:l.aE=false):tn ls (k+1)=tn ls k:=by
 unfold tn;apply Dh;intro i hi;by_cases e:i=k
 .subst e;simp[gV,h,hp]
 have:(i<k+1)↔(i<k):=aa;simp[this]
theorem aiA{ls:List Let}{k:Nat}{l:Let}(h:ls[k]?=some l)(hp:l.aE=true):tn ls (k+1)=(tn ls k).set k (dn ls k):=by
 apply wQ
 .simp[tn]
 intro i h1 h2;rw[Kf];simp only[tn,Df,Ke];split
 .rename_i e;subst e;simp[gV,h,hp]
 have:(i<k+1)↔(i<k):=aa;simp[this]
def fP(ls:List Let)(g:Nat):Nat:=((List.range g).map (cg ls)).sum
theorem tz(ls:List Let)(g:Nat):fP ls (g+1)=fP ls g+cg ls g:=by simp[fP,wT]
def vT(ls:List Let)(F k:Nat):List Nat:=(List.range (F+1)).map fun g=>if g<k then fP ls g else 0
def H0(ls:List Let)(F:Nat):List Nat:=(List.range (F+1)).map (fP ls)
theorem ajx(ls:List Let)(F:Nat):vT ls F 0=List.replicate (F+1) 0:=by apply wQ<;>simp[vT]
theorem aju(ls:List Let)(F:Nat):vT ls F (F+1)=H0 ls F:=by unfold vT H0;apply Dh;intro i hi;simp[gj.1 hi]
theorem ajv(ls:List Let)(F k:Nat):(vT ls F k).length=F+1:=by simp[vT]
theorem ajw(ls:List Let)(F k:Nat):vT ls F (k+1)=(vT ls F k).set k (fP ls k):=by
 apply wQ
 .simp[vT]
 intro i h1 h2;rw[Kf];simp only[vT,Df,Ke];by_cases e:k=i
 .subst e;simp
 have:(i<k+1)↔(i<k):=aa;simp only[this,if_neg e]
theorem NS{ls:List Let}{G:Nat}(h:G<=F):(counts ls F)[G]?=some (cg ls G):=by simp[counts,r4 (show G<F+1 by omega)]
theorem ajy{ls:List Let}{G:Nat}(h:G<=F):(H0 ls F)[G]?=some (fP ls G):=by simp[H0,r4 (show G<F+1 by omega)]
theorem zW{ls:List Let}{a b:Nat}(h:a<=b):fP ls a<=fP ls b:=by
 induction h with
 |refl=>exact bN _
 |step _ ih=>rw[tz];omega
theorem agQ(g:Nat)(a:Let):((a.aE&&(decide (0<=a.gate)&&decide (a.gate<((g+1:Nat):Int))))=true)↔((a.aE&&(decide (0<=a.gate)&&decide (a.gate<(g:Int))))=true\/nL g a=true):=by
 simp only[nL,cX,decide_eq_true_eq,beq_iff_eq];constructor
 .rintro ⟨h1,h2,h3⟩
  by_cases h:a.gate=(g:Int)
  .exact Or.inr ⟨h1,h⟩
  exact Or.inl ⟨h1,h2,aa⟩
 rintro (⟨h1,h2,h3⟩|⟨h1,h2⟩)
 .exact⟨h1,h2,aa⟩
 exact⟨h1,aa,aa⟩
theorem agP(g:Nat)(a:Let):(a.aE&&(decide (0<=a.gate)&&decide (a.gate<(g:Int))))=true->nL g a=true->False:=by simp only[nL,cX,decide_eq_true_eq,beq_iff_eq];omega
theorem RY{p q r:Let->Bool}(h:∀a,r a=true↔(p a=true\/q a=true))(hn:∀a,p a=true->q a=true->False):∀ls:List Let,ls.countP r=ls.countP p+ls.countP q:=by
 intro ls
 induction ls with
 |nil=>rfl
 |cons a ls ih=>rw[wP,wP,wP,ih];have h1:=h a;have h2:=hn a;cases ep:p a<;>cases eq:q a<;>cases er:r a<;>simp_all<;>omega
theorem aaa(ls:List Let):∀g,fP ls g=aw (fun l=>l.aE&&(decide (0<=l.gate)&&decide (l.gate<((g:Nat):Int)))) ls:=by
 intro g
 induction g with
 |zero=>symm;show ls.countP _=0;rw[JZ];intro a _;simp only[cX,decide_eq_true_eq];omega
 |succ g ih=>rw[tz,ih];exact(RY (agQ g) (agP g) ls).symm
theorem Ue(ls:List Let)(g:Nat):fP ls g<=ls.length:=by rw[aaa];exact tj _ _
def dR(ls:List Let)(l:Let):Nat:=fP ls l.gate.toNat+l.aD.toNat-1
def sE(ls:List Let)(p i:Nat):Bool:=match ls[i]? with|some l=>l.aE&&dR ls l==p|none=>false
def wK(ls:List Let)(T k:Nat):List Bool:=(List.range T).map fun p=>(List.range k).any (sE ls p)
def Kp(ls:List Let)(k p:Nat):Nat:=((List.range k).find? (sE ls p)).getD 0
def ss(ls:List Let)(T k:Nat):List Nat:=(List.range T).map (Kp ls k)
def A3(ls:List Let)(i:Nat):Nat:=match ls[i]? with|some l=>if l.aE then dR ls l else 0|none=>0
def jK(ls:List Let)(k:Nat):List Nat:=(List.range ls.length).map fun i=>if i<k then A3 ls i else 0
def sY(ls:List Let)(i:Nat):Bool:=match ls[i]? with
 |some l=> !l.aE||(decide (1<=l.aD)&&decide (l.aD<=(cg ls l.gate.toNat:Int)))&& !(List.range i).any (sE ls (dR ls l))
 |none=>true
def xW(ls:List Let):Bool:=(List.range ls.length).all (sY ls)
theorem arz(ls:List Let)(T:Nat):wK ls T 0=List.replicate T false:=by apply wQ<;>simp[wK]
theorem agT(ls:List Let)(T:Nat):ss ls T 0=List.replicate T 0:=by apply wQ<;>simp[ss,Kp]
theorem aol(ls:List Let):jK ls 0=List.replicate ls.length 0:=by apply wQ<;>simp[jK]
theorem Xl(ls:List Let)(T k:Nat):(ss ls T k).length=T:=by simp[ss]
theorem aoj(ls:List Let)(k:Nat):(jK ls k).length=ls.length:=by simp[jK]
theorem arw{ls:List Let}{T k p:Nat}(h:p<T):(wK ls T k)[p]?=some ((List.range k).any (sE ls p)):=by simp[wK,h]
theorem aaY{ls:List Let}{k p:Nat}{l:Let}(h:ls[k]?=some l)(hp:l.aE=false):sE ls p k=false:=by simp[sE,h,hp]
theorem ary{ls:List Let}{T k:Nat}{l:Let}(h:ls[k]?=some l)(hp:l.aE=false):wK ls T (k+1)=wK ls T k:=by unfold wK;congr 1;funext p;simp[wT,List.any_append,aaY h hp]
theorem agS{ls:List Let}{T k:Nat}{l:Let}(h:ls[k]?=some l)(hp:l.aE=false):ss ls T (k+1)=ss ls T k:=by unfold ss;congr 1;funext p;simp[Kp,wT,List.find?_append,aaY h hp]
theorem aok{ls:List Let}{k:Nat}{l:Let}(h:ls[k]?=some l)(hp:l.aE=false):jK ls (k+1)=jK ls k:=by
 unfold jK;apply Dh;intro i hi;by_cases e:i=k
 .subst e;simp[A3,h,hp]
 have:(i<k+1)↔(i<k):=aa;simp[this]
theorem LW{ls:List Let}{k p:Nat}{l:Let}(h:ls[k]?=some l)(hp:l.aE=true):sE ls p k=(dR ls l==p):=by simp[sE,h,hp]
theorem arx{ls:List Let}{T k:Nat}{l:Let}(h:ls[k]?=some l)(hp:l.aE=true):wK ls T (k+1)=(wK ls T k).set (dR ls l) true:=by
 apply wQ
 .simp[wK]
 intro i h1 h2;rw[Kf];simp only[wK,Df,Ke,wT,List.any_append,List.any_cons,List.any_nil,Bool.or_false,LW h hp];split
 .rename_i e;simp[e]
 rename_i e;simp[e]
theorem agR{ls:List Let}{T k:Nat}{l:Let}(h:ls[k]?=some l)(hp:l.aE=true)(hn:(List.range k).any (sE ls (dR ls l))=false):ss ls T (k+1)=(ss ls T k).set (dR ls l) k:=by
 apply wQ
 .simp[ss]
 intro i h1 h2;rw[Kf];simp only[ss,Df,Ke,Kp,wT,List.find?_append];by_cases e:dR ls l=i
 .have h3:(List.range k).find? (sE ls i)=none:=by
   rw[<- e,Ha];intro x hx hq;rw[G0] at hn;exact hn x hx hq
  have h4:sE ls i k=true:=by rw[LW h hp];simp[e]
  rw[h3,if_pos e,List.find?_cons,h4];rfl
 have h4:sE ls i k=false:=by rw[LW h hp];simp[e]
 rw[if_neg e,List.find?_cons,h4];simp
theorem aoi{ls:List Let}{k:Nat}{l:Let}(h:ls[k]?=some l)(hp:l.aE=true):jK ls (k+1)=(jK ls k).set k (dR ls l):=by
 apply wQ
 .simp[jK]
 intro i h1 h2;rw[Kf];simp only[jK,Df,Ke];by_cases e:k=i
 .subst e;simp[A3,h,hp]
 have:(i<k+1)↔(i<k):=aa;simp only[this,if_neg e]
theorem VW{ls:List Let}{k:Nat}(hk:k<ls.length)(h:sY ls k=false):xW ls=false:=by unfold xW;rw[List.all_eq_false];exact⟨k,gj.2 hk,by simp[h]⟩
theorem apc{ls:List Let}(h:∀i,i<ls.length->sY ls i=true):xW ls=true:=by unfold xW;rw[ko];exact fun i hi=>h i (gj.1 hi)
abbrev Hl(id:Nat):Prop:=id=1216320128\/jo id=69
abbrev uV(F:Nat)(ls:List Let)(c2 c3 c4 c5 c6:C):List C:=[.p (.int .i64 (F:Int)),.p (cF ls),c2,c3,c4,c5,c6]
abbrev hs(id g n:Nat):C:=.hsl id g 1 0 n
abbrev qG(F:Nat)(ls:List Let):Prop:=∀l∈ls,l.aE=true->0<=l.gate/\l.gate<=(F:Int)
def Jy(F:Nat)(ls:List Let)(g:Nat)(c5:C)(nN:aA)(v:V)(ao:aA):Prop:=
 v=vb (xW ls)/\Kept Hl nN ao/\(xW ls=true->∃g1 g2 g3 g5,ao 1216320128=(g,some (.var (uV F ls (hs 4416128448 g2 ls.length) (hs 4417344128 g5 (fP ls (F+1))) (hs 4416192448 g3 ls.length) c5 (hs 4416064448 g1 (F+1)))))/\
  ao 4416064448=(g1,some (.arr 3 1 (nP (counts ls F))))/\ao 4416128448=(g2,some (.arr 4 1 (bP (iO ls))))/\ao 4416192448=(g3,some (.arr 3 1 (nP (jK ls ls.length))))/\
  ao 4417344128=(g5,some (.arr 3 1 (nP (ss ls (fP ls (F+1)) ls.length)))))
theorem rk3{al:Al}(okD:al.ok 1216320128=true)(ok:∀id,jo id=69->al.ok id=true){nN aj:aA}{ak:Env}{g g1 g2 g3 g4 F:Nat}{ls:List Let}{c3 c5:C}(hl:ls.length<=1000000)(hF:F<=1000000)(hg:qG F ls)
  (h0:ak 0=.one (.aY 1216320128 g 0)) (h6:ak 6=.one (hs 4416832384 g4 (F+1))) (h7:ak 7=vi (fP ls (F+1)))
  (bD:aj 1216320128=(g,some (.var (uV F ls (hs 4416128448 g2 ls.length) c3 (hs 4416192448 g3 ls.length) c5 (hs 4416064448 g1 (F+1))))))
  (bC:aj 4416064448=(g1,some (.arr 3 1 (nP (counts ls F))))) (bW:aj 4416128448=(g2,some (.arr 4 1 (bP (iO ls))))) (oJ:aj 4416192448=(g3,some (.arr 3 1 (nP (jK ls 0)))))
  (bF:aj 4416832384=(g4,some (.arr 3 1 (nP (H0 ls F))))) (hk:Kept Hl nN aj):W S al i69_r5 (mJ al [(2,none)] (Jy F ls g c5 nN)) ak aj:=by
 have o1:=ok 4416064448 rfl;have o2:=ok 4416128448 rfl;have o3:=ok 4416192448 rfl;have o4:=ok 4416448192 rfl;have o5:=ok 4416832384 rfl;have o6:=ok 4417344128 rfl;have o7:=ok 4417408064 rfl;have o8:=ok 4417600192 rfl;have hT:=Ue ls (F+1);have Mm:fP ls (F+1)*8<=140737488355328:=aa;have jv:fP ls (F+1)<=140737488355328:=aa;simp only[go_sem,i69_r5,h0,h7,bD,Mm,jv,okD,o6,o7];refine cV (fun k ak ao=>ak 0=.one (.aY 1216320128 g 0)/\ak 6=.one (hs 4416832384 g4 (F+1))/\ak 10=.one (hs 4417408064 ((aj 4417408064).1+1) (fP ls (F+1)))/\ak 114=.one (.p (cF ls))/\ak 115=vi ls.length/\ak 116=vi k/\
  ao 1216320128=(g,some (.var (uV F ls (hs 4416128448 g2 ls.length) (hs 4417344128 ((aj 4417344128).1+1) (fP ls (F+1))) (hs 4416192448 g3 ls.length) c5 (hs 4416064448 g1 (F+1)))))/\
  ao 4416064448=(g1,some (.arr 3 1 (nP (counts ls F))))/\ao 4416128448=(g2,some (.arr 4 1 (bP (iO ls))))/\ao 4416192448=(g3,some (.arr 3 1 (nP (jK ls k))))/\
  ao 4416832384=(g4,some (.arr 3 1 (nP (H0 ls F))))/\ao 4417344128=((aj 4417344128).1+1,some (.arr 3 1 (nP (ss ls (fP ls (F+1)) k))))/\ao 4417408064=((aj 4417408064).1+1,some (.arr 4 1 (bP (wK ls (fP ls (F+1)) k))))/\
  (∀i,i<k->sY ls i=true)/\Kept Hl nN ao) 0 ls.length (bG _) ?_ ?_
 .simp only[go_sem,h0,h6,bC,bW,oJ,bF,agT,arz,VD,Xs];refine⟨rfl,rfl,fun i h=>absurd h (qY i),?_⟩;repeat(first|exact hk|refine Kept.dK ?_ (by first|exact Or.inl rfl|exact Or.inr rfl) _)
 rintro k ak ao hk ⟨h0,h6,eQ,Ln,Ip,DM,bD,bC,bW,oJ,bF,bA,bT,au,dd⟩
 by_cases ay:k<ls.length
 .obtain⟨l,dU⟩:=aL ay;have hi:=iI dU;have aJ:((k:Int)<(ls.length:Int)):=aa;have w1:=cn (n:=k) aa;cases hp:(l.kind==1) with
  |false=>
   have jh:l.aE=false:=hp;have nC:(l.kind !=1)=true:=by simp[bne,hp]
   have lJ:sY ls k=true:=by simp[sY,dU,jh]
   simp only[go_sem,i69_l3,h0,h6,eQ,Ln,Ip,DM,bD,bC,bW,bF,oJ,bA,bT,hi,Let.ps,aJ,nC,w1,o8];refine⟨ay,?_,?_,?_,?_,?_⟩
   .rw[aok dU jh]
   .rw[agS dU jh]
   .rw[ary dU jh]
   .intro i hi;rcases mY.1 hi with h|rfl
    .exact au i h
    exact lJ
   repeat(first|exact dd|refine Kept.dK ?_ (by first|exact Or.inl rfl|exact Or.inr rfl) _)
  |true=>
   have jh:l.aE=true:=hp;have nC:(l.kind !=1)=false:=by simp[bne,hp]
   obtain⟨F1,IC⟩:=hg l (aU dU) jh;obtain⟨G,hG⟩:=sZ F1;have Ir:G<=F:=aa;have FR:G<F+1:=aa;have vY:=j9 (NS (ls:=ls) Ir);have Ae:=j9 (ajy (ls:=ls) Ir);have pZ:l.gate.toNat=G:=aa;cases r1:decide (l.aD<1) with
   |true=>have rW:l.aD<1:=of_decide_eq_true r1;have r1n:¬1<=l.aD:=aa;have dD:=VW ay (show sY ls k=false by simp[sY,dU,jh,r1n]);simp only[go_sem,i69_l3,Ln,Ip,DM,hi,Let.ps,aJ,nC,rW,o8];refine⟨aG,?_⟩;unfold Jy;refine⟨by rw[dD],?_,fun h=>by rw[dD] at h;cases h⟩;repeat(first|exact dd|refine Kept.dK ?_ (by first|exact Or.inl rfl|exact Or.inr rfl) _)
   |false=>
    have rW:¬l.aD<1:=of_decide_eq_false r1;obtain⟨R,hR⟩:=sZ (show 0<=l.aD by omega);have r1R:¬((R:Int)<1):=aa;cases r2:decide ((cg ls G:Int)<(R:Int)) with
    |true=>
     have sW:(cg ls G:Int)<(R:Int):=of_decide_eq_true r2;have r2n:¬l.aD<=(cg ls l.gate.toNat:Int):=by rw[pZ];omega
     have dD:=VW ay (show sY ls k=false by simp[sY,dU,jh,r2n]);simp only[go_sem,i69_l3,h0,Ln,Ip,DM,bD,bC,hi,Let.ps,aJ,nC,hR,hG,r1R,sW,vY,FR,okD,o1,o8];refine⟨aG,?_⟩;unfold Jy;refine⟨by rw[dD],?_,fun h=>by rw[dD] at h;cases h⟩;repeat(first|exact dd|refine Kept.dK ?_ (by first|exact Or.inl rfl|exact Or.inr rfl) _)
    |false=>
     have sW:¬(cg ls G:Int)<(R:Int):=of_decide_eq_false r2;have hfle:=Ue ls G;have hmono:=zW (ls:=ls) (show G+1<=F+1 by omega);have v8:=tz ls G;have hPT:dR ls l<fP ls (F+1):=by unfold dR;rw[pZ];omega
     have cA:fP ls G+R-1=dR ls l:=by unfold dR;rw[pZ];omega
     have cq:cg ls G<=ls.length:=tj _ _;have w2:=wrap_add (a:=fP ls G) (b:=R) aa;have w3:=GV (a:=fP ls G+R) aa aa;rw[cA] at w3;have Gh:=sv (arw (ls:=ls) (k:=k) hPT);cases hu:(List.range k).any (sE ls (dR ls l)) with
     |true=>rw[hu] at Gh;have dD:=VW ay (show sY ls k=false by simp[sY,dU,jh,hu]);simp only[go_sem,i69_l3,h0,h6,eQ,Ln,Ip,DM,bD,bC,bF,bT,hi,Let.ps,aJ,nC,hR,hG,r1R,sW,vY,Ae,FR,w2,w3,Gh,hPT,okD,o1,o5,o7,o8];refine⟨aG,aG,?_⟩;unfold Jy;refine⟨by rw[dD],?_,fun h=>by rw[dD] at h;cases h⟩;repeat(first|exact dd|refine Kept.dK ?_ (by first|exact Or.inl rfl|exact Or.inr rfl) _)
     |false=>
      rw[hu] at Gh;have lJ:sY ls k=true:=by
       have e1:1<=l.aD:=aa;have e2:l.aD<=(cg ls l.gate.toNat:Int):=by rw[pZ];omega
       simp[sY,dU,e1,e2,hu]
      obtain⟨a0,vX⟩:=aL (show dR ls l<(ss ls (fP ls (F+1)) k).length by rw[Xl];exact hPT);obtain⟨p0,wm⟩:=aL (show k<(jK ls k).length by rw[aoj];exact ay);have vX:=j9 vX;have wm:=j9 wm;have s1:=Hw (wK ls (fP ls (F+1)) k) (dR ls l) true;rw[<- arx dU jh] at s1;have s2:=Ja (ss ls (fP ls (F+1)) k) (dR ls l) k;rw[<- agR dU jh hu] at s2;have s3:=Ja (jK ls k) k (dR ls l);rw[<- aoi dU jh] at s3;simp only[go_sem,i69_l3,h0,h6,eQ,Ln,Ip,DM,bD,bC,bW,bF,oJ,bA,bT,hi,Let.ps,aJ,ay,nC,w1,hR,hG,r1R,sW,vY,Ae,FR,w2,w3,Gh,hPT,vX,wm,s1,s2,s3,okD,o1,o3,o5,o6,o7,o8];refine⟨aG,aG,aG,?_,?_⟩
      .intro i hi;rcases mY.1 hi with h|rfl
       .exact au i h
       exact lJ
      repeat(first|exact dd|refine Kept.dK ?_ (by first|exact Or.inl rfl|exact Or.inr rfl) _)
 have:k=ls.length:=aa;subst this;have hr:=apc au;simp only[go_sem,i69_l3,i69_r4,Ip,DM,eE];exact⟨by rw[hr],dd,fun _=>⟨g1,g2,g3,(aj 4417344128).1+1,bD,bC,bW,oJ,bA⟩⟩
theorem rk2{al:Al}(okD:al.ok 1216320128=true)(ok:∀id,jo id=69->al.ok id=true){nN aj:aA}{ak:Env}{g g1 g2 g3 F:Nat}{ls:List Let}{c3 c5:C}(hl:ls.length<=1000000)(hF:F<=1000000)(hg:qG F ls)
  (h0:ak 0=.one (.aY 1216320128 g 0))
  (bD:aj 1216320128=(g,some (.var (uV F ls (hs 4416128448 g2 ls.length) c3 (hs 4416192448 g3 ls.length) c5 (hs 4416064448 g1 (F+1))))))
  (bC:aj 4416064448=(g1,some (.arr 3 1 (nP (counts ls F))))) (bW:aj 4416128448=(g2,some (.arr 4 1 (bP (iO ls))))) (oJ:aj 4416192448=(g3,some (.arr 3 1 (nP (jK ls 0)))))
  (hk:Kept Hl nN aj):W S al i69_r6 (mJ al [(2,none)] (Jy F ls g c5 nN)) ak aj:=by
 have o1:=ok 4416064448 rfl;have o2:=ok 4416128448 rfl;have o3:=ok 4416192448 rfl;have o4:=ok 4416448192 rfl;have o5:=ok 4416832384 rfl;have o6:=ok 4417344128 rfl;have o7:=ok 4417408064 rfl;have o8:=ok 4417600192 rfl;have Mm:(F+1)*8<=140737488355328:=aa;have wF:=cn (n:=F) aa;simp only[go_sem,i69_r6,h0,bD,wF,Mm,okD,o5];refine cV (fun k ak ao=>ak 0=.one (.aY 1216320128 g 0)/\ak 6=.one (hs 4416832384 ((aj 4416832384).1+1) (F+1))/\ak 7=vi (fP ls k)/\ak 88=.one (hs 4416064448 g1 (F+1))/\ak 89=vi ((F+1:Nat):Int)/\ak 90=vi k/\
  ao 1216320128=(g,some (.var (uV F ls (hs 4416128448 g2 ls.length) c3 (hs 4416192448 g3 ls.length) c5 (hs 4416064448 g1 (F+1)))))/\
  ao 4416064448=(g1,some (.arr 3 1 (nP (counts ls F))))/\ao 4416128448=(g2,some (.arr 4 1 (bP (iO ls))))/\ao 4416192448=(g3,some (.arr 3 1 (nP (jK ls 0))))/\
  ao 4416832384=((aj 4416832384).1+1,some (.arr 3 1 (nP (vT ls F k))))/\Kept Hl nN ao) 0 (F+1) (bG _) ?_ ?_
 .simp only[go_sem,h0,bD,bC,bW,oJ,ajx,VD];refine⟨rfl,rfl,rfl,?_⟩;repeat(first|exact hk|refine Kept.dK ?_ (by first|exact Or.inl rfl|exact Or.inr rfl) _)
 rintro k ak ao hk ⟨h0,h6,h7,h88,h89,h90,bD,bC,bW,oJ,bF,dd⟩
 by_cases ay:k<F+1
 .have aJ:((k:Int)<((F+1:Nat):Int)):=aa;have w1:=cn (n:=k) aa;have hc:=j9 (NS (ls:=ls) (show k<=F by omega));obtain⟨a0,ha⟩:=aL (show k<(vT ls F k).length by rw[ajv];exact ay);have ha:=j9 ha;have s1:=Ja (vT ls F k) k (fP ls k);rw[<- ajw] at s1;have hs:=tz ls k;have hle:=Ue ls (k+1);have w2:=wrap_add (a:=fP ls k) (b:=cg ls k) aa;rw[<- hs] at w2;simp only[go_sem,i69_l2,h0,h6,h7,h88,h89,h90,bD,bC,bW,oJ,bF,ay,aJ,hc,ha,s1,w1,w2,o1,o5];repeat(first|exact dd|refine Kept.dK ?_ (by first|exact Or.inl rfl|exact Or.inr rfl) _)
 have:k=F+1:=aa;subst this;simp only[go_sem,i69_l2,h89,h90,eE];exact rk3 okD ok hl hF hg h0 h6 h7 bD bC bW oJ (by rw[bF,aju]) dd
theorem apb{al:Al}(okD:al.ok 1216320128=true)(ok:∀id,jo id=69->al.ok id=true){aj:aA}{g F:Nat}{ls:List Let}{c2 c3 c4 c5 c6:C}(hl:ls.length<=1000000)(hF:F<=1000000)(hg:qG F ls)
  (bD:aj 1216320128=(g,some (.var (uV F ls c2 c3 c4 c5 c6)))):∃v ao,iK S 69 [.one (.aY 1216320128 g 0)] al aj v ao/\Jy F ls g c5 aj v ao:=by
 have o1:=ok 4416064448 rfl;have o2:=ok 4416128448 rfl;have o3:=ok 4416192448 rfl;have o4:=ok 4416448192 rfl;have o5:=ok 4416832384 rfl;have o6:=ok 4417344128 rfl;have o7:=ok 4417408064 rfl;have o8:=ok 4417600192 rfl;refine mF c69 (iv rfl) ?_;have Mm:(F+1)*8<=140737488355328:=aa;have hn8:ls.length*8<=140737488355328:=aa;have iH:ls.length<=140737488355328:=aa;have wF:=cn (n:=F) aa;simp only[go_sem,i69,bD,wF,Mm,hn8,iH,okD,o1,o2,o3];refine cV (fun k ak ao=>ak 0=.one (.aY 1216320128 g 0)/\ak 3=vb (dn ls k)/\ak 48=.one (.p (cF ls))/\ak 49=vi ls.length/\ak 50=vi k/\
  ao 1216320128=(g,some (.var (uV F ls (hs 4416128448 ((aj 4416128448).1+1) ls.length) c3 (hs 4416192448 ((aj 4416192448).1+1) ls.length) c5 (hs 4416064448 ((aj 4416064448).1+1) (F+1)))))/\
  ao 4416064448=((aj 4416064448).1+1,some (.arr 3 1 (nP (rz ls F k))))/\ao 4416128448=((aj 4416128448).1+1,some (.arr 4 1 (bP (tn ls k))))/\ao 4416192448=((aj 4416192448).1+1,some (.arr 3 1 (nP (jK ls 0))))/\
  Kept Hl aj ao) 0 ls.length (bG _) ?_ ?_
 .simp only[go_sem,bD,R0,aiD,aol,VD,Xs];refine⟨rfl,rfl,rfl,rfl,?_⟩;repeat(first|exact(Kept.refl _ _)|refine Kept.dK ?_ (by first|exact Or.inl rfl|exact Or.inr rfl) _)
 rintro k ak ao hk ⟨h0,h3,xu,h49,h50,bD,bC,bW,oJ,dd⟩
 by_cases ay:k<ls.length
 .obtain⟨l,dU⟩:=aL ay;have hi:=iI dU;have aJ:((k:Int)<(ls.length:Int)):=aa;have w1:=cn (n:=k) aa;cases hp:(l.kind==1) with
  |false=>
   have jh:l.aE=false:=hp;simp only[go_sem,i69_l1,h0,h3,xu,h49,h50,bD,bC,bW,oJ,hi,Let.ps,aJ,hp,w1,o4];refine⟨ay,?_,?_,?_,?_⟩
   .rw[KO dU jh]
   .rw[Yg dU jh]
   .rw[aiC dU jh]
   repeat(first|exact dd|refine Kept.dK ?_ (by first|exact Or.inl rfl|exact Or.inr rfl) _)
  |true=>have jh:l.aE=true:=hp;obtain⟨F1,IC⟩:=hg l (aU dU) jh;obtain⟨G,hG⟩:=sZ F1;have Ir:G<=F:=aa;have FR:G<F+1:=aa;have vY:=j9 (Ye (ls:=ls) (k:=k) Ir);have cq:cg (ls.take k) G<=k:=yB _ _ _;have w2:=cn (n:=cg (ls.take k) G) aa;have s1:=Ja (rz ls F k) G (cg (ls.take k) G+1);rw[<- Yf dU jh hG] at s1;obtain⟨b0,hb⟩:=aL (show k<(tn ls k).length by rw[aiB];exact ay);have hb:=sv hb;have s2:=Hw (tn ls k) k (dn ls k);rw[<- aiA dU jh] at s2;have hd:=KN dU jh;simp only[go_sem,i69_l1,h0,h3,xu,h49,h50,bD,bC,bW,oJ,hi,Let.ps,aJ,ay,hp,w1,hG,vY,FR,w2,s1,hb,s2,hd,okD,o1,o2,o4];refine⟨aG,?_⟩;repeat(first|exact dd|refine Kept.dK ?_ (by first|exact Or.inl rfl|exact Or.inr rfl) _)
 have:k=ls.length:=aa;subst this;simp only[go_sem,i69_l1,h49,h50,eE];exact rk2 okD ok hl hF hg h0 bD (by rw[bC,RZ]) (by rw[bW,aiz]) oJ dd
def qL(ls:List Let)(id:Int)(o:Bool)(j:Nat):Bool:=match ls[j]? with|some m=>m.aB&&(m.id==id&&m.over==o)|none=>false
def fY(ls:List Let)(k:Nat)(id:Int)(o:Bool):Option Nat:=(List.range k).find? (qL ls id o)
def Bm:Option Nat->Int
 |some j=>j
 |none=> -1
def eZ(ls:List Let):Nat->List Int
 |0=>[]
 |k+1=>match ls[k]? with
  |some l=>if l.aB&& !(eZ ls k).contains l.id then eZ ls k++[l.id] else eZ ls k
  |none=>eZ ls k
def qD(ls:List Let)(k:Nat)(id:Int):List PV:=[.int .i64 (Bm (fY ls k id false)),.int .i64 (Bm (fY ls k id true))]
def pG(ls:List Let)(k:Nat):List (PV×List PV):=(eZ ls k).map fun id=>(PV.int .i64 id,qD ls k id)
def CV(ls:List Let)(j:Nat):Int:=((ls[j]?).map Let.sign).getD 0
def mA(ls:List Let)(n2:Nat)(k:Nat):Bool:=match ls[k]? with
 |some l=> !l.aB||((decide (1<=l.id)&&decide (l.id<=(n2:Int)))&&((fY ls k l.id l.over).isNone&&(match fY ls k l.id (!l.over) with|some j=>CV ls j==l.sign|none=>true)))
 |none=>true
def lV(ls:List Let):Bool:=(aw Let.aB ls%2==0)&&(List.range ls.length).all (mA ls (aw Let.aB ls/2))&&((eZ ls ls.length).length==aw Let.aB ls/2)
theorem IF{ls:List Let}{k:Nat}{l:Let}(h:ls[k]?=some l)(hc:l.aB=true)(id:Int)(o:Bool):qL ls id o k=(l.id==id&&l.over==o):=by simp[qL,h,hc]
theorem aa3{ls:List Let}{k:Nat}{l:Let}(h:ls[k]?=some l)(hc:l.aB=false)(id:Int)(o:Bool):qL ls id o k=false:=by simp[qL,h,hc]
theorem QG(ls:List Let)(k:Nat)(id:Int)(o:Bool):fY ls (k+1) id o=(fY ls k id o).or (if qL ls id o k then some k else none):=by simp only[fY,wT,List.find?_append,List.find?_cons,List.find?_nil];cases qL ls id o k<;>rfl
theorem GS{ls:List Let}{k:Nat}{id:Int}{o:Bool}{j:Nat}(h:fY ls k id o=some j):j<k/\qL ls id o j=true:=
 ⟨gj.1 (He h),Kc h⟩
theorem Ah{ls:List Let}{id:Int}{o:Bool}{j:Nat}(h:qL ls id o j=true):∃m,ls[j]?=some m/\m.aB=true/\m.id=id/\m.over=o:=by
 unfold qL at h;split at h
 .rename_i m hm;simp only[cX,beq_iff_eq] at h;exact⟨m,hm,h.1,h.2.1,h.2.2⟩
 cases h
theorem Nl{ls:List Let}{k:Nat}{id:Int}{o:Bool}(h:fY ls k id o=none){j:Nat}(hj:j<k):qL ls id o j=false:=by
 have:=Ha.1 h j (gj.2 hj)
 simpa using this
theorem abt{ls:List Let}{k:Nat}{l:Let}(h:ls[k]?=some l)(hc:l.aB=false):eZ ls (k+1)=eZ ls k:=by simp[eZ,h,hc]
theorem abu{ls:List Let}{k:Nat}{l:Let}(h:ls[k]?=some l)(hc:l.aB=true)(hn:l.id∉eZ ls k):eZ ls (k+1)=eZ ls k++[l.id]:=by simp[eZ,h,hc,hn]
theorem abv{ls:List Let}{k:Nat}{l:Let}(h:ls[k]?=some l)(hn:l.id∈eZ ls k):eZ ls (k+1)=eZ ls k:=by simp[eZ,h,hn]
theorem ane{ls:List Let}{k:Nat}{l:Let}(h:ls[k]?=some l)(hc:l.aB=false):pG ls (k+1)=pG ls k:=by unfold pG qD;rw[abt h hc];simp[QG,aa3 h hc]
theorem alG{ls:List Let}{id:Int}:∀(k:Nat),k<=ls.length->(id∈eZ ls k↔ ∃j o,j<k/\qL ls id o j=true):=by
 intro k
 induction k with
 |zero=>intro _;simp[eZ]
 |succ k ih=>
  intro hk;obtain⟨l,hl⟩:=aL (show k<ls.length by omega);have ih:=ih aa;have old:(∃j o,j<k/\qL ls id o j=true)->∃j o,j<k+1/\qL ls id o j=true:=fun⟨j,o,h1,h2⟩=>⟨j,o,aa,h2⟩;cases hc:l.aB with
  |false=>
   rw[abt hl hc,ih];refine⟨old,?_⟩;rintro ⟨j,o,h1,h2⟩
   rcases mY.1 h1 with h|rfl
   .exact⟨j,o,h,h2⟩
   rw[aa3 hl hc] at h2;cases h2
  |true=>
   have key:id∈eZ ls (k+1)↔(id∈eZ ls k\/id=l.id):=by
    by_cases hm:l.id∈eZ ls k
    .rw[abv hl hm];exact⟨Or.inl,fun h=>h.elim eY (fun e=>e▸hm)⟩
    rw[abu hl hc hm];simp
   rw[key,ih];constructor
   .rintro (h|rfl)
    .exact old h
    exact⟨k,l.over,aa,by rw[IF hl hc];simp⟩
   rintro ⟨j,o,h1,h2⟩
   rcases mY.1 h1 with h|rfl
   .exact Or.inl ⟨j,o,h,h2⟩
   rw[IF hl hc] at h2;simp only[cX,beq_iff_eq] at h2;exact Or.inr h2.1.symm
where eY {p:Prop} (h:p):p:=h
theorem Gl{ls:List Let}{id:Int}{k:Nat}(h:k<=ls.length):id∈eZ ls k↔ ∃j o,j<k/\qL ls id o j=true:=alG k h
theorem O7(ls:List Let):∀k,(eZ ls k).Nodup:=by
 intro k
 induction k with
 |zero=>simp[eZ]
 |succ k ih=>
  unfold eZ;split
  .split
   .rename_i h;simp only[cX,pL,List.contains_eq_mem,decide_eq_false_iff_not] at h;rw[Hf];refine⟨ih,af,?_⟩;intro a ha b hb;simp only[pO] at hb;subst hb;rintro rfl
    exact h.2 ha
   exact ih
  exact ih
theorem arX{ls:List Let}{k:Nat}(hk:k<=ls.length){id:Int}(h:id∉eZ ls k)(o:Bool):fY ls k id o=none:=by
 cases hv:fY ls k id o with
 |none=>rfl
 |some j=>obtain⟨h1,h2⟩:=GS hv;exact absurd ((Gl hk).2 ⟨j,o,h1,h2⟩) h
theorem afC{ls:List Let}{k:Nat}(hk:k<=ls.length){id:Int}(h:id∈eZ ls k)(o:Bool)(hn:fY ls k id o=none):∃j m,fY ls k id (!o)=some j/\ls[j]?=some m/\j<k:=by
 obtain⟨j,o',h1,h2⟩:=(Gl hk).1 h;by_cases e:o'=o
 .subst e;rw[Nl hn h1] at h2;cases h2
 have e:o'= !o:=by cases o<;>cases o'<;>simp_all
 subst e;cases hv:fY ls k id (!o) with
 |none=>rw[Nl hv h1] at h2;cases h2
 |some i=>obtain⟨h3,h4⟩:=GS hv;obtain⟨m,hm,_⟩:=Ah h4;exact⟨i,m,rfl,hm,h3⟩
theorem afD{ls:List Let}{k:Nat}{l:Let}(h:ls[k]?=some l)(hc:l.aB=true){id:Int}(hn:¬l.id=id)(o:Bool):fY ls (k+1) id o=fY ls k id o:=by rw[QG,IF h hc];simp[hn]
theorem Wt{ls:List Let}{k:Nat}{l:Let}(h:ls[k]?=some l)(hc:l.aB=true)(hn:fY ls k l.id l.over=none):fY ls (k+1) l.id l.over=some k:=by rw[QG,IF h hc,hn];simp
theorem Ws{ls:List Let}{k:Nat}{l:Let}(h:ls[k]?=some l)(hc:l.aB=true):fY ls (k+1) l.id (!l.over)=fY ls k l.id (!l.over):=by rw[QG,IF h hc];cases l.over<;>simp
theorem YF{ls:List Let}{k:Nat}{l:Let}(h:ls[k]?=some l)(hc:l.aB=true){id:Int}(hn:¬l.id=id):qD ls (k+1) id=qD ls k id:=by unfold qD;rw[afD h hc hn,afD h hc hn]
theorem anf{ls:List Let}{k:Nat}{l:Let}(h:ls[k]?=some l)(hc:l.aB=true)(hn:l.id∉eZ ls k):pG ls (k+1)=pG ls k++[(.int .i64 l.id,qD ls (k+1) l.id)]:=by unfold pG;rw[abu h hc hn,ll];congr 1;apply Dh;intro id hid;rw[YF h hc (by rintro rfl;exact hn hid)]
theorem ang{ls:List Let}{k:Nat}{l:Let}(h:ls[k]?=some l)(hc:l.aB=true)(hn:l.id∈eZ ls k):pG ls (k+1)=(pG ls k).set ((eZ ls k).idxOf l.id) (.int .i64 l.id,qD ls (k+1) l.id):=by
 unfold pG;rw[abv h hn];apply wQ
 .simp
 intro i h1 h2;rw[Kf];simp only[cM] at h1;by_cases e:(eZ ls k).idxOf l.id=i
 .subst e;simp only[Df,if_pos,List.getElem_idxOf]
 rw[if_neg e];simp only[Df];rw[YF h hc];intro e2;apply e;rw[e2];exact(O7 ls k).idxOf_getElem i h1
theorem Z9(ls:List Let)(k:Nat)(q:Int):oO (.int .i64 q) (pG ls k) 0=some (if q∈eZ ls k then some ((eZ ls k).idxOf q,qD ls k q) else none):=by unfold pG;rw[ajr];simp
theorem HJ{ls:List Let}{k:Nat}(hk:k<ls.length)(h:mA ls (aw Let.aB ls/2) k=false):lV ls=false:=by have:(List.range ls.length).all (mA ls (aw Let.aB ls/2))=false:=List.all_eq_false.2 ⟨k,gj.2 hk,by simp[h]⟩;simp[lV,this]
theorem R8{ls:List Let}(he:aw Let.aB ls%2=0)(h:∀i,i<ls.length->mA ls (aw Let.aB ls/2) i=true):lV ls=((eZ ls ls.length).length==aw Let.aB ls/2):=by have:(List.range ls.length).all (mA ls (aw Let.aB ls/2))=true:=ko.2 fun i hi=>h i (gj.1 hi);simp[lV,this,he]
abbrev WG(id:Nat):Prop:=id=1216320128\/jo id=70
def GY(F:Nat)(ls:List Let)(g:Nat)(c2 c3 c4 c6:C)(nN:aA)(v:V)(ao:aA):Prop:=v=vb (lV ls)/\Kept WG nN ao/\(lV ls=true->∃g1,ao 1216320128=(g,some (.var (uV F ls c2 c3 c4 (.j8 4480256064 g1) c6)))/\ao 4480256064=(g1,some (.map true (pG ls ls.length))))
theorem ge0(j:Nat):decide ((0:Int)<=(j:Int))=true:=decide_eq_true aa
theorem wr0:IntKind.i64.wrap 0=0:=ae
theorem wr1:IntKind.i64.wrap 1=1:=ae
theorem Jb:((-1:Int)≥0)=False:=af
theorem neg1':((0:Int)<= -1)=False:=af
theorem air{al:Al}(okD:al.ok 1216320128=true)(ok:∀id,jo id=70->al.ok id=true){aj:aA}{g F:Nat}{ls:List Let}{c2 c3 c4 c5 c6:C}(hl:ls.length<=1000000)
  (bD:aj 1216320128=(g,some (.var (uV F ls c2 c3 c4 c5 c6)))):∃v ao,iK S 70 [.one (.aY 1216320128 g 0)] al aj v ao/\GY F ls g c2 c3 c4 c6 aj v ao:=by
 have o1:=ok 4480256064 rfl;have o2:=ok 4480448192 rfl;have o3:=ok 4480704640 rfl;refine mF c70 (iv rfl) ?_;have pc:=R9 F ls hl;have cq:aw Let.aB ls<=ls.length:=tj _ _;cases he:(((aw Let.aB ls%2:Nat):Int)!=0) with
 |true=>
  have dD:lV ls=false:=by
   have:(aw Let.aB ls%2==0)=false:=by simp at he ⊢;omega
   simp[lV,this]
  simp only[go_sem,i70,bD,s42,FJ pc,jy,ez,he,okD];exact⟨by rw[dD],Kept.refl _ _,fun h=>by rw[dD] at h;cases h⟩
 |false=>
  have he0:aw Let.aB ls%2=0:=by simp at he;omega
  simp only[go_sem,i70,bD,s42,FJ pc,jy,ez,he,okD,o1];refine cV (fun k ak ao=>ak 0=.one (.aY 1216320128 g 0)/\ak 3=vi (aw Let.aB ls)/\ak 25=.one (.p (cF ls))/\ak 26=vi ls.length/\ak 27=vi k/\
   ao 1216320128=(g,some (.var (uV F ls c2 c3 c4 (.j8 4480256064 ((aj 4480256064).1+1)) c6)))/\ao 4480256064=((aj 4480256064).1+1,some (.map true (pG ls k)))/\
   (∀i,i<k->mA ls (aw Let.aB ls/2) i=true)/\Kept WG aj ao) 0 ls.length (bG _) ?_ ?_
  .simp only[go_sem,bD];refine⟨rfl,rfl,fun i h=>absurd h (qY i),?_⟩;repeat(first|exact(Kept.refl _ _)|refine Kept.dK ?_ (by first|exact Or.inl rfl|exact Or.inr rfl) _)
  rintro k ak ao hk ⟨h0,h3,mj,xr,xt,bD,bM,au,dd⟩
  have wq:IntKind.i64.wrap ((aw Let.aB ls/2:Nat):Int)=((aw Let.aB ls/2:Nat):Int):=wrap_small aa;by_cases ay:k<ls.length
  .obtain⟨l,dU⟩:=aL ay;have hi:=iI dU;have aJ:((k:Int)<(ls.length:Int)):=aa;have w1:=cn (n:=k) aa;cases hc:(l.kind==2) with
   |false=>
    have kJ:l.aB=false:=hc;have hp:(l.kind !=2)=true:=by simp[bne,hc]
    have lJ:mA ls (aw Let.aB ls/2) k=true:=by simp[mA,dU,kJ]
    simp only[go_sem,i70_l1,h0,h3,mj,xr,xt,bD,bM,hi,Let.ps,aJ,hp,w1,o2];refine⟨ay,?_,?_,?_⟩
    .rw[ane dU kJ]
    .intro i hi;rcases mY.1 hi with h|rfl
     .exact au i h
     exact lJ
    repeat(first|exact dd|refine Kept.dK ?_ (by first|exact Or.inl rfl|exact Or.inr rfl) _)
   |true=>
    have kJ:l.aB=true:=hc;have hp:(l.kind !=2)=false:=by simp[bne,hc]
    cases r1:decide (l.id<1) with
    |true=>have rW:l.id<1:=of_decide_eq_true r1;have r1n:¬1<=l.id:=aa;have dD:=HJ ay (show mA ls (aw Let.aB ls/2) k=false by simp[mA,dU,kJ,r1n]);simp only[go_sem,i70_l1,mj,xr,xt,hi,Let.ps,aJ,hp,rW,o2];unfold GY;refine⟨by rw[dD],?_,fun h=>by rw[dD] at h;cases h⟩;repeat(first|exact dd|refine Kept.dK ?_ (by first|exact Or.inl rfl|exact Or.inr rfl) _)
    |false=>
     have rW:¬l.id<1:=of_decide_eq_false r1;have r1y:1<=l.id:=aa;cases r2:decide (((aw Let.aB ls/2:Nat):Int)<l.id) with
     |true=>have sW:((aw Let.aB ls/2:Nat):Int)<l.id:=of_decide_eq_true r2;have r2n:¬l.id<=((aw Let.aB ls/2:Nat):Int):=aa;have dD:=HJ ay (show mA ls (aw Let.aB ls/2) k=false by simp only[mA,dU,kJ,r2n];simp);simp only[go_sem,i70_l1,h3,mj,xr,xt,hi,Let.ps,aJ,hp,rW,sW,fE,ez,wq,o2];unfold GY;refine⟨by rw[dD],?_,fun h=>by rw[dD] at h;cases h⟩;repeat(first|exact dd|refine Kept.dK ?_ (by first|exact Or.inl rfl|exact Or.inr rfl) _)
     |false=>
      have sW:¬((aw Let.aB ls/2:Nat):Int)<l.id:=of_decide_eq_false r2;have r2y:l.id<=((aw Let.aB ls/2:Nat):Int):=aa;have hf:=Z9 ls k l.id;have nG:mA ls (aw Let.aB ls/2) k=((fY ls k l.id l.over).isNone&&(match fY ls k l.id (!l.over) with|some j=>CV ls j==l.sign|none=>true)):=by simp only[mA,dU,kJ,r1y,r2y,decide_true];rfl
      by_cases hm:l.id∈eZ ls k
      .rw[if_pos hm] at hf;obtain⟨e0,hse⟩:=aL (show(eZ ls k).idxOf l.id<(pG ls k).length by simp[pG];exact List.idxOf_lt_length_of_mem hm);have Ap:=ang dU kJ hm;have LU:qD ls k l.id=[.int .i64 (Bm (fY ls k l.id false)),.int .i64 (Bm (fY ls k l.id true))]:=rfl;rw[LU] at hf;cases ho:l.over with
       |true=>
        cases hv:fY ls k l.id true with
        |some j=>have dD:=HJ ay (show mA ls (aw Let.aB ls/2) k=false by rw[nG,ho,hv];rfl);rw[hv] at hf;simp only[Bm] at hf;simp only[go_sem,i70_l1,h0,h3,mj,xr,xt,bD,bM,hi,Let.ps,aJ,hp,rW,sW,fE,ez,wq,hf,ho,ge0,mapOf,mapVal,iC,Int.reduceNeg,okD,o1,o2,o3];refine⟨aG,aG,?_⟩;unfold GY;refine⟨by rw[dD],?_,fun h=>by rw[dD] at h;cases h⟩;repeat(first|exact dd|refine Kept.dK ?_ (by first|exact Or.inl rfl|exact Or.inr rfl) _)
        |none=>
         obtain⟨j,m,hj,F3,hjk⟩:=afC hk hm true hv;have hj:fY ls k l.id false=some j:=hj;have Co:=iI F3;have IP:CV ls j=m.sign:=by simp[CV,F3]
         rw[hv,hj] at hf;simp only[Bm] at hf;cases hs:(m.sign==l.sign) with
         |false=>
          have eG:(m.sign !=l.sign)=true:=by simp[bne,hs]
          have dD:=HJ ay (show mA ls (aw Let.aB ls/2) k=false by rw[nG,ho,hv];simp only[Bq,hj,IP,hs];rfl);simp only[go_sem,i70_l1,h0,h3,mj,xr,xt,bD,bM,hi,Let.ps,aJ,hp,rW,sW,fE,ez,wq,hf,ho,Jb,Co,eG,wr0,mapOf,mapVal,iC,Int.reduceNeg,Int.reduceSub,okD,o1,o2,o3];refine⟨aG,aG,?_⟩;unfold GY;refine⟨by rw[dD],?_,fun h=>by rw[dD] at h;cases h⟩;repeat(first|exact dd|refine Kept.dK ?_ (by first|exact Or.inl rfl|exact Or.inr rfl) _)
         |true=>
          have eG:(m.sign !=l.sign)=false:=by simp[bne,hs]
          have lJ:mA ls (aw Let.aB ls/2) k=true:=by rw[nG,ho,hv];simp only[Bq,hj,IP,hs];rfl
          have qP:=Wt dU kJ (show fY ls k l.id l.over=none by rw[ho];exact hv);have wx:=Ws dU kJ;rw[ho] at qP wx;rw[show fY ls k l.id (!true)=some j from hj] at wx;have Uz:qD ls (k+1) l.id=[.int .i64 (j:Int),.int .i64 (k:Int)]:=by simp only[qD];rw[qP,show fY ls (k+1) l.id false=some j from wx];rfl
          rw[Uz] at Ap;simp only[go_sem,i70_l1,h0,h3,mj,xr,xt,bD,bM,hi,Let.ps,aJ,hp,w1,rW,sW,fE,ez,wq,hf,ho,Jb,Co,eG,wr0,mapOf,mapVal,iC,w8,Int.reduceNeg,Int.reduceSub,okD,o1,o2,o3];refine⟨aG,aG,aG,?_⟩;refine⟨ay,?_,?_,?_⟩
          .rw[Ap]
          .intro i hi;rcases mY.1 hi with h|rfl
           .exact au i h
           exact lJ
          repeat(first|exact dd|refine Kept.dK ?_ (by first|exact Or.inl rfl|exact Or.inr rfl) _)
       |false=>
        cases hv:fY ls k l.id false with
        |some j=>have dD:=HJ ay (show mA ls (aw Let.aB ls/2) k=false by rw[nG,ho,hv];rfl);rw[hv] at hf;simp only[Bm] at hf;simp only[go_sem,i70_l1,h0,h3,mj,xr,xt,bD,bM,hi,Let.ps,aJ,hp,rW,sW,fE,ez,wq,hf,ho,ge0,mapOf,mapVal,iC,Int.reduceNeg,okD,o1,o2,o3];refine⟨aG,aG,?_⟩;unfold GY;refine⟨by rw[dD],?_,fun h=>by rw[dD] at h;cases h⟩;repeat(first|exact dd|refine Kept.dK ?_ (by first|exact Or.inl rfl|exact Or.inr rfl) _)
        |none=>
         obtain⟨j,m,hj,F3,hjk⟩:=afC hk hm false hv;have hj:fY ls k l.id true=some j:=hj;have Co:=iI F3;have IP:CV ls j=m.sign:=by simp[CV,F3]
         rw[hv,hj] at hf;simp only[Bm] at hf;cases hs:(m.sign==l.sign) with
         |false=>
          have eG:(m.sign !=l.sign)=true:=by simp[bne,hs]
          have dD:=HJ ay (show mA ls (aw Let.aB ls/2) k=false by rw[nG,ho,hv];simp only[Bool.not_false,hj,IP,hs];rfl);simp only[go_sem,i70_l1,h0,h3,mj,xr,xt,bD,bM,hi,Let.ps,aJ,hp,rW,sW,fE,ez,wq,hf,ho,Jb,Co,eG,wr1,mapOf,mapVal,iC,Int.reduceNeg,Int.reduceSub,okD,o1,o2,o3];refine⟨aG,aG,?_⟩;unfold GY;refine⟨by rw[dD],?_,fun h=>by rw[dD] at h;cases h⟩;repeat(first|exact dd|refine Kept.dK ?_ (by first|exact Or.inl rfl|exact Or.inr rfl) _)
         |true=>
          have eG:(m.sign !=l.sign)=false:=by simp[bne,hs]
          have lJ:mA ls (aw Let.aB ls/2) k=true:=by rw[nG,ho,hv];simp only[Bool.not_false,hj,IP,hs];rfl
          have qP:=Wt dU kJ (show fY ls k l.id l.over=none by rw[ho];exact hv);have wx:=Ws dU kJ;rw[ho] at qP wx;rw[show fY ls k l.id (!false)=some j from hj] at wx;have Uz:qD ls (k+1) l.id=[.int .i64 (k:Int),.int .i64 (j:Int)]:=by simp only[qD];rw[qP,show fY ls (k+1) l.id true=some j from wx];rfl
          rw[Uz] at Ap;simp only[go_sem,i70_l1,h0,h3,mj,xr,xt,bD,bM,hi,Let.ps,aJ,hp,w1,rW,sW,fE,ez,wq,hf,ho,Jb,Co,eG,wr1,mapOf,mapVal,iC,w8,Int.reduceNeg,Int.reduceSub,okD,o1,o2,o3];refine⟨aG,aG,aG,?_⟩;refine⟨ay,?_,?_,?_⟩
          .rw[Ap]
          .intro i hi;rcases mY.1 hi with h|rfl
           .exact au i h
           exact lJ
          repeat(first|exact dd|refine Kept.dK ?_ (by first|exact Or.inl rfl|exact Or.inr rfl) _)
      rw[if_neg hm] at hf;have hv:=arX hk hm;have mN:=anf dU kJ hm;have lJ:mA ls (aw Let.aB ls/2) k=true:=by rw[nG,hv,hv];rfl
      have qP:=Wt dU kJ (hv _);have wx:=Ws dU kJ;rw[hv] at wx;cases ho:l.over with
      |true=>
       rw[ho] at qP wx;have LU:qD ls (k+1) l.id=[.int .i64 (-1),.int .i64 (k:Int)]:=by simp only[qD];rw[qP,show fY ls (k+1) l.id false=none from wx];rfl
       rw[LU] at mN;simp only[go_sem,i70_l1,h0,h3,mj,xr,xt,bD,bM,hi,Let.ps,aJ,hp,w1,rW,sW,fE,ez,wq,hf,ho,Jb,mapOf,mapVal,iC,w8,Option.map_none,Int.reduceNeg,okD,o1,o2,o3];refine⟨aG,aG,aG,?_⟩;refine⟨ay,?_,?_,?_⟩
       .rw[mN]
       .intro i hi;rcases mY.1 hi with h|rfl
        .exact au i h
        exact lJ
       repeat(first|exact dd|refine Kept.dK ?_ (by first|exact Or.inl rfl|exact Or.inr rfl) _)
      |false=>
       rw[ho] at qP wx;have LU:qD ls (k+1) l.id=[.int .i64 (k:Int),.int .i64 (-1)]:=by simp only[qD];rw[qP,show fY ls (k+1) l.id true=none from wx];rfl
       rw[LU] at mN;simp only[go_sem,i70_l1,h0,h3,mj,xr,xt,bD,bM,hi,Let.ps,aJ,hp,w1,rW,sW,fE,ez,wq,hf,ho,Jb,mapOf,mapVal,iC,w8,Option.map_none,Int.reduceNeg,okD,o1,o2,o3];refine⟨aG,aG,aG,?_⟩;refine⟨ay,?_,?_,?_⟩
       .rw[mN]
       .intro i hi;rcases mY.1 hi with h|rfl
        .exact au i h
        exact lJ
       repeat(first|exact dd|refine Kept.dK ?_ (by first|exact Or.inl rfl|exact Or.inr rfl) _)
  have:k=ls.length:=aa;subst this;have hr:=R8 he0 au;have oZ:(pG ls ls.length).length=(eZ ls ls.length).length:=by simp[pG]
  have hb:((((eZ ls ls.length).length:Nat):Int)==((aw Let.aB ls/2:Nat):Int))=((eZ ls ls.length).length==aw Let.aB ls/2):=by
   cases h:((eZ ls ls.length).length==aw Let.aB ls/2) with
   |true=>simp at h ⊢;omega
   |false=>simp at h ⊢;omega
  simp only[go_sem,i70_l1,i70_r2,h0,h3,xr,xt,bD,bM,eE,zj,Int.reduceNeg,oZ,fE,ez,wq,hb,okD,o1];exact⟨by rw[hr],dd,fun _=>⟨_,bD,bM⟩⟩
theorem Fx{p:Let->Bool}{ls:List Let}{i:Nat}{l:Let}(h:ls[i]?=some l)(hp:p l=true):aw p ls=1↔ ∀j m,ls[j]?=some m->p m=true->j=i:=by
 obtain⟨hi,e⟩:=aW.1 h;have hs:ls=ls.take i++l::ls.drop (i+1):=by rw[<- e,r5];simp
 have hc:aw p ls=aw p (ls.take i)+(aw p (ls.drop (i+1))+1):=by
  conv=>lhs;rw[hs]
  simp[aw,vF,hp]
 constructor
 .intro h1 j m hj hm;have z1:aw p (ls.take i)=0:=aa;have z2:aw p (ls.drop (i+1))=0:=aa;have z1:=JZ.1 z1;have z2:=JZ.1 z2;rcases Nat.lt_trichotomy j i with Aj|Aj|Aj
  .have:m∈ls.take i:=aU (i:=j) (by rw[mW,if_pos Aj,hj]);exact absurd hm (z1 m this)
  .exact Aj
  have:m∈ls.drop (i+1):=aU (i:=j-(i+1)) (by rw[Bu,show i+1+(j-(i+1))=j by omega,hj]);exact absurd hm (z2 m this)
 intro hu;have z1:aw p (ls.take i)=0:=by
  refine JZ.2 fun m hm mO=>?_;obtain⟨j,hj⟩:=jZ hm;have Aj:j<i:=by have:=(aW.1 hj).1;rw[iu] at this;omega
  rw[mW,if_pos Aj] at hj;have:=hu j m hj mO;omega
 have z2:aw p (ls.drop (i+1))=0:=by refine JZ.2 fun m hm mO=>?_;obtain⟨j,hj⟩:=jZ hm;rw[Bu] at hj;have:=hu _ m hj mO;omega
 omega
theorem ahX{p:Let->Bool}{ls:List Let}(h:∀(i j:Nat) (l m:Let),ls[i]?=some l->ls[j]?=some m->p l=true->p m=true->i=j):aw p ls<=1:=by
 by_cases hz:aw p ls=0
 .omega
 have:0<ls.countP p:=Nat.pos_of_ne_zero hz;obtain⟨l,hl,hp⟩:=Bs.1 this;obtain⟨i,hi⟩:=jZ hl;have:=(Fx hi hp).2 fun j m hj hm=>h j i m l hj hi hm hp;omega
structure uq (F:Nat) (ls:List Let) (l:Let):Prop where
 g0:0<=l.gate
 g1:l.gate<=(F:Int)
 r0:1<=l.aD
 r1:l.aD<=(cg ls l.gate.toNat:Int)
theorem GI{ls:List Let}{l m:Let}(hl:uq F ls l)(hm:uq F ls m):dR ls l=dR ls m↔l.gate=m.gate/\l.aD=m.aD:=by
 obtain⟨l1,l2,l3,l4⟩:=hl;obtain⟨m1,m2,m3,m4⟩:=hm;unfold dR;constructor
 .intro h;have sl:=tz ls l.gate.toNat;have sm:=tz ls m.gate.toNat;rcases Nat.lt_trichotomy l.gate.toNat m.gate.toNat with c|c|c
  .have:=zW (ls:=ls) (show l.gate.toNat+1<=m.gate.toNat by omega);omega
  .rw[c] at h;omega
  have:=zW (ls:=ls) (show m.gate.toNat+1<=l.gate.toNat by omega);omega
 rintro ⟨h1,h2⟩;rw[h1,h2]
theorem aom{ls:List Let}{l m:Let}(hl:uq F ls l)(hm:uq F ls m):Gw l m=true↔dR ls l<dR ls m:=by
 obtain⟨l1,l2,l3,l4⟩:=hl;obtain⟨m1,m2,m3,m4⟩:=hm;unfold dR Gw;simp only[Br,cX,decide_eq_true_eq,beq_iff_eq];have sl:=tz ls l.gate.toNat;have sm:=tz ls m.gate.toNat;rcases Nat.lt_trichotomy l.gate.toNat m.gate.toNat with c|c|c
 .have:=zW (ls:=ls) (show l.gate.toNat+1<=m.gate.toNat by omega);omega
 .rw[c];omega
 have:=zW (ls:=ls) (show m.gate.toNat+1<=l.gate.toNat by omega);omega
theorem VQ{ls:List Let}{l:Let}(hl:uq F ls l):dR ls l<fP ls (F+1):=by obtain⟨l1,l2,l3,l4⟩:=hl;unfold dR;have sl:=tz ls l.gate.toNat;have:=zW (ls:=ls) (show l.gate.toNat+1<=F+1 by omega);omega
theorem Qd{ls:List Let}{i:Nat}{l:Let}(h:ls[i]?=some l)(hp:l.aE=true):sY ls i=true↔1<=l.aD/\l.aD<=(cg ls l.gate.toNat:Int)/\ ∀j m,j<i->ls[j]?=some m->m.aE=true->dR ls m≠dR ls l:=by
 simp only[sY,h,hp,Bq,Da,cX,decide_eq_true_eq,pL,G0,gj];constructor
 .rintro ⟨⟨h1,h2⟩,h3⟩
  refine⟨h1,h2,fun j m hj hm mO e=>?_⟩;have:=h3 j hj;rw[LW hm mO] at this;simp[e] at this
 rintro ⟨h1,h2,h3⟩
 refine⟨⟨h1,h2⟩,fun j hj=>?_⟩;unfold sE;split
 .rename_i m hm;cases mO:m.aE with
  |false=>simp
  |true=>simpa using h3 j m hj hm mO
 simp
theorem M5{ls:List Let}(hg:qG F ls):xW ls=true↔(∀l∈ls,l.aE=true->uq F ls l)/\ ∀(i j:Nat) (l m:Let),ls[i]?=some l->ls[j]?=some m->l.aE=true->m.aE=true->dR ls l=dR ls m->i=j:=by
 unfold xW;rw[ko];constructor
 .intro h;refine⟨fun l hl hp=>?_,fun i j l m hi hj cA mO e=>?_⟩
  .obtain⟨i,hi⟩:=jZ hl;have:=(Qd hi hp).1 (h i (gj.2 (aW.1 hi).1));exact⟨(hg l hl hp).1,(hg l hl hp).2,this.1,this.2.1⟩
  have ci:=(Qd hi cA).1 (h i (gj.2 (aW.1 hi).1));have cj:=(Qd hj mO).1 (h j (gj.2 (aW.1 hj).1));rcases Nat.lt_trichotomy i j with c|c|c
  .exact absurd e (cj.2.2 i l c hi cA)
  .exact c
  exact absurd e.symm (ci.2.2 j m c hj mO)
 rintro ⟨h1,h2⟩ i hi
 obtain⟨l,hl⟩:=aL (gj.1 hi);cases hp:l.aE with
 |false=>simp[sY,hl,hp]
 |true=>have hg:=h1 l (aU hl) hp;refine(Qd hl hp).2 ⟨hg.r0,hg.r1,fun j m hj hm mO e=>?_⟩;have:=h2 j i m l hm hl mO hp e;omega
theorem O8(g:Int)(h:0<=g)(l:Let):n9 g l=nL g.toNat l:=by unfold n9 nL;rw[Int.toNat_of_nonneg h]
theorem sR{l:Let}(hp:l.aE=true):dz f l=false↔(((0<=l.gate/\l.gate<=f)/\l.id=0)/\l.sign=0)/\l.over=false:=by unfold Let.aE at hp;simp only[dz,hp,if_true,QL,decide_eq_false_iff_not,bne_eq_false_iff_eq,Int.not_lt]
theorem Ji{ls:List Let}{l:Let}(hp:l.aE=true):vq f ls l=true↔dz f l=false/\1<=l.aD/\l.aD<=(aw (n9 l.gate) ls:Int)/\aw (iV l) ls=1:=by
 rw[sR hp];unfold vq;simp only[pL,QL,decide_eq_false_iff_not,bne_eq_false_iff_eq];constructor
 .rintro ⟨⟨⟨⟨⟨⟨⟨a,b⟩,c⟩,d⟩,e⟩,g⟩,h⟩,i⟩
  exact⟨⟨⟨⟨⟨aa,aa⟩,a⟩,b⟩,c⟩,aa,aa,aa⟩
 rintro ⟨⟨⟨⟨⟨d,e⟩,a⟩,b⟩,c⟩,g,h,i⟩
 exact⟨⟨⟨⟨⟨⟨⟨a,b⟩,c⟩,aa⟩,aa⟩,aa⟩,aa⟩,aa⟩
theorem Qh{l m:Let}(hp:l.aE=true):iV l m=true↔m.aE=true/\m.gate=l.gate/\m.aD=l.aD:=by unfold Let.aE at hp ⊢;simp only[beq_iff_eq] at hp;unfold iV;simp only[cX,beq_iff_eq,hp,and_assoc]
theorem an5{ls:List Let}:(∀l∈ls,l.aE=true->vq F ls l=true)↔(∀l∈ls,l.aE=true->dz F l=false)/\xW ls=true:=by
 constructor
 .intro h;have hb:∀l∈ls,l.aE=true->dz F l=false:=fun l hl hp=>((Ji hp).1 (h l hl hp)).1;have hg:qG F ls:=fun l hl hp=>((sR hp).1 (hb l hl hp)).1.1.1;refine⟨hb,(M5 hg).2 ⟨fun l hl hp=>?_,fun i j l m hi hj cA mO e=>?_⟩⟩
  .obtain⟨_,h2,h3,_⟩:=(Ji hp).1 (h l hl hp);have:=hg l hl hp;refine⟨this.1,this.2,h2,?_⟩;have e:aw (n9 l.gate) ls=cg ls l.gate.toNat:=by unfold cg aw;congr 1;funext m;exact O8 _ this.1 m
   omega
  have gl:uq F ls l:=by
   obtain⟨_,h2,h3,_⟩:=(Ji cA).1 (h l (aU hi) cA);have:=hg l (aU hi) cA;have e:aw (n9 l.gate) ls=cg ls l.gate.toNat:=by unfold cg aw;congr 1;funext m;exact O8 _ this.1 m
   exact⟨this.1,this.2,h2,aa⟩
  have gm:uq F ls m:=by
   obtain⟨_,h2,h3,_⟩:=(Ji mO).1 (h m (aU hj) mO);have:=hg m (aU hj) mO;have e:aw (n9 m.gate) ls=cg ls m.gate.toNat:=by unfold cg aw;congr 1;funext m;exact O8 _ this.1 m
   exact⟨this.1,this.2,h2,aa⟩
  have e2:=(GI gl gm).1 e;have hs:=((Ji mO).1 (h m (aU hj) mO)).2.2.2;exact(Fx hj ((Qh mO).2 ⟨mO,rfl,rfl⟩)).1 hs i l hi ((Qh mO).2 ⟨cA,e2.1,e2.2⟩)
 rintro ⟨hb,hr⟩ l hl hp
 have hg:qG F ls:=fun l hl hp=>((sR hp).1 (hb l hl hp)).1.1.1;obtain⟨h1,h2⟩:=(M5 hg).1 hr;have gl:=h1 l hl hp;have e:aw (n9 l.gate) ls=cg ls l.gate.toNat:=by unfold cg aw;congr 1;funext m;exact O8 _ gl.g0 m
 obtain⟨i,hi⟩:=jZ hl;refine(Ji hp).2 ⟨hb l hl hp,gl.r0,by rw[e];exact gl.r1,(Fx hi ((Qh hp).2 ⟨hp,rfl,rfl⟩)).2 fun j m hj hs=>?_⟩;obtain⟨mO,eg,er⟩:=(Qh hp).1 hs;exact h2 j i m l hj hi mO hp ((GI (h1 m (aU hj) mO) gl).2 ⟨eg,er⟩)
def rI(id:Int)(o:Bool)(l:Let):Bool:=l.aB&&(l.id==id&&l.over==o)
theorem IE{ls:List Let}{j:Nat}{m:Let}(h:ls[j]?=some m)(id:Int)(o:Bool):qL ls id o j=rI id o m:=by simp[qL,rI,h]
theorem qc{id:Int}{o:Bool}{l:Let}:rI id o l=true↔l.aB=true/\l.id=id/\l.over=o:=by unfold rI;simp only[cX,beq_iff_eq]
def GC(ls:List Let):Prop:=∀(i j:Nat) (l m:Let),ls[i]?=some l->ls[j]?=some m->l.aB=true->m.aB=true->l.id=m.id->i≠j->l.over≠m.over/\l.sign=m.sign
def Va(ls:List Let):Prop:=∀l∈ls,l.aB=true->1<=l.id/\l.id<=((aw Let.aB ls/2:Nat):Int)
theorem afQ{ls:List Let}{n2 k:Nat}{l:Let}(h:ls[k]?=some l)(hc:l.aB=true):mA ls n2 k=true↔(1<=l.id/\l.id<=(n2:Int))/\fY ls k l.id l.over=none/\ ∀j,fY ls k l.id (!l.over)=some j->CV ls j=l.sign:=by
 simp only[mA,h,hc,Bq,Da,cX,decide_eq_true_eq,Option.isNone_iff_eq_none];constructor
 .rintro ⟨h1,h2,h3⟩
  refine⟨h1,h2,fun j hj=>?_⟩;rw[hj] at h3
  simpa using h3
 rintro ⟨h1,h2,h3⟩
 refine⟨h1,h2,?_⟩;split
 .rename_i j hj
  simpa using h3 j hj
 rfl
theorem GX{ls:List Let}:(∀k,k<ls.length->mA ls (aw Let.aB ls/2) k=true)↔Va ls/\GC ls:=by
 constructor
 .intro h;have hx:∀ {k:Nat} {l:Let},ls[k]?=some l->l.aB=true->_:=fun {k l} hk hc=>(afQ (n2:=aw Let.aB ls/2) hk hc).1 (h k (aW.1 hk).1);refine⟨fun l hl hc=>?_,?_⟩
  .obtain⟨i,hi⟩:=jZ hl;exact(hx hi hc).1
  have key:∀(i j:Nat) (l m:Let),ls[i]?=some l->ls[j]?=some m->l.aB=true->m.aB=true->l.id=m.id->i<j->l.over≠m.over/\l.sign=m.sign:=by
   intro i j l m hi hj cq xy he gA;obtain⟨_,hn,hs⟩:=hx hj xy;have ho:l.over≠m.over:=by intro e;have:=Nl hn gA;rw[IE hi,qc.2 ⟨cq,he,e⟩] at this;cases this
   refine⟨ho,?_⟩;have k8:l.over= !m.over:=by revert ho;cases l.over<;>cases m.over<;>simp
   cases hv:fY ls j m.id (!m.over) with
   |none=>have:=Nl hv gA;rw[IE hi,qc.2 ⟨cq,he,k8⟩] at this;cases this
   |some p=>
    have h3:=hs p hv;obtain⟨sL,nC⟩:=GS hv;obtain⟨x,jF,Mw,jG,hxo⟩:=Ah nC;have:p=i:=by
     rcases Nat.lt_trichotomy p i with c|c|c
     .have ve:=(hx hi cq).2.1;have:=Nl ve c;rw[IE jF,qc.2 ⟨Mw,by rw[jG,he],by rw[hxo,k8]⟩] at this;cases this
     .exact c
     have h4:(List.range j).find? (qL ls m.id (!m.over))=some p:=hv;rw[List.find?_range_eq_some] at h4;have:=h4.2.2 i c;rw[IE hi,qc.2 ⟨cq,he,k8⟩] at this;cases this
    subst this;rw[hi] at jF;cases jF
    simpa [CV,hi] using h3
  intro i j l m hi hj cq xy he gA;rcases Nat.lt_or_gt_of_ne gA with c|c
  .exact key i j l m hi hj cq xy he c
  have:=key j i m l hj hi xy cq he.symm c;exact⟨fun e=>this.1 e.symm,this.2.symm⟩
 rintro ⟨h1,h2⟩ k hk
 obtain⟨l,hl⟩:=aL hk;cases hc:l.aB with
 |false=>simp[mA,hl,hc]
 |true=>
  refine(afQ hl hc).2 ⟨h1 l (aU hl) hc,?_,fun j hj=>?_⟩
  .cases hv:fY ls k l.id l.over with
   |none=>rfl
   |some p=>obtain⟨sL,nC⟩:=GS hv;obtain⟨x,jF,Mw,jG,hxo⟩:=Ah nC;exact absurd hxo (h2 p k x l jF hl Mw hc jG aa).1
  obtain⟨sL,nC⟩:=GS hj;obtain⟨x,jF,Mw,jG,hxo⟩:=Ah nC;have:=(h2 j k x l jF hl Mw hc jG aa).2;simp[CV,jF,this]
theorem aro(ls:List Let):∀ids:List Int,ids.Nodup->(ids.map fun id=>aw (lM id) ls).sum=aw (fun l=>l.aB&&ids.contains l.id) ls:=by
 intro ids
 induction ids with
 |nil=>intro _;simp[aw]
 |cons a ids ih=>
  intro hn;rw[r6] at hn;rw[dS,List.sum_cons,ih hn.2];refine(RY (p:=lM a) (q:=fun l=>l.aB&&ids.contains l.id) (r:=fun l=>l.aB&&(a::ids).contains l.id) ?_ ?_ ls).symm
  .intro l;simp only[lM,cX,beq_iff_eq,List.contains_eq_mem,decide_eq_true_eq,cP];constructor
   .rintro ⟨h1,h2|h2⟩
    .exact .inl ⟨h1,h2⟩
    exact .inr ⟨h1,h2⟩
   rintro (⟨h1,h2⟩|⟨h1,h2⟩)
   .exact⟨h1,.inl h2⟩
   exact⟨h1,.inr h2⟩
  intro l;simp only[lM,cX,beq_iff_eq,List.contains_eq_mem,decide_eq_true_eq];rintro ⟨_,h1⟩ ⟨_,h2⟩
  exact hn.1 (h1▸h2)
theorem O6{ls:List Let}{l:Let}(hl:l∈ls)(hc:l.aB=true):l.id∈eZ ls ls.length:=by obtain⟨i,hi⟩:=jZ hl;refine(Gl (bN _)).2 ⟨i,l.over,(aW.1 hi).1,?_⟩;rw[IE hi];exact qc.2 ⟨hc,rfl,rfl⟩
theorem Wk(ls:List Let):((eZ ls ls.length).map fun id=>aw (lM id) ls).sum=aw Let.aB ls:=by
 rw[aro _ _ (O7 ls _)];apply List.countP_congr;intro l hl;cases hc:l.aB with
 |false=>simp
 |true=>simp[O6 hl hc]
theorem Ph(id:Int)(ls:List Let):aw (lM id) ls=aw (rI id true) ls+aw (rI id false) ls:=by
 refine RY ?_ ?_ ls
 .intro l;rw[qc,qc];simp only[lM,cX,beq_iff_eq];cases l.over<;>simp
 intro l;rw[qc,qc];rintro ⟨_,_,h1⟩ ⟨_,_,h2⟩
 rw[h1] at h2;cases h2
theorem Vc(id:Int)(o:Bool)(ls:List Let):aw (lM id) ls=aw (rI id o) ls+aw (rI id (!o)) ls:=by
 rw[Ph];cases o with
 |true=>rfl
 |false=>simp only[Bool.not_false];omega
theorem Ag{ls:List Let}(h:GC ls)(id:Int)(o:Bool):aw (rI id o) ls<=1:=by refine ahX fun i j l m hi hj hl hm=>?_;obtain⟨l1,l2,l3⟩:=qc.1 hl;obtain⟨m1,m2,m3⟩:=qc.1 hm;refine Decidable.byContradiction fun aH=>?_;exact(h i j l m hi hj l1 m1 (by rw[l2,m2]) aH).1 (by rw[l3,m3])
theorem afl{f:Int->Nat}:∀ids:List Int,(∀x∈ids,f x<=2)->(ids.map f).sum<=2*ids.length:=by
 intro ids
 induction ids with
 |nil=>intro _;simp
 |cons a ids ih=>intro h;have:=ih fun x hx=>h x (Bv _ hx);have:=h a Nx;simp only[dS,List.sum_cons,dh];omega
theorem Xa{f:Int->Nat}:∀ids:List Int,(∀x∈ids,f x<=2)->(ids.map f).sum=2*ids.length->∀x∈ids,f x=2:=by
 intro ids
 induction ids with
 |nil=>intro _ _ x hx;cases hx
 |cons a ids ih=>
  intro h hs;have h1:=afl ids fun x hx=>h x (Bv _ hx);have h2:=h a Nx;simp only[dS,List.sum_cons,dh] at hs;intro x hx;rcases cP.1 hx with rfl|hx
  .omega
  exact ih (fun x hx=>h x (Bv _ hx)) aa x hx
theorem arp{f:Int->Nat}:∀ids:List Int,(∀x∈ids,f x=2)->(ids.map f).sum=2*ids.length:=by
 intro ids
 induction ids with
 |nil=>intro _;simp
 |cons a ids ih=>intro h;have:=ih fun x hx=>h x (Bv _ hx);have:=h a Nx;simp only[dS,List.sum_cons,dh];omega
theorem VJ{l m:Let}(hc:l.aB=true):iD l m=true↔m.aB=true/\m.id=l.id/\m.sign=l.sign/\m.over= !l.over:=by unfold Let.aB at hc ⊢;simp only[beq_iff_eq] at hc;unfold iD;simp only[cX,beq_iff_eq,hc,and_assoc,pL,beq_eq_false_iff_ne,ne_eq];cases l.over<;>cases m.over<;>simp
theorem PB{l:Let}(hc:l.aB=true):dz f l=false↔(l.gate=0/\l.aD=0)/\(l.sign !=1&&l.sign != -1)=false:=by
 unfold Let.aB at hc;have h1:(l.kind==1)=false:=by simp only[beq_iff_eq] at hc;rw[hc];rfl
 simp only[dz,hc,h1,if_true];simp
theorem adJ{ls:List Let}{l:Let}(hc:l.aB=true):l6 ls l=true↔dz f l=false/\(1<=l.id/\l.id<=((aw Let.aB ls/2:Nat):Int))/\aw (iD l) ls=1/\aw (lM l.id) ls=2:=by
 rw[PB hc];unfold l6;simp only[pL,QL,decide_eq_false_iff_not,bne_eq_false_iff_eq];constructor
 .rintro ⟨⟨⟨⟨⟨⟨a,b⟩,c⟩,d⟩,e⟩,g⟩,h⟩
  exact⟨⟨⟨a,b⟩,c⟩,⟨aa,aa⟩,aa,aa⟩
 rintro ⟨⟨⟨a,b⟩,c⟩,⟨d,e⟩,g,h⟩
 exact⟨⟨⟨⟨⟨⟨a,b⟩,c⟩,aa⟩,aa⟩,aa⟩,aa⟩
theorem aid{ls:List Let}:(∀l∈ls,l.aB=true->l6 ls l=true)↔(∀l∈ls,l.aB=true->dz f l=false)/\lV ls=true:=by
 have Mr:=Wk ls;constructor
 .intro h;have dy:=fun l hl hc=>(adJ (f:=f) hc).1 (h l hl hc);have hp:GC ls:=by
   intro i j l m hi hj cq xy he gA;obtain⟨_,_,h3,h4⟩:=dy l (aU hi) cq;have e1:=Vc l.id l.over ls;have g1:0<aw (rI l.id l.over) ls:=Bs.2 ⟨l,aU hi,qc.2 ⟨cq,rfl,rfl⟩⟩;obtain⟨x,hx,Cy⟩:=Bs.1 (show 0<ls.countP (iD l) by show 0<aw (iD l) ls;omega);obtain⟨x1,x2,x3,x4⟩:=(VJ cq).1 Cy;have g2:0<aw (rI l.id (!l.over)) ls:=Bs.2 ⟨x,hx,qc.2 ⟨x1,x2,x4⟩⟩;have u1:aw (rI l.id l.over) ls=1:=aa;have u2:aw (rI l.id (!l.over)) ls=1:=aa;have ho:l.over≠m.over:=by intro e;have:=(Fx hi (qc.2 ⟨cq,rfl,rfl⟩)).1 u1 j m hj (qc.2 ⟨xy,he.symm,e.symm⟩);exact gA this.symm
   refine⟨ho,?_⟩;have k8:m.over= !l.over:=by revert ho;cases l.over<;>cases m.over<;>simp
   obtain⟨p,jF⟩:=jZ hx;have:=(Fx hj (qc.2 ⟨xy,he.symm,k8⟩)).1 u2 p x jF (qc.2 ⟨x1,x2,x4⟩);subst this;rw[jF] at hj;cases hj;exact x3.symm
  have alz:∀id∈eZ ls ls.length,aw (lM id) ls=2:=by intro id hid;obtain⟨j,o,h1,h2⟩:=(Gl (bN _)).1 hid;obtain⟨m,hm,hc,hi,_⟩:=Ah h2;rw[<- hi];exact(dy m (aU hm) hc).2.2.2
  rw[arp _ alz] at Mr;refine⟨fun l hl hc=>(dy l hl hc).1,?_⟩;have hx:=(GX (ls:=ls)).2 ⟨fun l hl hc=>(dy l hl hc).2.1,hp⟩;rw[R8 aa hx];simp only[beq_iff_eq];omega
 rintro ⟨hb,hr⟩ l hl hc
 unfold lV at hr;simp only[cX,beq_iff_eq,ko,gj] at hr;obtain⟨⟨he,hx⟩,hlen⟩:=hr;obtain⟨hid,hp⟩:=GX.1 hx;have hle:∀id∈eZ ls ls.length,aw (lM id) ls<=2:=fun id _=>by rw[Ph id];have:=Ag hp id true;have:=Ag hp id false;omega
 have h2:=Xa _ hle (by rw[Mr,hlen];omega) l.id (O6 hl hc);have e1:=Vc l.id l.over ls;have b1:=Ag hp l.id l.over;have b2:=Ag hp l.id (!l.over);refine(adJ hc).2 ⟨hb l hl hc,hid l hl hc,?_,h2⟩;have u2:aw (rI l.id (!l.over)) ls=1:=aa;obtain⟨i,hi⟩:=jZ hl;obtain⟨x,hx,Cy⟩:=Bs.1 (show 0<ls.countP (rI l.id (!l.over)) by show 0<aw (rI l.id (!l.over)) ls;omega);obtain⟨p,jF⟩:=jZ hx;obtain⟨x1,x2,x3⟩:=qc.1 Cy;have gI:p≠i:=by
  rintro rfl
  rw[hi] at jF;cases jF;revert x3;cases l.over<;>simp
 have hsg:=(hp p i x l jF hi x1 hc x2 gI).2;refine(Fx jF ((VJ hc).2 ⟨x1,x2,hsg,x3⟩)).2 fun j m hj hm=>?_;obtain⟨m1,m2,m3,m4⟩:=(VJ hc).1 hm;exact(Fx jF Cy).1 u2 j m hj (qc.2 ⟨m1,m2,m4⟩)
theorem yz{l:Let}(h:dz f l=false):l.aE=true\/l.aB=true:=by
 unfold Let.aE Let.aB;cases h1:(l.kind==1) with
 |true=>exact .inl rfl
 |false=>
  cases h2:(l.kind==2) with
  |true=>exact .inr rfl
  |false=>simp only[dz,h1,h2] at h;cases h
theorem pI{l:Let}(hp:l.aE=true):l.aB=false:=by unfold Let.aE at hp;unfold Let.aB;simp only[beq_iff_eq] at hp;rw[hp];rfl
theorem adL{ls:List Let}{l:Let}(hp:l.aE=true):eT f ls l=vq f ls l:=by unfold Let.aE at hp;simp only[eT,hp,if_true]
theorem adK{ls:List Let}{l:Let}(hp:l.aB=true):eT f ls l=l6 ls l:=by
 unfold Let.aB at hp;have h1:(l.kind==1)=false:=by simp only[beq_iff_eq] at hp;rw[hp];rfl
 simp only[eT,hp,h1,if_true];simp
theorem Vs{ls:List Let}:wC F ls=true↔ls.any (dz F)=false/\xW ls=true/\lV ls=true:=by
 unfold wC;rw[ko,G0];have e1:=an5 (F:=F) (ls:=ls);have e2:=aid (f:=(F:Int)) (ls:=ls);constructor
 .intro h;have hk:=fun {l:Let} (hl:l∈ls)=>acN (f:=F) (ls:=ls) (ko.2 h) (jZ hl).choose_spec;obtain⟨p1,p2⟩:=e1.1 fun l hl hp=>by rw[<- adL hp];exact h l hl
  obtain⟨c1,c2⟩:=e2.1 fun l hl hc=>by rw[<- adK (f:=F) hc];exact h l hl
  refine⟨fun l hl=>?_,p2,c2⟩;rcases hk hl with hp|hc
  .rw[p1 l hl hp];simp
  rw[c1 l hl hc];simp
 rintro ⟨hb,hr,hc⟩ l hl
 have hb:∀l∈ls,dz F l=false:=fun l hl=>by simpa using hb l hl
 rcases yz (hb l hl) with hp|kJ
 .rw[adL hp];exact e1.2 ⟨fun l hl _=>hb l hl,hr⟩ l hl hp
 rw[adK kJ];exact e2.2 ⟨fun l hl _=>hb l hl,hc⟩ l hl kJ
theorem aqY{o:List Nat}(hs:o.Pairwise (· < ·))(ay:∀x∈o,x<o.length):∀(k:Nat) (h:k<o.length),o[k]=k:=by
 rw[QN] at hs;have lo:∀(k:Nat) (h:k<o.length),k<=o[k]:=by
  intro k
  induction k with
  |zero=>intro _;omega
  |succ k ih=>intro h;have:=ih aa;have:=hs k (k+1) aa h aa;omega
 have hi:∀(d k:Nat) (h:k<o.length),k+d+1=o.length->o[k]<=k:=by
  intro d
  induction d with
  |zero=>intro k h e;have:=ay _ (List.getElem_mem h);omega
  |succ d ih=>intro k h e;have:=ih (k+1) aa aa;have:=hs k (k+1) h aa aa;omega
 intro k h;have:=lo k h;have:=hi (o.length-k-1) k h aa;omega
theorem alY{key:Nat->Nat}{p:Nat->Bool}{i:Nat}:∀ {o:List Nat},o.Pairwise (fun a b=>key a<key b)->(∀x∈o,p x=decide (key x<key i))->(∀x∈o,key x≠key i)->
  (o.take (o.takeWhile p).length++i::o.drop (o.takeWhile p).length).Pairwise (fun a b=>key a<key b):=by
 intro o
 induction o with
 |nil=>intro _ _ _;simp
 |cons a o ih=>
  intro hs hp hn;rw[ua] at hs;have pa:=hp a Nx;have na:=hn a Nx;by_cases ay:key a<key i
  .have MZ:p a=true:=by rw[pa];simpa using ay
   rw[List.takeWhile_cons,if_pos MZ];simp only[dh,List.take_succ_cons,List.drop_succ_cons,yf];rw[ua];refine⟨fun b hb=>?_,ih hs.2 (fun x hx=>hp x (Bv _ hx)) (fun x hx=>hn x (Bv _ hx))⟩;rcases fg.1 hb with hb|hb
   .exact hs.1 b (yg hb)
   rcases cP.1 hb with rfl|hb
   .exact ay
   exact hs.1 b (wR hb)
  have MZ:¬p a=true:=by rw[pa];simpa using ay
  rw[List.takeWhile_cons,if_neg MZ];simp only[ff,List.take_zero,List.drop_zero,gD];rw[ua,ua];refine⟨fun b hb=>?_,hs⟩;rcases cP.1 hb with rfl|hb
  .omega
  have:=hs.1 b hb;omega
theorem GH{ls:List Let}{i:Nat}{l:Let}(h:ls[i]?=some l)(hp:l.aE=true):A3 ls i=dR ls l:=by simp[A3,h,hp]
structure BE (F:Nat) (ls:List Let):Prop where
 fm:∀l∈ls,l.aE=true->uq F ls l
 inj:∀(i j:Nat) (l m:Let),ls[i]?=some l->ls[j]?=some m->l.aE=true->m.aE=true->dR ls l=dR ls m->i=j
theorem Xn{ls:List Let}(h:BE F ls):∀k,k<=ls.length->(nM ls k).Pairwise (fun a b=>A3 ls a<A3 ls b):=by
 intro k
 induction k with
 |zero=>intro _;simp[nM]
 |succ k ih=>
  intro hk;have ih:=ih aa;rw[Hv];obtain⟨l,hl⟩:=aL (show k<ls.length by omega);unfold zO;rw[hl];simp only;cases hp:l.aE with
  |false=>simpa using ih
  |true=>
   simp only[if_true];unfold zi;have hm:=fun {x:Nat} (hx:x∈nM ls k)=>(Xm (ls:=ls) (k:=k) aa).1 hx;refine alY ih (fun x hx=>?_) (fun x hx e=>?_)
   .obtain⟨h1,m,hm,wg⟩:=hm hx;rw[GH hm wg,GH hl hp];unfold AQ;rw[hm,hl];simp only;have:=aom (h.fm m (aU hm) wg) (h.fm l (aU hl) hp);cases hb:Gw m l with
    |true=>simpa using this.1 hb
    |false=>symm;rw[decide_eq_false_iff_not];intro hc;rw[this.2 hc] at hb;cases hb
   obtain⟨h1,m,hm,wg⟩:=hm hx;rw[GH hm wg,GH hl hp] at e;have:=h.inj x k m l hm hl wg hp e;omega
theorem agX{ls:List Let}:∀k,k<=ls.length->(nM ls k).length=aw Let.aE (ls.take k):=by
 intro k
 induction k with
 |zero=>intro _;simp[nM,aw]
 |succ k ih=>
  intro hk;have ih:=ih aa;rw[Hv];obtain⟨l,hl⟩:=aL (show k<ls.length by omega);unfold zO;rw[hl];simp only;cases hp:l.aE with
  |false=>rw[jC hl hp];simpa using ih
  |true=>simp only[if_true];rw[alT,ru hl hp,ih]
theorem Kr{ls:List Let}:(aF ls).length=aw Let.aE ls:=by have:=agX (ls:=ls) ls.length (bN _);rwa[kS] at this
theorem Fj{ls:List Let}(h:qG F ls):fP ls (F+1)=(aF ls).length:=by
 rw[Kr,aaa];apply List.countP_congr;intro l hl;cases hp:l.aE with
 |false=>simp
 |true=>have:=h l hl hp;simp only[Db,cX,decide_eq_true_eq,iff_true];omega
theorem BE.qG{ls:List Let}(h:BE F ls):qG F ls:=fun l hl hp=>⟨(h.fm l hl hp).g0,(h.fm l hl hp).g1⟩
theorem BG{ls:List Let}(h:BE F ls){k i:Nat}(hk:(aF ls)[k]?=some i):∃l,ls[i]?=some l/\l.aE=true/\dR ls l=k:=by
 have hs:((aF ls).map (A3 ls)).Pairwise (· < ·):=by rw[yh];exact Xn h ls.length (bN _)
 have hT:=Fj h.qG;have ay:∀x∈(aF ls).map (A3 ls),x<((aF ls).map (A3 ls)).length:=by intro x hx;obtain⟨j,hj,rfl⟩:=dQ.1 hx;obtain⟨l,hl,hp⟩:=tg.1 hj;rw[GH hl hp,cM,<- hT];exact VQ (h.fm l (aU hl) hp)
 obtain⟨cK,jt⟩:=aW.1 hk;have:=aqY hs ay k (by rw[cM];exact cK);rw[Df,jt] at this;obtain⟨l,hl,hp⟩:=tg.1 (aU hk);exact⟨l,hl,hp,by rw[<- GH hl hp];exact this⟩
theorem Rg{ls:List Let}(h:BE F ls){i:Nat}{l:Let}(hl:ls[i]?=some l)(hp:l.aE=true):(aF ls)[dR ls l]?=some i:=by have ay:=VQ (h.fm l (aU hl) hp);rw[Fj h.qG] at ay;obtain⟨j,hj⟩:=aL ay;obtain⟨m,hm,wg,he⟩:=BG h hj;rw[hj,h.inj j i m l hm hl wg hp he]
theorem Ks{ls:List Let}(h:BE F ls){i:Nat}{l:Let}(hl:ls[i]?=some l)(hp:l.aE=true):(aF ls).idxOf i=dR ls l:=by have h1:=Rg h hl hp;have h2:=abw (aU h1);obtain⟨m,hm,wg,he⟩:=BG h h2;rw[hl] at hm;cases hm;exact he.symm
theorem ag2{ls:List Let}(h:BE F ls):ss ls (fP ls (F+1)) ls.length=aF ls:=by
 apply wQ
 .rw[Xl,Fj h.qG]
 intro k h1 h2;simp only[ss,Df,Ke];obtain⟨l,hl,hp,he⟩:=BG h (s0 h2);generalize (aF ls)[k]=i at hl;unfold Kp;have lW:=(aW.1 hl).1;have hf:(List.range ls.length).find? (sE ls k)=some i:=by
  refine B0 lW (fun j hj=>?_) ?_
  .cases hh:sE ls k j with
   |false=>rfl
   |true=>
    unfold sE at hh;split at hh
    .rename_i m hm;simp only[cX,beq_iff_eq] at hh;have:=h.inj j i m l hm hl hh.1 hp (by rw[hh.2,he]);omega
    cases hh
  rw[LW hl hp];simp[he]
 rw[hf];rfl
theorem PH{ls:List Let}(hr:lV ls=true){i:Nat}{l:Let}(hl:ls[i]?=some l)(hc:l.aB=true):fY ls ls.length l.id (!l.over)=some (fN ls i)/\fN ls i<ls.length:=by
 have Mr:=Wk ls;unfold lV at hr;simp only[cX,beq_iff_eq,ko,gj] at hr;obtain⟨⟨he,hx⟩,hlen⟩:=hr;obtain⟨hid,hp⟩:=GX.1 hx;have hle:∀id∈eZ ls ls.length,aw (lM id) ls<=2:=fun id _=>by rw[Ph id];have:=Ag hp id true;have:=Ag hp id false;omega
 have h2:=Xa _ hle (by rw[Mr,hlen];omega) l.id (O6 (aU hl) hc);have e1:=Vc l.id l.over ls;have b1:=Ag hp l.id l.over;have b2:=Ag hp l.id (!l.over);obtain⟨x,hx,Cy⟩:=Bs.1 (show 0<ls.countP (rI l.id (!l.over)) by show 0<aw (rI l.id (!l.over)) ls;omega);obtain⟨p,jF⟩:=jZ hx;obtain⟨x1,x2,x3⟩:=qc.1 Cy;have hpn:=(aW.1 jF).1;have gI:p≠i:=by
  rintro rfl
  rw[hl] at jF;cases jF;revert x3;cases l.over<;>simp
 have uniq:∀(j:Nat) (m:Let),ls[j]?=some m->m.aB=true->m.id=l.id->j≠i->j=p:=by intro j m hj mc mi Aj;refine Decidable.byContradiction fun aH=>?_;have o1:=(hp j i m l hj hl mc hc mi Aj).1;have o2:=(hp j p m x hj jF mc x1 (by rw[mi,x2]) aH).1;rw[x3] at o2;revert o1 o2;cases m.over<;>cases l.over<;>simp
 have yU:(List.range ls.length).find? (zt ls i)=some p:=by
  refine B0 hpn (fun j hj=>?_) ?_
  .cases hh:zt ls i j with
   |false=>rfl
   |true=>
    unfold zt at hh;simp only[cX,bne_iff_ne,ne_eq] at hh;obtain⟨h1,h2⟩:=hh;split at h2
    .rename_i m hm;simp only[cX,beq_iff_eq,hl,ng,nc] at h2;have:=uniq j m hm h2.1 h2.2 h1;omega
    cases h2
  unfold zt;rw[jF];simp[gI,x1,hl,x2]
 have ho:fN ls i=p:=by unfold fN;rw[yU];rfl
 rw[ho];refine⟨?_,hpn⟩;unfold fY;refine B0 hpn (fun j hj=>?_) ?_
 .cases hh:qL ls l.id (!l.over) j with
  |false=>rfl
  |true=>
   obtain⟨m,hm,mc,mi,mo⟩:=Ah hh;have Aj:j≠i:=by
    rintro rfl
    rw[hl] at hm;cases hm;revert mo;cases l.over<;>simp
   have:=uniq j m hm mc mi Aj;omega
 rw[IE jF];exact Cy
end
end Go.Abs
