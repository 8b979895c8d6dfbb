/- A part. -/
import Derived.Test.YtffbakabajjgcaaGreatDoorSa
set_option linter.all false
set_option maxRecDepth 100000
set_option maxHeartbeats 16000000
namespace Go.Abs
section
variable{F:Nat}
structure Let where
 kind:Int
 gate:Int
 aE:Int
 id:Int
 sign:Int
 over:Bool
 deriving DecidableEq
def Let.ps(l:Let):List PV:=[.int .i64 l.kind,.int .i64 l.gate,.int .i64 l.aE,.int .i64 l.id,.int .i64 l.sign,.bool l.over]
def Let.aJ(l:Let):Bool:=l.kind==1
def Let.aG(l:Let):Bool:=l.kind==2
abbrev cQ(ls:List Let):PV:=.sl (ls.map Let.ps)
abbrev cZ(f:Int)(ls:List Let):V:=.agg [.p (.int .i64 f),.p (cQ ls)]
abbrev mh(f:Int)(ls:List Let):List C:=[.p (.int .i64 f),.p (cQ ls)]
abbrev vi(k:Int):V:=.one (.p (.int .i64 k))
abbrev vb(b:Bool):V:=.one (.p (.bool b))
abbrev ri(k:Int):RV:=.one (.p (.int .i64 k))
abbrev rb(k:Bool):RV:=.one (.p (.bool k))
abbrev aC(p:Let->Bool)(ls:List Let):Nat:=ls.countP p
theorem aM{α:Type}{ls:List α}{k:Nat}(h:k<ls.length):∃l,ls[k]?=some l:=⟨ls[k],by simp[h]⟩
theorem sZ{p:Let->Bool}{ls:List Let}{k:Nat}{l:Let}(h:ls[k]?=some l)(hp:p l=true):aC p (ls.take (k+1))=aC p (ls.take k)+1:=by unfold aC;obtain⟨hk,rfl⟩:=bg.1 h;rw[agc hk,FQ,af1,aD hp]
theorem jB{p:Let->Bool}{ls:List Let}{k:Nat}{l:Let}(h:ls[k]?=some l)(hp:p l=false):aC p (ls.take (k+1))=aC p (ls.take k):=by unfold aC;obtain⟨hk,rfl⟩:=bg.1 h;rw[agc hk,FQ,af1,hp];rfl
theorem y7(p:Let->Bool)(ls:List Let)(k:Nat):aC p (ls.take k)<=k:=mD WJ (by rw[gT];exact Nat.min_le_left _ _)
theorem oU(p:Let->Bool)(ls:List Let):aC p ls<=ls.length:=WJ
theorem fv{ls:List Let}{k:Nat}{l:Let}(h:ls[k]?=some l):(ls.map Let.ps)[k]?=some l.ps:=by simp[h]
theorem wrap_add{a b:Nat}(h:a+b<=9223372036854775807):IntKind.i64.wrap ((a:Int)+(b:Int))=((a+b:Nat):Int):=wrap_small (n:=a+b) h
theorem sL{a:Nat}(h:2*a<=9223372036854775807):IntKind.i64.wrap (2*(a:Int))=((2*a:Nat):Int):=wrap_small (n:=2*a) h
theorem Rr{a b:Nat}(h:b<=a)(h2:a<=9223372036854775807):IntKind.i64.wrap ((a:Int)-(b:Int))=((a-b:Nat):Int):=by have:((a:Int)-(b:Int))=((a-b:Nat):Int):=aa;rw[this];exact wrap_small aa
theorem FL{a:Nat}(h:1<=a)(h2:a<=9223372036854775807):IntKind.i64.wrap ((a:Int)-1)=((a-1:Nat):Int):=Rr (b:=1) h h2
def Wb(x y:Option (List PV×List Nat))(f:Nat):Option (PV×List Nat):=match x,y with
 |some (x,r),some (y,s)=>some (.fn f x y,r++s)
 |_,_=>none
theorem arU{x y:List PV}{r s:List Nat}{f:Nat}:Wb (some (x,r)) (some (y,s)) f=some (.fn f x y,r++s):=rfl
theorem arY{aj:aw}{f:Nat}{a b:List C}:snap aj ik (.hfn f a b)=Wb (collect (snap aj 5) a) (collect (snap aj 5) b) f:=by unfold ik;rw[snap];unfold Wb;rfl
theorem arZ{aj:aw}{n id g off:Nat}:snap aj (n+1) (.aX id g off)=Q9 (aj id) (collect (snap aj n)) id g off:=by rw[snap];rfl
theorem ar0{aj:aw}{n id g z off len:Nat}:snap aj (n+1) (.hsl id g z off len)=Ra (aj id) (collect (collect (snap aj n))) id g off len:=by rw[snap];rfl
theorem aK{b:Bool}(h:b=true:=by kernel_rfl):b=true:=h
theorem aV{f:Nat}{fn:aS}{args:List V}{r:RV}(hf:S.fns f=some fn)(h:W S .all fn.body (qS .all fn.results fun v aj=>gh aj v=some r) (sk args) vG)(hp:S.prim f args=none:=by rfl)(hl:args.length<=fn.ntmps:=by exact iv rfl):aF S f args r:=agp hp hf hl h
theorem dS:¬((2:Int)=0):=ae
theorem um(a b:Nat):(a:Int).tmod b=((a%b:Nat):Int):=by rw[Int.tmod_eq_emod_of_nonneg aa];rfl
theorem iL(a:Nat):(a:Int).tmod 2=((a%2:Nat):Int):=um a 2
theorem fp(a:Nat):(a:Int).tdiv 2=((a/2:Nat):Int):=by rw[afZ aa];rfl
theorem dG{n:Nat}:¬((n:Int)<(n:Int)):=aa
theorem ps_len(l:Let):l.ps.length=6:=rfl
theorem akt{aj:aw}{all:List Nat}:uD aj all []=some []:=rfl
attribute [go_sem] arY arU arZ ar0 akt
def nZ(g:Int)(l:Let):Bool:=l.aJ&&l.gate==g
def lu(g:Int)(l:Let):Bool:=l.aG&&l.id==g
theorem Vx(f:Int)(ls:List Let)(hl:ls.length<=1000000):aF S 113 [cZ f ls] (ri (aC Let.aJ ls)):=by
 refine aV c113 ?_;simp only[go_sem,i113];refine cJ (fun k ak _=>ak 7=.one (.p (cQ ls))/\ak 8=vi ls.length/\ak 9=vi k/\ak 3=vi (aC Let.aJ (ls.take k))) 0 ls.length (bj _) ?_ ?_
 .simp only[go_sem];exact⟨rfl,rfl⟩
 rintro k ak aj hk ⟨h7,h8,h9,h3⟩
 by_cases aq:k<ls.length
 .obtain⟨l,cF⟩:=aM aq;have hi:=fv cF;have aL:((k:Int)<(ls.length:Int)):=aa;have hb:=y7 (Let.aJ) ls k;have w1:=bN (n:=k) aa;have w2:=bN (n:=aC (Let.aJ) (ls.take k)) aa;cases hp:(l.kind==1) with
  |true=>have hc:=sZ (p:=Let.aJ) cF hp;simp only[go_sem,i113_l1,h3,h7,h8,h9,hi,Let.ps,aL,w1,w2,hp,hc];first|exact aq|exact⟨aq,rfl⟩
  |false=>have hc:=jB (p:=Let.aJ) cF hp;simp only[go_sem,i113_l1,h3,h7,h8,h9,hi,Let.ps,aL,w1,hp,hc];first|exact aq|exact⟨aq,rfl⟩
 have:k=ls.length:=aa;subst this;rw[kE] at h3;simp only[go_sem,i113_l1,i113_r2,h3,h8,h9,dG]
theorem S5(f:Int)(ls:List Let)(hl:ls.length<=1000000):aF S 68 [cZ f ls] (ri (aC Let.aG ls)):=by
 refine aV c68 ?_;simp only[go_sem,i68];refine cJ (fun k ak _=>ak 7=.one (.p (cQ ls))/\ak 8=vi ls.length/\ak 9=vi k/\ak 3=vi (aC Let.aG (ls.take k))) 0 ls.length (bj _) ?_ ?_
 .simp only[go_sem];exact⟨rfl,rfl⟩
 rintro k ak aj hk ⟨h7,h8,h9,h3⟩
 by_cases aq:k<ls.length
 .obtain⟨l,cF⟩:=aM aq;have hi:=fv cF;have aL:((k:Int)<(ls.length:Int)):=aa;have hb:=y7 (Let.aG) ls k;have w1:=bN (n:=k) aa;have w2:=bN (n:=aC (Let.aG) (ls.take k)) aa;cases hp:(l.kind==2) with
  |true=>have hc:=sZ (p:=Let.aG) cF hp;simp only[go_sem,i68_l1,h3,h7,h8,h9,hi,Let.ps,aL,w1,w2,hp,hc];first|exact aq|exact⟨aq,rfl⟩
  |false=>have hc:=jB (p:=Let.aG) cF hp;simp only[go_sem,i68_l1,h3,h7,h8,h9,hi,Let.ps,aL,w1,hp,hc];first|exact aq|exact⟨aq,rfl⟩
 have:k=ls.length:=aa;subst this;rw[kE] at h3;simp only[go_sem,i68_l1,i68_r2,h3,h8,h9,dG]
theorem YJ(f:Int)(ls:List Let)(hl:ls.length<=1000000):aF S 114 [cZ f ls] (ri ((aC Let.aG ls/2:Nat))):=by
 have hb:=oU Let.aG ls;have e1:IntKind.i64.wrap ((aC Let.aG ls:Int).tdiv 2)=((aC Let.aG ls/2:Nat):Int):=by
  have:(aC Let.aG ls:Int).tdiv 2=((aC Let.aG ls/2:Nat):Int):=by rw[afZ aa];omega
  rw[this];exact wrap_small aa
 refine aV c114 ?_;simp only[go_sem,i114,s68,dJ (S5 f ls hl),e1,(by decide:¬(2:Int)=0)]
theorem adM(f:Int)(ls:List Let)(hl:ls.length<=1000000):aF S 45 [cZ f ls] (ri (aC Let.aJ ls)):=by
 refine aV c45 ?_;simp only[go_sem,i45];refine cJ (fun k ak aj=>ak 1=.one (.aX 2880000000 1 0)/\aj 2880000000=(1,some (.var (mh f ls)))/\ak 4=vi k/\ak 3=vi (aC Let.aJ (ls.take k))) 0 ls.length (bj _) ?_ ?_
 .simp only[go_sem];first|exact⟨rfl,rfl⟩|exact⟨rfl,rfl,rfl⟩
 rintro k ak aj hk ⟨cq,hB,j8,jt⟩
 by_cases aq:k<ls.length
 .obtain⟨l,cF⟩:=aM aq;have hi:=fv cF;have aL:((k:Int)<(ls.length:Int)):=aa;have hb:=y7 (Let.aJ) ls k;have w1:=bN (n:=k) aa;have w2:=bN (n:=aC (Let.aJ) (ls.take k)) aa;cases hp:(l.kind==1) with
  |true=>have hc:=sZ (p:=Let.aJ) cF hp;simp only[go_sem,i45_l1,cq,hB,j8,jt,hi,Let.ps,aL,w1,w2,hp,hc];first|exact aq|exact⟨aq,rfl⟩
  |false=>have hc:=jB (p:=Let.aJ) cF hp;simp only[go_sem,i45_l1,cq,hB,j8,jt,hi,Let.ps,aL,w1,hp,hc];first|exact aq|exact⟨aq,rfl⟩
 have:k=ls.length:=aa;subst this;rw[kE] at jt;simp only[go_sem,i45_l1,i45_r2,cq,hB,j8,jt,dG]
theorem Wu(f:Int)(ls:List Let)(hl:ls.length<=1000000):aF S 44 [cZ f ls] (ri (aC Let.aG ls)):=by
 refine aV c44 ?_;simp only[go_sem,i44];refine cJ (fun k ak aj=>ak 1=.one (.aX 2816000000 1 0)/\aj 2816000000=(1,some (.var (mh f ls)))/\ak 4=vi k/\ak 3=vi (aC Let.aG (ls.take k))) 0 ls.length (bj _) ?_ ?_
 .simp only[go_sem];first|exact⟨rfl,rfl⟩|exact⟨rfl,rfl,rfl⟩
 rintro k ak aj hk ⟨cq,hB,j8,jt⟩
 by_cases aq:k<ls.length
 .obtain⟨l,cF⟩:=aM aq;have hi:=fv cF;have aL:((k:Int)<(ls.length:Int)):=aa;have hb:=y7 (Let.aG) ls k;have w1:=bN (n:=k) aa;have w2:=bN (n:=aC (Let.aG) (ls.take k)) aa;cases hp:(l.kind==2) with
  |true=>have hc:=sZ (p:=Let.aG) cF hp;simp only[go_sem,i44_l1,cq,hB,j8,jt,hi,Let.ps,aL,w1,w2,hp,hc];first|exact aq|exact⟨aq,rfl⟩
  |false=>have hc:=jB (p:=Let.aG) cF hp;simp only[go_sem,i44_l1,cq,hB,j8,jt,hi,Let.ps,aL,w1,hp,hc];first|exact aq|exact⟨aq,rfl⟩
 have:k=ls.length:=aa;subst this;rw[kE] at jt;simp only[go_sem,i44_l1,i44_r2,cq,hB,j8,jt,dG]
theorem S6(f:Int)(ls:List Let)(hl:ls.length<=1000000):aF S 48 [cZ f ls] (ri ((aC Let.aG ls/2:Nat))):=by
 have hb:=oU Let.aG ls;have e1:IntKind.i64.wrap ((aC Let.aG ls:Int).tdiv 2)=((aC Let.aG ls/2:Nat):Int):=by
  have:(aC Let.aG ls:Int).tdiv 2=((aC Let.aG ls/2:Nat):Int):=by rw[afZ aa];omega
  rw[this];exact wrap_small aa
 refine aV c48 ?_;simp only[go_sem,i48,s44,dJ (Wu f ls hl),e1,(by decide:¬(2:Int)=0)]
theorem in_r(f:Int)(ls:List Let)(hl:ls.length<=1000000)(g:Int):aF S 79 [cZ f ls,vi g] (ri (aC (nZ g) ls)):=by
 refine aV c79 ?_;simp only[go_sem,i79];refine cJ (fun k ak aj=>ak 2=.one (.aX 5056000000 1 0)/\aj 5056000000=(1,some (.var (mh f ls)))/\ak 6=vi k/\ak 5=vi (aC (nZ g) (ls.take k))/\ak 1=vi g) 0 ls.length (bj _) ?_ ?_
 .simp only[go_sem];first|exact⟨rfl,rfl⟩|exact⟨rfl,rfl,rfl⟩
 rintro k ak aj hk ⟨cq,hB,j8,jt,Cj⟩
 by_cases aq:k<ls.length
 .obtain⟨l,cF⟩:=aM aq;have hi:=fv cF;have aL:((k:Int)<(ls.length:Int)):=aa;have hb:=y7 ((nZ g)) ls k;have w1:=bN (n:=k) aa;have w2:=bN (n:=aC ((nZ g)) (ls.take k)) aa;cases hp:(l.kind==1) with
  |true=>
   cases hq:(l.gate==g) with
   |true=>have hc:=sZ (p:=(nZ g)) cF (by simp only[nZ,Let.aJ,hp,hq];rfl);simp only[go_sem,i79_l1,cq,hB,j8,jt,hi,Let.ps,aL,w1,w2,Cj,hp,hq,hc];first|exact aq|exact⟨aq,rfl⟩
   |false=>have hc:=jB (p:=(nZ g)) cF (by simp only[nZ,Let.aJ,hp,hq];rfl);simp only[go_sem,i79_l1,cq,hB,j8,jt,hi,Let.ps,aL,w1,Cj,hp,hq,hc];first|exact aq|exact⟨aq,rfl⟩
  |false=>have hc:=jB (p:=(nZ g)) cF (by simp only[nZ,Let.aJ,hp];rfl);simp only[go_sem,i79_l1,cq,hB,j8,jt,hi,Let.ps,aL,w1,Cj,hp,hc];first|exact aq|exact⟨aq,rfl⟩
 have:k=ls.length:=aa;subst this;rw[kE] at jt;simp only[go_sem,i79_l1,i79_r2,cq,hB,j8,jt,dG]
theorem asU(f:Int)(ls:List Let)(hl:ls.length<=1000000)(g:Int):aF S 80 [cZ f ls,vi g] (ri (aC (lu g) ls)):=by
 refine aV c80 ?_;simp only[go_sem,i80];refine cJ (fun k ak aj=>ak 2=.one (.aX 5120000000 1 0)/\aj 5120000000=(1,some (.var (mh f ls)))/\ak 6=vi k/\ak 5=vi (aC (lu g) (ls.take k))/\ak 1=vi g) 0 ls.length (bj _) ?_ ?_
 .simp only[go_sem];first|exact⟨rfl,rfl⟩|exact⟨rfl,rfl,rfl⟩
 rintro k ak aj hk ⟨cq,hB,j8,jt,Cj⟩
 by_cases aq:k<ls.length
 .obtain⟨l,cF⟩:=aM aq;have hi:=fv cF;have aL:((k:Int)<(ls.length:Int)):=aa;have hb:=y7 ((lu g)) ls k;have w1:=bN (n:=k) aa;have w2:=bN (n:=aC ((lu g)) (ls.take k)) aa;cases hp:(l.kind==2) with
  |true=>
   cases hq:(l.id==g) with
   |true=>have hc:=sZ (p:=(lu g)) cF (by simp only[lu,Let.aG,hp,hq];rfl);simp only[go_sem,i80_l1,cq,hB,j8,jt,hi,Let.ps,aL,w1,w2,Cj,hp,hq,hc];first|exact aq|exact⟨aq,rfl⟩
   |false=>have hc:=jB (p:=(lu g)) cF (by simp only[lu,Let.aG,hp,hq];rfl);simp only[go_sem,i80_l1,cq,hB,j8,jt,hi,Let.ps,aL,w1,Cj,hp,hq,hc];first|exact aq|exact⟨aq,rfl⟩
  |false=>have hc:=jB (p:=(lu g)) cF (by simp only[lu,Let.aG,hp];rfl);simp only[go_sem,i80_l1,cq,hB,j8,jt,hi,Let.ps,aL,w1,Cj,hp,hc];first|exact aq|exact⟨aq,rfl⟩
 have:k=ls.length:=aa;subst this;rw[kE] at jt;simp only[go_sem,i80_l1,i80_r2,cq,hB,j8,jt,dG]
def dn (ls:List Let)(i:Nat):Bool:=aC Let.aJ (ls.take i)%2==0
theorem Ga(f:Int)(ls:List Let)(i:Nat)(hl:ls.length<=1000000)(zB:i<=ls.length):aF S 55 [cZ f ls,vi i] (rb (dn ls i)):=by
 refine aV c55 ?_;simp only[go_sem,i55];refine cJ (fun k ak aj=>ak 1=vi i/\ak 2=.one (.aX 3520000000 1 0)/\aj 3520000000=(1,some (.var (mh f ls)))/\ak 6=vi k/\ak 5=vi (aC Let.aJ (ls.take k))) 0 i (bj _) ?_ ?_
 .simp only[go_sem];exact⟨rfl,rfl⟩
 rintro k ak aj hk ⟨h1,cq,hB,j8,jt⟩
 have hb:=y7 Let.aJ ls k;by_cases aq:k<i
 .obtain⟨l,cF⟩:=aM (ls:=ls) (k:=k) aa;have hi:=fv cF;have aL:((k:Int)<(i:Int)):=aa;have w1:=bN (n:=k) aa;have w2:=bN (n:=aC Let.aJ (ls.take k)) aa;cases hp:(l.kind==1) with
  |true=>have hc:=sZ (p:=Let.aJ) cF hp;simp only[go_sem,i55_l1,h1,cq,hB,j8,jt,hi,Let.ps,aL,w1,w2,hp,hc];exact aq
  |false=>have hc:=jB (p:=Let.aJ) cF hp;simp only[go_sem,i55_l1,h1,cq,hB,j8,jt,hi,Let.ps,aL,w1,hp,hc];exact aq
 have:k=i:=aa;subst this;have e2:((((aC Let.aJ (ls.take k))%2:Nat):Int)==0)=dn ls k:=by
  unfold dn;cases h:(aC Let.aJ (ls.take k)%2==0) with
  |true=>simp at h ⊢;omega
  |false=>simp at h ⊢;omega
 simp only[go_sem,i55_l1,i55_r2,h1,j8,jt,dG,dS,iL,e2]
theorem anq(a b:Let):aF S 121 [.agg (a.ps.map .p),.agg (b.ps.map .p)] (rb (decide (a.gate<b.gate)||(a.gate==b.gate&&decide (a.aE<b.aE)))):=by
 refine aV c121 ?_;by_cases h1:a.gate<b.gate
 .simp only[go_sem,i121,Let.ps,h1]
 cases h2:(a.gate==b.gate) with
 |true=>simp only[go_sem,i121,Let.ps,h1,h2]
 |false=>simp only[go_sem,i121,Let.ps,h1,h2]
def dT(n i:Nat)(fw:Bool):Nat:=if fw then 2*i else 2*((i+n-1)%n)+1
theorem Sq(f:Int)(ls:List Let)(i:Nat)(fw:Bool)(hl:ls.length<=1000000)(hi:i<ls.length):aF S 122 [cZ f ls,vi i,vb fw] (ri (dT ls.length i fw)):=by
 refine aV c122 ?_;cases fw with
 |true=>have e:IntKind.i64.wrap (2*(i:Int))=((2*i:Nat):Int):=wrap_small (n:=2*i) aa;simp only[go_sem,i122,e,dT]
 |false=>
  have w1:IntKind.i64.wrap ((i:Int)+(ls.length:Int))=((i+ls.length:Nat):Int):=wrap_small (n:=i+ls.length) aa;have w2:IntKind.i64.wrap (((i+ls.length:Nat):Int)-1)=((i+ls.length-1:Nat):Int):=by have:(((i+ls.length:Nat):Int)-1)=((i+ls.length-1:Nat):Int):=aa;rw[this];exact wrap_small aa
  have e1:=um (i+ls.length-1) ls.length;have hm:=ez (i+ls.length-1) (show 0<ls.length by omega);have w3:IntKind.i64.wrap (2*(((i+ls.length-1)%ls.length:Nat):Int))=((2*((i+ls.length-1)%ls.length):Nat):Int):=wrap_small (n:=2*((i+ls.length-1)%ls.length)) aa;have w4:=bN (n:=2*((i+ls.length-1)%ls.length)) aa;have hz:¬((ls.length:Int)=0):=aa;simp only[go_sem,i122,w1,w2,e1,w3,w4,hz,dT]
def zZ(ls:List Let)(i j:Nat):Bool:=j !=i&&(match ls[j]? with|some l=>l.aG&&l.id==((ls[i]?).map Let.id).getD 0|none=>false)
def hJ(ls:List Let)(i:Nat):Nat:=((List.range ls.length).find? (zZ ls i)).getD i
theorem Cd{p:Nat->Bool}:∀ {n k:Nat},k<n->(∀j,j<k->p j=false)->p k=true->(List.range n).find? p=some k:=by intro n k hk hn hp;exact List.find?_range_eq_some.2 ⟨hp,by simpa using hk,fun j hj=>by simp[hn j hj]⟩
theorem IL{p:Nat->Bool}{n:Nat}(hn:∀j,j<n->p j=false):(List.range n).find? p=none:=by rw[Of];intro x hx;simp[hn x (by simpa using hx)]
theorem aoP(f:Int)(ls:List Let)(i:Nat)(hl:ls.length<=1000000)(zB:i<ls.length):aF S 123 [cZ f ls,vi i] (ri (hJ ls i)):=by
 obtain⟨li,uJ⟩:=aM zB;have mu:=fv uJ;have key:∀j l,ls[j]?=some l->zZ ls i j=(j !=i&&(l.aG&&l.id==li.id)):=fun j l h=>by simp[zZ,h,uJ]
 refine aV c123 ?_;simp only[go_sem,i123];refine cJ (fun k ak aj=>ak 1=vi i/\ak 2=.one (.aX 7872000000 1 0)/\aj 7872000000=(1,some (.var (mh f ls)))/\ak 5=vi k/\ ∀j,j<k->zZ ls i j=false) 0 ls.length (bj _) ?_ ?_
 .simp only[go_sem];exact⟨rfl,fun j h=>absurd h (mT j)⟩
 rintro k ak aj hk ⟨h1,cq,hB,j8,hn⟩
 by_cases aq:k<ls.length
 .obtain⟨l,cF⟩:=aM aq;have hi:=fv cF;have aL:((k:Int)<(ls.length:Int)):=aa;have w1:=bN (n:=k) aa;have EH:=key k l cF;have step:zZ ls i k=false->∀j,j<k+1->zZ ls i j=false:=fun h j hj=>by
   rcases lL.1 hj with h2|rfl
   .exact hn j h2
   exact h
  by_cases hki:k=i
  .have hb:((k:Int)!=(i:Int))=false:=by simp[hki]
   have hs:=step (by rw[EH];simp[hki]);simp only[go_sem,i123_l1,h1,cq,hB,j8,aL,w1,hb];exact⟨ah,aq,hs⟩
  have hb:((k:Int)!=(i:Int))=true:=by simp;omega
  have aT:(k !=i)=true:=by simp[hki]
  cases hp:(l.kind==2) with
  |false=>have hs:=step (by rw[EH,aT,Let.aG,hp];rfl);simp only[go_sem,i123_l1,h1,cq,hB,j8,hi,Let.ps,aL,w1,hb,hp];exact⟨ah,aq,hs⟩
  |true=>
   cases hq:(l.id==li.id) with
   |false=>have hs:=step (by rw[EH,aT,Let.aG,hp,hq];rfl);simp only[go_sem,i123_l1,h1,cq,hB,j8,hi,mu,Let.ps,aL,w1,hb,hp,hq];exact⟨ah,aq,hs⟩
   |true=>
    have hf:hJ ls i=k:=by unfold hJ;rw[Cd aq hn (by rw[EH,aT,Let.aG,hp,hq];rfl)];rfl
    simp only[go_sem,i123_l1,h1,cq,hB,j8,hi,mu,Let.ps,aL,hb,hp,hq,hf];show rF _ _ _=true
    kernel_rfl
 have:k=ls.length:=aa;subst this;have hf:hJ ls i=i:=by unfold hJ;rw[IL hn];rfl
 simp only[go_sem,i123_l1,i123_r2,h1,cq,hB,j8,dG,hf]
abbrev tv(l:List Nat):PV:=.sl (l.map fun n:Nat=>[.int .i64 (n:Int)])
theorem at_r(l:List Nat)(n k0:Nat)(hl:l.length<=1000000)(wO:l[k0]?=some n)(hn:∀j,j<k0->l[j]? ≠some n):aF S 98 [.one (.p (tv l)),vi n] (ri k0):=by
 have hk0l:=(bg.1 wO).1;refine aV c98 ?_;simp only[go_sem,i98];refine cJ (fun k ak aj=>ak 0=.one (.p (tv l))/\ak 1=vi n/\ak 5=vi k) 0 k0 (bj _) ?_ ?_
 .simp only[go_sem];rfl
 rintro k ak aj hk ⟨h0,h1,h5⟩
 have aL:((k:Int)<(l.length:Int)):=aa;have w1:=bN (n:=k) aa;obtain⟨m,hm⟩:=aM (ls:=l) (k:=k) aa;have hi:(l.map fun n:Nat=>[PV.int .i64 (n:Int)])[k]?=some [.int .i64 (m:Int)]:=by simp[hm]
 by_cases aq:k<k0
 .have aI:((m:Int)==(n:Int))=false:=by
   have:m≠n:=fun e=>hn k aq (by rw[hm,e]);simp;omega
  simp only[go_sem,i98_l1,h0,h1,h5,aL,w1,hi,aI];exact aq
 have:k=k0:=aa;subst this;have e:m=n:=by rw[hm] at wO;exact sR wO
 subst e;simp only[go_sem,i98_l1,h0,h1,h5,aL,hi]
abbrev w7(l:Let):V:=.agg [.p (.int .i64 l.kind),.p (.int .i64 l.gate),.p (.int .i64 l.aE),.p (.int .i64 l.id),.p (.int .i64 l.sign),.p (.bool l.over)]
def Fe(a b:Let):Bool:=decide (a.gate<b.gate)||(a.gate==b.gate&&decide (a.aE<b.aE))
theorem anr(a b:Let):aF S 121 [w7 a,w7 b] (rb (Fe a b)):=anq a b
abbrev nP(o:List Nat):List (List PV):=o.map fun n:Nat=>[PV.int .i64 (n:Int)]
theorem iF{o:List Nat}{k n:Nat}(h:o[k]?=some n):(nP o)[k]?=some [.int .i64 (n:Int)]:=by simp[h]
def Bf(ls:List Let)(i j:Nat):Bool:=match ls[j]?,ls[i]? with
 |some a,some b=>Fe a b
 |_,_=>false
def zT(ls:List Let)(o:List Nat)(i:Nat):List Nat:=o.take (o.takeWhile (Bf ls i)).length++i::o.drop (o.takeWhile (Bf ls i)).length
def AM(ls:List Let)(o:List Nat)(i:Nat):List Nat:=match ls[i]? with
 |some l=>if l.aJ then zT ls o i else o
 |none=>o
def aB(ls:List Let):List Nat:=(List.range ls.length).foldl (AM ls) []
def nK(ls:List Let)(k:Nat):List Nat:=(List.range k).foldl (AM ls) []
theorem Ik(ls:List Let)(k:Nat):nK ls (k+1)=AM ls (nK ls k) k:=by unfold nK;rw[uZ,Av];rfl
theorem ahq{ls:List Let}{o:List Nat}{i:Nat}{x:Nat}(h:x∈AM ls o i):x∈o\/x=i:=by
 unfold AM at h;split at h
 .split at h
  .unfold zT at h;rcases dZ.1 h with h|h
   .exact .inl (xz h)
   rcases cI.1 h with h|h
   .exact .inr h
   exact .inl (vT h)
  exact .inl h
 exact .inl h
theorem OL{ls:List Let}:∀ {k x:Nat},x∈nK ls k->x<k:=by
 intro k
 induction k with
 |zero=>intro x h;simp[nK] at h
 |succ k ih=>
  intro x h;rw[Ik] at h;rcases ahq h with h|h
  .have:=ih h;omega
  omega
theorem sX(ls:List Let):∀k,(nK ls k).length<=k:=by
 intro k
 induction k with
 |zero=>simp[nK]
 |succ k ih=>
  rw[Ik];unfold AM;split
  .split
   .unfold zT;simp only[eG,cS,gT,lX];omega
   omega
  omega
def Fo(site:Nat)(o:List Nat)(v:V)(aj:aw):Prop:=(o=[]/\v=.one (.p .nils))\/(o≠[]/\ ∃g,v=.one (.hsl site g 1 0 o.length)/\aj site=(g,some (.arr 3 1 (nP o))))
theorem ahr{o:List Nat}{i K:Nat}{ak:Env}{aj:aw}{Q:dy}(ho:Fo 5184576640 o (ak 3) aj)(h4:ak 4=vi i)(h5:ak 5=vi K)(hK:K<=o.length)(hl:o.length<=1000000)
  (hq:∀aA ao,aA 1=ak 1->aA 4=ak 4->ao 5184000000=aj 5184000000->Fo 5184576640 (o.take K++i::o.drop K) (aA 3) ao->Q .normal aA ao):
  W S .all i81_r2 Q ak aj:=by
 rcases ho with ⟨rfl,h3⟩|⟨ho,g,h3,hC⟩
 .have hK0:K=0:=by simpa using hK
  subst hK0;simp only[go_sem,i81_r2,h3,h4,h5,eF,eo];refine⟨ah,hq _ _ ?_ ?_ ?_ (.inr ⟨af,(aj 5184576640).1+1,?_,?_⟩)⟩;all_goals simp only[go_sem]
 have j9:∀n:Nat,n<=1000001->n*8<=140737488355328:=fun n hn=>aa;by_cases hK0:K=0
 .subst hK0;have ht:List.take o.length (nP o)=nP o:=dD af;have ig:=j9 (1+o.length) aa;simp only[go_sem,i81_r2,h3,h4,h5,hC,ht,ig,eF,eo];refine⟨ah,hq _ _ ?_ ?_ ?_ (.inr ⟨af,g+1,?_,?_⟩)⟩;all_goals simp only[go_sem]
  simp;omega
 have ht:(List.take K (nP o)).length=K:=by simp;omega
 have htt:List.take K (List.take K (nP o))=List.take K (nP o):=by rw[HT,Nat.min_self]
 have eY:List.take (K+1) (List.take K (nP o)++[[PV.int .i64 (i:Int)]])=List.take K (nP o)++[[PV.int .i64 (i:Int)]]:=dD (by simp;omega);have htd:List.take (o.length-K) (List.drop K (nP o))=List.drop K (nP o):=dD af;have hld:(List.drop K (nP o)).length=o.length-K:=af;have o9:(List.take K (nP o)++[[PV.int .i64 (i:Int)]]).length=K+1:=by simp;omega
 have ig:=j9 K aa;have r9:=j9 (K+1) aa;have MK:=j9 (K+1+(o.length-K)) aa;have hle:K+(o.length-K)<=o.length:=aa;simp only[go_sem,i81_r2,h3,h4,h5,hC,hK,ht,hK0,ig,r9,MK,htt,eY,htd,hld,o9,hle,eF,eo];refine⟨ah,hq _ _ ?_ ?_ ?_ (.inr ⟨af,g+1,?_,?_⟩)⟩;all_goals simp only[go_sem]
 .simp;omega
 simp
theorem asG{α:Type}{p:α->Bool}{l:List α}{K:Nat}(hK:K<=l.length)(h1:∀j x,j<K->l[j]?=some x->p x=true)(h2:∀x,l[K]?=some x->p x=false):(l.takeWhile p).length=K:=by
 induction l generalizing K with
 |nil=>simp at hK ⊢;omega
 |cons a l ih=>
  cases K with
  |zero=>have:=h2 a rfl;simp[List.takeWhile,this]
  |succ K=>have:=h1 0 a aa rfl;simp only[List.takeWhile,this,cS];rw[ih (by simpa using hK) (fun j x hj hx=>h1 (j+1) x aa (by simpa using hx)) (fun x hx=>h2 x (by simpa using hx))]
theorem ahu{ls:List Let}{f:Int}{o:List Nat}{i:Nat}{li:Let}{ak:Env}{aj:aw}{Q:dy}(ho:Fo 5184576640 o (ak 3) aj)(h1:ak 1=.one (.aX 5184000000 1 0))(hB:aj 5184000000=(1,some (.var (mh f ls))))(h4:ak 4=vi i)(h5:ak 5=vi 0)
  (uJ:ls[i]?=some li) (aq:∀x∈o,x<ls.length) (hl:o.length<=1000000)
  (hq:∀aA ao,aA 1=ak 1->aA 4=ak 4->ao 5184000000=aj 5184000000->Fo 5184576640 (zT ls o i) (aA 3) ao->Q .normal aA ao):
  W S .all (.loop i81_l1) (lN 2 (xu S .all i81_r2 Q)) ak aj:=by
 have mu:=fv uJ;refine cJ (fun k aA ao=>aA 1=ak 1/\aA 4=ak 4/\aA 3=ak 3/\ao=aj/\aA 5=vi k/\ ∀j x,j<k->o[j]?=some x->Bf ls i x=true) 0 o.length (bj _) ?_ ?_
 .exact⟨rfl,rfl,rfl,rfl,h5,fun j x hj=>absurd hj (mT j)⟩
 rintro k aA ao hk ⟨jE,uE,qf,rfl,Ep,hp⟩
 rw[h1] at jE;rw[h4] at uE;have fin:∀e:Env,e 1=aA 1->e 4=aA 4->e 3=aA 3->e 5=aA 5->(∀x,o[k]?=some x->Bf ls i x=false)->W S .all i81_r2 Q e ao:=by
  intro e e1 e4 e3 e5 jV;have hK:=asG hk hp jV;have kK:Fo 5184576640 o (e 3) ao:=by rw[e3,qf];exact ho
  refine ahr (i:=i) (K:=k) kK (by rw[e4,uE]) (by rw[e5,Ep]) hk hl ?_;intro dp ba q1 q2 q3 q4;refine hq dp ba (by rw[q1,e1,jE,h1]) (by rw[q2,e4,uE,h4]) q3 ?_;unfold zT;rw[hK];exact q4
 by_cases cF:k<o.length
 .obtain⟨x,hx⟩:=aM cF;have qw:=aq x (aW hx);obtain⟨lx,hlx⟩:=aM qw;have jv:=fv hlx;have yn:=iF hx;have aL:((k:Int)<(o.length:Int)):=aa;have w1:=bN (n:=k) aa;have aaU:Bf ls i x=Fe lx li:=by simp[Bf,hlx,uJ]
  have Qy:=anr lx li;rcases ho with ⟨rfl,_⟩|⟨ho,g,h3,hC⟩
  .simp at cF
  rw[h3] at qf;cases hb:Fe lx li with
  |true=>
   rw[hb] at Qy;simp only[go_sem,i81_l1,h1,h3,h4,jE,qf,uE,Ep,hB,hC,aL,yn,jv,mu,Let.ps,cF,w1,s121,kW Qy];refine⟨ah,fun j y hj hy=>?_⟩;rcases lL.1 hj with hj|rfl
   .exact hp j y hj hy
   rw[hx] at hy;cases hy;rw[aaU,hb]
  |false=>rw[hb] at Qy;simp only[go_sem,i81_l1,jE,qf,uE,Ep,hB,hC,aL,yn,jv,mu,Let.ps,cF,s121,kW Qy];refine⟨ah,fin _ ?_ ?_ ?_ ?_ (fun y hy=>by rw[hx] at hy;cases hy;rw[aaU,hb])⟩;all_goals simp only[go_sem,jE,qf,uE,Ep]
 have:k=o.length:=aa;subst this;have dr:∀x,o[o.length]?=some x->Bf ls i x=false:=fun x hx=>by simp at hx
 rcases ho with ⟨rfl,h3⟩|⟨ho,g,h3,hC⟩
 .rw[h3] at qf;simp only[go_sem,i81_l1,qf,Ep,dG];refine⟨ah,fin _ ?_ ?_ ?_ ?_ dr⟩;all_goals simp only[go_sem,jE,qf,uE,Ep]
 rw[h3] at qf;simp only[go_sem,i81_l1,qf,Ep,dG];refine⟨ah,fin _ ?_ ?_ ?_ ?_ dr⟩;all_goals simp only[go_sem,jE,qf,uE,Ep]
theorem amB(ls:List Let)(o:List Nat)(i:Nat):(zT ls o i).length=o.length+1:=by unfold zT;simp only[eG,cS,gT,lX];have:=(List.takeWhile_sublist (Bf ls i) (l:=o)).length_le;omega
theorem Fp{aj:aw}{id g z len ty:Nat}{es:List (List PV)}(h:aj id=(g,some (.arr ty z es)))(hl:len=es.length):gh aj (.one (.hsl id g z 0 len))=some (.one (.own ty z es)):=by subst hl;simp only[gh,nL,kI,kh,gQ,h,bJ,and_self,if_true,kE];rfl
def K9(o:List Nat):RC:=if o=[] then .p .nils else .own 3 1 (nP o)
theorem XJ(f:Int)(ls:List Let)(hl:ls.length<=1000000):aF S 81 [cZ f ls] (.one (K9 (aB ls))):=by
 refine aV c81 ?_;simp only[go_sem,i81];refine cJ (fun k ak aj=>ak 1=.one (.aX 5184000000 1 0)/\aj 5184000000=(1,some (.var (mh f ls)))/\ak 4=vi k/\Fo 5184576640 (nK ls k) (ak 3) aj) 0 ls.length (bj _) ?_ ?_
 .simp only[go_sem];exact⟨rfl,.inl ⟨rfl,rfl⟩⟩
 rintro k ak aj hk ⟨h1,hB,h4,ho⟩
 have eI:=sX ls k;by_cases aq:k<ls.length
 .obtain⟨l,cF⟩:=aM aq;have hi:=fv cF;have aL:((k:Int)<(ls.length:Int)):=aa;have w1:=bN (n:=k) aa;have hs:=Ik ls k;unfold AM at hs;rw[cF] at hs;cases hp:(l.kind==1) with
  |false=>
   have qo:(l.kind !=1)=true:=by simp[bne,hp]
   simp only[Let.aJ,hp] at hs;have hs:nK ls (k+1)=nK ls k:=hs;simp only[go_sem,i81_l4,i81_r3,h1,hB,h4,hi,Let.ps,aL,qo,w1,hs,aq];rcases ho with ⟨e,h3⟩|⟨ho,g,h3,hC⟩
   .exact .inl ⟨e,by simp only[go_sem,h3]⟩
   exact .inr ⟨ho,g,by simp only[go_sem,h3],by simp only[go_sem,hC]⟩
  |true=>
   have qo:(l.kind !=1)=false:=by simp[bne,hp]
   simp only[Let.aJ,hp] at hs;have hs:nK ls (k+1)=zT ls (nK ls k) k:=hs;simp only[go_sem,i81_l4,h1,hB,h4,hi,Let.ps,aL,qo];refine ahu (ls:=ls) (f:=f) (o:=nK ls k) (i:=k) ?_ ?_ ?_ ?_ ?_ cF (fun x hx=>Nat.lt_trans (OL hx) aq) aa ?_
   .rcases ho with ⟨e,h3⟩|⟨ho,g,h3,hC⟩
    .exact .inl ⟨e,by simp only[go_sem,h3]⟩
    exact .inr ⟨ho,g,by simp only[go_sem,h3],by simp only[go_sem,hC]⟩
   .simp only[go_sem,h1]
   .simp only[go_sem,hB]
   .simp only[go_sem,h4]
   .rfl
   intro aA ao q1 q2 q3 q4;simp only[go_sem,h1,h4,hB] at q1 q2 q3;simp only[go_sem,i81_r3,q1,q2,q3,w1,hs,aq];rcases q4 with ⟨e,h3⟩|⟨ho,g,h3,hC⟩
   .exact .inl ⟨e,by simp only[go_sem,h3]⟩
   exact .inr ⟨ho,g,by simp only[go_sem,h3],by simp only[go_sem,hC]⟩
 have:k=ls.length:=aa;subst this;have he:aB ls=nK ls ls.length:=rfl;rw[<- he] at ho;rcases ho with ⟨e,h3⟩|⟨ho,g,h3,hC⟩
 .simp only[go_sem,i81_l4,i81_r5,h1,hB,h3,h4,dG,K9,e]
 simp only[go_sem,i81_l4,i81_r5,h1,hB,h3,h4,dG,K9,ho];exact Fp hC af
def gu(ls:List Let)(ax:List Nat)(d:Nat):Nat:=
 if 2*ls.length<=d then
  if d%2=0 then dT ls.length (ax.getD (((d-2*ls.length)/2+1)%ax.length) 0) (!dn ls (ax.getD (((d-2*ls.length)/2+1)%ax.length) 0))
  else dT ls.length (ax.getD ((d-2*ls.length)/2) 0) (dn ls (ax.getD ((d-2*ls.length)/2) 0))
 else
  let fw:=d%2==0
  let v:=if fw then (d/2+1)%ls.length else d/2
  match ls[v]? with
  |none=>0
  |some l=>if l.kind==2 then dT ls.length (hJ ls v) (fw==(l.over==(l.sign==1)))
   else if dn ls v==fw then 2*ls.length+2*ax.idxOf v else 2*ls.length+2*((ax.idxOf v+ax.length-1)%ax.length)+1
theorem adz{ls:List Let}{i:Nat}(hi:i<ls.length):hJ ls i<ls.length:=by
 unfold hJ;cases h:(List.range ls.length).find? (zZ ls i) with
 |none=>exact hi
 |some k=>
  have:=KS h
  simpa using this
theorem BI{n i:Nat}{fw:Bool}(hi:i<n):dT n i fw<2*n:=by unfold dT;have:=ez (i+n-1) (show 0<n by omega);split<;>omega
theorem Rk{ls:List Let}{ax:List Nat}{d:Nat}(jF:∀x∈ax,x<ls.length)(hp:∀v l,ls[v]?=some l->(l.kind==2)=false->v∈ax)(hd:d<2*ls.length+2*ax.length):gu ls ax d<2*ls.length+2*ax.length:=by
 have Cx:∀k,k<ax.length->ax.getD k 0<ls.length:=fun k hk=>by obtain⟨x,hx⟩:=aM hk;rw[cY,hx];exact jF x (aW hx)
 unfold gu;by_cases h:2*ls.length<=d
 .rw[aD h];have hm:=ez ((d-2*ls.length)/2+1) (show 0<ax.length by omega);by_cases h2:d%2=0
  .rw[aD h2];exact DJ (BI (Cx _ hm)) aa
  rw[ay h2];exact DJ (BI (Cx _ aa)) aa
 rw[ay h];have hn:0<ls.length:=aa;have hv:(if (d%2==0)=true then (d/2+1)%ls.length else d/2)<ls.length:=by
  split
  .exact ez _ hn
  omega
 simp only;generalize (if (d%2==0)=true then (d/2+1)%ls.length else d/2)=v at hv;obtain⟨l,hl⟩:=aM hv;rw[hl];simp only;by_cases hk:(l.kind==2)=true
 .rw[aD hk];exact DJ (BI (adz hv)) aa
 rw[ay hk];have iT:=hp v l hl (by simpa using hk);have GD:ax.idxOf v<ax.length:=Oj.2 iT;have hm:=ez (ax.idxOf v+ax.length-1) (show 0<ax.length by omega);split<;>omega
theorem amq{ax:List Nat}{v:Nat}:∀j,j<ax.idxOf v->ax[j]? ≠some v:=by
 induction ax with
 |nil=>intro j h;simp at h
 |cons a ax ih=>
  intro j h e;rw[WS] at h;by_cases ha:a=v
  .simp[ha] at h
  have hb:(a==v)=false:=by simpa using ha
  rw[hb] at h;cases j with
  |zero=>simp at e;exact ha e
  |succ j=>exact ih j (by simp at h;omega) (by simpa using e)
theorem abc{ax:List Nat}{v:Nat}(h:v∈ax):ax[ax.idxOf v]?=some v:=by have hl:ax.idxOf v<ax.length:=Oj.2 h;rw[oJ hl,WQ hl]
theorem ata(f:Int)(ls:List Let)(ax:List Nat)(d:Nat)(hl:ls.length<=1000000)(gY:ax.length<=1000000)(jF:∀x∈ax,x<ls.length)(hp:∀v l,ls[v]?=some l->(l.kind==2)=false->v∈ax)
  (hd:d<2*ls.length+2*ax.length):aF S 82 [cZ f ls,.one (.p (tv ax)),vi d] (ri (gu ls ax d)):=by
 have m1:IntKind.i64.wrap (2*(ls.length:Int))=((2*ls.length:Nat):Int):=wrap_small (n:=2*ls.length) aa;unfold gu;by_cases h:2*ls.length<=d
 .rw[aD h];refine aV c82 ?_;have h':((2*ls.length:Nat):Int)<=(d:Int):=aa;have m2:IntKind.i64.wrap ((d:Int)-((2*ls.length:Nat):Int))=((d-2*ls.length:Nat):Int):=by
   have:((d:Int)-((2*ls.length:Nat):Int))=((d-2*ls.length:Nat):Int):=aa;rw[this];exact wrap_small aa
  have m3:=wrap_small (n:=(d-2*ls.length)/2) aa;have hm:=ez ((d-2*ls.length)/2+1) (show 0<ax.length by omega);have nv:¬((ax.length:Int)=0):=aa;by_cases h2:d%2=0
  .rw[aD h2];have m4:=bN (n:=(d-2*ls.length)/2) aa;have iS:(((d%2:Nat):Int)==0)=true:=by simp[h2]
   have m5:=um ((d-2*ls.length)/2+1) ax.length;obtain⟨v,hv⟩:=aM hm;have qu:ax.getD (((d-2*ls.length)/2+1)%ax.length) 0=v:=by rw[cY,hv];rfl
   rw[qu];have se:=jF v (aW hv);have rq:=iF hv;have pd:=Ga f ls v hl aa;have pa:=Sq f ls v (!dn ls v) hl se;simp only[go_sem,i82,m1,m2,m3,m4,m5,h',iS,rq,nv,iL,fp,dS,s55,s122,kW pd,gV pa];exact aK
  rw[ay h2];have iS:(((d%2:Nat):Int)==0)=false:=by simp;omega
  obtain⟨v,hv⟩:=aM (ls:=ax) (k:=(d-2*ls.length)/2) aa;have qu:ax.getD ((d-2*ls.length)/2) 0=v:=by rw[cY,hv];rfl
  rw[qu];have se:=jF v (aW hv);have rq:=iF hv;have pd:=Ga f ls v hl aa;have pa:=Sq f ls v (dn ls v) hl se;simp only[go_sem,i82,m1,m2,m3,h',iS,rq,iL,fp,dS,s55,s122,kW pd,gV pa];exact aK
 rw[ay h];have h':¬(((2*ls.length:Nat):Int)<=(d:Int)):=aa;have m3:=wrap_small (n:=d/2) aa;have js:¬((ls.length:Int)=0):=aa;have nv:=ez (d/2+1) (show 0<ls.length by omega);have m4:=bN (n:=d/2) aa;have m5:=um (d/2+1) ls.length;have body:∀v:Nat,v<ls.length->∀fw:Bool,v=(if fw then (d/2+1)%ls.length else d/2)->(d%2==0)=fw->(((d%2:Nat):Int)==0)=fw->aF S 82 [cZ f ls,.one (.p (tv ax)),vi d] (ri ((match ls[v]? with
   |none=>0
   |some l=>if l.kind==2 then dT ls.length (hJ ls v) (fw==(l.over==(l.sign==1)))
    else if dn ls v==fw then 2*ls.length+2*ax.idxOf v else 2*ls.length+2*((ax.idxOf v+ax.length-1)%ax.length)+1:Nat):Int)):=by
  intro v hv fw fm yi re;obtain⟨l,nW⟩:=aM hv;have gG:=fv nW;rw[nW];simp only;refine aV c82 ?_;cases hk:(l.kind==2) with
  |true=>
   have po:=aoP f ls v hl hv;have pa:=Sq f ls (hJ ls v) (fw==(l.over==(l.sign==1))) hl (adz hv);cases fw with
   |true=>have fm:v=(d/2+1)%ls.length:=fm;rw[fm] at gG po pa ⊢;simp only[go_sem,i82,m1,m3,m4,m5,h',re,gG,Let.ps,js,hk,iL,fp,dS,s123,s122,gV po,gV pa];exact aK
   |false=>have fm:v=d/2:=fm;rw[fm] at gG po pa ⊢;simp only[go_sem,i82,m1,m3,h',re,gG,Let.ps,hk,iL,fp,dS,s123,s122,gV po,gV pa];exact aK
  |false=>
   have iT:=hp v l nW hk;have GD:ax.idxOf v<ax.length:=Oj.2 iT;have pat:=at_r ax v (ax.idxOf v) gY (abc iT) amq;have pd:=Ga f ls v hl aa;have Mw:¬((ax.length:Int)=0):=aa;have lT:=ez (ax.idxOf v+ax.length-1) (show 0<ax.length by omega);have n1:=sL (a:=ax.idxOf v) aa;have n2:=wrap_add (a:=2*ls.length) (b:=2*ax.idxOf v) aa;have n3:=wrap_add (a:=ax.idxOf v) (b:=ax.length) aa;have n4:=FL (a:=ax.idxOf v+ax.length) aa aa;have n5:=um (ax.idxOf v+ax.length-1) ax.length;have n6:=sL (a:=(ax.idxOf v+ax.length-1)%ax.length) aa;have n7:=wrap_add (a:=2*ls.length) (b:=2*((ax.idxOf v+ax.length-1)%ax.length)) aa;have n8:=bN (n:=2*ls.length+2*((ax.idxOf v+ax.length-1)%ax.length)) aa;cases fw with
   |true=>
    have fm:v=(d/2+1)%ls.length:=fm;cases dV:dn ls v with
    |true=>rw[dV] at pd;subst fm;simp only[go_sem,i82,m1,m3,m4,m5,h',re,gG,Let.ps,js,hk,iL,fp,dS,s98,s55,dJ pat,bh pd,n1,n2]
    |false=>rw[dV] at pd;subst fm;simp only[go_sem,i82,m1,m3,m4,m5,h',re,gG,Let.ps,js,hk,iL,fp,dS,s98,s55,dJ pat,bh pd,n3,n4,n5,n6,n7,n8,Mw]
   |false=>
    have fm:v=d/2:=fm;cases dV:dn ls v with
    |true=>rw[dV] at pd;subst fm;simp only[go_sem,i82,m1,m3,h',re,gG,Let.ps,hk,iL,fp,dS,s98,s55,dJ pat,bh pd,n3,n4,n5,n6,n7,n8,Mw]
    |false=>rw[dV] at pd;subst fm;simp only[go_sem,i82,m1,m3,h',re,gG,Let.ps,hk,iL,fp,dS,s98,s55,dJ pat,bh pd,n1,n2]
 have se:(if (d%2==0)=true then (d/2+1)%ls.length else d/2)<ls.length:=by
  split
  .exact nv
  omega
 have:=body _ se (d%2==0) rfl rfl (by cases hq:(d%2==0)<;>simp at hq ⊢ <;>omega);exact this
abbrev bP(o:List Bool):List (List PV):=o.map fun b:Bool=>[PV.bool b]
theorem pZ{o:List Bool}{k:Nat}{b:Bool}(h:o[k]?=some b):(bP o)[k]?=some [.bool b]:=by simp[h]
theorem Il(o:List Bool)(k:Nat)(b:Bool):(bP o).set k [.bool b]=bP (o.set k b):=by simp[yM]
def ff(next:Nat->Nat):Nat->Nat->List Bool->List Nat×List Bool
 |0,_,seen=>([],seen)
 |k+1,x,seen=>if seen.getD x true then ([],seen) else (x::(ff next k (next x) (seen.set x true)).1,(ff next k (next x) (seen.set x true)).2)
def yG(s:List Bool):Nat:=s.countP (fun b=> !b)
theorem NV{s:List Bool}{x:Nat}(h:s[x]?=some false):yG (s.set x true)+1=yG s:=by
 induction s generalizing x with
 |nil=>simp at h
 |cons b s ih=>
  cases x with
  |zero=>simp at h;subst h;simp[yG]
  |succ x=>have:=ih (x:=x) (by simpa using h);unfold yG at this ⊢;simp only[List.set_cons_succ,yI];omega
theorem atm(next:Nat->Nat):∀(k x:Nat) (s:List Bool),(ff next k x s).2.length=s.length:=by
 intro k
 induction k with
 |zero=>intro x s;rfl
 |succ k ih=>
  intro x s;unfold ff;split
  .rfl
  simp[ih]
def uX(next:Nat->Nat)(st:List (List Nat)×List Bool)(d:Nat):List (List Nat)×List Bool:=if st.2.getD d true then st else (st.1++[(ff next (st.2.length+1) d st.2).1],(ff next (st.2.length+1) d st.2).2)
def dz(next:Nat->Nat)(N k:Nat):List (List Nat)×List Bool:=(List.range k).foldl (uX next) ([],List.replicate N false)
def eh(next:Nat->Nat)(N:Nat):List (List Nat):=(dz next N N).1
theorem yH(next:Nat->Nat)(N k:Nat):dz next N (k+1)=uX next (dz next N k) k:=by unfold dz;rw[uZ,Av];rfl
theorem HH(next:Nat->Nat)(N:Nat):∀k,(dz next N k).2.length=N:=by
 intro k
 induction k with
 |zero=>simp[dz]
 |succ k ih=>
  rw[yH];unfold uX;split
  .exact ih
  simp[atm,ih]
theorem atu(next:Nat->Nat)(N k:Nat)(hk:1<=k)(hN:1<=N):(dz next N k).1≠[]:=by
 induction k with
 |zero=>omega
 |succ k ih=>
  rw[yH];by_cases h0:k=0
  .subst h0;have hz:(dz next N 0)=([],List.replicate N false):=rfl;have hg:(List.replicate N false).getD 0 true=false:=by
    obtain⟨n,rfl⟩:∃n,N=n+1:=⟨N-1,aa⟩;rfl
   rw[hz];unfold uX;simp only[hg];simp
  have:=ih aa;unfold uX;split
  .exact this
  simp
theorem KD(next:Nat->Nat)(N:Nat):∀k,(dz next N k).1.length<=k:=by
 intro k
 induction k with
 |zero=>simp[dz]
 |succ k ih=>
  rw[yH];unfold uX;split
  .omega
  simp;exact ih
theorem KB(s:List Bool):yG s<=s.length:=WJ
theorem atp{f:Int}{ls:List Let}{ax:List Nat}(hl:ls.length<=1000000)(gY:ax.length<=1000000)(jF:∀x∈ax,x<ls.length)(hp:∀v l,ls[v]?=some l->(l.kind==2)=false->v∈ax){Q:dy}:
  ∀(fuel x:Nat) (sn:List Bool) (w:List Nat) (ak:Env) (aj:aw),ak 1=.one (.aX 3008000000 1 0)->aj 3008000000=(1,some (.var (mh f ls)))->
   ak 4=.one (.hsl 3008128064 1 1 0 ax.length)->aj 3008128064=(1,some (.arr 3 1 (nP ax)))->ak 5=.one (.hsl 3008192512 1 1 0 sn.length)->aj 3008192512=(1,some (.arr 4 1 (bP sn)))->
   Fo 3008832192 w (ak 7) aj->ak 8=vi x->x<sn.length->sn.length=2*ls.length+2*ax.length->yG sn<fuel->w.length+yG sn<=5000000->
   (∀aA ao,aA 1=ak 1->aA 3=ak 3->aA 4=ak 4->aA 5=ak 5->aA 6=ak 6->ao 3008000000=aj 3008000000->ao 3008128064=aj 3008128064->ao 3008896192=aj 3008896192->ao 3008896128=aj 3008896128->
    ao 3008192512=(1,some (.arr 4 1 (bP (ff (gu ls ax) fuel x sn).2)))->Fo 3008832192 (w++(ff (gu ls ax) fuel x sn).1) (aA 7) ao->Q .normal aA ao)->
   W S .all (.loop i47_l1) (lN 2 Q) ak aj:=by
 intro fuel
 induction fuel with
 |zero=>intro x sn w ak aj _ _ _ _ _ _ _ _ _ _ h;omega
 |succ fuel ih=>
  intro x sn w ak aj h1 hB h4 hA h5 hS ho h8 hx hsl hu hw hq;obtain⟨b,hb⟩:=aM hx;have kJ:=pZ hb;have wJ:sn.getD x true=b:=by rw[cY,hb];rfl
  unfold ff at hq;rw[wJ] at hq;refine kG ?_;cases b with
  |true=>
   simp only[go_sem,i47_l1,h5,hS,h8,hx,kJ];refine hq _ _ ?_ ?_ ?_ ?_ ?_ rfl rfl rfl rfl hS ?_;all_goals simp only[go_sem]
   exact ho
  |false=>
   have ER:=NV hb;have pt:=ata f ls ax x hl gY jF hp aa;have gj:=Rk (d:=x) jF hp aa;have gK:=Il sn x true;have j9:∀n:Nat,n<=5000001->n*8<=140737488355328:=fun n hn=>aa;have GR:List.take ax.length (nP ax)=nP ax:=dD af;rcases ho with ⟨rfl,h7⟩|⟨PT,g,h7,hC⟩
   .simp only[go_sem,i47_l1,h1,hB,h4,hA,h5,hS,h7,h8,hx,kJ,gK,GR,s82,dJ pt,eF,eo];refine ih (gu ls ax x) (sn.set x true) [x] _ _ ?_ ?_ ?_ ?_ ?_ ?_ ?_ ?_ (by simpa [hsl] using gj) (by simpa using hsl) aa (by simp;omega) ?_
    .simp only[go_sem,h1]
    .simp only[go_sem,hB]
    .simp only[go_sem,h4]
    .simp only[go_sem,hA]
    .simp only[go_sem,h5,tE]
    .simp only[go_sem]
    .simp only[go_sem];exact .inr ⟨af,_,rfl,rfl⟩
    .simp only[go_sem]
    intro aA ao q1 q3 q4 q5 q6 b1 b2 b3 b4 b5 b6;refine hq aA ao ?_ ?_ ?_ ?_ ?_ ?_ ?_ ?_ ?_ b5 ?_
    .rw[q1];simp only[go_sem]
    .rw[q3];simp only[go_sem]
    .rw[q4];simp only[go_sem]
    .rw[q5];simp only[go_sem]
    .rw[q6];simp only[go_sem]
    .rw[b1];simp only[go_sem]
    .rw[b2];simp only[go_sem]
    .rw[b3];simp only[go_sem]
    .rw[b4];simp only[go_sem]
    simpa using b6
   have ud:List.take w.length (nP w)=nP w:=dD af;have ig:=j9 (w.length+1) aa;simp only[go_sem,i47_l1,h1,hB,h4,hA,h5,hS,h7,h8,hx,kJ,gK,GR,s82,dJ pt,hC,ud,ig,eF,eo];refine ih (gu ls ax x) (sn.set x true) (w++[x]) _ _ ?_ ?_ ?_ ?_ ?_ ?_ ?_ ?_ (by simpa [hsl] using gj) (by simpa using hsl) aa (by simp;omega) ?_
   .simp only[go_sem,h1]
   .simp only[go_sem,hB]
   .simp only[go_sem,h4]
   .simp only[go_sem,hA]
   .simp only[go_sem,h5,tE]
   .simp only[go_sem]
   .simp only[go_sem];exact .inr ⟨af,g+1,af,by simp[aN]⟩
   .simp only[go_sem]
   intro aA ao q1 q3 q4 q5 q6 b1 b2 b3 b4 b5 b6;refine hq aA ao ?_ ?_ ?_ ?_ ?_ ?_ ?_ ?_ ?_ b5 ?_
   .rw[q1];simp only[go_sem]
   .rw[q3];simp only[go_sem]
   .rw[q4];simp only[go_sem]
   .rw[q5];simp only[go_sem]
   .rw[q6];simp only[go_sem]
   .rw[b1];simp only[go_sem]
   .rw[b2];simp only[go_sem]
   .rw[b3];simp only[go_sem]
   .rw[b4];simp only[go_sem]
   simpa using b6
def outW(site:Nat)(o:List (List Nat))(v:V)(aj:aw):Prop:=(o=[]/\v=.one (.p .nils))\/(o≠[]/\ ∃g,v=.one (.hsl site g 1 0 o.length)/\aj site=(g,some (.arr 119 1 (o.map fun w=>[tv w]))))
theorem afK(f:Int)(ls:List Let)(hl:ls.length<=1000000)(aI:aB ls≠[])(hp:∀v l,ls[v]?=some l->(l.kind==2)=false->v∈aB ls):
  aF S 47 [cZ f ls] (.one (.own 119 1 ((eh (gu ls (aB ls)) (2*ls.length+2*(aB ls).length)).map fun w=>[tv w]))):=by
 have pa:=XJ f ls hl;have jF:∀x∈aB ls,x<ls.length:=fun x h=>OL h;have gY:(aB ls).length<=ls.length:=sX ls ls.length;unfold K9 at pa;rw[ay aI] at pa;generalize aB ls=ax at aI hp pa jF gY;have m1:=sL (a:=ls.length) aa;have m2:=sL (a:=ax.length) aa;have m3:=wrap_add (a:=2*ls.length) (b:=2*ax.length) aa;have lk:(nP ax).length=ax.length:=af;have j9:2*ls.length+2*ax.length<=140737488355328:=aa;have zO:List.replicate (2*ls.length+2*ax.length) [PV.bool false]=bP (List.replicate (2*ls.length+2*ax.length) false):=af
 refine aV c47 ?_;have alu:∀(aj:aw),land aj [] 3008128064 ((RV.one (.own 3 1 (nP ax))).eD (S.lone 3008128064))=some (.one (.hsl 3008128064 ((aj 3008128064).1+1) 1 0 ax.length),[(3008128064,((aj 3008128064).1+1,some (.arr 3 1 (nP ax))))]):=by intro aj;have eJ:S.lone 3008128064=false:=ah;rw[eJ];simp only[RV.eD,land,true_or,if_true,ji,iR,jq,jH,dF,ui,oD,cH,mR]
 simp only[go_sem,i47,s81,cU pa (alu _),m1,m2,m3,j9,zO];generalize hN:2*ls.length+2*ax.length=N at j9;refine cJ (fun k ak aj=>ak 1=.one (.aX 3008000000 1 0)/\aj 3008000000=(1,some (.var (mh f ls)))/\ak 4=.one (.hsl 3008128064 1 1 0 ax.length)/\aj 3008128064=(1,some (.arr 3 1 (nP ax)))/\
   ak 5=.one (.hsl 3008192512 1 1 0 N)/\aj 3008192512=(1,some (.arr 4 1 (bP (dz (gu ls ax) N k).2)))/\ak 6=vi k/\outW 3008896192 (dz (gu ls ax) N k).1 (ak 3) aj) 0 N (bj _) ?_ ?_
 .simp only[go_sem];exact⟨rfl,rfl,.inl ⟨rfl,rfl⟩⟩
 rintro k ak aj hk ⟨h1,hB,h4,hA,h5,hS,h6,ho⟩
 have hlen:=HH (gu ls ax) N k;have EJ:=KD (gu ls ax) N k;by_cases aq:k<N
 .have aL:((k:Int)<(N:Int)):=aa;have w1:=bN (n:=k) aa;have hs:=yH (gu ls ax) N k;generalize cM:dz (gu ls ax) N k=st at hlen hs ho hS EJ;obtain⟨out,sn⟩:=st;simp only at hlen ho hS EJ;obtain⟨b,hb⟩:=aM (ls:=sn) (k:=k) aa;have kJ:=pZ hb;unfold uX at hs;have wJ:sn.getD k true=b:=by rw[cY,hb];rfl
  simp only[wJ] at hs;cases b with
  |true=>have hs:dz (gu ls ax) N (k+1)=(out,sn):=hs;simp only[go_sem,i47_l4,i47_r3,h1,hB,h4,hA,h5,hS,h6,aq,aL,kJ,w1,hs];exact ho
  |false=>
   have hs:dz (gu ls ax) N (k+1)=(out++[(ff (gu ls ax) (N+1) k sn).1],(ff (gu ls ax) (N+1) k sn).2):=by rw[hs,hlen];rfl
   have hul:=KB sn;simp only[go_sem,i47_l4,h5,hS,h6,aq,aL,kJ];refine atp (f:=f) hl aa jF hp (N+1) k sn [] _ _ ?_ ?_ ?_ ?_ ?_ ?_ ?_ ?_ aa aa aa (by simp;omega) ?_
   .simp only[go_sem,h1]
   .simp only[go_sem,hB]
   .simp only[go_sem,h4]
   .simp only[go_sem,hA]
   .simp only[go_sem,h5,hlen]
   .simp only[go_sem,hS]
   .exact .inl ⟨rfl,by simp only[go_sem]⟩
   .simp only[go_sem]
   intro aA ao q1 q3 q4 q5 q6 b1 b2 b3 b4 b5 b6;simp only[go_sem,h1,h4,h5,h6] at q1 q3 q4 q5 q6;simp only[go_sem,hB,hA] at b1 b2 b3 b4;have PT:(ff (gu ls ax) (N+1) k sn).1≠[]:=by unfold ff;rw[wJ];simp
   rw[nH] at b6;rcases b6 with ⟨e,_⟩|⟨_,g,h7,hC⟩
   .exact(PT e).elim
   generalize ff (gu ls ax) (N+1) k sn=wf at hs PT b5 h7 hC;obtain⟨w,gR⟩:=wf;simp only at hs PT b5 h7 hC;have ud:List.take w.length (nP w)=nP w:=dD af;rcases ho with ⟨rfl,h3⟩|⟨ho,go,h3,hO⟩
   .rw[h3] at q3;simp only[go_sem,i47_r2,i47_r3,q1,q3,q4,q5,q6,b1,b2,b5,h7,hC,ud,w1,hs,aq,xN,eF,eo];exact .inr ⟨af,_,rfl,by simp[aN]⟩
   rw[h3] at q3;have EP:List.take out.length (out.map fun w=>[tv w])=out.map fun w=>[tv w]:=dD af;have ig:(out.length+1)*24<=140737488355328:=aa;simp only[go_sem,i47_r2,i47_r3,q1,q3,q4,q5,q6,b1,b2,b3,b5,h7,hC,hO,ud,EP,ig,w1,hs,aq,xN,cI,eF,eo];exact .inr ⟨af,go+1,af,by simp[aN]⟩
 have:k=N:=aa;subst this;have he:eh (gu ls ax) k=(dz (gu ls ax) k k).1:=rfl;rw[<- he] at ho;rcases ho with ⟨e,h3⟩|⟨ho,g,h3,hC⟩
 .exact(atu (gu ls ax) k k (by have:=jl.2 aI;omega) (by have:=jl.2 aI;omega) e).elim
 simp only[go_sem,i47_l4,i47_r5,h3,h5,h6,dG];exact Fp hC af
abbrev M7(l:Let):List C:=[.p (.int .i64 l.kind),.p (.int .i64 l.gate),.p (.int .i64 l.aE),.p (.int .i64 l.id),.p (.int .i64 l.sign),.p (.bool l.over)]
def iJ(l o:Let):Bool:=(o.kind==l.kind&&o.gate==l.gate)&&o.aE==l.aE
def hU(l o:Let):Bool:=((o.kind==l.kind&&o.id==l.id)&&o.sign==l.sign)&& !(o.over==l.over)
def vH(f:Int)(ls:List Let)(l:Let):Bool:= !(((((((l.id !=0||l.sign !=0)||l.over)||decide (l.gate<0))||decide (f<l.gate))||decide (l.aE<1))||decide ((aC (nZ l.gate) ls:Int)<l.aE))||(((aC (iJ l) ls:Nat):Int)!=1))
def lV(ls:List Let)(l:Let):Bool:= !((((((l.gate !=0||l.aE !=0)||(l.sign !=1&&l.sign != -1))||decide (l.id<1))||decide (((aC Let.aG ls/2:Nat):Int)<l.id))||(((aC (hU l) ls:Nat):Int)!=1))||(((aC (lu l.id) ls:Nat):Int)!=2))
def eK(f:Int)(ls:List Let)(l:Let):Bool:=if l.kind==1 then vH f ls l else if l.kind==2 then lV ls l else false
theorem anG{f:Int}{ls:List Let}{l:Let}{g i:Nat}{ak:Env}{aj:aw}{Q:dy}(hl:ls.length<=1000000)(h1:ak 1=.one (.aX 2944000000 1 0))(hB:aj 2944000000=(1,some (.var (mh f ls))))(h3:ak 3=vi i)(h4:ak 4=.one (.aX 2944256320 g 0))(hL:aj 2944256320=(g,some (.var (M7 l))))
  (h5:ak 5=vi 0) (h6:ak 6=vi 0) (h7:ak 7=vi 0)
  (hq:∀aA ao,aA 1=ak 1->aA 3=ak 3->aA 4=ak 4->ao 2944000000=aj 2944000000->ao 2944256320=aj 2944256320->aA 5=vi (aC (iJ l) ls)->aA 6=vi (aC (hU l) ls)->Q .normal aA ao):
  W S .all (.loop i46_l1) (lN 2 Q) ak aj:=by
 refine cJ (fun k aA ao=>aA 1=.one (.aX 2944000000 1 0)/\ao 2944000000=(1,some (.var (mh f ls)))/\aA 3=vi i/\aA 4=.one (.aX 2944256320 g 0)/\ao 2944256320=(g,some (.var (M7 l)))/\
   aA 5=vi (aC (iJ l) (ls.take k))/\aA 6=vi (aC (hU l) (ls.take k))/\aA 7=vi k) 0 ls.length (bj _) ?_ ?_
 .exact⟨h1,hB,h3,h4,hL,h5,h6,h7⟩
 rintro k aA ao hk ⟨g1,gB,g3,g4,gL,g5,g6,g7⟩
 by_cases aq:k<ls.length
 .obtain⟨o,ho⟩:=aM aq;have hi:=fv ho;have aL:((k:Int)<(ls.length:Int)):=aa;have b5:=y7 (iJ l) ls k;have b6:=y7 (hU l) ls k;have w1:=bN (n:=k) aa;have w5:=bN (n:=aC (iJ l) (ls.take k)) aa;have w6:=bN (n:=aC (hU l) (ls.take k)) aa;cases e0:(o.kind==l.kind) with
  |true=>
   cases e1:(o.gate==l.gate) with
   |true=>
    cases e2:(o.aE==l.aE) with
    |true=>
     cases e3:(o.id==l.id) with
     |true=>
      cases e4:(o.sign==l.sign) with
      |true=>
       cases e5:(o.over==l.over) with
       |true=>have c5:=sZ (p:=iJ l) ho (by simp only[iJ,e0,e1,e2];rfl);have c6:=jB (p:=hU l) ho (by simp only[hU,e0,e3,e4,e5];rfl);simp only[go_sem,i46_l1,g1,gB,g3,g4,gL,g5,g6,g7,hi,Let.ps,aL,w1,w5,e0,e1,e2,e3,e4,e5,c5,c6];first|exact aq|exact⟨aq,rfl⟩|exact⟨aq,rfl,rfl⟩
       |false=>have c5:=sZ (p:=iJ l) ho (by simp only[iJ,e0,e1,e2];rfl);have c6:=sZ (p:=hU l) ho (by simp only[hU,e0,e3,e4,e5];rfl);simp only[go_sem,i46_l1,g1,gB,g3,g4,gL,g5,g6,g7,hi,Let.ps,aL,w1,w5,w6,e0,e1,e2,e3,e4,e5,c5,c6];first|exact aq|exact⟨aq,rfl⟩|exact⟨aq,rfl,rfl⟩
      |false=>have c5:=sZ (p:=iJ l) ho (by simp only[iJ,e0,e1,e2];rfl);have c6:=jB (p:=hU l) ho (by simp only[hU,e0,e3,e4];rfl);simp only[go_sem,i46_l1,g1,gB,g3,g4,gL,g5,g6,g7,hi,Let.ps,aL,w1,w5,e0,e1,e2,e3,e4,c5,c6];first|exact aq|exact⟨aq,rfl⟩|exact⟨aq,rfl,rfl⟩
     |false=>have c5:=sZ (p:=iJ l) ho (by simp only[iJ,e0,e1,e2];rfl);have c6:=jB (p:=hU l) ho (by simp only[hU,e0,e3];rfl);simp only[go_sem,i46_l1,g1,gB,g3,g4,gL,g5,g6,g7,hi,Let.ps,aL,w1,w5,e0,e1,e2,e3,c5,c6];first|exact aq|exact⟨aq,rfl⟩|exact⟨aq,rfl,rfl⟩
    |false=>
     cases e3:(o.id==l.id) with
     |true=>
      cases e4:(o.sign==l.sign) with
      |true=>
       cases e5:(o.over==l.over) with
       |true=>have c5:=jB (p:=iJ l) ho (by simp only[iJ,e0,e1,e2];rfl);have c6:=jB (p:=hU l) ho (by simp only[hU,e0,e3,e4,e5];rfl);simp only[go_sem,i46_l1,g1,gB,g3,g4,gL,g5,g6,g7,hi,Let.ps,aL,w1,e0,e1,e2,e3,e4,e5,c5,c6];first|exact aq|exact⟨aq,rfl⟩|exact⟨aq,rfl,rfl⟩
       |false=>have c5:=jB (p:=iJ l) ho (by simp only[iJ,e0,e1,e2];rfl);have c6:=sZ (p:=hU l) ho (by simp only[hU,e0,e3,e4,e5];rfl);simp only[go_sem,i46_l1,g1,gB,g3,g4,gL,g5,g6,g7,hi,Let.ps,aL,w1,w6,e0,e1,e2,e3,e4,e5,c5,c6];first|exact aq|exact⟨aq,rfl⟩|exact⟨aq,rfl,rfl⟩
      |false=>have c5:=jB (p:=iJ l) ho (by simp only[iJ,e0,e1,e2];rfl);have c6:=jB (p:=hU l) ho (by simp only[hU,e0,e3,e4];rfl);simp only[go_sem,i46_l1,g1,gB,g3,g4,gL,g5,g6,g7,hi,Let.ps,aL,w1,e0,e1,e2,e3,e4,c5,c6];first|exact aq|exact⟨aq,rfl⟩|exact⟨aq,rfl,rfl⟩
     |false=>have c5:=jB (p:=iJ l) ho (by simp only[iJ,e0,e1,e2];rfl);have c6:=jB (p:=hU l) ho (by simp only[hU,e0,e3];rfl);simp only[go_sem,i46_l1,g1,gB,g3,g4,gL,g5,g6,g7,hi,Let.ps,aL,w1,e0,e1,e2,e3,c5,c6];first|exact aq|exact⟨aq,rfl⟩|exact⟨aq,rfl,rfl⟩
   |false=>
    cases e3:(o.id==l.id) with
    |true=>
     cases e4:(o.sign==l.sign) with
     |true=>
      cases e5:(o.over==l.over) with
      |true=>have c5:=jB (p:=iJ l) ho (by simp only[iJ,e0,e1];rfl);have c6:=jB (p:=hU l) ho (by simp only[hU,e0,e3,e4,e5];rfl);simp only[go_sem,i46_l1,g1,gB,g3,g4,gL,g5,g6,g7,hi,Let.ps,aL,w1,e0,e1,e3,e4,e5,c5,c6];first|exact aq|exact⟨aq,rfl⟩|exact⟨aq,rfl,rfl⟩
      |false=>have c5:=jB (p:=iJ l) ho (by simp only[iJ,e0,e1];rfl);have c6:=sZ (p:=hU l) ho (by simp only[hU,e0,e3,e4,e5];rfl);simp only[go_sem,i46_l1,g1,gB,g3,g4,gL,g5,g6,g7,hi,Let.ps,aL,w1,w6,e0,e1,e3,e4,e5,c5,c6];first|exact aq|exact⟨aq,rfl⟩|exact⟨aq,rfl,rfl⟩
     |false=>have c5:=jB (p:=iJ l) ho (by simp only[iJ,e0,e1];rfl);have c6:=jB (p:=hU l) ho (by simp only[hU,e0,e3,e4];rfl);simp only[go_sem,i46_l1,g1,gB,g3,g4,gL,g5,g6,g7,hi,Let.ps,aL,w1,e0,e1,e3,e4,c5,c6];first|exact aq|exact⟨aq,rfl⟩|exact⟨aq,rfl,rfl⟩
    |false=>have c5:=jB (p:=iJ l) ho (by simp only[iJ,e0,e1];rfl);have c6:=jB (p:=hU l) ho (by simp only[hU,e0,e3];rfl);simp only[go_sem,i46_l1,g1,gB,g3,g4,gL,g5,g6,g7,hi,Let.ps,aL,w1,e0,e1,e3,c5,c6];first|exact aq|exact⟨aq,rfl⟩|exact⟨aq,rfl,rfl⟩
  |false=>have c5:=jB (p:=iJ l) ho (by simp only[iJ,e0];rfl);have c6:=jB (p:=hU l) ho (by simp only[hU,e0];rfl);simp only[go_sem,i46_l1,g1,gB,g3,g4,gL,g5,g6,g7,hi,Let.ps,aL,w1,e0,c5,c6];first|exact aq|exact⟨aq,rfl⟩|exact⟨aq,rfl,rfl⟩
 have:k=ls.length:=aa;subst this;rw[kE] at g5 g6;simp only[go_sem,i46_l1,g1,gB,g7,dG];refine hq _ _ ?_ ?_ ?_ ?_ ?_ ?_ ?_;all_goals simp only[go_sem,g1,gB,g3,g4,gL,g5,g6,h1,hB,h3,h4,hL]
theorem anH{f:Int}{ls:List Let}{l:Let}{g i:Nat}{ak:Env}{aj:aw}{Q:dy}(hl:ls.length<=1000000)(h1:ak 1=.one (.aX 2944000000 1 0))(hB:aj 2944000000=(1,some (.var (mh f ls))))(h3:ak 3=vi i)(h4:ak 4=.one (.aX 2944256320 g 0))(hL:aj 2944256320=(g,some (.var (M7 l))))
  (h5:ak 5=vi (aC (iJ l) ls)) (h6:ak 6=vi (aC (hU l) ls))
  (hq:eK f ls l=true->∀aA,aA 1=ak 1->aA 3=ak 3->Q .normal aA aj) (hr:eK f ls l=false->∀aA,aA 2=.one (.p (.bool false))->Q .ret aA aj):
  W S .all i46_r2 Q ak aj:=by
 have pin:=in_r f ls hl l.gate;have pvi:=Wu f ls hl;have pti:=asU f ls hl l.id;have hcv:=oU Let.aG ls;have wv:=wrap_small (n:=aC Let.aG ls/2) aa;cases k1:(l.kind==1) with
 |true=>
  cases a1:(l.id !=0) with
  |true=>
   have au:eK f ls l=false:=by simp only[eK,k1,vH,a1];rfl
   simp only[go_sem,i46_r2,h4,hL,k1,a1];refine⟨ah,hr au _ ?_⟩;simp only[go_sem]
  |false=>
   cases a2:(l.sign !=0) with
   |true=>
    have au:eK f ls l=false:=by simp only[eK,k1,vH,a1,a2];rfl
    simp only[go_sem,i46_r2,h4,hL,k1,a1,a2];refine⟨ah,hr au _ ?_⟩;simp only[go_sem]
   |false=>
    cases a3:(l.over) with
    |true=>
     have au:eK f ls l=false:=by simp only[eK,k1,vH,a1,a2,a3];rfl
     simp only[go_sem,i46_r2,h4,hL,k1,a1,a2,a3];refine⟨ah,hr au _ ?_⟩;simp only[go_sem]
    |false=>
     cases a4:(decide (l.gate<0)) with
     |true=>
      have yS:(l.gate<0):=l7 a4;have au:eK f ls l=false:=by simp only[eK,k1,vH,a1,a2,a3,a4];rfl
      simp only[go_sem,i46_r2,h4,hL,k1,a1,a2,a3,yS];refine⟨ah,hr au _ ?_⟩;simp only[go_sem]
     |false=>
      cases a5:(decide (f<l.gate)) with
      |true=>
       have yS:¬(l.gate<0):=fA a4;have ko:(f<l.gate):=l7 a5;have au:eK f ls l=false:=by simp only[eK,k1,vH,a1,a2,a3,a4,a5];rfl
       simp only[go_sem,i46_r2,h1,hB,h4,hL,k1,a1,a2,a3,yS,ko];refine⟨ah,hr au _ ?_⟩;simp only[go_sem]
      |false=>
       cases a6:(decide (l.aE<1)) with
       |true=>
        have yS:¬(l.gate<0):=fA a4;have ko:¬(f<l.gate):=fA a5;have mW:(l.aE<1):=l7 a6;have au:eK f ls l=false:=by simp only[eK,k1,vH,a1,a2,a3,a4,a5,a6];rfl
        simp only[go_sem,i46_r2,h1,hB,h4,hL,k1,a1,a2,a3,yS,ko,mW];refine⟨ah,hr au _ ?_⟩;simp only[go_sem]
       |false=>
        cases a7:(decide ((aC (nZ l.gate) ls:Int)<l.aE)) with
        |true=>
         have yS:¬(l.gate<0):=fA a4;have ko:¬(f<l.gate):=fA a5;have mW:¬(l.aE<1):=fA a6;have K5:((aC (nZ l.gate) ls:Int)<l.aE):=l7 a7;have au:eK f ls l=false:=by simp only[eK,k1,vH,a1,a2,a3,a4,a5,a6,a7];rfl
         simp only[go_sem,i46_r2,h1,hB,h4,hL,s79,gV pin,k1,a1,a2,a3,yS,ko,mW,K5];refine⟨ah,hr au _ ?_⟩;simp only[go_sem]
        |false=>
         cases a8:(((aC (iJ l) ls:Nat):Int)!=1) with
         |true=>
          have yS:¬(l.gate<0):=fA a4;have ko:¬(f<l.gate):=fA a5;have mW:¬(l.aE<1):=fA a6;have K5:¬((aC (nZ l.gate) ls:Int)<l.aE):=fA a7;have au:eK f ls l=false:=by simp only[eK,k1,vH,a1,a2,a3,a4,a5,a6,a7,a8];rfl
          simp only[go_sem,i46_r2,h1,hB,h4,hL,h5,s79,gV pin,k1,a1,a2,a3,yS,ko,mW,K5,a8];refine⟨ah,hr au _ ?_⟩;simp only[go_sem]
         |false=>
          have yS:¬(l.gate<0):=fA a4;have ko:¬(f<l.gate):=fA a5;have mW:¬(l.aE<1):=fA a6;have K5:¬((aC (nZ l.gate) ls:Int)<l.aE):=fA a7;have au:eK f ls l=true:=by simp only[eK,k1,vH,a1,a2,a3,a4,a5,a6,a7,a8];rfl
          simp only[go_sem,i46_r2,h1,hB,h4,hL,h5,s79,gV pin,k1,a1,a2,a3,yS,ko,mW,K5,a8];refine⟨ah,hq au _ ?_ ?_⟩;all_goals simp only[go_sem]
 |false=>
  cases k2:(l.kind==2) with
  |true=>
   cases a1:(l.gate !=0) with
   |true=>
    have au:eK f ls l=false:=by simp only[eK,k1,k2,lV,a1];rfl
    simp only[go_sem,i46_r2,h4,hL,k1,k2,a1];refine⟨ah,hr au _ ?_⟩;simp only[go_sem]
   |false=>
    cases a2:(l.aE !=0) with
    |true=>
     have au:eK f ls l=false:=by simp only[eK,k1,k2,lV,a1,a2];rfl
     simp only[go_sem,i46_r2,h4,hL,k1,k2,a1,a2];refine⟨ah,hr au _ ?_⟩;simp only[go_sem]
    |false=>
     cases a3:(l.sign !=1) with
     |true=>
      cases a4:(l.sign != -1) with
      |true=>
       have au:eK f ls l=false:=by simp only[eK,k1,k2,lV,a1,a2,a3,a4];rfl
       simp only[go_sem,i46_r2,h4,hL,k1,k2,a1,a2,a3,a4];refine⟨ah,hr au _ ?_⟩;simp only[go_sem]
      |false=>
       cases a5:(decide (l.id<1)) with
       |true=>
        have ko:(l.id<1):=l7 a5;have au:eK f ls l=false:=by simp only[eK,k1,k2,lV,a1,a2,a3,a4,a5];rfl
        simp only[go_sem,i46_r2,h4,hL,k1,k2,a1,a2,a3,a4,ko];refine⟨ah,hr au _ ?_⟩;simp only[go_sem]
       |false=>
        cases a6:(decide (((aC Let.aG ls/2:Nat):Int)<l.id)) with
        |true=>
         have ko:¬(l.id<1):=fA a5;have mW:(((aC Let.aG ls/2:Nat):Int)<l.id):=l7 a6;have au:eK f ls l=false:=by simp only[eK,k1,k2,lV,a1,a2,a3,a4,a5,a6];rfl
         simp only[go_sem,i46_r2,h1,hB,h4,hL,s44,gV pvi,fp,dS,wv,k1,k2,a1,a2,a3,a4,ko,mW];refine⟨ah,hr au _ ?_⟩;simp only[go_sem]
        |false=>
         cases a7:(((aC (hU l) ls:Nat):Int)!=1) with
         |true=>
          have ko:¬(l.id<1):=fA a5;have mW:¬(((aC Let.aG ls/2:Nat):Int)<l.id):=fA a6;have au:eK f ls l=false:=by simp only[eK,k1,k2,lV,a1,a2,a3,a4,a5,a6,a7];rfl
          simp only[go_sem,i46_r2,h1,hB,h4,hL,h6,s44,gV pvi,fp,dS,wv,k1,k2,a1,a2,a3,a4,ko,mW,a7];refine⟨ah,hr au _ ?_⟩;simp only[go_sem]
         |false=>
          cases a8:(((aC (lu l.id) ls:Nat):Int)!=2) with
          |true=>
           have ko:¬(l.id<1):=fA a5;have mW:¬(((aC Let.aG ls/2:Nat):Int)<l.id):=fA a6;have au:eK f ls l=false:=by simp only[eK,k1,k2,lV,a1,a2,a3,a4,a5,a6,a7,a8];rfl
           simp only[go_sem,i46_r2,h1,hB,h4,hL,h6,s44,s80,gV pvi,gV pti,fp,dS,wv,k1,k2,a1,a2,a3,a4,ko,mW,a7,a8];refine⟨ah,hr au _ ?_⟩;simp only[go_sem]
          |false=>
           have ko:¬(l.id<1):=fA a5;have mW:¬(((aC Let.aG ls/2:Nat):Int)<l.id):=fA a6;have au:eK f ls l=true:=by simp only[eK,k1,k2,lV,a1,a2,a3,a4,a5,a6,a7,a8];rfl
           simp only[go_sem,i46_r2,h1,hB,h4,hL,h6,s44,s80,gV pvi,gV pti,fp,dS,wv,k1,k2,a1,a2,a3,a4,ko,mW,a7,a8];refine⟨ah,hq au _ ?_ ?_⟩;all_goals simp only[go_sem]
     |false=>
      cases a5:(decide (l.id<1)) with
      |true=>
       have ko:(l.id<1):=l7 a5;have au:eK f ls l=false:=by simp only[eK,k1,k2,lV,a1,a2,a3,a5];rfl
       simp only[go_sem,i46_r2,h4,hL,k1,k2,a1,a2,a3,ko];refine⟨ah,hr au _ ?_⟩;simp only[go_sem]
      |false=>
       cases a6:(decide (((aC Let.aG ls/2:Nat):Int)<l.id)) with
       |true=>
        have ko:¬(l.id<1):=fA a5;have mW:(((aC Let.aG ls/2:Nat):Int)<l.id):=l7 a6;have au:eK f ls l=false:=by simp only[eK,k1,k2,lV,a1,a2,a3,a5,a6];rfl
        simp only[go_sem,i46_r2,h1,hB,h4,hL,s44,gV pvi,fp,dS,wv,k1,k2,a1,a2,a3,ko,mW];refine⟨ah,hr au _ ?_⟩;simp only[go_sem]
       |false=>
        cases a7:(((aC (hU l) ls:Nat):Int)!=1) with
        |true=>
         have ko:¬(l.id<1):=fA a5;have mW:¬(((aC Let.aG ls/2:Nat):Int)<l.id):=fA a6;have au:eK f ls l=false:=by simp only[eK,k1,k2,lV,a1,a2,a3,a5,a6,a7];rfl
         simp only[go_sem,i46_r2,h1,hB,h4,hL,h6,s44,gV pvi,fp,dS,wv,k1,k2,a1,a2,a3,ko,mW,a7];refine⟨ah,hr au _ ?_⟩;simp only[go_sem]
        |false=>
         cases a8:(((aC (lu l.id) ls:Nat):Int)!=2) with
         |true=>
          have ko:¬(l.id<1):=fA a5;have mW:¬(((aC Let.aG ls/2:Nat):Int)<l.id):=fA a6;have au:eK f ls l=false:=by simp only[eK,k1,k2,lV,a1,a2,a3,a5,a6,a7,a8];rfl
          simp only[go_sem,i46_r2,h1,hB,h4,hL,h6,s44,s80,gV pvi,gV pti,fp,dS,wv,k1,k2,a1,a2,a3,ko,mW,a7,a8];refine⟨ah,hr au _ ?_⟩;simp only[go_sem]
         |false=>
          have ko:¬(l.id<1):=fA a5;have mW:¬(((aC Let.aG ls/2:Nat):Int)<l.id):=fA a6;have au:eK f ls l=true:=by simp only[eK,k1,k2,lV,a1,a2,a3,a5,a6,a7,a8];rfl
          simp only[go_sem,i46_r2,h1,hB,h4,hL,h6,s44,s80,gV pvi,gV pti,fp,dS,wv,k1,k2,a1,a2,a3,ko,mW,a7,a8];refine⟨ah,hq au _ ?_ ?_⟩;all_goals simp only[go_sem]
  |false=>
   have au:eK f ls l=false:=by simp only[eK,k1,k2];rfl
   simp only[go_sem,i46_r2,h4,hL,k1,k2];refine hr au _ ?_;simp only[go_sem]
def w9(f:Int)(ls:List Let):Bool:=ls.all (eK f ls)
theorem anI(f:Int)(ls:List Let)(hl:ls.length<=1000000):aF S 46 [cZ f ls] (rb (w9 f ls)):=by
 refine aV c46 ?_;simp only[go_sem,i46];refine cJ (fun k ak aj=>ak 1=.one (.aX 2944000000 1 0)/\aj 2944000000=(1,some (.var (mh f ls)))/\ak 3=vi k/\ ∀j l,j<k->ls[j]?=some l->eK f ls l=true) 0 ls.length (bj _) ?_ ?_
 .simp only[go_sem];exact⟨rfl,fun j l h=>absurd h (mT j)⟩
 rintro k ak aj hk ⟨h1,hB,h3,au⟩
 by_cases aq:k<ls.length
 .obtain⟨l,ho⟩:=aM aq;have hi:=fv ho;have aL:((k:Int)<(ls.length:Int)):=aa;have w1:=bN (n:=k) aa;simp only[go_sem,i46_l4,h1,hB,h3,hi,Let.ps,aL];refine anG (f:=f) (l:=l) (g:=(aj 2944256320).1+1) (i:=k) hl ?_ ?_ ?_ ?_ ?_ ?_ ?_ ?_ ?_
  .simp only[go_sem,h1]
  .simp only[go_sem,hB]
  .simp only[go_sem,h3]
  .simp only[go_sem]
  .simp only[go_sem]
  .simp only[go_sem]
  .simp only[go_sem]
  .simp only[go_sem]
  intro aA ao q1 q3 q4 b1 b2 q5 q6;simp only[go_sem,h1,h3] at q1 q3 q4;simp only[go_sem,hB] at b1 b2;simp only[go_sem];refine anH (f:=f) (l:=l) (i:=k) hl q1 b1 q3 q4 b2 q5 q6 ?_ ?_
  .intro Mq dp e1 e3;rw[q1] at e1;rw[q3] at e3;simp only[go_sem,i46_r3,e1,b1,e3,w1];refine⟨aq,fun j l' hj vt=>?_⟩;rcases lL.1 hj with hj|rfl
   .exact au j l' hj vt
   rw[ho] at vt;cases vt;exact Mq
  intro TP dp e2;have hf:w9 f ls=false:=by unfold w9;rw[WE];exact⟨l,aW ho,by simp[TP]⟩
  simp only[go_sem,e2,hf]
 have:k=ls.length:=aa;subst this;have hf:w9 f ls=true:=by unfold w9;rw[ir];intro x hx;obtain⟨j,hj,rfl⟩:=List.getElem_of_mem hx;exact au j _ hj af
 simp only[go_sem,i46_l4,i46_r5,h1,hB,h3,dG,hf]
theorem amC{ls:List Let}{o:List Nat}{i x:Nat}:x∈zT ls o i↔x∈o\/x=i:=by
 unfold zT;generalize (o.takeWhile (Bf ls i)).length=K;constructor
 .intro h;rcases dZ.1 h with h|h
  .exact .inl (xz h)
  rcases cI.1 h with h|h
  .exact .inr h
  exact .inl (vT h)
 rintro (h|rfl)
 .rw[<- sQ K o] at h;rcases dZ.1 h with h|h
  .exact dZ.2 (.inl h)
  exact dZ.2 (.inr (cI.2 (.inr h)))
 simp
theorem XG{ls:List Let}:∀ {k x:Nat},k<=ls.length->(x∈nK ls k↔x<k/\ ∃l,ls[x]?=some l/\l.aJ=true):=by
 intro k
 induction k with
 |zero=>intro x _;simp[nK]
 |succ k ih=>
  intro x hk;rw[Ik];obtain⟨l,hl⟩:=aM (ls:=ls) (k:=k) aa;have ih:=ih (x:=x) aa;unfold AM;rw[hl];simp only;by_cases hp:l.aJ=true
  .rw[aD hp,amC,ih];constructor
   .rintro (⟨h1,h2⟩|rfl)
    .exact⟨aa,h2⟩
    exact⟨aa,l,hl,hp⟩
   rintro ⟨h1,h2⟩
   rcases lL.1 h1 with h|rfl
   .exact .inl ⟨h,h2⟩
   exact .inr rfl
  rw[ay hp,ih];constructor
  .rintro ⟨h1,h2⟩;exact⟨aa,h2⟩
  rintro ⟨h1,m,hm,wR⟩
  rcases lL.1 h1 with h|rfl
  .exact⟨h,m,hm,wR⟩
  rw[hl] at hm;cases hm;exact(hp wR).elim
theorem sY{ls:List Let}{x:Nat}:x∈aB ls↔ ∃l,ls[x]?=some l/\l.aJ=true:=by
 have:=XG (ls:=ls) (k:=ls.length) (x:=x) (bJ _);have e:aB ls=nK ls ls.length:=rfl;rw[e,this];constructor
 .rintro ⟨_,h⟩;exact h
 rintro ⟨l,h,h2⟩;exact⟨(bg.1 h).1,l,h,h2⟩
theorem acu{f:Int}{ls:List Let}(h:w9 f ls=true){v:Nat}{l:Let}(hv:ls[v]?=some l):l.aJ=true\/l.aG=true:=by
 have:=(ir.1 h) l (aW hv);unfold eK at this;unfold Let.aJ Let.aG;cases h1:(l.kind==1) with
 |true=>exact .inl rfl
 |false=>
  cases h2:(l.kind==2) with
  |true=>exact .inr rfl
  |false=>rw[h1,h2] at this;simp at this
def pN(ls:List Let):Nat:=(eh (gu ls (aB ls)) (2*ls.length+2*(aB ls).length)).length
def lG(f:Int)(ls:List Let):Bool:=(match ls[0]? with|some l=>l.kind==1|none=>true)&&(aC Let.aJ ls%2==0)&&w9 f ls&&(pN ls==aC Let.aJ ls+aC Let.aG ls/2+2)
def di(f:Int)(ls:List Let):Int:=if 400<ls.length\/200<aC Let.aG ls then 7 else if f<0\/40<f then 2 else if ls=[] then 0 else if lG f ls then 0 else 3
theorem aik(f:Int)(ls:List Let)(hl:ls.length<=1000000):aF S 23 [cZ f ls] (ri (di f ls)):=by
 have pvi:=Wu f ls hl;have ppa:=adM f ls hl;have ple:=anI f ls hl;have pcr:=S6 f ls hl;have hci:=oU Let.aG ls;have mu:=oU Let.aJ ls;refine aV c23 ?_;unfold di;by_cases h1:400<ls.length
 .have jE:(400:Int)<(ls.length:Int):=aa;simp only[go_sem,i23,h1,jE]
 have jE:¬(400:Int)<(ls.length:Int):=aa;by_cases h2:200<aC Let.aG ls
 .have iS:(200:Int)<(aC Let.aG ls:Int):=aa;simp only[go_sem,i23,h1,jE,h2,iS,s44,dJ pvi]
 have iS:¬(200:Int)<(aC Let.aG ls:Int):=aa;by_cases h3:f<0
 .simp only[go_sem,i23,h1,jE,h2,iS,h3,s44,dJ pvi]
 by_cases h4:40<f
 .simp only[go_sem,i23,h1,jE,h2,iS,h3,h4,s44,dJ pvi]
 have al1:¬(400<ls.length\/200<aC Let.aG ls):=aa;have al3:¬(f<0\/40<f):=aa;rw[ay al1,ay al3];by_cases he:ls=[]
 .subst he;have hz:(((0:Nat):Int)==0)=true:=ae;have hz3:¬((400:Int)<((0:Nat):Int)):=ae;have aqb:aF S 44 [.agg [.p (.int .i64 f),.p (.sl [])]] (ri (aC Let.aG [])):=pvi;simp only[go_sem,i23,hz3,iS,h3,h4,s44,dJ aqb,hz]
 have hlen:0<ls.length:=jl.2 he;obtain⟨l0,h0⟩:=aM hlen;have zB:=fv h0;have GM:(((ls.length:Nat):Int)==0)=false:=by simp;omega
 rw[ay he];generalize hr:(if lG f ls=true then (0:Int) else 3)=r;cases c1:(l0.kind==1) with
 |false=>
  have c1':(l0.kind !=1)=true:=by simp[bne,c1]
  have hv:lG f ls=false:=by simp only[lG,h0,c1];rfl
  rw[hv] at hr;have hr:(3:Int)=r:=hr;subst hr;simp only[go_sem,i23,jE,iS,h3,h4,s44,dJ pvi,GM,s45,dJ ppa,zB,Let.ps,c1'];exact aK
 |true=>
  have c1':(l0.kind !=1)=false:=by simp[bne,c1]
  cases c2:(aC Let.aJ ls%2==0) with
  |false=>
   have c2':(((aC Let.aJ ls%2:Nat):Int)!=0)=true:=by simp at c2 ⊢;omega
   have hv:lG f ls=false:=by simp only[lG,h0,c1,c2];rfl
   rw[hv] at hr;have hr:(3:Int)=r:=hr;subst hr;simp only[go_sem,i23,jE,iS,h3,h4,s44,dJ pvi,GM,s45,dJ ppa,zB,Let.ps,c1',iL,dS,c2'];exact aK
  |true=>
   have c2':(((aC Let.aJ ls%2:Nat):Int)!=0)=false:=by simp at c2 ⊢;omega
   cases c3:w9 f ls with
   |false=>
    rw[c3] at ple;have hv:lG f ls=false:=by simp only[lG,h0,c1,c2,c3];rfl
    rw[hv] at hr;have hr:(3:Int)=r:=hr;subst hr;simp only[go_sem,i23,jE,iS,h3,h4,s44,dJ pvi,GM,s45,dJ ppa,zB,Let.ps,c1',iL,dS,c2',s46,kW ple];exact aK
   |true=>
    rw[c3] at ple;have aI:aB ls≠[]:=fun e=>by have:(0:Nat)∈aB ls:=sY.2 ⟨l0,h0,c1⟩;rw[e] at this;cases this
    have hp:∀v l,ls[v]?=some l->(l.kind==2)=false->v∈aB ls:=fun v l hv h2=>by
     rcases acu c3 hv with h|h
     .exact sY.2 ⟨l,hv,h⟩
     unfold Let.aG at h;rw[h2] at h;cases h
    have pw:=afK f ls hl aI hp;have MB:pN ls=(eh (gu ls (aB ls)) (2*ls.length+2*(aB ls).length)).length:=rfl;have iW:=KD (gu ls (aB ls)) (2*ls.length+2*(aB ls).length) (2*ls.length+2*(aB ls).length);generalize hW:eh (gu ls (aB ls)) (2*ls.length+2*(aB ls).length)=ws at pw iW MB;have a1:=wrap_add (a:=aC Let.aJ ls) (b:=aC Let.aG ls/2) aa;have a2:IntKind.i64.wrap (((aC Let.aJ ls+aC Let.aG ls/2:Nat):Int)+2)=((aC Let.aJ ls+aC Let.aG ls/2+2:Nat):Int):=wrap_add (a:=aC Let.aJ ls+aC Let.aG ls/2) (b:=2) aa;have eJ:S.lone 1472513152=false:=ah
    have gE:∀(aj:aw),land aj [] 1472513152 ((RV.one (.own 119 1 (ws.map fun w=>[tv w]))).eD (S.lone 1472513152))=some (.one (.hsl 1472513152 ((aj 1472513152).1+1) 1 0 ws.length),[(1472513152,((aj 1472513152).1+1,some (.arr 119 1 (ws.map fun w=>[tv w]))))]):=by intro aj;rw[eJ];simp only[RV.eD,land,true_or,if_true,ji,iR,jq,jH,dF,ui,oD,cH,mR]
    cases c4:(ws.length==aC Let.aJ ls+aC Let.aG ls/2+2) with
    |false=>
     have c4':(((ws.length:Nat):Int)!=((aC Let.aJ ls+aC Let.aG ls/2+2:Nat):Int))=true:=by simp at c4 ⊢;omega
     have hv:lG f ls=false:=by simp only[lG,h0,c1,c2,c3,MB,c4];rfl
     rw[hv] at hr;have hr:(3:Int)=r:=hr;subst hr;simp only[go_sem,i23,jE,iS,h3,h4,s44,dJ pvi,GM,s45,dJ ppa,zB,Let.ps,c1',iL,dS,c2',s46,kW ple,s47,mH pw (gE _),s48,gV pcr,a1,a2,c4'];exact aK
    |true=>
     have c4':(((ws.length:Nat):Int)!=((aC Let.aJ ls+aC Let.aG ls/2+2:Nat):Int))=false:=by simp at c4 ⊢;omega
     have hv:lG f ls=true:=by simp only[lG,h0,c1,c2,c3,MB,c4];rfl
     rw[hv] at hr;have hr:(0:Int)=r:=hr;subst hr;simp only[go_sem,i23,jE,iS,h3,h4,s44,dJ pvi,GM,s45,dJ ppa,zB,Let.ps,c1',iL,dS,c2',s46,kW ple,s47,mH pw (gE _),s48,gV pcr,a1,a2,c4'];exact aK
def dA(f:Int)(l:Let):Bool:=if l.kind==1 then (((decide (l.gate<0)||decide (f<l.gate))||l.id !=0)||l.sign !=0)||l.over else if l.kind==2 then (l.gate !=0||l.aE !=0)||(l.sign !=1&&l.sign != -1) else true
theorem ahG(f:Int)(l:Let)(x1 x2 x3 x4 x5 x6:PV):aF S 134 [w7 l,.one (.p (.box [.box [.int .i64 f,x1,x2,x3,x4,x5,x6]]))] (rb (dA f l)):=by
 refine aV c134 ?_;cases k1:(l.kind==1) with
 |true=>
  cases a1:(decide (l.gate<0)) with
  |true=>
   have yR:(l.gate<0):=l7 a1;have hb:dA f l=true:=by simp only[dA,k1,a1];rfl
   simp only[go_sem,i134,k1,yR,hb];exact aK
  |false=>
   cases a2:(decide (f<l.gate)) with
   |true=>
    have yR:¬(l.gate<0):=fA a1;have BH:(f<l.gate):=l7 a2;have hb:dA f l=true:=by simp only[dA,k1,a1,a2];rfl
    simp only[go_sem,i134,k1,yR,BH,hb];exact aK
   |false=>
    cases a3:(l.id !=0) with
    |true=>
     have yR:¬(l.gate<0):=fA a1;have BH:¬(f<l.gate):=fA a2;have hb:dA f l=true:=by simp only[dA,k1,a1,a2,a3];rfl
     simp only[go_sem,i134,k1,yR,BH,a3,hb];exact aK
    |false=>
     cases a4:(l.sign !=0) with
     |true=>
      have yR:¬(l.gate<0):=fA a1;have BH:¬(f<l.gate):=fA a2;have hb:dA f l=true:=by simp only[dA,k1,a1,a2,a3,a4];rfl
      simp only[go_sem,i134,k1,yR,BH,a3,a4,hb];exact aK
     |false=>
      cases a5:(l.over) with
      |true=>
       have yR:¬(l.gate<0):=fA a1;have BH:¬(f<l.gate):=fA a2;have hb:dA f l=true:=by simp only[dA,k1,a1,a2,a3,a4,a5];rfl
       simp only[go_sem,i134,k1,yR,BH,a3,a4,a5,hb];exact aK
      |false=>
       have yR:¬(l.gate<0):=fA a1;have BH:¬(f<l.gate):=fA a2;have hb:dA f l=false:=by simp only[dA,k1,a1,a2,a3,a4,a5];rfl
       simp only[go_sem,i134,k1,yR,BH,a3,a4,a5,hb];exact aK
 |false=>
  cases k2:(l.kind==2) with
  |true=>
   cases a1:(l.gate !=0) with
   |true=>
    have hb:dA f l=true:=by simp only[dA,k1,k2,a1];rfl
    simp only[go_sem,i134,k1,k2,a1,hb]
   |false=>
    cases a2:(l.aE !=0) with
    |true=>
     have hb:dA f l=true:=by simp only[dA,k1,k2,a1,a2];rfl
     simp only[go_sem,i134,k1,k2,a1,a2,hb]
    |false=>
     cases a3:(l.sign !=1) with
     |true=>
      cases a4:(l.sign != -1) with
      |true=>
       have hb:dA f l=true:=by simp only[dA,k1,k2,a1,a2,a3,a4];rfl
       simp only[go_sem,i134,k1,k2,a1,a2,a3,a4,hb]
      |false=>
       have hb:dA f l=false:=by simp only[dA,k1,k2,a1,a2,a3,a4];rfl
       simp only[go_sem,i134,k1,k2,a1,a2,a3,a4,hb]
     |false=>
      have hb:dA f l=false:=by simp only[dA,k1,k2,a1,a2,a3];rfl
      simp only[go_sem,i134,k1,k2,a1,a2,a3,hb]
  |false=>
   have hb:dA f l=true:=by simp only[dA,k1,k2];rfl
   simp only[go_sem,i134,k1,k2,hb]
abbrev dfn(f:Int)(x1 x2 x3 x4 x5 x6:PV):PV:=.fn 134 [] [.box [.box [.int .i64 f,x1,x2,x3,x4,x5,x6]]]
theorem ahH(f:Int)(ls:List Let)(x1 x2 x3 x4 x5 x6:PV)(hl:ls.length<=1000000)(hn:x1.norm=x1/\x2.norm=x2/\x3.norm=x3/\x4.norm=x4/\x5.norm=x5/\x6.norm=x6):
  ∃k:Int,(0<=k↔ls.any (dA f)=true)/\aF S 160 [.one (.p (cQ ls)),.one (.p (dfn f x1 x2 x3 x4 x5 x6))] (ri k):=by
 have main:∀r:Int,(∀(k:Nat) l,ls[k]?=some l->dA f l=true->(∀(j:Nat) m,j<k->ls[j]?=some m->dA f m=false)->r=k)->((∀(j:Nat) m,ls[j]?=some m->dA f m=false)->r= -1)->
   aF S 160 [.one (.p (cQ ls)),.one (.p (dfn f x1 x2 x3 x4 x5 x6))] (ri r):=by
  intro r ig r9;refine aV c160 ?_;simp only[go_sem,i160];refine cJ (fun k ak aj=>ak 0=.one (.p (cQ ls))/\ak 1=.one (.p (dfn f x1 x2 x3 x4 x5 x6))/\ak 7=vi ls.length/\ak 8=vi k/\ ∀j m,j<k->ls[j]?=some m->dA f m=false) 0 ls.length (bj _) ?_ ?_
  .simp only[go_sem];exact⟨rfl,fun j m h=>absurd h (mT j)⟩
  rintro k ak aj hk ⟨h0,h1,h7,h8,hn⟩
  by_cases aq:k<ls.length
  .obtain⟨l,eI⟩:=aM aq;have hi:=fv eI;have aL:((k:Int)<(ls.length:Int)):=aa;have w1:=bN (n:=k) aa;have pb:=ahG f l x1 x2 x3 x4 x5 x6;cases hb:dA f l with
   |true=>rw[hb] at pb;have hr:=ig k l eI hb hn;subst hr;simp only[go_sem,i160_l1,h0,h1,h7,h8,hi,Let.ps,aL,s134,bh pb]
   |false=>
    rw[hb] at pb;simp only[go_sem,i160_l1,h0,h1,h7,h8,hi,Let.ps,aL,w1,s134,bh pb];refine⟨aq,fun j m hj hm=>?_⟩;rcases lL.1 hj with hj|rfl
    .exact hn j m hj hm
    rw[eI] at hm;cases hm;exact hb
  have:k=ls.length:=aa;subst this;have hr:=r9 fun j m hm=>hn j m (bg.1 hm).1 hm;subst hr;simp only[go_sem,i160_l1,i160_r2,h7,h8,dG]
 cases ha:ls.any (dA f) with
 |true=>
  have hx:ls.findIdx (dA f)<ls.length:=atQ (by simpa using ha);refine⟨(ls.findIdx (dA f):Nat),⟨fun _=>rfl,fun _=>aa⟩,main _ ?_ ?_⟩
  .intro k l eI hb hn;have hk:=(bg.1 eI).1;have h1:dA f ls[ls.findIdx (dA f)]=true:=af5;rcases Ot (ls.findIdx (dA f)) k with h|h|h
   .have:=hn _ _ h (oJ hx);rw[h1] at this;cases this
   .rw[h]
   have:=List.not_of_lt_findIdx h;have e:ls[k]=l:=by rw[oJ hk] at eI;exact sR eI
   rw[e,hb] at this;simp at this
  intro hn;have h1:dA f ls[ls.findIdx (dA f)]=true:=af5;have:=hn _ _ (oJ hx);rw[h1] at this;cases this
 |false=>refine⟨-1,⟨fun h=>aa,fun h=>by cases h⟩,main _ ?_ (fun _=>rfl)⟩;intro k l eI hb _;have:=HO.1 ha l (aW eI);exact(this hb).elim
theorem aiD(f:Int)(ls:List Let)(x1 x2 x3 x4 x5 x6:PV)(hl:ls.length<=1000000)(hn:x1.norm=x1/\x2.norm=x2/\x3.norm=x3/\x4.norm=x4/\x5.norm=x5/\x6.norm=x6):
  aF S 133 [.one (.p (cQ ls)),.one (.p (dfn f x1 x2 x3 x4 x5 x6))] (rb (ls.any (dA f))):=by
 obtain⟨k,hk,pk⟩:=ahH f ls x1 x2 x3 x4 x5 x6 hl hn;refine aV c133 ?_;cases ha:ls.any (dA f) with
 |true=>have h0:=hk.2 ha;simp only[go_sem,i133,s160,dJ pk,h0]
 |false=>
  have h0:¬0<=k:=fun h=>by rw[hk.1 h] at ha;cases ha
  simp only[go_sem,i133,s160,dJ pk,h0]
abbrev dgP(f:Int)(ls:List Let)(x2 x3 x4 x5 x6:PV):PV:=.box [.int .i64 f,cQ ls,x2,x3,x4,x5,x6]
theorem ai8(f:Int)(ls:List Let)(x2 x3 x4 x5 x6:PV)(hl:ls.length<=1000000)(hn:x2.norm=x2/\x3.norm=x3/\x4.norm=x4/\x5.norm=x5/\x6.norm=x6):
  aF S 104 [.one (.p (dgP f ls x2 x3 x4 x5 x6))] (rb (!ls.any (dA f))):=by
 have pc:=aiD f ls (cQ ls) x2 x3 x4 x5 x6 hl ⟨rfl,hn.1,hn.2.1,hn.2.2.1,hn.2.2.2.1,hn.2.2.2.2⟩;refine aV c104 ?_;simp only[go_sem,i104,s133,bh pc]
theorem aiZ(f:Int)(ls:List Let)(l0:Let)(x2 x3 x4 x5 x6:PV)(hl:ls.length<=1000000)(h0:ls[0]?=some l0):
  aF S 105 [.one (.p (dgP f ls x2 x3 x4 x5 x6))] (rb (l0.kind==1&&aC Let.aJ ls%2==0)):=by
 have pp:=Vx f ls hl;have zB:=fv h0;refine aV c105 ?_;have e2:((((aC Let.aJ ls)%2:Nat):Int)==0)=(aC Let.aJ ls%2==0):=by
  cases h:(aC Let.aJ ls%2==0) with
  |true=>simp at h ⊢;omega
  |false=>simp at h ⊢;omega
 cases hk:(l0.kind==1) with
 |true=>simp only[go_sem,i105,zB,Let.ps,hk,s113,dJ pp,iL,dS,e2]
 |false=>simp only[go_sem,i105,zB,Let.ps,hk]
def vZ(g:Nat)(l:Let):Bool:=l.aJ&&l.gate==(g:Int)
abbrev cg(ls:List Let)(g:Nat):Nat:=aC (vZ g) ls
def rW(ls:List Let)(F k:Nat):List Nat:=(List.range (F+1)).map fun g=>cg (ls.take k) g
def counts(ls:List Let)(F:Nat):List Nat:=(List.range (F+1)).map (cg ls)
theorem YD{ls:List Let}{k G:Nat}(h:G<=F):(rW ls F k)[G]?=some (cg (ls.take k) G):=by simp[rW,rO (show G<F+1 by omega)]
theorem SY(ls:List Let)(F:Nat):rW ls F ls.length=counts ls F:=by simp[rW,counts]
theorem SZ(ls:List Let)(F:Nat):rW ls F 0=List.replicate (F+1) 0:=by apply xy<;>simp[rW]
theorem YF{ls:List Let}{k:Nat}{l:Let}(h:ls[k]?=some l)(hp:l.aJ=false):rW ls F (k+1)=rW ls F k:=by unfold rW;congr 1;funext g;exact jB h (by simp[vZ,hp])
theorem YE{ls:List Let}{k G:Nat}{l:Let}(h:ls[k]?=some l)(hp:l.aJ=true)(hg:l.gate=(G:Int)):
  rW ls F (k+1)=(rW ls F k).set G (cg (ls.take k) G+1):=by
 apply xy
 .simp[rW]
 intro i h1 h2;rw[KL];simp only[rW,DF,KK];split
 .rename_i e;subst e;exact sZ h (by simp[vZ,hp,hg])
 exact jB h (by simp[vZ,hg];intro _ e;omega)
theorem JO(o:List Nat)(k n:Nat):(nP o).set k [.int .i64 (n:Int)]=nP (o.set k n):=by simp[yM]
theorem Nf(o:List Nat):(nP o).length=o.length:=af
theorem Ve(n m:Nat):nP (List.replicate n m)=List.replicate n [.int .i64 (m:Int)]:=af
theorem XL(n:Nat)(b:Bool):bP (List.replicate n b)=List.replicate n [.bool b]:=af
theorem Lr{ls:List Let}{k:Nat}{l:Let}(h:ls[k]?=some l)(hp:l.aJ=true):dn ls (k+1)= !dn ls k:=by
 unfold dn;rw[sZ h hp];cases hc:(aC Let.aJ (ls.take k)%2==0) with
 |true=>simp at hc ⊢;omega
 |false=>simp at hc ⊢;omega
theorem Ls{ls:List Let}{k:Nat}{l:Let}(h:ls[k]?=some l)(hp:l.aJ=false):dn ls (k+1)=dn ls k:=by unfold dn;rw[jB h hp]
def iz(ls:List Let)(i:Nat):Bool:=match ls[i]? with|some l=>l.aJ&&dn ls i|none=>false
def tN(ls:List Let)(k:Nat):List Bool:=(List.range ls.length).map fun i=>decide (i<k)&&iz ls i
def jD(ls:List Let):List Bool:=(List.range ls.length).map (iz ls)
theorem ajf(ls:List Let):tN ls 0=List.replicate ls.length false:=by apply xy<;>simp[tN]
theorem ajb(ls:List Let):tN ls ls.length=jD ls:=by unfold tN jD;apply KO;intro i hi;simp[fg.1 hi]
theorem ajd(ls:List Let)(k:Nat):(tN ls k).length=ls.length:=by simp[tN]
theorem aje{ls:List Let}{k:Nat}{l:Let}(h:ls[k]?=some l)(hp:l.aJ=false):tN ls (k+1)=tN ls k:=by
 unfold tN;apply KO;intro i hi;by_cases e:i=k
 .subst e;simp[iz,h,hp]
 have:(i<k+1)↔(i<k):=aa;simp[this]
theorem ajc{ls:List Let}{k:Nat}{l:Let}(h:ls[k]?=some l)(hp:l.aJ=true):tN ls (k+1)=(tN ls k).set k (dn ls k):=by
 apply xy
 .simp[tN]
 intro i h1 h2;rw[KL];simp only[tN,DF,KK];split
 .rename_i e;subst e;simp[iz,h,hp]
 have:(i<k+1)↔(i<k):=aa;simp[this]
def fQ(ls:List Let)(g:Nat):Nat:=((List.range g).map (cg ls)).sum
theorem tS(ls:List Let)(g:Nat):fQ ls (g+1)=fQ ls g+cg ls g:=by simp[fQ,uZ]
def wA(ls:List Let)(F k:Nat):List Nat:=(List.range (F+1)).map fun g=>if g<k then fQ ls g else 0
def IM(ls:List Let)(F:Nat):List Nat:=(List.range (F+1)).map (fQ ls)
theorem akc(ls:List Let)(F:Nat):wA ls F 0=List.replicate (F+1) 0:=by apply xy<;>simp[wA]
theorem aj9(ls:List Let)(F:Nat):wA ls F (F+1)=IM ls F:=by unfold wA IM;apply KO;intro i hi;simp[fg.1 hi]
theorem aka(ls:List Let)(F k:Nat):(wA ls F k).length=F+1:=by simp[wA]
theorem akb(ls:List Let)(F k:Nat):wA ls F (k+1)=(wA ls F k).set k (fQ ls k):=by
 apply xy
 .simp[wA]
 intro i h1 h2;rw[KL];simp only[wA,DF,KK];by_cases e:k=i
 .subst e;simp
 have:(i<k+1)↔(i<k):=aa;simp only[this,ay e]
theorem OV{ls:List Let}{G:Nat}(h:G<=F):(counts ls F)[G]?=some (cg ls G):=by simp[counts,rO (show G<F+1 by omega)]
theorem akd{ls:List Let}{G:Nat}(h:G<=F):(IM ls F)[G]?=some (fQ ls G):=by simp[IM,rO (show G<F+1 by omega)]
theorem AT{ls:List Let}{a b:Nat}(h:a<=b):fQ ls a<=fQ ls b:=by
 induction h with
 |refl=>exact bJ _
 |step _ ih=>rw[tS];omega
theorem ahm(g:Nat)(a:Let):((a.aJ&&(decide (0<=a.gate)&&decide (a.gate<((g+1:Nat):Int))))=true)↔((a.aJ&&(decide (0<=a.gate)&&decide (a.gate<(g:Int))))=true\/vZ g a=true):=by
 simp only[vZ,cN,kV,dL];constructor
 .rintro ⟨h1,h2,h3⟩
  by_cases h:a.gate=(g:Int)
  .exact Or.inr ⟨h1,h⟩
  exact Or.inl ⟨h1,h2,aa⟩
 rintro (⟨h1,h2,h3⟩|⟨h1,h2⟩)
 .exact⟨h1,h2,aa⟩
 exact⟨h1,aa,aa⟩
theorem ahl(g:Nat)(a:Let):(a.aJ&&(decide (0<=a.gate)&&decide (a.gate<(g:Int))))=true->vZ g a=true->False:=by simp only[vZ,cN,kV,dL];omega
theorem SX{p q r:Let->Bool}(h:∀a,r a=true↔(p a=true\/q a=true))(hn:∀a,p a=true->q a=true->False):∀ls:List Let,ls.countP r=ls.countP p+ls.countP q:=by
 intro ls
 induction ls with
 |nil=>rfl
 |cons a ls ih=>rw[yI,yI,yI,ih];have h1:=h a;have h2:=hn a;cases ep:p a<;>cases eq:q a<;>cases er:r a<;>simp_all<;>omega
theorem ZO(ls:List Let):∀g,fQ ls g=aC (fun l=>l.aJ&&(decide (0<=l.gate)&&decide (l.gate<((g:Nat):Int)))) ls:=by
 intro g
 induction g with
 |zero=>symm;show ls.countP _=0;rw[Oe];intro a _;simp only[cN,kV];omega
 |succ g ih=>rw[tS,ih];exact(SX (ahm g) (ahl g) ls).symm
theorem To(ls:List Let)(g:Nat):fQ ls g<=ls.length:=by rw[ZO];exact oU _ _
def dO(ls:List Let)(l:Let):Nat:=fQ ls l.gate.toNat+l.aE.toNat-1
def tg(ls:List Let)(p i:Nat):Bool:=match ls[i]? with|some l=>l.aJ&&dO ls l==p|none=>false
def xt(ls:List Let)(T k:Nat):List Bool:=(List.range T).map fun p=>(List.range k).any (tg ls p)
def axP(ls:List Let)(k p:Nat):Nat:=((List.range k).find? (tg ls p)).getD 0
def sW(ls:List Let)(T k:Nat):List Nat:=(List.range T).map (axP ls k)
def Bk(ls:List Let)(i:Nat):Nat:=match ls[i]? with|some l=>if l.aJ then dO ls l else 0|none=>0
def jx(ls:List Let)(k:Nat):List Nat:=(List.range ls.length).map fun i=>if i<k then Bk ls i else 0
def tB(ls:List Let)(i:Nat):Bool:=match ls[i]? with
 |some l=> !l.aJ||(decide (1<=l.aE)&&decide (l.aE<=(cg ls l.gate.toNat:Int)))&& !(List.range i).any (tg ls (dO ls l))
 |none=>true
def yC(ls:List Let):Bool:=(List.range ls.length).all (tB ls)
theorem asL(ls:List Let)(T:Nat):xt ls T 0=List.replicate T false:=by apply xy<;>simp[xt]
theorem ahp(ls:List Let)(T:Nat):sW ls T 0=List.replicate T 0:=by apply xy<;>simp[sW,axP]
theorem apf(ls:List Let):jx ls 0=List.replicate ls.length 0:=by apply xy<;>simp[jx]
theorem XF(ls:List Let)(T k:Nat):(sW ls T k).length=T:=by simp[sW]
theorem apd(ls:List Let)(k:Nat):(jx ls k).length=ls.length:=by simp[jx]
theorem asI{ls:List Let}{T k p:Nat}(h:p<T):(xt ls T k)[p]?=some ((List.range k).any (tg ls p)):=by simp[xt,h]
theorem aaI{ls:List Let}{k p:Nat}{l:Let}(h:ls[k]?=some l)(hp:l.aJ=false):tg ls p k=false:=by simp[tg,h,hp]
theorem asK{ls:List Let}{T k:Nat}{l:Let}(h:ls[k]?=some l)(hp:l.aJ=false):xt ls T (k+1)=xt ls T k:=by unfold xt;congr 1;funext p;simp[uZ,List.any_append,aaI h hp]
theorem aho{ls:List Let}{T k:Nat}{l:Let}(h:ls[k]?=some l)(hp:l.aJ=false):sW ls T (k+1)=sW ls T k:=by unfold sW;congr 1;funext p;simp[axP,uZ,af4,aaI h hp]
theorem ape{ls:List Let}{k:Nat}{l:Let}(h:ls[k]?=some l)(hp:l.aJ=false):jx ls (k+1)=jx ls k:=by
 unfold jx;apply KO;intro i hi;by_cases e:i=k
 .subst e;simp[Bk,h,hp]
 have:(i<k+1)↔(i<k):=aa;simp[this]
theorem Mm{ls:List Let}{k p:Nat}{l:Let}(h:ls[k]?=some l)(hp:l.aJ=true):tg ls p k=(dO ls l==p):=by simp[tg,h,hp]
theorem asJ{ls:List Let}{T k:Nat}{l:Let}(h:ls[k]?=some l)(hp:l.aJ=true):xt ls T (k+1)=(xt ls T k).set (dO ls l) true:=by
 apply xy
 .simp[xt]
 intro i h1 h2;rw[KL];simp only[xt,DF,KK,uZ,List.any_append,Rz,WG,Ry,Mm h hp];split
 .rename_i e;simp[e]
 rename_i e;simp[e]
theorem ahn{ls:List Let}{T k:Nat}{l:Let}(h:ls[k]?=some l)(hp:l.aJ=true)(hn:(List.range k).any (tg ls (dO ls l))=false):sW ls T (k+1)=(sW ls T k).set (dO ls l) k:=by
 apply xy
 .simp[sW]
 intro i h1 h2;rw[KL];simp only[sW,DF,KK,axP,uZ,af4];by_cases e:dO ls l=i
 .have h3:(List.range k).find? (tg ls i)=none:=by
   rw[<- e,Of];intro x hx hq;rw[HO] at hn;exact hn x hx hq
  have h4:tg ls i k=true:=by rw[Mm h hp];simp[e]
  rw[h3,aD e,RW,h4];rfl
 have h4:tg ls i k=false:=by rw[Mm h hp];simp[e]
 rw[ay e,RW,h4];simp
theorem apc{ls:List Let}{k:Nat}{l:Let}(h:ls[k]?=some l)(hp:l.aJ=true):jx ls (k+1)=(jx ls k).set k (dO ls l):=by
 apply xy
 .simp[jx]
 intro i h1 h2;rw[KL];simp only[jx,DF,KK];by_cases e:k=i
 .subst e;simp[Bk,h,hp]
 have:(i<k+1)↔(i<k):=aa;simp only[this,ay e]
theorem VL{ls:List Let}{k:Nat}(hk:k<ls.length)(h:tB ls k=false):yC ls=false:=by unfold yC;rw[WE];exact⟨k,fg.2 hk,by simp[h]⟩
theorem aqg{ls:List Let}(h:∀i,i<ls.length->tB ls i=true):yC ls=true:=by unfold yC;rw[ir];exact fun i hi=>h i (fg.1 hi)
abbrev HY(id:Nat):Prop:=id=2240320128\/jy id=106
abbrev vf(F:Nat)(ls:List Let)(c2 c3 c4 c5 c6:C):List C:=[.p (.int .i64 (F:Int)),.p (cQ ls),c2,c3,c4,c5,c6]
abbrev hs(id g n:Nat):C:=.hsl id g 1 0 n
abbrev qY(F:Nat)(ls:List Let):Prop:=∀l∈ls,l.aJ=true->0<=l.gate/\l.gate<=(F:Int)
def Ki(F:Nat)(ls:List Let)(g:Nat)(c5:C)(mF:aw)(v:V)(ao:aw):Prop:=
 v=vb (yC ls)/\Kept HY mF ao/\(yC ls=true->∃g1 g2 g3 g5,ao 2240320128=(g,some (.var (vf F ls (hs 6784128448 g2 ls.length) (hs 6785344128 g5 (fQ ls (F+1))) (hs 6784192448 g3 ls.length) c5 (hs 6784064448 g1 (F+1)))))/\
  ao 6784064448=(g1,some (.arr 3 1 (nP (counts ls F))))/\ao 6784128448=(g2,some (.arr 4 1 (bP (jD ls))))/\ao 6784192448=(g3,some (.arr 3 1 (nP (jx ls ls.length))))/\
  ao 6785344128=(g5,some (.arr 3 1 (nP (sW ls (fQ ls (F+1)) ls.length)))))
theorem rk3{al:Al}(okD:al.ok 2240320128=true)(ok:∀id,jy id=106->al.ok id=true){mF aj:aw}{ak:Env}{g g1 g2 g3 g4 F:Nat}{ls:List Let}{c3 c5:C}(hl:ls.length<=1000000)(hF:F<=1000000)(hg:qY F ls)
  (h0:ak 0=.one (.aX 2240320128 g 0)) (h6:ak 6=.one (hs 6784832384 g4 (F+1))) (h7:ak 7=vi (fQ ls (F+1)))
  (bD:aj 2240320128=(g,some (.var (vf F ls (hs 6784128448 g2 ls.length) c3 (hs 6784192448 g3 ls.length) c5 (hs 6784064448 g1 (F+1))))))
  (bC:aj 6784064448=(g1,some (.arr 3 1 (nP (counts ls F))))) (bW:aj 6784128448=(g2,some (.arr 4 1 (bP (jD ls))))) (mf:aj 6784192448=(g3,some (.arr 3 1 (nP (jx ls 0)))))
  (bF:aj 6784832384=(g4,some (.arr 3 1 (nP (IM ls F))))) (hk:Kept HY mF aj):W S al i106_r5 (qS al [(2,none)] (Ki F ls g c5 mF)) ak aj:=by
 have o1:=ok 6784064448 rfl;have o2:=ok 6784128448 rfl;have o3:=ok 6784192448 rfl;have o4:=ok 6784448192 rfl;have o5:=ok 6784832384 rfl;have o6:=ok 6785344128 rfl;have o7:=ok 6785408064 rfl;have o8:=ok 6785600192 rfl;have hT:=To ls (F+1);have ML:fQ ls (F+1)*8<=140737488355328:=aa;have ig:fQ ls (F+1)<=140737488355328:=aa;simp only[go_sem,i106_r5,h0,h7,bD,ML,ig,okD,o6,o7];refine cJ (fun k ak ao=>ak 0=.one (.aX 2240320128 g 0)/\ak 6=.one (hs 6784832384 g4 (F+1))/\ak 10=.one (hs 6785408064 ((aj 6785408064).1+1) (fQ ls (F+1)))/\ak 114=.one (.p (cQ ls))/\ak 115=vi ls.length/\ak 116=vi k/\
  ao 2240320128=(g,some (.var (vf F ls (hs 6784128448 g2 ls.length) (hs 6785344128 ((aj 6785344128).1+1) (fQ ls (F+1))) (hs 6784192448 g3 ls.length) c5 (hs 6784064448 g1 (F+1)))))/\
  ao 6784064448=(g1,some (.arr 3 1 (nP (counts ls F))))/\ao 6784128448=(g2,some (.arr 4 1 (bP (jD ls))))/\ao 6784192448=(g3,some (.arr 3 1 (nP (jx ls k))))/\
  ao 6784832384=(g4,some (.arr 3 1 (nP (IM ls F))))/\ao 6785344128=((aj 6785344128).1+1,some (.arr 3 1 (nP (sW ls (fQ ls (F+1)) k))))/\ao 6785408064=((aj 6785408064).1+1,some (.arr 4 1 (bP (xt ls (fQ ls (F+1)) k))))/\
  (∀i,i<k->tB ls i=true)/\Kept HY mF ao) 0 ls.length (bj _) ?_ ?_
 .simp only[go_sem,h0,h6,bC,bW,mf,bF,ahp,asL,Ve,XL];refine⟨rfl,rfl,fun i h=>absurd h (mT i),?_⟩;repeat(first|exact hk|refine Kept.dj ?_ (by first|exact Or.inl rfl|exact Or.inr rfl) _)
 rintro k ak ao hk ⟨h0,h6,fP,L1,I0,En,bD,bC,bW,mf,bF,bA,bT,au,dq⟩
 by_cases aq:k<ls.length
 .obtain⟨l,eI⟩:=aM aq;have hi:=fv eI;have aL:((k:Int)<(ls.length:Int)):=aa;have w1:=bN (n:=k) aa;cases hp:(l.kind==1) with
  |false=>
   have iU:l.aJ=false:=hp;have qo:(l.kind !=1)=true:=by simp[bne,hp]
   have mv:tB ls k=true:=by simp[tB,eI,iU]
   simp only[go_sem,i106_l3,h0,h6,fP,L1,I0,En,bD,bC,bW,bF,mf,bA,bT,hi,Let.ps,aL,qo,w1,o8];refine⟨aq,?_,?_,?_,?_,?_⟩
   .rw[ape eI iU]
   .rw[aho eI iU]
   .rw[asK eI iU]
   .intro i hi;rcases lL.1 hi with h|rfl
    .exact au i h
    exact mv
   repeat(first|exact dq|refine Kept.dj ?_ (by first|exact Or.inl rfl|exact Or.inr rfl) _)
  |true=>
   have iU:l.aJ=true:=hp;have qo:(l.kind !=1)=false:=by simp[bne,hp]
   obtain⟨zy,Cw⟩:=hg l (aW eI) iU;obtain⟨G,hG⟩:=uu zy;have I3:G<=F:=aa;have Gn:G<F+1:=aa;have wH:=iF (OV (ls:=ls) I3);have vr:=iF (akd (ls:=ls) I3);have nk:l.gate.toNat=G:=aa;cases r1:decide (l.aE<1) with
   |true=>have sG:l.aE<1:=l7 r1;have r1n:¬1<=l.aE:=aa;have dr:=VL aq (show tB ls k=false by simp[tB,eI,iU,r1n]);simp only[go_sem,i106_l3,L1,I0,En,hi,Let.ps,aL,qo,sG,o8];refine⟨aK,?_⟩;unfold Ki;refine⟨by rw[dr],?_,fun h=>by rw[dr] at h;cases h⟩;repeat(first|exact dq|refine Kept.dj ?_ (by first|exact Or.inl rfl|exact Or.inr rfl) _)
   |false=>
    have sG:¬l.aE<1:=fA r1;obtain⟨R,hR⟩:=uu (show 0<=l.aE by omega);have r1R:¬((R:Int)<1):=aa;cases r2:decide ((cg ls G:Int)<(R:Int)) with
    |true=>
     have tA:(cg ls G:Int)<(R:Int):=l7 r2;have r2n:¬l.aE<=(cg ls l.gate.toNat:Int):=by rw[nk];omega
     have dr:=VL aq (show tB ls k=false by simp[tB,eI,iU,r2n]);simp only[go_sem,i106_l3,h0,L1,I0,En,bD,bC,hi,Let.ps,aL,qo,hR,hG,r1R,tA,wH,Gn,okD,o1,o8];refine⟨aK,?_⟩;unfold Ki;refine⟨by rw[dr],?_,fun h=>by rw[dr] at h;cases h⟩;repeat(first|exact dq|refine Kept.dj ?_ (by first|exact Or.inl rfl|exact Or.inr rfl) _)
    |false=>
     have tA:¬(cg ls G:Int)<(R:Int):=fA r2;have hfle:=To ls G;have hmono:=AT (ls:=ls) (show G+1<=F+1 by omega);have wK:=tS ls G;have hPT:dO ls l<fQ ls (F+1):=by unfold dO;rw[nk];omega
     have cK:fQ ls G+R-1=dO ls l:=by unfold dO;rw[nk];omega
     have cP:cg ls G<=ls.length:=oU _ _;have w2:=wrap_add (a:=fQ ls G) (b:=R) aa;have w3:=FL (a:=fQ ls G+R) aa aa;rw[cK] at w3;have GR:=pZ (asI (ls:=ls) (k:=k) hPT);cases hu:(List.range k).any (tg ls (dO ls l)) with
     |true=>rw[hu] at GR;have dr:=VL aq (show tB ls k=false by simp[tB,eI,iU,hu]);simp only[go_sem,i106_l3,h0,h6,fP,L1,I0,En,bD,bC,bF,bT,hi,Let.ps,aL,qo,hR,hG,r1R,tA,wH,vr,Gn,w2,w3,GR,hPT,okD,o1,o5,o7,o8];refine⟨aK,aK,?_⟩;unfold Ki;refine⟨by rw[dr],?_,fun h=>by rw[dr] at h;cases h⟩;repeat(first|exact dq|refine Kept.dj ?_ (by first|exact Or.inl rfl|exact Or.inr rfl) _)
     |false=>
      rw[hu] at GR;have mv:tB ls k=true:=by
       have e1:1<=l.aE:=aa;have e2:l.aE<=(cg ls l.gate.toNat:Int):=by rw[nk];omega
       simp[tB,eI,e1,e2,hu]
      obtain⟨a0,wE⟩:=aM (show dO ls l<(sW ls (fQ ls (F+1)) k).length by rw[XF];exact hPT);obtain⟨p0,EL⟩:=aM (show k<(jx ls k).length by rw[apd];exact aq);have wE:=iF wE;have EL:=iF EL;have s1:=Il (xt ls (fQ ls (F+1)) k) (dO ls l) true;rw[<- asJ eI iU] at s1;have s2:=JO (sW ls (fQ ls (F+1)) k) (dO ls l) k;rw[<- ahn eI iU hu] at s2;have s3:=JO (jx ls k) k (dO ls l);rw[<- apc eI iU] at s3;simp only[go_sem,i106_l3,h0,h6,fP,L1,I0,En,bD,bC,bW,bF,mf,bA,bT,hi,Let.ps,aL,aq,qo,w1,hR,hG,r1R,tA,wH,vr,Gn,w2,w3,GR,hPT,wE,EL,s1,s2,s3,okD,o1,o3,o5,o6,o7,o8];refine⟨aK,aK,aK,?_,?_⟩
      .intro i hi;rcases lL.1 hi with h|rfl
       .exact au i h
       exact mv
      repeat(first|exact dq|refine Kept.dj ?_ (by first|exact Or.inl rfl|exact Or.inr rfl) _)
 have:k=ls.length:=aa;subst this;have hr:=aqg au;simp only[go_sem,i106_l3,i106_r4,I0,En,dG];exact⟨by rw[hr],dq,fun _=>⟨g1,g2,g3,(aj 6785344128).1+1,bD,bC,bW,mf,bA⟩⟩
theorem rk2{al:Al}(okD:al.ok 2240320128=true)(ok:∀id,jy id=106->al.ok id=true){mF aj:aw}{ak:Env}{g g1 g2 g3 F:Nat}{ls:List Let}{c3 c5:C}(hl:ls.length<=1000000)(hF:F<=1000000)(hg:qY F ls)
  (h0:ak 0=.one (.aX 2240320128 g 0))
  (bD:aj 2240320128=(g,some (.var (vf F ls (hs 6784128448 g2 ls.length) c3 (hs 6784192448 g3 ls.length) c5 (hs 6784064448 g1 (F+1))))))
  (bC:aj 6784064448=(g1,some (.arr 3 1 (nP (counts ls F))))) (bW:aj 6784128448=(g2,some (.arr 4 1 (bP (jD ls))))) (mf:aj 6784192448=(g3,some (.arr 3 1 (nP (jx ls 0)))))
  (hk:Kept HY mF aj):W S al i106_r6 (qS al [(2,none)] (Ki F ls g c5 mF)) ak aj:=by
 have o1:=ok 6784064448 rfl;have o2:=ok 6784128448 rfl;have o3:=ok 6784192448 rfl;have o4:=ok 6784448192 rfl;have o5:=ok 6784832384 rfl;have o6:=ok 6785344128 rfl;have o7:=ok 6785408064 rfl;have o8:=ok 6785600192 rfl;have ML:(F+1)*8<=140737488355328:=aa;have wF:=bN (n:=F) aa;simp only[go_sem,i106_r6,h0,bD,wF,ML,okD,o5];refine cJ (fun k ak ao=>ak 0=.one (.aX 2240320128 g 0)/\ak 6=.one (hs 6784832384 ((aj 6784832384).1+1) (F+1))/\ak 7=vi (fQ ls k)/\ak 88=.one (hs 6784064448 g1 (F+1))/\ak 89=vi ((F+1:Nat):Int)/\ak 90=vi k/\
  ao 2240320128=(g,some (.var (vf F ls (hs 6784128448 g2 ls.length) c3 (hs 6784192448 g3 ls.length) c5 (hs 6784064448 g1 (F+1)))))/\
  ao 6784064448=(g1,some (.arr 3 1 (nP (counts ls F))))/\ao 6784128448=(g2,some (.arr 4 1 (bP (jD ls))))/\ao 6784192448=(g3,some (.arr 3 1 (nP (jx ls 0))))/\
  ao 6784832384=((aj 6784832384).1+1,some (.arr 3 1 (nP (wA ls F k))))/\Kept HY mF ao) 0 (F+1) (bj _) ?_ ?_
 .simp only[go_sem,h0,bD,bC,bW,mf,akc,Ve];refine⟨rfl,rfl,rfl,?_⟩;repeat(first|exact hk|refine Kept.dj ?_ (by first|exact Or.inl rfl|exact Or.inr rfl) _)
 rintro k ak ao hk ⟨h0,h6,h7,h88,h89,h90,bD,bC,bW,mf,bF,dq⟩
 by_cases aq:k<F+1
 .have aL:((k:Int)<((F+1:Nat):Int)):=aa;have w1:=bN (n:=k) aa;have hc:=iF (OV (ls:=ls) (show k<=F by omega));obtain⟨a0,ha⟩:=aM (show k<(wA ls F k).length by rw[aka];exact aq);have ha:=iF ha;have s1:=JO (wA ls F k) k (fQ ls k);rw[<- akb] at s1;have hs:=tS ls k;have hle:=To ls (k+1);have w2:=wrap_add (a:=fQ ls k) (b:=cg ls k) aa;rw[<- hs] at w2;simp only[go_sem,i106_l2,h0,h6,h7,h88,h89,h90,bD,bC,bW,mf,bF,aq,aL,hc,ha,s1,w1,w2,o1,o5];repeat(first|exact dq|refine Kept.dj ?_ (by first|exact Or.inl rfl|exact Or.inr rfl) _)
 have:k=F+1:=aa;subst this;simp only[go_sem,i106_l2,h89,h90,dG];exact rk3 okD ok hl hF hg h0 h6 h7 bD bC bW mf (by rw[bF,aj9]) dq
theorem aqf{al:Al}(okD:al.ok 2240320128=true)(ok:∀id,jy id=106->al.ok id=true){aj:aw}{g F:Nat}{ls:List Let}{c2 c3 c4 c5 c6:C}(hl:ls.length<=1000000)(hF:F<=1000000)(hg:qY F ls)
  (bD:aj 2240320128=(g,some (.var (vf F ls c2 c3 c4 c5 c6)))):∃v ao,iw S 106 [.one (.aX 2240320128 g 0)] al aj v ao/\Ki F ls g c5 aj v ao:=by
 have o1:=ok 6784064448 rfl;have o2:=ok 6784128448 rfl;have o3:=ok 6784192448 rfl;have o4:=ok 6784448192 rfl;have o5:=ok 6784832384 rfl;have o6:=ok 6785344128 rfl;have o7:=ok 6785408064 rfl;have o8:=ok 6785600192 rfl;refine mV c106 (iv rfl) ?_;have ML:(F+1)*8<=140737488355328:=aa;have hn8:ls.length*8<=140737488355328:=aa;have jt:ls.length<=140737488355328:=aa;have wF:=bN (n:=F) aa;simp only[go_sem,i106,bD,wF,ML,hn8,jt,okD,o1,o2,o3];refine cJ (fun k ak ao=>ak 0=.one (.aX 2240320128 g 0)/\ak 3=vb (dn ls k)/\ak 48=.one (.p (cQ ls))/\ak 49=vi ls.length/\ak 50=vi k/\
  ao 2240320128=(g,some (.var (vf F ls (hs 6784128448 ((aj 6784128448).1+1) ls.length) c3 (hs 6784192448 ((aj 6784192448).1+1) ls.length) c5 (hs 6784064448 ((aj 6784064448).1+1) (F+1)))))/\
  ao 6784064448=((aj 6784064448).1+1,some (.arr 3 1 (nP (rW ls F k))))/\ao 6784128448=((aj 6784128448).1+1,some (.arr 4 1 (bP (tN ls k))))/\ao 6784192448=((aj 6784192448).1+1,some (.arr 3 1 (nP (jx ls 0))))/\
  Kept HY aj ao) 0 ls.length (bj _) ?_ ?_
 .simp only[go_sem,bD,SZ,ajf,apf,Ve,XL];refine⟨rfl,rfl,rfl,rfl,?_⟩;repeat(first|exact(Kept.refl _ _)|refine Kept.dj ?_ (by first|exact Or.inl rfl|exact Or.inr rfl) _)
 rintro k ak ao hk ⟨h0,h3,xW,h49,h50,bD,bC,bW,mf,dq⟩
 by_cases aq:k<ls.length
 .obtain⟨l,eI⟩:=aM aq;have hi:=fv eI;have aL:((k:Int)<(ls.length:Int)):=aa;have w1:=bN (n:=k) aa;cases hp:(l.kind==1) with
  |false=>
   have iU:l.aJ=false:=hp;simp only[go_sem,i106_l1,h0,h3,xW,h49,h50,bD,bC,bW,mf,hi,Let.ps,aL,hp,w1,o4];refine⟨aq,?_,?_,?_,?_⟩
   .rw[Ls eI iU]
   .rw[YF eI iU]
   .rw[aje eI iU]
   repeat(first|exact dq|refine Kept.dj ?_ (by first|exact Or.inl rfl|exact Or.inr rfl) _)
  |true=>have iU:l.aJ=true:=hp;obtain⟨zy,Cw⟩:=hg l (aW eI) iU;obtain⟨G,hG⟩:=uu zy;have I3:G<=F:=aa;have Gn:G<F+1:=aa;have wH:=iF (YD (ls:=ls) (k:=k) I3);have cP:cg (ls.take k) G<=k:=y7 _ _ _;have w2:=bN (n:=cg (ls.take k) G) aa;have s1:=JO (rW ls F k) G (cg (ls.take k) G+1);rw[<- YE eI iU hG] at s1;obtain⟨b0,hb⟩:=aM (show k<(tN ls k).length by rw[ajd];exact aq);have hb:=pZ hb;have s2:=Il (tN ls k) k (dn ls k);rw[<- ajc eI iU] at s2;have hd:=Lr eI iU;simp only[go_sem,i106_l1,h0,h3,xW,h49,h50,bD,bC,bW,mf,hi,Let.ps,aL,aq,hp,w1,hG,wH,Gn,w2,s1,hb,s2,hd,okD,o1,o2,o4];refine⟨aK,?_⟩;repeat(first|exact dq|refine Kept.dj ?_ (by first|exact Or.inl rfl|exact Or.inr rfl) _)
 have:k=ls.length:=aa;subst this;simp only[go_sem,i106_l1,h49,h50,dG];exact rk2 okD ok hl hF hg h0 bD (by rw[bC,SY]) (by rw[bW,ajb]) mf dq
def rh(ls:List Let)(id:Int)(o:Bool)(j:Nat):Bool:=match ls[j]? with|some m=>m.aG&&(m.id==id&&m.over==o)|none=>false
def fX(ls:List Let)(k:Nat)(id:Int)(o:Bool):Option Nat:=(List.range k).find? (rh ls id o)
def Bz:Option Nat->Int
 |some j=>j
 |none=> -1
def fe(ls:List Let):Nat->List Int
 |0=>[]
 |k+1=>match ls[k]? with
  |some l=>if l.aG&& !(fe ls k).contains l.id then fe ls k++[l.id] else fe ls k
  |none=>fe ls k
def qT(ls:List Let)(k:Nat)(id:Int):List PV:=[.int .i64 (Bz (fX ls k id false)),.int .i64 (Bz (fX ls k id true))]
def pM(ls:List Let)(k:Nat):List (PV×List PV):=(fe ls k).map fun id=>(PV.int .i64 id,qT ls k id)
def Dp(ls:List Let)(j:Nat):Int:=((ls[j]?).map Let.sign).getD 0
def mB(ls:List Let)(n2:Nat)(k:Nat):Bool:=match ls[k]? with
 |some l=> !l.aG||((decide (1<=l.id)&&decide (l.id<=(n2:Int)))&&((fX ls k l.id l.over).isNone&&(match fX ls k l.id (!l.over) with|some j=>Dp ls j==l.sign|none=>true)))
 |none=>true
def lQ(ls:List Let):Bool:=(aC Let.aG ls%2==0)&&(List.range ls.length).all (mB ls (aC Let.aG ls/2))&&((fe ls ls.length).length==aC Let.aG ls/2)
theorem Jh{ls:List Let}{k:Nat}{l:Let}(h:ls[k]?=some l)(hc:l.aG=true)(id:Int)(o:Bool):rh ls id o k=(l.id==id&&l.over==o):=by simp[rh,h,hc]
theorem aaO{ls:List Let}{k:Nat}{l:Let}(h:ls[k]?=some l)(hc:l.aG=false)(id:Int)(o:Bool):rh ls id o k=false:=by simp[rh,h,hc]
theorem Ro(ls:List Let)(k:Nat)(id:Int)(o:Bool):fX ls (k+1) id o=(fX ls k id o).or (if rh ls id o k then some k else none):=by simp only[fX,uZ,af4,RW,List.find?_nil];cases rh ls id o k<;>rfl
theorem HG{ls:List Let}{k:Nat}{id:Int}{o:Bool}{j:Nat}(h:fX ls k id o=some j):j<k/\rh ls id o j=true:=
 ⟨fg.1 (KS h),RX h⟩
theorem A4{ls:List Let}{id:Int}{o:Bool}{j:Nat}(h:rh ls id o j=true):∃m,ls[j]?=some m/\m.aG=true/\m.id=id/\m.over=o:=by
 unfold rh at h;split at h
 .rename_i m hm;simp only[cN,dL] at h;exact⟨m,hm,h.1,h.2.1,h.2.2⟩
 cases h
theorem NX{ls:List Let}{k:Nat}{id:Int}{o:Bool}(h:fX ls k id o=none){j:Nat}(hj:j<k):rh ls id o j=false:=by
 have:=Of.1 h j (fg.2 hj)
 simpa using this
theorem aa8{ls:List Let}{k:Nat}{l:Let}(h:ls[k]?=some l)(hc:l.aG=false):fe ls (k+1)=fe ls k:=by simp[fe,h,hc]
theorem aa9{ls:List Let}{k:Nat}{l:Let}(h:ls[k]?=some l)(hc:l.aG=true)(hn:l.id∉fe ls k):fe ls (k+1)=fe ls k++[l.id]:=by simp[fe,h,hc,hn]
theorem aba{ls:List Let}{k:Nat}{l:Let}(h:ls[k]?=some l)(hn:l.id∈fe ls k):fe ls (k+1)=fe ls k:=by simp[fe,h,hn]
theorem an6{ls:List Let}{k:Nat}{l:Let}(h:ls[k]?=some l)(hc:l.aG=false):pM ls (k+1)=pM ls k:=by unfold pM qT;rw[aa8 h hc];simp[Ro,aaO h hc]
theorem amo{ls:List Let}{id:Int}:∀(k:Nat),k<=ls.length->(id∈fe ls k↔ ∃j o,j<k/\rh ls id o j=true):=by
 intro k
 induction k with
 |zero=>intro _;simp[fe]
 |succ k ih=>
  intro hk;obtain⟨l,hl⟩:=aM (show k<ls.length by omega);have ih:=ih aa;have old:(∃j o,j<k/\rh ls id o j=true)->∃j o,j<k+1/\rh ls id o j=true:=fun⟨j,o,h1,h2⟩=>⟨j,o,aa,h2⟩;cases hc:l.aG with
  |false=>
   rw[aa8 hl hc,ih];refine⟨old,?_⟩;rintro ⟨j,o,h1,h2⟩
   rcases lL.1 h1 with h|rfl
   .exact⟨j,o,h,h2⟩
   rw[aaO hl hc] at h2;cases h2
  |true=>
   have key:id∈fe ls (k+1)↔(id∈fe ls k\/id=l.id):=by
    by_cases hm:l.id∈fe ls k
    .rw[aba hl hm];exact⟨Or.inl,fun h=>h.elim eZ (fun e=>e▸hm)⟩
    rw[aa9 hl hc hm];simp
   rw[key,ih];constructor
   .rintro (h|rfl)
    .exact old h
    exact⟨k,l.over,aa,by rw[Jh hl hc];simp⟩
   rintro ⟨j,o,h1,h2⟩
   rcases lL.1 h1 with h|rfl
   .exact Or.inl ⟨j,o,h,h2⟩
   rw[Jh hl hc] at h2;simp only[cN,dL] at h2;exact Or.inr h2.1.symm
where eZ {p:Prop} (h:p):p:=h
theorem G0{ls:List Let}{id:Int}{k:Nat}(h:k<=ls.length):id∈fe ls k↔ ∃j o,j<k/\rh ls id o j=true:=amo k h
theorem PW(ls:List Let):∀k,(fe ls k).Nodup:=by
 intro k
 induction k with
 |zero=>simp[fe]
 |succ k ih=>
  unfold fe;split
  .split
   .rename_i h;simp only[cN,sM,WH,decide_eq_false_iff_not] at h;rw[DH];refine⟨ih,af,?_⟩;intro a ha b hb;simp only[lK] at hb;subst hb;rintro rfl
    exact h.2 ha
   exact ih
  exact ih
theorem atj{ls:List Let}{k:Nat}(hk:k<=ls.length){id:Int}(h:id∉fe ls k)(o:Bool):fX ls k id o=none:=by
 cases hv:fX ls k id o with
 |none=>rfl
 |some j=>obtain⟨h1,h2⟩:=HG hv;exact absurd ((G0 hk).2 ⟨j,o,h1,h2⟩) h
theorem afD{ls:List Let}{k:Nat}(hk:k<=ls.length){id:Int}(h:id∈fe ls k)(o:Bool)(hn:fX ls k id o=none):∃j m,fX ls k id (!o)=some j/\ls[j]?=some m/\j<k:=by
 obtain⟨j,o',h1,h2⟩:=(G0 hk).1 h;by_cases e:o'=o
 .subst e;rw[NX hn h1] at h2;cases h2
 have e:o'= !o:=by cases o<;>cases o'<;>simp_all
 subst e;cases hv:fX ls k id (!o) with
 |none=>rw[NX hv h1] at h2;cases h2
 |some i=>obtain⟨h3,h4⟩:=HG hv;obtain⟨m,hm,_⟩:=A4 h4;exact⟨i,m,rfl,hm,h3⟩
theorem afE{ls:List Let}{k:Nat}{l:Let}(h:ls[k]?=some l)(hc:l.aG=true){id:Int}(hn:¬l.id=id)(o:Bool):fX ls (k+1) id o=fX ls k id o:=by rw[Ro,Jh h hc];simp[hn]
theorem Wt{ls:List Let}{k:Nat}{l:Let}(h:ls[k]?=some l)(hc:l.aG=true)(hn:fX ls k l.id l.over=none):fX ls (k+1) l.id l.over=some k:=by rw[Ro,Jh h hc,hn];simp
theorem Ws{ls:List Let}{k:Nat}{l:Let}(h:ls[k]?=some l)(hc:l.aG=true):fX ls (k+1) l.id (!l.over)=fX ls k l.id (!l.over):=by rw[Ro,Jh h hc];cases l.over<;>simp
theorem Zo{ls:List Let}{k:Nat}{l:Let}(h:ls[k]?=some l)(hc:l.aG=true){id:Int}(hn:¬l.id=id):qT ls (k+1) id=qT ls k id:=by unfold qT;rw[afE h hc hn,afE h hc hn]
theorem an7{ls:List Let}{k:Nat}{l:Let}(h:ls[k]?=some l)(hc:l.aG=true)(hn:l.id∉fe ls k):pM ls (k+1)=pM ls k++[(.int .i64 l.id,qT ls (k+1) l.id)]:=by unfold pM;rw[aa9 h hc hn,rQ];congr 1;apply KO;intro id hid;rw[Zo h hc (by rintro rfl;exact hn hid)]
theorem an8{ls:List Let}{k:Nat}{l:Let}(h:ls[k]?=some l)(hc:l.aG=true)(hn:l.id∈fe ls k):pM ls (k+1)=(pM ls k).set ((fe ls k).idxOf l.id) (.int .i64 l.id,qT ls (k+1) l.id):=by
 unfold pM;rw[aba h hn];apply xy
 .simp
 intro i h1 h2;rw[KL];simp only[cH] at h1;by_cases e:(fe ls k).idxOf l.id=i
 .subst e;simp only[DF,aD,WQ]
 rw[ay e];simp only[DF];rw[Zo h hc];intro e2;apply e;rw[e2];exact(PW ls k).idxOf_getElem i h1
theorem ZN(ls:List Let)(k:Nat)(q:Int):oZ (.int .i64 q) (pM ls k) 0=some (if q∈fe ls k then some ((fe ls k).idxOf q,qT ls k q) else none):=by unfold pM;rw[aj6];simp
theorem Iy{ls:List Let}{k:Nat}(hk:k<ls.length)(h:mB ls (aC Let.aG ls/2) k=false):lQ ls=false:=by have:(List.range ls.length).all (mB ls (aC Let.aG ls/2))=false:=WE.2 ⟨k,fg.2 hk,by simp[h]⟩;simp[lQ,this]
theorem S4{ls:List Let}(he:aC Let.aG ls%2=0)(h:∀i,i<ls.length->mB ls (aC Let.aG ls/2) i=true):lQ ls=((fe ls ls.length).length==aC Let.aG ls/2):=by have:(List.range ls.length).all (mB ls (aC Let.aG ls/2))=true:=ir.2 fun i hi=>h i (fg.1 hi);simp[lQ,this,he]
abbrev W2(id:Nat):Prop:=id=2240320128\/jy id=107
def HM(F:Nat)(ls:List Let)(g:Nat)(c2 c3 c4 c6:C)(mF:aw)(v:V)(ao:aw):Prop:=v=vb (lQ ls)/\Kept W2 mF ao/\(lQ ls=true->∃g1,ao 2240320128=(g,some (.var (vf F ls c2 c3 c4 (.jW 6848256064 g1) c6)))/\ao 6848256064=(g1,some (.map true (pM ls ls.length))))
theorem ge0(j:Nat):decide ((0:Int)<=(j:Int))=true:=DK aa
theorem wr0:IntKind.i64.wrap 0=0:=ae
theorem wr1:IntKind.i64.wrap 1=1:=ae
theorem JP:((-1:Int)≥0)=False:=af
theorem neg1':((0:Int)<= -1)=False:=af
theorem ai1{al:Al}(okD:al.ok 2240320128=true)(ok:∀id,jy id=107->al.ok id=true){aj:aw}{g F:Nat}{ls:List Let}{c2 c3 c4 c5 c6:C}(hl:ls.length<=1000000)
  (bD:aj 2240320128=(g,some (.var (vf F ls c2 c3 c4 c5 c6)))):∃v ao,iw S 107 [.one (.aX 2240320128 g 0)] al aj v ao/\HM F ls g c2 c3 c4 c6 aj v ao:=by
 have o1:=ok 6848256064 rfl;have o2:=ok 6848448192 rfl;have o3:=ok 6848704640 rfl;refine mV c107 (iv rfl) ?_;have pc:=S5 F ls hl;have cP:aC Let.aG ls<=ls.length:=oU _ _;cases he:(((aC Let.aG ls%2:Nat):Int)!=0) with
 |true=>
  have dr:lQ ls=false:=by
   have:(aC Let.aG ls%2==0)=false:=by simp at he ⊢;omega
   simp[lQ,this]
  simp only[go_sem,i107,bD,s68,LS pc,iL,dS,he,okD];exact⟨by rw[dr],Kept.refl _ _,fun h=>by rw[dr] at h;cases h⟩
 |false=>
  have he0:aC Let.aG ls%2=0:=by simp at he;omega
  simp only[go_sem,i107,bD,s68,LS pc,iL,dS,he,okD,o1];refine cJ (fun k ak ao=>ak 0=.one (.aX 2240320128 g 0)/\ak 3=vi (aC Let.aG ls)/\ak 25=.one (.p (cQ ls))/\ak 26=vi ls.length/\ak 27=vi k/\
   ao 2240320128=(g,some (.var (vf F ls c2 c3 c4 (.jW 6848256064 ((aj 6848256064).1+1)) c6)))/\ao 6848256064=((aj 6848256064).1+1,some (.map true (pM ls k)))/\
   (∀i,i<k->mB ls (aC Let.aG ls/2) i=true)/\Kept W2 aj ao) 0 ls.length (bj _) ?_ ?_
  .simp only[go_sem,bD];refine⟨rfl,rfl,fun i h=>absurd h (mT i),?_⟩;repeat(first|exact(Kept.refl _ _)|refine Kept.dj ?_ (by first|exact Or.inl rfl|exact Or.inr rfl) _)
  rintro k ak ao hk ⟨h0,h3,mn,xT,xU,bD,bM,au,dq⟩
  have wq:IntKind.i64.wrap ((aC Let.aG ls/2:Nat):Int)=((aC Let.aG ls/2:Nat):Int):=wrap_small aa;by_cases aq:k<ls.length
  .obtain⟨l,eI⟩:=aM aq;have hi:=fv eI;have aL:((k:Int)<(ls.length:Int)):=aa;have w1:=bN (n:=k) aa;cases hc:(l.kind==2) with
   |false=>
    have jT:l.aG=false:=hc;have hp:(l.kind !=2)=true:=by simp[bne,hc]
    have mv:mB ls (aC Let.aG ls/2) k=true:=by simp[mB,eI,jT]
    simp only[go_sem,i107_l1,h0,h3,mn,xT,xU,bD,bM,hi,Let.ps,aL,hp,w1,o2];refine⟨aq,?_,?_,?_⟩
    .rw[an6 eI jT]
    .intro i hi;rcases lL.1 hi with h|rfl
     .exact au i h
     exact mv
    repeat(first|exact dq|refine Kept.dj ?_ (by first|exact Or.inl rfl|exact Or.inr rfl) _)
   |true=>
    have jT:l.aG=true:=hc;have hp:(l.kind !=2)=false:=by simp[bne,hc]
    cases r1:decide (l.id<1) with
    |true=>have sG:l.id<1:=l7 r1;have r1n:¬1<=l.id:=aa;have dr:=Iy aq (show mB ls (aC Let.aG ls/2) k=false by simp[mB,eI,jT,r1n]);simp only[go_sem,i107_l1,mn,xT,xU,hi,Let.ps,aL,hp,sG,o2];unfold HM;refine⟨by rw[dr],?_,fun h=>by rw[dr] at h;cases h⟩;repeat(first|exact dq|refine Kept.dj ?_ (by first|exact Or.inl rfl|exact Or.inr rfl) _)
    |false=>
     have sG:¬l.id<1:=fA r1;have r1y:1<=l.id:=aa;cases r2:decide (((aC Let.aG ls/2:Nat):Int)<l.id) with
     |true=>have tA:((aC Let.aG ls/2:Nat):Int)<l.id:=l7 r2;have r2n:¬l.id<=((aC Let.aG ls/2:Nat):Int):=aa;have dr:=Iy aq (show mB ls (aC Let.aG ls/2) k=false by simp only[mB,eI,jT,r2n];simp);simp only[go_sem,i107_l1,h3,mn,xT,xU,hi,Let.ps,aL,hp,sG,tA,fp,dS,wq,o2];unfold HM;refine⟨by rw[dr],?_,fun h=>by rw[dr] at h;cases h⟩;repeat(first|exact dq|refine Kept.dj ?_ (by first|exact Or.inl rfl|exact Or.inr rfl) _)
     |false=>
      have tA:¬((aC Let.aG ls/2:Nat):Int)<l.id:=fA r2;have r2y:l.id<=((aC Let.aG ls/2:Nat):Int):=aa;have hf:=ZN ls k l.id;have nA:mB ls (aC Let.aG ls/2) k=((fX ls k l.id l.over).isNone&&(match fX ls k l.id (!l.over) with|some j=>Dp ls j==l.sign|none=>true)):=by simp only[mB,eI,jT,r1y,r2y,decide_true];rfl
      by_cases hm:l.id∈fe ls k
      .rw[aD hm] at hf;obtain⟨e0,hse⟩:=aM (show(fe ls k).idxOf l.id<(pM ls k).length by simp[pM];exact List.idxOf_lt_length_of_mem hm);have A8:=an8 eI jT hm;have Mk:qT ls k l.id=[.int .i64 (Bz (fX ls k l.id false)),.int .i64 (Bz (fX ls k l.id true))]:=rfl;rw[Mk] at hf;cases ho:l.over with
       |true=>
        cases hv:fX ls k l.id true with
        |some j=>have dr:=Iy aq (show mB ls (aC Let.aG ls/2) k=false by rw[nA,ho,hv];rfl);rw[hv] at hf;simp only[Bz] at hf;simp only[go_sem,i107_l1,h0,h3,mn,xT,xU,bD,bM,hi,Let.ps,aL,hp,sG,tA,fp,dS,wq,hf,ho,ge0,mapOf,mapVal,gZ,Int.reduceNeg,okD,o1,o2,o3];refine⟨aK,aK,?_⟩;unfold HM;refine⟨by rw[dr],?_,fun h=>by rw[dr] at h;cases h⟩;repeat(first|exact dq|refine Kept.dj ?_ (by first|exact Or.inl rfl|exact Or.inr rfl) _)
        |none=>
         obtain⟨j,m,hj,GF,hjk⟩:=afD hk hm true hv;have hj:fX ls k l.id false=some j:=hj;have CA:=fv GF;have Jt:Dp ls j=m.sign:=by simp[Dp,GF]
         rw[hv,hj] at hf;simp only[Bz] at hf;cases hs:(m.sign==l.sign) with
         |false=>
          have iV:(m.sign !=l.sign)=true:=by simp[bne,hs]
          have dr:=Iy aq (show mB ls (aC Let.aG ls/2) k=false by rw[nA,ho,hv];simp only[DB,hj,Jt,hs];rfl);simp only[go_sem,i107_l1,h0,h3,mn,xT,xU,bD,bM,hi,Let.ps,aL,hp,sG,tA,fp,dS,wq,hf,ho,JP,CA,iV,wr0,mapOf,mapVal,gZ,Int.reduceNeg,Int.reduceSub,okD,o1,o2,o3];refine⟨aK,aK,?_⟩;unfold HM;refine⟨by rw[dr],?_,fun h=>by rw[dr] at h;cases h⟩;repeat(first|exact dq|refine Kept.dj ?_ (by first|exact Or.inl rfl|exact Or.inr rfl) _)
         |true=>
          have iV:(m.sign !=l.sign)=false:=by simp[bne,hs]
          have mv:mB ls (aC Let.aG ls/2) k=true:=by rw[nA,ho,hv];simp only[DB,hj,Jt,hs];rfl
          have ry:=Wt eI jT (show fX ls k l.id l.over=none by rw[ho];exact hv);have wT:=Ws eI jT;rw[ho] at ry wT;rw[show fX ls k l.id (!true)=some j from hj] at wT;have TZ:qT ls (k+1) l.id=[.int .i64 (j:Int),.int .i64 (k:Int)]:=by simp only[qT];rw[ry,show fX ls (k+1) l.id false=some j from wT];rfl
          rw[TZ] at A8;simp only[go_sem,i107_l1,h0,h3,mn,xT,xU,bD,bM,hi,Let.ps,aL,hp,w1,sG,tA,fp,dS,wq,hf,ho,JP,CA,iV,wr0,mapOf,mapVal,gZ,xH,Int.reduceNeg,Int.reduceSub,okD,o1,o2,o3];refine⟨aK,aK,aK,?_⟩;refine⟨aq,?_,?_,?_⟩
          .rw[A8]
          .intro i hi;rcases lL.1 hi with h|rfl
           .exact au i h
           exact mv
          repeat(first|exact dq|refine Kept.dj ?_ (by first|exact Or.inl rfl|exact Or.inr rfl) _)
       |false=>
        cases hv:fX ls k l.id false with
        |some j=>have dr:=Iy aq (show mB ls (aC Let.aG ls/2) k=false by rw[nA,ho,hv];rfl);rw[hv] at hf;simp only[Bz] at hf;simp only[go_sem,i107_l1,h0,h3,mn,xT,xU,bD,bM,hi,Let.ps,aL,hp,sG,tA,fp,dS,wq,hf,ho,ge0,mapOf,mapVal,gZ,Int.reduceNeg,okD,o1,o2,o3];refine⟨aK,aK,?_⟩;unfold HM;refine⟨by rw[dr],?_,fun h=>by rw[dr] at h;cases h⟩;repeat(first|exact dq|refine Kept.dj ?_ (by first|exact Or.inl rfl|exact Or.inr rfl) _)
        |none=>
         obtain⟨j,m,hj,GF,hjk⟩:=afD hk hm false hv;have hj:fX ls k l.id true=some j:=hj;have CA:=fv GF;have Jt:Dp ls j=m.sign:=by simp[Dp,GF]
         rw[hv,hj] at hf;simp only[Bz] at hf;cases hs:(m.sign==l.sign) with
         |false=>
          have iV:(m.sign !=l.sign)=true:=by simp[bne,hs]
          have dr:=Iy aq (show mB ls (aC Let.aG ls/2) k=false by rw[nA,ho,hv];simp only[Rx,hj,Jt,hs];rfl);simp only[go_sem,i107_l1,h0,h3,mn,xT,xU,bD,bM,hi,Let.ps,aL,hp,sG,tA,fp,dS,wq,hf,ho,JP,CA,iV,wr1,mapOf,mapVal,gZ,Int.reduceNeg,Int.reduceSub,okD,o1,o2,o3];refine⟨aK,aK,?_⟩;unfold HM;refine⟨by rw[dr],?_,fun h=>by rw[dr] at h;cases h⟩;repeat(first|exact dq|refine Kept.dj ?_ (by first|exact Or.inl rfl|exact Or.inr rfl) _)
         |true=>
          have iV:(m.sign !=l.sign)=false:=by simp[bne,hs]
          have mv:mB ls (aC Let.aG ls/2) k=true:=by rw[nA,ho,hv];simp only[Rx,hj,Jt,hs];rfl
          have ry:=Wt eI jT (show fX ls k l.id l.over=none by rw[ho];exact hv);have wT:=Ws eI jT;rw[ho] at ry wT;rw[show fX ls k l.id (!false)=some j from hj] at wT;have TZ:qT ls (k+1) l.id=[.int .i64 (k:Int),.int .i64 (j:Int)]:=by simp only[qT];rw[ry,show fX ls (k+1) l.id true=some j from wT];rfl
          rw[TZ] at A8;simp only[go_sem,i107_l1,h0,h3,mn,xT,xU,bD,bM,hi,Let.ps,aL,hp,w1,sG,tA,fp,dS,wq,hf,ho,JP,CA,iV,wr1,mapOf,mapVal,gZ,xH,Int.reduceNeg,Int.reduceSub,okD,o1,o2,o3];refine⟨aK,aK,aK,?_⟩;refine⟨aq,?_,?_,?_⟩
          .rw[A8]
          .intro i hi;rcases lL.1 hi with h|rfl
           .exact au i h
           exact mv
          repeat(first|exact dq|refine Kept.dj ?_ (by first|exact Or.inl rfl|exact Or.inr rfl) _)
      rw[ay hm] at hf;have hv:=atj hk hm;have rl:=an7 eI jT hm;have mv:mB ls (aC Let.aG ls/2) k=true:=by rw[nA,hv,hv];rfl
      have ry:=Wt eI jT (hv _);have wT:=Ws eI jT;rw[hv] at wT;cases ho:l.over with
      |true=>
       rw[ho] at ry wT;have Mk:qT ls (k+1) l.id=[.int .i64 (-1),.int .i64 (k:Int)]:=by simp only[qT];rw[ry,show fX ls (k+1) l.id false=none from wT];rfl
       rw[Mk] at rl;simp only[go_sem,i107_l1,h0,h3,mn,xT,xU,bD,bM,hi,Let.ps,aL,hp,w1,sG,tA,fp,dS,wq,hf,ho,JP,mapOf,mapVal,gZ,xH,Ou,Int.reduceNeg,okD,o1,o2,o3];refine⟨aK,aK,aK,?_⟩;refine⟨aq,?_,?_,?_⟩
       .rw[rl]
       .intro i hi;rcases lL.1 hi with h|rfl
        .exact au i h
        exact mv
       repeat(first|exact dq|refine Kept.dj ?_ (by first|exact Or.inl rfl|exact Or.inr rfl) _)
      |false=>
       rw[ho] at ry wT;have Mk:qT ls (k+1) l.id=[.int .i64 (k:Int),.int .i64 (-1)]:=by simp only[qT];rw[ry,show fX ls (k+1) l.id true=none from wT];rfl
       rw[Mk] at rl;simp only[go_sem,i107_l1,h0,h3,mn,xT,xU,bD,bM,hi,Let.ps,aL,hp,w1,sG,tA,fp,dS,wq,hf,ho,JP,mapOf,mapVal,gZ,xH,Ou,Int.reduceNeg,okD,o1,o2,o3];refine⟨aK,aK,aK,?_⟩;refine⟨aq,?_,?_,?_⟩
       .rw[rl]
       .intro i hi;rcases lL.1 hi with h|rfl
        .exact au i h
        exact mv
       repeat(first|exact dq|refine Kept.dj ?_ (by first|exact Or.inl rfl|exact Or.inr rfl) _)
  have:k=ls.length:=aa;subst this;have hr:=S4 he0 au;have lT:(pM ls ls.length).length=(fe ls ls.length).length:=by simp[pM]
  have hb:((((fe ls ls.length).length:Nat):Int)==((aC Let.aG ls/2:Nat):Int))=((fe ls ls.length).length==aC Let.aG ls/2):=by
   cases h:((fe ls ls.length).length==aC Let.aG ls/2) with
   |true=>simp at h ⊢;omega
   |false=>simp at h ⊢;omega
  simp only[go_sem,i107_l1,i107_r2,h0,h3,xT,xU,bD,bM,dG,zU,Int.reduceNeg,lT,fp,dS,wq,hb,okD,o1];exact⟨by rw[hr],dq,fun _=>⟨_,bD,bM⟩⟩
theorem F6{p:Let->Bool}{ls:List Let}{i:Nat}{l:Let}(h:ls[i]?=some l)(hp:p l=true):aC p ls=1↔ ∀j m,ls[j]?=some m->p m=true->j=i:=by
 obtain⟨hi,e⟩:=bg.1 h;have hs:ls=ls.take i++l::ls.drop (i+1):=by rw[<- e,DE];simp
 have hc:aC p ls=aC p (ls.take i)+(aC p (ls.drop (i+1))+1):=by
  conv=>lhs;rw[hs]
  simp[aC,FQ,hp]
 constructor
 .intro h1 j m hj hm;have z1:aC p (ls.take i)=0:=aa;have z2:aC p (ls.drop (i+1))=0:=aa;have z1:=Oe.1 z1;have z2:=Oe.1 z2;rcases Ot j i with zC|zC|zC
  .have:m∈ls.take i:=aW (i:=j) (by rw[lI,aD zC,hj]);exact absurd hm (z1 m this)
  .exact zC
  have:m∈ls.drop (i+1):=aW (i:=j-(i+1)) (by rw[Aw,show i+1+(j-(i+1))=j by omega,hj]);exact absurd hm (z2 m this)
 intro hu;have z1:aC p (ls.take i)=0:=by
  refine Oe.2 fun m hm mM=>?_;obtain⟨j,hj⟩:=jd hm;have zC:j<i:=by have:=(bg.1 hj).1;rw[gT] at this;omega
  rw[lI,aD zC] at hj;have:=hu j m hj mM;omega
 have z2:aC p (ls.drop (i+1))=0:=by refine Oe.2 fun m hm mM=>?_;obtain⟨j,hj⟩:=jd hm;rw[Aw] at hj;have:=hu _ m hj mM;omega
 omega
theorem aiy{p:Let->Bool}{ls:List Let}(h:∀(i j:Nat) (l m:Let),ls[i]?=some l->ls[j]?=some m->p l=true->p m=true->i=j):aC p ls<=1:=by
 by_cases hz:aC p ls=0
 .omega
 have:0<ls.countP p:=Nat.pos_of_ne_zero hz;obtain⟨l,hl,hp⟩:=yJ.1 this;obtain⟨i,hi⟩:=jd hl;have:=(F6 hi hp).2 fun j m hj hm=>h j i m l hj hi hm hp;omega
structure tW (F:Nat) (ls:List Let) (l:Let):Prop where
 g0:0<=l.gate
 g1:l.gate<=(F:Int)
 r0:1<=l.aE
 r1:l.aE<=(cg ls l.gate.toNat:Int)
theorem Fu{ls:List Let}{l m:Let}(hl:tW F ls l)(hm:tW F ls m):dO ls l=dO ls m↔l.gate=m.gate/\l.aE=m.aE:=by
 obtain⟨l1,l2,l3,l4⟩:=hl;obtain⟨m1,m2,m3,m4⟩:=hm;unfold dO;constructor
 .intro h;have sl:=tS ls l.gate.toNat;have sm:=tS ls m.gate.toNat;rcases Ot l.gate.toNat m.gate.toNat with c|c|c
  .have:=AT (ls:=ls) (show l.gate.toNat+1<=m.gate.toNat by omega);omega
  .rw[c] at h;omega
  have:=AT (ls:=ls) (show m.gate.toNat+1<=l.gate.toNat by omega);omega
 rintro ⟨h1,h2⟩;rw[h1,h2]
theorem adU{ls:List Let}{l m:Let}(hl:tW F ls l)(hm:tW F ls m):Fe l m=true↔dO ls l<dO ls m:=by
 obtain⟨l1,l2,l3,l4⟩:=hl;obtain⟨m1,m2,m3,m4⟩:=hm;unfold dO Fe;simp only[sN,cN,kV,dL];have sl:=tS ls l.gate.toNat;have sm:=tS ls m.gate.toNat;rcases Ot l.gate.toNat m.gate.toNat with c|c|c
 .have:=AT (ls:=ls) (show l.gate.toNat+1<=m.gate.toNat by omega);omega
 .rw[c];omega
 have:=AT (ls:=ls) (show m.gate.toNat+1<=l.gate.toNat by omega);omega
theorem VF{ls:List Let}{l:Let}(hl:tW F ls l):dO ls l<fQ ls (F+1):=by obtain⟨l1,l2,l3,l4⟩:=hl;unfold dO;have sl:=tS ls l.gate.toNat;have:=AT (ls:=ls) (show l.gate.toNat+1<=F+1 by omega);omega
theorem QS{ls:List Let}{i:Nat}{l:Let}(h:ls[i]?=some l)(hp:l.aJ=true):tB ls i=true↔1<=l.aE/\l.aE<=(cg ls l.gate.toNat:Int)/\ ∀j m,j<i->ls[j]?=some m->m.aJ=true->dO ls m≠dO ls l:=by
 simp only[tB,h,hp,DB,DA,cN,kV,sM,HO,fg];constructor
 .rintro ⟨⟨h1,h2⟩,h3⟩
  refine⟨h1,h2,fun j m hj hm mM e=>?_⟩;have:=h3 j hj;rw[Mm hm mM] at this;simp[e] at this
 rintro ⟨h1,h2,h3⟩
 refine⟨⟨h1,h2⟩,fun j hj=>?_⟩;unfold tg;split
 .rename_i m hm;cases mM:m.aJ with
  |false=>simp
  |true=>simpa using h3 j m hj hm mM
 simp
theorem NA{ls:List Let}(hg:qY F ls):yC ls=true↔(∀l∈ls,l.aJ=true->tW F ls l)/\ ∀(i j:Nat) (l m:Let),ls[i]?=some l->ls[j]?=some m->l.aJ=true->m.aJ=true->dO ls l=dO ls m->i=j:=by
 unfold yC;rw[ir];constructor
 .intro h;refine⟨fun l hl hp=>?_,fun i j l m hi hj cK mM e=>?_⟩
  .obtain⟨i,hi⟩:=jd hl;have:=(QS hi hp).1 (h i (fg.2 (bg.1 hi).1));exact⟨(hg l hl hp).1,(hg l hl hp).2,this.1,this.2.1⟩
  have ci:=(QS hi cK).1 (h i (fg.2 (bg.1 hi).1));have cj:=(QS hj mM).1 (h j (fg.2 (bg.1 hj).1));rcases Ot i j with c|c|c
  .exact absurd e (cj.2.2 i l c hi cK)
  .exact c
  exact absurd e.symm (ci.2.2 j m c hj mM)
 rintro ⟨h1,h2⟩ i hi
 obtain⟨l,hl⟩:=aM (fg.1 hi);cases hp:l.aJ with
 |false=>simp[tB,hl,hp]
 |true=>have hg:=h1 l (aW hl) hp;refine(QS hl hp).2 ⟨hg.r0,hg.r1,fun j m hj hm mM e=>?_⟩;have:=h2 j i m l hm hl mM hp e;omega
theorem PX(g:Int)(h:0<=g)(l:Let):nZ g l=vZ g.toNat l:=by unfold nZ vZ;rw[Int.toNat_of_nonneg h]
theorem xg{f:Int}{l:Let}(hp:l.aJ=true):dA f l=false↔(((0<=l.gate/\l.gate<=f)/\l.id=0)/\l.sign=0)/\l.over=false:=by unfold Let.aJ at hp;simp only[dA,hp,if_true,Od,decide_eq_false_iff_not,bne_eq_false_iff_eq,Int.not_lt]
theorem JW{f:Int}{ls:List Let}{l:Let}(hp:l.aJ=true):vH f ls l=true↔dA f l=false/\1<=l.aE/\l.aE<=(aC (nZ l.gate) ls:Int)/\aC (iJ l) ls=1:=by
 rw[xg hp];unfold vH;simp only[sM,Od,decide_eq_false_iff_not,bne_eq_false_iff_eq];constructor
 .rintro ⟨⟨⟨⟨⟨⟨⟨a,b⟩,c⟩,d⟩,e⟩,g⟩,h⟩,i⟩
  exact⟨⟨⟨⟨⟨aa,aa⟩,a⟩,b⟩,c⟩,aa,aa,aa⟩
 rintro ⟨⟨⟨⟨⟨d,e⟩,a⟩,b⟩,c⟩,g,h,i⟩
 exact⟨⟨⟨⟨⟨⟨⟨a,b⟩,c⟩,aa⟩,aa⟩,aa⟩,aa⟩,aa⟩
theorem QY{l m:Let}(hp:l.aJ=true):iJ l m=true↔m.aJ=true/\m.gate=l.gate/\m.aE=l.aE:=by unfold Let.aJ at hp ⊢;simp only[dL] at hp;unfold iJ;simp only[cN,dL,hp,and_assoc]
theorem aoZ{ls:List Let}:(∀l∈ls,l.aJ=true->vH F ls l=true)↔(∀l∈ls,l.aJ=true->dA F l=false)/\yC ls=true:=by
 constructor
 .intro h;have hb:∀l∈ls,l.aJ=true->dA F l=false:=fun l hl hp=>((JW hp).1 (h l hl hp)).1;have hg:qY F ls:=fun l hl hp=>((xg hp).1 (hb l hl hp)).1.1.1;refine⟨hb,(NA hg).2 ⟨fun l hl hp=>?_,fun i j l m hi hj cK mM e=>?_⟩⟩
  .obtain⟨_,h2,h3,_⟩:=(JW hp).1 (h l hl hp);have:=hg l hl hp;refine⟨this.1,this.2,h2,?_⟩;have e:aC (nZ l.gate) ls=cg ls l.gate.toNat:=by unfold cg aC;congr 1;funext m;exact PX _ this.1 m
   omega
  have gl:tW F ls l:=by
   obtain⟨_,h2,h3,_⟩:=(JW cK).1 (h l (aW hi) cK);have:=hg l (aW hi) cK;have e:aC (nZ l.gate) ls=cg ls l.gate.toNat:=by unfold cg aC;congr 1;funext m;exact PX _ this.1 m
   exact⟨this.1,this.2,h2,aa⟩
  have gm:tW F ls m:=by
   obtain⟨_,h2,h3,_⟩:=(JW mM).1 (h m (aW hj) mM);have:=hg m (aW hj) mM;have e:aC (nZ m.gate) ls=cg ls m.gate.toNat:=by unfold cg aC;congr 1;funext m;exact PX _ this.1 m
   exact⟨this.1,this.2,h2,aa⟩
  have e2:=(Fu gl gm).1 e;have hs:=((JW mM).1 (h m (aW hj) mM)).2.2.2;exact(F6 hj ((QY mM).2 ⟨mM,rfl,rfl⟩)).1 hs i l hi ((QY mM).2 ⟨cK,e2.1,e2.2⟩)
 rintro ⟨hb,hr⟩ l hl hp
 have hg:qY F ls:=fun l hl hp=>((xg hp).1 (hb l hl hp)).1.1.1;obtain⟨h1,h2⟩:=(NA hg).1 hr;have gl:=h1 l hl hp;have e:aC (nZ l.gate) ls=cg ls l.gate.toNat:=by unfold cg aC;congr 1;funext m;exact PX _ gl.g0 m
 obtain⟨i,hi⟩:=jd hl;refine(JW hp).2 ⟨hb l hl hp,gl.r0,by rw[e];exact gl.r1,(F6 hi ((QY hp).2 ⟨hp,rfl,rfl⟩)).2 fun j m hj hs=>?_⟩;obtain⟨mM,eg,er⟩:=(QY hp).1 hs;exact h2 j i m l hj hi mM hp ((Fu (h1 m (aW hj) mM) gl).2 ⟨eg,er⟩)
def r7(id:Int)(o:Bool)(l:Let):Bool:=l.aG&&(l.id==id&&l.over==o)
theorem Jg{ls:List Let}{j:Nat}{m:Let}(h:ls[j]?=some m)(id:Int)(o:Bool):rh ls id o j=r7 id o m:=by simp[rh,r7,h]
theorem qm{id:Int}{o:Bool}{l:Let}:r7 id o l=true↔l.aG=true/\l.id=id/\l.over=o:=by unfold r7;simp only[cN,dL]
def Hq(ls:List Let):Prop:=∀(i j:Nat) (l m:Let),ls[i]?=some l->ls[j]?=some m->l.aG=true->m.aG=true->l.id=m.id->i≠j->l.over≠m.over/\l.sign=m.sign
def UD(ls:List Let):Prop:=∀l∈ls,l.aG=true->1<=l.id/\l.id<=((aC Let.aG ls/2:Nat):Int)
theorem afS{ls:List Let}{n2 k:Nat}{l:Let}(h:ls[k]?=some l)(hc:l.aG=true):mB ls n2 k=true↔(1<=l.id/\l.id<=(n2:Int))/\fX ls k l.id l.over=none/\ ∀j,fX ls k l.id (!l.over)=some j->Dp ls j=l.sign:=by
 simp only[mB,h,hc,DB,DA,cN,kV,Option.isNone_iff_eq_none];constructor
 .rintro ⟨h1,h2,h3⟩
  refine⟨h1,h2,fun j hj=>?_⟩;rw[hj] at h3
  simpa using h3
 rintro ⟨h1,h2,h3⟩
 refine⟨h1,h2,?_⟩;split
 .rename_i j hj
  simpa using h3 j hj
 rfl
theorem HL{ls:List Let}:(∀k,k<ls.length->mB ls (aC Let.aG ls/2) k=true)↔UD ls/\Hq ls:=by
 constructor
 .intro h;have hx:∀ {k:Nat} {l:Let},ls[k]?=some l->l.aG=true->_:=fun {k l} hk hc=>(afS (n2:=aC Let.aG ls/2) hk hc).1 (h k (bg.1 hk).1);refine⟨fun l hl hc=>?_,?_⟩
  .obtain⟨i,hi⟩:=jd hl;exact(hx hi hc).1
  have key:∀(i j:Nat) (l m:Let),ls[i]?=some l->ls[j]?=some m->l.aG=true->m.aG=true->l.id=m.id->i<j->l.over≠m.over/\l.sign=m.sign:=by
   intro i j l m hi hj cP ya he eU;obtain⟨_,hn,hs⟩:=hx hj ya;have ho:l.over≠m.over:=by intro e;have:=NX hn eU;rw[Jg hi,qm.2 ⟨cP,he,e⟩] at this;cases this
   refine⟨ho,?_⟩;have kK:l.over= !m.over:=by revert ho;cases l.over<;>cases m.over<;>simp
   cases hv:fX ls j m.id (!m.over) with
   |none=>have:=NX hv eU;rw[Jg hi,qm.2 ⟨cP,he,kK⟩] at this;cases this
   |some p=>
    have h3:=hs p hv;obtain⟨ru,qo⟩:=HG hv;obtain⟨x,jv,EU,ll,hxo⟩:=A4 qo;have:p=i:=by
     rcases Ot p i with c|c|c
     .have wS:=(hx hi cP).2.1;have:=NX wS c;rw[Jg jv,qm.2 ⟨EU,by rw[ll,he],by rw[hxo,kK]⟩] at this;cases this
     .exact c
     have h4:(List.range j).find? (rh ls m.id (!m.over))=some p:=hv;rw[List.find?_range_eq_some] at h4;have:=h4.2.2 i c;rw[Jg hi,qm.2 ⟨cP,he,kK⟩] at this;cases this
    subst this;rw[hi] at jv;cases jv
    simpa [Dp,hi] using h3
  intro i j l m hi hj cP ya he eU;rcases agi eU with c|c
  .exact key i j l m hi hj cP ya he c
  have:=key j i m l hj hi ya cP he.symm c;exact⟨fun e=>this.1 e.symm,this.2.symm⟩
 rintro ⟨h1,h2⟩ k hk
 obtain⟨l,hl⟩:=aM hk;cases hc:l.aG with
 |false=>simp[mB,hl,hc]
 |true=>
  refine(afS hl hc).2 ⟨h1 l (aW hl) hc,?_,fun j hj=>?_⟩
  .cases hv:fX ls k l.id l.over with
   |none=>rfl
   |some p=>obtain⟨ru,qo⟩:=HG hv;obtain⟨x,jv,EU,ll,hxo⟩:=A4 qo;exact absurd hxo (h2 p k x l jv hl EU hc ll aa).1
  obtain⟨ru,qo⟩:=HG hj;obtain⟨x,jv,EU,ll,hxo⟩:=A4 qo;have:=(h2 j k x l jv hl EU hc ll aa).2;simp[Dp,jv,this]
theorem asz(ls:List Let):∀ids:List Int,ids.Nodup->(ids.map fun id=>aC (lu id) ls).sum=aC (fun l=>l.aG&&ids.contains l.id) ls:=by
 intro ids
 induction ids with
 |nil=>intro _;simp[aC]
 |cons a ids ih=>
  intro hn;rw[nI] at hn;rw[fy,R7,ih hn.2];refine(SX (p:=lu a) (q:=fun l=>l.aG&&ids.contains l.id) (r:=fun l=>l.aG&&(a::ids).contains l.id) ?_ ?_ ls).symm
  .intro l;simp only[lu,cN,dL,WH,kV,cI];constructor
   .rintro ⟨h1,h2|h2⟩
    .exact .inl ⟨h1,h2⟩
    exact .inr ⟨h1,h2⟩
   rintro (⟨h1,h2⟩|⟨h1,h2⟩)
   .exact⟨h1,.inl h2⟩
   exact⟨h1,.inr h2⟩
  intro l;simp only[lu,cN,dL,WH,kV];rintro ⟨_,h1⟩ ⟨_,h2⟩
  exact hn.1 (h1▸h2)
theorem PU{ls:List Let}{l:Let}(hl:l∈ls)(hc:l.aG=true):l.id∈fe ls ls.length:=by obtain⟨i,hi⟩:=jd hl;refine(G0 (bJ _)).2 ⟨i,l.over,(bg.1 hi).1,?_⟩;rw[Jg hi];exact qm.2 ⟨hc,rfl,rfl⟩
theorem Wh(ls:List Let):((fe ls ls.length).map fun id=>aC (lu id) ls).sum=aC Let.aG ls:=by
 rw[asz _ _ (PW ls _)];apply RO;intro l hl;cases hc:l.aG with
 |false=>simp
 |true=>simp[PU hl hc]
theorem Qb(id:Int)(ls:List Let):aC (lu id) ls=aC (r7 id true) ls+aC (r7 id false) ls:=by
 refine SX ?_ ?_ ls
 .intro l;rw[qm,qm];simp only[lu,cN,dL];cases l.over<;>simp
 intro l;rw[qm,qm];rintro ⟨_,_,h1⟩ ⟨_,_,h2⟩
 rw[h1] at h2;cases h2
theorem UH(id:Int)(o:Bool)(ls:List Let):aC (lu id) ls=aC (r7 id o) ls+aC (r7 id (!o)) ls:=by
 rw[Qb];cases o with
 |true=>rfl
 |false=>simp only[Rx];omega
theorem A3{ls:List Let}(h:Hq ls)(id:Int)(o:Bool):aC (r7 id o) ls<=1:=by refine aiy fun i j l m hi hj hl hm=>?_;obtain⟨l1,l2,l3⟩:=qm.1 hl;obtain⟨m1,m2,m3⟩:=qm.1 hm;refine Decidable.byContradiction fun aI=>?_;exact(h i j l m hi hj l1 m1 (by rw[l2,m2]) aI).1 (by rw[l3,m3])
theorem afg{f:Int->Nat}:∀ids:List Int,(∀x∈ids,f x<=2)->(ids.map f).sum<=2*ids.length:=by
 intro ids
 induction ids with
 |nil=>intro _;simp
 |cons a ids ih=>intro h;have:=ih fun x hx=>h x (yN _ hx);have:=h a KR;simp only[fy,R7,cS];omega
theorem Xu{f:Int->Nat}:∀ids:List Int,(∀x∈ids,f x<=2)->(ids.map f).sum=2*ids.length->∀x∈ids,f x=2:=by
 intro ids
 induction ids with
 |nil=>intro _ _ x hx;cases hx
 |cons a ids ih=>
  intro h hs;have h1:=afg ids fun x hx=>h x (yN _ hx);have h2:=h a KR;simp only[fy,R7,cS] at hs;intro x hx;rcases cI.1 hx with rfl|hx
  .omega
  exact ih (fun x hx=>h x (yN _ hx)) aa x hx
theorem asA{f:Int->Nat}:∀ids:List Int,(∀x∈ids,f x=2)->(ids.map f).sum=2*ids.length:=by
 intro ids
 induction ids with
 |nil=>intro _;simp
 |cons a ids ih=>intro h;have:=ih fun x hx=>h x (yN _ hx);have:=h a KR;simp only[fy,R7,cS];omega
theorem Vu{l m:Let}(hc:l.aG=true):hU l m=true↔m.aG=true/\m.id=l.id/\m.sign=l.sign/\m.over= !l.over:=by unfold Let.aG at hc ⊢;simp only[dL] at hc;unfold hU;simp only[cN,dL,hc,and_assoc,sM,tF,ne_eq];cases l.over<;>cases m.over<;>simp
theorem Vi{f:Int}{l:Let}(hc:l.aG=true):dA f l=false↔(l.gate=0/\l.aE=0)/\(l.sign !=1&&l.sign != -1)=false:=by
 unfold Let.aG at hc;have h1:(l.kind==1)=false:=by simp only[dL] at hc;rw[hc];rfl
 simp only[dA,hc,h1,if_true];simp
theorem ads{f:Int}{ls:List Let}{l:Let}(hc:l.aG=true):lV ls l=true↔dA f l=false/\(1<=l.id/\l.id<=((aC Let.aG ls/2:Nat):Int))/\aC (hU l) ls=1/\aC (lu l.id) ls=2:=by
 rw[Vi hc];unfold lV;simp only[sM,Od,decide_eq_false_iff_not,bne_eq_false_iff_eq];constructor
 .rintro ⟨⟨⟨⟨⟨⟨a,b⟩,c⟩,d⟩,e⟩,g⟩,h⟩
  exact⟨⟨⟨a,b⟩,c⟩,⟨aa,aa⟩,aa,aa⟩
 rintro ⟨⟨⟨a,b⟩,c⟩,⟨d,e⟩,g,h⟩
 exact⟨⟨⟨⟨⟨⟨a,b⟩,c⟩,aa⟩,aa⟩,aa⟩,aa⟩
theorem aiO{f:Int}{ls:List Let}:(∀l∈ls,l.aG=true->lV ls l=true)↔(∀l∈ls,l.aG=true->dA f l=false)/\lQ ls=true:=by
 have MT:=Wh ls;constructor
 .intro h;have cV:=fun l hl hc=>(ads (f:=f) hc).1 (h l hl hc);have hp:Hq ls:=by
   intro i j l m hi hj cP ya he eU;obtain⟨_,_,h3,h4⟩:=cV l (aW hi) cP;have e1:=UH l.id l.over ls;have g1:0<aC (r7 l.id l.over) ls:=yJ.2 ⟨l,aW hi,qm.2 ⟨cP,rfl,rfl⟩⟩;obtain⟨x,hx,iC⟩:=yJ.1 (show 0<ls.countP (hU l) by show 0<aC (hU l) ls;omega);obtain⟨x1,x2,x3,x4⟩:=(Vu cP).1 iC;have g2:0<aC (r7 l.id (!l.over)) ls:=yJ.2 ⟨x,hx,qm.2 ⟨x1,x2,x4⟩⟩;have u1:aC (r7 l.id l.over) ls=1:=aa;have u2:aC (r7 l.id (!l.over)) ls=1:=aa;have ho:l.over≠m.over:=by intro e;have:=(F6 hi (qm.2 ⟨cP,rfl,rfl⟩)).1 u1 j m hj (qm.2 ⟨ya,he.symm,e.symm⟩);exact eU this.symm
   refine⟨ho,?_⟩;have kK:m.over= !l.over:=by revert ho;cases l.over<;>cases m.over<;>simp
   obtain⟨p,jv⟩:=jd hx;have:=(F6 hj (qm.2 ⟨ya,he.symm,kK⟩)).1 u2 p x jv (qm.2 ⟨x1,x2,x4⟩);subst this;rw[jv] at hj;cases hj;exact x3.symm
  have amg:∀id∈fe ls ls.length,aC (lu id) ls=2:=by intro id hid;obtain⟨j,o,h1,h2⟩:=(G0 (bJ _)).1 hid;obtain⟨m,hm,hc,hi,_⟩:=A4 h2;rw[<- hi];exact(cV m (aW hm) hc).2.2.2
  rw[asA _ amg] at MT;refine⟨fun l hl hc=>(cV l hl hc).1,?_⟩;have hx:=(HL (ls:=ls)).2 ⟨fun l hl hc=>(cV l hl hc).2.1,hp⟩;rw[S4 aa hx];simp only[dL];omega
 rintro ⟨hb,hr⟩ l hl hc
 unfold lQ at hr;simp only[cN,dL,ir,fg] at hr;obtain⟨⟨he,hx⟩,hlen⟩:=hr;obtain⟨hid,hp⟩:=HL.1 hx;have hle:∀id∈fe ls ls.length,aC (lu id) ls<=2:=fun id _=>by rw[Qb id];have:=A3 hp id true;have:=A3 hp id false;omega
 have h2:=Xu _ hle (by rw[MT,hlen];omega) l.id (PU hl hc);have e1:=UH l.id l.over ls;have b1:=A3 hp l.id l.over;have b2:=A3 hp l.id (!l.over);refine(ads hc).2 ⟨hb l hl hc,hid l hl hc,?_,h2⟩;have u2:aC (r7 l.id (!l.over)) ls=1:=aa;obtain⟨i,hi⟩:=jd hl;obtain⟨x,hx,iC⟩:=yJ.1 (show 0<ls.countP (r7 l.id (!l.over)) by show 0<aC (r7 l.id (!l.over)) ls;omega);obtain⟨p,jv⟩:=jd hx;obtain⟨x1,x2,x3⟩:=qm.1 iC;have mu:p≠i:=by
  rintro rfl
  rw[hi] at jv;cases jv;revert x3;cases l.over<;>simp
 have hsg:=(hp p i x l jv hi x1 hc x2 mu).2;refine(F6 jv ((Vu hc).2 ⟨x1,x2,hsg,x3⟩)).2 fun j m hj hm=>?_;obtain⟨m1,m2,m3,m4⟩:=(Vu hc).1 hm;exact(F6 jv iC).1 u2 j m hj (qm.2 ⟨m1,m2,m4⟩)
theorem AN{f:Int}{l:Let}(h:dA f l=false):l.aJ=true\/l.aG=true:=by
 unfold Let.aJ Let.aG;cases h1:(l.kind==1) with
 |true=>exact .inl rfl
 |false=>
  cases h2:(l.kind==2) with
  |true=>exact .inr rfl
  |false=>simp only[dA,h1,h2] at h;cases h
theorem sD{l:Let}(hp:l.aJ=true):l.aG=false:=by unfold Let.aJ at hp;unfold Let.aG;simp only[dL] at hp;rw[hp];rfl
theorem adu{f:Int}{ls:List Let}{l:Let}(hp:l.aJ=true):eK f ls l=vH f ls l:=by unfold Let.aJ at hp;simp only[eK,hp,if_true]
theorem adt{f:Int}{ls:List Let}{l:Let}(hp:l.aG=true):eK f ls l=lV ls l:=by
 unfold Let.aG at hp;have h1:(l.kind==1)=false:=by simp only[dL] at hp;rw[hp];rfl
 simp only[eK,hp,h1,if_true];simp
theorem U1{ls:List Let}:w9 F ls=true↔ls.any (dA F)=false/\yC ls=true/\lQ ls=true:=by
 unfold w9;rw[ir,HO];have e1:=aoZ (F:=F) (ls:=ls);have e2:=aiO (f:=(F:Int)) (ls:=ls);constructor
 .intro h;have hk:=fun {l:Let} (hl:l∈ls)=>acu (f:=F) (ls:=ls) (ir.2 h) (jd hl).choose_spec;obtain⟨p1,p2⟩:=e1.1 fun l hl hp=>by rw[<- adu hp];exact h l hl
  obtain⟨c1,c2⟩:=e2.1 fun l hl hc=>by rw[<- adt (f:=F) hc];exact h l hl
  refine⟨fun l hl=>?_,p2,c2⟩;rcases hk hl with hp|hc
  .rw[p1 l hl hp];simp
  rw[c1 l hl hc];simp
 rintro ⟨hb,hr,hc⟩ l hl
 have hb:∀l∈ls,dA F l=false:=fun l hl=>by simpa using hb l hl
 rcases AN (hb l hl) with hp|jT
 .rw[adu hp];exact e1.2 ⟨fun l hl _=>hb l hl,hr⟩ l hl hp
 rw[adt jT];exact e2.2 ⟨fun l hl _=>hb l hl,hc⟩ l hl jT
theorem ar7{o:List Nat}(hs:o.Pairwise (· < ·))(aq:∀x∈o,x<o.length):∀(k:Nat) (h:k<o.length),o[k]=k:=by
 rw[KT] at hs;have lo:∀(k:Nat) (h:k<o.length),k<=o[k]:=by
  intro k
  induction k with
  |zero=>intro _;omega
  |succ k ih=>intro h;have:=ih aa;have:=hs k (k+1) aa h aa;omega
 have hi:∀(d k:Nat) (h:k<o.length),k+d+1=o.length->o[k]<=k:=by
  intro d
  induction d with
  |zero=>intro k h e;have:=aq _ (WR h);omega
  |succ d ih=>intro k h e;have:=ih (k+1) aa aa;have:=hs k (k+1) h aa aa;omega
 intro k h;have:=lo k h;have:=hi (o.length-k-1) k h aa;omega
theorem amG{key:Nat->Nat}{p:Nat->Bool}{i:Nat}:∀ {o:List Nat},o.Pairwise (fun a b=>key a<key b)->(∀x∈o,p x=decide (key x<key i))->(∀x∈o,key x≠key i)->
  (o.take (o.takeWhile p).length++i::o.drop (o.takeWhile p).length).Pairwise (fun a b=>key a<key b):=by
 intro o
 induction o with
 |nil=>intro _ _ _;simp
 |cons a o ih=>
  intro hs hp hn;rw[FT] at hs;have pa:=hp a KR;have na:=hn a KR;by_cases aq:key a<key i
  .have Ns:p a=true:=by rw[pa];simpa using aq
   rw[List.takeWhile_cons,aD Ns];simp only[cS,KV,List.drop_succ_cons,oI];rw[FT];refine⟨fun b hb=>?_,ih hs.2 (fun x hx=>hp x (yN _ hx)) (fun x hx=>hn x (yN _ hx))⟩;rcases dZ.1 hb with hb|hb
   .exact hs.1 b (xz hb)
   rcases cI.1 hb with rfl|hb
   .exact aq
   exact hs.1 b (vT hb)
  have Ns:¬p a=true:=by rw[pa];simpa using aq
  rw[List.takeWhile_cons,ay Ns];simp only[eE,WW,List.drop_zero,nH];rw[FT,FT];refine⟨fun b hb=>?_,hs⟩;rcases cI.1 hb with rfl|hb
  .omega
  have:=hs.1 b hb;omega
theorem Hr{ls:List Let}{i:Nat}{l:Let}(h:ls[i]?=some l)(hp:l.aJ=true):Bk ls i=dO ls l:=by simp[Bk,h,hp]
structure BO (F:Nat) (ls:List Let):Prop where
 eQ:∀l∈ls,l.aJ=true->tW F ls l
 inj:∀(i j:Nat) (l m:Let),ls[i]?=some l->ls[j]?=some m->l.aJ=true->m.aJ=true->dO ls l=dO ls m->i=j
theorem XH{ls:List Let}(h:BO F ls):∀k,k<=ls.length->(nK ls k).Pairwise (fun a b=>Bk ls a<Bk ls b):=by
 intro k
 induction k with
 |zero=>intro _;simp[nK]
 |succ k ih=>
  intro hk;have ih:=ih aa;rw[Ik];obtain⟨l,hl⟩:=aM (show k<ls.length by omega);unfold AM;rw[hl];simp only;cases hp:l.aJ with
  |false=>simpa using ih
  |true=>
   simp only[if_true];unfold zT;have hm:=fun {x:Nat} (hx:x∈nK ls k)=>(XG (ls:=ls) (k:=k) aa).1 hx;refine amG ih (fun x hx=>?_) (fun x hx e=>?_)
   .obtain⟨h1,m,hm,tZ⟩:=hm hx;rw[Hr hm tZ,Hr hl hp];unfold Bf;rw[hm,hl];simp only;have:=adU (h.eQ m (aW hm) tZ) (h.eQ l (aW hl) hp);cases hb:Fe m l with
    |true=>simpa using this.1 hb
    |false=>symm;rw[decide_eq_false_iff_not];intro hc;rw[this.2 hc] at hb;cases hb
   obtain⟨h1,m,hm,tZ⟩:=hm hx;rw[Hr hm tZ,Hr hl hp] at e;have:=h.inj x k m l hm hl tZ hp e;omega
theorem ahs{ls:List Let}:∀k,k<=ls.length->(nK ls k).length=aC Let.aJ (ls.take k):=by
 intro k
 induction k with
 |zero=>intro _;simp[nK,aC]
 |succ k ih=>
  intro hk;have ih:=ih aa;rw[Ik];obtain⟨l,hl⟩:=aM (show k<ls.length by omega);unfold AM;rw[hl];simp only;cases hp:l.aJ with
  |false=>rw[jB hl hp];simpa using ih
  |true=>simp only[if_true];rw[amB,sZ hl hp,ih]
theorem La{ls:List Let}:(aB ls).length=aC Let.aJ ls:=by have:=ahs (ls:=ls) ls.length (bJ _);rwa[kE] at this
theorem FX{ls:List Let}(h:qY F ls):fQ ls (F+1)=(aB ls).length:=by
 rw[La,ZO];apply RO;intro l hl;cases hp:l.aJ with
 |false=>simp
 |true=>have:=h l hl hp;simp only[xx,cN,kV,iff_true];omega
theorem BO.qY{ls:List Let}(h:BO F ls):qY F ls:=fun l hl hp=>⟨(h.eQ l hl hp).g0,(h.eQ l hl hp).g1⟩
theorem yX{ls:List Let}(h:BO F ls){k i:Nat}(hk:(aB ls)[k]?=some i):∃l,ls[i]?=some l/\l.aJ=true/\dO ls l=k:=by
 have hs:((aB ls).map (Bk ls)).Pairwise (· < ·):=by rw[BC];exact XH h ls.length (bJ _)
 have hT:=FX h.qY;have aq:∀x∈(aB ls).map (Bk ls),x<((aB ls).map (Bk ls)).length:=by intro x hx;obtain⟨j,hj,rfl⟩:=dI.1 hx;obtain⟨l,hl,hp⟩:=sY.1 hj;rw[Hr hl hp,cH,<- hT];exact VF (h.eQ l (aW hl) hp)
 obtain⟨cF,jV⟩:=bg.1 hk;have:=ar7 hs aq k (by rw[cH];exact cF);rw[DF,jV] at this;obtain⟨l,hl,hp⟩:=sY.1 (aW hk);exact⟨l,hl,hp,by rw[<- Hr hl hp];exact this⟩
theorem SA{ls:List Let}(h:BO F ls){i:Nat}{l:Let}(hl:ls[i]?=some l)(hp:l.aJ=true):(aB ls)[dO ls l]?=some i:=by have aq:=VF (h.eQ l (aW hl) hp);rw[FX h.qY] at aq;obtain⟨j,hj⟩:=aM aq;obtain⟨m,hm,tZ,he⟩:=yX h hj;rw[hj,h.inj j i m l hm hl tZ hp he]
theorem Lb{ls:List Let}(h:BO F ls){i:Nat}{l:Let}(hl:ls[i]?=some l)(hp:l.aJ=true):(aB ls).idxOf i=dO ls l:=by have h1:=SA h hl hp;have h2:=abc (aW h1);obtain⟨m,hm,tZ,he⟩:=yX h h2;rw[hl] at hm;cases hm;exact he.symm
theorem ahx{ls:List Let}(h:BO F ls):sW ls (fQ ls (F+1)) ls.length=aB ls:=by
 apply xy
 .rw[XF,FX h.qY]
 intro k h1 h2;simp only[sW,DF,KK];obtain⟨l,hl,hp,he⟩:=yX h (oJ h2);generalize (aB ls)[k]=i at hl;unfold axP;have iT:=(bg.1 hl).1;have hf:(List.range ls.length).find? (tg ls k)=some i:=by
  refine Cd iT (fun j hj=>?_) ?_
  .cases hh:tg ls k j with
   |false=>rfl
   |true=>
    unfold tg at hh;split at hh
    .rename_i m hm;simp only[cN,dL] at hh;have:=h.inj j i m l hm hl hh.1 hp (by rw[hh.2,he]);omega
    cases hh
  rw[Mm hl hp];simp[he]
 rw[hf];rfl
theorem Qx{ls:List Let}(hr:lQ ls=true){i:Nat}{l:Let}(hl:ls[i]?=some l)(hc:l.aG=true):fX ls ls.length l.id (!l.over)=some (hJ ls i)/\hJ ls i<ls.length:=by
 have MT:=Wh ls;unfold lQ at hr;simp only[cN,dL,ir,fg] at hr;obtain⟨⟨he,hx⟩,hlen⟩:=hr;obtain⟨hid,hp⟩:=HL.1 hx;have hle:∀id∈fe ls ls.length,aC (lu id) ls<=2:=fun id _=>by rw[Qb id];have:=A3 hp id true;have:=A3 hp id false;omega
 have h2:=Xu _ hle (by rw[MT,hlen];omega) l.id (PU (aW hl) hc);have e1:=UH l.id l.over ls;have b1:=A3 hp l.id l.over;have b2:=A3 hp l.id (!l.over);obtain⟨x,hx,iC⟩:=yJ.1 (show 0<ls.countP (r7 l.id (!l.over)) by show 0<aC (r7 l.id (!l.over)) ls;omega);obtain⟨p,jv⟩:=jd hx;obtain⟨x1,x2,x3⟩:=qm.1 iC;have hpn:=(bg.1 jv).1;have mu:p≠i:=by
  rintro rfl
  rw[hl] at jv;cases jv;revert x3;cases l.over<;>simp
 have uniq:∀(j:Nat) (m:Let),ls[j]?=some m->m.aG=true->m.id=l.id->j≠i->j=p:=by intro j m hj mc mi zC;refine Decidable.byContradiction fun aI=>?_;have o1:=(hp j i m l hj hl mc hc mi zC).1;have o2:=(hp j p m x hj jv mc x1 (by rw[mi,x2]) aI).1;rw[x3] at o2;revert o1 o2;cases m.over<;>cases l.over<;>simp
 have zx:(List.range ls.length).find? (zZ ls i)=some p:=by
  refine Cd hpn (fun j hj=>?_) ?_
  .cases hh:zZ ls i j with
   |false=>rfl
   |true=>
    unfold zZ at hh;simp only[cN,bne_iff_ne,ne_eq] at hh;obtain⟨h1,h2⟩:=hh;split at h2
    .rename_i m hm;simp only[cN,dL,hl,kU,lZ] at h2;have:=uniq j m hm h2.1 h2.2 h1;omega
    cases h2
  unfold zZ;rw[jv];simp[mu,x1,hl,x2]
 have ho:hJ ls i=p:=by unfold hJ;rw[zx];rfl
 rw[ho];refine⟨?_,hpn⟩;unfold fX;refine Cd hpn (fun j hj=>?_) ?_
 .cases hh:rh ls l.id (!l.over) j with
  |false=>rfl
  |true=>
   obtain⟨m,hm,mc,mi,mo⟩:=A4 hh;have zC:j≠i:=by
    rintro rfl
    rw[hl] at hm;cases hm;revert mo;cases l.over<;>simp
   have:=uniq j m hm mc mi zC;omega
 rw[Jg jv];exact iC
end
end Go.Abs
