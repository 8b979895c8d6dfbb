/- A part. -/
import Derived.Test.YtjdfokaegjgddaaGreatDoorSa
set_option linter.all false
set_option maxRecDepth 100000
set_option maxHeartbeats 16000000
namespace Go.Abs
section
variable{f:Int}{F:Nat}
structure Let where
 kind:Int
 gate:Int
 Yb:Int
 id:Int
 sign:Int
 over:Bool
 deriving DecidableEq
def Let.ps(l:Let):List PV:=[.int .i64 l.kind,.int .i64 l.gate,.int .i64 l.Yb,.int .i64 l.id,.int .i64 l.sign,.bool l.over]
def Let.aA(l:Let):Bool:=l.kind==1
def Let.aw(l:Let):Bool:=l.kind==2
abbrev kL(ls:List Let):PV:=.sl (ls.map Let.ps)
abbrev de(f:Int)(ls:List Let):V:=.agg [.p (.int .i64 f),.p (kL ls)]
abbrev mE(f:Int)(ls:List Let):List C:=[.p (.int .i64 f),.p (kL ls)]
abbrev vi(k:Int):V:=.one (.p (.int .i64 k))
abbrev vb(b:Bool):V:=.one (.p (.bool b))
abbrev ri(k:Int):RV:=.one (.p (.int .i64 k))
abbrev rb(k:Bool):RV:=.one (.p (.bool k))
abbrev ao(p:Let->Bool)(ls:List Let):Nat:=ls.countP p
theorem ai{α:Type}{ls:List α}{k:Nat}(h:k<ls.length):∃l,ls[k]?=some l:=⟨ls[k],by simp[h]⟩
theorem fC{p:Let->Bool}{ls:List Let}{k:Nat}{l:Let}(h:ls[k]?=some l)(hp:p l=true):ao p (ls.take (k+1))=ao p (ls.take k)+1:=by unfold ao;obtain⟨hk,rfl⟩:=aac.1 h;rw[List.take_succ_eq_append_getElem hk,abF,List.countP_singleton,if_pos hp]
theorem bJ{p:Let->Bool}{ls:List Let}{k:Nat}{l:Let}(h:ls[k]?=some l)(hp:p l=false):ao p (ls.take (k+1))=ao p (ls.take k):=by unfold ao;obtain⟨hk,rfl⟩:=aac.1 h;rw[List.take_succ_eq_append_getElem hk,abF,List.countP_singleton,hp];rfl
theorem eD(p:Let->Bool)(ls:List Let)(k:Nat):ao p (ls.take k)<=k:=abc List.countP_le_length (by rw[aay];exact Nat.min_le_left _ _)
theorem ir(p:Let->Bool)(ls:List Let):ao p ls<=ls.length:=List.countP_le_length
theorem ef{ls:List Let}{k:Nat}{l:Let}(h:ls[k]?=some l):(ls.map Let.ps)[k]?=some l.ps:=by simp[h]
theorem wrap_add{a b:Nat}(h:a+b<=9223372036854775807):IntKind.i64.wrap ((a:Int)+(b:Int))=((a+b:Nat):Int):=wrap_small (n:=a+b) h
theorem dr{a:Nat}(h:2*a<=9223372036854775807):IntKind.i64.wrap (2*(a:Int))=((2*a:Nat):Int):=wrap_small (n:=2*a) h
theorem xL{a b:Nat}(h:b<=a)(h2:a<=9223372036854775807):IntKind.i64.wrap ((a:Int)-(b:Int))=((a-b:Nat):Int):=by
 have:((a:Int)-(b:Int))=((a-b:Nat):Int):=by omega
 rw[this];exact wrap_small (by omega)
theorem jw{a:Nat}(h:1<=a)(h2:a<=9223372036854775807):IntKind.i64.wrap ((a:Int)-1)=((a-1:Nat):Int):=xL (b:=1) h h2
def CN(x y:Option (List PV×List Nat))(f:Nat):Option (PV×List Nat):=match x,y with
 |some (x,r),some (y,s)=>some (.fn f x y,r++s)
 |_,_=>none
theorem CM{x y:List PV}{r s:List Nat}{f:Nat}:CN (some (x,r)) (some (y,s)) f=some (.fn f x y,r++s):=rfl
theorem NH{X9:aE}{f:Nat}{a b:List C}:snap X9 cn (.hfn f a b)=CN (collect (snap X9 5) a) (collect (snap X9 5) b) f:=by unfold cn;rw[snap];unfold CN;rfl
theorem EG{X9:aE}{n id g off:Nat}:snap X9 (n+1) (.Yh id g off)=tU (X9 id) (collect (snap X9 n)) id g off:=by rw[snap];rfl
theorem Hp{X9:aE}{n id g z off len:Nat}:snap X9 (n+1) (.hsl id g z off len)=xe (X9 id) (collect (collect (snap X9 n))) id g off len:=by rw[snap];rfl
theorem aH{b:Bool}(h:b=true:=by kernel_rfl):b=true:=h
theorem aP{f:Nat}{fn:dD}{args:List V}{r:RV}(hf:S.fns f=some fn)(h:W S .all fn.body (pY .all fn.results fun v X9=>iE X9 v=some r) (pW args) qD)(hp:S.prim f args=none:=by rfl)(hl:args.length<=fn.ntmps:=by exact aaU rfl):bz S f args r:=Wp hp hf hl h
theorem ba:¬((2:Int)=0):=by decide
theorem fA(a b:Nat):(a:Int).tmod b=((a%b:Nat):Int):=by rw[Int.tmod_eq_emod_of_nonneg (by omega)];rfl
theorem eH(a:Nat):(a:Int).tmod 2=((a%2:Nat):Int):=fA a 2
theorem cY(a:Nat):(a:Int).tdiv 2=((a/2:Nat):Int):=by rw[Int.tdiv_eq_ediv_of_nonneg (by omega)];rfl
theorem aW{n:Nat}:¬((n:Int)<(n:Int)):=by omega
theorem ps_len(l:Let):l.ps.length=6:=rfl
theorem PC{X9:aE}{all:List Nat}:te X9 all []=some []:=rfl
attribute [go_sem] NH CM EG Hp PC
def AL(g:Int)(l:Let):Bool:=l.aA&&l.gate==g
def jE(g:Int)(l:Let):Bool:=l.aw&&l.id==g
theorem yN(f:Int)(ls:List Let)(hl:ls.length<=1000000):bz S 73 [de f ls] (ri (ao Let.aA ls)):=by
 refine aP c73 ?_;simp only[go_sem,i73];refine bm (fun k env _=>env 7=.one (.p (kL ls))/\env 8=vi ls.length/\env 9=vi k/\env 3=vi (ao Let.aA (ls.take k))) 0 ls.length (aae _) ?_ ?_
 .simp only[go_sem];exact⟨rfl,rfl⟩
 rintro k env X9 hk ⟨h7,h8,h9,h3⟩
 by_cases Ye:k<ls.length
 .obtain⟨l,Yw⟩:=ai Ye;have hi:=ef Yw;have Yf:((k:Int)<(ls.length:Int)):=by omega
  have hb:=eD (Let.aA) ls k;have w1:=ah (n:=k) (by omega);have w2:=ah (n:=ao (Let.aA) (ls.take k)) (by omega);cases hp:(l.kind==1) with
  |true=>have hc:=fC (p:=Let.aA) Yw hp;simp only[go_sem,i73_l1,h3,h7,h8,h9,hi,Let.ps,Yf,w1,w2,hp,hc];first|exact Ye|exact⟨Ye,rfl⟩
  |false=>have hc:=bJ (p:=Let.aA) Yw hp;simp only[go_sem,i73_l1,h3,h7,h8,h9,hi,Let.ps,Yf,w1,hp,hc];first|exact Ye|exact⟨Ye,rfl⟩
 have:k=ls.length:=by omega
 subst this;rw[aaV] at h3;simp only[go_sem,i73_l1,i73_r2,h3,h8,h9,aW]
theorem vw(f:Int)(ls:List Let)(hl:ls.length<=1000000):bz S 40 [de f ls] (ri (ao Let.aw ls)):=by
 refine aP c40 ?_;simp only[go_sem,i40];refine bm (fun k env _=>env 7=.one (.p (kL ls))/\env 8=vi ls.length/\env 9=vi k/\env 3=vi (ao Let.aw (ls.take k))) 0 ls.length (aae _) ?_ ?_
 .simp only[go_sem];exact⟨rfl,rfl⟩
 rintro k env X9 hk ⟨h7,h8,h9,h3⟩
 by_cases Ye:k<ls.length
 .obtain⟨l,Yw⟩:=ai Ye;have hi:=ef Yw;have Yf:((k:Int)<(ls.length:Int)):=by omega
  have hb:=eD (Let.aw) ls k;have w1:=ah (n:=k) (by omega);have w2:=ah (n:=ao (Let.aw) (ls.take k)) (by omega);cases hp:(l.kind==2) with
  |true=>have hc:=fC (p:=Let.aw) Yw hp;simp only[go_sem,i40_l1,h3,h7,h8,h9,hi,Let.ps,Yf,w1,w2,hp,hc];first|exact Ye|exact⟨Ye,rfl⟩
  |false=>have hc:=bJ (p:=Let.aw) Yw hp;simp only[go_sem,i40_l1,h3,h7,h8,h9,hi,Let.ps,Yf,w1,hp,hc];first|exact Ye|exact⟨Ye,rfl⟩
 have:k=ls.length:=by omega
 subst this;rw[aaV] at h3;simp only[go_sem,i40_l1,i40_r2,h3,h8,h9,aW]
theorem wH(f:Int)(ls:List Let)(hl:ls.length<=1000000):bz S 74 [de f ls] (ri ((ao Let.aw ls/2:Nat))):=by
 have hb:=ir Let.aw ls;have e1:IntKind.i64.wrap ((ao Let.aw ls:Int).tdiv 2)=((ao Let.aw ls/2:Nat):Int):=by
  have:(ao Let.aw ls:Int).tdiv 2=((ao Let.aw ls/2:Nat):Int):=by rw[Int.tdiv_eq_ediv_of_nonneg (by omega)];omega
  rw[this];exact wrap_small (by omega)
 refine aP c74 ?_;simp only[go_sem,i74,s40,bj (vw f ls hl),e1,(by decide:¬(2:Int)=0)]
theorem OB(f:Int)(ls:List Let)(hl:ls.length<=1000000):bz S 28 [de f ls] (ri (ao Let.aA ls)):=by
 refine aP c28 ?_;simp only[go_sem,i28];refine bm (fun k env X9=>env 1=.one (.Yh 1792000000 1 0)/\X9 1792000000=(1,some (.var (mE f ls)))/\env 4=vi k/\env 3=vi (ao Let.aA (ls.take k))) 0 ls.length (aae _) ?_ ?_
 .simp only[go_sem];first|exact⟨rfl,rfl⟩|exact⟨rfl,rfl,rfl⟩
 rintro k env X9 hk ⟨Yo,hB,hi1,ZG⟩
 by_cases Ye:k<ls.length
 .obtain⟨l,Yw⟩:=ai Ye;have hi:=ef Yw;have Yf:((k:Int)<(ls.length:Int)):=by omega
  have hb:=eD (Let.aA) ls k;have w1:=ah (n:=k) (by omega);have w2:=ah (n:=ao (Let.aA) (ls.take k)) (by omega);cases hp:(l.kind==1) with
  |true=>have hc:=fC (p:=Let.aA) Yw hp;simp only[go_sem,i28_l1,Yo,hB,hi1,ZG,hi,Let.ps,Yf,w1,w2,hp,hc];first|exact Ye|exact⟨Ye,rfl⟩
  |false=>have hc:=bJ (p:=Let.aA) Yw hp;simp only[go_sem,i28_l1,Yo,hB,hi1,ZG,hi,Let.ps,Yf,w1,hp,hc];first|exact Ye|exact⟨Ye,rfl⟩
 have:k=ls.length:=by omega
 subst this;rw[aaV] at ZG;simp only[go_sem,i28_l1,i28_r2,Yo,hB,hi1,ZG,aW]
theorem xU(f:Int)(ls:List Let)(hl:ls.length<=1000000):bz S 27 [de f ls] (ri (ao Let.aw ls)):=by
 refine aP c27 ?_;simp only[go_sem,i27];refine bm (fun k env X9=>env 1=.one (.Yh 1728000000 1 0)/\X9 1728000000=(1,some (.var (mE f ls)))/\env 4=vi k/\env 3=vi (ao Let.aw (ls.take k))) 0 ls.length (aae _) ?_ ?_
 .simp only[go_sem];first|exact⟨rfl,rfl⟩|exact⟨rfl,rfl,rfl⟩
 rintro k env X9 hk ⟨Yo,hB,hi1,ZG⟩
 by_cases Ye:k<ls.length
 .obtain⟨l,Yw⟩:=ai Ye;have hi:=ef Yw;have Yf:((k:Int)<(ls.length:Int)):=by omega
  have hb:=eD (Let.aw) ls k;have w1:=ah (n:=k) (by omega);have w2:=ah (n:=ao (Let.aw) (ls.take k)) (by omega);cases hp:(l.kind==2) with
  |true=>have hc:=fC (p:=Let.aw) Yw hp;simp only[go_sem,i27_l1,Yo,hB,hi1,ZG,hi,Let.ps,Yf,w1,w2,hp,hc];first|exact Ye|exact⟨Ye,rfl⟩
  |false=>have hc:=bJ (p:=Let.aw) Yw hp;simp only[go_sem,i27_l1,Yo,hB,hi1,ZG,hi,Let.ps,Yf,w1,hp,hc];first|exact Ye|exact⟨Ye,rfl⟩
 have:k=ls.length:=by omega
 subst this;rw[aaV] at ZG;simp only[go_sem,i27_l1,i27_r2,Yo,hB,hi1,ZG,aW]
theorem Gr(f:Int)(ls:List Let)(hl:ls.length<=1000000):bz S 31 [de f ls] (ri ((ao Let.aw ls/2:Nat))):=by
 have hb:=ir Let.aw ls;have e1:IntKind.i64.wrap ((ao Let.aw ls:Int).tdiv 2)=((ao Let.aw ls/2:Nat):Int):=by
  have:(ao Let.aw ls:Int).tdiv 2=((ao Let.aw ls/2:Nat):Int):=by rw[Int.tdiv_eq_ediv_of_nonneg (by omega)];omega
  rw[this];exact wrap_small (by omega)
 refine aP c31 ?_;simp only[go_sem,i31,s27,bj (xU f ls hl),e1,(by decide:¬(2:Int)=0)]
theorem in_r(f:Int)(ls:List Let)(hl:ls.length<=1000000)(g:Int):bz S 51 [de f ls,vi g] (ri (ao (AL g) ls)):=by
 refine aP c51 ?_;simp only[go_sem,i51];refine bm (fun k env X9=>env 2=.one (.Yh 3264000000 1 0)/\X9 3264000000=(1,some (.var (mE f ls)))/\env 6=vi k/\env 5=vi (ao (AL g) (ls.take k))/\env 1=vi g) 0 ls.length (aae _) ?_ ?_
 .simp only[go_sem];first|exact⟨rfl,rfl⟩|exact⟨rfl,rfl,rfl⟩
 rintro k env X9 hk ⟨Yo,hB,hi1,ZG,ha1⟩
 by_cases Ye:k<ls.length
 .obtain⟨l,Yw⟩:=ai Ye;have hi:=ef Yw;have Yf:((k:Int)<(ls.length:Int)):=by omega
  have hb:=eD ((AL g)) ls k;have w1:=ah (n:=k) (by omega);have w2:=ah (n:=ao ((AL g)) (ls.take k)) (by omega);cases hp:(l.kind==1) with
  |true=>
   cases hq:(l.gate==g) with
   |true=>have hc:=fC (p:=(AL g)) Yw (by simp only[AL,Let.aA,hp,hq];rfl);simp only[go_sem,i51_l1,Yo,hB,hi1,ZG,hi,Let.ps,Yf,w1,w2,ha1,hp,hq,hc];first|exact Ye|exact⟨Ye,rfl⟩
   |false=>have hc:=bJ (p:=(AL g)) Yw (by simp only[AL,Let.aA,hp,hq];rfl);simp only[go_sem,i51_l1,Yo,hB,hi1,ZG,hi,Let.ps,Yf,w1,ha1,hp,hq,hc];first|exact Ye|exact⟨Ye,rfl⟩
  |false=>have hc:=bJ (p:=(AL g)) Yw (by simp only[AL,Let.aA,hp];rfl);simp only[go_sem,i51_l1,Yo,hB,hi1,ZG,hi,Let.ps,Yf,w1,ha1,hp,hc];first|exact Ye|exact⟨Ye,rfl⟩
 have:k=ls.length:=by omega
 subst this;rw[aaV] at ZG;simp only[go_sem,i51_l1,i51_r2,Yo,hB,hi1,ZG,aW]
theorem Ri(f:Int)(ls:List Let)(hl:ls.length<=1000000)(g:Int):bz S 52 [de f ls,vi g] (ri (ao (jE g) ls)):=by
 refine aP c52 ?_;simp only[go_sem,i52];refine bm (fun k env X9=>env 2=.one (.Yh 3328000000 1 0)/\X9 3328000000=(1,some (.var (mE f ls)))/\env 6=vi k/\env 5=vi (ao (jE g) (ls.take k))/\env 1=vi g) 0 ls.length (aae _) ?_ ?_
 .simp only[go_sem];first|exact⟨rfl,rfl⟩|exact⟨rfl,rfl,rfl⟩
 rintro k env X9 hk ⟨Yo,hB,hi1,ZG,ha1⟩
 by_cases Ye:k<ls.length
 .obtain⟨l,Yw⟩:=ai Ye;have hi:=ef Yw;have Yf:((k:Int)<(ls.length:Int)):=by omega
  have hb:=eD ((jE g)) ls k;have w1:=ah (n:=k) (by omega);have w2:=ah (n:=ao ((jE g)) (ls.take k)) (by omega);cases hp:(l.kind==2) with
  |true=>
   cases hq:(l.id==g) with
   |true=>have hc:=fC (p:=(jE g)) Yw (by simp only[jE,Let.aw,hp,hq];rfl);simp only[go_sem,i52_l1,Yo,hB,hi1,ZG,hi,Let.ps,Yf,w1,w2,ha1,hp,hq,hc];first|exact Ye|exact⟨Ye,rfl⟩
   |false=>have hc:=bJ (p:=(jE g)) Yw (by simp only[jE,Let.aw,hp,hq];rfl);simp only[go_sem,i52_l1,Yo,hB,hi1,ZG,hi,Let.ps,Yf,w1,ha1,hp,hq,hc];first|exact Ye|exact⟨Ye,rfl⟩
  |false=>have hc:=bJ (p:=(jE g)) Yw (by simp only[jE,Let.aw,hp];rfl);simp only[go_sem,i52_l1,Yo,hB,hi1,ZG,hi,Let.ps,Yf,w1,ha1,hp,hc];first|exact Ye|exact⟨Ye,rfl⟩
 have:k=ls.length:=by omega
 subst this;rw[aaV] at ZG;simp only[go_sem,i52_l1,i52_r2,Yo,hB,hi1,ZG,aW]
def dn (ls:List Let)(i:Nat):Bool:=ao Let.aA (ls.take i)%2==0
theorem IK(f:Int)(ls:List Let)(i:Nat)(hl:ls.length<=1000000)(hi0:i<=ls.length):bz S 82 [de f ls,vi i] (rb (dn ls i)):=by
 refine aP c82 ?_;simp only[go_sem,i82];refine bm (fun k env X9=>env 1=vi i/\env 2=.one (.Yh 5248000000 1 0)/\X9 5248000000=(1,some (.var (mE f ls)))/\env 6=vi k/\env 5=vi (ao Let.aA (ls.take k))) 0 i (aae _) ?_ ?_
 .simp only[go_sem];exact⟨rfl,rfl⟩
 rintro k env X9 hk ⟨h1,Yo,hB,hi1,ZG⟩
 have hb:=eD Let.aA ls k;by_cases Ye:k<i
 .obtain⟨l,Yw⟩:=ai (ls:=ls) (k:=k) (by omega);have hi:=ef Yw;have Yf:((k:Int)<(i:Int)):=by omega
  have w1:=ah (n:=k) (by omega);have w2:=ah (n:=ao Let.aA (ls.take k)) (by omega);cases hp:(l.kind==1) with
  |true=>have hc:=fC (p:=Let.aA) Yw hp;simp only[go_sem,i82_l1,h1,Yo,hB,hi1,ZG,hi,Let.ps,Yf,w1,w2,hp,hc];exact Ye
  |false=>have hc:=bJ (p:=Let.aA) Yw hp;simp only[go_sem,i82_l1,h1,Yo,hB,hi1,ZG,hi,Let.ps,Yf,w1,hp,hc];exact Ye
 have:k=i:=by omega
 subst this;have e2:((((ao Let.aA (ls.take k))%2:Nat):Int)==0)=dn ls k:=by
  unfold dn;cases h:(ao Let.aA (ls.take k)%2==0) with
  |true=>simp at h ⊢;omega
  |false=>simp at h ⊢;omega
 simp only[go_sem,i82_l1,i82_r2,h1,hi1,ZG,aW,ba,eH,e2]
theorem VB(a b:Let):bz S 80 [.agg (a.ps.map .p),.agg (b.ps.map .p)] (rb (decide (a.gate<b.gate)||(a.gate==b.gate&&decide (a.Yb<b.Yb)))):=by
 refine aP c80 ?_;by_cases h1:a.gate<b.gate
 .simp only[go_sem,i80,Let.ps,h1]
 cases h2:(a.gate==b.gate) with
 |true=>simp only[go_sem,i80,Let.ps,h1,h2]
 |false=>simp only[go_sem,i80,Let.ps,h1,h2]
def aJ(n i:Nat)(fw:Bool):Nat:=if fw then 2*i else 2*((i+n-1)%n)+1
theorem Ed(f:Int)(ls:List Let)(i:Nat)(fw:Bool)(hl:ls.length<=1000000)(hi:i<ls.length):bz S 81 [de f ls,vi i,vb fw] (ri (aJ ls.length i fw)):=by
 refine aP c81 ?_;cases fw with
 |true=>have e:IntKind.i64.wrap (2*(i:Int))=((2*i:Nat):Int):=wrap_small (n:=2*i) (by omega);simp only[go_sem,i81,e,aJ]
 |false=>
  have w1:IntKind.i64.wrap ((i:Int)+(ls.length:Int))=((i+ls.length:Nat):Int):=wrap_small (n:=i+ls.length) (by omega);have w2:IntKind.i64.wrap (((i+ls.length:Nat):Int)-1)=((i+ls.length-1:Nat):Int):=by
   have:(((i+ls.length:Nat):Int)-1)=((i+ls.length-1:Nat):Int):=by omega
   rw[this];exact wrap_small (by omega)
  have e1:=fA (i+ls.length-1) ls.length;have hm:=aat (i+ls.length-1) (show 0<ls.length by omega);have w3:IntKind.i64.wrap (2*(((i+ls.length-1)%ls.length:Nat):Int))=((2*((i+ls.length-1)%ls.length):Nat):Int):=wrap_small (n:=2*((i+ls.length-1)%ls.length)) (by omega);have w4:=ah (n:=2*((i+ls.length-1)%ls.length)) (by omega);have hz:¬((ls.length:Int)=0):=by omega
  simp only[go_sem,i81,w1,w2,e1,w3,w4,hz,aJ]
def lM(ls:List Let)(i j:Nat):Bool:=j !=i&&(match ls[j]? with|some l=>l.aw&&l.id==((ls[i]?).map Let.id).getD 0|none=>false)
def bQ(ls:List Let)(i:Nat):Nat:=((List.range ls.length).find? (lM ls i)).getD i
theorem fV{p:Nat->Bool}:∀ {n k:Nat},k<n->(∀j,j<k->p j=false)->p k=true->(List.range n).find? p=some k:=by intro n k hk hn hp;exact List.find?_range_eq_some.2 ⟨hp,by simpa using hk,fun j hj=>by simp[hn j hj]⟩
theorem ft{p:Nat->Bool}{n:Nat}(hn:∀j,j<n->p j=false):(List.range n).find? p=none:=by rw[adD];intro x hx;simp[hn x (by simpa using hx)]
theorem Sg(f:Int)(ls:List Let)(i:Nat)(hl:ls.length<=1000000)(hi0:i<ls.length):bz S 83 [de f ls,vi i] (ri (bQ ls i)):=by
 obtain⟨li,hli⟩:=ai hi0;have ZI:=ef hli;have key:∀j l,ls[j]?=some l->lM ls i j=(j !=i&&(l.aw&&l.id==li.id)):=fun j l h=>by simp[lM,h,hli]
 refine aP c83 ?_;simp only[go_sem,i83];refine bm (fun k env X9=>env 1=vi i/\env 2=.one (.Yh 5312000000 1 0)/\X9 5312000000=(1,some (.var (mE f ls)))/\env 5=vi k/\ ∀j,j<k->lM ls i j=false) 0 ls.length (aae _) ?_ ?_
 .simp only[go_sem];exact⟨rfl,fun j h=>absurd h (abB j)⟩
 rintro k env X9 hk ⟨h1,Yo,hB,hi1,hn⟩
 by_cases Ye:k<ls.length
 .obtain⟨l,Yw⟩:=ai Ye;have hi:=ef Yw;have Yf:((k:Int)<(ls.length:Int)):=by omega
  have w1:=ah (n:=k) (by omega);have ace:=key k l Yw;have step:lM ls i k=false->∀j,j<k+1->lM ls i j=false:=fun h j hj=>by
   rcases abe.1 hj with h2|rfl
   .exact hn j h2
   exact h
  by_cases hki:k=i
  .have hb:((k:Int)!=(i:Int))=false:=by simp[hki]
   have hs:=step (by rw[ace];simp[hki]);simp only[go_sem,i83_l1,h1,Yo,hB,hi1,Yf,w1,hb];exact⟨by kernel_rfl,Ye,hs⟩
  have hb:((k:Int)!=(i:Int))=true:=by simp;omega
  have Yp:(k !=i)=true:=by simp[hki]
  cases hp:(l.kind==2) with
  |false=>have hs:=step (by rw[ace,Yp,Let.aw,hp];rfl);simp only[go_sem,i83_l1,h1,Yo,hB,hi1,hi,Let.ps,Yf,w1,hb,hp];exact⟨by kernel_rfl,Ye,hs⟩
  |true=>
   cases hq:(l.id==li.id) with
   |false=>have hs:=step (by rw[ace,Yp,Let.aw,hp,hq];rfl);simp only[go_sem,i83_l1,h1,Yo,hB,hi1,hi,ZI,Let.ps,Yf,w1,hb,hp,hq];exact⟨by kernel_rfl,Ye,hs⟩
   |true=>
    have hf:bQ ls i=k:=by unfold bQ;rw[fV Ye hn (by rw[ace,Yp,Let.aw,hp,hq];rfl)];rfl
    simp only[go_sem,i83_l1,h1,Yo,hB,hi1,hi,ZI,Let.ps,Yf,hb,hp,hq,hf];show gM _ _ _=true
    kernel_rfl
 have:k=ls.length:=by omega
 subst this;have hf:bQ ls i=i:=by unfold bQ;rw[ft hn];rfl
 simp only[go_sem,i83_l1,i83_r2,h1,Yo,hB,hi1,aW,hf]
abbrev sA(l:List Nat):PV:=.sl (l.map fun n:Nat=>[.int .i64 (n:Int)])
theorem at_r(l:List Nat)(n k0:Nat)(hl:l.length<=1000000)(hk0:l[k0]?=some n)(hn:∀j,j<k0->l[j]? ≠some n):bz S 84 [.one (.p (sA l)),vi n] (ri k0):=by
 have hk0l:=(aac.1 hk0).1;refine aP c84 ?_;simp only[go_sem,i84];refine bm (fun k env X9=>env 0=.one (.p (sA l))/\env 1=vi n/\env 5=vi k) 0 k0 (aae _) ?_ ?_
 .simp only[go_sem];rfl
 rintro k env X9 hk ⟨h0,h1,h5⟩
 have Yf:((k:Int)<(l.length:Int)):=by omega
 have w1:=ah (n:=k) (by omega);obtain⟨m,hm⟩:=ai (ls:=l) (k:=k) (by omega);have hi:(l.map fun n:Nat=>[PV.int .i64 (n:Int)])[k]?=some [.int .i64 (m:Int)]:=by simp[hm]
 by_cases Ye:k<k0
 .have Yk:((m:Int)==(n:Int))=false:=by
   have:m≠n:=fun e=>hn k Ye (by rw[hm,e]);simp;omega
  simp only[go_sem,i84_l1,h0,h1,h5,Yf,w1,hi,Yk];exact Ye
 have:k=k0:=by omega
 subst this;have e:m=n:=by rw[hm] at hk0;exact abu hk0
 subst e;simp only[go_sem,i84_l1,h0,h1,h5,Yf,hi]
abbrev OU(l:Let):V:=.agg [.p (.int .i64 l.kind),.p (.int .i64 l.gate),.p (.int .i64 l.Yb),.p (.int .i64 l.id),.p (.int .i64 l.sign),.p (.bool l.over)]
def y8(a b:Let):Bool:=decide (a.gate<b.gate)||(a.gate==b.gate&&decide (a.Yb<b.Yb))
theorem SD(a b:Let):bz S 80 [OU a,OU b] (rb (y8 a b)):=VB a b
abbrev nP(o:List Nat):List (List PV):=o.map fun n:Nat=>[PV.int .i64 (n:Int)]
theorem dQ{o:List Nat}{k n:Nat}(h:o[k]?=some n):(nP o)[k]?=some [.int .i64 (n:Int)]:=by simp[h]
def mR(ls:List Let)(i j:Nat):Bool:=match ls[j]?,ls[i]? with
 |some a,some b=>y8 a b
 |_,_=>false
def zc(ls:List Let)(o:List Nat)(i:Nat):List Nat:=o.take (o.takeWhile (mR ls i)).length++i::o.drop (o.takeWhile (mR ls i)).length
def mU(ls:List Let)(o:List Nat)(i:Nat):List Nat:=match ls[i]? with
 |some l=>if l.aA then zc ls o i else o
 |none=>o
def aa(ls:List Let):List Nat:=(List.range ls.length).foldl (mU ls) []
def ig(ls:List Let)(k:Nat):List Nat:=(List.range k).foldl (mU ls) []
theorem jK(ls:List Let)(k:Nat):ig ls (k+1)=mU ls (ig ls k) k:=by unfold ig;rw[abZ,adp];rfl
theorem I3{ls:List Let}{o:List Nat}{i:Nat}{x:Nat}(h:x∈mU ls o i):x∈o\/x=i:=by
 unfold mU at h;split at h
 .split at h
  .unfold zc at h;rcases aaw.1 h with h|h
   .exact .inl (ab2 h)
   rcases aag.1 h with h|h
   .exact .inr h
   exact .inl (ab1 h)
  exact .inl h
 exact .inl h
theorem uM{ls:List Let}:∀ {k x:Nat},x∈ig ls k->x<k:=by
 intro k
 induction k with
 |zero=>intro x h;simp[ig] at h
 |succ k ih=>
  intro x h;rw[jK] at h;rcases I3 h with h|h
  .have:=ih h;omega
  omega
theorem fv(ls:List Let):∀k,(ig ls k).length<=k:=by
 intro k
 induction k with
 |zero=>simp[ig]
 |succ k ih=>
  rw[jK];unfold mU;split
  .split
   .unfold zc;simp only[aaF,aas,aay,aa1];omega
   omega
  omega
def Fr(site:Nat)(o:List Nat)(v:V)(X9:aE):Prop:=(o=[]/\v=.one (.p .nils))\/(o≠[]/\ ∃g,v=.one (.hsl site g 1 0 o.length)/\X9 site=(g,some (.arr 3 1 (nP o))))
theorem Tv{o:List Nat}{i K:Nat}{env:Env}{X9:aE}{Q:dO}(ho:Fr 3392576640 o (env 3) X9)(h4:env 4=vi i)(h5:env 5=vi K)(hK:K<=o.length)(hl:o.length<=1000000)
  (hq:∀Yc Ya,Yc 1=env 1->Yc 4=env 4->Ya 3392000000=X9 3392000000->Fr 3392576640 (o.take K++i::o.drop K) (Yc 3) Ya->Q .normal Yc Ya):
  W S .all i53_r2 Q env X9:=by
 rcases ho with ⟨rfl,h3⟩|⟨ho,g,h3,hC⟩
 .have hK0:K=0:=by simpa using hK
  subst hK0;simp only[go_sem,i53_r2,h3,h4,h5,aN,iD];refine⟨by kernel_rfl,hq _ _ ?_ ?_ ?_ (.inr ⟨by simp,(X9 3392576640).1+1,?_,?_⟩)⟩;all_goals simp only[go_sem]
 have YE:∀n:Nat,n<=1000001->n*8<=140737488355328:=fun n hn=>by omega
 by_cases hK0:K=0
 .subst hK0;have ht:List.take o.length (nP o)=nP o:=aaD (by simp);have Y0:=YE (1+o.length) (by omega);simp only[go_sem,i53_r2,h3,h4,h5,hC,ht,Y0,aN,iD];refine⟨by kernel_rfl,hq _ _ ?_ ?_ ?_ (.inr ⟨by simp,g+1,?_,?_⟩)⟩;all_goals simp only[go_sem]
  simp;omega
 have ht:(List.take K (nP o)).length=K:=by simp;omega
 have htt:List.take K (List.take K (nP o))=List.take K (nP o):=by rw[adm,Nat.min_self]
 have htk:List.take (K+1) (List.take K (nP o)++[[PV.int .i64 (i:Int)]])=List.take K (nP o)++[[PV.int .i64 (i:Int)]]:=aaD (by simp;omega);have htd:List.take (o.length-K) (List.drop K (nP o))=List.drop K (nP o):=aaD (by simp);have hld:(List.drop K (nP o)).length=o.length-K:=by simp
 have hla:(List.take K (nP o)++[[PV.int .i64 (i:Int)]]).length=K+1:=by simp;omega
 have Y0:=YE K (by omega);have hr2:=YE (K+1) (by omega);have hr3:=YE (K+1+(o.length-K)) (by omega);have hle:K+(o.length-K)<=o.length:=by omega
 simp only[go_sem,i53_r2,h3,h4,h5,hC,hK,ht,hK0,Y0,hr2,hr3,htt,htk,htd,hld,hla,hle,aN,iD];refine⟨by kernel_rfl,hq _ _ ?_ ?_ ?_ (.inr ⟨by simp,g+1,?_,?_⟩)⟩;all_goals simp only[go_sem]
 .simp;omega
 simp
theorem xZ{α:Type}{p:α->Bool}{l:List α}{K:Nat}(hK:K<=l.length)(h1:∀j x,j<K->l[j]?=some x->p x=true)(h2:∀x,l[K]?=some x->p x=false):(l.takeWhile p).length=K:=by
 induction l generalizing K with
 |nil=>simp at hK ⊢;omega
 |cons a l ih=>
  cases K with
  |zero=>have:=h2 a rfl;simp[List.takeWhile,this]
  |succ K=>have:=h1 0 a (by omega) rfl;simp only[List.takeWhile,this,aas];rw[ih (by simpa using hK) (fun j x hj hx=>h1 (j+1) x (by omega) (by simpa using hx)) (fun x hx=>h2 x (by simpa using hx))]
theorem MP{ls:List Let}{f:Int}{o:List Nat}{i:Nat}{li:Let}{env:Env}{X9:aE}{Q:dO}(ho:Fr 3392576640 o (env 3) X9)(h1:env 1=.one (.Yh 3392000000 1 0))(hB:X9 3392000000=(1,some (.var (mE f ls))))(h4:env 4=vi i)(h5:env 5=vi 0)
  (hli:ls[i]?=some li) (Ye:∀x∈o,x<ls.length) (hl:o.length<=1000000)
  (hq:∀Yc Ya,Yc 1=env 1->Yc 4=env 4->Ya 3392000000=X9 3392000000->Fr 3392576640 (zc ls o i) (Yc 3) Ya->Q .normal Yc Ya):
  W S .all (.loop i53_l1) (fQ 2 (qk S .all i53_r2 Q)) env X9:=by
 have ZI:=ef hli;refine bm (fun k Yc Ya=>Yc 1=env 1/\Yc 4=env 4/\Yc 3=env 3/\Ya=X9/\Yc 5=vi k/\ ∀j x,j<k->o[j]?=some x->mR ls i x=true) 0 o.length (aae _) ?_ ?_
 .exact⟨rfl,rfl,rfl,rfl,h5,fun j x hj=>absurd hj (abB j)⟩
 rintro k Yc Ya hk ⟨Z7,h4',h3',rfl,h5',hp⟩
 rw[h1] at Z7;rw[h4] at h4';have fin:∀e:Env,e 1=Yc 1->e 4=Yc 4->e 3=Yc 3->e 5=Yc 5->(∀x,o[k]?=some x->mR ls i x=false)->W S .all i53_r2 Q e Ya:=by
  intro e e1 e4 e3 e5 hk2;have hK:=xZ hk hp hk2;have ho':Fr 3392576640 o (e 3) Ya:=by rw[e3,h3'];exact ho
  refine Tv (i:=i) (K:=k) ho' (by rw[e4,h4']) (by rw[e5,h5']) hk hl ?_;intro Yn Yg q1 q2 q3 q4;refine hq Yn Yg (by rw[q1,e1,Z7,h1]) (by rw[q2,e4,h4',h4]) q3 ?_;unfold zc;rw[hK];exact q4
 by_cases Yw:k<o.length
 .obtain⟨x,hx⟩:=ai Yw;have hxl:=Ye x (aab hx);obtain⟨lx,hlx⟩:=ai hxl;have ZZ:=ef hlx;have hnx:=dQ hx;have Yf:((k:Int)<(o.length:Int)):=by omega
  have w1:=ah (n:=k) (by omega);have ahH:mR ls i x=y8 lx li:=by simp[mR,hlx,hli]
  have agB:=SD lx li;rcases ho with ⟨rfl,_⟩|⟨ho,g,h3,hC⟩
  .simp at Yw
  rw[h3] at h3';cases hb:y8 lx li with
  |true=>
   rw[hb] at agB;simp only[go_sem,i53_l1,h1,h3,h4,Z7,h3',h4',h5',hB,hC,Yf,hnx,ZZ,ZI,Let.ps,Yw,w1,s80,dF agB];refine⟨by kernel_rfl,fun j y hj hy=>?_⟩;rcases abe.1 hj with hj|rfl
   .exact hp j y hj hy
   rw[hx] at hy;cases hy;rw[ahH,hb]
  |false=>rw[hb] at agB;simp only[go_sem,i53_l1,Z7,h3',h4',h5',hB,hC,Yf,hnx,ZZ,ZI,Let.ps,Yw,s80,dF agB];refine⟨by kernel_rfl,fin _ ?_ ?_ ?_ ?_ (fun y hy=>by rw[hx] at hy;cases hy;rw[ahH,hb])⟩;all_goals simp only[go_sem,Z7,h3',h4',h5']
 have:k=o.length:=by omega
 subst this;have YH:∀x,o[o.length]?=some x->mR ls i x=false:=fun x hx=>by simp at hx
 rcases ho with ⟨rfl,h3⟩|⟨ho,g,h3,hC⟩
 .rw[h3] at h3';simp only[go_sem,i53_l1,h3',h5',aW];refine⟨by kernel_rfl,fin _ ?_ ?_ ?_ ?_ YH⟩;all_goals simp only[go_sem,Z7,h3',h4',h5']
 rw[h3] at h3';simp only[go_sem,i53_l1,h3',h5',aW];refine⟨by kernel_rfl,fin _ ?_ ?_ ?_ ?_ YH⟩;all_goals simp only[go_sem,Z7,h3',h4',h5']
theorem Pf(ls:List Let)(o:List Nat)(i:Nat):(zc ls o i).length=o.length+1:=by unfold zc;simp only[aaF,aas,aay,aa1];have:=(List.takeWhile_sublist (mR ls i) (l:=o)).length_le;omega
theorem qB{X9:aE}{id g z len ty:Nat}{es:List (List PV)}(h:X9 id=(g,some (.arr ty z es)))(hl:len=es.length):iE X9 (.one (.hsl id g z 0 len))=some (.one (.own ty z es)):=by subst hl;simp only[iE,lW,fE,gK,jg,h,aad,and_self,if_true,aaV];rfl
def DV(o:List Nat):RC:=if o=[] then .p .nils else .own 3 1 (nP o)
theorem Wa(f:Int)(ls:List Let)(hl:ls.length<=1000000):bz S 53 [de f ls] (.one (DV (aa ls))):=by
 refine aP c53 ?_;simp only[go_sem,i53];refine bm (fun k env X9=>env 1=.one (.Yh 3392000000 1 0)/\X9 3392000000=(1,some (.var (mE f ls)))/\env 4=vi k/\Fr 3392576640 (ig ls k) (env 3) X9) 0 ls.length (aae _) ?_ ?_
 .simp only[go_sem];exact⟨rfl,.inl ⟨rfl,rfl⟩⟩
 rintro k env X9 hk ⟨h1,hB,h4,ho⟩
 have YY:=fv ls k;by_cases Ye:k<ls.length
 .obtain⟨l,Yw⟩:=ai Ye;have hi:=ef Yw;have Yf:((k:Int)<(ls.length:Int)):=by omega
  have w1:=ah (n:=k) (by omega);have hs:=jK ls k;unfold mU at hs;rw[Yw] at hs;cases hp:(l.kind==1) with
  |false=>
   have hp2:(l.kind !=1)=true:=by simp[bne,hp]
   simp only[Let.aA,hp] at hs;have hs:ig ls (k+1)=ig ls k:=hs;simp only[go_sem,i53_l4,i53_r3,h1,hB,h4,hi,Let.ps,Yf,hp2,w1,hs,Ye];rcases ho with ⟨e,h3⟩|⟨ho,g,h3,hC⟩
   .exact .inl ⟨e,by simp only[go_sem,h3]⟩
   exact .inr ⟨ho,g,by simp only[go_sem,h3],by simp only[go_sem,hC]⟩
  |true=>
   have hp2:(l.kind !=1)=false:=by simp[bne,hp]
   simp only[Let.aA,hp] at hs;have hs:ig ls (k+1)=zc ls (ig ls k) k:=hs;simp only[go_sem,i53_l4,h1,hB,h4,hi,Let.ps,Yf,hp2];refine MP (ls:=ls) (f:=f) (o:=ig ls k) (i:=k) ?_ ?_ ?_ ?_ ?_ Yw (fun x hx=>Nat.lt_trans (uM hx) Ye) (by omega) ?_
   .rcases ho with ⟨e,h3⟩|⟨ho,g,h3,hC⟩
    .exact .inl ⟨e,by simp only[go_sem,h3]⟩
    exact .inr ⟨ho,g,by simp only[go_sem,h3],by simp only[go_sem,hC]⟩
   .simp only[go_sem,h1]
   .simp only[go_sem,hB]
   .simp only[go_sem,h4]
   .rfl
   intro Yc Ya q1 q2 q3 q4;simp only[go_sem,h1,h4,hB] at q1 q2 q3;simp only[go_sem,i53_r3,q1,q2,q3,w1,hs,Ye];rcases q4 with ⟨e,h3⟩|⟨ho,g,h3,hC⟩
   .exact .inl ⟨e,by simp only[go_sem,h3]⟩
   exact .inr ⟨ho,g,by simp only[go_sem,h3],by simp only[go_sem,hC]⟩
 have:k=ls.length:=by omega
 subst this;have he:aa ls=ig ls ls.length:=rfl;rw[<- he] at ho;rcases ho with ⟨e,h3⟩|⟨ho,g,h3,hC⟩
 .simp only[go_sem,i53_l4,i53_r5,h1,hB,h3,h4,aW,DV,e]
 simp only[go_sem,i53_l4,i53_r5,h1,hB,h3,h4,aW,DV,ho];exact qB hC (by simp)
def cX(ls:List Let)(ax:List Nat)(d:Nat):Nat:=
 if 2*ls.length<=d then
  if d%2=0 then aJ ls.length (ax.getD (((d-2*ls.length)/2+1)%ax.length) 0) (!dn ls (ax.getD (((d-2*ls.length)/2+1)%ax.length) 0))
  else aJ ls.length (ax.getD ((d-2*ls.length)/2) 0) (dn ls (ax.getD ((d-2*ls.length)/2) 0))
 else
  let fw:=d%2==0
  let v:=if fw then (d/2+1)%ls.length else d/2
  match ls[v]? with
  |none=>0
  |some l=>if l.kind==2 then aJ ls.length (bQ ls v) (fw==(l.over==(l.sign==1)))
   else if dn ls v==fw then 2*ls.length+2*ax.idxOf v else 2*ls.length+2*((ax.idxOf v+ax.length-1)%ax.length)+1
theorem Bv{ls:List Let}{i:Nat}(hi:i<ls.length):bQ ls i<ls.length:=by
 unfold bQ;cases h:(List.range ls.length).find? (lM ls i) with
 |none=>exact hi
 |some k=>
  have:=adS h
  simpa using this
theorem jL{n i:Nat}{fw:Bool}(hi:i<n):aJ n i fw<2*n:=by unfold aJ;have:=aat (i+n-1) (show 0<n by omega);split<;>omega
theorem tM{ls:List Let}{ax:List Nat}{d:Nat}(sE:∀x∈ax,x<ls.length)(hp:∀v l,ls[v]?=some l->(l.kind==2)=false->v∈ax)(hd:d<2*ls.length+2*ax.length):cX ls ax d<2*ls.length+2*ax.length:=by
 have abJ:∀k,k<ax.length->ax.getD k 0<ls.length:=fun k hk=>by obtain⟨x,hx⟩:=ai hk;rw[aal,hx];exact sE x (aab hx)
 unfold cX;by_cases h:2*ls.length<=d
 .rw[if_pos h];have hm:=aat ((d-2*ls.length)/2+1) (show 0<ax.length by omega);by_cases h2:d%2=0
  .rw[if_pos h2];exact acN (jL (abJ _ hm)) (by omega)
  rw[if_neg h2];exact acN (jL (abJ _ (by omega))) (by omega)
 rw[if_neg h];have hn:0<ls.length:=by omega
 have hv:(if (d%2==0)=true then (d/2+1)%ls.length else d/2)<ls.length:=by
  split
  .exact aat _ hn
  omega
 simp only;generalize (if (d%2==0)=true then (d/2+1)%ls.length else d/2)=v at hv;obtain⟨l,hl⟩:=ai hv;rw[hl];simp only;by_cases hk:(l.kind==2)=true
 .rw[if_pos hk];exact acN (jL (Bv hv)) (by omega)
 rw[if_neg hk];have hin:=hp v l hl (by simpa using hk);have hix:ax.idxOf v<ax.length:=adT.2 hin;have hm:=aat (ax.idxOf v+ax.length-1) (show 0<ax.length by omega);split<;>omega
theorem FR{ax:List Nat}{v:Nat}:∀j,j<ax.idxOf v->ax[j]? ≠some v:=by
 induction ax with
 |nil=>intro j h;simp at h
 |cons a ax ih=>
  intro j h e;rw[List.idxOf_cons] at h;by_cases ha:a=v
  .simp[ha] at h
  have hb:(a==v)=false:=by simpa using ha
  rw[hb] at h;cases j with
  |zero=>simp at e;exact ha e
  |succ j=>exact ih j (by simp at h;omega) (by simpa using e)
theorem B2{ax:List Nat}{v:Nat}(h:v∈ax):ax[ax.idxOf v]?=some v:=by have hl:ax.idxOf v<ax.length:=adT.2 h;rw[abC hl,List.getElem_idxOf hl]
theorem U3(f:Int)(ls:List Let)(ax:List Nat)(d:Nat)(hl:ls.length<=1000000)(ZP:ax.length<=1000000)(sE:∀x∈ax,x<ls.length)(hp:∀v l,ls[v]?=some l->(l.kind==2)=false->v∈ax)
  (hd:d<2*ls.length+2*ax.length):bz S 54 [de f ls,.one (.p (sA ax)),vi d] (ri (cX ls ax d)):=by
 have m1:IntKind.i64.wrap (2*(ls.length:Int))=((2*ls.length:Nat):Int):=wrap_small (n:=2*ls.length) (by omega);unfold cX;by_cases h:2*ls.length<=d
 .rw[if_pos h];refine aP c54 ?_;have h':((2*ls.length:Nat):Int)<=(d:Int):=by omega
  have m2:IntKind.i64.wrap ((d:Int)-((2*ls.length:Nat):Int))=((d-2*ls.length:Nat):Int):=by
   have:((d:Int)-((2*ls.length:Nat):Int))=((d-2*ls.length:Nat):Int):=by omega
   rw[this];exact wrap_small (by omega)
  have m3:=wrap_small (n:=(d-2*ls.length)/2) (by omega);have hm:=aat ((d-2*ls.length)/2+1) (show 0<ax.length by omega);have hm0:¬((ax.length:Int)=0):=by omega
  by_cases h2:d%2=0
  .rw[if_pos h2];have m4:=ah (n:=(d-2*ls.length)/2) (by omega);have ZQ:(((d%2:Nat):Int)==0)=true:=by simp[h2]
   have m5:=fA ((d-2*ls.length)/2+1) ax.length;obtain⟨v,hv⟩:=ai hm;have hv2:ax.getD (((d-2*ls.length)/2+1)%ax.length) 0=v:=by rw[aal,hv];rfl
   rw[hv2];have hvl:=sE v (aab hv);have hnv:=dQ hv;have pd:=IK f ls v hl (by omega);have pa:=Ed f ls v (!dn ls v) hl hvl;simp only[go_sem,i54,m1,m2,m3,m4,m5,h',ZQ,hnv,hm0,eH,cY,ba,s82,s81,dF pd,dU pa];exact aH
  rw[if_neg h2];have ZQ:(((d%2:Nat):Int)==0)=false:=by simp;omega
  obtain⟨v,hv⟩:=ai (ls:=ax) (k:=(d-2*ls.length)/2) (by omega);have hv2:ax.getD ((d-2*ls.length)/2) 0=v:=by rw[aal,hv];rfl
  rw[hv2];have hvl:=sE v (aab hv);have hnv:=dQ hv;have pd:=IK f ls v hl (by omega);have pa:=Ed f ls v (dn ls v) hl hvl;simp only[go_sem,i54,m1,m2,m3,h',ZQ,hnv,eH,cY,ba,s82,s81,dF pd,dU pa];exact aH
 rw[if_neg h];have h':¬(((2*ls.length:Nat):Int)<=(d:Int)):=by omega
 have m3:=wrap_small (n:=d/2) (by omega);have Z9:¬((ls.length:Int)=0):=by omega
 have hm0:=aat (d/2+1) (show 0<ls.length by omega);have m4:=ah (n:=d/2) (by omega);have m5:=fA (d/2+1) ls.length;have body:∀v:Nat,v<ls.length->∀fw:Bool,v=(if fw then (d/2+1)%ls.length else d/2)->(d%2==0)=fw->(((d%2:Nat):Int)==0)=fw->bz S 54 [de f ls,.one (.p (sA ax)),vi d] (ri ((match ls[v]? with
   |none=>0
   |some l=>if l.kind==2 then aJ ls.length (bQ ls v) (fw==(l.over==(l.sign==1)))
    else if dn ls v==fw then 2*ls.length+2*ax.idxOf v else 2*ls.length+2*((ax.idxOf v+ax.length-1)%ax.length)+1:Nat):Int)):=by
  intro v hv fw Zg hfw ZD;obtain⟨l,hlv⟩:=ai hv;have Zu:=ef hlv;rw[hlv];simp only;refine aP c54 ?_;cases hk:(l.kind==2) with
  |true=>
   have po:=Sg f ls v hl hv;have pa:=Ed f ls (bQ ls v) (fw==(l.over==(l.sign==1))) hl (Bv hv);cases fw with
   |true=>have Zg:v=(d/2+1)%ls.length:=Zg;rw[Zg] at Zu po pa ⊢;simp only[go_sem,i54,m1,m3,m4,m5,h',ZD,Zu,Let.ps,Z9,hk,eH,cY,ba,s83,s81,dU po,dU pa];exact aH
   |false=>have Zg:v=d/2:=Zg;rw[Zg] at Zu po pa ⊢;simp only[go_sem,i54,m1,m3,h',ZD,Zu,Let.ps,hk,eH,cY,ba,s83,s81,dU po,dU pa];exact aH
  |false=>
   have hin:=hp v l hlv hk;have hix:ax.idxOf v<ax.length:=adT.2 hin;have pat:=at_r ax v (ax.idxOf v) ZP (B2 hin) FR;have pd:=IK f ls v hl (by omega);have aeC:¬((ax.length:Int)=0):=by omega
   have hml:=aat (ax.idxOf v+ax.length-1) (show 0<ax.length by omega);have n1:=dr (a:=ax.idxOf v) (by omega);have n2:=wrap_add (a:=2*ls.length) (b:=2*ax.idxOf v) (by omega);have n3:=wrap_add (a:=ax.idxOf v) (b:=ax.length) (by omega);have n4:=jw (a:=ax.idxOf v+ax.length) (by omega) (by omega);have n5:=fA (ax.idxOf v+ax.length-1) ax.length;have n6:=dr (a:=(ax.idxOf v+ax.length-1)%ax.length) (by omega);have n7:=wrap_add (a:=2*ls.length) (b:=2*((ax.idxOf v+ax.length-1)%ax.length)) (by omega);have n8:=ah (n:=2*ls.length+2*((ax.idxOf v+ax.length-1)%ax.length)) (by omega);cases fw with
   |true=>
    have Zg:v=(d/2+1)%ls.length:=Zg;cases Ze:dn ls v with
    |true=>rw[Ze] at pd;subst Zg;simp only[go_sem,i54,m1,m3,m4,m5,h',ZD,Zu,Let.ps,Z9,hk,eH,cY,ba,s84,s82,bj pat,az pd,n1,n2]
    |false=>rw[Ze] at pd;subst Zg;simp only[go_sem,i54,m1,m3,m4,m5,h',ZD,Zu,Let.ps,Z9,hk,eH,cY,ba,s84,s82,bj pat,az pd,n3,n4,n5,n6,n7,n8,aeC]
   |false=>
    have Zg:v=d/2:=Zg;cases Ze:dn ls v with
    |true=>rw[Ze] at pd;subst Zg;simp only[go_sem,i54,m1,m3,h',ZD,Zu,Let.ps,hk,eH,cY,ba,s84,s82,bj pat,az pd,n3,n4,n5,n6,n7,n8,aeC]
    |false=>rw[Ze] at pd;subst Zg;simp only[go_sem,i54,m1,m3,h',ZD,Zu,Let.ps,hk,eH,cY,ba,s84,s82,bj pat,az pd,n1,n2]
 have hvl:(if (d%2==0)=true then (d/2+1)%ls.length else d/2)<ls.length:=by
  split
  .exact hm0
  omega
 have:=body _ hvl (d%2==0) rfl rfl (by cases hq:(d%2==0)<;>simp at hq ⊢ <;>omega);exact this
abbrev bP(o:List Bool):List (List PV):=o.map fun b:Bool=>[PV.bool b]
theorem km{o:List Bool}{k:Nat}{b:Bool}(h:o[k]?=some b):(bP o)[k]?=some [.bool b]:=by simp[h]
theorem vF(o:List Bool)(k:Nat)(b:Bool):(bP o).set k [.bool b]=bP (o.set k b):=by simp[List.map_set]
def cH(next:Nat->Nat):Nat->Nat->List Bool->List Nat×List Bool
 |0,_,seen=>([],seen)
 |k+1,x,seen=>if seen.getD x true then ([],seen) else (x::(cH next k (next x) (seen.set x true)).1,(cH next k (next x) (seen.set x true)).2)
def ko(s:List Bool):Nat:=s.countP (fun b=> !b)
theorem lB{s:List Bool}{x:Nat}(h:s[x]?=some false):ko (s.set x true)+1=ko s:=by
 induction s generalizing x with
 |nil=>simp at h
 |cons b s ih=>
  cases x with
  |zero=>simp at h;subst h;simp[ko]
  |succ x=>have:=ih (x:=x) (by simpa using h);unfold ko at this ⊢;simp only[List.set_cons_succ,abM];omega
theorem KR(next:Nat->Nat):∀(k x:Nat) (s:List Bool),(cH next k x s).2.length=s.length:=by
 intro k
 induction k with
 |zero=>intro x s;rfl
 |succ k ih=>
  intro x s;unfold cH;split
  .rfl
  simp[ih]
def eV(next:Nat->Nat)(st:List (List Nat)×List Bool)(d:Nat):List (List Nat)×List Bool:=if st.2.getD d true then st else (st.1++[(cH next (st.2.length+1) d st.2).1],(cH next (st.2.length+1) d st.2).2)
def aK(next:Nat->Nat)(N k:Nat):List (List Nat)×List Bool:=(List.range k).foldl (eV next) ([],List.replicate N false)
def bY(next:Nat->Nat)(N:Nat):List (List Nat):=(aK next N N).1
theorem dL(next:Nat->Nat)(N k:Nat):aK next N (k+1)=eV next (aK next N k) k:=by unfold aK;rw[abZ,adp];rfl
theorem iL(next:Nat->Nat)(N:Nat):∀k,(aK next N k).2.length=N:=by
 intro k
 induction k with
 |zero=>simp[aK]
 |succ k ih=>
  rw[dL];unfold eV;split
  .exact ih
  simp[KR,ih]
theorem KO(next:Nat->Nat)(N k:Nat)(hk:1<=k)(hN:1<=N):(aK next N k).1≠[]:=by
 induction k with
 |zero=>omega
 |succ k ih=>
  rw[dL];by_cases h0:k=0
  .subst h0;have hz:(aK next N 0)=([],List.replicate N false):=rfl;have hg:(List.replicate N false).getD 0 true=false:=by
    obtain⟨n,rfl⟩:∃n,N=n+1:=⟨N-1,by omega⟩;rfl
   rw[hz];unfold eV;simp only[hg];simp
  have:=ih (by omega);unfold eV;split
  .exact this
  simp
theorem jU(next:Nat->Nat)(N:Nat):∀k,(aK next N k).1.length<=k:=by
 intro k
 induction k with
 |zero=>simp[aK]
 |succ k ih=>
  rw[dL];unfold eV;split
  .omega
  simp;exact ih
theorem k9(s:List Bool):ko s<=s.length:=List.countP_le_length
theorem U0{ls:List Let}{ax:List Nat}(hl:ls.length<=1000000)(ZP:ax.length<=1000000)(sE:∀x∈ax,x<ls.length)(hp:∀v l,ls[v]?=some l->(l.kind==2)=false->v∈ax){Q:dO}:
  ∀(fuel x:Nat) (sn:List Bool) (w:List Nat) (env:Env) (X9:aE),env 1=.one (.Yh 1920000000 1 0)->X9 1920000000=(1,some (.var (mE f ls)))->
   env 4=.one (.hsl 1920128064 1 1 0 ax.length)->X9 1920128064=(1,some (.arr 3 1 (nP ax)))->env 5=.one (.hsl 1920192512 1 1 0 sn.length)->X9 1920192512=(1,some (.arr 4 1 (bP sn)))->
   Fr 1920832192 w (env 7) X9->env 8=vi x->x<sn.length->sn.length=2*ls.length+2*ax.length->ko sn<fuel->w.length+ko sn<=5000000->
   (∀Yc Ya,Yc 1=env 1->Yc 3=env 3->Yc 4=env 4->Yc 5=env 5->Yc 6=env 6->Ya 1920000000=X9 1920000000->Ya 1920128064=X9 1920128064->Ya 1920896192=X9 1920896192->Ya 1920896128=X9 1920896128->
    Ya 1920192512=(1,some (.arr 4 1 (bP (cH (cX ls ax) fuel x sn).2)))->Fr 1920832192 (w++(cH (cX ls ax) fuel x sn).1) (Yc 7) Ya->Q .normal Yc Ya)->
   W S .all (.loop i30_l1) (fQ 2 Q) env X9:=by
 intro fuel
 induction fuel with
 |zero=>intro x sn w env X9 _ _ _ _ _ _ _ _ _ _ h;omega
 |succ fuel ih=>
  intro x sn w env X9 h1 hB h4 hA h5 hS ho h8 hx hsl hu hw hq;obtain⟨b,hb⟩:=ai hx;have hbp:=km hb;have hgd:sn.getD x true=b:=by rw[aal,hb];rfl
  unfold cH at hq;rw[hgd] at hq;refine fT ?_;cases b with
  |true=>
   simp only[go_sem,i30_l1,h5,hS,h8,hx,hbp];refine hq _ _ ?_ ?_ ?_ ?_ ?_ rfl rfl rfl rfl hS ?_;all_goals simp only[go_sem]
   exact ho
  |false=>
   have hun:=lB hb;have pt:=U3 f ls ax x hl ZP sE hp (by omega);have hnl:=tM (d:=x) sE hp (by omega);have YA:=vF sn x true;have YE:∀n:Nat,n<=5000001->n*8<=140737488355328:=fun n hn=>by omega
   have hta:List.take ax.length (nP ax)=nP ax:=aaD (by simp);rcases ho with ⟨rfl,h7⟩|⟨agE,g,h7,hC⟩
   .simp only[go_sem,i30_l1,h1,hB,h4,hA,h5,hS,h7,h8,hx,hbp,YA,hta,s54,bj pt,aN,iD];refine ih (cX ls ax x) (sn.set x true) [x] _ _ ?_ ?_ ?_ ?_ ?_ ?_ ?_ ?_ (by simpa [hsl] using hnl) (by simpa using hsl) (by omega) (by simp;omega) ?_
    .simp only[go_sem,h1]
    .simp only[go_sem,hB]
    .simp only[go_sem,h4]
    .simp only[go_sem,hA]
    .simp only[go_sem,h5,abi]
    .simp only[go_sem]
    .simp only[go_sem];exact .inr ⟨by simp,_,rfl,rfl⟩
    .simp only[go_sem]
    intro Yc Ya q1 q3 q4 q5 q6 b1 b2 b3 b4 b5 b6;refine hq Yc Ya ?_ ?_ ?_ ?_ ?_ ?_ ?_ ?_ ?_ b5 ?_
    .rw[q1];simp only[go_sem]
    .rw[q3];simp only[go_sem]
    .rw[q4];simp only[go_sem]
    .rw[q5];simp only[go_sem]
    .rw[q6];simp only[go_sem]
    .rw[b1];simp only[go_sem]
    .rw[b2];simp only[go_sem]
    .rw[b3];simp only[go_sem]
    .rw[b4];simp only[go_sem]
    simpa using b6
   have htw:List.take w.length (nP w)=nP w:=aaD (by simp);have Y0:=YE (w.length+1) (by omega);simp only[go_sem,i30_l1,h1,hB,h4,hA,h5,hS,h7,h8,hx,hbp,YA,hta,s54,bj pt,hC,htw,Y0,aN,iD];refine ih (cX ls ax x) (sn.set x true) (w++[x]) _ _ ?_ ?_ ?_ ?_ ?_ ?_ ?_ ?_ (by simpa [hsl] using hnl) (by simpa using hsl) (by omega) (by simp;omega) ?_
   .simp only[go_sem,h1]
   .simp only[go_sem,hB]
   .simp only[go_sem,h4]
   .simp only[go_sem,hA]
   .simp only[go_sem,h5,abi]
   .simp only[go_sem]
   .simp only[go_sem];exact .inr ⟨by simp,g+1,by simp,by simp[ae]⟩
   .simp only[go_sem]
   intro Yc Ya q1 q3 q4 q5 q6 b1 b2 b3 b4 b5 b6;refine hq Yc Ya ?_ ?_ ?_ ?_ ?_ ?_ ?_ ?_ ?_ b5 ?_
   .rw[q1];simp only[go_sem]
   .rw[q3];simp only[go_sem]
   .rw[q4];simp only[go_sem]
   .rw[q5];simp only[go_sem]
   .rw[q6];simp only[go_sem]
   .rw[b1];simp only[go_sem]
   .rw[b2];simp only[go_sem]
   .rw[b3];simp only[go_sem]
   .rw[b4];simp only[go_sem]
   simpa using b6
def outW(site:Nat)(o:List (List Nat))(v:V)(X9:aE):Prop:=(o=[]/\v=.one (.p .nils))\/(o≠[]/\ ∃g,v=.one (.hsl site g 1 0 o.length)/\X9 site=(g,some (.arr 89 1 (o.map fun w=>[sA w]))))
theorem Q5(f:Int)(ls:List Let)(hl:ls.length<=1000000)(Yk:aa ls≠[])(hp:∀v l,ls[v]?=some l->(l.kind==2)=false->v∈aa ls):
  bz S 30 [de f ls] (.one (.own 89 1 ((bY (cX ls (aa ls)) (2*ls.length+2*(aa ls).length)).map fun w=>[sA w]))):=by
 have pa:=Wa f ls hl;have sE:∀x∈aa ls,x<ls.length:=fun x h=>uM h;have ZP:(aa ls).length<=ls.length:=fv ls ls.length;unfold DV at pa;rw[if_neg Yk] at pa;generalize aa ls=ax at Yk hp pa sE ZP;have m1:=dr (a:=ls.length) (by omega);have m2:=dr (a:=ax.length) (by omega);have m3:=wrap_add (a:=2*ls.length) (b:=2*ax.length) (by omega);have hl2:(nP ax).length=ax.length:=by simp
 have YE:2*ls.length+2*ax.length<=140737488355328:=by omega
 have aax:List.replicate (2*ls.length+2*ax.length) [PV.bool false]=bP (List.replicate (2*ls.length+2*ax.length) false):=by simp
 refine aP c30 ?_;have alf:∀(X9:aE),land X9 [] 1920128064 ((RV.one (.own 3 1 (nP ax))).bZ (S.lone 1920128064))=some (.one (.hsl 1920128064 ((X9 1920128064).1+1) 1 0 ax.length),[(1920128064,((X9 1920128064).1+1,some (.arr 3 1 (nP ax))))]):=by
  intro X9;have Zm:S.lone 1920128064=false:=by kernel_rfl
  rw[Zm];simp only[RV.bZ,land,true_or,if_true,uu,eZ,dJ,iO,ju,lJ,fD,aah,abo]
 simp only[go_sem,i30,s53,au pa (alf _),m1,m2,m3,YE,aax];generalize hN:2*ls.length+2*ax.length=N at YE;refine bm (fun k env X9=>env 1=.one (.Yh 1920000000 1 0)/\X9 1920000000=(1,some (.var (mE f ls)))/\env 4=.one (.hsl 1920128064 1 1 0 ax.length)/\X9 1920128064=(1,some (.arr 3 1 (nP ax)))/\
   env 5=.one (.hsl 1920192512 1 1 0 N)/\X9 1920192512=(1,some (.arr 4 1 (bP (aK (cX ls ax) N k).2)))/\env 6=vi k/\outW 1920896192 (aK (cX ls ax) N k).1 (env 3) X9) 0 N (aae _) ?_ ?_
 .simp only[go_sem];exact⟨rfl,rfl,.inl ⟨rfl,rfl⟩⟩
 rintro k env X9 hk ⟨h1,hB,h4,hA,h5,hS,h6,ho⟩
 have hlen:=iL (cX ls ax) N k;have aaH:=jU (cX ls ax) N k;by_cases Ye:k<N
 .have Yf:((k:Int)<(N:Int)):=by omega
  have w1:=ah (n:=k) (by omega);have hs:=dL (cX ls ax) N k;generalize Yz:aK (cX ls ax) N k=st at hlen hs ho hS aaH;obtain⟨out,sn⟩:=st;simp only at hlen ho hS aaH;obtain⟨b,hb⟩:=ai (ls:=sn) (k:=k) (by omega);have hbp:=km hb;unfold eV at hs;have hgd:sn.getD k true=b:=by rw[aal,hb];rfl
  simp only[hgd] at hs;cases b with
  |true=>have hs:aK (cX ls ax) N (k+1)=(out,sn):=hs;simp only[go_sem,i30_l4,i30_r3,h1,hB,h4,hA,h5,hS,h6,Ye,Yf,hbp,w1,hs];exact ho
  |false=>
   have hs:aK (cX ls ax) N (k+1)=(out++[(cH (cX ls ax) (N+1) k sn).1],(cH (cX ls ax) (N+1) k sn).2):=by rw[hs,hlen];rfl
   have hul:=k9 sn;simp only[go_sem,i30_l4,h5,hS,h6,Ye,Yf,hbp];refine U0 (f:=f) hl (by omega) sE hp (N+1) k sn [] _ _ ?_ ?_ ?_ ?_ ?_ ?_ ?_ ?_ (by omega) (by omega) (by omega) (by simp;omega) ?_
   .simp only[go_sem,h1]
   .simp only[go_sem,hB]
   .simp only[go_sem,h4]
   .simp only[go_sem,hA]
   .simp only[go_sem,h5,hlen]
   .simp only[go_sem,hS]
   .exact .inl ⟨rfl,by simp only[go_sem]⟩
   .simp only[go_sem]
   intro Yc Ya q1 q3 q4 q5 q6 b1 b2 b3 b4 b5 b6;simp only[go_sem,h1,h4,h5,h6] at q1 q3 q4 q5 q6;simp only[go_sem,hB,hA] at b1 b2 b3 b4;have agE:(cH (cX ls ax) (N+1) k sn).1≠[]:=by unfold cH;rw[hgd];simp
   rw[aaE] at b6;rcases b6 with ⟨e,_⟩|⟨_,g,h7,hC⟩
   .exact(agE e).elim
   generalize cH (cX ls ax) (N+1) k sn=wf at hs agE b5 h7 hC;obtain⟨w,Zs⟩:=wf;simp only at hs agE b5 h7 hC;have htw:List.take w.length (nP w)=nP w:=aaD (by simp);rcases ho with ⟨rfl,h3⟩|⟨ho,go,h3,hO⟩
   .rw[h3] at q3;simp only[go_sem,i30_r2,i30_r3,q1,q3,q4,q5,q6,b1,b2,b5,h7,hC,htw,w1,hs,Ye,wY,aN,iD];exact .inr ⟨by simp,_,rfl,by simp[ae]⟩
   rw[h3] at q3;have hto:List.take out.length (out.map fun w=>[sA w])=out.map fun w=>[sA w]:=aaD (by simp);have Y0:(out.length+1)*24<=140737488355328:=by omega
   simp only[go_sem,i30_r2,i30_r3,q1,q3,q4,q5,q6,b1,b2,b3,b5,h7,hC,hO,htw,hto,Y0,w1,hs,Ye,wY,aag,aN,iD];exact .inr ⟨by simp,go+1,by simp,by simp[ae]⟩
 have:k=N:=by omega
 subst this;have he:bY (cX ls ax) k=(aK (cX ls ax) k k).1:=rfl;rw[<- he] at ho;rcases ho with ⟨e,h3⟩|⟨ho,g,h3,hC⟩
 .exact(KO (cX ls ax) k k (by have:=aaQ.2 Yk;omega) (by have:=aaQ.2 Yk;omega) e).elim
 simp only[go_sem,i30_l4,i30_r5,h3,h5,h6,aW];exact qB hC (by simp)
abbrev Vy(l:Let):List C:=[.p (.int .i64 l.kind),.p (.int .i64 l.gate),.p (.int .i64 l.Yb),.p (.int .i64 l.id),.p (.int .i64 l.sign),.p (.bool l.over)]
def dV(l o:Let):Bool:=(o.kind==l.kind&&o.gate==l.gate)&&o.Yb==l.Yb
def dI(l o:Let):Bool:=((o.kind==l.kind&&o.id==l.id)&&o.sign==l.sign)&& !(o.over==l.over)
def JG(f:Int)(ls:List Let)(l:Let):Bool:= !(((((((l.id !=0||l.sign !=0)||l.over)||decide (l.gate<0))||decide (f<l.gate))||decide (l.Yb<1))||decide ((ao (AL l.gate) ls:Int)<l.Yb))||(((ao (dV l) ls:Nat):Int)!=1))
def wh(ls:List Let)(l:Let):Bool:= !((((((l.gate !=0||l.Yb !=0)||(l.sign !=1&&l.sign != -1))||decide (l.id<1))||decide (((ao Let.aw ls/2:Nat):Int)<l.id))||(((ao (dI l) ls:Nat):Int)!=1))||(((ao (jE l.id) ls:Nat):Int)!=2))
def jC(f:Int)(ls:List Let)(l:Let):Bool:=if l.kind==1 then JG f ls l else if l.kind==2 then wh ls l else false
theorem L8{f:Int}{ls:List Let}{l:Let}{g i:Nat}{env:Env}{X9:aE}{Q:dO}(hl:ls.length<=1000000)(h1:env 1=.one (.Yh 1856000000 1 0))(hB:X9 1856000000=(1,some (.var (mE f ls))))(h3:env 3=vi i)(h4:env 4=.one (.Yh 1856256320 g 0))(hL:X9 1856256320=(g,some (.var (Vy l))))
  (h5:env 5=vi 0) (h6:env 6=vi 0) (h7:env 7=vi 0)
  (hq:∀Yc Ya,Yc 1=env 1->Yc 3=env 3->Yc 4=env 4->Ya 1856000000=X9 1856000000->Ya 1856256320=X9 1856256320->Yc 5=vi (ao (dV l) ls)->Yc 6=vi (ao (dI l) ls)->Q .normal Yc Ya):
  W S .all (.loop i29_l1) (fQ 2 Q) env X9:=by
 refine bm (fun k Yc Ya=>Yc 1=.one (.Yh 1856000000 1 0)/\Ya 1856000000=(1,some (.var (mE f ls)))/\Yc 3=vi i/\Yc 4=.one (.Yh 1856256320 g 0)/\Ya 1856256320=(g,some (.var (Vy l)))/\
   Yc 5=vi (ao (dV l) (ls.take k))/\Yc 6=vi (ao (dI l) (ls.take k))/\Yc 7=vi k) 0 ls.length (aae _) ?_ ?_
 .exact⟨h1,hB,h3,h4,hL,h5,h6,h7⟩
 rintro k Yc Ya hk ⟨g1,gB,g3,g4,gL,g5,g6,g7⟩
 by_cases Ye:k<ls.length
 .obtain⟨o,ho⟩:=ai Ye;have hi:=ef ho;have Yf:((k:Int)<(ls.length:Int)):=by omega
  have b5:=eD (dV l) ls k;have b6:=eD (dI l) ls k;have w1:=ah (n:=k) (by omega);have w5:=ah (n:=ao (dV l) (ls.take k)) (by omega);have w6:=ah (n:=ao (dI l) (ls.take k)) (by omega);cases e0:(o.kind==l.kind) with
  |true=>
   cases e1:(o.gate==l.gate) with
   |true=>
    cases e2:(o.Yb==l.Yb) with
    |true=>
     cases e3:(o.id==l.id) with
     |true=>
      cases e4:(o.sign==l.sign) with
      |true=>
       cases e5:(o.over==l.over) with
       |true=>have c5:=fC (p:=dV l) ho (by simp only[dV,e0,e1,e2];rfl);have c6:=bJ (p:=dI l) ho (by simp only[dI,e0,e3,e4,e5];rfl);simp only[go_sem,i29_l1,g1,gB,g3,g4,gL,g5,g6,g7,hi,Let.ps,Yf,w1,w5,e0,e1,e2,e3,e4,e5,c5,c6];first|exact Ye|exact⟨Ye,rfl⟩|exact⟨Ye,rfl,rfl⟩
       |false=>have c5:=fC (p:=dV l) ho (by simp only[dV,e0,e1,e2];rfl);have c6:=fC (p:=dI l) ho (by simp only[dI,e0,e3,e4,e5];rfl);simp only[go_sem,i29_l1,g1,gB,g3,g4,gL,g5,g6,g7,hi,Let.ps,Yf,w1,w5,w6,e0,e1,e2,e3,e4,e5,c5,c6];first|exact Ye|exact⟨Ye,rfl⟩|exact⟨Ye,rfl,rfl⟩
      |false=>have c5:=fC (p:=dV l) ho (by simp only[dV,e0,e1,e2];rfl);have c6:=bJ (p:=dI l) ho (by simp only[dI,e0,e3,e4];rfl);simp only[go_sem,i29_l1,g1,gB,g3,g4,gL,g5,g6,g7,hi,Let.ps,Yf,w1,w5,e0,e1,e2,e3,e4,c5,c6];first|exact Ye|exact⟨Ye,rfl⟩|exact⟨Ye,rfl,rfl⟩
     |false=>have c5:=fC (p:=dV l) ho (by simp only[dV,e0,e1,e2];rfl);have c6:=bJ (p:=dI l) ho (by simp only[dI,e0,e3];rfl);simp only[go_sem,i29_l1,g1,gB,g3,g4,gL,g5,g6,g7,hi,Let.ps,Yf,w1,w5,e0,e1,e2,e3,c5,c6];first|exact Ye|exact⟨Ye,rfl⟩|exact⟨Ye,rfl,rfl⟩
    |false=>
     cases e3:(o.id==l.id) with
     |true=>
      cases e4:(o.sign==l.sign) with
      |true=>
       cases e5:(o.over==l.over) with
       |true=>have c5:=bJ (p:=dV l) ho (by simp only[dV,e0,e1,e2];rfl);have c6:=bJ (p:=dI l) ho (by simp only[dI,e0,e3,e4,e5];rfl);simp only[go_sem,i29_l1,g1,gB,g3,g4,gL,g5,g6,g7,hi,Let.ps,Yf,w1,e0,e1,e2,e3,e4,e5,c5,c6];first|exact Ye|exact⟨Ye,rfl⟩|exact⟨Ye,rfl,rfl⟩
       |false=>have c5:=bJ (p:=dV l) ho (by simp only[dV,e0,e1,e2];rfl);have c6:=fC (p:=dI l) ho (by simp only[dI,e0,e3,e4,e5];rfl);simp only[go_sem,i29_l1,g1,gB,g3,g4,gL,g5,g6,g7,hi,Let.ps,Yf,w1,w6,e0,e1,e2,e3,e4,e5,c5,c6];first|exact Ye|exact⟨Ye,rfl⟩|exact⟨Ye,rfl,rfl⟩
      |false=>have c5:=bJ (p:=dV l) ho (by simp only[dV,e0,e1,e2];rfl);have c6:=bJ (p:=dI l) ho (by simp only[dI,e0,e3,e4];rfl);simp only[go_sem,i29_l1,g1,gB,g3,g4,gL,g5,g6,g7,hi,Let.ps,Yf,w1,e0,e1,e2,e3,e4,c5,c6];first|exact Ye|exact⟨Ye,rfl⟩|exact⟨Ye,rfl,rfl⟩
     |false=>have c5:=bJ (p:=dV l) ho (by simp only[dV,e0,e1,e2];rfl);have c6:=bJ (p:=dI l) ho (by simp only[dI,e0,e3];rfl);simp only[go_sem,i29_l1,g1,gB,g3,g4,gL,g5,g6,g7,hi,Let.ps,Yf,w1,e0,e1,e2,e3,c5,c6];first|exact Ye|exact⟨Ye,rfl⟩|exact⟨Ye,rfl,rfl⟩
   |false=>
    cases e3:(o.id==l.id) with
    |true=>
     cases e4:(o.sign==l.sign) with
     |true=>
      cases e5:(o.over==l.over) with
      |true=>have c5:=bJ (p:=dV l) ho (by simp only[dV,e0,e1];rfl);have c6:=bJ (p:=dI l) ho (by simp only[dI,e0,e3,e4,e5];rfl);simp only[go_sem,i29_l1,g1,gB,g3,g4,gL,g5,g6,g7,hi,Let.ps,Yf,w1,e0,e1,e3,e4,e5,c5,c6];first|exact Ye|exact⟨Ye,rfl⟩|exact⟨Ye,rfl,rfl⟩
      |false=>have c5:=bJ (p:=dV l) ho (by simp only[dV,e0,e1];rfl);have c6:=fC (p:=dI l) ho (by simp only[dI,e0,e3,e4,e5];rfl);simp only[go_sem,i29_l1,g1,gB,g3,g4,gL,g5,g6,g7,hi,Let.ps,Yf,w1,w6,e0,e1,e3,e4,e5,c5,c6];first|exact Ye|exact⟨Ye,rfl⟩|exact⟨Ye,rfl,rfl⟩
     |false=>have c5:=bJ (p:=dV l) ho (by simp only[dV,e0,e1];rfl);have c6:=bJ (p:=dI l) ho (by simp only[dI,e0,e3,e4];rfl);simp only[go_sem,i29_l1,g1,gB,g3,g4,gL,g5,g6,g7,hi,Let.ps,Yf,w1,e0,e1,e3,e4,c5,c6];first|exact Ye|exact⟨Ye,rfl⟩|exact⟨Ye,rfl,rfl⟩
    |false=>have c5:=bJ (p:=dV l) ho (by simp only[dV,e0,e1];rfl);have c6:=bJ (p:=dI l) ho (by simp only[dI,e0,e3];rfl);simp only[go_sem,i29_l1,g1,gB,g3,g4,gL,g5,g6,g7,hi,Let.ps,Yf,w1,e0,e1,e3,c5,c6];first|exact Ye|exact⟨Ye,rfl⟩|exact⟨Ye,rfl,rfl⟩
  |false=>have c5:=bJ (p:=dV l) ho (by simp only[dV,e0];rfl);have c6:=bJ (p:=dI l) ho (by simp only[dI,e0];rfl);simp only[go_sem,i29_l1,g1,gB,g3,g4,gL,g5,g6,g7,hi,Let.ps,Yf,w1,e0,c5,c6];first|exact Ye|exact⟨Ye,rfl⟩|exact⟨Ye,rfl,rfl⟩
 have:k=ls.length:=by omega
 subst this;rw[aaV] at g5 g6;simp only[go_sem,i29_l1,g1,gB,g7,aW];refine hq _ _ ?_ ?_ ?_ ?_ ?_ ?_ ?_;all_goals simp only[go_sem,g1,gB,g3,g4,gL,g5,g6,h1,hB,h3,h4,hL]
theorem L7{f:Int}{ls:List Let}{l:Let}{g i:Nat}{env:Env}{X9:aE}{Q:dO}(hl:ls.length<=1000000)(h1:env 1=.one (.Yh 1856000000 1 0))(hB:X9 1856000000=(1,some (.var (mE f ls))))(h3:env 3=vi i)(h4:env 4=.one (.Yh 1856256320 g 0))(hL:X9 1856256320=(g,some (.var (Vy l))))
  (h5:env 5=vi (ao (dV l) ls)) (h6:env 6=vi (ao (dI l) ls))
  (hq:jC f ls l=true->∀Yc,Yc 1=env 1->Yc 3=env 3->Q .normal Yc X9) (hr:jC f ls l=false->∀Yc,Yc 2=.one (.p (.bool false))->Q .ret Yc X9):
  W S .all i29_r2 Q env X9:=by
 have pin:=in_r f ls hl l.gate;have pvi:=xU f ls hl;have pti:=Ri f ls hl l.id;have hcv:=ir Let.aw ls;have wv:=wrap_small (n:=ao Let.aw ls/2) (by omega);cases k1:(l.kind==1) with
 |true=>
  cases a1:(l.id !=0) with
  |true=>
   have Yd:jC f ls l=false:=by simp only[jC,k1,JG,a1];rfl
   simp only[go_sem,i29_r2,h4,hL,k1,a1];refine⟨by kernel_rfl,hr Yd _ ?_⟩;simp only[go_sem]
  |false=>
   cases a2:(l.sign !=0) with
   |true=>
    have Yd:jC f ls l=false:=by simp only[jC,k1,JG,a1,a2];rfl
    simp only[go_sem,i29_r2,h4,hL,k1,a1,a2];refine⟨by kernel_rfl,hr Yd _ ?_⟩;simp only[go_sem]
   |false=>
    cases a3:(l.over) with
    |true=>
     have Yd:jC f ls l=false:=by simp only[jC,k1,JG,a1,a2,a3];rfl
     simp only[go_sem,i29_r2,h4,hL,k1,a1,a2,a3];refine⟨by kernel_rfl,hr Yd _ ?_⟩;simp only[go_sem]
    |false=>
     cases a4:(decide (l.gate<0)) with
     |true=>
      have a4':(l.gate<0):=of_decide_eq_true a4;have Yd:jC f ls l=false:=by simp only[jC,k1,JG,a1,a2,a3,a4];rfl
      simp only[go_sem,i29_r2,h4,hL,k1,a1,a2,a3,a4'];refine⟨by kernel_rfl,hr Yd _ ?_⟩;simp only[go_sem]
     |false=>
      cases a5:(decide (f<l.gate)) with
      |true=>
       have a4':¬(l.gate<0):=of_decide_eq_false a4;have a5':(f<l.gate):=of_decide_eq_true a5;have Yd:jC f ls l=false:=by simp only[jC,k1,JG,a1,a2,a3,a4,a5];rfl
       simp only[go_sem,i29_r2,h1,hB,h4,hL,k1,a1,a2,a3,a4',a5'];refine⟨by kernel_rfl,hr Yd _ ?_⟩;simp only[go_sem]
      |false=>
       cases a6:(decide (l.Yb<1)) with
       |true=>
        have a4':¬(l.gate<0):=of_decide_eq_false a4;have a5':¬(f<l.gate):=of_decide_eq_false a5;have a6':(l.Yb<1):=of_decide_eq_true a6;have Yd:jC f ls l=false:=by simp only[jC,k1,JG,a1,a2,a3,a4,a5,a6];rfl
        simp only[go_sem,i29_r2,h1,hB,h4,hL,k1,a1,a2,a3,a4',a5',a6'];refine⟨by kernel_rfl,hr Yd _ ?_⟩;simp only[go_sem]
       |false=>
        cases a7:(decide ((ao (AL l.gate) ls:Int)<l.Yb)) with
        |true=>
         have a4':¬(l.gate<0):=of_decide_eq_false a4;have a5':¬(f<l.gate):=of_decide_eq_false a5;have a6':¬(l.Yb<1):=of_decide_eq_false a6;have a7':((ao (AL l.gate) ls:Int)<l.Yb):=of_decide_eq_true a7;have Yd:jC f ls l=false:=by simp only[jC,k1,JG,a1,a2,a3,a4,a5,a6,a7];rfl
         simp only[go_sem,i29_r2,h1,hB,h4,hL,s51,dU pin,k1,a1,a2,a3,a4',a5',a6',a7'];refine⟨by kernel_rfl,hr Yd _ ?_⟩;simp only[go_sem]
        |false=>
         cases a8:(((ao (dV l) ls:Nat):Int)!=1) with
         |true=>
          have a4':¬(l.gate<0):=of_decide_eq_false a4;have a5':¬(f<l.gate):=of_decide_eq_false a5;have a6':¬(l.Yb<1):=of_decide_eq_false a6;have a7':¬((ao (AL l.gate) ls:Int)<l.Yb):=of_decide_eq_false a7;have Yd:jC f ls l=false:=by simp only[jC,k1,JG,a1,a2,a3,a4,a5,a6,a7,a8];rfl
          simp only[go_sem,i29_r2,h1,hB,h4,hL,h5,s51,dU pin,k1,a1,a2,a3,a4',a5',a6',a7',a8];refine⟨by kernel_rfl,hr Yd _ ?_⟩;simp only[go_sem]
         |false=>
          have a4':¬(l.gate<0):=of_decide_eq_false a4;have a5':¬(f<l.gate):=of_decide_eq_false a5;have a6':¬(l.Yb<1):=of_decide_eq_false a6;have a7':¬((ao (AL l.gate) ls:Int)<l.Yb):=of_decide_eq_false a7;have Yd:jC f ls l=true:=by simp only[jC,k1,JG,a1,a2,a3,a4,a5,a6,a7,a8];rfl
          simp only[go_sem,i29_r2,h1,hB,h4,hL,h5,s51,dU pin,k1,a1,a2,a3,a4',a5',a6',a7',a8];refine⟨by kernel_rfl,hq Yd _ ?_ ?_⟩;all_goals simp only[go_sem]
 |false=>
  cases k2:(l.kind==2) with
  |true=>
   cases a1:(l.gate !=0) with
   |true=>
    have Yd:jC f ls l=false:=by simp only[jC,k1,k2,wh,a1];rfl
    simp only[go_sem,i29_r2,h4,hL,k1,k2,a1];refine⟨by kernel_rfl,hr Yd _ ?_⟩;simp only[go_sem]
   |false=>
    cases a2:(l.Yb !=0) with
    |true=>
     have Yd:jC f ls l=false:=by simp only[jC,k1,k2,wh,a1,a2];rfl
     simp only[go_sem,i29_r2,h4,hL,k1,k2,a1,a2];refine⟨by kernel_rfl,hr Yd _ ?_⟩;simp only[go_sem]
    |false=>
     cases a3:(l.sign !=1) with
     |true=>
      cases a4:(l.sign != -1) with
      |true=>
       have Yd:jC f ls l=false:=by simp only[jC,k1,k2,wh,a1,a2,a3,a4];rfl
       simp only[go_sem,i29_r2,h4,hL,k1,k2,a1,a2,a3,a4];refine⟨by kernel_rfl,hr Yd _ ?_⟩;simp only[go_sem]
      |false=>
       cases a5:(decide (l.id<1)) with
       |true=>
        have a5':(l.id<1):=of_decide_eq_true a5;have Yd:jC f ls l=false:=by simp only[jC,k1,k2,wh,a1,a2,a3,a4,a5];rfl
        simp only[go_sem,i29_r2,h4,hL,k1,k2,a1,a2,a3,a4,a5'];refine⟨by kernel_rfl,hr Yd _ ?_⟩;simp only[go_sem]
       |false=>
        cases a6:(decide (((ao Let.aw ls/2:Nat):Int)<l.id)) with
        |true=>
         have a5':¬(l.id<1):=of_decide_eq_false a5;have a6':(((ao Let.aw ls/2:Nat):Int)<l.id):=of_decide_eq_true a6;have Yd:jC f ls l=false:=by simp only[jC,k1,k2,wh,a1,a2,a3,a4,a5,a6];rfl
         simp only[go_sem,i29_r2,h1,hB,h4,hL,s27,dU pvi,cY,ba,wv,k1,k2,a1,a2,a3,a4,a5',a6'];refine⟨by kernel_rfl,hr Yd _ ?_⟩;simp only[go_sem]
        |false=>
         cases a7:(((ao (dI l) ls:Nat):Int)!=1) with
         |true=>
          have a5':¬(l.id<1):=of_decide_eq_false a5;have a6':¬(((ao Let.aw ls/2:Nat):Int)<l.id):=of_decide_eq_false a6;have Yd:jC f ls l=false:=by simp only[jC,k1,k2,wh,a1,a2,a3,a4,a5,a6,a7];rfl
          simp only[go_sem,i29_r2,h1,hB,h4,hL,h6,s27,dU pvi,cY,ba,wv,k1,k2,a1,a2,a3,a4,a5',a6',a7];refine⟨by kernel_rfl,hr Yd _ ?_⟩;simp only[go_sem]
         |false=>
          cases a8:(((ao (jE l.id) ls:Nat):Int)!=2) with
          |true=>
           have a5':¬(l.id<1):=of_decide_eq_false a5;have a6':¬(((ao Let.aw ls/2:Nat):Int)<l.id):=of_decide_eq_false a6;have Yd:jC f ls l=false:=by simp only[jC,k1,k2,wh,a1,a2,a3,a4,a5,a6,a7,a8];rfl
           simp only[go_sem,i29_r2,h1,hB,h4,hL,h6,s27,s52,dU pvi,dU pti,cY,ba,wv,k1,k2,a1,a2,a3,a4,a5',a6',a7,a8];refine⟨by kernel_rfl,hr Yd _ ?_⟩;simp only[go_sem]
          |false=>
           have a5':¬(l.id<1):=of_decide_eq_false a5;have a6':¬(((ao Let.aw ls/2:Nat):Int)<l.id):=of_decide_eq_false a6;have Yd:jC f ls l=true:=by simp only[jC,k1,k2,wh,a1,a2,a3,a4,a5,a6,a7,a8];rfl
           simp only[go_sem,i29_r2,h1,hB,h4,hL,h6,s27,s52,dU pvi,dU pti,cY,ba,wv,k1,k2,a1,a2,a3,a4,a5',a6',a7,a8];refine⟨by kernel_rfl,hq Yd _ ?_ ?_⟩;all_goals simp only[go_sem]
     |false=>
      cases a5:(decide (l.id<1)) with
      |true=>
       have a5':(l.id<1):=of_decide_eq_true a5;have Yd:jC f ls l=false:=by simp only[jC,k1,k2,wh,a1,a2,a3,a5];rfl
       simp only[go_sem,i29_r2,h4,hL,k1,k2,a1,a2,a3,a5'];refine⟨by kernel_rfl,hr Yd _ ?_⟩;simp only[go_sem]
      |false=>
       cases a6:(decide (((ao Let.aw ls/2:Nat):Int)<l.id)) with
       |true=>
        have a5':¬(l.id<1):=of_decide_eq_false a5;have a6':(((ao Let.aw ls/2:Nat):Int)<l.id):=of_decide_eq_true a6;have Yd:jC f ls l=false:=by simp only[jC,k1,k2,wh,a1,a2,a3,a5,a6];rfl
        simp only[go_sem,i29_r2,h1,hB,h4,hL,s27,dU pvi,cY,ba,wv,k1,k2,a1,a2,a3,a5',a6'];refine⟨by kernel_rfl,hr Yd _ ?_⟩;simp only[go_sem]
       |false=>
        cases a7:(((ao (dI l) ls:Nat):Int)!=1) with
        |true=>
         have a5':¬(l.id<1):=of_decide_eq_false a5;have a6':¬(((ao Let.aw ls/2:Nat):Int)<l.id):=of_decide_eq_false a6;have Yd:jC f ls l=false:=by simp only[jC,k1,k2,wh,a1,a2,a3,a5,a6,a7];rfl
         simp only[go_sem,i29_r2,h1,hB,h4,hL,h6,s27,dU pvi,cY,ba,wv,k1,k2,a1,a2,a3,a5',a6',a7];refine⟨by kernel_rfl,hr Yd _ ?_⟩;simp only[go_sem]
        |false=>
         cases a8:(((ao (jE l.id) ls:Nat):Int)!=2) with
         |true=>
          have a5':¬(l.id<1):=of_decide_eq_false a5;have a6':¬(((ao Let.aw ls/2:Nat):Int)<l.id):=of_decide_eq_false a6;have Yd:jC f ls l=false:=by simp only[jC,k1,k2,wh,a1,a2,a3,a5,a6,a7,a8];rfl
          simp only[go_sem,i29_r2,h1,hB,h4,hL,h6,s27,s52,dU pvi,dU pti,cY,ba,wv,k1,k2,a1,a2,a3,a5',a6',a7,a8];refine⟨by kernel_rfl,hr Yd _ ?_⟩;simp only[go_sem]
         |false=>
          have a5':¬(l.id<1):=of_decide_eq_false a5;have a6':¬(((ao Let.aw ls/2:Nat):Int)<l.id):=of_decide_eq_false a6;have Yd:jC f ls l=true:=by simp only[jC,k1,k2,wh,a1,a2,a3,a5,a6,a7,a8];rfl
          simp only[go_sem,i29_r2,h1,hB,h4,hL,h6,s27,s52,dU pvi,dU pti,cY,ba,wv,k1,k2,a1,a2,a3,a5',a6',a7,a8];refine⟨by kernel_rfl,hq Yd _ ?_ ?_⟩;all_goals simp only[go_sem]
  |false=>
   have Yd:jC f ls l=false:=by simp only[jC,k1,k2];rfl
   simp only[go_sem,i29_r2,h4,hL,k1,k2];refine hr Yd _ ?_;simp only[go_sem]
def fB(f:Int)(ls:List Let):Bool:=ls.all (jC f ls)
theorem L6(f:Int)(ls:List Let)(hl:ls.length<=1000000):bz S 29 [de f ls] (rb (fB f ls)):=by
 refine aP c29 ?_;simp only[go_sem,i29];refine bm (fun k env X9=>env 1=.one (.Yh 1856000000 1 0)/\X9 1856000000=(1,some (.var (mE f ls)))/\env 3=vi k/\ ∀j l,j<k->ls[j]?=some l->jC f ls l=true) 0 ls.length (aae _) ?_ ?_
 .simp only[go_sem];exact⟨rfl,fun j l h=>absurd h (abB j)⟩
 rintro k env X9 hk ⟨h1,hB,h3,Yd⟩
 by_cases Ye:k<ls.length
 .obtain⟨l,ho⟩:=ai Ye;have hi:=ef ho;have Yf:((k:Int)<(ls.length:Int)):=by omega
  have w1:=ah (n:=k) (by omega);simp only[go_sem,i29_l4,h1,hB,h3,hi,Let.ps,Yf];refine L8 (f:=f) (l:=l) (g:=(X9 1856256320).1+1) (i:=k) hl ?_ ?_ ?_ ?_ ?_ ?_ ?_ ?_ ?_
  .simp only[go_sem,h1]
  .simp only[go_sem,hB]
  .simp only[go_sem,h3]
  .simp only[go_sem]
  .simp only[go_sem]
  .simp only[go_sem]
  .simp only[go_sem]
  .simp only[go_sem]
  intro Yc Ya q1 q3 q4 b1 b2 q5 q6;simp only[go_sem,h1,h3] at q1 q3 q4;simp only[go_sem,hB] at b1 b2;simp only[go_sem];refine L7 (f:=f) (l:=l) (i:=k) hl q1 b1 q3 q4 b2 q5 q6 ?_ ?_
  .intro acg Yn e1 e3;rw[q1] at e1;rw[q3] at e3;simp only[go_sem,i29_r3,e1,b1,e3,w1];refine⟨Ye,fun j l' hj hl'=>?_⟩;rcases abe.1 hj with hj|rfl
   .exact Yd j l' hj hl'
   rw[ho] at hl';cases hl';exact acg
  intro adL Yn e2;have hf:fB f ls=false:=by unfold fB;rw[List.all_eq_false];exact⟨l,aab ho,by simp[adL]⟩
  simp only[go_sem,e2,hf]
 have:k=ls.length:=by omega
 subst this;have hf:fB f ls=true:=by unfold fB;rw[aaP];intro x hx;obtain⟨j,hj,rfl⟩:=List.getElem_of_mem hx;exact Yd j _ hj (by simp)
 simp only[go_sem,i29_l4,i29_r5,h1,hB,h3,aW,hf]
theorem Pe{ls:List Let}{o:List Nat}{i x:Nat}:x∈zc ls o i↔x∈o\/x=i:=by
 unfold zc;generalize (o.takeWhile (mR ls i)).length=K;constructor
 .intro h;rcases aaw.1 h with h|h
  .exact .inl (ab2 h)
  rcases aag.1 h with h|h
  .exact .inr h
  exact .inl (ab1 h)
 rintro (h|rfl)
 .rw[<- aa2 K o] at h;rcases aaw.1 h with h|h
  .exact aaw.2 (.inl h)
  exact aaw.2 (.inr (aag.2 (.inr h)))
 simp
theorem Cn{ls:List Let}:∀ {k x:Nat},k<=ls.length->(x∈ig ls k↔x<k/\ ∃l,ls[x]?=some l/\l.aA=true):=by
 intro k
 induction k with
 |zero=>intro x _;simp[ig]
 |succ k ih=>
  intro x hk;rw[jK];obtain⟨l,hl⟩:=ai (ls:=ls) (k:=k) (by omega);have ih:=ih (x:=x) (by omega);unfold mU;rw[hl];simp only;by_cases hp:l.aA=true
  .rw[if_pos hp,Pe,ih];constructor
   .rintro (⟨h1,h2⟩|rfl)
    .exact⟨by omega,h2⟩
    exact⟨by omega,l,hl,hp⟩
   rintro ⟨h1,h2⟩
   rcases abe.1 h1 with h|rfl
   .exact .inl ⟨h,h2⟩
   exact .inr rfl
  rw[if_neg hp,ih];constructor
  .rintro ⟨h1,h2⟩;exact⟨by omega,h2⟩
  rintro ⟨h1,m,hm,hm2⟩
  rcases abe.1 h1 with h|rfl
  .exact⟨h,m,hm,hm2⟩
  rw[hl] at hm;cases hm;exact(hp hm2).elim
theorem dK{ls:List Let}{x:Nat}:x∈aa ls↔ ∃l,ls[x]?=some l/\l.aA=true:=by
 have:=Cn (ls:=ls) (k:=ls.length) (x:=x) (aad _);have e:aa ls=ig ls ls.length:=rfl;rw[e,this];constructor
 .rintro ⟨_,h⟩;exact h
 rintro ⟨l,h,h2⟩;exact⟨(aac.1 h).1,l,h,h2⟩
theorem uk{ls:List Let}(h:fB f ls=true){v:Nat}{l:Let}(hv:ls[v]?=some l):l.aA=true\/l.aw=true:=by
 have:=(aaP.1 h) l (aab hv);unfold jC at this;unfold Let.aA Let.aw;cases h1:(l.kind==1) with
 |true=>exact .inl rfl
 |false=>
  cases h2:(l.kind==2) with
  |true=>exact .inr rfl
  |false=>rw[h1,h2] at this;simp at this
def bb(ls:List Let):Nat:=(bY (cX ls (aa ls)) (2*ls.length+2*(aa ls).length)).length
def dS(f:Int)(ls:List Let):Bool:=(match ls[0]? with|some l=>l.kind==1|none=>true)&&(ao Let.aA ls%2==0)&&fB f ls&&(bb ls==ao Let.aA ls+ao Let.aw ls/2+2)
def aO(f:Int)(ls:List Let):Int:=if 400<ls.length\/200<ao Let.aw ls then 7 else if f<0\/40<f then 2 else if ls=[] then 0 else if dS f ls then 0 else 3
theorem Tp(f:Int)(ls:List Let)(hl:ls.length<=1000000):bz S 10 [de f ls] (ri (aO f ls)):=by
 have pvi:=xU f ls hl;have ppa:=OB f ls hl;have ple:=L6 f ls hl;have pcr:=Gr f ls hl;have hci:=ir Let.aw ls;have ZI:=ir Let.aA ls;refine aP c10 ?_;unfold aO;by_cases h1:400<ls.length
 .have Z7:(400:Int)<(ls.length:Int):=by omega
  simp only[go_sem,i10,h1,Z7]
 have Z7:¬(400:Int)<(ls.length:Int):=by omega
 by_cases h2:200<ao Let.aw ls
 .have ZQ:(200:Int)<(ao Let.aw ls:Int):=by omega
  simp only[go_sem,i10,h1,Z7,h2,ZQ,s27,bj pvi]
 have ZQ:¬(200:Int)<(ao Let.aw ls:Int):=by omega
 by_cases h3:f<0
 .simp only[go_sem,i10,h1,Z7,h2,ZQ,h3,s27,bj pvi]
 by_cases h4:40<f
 .simp only[go_sem,i10,h1,Z7,h2,ZQ,h3,h4,s27,bj pvi]
 have aoj:¬(400<ls.length\/200<ao Let.aw ls):=by omega
 have aoi:¬(f<0\/40<f):=by omega
 rw[if_neg aoj,if_neg aoi];by_cases he:ls=[]
 .subst he;have hz:(((0:Nat):Int)==0)=true:=by decide
  have hz3:¬((400:Int)<((0:Nat):Int)):=by decide
  have ana:bz S 27 [.agg [.p (.int .i64 f),.p (.sl [])]] (ri (ao Let.aw [])):=pvi;simp only[go_sem,i10,hz3,ZQ,h3,h4,s27,bj ana,hz]
 have hlen:0<ls.length:=aaQ.2 he;obtain⟨l0,h0⟩:=ai hlen;have hi0:=ef h0;have hnz:(((ls.length:Nat):Int)==0)=false:=by simp;omega
 rw[if_neg he];generalize hr:(if dS f ls=true then (0:Int) else 3)=r;cases c1:(l0.kind==1) with
 |false=>
  have c1':(l0.kind !=1)=true:=by simp[bne,c1]
  have hv:dS f ls=false:=by simp only[dS,h0,c1];rfl
  rw[hv] at hr;have hr:(3:Int)=r:=hr;subst hr;simp only[go_sem,i10,Z7,ZQ,h3,h4,s27,bj pvi,hnz,s28,bj ppa,hi0,Let.ps,c1'];exact aH
 |true=>
  have c1':(l0.kind !=1)=false:=by simp[bne,c1]
  cases c2:(ao Let.aA ls%2==0) with
  |false=>
   have c2':(((ao Let.aA ls%2:Nat):Int)!=0)=true:=by simp at c2 ⊢;omega
   have hv:dS f ls=false:=by simp only[dS,h0,c1,c2];rfl
   rw[hv] at hr;have hr:(3:Int)=r:=hr;subst hr;simp only[go_sem,i10,Z7,ZQ,h3,h4,s27,bj pvi,hnz,s28,bj ppa,hi0,Let.ps,c1',eH,ba,c2'];exact aH
  |true=>
   have c2':(((ao Let.aA ls%2:Nat):Int)!=0)=false:=by simp at c2 ⊢;omega
   cases c3:fB f ls with
   |false=>
    rw[c3] at ple;have hv:dS f ls=false:=by simp only[dS,h0,c1,c2,c3];rfl
    rw[hv] at hr;have hr:(3:Int)=r:=hr;subst hr;simp only[go_sem,i10,Z7,ZQ,h3,h4,s27,bj pvi,hnz,s28,bj ppa,hi0,Let.ps,c1',eH,ba,c2',s29,dF ple];exact aH
   |true=>
    rw[c3] at ple;have Yk:aa ls≠[]:=fun e=>by have:(0:Nat)∈aa ls:=dK.2 ⟨l0,h0,c1⟩;rw[e] at this;cases this
    have hp:∀v l,ls[v]?=some l->(l.kind==2)=false->v∈aa ls:=fun v l hv h2=>by
     rcases uk c3 hv with h|h
     .exact dK.2 ⟨l,hv,h⟩
     unfold Let.aw at h;rw[h2] at h;cases h
    have pw:=Q5 f ls hl Yk hp;have hnw:bb ls=(bY (cX ls (aa ls)) (2*ls.length+2*(aa ls).length)).length:=rfl;have hwl:=jU (cX ls (aa ls)) (2*ls.length+2*(aa ls).length) (2*ls.length+2*(aa ls).length);generalize hW:bY (cX ls (aa ls)) (2*ls.length+2*(aa ls).length)=ws at pw hwl hnw;have a1:=wrap_add (a:=ao Let.aA ls) (b:=ao Let.aw ls/2) (by omega);have a2:IntKind.i64.wrap (((ao Let.aA ls+ao Let.aw ls/2:Nat):Int)+2)=((ao Let.aA ls+ao Let.aw ls/2+2:Nat):Int):=wrap_add (a:=ao Let.aA ls+ao Let.aw ls/2) (b:=2) (by omega);have Zm:S.lone 640513152=false:=by kernel_rfl
    have Zy:∀(X9:aE),land X9 [] 640513152 ((RV.one (.own 89 1 (ws.map fun w=>[sA w]))).bZ (S.lone 640513152))=some (.one (.hsl 640513152 ((X9 640513152).1+1) 1 0 ws.length),[(640513152,((X9 640513152).1+1,some (.arr 89 1 (ws.map fun w=>[sA w]))))]):=by intro X9;rw[Zm];simp only[RV.bZ,land,true_or,if_true,uu,eZ,dJ,iO,ju,lJ,fD,aah,abo]
    cases c4:(ws.length==ao Let.aA ls+ao Let.aw ls/2+2) with
    |false=>
     have c4':(((ws.length:Nat):Int)!=((ao Let.aA ls+ao Let.aw ls/2+2:Nat):Int))=true:=by simp at c4 ⊢;omega
     have hv:dS f ls=false:=by simp only[dS,h0,c1,c2,c3,hnw,c4];rfl
     rw[hv] at hr;have hr:(3:Int)=r:=hr;subst hr;simp only[go_sem,i10,Z7,ZQ,h3,h4,s27,bj pvi,hnz,s28,bj ppa,hi0,Let.ps,c1',eH,ba,c2',s29,dF ple,s30,bl pw (Zy _),s31,dU pcr,a1,a2,c4'];exact aH
    |true=>
     have c4':(((ws.length:Nat):Int)!=((ao Let.aA ls+ao Let.aw ls/2+2:Nat):Int))=false:=by simp at c4 ⊢;omega
     have hv:dS f ls=true:=by simp only[dS,h0,c1,c2,c3,hnw,c4];rfl
     rw[hv] at hr;have hr:(0:Int)=r:=hr;subst hr;simp only[go_sem,i10,Z7,ZQ,h3,h4,s27,bj pvi,hnz,s28,bj ppa,hi0,Let.ps,c1',eH,ba,c2',s29,dF ple,s30,bl pw (Zy _),s31,dU pcr,a1,a2,c4'];exact aH
def cF(f:Int)(l:Let):Bool:=if l.kind==1 then (((decide (l.gate<0)||decide (f<l.gate))||l.id !=0)||l.sign !=0)||l.over else if l.kind==2 then (l.gate !=0||l.Yb !=0)||(l.sign !=1&&l.sign != -1) else true
theorem V7(f:Int)(l:Let)(x1 x2 x3 x4 x5 x6:PV):bz S 89 [OU l,.one (.p (.box [.box [.int .i64 f,x1,x2,x3,x4,x5,x6]]))] (rb (cF f l)):=by
 refine aP c89 ?_;cases k1:(l.kind==1) with
 |true=>
  cases a1:(decide (l.gate<0)) with
  |true=>
   have a1':(l.gate<0):=of_decide_eq_true a1;have hb:cF f l=true:=by simp only[cF,k1,a1];rfl
   simp only[go_sem,i89,k1,a1',hb];exact aH
  |false=>
   cases a2:(decide (f<l.gate)) with
   |true=>
    have a1':¬(l.gate<0):=of_decide_eq_false a1;have a2':(f<l.gate):=of_decide_eq_true a2;have hb:cF f l=true:=by simp only[cF,k1,a1,a2];rfl
    simp only[go_sem,i89,k1,a1',a2',hb];exact aH
   |false=>
    cases a3:(l.id !=0) with
    |true=>
     have a1':¬(l.gate<0):=of_decide_eq_false a1;have a2':¬(f<l.gate):=of_decide_eq_false a2;have hb:cF f l=true:=by simp only[cF,k1,a1,a2,a3];rfl
     simp only[go_sem,i89,k1,a1',a2',a3,hb];exact aH
    |false=>
     cases a4:(l.sign !=0) with
     |true=>
      have a1':¬(l.gate<0):=of_decide_eq_false a1;have a2':¬(f<l.gate):=of_decide_eq_false a2;have hb:cF f l=true:=by simp only[cF,k1,a1,a2,a3,a4];rfl
      simp only[go_sem,i89,k1,a1',a2',a3,a4,hb];exact aH
     |false=>
      cases a5:(l.over) with
      |true=>
       have a1':¬(l.gate<0):=of_decide_eq_false a1;have a2':¬(f<l.gate):=of_decide_eq_false a2;have hb:cF f l=true:=by simp only[cF,k1,a1,a2,a3,a4,a5];rfl
       simp only[go_sem,i89,k1,a1',a2',a3,a4,a5,hb];exact aH
      |false=>
       have a1':¬(l.gate<0):=of_decide_eq_false a1;have a2':¬(f<l.gate):=of_decide_eq_false a2;have hb:cF f l=false:=by simp only[cF,k1,a1,a2,a3,a4,a5];rfl
       simp only[go_sem,i89,k1,a1',a2',a3,a4,a5,hb];exact aH
 |false=>
  cases k2:(l.kind==2) with
  |true=>
   cases a1:(l.gate !=0) with
   |true=>
    have hb:cF f l=true:=by simp only[cF,k1,k2,a1];rfl
    simp only[go_sem,i89,k1,k2,a1,hb]
   |false=>
    cases a2:(l.Yb !=0) with
    |true=>
     have hb:cF f l=true:=by simp only[cF,k1,k2,a1,a2];rfl
     simp only[go_sem,i89,k1,k2,a1,a2,hb]
    |false=>
     cases a3:(l.sign !=1) with
     |true=>
      cases a4:(l.sign != -1) with
      |true=>
       have hb:cF f l=true:=by simp only[cF,k1,k2,a1,a2,a3,a4];rfl
       simp only[go_sem,i89,k1,k2,a1,a2,a3,a4,hb]
      |false=>
       have hb:cF f l=false:=by simp only[cF,k1,k2,a1,a2,a3,a4];rfl
       simp only[go_sem,i89,k1,k2,a1,a2,a3,a4,hb]
     |false=>
      have hb:cF f l=false:=by simp only[cF,k1,k2,a1,a2,a3];rfl
      simp only[go_sem,i89,k1,k2,a1,a2,a3,hb]
  |false=>
   have hb:cF f l=true:=by simp only[cF,k1,k2];rfl
   simp only[go_sem,i89,k1,k2,hb]
abbrev dfn(f:Int)(x1 x2 x3 x4 x5 x6:PV):PV:=.fn 89 [] [.box [.box [.int .i64 f,x1,x2,x3,x4,x5,x6]]]
theorem ML(f:Int)(ls:List Let)(x1 x2 x3 x4 x5 x6:PV)(hl:ls.length<=1000000)(hn:x1.norm=x1/\x2.norm=x2/\x3.norm=x3/\x4.norm=x4/\x5.norm=x5/\x6.norm=x6):
  ∃k:Int,(0<=k↔ls.any (cF f)=true)/\bz S 108 [.one (.p (kL ls)),.one (.p (dfn f x1 x2 x3 x4 x5 x6))] (ri k):=by
 have main:∀r:Int,(∀(k:Nat) l,ls[k]?=some l->cF f l=true->(∀(j:Nat) m,j<k->ls[j]?=some m->cF f m=false)->r=k)->((∀(j:Nat) m,ls[j]?=some m->cF f m=false)->r= -1)->
   bz S 108 [.one (.p (kL ls)),.one (.p (dfn f x1 x2 x3 x4 x5 x6))] (ri r):=by
  intro r Y0 hr2;refine aP c108 ?_;simp only[go_sem,i108];refine bm (fun k env X9=>env 0=.one (.p (kL ls))/\env 1=.one (.p (dfn f x1 x2 x3 x4 x5 x6))/\env 7=vi ls.length/\env 8=vi k/\ ∀j m,j<k->ls[j]?=some m->cF f m=false) 0 ls.length (aae _) ?_ ?_
  .simp only[go_sem];exact⟨rfl,fun j m h=>absurd h (abB j)⟩
  rintro k env X9 hk ⟨h0,h1,h7,h8,hn⟩
  by_cases Ye:k<ls.length
  .obtain⟨l,YY⟩:=ai Ye;have hi:=ef YY;have Yf:((k:Int)<(ls.length:Int)):=by omega
   have w1:=ah (n:=k) (by omega);have pb:=V7 f l x1 x2 x3 x4 x5 x6;cases hb:cF f l with
   |true=>rw[hb] at pb;have hr:=Y0 k l YY hb hn;subst hr;simp only[go_sem,i108_l1,h0,h1,h7,h8,hi,Let.ps,Yf,s89,az pb]
   |false=>
    rw[hb] at pb;simp only[go_sem,i108_l1,h0,h1,h7,h8,hi,Let.ps,Yf,w1,s89,az pb];refine⟨Ye,fun j m hj hm=>?_⟩;rcases abe.1 hj with hj|rfl
    .exact hn j m hj hm
    rw[YY] at hm;cases hm;exact hb
  have:k=ls.length:=by omega
  subst this;have hr:=hr2 fun j m hm=>hn j m (aac.1 hm).1 hm;subst hr;simp only[go_sem,i108_l1,i108_r2,h7,h8,aW]
 cases ha:ls.any (cF f) with
 |true=>
  have hx:ls.findIdx (cF f)<ls.length:=List.findIdx_lt_length_of_exists (by simpa using ha);refine⟨(ls.findIdx (cF f):Nat),⟨fun _=>rfl,fun _=>by omega⟩,main _ ?_ ?_⟩
  .intro k l YY hb hn;have hk:=(aac.1 YY).1;have h1:cF f ls[ls.findIdx (cF f)]=true:=List.findIdx_getElem;rcases Nat.lt_trichotomy (ls.findIdx (cF f)) k with h|h|h
   .have:=hn _ _ h (abC hx);rw[h1] at this;cases this
   .rw[h]
   have:=List.not_of_lt_findIdx h;have e:ls[k]=l:=by rw[abC hk] at YY;exact abu YY
   rw[e,hb] at this;simp at this
  intro hn;have h1:cF f ls[ls.findIdx (cF f)]=true:=List.findIdx_getElem;have:=hn _ _ (abC hx);rw[h1] at this;cases this
 |false=>refine⟨-1,⟨fun h=>by omega,fun h=>by cases h⟩,main _ ?_ (fun _=>rfl)⟩;intro k l YY hb _;have:=ac4.1 ha l (aab YY);exact(this hb).elim
theorem IP(f:Int)(ls:List Let)(x1 x2 x3 x4 x5 x6:PV)(hl:ls.length<=1000000)(hn:x1.norm=x1/\x2.norm=x2/\x3.norm=x3/\x4.norm=x4/\x5.norm=x5/\x6.norm=x6):
  bz S 88 [.one (.p (kL ls)),.one (.p (dfn f x1 x2 x3 x4 x5 x6))] (rb (ls.any (cF f))):=by
 obtain⟨k,hk,pk⟩:=ML f ls x1 x2 x3 x4 x5 x6 hl hn;refine aP c88 ?_;cases ha:ls.any (cF f) with
 |true=>have h0:=hk.2 ha;simp only[go_sem,i88,s108,bj pk,h0]
 |false=>
  have h0:¬0<=k:=fun h=>by rw[hk.1 h] at ha;cases ha
  simp only[go_sem,i88,s108,bj pk,h0]
abbrev XM(f:Int)(ls:List Let)(x2 x3 x4 x5 x6:PV):PV:=.box [.int .i64 f,kL ls,x2,x3,x4,x5,x6]
theorem IM(f:Int)(ls:List Let)(x2 x3 x4 x5 x6:PV)(hl:ls.length<=1000000)(hn:x2.norm=x2/\x3.norm=x3/\x4.norm=x4/\x5.norm=x5/\x6.norm=x6):
  bz S 65 [.one (.p (XM f ls x2 x3 x4 x5 x6))] (rb (!ls.any (cF f))):=by
 have pc:=IP f ls (kL ls) x2 x3 x4 x5 x6 hl ⟨rfl,hn.1,hn.2.1,hn.2.2.1,hn.2.2.2.1,hn.2.2.2.2⟩;refine aP c65 ?_;simp only[go_sem,i65,s88,az pc]
theorem MF(f:Int)(ls:List Let)(l0:Let)(x2 x3 x4 x5 x6:PV)(hl:ls.length<=1000000)(h0:ls[0]?=some l0):
  bz S 66 [.one (.p (XM f ls x2 x3 x4 x5 x6))] (rb (l0.kind==1&&ao Let.aA ls%2==0)):=by
 have pp:=yN f ls hl;have hi0:=ef h0;refine aP c66 ?_;have e2:((((ao Let.aA ls)%2:Nat):Int)==0)=(ao Let.aA ls%2==0):=by
  cases h:(ao Let.aA ls%2==0) with
  |true=>simp at h ⊢;omega
  |false=>simp at h ⊢;omega
 cases hk:(l0.kind==1) with
 |true=>simp only[go_sem,i66,hi0,Let.ps,hk,s73,bj pp,eH,ba,e2]
 |false=>simp only[go_sem,i66,hi0,Let.ps,hk]
def vG(g:Nat)(l:Let):Bool:=l.aA&&l.gate==(g:Int)
abbrev cg(ls:List Let)(g:Nat):Nat:=ao (vG g) ls
def ff(ls:List Let)(F k:Nat):List Nat:=(List.range (F+1)).map fun g=>cg (ls.take k) g
def counts(ls:List Let)(F:Nat):List Nat:=(List.range (F+1)).map (cg ls)
theorem zU{ls:List Let}{k G:Nat}(h:G<=F):(ff ls F k)[G]?=some (cg (ls.take k) G):=by simp[ff,abw (show G<F+1 by omega)]
theorem qN(ls:List Let)(F:Nat):ff ls F ls.length=counts ls F:=by simp[ff,counts]
theorem o9(ls:List Let)(F:Nat):ff ls F 0=List.replicate (F+1) 0:=by apply ack<;>simp[ff]
theorem uH{ls:List Let}{k:Nat}{l:Let}(h:ls[k]?=some l)(hp:l.aA=false):ff ls F (k+1)=ff ls F k:=by unfold ff;congr 1;funext g;exact bJ h (by simp[vG,hp])
theorem wJ{ls:List Let}{k G:Nat}{l:Let}(h:ls[k]?=some l)(hp:l.aA=true)(hg:l.gate=(G:Int)):
  ff ls F (k+1)=(ff ls F k).set G (cg (ls.take k) G+1):=by
 apply ack
 .simp[ff]
 intro i h1 h2;rw[adE];simp only[ff,ac5,adG];split
 .rename_i e;subst e;exact fC h (by simp[vG,hp,hg])
 exact bJ h (by simp[vG,hg];intro _ e;omega)
theorem u6(o:List Nat)(k n:Nat):(nP o).set k [.int .i64 (n:Int)]=nP (o.set k n):=by simp[List.map_set]
theorem HR(o:List Nat):(nP o).length=o.length:=by simp
theorem HQ(n m:Nat):nP (List.replicate n m)=List.replicate n [.int .i64 (m:Int)]:=by simp
theorem Qv(n:Nat)(b:Bool):bP (List.replicate n b)=List.replicate n [.bool b]:=by simp
theorem qM{ls:List Let}{k:Nat}{l:Let}(h:ls[k]?=some l)(hp:l.aA=true):dn ls (k+1)= !dn ls k:=by
 unfold dn;rw[fC h hp];cases hc:(ao Let.aA (ls.take k)%2==0) with
 |true=>simp at hc ⊢;omega
 |false=>simp at hc ⊢;omega
theorem rV{ls:List Let}{k:Nat}{l:Let}(h:ls[k]?=some l)(hp:l.aA=false):dn ls (k+1)=dn ls k:=by unfold dn;rw[bJ h hp]
def rW(ls:List Let)(i:Nat):Bool:=match ls[i]? with|some l=>l.aA&&dn ls i|none=>false
def im(ls:List Let)(k:Nat):List Bool:=(List.range ls.length).map fun i=>decide (i<k)&&rW ls i
def fj(ls:List Let):List Bool:=(List.range ls.length).map (rW ls)
theorem Gn(ls:List Let):im ls 0=List.replicate ls.length false:=by apply ack<;>simp[im]
theorem IJ(ls:List Let):im ls ls.length=fj ls:=by unfold im fj;apply act;intro i hi;simp[aav.1 hi]
theorem IH(ls:List Let)(k:Nat):(im ls k).length=ls.length:=by simp[im]
theorem Gp{ls:List Let}{k:Nat}{l:Let}(h:ls[k]?=some l)(hp:l.aA=false):im ls (k+1)=im ls k:=by
 unfold im;apply act;intro i hi;by_cases e:i=k
 .subst e;simp[rW,h,hp]
 have:(i<k+1)↔(i<k):=by omega
 simp[this]
theorem II{ls:List Let}{k:Nat}{l:Let}(h:ls[k]?=some l)(hp:l.aA=true):im ls (k+1)=(im ls k).set k (dn ls k):=by
 apply ack
 .simp[im]
 intro i h1 h2;rw[adE];simp only[im,ac5,adG];split
 .rename_i e;subst e;simp[rW,h,hp]
 have:(i<k+1)↔(i<k):=by omega
 simp[this]
def bk(ls:List Let)(g:Nat):Nat:=((List.range g).map (cg ls)).sum
theorem cK(ls:List Let)(g:Nat):bk ls (g+1)=bk ls g+cg ls g:=by simp[bk,abZ]
def ia(ls:List Let)(F k:Nat):List Nat:=(List.range (F+1)).map fun g=>if g<k then bk ls g else 0
def vp(ls:List Let)(F:Nat):List Nat:=(List.range (F+1)).map (bk ls)
theorem DD(ls:List Let)(F:Nat):ia ls F 0=List.replicate (F+1) 0:=by apply ack<;>simp[ia]
theorem Ga(ls:List Let)(F:Nat):ia ls F (F+1)=vp ls F:=by unfold ia vp;apply act;intro i hi;simp[aav.1 hi]
theorem F9(ls:List Let)(F k:Nat):(ia ls F k).length=F+1:=by simp[ia]
theorem F8(ls:List Let)(F k:Nat):ia ls F (k+1)=(ia ls F k).set k (bk ls k):=by
 apply ack
 .simp[ia]
 intro i h1 h2;rw[adE];simp only[ia,ac5,adG];by_cases e:k=i
 .subst e;simp
 have:(i<k+1)↔(i<k):=by omega
 simp only[this,if_neg e]
theorem jI{ls:List Let}{G:Nat}(h:G<=F):(counts ls F)[G]?=some (cg ls G):=by simp[counts,abw (show G<F+1 by omega)]
theorem Mp{ls:List Let}{G:Nat}(h:G<=F):(vp ls F)[G]?=some (bk ls G):=by simp[vp,abw (show G<F+1 by omega)]
theorem eo{ls:List Let}{a b:Nat}(h:a<=b):bk ls a<=bk ls b:=by
 induction h with
 |refl=>exact aad _
 |step _ ih=>rw[cK];omega
theorem MV(g:Nat)(a:Let):((a.aA&&(decide (0<=a.gate)&&decide (a.gate<((g+1:Nat):Int))))=true)↔((a.aA&&(decide (0<=a.gate)&&decide (a.gate<(g:Int))))=true\/vG g a=true):=by
 simp only[vG,aaf,decide_eq_true_eq,beq_iff_eq];constructor
 .rintro ⟨h1,h2,h3⟩
  by_cases h:a.gate=(g:Int)
  .exact Or.inr ⟨h1,h⟩
  exact Or.inl ⟨h1,h2,by omega⟩
 rintro (⟨h1,h2,h3⟩|⟨h1,h2⟩)
 .exact⟨h1,h2,by omega⟩
 exact⟨h1,by omega,by omega⟩
theorem Tx(g:Nat)(a:Let):(a.aA&&(decide (0<=a.gate)&&decide (a.gate<(g:Int))))=true->vG g a=true->False:=by simp only[vG,aaf,decide_eq_true_eq,beq_iff_eq];omega
theorem vA{p q r:Let->Bool}(h:∀a,r a=true↔(p a=true\/q a=true))(hn:∀a,p a=true->q a=true->False):∀ls:List Let,ls.countP r=ls.countP p+ls.countP q:=by
 intro ls
 induction ls with
 |nil=>rfl
 |cons a ls ih=>rw[abM,abM,abM,ih];have h1:=h a;have h2:=hn a;cases ep:p a<;>cases eq:q a<;>cases er:r a<;>simp_all<;>omega
theorem zB(ls:List Let):∀g,bk ls g=ao (fun l=>l.aA&&(decide (0<=l.gate)&&decide (l.gate<((g:Nat):Int)))) ls:=by
 intro g
 induction g with
 |zero=>symm;show ls.countP _=0;rw[adw];intro a _;simp only[aaf,decide_eq_true_eq];omega
 |succ g ih=>rw[cK,ih];exact(vA (MV g) (Tx g) ls).symm
theorem vq(ls:List Let)(g:Nat):bk ls g<=ls.length:=by rw[zB];exact ir _ _
def dk(ls:List Let)(l:Let):Nat:=bk ls l.gate.toNat+l.Yb.toNat-1
def j5(ls:List Let)(p i:Nat):Bool:=match ls[i]? with|some l=>l.aA&&dk ls l==p|none=>false
def jy(ls:List Let)(T k:Nat):List Bool:=(List.range T).map fun p=>(List.range k).any (j5 ls p)
def XY(ls:List Let)(k p:Nat):Nat:=((List.range k).find? (j5 ls p)).getD 0
def qU(ls:List Let)(T k:Nat):List Nat:=(List.range T).map (XY ls k)
def QX(ls:List Let)(i:Nat):Nat:=match ls[i]? with|some l=>if l.aA then dk ls l else 0|none=>0
def r7(ls:List Let)(k:Nat):List Nat:=(List.range ls.length).map fun i=>if i<k then QX ls i else 0
def qu(ls:List Let)(i:Nat):Bool:=match ls[i]? with
 |some l=> !l.aA||(decide (1<=l.Yb)&&decide (l.Yb<=(cg ls l.gate.toNat:Int)))&& !(List.range i).any (j5 ls (dk ls l))
 |none=>true
def kx(ls:List Let):Bool:=(List.range ls.length).all (qu ls)
theorem Ew(ls:List Let)(T:Nat):jy ls T 0=List.replicate T false:=by apply ack<;>simp[jy]
theorem MT(ls:List Let)(T:Nat):qU ls T 0=List.replicate T 0:=by apply ack<;>simp[qU,XY]
theorem Ox(ls:List Let):r7 ls 0=List.replicate ls.length 0:=by apply ack<;>simp[r7]
theorem GN(ls:List Let)(T k:Nat):(qU ls T k).length=T:=by simp[qU]
theorem Sa(ls:List Let)(k:Nat):(r7 ls k).length=ls.length:=by simp[r7]
theorem K4{ls:List Let}{T k p:Nat}(h:p<T):(jy ls T k)[p]?=some ((List.range k).any (j5 ls p)):=by simp[jy,h]
theorem zg{ls:List Let}{k p:Nat}{l:Let}(h:ls[k]?=some l)(hp:l.aA=false):j5 ls p k=false:=by simp[j5,h,hp]
theorem Ey{ls:List Let}{T k:Nat}{l:Let}(h:ls[k]?=some l)(hp:l.aA=false):jy ls T (k+1)=jy ls T k:=by unfold jy;congr 1;funext p;simp[abZ,List.any_append,zg h hp]
theorem MU{ls:List Let}{T k:Nat}{l:Let}(h:ls[k]?=some l)(hp:l.aA=false):qU ls T (k+1)=qU ls T k:=by unfold qU;congr 1;funext p;simp[XY,abZ,List.find?_append,zg h hp]
theorem Oy{ls:List Let}{k:Nat}{l:Let}(h:ls[k]?=some l)(hp:l.aA=false):r7 ls (k+1)=r7 ls k:=by
 unfold r7;apply act;intro i hi;by_cases e:i=k
 .subst e;simp[QX,h,hp]
 have:(i<k+1)↔(i<k):=by omega
 simp[this]
theorem qH{ls:List Let}{k p:Nat}{l:Let}(h:ls[k]?=some l)(hp:l.aA=true):j5 ls p k=(dk ls l==p):=by simp[j5,h,hp]
theorem Hl{ls:List Let}{T k:Nat}{l:Let}(h:ls[k]?=some l)(hp:l.aA=true):jy ls T (k+1)=(jy ls T k).set (dk ls l) true:=by
 apply ack
 .simp[jy]
 intro i h1 h2;rw[adE];simp only[jy,ac5,adG,abZ,List.any_append,List.any_cons,List.any_nil,Bool.or_false,qH h hp];split
 .rename_i e;simp[e]
 rename_i e;simp[e]
theorem Qx{ls:List Let}{T k:Nat}{l:Let}(h:ls[k]?=some l)(hp:l.aA=true)(hn:(List.range k).any (j5 ls (dk ls l))=false):qU ls T (k+1)=(qU ls T k).set (dk ls l) k:=by
 apply ack
 .simp[qU]
 intro i h1 h2;rw[adE];simp only[qU,ac5,adG,XY,abZ,List.find?_append];by_cases e:dk ls l=i
 .have h3:(List.range k).find? (j5 ls i)=none:=by
   rw[<- e,adD];intro x hx hq;rw[ac4] at hn;exact hn x hx hq
  have h4:j5 ls i k=true:=by rw[qH h hp];simp[e]
  rw[h3,if_pos e,List.find?_cons,h4];rfl
 have h4:j5 ls i k=false:=by rw[qH h hp];simp[e]
 rw[if_neg e,List.find?_cons,h4];simp
theorem Sb{ls:List Let}{k:Nat}{l:Let}(h:ls[k]?=some l)(hp:l.aA=true):r7 ls (k+1)=(r7 ls k).set k (dk ls l):=by
 apply ack
 .simp[r7]
 intro i h1 h2;rw[adE];simp only[r7,ac5,adG];by_cases e:k=i
 .subst e;simp[QX,h,hp]
 have:(i<k+1)↔(i<k):=by omega
 simp only[this,if_neg e]
theorem yC{ls:List Let}{k:Nat}(hk:k<ls.length)(h:qu ls k=false):kx ls=false:=by unfold kx;rw[List.all_eq_false];exact⟨k,aav.2 hk,by simp[h]⟩
theorem Lv{ls:List Let}(h:∀i,i<ls.length->qu ls i=true):kx ls=true:=by unfold kx;rw[aaP];exact fun i hi=>h i (aav.1 hi)
abbrev M5(id:Nat):Prop:=id=1216320128\/eW id=67
abbrev Kw(F:Nat)(ls:List Let)(c2 c3 c4 c5 c6:C):List C:=[.p (.int .i64 (F:Int)),.p (kL ls),c2,c3,c4,c5,c6]
abbrev hs(id g n:Nat):C:=.hsl id g 1 0 n
abbrev jc(F:Nat)(ls:List Let):Prop:=∀l∈ls,l.aA=true->0<=l.gate/\l.gate<=(F:Int)
def uW(F:Nat)(ls:List Let)(g:Nat)(c5:C)(YZ:aE)(v:V)(Ya:aE):Prop:=
 v=vb (kx ls)/\Kept M5 YZ Ya/\(kx ls=true->∃g1 g2 g3 g5,Ya 1216320128=(g,some (.var (Kw F ls (hs 4288128448 g2 ls.length) (hs 4289344128 g5 (bk ls (F+1))) (hs 4288192448 g3 ls.length) c5 (hs 4288064448 g1 (F+1)))))/\
  Ya 4288064448=(g1,some (.arr 3 1 (nP (counts ls F))))/\Ya 4288128448=(g2,some (.arr 4 1 (bP (fj ls))))/\Ya 4288192448=(g3,some (.arr 3 1 (nP (r7 ls ls.length))))/\
  Ya 4289344128=(g5,some (.arr 3 1 (nP (qU ls (bk ls (F+1)) ls.length)))))
theorem rk3{al:Al}(okD:al.ok 1216320128=true)(ok:∀id,eW id=67->al.ok id=true){YZ X9:aE}{env:Env}{g g1 g2 g3 g4 F:Nat}{ls:List Let}{c3 c5:C}(hl:ls.length<=1000000)(hF:F<=1000000)(hg:jc F ls)
  (h0:env 0=.one (.Yh 1216320128 g 0)) (h6:env 6=.one (hs 4288832384 g4 (F+1))) (h7:env 7=vi (bk ls (F+1)))
  (bD:X9 1216320128=(g,some (.var (Kw F ls (hs 4288128448 g2 ls.length) c3 (hs 4288192448 g3 ls.length) c5 (hs 4288064448 g1 (F+1))))))
  (bC:X9 4288064448=(g1,some (.arr 3 1 (nP (counts ls F))))) (bW:X9 4288128448=(g2,some (.arr 4 1 (bP (fj ls))))) (bP':X9 4288192448=(g3,some (.arr 3 1 (nP (r7 ls 0)))))
  (bF:X9 4288832384=(g4,some (.arr 3 1 (nP (vp ls F))))) (hk:Kept M5 YZ X9):W S al i67_r5 (pY al [(2,none)] (uW F ls g c5 YZ)) env X9:=by
 have o1:=ok 4288064448 rfl;have o2:=ok 4288128448 rfl;have o3:=ok 4288192448 rfl;have o4:=ok 4288448192 rfl;have o5:=ok 4288832384 rfl;have o6:=ok 4289344128 rfl;have o7:=ok 4289408064 rfl;have o8:=ok 4289600192 rfl;have hT:=vq ls (F+1);have hr8:bk ls (F+1)*8<=140737488355328:=by omega
 have Y0:bk ls (F+1)<=140737488355328:=by omega
 simp only[go_sem,i67_r5,h0,h7,bD,hr8,Y0,okD,o6,o7];refine bm (fun k env Ya=>env 0=.one (.Yh 1216320128 g 0)/\env 6=.one (hs 4288832384 g4 (F+1))/\env 10=.one (hs 4289408064 ((X9 4289408064).1+1) (bk ls (F+1)))/\env 114=.one (.p (kL ls))/\env 115=vi ls.length/\env 116=vi k/\
  Ya 1216320128=(g,some (.var (Kw F ls (hs 4288128448 g2 ls.length) (hs 4289344128 ((X9 4289344128).1+1) (bk ls (F+1))) (hs 4288192448 g3 ls.length) c5 (hs 4288064448 g1 (F+1)))))/\
  Ya 4288064448=(g1,some (.arr 3 1 (nP (counts ls F))))/\Ya 4288128448=(g2,some (.arr 4 1 (bP (fj ls))))/\Ya 4288192448=(g3,some (.arr 3 1 (nP (r7 ls k))))/\
  Ya 4288832384=(g4,some (.arr 3 1 (nP (vp ls F))))/\Ya 4289344128=((X9 4289344128).1+1,some (.arr 3 1 (nP (qU ls (bk ls (F+1)) k))))/\Ya 4289408064=((X9 4289408064).1+1,some (.arr 4 1 (bP (jy ls (bk ls (F+1)) k))))/\
  (∀i,i<k->qu ls i=true)/\Kept M5 YZ Ya) 0 ls.length (aae _) ?_ ?_
 .simp only[go_sem,h0,h6,bC,bW,bP',bF,MT,Ew,HQ,Qv];refine⟨rfl,rfl,fun i h=>absurd h (abB i),?_⟩;repeat(first|exact hk|refine Kept.ij ?_ (by first|exact Or.inl rfl|exact Or.inr rfl) _)
 rintro k env Ya hk ⟨h0,h6,YN,ae4,adP,acn,bD,bC,bW,bP',bF,bA,bT,Yd,YB⟩
 by_cases Ye:k<ls.length
 .obtain⟨l,YY⟩:=ai Ye;have hi:=ef YY;have Yf:((k:Int)<(ls.length:Int)):=by omega
  have w1:=ah (n:=k) (by omega);cases hp:(l.kind==1) with
  |false=>
   have ZJ:l.aA=false:=hp;have hp2:(l.kind !=1)=true:=by simp[bne,hp]
   have hrk:qu ls k=true:=by simp[qu,YY,ZJ]
   simp only[go_sem,i67_l3,h0,h6,YN,ae4,adP,acn,bD,bC,bW,bF,bP',bA,bT,hi,Let.ps,Yf,hp2,w1,o8];refine⟨Ye,?_,?_,?_,?_,?_⟩
   .rw[Oy YY ZJ]
   .rw[MU YY ZJ]
   .rw[Ey YY ZJ]
   .intro i hi;rcases abe.1 hi with h|rfl
    .exact Yd i h
    exact hrk
   repeat(first|exact YB|refine Kept.ij ?_ (by first|exact Or.inl rfl|exact Or.inr rfl) _)
  |true=>
   have ZJ:l.aA=true:=hp;have hp2:(l.kind !=1)=false:=by simp[bne,hp]
   obtain⟨hg1,hg2⟩:=hg l (aab YY) ZJ;obtain⟨G,hG⟩:=abs hg1;have hGF:G<=F:=by omega
   have abK:G<F+1:=by omega
   have hca:=dQ (jI (ls:=ls) hGF);have hfa:=dQ (Mp (ls:=ls) hGF);have hgt:l.gate.toNat=G:=by omega
   cases r1:decide (l.Yb<1) with
   |true=>
    have r1':l.Yb<1:=of_decide_eq_true r1;have r1n:¬1<=l.Yb:=by omega
    have YH:=yC Ye (show qu ls k=false by simp[qu,YY,ZJ,r1n]);simp only[go_sem,i67_l3,ae4,adP,acn,hi,Let.ps,Yf,hp2,r1',o8];refine⟨aH,?_⟩;unfold uW;refine⟨by rw[YH],?_,fun h=>by rw[YH] at h;cases h⟩;repeat(first|exact YB|refine Kept.ij ?_ (by first|exact Or.inl rfl|exact Or.inr rfl) _)
   |false=>
    have r1':¬l.Yb<1:=of_decide_eq_false r1;obtain⟨R,hR⟩:=abs (show 0<=l.Yb by omega);have r1R:¬((R:Int)<1):=by omega
    cases r2:decide ((cg ls G:Int)<(R:Int)) with
    |true=>
     have r2':(cg ls G:Int)<(R:Int):=of_decide_eq_true r2;have r2n:¬l.Yb<=(cg ls l.gate.toNat:Int):=by rw[hgt];omega
     have YH:=yC Ye (show qu ls k=false by simp[qu,YY,ZJ,r2n]);simp only[go_sem,i67_l3,h0,ae4,adP,acn,bD,bC,hi,Let.ps,Yf,hp2,hR,hG,r1R,r2',hca,abK,okD,o1,o8];refine⟨aH,?_⟩;unfold uW;refine⟨by rw[YH],?_,fun h=>by rw[YH] at h;cases h⟩;repeat(first|exact YB|refine Kept.ij ?_ (by first|exact Or.inl rfl|exact Or.inr rfl) _)
    |false=>
     have r2':¬(cg ls G:Int)<(R:Int):=of_decide_eq_false r2;have hfle:=vq ls G;have hmono:=eo (ls:=ls) (show G+1<=F+1 by omega);have hgs:=cK ls G;have hPT:dk ls l<bk ls (F+1):=by unfold dk;rw[hgt];omega
     have Yu:bk ls G+R-1=dk ls l:=by unfold dk;rw[hgt];omega
     have YL:cg ls G<=ls.length:=ir _ _;have w2:=wrap_add (a:=bk ls G) (b:=R) (by omega);have w3:=jw (a:=bk ls G+R) (by omega) (by omega);rw[Yu] at w3;have hta:=km (K4 (ls:=ls) (k:=k) hPT);cases hu:(List.range k).any (j5 ls (dk ls l)) with
     |true=>rw[hu] at hta;have YH:=yC Ye (show qu ls k=false by simp[qu,YY,ZJ,hu]);simp only[go_sem,i67_l3,h0,h6,YN,ae4,adP,acn,bD,bC,bF,bT,hi,Let.ps,Yf,hp2,hR,hG,r1R,r2',hca,hfa,abK,w2,w3,hta,hPT,okD,o1,o5,o7,o8];refine⟨aH,aH,?_⟩;unfold uW;refine⟨by rw[YH],?_,fun h=>by rw[YH] at h;cases h⟩;repeat(first|exact YB|refine Kept.ij ?_ (by first|exact Or.inl rfl|exact Or.inr rfl) _)
     |false=>
      rw[hu] at hta;have hrk:qu ls k=true:=by
       have e1:1<=l.Yb:=by omega
       have e2:l.Yb<=(cg ls l.gate.toNat:Int):=by rw[hgt];omega
       simp[qu,YY,e1,e2,hu]
      obtain⟨a0,haa⟩:=ai (show dk ls l<(qU ls (bk ls (F+1)) k).length by rw[GN];exact hPT);obtain⟨p0,hpa⟩:=ai (show k<(r7 ls k).length by rw[Sa];exact Ye);have haa:=dQ haa;have hpa:=dQ hpa;have s1:=vF (jy ls (bk ls (F+1)) k) (dk ls l) true;rw[<- Hl YY ZJ] at s1;have s2:=u6 (qU ls (bk ls (F+1)) k) (dk ls l) k;rw[<- Qx YY ZJ hu] at s2;have s3:=u6 (r7 ls k) k (dk ls l);rw[<- Sb YY ZJ] at s3;simp only[go_sem,i67_l3,h0,h6,YN,ae4,adP,acn,bD,bC,bW,bF,bP',bA,bT,hi,Let.ps,Yf,Ye,hp2,w1,hR,hG,r1R,r2',hca,hfa,abK,w2,w3,hta,hPT,haa,hpa,s1,s2,s3,okD,o1,o3,o5,o6,o7,o8];refine⟨aH,aH,aH,?_,?_⟩
      .intro i hi;rcases abe.1 hi with h|rfl
       .exact Yd i h
       exact hrk
      repeat(first|exact YB|refine Kept.ij ?_ (by first|exact Or.inl rfl|exact Or.inr rfl) _)
 have:k=ls.length:=by omega
 subst this;have hr:=Lv Yd;simp only[go_sem,i67_l3,i67_r4,adP,acn,aW];exact⟨by rw[hr],YB,fun _=>⟨g1,g2,g3,(X9 4289344128).1+1,bD,bC,bW,bP',bA⟩⟩
theorem rk2{al:Al}(okD:al.ok 1216320128=true)(ok:∀id,eW id=67->al.ok id=true){YZ X9:aE}{env:Env}{g g1 g2 g3 F:Nat}{ls:List Let}{c3 c5:C}(hl:ls.length<=1000000)(hF:F<=1000000)(hg:jc F ls)
  (h0:env 0=.one (.Yh 1216320128 g 0))
  (bD:X9 1216320128=(g,some (.var (Kw F ls (hs 4288128448 g2 ls.length) c3 (hs 4288192448 g3 ls.length) c5 (hs 4288064448 g1 (F+1))))))
  (bC:X9 4288064448=(g1,some (.arr 3 1 (nP (counts ls F))))) (bW:X9 4288128448=(g2,some (.arr 4 1 (bP (fj ls))))) (bP':X9 4288192448=(g3,some (.arr 3 1 (nP (r7 ls 0)))))
  (hk:Kept M5 YZ X9):W S al i67_r6 (pY al [(2,none)] (uW F ls g c5 YZ)) env X9:=by
 have o1:=ok 4288064448 rfl;have o2:=ok 4288128448 rfl;have o3:=ok 4288192448 rfl;have o4:=ok 4288448192 rfl;have o5:=ok 4288832384 rfl;have o6:=ok 4289344128 rfl;have o7:=ok 4289408064 rfl;have o8:=ok 4289600192 rfl;have hr8:(F+1)*8<=140737488355328:=by omega
 have wF:=ah (n:=F) (by omega);simp only[go_sem,i67_r6,h0,bD,wF,hr8,okD,o5];refine bm (fun k env Ya=>env 0=.one (.Yh 1216320128 g 0)/\env 6=.one (hs 4288832384 ((X9 4288832384).1+1) (F+1))/\env 7=vi (bk ls k)/\env 88=.one (hs 4288064448 g1 (F+1))/\env 89=vi ((F+1:Nat):Int)/\env 90=vi k/\
  Ya 1216320128=(g,some (.var (Kw F ls (hs 4288128448 g2 ls.length) c3 (hs 4288192448 g3 ls.length) c5 (hs 4288064448 g1 (F+1)))))/\
  Ya 4288064448=(g1,some (.arr 3 1 (nP (counts ls F))))/\Ya 4288128448=(g2,some (.arr 4 1 (bP (fj ls))))/\Ya 4288192448=(g3,some (.arr 3 1 (nP (r7 ls 0))))/\
  Ya 4288832384=((X9 4288832384).1+1,some (.arr 3 1 (nP (ia ls F k))))/\Kept M5 YZ Ya) 0 (F+1) (aae _) ?_ ?_
 .simp only[go_sem,h0,bD,bC,bW,bP',DD,HQ];refine⟨rfl,rfl,rfl,?_⟩;repeat(first|exact hk|refine Kept.ij ?_ (by first|exact Or.inl rfl|exact Or.inr rfl) _)
 rintro k env Ya hk ⟨h0,h6,h7,h88,h89,h90,bD,bC,bW,bP',bF,YB⟩
 by_cases Ye:k<F+1
 .have Yf:((k:Int)<((F+1:Nat):Int)):=by omega
  have w1:=ah (n:=k) (by omega);have hc:=dQ (jI (ls:=ls) (show k<=F by omega));obtain⟨a0,ha⟩:=ai (show k<(ia ls F k).length by rw[F9];exact Ye);have ha:=dQ ha;have s1:=u6 (ia ls F k) k (bk ls k);rw[<- F8] at s1;have hs:=cK ls k;have hle:=vq ls (k+1);have w2:=wrap_add (a:=bk ls k) (b:=cg ls k) (by omega);rw[<- hs] at w2;simp only[go_sem,i67_l2,h0,h6,h7,h88,h89,h90,bD,bC,bW,bP',bF,Ye,Yf,hc,ha,s1,w1,w2,o1,o5];repeat(first|exact YB|refine Kept.ij ?_ (by first|exact Or.inl rfl|exact Or.inr rfl) _)
 have:k=F+1:=by omega
 subst this;simp only[go_sem,i67_l2,h89,h90,aW];exact rk3 okD ok hl hF hg h0 h6 h7 bD bC bW bP' (by rw[bF,Ga]) YB
theorem R4{al:Al}(okD:al.ok 1216320128=true)(ok:∀id,eW id=67->al.ok id=true){X9:aE}{g F:Nat}{ls:List Let}{c2 c3 c4 c5 c6:C}(hl:ls.length<=1000000)(hF:F<=1000000)(hg:jc F ls)
  (bD:X9 1216320128=(g,some (.var (Kw F ls c2 c3 c4 c5 c6)))):∃v Ya,vN S 67 [.one (.Yh 1216320128 g 0)] al X9 v Ya/\uW F ls g c5 X9 v Ya:=by
 have o1:=ok 4288064448 rfl;have o2:=ok 4288128448 rfl;have o3:=ok 4288192448 rfl;have o4:=ok 4288448192 rfl;have o5:=ok 4288832384 rfl;have o6:=ok 4289344128 rfl;have o7:=ok 4289408064 rfl;have o8:=ok 4289600192 rfl;refine iS c67 (aaU rfl) ?_;have hr8:(F+1)*8<=140737488355328:=by omega
 have hn8:ls.length*8<=140737488355328:=by omega
 have ZG:ls.length<=140737488355328:=by omega
 have wF:=ah (n:=F) (by omega);simp only[go_sem,i67,bD,wF,hr8,hn8,ZG,okD,o1,o2,o3];refine bm (fun k env Ya=>env 0=.one (.Yh 1216320128 g 0)/\env 3=vb (dn ls k)/\env 48=.one (.p (kL ls))/\env 49=vi ls.length/\env 50=vi k/\
  Ya 1216320128=(g,some (.var (Kw F ls (hs 4288128448 ((X9 4288128448).1+1) ls.length) c3 (hs 4288192448 ((X9 4288192448).1+1) ls.length) c5 (hs 4288064448 ((X9 4288064448).1+1) (F+1)))))/\
  Ya 4288064448=((X9 4288064448).1+1,some (.arr 3 1 (nP (ff ls F k))))/\Ya 4288128448=((X9 4288128448).1+1,some (.arr 4 1 (bP (im ls k))))/\Ya 4288192448=((X9 4288192448).1+1,some (.arr 3 1 (nP (r7 ls 0))))/\
  Kept M5 X9 Ya) 0 ls.length (aae _) ?_ ?_
 .simp only[go_sem,bD,o9,Gn,Ox,HQ,Qv];refine⟨rfl,rfl,rfl,rfl,?_⟩;repeat(first|exact(Kept.refl _ _)|refine Kept.ij ?_ (by first|exact Or.inl rfl|exact Or.inr rfl) _)
 rintro k env Ya hk ⟨h0,h3,h48,h49,h50,bD,bC,bW,bP',YB⟩
 by_cases Ye:k<ls.length
 .obtain⟨l,YY⟩:=ai Ye;have hi:=ef YY;have Yf:((k:Int)<(ls.length:Int)):=by omega
  have w1:=ah (n:=k) (by omega);cases hp:(l.kind==1) with
  |false=>
   have ZJ:l.aA=false:=hp;simp only[go_sem,i67_l1,h0,h3,h48,h49,h50,bD,bC,bW,bP',hi,Let.ps,Yf,hp,w1,o4];refine⟨Ye,?_,?_,?_,?_⟩
   .rw[rV YY ZJ]
   .rw[uH YY ZJ]
   .rw[Gp YY ZJ]
   repeat(first|exact YB|refine Kept.ij ?_ (by first|exact Or.inl rfl|exact Or.inr rfl) _)
  |true=>
   have ZJ:l.aA=true:=hp;obtain⟨hg1,hg2⟩:=hg l (aab YY) ZJ;obtain⟨G,hG⟩:=abs hg1;have hGF:G<=F:=by omega
   have abK:G<F+1:=by omega
   have hca:=dQ (zU (ls:=ls) (k:=k) hGF);have YL:cg (ls.take k) G<=k:=eD _ _ _;have w2:=ah (n:=cg (ls.take k) G) (by omega);have s1:=u6 (ff ls F k) G (cg (ls.take k) G+1);rw[<- wJ YY ZJ hG] at s1;obtain⟨b0,hb⟩:=ai (show k<(im ls k).length by rw[IH];exact Ye);have hb:=km hb;have s2:=vF (im ls k) k (dn ls k);rw[<- II YY ZJ] at s2;have hd:=qM YY ZJ;simp only[go_sem,i67_l1,h0,h3,h48,h49,h50,bD,bC,bW,bP',hi,Let.ps,Yf,Ye,hp,w1,hG,hca,abK,w2,s1,hb,s2,hd,okD,o1,o2,o4];refine⟨aH,?_⟩;repeat(first|exact YB|refine Kept.ij ?_ (by first|exact Or.inl rfl|exact Or.inr rfl) _)
 have:k=ls.length:=by omega
 subst this;simp only[go_sem,i67_l1,h49,h50,aW];exact rk2 okD ok hl hF hg h0 bD (by rw[bC,qN]) (by rw[bW,IJ]) bP' YB
def Dz(ls:List Let)(id:Int)(o:Bool)(j:Nat):Bool:=match ls[j]? with|some m=>m.aw&&(m.id==id&&m.over==o)|none=>false
def fy(ls:List Let)(k:Nat)(id:Int)(o:Bool):Option Nat:=(List.range k).find? (Dz ls id o)
def AN:Option Nat->Int
 |some j=>j
 |none=> -1
def dR(ls:List Let):Nat->List Int
 |0=>[]
 |k+1=>match ls[k]? with
  |some l=>if l.aw&& !(dR ls k).contains l.id then dR ls k++[l.id] else dR ls k
  |none=>dR ls k
def oZ(ls:List Let)(k:Nat)(id:Int):List PV:=[.int .i64 (AN (fy ls k id false)),.int .i64 (AN (fy ls k id true))]
def mM(ls:List Let)(k:Nat):List (PV×List PV):=(dR ls k).map fun id=>(PV.int .i64 id,oZ ls k id)
def oa(ls:List Let)(j:Nat):Int:=((ls[j]?).map Let.sign).getD 0
def vQ(ls:List Let)(n2:Nat)(k:Nat):Bool:=match ls[k]? with
 |some l=> !l.aw||((decide (1<=l.id)&&decide (l.id<=(n2:Int)))&&((fy ls k l.id l.over).isNone&&(match fy ls k l.id (!l.over) with|some j=>oa ls j==l.sign|none=>true)))
 |none=>true
def dN(ls:List Let):Bool:=(ao Let.aw ls%2==0)&&(List.range ls.length).all (vQ ls (ao Let.aw ls/2))&&((dR ls ls.length).length==ao Let.aw ls/2)
theorem vh{ls:List Let}{k:Nat}{l:Let}(h:ls[k]?=some l)(hc:l.aw=true)(id:Int)(o:Bool):Dz ls id o k=(l.id==id&&l.over==o):=by simp[Dz,h,hc]
theorem FV{ls:List Let}{k:Nat}{l:Let}(h:ls[k]?=some l)(hc:l.aw=false)(id:Int)(o:Bool):Dz ls id o k=false:=by simp[Dz,h,hc]
theorem re(ls:List Let)(k:Nat)(id:Int)(o:Bool):fy ls (k+1) id o=(fy ls k id o).or (if Dz ls id o k then some k else none):=by simp only[fy,abZ,List.find?_append,List.find?_cons,List.find?_nil];cases Dz ls id o k<;>rfl
theorem jx{ls:List Let}{k:Nat}{id:Int}{o:Bool}{j:Nat}(h:fy ls k id o=some j):j<k/\Dz ls id o j=true:=
 ⟨aav.1 (adS h),List.find?_some h⟩
theorem iJ{ls:List Let}{id:Int}{o:Bool}{j:Nat}(h:Dz ls id o j=true):∃m,ls[j]?=some m/\m.aw=true/\m.id=id/\m.over=o:=by
 unfold Dz at h;split at h
 .rename_i m hm;simp only[aaf,beq_iff_eq] at h;exact⟨m,hm,h.1,h.2.1,h.2.2⟩
 cases h
theorem m8{ls:List Let}{k:Nat}{id:Int}{o:Bool}(h:fy ls k id o=none){j:Nat}(hj:j<k):Dz ls id o j=false:=by
 have:=adD.1 h j (aav.2 hj)
 simpa using this
theorem FT{ls:List Let}{k:Nat}{l:Let}(h:ls[k]?=some l)(hc:l.aw=false):dR ls (k+1)=dR ls k:=by simp[dR,h,hc]
theorem Kc{ls:List Let}{k:Nat}{l:Let}(h:ls[k]?=some l)(hc:l.aw=true)(hn:l.id∉dR ls k):dR ls (k+1)=dR ls k++[l.id]:=by simp[dR,h,hc,hn]
theorem Kb{ls:List Let}{k:Nat}{l:Let}(h:ls[k]?=some l)(hn:l.id∈dR ls k):dR ls (k+1)=dR ls k:=by simp[dR,h,hn]
theorem ON{ls:List Let}{k:Nat}{l:Let}(h:ls[k]?=some l)(hc:l.aw=false):mM ls (k+1)=mM ls k:=by unfold mM oZ;rw[FT h hc];simp[re,FV h hc]
theorem Pk{ls:List Let}{id:Int}:∀(k:Nat),k<=ls.length->(id∈dR ls k↔ ∃j o,j<k/\Dz ls id o j=true):=by
 intro k
 induction k with
 |zero=>intro _;simp[dR]
 |succ k ih=>
  intro hk;obtain⟨l,hl⟩:=ai (show k<ls.length by omega);have ih:=ih (by omega);have old:(∃j o,j<k/\Dz ls id o j=true)->∃j o,j<k+1/\Dz ls id o j=true:=fun⟨j,o,h1,h2⟩=>⟨j,o,by omega,h2⟩;cases hc:l.aw with
  |false=>
   rw[FT hl hc,ih];refine⟨old,?_⟩;rintro ⟨j,o,h1,h2⟩
   rcases abe.1 h1 with h|rfl
   .exact⟨j,o,h,h2⟩
   rw[FV hl hc] at h2;cases h2
  |true=>
   have key:id∈dR ls (k+1)↔(id∈dR ls k\/id=l.id):=by
    by_cases hm:l.id∈dR ls k
    .rw[Kb hl hm];exact⟨Or.inl,fun h=>h.elim Zb (fun e=>e▸hm)⟩
    rw[Kc hl hc hm];simp
   rw[key,ih];constructor
   .rintro (h|rfl)
    .exact old h
    exact⟨k,l.over,by omega,by rw[vh hl hc];simp⟩
   rintro ⟨j,o,h1,h2⟩
   rcases abe.1 h1 with h|rfl
   .exact Or.inl ⟨j,o,h,h2⟩
   rw[vh hl hc] at h2;simp only[aaf,beq_iff_eq] at h2;exact Or.inr h2.1.symm
where Zb {p:Prop} (h:p):p:=h
theorem oO{ls:List Let}{id:Int}{k:Nat}(h:k<=ls.length):id∈dR ls k↔ ∃j o,j<k/\Dz ls id o j=true:=Pk k h
theorem rK(ls:List Let):∀k,(dR ls k).Nodup:=by
 intro k
 induction k with
 |zero=>simp[dR]
 |succ k ih=>
  unfold dR;split
  .split
   .rename_i h;simp only[aaf,aaR,List.contains_eq_mem,decide_eq_false_iff_not] at h;rw[adc];refine⟨ih,by simp,?_⟩;intro a ha b hb;simp only[abm] at hb;subst hb;rintro rfl
    exact h.2 ha
   exact ih
  exact ih
theorem Q7{ls:List Let}{k:Nat}(hk:k<=ls.length){id:Int}(h:id∉dR ls k)(o:Bool):fy ls k id o=none:=by
 cases hv:fy ls k id o with
 |none=>rfl
 |some j=>obtain⟨h1,h2⟩:=jx hv;exact absurd ((oO hk).2 ⟨j,o,h1,h2⟩) h
theorem Jh{ls:List Let}{k:Nat}(hk:k<=ls.length){id:Int}(h:id∈dR ls k)(o:Bool)(hn:fy ls k id o=none):∃j m,fy ls k id (!o)=some j/\ls[j]?=some m/\j<k:=by
 obtain⟨j,o',h1,h2⟩:=(oO hk).1 h;by_cases e:o'=o
 .subst e;rw[m8 hn h1] at h2;cases h2
 have e:o'= !o:=by cases o<;>cases o'<;>simp_all
 subst e;cases hv:fy ls k id (!o) with
 |none=>rw[m8 hv h1] at h2;cases h2
 |some i=>obtain⟨h3,h4⟩:=jx hv;obtain⟨m,hm,_⟩:=iJ h4;exact⟨i,m,rfl,hm,h3⟩
theorem A5{ls:List Let}{k:Nat}{l:Let}(h:ls[k]?=some l)(hc:l.aw=true){id:Int}(hn:¬l.id=id)(o:Bool):fy ls (k+1) id o=fy ls k id o:=by rw[re,vh h hc];simp[hn]
theorem xV{ls:List Let}{k:Nat}{l:Let}(h:ls[k]?=some l)(hc:l.aw=true)(hn:fy ls k l.id l.over=none):fy ls (k+1) l.id l.over=some k:=by rw[re,vh h hc,hn];simp
theorem xW{ls:List Let}{k:Nat}{l:Let}(h:ls[k]?=some l)(hc:l.aw=true):fy ls (k+1) l.id (!l.over)=fy ls k l.id (!l.over):=by rw[re,vh h hc];cases l.over<;>simp
theorem Cd{ls:List Let}{k:Nat}{l:Let}(h:ls[k]?=some l)(hc:l.aw=true){id:Int}(hn:¬l.id=id):oZ ls (k+1) id=oZ ls k id:=by unfold oZ;rw[A5 h hc hn,A5 h hc hn]
theorem Sy{ls:List Let}{k:Nat}{l:Let}(h:ls[k]?=some l)(hc:l.aw=true)(hn:l.id∉dR ls k):mM ls (k+1)=mM ls k++[(.int .i64 l.id,oZ ls (k+1) l.id)]:=by unfold mM;rw[Kc h hc hn,aaN];congr 1;apply act;intro id hid;rw[Cd h hc (by rintro rfl;exact hn hid)]
theorem Sx{ls:List Let}{k:Nat}{l:Let}(h:ls[k]?=some l)(hc:l.aw=true)(hn:l.id∈dR ls k):mM ls (k+1)=(mM ls k).set ((dR ls k).idxOf l.id) (.int .i64 l.id,oZ ls (k+1) l.id):=by
 unfold mM;rw[Kb h hn];apply ack
 .simp
 intro i h1 h2;rw[adE];simp only[aah] at h1;by_cases e:(dR ls k).idxOf l.id=i
 .subst e;simp only[ac5,if_pos,List.getElem_idxOf]
 rw[if_neg e];simp only[ac5];rw[Cd h hc];intro e2;apply e;rw[e2];exact(rK ls k).idxOf_getElem i h1
theorem Gb(ls:List Let)(k:Nat)(q:Int):kN (.int .i64 q) (mM ls k) 0=some (if q∈dR ls k then some ((dR ls k).idxOf q,oZ ls k q) else none):=by unfold mM;rw[Iy];simp
theorem nM{ls:List Let}{k:Nat}(hk:k<ls.length)(h:vQ ls (ao Let.aw ls/2) k=false):dN ls=false:=by have:(List.range ls.length).all (vQ ls (ao Let.aw ls/2))=false:=List.all_eq_false.2 ⟨k,aav.2 hk,by simp[h]⟩;simp[dN,this]
theorem vx{ls:List Let}(he:ao Let.aw ls%2=0)(h:∀i,i<ls.length->vQ ls (ao Let.aw ls/2) i=true):dN ls=((dR ls ls.length).length==ao Let.aw ls/2):=by have:(List.range ls.length).all (vQ ls (ao Let.aw ls/2))=true:=aaP.2 fun i hi=>h i (aav.1 hi);simp[dN,this,he]
abbrev X8(id:Nat):Prop:=id=1216320128\/eW id=68
def sJ(F:Nat)(ls:List Let)(g:Nat)(c2 c3 c4 c6:C)(YZ:aE)(v:V)(Ya:aE):Prop:=v=vb (dN ls)/\Kept X8 YZ Ya/\(dN ls=true->∃g1,Ya 1216320128=(g,some (.var (Kw F ls c2 c3 c4 (.YW 4352256064 g1) c6)))/\Ya 4352256064=(g1,some (.map true (mM ls ls.length))))
theorem ge0(j:Nat):decide ((0:Int)<=(j:Int))=true:=decide_eq_true (by omega)
theorem wr0:IntKind.i64.wrap 0=0:=by decide
theorem wr1:IntKind.i64.wrap 1=1:=by decide
theorem LY:((-1:Int)≥0)=False:=by simp
theorem neg1':((0:Int)<= -1)=False:=by simp
theorem Qa{al:Al}(okD:al.ok 1216320128=true)(ok:∀id,eW id=68->al.ok id=true){X9:aE}{g F:Nat}{ls:List Let}{c2 c3 c4 c5 c6:C}(hl:ls.length<=1000000)
  (bD:X9 1216320128=(g,some (.var (Kw F ls c2 c3 c4 c5 c6)))):∃v Ya,vN S 68 [.one (.Yh 1216320128 g 0)] al X9 v Ya/\sJ F ls g c2 c3 c4 c6 X9 v Ya:=by
 have o1:=ok 4352256064 rfl;have o2:=ok 4352448192 rfl;have o3:=ok 4352704640 rfl;refine iS c68 (aaU rfl) ?_;have pc:=vw F ls hl;have YL:ao Let.aw ls<=ls.length:=ir _ _;cases he:(((ao Let.aw ls%2:Nat):Int)!=0) with
 |true=>
  have YH:dN ls=false:=by
   have:(ao Let.aw ls%2==0)=false:=by simp at he ⊢;omega
   simp[dN,this]
  simp only[go_sem,i68,bD,s40,jG pc,eH,ba,he,okD];exact⟨by rw[YH],Kept.refl _ _,fun h=>by rw[YH] at h;cases h⟩
 |false=>
  have he0:ao Let.aw ls%2=0:=by simp at he;omega
  simp only[go_sem,i68,bD,s40,jG pc,eH,ba,he,okD,o1];refine bm (fun k env Ya=>env 0=.one (.Yh 1216320128 g 0)/\env 3=vi (ao Let.aw ls)/\env 25=.one (.p (kL ls))/\env 26=vi ls.length/\env 27=vi k/\
   Ya 1216320128=(g,some (.var (Kw F ls c2 c3 c4 (.YW 4352256064 ((X9 4352256064).1+1)) c6)))/\Ya 4352256064=((X9 4352256064).1+1,some (.map true (mM ls k)))/\
   (∀i,i<k->vQ ls (ao Let.aw ls/2) i=true)/\Kept X8 X9 Ya) 0 ls.length (aae _) ?_ ?_
  .simp only[go_sem,bD];refine⟨rfl,rfl,fun i h=>absurd h (abB i),?_⟩;repeat(first|exact(Kept.refl _ _)|refine Kept.ij ?_ (by first|exact Or.inl rfl|exact Or.inr rfl) _)
  rintro k env Ya hk ⟨h0,h3,h25,h26,h27,bD,bM,Yd,YB⟩
  have wq:IntKind.i64.wrap ((ao Let.aw ls/2:Nat):Int)=((ao Let.aw ls/2:Nat):Int):=wrap_small (by omega);by_cases Ye:k<ls.length
  .obtain⟨l,YY⟩:=ai Ye;have hi:=ef YY;have Yf:((k:Int)<(ls.length:Int)):=by omega
   have w1:=ah (n:=k) (by omega);cases hc:(l.kind==2) with
   |false=>
    have hc':l.aw=false:=hc;have hp:(l.kind !=2)=true:=by simp[bne,hc]
    have hrk:vQ ls (ao Let.aw ls/2) k=true:=by simp[vQ,YY,hc']
    simp only[go_sem,i68_l1,h0,h3,h25,h26,h27,bD,bM,hi,Let.ps,Yf,hp,w1,o2];refine⟨Ye,?_,?_,?_⟩
    .rw[ON YY hc']
    .intro i hi;rcases abe.1 hi with h|rfl
     .exact Yd i h
     exact hrk
    repeat(first|exact YB|refine Kept.ij ?_ (by first|exact Or.inl rfl|exact Or.inr rfl) _)
   |true=>
    have hc':l.aw=true:=hc;have hp:(l.kind !=2)=false:=by simp[bne,hc]
    cases r1:decide (l.id<1) with
    |true=>
     have r1':l.id<1:=of_decide_eq_true r1;have r1n:¬1<=l.id:=by omega
     have YH:=nM Ye (show vQ ls (ao Let.aw ls/2) k=false by simp[vQ,YY,hc',r1n]);simp only[go_sem,i68_l1,h25,h26,h27,hi,Let.ps,Yf,hp,r1',o2];unfold sJ;refine⟨by rw[YH],?_,fun h=>by rw[YH] at h;cases h⟩;repeat(first|exact YB|refine Kept.ij ?_ (by first|exact Or.inl rfl|exact Or.inr rfl) _)
    |false=>
     have r1':¬l.id<1:=of_decide_eq_false r1;have r1y:1<=l.id:=by omega
     cases r2:decide (((ao Let.aw ls/2:Nat):Int)<l.id) with
     |true=>
      have r2':((ao Let.aw ls/2:Nat):Int)<l.id:=of_decide_eq_true r2;have r2n:¬l.id<=((ao Let.aw ls/2:Nat):Int):=by omega
      have YH:=nM Ye (show vQ ls (ao Let.aw ls/2) k=false by simp only[vQ,YY,hc',r2n];simp);simp only[go_sem,i68_l1,h3,h25,h26,h27,hi,Let.ps,Yf,hp,r1',r2',cY,ba,wq,o2];unfold sJ;refine⟨by rw[YH],?_,fun h=>by rw[YH] at h;cases h⟩;repeat(first|exact YB|refine Kept.ij ?_ (by first|exact Or.inl rfl|exact Or.inr rfl) _)
     |false=>
      have r2':¬((ao Let.aw ls/2:Nat):Int)<l.id:=of_decide_eq_false r2;have r2y:l.id<=((ao Let.aw ls/2:Nat):Int):=by omega
      have hf:=Gb ls k l.id;have hx0:vQ ls (ao Let.aw ls/2) k=((fy ls k l.id l.over).isNone&&(match fy ls k l.id (!l.over) with|some j=>oa ls j==l.sign|none=>true)):=by simp only[vQ,YY,hc',r1y,r2y,decide_true];rfl
      by_cases hm:l.id∈dR ls k
      .rw[if_pos hm] at hf;obtain⟨e0,hse⟩:=ai (show(dR ls k).idxOf l.id<(mM ls k).length by simp[mM];exact List.idxOf_lt_length_of_mem hm);have hmo:=Sx YY hc' hm;have aeS:oZ ls k l.id=[.int .i64 (AN (fy ls k l.id false)),.int .i64 (AN (fy ls k l.id true))]:=rfl;rw[aeS] at hf;cases ho:l.over with
       |true=>
        cases hv:fy ls k l.id true with
        |some j=>have YH:=nM Ye (show vQ ls (ao Let.aw ls/2) k=false by rw[hx0,ho,hv];rfl);rw[hv] at hf;simp only[AN] at hf;simp only[go_sem,i68_l1,h0,h3,h25,h26,h27,bD,bM,hi,Let.ps,Yf,hp,r1',r2',cY,ba,wq,hf,ho,ge0,mapOf,mapVal,eh,Int.reduceNeg,okD,o1,o2,o3];refine⟨aH,aH,?_⟩;unfold sJ;refine⟨by rw[YH],?_,fun h=>by rw[YH] at h;cases h⟩;repeat(first|exact YB|refine Kept.ij ?_ (by first|exact Or.inl rfl|exact Or.inr rfl) _)
        |none=>
         obtain⟨j,m,hj,hjm,hjk⟩:=Jh hk hm true hv;have hj:fy ls k l.id false=some j:=hj;have hjp:=ef hjm;have hsj:oa ls j=m.sign:=by simp[oa,hjm]
         rw[hv,hj] at hf;simp only[AN] at hf;cases hs:(m.sign==l.sign) with
         |false=>
          have Zd:(m.sign !=l.sign)=true:=by simp[bne,hs]
          have YH:=nM Ye (show vQ ls (ao Let.aw ls/2) k=false by rw[hx0,ho,hv];simp only[acC,hj,hsj,hs];rfl);simp only[go_sem,i68_l1,h0,h3,h25,h26,h27,bD,bM,hi,Let.ps,Yf,hp,r1',r2',cY,ba,wq,hf,ho,LY,hjp,Zd,wr0,mapOf,mapVal,eh,Int.reduceNeg,Int.reduceSub,okD,o1,o2,o3];refine⟨aH,aH,?_⟩;unfold sJ;refine⟨by rw[YH],?_,fun h=>by rw[YH] at h;cases h⟩;repeat(first|exact YB|refine Kept.ij ?_ (by first|exact Or.inl rfl|exact Or.inr rfl) _)
         |true=>
          have Zd:(m.sign !=l.sign)=false:=by simp[bne,hs]
          have hrk:vQ ls (ao Let.aw ls/2) k=true:=by rw[hx0,ho,hv];simp only[acC,hj,hsj,hs];rfl
          have hvs:=xV YY hc' (show fy ls k l.id l.over=none by rw[ho];exact hv);have hve:=xW YY hc';rw[ho] at hvs hve;rw[show fy ls k l.id (!true)=some j from hj] at hve;have aeR:oZ ls (k+1) l.id=[.int .i64 (j:Int),.int .i64 (k:Int)]:=by simp only[oZ];rw[hvs,show fy ls (k+1) l.id false=some j from hve];rfl
          rw[aeR] at hmo;simp only[go_sem,i68_l1,h0,h3,h25,h26,h27,bD,bM,hi,Let.ps,Yf,hp,w1,r1',r2',cY,ba,wq,hf,ho,LY,hjp,Zd,wr0,mapOf,mapVal,eh,jR,Int.reduceNeg,Int.reduceSub,okD,o1,o2,o3];refine⟨aH,aH,aH,?_⟩;refine⟨Ye,?_,?_,?_⟩
          .rw[hmo]
          .intro i hi;rcases abe.1 hi with h|rfl
           .exact Yd i h
           exact hrk
          repeat(first|exact YB|refine Kept.ij ?_ (by first|exact Or.inl rfl|exact Or.inr rfl) _)
       |false=>
        cases hv:fy ls k l.id false with
        |some j=>have YH:=nM Ye (show vQ ls (ao Let.aw ls/2) k=false by rw[hx0,ho,hv];rfl);rw[hv] at hf;simp only[AN] at hf;simp only[go_sem,i68_l1,h0,h3,h25,h26,h27,bD,bM,hi,Let.ps,Yf,hp,r1',r2',cY,ba,wq,hf,ho,ge0,mapOf,mapVal,eh,Int.reduceNeg,okD,o1,o2,o3];refine⟨aH,aH,?_⟩;unfold sJ;refine⟨by rw[YH],?_,fun h=>by rw[YH] at h;cases h⟩;repeat(first|exact YB|refine Kept.ij ?_ (by first|exact Or.inl rfl|exact Or.inr rfl) _)
        |none=>
         obtain⟨j,m,hj,hjm,hjk⟩:=Jh hk hm false hv;have hj:fy ls k l.id true=some j:=hj;have hjp:=ef hjm;have hsj:oa ls j=m.sign:=by simp[oa,hjm]
         rw[hv,hj] at hf;simp only[AN] at hf;cases hs:(m.sign==l.sign) with
         |false=>
          have Zd:(m.sign !=l.sign)=true:=by simp[bne,hs]
          have YH:=nM Ye (show vQ ls (ao Let.aw ls/2) k=false by rw[hx0,ho,hv];simp only[Bool.not_false,hj,hsj,hs];rfl);simp only[go_sem,i68_l1,h0,h3,h25,h26,h27,bD,bM,hi,Let.ps,Yf,hp,r1',r2',cY,ba,wq,hf,ho,LY,hjp,Zd,wr1,mapOf,mapVal,eh,Int.reduceNeg,Int.reduceSub,okD,o1,o2,o3];refine⟨aH,aH,?_⟩;unfold sJ;refine⟨by rw[YH],?_,fun h=>by rw[YH] at h;cases h⟩;repeat(first|exact YB|refine Kept.ij ?_ (by first|exact Or.inl rfl|exact Or.inr rfl) _)
         |true=>
          have Zd:(m.sign !=l.sign)=false:=by simp[bne,hs]
          have hrk:vQ ls (ao Let.aw ls/2) k=true:=by rw[hx0,ho,hv];simp only[Bool.not_false,hj,hsj,hs];rfl
          have hvs:=xV YY hc' (show fy ls k l.id l.over=none by rw[ho];exact hv);have hve:=xW YY hc';rw[ho] at hvs hve;rw[show fy ls k l.id (!false)=some j from hj] at hve;have aeR:oZ ls (k+1) l.id=[.int .i64 (k:Int),.int .i64 (j:Int)]:=by simp only[oZ];rw[hvs,show fy ls (k+1) l.id true=some j from hve];rfl
          rw[aeR] at hmo;simp only[go_sem,i68_l1,h0,h3,h25,h26,h27,bD,bM,hi,Let.ps,Yf,hp,w1,r1',r2',cY,ba,wq,hf,ho,LY,hjp,Zd,wr1,mapOf,mapVal,eh,jR,Int.reduceNeg,Int.reduceSub,okD,o1,o2,o3];refine⟨aH,aH,aH,?_⟩;refine⟨Ye,?_,?_,?_⟩
          .rw[hmo]
          .intro i hi;rcases abe.1 hi with h|rfl
           .exact Yd i h
           exact hrk
          repeat(first|exact YB|refine Kept.ij ?_ (by first|exact Or.inl rfl|exact Or.inr rfl) _)
      rw[if_neg hm] at hf;have hv:=Q7 hk hm;have hmn:=Sy YY hc' hm;have hrk:vQ ls (ao Let.aw ls/2) k=true:=by rw[hx0,hv,hv];rfl
      have hvs:=xV YY hc' (hv _);have hve:=xW YY hc';rw[hv] at hve;cases ho:l.over with
      |true=>
       rw[ho] at hvs hve;have aeS:oZ ls (k+1) l.id=[.int .i64 (-1),.int .i64 (k:Int)]:=by simp only[oZ];rw[hvs,show fy ls (k+1) l.id false=none from hve];rfl
       rw[aeS] at hmn;simp only[go_sem,i68_l1,h0,h3,h25,h26,h27,bD,bM,hi,Let.ps,Yf,hp,w1,r1',r2',cY,ba,wq,hf,ho,LY,mapOf,mapVal,eh,jR,Option.map_none,Int.reduceNeg,okD,o1,o2,o3];refine⟨aH,aH,aH,?_⟩;refine⟨Ye,?_,?_,?_⟩
       .rw[hmn]
       .intro i hi;rcases abe.1 hi with h|rfl
        .exact Yd i h
        exact hrk
       repeat(first|exact YB|refine Kept.ij ?_ (by first|exact Or.inl rfl|exact Or.inr rfl) _)
      |false=>
       rw[ho] at hvs hve;have aeS:oZ ls (k+1) l.id=[.int .i64 (k:Int),.int .i64 (-1)]:=by simp only[oZ];rw[hvs,show fy ls (k+1) l.id true=none from hve];rfl
       rw[aeS] at hmn;simp only[go_sem,i68_l1,h0,h3,h25,h26,h27,bD,bM,hi,Let.ps,Yf,hp,w1,r1',r2',cY,ba,wq,hf,ho,LY,mapOf,mapVal,eh,jR,Option.map_none,Int.reduceNeg,okD,o1,o2,o3];refine⟨aH,aH,aH,?_⟩;refine⟨Ye,?_,?_,?_⟩
       .rw[hmn]
       .intro i hi;rcases abe.1 hi with h|rfl
        .exact Yd i h
        exact hrk
       repeat(first|exact YB|refine Kept.ij ?_ (by first|exact Or.inl rfl|exact Or.inr rfl) _)
  have:k=ls.length:=by omega
  subst this;have hr:=vx he0 Yd;have hml:(mM ls ls.length).length=(dR ls ls.length).length:=by simp[mM]
  have hb:((((dR ls ls.length).length:Nat):Int)==((ao Let.aw ls/2:Nat):Int))=((dR ls ls.length).length==ao Let.aw ls/2):=by
   cases h:((dR ls ls.length).length==ao Let.aw ls/2) with
   |true=>simp at h ⊢;omega
   |false=>simp at h ⊢;omega
  simp only[go_sem,i68_l1,i68_r2,h0,h3,h26,h27,bD,bM,aW,y7,Int.reduceNeg,hml,cY,ba,wq,hb,okD,o1];exact⟨by rw[hr],YB,fun _=>⟨_,bD,bM⟩⟩
theorem pz{p:Let->Bool}{ls:List Let}{i:Nat}{l:Let}(h:ls[i]?=some l)(hp:p l=true):ao p ls=1↔ ∀j m,ls[j]?=some m->p m=true->j=i:=by
 obtain⟨hi,e⟩:=aac.1 h;have hs:ls=ls.take i++l::ls.drop (i+1):=by rw[<- e,abH];simp
 have hc:ao p ls=ao p (ls.take i)+(ao p (ls.drop (i+1))+1):=by
  conv=>lhs;rw[hs]
  simp[ao,abF,hp]
 constructor
 .intro h1 j m hj hm;have z1:ao p (ls.take i)=0:=by omega
  have z2:ao p (ls.drop (i+1))=0:=by omega
  have z1:=adw.1 z1;have z2:=adw.1 z2;rcases Nat.lt_trichotomy j i with hji|hji|hji
  .have:m∈ls.take i:=aab (i:=j) (by rw[aa3,if_pos hji,hj]);exact absurd hm (z1 m this)
  .exact hji
  have:m∈ls.drop (i+1):=aab (i:=j-(i+1)) (by rw[acA,show i+1+(j-(i+1))=j by omega,hj]);exact absurd hm (z2 m this)
 intro hu;have z1:ao p (ls.take i)=0:=by
  refine adw.2 fun m hm hpm=>?_;obtain⟨j,hj⟩:=aaO hm;have hji:j<i:=by have:=(aac.1 hj).1;rw[aay] at this;omega
  rw[aa3,if_pos hji] at hj;have:=hu j m hj hpm;omega
 have z2:ao p (ls.drop (i+1))=0:=by refine adw.2 fun m hm hpm=>?_;obtain⟨j,hj⟩:=aaO hm;rw[acA] at hj;have:=hu _ m hj hpm;omega
 omega
theorem IT{p:Let->Bool}{ls:List Let}(h:∀(i j:Nat) (l m:Let),ls[i]?=some l->ls[j]?=some m->p l=true->p m=true->i=j):ao p ls<=1:=by
 by_cases hz:ao p ls=0
 .omega
 have:0<ls.countP p:=Nat.pos_of_ne_zero hz;obtain⟨l,hl,hp⟩:=acI.1 this;obtain⟨i,hi⟩:=aaO hl;have:=(pz hi hp).2 fun j m hj hm=>h j i m l hj hi hm hp;omega
structure j7 (F:Nat) (ls:List Let) (l:Let):Prop where
 g0:0<=l.gate
 g1:l.gate<=(F:Int)
 r0:1<=l.Yb
 r1:l.Yb<=(cg ls l.gate.toNat:Int)
theorem yK{ls:List Let}{l m:Let}(hl:j7 F ls l)(hm:j7 F ls m):dk ls l=dk ls m↔l.gate=m.gate/\l.Yb=m.Yb:=by
 obtain⟨l1,l2,l3,l4⟩:=hl;obtain⟨m1,m2,m3,m4⟩:=hm;unfold dk;constructor
 .intro h;have sl:=cK ls l.gate.toNat;have sm:=cK ls m.gate.toNat;rcases Nat.lt_trichotomy l.gate.toNat m.gate.toNat with c|c|c
  .have:=eo (ls:=ls) (show l.gate.toNat+1<=m.gate.toNat by omega);omega
  .rw[c] at h;omega
  have:=eo (ls:=ls) (show m.gate.toNat+1<=l.gate.toNat by omega);omega
 rintro ⟨h1,h2⟩;rw[h1,h2]
theorem WQ{ls:List Let}{l m:Let}(hl:j7 F ls l)(hm:j7 F ls m):y8 l m=true↔dk ls l<dk ls m:=by
 obtain⟨l1,l2,l3,l4⟩:=hl;obtain⟨m1,m2,m3,m4⟩:=hm;unfold dk y8;simp only[ab4,aaf,decide_eq_true_eq,beq_iff_eq];have sl:=cK ls l.gate.toNat;have sm:=cK ls m.gate.toNat;rcases Nat.lt_trichotomy l.gate.toNat m.gate.toNat with c|c|c
 .have:=eo (ls:=ls) (show l.gate.toNat+1<=m.gate.toNat by omega);omega
 .rw[c];omega
 have:=eo (ls:=ls) (show m.gate.toNat+1<=l.gate.toNat by omega);omega
theorem Vn{ls:List Let}{l:Let}(hl:j7 F ls l):dk ls l<bk ls (F+1):=by obtain⟨l1,l2,l3,l4⟩:=hl;unfold dk;have sl:=cK ls l.gate.toNat;have:=eo (ls:=ls) (show l.gate.toNat+1<=F+1 by omega);omega
theorem CT{ls:List Let}{i:Nat}{l:Let}(h:ls[i]?=some l)(hp:l.aA=true):qu ls i=true↔1<=l.Yb/\l.Yb<=(cg ls l.gate.toNat:Int)/\ ∀j m,j<i->ls[j]?=some m->m.aA=true->dk ls m≠dk ls l:=by
 simp only[qu,h,hp,acC,acD,aaf,decide_eq_true_eq,aaR,ac4,aav];constructor
 .rintro ⟨⟨h1,h2⟩,h3⟩
  refine⟨h1,h2,fun j m hj hm hpm e=>?_⟩;have:=h3 j hj;rw[qH hm hpm] at this;simp[e] at this
 rintro ⟨h1,h2,h3⟩
 refine⟨⟨h1,h2⟩,fun j hj=>?_⟩;unfold j5;split
 .rename_i m hm;cases hpm:m.aA with
  |false=>simp
  |true=>simpa using h3 j m hj hm hpm
 simp
theorem jB{ls:List Let}(hg:jc F ls):kx ls=true↔(∀l∈ls,l.aA=true->j7 F ls l)/\ ∀(i j:Nat) (l m:Let),ls[i]?=some l->ls[j]?=some m->l.aA=true->m.aA=true->dk ls l=dk ls m->i=j:=by
 unfold kx;rw[aaP];constructor
 .intro h;refine⟨fun l hl hp=>?_,fun i j l m hi hj Yu hpm e=>?_⟩
  .obtain⟨i,hi⟩:=aaO hl;have:=(CT hi hp).1 (h i (aav.2 (aac.1 hi).1));exact⟨(hg l hl hp).1,(hg l hl hp).2,this.1,this.2.1⟩
  have ci:=(CT hi Yu).1 (h i (aav.2 (aac.1 hi).1));have cj:=(CT hj hpm).1 (h j (aav.2 (aac.1 hj).1));rcases Nat.lt_trichotomy i j with c|c|c
  .exact absurd e (cj.2.2 i l c hi Yu)
  .exact c
  exact absurd e.symm (ci.2.2 j m c hj hpm)
 rintro ⟨h1,h2⟩ i hi
 obtain⟨l,hl⟩:=ai (aav.1 hi);cases hp:l.aA with
 |false=>simp[qu,hl,hp]
 |true=>have hg:=h1 l (aab hl) hp;refine(CT hl hp).2 ⟨hg.r0,hg.r1,fun j m hj hm hpm e=>?_⟩;have:=h2 j i m l hm hl hpm hp e;omega
theorem xy(g:Int)(h:0<=g)(l:Let):AL g l=vG g.toNat l:=by unfold AL vG;rw[Int.toNat_of_nonneg h]
theorem cJ{l:Let}(hp:l.aA=true):cF f l=false↔(((0<=l.gate/\l.gate<=f)/\l.id=0)/\l.sign=0)/\l.over=false:=by unfold Let.aA at hp;simp only[cF,hp,if_true,adY,decide_eq_false_iff_not,bne_eq_false_iff_eq,Int.not_lt]
theorem rC{ls:List Let}{l:Let}(hp:l.aA=true):JG f ls l=true↔cF f l=false/\1<=l.Yb/\l.Yb<=(ao (AL l.gate) ls:Int)/\ao (dV l) ls=1:=by
 rw[cJ hp];unfold JG;simp only[aaR,adY,decide_eq_false_iff_not,bne_eq_false_iff_eq];constructor
 .rintro ⟨⟨⟨⟨⟨⟨⟨a,b⟩,c⟩,d⟩,e⟩,g⟩,h⟩,i⟩
  exact⟨⟨⟨⟨⟨by omega,by omega⟩,a⟩,b⟩,c⟩,by omega,by omega,by omega⟩
 rintro ⟨⟨⟨⟨⟨d,e⟩,a⟩,b⟩,c⟩,g,h,i⟩
 exact⟨⟨⟨⟨⟨⟨⟨a,b⟩,c⟩,by omega⟩,by omega⟩,by omega⟩,by omega⟩,by omega⟩
theorem tY{l m:Let}(hp:l.aA=true):dV l m=true↔m.aA=true/\m.gate=l.gate/\m.Yb=l.Yb:=by unfold Let.aA at hp ⊢;simp only[beq_iff_eq] at hp;unfold dV;simp only[aaf,beq_iff_eq,hp,and_assoc]
theorem HL{ls:List Let}:(∀l∈ls,l.aA=true->JG F ls l=true)↔(∀l∈ls,l.aA=true->cF F l=false)/\kx ls=true:=by
 constructor
 .intro h;have hb:∀l∈ls,l.aA=true->cF F l=false:=fun l hl hp=>((rC hp).1 (h l hl hp)).1;have hg:jc F ls:=fun l hl hp=>((cJ hp).1 (hb l hl hp)).1.1.1;refine⟨hb,(jB hg).2 ⟨fun l hl hp=>?_,fun i j l m hi hj Yu hpm e=>?_⟩⟩
  .obtain⟨_,h2,h3,_⟩:=(rC hp).1 (h l hl hp);have:=hg l hl hp;refine⟨this.1,this.2,h2,?_⟩;have e:ao (AL l.gate) ls=cg ls l.gate.toNat:=by unfold cg ao;congr 1;funext m;exact xy _ this.1 m
   omega
  have gl:j7 F ls l:=by
   obtain⟨_,h2,h3,_⟩:=(rC Yu).1 (h l (aab hi) Yu);have:=hg l (aab hi) Yu;have e:ao (AL l.gate) ls=cg ls l.gate.toNat:=by unfold cg ao;congr 1;funext m;exact xy _ this.1 m
   exact⟨this.1,this.2,h2,by omega⟩
  have gm:j7 F ls m:=by
   obtain⟨_,h2,h3,_⟩:=(rC hpm).1 (h m (aab hj) hpm);have:=hg m (aab hj) hpm;have e:ao (AL m.gate) ls=cg ls m.gate.toNat:=by unfold cg ao;congr 1;funext m;exact xy _ this.1 m
   exact⟨this.1,this.2,h2,by omega⟩
  have e2:=(yK gl gm).1 e;have hs:=((rC hpm).1 (h m (aab hj) hpm)).2.2.2;exact(pz hj ((tY hpm).2 ⟨hpm,rfl,rfl⟩)).1 hs i l hi ((tY hpm).2 ⟨Yu,e2.1,e2.2⟩)
 rintro ⟨hb,hr⟩ l hl hp
 have hg:jc F ls:=fun l hl hp=>((cJ hp).1 (hb l hl hp)).1.1.1;obtain⟨h1,h2⟩:=(jB hg).1 hr;have gl:=h1 l hl hp;have e:ao (AL l.gate) ls=cg ls l.gate.toNat:=by unfold cg ao;congr 1;funext m;exact xy _ gl.g0 m
 obtain⟨i,hi⟩:=aaO hl;refine(rC hp).2 ⟨hb l hl hp,gl.r0,by rw[e];exact gl.r1,(pz hi ((tY hp).2 ⟨hp,rfl,rfl⟩)).2 fun j m hj hs=>?_⟩;obtain⟨hpm,eg,er⟩:=(tY hp).1 hs;exact h2 j i m l hj hi hpm hp ((yK (h1 m (aab hj) hpm) gl).2 ⟨eg,er⟩)
def pX(id:Int)(o:Bool)(l:Let):Bool:=l.aw&&(l.id==id&&l.over==o)
theorem nA{ls:List Let}{j:Nat}{m:Let}(h:ls[j]?=some m)(id:Int)(o:Bool):Dz ls id o j=pX id o m:=by simp[Dz,pX,h]
theorem dE{id:Int}{o:Bool}{l:Let}:pX id o l=true↔l.aw=true/\l.id=id/\l.over=o:=by unfold pX;simp only[aaf,beq_iff_eq]
def oE(ls:List Let):Prop:=∀(i j:Nat) (l m:Let),ls[i]?=some l->ls[j]?=some m->l.aw=true->m.aw=true->l.id=m.id->i≠j->l.over≠m.over/\l.sign=m.sign
def Pl(ls:List Let):Prop:=∀l∈ls,l.aw=true->1<=l.id/\l.id<=((ao Let.aw ls/2:Nat):Int)
theorem Jg{ls:List Let}{n2 k:Nat}{l:Let}(h:ls[k]?=some l)(hc:l.aw=true):vQ ls n2 k=true↔(1<=l.id/\l.id<=(n2:Int))/\fy ls k l.id l.over=none/\ ∀j,fy ls k l.id (!l.over)=some j->oa ls j=l.sign:=by
 simp only[vQ,h,hc,acC,acD,aaf,decide_eq_true_eq,Option.isNone_iff_eq_none];constructor
 .rintro ⟨h1,h2,h3⟩
  refine⟨h1,h2,fun j hj=>?_⟩;rw[hj] at h3
  simpa using h3
 rintro ⟨h1,h2,h3⟩
 refine⟨h1,h2,?_⟩;split
 .rename_i j hj
  simpa using h3 j hj
 rfl
theorem xK{ls:List Let}:(∀k,k<ls.length->vQ ls (ao Let.aw ls/2) k=true)↔Pl ls/\oE ls:=by
 constructor
 .intro h;have hx:∀ {k:Nat} {l:Let},ls[k]?=some l->l.aw=true->_:=fun {k l} hk hc=>(Jg (n2:=ao Let.aw ls/2) hk hc).1 (h k (aac.1 hk).1);refine⟨fun l hl hc=>?_,?_⟩
  .obtain⟨i,hi⟩:=aaO hl;exact(hx hi hc).1
  have key:∀(i j:Nat) (l m:Let),ls[i]?=some l->ls[j]?=some m->l.aw=true->m.aw=true->l.id=m.id->i<j->l.over≠m.over/\l.sign=m.sign:=by
   intro i j l m hi hj YL hcm he Zp;obtain⟨_,hn,hs⟩:=hx hj hcm;have ho:l.over≠m.over:=by intro e;have:=m8 hn Zp;rw[nA hi,dE.2 ⟨YL,he,e⟩] at this;cases this
   refine⟨ho,?_⟩;have ho':l.over= !m.over:=by revert ho;cases l.over<;>cases m.over<;>simp
   cases hv:fy ls j m.id (!m.over) with
   |none=>have:=m8 hv Zp;rw[nA hi,dE.2 ⟨YL,he,ho'⟩] at this;cases this
   |some p=>
    have h3:=hs p hv;obtain⟨hp1,hp2⟩:=jx hv;obtain⟨x,ZZ,hxc,hxi,hxo⟩:=iJ hp2;have:p=i:=by
     rcases Nat.lt_trichotomy p i with c|c|c
     .have hn2:=(hx hi YL).2.1;have:=m8 hn2 c;rw[nA ZZ,dE.2 ⟨hxc,by rw[hxi,he],by rw[hxo,ho']⟩] at this;cases this
     .exact c
     have h4:(List.range j).find? (Dz ls m.id (!m.over))=some p:=hv;rw[List.find?_range_eq_some] at h4;have:=h4.2.2 i c;rw[nA hi,dE.2 ⟨YL,he,ho'⟩] at this;cases this
    subst this;rw[hi] at ZZ;cases ZZ
    simpa [oa,hi] using h3
  intro i j l m hi hj YL hcm he Zp;rcases Nat.lt_or_gt_of_ne Zp with c|c
  .exact key i j l m hi hj YL hcm he c
  have:=key j i m l hj hi hcm YL he.symm c;exact⟨fun e=>this.1 e.symm,this.2.symm⟩
 rintro ⟨h1,h2⟩ k hk
 obtain⟨l,hl⟩:=ai hk;cases hc:l.aw with
 |false=>simp[vQ,hl,hc]
 |true=>
  refine(Jg hl hc).2 ⟨h1 l (aab hl) hc,?_,fun j hj=>?_⟩
  .cases hv:fy ls k l.id l.over with
   |none=>rfl
   |some p=>obtain⟨hp1,hp2⟩:=jx hv;obtain⟨x,ZZ,hxc,hxi,hxo⟩:=iJ hp2;exact absurd hxo (h2 p k x l ZZ hl hxc hc hxi (by omega)).1
  obtain⟨hp1,hp2⟩:=jx hj;obtain⟨x,ZZ,hxc,hxi,hxo⟩:=iJ hp2;have:=(h2 j k x l ZZ hl hxc hc hxi (by omega)).2;simp[oa,ZZ,this]
theorem Rn(ls:List Let):∀ids:List Int,ids.Nodup->(ids.map fun id=>ao (jE id) ls).sum=ao (fun l=>l.aw&&ids.contains l.id) ls:=by
 intro ids
 induction ids with
 |nil=>intro _;simp[ao]
 |cons a ids ih=>
  intro hn;rw[abk] at hn;rw[aar,List.sum_cons,ih hn.2];refine(vA (p:=jE a) (q:=fun l=>l.aw&&ids.contains l.id) (r:=fun l=>l.aw&&(a::ids).contains l.id) ?_ ?_ ls).symm
  .intro l;simp only[jE,aaf,beq_iff_eq,List.contains_eq_mem,decide_eq_true_eq,aag];constructor
   .rintro ⟨h1,h2|h2⟩
    .exact .inl ⟨h1,h2⟩
    exact .inr ⟨h1,h2⟩
   rintro (⟨h1,h2⟩|⟨h1,h2⟩)
   .exact⟨h1,.inl h2⟩
   exact⟨h1,.inr h2⟩
  intro l;simp only[jE,aaf,beq_iff_eq,List.contains_eq_mem,decide_eq_true_eq];rintro ⟨_,h1⟩ ⟨_,h2⟩
  exact hn.1 (h1▸h2)
theorem rL{ls:List Let}{l:Let}(hl:l∈ls)(hc:l.aw=true):l.id∈dR ls ls.length:=by obtain⟨i,hi⟩:=aaO hl;refine(oO (aad _)).2 ⟨i,l.over,(aac.1 hi).1,?_⟩;rw[nA hi];exact dE.2 ⟨hc,rfl,rfl⟩
theorem CH(ls:List Let):((dR ls ls.length).map fun id=>ao (jE id) ls).sum=ao Let.aw ls:=by
 rw[Rn _ _ (rK ls _)];apply adM;intro l hl;cases hc:l.aw with
 |false=>simp
 |true=>simp[rL hl hc]
theorem oJ(id:Int)(ls:List Let):ao (jE id) ls=ao (pX id true) ls+ao (pX id false) ls:=by
 refine vA ?_ ?_ ls
 .intro l;rw[dE,dE];simp only[jE,aaf,beq_iff_eq];cases l.over<;>simp
 intro l;rw[dE,dE];rintro ⟨_,_,h1⟩ ⟨_,_,h2⟩
 rw[h1] at h2;cases h2
theorem qG(id:Int)(o:Bool)(ls:List Let):ao (jE id) ls=ao (pX id o) ls+ao (pX id (!o)) ls:=by
 rw[oJ];cases o with
 |true=>rfl
 |false=>simp only[Bool.not_false];omega
theorem jP{ls:List Let}(h:oE ls)(id:Int)(o:Bool):ao (pX id o) ls<=1:=by refine IT fun i j l m hi hj hl hm=>?_;obtain⟨l1,l2,l3⟩:=dE.1 hl;obtain⟨m1,m2,m3⟩:=dE.1 hm;refine Decidable.byContradiction fun Yk=>?_;exact(h i j l m hi hj l1 m1 (by rw[l2,m2]) Yk).1 (by rw[l3,m3])
theorem Ny{f:Int->Nat}:∀ids:List Int,(∀x∈ids,f x<=2)->(ids.map f).sum<=2*ids.length:=by
 intro ids
 induction ids with
 |nil=>intro _;simp
 |cons a ids ih=>intro h;have:=ih fun x hx=>h x (abv _ hx);have:=h a adN;simp only[aar,List.sum_cons,aas];omega
theorem KM{f:Int->Nat}:∀ids:List Int,(∀x∈ids,f x<=2)->(ids.map f).sum=2*ids.length->∀x∈ids,f x=2:=by
 intro ids
 induction ids with
 |nil=>intro _ _ x hx;cases hx
 |cons a ids ih=>
  intro h hs;have h1:=Ny ids fun x hx=>h x (abv _ hx);have h2:=h a adN;simp only[aar,List.sum_cons,aas] at hs;intro x hx;rcases aag.1 hx with rfl|hx
  .omega
  exact ih (fun x hx=>h x (abv _ hx)) (by omega) x hx
theorem Rm{f:Int->Nat}:∀ids:List Int,(∀x∈ids,f x=2)->(ids.map f).sum=2*ids.length:=by
 intro ids
 induction ids with
 |nil=>intro _;simp
 |cons a ids ih=>intro h;have:=ih fun x hx=>h x (abv _ hx);have:=h a adN;simp only[aar,List.sum_cons,aas];omega
theorem yP{l m:Let}(hc:l.aw=true):dI l m=true↔m.aw=true/\m.id=l.id/\m.sign=l.sign/\m.over= !l.over:=by unfold Let.aw at hc ⊢;simp only[beq_iff_eq] at hc;unfold dI;simp only[aaf,beq_iff_eq,hc,and_assoc,aaR,beq_eq_false_iff_ne,ne_eq];cases l.over<;>cases m.over<;>simp
theorem qC{l:Let}(hc:l.aw=true):cF f l=false↔(l.gate=0/\l.Yb=0)/\(l.sign !=1&&l.sign != -1)=false:=by
 unfold Let.aw at hc;have h1:(l.kind==1)=false:=by simp only[beq_iff_eq] at hc;rw[hc];rfl
 simp only[cF,hc,h1,if_true];simp
theorem JH{ls:List Let}{l:Let}(hc:l.aw=true):wh ls l=true↔cF f l=false/\(1<=l.id/\l.id<=((ao Let.aw ls/2:Nat):Int))/\ao (dI l) ls=1/\ao (jE l.id) ls=2:=by
 rw[qC hc];unfold wh;simp only[aaR,adY,decide_eq_false_iff_not,bne_eq_false_iff_eq];constructor
 .rintro ⟨⟨⟨⟨⟨⟨a,b⟩,c⟩,d⟩,e⟩,g⟩,h⟩
  exact⟨⟨⟨a,b⟩,c⟩,⟨by omega,by omega⟩,by omega,by omega⟩
 rintro ⟨⟨⟨a,b⟩,c⟩,⟨d,e⟩,g,h⟩
 exact⟨⟨⟨⟨⟨⟨a,b⟩,c⟩,by omega⟩,by omega⟩,by omega⟩,by omega⟩
theorem MG{ls:List Let}:(∀l∈ls,l.aw=true->wh ls l=true)↔(∀l∈ls,l.aw=true->cF f l=false)/\dN ls=true:=by
 have aen:=CH ls;constructor
 .intro h;have Yt:=fun l hl hc=>(JH (f:=f) hc).1 (h l hl hc);have hp:oE ls:=by
   intro i j l m hi hj YL hcm he Zp;obtain⟨_,_,h3,h4⟩:=Yt l (aab hi) YL;have e1:=qG l.id l.over ls;have g1:0<ao (pX l.id l.over) ls:=acI.2 ⟨l,aab hi,dE.2 ⟨YL,rfl,rfl⟩⟩;obtain⟨x,hx,hxp⟩:=acI.1 (show 0<ls.countP (dI l) by show 0<ao (dI l) ls;omega);obtain⟨x1,x2,x3,x4⟩:=(yP YL).1 hxp;have g2:0<ao (pX l.id (!l.over)) ls:=acI.2 ⟨x,hx,dE.2 ⟨x1,x2,x4⟩⟩;have u1:ao (pX l.id l.over) ls=1:=by omega
   have u2:ao (pX l.id (!l.over)) ls=1:=by omega
   have ho:l.over≠m.over:=by intro e;have:=(pz hi (dE.2 ⟨YL,rfl,rfl⟩)).1 u1 j m hj (dE.2 ⟨hcm,he.symm,e.symm⟩);exact Zp this.symm
   refine⟨ho,?_⟩;have ho':m.over= !l.over:=by revert ho;cases l.over<;>cases m.over<;>simp
   obtain⟨p,ZZ⟩:=aaO hx;have:=(pz hj (dE.2 ⟨hcm,he.symm,ho'⟩)).1 u2 p x ZZ (dE.2 ⟨x1,x2,x4⟩);subst this;rw[ZZ] at hj;cases hj;exact x3.symm
  have an0:∀id∈dR ls ls.length,ao (jE id) ls=2:=by intro id hid;obtain⟨j,o,h1,h2⟩:=(oO (aad _)).1 hid;obtain⟨m,hm,hc,hi,_⟩:=iJ h2;rw[<- hi];exact(Yt m (aab hm) hc).2.2.2
  rw[Rm _ an0] at aen;refine⟨fun l hl hc=>(Yt l hl hc).1,?_⟩;have hx:=(xK (ls:=ls)).2 ⟨fun l hl hc=>(Yt l hl hc).2.1,hp⟩;rw[vx (by omega) hx];simp only[beq_iff_eq];omega
 rintro ⟨hb,hr⟩ l hl hc
 unfold dN at hr;simp only[aaf,beq_iff_eq,aaP,aav] at hr;obtain⟨⟨he,hx⟩,hlen⟩:=hr;obtain⟨hid,hp⟩:=xK.1 hx;have hle:∀id∈dR ls ls.length,ao (jE id) ls<=2:=fun id _=>by rw[oJ id];have:=jP hp id true;have:=jP hp id false;omega
 have h2:=KM _ hle (by rw[aen,hlen];omega) l.id (rL hl hc);have e1:=qG l.id l.over ls;have b1:=jP hp l.id l.over;have b2:=jP hp l.id (!l.over);refine(JH hc).2 ⟨hb l hl hc,hid l hl hc,?_,h2⟩;have u2:ao (pX l.id (!l.over)) ls=1:=by omega
 obtain⟨i,hi⟩:=aaO hl;obtain⟨x,hx,hxp⟩:=acI.1 (show 0<ls.countP (pX l.id (!l.over)) by show 0<ao (pX l.id (!l.over)) ls;omega);obtain⟨p,ZZ⟩:=aaO hx;obtain⟨x1,x2,x3⟩:=dE.1 hxp;have ZI:p≠i:=by
  rintro rfl
  rw[hi] at ZZ;cases ZZ;revert x3;cases l.over<;>simp
 have hsg:=(hp p i x l ZZ hi x1 hc x2 ZI).2;refine(pz ZZ ((yP hc).2 ⟨x1,x2,hsg,x3⟩)).2 fun j m hj hm=>?_;obtain⟨m1,m2,m3,m4⟩:=(yP hc).1 hm;exact(pz ZZ hxp).1 u2 j m hj (dE.2 ⟨m1,m2,m4⟩)
theorem gR{l:Let}(h:cF f l=false):l.aA=true\/l.aw=true:=by
 unfold Let.aA Let.aw;cases h1:(l.kind==1) with
 |true=>exact .inl rfl
 |false=>
  cases h2:(l.kind==2) with
  |true=>exact .inr rfl
  |false=>simp only[cF,h1,h2] at h;cases h
theorem dz{l:Let}(hp:l.aA=true):l.aw=false:=by unfold Let.aA at hp;unfold Let.aw;simp only[beq_iff_eq] at hp;rw[hp];rfl
theorem T1{ls:List Let}{l:Let}(hp:l.aA=true):jC f ls l=JG f ls l:=by unfold Let.aA at hp;simp only[jC,hp,if_true]
theorem T2{ls:List Let}{l:Let}(hp:l.aw=true):jC f ls l=wh ls l:=by
 unfold Let.aw at hp;have h1:(l.kind==1)=false:=by simp only[beq_iff_eq] at hp;rw[hp];rfl
 simp only[jC,hp,h1,if_true];simp
theorem jZ{ls:List Let}:fB F ls=true↔ls.any (cF F)=false/\kx ls=true/\dN ls=true:=by
 unfold fB;rw[aaP,ac4];have e1:=HL (F:=F) (ls:=ls);have e2:=MG (f:=(F:Int)) (ls:=ls);constructor
 .intro h;have hk:=fun {l:Let} (hl:l∈ls)=>uk (f:=F) (ls:=ls) (aaP.2 h) (aaO hl).choose_spec;obtain⟨p1,p2⟩:=e1.1 fun l hl hp=>by rw[<- T1 hp];exact h l hl
  obtain⟨c1,c2⟩:=e2.1 fun l hl hc=>by rw[<- T2 (f:=F) hc];exact h l hl
  refine⟨fun l hl=>?_,p2,c2⟩;rcases hk hl with hp|hc
  .rw[p1 l hl hp];simp
  rw[c1 l hl hc];simp
 rintro ⟨hb,hr,hc⟩ l hl
 have hb:∀l∈ls,cF F l=false:=fun l hl=>by simpa using hb l hl
 rcases gR (hb l hl) with hp|hc'
 .rw[T1 hp];exact e1.2 ⟨fun l hl _=>hb l hl,hr⟩ l hl hp
 rw[T2 hc'];exact e2.2 ⟨fun l hl _=>hb l hl,hc⟩ l hl hc'
theorem CK{o:List Nat}(hs:o.Pairwise (· < ·))(Ye:∀x∈o,x<o.length):∀(k:Nat) (h:k<o.length),o[k]=k:=by
 rw[ad1] at hs;have lo:∀(k:Nat) (h:k<o.length),k<=o[k]:=by
  intro k
  induction k with
  |zero=>intro _;omega
  |succ k ih=>intro h;have:=ih (by omega);have:=hs k (k+1) (by omega) h (by omega);omega
 have hi:∀(d k:Nat) (h:k<o.length),k+d+1=o.length->o[k]<=k:=by
  intro d
  induction d with
  |zero=>intro k h e;have:=Ye _ (List.getElem_mem h);omega
  |succ d ih=>intro k h e;have:=ih (k+1) (by omega) (by omega);have:=hs k (k+1) h (by omega) (by omega);omega
 intro k h;have:=lo k h;have:=hi (o.length-k-1) k h (by omega);omega
theorem Ii{key:Nat->Nat}{p:Nat->Bool}{i:Nat}:∀ {o:List Nat},o.Pairwise (fun a b=>key a<key b)->(∀x∈o,p x=decide (key x<key i))->(∀x∈o,key x≠key i)->
  (o.take (o.takeWhile p).length++i::o.drop (o.takeWhile p).length).Pairwise (fun a b=>key a<key b):=by
 intro o
 induction o with
 |nil=>intro _ _ _;simp
 |cons a o ih=>
  intro hs hp hn;rw[abd] at hs;have pa:=hp a adN;have na:=hn a adN;by_cases Ye:key a<key i
  .have pa':p a=true:=by rw[pa];simpa using Ye
   rw[List.takeWhile_cons,if_pos pa'];simp only[aas,List.take_succ_cons,List.drop_succ_cons,ac3];rw[abd];refine⟨fun b hb=>?_,ih hs.2 (fun x hx=>hp x (abv _ hx)) (fun x hx=>hn x (abv _ hx))⟩;rcases aaw.1 hb with hb|hb
   .exact hs.1 b (ab2 hb)
   rcases aag.1 hb with rfl|hb
   .exact Ye
   exact hs.1 b (ab1 hb)
  have pa':¬p a=true:=by rw[pa];simpa using Ye
  rw[List.takeWhile_cons,if_neg pa'];simp only[aaA,List.take_zero,List.drop_zero,aaE];rw[abd,abd];refine⟨fun b hb=>?_,hs⟩;rcases aag.1 hb with rfl|hb
  .omega
  have:=hs.1 b hb;omega
theorem sU{ls:List Let}{i:Nat}{l:Let}(h:ls[i]?=some l)(hp:l.aA=true):QX ls i=dk ls l:=by simp[QX,h,hp]
structure DW (F:Nat) (ls:List Let):Prop where
 d9:∀l∈ls,l.aA=true->j7 F ls l
 inj:∀(i j:Nat) (l m:Let),ls[i]?=some l->ls[j]?=some m->l.aA=true->m.aA=true->dk ls l=dk ls m->i=j
theorem uL{ls:List Let}(h:DW F ls):∀k,k<=ls.length->(ig ls k).Pairwise (fun a b=>QX ls a<QX ls b):=by
 intro k
 induction k with
 |zero=>intro _;simp[ig]
 |succ k ih=>
  intro hk;have ih:=ih (by omega);rw[jK];obtain⟨l,hl⟩:=ai (show k<ls.length by omega);unfold mU;rw[hl];simp only;cases hp:l.aA with
  |false=>simpa using ih
  |true=>
   simp only[if_true];unfold zc;have hm:=fun {x:Nat} (hx:x∈ig ls k)=>(Cn (ls:=ls) (k:=k) (by omega)).1 hx;refine Ii ih (fun x hx=>?_) (fun x hx e=>?_)
   .obtain⟨h1,m,hm,hmp⟩:=hm hx;rw[sU hm hmp,sU hl hp];unfold mR;rw[hm,hl];simp only;have:=WQ (h.d9 m (aab hm) hmp) (h.d9 l (aab hl) hp);cases hb:y8 m l with
    |true=>simpa using this.1 hb
    |false=>symm;rw[decide_eq_false_iff_not];intro hc;rw[this.2 hc] at hb;cases hb
   obtain⟨h1,m,hm,hmp⟩:=hm hx;rw[sU hm hmp,sU hl hp] at e;have:=h.inj x k m l hm hl hmp hp e;omega
theorem MR{ls:List Let}:∀k,k<=ls.length->(ig ls k).length=ao Let.aA (ls.take k):=by
 intro k
 induction k with
 |zero=>intro _;simp[ig,ao]
 |succ k ih=>
  intro hk;have ih:=ih (by omega);rw[jK];obtain⟨l,hl⟩:=ai (show k<ls.length by omega);unfold mU;rw[hl];simp only;cases hp:l.aA with
  |false=>rw[bJ hl hp];simpa using ih
  |true=>simp only[if_true];rw[Pf,fC hl hp,ih]
theorem jJ{ls:List Let}:(aa ls).length=ao Let.aA ls:=by have:=MR (ls:=ls) ls.length (aad _);rwa[aaV] at this
theorem wU{ls:List Let}(h:jc F ls):bk ls (F+1)=(aa ls).length:=by
 rw[jJ,zB];apply adM;intro l hl;cases hp:l.aA with
 |false=>simp
 |true=>have:=h l hl hp;simp only[adb,aaf,decide_eq_true_eq,iff_true];omega
theorem DW.jc{ls:List Let}(h:DW F ls):jc F ls:=fun l hl hp=>⟨(h.d9 l hl hp).g0,(h.d9 l hl hp).g1⟩
theorem jr{ls:List Let}(h:DW F ls){k i:Nat}(hk:(aa ls)[k]?=some i):∃l,ls[i]?=some l/\l.aA=true/\dk ls l=k:=by
 have hs:((aa ls).map (QX ls)).Pairwise (· < ·):=by rw[acu];exact uL h ls.length (aad _)
 have hT:=wU h.jc;have Ye:∀x∈(aa ls).map (QX ls),x<((aa ls).map (QX ls)).length:=by intro x hx;obtain⟨j,hj,rfl⟩:=aan.1 hx;obtain⟨l,hl,hp⟩:=dK.1 hj;rw[sU hl hp,aah,<- hT];exact Vn (h.d9 l (aab hl) hp)
 obtain⟨Yw,hk2⟩:=aac.1 hk;have:=CK hs Ye k (by rw[aah];exact Yw);rw[ac5,hk2] at this;obtain⟨l,hl,hp⟩:=dK.1 (aab hk);exact⟨l,hl,hp,by rw[<- sU hl hp];exact this⟩
theorem tA{ls:List Let}(h:DW F ls){i:Nat}{l:Let}(hl:ls[i]?=some l)(hp:l.aA=true):(aa ls)[dk ls l]?=some i:=by have Ye:=Vn (h.d9 l (aab hl) hp);rw[wU h.jc] at Ye;obtain⟨j,hj⟩:=ai Ye;obtain⟨m,hm,hmp,he⟩:=jr h hj;rw[hj,h.inj j i m l hm hl hmp hp he]
theorem nT{ls:List Let}(h:DW F ls){i:Nat}{l:Let}(hl:ls[i]?=some l)(hp:l.aA=true):(aa ls).idxOf i=dk ls l:=by have h1:=tA h hl hp;have h2:=B2 (aab h1);obtain⟨m,hm,hmp,he⟩:=jr h h2;rw[hl] at hm;cases hm;exact he.symm
theorem Qw{ls:List Let}(h:DW F ls):qU ls (bk ls (F+1)) ls.length=aa ls:=by
 apply ack
 .rw[GN,wU h.jc]
 intro k h1 h2;simp only[qU,ac5,adG];obtain⟨l,hl,hp,he⟩:=jr h (abC h2);generalize (aa ls)[k]=i at hl;unfold XY;have hin:=(aac.1 hl).1;have hf:(List.range ls.length).find? (j5 ls k)=some i:=by
  refine fV hin (fun j hj=>?_) ?_
  .cases hh:j5 ls k j with
   |false=>rfl
   |true=>
    unfold j5 at hh;split at hh
    .rename_i m hm;simp only[aaf,beq_iff_eq] at hh;have:=h.inj j i m l hm hl hh.1 hp (by rw[hh.2,he]);omega
    cases hh
  rw[qH hl hp];simp[he]
 rw[hf];rfl
theorem rB{ls:List Let}(hr:dN ls=true){i:Nat}{l:Let}(hl:ls[i]?=some l)(hc:l.aw=true):fy ls ls.length l.id (!l.over)=some (bQ ls i)/\bQ ls i<ls.length:=by
 have aen:=CH ls;unfold dN at hr;simp only[aaf,beq_iff_eq,aaP,aav] at hr;obtain⟨⟨he,hx⟩,hlen⟩:=hr;obtain⟨hid,hp⟩:=xK.1 hx;have hle:∀id∈dR ls ls.length,ao (jE id) ls<=2:=fun id _=>by rw[oJ id];have:=jP hp id true;have:=jP hp id false;omega
 have h2:=KM _ hle (by rw[aen,hlen];omega) l.id (rL (aab hl) hc);have e1:=qG l.id l.over ls;have b1:=jP hp l.id l.over;have b2:=jP hp l.id (!l.over);obtain⟨x,hx,hxp⟩:=acI.1 (show 0<ls.countP (pX l.id (!l.over)) by show 0<ao (pX l.id (!l.over)) ls;omega);obtain⟨p,ZZ⟩:=aaO hx;obtain⟨x1,x2,x3⟩:=dE.1 hxp;have hpn:=(aac.1 ZZ).1;have ZI:p≠i:=by
  rintro rfl
  rw[hl] at ZZ;cases ZZ;revert x3;cases l.over<;>simp
 have uniq:∀(j:Nat) (m:Let),ls[j]?=some m->m.aw=true->m.id=l.id->j≠i->j=p:=by intro j m hj mc mi hji;refine Decidable.byContradiction fun Yk=>?_;have o1:=(hp j i m l hj hl mc hc mi hji).1;have o2:=(hp j p m x hj ZZ mc x1 (by rw[mi,x2]) Yk).1;rw[x3] at o2;revert o1 o2;cases m.over<;>cases l.over<;>simp
 have hfo:(List.range ls.length).find? (lM ls i)=some p:=by
  refine fV hpn (fun j hj=>?_) ?_
  .cases hh:lM ls i j with
   |false=>rfl
   |true=>
    unfold lM at hh;simp only[aaf,bne_iff_ne,ne_eq] at hh;obtain⟨h1,h2⟩:=hh;split at h2
    .rename_i m hm;simp only[aaf,beq_iff_eq,hl,abf,aaS] at h2;have:=uniq j m hm h2.1 h2.2 h1;omega
    cases h2
  unfold lM;rw[ZZ];simp[ZI,x1,hl,x2]
 have ho:bQ ls i=p:=by unfold bQ;rw[hfo];rfl
 rw[ho];refine⟨?_,hpn⟩;unfold fy;refine fV hpn (fun j hj=>?_) ?_
 .cases hh:Dz ls l.id (!l.over) j with
  |false=>rfl
  |true=>
   obtain⟨m,hm,mc,mi,mo⟩:=iJ hh;have hji:j≠i:=by
    rintro rfl
    rw[hl] at hm;cases hm;revert mo;cases l.over<;>simp
   have:=uniq j m hm mc mi hji;omega
 rw[nA ZZ];exact hxp
end
end Go.Abs
